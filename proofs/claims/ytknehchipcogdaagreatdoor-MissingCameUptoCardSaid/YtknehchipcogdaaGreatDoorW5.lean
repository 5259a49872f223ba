import Derived.Test.YtknehchipcogdaaGreatDoorW4
/- A part of the proof of MissingCame. -/
set_option linter.unusedVariables false
set_option linter.unusedSimpArgs false
set_option maxRecDepth 100000
open Go.Sg.HF renaming le_trans→kA,le_refl→qF,le→jL
open List renaming toArray→kB,append_assoc→zC,range→zD,perm_append_comm→jF,map_cons→kG,cons_append→jJ
open Go.Value renaming int→jC,bool→jV
open Go.Sg.OSeat renaming cells→xF,enc→xV,mk→YF
open Nat renaming zero_le→jH,blt→qJ,eq_of_beq_eq_true→vM,beq→Yu,ble→Zt
open Bool renaming eq_iff_iff→jK
open Go.Addr renaming add→xP
open Option.some renaming injEq→kP
open Go.Sg.Budget renaming rp→xS,cells→vS,mk→aAf
open Go.Sg.Register renaming mk→Y3
open Go.Region renaming binds→Zf
open Go.Instr renaming fill→ZL
open Array renaming range→aAr

namespace Go.Sg
variable {X:Cx}{b:Frame}{dn dn':List Nat}{ds:List Deferred}{e e':Env}{h:HF}{k:List Item}{l:List Oper}{m m' n:Nat}{ops:Array Oper}
section
open Go.Proofs Go.Proofs.Tryz
theorem ty224:tySz prog 224=some (1,false):=kr
theorem ty280:tySz prog 280=some (1,false):=kr
theorem ty288:tySz prog 288=some (1,false):=kr
theorem ty325:tySz prog 325=some (2,true):=kr
theorem ty31:tySz prog 31=some (1,false):=kr
theorem ty351:tySz prog 351=some (1,false):=kr
theorem ty3:tySz prog 3=some (1,false):=kr
theorem zc325:zeroC prog 325=some [.int .i64 0,.int .i64 0]:=kr
theorem bytes325:bytesOf prog 325=some 16:=kr
theorem zc3:zeroC prog 3=some [.int .i64 0]:=kr
theorem bytes3:bytesOf prog 3=some 8:=kr
theorem zc37:zeroC prog 37=some [.int .i64 0]:=kr
theorem ty37:tySz prog 37=some (1,false):=kr
theorem zc375:zeroC prog 375=some [.int .i64 0]:=kr
theorem ty375:tySz prog 375=some (1,true):=kr
theorem UI:fldOf prog 375 0=some 0:=kr
theorem ty329:tySz prog 329=some (2,true):=kr
theorem ty327:tySz prog 327=some (1,false):=kr
theorem ty326:tySz prog 326=some (1,false):=kr
theorem ty330:tySz prog 330=some (1,false):=kr
theorem ty78:tySz prog 78=some (7,true):=kr
theorem ty24:tySz prog 24=some (1,false):=kr
theorem ty4:tySz prog 4=some (1,false):=kr
theorem ty26:tySz prog 26=some (1,false):=kr
theorem zc329:zeroC prog 329=some [.slice none 0 0,.int .i64 0]:=kr
theorem zc78:zeroC prog 78=some [.int .i64 0,.int .i64 0,.int .i64 0,.int .i64 0,.int .i64 0,.bool false,.bool false]:=kr
theorem zc326:zeroC prog 326=some [.map none]:=kr
theorem zc224:zeroC prog 224=some [.map none]:=kr
theorem zc327:zeroC prog 327=some [.chan none]:=kr
theorem zc330:zeroC prog 330=some [.nilFunc]:=kr
theorem zc31:zeroC prog 31=some [.slice none 0 0]:=kr
theorem zv4:zeroV prog 4=some (.bool false):=kr
theorem zv24:zeroV prog 24=some (.slice none 0 0):=kr
theorem zv329:zeroV prog 329=some (.agg (kB [.slice none 0 0,.int .i64 0])):=kr
theorem bytes78:bytesOf prog 78=some 48:=kr
theorem bytes329:bytesOf prog 329=some 32:=kr
theorem UJ:fldOf prog 329 0=some 0:=kr
theorem VS:fldOf prog 78 0=some 0:=kr
theorem RD:fldOf prog 78 3=some 3:=kr
theorem VR:fldOf prog 78 4=some 4:=kr
theorem UK:fldOf prog 284 1=some 1:=kr
theorem zc218:zeroC prog 218=some [.slice none 0 0,.map none,.slice none 0 0,.slice none 0 0,.slice none 0 0,.map none]:=kr
theorem ty153:tySz prog 153=some (1,false):=kr
theorem zc153:zeroC prog 153=some [.pointer none]:=kr
theorem ty133:tySz prog 133=some (1,false):=kr
theorem ty168:tySz prog 168=some (1,false):=kr
theorem ty54:tySz prog 54=some (41,true):=kr
theorem zc54:zeroC prog 54=some (.int .i64 0::.int .i64 0::.int .i64 0::.int .i64 0::.int .i64 0::.int .i64 0::.slice none 0 0::.slice none 0 0::.slice none 0 0::.int .u8 0::.int .u8 0::.int .u8 0::.int .u8 0::.int .u8 0::.int .u8 0::.int .u8 0::.int .u8 0::.int .u8 0::.int .u8 0::.int .u8 0::.int .u8 0::.int .u8 0::.int .u8 0::.int .u8 0::.int .u8 0::.int .u8 0::.int .u8 0::.int .u8 0::.int .u8 0::.int .u8 0::.int .u8 0::.int .u8 0::.int .u8 0::.int .u8 0::.int .u8 0::.int .u8 0::.int .u8 0::.int .u8 0::.int .u8 0::.int .u8 0::.int .u8 0::[]):=kr
theorem ty183:tySz prog 183=some (1,false):=kr
theorem bytes4:bytesOf prog 4=some 1:=kr
theorem UL:fldOf prog 218 3=some 4:=kr
theorem VV:fldOf prog 54 7=some 7:=kr
theorem VU:fldOf prog 54 8=some 8:=kr
theorem Ez:fldOf prog 36 0=some 0:=kr
theorem RE:fldOf prog 36 1=some 1:=kr
theorem VZ:fldOf prog 36 2=some 2:=kr
theorem Ey:fldOf prog 36 3=some 3:=kr
theorem Ho:fldOf prog 94 0=some 0:=kr
theorem Hn:fldOf prog 94 1=some 1:=kr
theorem ty36:tySz prog 36=some (4,true):=kr
theorem ty94:tySz prog 94=some (2,true):=kr
theorem ty33:tySz prog 33=some (1,false):=kr
theorem ty91:tySz prog 91=some (50,true):=kr
theorem ty25:tySz prog 25=some (1,false):=kr
theorem ty32:tySz prog 32=some (1,false):=kr
theorem ty61:tySz prog 61=some (10,true):=kr
theorem zc36:zeroC prog 36=some [.int .i64 0,.int .i64 0,.slice none 0 0,.slice none 0 0]:=kr
theorem zc94:zeroC prog 94=some [.int .i64 0,.nilFunc]:=kr
theorem zc91:zeroC prog 91=some (.slice none 0 0::.slice none 0 0::.slice none 0 0::.slice none 0 0::.slice none 0 0::.slice none 0 0::.slice none 0 0::.int .i64 0::.int .i64 0::.int .i64 0::.int .i64 0::.int .i64 0::.int .i64 0::.slice none 0 0::.slice none 0 0::.slice none 0 0::.int .u8 0::.int .u8 0::.int .u8 0::.int .u8 0::.int .u8 0::.int .u8 0::.int .u8 0::.int .u8 0::.int .u8 0::.int .u8 0::.int .u8 0::.int .u8 0::.int .u8 0::.int .u8 0::.int .u8 0::.int .u8 0::.int .u8 0::.int .u8 0::.int .u8 0::.int .u8 0::.int .u8 0::.int .u8 0::.int .u8 0::.int .u8 0::.int .u8 0::.int .u8 0::.int .u8 0::.int .u8 0::.int .u8 0::.int .u8 0::.int .u8 0::.int .u8 0::.int .i64 0::.int .i64 0::[]):=kr
theorem zc61:zeroC prog 61=some [.string (⟨#[]⟩:ByteArray),.slice none 0 0,.slice none 0 0,.slice none 0 0,.int .i64 0,.int .i64 0,.int .i64 0,.string (⟨#[]⟩:ByteArray),.slice none 0 0,.int .i64 0]:=kr
theorem zc4:zeroC prog 4=some [.bool false]:=kr
theorem RF:fldOf prog 30 3=some 3:=kr
theorem V1:fldOf prog 30 4=some 4:=kr
theorem V0:fldOf prog 30 5=some 5:=kr
theorem VQ:fldOf prog 91 0=some 0:=kr
theorem M8:fldOf prog 91 1=some 7:=kr
theorem VP:fldOf prog 91 2=some 48:=kr
theorem VO:fldOf prog 91 3=some 49:=kr
theorem VY:fldOf prog 54 1=some 1:=kr
theorem VX:fldOf prog 54 2=some 2:=kr
theorem VW:fldOf prog 54 3=some 3:=kr
theorem ty115:tySz prog 115=some (5,true):=kr
theorem ty93:tySz prog 93=some (1,false):=kr
theorem ty195:tySz prog 195=some (1,false):=kr
theorem ty44:tySz prog 44=some (1,false):=kr
theorem ty240:tySz prog 240=some (1,false):=kr
theorem zc93:zeroC prog 93=some [.nilFunc]:=kr
theorem zc44:zeroC prog 44=some [.slice none 0 0]:=kr
theorem bytes93:bytesOf prog 93=some 8:=kr
theorem VT:fldOf prog 76 2=some 2:=kr
theorem ty76:tySz prog 76=some (7,true):=kr
theorem zc76:zeroC prog 76=some [.int .i64 0,.int .i64 0,.int .i64 0,.int .i64 0,.int .i64 0,.int .i64 0,.bool false]:=kr
theorem ty150:tySz prog 150=some (10,true):=kr
theorem zc150:zeroC prog 150=some [.int .i64 0,.int .i64 0,.int .i64 0,.int .i64 0,.int .i64 0,.int .i64 0,.int .i64 0,.int .i64 0,.int .i64 0,.bool false]:=kr
theorem ty81:tySz prog 81=some (8,true):=kr
theorem zc81:zeroC prog 81=some [.int .i64 0,.int .i64 0,.int .i64 0,.int .i64 0,.int .i64 0,.int .i64 0,.int .i64 0,.bool false]:=kr
theorem ty59:tySz prog 59=some (5,true):=kr
theorem zc316:zeroC prog 316=some [.int .i64 0,.int .i64 0,.int .i64 0,.string (⟨#[]⟩:ByteArray),.slice none 0 0,.int .i64 0]:=kr
theorem ty57:tySz prog 57=some (1,false):=kr
theorem zc59:zeroC prog 59=some [.int .i64 0,.int .i64 0,.int .i64 0,.string (⟨#[]⟩:ByteArray),.slice none 0 0]:=kr
theorem ty316:tySz prog 316=some (6,true):=kr
theorem ty56:tySz prog 56=some (1,false):=kr
theorem ty65:tySz prog 65=some (8,true):=kr
theorem zc65:zeroC prog 65=some [.string (⟨#[]⟩:ByteArray),.int .i64 0,.int .i64 0,.int .i64 0,.int .i64 0,.int .i64 0,.string (⟨#[]⟩:ByteArray),.slice none 0 0]:=kr
theorem bytes59:bytesOf prog 59=some 64:=kr
theorem ty55:tySz prog 55=some (1,false):=kr
theorem ty9:tySz prog 9=some (1,false):=kr
theorem zc57:zeroC prog 57=some [.slice none 0 0]:=kr
theorem ty293:tySz prog 293=some (1,false):=kr
theorem bytes65:bytesOf prog 65=some 96:=kr
theorem ty63:tySz prog 63=some (13,true):=kr
theorem zc63:zeroC prog 63=some [.int .i64 0,.int .i64 0,.int .i64 0,.string (⟨#[]⟩:ByteArray),.slice none 0 0,.slice none 0 0,.slice none 0 0,.int .i64 0,.int .i64 0,.int .i64 0,.string (⟨#[]⟩:ByteArray),.slice none 0 0,.int .i64 0]:=kr
theorem zv3:zeroV prog 3=some (.int .i64 0):=kr
theorem ty67:tySz prog 67=some (8,true):=kr
theorem zc67:zeroC prog 67=some [.int .i64 0,.int .i64 0,.int .i64 0,.int .i64 0,.int .i64 0,.int .i64 0,.int .i64 0,.bool false]:=kr
theorem ty22:tySz prog 22=some (1,false):=kr
theorem ty23:tySz prog 23=some (1,false):=kr
theorem ty27:tySz prog 27=some (1,false):=kr
theorem ty28:tySz prog 28=some (1,false):=kr
theorem ty30:tySz prog 30=some (7,true):=kr
theorem zv76:zeroV prog 76=some (.agg (kB [.int .i64 0,.int .i64 0,.int .i64 0,.int .i64 0,.int .i64 0,.int .i64 0,.bool false])):=kr
theorem zc28:zeroC prog 28=some [.slice none 0 0]:=kr
theorem zc391:zeroC prog 391=some [.map none]:=kr
theorem ty391:tySz prog 391=some (1,false):=kr
theorem zv67:zeroV prog 67=some (.agg (kB [.int .i64 0,.int .i64 0,.int .i64 0,.int .i64 0,.int .i64 0,.int .i64 0,.int .i64 0,.bool false])):=kr
theorem eqg67:prog.eqGuardType prog.depth 67=false:=kr
theorem bytes67:bytesOf prog 67=some 64:=kr
theorem ty398:tySz prog 398=some (1,false):=kr
theorem zc400:zeroC prog 400=some [.int .i64 0,.int .i64 0,.int .i64 0,.int .i64 0]:=kr
theorem zv150:zeroV prog 150=some (.agg (kB [.int .i64 0,.int .i64 0,.int .i64 0,.int .i64 0,.int .i64 0,.int .i64 0,.int .i64 0,.int .i64 0,.int .i64 0,.bool false])):=kr
theorem eqg150:prog.eqGuardType prog.depth 150=false:=kr
theorem ty178:tySz prog 178=some (1,false):=kr
theorem ty341:tySz prog 341=some (5,true):=kr
theorem zc178:zeroC prog 178=some [.nilFunc]:=kr
theorem zc398:zeroC prog 398=some [.map none]:=kr
theorem ty400:tySz prog 400=some (4,true):=kr
theorem zc341:zeroC prog 341=some [.int .i64 0,.int .i64 0,.int .i64 0,.int .i64 0,.int .i64 0]:=kr
theorem zv78:zeroV prog 78=some (.agg (kB [.int .i64 0,.int .i64 0,.int .i64 0,.int .i64 0,.int .i64 0,.bool false,.bool false])):=kr
theorem eqg78:prog.eqGuardType prog.depth 78=false:=kr
theorem zv31:zeroV prog 31=some (.slice none 0 0):=kr
theorem zv81:zeroV prog 81=some (.agg (kB [.int .i64 0,.int .i64 0,.int .i64 0,.int .i64 0,.int .i64 0,.int .i64 0,.int .i64 0,.bool false])):=kr
theorem eqg81:prog.eqGuardType prog.depth 81=false:=kr
theorem zv63:zeroV prog 63=some (.agg (kB [.int .i64 0,.int .i64 0,.int .i64 0,.string (⟨#[]⟩:ByteArray),.slice none 0 0,.slice none 0 0,.slice none 0 0,.int .i64 0,.int .i64 0,.int .i64 0,.string (⟨#[]⟩:ByteArray),.slice none 0 0,.int .i64 0])):=kr
theorem zc26:zeroC prog 26=some [.slice none 0 0]:=kr
theorem bytes63:bytesOf prog 63=some 184:=kr
theorem zv237:zeroV prog 237=some (.nilFunc):=kr
theorem zc284:zeroC prog 284=some [.int .i64 0,.int .i64 0]:=kr
theorem ty284:tySz prog 284=some (2,true):=kr
theorem ty241:tySz prog 241=some (1,false):=kr
theorem ty292:tySz prog 292=some (3,true):=kr
theorem zc409:zeroC prog 409=some [.nilFunc]:=kr
theorem ty409:tySz prog 409=some (1,false):=kr
theorem zc360:zeroC prog 360=some [.nilFunc,.nilFunc,.nilFunc,.nilFunc,.nilFunc]:=kr
theorem ty359:tySz prog 359=some (1,false):=kr
theorem ty360:tySz prog 360=some (5,true):=kr
theorem zc292:zeroC prog 292=some [.int .i64 0,.slice none 0 0,.slice none 0 0]:=kr
theorem zc241:zeroC prog 241=some [.slice none 0 0]:=kr
theorem bytes241:bytesOf prog 241=some 24:=kr
theorem zc9:zeroC prog 9=some [.string (⟨#[]⟩:ByteArray)]:=kr
theorem zc30:zeroC prog 30=some [.slice none 0 0,.slice none 0 0,.slice none 0 0,.slice none 0 0,.slice none 0 0,.slice none 0 0,.slice none 0 0]:=kr
theorem zc69:zeroC prog 69=some [.int .i64 0,.int .i64 0]:=kr
theorem ty69:tySz prog 69=some (2,true):=kr
theorem bytes69:bytesOf prog 69=some 16:=kr
theorem eqg69:prog.eqGuardType prog.depth 69=false:=kr
theorem bytes76:bytesOf prog 76=some 56:=kr
def yA(x:gu)(h:HF)(vs:List Go.Value):Prop:=∃(r0:zz),vs=[.agg (gu.cells x r0).toArray]/\gu.ok h x r0
theorem xz(x:gu)(h:HF)(vs:List Go.Value)(e:yA x h vs):vs.length=1:=by
 obtain⟨_,e,_⟩:=e;rw[e];rfl
def Bm(x:(Int×Int))(h:HF)(vs:List Go.Value):Prop:=vs=[.int .i64 x.1,.int .i64 x.2]
theorem zX(x:(Int×Int))(h:HF)(vs:List Go.Value)(e:Bm x h vs):vs.length=2:=by
 rw[e];rfl
def rR(x:ai)(h:HF)(vs:List Go.Value):Prop:=vs=[.agg (ai.cells x).toArray]
theorem pL(x:ai)(h:HF)(vs:List Go.Value)(e:rR x h vs):vs.length=1:=by
 rw[e];rfl
def wh(x:bj)(h:HF)(vs:List Go.Value):Prop:=vs=[.agg (bj.cells x).toArray]
theorem IU(x:bj)(h:HF)(vs:List Go.Value)(e:wh x h vs):vs.length=1:=by
 rw[e];rfl
def zk(x:aG)(h:HF)(vs:List Go.Value):Prop:=vs=[.agg (aG.cells x).toArray]
theorem yB(x:aG)(h:HF)(vs:List Go.Value)(e:zk x h vs):vs.length=1:=by
 rw[e];rfl
def te(x:Int)(h:HF)(vs:List Go.Value):Prop:=vs=[.int .i64 x]
theorem Bl(x:Int)(h:HF)(vs:List Go.Value)(e:te x h vs):vs.length=1:=by
 rw[e];rfl
def ug(x:(Int×aD))(h:HF)(vs:List Go.Value):Prop:=∃(r0:nP),vs=[.int .i64 x.1,.agg (aD.cells x.2 r0).toArray]/\aD.ok h x.2 r0
theorem uu(x:(Int×aD))(h:HF)(vs:List Go.Value)(e:ug x h vs):vs.length=2:=by
 obtain⟨_,e,_⟩:=e;rw[e];rfl
def qI(x:cm)(h:HF)(vs:List Go.Value):Prop:=vs=[.agg (cm.cells x).toArray]
theorem Bn(x:cm)(h:HF)(vs:List Go.Value)(e:qI x h vs):vs.length=1:=by
 rw[e];rfl
def Sv(x:OSeat)(h:HF)(vs:List Go.Value):Prop:=vs=[.agg (xF x).toArray]
theorem Nc(a b:ai)(w:World):(Op.equal 67 (ai.enc a) (ai.enc b)).run prog w=.ok (decide (a=b)) w:=
 s8 Tl (by kernel_rfl) (by kernel_rfl) (by rw[jK];cases a;cases b;simp[eqv,nth,ai.cells]) w
theorem O8(a b:eQ)(w:World):(Op.equal 69 (eQ.enc a) (eQ.enc b)).run prog w=.ok (decide (a=b)) w:=
 s8 underlying69 (by kernel_rfl) (by kernel_rfl) (by rw[jK];cases a;cases b;simp[eqv,nth,eQ.cells]) w
theorem M9(a b:aG)(w:World):(Op.equal 78 (aG.enc a) (aG.enc b)).run prog w=.ok (decide (a=b)) w:=
 s8 underlying78 (by kernel_rfl) (by kernel_rfl) (by rw[jK];cases a;cases b;simp[eqv,nth,aG.cells]) w
theorem Qq(a b:Budget)(w:World):(Op.equal 81 (Budget.enc a) (Budget.enc b)).run prog w=.ok (decide (a=b)) w:=
 s8 underlying81 (by kernel_rfl) (by kernel_rfl) (by rw[jK];cases a;cases b;simp[eqv,nth,vS]) w
theorem Qp(a b:bj)(w:World):(Op.equal 150 (bj.enc a) (bj.enc b)).run prog w=.ok (decide (a=b)) w:=
 s8 underlying150 (by kernel_rfl) (by kernel_rfl) (by rw[jK];cases a;cases b;simp[eqv,nth,bj.cells]) w
theorem Qr(a b:gq)(w:World):(Op.equal 229 (gq.enc a) (gq.enc b)).run prog w=.ok (decide (a=b)) w:=
 s8 underlying229 (by kernel_rfl) (by kernel_rfl) (by rw[jK];cases a;cases b;simp[eqv,nth,gq.cells]) w
theorem OC:zI prog 229 gq.enc:=Bc underlying229 (λe a w=>vz e underlying229 (by kernel_rfl) w) Qr (λa=>by
 show Instr.sameBits (9999+1) _ _=true
 simp[Instr.sameBits,gq.enc,gq.cells])
theorem SD(a b:OSeat)(w:World):(Op.equal 325 (xV a) (xV b)).run prog w=.ok (decide (a=b)) w:=
 s8 QS (by kernel_rfl) (by kernel_rfl) (by rw[jK];cases a;cases b;simp[eqv,nth,xF]) w
theorem IP:zI prog 325 xV:=Bc QS (λe a w=>vz e QS (by kernel_rfl) w) SD (λa=>by
 show Instr.sameBits (9999+1) _ _=true
 simp[Instr.sameBits,xV,xF])
theorem Na(a b:eR)(w:World):(Op.equal 386 (eR.enc a) (eR.enc b)).run prog w=.ok (decide (a=b)) w:=
 s8 underlying386 (by kernel_rfl) (by kernel_rfl) (by rw[jK];cases a;cases b;simp[eqv,nth,eR.cells]) w
theorem KA:zI prog 386 eR.enc:=Bc underlying386 (λe a w=>vz e underlying386 (by kernel_rfl) w) Na (λa=>by
 show Instr.sameBits (9999+1) _ _=true
 simp[Instr.sameBits,eR.enc,eR.cells])
theorem Nd(a b:eE)(w:World):(Op.equal 395 (eE.enc a) (eE.enc b)).run prog w=.ok (decide (a=b)) w:=
 s8 underlying395 (by kernel_rfl) (by kernel_rfl) (by rw[jK];cases a;cases b;simp[eqv,nth,eE.cells]) w
theorem oN:zI prog 395 eE.enc:=Bc underlying395 (λe a w=>vz e underlying395 (by kernel_rfl) w) Nd (λa=>by
 show Instr.sameBits (9999+1) _ _=true
 simp[Instr.sameBits,eE.enc,eE.cells])
theorem Nb(a b:et)(w:World):(Op.equal 400 (et.enc a) (et.enc b)).run prog w=.ok (decide (a=b)) w:=
 s8 Ti (by kernel_rfl) (by kernel_rfl) (by rw[jK];cases a;cases b;simp[eqv,nth,et.cells]) w
theorem xr:zI prog 400 et.enc:=Bc Ti (λe a w=>vz e Ti (by kernel_rfl) w) Nb (λa=>by
 show Instr.sameBits (9999+1) _ _=true
 simp[Instr.sameBits,et.enc,et.cells])
def tabF:List (Nat×Nat×Nat):=(375,0,0)::(329,0,0)::(329,1,1)::(78,0,0)::(78,3,3)::(78,4,4)::(78,5,5)::(284,1,1)::(275,0,0)::(275,1,1)::(218,0,0)::(218,1,2)::(218,2,3)::(218,3,4)::(218,4,5)::(185,0,0)::(185,1,1)::(54,0,0)::(54,7,7)::(54,8,8)::(36,0,0)::(36,1,1)::(36,2,2)::(36,3,3)::(94,0,0)::(94,1,1)::(30,3,3)::(30,4,4)::(30,5,5)::(91,0,0)::(91,1,7)::(91,2,48)::(91,3,49)::(54,1,1)::(54,2,2)::(54,3,3)::(115,0,0)::(115,1,1)::(115,2,2)::(115,3,3)::(115,4,4)::(76,6,6)::(76,0,0)::(76,1,1)::(76,2,2)::(76,3,3)::(76,4,4)::(76,5,5)::(150,0,0)::(150,1,1)::(150,2,2)::(150,4,4)::(150,5,5)::(150,6,6)::(150,7,7)::(150,9,9)::(150,3,3)::(150,8,8)::(78,1,1)::(78,2,2)::(81,7,7)::(81,0,0)::(81,1,1)::(81,2,2)::(81,3,3)::(81,4,4)::(81,5,5)::(81,6,6)::(59,4,4)::(61,3,3)::(65,3,3)::(61,4,4)::(61,2,2)::(61,1,1)::(316,1,5)::(59,0,0)::(61,0,0)::(316,0,0)::(59,3,3)::(59,1,1)::(61,5,9)::(65,0,0)::(65,2,2)::(59,2,2)::(65,1,1)::(63,0,0)::(63,1,1)::(63,2,2)::(63,3,3)::(54,4,4)::(54,5,5)::(54,6,6)::(67,0,0)::(67,1,1)::(67,2,2)::(67,3,3)::(67,4,4)::(67,5,5)::(67,6,6)::(30,0,0)::(30,1,1)::(30,2,2)::(30,6,6)::(67,7,7)::(341,0,0)::(341,1,1)::(341,2,2)::(341,3,3)::(341,4,4)::(78,6,6)::(226,0,0)::(226,1,1)::(226,2,2)::(226,3,3)::(226,4,4)::(325,1,1)::(325,0,0)::(284,0,0)::(292,1,1)::(292,2,2)::(292,0,0)::(69,0,0)::(69,1,1)::[]
def tabY:List Nat:=224::280::288::31::351::3::37::327::326::330::24::4::26::256::153::133::168::183::33::25::32::93::195::44::199::240::382::57::56::55::9::293::22::23::27::28::391::398::178::384::241::409::359::130::[]
def tabS:List Nat:=22::23::24::25::26::27::28::31::32::44::55::56::57::97::110::125::168::195::199::240::241::272::351::[]
theorem tabs:tabOk prog tabF tabY tabS=true:=kr
theorem qK(m:Nat)(is:List Nat){F:List Frame->(Machine->Prop)->Prop}{L:LH}{s:Qs}{q:List (Nat×Nat)}(hr:runL tabF tabY tabS n L m is (.tt k e)=some (s,q))(t:s.holds prog b n F ds X h L)(hq:V9 q:=by repeat (first|exact trivial|refine⟨rfl,?_⟩)):TT prog b n k F e ds X h L:=uG tabs m is _ hr hq t
theorem qL(m:Nat)(is:List Nat){F:List Frame->(Machine->Prop)->Prop}{L:LH}{s:Qs}{q:List (Nat×Nat)}(hr:runL tabF tabY tabS n L m is (.to ops l k e)=some (s,q))(t:s.holds prog b n F ds X h L)(hq:V9 q:=by repeat (first|exact trivial|refine⟨rfl,?_⟩)):TO prog b n ops l k F e ds X h L:=uG tabs m is _ hr hq t
theorem tabsF:(tabF.all λx=>fldOf prog x.1 x.2.1==some x.2.2)=true:=kr
theorem qB(is:List Nat){h1:HF}{K:LH}{F:List Frame->(Machine->Prop)->Prop}{L:LH}(hr:runB tabF l is m dn e=some (m',dn',e'))(t:TA prog b n l.toArray k F ds X (Jst h1 K) m' dn' e' h L)(hsep:sepAll l.toArray=true:=by assumption)(hJ:Jst h1 K h L:=by exact jn)(hn:allNext l is dn=true:=by kernel_rfl):TA prog b n l.toArray k F ds X (Jst h1 K) m dn e h L:=Mu tabsF hsep hJ is m dn e hr hn t
theorem mixed:prog.follows .mixedOrders=true:=kr
end
variable {E u:TypeId}{G L':LH}{K S:List Nat}{P:Program}{T bk cap i id ix s:Nat}{ass:Array Operand}{ats:Array TypeId}{base:Option Addr}{c:Code}{cl:List Go.Value}{f:FuncId}{fz:Nat×Nat}{gd:Bool}{h' h00 hh:HF}{it v:Go.Value}{o:Operand}{op:Op}{p:Prop}{pe:Int->Go.Value}{pl:List (Nat×Nat)}{tF:List (Nat×Nat×Nat)}{tS:List (Nat×Bool)}{todo:List Item}{α β γ ρ:Type}{Lf:List α->Nat->γ->ρ}{R:Rp α}{ac:γ->List (Nat×Go.Value)}{f':ρ->Go.Value}{g0:γ}{r:ρ}{val:α->HF->List Go.Value->Prop}{x0:ρ}{xs:List α}{y:α}
section
def lookN{β : Type}:List (Nat×β)->Nat->Option β
 |[],_=>none
 |(a,b)::l,t=>bif Yu a t then some b else lookN l t
theorem tabq{β : Type}{f:Nat->Option β}:∀{tab:List (Nat×β)},tab.map (λx=>f x.1)=tab.map (λx=>some x.2)->∀{t:Nat}{v:β},lookN tab t=some v->f t=some v
 |[],_,t,v,h=>by cases h
 |(a,b)::l,hm,t,v,h=>by
  unfold lookN at h
  simp only[kG,List.cons.injEq]at hm
  cases hb:Yu a t with
  |true=>rw[hb]at h;cases h;rw[←vM hb];exact hm.1
  |false=>rw[hb]at h;exact tabq hm.2 h
def sliceE(P:Program)(t:Nat):Option Nat:=match P.underlying t with
 |some (.slice E)=>some E
 |_=>none
theorem rf{t E:Nat}(h:sliceE P t=some E):P.underlying t=some (.slice E):=by
 unfold sliceE at h;split at h
 .cases h;assumption
 .cases h
def lenK(P:Program)(t:Nat):Option Bool:=match P.underlying t with
 |some (.slice _)=>some true
 |some .string=>some false
 |_=>none
theorem WX{t:Nat}(h:lenK P t=some true):∃E,P.underlying t=some (.slice E):=by
 unfold lenK at h;split at h
 .exact⟨_,by assumption⟩
 .cases h
 .cases h
theorem Ue{t:Nat}(h:lenK P t=some false):P.underlying t=some .string:=by
 unfold lenK at h;split at h
 .cases h
 .assumption
 .cases h
def intK(P:Program)(t:Nat):Option IntKind:=match P.underlying t with
 |some (.int k)=>some k
 |_=>none
theorem Rl{t:Nat}{k:IntKind}(h:intK P t=some k):P.underlying t=some (.int k):=by
 unfold intK at h;split at h
 .cases h;assumption
 .cases h
def valM(tF:List (Nat×Nat×Nat))(tS:List (Nat×Bool))(e:Env):Op->Option Value
 |.fieldAddr s x i=>match e.ev x,look3 tF s i with
  |.pointer (some a),some off=>some (.pointer (some (a.add off)))
  |_,_=>none
 |.call ⟨.builtin .len,⟨[x]⟩,⟨[t]⟩⟩=>match e.ev x,lookN tS t with
  |.slice _ m' _,some true=>some (.int .i64 (m':Int))
  |.string s,some false=>some (.int .i64 (s.size:Int))
  |_,_=>none
 |.nilCheck x=>match e.ev x with
  |.pointer (some a)=>some (.pointer (some a))
  |_=>none
 |op=>opQ e op
def isPick:Op->Bool
 |.pick _ _ _=>true
 |_=>false
def exL(id:Nat):List Item->Bool
 |.inBlock j::k=>match Yu j id with
  |true=>false
  |false=>exL id k
 |.inLoop _::_=>true
 |_::k=>exL id k
 |[]=>false
def stepM(gd:Bool)(tF:List (Nat×Nat×Nat))(tS:List (Nat×Bool))(n:Nat):Qs->Option Qs
 |.tt (.code .skip::k) e=>some (.tt k e)
 |.tt (.code (.seq x y)::k) e=>some (.tt (.code x::.code y::k) e)
 |.tt (.code (.block id c)::k) e=>match c with
  |.loop _=>none
  |c=>some (.tt (.code c::.inBlock id::k) e)
 |.tt (.inBlock _::k) e=>some (.tt k e)
 |.tt (.code (.exit id)::k) e=>match exL id k with
  |true=>none
  |false=>match exitTo id k with
   |some k'=>some (.tt k' e)
   |none=>none
 |.tt (.code (.region _ ⟨l⟩ false)::k) e=>some (.to ⟨l⟩ l k e)
 |.tt _ _=>none
 |.to _ [] k e=>some (.tt k e)
 |.to ops (⟨some d,op,ty,pos,af,g⟩::l) k e=>match qJ d n with
  |false=>none
  |true=>match gd||(g.isNone&&!isPick op)with
   |false=>none
   |true=>match guardB ops e ⟨some d,op,ty,pos,af,g⟩with
    |false=>some (.to ops l k (upd e d undef))
    |true=>match valM tF tS e op with
     |some v=>some (.to ops l k (upd e d v))
     |none=>none
 |.to _ _ _ _=>none
def runM(tF:List (Nat×Nat×Nat))(tS:List (Nat×Bool))(n:Nat):Nat->Qs->Qs
 |0,s=>s
 |m+1,s=>match stepM false tF tS n s with
  |some s'=>runM tF tS n m s'
  |none=>s
def goM(gd:Bool)(tF:List (Nat×Nat×Nat))(tS:List (Nat×Bool))(n:Nat)(m:Nat)(s:Qs):Option Qs:=match stepM gd tF tS n s with
 |some s'=>some (runM tF tS n m s')
 |none=>none
section
variable {P:Program} {b:Frame} {n:Nat} {F:List Frame->(Machine->Prop)->Prop} {ds:List Deferred} {X:Cx} {h:HF} {L:LH}
theorem Mb(hF:(tF.all λx=>fldOf P x.1 x.2.1==some x.2.2)=true)(hS:tS.map (λx=>lenK P x.1)=tS.map (λx=>some x.2))(hv:valM tF tS e op=some v):
  noDefer op=true/\∀(d:Option Nat)(ty:TypeId)(pos:String)(af:Array Edge)(g:Option (Nat×Bool))w,St X h L w->(execOp e.ev ⟨d,op,ty,pos,af,g⟩).run P w=.ok (.value v) w:=by
 unfold valM at hv
 split at hv
 .split at hv
  .next hx hl=>cases hv;exact⟨rfl,λ_ _ _ _ _ w hw=>DZ (by simpa using(List.all_eq_true.1 hF) _ (Cb hl)) hx w hw⟩
  .cases hv
 .split at hv
  .next hx hl=>cases hv;exact⟨rfl,λ_ _ _ _ _ w hw=>let ⟨_,hu⟩:=WX (tabq hS hl);Ll hu hx w hw⟩
  .next hx hl=>cases hv;exact⟨rfl,λ_ _ _ _ _ w hw=>WI (Ue (tabq hS hl)) hx w hw⟩
  .cases hv
 .split at hv
  .next hx=>cases hv;exact⟨rfl,λ_ _ _ _ _ w hw=>fU hx w hw⟩
  .cases hv
 .exact⟨(Fd (P:=P) hv).1,λ_ _ _ _ _ w _=>(Fd hv).2 _ _ _ _ _ w⟩
theorem NP(hF:(tF.all λx=>fldOf P x.1 x.2.1==some x.2.2)=true)(hS:tS.map (λx=>lenK P x.1)=tS.map (λx=>some x.2)){s s':Qs}(hs:stepM gd tF tS n s=some s')(t:s'.holds P b n F ds X h L):s.holds P b n F ds X h L:=by
 unfold stepM at hs
 split at hs
 .cases hs;exact iL t
 .cases hs;exact dZ t
 .split at hs
  .cases hs
  .cases hs;exact nf t
 .cases hs;exact fP t
 .split at hs
  .cases hs
  .split at hs
   .next hx=>cases hs;exact jZ hx t
   .cases hs
 .cases hs;exact bS t
 .cases hs
 .cases hs;exact bM t
 .split at hs
  .cases hs
  .next hd=>
   split at hs
   .cases hs
   .split at hs
    .next hg=>cases hs;exact IH t hd hg
    .next hg=>
     split at hs
     .next v hv=>cases hs;exact sA v (Mb (X:=X) (h:=h) (L:=L) hF hS hv).1 ((Mb hF hS hv).2 _ _ _ _ _) hd hg t
     .cases hs
 .cases hs
theorem Q5{tF:List (Nat×Nat×Nat)}{tS:List (Nat×Bool)}(hF:(tF.all λx=>fldOf P x.1 x.2.1==some x.2.2)=true)(hS:tS.map (λx=>lenK P x.1)=tS.map (λx=>some x.2)):∀(m:Nat)(s:Qs),(runM tF tS n m s).holds P b n F ds X h L->s.holds P b n F ds X h L
 |0,_,t=>t
 |m+1,s,t=>by
  unfold runM at t
  split at t
  .next hs=>exact NP hF hS hs (Q5 hF hS m _ t)
  .exact t
theorem I4(hF:(tF.all λx=>fldOf P x.1 x.2.1==some x.2.2)=true)(hS:tS.map (λx=>lenK P x.1)=tS.map (λx=>some x.2)){s s':Qs}(hs:goM gd tF tS n m s=some s')(t:s'.holds P b n F ds X h L):s.holds P b n F ds X h L:=by
 unfold goM at hs
 split at hs
 .next h1=>cases hs;exact NP hF hS h1 (Q5 hF hS m _ t)
 .cases hs
end
def ldV(a:Bool)(m:Nat)(cl:List Value)(off:Nat):Option Value:=match a with
 |false=>nth cl off
 |true=>match cut cl off m with
  |some cs=>some (.agg cs.toArray)
  |none=>none
def chainE(s:Nat):List Oper->Nat×List Nat×Nat×List Oper
 |[]=>(0,[],0,[])
 |⟨some d,.pick (.tmp c) x y,_,_,_,_⟩::l=>bif Yu c s then(1,[d],d,l)else match chainE s l with
  |(m,S,z,r)=>(m+1,d::S,z,r)
 |⟨some d,_,_,_,_,_⟩::l=>match chainE s l with
  |(m,S,z,r)=>(m+1,d::S,z,r)
 |⟨none,_,_,_,_,_⟩::l=>match chainE s l with
  |(m,S,z,r)=>(m+1,S,z,r)
def chainO(ops:Array Oper)(w:Bool):List Oper->Option (Nat×Nat×List Nat×Nat×List Oper)
 |⟨a,b,c,d,f,some (j,w')⟩::l=>bif w==w' then match(ops[j]?).bind (·.dst)with
  |some s=>match chainE s (⟨a,b,c,d,f,some (j,w')⟩::l)with
   |(m,S,z,r)=>some (s,m,s::S,z,r)
  |none=>none
  else none
 |_=>none
section
variable {P:Program} {b:Frame} {n:Nat} {k:List Item} {F:List Frame->(Machine->Prop)->Prop} {e:Env} {ds:List Deferred} {X:Cx} {h:HF} {L:LH}
theorem wor{r:List Oper}{d:Nat}{x:Bool}(y:Bool)(hc:chainO ops false l=some (s,m,S,d,r))(hx:e s=.bool x)(hr:l.drop m=r)(t':x=false->(∀e',e' d=.bool y->(ha:Agr S e e':=by repeat (first|exact so|refine uW rfl ?_|refine uX rfl ?_))->TO P b n ops r k F e' ds X h L)->TO P b n ops l k F (upd e s (.bool false)) ds X h L)(hk:∀e'',TO P b n ops r k F (upd (mix S e'' e) d (.bool (x||y))) ds X h L)(hq:∃e2,runQ n m (.to ops l k (upd e s (.bool true)))=some (.to ops (l.drop m) k e2)/\e2 d=.bool true/\Agr S e e2:=by exact⟨_,rfl,rfl,by repeat (first|exact so|refine uW rfl ?_|refine uX rfl ?_)⟩):TO P b n ops l k F e ds X h L:=by
 subst hr
 exact nH m S s d y hx t' hk hq
theorem wand{r:List Oper}{d:Nat}{x:Bool}(y:Bool)(hc:chainO ops true l=some (s,m,S,d,r))(hx:e s=.bool x)(hr:l.drop m=r)(t':x=true->(∀e',e' d=.bool y->(ha:Agr S e e':=by repeat (first|exact so|refine uW rfl ?_|refine uX rfl ?_))->TO P b n ops r k F e' ds X h L)->TO P b n ops l k F (upd e s (.bool true)) ds X h L)(hk:∀e'',TO P b n ops r k F (upd (mix S e'' e) d (.bool (x&&y))) ds X h L)(hq:∃e2,runQ n m (.to ops l k (upd e s (.bool false)))=some (.to ops (l.drop m) k e2)/\e2 d=.bool false/\Agr S e e2:=by exact⟨_,rfl,rfl,by repeat (first|exact so|refine uW rfl ?_|refine uX rfl ?_)⟩):TO P b n ops l k F e ds X h L:=by
 subst hr
 exact nY m S s d y hx t' hk hq
theorem wcond{x z:α}{c:Bool}{p q:Code}(hx:e.ev o=.bool c)(hs:x=bif c then y else z)(t1:c=true->x=y->TT P b n (.code p::k) F e ds X h L)(t2:c=false->x=z->TT P b n (.code q::k) F e ds X h L):TT P b n (.code (.cond o p q)::k) F e ds X h L:=cQ hs hx t1 t2
end
theorem rdd(h:p:=by first|exact trivial|exact⟨rfl,trivial⟩|exact⟨rfl,rfl,trivial⟩|exact⟨rfl,rfl,rfl,trivial⟩|exact⟨rfl,rfl,rfl,rfl,trivial⟩|exact⟨rfl,rfl,rfl,rfl,rfl,trivial⟩|((repeat (first|exact trivial|refine⟨rfl,?_⟩|fail));all_goals fail)|fail):p:=h
section
variable {P:Program} {f:FuncId} {n:Nat} {k:List Item} {e:Env} {X:Cx} {h:HF} {L:LH} {fn:Func} {rs:List ResultVar} {φ : Value->HF->Prop}
theorem wrP(vs:List Value)(hf:P.funcs[f]? = some fn)(hr:fn.results=rs.toArray)(hv:qj P e L rs vs)(hX:X.h0=hh)(hvv:retVal vs=v):
  TT P (bodyFrame f) n (.code .ret::k) (kU P X (λx h' B=>x=.returned v/\h'=hh/\B=[])) e [] X h L:=wQ vs hf hr hX hv hvv
theorem wrH(vs:List Value)(hf:P.funcs[f]? = some fn)(hr:fn.results=rs.toArray)(hv:qj P e L rs vs)(hφ : φ (retVal vs) h):
  TT P (bodyFrame f) n (.code .ret::k) (kU P X (λx h' B=>B=[]/\∃v,x=.returned v/\φ v h')) e [] X h L:=lD vs hf hr hv hφ
theorem weX{z:Except Int ρ}(hs:z=.ok r)(vs:List Value)(hf:P.funcs[f]? = some fn)(hr:fn.results=rs.toArray)(hX:X.h0=hh)(hv:qj P e L rs vs)(hvv:retVal vs=f' r):
  TT P (bodyFrame f) n [] (kU P X (XR (exW pe f' z) hh)) e [] X h L:=ij (Mc [] vs hf hr hX hv (by rw[hs,hvv];rfl))
end
theorem leA(h:p:=by first|exact HF.le_refl _|assumption|((repeat (first|exact HF.le_refl _|assumption|refine HF.le_trans ?_ (by assumption)|fail));all_goals fail)|fail):p:=h
theorem wcT{F:List Frame->(Machine->Prop)->Prop}{L:LH}{p q:Code}{c:Bool}(hx:e.ev o=.bool c)(hc:c=true)(t:TT P b n (.code p::k) F e ds X h L):TT P b n (.code (.cond o p q)::k) F e ds X h L:=rD (hx.trans (congrArg jV hc)) t
theorem wcF{F:List Frame->(Machine->Prop)->Prop}{L:LH}{p q:Code}{c:Bool}(hx:e.ev o=.bool c)(hc:c=false)(t:TT P b n (.code q::k) F e ds X h L):TT P b n (.code (.cond o p q)::k) F e ds X h L:=oy (hx.trans (congrArg jV hc)) t
theorem wsb{F:List Frame->(Machine->Prop)->Prop}{h2:HF}{L:LH}(t:TT P b n k F e ds X h L')(hs:L'.Sublist L)(dN:h.le h2)(hX:X.h0=h00)(h0:h00.le h):TT P b n k F e ds X h2 L:=QX dN hX h0 (dE hs t)
theorem wso{F:List Frame->(Machine->Prop)->Prop}{h2:HF}{L:LH}(t:TO P b n ops l k F e ds X h L')(hs:L'.Sublist L)(dN:h.le h2)(hX:X.h0=h00)(h0:h00.le h):TO P b n ops l k F e ds X h2 L:=Ha dN hX h0 (Ww hs t)
theorem jsA{K L:LH}(hs:K.Sublist L:=by first|exact List.Sublist.refl _|((repeat (first|exact List.Sublist.refl _|exact List.nil_sublist _|exact List.sublist_append_left _ _|exact List.sublist_append_right _ _|refine List.Sublist.append_left ?_ _|refine List.Sublist.cons_cons _ ?_|refine List.Sublist.cons _ ?_|fail));all_goals fail)|fail):K.Sublist L:=hs
theorem rdw(h:p:=by first|((repeat (first|exact trivial|refine⟨rfl,?_⟩|refine⟨mO ob,?_⟩|refine⟨kW ob,?_⟩|fail));all_goals fail)|fail):p:=h
def litC(e:Env):List (Nat×Operand)->List Value
 |[]=>[]
 |(_,x)::l=>vcells (e.ev x)++litC e l
theorem cNi:dC R h [] []:=rfl
theorem cCo{cs rest:List Value}{x:α}(hr:R.rep h cs x)(hl:cs.length=R.sz)(ht:dC R h rest xs):dC R h (cs++rest) (x::xs):=⟨cs,rest,rfl,hl,hr,ht⟩
theorem slL(hb:h bk=some (.cells cl.toArray T fz))(hl:h.le h')(hc:dC R h' cl xs)(dN:xs.length<=9223372036854775807:=by simp)(hcap:xs.length<=cap:=by simp):SlC R h' (some ⟨bk,0,none⟩) cap xs:=dC.slB0 hc (hl _ _ hb) dN hcap
def litB(pl:List (Nat×Nat))(e:Env):List (Nat×Operand)->List Value->List Value
 |[],zs=>zs
 |(i,x)::l,zs=>match nth pl i with
  |some (off,_)=>litB pl e l (splice zs off (vcells (e.ev x)))
  |none=>litB pl e l zs
def plcs(P:Program)(t:Nat):Option (List (Nat×Nat)):=match P.underlying t with
 |some (.struct fs)=>fs.toList.mapM λf=>(P.info? f.type).map λi=>(f.offset,i.size)
 |_=>none
theorem Lz{α β : Type}{f:α->Option β}:∀{l:List α}{r:List β},l.mapM f=some r->l.map f=r.map some
 |[],r,h=>by simp at h;subst h;rfl
 |a::l,r,h=>by
  simp only[List.mapM_cons,Option.bind_eq_bind,Option.bind_eq_some_iff]at h
  obtain⟨b,hb,t,ht,hr⟩:=h
  cases hr
  rw[kG,hb,Lz ht];rfl
theorem VB{t:Nat}(h:plcs P t=some pl):∃fs,P.underlying t=some (.struct fs)/\fs.toList.map (λf=>(P.info? f.type).map λi=>(f.offset,i.size))=pl.map some:=by
 unfold plcs at h;split at h
 .exact⟨_,by assumption,Lz h⟩
 .cases h
def kp(e:Env):List Nat->List (Nat×Value)
 |[]=>[]
 |s::K=>(s,e s)::kp e K
theorem tA{e:Env}:∀{K:List Nat}{r:List (Nat×Value)},fy e r->fy e (kp e K++r)
 |[],_,h=>h
 |_::_,_,h=>⟨rfl,tA h⟩
def H0{α ρ : Type}(K:List Nat)(ix:Nat)(Lf:List α->Nat->ρ):Prop:=True
theorem h0(K:List Nat)(ix:Nat)(Lf:List α->Nat->ρ):H0 K ix Lf:=trivial
def H1{α ρ γ : Type}(K:List Nat)(ix:Nat)(ac:γ->List (Nat×Value))(Lf:List α->Nat->γ->ρ):Prop:=True
theorem h1(K:List Nat)(ix:Nat)(ac:γ->List (Nat×Value))(Lf:List α->Nat->γ->ρ):H1 K ix ac Lf:=trivial
theorem hs0{Lf:List α->Nat->ρ}(H:H0 K ix Lf)(hs:x0=Lf xs 0):H0 K ix Lf/\x0=Lf xs 0:=⟨H,hs⟩
theorem hs1(g0:γ)(H:H1 K ix ac Lf)(hs:x0=Lf xs 0 g0):H1 K ix ac Lf/\x0=Lf xs 0 g0:=⟨H,hs⟩
section
variable {P:Program} {b:Frame} {n:Nat} {k:List Item} {F:List Frame->(Machine->Prop)->Prop} {e:Env} {ds:List Deferred} {X:Cx} {h:HF} {L:LH}
theorem lpk0{Lf:List α->Nat->ρ}(H:H0 K ix Lf/\x0=Lf xs 0)(hb:xs.length<=9223372036854775807)(hi0:e ix=.int .i64 ((0:Nat):Int))(after:∀i,i<=xs.length->x0=Lf [] i->∀e',TT P b n k F (upds e' (kp e K++[(ix,.int .i64 (i:Int))])) ds X h L)(cons:∀i y r,xs.drop i=y::r->decide ((i:Int)<(xs.length:Int))=true->xs[i]? = some y->i<xs.length->xs.length<=9223372036854775807->x0=Lf (y::r) i ->
   (∀i' {e'},x0=Lf [] i'->(hi:i'<=xs.length:=by omega)->(hr:fy e' (kp e K++[(ix,.int .i64 (i':Int))]):=by exact rds)->TT P b n k F e' ds X h L) ->
   (∀{e'},x0=Lf r (i+1)->(hr:fy e' (kp e K++[(ix,.int .i64 ((i+1:Nat):Int))]):=by exact rds)->TT P b n (.inLoop c::.inBlock id::k) F e' ds X h L) ->
   ∀e',TT P b n (.code c::.inLoop c::.inBlock id::k) F (upds e' (kp e K++[(ix,.int .i64 (i:Int))])) ds X h L)(nil:∀i,xs.drop i=[]->decide ((i:Int)<(xs.length:Int))=false->(∀e',fy e' (kp e K++[(ix,.int .i64 (i:Int))])->TT P b n k F e' ds X h L) ->
   ∀e',TT P b n (.code c::.inLoop c::.inBlock id::k) F (upds e' (kp e K++[(ix,.int .i64 (i:Int))])) ds X h L:=by exact ndW):
  TT P b n (.code (.block id (.loop c))::k) F e ds X h L:=
 lp0 xs (λi=>kp e K++[(ix,.int .i64 (i:Int))]) L Lf hb H.2 after cons nil (tA ⟨hi0,trivial⟩) (λ_ hw=>hw)
theorem lpk1(H:H1 K ix ac Lf/\x0=Lf xs 0 g0)(hb:xs.length<=9223372036854775807)(hi0:fy e ((ix,.int .i64 ((0:Nat):Int))::ac g0))(after:∀i g,i<=xs.length->x0=Lf [] i g->∀e',TT P b n k F (upds e' (kp e K++((ix,.int .i64 (i:Int))::ac g))) ds X h L)(cons:∀i g y r,xs.drop i=y::r->decide ((i:Int)<(xs.length:Int))=true->xs[i]? = some y->i<xs.length->xs.length<=9223372036854775807->x0=Lf (y::r) i g ->
   (∀i' g' {e'},x0=Lf [] i' g'->(hi:i'<=xs.length:=by omega)->(hr:fy e' (kp e K++((ix,.int .i64 (i':Int))::ac g')):=by exact rds)->TT P b n k F e' ds X h L) ->
   (∀g' {e'},x0=Lf r (i+1) g'->(hr:fy e' (kp e K++((ix,.int .i64 ((i+1:Nat):Int))::ac g')):=by exact rds)->TT P b n (.inLoop c::.inBlock id::k) F e' ds X h L) ->
   ∀e',TT P b n (.code c::.inLoop c::.inBlock id::k) F (upds e' (kp e K++((ix,.int .i64 (i:Int))::ac g))) ds X h L)(nil:∀i g,xs.drop i=[]->decide ((i:Int)<(xs.length:Int))=false->(∀e',fy e' (kp e K++((ix,.int .i64 (i:Int))::ac g))->TT P b n k F e' ds X h L) ->
   ∀e',TT P b n (.code c::.inLoop c::.inBlock id::k) F (upds e' (kp e K++((ix,.int .i64 (i:Int))::ac g))) ds X h L:=by exact ndW):
  TT P b n (.code (.block id (.loop c))::k) F e ds X h L:=
 lp1 xs (λi g=>kp e K++((ix,.int .i64 (i:Int))::ac g)) L Lf g0 hb H.2 after cons nil (tA hi0) (λ_ hw=>hw)
end
section
variable {P:Program} {b:Frame} {n:Nat} {k:List Item} {F:List Frame->(Machine->Prop)->Prop} {e:Env} {ds:List Deferred} {X:Cx} {h:HF} {L:LH}
theorem lpn0{N:Nat}{Lf:List Nat->Nat->ρ}(H:H0 K ix Lf/\x0=Lf (zD N) 0)(hb:N<=9223372036854775807)(hi0:e ix=.int .i64 ((0:Nat):Int))(after:∀i,i<=N->x0=Lf [] i->∀e',TT P b n k F (upds e' (kp e K++[(ix,.int .i64 (i:Int))])) ds X h L)(cons:∀i r,(List.range N).drop i=i::r->decide ((i:Int)<(N:Int))=true->i<N->x0=Lf (i::r) i ->
   (∀i' {e'},x0=Lf [] i'->(hi:i'<=N:=by omega)->(hr:fy e' (kp e K++[(ix,.int .i64 (i':Int))]):=by exact rds)->TT P b n k F e' ds X h L) ->
   (∀{e'},x0=Lf r (i+1)->(hr:fy e' (kp e K++[(ix,.int .i64 ((i+1:Nat):Int))]):=by exact rds)->TT P b n (.inLoop c::.inBlock id::k) F e' ds X h L) ->
   ∀e',TT P b n (.code c::.inLoop c::.inBlock id::k) F (upds e' (kp e K++[(ix,.int .i64 (i:Int))])) ds X h L)(nil:∀i,i=N->decide ((i:Int)<(N:Int))=false->(∀e',fy e' (kp e K++[(ix,.int .i64 (i:Int))])->TT P b n k F e' ds X h L) ->
   ∀e',TT P b n (.code c::.inLoop c::.inBlock id::k) F (upds e' (kp e K++[(ix,.int .i64 (i:Int))])) ds X h L:=by exact ndW):
  TT P b n (.code (.block id (.loop c))::k) F e ds X h L:=by
 have hl:(zD N).length=N:=List.length_range
 refine fZ (ι:=Nat) (λi=>kp e K++[(ix,.int .i64 (i:Int))]) (λ_=>h) (λ_=>L) (λi=>i<=N/\x0=Lf [] i) ?_ (λhx=>?_)
 .rintro i ⟨h1,h2⟩ e'
  exact after i h1 h2 e'
 .refine i9 (ι:=Nat×List Nat) (λi=>kp e K++[(ix,.int .i64 (i.1:Int))]) (λ_=>h) (λ_=>L) (λi=>(zD N).drop i.1=i.2/\i.1<=N/\x0=Lf i.2 i.1) (λi=>i.2.length) (0,zD N) (tA ⟨hi0,trivial⟩) (λ_ hw=>hw) ⟨rfl,jH _,H.2⟩ ?_
  rintro⟨i,s⟩ ⟨hd,hi,hs⟩ ag e'
  dsimp only at hd hi hs
  rcases s with _|⟨y,r⟩
  .have h1:N<=i:=by have:=List.drop_eq_nil_iff.1 hd;omega
   exact nil i (by omega) (by simp;omega) (λe'' hr=>hx i e'' ⟨hi,hs⟩ hr) e'
  .have h1:=iy hd
   rw[hl]at h1
   have h2:=ui hd
   have h3:y=i:=by simp[h1]at h2;omega
   subst h3
   exact cons y r hd (by simp;omega) h1 hs (λi' e'' a c d=>hx i' e'' ⟨c,a⟩ d) (λ{e''}a hr=>ag (y+1,r) e'' (Nat.lt_succ_self _) ⟨ll hd,h1,a⟩ hr) e'
end
class RpG{α : Type}(R:Rp α):Prop where
 good:R.Good
instance:RpG Rp.int:=⟨Rp.j4⟩
instance:RpG Rp.bool:=⟨Rp.FB⟩
instance:RpG Rp.str:=⟨Rp.Tw⟩
instance {α : Type} {R:Rp α} [i:RpG R]:RpG (Rp.sl R):=⟨Rp.Q1 i.good.mono⟩
theorem mnG[i:RpG R]:R.Mono:=i.good.mono
theorem grm[i:RpG R](g:cI R E h xs base cap G)(hl:h.le h'):cI R E h' xs base cap G:=g.mono i.good.mono hl
section
variable {α : Type} {G Q A B L:List α} {x:α}
theorem pm0:(Q++G).Perm (Q++G):=List.Perm.refl _
theorem pmg:G.Perm ([]++G):=List.Perm.refl _
theorem pmn:L.Perm (L++[]):=by rw[List.append_nil]
theorem pmc(p:L.Perm (Q++G)):(x::L).Perm ((x::Q)++G):=List.Perm.cons x p
theorem pma(p:B.Perm (Q++G)):(A++B).Perm ((A++Q)++G):=by rw[zC];exact List.Perm.append_left A p
theorem pmb(p:A.Perm (Q++G)):(A++B).Perm ((Q++B)++G):=(List.Perm.append_right B p).trans (by rw[zC,zC];exact List.Perm.append_left Q jF)
theorem pm1{z:α}(p:L.Perm (Q++[])):(z::L).Perm (Q++[z]):=(List.Perm.cons z (by simpa using p)).trans (jF (l₁:=[z]))
end
theorem pmA{L M:List α}(p:L.Perm M:=by first|exact pmn|exact pm0|exact pmg|exact pmc pm0|exact pmc pmg|exact pma pm0|exact pma pmg|exact pmb pm0|exact pmb pmg|exact pmc (pmc pm0)|exact pmc (pmc pmg)|exact pmc (pma pm0)|exact pmc (pma pmg)|exact pmc (pmb pm0)|exact pmc (pmb pmg)|exact pma (pmc pm0)|exact pma (pmc pmg)|exact pma (pma pm0)|exact pma (pma pmg)|exact pma (pmb pm0)|exact pma (pmb pmg)|exact pmc (pmc (pmc pm0))|exact pmc (pmc (pmc pmg))|exact pmc (pmc (pma pm0))|exact pmc (pmc (pma pmg))|exact pmc (pmc (pmb pm0))|exact pmc (pmc (pmb pmg))|exact pmc (pma (pmc pm0))|exact pmc (pma (pmc pmg))|exact pmc (pma (pma pm0))|exact pmc (pma (pma pmg))|exact pmc (pma (pmb pm0))|exact pmc (pma (pmb pmg))|exact pmc (pmc (pmc (pmc pm0)))|exact pmc (pmc (pmc (pmc pmg)))|exact pmc (pmc (pmc (pma pm0)))|exact pmc (pmc (pmc (pma pmg)))|exact pmc (pmc (pmc (pmb pm0)))|exact pmc (pmc (pmc (pmb pmg)))|exact pmc (pmc (pma (pmc pm0)))|exact pmc (pmc (pma (pmc pmg)))|exact pmc (pmc (pma (pma pm0)))|exact pmc (pmc (pma (pma pmg)))|exact pmc (pmc (pma (pmb pm0)))|exact pmc (pmc (pma (pmb pmg)))|exact pm1 pmn|exact pmc (pm1 pmn)|fail):L.Perm M:=p
def HG{α β ρ : Type}(K:List Nat)(ix sl:Nat)(R:Rp β)(E:Nat)(Lf:List α->Nat->List β->ρ):Prop:=True
theorem hsG{sl:Nat}{R:Rp β}{E:Nat}{Lf:List α->Nat->List β->ρ}{g0:List β}(H:HG K ix sl R E Lf)(hs:x0=Lf xs 0 g0):HG K ix sl R E Lf/\x0=Lf xs 0 g0:=⟨H,hs⟩
theorem hG(K:List Nat)(ix sl:Nat)(R:Rp β)(E:Nat)(Lf:List α->Nat->List β->ρ):HG K ix sl R E Lf:=trivial
section
variable {P:Program} {b:Frame} {n:Nat} {k:List Item} {F:List Frame->(Machine->Prop)->Prop} {e:Env} {ds:List Deferred} {X:Cx} {h:HF} {L:LH}
theorem lpkG{sl:Nat}{R:Rp β}{E:Nat}{Lf:List α->Nat->List β->ρ}{g0:List β}{G0 Q:LH}(H:HG K ix sl R E Lf/\x0=Lf xs 0 g0)(hb:xs.length<=9223372036854775807)(hi0:fy e [(ix,.int .i64 ((0:Nat):Int)),(sl,.slice base g0.length cap)])(hG:cI R E h g0 base cap G0)(hp:L.Perm (Q++G0))(after:∀i l bs cp G hh,i<=xs.length->x0=Lf [] i l->h.le hh->cI R E hh l bs cp G->l.length<=g0.length+i->∀e',TT P b n k F (upds e' (kp e K++[(ix,.int .i64 (i:Int)),(sl,.slice bs l.length cp)])) ds X hh (Q++G))(cons:∀i l bs cp G hh y r,xs.drop i=y::r->decide ((i:Int)<(xs.length:Int))=true->xs[i]? = some y->i<xs.length->xs.length<=9223372036854775807->x0=Lf (y::r) i l->h.le hh->cI R E hh l bs cp G->l.length<=g0.length+i ->
   (∀i' {l' bs' cp' G' hh' e'},x0=Lf [] i' l'->cI R E hh' l' bs' cp' G'->h.le hh'->l'.length<=g0.length+i'->(hi:i'<=xs.length:=by omega)->(hr:fy e' (kp e K++[(ix,.int .i64 (i':Int)),(sl,.slice bs' l'.length cp')]):=by exact rds)->TT P b n k F e' ds X hh' (Q++G')) ->
   (∀{l' bs' cp' G' hh' e'},x0=Lf r (i+1) l'->cI R E hh' l' bs' cp' G'->h.le hh'->l'.length<=g0.length+(i+1)->(hr:fy e' (kp e K++[(ix,.int .i64 ((i+1:Nat):Int)),(sl,.slice bs' l'.length cp')]):=by exact rds)->TT P b n (.inLoop c::.inBlock id::k) F e' ds X hh' (Q++G')) ->
   ∀e',TT P b n (.code c::.inLoop c::.inBlock id::k) F (upds e' (kp e K++[(ix,.int .i64 (i:Int)),(sl,.slice bs l.length cp)])) ds X hh (Q++G))(nil:∀i(g:List β×Option Addr×Nat×LH×HF),xs.drop i=[]->decide ((i:Int)<(xs.length:Int))=false->(∀e',fy e' (kp e K++[(ix,.int .i64 (i:Int)),(sl,.slice g.2.1 g.1.length g.2.2.1)])->TT P b n k F e' ds X g.2.2.2.2 (Q++g.2.2.2.1)) ->
   ∀e',TT P b n (.code c::.inLoop c::.inBlock id::k) F (upds e' (kp e K++[(ix,.int .i64 (i:Int)),(sl,.slice g.2.1 g.1.length g.2.2.1)])) ds X g.2.2.2.2 (Q++g.2.2.2.1):=by exact ndW):
  TT P b n (.code (.block id (.loop c))::k) F e ds X h L:=by
 refine jw hp (lp2 (γ:=List β×Option Addr×Nat×LH×HF) xs (λi g=>kp e K++[(ix,.int .i64 (i:Int)),(sl,.slice g.2.1 g.1.length g.2.2.1)]) (λg=>g.2.2.2.2) (λg=>Q++g.2.2.2.1)
  (λi g=>h.le g.2.2.2.2/\cI R E g.2.2.2.2 g.1 g.2.1 g.2.2.1 g.2.2.2.1/\g.1.length<=g0.length+i) (λs i g=>Lf s i g.1) (g0,base,cap,G0,h) hb H.2 ⟨qF _,hG,Nat.le_add_right _ _⟩ ?_ ?_ nil (tA hi0) (λ_ hw=>hw))
 .rintro i ⟨l,bs,cp,G,hh⟩ h1 h2 ⟨h3,h4,h5⟩ e'
  exact after i l bs cp G hh h1 h2 h3 h4 h5 e'
 .rintro i ⟨l,bs,cp,G,hh⟩ y r a1 a2 a3 a4 a5 a6 ⟨h3,h4,h5⟩ hx ag e'
  exact cons i l bs cp G hh y r a1 a2 a3 a4 a5 a6 h3 h4 h5 (λi' {l' bs' cp' G' hh' _}q1 q2 q3 q4 q5 q6=>hx i' (l',bs',cp',G',hh') q1 ⟨q3,q2,q4⟩ q5 q6) (λ{l' bs' cp' G' hh' _}q1 q2 q3 q4 q5=>ag (l',bs',cp',G',hh') q1 ⟨q3,q2,q4⟩ q5) e'
theorem wfg[i:RpG R]{Q:LH}(hG:cI R E h xs base cap G)(hp:L.Perm (Q++G))(hM:X.M=[])(t:∀h2,h.le h2->SlC R h2 base cap xs->TT P b n todo F e ds X h2 Q):TT P b n todo F e ds X h L:=
 jw (hp.trans jF) (ib i.good.mono [] G Q rfl hM hG t)
theorem wfgo[i:RpG R]{Q:LH}(hG:cI R E h xs base cap G)(hp:L.Perm (Q++G))(hM:X.M=[])(t:∀h2,h.le h2->SlC R h2 base cap xs->TO P b n ops l k F e ds X h2 Q):TO P b n ops l k F e ds X h L:=
 uC (hp.trans jF) (sL i.good.mono [] G Q rfl hM hG t)
end
section
variable {P:Program} {b:Frame} {n:Nat} {k:List Item} {F:List Frame->(Machine->Prop)->Prop} {e:Env} {ds:List Deferred} {X:Cx} {h:HF} {L:LH} {ops:Array Oper} {l:List Oper} {d:Option Nat} {ty t:TypeId} {pos:String} {af:Array Edge} {g:Option (Nat×Bool)} {x y:Operand}
theorem gO(t:TO P b n ops l k F e ds X h L):TO P b n ops l k F e ds X h L:=t
theorem gT(t:TT P b n k F e ds X h L):TT P b n k F e ds X h L:=t
theorem gLd(t':TO P b n ops (⟨d,.load t x,ty,pos,af,g⟩::l) k F e ds X h L):TO P b n ops (⟨d,.load t x,ty,pos,af,g⟩::l) k F e ds X h L:=t'
theorem gSt(t':TO P b n ops (⟨d,.store t x y,ty,pos,af,g⟩::l) k F e ds X h L):TO P b n ops (⟨d,.store t x y,ty,pos,af,g⟩::l) k F e ds X h L:=t'
theorem gBx(t':TO P b n ops (⟨d,.box t x,ty,pos,af,g⟩::l) k F e ds X h L):TO P b n ops (⟨d,.box t x,ty,pos,af,g⟩::l) k F e ds X h L:=t'
theorem gAl(t':TO P b n ops (⟨d,.alloc t,ty,pos,af,g⟩::l) k F e ds X h L):TO P b n ops (⟨d,.alloc t,ty,pos,af,g⟩::l) k F e ds X h L:=t'
theorem gCf(t':TO P b n ops (⟨d,.call ⟨.value (.func f),ass,ats⟩,ty,pos,af,g⟩::l) k F e ds X h L):TO P b n ops (⟨d,.call ⟨.value (.func f),ass,ats⟩,ty,pos,af,g⟩::l) k F e ds X h L:=t'
theorem gBi{op:BinOp}(t':TO P b n ops (⟨d,.binOp op t x y u,ty,pos,af,g⟩::l) k F e ds X h L):TO P b n ops (⟨d,.binOp op t x y u,ty,pos,af,g⟩::l) k F e ds X h L:=t'
theorem gCv(t':TO P b n ops (⟨d,.convert t u x,ty,pos,af,g⟩::l) k F e ds X h L):TO P b n ops (⟨d,.convert t u x,ty,pos,af,g⟩::l) k F e ds X h L:=t'
theorem gBd{parts:Array (Nat×Operand)}(t':TO P b n ops (⟨d,.build t parts,ty,pos,af,g⟩::l) k F e ds X h L):TO P b n ops (⟨d,.build t parts,ty,pos,af,g⟩::l) k F e ds X h L:=t'
theorem gBs{len:Nat}{parts:Array (Nat×Operand)}(t':TO P b n ops (⟨d,.buildSlice t len parts,ty,pos,af,g⟩::l) k F e ds X h L):TO P b n ops (⟨d,.buildSlice t len parts,ty,pos,af,g⟩::l) k F e ds X h L:=t'
theorem gCt{q:Nat}(t':TO P b n ops (⟨d,.call ⟨.value (.tmp q),ass,ats⟩,ty,pos,af,g⟩::l) k F e ds X h L):TO P b n ops (⟨d,.call ⟨.value (.tmp q),ass,ats⟩,ty,pos,af,g⟩::l) k F e ds X h L:=t'
theorem gMf{fn:Fn}{fi ca:Array Operand}(t':TO P b n ops (⟨d,.makeFunc fn fi ca,ty,pos,af,g⟩::l) k F e ds X h L):TO P b n ops (⟨d,.makeFunc fn fi ca,ty,pos,af,g⟩::l) k F e ds X h L:=t'
theorem gAp{q:TypeId}(t':TO P b n ops (⟨d,.call ⟨.builtin .append,#[x,y],#[t,q]⟩,ty,pos,af,g⟩::l) k F e ds X h L):TO P b n ops (⟨d,.call ⟨.builtin .append,#[x,y],#[t,q]⟩,ty,pos,af,g⟩::l) k F e ds X h L:=t'
theorem gMk(t':TO P b n ops (⟨d,.makeMap t none,ty,pos,af,g⟩::l) k F e ds X h L):TO P b n ops (⟨d,.makeMap t none,ty,pos,af,g⟩::l) k F e ds X h L:=t'
theorem gLk{ok:Bool}(t':TO P b n ops (⟨d,.lookup t x y ok,ty,pos,af,g⟩::l) k F e ds X h L):TO P b n ops (⟨d,.lookup t x y ok,ty,pos,af,g⟩::l) k F e ds X h L:=t'
theorem gMu{z:Operand}(t':TO P b n ops (⟨d,.mapUpdate t x y z,ty,pos,af,g⟩::l) k F e ds X h L):TO P b n ops (⟨d,.mapUpdate t x y z,ty,pos,af,g⟩::l) k F e ds X h L:=t'
theorem gSx(t':TO P b n ops (⟨d,.index t x y,ty,pos,af,g⟩::l) k F e ds X h L):TO P b n ops (⟨d,.index t x y,ty,pos,af,g⟩::l) k F e ds X h L:=t'
theorem gIx(t':TO P b n ops (⟨d,.indexAddr t x y,ty,pos,af,g⟩::l) k F e ds X h L):TO P b n ops (⟨d,.indexAddr t x y,ty,pos,af,g⟩::l) k F e ds X h L:=t'
theorem gGu{q:Nat×Bool}(t':TO P b n ops (⟨d,op,ty,pos,af,some q⟩::l) k F e ds X h L):TO P b n ops (⟨d,op,ty,pos,af,some q⟩::l) k F e ds X h L:=t'
theorem gOr{z:Nat×Nat×List Nat×Nat×List Oper}(w:Bool)(hc:chainO ops w l=some z)(t':TO P b n ops l k F e ds X h L):TO P b n ops l k F e ds X h L:=t'
theorem gPk{z:Operand}(t':TO P b n ops (⟨d,.pick x y z,ty,pos,af,g⟩::l) k F e ds X h L):TO P b n ops (⟨d,.pick x y z,ty,pos,af,g⟩::l) k F e ds X h L:=t'
theorem gEx(t':TT P b n (.code (.exit i)::k) F e ds X h L):TT P b n (.code (.exit i)::k) F e ds X h L:=t'
theorem gSc{z w v:Option Operand}(t':TO P b n ops (⟨d,.slice t x z w v,ty,pos,af,g⟩::l) k F e ds X h L):TO P b n ops (⟨d,.slice t x z w v,ty,pos,af,g⟩::l) k F e ds X h L:=t'
theorem gRe(t':TT P b n (.code .ret::k) F e ds X h L):TT P b n (.code .ret::k) F e ds X h L:=t'
theorem gNi(t':TT P b n [] F e ds X h L):TT P b n [] F e ds X h L:=t'
theorem gCo{p q:Code}(t':TT P b n (.code (.cond x p q)::k) F e ds X h L):TT P b n (.code (.cond x p q)::k) F e ds X h L:=t'
theorem gLo{p:Code}(t':TT P b n (.code (.block id (.loop p))::k) F e ds X h L):TT P b n (.code (.block id (.loop p))::k) F e ds X h L:=t'
theorem gIl{p:Code}(t':TT P b n (.inLoop p::k) F e ds X h L):TT P b n (.inLoop p::k) F e ds X h L:=t'
theorem gSl{q:Option Addr}{c:Nat}(a:SlC R h q c xs):SlC R h q c xs:=a
theorem gAt{q:Addr}{cs:List Value}(a:At h q cs):At h q cs:=a
theorem gIt(a:Itr P it val xs h):Itr P it val xs h:=a
theorem gNl{a b:Nat}(q:a<=b):a<=b:=q
theorem gNt{a b:Nat}(q:a<b):a<b:=q
theorem gEn{a b:Nat}(q:a=b):a=b:=q
theorem gAn{a b:Prop}(q:a/\b):a/\b:=q
theorem gAl'{p:α->Prop}(q:∀x,p x):∀x,p x:=q
end
end
variable {A:LH}{C:List α->HF->LH->Prop}{af:Array Edge}{captured:List Operand}{d q:Option Nat}{g:Option (Nat×Bool)}{j:Nat}{pos:String}{ty:TypeId}{w:Bool}{x:Operand}
section
def bnd:Ground->Bool
 |.textOnly _=>false
 |.gcOnly _=>false
 |_=>true
def hasN:List Nat->Nat->Bool
 |[],_=>false
 |a::l,t=>match Yu a t with
  |true=>true
  |false=>hasN l t
def rdyE(dn:List Nat):List Edge->Bool
 |[]=>true
 |⟨j,g⟩::l=>match bnd g with
  |true=>match hasN dn j with
   |true=>rdyE dn l
   |false=>false
  |false=>rdyE dn l
def rdyO(dn:List Nat)(i:Nat):Oper->Bool
 |⟨_,_,_,_,⟨af⟩,_⟩=>match hasN dn i with
  |true=>false
  |false=>rdyE dn af
def nxS(dn:List Nat):Nat->List Oper->List Nat
 |_,[]=>[]
 |i,o::l=>match rdyO dn i o with
  |true=>i::nxS dn (i+1) l
  |false=>nxS dn (i+1) l
theorem Rq{t:Nat}:hasN dn t=dn.contains t:=by
 induction dn with
 |nil=>rfl
 |cons a l ih=>
  unfold hasN
  rw[List.contains_cons,←ih]
  cases h:Yu a t with
  |true=>rw[vM h];simp
  |false=>
   have:¬t=a:=λe=>by subst e;simp at h
   simp[this]
theorem W5(e:Edge):bnd e.ground=Zf .any e:=by
 unfold bnd Zf
 cases e.ground<;>rfl
theorem Vq{af:List Edge}:rdyE dn af=af.all λe=>!Region.binds .any e||dn.contains e.on:=by
 induction af with
 |nil=>rfl
 |cons a l ih=>
  obtain⟨j,g⟩:=a
  have hb:=W5 ⟨j,g⟩
  unfold rdyE
  rw[List.all_cons,←ih,←hb,Rq]
  dsimp only
  cases bnd g<;>cases dn.contains j<;>rfl
theorem Q7{o:Oper}:rdyO dn i o=(!dn.contains i&&o.after.all λe=>!Region.binds .any e||dn.contains e.on):=by
 obtain⟨a,b,c,d,⟨af⟩,f⟩:=o
 unfold rdyO
 rw[Rq]
 cases dn.contains i with
 |true=>rfl
 |false=>simp[Vq]
theorem T6(dn:List Nat)(f:Nat->Option Oper):∀(l:List Oper)(s:Nat),(∀j,f (s+j)=l[j]?)->nxS dn s l=(List.range' s l.length).filter λi=>!dn.contains i&&((f i).map (·.after.all λe=>!Region.binds .any e||dn.contains e.on)).getD false
 |[],s,_=>rfl
 |o::l,s,h=>by
  have h0:f s=some o:=by simpa using h 0
  have h1:=T6 dn f l (s+1) (λj=>by rw[Nat.add_assoc,Nat.add_comm 1 j];simpa using h (j+1))
  unfold nxS
  rw[List.length_cons,List.range'_succ,h1]
  have hq:=Q7 (dn:=dn) (i:=s) (o:=o)
  cases hr:rdyO dn s o with
  |true=>rw[List.filter_cons_of_pos (by rw[h0];exact hq.symm.trans hr)]
  |false=>rw[List.filter_cons_of_neg (by rw[h0];exact λh=>Bool.noConfusion (hr.symm.trans (hq.trans h)))]
theorem Lv:nexts l.toArray dn=nxS dn 0 l:=by
 rw[T6 dn (λi=>l.toArray[i]?) l 0 (λj=>by simp)]
 unfold nexts
 simp[List.range_eq_range']
def flt:Op->Bool
 |.load _ _=>true
 |.fieldAddr _ _ _=>true
 |.indexAddr _ _ _=>true
 |.index _ _ _=>true
 |.slice _ _ _ _ _=>true
 |.binOp _ _ _ _ _=>true
 |.unOp _ _ _=>true
 |.pick _ _ _=>true
 |.move _=>true
 |.assign _=>true
 |.extract _ _=>true
 |.field _ _ _=>true
 |.call ⟨.builtin .len,_,_⟩=>true
 |_=>false
def fstX(sk:List Nat)(md:Nat)(dn:List Nat):Nat->List Oper->Option (Nat×Oper)
 |_,[]=>none
 |i,o::l=>match(match md with|0=>flt o.op|_=>o.guard.isSome)with
  |true=>match rdyO dn i o with
   |true=>match hasN sk (1000+i)with
    |false=>some (i,o)
    |true=>fstX sk md dn (i+1) l
   |false=>fstX sk md dn (i+1) l
  |false=>fstX sk md dn (i+1) l
def gslot(ops:List Oper)(j:Nat):Option Nat:=match nth ops j with
 |some o=>o.dst
 |none=>none
def Wh(ops:List Oper)(gk:List Nat)(op:Op):Option (Nat×Bool)->Bool
 |none=>match op with
  |.pick (.tmp s) _ _=>hasN gk s
  |.pick _ _ _=>false
  |_=>true
 |some (j,_)=>match gslot ops j with
  |some s=>hasN gk s
  |none=>false
def passD(tF:List (Nat×Nat×Nat))(tS:List (Nat×Bool))(ops:List Oper)(gk:List Nat):Nat->List Oper->Nat->List Nat->Env->Nat×List Nat×Env
 |i,⟨some d,op,ty,pos,⟨af⟩,g⟩::l,m+1,dn,e=>match hasN dn i with
  |true=>passD tF tS ops gk (i+1) l (m+1) dn e
  |false=>match rdyE dn af with
   |false=>passD tF tS ops gk (i+1) l (m+1) dn e
   |true=>match Wh ops gk op g with
    |false=>passD tF tS ops gk (i+1) l (m+1) dn e
    |true=>match guardB ⟨ops⟩ e ⟨some d,op,ty,pos,⟨af⟩,g⟩with
     |false=>passD tF tS ops gk (i+1) l m (i::dn) (upd e d undef)
     |true=>match valM tF tS e op with
      |some v=>passD tF tS ops gk (i+1) l m (i::dn) (upd e d v)
      |none=>passD tF tS ops gk (i+1) l (m+1) dn e
 |i,⟨none,_,_,_,_,_⟩::l,m,dn,e=>passD tF tS ops gk (i+1) l m dn e
 |_,_,m,dn,e=>(m,dn,e)
section
variable {P:Program} {b:Frame} {n:Nat} {k:List Item} {F:List Frame->(Machine->Prop)->Prop} {ds:List Deferred} {X:Cx} {l:List Oper}
theorem Ry{sk:List Nat}{md:Nat}{dn:List Nat}(ops:List Oper):∀(l:List Oper)(s:Nat),(∀j,nth ops (s+j)=nth l j)->∀{i:Nat}{o:Oper},fstX sk md dn s l=some (i,o)->nth ops i=some o/\rdyO dn i o=true
 |[],s,_,i,o,h=>by cases h
 |a::l,s,hn,i,o,h=>by
  have hr:fstX sk md dn (s+1) l=some (i,o)->nth ops i=some o/\rdyO dn i o=true:=Ry ops l (s+1) (λj=>by rw[Nat.add_assoc,Nat.add_comm 1 j];exact hn (j+1))
  unfold fstX at h
  split at h
  .split at h
   .next h2=>
    split at h
    .cases h;exact⟨hn 0,h2⟩
    .exact hr h
   .exact hr h
  .exact hr h
theorem DY{o:Oper}(hi:nth l i=some o)(hr:rdyO dn i o=true):(nexts l.toArray dn).contains i=true:=by
 rw[hZ]at hi
 have hl:i<l.length:=(List.getElem?_eq_some_iff.1 hi).1
 rw[Q7]at hr
 simp only[nexts,List.contains_iff_mem,List.mem_filter,List.mem_range,List.size_toArray]
 refine⟨hl,?_⟩
 have:l.toArray[i]? = some o:=by simpa using hi
 rw[this]
 exact hr
def TD(gk:List Nat)(P:Program)(b:Frame)(n:Nat)(l:List Oper)(k:List Item)(F:List Frame->(Machine->Prop)->Prop)(ds:List Deferred)(X:Cx)(K:LH)(m:Nat)(dn:List Nat)(e:Env)(h:HF)(L:LH):Prop:=
 sepAll l.toArray=true->(∀p∈K,p∈L)->TA P b n l.toArray k F ds X (Jst h K) m dn e h L
def TX(gk:List Nat)(P:Program)(b:Frame)(n:Nat)(l:List Oper)(k:List Item)(F:List Frame->(Machine->Prop)->Prop)(ds:List Deferred)(X:Cx)(K:LH)(m:Nat)(dn:List Nat)(i:Nat)(o:Oper)(e:Env)(h:HF)(L:LH):Prop:=
 nth l i=some o->rdyO dn i o=true->TD gk P b n l k F ds X K (m+1) dn e h L
variable {m:Nat} {dn:List Nat} {e:Env} {h:HF} {L K:LH} {i:Nat} {o:Oper} {gk:List Nat}
theorem wanyK(hq:∀p∈K,p∈L)(hm:P.follows .mixedOrders=true)(t:TD gk P b n l k F ds X K l.length [] e h L)(hc:(sepAll l.toArray&&slotsIn l.toArray n)=true:=by kernel_rfl):TT P b n (.code (.region id ⟨l⟩ true)::k) F e ds X h L:=
 fQ K hm hc ⟨qF _,hq⟩ (λhs _=>t hs hq)
theorem wdx(md:Nat)(hf:fstX gk md dn 0 l=some (i,o))(t:TX gk P b n l k F ds X K m dn i o e h L):TD gk P b n l k F ds X K (m+1) dn e h L:=by
 obtain⟨h1,h2⟩:=Ry l l 0 (λj=>by rw[Nat.zero_add]) hf
 exact t h1 h2
theorem wdf{d:Nat}(hd:o.dst=some d)(hg:guardB l.toArray e o=true)(hr:∀h' L',Jst h K h' L'->∀w,St X h' L' w->(execOp e.ev o).run P w=.ok (.value v) w)(t:TD gk P b n l k F ds X K m (i::dn) (upd e d v) h L):TX gk P b n l k F ds X K m dn i o e h L:=
 λhi hy hs hK=>ic i hs ⟨qF _,hK⟩ hi hd (DY hi hy) hg hr (t hs hK)
theorem wdlr(v:Bool)(hj:gslot l j=some s)(hk:hasN gk s=false)(he:e s=.bool v)(t:TD (s::gk) P b n l k F ds X K (m+1) dn e h L):TX gk P b n l k F ds X K m dn i ⟨d,op,ty,pos,af,some (j,w)⟩ e h L:=λ_ _=>t
theorem wdlu(hj:gslot l j=some s)(hk:hasN gk s=false)(he:e s=undef)(t:TD (s::gk) P b n l k F ds X K (m+1) dn e h L):TX gk P b n l k F ds X K m dn i ⟨d,op,ty,pos,af,some (j,w)⟩ e h L:=λ_ _=>t
theorem wdsp{x:Bool}(hj:gslot l j=some s)(hk:hasN gk s=false)(he:e s=.bool x)(t1:x=true->TD (s::gk) P b n l k F ds X K (m+1) dn (upd e s (.bool true)) h L)(t0:x=false->TD (s::gk) P b n l k F ds X K (m+1) dn (upd e s (.bool false)) h L):TX gk P b n l k F ds X K m dn i ⟨d,op,ty,pos,af,some (j,w)⟩ e h L:=
 λhi hy hs hK=>AF s he (λhx=>t1 hx hs hK) (λhx=>t0 hx hs hK)
theorem wd0(hn:nxS dn 0 l=[])(t:TT P b n k F e ds X h L):TD gk P b n l k F ds X K 0 dn e h L:=λ_ _=>dO (Lv.trans hn) t
def JT(h:HF)(K L:LH)(h':HF)(L':LH)(p:LH->Prop):Prop:=h.le h'/\∃K',(∀p∈K,p∈K')/\(∀p∈K',p∈L')/\p K'
theorem jtK{h:HF}{K L:LH}{p:LH->Prop}(a:h.le h')(b:∀p∈K,p∈L')(t:p K):JT h K L h' L' p:=⟨a,K,λ_ q=>q,b,t⟩
theorem Wz{o:Oper}(hs:sepAll l.toArray=true)(t:Stp P b n l.toArray F ds X o e h L λe' h' L'=>JT h K L h' L' (λK=>TD gk P b n l k F ds X K m (i::dn) e' h' L')):Stp P b n l.toArray F ds X o e h L λe' h' L'=>Jst h K h' L'/\TA P b n l.toArray k F ds X (Jst h K) m (i::dn) e' h' L':=
 Stp.mono (λe' h' L'⟨a,K',b,c,d⟩=>⟨⟨a,λp hp=>c p (b p hp)⟩,NN a b (d hs c)⟩) t
theorem wd1{i:Nat}{o:Oper}(hn:nxS dn 0 l=[i])(hi:nth l i=some o)(t:Stp P b n l.toArray F ds X o e h L λe' h' L'=>JT h K L h' L' (λK=>TD gk P b n l k F ds X K m (i::dn) e' h' L')):TD gk P b n l k F ds X K (m+1) dn e h L:=
 λhs _=>Tv i (Lv.trans hn) hi (Wz hs t)
theorem T0(hF:(tF.all λx=>fldOf P x.1 x.2.1==some x.2.2)=true)(hS:tS.map (λx=>lenK P x.1)=tS.map (λx=>some x.2))(hs:sepAll l.toArray=true)(gk:List Nat)(hJ:Jst h K h L):
  ∀(i:Nat)(r:List Oper)(m:Nat)(dn:List Nat)(e:Env),(∀j,nth l (i+j)=nth r j)->TA P b n l.toArray k F ds X (Jst h K) (passD tF tS l gk i r m dn e).1 (passD tF tS l gk i r m dn e).2.1 (passD tF tS l gk i r m dn e).2.2 h L->TA P b n l.toArray k F ds X (Jst h K) m dn e h L:=by
 intro i r m dn e
 fun_induction passD tF tS l gk i r m dn e with
 |case1 i d op ty pos af g l' m dn e hh ih=>exact λhn t=>ih (λj=>by rw[Nat.add_assoc,Nat.add_comm 1 j];exact hn (j+1)) t
 |case2 i d op ty pos af g l' m dn e hh hr ih=>exact λhn t=>ih (λj=>by rw[Nat.add_assoc,Nat.add_comm 1 j];exact hn (j+1)) t
 |case3 i d op ty pos af g l' m dn e hh hr hp ih=>exact λhn t=>ih (λj=>by rw[Nat.add_assoc,Nat.add_comm 1 j];exact hn (j+1)) t
 |case4 i d op ty pos af g l' m dn e hh hr hp hg ih=>
  intro hn t
  have hi:nth l i=some ⟨some d,op,ty,pos,⟨af⟩,g⟩:=hn 0
  refine nB i hs hJ hi rfl (DY hi ?_) hg (ih (λj=>by rw[Nat.add_assoc,Nat.add_comm 1 j];exact hn (j+1)) t)
  unfold rdyO
  rw[hh]
  exact hr
 |case5 i d op ty pos af g l' m dn e hh hr hp hg v hv ih=>
  intro hn t
  have hi:nth l i=some ⟨some d,op,ty,pos,⟨af⟩,g⟩:=hn 0
  refine ic i hs hJ hi rfl (DY hi ?_) hg (λh' L' _ w hw=>(Mb hF hS hv).2 _ _ _ _ _ w hw) (ih (λj=>by rw[Nat.add_assoc,Nat.add_comm 1 j];exact hn (j+1)) t)
  unfold rdyO
  rw[hh]
  exact hr
 |case6 i d op ty pos af g l' m dn e hh hr hp hg hv ih=>exact λhn t=>ih (λj=>by rw[Nat.add_assoc,Nat.add_comm 1 j];exact hn (j+1)) t
 |case7 i a b' c d l' g m dn e ih=>exact λhn t=>ih (λj=>by rw[Nat.add_assoc,Nat.add_comm 1 j];exact hn (j+1)) t
 |case8=>exact λ_ t=>t
theorem wdqP(hF:(tF.all λx=>fldOf P x.1 x.2.1==some x.2.2)=true)(hS:tS.map (λx=>lenK P x.1)=tS.map (λx=>some x.2))(hp:passD tF tS l gk 0 l m dn e=(m',dn',e'))(t:TD gk P b n l k F ds X K m' dn' e' h L):TD gk P b n l k F ds X K m dn e h L:=λhs hK=>T0 hF hS hs gk ⟨qF _,hK⟩ 0 l m dn e (λj=>by rw[Nat.zero_add]) (by rw[hp];exact t hs hK)
theorem wcTh{x z:α}{c c':Bool}{h0:HF}{o:Operand}{p q:Code}(hx:e.ev o=.bool c)(h:c=true)(hs:x=bif c' then y else z)(hc:c'=true)(t:x=y->TT P b n (.code p::k) F e ds X h0 L):TT P b n (.code (.cond o p q)::k) F e ds X h0 L:=rD (hx.trans (congrArg jV h)) (t (hs.trans (by rw[hc];rfl)))
theorem wcoN{x z:α}{c c':Bool}{o:Operand}{p q:Code}(hx:e.ev o=.bool c)(hs:x=bif c' then y else z)(hc:c'=c)(t1:c=true->x=y->TT P b n (.code p::k) F e ds X h L)(t2:c=false->x=z->TT P b n (.code q::k) F e ds X h L):TT P b n (.code (.cond o p q)::k) F e ds X h L:=cQ (hc▸hs) hx t1 t2
def rootS(l:List Oper):Nat->Nat->Nat
 |0,s=>s
 |m+1,s=>match l.find? (λo=>o.dst==some s)with
  |some ⟨_,.fieldAddr _ (.tmp r) _,_,_,_,_⟩=>rootS l m r
  |some ⟨_,.move (.tmp r),_,_,_,_⟩=>rootS l m r
  |_=>s
def putN(s:Nat)(r:List Nat):List Nat:=match hasN r s with
 |true=>r
 |false=>s::r
def rootsS(l:List Oper):List Oper->List Nat
 |⟨_,.store _ (.tmp s) _,_,_,_,_⟩::r=>putN (rootS l 9 s) (rootsS l r)
 |⟨_,.mapUpdate _ (.tmp s) _ _,_,_,_,_⟩::r=>putN (rootS l 9 s) (rootsS l r)
 |⟨_,.insert _ (.tmp s) _ _,_,_,_,_⟩::r=>putN (rootS l 9 s) (rootsS l r)
 |_::r=>rootsS l r
 |[]=>[]
def inR(l:List Oper)(s:Nat):Bool:=match l.find? (λo=>o.dst==some s)with
 |some _=>true
 |none=>false
def outR(l:List Oper):List Nat->List Nat
 |[]=>[]
 |s::r=>match inR l s with
  |true=>outR l r
  |false=>s::outR l r
def flA(l:List Oper):List Nat->List Nat
 |[]=>[]
 |s::r=>match inR l s with
  |true=>[999]
  |false=>flA l r
def Ex(e:Env)(Q:LH):List Nat->LH->Prop
 |[],K=>K=Q
 |s::R,K=>∃Q' bk o,((∃off,e s=.pointer (some ⟨bk,off,none⟩))\/e s=.map (some bk))/\Q.Perm ((bk,o)::Q')/\Ex e Q' R K
theorem exSub{e:Env}:∀{R:List Nat}{Q K:LH},Ex e Q R K->∀p∈K,p∈Q
 |[],Q,K,h,p,hp=>by cases(h:K=Q);exact hp
 |s::R,Q,K,⟨Q',bk,o,_,hp,hx⟩,p,hq=>hp.symm.subset (List.mem_cons_of_mem _ (exSub hx p hq))
theorem exN{e:Env}{Q:LH}:Ex e Q [] Q:=rfl
def flgR:List Oper->Nat
 |⟨_,.call ⟨.builtin .append,_,_⟩,_,_,_,_⟩::_=>1
 |⟨_,.call ⟨.value (.tmp _),_,_⟩,_,_,_,_⟩::_=>2
 |_::l=>flgR l
 |[]=>0
theorem wanyE{R:List Nat}(hr:outR l (rootsS l l)=R)(hk:flA l (rootsS l l)=gk)(hx:Ex e L R K)(hm:P.follows .mixedOrders=true)(t:TD gk P b n l k F ds X K l.length [] e h L)(hc:(sepAll l.toArray&&slotsIn l.toArray n)=true:=by kernel_rfl):TT P b n (.code (.region id ⟨l⟩ true)::k) F e ds X h L:=
 wanyK (λp hp=>exSub hx p hp) hm t hc
theorem wanyY{dn:List α}{h0:HF}{Q:LH}(hf:flgR l=2)(hC:C dn h0 A)(hp:L.Perm (Q++A))(hr:outR l (rootsS l l)=S)(hk:flA l (rootsS l l)=gk)(hx:Ex e Q S K)(hm:P.follows .mixedOrders=true)(t:TD gk P b n l k F ds X K l.length [] e h L)(hc:(sepAll l.toArray&&slotsIn l.toArray n)=true:=by kernel_rfl):TT P b n (.code (.region id ⟨l⟩ true)::k) F e ds X h L:=
 wanyK (λp q=>hp.symm.subset (List.mem_append_left _ (exSub hx p q))) hm t hc
section shapes
variable {KK:LH}
variable {e:Env} {K:Env->HF->LH->Prop} {ops:Array Oper} {d:Option Nat} {ty t:TypeId} {pos:String} {af:Array Edge} {g:Option (Nat×Bool)} {x y:Operand}
theorem gD(t:TD gk P b n l k F ds X KK m dn e h L):TD gk P b n l k F ds X KK m dn e h L:=t
theorem gX(t:TX gk P b n l k F ds X KK m dn i o e h L):TX gk P b n l k F ds X KK m dn i o e h L:=t
theorem gXl(q:TX gk P b n l k F ds X KK m dn i ⟨d,.load t x,ty,pos,af,g⟩ e h L):TX gk P b n l k F ds X KK m dn i ⟨d,.load t x,ty,pos,af,g⟩ e h L:=q
theorem gXi(q:TX gk P b n l k F ds X KK m dn i ⟨d,.indexAddr t x y,ty,pos,af,g⟩ e h L):TX gk P b n l k F ds X KK m dn i ⟨d,.indexAddr t x y,ty,pos,af,g⟩ e h L:=q
theorem gXb{op:BinOp}(q:TX gk P b n l k F ds X KK m dn i ⟨d,.binOp op t x y u,ty,pos,af,g⟩ e h L):TX gk P b n l k F ds X KK m dn i ⟨d,.binOp op t x y u,ty,pos,af,g⟩ e h L:=q
theorem gS(q:Stp P b n ops F ds X o e h L K):Stp P b n ops F ds X o e h L K:=q
theorem gJ{p:LH->Prop}(q:JT h KK L h' L' p):JT h KK L h' L' p:=q
theorem gRg{ops:Array Oper}(q:TT P b n (.code (.region id ops true)::k) F e ds X h L):TT P b n (.code (.region id ops true)::k) F e ds X h L:=q
end shapes
end
theorem wmz{F:List Frame->(Machine->Prop)->Prop}{L:LH}(j:Nat){fn:Fn}{first:List Operand}(hj:nth captured j=some x)(hx:e.ev x=.pointer (some ⟨bk,0,none⟩))(hL:nth L i=some (bk,.cells cl.toArray T fz))(hM:X.M=[])(t:∀h2,h.le h2->At h2 ⟨bk,0,none⟩ cl->TO P b n ops (⟨q,.makeFunc fn ⟨first⟩ ⟨captured⟩,ty,pos,af,g⟩::l) k F e ds X h2 (dropNth L i)):TO P b n ops (⟨q,.makeFunc fn ⟨first⟩ ⟨captured⟩,ty,pos,af,g⟩::l) k F e ds X h L:=
 dF i hL hM λh2 a b=>t h2 a (fJ b)
theorem Vx{L:LH}{s t:TypeId}{S:TypeDesc}{kk k2:IntKind}{m:Int}(hS:P.underlying s=some S)(hT:P.underlying t=some (.int k2))(hx:e.ev x=.int kk m):
  ∀w,St X h L w->(execOp e.ev ⟨d,.convert s t x,ty,pos,af,g⟩).run P w=.ok (.value (.int k2 (k2.wrap m))) w:=λw hw=>by
 simp[execOp,convert,run_underlying hS,run_underlying hT,hx,Conv.intToInt]
section
variable {P:Program} {b:Frame} {n:Nat} {k:List Item} {F:List Frame->(Machine->Prop)->Prop} {e:Env} {ds:List Deferred} {X:Cx} {h:HF} {L:LH} {ops:Array Oper} {l:List Oper} {d:Nat} {ty t u:TypeId} {pos:String} {af:Array Edge} {g:Option (Nat×Bool)} {x y:Operand} {ik yk:IntKind} {a c:Int}
theorem wshr(hx:e.ev x=.int ik a)(hy:e.ev y=.int yk c)(hb:0<=c)(t':TO P b n ops l k F (upd e d (.int ik (a.fdiv (2 ^ min c.toNat ik.bits)))) ds X h L)(hd:Nat.blt d n=true:=by rfl)(hg:guardB ops e ⟨some d,.binOp .shr t x y u,ty,pos,af,g⟩=true:=by rfl):TO P b n ops (⟨some d,.binOp .shr t x y u,ty,pos,af,g⟩::l) k F e ds X h L:=
 sA _ rfl (λw _=>by simp[execOp,hx,hy,eqGuard,binOp,Op.shift,Int.not_lt.2 hb]) hd hg t'
theorem wshl(hx:e.ev x=.int ik a)(hy:e.ev y=.int yk c)(hb:0<=c)(t':TO P b n ops l k F (upd e d (.int ik (ik.wrap (a*2 ^ min c.toNat ik.bits)))) ds X h L)(hd:Nat.blt d n=true:=by rfl)(hg:guardB ops e ⟨some d,.binOp .shl t x y u,ty,pos,af,g⟩=true:=by rfl):TO P b n ops (⟨some d,.binOp .shl t x y u,ty,pos,af,g⟩::l) k F e ds X h L:=
 sA _ rfl (λw _=>by simp[execOp,hx,hy,eqGuard,binOp,Op.shift,Int.not_lt.2 hb]) hd hg t'
theorem wband(hx:e.ev x=.int ik a)(hy:e.ev y=.int ik c)(t':TO P b n ops l k F (upd e d (.int ik (ik.wrap ((BitVec.ofInt ik.bits a &&& BitVec.ofInt ik.bits c).toNat:Int)))) ds X h L)(hd:Nat.blt d n=true:=by rfl)(hg:guardB ops e ⟨some d,.binOp .and t x y u,ty,pos,af,g⟩=true:=by rfl):TO P b n ops (⟨some d,.binOp .and t x y u,ty,pos,af,g⟩::l) k F e ds X h L:=
 sA _ rfl (λw _=>by simp[execOp,hx,hy,eqGuard,binOp,Op.intBits]) hd hg t'
theorem wcvP{S:IntKind}(hS:P.underlying t=some (.int S))(hT:P.underlying u=some (.int ik))(hx:e.ev x=.int yk a)(t':TO P b n ops l k F (upd e d (.int ik (ik.wrap a))) ds X h L)(hd:Nat.blt d n=true:=by rfl)(hg:guardB ops e ⟨some d,.convert t u x,ty,pos,af,g⟩=true:=by rfl):TO P b n ops (⟨some d,.convert t u x,ty,pos,af,g⟩::l) k F e ds X h L:=
 aM (em (Vx hS hT hx) t' hg) rfl hd
end
section
variable {a b c:Bool}
theorem X7(h:a=true):(a||b)=true:=by rw[h];rfl
theorem X6(h:b=true):(a||b)=true:=by rw[h];cases a<;>rfl
theorem Yb(h:a=false):(a&&b)=false:=by rw[h];rfl
theorem Ya(h:b=false):(a&&b)=false:=by rw[h];cases a<;>rfl
theorem X5(h:a=false)(h':b=c):(a||b)=c:=by rw[h,h'];rfl
theorem X8(h:a=true)(h':b=c):(a&&b)=c:=by rw[h,h'];rfl
end
theorem bP{p:Prop}(h:p:=by first
 |with_reducible rfl
 |assumption
 |((with_reducible refine X7 ?_);exact bP)
 |((with_reducible refine X6 ?_);exact bP)
 |((with_reducible refine Yb ?_);exact bP)
 |((with_reducible refine Ya ?_);exact bP)
 |((with_reducible refine X5 ?_ ?_)<;>exact bP)
 |((with_reducible refine X8 ?_ ?_)<;>exact bP)
 |exact rfl
 |fail):p:=h
end
variable {args:List Go.Value}{fn:Func}
section
theorem sTY{R:Ending->HF->LH->Prop}(hf:P.funcs[f]? = some fn)(hb:fn.body=some c)(hn:fn.ntmps=n)(dN:Zt args.length n=true)(t:∀X:Cx,(∀b∈X.M,b<X.w0.heap.size)->X.h0=h->P.funcs[f]? = some fn->TT P (bodyFrame f) n [.code c] (kU P X R) (envArgs args) [] X h A):oX P f args.toArray h A R:=
 mP hf hb hn dN λX a b=>t X a b hf
section
variable {P:Program} {b:Frame} {n:Nat} {k:List Item} {F:List Frame->(Machine->Prop)->Prop} {e:Env} {ds:List Deferred} {X:Cx} {h:HF} {L:LH}
theorem lpkY{z v0 v1 dn0:List β}{C:List β->HF->LH->Prop}{A0 Q:LH}{h1:HF}{Lf:List α->Nat->List β}(hv:z=dn0++v0)(hC:C dn0 h1 A0)(m1:∀done h1 h2 B,jL h1 h2->C done h1 B->C done h2 B)(h10:h1.le h)(hp:L.Perm (Q++A0))(H:H0 K ix Lf/\v1=Lf xs 0)(he:v0=v1)(hb:xs.length<=9223372036854775807)(hi0:e ix=.int .i64 ((0:Nat):Int))(after:∀i dn A hh v,i<=xs.length->v=Lf [] i->z=dn++v->C dn hh A->h.le hh->∀e',TT P b n k F (upds e' (kp e K++[(ix,.int .i64 (i:Int))])) ds X hh (Q++A))(cons:∀i dn A hh v y r,xs.drop i=y::r->decide ((i:Int)<(xs.length:Int))=true->xs[i]? = some y->i<xs.length->xs.length<=9223372036854775807->v=Lf (y::r) i->z=dn++v->C dn hh A->h.le hh ->
   (∀i' {dn' A' hh' v' e'},v'=Lf [] i'->z=dn'++v'->C dn' hh' A'->h.le hh'->(hi:i'<=xs.length:=by omega)->(hr:fy e' (kp e K++[(ix,.int .i64 (i':Int))]):=by exact rds)->TT P b n k F e' ds X hh' (Q++A')) ->
   (∀{dn' A' hh' v' e'},v'=Lf r (i+1)->z=dn'++v'->C dn' hh' A'->h.le hh'->(hr:fy e' (kp e K++[(ix,.int .i64 ((i+1:Nat):Int))]):=by exact rds)->TT P b n (.inLoop c::.inBlock id::k) F e' ds X hh' (Q++A')) ->
   ∀e',TT P b n (.code c::.inLoop c::.inBlock id::k) F (upds e' (kp e K++[(ix,.int .i64 (i:Int))])) ds X hh (Q++A))(nil:∀i(g:List β×LH×HF),xs.drop i=[]->decide ((i:Int)<(xs.length:Int))=false->(∀e',fy e' (kp e K++[(ix,.int .i64 (i:Int))])->TT P b n k F e' ds X g.2.2 (Q++g.2.1)) ->
   ∀e',TT P b n (.code c::.inLoop c::.inBlock id::k) F (upds e' (kp e K++[(ix,.int .i64 (i:Int))])) ds X g.2.2 (Q++g.2.1):=by exact ndW):
  TT P b n (.code (.block id (.loop c))::k) F e ds X h L:=by
 refine jw hp (lp2 (γ:=List β×LH×HF) (x0:=z) xs (λi g=>kp e K++[(ix,.int .i64 (i:Int))]) (λg=>g.2.2) (λg=>Q++g.2.1)
  (λi g=>C g.1 g.2.2 g.2.1/\h.le g.2.2) (λs i g=>g.1++Lf s i) (dn0,A0,h) hb (show z=dn0++Lf xs 0 from by rw[hv,he,H.2]) ⟨m1 _ _ _ _ h10 hC,qF _⟩ ?_ ?_ nil (tA ⟨hi0,trivial⟩) (λ_ hw=>hw))
 .rintro i ⟨dn,A,hh⟩ h1 h2 ⟨h3,h4⟩ e'
  exact after i dn A hh _ h1 rfl h2 h3 h4 e'
 .rintro i ⟨dn,A,hh⟩ y r a1 a2 a3 a4 a5 a6 ⟨h3,h4⟩ hx ag e'
  exact cons i dn A hh _ y r a1 a2 a3 a4 a5 rfl a6 h3 h4 (λi' {dn' A' hh' v' _}q1 q2 q3 q4 q5 q6=>hx i' (dn',A',hh') (by subst q1;exact q2) ⟨q3,q4⟩ q5 q6) (λ{dn' A' hh' v' _}q1 q2 q3 q4 q5=>ag (dn',A',hh') (by subst q1;exact q2) ⟨q3,q4⟩ q5) e'
end
section
variable {β : Type} {P:Program} {f:FuncId} {fn:Func} {n:Nat} {ops:Array Oper} {l:List Oper} {k:List Item} {e:Env} {X:Cx} {h:HF} {L:LH}
variable {C:List β->HF->LH->Prop} {Sp:HF->LH->Prop} {Pn:List PanicEntry->HF->LH->Prop} {val:β->HF->List Value->Prop} {z dn v r:List β} {x:β} {h0 h1:HF} {A Q:LH} {yf:Fn} {ya yb:Array Value}
variable {d:Option Nat} {ty:TypeId} {pos:String} {af:Array Edge} {g:Option (Nat×Bool)} {t:Nat} {a5_:Array Operand} {ats:Array TypeId} {vs:List Value}
theorem wyl(hy:∀done x rest vs h'' B,z=done++x::rest->h1.le h''->C done h'' B->val x h'' vs->ny P (.func yf ya yb) vs.toArray h'' B (YR C Sp Pn done x))(m1:∀done h1 h2 B,jL h1 h2->C done h1 B->C done h2 B)(hF:P.funcs[f]? = some fn)(hs:v=x::r)(hv:z=dn++v)(hC:C dn h0 A)(h0h:h0.le h)(hl:h1.le h)(hp:L.Perm (Q++A))(hf:e t=.func yf ya yb)(hvs:a5_.toList.map e.ev=vs)(hval:val x h vs)(yes:∀h' A',h.le h'->C (dn++[x]) h' A'->∀v',v'=r->z=(dn++[x])++v'->TO P (bodyFrame f) n ops l k (kU P X (ItR C Sp Pn z)) (pute e d (.bool true)) [] X h' (Q++A'))(no:∀h' A',h.le h'->Sp h' A'->TO P (bodyFrame f) n ops l k (kU P X (ItR C Sp Pn z)) (pute e d (.bool false)) [] X h' (Q++A'))(hg:guardB ops e ⟨d,.call ⟨.value (.tmp t),a5_,ats⟩,ty,pos,af,g⟩=true:=by rfl)(hso:slotOk n d=true:=by rfl):
  TO P (bodyFrame f) n ops (⟨d,.call ⟨.value (.tmp t),a5_,ats⟩,ty,pos,af,g⟩::l) k (kU P X (ItR C Sp Pn z)) e [] X h L:=
 uC hp (aM (qn Q A rfl (hy dn x r vs h A (by rw[hv,hs]) hl (m1 _ _ _ _ h0h hC) hval) hf hvs
  (λh' B dN hc=>yes h' B dN hc r rfl (by rw[hv,hs,zC];rfl)) (λh' B dN hc=>no h' B dN hc)
  (λch h' B dN hP e'=>mz (xO [] hF (List.sublist_append_right _ _) hP)) hg) (hso:=hso))
theorem wyf(hC:C dn h0 A)(m1:∀done h1 h2 B,jL h1 h2->C done h1 B->C done h2 B)(h0h:h0.le h)(hv:z=dn++v)(hs:v=[]):C z h A\/Sp h A:=by
 subst hs;rw[List.append_nil]at hv;subst hv;exact .inl (m1 _ _ _ _ h0h hC)
theorem wyR(hR:C z h A\/Sp h A)(hF:P.funcs[f]? = some fn)(hr:fn.results=#[])(hA:A.Sublist L):TT P (bodyFrame f) n (.code .ret::k) (kU P X (ItR C Sp Pn z)) e [] X h L:=ij (xI [] hF hr hA hR)
theorem wyE(hR:C z h A\/Sp h A)(hF:P.funcs[f]? = some fn)(hr:fn.results=#[])(hA:A.Sublist L):TT P (bodyFrame f) n [] (kU P X (ItR C Sp Pn z)) e [] X h L:=ij (Bo [] hF hr hA hR)
end
end
variable {JR:γ->Prop}{rs:List Nat}{σ:Type}{z:Except Int σ}
section
inductive Md:Type->Type 1 where
 |mE:Md Unit
 |mA {α γ : Type} (ac:α->List (Nat×Value)) (M:Md γ):Md (α×γ)
 |mC {α γ : Type} (s b:Nat) (f:α->List Value) (T:TypeId) (M:Md γ):Md (α×γ)
 |mG {α γ : Type} (s:Nat) (R:Rp α) (E:TypeId) (M:Md γ):Md (List α×γ)
 |mB {α γ : Type} (s b:Nat) (f:List α->Option Addr->Nat->List Value) (T:TypeId) (R:Rp α) (E:TypeId) (M:Md γ):Md (List α×γ)
 |mS {α γ : Type} (s:Nat) (R:Rp α) (M:Md γ):Md (List α×γ)
 |mD {α γ : Type} (b:Nat) (f:α->List Value) (T:TypeId) (M:Md γ):Md (α×γ)
 |mF {α γ : Type} (b:Nat) (f:List α->Option Addr->Nat->List Value) (T:TypeId) (R:Rp α) (E:TypeId) (M:Md γ):Md (List α×γ)
 |mV {α γ : Type} (b:Nat) (f:List α->Option Addr->Nat->List Value) (T:TypeId) (R:Rp α) (k:Nat) (M:Md γ):Md (List α×γ)
 |mM {κ α γ : Type} (b:Nat) (enc:κ->Value) (V:HF->Value->α->Prop) (M:Md γ):Md (List (κ×α)×γ)
 |mJ {γ : Type} (p:γ->Prop) (M:Md γ):Md γ
def Md.Raw:{γ : Type}->Md γ->Type
 |_,.mE=>Unit
 |_,.mA _ M=>M.Raw
 |_,.mC _ _ _ _ M=>M.Raw
 |_,.mG _ _ _ M=>Option Addr×Nat×LH×M.Raw
 |_,.mB _ _ _ _ _ _ M=>Option Addr×Nat×LH×M.Raw
 |_,.mS _ _ M=>Option Addr×Nat×M.Raw
 |_,.mD _ _ _ M=>M.Raw
 |_,.mF _ _ _ _ _ M=>Option Addr×Nat×LH×M.Raw
 |_,.mV _ _ _ _ _ M=>Option Addr×Nat×M.Raw
 |_,.mM _ _ _ M=>Obj×M.Raw
 |_,.mJ _ M=>M.Raw
def Md.inv:{γ : Type}->(M:Md γ)->γ->Nat->γ->M.Raw->HF->Prop
 |_,.mE,_,_,_,_,_=>True
 |_,.mA _ M,g0,c,g,r,h=>M.inv g0.2 c g.2 r h
 |_,.mC _ _ _ _ M,g0,c,g,r,h=>M.inv g0.2 c g.2 r h
 |_,.mG _ R E M,g0,c,g,r,h=>(cI R E h g.1 r.1 r.2.1 r.2.2.1/\g.1.length<=g0.1.length+c)/\M.inv g0.2 c g.2 r.2.2.2 h
 |_,.mB _ _ _ _ R E M,g0,c,g,r,h=>(cI R E h g.1 r.1 r.2.1 r.2.2.1/\g.1.length<=g0.1.length+c)/\M.inv g0.2 c g.2 r.2.2.2 h
 |_,.mS _ R M,g0,c,g,r,h=>(SlC R h r.1 r.2.1 g.1/\g.1.length<=g0.1.length+c)/\M.inv g0.2 c g.2 r.2.2 h
 |_,.mD _ _ _ M,g0,c,g,r,h=>M.inv g0.2 c g.2 r h
 |_,.mF _ _ _ R E M,g0,c,g,r,h=>(cI R E h g.1 r.1 r.2.1 r.2.2.1/\g.1.length<=g0.1.length+c)/\M.inv g0.2 c g.2 r.2.2.2 h
 |_,.mV _ _ _ R k M,g0,c,g,r,h=>(SlC R h r.1 r.2.1 g.1/\g.1.length<=g0.1.length+k*c)/\M.inv g0.2 c g.2 r.2.2 h
 |_,.mM _ enc V M,g0,c,g,r,h=>(ki enc V h r.1 g.1/\g.1.length<=g0.1.length+c)/\M.inv g0.2 c g.2 r.2 h
 |_,.mJ p M,g0,c,g,r,h=>p g/\M.inv g0 c g r h
def Md.rd:{γ : Type}->(M:Md γ)->γ->M.Raw->List (Nat×Value)
 |_,.mE,_,_=>[]
 |_,.mA ac M,g,r=>ac g.1++M.rd g.2 r
 |_,.mC s b _ _ M,g,r=>(s,.pointer (some ⟨b,0,none⟩))::M.rd g.2 r
 |_,.mG s _ _ M,g,r=>(s,.slice r.1 g.1.length r.2.1)::M.rd g.2 r.2.2.2
 |_,.mB s b _ _ _ _ M,g,r=>(s,.pointer (some ⟨b,0,none⟩))::M.rd g.2 r.2.2.2
 |_,.mS s _ M,g,r=>(s,.slice r.1 g.1.length r.2.1)::M.rd g.2 r.2.2
 |_,.mD _ _ _ M,g,r=>M.rd g.2 r
 |_,.mF _ _ _ _ _ M,g,r=>M.rd g.2 r.2.2.2
 |_,.mV _ _ _ _ _ M,g,r=>M.rd g.2 r.2.2
 |_,.mM _ _ _ M,g,r=>M.rd g.2 r.2
 |_,.mJ _ M,g,r=>M.rd g r
def Md.ob:{γ : Type}->(M:Md γ)->γ->M.Raw->LH
 |_,.mE,_,_=>[]
 |_,.mA _ M,g,r=>M.ob g.2 r
 |_,.mC _ b f T M,g,r=>(b,.cells (f g.1).toArray T (0,0))::M.ob g.2 r
 |_,.mG _ _ _ M,g,r=>M.ob g.2 r.2.2.2
 |_,.mB _ b f T _ _ M,g,r=>(b,.cells (f g.1 r.1 r.2.1).toArray T (0,0))::M.ob g.2 r.2.2.2
 |_,.mS _ _ M,g,r=>M.ob g.2 r.2.2
 |_,.mD b f T M,g,r=>(b,.cells (f g.1).toArray T (0,0))::M.ob g.2 r
 |_,.mF b f T _ _ M,g,r=>(b,.cells (f g.1 r.1 r.2.1).toArray T (0,0))::M.ob g.2 r.2.2.2
 |_,.mV b f T _ _ M,g,r=>(b,.cells (f g.1 r.1 r.2.1).toArray T (0,0))::M.ob g.2 r.2.2
 |_,.mM b _ _ M,g,r=>(b,r.1)::M.ob g.2 r.2
 |_,.mJ _ M,g,r=>M.ob g r
def Md.og:{γ : Type}->(M:Md γ)->γ->M.Raw->LH
 |_,.mE,_,_=>[]
 |_,.mA _ M,g,r=>M.og g.2 r
 |_,.mC _ _ _ _ M,g,r=>M.og g.2 r
 |_,.mG _ _ _ M,g,r=>r.2.2.1++M.og g.2 r.2.2.2
 |_,.mB _ _ _ _ _ _ M,g,r=>r.2.2.1++M.og g.2 r.2.2.2
 |_,.mS _ _ M,g,r=>M.og g.2 r.2.2
 |_,.mD _ _ _ M,g,r=>M.og g.2 r
 |_,.mF _ _ _ _ _ M,g,r=>r.2.2.1++M.og g.2 r.2.2.2
 |_,.mV _ _ _ _ _ M,g,r=>M.og g.2 r.2.2
 |_,.mM _ _ _ M,g,r=>M.og g.2 r.2
 |_,.mJ _ M,g,r=>M.og g r
def SP(A L:LH):Prop:=∃L':LH,L'.Sublist L/\L'.Perm A
theorem SP.of{L:LH}(h:A.Sublist L):SP A L:=⟨A,h,.refl _⟩
theorem SP.app{L Q:LH}(hp:L.Perm (Q++G))(hs:SP A Q):SP (A++G) L:=by
 obtain⟨B,h1,h2⟩:=hs
 obtain⟨C,h3,h4⟩:=List.exists_perm_sublist (h1.append_right G) hp.symm
 exact⟨C,h4,h3.trans (h2.append_right G)⟩
theorem SP.perm{B L:LH}(hs:SP A L)(hp:A.Perm B):SP B L:=let ⟨C,a,b⟩:=hs;⟨C,a,b.trans hp⟩
theorem Dw{F:List Frame->(Machine->Prop)->Prop}{h2:HF}{L:LH}(t:TT P b n k F e ds X h A)(hs:SP A L)(dN:h.le h2)(hX:X.h0=h00)(h0:h00.le h):TT P b n k F e ds X h2 L:=
 let ⟨_,a,p⟩:=hs;QX dN hX h0 (dE a (jw p t))
structure MS{γ : Type}(M:Md γ)(g0:γ)(c:Nat)(g:γ)(h:HF)(e:Env)(A L:LH):Prop where
 ex:∃r,M.inv g0 c g r h/\fy e (M.rd g r)/\SP (M.ob g r++(A++M.og g r)) L
structure MU{γ : Type}(M:Md γ)(g0:γ)(φ : Prop->Nat->γ->List (Nat×Value)->LH->LH->HF->Prop):Prop where
 al:∀c g r h,φ (M.inv g0 c g r h) c g (M.rd g r) (M.ob g r) (M.og g r) h
theorem E6{e:Env}:∀{K r:List (Nat×Value)},fy e K->fy e r->fy e (K++r)
 |[],_,_,h=>h
 |_::_,_,a,h=>⟨a.1,E6 a.2 h⟩
section
variable {α κ γ : Type} {M:Md γ} {g0 g:γ} {c:Nat} {h:HF} {e:Env} {A L Q G:LH} {s b:Nat} {T E:TypeId} {cap:Nat} {bs:Option Addr} {a0 a:α} {l0 l:List α} {m0 m:List (κ×α)} {o:Obj}
theorem msE(hs:SP A L):MS Md.mE () c () h e A L:=⟨⟨(),trivial,trivial,hs.perm (by simp[Md.ob,Md.og])⟩⟩
theorem msA{ac:α->List (Nat×Value)}(hr:fy e (ac a))(t:MS M g0 c g h e A L):MS (Md.mA ac M) (a0,g0) c (a,g) h e A L:=
 let ⟨r,i,d,p⟩:=t.ex;⟨⟨r,i,E6 hr d,p⟩⟩
theorem msG{R:Rp α}(hg:cI R E h l bs cap G)(hn:l.length<=l0.length+c)(hr:e s=.slice bs l.length cap)(hp:L.Perm (Q++G))(t:MS M g0 c g h e A Q):MS (Md.mG s R E M) (l0,g0) c (l,g) h e A L:=by
 obtain⟨r,i,d,p⟩:=t.ex
 constructor
 refine⟨(bs,cap,G,r),⟨⟨hg,hn⟩,i⟩,⟨hr,d⟩,(SP.app hp p).perm ?_⟩
 show((M.ob g r++(A++M.og g r))++G).Perm (M.ob g r++(A++(G++M.og g r)))
 rw[zC,zC]
 exact List.Perm.append_left _ (List.Perm.append_left _ jF)
theorem msD{f:α->List Value}{cs:List Value}(hf:f a=cs)(hp:L.Perm (Q++[(b,.cells cs.toArray T (0,0))]))(t:MS M g0 c g h e A Q):MS (Md.mD b f T M) (a0,g0) c (a,g) h e A L:=by
 obtain⟨r,i,d,p⟩:=t.ex
 constructor
 subst hf
 refine⟨r,i,d,(SP.app hp p).perm ?_⟩
 exact List.perm_append_comm.trans (by simp[Md.ob,Md.og])
theorem msF{R:Rp α}{f:List α->Option Addr->Nat->List Value}{cs:List Value}(hg:cI R E h l bs cap G)(hn:l.length<=l0.length+c)(hf:f l bs cap=cs)(hp:L.Perm (Q++G)){Q':LH}(hp2:Q.Perm (Q'++[(b,.cells cs.toArray T (0,0))]))(t:MS M g0 c g h e A Q'):MS (Md.mF b f T R E M) (l0,g0) c (l,g) h e A L:=by
 obtain⟨r,i,d,p⟩:=t.ex
 constructor
 subst hf
 refine⟨(bs,cap,G,r),⟨⟨hg,hn⟩,i⟩,d,(SP.app hp (SP.app hp2 p)).perm ?_⟩
 show(((M.ob g r++(A++M.og g r))++[_])++G).Perm (_::M.ob g r++(A++(G++M.og g r)))
 refine(List.perm_append_comm.append_right G).trans ?_
 simp only[zC,jJ,List.nil_append]
 exact List.Perm.cons _ (List.Perm.append_left _ (List.Perm.append_left _ jF))
theorem msM{enc:κ->Value}[DecidableEq κ]{V:HF->Value->α->Prop}(hm:ki enc V h o m)(hn:m.length<=m0.length+c)(hp:L.Perm (Q++[(b,o)]))(t:MS M g0 c g h e A Q):MS (Md.mM b enc V M) (m0,g0) c (m,g) h e A L:=by
 obtain⟨r,i,d,p⟩:=t.ex
 constructor
 refine⟨(o,r),⟨⟨hm,hn⟩,i⟩,d,(SP.app hp p).perm ?_⟩
 exact List.perm_append_comm.trans (by simp[Md.ob,Md.og])
theorem msJ{p:γ->Prop}(hj:p g)(t:MS M g0 c g h e A L):MS (Md.mJ p M) g0 c g h e A L:=let ⟨r,i,d,q⟩:=t.ex;⟨⟨r,⟨hj,i⟩,d,q⟩⟩
theorem muE{φ : Prop->Nat->Unit->List (Nat×Value)->LH->LH->HF->Prop}(t:∀c h,φ True c () [] [] [] h):MU Md.mE () φ:=⟨λc g r h=>t c h⟩
theorem muA{ac:α->List (Nat×Value)}{φ : Prop->Nat->α×γ->List (Nat×Value)->LH->LH->HF->Prop}(t:∀a,MU M g0 λJ c g rd ob og h=>φ J c (a,g) (ac a++rd) ob og h):MU (Md.mA ac M) (a0,g0) φ:=⟨λc g r h=>(t g.1).al c g.2 r h⟩
theorem muG{R:Rp α}{φ : Prop->Nat->List α×γ->List (Nat×Value)->LH->LH->HF->Prop}(t:∀l bs cap G,MU M g0 λJ c g rd ob og h=>φ ((cI R E h l bs cap G/\l.length<=l0.length+c)/\J) c (l,g) ((s,.slice bs l.length cap)::rd) ob (G++og) h):MU (Md.mG s R E M) (l0,g0) φ :=
 ⟨λc g r h=>(t g.1 r.1 r.2.1 r.2.2.1).al c g.2 r.2.2.2 h⟩
theorem muD{f:α->List Value}{φ : Prop->Nat->α×γ->List (Nat×Value)->LH->LH->HF->Prop}(t:∀a,MU M g0 λJ c g rd ob og h=>φ J c (a,g) rd ((b,.cells (f a).toArray T (0,0))::ob) og h):MU (Md.mD b f T M) (a0,g0) φ:=⟨λc g r h=>(t g.1).al c g.2 r h⟩
theorem muF{R:Rp α}{f:List α->Option Addr->Nat->List Value}{φ : Prop->Nat->List α×γ->List (Nat×Value)->LH->LH->HF->Prop}(t:∀l bs cap G,MU M g0 λJ c g rd ob og h=>φ ((cI R E h l bs cap G/\l.length<=l0.length+c)/\J) c (l,g) rd ((b,.cells (f l bs cap).toArray T (0,0))::ob) (G++og) h):MU (Md.mF b f T R E M) (l0,g0) φ :=
 ⟨λc g r h=>(t g.1 r.1 r.2.1 r.2.2.1).al c g.2 r.2.2.2 h⟩
theorem muM{enc:κ->Value}[DecidableEq κ]{V:HF->Value->α->Prop}{φ : Prop->Nat->List (κ×α)×γ->List (Nat×Value)->LH->LH->HF->Prop}(t:∀m o,MU M g0 λJ c g rd ob og h=>φ ((ki enc V h o m/\m.length<=m0.length+c)/\J) c (m,g) rd ((b,o)::ob) og h):MU (Md.mM b enc V M) (m0,g0) φ :=
 ⟨λc g r h=>(t g.1 r.1).al c g.2 r.2 h⟩
theorem muJ{p:γ->Prop}{φ : Prop->Nat->γ->List (Nat×Value)->LH->LH->HF->Prop}(t:MU M g0 λJ c g rd ob og h=>φ (p g/\J) c g rd ob og h):MU (Md.mJ p M) g0 φ:=⟨λc g r h=>t.al c g r h⟩
end
def Af(p:Prop):Prop:=p
def Cn(p:Prop):Prop:=p
theorem gAf(q:p):Af p:=q
theorem gCn(q:p):Cn p:=q
theorem gMU{M:Md γ}{φ:Prop->Nat->γ->List (Nat×Value)->LH->LH->HF->Prop}(q:MU M g0 φ):MU M g0 φ:=q
theorem ndM(h:p:=by
 (repeat (first|refine muA (λ_=>?_)|refine muC (λ_=>?_)|refine muG (λ_ _ _ _=>?_)|refine muB (λ_ _ _ _=>?_)|refine muM (λ_ _=>?_)|refine muD (λ_=>?_)|refine muS (λ_ _ _=>?_)|refine muF (λ_ _ _ _=>?_)|refine muV (λ_ _ _=>?_)|refine muJ ?_|fail));refine muE (λ_ _=>?_);intro hf hx e;exact edW):p:=h
def HM{α γ ρ : Type}(K:List Nat)(ix:Nat)(M:Md γ)(Lf:List α->Nat->γ->ρ):Prop:=True
theorem lM(K:List Nat)(ix:Nat)(M:Md γ)(Lf:List α->Nat->γ->ρ):HM K ix M Lf:=trivial
theorem hsM{M:Md γ}(g0:γ)(H:HM K ix M Lf)(hs:x0=Lf xs 0 g0):HM K ix M Lf/\x0=Lf xs 0 g0:=⟨H,hs⟩
section
variable {P:Program} {b:Frame} {n:Nat} {k:List Item} {F:List Frame->(Machine->Prop)->Prop} {e:Env} {ds:List Deferred} {X:Cx} {h h00:HF} {L A:LH}
theorem lpkM{M:Md γ}(H:HM K ix M Lf/\x0=Lf xs 0 g0)(hb:xs.length<=9223372036854775807)(hi0:e ix=.int .i64 ((0:Nat):Int))(hm:MS M g0 0 g0 h e A L)(hX:X.h0=h00)(h0:h00.le h)(after:MU M g0 λJ i g rd ob og hh=>J->Af (i<=xs.length->x0=Lf [] i g->h.le hh->∀e',TT P b n k F (upds e' (kp e K++((ix,.int .i64 (i:Int))::rd))) ds X hh (ob++(A++og))))(cons:MU M g0 λJ i g rd ob og hh=>J->Cn (∀y r,xs.drop i=y::r->decide ((i:Int)<(xs.length:Int))=true->xs[i]? = some y->i<xs.length->xs.length<=9223372036854775807->x0=Lf (y::r) i g->h.le hh ->
   (∀i' g' {h2 e' L'},x0=Lf [] i' g'->MS M g0 i' g' h2 e' A L'->h.le h2->(hi:i'<=xs.length:=by omega)->(hr:fy e' (kp e K++[(ix,.int .i64 (i':Int))]):=by exact rds)->TT P b n k F e' ds X h2 L') ->
   (∀g' {h2 e' L'},x0=Lf r (i+1) g'->MS M g0 (i+1) g' h2 e' A L'->h.le h2->(hr:fy e' (kp e K++[(ix,.int .i64 ((i+1:Nat):Int))]):=by exact rds)->TT P b n (.inLoop c::.inBlock id::k) F e' ds X h2 L') ->
   ∀e',TT P b n (.code c::.inLoop c::.inBlock id::k) F (upds e' (kp e K++((ix,.int .i64 (i:Int))::rd))) ds X hh (ob++(A++og))))(nil:MU M g0 λJ i g rd ob og hh=>decide ((i:Int)<(xs.length:Int))=false->(∀e',fy e' (kp e K++((ix,.int .i64 (i:Int))::rd))->TT P b n k F e' ds X hh (ob++(A++og))) ->
   ∀e',TT P b n (.code c::.inLoop c::.inBlock id::k) F (upds e' (kp e K++((ix,.int .i64 (i:Int))::rd))) ds X hh (ob++(A++og)):=by exact ndM):
  TT P b n (.code (.block id (.loop c))::k) F e ds X h L:=by
 obtain⟨r0,hi,hrd,hsp⟩:=hm.ex
 refine Dw ?_ hsp (qF _) hX h0
 have rsplit:∀{e':Env}{i:Nat}{l:List (Nat×Value)},fy e' (kp e K++[(ix,.int .i64 (i:Int))])->fy e' l->fy e' (kp e K++((ix,.int .i64 (i:Int))::l)):=by
  intro e' i l h1 h2
  have h3:=E6 h1 h2
  simpa using h3
 refine lpG (γ:=γ×M.Raw×HF) xs (λi g=>kp e K++((ix,.int .i64 (i:Int))::M.rd g.1 g.2.1)) (λg=>g.2.2) (λg=>M.ob g.1 g.2.1++(A++M.og g.1 g.2.1))
  (λi g=>M.inv g0 i g.1 g.2.1 g.2.2/\h.le g.2.2) (λs i g=>Lf s i g.1) (g0,r0,h) hb H.2 ⟨hi,qF _⟩ (tA ⟨hi0,hrd⟩) (λ_ hw=>hw) ?_ ?_ ?_
 .rintro i ⟨g,r,hh⟩ h1 h2 ⟨h3,h4⟩ e'
  exact after.al i g r hh h3 h1 h2 h4 e'
 .rintro i ⟨g,r,hh⟩ y rs a1 a2 a3 a4 a5 a6 ⟨h3,h4⟩ hx ag e'
  refine cons.al i g r hh h3 y rs a1 a2 a3 a4 a5 a6 h4 ?_ ?_ e'
  .rintro i' g' h2 e'' L' q1 ⟨⟨r',q2,q3,q4⟩⟩ q5 q7 q8
   exact Dw (hx i' (g',r',h2) q1 ⟨q2,q5⟩ q7 (rsplit q8 q3)) q4 (qF _) hX (kA h0 q5)
  .rintro g' h2 e'' L' q1 ⟨⟨r',q2,q3,q4⟩⟩ q5 q7
   exact Dw (ag (g',r',h2) q1 ⟨q2,q5⟩ (rsplit q7 q3)) q4 (qF _) hX (kA h0 q5)
 .rintro i ⟨g,r,hh⟩ hd hf hx e'
  exact nil.al i g r hh hf hx e'
end
def Rn(p:Prop):Prop:=p
def Nx(p:Prop):Prop:=p
theorem gRn(q:p):Rn p:=q
theorem gNx(q:p):Nx p:=q
def HR{α γ ρ : Type}(M:Md γ)(Lf:List α->γ->ρ)(JR:γ->Prop)(QP:List PanicEntry->Prop):Prop:=True
theorem lR(M:Md γ)(Lf:List α->γ->ρ):HR M Lf (λ_=>False) (λ_=>False):=trivial
theorem lX(pe:Int->Value)(z:Except Int σ)(M:Md γ)(Lf:List α->γ->Except Int σ):HR M Lf (λ_=>False) (λch=>∃er,ch=[{ v:=pe er,recovered:=false }]/\z=.error er):=trivial
theorem lS(z:ρ)(Lr:γ->ρ)(M:Md γ)(Lf:List α->γ->ρ):HR M Lf (λg=>z=Lr g) (λ_=>False):=trivial
theorem hsR{M:Md γ}{Lf:List α->γ->ρ}{QP:List PanicEntry->Prop}(g0:γ)(H:HR M Lf JR QP)(hs:x0=Lf xs g0):HR M Lf JR QP/\x0=Lf xs g0:=⟨H,hs⟩
def Jr(p:Prop):Prop:=p
def Pq(p:Prop):Prop:=p
theorem gJr(q:p):Jr p:=q
theorem gPq(q:p):Pq p:=q
theorem lprM{xid:Nat}{F:List Frame->(Machine->Prop)->Prop}{L A':LH}{g:Operand}{ps:List Tmp}{assign body:Code}{M:Md γ}{Lf:List α->γ->ρ}{QP:List PanicEntry->Prop}(H:HR M Lf JR QP/\x0=Lf xs g0)(hgv:e.ev g=it)(hit:Itr P it val xs h)(hf:P.funcs[f]? = some fn)(hm:MS M g0 0 g0 h e A L)(hds:ds=marks rs)(hA:A.Perm (A'++markB rs))(hX:X.h0=h00)(h0:h00.le h)(hps:ps.all (λp=>qJ p n)=true)(hval:∀x h vs,val x h vs->vs.length=ps.length)(round:MU M g0 λJ c g rd ob og hh=>J->Rn (∀(l r:Nat)(lp:Loop)(x:α)(rest:List α)(vs:List Value)(h':HF)(X:Cx)(FR:List Frame->(Machine->Prop)->Prop),c+(rest.length+1)<=xs.length->x∈xs->h.le hh->hh.le h'->val x h' vs->X.h0=h'->(∀b∈X.M,b<X.w0.heap.size)->lp.state=.ready->x0=Lf (x::rest) g ->
   (∀g' {h2 e' L'},x0=Lf rest g'->MS M g0 (c+1) g' h2 e' ((l,.loop { lp with state:=.busy })::(r,.deferred (some []))::A) L'->h'.le h2->TT P (roundFrame l f) n [] FR e' [] X h2 L') ->
   (∀g' {h2 e' L' k'},JR g'->MS M g0 (c+1) g' h2 e' ((l,.loop { lp with state:=.busy })::(r,.deferred (some []))::A) L'->h'.le h2->TT P (roundFrame l f) n (.code .ret::k') FR e' [] X h2 L') ->
   (∀g' {h2 e' L' k'},x0=Lf [] g'->MS M g0 (c+1) g' h2 e' ((l,.loop { lp with state:=.busy })::(r,.deferred (some []))::A) L'->h'.le h2->exitTo xid k'=none->TT P (roundFrame l f) n (.code (.exit xid)::k') FR e' [] X h2 L') ->
   (∀ch {h2 e' L'},QP ch->SP ((l,.loop { lp with state:=.busy })::(r,.deferred (some []))::A) L'->TP P (roundFrame l f) n ch FR e' [] X h2 L') ->
   TT P (roundFrame l f) n [.code assign,.beginRound,.code body] FR (setParams e ps vs) [] X h' ((l,.loop lp)::(r,.deferred (some []))::(ob++(A++og)))))(next:MU M g0 λJ c g rd ob og hh=>J->Nx (∀r h',x0=Lf [] g->h.le hh->hh.le h'->TT P (bodyFrame f) n k F e (marks (r::rs)) X h' ((ob++(A'++og))++markB (r::rs))))(jret:MU M g0 λJ c g rd ob og hh=>J->Jr (∀r h',JR g->h.le hh->hh.le h'->TT P (bodyFrame f) n (.code .ret::.inBlock xid::k) F e (marks (r::rs)) X h' ((ob++(A'++og))++markB (r::rs))))(pan:Pq (∀r ch h' L',QP ch->TP P (bodyFrame f) n ch F e (marks (r::rs)) X h' (L'++markB (r::rs)))):
  TT P (bodyFrame f) n (.code (.rangeFunc g ps.toArray assign body)::.inBlock xid::k) F e ds X h L:=by
 obtain⟨r0,hi,hrd,hsp⟩:=hm.ex
 subst hds
 have hpm:∀(O G:LH),(O++(A++G)).Perm ((O++(A'++G))++markB rs):=by
  intro O G
  rw[zC,zC]
  refine List.Perm.append_left O ((hA.append_right G).trans ?_)
  rw[zC]
  exact List.Perm.append_left A' jF
 refine Dw ?_ hsp (qF _) hX h0
 refine jw (hpm _ _) (KZ (ι:=γ×M.Raw×HF×Nat) rs (λi=>i.2.2.1) (λi=>M.ob i.1 i.2.1++(A'++M.og i.1 i.2.1))
  (λs i=>(i.2.2.2+s.length<=xs.length/\x0=Lf s i.1/\s <:+ xs)/\M.inv g0 i.2.2.2 i.1 i.2.1 i.2.2.1/\h.le i.2.2.1) (λi=>JR i.1/\M.inv g0 i.2.2.2 i.1 i.2.1 i.2.2.1/\h.le i.2.2.1) xid (λch _ _=>QP ch) (g0,r0,h,0) hf hgv hit hps hval (λ_ _ _ _ _ hq=>hq) rfl rfl ⟨⟨by simp,H.2,List.suffix_refl _⟩,hi,qF _⟩ ?_ ?_
  (λr i h' q hl1 _=>jret.al i.2.2.2 i.1 i.2.1 i.2.2.1 q.2.1 r h' q.1 q.2.2 hl1) (λr ch h' L' q _=>pan r ch h' L' q))
 .rintro l r lp x rest vs ⟨g,rw_,hh,c⟩ h' X' FR ⟨⟨hc,hs,hsu⟩,hinv,dN⟩ hl1 hl2 hv hX' hXM hlp nx rt ex pn
  have hp2:((l,Obj.loop lp)::(r,Obj.deferred (some []))::(M.ob g rw_++(A'++M.og g rw_)++markB rs)).Perm ((l,.loop lp)::(r,.deferred (some []))::(M.ob g rw_++(A++M.og g rw_))):=List.Perm.cons _ (List.Perm.cons _ (hpm _ _).symm)
  have hp3:∀g' r',(M.ob g' r'++((l,Obj.loop { lp with state:=.busy })::(r,Obj.deferred (some []))::A++M.og g' r')).Perm (rdH l r lp (M.ob g' r'++(A'++M.og g' r')++markB rs)):=by
   intro g' r'
   refine List.Perm.trans ?_ (List.Perm.cons _ (List.Perm.cons _ (hpm _ _)))
   simp only[jJ]
   refine List.perm_middle.trans (List.Perm.cons _ ?_)
   exact List.perm_middle
  have hc2:c+(rest.length+1)<=xs.length:=hc
  refine jw hp2 (round.al c g rw_ hh hinv l r lp x rest vs h' X' FR hc2 (hsu.subset (List.mem_cons_self ..)) dN hl2 hv hX' hXM hlp hs ?_ ?_ ?_ ?_)
  .rintro g' h2 e' L' q1 ⟨⟨r',q2,q3,q4⟩⟩ q5
   exact Dw (jw (hp3 g' r') (nx (g',r',h2,c+1) e' h2 ⟨⟨by show c+1+rest.length<=xs.length;omega,q1,(List.suffix_cons x rest).trans hsu⟩,q2,kA dN (kA hl2 q5)⟩ (qF _))) q4 (qF _) hX' q5
  .rintro g' h2 e' L' k' q1 ⟨⟨r',q2,q3,q4⟩⟩ q5
   exact Dw (jw (hp3 g' r') (rt (g',r',h2,c+1) e' h2 k' ⟨q1,q2,kA dN (kA hl2 q5)⟩ (qF _))) q4 (qF _) hX' q5
  .rintro g' h2 e' L' k' q1 ⟨⟨r',q2,q3,q4⟩⟩ q5 q6
   exact Dw (jw (hp3 g' r') (ex (g',r',h2,c+1) e' h2 k' ⟨⟨by show c+1+0<=xs.length;omega,q1,List.nil_suffix⟩,q2,kA dN (kA hl2 q5)⟩ (qF _) q6)) q4 (qF _) hX' q5
  .rintro ch h2 e' L' hz ⟨C,q1,q2⟩
   exact EV q1 (GZ (q2.trans (List.Perm.cons _ (List.Perm.cons _ hA))) (pn ch e' h2 A' hz))
 .rintro r ⟨g,rw_,hh,c⟩ h' ⟨⟨_,hs,_⟩,hinv,dN⟩ hl1 _
  exact next.al c g rw_ hh hinv r h' hs dN hl1
theorem pqX{fz:σ->Value}(hf:P.funcs[f]? = some fn)(hX:X.h0=hh):
  Pq (∀r ch h' L',(∃er,ch=[{ v:=pe er,recovered:=false }]/\z=.error er)->TP P (bodyFrame f) n ch (kU P X (XR (exW pe fz z) hh)) e (marks (r::rs)) X h' (L'++markB (r::rs))):=
 λr ch h' L'⟨er,e1,hs⟩=>e1▸yT (r::rs) hf hX (by rw[hs];rfl)
def HK{α ρ : Type}(K:List Nat)(ix:Nat)(Lf:List α->Nat->ρ):Prop:=True
theorem lK(K:List Nat)(ix:Nat)(Lf:List α->Nat->ρ):HK K ix Lf:=trivial
theorem hsK{Lf:List α->Nat->ρ}(H:HK K ix Lf)(hs:x0=Lf xs 0):HK K ix Lf/\x0=Lf xs 0:=⟨H,hs⟩
theorem lpkR{F:List Frame->(Machine->Prop)->Prop}{L:LH}{Lf:List α->Nat->ρ}(H:HK K ix Lf/\x0=Lf xs 0)(hb:xs.length<=9223372036854775807)(hi0:e ix=.int .i64 ((0:Nat):Int))(hds:ds=marks rs)(hA:L.Perm (A++markB rs))(hX:X.h0=h00)(h0:h00.le h)(after:∀i rs hh,i<=xs.length->x0=Lf [] i->h.le hh->∀e',TT P b n k F (upds e' (kp e K++[(ix,.int .i64 (i:Int))])) (marks rs) X hh (A++markB rs))(cons:∀i rs hh y r,xs.drop i=y::r->decide ((i:Int)<(xs.length:Int))=true->xs[i]? = some y->i<xs.length->xs.length<=9223372036854775807->x0=Lf (y::r) i->h.le hh ->
   (∀i' {rs h2 e' L'},x0=Lf [] i'->h.le h2->SP (A++markB rs) L'->(hi:i'<=xs.length:=by omega)->(hr:fy e' (kp e K++[(ix,.int .i64 (i':Int))]):=by exact rds)->TT P b n k F e' (marks rs) X h2 L') ->
   (∀{rs h2 e' L'},x0=Lf r (i+1)->h.le h2->SP (A++markB rs) L'->(hr:fy e' (kp e K++[(ix,.int .i64 ((i+1:Nat):Int))]):=by exact rds)->TT P b n (.inLoop c::.inBlock id::k) F e' (marks rs) X h2 L') ->
   ∀e',TT P b n (.code c::.inLoop c::.inBlock id::k) F (upds e' (kp e K++[(ix,.int .i64 (i:Int))])) (marks rs) X hh (A++markB rs))(nil:∀i(g:List Nat×HF),xs.drop i=[]->decide ((i:Int)<(xs.length:Int))=false->(∀e',fy e' (kp e K++[(ix,.int .i64 (i:Int))])->TT P b n k F e' (marks g.1) X g.2 (A++markB g.1)) ->
   ∀e',TT P b n (.code c::.inLoop c::.inBlock id::k) F (upds e' (kp e K++[(ix,.int .i64 (i:Int))])) (marks g.1) X g.2 (A++markB g.1):=by exact ndW):
  TT P b n (.code (.block id (.loop c))::k) F e ds X h L:=by
 subst hds
 refine jw hA ?_
 refine yS (ι:=Nat×List Nat×HF) (λi=>kp e K++[(ix,.int .i64 (i.1:Int))]) (λi=>marks i.2.1) (λi=>i.2.2) (λi=>A++markB i.2.1) (λi=>i.1<=xs.length/\x0=Lf [] i.1/\h.le i.2.2) ?_ (λhx=>?_)
 .rintro⟨i,rs,hh⟩ ⟨h1,h2,h3⟩ e'
  exact after i rs hh h1 h2 h3 e'
 .refine Dy (ι:=Nat×List Nat×HF×List α) (λi=>kp e K++[(ix,.int .i64 (i.1:Int))]) (λi=>marks i.2.1) (λi=>i.2.2.1) (λi=>A++markB i.2.1) (λi=>xs.drop i.1=i.2.2.2/\i.1<=xs.length/\x0=Lf i.2.2.2 i.1/\h.le i.2.2.1) (λi=>i.2.2.2.length) (0,rs,h,xs) rfl (tA ⟨hi0,trivial⟩) (λ_ hw=>hw) ⟨rfl,jH _,H.2,qF _⟩ ?_
  rintro⟨i,rs,hh,s⟩ ⟨hd,hi,hs,hl⟩ ag e'
  dsimp only at hd hi hs hl
  rcases s with _|⟨y,r⟩
  .exact nil i (rs,hh) hd (oW hd) (λe'' hr=>hx (i,rs,hh) e'' ⟨hi,hs,hl⟩ hr) e'
  .refine cons i rs hh y r hd (wp hd) (ui hd) (iy hd) hb hs hl ?_ ?_ e'
   .intro i' rs' h2 e'' L' q1 q2 q3 q4 q5
    exact Dw (hx (i',rs',h2) e'' ⟨q4,q1,q2⟩ q5) q3 (qF _) hX (kA h0 q2)
   .intro rs' h2 e'' L' q1 q2 q3 q5
    exact Dw (ag (i+1,rs',h2,r) e'' (Nat.lt_succ_self _) ⟨ll hd,iy hd,q1,q2⟩ q5) q3 (qF _) hX (kA h0 q2)
section
variable {P:Program} {f:FuncId} {n:Nat} {k:List Item} {e:Env} {X:Cx} {h:HF} {L Q:LH} {fn:Func} {rs:List ResultVar} {ms:List Nat}
theorem wrPM(vs:List Value)(hp:L.Perm (Q++markB ms))(hf:P.funcs[f]? = some fn)(hr:fn.results=rs.toArray)(hv:qj P e Q rs vs)(hX:X.h0=hh)(hvv:retVal vs=v):
  TT P (bodyFrame f) n (.code .ret::k) (kU P X (λx h' B=>x=.returned v/\h'=hh/\B=[])) e (marks ms) X h L:=jw hp (Dx ms vs hf hr hX hv hvv)
theorem wrHM{φ : Value->HF->Prop}(vs:List Value)(hp:L.Perm (Q++markB ms))(hf:P.funcs[f]? = some fn)(hr:fn.results=rs.toArray)(hv:qj P e Q rs vs)(hφ : φ (retVal vs) h):
  TT P (bodyFrame f) n (.code .ret::k) (kU P X (λx h' B=>B=[]/\∃v,x=.returned v/\φ v h')) e (marks ms) X h L:=jw hp (rC ms vs hf hr hv hφ)
theorem weXM{z:Except Int ρ}(hs:z=.ok r)(vs:List Value)(hp:L.Perm (Q++markB ms))(hf:P.funcs[f]? = some fn)(hr:fn.results=rs.toArray)(hX:X.h0=hh)(hv:qj P e Q rs vs)(hvv:retVal vs=f' r):
  TT P (bodyFrame f) n [] (kU P X (XR (exW pe f' z) hh)) e (marks ms) X h L:=jw hp (Mc ms vs hf hr hX hv (by rw[hs,hvv];rfl))
theorem gBr{F:List Frame->(Machine->Prop)->Prop}(t:TT P b n (.beginRound::k) F e ds X h L):TT P b n (.beginRound::k) F e ds X h L:=t
theorem gRf{F:List Frame->(Machine->Prop)->Prop}{g:Operand}{ps:Array Tmp}{p q:Code}(t:TT P b n (.code (.rangeFunc g ps p q)::k) F e ds X h L):TT P b n (.code (.rangeFunc g ps p q)::k) F e ds X h L:=t
end
end
variable {V:HF->Go.Value->α->Prop}{a:Bool}{fv:ρ->Go.Value}{kk:ρ->Except Int σ}{mm sz:Nat}{parts:List (Nat×Operand)}{vs zs:List Go.Value}{κ:Type}
section
open Go.Proofs Go.Proofs.Tryz
def wT:List (Nat×(Nat×Bool)):=(224,(1,false))::(280,(1,false))::(288,(1,false))::(325,(2,true))::(31,(1,false))::(351,(1,false))::(3,(1,false))::(37,(1,false))::(375,(1,true))::(329,(2,true))::(327,(1,false))::(326,(1,false))::(330,(1,false))::(78,(7,true))::(24,(1,false))::(4,(1,false))::(26,(1,false))::(256,(1,false))::(275,(2,true))::(218,(6,true))::(153,(1,false))::(133,(1,false))::(168,(1,false))::(185,(2,true))::(54,(41,true))::(183,(1,false))::(36,(4,true))::(94,(2,true))::(33,(1,false))::(91,(50,true))::(25,(1,false))::(32,(1,false))::(61,(10,true))::(115,(5,true))::(93,(1,false))::(195,(1,false))::(44,(1,false))::(199,(1,false))::(240,(1,false))::(76,(7,true))::(150,(10,true))::(81,(8,true))::(382,(1,false))::(59,(5,true))::(57,(1,false))::(316,(6,true))::(56,(1,false))::(65,(8,true))::(55,(1,false))::(9,(1,false))::(293,(1,false))::(63,(13,true))::(67,(8,true))::(22,(1,false))::(23,(1,false))::(27,(1,false))::(28,(1,false))::(30,(7,true))::(395,(4,true))::(391,(1,false))::(398,(1,false))::(178,(1,false))::(341,(5,true))::(400,(4,true))::(384,(1,false))::(386,(3,true))::(226,(5,true))::(229,(2,true))::(284,(2,true))::(241,(1,false))::(292,(3,true))::(409,(1,false))::(359,(1,false))::(360,(5,true))::(69,(2,true))::(130,(1,false))::[]
def wZ:List (Nat×List Value):=(325,[.int .i64 0,.int .i64 0])::(3,[.int .i64 0])::(37,[.int .i64 0])::(375,[.int .i64 0])::(329,[.slice none 0 0,.int .i64 0])::(78,[.int .i64 0,.int .i64 0,.int .i64 0,.int .i64 0,.int .i64 0,.bool false,.bool false])::(326,[.map none])::(224,[.map none])::(327,[.chan none])::(330,[.nilFunc])::(256,[.nilFunc])::(31,[.slice none 0 0])::(275,[.slice none 0 0,.int .i64 0])::(218,[.slice none 0 0,.map none,.slice none 0 0,.slice none 0 0,.slice none 0 0,.map none])::(153,[.pointer none])::(133,[.map none])::(168,[.slice none 0 0])::(185,[.slice none 0 0,.map none])::(54,(.int .i64 0::.int .i64 0::.int .i64 0::.int .i64 0::.int .i64 0::.int .i64 0::.slice none 0 0::.slice none 0 0::.slice none 0 0::.int .u8 0::.int .u8 0::.int .u8 0::.int .u8 0::.int .u8 0::.int .u8 0::.int .u8 0::.int .u8 0::.int .u8 0::.int .u8 0::.int .u8 0::.int .u8 0::.int .u8 0::.int .u8 0::.int .u8 0::.int .u8 0::.int .u8 0::.int .u8 0::.int .u8 0::.int .u8 0::.int .u8 0::.int .u8 0::.int .u8 0::.int .u8 0::.int .u8 0::.int .u8 0::.int .u8 0::.int .u8 0::.int .u8 0::.int .u8 0::.int .u8 0::.int .u8 0::[]))::(183,[.map none])::(36,[.int .i64 0,.int .i64 0,.slice none 0 0,.slice none 0 0])::(94,[.int .i64 0,.nilFunc])::(91,(.slice none 0 0::.slice none 0 0::.slice none 0 0::.slice none 0 0::.slice none 0 0::.slice none 0 0::.slice none 0 0::.int .i64 0::.int .i64 0::.int .i64 0::.int .i64 0::.int .i64 0::.int .i64 0::.slice none 0 0::.slice none 0 0::.slice none 0 0::.int .u8 0::.int .u8 0::.int .u8 0::.int .u8 0::.int .u8 0::.int .u8 0::.int .u8 0::.int .u8 0::.int .u8 0::.int .u8 0::.int .u8 0::.int .u8 0::.int .u8 0::.int .u8 0::.int .u8 0::.int .u8 0::.int .u8 0::.int .u8 0::.int .u8 0::.int .u8 0::.int .u8 0::.int .u8 0::.int .u8 0::.int .u8 0::.int .u8 0::.int .u8 0::.int .u8 0::.int .u8 0::.int .u8 0::.int .u8 0::.int .u8 0::.int .u8 0::.int .i64 0::.int .i64 0::[]))::(61,[.string (⟨#[]⟩:ByteArray),.slice none 0 0,.slice none 0 0,.slice none 0 0,.int .i64 0,.int .i64 0,.int .i64 0,.string (⟨#[]⟩:ByteArray),.slice none 0 0,.int .i64 0])::(4,[.bool false])::(115,[.bool false,.slice none 0 0,.slice none 0 0,.slice none 0 0,.nilFunc])::(93,[.nilFunc])::(195,[.slice none 0 0])::(44,[.slice none 0 0])::(199,[.slice none 0 0])::(240,[.slice none 0 0])::(76,[.int .i64 0,.int .i64 0,.int .i64 0,.int .i64 0,.int .i64 0,.int .i64 0,.bool false])::(150,[.int .i64 0,.int .i64 0,.int .i64 0,.int .i64 0,.int .i64 0,.int .i64 0,.int .i64 0,.int .i64 0,.int .i64 0,.bool false])::(81,[.int .i64 0,.int .i64 0,.int .i64 0,.int .i64 0,.int .i64 0,.int .i64 0,.int .i64 0,.bool false])::(316,[.int .i64 0,.int .i64 0,.int .i64 0,.string (⟨#[]⟩:ByteArray),.slice none 0 0,.int .i64 0])::(59,[.int .i64 0,.int .i64 0,.int .i64 0,.string (⟨#[]⟩:ByteArray),.slice none 0 0])::(65,[.string (⟨#[]⟩:ByteArray),.int .i64 0,.int .i64 0,.int .i64 0,.int .i64 0,.int .i64 0,.string (⟨#[]⟩:ByteArray),.slice none 0 0])::(57,[.slice none 0 0])::(63,[.int .i64 0,.int .i64 0,.int .i64 0,.string (⟨#[]⟩:ByteArray),.slice none 0 0,.slice none 0 0,.slice none 0 0,.int .i64 0,.int .i64 0,.int .i64 0,.string (⟨#[]⟩:ByteArray),.slice none 0 0,.int .i64 0])::(67,[.int .i64 0,.int .i64 0,.int .i64 0,.int .i64 0,.int .i64 0,.int .i64 0,.int .i64 0,.bool false])::(395,[.int .i64 0,.int .i64 0,.int .i64 0,.int .i64 0])::(28,[.slice none 0 0])::(391,[.map none])::(400,[.int .i64 0,.int .i64 0,.int .i64 0,.int .i64 0])::(178,[.nilFunc])::(398,[.map none])::(341,[.int .i64 0,.int .i64 0,.int .i64 0,.int .i64 0,.int .i64 0])::(386,[.int .i64 0,.int .i64 0,.bool false])::(384,[.map none])::(226,[.int .i64 0,.int .i64 0,.int .i64 0,.int .i64 0,.int .i64 0])::(229,[.int .i64 0,.int .i64 0])::(26,[.slice none 0 0])::(284,[.int .i64 0,.int .i64 0])::(409,[.nilFunc])::(360,[.nilFunc,.nilFunc,.nilFunc,.nilFunc,.nilFunc])::(292,[.int .i64 0,.slice none 0 0,.slice none 0 0])::(241,[.slice none 0 0])::(9,[.string (⟨#[]⟩:ByteArray)])::(30,[.slice none 0 0,.slice none 0 0,.slice none 0 0,.slice none 0 0,.slice none 0 0,.slice none 0 0,.slice none 0 0])::(69,[.int .i64 0,.int .i64 0])::[]
def wB:List (Nat×Nat):=(325,16)::(3,8)::(78,48)::(329,32)::(275,32)::(4,1)::(93,8)::(195,24)::(44,24)::(240,24)::(59,64)::(65,96)::(67,64)::(150,80)::(81,64)::(63,184)::(284,16)::(241,24)::(69,16)::(76,56)::[]
def wS:List (Nat×Nat):=(22,76)::(23,150)::(24,78)::(25,81)::(26,63)::(27,54)::(28,67)::(31,3)::(32,226)::(44,69)::(55,9)::(56,65)::(57,59)::(97,94)::(110,37)::(125,31)::(168,4)::(195,93)::(199,44)::(240,241)::(241,284)::(272,275)::(351,325)::[]
def wL:List (Nat×Bool):=(22,true)::(23,true)::(24,true)::(25,true)::(26,true)::(27,true)::(28,true)::(31,true)::(32,true)::(44,true)::(55,true)::(56,true)::(57,true)::(97,true)::(110,true)::(125,true)::(168,true)::(195,true)::(199,true)::(240,true)::(241,true)::(272,true)::(351,true)::(9,false)::(10,false)::(11,false)::[]
def wI:List (Nat×IntKind):=(2,.i64)::(3,.i64)::(5,.u8)::(6,.u8)::(12,.u64)::(37,.i64)::(198,.u64)::(266,.u32)::(268,.u64)::(295,.i64)::(361,.u64)::(438,.u8)::(439,.u8)::[]
def wP:List (Nat×List (Nat×Nat)):=(30,[(0,1),(1,1),(2,1),(3,1),(4,1),(5,1),(6,1)])::(36,[(0,1),(1,1),(2,1),(3,1)])::(54,[(0,1),(1,1),(2,1),(3,1),(4,1),(5,1),(6,1),(7,1),(8,1),(9,32)])::(59,[(0,1),(1,1),(2,1),(3,1),(4,1)])::(61,[(0,1),(1,1),(2,1),(3,1),(4,5),(9,1)])::(63,[(0,1),(1,1),(2,1),(3,10)])::(65,[(0,1),(1,1),(2,1),(3,5)])::(67,[(0,1),(1,1),(2,1),(3,1),(4,1),(5,1),(6,1),(7,1)])::(69,[(0,1),(1,1)])::(76,[(0,1),(1,1),(2,1),(3,1),(4,1),(5,1),(6,1)])::(78,[(0,1),(1,1),(2,1),(3,1),(4,1),(5,1),(6,1)])::(81,[(0,1),(1,1),(2,1),(3,1),(4,1),(5,1),(6,1),(7,1)])::(91,[(0,7),(7,41),(48,1),(49,1)])::(94,[(0,1),(1,1)])::(115,[(0,1),(1,1),(2,1),(3,1),(4,1)])::(150,[(0,1),(1,1),(2,1),(3,1),(4,1),(5,1),(6,1),(7,1),(8,1),(9,1)])::(185,[(0,1),(1,1)])::(218,[(0,2),(2,1),(3,1),(4,1),(5,1)])::(226,[(0,1),(1,1),(2,1),(3,1),(4,1)])::(229,[(0,1),(1,1)])::(275,[(0,1),(1,1)])::(284,[(0,1),(1,1)])::(292,[(0,1),(1,1),(2,1)])::(316,[(0,5),(5,1)])::(325,[(0,1),(1,1)])::(329,[(0,1),(1,1)])::(341,[(0,1),(1,1),(2,1),(3,1),(4,1)])::(375,[(0,1)])::(386,[(0,1),(1,1),(2,1)])::(395,[(0,1),(1,1),(2,1),(3,1)])::(400,[(0,1),(1,1),(2,1),(3,1)])::[]
def wF:List (Nat×Nat×Nat):=(375,0,0)::(329,0,0)::(329,1,1)::(78,0,0)::(78,3,3)::(78,4,4)::(78,5,5)::(284,1,1)::(275,0,0)::(275,1,1)::(218,0,0)::(218,1,2)::(218,2,3)::(218,3,4)::(218,4,5)::(185,0,0)::(185,1,1)::(54,0,0)::(54,7,7)::(54,8,8)::(36,0,0)::(36,1,1)::(36,2,2)::(36,3,3)::(94,0,0)::(94,1,1)::(30,3,3)::(30,4,4)::(30,5,5)::(91,0,0)::(91,1,7)::(91,2,48)::(91,3,49)::(54,1,1)::(54,2,2)::(54,3,3)::(115,0,0)::(115,1,1)::(115,2,2)::(115,3,3)::(115,4,4)::(76,6,6)::(76,0,0)::(76,1,1)::(76,2,2)::(76,3,3)::(76,4,4)::(76,5,5)::(150,0,0)::(150,1,1)::(150,2,2)::(150,4,4)::(150,5,5)::(150,6,6)::(150,7,7)::(150,9,9)::(150,3,3)::(150,8,8)::(78,1,1)::(78,2,2)::(81,7,7)::(81,0,0)::(81,1,1)::(81,2,2)::(81,3,3)::(81,4,4)::(81,5,5)::(81,6,6)::(59,4,4)::(61,3,3)::(65,3,3)::(61,4,4)::(61,2,2)::(61,1,1)::(316,1,5)::(59,0,0)::(61,0,0)::(316,0,0)::(59,3,3)::(59,1,1)::(61,5,9)::(65,0,0)::(65,2,2)::(59,2,2)::(65,1,1)::(63,0,0)::(63,1,1)::(63,2,2)::(63,3,3)::(54,4,4)::(54,5,5)::(54,6,6)::(67,0,0)::(67,1,1)::(67,2,2)::(67,3,3)::(67,4,4)::(67,5,5)::(67,6,6)::(30,0,0)::(30,1,1)::(30,2,2)::(30,6,6)::(67,7,7)::(341,0,0)::(341,1,1)::(341,2,2)::(341,3,3)::(341,4,4)::(78,6,6)::(226,0,0)::(226,1,1)::(226,2,2)::(226,3,3)::(226,4,4)::(325,1,1)::(325,0,0)::(284,0,0)::(292,1,1)::(292,2,2)::(292,0,0)::(69,0,0)::(69,1,1)::[]
theorem ox:wT.map (λx=>tySz prog x.1)=wT.map (λx=>some x.2):=by kernel_rfl
theorem KT:wZ.map (λx=>zeroC prog x.1)=wZ.map (λx=>some x.2):=by kernel_rfl
theorem Wc:wB.map (λx=>bytesOf prog x.1)=wB.map (λx=>some x.2):=by kernel_rfl
theorem FJ:wS.map (λx=>sliceE prog x.1)=wS.map (λx=>some x.2):=by kernel_rfl
theorem Hr:wL.map (λx=>lenK prog x.1)=wL.map (λx=>some x.2):=by kernel_rfl
theorem Wb:wI.map (λx=>intK prog x.1)=wI.map (λx=>some x.2):=by kernel_rfl
theorem Xf:wP.map (λx=>plcs prog x.1)=wP.map (λx=>some x.2):=by kernel_rfl
theorem KU:(wF.all λx=>fldOf prog x.1 x.2.1==some x.2.2)=true:=by kernel_rfl
class Cl(f:FuncId):Prop where
 call:∀args w,(callFunc f args).run prog w=.ok (.enter f args) w
class CtI(f:FuncId) where
 p:Prop
 pf:p
class Ct(f:FuncId) where
 p:Prop
 call:∀args w,(callFunc f args).run prog w=.ok (.enter f args) w
 pf:p
instance:RpG cm.rp:=⟨cm.eF⟩
instance:RpG Use.rp:=⟨Use.eF⟩
instance:RpG aQ.rp:=⟨aQ.eF⟩
instance:RpG bj.rp:=⟨bj.eF⟩
instance:RpG aG.rp:=⟨aG.eF⟩
instance:RpG xS:=⟨Budget.eF⟩
instance:RpG ai.rp:=⟨ai.eF⟩
instance:RpG ao.rp:=⟨ao.eF⟩
instance:RpG aD.rp:=⟨aD.eF⟩
instance:RpG av.rp:=⟨av.eF⟩
instance:RpG eQ.rp:=⟨eQ.eF⟩
class Sub(cl:List Value)(off m:Nat)(cs:outParam (List Value)):Prop where
 pf:cut cl off m=some cs
instance (x:fg) (r:yN):Sub (fg.cells x r) 3 5 (ao.cells x.ao r.ao):=⟨rfl⟩
instance (x:aD) (r:nP):Sub (aD.cells x r) 3 10 (ay.cells x.ay r.ay):=⟨rfl⟩
class UpI(cl:List Value)(off:Nat)(f:outParam (Int->List Value)):Prop where
 pf:∀a,splice cl off [.int .i64 a]=f a
class UpB(cl:List Value)(off:Nat)(f:outParam (Bool->List Value)):Prop where
 pf:∀a,splice cl off [.bool a]=f a
class UpS(cl:List Value)(off:Nat)(f:outParam (ByteArray->List Value)):Prop where
 pf:∀a,splice cl off [.string a]=f a
class UpL(cl:List Value)(off:Nat){α : outParam Type}(f:outParam (List α->Option Addr->Nat->List Value)):Prop where
 pf:∀l b c,splice cl off [.slice b l.length c]=f l b c
class UpA(cl:List Value)(off:Nat)(vs:List Value)(cl2:outParam (List Value)):Prop where
 pf:splice cl off vs=cl2
class RpT(E:Nat){α : outParam Type}(R:outParam (Rp α)):Prop where
 pf:R.Good
instance:RpT 3 Rp.int:=⟨RpG.good⟩
instance:RpT 59 ao.rp:=⟨RpG.good⟩
instance:RpT 69 eQ.rp:=⟨RpG.good⟩
instance:RpT 81 xS:=⟨RpG.good⟩
instance:RpT 150 bj.rp:=⟨RpG.good⟩
instance:RpT 241 (Rp.sl cm.rp):=⟨RpG.good⟩
instance:RpT 284 cm.rp:=⟨RpG.good⟩
section
variable {b:Frame} {n:Nat} {k:List Item} {F:List Frame->(Machine->Prop)->Prop} {e:Env} {ds:List Deferred} {X:Cx} {h:HF} {L:LH}
variable {ops ops':Array Oper} {l l':List Oper} {d:Nat} {ty:TypeId} {pos:String} {af:Array Edge} {g:Option (Nat×Bool)} {k':List Item} {e':Env}
theorem wtt(hr:goM false wF wL n 300 (.tt k e)=some (.tt k' e'))(t:TT prog b n k' F e' ds X h L):TT prog b n k F e ds X h L:=I4 (s':=.tt k' e') KU Hr hr t
theorem wto(hr:goM false wF wL n 300 (.tt k e)=some (.to ops' l' k' e'))(t:TO prog b n ops' l' k' F e' ds X h L):TT prog b n k F e ds X h L:=I4 (s':=.to ops' l' k' e') KU Hr hr t
theorem wot(hr:goM false wF wL n 300 (.to ops l k e)=some (.tt k' e'))(t:TT prog b n k' F e' ds X h L):TO prog b n ops l k F e ds X h L:=I4 (s':=.tt k' e') KU Hr hr t
theorem woo(hr:goM false wF wL n 300 (.to ops l k e)=some (.to ops' l' k' e'))(t:TO prog b n ops' l' k' F e' ds X h L):TO prog b n ops l k F e ds X h L:=I4 (s':=.to ops' l' k' e') KU Hr hr t
theorem wgo(hr:goM true wF wL n 0 (.to ops l k e)=some (.to ops' l' k' e'))(t:TO prog b n ops' l' k' F e' ds X h L):TO prog b n ops l k F e ds X h L:=I4 (s':=.to ops' l' k' e') KU Hr hr t
theorem wld{t:TypeId}{off:Nat}(hT:lookN wT t=some (m,a))(hx:e.ev x=.pointer (some ⟨bk,off,none⟩))(hL:nth L i=some (bk,.cells cl.toArray T fz))(hv:ldV a m cl off=some v)(t':TO prog b n ops l k F (upd e d v) ds X h L)(hd:Nat.blt d n=true:=by rfl)(hg:guardB ops e ⟨some d,.load t x,ty,pos,af,g⟩=true:=by rfl):TO prog b n ops (⟨some d,.load t x,ty,pos,af,g⟩::l) k F e ds X h L:=by
 cases a with
 |false=>exact pJ i (tabq (f:=tySz prog) ox hT) hx hL hv t' hd hg
 |true=>
  unfold ldV at hv;split at hv
  .next h1=>cases h1
  .split at hv
   .next hc=>cases hv;exact eS i (tabq (f:=tySz prog) ox hT) hx hL hc t' hd hg
   .cases hv
theorem wlh{t:TypeId}{q:Addr}{cs:List Value}(hT:lookN wT t=some (m,a))(hx:e.ev x=.pointer (some (q.add j)))(ha:At h q cs)(hv:ldV a m cs j=some v)(t':TO prog b n ops l k F (upd e d v) ds X h L)(hd:Nat.blt d n=true:=by rfl)(hg:guardB ops e ⟨some d,.load t x,ty,pos,af,g⟩=true:=by rfl):TO prog b n ops (⟨some d,.load t x,ty,pos,af,g⟩::l) k F e ds X h L:=by
 cases a with
 |false=>exact nv (tabq (f:=tySz prog) ox hT) ha hx hv t' hd hg
 |true=>
  unfold ldV at hv;split at hv
  .next h1=>cases h1
  .split at hv
   .next hc=>cases hv;exact II (tabq (f:=tySz prog) ox hT) ha hx hc t' hd hg
   .cases hv
theorem wlhS{t:TypeId}{q:Addr}{cs cs':List Value}(hT:lookN wT t=some (m,true))(hx:e.ev x=.pointer (some (q.add j)))(ha:At h q cs)[s:Sub cs j m cs'](t':TO prog b n ops l k F (upd e d (.agg cs'.toArray)) ds X h L)(hd:Nat.blt d n=true:=by rfl)(hg:guardB ops e ⟨some d,.load t x,ty,pos,af,g⟩=true:=by rfl):TO prog b n ops (⟨some d,.load t x,ty,pos,af,g⟩::l) k F e ds X h L:=II (tabq (f:=tySz prog) ox hT) ha hx s.pf t' hd hg
theorem wlh0{t:TypeId}{q:Addr}{cs:List Value}(hT:lookN wT t=some (m,false))(hx:e.ev x=.pointer (some q))(ha:At h q (v::cs))(t':TO prog b n ops l k F (upd e d v) ds X h L)(hd:Nat.blt d n=true:=by rfl)(hg:guardB ops e ⟨some d,.load t x,ty,pos,af,g⟩=true:=by rfl):TO prog b n ops (⟨some d,.load t x,ty,pos,af,g⟩::l) k F e ds X h L:=fV (tabq (f:=tySz prog) ox hT) ha hx t' hd hg
theorem wlhs{t:TypeId}{q:Addr}{cs:List Value}(hT:lookN wT t=some (m,true))(hx:e.ev x=.pointer (some q))(ha:At h q cs)(hm:cs.length=m)(t':TO prog b n ops l k F (upd e d (.agg cs.toArray)) ds X h L)(hd:Nat.blt d n=true:=by rfl)(hg:guardB ops e ⟨some d,.load t x,ty,pos,af,g⟩=true:=by rfl):TO prog b n ops (⟨some d,.load t x,ty,pos,af,g⟩::l) k F e ds X h L:=gV (tabq (f:=tySz prog) ox hT) ha hm hx t' hd hg
theorem wsW{t:TypeId}{y:Operand}(hT:lookN wT t=some (m,a))(hx:e.ev x=.pointer (some ⟨bk,0,none⟩))(hv:e.ev y=.agg vs.toArray)(hL:nth L i=some (bk,.cells cl.toArray T (0,0)))(hm:vs.length=m)(hc:cl.length=m)(h1:vs.all one=true)(t':TO prog b n ops l k F e ds X h (setNth L i (bk,.cells vs.toArray T (0,0))))(hg:guardB ops e ⟨none,.store t x y,ty,pos,af,g⟩=true:=by rfl):TO prog b n ops (⟨none,.store t x y,ty,pos,af,g⟩::l) k F e ds X h L:=ct i (tabq (f:=tySz prog) ox hT) hx hL hv hm hc h1 t' hg
theorem wst{t:TypeId}{y:Operand}{off:Nat}(hT:lookN wT t=some (m,a))(hx:e.ev x=.pointer (some ⟨bk,off,none⟩))(hL:nth L i=some (bk,.cells cl.toArray T (0,0)))(hv:vcells (e.ev y)=vs)(hm:vs.length=m)(dN:Zt (off+vs.length) cl.length=true)(h1:vs.all one=true)(t':TO prog b n ops l k F e ds X h (setNth L i (bk,.cells (splice cl off vs).toArray T (0,0))))(hg:guardB ops e ⟨none,.store t x y,ty,pos,af,g⟩=true:=by rfl):TO prog b n ops (⟨none,.store t x y,ty,pos,af,g⟩::l) k F e ds X h L:=dD i (tabq (f:=tySz prog) ox hT) hx hL hv hm dN h1 t' hg
theorem wbxA{d:Nat}{t:TypeId}{cs:List Value}(hv:e.ev x=.agg cs.toArray)(t':∀bk,TO prog b n ops l k F (upd e d (.pointer (some ⟨bk,0,none⟩))) ds X h ((bk,.cells cs.toArray t (0,0))::L))(hd:Nat.blt d n=true:=by rfl)(hg:guardB ops e ⟨some d,.box t x,ty,pos,af,g⟩=true:=by rfl):TO prog b n ops (⟨some d,.box t x,ty,pos,af,g⟩::l) k F e ds X h L:=
 iA (λbk=>by rw[hv];exact t' bk) hd hg
theorem wix{t:TypeId}{ix:Operand}{z:Int}(hT:lookN wS t=some E)(hx:e.ev x=.slice base m cap)(hix:e.ev ix=.int .i64 z)(hm:m=xs.length)(hR:SlC R h base cap xs)(hS:lookN wT E=some (R.sz,a))(hz:0<=z/\z<(xs.length:Int))(hj:xs[z.toNat]? = some y)(t':∀q cs,At h q cs->cs.length=R.sz->R.rep h cs y->TO prog b n ops l k F (upd e d (.pointer (some q))) ds X h L)(hd:Nat.blt d n=true:=by rfl)(hg:guardB ops e ⟨some d,.indexAddr t x ix,ty,pos,af,g⟩=true:=by rfl):TO prog b n ops (⟨some d,.indexAddr t x ix,ty,pos,af,g⟩::l) k F e ds X h L:=
 aM (Q4 (rf (tabq (f:=sliceE prog) FJ hT)) (tabq (f:=tySz prog) ox hS) hR.1 hz hj hx hm hix t' hg) rfl hd
theorem wixw{t:TypeId}{ix:Operand}{z:Int}(hT:lookN wS t=some E)(hx:e.ev x=.slice base m cap)(hix:e.ev ix=.int .i64 (IntKind.i64.wrap z))(hm:m=xs.length)(hR:SlC R h base cap xs)(hS:lookN wT E=some (R.sz,a))(hz:0<=z/\z<(xs.length:Int))(hj:xs[z.toNat]? = some y)(t':∀q cs,At h q cs->cs.length=R.sz->R.rep h cs y->TO prog b n ops l k F (upd e d (.pointer (some q))) ds X h L)(hd:Nat.blt d n=true:=by rfl)(hg:guardB ops e ⟨some d,.indexAddr t x ix,ty,pos,af,g⟩=true:=by rfl):TO prog b n ops (⟨some d,.indexAddr t x ix,ty,pos,af,g⟩::l) k F e ds X h L:=
 wix hT hx (hix.trans (kW (by have:=hR.1.1;omega))) hm hR hS hz hj t' hd hg
theorem wcv{t:TypeId}{ik S yk:IntKind}{a:Int}(hS:lookN wI t=some S)(hT:lookN wI u=some ik)(hx:e.ev x=.int yk a)(t':TO prog b n ops l k F (upd e d (.int ik (ik.wrap a))) ds X h L)(hd:Nat.blt d n=true:=by rfl)(hg:guardB ops e ⟨some d,.convert t u x,ty,pos,af,g⟩=true:=by rfl):TO prog b n ops (⟨some d,.convert t u x,ty,pos,af,g⟩::l) k F e ds X h L:=
 wcvP (Rl (tabq (f:=intK prog) Wb hS)) (Rl (tabq (f:=intK prog) Wb hT)) hx t' hd hg
theorem wbf{t:TypeId}[i:RpT E R]{len:Nat}(hT:lookN wS t=some E)(hS:lookN wT E=some (sz,a))(hz:lookN wZ E=some zs)(hc1:dC R h (litC e parts) xs)(hl:len=xs.length)(hM:X.M=[])(t':∀bk h',h.le h'->SlC R h' (some ⟨bk,0,none⟩) xs.length xs->TO prog b n ops l k F (upd e d (.slice (some ⟨bk,0,none⟩) xs.length xs.length)) ds X h' L)(dN:xs.length<=9223372036854775807:=by simp)(hpos:Nat.blt 0 (len*sz)=true:=by rfl)(hlt:Nat.ble (len*sz) 16777216=true:=by rfl)(hc:Instr.fill (λi=>some (i*sz,sz)) ((Array.range (len*sz)).map (zs.toArray[·%zs.toArray.size]!)) (parts.map λp=>(p.1,e.ev p.2))=some (litC e parts).toArray:=by kernel_rfl)(hd:Nat.blt d n=true:=by rfl)(hg:guardB ops e ⟨some d,.buildSlice t len ⟨parts⟩,ty,pos,af,g⟩=true:=by rfl):TO prog b n ops (⟨some d,.buildSlice t len ⟨parts⟩,ty,pos,af,g⟩::l) k F e ds X h L:=by
 refine aM (bW (rf (tabq (f:=sliceE prog) FJ hT)) (tabq (f:=tySz prog) ox hS) (tabq (f:=zeroC prog) KT hz) hpos hlt hc (λbk=>?_) hg) rfl hd
 refine dF 0 rfl hM (λh2 h1 hb=>?_)
 have:=t' bk h2 h1 (slL hb (qF _) (hc1.mono i.pf.mono h1) dN (Nat.le_refl _))
 subst hl
 exact this
theorem wap{t:TypeId}[i:RpT E R]{s y:Operand}{ys:List α}{base2:Option Addr}{cap2:Nat}{Q:LH}{uy:Nat}(hT:lookN wS t=some E)(hx:e.ev s=.slice base m cap)(hG:cI R E h xs base cap G)(hm:m=xs.length)(hp:L.Perm (Q++G))(hy:e.ev y=.slice base2 ys.length cap2)(hs2:SlC R h base2 cap2 ys)(hS:lookN wT E=some (R.sz,a))(hz:lookN wZ E=some zs)(hzl:zs.length=R.sz)(hby:lookN wB E=some uy)(hb:(xs.length+ys.length)*uy<=140737488355328)(hb2:xs.length+ys.length<=9223372036854775807)(t':∀base' cap' G',cI R E h (xs++ys) base' cap' G'->TO prog b n ops l k F (upd e d (.slice base' (xs++ys).length cap')) ds X h (Q++G'))(hd:Nat.blt d n=true:=by rfl)(hg:guardB ops e ⟨some d,.call ⟨.builtin .append,#[s,y],#[t,t]⟩,ty,pos,af,g⟩=true:=by rfl):TO prog b n ops (⟨some d,.call ⟨.builtin .append,#[s,y],#[t,t]⟩,ty,pos,af,g⟩::l) k F e ds X h L:=
 uC (hp.trans jF) (aM (fd i.pf [] Q (λG'=>Q++G') rfl (λ_=>rfl) (rf (tabq (f:=sliceE prog) FJ hT)) (tabq (f:=tySz prog) ox hS) (tabq (f:=zeroC prog) KT hz) hzl (tabq (f:=bytesOf prog) Wc hby) hG hx hm (by rw[hy];exact lH hs2.1) hb hb2
  t' hg) rfl hd)
theorem wapO{t:TypeId}[i:RpT E R]{s y:Operand}{ys:List α}{cap2 b2:Nat}{Q:LH}{uy:Nat}(hT:lookN wS t=some E)(hx:e.ev s=.slice base m cap)(hG:cI R E h xs base cap G)(hm:m=xs.length)(hp:L.Perm (Q++G))(hy:e.ev y=.slice (some ⟨b2,0,none⟩) ys.length cap2)(hL:nth L j=some (b2,.cells cl.toArray T fz))(hc:dC R h cl ys)(hS:lookN wT E=some (R.sz,a))(hz:lookN wZ E=some zs)(hzl:zs.length=R.sz)(hby:lookN wB E=some uy)(hb:(xs.length+ys.length)*uy<=140737488355328)(hb2:xs.length+ys.length<=9223372036854775807)(t':∀base' cap' G',cI R E h (xs++ys) base' cap' G'->TO prog b n ops l k F (upd e d (.slice base' (xs++ys).length cap')) ds X h (Q++G'))(hd:Nat.blt d n=true:=by rfl)(hg:guardB ops e ⟨some d,.call ⟨.builtin .append,#[s,y],#[t,t]⟩,ty,pos,af,g⟩=true:=by rfl):TO prog b n ops (⟨some d,.call ⟨.builtin .append,#[s,y],#[t,t]⟩,ty,pos,af,g⟩::l) k F e ds X h L:=
 uC (hp.trans jF) (aM (fd i.pf [] Q (λG'=>Q++G') rfl (λ_=>rfl) (rf (tabq (f:=sliceE prog) FJ hT)) (tabq (f:=tySz prog) ox hS) (tabq (f:=zeroC prog) KT hz) hzl (tabq (f:=bytesOf prog) Wc hby) hG hx hm
  (by rw[hy];obtain⟨b',c',cl',h1,h2,h3,h4⟩:=iM (R:=R) (h:=h) (ys:=ys) (c:=cap2) j hL hc;exact⟨b',c',cl',h1,h2,h3,λX w hw=>h4 X w (hw.perm ((hp.trans jF).symm))⟩) hb hb2
  t' hg) rfl hd)
theorem wsx{t:TypeId}{ix:Operand}{s:ByteArray}{i:Int}(hT:lookN wL t=some false)(hx:e.ev x=.string s)(hix:e.ev ix=.int .i64 i)(hi:0<=i/\i<(s.size:Int))(t':TO prog b n ops l k F (upd e d (.int .u8 ((s.data.getD i.toNat 0).toNat:Nat))) ds X h L)(hd:Nat.blt d n=true:=by rfl)(hg:guardB ops e ⟨some d,.index t x ix,ty,pos,af,g⟩=true:=by rfl):TO prog b n ops (⟨some d,.index t x ix,ty,pos,af,g⟩::l) k F e ds X h L:=aM (em (WH (Ue (tabq (f:=lenK prog) Hr hT)) hx hix hi) t' hg) rfl hd
section
variable {K:Env->HF->LH->Prop} {q:Option Nat}
theorem wcR[i:Ct f](hvs:ass.toList.map e.ev=vs)(hs:i.p->Ret prog f vs h v)(t':K (upd e d v) h L)(hg:guardB ops e ⟨some d,.call ⟨.value (.func f),ass,ats⟩,ty,pos,af,g⟩=true:=by rfl):Stp prog b n ops F ds X ⟨some d,.call ⟨.value (.func f),ass,ats⟩,ty,pos,af,g⟩ e h L K:=jq i.call (hs i.pf) hvs t' hg
theorem wcH{φ:Value->HF->Prop}[i:Ct f](hvs:ass.toList.map e.ev=vs)(hs:i.p->jv prog f vs h φ)(t':∀v h',h.le h'->φ v h'->K (pute e q v) h' L)(hg:guardB ops e ⟨q,.call ⟨.value (.func f),ass,ats⟩,ty,pos,af,g⟩=true:=by rfl):Stp prog b n ops F ds X ⟨q,.call ⟨.value (.func f),ass,ats⟩,ty,pos,af,g⟩ e h L K:=cW i.call (hs i.pf) hvs t' hg
theorem wcV{t:Nat}{fv:Value}(hf:e t=fv)(hvs:ass.toList.map e.ev=vs)(hs:ra prog fv vs h [] v)(t':K (pute e q v) h L)(hg:guardB ops e ⟨q,.call ⟨.value (.tmp t),ass,ats⟩,ty,pos,af,g⟩=true:=by rfl):Stp prog b n ops F ds X ⟨q,.call ⟨.value (.tmp t),ass,ats⟩,ty,pos,af,g⟩ e h L K:=kj [] (List.nil_sublist _) hs hf hvs t' hg
theorem wmf{fn:Fn}{first:List Operand}(t':K (pute e q (.func fn (first.map e.ev).toArray (captured.map e.ev).toArray)) h L)(hg:guardB ops e ⟨q,.makeFunc fn ⟨first⟩ ⟨captured⟩,ty,pos,af,g⟩=true:=by rfl):Stp prog b n ops F ds X ⟨q,.makeFunc fn ⟨first⟩ ⟨captured⟩,ty,pos,af,g⟩ e h L K:=jy rfl rfl t' hg
theorem wal{t:TypeId}(hz:lookN wZ t=some zs)(t':∀bk,K (upd e d (.pointer (some ⟨bk,0,none⟩))) h ((bk,.cells zs.toArray t (0,0))::L))(hg:guardB ops e ⟨some d,.alloc t,ty,pos,af,g⟩=true:=by rfl):Stp prog b n ops F ds X ⟨some d,.alloc t,ty,pos,af,g⟩ e h L K:=BT (tabq (f:=zeroC prog) KT hz) t' hg
theorem wbs{t:TypeId}{len:Nat}(hT:lookN wS t=some E)(hS:lookN wT E=some (sz,a))(hz:lookN wZ E=some zs)(t':∀bk,K (upd e d (.slice (some ⟨bk,0,none⟩) len len)) h ((bk,.cells (litC e parts).toArray E (0,0))::L))(hpos:Nat.blt 0 (len*sz)=true:=by rfl)(hlt:Nat.ble (len*sz) 16777216=true:=by rfl)(hc:Instr.fill (λi=>some (i*sz,sz)) ((Array.range (len*sz)).map (zs.toArray[·%zs.toArray.size]!)) (parts.map λp=>(p.1,e.ev p.2))=some (litC e parts).toArray:=by kernel_rfl)(hg:guardB ops e ⟨some d,.buildSlice t len ⟨parts⟩,ty,pos,af,g⟩=true:=by rfl):Stp prog b n ops F ds X ⟨some d,.buildSlice t len ⟨parts⟩,ty,pos,af,g⟩ e h L K:=
 bW (rf (tabq (f:=sliceE prog) FJ hT)) (tabq (f:=tySz prog) ox hS) (tabq (f:=zeroC prog) KT hz) hpos hlt hc t' hg
theorem wbs0{t:TypeId}(hT:lookN wS t=some E)(hS:lookN wT E=some (sz,a))(t':∀bk,K (upd e d (.slice (some ⟨bk,0,none⟩) 0 0)) h ((bk,.cells [].toArray E (0,0))::L))(hg:guardB ops e ⟨some d,.buildSlice t 0 #[],ty,pos,af,g⟩=true:=by rfl):Stp prog b n ops F ds X ⟨some d,.buildSlice t 0 #[],ty,pos,af,g⟩ e h L K:=
 sM (rf (tabq (f:=sliceE prog) FJ hT)) (tabq (f:=tySz prog) ox hS) t' hg
theorem wbd{t:TypeId}{cells:List Value}(hT:lookN wP t=some pl)(hz:lookN wZ t=some zs)(hcl:litB pl e parts zs=cells)(t':K (upd e d (.agg cells.toArray)) h L)(hc:Instr.fill (λi=>pl.toArray[i]?) zs.toArray (parts.map λp=>(p.1,e.ev p.2))=some cells.toArray:=by kernel_rfl)(hg:guardB ops e ⟨some d,.build t ⟨parts⟩,ty,pos,af,g⟩=true:=by rfl):Stp prog b n ops F ds X ⟨some d,.build t ⟨parts⟩,ty,pos,af,g⟩ e h L K:=
 let ⟨_,a,c⟩:=VB (tabq (f:=plcs prog) Xf hT)
 ja a (tabq (f:=zeroC prog) KT hz) c hc t' hg
theorem wcRr[i:Cl f](hvs:ass.toList.map e.ev=vs)(hs:Ret prog f vs h v)(t':K (upd e d v) h L)(hg:guardB ops e ⟨some d,.call ⟨.value (.func f),ass,ats⟩,ty,pos,af,g⟩=true:=by rfl):Stp prog b n ops F ds X ⟨some d,.call ⟨.value (.func f),ass,ats⟩,ty,pos,af,g⟩ e h L K:=jq i.call hs hvs t' hg
end
section
variable {K:Env->HF->LH->Prop} {q:Option Nat}
theorem wcX{f0:FuncId}{fz:σ->Value}{x:Except Int ρ}[i:Ct f](hvs:ass.toList.map e.ev=vs)(hs:i.p->FD prog f vs h (exW pe fv x))(hz:z=exi x kk)(hf:prog.funcs[f0]? = some fn)(hX:X.h0=hh)(t':∀r,x=.ok r->z=kk r->K (pute e q (fv r)) h L)(hg:guardB ops e ⟨q,.call ⟨.value (.func f),ass,ats⟩,ty,pos,af,g⟩=true:=by rfl):
  Stp prog (bodyFrame f0) n ops (kU prog X (XR (exW pe fz z) hh)) [] X ⟨q,.call ⟨.value (.func f),ass,ats⟩,ty,pos,af,g⟩ e h L K:=
 rG i.call (hs i.pf) hvs (λu hu=>by obtain⟨r,hr,rfl⟩:=wm hu;exact t' r hr (hz.trans (Dk hr)))
  (λp hp e'=>by obtain⟨r,hr,rfl⟩:=se hp;exact mz (yT [] hf hX (by rw[hz,uU hr];rfl))) hg
end
section
variable {K:Env->HF->LH->Prop} {q:Option Nat}
theorem wcXo{x:Except Int ρ}[i:Ct f](hvs:ass.toList.map e.ev=vs)(hs:i.p->FD prog f vs h (exW pe fv x))(hx:x=.ok r)(t':K (pute e q (fv r)) h L)(hg:guardB ops e ⟨q,.call ⟨.value (.func f),ass,ats⟩,ty,pos,af,g⟩=true:=by rfl):Stp prog b n ops F ds X ⟨q,.call ⟨.value (.func f),ass,ats⟩,ty,pos,af,g⟩ e h L K:=
 rG i.call (hs i.pf) hvs (λu hu=>by obtain⟨r',hr,rfl⟩:=wm hu;rw[hx]at hr;cases hr;exact t') (λp hp e'=>by obtain⟨r',hr,rfl⟩:=se hp;rw[hx]at hr;cases hr) hg
end
section
variable {m:Nat} {dn:List Nat} {l:List Oper} {i:Nat} {gk:List Nat} {t:TypeId} {x:Operand} {K:LH}
theorem wdq(hp:passD wF wL l gk 0 l m dn e=(m',dn',e'))(hlt:qJ m' m=true)(q:TD gk prog b n l k F ds X K m' dn' e' h L):TD gk prog b n l k F ds X K m dn e h L:=wdqP KU Hr hp q
theorem wdl{off:Nat}(hT:lookN wT t=some (mm,a))(hx:e.ev x=.pointer (some ⟨bk,off,none⟩))(hL:nth K j=some (bk,.cells cl.toArray T fz))(hv:ldV a mm cl off=some v)(q:TD gk prog b n l k F ds X K m (i::dn) (upd e d v) h L)(hg:guardB l.toArray e ⟨some d,.load t x,ty,pos,af,g⟩=true:=by rfl):TX gk prog b n l k F ds X K m dn i ⟨some d,.load t x,ty,pos,af,g⟩ e h L:=by
 refine wdf rfl hg (λh' L' hj w hw=>?_) q
 cases a with
 |false=>exact wM (tabq (f:=tySz prog) ox hT) hx (hj.nth hL) hv w hw
 |true=>
  unfold ldV at hv;split at hv
  .next h1=>cases h1
  .split at hv
   .next hc=>cases hv;exact oA (tabq (f:=tySz prog) ox hT) hx (hj.nth hL) hc w hw
   .cases hv
theorem wdh{p:Addr}{cs:List Value}(hT:lookN wT t=some (mm,a))(hx:e.ev x=.pointer (some (p.add j)))(ha:At h p cs)(hv:ldV a mm cs j=some v)(q:TD gk prog b n l k F ds X K m (i::dn) (upd e d v) h L)(hg:guardB l.toArray e ⟨some d,.load t x,ty,pos,af,g⟩=true:=by rfl):TX gk prog b n l k F ds X K m dn i ⟨some d,.load t x,ty,pos,af,g⟩ e h L:=by
 refine wdf rfl hg (λh' L' hj w hw=>?_) q
 cases a with
 |false=>exact TR j (tabq (f:=tySz prog) ox hT) (ha.mono hj.1) hx hv w hw
 |true=>
  unfold ldV at hv;split at hv
  .next h1=>cases h1
  .split at hv
   .next hc=>cases hv;exact PW j (tabq (f:=tySz prog) ox hT) (ha.mono hj.1) hx hc w hw
   .cases hv
theorem wdhS{p:Addr}{cs cs':List Value}(hT:lookN wT t=some (mm,true))(hx:e.ev x=.pointer (some (p.add j)))(ha:At h p cs)[s:Sub cs j mm cs'](q:TD gk prog b n l k F ds X K m (i::dn) (upd e d (.agg cs'.toArray)) h L)(hg:guardB l.toArray e ⟨some d,.load t x,ty,pos,af,g⟩=true:=by rfl):TX gk prog b n l k F ds X K m dn i ⟨some d,.load t x,ty,pos,af,g⟩ e h L:=
 wdf rfl hg (λh' L' hj w hw=>PW j (tabq (f:=tySz prog) ox hT) (ha.mono hj.1) hx s.pf w hw) q
theorem wdh0{p:Addr}{cs:List Value}(hT:lookN wT t=some (mm,false))(hx:e.ev x=.pointer (some p))(ha:At h p (v::cs))(q:TD gk prog b n l k F ds X K m (i::dn) (upd e d v) h L)(hg:guardB l.toArray e ⟨some d,.load t x,ty,pos,af,g⟩=true:=by rfl):TX gk prog b n l k F ds X K m dn i ⟨some d,.load t x,ty,pos,af,g⟩ e h L:=
 wdf rfl hg (λh' L' hj w hw=>TQ (tabq (f:=tySz prog) ox hT) (ha.mono hj.1) hx w hw) q
theorem wdhs{p:Addr}{cs:List Value}(hT:lookN wT t=some (mm,true))(hx:e.ev x=.pointer (some p))(ha:At h p cs)(hm:cs.length=mm)(q:TD gk prog b n l k F ds X K m (i::dn) (upd e d (.agg cs.toArray)) h L)(hg:guardB l.toArray e ⟨some d,.load t x,ty,pos,af,g⟩=true:=by rfl):TX gk prog b n l k F ds X K m dn i ⟨some d,.load t x,ty,pos,af,g⟩ e h L:=
 wdf rfl hg (λh' L' hj w hw=>uL (tabq (f:=tySz prog) ox hT) (ha.mono hj.1) hm hx w hw) q
theorem wdi{ix:Operand}{z:Int}(hT:lookN wS t=some E)(hx:e.ev x=.slice base mm cap)(hix:e.ev ix=.int .i64 z)(hm:mm=xs.length)(hR:SlC R h base cap xs)(hS:lookN wT E=some (R.sz,a))(hz:0<=z/\z<(xs.length:Int))(hj:xs[z.toNat]? = some y)(q:∀p cs,At h p cs->cs.length=R.sz->R.rep h cs y->TD gk prog b n l k F ds X K m (i::dn) (upd e d (.pointer (some p))) h L)(hg:guardB l.toArray e ⟨some d,.indexAddr t x ix,ty,pos,af,g⟩=true:=by rfl):TX gk prog b n l k F ds X K m dn i ⟨some d,.indexAddr t x ix,ty,pos,af,g⟩ e h L:=
 λhi hy hs hK=>sZ i hs ⟨qF _,hK⟩ (rf (tabq (f:=sliceE prog) FJ hT)) (tabq (f:=tySz prog) ox hS) hR.1 hz hj hx hm hix hi (DY hi hy) (λp cs a b c=>q p cs a b c hs hK) hg
theorem wdiw{ix:Operand}{z:Int}(hT:lookN wS t=some E)(hx:e.ev x=.slice base mm cap)(hix:e.ev ix=.int .i64 (IntKind.i64.wrap z))(hm:mm=xs.length)(hR:SlC R h base cap xs)(hS:lookN wT E=some (R.sz,a))(hz:0<=z/\z<(xs.length:Int))(hj:xs[z.toNat]? = some y)(q:∀p cs,At h p cs->cs.length=R.sz->R.rep h cs y->TD gk prog b n l k F ds X K m (i::dn) (upd e d (.pointer (some p))) h L)(hg:guardB l.toArray e ⟨some d,.indexAddr t x ix,ty,pos,af,g⟩=true:=by rfl):TX gk prog b n l k F ds X K m dn i ⟨some d,.indexAddr t x ix,ty,pos,af,g⟩ e h L:=
 wdi hT hx (hix.trans (kW (by have:=hR.1.1;omega))) hm hR hS hz hj q hg
end
end
class EqT(t:TypeId){α : outParam Type}(dec:outParam (DecidableEq α))(cells:outParam (α->List Value)):Prop where
 eq:∀a b w,(Op.equal t (.agg (cells a).toArray) (.agg (cells b).toArray)).run prog w=.ok (decide (a=b)) w
 gd:prog.eqGuardType prog.depth t=false
section
variable {b:Frame} {n:Nat} {k:List Item} {F:List Frame->(Machine->Prop)->Prop} {e:Env} {ds:List Deferred} {X:Cx} {h:HF} {L:LH} {ops:Array Oper} {l:List Oper} {d:Nat} {ty t u:TypeId} {pos:String} {af:Array Edge} {g:Option (Nat×Bool)} {x y:Operand} {α : Type} {dec:DecidableEq α} {cells:α->List Value} {a c:α} {gk:List Nat} {K:LH} {m:Nat} {dn:List Nat} {i:Nat}
theorem wdeq[q:EqT t dec cells](hx:e.ev x=.agg (cells a).toArray)(hy:e.ev y=.agg (cells c).toArray)(t':TD gk prog b n l k F ds X K m (i::dn) (upd e d (.bool (decide (a=c)))) h L)(hg:guardB l.toArray e ⟨some d,.binOp .eql t x y u,ty,pos,af,g⟩=true:=by rfl):TX gk prog b n l k F ds X K m dn i ⟨some d,.binOp .eql t x y u,ty,pos,af,g⟩ e h L:=
 wdf rfl hg (λh' L' hj w hw=>TV (q.eq a c) q.gd hx hy w hw) t'
end
class MpT(t:TypeId){κ α : outParam Type}(dec:outParam (DecidableEq κ))(enc:outParam (κ->Value))(V:outParam (HF->Value->α->Prop))(z:outParam α):Prop where
 pf:∃T E zv,prog.underlying t=some (.map T E)/\zI prog T enc/\zeroV prog E=some zv/\(∀h,V h zv z)
theorem mvM(h:Ac V:=by first|exact Aw.mono|exact sJ.mono|exact lY.mono mnG|exact VSl.mono mnG|fail):Ac V:=h
theorem mpA{enc:κ->Value}{o:Obj}{m:List (κ×α)}(p:ki enc V h o m:=by first|assumption|exact ki.mono (by assumption) mvM leA|exact ki.nil|fail):ki enc V h o m:=p
theorem mpB{enc:κ->Value}{o:Obj}{m:List (κ×α)}(p:ki enc V h o m:=by first|assumption|exact ki.mono (by assumption) mvM leA|fail):ki enc V h o m:=p
theorem mcA{enc:κ->Value}{o:Nat}{m:List (κ×α)}(p:uY enc V h o m:=by first|assumption|exact uY.mono (by assumption) mvM leA|fail):uY enc V h o m:=p
section
variable {b:Frame} {n:Nat} {F:List Frame->(Machine->Prop)->Prop} {e:Env} {ds:List Deferred} {X:Cx} {h:HF} {L:LH} {ops:Array Oper} {K:Env->HF->LH->Prop} {q:Option Nat} {ty t:TypeId} {pos:String} {af:Array Edge} {g:Option (Nat×Bool)}
variable {κ α : Type} {dec:DecidableEq κ} {enc:κ->Value} {V:HF->Value->α->Prop} {z x:α} {mo ko xo:Operand} {bk j:Nat} {o:Obj} {m:List (κ×α)} {a:κ}
theorem wmS[i:MpT t dec enc V z](hmo:e.ev mo=.map (some bk))(hL:nth L j=some (bk,o))(hm:ki enc V h o m)(hko:e.ev ko=enc a)(hx:V h (e.ev xo) x)(t':∀o',ki enc V h o' (mput m a x)->(mput m a x).length<=m.length+1->K e h (setNth L j (bk,o')))(hg:guardB ops e ⟨none,.mapUpdate t mo ko xo,ty,pos,af,g⟩=true:=by rfl):Stp prog b n ops F ds X ⟨none,.mapUpdate t mo ko xo,ty,pos,af,g⟩ e h L K:=
 let ⟨_,_,_,h1,h2,_,_⟩:=i.pf;pq j h1 h2 hL hm hmo hko hx (λo' a'=>t' o' a' (rP _ _ _)) hg
theorem wmG{ok:Bool}[i:MpT t dec enc V z](hmo:e.ev mo=.map (some bk))(hL:nth L j=some (bk,o))(hm:ki enc V h o m)(hko:e.ev ko=enc a)(t':∀v,V h v (mgetD m a z)->K (pute e q (bif ok then .tuple #[v,.bool (mhas m a)]else v)) h L)(hg:guardB ops e ⟨q,.lookup t mo ko ok,ty,pos,af,g⟩=true:=by rfl):Stp prog b n ops F ds X ⟨q,.lookup t mo ko ok,ty,pos,af,g⟩ e h L K:=by
 obtain⟨_,_,_,h1,h2,h3,h4⟩:=i.pf
 cases ok with
 |true=>exact n8 j h1 h2 hL hm (fG h3) (h4 _) hmo hko t' hg
 |false=>exact vx j h1 h2 hL hm (fG h3) (h4 _) hmo hko t' hg
theorem wmF{ok:Bool}[i:MpT t dec enc V z](hmo:e.ev mo=.map (some bk))(hm:uY enc V h bk m)(hko:e.ev ko=enc a)(t':∀v,V h v (mgetD m a z)->K (pute e q (bif ok then .tuple #[v,.bool (mhas m a)]else v)) h L)(hg:guardB ops e ⟨q,.lookup t mo ko ok,ty,pos,af,g⟩=true:=by rfl):Stp prog b n ops F ds X ⟨q,.lookup t mo ko ok,ty,pos,af,g⟩ e h L K:=by
 obtain⟨_,_,_,h1,h2,h3,h4⟩:=i.pf
 obtain⟨o,h5,h6⟩:=hm
 cases ok with
 |true=>exact wR h1 h2 h5 h6 (fG h3) (h4 _) hmo hko t' hg
 |false=>exact rg h1 h2 h5 h6 (fG h3) (h4 _) hmo hko t' hg
theorem wmC{Q:LH}(hm:ki enc V h o m)(hv:Ac V)(hp:L.Perm (Q++[(bk,o)]))(hM:X.M=[])(t':∀h2,h.le h2->uY enc V h2 bk m->TT P b n todo F e ds X h2 Q):TT P b n todo F e ds X h L:=
 jw (hp.trans jF) (gM 0 rfl hM λh1 dN hb=>t' h1 dN ⟨_,hb,hm.mono hv dN⟩)
end
theorem wrv[i:Ct f]{cap:List Value}(hs:i.p->Ret prog f (args++cap) h v):ra prog (.func (.func f) #[] cap.toArray) args h [] v:=jd i.call (hs i.pf)
theorem wit[i:CtI f]{cap:List Value}(hs:i.p->Itr prog (.func (.func f) #[] cap.toArray) val xs h):Itr prog (.func (.func f) #[] cap.toArray) val xs h:=hs i.pf
theorem wrc{L:LH}{a ty:Nat}{q:Bool}(ha:e a=.pointer (some ⟨bk,0,none⟩))(hL:nth L i=some (bk,.cells cl.toArray T fz))(hT:lookN wT ty=some (m,q))(hm:cl.length=m)(hv:(bif q then some (.agg cl.toArray)else nth cl 0)=some v)(h1:(q||Yu m 1)=true):
  ∃i bk cl T fz,nth L i=some (bk,.cells (kB cl) T fz)/\e a=.pointer (some ⟨bk,0,none⟩)/\((tySz prog ty=some (cl.length,true)/\v=.agg cl.toArray)\/∃m,tySz prog ty=some (m,false)/\cl=[v]):=by
 have ht:=tabq (f:=tySz prog) ox hT
 refine⟨i,bk,cl,T,fz,hL,ha,?_⟩
 cases q with
 |true=>left;subst hm;simp only[cond_true,kP]at hv;exact⟨ht,hv.symm⟩
 |false=>
  right
  refine⟨m,ht,?_⟩
  have:m=1:=vM (by simpa using h1)
  rw[this]at hm
  obtain⟨y,rfl⟩:=List.length_eq_one_iff.1 hm
  simp only[cond_false]at hv
  cases hv;rfl
class IfT(t:TypeId):Prop where
 pf:∃T,prog.underlying t=some T/\(match T with|.interface _=>false|_=>true)=true
class BoT(t:TypeId):Prop where
 pf:prog.underlying t=some .bool
section
variable {b:Frame} {n:Nat} {k:List Item} {F:List Frame->(Machine->Prop)->Prop} {e:Env} {ds:List Deferred} {X:Cx} {h:HF} {L:LH} {ops:Array Oper} {l:List Oper} {d:Nat} {ty t u:TypeId} {pos:String} {af:Array Edge} {g:Option (Nat×Bool)} {x y:Operand} {a c:Bool} {i j:Int} {ik:IntKind}
theorem wma(hx:e.ev x=.int ik i)(hy:e.ev y=.int ik j)(t':TO prog b n ops l k F (upd e d (.int ik (max i j))) ds X h L)(hd:Nat.blt d n=true:=by rfl)(hg:guardB ops e ⟨some d,.call ⟨.builtin .max,#[x,y],#[t,u]⟩,ty,pos,af,g⟩=true:=by rfl):TO prog b n ops (⟨some d,.call ⟨.builtin .max,#[x,y],#[t,u]⟩,ty,pos,af,g⟩::l) k F e ds X h L:=aM (em (TN hx hy) t' hg) rfl hd
theorem wif[q:IfT t](hx:e.ev x=v)(t':TO prog b n ops l k F (upd e d (.iface t v)) ds X h L)(hd:Nat.blt d n=true:=by rfl)(hg:guardB ops e ⟨some d,.makeInterface t x,ty,pos,af,g⟩=true:=by rfl):TO prog b n ops (⟨some d,.makeInterface t x,ty,pos,af,g⟩::l) k F e ds X h L:=
 by obtain⟨T,h1,h2⟩:=q.pf;exact aM (em (Q8 h1 (by cases T<;>first|rfl|cases h2) hx) t' hg) rfl hd
theorem gMi{bi:Builtin}(t':TO prog b n ops (⟨some d,.call ⟨.builtin bi,ass,ats⟩,ty,pos,af,g⟩::l) k F e ds X h L):TO prog b n ops (⟨some d,.call ⟨.builtin bi,ass,ats⟩,ty,pos,af,g⟩::l) k F e ds X h L:=t'
theorem gIf(t':TO prog b n ops (⟨some d,.makeInterface t x,ty,pos,af,g⟩::l) k F e ds X h L):TO prog b n ops (⟨some d,.makeInterface t x,ty,pos,af,g⟩::l) k F e ds X h L:=t'
theorem gPn(t':TO prog b n ops (⟨q,.panic x,ty,pos,af,g⟩::l) k F e ds X h L):TO prog b n ops (⟨q,.panic x,ty,pos,af,g⟩::l) k F e ds X h L:=t'
theorem gGf(hx:guardB ops e ⟨q,op,ty,pos,af,some (s,w)⟩=true)(t':TO prog b n ops (⟨q,op,ty,pos,af,some (s,w)⟩::l) k F e ds X h L):TO prog b n ops (⟨q,op,ty,pos,af,some (s,w)⟩::l) k F e ds X h L:=t'
end
section
variable {f0:FuncId} {fn:Func} {n:Nat} {k:List Item} {e:Env} {ms:List Nat} {X:Cx} {h:HF} {L Q:LH} {ops:Array Oper} {l:List Oper} {ty t:TypeId} {pos:String} {af:Array Edge} {g:Option (Nat×Bool)} {x:Operand} {v:Value} {ρ : Type} {pe:Int->Value} {er:Int} {z:Except Int ρ}
theorem wpX{fv:ρ->Value}(hz:z=.error er)(hx:e.ev x=.iface t v)(hp:pe er=.iface t v)(hf:prog.funcs[f0]? = some fn)(hX:X.h0=hh)(hg:guardB ops e ⟨none,.panic x,ty,pos,af,g⟩=true:=by rfl):TO prog (bodyFrame f0) n ops (⟨none,.panic x,ty,pos,af,g⟩::l) k (kU prog X (XR (exW pe fv z) hh)) e [] X h L:=
 aM (Mr hx E4 (λ_=>mz (yT [] hf hX (by rw[hz,←hp];rfl))) hg)
theorem wpXH{φ : ρ->Value->HF->Prop}(hz:z=.error er)(hx:e.ev x=.iface t v)(hp:pe er=.iface t v)(hf:prog.funcs[f0]? = some fn)(hg:guardB ops e ⟨none,.panic x,ty,pos,af,g⟩=true:=by rfl):TO prog (bodyFrame f0) n ops (⟨none,.panic x,ty,pos,af,g⟩::l) k (kU prog X (XRH pe z φ)) e [] X h L:=
 aM (Mr hx E4 (λ_=>mz (by rw[←hp];exact NL [] hf hz)) hg)
theorem wrXH{φ : ρ->Value->HF->Prop}{rs:List ResultVar}{u:ρ}(hs:z=.ok u)(vs:List Value)(hf:prog.funcs[f0]? = some fn)(hr:fn.results=rs.toArray)(hv:qj prog e L rs vs)(hφ : φ u (retVal vs) h):
  TT prog (bodyFrame f0) n (.code .ret::k) (kU prog X (XRH pe z φ)) e [] X h L:=ij (NI [] vs hf hr hv hs hφ)
end
section
variable {b:Frame} {n:Nat} {F:List Frame->(Machine->Prop)->Prop} {e:Env} {ds:List Deferred} {X:Cx} {h:HF} {L:LH} {ops:Array Oper} {K:Env->HF->LH->Prop} {ty t:TypeId} {pos:String} {af:Array Edge} {g:Option (Nat×Bool)}
end
section
variable {b:Frame} {n:Nat} {k:List Item} {F:List Frame->(Machine->Prop)->Prop} {e:Env} {ds:List Deferred} {X:Cx} {h:HF} {L:LH} {ops:Array Oper} {l:List Oper} {d:Nat} {ty t u:TypeId} {pos:String} {af:Array Edge} {g:Option (Nat×Bool)} {x y:Operand} {α : Type} {dec:DecidableEq α} {cells:α->List Value} {a c:α} {gk:List Nat} {K:LH} {m:Nat} {dn:List Nat} {i:Nat}
theorem wdne[q:EqT t dec cells](hx:e.ev x=.agg (cells a).toArray)(hy:e.ev y=.agg (cells c).toArray)(t':TD gk prog b n l k F ds X K m (i::dn) (upd e d (.bool (!decide (a=c)))) h L)(hg:guardB l.toArray e ⟨some d,.binOp .neq t x y u,ty,pos,af,g⟩=true:=by rfl):TX gk prog b n l k F ds X K m dn i ⟨some d,.binOp .neq t x y u,ty,pos,af,g⟩ e h L:=
 wdf rfl hg (λh' L' hj w hw=>Xi (q.eq a c) q.gd hx hy w hw) t'
end
theorem Tx{F:List Frame->(Machine->Prop)->Prop}{o:Oper}{L:LH}{K:Env->HF->LH->Prop}(hp:L.Perm L')(hg:guardB ops e o=true)(t:Stp P b n ops F ds X o e h L' K):Stp P b n ops F ds X o e h L K:=by
 unfold Stp at t ⊢
 rw[if_pos hg]at t ⊢
 exact λw hw=>t w (hw.perm hp)
section
variable {α : Type} {P:Program} {f:FuncId} {fn:Func} {n:Nat} {ops:Array Oper} {e:Env} {X:Cx} {h h0 h1:HF} {L Q A:LH} {d:Option Nat} {ty:TypeId} {pos:String} {af:Array Edge} {g:Option (Nat×Bool)} {yf:Fn} {ya yb:Array Value} {z dn v r:List α} {x:α} {val:α->HF->List Value->Prop} {C:List α->HF->LH->Prop} {Sp:HF->LH->Prop} {Pn:List PanicEntry->HF->LH->Prop} {t:Nat} {ass:Array Operand} {ats:Array TypeId} {vs:List Value} {K:Env->HF->LH->Prop}
theorem wylS(hy:∀done x rest vs h'' B,z=done++x::rest->h1.le h''->C done h'' B->val x h'' vs->ny P (.func yf ya yb) vs.toArray h'' B (YR C Sp Pn done x))(m1:∀done h1 h2 B,jL h1 h2->C done h1 B->C done h2 B)(hF:P.funcs[f]? = some fn)(hs:v=x::r)(hv:z=dn++v)(hC:C dn h0 A)(h0h:h0.le h)(hl:h1.le h)(hp:L.Perm (Q++A))(hf:e t=.func yf ya yb)(hvs:ass.toList.map e.ev=vs)(hval:val x h vs)(yes:∀h' A',h.le h'->C (dn++[x]) h' A'->∀v',v'=r->z=(dn++[x])++v'->K (pute e d (.bool true)) h' (Q++A'))(no:∀h' A',h.le h'->Sp h' A'->K (pute e d (.bool false)) h' (Q++A'))(hg:guardB ops e ⟨d,.call ⟨.value (.tmp t),ass,ats⟩,ty,pos,af,g⟩=true:=by rfl):
  Stp P (bodyFrame f) n ops (kU P X (ItR C Sp Pn z)) [] X ⟨d,.call ⟨.value (.tmp t),ass,ats⟩,ty,pos,af,g⟩ e h L K:=
 Tx hp hg (qn Q A rfl (hy dn x r vs h A (by rw[hv,hs]) hl (m1 _ _ _ _ h0h hC) hval) hf hvs
  (λh' B dN hc=>yes h' B dN hc r rfl (by rw[hv,hs,zC];rfl)) (λh' B dN hc=>no h' B dN hc)
  (λch h' B dN hP e'=>mz (xO [] hF (List.sublist_append_right _ _) hP)) hg)
end
theorem anT{b:Bool}(h:a=true)(k:b=true):(a&&b)=true:=by rw[h,k];rfl
theorem anF1{b:Bool}(h:a=false):(a&&b)=false:=by rw[h];rfl
theorem anF2{b:Bool}(k:b=false):(a&&b)=false:=by rw[k];cases a<;>rfl
theorem orT1{b:Bool}(h:a=true):(a||b)=true:=by rw[h];rfl
theorem orT2{b:Bool}(k:b=true):(a||b)=true:=by rw[k];cases a<;>rfl
theorem orF{b:Bool}(h:a=false)(k:b=false):(a||b)=false:=by rw[h,k];rfl
theorem tvA{p:Prop}(h:p:=by first
 |assumption
 |(apply anT<;>exact tvA)
 |(apply anF1;exact tvA)
 |(apply anF2;exact tvA)
 |(apply orT1;exact tvA)
 |(apply orT2;exact tvA)
 |(apply orF<;>exact tvA)
 |(apply ntF;exact tvA)|fail):p:=h
section
variable {b:Frame} {n:Nat} {F:List Frame->(Machine->Prop)->Prop} {e:Env} {ds:List Deferred} {X:Cx} {h:HF} {L:LH} {ops:Array Oper} {K:Env->HF->LH->Prop} {d:Option Nat} {ty:TypeId} {pos:String} {af:Array Edge} {g:Option (Nat×Bool)}
end
section
variable {b:Frame} {n:Nat} {k:List Item} {F:List Frame->(Machine->Prop)->Prop} {e:Env} {ds:List Deferred} {X:Cx} {h:HF} {L:LH} {ops:Array Oper} {l:List Oper} {K:Env->HF->LH->Prop} {ty t u:TypeId} {d:Nat} {pos:String} {af:Array Edge} {g:Option (Nat×Bool)} {x y:Operand}
theorem wgs{dn:List α}{h0:HF}{c:Bool}(hC:C dn h0 A)(hj:gslot ops.toList j=some s)(hs:e s=.bool c)(h1:c=true->TO prog b n ops (⟨q,op,ty,pos,af,some (j,w)⟩::l) k F (upd e s (.bool true)) ds X h L)(h2:c=false->TO prog b n ops (⟨q,op,ty,pos,af,some (j,w)⟩::l) k F (upd e s (.bool false)) ds X h L):TO prog b n ops (⟨q,op,ty,pos,af,some (j,w)⟩::l) k F e ds X h L:=vo s hs h1 h2
end
section
variable {b:Frame} {n:Nat} {l:List Oper} {k:List Item} {F:List Frame->(Machine->Prop)->Prop} {e:Env} {ds:List Deferred} {X:Cx} {h:HF} {L K:LH} {m:Nat} {dn:List Nat} {i d:Nat} {gk:List Nat} {ty t u:TypeId} {pos:String} {af:Array Edge} {g:Option (Nat×Bool)} {x y:Operand} {a c:Int}
theorem wdqo(hx:e.ev x=.int .i64 a)(hy:e.ev y=.int .i64 c)(hc:c≠0)(t':TD gk prog b n l k F ds X K m (i::dn) (upd e d (.int .i64 (IntKind.wrap .i64 (a.tdiv c)))) h L)(hg:guardB l.toArray e ⟨some d,.binOp .quo t x y u,ty,pos,af,g⟩=true:=by rfl):TX gk prog b n l k F ds X K m dn i ⟨some d,.binOp .quo t x y u,ty,pos,af,g⟩ e h L:=
 wdf rfl hg (λh' L' hj w hw=>Xh hx hy hc w hw) t'
end
section
variable {α γ : Type} {M:Md γ} {g0 g:γ} {c:Nat} {h:HF} {e:Env} {A L Q G:LH} {s:Nat} {E:TypeId} {cap:Nat} {bs:Option Addr} {l0 l:List α}
theorem msGr{R:Rp α}(hr:e s=.slice bs l.length cap)(hg:cI R E h l bs cap G)(hn:l.length<=l0.length+c)(hp:L.Perm (Q++G))(t:MS M g0 c g h e A Q):MS (Md.mG s R E M) (l0,g0) c (l,g) h e A L:=msG hg hn hr hp t
end
theorem addr2(q:Addr)(i j:Nat):(q.add i).add j=q.add (i+j):=by
 cases i with
 |zero=>simp[xP]
 |succ i=>
  cases j with
  |zero=>simp[xP]
  |succ j=>simp[xP,Nat.add_assoc]
section
variable {b:Frame} {n:Nat} {k:List Item} {F:List Frame->(Machine->Prop)->Prop} {e:Env} {ds:List Deferred} {X:Cx} {h:HF} {L:LH} {ops:Array Oper} {l:List Oper} {d:Nat} {ty t:TypeId} {pos:String} {af:Array Edge} {g:Option (Nat×Bool)} {x:Operand}
theorem wlh2{q:Addr}{cs:List Value}(hT:lookN wT t=some (m,a))(hx:e.ev x=.pointer (some ((q.add i).add j)))(ha:At h q cs)(hv:ldV a m cs (i+j)=some v)(t':TO prog b n ops l k F (upd e d v) ds X h L)(hd:Nat.blt d n=true:=by rfl)(hg:guardB ops e ⟨some d,.load t x,ty,pos,af,g⟩=true:=by rfl):TO prog b n ops (⟨some d,.load t x,ty,pos,af,g⟩::l) k F e ds X h L:=wlh hT (by rw[hx,addr2]) ha hv t' hd hg
theorem wslT{ops:Array Oper}{K:Env->HF->LH->Prop}{d:Option Nat}{hi:Operand}{z:Int}(hT:lookN wS t=some E)(hx:e.ev x=.slice base m cap)(hm:m=xs.length)(hhi:e.ev hi=.int .i64 z)(hR:SlC R h base cap xs)(hS:lookN wT E=some (R.sz,a))(hz:0<=z/\z<=(xs.length:Int))(t':∀base' cap',SlC R h base' cap' (xs.take z.toNat)->K (pute e d (.slice base' (xs.take z.toNat).length cap')) h L)(hg:guardB ops e ⟨d,.slice t x none (some hi) none,ty,pos,af,g⟩=true:=by rfl):Stp prog b n ops F ds X ⟨d,.slice t x none (some hi) none,ty,pos,af,g⟩ e h L K:=
 TF (rf (tabq (f:=sliceE prog) FJ hT)) (tabq (f:=tySz prog) ox hS) hR.1 hR.2 hz hx hm hhi t' hg
theorem wcXR{ops:Array Oper}{K:Env->HF->LH->Prop}{x:Except Int ρ}{B:LH}{QP:List PanicEntry->Prop}[i:Ct f](hvs:ass.toList.map e.ev=vs)(hs:i.p->FD prog f vs h (exW pe fv x))(hz:z=exi x kk)(pn:∀ch {h2 e' L'},QP ch->SP B L'->TP prog b n ch F e' ds X h2 L')(hB:SP B L)(hQ:∀er,z=.error er->QP [{ v:=pe er,recovered:=false }])(t':∀r,x=.ok r->z=kk r->K (pute e q (fv r)) h L)(hg:guardB ops e ⟨q,.call ⟨.value (.func f),ass,ats⟩,ty,pos,af,g⟩=true:=by rfl):
  Stp prog b n ops F ds X ⟨q,.call ⟨.value (.func f),ass,ats⟩,ty,pos,af,g⟩ e h L K:=
 rG i.call (hs i.pf) hvs (λu hu=>by obtain⟨r,hr,rfl⟩:=wm hu;exact t' r hr (hz.trans (Dk hr)))
  (λp hp e'=>by obtain⟨r,hr,rfl⟩:=se hp;exact pn _ (hQ r (hz.trans (uU hr))) hB) hg
theorem wgN{c:Bool}(hj:gslot ops.toList j=some s)(hs:e s=.bool c)(hc:c=false)(t':TO prog b n ops (⟨q,op,ty,pos,af,some (j,w)⟩::l) k F (upd e s (.bool false)) ds X h L):TO prog b n ops (⟨q,op,ty,pos,af,some (j,w)⟩::l) k F e ds X h L:=vo s hs (λa=>by rw[hc]at a;cases a) (λ_=>t')
theorem wdh2{z:Nat}{l:List Oper}{gk:List Nat}{K:LH}{p:Addr}{cs:List Value}(hT:lookN wT t=some (mm,a))(hx:e.ev x=.pointer (some ((p.add z).add j)))(ha:At h p cs)(hv:ldV a mm cs (z+j)=some v)(q:TD gk prog b n l k F ds X K m (i::dn) (upd e d v) h L)(hg:guardB l.toArray e ⟨some d,.load t x,ty,pos,af,g⟩=true:=by rfl):TX gk prog b n l k F ds X K m dn i ⟨some d,.load t x,ty,pos,af,g⟩ e h L:=wdh hT (by rw[hx,addr2]) ha hv q hg
end
instance:MpT 183 Int.instDecidableEq (jC .i64) Aw (0:Int):=⟨⟨_,_,_,Dv,(ga nz),zv3,λ_=>rfl⟩⟩
instance:MpT 224 Int.instDecidableEq (jC .i64) sJ false:=⟨⟨_,_,_,underlying224,(ga nz),zv4,λ_=>rfl⟩⟩
instance:MpT 227 inferInstance gq.enc (lY xS) (aAf 0 0 0 0 0 0 0 false):=⟨⟨_,_,_,underlying227,OC,zv81,λ_=>⟨_,rfl,rfl⟩⟩⟩
instance:MpT 288 inferInstance xV (lY aQ.rp) (aQ.mk 0 0 0 0 0 0 false):=⟨⟨_,_,_,underlying288,IP,zv76,λ_=>⟨_,rfl,rfl⟩⟩⟩
instance:MpT 384 inferInstance eR.enc (lY aG.rp) (aG.mk 0 0 0 0 0 false false):=⟨⟨_,_,_,underlying384,KA,zv78,λ_=>⟨_,rfl,rfl⟩⟩⟩
instance:MpT 398 inferInstance et.enc (lY bj.rp) (bj.mk 0 0 0 0 0 0 0 0 0 false):=⟨⟨_,_,_,underlying398,xr,zv150,λ_=>⟨_,rfl,rfl⟩⟩⟩
instance:EqT 69 inferInstance eQ.cells:=⟨O8,eqg69⟩
instance:EqT 78 inferInstance aG.cells:=⟨M9,eqg78⟩
instance:EqT 81 inferInstance vS:=⟨Qq,eqg81⟩
instance:EqT 150 inferInstance bj.cells:=⟨Qp,eqg150⟩
instance:IfT 37:=⟨⟨_,underlying37,rfl⟩⟩
instance:IfT 375:=⟨⟨_,underlying375,rfl⟩⟩
end
section
theorem lnS{b:Option Addr}{c:Nat}(a:SlC R h b c xs):xs.length<=9223372036854775807:=a.1.1
theorem nthA(h:p:=by first|exact(rfl:nth _ 0=_)|exact(rfl:nth _ 1=_)|exact(rfl:nth _ 2=_)|exact(rfl:nth _ 3=_)|exact(rfl:nth _ 4=_)|exact(rfl:nth _ 5=_)|exact(rfl:nth _ 6=_)|fail):p:=h
theorem rdR(h:p:=by first|exact trivial|((repeat (first|exact trivial|refine⟨rfl,?_⟩|refine⟨wrc rfl nthA rfl rfl rfl rfl,?_⟩|fail));all_goals fail)|fail):p:=h
theorem slm[i:RpG R]{b:Option Addr}{c:Nat}(a:SlC R h b c xs)(hl:h.le h'):SlC R h' b c xs:=a.mono i.good.mono hl
theorem atm{q:Addr}{cs:List Value}(a:At h q cs)(hl:h.le h'):At h' q cs:=a.mono hl
theorem ok0(h:p:=by first|assumption|exact fg.ok.mono (by assumption) leA|exact ay.ok.mono (by assumption) leA|exact aD.ok.mono (by assumption) leA|exact av.ok.mono (by assumption) leA|exact Register.ok.mono (by assumption) leA|exact fw.ok.mono (by assumption) leA|exact iu.ok.mono (by assumption) leA|exact bh.ok.mono (by assumption) leA|exact gu.ok.mono (by assumption) leA|exact iK.ok.mono (by assumption) leA|exact e8.ok.mono (by assumption) leA|exact bI.ok.mono (by assumption) leA|exact ao.ok.mono (by assumption) leA|fail):p:=h
theorem ok1(h:p:=by first|exact ok0|((with_reducible refine fg.ok.ao ?_);exact ok0)|((with_reducible refine ay.ok.aS ?_);exact ok0)|((with_reducible refine aD.ok.ay ?_);exact ok0)|((with_reducible refine gu.ok.x ?_);exact ok0)|((with_reducible refine e8.ok.shelf ?_);exact ok0)|((with_reducible refine bI.ok.Register ?_);exact ok0)|((with_reducible refine bI.ok.aP ?_);exact ok0)|fail):p:=h
theorem okA(h:p:=by first|exact ok0|((with_reducible refine fg.ok.ao ?_);exact ok1)|((with_reducible refine ay.ok.aS ?_);exact ok1)|((with_reducible refine aD.ok.ay ?_);exact ok1)|((with_reducible refine gu.ok.x ?_);exact ok1)|((with_reducible refine e8.ok.shelf ?_);exact ok1)|((with_reducible refine bI.ok.Register ?_);exact ok1)|((with_reducible refine bI.ok.aP ?_);exact ok1)|fail):p:=h
theorem rpA(h:p:=by first|rfl|exact⟨_,rfl,okA⟩|exact⟨_,_,rfl,slm (by assumption) leA⟩|exact rpN|fail):p:=h
theorem ceA(h:p:=by first|exact cNi|exact cCo rpA rfl cNi|exact cCo rpA rfl (cCo rpA rfl cNi)|exact cCo rpA rfl (cCo rpA rfl (cCo rpA rfl cNi))|exact cCo rpA rfl (cCo rpA rfl (cCo rpA rfl (cCo rpA rfl cNi)))|exact cCo rpA rfl (cCo rpA rfl (cCo rpA rfl (cCo rpA rfl (cCo rpA rfl cNi))))|exact cCo rpA rfl (cCo rpA rfl (cCo rpA rfl (cCo rpA rfl (cCo rpA rfl (cCo rpA rfl cNi)))))|exact cCo rpA rfl (cCo rpA rfl (cCo rpA rfl (cCo rpA rfl (cCo rpA rfl (cCo rpA rfl (cCo rpA rfl cNi))))))|exact cCo rpA rfl (cCo rpA rfl (cCo rpA rfl (cCo rpA rfl (cCo rpA rfl (cCo rpA rfl (cCo rpA rfl (cCo rpA rfl cNi)))))))|fail):p:=h
theorem slA(h:p:=by first
 |assumption
 |exact slm (by assumption) leA
 |exact SlC.nil
 |exact ay.ok.dM okA
 |exact ay.ok.aB okA
 |exact ay.ok.cZ okA
 |exact av.ok.ju okA
 |exact ao.ok.list okA
 |exact av.ok.fF okA
 |exact av.ok.e9 okA
 |exact Register.ok.da okA
 |exact Register.ok.eI okA
 |exact Register.ok.dt okA
 |exact Register.ok.df okA
 |exact Register.ok.Versions okA
 |exact Register.ok.bV okA
 |exact Register.ok.bO okA
 |exact fw.ok.Versions okA
 |exact fw.ok.Who okA
 |exact iu.ok.path okA
 |exact bh.ok.dg okA
 |exact bh.ok.j9 okA
 |exact iK.ok.docs okA
 |exact e8.ok.signed okA
 |exact e8.ok.done okA
 |exact e8.ok.lacks okA|fail):p:=h
theorem cpX{q:Prop}(h:p)(k:p->q:=by intro h;simp only[decide_eq_true_eq,decide_eq_false_iff_not,Bool.and_eq_true,Bool.or_eq_true,Bool.not_eq_true',Bool.not_eq_false',Bool.and_eq_false_iff,Bool.or_eq_false_iff,beq_iff_eq,beq_eq_false_iff_ne,bne_iff_ne,bne_eq_false_iff_eq,ne_eq,Decidable.not_not]at h;exact h):q:=k h
theorem sdb(h:p:=by first|assumption|exact eM (by assumption)|exact ob|fail):p:=h
theorem sdQ(h:p:=by first|(apply q0<;>exact sdb)|(apply q1<;>exact sdb)|(apply q2<;>exact sdb)|(apply q3<;>exact sdb)|(apply q4<;>exact sdb)|(apply q5<;>exact sdb)|(apply q0<;>first|exact sdb|(apply q1<;>exact sdb)|(apply q2<;>exact sdb)|fail)|(apply q1<;>first|exact sdb|(apply q0<;>exact sdb)|(apply q2<;>exact sdb)|fail)|fail):p:=h
theorem dpA(h:p:=by(have hq:=ao.lB (eM (by assumption)));omega):p:=h
theorem sdA(h:p:=by first|exact ob|exact dpA|exact sdQ|((have gz:=gk);grind)|fail):p:=h
theorem ixA(h:p:=by first|exact ob|exact⟨ob,sdQ⟩|exact sdQ|fail):p:=h
theorem fc0{p:Prop}(h:p:=by first
 |assumption
 |exact hsm.vers
 |((with_reducible refine gSl ?_);exact slA)
 |((with_reducible refine gAt ?_);exact atm (by assumption) leA)
 |((with_reducible refine gIt ?_);first|exact itm (by assumption) leA|exact wit (λc=>by first|(apply c<;>exact fc0)|fail)|fail)
 |((with_reducible refine gNl ?_);exact sdA)
 |((with_reducible refine gNt ?_);exact sdA)
 |((with_reducible refine gEn ?_);exact sdA)
 |((with_reducible refine gAn ?_);exact sdA)
 |exact dM.mono (by assumption) leA
 |exact okA
 |exact okN
 |exact gSl slA
 |exact gAt (atm (by assumption) leA)
 |exact ao.lB (eM (by assumption))
 |((with_reducible refine gAl' ?_);exact sdA)
 |(intro _;exact sdA)
 |exact sdQ
 |(apply_assumption<;>exact sdA)|fail):p:=h
theorem fcA(h:p:=by first|exact fc0|(intro h a dN;exact wrv (λc=>by first|(apply c<;>exact fc0)|fail))|(intros;exact wrv (λc=>by first|(apply c<;>exact fc0)|fail))|fail):p:=h
theorem lnA(h:xs.length<=m:=by first|exact ob|exact lnS (by assumption)|exact lnS slA|fail):xs.length<=m:=h
theorem rvA(h:p:=by first|assumption|(apply_assumption<;>first|exact leA|exact eM (by assumption)|exact fc0|fail)|exact wrv (λc=>by first|(apply c<;>exact fc0)|fail)|fail):p:=h
theorem vlA(h:p:=by first|exact rfl|exact⟨_,rfl,fcA⟩|exact⟨_,_,rfl,fcA⟩|fail):p:=h
theorem lbA(h:p:=by first|exact ob|exact lo|fail):p:=h
theorem grA(h:p:=by first|assumption|exact grm (by assumption) leA|exact cI.nil|exact cI.lit cNi rfl|fail):p:=h
theorem grB(p:cI R E h xs base cap G:=by first|assumption|exact grm (by assumption) leA|fail):cI R E h xs base cap G:=p
theorem edW(h:p:=by
 (repeat (first|refine wtt rfl ?_|refine wto rfl ?_|refine woo rfl ?_|refine wot rfl ?_|refine wld rfl rfl nthA rfl ?_|refine wlh rfl rfl fcA rfl ?_|fail));first
 |(refine wcF rfl hf ?_;exact jZ rfl (hx _ rdd))
 |(refine wgN rfl rfl hf ?_;(repeat (first|refine wgo rfl ?_|refine wot rfl ?_|refine woo rfl ?_|fail));refine oy rfl ?_;exact jZ rfl (hx _ rdd))|fail):p:=h
theorem ndW(h:p:=by first
 |(intro i g hd hf hx e;exact edW)
 |(intro i hd hf hx e;exact edW)|fail):p:=h
theorem rn{q:Prop}(k:q)(h:q->p:=by first|exact λk=>wto rfl k|exact λk=>wtt rfl k|exact λk=>woo rfl k|exact λk=>wot rfl k|fail):p:=h k
theorem pmR{α : Type}{L M:List α}(p:L.Perm M:=by first|exact pmn|exact pm0|exact pmg|exact pm1 pmn|(apply pmc;exact pmR)|(apply pma;exact pmR)|(apply pmb;exact pmR)|fail):L.Perm M:=p
theorem pkA(h:p:=by first|exact pk0|exact pk1 pk0|exact pk1 (pk1 pk0)|exact pk1 (pk1 (pk1 pk0))|exact pk1 (pk1 (pk1 (pk1 pk0)))|exact pk1 (pk1 (pk1 (pk1 (pk1 pk0))))|exact pk1 (pk1 (pk1 (pk1 (pk1 (pk1 pk0)))))|fail):p:=h
theorem flN(h:p:=by first|exact(rfl:_=[])|exact(rfl:_=[999])|fail):p:=h
theorem exA{p:Prop}(h:p:=by first|exact exN|(apply exC;exact rfl;exact pkA;exact exA)|(apply exM;exact rfl;exact pkA;exact exA)|fail):p:=h
theorem sbA{K L:LH}(h:∀p∈K,p∈L:=by first|exact λ_ q=>q|exact λ_ q=>(jsA:List.Sublist _ _).subset q|fail):∀p∈K,p∈L:=h
theorem hzS(h:p:=by first|with_reducible exact hs|exact hs|fail):p:=h
theorem jvA(h:p:=by first|assumption|exact λ_ hx=>(List.not_mem_nil hx).elim|exact λx hx=>(List.mem_append.1 hx).elim (λhx=>by first|(apply_assumption;exact hx)|fail) (λhx=>by have hx:=List.mem_singleton.1 hx;subst hx;first|exact ob|exact fc0|fail)|exact nn1|(dsimp only;exact ob)|exact ob|fail):p:=h
theorem msT{p:Prop}(h:p:=by first
 |(apply msA;exact rdw;exact msT)
 |(apply msGr;exact rfl;exact grA;exact ob;exact pmR;exact msT)
 |(apply msG;exact grA;exact ob;exact rfl;exact pmR;exact msT)
 |(apply msM;exact mpA;(first|exact Nat.le_trans (rP _ _ _) ob|exact ob|fail);exact pmR;exact msT)
 |(apply msD;exact rfl;exact pmR;exact msT)
 |(apply msSr;exact rfl;exact slA;(first|exact ob|(apply ls1;(first|exact q0 _ _|exact q1 _ _|exact q2 _ _|exact q3 _ _|fail);exact ob)|fail);exact msT)
 |(apply msV;exact pmR;exact rfl;exact slA;(first|exact ob|(apply ls1;(first|exact q0 _ _|exact q1 _ _|exact q2 _ _|exact q3 _ _|fail);exact ob)|fail);exact msT)
 |(apply msF;exact grA;exact ob;exact rfl;exact pmR;exact pmR;exact msT)
 |(apply msJ;exact jvA;exact msT)
 |(apply msE;exact SP.of jsA)
 |fail):p:=h
theorem vxA(h:p:=by first|exact rfl|exact⟨_,rfl,rfl⟩|exact⟨_,rfl,_,rfl,okA⟩|exact⟨_,_,rfl,slA⟩|fail):p:=h
theorem kyA(h:p:=by first|with_reducible exact rfl|exact rfl|exact(rfl:_=OSeat.enc (OSeat.mk _ _))|exact(rfl:_=eR.enc (eR.mk _ _ _))|exact(rfl:_=eE.enc (eE.mk _ _ _ _))|exact(rfl:_=et.enc (et.mk _ _ _ _))|exact(rfl:_=gq.enc (gq.mk _ _))|fail):p:=h
theorem vlL(h:p:=by first|exact xz|exact zX|exact pL|exact IU|exact yB|exact Bl|exact uu|exact Bn|exact itv_OSeat_len|fail):p:=h
theorem okN{p:Prop}(h:p:=by first|exact okA|exact slA|exact mcA|exact ao.ok.of slA|(refine⟨?_⟩<;>(try dsimp only)<;>exact okN)|(refine⟨?_,?_⟩<;>(try dsimp only)<;>exact okN)|(refine⟨?_,?_,?_⟩<;>(try dsimp only)<;>exact okN)|(refine⟨?_,?_,?_,?_⟩<;>(try dsimp only)<;>exact okN)|fail):p:=h
theorem rpN(h:p:=by first|exact rfl|exact(rfl:_=cm.cells (cm.mk _ _))|exact(rfl:_=Use.cells (Use.mk _ _ _ _ _))|exact(rfl:_=aQ.cells (aQ.mk _ _ _ _ _ _ _))|exact(rfl:_=bj.cells (bj.mk _ _ _ _ _ _ _ _ _ _))|exact(rfl:_=aG.cells (aG.mk _ _ _ _ _ _ _))|exact(rfl:_=Budget.cells (Budget.mk _ _ _ _ _ _ _ _))|exact(rfl:_=ai.cells (ai.mk _ _ _ _ _ _ _ _))|exact(rfl:_=eQ.cells (eQ.mk _ _))|exact(rfl:_=OSeat.cells (OSeat.mk _ _))|exact(rfl:_=eR.cells (eR.mk _ _ _))|exact(rfl:_=tX.cells (tX.mk _))|exact(rfl:_=eE.cells (eE.mk _ _ _ _))|exact(rfl:_=et.cells (et.mk _ _ _ _))|exact(rfl:_=cn.cells (cn.mk _ _ _ _ _))|exact(rfl:_=gq.cells (gq.mk _ _))|exact⟨(yN.mk (dJ.mk _ _)),rfl,okN⟩|exact⟨(yN.mk (dJ.mk _ _)),(rfl:_=fg.cells (fg.mk _ _ _ (ao.mk _ _ _ _ _)) _),okN⟩|exact⟨(ir.mk _ _ _ _ _ _ (dJ.mk _ _)),rfl,okN⟩|exact⟨(ir.mk _ _ _ _ _ _ (dJ.mk _ _)),(rfl:_=ay.cells (ay.mk _ _ _ _ (ao.mk _ _ _ _ _) _) _),okN⟩|exact⟨(nP.mk (ir.mk _ _ _ _ _ _ (dJ.mk _ _))),rfl,okN⟩|exact⟨(nP.mk (ir.mk _ _ _ _ _ _ (dJ.mk _ _))),(rfl:_=aD.cells (aD.mk _ _ _ (ay.mk _ _ _ _ (ao.mk _ _ _ _ _) _)) _),okN⟩|exact⟨(lv.mk _ _ _ _ _ _),rfl,okN⟩|exact⟨(lv.mk _ _ _ _ _ _),(rfl:_=av.cells (av.mk _ _ _ _ _ _ _ _ _ _) _),okN⟩|exact⟨(lu.mk _ _ _ _ _ _ _ _ _ _ _ _ _ _),rfl,okN⟩|exact⟨(lu.mk _ _ _ _ _ _ _ _ _ _ _ _ _ _),(rfl:_=Register.cells (Register.mk _ _ _ _ _ _ _) _),okN⟩|exact⟨(qh.mk _ _ _ _),rfl,okN⟩|exact⟨(qh.mk _ _ _ _),(rfl:_=fw.cells (fw.mk _ _ _ _) _),okN⟩|exact⟨(L7.mk _ _),rfl,okN⟩|exact⟨(L7.mk _ _),(rfl:_=iu.cells (iu.mk _ _) _),okN⟩|exact⟨(LX.mk _ _),rfl,okN⟩|exact⟨(LX.mk _ _),(rfl:_=sx.cells (sx.mk _ _) _),okN⟩|exact⟨(my.mk _ _ _ _),rfl,okN⟩|exact⟨(my.mk _ _ _ _),(rfl:_=bh.cells (bh.mk _ _ _) _),okN⟩|exact⟨(zz.mk (dJ.mk _ _)),rfl,okN⟩|exact⟨(zz.mk (dJ.mk _ _)),(rfl:_=gu.cells (gu.mk (ao.mk _ _ _ _ _) _) _),okN⟩|exact⟨(pj.mk _ _ _),rfl,okN⟩|exact⟨(pj.mk _ _ _),(rfl:_=iK.cells (iK.mk _ _) _),okN⟩|exact⟨(sW.mk (pj.mk _ _ _) _ _ _ _ _ _ _),rfl,okN⟩|exact⟨(sW.mk (pj.mk _ _ _) _ _ _ _ _ _ _),(rfl:_=e8.cells (e8.mk (iK.mk _ _) _ _ _ _) _),okN⟩|exact⟨(ss.mk (lu.mk _ _ _ _ _ _ _ _ _ _ _ _ _ _) (lv.mk _ _ _ _ _ _)),rfl,okN⟩|exact⟨(ss.mk (lu.mk _ _ _ _ _ _ _ _ _ _ _ _ _ _) (lv.mk _ _ _ _ _ _)),(rfl:_=bI.cells (bI.mk (Register.mk _ _ _ _ _ _ _) (av.mk _ _ _ _ _ _ _ _ _ _) _ _) _),okN⟩|exact⟨(dJ.mk _ _),rfl,okN⟩|exact⟨(dJ.mk _ _),(rfl:_=ao.cells (ao.mk _ _ _ _ _) _),okN⟩|fail):p:=h
theorem zrN(h:p:=by first|exact⟨(yN.mk (dJ.mk _ _)),rfl,okN⟩|exact⟨(ir.mk _ _ _ _ _ _ (dJ.mk _ _)),rfl,okN⟩|exact⟨(nP.mk (ir.mk _ _ _ _ _ _ (dJ.mk _ _))),rfl,okN⟩|exact⟨(lv.mk _ _ _ _ _ _),rfl,okN⟩|exact⟨(lu.mk _ _ _ _ _ _ _ _ _ _ _ _ _ _),rfl,okN⟩|exact⟨(qh.mk _ _ _ _),rfl,okN⟩|exact⟨(L7.mk _ _),rfl,okN⟩|exact⟨(LX.mk _ _),rfl,okN⟩|exact⟨(my.mk _ _ _ _),rfl,okN⟩|exact⟨(zz.mk (dJ.mk _ _)),rfl,okN⟩|exact⟨(pj.mk _ _ _),rfl,okN⟩|exact⟨(sW.mk (pj.mk _ _ _) _ _ _ _ _ _ _),rfl,okN⟩|exact⟨(ss.mk (lu.mk _ _ _ _ _ _ _ _ _ _ _ _ _ _) (lv.mk _ _ _ _ _ _)),rfl,okN⟩|exact⟨(dJ.mk _ _),rfl,okN⟩|fail):p:=h
theorem W{p:Prop}(h:p:=by
 repeat' (first
 |((with_reducible refine gSv ?_);intro X hM hX hF;have hs:=hz.symm)
  |((with_reducible refine gO ?_);first
   |refine woo rfl ?_
   |refine wot rfl ?_
   |((with_reducible refine gLd ?_);first
    |refine wld rfl rfl nthA rfl ?_
    |refine wlh0 rfl rfl fcA ?_
    |refine wlhs rfl rfl fcA rfl ?_
    |refine wlhS rfl rfl fcA ?_
    |refine wlh rfl rfl fcA rfl ?_
    |refine wlh2 rfl rfl fcA rfl ?_
    |fail)
   |((with_reducible refine gBx ?_);first|refine wbxA rfl (λb=>?_)|refine iA (λb=>?_)|fail)
   |((with_reducible refine gAl ?_);refine aM (wal rfl (λb=>?_)))
   |((with_reducible refine gSt ?_);first
    |refine wsW rfl rfl rfl nthA rfl rfl rfl ?_
    |refine wst rfl rfl nthA rfl rfl rfl rfl ?_
    |fail)
   |((with_reducible refine gCf ?_);first
    |(refine aM ?_;first
     |refine wcRr rfl (by first|(apply hrec<;>exact fcA)|fail) ?_
     |refine wcR rfl (λc=>by first|(apply c<;>exact fcA)|fail) ?_
     |((refine wcHr rfl (by first|(apply hrec<;>exact fcA)|fail) (λv h dN hp=>?_));(first|obtain⟨_,_,rfl,hp⟩:=hp|obtain⟨_,rfl,hp⟩:=hp|fail))
     |((refine wcX rfl (λc=>by first|(apply c<;>exact fcA)|fail) hs hF hX (λr hr hs=>?_));try dsimp only at hs)
     |((refine wcXR rfl (λc=>by first|(apply c<;>exact fcA)|fail) hs pn (SP.of jsA) (λer h=>⟨er,rfl,h⟩) (λr hr hs=>?_));try dsimp only at hs)
     |refine wcXo (r:=()) rfl (λc=>by first|(apply c<;>exact fcA)|fail) sdA ?_
     |((refine wcH rfl (λc=>by first|(apply c<;>exact fcA)|fail) (λv h dN hp=>?_));(first|obtain⟨_,_,rfl,hp⟩:=hp|obtain⟨_,rfl,hp⟩:=hp|fail))
     |fail)
    |refine wfgo (by assumption:cI _ _ _ _ _ _ _) pmA hM (λh dN sl=>?_)
    |fail)
   |((with_reducible refine gMi ?_);first|refine wmi rfl rfl ?_|refine wma rfl rfl ?_|fail)
   |((with_reducible refine gIf ?_);refine wif rfl ?_)
   |((with_reducible refine gPn ?_);first|exact wpX hs rfl rfl hF hX|exact wpXH hs rfl rfl hF|fail)
   |((with_reducible refine gAp ?_);(first|refine wap rfl rfl grA rfl pmR rfl slA rfl rfl rfl rfl lbA lbA (λbs cp G hG=>?_)|refine wapO rfl rfl grA rfl pmR rfl nthA ceA rfl rfl rfl rfl lbA lbA (λbs cp G hG=>?_)|fail))
   |((with_reducible refine gCt ?_);first|refine wyl hy m1 hF hs hv hC leA leA pmA rfl rfl vlA (λh A dN hC v hs hv=>?_) (λh A dN hSp=>?_)|refine aM (wcV rfl rfl rvA ?_)|fail)
   |((with_reducible refine gMf ?_);first
    |refine wmz 0 rfl rfl nthA hM (λh dN at_=>?_)
    |refine wmz 1 rfl rfl nthA hM (λh dN at_=>?_)
    |refine wmz 2 rfl rfl nthA hM (λh dN at_=>?_)
    |refine wmz 3 rfl rfl nthA hM (λh dN at_=>?_)
    |refine wmz 4 rfl rfl nthA hM (λh dN at_=>?_)
    |refine aM (wmf ?_)
    |fail)
   |((with_reducible refine gIx ?_);(first
    |refine wix rfl rfl rfl rfl slA rfl (nthZ (by assumption)) (kz (by assumption)) (λq cs hA hl hr=>?_)
    |refine wixw rfl rfl rfl rfl slA rfl ixA (eH ixA) (λq cs hA hl hr=>?_)
    |refine wix rfl rfl rfl rfl slA rfl ixA (eH ixA) (λq cs hA hl hr=>?_)
    |fail);(first|(obtain⟨_,_,rfl,hr⟩:=hr)|(obtain⟨_,rfl,hr⟩:=hr)|(have hr:=(hr:cs=_);subst hr)|fail))
   |((with_reducible refine gSc ?_);refine aM ?_;first|refine wslT rfl rfl rfl rfl slA rfl ixA (λb c sl=>?_)|refine wslD rfl rfl rfl rfl slA rfl ixA (λb c sl=>?_)|fail)
   |((with_reducible refine gSx ?_);refine wsx rfl rfl rfl ixA ?_)
   |((with_reducible refine gBs ?_);first
    |refine wbf rfl rfl rfl ceA rfl hM (λb h dN sl=>?_)
    |refine aM (wbs rfl rfl rfl (λb=>?_))
    |refine aM (wbs0 rfl rfl (λb=>?_))
    |fail)
   |((with_reducible refine gBi ?_);first|refine weq rfl rfl ?_|refine wne rfl rfl ?_|refine weB rfl rfl ?_|refine wshr rfl rfl ob ?_|refine wband rfl rfl ?_|refine wshl rfl rfl ob ?_|fail)
   |((with_reducible refine gCv ?_);refine wcv rfl rfl rfl ?_)
   |((with_reducible refine gBd ?_);refine aM (wbd rfl rfl rfl ?_))
   |((with_reducible refine gMk ?_);refine aM (s7 (λb=>?_)))
   |((with_reducible refine gLk ?_);refine aM ?_;((first|refine wmG rfl nthA mpA kyA (λv hv=>?_)|refine wmF rfl mcA kyA (λv hv=>?_)|fail);(first|(obtain⟨_,rfl,_,rfl,hv⟩:=hv)|(obtain⟨_,_,rfl,hv⟩:=hv)|(obtain⟨_,rfl,hv⟩:=hv;have hv:=(hv:_=_);subst hv)|(have hv:=(hv:v=_);subst hv)|fail)))
   |((with_reducible refine gMu ?_);refine aM (wmS rfl nthA mpA kyA vxA (λo hm hn=>?_)))
   |((with_reducible refine gPk ?_);refine wgo rfl ?_;first|exact hk _ rfl|exact wso (hk _ rfl) jsA leA hX leA|(have hc:=hC)|fail)
   |((with_reducible refine gGu ?_);first
    |refine wgo rfl ?_
    |((fail_if_success (refine gGf rfl ?_));(refine wgs hC rfl rfl (λc=>?_) (λc=>?_)<;>(try (have hs:=hs.trans (bt tvA)))<;>(try (have hs:=hs.trans (bf tvA)))))
    |((fail_if_success (refine gGf rfl ?_));(refine gOr false rfl ?_);refine wor _ rfl rfl rfl (λc hk=>W) (λe=>?_))
    |((fail_if_success (refine gGf rfl ?_));(refine gOr true rfl ?_);refine wand _ rfl rfl rfl (λc hk=>W) (λe=>?_))
    |fail))
  |((with_reducible refine gX ?_);first
   |((with_reducible refine gXl ?_);first
    |refine wdl rfl rfl nthA rfl ?_
    |refine wdh0 rfl rfl fcA ?_
    |refine wdhs rfl rfl fcA rfl ?_
    |refine wdhS rfl rfl fcA ?_
    |refine wdh rfl rfl fcA rfl ?_
    |refine wdh2 rfl rfl fcA rfl ?_
    |fail)
   |((with_reducible refine gXi ?_);(first
    |refine wdi rfl rfl rfl rfl slA rfl (nthZ (by assumption)) (kz (by assumption)) (λq cs hA hl hr=>?_)
    |refine wdiw rfl rfl rfl rfl slA rfl ixA (eH ixA) (λq cs hA hl hr=>?_)
    |refine wdi rfl rfl rfl rfl slA rfl ixA (eH ixA) (λq cs hA hl hr=>?_)
    |fail);(first|(obtain⟨_,_,rfl,hr⟩:=hr)|(obtain⟨_,rfl,hr⟩:=hr)|(have hr:=(hr:cs=_);subst hr)|fail))
   |((with_reducible refine gXb ?_);first|refine wdeq rfl rfl ?_|refine wdne rfl rfl ?_|refine wdqo rfl rfl ob ?_|fail)
   |refine wdlr true rfl rfl rfl ?_
   |refine wdlr false rfl rfl rfl ?_|refine wdlu rfl rfl rfl ?_
   |(refine wdsp rfl rfl rfl (λc=>?_) (λc=>?_)<;>(try (have hs:=hs.trans (bt tvA)))<;>(try (have hs:=hs.trans (bf tvA))))
   |fail)
  |((with_reducible refine gD ?_);first
   |refine wdq rfl rfl ?_
   |refine wdx 0 rfl ?_
   |((refine wdx 1 rfl ?_);first|refine wdlr true rfl rfl rfl ?_|refine wdlr false rfl rfl rfl ?_|refine wdlu rfl rfl rfl ?_|(refine wdsp rfl rfl rfl (λc=>?_) (λc=>?_)<;>(try (have hs:=hs.trans (bt tvA)))<;>(try (have hs:=hs.trans (bf tvA))))|fail)
   |refine wd0 rfl ?_
   |refine wd1 rfl rfl ?_
   |fail)
  |((with_reducible refine gJ ?_);first|with_reducible refine jtC leA sbA ?_|refine jtK leA sbA ?_|fail)
  |((with_reducible refine gMU ?_);first
   |refine muA (λ_=>?_)
   |refine muG (λ_ _ _ _=>?_)
   |refine muM (λ_ _=>?_)
   |refine muD (λ_=>?_)
   |refine muF (λ_ _ _ _=>?_)
   |refine muJ ?_
   |((refine muE (λi h=>?_));intro hJ;(repeat (first|obtain⟨⟨_,_⟩,hJ⟩:=hJ|obtain⟨_,hJ⟩:=hJ|fail));(first|((with_reducible refine gAf ?_);intro hil hs dN e;try dsimp only at hs)|((with_reducible refine gCn ?_);intro y r hd hlt hget hltp hbd hs dN hx ag e;(try have cv:=w0 (eM hd));(try have cw:=w1 (eM hd));(try have cx:=w2 (eM hd));try dsimp only at hs)|((with_reducible refine gCm ?_);intro r hlt hltp hs dN ag e;try dsimp only at hs)|((with_reducible refine gRn ?_);intro l r lp x rest vs h X FR hcn hmx dN hle2 hv hX hXM hlp hs ag rt ex pn;(try have cv:=w0 hmx);(try dsimp only at hs);(first|(obtain⟨_,rfl,hv⟩:=hv)|(have hv:=(hv:vs=_);subst hv)|fail))|((with_reducible refine gJr ?_);intro r h hs dN hle2;first|exact hs.elim|(try dsimp only at hs))|((with_reducible refine gNx ?_);intro r h hs dN hle2;try dsimp only at hs)|fail))
   |fail)
  |((with_reducible refine gS ?_);first
   |first
     |refine wcRr rfl (by first|(apply hrec<;>exact fcA)|fail) ?_
     |refine wcR rfl (λc=>by first|(apply c<;>exact fcA)|fail) ?_
     |((refine wcHr rfl (by first|(apply hrec<;>exact fcA)|fail) (λv h dN hp=>?_));(first|obtain⟨_,_,rfl,hp⟩:=hp|obtain⟨_,rfl,hp⟩:=hp|fail))
     |((refine wcX rfl (λc=>by first|(apply c<;>exact fcA)|fail) hs hF hX (λr hr hs=>?_));try dsimp only at hs)
     |((refine wcXR rfl (λc=>by first|(apply c<;>exact fcA)|fail) hs pn (SP.of jsA) (λer h=>⟨er,rfl,h⟩) (λr hr hs=>?_));try dsimp only at hs)
     |refine wcXo (r:=()) rfl (λc=>by first|(apply c<;>exact fcA)|fail) sdA ?_
     |((refine wcH rfl (λc=>by first|(apply c<;>exact fcA)|fail) (λv h dN hp=>?_));(first|obtain⟨_,_,rfl,hp⟩:=hp|obtain⟨_,rfl,hp⟩:=hp|fail))
     |fail
   |refine wylS hy m1 hF hs hv hC leA leA pmA rfl rfl vlA (λh A dN hC v hs hv=>?_) (λh A dN hSp=>?_)
   |refine wcV rfl rfl rvA ?_
   |refine wmf ?_
   |refine wal rfl (λb=>?_)
   |refine s7 (λb=>?_)
   |((first|refine wmG rfl nthA mpA kyA (λv hv=>?_)|refine wmF rfl mcA kyA (λv hv=>?_)|fail);(first|(obtain⟨_,rfl,_,rfl,hv⟩:=hv)|(obtain⟨_,_,rfl,hv⟩:=hv)|(obtain⟨_,rfl,hv⟩:=hv;have hv:=(hv:_=_);subst hv)|(have hv:=(hv:v=_);subst hv)|fail))
   |refine wmS rfl nthA mpA kyA vxA (λo hm hn=>?_)
   |refine wbd rfl rfl rfl ?_
   |refine wbs rfl rfl rfl (λb=>?_)
   |refine wbs0 rfl rfl (λb=>?_)
   |fail)
  |((with_reducible refine gPq ?_);first|exact λ_ _ _ _ q=>q.elim|exact pqX hF hX|fail)
  |((with_reducible refine gBr ?_);refine mU _ nthA hlp ?_)
  |((with_reducible refine gRf ?_);first
   |refine lprM (rs:=[]) (hsR () HA hzS) rfl fcA hF msT rfl pmR hX leA rfl vlL ?_ ?_ ?_ ?_
   |refine lprM  (hsR () HA hzS) rfl fcA hF msT rfl pmR hX leA rfl vlL ?_ ?_ ?_ ?_
   |refine lprM (rs:=[]) (hsR (_,()) HA hzS) rfl fcA hF msT rfl pmR hX leA rfl vlL ?_ ?_ ?_ ?_
   |refine lprM  (hsR (_,()) HA hzS) rfl fcA hF msT rfl pmR hX leA rfl vlL ?_ ?_ ?_ ?_
   |refine lprM (rs:=[]) (hsR (_,_,()) HA hzS) rfl fcA hF msT rfl pmR hX leA rfl vlL ?_ ?_ ?_ ?_
   |refine lprM  (hsR (_,_,()) HA hzS) rfl fcA hF msT rfl pmR hX leA rfl vlL ?_ ?_ ?_ ?_
   |refine lprM (rs:=[]) (hsR (_,_,_,()) HA hzS) rfl fcA hF msT rfl pmR hX leA rfl vlL ?_ ?_ ?_ ?_
   |refine lprM  (hsR (_,_,_,()) HA hzS) rfl fcA hF msT rfl pmR hX leA rfl vlL ?_ ?_ ?_ ?_
   |(have HA:=@HB;clear HB;(try (have HB:=@HC;clear HC));(try (have HC:=@HD;clear HD));(try (have HD:=@HE;clear HE));(try (have HE:=@HG;clear HG));(try (have HG:=@HI;clear HI)))
   |fail)
  |((with_reducible refine gT ?_);first
   |((with_reducible refine gEx ?_);first|exact ex () hs msT leA rfl|exact ex (_,()) hs msT leA rfl|exact ex (_,_,()) hs msT leA rfl|(refine jZ rfl (hx _ hs (hi:=?_) (hr:=?_));rotate_left;exact rdd;exact ob)|(refine jZ rfl (hx _ _ hs (hi:=?_) (hr:=?_));rotate_left;exact rdd;exact ob)|(refine jZ rfl (hx _ hs (by assumption) leA ?_ (hi:=?_) (hr:=?_));rotate_left 2;exact rdd;exact ob;exact ob)|(refine jZ rfl (hx _ hs leA ?_ (hi:=?_) (hr:=?_));rotate_left 2;exact rdd;exact SP.app pmR (SP.of jsA);exact ob)|(refine jZ rfl (hx _ (_,()) hs ?_ leA (hi:=?_) (hr:=?_));rotate_left 2;exact rdd;exact msT;exact ob)|(refine jZ rfl (hx _ (_,_,()) hs ?_ leA (hi:=?_) (hr:=?_));rotate_left 2;exact rdd;exact msT;exact ob)|(refine jZ rfl (hx _ (_,_,_,()) hs ?_ leA (hi:=?_) (hr:=?_));rotate_left 2;exact rdd;exact msT;exact ob)|refine jZ rfl ?_|fail)
   |refine wtt rfl ?_
   |refine wto rfl ?_
   |((with_reducible refine gLo ?_);first
    |refine lpkY hv hC m1 leA pmA (by first|with_reducible exact hs0 HA hs|fail) (by exact rfl) lnA rfl (λi dn A hh v hil hs hv hC dN e=>?_) (λi dn A hh v y r hd hlt hget hltp hbd hs hv hC dN hx ag e=>?_)<;>(try have cv:=w0 (eM hd))<;>(try have cw:=w1 (eM hd))<;>(try have cx:=w2 (eM hd))
    |refine lpk0 (by first|with_reducible exact hs0 HA hs|fail) lnA rfl (λi hil hs e=>?_) (λi y r hd hlt hget hltp hbd hs hx ag e=>?_)<;>(try have cv:=w0 (eM hd))<;>(try have cw:=w1 (eM hd))<;>(try have cx:=w2 (eM hd))
    |refine lpn0 (by first|with_reducible exact hs0 HA hs|fail) ob rfl (λi hil hs e=>?_) (λi r hd hlt hltp hs hx ag e=>?_)
    |refine lpkG (by first|with_reducible exact hsG HA hs|fail) lnA rdd grA pmA (λi l bs cp G hh hil hs dN hG hn e=>?_) (λi l bs cp G hh y r hd hlt hget hltp hbd hs dN hG hn hx ag e=>?_)<;>(try have cv:=w0 (eM hd))<;>(try have cw:=w1 (eM hd))<;>(try have cx:=w2 (eM hd))
    |refine lpkR (rs:=[]) (by first|with_reducible exact hsK HA hs|fail) lnA rfl rfl pmR hX leA (λi rs hh hil hs dN e=>?_) (λi rs hh y r hd hlt hget hltp hbd hs dN hx ag e=>?_)<;>(try have cv:=w0 (eM hd))<;>(try have cw:=w1 (eM hd))<;>(try have cx:=w2 (eM hd))
    |refine lpkR (by first|with_reducible exact hsK HA hs|fail) lnA rfl rfl pmR hX leA (λi rs hh hil hs dN e=>?_) (λi rs hh y r hd hlt hget hltp hbd hs dN hx ag e=>?_)<;>(try have cv:=w0 (eM hd))<;>(try have cw:=w1 (eM hd))<;>(try have cx:=w2 (eM hd))
    |refine lpkM (hsM (_,()) HA hzS) lnA rfl msT hX leA ?_ ?_
    |refine lpkM (hsM (_,_,()) HA hzS) lnA rfl msT hX leA ?_ ?_
    |refine lpkM (hsM (_,_,_,()) HA hzS) lnA rfl msT hX leA ?_ ?_
    |refine lpk1 (by first|with_reducible exact hs1 _ HA hs|fail) lnA rdd (λi w hil hs e=>?_) (λi w y r hd hlt hget hltp hbd hs hx ag e=>?_)<;>(try have cv:=w0 (eM hd))<;>(try have cw:=w1 (eM hd))<;>(try have cx:=w2 (eM hd))
    |refine lpk1 (by first|with_reducible exact hs1 (_,_) HA hs|fail) lnA rdd (λi w hil hs e=>?_) (λi w y r hd hlt hget hltp hbd hs hx ag e=>?_)<;>(try have cv:=w0 (eM hd))<;>(try have cw:=w1 (eM hd))<;>(try have cx:=w2 (eM hd))
    |refine lpk1 (by first|with_reducible exact hs1 (_,_,_) HA hs|fail) lnA rdd (λi w hil hs e=>?_) (λi w y r hd hlt hget hltp hbd hs hx ag e=>?_)<;>(try have cv:=w0 (eM hd))<;>(try have cw:=w1 (eM hd))<;>(try have cx:=w2 (eM hd))
    |(have HA:=@HB;clear HB;(try (have HB:=@HC;clear HC));(try (have HC:=@HD;clear HD));(try (have HD:=@HE;clear HE));(try (have HE:=@HG;clear HG));(try (have HG:=@HI;clear HI)))
    |fail)
   |((with_reducible refine gRg ?_);first|refine wanyG rfl (by assumption) pmR rfl flN exA rfl ?_|refine wanyY rfl hC pmR rfl flN exA rfl ?_|refine wanyE rfl flN exA rfl ?_|refine wanyK (gk:=[]) kyQ rfl ?_|fail)
   |((with_reducible refine gIl ?_);first
    |exact wsb (ag hs (hr:=rdw)) jsA leA hX leA
    |exact ag (_,()) hs msT leA (hr:=rdw)
    |exact ag hs leA (SP.app pmR (SP.of jsA)) (hr:=rdw)
    |exact ag (_,_,()) hs msT leA (hr:=rdw)
    |exact ag (_,_,_,()) hs msT leA (hr:=rdw)
    |exact wsb (ag _ hs (hr:=rdw)) jsA leA hX leA
    |exact wsb (ag (_,_) hs (hr:=rdw)) jsA leA hX leA
    |exact wsb (ag (_,_,_) hs (hr:=rdw)) jsA leA hX leA
    |exact wsb (ag (_,_,_,_) hs (hr:=rdw)) jsA leA hX leA
    |exact wsb (ag hs (by assumption) leA ob (hr:=rdw)) jsA leA hX leA
    |exact wsb (ag hs hv hC leA (hr:=rdw)) jsA leA hX leA
    |fail)
   |((with_reducible refine gCo ?_);first
    |refine wcTh rfl (by assumption) hs bP (λhs=>?_)
    |refine wcT rfl (by assumption) ?_
    |refine wcF rfl (by assumption) ?_
    |refine rD rfl ?_
    |refine oy rfl ?_
    |(refine wcond rfl hs (λc hs=>?_) (λc hs=>?_)<;>(try (have cp:=cpX c))<;>(try (have ca:=cp.1;have cb:=cp.2))<;>(try (have cd:=ca.1;have ce:=ca.2))<;>(try (have cf:=cd.1;have cg:=cd.2))<;>(try have cz:=q9 c)<;>(try have cy:=q8 c))
    |(refine wcoN rfl hs bP (λc hs=>?_) (λc hs=>?_)<;>(try (have cp:=cpX c))<;>(try (have ca:=cp.1;have cb:=cp.2))<;>(try (have cd:=ca.1;have ce:=ca.2))<;>(try (have cf:=cd.1;have cg:=cd.2))<;>(try have cz:=q9 c)<;>(try have cy:=q8 c))
    |(refine wcoN rfl hs (Eq.symm bP) (λc hs=>?_) (λc hs=>?_)<;>(try (have cp:=cpX c))<;>(try (have ca:=cp.1;have cb:=cp.2))<;>(try (have cd:=ca.1;have ce:=ca.2))<;>(try (have cf:=cd.1;have cg:=cd.2))<;>(try have cz:=q9 c)<;>(try have cy:=q8 c))
    |fail)
   |((with_reducible refine gRe ?_);first
    |exact rt () hs msT leA
    |exact rt (_,()) hs msT leA
    |exact rt (_,_,()) hs msT leA
    |((first|refine wrP [_] hF rfl rdR hX ?_|refine wrP [_,_] hF rfl rdR hX ?_|refine wrP [_,_,_] hF rfl rdR hX ?_|refine wrP [_,_,_,_] hF rfl rdR hX ?_|refine wrP [_,_,_,_,_] hF rfl rdR hX ?_|refine wrP [] hF rfl rdR hX ?_|fail);(first|(subst hs;rfl)|rfl|exact hs▸rfl|fail))
    |((first|refine wrPM [_] pmR hF rfl rdR hX ?_|refine wrPM [_,_] pmR hF rfl rdR hX ?_|refine wrPM [_,_,_] pmR hF rfl rdR hX ?_|refine wrPM [] pmR hF rfl rdR hX ?_|fail);(first|(subst hs;rfl)|rfl|exact hs▸rfl|fail))
    |((first|refine wrHM [_] pmR hF rfl rdR ?_|refine wrHM [_,_] pmR hF rfl rdR ?_|refine wrHM [_,_,_] pmR hF rfl rdR ?_|fail);(first|subst hs|rw[hs]|skip);(first|exact⟨_,_,rfl,fcA⟩|exact⟨_,rfl,fcA⟩|exact zrN|fail))
    |((first|refine wrH [_] hF rfl rdR ?_|refine wrH [_,_] hF rfl rdR ?_|refine wrHM [_] pmR hF rfl rdR ?_|refine wrHM [_,_] pmR hF rfl rdR ?_|fail);(conv at hs=>rhs;whnf);subst hs;exact zrN)
    |((refine wrXH hs [_] hF rfl rdR ?_);(first|exact⟨_,_,rfl,fcA⟩|exact⟨_,rfl,fcA⟩|exact zrN|fail))
    |((first|refine wrH [_] hF rfl rdR ?_|refine wrH [_,_] hF rfl rdR ?_|refine wrH [_,_,_] hF rfl rdR ?_|fail);(first|subst hs|rw[hs]|skip);(first|exact⟨_,_,rfl,fcA⟩|exact⟨_,rfl,fcA⟩|exact zrN|fail))
    |refine wfg grB pmR hM (λh dN sl=>?_)
    |refine wmC mpB mvM pmR hM (λh dN hm=>?_)
    |exact wyR (.inr hSp) hF rfl jsA
    |exact wyR (wyf hC m1 leA hv hs) hF rfl jsA
    |fail)
   |((with_reducible refine gNi ?_);first
    |exact ag (_,()) hs msT leA
    |exact ag (_,_,()) hs msT leA
    |exact ag (_,_,_,()) hs msT leA
    |exact ag () hs msT leA
    |exact wyE (.inr hSp) hF rfl jsA
    |exact wyE (wyf hC m1 leA hv hs) hF rfl jsA
    |refine weX hs [] hF rfl hX rdR rfl
    |refine weXM hs [] pmR hF rfl hX rdR rfl
    |((first|refine weH [_] hF rfl rdR ?_|refine weH [_,_] hF rfl rdR ?_|refine weH [_,_,_] hF rfl rdR ?_|fail);(first|subst hs|rw[hs]|skip);(first|exact⟨_,_,rfl,fcA⟩|exact⟨_,rfl,fcA⟩|exact zrN|fail))
    |fail)
   |fail)
  |fail)
 all_goals fail):p:=h
end
end Go.Sg
