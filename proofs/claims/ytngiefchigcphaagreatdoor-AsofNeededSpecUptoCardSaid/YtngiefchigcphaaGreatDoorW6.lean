import Derived.Test.YtngiefchigcphaaGreatDoorW5
/- A part of the proof of AsofNeededSpec. -/
set_option linter.unusedVariables false
set_option linter.unusedSimpArgs false
set_option maxRecDepth 100000
namespace Go.Sg
open Go.Proofs Go.Proofs.Tryz
theorem ty120:tySz prog 120=some (1,false):=kr
theorem ty203:tySz prog 203=some (1,false):=kr
theorem ty159:tySz prog 159=some (1,false):=kr
theorem ty212:tySz prog 212=some (2,true):=kr
theorem ty31:tySz prog 31=some (1,false):=kr
theorem ty215:tySz prog 215=some (1,false):=kr
theorem ty3:tySz prog 3=some (1,false):=kr
theorem zc212:zeroC prog 212=some [.int .i64 0,.int .i64 0]:=kr
theorem bytes212:bytesOf prog 212=some 16:=kr
theorem zc3:zeroC prog 3=some [.int .i64 0]:=kr
theorem bytes3:bytesOf prog 3=some 8:=kr
theorem zc35:zeroC prog 35=some [.int .i64 0]:=kr
theorem ty35:tySz prog 35=some (1,false):=kr
theorem zc277:zeroC prog 277=some [.int .i64 0]:=kr
theorem ty277:tySz prog 277=some (1,true):=kr
theorem IX:fldOf prog 277 0=some 0:=kr
theorem ty148:tySz prog 148=some (2,true):=kr
theorem ty146:tySz prog 146=some (1,false):=kr
theorem ty145:tySz prog 145=some (1,false):=kr
theorem ty149:tySz prog 149=some (1,false):=kr
theorem ty61:tySz prog 61=some (7,true):=kr
theorem ty24:tySz prog 24=some (1,false):=kr
theorem ty4:tySz prog 4=some (1,false):=kr
theorem ty26:tySz prog 26=some (1,false):=kr
theorem ty34:tySz prog 34=some (1,false):=kr
theorem ty46:tySz prog 46=some (2,true):=kr
theorem ty90:tySz prog 90=some (1,false):=kr
theorem ty77:tySz prog 77=some (49,true):=kr
theorem zc148:zeroC prog 148=some [.slice none 0 0,.int .i64 0]:=kr
theorem zc61:zeroC prog 61=some [.int .i64 0,.int .i64 0,.int .i64 0,.int .i64 0,.int .i64 0,.bool false,.bool false]:=kr
theorem zc145:zeroC prog 145=some [.map none]:=kr
theorem zc120:zeroC prog 120=some [.map none]:=kr
theorem zc146:zeroC prog 146=some [.chan none]:=kr
theorem zc149:zeroC prog 149=some [.nilFunc]:=kr
theorem zc34:zeroC prog 34=some [.slice none 0 0]:=kr
theorem zc46:zeroC prog 46=some [.int .i64 0,.int .i64 0]:=kr
theorem zc90:zeroC prog 90=some [.nilFunc]:=kr
theorem zc31:zeroC prog 31=some [.slice none 0 0]:=kr
theorem zc77:zeroC prog 77=some (.slice none 0 0::.slice none 0 0::.slice none 0 0::.slice none 0 0::.slice none 0 0::.slice none 0 0::.slice none 0 0::.int .i64 0::.int .i64 0::.int .i64 0::.int .i64 0::.int .i64 0::.int .i64 0::.slice none 0 0::.slice none 0 0::.slice none 0 0::.int .u8 0::.int .u8 0::.int .u8 0::.int .u8 0::.int .u8 0::.int .u8 0::.int .u8 0::.int .u8 0::.int .u8 0::.int .u8 0::.int .u8 0::.int .u8 0::.int .u8 0::.int .u8 0::.int .u8 0::.int .u8 0::.int .u8 0::.int .u8 0::.int .u8 0::.int .u8 0::.int .u8 0::.int .u8 0::.int .u8 0::.int .u8 0::.int .u8 0::.int .u8 0::.int .u8 0::.int .u8 0::.int .u8 0::.int .u8 0::.int .u8 0::.int .u8 0::.int .i64 0::[]):=kr
theorem zv4:zeroV prog 4=some (.bool false):=kr
theorem zv24:zeroV prog 24=some (.slice none 0 0):=kr
theorem zv148:zeroV prog 148=some (.agg (List.toArray [.slice none 0 0,.int .i64 0])):=kr
theorem bytes61:bytesOf prog 61=some 48:=kr
theorem bytes46:bytesOf prog 46=some 16:=kr
theorem bytes148:bytesOf prog 148=some 32:=kr
theorem IY:fldOf prog 148 0=some 0:=kr
theorem JM:fldOf prog 61 0=some 0:=kr
theorem Gw:fldOf prog 61 3=some 3:=kr
theorem JL:fldOf prog 61 4=some 4:=kr
theorem IZ:fldOf prog 133 1=some 1:=kr
theorem ty270:tySz prog 270=some (2,true):=kr
theorem zc270:zeroC prog 270=some [.slice none 0 0,.int .i64 0]:=kr
theorem bytes270:bytesOf prog 270=some 32:=kr
theorem EJ:fldOf prog 270 1=some 1:=kr
theorem JN:fldOf prog 59 2=some 2:=kr
theorem ty59:tySz prog 59=some (7,true):=kr
theorem zc59:zeroC prog 59=some [.int .i64 0,.int .i64 0,.int .i64 0,.int .i64 0,.int .i64 0,.int .i64 0,.bool false]:=kr
theorem ty169:tySz prog 169=some (10,true):=kr
theorem zc169:zeroC prog 169=some [.int .i64 0,.int .i64 0,.int .i64 0,.int .i64 0,.int .i64 0,.int .i64 0,.int .i64 0,.int .i64 0,.int .i64 0,.bool false]:=kr
theorem ty173:tySz prog 173=some (8,true):=kr
theorem zc173:zeroC prog 173=some [.int .i64 0,.int .i64 0,.int .i64 0,.int .i64 0,.int .i64 0,.int .i64 0,.int .i64 0,.bool false]:=kr
theorem ty66:tySz prog 66=some (5,true):=kr
theorem zc258:zeroC prog 258=some [.int .i64 0,.int .i64 0,.int .i64 0,.string (⟨#[]⟩:ByteArray),.slice none 0 0,.int .i64 0]:=kr
theorem ty64:tySz prog 64=some (1,false):=kr
theorem zc66:zeroC prog 66=some [.int .i64 0,.int .i64 0,.int .i64 0,.string (⟨#[]⟩:ByteArray),.slice none 0 0]:=kr
theorem ty258:tySz prog 258=some (6,true):=kr
theorem ty63:tySz prog 63=some (1,false):=kr
theorem ty107:tySz prog 107=some (8,true):=kr
theorem zc107:zeroC prog 107=some [.string (⟨#[]⟩:ByteArray),.int .i64 0,.int .i64 0,.int .i64 0,.int .i64 0,.int .i64 0,.string (⟨#[]⟩:ByteArray),.slice none 0 0]:=kr
theorem I0:fldOf prog 107 3=some 3:=kr
theorem bytes66:bytesOf prog 66=some 64:=kr
theorem ty62:tySz prog 62=some (1,false):=kr
theorem ty68:tySz prog 68=some (10,true):=kr
theorem ty9:tySz prog 9=some (1,false):=kr
theorem EK:fldOf prog 107 2=some 2:=kr
theorem zc64:zeroC prog 64=some [.slice none 0 0]:=kr
theorem ty165:tySz prog 165=some (1,false):=kr
theorem zc68:zeroC prog 68=some [.string (⟨#[]⟩:ByteArray),.slice none 0 0,.slice none 0 0,.slice none 0 0,.int .i64 0,.int .i64 0,.int .i64 0,.string (⟨#[]⟩:ByteArray),.slice none 0 0,.int .i64 0]:=kr
theorem bytes107:bytesOf prog 107=some 96:=kr
theorem zc4:zeroC prog 4=some [.bool false]:=kr
theorem ty70:tySz prog 70=some (13,true):=kr
theorem zc70:zeroC prog 70=some [.int .i64 0,.int .i64 0,.int .i64 0,.string (⟨#[]⟩:ByteArray),.slice none 0 0,.slice none 0 0,.slice none 0 0,.int .i64 0,.int .i64 0,.int .i64 0,.string (⟨#[]⟩:ByteArray),.slice none 0 0,.int .i64 0]:=kr
theorem JK:fldOf prog 70 1=some 1:=kr
theorem Gv:fldOf prog 70 3=some 3:=kr
theorem zc178:zeroC prog 178=some [.slice none 0 0,.map none]:=kr
theorem ty178:tySz prog 178=some (2,true):=kr
theorem ty52:tySz prog 52=some (41,true):=kr
theorem zc52:zeroC prog 52=some (.int .i64 0::.int .i64 0::.int .i64 0::.int .i64 0::.int .i64 0::.int .i64 0::.slice none 0 0::.slice none 0 0::.slice none 0 0::.int .u8 0::.int .u8 0::.int .u8 0::.int .u8 0::.int .u8 0::.int .u8 0::.int .u8 0::.int .u8 0::.int .u8 0::.int .u8 0::.int .u8 0::.int .u8 0::.int .u8 0::.int .u8 0::.int .u8 0::.int .u8 0::.int .u8 0::.int .u8 0::.int .u8 0::.int .u8 0::.int .u8 0::.int .u8 0::.int .u8 0::.int .u8 0::.int .u8 0::.int .u8 0::.int .u8 0::.int .u8 0::.int .u8 0::.int .u8 0::.int .u8 0::.int .u8 0::[]):=kr
theorem ty176:tySz prog 176=some (1,false):=kr
theorem Gx:fldOf prog 52 8=some 8:=kr
theorem zv3:zeroV prog 3=some (.int .i64 0):=kr
theorem ty181:tySz prog 181=some (8,true):=kr
theorem zc181:zeroC prog 181=some [.int .i64 0,.int .i64 0,.int .i64 0,.int .i64 0,.int .i64 0,.int .i64 0,.int .i64 0,.bool false]:=kr
theorem ty22:tySz prog 22=some (1,false):=kr
theorem ty23:tySz prog 23=some (1,false):=kr
theorem ty25:tySz prog 25=some (1,false):=kr
theorem ty27:tySz prog 27=some (1,false):=kr
theorem ty28:tySz prog 28=some (1,false):=kr
theorem ty30:tySz prog 30=some (7,true):=kr
theorem ty101:tySz prog 101=some (1,false):=kr
theorem ty133:tySz prog 133=some (2,true):=kr
theorem zc133:zeroC prog 133=some [.int .i64 0,.int .i64 0]:=kr
theorem ty100:tySz prog 100=some (1,false):=kr
theorem ty164:tySz prog 164=some (3,true):=kr
theorem zc261:zeroC prog 261=some [.nilFunc]:=kr
theorem ty261:tySz prog 261=some (1,false):=kr
theorem zc227:zeroC prog 227=some [.nilFunc,.nilFunc,.nilFunc,.nilFunc,.nilFunc]:=kr
theorem ty226:tySz prog 226=some (1,false):=kr
theorem ty227:tySz prog 227=some (5,true):=kr
theorem zc164:zeroC prog 164=some [.int .i64 0,.slice none 0 0,.slice none 0 0]:=kr
theorem zv141:zeroV prog 141=some (.nilFunc):=kr
theorem ty205:tySz prog 205=some (1,false):=kr
theorem zc207:zeroC prog 207=some [.int .i64 0,.int .i64 0,.bool false]:=kr
theorem zv61:zeroV prog 61=some (.agg (List.toArray [.int .i64 0,.int .i64 0,.int .i64 0,.int .i64 0,.int .i64 0,.bool false,.bool false])):=kr
theorem eqg61:prog.eqGuardType prog.depth 61=false:=kr
theorem zc205:zeroC prog 205=some [.map none]:=kr
theorem ty207:tySz prog 207=some (3,true):=kr
theorem zv70:zeroV prog 70=some (.agg (List.toArray [.int .i64 0,.int .i64 0,.int .i64 0,.string (⟨#[]⟩:ByteArray),.slice none 0 0,.slice none 0 0,.slice none 0 0,.int .i64 0,.int .i64 0,.int .i64 0,.string (⟨#[]⟩:ByteArray),.slice none 0 0,.int .i64 0])):=kr
theorem zc26:zeroC prog 26=some [.slice none 0 0]:=kr
theorem bytes70:bytesOf prog 70=some 184:=kr
theorem bytes68:bytesOf prog 68=some 160:=kr
theorem bytes133:bytesOf prog 133=some 16:=kr
theorem zv59:zeroV prog 59=some (.agg (List.toArray [.int .i64 0,.int .i64 0,.int .i64 0,.int .i64 0,.int .i64 0,.int .i64 0,.bool false])):=kr
theorem zc101:zeroC prog 101=some [.slice none 0 0]:=kr
theorem bytes101:bytesOf prog 101=some 24:=kr
theorem bytes4:bytesOf prog 4=some 1:=kr
theorem zc30:zeroC prog 30=some [.slice none 0 0,.slice none 0 0,.slice none 0 0,.slice none 0 0,.slice none 0 0,.slice none 0 0,.slice none 0 0]:=kr
theorem zc9:zeroC prog 9=some [.string (⟨#[]⟩:ByteArray)]:=kr
theorem eqg46:prog.eqGuardType prog.depth 46=false:=kr
theorem C5:fldT prog 70 3=some (68,3):=kr
theorem bytes31:bytesOf prog 31=some 24:=kr
def qf (x:fx) (h:HF) (vs:List Go.Value):Prop:=∃ (r0:w6),vs=[.agg (fx.cells x r0).toArray]∧fx.ok h x r0
theorem lZ (x:fx) (h:HF) (vs:List Go.Value) (e:qf x h vs):vs.length=1:=by
 obtain ⟨_,e,_⟩:=e;rw [e];rfl
def zS (x:Span) (h:HF) (vs:List Go.Value):Prop:=vs=[.agg (Span.cells x).toArray]
theorem C0 (x:Span) (h:HF) (vs:List Go.Value) (e:zS x h vs):vs.length=1:=by
 rw [e];rfl
def mt (x:Holder) (h:HF) (vs:List Go.Value):Prop:=vs=[.agg (Holder.cells x).toArray]
theorem oG (x:Holder) (h:HF) (vs:List Go.Value) (e:mt x h vs):vs.length=1:=by
 rw [e];rfl
def qW (x:Interest) (h:HF) (vs:List Go.Value):Prop:=vs=[.agg (Interest.cells x).toArray]
theorem wM (x:Interest) (h:HF) (vs:List Go.Value) (e:qW x h vs):vs.length=1:=by
 rw [e];rfl
def nL (x:(Int×Version)) (h:HF) (vs:List Go.Value):Prop:=∃ (r0:lB),vs=[.int .i64 x.1,.agg (Version.cells x.2 r0).toArray]∧Version.ok h x.2 r0
theorem tV (x:(Int×Version)) (h:HF) (vs:List Go.Value) (e:nL x h vs):vs.length=2:=by
 obtain ⟨_,e,_⟩:=e;rw [e];rfl
theorem I3 (a b:Span) (w:World):(Op.equal 46 (Span.enc a) (Span.enc b)).run prog w=.ok (decide (a=b)) w:=
 yx Bt (by kernel_rfl) (by kernel_rfl) (by rw [Bool.eq_iff_iff];cases a;cases b;simp [eqv,nth,Span.cells]) w
theorem C6 (a b:Interest) (w:World):(Op.equal 61 (Interest.enc a) (Interest.enc b)).run prog w=.ok (decide (a=b)) w:=
 yx HO (by kernel_rfl) (by kernel_rfl) (by rw [Bool.eq_iff_iff];cases a;cases b;simp [eqv,nth,Interest.cells]) w
theorem C7 (a b:cp) (w:World):(Op.equal 207 (cp.enc a) (cp.enc b)).run prog w=.ok (decide (a=b)) w:=
 yx FN (by kernel_rfl) (by kernel_rfl) (by rw [Bool.eq_iff_iff];cases a;cases b;simp [eqv,nth,cp.cells]) w
theorem pP:tW prog 207 cp.enc:=Ea FN (fun e a w=>za e FN (by kernel_rfl) w) C7 (fun a=>by
 show Instr.sameBits (9999+1) _ _=true
 simp [Instr.sameBits,cp.enc,cp.cells])
theorem Hg (a b:OSeat) (w:World):(Op.equal 212 (OSeat.enc a) (OSeat.enc b)).run prog w=.ok (decide (a=b)) w:=
 yx FM (by kernel_rfl) (by kernel_rfl) (by rw [Bool.eq_iff_iff];cases a;cases b;simp [eqv,nth,OSeat.cells]) w
theorem uK:tW prog 212 OSeat.enc:=Ea FM (fun e a w=>za e FM (by kernel_rfl) w) Hg (fun a=>by
 show Instr.sameBits (9999+1) _ _=true
 simp [Instr.sameBits,OSeat.enc,OSeat.cells])
def tabF:List (Nat×Nat×Nat):=(277,0,0)::(148,0,0)::(148,1,1)::(61,0,0)::(61,3,3)::(61,4,4)::(61,5,5)::(46,0,0)::(46,1,1)::(133,1,1)::(270,0,0)::(270,1,1)::(59,6,6)::(59,0,0)::(59,1,1)::(59,2,2)::(59,3,3)::(59,4,4)::(59,5,5)::(169,0,0)::(169,1,1)::(169,2,2)::(169,4,4)::(169,5,5)::(169,6,6)::(169,7,7)::(169,9,9)::(169,3,3)::(169,8,8)::(61,1,1)::(61,2,2)::(173,7,7)::(173,0,0)::(173,1,1)::(173,2,2)::(173,3,3)::(173,4,4)::(173,5,5)::(173,6,6)::(66,4,4)::(68,3,3)::(107,3,3)::(68,4,4)::(68,2,2)::(68,1,1)::(258,1,5)::(66,0,0)::(68,0,0)::(258,0,0)::(66,3,3)::(66,1,1)::(68,5,9)::(107,0,0)::(107,2,2)::(66,2,2)::(107,1,1)::(70,0,0)::(70,1,1)::(70,2,2)::(70,3,3)::(178,1,1)::(52,0,0)::(52,1,1)::(52,2,2)::(52,3,3)::(52,4,4)::(52,5,5)::(52,6,6)::(52,7,7)::(52,8,8)::(181,0,0)::(181,1,1)::(181,2,2)::(181,3,3)::(181,4,4)::(181,5,5)::(181,6,6)::(30,0,0)::(30,1,1)::(30,2,2)::(30,3,3)::(30,4,4)::(30,5,5)::(30,6,6)::(77,1,7)::(77,0,0)::(133,0,0)::(164,1,1)::(164,2,2)::(164,0,0)::(61,6,6)::(77,2,48)::(212,1,1)::(212,0,0)::[]
def tabY:List Nat:=120::203::159::31::215::3::35::146::145::149::24::4::26::34::90::285::64::63::62::9::165::176::22::23::25::27::28::101::100::261::226::205::[]
def tabS:List Nat:=22::23::24::25::26::27::28::31::34::62::63::64::93::98::100::101::117::127::215::267::[]
theorem tabs:tabOk prog tabF tabY tabS=true:=kr
theorem qK (m:Nat) (is:List Nat) {b:Frame} {n:Nat} {k:List Item} {F:List Frame→(Machine→Prop)→Prop} {e:Env} {ds:List Deferred} {X:Cx} {h:HF} {L:LH} {s:Qs} {q:List (Nat×Nat)} (hr:runL tabF tabY tabS n L m is (.tt k e)=some (s,q)) (t:s.holds prog b n F ds X h L) (hq:JT q:=by repeat (first | exact trivial | refine ⟨rfl,?_⟩)):TT prog b n k F e ds X h L:=nV tabs m is _ hr hq t
theorem qL (m:Nat) (is:List Nat) {ops:Array Oper} {l:List Oper} {b:Frame} {n:Nat} {k:List Item} {F:List Frame→(Machine→Prop)→Prop} {e:Env} {ds:List Deferred} {X:Cx} {h:HF} {L:LH} {s:Qs} {q:List (Nat×Nat)} (hr:runL tabF tabY tabS n L m is (.to ops l k e)=some (s,q)) (t:s.holds prog b n F ds X h L) (hq:JT q:=by repeat (first | exact trivial | refine ⟨rfl,?_⟩)):TO prog b n ops l k F e ds X h L:=nV tabs m is _ hr hq t
theorem tabsF:(tabF.all fun x=>fldOf prog x.1 x.2.1==some x.2.2)=true:=kr
theorem qB (is:List Nat) {l:List Oper} {h1:HF} {K:LH} {m:Nat} {dn:List Nat} {m':Nat} {dn':List Nat} {e':Env} {b:Frame} {n:Nat} {k:List Item} {F:List Frame→(Machine→Prop)→Prop} {e:Env} {ds:List Deferred} {X:Cx} {h:HF} {L:LH} (hr:runB tabF l is m dn e=some (m',dn',e')) (t:TA prog b n l.toArray k F ds X (Jst h1 K) m' dn' e' h L) (hsep:sepAll l.toArray=true:=by assumption) (hJ:Jst h1 K h L:=by exact jn) (hn:allNext l is dn=true:=by kernel_rfl):TA prog b n l.toArray k F ds X (Jst h1 K) m dn e h L:=yz tabsF hsep hJ is m dn e hr hn t
theorem qD (a c:Nat) {l:List Oper} {h1:HF} {K:LH} {m:Nat} {dn:List Nat} {m':Nat} {dn':List Nat} {e':Env} {b:Frame} {n:Nat} {k:List Item} {F:List Frame→(Machine→Prop)→Prop} {e:Env} {ds:List Deferred} {X:Cx} {h:HF} {L:LH} (hr:runB tabF l (List.range' a c) m dn e=some (m',dn',e')) (t:TA prog b n l.toArray k F ds X (Jst h1 K) m' dn' e' h L) (hsep:sepAll l.toArray=true:=by assumption) (hJ:Jst h1 K h L:=by exact jn) (hn:allNext l (List.range' a c) dn=true:=by kernel_rfl):TA prog b n l.toArray k F ds X (Jst h1 K) m dn e h L:=yz tabsF hsep hJ _ m dn e hr hn t
theorem mixed:prog.follows .mixedOrders=true:=kr
end Go.Sg
namespace Go.Sg
open Go.Proofs Go.Proofs.Tryz
set_option maxHeartbeats 2000000
theorem iD (h:HF) (dG:Int) (low:Int) (high:Int)  : Ret prog 148 [I dG,I low,I high] h (.bool (dv dG low high)):=by
 refine sT func148 U ntmps148 U fun X hM hX hF=>?_
 have hs0:dv dG low high=dv dG low high:=rfl
 refine qT 10 U (bx 4 [10,11,12,13,14] 10 14 (decide (dG≤high)) U (fun c1 hk1=>?_) (fun e=>?_))
 ·exact aj (qO 3 U (hk1 _ U))
 exact an (nretP [.bool (decide (low≤dG)&&decide (dG≤high))] (cs hs0))
theorem lT (h:HF) (dG:Int)  : Ret prog 89 [I dG] h (.bool (eN dG)):=by
 refine sT func89 U ntmps89 U fun X hM hX hF=>?_
 have hs0:eN dG=eN dG:=rfl
 exact sr (qO 5 U (ah Bs (iD h dG 0 31) U (an (nretP [.bool (dv dG 0 31)] (cs hs0)))))
theorem jm (h:HF) (dG:Int)  : Ret prog 90 [I dG] h (.bool (db dG)):=by
 refine sT func90 U ntmps90 U fun X hM hX hF=>?_
 have hs0:db dG=db dG:=rfl
 exact sr (qO 5 U (ah Bs (iD h dG 0 1099511627775) U (an (nretP [.bool (dv dG 0 1099511627775)] (cs hs0)))))
theorem nQ (h:HF) (dG:Int)  : Ret prog 168 [I dG] h (.bool (fD dG)):=by
 refine sT func168 U ntmps168 U fun X hM hX hF=>?_
 have hs0:fD dG=fD dG:=rfl
 exact sr (qO 5 U (ah Bs (iD h dG 0 63) U (an (nretP [.bool (dv dG 0 63)] (cs hs0)))))
theorem wI (h:HF) (x:Appoint)  : Ret prog 99 [.agg (Appoint.cells x).toArray] h (.bool (i8 x)):=by
 refine sT func99 U ntmps99 U fun X hM hX hF=>?_
 have hs0:i8 x=i8 x:=rfl
 refine sr (cA (fun b1=>qL 13 [0] U (ac hs0 U (fun c1 hs1=>?_) (fun c1 hs2=>?_))))
 ·refine qK 8 [0] U (ah Bs (iD h x.No 0 1048576) U (aj (bx 4 [10,11,12,13,14] 10 14 (db x.At) U (fun c2 hk1=>?_) (fun e=>?_))))
  ·exact qL 2 [0] U (ah Dq (jm h x.At) U (dZ U (hk1 _ U)))
  refine aj (bx 4 [15,16,17,18,19] 15 19 (db x.Known) U (fun c3 hk2=>?_) (fun e=>?_))
  ·exact qL 2 [0] U (ah Dq (jm h x.Known) U (dZ U (hk2 _ U)))
  refine aj (bx 4 [20,21,22,23,24] 20 24 (eN x.Office) U (fun c4 hk3=>?_) (fun e=>?_))
  ·exact qL 2 [0] U (ah call89 (lT h x.Office) U (dZ U (hk3 _ U)))
  refine aj (bx 4 [25,26,27,28,29] 25 29 (fD x.Person) U (fun c5 hk4=>?_) (fun e=>?_))
  ·exact qL 2 [0] U (ah call168 (nQ h x.Person) U (dZ U (hk4 _ U)))
  refine aj (bx 6 [30,31,32,33,34,35,36] 30 36 (dv x.Weight 0 0) U (fun c6 hk5=>?_) (fun e=>?_))
  ·exact qL 4 [0] U (ah Bs (iD h x.Weight 0 0) U (dZ U (hk5 _ U)))
  exact an (nretP [.bool ((((((dv x.No 0 1048576)&&(db x.At))&&(db x.Known))&&(eN x.Office))&&(fD x.Person))&&(dv x.Weight 0 0))] (cs hs1))
 refine qK 5 [0] U (ah Bs (iD h x.No 0 1048576) U (aj (bx 4 [10,11,12,13,14] 10 14 (db x.At) U (fun c7 hk6=>?_) (fun e=>?_))))
 ·exact qL 2 [0] U (ah Dq (jm h x.At) U (dZ U (hk6 _ U)))
 refine aj (bx 4 [15,16,17,18,19] 15 19 (db x.Known) U (fun c8 hk7=>?_) (fun e=>?_))
 ·exact qL 2 [0] U (ah Dq (jm h x.Known) U (dZ U (hk7 _ U)))
 refine aj (bx 4 [20,21,22,23,24] 20 24 (eN x.Office) U (fun c9 hk8=>?_) (fun e=>?_))
 ·exact qL 2 [0] U (ah call89 (lT h x.Office) U (dZ U (hk8 _ U)))
 refine aj (bx 4 [25,26,27,28,29] 25 29 (fD x.Person) U (fun c10 hk9=>?_) (fun e=>?_))
 ·exact qL 2 [0] U (ah call168 (nQ h x.Person) U (dZ U (hk9 _ U)))
 refine aj (bx 6 [30,31,32,33,34,35,36] 30 36 (dv x.Weight 1 64) U (fun c11 hk10=>?_) (fun e=>?_))
 ·exact qL 4 [0] U (ah Bs (iD h x.Weight 1 64) U (dZ U (hk10 _ U)))
 exact an (nretP [.bool ((((((dv x.No 0 1048576)&&(db x.At))&&(db x.Known))&&(eN x.Office))&&(fD x.Person))&&(dv x.Weight 1 64))] (cs hs2))
theorem qc (h:HF) (l:List Appoint) (ey:Option Addr) (ew:Nat) (hl:SlC Appoint.rp h ey ew l):Ret prog 51 [.slice ey l.length ew] h (I (cn l)):=by
 refine sT func51 U ntmps51 U fun X hM hX hF=>?_
 have hs0:cn l=cn l:=rfl
 refine qK 11 [] U (ac hs0 U (fun c1 hs1=>?_) (fun c1 hs2=>?_))
 ·have c1p:=of_decide_eq_true c1
  exact sr (an (nretP [I 2] (ci hs1)))
 have c1p:=of_decide_eq_false c1
 refine qK 12 [] U ?_
 refine lp1 l (fun i w=>[(3,I w),(9,.slice ey l.length ew),(10,I (l.length:Int)),(11,I (i:Int))]) ([]) (fun s1 i w=>(cn.L1 (cn.K1)) s1 w) (-1) hl.1.1 hs2 ?_ ?_
 ·rintro i1 gF et hs4 e
  exact sr (an (nretP [I 0] (ci hs4)))
 rintro i1 gF y1 rz1 hd1 cw ao dy fB hs6 hx1 ag1 e
 refine sr (ad (v':=.bool true) U (cb cw) (qO 8 U (aA (ek (enc:=Appoint.cells) ei uv ty59 hl.1 (nthZ ao) (au ao) U U U (fun q2 A2=>de ty59 A2 U U (bH zc59 (fun b2=>bE 0 ty59 U U U U U U (qO 4 U (cJ 0 ty59 U U U (ah call99 (wI h y1) U (qO 2 U (ce 5 [18,19,20,21,22,23] 18 23 (decide (y1.No≤gF)) U (fun c2 hk1=>?_) (fun e=>?_)))))))))))))
 ·exact qL 5 [0] U (hk1 _ U)
 refine aM (ac hs6 U (fun c3 hs7=>?_) (fun c3 hs8=>?_))
 ·exact sr (an (nretP [I 150] (ci hs7)))
 exact qK 8 [0] U (ad (v':=I (((i1+1):Nat):Int)) U (aL ob) (qO 2 U (bU (L':=[]) js (ag1 y1.No hs8))))
theorem iZ (h:HF) (dG:Int) (low:Int) (high:Int)  : Ret prog 169 [I dG,I low,I high] h (.bool (eQ dG low high)):=by
 refine sT func169 U ntmps169 U fun X hM hX hF=>?_
 have hs0:eQ dG low high=eQ dG low high:=rfl
 refine qT 10 U (bx 4 [10,11,12,13,14] 10 14 (decide (dG≤high)) U (fun c1 hk1=>?_) (fun e=>?_))
 ·exact aj (qO 3 U (hk1 _ U))
 exact an (nretP [.bool (decide (low≤dG)&&decide (dG≤high))] (cs hs0))
theorem oW (h:HF) (dG:Int)  : Ret prog 170 [I dG] h (.bool (iN dG)):=by
 refine sT func170 U ntmps170 U fun X hM hX hF=>?_
 have hs0:iN dG=iN dG:=rfl
 exact sr (qO 5 U (ah Dp (iZ h dG 0 1099511627775) U (an (nretP [.bool (eQ dG 0 1099511627775)] (cs hs0)))))
theorem nG (h:HF) (dG:Int)  : Ret prog 171 [I dG] h (.bool (gV dG)):=by
 refine sT func171 U ntmps171 U fun X hM hX hF=>?_
 have hs0:gV dG=gV dG:=rfl
 exact sr (qO 5 U (ah Dp (iZ h dG 0 63) U (an (nretP [.bool (eQ dG 0 63)] (cs hs0)))))
theorem vY (h:HF) (x:Deputy)  : Ret prog 100 [.agg (Deputy.cells x).toArray] h (.bool (kw x)):=by
 refine sT func100 U ntmps100 U fun X hM hX hF=>?_
 have hs0:kw x=kw x:=rfl
 refine sr (cA (fun b1=>qL 7 [0] U (ah Dp (iZ h x.No 0 1048576) U (qO 2 U (ce 5 [7,8,9,10,11,12] 7 12 (!(iN x.At)) U (fun c1 hk1=>?_) (fun e=>?_))))))
 ·exact qL 2 [0] U (ah call170 (oW h x.At) U (qO 2 U (hk1 _ U)))
 refine aj (ce 5 [13,14,15,16,17,18] 13 18 (!(iN x.Known)) U (fun c2 hk2=>?_) (fun e=>?_))
 ·exact qL 2 [0] U (ah call170 (oW h x.Known) U (qO 2 U (hk2 _ U)))
 refine aj (ce 5 [19,20,21,22,23,24] 19 24 (!(gV x.From)) U (fun c3 hk3=>?_) (fun e=>?_))
 ·exact qL 2 [0] U (ah call171 (nG h x.From) U (qO 2 U (hk3 _ U)))
 refine aj (ce 5 [25,26,27,28,29,30] 25 30 (!(gV x.To)) U (fun c4 hk4=>?_) (fun e=>?_))
 ·exact qL 2 [0] U (ah call171 (nG h x.To) U (qO 2 U (hk4 _ U)))
 refine aj (ce 6 [31,32,33,34,35,36,37] 31 37 (x.From==x.To) U (fun c5 hk5=>?_) (fun e=>?_))
 ·exact qL 6 [0,0] U (hk5 _ U)
 refine aj (ce 5 [38,39,40,41,42,43] 38 43 (!(eQ x.Office 0 31)) U (fun c6 hk6=>?_) (fun e=>?_))
 ·exact qL 2 [0] U (ah Dp (iZ h x.Office 0 31) U (qO 2 U (hk6 _ U)))
 refine aj (ce 5 [44,45,46,47,48,49] 44 49 (!(eQ x.Kind (-1) 15)) U (fun c7 hk7=>?_) (fun e=>?_))
 ·exact qL 2 [0] U (ah Dp (iZ h x.Kind (-1) 15) U (qO 2 U (hk7 _ U)))
 refine aM (ac hs0 U (fun c8 hs1=>?_) (fun c8 hs2=>?_))
 ·exact sr (an (nretP [.bool false] (cs hs1)))
 refine qK 7 [0] U (ac hs2 U (fun c9 hs4=>?_) (fun c9 hs5=>?_))
 ·refine qK 6 [0] U (bx 4 [55,56,57,58,59] 55 59 (x.Most==0) U (fun c10 hk8=>?_) (fun e=>?_))
  ·exact qL 4 [0] U (hk8 _ U)
  exact an (nretP [.bool ((x.Until==0)&&(x.Most==0))] (cs hs4))
 refine qK 9 [0,0] U (bx 4 [65,66,67,68,69] 65 69 (decide (x.Until≤1099511627776)) U (fun c11 hk9=>?_) (fun e=>?_))
 ·exact qL 4 [0] U (hk9 _ U)
 refine aj (bx 4 [70,71,72,73,74] 70 74 (eQ x.Most 0 1099511627776) U (fun c12 hk10=>?_) (fun e=>?_))
 ·exact qL 2 [0] U (ah Dp (iZ h x.Most 0 1099511627776) U (dZ U (hk10 _ U)))
 exact an (nretP [.bool ((decide (x.At < x.Until)&&decide (x.Until≤1099511627776))&&(eQ x.Most 0 1099511627776))] (cs hs5))
theorem wa (h:HF) (l:List Deputy) (ey:Option Addr) (ew:Nat) (hl:SlC Deputy.rp h ey ew l):Ret prog 52 [.slice ey l.length ew] h (I (di l)):=by
 refine sT func52 U ntmps52 U fun X hM hX hF=>?_
 have hs0:di l=di l:=rfl
 refine qK 11 [] U (ac hs0 U (fun c1 hs1=>?_) (fun c1 hs2=>?_))
 ·have c1p:=of_decide_eq_true c1
  exact sr (an (nretP [I 2] (ci hs1)))
 have c1p:=of_decide_eq_false c1
 refine qK 12 [] U ?_
 refine lp1 l (fun i w=>[(3,I w),(9,.slice ey l.length ew),(10,I (l.length:Int)),(11,I (i:Int))]) ([]) (fun s1 i w=>(di.L1 (di.K1)) s1 w) (-1) hl.1.1 hs2 ?_ ?_
 ·rintro i1 gF et hs4 e
  exact sr (an (nretP [I 0] (ci hs4)))
 rintro i1 gF y1 rz1 hd1 cw ao dy fB hs6 hx1 ag1 e
 refine sr (ad (v':=.bool true) U (cb cw) (qO 8 U (aA (ek (enc:=Deputy.cells) ei FQ ty169 hl.1 (nthZ ao) (au ao) U U U (fun q2 A2=>de ty169 A2 U U (bH zc169 (fun b2=>bE 0 ty169 U U U U U U (qO 4 U (cJ 0 ty169 U U U (ah call100 (vY h y1) U (qO 2 U (ce 5 [18,19,20,21,22,23] 18 23 (decide (y1.No≤gF)) U (fun c2 hk1=>?_) (fun e=>?_)))))))))))))
 ·exact qL 5 [0] U (hk1 _ U)
 refine aM (ac hs6 U (fun c3 hs7=>?_) (fun c3 hs8=>?_))
 ·exact sr (an (nretP [I 160] (ci hs7)))
 exact qK 8 [0] U (ad (v':=I (((i1+1):Nat):Int)) U (aL ob) (qO 2 U (bU (L':=[]) js (ag1 y1.No hs8))))
theorem fU (h:HF) (dG:Int) (limit:Int)  : Ret prog 145 [I dG,I limit] h (.bool (aS dG limit)):=by
 refine sT func145 U ntmps145 U fun X hM hX hF=>?_
 have hs0:aS dG limit=aS dG limit:=rfl
 refine qT 9 U (bx 4 [7,8,9,10,11] 7 11 (decide (dG < limit)) U (fun c1 hk1=>?_) (fun e=>?_))
 ·exact aj (qO 3 U (hk1 _ U))
 exact an (nretP [.bool (decide (0≤dG)&&decide (dG < limit))] (cs hs0))
theorem uQ (h:HF) (x:Interest)  : Ret prog 101 [.agg (Interest.cells x).toArray] h (.bool (ju x)):=by
 refine sT func101 U ntmps101 U fun X hM hX hF=>?_
 have hs0:ju x=ju x:=rfl
 refine sr (cA (fun b1=>qL 6 [0] U (ah xh (fU h x.No 1048577) U (aj (bx 4 [7,8,9,10,11] 7 11 (aS x.At 1099511627776) U (fun c1 hk1=>?_) (fun e=>?_))))))
 ·exact qL 2 [0] U (ah xh (fU h x.At 1099511627776) U (dZ U (hk1 _ U)))
 refine aj (bx 4 [12,13,14,15,16] 12 16 (aS x.Known 1099511627776) U (fun c2 hk2=>?_) (fun e=>?_))
 ·exact qL 2 [0] U (ah xh (fU h x.Known 1099511627776) U (dZ U (hk2 _ U)))
 refine aj (bx 4 [17,18,19,20,21] 17 21 (aS x.Party 1048577) U (fun c3 hk3=>?_) (fun e=>?_))
 ·exact qL 2 [0] U (ah xh (fU h x.Party 1048577) U (dZ U (hk3 _ U)))
 refine qL 8 [0] U (ac hs0 U (fun c4 hs1=>?_) (fun c4 hs2=>?_))
 ·refine qT 4 U (bx 4 [25,26,27,28,29] 25 29 (aS x.Person 1048577) U (fun c5 hk4=>?_) (fun e=>?_))
  ·exact qL 2 [0] U (ah xh (fU h x.Person 1048577) U (dZ U (hk4 _ U)))
  refine aj (bx 6 [30,31,32,33,34,35,36] 30 36 (x.Person != x.Party) U (fun c6 hk5=>?_) (fun e=>?_))
  ·exact qL 6 [0,0] U (hk5 _ U)
  exact an (nretP [.bool ((((((aS x.No 1048577)&&(aS x.At 1099511627776))&&(aS x.Known 1099511627776))&&(aS x.Party 1048577))&&(aS x.Person 1048577))&&(x.Person != x.Party))] (cs hs1))
 refine qT 5 U (bx 4 [38,39,40,41,42] 38 42 (aS x.Person 64) U (fun c7 hk6=>?_) (fun e=>?_))
 ·exact qL 2 [0] U (ah xh (fU h x.Person 64) U (dZ U (hk6 _ U)))
 exact an (nretP [.bool (((((aS x.No 1048577)&&(aS x.At 1099511627776))&&(aS x.Known 1099511627776))&&(aS x.Party 1048577))&&(aS x.Person 64))] (cs hs2))
theorem oH (h:HF) (l:List Interest) (ey:Option Addr) (ew:Nat) (hl:SlC Interest.rp h ey ew l):Ret prog 53 [.slice ey l.length ew] h (I (bJ l)):=by
 refine sT func53 U ntmps53 U fun X hM hX hF=>?_
 have hs0:bJ l=bJ l:=rfl
 refine qK 11 [] U (ac hs0 U (fun c1 hs1=>?_) (fun c1 hs2=>?_))
 ·have c1p:=of_decide_eq_true c1
  exact sr (an (nretP [I 2] (ci hs1)))
 have c1p:=of_decide_eq_false c1
 refine qK 12 [] U ?_
 refine lp1 l (fun i w=>[(3,I w),(9,.slice ey l.length ew),(10,I (l.length:Int)),(11,I (i:Int))]) ([]) (fun s1 i w=>(bJ.L1 (bJ.K1)) s1 w) (-1) hl.1.1 hs2 ?_ ?_
 ·rintro i1 gF et hs4 e
  exact sr (an (nretP [I 0] (ci hs4)))
 rintro i1 gF y1 rz1 hd1 cw ao dy fB hs6 hx1 ag1 e
 refine sr (ad (v':=.bool true) U (cb cw) (qO 8 U (aA (ek (enc:=Interest.cells) ei ml ty61 hl.1 (nthZ ao) (au ao) U U U (fun q2 A2=>de ty61 A2 U U (bH zc61 (fun b2=>bE 0 ty61 U U U U U U (qO 4 U (cJ 0 ty61 U U U (ah call101 (uQ h y1) U (qO 2 U (ce 5 [18,19,20,21,22,23] 18 23 (decide (y1.No≤gF)) U (fun c2 hk1=>?_) (fun e=>?_)))))))))))))
 ·exact qL 5 [0] U (hk1 _ U)
 refine aM (ac hs6 U (fun c3 hs7=>?_) (fun c3 hs8=>?_))
 ·exact sr (an (nretP [I 290] (ci hs7)))
 exact qK 8 [0] U (ad (v':=I (((i1+1):Nat):Int)) U (aL ob) (qO 2 U (bU (L':=[]) js (ag1 y1.No hs8))))
theorem mw (h:HF) (s:List Int) (uc:Option Addr) (tb:Nat) (f:(Int→Bool)) (f_v:Value) (hs:SlC Rp.int h uc tb s) (hf:∀ (h':HF) (ed:Int),HF.le h h'→w5 prog f_v [I ed] h' [] (.bool (f ed))):Ret prog 110 [.slice uc s.length tb,f_v] h (I (bV s f)):=by
 refine sT func110 U ntmps110 U fun X hM hX hF=>?_
 have hs0:bV s f=bV s f:=rfl
 refine qK 11 [] U ?_
 refine lp0 s (fun i=>[(0,.slice uc s.length tb),(1,f_v),(7,I (s.length:Int)),(8,I (i:Int))]) ([]) (fun s1 i=>(bV.L1 f (bV.K1)) s1 i) hs.1.1 hs0 ?_ ?_
 ·rintro i1 et hs1 e
  exact sr (an (nretP [I (-1)] (ci hs1)))
 rintro i1 y1 rz1 hd1 cw ao dy fB hs3 hx1 ag1 e
 refine sr (ad (v':=.bool true) U (cb cw) (qO 16 U (aA (ek (enc:=fun y=>[I y]) ei cQ ty3 hs.1 (nthZ ao) (au ao) U U U (fun q2 A2=>cK ty3 A2 U (aA (nU (v:=.bool (f y1)) [] (List.nil_sublist _) (hf h y1 lf) U U (aM (ac hs3 U (fun c2 hs4=>?_) (fun c2 hs5=>?_))))))))))
 ·exact sr (qO 3 U (nretP [I (i1:Int)] (ci hs4)))
 exact aE (qT 2 U (ad (v':=I (((i1+1):Nat):Int)) U (aL ob) (qO 2 U (ag1 hs5))))
theorem ir (h:HF) (s:List Int) (uc:Option Addr) (tb:Nat) (f:(Int→Bool)) (f_v:Value) (hs:SlC Rp.int h uc tb s) (hf:∀ (h':HF) (ed:Int),HF.le h h'→w5 prog f_v [I ed] h' [] (.bool (f ed))):Ret prog 176 [.slice uc s.length tb,f_v] h (.bool (cV s f)):=by
 refine sT func176 U ntmps176 U fun X hM hX hF=>?_
 have hs0:cV s f=cV s f:=rfl
 exact sr (qO 6 U (ah call110 (mw _ _ _ _ f f_v hs hf) U (qO 3 U (nretP [.bool (decide (0≤(bV s f)))] (cs hs0)))))
theorem sX (h:HF) (dG:Int) (v0:Int) (v0_q:Addr) (v1:Int) (v1_q:Addr) (av0:At h v0_q [I v0]) (av1:At h v1_q [I v1]):Ret prog 225 [I dG,.pointer (some v0_q),.pointer (some v1_q)] h (.bool (iF dG v0 v1)):=by
 refine sT func225 U ntmps225 U fun X hM hX hF=>?_
 have hs0:iF dG v0 v1=iF dG v0 v1:=rfl
 refine qT 7 U (cK ty3 av0 U (qO 2 U (ce 4 [8,9,10,11,12] 8 12 (decide (v1 < dG)) U (fun c1 hk1=>?_) (fun e=>?_))))
 ·exact aj (cK ty3 av1 U (qO 2 U (hk1 _ U)))
 exact an (nretP [.bool (decide (dG < v0)||decide (v1 < dG))] (cs hs0))
theorem e7 (h:HF) (least:Int) (most:Int) (l:List Int) (ey:Option Addr) (ew:Nat) (hl:SlC Rp.int h ey ew l):Ret prog 172 [I least,I most,.slice ey l.length ew] h (.bool (bK least most l)):=by
 refine sT func172 U ntmps172 U fun X hM hX hF=>?_
 have hs0:bK least most l=bK least most l:=rfl
 exact sr (cA (fun b1=>cA (fun b2=>qO 5 U (bN 1 U hM (fun h1 hle1 hb1=>bN 0 U hM (fun h2 hle2 hb2=>aA (fX U U (ah HN (ir _ _ _ _ (fun ed=>iF ed least most) (.func (.func 225) #[] #[Q b1,Q b2]) (hl.mono Rp.aK (hle1.t hle2)) (fun h' ed hle =>i0 call225 (sX h' ed least ⟨b1,0,none⟩ most ⟨b2,0,none⟩  (((dp hb1).mono hle2).mono hle) ((dp hb2).mono hle)))) U (qO 3 U (nretP [.bool (!(cV l (fun ed=>iF ed least most)))] (cs hs0)))))))))))
theorem wY (h:HF) (x:Budget)  : Ret prog 102 [.agg (Budget.cells x).toArray] h (.bool (kU x)):=by
 refine sT func102 U ntmps102 U fun X hM hX hF=>?_
 have hs0:kU x=kU x:=rfl
 refine sr (cA (fun b1=>qL 13 [0] U (ac hs0 U (fun c1 hs1=>?_) (fun c1 hs2=>?_))))
 ·refine qK 8 [0] U (aA (bg (cells:=[I x.No]) cQ ty3 zc3 U U kr (fun b2=>bN 0 U hM (fun h1 hle1 hb1=>?_))))
  have sl1:SlC Rp.int h1 (some ⟨b2,0,none⟩) 1 ([x.No]):=aP.slB0 (T:=3) (fz:=(0,0)) ((show aP Rp.int h [I x.No] ([x.No]) from ⟨[I x.No],[],rfl,rfl,rfl,rfl⟩).mono Rp.aK hle1) hb1
  refine ah rU (e7 _ 0 1048576 _ _ _ sl1) U (aj (bx 7 [11,12,13,14,15,16,17,18] 11 18 (bK 0 1099511627775 ([x.At,x.Known])) U (fun c2 hk1=>?_) (fun e=>?_)))
  ·refine qL 4 [0,0] U (aA (bg (cells:=[I x.At,I x.Known]) cQ ty3 zc3 U U kr (fun b3=>bN 0 U hM (fun h2 hle2 hb2=>?_))))
   have sl2:SlC Rp.int h2 (some ⟨b3,0,none⟩) 2 ([x.At,x.Known]):=aP.slB0 (T:=3) (fz:=(0,0)) ((show aP Rp.int h1 [I x.At,I x.Known] ([x.At,x.Known]) from ⟨[I x.At],[I x.Known],rfl,rfl,rfl,⟨[I x.Known],[],rfl,rfl,rfl,rfl⟩⟩).mono Rp.aK hle2) hb2
   exact ah rU (e7 _ 0 1099511627775 _ _ _ sl2) U (dZ U (kV (h:=h1) hle2 hX hle1 (hk1 _ U)))
  refine aj (bx 5 [19,20,21,22,23,24] 19 24 (bK (-1) 15 ([x.Kind])) U (fun c3 hk2=>?_) (fun e=>?_))
  ·refine qL 2 [0] U (aA (bg (cells:=[I x.Kind]) cQ ty3 zc3 U U kr (fun b4=>bN 0 U hM (fun h3 hle3 hb3=>?_))))
   have sl3:SlC Rp.int h3 (some ⟨b4,0,none⟩) 1 ([x.Kind]):=aP.slB0 (T:=3) (fz:=(0,0)) ((show aP Rp.int h1 [I x.Kind] ([x.Kind]) from ⟨[I x.Kind],[],rfl,rfl,rfl,rfl⟩).mono Rp.aK hle3) hb3
   exact ah rU (e7 _ (-1) 15 _ _ _ sl3) U (dZ U (kV (h:=h1) hle3 hX hle1 (hk2 _ U)))
  refine aj (bx 5 [25,26,27,28,29,30] 25 30 (bK 1 1099511627776 ([x.Period])) U (fun c4 hk3=>?_) (fun e=>?_))
  ·refine qL 2 [0] U (aA (bg (cells:=[I x.Period]) cQ ty3 zc3 U U kr (fun b5=>bN 0 U hM (fun h4 hle4 hb4=>?_))))
   have sl4:SlC Rp.int h4 (some ⟨b5,0,none⟩) 1 ([x.Period]):=aP.slB0 (T:=3) (fz:=(0,0)) ((show aP Rp.int h1 [I x.Period] ([x.Period]) from ⟨[I x.Period],[],rfl,rfl,rfl,rfl⟩).mono Rp.aK hle4) hb4
   exact ah rU (e7 _ 1 1099511627776 _ _ _ sl4) U (dZ U (kV (h:=h1) hle4 hX hle1 (hk3 _ U)))
  refine aj (bx 6 [31,32,33,34,35,36,37] 31 37 (bK 0 0 ([x.Count])) U (fun c5 hk4=>?_) (fun e=>?_))
  ·refine qL 3 [0] U (aA (bg (cells:=[I x.Count]) cQ ty3 zc3 U U kr (fun b6=>bN 0 U hM (fun h5 hle5 hb5=>?_))))
   have sl5:SlC Rp.int h5 (some ⟨b6,0,none⟩) 1 ([x.Count]):=aP.slB0 (T:=3) (fz:=(0,0)) ((show aP Rp.int h1 [I x.Count] ([x.Count]) from ⟨[I x.Count],[],rfl,rfl,rfl,rfl⟩).mono Rp.aK hle5) hb5
   exact ah rU (e7 _ 0 0 _ _ _ sl5) U (dZ U (kV (h:=h1) hle5 hX hle1 (hk4 _ U)))
  refine aj (bx 6 [38,39,40,41,42,43,44] 38 44 (bK 0 0 ([x.Value])) U (fun c6 hk5=>?_) (fun e=>?_))
  ·refine qL 3 [0] U (aA (bg (cells:=[I x.Value]) cQ ty3 zc3 U U kr (fun b7=>bN 0 U hM (fun h6 hle6 hb6=>?_))))
   have sl6:SlC Rp.int h6 (some ⟨b7,0,none⟩) 1 ([x.Value]):=aP.slB0 (T:=3) (fz:=(0,0)) ((show aP Rp.int h1 [I x.Value] ([x.Value]) from ⟨[I x.Value],[],rfl,rfl,rfl,rfl⟩).mono Rp.aK hle6) hb6
   exact ah rU (e7 _ 0 0 _ _ _ sl6) U (dZ U (kV (h:=h1) hle6 hX hle1 (hk5 _ U)))
  exact an (nretP [.bool ((((((bK 0 1048576 ([x.No]))&&(bK 0 1099511627775 ([x.At,x.Known])))&&(bK (-1) 15 ([x.Kind])))&&(bK 1 1099511627776 ([x.Period])))&&(bK 0 0 ([x.Count])))&&(bK 0 0 ([x.Value])))] (cs hs1))
 refine qK 5 [0] U (aA (bg (cells:=[I x.No]) cQ ty3 zc3 U U kr (fun b8=>bN 0 U hM (fun h7 hle7 hb7=>?_))))
 have sl7:SlC Rp.int h7 (some ⟨b8,0,none⟩) 1 ([x.No]):=aP.slB0 (T:=3) (fz:=(0,0)) ((show aP Rp.int h [I x.No] ([x.No]) from ⟨[I x.No],[],rfl,rfl,rfl,rfl⟩).mono Rp.aK hle7) hb7
 refine ah rU (e7 _ 0 1048576 _ _ _ sl7) U (aj (bx 7 [11,12,13,14,15,16,17,18] 11 18 (bK 0 1099511627775 ([x.At,x.Known])) U (fun c7 hk6=>?_) (fun e=>?_)))
 ·refine qL 4 [0,0] U (aA (bg (cells:=[I x.At,I x.Known]) cQ ty3 zc3 U U kr (fun b9=>bN 0 U hM (fun h8 hle8 hb8=>?_))))
  have sl8:SlC Rp.int h8 (some ⟨b9,0,none⟩) 2 ([x.At,x.Known]):=aP.slB0 (T:=3) (fz:=(0,0)) ((show aP Rp.int h7 [I x.At,I x.Known] ([x.At,x.Known]) from ⟨[I x.At],[I x.Known],rfl,rfl,rfl,⟨[I x.Known],[],rfl,rfl,rfl,rfl⟩⟩).mono Rp.aK hle8) hb8
  exact ah rU (e7 _ 0 1099511627775 _ _ _ sl8) U (dZ U (kV (h:=h7) hle8 hX hle7 (hk6 _ U)))
 refine aj (bx 5 [19,20,21,22,23,24] 19 24 (bK (-1) 15 ([x.Kind])) U (fun c8 hk7=>?_) (fun e=>?_))
 ·refine qL 2 [0] U (aA (bg (cells:=[I x.Kind]) cQ ty3 zc3 U U kr (fun b10=>bN 0 U hM (fun h9 hle9 hb9=>?_))))
  have sl9:SlC Rp.int h9 (some ⟨b10,0,none⟩) 1 ([x.Kind]):=aP.slB0 (T:=3) (fz:=(0,0)) ((show aP Rp.int h7 [I x.Kind] ([x.Kind]) from ⟨[I x.Kind],[],rfl,rfl,rfl,rfl⟩).mono Rp.aK hle9) hb9
  exact ah rU (e7 _ (-1) 15 _ _ _ sl9) U (dZ U (kV (h:=h7) hle9 hX hle7 (hk7 _ U)))
 refine aj (bx 5 [25,26,27,28,29,30] 25 30 (bK 1 1099511627776 ([x.Period])) U (fun c9 hk8=>?_) (fun e=>?_))
 ·refine qL 2 [0] U (aA (bg (cells:=[I x.Period]) cQ ty3 zc3 U U kr (fun b11=>bN 0 U hM (fun h10 hle10 hb10=>?_))))
  have sl10:SlC Rp.int h10 (some ⟨b11,0,none⟩) 1 ([x.Period]):=aP.slB0 (T:=3) (fz:=(0,0)) ((show aP Rp.int h7 [I x.Period] ([x.Period]) from ⟨[I x.Period],[],rfl,rfl,rfl,rfl⟩).mono Rp.aK hle10) hb10
  exact ah rU (e7 _ 1 1099511627776 _ _ _ sl10) U (dZ U (kV (h:=h7) hle10 hX hle7 (hk8 _ U)))
 refine aj (bx 6 [31,32,33,34,35,36,37] 31 37 (bK 0 1048576 ([x.Count])) U (fun c10 hk9=>?_) (fun e=>?_))
 ·refine qL 3 [0] U (aA (bg (cells:=[I x.Count]) cQ ty3 zc3 U U kr (fun b12=>bN 0 U hM (fun h11 hle11 hb11=>?_))))
  have sl11:SlC Rp.int h11 (some ⟨b12,0,none⟩) 1 ([x.Count]):=aP.slB0 (T:=3) (fz:=(0,0)) ((show aP Rp.int h7 [I x.Count] ([x.Count]) from ⟨[I x.Count],[],rfl,rfl,rfl,rfl⟩).mono Rp.aK hle11) hb11
  exact ah rU (e7 _ 0 1048576 _ _ _ sl11) U (dZ U (kV (h:=h7) hle11 hX hle7 (hk9 _ U)))
 refine aj (bx 6 [38,39,40,41,42,43,44] 38 44 (bK 0 1099511627776 ([x.Value])) U (fun c11 hk10=>?_) (fun e=>?_))
 ·refine qL 3 [0] U (aA (bg (cells:=[I x.Value]) cQ ty3 zc3 U U kr (fun b13=>bN 0 U hM (fun h12 hle12 hb12=>?_))))
  have sl12:SlC Rp.int h12 (some ⟨b13,0,none⟩) 1 ([x.Value]):=aP.slB0 (T:=3) (fz:=(0,0)) ((show aP Rp.int h7 [I x.Value] ([x.Value]) from ⟨[I x.Value],[],rfl,rfl,rfl,rfl⟩).mono Rp.aK hle12) hb12
  exact ah rU (e7 _ 0 1099511627776 _ _ _ sl12) U (dZ U (kV (h:=h7) hle12 hX hle7 (hk10 _ U)))
 exact an (nretP [.bool ((((((bK 0 1048576 ([x.No]))&&(bK 0 1099511627775 ([x.At,x.Known])))&&(bK (-1) 15 ([x.Kind])))&&(bK 1 1099511627776 ([x.Period])))&&(bK 0 1048576 ([x.Count])))&&(bK 0 1099511627776 ([x.Value])))] (cs hs2))
theorem wZ (h:HF) (l:List Budget) (ey:Option Addr) (ew:Nat) (hl:SlC Budget.rp h ey ew l):Ret prog 54 [.slice ey l.length ew] h (I (dk l)):=by
 refine sT func54 U ntmps54 U fun X hM hX hF=>?_
 have hs0:dk l=dk l:=rfl
 refine qK 11 [] U (ac hs0 U (fun c1 hs1=>?_) (fun c1 hs2=>?_))
 ·have c1p:=of_decide_eq_true c1
  exact sr (an (nretP [I 2] (ci hs1)))
 have c1p:=of_decide_eq_false c1
 refine qK 12 [] U ?_
 refine lp1 l (fun i w=>[(3,I w),(9,.slice ey l.length ew),(10,I (l.length:Int)),(11,I (i:Int))]) ([]) (fun s1 i w=>(dk.L1 (dk.K1)) s1 w) (-1) hl.1.1 hs2 ?_ ?_
 ·rintro i1 gF et hs4 e
  exact sr (an (nretP [I 0] (ci hs4)))
 rintro i1 gF y1 rz1 hd1 cw ao dy fB hs6 hx1 ag1 e
 refine sr (ad (v':=.bool true) U (cb cw) (qO 8 U (aA (ek (enc:=Budget.cells) ei FP ty173 hl.1 (nthZ ao) (au ao) U U U (fun q2 A2=>de ty173 A2 U U (bH zc173 (fun b2=>bE 0 ty173 U U U U U U (qO 4 U (cJ 0 ty173 U U U (ah call102 (wY h y1) U (qO 2 U (ce 5 [18,19,20,21,22,23] 18 23 (decide (y1.No≤gF)) U (fun c2 hk1=>?_) (fun e=>?_)))))))))))))
 ·exact qL 5 [0] U (hk1 _ U)
 refine aM (ac hs6 U (fun c3 hs7=>?_) (fun c3 hs8=>?_))
 ·exact sr (an (nretP [I 180] (ci hs7)))
 exact qK 8 [0] U (ad (v':=I (((i1+1):Nat):Int)) U (aL ob) (qO 2 U (bU (L':=[]) js (ag1 y1.No hs8))))
theorem sn (rec:Expr→Int→List fx) (h:HF) (x:Expr) (eL:cm) (x_q:Addr) (depth:Int) (depth_q:Addr) (hrec:∀ (h:HF) (qx:Expr) (iT:cm) (qdepth:Int) (_:Expr.ok h qx iT) (_:0≤qdepth∧qdepth+qx.dep≤2000000) (_:qx.dep < x.dep),iq prog 219 [.agg (Expr.cells qx iT).toArray,I qdepth] h (fun v h'=>∃ rv0:Value,v=rv0∧Itr prog rv0 qf (rec qx qdepth) h')) (hx:Expr.ok h x eL) (ax:At h x_q (Expr.cells x eL)) (adepth:At h depth_q [I depth]) (hb:0≤depth∧depth+x.dep≤2000000):Itr prog (.func (.func 247) #[] (List.toArray [.pointer (some x_q),.pointer (some depth_q)])) qf (aF.F rec x depth) h:=by
 refine wN call247 ?_
 intro yf ya yb C Sp Pn h1 A hle m1 m2 m3 hC hy
 refine jQ Br U ntmps247 U fun X hXM hX=>?_
 have hs0:aF.F rec x depth=[]++aF.F rec x depth:=rfl
 refine sr (cA (fun b1=>qL 5 [0] U (de ty66 (ax.mono hle) U U (cK ty3 (adepth.mono hle) U (aA (er (cells:=[I x.Kind,I x.N,I x.No,.string x.Name,.slice eL.iL x.L.length eL.iP,I depth]) (places:=[(0,5),(5,1)]) underlying258 zc258 kr kr ?_))))))
 have hx1:aF.F rec x depth=[]++((fx.mk (Expr.mk x.Kind x.N x.No x.Name x.L) depth)::((aF.L1 rec depth (aF.K1)) x.L)):=hs0
 let z1:Nat×Obj:=(b1,O [.func yf ya yb] 285)
 refine aA (me ([z1]) A ap (hy [] (fx.mk (Expr.mk x.Kind x.N x.No x.Name x.L) depth) _ _ _ _ hx1 lf hC ⟨(w6.mk (cm.mk eL.iL eL.iP)),U,(show fx.ok h1 (fx.mk (Expr.mk x.Kind x.N x.No x.Name x.L) depth) (w6.mk (cm.mk eL.iL eL.iP)) from ⟨(show Expr.ok h1 (Expr.mk x.Kind x.N x.No x.Name x.L) (cm.mk eL.iL eL.iP) from Expr.ok.of (hx.list.mono Expr.ak hle))⟩)⟩) U U (fun h2 A1 hle1 hC1=>?_) (fun h3 A2 hle2 hS1=>?_) (fun ch1 h4 A3 hle3 hP1 e=>ja (qY [] (A:=A3) Br (List.sublist_append_right _ _) hP1)))
 ·have hs1:aF.F rec x depth=[(fx.mk (Expr.mk x.Kind x.N x.No x.Name x.L) depth)]++(((aF.L1 rec depth (aF.K1)) x.L)):=hx1.trans ap
  refine qL 7 [] U (jF (j:=4) ty64 (ax.mono (hle.t hle1)) U U (qL 3 [] U (gk (cS (L':=[z1]++(A1++(markB []))) ap ?_))))
  refine qs (ι:=Nat×List fx×LH×List Nat×HF) (fun i=>[]) (fun i=>marks i.2.2.2.1) (fun i=>i.2.2.2.2) (fun i=>[z1]++(i.2.2.1++(markB i.2.2.2.1))) (fun i=>i.1≤x.L.length∧aF.F rec x depth=i.2.1++((aF.K1))∧C i.2.1 i.2.2.2.2 i.2.2.1∧HF.le h2 i.2.2.2.2) ?_ (fun hx1=>?_)
  ·rintro ⟨i1,dn1,A1_,rs1,hh1⟩ ⟨et,hs2,hC1_,hl1⟩ e
   refine cS (L':=([z1]++(A1_))++markB rs1) ap ?_
   have hs3:aF.F rec x depth=dn1:=hs2.trans (List.append_nil _)
   exact wO rs1 (A:=A1_) Br U js (.inl (hs3 ▸ hC1_))
  refine vn (ι:=Nat×List fx×LH×List Nat×HF×List Expr) (fun i=>[(2,.pointer (some depth_q)),(3,Q b1),(14,.slice eL.iL x.L.length eL.iP),(15,I (x.L.length:Int)),(16,I (i.1:Int))]) (fun i=>marks i.2.2.2.1) (fun i=>i.2.2.2.2.1) (fun i=>[z1]++(i.2.2.1++(markB i.2.2.2.1))) (fun i=>x.L.drop i.1=i.2.2.2.2.2∧i.1≤x.L.length∧aF.F rec x depth=i.2.1++((aF.L1 rec depth (aF.K1)) i.2.2.2.2.2)∧C i.2.1 i.2.2.2.2.1 i.2.2.1∧HF.le h2 i.2.2.2.2.1) (fun i=>i.2.2.2.2.2.length) (0,[(fx.mk (Expr.mk x.Kind x.N x.No x.Name x.L) depth)],A1,[],h2,x.L) U rd sw ⟨U,Nat.zero_le _,hs1,hC1,lf⟩ ?_
  rintro ⟨i1,dn1,A1_,rs1,hh1,s1⟩ ⟨hd1,et,hs4,hC1_,hl1⟩ ag1 e
  rcases s1 with _ | ⟨y1,rz1⟩
  ·have eG:=nN hd1
   exact sr (ad (v':=.bool false) U (cb eG) (qO 4 U (hx1 (i1,dn1,A1_,rs1,hh1) _ ⟨et,hs4,hC1_,hl1⟩ trivial)))
  have cw:=uo hd1
  have ao:=u0 hd1
  have dy:=iY hd1
  have fB:=(hx.list.mono Expr.ak (hle.t hle1)).1.1
  have hdy:=Expr.gj (fq hd1)
  refine sr (ad (v':=.bool true) U (cb cw) (qO 8 U (aA (dV jh ty66 (hx.list.mono Expr.ak ((hle.t hle1).t hl1)).1 (nthZ ao) (au ao) U U U (fun _ _ _ e=>e) (fun q2 r2 A8 ok2=>de ty66 A8 U U (bH zc66 (fun b4=>bE 0 ty66 U U U U U U (iW (L':=[(b4,O (Expr.cells y1 r2) 66),z1]++(A1_++(markB rs1))) U (qO 3 U (cJ 0 ty66 U U U (cK ty3 (adepth.mono ((hle.t hle1).t hl1)) U (ad (v':=I (depth+1)) U (gG ob) (aA (cf FL (hrec _ _ _ (depth+1) ok2 ob (Expr.gj (fq hd1))) U (fun v2 h9 hle8 hp2=>?_)))))))))))))))
  obtain ⟨_,rfl,mo2⟩:=hp2
  refine qO 2 U ?_
  let z2:Nat×Obj:=(b4,O (Expr.cells y1 r2) 66)
  refine cS (L':=([z2,z1]++(A1_))++markB rs1) ap ?_
  refine kd (it:=v2) (xs:=(rec y1 (depth+1))) (ι:=List fx×LH×HF) rs1 (fun i=>i.2.2) (fun i=>[z2,z1]++(i.2.1)) (fun s i=>aF.F rec x depth=i.1++((aF.L3 ((aF.L1 rec depth (aF.K1) rz1))) s)∧C i.1 i.2.2 i.2.1∧HF.le h9 i.2.2) (fun i=>Sp i.2.2 i.2.1∧HF.le h9 i.2.2) (fun _=>False) 0 (fun ch h L=>∃ B,B.Sublist L∧Pn ch h B) (dn1,A1_,h9) Br U mo2 U lZ (fun _ _ _ _ hl ⟨B,hs,hp⟩=>⟨B,hs,m3 _ _ _ _ hl hp⟩) U (show [z2,z1]++(A1_)=_ from U) ⟨hs4,(m1 _ _ _ _ hle8 hC1_),lf⟩ ?_ ?_ ?_ ?_ ?_
  ·rintro l3 dm3 lp3 y3 rz3 vs3 ⟨dn3,A3_,hh3⟩ hr3 X hFR3 ⟨hs6,hC3_,hl3⟩ hl03 hlr3 hv3 hX hXM hlp3 nx3 rt3 ex3 pn3
   obtain ⟨rr3_0,rfl,ok3_0⟩:=hv3
   let z3:Nat×Obj:=(dm3,.deferred (some []))
   refine cS (L':=[(l3,.loop lp3),z3,z2,z1]++(A3_++(markB rs1))) ap (bn (bH zc258 (fun b6=>bE 0 ty258 U U U U U U (iW (L':=[(b6,O (fx.cells y3 rr3_0) 258),(l3,.loop lp3),z3,z2,z1]++(A3_++(markB rs1))) U (aM (kg 1 U hlp3 (qK 4 [4] U (cJ 0 ty258 U U U ?_))))))))
   have hx4:aF.F rec x depth=dn3++(y3::((aF.L3 ((aF.L1 rec depth (aF.K1) rz1))) rz3)):=hs6
   let z4:Nat×Obj:=(l3,.loop { lp3 with state:=.busy })
   refine aA (H3 ([(b6,O (fx.cells y3 rr3_0) 258),z4,z3,z2,z1]) A3_ (markB rs1) ap (hy dn3 y3 _ _ _ _ hx4 ((((hle1.t hl1).t hle8).t hl3).t hlr3) (m1 _ _ _ _ hlr3 hC3_) ⟨rr3_0,U,ok3_0⟩) U U (fun h13 A12 hle12 hC4=>?_) (fun h14 A13 hle13 hS4=>?_) (fun ch4 h15 A14 hle14 hP4 e=>uw (L':=[z4,z3]++(A14++(markB rs1))) js (pn3 _ _ _ A14 ⟨A14,List.Sublist.refl _,hP4⟩)))
   ·have hs7:aF.F rec x depth=(dn3++[y3])++(((aF.L3 ((aF.L1 rec depth (aF.K1) rz1))) rz3)):=hx4.trans ap
    exact lY U (qO 4 U (bU (L':=[z4,z3,z2,z1]++(A12++(markB rs1))) js (cS (L':=rdH l3 dm3 lp3 (([z2,z1]++(A12))++markB rs1)) ap (nx3 ((dn3++[y3]),A12,h13) _ _ ⟨hs7,hC4,((hl3.t hlr3).t hle12)⟩ lf))))
   exact lY U (qO 2 U (bU (L':=[z4,z3,z2,z1]++(A13++(markB rs1))) js (cS (L':=rdH l3 dm3 lp3 (([z2,z1]++(A13))++markB rs1)) ap (rt3 (dn3,A13,h14) _ _ _ ⟨hS4,((hl3.t hlr3).t hle13)⟩ lf))))
  ·rintro dm3 ⟨dn3,A3_,hh3⟩ hn3 ⟨hs8,hC3_,hl3⟩ hln3 hl03
   exact cS (L':=[z2,z1]++(A3_++(markB (dm3::rs1)))) ap (qT 3 U (ad (v':=I (((i1+1):Nat):Int)) U (aL ob) (qO 2 U (bU (L':=[z1]++(A3_++(markB (dm3::rs1)))) js (ag1 ((i1+1),dn3,A3_,(dm3::rs1),hn3,rz1) _ (Nat.lt_succ_self _) ⟨lL hd1,iY hd1,hs8,(m1 _ _ _ _ hln3 hC3_),(((hl1.t hle8).t hl3).t hln3)⟩ rd)))))
  ·rintro dm3 ⟨dn3,A3_,hh3⟩ hn3 ⟨hS5,hl3⟩ hln3 hl03
   exact cS (L':=[z2,z1]++(A3_++(markB (dm3::rs1)))) ap (cS (L':=([z2,z1]++(A3_))++markB (dm3::rs1)) ap (qX (dm3::rs1) (A:=A3_) Br U js (.inr (m2 _ _ _ hln3 hS5))))
  ·exact xf
  rintro dm3 ch hn3 L0 ⟨B,hB,hp⟩ hl03
  exact qY (dm3::rs1) Br hB hp
 exact lY U (qO 2 U (gk (qX [] (A:=A2) Br U js (.inr hS1))))
theorem nw:∀ (m:Nat) (h:HF) (x:Expr) (eL:cm) (depth:Int) (_:Expr.ok h x eL) (_:0≤depth∧depth+x.dep≤2000000) (_:x.dep≤m),iq prog 219 [.agg (Expr.cells x eL).toArray,I depth] h (fun v h'=>∃ rv0:Value,v=rv0∧Itr prog rv0 qf (aF.go m x depth) h')
 | 0,h,x,eL,depth,hx,hb,hd=>absurd hd (Nat.not_le.2 (Expr.jH _))
 | m+1,h,x,eL,depth,hx,hb,hd=>by
  exact cU func219 U ntmps219 U fun X hM hX=>sr (cA (fun b1=>cA (fun b2=>qO 4 U (bN 1 U hM (fun h2 hle2 hb2=>bN 0 U hM (fun h3 hle3 hb3=>aA (fX U U (an (fR [.func (.func 247) #[] #[Q b1,Q b2]] func219 U rd ⟨_,U,sn (aF.go m) h3 x eL ⟨b1,0,none⟩ depth ⟨b2,0,none⟩ (fun h' y Lv d' hy hb' hl=>nw m h' y Lv d' hy hb' ob) (hx.mono (hle2.t hle3)) ((dp hb2).mono hle3) (dp hb3) hb⟩)))))))))
theorem kX (h:HF) (x:Expr) (eL:cm) (depth:Int) (hx:Expr.ok h x eL) (hb:0≤depth∧depth+x.dep≤2000000):iq prog 219 [.agg (Expr.cells x eL).toArray,I depth] h (fun v h'=>∃ rv0:Value,v=rv0∧Itr prog rv0 qf (a8 x depth) h'):=nw _ h x eL depth hx hb (Nat.le_refl _)
theorem fZ (h:HF) (ok:Bool) (Kb:Int)  : Hm prog 242 [.bool ok,I Kb] h (exW stopV (fun r:Unit=>(.tuple #[]:Value)) (dW ok Kb)):=by
 refine cU func242 U ntmps242 U fun X hM hX=>?_
 have hs0:dW ok Kb=dW ok Kb:=rfl
 refine qT 5 U (ac hs0 U (fun c1 hs1=>?_) (fun c1 hs2=>?_))
 ·exact bn (aj (aA (er (cells:=[I Kb]) (places:=[(0,1)]) underlying277 zc277 kr kr (aA (fu (JA underlying277 U U) (aA (Ju U GR (fun e=>ja (md [] func242 hX (congrArg (exW stopV (fun r:Unit=>(.tuple #[]:Value))) hs1))))))))))
 refine aE ?_
 have hs3:dW ok Kb=(Except.ok ()):=hs2
 exact gk (vo [] [] func242 U hX trivial (congrArg (exW stopV (fun r:Unit=>(.tuple #[]:Value))) hs3))
theorem GZ {c:Bool} {e:Int} {u:Unit} (h:dW c e=.ok u):c=true:=by
 cases c with
 | true=>rfl
 | false=>simp [dW] at h
theorem kl (h:HF) (p:Policy) (gp:dS) (hp:Policy.ok h p gp) (hsz0:p.Rules.length≤2000000):iq prog 243 [.agg (Policy.cells p gp).toArray] h (fun v h'=>∃ (rb0:Option Addr) (rc0:Nat),v=.slice rb0 (ai p).length rc0∧SlC Expr.rp h' rb0 rc0 (ai p)):=by
 refine sT func243 U ntmps243 U fun X hM hX hF=>?_
 have hs0:ai p=ai p:=rfl
 refine sr (cA (fun b1=>qL 10 [0] U ?_))
 let z3:Nat×Obj:=(b1,O (Policy.cells p gp) 68)
 refine lp2 p.Rules (fun i w=>[(1,Q b1),(2,.slice w.2.1 w.1.length w.2.2.1),(6,.slice gp.kc p.Rules.length gp.kb),(7,I (p.Rules.length:Int)),(8,I (i:Int))]) (fun _=>h) (fun w=>[z3]++(w.2.2.2)) (fun i w=>cM Expr.rp 66 h w.1 w.2.1 w.2.2.1 w.2.2.2∧w.1.length≤0+i) (fun s1 i w=>(ai.L1 (ai.K1 p)) s1 w.1) ([],none,0,[]) hp.Rules.1.1 hs0 ⟨cM.nil,lo⟩ ?_ ?_
 ·rintro i1 ⟨Bf,Lc,Lb,Ka⟩ et hs1 ⟨EG,IR⟩ e
  try dsimp only at EG IR
  refine qK 4 [] U (cJ 0 ty66 U U U (aA (bg (cells:=[I p.Change.Kind,I p.Change.N,I p.Change.No,.string p.Change.Name,.slice gp.Change.iL p.Change.L.length gp.Change.iP]) jh ty66 zc66 U U kr (fun b5=>?_))))
  let z1:Nat×Obj:=(b5,O [I p.Change.Kind,I p.Change.N,I p.Change.No,.string p.Change.Name,.slice gp.Change.iL p.Change.L.length gp.Change.iP] 66)
  refine aA (bS Expr.eC ([z1,z3]) ([]) (fun G=>[z1,z3]++G) ap (fun _=>ap) jh ty66 zc66 U bytes66 EG U U (du 0 U (show aP Expr.rp h [I p.Change.Kind,I p.Change.N,I p.Change.No,.string p.Change.Name,.slice gp.Change.iL p.Change.L.length gp.Change.iP] ([p.Change]) from ⟨[I p.Change.Kind,I p.Change.N,I p.Change.No,.string p.Change.Name,.slice gp.Change.iL p.Change.L.length gp.Change.iP],[],U,U,⟨gp.Change,U,hp.Change⟩,U⟩)) lo lo (fun ob3 oc3 G3 gr3=>an (eI Expr.ak ([z1,z3]) G3 ([]) ap hM gr3 (fun h2 hle2 sl2=>?_))))
  have hs2:ai p=(Bf++[p.Change]):=hs1
  exact nretH [.slice ob3 ((Bf++[p.Change]).length) oc3] ⟨ob3,oc3,congrArg (fun r:List Expr=>(.slice ob3 r.length oc3:Value)) hs2.symm,(by rw [hs2];exact sl2)⟩
 rintro i1 ⟨Bf,Lc,Lb,Ka⟩ y1 rz1 hd1 cw ao dy fB hs3 ⟨EG,IR⟩ hx1 ag1 e
 try dsimp only at EG IR
 refine sr (ad (v':=.bool true) U (cb cw) (qO 8 U (aA (dV pc ty107 hp.Rules.1 (nthZ ao) (au ao) U U U (fun _ _ _ e=>e) (fun q2 r2 A2 ok2=>de ty107 A2 U U (bH zc107 (fun b6=>bE 0 ty107 U U U U U U (iW (L':=[(b6,O (Rule.cells y1 r2) 107),z3]++(Ka)) U (qL 4 [] U (cJ 0 ty66 U U U (aA (bg (cells:=[I y1.Expr.Kind,I y1.Expr.N,I y1.Expr.No,.string y1.Expr.Name,.slice r2.Expr.iL y1.Expr.L.length r2.Expr.iP]) jh ty66 zc66 U U kr (fun b7=>?_)))))))))))))
 let z2:Nat×Obj:=(b7,O [I y1.Expr.Kind,I y1.Expr.N,I y1.Expr.No,.string y1.Expr.Name,.slice r2.Expr.iL y1.Expr.L.length r2.Expr.iP] 66)
 exact aA (bS Expr.eC ([z2,(b6,O (Rule.cells y1 r2) 107),z3]) ([]) (fun G=>[z2,(b6,O (Rule.cells y1 r2) 107),z3]++G) ap (fun _=>ap) jh ty66 zc66 U bytes66 EG U U (du 0 U (show aP Expr.rp h [I y1.Expr.Kind,I y1.Expr.N,I y1.Expr.No,.string y1.Expr.Name,.slice r2.Expr.iL y1.Expr.L.length r2.Expr.iP] ([y1.Expr]) from ⟨[I y1.Expr.Kind,I y1.Expr.N,I y1.Expr.No,.string y1.Expr.Name,.slice r2.Expr.iL y1.Expr.L.length r2.Expr.iP],[],U,U,⟨r2.Expr,U,ok2.Expr⟩,U⟩)) lo lo (fun ob4 oc4 G4 gr4=>qO 4 U (ad (v':=I (((i1+1):Nat):Int)) U (aL ob) (qO 2 U (bU (L':=[z3]++G4) js (ag1 ((Bf++[y1.Expr]),ob4,oc4,G4) hs3 ⟨gr4,lo⟩))))))
theorem Gy (p:Policy):∀ (l:List Rule) (g:List Expr),ai.L1 (ai.K1 p) l g=g++(l.map (·.Expr)++[p.Change])
 | [],g=>by simp [ai.L1,ai.K1]
 | y::l,g=>by simp [ai.L1,Gy p l]
theorem I2 (p:Policy):ai p=p.Rules.map (·.Expr)++[p.Change]:=by
 unfold ai;rw [Gy];simp
theorem vW {p:Policy} (h:smP p) {y:Expr} (hy:y∈ai p):y.dep≤1500000:=by
 rw [I2] at hy
 rcases List.mem_append.1 hy with hy | hy
 ·obtain ⟨r,hr,rfl⟩:=List.mem_map.1 hy;exact h.2.1 r hr
 rw [List.mem_singleton.1 hy];exact h.2.2.1
theorem vD (h:HF) (p:Policy) (gp:dS) (hp:Policy.ok h p gp) (hsm:smP p):Hm prog 215 [.agg (Policy.cells p gp).toArray] h (exW stopV (fun r:Unit=>(.tuple #[]:Value)) (bW p)):=by
 refine cU FK U ntmps215 U fun X hM hX=>?_
 have hs0:bW p=bW p:=rfl
 have hsr:=hsm.rules
 have hsc:=hsm.change
 refine sr (cA (fun b1=>qL 8 [0] U (bx 5 [10,11,12,13,14,15] 10 15 (decide ((p.Kinds.length:Int)≤16)) U (fun c1 hk1=>?_) (fun e=>?_))))
 ·exact qL 5 [0] U (hk1 _ U)
 refine aj (bx 5 [16,17,18,19,20,21] 16 21 (decide ((p.Rules.length:Int)≤16)) U (fun c2 hk2=>?_) (fun e=>?_))
 ·exact qL 5 [0] U (hk2 _ U)
 refine aA (kW ub (fZ h ((decide ((p.Offices.length:Int)≤32)&&decide ((p.Kinds.length:Int)≤16))&&decide ((p.Rules.length:Int)≤16)) 2) U (fun u1 hu1=>?_) (fun pv1 hpv1 e=>?_))
 ·obtain ⟨rx1,hrx1,rfl⟩:=mU hu1
  have hs1:=hs0.trans (mT hrx1)
  cases rx1
  refine qO 3 U (cJ 0 ty68 U U U (aA (cf call243 (kl _ _ _ hp ob) U (fun v1 h1 hle1 hp1=>?_))))
  obtain ⟨rb1,rc1,rfl,sl1⟩:=hp1
  refine qL 3 [] U (gk ?_)
  let z1:Nat×Obj:=(b1,O (Policy.cells p gp) 68)
  refine cS (L':=[z1]++(markB [])) ap ?_
  refine qs (ι:=Nat×List Nat×HF) (fun i=>[]) (fun i=>marks i.2.1) (fun i=>i.2.2) (fun i=>[z1]++(markB i.2.1)) (fun i=>i.1≤(ai p).length∧bW p=((bW.K1))∧HF.le h1 i.2.2) ?_ (fun hx1=>?_)
  ·rintro ⟨i1,rs1,hh1⟩ ⟨et,hs2,hl1⟩ e
   have hs3:bW p=(Except.ok ()):=hs2
   exact cS (L':=([z1])++markB rs1) ap (vo rs1 [] FK U hX trivial (congrArg (exW stopV (fun r:Unit=>(.tuple #[]:Value))) hs3))
  refine vn (ι:=Nat×List Nat×HF×List Expr) (fun i=>[(24,.slice rb1 ((ai p).length) rc1),(25,I ((ai p).length:Int)),(26,I (i.1:Int))]) (fun i=>marks i.2.1) (fun i=>i.2.2.1) (fun i=>[z1]++(markB i.2.1)) (fun i=>(ai p).drop i.1=i.2.2.2∧i.1≤(ai p).length∧bW p=((bW.L1 (bW.K1)) i.2.2.2)∧HF.le h1 i.2.2.1) (fun i=>i.2.2.2.length) (0,[],h1,(ai p)) U rd sw ⟨U,Nat.zero_le _,hs1,lf⟩ ?_
  rintro ⟨i1,rs1,hh1,s1⟩ ⟨hd1,et,hs4,hl1⟩ ag1 e
  rcases s1 with _ | ⟨y1,rz1⟩
  ·have eG:=nN hd1
   exact sr (ad (v':=.bool false) U (cb eG) (qO 4 U (hx1 (i1,rs1,hh1) _ ⟨et,hs4,hl1⟩ trivial)))
  have cw:=uo hd1
  have ao:=u0 hd1
  have dy:=iY hd1
  have fB:=sl1.1.1
  try have hsy:=vW hsm (fq hd1)
  refine sr (ad (v':=.bool true) U (cb cw) (qO 8 U (aA (dV jh ty66 (sl1.mono Expr.ak hl1).1 (nthZ ao) (au ao) U U U (fun _ _ _ e=>e) (fun q2 r2 A2 ok2=>de ty66 A2 U U (bH zc66 (fun b5=>bE 0 ty66 U U U U U U (qO 3 U (bH zc3 (fun b6=>dw 0 ty3 U U U U U U (qO 3 U (cJ 1 ty66 U U U (aA (cf FL (kX _ _ _ 1 ok2 ob) U (fun v3 h3 hle3 hp3=>?_)))))))))))))))
  obtain ⟨_,rfl,mo2⟩:=hp3
  refine qO 2 U ?_
  let z2:Nat×Obj:=(b5,O (Expr.cells y1 r2) 66)
  refine cS (L':=([(b6,O [I 0] 3),z2,z1])++markB rs1) ap ?_
  refine kd (it:=v3) (xs:=(a8 y1 1)) (ι:=Int×HF) rs1 (fun i=>i.2) (fun i=>[(b6,O [I i.1] 3),z2,z1]) (fun s i=>bW p=((bW.L3 (fun zg3_b6_0=>(bW.L1 (bW.K1) rz1))) s i.1)∧HF.le h3 i.2) (fun _=>False) (fun _=>False) 0 (fun ch _ _=>∃ pv_,ch=[{ v:=stopV pv_,recovered:=false }]∧bW p=.error pv_) (0,h3) FK U mo2 U lZ (fun _ _ _ _ _ hq=>hq) U (show [(b6,O [I 0] 3),z2,z1]=_ from U) ⟨hs4,lf⟩ ?_ ?_ ?_ ?_ ?_
  ·rintro l3 dm3 lp3 y3 rz3 vs3 ⟨tA,hh3⟩ hr3 X hFR3 ⟨hs6,hl3⟩ hl03 hlr3 hv3 hX hXM hlp3 nx3 rt3 ex3 pn3
   obtain ⟨rr3_0,rfl,ok3_0⟩:=hv3
   let z4:Nat×Obj:=(dm3,.deferred (some []))
   refine cS (L':=[(l3,.loop lp3),z4,(b6,O [I tA] 3),z2,z1]++(markB rs1)) ap (bn (bH zc258 (fun b8=>bE 0 ty258 U U U U U U (aM (kg 1 U hlp3 (qK 5 [3] U (dw 3 ty3 U U U U U U (qL 5 [3] U (bx 4 [37,38,39,40,41] 37 41 (decide (y3.depth≤16)) U (fun c3 hk3=>?_) (fun e=>?_))))))))))
   ·exact qL 4 [0] U (hk3 _ U)
   refine aA (kW ub (fZ hr3 (decide ((IntKind.wrap .i64 (tA+1))≤256)&&decide (y3.depth≤16)) 2) U (fun u2 hu2=>?_) (fun pv2 hpv2 e=>?_))
   ·obtain ⟨rx2,hrx2,rfl⟩:=mU hu2
    have hs7:=hs6.trans (mT hrx2)
    cases rx2
    refine qO 2 U ?_
    let z3:Nat×Obj:=(b6,O [I (IntKind.wrap .i64 (tA+1))] 3)
    exact bU (L':=[(l3,.loop { lp3 with state:=.busy }),z4,z3,z2,z1]++(markB rs1)) js (cS (L':=rdH l3 dm3 lp3 (([z3,z2,z1])++markB rs1)) ap (nx3 ((IntKind.wrap .i64 (tA+1)),hr3) _ _ ⟨hs7,(hl3.t hlr3)⟩ lf))
   obtain ⟨pv2e,hpv2e,rfl⟩:=lb hpv2
   have hs8:=hs6.trans (la hpv2e)
   exact uw (L':=[(l3,.loop { lp3 with state:=.busy }),z4]++(markB rs1)) js (pn3 _ _ _ [] ⟨_,U,hs8⟩)
  ·rintro dm3 ⟨tA,hh3⟩ hn3 ⟨hs9,hl3⟩ hln3 hl03
   exact cS (L':=[(b6,O [I tA] 3),z2,z1]++(markB (dm3::rs1))) ap (qT 3 U (ad (v':=I (((i1+1):Nat):Int)) U (aL ob) (qO 2 U (bU (L':=[z1]++(markB (dm3::rs1))) js (ag1 ((i1+1),(dm3::rs1),hn3,rz1) _ (Nat.lt_succ_self _) ⟨lL hd1,iY hd1,hs9,(((hl1.t hle3).t hl3).t hln3)⟩ rd)))))
  ·exact xf
  ·exact xf
  rintro dm3 ch hn3 L0 ⟨pv_,rfl,hpv_⟩ hl03
  exact md (dm3::rs1) FK hX (congrArg (exW stopV (fun r:Unit=>(.tuple #[]:Value))) hpv_)
 obtain ⟨pv1e,hpv1e,rfl⟩:=lb hpv1
 have hs10:=hs0.trans (la hpv1e)
 exact ja (md [] FK hX (congrArg (exW stopV (fun r:Unit=>(.tuple #[]:Value))) hs10))
end Go.Sg
namespace Go.Sg
open Go.Proofs Go.Proofs.Tryz
theorem ext282:Extern.find Tryz.f282=some Extern.BytealgIndexByte.indexByte:=by kernel_rfl
theorem ext282n:Extern.findNext Tryz.f282=none:=by kernel_rfl
theorem run282 (s:ByteArray) (c:Int) (w:World):(Extern.BytealgIndexByte.indexByte #[.string s,.int .u8 c]).run prog w=.ok (.int .i64 (idxByte s c)) w:=by
 show (do
  let b ← Extern.Bytes.bytesOf (.string s)
  let c ← Extern.Bytes.asByte (.int .u8 c)
  match (List.range b.size).find? fun i=>b[i]! == c with
  | some i=>pure (goInt i)
  | none=>pure (goInt (-1)):Sem Value).run prog w=_
 simp only [Extern.Bytes.bytesOf,Extern.Bytes.asByte,Sem.run_bind,Sem.run_pure,Result.andThen_ok,idxByte,goInt]
 cases hf:(List.range s.size).find? (fun i=>s[i]! == UInt8.ofNat c.toNat) with
 | none=>simp only [show c.toNat.toUInt8=UInt8.ofNat c.toNat from rfl,hf];simp
 | some i=>simp only [show c.toNat.toUInt8=UInt8.ofNat c.toNat from rfl,hf];simp
theorem call282 (s:ByteArray) (c:Int) (w:World):(callFunc 282 #[.string s,.int .u8 c]).run prog w=.ok (.value (.int .i64 (idxByte s c))) w:=by
 have hb:Tryz.f282.body.isNone=true:=by kernel_rfl
 have hn : (Tryz.f282.name == "runtime.NumGoroutine") = false := by kernel_rfl
 simp only [callFunc,Sem.run_bind,run_program,Result.andThen_ok,func282,hn,hb,ext282,ext282n]
 simp [run282]
theorem If {e:Env} {X:Cx} {h:HF} {L:LH} {d:Option Nat} {ty:TypeId} {pos:String} {af:Array Edge} {g:Option (Nat×Bool)} {x y:Operand} {ats:Array TypeId} {s:ByteArray} {c:Int} (hx:e.ev x=.string s) (hy:e.ev y=.int .u8 c):
  ∀ w,St X h L w→(execOp e.ev ⟨d,.call ⟨.value (.func 282),#[x,y],ats⟩,ty,pos,af,g⟩).run prog w=.ok (.value (.int .i64 (idxByte s c))) w:=
 fun w _=>by
  have hf:e.ev (.func 282)=.func (.func 282) #[] #[]:=rfl
  simp [execOp,resolve,hf,Deferred.ofValue,invoke,hx,hy,call282]
end Go.Sg
namespace Go.Sg
open Go.Proofs Go.Proofs.Tryz
set_option maxHeartbeats 2000000
theorem lS (h:HF) (x:Expr) (eL:cm) (hx:Expr.ok h x eL):Ret prog 220 [.agg (Expr.cells x eL).toArray] h (.bool (cC x)):=by
 refine sT func220 U ntmps220 U fun X hM hX hF=>?_
 have hs0:cC x=cC x:=rfl
 refine sr (cA (fun b1=>qL 8 [0] U (ce 4 [6,7,8,9,10] 6 10 (x.Kind==2) U (fun c1 hk1=>?_) (fun e=>?_))))
 ·exact qL 4 [0] U (hk1 _ U)
 exact an (nretP [.bool ((x.Kind==1)||(x.Kind==2))] (cs hs0))
theorem mE (h:HF) (s:ByteArray) (c:Int)  : Ret prog 281 [.string s,Y c] h (I (gf s c)):=by
 refine sT func281 U ntmps281 U fun X hM hX hF=>?_
 have hs0:gf s c=gf s c:=rfl
 exact sr (qO 6 U (aA (fu (If U U) (an (nretP [I (idxByte s c)] (ci hs0))))))
theorem rW (h:HF) (s:ByteArray) (c:Int)  : Ret prog 279 [.string s,Y c] h (I (strings_IndexByte s c)):=by
 refine sT func279 U ntmps279 U fun X hM hX hF=>?_
 have hs0:strings_IndexByte s c=strings_IndexByte s c:=rfl
 exact sr (qO 6 U (ah call281 (mE h s c) U (an (nretP [I (gf s c)] (ci hs0)))))
theorem vJ (h:HF) (c:Int)  : Ret prog 275 [Y c] h (I (iK c)):=by
 refine sT func275 U ntmps275 U fun X hM hX hF=>?_
 have hs0:iK c=iK c:=rfl
 refine qT 11 U (bx 3 [6,7,8,9] 6 9 (decide (c≤122)) U (fun c1 hk1=>?_) (fun e=>?_))
 ·exact aj (qO 2 U (hk1 _ U))
 refine aj (ce 7 [10,11,12,13,14,15,16,17] 10 17 (decide (65≤c)&&decide (c≤90)) U (fun c2 hk2=>?_) (fun e=>?_))
 ·refine qO 3 U (bx 3 [13,14,15,16] 13 16 (decide (c≤90)) U (fun c3 hk3=>?_) (fun e=>?_))
  ·exact aj (qO 2 U (hk3 _ U))
  exact dZ U (hk2 _ U)
 refine an (ac hs0 U (fun c4 hs1=>?_) (fun c4 hs2=>?_))
 ·exact sr (an (nretP [I 2] (ci hs1)))
 refine qT 5 U (bx 3 [21,22,23,24] 21 24 (decide (c≤57)) U (fun c5 hk4=>?_) (fun e=>?_))
 ·exact aj (qO 2 U (hk4 _ U))
 refine an (ac hs2 U (fun c6 hs4=>?_) (fun c6 hs5=>?_))
 ·exact sr (an (nretP [I 3] (ci hs4)))
 refine qT 6 U (ac hs5 U (fun c7 hs7=>?_) (fun c7 hs8=>?_))
 ·exact sr (an (nretP [I 5] (ci hs7)))
 refine qT 5 U (ce 3 [31,32,33,34] 31 34 (c==9) U (fun c8 hk5=>?_) (fun e=>?_))
 ·exact aj (qO 2 U (hk5 _ U))
 refine aj (ce 3 [35,36,37,38] 35 38 (c==10) U (fun c9 hk6=>?_) (fun e=>?_))
 ·exact aj (qO 2 U (hk6 _ U))
 refine aj (ce 3 [39,40,41,42] 39 42 (c==13) U (fun c10 hk7=>?_) (fun e=>?_))
 ·exact aj (qO 2 U (hk7 _ U))
 refine an (ac hs8 U (fun c11 hs10=>?_) (fun c11 hs11=>?_))
 ·exact sr (an (nretP [I 1] (ci hs10)))
 refine qT 3 U (ah call279 (rW h (⟨#[123,125,40,41,59,44,61,58,46,60,62,33,43,45,42,47]⟩:ByteArray) c) U (qO 3 U (ac hs11 U (fun c12 hs13=>?_) (fun c12 hs14=>?_))))
 ·have c12p:=of_decide_eq_true c12
  exact sr (an (nretP [I 4] (ci hs13)))
 have c12p:=of_decide_eq_false c12
 exact aE (qT 5 U (nretP [I 0] (ci hs14)))
theorem gA (h:HF) (s:ByteArray)  : Ret prog 265 [.string s] h (.bool (dc s)):=by
 refine sT func265 U ntmps265 U fun X hM hX hF=>?_
 have hs0:dc s=dc s:=rfl
 refine qT 10 U (ce 4 [7,8,9,10,11] 7 11 (decide (32 < (s.size:Int))) U (fun c1 hk1=>?_) (fun e=>?_))
 ·exact aj (aA (fu (wE vk U) (qO 2 U (hk1 _ U))))
 refine aj (ce 5 [12,13,14,15,16,17] 12 17 ((iK ((s.data.getD (0:Int).toNat 0).toNat:Int)) != 2) U (fun c2 hk2=>?_) (fun e=>?_))
 ·refine aj ?_
  have ho1:0≤(0:Int)∧(0:Int) < (s.size:Int):=(by have:=Jp (Bool.or_eq_false_iff.1 ob).1;omega)
  exact aA (fu (CG vk U U ho1) (ah call275 (vJ h ((s.data.getD (0:Int).toNat 0).toNat:Int)) U (qO 2 U (hk2 _ U))))
 refine aM (ac hs0 U (fun c3 hs1=>?_) (fun c3 hs2=>?_))
 ·exact sr (an (nretP [.bool false] (cs hs1)))
 refine qT 5 U (aA (fu (wE vk U) (qO 2 U ?_)))
 refine iH (ι:=Nat) (fun i=>[]) (fun i=>h) (fun i=>[]) (fun i=>i≤(List.range s.size).length∧dc s=((dc.K1))) ?_ (fun hx1=>?_)
 ·rintro i1 ⟨et,hs4⟩ e
  exact sr (an (nretP [.bool true] (cs hs4)))
 refine j5 (ι:=Nat×List Nat) (fun i=>[(0,.string s),(19,I (s.size:Int)),(20,I (i.1:Int))]) (fun i=>h) (fun i=>[]) (fun i=>(List.range s.size).drop i.1=i.2∧i.1≤(List.range s.size).length∧dc s=((dc.L1 s (dc.K1)) i.2 i.1)) (fun i=>i.2.length) (0,(List.range s.size)) rd sw ⟨U,Nat.zero_le _,hs2⟩ ?_
 rintro ⟨i1,s1⟩ ⟨hd1,et,hs6⟩ ag1 e
 rcases s1 with _ | ⟨y1,rz1⟩
 ·have eG:decide ((i1:Int) < (s.size:Int))=false:=by simpa using nN hd1
  exact sr (ad (v':=.bool false) U (cb eG) (qO 4 U (hx1 i1 _ ⟨et,hs6⟩ trivial)))
 have cw:decide ((i1:Int) < (s.size:Int))=true:=by simpa using uo hd1
 have dy:i1 < s.size:=by simpa using iY hd1
 refine sr (ad (v':=.bool true) U (cb cw) (qO 15 U ?_))
 have ho3:0≤((i1:Int):Int)∧((i1:Int):Int) < (s.size:Int):=ob
 refine aA (fu (CG vk U U ho3) (ah call275 (vJ h ((s.data.getD ((i1:Int):Int).toNat 0).toNat:Int)) U (qO 7 U (bx 3 [29,30,31,32] 29 32 ((iK ((s.data.getD ((i1:Int):Int).toNat 0).toNat:Int)) != 3) U (fun c4 hk3=>?_) (fun e=>?_)))))
 ·exact aj (qO 2 U (hk3 _ U))
 refine aj (bx 3 [33,34,35,36] 33 36 ((iK ((s.data.getD ((i1:Int):Int).toNat 0).toNat:Int)) != 5) U (fun c5 hk4=>?_) (fun e=>?_))
 ·exact aj (qO 2 U (hk4 _ U))
 refine aM (ac hs6 U (fun c6 hs8=>?_) (fun c6 hs9=>?_))
 ·exact sr (an (nretP [.bool false] (cs hs8)))
 exact aE (qT 2 U (ad (v':=I (((i1+1):Nat):Int)) U (aL ob) (qO 2 U (ag1 ((i1+1),rz1) _ (Nat.lt_succ_self _) ⟨lL hd1,iY hd1,hs9⟩ rd))))
theorem mr (h:HF) (s:ByteArray)  : Ret prog 244 [.string s] h (.bool (da s)):=by
 refine sT func244 U ntmps244 U fun X hM hX hF=>?_
 have hs0:da s=da s:=rfl
 refine qT 16 U (ac hs0 U (fun c1 hs1=>?_) (fun c1 hs2=>?_))
 ·refine aE (ac hs1 U (fun c2 hs3=>?_) (fun c2 hs4=>?_))
  ·exact sr (an (nretP [.bool false] (cs hs3)))
  exact aE (qT 4 U (ah ol (gA h s) U (an (nretP [.bool (dc s)] (cs hs4)))))
 refine qT 5 U (ac hs2 U (fun c3 hs7=>?_) (fun c3 hs8=>?_))
 ·refine aE (ac hs7 U (fun c4 hs9=>?_) (fun c4 hs10=>?_))
  ·exact sr (an (nretP [.bool false] (cs hs9)))
  exact aE (qT 4 U (ah ol (gA h s) U (an (nretP [.bool (dc s)] (cs hs10)))))
 refine qT 5 U (ac hs8 U (fun c5 hs13=>?_) (fun c5 hs14=>?_))
 ·refine aE (ac hs13 U (fun c6 hs15=>?_) (fun c6 hs16=>?_))
  ·exact sr (an (nretP [.bool false] (cs hs15)))
  exact aE (qT 4 U (ah ol (gA h s) U (an (nretP [.bool (dc s)] (cs hs16)))))
 refine qT 5 U (ac hs14 U (fun c7 hs19=>?_) (fun c7 hs20=>?_))
 ·refine aE (ac hs19 U (fun c8 hs21=>?_) (fun c8 hs22=>?_))
  ·exact sr (an (nretP [.bool false] (cs hs21)))
  exact aE (qT 4 U (ah ol (gA h s) U (an (nretP [.bool (dc s)] (cs hs22)))))
 refine qT 5 U (ac hs20 U (fun c9 hs25=>?_) (fun c9 hs26=>?_))
 ·refine aE (ac hs25 U (fun c10 hs27=>?_) (fun c10 hs28=>?_))
  ·exact sr (an (nretP [.bool false] (cs hs27)))
  exact aE (qT 4 U (ah ol (gA h s) U (an (nretP [.bool (dc s)] (cs hs28)))))
 refine qT 5 U (ac hs26 U (fun c11 hs31=>?_) (fun c11 hs32=>?_))
 ·refine aE (ac hs31 U (fun c12 hs33=>?_) (fun c12 hs34=>?_))
  ·exact sr (an (nretP [.bool false] (cs hs33)))
  exact aE (qT 4 U (ah ol (gA h s) U (an (nretP [.bool (dc s)] (cs hs34)))))
 refine qT 5 U (ac hs32 U (fun c13 hs37=>?_) (fun c13 hs38=>?_))
 ·refine aE (ac hs37 U (fun c14 hs39=>?_) (fun c14 hs40=>?_))
  ·exact sr (an (nretP [.bool false] (cs hs39)))
  exact aE (qT 4 U (ah ol (gA h s) U (an (nretP [.bool (dc s)] (cs hs40)))))
 refine qT 5 U (ac hs38 U (fun c15 hs43=>?_) (fun c15 hs44=>?_))
 ·refine aE (ac hs43 U (fun c16 hs45=>?_) (fun c16 hs46=>?_))
  ·exact sr (an (nretP [.bool false] (cs hs45)))
  exact aE (qT 4 U (ah ol (gA h s) U (an (nretP [.bool (dc s)] (cs hs46)))))
 refine qT 5 U (ac hs44 U (fun c17 hs49=>?_) (fun c17 hs50=>?_))
 ·refine aE (ac hs49 U (fun c18 hs51=>?_) (fun c18 hs52=>?_))
  ·exact sr (an (nretP [.bool false] (cs hs51)))
  exact aE (qT 4 U (ah ol (gA h s) U (an (nretP [.bool (dc s)] (cs hs52)))))
 refine qT 5 U (ac hs50 U (fun c19 hs55=>?_) (fun c19 hs56=>?_))
 ·refine aE (ac hs55 U (fun c20 hs57=>?_) (fun c20 hs58=>?_))
  ·exact sr (an (nretP [.bool false] (cs hs57)))
  exact aE (qT 4 U (ah ol (gA h s) U (an (nretP [.bool (dc s)] (cs hs58)))))
 refine qT 5 U (ac hs56 U (fun c21 hs61=>?_) (fun c21 hs62=>?_))
 ·refine aE (ac hs61 U (fun c22 hs63=>?_) (fun c22 hs64=>?_))
  ·exact sr (an (nretP [.bool false] (cs hs63)))
  exact aE (qT 4 U (ah ol (gA h s) U (an (nretP [.bool (dc s)] (cs hs64)))))
 refine qT 5 U (ac hs62 U (fun c23 hs67=>?_) (fun c23 hs68=>?_))
 ·refine aE (ac hs67 U (fun c24 hs69=>?_) (fun c24 hs70=>?_))
  ·exact sr (an (nretP [.bool false] (cs hs69)))
  exact aE (qT 4 U (ah ol (gA h s) U (an (nretP [.bool (dc s)] (cs hs70)))))
 refine qT 5 U (ac hs68 U (fun c25 hs73=>?_) (fun c25 hs74=>?_))
 ·refine aE (ac hs73 U (fun c26 hs75=>?_) (fun c26 hs76=>?_))
  ·exact sr (an (nretP [.bool false] (cs hs75)))
  exact aE (qT 4 U (ah ol (gA h s) U (an (nretP [.bool (dc s)] (cs hs76)))))
 refine qT 5 U (ac hs74 U (fun c27 hs79=>?_) (fun c27 hs80=>?_))
 ·refine aE (ac hs79 U (fun c28 hs81=>?_) (fun c28 hs82=>?_))
  ·exact sr (an (nretP [.bool false] (cs hs81)))
  exact aE (qT 4 U (ah ol (gA h s) U (an (nretP [.bool (dc s)] (cs hs82)))))
 refine qT 5 U (ac hs80 U (fun c29 hs85=>?_) (fun c29 hs86=>?_))
 ·refine aE (ac hs85 U (fun c30 hs87=>?_) (fun c30 hs88=>?_))
  ·exact sr (an (nretP [.bool false] (cs hs87)))
  exact aE (qT 4 U (ah ol (gA h s) U (an (nretP [.bool (dc s)] (cs hs88)))))
 refine qT 4 U (ac hs86 U (fun c31 hs91=>?_) (fun c31 hs92=>?_))
 ·exact sr (an (nretP [.bool false] (cs hs91)))
 exact aE (qT 4 U (ah ol (gA h s) U (an (nretP [.bool (dc s)] (cs hs92)))))
theorem jx (h:HF) (s:List ByteArray) (uc:Option Addr) (tb:Nat) (v:ByteArray) (hs:SlC Rp.str h uc tb s):Ret prog 221 [.slice uc s.length tb,.string v] h (I (aJ s v)):=by
 refine sT func221 U ntmps221 U fun X hM hX hF=>?_
 have hs0:aJ s v=aJ s v:=rfl
 refine qK 11 [] U ?_
 refine lp0 s (fun i=>[(0,.slice uc s.length tb),(1,.string v),(7,I (s.length:Int)),(8,I (i:Int))]) ([]) (fun s1 i=>(aJ.L1 v (aJ.K1)) s1 i) hs.1.1 hs0 ?_ ?_
 ·rintro i1 et hs1 e
  exact sr (an (nretP [I (-1)] (ci hs1)))
 rintro i1 y1 rz1 hd1 cw ao dy fB hs3 hx1 ag1 e
 refine sr (ad (v':=.bool true) U (cb cw) (qO 16 U (aA (ek (enc:=fun y=>[.string y]) ei pS ty9 hs.1 (nthZ ao) (au ao) U U U (fun q2 A2=>cK ty9 A2 U (qO 2 U (ac hs3 U (fun c2 hs4=>?_) (fun c2 hs5=>?_))))))))
 ·exact sr (qO 3 U (nretP [I (i1:Int)] (ci hs4)))
 exact aE (qT 2 U (ad (v':=I (((i1+1):Nat):Int)) U (aL ob) (qO 2 U (ag1 hs5))))
theorem kY (h:HF) (l:List ByteArray) (ey:Option Addr) (ew:Nat) (ok:(ByteArray→Bool)) (ok_v:Value) (hl:SlC Rp.str h ey ew l) (hok:∀ (h':HF) (ed:ByteArray),HF.le h h'→w5 prog ok_v [.string ed] h' [] (.bool (ok ed))):Ret prog 245 [.slice ey l.length ew,ok_v] h (.bool (bo l ok)):=by
 refine sT func245 U ntmps245 U fun X hM hX hF=>?_
 have hs0:bo l ok=bo l ok:=rfl
 refine qK 11 [] U ?_
 refine lp0 l (fun i=>[(0,.slice ey l.length ew),(1,ok_v),(7,.slice ey l.length ew),(8,I (l.length:Int)),(9,I (i:Int))]) ([]) (fun s1 i=>(bo.L1 l ok (bo.K1)) s1 i) hl.1.1 hs0 ?_ ?_
 ·rintro i1 et hs1 e
  exact sr (an (nretP [.bool true] (cs hs1)))
 rintro i1 y1 rz1 hd1 cw ao dy fB hs3 hx1 ag1 e
 refine sr (ad (v':=.bool true) U (cb cw) (qO 9 U (aA (ek (enc:=fun y=>[.string y]) ei pS ty9 hl.1 (nthZ ao) (au ao) U U U (fun q2 A2=>cK ty9 A2 U (qO 7 U (aA (nU (v:=.bool (ok y1)) [] (List.nil_sublist _) (hok h y1 lf) U U (qO 2 U (ce 6 [18,19,20,21,22,23,24] 18 24 ((aJ l y1) != (i1:Int)) U (fun c1 hk1=>?_) (fun e=>?_)))))))))))
 ·exact aj (aj (ah HM (jx _ _ _ _ y1 hl) U (qO 3 U (hk1 _ U))))
 refine aM (ac hs3 U (fun c2 hs4=>?_) (fun c2 hs5=>?_))
 ·exact sr (an (nretP [.bool false] (cs hs4)))
 exact aE (qT 2 U (ad (v':=I (((i1+1):Nat):Int)) U (aL ob) (qO 2 U (ag1 hs5))))
theorem pd (h:HF) (s:List ByteArray) (uc:Option Addr) (tb:Nat) (v:ByteArray) (hs:SlC Rp.str h uc tb s):Ret prog 246 [.slice uc s.length tb,.string v] h (.bool (cr s v)):=by
 refine sT func246 U ntmps246 U fun X hM hX hF=>?_
 have hs0:cr s v=cr s v:=rfl
 exact sr (qO 6 U (ah HM (jx _ _ _ _ v hs) U (qO 3 U (nretP [.bool (decide (0≤(aJ s v)))] (cs hs0)))))
theorem vE (h:HF) (p:Policy) (gp:dS) (hp:Policy.ok h p gp) (hsm:smP p):Hm prog 216 [.agg (Policy.cells p gp).toArray] h (exW stopV (fun r:Unit=>(.tuple #[]:Value)) (bX p)):=by
 refine cU FJ U ntmps216 U fun X hM hX=>?_
 have hs0:bX p=bX p:=rfl
 have hsr:=hsm.rules
 refine sr (cA (fun b1=>qL 5 [0] U (ah call244 (mr h p.Name) U (aj (bx 4 [8,9,10,11,12] 8 12 (bo p.Offices da) U (fun c1 hk1=>?_) (fun e=>?_))))))
 ·exact qL 2 [0] U (ah call245 (kY _ _ _ _ da (.func (.func 244) #[] #[]) hp.Offices (fun h' ed hle =>i0 call244 (mr h' ed))) U (dZ U (hk1 _ U)))
 refine aj (bx 4 [13,14,15,16,17] 13 17 (bo p.Kinds da) U (fun c2 hk2=>?_) (fun e=>?_))
 ·exact qL 2 [0] U (ah call245 (kY _ _ _ _ da (.func (.func 244) #[] #[]) hp.Kinds (fun h' ed hle =>i0 call244 (mr h' ed))) U (dZ U (hk2 _ U)))
 refine aA (kW ub (fZ h (((da p.Name)&&(bo p.Offices da))&&(bo p.Kinds da)) 201) U (fun u1 hu1=>?_) (fun pv1 hpv1 e=>?_))
 ·obtain ⟨rx1,hrx1,rfl⟩:=mU hu1
  have hs1:=hs0.trans (mT hrx1)
  cases rx1
  refine qO 3 U (cJ 0 ty68 U U U (aA (cf call243 (kl _ _ _ hp ob) U (fun v1 h1 hle1 hp1=>?_))))
  obtain ⟨rb1,rc1,rfl,sl1⟩:=hp1
  refine qL 3 [] U (gk ?_)
  let z1:Nat×Obj:=(b1,O (Policy.cells p gp) 68)
  refine cS (L':=[z1]++(markB [])) ap ?_
  refine qs (ι:=Nat×List Nat×HF) (fun i=>[]) (fun i=>marks i.2.1) (fun i=>i.2.2) (fun i=>[z1]++(markB i.2.1)) (fun i=>i.1≤(ai p).length∧bX p=((bX.K1))∧HF.le h1 i.2.2) ?_ (fun hx1=>?_)
  ·rintro ⟨i1,rs1,hh1⟩ ⟨et,hs2,hl1⟩ e
   have hs3:bX p=(Except.ok ()):=hs2
   exact cS (L':=([z1])++markB rs1) ap (vo rs1 [] FJ U hX trivial (congrArg (exW stopV (fun r:Unit=>(.tuple #[]:Value))) hs3))
  refine vn (ι:=Nat×List Nat×HF×List Expr) (fun i=>[(1,Q b1),(20,.slice rb1 ((ai p).length) rc1),(21,I ((ai p).length:Int)),(22,I (i.1:Int))]) (fun i=>marks i.2.1) (fun i=>i.2.2.1) (fun i=>[z1]++(markB i.2.1)) (fun i=>(ai p).drop i.1=i.2.2.2∧i.1≤(ai p).length∧bX p=((bX.L1 p (bX.K1)) i.2.2.2)∧HF.le h1 i.2.2.1) (fun i=>i.2.2.2.length) (0,[],h1,(ai p)) U rd sw ⟨U,Nat.zero_le _,hs1,lf⟩ ?_
  rintro ⟨i1,rs1,hh1,s1⟩ ⟨hd1,et,hs4,hl1⟩ ag1 e
  rcases s1 with _ | ⟨y1,rz1⟩
  ·have eG:=nN hd1
   exact sr (ad (v':=.bool false) U (cb eG) (qO 4 U (hx1 (i1,rs1,hh1) _ ⟨et,hs4,hl1⟩ trivial)))
  have cw:=uo hd1
  have ao:=u0 hd1
  have dy:=iY hd1
  have fB:=sl1.1.1
  try have hsy:=vW hsm (fq hd1)
  refine sr (ad (v':=.bool true) U (cb cw) (qO 8 U (aA (dV jh ty66 (sl1.mono Expr.ak hl1).1 (nthZ ao) (au ao) U U U (fun _ _ _ e=>e) (fun q2 r2 A2 ok2=>de ty66 A2 U U (bH zc66 (fun b4=>bE 0 ty66 U U U U U U (qO 3 U (cJ 0 ty66 U U U (aA (cf FL (kX _ _ _ 1 ok2 ob) U (fun v3 h3 hle3 hp3=>?_))))))))))))
  obtain ⟨_,rfl,mo2⟩:=hp3
  refine qO 2 U ?_
  let z2:Nat×Obj:=(b4,O (Expr.cells y1 r2) 66)
  refine cS (L':=([z2,z1])++markB rs1) ap ?_
  refine kd (it:=v3) (xs:=(a8 y1 1)) (ι:=HF) rs1 (fun i=>i) (fun i=>[z2,z1]) (fun s i=>bX p=((bX.L3 p ((bX.L1 p (bX.K1) rz1))) s)∧HF.le h3 i) (fun _=>False) (fun _=>False) 0 (fun ch _ _=>∃ pv_,ch=[{ v:=stopV pv_,recovered:=false }]∧bX p=.error pv_) h3 FJ U mo2 U lZ (fun _ _ _ _ _ hq=>hq) U (show [z2,z1]=_ from U) ⟨hs4,lf⟩ ?_ ?_ ?_ ?_ ?_
  ·rintro l3 dm3 lp3 y3 rz3 vs3 hh3 hr3 X hFR3 ⟨hs6,hl3⟩ hl03 hlr3 hv3 hX hXM hlp3 nx3 rt3 ex3 pn3
   obtain ⟨rr3_0,rfl,ok3_0⟩:=hv3
   let z3:Nat×Obj:=(dm3,.deferred (some []))
   refine cS (L':=[(l3,.loop lp3),z3,z2,z1]++(markB rs1)) ap (bn (bH zc258 (fun b6=>bE 0 ty258 U U U U U U (aM (kg 1 U hlp3 (qK 3 [] U (cJ 0 ty66 U U U (ah call220 (lS _ _ _ ok3_0.x) U (qO 2 U (ce 7 [33,34,35,36,37,38,39,40] 33 40 (cr p.Offices y3.x.Name) U (fun c3 hk3=>?_) (fun e=>?_)))))))))))
   ·exact qL 5 [4,0] U (ah call246 (pd _ _ _ _ y3.x.Name (hp.Offices.mono Rp.gl ((((hle1.t hl1).t hle3).t hl3).t hlr3))) U (dZ U (hk3 _ U)))
   refine aA (kW ub (fZ hr3 ((!(cC y3.x))||(cr p.Offices y3.x.Name)) 201) U (fun u2 hu2=>?_) (fun pv2 hpv2 e=>?_))
   ·obtain ⟨rx2,hrx2,rfl⟩:=mU hu2
    have hs7:=hs6.trans (mT hrx2)
    cases rx2
    exact aM (dY (bU (L':=[(l3,.loop { lp3 with state:=.busy }),z3,z2,z1]++(markB rs1)) js (cS (L':=rdH l3 dm3 lp3 (([z2,z1])++markB rs1)) ap (nx3 hr3 _ _ ⟨hs7,(hl3.t hlr3)⟩ lf))))
   obtain ⟨pv2e,hpv2e,rfl⟩:=lb hpv2
   have hs8:=hs6.trans (la hpv2e)
   exact uw (L':=[(l3,.loop { lp3 with state:=.busy }),z3]++(markB rs1)) js (pn3 _ _ _ [] ⟨_,U,hs8⟩)
  ·rintro dm3 hh3 hn3 ⟨hs9,hl3⟩ hln3 hl03
   exact cS (L':=[z2,z1]++(markB (dm3::rs1))) ap (qT 3 U (ad (v':=I (((i1+1):Nat):Int)) U (aL ob) (qO 2 U (bU (L':=[z1]++(markB (dm3::rs1))) js (ag1 ((i1+1),(dm3::rs1),hn3,rz1) _ (Nat.lt_succ_self _) ⟨lL hd1,iY hd1,hs9,(((hl1.t hle3).t hl3).t hln3)⟩ rd)))))
  ·exact xf
  ·exact xf
  rintro dm3 ch hn3 L0 ⟨pv_,rfl,hpv_⟩ hl03
  exact md (dm3::rs1) FJ hX (congrArg (exW stopV (fun r:Unit=>(.tuple #[]:Value))) hpv_)
 obtain ⟨pv1e,hpv1e,rfl⟩:=lb hpv1
 have hs10:=hs0.trans (la hpv1e)
 exact ja (md [] FJ hX (congrArg (exW stopV (fun r:Unit=>(.tuple #[]:Value))) hs10))
theorem fK (h:HF) (dG:Int) (low:Int) (high:Int)  : Ret prog 103 [I dG,I low,I high] h (.bool (aH dG low high)):=by
 refine sT func103 U ntmps103 U fun X hM hX hF=>?_
 have hs0:aH dG low high=aH dG low high:=rfl
 refine qT 10 U (bx 4 [10,11,12,13,14] 10 14 (decide (dG≤high)) U (fun c1 hk1=>?_) (fun e=>?_))
 ·exact aj (qO 3 U (hk1 _ U))
 exact an (nretP [.bool (decide (low≤dG)&&decide (dG≤high))] (cs hs0))
theorem GJ {n a b:Int} (h:aH n a b=true):a≤n∧n≤b:=by simpa [aH] using h
theorem tP (h:HF) (x0:Expr) (KU:cm) (hx0:Expr.ok h x0 KU):Ret prog 299 [.agg (Expr.cells x0 KU).toArray] h (.bool (lI x0)):=by
 refine sT func299 U ntmps299 U fun X hM hX hF=>?_
 have hs0:lI x0=lI x0:=rfl
 exact sr (cA (fun b1=>qO 6 U (nretP [.bool false] (cs hs0))))
theorem tO (h:HF) (x:Expr) (eL:cm) (hx:Expr.ok h x eL):Ret prog 300 [.agg (Expr.cells x eL).toArray] h (.bool (io x)):=by
 refine sT func300 U ntmps300 U fun X hM hX hF=>?_
 have hs0:io x=io x:=rfl
 refine sr (cA (fun b1=>qL 8 [0] U (bx 5 [6,7,8,9,10,11] 6 11 ((x.L.length:Int)==0) U (fun c1 hk1=>?_) (fun e=>?_))))
 ·exact qL 5 [0] U (hk1 _ U)
 exact an (nretP [.bool ((x.N==0)&&((x.L.length:Int)==0))] (cs hs0))
theorem tN (h:HF) (x:Expr) (eL:cm) (hx:Expr.ok h x eL):Ret prog 301 [.agg (Expr.cells x eL).toArray] h (.bool (im x)):=by
 refine sT func301 U ntmps301 U fun X hM hX hF=>?_
 have hs0:im x=im x:=rfl
 refine sr (cA (fun b1=>qL 6 [0] U (ah vj (fK h x.N 1 4096) U (aj (bx 5 [6,7,8,9,10,11] 6 11 ((x.L.length:Int)==0) U (fun c1 hk1=>?_) (fun e=>?_))))))
 ·exact qL 5 [0] U (hk1 _ U)
 exact an (nretP [.bool ((aH x.N 1 4096)&&((x.L.length:Int)==0))] (cs hs0))
theorem tM (h:HF) (x:Expr) (eL:cm) (hx:Expr.ok h x eL):Ret prog 302 [.agg (Expr.cells x eL).toArray] h (.bool (il x)):=by
 refine sT func302 U ntmps302 U fun X hM hX hF=>?_
 have hs0:il x=il x:=rfl
 refine sr (cA (fun b1=>qL 8 [0] U (bx 5 [6,7,8,9,10,11] 6 11 (aH (x.L.length:Int) 1 16) U (fun c1 hk1=>?_) (fun e=>?_))))
 ·exact qL 3 [0] U (ah vj (fK h (x.L.length:Int) 1 16) U (dZ U (hk1 _ U)))
 refine aj (bx 7 [12,13,14,15,16,17,18,19] 12 19 (aH x.N 1 (x.L.length:Int)) U (fun c2 hk2=>?_) (fun e=>?_))
 ·exact qL 5 [0,0] U (ah vj (fK h x.N 1 (x.L.length:Int)) U (dZ U (hk2 _ U)))
 exact an (nretP [.bool (((x.Name.toList==(⟨#[]⟩:ByteArray).toList)&&(aH (x.L.length:Int) 1 16))&&(aH x.N 1 (x.L.length:Int)))] (cs hs0))
theorem tL (h:HF) (x:Expr) (eL:cm) (hx:Expr.ok h x eL):Ret prog 303 [.agg (Expr.cells x eL).toArray] h (.bool (gP x)):=by
 refine sT func303 U ntmps303 U fun X hM hX hF=>?_
 have hs0:gP x=gP x:=rfl
 refine sr (cA (fun b1=>qL 8 [0] U (bx 5 [6,7,8,9,10,11] 6 11 ((x.L.length:Int)==2) U (fun c1 hk1=>?_) (fun e=>?_))))
 ·exact qL 5 [0] U (hk1 _ U)
 refine aj (bx 4 [12,13,14,15,16] 12 16 (aH x.N 0 1099511627776) U (fun c2 hk2=>?_) (fun e=>?_))
 ·exact qL 2 [0] U (ah vj (fK h x.N 0 1099511627776) U (dZ U (hk2 _ U)))
 exact an (nretP [.bool (((x.Name.toList==(⟨#[]⟩:ByteArray).toList)&&((x.L.length:Int)==2))&&(aH x.N 0 1099511627776))] (cs hs0))
theorem Fl (h:HF) (i:Int) (hi:0≤i∧i < 5) (x:Expr) (eL:cm) (hx:Expr.ok h x eL):w5 prog (kfun i) [.agg (Expr.cells x eL).toArray] h [] (.bool (kindsP i x)):=by
 have:i=0∨i=1∨i=2∨i=3∨i=4:=by omega
 rcases this with rfl | rfl | rfl | rfl | rfl
 ·exact i0 (cap:=[]) call299 (tP h x eL hx)
 ·exact i0 (cap:=[]) call300 (tO h x eL hx)
 ·exact i0 (cap:=[]) call301 (tN h x eL hx)
 ·exact i0 (cap:=[]) call302 (tM h x eL hx)
 exact i0 (cap:=[]) call303 (tL h x eL hx)
end Go.Sg
namespace Go.Sg
open Go.Proofs Go.Proofs.Tryz
section runs
variable {P:Program} {e:Env} {X:Cx} {h:HF} {L:LH} {d:Option Nat} {ty:TypeId} {pos:String} {af:Array Edge} {g:Option (Nat×Bool)}
theorem Jz {t u:TypeId} {x:Operand} (hT:∃ ms,P.underlying t=some (.interface ms)) (hx:e.ev x=.nilIface):∀ w,St X h L w→(execOp e.ev ⟨d,.binOp .neq t x (.const .nilIface) u,ty,pos,af,g⟩).run P w=.ok (.value (.bool false)) w:=
 fun w _=>by
  obtain ⟨ms,hT⟩:=hT
  have hc:e.ev (.const .nilIface)=.nilIface:=rfl
  have he:(Op.equal t .nilIface .nilIface).run P w=.ok true w:=by
   rw [Op.equal,Op.maxDepth,show (10000:Nat)=9999+1 from rfl,Op.equalIn];simp [run_underlying hT]
  simp [execOp,hx,hc,eqGuard,binOp,he]
theorem Jy {t u:TypeId} {x:Operand} {T:TypeId} {v:Value} (hT:∃ ms,P.underlying t=some (.interface ms)) (hx:e.ev x=.iface T v):∀ w,St X h L w→(execOp e.ev ⟨d,.binOp .neq t x (.const .nilIface) u,ty,pos,af,g⟩).run P w=.ok (.value (.bool true)) w:=
 fun w _=>by
  obtain ⟨ms,hT⟩:=hT
  have hc:e.ev (.const .nilIface)=.nilIface:=rfl
  have he:(Op.equal t (.iface T v) .nilIface).run P w=.ok false w:=by
   rw [Op.equal,Op.maxDepth,show (10000:Nat)=9999+1 from rfl,Op.equalIn];simp [run_underlying hT]
  simp [execOp,hx,hc,eqGuard,binOp,he]
theorem GS {x:Operand} {xt T:TypeId} {fs:Array Field} {v:Value} (hT:P.underlying T=some (.struct fs)) (hx:e.ev x=.iface T v):∀ w,St X h L w→(execOp e.ev ⟨d,.typeAssert x xt T true,ty,pos,af,g⟩).run P w=.ok (.value (.tuple #[v,.bool true])) w:=
 fun w _=>by simp [execOp,hx,Instr.typeAssert,run_underlying hT]
end runs
def bodyOf (f:Func):Code:=f.body.getD .skip
theorem E9 {P:Program} {e:Env} {d:Option Nat} {ty:TypeId} {pos:String} {af:Array Edge} {g:Option (Nat×Bool)} {t:Nat} {fv:Value} {ats:Array TypeId} (hf:e t=fv) (w:World):
  (execOp e.ev ⟨d,.call ⟨.value (.tmp t),#[],ats⟩,ty,pos,af,g⟩).run P w=(do let d ← Deferred.ofValue fv #[];invoke d.target d.args:Sem Next).run P w:=by
 subst hf;simp [execOp,resolve,Env.ev]
theorem Bh (h:HF) (b1:Nat) (X':Cx):TT prog (deferFrame 241) 17 [.code (bodyOf Tryz.f241)] (Ho prog X' .returning (fun h' B=>h'=h∧B=[(b1,Obj.cells (List.toArray [.int .i64 0]) 35 (0,0))])) (envArgs [.pointer (some ⟨b1,0,none⟩)]) [] X' h [(b1,Obj.cells (List.toArray [.int .i64 0]) 35 (0,0))]:=by
 refine dz (bn (?_))
 refine Ds (fun cs Φ ⟨c,rest,hcs,hm,_⟩=>by subst hcs;simp [recoverD,hm]) ?_
 refine fg (aM (dz (bn (aj (aA (fu (Jz ⟨_,underlying20⟩ rfl) (aM (?_))))))))
 exact lh rfl (aE (HV HL rfl ⟨rfl,rfl⟩))
theorem Bi (h:HF) (b1:Nat) (ee:Int) (X':Cx):TT prog (deferFrame 241) 17 [.code (bodyOf Tryz.f241)]
  (fun cs Φ=>∃ c rest,cs=c::rest∧c.mode=.panicking [{ v:=stopV ee,recovered:=false }]∧Ho prog X' (.panicking [{ v:=stopV ee,recovered:=true }]) (fun h' B=>h'=h∧∃ B0,B=B0++[(b1,Obj.cells (List.toArray [.int .i64 ee]) 35 (0,0))]) ({ c with mode:=(.panicking [{ v:=stopV ee,recovered:=true }]) }::rest) Φ)
  (envArgs [.pointer (some ⟨b1,0,none⟩)]) [] X' h [(b1,Obj.cells (List.toArray [.int .i64 0]) 35 (0,0))]:=by
 refine dz (bn (?_))
 refine E3 (F':=Ho prog X' (.panicking [{ v:=stopV ee,recovered:=true }]) (fun h' B=>h'=h∧∃ B0,B=B0++[(b1,Obj.cells (List.toArray [.int .i64 ee]) 35 (0,0))])) (stopV ee) (fun cs Φ ⟨c,rest,hcs,hm,hF⟩=>⟨_,by subst hcs;simp [recoverD,hm],hF⟩) ?_
 refine fg (aM (dz (bn (aj (aA (fu (Jy ⟨_,underlying20⟩ rfl) (aM (?_))))))))
 refine lV rfl (dz (bn (aj (aA (fu (GS underlying277 rfl) (aj (km rfl rfl (km rfl rfl (bH zc277 (fun b2=>?_))))))))))
 refine bE 0 ty277 rfl rfl rfl rfl rfl rfl (fg (aM (?_)))
 refine dz (dz (bn (aj (lY rfl (aM (?_))))))
 refine lh rfl (aE (?_))
 refine bn (Io IX rfl (?_))
 refine D3 0 ty35 rfl rfl rfl (?_)
 refine dw 1 ty35 rfl rfl rfl rfl rfl rfl (aM (?_))
 exact HV HL rfl ⟨rfl,[(b2,_)],rfl⟩
theorem tQ (h:HF) (fv:Value) (x:Except Int Unit) (hf:ld prog fv #[] h [] (XR (exW stopV (fun _:Unit=>.tuple #[]) x) h)):Ret prog 213 [fv] h (.int .i64 (attR x)):=by
 refine cU func213 rfl ntmps213 rfl fun X hM hX=>?_
 refine dz (bn (bH zc35 (fun b1=>aM (dz (bn (aA (fX rfl rfl (HU rfl rfl (aM (dz (bn (aj (?_)))))))))))))
 have fin:∀ (r:Int) (B:LH),attR x=r→(∃ B0,B=B0++[(b1,Obj.cells (List.toArray [.int .i64 r]) 35 (0,0))])→∀ (e:Env),e 2=.pointer (some ⟨b1,0,none⟩)→∀ a:Act,envOf a=e→∀ w,St X h (B++[]) w →
   ∃ v h2 B2,(results Tryz.f213 a.tmps).run prog w=.ok v w∧St X h2 B2 w∧v=.int .i64 (attR x)∧h2=h∧B2=[]:=by
  rintro r B hr ⟨B0,rfl⟩ e he a ha w hw
  have hw':=hw.sub (L':=[(b1,Obj.cells (List.toArray [.int .i64 r]) 35 (0,0))]) (by simp)
  exact ⟨_,h,[],qG (rs:=[.cell 2 35]) (vs:=[.int .i64 r]) rfl ⟨⟨0,b1,[.int .i64 r],35,(0,0),rfl,he,.inr ⟨_,ty35,rfl⟩⟩,trivial⟩ a ha w hw',hw'.sub (List.nil_sublist _),by rw [hr];rfl,rfl,rfl⟩
 refine F0 rfl (by decide) rfl rfl (fun w hw=>?_)
 have hpre:Pre h [] w:=(hw.sub (List.nil_sublist _)).pre
 obtain ⟨nx,hrun,hcall⟩:=hf w hpre
 refine ⟨nx,w,?_,hcall.mono ?_⟩
 ·rw [← hrun];exact E9 rfl w
 rintro y w' ⟨h',B,hst,rfl,rfl,hv⟩
 have hw2:=St.after (A:=[]) (B:=[]) (F:=[(b1,Obj.cells (List.toArray [.int .i64 0]) 35 (0,0))]) hw hst
 cases y with
 | outgrown=>trivial
 | returned v=>
  refine ⟨h',_,hw2,?_⟩
  have hx:∃ u,x=.ok u:=by cases x with
   | ok u=>exact ⟨u,rfl⟩
   | error p=>simp [exW] at hv
  obtain ⟨u,rfl⟩:=hx
  refine aM (dz (bn (dw 0 ty35 rfl rfl rfl rfl rfl rfl (aM (?_)))))
  refine Ji (c:=bodyOf Tryz.f241) (cap:=[.pointer (some ⟨b1,0,none⟩)]) (A:=[(b1,Obj.cells (List.toArray [.int .i64 0]) 35 (0,0))]) (R':=fun h'' B=>h''=h'∧B=[(b1,Obj.cells (List.toArray [.int .i64 0]) 35 (0,0))]) func213 HL rfl ntmps241 rfl call241 (fun X' _=>Bh h' b1 X') (Fr:=[]) rfl ?_
  rintro h'' B _ ⟨rfl,rfl⟩ a ha w hw
  obtain ⟨v,h2,B2,h3,h4,rfl,rfl,rfl⟩:=fin 0 _ rfl ⟨[],rfl⟩ _ rfl a ha w hw
  exact ⟨_,_,_,h3,h4,rfl,rfl,rfl⟩
 | panicked ch=>
  refine ⟨h',_,hw2,?_⟩
  have hx:∃ ee,x=.error ee:=by cases x with
   | ok u=>simp [exW] at hv
   | error p=>exact ⟨p,rfl⟩
  obtain ⟨ee,rfl⟩:=hx
  simp only [exW] at hv
  cases hv
  refine Jm (c:=bodyOf Tryz.f241) (cap:=[.pointer (some ⟨b1,0,none⟩)]) (A:=[(b1,Obj.cells (List.toArray [.int .i64 0]) 35 (0,0))]) (R':=fun h'' B=>h''=h'∧∃ B0,B=B0++[(b1,Obj.cells (List.toArray [.int .i64 ee]) 35 (0,0))]) func213 HL rfl ntmps241 rfl call241 (fun X' _=>Bi h' b1 ee X') (Fr:=[]) rfl ?_
  rintro h'' B _ ⟨rfl,hB⟩ a ha w hw
  obtain ⟨v,h2,B2,h3,h4,rfl,rfl,rfl⟩:=fin ee _ rfl hB _ rfl a ha w hw
  exact ⟨_,_,_,h3,h4,rfl,rfl,rfl⟩
end Go.Sg
namespace Go.Sg
open Go.Proofs Go.Proofs.Tryz
set_option maxHeartbeats 2000000
theorem wG (h:HF) (p:Policy) (gp:dS) (hp:Policy.ok h p gp) (hsm:smP p) (hk:Kinds h):Hm prog 217 [.agg (Policy.cells p gp).toArray] h (exW stopV (fun r:Unit=>(.tuple #[]:Value)) (aZ p)):=by
 refine cU Bq U ntmps217 U fun X hM hX=>?_
 have hs0:aZ p=aZ p:=rfl
 have hsr:=hsm.rules
 refine sr (cA (fun b1=>qL 8 [0] U (bx 8 [12,13,14,15,16,17,18,19,20] 12 20 ((p.Rules.length:Int)==(p.Kinds.length:Int)) U (fun c1 hk1=>?_) (fun e=>?_))))
 ·exact qL 8 [0,0] U (hk1 _ U)
 refine aj (bx 4 [21,22,23,24,25] 21 25 (aH p.Mode 1 4) U (fun c2 hk2=>?_) (fun e=>?_))
 ·exact qL 2 [0] U (ah vj (fK h p.Mode 1 4) U (dZ U (hk2 _ U)))
 refine aA (kW ub (fZ h ((decide (0 < (p.Kinds.length:Int))&&((p.Rules.length:Int)==(p.Kinds.length:Int)))&&(aH p.Mode 1 4)) 200) U (fun u1 hu1=>?_) (fun pv1 hpv1 e=>?_))
 ·obtain ⟨rx1,hrx1,rfl⟩:=mU hu1
  have hs1:=hs0.trans (mT hrx1)
  cases rx1
  refine qL 9 [0] U ?_
  let z2:Nat×Obj:=(b1,O (Policy.cells p gp) 68)
  refine lp0 p.Rules (fun i=>[(1,Q b1),(28,.slice gp.kc p.Rules.length gp.kb),(29,I (p.Rules.length:Int)),(30,I (i:Int))]) ([z2]) (fun s1 i=>(aZ.L1 p (aZ.K1 p)) s1 i) hp.Rules.1.1 hs1 ?_ ?_
  ·rintro i1 et hs2 e
   refine sr (cJ 0 ty68 U U U (aA (cf call243 (kl _ _ _ hp ob) U (fun v1 h1 hle1 hp1=>?_))))
   obtain ⟨rb1,rc1,rfl,sl1⟩:=hp1
   refine bH zc64 (fun b3=>dw 0 ty64 U U U U U U (qL 7 [0] U (gk ?_)))
   let z1:Nat×Obj:=(b3,O [.slice rb1 ((ai p).length) rc1] 64)
   refine cS (L':=[z1,z2]++(markB [])) ap ?_
   refine qs (ι:=Nat×List Nat×HF) (fun i=>[]) (fun i=>marks i.2.1) (fun i=>i.2.2) (fun i=>[z1,z2]++(markB i.2.1)) (fun i=>i.1≤(ai p).length∧aZ p=((aZ.K2))∧HF.le h1 i.2.2) ?_ (fun hx2=>?_)
   ·rintro ⟨i2,rs2,hh2⟩ ⟨sK,hs3,hl2⟩ e
    have hs4:aZ p=(Except.ok ()):=hs3
    exact cS (L':=([z1,z2])++markB rs2) ap (vo rs2 [] Bq U hX trivial (congrArg (exW stopV (fun r:Unit=>(.tuple #[]:Value))) hs4))
   refine vn (ι:=Nat×List Nat×HF×List Expr) (fun i=>[(4,Q b3),(52,.slice rb1 ((ai p).length) rc1),(53,I ((ai p).length:Int)),(54,I (i.1:Int))]) (fun i=>marks i.2.1) (fun i=>i.2.2.1) (fun i=>[z1,z2]++(markB i.2.1)) (fun i=>(ai p).drop i.1=i.2.2.2∧i.1≤(ai p).length∧aZ p=((aZ.L2 p (aZ.K2)) i.2.2.2 i.1)∧HF.le h1 i.2.2.1) (fun i=>i.2.2.2.length) (0,[],h1,(ai p)) U rd sw ⟨U,Nat.zero_le _,hs2,lf⟩ ?_
   rintro ⟨i2,rs2,hh2,s2⟩ ⟨hd2,sK,hs5,hl2⟩ ag1 e
   rcases s2 with _ | ⟨y2,rz2⟩
   ·have Bc:=nN hd2
    exact sr (ad (v':=.bool false) U (cb Bc) (qO 4 U (hx2 (i2,rs2,hh2) _ ⟨sK,hs5,hl2⟩ trivial)))
   have oI:=uo hd2
   have jJ:=u0 hd2
   have vM:=iY hd2
   have Ew:=sl1.1.1
   try have hsy:=vW hsm (fq hd2)
   refine sr (ad (v':=.bool true) U (cb oI) (qO 9 U (aA (dV jh ty66 (sl1.mono Expr.ak hl2).1 (nthZ jJ) (au jJ) U U U (fun _ _ _ e=>e) (fun q4 r3 A5 ok3=>de ty66 A5 U U (bH zc3 (fun b7=>bH zc66 (fun b8=>dw 1 ty3 U U U U U U (bE 0 ty66 U U U U U U (qO 3 U (cJ 0 ty66 U U U (aA (cf FL (kX _ _ _ 1 ok3 ob) U (fun v3 h3 hle3 hp3=>?_))))))))))))))
   obtain ⟨_,rfl,mo2⟩:=hp3
   refine qO 2 U ?_
   let z3:Nat×Obj:=(b7,O [I (i2:Int)] 3)
   let z5:Nat×Obj:=(b8,O (Expr.cells y2 r3) 66)
   refine cS (L':=([z5,z3,z1,z2])++markB rs2) ap ?_
   refine kd (it:=v3) (xs:=(a8 y2 1)) (ι:=HF) rs2 (fun i=>i) (fun i=>[z5,z3,z1,z2]) (fun s i=>aZ p=((aZ.L4 p i2 ((aZ.L2 p (aZ.K2) rz2 (i2+1)))) s)∧HF.le h3 i) (fun _=>False) (fun _=>False) 0 (fun ch _ _=>∃ pv_,ch=[{ v:=stopV pv_,recovered:=false }]∧aZ p=.error pv_) h3 Bq U mo2 U lZ (fun _ _ _ _ _ hq=>hq) U (show [z5,z3,z1,z2]=_ from U) ⟨hs5,lf⟩ ?_ ?_ ?_ ?_ ?_
   ·rintro l4 dm4 lp4 y4 rz4 vs4 hh4 hr4 X hFR4 ⟨hs7,hl4⟩ hl04 hlr4 hv4 hX hXM hlp4 nx4 rt4 ex4 pn4
    obtain ⟨rr4_0,rfl,ok4_0⟩:=hv4
    let z6:Nat×Obj:=(dm4,.deferred (some []))
    refine cS (L':=[(l4,.loop lp4),z6,z5,z3,z1,z2]++(markB rs2)) ap (bn (bH zc258 (fun b10=>bE 0 ty258 U U U U U U (aM (kg 1 U hlp4 (qT 2 U ?_))))))
    let z4:Nat×Obj:=(l4,.loop { lp4 with state:=.busy })
    let z8:Nat×Obj:=(b10,O (fx.cells y4 rr4_0) 258)
    refine eB ([z8,z4,z6,z5,z3,z1,z2]) mixed kr jn (fun cB _=>?_)
    refine qB [0,1] U (tf 2 U U (fun _ _ hj=>fI ty3 U (hj.nth (i:=0) U) U) (tn 3 U (eK vj (fK hr4 y4.x.Kind 1 4) U (⟨jn,tm 4 U ?_⟩))))
    refine cx 66 U (fun c3=>?_) (fun c3=>?_)
    ·refine qB [5,6] U (tf 7 U U (fun _ _ hj=>fI ty3 U (hj.nth (i:=0) U) U) ?_)
     have ho4:0≤(y4.x.Kind:Int)∧(y4.x.Kind:Int) < 5:=(by have:=GJ ob;omega)
     have A7:=(hk.mono ((((hle1.t hl2).t hle3).t hl4).t hlr4)).at ho4
     refine tf 8 U U (fun _ _ _=>Id underlying284 ty165 U U ho4) (tf 9 U U (fun _ _ hj=>eF ty165 (A7.mono hj.1) U) (qB [10] U (tf 11 U U (fun _ _ hj=>jj ty66 U (hj.nth (i:=0) U) U) (tn 12 U (nU (v:=.bool (kindsP y4.x.Kind y4.x)) [] (List.nil_sublist _) (Fl hr4 y4.x.Kind ho4 y4.x rr4_0.x ok4_0.x) U U (⟨jn,tf 13 U U (fun _ _ _=>td U (cb (show (kindsP y4.x.Kind y4.x)=((aH y4.x.Kind 1 4)&&(kindsP y4.x.Kind y4.x)) from by first | (rw [c3];rfl) | (rw [c3];rfl) | simp [c3]))) ?_⟩))))))
     refine tn 14 U (kW ub (fZ hr4 ((aH y4.x.Kind 1 4)&&(kindsP y4.x.Kind y4.x)) 200) U (fun u2 hu2=>?_) (fun pv2 hpv2 e=>?_))
     ·obtain ⟨rx2,hrx2,rfl⟩:=mU hu2
      have hs8:=hs7.trans (mT hrx2)
      cases rx2
      refine ⟨jn,aI kr (qK 7 [4,5] U (ce 5 [82,83,84,85,86,87] 82 87 (y4.x.Kind != 4) U (fun c4 hk3=>?_) (fun e=>?_)))⟩
      ·exact qL 5 [0] U (hk3 _ U)
      refine aA (kW ub (fZ hr4 (decide ((i2:Int) < (IntKind.wrap .i64 (((ai p).length:Int) - 1)))||(y4.x.Kind != 4)) 200) U (fun u3 hu3=>?_) (fun pv3 hpv3 e=>?_))
      ·obtain ⟨rx3,hrx3,rfl⟩:=mU hu3
       have hs9:=hs8.trans (mT hrx3)
       cases rx3
       exact aM (dY (bU (L':=[z4,z6,z5,z3,z1,z2]++(markB rs2)) js (cS (L':=rdH l4 dm4 lp4 (([z5,z3,z1,z2])++markB rs2)) ap (nx4 hr4 _ _ ⟨hs9,(hl4.t hlr4)⟩ lf))))
      obtain ⟨pv3e,hpv3e,rfl⟩:=lb hpv3
      have hs10:=hs8.trans (la hpv3e)
      exact uw (L':=[z4,z6]++(markB rs2)) js (pn4 _ _ _ [] ⟨_,U,hs10⟩)
     obtain ⟨pv2e,hpv2e,rfl⟩:=lb hpv2
     have hs11:=hs7.trans (la hpv2e)
     exact uw (L':=[z4,z6]++(markB rs2)) js (pn4 _ _ _ [] ⟨_,U,hs11⟩)
    refine qR 5 8 U (tf 13 U U (fun _ _ _=>td U (cb (show false=((aH y4.x.Kind 1 4)&&(kindsP y4.x.Kind y4.x)) from by first | (rw [c3];rfl) | (rw [c3];rfl) | simp [c3]))) ?_)
    refine tn 14 U (kW ub (fZ hr4 ((aH y4.x.Kind 1 4)&&(kindsP y4.x.Kind y4.x)) 200) U (fun u4 hu4=>?_) (fun pv4 hpv4 e=>?_))
    ·obtain ⟨rx4,hrx4,rfl⟩:=mU hu4
     have hs12:=hs7.trans (mT hrx4)
     cases rx4
     refine ⟨jn,aI kr (qK 7 [4,5] U (ce 5 [82,83,84,85,86,87] 82 87 (y4.x.Kind != 4) U (fun c5 hk4=>?_) (fun e=>?_)))⟩
     ·exact qL 5 [0] U (hk4 _ U)
     refine aA (kW ub (fZ hr4 (decide ((i2:Int) < (IntKind.wrap .i64 (((ai p).length:Int) - 1)))||(y4.x.Kind != 4)) 200) U (fun u5 hu5=>?_) (fun pv5 hpv5 e=>?_))
     ·obtain ⟨rx5,hrx5,rfl⟩:=mU hu5
      have hs13:=hs12.trans (mT hrx5)
      cases rx5
      exact aM (dY (bU (L':=[z4,z6,z5,z3,z1,z2]++(markB rs2)) js (cS (L':=rdH l4 dm4 lp4 (([z5,z3,z1,z2])++markB rs2)) ap (nx4 hr4 _ _ ⟨hs13,(hl4.t hlr4)⟩ lf))))
     obtain ⟨pv5e,hpv5e,rfl⟩:=lb hpv5
     have hs14:=hs12.trans (la hpv5e)
     exact uw (L':=[z4,z6]++(markB rs2)) js (pn4 _ _ _ [] ⟨_,U,hs14⟩)
    obtain ⟨pv4e,hpv4e,rfl⟩:=lb hpv4
    have hs15:=hs7.trans (la hpv4e)
    exact uw (L':=[z4,z6]++(markB rs2)) js (pn4 _ _ _ [] ⟨_,U,hs15⟩)
   ·rintro dm4 hh4 hn4 ⟨hs16,hl4⟩ hln4 hl04
    exact cS (L':=[z5,z3,z1,z2]++(markB (dm4::rs2))) ap (qT 3 U (ad (v':=I (((i2+1):Nat):Int)) U (aL ob) (qO 2 U (bU (L':=[z1,z2]++(markB (dm4::rs2))) js (ag1 ((i2+1),(dm4::rs2),hn4,rz2) _ (Nat.lt_succ_self _) ⟨lL hd2,iY hd2,hs16,(((hl2.t hle3).t hl4).t hln4)⟩ rd)))))
   ·exact xf
   ·exact xf
   rintro dm4 ch hn4 L0 ⟨pv_,rfl,hpv_⟩ hl04
   exact md (dm4::rs2) Bq hX (congrArg (exW stopV (fun r:Unit=>(.tuple #[]:Value))) hpv_)
  rintro i1 y1 rz1 hd1 cw ao dy fB hs17 hx1 ag2 e
  try have hsy:=vW hsm (fq hd1)
  refine sr (ad (v':=.bool true) U (cb cw) (qO 9 U (aA (dV pc ty107 hp.Rules.1 (nthZ ao) (au ao) U U U (fun _ _ _ e=>e) (fun q5 r4 A8 ok4=>de ty107 A8 U U (bH zc107 (fun b11=>fg (bE 0 ty107 U U U U U U (aM ?_)))))))))
  let z7:Nat×Obj:=(b11,O (Rule.cells y1 r4) 107)
  refine eB ([z7,z2]) mixed kr jn (fun pC _=>?_)
  refine qB [0] U (tf 1 U U (fun _ _ hj=>fI ty9 U (hj.nth (i:=0) U) U) (qB [2] U (tf 3 U U (fun _ _ hj=>fI ty62 U (hj.nth (i:=1) U) U) (tm 4 U ?_))))
  have ho5:0≤((i1:Int):Int)∧((i1:Int):Int) < ((p.Kinds).length:Int):=(by have hm:=GZ hrx1;simp only [decide_eq_true_eq,decide_eq_false_iff_not,Bool.and_eq_true,Bool.or_eq_true,Bool.not_eq_true',Bool.not_eq_false',Bool.and_eq_false_iff,Bool.or_eq_false_iff,beq_iff_eq,beq_eq_false_iff_ne,bne_iff_ne,bne_eq_false_iff_eq,List.length_append,List.length_cons,List.length_nil,List.length_drop] at hm;omega)
  refine cD 5 (enc:=fun y=>[.string y]) pC jn ei pS ty9 hp.Kinds.1 ho5 (bT ho5) U U U U kr (fun q6 A9=>tf 6 U U (fun _ _ hj=>eF ty9 (A9.mono hj.1) U) (qA [7,8] U ?_))
  refine cx 43 U (fun c6=>?_) (fun c6=>?_)
  ·refine qB [9] U (tf 10 U U (fun _ _ hj=>fI ty3 U (hj.nth (i:=0) U) U) (tn 11 U (eK vj (fK h y1.Think 0 1099511627775) U (⟨jn,tf 12 U U (fun _ _ _=>td U (cb (show (aH y1.Think 0 1099511627775)=((y1.Kind.toList==(nthI p.Kinds (i1:Int)).toList)&&(aH y1.Think 0 1099511627775)) from by first | (rw [c6];rfl) | (rw [c6];rfl) | simp [c6]))) ?_⟩))))
   refine tn 13 U (kW ub (fZ h ((y1.Kind.toList==(nthI p.Kinds (i1:Int)).toList)&&(aH y1.Think 0 1099511627775)) 200) U (fun u6 hu6=>?_) (fun pv6 hpv6 e=>?_))
   ·obtain ⟨rx6,hrx6,rfl⟩:=mU hu6
    have hs18:=hs17.trans (mT hrx6)
    cases rx6
    exact ⟨jn,(aI kr (qT 2 U (ad (v':=I (((i1+1):Nat):Int)) U (aL ob) (qO 2 U (bU (L':=[z2]) js (ag2 hs18))))))⟩
   obtain ⟨pv6e,hpv6e,rfl⟩:=lb hpv6
   have hs19:=hs17.trans (la hpv6e)
   exact ja (md [] Bq hX (congrArg (exW stopV (fun r:Unit=>(.tuple #[]:Value))) hs19))
  refine qR 9 3 U (tf 12 U U (fun _ _ _=>td U (cb (show false=((y1.Kind.toList==(nthI p.Kinds (i1:Int)).toList)&&(aH y1.Think 0 1099511627775)) from by first | (rw [c6];rfl) | (rw [c6];rfl) | simp [c6]))) ?_)
  refine tn 13 U (kW ub (fZ h ((y1.Kind.toList==(nthI p.Kinds (i1:Int)).toList)&&(aH y1.Think 0 1099511627775)) 200) U (fun u7 hu7=>?_) (fun pv7 hpv7 e=>?_))
  ·obtain ⟨rx7,hrx7,rfl⟩:=mU hu7
   have hs20:=hs17.trans (mT hrx7)
   cases rx7
   exact ⟨jn,(aI kr (qT 2 U (ad (v':=I (((i1+1):Nat):Int)) U (aL ob) (qO 2 U (bU (L':=[z2]) js (ag2 hs20))))))⟩
  obtain ⟨pv7e,hpv7e,rfl⟩:=lb hpv7
  have hs21:=hs17.trans (la hpv7e)
  exact ja (md [] Bq hX (congrArg (exW stopV (fun r:Unit=>(.tuple #[]:Value))) hs21))
 obtain ⟨pv1e,hpv1e,rfl⟩:=lb hpv1
 have hs22:=hs0.trans (la hpv1e)
 exact ja (md [] Bq hX (congrArg (exW stopV (fun r:Unit=>(.tuple #[]:Value))) hs22))
theorem rF (h:HF) (p:Policy) (gp:dS) (p_q:Addr) (hp:Policy.ok h p gp) (ap:At h p_q (Policy.cells p gp)) (hsm:smP p) (hk:Kinds h):Hm prog 214 [.pointer (some p_q)] h (exW stopV (fun r:Unit=>(.tuple #[]:Value)) (cL p)):=by
 refine cU FI U ntmps214 U fun X hM hX=>?_
 have hs0:cL p=cL p:=rfl
 refine sr (de ty68 ap U U ?_)
 refine aA (kW call215 (vD h p gp hp ob) U (fun u1 hu1=>?_) (fun pv1 hpv1 e=>?_))
 ·obtain ⟨rx1,hrx1,rfl⟩:=mU hu1
  have hs1:=hs0.trans (mT hrx1)
  cases rx1
  refine qO 3 U (de ty68 ap U U ?_)
  refine aA (kW call216 (vE h p gp hp ob) U (fun u2 hu2=>?_) (fun pv2 hpv2 e=>?_))
  ·obtain ⟨rx2,hrx2,rfl⟩:=mU hu2
   have hs2:=hs1.trans (mT hrx2)
   cases rx2
   refine qO 2 U (de ty68 ap U U ?_)
   refine aA (kW call217 (wG h p gp hp ob hk) U (fun u3 hu3=>?_) (fun pv3 hpv3 e=>?_))
   ·obtain ⟨rx3,hrx3,rfl⟩:=mU hu3
    have hs3:=hs2.trans (mT hrx3)
    cases rx3
    refine aM ?_
    have hs4:cL p=(Except.ok ()):=hs3
    exact gk (vo [] [] FI U hX trivial (congrArg (exW stopV (fun r:Unit=>(.tuple #[]:Value))) hs4))
   obtain ⟨pv3e,hpv3e,rfl⟩:=lb hpv3
   have hs5:=hs2.trans (la hpv3e)
   exact ja (md [] FI hX (congrArg (exW stopV (fun r:Unit=>(.tuple #[]:Value))) hs5))
  obtain ⟨pv2e,hpv2e,rfl⟩:=lb hpv2
  have hs6:=hs1.trans (la hpv2e)
  exact ja (md [] FI hX (congrArg (exW stopV (fun r:Unit=>(.tuple #[]:Value))) hs6))
 obtain ⟨pv1e,hpv1e,rfl⟩:=lb hpv1
 have hs7:=hs0.trans (la hpv1e)
 exact ja (md [] FI hX (congrArg (exW stopV (fun r:Unit=>(.tuple #[]:Value))) hs7))
theorem sk (rec:List ByteArray→Expr→Expr) (h:HF) (offices:List ByteArray) (cX:Option Addr) (cW:Nat) (x:Expr) (eL:cm) (hrec:∀ (h:HF) (qoffices:List ByteArray) (iC:Option Addr) (iB:Nat) (qx:Expr) (iT:cm) (hqoffices:SlC Rp.str h iC iB qoffices) (hqx:Expr.ok h qx iT) (hsz:qx.dep≤2000000) (_:qx.dep < x.dep),iq prog 218 [.slice iC qoffices.length iB,.agg (Expr.cells qx iT).toArray] h (fun v h'=>∃ (rr0:cm),v=.agg (Expr.cells (rec qoffices qx) rr0).toArray∧Expr.ok h' (rec qoffices qx) rr0)) (hoffices:SlC Rp.str h cX cW offices) (hx:Expr.ok h x eL) (hsz:x.dep≤2000000):iq prog 218 [.slice cX offices.length cW,.agg (Expr.cells x eL).toArray] h (fun v h'=>∃ (rr0:cm),v=.agg (Expr.cells (ae.F rec offices x) rr0).toArray∧Expr.ok h' (ae.F rec offices x) rr0):=by
 refine cU func218 U ntmps218 U fun X hM hX=>?_
 have hs0:ae.F rec offices x=ae.F rec offices x:=rfl
 have hln:=Expr.Fj x
 refine sr (cA (fun b1=>bH zc66 (fun b2=>qL 4 [] U (dw 1 ty3 U U U U U U (qO 4 U (cJ 1 ty66 U U U (ah call220 (lS _ _ _ (show Expr.ok h (Expr.mk x.Kind x.N 0 x.Name x.L) (cm.mk eL.iL eL.iP) from Expr.ok.of hx.list)) U (aM (ac hs0 U (fun c1 hs1=>?_) (fun c1 hs2=>?_))))))))))
 ·refine qK 4 [1] U (ah HM (jx _ _ _ _ x.Name hoffices) U (qL 1 [] U (dw 1 ty3 U U U U U U (qL 10 [1] U (dw 1 ty64 U U U U U U (qL 8 [] U ?_))))))
  let z1:Nat×Obj:=(b2,O [I 0,I 0,I 0,.string (⟨#[]⟩:ByteArray),.slice none 0 0] 66)
  refine lp2 x.L (fun i w=>[(0,.slice cX offices.length cW),(3,Q b1),(4,Q b2),(19,.slice eL.iL x.L.length eL.iP),(20,I (x.L.length:Int)),(21,I (i:Int))]) (fun w=>w.2.2.2.2) (fun w=>[z1,(b1,O [I x.Kind,I x.N,I (aJ offices x.Name),.string x.Name,.slice w.2.1 w.1.length w.2.2.1] 66)]++(w.2.2.2.1)) (fun i w=>cM Expr.rp 66 w.2.2.2.2 w.1 w.2.1 w.2.2.1 w.2.2.2.1∧w.1.length≤0+i∧HF.le h w.2.2.2.2) (fun s1 i w=>(ae.L1 rec offices (ae.K1 offices x)) s1 w.1) ([],none,0,[],h) hx.list.1.1 hs1 ⟨cM.nil,lo,lf⟩ ?_ ?_
  ·rintro i1 ⟨jB,nF,nE,vR,hh1⟩ et hs3 ⟨oR,Aj,hl1⟩ e
   try dsimp only at oR Aj hl1
   let z3:Nat×Obj:=(b1,O [I x.Kind,I x.N,I (aJ offices x.Name),.string x.Name,.slice nF jB.length nE] 66)
   let z15:Nat×Obj:=(b2,O [I x.Kind,I x.N,I (aJ offices x.Name),.string x.Name,.slice nF jB.length nE] 66)
   refine sr (cJ 1 ty66 U U U (bE 0 ty66 U U U U U U (iW (L':=[z15,z3]++(vR)) U (aM (eI Expr.ak ([z15,z3]) vR ([]) ap hM oR (fun h3 hle3 sl2=>?_))))))
   have hs4:ae.F rec offices x=(Expr.mk x.Kind x.N (aJ offices x.Name) x.Name jB):=hs3
   exact fR [.agg (List.toArray [I x.Kind,I x.N,I (aJ offices x.Name),.string x.Name,.slice nF jB.length nE])] func218 U ⟨⟨0,_,_,_,_,U,U,.inl ⟨ty66,U⟩⟩,trivial⟩ ⟨(cm.mk nF nE),congrArg (fun r:Expr=>(.agg (Expr.cells r (cm.mk nF nE)).toArray:Value)) hs4.symm,(by rw [hs4];exact (show Expr.ok h3 (Expr.mk x.Kind x.N (aJ offices x.Name) x.Name jB) (cm.mk nF nE) from Expr.ok.of sl2))⟩
  rintro i1 ⟨jB,nF,nE,vR,hh1⟩ y1 rz1 hd1 cw ao dy fB hs5 ⟨oR,Aj,hl1⟩ hx1 ag1 e
  try dsimp only at oR Aj hl1
  have hdy:=Expr.gj (fq hd1)
  refine sr (ad (v':=.bool true) U (cb cw) (qO 8 U (aA (dV jh ty66 (hx.list.mono Expr.ak hl1).1 (nthZ ao) (au ao) U U U (fun _ _ _ e=>e) (fun q2 r2 A2 ok3=>?_)))))
  let z4:Nat×Obj:=(b1,O [I x.Kind,I x.N,I (aJ offices x.Name),.string x.Name,.slice nF jB.length nE] 66)
  refine de ty66 A2 U U (bH zc66 (fun b5=>bE 0 ty66 U U U U U U (iW (L':=[(b5,O (Expr.cells y1 r2) 66),z1,z4]++(vR)) U (aM ?_))))
  let z8:Nat×Obj:=(b5,O (Expr.cells y1 r2) 66)
  refine eB ([z8,z1]) mixed kr jn (fun cB _=>?_)
  refine qB [0,2] U (tf 3 U U (fun _ _ hj=>jj ty66 U (hj.nth (i:=0) U) U) ?_)
  refine jq 1 4 kr U U ?_ ?_ 
  ·refine fu (fI ty64 U (mf (i:=2) U) U) (⟨jn,tn 4 U (cf Do (hrec _ _ _ _ _ _ (hoffices.mono Rp.gl hl1) ok3 ob (Expr.gj (fq hd1))) U (fun v2 h4 hle4 hp2=>?_))⟩)
   obtain ⟨rr4,rfl,ok4⟩:=hp2
   refine ⟨jl hle4,tu hle4 (tn 5 U (bg (cells:=[I ((rec offices y1).Kind),I ((rec offices y1).N),I ((rec offices y1).No),.string ((rec offices y1).Name),.slice rr4.iL ((rec offices y1).L.length) rr4.iP]) jh ty66 zc66 U U kr (fun b6=>⟨jn,?_⟩)))⟩
   let z12:Nat×Obj:=(b6,O [I ((rec offices y1).Kind),I ((rec offices y1).N),I ((rec offices y1).No),.string ((rec offices y1).Name),.slice rr4.iL ((rec offices y1).L.length) rr4.iP] 66)
   exact tn 6 U (bS Expr.eC ([z12,z8,z1,z4]) ([]) (fun G=>[z12,z8,z1,z4]++G) ap (fun _=>ap) jh ty66 zc66 U bytes66 (oR.mono Expr.ak hle4) U U (du 0 U (show aP Expr.rp h4 [I ((rec offices y1).Kind),I ((rec offices y1).N),I ((rec offices y1).No),.string ((rec offices y1).Name),.slice rr4.iL ((rec offices y1).L.length) rr4.iP] ([(rec offices y1)]) from ⟨[I ((rec offices y1).Kind),I ((rec offices y1).N),I ((rec offices y1).No),.string ((rec offices y1).Name),.slice rr4.iL ((rec offices y1).L.length) rr4.iP],[],U,U,⟨rr4,U,ok4⟩,U⟩)) lo lo (fun ob2 oc2 G2 gr2=>⟨jn,qB [7] U (tn 8 U (j9 3 ty64 U U U U U U (⟨jn,aI kr (qT 2 U (ad (v':=I (((i1+1):Nat):Int)) U (aL ob) (qO 2 U (bU (L':=[z1,(b1,O [I x.Kind,I x.N,I (aJ offices x.Name),.string x.Name,.slice ob2 ((jB++[(rec offices y1)]).length) oc2] 66)]++G2) js (ag1 ((jB++[(rec offices y1)]),ob2,oc2,G2,h4) hs5 ⟨gr2,lo,(hl1.t hle4)⟩)))))⟩)))⟩))
  refine cf Do (hrec _ _ _ _ _ _ (hoffices.mono Rp.gl hl1) ok3 ob (Expr.gj (fq hd1))) U (fun v3 h5 hle5 hp3=>?_)
  obtain ⟨rr5,rfl,ok5⟩:=hp3
  refine ⟨jl hle5,tu hle5 ?_⟩
  refine jq 1 5 kr U U ?_ ?_ 
  ·refine fu (fI ty64 U (mf (i:=2) U) U) (⟨jn,tn 5 U (bg (cells:=[I ((rec offices y1).Kind),I ((rec offices y1).N),I ((rec offices y1).No),.string ((rec offices y1).Name),.slice rr5.iL ((rec offices y1).L.length) rr5.iP]) jh ty66 zc66 U U kr (fun b7=>⟨jn,?_⟩))⟩)
   let z13:Nat×Obj:=(b7,O [I ((rec offices y1).Kind),I ((rec offices y1).N),I ((rec offices y1).No),.string ((rec offices y1).Name),.slice rr5.iL ((rec offices y1).L.length) rr5.iP] 66)
   exact tn 6 U (bS Expr.eC ([z13,z8,z1,z4]) ([]) (fun G=>[z13,z8,z1,z4]++G) ap (fun _=>ap) jh ty66 zc66 U bytes66 (oR.mono Expr.ak hle5) U U (du 0 U (show aP Expr.rp h5 [I ((rec offices y1).Kind),I ((rec offices y1).N),I ((rec offices y1).No),.string ((rec offices y1).Name),.slice rr5.iL ((rec offices y1).L.length) rr5.iP] ([(rec offices y1)]) from ⟨[I ((rec offices y1).Kind),I ((rec offices y1).N),I ((rec offices y1).No),.string ((rec offices y1).Name),.slice rr5.iL ((rec offices y1).L.length) rr5.iP],[],U,U,⟨rr5,U,ok5⟩,U⟩)) lo lo (fun ob3 oc3 G3 gr3=>⟨jn,qB [7] U (tn 8 U (j9 3 ty64 U U U U U U (⟨jn,aI kr (qT 2 U (ad (v':=I (((i1+1):Nat):Int)) U (aL ob) (qO 2 U (bU (L':=[z1,(b1,O [I x.Kind,I x.N,I (aJ offices x.Name),.string x.Name,.slice ob3 ((jB++[(rec offices y1)]).length) oc3] 66)]++G3) js (ag1 ((jB++[(rec offices y1)]),ob3,oc3,G3,h5) hs5 ⟨gr3,lo,(hl1.t hle5)⟩)))))⟩)))⟩))
  refine bg (cells:=[I ((rec offices y1).Kind),I ((rec offices y1).N),I ((rec offices y1).No),.string ((rec offices y1).Name),.slice rr5.iL ((rec offices y1).L.length) rr5.iP]) jh ty66 zc66 U U kr (fun b8=>⟨jn,tn 1 U (fu (fI ty64 U (mf (i:=3) U) U) (⟨jn,?_⟩))⟩)
  let z14:Nat×Obj:=(b8,O [I ((rec offices y1).Kind),I ((rec offices y1).N),I ((rec offices y1).No),.string ((rec offices y1).Name),.slice rr5.iL ((rec offices y1).L.length) rr5.iP] 66)
  exact tn 6 U (bS Expr.eC ([z14,z8,z1,z4]) ([]) (fun G=>[z14,z8,z1,z4]++G) ap (fun _=>ap) jh ty66 zc66 U bytes66 (oR.mono Expr.ak hle5) U U (du 0 U (show aP Expr.rp h5 [I ((rec offices y1).Kind),I ((rec offices y1).N),I ((rec offices y1).No),.string ((rec offices y1).Name),.slice rr5.iL ((rec offices y1).L.length) rr5.iP] ([(rec offices y1)]) from ⟨[I ((rec offices y1).Kind),I ((rec offices y1).N),I ((rec offices y1).No),.string ((rec offices y1).Name),.slice rr5.iL ((rec offices y1).L.length) rr5.iP],[],U,U,⟨rr5,U,ok5⟩,U⟩)) lo lo (fun ob4 oc4 G4 gr4=>⟨jn,qB [7] U (tn 8 U (j9 3 ty64 U U U U U U (⟨jn,aI kr (qT 2 U (ad (v':=I (((i1+1):Nat):Int)) U (aL ob) (qO 2 U (bU (L':=[z1,(b1,O [I x.Kind,I x.N,I (aJ offices x.Name),.string x.Name,.slice ob4 ((jB++[(rec offices y1)]).length) oc4] 66)]++G4) js (ag1 ((jB++[(rec offices y1)]),ob4,oc4,G4,h5) hs5 ⟨gr4,lo,(hl1.t hle5)⟩)))))⟩)))⟩))
 refine qK 10 [1] U (dw 1 ty64 U U U U U U (qL 8 [] U ?_))
 let z2:Nat×Obj:=(b2,O [I 0,I 0,I 0,.string (⟨#[]⟩:ByteArray),.slice none 0 0] 66)
 refine lp2 x.L (fun i w=>[(0,.slice cX offices.length cW),(3,Q b1),(4,Q b2),(19,.slice eL.iL x.L.length eL.iP),(20,I (x.L.length:Int)),(21,I (i:Int))]) (fun w=>w.2.2.2.2) (fun w=>[z2,(b1,O [I x.Kind,I x.N,I 0,.string x.Name,.slice w.2.1 w.1.length w.2.2.1] 66)]++(w.2.2.2.1)) (fun i w=>cM Expr.rp 66 w.2.2.2.2 w.1 w.2.1 w.2.2.1 w.2.2.2.1∧w.1.length≤0+i∧HF.le h w.2.2.2.2) (fun s2 i w=>(ae.L2 rec offices (ae.K2 x)) s2 w.1) ([],none,0,[],h) hx.list.1.1 hs2 ⟨cM.nil,lo,lf⟩ ?_ ?_
 ·rintro i2 ⟨jA,nD,nC,vO,hh2⟩ sK hs6 ⟨oN,Ae,hl2⟩ e
  try dsimp only at oN Ae hl2
  let z5:Nat×Obj:=(b1,O [I x.Kind,I x.N,I 0,.string x.Name,.slice nD jA.length nC] 66)
  let z16:Nat×Obj:=(b2,O [I x.Kind,I x.N,I 0,.string x.Name,.slice nD jA.length nC] 66)
  refine sr (cJ 1 ty66 U U U (bE 0 ty66 U U U U U U (iW (L':=[z16,z5]++(vO)) U (aM (eI Expr.ak ([z16,z5]) vO ([]) ap hM oN (fun h8 hle8 sl4=>?_))))))
  have hs7:ae.F rec offices x=(Expr.mk x.Kind x.N 0 x.Name jA):=hs6
  exact fR [.agg (List.toArray [I x.Kind,I x.N,I 0,.string x.Name,.slice nD jA.length nC])] func218 U ⟨⟨0,_,_,_,_,U,U,.inl ⟨ty66,U⟩⟩,trivial⟩ ⟨(cm.mk nD nC),congrArg (fun r:Expr=>(.agg (Expr.cells r (cm.mk nD nC)).toArray:Value)) hs7.symm,(by rw [hs7];exact (show Expr.ok h8 (Expr.mk x.Kind x.N 0 x.Name jA) (cm.mk nD nC) from Expr.ok.of sl4))⟩
 rintro i2 ⟨jA,nD,nC,vO,hh2⟩ y2 rz2 hd2 oI jJ vM Ew hs8 ⟨oN,Ae,hl2⟩ hx2 ag2 e
 try dsimp only at oN Ae hl2
 have hdy:=Expr.gj (fq hd2)
 refine sr (ad (v':=.bool true) U (cb oI) (qO 8 U (aA (dV jh ty66 (hx.list.mono Expr.ak hl2).1 (nthZ jJ) (au jJ) U U U (fun _ _ _ e=>e) (fun q4 r4 A4 ok8=>?_)))))
 let z6:Nat×Obj:=(b1,O [I x.Kind,I x.N,I 0,.string x.Name,.slice nD jA.length nC] 66)
 refine de ty66 A4 U U (bH zc66 (fun b11=>bE 0 ty66 U U U U U U (iW (L':=[(b11,O (Expr.cells y2 r4) 66),z2,z6]++(vO)) U (aM ?_))))
 let z7:Nat×Obj:=(b11,O (Expr.cells y2 r4) 66)
 refine eB ([z7,z2]) mixed kr jn (fun pC _=>?_)
 refine qB [0,2] U (tf 3 U U (fun _ _ hj=>jj ty66 U (hj.nth (i:=0) U) U) ?_)
 refine jq 1 4 kr U U ?_ ?_ 
 ·refine fu (fI ty64 U (mf (i:=2) U) U) (⟨jn,tn 4 U (cf Do (hrec _ _ _ _ _ _ (hoffices.mono Rp.gl hl2) ok8 ob (Expr.gj (fq hd2))) U (fun v5 h9 hle9 hp5=>?_))⟩)
  obtain ⟨rr9,rfl,ok9⟩:=hp5
  refine ⟨jl hle9,tu hle9 (tn 5 U (bg (cells:=[I ((rec offices y2).Kind),I ((rec offices y2).N),I ((rec offices y2).No),.string ((rec offices y2).Name),.slice rr9.iL ((rec offices y2).L.length) rr9.iP]) jh ty66 zc66 U U kr (fun b12=>⟨jn,?_⟩)))⟩
  let z11:Nat×Obj:=(b12,O [I ((rec offices y2).Kind),I ((rec offices y2).N),I ((rec offices y2).No),.string ((rec offices y2).Name),.slice rr9.iL ((rec offices y2).L.length) rr9.iP] 66)
  exact tn 6 U (bS Expr.eC ([z11,z7,z2,z6]) ([]) (fun G=>[z11,z7,z2,z6]++G) ap (fun _=>ap) jh ty66 zc66 U bytes66 (oN.mono Expr.ak hle9) U U (du 0 U (show aP Expr.rp h9 [I ((rec offices y2).Kind),I ((rec offices y2).N),I ((rec offices y2).No),.string ((rec offices y2).Name),.slice rr9.iL ((rec offices y2).L.length) rr9.iP] ([(rec offices y2)]) from ⟨[I ((rec offices y2).Kind),I ((rec offices y2).N),I ((rec offices y2).No),.string ((rec offices y2).Name),.slice rr9.iL ((rec offices y2).L.length) rr9.iP],[],U,U,⟨rr9,U,ok9⟩,U⟩)) lo lo (fun ob6 oc6 G6 gr6=>⟨jn,qB [7] U (tn 8 U (j9 3 ty64 U U U U U U (⟨jn,aI kr (qT 2 U (ad (v':=I (((i2+1):Nat):Int)) U (aL ob) (qO 2 U (bU (L':=[z2,(b1,O [I x.Kind,I x.N,I 0,.string x.Name,.slice ob6 ((jA++[(rec offices y2)]).length) oc6] 66)]++G6) js (ag2 ((jA++[(rec offices y2)]),ob6,oc6,G6,h9) hs8 ⟨gr6,lo,(hl2.t hle9)⟩)))))⟩)))⟩))
 refine cf Do (hrec _ _ _ _ _ _ (hoffices.mono Rp.gl hl2) ok8 ob (Expr.gj (fq hd2))) U (fun v6 h10 hle10 hp6=>?_)
 obtain ⟨rr10,rfl,ok10⟩:=hp6
 refine ⟨jl hle10,tu hle10 ?_⟩
 refine jq 1 5 kr U U ?_ ?_ 
 ·refine fu (fI ty64 U (mf (i:=2) U) U) (⟨jn,tn 5 U (bg (cells:=[I ((rec offices y2).Kind),I ((rec offices y2).N),I ((rec offices y2).No),.string ((rec offices y2).Name),.slice rr10.iL ((rec offices y2).L.length) rr10.iP]) jh ty66 zc66 U U kr (fun b13=>⟨jn,?_⟩))⟩)
  let z9:Nat×Obj:=(b13,O [I ((rec offices y2).Kind),I ((rec offices y2).N),I ((rec offices y2).No),.string ((rec offices y2).Name),.slice rr10.iL ((rec offices y2).L.length) rr10.iP] 66)
  exact tn 6 U (bS Expr.eC ([z9,z7,z2,z6]) ([]) (fun G=>[z9,z7,z2,z6]++G) ap (fun _=>ap) jh ty66 zc66 U bytes66 (oN.mono Expr.ak hle10) U U (du 0 U (show aP Expr.rp h10 [I ((rec offices y2).Kind),I ((rec offices y2).N),I ((rec offices y2).No),.string ((rec offices y2).Name),.slice rr10.iL ((rec offices y2).L.length) rr10.iP] ([(rec offices y2)]) from ⟨[I ((rec offices y2).Kind),I ((rec offices y2).N),I ((rec offices y2).No),.string ((rec offices y2).Name),.slice rr10.iL ((rec offices y2).L.length) rr10.iP],[],U,U,⟨rr10,U,ok10⟩,U⟩)) lo lo (fun ob7 oc7 G7 gr7=>⟨jn,qB [7] U (tn 8 U (j9 3 ty64 U U U U U U (⟨jn,aI kr (qT 2 U (ad (v':=I (((i2+1):Nat):Int)) U (aL ob) (qO 2 U (bU (L':=[z2,(b1,O [I x.Kind,I x.N,I 0,.string x.Name,.slice ob7 ((jA++[(rec offices y2)]).length) oc7] 66)]++G7) js (ag2 ((jA++[(rec offices y2)]),ob7,oc7,G7,h10) hs8 ⟨gr7,lo,(hl2.t hle10)⟩)))))⟩)))⟩))
 refine bg (cells:=[I ((rec offices y2).Kind),I ((rec offices y2).N),I ((rec offices y2).No),.string ((rec offices y2).Name),.slice rr10.iL ((rec offices y2).L.length) rr10.iP]) jh ty66 zc66 U U kr (fun b14=>⟨jn,tn 1 U (fu (fI ty64 U (mf (i:=3) U) U) (⟨jn,?_⟩))⟩)
 let z10:Nat×Obj:=(b14,O [I ((rec offices y2).Kind),I ((rec offices y2).N),I ((rec offices y2).No),.string ((rec offices y2).Name),.slice rr10.iL ((rec offices y2).L.length) rr10.iP] 66)
 exact tn 6 U (bS Expr.eC ([z10,z7,z2,z6]) ([]) (fun G=>[z10,z7,z2,z6]++G) ap (fun _=>ap) jh ty66 zc66 U bytes66 (oN.mono Expr.ak hle10) U U (du 0 U (show aP Expr.rp h10 [I ((rec offices y2).Kind),I ((rec offices y2).N),I ((rec offices y2).No),.string ((rec offices y2).Name),.slice rr10.iL ((rec offices y2).L.length) rr10.iP] ([(rec offices y2)]) from ⟨[I ((rec offices y2).Kind),I ((rec offices y2).N),I ((rec offices y2).No),.string ((rec offices y2).Name),.slice rr10.iL ((rec offices y2).L.length) rr10.iP],[],U,U,⟨rr10,U,ok10⟩,U⟩)) lo lo (fun ob8 oc8 G8 gr8=>⟨jn,qB [7] U (tn 8 U (j9 3 ty64 U U U U U U (⟨jn,aI kr (qT 2 U (ad (v':=I (((i2+1):Nat):Int)) U (aL ob) (qO 2 U (bU (L':=[z2,(b1,O [I x.Kind,I x.N,I 0,.string x.Name,.slice ob8 ((jA++[(rec offices y2)]).length) oc8] 66)]++G8) js (ag2 ((jA++[(rec offices y2)]),ob8,oc8,G8,h10) hs8 ⟨gr8,lo,(hl2.t hle10)⟩)))))⟩)))⟩))
theorem mO:∀ (m:Nat) (h:HF) (offices:List ByteArray) (cX:Option Addr) (cW:Nat) (x:Expr) (eL:cm) (_:x.dep≤m) (hoffices:SlC Rp.str h cX cW offices) (hx:Expr.ok h x eL) (hsz:x.dep≤2000000),iq prog 218 [.slice cX offices.length cW,.agg (Expr.cells x eL).toArray] h (fun v h'=>∃ (rr0:cm),v=.agg (Expr.cells (ae.go m offices x) rr0).toArray∧Expr.ok h' (ae.go m offices x) rr0)
 | 0,h,offices,cX,cW,x,eL,hd,hoffices,hx,hsz=>absurd hd (Nat.not_le.2 (Expr.jH _))
 | m+1,h,offices,cX,cW,x,eL,hd,hoffices,hx,hsz=>sk (ae.go m) h offices cX cW x eL (fun qh_ qoffices iC iB qx iT qhoffices qhx qhsz qd=>mO m qh_ qoffices iC iB qx iT ob qhoffices qhx qhsz) hoffices hx hsz
theorem nP (h:HF) (offices:List ByteArray) (cX:Option Addr) (cW:Nat) (x:Expr) (eL:cm) (hoffices:SlC Rp.str h cX cW offices) (hx:Expr.ok h x eL) (hsz:x.dep≤2000000):iq prog 218 [.slice cX offices.length cW,.agg (Expr.cells x eL).toArray] h (fun v h'=>∃ (rr0:cm),v=.agg (Expr.cells (ae offices x) rr0).toArray∧Expr.ok h' (ae offices x) rr0):=mO _ h offices cX cW x eL (Nat.le_refl _) hoffices hx hsz
theorem tR (h:HF) (p:Policy) (gp:dS) (hp:Policy.ok h p gp) (hsm:smP p) (hk:Kinds h):iq prog 158 [.agg (Policy.cells p gp).toArray] h (fun v h'=>∃ (rr0:dS),v=.tuple #[.agg (Policy.cells ((dj p).1) rr0).toArray,I ((dj p).2)]∧Policy.ok h' ((dj p).1) rr0):=by
 refine cU func158 U ntmps158 U fun X hM hX=>?_
 have hs0:dj p=dj p:=rfl
 have hsc:=hsm.change
 have hsr:=hsm.rules
 refine sr (cA (fun b1=>bH zc68 (fun b2=>qO 4 U (bN 1 U hM (fun h1 hle1 hb1=>aA (fX U U (ah (v:=I (attR (cL p))) call213 (tQ h1 (.func (.func 214) #[] #[Q b1]) (cL p) (kN (args:=[]) (cap:=[Q b1]) call214 (rF h1 p gp ⟨b1,0,none⟩ (hp.mono hle1) (dp hb1) (by first | assumption | omega) (hk.mono hle1)))) U (qO 8 U (ac hs0 U (fun c1 hs1=>?_) (fun c1 hs2=>?_))))))))))
 ·refine sr (cJ 0 ty68 U U U (aj (bE 0 ty68 U U U U U U (an ?_))))
  have hs3:dj p=((Policy.mk (⟨#[]⟩:ByteArray) ([]) ([]) ([]) (Expr.mk 0 0 0 (⟨#[]⟩:ByteArray) ([])) 0),(attR (cL p))):=hs1
  exact fR [.agg (List.toArray [.string (⟨#[]⟩:ByteArray),.slice none 0 0,.slice none 0 0,.slice none 0 0,I 0,I 0,I 0,.string (⟨#[]⟩:ByteArray),.slice none 0 0,I 0]),I (attR (cL p))] func158 U ⟨⟨0,_,_,_,_,U,U,.inl ⟨ty68,U⟩⟩,U,trivial⟩ ⟨(dS.mk none 0 none 0 none 0 (cm.mk none 0)),congrArg (fun r:(Policy×Int)=>(.tuple #[.agg (Policy.cells r.1 (dS.mk none 0 none 0 none 0 (cm.mk none 0))).toArray,I r.2]:Value)) hs3.symm,(by rw [hs3];exact (show Policy.ok h1 (Policy.mk (⟨#[]⟩:ByteArray) ([]) ([]) ([]) (Expr.mk 0 0 0 (⟨#[]⟩:ByteArray) ([])) 0) (dS.mk none 0 none 0 none 0 (cm.mk none 0)) from ⟨SlC.nil,SlC.nil,SlC.nil,(show Expr.ok h1 (Expr.mk 0 0 0 (⟨#[]⟩:ByteArray) ([])) (cm.mk none 0) from Expr.ok.of SlC.nil)⟩))⟩
 refine qT 3 U (de ty68 (dp hb1) U U (bE 0 ty68 U U U U U U (qL 4 [] U (dw 0 ty63 U U U U U U (qL 5 [] U (jF (j:=3) ty63 (dp hb1) U U (qL 3 [] U ?_)))))))
 refine lp2 p.Rules (fun i w=>[(1,Q b1),(2,Q b2),(15,.slice gp.kc p.Rules.length gp.kb),(16,I (p.Rules.length:Int)),(17,I (i:Int))]) (fun w=>w.2.2.2.2) (fun w=>[(b2,O [.string p.Name,.slice gp.gI p.Kinds.length gp.gH,.slice gp.fc p.Offices.length gp.fb,.slice w.2.1 w.1.length w.2.2.1,I p.Change.Kind,I p.Change.N,I p.Change.No,.string p.Change.Name,.slice gp.Change.iL p.Change.L.length gp.Change.iP,I p.Mode] 68)]++(w.2.2.2.1)) (fun i w=>cM Rule.rp 107 w.2.2.2.2 w.1 w.2.1 w.2.2.1 w.2.2.2.1∧w.1.length≤0+i∧HF.le h1 w.2.2.2.2) (fun s1 i w=>(dj.L1 p (dj.K1 p)) s1 i w.1) ([],none,0,[],h1) ((hp.Rules.mono Rule.ak hle1).1.1) hs2 ⟨cM.nil,lo,lf⟩ ?_ ?_
 ·rintro i1 ⟨k9,oQ,oP,vQ,hh1⟩ et hs4 ⟨sQ,Ai,hl1⟩ e
  try dsimp only at sQ Ai hl1
  refine qK 3 [] U (jF (j:=2) ty62 ((dp hb1).mono hl1) U U (qL 1 [] U (uI (j:=4) ty66 ((dp hb1).mono hl1) U U (aA (cf Do (nP _ _ _ _ _ _ (hp.Offices.mono Rp.gl (hle1.t hl1)) (hp.Change.mono (hle1.t hl1)) ob) U (fun v3 h5 hle5 hp3=>?_))))))
  obtain ⟨rr4,rfl,ok4⟩:=hp3
  let z2:Nat×Obj:=(b2,O [.string p.Name,.slice gp.gI p.Kinds.length gp.gH,.slice gp.fc p.Offices.length gp.fb,.slice oQ k9.length oP,I ((ae p.Offices p.Change).Kind),I ((ae p.Offices p.Change).N),I ((ae p.Offices p.Change).No),.string ((ae p.Offices p.Change).Name),.slice rr4.iL ((ae p.Offices p.Change).L.length) rr4.iP,I p.Mode] 68)
  refine qL 1 [] U (dw 0 ty66 U U U U U U (qO 3 U (cJ 0 ty68 U U U (bE 0 ty68 U U U U U U (iW (L':=[z2]++(vQ)) U (an (eI Rule.ak ([z2]) vQ ([]) ap hM (sQ.mono Rule.ak hle5) (fun h6 hle6 sl2=>?_))))))))
  have hs5:dj p=((Policy.mk p.Name p.Kinds p.Offices k9 (Expr.mk ((ae p.Offices p.Change).Kind) ((ae p.Offices p.Change).N) ((ae p.Offices p.Change).No) ((ae p.Offices p.Change).Name) ((ae p.Offices p.Change).L)) p.Mode),0):=hs4
  exact fR [.agg (Policy.cells (Policy.mk p.Name p.Kinds p.Offices k9 (Expr.mk ((ae p.Offices p.Change).Kind) ((ae p.Offices p.Change).N) ((ae p.Offices p.Change).No) ((ae p.Offices p.Change).Name) ((ae p.Offices p.Change).L)) p.Mode) (dS.mk gp.gI gp.gH gp.fc gp.fb oQ oP (cm.mk rr4.iL rr4.iP))).toArray,I 0] func158 U ⟨⟨0,_,_,_,_,U,U,.inl ⟨ty68,U⟩⟩,U,trivial⟩ ⟨(dS.mk gp.gI gp.gH gp.fc gp.fb oQ oP (cm.mk rr4.iL rr4.iP)),congrArg (fun r:(Policy×Int)=>(.tuple #[.agg (Policy.cells r.1 (dS.mk gp.gI gp.gH gp.fc gp.fb oQ oP (cm.mk rr4.iL rr4.iP))).toArray,I r.2]:Value)) hs5.symm,(by rw [hs5];exact (show Policy.ok h6 (Policy.mk p.Name p.Kinds p.Offices k9 (Expr.mk ((ae p.Offices p.Change).Kind) ((ae p.Offices p.Change).N) ((ae p.Offices p.Change).No) ((ae p.Offices p.Change).Name) ((ae p.Offices p.Change).L)) p.Mode) (dS.mk gp.gI gp.gH gp.fc gp.fb oQ oP (cm.mk rr4.iL rr4.iP)) from ⟨(hp.Kinds.mono Rp.gl (((hle1.t hl1).t hle5).t hle6)),(hp.Offices.mono Rp.gl (((hle1.t hl1).t hle5).t hle6)),sl2,(show Expr.ok h6 (Expr.mk ((ae p.Offices p.Change).Kind) ((ae p.Offices p.Change).N) ((ae p.Offices p.Change).No) ((ae p.Offices p.Change).Name) ((ae p.Offices p.Change).L)) (cm.mk rr4.iL rr4.iP) from Expr.ok.of (ok4.list.mono Expr.ak hle6))⟩))⟩
 rintro i1 ⟨k9,oQ,oP,vQ,hh1⟩ y1 rz1 hd1 cw ao dy fB hs6 ⟨sQ,Ai,hl1⟩ hx1 ag1 e
 try dsimp only at sQ Ai hl1
 have hsy:=hsm.2.1 y1 (fq hd1)
 refine sr (ad (v':=.bool true) U (cb cw) (qO 9 U (aA (dV pc ty107 (hp.Rules.mono Rule.ak (hle1.t hl1)).1 (nthZ ao) (au ao) U U U (fun _ _ _ e=>e) (fun q2 r2 A2 ok5=>?_)))))
 let z1:Nat×Obj:=(b2,O [.string p.Name,.slice gp.gI p.Kinds.length gp.gH,.slice gp.fc p.Offices.length gp.fb,.slice oQ k9.length oP,I p.Change.Kind,I p.Change.N,I p.Change.No,.string p.Change.Name,.slice gp.Change.iL p.Change.L.length gp.Change.iP,I p.Mode] 68)
 refine de ty107 A2 U U (bH zc107 (fun b5=>fg (bE 0 ty107 U U U U U U (iW (L':=[(b5,O (Rule.cells y1 r2) 107),z1]++(vQ)) U (qL 5 [] U (jF (j:=2) ty62 ((dp hb1).mono hl1) U U (qL 1 [] U (cJ 0 ty66 U U U (aA (cf Do (nP _ _ _ _ _ _ (hp.Offices.mono Rp.gl (hle1.t hl1)) ok5.Expr ob) U (fun v4 h7 hle7 hp4=>?_)))))))))))
 obtain ⟨rr6,rfl,ok6⟩:=hp4
 refine qL 1 [] U (dw 0 ty3 U U U U U U (qL 1 [] U (dw 0 ty66 U U U U U U (qL 4 [1] U (cJ 0 ty107 U U U (aA (bg (cells:=[.string y1.Kind,I (i1:Int),I y1.Think,I ((ae p.Offices y1.Expr).Kind),I ((ae p.Offices y1.Expr).N),I ((ae p.Offices y1.Expr).No),.string ((ae p.Offices y1.Expr).Name),.slice rr6.iL ((ae p.Offices y1.Expr).L.length) rr6.iP]) pc ty107 zc107 U U kr (fun b6=>?_))))))))
 let z3:Nat×Obj:=(b6,O [.string y1.Kind,I (i1:Int),I y1.Think,I ((ae p.Offices y1.Expr).Kind),I ((ae p.Offices y1.Expr).N),I ((ae p.Offices y1.Expr).No),.string ((ae p.Offices y1.Expr).Name),.slice rr6.iL ((ae p.Offices y1.Expr).L.length) rr6.iP] 107)
 let z4:Nat×Obj:=(b5,O [.string y1.Kind,I (i1:Int),I y1.Think,I ((ae p.Offices y1.Expr).Kind),I ((ae p.Offices y1.Expr).N),I ((ae p.Offices y1.Expr).No),.string ((ae p.Offices y1.Expr).Name),.slice rr6.iL ((ae p.Offices y1.Expr).L.length) rr6.iP] 107)
 refine aA (bS Rule.eC ([z3,z4,z1]) ([]) (fun G=>[z3,z4,z1]++G) ap (fun _=>ap) pc ty107 zc107 U bytes107 (sQ.mono Rule.ak hle7) U U (du 0 U (show aP Rule.rp h7 [.string y1.Kind,I (i1:Int),I y1.Think,I ((ae p.Offices y1.Expr).Kind),I ((ae p.Offices y1.Expr).N),I ((ae p.Offices y1.Expr).No),.string ((ae p.Offices y1.Expr).Name),.slice rr6.iL ((ae p.Offices y1.Expr).L.length) rr6.iP] ([(Rule.mk y1.Kind (i1:Int) y1.Think (Expr.mk ((ae p.Offices y1.Expr).Kind) ((ae p.Offices y1.Expr).N) ((ae p.Offices y1.Expr).No) ((ae p.Offices y1.Expr).Name) ((ae p.Offices y1.Expr).L)))]) from ⟨[.string y1.Kind,I (i1:Int),I y1.Think,I ((ae p.Offices y1.Expr).Kind),I ((ae p.Offices y1.Expr).N),I ((ae p.Offices y1.Expr).No),.string ((ae p.Offices y1.Expr).Name),.slice rr6.iL ((ae p.Offices y1.Expr).L.length) rr6.iP],[],U,U,⟨(wm.mk (cm.mk rr6.iL rr6.iP)),U,(show Rule.ok h7 (Rule.mk y1.Kind (i1:Int) y1.Think (Expr.mk ((ae p.Offices y1.Expr).Kind) ((ae p.Offices y1.Expr).N) ((ae p.Offices y1.Expr).No) ((ae p.Offices y1.Expr).Name) ((ae p.Offices y1.Expr).L))) (wm.mk (cm.mk rr6.iL rr6.iP)) from ⟨(show Expr.ok h7 (Expr.mk ((ae p.Offices y1.Expr).Kind) ((ae p.Offices y1.Expr).N) ((ae p.Offices y1.Expr).No) ((ae p.Offices y1.Expr).Name) ((ae p.Offices y1.Expr).L)) (cm.mk rr6.iL rr6.iP) from Expr.ok.of ok6.list)⟩)⟩,U⟩)) lo lo (fun ob2 oc2 G2 gr2=>qL 1 [] U (dw 2 ty63 U U U U U U (qO 3 U (ad (v':=I (((i1+1):Nat):Int)) U (aL ob) (qO 2 U (bU (L':=[(b2,O [.string p.Name,.slice gp.gI p.Kinds.length gp.gH,.slice gp.fc p.Offices.length gp.fb,.slice ob2 ((k9++[(Rule.mk y1.Kind (i1:Int) y1.Think (Expr.mk ((ae p.Offices y1.Expr).Kind) ((ae p.Offices y1.Expr).N) ((ae p.Offices y1.Expr).No) ((ae p.Offices y1.Expr).Name) ((ae p.Offices y1.Expr).L)))]).length) oc2,I p.Change.Kind,I p.Change.N,I p.Change.No,.string p.Change.Name,.slice gp.Change.iL p.Change.L.length gp.Change.iP,I p.Mode] 68)]++G2) js ?_)))))))
 exact ag1 ((k9++[(Rule.mk y1.Kind (i1:Int) y1.Think (Expr.mk ((ae p.Offices y1.Expr).Kind) ((ae p.Offices y1.Expr).N) ((ae p.Offices y1.Expr).No) ((ae p.Offices y1.Expr).Name) ((ae p.Offices y1.Expr).L)))]),ob2,oc2,G2,h7) hs6 ⟨gr2,lo,(hl1.t hle7)⟩
theorem nv (h:HF) (offices:List ByteArray) (cX:Option Addr) (cW:Nat) (x:Expr) (eL:cm) (hoffices:SlC Rp.str h cX cW offices) (hx:Expr.ok h x eL) (hsz:x.dep≤1500000):Ret prog 159 [.slice cX offices.length cW,.agg (Expr.cells x eL).toArray] h (.bool (bF offices x)):=by
 refine cU HK U ntmps159 U fun X hM hX=>?_
 have hs0:bF offices x=bF offices x:=rfl
 refine sr (cA (fun b1=>cA (fun b2=>bH zc4 (fun b3=>qO 4 U (cJ 1 ty66 U U U (aA (cf FL (kX _ _ _ 1 hx ob) U (fun v1 h1 hle1 hp1=>?_))))))))
 obtain ⟨_,rfl,mo1⟩:=hp1
 refine qO 2 U (gk ?_)
 let z1:Nat×Obj:=(b1,O [.slice cX offices.length cW] 62)
 let z2:Nat×Obj:=(b2,O (Expr.cells x eL) 66)
 refine cS (L':=([(b3,O [.bool false] 4),z2,z1])++markB []) ap ?_
 refine kd (it:=v1) (xs:=(a8 x 1)) (ι:=HF) [] (fun i=>i) (fun i=>[(b3,O [.bool false] 4),z2,z1]) (fun s i=>bF offices x=((bF.L1 offices (bF.K1)) s)∧HF.le h1 i) (fun i=>bF offices x=false∧HF.le h1 i) (fun _=>False) 0 (fun _ _ _=>False) h1 HK U mo1 U lZ (fun _ _ _ _ _ hq=>hq) U (show [(b3,O [.bool false] 4),z2,z1]=_ from U) ⟨hs0,lf⟩ ?_ ?_ ?_ ?_ ?_
 ·rintro l1 dm1 lp1 y1 rz1 vs1 hh1 hr1 X hFR1 ⟨hs1,hl1⟩ hl01 hlr1 hv1 hX hXM hlp1 nx1 rt1 ex1 pn1
  try dsimp only at hl1 hlr1
  obtain ⟨rr1_0,rfl,ok1_0⟩:=hv1
  let z3:Nat×Obj:=(dm1,.deferred (some []))
  refine cS (L':=[(l1,.loop lp1),z3,(b3,O [.bool false] 4),z2,z1]++(markB [])) ap (bn (bH zc258 (fun b5=>bE 0 ty258 U U U U U U (aM (kg 1 U hlp1 (qK 9 [] U (cJ 0 ty66 U U U (ah call220 (lS _ _ _ ok1_0.x) U (aM (ac hs1 U (fun c4 hs2=>?_) (fun c4 hs3=>?_)))))))))))
  ·refine qK 5 [5,0] U (ah HM (jx _ _ _ _ y1.x.Name (hoffices.mono Rp.gl ((hle1.t hl1).t hlr1))) U (qL 10 [0] U (ac hs2 U (fun c5 hs4=>?_) (fun c5 hs5=>?_))))
   ·exact sr (dw 3 ty4 U U U U U U (aM (bU (L':=[(l1,.loop { lp1 with state:=.busy }),z3,(b3,O [.bool false] 4),z2,z1]++(markB [])) js (cS (L':=rdH l1 dm1 lp1 (([(b3,O [.bool false] 4),z2,z1])++markB [])) ap (rt1 hr1 _ _ _ ⟨hs4,(hl1.t hlr1)⟩ lf)))))
   exact aE (dY (bU (L':=[(l1,.loop { lp1 with state:=.busy }),z3,(b3,O [.bool false] 4),z2,z1]++(markB [])) js (cS (L':=rdH l1 dm1 lp1 (([(b3,O [.bool false] 4),z2,z1])++markB [])) ap (nx1 hr1 _ _ ⟨hs5,(hl1.t hlr1)⟩ lf))))
  refine qK 9 [0] U (ac hs3 U (fun c6 hs6=>?_) (fun c6 hs7=>?_))
  ·exact sr (dw 3 ty4 U U U U U U (aM (bU (L':=[(l1,.loop { lp1 with state:=.busy }),z3,(b3,O [.bool false] 4),z2,z1]++(markB [])) js (cS (L':=rdH l1 dm1 lp1 (([(b3,O [.bool false] 4),z2,z1])++markB [])) ap (rt1 hr1 _ _ _ ⟨hs6,(hl1.t hlr1)⟩ lf)))))
  exact aE (dY (bU (L':=[(l1,.loop { lp1 with state:=.busy }),z3,(b3,O [.bool false] 4),z2,z1]++(markB [])) js (cS (L':=rdH l1 dm1 lp1 (([(b3,O [.bool false] 4),z2,z1])++markB [])) ap (nx1 hr1 _ _ ⟨hs7,(hl1.t hlr1)⟩ lf))))
 ·rintro dm1 hh1 hn1 ⟨hs8,hl1⟩ hln1 hl01
  try dsimp only at hl1 hln1
  refine cS (L':=[(b3,O [.bool false] 4),z2,z1]++(markB (dm1::[]))) ap (qT 3 U (dw 0 ty4 U U U U U U (aM ?_)))
  have hs9:bF offices x=true:=hs8
  exact cS (L':=([(b3,O [.bool true] 4),z2,z1])++markB (dm1::[])) ap (rV (dm1::[]) [.bool true] HK U hX ⟨⟨0,_,_,_,_,U,U,.inr ⟨_,ty4,U⟩⟩,trivial⟩ (cs hs9))
 ·rintro dm1 hh1 hn1 ⟨hs10,hl1⟩ hln1 hl01
  try dsimp only at hl1 hln1
  refine cS (L':=[(b3,O [.bool false] 4),z2,z1]++(markB (dm1::[]))) ap ?_
  have hs11:bF offices x=false:=hs10
  exact cS (L':=([(b3,O [.bool false] 4),z2,z1])++markB (dm1::[])) ap (rV (dm1::[]) [.bool false] HK U hX ⟨⟨0,_,_,_,_,U,U,.inr ⟨_,ty4,U⟩⟩,trivial⟩ (cs hs11))
 ·exact xf
 exact xf
theorem px (h:HF) (p:Policy) (gp:dS) (hp:Policy.ok h p gp) (hsm:smP p) (hk:Kinds h):Ret prog 94 [.agg (Policy.cells p gp).toArray] h (I (cj p)):=by
 refine sT func94 U ntmps94 U fun X hM hX hF=>?_
 have hs0:cj p=cj p:=rfl
 have hsc:=hsm.change
 refine sr (cA (fun b1=>qO 5 U (cJ 0 ty68 U U U (aA (cf call158 (tR _ _ _ hp ob hk) U (fun v1 h1 hle1 hp1=>?_))))))
 obtain ⟨rr1,rfl,ok1⟩:=hp1
 refine qO 10 U (ac hs0 U (fun c1 hs1=>?_) (fun c1 hs2=>?_))
 ·exact sr (qO 3 U (nretP [I ((dj p).2)] (ci hs1)))
 refine qK 9 [0] U ?_
 refine lp0 p.Rules (fun i=>[(1,Q b1),(14,.slice gp.kc p.Rules.length gp.kb),(15,I (p.Rules.length:Int)),(16,I (i:Int))]) ([(b1,O (Policy.cells p gp) 68)]) (fun s1 i=>(cj.L1 p (cj.K1 p)) s1 i) ((hp.Rules.mono Rule.ak hle1).1.1) hs2 ?_ ?_
 ·rintro i1 et hs4 e
  refine qK 6 [0] U (cJ 0 ty66 U U U (ah call159 (nv _ _ _ _ _ _ (hp.Offices.mono Rp.gl hle1) (hp.Change.mono hle1) ob) U (qO 2 U (ac hs4 U (fun c2 hs5=>?_) (fun c2 hs6=>?_)))))
  ·exact sr (an (nretP [I 200] (ci hs5)))
  exact aE (qT 4 U (nretP [I 0] (ci hs6)))
 rintro i1 y1 rz1 hd1 cw ao dy fB hs9 hx1 ag1 e
 have hsy:=hsm.2.1 y1 (fq hd1)
 refine sr (ad (v':=.bool true) U (cb cw) (qO 9 U (aA (dV pc ty107 (hp.Rules.mono Rule.ak hle1).1 (nthZ ao) (au ao) U U U (fun _ _ _ e=>e) (fun q2 r2 A2 ok3=>de ty107 A2 U U (bH zc107 (fun b3=>fg (bE 0 ty107 U U U U U U (qL 8 [0] U (ce 7 [25,26,27,28,29,30,31,32] 25 32 (!(bF p.Offices y1.Expr)) U (fun c3 hk1=>?_) (fun e=>?_)))))))))))
 ·exact qL 3 [1] U (cJ 0 ty66 U U U (ah call159 (nv _ _ _ _ _ _ (hp.Offices.mono Rp.gl hle1) ok3.Expr ob) U (qO 2 U (hk1 _ U))))
 refine aM (ac hs9 U (fun c4 hs10=>?_) (fun c4 hs11=>?_))
 ·exact sr (an (nretP [I 200] (ci hs10)))
 exact aE (qT 2 U (ad (v':=I (((i1+1):Nat):Int)) U (aL ob) (qO 2 U (bU (L':=[(b1,O (Policy.cells p gp) 68)]) js (ag1 hs11)))))
theorem ny (h:HF) (l:List Version) (ey:Option Addr) (ew:Nat) (hl:SlC Version.rp h ey ew l) (hsm:smV l) (hk:Kinds h):Ret prog 55 [.slice ey l.length ew] h (I (bh l)):=by
 refine sT func55 U ntmps55 U fun X hM hX hF=>?_
 have hs0:bh l=bh l:=rfl
 have hsl:=hsm.len
 refine qK 11 [] U (ac hs0 U (fun c1 hs1=>?_) (fun c1 hs2=>?_))
 ·have c1p:=of_decide_eq_true c1
  exact sr (an (nretP [I 2] (ci hs1)))
 have c1p:=of_decide_eq_false c1
 refine qK 12 [] U ?_
 refine lp1 l (fun i w=>[(3,I w),(9,.slice ey l.length ew),(10,I (l.length:Int)),(11,I (i:Int))]) ([]) (fun s1 i w=>(bh.L1 (bh.K1)) s1 w) (-1) hl.1.1 hs2 ?_ ?_
 ·rintro i1 gF et hs4 e
  exact sr (an (nretP [I 0] (ci hs4)))
 rintro i1 gF y1 rz1 hd1 cw ao dy fB hs6 hx1 ag1 e
 have hsy:=hsm.2 y1 (fq hd1)
 refine sr (ad (v':=.bool true) U (cb cw) (qO 8 U (aA (dV lg ty70 hl.1 (nthZ ao) (au ao) U U U (fun _ _ _ e=>e) (fun q2 r2 A2 ok2=>de ty70 A2 U U (bH zc70 (fun b2=>bE 0 ty70 U U U U U U (qL 8 [0] U (ah vj (fK h y1.No (IntKind.wrap .i64 (gF+1)) 1048576) U (qO 2 U (ce 5 [21,22,23,24,25,26] 21 26 (!(aH y1.At 0 1099511627775)) U (fun c2 hk1=>?_) (fun e=>?_))))))))))))
 ·exact qL 2 [0] U (ah vj (fK h y1.At 0 1099511627775) U (qO 2 U (hk1 _ U)))
 refine aj (ce 5 [27,28,29,30,31,32] 27 32 (!(aH y1.Known 0 1099511627775)) U (fun c3 hk2=>?_) (fun e=>?_))
 ·exact qL 2 [0] U (ah vj (fK h y1.Known 0 1099511627775) U (qO 2 U (hk2 _ U)))
 refine aj (ce 5 [33,34,35,36,37,38] 33 38 ((cj y1.Policy) != 0) U (fun c4 hk3=>?_) (fun e=>?_))
 ·exact qL 1 [] U (cJ 0 ty68 U U U (ah call94 (px _ _ _ ok2.Policy ob hk) U (qO 2 U (hk3 _ U))))
 refine aM (ac hs6 U (fun c5 hs7=>?_) (fun c5 hs8=>?_))
 ·exact sr (an (nretP [I 200] (ci hs7)))
 exact qK 8 [0] U (ad (v':=I (((i1+1):Nat):Int)) U (aL ob) (qO 2 U (bU (L':=[]) js (ag1 y1.No hs8))))
theorem rL (h:HF) (l:List Document) (ey:Option Addr) (ew:Nat) (hl:SlC Document.rp h ey ew l):iq prog 104 [.slice ey l.length ew] h (fun v h'=>∃ (rr0:n8),v=.agg (gu.cells (bi l) rr0).toArray∧gu.ok h' (bi l) rr0):=by
 refine cU func104 U ntmps104 U fun X hM hX=>?_
 have hs0:bi l=bi l:=rfl
 refine sr (bH zc178 (fun b1=>qO 4 U (aA (pi (fun b2=>aA (er (cells:=[.slice ey l.length ew,.map (some b2)]) (places:=[(0,1),(1,1)]) underlying178 zc178 kr kr (bH zc178 (fun b3=>bE 0 ty178 U U U U U U (qL 8 [] U ?_)))))))))
 let z1:Nat×Obj:=(b3,O [.slice ey l.length ew,.map (some b2)] 178)
 refine lp2 l (fun i w=>[(2,Q b1),(3,Q b3),(9,.slice ey l.length ew),(10,I (l.length:Int)),(11,I (i:Int))]) (fun _=>h) (fun w=>[z1,(b2,w.2),(b1,O [.slice none 0 0,.map none] 178)]) (fun i w=>hO (Value.int .i64) C9 h w.2 w.1∧w.1.length≤0+i) (fun s1 i w=>(bi.L1 (bi.K1 l)) s1 i w.1) ([],.map #[] 0) hl.1.1 hs0 ⟨(hO.nil (enc:=(Value.int .i64)) (V:=C9) (h:=h)),lc⟩ ?_ ?_
 ·rintro i1 ⟨dq,ku⟩ et hs1 ⟨gQ,lz⟩ e
  refine sr (cJ 0 ty178 U U U (bE 2 ty178 U U U U U U (aM (eM 1 U hM (fun h2 hle2 hb2=>?_)))))
  have mc2:oZ (Value.int .i64) C9 h2 b2 dq:=⟨_,hb2,gQ.mono C9.mono hle2⟩
  have hs2:bi l=(gu.mk l dq):=hs1
  exact fR [.agg (List.toArray [.slice ey l.length ew,.map (some b2)])] func104 U ⟨⟨1,_,_,_,_,U,U,.inl ⟨ty178,U⟩⟩,trivial⟩ ⟨(n8.mk ey ew b2),congrArg (fun r:gu=>(.agg (gu.cells r (n8.mk ey ew b2)).toArray:Value)) hs2.symm,(by rw [hs2];exact (show gu.ok h2 (gu.mk l dq) (n8.mk ey ew b2) from ⟨(hl.mono Document.ak hle2),mc2⟩))⟩
 rintro i1 ⟨dq,ku⟩ y1 rz1 hd1 cw ao dy fB hs3 ⟨gQ,lz⟩ hx1 ag1 e
 exact sr (ad (v':=.bool true) U (cb cw) (qO 9 U (aA (dV pH ty52 hl.1 (nthZ ao) (au ao) U U U (fun _ _ _ e=>e) (fun q2 r2 A2 ok2=>de ty52 A2 U U (bH zc52 (fun b5=>fg (bE 0 ty52 U U U U U U (qL 7 [1,0] U (aA (ki 2 (k:=y1.No) (x:=(i1:Int)) underlying176 (eE kL) U gQ U U U (fun mo2 hm2=>qO 3 U (ad (v':=I (((i1+1):Nat):Int)) U (aL ob) (qO 2 U (bU (L':=[z1,(b2,mo2),(b1,O [.slice none 0 0,.map none] 178)]) js (ag1 ((mput dq y1.No (i1:Int)),mo2) hs3 ⟨hm2,(by have:=gq dq y1.No (i1:Int);first | omega | (simp only [List.length_nil,List.length_cons] at *;omega))⟩))))))))))))))))
theorem vX (h:HF) (t:Int)  : Ret prog 173 [I t] h (.bool (jd t)):=by
 refine sT func173 U ntmps173 U fun X hM hX hF=>?_
 have hs0:jd t=jd t:=rfl
 refine qT 9 U (bx 3 [5,6,7,8] 5 8 (decide (t < 1099511627776)) U (fun c1 hk1=>?_) (fun e=>?_))
 ·exact aj (qO 2 U (hk1 _ U))
 exact an (nretP [.bool (decide (0≤t)&&decide (t < 1099511627776))] (cs hs0))
theorem mW (h:HF) (l:List Int) (ey:Option Addr) (ew:Nat) (limit:Int) (hl:SlC Rp.int h ey ew l):Ret prog 174 [.slice ey l.length ew,I limit] h (.bool (cY l limit)):=by
 refine sT func174 U ntmps174 U fun X hM hX hF=>?_
 have hs0:cY l limit=cY l limit:=rfl
 refine qK 15 [] U ?_
 refine lp1 l (fun i w=>[(0,.slice ey l.length ew),(1,I limit),(5,I w),(8,.slice ey l.length ew),(9,I (l.length:Int)),(10,I (i:Int))]) ([]) (fun s1 i w=>(cY.L1 limit (cY.K1 l)) s1 w) (-1) hl.1.1 hs0 ?_ ?_
 ·rintro i1 gZ et hs1 e
  exact qK 7 [] U (nretP [.bool (decide ((l.length:Int)≤16))] (cs hs1))
 rintro i1 gZ y1 rz1 hd1 cw ao dy fB hs3 hx1 ag1 e
 refine sr (ad (v':=.bool true) U (cb cw) (qO 8 U (aA (ek (enc:=fun y=>[I y]) ei cQ ty3 hl.1 (nthZ ao) (au ao) U U U (fun q2 A2=>cK ty3 A2 U (qO 9 U (ce 4 [17,18,19,20,21] 17 21 (decide (limit≤y1)) U (fun c1 hk1=>?_) (fun e=>?_))))))))
 ·exact aj (qO 3 U (hk1 _ U))
 refine aM (ac hs3 U (fun c2 hs4=>?_) (fun c2 hs5=>?_))
 ·exact sr (an (nretP [.bool false] (cs hs4)))
 exact aE (qT 6 U (ad (v':=I (((i1+1):Nat):Int)) U (aL ob) (qO 2 U (ag1 y1 hs5))))
theorem uY (h:HF) (d:Document) (wo:gE) (hd:Document.ok h d wo):Ret prog 105 [.agg (Document.cells d wo).toArray] h (.bool (fE d)):=by
 refine sT func105 U ntmps105 U fun X hM hX hF=>?_
 have hs0:fE d=fE d:=rfl
 refine sr (cA (fun b1=>qL 8 [0] U (bx 4 [7,8,9,10,11] 7 11 (decide (d.No < 4096)) U (fun c1 hk1=>?_) (fun e=>?_))))
 ·exact qL 4 [0] U (hk1 _ U)
 refine aj (bx 4 [12,13,14,15,16] 12 16 (jd d.At) U (fun c2 hk2=>?_) (fun e=>?_))
 ·exact qL 2 [0] U (ah call173 (vX h d.At) U (dZ U (hk2 _ U)))
 refine aj (bx 4 [17,18,19,20,21] 17 21 (decide (0≤d.Kind)) U (fun c3 hk3=>?_) (fun e=>?_))
 ·exact qL 4 [0] U (hk3 _ U)
 refine aj (bx 4 [22,23,24,25,26] 22 26 (decide (d.Kind < 16)) U (fun c4 hk4=>?_) (fun e=>?_))
 ·exact qL 4 [0] U (hk4 _ U)
 refine aj (bx 4 [27,28,29,30,31] 27 31 (decide (0≤d.Value)) U (fun c5 hk5=>?_) (fun e=>?_))
 ·exact qL 4 [0] U (hk5 _ U)
 refine aj (bx 4 [32,33,34,35,36] 32 36 (decide (d.Value≤1099511627776)) U (fun c6 hk6=>?_) (fun e=>?_))
 ·exact qL 4 [0] U (hk6 _ U)
 refine qO 6 U (bx 4 [38,39,40,41,42] 38 42 (decide (0≤d.From)) U (fun c7 hk7=>?_) (fun e=>?_))
 ·exact qL 4 [0] U (hk7 _ U)
 refine aj (bx 6 [43,44,45,46,47,48,49] 43 49 (decide (d.From < d.Until)) U (fun c8 hk8=>?_) (fun e=>?_))
 ·exact qL 6 [0,0] U (hk8 _ U)
 refine aj (bx 4 [50,51,52,53,54] 50 54 (decide (d.Until≤1099511627776)) U (fun c9 hk9=>?_) (fun e=>?_))
 ·exact qL 4 [0] U (hk9 _ U)
 refine aj (bx 4 [55,56,57,58,59] 55 59 (cY d.Parties 1048577) U (fun c10 hk10=>?_) (fun e=>?_))
 ·exact qL 2 [0] U (ah call174 (mW _ _ _ _ 1048577 hd.Parties) U (dZ U (hk10 _ U)))
 refine aj (bx 6 [60,61,62,63,64,65,66] 60 66 (cY d.Revokes d.No) U (fun c11 hk11=>?_) (fun e=>?_))
 ·exact qL 4 [0,0] U (ah call174 (mW _ _ _ _ d.No hd.Revokes) U (dZ U (hk11 _ U)))
 refine aj (bx 6 [67,68,69,70,71,72,73] 67 73 (cY d.Needs d.No) U (fun c12 hk12=>?_) (fun e=>?_))
 ·exact qL 4 [0,0] U (ah call174 (mW _ _ _ _ d.No hd.Needs) U (dZ U (hk12 _ U)))
 exact an (nretP [.bool ((((((((((((decide (0≤d.No)&&decide (d.No < 4096))&&(jd d.At))&&decide (0≤d.Kind))&&decide (d.Kind < 16))&&decide (0≤d.Value))&&decide (d.Value≤1099511627776))&&decide (0≤d.From))&&decide (d.From < d.Until))&&decide (d.Until≤1099511627776))&&(cY d.Parties 1048577))&&(cY d.Revokes d.No))&&(cY d.Needs d.No))] (cs hs0))
theorem ma (h:HF) (no:Int) (v0:gu) (KW:n8) (v0_q:Addr) (hv0:gu.ok h v0 KW) (av0:At h v0_q (gu.cells v0 KW)):Ret prog 175 [I no,.pointer (some v0_q)] h (.bool (dE no v0)):=by
 refine sT func175 U ntmps175 U fun X hM hX hF=>?_
 have hs0:dE no v0=dE no v0:=rfl
 refine qK 7 [] U (jF (j:=1) ty176 av0 U U (aj ?_))
 obtain ⟨o1,hb1,hm1⟩:=hv0.at_
 refine aA (xp (k:=no) underlying176 (eE kL) hb1 hm1 (ji zv3) (show C9 _ (I 0) 0 from U) U U (fun v1 hv1=>?_))
 obtain rfl:=hv1
 exact aj (qO 11 U (nretP [.bool (!(mhas v0.at_ no))] (cs hs0)))
theorem mV (h:HF) (s:gu) (Li:n8) (d:Document) (wo:gE) (hs:gu.ok h s Li) (hd:Document.ok h d wo):Ret prog 106 [.agg (gu.cells s Li).toArray,.agg (Document.cells d wo).toArray] h (.bool (dO s d)):=by
 refine sT func106 U ntmps106 U fun X hM hX hF=>?_
 have hs0:dO s d=dO s d:=rfl
 refine sr (cA (fun b1=>cA (fun b2=>qO 4 U (bN 1 U hM (fun h1 hle1 hb1=>aA (fX U U (qL 7 [0] U (ah HN (ir _ _ _ _ (fun ed=>dE ed s) (.func (.func 175) #[] #[Q b1]) (hd.Revokes.mono Rp.aK hle1) (fun h' ed hle =>i0 call175 (ma h' ed s Li ⟨b1,0,none⟩  ((hs.mono hle1).mono hle) ((dp hb1).mono hle)))) U (qO 2 U (bx 6 [12,13,14,15,16,17,18] 12 18 (!(cV d.Needs (fun ed=>dE ed s))) U (fun c1 hk1=>?_) (fun e=>?_)))))))))))
 ·exact qL 3 [0] U (ah HN (ir _ _ _ _ (fun ed=>dE ed s) (.func (.func 175) #[] #[Q b1]) (hd.Needs.mono Rp.aK hle1) (fun h' ed hle =>i0 call175 (ma h' ed s Li ⟨b1,0,none⟩  ((hs.mono hle1).mono hle) ((dp hb1).mono hle)))) U (qO 2 U (hk1 _ U)))
 exact an (nretP [.bool ((!(cV d.Revokes (fun ed=>dE ed s)))&&(!(cV d.Needs (fun ed=>dE ed s))))] (cs hs0))
theorem uZ (h:HF) (l:List Document) (ey:Option Addr) (ew:Nat) (hl:SlC Document.rp h ey ew l):Ret prog 56 [.slice ey l.length ew] h (I (bI l)):=by
 refine sT func56 U ntmps56 U fun X hM hX hF=>?_
 have hs0:bI l=bI l:=rfl
 refine qK 11 [] U (ac hs0 U (fun c1 hs1=>?_) (fun c1 hs2=>?_))
 ·have c1p:=of_decide_eq_true c1
  exact sr (an (nretP [I 2] (ci hs1)))
 have c1p:=of_decide_eq_false c1
 refine qT 4 U (aA (cf call104 (rL _ _ _ _ hl) U (fun v1 h1 hle1 hp1=>?_)))
 obtain ⟨rr1,rfl,ok1⟩:=hp1
 refine bH zc178 (fun b1=>bE 0 ty178 U U U U U U (qL 8 [] U ?_))
 let z1:Nat×Obj:=(b1,O (gu.cells (bi l) rr1) 178)
 refine lp0 l (fun i=>[(0,.slice ey l.length ew),(3,Q b1),(11,.slice ey l.length ew),(12,I (l.length:Int)),(13,I (i:Int))]) ([z1]) (fun s1 i=>(bI.L1 l (bI.K1)) s1 i) ((hl.mono Document.ak hle1).1.1) hs2 ?_ ?_
 ·rintro i1 et hs4 e
  exact sr (an (nretP [I 0] (ci hs4)))
 rintro i1 y1 rz1 hd1 cw ao dy fB hs6 hx1 ag1 e
 refine sr (ad (v':=.bool true) U (cb cw) (qO 9 U (aA (dV pH ty52 (hl.mono Document.ak hle1).1 (nthZ ao) (au ao) U U U (fun _ _ _ e=>e) (fun q3 r3 A3 ok4=>de ty52 A3 U U (bH zc52 (fun b3=>fg (bE 0 ty52 U U U U U U (qO 2 U ?_)))))))))
 refine ke [(0,.slice ey l.length ew),(3,Q b1),(11,.slice ey l.length ew),(12,I (l.length:Int)),(13,I (i1:Int)),(41,.bool (((!(fE y1))||(decide (0 < (i1:Int))&&decide (y1.No≤(nthI l ((i1:Int) - 1)).No)))||(!(dO (bi l) y1))))] (fun e=>?_) (fun hk1=>?_)
 rotate_left
 ·let z2:Nat×Obj:=(b3,O (Document.cells y1 r3) 52)
  refine eB ([z2,z1]) mixed kr jn (fun cB _=>?_)
  refine tf 0 U U (fun _ _ hj=>jj ty52 U (hj.nth (i:=0) U) U) (tn 1 U (eK call105 (uY _ _ _ ok4) U (⟨jn,qA [2,3] U ?_⟩)))
  refine cx 21 U (fun c2=>?_) (fun c2=>?_)
  ·exact tk 4 U U (qR 5 19 U (aI kr (hk1 _ ⟨U,U,U,U,U,(cb (show true=(((!(fE y1))||(decide (0 < (i1:Int))&&decide (y1.No≤(nthI l ((i1:Int) - 1)).No)))||(!(dO (bi l) y1))) from by rw [c2] <;> rfl)),trivial⟩)))
  refine qR 4 3 U ?_
  refine cx 24 U (fun c3=>?_) (fun c3=>?_)
  ·have c3p:=of_decide_eq_true c3
   refine qB [7] U (tf 8 U U (fun _ _ hj=>fI ty3 U (hj.nth (i:=0) U) U) (qA [9,10] U (tf 11 U U (fun _ _ _=>mq (v':=I ((i1:Int) - 1)) U (gG ob)) ?_)))
   have ho2:0≤(((i1:Int) - 1):Int)∧(((i1:Int) - 1):Int) < ((l).length:Int):=ob
   refine gC 12 cB jn pH ty52 (hl.mono Document.ak hle1).1 ho2 (bT ho2) U U U U kr (fun q4 cs4 A4 ln4 rr5=>?_)
   obtain ⟨r4,rfl,ok5⟩:=rr5
   refine qB [13] U (tf 14 U U (fun _ _ hj=>eF ty3 (A4.mono hj.1) U) (qR 15 4 U ?_))
   refine cx 36 U (fun c4=>?_) (fun c4=>?_)
   ·have c4p:=of_decide_eq_true c4
    exact tk 19 U U (qR 20 4 U (aI kr (hk1 _ ⟨U,U,U,U,U,(cb (show true=(((!(fE y1))||(decide (0 < (i1:Int))&&decide (y1.No≤(nthI l ((i1:Int) - 1)).No)))||(!(dO (bi l) y1))) from by rw [c2,c3,c4] <;> rfl)),trivial⟩)))
   have c4p:=of_decide_eq_false c4
   exact tf 19 U U (fun _ _ hj=>jj ty178 U (hj.nth (i:=1) U) U) (tf 20 U U (fun _ _ hj=>jj ty52 U (hj.nth (i:=0) U) U) (tn 21 U (eK call106 (mV _ _ _ _ _ ok1 ok4) U (⟨jn,qA [22,23] U (aI kr (hk1 _ ⟨U,U,U,U,U,(cb (show (!(dO (bi l) y1))=(((!(fE y1))||(decide (0 < (i1:Int))&&decide (y1.No≤(nthI l ((i1:Int) - 1)).No)))||(!(dO (bi l) y1))) from by rw [c2,c3,c4] <;> rfl)),trivial⟩))⟩))))
  have c3p:=of_decide_eq_false c3
  exact tk 7 U U (qR 8 11 U (tf 19 U U (fun _ _ hj=>jj ty178 U (hj.nth (i:=1) U) U) (tf 20 U U (fun _ _ hj=>jj ty52 U (hj.nth (i:=0) U) U) (tn 21 U (eK call106 (mV _ _ _ _ _ ok1 ok4) U (⟨jn,qA [22,23] U (aI kr (hk1 _ ⟨U,U,U,U,U,(cb (show (!(dO (bi l) y1))=(((!(fE y1))||(decide (0 < (i1:Int))&&decide (y1.No≤(nthI l ((i1:Int) - 1)).No)))||(!(dO (bi l) y1))) from by rw [c2,c3] <;> rfl)),trivial⟩))⟩))))))
 refine ac hs6 U (fun c5 hs7=>?_) (fun c5 hs8=>?_)
 ·exact sr (an (nretP [I 170] (ci hs7)))
 exact aE (qT 2 U (ad (v':=I (((i1+1):Nat):Int)) U (aL ob) (qO 2 U (bU (L':=[z1]) js (ag1 hs8)))))
theorem rN (h:HF) (dG:Int) (v0:Int) (v0_q:Addr) (av0:At h v0_q [I v0]):Ret prog 226 [I dG,.pointer (some v0_q)] h (.bool (hY dG v0)):=by
 refine sT func226 U ntmps226 U fun X hM hX hF=>?_
 have hs0:hY dG v0=hY dG v0:=rfl
 refine qT 9 U (ce 4 [6,7,8,9,10] 6 10 (decide (v0 < dG)) U (fun c1 hk1=>?_) (fun e=>?_))
 ·exact aj (cK ty3 av0 U (qO 2 U (hk1 _ U)))
 exact an (nretP [.bool (decide (dG < 0)||decide (v0 < dG))] (cs hs0))
theorem jv (h:HF) (most:Int) (l:List Int) (ey:Option Addr) (ew:Nat) (hl:SlC Rp.int h ey ew l):Ret prog 177 [I most,.slice ey l.length ew] h (.bool (dQ most l)):=by
 refine sT func177 U ntmps177 U fun X hM hX hF=>?_
 have hs0:dQ most l=dQ most l:=rfl
 exact sr (cA (fun b1=>qO 5 U (bN 0 U hM (fun h1 hle1 hb1=>aA (fX U U (ah HN (ir _ _ _ _ (fun ed=>hY ed most) (.func (.func 226) #[] #[Q b1]) (hl.mono Rp.aK hle1) (fun h' ed hle =>i0 call226 (rN h' ed most ⟨b1,0,none⟩  ((dp hb1).mono hle)))) U (qO 3 U (nretP [.bool (!(cV l (fun ed=>hY ed most)))] (cs hs0)))))))))
end Go.Sg
