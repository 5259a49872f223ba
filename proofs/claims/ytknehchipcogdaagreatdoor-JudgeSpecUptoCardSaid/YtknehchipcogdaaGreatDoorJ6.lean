import Derived.Shelf.SlSortCmp.WholeK
import Derived.Ground.SlsfProg
import Derived.Shelf.Small.Bits
import Derived.Shelf.Small.Strs
import Derived.Shelf.Strconv.Itoa0
import Derived.Shelf.Strings.Search1
import Derived.Shelf.Sort.Plain
import Derived.Ground.Names2Prog
import Derived.Shelf.Slices.Clone
import Derived.Shelf.Slices.CompactI
import Derived.Shelf.Slices.SearchI
import Derived.Shelf.Slices.In.SortNone
import Derived.Shelf.Slices.Empties
import Derived.Ground.SlgcProg
import Derived.Shelf.SlicesG.Cmp
import Derived.Shelf.SlSortCmp.Insertion
import Derived.Shelf.SlSortCmp.Insertion1
import Derived.Sort.OwnSortedInts
import Derived.Test.YtknehchipcogdaaGreatDoorJ5
/- A part of the proof of JudgeSpec. -/
set_option linter.unusedVariables false
set_option linter.unusedSimpArgs false
set_option maxRecDepth 100000
open Go.Sg.Rp renaming int→jB
open List renaming mem_singleton→kB,append_assoc→zC,perm_append_comm→zD
open Go.Value renaming int→jC
open Nat renaming le_refl→zE,blt→kH,le_trans→zN,ble→YE
open Go.Sg.HF renaming le_refl→vF
open Go.Obj renaming cells→vG
open Go.Sg.Register renaming mk→kM
open Option.some renaming injEq→kN
open Go.Addr renaming add→jP
open Go.Sg.OSeat renaming enc→jS,mk→Yg
open Go.Sg.Budget renaming cells→zV,rp→xV,mk→YM
open Go.Sg.St renaming start→Yw
open Go.Instr renaming fill→Y0
open Go.Sg.RpG renaming good→ZI

namespace Go.Sg
variable {E:TypeId}{G:LH}{K:Env->HF->LH->Prop}{P:Program}{T bk c cap cap2 i j m mm off sz yt:Nat}{a b w:Bool}{ass:Array Operand}{ats:Array TypeId}{base:Option Addr}{cl vs zs:List Go.Value}{dn gk:List Nat}{f:FuncId}{fz:Nat×Nat}{h:HF}{hi ix s x y:Operand}{op:Op}{parts:List (Nat×Operand)}{pe:Int->Go.Value}{pl:List (Nat×Nat)}{q:Option Nat}{v:Go.Value}{z:Int}{α κ ρ:Type}{R:Rp α}{V:HF->Go.Value->α->Prop}{fv:ρ->Go.Value}{xs:List α}{ys:List α}
section
open Go.Proofs Go.Proofs.Tryz
def wT:List (Nat×(Nat×Bool)):=(224,(1,false))::(280,(1,false))::(288,(1,false))::(325,(2,true))::(31,(1,false))::(351,(1,false))::(3,(1,false))::(37,(1,false))::(375,(1,true))::(329,(2,true))::(327,(1,false))::(326,(1,false))::(330,(1,false))::(78,(7,true))::(24,(1,false))::(4,(1,false))::(26,(1,false))::(256,(1,false))::(275,(2,true))::(218,(6,true))::(153,(1,false))::(133,(1,false))::(168,(1,false))::(185,(2,true))::(54,(41,true))::(183,(1,false))::(36,(4,true))::(94,(2,true))::(33,(1,false))::(91,(50,true))::(25,(1,false))::(32,(1,false))::(61,(10,true))::(115,(5,true))::(93,(1,false))::(195,(1,false))::(44,(1,false))::(199,(1,false))::(240,(1,false))::(76,(7,true))::(150,(10,true))::(81,(8,true))::(382,(1,false))::(59,(5,true))::(57,(1,false))::(316,(6,true))::(56,(1,false))::(65,(8,true))::(55,(1,false))::(9,(1,false))::(293,(1,false))::(63,(13,true))::(67,(8,true))::(22,(1,false))::(23,(1,false))::(27,(1,false))::(28,(1,false))::(30,(7,true))::(395,(4,true))::(391,(1,false))::(398,(1,false))::(178,(1,false))::(341,(5,true))::(400,(4,true))::(384,(1,false))::(386,(3,true))::(226,(5,true))::(229,(2,true))::(284,(2,true))::(241,(1,false))::(292,(3,true))::(409,(1,false))::(359,(1,false))::(360,(5,true))::(69,(2,true))::(130,(1,false))::[]
def wZ:List (Nat×List Value):=(325,[.int .i64 0,.int .i64 0])::(3,[.int .i64 0])::(37,[.int .i64 0])::(375,[.int .i64 0])::(329,[.slice none 0 0,.int .i64 0])::(78,[.int .i64 0,.int .i64 0,.int .i64 0,.int .i64 0,.int .i64 0,.bool false,.bool false])::(326,[.map none])::(224,[.map none])::(327,[.chan none])::(330,[.nilFunc])::(256,[.nilFunc])::(31,[.slice none 0 0])::(275,[.slice none 0 0,.int .i64 0])::(218,[.slice none 0 0,.map none,.slice none 0 0,.slice none 0 0,.slice none 0 0,.map none])::(153,[.pointer none])::(133,[.map none])::(168,[.slice none 0 0])::(185,[.slice none 0 0,.map none])::(54,(.int .i64 0::.int .i64 0::.int .i64 0::.int .i64 0::.int .i64 0::.int .i64 0::.slice none 0 0::.slice none 0 0::.slice none 0 0::.int .u8 0::.int .u8 0::.int .u8 0::.int .u8 0::.int .u8 0::.int .u8 0::.int .u8 0::.int .u8 0::.int .u8 0::.int .u8 0::.int .u8 0::.int .u8 0::.int .u8 0::.int .u8 0::.int .u8 0::.int .u8 0::.int .u8 0::.int .u8 0::.int .u8 0::.int .u8 0::.int .u8 0::.int .u8 0::.int .u8 0::.int .u8 0::.int .u8 0::.int .u8 0::.int .u8 0::.int .u8 0::.int .u8 0::.int .u8 0::.int .u8 0::.int .u8 0::[]))::(183,[.map none])::(36,[.int .i64 0,.int .i64 0,.slice none 0 0,.slice none 0 0])::(94,[.int .i64 0,.nilFunc])::(91,(.slice none 0 0::.slice none 0 0::.slice none 0 0::.slice none 0 0::.slice none 0 0::.slice none 0 0::.slice none 0 0::.int .i64 0::.int .i64 0::.int .i64 0::.int .i64 0::.int .i64 0::.int .i64 0::.slice none 0 0::.slice none 0 0::.slice none 0 0::.int .u8 0::.int .u8 0::.int .u8 0::.int .u8 0::.int .u8 0::.int .u8 0::.int .u8 0::.int .u8 0::.int .u8 0::.int .u8 0::.int .u8 0::.int .u8 0::.int .u8 0::.int .u8 0::.int .u8 0::.int .u8 0::.int .u8 0::.int .u8 0::.int .u8 0::.int .u8 0::.int .u8 0::.int .u8 0::.int .u8 0::.int .u8 0::.int .u8 0::.int .u8 0::.int .u8 0::.int .u8 0::.int .u8 0::.int .u8 0::.int .u8 0::.int .u8 0::.int .i64 0::.int .i64 0::[]))::(61,[.string (⟨#[]⟩:ByteArray),.slice none 0 0,.slice none 0 0,.slice none 0 0,.int .i64 0,.int .i64 0,.int .i64 0,.string (⟨#[]⟩:ByteArray),.slice none 0 0,.int .i64 0])::(4,[.bool false])::(115,[.bool false,.slice none 0 0,.slice none 0 0,.slice none 0 0,.nilFunc])::(93,[.nilFunc])::(195,[.slice none 0 0])::(44,[.slice none 0 0])::(199,[.slice none 0 0])::(240,[.slice none 0 0])::(76,[.int .i64 0,.int .i64 0,.int .i64 0,.int .i64 0,.int .i64 0,.int .i64 0,.bool false])::(150,[.int .i64 0,.int .i64 0,.int .i64 0,.int .i64 0,.int .i64 0,.int .i64 0,.int .i64 0,.int .i64 0,.int .i64 0,.bool false])::(81,[.int .i64 0,.int .i64 0,.int .i64 0,.int .i64 0,.int .i64 0,.int .i64 0,.int .i64 0,.bool false])::(316,[.int .i64 0,.int .i64 0,.int .i64 0,.string (⟨#[]⟩:ByteArray),.slice none 0 0,.int .i64 0])::(59,[.int .i64 0,.int .i64 0,.int .i64 0,.string (⟨#[]⟩:ByteArray),.slice none 0 0])::(65,[.string (⟨#[]⟩:ByteArray),.int .i64 0,.int .i64 0,.int .i64 0,.int .i64 0,.int .i64 0,.string (⟨#[]⟩:ByteArray),.slice none 0 0])::(57,[.slice none 0 0])::(63,[.int .i64 0,.int .i64 0,.int .i64 0,.string (⟨#[]⟩:ByteArray),.slice none 0 0,.slice none 0 0,.slice none 0 0,.int .i64 0,.int .i64 0,.int .i64 0,.string (⟨#[]⟩:ByteArray),.slice none 0 0,.int .i64 0])::(67,[.int .i64 0,.int .i64 0,.int .i64 0,.int .i64 0,.int .i64 0,.int .i64 0,.int .i64 0,.bool false])::(395,[.int .i64 0,.int .i64 0,.int .i64 0,.int .i64 0])::(28,[.slice none 0 0])::(391,[.map none])::(400,[.int .i64 0,.int .i64 0,.int .i64 0,.int .i64 0])::(178,[.nilFunc])::(398,[.map none])::(341,[.int .i64 0,.int .i64 0,.int .i64 0,.int .i64 0,.int .i64 0])::(386,[.int .i64 0,.int .i64 0,.bool false])::(384,[.map none])::(226,[.int .i64 0,.int .i64 0,.int .i64 0,.int .i64 0,.int .i64 0])::(229,[.int .i64 0,.int .i64 0])::(26,[.slice none 0 0])::(284,[.int .i64 0,.int .i64 0])::(409,[.nilFunc])::(360,[.nilFunc,.nilFunc,.nilFunc,.nilFunc,.nilFunc])::(292,[.int .i64 0,.slice none 0 0,.slice none 0 0])::(241,[.slice none 0 0])::(9,[.string (⟨#[]⟩:ByteArray)])::(30,[.slice none 0 0,.slice none 0 0,.slice none 0 0,.slice none 0 0,.slice none 0 0,.slice none 0 0,.slice none 0 0])::(69,[.int .i64 0,.int .i64 0])::[]
def wB:List (Nat×Nat):=(325,16)::(3,8)::(78,48)::(329,32)::(275,32)::(4,1)::(93,8)::(195,24)::(44,24)::(240,24)::(59,64)::(65,96)::(67,64)::(150,80)::(81,64)::(63,184)::(284,16)::(241,24)::(69,16)::(76,56)::[]
def wS:List (Nat×Nat):=(22,76)::(23,150)::(24,78)::(25,81)::(26,63)::(27,54)::(28,67)::(31,3)::(32,226)::(44,69)::(55,9)::(56,65)::(57,59)::(97,94)::(110,37)::(125,31)::(168,4)::(195,93)::(199,44)::(240,241)::(241,284)::(272,275)::(351,325)::[]
def wL:List (Nat×Bool):=(22,true)::(23,true)::(24,true)::(25,true)::(26,true)::(27,true)::(28,true)::(31,true)::(32,true)::(44,true)::(55,true)::(56,true)::(57,true)::(97,true)::(110,true)::(125,true)::(168,true)::(195,true)::(199,true)::(240,true)::(241,true)::(272,true)::(351,true)::(9,false)::(10,false)::(11,false)::[]
def wP:List (Nat×List (Nat×Nat)):=(30,[(0,1),(1,1),(2,1),(3,1),(4,1),(5,1),(6,1)])::(36,[(0,1),(1,1),(2,1),(3,1)])::(54,[(0,1),(1,1),(2,1),(3,1),(4,1),(5,1),(6,1),(7,1),(8,1),(9,32)])::(59,[(0,1),(1,1),(2,1),(3,1),(4,1)])::(61,[(0,1),(1,1),(2,1),(3,1),(4,5),(9,1)])::(63,[(0,1),(1,1),(2,1),(3,10)])::(65,[(0,1),(1,1),(2,1),(3,5)])::(67,[(0,1),(1,1),(2,1),(3,1),(4,1),(5,1),(6,1),(7,1)])::(69,[(0,1),(1,1)])::(76,[(0,1),(1,1),(2,1),(3,1),(4,1),(5,1),(6,1)])::(78,[(0,1),(1,1),(2,1),(3,1),(4,1),(5,1),(6,1)])::(81,[(0,1),(1,1),(2,1),(3,1),(4,1),(5,1),(6,1),(7,1)])::(91,[(0,7),(7,41),(48,1),(49,1)])::(94,[(0,1),(1,1)])::(115,[(0,1),(1,1),(2,1),(3,1),(4,1)])::(150,[(0,1),(1,1),(2,1),(3,1),(4,1),(5,1),(6,1),(7,1),(8,1),(9,1)])::(185,[(0,1),(1,1)])::(218,[(0,2),(2,1),(3,1),(4,1),(5,1)])::(226,[(0,1),(1,1),(2,1),(3,1),(4,1)])::(229,[(0,1),(1,1)])::(275,[(0,1),(1,1)])::(284,[(0,1),(1,1)])::(292,[(0,1),(1,1),(2,1)])::(316,[(0,5),(5,1)])::(325,[(0,1),(1,1)])::(329,[(0,1),(1,1)])::(341,[(0,1),(1,1),(2,1),(3,1),(4,1)])::(375,[(0,1)])::(386,[(0,1),(1,1),(2,1)])::(395,[(0,1),(1,1),(2,1),(3,1)])::(400,[(0,1),(1,1),(2,1),(3,1)])::[]
def wF:List (Nat×Nat×Nat):=(375,0,0)::(329,0,0)::(329,1,1)::(78,0,0)::(78,3,3)::(78,4,4)::(78,5,5)::(284,1,1)::(275,0,0)::(275,1,1)::(218,0,0)::(218,1,2)::(218,2,3)::(218,3,4)::(218,4,5)::(185,0,0)::(185,1,1)::(54,0,0)::(54,7,7)::(54,8,8)::(36,0,0)::(36,1,1)::(36,2,2)::(36,3,3)::(94,0,0)::(94,1,1)::(30,3,3)::(30,4,4)::(30,5,5)::(91,0,0)::(91,1,7)::(91,2,48)::(91,3,49)::(54,1,1)::(54,2,2)::(54,3,3)::(115,0,0)::(115,1,1)::(115,2,2)::(115,3,3)::(115,4,4)::(76,6,6)::(76,0,0)::(76,1,1)::(76,2,2)::(76,3,3)::(76,4,4)::(76,5,5)::(150,0,0)::(150,1,1)::(150,2,2)::(150,4,4)::(150,5,5)::(150,6,6)::(150,7,7)::(150,9,9)::(150,3,3)::(150,8,8)::(78,1,1)::(78,2,2)::(81,7,7)::(81,0,0)::(81,1,1)::(81,2,2)::(81,3,3)::(81,4,4)::(81,5,5)::(81,6,6)::(59,4,4)::(61,3,3)::(65,3,3)::(61,4,4)::(61,2,2)::(61,1,1)::(316,1,5)::(59,0,0)::(61,0,0)::(316,0,0)::(59,3,3)::(59,1,1)::(61,5,9)::(65,0,0)::(65,2,2)::(59,2,2)::(65,1,1)::(63,0,0)::(63,1,1)::(63,2,2)::(63,3,3)::(54,4,4)::(54,5,5)::(54,6,6)::(67,0,0)::(67,1,1)::(67,2,2)::(67,3,3)::(67,4,4)::(67,5,5)::(67,6,6)::(30,0,0)::(30,1,1)::(30,2,2)::(30,6,6)::(67,7,7)::(341,0,0)::(341,1,1)::(341,2,2)::(341,3,3)::(341,4,4)::(78,6,6)::(226,0,0)::(226,1,1)::(226,2,2)::(226,3,3)::(226,4,4)::(325,1,1)::(325,0,0)::(284,0,0)::(292,1,1)::(292,2,2)::(292,0,0)::(69,0,0)::(69,1,1)::[]
theorem nf:wT.map (λx=>tySz prog x.1)=wT.map (λx=>some x.2):=by kernel_rfl
theorem Fy:wZ.map (λx=>zeroC prog x.1)=wZ.map (λx=>some x.2):=by kernel_rfl
theorem Q7:wB.map (λx=>bytesOf prog x.1)=wB.map (λx=>some x.2):=by kernel_rfl
theorem zj:wS.map (λx=>sliceE prog x.1)=wS.map (λx=>some x.2):=by kernel_rfl
theorem HJ:wL.map (λx=>lenK prog x.1)=wL.map (λx=>some x.2):=by kernel_rfl
theorem W2:wP.map (λx=>plcs prog x.1)=wP.map (λx=>some x.2):=by kernel_rfl
theorem Li:(wF.all λx=>fldOf prog x.1 x.2.1==some x.2.2)=true:=by kernel_rfl
class Cl(f:FuncId):Prop where
 call:∀args w,(callFunc f args).run prog w=.ok (.enter f args) w
class CtI(f:FuncId) where
 p:Prop
 pf:p
class Ct(f:FuncId) where
 p:Prop
 call:∀args w,(callFunc f args).run prog w=.ok (.enter f args) w
 pf:p
instance:RpG aV.rp:=⟨aV.ft⟩
instance:RpG Use.rp:=⟨Use.ft⟩
instance:RpG aA.rp:=⟨aA.ft⟩
instance:RpG aE.rp:=⟨aE.ft⟩
instance:RpG av.rp:=⟨av.ft⟩
instance:RpG xV:=⟨Budget.ft⟩
instance:RpG ae.rp:=⟨ae.ft⟩
instance:RpG ai.rp:=⟨ai.ft⟩
instance:RpG aC.rp:=⟨aC.ft⟩
instance:RpG aj.rp:=⟨aj.ft⟩
class Sub(cl:List Value)(off m:Nat)(cs:outParam (List Value)):Prop where
 pf:cut cl off m=some cs
instance (x:fI) (r:yp):Sub (fI.cells x r) 3 5 (ai.cells x.ai r.ai):=⟨rfl⟩
instance (x:aC) (r:px):Sub (aC.cells x r) 3 10 (aw.cells x.aw r.aw):=⟨rfl⟩
class UpI(cl:List Value)(off:Nat)(f:outParam (Int->List Value)):Prop where
 pf:∀a,splice cl off [.int .i64 a]=f a
class UpB(cl:List Value)(off:Nat)(f:outParam (Bool->List Value)):Prop where
 pf:∀a,splice cl off [.bool a]=f a
class UpS(cl:List Value)(off:Nat)(f:outParam (ByteArray->List Value)):Prop where
 pf:∀a,splice cl off [.string a]=f a
class UpL(cl:List Value)(off:Nat){α : outParam Type}(f:outParam (List α->Option Addr->Nat->List Value)):Prop where
 pf:∀l b c,splice cl off [.slice b l.length c]=f l b c
class UpA(cl:List Value)(off:Nat)(vs:List Value)(cl2:outParam (List Value)):Prop where
 pf:splice cl off vs=cl2
class RpT(E:Nat){α : outParam Type}(R:outParam (Rp α)):Prop where
 pf:R.Good
instance:RpT 3 jB:=⟨ZI⟩
instance:RpT 4 Rp.bool:=⟨ZI⟩
instance:RpT 59 ai.rp:=⟨ZI⟩
instance:RpT 67 ae.rp:=⟨ZI⟩
instance:RpT 78 av.rp:=⟨ZI⟩
instance:RpT 81 xV:=⟨ZI⟩
instance:RpT 150 aE.rp:=⟨ZI⟩
instance:RpT 241 (Rp.sl aV.rp):=⟨ZI⟩
instance:RpT 284 aV.rp:=⟨ZI⟩
section
variable {b:Frame} {n:Nat} {k:List Item} {F:List Frame->(Machine->Prop)->Prop} {e:Env} {ds:List Deferred} {X:Cx} {h:HF} {L:LH}
variable {ops ops':Array Oper} {l l':List Oper} {d:Nat} {ty:TypeId} {pos:String} {af:Array Edge} {g:Option (Nat×Bool)} {k':List Item} {e':Env}
theorem wtt(hr:goM false wF wL n 300 (.tt k e)=some (.tt k' e'))(t:TT prog b n k' F e' ds X h L):TT prog b n k F e ds X h L:=Jp (s':=.tt k' e') Li HJ hr t
theorem wto(hr:goM false wF wL n 300 (.tt k e)=some (.to ops' l' k' e'))(t:TO prog b n ops' l' k' F e' ds X h L):TT prog b n k F e ds X h L:=Jp (s':=.to ops' l' k' e') Li HJ hr t
theorem wot(hr:goM false wF wL n 300 (.to ops l k e)=some (.tt k' e'))(t:TT prog b n k' F e' ds X h L):TO prog b n ops l k F e ds X h L:=Jp (s':=.tt k' e') Li HJ hr t
theorem woo(hr:goM false wF wL n 300 (.to ops l k e)=some (.to ops' l' k' e'))(t:TO prog b n ops' l' k' F e' ds X h L):TO prog b n ops l k F e ds X h L:=Jp (s':=.to ops' l' k' e') Li HJ hr t
theorem wgo(hr:goM true wF wL n 0 (.to ops l k e)=some (.to ops' l' k' e'))(t:TO prog b n ops' l' k' F e' ds X h L):TO prog b n ops l k F e ds X h L:=Jp (s':=.to ops' l' k' e') Li HJ hr t
theorem wld{t:TypeId}(hT:lookN wT t=some (m,a))(hx:e.ev x=.pointer (some ⟨bk,off,none⟩))(hL:nth L i=some (bk,.cells cl.toArray T fz))(hv:ldV a m cl off=some v)(t':TO prog b n ops l k F (upd e d v) ds X h L)(hd:Nat.blt d n=true:=by rfl)(hg:guardB ops e ⟨some d,.load t x,ty,pos,af,g⟩=true:=by rfl):TO prog b n ops (⟨some d,.load t x,ty,pos,af,g⟩::l) k F e ds X h L:=by
 cases a with
 |false=>exact qm i (tabq (f:=tySz prog) nf hT) hx hL hv t' hd hg
 |true=>
  unfold ldV at hv;split at hv
  .next h1=>cases h1
  .split at hv
   .next hc=>cases hv;exact ga i (tabq (f:=tySz prog) nf hT) hx hL hc t' hd hg
   .cases hv
theorem wlh{t:TypeId}{q:Addr}{cs:List Value}(hT:lookN wT t=some (m,a))(hx:e.ev x=.pointer (some (q.add j)))(ha:At h q cs)(hv:ldV a m cs j=some v)(t':TO prog b n ops l k F (upd e d v) ds X h L)(hd:Nat.blt d n=true:=by rfl)(hg:guardB ops e ⟨some d,.load t x,ty,pos,af,g⟩=true:=by rfl):TO prog b n ops (⟨some d,.load t x,ty,pos,af,g⟩::l) k F e ds X h L:=by
 cases a with
 |false=>exact nm (tabq (f:=tySz prog) nf hT) ha hx hv t' hd hg
 |true=>
  unfold ldV at hv;split at hv
  .next h1=>cases h1
  .split at hv
   .next hc=>cases hv;exact Np (tabq (f:=tySz prog) nf hT) ha hx hc t' hd hg
   .cases hv
theorem wlhS{t:TypeId}{q:Addr}{cs cs':List Value}(hT:lookN wT t=some (m,true))(hx:e.ev x=.pointer (some (q.add j)))(ha:At h q cs)[s:Sub cs j m cs'](t':TO prog b n ops l k F (upd e d (.agg cs'.toArray)) ds X h L)(hd:Nat.blt d n=true:=by rfl)(hg:guardB ops e ⟨some d,.load t x,ty,pos,af,g⟩=true:=by rfl):TO prog b n ops (⟨some d,.load t x,ty,pos,af,g⟩::l) k F e ds X h L:=Np (tabq (f:=tySz prog) nf hT) ha hx s.pf t' hd hg
theorem wlh0{t:TypeId}{q:Addr}{cs:List Value}(hT:lookN wT t=some (m,false))(hx:e.ev x=.pointer (some q))(ha:At h q (v::cs))(t':TO prog b n ops l k F (upd e d v) ds X h L)(hd:Nat.blt d n=true:=by rfl)(hg:guardB ops e ⟨some d,.load t x,ty,pos,af,g⟩=true:=by rfl):TO prog b n ops (⟨some d,.load t x,ty,pos,af,g⟩::l) k F e ds X h L:=iw (tabq (f:=tySz prog) nf hT) ha hx t' hd hg
theorem wlhs{t:TypeId}{q:Addr}{cs:List Value}(hT:lookN wT t=some (m,true))(hx:e.ev x=.pointer (some q))(ha:At h q cs)(hm:cs.length=m)(t':TO prog b n ops l k F (upd e d (.agg cs.toArray)) ds X h L)(hd:Nat.blt d n=true:=by rfl)(hg:guardB ops e ⟨some d,.load t x,ty,pos,af,g⟩=true:=by rfl):TO prog b n ops (⟨some d,.load t x,ty,pos,af,g⟩::l) k F e ds X h L:=lh (tabq (f:=tySz prog) nf hT) ha hm hx t' hd hg
theorem wsW{t:TypeId}(hT:lookN wT t=some (m,a))(hx:e.ev x=.pointer (some ⟨bk,0,none⟩))(hv:e.ev y=.agg vs.toArray)(hL:nth L i=some (bk,.cells cl.toArray T (0,0)))(hm:vs.length=m)(hc:cl.length=m)(h1:vs.all one=true)(t':TO prog b n ops l k F e ds X h (setNth L i (bk,.cells vs.toArray T (0,0))))(hg:guardB ops e ⟨none,.store t x y,ty,pos,af,g⟩=true:=by rfl):TO prog b n ops (⟨none,.store t x y,ty,pos,af,g⟩::l) k F e ds X h L:=cJ i (tabq (f:=tySz prog) nf hT) hx hL hv hm hc h1 t' hg
theorem wst{t:TypeId}(hT:lookN wT t=some (m,a))(hx:e.ev x=.pointer (some ⟨bk,off,none⟩))(hL:nth L i=some (bk,.cells cl.toArray T (0,0)))(hv:vcells (e.ev y)=vs)(hm:vs.length=m)(eT:YE (off+vs.length) cl.length=true)(h1:vs.all one=true)(t':TO prog b n ops l k F e ds X h (setNth L i (bk,.cells (splice cl off vs).toArray T (0,0))))(hg:guardB ops e ⟨none,.store t x y,ty,pos,af,g⟩=true:=by rfl):TO prog b n ops (⟨none,.store t x y,ty,pos,af,g⟩::l) k F e ds X h L:=dK i (tabq (f:=tySz prog) nf hT) hx hL hv hm eT h1 t' hg
theorem wbxA{d:Nat}{t:TypeId}{cs:List Value}(hv:e.ev x=.agg cs.toArray)(t':∀bk,TO prog b n ops l k F (upd e d (.pointer (some ⟨bk,0,none⟩))) ds X h ((bk,.cells cs.toArray t (0,0))::L))(hd:Nat.blt d n=true:=by rfl)(hg:guardB ops e ⟨some d,.box t x,ty,pos,af,g⟩=true:=by rfl):TO prog b n ops (⟨some d,.box t x,ty,pos,af,g⟩::l) k F e ds X h L:=
 j2 (λbk=>by rw[hv];exact t' bk) hd hg
theorem wix{t:TypeId}{y:α}(hT:lookN wS t=some E)(hx:e.ev x=.slice base m cap)(hix:e.ev ix=.int .i64 z)(hm:m=xs.length)(hR:SlC R h base cap xs)(hS:lookN wT E=some (R.sz,a))(hz:0<=z/\z<(xs.length:Int))(hj:xs[z.toNat]? = some y)(t':∀q cs,At h q cs->cs.length=R.sz->R.rep h cs y->TO prog b n ops l k F (upd e d (.pointer (some q))) ds X h L)(hd:Nat.blt d n=true:=by rfl)(hg:guardB ops e ⟨some d,.indexAddr t x ix,ty,pos,af,g⟩=true:=by rfl):TO prog b n ops (⟨some d,.indexAddr t x ix,ty,pos,af,g⟩::l) k F e ds X h L:=
 aS (Ry (nC (tabq (f:=sliceE prog) zj hT)) (tabq (f:=tySz prog) nf hS) hR.1 hz hj hx hm hix t' hg) rfl hd
theorem wixw{t:TypeId}{y:α}(hT:lookN wS t=some E)(hx:e.ev x=.slice base m cap)(hix:e.ev ix=.int .i64 (IntKind.i64.wrap z))(hm:m=xs.length)(hR:SlC R h base cap xs)(hS:lookN wT E=some (R.sz,a))(hz:0<=z/\z<(xs.length:Int))(hj:xs[z.toNat]? = some y)(t':∀q cs,At h q cs->cs.length=R.sz->R.rep h cs y->TO prog b n ops l k F (upd e d (.pointer (some q))) ds X h L)(hd:Nat.blt d n=true:=by rfl)(hg:guardB ops e ⟨some d,.indexAddr t x ix,ty,pos,af,g⟩=true:=by rfl):TO prog b n ops (⟨some d,.indexAddr t x ix,ty,pos,af,g⟩::l) k F e ds X h L:=
 wix hT hx (hix.trans (nv (by have:=hR.1.1;omega))) hm hR hS hz hj t' hd hg
theorem wbf{t:TypeId}[i:RpT E R]{len:Nat}(hT:lookN wS t=some E)(hS:lookN wT E=some (sz,a))(hz:lookN wZ E=some zs)(hc1:bW R h (litC e parts) xs)(hl:len=xs.length)(hM:X.M=[])(t':∀bk h',h.le h'->SlC R h' (some ⟨bk,0,none⟩) xs.length xs->TO prog b n ops l k F (upd e d (.slice (some ⟨bk,0,none⟩) xs.length xs.length)) ds X h' L)(eT:xs.length<=9223372036854775807:=by simp)(hpos:Nat.blt 0 (len*sz)=true:=by rfl)(hlt:Nat.ble (len*sz) 16777216=true:=by rfl)(hc:Instr.fill (λi=>some (i*sz,sz)) ((Array.range (len*sz)).map (zs.toArray[·%zs.toArray.size]!)) (parts.map λp=>(p.1,e.ev p.2))=some (litC e parts).toArray:=by kernel_rfl)(hd:Nat.blt d n=true:=by rfl)(hg:guardB ops e ⟨some d,.buildSlice t len ⟨parts⟩,ty,pos,af,g⟩=true:=by rfl):TO prog b n ops (⟨some d,.buildSlice t len ⟨parts⟩,ty,pos,af,g⟩::l) k F e ds X h L:=by
 refine aS (cM (nC (tabq (f:=sliceE prog) zj hT)) (tabq (f:=tySz prog) nf hS) (tabq (f:=zeroC prog) Fy hz) hpos hlt hc (λbk=>?_) hg) rfl hd
 refine dV 0 rfl hM (λh2 h1 hb=>?_)
 have:=t' bk h2 h1 (slL hb (vF _) (hc1.mono i.pf.mono h1) eT (zE _))
 subst hl
 exact this
theorem wap{t:TypeId}[i:RpT E R]{base2:Option Addr}{Q:LH}(hT:lookN wS t=some E)(hx:e.ev s=.slice base m cap)(hG:di R E h xs base cap G)(hm:m=xs.length)(hp:L.Perm (Q++G))(hy:e.ev y=.slice base2 ys.length cap2)(hs2:SlC R h base2 cap2 ys)(hS:lookN wT E=some (R.sz,a))(hz:lookN wZ E=some zs)(hzl:zs.length=R.sz)(hby:lookN wB E=some yt)(hb:(xs.length+ys.length)*yt<=140737488355328)(hb2:xs.length+ys.length<=9223372036854775807)(t':∀base' cap' G',di R E h (xs++ys) base' cap' G'->TO prog b n ops l k F (upd e d (.slice base' (xs++ys).length cap')) ds X h (Q++G'))(hd:Nat.blt d n=true:=by rfl)(hg:guardB ops e ⟨some d,.call ⟨.builtin .append,#[s,y],#[t,t]⟩,ty,pos,af,g⟩=true:=by rfl):TO prog b n ops (⟨some d,.call ⟨.builtin .append,#[s,y],#[t,t]⟩,ty,pos,af,g⟩::l) k F e ds X h L:=
 wl (hp.trans zD) (aS (dN i.pf [] Q (λG'=>Q++G') rfl (λ_=>rfl) (nC (tabq (f:=sliceE prog) zj hT)) (tabq (f:=tySz prog) nf hS) (tabq (f:=zeroC prog) Fy hz) hzl (tabq (f:=bytesOf prog) Q7 hby) hG hx hm (by rw[hy];exact iY hs2.1) hb hb2
  t' hg) rfl hd)
theorem wapO{t:TypeId}[i:RpT E R]{b2:Nat}{Q:LH}(hT:lookN wS t=some E)(hx:e.ev s=.slice base m cap)(hG:di R E h xs base cap G)(hm:m=xs.length)(hp:L.Perm (Q++G))(hy:e.ev y=.slice (some ⟨b2,0,none⟩) ys.length cap2)(hL:nth L j=some (b2,.cells cl.toArray T fz))(hc:bW R h cl ys)(hS:lookN wT E=some (R.sz,a))(hz:lookN wZ E=some zs)(hzl:zs.length=R.sz)(hby:lookN wB E=some yt)(hb:(xs.length+ys.length)*yt<=140737488355328)(hb2:xs.length+ys.length<=9223372036854775807)(t':∀base' cap' G',di R E h (xs++ys) base' cap' G'->TO prog b n ops l k F (upd e d (.slice base' (xs++ys).length cap')) ds X h (Q++G'))(hd:Nat.blt d n=true:=by rfl)(hg:guardB ops e ⟨some d,.call ⟨.builtin .append,#[s,y],#[t,t]⟩,ty,pos,af,g⟩=true:=by rfl):TO prog b n ops (⟨some d,.call ⟨.builtin .append,#[s,y],#[t,t]⟩,ty,pos,af,g⟩::l) k F e ds X h L:=
 wl (hp.trans zD) (aS (dN i.pf [] Q (λG'=>Q++G') rfl (λ_=>rfl) (nC (tabq (f:=sliceE prog) zj hT)) (tabq (f:=tySz prog) nf hS) (tabq (f:=zeroC prog) Fy hz) hzl (tabq (f:=bytesOf prog) Q7 hby) hG hx hm
  (by rw[hy];obtain⟨b',c',cl',h1,h2,h3,h4⟩:=gQ (R:=R) (h:=h) (ys:=ys) (c:=cap2) j hL hc;exact⟨b',c',cl',h1,h2,h3,λX w hw=>h4 X w (hw.perm ((hp.trans zD).symm))⟩) hb hb2
  t' hg) rfl hd)
theorem wsx{t:TypeId}{s:ByteArray}{i:Int}(hT:lookN wL t=some false)(hx:e.ev x=.string s)(hix:e.ev ix=.int .i64 i)(hi:0<=i/\i<(s.size:Int))(t':TO prog b n ops l k F (upd e d (.int .u8 ((s.data.getD i.toNat 0).toNat:Nat))) ds X h L)(hd:Nat.blt d n=true:=by rfl)(hg:guardB ops e ⟨some d,.index t x ix,ty,pos,af,g⟩=true:=by rfl):TO prog b n ops (⟨some d,.index t x ix,ty,pos,af,g⟩::l) k F e ds X h L:=aS (fU (Wz (Uw (tabq (f:=lenK prog) HJ hT)) hx hix hi) t' hg) rfl hd
section
variable {K:Env->HF->LH->Prop} {q:Option Nat}
theorem wcR[i:Ct f](hvs:ass.toList.map e.ev=vs)(hs:i.p->Ret prog f vs h v)(t':K (upd e d v) h L)(hg:guardB ops e ⟨some d,.call ⟨.value (.func f),ass,ats⟩,ty,pos,af,g⟩=true:=by rfl):Stp prog b n ops F ds X ⟨some d,.call ⟨.value (.func f),ass,ats⟩,ty,pos,af,g⟩ e h L K:=kg i.call (hs i.pf) hvs t' hg
theorem wcH{φ:Value->HF->Prop}[i:Ct f](hvs:ass.toList.map e.ev=vs)(hs:i.p->j0 prog f vs h φ)(t':∀v h',h.le h'->φ v h'->K (pute e q v) h' L)(hg:guardB ops e ⟨q,.call ⟨.value (.func f),ass,ats⟩,ty,pos,af,g⟩=true:=by rfl):Stp prog b n ops F ds X ⟨q,.call ⟨.value (.func f),ass,ats⟩,ty,pos,af,g⟩ e h L K:=eb i.call (hs i.pf) hvs t' hg
theorem wcN{φ:Value->HF->Prop}[i:Ct f](hvs:ass.toList.map e.ev=.slice none ([]:List α).length 0::vs)(hs:i.p->j0 prog f (.slice none ([]:List α).length 0::vs) h φ)(t':∀v h',h.le h'->φ v h'->K (pute e q v) h' L)(hg:guardB ops e ⟨q,.call ⟨.value (.func f),ass,ats⟩,ty,pos,af,g⟩=true:=by rfl):Stp prog b n ops F ds X ⟨q,.call ⟨.value (.func f),ass,ats⟩,ty,pos,af,g⟩ e h L K:=eb i.call (hs i.pf) hvs t' hg
theorem wcV{t:Nat}{fv:Value}(hf:e t=fv)(hvs:ass.toList.map e.ev=vs)(hs:wg prog fv vs h [] v)(t':K (pute e q v) h L)(hg:guardB ops e ⟨q,.call ⟨.value (.tmp t),ass,ats⟩,ty,pos,af,g⟩=true:=by rfl):Stp prog b n ops F ds X ⟨q,.call ⟨.value (.tmp t),ass,ats⟩,ty,pos,af,g⟩ e h L K:=wo [] (List.nil_sublist _) hs hf hvs t' hg
theorem wmf{fn:Fn}{first captured:List Operand}(t':K (pute e q (.func fn (first.map e.ev).toArray (captured.map e.ev).toArray)) h L)(hg:guardB ops e ⟨q,.makeFunc fn ⟨first⟩ ⟨captured⟩,ty,pos,af,g⟩=true:=by rfl):Stp prog b n ops F ds X ⟨q,.makeFunc fn ⟨first⟩ ⟨captured⟩,ty,pos,af,g⟩ e h L K:=kw rfl rfl t' hg
theorem wal{t:TypeId}(hz:lookN wZ t=some zs)(t':∀bk,K (upd e d (.pointer (some ⟨bk,0,none⟩))) h ((bk,.cells zs.toArray t (0,0))::L))(hg:guardB ops e ⟨some d,.alloc t,ty,pos,af,g⟩=true:=by rfl):Stp prog b n ops F ds X ⟨some d,.alloc t,ty,pos,af,g⟩ e h L K:=BH (tabq (f:=zeroC prog) Fy hz) t' hg
theorem wbs{t:TypeId}{len:Nat}(hT:lookN wS t=some E)(hS:lookN wT E=some (sz,a))(hz:lookN wZ E=some zs)(t':∀bk,K (upd e d (.slice (some ⟨bk,0,none⟩) len len)) h ((bk,.cells (litC e parts).toArray E (0,0))::L))(hpos:Nat.blt 0 (len*sz)=true:=by rfl)(hlt:Nat.ble (len*sz) 16777216=true:=by rfl)(hc:Instr.fill (λi=>some (i*sz,sz)) ((Array.range (len*sz)).map (zs.toArray[·%zs.toArray.size]!)) (parts.map λp=>(p.1,e.ev p.2))=some (litC e parts).toArray:=by kernel_rfl)(hg:guardB ops e ⟨some d,.buildSlice t len ⟨parts⟩,ty,pos,af,g⟩=true:=by rfl):Stp prog b n ops F ds X ⟨some d,.buildSlice t len ⟨parts⟩,ty,pos,af,g⟩ e h L K:=
 cM (nC (tabq (f:=sliceE prog) zj hT)) (tabq (f:=tySz prog) nf hS) (tabq (f:=zeroC prog) Fy hz) hpos hlt hc t' hg
theorem wbs0{t:TypeId}(hT:lookN wS t=some E)(hS:lookN wT E=some (sz,a))(t':∀bk,K (upd e d (.slice (some ⟨bk,0,none⟩) 0 0)) h ((bk,.cells [].toArray E (0,0))::L))(hg:guardB ops e ⟨some d,.buildSlice t 0 #[],ty,pos,af,g⟩=true:=by rfl):Stp prog b n ops F ds X ⟨some d,.buildSlice t 0 #[],ty,pos,af,g⟩ e h L K:=
 lC (nC (tabq (f:=sliceE prog) zj hT)) (tabq (f:=tySz prog) nf hS) t' hg
theorem wbd{t:TypeId}{cells:List Value}(hT:lookN wP t=some pl)(hz:lookN wZ t=some zs)(hcl:litB pl e parts zs=cells)(t':K (upd e d (.agg cells.toArray)) h L)(hc:Instr.fill (λi=>pl.toArray[i]?) zs.toArray (parts.map λp=>(p.1,e.ev p.2))=some cells.toArray:=by kernel_rfl)(hg:guardB ops e ⟨some d,.build t ⟨parts⟩,ty,pos,af,g⟩=true:=by rfl):Stp prog b n ops F ds X ⟨some d,.build t ⟨parts⟩,ty,pos,af,g⟩ e h L K:=
 let ⟨_,a,c⟩:=VE (tabq (f:=plcs prog) W2 hT)
 ia a (tabq (f:=zeroC prog) Fy hz) c hc t' hg
theorem wbdF{t:TypeId}{cells cs:List Value}(hT:lookN wP t=some pl)(hz:lookN wZ t=some zs)(hcl:litB pl e parts zs=cells)(hf:cells=cs)(t':K (upd e d (.agg cs.toArray)) h L)(hc:Instr.fill (λi=>pl.toArray[i]?) zs.toArray (parts.map λp=>(p.1,e.ev p.2))=some cells.toArray:=by kernel_rfl)(hg:guardB ops e ⟨some d,.build t ⟨parts⟩,ty,pos,af,g⟩=true:=by rfl):Stp prog b n ops F ds X ⟨some d,.build t ⟨parts⟩,ty,pos,af,g⟩ e h L K:=wbd hT hz hcl (by subst hf;exact t') hc hg
theorem wcRr[i:Cl f](hvs:ass.toList.map e.ev=vs)(hs:Ret prog f vs h v)(t':K (upd e d v) h L)(hg:guardB ops e ⟨some d,.call ⟨.value (.func f),ass,ats⟩,ty,pos,af,g⟩=true:=by rfl):Stp prog b n ops F ds X ⟨some d,.call ⟨.value (.func f),ass,ats⟩,ty,pos,af,g⟩ e h L K:=kg i.call hs hvs t' hg
end
section
variable {K:Env->HF->LH->Prop} {q:Option Nat}
theorem wcX{f0:FuncId}{fn:Func}{σ:Type}{fz:σ->Value}{x:Except Int ρ}{z:Except Int σ}{kk:ρ->Except Int σ}{hh:HF}[i:Ct f](hvs:ass.toList.map e.ev=vs)(hs:i.p->Fw prog f vs h (exW pe fv x))(hz:z=exi x kk)(hf:prog.funcs[f0]? = some fn)(hX:X.h0=hh)(t':∀r,x=.ok r->z=kk r->K (pute e q (fv r)) h L)(hg:guardB ops e ⟨q,.call ⟨.value (.func f),ass,ats⟩,ty,pos,af,g⟩=true:=by rfl):
  Stp prog (bodyFrame f0) n ops (lJ prog X (XR (exW pe fz z) hh)) [] X ⟨q,.call ⟨.value (.func f),ass,ats⟩,ty,pos,af,g⟩ e h L K:=
 rO i.call (hs i.pf) hvs (λu hu=>by obtain⟨r,hr,rfl⟩:=vY hu;exact t' r hr (hz.trans (Df hr)))
  (λp hp e'=>by obtain⟨r,hr,rfl⟩:=su hp;exact nK (yw [] hf hX (by rw[hz,uH hr];rfl))) hg
end
section
variable {K:Env->HF->LH->Prop} {q:Option Nat}
theorem wcXo{x:Except Int ρ}{r:ρ}[i:Ct f](hvs:ass.toList.map e.ev=vs)(hs:i.p->Fw prog f vs h (exW pe fv x))(hx:x=.ok r)(t':K (pute e q (fv r)) h L)(hg:guardB ops e ⟨q,.call ⟨.value (.func f),ass,ats⟩,ty,pos,af,g⟩=true:=by rfl):Stp prog b n ops F ds X ⟨q,.call ⟨.value (.func f),ass,ats⟩,ty,pos,af,g⟩ e h L K:=
 rO i.call (hs i.pf) hvs (λu hu=>by obtain⟨r',hr,rfl⟩:=vY hu;rw[hx]at hr;cases hr;exact t') (λp hp e'=>by obtain⟨r',hr,rfl⟩:=su hp;rw[hx]at hr;cases hr) hg
end
section
variable {m:Nat} {dn:List Nat} {l:List Oper} {i:Nat} {gk:List Nat} {t:TypeId} {x:Operand} {K:LH}
theorem wdq{m':Nat}{dn':List Nat}(hp:passD wF wL l gk 0 l m dn e=(m',dn',e'))(hlt:kH m' m=true)(q:TD gk prog b n l k F ds X K m' dn' e' h L):TD gk prog b n l k F ds X K m dn e h L:=wdqP Li HJ hp q
theorem wdl(hT:lookN wT t=some (mm,a))(hx:e.ev x=.pointer (some ⟨bk,off,none⟩))(hL:nth K j=some (bk,.cells cl.toArray T fz))(hv:ldV a mm cl off=some v)(q:TD gk prog b n l k F ds X K m (i::dn) (upd e d v) h L)(hg:guardB l.toArray e ⟨some d,.load t x,ty,pos,af,g⟩=true:=by rfl):TX gk prog b n l k F ds X K m dn i ⟨some d,.load t x,ty,pos,af,g⟩ e h L:=by
 refine wdf rfl hg (λh' L' hj w hw=>?_) q
 cases a with
 |false=>exact Ab (tabq (f:=tySz prog) nf hT) hx (hj.nth hL) hv w hw
 |true=>
  unfold ldV at hv;split at hv
  .next h1=>cases h1
  .split at hv
   .next hc=>cases hv;exact nQ (tabq (f:=tySz prog) nf hT) hx (hj.nth hL) hc w hw
   .cases hv
theorem wdh{p:Addr}{cs:List Value}(hT:lookN wT t=some (mm,a))(hx:e.ev x=.pointer (some (p.add j)))(ha:At h p cs)(hv:ldV a mm cs j=some v)(q:TD gk prog b n l k F ds X K m (i::dn) (upd e d v) h L)(hg:guardB l.toArray e ⟨some d,.load t x,ty,pos,af,g⟩=true:=by rfl):TX gk prog b n l k F ds X K m dn i ⟨some d,.load t x,ty,pos,af,g⟩ e h L:=by
 refine wdf rfl hg (λh' L' hj w hw=>?_) q
 cases a with
 |false=>exact Ud j (tabq (f:=tySz prog) nf hT) (ha.mono hj.1) hx hv w hw
 |true=>
  unfold ldV at hv;split at hv
  .next h1=>cases h1
  .split at hv
   .next hc=>cases hv;exact Qx j (tabq (f:=tySz prog) nf hT) (ha.mono hj.1) hx hc w hw
   .cases hv
theorem wdhS{p:Addr}{cs cs':List Value}(hT:lookN wT t=some (mm,true))(hx:e.ev x=.pointer (some (p.add j)))(ha:At h p cs)[s:Sub cs j mm cs'](q:TD gk prog b n l k F ds X K m (i::dn) (upd e d (.agg cs'.toArray)) h L)(hg:guardB l.toArray e ⟨some d,.load t x,ty,pos,af,g⟩=true:=by rfl):TX gk prog b n l k F ds X K m dn i ⟨some d,.load t x,ty,pos,af,g⟩ e h L:=
 wdf rfl hg (λh' L' hj w hw=>Qx j (tabq (f:=tySz prog) nf hT) (ha.mono hj.1) hx s.pf w hw) q
theorem wdh0{p:Addr}{cs:List Value}(hT:lookN wT t=some (mm,false))(hx:e.ev x=.pointer (some p))(ha:At h p (v::cs))(q:TD gk prog b n l k F ds X K m (i::dn) (upd e d v) h L)(hg:guardB l.toArray e ⟨some d,.load t x,ty,pos,af,g⟩=true:=by rfl):TX gk prog b n l k F ds X K m dn i ⟨some d,.load t x,ty,pos,af,g⟩ e h L:=
 wdf rfl hg (λh' L' hj w hw=>Uc (tabq (f:=tySz prog) nf hT) (ha.mono hj.1) hx w hw) q
theorem wdhs{p:Addr}{cs:List Value}(hT:lookN wT t=some (mm,true))(hx:e.ev x=.pointer (some p))(ha:At h p cs)(hm:cs.length=mm)(q:TD gk prog b n l k F ds X K m (i::dn) (upd e d (.agg cs.toArray)) h L)(hg:guardB l.toArray e ⟨some d,.load t x,ty,pos,af,g⟩=true:=by rfl):TX gk prog b n l k F ds X K m dn i ⟨some d,.load t x,ty,pos,af,g⟩ e h L:=
 wdf rfl hg (λh' L' hj w hw=>s5 (tabq (f:=tySz prog) nf hT) (ha.mono hj.1) hm hx w hw) q
theorem wdi{y:α}(hT:lookN wS t=some E)(hx:e.ev x=.slice base mm cap)(hix:e.ev ix=.int .i64 z)(hm:mm=xs.length)(hR:SlC R h base cap xs)(hS:lookN wT E=some (R.sz,a))(hz:0<=z/\z<(xs.length:Int))(hj:xs[z.toNat]? = some y)(q:∀p cs,At h p cs->cs.length=R.sz->R.rep h cs y->TD gk prog b n l k F ds X K m (i::dn) (upd e d (.pointer (some p))) h L)(hg:guardB l.toArray e ⟨some d,.indexAddr t x ix,ty,pos,af,g⟩=true:=by rfl):TX gk prog b n l k F ds X K m dn i ⟨some d,.indexAddr t x ix,ty,pos,af,g⟩ e h L:=
 λhi hy hs hK=>sY i hs ⟨vF _,hK⟩ (nC (tabq (f:=sliceE prog) zj hT)) (tabq (f:=tySz prog) nf hS) hR.1 hz hj hx hm hix hi (xI hi hy) (λp cs a b c=>q p cs a b c hs hK) hg
theorem wdiw{y:α}(hT:lookN wS t=some E)(hx:e.ev x=.slice base mm cap)(hix:e.ev ix=.int .i64 (IntKind.i64.wrap z))(hm:mm=xs.length)(hR:SlC R h base cap xs)(hS:lookN wT E=some (R.sz,a))(hz:0<=z/\z<(xs.length:Int))(hj:xs[z.toNat]? = some y)(q:∀p cs,At h p cs->cs.length=R.sz->R.rep h cs y->TD gk prog b n l k F ds X K m (i::dn) (upd e d (.pointer (some p))) h L)(hg:guardB l.toArray e ⟨some d,.indexAddr t x ix,ty,pos,af,g⟩=true:=by rfl):TX gk prog b n l k F ds X K m dn i ⟨some d,.indexAddr t x ix,ty,pos,af,g⟩ e h L:=
 wdi hT hx (hix.trans (nv (by have:=hR.1.1;omega))) hm hR hS hz hj q hg
end
end
class EqT(t:TypeId){α : outParam Type}(dec:outParam (DecidableEq α))(cells:outParam (α->List Value)):Prop where
 eq:∀a b w,(Op.equal t (.agg (cells a).toArray) (.agg (cells b).toArray)).run prog w=.ok (decide (a=b)) w
 gd:prog.eqGuardType prog.depth t=false
section
variable {b:Frame} {n:Nat} {k:List Item} {F:List Frame->(Machine->Prop)->Prop} {e:Env} {ds:List Deferred} {X:Cx} {h:HF} {L:LH} {ops:Array Oper} {l:List Oper} {d:Nat} {ty t u:TypeId} {pos:String} {af:Array Edge} {g:Option (Nat×Bool)} {x y:Operand} {α : Type} {dec:DecidableEq α} {cells:α->List Value} {a c:α} {gk:List Nat} {K:LH} {m:Nat} {dn:List Nat} {i:Nat}
theorem wdeq[q:EqT t dec cells](hx:e.ev x=.agg (cells a).toArray)(hy:e.ev y=.agg (cells c).toArray)(t':TD gk prog b n l k F ds X K m (i::dn) (upd e d (.bool (decide (a=c)))) h L)(hg:guardB l.toArray e ⟨some d,.binOp .eql t x y u,ty,pos,af,g⟩=true:=by rfl):TX gk prog b n l k F ds X K m dn i ⟨some d,.binOp .eql t x y u,ty,pos,af,g⟩ e h L:=
 wdf rfl hg (λh' L' hj w hw=>Wi (q.eq a c) q.gd hx hy w hw) t'
end
class MpT(t:TypeId){κ α : outParam Type}(dec:outParam (DecidableEq κ))(enc:outParam (κ->Value))(V:outParam (HF->Value->α->Prop))(z:outParam α):Prop where
 pf:∃T E zv,prog.underlying t=some (.map T E)/\zb prog T enc/\zeroV prog E=some zv/\(∀h,V h zv z)
theorem mvM(h:zU V:=by first|exact Ao.mono|exact sO.mono|exact mT.mono mnG|exact VSl.mono mnG|fail):zU V:=h
theorem mpA{enc:κ->Value}{o:Obj}{m:List (κ×α)}(p:lB enc V h o m:=by first|assumption|exact lB.mono (by assumption) mvM leA|exact lB.nil|fail):lB enc V h o m:=p
theorem mpB{enc:κ->Value}{o:Obj}{m:List (κ×α)}(p:lB enc V h o m:=by first|assumption|exact lB.mono (by assumption) mvM leA|fail):lB enc V h o m:=p
theorem mcA{enc:κ->Value}{o:Nat}{m:List (κ×α)}(p:uN enc V h o m:=by first|assumption|exact uN.mono (by assumption) mvM leA|fail):uN enc V h o m:=p
section
variable {b:Frame} {n:Nat} {F:List Frame->(Machine->Prop)->Prop} {e:Env} {ds:List Deferred} {X:Cx} {h:HF} {L:LH} {ops:Array Oper} {K:Env->HF->LH->Prop} {q:Option Nat} {ty t:TypeId} {pos:String} {af:Array Edge} {g:Option (Nat×Bool)}
variable {κ α : Type} {dec:DecidableEq κ} {enc:κ->Value} {V:HF->Value->α->Prop} {z x:α} {mo ko xo:Operand} {bk j:Nat} {o:Obj} {m:List (κ×α)} {a:κ}
theorem wmS[i:MpT t dec enc V z](hmo:e.ev mo=.map (some bk))(hL:nth L j=some (bk,o))(hm:lB enc V h o m)(hko:e.ev ko=enc a)(hx:V h (e.ev xo) x)(t':∀o',lB enc V h o' (mput m a x)->(mput m a x).length<=m.length+1->K e h (setNth L j (bk,o')))(hg:guardB ops e ⟨none,.mapUpdate t mo ko xo,ty,pos,af,g⟩=true:=by rfl):Stp prog b n ops F ds X ⟨none,.mapUpdate t mo ko xo,ty,pos,af,g⟩ e h L K:=
 let ⟨_,_,_,h1,h2,_,_⟩:=i.pf;pS j h1 h2 hL hm hmo hko hx (λo' a'=>t' o' a' (rV _ _ _)) hg
theorem wmG{ok:Bool}[i:MpT t dec enc V z](hmo:e.ev mo=.map (some bk))(hL:nth L j=some (bk,o))(hm:lB enc V h o m)(hko:e.ev ko=enc a)(t':∀v,V h v (mgetD m a z)->K (pute e q (bif ok then .tuple #[v,.bool (mhas m a)]else v)) h L)(hg:guardB ops e ⟨q,.lookup t mo ko ok,ty,pos,af,g⟩=true:=by rfl):Stp prog b n ops F ds X ⟨q,.lookup t mo ko ok,ty,pos,af,g⟩ e h L K:=by
 obtain⟨_,_,_,h1,h2,h3,h4⟩:=i.pf
 cases ok with
 |true=>exact oM j h1 h2 hL hm (gF h3) (h4 _) hmo hko t' hg
 |false=>exact ve j h1 h2 hL hm (gF h3) (h4 _) hmo hko t' hg
theorem wmF{ok:Bool}[i:MpT t dec enc V z](hmo:e.ev mo=.map (some bk))(hm:uN enc V h bk m)(hko:e.ev ko=enc a)(t':∀v,V h v (mgetD m a z)->K (pute e q (bif ok then .tuple #[v,.bool (mhas m a)]else v)) h L)(hg:guardB ops e ⟨q,.lookup t mo ko ok,ty,pos,af,g⟩=true:=by rfl):Stp prog b n ops F ds X ⟨q,.lookup t mo ko ok,ty,pos,af,g⟩ e h L K:=by
 obtain⟨_,_,_,h1,h2,h3,h4⟩:=i.pf
 obtain⟨o,h5,h6⟩:=hm
 cases ok with
 |true=>exact wm h1 h2 h5 h6 (gF h3) (h4 _) hmo hko t' hg
 |false=>exact ru h1 h2 h5 h6 (gF h3) (h4 _) hmo hko t' hg
theorem wmC{todo:List Item}{Q:LH}(hm:lB enc V h o m)(hv:zU V)(hp:L.Perm (Q++[(bk,o)]))(hM:X.M=[])(t':∀h2,h.le h2->uN enc V h2 bk m->TT P b n todo F e ds X h2 Q):TT P b n todo F e ds X h L:=
 jy (hp.trans zD) (fK 0 rfl hM λh1 eT hb=>t' h1 eT ⟨_,hb,hm.mono hv eT⟩)
end
theorem wrv[i:Ct f]{args cap:List Value}(hs:i.p->Ret prog f (args++cap) h v):wg prog (.func (.func f) #[] cap.toArray) args h [] v:=oO i.call (hs i.pf)
theorem wit[i:CtI f]{cap:List Value}{val:α->HF->List Value->Prop}(hs:i.p->Itr prog (.func (.func f) #[] cap.toArray) val xs h):Itr prog (.func (.func f) #[] cap.toArray) val xs h:=hs i.pf
theorem wrc{e:Env}{L:LH}{a ty:Nat}{q:Bool}(ha:e a=.pointer (some ⟨bk,0,none⟩))(hL:nth L i=some (bk,.cells cl.toArray T fz))(hT:lookN wT ty=some (m,q))(hm:cl.length=m)(hv:(bif q then some (.agg cl.toArray)else nth cl 0)=some v)(h1:(q||Nat.beq m 1)=true):
  ∃i bk cl T fz,nth L i=some (bk,.cells (List.toArray cl) T fz)/\e a=.pointer (some ⟨bk,0,none⟩)/\((tySz prog ty=some (cl.length,true)/\v=.agg cl.toArray)\/∃m,tySz prog ty=some (m,false)/\cl=[v]):=by
 have ht:=tabq (f:=tySz prog) nf hT
 refine⟨i,bk,cl,T,fz,hL,ha,?_⟩
 cases q with
 |true=>left;subst hm;simp only[cond_true,kN]at hv;exact⟨ht,hv.symm⟩
 |false=>
  right
  refine⟨m,ht,?_⟩
  have:m=1:=Nat.eq_of_beq_eq_true (by simpa using h1)
  rw[this]at hm
  obtain⟨y,rfl⟩:=List.length_eq_one_iff.1 hm
  simp only[cond_false]at hv
  cases hv;rfl
class IfT(t:TypeId):Prop where
 pf:∃T,prog.underlying t=some T/\(match T with|.interface _=>false|_=>true)=true
class BoT(t:TypeId):Prop where
 pf:prog.underlying t=some .bool
section
variable {b:Frame} {n:Nat} {k:List Item} {F:List Frame->(Machine->Prop)->Prop} {e:Env} {ds:List Deferred} {X:Cx} {h:HF} {L:LH} {ops:Array Oper} {l:List Oper} {d:Nat} {ty t u:TypeId} {pos:String} {af:Array Edge} {g:Option (Nat×Bool)} {x y:Operand} {a c:Bool} {i j:Int} {ik:IntKind}
theorem wma(hx:e.ev x=.int ik i)(hy:e.ev y=.int ik j)(t':TO prog b n ops l k F (upd e d (.int ik (max i j))) ds X h L)(hd:Nat.blt d n=true:=by rfl)(hg:guardB ops e ⟨some d,.call ⟨.builtin .max,#[x,y],#[t,u]⟩,ty,pos,af,g⟩=true:=by rfl):TO prog b n ops (⟨some d,.call ⟨.builtin .max,#[x,y],#[t,u]⟩,ty,pos,af,g⟩::l) k F e ds X h L:=aS (fU (Wh hx hy) t' hg) rfl hd
theorem weB[q:BoT t](hx:e.ev x=.bool a)(hy:e.ev y=.bool c)(t':TO prog b n ops l k F (upd e d (.bool (a==c))) ds X h L)(hd:Nat.blt d n=true:=by rfl)(hg:guardB ops e ⟨some d,.binOp .eql t x y u,ty,pos,af,g⟩=true:=by rfl):TO prog b n ops (⟨some d,.binOp .eql t x y u,ty,pos,af,g⟩::l) k F e ds X h L:=aS (fU (W5 q.pf hx hy) t' hg) rfl hd
theorem wif[q:IfT t](hx:e.ev x=v)(t':TO prog b n ops l k F (upd e d (.iface t v)) ds X h L)(hd:Nat.blt d n=true:=by rfl)(hg:guardB ops e ⟨some d,.makeInterface t x,ty,pos,af,g⟩=true:=by rfl):TO prog b n ops (⟨some d,.makeInterface t x,ty,pos,af,g⟩::l) k F e ds X h L:=
 by obtain⟨T,h1,h2⟩:=q.pf;exact aS (fU (RD h1 (by cases T<;>first|rfl|cases h2) hx) t' hg) rfl hd
theorem gMi{bi:Builtin}(t':TO prog b n ops (⟨some d,.call ⟨.builtin bi,ass,ats⟩,ty,pos,af,g⟩::l) k F e ds X h L):TO prog b n ops (⟨some d,.call ⟨.builtin bi,ass,ats⟩,ty,pos,af,g⟩::l) k F e ds X h L:=t'
theorem gIf(t':TO prog b n ops (⟨some d,.makeInterface t x,ty,pos,af,g⟩::l) k F e ds X h L):TO prog b n ops (⟨some d,.makeInterface t x,ty,pos,af,g⟩::l) k F e ds X h L:=t'
theorem gPn(t':TO prog b n ops (⟨q,.panic x,ty,pos,af,g⟩::l) k F e ds X h L):TO prog b n ops (⟨q,.panic x,ty,pos,af,g⟩::l) k F e ds X h L:=t'
theorem gGf{s:Nat}(hx:guardB ops e ⟨q,op,ty,pos,af,some (s,w)⟩=true)(t':TO prog b n ops (⟨q,op,ty,pos,af,some (s,w)⟩::l) k F e ds X h L):TO prog b n ops (⟨q,op,ty,pos,af,some (s,w)⟩::l) k F e ds X h L:=t'
end
section
variable {f0:FuncId} {fn:Func} {n:Nat} {k:List Item} {e:Env} {ms:List Nat} {X:Cx} {h:HF} {L Q:LH} {ops:Array Oper} {l:List Oper} {ty t:TypeId} {pos:String} {af:Array Edge} {g:Option (Nat×Bool)} {x:Operand} {v:Value} {ρ : Type} {pe:Int->Value} {er:Int} {z:Except Int ρ}
theorem wpX{fv:ρ->Value}{hh:HF}(hz:z=.error er)(hx:e.ev x=.iface t v)(hp:pe er=.iface t v)(hf:prog.funcs[f0]? = some fn)(hX:X.h0=hh)(hg:guardB ops e ⟨none,.panic x,ty,pos,af,g⟩=true:=by rfl):TO prog (bodyFrame f0) n ops (⟨none,.panic x,ty,pos,af,g⟩::l) k (lJ prog X (XR (exW pe fv z) hh)) e [] X h L:=
 aS (MR hx EL (λ_=>nK (yw [] hf hX (by rw[hz,←hp];rfl))) hg)
theorem wpXH{φ : ρ->Value->HF->Prop}(hz:z=.error er)(hx:e.ev x=.iface t v)(hp:pe er=.iface t v)(hf:prog.funcs[f0]? = some fn)(hg:guardB ops e ⟨none,.panic x,ty,pos,af,g⟩=true:=by rfl):TO prog (bodyFrame f0) n ops (⟨none,.panic x,ty,pos,af,g⟩::l) k (lJ prog X (XRH pe z φ)) e [] X h L:=
 aS (MR hx EL (λ_=>nK (by rw[←hp];exact Ou [] hf hz)) hg)
theorem wrXH{φ : ρ->Value->HF->Prop}{rs:List ResultVar}{u:ρ}(hs:z=.ok u)(vs:List Value)(hf:prog.funcs[f0]? = some fn)(hr:fn.results=rs.toArray)(hv:qy prog e L rs vs)(hφ : φ u (retVal vs) h):
  TT prog (bodyFrame f0) n (.code .ret::k) (lJ prog X (XRH pe z φ)) e [] X h L:=ke (Oo [] vs hf hr hv hs hφ)
end
section
variable {b:Frame} {n:Nat} {F:List Frame->(Machine->Prop)->Prop} {e:Env} {ds:List Deferred} {X:Cx} {h:HF} {L:LH} {ops:Array Oper} {K:Env->HF->LH->Prop} {ty t:TypeId} {pos:String} {af:Array Edge} {g:Option (Nat×Bool)}
theorem wsSW(hT:lookN wT t=some (m,a))(hx:e.ev x=.pointer (some ⟨bk,0,none⟩))(hv:e.ev y=.agg vs.toArray)(hL:nth L i=some (bk,.cells cl.toArray T (0,0)))(hm:vs.length=m)(hc:cl.length=m)(h1:vs.all one=true)(t':K e h (setNth L i (bk,.cells vs.toArray T (0,0))))(hg:guardB ops e ⟨none,.store t x y,ty,pos,af,g⟩=true:=by rfl):Stp prog b n ops F ds X ⟨none,.store t x y,ty,pos,af,g⟩ e h L K:=tl i (tabq (f:=tySz prog) nf hT) hx hL hv hm hc h1 t' hg
theorem wsSt(hT:lookN wT t=some (m,a))(hx:e.ev x=.pointer (some ⟨bk,off,none⟩))(hL:nth L i=some (bk,.cells cl.toArray T (0,0)))(hv:vcells (e.ev y)=vs)(hm:vs.length=m)(eT:YE (off+vs.length) cl.length=true)(h1:vs.all one=true)(t':K e h (setNth L i (bk,.cells (splice cl off vs).toArray T (0,0))))(hg:guardB ops e ⟨none,.store t x y,ty,pos,af,g⟩=true:=by rfl):Stp prog b n ops F ds X ⟨none,.store t x y,ty,pos,af,g⟩ e h L K:=qi i (tabq (f:=tySz prog) nf hT) hx hL hv hm eT h1 t' hg
end
section
variable {b:Frame} {n:Nat} {k:List Item} {F:List Frame->(Machine->Prop)->Prop} {e:Env} {ds:List Deferred} {X:Cx} {h:HF} {L:LH} {ops:Array Oper} {l:List Oper} {d:Nat} {ty t u:TypeId} {pos:String} {af:Array Edge} {g:Option (Nat×Bool)} {x y:Operand} {α : Type} {dec:DecidableEq α} {cells:α->List Value} {a c:α} {gk:List Nat} {K:LH} {m:Nat} {dn:List Nat} {i:Nat}
end
theorem HZ{b:Frame}{n:Nat}{ops:Array Oper}{F:List Frame->(Machine->Prop)->Prop}{ds:List Deferred}{X:Cx}{o:Oper}{e:Env}{L L':LH}(hp:L.Perm L')(hg:guardB ops e o=true)(t:Stp P b n ops F ds X o e h L' K):Stp P b n ops F ds X o e h L K:=by
 unfold Stp at t ⊢
 rw[if_pos hg]at t ⊢
 exact λw hw=>t w (hw.perm hp)
section
variable {α : Type} {P:Program} {f:FuncId} {fn:Func} {n:Nat} {ops:Array Oper} {e:Env} {X:Cx} {h h0 h1:HF} {L Q A:LH} {d:Option Nat} {ty:TypeId} {pos:String} {af:Array Edge} {g:Option (Nat×Bool)} {yf:Fn} {ya yb:Array Value} {z dn v r:List α} {x:α} {val:α->HF->List Value->Prop} {C:List α->HF->LH->Prop} {Sp:HF->LH->Prop} {Pn:List PanicEntry->HF->LH->Prop} {t:Nat} {ass:Array Operand} {ats:Array TypeId} {vs:List Value} {K:Env->HF->LH->Prop}
theorem wylS(hy:∀done x rest vs h'' B,z=done++x::rest->h1.le h''->C done h'' B->val x h'' vs->n0 P (.func yf ya yb) vs.toArray h'' B (YR C Sp Pn done x))(m1:∀done h1 h2 B,HF.le h1 h2->C done h1 B->C done h2 B)(hF:P.funcs[f]? = some fn)(hs:v=x::r)(hv:z=dn++v)(hC:C dn h0 A)(h0h:h0.le h)(hl:h1.le h)(hp:L.Perm (Q++A))(hf:e t=.func yf ya yb)(hvs:ass.toList.map e.ev=vs)(hval:val x h vs)(yes:∀h' A',h.le h'->C (dn++[x]) h' A'->∀v',v'=r->z=(dn++[x])++v'->K (pute e d (.bool true)) h' (Q++A'))(no:∀h' A',h.le h'->Sp h' A'->K (pute e d (.bool false)) h' (Q++A'))(hg:guardB ops e ⟨d,.call ⟨.value (.tmp t),ass,ats⟩,ty,pos,af,g⟩=true:=by rfl):
  Stp P (bodyFrame f) n ops (lJ P X (ItR C Sp Pn z)) [] X ⟨d,.call ⟨.value (.tmp t),ass,ats⟩,ty,pos,af,g⟩ e h L K:=
 HZ hp hg (sZ Q A rfl (hy dn x r vs h A (by rw[hv,hs]) hl (m1 _ _ _ _ h0h hC) hval) hf hvs
  (λh' B eT hc=>yes h' B eT hc r rfl (by rw[hv,hs,zC];rfl)) (λh' B eT hc=>no h' B eT hc)
  (λch h' B eT hP e'=>nK (Bd [] hF (List.sublist_append_right _ _) hP)) hg)
end
theorem anT(h:a=true)(k:b=true):(a&&b)=true:=by rw[h,k];rfl
theorem anF1(h:a=false):(a&&b)=false:=by rw[h];rfl
theorem anF2(k:b=false):(a&&b)=false:=by rw[k];cases a<;>rfl
theorem orT1(h:a=true):(a||b)=true:=by rw[h];rfl
theorem orT2(k:b=true):(a||b)=true:=by rw[k];cases a<;>rfl
theorem orF(h:a=false)(k:b=false):(a||b)=false:=by rw[h,k];rfl
theorem tvA{p:Prop}(h:p:=by first
 |assumption
 |(apply anT<;>exact tvA)
 |(apply anF1;exact tvA)
 |(apply anF2;exact tvA)
 |(apply orT1;exact tvA)
 |(apply orT2;exact tvA)
 |(apply orF<;>exact tvA)
 |(apply ntF;exact tvA)|fail):p:=h
section
variable {b:Frame} {n:Nat} {F:List Frame->(Machine->Prop)->Prop} {e:Env} {ds:List Deferred} {X:Cx} {h:HF} {L:LH} {ops:Array Oper} {K:Env->HF->LH->Prop} {d:Option Nat} {ty:TypeId} {pos:String} {af:Array Edge} {g:Option (Nat×Bool)}
theorem wapS{t:TypeId}[i:RpT E R]{base2:Option Addr}{Q:LH}(hT:lookN wS t=some E)(hx:e.ev s=.slice base m cap)(hG:di R E h xs base cap G)(hm:m=xs.length)(hp:L.Perm (Q++G))(hy:e.ev y=.slice base2 ys.length cap2)(hs2:SlC R h base2 cap2 ys)(hS:lookN wT E=some (R.sz,a))(hz:lookN wZ E=some zs)(hzl:zs.length=R.sz)(hby:lookN wB E=some yt)(hb:(xs.length+ys.length)*yt<=140737488355328)(hb2:xs.length+ys.length<=9223372036854775807)(t':∀base' cap' G',di R E h (xs++ys) base' cap' G'->K (pute e d (.slice base' (xs++ys).length cap')) h (Q++G'))(hg:guardB ops e ⟨d,.call ⟨.builtin .append,#[s,y],#[t,t]⟩,ty,pos,af,g⟩=true:=by rfl):Stp prog b n ops F ds X ⟨d,.call ⟨.builtin .append,#[s,y],#[t,t]⟩,ty,pos,af,g⟩ e h L K:=
 HZ (hp.trans zD) hg (dN i.pf [] Q (λG'=>Q++G') rfl (λ_=>rfl) (nC (tabq (f:=sliceE prog) zj hT)) (tabq (f:=tySz prog) nf hS) (tabq (f:=zeroC prog) Fy hz) hzl (tabq (f:=bytesOf prog) Q7 hby) hG hx hm (by rw[hy];exact iY hs2.1) hb hb2
  t' hg)
theorem wapT{t:TypeId}[i:RpT E R]{b2:Nat}{Q:LH}(hT:lookN wS t=some E)(hx:e.ev s=.slice base m cap)(hG:di R E h xs base cap G)(hm:m=xs.length)(hp:L.Perm (Q++G))(hy:e.ev y=.slice (some ⟨b2,0,none⟩) ys.length cap2)(hL:nth L j=some (b2,.cells cl.toArray T fz))(hc:bW R h cl ys)(hS:lookN wT E=some (R.sz,a))(hz:lookN wZ E=some zs)(hzl:zs.length=R.sz)(hby:lookN wB E=some yt)(hb:(xs.length+ys.length)*yt<=140737488355328)(hb2:xs.length+ys.length<=9223372036854775807)(t':∀base' cap' G',di R E h (xs++ys) base' cap' G'->K (pute e d (.slice base' (xs++ys).length cap')) h (Q++G'))(hg:guardB ops e ⟨d,.call ⟨.builtin .append,#[s,y],#[t,t]⟩,ty,pos,af,g⟩=true:=by rfl):Stp prog b n ops F ds X ⟨d,.call ⟨.builtin .append,#[s,y],#[t,t]⟩,ty,pos,af,g⟩ e h L K:=
 HZ (hp.trans zD) hg (dN i.pf [] Q (λG'=>Q++G') rfl (λ_=>rfl) (nC (tabq (f:=sliceE prog) zj hT)) (tabq (f:=tySz prog) nf hS) (tabq (f:=zeroC prog) Fy hz) hzl (tabq (f:=bytesOf prog) Q7 hby) hG hx hm
  (by rw[hy];obtain⟨b',c',cl',h1,h2,h3,h4⟩:=gQ (R:=R) (h:=h) (ys:=ys) (c:=cap2) j hL hc;exact⟨b',c',cl',h1,h2,h3,λX w hw=>h4 X w (hw.perm ((hp.trans zD).symm))⟩) hb hb2
  t' hg)
end
section
variable {b:Frame} {n:Nat} {k:List Item} {F:List Frame->(Machine->Prop)->Prop} {e:Env} {ds:List Deferred} {X:Cx} {h:HF} {L:LH} {ops:Array Oper} {l:List Oper} {K:Env->HF->LH->Prop} {ty t u:TypeId} {d:Nat} {pos:String} {af:Array Edge} {g:Option (Nat×Bool)} {x y:Operand}
theorem wsLd(hT:lookN wT t=some (mm,a))(hx:e.ev x=.pointer (some ⟨bk,off,none⟩))(hL:nth L j=some (bk,.cells cl.toArray T fz))(hv:ldV a mm cl off=some v)(t':K (upd e d v) h L)(hg:guardB ops e ⟨some d,.load t x,ty,pos,af,g⟩=true:=by rfl):Stp prog b n ops F ds X ⟨some d,.load t x,ty,pos,af,g⟩ e h L K:=by
 have hm:(bk,vG cl.toArray T fz)∈L:=by rw[ja]at hL;exact List.mem_of_getElem? hL
 refine fU (λw hw=>?_) t' hg
 cases a with
 |false=>exact Ab (tabq (f:=tySz prog) nf hT) hx hm hv w hw
 |true=>
  unfold ldV at hv;split at hv
  .next h1=>cases h1
  .split at hv
   .next hc=>cases hv;exact nQ (tabq (f:=tySz prog) nf hT) hx hm hc w hw
   .cases hv
theorem wgs{C:List α->HF->LH->Prop}{dn:List α}{h0:HF}{A:LH}{s:Nat}{c:Bool}(hC:C dn h0 A)(hj:gslot ops.toList j=some s)(hs:e s=.bool c)(h1:c=true->TO prog b n ops (⟨q,op,ty,pos,af,some (j,w)⟩::l) k F (upd e s (.bool true)) ds X h L)(h2:c=false->TO prog b n ops (⟨q,op,ty,pos,af,some (j,w)⟩::l) k F (upd e s (.bool false)) ds X h L):TO prog b n ops (⟨q,op,ty,pos,af,some (j,w)⟩::l) k F e ds X h L:=xp s hs h1 h2
end
section
variable {b:Frame} {n:Nat} {l:List Oper} {k:List Item} {F:List Frame->(Machine->Prop)->Prop} {e:Env} {ds:List Deferred} {X:Cx} {h:HF} {L K:LH} {m:Nat} {dn:List Nat} {i d:Nat} {gk:List Nat} {ty t u:TypeId} {pos:String} {af:Array Edge} {g:Option (Nat×Bool)} {x y:Operand} {a c:Int}
theorem wdqo(hx:e.ev x=.int .i64 a)(hy:e.ev y=.int .i64 c)(hc:c≠0)(t':TD gk prog b n l k F ds X K m (i::dn) (upd e d (.int .i64 (IntKind.wrap .i64 (a.tdiv c)))) h L)(hg:guardB l.toArray e ⟨some d,.binOp .quo t x y u,ty,pos,af,g⟩=true:=by rfl):TX gk prog b n l k F ds X K m dn i ⟨some d,.binOp .quo t x y u,ty,pos,af,g⟩ e h L:=
 wdf rfl hg (λh' L' hj w hw=>W4 hx hy hc w hw) t'
end
section
variable {α γ : Type} {M:Md γ} {g0 g:γ} {c:Nat} {h:HF} {e:Env} {A L Q G:LH} {s:Nat} {E:TypeId} {cap:Nat} {bs:Option Addr} {l0 l:List α}
theorem msGr{R:Rp α}(hr:e s=.slice bs l.length cap)(hg:di R E h l bs cap G)(hn:l.length<=l0.length+c)(hp:L.Perm (Q++G))(t:MS M g0 c g h e A Q):MS (Md.mG s R E M) (l0,g0) c (l,g) h e A L:=msG hg hn hr hp t
theorem msSr{R:Rp α}(hr:e s=.slice bs l.length cap)(hg:SlC R h bs cap l)(hn:l.length<=l0.length+c)(t:MS M g0 c g h e A L):MS (Md.mS s R M) (l0,g0) c (l,g) h e A L:=msS hg hn hr t
end
theorem ls1{a b d:Nat}(h:a<=b+1)(k:b<=d+c):a<=d+(c+1):=zN h (Nat.succ_le_succ k)
theorem nn1:(-1:Int)<=(i:Int):=by omega
theorem addr2(q:Addr)(i j:Nat):(q.add i).add j=q.add (i+j):=by
 cases i with
 |zero=>simp[jP]
 |succ i=>
  cases j with
  |zero=>simp[jP]
  |succ j=>simp[jP,Nat.add_assoc]
section
variable {b:Frame} {n:Nat} {k:List Item} {F:List Frame->(Machine->Prop)->Prop} {e:Env} {ds:List Deferred} {X:Cx} {h:HF} {L:LH} {ops:Array Oper} {l:List Oper} {d:Nat} {ty t:TypeId} {pos:String} {af:Array Edge} {g:Option (Nat×Bool)} {x:Operand}
theorem wlh2{q:Addr}{cs:List Value}(hT:lookN wT t=some (m,a))(hx:e.ev x=.pointer (some ((q.add i).add j)))(ha:At h q cs)(hv:ldV a m cs (i+j)=some v)(t':TO prog b n ops l k F (upd e d v) ds X h L)(hd:Nat.blt d n=true:=by rfl)(hg:guardB ops e ⟨some d,.load t x,ty,pos,af,g⟩=true:=by rfl):TO prog b n ops (⟨some d,.load t x,ty,pos,af,g⟩::l) k F e ds X h L:=wlh hT (by rw[hx,addr2]) ha hv t' hd hg
theorem wslT{ops:Array Oper}{d:Option Nat}(hT:lookN wS t=some E)(hx:e.ev x=.slice base m cap)(hm:m=xs.length)(hhi:e.ev hi=.int .i64 z)(hR:SlC R h base cap xs)(hS:lookN wT E=some (R.sz,a))(hz:0<=z/\z<=(xs.length:Int))(t':∀base' cap',SlC R h base' cap' (xs.take z.toNat)->K (pute e d (.slice base' (xs.take z.toNat).length cap')) h L)(hg:guardB ops e ⟨d,.slice t x none (some hi) none,ty,pos,af,g⟩=true:=by rfl):Stp prog b n ops F ds X ⟨d,.slice t x none (some hi) none,ty,pos,af,g⟩ e h L K:=
 T0 (nC (tabq (f:=sliceE prog) zj hT)) (tabq (f:=tySz prog) nf hS) hR.1 hR.2 hz hx hm hhi t' hg
theorem wdsD{K:LH}{lo:Operand}(hT:lookN wS t=some E)(hx:e.ev x=.slice base m cap)(hm:m=xs.length)(hlo:e.ev lo=.int .i64 z)(hR:SlC R h base cap xs)(hS:lookN wT E=some (R.sz,a))(hz:0<=z/\z<=(xs.length:Int))(q:∀base' cap',SlC R h base' cap' (xs.drop z.toNat)->TD gk prog b n l k F ds X K mm (i::dn) (upd e d (.slice base' (xs.drop z.toNat).length cap')) h L)(hg:guardB l.toArray e ⟨some d,.slice t x (some lo) none none,ty,pos,af,g⟩=true:=by rfl):TX gk prog b n l k F ds X K mm dn i ⟨some d,.slice t x (some lo) none none,ty,pos,af,g⟩ e h L:=
 λhi hy hs hK=>Lt i hs ⟨vF _,hK⟩ (nC (tabq (f:=sliceE prog) zj hT)) (tabq (f:=tySz prog) nf hS) hR.1 hR.2 hz hx hm hlo hi (xI hi hy) (λb c s=>q b c s hs hK) hg
theorem wdsT{K:LH}(hT:lookN wS t=some E)(hx:e.ev x=.slice base m cap)(hm:m=xs.length)(hhi:e.ev hi=.int .i64 z)(hR:SlC R h base cap xs)(hS:lookN wT E=some (R.sz,a))(hz:0<=z/\z<=(xs.length:Int))(q:∀base' cap',SlC R h base' cap' (xs.take z.toNat)->TD gk prog b n l k F ds X K mm (i::dn) (upd e d (.slice base' (xs.take z.toNat).length cap')) h L)(hg:guardB l.toArray e ⟨some d,.slice t x none (some hi) none,ty,pos,af,g⟩=true:=by rfl):TX gk prog b n l k F ds X K mm dn i ⟨some d,.slice t x none (some hi) none,ty,pos,af,g⟩ e h L:=
 λhi' hy hs hK=>EI i hs ⟨vF _,hK⟩ (nC (tabq (f:=sliceE prog) zj hT)) (tabq (f:=tySz prog) nf hS) hR.1 hR.2 hz hx hm hhi hi' (xI hi' hy) (λb c s=>q b c s hs hK) hg
theorem wcXR{ops:Array Oper}{σ:Type}{x:Except Int ρ}{z:Except Int σ}{kk:ρ->Except Int σ}{B:LH}{QP:List PanicEntry->Prop}[i:Ct f](hvs:ass.toList.map e.ev=vs)(hs:i.p->Fw prog f vs h (exW pe fv x))(hz:z=exi x kk)(pn:∀ch {h2 e' L'},QP ch->SP B L'->TP prog b n ch F e' ds X h2 L')(hB:SP B L)(hQ:∀er,z=.error er->QP [{ v:=pe er,recovered:=false }])(t':∀r,x=.ok r->z=kk r->K (pute e q (fv r)) h L)(hg:guardB ops e ⟨q,.call ⟨.value (.func f),ass,ats⟩,ty,pos,af,g⟩=true:=by rfl):
  Stp prog b n ops F ds X ⟨q,.call ⟨.value (.func f),ass,ats⟩,ty,pos,af,g⟩ e h L K:=
 rO i.call (hs i.pf) hvs (λu hu=>by obtain⟨r,hr,rfl⟩:=vY hu;exact t' r hr (hz.trans (Df hr)))
  (λp hp e'=>by obtain⟨r,hr,rfl⟩:=su hp;exact pn _ (hQ r (hz.trans (uH hr))) hB) hg
theorem wgN{s:Nat}{c:Bool}(hj:gslot ops.toList j=some s)(hs:e s=.bool c)(hc:c=false)(t':TO prog b n ops (⟨q,op,ty,pos,af,some (j,w)⟩::l) k F (upd e s (.bool false)) ds X h L):TO prog b n ops (⟨q,op,ty,pos,af,some (j,w)⟩::l) k F e ds X h L:=xp s hs (λa=>by rw[hc]at a;cases a) (λ_=>t')
theorem wdh2{z:Nat}{l:List Oper}{K:LH}{p:Addr}{cs:List Value}(hT:lookN wT t=some (mm,a))(hx:e.ev x=.pointer (some ((p.add z).add j)))(ha:At h p cs)(hv:ldV a mm cs (z+j)=some v)(q:TD gk prog b n l k F ds X K m (i::dn) (upd e d v) h L)(hg:guardB l.toArray e ⟨some d,.load t x,ty,pos,af,g⟩=true:=by rfl):TX gk prog b n l k F ds X K m dn i ⟨some d,.load t x,ty,pos,af,g⟩ e h L:=wdh hT (by rw[hx,addr2]) ha hv q hg
end
instance:MpT 183 Int.instDecidableEq (jC .i64) Ao (0:Int):=⟨⟨_,_,_,Dp,(im qZ),zv3,λ_=>rfl⟩⟩
instance:MpT 224 Int.instDecidableEq (jC .i64) sO false:=⟨⟨_,_,_,underlying224,(im qZ),zv4,λ_=>rfl⟩⟩
instance:MpT 227 inferInstance ig.enc (mT xV) (YM 0 0 0 0 0 0 0 false):=⟨⟨_,_,_,underlying227,Pd,zv81,λ_=>⟨_,rfl,rfl⟩⟩⟩
instance:MpT 288 inferInstance jS (mT aA.rp) (aA.mk 0 0 0 0 0 0 false):=⟨⟨_,_,_,underlying288,Jc,zv76,λ_=>⟨_,rfl,rfl⟩⟩⟩
instance:MpT 384 inferInstance dX.enc (mT av.rp) (av.mk 0 0 0 0 0 false false):=⟨⟨_,_,_,underlying384,KT,zv78,λ_=>⟨_,rfl,rfl⟩⟩⟩
instance:MpT 398 inferInstance ea.enc (mT aE.rp) (aE.mk 0 0 0 0 0 0 0 0 0 false):=⟨⟨_,_,_,underlying398,w8,zv150,λ_=>⟨_,rfl,rfl⟩⟩⟩
instance:EqT 78 inferInstance av.cells:=⟨NS,eqg78⟩
instance:EqT 81 inferInstance zV:=⟨QT,eqg81⟩
instance:EqT 150 inferInstance aE.cells:=⟨QS,eqg150⟩
instance:IfT 37:=⟨⟨_,underlying37,rfl⟩⟩
instance:IfT 375:=⟨⟨_,underlying375,rfl⟩⟩
instance:BoT 4:=⟨XI⟩
end
variable {p:Prop}
section
theorem lnS{b:Option Addr}(a:SlC R h b c xs):xs.length<=9223372036854775807:=a.1.1
theorem nthA(h:p:=by first|exact(rfl:nth _ 0=_)|exact(rfl:nth _ 1=_)|exact(rfl:nth _ 2=_)|exact(rfl:nth _ 3=_)|exact(rfl:nth _ 4=_)|exact(rfl:nth _ 5=_)|exact(rfl:nth _ 6=_)|fail):p:=h
theorem rdR(h:p:=by first|exact trivial|((repeat (first|exact trivial|refine⟨rfl,?_⟩|refine⟨wrc rfl nthA rfl rfl rfl rfl,?_⟩|fail));all_goals fail)|fail):p:=h
theorem slm[i:RpG R]{h':HF}{b:Option Addr}(a:SlC R h b c xs)(hl:h.le h'):SlC R h' b c xs:=a.mono i.good.mono hl
theorem atm{h':HF}{q:Addr}{cs:List Value}(a:At h q cs)(hl:h.le h'):At h' q cs:=a.mono hl
theorem ok0(h:p:=by first|assumption|exact fI.ok.mono (by assumption) leA|exact aw.ok.mono (by assumption) leA|exact aC.ok.mono (by assumption) leA|exact aj.ok.mono (by assumption) leA|exact Register.ok.mono (by assumption) leA|exact dT.ok.mono (by assumption) leA|exact iX.ok.mono (by assumption) leA|exact ba.ok.mono (by assumption) leA|exact hZ.ok.mono (by assumption) leA|exact jo.ok.mono (by assumption) leA|exact ff.ok.mono (by assumption) leA|exact bZ.ok.mono (by assumption) leA|exact ai.ok.mono (by assumption) leA|fail):p:=h
theorem ok1(h:p:=by first|exact ok0|((with_reducible refine fI.ok.ai ?_);exact ok0)|((with_reducible refine aw.ok.aP ?_);exact ok0)|((with_reducible refine aC.ok.aw ?_);exact ok0)|((with_reducible refine hZ.ok.x ?_);exact ok0)|((with_reducible refine ff.ok.shelf ?_);exact ok0)|((with_reducible refine bZ.ok.Register ?_);exact ok0)|((with_reducible refine bZ.ok.bD ?_);exact ok0)|fail):p:=h
theorem okA(h:p:=by first|exact ok0|((with_reducible refine fI.ok.ai ?_);exact ok1)|((with_reducible refine aw.ok.aP ?_);exact ok1)|((with_reducible refine aC.ok.aw ?_);exact ok1)|((with_reducible refine hZ.ok.x ?_);exact ok1)|((with_reducible refine ff.ok.shelf ?_);exact ok1)|((with_reducible refine bZ.ok.Register ?_);exact ok1)|((with_reducible refine bZ.ok.bD ?_);exact ok1)|fail):p:=h
theorem rpA(h:p:=by first|rfl|exact⟨_,rfl,okA⟩|exact⟨_,_,rfl,slm (by assumption) leA⟩|exact rpN|fail):p:=h
theorem ceA(h:p:=by first|exact cNi|exact cCo rpA rfl cNi|exact cCo rpA rfl (cCo rpA rfl cNi)|exact cCo rpA rfl (cCo rpA rfl (cCo rpA rfl cNi))|exact cCo rpA rfl (cCo rpA rfl (cCo rpA rfl (cCo rpA rfl cNi)))|exact cCo rpA rfl (cCo rpA rfl (cCo rpA rfl (cCo rpA rfl (cCo rpA rfl cNi))))|exact cCo rpA rfl (cCo rpA rfl (cCo rpA rfl (cCo rpA rfl (cCo rpA rfl (cCo rpA rfl cNi)))))|exact cCo rpA rfl (cCo rpA rfl (cCo rpA rfl (cCo rpA rfl (cCo rpA rfl (cCo rpA rfl (cCo rpA rfl cNi))))))|exact cCo rpA rfl (cCo rpA rfl (cCo rpA rfl (cCo rpA rfl (cCo rpA rfl (cCo rpA rfl (cCo rpA rfl (cCo rpA rfl cNi)))))))|fail):p:=h
theorem slA(h:p:=by first
 |assumption
 |exact slm (by assumption) leA
 |exact SlC.nil
 |exact aw.ok.ey okA
 |exact aw.ok.aD okA
 |exact aw.ok.dt okA
 |exact aj.ok.nz okA
 |exact ai.ok.list okA
 |exact aj.ok.eX okA
 |exact aj.ok.eQ okA
 |exact Register.ok.fj okA
 |exact Register.ok.dY okA
 |exact Register.ok.gu okA
 |exact Register.ok.fF okA
 |exact Register.ok.Versions okA
 |exact Register.ok.cj okA
 |exact Register.ok.bS okA
 |exact dT.ok.Versions okA
 |exact dT.ok.Who okA
 |exact iX.ok.path okA
 |exact ba.ok.bh okA
 |exact ba.ok.gv okA
 |exact jo.ok.docs okA
 |exact ff.ok.signed okA
 |exact ff.ok.done okA
 |exact ff.ok.lacks okA|fail):p:=h
theorem cpX{q:Prop}(h:p)(k:p->q:=by intro h;simp only[decide_eq_true_eq,decide_eq_false_iff_not,Bool.and_eq_true,Bool.or_eq_true,Bool.not_eq_true',Bool.not_eq_false',Bool.and_eq_false_iff,Bool.or_eq_false_iff,beq_iff_eq,beq_eq_false_iff_ne,bne_iff_ne,bne_eq_false_iff_eq,ne_eq,Decidable.not_not]at h;exact h):q:=k h
theorem nlL{n:Nat}:([]:List α).length<=n:=Nat.zero_le n
theorem obf(h:p:=by first|assumption|omega|with_reducible exact nlL|fail):p:=h
theorem sdb(h:p:=by first|assumption|exact fe (by assumption)|exact obf|exact ob|fail):p:=h
theorem sdK(h:p:=by first|(apply k0<;>exact sdb)|(apply k1<;>exact sdb)|(apply k2<;>exact sdb)|(apply k3<;>exact sdb)|fail):p:=h
theorem sdQ(h:p:=by first|(apply q0<;>exact sdb)|(apply q1<;>exact sdb)|(apply q2<;>exact sdb)|(apply q3<;>exact sdb)|(apply q4<;>exact sdb)|(apply q5<;>exact sdb)|(apply q0<;>first|exact sdb|(apply q1<;>exact sdb)|(apply q2<;>exact sdb)|fail)|(apply q1<;>first|exact sdb|(apply q0<;>exact sdb)|(apply q2<;>exact sdb)|fail)|exact sdK|fail):p:=h
theorem dpA(h:p:=by(have hq:=ai.lI (fe (by assumption)));omega):p:=h
theorem sdA(h:p:=by first|exact obf|exact sdQ|exact dpA|exact ob|((have gz:=gk);grind)|fail):p:=h
theorem ixA(h:p:=by first|exact obf|exact sdQ|exact ob|exact⟨ob,sdQ⟩|fail):p:=h
theorem fc0{p:Prop}(h:p:=by first
 |assumption
 |exact hsm.vers
 |((with_reducible refine gSl ?_);exact slA)
 |((with_reducible refine gAt ?_);exact atm (by assumption) leA)
 |((with_reducible refine gIt ?_);first|exact itm (by assumption) leA|exact wit (λc=>by first|(apply c<;>exact fc0)|fail)|fail)
 |((with_reducible refine gNl ?_);exact sdA)
 |((with_reducible refine gNt ?_);exact sdA)
 |((with_reducible refine gIl' ?_);exact sdA)
 |((with_reducible refine gEn ?_);exact sdA)
 |((with_reducible refine gAn ?_);exact sdA)
 |exact ey.mono (by assumption) leA
 |exact okA
 |exact okN
 |exact gSl slA
 |exact gAt (atm (by assumption) leA)
 |exact ai.lI (fe (by assumption))
 |((with_reducible refine gAl' ?_);exact sdA)
 |(intro _;exact sdA)
 |exact sdQ
 |(apply_assumption<;>exact sdA)|fail):p:=h
theorem fcA(h:p:=by first|exact fc0|(intro h a eT;exact wrv (λc=>by first|(apply c<;>exact fc0)|fail))|(intros;exact wrv (λc=>by first|(apply c<;>exact fc0)|fail))|fail):p:=h
theorem lnA(h:xs.length<=m:=by first|exact ob|exact lnS (by assumption)|exact lnS slA|fail):xs.length<=m:=h
theorem rvA(h:p:=by first|assumption|(apply_assumption<;>first|exact leA|exact fe (by assumption)|exact fc0|fail)|exact wrv (λc=>by first|(apply c<;>exact fc0)|fail)|fail):p:=h
theorem vlA(h:p:=by first|exact rfl|exact⟨_,rfl,fcA⟩|exact⟨_,_,rfl,fcA⟩|fail):p:=h
theorem lbA(h:p:=by first|exact ob|exact lo|fail):p:=h
theorem grA(h:p:=by first|assumption|exact grm (by assumption) leA|exact di.nil|exact di.lit cNi rfl|fail):p:=h
theorem grB(p:di R E h xs base cap G:=by first|assumption|exact grm (by assumption) leA|fail):di R E h xs base cap G:=p
theorem edW(h:p:=by
 (repeat (first|refine wtt rfl ?_|refine wto rfl ?_|refine woo rfl ?_|refine wot rfl ?_|refine wld rfl rfl nthA rfl ?_|refine wlh rfl rfl fcA rfl ?_|fail));first
 |(refine wcF rfl hf ?_;exact jI rfl (hx _ rdd))
 |(refine wgN rfl rfl hf ?_;(repeat (first|refine wgo rfl ?_|refine wot rfl ?_|refine woo rfl ?_|fail));refine pj rfl ?_;exact jI rfl (hx _ rdd))|fail):p:=h
theorem ndW(h:p:=by first
 |(intro i g hd hf hx e;exact edW)
 |(intro i hd hf hx e;exact edW)|fail):p:=h
theorem pmR{α : Type}{L M:List α}(p:L.Perm M:=by first|exact pmn|exact pm0|exact pmg|exact pm1 pmn|(apply pmc;exact pmR)|(apply pma;exact pmR)|(apply pmb;exact pmR)|fail):L.Perm M:=p
theorem pkA(h:p:=by first|exact pk0|exact pk1 pk0|exact pk1 (pk1 pk0)|exact pk1 (pk1 (pk1 pk0))|exact pk1 (pk1 (pk1 (pk1 pk0)))|exact pk1 (pk1 (pk1 (pk1 (pk1 pk0))))|exact pk1 (pk1 (pk1 (pk1 (pk1 (pk1 pk0)))))|fail):p:=h
theorem flN(h:p:=by first|exact(rfl:_=[])|exact(rfl:_=[999])|fail):p:=h
theorem exA{p:Prop}(h:p:=by first|exact exN|(apply exC;exact rfl;exact pkA;exact exA)|(apply exM;exact rfl;exact pkA;exact exA)|fail):p:=h
theorem sbA{K L:LH}(h:∀p∈K,p∈L:=by first|exact λ_ q=>q|exact λ_ q=>(jsA:List.Sublist _ _).subset q|fail):∀p∈K,p∈L:=h
theorem hzS(h:p:=by first|with_reducible exact hs|exact hs|fail):p:=h
theorem jvA(h:p:=by first|assumption|exact λ_ hx=>(List.not_mem_nil hx).elim|exact λx hx=>(List.mem_append.1 hx).elim (λhx=>by first|(apply_assumption;exact hx)|fail) (λhx=>by have hx:=List.mem_singleton.1 hx;subst hx;first|exact ob|exact fc0|fail)|exact nn1|(dsimp only;exact ob)|exact ob|fail):p:=h
theorem msT{p:Prop}(h:p:=by first
 |(apply msA;exact rdw;exact msT)
 |(apply msGr;exact rfl;exact grA;exact ob;exact pmR;exact msT)
 |(apply msG;exact grA;exact ob;exact rfl;exact pmR;exact msT)
 |(apply msM;exact mpA;(first|exact Nat.le_trans (rV _ _ _) ob|exact ob|fail);exact pmR;exact msT)
 |(apply msD;exact rfl;exact pmR;exact msT)
 |(apply msSr;exact rfl;exact slA;(first|exact ob|(apply ls1;(first|exact q0 _ _|exact q1 _ _|exact q2 _ _|exact q3 _ _|fail);exact ob)|fail);exact msT)
 |(apply msS;exact slA;exact ob;exact rfl;exact msT)
 |(apply msV;exact pmR;exact rfl;exact slA;(first|exact ob|(apply ls1;(first|exact q0 _ _|exact q1 _ _|exact q2 _ _|exact q3 _ _|fail);exact ob)|fail);exact msT)
 |(apply msF;exact grA;exact ob;exact rfl;exact pmR;exact pmR;exact msT)
 |(apply msJ;exact jvA;exact msT)
 |(apply msE;exact SP.of jsA)
 |fail):p:=h
theorem vxA(h:p:=by first|exact rfl|exact⟨_,rfl,rfl⟩|exact⟨_,rfl,_,rfl,okA⟩|exact⟨_,_,rfl,slA⟩|fail):p:=h
theorem kyA(h:p:=by first|with_reducible exact rfl|exact rfl|exact(rfl:_=OSeat.enc (OSeat.mk _ _))|exact(rfl:_=dX.enc (dX.mk _ _ _))|exact(rfl:_=eY.enc (eY.mk _ _ _ _))|exact(rfl:_=ea.enc (ea.mk _ _ _ _))|exact(rfl:_=ig.enc (ig.mk _ _))|fail):p:=h
theorem vlL(h:p:=by first|exact xd|exact zu|exact qn|exact Jj|exact yd|exact AZ|exact ul|exact Bb|exact itv_OSeat_len|fail):p:=h
theorem okN{p:Prop}(h:p:=by first|exact okA|exact slA|exact mcA|exact ai.ok.of slA|(refine⟨?_⟩<;>(try dsimp only)<;>exact okN)|(refine⟨?_,?_⟩<;>(try dsimp only)<;>exact okN)|(refine⟨?_,?_,?_⟩<;>(try dsimp only)<;>exact okN)|(refine⟨?_,?_,?_,?_⟩<;>(try dsimp only)<;>exact okN)|(refine⟨?_,?_,?_,?_,?_,?_,?_⟩<;>(try dsimp only)<;>exact okN)|fail):p:=h
theorem rpN(h:p:=by first|exact rfl|exact(rfl:_=aV.cells (aV.mk _ _))|exact(rfl:_=Use.cells (Use.mk _ _ _ _ _))|exact(rfl:_=aA.cells (aA.mk _ _ _ _ _ _ _))|exact(rfl:_=aE.cells (aE.mk _ _ _ _ _ _ _ _ _ _))|exact(rfl:_=av.cells (av.mk _ _ _ _ _ _ _))|exact(rfl:_=Budget.cells (Budget.mk _ _ _ _ _ _ _ _))|exact(rfl:_=ae.cells (ae.mk _ _ _ _ _ _ _ _))|exact(rfl:_=Cu.cells (Cu.mk _ _))|exact(rfl:_=OSeat.cells (OSeat.mk _ _))|exact(rfl:_=dX.cells (dX.mk _ _ _))|exact(rfl:_=tR.cells (tR.mk _))|exact(rfl:_=eY.cells (eY.mk _ _ _ _))|exact(rfl:_=ea.cells (ea.mk _ _ _ _))|exact(rfl:_=bL.cells (bL.mk _ _ _ _ _))|exact(rfl:_=ig.cells (ig.mk _ _))|exact⟨(yp.mk (dO.mk _ _)),rfl,okN⟩|exact⟨(yp.mk (dO.mk _ _)),(rfl:_=fI.cells (fI.mk _ _ _ (ai.mk _ _ _ _ _)) _),okN⟩|exact⟨(iq.mk _ _ _ _ _ _ (dO.mk _ _)),rfl,okN⟩|exact⟨(iq.mk _ _ _ _ _ _ (dO.mk _ _)),(rfl:_=aw.cells (aw.mk _ _ _ _ (ai.mk _ _ _ _ _) _) _),okN⟩|exact⟨(px.mk (iq.mk _ _ _ _ _ _ (dO.mk _ _))),rfl,okN⟩|exact⟨(px.mk (iq.mk _ _ _ _ _ _ (dO.mk _ _))),(rfl:_=aC.cells (aC.mk _ _ _ (aw.mk _ _ _ _ (ai.mk _ _ _ _ _) _)) _),okN⟩|exact⟨(m6.mk _ _ _ _ _ _),rfl,okN⟩|exact⟨(m6.mk _ _ _ _ _ _),(rfl:_=aj.cells (aj.mk _ _ _ _ _ _ _ _ _ _) _),okN⟩|exact⟨(iK.mk _ _ _ _ _ _ _ _ _ _ _ _ _ _),rfl,okN⟩|exact⟨(iK.mk _ _ _ _ _ _ _ _ _ _ _ _ _ _),(rfl:_=Register.cells (Register.mk _ _ _ _ _ _ _) _),okN⟩|exact⟨(py.mk _ _ _ _),rfl,okN⟩|exact⟨(py.mk _ _ _ _),(rfl:_=dT.cells (dT.mk _ _ _ _) _),okN⟩|exact⟨(MB.mk _ _),rfl,okN⟩|exact⟨(MB.mk _ _),(rfl:_=iX.cells (iX.mk _ _) _),okN⟩|exact⟨(rJ.mk _ _),rfl,okN⟩|exact⟨(rJ.mk _ _),(rfl:_=fw.cells (fw.mk _ _) _),okN⟩|exact⟨(mI.mk _ _ _ _),rfl,okN⟩|exact⟨(mI.mk _ _ _ _),(rfl:_=ba.cells (ba.mk _ _ _) _),okN⟩|exact⟨(za.mk (dO.mk _ _)),rfl,okN⟩|exact⟨(za.mk (dO.mk _ _)),(rfl:_=hZ.cells (hZ.mk (ai.mk _ _ _ _ _) _) _),okN⟩|exact⟨(pO.mk _ _ _),rfl,okN⟩|exact⟨(pO.mk _ _ _),(rfl:_=jo.cells (jo.mk _ _) _),okN⟩|exact⟨(sX.mk (pO.mk _ _ _) _ _ _ _ _ _ _),rfl,okN⟩|exact⟨(sX.mk (pO.mk _ _ _) _ _ _ _ _ _ _),(rfl:_=ff.cells (ff.mk (jo.mk _ _) _ _ _ _) _),okN⟩|exact⟨(sC.mk (iK.mk _ _ _ _ _ _ _ _ _ _ _ _ _ _) (m6.mk _ _ _ _ _ _)),rfl,okN⟩|exact⟨(sC.mk (iK.mk _ _ _ _ _ _ _ _ _ _ _ _ _ _) (m6.mk _ _ _ _ _ _)),(rfl:_=bZ.cells (bZ.mk (Register.mk _ _ _ _ _ _ _) (aj.mk _ _ _ _ _ _ _ _ _ _) _ _) _),okN⟩|exact⟨(dO.mk _ _),rfl,okN⟩|exact⟨(dO.mk _ _),(rfl:_=ai.cells (ai.mk _ _ _ _ _) _),okN⟩|fail):p:=h
theorem zrN(h:p:=by first|exact⟨(yp.mk (dO.mk _ _)),rfl,okN⟩|exact⟨(iq.mk _ _ _ _ _ _ (dO.mk _ _)),rfl,okN⟩|exact⟨(px.mk (iq.mk _ _ _ _ _ _ (dO.mk _ _))),rfl,okN⟩|exact⟨(m6.mk _ _ _ _ _ _),rfl,okN⟩|exact⟨(iK.mk _ _ _ _ _ _ _ _ _ _ _ _ _ _),rfl,okN⟩|exact⟨(py.mk _ _ _ _),rfl,okN⟩|exact⟨(MB.mk _ _),rfl,okN⟩|exact⟨(rJ.mk _ _),rfl,okN⟩|exact⟨(mI.mk _ _ _ _),rfl,okN⟩|exact⟨(za.mk (dO.mk _ _)),rfl,okN⟩|exact⟨(pO.mk _ _ _),rfl,okN⟩|exact⟨(sX.mk (pO.mk _ _ _) _ _ _ _ _ _ _),rfl,okN⟩|exact⟨(sC.mk (iK.mk _ _ _ _ _ _ _ _ _ _ _ _ _ _) (m6.mk _ _ _ _ _ _)),rfl,okN⟩|exact⟨(dO.mk _ _),rfl,okN⟩|fail):p:=h
theorem W{p:Prop}(h:p:=by
 repeat' (first
 |((with_reducible refine gSv ?_);intro X hM hX hF;have hs:=hz.symm)
  |((with_reducible refine gO ?_);first
   |refine woo rfl ?_
   |refine wot rfl ?_
   |((with_reducible refine gLd ?_);first
    |refine wld rfl rfl nthA rfl ?_
    |refine wlh0 rfl rfl fcA ?_
    |refine wlhs rfl rfl fcA rfl ?_
    |refine wlhS rfl rfl fcA ?_
    |refine wlh rfl rfl fcA rfl ?_
    |refine wlh2 rfl rfl fcA rfl ?_
    |fail)
   |((with_reducible refine gBx ?_);first|refine wbxA rfl (λb=>?_)|refine j2 (λb=>?_)|fail)
   |((with_reducible refine gAl ?_);refine aS (wal rfl (λb=>?_)))
   |((with_reducible refine gSt ?_);first
    |refine wsW rfl rfl rfl nthA rfl rfl rfl ?_
    |refine wst rfl rfl nthA rfl rfl rfl rfl ?_
    |fail)
   |((with_reducible refine gCf ?_);first
    |(refine aS ?_;first
     |((have gq:=gn);(refine wcN rfl (λc=>by first|(apply c<;>exact fcA)|fail) (λv h eT hp=>?_));(first|obtain⟨_,_,rfl,hp⟩:=hp|obtain⟨_,rfl,hp⟩:=hp|fail))
     |refine wcRr rfl (by first|(apply hrec<;>exact fcA)|fail) ?_
     |refine wcR rfl (λc=>by first|(apply c<;>exact fcA)|fail) ?_
     |((refine wcHr rfl (by first|(apply hrec<;>exact fcA)|fail) (λv h eT hp=>?_));(first|obtain⟨_,_,rfl,hp⟩:=hp|obtain⟨_,rfl,hp⟩:=hp|fail);(try (with_reducible (have hpa:=an1 hp;have hpb:=an2 hp))))
     |((refine wcX rfl (λc=>by first|(apply c<;>exact fcA)|fail) hs hF hX (λr hr hs=>?_));try dsimp only at hs)
     |((refine wcXR rfl (λc=>by first|(apply c<;>exact fcA)|fail) hs pn (SP.of jsA) (λer h=>⟨er,rfl,h⟩) (λr hr hs=>?_));try dsimp only at hs)
     |refine wcXo (r:=()) rfl (λc=>by first|(apply c<;>exact fcA)|fail) sdA ?_
     |((refine wcH rfl (λc=>by first|(apply c<;>exact fcA)|fail) (λv h eT hp=>?_));(first|obtain⟨_,_,rfl,hp⟩:=hp|obtain⟨_,rfl,hp⟩:=hp|fail);(try (with_reducible (have hpa:=an1 hp;have hpb:=an2 hp))))
     |fail)
    |refine wfgo (by assumption:di _ _ _ _ _ _ _) pmA hM (λh eT sl=>?_)
    |fail)
   |((with_reducible refine gMi ?_);first|refine wmi rfl rfl ?_|refine wma rfl rfl ?_|fail)
   |((with_reducible refine gIf ?_);refine wif rfl ?_)
   |((with_reducible refine gPn ?_);first|exact wpX hs rfl rfl hF hX|exact wpXH hs rfl rfl hF|fail)
   |((with_reducible refine gAp ?_);(first|refine wap rfl rfl grA rfl pmR rfl slA rfl rfl rfl rfl lbA lbA (λbs cp G hG=>?_)|refine wapO rfl rfl grA rfl pmR rfl nthA ceA rfl rfl rfl rfl lbA lbA (λbs cp G hG=>?_)|fail))
   |((with_reducible refine gCt ?_);first|refine wyl hy m1 hF hs hv hC leA leA pmA rfl rfl vlA (λh A eT hC v hs hv=>?_) (λh A eT hSp=>?_)|refine aS (wcV rfl rfl rvA ?_)|fail)
   |((with_reducible refine gMf ?_);first
    |refine wmz 0 rfl rfl nthA hM (λh eT at_=>?_)
    |refine wmz 1 rfl rfl nthA hM (λh eT at_=>?_)
    |refine wmz 2 rfl rfl nthA hM (λh eT at_=>?_)
    |refine wmz 3 rfl rfl nthA hM (λh eT at_=>?_)
    |refine wmz 4 rfl rfl nthA hM (λh eT at_=>?_)
    |refine aS (wmf ?_)
    |fail)
   |((with_reducible refine gIx ?_);(first
    |refine wix rfl rfl rfl rfl slA rfl (nthZ (by assumption)) (jk (by assumption)) (λq cs hA hl hr=>?_)
    |refine wixw rfl rfl rfl rfl slA rfl ixA (eu ixA) (λq cs hA hl hr=>?_)
    |refine wix rfl rfl rfl rfl slA rfl ixA (eu ixA) (λq cs hA hl hr=>?_)
    |fail);(first|(obtain⟨_,_,rfl,hr⟩:=hr)|(obtain⟨_,rfl,hr⟩:=hr)|(have hr:=(hr:cs=_);subst hr)|fail))
   |((with_reducible refine gSc ?_);refine aS ?_;first|refine wslT rfl rfl rfl rfl slA rfl ixA (λb c sl=>?_)|refine wslD rfl rfl rfl rfl slA rfl ixA (λb c sl=>?_)|fail)
   |((with_reducible refine gSx ?_);refine wsx rfl rfl rfl ixA ?_)
   |((with_reducible refine gBs ?_);first
    |refine wbf rfl rfl rfl ceA rfl hM (λb h eT sl=>?_)
    |refine aS (wbs rfl rfl rfl (λb=>?_))
    |refine aS (wbs0 rfl rfl (λb=>?_))
    |fail)
   |((with_reducible refine gBi ?_);first|refine weq rfl rfl ?_|refine wne rfl rfl ?_|refine weB rfl rfl ?_|refine wshr rfl rfl ob ?_|refine wband rfl rfl ?_|refine wshl rfl rfl ob ?_|fail)
   |((with_reducible refine gBd ?_);refine aS ?_;first|refine wbdF (t:=292) rfl rfl rfl (rfl:_=ba.cells (ba.mk _ _ _) (mI.mk _ _ _ _)) ?_|refine wbdF (t:=341) rfl rfl rfl (rfl:_=bL.cells (bL.mk _ _ _ _ _)) ?_|refine wbd rfl rfl rfl ?_|fail)
   |((with_reducible refine gMk ?_);refine aS (uw (λb=>?_)))
   |((with_reducible refine gLk ?_);refine aS ?_;((first|refine wmG rfl nthA mpA kyA (λv hv=>?_)|refine wmF rfl mcA kyA (λv hv=>?_)|fail);(first|(obtain⟨_,rfl,_,rfl,hv⟩:=hv)|(obtain⟨_,_,rfl,hv⟩:=hv)|(obtain⟨_,rfl,hv⟩:=hv;have hv:=(hv:_=_);subst hv)|(have hv:=(hv:v=_);subst hv)|fail)))
   |((with_reducible refine gMu ?_);refine aS (wmS rfl nthA mpA kyA vxA (λo hm hn=>?_)))
   |((with_reducible refine gPk ?_);refine wgo rfl ?_;first|exact hk _ rfl|exact wso (hk _ rfl) jsA leA hX leA|(have hc:=hC)|fail)
   |((with_reducible refine gGu ?_);first
    |refine wgo rfl ?_
    |((fail_if_success (refine gGf rfl ?_));(refine wgs hC rfl rfl (λc=>?_) (λc=>?_)<;>(try (have hs:=hs.trans (bt tvA)))<;>(try (have hs:=hs.trans (bf tvA)))))
    |((fail_if_success (refine gGf rfl ?_));(refine gOr false rfl ?_);refine wor _ rfl rfl rfl (λc hk=>W) (λe=>?_))
    |((fail_if_success (refine gGf rfl ?_));(refine gOr true rfl ?_);refine wand _ rfl rfl rfl (λc hk=>W) (λe=>?_))
    |fail))
  |((with_reducible refine gX ?_);first
   |((with_reducible refine gXl ?_);first
    |refine wdl rfl rfl nthA rfl ?_
    |refine wdh0 rfl rfl fcA ?_
    |refine wdhs rfl rfl fcA rfl ?_
    |refine wdhS rfl rfl fcA ?_
    |refine wdh rfl rfl fcA rfl ?_
    |refine wdh2 rfl rfl fcA rfl ?_
    |fail)
   |((with_reducible refine gXi ?_);(first
    |refine wdi rfl rfl rfl rfl slA rfl (nthZ (by assumption)) (jk (by assumption)) (λq cs hA hl hr=>?_)
    |refine wdiw rfl rfl rfl rfl slA rfl ixA (eu ixA) (λq cs hA hl hr=>?_)
    |refine wdi rfl rfl rfl rfl slA rfl ixA (eu ixA) (λq cs hA hl hr=>?_)
    |fail);(first|(obtain⟨_,_,rfl,hr⟩:=hr)|(obtain⟨_,rfl,hr⟩:=hr)|(have hr:=(hr:cs=_);subst hr)|fail))
   |((with_reducible refine gXc ?_);first|refine wdsT rfl rfl rfl rfl slA rfl ixA (λb c sl=>?_)|refine wdsD rfl rfl rfl rfl slA rfl ixA (λb c sl=>?_)|fail)
   |((with_reducible refine gXb ?_);first|refine wdeq rfl rfl ?_|refine wdne rfl rfl ?_|refine wdqo rfl rfl ob ?_|fail)
   |refine wdlr true rfl rfl rfl ?_
   |refine wdlr false rfl rfl rfl ?_|refine wdlu rfl rfl rfl ?_
   |(refine wdsp rfl rfl rfl (λc=>?_) (λc=>?_)<;>(try (have hs:=hs.trans (bt tvA)))<;>(try (have hs:=hs.trans (bf tvA))))
   |refine wdb ?_
   |fail)
  |((with_reducible refine gD ?_);first
   |refine wdq rfl rfl ?_
   |refine wdx 0 rfl ?_
   |((refine wdx 1 rfl ?_);first|refine wdlr true rfl rfl rfl ?_|refine wdlr false rfl rfl rfl ?_|refine wdlu rfl rfl rfl ?_|(refine wdsp rfl rfl rfl (λc=>?_) (λc=>?_)<;>(try (have hs:=hs.trans (bt tvA)))<;>(try (have hs:=hs.trans (bf tvA))))|fail)
   |refine wd0 rfl ?_
   |refine wd1 rfl rfl ?_
   |refine wd2 rfl rfl rfl ?_ ?_
   |fail)
  |((with_reducible refine gJ ?_);first|with_reducible refine jtC leA sbA ?_|refine jtK leA sbA ?_|fail)
  |((with_reducible refine gMU ?_);first
   |refine muA (λ_=>?_)
   |refine muG (λ_ _ _ _=>?_)
   |refine muM (λ_ _=>?_)
   |refine muD (λ_=>?_)
   |refine muS (λ_ _ _=>?_)
   |refine muF (λ_ _ _ _=>?_)
   |refine muV (λ_ _ _=>?_)
   |refine muJ ?_
   |((refine muE (λi h=>?_));intro hJ;(repeat (first|obtain⟨⟨_,_⟩,hJ⟩:=hJ|obtain⟨_,hJ⟩:=hJ|fail));(first|((with_reducible refine gAf ?_);intro hil hs eT e;try dsimp only at hs)|((with_reducible refine gCn ?_);intro y r hd hlt hget hltp hbd hs eT hx ag e;(try have cv:=w0 (fe hd));(try have cw:=w1 (fe hd));(try have cx:=w2 (fe hd));try dsimp only at hs)|((with_reducible refine gCm ?_);intro r hlt hltp hs eT ag e;try dsimp only at hs)|((with_reducible refine gRn ?_);intro l r lp x rest vs h X FR hcn hmx eT hle2 hv hX hXM hlp hs ag rt ex pn;(try have cv:=w0 hmx);(try dsimp only at hs);(first|(obtain⟨_,rfl,hv⟩:=hv)|(have hv:=(hv:vs=_);subst hv)|fail))|((with_reducible refine gJr ?_);intro r h hs eT hle2;first|exact hs.elim|(try dsimp only at hs))|((with_reducible refine gNx ?_);intro r h hs eT hle2;try dsimp only at hs)|fail))
   |fail)
  |((with_reducible refine gS ?_);first
   |first
     |((have gq:=gn);(refine wcN rfl (λc=>by first|(apply c<;>exact fcA)|fail) (λv h eT hp=>?_));(first|obtain⟨_,_,rfl,hp⟩:=hp|obtain⟨_,rfl,hp⟩:=hp|fail))
     |refine wcRr rfl (by first|(apply hrec<;>exact fcA)|fail) ?_
     |refine wcR rfl (λc=>by first|(apply c<;>exact fcA)|fail) ?_
     |((refine wcHr rfl (by first|(apply hrec<;>exact fcA)|fail) (λv h eT hp=>?_));(first|obtain⟨_,_,rfl,hp⟩:=hp|obtain⟨_,rfl,hp⟩:=hp|fail);(try (with_reducible (have hpa:=an1 hp;have hpb:=an2 hp))))
     |((refine wcX rfl (λc=>by first|(apply c<;>exact fcA)|fail) hs hF hX (λr hr hs=>?_));try dsimp only at hs)
     |((refine wcXR rfl (λc=>by first|(apply c<;>exact fcA)|fail) hs pn (SP.of jsA) (λer h=>⟨er,rfl,h⟩) (λr hr hs=>?_));try dsimp only at hs)
     |refine wcXo (r:=()) rfl (λc=>by first|(apply c<;>exact fcA)|fail) sdA ?_
     |((refine wcH rfl (λc=>by first|(apply c<;>exact fcA)|fail) (λv h eT hp=>?_));(first|obtain⟨_,_,rfl,hp⟩:=hp|obtain⟨_,rfl,hp⟩:=hp|fail);(try (with_reducible (have hpa:=an1 hp;have hpb:=an2 hp))))
     |fail
   |refine wylS hy m1 hF hs hv hC leA leA pmA rfl rfl vlA (λh A eT hC v hs hv=>?_) (λh A eT hSp=>?_)
   |refine wcV rfl rfl rvA ?_
   |refine wsLd rfl rfl nthA rfl ?_
   |refine wapS rfl rfl grA rfl pmR rfl slA rfl rfl rfl rfl lbA lbA (λbs cp G hG=>?_)
   |refine wapT rfl rfl grA rfl pmR rfl nthA ceA rfl rfl rfl rfl lbA lbA (λbs cp G hG=>?_)
   |refine wsSW rfl rfl rfl nthA rfl rfl rfl ?_
   |refine wsSt rfl rfl nthA rfl rfl rfl rfl ?_
   |refine wmf ?_
   |refine wal rfl (λb=>?_)
   |refine uw (λb=>?_)
   |((first|refine wmG rfl nthA mpA kyA (λv hv=>?_)|refine wmF rfl mcA kyA (λv hv=>?_)|fail);(first|(obtain⟨_,rfl,_,rfl,hv⟩:=hv)|(obtain⟨_,_,rfl,hv⟩:=hv)|(obtain⟨_,rfl,hv⟩:=hv;have hv:=(hv:_=_);subst hv)|(have hv:=(hv:v=_);subst hv)|fail))
   |refine wmS rfl nthA mpA kyA vxA (λo hm hn=>?_)
   |refine wbdF (t:=292) rfl rfl rfl (rfl:_=ba.cells (ba.mk _ _ _) (mI.mk _ _ _ _)) ?_|refine wbdF (t:=341) rfl rfl rfl (rfl:_=bL.cells (bL.mk _ _ _ _ _)) ?_
   |refine wbd rfl rfl rfl ?_
   |refine wbs rfl rfl rfl (λb=>?_)
   |refine wbs0 rfl rfl (λb=>?_)
   |fail)
  |((with_reducible refine gPq ?_);first|exact λ_ _ _ _ q=>q.elim|exact pqX hF hX|fail)
  |((with_reducible refine gBr ?_);refine nJ _ nthA hlp ?_)
  |((with_reducible refine gRf ?_);first
   |refine lprM (rs:=[]) (hsR () HA hzS) rfl fcA hF msT rfl pmR hX leA rfl vlL ?_ ?_ ?_ ?_
   |refine lprM  (hsR () HA hzS) rfl fcA hF msT rfl pmR hX leA rfl vlL ?_ ?_ ?_ ?_
   |refine lprM (rs:=[]) (hsR (_,()) HA hzS) rfl fcA hF msT rfl pmR hX leA rfl vlL ?_ ?_ ?_ ?_
   |refine lprM  (hsR (_,()) HA hzS) rfl fcA hF msT rfl pmR hX leA rfl vlL ?_ ?_ ?_ ?_
   |refine lprM (rs:=[]) (hsR (_,_,()) HA hzS) rfl fcA hF msT rfl pmR hX leA rfl vlL ?_ ?_ ?_ ?_
   |refine lprM  (hsR (_,_,()) HA hzS) rfl fcA hF msT rfl pmR hX leA rfl vlL ?_ ?_ ?_ ?_
   |refine lprM (rs:=[]) (hsR (_,_,_,()) HA hzS) rfl fcA hF msT rfl pmR hX leA rfl vlL ?_ ?_ ?_ ?_
   |refine lprM  (hsR (_,_,_,()) HA hzS) rfl fcA hF msT rfl pmR hX leA rfl vlL ?_ ?_ ?_ ?_
   |(have HA:=@HB;clear HB;(try (have HB:=@HC;clear HC));(try (have HC:=@HD;clear HD));(try (have HD:=@HE;clear HE));(try (have HE:=@HG;clear HG));(try (have HG:=@HI;clear HI)))
   |fail)
  |((with_reducible refine gT ?_);first
   |((with_reducible refine gEx ?_);first|exact ex () hs msT leA rfl|exact ex (_,()) hs msT leA rfl|exact ex (_,_,()) hs msT leA rfl|((refine jI rfl (wsb (hx _ hs (hi:=?_) (hr:=?_)) jsA leA hX leA)<;>(try exact rdd));all_goals (first|exact ob|fail))|((refine jI rfl (wsb (hx _ _ hs (hi:=?_) (hr:=?_)) jsA leA hX leA)<;>(try exact rdd));all_goals (first|exact ob|fail))|((refine jI rfl (wsb (hx _ hs (by assumption) leA ?_ (hi:=?_) (hr:=?_)) jsA leA hX leA)<;>(try exact rdd));all_goals (first|exact ob|fail))|((refine jI rfl (hx _ hs leA ?_ (hi:=?_) (hr:=?_))<;>(try exact rdd));all_goals (first|((with_reducible refine gSP ?_);exact SP.app pmR (SP.of jsA))|exact ob|fail))|((refine jI rfl (hx _ (_,()) hs ?_ leA (hi:=?_) (hr:=?_))<;>(try exact rdd));all_goals (first|((with_reducible refine gMS ?_);exact msT)|exact ob|fail))|((refine jI rfl (hx _ (_,_,()) hs ?_ leA (hi:=?_) (hr:=?_))<;>(try exact rdd));all_goals (first|((with_reducible refine gMS ?_);exact msT)|exact ob|fail))|((refine jI rfl (wsb (hx ?_ hs (hi:=?_) (hr:=?_)) jsA leA hX leA)<;>(try exact rdd));all_goals (first|exact ob|fail))|((refine jI rfl (wsb (hx ?_ _ hs (hi:=?_) (hr:=?_)) jsA leA hX leA)<;>(try exact rdd));all_goals (first|exact ob|fail))|((refine jI rfl (wsb (hx ?_ hs (by assumption) leA ?_ (hi:=?_) (hr:=?_)) jsA leA hX leA)<;>(try exact rdd));all_goals (first|exact ob|fail))|((refine jI rfl (hx ?_ hs leA ?_ (hi:=?_) (hr:=?_))<;>(try exact rdd));all_goals (first|((with_reducible refine gSP ?_);exact SP.app pmR (SP.of jsA))|exact ob|fail))|((refine jI rfl (hx ?_ (_,()) hs ?_ leA (hi:=?_) (hr:=?_))<;>(try exact rdd));all_goals (first|((with_reducible refine gMS ?_);exact msT)|exact ob|fail))|((refine jI rfl (hx ?_ (_,_,()) hs ?_ leA (hi:=?_) (hr:=?_))<;>(try exact rdd));all_goals (first|((with_reducible refine gMS ?_);exact msT)|exact ob|fail))|refine jI rfl ?_|fail)
   |refine wtt rfl ?_
   |refine wto rfl ?_
   |((with_reducible refine gLo ?_);first
    |refine lpkY hv hC m1 leA pmA (by first|with_reducible exact hs0 HA hs|fail) (by exact rfl) lnA rfl (λi dn A hh v hil hs hv hC eT e=>?_) (λi dn A hh v y r hd hlt hget hltp hbd hs hv hC eT hx ag e=>?_)<;>(try have cv:=w0 (fe hd))<;>(try have cw:=w1 (fe hd))<;>(try have cx:=w2 (fe hd))
    |refine lpk0 (by first|with_reducible exact hs0 HA hs|fail) lnA rfl (λi hil hs e=>?_) (λi y r hd hlt hget hltp hbd hs hx ag e=>?_)<;>(try have cv:=w0 (fe hd))<;>(try have cw:=w1 (fe hd))<;>(try have cx:=w2 (fe hd))
    |refine lpn0 (by first|with_reducible exact hs0 HA hs|fail) ob rfl (λi hil hs e=>?_) (λi r hd hlt hltp hs hx ag e=>?_)
    |refine lpkG (by first|with_reducible exact hsG HA hs|fail) lnA rdd grA pmA (λi l bs cp G hh hil hs eT hG hn e=>?_) (λi l bs cp G hh y r hd hlt hget hltp hbd hs eT hG hn hx ag e=>?_)<;>(try have cv:=w0 (fe hd))<;>(try have cw:=w1 (fe hd))<;>(try have cx:=w2 (fe hd))
    |refine lpkR (rs:=[]) (by first|with_reducible exact hsK HA hs|fail) lnA rfl rfl pmR hX leA (λi rs hh hil hs eT e=>?_) (λi rs hh y r hd hlt hget hltp hbd hs eT hx ag e=>?_)<;>(try have cv:=w0 (fe hd))<;>(try have cw:=w1 (fe hd))<;>(try have cx:=w2 (fe hd))
    |refine lpkR (by first|with_reducible exact hsK HA hs|fail) lnA rfl rfl pmR hX leA (λi rs hh hil hs eT e=>?_) (λi rs hh y r hd hlt hget hltp hbd hs eT hx ag e=>?_)<;>(try have cv:=w0 (fe hd))<;>(try have cw:=w1 (fe hd))<;>(try have cx:=w2 (fe hd))
    |refine lpkM (hsM (_,()) HA hzS) lnA rfl msT hX leA ?_ ?_
    |refine lpnM (hsM (_,()) HA hzS) ob rfl msT hX leA ?_ ?_
    |refine lpkM (hsM (_,_,()) HA hzS) lnA rfl msT hX leA ?_ ?_
    |refine lpnM (hsM (_,_,()) HA hzS) ob rfl msT hX leA ?_ ?_
    |refine lpkM (hsM (_,_,_,()) HA hzS) lnA rfl msT hX leA ?_ ?_
    |refine lpnM (hsM (_,_,_,()) HA hzS) ob rfl msT hX leA ?_ ?_
    |refine lpk1 (by first|with_reducible exact hs1 _ HA hs|fail) lnA rdd (λi w hil hs e=>?_) (λi w y r hd hlt hget hltp hbd hs hx ag e=>?_)<;>(try have cv:=w0 (fe hd))<;>(try have cw:=w1 (fe hd))<;>(try have cx:=w2 (fe hd))
    |refine lpk1 (by first|with_reducible exact hs1 (_,_) HA hs|fail) lnA rdd (λi w hil hs e=>?_) (λi w y r hd hlt hget hltp hbd hs hx ag e=>?_)<;>(try have cv:=w0 (fe hd))<;>(try have cw:=w1 (fe hd))<;>(try have cx:=w2 (fe hd))
    |refine lpk1 (by first|with_reducible exact hs1 (_,_,_) HA hs|fail) lnA rdd (λi w hil hs e=>?_) (λi w y r hd hlt hget hltp hbd hs hx ag e=>?_)<;>(try have cv:=w0 (fe hd))<;>(try have cw:=w1 (fe hd))<;>(try have cx:=w2 (fe hd))
    |(have HA:=@HB;clear HB;(try (have HB:=@HC;clear HC));(try (have HC:=@HD;clear HD));(try (have HD:=@HE;clear HE));(try (have HE:=@HG;clear HG));(try (have HG:=@HI;clear HI)))
    |fail)
   |((with_reducible refine gRg ?_);first|refine wanyG rfl (by assumption) pmR rfl flN exA rfl ?_|refine wanyY rfl hC pmR rfl flN exA rfl ?_|refine wanyE rfl flN exA rfl ?_|refine wanyK (gk:=[]) kyQ rfl ?_|fail)
   |((with_reducible refine gIl ?_);first
    |exact wsb (ag hs (hr:=rdw)) jsA leA hX leA
    |exact ag (_,()) hs msT leA (hr:=rdw)
    |exact ag hs leA (SP.app pmR (SP.of jsA)) (hr:=rdw)
    |exact ag (_,_,()) hs msT leA (hr:=rdw)
    |exact ag (_,_,_,()) hs msT leA (hr:=rdw)
    |exact wsb (ag _ hs (hr:=rdw)) jsA leA hX leA
    |exact wsb (ag (_,_) hs (hr:=rdw)) jsA leA hX leA
    |exact wsb (ag (_,_,_) hs (hr:=rdw)) jsA leA hX leA
    |exact wsb (ag (_,_,_,_) hs (hr:=rdw)) jsA leA hX leA
    |exact wsb (ag hs (by assumption) leA ob (hr:=rdw)) jsA leA hX leA
    |exact wsb (ag hs hv hC leA (hr:=rdw)) jsA leA hX leA
    |fail)
   |((with_reducible refine gCo ?_);first
    |refine wcTh rfl (by assumption) hs bP (λhs=>?_)
    |refine wcT rfl (by assumption) ?_
    |refine wcF rfl (by assumption) ?_
    |refine rM rfl ?_
    |refine pj rfl ?_
    |(refine wcond rfl hs (λc hs=>?_) (λc hs=>?_)<;>(try (have cp:=cpX c))<;>(try (have ca:=cp.1;have cb:=cp.2))<;>(try (have cd:=ca.1;have ce:=ca.2))<;>(try (have cf:=cd.1;have cg:=cd.2))<;>(try have cz:=q9 c)<;>(try have cy:=q8 c))
    |(refine wcoN rfl hs bP (λc hs=>?_) (λc hs=>?_)<;>(try (have cp:=cpX c))<;>(try (have ca:=cp.1;have cb:=cp.2))<;>(try (have cd:=ca.1;have ce:=ca.2))<;>(try (have cf:=cd.1;have cg:=cd.2))<;>(try have cz:=q9 c)<;>(try have cy:=q8 c))
    |(refine wcoN rfl hs (Eq.symm bP) (λc hs=>?_) (λc hs=>?_)<;>(try (have cp:=cpX c))<;>(try (have ca:=cp.1;have cb:=cp.2))<;>(try (have cd:=ca.1;have ce:=ca.2))<;>(try (have cf:=cd.1;have cg:=cd.2))<;>(try have cz:=q9 c)<;>(try have cy:=q8 c))
    |fail)
   |((with_reducible refine gRe ?_);first
    |exact rt () hs msT leA
    |exact rt (_,()) hs msT leA
    |exact rt (_,_,()) hs msT leA
    |((first|refine wrP [_] hF rfl rdR hX ?_|refine wrP [_,_] hF rfl rdR hX ?_|refine wrP [_,_,_] hF rfl rdR hX ?_|refine wrP [_,_,_,_] hF rfl rdR hX ?_|refine wrP [_,_,_,_,_] hF rfl rdR hX ?_|refine wrP [] hF rfl rdR hX ?_|fail);(first|(subst hs;rfl)|rfl|exact hs▸rfl|exact rtB hs bP|fail))
    |((first|refine wrPM [_] pmR hF rfl rdR hX ?_|refine wrPM [_,_] pmR hF rfl rdR hX ?_|refine wrPM [_,_,_] pmR hF rfl rdR hX ?_|refine wrPM [] pmR hF rfl rdR hX ?_|fail);(first|(subst hs;rfl)|rfl|exact hs▸rfl|exact rtB hs bP|fail))
    |((first|refine wrHM [_] pmR hF rfl rdR ?_|refine wrHM [_,_] pmR hF rfl rdR ?_|refine wrHM [_,_,_] pmR hF rfl rdR ?_|fail);(first|subst hs|rw[hs]|skip);(first|exact⟨_,_,rfl,fcA⟩|exact⟨_,rfl,fcA⟩|exact zrN|fail))
    |((first|refine wrH [_] hF rfl rdR ?_|refine wrH [_,_] hF rfl rdR ?_|refine wrHM [_] pmR hF rfl rdR ?_|refine wrHM [_,_] pmR hF rfl rdR ?_|fail);(conv at hs=>rhs;whnf);subst hs;exact zrN)
    |((refine wrXH hs [_] hF rfl rdR ?_);(first|exact⟨_,_,rfl,fcA⟩|exact⟨_,rfl,fcA⟩|exact zrN|fail))
    |((first|refine wrH [_] hF rfl rdR ?_|refine wrH [_,_] hF rfl rdR ?_|refine wrH [_,_,_] hF rfl rdR ?_|fail);(first|subst hs|rw[hs]|skip);(first|exact⟨_,_,rfl,fcA⟩|exact⟨_,rfl,fcA⟩|exact zrN|fail))
    |refine wfg grB pmR hM (λh eT sl=>?_)
    |refine wmC mpB mvM pmR hM (λh eT hm=>?_)
    |exact wyR (.inr hSp) hF rfl jsA
    |exact wyR (wyf hC m1 leA hv hs) hF rfl jsA
    |fail)
   |((with_reducible refine gNi ?_);first
    |exact ag (_,()) hs msT leA
    |exact ag (_,_,()) hs msT leA
    |exact ag (_,_,_,()) hs msT leA
    |exact ag () hs msT leA
    |exact wyE (.inr hSp) hF rfl jsA
    |exact wyE (wyf hC m1 leA hv hs) hF rfl jsA
    |refine weX hs [] hF rfl hX rdR rfl
    |refine weXM hs [] pmR hF rfl hX rdR rfl
    |((first|refine weH [_] hF rfl rdR ?_|refine weH [_,_] hF rfl rdR ?_|refine weH [_,_,_] hF rfl rdR ?_|fail);(first|subst hs|rw[hs]|skip);(first|exact⟨_,_,rfl,fcA⟩|exact⟨_,rfl,fcA⟩|exact zrN|fail))
    |fail)
   |fail)
  |fail)
 all_goals fail):p:=h
end
end Go.Sg

namespace Go.Proofs
open Go.Shelf
def Tryz.Pp:Go.Shelf.Ren:=⟨λ| 137=>419|217=>423|266=>425|n=>n,λ| 9=>9|5=>5|3=>3|n=>n,λ| n=>n⟩
theorem Tryz.lays137:Go.Proofs.Lays.n137 Tryz.prog Tryz.Pp:={
 mixed:=by kernel_rfl
 f137:=Tryz.func419.trans (congrArg some (by kernel_rfl))
 f217:=Tryz.func423.trans (congrArg some (by kernel_rfl))
 f266:=Tryz.func425.trans (congrArg some (by kernel_rfl))
 t3:=Tryz.underlying3
 a3:=Tryz.isAgg3
 z3:=Tryz.sizeOf3
 v3:=Tryz.zeroValue3
 t5:=Tryz.underlying5
 a5:=Tryz.isAgg5
 z5:=Tryz.sizeOf5
 v5:=Tryz.zeroValue5
 t9:=Tryz.underlying9
 a9:=Tryz.isAgg9
 z9:=Tryz.sizeOf9
 v9:=Tryz.zeroValue9 }
open Go.RowKit in
theorem Tryz.strings_IndexByte(s:ByteArray)(c:Int)(w:World):
  Calls Tryz.prog 419 #[.string s,.int .u8 c] w λe w'=>e=.returned (.int .i64 (Lib.indexByte s.data.toList c.toNat.toUInt8))/\w'=w:=Any.strings_IndexByte Tryz.lays137 s c w
open Go.RowKit Go.Lib in
def Tryz.Po:Go.Shelf.Ren:=⟨λ| 189=>110|125=>184|257=>183|128=>283|129=>284|294=>274|295=>275|296=>276|297=>277|298=>278|299=>279|216=>280|300=>281|301=>282|328=>349|329=>350|330=>351|331=>352|332=>353|215=>161|343=>391|n=>n,λ| 28=>31|3=>3|46=>198|0=>0|51=>266|53=>268|4=>4|183=>296|182=>295|131=>139|5=>5|9=>9|218=>361|222=>365|228=>410|229=>155|n=>n,λ| n=>n⟩
theorem Tryz.lays189:Go.Proofs.Lays.n189 Tryz.prog Tryz.Po:={
 mixed:=by kernel_rfl
 f125:=Tryz.func184.trans (congrArg some (by kernel_rfl))
 f128:=Tryz.func283.trans (congrArg some (by kernel_rfl))
 f129:=Tryz.func284.trans (congrArg some (by kernel_rfl))
 f189:=Tryz.func110.trans (congrArg some (by kernel_rfl))
 f215:=Tryz.func161.trans (congrArg some (by kernel_rfl))
 f216:=Tryz.func280.trans (congrArg some (by kernel_rfl))
 f257:=Tryz.func183.trans (congrArg some (by kernel_rfl))
 f294:=Tryz.func274.trans (congrArg some (by kernel_rfl))
 f295:=Tryz.func275.trans (congrArg some (by kernel_rfl))
 f296:=Tryz.func276.trans (congrArg some (by kernel_rfl))
 f297:=Tryz.func277.trans (congrArg some (by kernel_rfl))
 f298:=Tryz.func278.trans (congrArg some (by kernel_rfl))
 f299:=Tryz.func279.trans (congrArg some (by kernel_rfl))
 f300:=Tryz.func281.trans (congrArg some (by kernel_rfl))
 f301:=Tryz.func282.trans (congrArg some (by kernel_rfl))
 f328:=Tryz.func349.trans (congrArg some (by kernel_rfl))
 f329:=Tryz.func350.trans (congrArg some (by kernel_rfl))
 f330:=Tryz.func351.trans (congrArg some (by kernel_rfl))
 f331:=Tryz.func352.trans (congrArg some (by kernel_rfl))
 f332:=Tryz.func353.trans (congrArg some (by kernel_rfl))
 f343:=Tryz.func391.trans (congrArg some (by kernel_rfl))
 t0:=Tryz.underlying0
 a0:=Tryz.isAgg0
 z0:=Tryz.sizeOf0
 v0:=Tryz.zeroValue0
 t3:=Tryz.underlying3
 a3:=Tryz.isAgg3
 z3:=Tryz.sizeOf3
 v3:=Tryz.zeroValue3
 t4:=Tryz.underlying4
 a4:=Tryz.isAgg4
 z4:=Tryz.sizeOf4
 v4:=Tryz.zeroValue4
 t5:=Tryz.underlying5
 a5:=Tryz.isAgg5
 z5:=Tryz.sizeOf5
 v5:=Tryz.zeroValue5
 t9:=Tryz.underlying9
 a9:=Tryz.isAgg9
 z9:=Tryz.sizeOf9
 v9:=Tryz.zeroValue9
 t28:=Tryz.underlying31
 a28:=Tryz.isAgg31
 z28:=Tryz.sizeOf31
 v28:=Tryz.zeroValue31
 t46:=Tryz.underlying198
 a46:=Tryz.isAgg198
 z46:=Tryz.sizeOf198
 v46:=Tryz.zeroValue198
 t51:=Tryz.underlying266
 a51:=Tryz.isAgg266
 z51:=Tryz.sizeOf266
 v51:=Tryz.zeroValue266
 t53:=Tryz.underlying268
 a53:=Tryz.isAgg268
 z53:=Tryz.sizeOf268
 v53:=Tryz.zeroValue268
 t131:=Tryz.underlying139
 a131:=Tryz.isAgg139
 z131:=Tryz.sizeOf139
 v131:=Tryz.zeroValue139
 t182:=Tryz.underlying295
 a182:=Tryz.isAgg295
 z182:=Tryz.sizeOf295
 v182:=Tryz.zeroValue295
 t183:=Tryz.underlying296
 a183:=Tryz.isAgg296
 z183:=Tryz.sizeOf296
 v183:=Tryz.zeroValue296
 t218:=Tryz.underlying361
 a218:=Tryz.isAgg361
 z218:=Tryz.sizeOf361
 v218:=Tryz.zeroValue361
 t222:=Tryz.underlying365
 a222:=Tryz.isAgg365
 z222:=Tryz.sizeOf365
 v222:=Tryz.zeroValue365
 t228:=Tryz.underlying410
 a228:=Tryz.isAgg410
 z228:=Tryz.sizeOf410
 v228:=Tryz.zeroValue410
 t229:=Tryz.underlying155
 a229:=Tryz.isAgg155
 z229:=Tryz.sizeOf155
 v229:=Tryz.zeroValue155 }
open Go.Sort Go.RowKit in
theorem Tryz.slices_Sort_int(blk off cap:Nat)(zs:List Int)(w:World)(hH:Holds (Value.int .i64) w blk off zs.toArray)(hblk:blk<w.heap.size)(hsz:zs.length<4611686018427387904):
  Calls Tryz.prog 110 #[.slice (some ⟨blk,off,none⟩) zs.length cap] w λe w'=>
   e=.returned (.tuple #[])/\∃n os,w'=grow (putRow (Value.int .i64) (Sort.ahead w n) blk off (zs.mergeSort λx y=>decide (x<=y)).toArray) os:=Any.slices_Sort_int Tryz.lays189 blk off cap zs w hH hblk hsz
open Go.RowKit Go.Lib in
open Go.RowKit Go.Lib in
open Go.RowKit Go.Lib in
def Tryz.KX:Go.Shelf.Ren:=⟨λ| 20=>111|n=>n,λ| 22=>31|3=>3|4=>4|0=>0|n=>n,λ| n=>n⟩
theorem Tryz.laysNm220:Go.Proofs.Lays2.n20 Tryz.prog Tryz.KX:={
 mixed:=by kernel_rfl
 f20:=Tryz.func111.trans (congrArg some (by kernel_rfl))
 t0:=Tryz.underlying0
 a0:=Tryz.isAgg0
 z0:=Tryz.sizeOf0
 v0:=Tryz.zeroValue0
 t3:=Tryz.underlying3
 a3:=Tryz.isAgg3
 z3:=Tryz.sizeOf3
 v3:=Tryz.zeroValue3
 t4:=Tryz.underlying4
 a4:=Tryz.isAgg4
 z4:=Tryz.sizeOf4
 v4:=Tryz.zeroValue4
 t22:=Tryz.underlying31
 a22:=Tryz.isAgg31
 z22:=Tryz.sizeOf31
 v22:=Tryz.zeroValue31
 i3:=by kernel_rfl }
open Go.RowKit Go.Lib Go.Sort in
open Go.RowKit Go.Lib Go.Sort in
theorem Tryz.slices_Compact_int(blk off cap:Nat)(zs:List Int)(w:World)(hH:Holds (Value.int .i64) w blk off zs.toArray)(hsz:zs.length<=9223372036854775807)(hcap:zs.length<=cap):
  Calls Tryz.prog 111 #[.slice (some ⟨blk,off,none⟩) zs.length cap] w λe w'=>e=.returned (.slice (some ⟨blk,off,none⟩) (Lib.compact zs).length cap)/\∃q,w'=putRow (Value.int .i64) (Sort.ahead w q) blk off (Lib.compact zs++List.replicate (zs.length-(Lib.compact zs).length) 0).toArray:=Any.slices_Compact_int Tryz.laysNm220 blk off cap zs w hH hsz hcap
open Go.RowKit Go.Lib Go.Sort in
theorem Tryz.slices_Compact_int_empty(a:Option Addr)(cap:Nat)(w:World):
  Calls Tryz.prog 111 #[.slice a 0 cap] w λe w'=>e=.returned (.slice a 0 cap)/\w'=w:=Any.slices_Compact_int_empty Tryz.laysNm220 a cap w
open Go.RowKit Go.Lib in
open Go.RowKit Go.Lib in
open Go.RowKit Go.Lib in
def Tryz.KW:Go.Shelf.Ren:=⟨λ| 25=>321|31=>280|32=>374|37=>161|n=>n,λ| 22=>31|3=>3|4=>4|40=>198|0=>0|n=>n,λ| n=>n⟩
theorem Tryz.laysNm225:Go.Proofs.Lays2.n25 Tryz.prog Tryz.KW:={
 mixed:=by kernel_rfl
 f25:=Tryz.func321.trans (congrArg some (by kernel_rfl))
 f31:=Tryz.func280.trans (congrArg some (by kernel_rfl))
 f32:=Tryz.func374.trans (congrArg some (by kernel_rfl))
 f37:=Tryz.func161.trans (congrArg some (by kernel_rfl))
 t0:=Tryz.underlying0
 a0:=Tryz.isAgg0
 z0:=Tryz.sizeOf0
 v0:=Tryz.zeroValue0
 t3:=Tryz.underlying3
 a3:=Tryz.isAgg3
 z3:=Tryz.sizeOf3
 v3:=Tryz.zeroValue3
 t4:=Tryz.underlying4
 a4:=Tryz.isAgg4
 z4:=Tryz.sizeOf4
 v4:=Tryz.zeroValue4
 t22:=Tryz.underlying31
 a22:=Tryz.isAgg31
 z22:=Tryz.sizeOf31
 v22:=Tryz.zeroValue31
 t40:=Tryz.underlying198
 a40:=Tryz.isAgg198
 z40:=Tryz.sizeOf198
 v40:=Tryz.zeroValue198 }
open Go.RowKit Go.Lib in
theorem Tryz.slices_BinarySearch_int(b off n c:Nat)(zs:List Int)(x:Int)(w:World)(hz:n<=zs.length)(hbig:n<4611686018427387904)(hc:∀j,j<zs.length->w.cell? ⟨b,off+j,none⟩=some (.int .i64 (zs.getD j 0)))(hs:(zs.take n).Pairwise (·<=·)):
  Calls Tryz.prog 321 #[.slice (some ⟨b,off,none⟩) n c,.int .i64 x] w λe w'=>e=.returned (.tuple #[.int .i64 ((zs.take n).countP (·<x):Nat),.bool ((zs.take n).contains x)])/\∃q,w'=w.drewN q:=Any.slices_BinarySearch_int Tryz.laysNm225 b off n c zs x w hz hbig hc hs
open Go.RowKit Go.Sort in
theorem Tryz.slices_Sort_int_none(p:Option Addr)(cap:Nat)(w:World):
  Calls Tryz.prog 110 #[.slice p 0 cap] w λe w'=>e=.returned (.tuple #[])/\w'=w:=Any.slices_Sort_int_none Tryz.lays189 p cap w
open Go.RowKit Go.Lib in
theorem Tryz.slices_BinarySearch_int_empty(a:Option Addr)(c:Nat)(x:Int)(w:World):
  Calls Tryz.prog 321 #[.slice a 0 c,.int .i64 x] w λe w'=>e=.returned (.tuple #[.int .i64 0,.bool false])/\w'=w:=Any.slices_BinarySearch_int_empty Tryz.laysNm225 a c x w
def Tryz.C4:Go.Shelf.Ren:=⟨λ| 7=>161|n=>n,λ| 22=>3|4=>4|n=>n,λ| n=>n⟩
theorem Tryz.Jf:Go.Proofs.SlLaysC2.n7 Tryz.prog Tryz.C4:={
 mixed:=by kernel_rfl
 f7:=⟨Tryz.f161.name,by decide,Tryz.func161.trans (congrArg some (by kernel_rfl))⟩
 t4:=Tryz.underlying4
 a4:=Tryz.isAgg4
 z4:=Tryz.sizeOf4
 v4:=Tryz.zeroValue4
 t22:=Tryz.underlying3
 a22:=Tryz.isAgg3
 z22:=Tryz.sizeOf3
 v22:=Tryz.zeroValue3 }
open Go.Lib in
theorem Tryz.cmp_isNaN_int(x:Int)(w:World):
  Calls Tryz.prog 161 #[.int .i64 x] w λe w'=>e=.returned (.bool false)/\w'=w:=AnyG.cmp_isNaN_int Tryz.Jf x w
def Tryz.D4:Go.Shelf.Ren:=⟨λ| 5=>86|7=>161|n=>n,λ| 22=>3|3=>3|4=>4|n=>n,λ| n=>n⟩
theorem Tryz.KV:Go.Proofs.SlLaysC2.n5 Tryz.prog Tryz.D4:={
 mixed:=by kernel_rfl
 f5:=⟨Tryz.f86.name,by decide,Tryz.func86.trans (congrArg some (by kernel_rfl))⟩
 f7:=⟨Tryz.f161.name,by decide,Tryz.func161.trans (congrArg some (by kernel_rfl))⟩
 t3:=Tryz.underlying3
 a3:=Tryz.isAgg3
 z3:=Tryz.sizeOf3
 v3:=Tryz.zeroValue3
 t4:=Tryz.underlying4
 a4:=Tryz.isAgg4
 z4:=Tryz.sizeOf4
 v4:=Tryz.zeroValue4
 t22:=Tryz.underlying3
 a22:=Tryz.isAgg3
 z22:=Tryz.sizeOf3
 v22:=Tryz.zeroValue3 }
open Go.Lib in
theorem Tryz.cmp_Compare_int(x y:Int)(w:World):
  Calls Tryz.prog 86 #[.int .i64 x,.int .i64 y] w λe w'=>e=.returned (.int .i64 (Lib.compareInt x y))/\w'=w:=AnyG.cmp_Compare_int Tryz.KV x y w
open Go.RowKit Go.Lib Go.Sort in
def Tryz.MQ:Go.Shelf.Ren:=⟨λ| 6=>387|15=>184|14=>404|28=>283|29=>284|20=>411|21=>412|22=>413|23=>414|24=>415|25=>416|26=>417|27=>418|46=>420|47=>350|48=>351|49=>421|50=>422|57=>424|n=>n,λ| 22=>351|24=>325|25=>350|3=>3|39=>198|0=>0|53=>266|55=>268|4=>4|46=>296|45=>295|50=>139|5=>5|9=>9|66=>361|70=>365|76=>410|77=>155|n=>n,λ| n=>n⟩
theorem Tryz.sortSeat:Go.Proofs.SlLaysF0.n6 Tryz.prog Tryz.MQ:={
 mixed:=by kernel_rfl
 f6:=⟨Tryz.f387.name,by decide,Tryz.func387.trans (congrArg some (by kernel_rfl))⟩
 f14:=⟨Tryz.f404.name,by decide,Tryz.func404.trans (congrArg some (by kernel_rfl))⟩
 f15:=Tryz.func184.trans (congrArg some (by kernel_rfl))
 f20:=⟨Tryz.f411.name,by decide,Tryz.func411.trans (congrArg some (by kernel_rfl))⟩
 f21:=⟨Tryz.f412.name,by decide,Tryz.func412.trans (congrArg some (by kernel_rfl))⟩
 f22:=⟨Tryz.f413.name,by decide,Tryz.func413.trans (congrArg some (by kernel_rfl))⟩
 f23:=⟨Tryz.f414.name,by decide,Tryz.func414.trans (congrArg some (by kernel_rfl))⟩
 f24:=⟨Tryz.f415.name,by decide,Tryz.func415.trans (congrArg some (by kernel_rfl))⟩
 f25:=⟨Tryz.f416.name,by decide,Tryz.func416.trans (congrArg some (by kernel_rfl))⟩
 f26:=⟨Tryz.f417.name,by decide,Tryz.func417.trans (congrArg some (by kernel_rfl))⟩
 f27:=⟨Tryz.f418.name,by decide,Tryz.func418.trans (congrArg some (by kernel_rfl))⟩
 f28:=Tryz.func283.trans (congrArg some (by kernel_rfl))
 f29:=Tryz.func284.trans (congrArg some (by kernel_rfl))
 f46:=⟨Tryz.f420.name,by decide,Tryz.func420.trans (congrArg some (by kernel_rfl))⟩
 f47:=Tryz.func350.trans (congrArg some (by kernel_rfl))
 f48:=Tryz.func351.trans (congrArg some (by kernel_rfl))
 f49:=⟨Tryz.f421.name,by decide,Tryz.func421.trans (congrArg some (by kernel_rfl))⟩
 f50:=⟨Tryz.f422.name,by decide,Tryz.func422.trans (congrArg some (by kernel_rfl))⟩
 f57:=⟨Tryz.f424.name,by decide,Tryz.func424.trans (congrArg some (by kernel_rfl))⟩
 t0:=Tryz.underlying0
 a0:=Tryz.isAgg0
 z0:=Tryz.sizeOf0
 v0:=Tryz.zeroValue0
 t3:=Tryz.underlying3
 a3:=Tryz.isAgg3
 z3:=Tryz.sizeOf3
 v3:=Tryz.zeroValue3
 t4:=Tryz.underlying4
 a4:=Tryz.isAgg4
 z4:=Tryz.sizeOf4
 v4:=Tryz.zeroValue4
 t5:=Tryz.underlying5
 a5:=Tryz.isAgg5
 z5:=Tryz.sizeOf5
 v5:=Tryz.zeroValue5
 t9:=Tryz.underlying9
 a9:=Tryz.isAgg9
 z9:=Tryz.sizeOf9
 v9:=Tryz.zeroValue9
 t22:=Tryz.underlying351
 a22:=Tryz.isAgg351
 z22:=Tryz.sizeOf351
 v22:=Tryz.zeroValue351
 t25:=Tryz.underlying350
 a25:=Tryz.isAgg350
 z25:=Tryz.sizeOf350
 v25:=Tryz.zeroValue350
 t39:=Tryz.underlying198
 a39:=Tryz.isAgg198
 z39:=Tryz.sizeOf198
 v39:=Tryz.zeroValue198
 t45:=Tryz.underlying295
 a45:=Tryz.isAgg295
 z45:=Tryz.sizeOf295
 v45:=Tryz.zeroValue295
 t46:=Tryz.underlying296
 a46:=Tryz.isAgg296
 z46:=Tryz.sizeOf296
 v46:=Tryz.zeroValue296
 t50:=Tryz.underlying139
 a50:=Tryz.isAgg139
 z50:=Tryz.sizeOf139
 v50:=Tryz.zeroValue139
 t53:=Tryz.underlying266
 a53:=Tryz.isAgg266
 z53:=Tryz.sizeOf266
 v53:=Tryz.zeroValue266
 t55:=Tryz.underlying268
 a55:=Tryz.isAgg268
 z55:=Tryz.sizeOf268
 v55:=Tryz.zeroValue268
 t66:=Tryz.underlying361
 a66:=Tryz.isAgg361
 z66:=Tryz.sizeOf361
 v66:=Tryz.zeroValue361
 t70:=Tryz.underlying365
 a70:=Tryz.isAgg365
 z70:=Tryz.sizeOf365
 v70:=Tryz.zeroValue365
 t76:=Tryz.underlying410
 a76:=Tryz.isAgg410
 z76:=Tryz.sizeOf410
 v76:=Tryz.zeroValue410
 t77:=Tryz.underlying155
 a77:=Tryz.isAgg155
 z77:=Tryz.sizeOf155
 v77:=Tryz.zeroValue155 }
end Go.Proofs
namespace Go.Sg
section
open Go.Proofs Go.Proofs.Tryz Go.RowKit
theorem VM{h:HF}{b:Option Addr}{xs:List Int}(hs:SlB jB h b xs)(hne:xs≠[]):∃g off,b=some ⟨g,off,none⟩/\∀w,Pre h [] w->∀j,j<xs.length->w.cell? ⟨g,off+j,none⟩=some (.int .i64 (xs.getD j 0)):=by
 obtain⟨x0,r,rfl⟩:∃x r,xs=x::r:=by cases xs with
  |nil=>exact(hne rfl).elim
  |cons x r=>exact⟨x,r,rfl⟩
 obtain⟨p,cs,rfl,hA,_,_⟩:=hs.2 0 x0 rfl
 have hsp:p.spot=none:=by
  obtain⟨_,_,_,_,h2,_⟩:=hA
  simpa[jP]using h2
 obtain⟨g,off,sp⟩:=p
 simp only at hsp
 subst hsp
 refine⟨g,off,rfl,λw hp j hj=>?_⟩
 obtain⟨p',cs',e,hA',hl,hr⟩:=hs.2 j ((x0::r)[j]) (by rw[List.getElem?_eq_getElem hj])
 cases e
 have hcs:cs'=[.int .i64 ((x0::r)[j])]:=hr
 subst hcs
 have hc:=hA'.cell (X:=⟨w,h,[]⟩) (L:=[]) (Yw hp) (j:=0) (v:=.int .i64 ((x0::r)[j])) rfl
 have ha:((⟨g,off,none⟩:Addr).add (j*Rp.int.sz)).add 0=⟨g,off+j,none⟩:=by
  have h1:j*Rp.int.sz=j:=Nat.mul_one j
  rw[h1]
  by_cases e0:j=0
  .subst e0;simp[jP]
  .simp[jP,e0]
 grind
theorem pQ(h:HF)(x:List Int)(Wq:Option Addr)(Wd:Nat)(target:Int)(hx:SlC jB h Wq Wd x)(hs:x.Pairwise (·<=·))(hsz:x.length<=2000000):
  Ret prog 321 [.slice Wq x.length Wd,.int .i64 target] h (.tuple #[.int .i64 (slices_BinarySearch_int x target).1,.bool (slices_BinarySearch_int x target).2]):=by
 intro w hp
 by_cases hne:x=[]
 .subst hne
  refine(mZ (Tryz.slices_BinarySearch_int_empty Wq Wd target w) (λw' hw=>by cases hw.1)).mono ?_
  rintro e w' ⟨rfl,rfl⟩
  exact⟨h,[],Yw hp,rfl,rfl,rfl⟩
 .obtain⟨g,off,rfl,hc⟩:=VM hx.1 hne
  refine(mZ (Tryz.slices_BinarySearch_int g off x.length Wd x target w (zE _) (by omega) (hc w hp) (by simpa using hs)) (λw' hw=>by cases hw.1)).mono ?_
  rintro e w' ⟨rfl,q,rfl⟩
  refine⟨h,[],(Yw hp).drew _,?_,rfl,rfl⟩
  simp[bsI,slices_BinarySearch_int]
theorem oL(h:HF)(xs:List Int)(b:Option Addr)(c:Nat)(G:LH)(hG:di jB 3 h xs b c G)(hsz:xs.length<=1000000000000):
  qf prog 110 [.slice b xs.length c].toArray h G (λr h' G'=>h'=h/\r=.returned (.tuple #[])/\di jB 3 h (sortI xs) b c G'):=by
 intro w hp
 rcases hG with⟨rfl,rfl,rfl,rfl⟩|⟨bk,cl,sp,rfl,hcl,hlen,hcap,hmax,rfl⟩
 .refine(mZ (Tryz.slices_Sort_int_none none 0 w) (λw' hw=>by cases hw.1)).mono ?_
  rintro e w' ⟨rfl,rfl⟩
  exact⟨h,[],Yw hp,rfl,rfl,by rw[show sortI []=[]from by simp[sortI]];exact di.nil⟩
 .have hb:=hp.own _ (kB.2 rfl)
  simp only at hb
  have hcl':cl=xs.map (jC .i64):=by
   clear hlen hb hp hcap hmax hsz
   induction xs generalizing cl with
   |nil=>exact hcl
   |cons y l ih=>
    obtain⟨cs,r,rfl,_,hr,hl⟩:=hcl
    have:cs=[.int .i64 y]:=hr
    rw[this,ih r hl];rfl
  subst hcl'
  have hH:Sort.Holds (jC .i64) w bk 0 xs.toArray:=by
   refine holds_of_blockI (cur:=(xs.map (jC .i64)++sp).toArray) (e:=3) hb ?_
   simp
  refine(mZ (Tryz.slices_Sort_int bk 0 c xs w hH (jX hb) (by omega)) (λw' hw=>by cases hw.1)).mono ?_
  rw[NA]
  rintro e w' ⟨rfl,n,os,rfl⟩
  obtain⟨g1,g2,g3,g4,g5⟩:=grownBy_sortedI (w:=w) (g:=bk) (n:=n) (os:=os) (sortI xs).toArray
  have hnew:=heap_sortedI (w:=w) (g:=bk) (n:=n) (os:=os) (sortI xs).toArray hb
  have htake:=take_putCellsI (xs.map (jC .i64)++sp).toArray (sortI xs) (by rw[kO];simp)
  refine⟨h,[(bk,.cells (Sort.putCells (jC .i64) 0 (sortI xs).toArray (xs.map (jC .i64)++sp).toArray) 3 (0,0))],⟨g1,g2,g3,g4,λk hk hM=>g5 k hk (λe=>hM (by cases e;simp)),λ_ _ e=>e,λ_ _=>rfl,λk o e=>?_,λq hq=>?_,?_,?_,?_⟩,rfl,rfl,?_⟩
  .have hne:k≠bk:=λe'=>by
    have:=hp.free _ (kB.2 rfl)
    simp only at this
    rw[e',this]at e;cases e
   exact(g5 k (jX (hp.imm k o e)) (λe'=>by cases e';exact hne rfl)).trans (hp.imm k o e)
  .rw[kB.1 hq];exact hnew
  .simp
  .intro q hq;rw[kB.1 hq];exact hp.free (bk,vG (xs.map (jC .i64)++sp).toArray 3 (0,0)) (kB.2 rfl)
  .intro q hq;rw[kB.1 hq];exact .inr (by simp)
  .refine .inr ⟨bk,(sortI xs).map (jC .i64),(Sort.putCells (jC .i64) 0 (sortI xs).toArray (xs.map (jC .i64)++sp).toArray).toList.drop xs.length,rfl,?_,?_,by rw[kO];exact hcap,by rw[kO];exact hmax,?_⟩
   .have:∀l:List Int,bW jB h (l.map (jC .i64)) l:=by
     intro l
     induction l with
     |nil=>rfl
     |cons y l ih=>exact⟨[.int .i64 y],l.map (jC .i64),rfl,rfl,rfl,ih⟩
    exact this _
   .rw[←htake,kO,List.take_append_drop]
    simpa[Sort.putCells]using hlen
   .rw[←htake,kO,List.take_append_drop]
section steps
variable {P:Program} {b:Frame} {n:Nat} {ops:Array Oper} {F:List Frame->(Machine->Prop)->Prop} {e:Env} {ds:List Deferred} {X:Cx} {h:HF} {L:LH} {K:Env->HF->LH->Prop}
variable {d:Option Nat} {ty:TypeId} {pos:String} {af:Array Edge} {g:Option (Nat×Bool)}
theorem pT(A0 G Q:LH){v:Value}{Φ : LH->Prop}{f:FuncId}{ass:Array Operand}{ats:Array TypeId}{vs:List Value}(hc:∀args w,(callFunc f args).run P w=.ok (.enter f args) w)(hs:qf P f vs.toArray h G (λr h' G'=>h'=h/\r=.returned v/\Φ G'))(hL:L=A0++(G++Q))(hvs:ass.toList.map e.ev=vs)(t':∀G',Φ G'->K (pute e d v) h (A0++(G'++Q)))(hg:guardB ops e ⟨d,.call ⟨.value (.func f),ass,ats⟩,ty,pos,af,g⟩=true:=by rfl):
  Stp P b n ops F ds X ⟨d,.call ⟨.value (.func f),ass,ats⟩,ty,pos,af,g⟩ e h L K:=by
 unfold Stp
 rw[if_pos hg]
 intro w hw
 subst hL
 have hp:∀G:LH,(A0++(G++Q)).Perm (G++(A0++Q)):=λG=>by
  rw[←zC,←zC];exact List.Perm.append_right Q zD
 have hw':=hw.perm (hp G)
 have harr:ass.map e.ev=vs.toArray:=Array.ext' (by simp[←hvs])
 have hr:(execOp e.ev ⟨d,.call ⟨.value (.func f),ass,ats⟩,ty,pos,af,g⟩).run P w=.ok (.enter f vs.toArray) w:=by
  simp[execOp,resolve,Env.ev,Deferred.ofValue,invoke,harr,hc]
 rw[hr]
 refine nn (by simp) (lH (tT.mono (hs w hw'.pre.left) ?_))
 rintro x w' ⟨h',B,hst,rfl,rfl,hG⟩
 exact⟨h',_,(St.after (A:=G) (F:=A0++Q) hw' hst).perm (hp B).symm,t' B hG⟩
end steps
end
section
open Go.Proofs Go.Proofs.Tryz
instance kR93:Cl 93:=⟨call93⟩
instance kR273:Cl 273:=⟨TB⟩
instance kR296:Cl 296:=⟨call296⟩
instance kR311:Cl 311:=⟨call311⟩
instance kR315:Cl 315:=⟨call315⟩
instance kR316:Cl 316:=⟨call316⟩
instance kR369:Cl 369:=⟨call369⟩
instance kR370:Cl 370:=⟨call370⟩
instance kC321:Ct 321:=⟨_,call321,@pQ⟩
end
end Go.Sg
