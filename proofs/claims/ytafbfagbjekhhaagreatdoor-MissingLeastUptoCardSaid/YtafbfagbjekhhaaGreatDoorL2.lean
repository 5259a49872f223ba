import Derived.Recover
import Derived.Maps.RangeRun
import Derived.Conc.LoneCalls
import Derived.RangeFuncNested
import Derived.Laws.MakeOwn
import Derived.Test.YtafbfagbjekhhaaGreatDoorL1
/- A part of the proof of MissingLeast. -/
set_option linter.unusedVariables false
set_option linter.unusedSimpArgs false
set_option maxRecDepth 100000
open List renaming length_cons→zA,length_append→jA,not_mem_nil→kA,mem_cons_self→vB,mem_cons_of_mem→xC,mem_cons→kD,mem_of_getElem?→xE,append_assoc→jE,perm_append_comm→xG,map_cons→kG,mem_map→qJ,all_eq_true→jM,nodup_cons→jR,sublist_cons_self→jS,nodup_nil→WH,mem_map_of_mem→WK
open Go.Sg.Rp renaming int→jB,bw→vH
open Go.IntKind renaming wrap→kB
open Bool renaming and_eq_true→qC,false_eq_true→Xb
open Go.Value renaming int→zC,func→kQ
open Nat renaming le_refl→kE,zero_le→zH,blt→zJ,le_trans→kL,le_of_ble_eq_true→qN,lt_of_lt_of_le→Xx,ble→XM
open Go.Obj renaming cells→jG
open Go.Deferred renaming ofValue→xH
open Go.Sg.HF renaming le_refl→kH,le→xJ
open Go.Result renaming andThen_ok→jK
open Go.Sem renaming run_bind→jL,run_pure→Xg,run→Ya
open Go.Addr renaming add→zQ
open Go.Frame renaming enter→kR,atR→W6
open Array renaming ext'→xS,replicate→WL,foldl_toList→XZ
open Go.Instr renaming endLoop→WT,getLoop→Xk,enterLoop→XU,fill→XY
open Go.Sg.St renaming start→W8,after→Xd
open Go.Sg.Env renaming ev→XQ

namespace Go.Sg
variable {P:Program}{X:Cx}{a r:Bool}{b:Frame}{bk m n off:Nat}{cl vs:List Go.Value}{ds:List Deferred}{e:Env}{fs:List Field}{ix x y:Operand}{k:List Item}{l:List Oper}{ops:Array Oper}{s:ByteArray}{u:TypeId}{v:Go.Value}
section
def eqv:Option Value->Option Value->Bool
 |some (.int _ a),some (.int _ b)=>a==b
 |some (.bool a),some (.bool b)=>a==b
 |_,_=>false
def okF(P:Program)(xs ys:List Value)(f:Field):Bool:=
 !(f.name == "_") && (match tySz P f.type with|some (1, false) => true|_ => false) && (match P.underlying f.type, nth xs f.offset, nth ys f.offset with
  |some (.int _),some (.int j _),some (.int k _)=>decide (j=k)
  |some .bool,some (.bool _),some (.bool _)=>true
  |_,_,_=>false)
theorem uA{t:TypeId}{xs:List Value}(hT:tySz P t=some (1,false))(hv:nth xs off=some v)(w:World):(part t xs.toArray off).run P w=.ok v w:=by
 rw[i9]at hv
 simp[part,GI hT,fV hT,hv]
theorem Km{xs ys:List Value}{f:Field}(h : okF P xs ys f = true) : f.name ≠ "_" /\ tySz P f.type = some (1, false) /\
  ((∃k j a b,P.underlying f.type=some (.int k)/\nth xs f.offset=some (.int j a)/\nth ys f.offset=some (.int j b))\/∃a b,P.underlying f.type=some .bool/\nth xs f.offset=some (.bool a)/\nth ys f.offset=some (.bool b)):=by grind [okF]
theorem Ds{P:Program}{d:Nat}{xs ys:List Value}(w:World):∀(fs:List Field),fs.all (okF P xs ys)=true ->
  (Op.eqFields (d+1) xs.toArray ys.toArray fs).run P w=.ok (fs.all λf=>eqv (nth xs f.offset) (nth ys f.offset)) w
 |[],_=>by simp[Op.eqFields]
 |f::fs,h=>by
  rw[List.all_cons,qC]at h
  obtain⟨h1,h2⟩:=h
  have ih:=Ds (d:=d) w fs h2
  obtain⟨hn,hT,⟨k,j,a,b,hu,hx,hy⟩|⟨a,b,hu,hx,hy⟩⟩:=Km h1
  .rw[Op.eqFields,if_pos hn,List.all_cons,hx,hy]
   simp only[jL,uA hT hx,uA hT hy,jK,run_equalIn_int w d _ _ _ _ _ hu,eqv]
   cases hab:(a==b)
   .simp
   .simp only[Bool.not_true,Xb,if_false,Bool.true_and];exact ih
  .rw[Op.eqFields,if_pos hn,List.all_cons,hx,hy]
   simp only[jL,uA hT hx,uA hT hy,jK,run_equalIn_bool' w d _ _ _ hu,eqv]
   cases hab:(a==b)
   .simp
   .simp only[Bool.not_true,Xb,if_false,Bool.true_and];exact ih
theorem su{t:TypeId}{xs ys:List Value}(hT:P.underlying t=some (.struct fs.toArray))(hp:P.stoodInHeld t=false)(hok:fs.all (okF P xs ys)=true)(hr:(fs.all λf=>eqv (nth xs f.offset) (nth ys f.offset))=r)(w:World):(Op.equal t (.agg xs.toArray) (.agg ys.toArray)).run P w=.ok r w:=by
 have hf:P.fieldsOf t=fs.toArray:=by simp[Program.fieldsOf,hT]
 have:=run_equalIn_struct (P:=P) w 9999 t xs.toArray ys.toArray (by rw[hf];exact hT) hp
 rw[hf]at this
 rw[Op.equal,Op.maxDepth,this,←hr]
 exact Ds w fs hok
theorem uV{t:TypeId}{xs:List Value}(e:Bool)(hT:P.underlying t=some (.struct fs.toArray))(hok:fs.all (okF P xs xs)=true)(w:World):
  (Instr.checkKey e 10000 t (.agg xs.toArray)).run P w=.ok () w:=by
 rw[show(10000:Nat)=9999+1 from rfl,Instr.checkKey]
 simp only[jL,run_underlying hT,jK]
 rw[←Array.forIn_toList]
 simp only
 clear hT
 induction fs with
 |nil=>simp
 |cons f fs ih=>
  rw[List.all_cons,qC]at hok
  have ih:=ih hok.2
  obtain⟨hn,hT,⟨k,j,a,b,hu,hx,hy⟩|⟨a,b,hu,hx,hy⟩⟩:=Km hok.1
  .have hc:(Instr.checkKey e 9999 f.type (.int j a)).run P w=.ok () w:=by
    rw[show(9999:Nat)=9998+1 from rfl,Instr.checkKey]
    simp[run_underlying hu]
   simp only[List.forIn_cons,if_pos hn,jL,uA hT hx,jK,hc,Xg]
   simpa using ih
  .have hc:(Instr.checkKey e 9999 f.type (.bool a)).run P w=.ok () w:=by
    rw[show(9999:Nat)=9998+1 from rfl,Instr.checkKey]
    simp[run_underlying hu]
   simp only[List.forIn_cons,if_pos hn,jL,uA hT hx,jK,hc,Xg]
   simpa using ih
theorem GS(vs:List Value):∀(cl:List Value),vs.length=cl.length->splice cl 0 vs=vs:=by
 intro cl hl
 have:=ux vs [] cl (by omega)
 simp at this
 rw[this,hl]
 simp
theorem bE{F:List Frame->(Machine->Prop)->Prop}{h:HF}{L:LH}{ty:TypeId}{pos:String}{af:Array Edge}{g:Option (Nat×Bool)}(i:Nat){t:TypeId}{T:Nat}(hT:tySz P t=some (m,a))(hx:e.ev x=.pointer (some ⟨bk,0,none⟩))(hL:nth L i=some (bk,.cells cl.toArray T (0,0)))(hv:e.ev y=.agg vs.toArray)(hm:vs.length=m)(hc:cl.length=m)(h1:vs.all one=true)(t':TO P b n ops l k F e ds X h (setNth L i (bk,.cells vs.toArray T (0,0))))(hg:guardB ops e ⟨none,.store t x y,ty,pos,af,g⟩=true:=by rfl):TO P b n ops (⟨none,.store t x y,ty,pos,af,g⟩::l) k F e ds X h L:=by
 refine cW i hT hx hL (vs:=vs) (by rw[hv];simp[vcells]) hm (by rw[Nat.zero_add,hm,hc];simp) h1 ?_ hg
 grind [GS]
section runs
variable {P:Program} {e:Env} {X:Cx} {h:HF} {L:LH} {d:Option Nat} {ty:TypeId} {pos:String} {af:Array Edge} {g:Option (Nat×Bool)}
theorem MU{t:TypeId}{xs ys:Array Value}(hq:∀w,(Op.equal t (.agg xs) (.agg ys)).run P w=.ok r w)(hm:P.eqGuardType P.depth t=false)(hx:e.ev x=.agg xs)(hy:e.ev y=.agg ys):
  ∀w,St X h L w->(execOp e.ev ⟨d,.binOp .eql t x y u,ty,pos,af,g⟩).run P w=.ok (.value (.bool r)) w:=
 λw _=>by
  have h1:=run_eqGuard_agg (P:=P) w .eql t x y xs ys hm
  have h2:=hq w
  simp[execOp,hx,hy,h1,binOp,h2]
theorem UB{t:TypeId}{xs ys:Array Value}(hq:∀w,(Op.equal t (.agg xs) (.agg ys)).run P w=.ok r w)(hm:P.eqGuardType P.depth t=false)(hx:e.ev x=.agg xs)(hy:e.ev y=.agg ys):
  ∀w,St X h L w->(execOp e.ev ⟨d,.binOp .neq t x y u,ty,pos,af,g⟩).run P w=.ok (.value (.bool (!r))) w:=
 λw _=>by
  have h1:=run_eqGuard_agg (P:=P) w .neq t x y xs ys hm
  have h2:=hq w
  simp[execOp,hx,hy,h1,binOp,h2]
theorem Ow{t:TypeId}{i:Int}(hT:P.underlying t=some .string)(hx:e.ev x=.string s)(hix:e.ev ix=.int .i64 i)(hi:0<=i/\i<(s.size:Int)):
  ∀w,St X h L w->(execOp e.ev ⟨d,.index t x ix,ty,pos,af,g⟩).run P w=.ok (.value (.int .u8 ((s.data.getD i.toNat 0).toNat:Nat))) w:=
 λw _=>by
  obtain⟨n,rfl⟩:=Int.eq_ofNat_of_zero_le hi.1
  have hn:n<s.size:=by omega
  have hn':n<s.data.size:=hn
  simp[execOp,Instr.index,hix,hx,asIntOf,run_underlying hT,hn]
  rfl
end runs
end
section
structure bW where
 cM:Int
 gj:Int
deriving DecidableEq
instance:Inhabited bW:=⟨⟨0,0⟩⟩
def bW.cells(x:bW):List Go.Value:=[.int .i64 x.cM,.int .i64 x.gj]
abbrev bW.enc(x:bW):Go.Value:=.agg (bW.cells x).toArray
def bW.rp:Rp bW:=⟨2,λ_ cs x=>cs=bW.cells x⟩
theorem bW.aD:bW.rp.Mono:=λ_ _ _ _ _ e=>e
theorem bW.dg:bW.rp.Good:=⟨bW.aD,λ_ _ _ e=>by cases e;rfl,by decide⟩
structure Use where
 Doc:Int
 Kind:Int
 Value:Int
 At:Int
 dY:Int
deriving DecidableEq
instance:Inhabited Use:=⟨⟨0,0,0,0,0⟩⟩
def Use.cells(x:Use):List Go.Value:=[.int .i64 x.Doc,.int .i64 x.Kind,.int .i64 x.Value,.int .i64 x.At,.int .i64 x.dY]
abbrev Use.enc(x:Use):Go.Value:=.agg (Use.cells x).toArray
def Use.rp:Rp Use:=⟨5,λ_ cs x=>cs=Use.cells x⟩
theorem Use.aD:Use.rp.Mono:=λ_ _ _ _ _ e=>e
theorem Use.dg:Use.rp.Good:=⟨Use.aD,λ_ _ _ e=>by cases e;rfl,by decide⟩
structure aK where
 No:Int
 At:Int
 dY:Int
 eD:Int
 cM:Int
 gj:Int
 nj:Bool
deriving DecidableEq
instance:Inhabited aK:=⟨⟨0,0,0,0,0,0,false⟩⟩
def aK.cells(x:aK):List Go.Value:=[.int .i64 x.No,.int .i64 x.At,.int .i64 x.dY,.int .i64 x.eD,.int .i64 x.cM,.int .i64 x.gj,.bool x.nj]
abbrev aK.enc(x:aK):Go.Value:=.agg (aK.cells x).toArray
def aK.rp:Rp aK:=⟨7,λ_ cs x=>cs=aK.cells x⟩
theorem aK.aD:aK.rp.Mono:=λ_ _ _ _ _ e=>e
theorem aK.dg:aK.rp.Good:=⟨aK.aD,λ_ _ _ e=>by cases e;rfl,by decide⟩
structure bA where
 No:Int
 At:Int
 dY:Int
 mX:Int
 From:Int
 To:Int
 eD:Int
 Kind:Int
 Ob:Int
 nj:Bool
deriving DecidableEq
instance:Inhabited bA:=⟨⟨0,0,0,0,0,0,0,0,0,false⟩⟩
def bA.cells(x:bA):List Go.Value:=[.int .i64 x.No,.int .i64 x.At,.int .i64 x.dY,.int .i64 x.mX,.int .i64 x.From,.int .i64 x.To,.int .i64 x.eD,.int .i64 x.Kind,.int .i64 x.Ob,.bool x.nj]
abbrev bA.enc(x:bA):Go.Value:=.agg (bA.cells x).toArray
def bA.rp:Rp bA:=⟨10,λ_ cs x=>cs=bA.cells x⟩
theorem bA.aD:bA.rp.Mono:=λ_ _ _ _ _ e=>e
theorem bA.dg:bA.rp.Good:=⟨bA.aD,λ_ _ _ e=>by cases e;rfl,by decide⟩
structure aG where
 No:Int
 At:Int
 dY:Int
 cM:Int
 iH:Int
 Of:Bool
 nj:Bool
deriving DecidableEq
instance:Inhabited aG:=⟨⟨0,0,0,0,0,false,false⟩⟩
def aG.cells(x:aG):List Go.Value:=[.int .i64 x.No,.int .i64 x.At,.int .i64 x.dY,.int .i64 x.cM,.int .i64 x.iH,.bool x.Of,.bool x.nj]
abbrev aG.enc(x:aG):Go.Value:=.agg (aG.cells x).toArray
def aG.rp:Rp aG:=⟨7,λ_ cs x=>cs=aG.cells x⟩
theorem aG.aD:aG.rp.Mono:=λ_ _ _ _ _ e=>e
theorem aG.dg:aG.rp.Good:=⟨aG.aD,λ_ _ _ e=>by cases e;rfl,by decide⟩
structure Budget where
 No:Int
 At:Int
 dY:Int
 Kind:Int
 e8:Int
 Count:Int
 Value:Int
 nj:Bool
deriving DecidableEq
instance:Inhabited Budget:=⟨⟨0,0,0,0,0,0,0,false⟩⟩
def Budget.cells(x:Budget):List Go.Value:=[.int .i64 x.No,.int .i64 x.At,.int .i64 x.dY,.int .i64 x.Kind,.int .i64 x.e8,.int .i64 x.Count,.int .i64 x.Value,.bool x.nj]
abbrev Budget.enc(x:Budget):Go.Value:=.agg (Budget.cells x).toArray
def Budget.rp:Rp Budget:=⟨8,λ_ cs x=>cs=Budget.cells x⟩
theorem Budget.aD:Budget.rp.Mono:=λ_ _ _ _ _ e=>e
theorem Budget.dg:Budget.rp.Good:=⟨Budget.aD,λ_ _ _ e=>by cases e;rfl,by decide⟩
structure ay where
 No:Int
 At:Int
 dY:Int
 Doc:Int
 By:Int
 For:Int
 eD:Int
 nj:Bool
deriving DecidableEq
instance:Inhabited ay:=⟨⟨0,0,0,0,0,0,0,false⟩⟩
def ay.cells(x:ay):List Go.Value:=[.int .i64 x.No,.int .i64 x.At,.int .i64 x.dY,.int .i64 x.Doc,.int .i64 x.By,.int .i64 x.For,.int .i64 x.eD,.bool x.nj]
abbrev ay.enc(x:ay):Go.Value:=.agg (ay.cells x).toArray
def ay.rp:Rp ay:=⟨8,λ_ cs x=>cs=ay.cells x⟩
theorem ay.aD:ay.rp.Mono:=λ_ _ _ _ _ e=>e
theorem ay.dg:ay.rp.Good:=⟨ay.aD,λ_ _ _ e=>by cases e;rfl,by decide⟩
inductive aj where
 |mk (Kind N No:Int) (Name:ByteArray) (L:List aj)
def aj.Kind:aj->Int
 |.mk Kind _ _ _ _=>Kind
def aj.N:aj->Int
 |.mk _ N _ _ _=>N
def aj.No:aj->Int
 |.mk _ _ No _ _=>No
def aj.Name:aj->ByteArray
 |.mk _ _ _ Name _=>Name
def aj.L:aj->List aj
 |.mk _ _ _ _ L=>L
instance:Inhabited aj:=⟨.mk 0 0 0 ⟨#[]⟩ []⟩
mutual
def aj.dep:aj->Nat
 |.mk _ _ _ _ L=>aj.depL L+1
def aj.depL:List aj->Nat
 |[]=>0
 |y::ys=>aj.dep y+aj.depL ys
end
theorem aj.ni(x:aj):0<x.dep:=by cases x;simp[aj.dep]
theorem aj.S9{y:aj}:∀{l:List aj},y∈l->y.dep<=aj.depL l
 |z::l,h=>by
  rcases kD.1 h with rfl|h
  .simp[aj.depL]
  .have:=aj.S9 h;simp[aj.depL];omega
theorem aj.Ni:∀(l:List aj),l.length<=aj.depL l
 |[]=>kE _
 |z::l=>by have:=aj.Ni l;have:=aj.ni z;simp[aj.depL];omega
theorem aj.OI(x:aj):x.L.length<x.dep:=by
 cases x with
 |mk a b c d L=>have:=aj.Ni L;simp[aj.dep,aj.L];omega
theorem aj.lj{x y:aj}(h:y∈x.L):y.dep<x.dep:=by
 cases x with
 |mk a b c d L=>have:=aj.S9 (l:=L) h;simp[aj.dep];omega
structure eC where
 oV:Option Addr
 pk:Nat
def aj.cells(x:aj)(r:eC):List Go.Value:=[.int .i64 x.Kind,.int .i64 x.N,.int .i64 x.No,.string x.Name,.slice r.oV x.L.length r.pk]
inductive aj.ok(h:HF):aj->eC->Prop
 |mk (x:aj) (r:eC) (rs:Nat->eC) (h0:x.L.length<=9223372036854775807/\x.L.length<=r.pk) (h1:∀(i:Nat)(y:aj),x.L[i]? = some y->∃p,r.oV=some p/\At h (p.add (i*5)) (aj.cells y (rs i))) (h2:∀(i:Nat)(y:aj),x.L[i]? = some y->aj.ok h y (rs i)):aj.ok h x r
def aj.rp:Rp aj:=⟨5,λh cs x=>∃r,cs=aj.cells x r/\aj.ok h x r⟩
theorem aj.ok.mono{h h':HF}{x:aj}{r:eC}(a:aj.ok h x r)(hl:h.le h'):aj.ok h' x r:=by
 induction a with
 |mk x r rs h0 h1 h2 ih=>exact .mk x r rs h0 (λi y hy=>let ⟨p,e,q⟩:=h1 i y hy;⟨p,e,q.mono hl⟩) (λi y hy=>ih i y hy)
theorem aj.ok.list{h:HF}{x:aj}{r:eC}(a:aj.ok h x r):SlC aj.rp h r.oV r.pk x.L:=by
 cases a with
 |mk x r rs h0 h1 h2=>exact⟨⟨h0.1,λi y hy=>let ⟨p,e,q⟩:=h1 i y hy;⟨p,_,e,q,rfl,_,rfl,h2 i y hy⟩⟩,h0.2⟩
theorem aj.aD:aj.rp.Mono:=λ_ _ _ _ hl⟨r,e,o⟩=>⟨r,e,o.mono hl⟩
theorem aj.ok.of{h:HF}{x:aj}{r:eC}(a:SlC aj.rp h r.oV r.pk x.L):aj.ok h x r:=by
 have h1:∀i,∃q:eC,∀y,x.L[i]? = some y->∃p,r.oV=some p/\At h (p.add (i*5)) (aj.cells y q)/\aj.ok h y q:=by
  intro i
  cases hy:x.L[i]? with
  |none=>exact⟨⟨none,0⟩,λy e=>by cases e⟩
  |some y=>
   obtain⟨p,cs,e,q,_,r',rfl,o⟩:=a.1.2 i y hy
   exact⟨r',λz ez=>by cases ez;exact⟨p,e,q,o⟩⟩
 obtain⟨rs,hrs⟩:=Classical.axiomOfChoice h1
 exact .mk x r rs ⟨a.1.1,a.2⟩ (λi y hy=>let ⟨p,e,q,_⟩:=hrs i y hy;⟨p,e,q⟩) (λi y hy=>let ⟨_,_,_,o⟩:=hrs i y hy;o)
theorem aj.dg:aj.rp.Good:=⟨aj.aD,λ_ _ _⟨_,e,_⟩=>by cases e;rfl,by decide⟩
structure fC where
 Kind:ByteArray
 Bl:Int
 iV:Int
 aj:aj
instance:Inhabited fC:=⟨⟨⟨#[]⟩,0,0,default⟩⟩
structure Co where
 aj:eC
def fC.cells(x:fC)(r:Co):List Go.Value:=[.string x.Kind,.int .i64 x.Bl,.int .i64 x.iV,.int .i64 x.aj.Kind,.int .i64 x.aj.N,.int .i64 x.aj.No,.string x.aj.Name,.slice r.aj.oV x.aj.L.length r.aj.pk]
structure fC.ok(h:HF)(x:fC)(r:Co):Prop where
 aj:aj.ok h x.aj r.aj
theorem fC.ok.mono{h h':HF}{x:fC}{r:Co}(a:fC.ok h x r)(hl:h.le h'):fC.ok h' x r:=⟨a.aj.mono hl⟩
def fC.rp:Rp fC:=⟨8,λh cs x=>∃r,cs=fC.cells x r/\fC.ok h x r⟩
theorem fC.aD:fC.rp.Mono:=λ_ _ _ _ hl⟨r,e,o⟩=>⟨r,e,o.mono hl⟩
theorem fC.dg:fC.rp.Good:=⟨fC.aD,λ_ _ _⟨_,e,_⟩=>by cases e;rfl,by decide⟩
structure aw where
 Name:ByteArray
 dN:List ByteArray
 aA:List ByteArray
 dp:List fC
 aO:aj
 Mode:Int
instance:Inhabited aw:=⟨⟨⟨#[]⟩,[],[],[],default,0⟩⟩
structure jv where
 kg:Option Addr
 ke:Nat
 ib:Option Addr
 ia:Nat
 pB:Option Addr
 pA:Nat
 aO:eC
def aw.cells(x:aw)(r:jv):List Go.Value:=[.string x.Name,.slice r.kg x.dN.length r.ke,.slice r.ib x.aA.length r.ia,.slice r.pB x.dp.length r.pA,.int .i64 x.aO.Kind,.int .i64 x.aO.N,.int .i64 x.aO.No,.string x.aO.Name,.slice r.aO.oV x.aO.L.length r.aO.pk,.int .i64 x.Mode]
structure aw.ok(h:HF)(x:aw)(r:jv):Prop where
 dN:SlC Rp.str h r.kg r.ke x.dN
 aA:SlC Rp.str h r.ib r.ia x.aA
 dp:SlC fC.rp h r.pB r.pA x.dp
 aO:aj.ok h x.aO r.aO
theorem aw.ok.mono{h h':HF}{x:aw}{r:jv}(a:aw.ok h x r)(hl:h.le h'):aw.ok h' x r:=⟨a.dN.mono Rp.iZ hl,a.aA.mono Rp.iZ hl,a.dp.mono fC.aD hl,a.aO.mono hl⟩
def aw.rp:Rp aw:=⟨10,λh cs x=>∃r,cs=aw.cells x r/\aw.ok h x r⟩
theorem aw.aD:aw.rp.Mono:=λ_ _ _ _ hl⟨r,e,o⟩=>⟨r,e,o.mono hl⟩
theorem aw.dg:aw.rp.Good:=⟨aw.aD,λ_ _ _⟨_,e,_⟩=>by cases e;rfl,by decide⟩
structure aE where
 No:Int
 At:Int
 dY:Int
 aw:aw
instance:Inhabited aE:=⟨⟨0,0,0,default⟩⟩
structure pR where
 aw:jv
def aE.cells(x:aE)(r:pR):List Go.Value:=[.int .i64 x.No,.int .i64 x.At,.int .i64 x.dY,.string x.aw.Name,.slice r.aw.kg x.aw.dN.length r.aw.ke,.slice r.aw.ib x.aw.aA.length r.aw.ia,.slice r.aw.pB x.aw.dp.length r.aw.pA,.int .i64 x.aw.aO.Kind,.int .i64 x.aw.aO.N,.int .i64 x.aw.aO.No,.string x.aw.aO.Name,.slice r.aw.aO.oV x.aw.aO.L.length r.aw.aO.pk,.int .i64 x.aw.Mode]
structure aE.ok(h:HF)(x:aE)(r:pR):Prop where
 aw:aw.ok h x.aw r.aw
theorem aE.ok.mono{h h':HF}{x:aE}{r:pR}(a:aE.ok h x r)(hl:h.le h'):aE.ok h' x r:=⟨a.aw.mono hl⟩
def aE.rp:Rp aE:=⟨13,λh cs x=>∃r,cs=aE.cells x r/\aE.ok h x r⟩
theorem aE.aD:aE.rp.Mono:=λ_ _ _ _ hl⟨r,e,o⟩=>⟨r,e,o.mono hl⟩
theorem aE.dg:aE.rp.Good:=⟨aE.aD,λ_ _ _⟨_,e,_⟩=>by cases e;rfl,by decide⟩
structure ao where
 No:Int
 At:Int
 Kind:Int
 Value:Int
 From:Int
 mX:Int
 lh:List Int
 fe:List Int
 fp:List Int
 Text:Nat->Int
instance:Inhabited ao:=⟨⟨0,0,0,0,0,0,[],[],[],λ_=>0⟩⟩
structure oH where
 BE:Option Addr
 BD:Nat
 uE:Option Addr
 uD:Nat
 En:Option Addr
 Em:Nat
def ao.cells(x:ao)(r:oH):List Go.Value:=.int .i64 x.No::.int .i64 x.At::.int .i64 x.Kind::.int .i64 x.Value::.int .i64 x.From::.int .i64 x.mX::.slice r.BE x.lh.length r.BD::.slice r.uE x.fe.length r.uD::.slice r.En x.fp.length r.Em::.int .u8 (x.Text 0)::.int .u8 (x.Text 1)::.int .u8 (x.Text 2)::.int .u8 (x.Text 3)::.int .u8 (x.Text 4)::.int .u8 (x.Text 5)::.int .u8 (x.Text 6)::.int .u8 (x.Text 7)::.int .u8 (x.Text 8)::.int .u8 (x.Text 9)::.int .u8 (x.Text 10)::.int .u8 (x.Text 11)::.int .u8 (x.Text 12)::.int .u8 (x.Text 13)::.int .u8 (x.Text 14)::.int .u8 (x.Text 15)::.int .u8 (x.Text 16)::.int .u8 (x.Text 17)::.int .u8 (x.Text 18)::.int .u8 (x.Text 19)::.int .u8 (x.Text 20)::.int .u8 (x.Text 21)::.int .u8 (x.Text 22)::.int .u8 (x.Text 23)::.int .u8 (x.Text 24)::.int .u8 (x.Text 25)::.int .u8 (x.Text 26)::.int .u8 (x.Text 27)::.int .u8 (x.Text 28)::.int .u8 (x.Text 29)::.int .u8 (x.Text 30)::.int .u8 (x.Text 31)::[]
structure ao.ok(h:HF)(x:ao)(r:oH):Prop where
 lh:SlC jB h r.BE r.BD x.lh
 fe:SlC jB h r.uE r.uD x.fe
 fp:SlC jB h r.En r.Em x.fp
theorem ao.ok.mono{h h':HF}{x:ao}{r:oH}(a:ao.ok h x r)(hl:h.le h'):ao.ok h' x r:=⟨a.lh.mono vH hl,a.fe.mono vH hl,a.fp.mono vH hl⟩
def ao.rp:Rp ao:=⟨41,λh cs x=>∃r,cs=ao.cells x r/\ao.ok h x r⟩
theorem ao.aD:ao.rp.Mono:=λ_ _ _ _ hl⟨r,e,o⟩=>⟨r,e,o.mono hl⟩
theorem ao.dg:ao.rp.Good:=⟨ao.aD,λ_ _ _⟨_,e,_⟩=>by cases e;rfl,by decide⟩
structure Register where
 dF:List aK
 ga:List bA
 er:List aG
 dH:List Budget
 Versions:List aE
 cd:List ao
 dC:List ay
instance:Inhabited Register:=⟨⟨[],[],[],[],[],[],[]⟩⟩
structure pC where
 yU:Option Addr
 yT:Nat
 yS:Option Addr
 yR:Nat
 wJ:Option Addr
 wH:Nat
 uH:Option Addr
 uG:Nat
 pj:Option Addr
 pi:Nat
 L5:Option Addr
 LZ:Nat
 wM:Option Addr
 wK:Nat
def Register.cells(x:Register)(r:pC):List Go.Value:=[.slice r.yU x.dF.length r.yT,.slice r.yS x.ga.length r.yR,.slice r.wJ x.er.length r.wH,.slice r.uH x.dH.length r.uG,.slice r.pj x.Versions.length r.pi,.slice r.L5 x.cd.length r.LZ,.slice r.wM x.dC.length r.wK]
structure Register.ok(h:HF)(x:Register)(r:pC):Prop where
 dF:SlC aK.rp h r.yU r.yT x.dF
 ga:SlC bA.rp h r.yS r.yR x.ga
 er:SlC aG.rp h r.wJ r.wH x.er
 dH:SlC Budget.rp h r.uH r.uG x.dH
 Versions:SlC aE.rp h r.pj r.pi x.Versions
 cd:SlC ao.rp h r.L5 r.LZ x.cd
 dC:SlC ay.rp h r.wM r.wK x.dC
theorem Register.ok.mono{h h':HF}{x:Register}{r:pC}(a:Register.ok h x r)(hl:h.le h'):Register.ok h' x r:=⟨a.dF.mono aK.aD hl,a.ga.mono bA.aD hl,a.er.mono aG.aD hl,a.dH.mono Budget.aD hl,a.Versions.mono aE.aD hl,a.cd.mono ao.aD hl,a.dC.mono ay.aD hl⟩
def Register.rp:Rp Register:=⟨7,λh cs x=>∃r,cs=Register.cells x r/\Register.ok h x r⟩
theorem Register.aD:Register.rp.Mono:=λ_ _ _ _ hl⟨r,e,o⟩=>⟨r,e,o.mono hl⟩
theorem Register.dg:Register.rp.Good:=⟨Register.aD,λ_ _ _⟨_,e,_⟩=>by cases e;rfl,by decide⟩
structure fN where
 State:Int
 Budget:Int
 Versions:List Int
 Who:List Int
instance:Inhabited fN:=⟨⟨0,0,[],[]⟩⟩
structure vI where
 pj:Option Addr
 pi:Nat
 UL:Option Addr
 UK:Nat
def fN.cells(x:fN)(r:vI):List Go.Value:=[.int .i64 x.State,.int .i64 x.Budget,.slice r.pj x.Versions.length r.pi,.slice r.UL x.Who.length r.UK]
structure fN.ok(h:HF)(x:fN)(r:vI):Prop where
 Versions:SlC jB h r.pj r.pi x.Versions
 Who:SlC jB h r.UL r.UK x.Who
theorem fN.ok.mono{h h':HF}{x:fN}{r:vI}(a:fN.ok h x r)(hl:h.le h'):fN.ok h' x r:=⟨a.Versions.mono vH hl,a.Who.mono vH hl⟩
def fN.rp:Rp fN:=⟨4,λh cs x=>∃r,cs=fN.cells x r/\fN.ok h x r⟩
theorem fN.aD:fN.rp.Mono:=λ_ _ _ _ hl⟨r,e,o⟩=>⟨r,e,o.mono hl⟩
theorem fN.dg:fN.rp.Good:=⟨fN.aD,λ_ _ _⟨_,e,_⟩=>by cases e;rfl,by decide⟩
structure Lack where
 Kind:Int
 N:Int
deriving DecidableEq
instance:Inhabited Lack:=⟨⟨0,0⟩⟩
def Lack.cells(x:Lack):List Go.Value:=[.int .i64 x.Kind,.int .i64 x.N]
abbrev Lack.enc(x:Lack):Go.Value:=.agg (Lack.cells x).toArray
def Lack.rp:Rp Lack:=⟨2,λ_ cs x=>cs=Lack.cells x⟩
theorem Lack.aD:Lack.rp.Mono:=λ_ _ _ _ _ e=>e
theorem Lack.dg:Lack.rp.Good:=⟨Lack.aD,λ_ _ _ e=>by cases e;rfl,by decide⟩
structure OSeat where
 aT:Int
 bT:Int
deriving DecidableEq
instance:Inhabited OSeat:=⟨⟨0,0⟩⟩
def OSeat.cells(x:OSeat):List Go.Value:=[.int .i64 x.aT,.int .i64 x.bT]
abbrev OSeat.enc(x:OSeat):Go.Value:=.agg (OSeat.cells x).toArray
def OSeat.rp:Rp OSeat:=⟨2,λ_ cs x=>cs=OSeat.cells x⟩
theorem OSeat.aD:OSeat.rp.Mono:=λ_ _ _ _ _ e=>e
theorem OSeat.dg:OSeat.rp.Good:=⟨OSeat.aD,λ_ _ _ e=>by cases e;rfl,by decide⟩
structure dZ where
 bT:Int
 party:Int
 of:Bool
deriving DecidableEq
instance:Inhabited dZ:=⟨⟨0,0,false⟩⟩
def dZ.cells(x:dZ):List Go.Value:=[.int .i64 x.bT,.int .i64 x.party,.bool x.of]
abbrev dZ.enc(x:dZ):Go.Value:=.agg (dZ.cells x).toArray
def dZ.rp:Rp dZ:=⟨3,λ_ cs x=>cs=dZ.cells x⟩
theorem dZ.aD:dZ.rp.Mono:=λ_ _ _ _ _ e=>e
theorem dZ.dg:dZ.rp.Good:=⟨dZ.aD,λ_ _ _ e=>by cases e;rfl,by decide⟩
structure iE where
 path:List Int
 to:Int
instance:Inhabited iE:=⟨⟨[],0⟩⟩
structure Tt where
 AB:Option Addr
 CH:Nat
def iE.cells(x:iE)(r:Tt):List Go.Value:=[.slice r.AB x.path.length r.CH,.int .i64 x.to]
structure iE.ok(h:HF)(x:iE)(r:Tt):Prop where
 path:SlC jB h r.AB r.CH x.path
theorem iE.ok.mono{h h':HF}{x:iE}{r:Tt}(a:iE.ok h x r)(hl:h.le h'):iE.ok h' x r:=⟨a.path.mono vH hl⟩
def iE.rp:Rp iE:=⟨2,λh cs x=>∃r,cs=iE.cells x r/\iE.ok h x r⟩
theorem iE.aD:iE.rp.Mono:=λ_ _ _ _ hl⟨r,e,o⟩=>⟨r,e,o.mono hl⟩
theorem iE.dg:iE.rp.Good:=⟨iE.aD,λ_ _ _⟨_,e,_⟩=>by cases e;rfl,by decide⟩
structure bj where
 value:Int
 da:List (List bW)
 kU:List Int
instance:Inhabited bj:=⟨⟨0,[],[]⟩⟩
structure og where
 mv:Option Addr
 mu:Nat
 oo:Option Addr
 oh:Nat
def bj.cells(x:bj)(r:og):List Go.Value:=[.int .i64 x.value,.slice r.mv x.da.length r.mu,.slice r.oo x.kU.length r.oh]
structure bj.ok(h:HF)(x:bj)(r:og):Prop where
 da:SlC (Rp.sl bW.rp) h r.mv r.mu x.da
 kU:SlC jB h r.oo r.oh x.kU
theorem bj.ok.mono{h h':HF}{x:bj}{r:og}(a:bj.ok h x r)(hl:h.le h'):bj.ok h' x r:=⟨a.da.mono (Rp.Bo bW.aD) hl,a.kU.mono vH hl⟩
def bj.rp:Rp bj:=⟨3,λh cs x=>∃r,cs=bj.cells x r/\bj.ok h x r⟩
theorem bj.aD:bj.rp.Mono:=λ_ _ _ _ hl⟨r,e,o⟩=>⟨r,e,o.mono hl⟩
theorem bj.dg:bj.rp.Good:=⟨bj.aD,λ_ _ _⟨_,e,_⟩=>by cases e;rfl,by decide⟩
structure gG where
 x:aj
 depth:Int
instance:Inhabited gG:=⟨⟨default,0⟩⟩
structure C7 where
 x:eC
def gG.cells(x:gG)(r:C7):List Go.Value:=[.int .i64 x.x.Kind,.int .i64 x.x.N,.int .i64 x.x.No,.string x.x.Name,.slice r.x.oV x.x.L.length r.x.pk,.int .i64 x.depth]
structure gG.ok(h:HF)(x:gG)(r:C7):Prop where
 x:aj.ok h x.x r.x
theorem gG.ok.mono{h h':HF}{x:gG}{r:C7}(a:gG.ok h x r)(hl:h.le h'):gG.ok h' x r:=⟨a.x.mono hl⟩
def gG.rp:Rp gG:=⟨6,λh cs x=>∃r,cs=gG.cells x r/\gG.ok h x r⟩
theorem gG.aD:gG.rp.Mono:=λ_ _ _ _ hl⟨r,e,o⟩=>⟨r,e,o.mono hl⟩
theorem gG.dg:gG.rp.Good:=⟨gG.aD,λ_ _ _⟨_,e,_⟩=>by cases e;rfl,by decide⟩
structure tq where
 e:Int
deriving DecidableEq
instance:Inhabited tq:=⟨⟨0⟩⟩
def tq.cells(x:tq):List Go.Value:=[.int .i64 x.e]
abbrev tq.enc(x:tq):Go.Value:=.agg (tq.cells x).toArray
def tq.rp:Rp tq:=⟨1,λ_ cs x=>cs=tq.cells x⟩
theorem tq.aD:tq.rp.Mono:=λ_ _ _ _ _ e=>e
theorem tq.dg:tq.rp.Good:=⟨tq.aD,λ_ _ _ e=>by cases e;rfl,by decide⟩
structure iq where
 docs:List ao
 at_:List (Int×Int)
instance:Inhabited iq:=⟨⟨[],[]⟩⟩
structure rM where
 IM:Option Addr
 IL:Nat
 N8:Nat
def iq.cells(x:iq)(r:rM):List Go.Value:=[.slice r.IM x.docs.length r.IL,.map (some r.N8)]
structure iq.ok(h:HF)(x:iq)(r:rM):Prop where
 docs:SlC ao.rp h r.IM r.IL x.docs
 at_:wa (zC .i64) yP h r.N8 x.at_
theorem iq.ok.mono{h h':HF}{x:iq}{r:rM}(a:iq.ok h x r)(hl:h.le h'):iq.ok h' x r:=⟨a.docs.mono ao.aD hl,a.at_.mono yP.mono hl⟩
def iq.rp:Rp iq:=⟨2,λh cs x=>∃r,cs=iq.cells x r/\iq.ok h x r⟩
theorem iq.aD:iq.rp.Mono:=λ_ _ _ _ hl⟨r,e,o⟩=>⟨r,e,o.mono hl⟩
theorem iq.dg:iq.rp.Good:=⟨iq.aD,λ_ _ _⟨_,e,_⟩=>by cases e;rfl,by decide⟩
structure fL where
 aV:Int
 vx:Int
 forWhom:Int
 aT:Int
deriving DecidableEq
instance:Inhabited fL:=⟨⟨0,0,0,0⟩⟩
def fL.cells(x:fL):List Go.Value:=[.int .i64 x.aV,.int .i64 x.vx,.int .i64 x.forWhom,.int .i64 x.aT]
abbrev fL.enc(x:fL):Go.Value:=.agg (fL.cells x).toArray
def fL.rp:Rp fL:=⟨4,λ_ cs x=>cs=fL.cells x⟩
theorem fL.aD:fL.rp.Mono:=λ_ _ _ _ _ e=>e
theorem fL.dg:fL.rp.Good:=⟨fL.aD,λ_ _ _ e=>by cases e;rfl,by decide⟩
structure ek where
 fB:Int
 to:Int
 aT:Int
 kind:Int
deriving DecidableEq
instance:Inhabited ek:=⟨⟨0,0,0,0⟩⟩
def ek.cells(x:ek):List Go.Value:=[.int .i64 x.fB,.int .i64 x.to,.int .i64 x.aT,.int .i64 x.kind]
abbrev ek.enc(x:ek):Go.Value:=.agg (ek.cells x).toArray
def ek.rp:Rp ek:=⟨4,λ_ cs x=>cs=ek.cells x⟩
theorem ek.aD:ek.rp.Mono:=λ_ _ _ _ _ e=>e
theorem ek.dg:ek.rp.Good:=⟨ek.aD,λ_ _ _ e=>by cases e;rfl,by decide⟩
structure cL where
 aT:Int
 kind:Int
 value:Int
 at_:Int
 ah:Int
deriving DecidableEq
instance:Inhabited cL:=⟨⟨0,0,0,0,0⟩⟩
def cL.cells(x:cL):List Go.Value:=[.int .i64 x.aT,.int .i64 x.kind,.int .i64 x.value,.int .i64 x.at_,.int .i64 x.ah]
abbrev cL.enc(x:cL):Go.Value:=.agg (cL.cells x).toArray
def cL.rp:Rp cL:=⟨5,λ_ cs x=>cs=cL.cells x⟩
theorem cL.aD:cL.rp.Mono:=λ_ _ _ _ _ e=>e
theorem cL.dg:cL.rp.Good:=⟨cL.aD,λ_ _ _ e=>by cases e;rfl,by decide⟩
structure gl where
 kind:Int
 period:Int
deriving DecidableEq
instance:Inhabited gl:=⟨⟨0,0⟩⟩
def gl.cells(x:gl):List Go.Value:=[.int .i64 x.kind,.int .i64 x.period]
abbrev gl.enc(x:gl):Go.Value:=.agg (gl.cells x).toArray
def gl.rp:Rp gl:=⟨2,λ_ cs x=>cs=gl.cells x⟩
theorem gl.aD:gl.rp.Mono:=λ_ _ _ _ _ e=>e
theorem gl.dg:gl.rp.Good:=⟨gl.aD,λ_ _ _ e=>by cases e;rfl,by decide⟩
structure fh where
 shelf:iq
 signed:List Int
 done:List Bool
 lacks:List Int
 revoked:List (Int×(List Int))
instance:Inhabited fh:=⟨⟨default,[],[],[],[]⟩⟩
structure vO where
 shelf:rM
 co:Option Addr
 cn:Nat
 CX:Option Addr
 CW:Nat
 PZ:Option Addr
 PY:Nat
 Kc:Nat
def fh.cells(x:fh)(r:vO):List Go.Value:=[.slice r.shelf.IM x.shelf.docs.length r.shelf.IL,.map (some r.shelf.N8),.slice r.co x.signed.length r.cn,.slice r.CX x.done.length r.CW,.slice r.PZ x.lacks.length r.PY,.map (some r.Kc)]
structure fh.ok(h:HF)(x:fh)(r:vO):Prop where
 shelf:iq.ok h x.shelf r.shelf
 signed:SlC jB h r.co r.cn x.signed
 done:SlC Rp.bool h r.CX r.CW x.done
 lacks:SlC jB h r.PZ r.PY x.lacks
 revoked:wa (zC .i64) (VSl jB) h r.Kc x.revoked
theorem fh.ok.mono{h h':HF}{x:fh}{r:vO}(a:fh.ok h x r)(hl:h.le h'):fh.ok h' x r:=⟨a.shelf.mono hl,a.signed.mono vH hl,a.done.mono Rp.ss hl,a.lacks.mono vH hl,a.revoked.mono (VSl.mono vH) hl⟩
def fh.rp:Rp fh:=⟨6,λh cs x=>∃r,cs=fh.cells x r/\fh.ok h x r⟩
theorem fh.aD:fh.rp.Mono:=λ_ _ _ _ hl⟨r,e,o⟩=>⟨r,e,o.mono hl⟩
theorem fh.dg:fh.rp.Good:=⟨fh.aD,λ_ _ _⟨_,e,_⟩=>by cases e;rfl,by decide⟩
structure bU where
 Register:Register
 aV:ao
 at_:Int
 ah:Int
instance:Inhabited bU:=⟨⟨default,default,0,0⟩⟩
structure sG where
 Register:pC
 aV:oH
def bU.cells(x:bU)(r:sG):List Go.Value:=.slice r.Register.yU x.Register.dF.length r.Register.yT::.slice r.Register.yS x.Register.ga.length r.Register.yR::.slice r.Register.wJ x.Register.er.length r.Register.wH::.slice r.Register.uH x.Register.dH.length r.Register.uG::.slice r.Register.pj x.Register.Versions.length r.Register.pi::.slice r.Register.L5 x.Register.cd.length r.Register.LZ::.slice r.Register.wM x.Register.dC.length r.Register.wK::.int .i64 x.aV.No::.int .i64 x.aV.At::.int .i64 x.aV.Kind::.int .i64 x.aV.Value::.int .i64 x.aV.From::.int .i64 x.aV.mX::.slice r.aV.BE x.aV.lh.length r.aV.BD::.slice r.aV.uE x.aV.fe.length r.aV.uD::.slice r.aV.En x.aV.fp.length r.aV.Em::.int .u8 (x.aV.Text 0)::.int .u8 (x.aV.Text 1)::.int .u8 (x.aV.Text 2)::.int .u8 (x.aV.Text 3)::.int .u8 (x.aV.Text 4)::.int .u8 (x.aV.Text 5)::.int .u8 (x.aV.Text 6)::.int .u8 (x.aV.Text 7)::.int .u8 (x.aV.Text 8)::.int .u8 (x.aV.Text 9)::.int .u8 (x.aV.Text 10)::.int .u8 (x.aV.Text 11)::.int .u8 (x.aV.Text 12)::.int .u8 (x.aV.Text 13)::.int .u8 (x.aV.Text 14)::.int .u8 (x.aV.Text 15)::.int .u8 (x.aV.Text 16)::.int .u8 (x.aV.Text 17)::.int .u8 (x.aV.Text 18)::.int .u8 (x.aV.Text 19)::.int .u8 (x.aV.Text 20)::.int .u8 (x.aV.Text 21)::.int .u8 (x.aV.Text 22)::.int .u8 (x.aV.Text 23)::.int .u8 (x.aV.Text 24)::.int .u8 (x.aV.Text 25)::.int .u8 (x.aV.Text 26)::.int .u8 (x.aV.Text 27)::.int .u8 (x.aV.Text 28)::.int .u8 (x.aV.Text 29)::.int .u8 (x.aV.Text 30)::.int .u8 (x.aV.Text 31)::.int .i64 x.at_::.int .i64 x.ah::[]
structure bU.ok(h:HF)(x:bU)(r:sG):Prop where
 Register:Register.ok h x.Register r.Register
 aV:ao.ok h x.aV r.aV
theorem bU.ok.mono{h h':HF}{x:bU}{r:sG}(a:bU.ok h x r)(hl:h.le h'):bU.ok h' x r:=⟨a.Register.mono hl,a.aV.mono hl⟩
def bU.rp:Rp bU:=⟨50,λh cs x=>∃r,cs=bU.cells x r/\bU.ok h x r⟩
theorem bU.aD:bU.rp.Mono:=λ_ _ _ _ hl⟨r,e,o⟩=>⟨r,e,o.mono hl⟩
theorem bU.dg:bU.rp.Good:=⟨bU.aD,λ_ _ _⟨_,e,_⟩=>by cases e;rfl,by decide⟩
end
variable {A L':LH}{E:TypeId}{as ass:Array Operand}{ats:Array TypeId}{c:Code}{cap zs:List Go.Value}{f:FuncId}{fv:Go.Value}{id sz:Nat}{o:Obj}{parts:Array (Nat×Operand)}{pe:Int->Go.Value}{q:Addr}{w:World}{ι ρ σ:Type}
section
section
variable {P:Program} {b:Frame} {n:Nat} {k:List Item} {F:List Frame->(Machine->Prop)->Prop} {e:Env} {ds:List Deferred} {X:Cx} {h:HF} {L:LH}
theorem TG(L':LH)(sl:List (Nat×Value))(hk:∀e',TT P b n k F (upds e' sl) ds X h L')(t':(∀e',iD e' sl->TT P b n k F e' ds X h L')->TT P b n (.code c::k) F e ds X h L):TT P b n (.code c::k) F e ds X h L:=
 t' λe' hr=>by have:=hk e';rw[hr.upds]at this;exact this
theorem qZ(hs:L.Perm L')(t:TO P b n ops l k F e ds X h L'):TO P b n ops l k F e ds X h L:=λw hw=>t w (hw.perm hs)
theorem jm(hs:L=L')(t:TO P b n ops l k F e ds X h L'):TO P b n ops l k F e ds X h L:=hs▸t
theorem qs(A G M:LH):(A++(M++G)).Perm (A++(G++M)):=List.Perm.append_left A xG
theorem uN(sl:ι->List (Nat×Value))(dd:ι->List Deferred)(hh:ι->HF)(LL:ι->LH)(I:ι->Prop)(hk:∀i,I i->∀e',TT P b n k F (upds e' (sl i)) (dd i) X (hh i) (LL i))(hb:(∀i e',I i->iD e' (sl i)->TT P b n k F e' (dd i) X (hh i) (LL i))->TT P b n (.code c::.inBlock id::k) F e ds X h L):TT P b n (.code (.block id c)::k) F e ds X h L:=by grind [m7,Mr]
end
section runs
variable {P:Program} {e:Env} {X:Cx} {h:HF} {L:LH} {d:Option Nat} {ty:TypeId} {pos:String} {af:Array Edge} {g:Option (Nat×Bool)}
theorem Sf{t:TypeId}{len:Nat}{p:Addr}{i:Int}(hT:P.underlying t=some (.array len E))(hS:tySz P E=some (sz,a))(hx:e.ev x=.pointer (some p))(hix:e.ev ix=.int .i64 i)(hi:0<=i/\i<(len:Int)):
  ∀w,St X h L w->(execOp e.ev ⟨d,.indexAddr t x ix,ty,pos,af,g⟩).run P w=.ok (.value (.pointer (some (p.add (i.toNat*sz))))) w:=
 λw _=>by simp[execOp,Instr.indexAt,Instr.sureAddr,hix,hx,asIntOf,run_underlying hT,fV hS,hi.1,hi.2]
theorem px{c:Operand}{s:Bool}(hc:e.ev c=.bool s)(hv:(bif s then e.ev x else e.ev y)=v):∀w,St X h L w->(execOp e.ev ⟨d,.pick c x y,ty,pos,af,g⟩).run P w=.ok (.value v) w:=
 hv▸Ox hc
end runs
section stepsM
variable {P:Program} {b:Frame} {n:Nat} {ops:Array Oper} {F:List Frame->(Machine->Prop)->Prop} {e:Env} {ds:List Deferred} {X:Cx} {h:HF} {L:LH} {K:Env->HF->LH->Prop}
variable {ty:TypeId} {pos:String} {af:Array Edge} {g:Option (Nat×Bool)} {κ α : Type} {enc:κ->Value} {V:HF->Value->α->Prop} [DecidableEq κ]
theorem uU(i:Nat){t T:TypeId}{mo ko xo:Operand}{m:List (κ×α)}{k:κ}{x:α}(hT:P.underlying t=some (.map T E))(hK:zU P T enc)(hL:nth L i=some (bk,o))(hm:lr enc V h o m)(hmo:e.ev mo=.map (some bk))(hko:e.ev ko=enc k)(hx:V h (e.ev xo) x)(t':∀o',lr enc V h o' (mput m k x)->K e h (setNth L i (bk,o')))(hg:guardB ops e ⟨none,.insert t mo ko xo,ty,pos,af,g⟩=true:=by rfl):Stp P b n ops F ds X ⟨none,.insert t mo ko xo,ty,pos,af,g⟩ e h L K:=by
 unfold Stp
 rw[if_pos hg]
 intro w hw
 have hb:w.heap[bk]? = some o:=by
  have h2:=hL
  rw[i9]at h2
  exact hw.own _ (xE h2)
 obtain⟨o',hr,hm'⟩:=BX (k:=k) hT hK hb hm hx
 have:(execOp e.ev ⟨none,.insert t mo ko xo,ty,pos,af,g⟩).run P w=.ok .skip { w with heap:=w.heap.setIfInBounds bk o' }:=by
  simp[execOp,hmo,hko,hr]
 rw[this]
 exact⟨h,_,hw.write hL _,t' o' hm'⟩
end stepsM
section stepsA
variable {P:Program} {b:Frame} {n:Nat} {ops:Array Oper} {F:List Frame->(Machine->Prop)->Prop} {e:Env} {ds:List Deferred} {X:Cx} {h:HF} {L:LH} {K:Env->HF->LH->Prop}
variable {d:Option Nat} {ty:TypeId} {pos:String} {af:Array Edge} {g:Option (Nat×Bool)}
theorem uS(i:Nat){t:TypeId}{T:Nat}(hT:tySz P t=some (m,a))(hx:e.ev x=.pointer (some ⟨bk,0,none⟩))(hL:nth L i=some (bk,.cells cl.toArray T (0,0)))(hv:e.ev y=.agg vs.toArray)(hm:vs.length=m)(hc:cl.length=m)(h1:vs.all one=true)(t':K e h (setNth L i (bk,.cells vs.toArray T (0,0))))(hg:guardB ops e ⟨none,.store t x y,ty,pos,af,g⟩=true:=by rfl):Stp P b n ops F ds X ⟨none,.store t x y,ty,pos,af,g⟩ e h L K:=by
 refine lM i hT hx hL (vs:=vs) (by rw[hv];simp[vcells]) hm (by rw[Nat.zero_add,hm,hc];simp) h1 ?_ hg
 grind [GS]
theorem Sa{t:TypeId}{len:Nat}{cells:List Value}(hT:P.underlying t=some (.array len E))(hS:tySz P E=some (sz,a))(hz:zeroC P t=some zs)(hc:XY (λi=>some (i*sz,sz)) zs.toArray (parts.toList.map λp=>(p.1,e.ev p.2))=some cells.toArray)(t':K (pute e d (.agg cells.toArray)) h L)(hg:guardB ops e ⟨d,.build t parts,ty,pos,af,g⟩=true:=by rfl):Stp P b n ops F ds X ⟨d,.build t parts,ty,pos,af,g⟩ e h L K:=
 iM hg λw hw=>by
  obtain⟨z,h1,h2⟩:=uz hz w
  have hparts:(parts.map λx=>(x.1,e.ev x.2)).toList=parts.toList.map λp=>(p.1,e.ev p.2):=by simp
  refine⟨_,_,h,_,?_,hw,t'⟩
  simp only[execOp,Instr.build,jL,h1,h2,jK,run_underlying hT,fV hS,Xg,hparts]
  rw[hc]
  simp
theorem E7{α : Type}:∀(l:List α)(i:Nat)(x y:α),nth l i=some x->(setNth l i y).Perm (y::dropNth l i)
 |[],_,_,_,h=>by simp[nth]at h
 |z::l,0,x,y,h=>List.Perm.refl _
 |z::l,i+1,x,y,h=>(List.Perm.cons z (E7 l i x y h)).trans (List.Perm.swap y z _)
theorem R9(i:Nat){t:Nat}{o':Obj}(hL:nth L i=some (bk,o))(hs:nQ P fv vs.toArray h [(bk,o)] (λx h' B=>x=.returned (.tuple #[])/\h'=h/\B=[(bk,o')]))(hf:e t=fv)(hvs:as.toList.map e.ev=vs)(t':K (pute e d (.tuple #[])) h (setNth L i (bk,o')))(hg:guardB ops e ⟨d,.call ⟨.value (.tmp t),as,ats⟩,ty,pos,af,g⟩=true:=by rfl):Stp P b n ops F ds X ⟨d,.call ⟨.value (.tmp t),as,ats⟩,ty,pos,af,g⟩ e h L K:=by
 unfold Stp
 rw[if_pos hg]
 intro w hw
 have hw':=hw.perm (oe L i _ hL)
 have harr:as.map e.ev=vs.toArray:=xS (by simp[←hvs])
 obtain⟨nx,hrun,hcall⟩:=hs w (Pre.left (A:=[(bk,o)]) hw'.pre)
 have hr:(execOp e.ev ⟨d,.call ⟨.value (.tmp t),as,ats⟩,ty,pos,af,g⟩).run P w=.ok nx w:=by
  grind [execOp,resolve,XQ]
 rw[hr]
 refine mO (oO hcall) (hcall.mono ?_)
 rintro x w' ⟨h',B,hst,rfl,rfl,rfl⟩
 exact⟨h',_,(Xd (A:=[(bk,o)]) (F:=dropNth L i) hw' hst).perm (E7 L i _ _ hL).symm,t'⟩
theorem GX{t:Nat}{φ:Value->HF->Prop}(hs:UM P fv vs h φ)(hf:e t=fv)(hvs:ass.toList.map e.ev=vs)(t':∀v h',h.le h'->φ v h'->K (pute e d v) h' L)(hg:guardB ops e ⟨d,.call ⟨.value (.tmp t),ass,ats⟩,ty,pos,af,g⟩=true:=by rfl):
  Stp P b n ops F ds X ⟨d,.call ⟨.value (.tmp t),ass,ats⟩,ty,pos,af,g⟩ e h L K:=by
 refine Do L [] (List.append_nil L).symm hs hf hvs ?_ ?_ hg
 all_goals grind
end stepsA
theorem Vt{h:HF}{cs:List Value}(ha:At h q cs){i:Int}(hi:0<=i/\i<(cs.length:Int)):At h (q.add (i.toNat*1)) [cs.getD i.toNat .nilFunc]:=by
 obtain⟨cl,T,fz,hb,hs,hc⟩:=ha
 have hlt:i.toNat<cs.length:=by omega
 have h1:i.toNat*1=i.toNat:=Nat.mul_one _
 obtain⟨g,off,sp⟩:=q
 simp only at hs
 subst hs
 have hq:(⟨g,off,none⟩:Addr).add (i.toNat*1)=⟨g,off+i.toNat,none⟩:=by
  rw[h1]
  by_cases e0:i.toNat=0
  .simp[zQ,e0]
  .simp[zQ,e0]
 rw[hq]
 refine⟨cl,T,fz,hb,rfl,λj v hj=>?_⟩
 grind
theorem nv{args:List Value}{h:HF}{R:Ending->HF->LH->Prop}(hc:∀args w,(callFunc f args).run P w=.ok (.enter f args) w)(hs:pJ P f (args++cap).toArray h A R):
  nQ P (.func (.func f) #[] cap.toArray) args.toArray h A R:=by
 intro w hp
 refine⟨.enter f (args++cap).toArray,?_,lq (hs w hp)⟩
 simp[xH,invoke,hc]
def exW{ρ : Type}(pe:Int->Value)(f:ρ->Value):Except Int ρ->Except Value Value
 |.ok r=>.ok (f r)
 |.error e=>.error (pe e)
theorem sn{f:ρ->Value}{x:Except Int ρ}{u:Value}(h:exW pe f x=.ok u):∃r,x=.ok r/\f r=u:=by
 cases x with
 |ok r=>exact⟨r,rfl,by simpa[exW]using h⟩
 |error p=>simp[exW]at h
theorem pz{f:ρ->Value}{x:Except Int ρ}{p:Value}(h:exW pe f x=.error p):∃e,x=.error e/\pe e=p:=by
 cases x with
 |ok r=>simp[exW]at h
 |error q=>exact⟨q,rfl,by simpa[exW]using h⟩
def exi{ρ σ : Type}:Except Int ρ->(ρ->Except Int σ)->Except Int σ
 |.ok r,k=>k r
 |.error p,_=>.error p
theorem xa{x:Except Int ρ}{k:ρ->Except Int σ}{r:ρ}(h:x=.ok r):exi x k=k r:=by subst h;rfl
theorem pV{x:Except Int ρ}{k:ρ->Except Int σ}{p:Int}(h:x=.error p):exi x k=.error p:=by subst h;rfl
theorem j7{args:Array Value}{R:Ending->World->Prop}(h:Calls P f args w R)(hno:∀w',¬R .outgrown w'):tr P f args w R:=by
 intro c cs Φ h1 h2
 obtain⟨e,w',fr,hR,hc,hfn,hl⟩:=h (c::cs)
 cases e with
 |returned v=>
  obtain⟨m',s',p'⟩:=h1 v w' hR
  exact⟨m',(show Steps P _ _ from hc).trans (.head (step_leave_returned hl) s'),p'⟩
 |panicked ch=>
  obtain⟨m',s',p'⟩:=h2 ch w' hR
  exact⟨m',(show Steps P _ _ from hc).trans (.head (step_leave_panicked hl) s'),p'⟩
 |outgrown=>exact(hno _ hR).elim
end
section
def smP(p:aw):Prop:=p.dp.length<=2000000/\(∀r∈p.dp,r.aj.dep<=1500000)/\p.aO.dep<=1500000/\p.aA.length<=2000000/\p.dN.length<=2000000
def smV(l:List aE):Prop:=l.length<=2000000/\∀v∈l,smP v.aw
def smR(r:Register):Prop:=smV r.Versions/\r.dF.length<=2000000/\r.ga.length<=2000000/\r.er.length<=2000000/\r.dH.length<=2000000/\r.cd.length<=2000000/\r.dC.length<=2000000
theorem smP.rules{p:aw}(h:smP p):p.dp.length<=2000000:=h.1
theorem smP.change{p:aw}(h:smP p):p.aO.dep<=1500000:=h.2.2.1
theorem smV.len{l:List aE}(h:smV l):l.length<=2000000:=h.1
theorem smR.vers{r:Register}(h:smR r):smV r.Versions:=h.1
inductive OkX(n:Int):aj->Prop
 |mk (x:aj) (hk:1<=x.Kind/\x.Kind<=4) (hn:x.Kind<=2->0<=x.No/\x.No<n) (hl:x.Kind=4->x.L.length=2) (hs:∀y∈x.L,OkX n y):OkX n x
theorem OkX.kind{n:Int}{x:aj}(h:OkX n x):1<=x.Kind/\x.Kind<=4:=by cases h with|mk _ a=>exact a
theorem OkX.no{n:Int}{x:aj}(h:OkX n x):x.Kind<=2->0<=x.No/\x.No<n:=by cases h with|mk _ _ a=>exact a
theorem OkX.two{n:Int}{x:aj}(h:OkX n x):x.Kind=4->x.L.length=2:=by cases h with|mk _ _ _ a=>exact a
theorem OkX.sub{n:Int}{x:aj}(h:OkX n x):∀y∈x.L,OkX n y:=by cases h with|mk _ _ _ _ a=>exact a
def stopV(e:Int):Value:=.iface 347 (.agg (tq.cells ⟨e⟩).toArray)
def errV(e:Int):Value:=.iface 36 (.int .i64 e)
def kindsC:List Value:=[.func (.func 365) #[] #[],.func (.func 366) #[] #[],.func (.func 367) #[] #[],.func (.func 368) #[] #[],.func (.func 369) #[] #[]]
def kfun(i:Int):Value:=kindsC.getD i.toNat .nilFunc
def dN(h:HF):Prop:=∃T fz,h 0=some (.cells kindsC.toArray T fz)
theorem dN.mono{h h':HF}(k:dN h)(hl:h.le h'):dN h':=let ⟨T,fz,e⟩:=k;⟨T,fz,hl _ _ e⟩
theorem dN.at{h:HF}(k:dN h){i:Int}(hi:0<=i/\i<5):At h ((⟨0,0,none⟩:Addr).add (i.toNat*1)) [kfun i]:=by
 obtain⟨T,fz,e⟩:=k
 rw[oC]
 refine At.HN e (λj v hj=>?_)
 have hj0:j=0:=by
  grind
 subst hj0
 simp at hj
 subst hj
 have:i=0\/i=1\/i=2\/i=3\/i=4:=by omega
 rcases this with rfl|rfl|rfl|rfl|rfl<;>rfl
def VFn(_:HF)(v:Value)(x:Value):Prop:=v=x
theorem VFn.mono:El VFn:=λ_ _ _ _ _ e=>e
theorem ox{κ α : Type}[DecidableEq κ]:∀(m:List (κ×α))(k:κ)(v:α),(mput m k v).length<=m.length+1
 |[],_,_=>by simp[mput]
 |(k',v')::r,k,v=>by
  have:=ox r k v
  simp only[mput]
  split<;>simp<;>omega
theorem TN(h:(s.toList==(⟨#[]⟩:ByteArray).toList)=false):0<s.size:=by
 rcases Nat.eq_zero_or_pos s.size with h0|h0
 .exfalso
  have:s=⟨#[]⟩:=by
   cases s with
   |mk d=>
    have:d=#[]:=Array.eq_empty_of_size_eq_zero h0
    rw[this]
  rw[this]at h;simp at h
 .exact h0
abbrev tG:=fh
abbrev VU:=vO
abbrev tG.cells(x:fh)(r:vO):List Go.Value:=fh.cells x r
structure tG.ok(h:HF)(x:fh)(r:vO):Prop where
 signed:SlC jB h r.co r.cn x.signed
theorem tG.ok.mono{h h':HF}{x:fh}{r:vO}(a:tG.ok h x r)(hl:h.le h'):tG.ok h' x r:=⟨a.signed.mono vH hl⟩
end
variable {Fr:LH}{fn gn:Func}{pv:Go.Value}
section
def deferFrame(f:FuncId):Frame:={ fn:=f,tmps:=#[],todo:=[],defers:=[],mode:=.run,kind:=.deferred,roundOf:=none }
section
variable {P:Program} {f:FuncId} {n:Nat} {k:List Item} {e:Env} {X:Cx} {h:HF} {L:LH} {ops:Array Oper} {l:List Oper} {d:Nat} {ty:TypeId} {pos:String} {af:Array Edge} {g:Option (Nat×Bool)} {ats:Array TypeId}
theorem GM{F F':List Frame->(Machine->Prop)->Prop}(v:Value)(hF:∀cs Φ,F cs Φ->∃cs',recoverD cs=some (v,cs')/\F' cs' Φ)(t:TO P (deferFrame f) n ops l k F' (upd e d v) ds X h L)(hd:Nat.blt d n=true:=by rfl)(hg:guardB ops e ⟨some d,.call ⟨.builtin .recover,#[],ats⟩,ty,pos,af,g⟩=true:=by rfl):
  TO P (deferFrame f) n ops (⟨some d,.call ⟨.builtin .recover,#[],ats⟩,ty,pos,af,g⟩::l) k F e ds X h L:=by
 intro w hw is hi a cs Φ hn he hds hF0
 obtain⟨i,js,rfl,ho,hj⟩:=rq hi
 obtain⟨cs',hrec,hF1⟩:=hF cs Φ hF0
 have hwt:=(gz (ops:=ops) he).trans hg
 have hst:=stepGR_op (P:=P) (b:=deferFrame f) (k:=k) (cs:=cs) (w:=w) (rest:=js) ho hwt
 have hr:(execOp a.eval ⟨some d,.call ⟨.builtin .recover,#[],ats⟩,ty,pos,af,g⟩).run P w=.ok .recover w:=by
  simp[execOp,resolve,invoke,builtin]
 have htr:tryRecover ((deferFrame f).atR a (.inRegion ops (i::js)::k)) cs=some (v,cs'):=by
  rw[tryRecover_deferred (by rfl) cs,hrec]
 have hput:envOf (a.put (some d) v)=upd e d v:=by rw[qz a d v (by rw[hn];exact qi hd),he]
 refine .step (m₁:=lone ((deferFrame f).atR (a.put (some d) v) (.inRegion ops js::k)) cs' w) ?_ (t w hw js hj (a.put (some d) v) cs' Φ (by rw[pM];exact hn) hput (by rw[nn];exact hds) hF1)
 refine step_lone_go ?_
 rw[hst,lA _ _ rfl,←iJ a js k ho v]
 simp[stepG.apply,hr,htr]
 rfl
theorem E5{F:List Frame->(Machine->Prop)->Prop}(hF:∀cs Φ,F cs Φ->recoverD cs=none)(t:TO P (deferFrame f) n ops l k F (upd e d .nilIface) ds X h L)(hd:Nat.blt d n=true:=by rfl)(hg:guardB ops e ⟨some d,.call ⟨.builtin .recover,#[],ats⟩,ty,pos,af,g⟩=true:=by rfl):
  TO P (deferFrame f) n ops (⟨some d,.call ⟨.builtin .recover,#[],ats⟩,ty,pos,af,g⟩::l) k F e ds X h L:=by
 intro w hw is hi a cs Φ hn he hds hF0
 obtain⟨i,js,rfl,ho,hj⟩:=rq hi
 have hrec:=hF cs Φ hF0
 have hwt:=(gz (ops:=ops) he).trans hg
 have hst:=stepGR_op (P:=P) (b:=deferFrame f) (k:=k) (cs:=cs) (w:=w) (rest:=js) ho hwt
 have hr:(execOp a.eval ⟨some d,.call ⟨.builtin .recover,#[],ats⟩,ty,pos,af,g⟩).run P w=.ok .recover w:=by
  simp[execOp,resolve,invoke,builtin]
 have htr:tryRecover ((deferFrame f).atR a (.inRegion ops (i::js)::k)) cs=none:=by
  rw[tryRecover_deferred (by rfl) cs,hrec]
 have hput:envOf (a.put (some d) .nilIface)=upd e d .nilIface:=by rw[qz a d _ (by rw[hn];exact qi hd),he]
 refine .step (m₁:=lone ((deferFrame f).atR (a.put (some d) .nilIface) (.inRegion ops js::k)) cs w) ?_ (t w hw js hj (a.put (some d) .nilIface) cs Φ (by rw[pM];exact hn) hput (by rw[nn];exact hds) hF0)
 refine step_lone_go ?_
 rw[hst,lA _ _ rfl,←iJ a js k ho .nilIface]
 simp[stepG.apply,hr,htr]
 rfl
def I3(P:Program)(X:Cx)(u':FrameMode)(R:HF->LH->Prop)(cs:List Frame)(Φ : Machine->Prop):Prop:=
 ∃c rest,cs=c::rest/\c.mode=u'/\∀w',(∃h' B,St X h' B w'/\R h' B)->To P Φ (lone { c with mode:=settle u' } rest w')
theorem KQ{u':FrameMode}{R:HF->LH->Prop}(hf:P.funcs[f]? = some fn)(hr:fn.results=#[])(hR:R h L):TT P (deferFrame f) n [] (I3 P X u' R) e [] X h L:=by
 intro w hw a cs Φ hn he hds hF
 obtain⟨c,rest,rfl,hm,h1⟩:=hF
 refine .step (stepR_end rfl) ?_
 have hgo:Frame.going P { (deferFrame f).atR a []with mode:=.returning } w (.returned (.tuple #[])):=⟨rfl,hds,fn,hf,nw hr a w⟩
 refine .step (step_going_returned (c:=c) (cs:=rest) rfl hgo) ?_
 rw[hm]
 exact h1 w ⟨h,L,hw,hR⟩
end
section
variable {P:Program} {b:Frame} {n:Nat} {k:List Item} {F:List Frame->(Machine->Prop)->Prop} {e:Env} {ds:List Deferred} {X:Cx} {h:HF} {L:LH} {ops:Array Oper} {l:List Oper} {ty:TypeId} {pos:String} {af:Array Edge} {g:Option (Nat×Bool)}
theorem RV{t:Nat}{fv:Fn}{cap:Array Value}(hro:b.roundOf=none)(hf:e t=.func fv #[] cap)(t':TO P b n ops l k F e ({ target:=.fn fv cap,args:=#[] }::ds) X h L)(hg:guardB ops e ⟨none,.defer ⟨.value (.tmp t),#[],ats⟩,ty,pos,af,g⟩=true:=by rfl):TO P b n ops (⟨none,.defer ⟨.value (.tmp t),#[],ats⟩,ty,pos,af,g⟩::l) k F e ds X h L:=by
 intro w hw is hi a cs Φ hn he hds hF
 obtain⟨i,js,rfl,ho,hj⟩:=rq hi
 have hwt:=(gz (ops:=ops) he).trans hg
 have hst:=stepGR_op (P:=P) (b:=b) (k:=k) (cs:=cs) (w:=w) (rest:=js) ho hwt
 have hr:(execOp a.eval ⟨none,.defer ⟨.value (.tmp t),#[],ats⟩,ty,pos,af,g⟩).run P w=.ok (.defer { target:=.fn fv cap,args:=#[] }) w:=by
  have hev:a.eval (.tmp t)=.func fv #[] cap:=by rw[lH,he];exact hf
  simp[execOp,resolve,hev,xH]
 have hs:Oper.semAt b.roundOf a.eval ⟨none,.defer ⟨.value (.tmp t),#[],ats⟩,ty,pos,af,g⟩=execOp a.eval ⟨none,.defer ⟨.value (.tmp t),#[],ats⟩,ty,pos,af,g⟩:=by rw[hro];rfl
 refine .step (m₁:=lone (b.atR { a with defers:={ target:=.fn fv cap,args:=#[] }::a.defers } (.inRegion ops js::k)) cs w) ?_ (t' w hw js hj { a with defers:={ target:=.fn fv cap,args:=#[] }::a.defers } cs Φ hn he (by rw[hds]) hF)
 refine step_lone_go ?_
 have hfin:=iJ (b:=b) { a with defers:={ target:=.fn fv cap,args:=#[] }::a.defers } js k ho undef
 rw[hst,hs]
 simp only[stepG.apply,Sem.runT_eq,hr,GStep.bare_after]
 exact congrArg (λfr=>GStep.go { frame:=fr,callers:=cs,status:=.running,dying:=none } w) hfin
end
theorem TE{g:FuncId}{h:HF}{L:LH}{R:Ending->HF->LH->Prop}{R':HF->LH->Prop}(hf:P.funcs[f]? = some fn)(hg:P.funcs[g]? = some gn)(hb:gn.body=some c)(hm:gn.ntmps=m)(de:XM cap.length m=true)(hc:∀args w,(callFunc g args).run P w=.ok (.enter g args) w)(t:∀X':Cx,X'.h0=h->TT P (deferFrame g) m [.code c] (I3 P X' .returning R') (envArgs cap) [] X' h A)(hL:L=A++Fr)(fin:∀h' B,h.le h'->R' h' B->∀a:Act,envOf a=e->∀w,St X h' (B++Fr) w->∃v h2 B2,(results fn a.tmps).run P w=.ok v w/\St X h2 B2 w/\R (.returned v) h2 B2):
  TT P (bodyFrame f) n (.code .ret::k) (mV P X R) e [{ target:=.fn (.func g) cap.toArray,args:=#[] }] X h L:=by
 intro w hw a cs Φ hn he hds hF
 obtain⟨cc,cs',rfl,h1,_⟩:=hF
 subst hL
 refine .step (stepR_ret rfl) ?_
 have hinv:(invoke (.fn (.func g) cap.toArray) #[]).run P w=.ok (.enter g cap.toArray) w:=by simp[invoke,hc]
 refine .step (step_defer (fr:={ (bodyFrame f).atR a (.code .ret::k)with mode:=.returning }) (by simp) hds rfl hinv) ?_
 have hle':=qN de
 have henter:kR P g cap.toArray .deferred=(deferFrame g).atR { tmps:=cap.toArray++WL (m-cap.length) undef,defers:=[] } [.code c]:=by
  grind [kR,W6,deferFrame]
 rw[henter]
 refine t ⟨w,h,A.map (·.1)⟩ rfl w (W8 hw.pre.left) _ _ Φ (by simp;omega) (qg _ _) rfl ⟨_,cc::cs',rfl,rfl,?_⟩
 rintro w' ⟨h',B,hst,hR'⟩
 obtain⟨v,h2,B2,hv,hs2,hR⟩:=fin h' B hst.le hR' a he w' (hw.after hst)
 refine .step (jh (fn:=fn) (v:=v) rfl rfl rfl hf hv) ?_
 exact h1 v w' ⟨h2,B2,hs2,hR⟩
theorem TI{g:FuncId}{h:HF}{L:LH}{R:Ending->HF->LH->Prop}{R':HF->LH->Prop}(hf:P.funcs[f]? = some fn)(hg:P.funcs[g]? = some gn)(hb:gn.body=some c)(hm:gn.ntmps=m)(de:XM cap.length m=true)(hc:∀args w,(callFunc g args).run P w=.ok (.enter g args) w)(t:∀X':Cx,X'.h0=h->TT P (deferFrame g) m [.code c] (λcs Φ=>∃c rest,cs=c::rest/\c.mode=.panicking [{ v:=pv,recovered:=false }]/\I3 P X' (.panicking [{ v:=pv,recovered:=true }]) R' ({ c with mode:=.panicking [{ v:=pv,recovered:=true }] }::rest) Φ) (envArgs cap) [] X' h A)(hL:L=A++Fr)(fin:∀h' B,h.le h'->R' h' B->∀a:Act,envOf a=e->∀w,St X h' (B++Fr) w->∃v h2 B2,(results fn a.tmps).run P w=.ok v w/\St X h2 B2 w/\R (.returned v) h2 B2):
  TP P (bodyFrame f) n [{ v:=pv,recovered:=false }] (mV P X R) e [{ target:=.fn (.func g) cap.toArray,args:=#[] }] X h L:=by
 intro w hw a cs Φ todo hn he hds hF
 obtain⟨cc,cs',rfl,h1,_⟩:=hF
 subst hL
 have hinv:(invoke (.fn (.func g) cap.toArray) #[]).run P w=.ok (.enter g cap.toArray) w:=by simp[invoke,hc]
 refine .step (step_defer (fr:={ (bodyFrame f).atR a todo with mode:=.panicking [{ v:=pv,recovered:=false }] }) (by simp) hds rfl hinv) ?_
 have hle':=qN de
 have henter:kR P g cap.toArray .deferred=(deferFrame g).atR { tmps:=cap.toArray++WL (m-cap.length) undef,defers:=[] } [.code c]:=by
  grind [kR,W6,deferFrame]
 rw[henter]
 refine t ⟨w,h,A.map (·.1)⟩ rfl w (W8 hw.pre.left) _ _ Φ (by simp;omega) (qg _ _) rfl ⟨_,cc::cs',rfl,rfl,_,cc::cs',rfl,rfl,?_⟩
 rintro w' ⟨h',B,hst,hR'⟩
 obtain⟨v,h2,B2,hv,hs2,hR⟩:=fin h' B hst.le hR' a he w' (hw.after hst)
 refine .step (jh (fn:=fn) (v:=v) rfl rfl rfl hf hv) ?_
 exact h1 v w' ⟨h2,B2,hs2,hR⟩
end
variable {assign body:Code}{clock:Nat}{es:Array MapEntry}{g:Operand}{it:Go.Value}{ps:List Tmp}{seen:Array Nat}{α:Type}
section
section steps
variable {P:Program} {b:Frame} {n:Nat} {ops:Array Oper} {F:List Frame->(Machine->Prop)->Prop} {e:Env} {ds:List Deferred} {X:Cx} {h:HF} {L:LH} {K:Env->HF->LH->Prop}
variable {d:Option Nat} {ty:TypeId} {pos:String} {af:Array Edge} {g:Option (Nat×Bool)}
theorem KZ{t T:TypeId}(hT:P.underlying t=some (.map T E))(hb:h bk=some (.map es clock))(hx:e.ev x=.map (some bk))(t':∀it,K (pute e d (.pointer (some ⟨it,0,none⟩))) h ((it,.mapIter (some bk) clock #[] clock)::L))(hg:guardB ops e ⟨d,.range t x,ty,pos,af,g⟩=true:=by rfl):Stp P b n ops F ds X ⟨d,.range t x,ty,pos,af,g⟩ e h L K:=
 iM hg λw hw=>⟨_,_,h,_,by simp[execOp,Instr.range,hx,run_underlying hT,sK (hw.imm _ _ hb)],hw.alloc _,t' _⟩
theorem Ok(i:Nat){it since c0:Nat}(hL:nth L i=some (it,.mapIter (some bk) since seen c0))(hb:h bk=some (.map es clock))(hold:∀x∈es.toList,x.born<since)(hsc:since<=c0)(hx:e.ev x=.pointer (some ⟨it,0,none⟩))(no:(leftOf es seen).size=0->K (pute e d (.tuple #[.bool false])) h L)(yes:∀en∈(leftOf es seen).toList,K (pute e d (.tuple #[.bool true,en.key,en.val])) h (setNth L i (it,.mapIter (some bk) since (seen.push en.born) clock)))(hg:guardB ops e ⟨d,.next x false,ty,pos,af,g⟩=true:=by rfl):Stp P b n ops F ds X ⟨d,.next x false,ty,pos,af,g⟩ e h L K:=by
 refine iM hg λw hw=>?_
 have hit:w.heap[it]? = some (.mapIter (some bk) since seen c0):=by
  have h2:=hL
  rw[i9]at h2
  exact hw.own _ (xE h2)
 rcases run_next_at (P:=P) w ty it bk since c0 seen es clock hit (hw.imm _ _ hb) hold hsc with⟨h0,hr⟩|⟨en,hen,w1,hw1,hr⟩
 .exact⟨_,w,h,L,by simp[execOp,hx,hr],hw,no h0⟩
 .have hw1':St X h L w1:=by
   rcases hw1 with rfl|rfl
   .exact hw
   .exact hw.drew _
  exact⟨.tuple #[.bool true,en.key,en.val],{ w1 with heap:=w1.heap.setIfInBounds it (.mapIter (some bk) since (seen.push en.born) clock) },h,_,by simp[execOp,hx,hr];rfl,hw1'.write hL _,yes en hen⟩
theorem Ld(i:Nat){it since:Nat}{en:MapEntry}(hL:nth L i=some (it,.mapIter (some bk) since (seen.push en.born) clock))(hb:h bk=some (.map es clock))(he:en∈es.toList)(hn:(es.toList.map (·.born)).Nodup)(hx:e.ev x=.pointer (some ⟨it,0,none⟩)):
  ∀w,St X h L w->(execOp e.ev ⟨d,.entry x,ty,pos,af,g⟩).run P w=.ok (.value (.tuple #[en.key,en.val])) w:=λw hw=>by
 have hit:w.heap[it]? = some (.mapIter (some bk) since (seen.push en.born) clock):=by
  have h2:=hL
  rw[i9]at h2
  exact hw.own _ (xE h2)
 have:=run_entry_at (P:=P) w it bk since seen es clock en hit (hw.imm _ _ hb) he hn
 simp[execOp,hx,this]
end steps
def I2{α : Type}(P:Program)(it:Value)(val:α->HF->List Value->Prop)(S:List α->Prop)(h:HF):Prop:=
 ∃(f0:FuncId)(cap:List Value),it=.func (.func f0) #[] cap.toArray/\(∀args w,(callFunc f0 args).run P w=.ok (.enter f0 args) w) /\
  ∀(yf:Fn)(ya yb:Array Value)(C:List α->HF->LH->Prop)(Sp:HF->LH->Prop)(Pn:List PanicEntry->HF->LH->Prop)(h':HF)(A:LH),h.le h' ->
   (∀done h1 h2 B,xJ h1 h2->C done h1 B->C done h2 B)->(∀h1 h2 B,xJ h1 h2->Sp h1 B->Sp h2 B)->(∀ch h1 h2 B,xJ h1 h2->Pn ch h1 B->Pn ch h2 B)->C [] h' A ->
   (∀done x vs h'' B,(∃rest,S (done++x::rest))->h'.le h''->C done h'' B->val x h'' vs->nQ P (.func yf ya yb) vs.toArray h'' B (YR C Sp Pn done x)) ->
   nQ P it #[.func yf ya yb] h' A (λr h2 B=>(r=.returned (.tuple #[])/\((∃xs,S xs/\C xs h2 B)\/Sp h2 B))\/∃ch,r=.panicked ch/\Pn ch h2 B)
theorem JV{F:List Frame->(Machine->Prop)->Prop}{h:HF}{L:LH}{val:α->HF->List Value->Prop}{S:List α->Prop}(I:List α->HF->LH->Prop)(J:Code->HF->LH->Prop)(Pn:List PanicEntry->HF->LH->Prop)(hgv:e.ev g=it)(hit:I2 P it val S h)(hps:ps.all (λp=>zJ p n)=true)(hval:∀x h vs,val x h vs->vs.length=ps.length)(hIm:∀done h1 h2 B,xJ h1 h2->I done h1 B->I done h2 B)(hJm:∀c h1 h2 B,xJ h1 h2->J c h1 B->J c h2 B)(hPm:∀ch h1 h2 B,xJ h1 h2->Pn ch h1 B->Pn ch h2 B)(h0:I [] h L)(round:∀l r lp done x vs h' L' X',(∃rest,S (done++x::rest))->h.le h'->I done h' L'->val x h' vs->lp.state=.ready->X'.h0=h'->(∀b∈X'.M,b<X'.w0.heap.size) ->
   TT P (roundFrame l f) n [.code assign,.beginRound,.code body] (mV P X' (RdR l r lp I J Pn done x)) (setParams e ps vs) [] X' h' ((l,.loop lp)::(r,.deferred (some []))::L'))(next:∀r xs h' L',S xs->h.le h'->I xs h' L'->TT P (bodyFrame f) n k F e ({ target:=.collected r,args:=#[] }::ds) X h' ((r,.deferred (some []))::L'))(jump:∀r c h' L',h.le h'->J c h' L'->TT P (bodyFrame f) n (.code c::k) F e ({ target:=.collected r,args:=#[] }::ds) X h' ((r,.deferred (some []))::L'))(pan:∀r ch h' L',h.le h'->Pn ch h' L'->TP P (bodyFrame f) n ch F e ({ target:=.collected r,args:=#[] }::ds) X h' ((r,.deferred (some []))::L')):
  TT P (bodyFrame f) n (.code (.rangeFunc g ps.toArray assign body)::k) F e ds X h L:=by
 obtain⟨f0,cap,rfl,hc0,hit⟩:=hit
 intro w hw a cs Φ hn he hds hF
 let r:=w.heap.size
 let w1:World:={ w with heap:=w.heap.push (.deferred (some [])) }
 have hw1:St X h ((r,.deferred (some []))::L) w1:=hw.alloc _
 let l:=w1.heap.size
 let lp:Loop:={ state:=.ready,pending:=none,fn:=f,tmps:=a.tmps,params:=ps.toArray,assign,body,defers:=r }
 let w2:World:={ w1 with heap:=w1.heap.push (.loop lp) }
 have hw2:St X h ((l,.loop lp)::(r,.deferred (some []))::L) w2:=hw1.alloc _
 have henter:(XU (bodyFrame f).fn a.tmps ps.toArray assign body (bodyFrame f).roundOf).run P w=.ok (l,[{ target:=.collected r,args:=#[] }]) w2:=by
  simp[XU,bodyFrame,r,l,lp,w2,w1]
 let C:List α->HF->LH->Prop:=λdone h' B=>∃L',B=(l,.loop lp)::(r,.deferred (some []))::L'/\I done h' L'
 let Sp:HF->LH->Prop:=λh' B=>∃c L',B=(l,.loop { lp with state:=.done,pending:=some c })::(r,.deferred (some []))::L'/\J c h' L'
 let Pm:List PanicEntry->HF->LH->Prop:=λch h' B=>∃lp' L',B=(l,.loop lp')::(r,.deferred (some []))::L'/\Pn ch h' L'
 have hps':∀p∈ps,p<n:=λp hp=>qi (jM.1 hps p hp)
 have hy:∀done x vs h'' B,(∃rest,S (done++x::rest))->h.le h''->C done h'' B->val x h'' vs->nQ P (.func (.yield l) #[] #[]) vs.toArray h'' B (YR C Sp Pm done x):=by
  rintro done x vs h'' B hxs de ⟨L',rfl,hI⟩ hv
  refine nQ.mono (R:=RdR l r lp I J Pn done x) (Ag (i:=0) (lp:=lp) rfl (by simp[lp];exact hval x h'' vs hv) ?_) ?_
  .intro X' _ hX' hXM'
   have henv:envOf { tmps:=(ps.toArray.zip vs.toArray).foldl (λtmps p=>tmps.setIfInBounds p.1 p.2) a.tmps,defers:=[] }=setParams e ps vs:=by
    have:=ue ps vs a.tmps a.defers hn hps'
    rw[←he]
    rw[←XZ]
    simpa using this
   grind
  .rintro x' h3 B' _ (⟨e1,L2,e2,h2⟩|⟨e1,c,L2,e2,h2⟩|⟨ch,e1,lp',L2,e2,h2⟩)
   .exact .inl ⟨e1,L2,e2,h2⟩
   .exact .inr (.inl ⟨e1,c,L2,e2,h2⟩)
   .exact .inr (.inr ⟨ch,e1,lp',L2,e2,h2⟩)
 have hs:=hit (.yield l) #[] #[] C Sp Pm h ((l,.loop lp)::(r,.deferred (some []))::L) (kH h) (λ_ _ _ _ hl⟨L',e1,hi⟩=>⟨L',e1,hIm _ _ _ _ hl hi⟩) (λ_ _ _ hl⟨c,L',e1,hi⟩=>⟨c,L',e1,hJm _ _ _ _ hl hi⟩) (λ_ _ _ _ hl⟨lp',L',e1,hi⟩=>⟨lp',L',e1,hPm _ _ _ _ hl hi⟩) ⟨L,rfl,h0⟩ hy
 obtain⟨nx,hrun,hcall⟩:=hs w2 hw2.pre
 have hev:a.eval g=e.ev g:=by rw[lH,he]
 have hnx:nx=.enter f0 (kQ (.yield l) #[] #[]::cap).toArray:=by
  grind [xH,invoke]
 subst hnx
 have hres:(resolve a.eval (rangeCall g l) 0).run P w2=.ok { target:=.fn (.func f0) cap.toArray,args:=#[.func (.yield l) #[] #[]] } w2:=by
  have hcst:∀v,a.eval (.const v)=v:=λ_=>rfl
  simp[resolve,rangeCall,hev,hgv,hcst,xH]
 have hinv:(invoke (.fn (.func f0) cap.toArray) #[.func (.yield l) #[] #[]]).run P w2=.ok (.enter f0 (kQ (.yield l) #[] #[]::cap).toArray) w2:=by
  simp[invoke,hc0]
 have hback:∀v w3,(∃h' B,St ⟨w2,h,((l,Obj.loop lp)::(r,.deferred (some []))::L).map (·.1)⟩ h' B w3/\(λ(r:Ending)(h2:HF)(B:LH)=>(r=.returned (.tuple #[])/\((∃xs,S xs/\C xs h2 B)\/Sp h2 B))\/∃ch,r=.panicked ch/\Pm ch h2 B) (.returned v) h' B) ->
   To P Φ (lone (((bodyFrame f).atR { a with defers:=[{ target:=.collected r,args:=#[] }]++a.defers } (.inRangeFunc l::k)).finish v) cs w3):=by
  rintro v w3 ⟨h',B,hst,hR⟩
  rw[finish_atR_inRangeFunc]
  have hS3:St X h' B w3:=by
   have:=Xd (A:=(l,.loop lp)::(r,.deferred (some []))::L) (F:=[]) (by simpa using hw2) hst
   simpa using this
  have de:=hst.le
  rcases hR with⟨_,hCS⟩|⟨ch,hx,_⟩
  .rcases hCS with⟨xs,hxs,L',rfl,hI⟩|⟨c,L',rfl,hJ⟩
   .have hb:w3.heap[l]? = some (.loop lp):=hS3.own _ (vB ..)
    have hend:(WT l).run P w3=.ok none { w3 with heap:=w3.heap.setIfInBounds l (.loop { lp with state:=.exhausted }) }:=by
     simp[WT,Xk,getObj,setObj,Ya,hb,lp]
    refine .step (stepR_endRangeFunc hend) ?_
    have hS4:=hS3.write (i:=0) rfl (.loop { lp with state:=.exhausted })
    exact next r xs h' L' hxs de hI _ (hS4.sub (jS ..)) { a with defers:={ target:=.collected r,args:=#[] }::a.defers } cs Φ hn he (by rw[hds]) hF
   .have hb:w3.heap[l]? = some (.loop { lp with state:=.done,pending:=some c }):=hS3.own _ (vB ..)
    have hend:(WT l).run P w3=.ok (some c) { w3 with heap:=w3.heap.setIfInBounds l (.loop { lp with state:=.exhausted,pending:=some c }) }:=by
     simp[WT,Xk,getObj,setObj,Ya,hb,lp]
    refine .step (stepR_endRangeFunc hend) ?_
    have hS4:=hS3.write (i:=0) rfl (.loop { lp with state:=.exhausted,pending:=some c })
    exact jump r c h' L' de hJ _ (hS4.sub (jS ..)) { a with defers:={ target:=.collected r,args:=#[] }::a.defers } cs Φ hn he (by rw[hds]) hF
  .cases hx
 have hraise:∀ch w3,(∃h' B,St ⟨w2,h,((l,Obj.loop lp)::(r,.deferred (some []))::L).map (·.1)⟩ h' B w3/\(λ(r:Ending)(h2:HF)(B:LH)=>(r=.returned (.tuple #[])/\((∃xs,S xs/\C xs h2 B)\/Sp h2 B))\/∃ch,r=.panicked ch/\Pm ch h2 B) (.panicked ch) h' B) ->
   To P Φ (lone (((bodyFrame f).atR { a with defers:=[{ target:=.collected r,args:=#[] }]++a.defers } (.inRangeFunc l::k)).raise ch) cs w3):=by
  rintro ch w3 ⟨h',B,hst,hR⟩
  have hS3:St X h' B w3:=by
   have:=Xd (A:=(l,.loop lp)::(r,.deferred (some []))::L) (F:=[]) (by simpa using hw2) hst
   simpa using this
  rcases hR with⟨hx,_⟩|⟨ch',hx,lp',L',rfl,hP⟩
  .cases hx
  .cases hx
   exact pan r ch h' L' hst.le hP w3 (hS3.sub (jS ..)) { a with defers:={ target:=.collected r,args:=#[] }::a.defers } cs Φ _ hn he (by rw[hds]) hF
 refine .step (stepR_rangeFunc henter hres hinv) ?_
 exact hcall _ cs Φ hback hraise
theorem AK{es:List MapEntry}(hn:(es.map (·.born)).Nodup)(is:List Nat)(hlt:∀i∈is,i<es.length):
  ((leftOf es.toArray (is.map λi=>(es[i]?.map (·.born)).getD 0).toArray).size=0->∀i,i<es.length->i∈is) /\
  ∀en∈(leftOf es.toArray (is.map λi=>(es[i]?.map (·.born)).getD 0).toArray).toList,∃i,es[i]? = some en/\i∉is:=by
 have hmem:∀en,en∈(leftOf es.toArray (is.map λi=>(es[i]?.map (·.born)).getD 0).toArray).toList↔en∈es/\en.born∉is.map λi=>(es[i]?.map (·.born)).getD 0:=by
  intro en
  simp[leftOf]
 constructor
 .intro h0 i hi
  apply Classical.byContradiction
  intro hni
  have:es[i]∈(leftOf es.toArray (is.map λi=>(es[i]?.map (·.born)).getD 0).toArray).toList:=by
   rw[hmem]
   refine⟨List.getElem_mem hi,λhm=>?_⟩
   obtain⟨j,hj,hje⟩:=qJ.1 hm
   have hjl:=hlt j hj
   simp only[List.getElem?_eq_getElem hjl,Option.map_some,Option.getD_some]at hje
   have:j=i:=by
    have h1:(es.map (·.born))[j]? = (es.map (·.born))[i]?:=by simp[List.getElem?_eq_getElem hjl,List.getElem?_eq_getElem hi,hje]
    exact(List.getElem?_inj (by simpa using hjl) hn).1 h1
   exact hni (this▸hj)
  grind
 .intro en hen
  rw[hmem]at hen
  obtain⟨i,hi,rfl⟩:=List.mem_iff_getElem.1 hen.1
  grind
end
variable {xs:List α}
section
section
variable {P:Program} {b:Frame} {n:Nat} {k:List Item} {F:List Frame->(Machine->Prop)->Prop} {e:Env} {ds:List Deferred} {X:Cx} {h:HF} {L:LH}
end
theorem QB{F:List Frame->(Machine->Prop)->Prop}{h:HF}{L:LH}{val:α->HF->List Value->Prop}(rs:List Nat)(hh:ι->HF)(LL:ι->LH)(I:List α->ι->Prop)(JR:ι->Prop)(xid:Nat)(Q:List PanicEntry->HF->LH->Prop)(i₀ : ι)(hf:P.funcs[f]? = some fn)(hgv:e.ev g=it)(hit:Itr P it val xs h)(hps:ps.all (λp=>zJ p n)=true)(hval:∀x h vs,val x h vs->vs.length=ps.length)(hQm:∀ch h1 h2 B,xJ h1 h2->Q ch h1 B->Q ch h2 B)(hh0:hh i₀=h)(hL0:L=LL i₀)(h0:I xs i₀)(round:∀(l r:Nat)(lp:Loop)(x:α)(rest:List α)(vs:List Value)(i:ι)(h':HF)(X':Cx)(FR:List Frame->(Machine->Prop)->Prop),I (x::rest) i->h.le h'->(hh i).le h'->val x h' vs->X'.h0=h'->(∀b∈X'.M,b<X'.w0.heap.size)->lp.state=.ready ->
   (∀i' e' h2,I rest i'->(hh i').le h2->TT P (roundFrame l f) n [] FR e' [] X' h2 (rdH l r lp (LL i'++markB rs))) ->
   (∀i' e' h2 k',JR i'->(hh i').le h2->TT P (roundFrame l f) n (.code .ret::k') FR e' [] X' h2 (rdH l r lp (LL i'++markB rs))) ->
   (∀i' e' h2 k',I [] i'->(hh i').le h2->exitTo xid k'=none->TT P (roundFrame l f) n (.code (.exit xid)::k') FR e' [] X' h2 (rdH l r lp (LL i'++markB rs))) ->
   (∀ch e' h' L',Q ch h' L'->TP P (roundFrame l f) n ch FR e' [] X' h' (rdH l r lp (L'++markB rs))) ->
   TT P (roundFrame l f) n [.code assign,.beginRound,.code body] FR (setParams e ps vs) [] X' h' ((l,.loop lp)::(r,.deferred (some []))::(LL i++markB rs)))(next:∀r i h',I [] i->(hh i).le h'->h.le h'->TT P (bodyFrame f) n k F e (marks (r::rs)) X h' (LL i++markB (r::rs)))(jret:∀r i h',JR i->(hh i).le h'->h.le h'->TT P (bodyFrame f) n (.code .ret::.inBlock xid::k) F e (marks (r::rs)) X h' (LL i++markB (r::rs)))(pan:∀r ch h' L',Q ch h' L'->h.le h'->TP P (bodyFrame f) n ch F e (marks (r::rs)) X h' (L'++markB (r::rs))):
  TT P (bodyFrame f) n (.code (.rangeFunc g ps.toArray assign body)::.inBlock xid::k) F e (marks rs) X h (L++markB rs):=
 j9 rs hh LL I JR (λi=>I [] i) xid Q i₀ hf hgv hit hps hval hQm hh0 hL0 h0 round (λr i h' a b c=>fW (next r i h' a b c)) jret
  (λr i h' a b c=>kW (by simp[exitTo]) (next r i h' a b c)) pan
section mputs
variable {κ α : Type} [DecidableEq κ]
end mputs
end
variable {G:LH}{base:Option Addr}{ch:Operand}{dir:ChanDir}{i vx:Nat}{z:Go.Value}
section
section grow
variable {α : Type} {R:Rp α} {E:TypeId} {h:HF} {xs:List α} {base:Option Addr} {cap:Nat} {G:LH}
theorem cN.yg(hG:cN R E h xs base cap G)(hne:0<xs.length):∃bk,base=some ⟨bk,0,none⟩:=by
 rcases hG with⟨rfl,_⟩|⟨bk,_,_,e,_⟩
 .simp at hne
 .exact⟨bk,e⟩
theorem cN.bnd(hG:cN R E h xs base cap G):xs.length<=9223372036854775807:=by
 rcases hG with⟨rfl,_⟩|⟨bk,cl,sp,_,_,_,_,h5,_⟩
 .simp
 .exact h5
theorem cN.Vp(hG:cN R E h xs base cap G):xs.length<=cap:=by
 rcases hG with⟨rfl,_⟩|⟨bk,cl,sp,_,_,_,h4,_⟩
 .simp
 .exact h4
theorem cS.split:∀{xs ys:List α}{cl:List Value},cS R h cl (xs++ys)->∃a b,cl=a++b/\cS R h a xs/\cS R h b ys
 |[],ys,cl,hc=>⟨[],cl,rfl,rfl,hc⟩
 |x::xs,ys,cl,⟨cs,rest,e,hl,hr,hc⟩=>by
  obtain⟨a,b,rfl,h1,h2⟩:=cS.split hc
  exact⟨cs++a,b,by rw[e,jE],⟨cs,a,rfl,hl,hr,h1⟩,h2⟩
theorem cN.take(hG:cN R E h xs base cap G)(k:Nat):cN R E h (xs.take k) base cap G:=by
 rcases hG with⟨rfl,rfl,rfl,rfl⟩|⟨bk,cl,sp,e,hc,h3,h4,h5,rfl⟩
 .rw[List.take_nil];exact cN.nil
 .rw[←List.take_append_drop k xs]at hc
  obtain⟨a,b,rfl,h1,h2⟩:=cS.split hc
  refine .inr ⟨bk,a,b++sp,e,h1,by rw[←jE];exact h3,?_,?_,by rw[jE]⟩
  all_goals grind
end grow
section runs
variable {P:Program} {e:Env} {X:Cx} {h:HF} {L:LH} {d:Option Nat} {ty:TypeId} {pos:String} {af:Array Edge} {g:Option (Nat×Bool)}
variable {α : Type} {R:Rp α} {E:TypeId} {xs:List α} {base:Option Addr} {cap bk:Nat} {G:LH}
theorem nY{t:TypeId}{z:Int}(hT:P.underlying t=some (.slice E))(hS:tySz P E=some (R.sz,a))(hb:base=some ⟨bk,0,none⟩)(hz:0<=z/\z<(xs.length:Int))(hx:e.ev x=.slice base m cap)(hm:m=xs.length)(hix:e.ev ix=.int .i64 z):∀w,St X h L w->(execOp e.ev ⟨d,.indexAddr t x ix,ty,pos,af,g⟩).run P w=.ok (.value (.pointer (some ⟨bk,z.toNat*R.sz,none⟩))) w:=by
 subst hb hm
 have hzz:z=(z.toNat:Int):=by omega
 rw[hzz]at hix
 intro w hw
 rw[HK hT hS hx hix (by omega) w hw,oC]
theorem Fg{t:TypeId}{y:α}{h0:HF}(hT:tySz P t=some (m,false))(hG:cN R E h0 xs base cap G)(hb:base=some ⟨bk,0,none⟩)(hi:xs[i]? = some y)(hv:∀cs,R.rep h0 cs y->nth cs off=some v)(hx:e.ev x=.pointer (some ⟨bk,i*R.sz+off,none⟩))(hm:∀p∈G,p∈L):∀w,St X h L w->(execOp e.ev ⟨d,.load t x,ty,pos,af,g⟩).run P w=.ok (.value v) w:=by
 rcases hG with⟨rfl,_⟩|⟨bk',cl,sp,e1,hc,_,_,_,rfl⟩
 .simp at hi
 .rw[hb]at e1
  cases e1
  obtain⟨cs,hl,hr,hcell⟩:=hc.get i y hi
  have hv':=hv cs hr
  rw[i9]at hv'
  have h9:=hcell off v hv'
  refine vX hT hx (hm _ (List.mem_singleton.2 rfl)) ?_
  grind [i9]
end runs
theorem yW(a b:List α)(i:Nat)(x:α)(hi:i<a.length):setNth (a++b) i x=setNth a i x++b:=by grind [po]
theorem Ex(a b:List α)(i:Nat)(x:α):setNth (a++b) (a.length+i) x=a++setNth b i x:=by grind [po]
theorem cS.set{α : Type}{R:Rp α}{h:HF}{off:Nat}{v:Value}{y y':α}(ho:off<R.sz)(hrep:∀cs,R.rep h cs y->R.rep h (setNth cs off v) y'):
  ∀{xs:List α}{cl:List Value}(i:Nat),cS R h cl xs->xs[i]? = some y->cS R h (setNth cl (i*R.sz+off) v) (xs.set i y')
 |x::xs,cl,0,⟨cs,rest,e,hl,hr,hc⟩,hi=>by
  simp at hi
  subst hi
  rw[e,Nat.zero_mul,Nat.zero_add,yW _ _ _ _ (by omega)]
  exact⟨setNth cs off v,rest,rfl,by rw[sB];exact hl,hrep cs hr,hc⟩
 |x::xs,cl,i+1,⟨cs,rest,e,hl,hr,hc⟩,hi=>by
  have ih:=cS.set ho hrep i hc (by simpa using hi)
  rw[e,show(i+1)*R.sz+off=cs.length+(i*R.sz+off)from by rw[hl,Nat.add_mul];omega,Ex]
  exact⟨cs,_,rfl,hl,hr,ih⟩
 |[],_,_,_,hi=>by simp at hi
section steps
variable {P:Program} {b:Frame} {n:Nat} {ops:Array Oper} {F:List Frame->(Machine->Prop)->Prop} {e:Env} {ds:List Deferred} {X:Cx} {h:HF} {L:LH} {K:Env->HF->LH->Prop}
variable {d:Option Nat} {ty:TypeId} {pos:String} {af:Array Edge} {g:Option (Nat×Bool)}
variable {α : Type} {R:Rp α} {E:TypeId} {xs:List α} {base:Option Addr} {cap bk:Nat}
theorem uT(A G Q:LH){t:TypeId}{u u':α}(hT:tySz P t=some (m,a))(hm:m=1)(hG:cN R E h xs base cap G)(hL:L=A++(G++Q))(hb:base=some ⟨bk,0,none⟩)(hi:xs[i]? = some u)(ho:off<R.sz)(hrep:∀cs,R.rep h cs u->R.rep h (setNth cs off v) u')(hx:e.ev x=.pointer (some ⟨bk,i*R.sz+off,none⟩))(hv:vcells (e.ev y)=[v])(h1:one v=true)(t':∀G',cN R E h (xs.set i u') base cap G'->K e h (A++(G'++Q)))(hg:guardB ops e ⟨none,.store t x y,ty,pos,af,g⟩=true:=by rfl):Stp P b n ops F ds X ⟨none,.store t x y,ty,pos,af,g⟩ e h L K:=by
 subst hL hm
 rcases hG with⟨rfl,_⟩|⟨bk',cl,sp,e1,hc,h3,h4,h5,rfl⟩
 .simp at hi
 .have e2:=e1
  rw[hb]at e2
  cases e2
  have hlen:=hc.len
  have hil:i<xs.length:=by
   all_goals grind
  have hlt:i*R.sz+off<cl.length:=by
   rw[hlen]
   have:=Nat.mul_le_mul_right R.sz (show i+1<=xs.length from hil)
   rw[Nat.add_mul]at this;omega
  have hnth:nth (A++([(bk,jG (cl++sp).toArray E (0,0))]++Q)) A.length=some (bk,.cells (cl++sp).toArray E (0,0)):=Lr A _ Q
  refine lM A.length hT hx hnth hv rfl (by simp;omega) (by simp[h1]) ?_ hg
  have hs:splice (cl++sp) (i*R.sz+off) [v]=setNth cl (i*R.sz+off) v++sp:=by
   grind [splice,yW]
  rw[hs]
  have hset:=Cz A (bk,jG (cl++sp).toArray E (0,0)) (bk,jG (setNth cl (i*R.sz+off) v++sp).toArray E (0,0)) Q
  show K e h (setNth (A++(bk,jG (cl++sp).toArray E (0,0))::Q) A.length _)
  rw[hset]
  refine t' [(bk,.cells (setNth cl (i*R.sz+off) v++sp).toArray E (0,0))] (.inr ⟨bk,setNth cl (i*R.sz+off) v,sp,e1,cS.set ho hrep i hc hi,?_,?_,?_,rfl⟩)
  all_goals grind [sB]
theorem MI{t:TypeId}{hi:Operand}{z:Int}(hT:P.underlying t=some (.slice E))(hS:tySz P E=some (R.sz,a))(hG:cN R E h xs base cap G)(hz:0<=z/\z<=(xs.length:Int))(hx:e.ev x=.slice base m cap)(hm:m=xs.length)(hhi:e.ev hi=.int .i64 z)(t':K (pute e d (.slice base (xs.take z.toNat).length cap)) h L)(hg:guardB ops e ⟨d,.slice t x none (some hi) none,ty,pos,af,g⟩=true:=by rfl):Stp P b n ops F ds X ⟨d,.slice t x none (some hi) none,ty,pos,af,g⟩ e h L K:=by
 subst hm
 have hcap:=hG.Vp
 have hz2:0<=z/\z<=(cap:Int):=by omega
 have hl:z.toNat=(xs.take z.toNat).length:=by simp;omega
 refine eG (v:=.slice base (xs.take z.toNat).length cap) (λw hw=>?_) t' hg
 rw[←hl]
 by_cases h0:cap=0
 .have hz0:z=0:=by omega
  subst hz0
  simp[execOp,Instr.sliceAt,Instr.slice,Instr.sliceBounds,Instr.sliceBound,hx,hhi,asIntOf,run_underlying hT,fV hS,hz2,h0]
 .simp[execOp,Instr.sliceAt,Instr.slice,Instr.sliceBounds,Instr.sliceBound,hx,hhi,asIntOf,run_underlying hT,fV hS,hz2,h0,zQ]
theorem Dp(A G Q:LH)(hc:∀args w,(callFunc f args).run P w=.ok (.enter f args) w)(hm:R.Mono)(hG:cN R E h xs base cap G)(hL:L=A++(G++Q))(hs:∀h1,h.le h1->SlC R h1 base cap xs->Ret P f vs h1 v)(hvs:ass.toList.map e.ev=vs)(t':K (pute e d v) h L)(hg:guardB ops e ⟨d,.call ⟨.value (.func f),ass,ats⟩,ty,pos,af,g⟩=true:=by rfl):
  Stp P b n ops F ds X ⟨d,.call ⟨.value (.func f),ass,ats⟩,ty,pos,af,g⟩ e h L K:=by
 unfold Stp
 rw[if_pos hg]
 intro w hw
 have harr:ass.map e.ev=vs.toArray:=xS (by simp[←hvs])
 have hr:(execOp e.ev ⟨d,.call ⟨.value (.func f),ass,ats⟩,ty,pos,af,g⟩).run P w=.ok (.enter f vs.toArray) w:=by
  simp[execOp,resolve,XQ,xH,invoke,harr,hc]
 rw[hr]
 have back:∀(h1:HF),h.le h1->(∀bk o,h1 bk=some o->w.heap[bk]? = some o)->SlC R h1 base cap xs->zf P b n ops F ds X ⟨d,.call ⟨.value (.func f),ass,ats⟩,ty,pos,af,g⟩ e K (.ok (.enter f vs.toArray) w):=by
  intro h1 de himm hsl
  have hp1:Pre h1 [] w:=⟨himm,λ_ hp=>(kA hp).elim,WH,λ_ hp=>(kA hp).elim⟩
  refine mO (by simp) (lq (tr.mono (hs h1 de hsl w hp1) ?_))
  rintro x w' ⟨h',B,hst,rfl,rfl,rfl⟩
  refine⟨h,L,⟨hst.os.trans hw.os,hst.tape.trans hw.tape,hst.output.trans hw.output,kL hw.size hst.size,λb' hb' hM=>?_,hw.le,hw.old,λb' o hb'=>?_,λp hp=>?_,hw.dis,hw.free,hw.new⟩,t'⟩
  .rw[hst.keep b' (Xx hb' hw.size) (by simp)];exact hw.keep b' hb' hM
  .rw[hst.keep b' (iw (hw.imm b' o hb')) (by simp)];exact hw.imm b' o hb'
  .rw[hst.keep p.1 (iw (hw.own p hp)) (by simp)];exact hw.own p hp
 rcases hG with⟨rfl,rfl,rfl,rfl⟩|⟨bk,cl,sp,rfl,hcl,h3,h4,h5,rfl⟩
 .exact back h (kH h) hw.imm SlC.nil
 .have hmem:(bk,jG (cl++sp).toArray E (0,0))∈L:=by rw[hL];simp
  have de:h.le (h.add bk (.cells (cl++sp).toArray E (0,0))):=HF.yE (hw.free _ hmem)
  refine back _ de (λk o hk=>?_) ⟨cS.slB (hcl.mono hm de) (HF.tj _ _ _) h5,h4⟩
  unfold HF.add at hk
  by_cases e0:k=bk
  .subst e0;simp at hk;subst hk;exact hw.own _ hmem
  .rw[if_neg e0]at hk;exact hw.imm k o hk
theorem R7{t E:TypeId}{sz:Operand}(hT:P.underlying t=some (.chan dir E))(hby:bytesOf P E=some vx)(hsz:e.ev sz=.int .i64 (m:Nat))(hm:m<=1000000000)(hb:vx<=4096)(t':∀bk,K (pute e d (.chan (some bk))) h ((bk,.chan m #[] false 0 0 false)::L))(hg:guardB ops e ⟨d,.makeChan t sz,ty,pos,af,g⟩=true:=by rfl):Stp P b n ops F ds X ⟨d,.makeChan t sz,ty,pos,af,g⟩ e h L K:=
 iM hg λw hw=>by
  refine⟨_,_,h,_,?_,hw.alloc (.chan m #[] false 0 0 false),t' _⟩
  have h1:¬((m:Int)>IntKind.i64.max):=by
   have:IntKind.i64.max=9223372036854775807:=by rfl
   omega
  have h2:∃i,P.info? E=some i/\i.bytes=vx:=by
   unfold bytesOf at hby
   cases hi:P.info? E with
   |none=>rw[hi]at hby;cases hby
   |some i=>rw[hi]at hby;exact⟨i,rfl,by simpa using hby⟩
  obtain⟨i,hi,hib⟩:=h2
  have h3:¬((i.bytes:Int)*(m:Int)>2 ^ 48-112):=by
   rw[hib]
   have:vx*m<=4096*1000000000:=Nat.mul_le_mul hb hm
   grind
  simp only[execOp,Instr.makeChan,hsz]
  simp[asInt,asIntOf,run_underlying hT,typeInfo,hi]
  grind
end steps
theorem Cj{s:GStep}{g:Goroutine}{cs:Array CommCase}{bl:Bool}{sh:CommShape}(h:s.bare=.comm g cs bl sh w):∃es,s=.comm g cs bl sh w es:=by
 cases s<;>simp at h
 obtain⟨rfl,rfl,rfl,rfl,rfl⟩:=h
 exact⟨_,rfl⟩
section comm
variable {P:Program} {b:Frame} {n:Nat} {ops:Array Oper} {l:List Oper} {k:List Item} {F:List Frame->(Machine->Prop)->Prop} {e:Env} {ds:List Deferred} {X:Cx} {h:HF} {L:LH}
variable {ty:TypeId} {pos:String} {af:Array Edge} {g:Option (Nat×Bool)}
theorem Vc(i:Nat){c cap s r:Nat}(hL:nth L i=some (c,.chan cap vs.toArray false s r false))(hch:e.ev ch=.chan (some c))(hx:e.ev x=v)(hroom:vs.length<cap)(t:TO P b n ops l k F e ds X h (setNth L i (c,.chan cap (vs++[v]).toArray false (s+1) r false)))(hg:guardB ops e ⟨none,.send ch x,ty,pos,af,g⟩=true:=by rfl):TO P b n ops (⟨none,.send ch x,ty,pos,af,g⟩::l) k F e ds X h L:=by
 intro w hw is hi a cs Φ hn he hds hF
 obtain⟨j,js,rfl,ho,hj⟩:=rq hi
 have hwt:=(gz (ops:=ops) he).trans hg
 have hs:=stepGR_op (P:=P) (b:=b) (k:=k) (cs:=cs) (w:=w) (rest:=js) ho hwt
 rw[lA _ _ rfl,lH,he]at hs
 have hb:w.heap[c]? = some (.chan cap vs.toArray false s r false):=by
  have h2:=hL
  rw[i9]at h2
  exact hw.own _ (xE h2)
 have hcm:∃es,stepG P true (Go.Conc.G (b.atR a (.inRegion ops (j::js)::k)) cs) w=.comm (Go.Conc.G (b.atR a (.inRegion ops (j::js)::k)) cs) #[Go.Conc.scase c v (.tuple #[])] true .send w es:=by
  have hrun:(execOp e.ev ⟨none,.send ch x,ty,pos,af,g⟩).run P w=.ok (.comm #[Go.Conc.scase c v (.tuple #[])] true .send) w:=by
   simp[execOp,hch,hx,Go.Conc.scase]
  show ∃es,stepG P true { frame:=b.atR a (.inRegion ops (j::js)::k),callers:=cs,status:=.running,dying:=none } w=_
  refine Cj ?_
  rw[hs]
  simp[stepG.apply,hrun,Go.Conc.G]
 obtain⟨es,hcm⟩:=hcm
 have h1:=Go.Conc.step_lone_send_room hcm hb (by simpa using hroom)
 refine .step h1 ?_
 rw[show Go.Conc.solo (Go.Conc.G ((b.atR a (.inRegion ops (j::js)::k)).finish undef) cs) (w.setChan c cap (vs.toArray.push v) false (s+1) r false)=lone ((b.atR a (.inRegion ops (j::js)::k)).finish undef) cs (w.setChan c cap (vs.toArray.push v) false (s+1) r false)from rfl,iJ a js k ho undef]
 have hw2:=hw.write hL (.chan cap (vs++[v]).toArray false (s+1) r false)
 have e1:vs.toArray.push v=(vs++[v]).toArray:=by simp
 rw[e1]
 exact t _ hw2 js hj a cs Φ hn he hds hF
theorem Vd(i:Nat){t:TypeId}{d c cap s r:Nat}(hT:P.underlying t=some (.chan dir E))(hz:zeroV P E=some z)(hL:nth L i=some (c,.chan cap (v::vs).toArray false s r false))(hch:e.ev ch=.chan (some c))(t':TO P b n ops l k F (upd e d v) ds X h (setNth L i (c,.chan cap vs.toArray false s (r+1) false)))(hd:Nat.blt d n=true:=by rfl)(hg:guardB ops e ⟨some d,.recv t ch false,ty,pos,af,g⟩=true:=by rfl):TO P b n ops (⟨some d,.recv t ch false,ty,pos,af,g⟩::l) k F e ds X h L:=by
 intro w hw is hi a cs Φ hn he hds hF
 obtain⟨j,js,rfl,ho,hj⟩:=rq hi
 have hwt:=(gz (ops:=ops) he).trans hg
 have hs:=stepGR_op (P:=P) (b:=b) (k:=k) (cs:=cs) (w:=w) (rest:=js) ho hwt
 rw[lA _ _ rfl,lH,he]at hs
 have hb:w.heap[c]? = some (.chan cap (v::vs).toArray false s r false):=by
  have h2:=hL
  rw[i9]at h2
  exact hw.own _ (xE h2)
 have hcm:∃es,stepG P true (Go.Conc.G (b.atR a (.inRegion ops (j::js)::k)) cs) w=.comm (Go.Conc.G (b.atR a (.inRegion ops (j::js)::k)) cs) #[Go.Conc.rcase c z] true (.recv false) w es:=by
  have hrun:(execOp e.ev ⟨some d,.recv t ch false,ty,pos,af,g⟩).run P w=.ok (.comm #[Go.Conc.rcase c z] true (.recv false)) w:=by
   simp[execOp,run_underlying hT,ft hz,hch,Go.Conc.rcase]
  show ∃es,stepG P true { frame:=b.atR a (.inRegion ops (j::js)::k),callers:=cs,status:=.running,dying:=none } w=_
  refine Cj ?_
  rw[hs]
  simp[stepG.apply,hrun,Go.Conc.G]
 obtain⟨es,hcm⟩:=hcm
 have h1:=Go.Conc.step_lone_recv_buf false hcm hb (by simp)
 refine .step h1 ?_
 have e2:Go.Conc.got false ((v::vs).toArray.getD 0 undef) true=v:=by simp[Go.Conc.got]
 have e1:(v::vs).toArray.extract 1 (v::vs).toArray.size=vs.toArray:=by simp
 rw[e2,e1]
 rw[show Go.Conc.solo (Go.Conc.G ((b.atR a (.inRegion ops (j::js)::k)).finish v) cs) (w.setChan c cap vs.toArray false s (r+1) false)=lone ((b.atR a (.inRegion ops (j::js)::k)).finish v) cs (w.setChan c cap vs.toArray false s (r+1) false)from rfl,iJ a js k ho v]
 have hw2:=hw.write hL (.chan cap vs.toArray false s (r+1) false)
 have hdn:d<n:=qN hd
 exact t' _ hw2 js hj (a.put (some d) v) cs Φ (by rw[pM];exact hn) (by rw[qz _ _ _ (hn▸hdn),he]) (by rw[nn];exact hds) hF
end comm
section runs2
variable {P:Program} {e:Env} {X:Cx} {h:HF} {L:LH} {d:Option Nat} {ty:TypeId} {pos:String} {af:Array Edge} {g:Option (Nat×Bool)}
theorem U2{t:TypeId}{c cap s r:Nat}(hT:P.underlying t=some (.chan dir E))(hL:(c,Obj.chan cap vs.toArray false s r false)∈L)(hch:e.ev ch=.chan (some c)):
  ∀w,St X h L w->(execOp e.ev ⟨d,.call ⟨.builtin .len,#[ch],#[t]⟩,ty,pos,af,g⟩).run P w=.ok (.value (.int .i64 (vs.length:Nat))) w:=λw hw=>by
 have hb:w.heap[c]? = some (.chan cap vs.toArray false s r false):=hw.own _ hL
 have hg:(getObj c).run P w=.ok (.chan cap vs.toArray false s r false) w:=by simp[getObj,Ya,hb]
 simp[execOp,resolve,invoke,builtin,Builtin.len_,hch,run_underlying hT,hg,goInt]
theorem QN{t:TypeId}{lo:Operand}{cap:Nat}(hT:P.underlying t=some (.slice E))(hS:tySz P E=some (sz,a))(hx:e.ev x=.slice (some ⟨bk,0,none⟩) n cap)(hlo:e.ev lo=.int .i64 (i:Nat))(hi:i<n)(hc:n<=cap)(hm:n-i=m)(h1:sz=1:=by rfl):
  ∀w,St X h L w->(execOp e.ev ⟨d,.slice t x (some lo) none none,ty,pos,af,g⟩).run P w=.ok (.value (.slice (some ⟨bk,i,none⟩) m (cap-i))) w:=λw hw=>by
 subst h1 hm
 have h2:¬(cap=i):=by omega
 have h3:(⟨bk,0,none⟩:Addr).add i=⟨bk,i,none⟩:=oC bk i
 simp[execOp,Instr.sliceAt,Instr.slice,Instr.sliceBounds,Instr.sliceBound,hx,hlo,asIntOf,run_underlying hT,fV hS,h2,h3,Nat.le_of_lt hi]
end runs2
theorem MO{R:Rp α}{h:HF}{L:LH}{t ty:TypeId}{ys:List α}{cap:Nat}{x:Value}(hw:St X h L w)(hT:P.underlying t=some (.slice E))(hS:tySz P E=some (R.sz,a))(hz:zeroC P E=some zs)(hzl:zs.length=R.sz)(hby:bytesOf P E=some vx)(hs1:Src R h L (.slice base xs.length cap) xs)(hsrc:Src R h L x ys)(hcap:cap<xs.length+ys.length)(hb:(xs.length+ys.length)*vx<=140737488355328)(hb2:xs.length+ys.length<=9223372036854775807):
  ∃base' cap' G' w',(Builtin.append_ #[t,t] ty #[.slice base xs.length cap,x]).run P w=.ok (.slice base' (xs++ys).length cap') w'/\cN R E h (xs++ys) base' cap' G'/\St X h (G'++L) w':=by
 obtain⟨i,hi,hby'⟩:∃i,P.info? E=some i/\i.bytes=vx:=by
  unfold bytesOf at hby
  cases hi:P.info? E with
  |none=>simp[hi]at hby
  |some i=>exact⟨i,rfl,by simpa[hi]using hby⟩
 have hsz:i.size=R.sz:=by
  have:=fV hS w
  simpa[sizeOf,typeInfo,hi]using this
 obtain⟨z,hzz,hzc⟩:∃z,i.zero=some z/\z.cells=zs.toArray:=by
  unfold zeroC at hz
  cases hzz:i.zero with
  |none=>simp[hi,hzz]at hz
  |some z=>exact⟨z,rfl,by simp[hi,hzz]at hz;rw[mM,hz]⟩
 have hnewlen:(xs++ys).length=xs.length+ys.length:=by simp
 have hroom:¬xs.length+ys.length<=cap:=by omega
 have hwd:St X h L w.drew:=hw.drew _
 obtain⟨cl0,b0,c0,hx0,hc0,hf0⟩:=uB (P:=P) hs1 hwd
 obtain⟨cl',b1,c1,hx',hc',hf'⟩:=uB (P:=P) hsrc hwd
 have hfit:Builtin.nextslicecap (xs.length+ys.length) cap*i.bytes<=281474976710656:=growslice_fits hcap (by rw[hby'];exact hb)
 have h48':¬(281474976710656<Builtin.nextslicecap (xs.length+ys.length) cap*i.bytes):=by omega
 have h63':¬(9223372036854775807<((xs.length:Int)+(ys.length:Int))):=by omega
 have hge:=grownCap_ge w (xs.length+ys.length) cap E
 let nc:=grownCap w (xs.length+ys.length) cap E
 let rest:=(Builtin.zeroCells z.cells (nc-(xs.length+ys.length))).toList
 refine⟨some ⟨w.heap.size,0,none⟩,nc,[(w.heap.size,.cells ((cl0++cl')++rest).toArray E (0,0))],w.drew.alloc (.cells ((cl0++cl')++rest).toArray E),?_,?_,?_⟩
 .subst hx'
  rw[←hsz]at hf0 hf'
  simp[Builtin.append_,run_underlying hT,sizeOf,typeInfo,zeroValue,hi,hzz,Builtin.lenOf,hroom,h63',h48',Question.forced,hf0,hf',newRow,grownCap,nc,rest]
  congr 2
  apply xS
  simp
 .refine .inr ⟨w.heap.size,cl0++cl',rest,rfl,cS.app hc' hc0,?_,by rw[hnewlen];exact hge,by rw[hnewlen];exact hb2,rfl⟩
  have:rest.length=(nc-(xs.length+ys.length))*R.sz:=by
   simp[rest,Builtin.zeroCells,hzc,hzl]
  simp only[jA,this,hc0.len,hc'.len,←Nat.add_mul]
  congr 1
  omega
 .exact hwd.alloc (.cells ((cl0++cl')++rest).toArray E (0,0))
section steps3
variable {P:Program} {b:Frame} {n:Nat} {ops:Array Oper} {F:List Frame->(Machine->Prop)->Prop} {e:Env} {ds:List Deferred} {X:Cx} {h:HF} {L:LH} {K:Env->HF->LH->Prop}
variable {d:Option Nat} {ty:TypeId} {pos:String} {af:Array Edge} {g:Option (Nat×Bool)}
theorem J9{R:Rp α}{t:TypeId}{s:Operand}{ys:List α}{cap:Nat}(hT:P.underlying t=some (.slice E))(hS:tySz P E=some (R.sz,a))(hz:zeroC P E=some zs)(hzl:zs.length=R.sz)(hby:bytesOf P E=some vx)(hs1:Src R h L (.slice base xs.length cap) xs)(hx:e.ev s=.slice base m cap)(hm:m=xs.length)(hsrc:Src R h L (e.ev y) ys)(hcap:cap<xs.length+ys.length)(hb:(xs.length+ys.length)*vx<=140737488355328)(hb2:xs.length+ys.length<=9223372036854775807)(t':∀base' cap' G',cN R E h (xs++ys) base' cap' G'->K (pute e d (.slice base' (xs++ys).length cap')) h (G'++L))(hgd:guardB ops e ⟨d,.call ⟨.builtin .append,#[s,y],#[t,t]⟩,ty,pos,af,g⟩=true:=by rfl):Stp P b n ops F ds X ⟨d,.call ⟨.builtin .append,#[s,y],#[t,t]⟩,ty,pos,af,g⟩ e h L K:=
 iM hgd λw hw=>by
  subst hm
  obtain⟨base',cap',G',w',hr,hG',hst⟩:=MO (P:=P) (ty:=ty) hw hT hS hz hzl hby hs1 hsrc hcap hb hb2
  refine⟨_,w',h,_,?_,hst,t' _ _ _ hG'⟩
  simp[execOp,resolve,invoke,builtin,hx,hr]
theorem Ey{t:TypeId}{len:Nat}{cells:List Value}(hXM:∀b∈X.M,b<X.w0.heap.size)(hT:P.underlying t=some (.slice E))(hS:tySz P E=some (sz,a))(hz:zeroC P E=some zs)(hpos:zJ 0 (len*sz)=true)(hlt:XM (len*sz) 16777216=true)(hc:XY (λi=>some (i*sz,sz)) ((Array.range (len*sz)).map (zs.toArray[·%zs.toArray.size]!)) (parts.toList.map λp=>(p.1,e.ev p.2))=some cells.toArray)(t':∀bk,bk∉X.M->K (pute e d (.slice (some ⟨bk,0,none⟩) len len)) h ((bk,.cells cells.toArray E (0,0))::L))(hg:guardB ops e ⟨d,.buildSlice t len parts,ty,pos,af,g⟩=true:=by rfl):Stp P b n ops F ds X ⟨d,.buildSlice t len parts,ty,pos,af,g⟩ e h L K:=
 iM hg λw hw=>by
  obtain⟨z,h1,h2⟩:=uz hz w
  have hp:=qi hpos
  have hl:=qN hlt
  have hparts:(parts.map λx=>(x.1,e.ev x.2)).toList=parts.toList.map λp=>(p.1,e.ev p.2):=by simp
  refine⟨_,_,h,_,?_,hw.alloc _,t' _ (λhm=>by have:=hXM _ hm;have:=hw.size;omega)⟩
  have hne:¬len*sz=0:=by omega
  have hnl:¬len*sz>2 ^ 24:=by omega
  simp only[execOp,Instr.buildSlice,jL,run_underlying hT,jK,fV hS,hnl,hne,if_false,h1,h2,Xg,hparts]
  rw[hc]
  simp[newRow]
theorem K0(A Q:LH){t:Nat}{Φ:LH->Prop}(hL:L.Perm (A++Q))(hs:nQ P fv vs.toArray h A (λx h' B=>x=.returned (.tuple #[])/\h'=h/\Φ B))(hf:e t=fv)(hvs:ass.toList.map e.ev=vs)(t':∀B,Φ B->K (pute e d (.tuple #[])) h (B++Q))(hg:guardB ops e ⟨d,.call ⟨.value (.tmp t),ass,ats⟩,ty,pos,af,g⟩=true:=by rfl):Stp P b n ops F ds X ⟨d,.call ⟨.value (.tmp t),ass,ats⟩,ty,pos,af,g⟩ e h L K:=by
 unfold Stp
 rw[if_pos hg]
 intro w hw
 have hw':=hw.perm hL
 have harr:ass.map e.ev=vs.toArray:=xS (by simp[←hvs])
 obtain⟨nx,hrun,hcall⟩:=hs w (Pre.left (A:=A) hw'.pre)
 have hr:(execOp e.ev ⟨d,.call ⟨.value (.tmp t),ass,ats⟩,ty,pos,af,g⟩).run P w=.ok nx w:=by
  rw[←hrun]
  simp[execOp,resolve,XQ,harr,hf]
 rw[hr]
 refine mO (oO hcall) (hcall.mono ?_)
 rintro x w' ⟨h',B,hst,rfl,rfl,hB⟩
 exact⟨h',_,Xd (A:=A) (F:=Q) hw' hst,t' B hB⟩
theorem GV{o:Oper}(hp:L.Perm L')(t:Stp P b n ops F ds X o e h L' K)(hg:guardB ops e o=true:=by rfl):Stp P b n ops F ds X o e h L K:=by
 unfold Stp at t ⊢
 rw[if_pos hg]at t ⊢
 exact λw hw=>t w (hw.perm hp)
end steps3
section runs3
variable {P:Program} {e:Env} {X:Cx} {h:HF} {L:LH} {d:Option Nat} {ty:TypeId} {pos:String} {af:Array Edge} {g:Option (Nat×Bool)}
theorem U3{t:TypeId}{hi mx:Operand}{cap:Nat}(hT:P.underlying t=some (.slice E))(hS:tySz P E=some (sz,a))(hx:e.ev x=.slice base n cap)(hhi:e.ev hi=.int .i64 (n:Nat))(hmx:e.ev mx=.int .i64 (n:Nat))(hc:n<=cap):
  ∀w,St X h L w->(execOp e.ev ⟨d,.slice t x none (some hi) (some mx),ty,pos,af,g⟩).run P w=.ok (.value (.slice base n n)) w:=λw hw=>by
 by_cases h0:n=0
 .subst h0
  simp[execOp,Instr.sliceAt,Instr.slice,Instr.sliceBounds,Instr.sliceBound,hx,hhi,hmx,asIntOf,run_underlying hT,fV hS,hc]
 .simp[execOp,Instr.sliceAt,Instr.slice,Instr.sliceBounds,Instr.sliceBound,hx,hhi,hmx,asIntOf,run_underlying hT,fV hS,hc,h0,zQ]
end runs3
theorem rP.del{κ α : Type}{enc:κ->Value}{V:HF->Value->α->Prop}{h:HF}[DecidableEq κ]{k:κ}:∀{es:List MapEntry}{m:List (κ×α)}(j:Nat),rP enc V h es m ->
  match findIn k (m.map (·.1)) es j with
  |some (i,_)=>j<=i/\i-j<es.length/\rP enc V h (es.eraseIdx (i-j)) (mdel m k)
  |none=>rP enc V h es (mdel m k)
 |[],[],_,_=>trivial
 |e::es,(k',v)::m,j,⟨a,b,c⟩=>by
  simp only[kG,findIn,mdel]
  by_cases hk:k=k'
  .simp only[hk,if_true]
   refine⟨kE _,by simp,?_⟩
   rw[Nat.sub_self];exact c
  .simp only[hk,if_false]
   have ih:=rP.del (k:=k) (j+1) c
   cases hf:findIn k (m.map (·.1)) es (j+1)with
   |none=>rw[hf]at ih;exact⟨a,b,ih⟩
   |some p=>
    obtain⟨i,u⟩:=p
    rw[hf]at ih
    obtain⟨h1,h2,h3⟩:=ih
    have e1:i-j=(i-(j+1))+1:=by omega
    refine⟨by omega,by simp;omega,?_⟩
    rw[e1,List.eraseIdx_cons_succ];exact⟨a,b,h3⟩
 |[],_::_,_,x=>x.elim
 |_::_,[],_,x=>x.elim
section del
variable {P:Program} {b:Frame} {n:Nat} {ops:Array Oper} {F:List Frame->(Machine->Prop)->Prop} {e:Env} {ds:List Deferred} {X:Cx} {h:HF} {L:LH} {K:Env->HF->LH->Prop}
variable {d:Option Nat} {ty:TypeId} {pos:String} {af:Array Edge} {g:Option (Nat×Bool)} {κ α : Type} {enc:κ->Value} {V:HF->Value->α->Prop} [DecidableEq κ]
end del
theorem EG{α : Type}[DecidableEq α]:∀{a b:List α},a.Nodup->(∀x∈a,x∈b)->a.length<=b.length
 |[],b,_,_=>zH _
 |x::a,b,hn,hs=>by
  rw[jR]at hn
  have hx:x∈b:=hs x (vB ..)
  have ih:=EG (b:=b.erase x) hn.2 (λy hy=>by
   have hne:y≠x:=λe=>hn.1 (e▸hy)
   rw[List.mem_erase_of_ne hne];exact hs y (xC _ hy))
  rw[List.length_erase_of_mem hx]at ih
  have:=List.length_pos_of_mem hx
  simp only[zA]
  omega
section frz
variable {P:Program} {b:Frame} {n:Nat} {k:List Item} {F:List Frame->(Machine->Prop)->Prop} {e:Env} {ds:List Deferred} {X:Cx} {h:HF} {L:LH}
theorem GK{todo:List Item}(A G Q:LH)(hL:L=A++(G++Q))(hM:X.M=[])(t:∀h2,h.le h2->(∀p∈G,h2 p.1=some p.2)->TT P b n todo F e ds X h2 (A++Q)):TT P b n todo F e ds X h L:=by
 subst hL
 intro w hw
 obtain⟨h1,h2,h3⟩:=hw.freezeMid hM
 exact t _ h2 h3 w h1
theorem TH(sl:ι->List (Nat×Value))(hh:ι->HF)(LL:ι->LH)(I:ι->Prop)(hk:∀i,I i->∀e',TT P b n k F (upds e' (sl i)) ds X (hh i) (LL i))(t':(∀i e',I i->iD e' (sl i)->TT P b n k F e' ds X (hh i) (LL i))->TT P b n (.code c::k) F e ds X h L):TT P b n (.code c::k) F e ds X h L:=
 t' λi e' hI hr=>by have:=hk i hI e';rw[hr.upds]at this;exact this
end frz
end
section
def attR:Except Int Unit->Int
 |.ok _=>0
 |.error e=>e
def idxByte(s:ByteArray)(c:Int):Int:=match(List.range s.size).find? (λi=>s[i]! == UInt8.ofNat c.toNat)with
 |some i=>(i:Nat)
 |none=>-1
def bsI(xs:List Int)(t:Int):Int:=((xs.countP (·<t):Nat):Int)
def slices_BinarySearch_int(x:List Int)(target:Int):Int×Bool:=(bsI x target,x.contains target)
def insI(x:Int):List Int->List Int
 |[]=>[x]
 |y::l=>bif decide (x<=y)then x::y::l else y::insI x l
def sortI:List Int->List Int
 |[]=>[]
 |x::l=>insI x (sortI l)
theorem ES(x:Int):∀l,(insI x l).Perm (x::l)
 |[]=>List.Perm.refl _
 |y::l=>by
  simp only[insI,Bool.cond_eq_ite]
  split
  .exact List.Perm.refl _
  .exact(List.Perm.cons y (ES x l)).trans (List.Perm.swap x y l)
theorem nS:∀xs,(sortI xs).Perm xs
 |[]=>List.Perm.refl _
 |x::l=>(ES x _).trans (List.Perm.cons x (nS l))
theorem iW(xs:List Int):(sortI xs).length=xs.length:=(nS xs).length_eq
theorem Fp(x:Int):∀l:List Int,l.Pairwise (·<=·)->(insI x l).Pairwise (·<=·)
 |[],_=>by simp[insI]
 |y::l,h=>by
  rw[List.pairwise_cons]at h
  simp only[insI,Bool.cond_eq_ite,decide_eq_true_eq]
  split
  .next hxy=>
   rw[List.pairwise_cons]
   refine⟨λz hz=>?_,List.pairwise_cons.2 h⟩
   grind
  .next hxy=>
   rw[List.pairwise_cons]
   refine⟨λz hz=>?_,Fp x l h.2⟩
   grind [ES]
theorem pm:∀xs,(sortI xs).Pairwise (·<=·)
 |[]=>List.Pairwise.nil
 |x::l=>Fp x _ (pm l)
theorem Ah:∀{a b:List Int},a.Pairwise (·<=·)->b.Pairwise (·<=·)->a.Perm b->a=b
 |[],b,_,_,p=>(List.Perm.nil_eq p)
 |x::a,[],_,_,p=>absurd p.length_eq (by simp)
 |x::a,y::b,ha,hb,p=>by
  have hx:x=y:=by
   have h1:x∈y::b:=p.mem_iff.1 (vB ..)
   have h2:y∈x::a:=p.mem_iff.2 (vB ..)
   rw[List.pairwise_cons]at ha hb
   grind
  subst hx
  rw[List.pairwise_cons]at ha hb
  rw[Ah ha.2 hb.2 (List.Perm.cons_inv p)]
theorem My{xs ys:List Int}(p:xs.Perm ys):sortI xs=sortI ys:=by grind [Ah,pm,nS]
def insS(x:OSeat):List OSeat->List OSeat
 |[]=>[x]
 |y::l=>bif decide (x.bT<=y.bT)then x::y::l else y::insS x l
def seatS:List OSeat->List OSeat
 |[]=>[]
 |x::l=>insS x (seatS l)
theorem EQ(x:OSeat):∀l,(insS x l).Perm (x::l)
 |[]=>List.Perm.refl _
 |y::l=>by
  simp only[insS,Bool.cond_eq_ite]
  split
  .exact List.Perm.refl _
  .exact(List.Perm.cons y (EQ x l)).trans (List.Perm.swap x y l)
theorem yu:∀xs,(seatS xs).Perm xs
 |[]=>List.Perm.refl _
 |x::l=>(EQ x _).trans (List.Perm.cons x (yu l))
theorem Fo(x:OSeat):∀l:List OSeat,l.Pairwise (λa b=>a.bT<=b.bT)->(insS x l).Pairwise (λa b=>a.bT<=b.bT)
 |[],_=>by simp[insS]
 |y::l,h=>by
  rw[List.pairwise_cons]at h
  simp only[insS,Bool.cond_eq_ite,decide_eq_true_eq]
  split
  .next hxy=>
   rw[List.pairwise_cons]
   refine⟨λz hz=>?_,List.pairwise_cons.2 h⟩
   grind
  .next hxy=>
   rw[List.pairwise_cons]
   refine⟨λz hz=>?_,Fo x l h.2⟩
   grind [EQ]
theorem Dn:∀xs,(seatS xs).Pairwise (λa b=>a.bT<=b.bT)
 |[]=>List.Pairwise.nil
 |x::l=>Fo x _ (Dn l)
theorem Ly(xs:List Int):(xs.mergeSort λx y=>decide (x<=y))=sortI xs:=by
 have h:=List.pairwise_mergeSort (le:=λx y:Int=>decide (x<=y)) (λa b c h1 h2=>by simp at *;omega) (λa b=>by simp;omega) xs
 exact Ah (h.imp (λh=>by simpa using h)) (pm _) ((List.mergeSort_perm _ _).trans (nS xs).symm)
theorem AD{κ α : Type}[DecidableEq κ]{P:α->Prop}:∀{m:List (κ×α)}(k:κ){v:α},(∀p∈m,P p.2)->P v->∀p∈mput m k v,P p.2
 |[],k,v,_,hv,p,hp=>by simp[mput]at hp;subst hp;exact hv
 |(k',v')::m,k,v,h,hv,p,hp=>by
  simp only[mput]at hp
  split at hp
  .grind
  .rcases kD.1 hp with rfl|hp
   .exact h _ (vB ..)
   .exact AD k (λq hq=>h q (xC _ hq)) hv p hp
theorem Nd{κ α : Type}[DecidableEq κ]{P:α->Prop}:∀{m:List (κ×α)}(k:κ){v:α},(∀p∈m,P p.2)->mget? m k=some v->P v
 |[],k,v,_,h=>by simp[mget?]at h
 |(k',v')::m,k,v,h,hg=>by
  simp only[mget?]at hg
  split at hg
  .cases hg;exact h (k',v') (vB ..)
  .exact Nd k (λq hq=>h q (xC _ hq)) hg
theorem Bw{κ:Type}[DecidableEq κ]{P:α->Prop}{m:List (κ×α)}(k:κ){z:α}(h:∀p∈m,P p.2)(hz:P z):P (mgetD m k z):=by
 unfold mgetD
 cases hg:mget? m k with
 |none=>exact hz
 |some v=>exact Nd k h hg
def compStep(out:List Int)(x:Int):List Int:=if out.getLast? = some x then out else out++[x]
def compI(xs:List Int):List Int:=xs.foldl compStep []
def slices_Compact_int(xs:List Int):List Int:=compI xs
def pop64(m:Int):Int:=
 let a0:=kB .u64 (((BitVec.ofInt 64 (m.fdiv (2 ^ 1)) &&& BitVec.ofInt 64 6148914691236517205).toNat:Nat):Int)
 let a1:=kB .u64 (((BitVec.ofInt 64 m &&& BitVec.ofInt 64 6148914691236517205).toNat:Nat):Int)
 let a:=kB .u64 (a0+a1)
 let b0:=kB .u64 (((BitVec.ofInt 64 (a.fdiv (2 ^ 2)) &&& BitVec.ofInt 64 3689348814741910323).toNat:Nat):Int)
 let b1:=kB .u64 (((BitVec.ofInt 64 a &&& BitVec.ofInt 64 3689348814741910323).toNat:Nat):Int)
 let b:=kB .u64 (b0+b1)
 let c:=kB .u64 (((BitVec.ofInt 64 (kB .u64 (b.fdiv (2 ^ 4)+b)) &&& BitVec.ofInt 64 1085102592571150095).toNat:Nat):Int)
 let d:=kB .u64 (c+c.fdiv (2 ^ 8))
 let f:=kB .u64 (d+d.fdiv (2 ^ 16))
 let g:=kB .u64 (f+f.fdiv (2 ^ 32))
 kB .i64 (((BitVec.ofInt 64 (kB .i64 g) &&& BitVec.ofInt 64 127).toNat:Nat):Int)
def bsPos{α : Type}(f:α->Int)(l:List α)(t:Int):Nat:=l.countP λy=>decide (f y<t)
theorem C2{α : Type}(f:α->Int)(t:Int):∀l:List α,l.Pairwise (λa b=>f a<f b)->(∀i y,i<bsPos f l t->l[i]? = some y->f y<t)/\(∀i y,bsPos f l t<=i->l[i]? = some y->¬f y<t)
 |[],_=>⟨λi y h=>absurd h (Nat.not_lt_zero _),λi y _ h=>by simp at h⟩
 |a::l,hp=>by
  have hp2:=List.pairwise_cons.1 hp
  obtain⟨h1,h2⟩:=C2 f t l hp2.2
  by_cases ha:f a<t
  .have hc:bsPos f (a::l) t=bsPos f l t+1:=by simp[bsPos,List.countP_cons,ha]
   rw[hc]
   refine⟨λi y hi hy=>?_,λi y hi hy=>?_⟩
   .cases i with
    |zero=>simp at hy;subst hy;exact ha
    |succ i=>exact h1 i y (by omega) (by simpa using hy)
   .cases i with
    |zero=>omega
    |succ i=>exact h2 i y (by omega) (by simpa using hy)
  .have h0:∀y∈l,¬f y<t:=λy hy=>by have:=hp2.1 y hy;omega
   have hc:bsPos f (a::l) t=0:=by
    have:l.countP (λy=>decide (f y<t))=0:=List.countP_eq_zero.2 (λy hy=>by simpa using h0 y hy)
    simp[bsPos,List.countP_cons,ha,this]
   rw[hc]
   refine⟨λi y hi=>absurd hi (Nat.not_lt_zero _),λi y _ hy=>?_⟩
   cases i with
   |zero=>simp at hy;subst hy;exact ha
   |succ i=>exact h0 y (xE (by simpa using hy))
def bitAt(m k:Int):Bool:=(kB .i64 (((BitVec.ofInt 64 (m.fdiv (2 ^ min k.toNat 64)) &&& BitVec.ofInt 64 1).toNat:Nat):Int))==1
def setOf.L(n:Nat)(m:Int):List Int->Nat->List Int->List Int
 |[],_,g=>g
 |y::r,i,g=>setOf.L n m r (i+1) (bif bitAt m ((n:Int)-1-(i:Int))then g++[y]else g)
def setOf(people:List Int)(m:Int):List Int:=setOf.L people.length m people 0 []
def downF(f:Nat->List (List Int)):Nat->List (List Int)
 |0=>[]
 |j+1=>f j++downF f j
def upF(f:Nat->List (List Int)):Nat->Nat->List (List Int)
 |_,0=>[]
 |i,c+1=>f i++upF f (i+1) c
def setsM(people:List Int)(size m:Nat):List (List Int):=bif pop64 (m:Int)==(size:Int)then[setOf people (m:Int)]else[]
def iB(people:List Int):List (List Int):=upF (λsize=>downF (setsM people size) (2 ^ people.length)) 0 (people.length+1)
theorem Sm(h:n<=12):2 ^ n<=4096:=kL (Nat.pow_le_pow_right (by decide) h) (by decide)
structure QP where
 closed:Bool
 free:List Int
 needs:List Int
 over:List Int
 decides:List Int->Bool
end
variable {C:α->List Go.Value}{rs:List ResultVar}{sp:List Go.Value}
section
def RdN{α : Type}(l:Nat)(lp:Loop)(I:List α->HF->LH->Prop)(J:Code->HF->LH->Prop)(Pn:List PanicEntry->HF->LH->Prop)(done:List α)(x:α)(r':Ending)(h:HF)(B:LH):Prop:=
 (r'=.returned (.bool true)/\∃L',B=(l,.loop { lp with state:=.ready,pending:=none })::L'/\I (done++[x]) h L') \/
 (r'=.returned (.bool false)/\∃c L',B=(l,.loop { lp with state:=.done,pending:=some c })::L'/\J c h L') \/
 (∃ch,r'=.panicked ch/\∃lp' L',B=(l,.loop lp')::L'/\Pn ch h L')
section
variable {α : Type} {P:Program} {l:Nat} {f:FuncId} {n:Nat} {k:List Item} {e:Env} {X:Cx} {h:HF} {L:LH} {lp lp':Loop} {fn:Func} {I:List α->HF->LH->Prop} {J:Code->HF->LH->Prop} {Pn:List PanicEntry->HF->LH->Prop} {done:List α} {x:α}
theorem PI(hlp:lp'={ lp with state:=.busy })(hI:I (done++[x]) h L):TT P (roundFrame l f) n [] (mV P X (RdN l lp I J Pn done x)) e [] X h ((l,.loop lp')::L):=
 PA 0 rfl (.inl ⟨rfl,L,by rw[hlp];rfl,hI⟩)
end
theorem QA{l0:Nat}{lp0:Loop}{F:List Frame->(Machine->Prop)->Prop}{h:HF}{L:LH}{val:α->HF->List Value->Prop}(i0:Nat)(hl0:nth L i0=some (l0,.loop lp0))(I:List α->HF->LH->Prop)(hgv:e.ev g=it)(hit:Itr P it val xs h)(hps:ps.all (λp=>zJ p n)=true)(hval:∀x h vs,val x h vs->vs.length=ps.length)(hIm:∀done h1 h2 B,xJ h1 h2->I done h1 B->I done h2 B)(h0:I [] h L)(round:∀l lp done x rest vs h' L' X',xs=done++x::rest->h.le h'->I done h' L'->val x h' vs->lp.state=.ready->X'.h0=h'->(∀b∈X'.M,b<X'.w0.heap.size) ->
   TT P (roundFrame l f) n [.code assign,.beginRound,.code body] (mV P X' (RdN l lp I (λ_ _ _=>False) (λ_ _ _=>False) done x)) (setParams e ps vs) [] X' h' ((l,.loop lp)::L'))(next:∀h' L',h.le h'->I xs h' L'->TT P (roundFrame l0 f) n k F e ds X h' L'):
  TT P (roundFrame l0 f) n (.code (.rangeFunc g ps.toArray assign body)::k) F e ds X h L:=by
 obtain⟨f0,cap,rfl,hc0,hit⟩:=hit
 intro w hw a cs Φ hn he hds hF
 let l:=w.heap.size
 have hb0:w.heap[l0]? = some (.loop lp0):=sV hw hl0
 let lp:Loop:={ state:=.ready,pending:=none,fn:=f,tmps:=a.tmps,params:=ps.toArray,assign,body,defers:=lp0.defers }
 let w2:World:={ w with heap:=w.heap.push (.loop lp) }
 have hw2:St X h ((l,.loop lp)::L) w2:=hw.alloc _
 have henter:(XU (roundFrame l0 f).fn a.tmps ps.toArray assign body (roundFrame l0 f).roundOf).run P w=.ok (l,[]) w2:=by
  have:=run_enterLoop_inner (P:=P) hb0 f a.tmps ps.toArray assign body
  exact this
 let C:List α->HF->LH->Prop:=λdone h' B=>∃L',B=(l,.loop lp)::L'/\I done h' L'
 let Sp:HF->LH->Prop:=λ_ _=>False
 let Pm:List PanicEntry->HF->LH->Prop:=λ_ _ _=>False
 have hps':∀p∈ps,p<n:=λp hp=>qi (jM.1 hps p hp)
 have hy:∀done x rest vs h'' B,xs=done++x::rest->h.le h''->C done h'' B->val x h'' vs->nQ P (.func (.yield l) #[] #[]) vs.toArray h'' B (YR C Sp Pm done x):=by
  rintro done x rest vs h'' B hxs de ⟨L',rfl,hI⟩ hv
  refine nQ.mono (R:=RdN l lp I (λ_ _ _=>False) (λ_ _ _=>False) done x) (Ag (i:=0) (lp:=lp) rfl (by simp[lp];exact hval x h'' vs hv) ?_) ?_
  .intro X' _ hX' hXM'
   have henv:envOf { tmps:=(ps.toArray.zip vs.toArray).foldl (λtmps p=>tmps.setIfInBounds p.1 p.2) a.tmps,defers:=[] }=setParams e ps vs:=by
    have:=ue ps vs a.tmps a.defers hn hps'
    rw[←he]
    rw[←XZ]
    simpa using this
   grind
  .rintro x' h3 B' _ (⟨e1,L2,e2,h2⟩|⟨e1,c,L2,e2,h2⟩|⟨ch,e1,lp',L2,e2,h2⟩)
   .exact .inl ⟨e1,L2,e2,h2⟩
   .exact h2.elim
   .exact h2.elim
 have hs:=hit (.yield l) #[] #[] C Sp Pm h ((l,.loop lp)::L) (kH h) (λ_ _ _ _ hl⟨L',e1,hi⟩=>⟨L',e1,hIm _ _ _ _ hl hi⟩) (λ_ _ _ _ hi=>hi) (λ_ _ _ _ _ hi=>hi) ⟨L,rfl,h0⟩ hy
 obtain⟨nx,hrun,hcall⟩:=hs w2 hw2.pre
 have hev:a.eval g=e.ev g:=by rw[lH,he]
 have hnx:nx=.enter f0 (kQ (.yield l) #[] #[]::cap).toArray:=by
  grind [xH,invoke]
 subst hnx
 have hres:(resolve a.eval (rangeCall g l) 0).run P w2=.ok { target:=.fn (.func f0) cap.toArray,args:=#[.func (.yield l) #[] #[]] } w2:=by
  have hcst:∀v,a.eval (.const v)=v:=λ_=>rfl
  simp[resolve,rangeCall,hev,hgv,hcst,xH]
 have hinv:(invoke (.fn (.func f0) cap.toArray) #[.func (.yield l) #[] #[]]).run P w2=.ok (.enter f0 (kQ (.yield l) #[] #[]::cap).toArray) w2:=by
  simp[invoke,hc0]
 have hback:∀v w3,(∃h' B,St ⟨w2,h,((l,Obj.loop lp)::L).map (·.1)⟩ h' B w3/\ItR C Sp Pm xs (.returned v) h' B) ->
   To P Φ (lone (((roundFrame l0 f).atR { a with defers:=[]++a.defers } (.inRangeFunc l::k)).finish v) cs w3):=by
  rintro v w3 ⟨h',B,hst,hR⟩
  rw[finish_atR_inRangeFunc]
  have hS3:St X h' B w3:=by
   have:=Xd (A:=(l,.loop lp)::L) (F:=[]) (by simpa using hw2) hst
   simpa using this
  have de:=hst.le
  rcases hR with⟨_,hCS⟩|⟨ch,hx,_⟩
  .rcases hCS with⟨L',rfl,hI⟩|hF
   .have hb:w3.heap[l]? = some (.loop lp):=hS3.own _ (vB ..)
    have hend:(WT l).run P w3=.ok none { w3 with heap:=w3.heap.setIfInBounds l (.loop { lp with state:=.exhausted }) }:=by
     simp[WT,Xk,getObj,setObj,Ya,hb,lp]
    refine .step (stepR_endRangeFunc hend) ?_
    have hS4:=hS3.write (i:=0) rfl (.loop { lp with state:=.exhausted })
    exact next h' L' de hI _ (hS4.sub (jS ..)) a cs Φ hn he hds hF
   .exact hF.elim
  .cases hx
 have hraise:∀ch w3,(∃h' B,St ⟨w2,h,((l,Obj.loop lp)::L).map (·.1)⟩ h' B w3/\ItR C Sp Pm xs (.panicked ch) h' B) ->
   To P Φ (lone (((roundFrame l0 f).atR { a with defers:=[]++a.defers } (.inRangeFunc l::k)).raise ch) cs w3):=by
  rintro ch w3 ⟨h',B,hst,hR⟩
  rcases hR with⟨hx,_⟩|⟨ch',hx,hP⟩
  .cases hx
  .exact hP.elim
 refine .step (stepR_rangeFunc henter hres hinv) ?_
 exact hcall _ cs Φ hback hraise
def HF.lend(h:HF)(L:LH):HF:=λb=>match L.find? (λp=>p.1==b)with|some p=>some p.2|none=>h b
theorem HF.Nh{h:HF}:∀{L:LH},(L.map (·.1)).Nodup->∀p∈L,h.lend L p.1=some p.2
 |[],_,p,hp=>(kA hp).elim
 |q::L,hd,p,hp=>by
  rw[kG,jR]at hd
  rcases kD.1 hp with rfl|hp
  .simp[HF.lend]
  .have hne:(q.1==p.1)=false:=by
    grind
   have:=HF.Nh (h:=h) hd.2 p hp
   grind [HF.lend]
theorem HF.Ua{h:HF}{L:LH}(hf:∀p∈L,h p.1=none):h.le (h.lend L):=λb o hb=>by
 grind [HF.lend]
section steps
variable {P:Program} {b:Frame} {n:Nat} {ops:Array Oper} {F:List Frame->(Machine->Prop)->Prop} {e:Env} {ds:List Deferred} {X:Cx} {h:HF} {L:LH} {K:Env->HF->LH->Prop}
variable {d:Option Nat} {ty:TypeId} {pos:String} {af:Array Edge} {g:Option (Nat×Bool)}
theorem R8(hc:∀args w,(callFunc f args).run P w=.ok (.enter f args) w)(hs:∀h1,h.le h1->(∀p∈L,h1 p.1=some p.2)->Ret P f vs h1 v)(hvs:ass.toList.map e.ev=vs)(t':K (pute e d v) h L)(hg:guardB ops e ⟨d,.call ⟨.value (.func f),ass,ats⟩,ty,pos,af,g⟩=true:=by rfl):
  Stp P b n ops F ds X ⟨d,.call ⟨.value (.func f),ass,ats⟩,ty,pos,af,g⟩ e h L K:=by
 unfold Stp
 rw[if_pos hg]
 intro w hw
 have harr:ass.map e.ev=vs.toArray:=xS (by simp[←hvs])
 have hr:(execOp e.ev ⟨d,.call ⟨.value (.func f),ass,ats⟩,ty,pos,af,g⟩).run P w=.ok (.enter f vs.toArray) w:=by
  simp[execOp,resolve,XQ,xH,invoke,harr,hc]
 rw[hr]
 have hp1:Pre (h.lend L) [] w:=⟨λk o hk=>by
  unfold HF.lend at hk
  cases hq:L.find? (λp=>p.1==k)with
  |none=>rw[hq]at hk;exact hw.imm k o hk
  |some p=>
   rw[hq]at hk
   have h2:p.1=k:=by simpa using List.find?_some hq
   have h3:p.2=o:=by simpa using hk
   rw[←h2,←h3];exact hw.own p (List.mem_of_find?_eq_some hq),λ_ hp=>(kA hp).elim,WH,λ_ hp=>(kA hp).elim⟩
 refine mO (by simp) (lq (tr.mono (hs _ (HF.Ua hw.free) (HF.Nh hw.dis) w hp1) ?_))
 rintro x w' ⟨h',B,hst,rfl,rfl,rfl⟩
 refine⟨h,L,⟨hst.os.trans hw.os,hst.tape.trans hw.tape,hst.output.trans hw.output,kL hw.size hst.size,λb' hb' hM=>?_,hw.le,hw.old,λb' o hb'=>?_,λp hp=>?_,hw.dis,hw.free,hw.new⟩,t'⟩
 .rw[hst.keep b' (Xx hb' hw.size) (by simp)];exact hw.keep b' hb' hM
 .rw[hst.keep b' (iw (hw.imm b' o hb')) (by simp)];exact hw.imm b' o hb'
 .rw[hst.keep p.1 (iw (hw.own p hp)) (by simp)];exact hw.own p hp
end steps
section
variable {P:Program} {b:Frame} {n:Nat} {k:List Item} {F:List Frame->(Machine->Prop)->Prop} {e:Env} {ds:List Deferred} {X:Cx} {h:HF} {L:LH} {ops:Array Oper} {l:List Oper} {ty:TypeId} {pos:String} {af:Array Edge} {g:Option (Nat×Bool)}
theorem JW(hro:b.roundOf=none)(hvs:as.toList.map e.ev=vs)(t':TO P b n ops l k F e ({ target:=.fn (.func f) #[],args:=vs.toArray }::ds) X h L)(hg:guardB ops e ⟨none,.defer ⟨.value (.func f),as,ats⟩,ty,pos,af,g⟩=true:=by rfl):TO P b n ops (⟨none,.defer ⟨.value (.func f),as,ats⟩,ty,pos,af,g⟩::l) k F e ds X h L:=by
 intro w hw is hi a cs Φ hn he hds hF
 obtain⟨i,js,rfl,ho,hj⟩:=rq hi
 have hwt:=(gz (ops:=ops) he).trans hg
 have hst:=stepGR_op (P:=P) (b:=b) (k:=k) (cs:=cs) (w:=w) (rest:=js) ho hwt
 have harr:as.map e.ev=vs.toArray:=xS (by simp[←hvs])
 have hr:(execOp a.eval ⟨none,.defer ⟨.value (.func f),as,ats⟩,ty,pos,af,g⟩).run P w=.ok (.defer { target:=.fn (.func f) #[],args:=vs.toArray }) w:=by
  rw[lH,he]
  simp[execOp,resolve,XQ,xH,harr]
 have hs:Oper.semAt b.roundOf a.eval ⟨none,.defer ⟨.value (.func f),as,ats⟩,ty,pos,af,g⟩=execOp a.eval ⟨none,.defer ⟨.value (.func f),as,ats⟩,ty,pos,af,g⟩:=by rw[hro];rfl
 refine .step (m₁:=lone (b.atR { a with defers:={ target:=.fn (.func f) #[],args:=vs.toArray }::a.defers } (.inRegion ops js::k)) cs w) ?_ (t' w hw js hj { a with defers:={ target:=.fn (.func f) #[],args:=vs.toArray }::a.defers } cs Φ hn he (by rw[hds]) hF)
 refine step_lone_go ?_
 have hfin:=iJ (b:=b) { a with defers:={ target:=.fn (.func f) #[],args:=vs.toArray }::a.defers } js k ho undef
 rw[hst,hs]
 simp only[stepG.apply,Sem.runT_eq,hr,GStep.bare_after]
 exact congrArg (λfr=>GStep.go { frame:=fr,callers:=cs,status:=.running,dying:=none } w) hfin
end
theorem Mq{g:FuncId}{h:HF}{L:LH}{R:Ending->HF->LH->Prop}{R':HF->LH->Prop}(hf:P.funcs[f]? = some fn)(hg:P.funcs[g]? = some gn)(hb:gn.body=some c)(hm:gn.ntmps=m)(de:XM cap.length m=true)(hc:∀args w,(callFunc g args).run P w=.ok (.enter g args) w)(t:∀X':Cx,X'.h0=h->TT P (deferFrame g) m [.code c] (I3 P X' .returning R') (envArgs cap) [] X' h A)(hL:L=A++Fr)(fin:∀h' B,h.le h'->R' h' B->∀a:Act,envOf a=e->∀w,St X h' (B++Fr) w->∃v h2 B2,(results fn a.tmps).run P w=.ok v w/\St X h2 B2 w/\R (.returned v) h2 B2):
  TT P (bodyFrame f) n (.code .ret::k) (mV P X R) e [{ target:=.fn (.func g) #[],args:=cap.toArray }] X h L:=by
 intro w hw a cs Φ hn he hds hF
 obtain⟨cc,cs',rfl,h1,_⟩:=hF
 subst hL
 refine .step (stepR_ret rfl) ?_
 have hinv:(invoke (.fn (.func g) #[]) cap.toArray).run P w=.ok (.enter g cap.toArray) w:=by simp[invoke,hc]
 refine .step (step_defer (fr:={ (bodyFrame f).atR a (.code .ret::k)with mode:=.returning }) (by simp) hds rfl hinv) ?_
 have hle':=qN de
 have henter:kR P g cap.toArray .deferred=(deferFrame g).atR { tmps:=cap.toArray++WL (m-cap.length) undef,defers:=[] } [.code c]:=by
  grind [kR,W6,deferFrame]
 rw[henter]
 refine t ⟨w,h,A.map (·.1)⟩ rfl w (W8 hw.pre.left) _ _ Φ (by simp;omega) (qg _ _) rfl ⟨_,cc::cs',rfl,rfl,?_⟩
 rintro w' ⟨h',B,hst,hR'⟩
 obtain⟨v,h2,B2,hv,hs2,hR⟩:=fin h' B hst.le hR' a he w' (hw.after hst)
 refine .step (jh (fn:=fn) (v:=v) rfl rfl rfl hf hv) ?_
 exact h1 v w' ⟨h2,B2,hs2,hR⟩
theorem Df{g:FuncId}{h:HF}{L:LH}{R:Ending->HF->LH->Prop}{R':HF->LH->Prop}(hf:P.funcs[f]? = some fn)(hg:P.funcs[g]? = some gn)(hb:gn.body=some c)(hm:gn.ntmps=m)(de:XM cap.length m=true)(hc:∀args w,(callFunc g args).run P w=.ok (.enter g args) w)(t:∀X':Cx,X'.h0=h->TT P (deferFrame g) m [.code c] (λcs Φ=>∃c rest,cs=c::rest/\c.mode=.panicking [{ v:=pv,recovered:=false }]/\I3 P X' (.panicking [{ v:=pv,recovered:=true }]) R' ({ c with mode:=.panicking [{ v:=pv,recovered:=true }] }::rest) Φ) (envArgs cap) [] X' h A)(hL:L=A++Fr)(fin:∀h' B,h.le h'->R' h' B->∀a:Act,envOf a=e->∀w,St X h' (B++Fr) w->∃v h2 B2,(results fn a.tmps).run P w=.ok v w/\St X h2 B2 w/\R (.returned v) h2 B2):
  TP P (bodyFrame f) n [{ v:=pv,recovered:=false }] (mV P X R) e [{ target:=.fn (.func g) #[],args:=cap.toArray }] X h L:=by
 intro w hw a cs Φ todo hn he hds hF
 obtain⟨cc,cs',rfl,h1,_⟩:=hF
 subst hL
 have hinv:(invoke (.fn (.func g) #[]) cap.toArray).run P w=.ok (.enter g cap.toArray) w:=by simp[invoke,hc]
 refine .step (step_defer (fr:={ (bodyFrame f).atR a todo with mode:=.panicking [{ v:=pv,recovered:=false }] }) (by simp) hds rfl hinv) ?_
 have hle':=qN de
 have henter:kR P g cap.toArray .deferred=(deferFrame g).atR { tmps:=cap.toArray++WL (m-cap.length) undef,defers:=[] } [.code c]:=by
  grind [kR,W6,deferFrame]
 rw[henter]
 refine t ⟨w,h,A.map (·.1)⟩ rfl w (W8 hw.pre.left) _ _ Φ (by simp;omega) (qg _ _) rfl ⟨_,cc::cs',rfl,rfl,_,cc::cs',rfl,rfl,?_⟩
 rintro w' ⟨h',B,hst,hR'⟩
 obtain⟨v,h2,B2,hv,hs2,hR⟩:=fin h' B hst.le hR' a he w' (hw.after hst)
 refine .step (jh (fn:=fn) (v:=v) rfl rfl rfl hf hv) ?_
 exact h1 v w' ⟨h2,B2,hs2,hR⟩
section
variable {P:Program} {b:Frame} {n:Nat} {k:List Item} {F:List Frame->(Machine->Prop)->Prop} {e:Env} {ds:List Deferred} {X:Cx} {h:HF} {L:LH}
theorem GJ(t:TT P b n (.code c::.inLoop c::k) F e ds X h L):TT P b n (.code (.loop c)::k) F e ds X h L:=
 λw hw a cs Φ h1 h2 h3 h4=>.step stepR_loop (t w hw a cs Φ h1 h2 h3 h4)
theorem De(t:TT P b n (.code c::.inLoop c::k) F e ds X h L):TT P b n (.inLoop c::k) F e ds X h L:=
 λw hw a cs Φ h1 h2 h3 h4=>.step stepR_inLoop (t w hw a cs Φ h1 h2 h3 h4)
end
def XRH{ρ : Type}(pe:Int->Value)(x:Except Int ρ)(φ : ρ->Value->HF->Prop)(r:Ending)(h':HF)(B:LH):Prop:=
 B=[]/\match x with
  |.ok u=>∃v,r=.returned v/\φ u v h'
  |.error p=>r=.panicked [{ v:=pe p,recovered:=false }]
abbrev KI{ρ : Type}(P:Program)(f:FuncId)(args:List Value)(h:HF)(pe:Int->Value)(x:Except Int ρ)(φ : ρ->Value->HF->Prop):Prop:=pJ P f args.toArray h [] (XRH pe x φ)
def exD{ρ : Type}[Inhabited ρ]:Except Int ρ->ρ
 |.ok r=>r
 |.error _=>default
def exOk{ρ : Type}:Except Int ρ->Prop
 |.ok _=>True
 |.error _=>False
theorem Us[Inhabited ρ]{x:Except Int ρ}(h:exOk x):x=.ok (exD x):=by cases x with
 |ok r=>rfl
 |error p=>exact h.elim
section
variable {P:Program} {f:FuncId} {n:Nat} {k:List Item} {e:Env} {X:Cx} {h:HF} {L:LH} {fn:Func} {ρ : Type} {pe:Int->Value} {x:Except Int ρ} {φ : ρ->Value->HF->Prop}
theorem Mp(ms:List Nat){u:ρ}(vs:List Value)(hf:P.funcs[f]? = some fn)(hr:fn.results=rs.toArray)(hv:tl P e L rs vs)(hx:x=.ok u)(hφ : φ u (retVal vs) h):
  TT P (bodyFrame f) n (.code .ret::k) (mV P X (XRH pe x φ)) e (marks ms) X h (L++markB ms):=
 yo ms (v:=retVal vs) hf (λa he w hw=>oL hr hv a he w hw) (λ_ hw=>hw.sub (List.nil_sublist _)) (by subst hx;exact⟨rfl,_,rfl,hφ⟩)
theorem Ms(ms:List Nat){p:Int}(hf:P.funcs[f]? = some fn)(hx:x=.error p):
  TP P (bodyFrame f) n [{ v:=pe p,recovered:=false }] (mV P X (XRH pe x φ)) e (marks ms) X h (L++markB ms):=
 KO ms hf (λ_ hw=>hw.sub (List.nil_sublist _)) (by subst hx;exact⟨rfl,rfl⟩)
end
section
variable {P:Program} {b:Frame} {n:Nat} {ops:Array Oper} {F:List Frame->(Machine->Prop)->Prop} {e:Env} {ds:List Deferred} {X:Cx} {h:HF} {L:LH} {K:Env->HF->LH->Prop}
variable {d:Option Nat} {ty:TypeId} {pos:String} {af:Array Edge} {g:Option (Nat×Bool)} {ρ : Type} {pe:Int->Value} {x:Except Int ρ} {φ : ρ->Value->HF->Prop}
theorem MK(hc:∀args w,(callFunc f args).run P w=.ok (.enter f args) w)(hs:KI P f vs h pe x φ)(hvs:as.toList.map e.ev=vs)(t':∀u v h',x=.ok u->h.le h'->φ u v h'->K (pute e d v) h' L)(tp:∀p h',x=.error p->h.le h'->∀e',AgE ops ⟨d,.call ⟨.value (.func f),as,ats⟩,ty,pos,af,g⟩ e e'->TP P b n [{ v:=pe p,recovered:=false }] F e' ds X h' L)(hg:guardB ops e ⟨d,.call ⟨.value (.func f),as,ats⟩,ty,pos,af,g⟩=true:=by rfl):
  Stp P b n ops F ds X ⟨d,.call ⟨.value (.func f),as,ats⟩,ty,pos,af,g⟩ e h L K:=
 GY (A:=[]) (Fr:=L) hc hvs hs rfl (λv' h' B de hR=>by
   obtain⟨rfl,hv⟩:=hR
   cases x with
   |ok u=>obtain⟨v,hv,hφ⟩:=hv;cases hv;exact t' _ _ _ rfl de hφ
   |error p=>cases hv)
  (λch h' B de hR=>by
   obtain⟨rfl,hv⟩:=hR
   cases x with
   |ok u=>obtain⟨v,hv,_⟩:=hv;cases hv
   |error p=>cases hv;exact tp _ _ rfl de) hg
theorem QJ[Inhabited ρ](hc:∀args w,(callFunc f args).run P w=.ok (.enter f args) w)(hs:KI P f vs h pe x φ)(hok:exOk x)(hvs:as.toList.map e.ev=vs)(t':∀v h',h.le h'->φ (exD x) v h'->K (pute e d v) h' L)(hg:guardB ops e ⟨d,.call ⟨.value (.func f),as,ats⟩,ty,pos,af,g⟩=true:=by rfl):
  Stp P b n ops F ds X ⟨d,.call ⟨.value (.func f),as,ats⟩,ty,pos,af,g⟩ e h L K:=
 MK hc hs hvs (λu v h' hx hl hφ=>by subst hx;exact t' v h' hl hφ) (λp h' hx=>by subst hx;exact hok.elim) hg
theorem pN[Inhabited ρ]{enc:ρ->Value}(hc:∀args w,(callFunc f args).run P w=.ok (.enter f args) w)(hs:IY P f vs h (exW pe enc x))(hok:exOk x)(hvs:as.toList.map e.ev=vs)(t':K (pute e d (enc (exD x))) h L)(hg:guardB ops e ⟨d,.call ⟨.value (.func f),as,ats⟩,ty,pos,af,g⟩=true:=by rfl):
  Stp P b n ops F ds X ⟨d,.call ⟨.value (.func f),as,ats⟩,ty,pos,af,g⟩ e h L K:=
 pu hc hs hvs (λu hu=>by
  obtain⟨r,hr,rfl⟩:=sn hu
  subst hr;exact t') (λp hp=>by
  obtain⟨q,hq,_⟩:=pz hp
  subst hq;exact hok.elim) hg
end
abbrev VQ{α : Type}(P:Program)(f:FuncId)(args:List Value)(h:HF)(R:Rp α)(E:TypeId)(xs:List α):Prop:=
 pJ P f args.toArray h [] (λr h' G=>h'=h/\∃b c,r=.returned (.slice b xs.length c)/\cN R E h xs b c G)
section
variable {P:Program} {f:FuncId} {n:Nat} {k:List Item} {e:Env} {X:Cx} {h hh:HF} {L A G Q:LH} {fn:Func} {α : Type} {R:Rp α} {E:TypeId} {xs ys:List α} {base:Option Addr} {cap:Nat}
theorem St.forgetG(s:St X h (A++(G++Q)) w):St X X.h0 G w:=
 (s.sub (L':=G) ((List.sublist_append_left G Q).trans (List.sublist_append_right A _))).lower
theorem TC(ms:List Nat)(hf:P.funcs[f]? = some fn)(hr:fn.results=rs.toArray)(hX:X.h0=hh)(hL:L=A++(G++Q))(hG:∀h1,cN R E h1 xs base cap G)(hv:tl P e L rs [.slice base xs.length cap])(hs:ys=xs):
  TT P (bodyFrame f) n (.code .ret::k) (mV P X (λr h' G=>h'=hh/\∃b c,r=.returned (.slice b ys.length c)/\cN R E hh ys b c G)) e (marks ms) X h (L++markB ms):=by
 subst hs hL
 exact yo ms (v:=.slice base ys.length cap) hf (λa he w hw=>oL hr hv a he w hw) (λw hw=>hw.forgetG) ⟨hX,_,_,rfl,hG _⟩
end
theorem cN.flat{R:Rp α}{h h1:HF}{cap:Nat}(hR:∀h h' cs x,R.rep h cs x->R.rep h' cs x)(g:cN R E h xs base cap G):cN R E h1 xs base cap G:=by
 have hc:∀{xs:List α}{cl:List Value},cS R h cl xs->cS R h1 cl xs:=by
  intro xs
  induction xs with
  |nil=>intro cl e;exact e
  |cons x xs ih=>rintro cl ⟨cs,rest,e,hl,hr,ht⟩;exact⟨cs,rest,e,hl,hR _ _ _ _ hr,ih ht⟩
 rcases g with g|⟨bk,cl,sp,e1,e2,e3⟩
 .exact .inl g
 .exact .inr ⟨bk,cl,sp,e1,hc e2,e3⟩
theorem MR{fl args:List Value}{h:HF}(hc:∀args w,(callFunc f args).run P w=.ok (.enter f args) w)(hr:VR P f (fl++args++cap) h A v):
  qX P (.func (.func f) fl.toArray cap.toArray) args h A v:=by
 intro w hp
 refine⟨.enter f (fl++args++cap).toArray,?_,lq (hr w hp)⟩
 simp[xH,invoke,hc]
section
variable {P:Program} {e:Env} {X:Cx} {h:HF} {L:LH} {d:Option Nat} {ty:TypeId} {pos:String} {af:Array Edge} {g:Option (Nat×Bool)}
theorem Ff{t:TypeId}{a c:Int}(hx:e.ev x=.int .i64 a)(hy:e.ev y=.int .i64 c)(hc:c≠0):
  ∀w,St X h L w->(execOp e.ev ⟨d,.binOp .quo t x y u,ty,pos,af,g⟩).run P w=.ok (.value (.int .i64 (kB .i64 (a.tdiv c)))) w:=λw _=>by
 simp[execOp,hx,hy,eqGuard,binOp,Op.intDiv,hc]
end
theorem LQ{N:Nat}(h:i<N)(hb:N<=9223372036854775807):zC .i64 (IntKind.i64.wrap (((N-i:Nat):Int)-1))=.int .i64 (((N-(i+1):Nat)):Int):=by grind [lv]
section
variable {P:Program} {e:Env} {X:Cx} {h:HF} {L:LH} {d:Option Nat} {ty:TypeId} {pos:String} {af:Array Edge} {g:Option (Nat×Bool)}
theorem gv(hx:e.ev x=.pointer (some q)):
  ∀w,St X h L w->(execOp e.ev ⟨d,.nilCheck x,ty,pos,af,g⟩).run P w=.ok (.value (.pointer (some q))) w:=λw _=>by
 simp[execOp,hx]
end
theorem Qo:∀(c A R:List Value),cut (A++(c++R)) A.length c.length=some c
 |[],A,R=>rfl
 |v::c,A,R=>by
  have h1:nth (A++(v::c++R)) A.length=some v:=by rw[i9];simp
  have h2:=Qo c (A++[v]) R
  grind [jA,zA,List.length_nil,jE,cut]
theorem CU{α : Type}{C:α->List Value}{sz:Nat}(hC:∀x,(C x).length=sz):∀{xs:List α}{i:Nat}{y:α},xs[i]? = some y->∃a b,xs=a++y::b/\a.length=i/\(a.flatMap C).length=i*sz
 |[],i,y,h=>by simp at h
 |x::xs,0,y,h=>by simp at h;subst h;exact⟨[],xs,rfl,rfl,by simp⟩
 |x::xs,i+1,y,h=>by
  obtain⟨a,b,e,h1,h2⟩:=CU hC (xs:=xs) (i:=i) (y:=y) (by simpa using h)
  grind
theorem Tc(hC:∀x,(C x).length=sz){y:α}(h:xs[i]? = some y):cut (xs.flatMap C++sp) (i*sz) sz=some (C y):=by
 obtain⟨a,b,rfl,_,h2⟩:=CU hC h
 grind [Qo]
theorem Mx(hC:∀x,(C x).length=sz){u y:α}(h:xs[i]? = some u):splice (xs.flatMap C++sp) (i*sz) (C y)=(xs.set i y).flatMap C++sp:=by
 obtain⟨a,b,rfl,h1,h2⟩:=CU hC h
 grind [ux]
theorem C1{α : Type}{R:Rp α}{C:α->List Value}(hR:∀h cs x,R.rep h cs x->cs=C x){h:HF}:∀{xs:List α}{cl:List Value},cS R h cl xs->cl=xs.flatMap C
 |[],cl,e=>e
 |x::xs,cl,⟨cs,rest,e,_,hr,ht⟩=>by rw[e,hR _ _ _ hr,C1 hR ht];rfl
theorem ID{α : Type}{R:Rp α}{C:α->List Value}(hR:∀h x,R.rep h (C x) x)(hC:∀x,(C x).length=R.sz)(h:HF):∀(xs:List α),cS R h (xs.flatMap C) xs
 |[]=>rfl
 |x::xs=>⟨C x,xs.flatMap C,rfl,hC x,hR h x,ID hR hC h xs⟩
theorem vu{α : Type}{C:α->List Value}{sz:Nat}(hC:∀x,(C x).length=sz):∀(xs:List α),(xs.flatMap C).length=xs.length*sz
 |[]=>by simp
 |x::xs=>by rw[List.flatMap_cons,jA,hC,vu hC xs,zA,Nat.add_mul];omega
theorem On{t:TypeId}(hT:P.underlying t=some (.slice E))(hz:∀w,(zeroValue E).run P w=.ok z w)(hzc:z.cells=zs.toArray)(hzl:zs.length=sz)(h1:∀v∈zs,one v=true)(hs0:0<sz){cc:Nat}(hb:w.heap[bk]? = some (.cells cl.toArray E (0,0)))(de:off+(n+1)*sz<=cl.length)(ty:TypeId):
  ∃vs,vs.length=(n+1)*sz/\(Builtin.clear_ #[t] ty #[.slice (some ⟨bk,off,none⟩) (n+1) cc]).run P w=.ok (.tuple #[]) { w with heap:=w.heap.setIfInBounds bk (.cells (splice cl off vs).toArray E (0,0)) }:=by
 refine⟨(Builtin.zeroCells z.cells (n+1)).toList,?_,?_⟩
 .simp[Builtin.zeroCells,hzc,hzl]
 .have hlen:(Builtin.zeroCells z.cells (n+1)).toList.length=(n+1)*sz:=by simp[Builtin.zeroCells,hzc,hzl]
  have h9:=lS (P:=P) off (Builtin.zeroCells z.cells (n+1)).toList 0 cl w hb (by rw[hlen];simpa using de) (λv hv=>by
   simp only[Builtin.zeroCells,Array.toList_map,qJ]at hv
   obtain⟨j,_,rfl⟩:=hv
   rw[hzc]
   have hj:j%zs.length<zs.length:=Nat.mod_lt _ (by omega)
   simp only[List.size_toArray]
   rw[getElem!_pos zs.toArray (j%zs.length) (by simpa using hj)]
   exact h1 _ (by simp))
  rw[Nat.add_zero]at h9
  simp only[Builtin.clear_,jL]
  simp[run_underlying hT,hz,h9]
section
variable {P:Program} {b:Frame} {n:Nat} {ops:Array Oper} {F:List Frame->(Machine->Prop)->Prop} {e:Env} {ds:List Deferred} {X:Cx} {h:HF} {L:LH} {K:Env->HF->LH->Prop}
variable {d:Option Nat} {ty:TypeId} {pos:String} {af:Array Edge} {g:Option (Nat×Bool)}
theorem Ov{t:TypeId}{lo:Operand}{n cap:Nat}(hT:P.underlying t=some (.slice E))(hS:tySz P E=some (sz,a))(hx:e.ev x=.slice (some ⟨bk,0,none⟩) n cap)(hlo:e.ev lo=.int .i64 (i:Nat))(hi:i<n)(hc:n<=cap)(hm:n-i=m):
  ∀w,St X h L w->(execOp e.ev ⟨d,.slice t x (some lo) none none,ty,pos,af,g⟩).run P w=.ok (.value (.slice (some ⟨bk,i*sz,none⟩) m (cap-i))) w:=λw hw=>by
 subst hm
 have h2:¬(cap=i):=by omega
 have h3:(⟨bk,0,none⟩:Addr).add (i*sz)=⟨bk,i*sz,none⟩:=oC bk (i*sz)
 simp[execOp,Instr.sliceAt,Instr.slice,Instr.sliceBounds,Instr.sliceBound,hx,hlo,asIntOf,run_underlying hT,fV hS,h2,h3,Nat.le_of_lt hi]
theorem QC(i:Nat){t:TypeId}{cc:Nat}(hT:P.underlying t=some (.slice E))(hz:∀w,(zeroValue E).run P w=.ok z w)(hzc:z.cells=zs.toArray)(hzl:zs.length=sz)(h1:∀v∈zs,one v=true)(hs0:0<sz)(hL:nth L i=some (bk,.cells cl.toArray E (0,0)))(hx:e.ev x=.slice (some ⟨bk,off,none⟩) (m+1) cc)(de:off+(m+1)*sz<=cl.length)(t':∀vs,vs.length=(m+1)*sz->K (pute e d (.tuple #[])) h (setNth L i (bk,.cells (splice cl off vs).toArray E (0,0))))(hg:guardB ops e ⟨d,.call ⟨.builtin .clear,#[x],#[t]⟩,ty,pos,af,g⟩=true:=by rfl):Stp P b n ops F ds X ⟨d,.call ⟨.builtin .clear,#[x],#[t]⟩,ty,pos,af,g⟩ e h L K:=
 iM hg λw hw=>by
  have hb:w.heap[bk]? = some (.cells cl.toArray E (0,0)):=by
   have h2:=hL
   rw[i9]at h2
   exact hw.own _ (xE h2)
  obtain⟨vs,hvl,hr⟩:=On (P:=P) (cc:=cc) hT hz hzc hzl h1 hs0 hb de ty
  refine⟨.tuple #[],_,h,_,?_,hw.write hL _,t' vs hvl⟩
  simp only[execOp,resolve,invoke,builtin]
  simp[hx,hr]
end
section
variable {P:Program} {b:Frame} {n:Nat} {ops:Array Oper} {F:List Frame->(Machine->Prop)->Prop} {e:Env} {ds:List Deferred} {X:Cx} {h:HF} {L:LH} {K:Env->HF->LH->Prop}
variable {d:Option Nat} {ty:TypeId} {pos:String} {af:Array Edge} {g:Option (Nat×Bool)}
theorem TU{R:Rp α}(hc:∀args w,(callFunc f args).run P w=.ok (.enter f args) w)(hs:VQ P f vs h R E xs)(hvs:ass.toList.map e.ev=vs)(t':∀bb c G,cN R E h xs bb c G->K (pute e d (.slice bb xs.length c)) h (L++G))(hg:guardB ops e ⟨d,.call ⟨.value (.func f),ass,ats⟩,ty,pos,af,g⟩=true:=by rfl):
  Stp P b n ops F ds X ⟨d,.call ⟨.value (.func f),ass,ats⟩,ty,pos,af,g⟩ e h L K:=by
 unfold Stp
 rw[if_pos hg]
 intro w hw
 have harr:ass.map e.ev=vs.toArray:=xS (by simp[←hvs])
 have hr:(execOp e.ev ⟨d,.call ⟨.value (.func f),ass,ats⟩,ty,pos,af,g⟩).run P w=.ok (.enter f vs.toArray) w:=by
  simp[execOp,resolve,XQ,xH,invoke,harr,hc]
 rw[hr]
 refine mO (by simp) (lq (tr.mono (hs w (hw.sub (List.nil_sublist _)).pre) ?_))
 rintro x w' ⟨h',B,hst,rfl,bb,c,rfl,hG⟩
 exact⟨h',_,(Xd (A:=[]) (F:=L) hw hst).perm xG,t' bb c B hG⟩
end
section
variable {P:Program} {b:Frame} {n:Nat} {k:List Item} {F:List Frame->(Machine->Prop)->Prop} {ds:List Deferred} {X:Cx}
theorem UT{J:HF->LH->Prop}(m0:Nat)(Inv:σ->Env->HF->LH->Prop)(μ : σ->Nat)(dn:σ->List Nat)(fin:∀s e h L,Inv s e h L->μ s=0->TA P b n l.toArray k F ds X J m0 (dn s) e h L)(step:∀s e h L,Inv s e h L->μ s≠0->nexts l.toArray (dn s)≠[]/\∀i∈nexts l.toArray (dn s),∀o,nth l i=some o->Stp P b n l.toArray F ds X o e h L (λe' h' L'=>J h' L'/\∃s',μ s=μ s'+1/\(i::dn s).Perm (dn s')/\Inv s' e' h' L')):
  ∀(m:Nat)(s:σ)(e:Env)(h:HF)(L:LH),μ s=m->Inv s e h L->TA P b n l.toArray k F ds X J (m+m0) (dn s) e h L:=by
 intro m
 induction m with
 |zero=>intro s e h L hm hI;rw[Nat.zero_add];exact fin s e h L hI hm
 |succ m ih=>
  intro s e h L hm hI
  obtain⟨h0,h1⟩:=step s e h L hI (by omega)
  rw[show m+1+m0=(m+m0)+1 from by omega]
  refine⟨λhn=>absurd hn h0,λi hi o ho=>Stp.mono ?_ (h1 i hi o (by rw[i9];simpa using ho))⟩
  rintro e' h' L' ⟨hj,s',hs,hp,hI'⟩
  exact⟨hj,TA.perm (λx=>hp.mem_iff.symm) (ih s' e' h' L' (by omega) hI')⟩
theorem TQ{dn:List Nat}{h:HF}{L:LH}{Q:Nat->Env->HF->LH->Prop}(is:List Nat)(hn:nexts l.toArray dn=is)(h0:is≠[])(t:∀i∈is,∀o,nth l i=some o->Stp P b n l.toArray F ds X o e h L (Q i)):nexts l.toArray dn≠[]/\∀i∈nexts l.toArray dn,∀o,nth l i=some o->Stp P b n l.toArray F ds X o e h L (Q i):=by grind
end
theorem pmid{T X X':List α}{i:α}(h:(i::X).Perm X'):(i::(T++X)).Perm (T++X'):=List.perm_middle.symm.trans (List.Perm.append_left T h)
section
variable {P:Program} {b:Frame} {n:Nat} {ops:Array Oper} {F:List Frame->(Machine->Prop)->Prop} {e:Env} {ds:List Deferred} {X:Cx} {h:HF} {L:LH} {K:Env->HF->LH->Prop}
variable {d:Option Nat} {ty:TypeId} {pos:String} {af:Array Edge} {g:Option (Nat×Bool)}
theorem J7{t:TypeId}{ln cp:Operand}(hT:P.underlying t=some (.slice E))(hz:zeroC P E=some [z])(hS:tySz P E=some (1,a))(hby:bytesOf P E=some vx)(hl:e.ev ln=.int .i64 (m:Nat))(hc:e.ev cp=.int .i64 (m:Nat))(hb:vx*m<=281474976710656)(h63:m<=9223372036854775807)(t':∀bk,K (pute e d (.slice (some ⟨bk,0,none⟩) m m)) h ((bk,.cells (List.replicate m z).toArray E (0,0))::L))(hg:guardB ops e ⟨d,.makeSlice t ln cp,ty,pos,af,g⟩=true:=by rfl):Stp P b n ops F ds X ⟨d,.makeSlice t ln cp,ty,pos,af,g⟩ e h L K:=
 iM hg λw hw=>by
  obtain⟨i,hi,hby'⟩:∃i,P.info? E=some i/\i.bytes=vx:=by
   unfold bytesOf at hby
   cases hi:P.info? E with
   |none=>simp[hi]at hby
   |some i=>exact⟨i,rfl,by simpa[hi]using hby⟩
  have hsz:i.size=1:=by
   have:=fV hS w
   simpa[sizeOf,typeInfo,hi]using this
  obtain⟨zv,hzz,hzc⟩:∃zv,i.zero=some zv/\zv.cells=#[z]:=by
   unfold zeroC at hz
   cases hzz:i.zero with
   |none=>simp[hi,hzz]at hz
   |some zv=>exact⟨zv,rfl,by simp[hi,hzz]at hz;rw[mM,hz]⟩
  have hr:=run_make (P:=P) w t E i zv hT hi hzz .i64 .i64 (m:Int) (m:Int) (by omega) (Int.le_refl _) (by rw[hby'];omega) (by omega)
  have hcells:madeCells zv.cells ((m:Int).toNat*i.size)=(List.replicate m z).toArray:=by
   rw[hzc,hsz]
   apply Array.ext
   .simp[madeCells]
   .intro j h1 h2;simp[madeCells,Nat.mod_one]
  rw[hcells]at hr
  simp only[Int.toNat_natCast]at hr
  refine⟨_,_,h,_,?_,hw.alloc _,t' _⟩
  have e1:w.alloc (.cells (List.replicate m z).toArray E)={ w with heap:=w.heap.push (.cells (List.replicate m z).toArray E (0,0)) }:=rfl
  rw[e1]at hr
  simp[execOp,hl,hc,hr]
end
theorem KT{F:List Frame->(Machine->Prop)->Prop}{h:HF}{L:LH}{K:Env->HF->LH->Prop}{o:Oper}(sl:List (Nat×Value))(hr:iD e sl)(t:Stp P b n ops F ds X o (upds e sl) h L K):Stp P b n ops F ds X o e h L K:=by
 rw[hr.upds]at t;exact t
theorem UR{F:List Frame->(Machine->Prop)->Prop}{h:HF}{L:LH}(sl:List (Nat×Value))(hr:iD e sl)(t:TT P b n k F (upds e sl) ds X h L):TT P b n k F e ds X h L:=by
 rw[hr.upds]at t;exact t
section
variable {P:Program} {b:Frame} {n:Nat} {k:List Item} {F:List Frame->(Machine->Prop)->Prop} {e:Env} {ds:List Deferred} {X:Cx} {h:HF} {L:LH}
theorem lp3{γ:Type}{x0:ρ}(xs:List α)(sl:Nat->γ->List (Nat×Value))(hh:γ->HF)(LL:γ->LH)(J JX:Nat->γ->Prop)(hJX:∀i g,J i g->JX i g)(Lf:List α->Nat->γ->ρ)(g0:γ)(hb:xs.length<=9223372036854775807)(hs:x0=Lf xs 0 g0)(hJ:J 0 g0)(after:∀i g,i<=xs.length->x0=Lf [] i g->JX i g->∀e',TT P b n k F (upds e' (sl i g)) ds X (hh g) (LL g))(cons:∀i g y r,xs.drop i=y::r->decide ((i:Int)<(xs.length:Int))=true->xs[i]? = some y->i<xs.length->xs.length<=9223372036854775807->x0=Lf (y::r) i g->J i g ->
   (∀i' g' {e'},x0=Lf [] i' g'->JX i' g'->(hi:i'<=xs.length:=by omega)->(hr:iD e' (sl i' g'):=by exact rds)->TT P b n k F e' ds X (hh g') (LL g')) ->
   (∀g' {e'},x0=Lf r (i+1) g'->J (i+1) g'->(hr:iD e' (sl (i+1) g'):=by exact rds)->TT P b n (.inLoop c::.inBlock id::k) F e' ds X (hh g') (LL g')) ->
   ∀e',TT P b n (.code c::.inLoop c::.inBlock id::k) F (upds e' (sl i g)) ds X (hh g) (LL g))(nil:∀i g,xs.drop i=[]->decide ((i:Int)<(xs.length:Int))=false->(∀e',iD e' (sl i g)->TT P b n k F e' ds X (hh g) (LL g)) ->
   ∀e',TT P b n (.code c::.inLoop c::.inBlock id::k) F (upds e' (sl i g)) ds X (hh g) (LL g):=by exact ndA)(h0:iD e (sl 0 g0):=by exact rds)(hw:∀w,St X h L w->St X (hh g0) (LL g0) w:=by exact sws):
  TT P b n (.code (.block id (.loop c))::k) F e ds X h L:=by
 refine gB (ι:=Nat×γ) (λi=>sl i.1 i.2) (λi=>hh i.2) (λi=>LL i.2) (λi=>i.1<=xs.length/\x0=Lf [] i.1 i.2/\JX i.1 i.2) ?_ (λhx=>?_)
 .rintro⟨i,g⟩ ⟨h1,h2,h3⟩ e'
  exact after i g h1 h2 h3 e'
 .refine ju (ι:=Nat×γ×List α) (λi=>sl i.1 i.2.1) (λi=>hh i.2.1) (λi=>LL i.2.1) (λi=>xs.drop i.1=i.2.2/\i.1<=xs.length/\x0=Lf i.2.2 i.1 i.2.1/\J i.1 i.2.1) (λi=>i.2.2.length) (0,g0,xs) h0 hw ⟨rfl,zH _,hs,hJ⟩ ?_
  rintro⟨i,g,s⟩ ⟨hd,hi,hs,hJ⟩ ag e'
  dsimp only at hd hi hs hJ
  rcases s with _|⟨y,r⟩
  .exact nil i g hd (nF hd) (λe'' hr=>hx (i,g) e'' ⟨hi,hs,hJX _ _ hJ⟩ hr) e'
  .exact cons i g y r hd (tc hd) (rJ hd) (ip hd) hb hs hJ (λi' g' e'' a b c d=>hx (i',g') e'' ⟨c,a,b⟩ d)
    (λg' e'' a b hr=>ag (i+1,g',r) e'' (Nat.lt_succ_self _) ⟨kx hd,ip hd,a,b⟩ hr) e'
end
end
variable {h:HF}
section
section
variable {α : Type} {R:Rp α} {T:TypeId}
def V3(_:HF)(v:Value)(x:Option Addr×Nat×Nat):Prop:=v=.slice x.1 x.2.1 x.2.2
def FRg(R:Rp α)(T:TypeId)(h:HF):List (Int×Option Addr×Nat×Nat)->List (Int×List α)->LH->Prop
 |[],[],G=>G=[]
 |(k,x)::m,(k',xs)::f,G=>k=k'/\x.2.1=xs.length/\∃G1 G2,G=G1++G2/\cN R T h xs x.1 x.2.2 G1/\FRg R T h m f G2
 |_,_,_=>False
theorem V3.mono:El V3:=λ_ _ _ _ _ e=>e
theorem FRg.mono(hR:R.Mono){h h':HF}(hl:h.le h'):∀{m:List (Int×Option Addr×Nat×Nat)}{f:List (Int×List α)}{G:LH},FRg R T h m f G->FRg R T h' m f G
 |[],[],_,e=>e
 |(_,_)::_,(_,_)::_,_,⟨a,b,G1,G2,c,d,t⟩=>⟨a,b,G1,G2,c,d.mono hR hl,FRg.mono hR hl t⟩
 |[],(_,_)::_,_,x=>x.elim
 |(_,_)::_,[],_,x=>x.elim
theorem FRg.get{h:HF}(k:Int):∀{m:List (Int×Option Addr×Nat×Nat)}{f:List (Int×List α)}{G:LH},FRg R T h m f G ->
  ∃b c G1 G2,mgetD m k (none,0,0)=(b,(mgetD f k []).length,c)/\cN R T h (mgetD f k []) b c G1/\G.Perm (G1++G2) /\
   ∀b' c' xs' G1',cN R T h xs' b' c' G1'->∃G',FRg R T h (mput m k (b',xs'.length,c')) (mput f k xs') G'/\G'.Perm (G1'++G2)
 |[],[],G,e=>by
  subst e
  refine⟨none,0,[],[],rfl,cN.nil,List.Perm.refl _,λb' c' xs' G1' hG=>⟨G1',⟨rfl,rfl,G1',[],by simp,hG,rfl⟩,by simp⟩⟩
 |(k0,x)::m,(k',xs)::f,G,⟨e,hn,G1,G2,hG,hg,t⟩=>by
  subst e hG
  by_cases hk:k=k0
  .subst hk
   refine⟨x.1,x.2.2,G1,G2,?_,?_,List.Perm.refl _,λb' c' xs' G1' hG'=>⟨G1'++G2,?_,List.Perm.refl _⟩⟩
   .simp[mgetD,mget?,←hn]
   .simpa[mgetD,mget?]using hg
   .simp only[mput,if_true]
    exact⟨rfl,rfl,G1',G2,rfl,hG',t⟩
  .obtain⟨b,c,H1,H2,h1,h2,h3,h4⟩:=FRg.get k t
   refine⟨b,c,H1,G1++H2,?_,?_,?_,λb' c' xs' G1' hG'=>?_⟩
   .simpa[mgetD,mget?,hk]using h1
   .simpa[mgetD,mget?,hk]using h2
   .refine(List.Perm.append_left G1 h3).trans ?_
    rw[←jE,←jE];exact List.Perm.append_right H2 xG
   .obtain⟨G',g1,g2⟩:=h4 b' c' xs' G1' hG'
    refine⟨G1++G',?_,?_⟩
    .simp only[mput,hk,if_false]
     exact⟨rfl,hn,G1,G',rfl,hg,g1⟩
    .refine(List.Perm.append_left G1 g2).trans ?_
     rw[←jE,←jE];exact List.Perm.append_right H2 xG
 |[],(_,_)::_,_,x=>x.elim
 |(_,_)::_,[],_,x=>x.elim
theorem FRg.keys{h:HF}:∀{m:List (Int×Option Addr×Nat×Nat)}{f:List (Int×List α)}{G:LH},FRg R T h m f G->m.map (·.1)=f.map (·.1)
 |[],[],_,_=>rfl
 |(_,_)::_,(_,_)::_,_,⟨a,_,_,_,_,_,t⟩=>by simp[a,FRg.keys t]
 |[],(_,_)::_,_,x=>x.elim
 |(_,_)::_,[],_,x=>x.elim
theorem FRg.mem{h:HF}:∀{m:List (Int×Option Addr×Nat×Nat)}{f:List (Int×List α)}{G:LH},FRg R T h m f G->(m.map (·.1)).Nodup->∀p∈m,p.2.2.1=(mgetD f p.1 []).length/\∃G1,(∀q∈G1,q∈G)/\cN R T h (mgetD f p.1 []) p.2.1 p.2.2.2 G1
 |[],[],_,_,_,_,hp=>(kA hp).elim
 |(k,x)::m,(k',xs)::f,G,⟨e,hn,G1,G2,hG,hg,t⟩,hnd,p,hp=>by
  subst e hG
  rw[kG,jR]at hnd
  rcases kD.1 hp with rfl|hp
  .exact⟨by simp[mgetD,mget?,hn],G1,λq hq=>List.mem_append_left _ hq,by simpa[mgetD,mget?]using hg⟩
  .have hne:¬p.1=k:=λe=>hnd.1 (by have h9:=WK (f:=(·.1)) hp;rw[e]at h9;exact h9)
   obtain⟨h1,H,h2,h3⟩:=FRg.mem t hnd.2 p hp
   exact⟨by simpa[mgetD,mget?,hne]using h1,H,λq hq=>List.mem_append_right _ (h2 q hq),by simpa[mgetD,mget?,hne]using h3⟩
 |[],(_,_)::_,_,x,_,_,_=>x.elim
 |(_,_)::_,[],_,x,_,_,_=>x.elim
theorem Nf{β : Type}:∀{f:List (Int×β)}(z:β),(f.map (·.1)).Nodup->f=f.map λp=>(p.1,mgetD f p.1 z)
 |[],_,_=>rfl
 |(k,x)::f,z,hn=>by
  rw[kG,jR]at hn
  rw[kG]
  congr 1
  .simp[mgetD,mget?]
  .have ih:=Nf z hn.2
   conv=>lhs;rw[ih]
   apply List.map_congr_left
   intro p hp
   have hne:¬p.1=k:=λe=>hn.1 (by have h9:=WK (f:=(·.1)) hp;rw[e]at h9;exact h9)
   simp[mgetD,mget?,hne]
theorem Od{h:HF}{h2:HF}(g:Int->List α):∀{es:List MapEntry}{m:List (Int×Option Addr×Nat×Nat)},rP (zC .i64) V3 h es m ->
  (∀p∈m,p.2.2.1=(g p.1).length/\SlC R h2 p.2.1 p.2.2.2 (g p.1))->rP (zC .i64) (VSl R) h2 es (m.map λp=>(p.1,g p.1))
 |[],[],_,_=>trivial
 |e::es,(k,x)::m,⟨a,b,c⟩,hg=>by
  obtain⟨h1,h3⟩:=hg (k,x) (vB ..)
  refine⟨a,⟨x.1,x.2.2,?_,h3⟩,Od g c λp hp=>hg p (xC _ hp)⟩
  rw[show e.val=.slice x.1 x.2.1 x.2.2 from b,h1]
 |[],_::_,x,_=>x.elim
 |_::_,[],x,_=>x.elim
theorem FRg.frozen(hR:R.Mono){h2:HF}{m:List (Int×Option Addr×Nat×Nat)}{f:List (Int×List α)}(hm:lr (zC .i64) V3 h o m)(hf:FRg R T h m f G)(hl:h.le h2)(hG:∀p∈G,h2 p.1=some p.2):
  lr (zC .i64) (VSl R) h2 o f:=by
 have hnd:=hm.nodup
 have hk:=hf.keys
 obtain⟨m',hp,hn,es,c,rfl,hE,h1,h3⟩:=hm
 have hmem:=hf.mem hnd
 have hfe:=Nf (f:=f) [] (hk▸hnd)
 have hfm:f=m.map λp=>(p.1,mgetD f p.1 []):=by
  have e1:(f.map λp=>(p.1,mgetD f p.1 []))=(f.map (·.1)).map λk=>(k,mgetD f k []):=by rw[List.map_map];rfl
  have e2:(m.map λp=>(p.1,mgetD f p.1 []))=(m.map (·.1)).map λk=>(k,mgetD f k []):=by rw[List.map_map];rfl
  rw[e2,hk,←e1];exact hfe
 refine⟨m'.map λp=>(p.1,mgetD f p.1 []),?_,?_,es,c,rfl,Od (λk=>mgetD f k []) hE λp hp'=>?_,h1,h3⟩
 .have hpm:=hp.map λp=>(p.1,mgetD f p.1 ([]:List α))
  rw[←hfm]at hpm;exact hpm
 .rw[List.map_map];exact hn
 .obtain⟨h5,G1,h6,h7⟩:=hmem p (hp.mem_iff.1 hp')
  exact⟨h5,h7.frozen hR hl λq hq=>hG q (h6 q hq)⟩
end
end
end Go.Sg
