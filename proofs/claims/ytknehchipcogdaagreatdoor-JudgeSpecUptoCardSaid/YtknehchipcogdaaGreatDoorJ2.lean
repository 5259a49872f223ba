import Derived.Recover
import Derived.Maps.RangeRun
import Derived.Conc.LoneCalls
import Derived.RangeFuncNested
import Derived.Laws.MakeOwn
import Derived.Test.YtknehchipcogdaaGreatDoorJ1
/- A part of the proof of JudgeSpec. -/
set_option linter.unusedVariables false
set_option linter.unusedSimpArgs false
set_option maxRecDepth 100000
open List renaming length_cons→xA,not_mem_nil→vA,length_append→kA,mem_cons_self→zB,mem_cons_of_mem→qC,append_assoc→zC,mem_cons→vC,perm_append_comm→zD,mem_of_getElem?→kD,map_cons→jG,mem_map→qM,all_eq_true→qP,nodup_cons→jQ,mem_map_of_mem→zT,nodup_nil→XV
open Bool renaming and_eq_true→jA,false_eq_true→kT
open Go.Sg.Rp renaming int→jB,bG→vJ
open Go.Value renaming int→jC,func→zQ
open Go.IntKind renaming wrap→jD
open Nat renaming le_refl→zE,blt→kH,zero_le→kJ,le_of_ble_eq_true→jM,le_trans→zN,lt_of_lt_of_le→Ya,ble→YE
open Go.Sg.HF renaming le_refl→vF,le→zM
open Go.Obj renaming cells→vG,loop→ZK
open Go.Deferred renaming ofValue→jH
open Go.Result renaming andThen_ok→xK
open Go.Sem renaming run_bind→kL,run_pure→Yy,run→Zs
open Go.Addr renaming add→jP
open Go.Frame renaming enter→xR,atR→Yr
open Array renaming ext'→qV,replicate→X4,foldl_toList→Zg
open Go.Instr renaming endLoop→Ye,getLoop→YC,fill→Y0,enterLoop→Y9
open Go.Sg.St renaming start→Yw,after→Yx
open Go.Sg.Env renaming ev→Zc

namespace Go.Sg
variable {P:Program}{X:Cx}{a:Bool}{b:Frame}{bk m n off:Nat}{cl vs:List Go.Value}{ds:List Deferred}{e:Env}{fs:List Field}{i:Int}{ix x y:Operand}{k:List Item}{l:List Oper}{ops:Array Oper}{v:Go.Value}
section
def eqv:Option Value->Option Value->Bool
 |some (.int _ a),some (.int _ b)=>a==b
 |some (.bool a),some (.bool b)=>a==b
 |_,_=>false
def okF(P:Program)(xs ys:List Value)(f:Field):Bool:=
 !(f.name == "_") && (match tySz P f.type with|some (1, false) => true|_ => false) && (match P.underlying f.type, nth xs f.offset, nth ys f.offset with
  |some (.int _),some (.int j _),some (.int k _)=>decide (j=k)
  |some .bool,some (.bool _),some (.bool _)=>true
  |_,_,_=>false)
theorem uR{t:TypeId}{xs:List Value}(hT:tySz P t=some (1,false))(hv:nth xs off=some v)(w:World):(part t xs.toArray off).run P w=.ok v w:=by
 rw[ja]at hv
 simp[part,HP hT,iP hT,hv]
theorem LQ{xs ys:List Value}{f:Field}(h : okF P xs ys f = true) : f.name ≠ "_" /\ tySz P f.type = some (1, false) /\
  ((∃k j a b,P.underlying f.type=some (.int k)/\nth xs f.offset=some (.int j a)/\nth ys f.offset=some (.int j b))\/∃a b,P.underlying f.type=some .bool/\nth xs f.offset=some (.bool a)/\nth ys f.offset=some (.bool b)):=by grind [okF]
theorem DH{P:Program}{d:Nat}{xs ys:List Value}(w:World):∀(fs:List Field),fs.all (okF P xs ys)=true ->
  (Op.eqFields (d+1) xs.toArray ys.toArray fs).run P w=.ok (fs.all λf=>eqv (nth xs f.offset) (nth ys f.offset)) w
 |[],_=>by simp[Op.eqFields]
 |f::fs,h=>by
  rw[List.all_cons,jA]at h
  obtain⟨h1,h2⟩:=h
  have ih:=DH (d:=d) w fs h2
  obtain⟨hn,hT,⟨k,j,a,b,hu,hx,hy⟩|⟨a,b,hu,hx,hy⟩⟩:=LQ h1
  .rw[Op.eqFields,if_pos hn,List.all_cons,hx,hy]
   simp only[kL,uR hT hx,uR hT hy,xK,run_equalIn_int w d _ _ _ _ _ hu,eqv]
   cases hab:(a==b)
   .simp
   .simp only[Bool.not_true,kT,if_false,Bool.true_and];exact ih
  .rw[Op.eqFields,if_pos hn,List.all_cons,hx,hy]
   simp only[kL,uR hT hx,uR hT hy,xK,run_equalIn_bool' w d _ _ _ hu,eqv]
   cases hab:(a==b)
   .simp
   .simp only[Bool.not_true,kT,if_false,Bool.true_and];exact ih
theorem ux{t:TypeId}{xs ys:List Value}{r:Bool}(hT:P.underlying t=some (.struct fs.toArray))(hp:P.stoodInHeld t=false)(hok:fs.all (okF P xs ys)=true)(hr:(fs.all λf=>eqv (nth xs f.offset) (nth ys f.offset))=r)(w:World):(Op.equal t (.agg xs.toArray) (.agg ys.toArray)).run P w=.ok r w:=by
 have hf:P.fieldsOf t=fs.toArray:=by simp[Program.fieldsOf,hT]
 have:=run_equalIn_struct (P:=P) w 9999 t xs.toArray ys.toArray (by rw[hf];exact hT) hp
 rw[hf]at this
 rw[Op.equal,Op.maxDepth,this,←hr]
 exact DH w fs hok
theorem vg{t:TypeId}{xs:List Value}(e:Bool)(hT:P.underlying t=some (.struct fs.toArray))(hok:fs.all (okF P xs xs)=true)(w:World):
  (Instr.checkKey e 10000 t (.agg xs.toArray)).run P w=.ok () w:=by
 rw[show(10000:Nat)=9999+1 from rfl,Instr.checkKey]
 simp only[kL,run_underlying hT,xK]
 rw[←Array.forIn_toList]
 simp only
 clear hT
 induction fs with
 |nil=>simp
 |cons f fs ih=>
  rw[List.all_cons,jA]at hok
  have ih:=ih hok.2
  obtain⟨hn,hT,⟨k,j,a,b,hu,hx,hy⟩|⟨a,b,hu,hx,hy⟩⟩:=LQ hok.1
  .have hc:(Instr.checkKey e 9999 f.type (.int j a)).run P w=.ok () w:=by
    rw[show(9999:Nat)=9998+1 from rfl,Instr.checkKey]
    simp[run_underlying hu]
   simp only[List.forIn_cons,if_pos hn,kL,uR hT hx,xK,hc,Yy]
   simpa using ih
  .have hc:(Instr.checkKey e 9999 f.type (.bool a)).run P w=.ok () w:=by
    rw[show(9999:Nat)=9998+1 from rfl,Instr.checkKey]
    simp[run_underlying hu]
   simp only[List.forIn_cons,if_pos hn,kL,uR hT hx,xK,hc,Yy]
   simpa using ih
theorem H8(vs:List Value):∀(cl:List Value),vs.length=cl.length->splice cl 0 vs=vs:=by
 intro cl hl
 have:=BE vs [] cl (by omega)
 simp at this
 rw[this,hl]
 simp
theorem cJ{F:List Frame->(Machine->Prop)->Prop}{h:HF}{L:LH}{ty:TypeId}{pos:String}{af:Array Edge}{g:Option (Nat×Bool)}(i:Nat){t:TypeId}{T:Nat}(hT:tySz P t=some (m,a))(hx:e.ev x=.pointer (some ⟨bk,0,none⟩))(hL:nth L i=some (bk,.cells cl.toArray T (0,0)))(hv:e.ev y=.agg vs.toArray)(hm:vs.length=m)(hc:cl.length=m)(h1:vs.all one=true)(t':TO P b n ops l k F e ds X h (setNth L i (bk,.cells vs.toArray T (0,0))))(hg:guardB ops e ⟨none,.store t x y,ty,pos,af,g⟩=true:=by rfl):TO P b n ops (⟨none,.store t x y,ty,pos,af,g⟩::l) k F e ds X h L:=by
 refine dK i hT hx hL (vs:=vs) (by rw[hv];simp[vcells]) hm (by rw[Nat.zero_add,hm,hc];simp) h1 ?_ hg
 grind [H8]
section runs
variable {P:Program} {e:Env} {X:Cx} {h:HF} {L:LH} {d:Option Nat} {ty:TypeId} {pos:String} {af:Array Edge} {g:Option (Nat×Bool)}
theorem Wi{t u:TypeId}{xs ys:Array Value}{r:Bool}(hq:∀w,(Op.equal t (.agg xs) (.agg ys)).run P w=.ok r w)(hm:P.eqGuardType P.depth t=false)(hx:e.ev x=.agg xs)(hy:e.ev y=.agg ys):
  ∀w,St X h L w->(execOp e.ev ⟨d,.binOp .eql t x y u,ty,pos,af,g⟩).run P w=.ok (.value (.bool r)) w:=
 λw _=>by
  have h1:=run_eqGuard_agg (P:=P) w .eql t x y xs ys hm
  have h2:=hq w
  simp[execOp,hx,hy,h1,binOp,h2]
theorem Wz{t:TypeId}{s:ByteArray}(hT:P.underlying t=some .string)(hx:e.ev x=.string s)(hix:e.ev ix=.int .i64 i)(hi:0<=i/\i<(s.size:Int)):
  ∀w,St X h L w->(execOp e.ev ⟨d,.index t x ix,ty,pos,af,g⟩).run P w=.ok (.value (.int .u8 ((s.data.getD i.toNat 0).toNat:Nat))) w:=
 λw _=>by
  obtain⟨n,rfl⟩:=Int.eq_ofNat_of_zero_le hi.1
  have hn:n<s.size:=by omega
  have hn':n<s.data.size:=hn
  simp[execOp,Instr.index,hix,hx,asIntOf,run_underlying hT,hn]
  rfl
end runs
end
section
structure aV where
 bw:Int
 fD:Int
deriving DecidableEq
instance:Inhabited aV:=⟨⟨0,0⟩⟩
def aV.cells(x:aV):List Go.Value:=[.int .i64 x.bw,.int .i64 x.fD]
abbrev aV.enc(x:aV):Go.Value:=.agg (aV.cells x).toArray
def aV.rp:Rp aV:=⟨2,λ_ cs x=>cs=aV.cells x⟩
theorem aV.aB:aV.rp.Mono:=λ_ _ _ _ _ e=>e
theorem aV.ft:aV.rp.Good:=⟨aV.aB,λ_ _ _ e=>by cases e;rfl,by decide⟩
structure Use where
 Doc:Int
 Kind:Int
 Value:Int
 At:Int
 eH:Int
deriving DecidableEq
instance:Inhabited Use:=⟨⟨0,0,0,0,0⟩⟩
def Use.cells(x:Use):List Go.Value:=[.int .i64 x.Doc,.int .i64 x.Kind,.int .i64 x.Value,.int .i64 x.At,.int .i64 x.eH]
abbrev Use.enc(x:Use):Go.Value:=.agg (Use.cells x).toArray
def Use.rp:Rp Use:=⟨5,λ_ cs x=>cs=Use.cells x⟩
theorem Use.aB:Use.rp.Mono:=λ_ _ _ _ _ e=>e
theorem Use.ft:Use.rp.Good:=⟨Use.aB,λ_ _ _ e=>by cases e;rfl,by decide⟩
structure aA where
 No:Int
 At:Int
 eH:Int
 dQ:Int
 bw:Int
 fD:Int
 mU:Bool
deriving DecidableEq
instance:Inhabited aA:=⟨⟨0,0,0,0,0,0,false⟩⟩
def aA.cells(x:aA):List Go.Value:=[.int .i64 x.No,.int .i64 x.At,.int .i64 x.eH,.int .i64 x.dQ,.int .i64 x.bw,.int .i64 x.fD,.bool x.mU]
abbrev aA.enc(x:aA):Go.Value:=.agg (aA.cells x).toArray
def aA.rp:Rp aA:=⟨7,λ_ cs x=>cs=aA.cells x⟩
theorem aA.aB:aA.rp.Mono:=λ_ _ _ _ _ e=>e
theorem aA.ft:aA.rp.Good:=⟨aA.aB,λ_ _ _ e=>by cases e;rfl,by decide⟩
structure aE where
 No:Int
 At:Int
 eH:Int
 nS:Int
 From:Int
 To:Int
 dQ:Int
 Kind:Int
 N5:Int
 mU:Bool
deriving DecidableEq
instance:Inhabited aE:=⟨⟨0,0,0,0,0,0,0,0,0,false⟩⟩
def aE.cells(x:aE):List Go.Value:=[.int .i64 x.No,.int .i64 x.At,.int .i64 x.eH,.int .i64 x.nS,.int .i64 x.From,.int .i64 x.To,.int .i64 x.dQ,.int .i64 x.Kind,.int .i64 x.N5,.bool x.mU]
abbrev aE.enc(x:aE):Go.Value:=.agg (aE.cells x).toArray
def aE.rp:Rp aE:=⟨10,λ_ cs x=>cs=aE.cells x⟩
theorem aE.aB:aE.rp.Mono:=λ_ _ _ _ _ e=>e
theorem aE.ft:aE.rp.Good:=⟨aE.aB,λ_ _ _ e=>by cases e;rfl,by decide⟩
structure av where
 No:Int
 At:Int
 eH:Int
 bw:Int
 eG:Int
 Of:Bool
 mU:Bool
deriving DecidableEq
instance:Inhabited av:=⟨⟨0,0,0,0,0,false,false⟩⟩
def av.cells(x:av):List Go.Value:=[.int .i64 x.No,.int .i64 x.At,.int .i64 x.eH,.int .i64 x.bw,.int .i64 x.eG,.bool x.Of,.bool x.mU]
abbrev av.enc(x:av):Go.Value:=.agg (av.cells x).toArray
def av.rp:Rp av:=⟨7,λ_ cs x=>cs=av.cells x⟩
theorem av.aB:av.rp.Mono:=λ_ _ _ _ _ e=>e
theorem av.ft:av.rp.Good:=⟨av.aB,λ_ _ _ e=>by cases e;rfl,by decide⟩
structure Budget where
 No:Int
 At:Int
 eH:Int
 Kind:Int
 mH:Int
 Count:Int
 Value:Int
 mU:Bool
deriving DecidableEq
instance:Inhabited Budget:=⟨⟨0,0,0,0,0,0,0,false⟩⟩
def Budget.cells(x:Budget):List Go.Value:=[.int .i64 x.No,.int .i64 x.At,.int .i64 x.eH,.int .i64 x.Kind,.int .i64 x.mH,.int .i64 x.Count,.int .i64 x.Value,.bool x.mU]
abbrev Budget.enc(x:Budget):Go.Value:=.agg (Budget.cells x).toArray
def Budget.rp:Rp Budget:=⟨8,λ_ cs x=>cs=Budget.cells x⟩
theorem Budget.aB:Budget.rp.Mono:=λ_ _ _ _ _ e=>e
theorem Budget.ft:Budget.rp.Good:=⟨Budget.aB,λ_ _ _ e=>by cases e;rfl,by decide⟩
structure ae where
 No:Int
 At:Int
 eH:Int
 Doc:Int
 By:Int
 For:Int
 dQ:Int
 mU:Bool
deriving DecidableEq
instance:Inhabited ae:=⟨⟨0,0,0,0,0,0,0,false⟩⟩
def ae.cells(x:ae):List Go.Value:=[.int .i64 x.No,.int .i64 x.At,.int .i64 x.eH,.int .i64 x.Doc,.int .i64 x.By,.int .i64 x.For,.int .i64 x.dQ,.bool x.mU]
abbrev ae.enc(x:ae):Go.Value:=.agg (ae.cells x).toArray
def ae.rp:Rp ae:=⟨8,λ_ cs x=>cs=ae.cells x⟩
theorem ae.aB:ae.rp.Mono:=λ_ _ _ _ _ e=>e
theorem ae.ft:ae.rp.Good:=⟨ae.aB,λ_ _ _ e=>by cases e;rfl,by decide⟩
inductive ai where
 |mk (Kind N No:Int) (Name:ByteArray) (L:List ai)
def ai.Kind:ai->Int
 |.mk Kind _ _ _ _=>Kind
def ai.N:ai->Int
 |.mk _ N _ _ _=>N
def ai.No:ai->Int
 |.mk _ _ No _ _=>No
def ai.Name:ai->ByteArray
 |.mk _ _ _ Name _=>Name
def ai.L:ai->List ai
 |.mk _ _ _ _ L=>L
instance:Inhabited ai:=⟨.mk 0 0 0 ⟨#[]⟩ []⟩
mutual
def ai.dep:ai->Nat
 |.mk _ _ _ _ L=>ai.depL L+1
def ai.depL:List ai->Nat
 |[]=>0
 |y::ys=>ai.dep y+ai.depL ys
end
theorem ai.ny(x:ai):0<x.dep:=by cases x;simp[ai.dep]
theorem ai.U0{y:ai}:∀{l:List ai},y∈l->y.dep<=ai.depL l
 |z::l,h=>by
  rcases vC.1 h with rfl|h
  .simp[ai.depL]
  .have:=ai.U0 h;simp[ai.depL];omega
theorem ai.Pl:∀(l:List ai),l.length<=ai.depL l
 |[]=>zE _
 |z::l=>by have:=ai.Pl l;have:=ai.ny z;simp[ai.depL];omega
theorem ai.QC(x:ai):x.L.length<x.dep:=by
 cases x with
 |mk a b c d L=>have:=ai.Pl L;simp[ai.dep,ai.L];omega
theorem ai.lI{x y:ai}(h:y∈x.L):y.dep<x.dep:=by
 cases x with
 |mk a b c d L=>have:=ai.U0 (l:=L) h;simp[ai.dep];omega
structure dO where
 qg:Option Addr
 qs:Nat
def ai.cells(x:ai)(r:dO):List Go.Value:=[.int .i64 x.Kind,.int .i64 x.N,.int .i64 x.No,.string x.Name,.slice r.qg x.L.length r.qs]
inductive ai.ok(h:HF):ai->dO->Prop
 |mk (x:ai) (r:dO) (rs:Nat->dO) (h0:x.L.length<=9223372036854775807/\x.L.length<=r.qs) (h1:∀(i:Nat)(y:ai),x.L[i]? = some y->∃p,r.qg=some p/\At h (p.add (i*5)) (ai.cells y (rs i))) (h2:∀(i:Nat)(y:ai),x.L[i]? = some y->ai.ok h y (rs i)):ai.ok h x r
def ai.rp:Rp ai:=⟨5,λh cs x=>∃r,cs=ai.cells x r/\ai.ok h x r⟩
theorem ai.ok.mono{h h':HF}{x:ai}{r:dO}(a:ai.ok h x r)(hl:h.le h'):ai.ok h' x r:=by
 induction a with
 |mk x r rs h0 h1 h2 ih=>exact .mk x r rs h0 (λi y hy=>let ⟨p,e,q⟩:=h1 i y hy;⟨p,e,q.mono hl⟩) (λi y hy=>ih i y hy)
theorem ai.ok.list{h:HF}{x:ai}{r:dO}(a:ai.ok h x r):SlC ai.rp h r.qg r.qs x.L:=by
 cases a with
 |mk x r rs h0 h1 h2=>exact⟨⟨h0.1,λi y hy=>let ⟨p,e,q⟩:=h1 i y hy;⟨p,_,e,q,rfl,_,rfl,h2 i y hy⟩⟩,h0.2⟩
theorem ai.aB:ai.rp.Mono:=λ_ _ _ _ hl⟨r,e,o⟩=>⟨r,e,o.mono hl⟩
theorem ai.ok.of{h:HF}{x:ai}{r:dO}(a:SlC ai.rp h r.qg r.qs x.L):ai.ok h x r:=by
 have h1:∀i,∃q:dO,∀y,x.L[i]? = some y->∃p,r.qg=some p/\At h (p.add (i*5)) (ai.cells y q)/\ai.ok h y q:=by
  intro i
  cases hy:x.L[i]? with
  |none=>exact⟨⟨none,0⟩,λy e=>by cases e⟩
  |some y=>
   obtain⟨p,cs,e,q,_,r',rfl,o⟩:=a.1.2 i y hy
   exact⟨r',λz ez=>by cases ez;exact⟨p,e,q,o⟩⟩
 obtain⟨rs,hrs⟩:=Classical.axiomOfChoice h1
 exact .mk x r rs ⟨a.1.1,a.2⟩ (λi y hy=>let ⟨p,e,q,_⟩:=hrs i y hy;⟨p,e,q⟩) (λi y hy=>let ⟨_,_,_,o⟩:=hrs i y hy;o)
theorem ai.ft:ai.rp.Good:=⟨ai.aB,λ_ _ _⟨_,e,_⟩=>by cases e;rfl,by decide⟩
structure fI where
 Kind:ByteArray
 BC:Int
 iJ:Int
 ai:ai
instance:Inhabited fI:=⟨⟨⟨#[]⟩,0,0,default⟩⟩
structure yp where
 ai:dO
def fI.cells(x:fI)(r:yp):List Go.Value:=[.string x.Kind,.int .i64 x.BC,.int .i64 x.iJ,.int .i64 x.ai.Kind,.int .i64 x.ai.N,.int .i64 x.ai.No,.string x.ai.Name,.slice r.ai.qg x.ai.L.length r.ai.qs]
structure fI.ok(h:HF)(x:fI)(r:yp):Prop where
 ai:ai.ok h x.ai r.ai
theorem fI.ok.mono{h h':HF}{x:fI}{r:yp}(a:fI.ok h x r)(hl:h.le h'):fI.ok h' x r:=⟨a.ai.mono hl⟩
def fI.rp:Rp fI:=⟨8,λh cs x=>∃r,cs=fI.cells x r/\fI.ok h x r⟩
theorem fI.aB:fI.rp.Mono:=λ_ _ _ _ hl⟨r,e,o⟩=>⟨r,e,o.mono hl⟩
theorem fI.ft:fI.rp.Good:=⟨fI.aB,λ_ _ _⟨_,e,_⟩=>by cases e;rfl,by decide⟩
structure aw where
 Name:ByteArray
 ey:List ByteArray
 aD:List ByteArray
 dt:List fI
 aP:ai
 Mode:Int
instance:Inhabited aw:=⟨⟨⟨#[]⟩,[],[],[],default,0⟩⟩
structure iq where
 lj:Option Addr
 li:Nat
 iM:Option Addr
 iL:Nat
 sB:Option Addr
 sA:Nat
 aP:dO
def aw.cells(x:aw)(r:iq):List Go.Value:=[.string x.Name,.slice r.lj x.ey.length r.li,.slice r.iM x.aD.length r.iL,.slice r.sB x.dt.length r.sA,.int .i64 x.aP.Kind,.int .i64 x.aP.N,.int .i64 x.aP.No,.string x.aP.Name,.slice r.aP.qg x.aP.L.length r.aP.qs,.int .i64 x.Mode]
structure aw.ok(h:HF)(x:aw)(r:iq):Prop where
 ey:SlC Rp.str h r.lj r.li x.ey
 aD:SlC Rp.str h r.iM r.iL x.aD
 dt:SlC fI.rp h r.sB r.sA x.dt
 aP:ai.ok h x.aP r.aP
theorem aw.ok.mono{h h':HF}{x:aw}{r:iq}(a:aw.ok h x r)(hl:h.le h'):aw.ok h' x r:=⟨a.ey.mono Rp.kv hl,a.aD.mono Rp.kv hl,a.dt.mono fI.aB hl,a.aP.mono hl⟩
def aw.rp:Rp aw:=⟨10,λh cs x=>∃r,cs=aw.cells x r/\aw.ok h x r⟩
theorem aw.aB:aw.rp.Mono:=λ_ _ _ _ hl⟨r,e,o⟩=>⟨r,e,o.mono hl⟩
theorem aw.ft:aw.rp.Good:=⟨aw.aB,λ_ _ _⟨_,e,_⟩=>by cases e;rfl,by decide⟩
structure aC where
 No:Int
 At:Int
 eH:Int
 aw:aw
instance:Inhabited aC:=⟨⟨0,0,0,default⟩⟩
structure px where
 aw:iq
def aC.cells(x:aC)(r:px):List Go.Value:=[.int .i64 x.No,.int .i64 x.At,.int .i64 x.eH,.string x.aw.Name,.slice r.aw.lj x.aw.ey.length r.aw.li,.slice r.aw.iM x.aw.aD.length r.aw.iL,.slice r.aw.sB x.aw.dt.length r.aw.sA,.int .i64 x.aw.aP.Kind,.int .i64 x.aw.aP.N,.int .i64 x.aw.aP.No,.string x.aw.aP.Name,.slice r.aw.aP.qg x.aw.aP.L.length r.aw.aP.qs,.int .i64 x.aw.Mode]
structure aC.ok(h:HF)(x:aC)(r:px):Prop where
 aw:aw.ok h x.aw r.aw
theorem aC.ok.mono{h h':HF}{x:aC}{r:px}(a:aC.ok h x r)(hl:h.le h'):aC.ok h' x r:=⟨a.aw.mono hl⟩
def aC.rp:Rp aC:=⟨13,λh cs x=>∃r,cs=aC.cells x r/\aC.ok h x r⟩
theorem aC.aB:aC.rp.Mono:=λ_ _ _ _ hl⟨r,e,o⟩=>⟨r,e,o.mono hl⟩
theorem aC.ft:aC.rp.Good:=⟨aC.aB,λ_ _ _⟨_,e,_⟩=>by cases e;rfl,by decide⟩
structure aj where
 No:Int
 At:Int
 Kind:Int
 Value:Int
 From:Int
 nS:Int
 nz:List Int
 eX:List Int
 eQ:List Int
 Text:Nat->Int
instance:Inhabited aj:=⟨⟨0,0,0,0,0,0,[],[],[],λ_=>0⟩⟩
structure m6 where
 BY:Option Addr
 BX:Nat
 uU:Option Addr
 uT:Nat
 Hx:Option Addr
 Hw:Nat
def aj.cells(x:aj)(r:m6):List Go.Value:=.int .i64 x.No::.int .i64 x.At::.int .i64 x.Kind::.int .i64 x.Value::.int .i64 x.From::.int .i64 x.nS::.slice r.BY x.nz.length r.BX::.slice r.uU x.eX.length r.uT::.slice r.Hx x.eQ.length r.Hw::.int .u8 (x.Text 0)::.int .u8 (x.Text 1)::.int .u8 (x.Text 2)::.int .u8 (x.Text 3)::.int .u8 (x.Text 4)::.int .u8 (x.Text 5)::.int .u8 (x.Text 6)::.int .u8 (x.Text 7)::.int .u8 (x.Text 8)::.int .u8 (x.Text 9)::.int .u8 (x.Text 10)::.int .u8 (x.Text 11)::.int .u8 (x.Text 12)::.int .u8 (x.Text 13)::.int .u8 (x.Text 14)::.int .u8 (x.Text 15)::.int .u8 (x.Text 16)::.int .u8 (x.Text 17)::.int .u8 (x.Text 18)::.int .u8 (x.Text 19)::.int .u8 (x.Text 20)::.int .u8 (x.Text 21)::.int .u8 (x.Text 22)::.int .u8 (x.Text 23)::.int .u8 (x.Text 24)::.int .u8 (x.Text 25)::.int .u8 (x.Text 26)::.int .u8 (x.Text 27)::.int .u8 (x.Text 28)::.int .u8 (x.Text 29)::.int .u8 (x.Text 30)::.int .u8 (x.Text 31)::[]
structure aj.ok(h:HF)(x:aj)(r:m6):Prop where
 nz:SlC jB h r.BY r.BX x.nz
 eX:SlC jB h r.uU r.uT x.eX
 eQ:SlC jB h r.Hx r.Hw x.eQ
theorem aj.ok.mono{h h':HF}{x:aj}{r:m6}(a:aj.ok h x r)(hl:h.le h'):aj.ok h' x r:=⟨a.nz.mono vJ hl,a.eX.mono vJ hl,a.eQ.mono vJ hl⟩
def aj.rp:Rp aj:=⟨41,λh cs x=>∃r,cs=aj.cells x r/\aj.ok h x r⟩
theorem aj.aB:aj.rp.Mono:=λ_ _ _ _ hl⟨r,e,o⟩=>⟨r,e,o.mono hl⟩
theorem aj.ft:aj.rp.Good:=⟨aj.aB,λ_ _ _⟨_,e,_⟩=>by cases e;rfl,by decide⟩
structure Register where
 fj:List aA
 dY:List aE
 gu:List av
 fF:List Budget
 Versions:List aC
 cj:List aj
 bS:List ae
instance:Inhabited Register:=⟨⟨[],[],[],[],[],[],[]⟩⟩
structure iK where
 zg:Option Addr
 zf:Nat
 ze:Option Addr
 zc:Nat
 wM:Option Addr
 wK:Nat
 Cc:Option Addr
 Cb:Nat
 nu:Option Addr
 nt:Nat
 N8:Option Addr
 N7:Nat
 wQ:Option Addr
 wO:Nat
def Register.cells(x:Register)(r:iK):List Go.Value:=[.slice r.zg x.fj.length r.zf,.slice r.ze x.dY.length r.zc,.slice r.wM x.gu.length r.wK,.slice r.Cc x.fF.length r.Cb,.slice r.nu x.Versions.length r.nt,.slice r.N8 x.cj.length r.N7,.slice r.wQ x.bS.length r.wO]
structure Register.ok(h:HF)(x:Register)(r:iK):Prop where
 fj:SlC aA.rp h r.zg r.zf x.fj
 dY:SlC aE.rp h r.ze r.zc x.dY
 gu:SlC av.rp h r.wM r.wK x.gu
 fF:SlC Budget.rp h r.Cc r.Cb x.fF
 Versions:SlC aC.rp h r.nu r.nt x.Versions
 cj:SlC aj.rp h r.N8 r.N7 x.cj
 bS:SlC ae.rp h r.wQ r.wO x.bS
theorem Register.ok.mono{h h':HF}{x:Register}{r:iK}(a:Register.ok h x r)(hl:h.le h'):Register.ok h' x r:=⟨a.fj.mono aA.aB hl,a.dY.mono aE.aB hl,a.gu.mono av.aB hl,a.fF.mono Budget.aB hl,a.Versions.mono aC.aB hl,a.cj.mono aj.aB hl,a.bS.mono ae.aB hl⟩
def Register.rp:Rp Register:=⟨7,λh cs x=>∃r,cs=Register.cells x r/\Register.ok h x r⟩
theorem Register.aB:Register.rp.Mono:=λ_ _ _ _ hl⟨r,e,o⟩=>⟨r,e,o.mono hl⟩
theorem Register.ft:Register.rp.Good:=⟨Register.aB,λ_ _ _⟨_,e,_⟩=>by cases e;rfl,by decide⟩
structure dT where
 State:Int
 Budget:Int
 Versions:List Int
 Who:List Int
instance:Inhabited dT:=⟨⟨0,0,[],[]⟩⟩
structure py where
 nu:Option Addr
 nt:Nat
 Mw:Option Addr
 Mv:Nat
def dT.cells(x:dT)(r:py):List Go.Value:=[.int .i64 x.State,.int .i64 x.Budget,.slice r.nu x.Versions.length r.nt,.slice r.Mw x.Who.length r.Mv]
structure dT.ok(h:HF)(x:dT)(r:py):Prop where
 Versions:SlC jB h r.nu r.nt x.Versions
 Who:SlC jB h r.Mw r.Mv x.Who
theorem dT.ok.mono{h h':HF}{x:dT}{r:py}(a:dT.ok h x r)(hl:h.le h'):dT.ok h' x r:=⟨a.Versions.mono vJ hl,a.Who.mono vJ hl⟩
def dT.rp:Rp dT:=⟨4,λh cs x=>∃r,cs=dT.cells x r/\dT.ok h x r⟩
theorem dT.aB:dT.rp.Mono:=λ_ _ _ _ hl⟨r,e,o⟩=>⟨r,e,o.mono hl⟩
theorem dT.ft:dT.rp.Good:=⟨dT.aB,λ_ _ _⟨_,e,_⟩=>by cases e;rfl,by decide⟩
structure Cu where
 Kind:Int
 N:Int
deriving DecidableEq
instance:Inhabited Cu:=⟨⟨0,0⟩⟩
def Cu.cells(x:Cu):List Go.Value:=[.int .i64 x.Kind,.int .i64 x.N]
abbrev Cu.enc(x:Cu):Go.Value:=.agg (Cu.cells x).toArray
def Cu.rp:Rp Cu:=⟨2,λ_ cs x=>cs=Cu.cells x⟩
theorem Cu.aB:Cu.rp.Mono:=λ_ _ _ _ _ e=>e
theorem Cu.ft:Cu.rp.Good:=⟨Cu.aB,λ_ _ _ e=>by cases e;rfl,by decide⟩
structure OSeat where
 aI:Int
 bu:Int
deriving DecidableEq
instance:Inhabited OSeat:=⟨⟨0,0⟩⟩
def OSeat.cells(x:OSeat):List Go.Value:=[.int .i64 x.aI,.int .i64 x.bu]
abbrev OSeat.enc(x:OSeat):Go.Value:=.agg (OSeat.cells x).toArray
def OSeat.rp:Rp OSeat:=⟨2,λ_ cs x=>cs=OSeat.cells x⟩
theorem OSeat.aB:OSeat.rp.Mono:=λ_ _ _ _ _ e=>e
theorem OSeat.ft:OSeat.rp.Good:=⟨OSeat.aB,λ_ _ _ e=>by cases e;rfl,by decide⟩
structure dX where
 bu:Int
 party:Int
 of:Bool
deriving DecidableEq
instance:Inhabited dX:=⟨⟨0,0,false⟩⟩
def dX.cells(x:dX):List Go.Value:=[.int .i64 x.bu,.int .i64 x.party,.bool x.of]
abbrev dX.enc(x:dX):Go.Value:=.agg (dX.cells x).toArray
def dX.rp:Rp dX:=⟨3,λ_ cs x=>cs=dX.cells x⟩
theorem dX.aB:dX.rp.Mono:=λ_ _ _ _ _ e=>e
theorem dX.ft:dX.rp.Good:=⟨dX.aB,λ_ _ _ e=>by cases e;rfl,by decide⟩
structure iX where
 path:List Int
 to:Int
instance:Inhabited iX:=⟨⟨[],0⟩⟩
structure MB where
 AQ:Option Addr
 CY:Nat
def iX.cells(x:iX)(r:MB):List Go.Value:=[.slice r.AQ x.path.length r.CY,.int .i64 x.to]
structure iX.ok(h:HF)(x:iX)(r:MB):Prop where
 path:SlC jB h r.AQ r.CY x.path
theorem iX.ok.mono{h h':HF}{x:iX}{r:MB}(a:iX.ok h x r)(hl:h.le h'):iX.ok h' x r:=⟨a.path.mono vJ hl⟩
def iX.rp:Rp iX:=⟨2,λh cs x=>∃r,cs=iX.cells x r/\iX.ok h x r⟩
theorem iX.aB:iX.rp.Mono:=λ_ _ _ _ hl⟨r,e,o⟩=>⟨r,e,o.mono hl⟩
theorem iX.ft:iX.rp.Good:=⟨iX.aB,λ_ _ _⟨_,e,_⟩=>by cases e;rfl,by decide⟩
structure fw where
 mn:List Int
 To:Int
instance:Inhabited fw:=⟨⟨[],0⟩⟩
structure rJ where
 N4:Option Addr
 N3:Nat
def fw.cells(x:fw)(r:rJ):List Go.Value:=[.slice r.N4 x.mn.length r.N3,.int .i64 x.To]
structure fw.ok(h:HF)(x:fw)(r:rJ):Prop where
 mn:SlC jB h r.N4 r.N3 x.mn
theorem fw.ok.mono{h h':HF}{x:fw}{r:rJ}(a:fw.ok h x r)(hl:h.le h'):fw.ok h' x r:=⟨a.mn.mono vJ hl⟩
def fw.rp:Rp fw:=⟨2,λh cs x=>∃r,cs=fw.cells x r/\fw.ok h x r⟩
theorem fw.aB:fw.rp.Mono:=λ_ _ _ _ hl⟨r,e,o⟩=>⟨r,e,o.mono hl⟩
theorem fw.ft:fw.rp.Good:=⟨fw.aB,λ_ _ _⟨_,e,_⟩=>by cases e;rfl,by decide⟩
structure ba where
 value:Int
 bh:List (List aV)
 gv:List Int
instance:Inhabited ba:=⟨⟨0,[],[]⟩⟩
structure mI where
 gr:Option Addr
 gp:Nat
 nd:Option Addr
 na:Nat
def ba.cells(x:ba)(r:mI):List Go.Value:=[.int .i64 x.value,.slice r.gr x.bh.length r.gp,.slice r.nd x.gv.length r.na]
structure ba.ok(h:HF)(x:ba)(r:mI):Prop where
 bh:SlC (Rp.sl aV.rp) h r.gr r.gp x.bh
 gv:SlC jB h r.nd r.na x.gv
theorem ba.ok.mono{h h':HF}{x:ba}{r:mI}(a:ba.ok h x r)(hl:h.le h'):ba.ok h' x r:=⟨a.bh.mono (Rp.BF aV.aB) hl,a.gv.mono vJ hl⟩
def ba.rp:Rp ba:=⟨3,λh cs x=>∃r,cs=ba.cells x r/\ba.ok h x r⟩
theorem ba.aB:ba.rp.Mono:=λ_ _ _ _ hl⟨r,e,o⟩=>⟨r,e,o.mono hl⟩
theorem ba.ft:ba.rp.Good:=⟨ba.aB,λ_ _ _⟨_,e,_⟩=>by cases e;rfl,by decide⟩
structure hZ where
 x:ai
 depth:Int
instance:Inhabited hZ:=⟨⟨default,0⟩⟩
structure za where
 x:dO
def hZ.cells(x:hZ)(r:za):List Go.Value:=[.int .i64 x.x.Kind,.int .i64 x.x.N,.int .i64 x.x.No,.string x.x.Name,.slice r.x.qg x.x.L.length r.x.qs,.int .i64 x.depth]
structure hZ.ok(h:HF)(x:hZ)(r:za):Prop where
 x:ai.ok h x.x r.x
theorem hZ.ok.mono{h h':HF}{x:hZ}{r:za}(a:hZ.ok h x r)(hl:h.le h'):hZ.ok h' x r:=⟨a.x.mono hl⟩
def hZ.rp:Rp hZ:=⟨6,λh cs x=>∃r,cs=hZ.cells x r/\hZ.ok h x r⟩
theorem hZ.aB:hZ.rp.Mono:=λ_ _ _ _ hl⟨r,e,o⟩=>⟨r,e,o.mono hl⟩
theorem hZ.ft:hZ.rp.Good:=⟨hZ.aB,λ_ _ _⟨_,e,_⟩=>by cases e;rfl,by decide⟩
structure tR where
 e:Int
deriving DecidableEq
instance:Inhabited tR:=⟨⟨0⟩⟩
def tR.cells(x:tR):List Go.Value:=[.int .i64 x.e]
abbrev tR.enc(x:tR):Go.Value:=.agg (tR.cells x).toArray
def tR.rp:Rp tR:=⟨1,λ_ cs x=>cs=tR.cells x⟩
theorem tR.aB:tR.rp.Mono:=λ_ _ _ _ _ e=>e
theorem tR.ft:tR.rp.Good:=⟨tR.aB,λ_ _ _ e=>by cases e;rfl,by decide⟩
structure jo where
 docs:List aj
 at_:List (Int×Int)
instance:Inhabited jo:=⟨⟨[],[]⟩⟩
structure pO where
 J6:Option Addr
 J5:Nat
 P9:Nat
def jo.cells(x:jo)(r:pO):List Go.Value:=[.slice r.J6 x.docs.length r.J5,.map (some r.P9)]
structure jo.ok(h:HF)(x:jo)(r:pO):Prop where
 docs:SlC aj.rp h r.J6 r.J5 x.docs
 at_:uN (jC .i64) Ao h r.P9 x.at_
theorem jo.ok.mono{h h':HF}{x:jo}{r:pO}(a:jo.ok h x r)(hl:h.le h'):jo.ok h' x r:=⟨a.docs.mono aj.aB hl,a.at_.mono Ao.mono hl⟩
def jo.rp:Rp jo:=⟨2,λh cs x=>∃r,cs=jo.cells x r/\jo.ok h x r⟩
theorem jo.aB:jo.rp.Mono:=λ_ _ _ _ hl⟨r,e,o⟩=>⟨r,e,o.mono hl⟩
theorem jo.ft:jo.rp.Good:=⟨jo.aB,λ_ _ _⟨_,e,_⟩=>by cases e;rfl,by decide⟩
structure eY where
 bD:Int
 yt:Int
 forWhom:Int
 aI:Int
deriving DecidableEq
instance:Inhabited eY:=⟨⟨0,0,0,0⟩⟩
def eY.cells(x:eY):List Go.Value:=[.int .i64 x.bD,.int .i64 x.yt,.int .i64 x.forWhom,.int .i64 x.aI]
abbrev eY.enc(x:eY):Go.Value:=.agg (eY.cells x).toArray
def eY.rp:Rp eY:=⟨4,λ_ cs x=>cs=eY.cells x⟩
theorem eY.aB:eY.rp.Mono:=λ_ _ _ _ _ e=>e
theorem eY.ft:eY.rp.Good:=⟨eY.aB,λ_ _ _ e=>by cases e;rfl,by decide⟩
structure ea where
 fH:Int
 to:Int
 aI:Int
 kind:Int
deriving DecidableEq
instance:Inhabited ea:=⟨⟨0,0,0,0⟩⟩
def ea.cells(x:ea):List Go.Value:=[.int .i64 x.fH,.int .i64 x.to,.int .i64 x.aI,.int .i64 x.kind]
abbrev ea.enc(x:ea):Go.Value:=.agg (ea.cells x).toArray
def ea.rp:Rp ea:=⟨4,λ_ cs x=>cs=ea.cells x⟩
theorem ea.aB:ea.rp.Mono:=λ_ _ _ _ _ e=>e
theorem ea.ft:ea.rp.Good:=⟨ea.aB,λ_ _ _ e=>by cases e;rfl,by decide⟩
structure bL where
 aI:Int
 kind:Int
 value:Int
 at_:Int
 ad:Int
deriving DecidableEq
instance:Inhabited bL:=⟨⟨0,0,0,0,0⟩⟩
def bL.cells(x:bL):List Go.Value:=[.int .i64 x.aI,.int .i64 x.kind,.int .i64 x.value,.int .i64 x.at_,.int .i64 x.ad]
abbrev bL.enc(x:bL):Go.Value:=.agg (bL.cells x).toArray
def bL.rp:Rp bL:=⟨5,λ_ cs x=>cs=bL.cells x⟩
theorem bL.aB:bL.rp.Mono:=λ_ _ _ _ _ e=>e
theorem bL.ft:bL.rp.Good:=⟨bL.aB,λ_ _ _ e=>by cases e;rfl,by decide⟩
structure ig where
 kind:Int
 period:Int
deriving DecidableEq
instance:Inhabited ig:=⟨⟨0,0⟩⟩
def ig.cells(x:ig):List Go.Value:=[.int .i64 x.kind,.int .i64 x.period]
abbrev ig.enc(x:ig):Go.Value:=.agg (ig.cells x).toArray
def ig.rp:Rp ig:=⟨2,λ_ cs x=>cs=ig.cells x⟩
theorem ig.aB:ig.rp.Mono:=λ_ _ _ _ _ e=>e
theorem ig.ft:ig.rp.Good:=⟨ig.aB,λ_ _ _ e=>by cases e;rfl,by decide⟩
structure ff where
 shelf:jo
 signed:List Int
 done:List Bool
 lacks:List Int
 revoked:List (Int×(List Int))
instance:Inhabited ff:=⟨⟨default,[],[],[],[]⟩⟩
structure sX where
 shelf:pO
 bV:Option Addr
 bU:Nat
 J3:Option Addr
 J1:Nat
 RW:Option Addr
 RV:Nat
 LF:Nat
def ff.cells(x:ff)(r:sX):List Go.Value:=[.slice r.shelf.J6 x.shelf.docs.length r.shelf.J5,.map (some r.shelf.P9),.slice r.bV x.signed.length r.bU,.slice r.J3 x.done.length r.J1,.slice r.RW x.lacks.length r.RV,.map (some r.LF)]
structure ff.ok(h:HF)(x:ff)(r:sX):Prop where
 shelf:jo.ok h x.shelf r.shelf
 signed:SlC jB h r.bV r.bU x.signed
 done:SlC Rp.bool h r.J3 r.J1 x.done
 lacks:SlC jB h r.RW r.RV x.lacks
 revoked:uN (jC .i64) (VSl jB) h r.LF x.revoked
theorem ff.ok.mono{h h':HF}{x:ff}{r:sX}(a:ff.ok h x r)(hl:h.le h'):ff.ok h' x r:=⟨a.shelf.mono hl,a.signed.mono vJ hl,a.done.mono Rp.sV hl,a.lacks.mono vJ hl,a.revoked.mono (VSl.mono vJ) hl⟩
def ff.rp:Rp ff:=⟨6,λh cs x=>∃r,cs=ff.cells x r/\ff.ok h x r⟩
theorem ff.aB:ff.rp.Mono:=λ_ _ _ _ hl⟨r,e,o⟩=>⟨r,e,o.mono hl⟩
theorem ff.ft:ff.rp.Good:=⟨ff.aB,λ_ _ _⟨_,e,_⟩=>by cases e;rfl,by decide⟩
structure bZ where
 Register:Register
 bD:aj
 at_:Int
 ad:Int
instance:Inhabited bZ:=⟨⟨default,default,0,0⟩⟩
structure sC where
 Register:iK
 bD:m6
def bZ.cells(x:bZ)(r:sC):List Go.Value:=.slice r.Register.zg x.Register.fj.length r.Register.zf::.slice r.Register.ze x.Register.dY.length r.Register.zc::.slice r.Register.wM x.Register.gu.length r.Register.wK::.slice r.Register.Cc x.Register.fF.length r.Register.Cb::.slice r.Register.nu x.Register.Versions.length r.Register.nt::.slice r.Register.N8 x.Register.cj.length r.Register.N7::.slice r.Register.wQ x.Register.bS.length r.Register.wO::.int .i64 x.bD.No::.int .i64 x.bD.At::.int .i64 x.bD.Kind::.int .i64 x.bD.Value::.int .i64 x.bD.From::.int .i64 x.bD.nS::.slice r.bD.BY x.bD.nz.length r.bD.BX::.slice r.bD.uU x.bD.eX.length r.bD.uT::.slice r.bD.Hx x.bD.eQ.length r.bD.Hw::.int .u8 (x.bD.Text 0)::.int .u8 (x.bD.Text 1)::.int .u8 (x.bD.Text 2)::.int .u8 (x.bD.Text 3)::.int .u8 (x.bD.Text 4)::.int .u8 (x.bD.Text 5)::.int .u8 (x.bD.Text 6)::.int .u8 (x.bD.Text 7)::.int .u8 (x.bD.Text 8)::.int .u8 (x.bD.Text 9)::.int .u8 (x.bD.Text 10)::.int .u8 (x.bD.Text 11)::.int .u8 (x.bD.Text 12)::.int .u8 (x.bD.Text 13)::.int .u8 (x.bD.Text 14)::.int .u8 (x.bD.Text 15)::.int .u8 (x.bD.Text 16)::.int .u8 (x.bD.Text 17)::.int .u8 (x.bD.Text 18)::.int .u8 (x.bD.Text 19)::.int .u8 (x.bD.Text 20)::.int .u8 (x.bD.Text 21)::.int .u8 (x.bD.Text 22)::.int .u8 (x.bD.Text 23)::.int .u8 (x.bD.Text 24)::.int .u8 (x.bD.Text 25)::.int .u8 (x.bD.Text 26)::.int .u8 (x.bD.Text 27)::.int .u8 (x.bD.Text 28)::.int .u8 (x.bD.Text 29)::.int .u8 (x.bD.Text 30)::.int .u8 (x.bD.Text 31)::.int .i64 x.at_::.int .i64 x.ad::[]
structure bZ.ok(h:HF)(x:bZ)(r:sC):Prop where
 Register:Register.ok h x.Register r.Register
 bD:aj.ok h x.bD r.bD
theorem bZ.ok.mono{h h':HF}{x:bZ}{r:sC}(a:bZ.ok h x r)(hl:h.le h'):bZ.ok h' x r:=⟨a.Register.mono hl,a.bD.mono hl⟩
def bZ.rp:Rp bZ:=⟨50,λh cs x=>∃r,cs=bZ.cells x r/\bZ.ok h x r⟩
theorem bZ.aB:bZ.rp.Mono:=λ_ _ _ _ hl⟨r,e,o⟩=>⟨r,e,o.mono hl⟩
theorem bZ.ft:bZ.rp.Good:=⟨bZ.aB,λ_ _ _⟨_,e,_⟩=>by cases e;rfl,by decide⟩
end
variable {A L':LH}{E:TypeId}{a5_ ass:Array Operand}{ats:Array TypeId}{c:Code}{cap zs:List Go.Value}{f:FuncId}{fv:Go.Value}{id sz:Nat}{o:Obj}{parts:Array (Nat×Operand)}{pe:Int->Go.Value}{q:Addr}{w:World}{ι ρ σ:Type}
section
section
variable {P:Program} {b:Frame} {n:Nat} {k:List Item} {F:List Frame->(Machine->Prop)->Prop} {e:Env} {ds:List Deferred} {X:Cx} {h:HF} {L:LH}
theorem Vl(L':LH)(sl:List (Nat×Value))(hk:∀e',TT P b n k F (upds e' sl) ds X h L')(t':(∀e',fT e' sl->TT P b n k F e' ds X h L')->TT P b n (.code c::k) F e ds X h L):TT P b n (.code c::k) F e ds X h L:=
 t' λe' hr=>by have:=hk e';rw[hr.upds]at this;exact this
theorem wl(hs:L.Perm L')(t:TO P b n ops l k F e ds X h L'):TO P b n ops l k F e ds X h L:=λw hw=>t w (hw.perm hs)
theorem mf(hs:L=L')(t:TO P b n ops l k F e ds X h L'):TO P b n ops l k F e ds X h L:=hs▸t
theorem BN(A G M:LH):(A++(M++G)).Perm (A++(G++M)):=List.Perm.append_left A zD
theorem yv(sl:ι->List (Nat×Value))(dd:ι->List Deferred)(hh:ι->HF)(LL:ι->LH)(I:ι->Prop)(hk:∀i,I i->∀e',TT P b n k F (upds e' (sl i)) (dd i) X (hh i) (LL i))(hb:(∀i e',I i->fT e' (sl i)->TT P b n k F e' (dd i) X (hh i) (LL i))->TT P b n (.code c::.inBlock id::k) F e ds X h L):TT P b n (.code (.block id c)::k) F e ds X h L:=by grind [nI,Ot]
end
section runs
variable {P:Program} {e:Env} {X:Cx} {h:HF} {L:LH} {d:Option Nat} {ty:TypeId} {pos:String} {af:Array Edge} {g:Option (Nat×Bool)}
theorem Ue{t:TypeId}{len:Nat}{p:Addr}(hT:P.underlying t=some (.array len E))(hS:tySz P E=some (sz,a))(hx:e.ev x=.pointer (some p))(hix:e.ev ix=.int .i64 i)(hi:0<=i/\i<(len:Int)):
  ∀w,St X h L w->(execOp e.ev ⟨d,.indexAddr t x ix,ty,pos,af,g⟩).run P w=.ok (.value (.pointer (some (p.add (i.toNat*sz))))) w:=
 λw _=>by simp[execOp,Instr.indexAt,Instr.sureAddr,hix,hx,asIntOf,run_underlying hT,iP hS,hi.1,hi.2]
theorem Hp{c:Operand}{s:Bool}(hc:e.ev c=.bool s)(hv:(bif s then e.ev x else e.ev y)=v):∀w,St X h L w->(execOp e.ev ⟨d,.pick c x y,ty,pos,af,g⟩).run P w=.ok (.value v) w:=
 hv▸Qw hc
end runs
section stepsM
variable {P:Program} {b:Frame} {n:Nat} {ops:Array Oper} {F:List Frame->(Machine->Prop)->Prop} {e:Env} {ds:List Deferred} {X:Cx} {h:HF} {L:LH} {K:Env->HF->LH->Prop}
variable {ty:TypeId} {pos:String} {af:Array Edge} {g:Option (Nat×Bool)} {κ α : Type} {enc:κ->Value} {V:HF->Value->α->Prop} [DecidableEq κ]
theorem AE(i:Nat){t T:TypeId}{mo ko xo:Operand}{m:List (κ×α)}{k:κ}{x:α}(hT:P.underlying t=some (.map T E))(hK:zb P T enc)(hL:nth L i=some (bk,o))(hm:lB enc V h o m)(hmo:e.ev mo=.map (some bk))(hko:e.ev ko=enc k)(hx:V h (e.ev xo) x)(t':∀o',lB enc V h o' (mput m k x)->K e h (setNth L i (bk,o')))(hg:guardB ops e ⟨none,.insert t mo ko xo,ty,pos,af,g⟩=true:=by rfl):Stp P b n ops F ds X ⟨none,.insert t mo ko xo,ty,pos,af,g⟩ e h L K:=by
 unfold Stp
 rw[if_pos hg]
 intro w hw
 have hb:w.heap[bk]? = some o:=by
  have h2:=hL
  rw[ja]at h2
  exact hw.own _ (kD h2)
 obtain⟨o',hr,hm'⟩:=Cv (k:=k) hT hK hb hm hx
 have:(execOp e.ev ⟨none,.insert t mo ko xo,ty,pos,af,g⟩).run P w=.ok .skip { w with heap:=w.heap.setIfInBounds bk o' }:=by
  simp[execOp,hmo,hko,hr]
 rw[this]
 exact⟨h,_,hw.write hL _,t' o' hm'⟩
end stepsM
section stepsA
variable {P:Program} {b:Frame} {n:Nat} {ops:Array Oper} {F:List Frame->(Machine->Prop)->Prop} {e:Env} {ds:List Deferred} {X:Cx} {h:HF} {L:LH} {K:Env->HF->LH->Prop}
variable {d:Option Nat} {ty:TypeId} {pos:String} {af:Array Edge} {g:Option (Nat×Bool)}
theorem tl(i:Nat){t:TypeId}{T:Nat}(hT:tySz P t=some (m,a))(hx:e.ev x=.pointer (some ⟨bk,0,none⟩))(hL:nth L i=some (bk,.cells cl.toArray T (0,0)))(hv:e.ev y=.agg vs.toArray)(hm:vs.length=m)(hc:cl.length=m)(h1:vs.all one=true)(t':K e h (setNth L i (bk,.cells vs.toArray T (0,0))))(hg:guardB ops e ⟨none,.store t x y,ty,pos,af,g⟩=true:=by rfl):Stp P b n ops F ds X ⟨none,.store t x y,ty,pos,af,g⟩ e h L K:=by
 refine qi i hT hx hL (vs:=vs) (by rw[hv];simp[vcells]) hm (by rw[Nat.zero_add,hm,hc];simp) h1 ?_ hg
 grind [H8]
theorem Ua{t:TypeId}{len:Nat}{cells:List Value}(hT:P.underlying t=some (.array len E))(hS:tySz P E=some (sz,a))(hz:zeroC P t=some zs)(hc:Y0 (λi=>some (i*sz,sz)) zs.toArray (parts.toList.map λp=>(p.1,e.ev p.2))=some cells.toArray)(t':K (pute e d (.agg cells.toArray)) h L)(hg:guardB ops e ⟨d,.build t parts,ty,pos,af,g⟩=true:=by rfl):Stp P b n ops F ds X ⟨d,.build t parts,ty,pos,af,g⟩ e h L K:=
 kn hg λw hw=>by
  obtain⟨z,h1,h2⟩:=uQ hz w
  have hparts:(parts.map λx=>(x.1,e.ev x.2)).toList=parts.toList.map λp=>(p.1,e.ev p.2):=by simp
  refine⟨_,_,h,_,?_,hw,t'⟩
  simp only[execOp,Instr.build,kL,h1,h2,xK,run_underlying hT,iP hS,Yy,hparts]
  rw[hc]
  simp
theorem FG{α : Type}:∀(l:List α)(i:Nat)(x y:α),nth l i=some x->(setNth l i y).Perm (y::dropNth l i)
 |[],_,_,_,h=>by simp[nth]at h
 |z::l,0,x,y,h=>List.Perm.refl _
 |z::l,i+1,x,y,h=>(List.Perm.cons z (FG l i x y h)).trans (List.Perm.swap y z _)
theorem T9(i:Nat){t:Nat}{o':Obj}(hL:nth L i=some (bk,o))(hs:n0 P fv vs.toArray h [(bk,o)] (λx h' B=>x=.returned (.tuple #[])/\h'=h/\B=[(bk,o')]))(hf:e t=fv)(hvs:a5_.toList.map e.ev=vs)(t':K (pute e d (.tuple #[])) h (setNth L i (bk,o')))(hg:guardB ops e ⟨d,.call ⟨.value (.tmp t),a5_,ats⟩,ty,pos,af,g⟩=true:=by rfl):Stp P b n ops F ds X ⟨d,.call ⟨.value (.tmp t),a5_,ats⟩,ty,pos,af,g⟩ e h L K:=by
 unfold Stp
 rw[if_pos hg]
 intro w hw
 have hw':=hw.perm (qo L i _ hL)
 have harr:a5_.map e.ev=vs.toArray:=qV (by simp[←hvs])
 obtain⟨nx,hrun,hcall⟩:=hs w (Pre.left (A:=[(bk,o)]) hw'.pre)
 have hr:(execOp e.ev ⟨d,.call ⟨.value (.tmp t),a5_,ats⟩,ty,pos,af,g⟩).run P w=.ok nx w:=by
  grind [execOp,resolve,Zc]
 rw[hr]
 refine nn (pI hcall) (hcall.mono ?_)
 rintro x w' ⟨h',B,hst,rfl,rfl,rfl⟩
 exact⟨h',_,(Yx (A:=[(bk,o)]) (F:=dropNth L i) hw' hst).perm (FG L i _ _ hL).symm,t'⟩
theorem T8{t:Nat}{φ:Value->HF->Prop}(hs:Wo P fv vs h φ)(hf:e t=fv)(hvs:ass.toList.map e.ev=vs)(t':∀v h',h.le h'->φ v h'->K (pute e d v) h' L)(hg:guardB ops e ⟨d,.call ⟨.value (.tmp t),ass,ats⟩,ty,pos,af,g⟩=true:=by rfl):
  Stp P b n ops F ds X ⟨d,.call ⟨.value (.tmp t),ass,ats⟩,ty,pos,af,g⟩ e h L K:=by
 refine DF L [] (List.append_nil L).symm hs hf hvs ?_ ?_ hg
 all_goals grind
end stepsA
theorem WY{h:HF}{cs:List Value}(ha:At h q cs)(hi:0<=i/\i<(cs.length:Int)):At h (q.add (i.toNat*1)) [cs.getD i.toNat .nilFunc]:=by
 obtain⟨cl,T,fz,hb,hs,hc⟩:=ha
 have hlt:i.toNat<cs.length:=by omega
 have h1:i.toNat*1=i.toNat:=Nat.mul_one _
 obtain⟨g,off,sp⟩:=q
 simp only at hs
 subst hs
 have hq:(⟨g,off,none⟩:Addr).add (i.toNat*1)=⟨g,off+i.toNat,none⟩:=by
  rw[h1]
  by_cases e0:i.toNat=0
  .simp[jP,e0]
  .simp[jP,e0]
 rw[hq]
 refine⟨cl,T,fz,hb,rfl,λj v hj=>?_⟩
 grind
theorem pP{args:List Value}{h:HF}{R:Ending->HF->LH->Prop}(hc:∀args w,(callFunc f args).run P w=.ok (.enter f args) w)(hs:qf P f (args++cap).toArray h A R):
  n0 P (.func (.func f) #[] cap.toArray) args.toArray h A R:=by
 intro w hp
 refine⟨.enter f (args++cap).toArray,?_,lH (hs w hp)⟩
 simp[jH,invoke,hc]
def exW{ρ : Type}(pe:Int->Value)(f:ρ->Value):Except Int ρ->Except Value Value
 |.ok r=>.ok (f r)
 |.error e=>.error (pe e)
theorem vY{f:ρ->Value}{x:Except Int ρ}{u:Value}(h:exW pe f x=.ok u):∃r,x=.ok r/\f r=u:=by
 cases x with
 |ok r=>exact⟨r,rfl,by simpa[exW]using h⟩
 |error p=>simp[exW]at h
theorem su{f:ρ->Value}{x:Except Int ρ}{p:Value}(h:exW pe f x=.error p):∃e,x=.error e/\pe e=p:=by
 cases x with
 |ok r=>simp[exW]at h
 |error q=>exact⟨q,rfl,by simpa[exW]using h⟩
def exi{ρ σ : Type}:Except Int ρ->(ρ->Except Int σ)->Except Int σ
 |.ok r,k=>k r
 |.error p,_=>.error p
theorem Df{x:Except Int ρ}{k:ρ->Except Int σ}{r:ρ}(h:x=.ok r):exi x k=k r:=by subst h;rfl
theorem uH{x:Except Int ρ}{k:ρ->Except Int σ}{p:Int}(h:x=.error p):exi x k=.error p:=by subst h;rfl
theorem mZ{args:Array Value}{R:Ending->World->Prop}(h:Calls P f args w R)(hno:∀w',¬R .outgrown w'):tT P f args w R:=by
 intro c cs Φ h1 h2
 obtain⟨e,w',fr,hR,hc,hfn,hl⟩:=h (c::cs)
 cases e with
 |returned v=>
  obtain⟨m',s',p'⟩:=h1 v w' hR
  exact⟨m',(show Steps P _ _ from hc).trans (.head (step_leave_returned hl) s'),p'⟩
 |panicked ch=>
  obtain⟨m',s',p'⟩:=h2 ch w' hR
  exact⟨m',(show Steps P _ _ from hc).trans (.head (step_leave_panicked hl) s'),p'⟩
 |outgrown=>exact(hno _ hR).elim
end
section
def smP(p:aw):Prop:=p.dt.length<=2000000/\(∀r∈p.dt,r.ai.dep<=1500000)/\p.aP.dep<=1500000/\p.aD.length<=2000000/\p.ey.length<=2000000
def smV(l:List aC):Prop:=l.length<=2000000/\∀v∈l,smP v.aw
def smR(r:Register):Prop:=smV r.Versions/\r.fj.length<=2000000/\r.dY.length<=2000000/\r.gu.length<=2000000/\r.fF.length<=2000000/\r.cj.length<=2000000/\r.bS.length<=2000000
theorem smP.rules{p:aw}(h:smP p):p.dt.length<=2000000:=h.1
theorem smP.change{p:aw}(h:smP p):p.aP.dep<=1500000:=h.2.2.1
theorem smV.len{l:List aC}(h:smV l):l.length<=2000000:=h.1
theorem smR.vers{r:Register}(h:smR r):smV r.Versions:=h.1
inductive OkX(n:Int):ai->Prop
 |mk (x:ai) (hk:1<=x.Kind/\x.Kind<=4) (hn:x.Kind<=2->0<=x.No/\x.No<n) (hl:x.Kind=4->x.L.length=2) (hs:∀y∈x.L,OkX n y):OkX n x
theorem OkX.kind{n:Int}{x:ai}(h:OkX n x):1<=x.Kind/\x.Kind<=4:=by cases h with|mk _ a=>exact a
theorem OkX.no{n:Int}{x:ai}(h:OkX n x):x.Kind<=2->0<=x.No/\x.No<n:=by cases h with|mk _ _ a=>exact a
theorem OkX.two{n:Int}{x:ai}(h:OkX n x):x.Kind=4->x.L.length=2:=by cases h with|mk _ _ _ a=>exact a
theorem OkX.sub{n:Int}{x:ai}(h:OkX n x):∀y∈x.L,OkX n y:=by cases h with|mk _ _ _ _ a=>exact a
def stopV(e:Int):Value:=.iface 375 (.agg (tR.cells ⟨e⟩).toArray)
def errV(e:Int):Value:=.iface 37 (.int .i64 e)
def kindsC:List Value:=[.func (.func 442) #[] #[],.func (.func 443) #[] #[],.func (.func 444) #[] #[],.func (.func 445) #[] #[],.func (.func 446) #[] #[]]
def kfun(i:Int):Value:=kindsC.getD i.toNat .nilFunc
def ey(h:HF):Prop:=∃T fz,h 0=some (.cells kindsC.toArray T fz)
theorem ey.mono{h h':HF}(k:ey h)(hl:h.le h'):ey h':=let ⟨T,fz,e⟩:=k;⟨T,fz,hl _ _ e⟩
theorem ey.at{h:HF}(k:ey h)(hi:0<=i/\i<5):At h ((⟨0,0,none⟩:Addr).add (i.toNat*1)) [kfun i]:=by
 obtain⟨T,fz,e⟩:=k
 rw[tQ]
 refine At.I4 e (λj v hj=>?_)
 have hj0:j=0:=by
  grind
 subst hj0
 simp at hj
 subst hj
 have:i=0\/i=1\/i=2\/i=3\/i=4:=by omega
 rcases this with rfl|rfl|rfl|rfl|rfl<;>rfl
def VFn(_:HF)(v:Value)(x:Value):Prop:=v=x
theorem VFn.mono:zU VFn:=λ_ _ _ _ _ e=>e
theorem rV{κ α : Type}[DecidableEq κ]:∀(m:List (κ×α))(k:κ)(v:α),(mput m k v).length<=m.length+1
 |[],_,_=>by simp[mput]
 |(k',v')::r,k,v=>by
  have:=rV r k v
  simp only[mput]
  split<;>simp<;>omega
theorem Rs{s:ByteArray}(h:(s.toList==(⟨#[]⟩:ByteArray).toList)=false):0<s.size:=by
 rcases Nat.eq_zero_or_pos s.size with h0|h0
 .exfalso
  have:s=⟨#[]⟩:=by
   cases s with
   |mk d=>
    have:d=#[]:=Array.eq_empty_of_size_eq_zero h0
    rw[this]
  rw[this]at h;simp at h
 .exact h0
abbrev ud:=ff
abbrev Xo:=sX
abbrev ud.cells(x:ff)(r:sX):List Go.Value:=ff.cells x r
structure ud.ok(h:HF)(x:ff)(r:sX):Prop where
 signed:SlC jB h r.bV r.bU x.signed
theorem ud.ok.mono{h h':HF}{x:ff}{r:sX}(a:ud.ok h x r)(hl:h.le h'):ud.ok h' x r:=⟨a.signed.mono vJ hl⟩
end
variable {Fr:LH}{fn gn:Func}{pv:Go.Value}
section
def deferFrame(f:FuncId):Frame:={ fn:=f,tmps:=#[],todo:=[],defers:=[],mode:=.run,kind:=.deferred,roundOf:=none }
section
variable {P:Program} {f:FuncId} {n:Nat} {k:List Item} {e:Env} {X:Cx} {h:HF} {L:LH} {ops:Array Oper} {l:List Oper} {d:Nat} {ty:TypeId} {pos:String} {af:Array Edge} {g:Option (Nat×Bool)} {ats:Array TypeId}
theorem HV{F F':List Frame->(Machine->Prop)->Prop}(v:Value)(hF:∀cs Φ,F cs Φ->∃cs',recoverD cs=some (v,cs')/\F' cs' Φ)(t:TO P (deferFrame f) n ops l k F' (upd e d v) ds X h L)(hd:Nat.blt d n=true:=by rfl)(hg:guardB ops e ⟨some d,.call ⟨.builtin .recover,#[],ats⟩,ty,pos,af,g⟩=true:=by rfl):
  TO P (deferFrame f) n ops (⟨some d,.call ⟨.builtin .recover,#[],ats⟩,ty,pos,af,g⟩::l) k F e ds X h L:=by
 intro w hw is hi a cs Φ hn he hds hF0
 obtain⟨i,js,rfl,ho,hj⟩:=rX hi
 obtain⟨cs',hrec,hF1⟩:=hF cs Φ hF0
 have hwt:=(gP (ops:=ops) he).trans hg
 have hst:=stepGR_op (P:=P) (b:=deferFrame f) (k:=k) (cs:=cs) (w:=w) (rest:=js) ho hwt
 have hr:(execOp a.eval ⟨some d,.call ⟨.builtin .recover,#[],ats⟩,ty,pos,af,g⟩).run P w=.ok .recover w:=by
  simp[execOp,resolve,invoke,builtin]
 have htr:tryRecover ((deferFrame f).atR a (.inRegion ops (i::js)::k)) cs=some (v,cs'):=by
  rw[tryRecover_deferred (by rfl) cs,hrec]
 have hput:envOf (a.put (some d) v)=upd e d v:=by rw[rG a d v (by rw[hn];exact rn hd),he]
 refine .step (m₁:=lone ((deferFrame f).atR (a.put (some d) v) (.inRegion ops js::k)) cs' w) ?_ (t w hw js hj (a.put (some d) v) cs' Φ (by rw[qw];exact hn) hput (by rw[nY];exact hds) hF1)
 refine step_lone_go ?_
 rw[hst,lO _ _ rfl,←iZ a js k ho v]
 simp[stepG.apply,hr,htr]
 rfl
theorem FB{F:List Frame->(Machine->Prop)->Prop}(hF:∀cs Φ,F cs Φ->recoverD cs=none)(t:TO P (deferFrame f) n ops l k F (upd e d .nilIface) ds X h L)(hd:Nat.blt d n=true:=by rfl)(hg:guardB ops e ⟨some d,.call ⟨.builtin .recover,#[],ats⟩,ty,pos,af,g⟩=true:=by rfl):
  TO P (deferFrame f) n ops (⟨some d,.call ⟨.builtin .recover,#[],ats⟩,ty,pos,af,g⟩::l) k F e ds X h L:=by
 intro w hw is hi a cs Φ hn he hds hF0
 obtain⟨i,js,rfl,ho,hj⟩:=rX hi
 have hrec:=hF cs Φ hF0
 have hwt:=(gP (ops:=ops) he).trans hg
 have hst:=stepGR_op (P:=P) (b:=deferFrame f) (k:=k) (cs:=cs) (w:=w) (rest:=js) ho hwt
 have hr:(execOp a.eval ⟨some d,.call ⟨.builtin .recover,#[],ats⟩,ty,pos,af,g⟩).run P w=.ok .recover w:=by
  simp[execOp,resolve,invoke,builtin]
 have htr:tryRecover ((deferFrame f).atR a (.inRegion ops (i::js)::k)) cs=none:=by
  rw[tryRecover_deferred (by rfl) cs,hrec]
 have hput:envOf (a.put (some d) .nilIface)=upd e d .nilIface:=by rw[rG a d _ (by rw[hn];exact rn hd),he]
 refine .step (m₁:=lone ((deferFrame f).atR (a.put (some d) .nilIface) (.inRegion ops js::k)) cs w) ?_ (t w hw js hj (a.put (some d) .nilIface) cs Φ (by rw[qw];exact hn) hput (by rw[nY];exact hds) hF0)
 refine step_lone_go ?_
 rw[hst,lO _ _ rfl,←iZ a js k ho .nilIface]
 simp[stepG.apply,hr,htr]
 rfl
def Km(P:Program)(X:Cx)(u':FrameMode)(R:HF->LH->Prop)(cs:List Frame)(Φ : Machine->Prop):Prop:=
 ∃c rest,cs=c::rest/\c.mode=u'/\∀w',(∃h' B,St X h' B w'/\R h' B)->To P Φ (lone { c with mode:=settle u' } rest w')
theorem MM{u':FrameMode}{R:HF->LH->Prop}(hf:P.funcs[f]? = some fn)(hr:fn.results=#[])(hR:R h L):TT P (deferFrame f) n [] (Km P X u' R) e [] X h L:=by
 intro w hw a cs Φ hn he hds hF
 obtain⟨c,rest,rfl,hm,h1⟩:=hF
 refine .step (stepR_end rfl) ?_
 have hgo:Frame.going P { (deferFrame f).atR a []with mode:=.returning } w (.returned (.tuple #[])):=⟨rfl,hds,fn,hf,ol hr a w⟩
 refine .step (step_going_returned (c:=c) (cs:=rest) rfl hgo) ?_
 rw[hm]
 exact h1 w ⟨h,L,hw,hR⟩
end
section
variable {P:Program} {b:Frame} {n:Nat} {k:List Item} {F:List Frame->(Machine->Prop)->Prop} {e:Env} {ds:List Deferred} {X:Cx} {h:HF} {L:LH} {ops:Array Oper} {l:List Oper} {ty:TypeId} {pos:String} {af:Array Edge} {g:Option (Nat×Bool)}
theorem TL{t:Nat}{fv:Fn}{cap:Array Value}(hro:b.roundOf=none)(hf:e t=.func fv #[] cap)(t':TO P b n ops l k F e ({ target:=.fn fv cap,args:=#[] }::ds) X h L)(hg:guardB ops e ⟨none,.defer ⟨.value (.tmp t),#[],ats⟩,ty,pos,af,g⟩=true:=by rfl):TO P b n ops (⟨none,.defer ⟨.value (.tmp t),#[],ats⟩,ty,pos,af,g⟩::l) k F e ds X h L:=by
 intro w hw is hi a cs Φ hn he hds hF
 obtain⟨i,js,rfl,ho,hj⟩:=rX hi
 have hwt:=(gP (ops:=ops) he).trans hg
 have hst:=stepGR_op (P:=P) (b:=b) (k:=k) (cs:=cs) (w:=w) (rest:=js) ho hwt
 have hr:(execOp a.eval ⟨none,.defer ⟨.value (.tmp t),#[],ats⟩,ty,pos,af,g⟩).run P w=.ok (.defer { target:=.fn fv cap,args:=#[] }) w:=by
  have hev:a.eval (.tmp t)=.func fv #[] cap:=by rw[lU,he];exact hf
  simp[execOp,resolve,hev,jH]
 have hs:Oper.semAt b.roundOf a.eval ⟨none,.defer ⟨.value (.tmp t),#[],ats⟩,ty,pos,af,g⟩=execOp a.eval ⟨none,.defer ⟨.value (.tmp t),#[],ats⟩,ty,pos,af,g⟩:=by rw[hro];rfl
 refine .step (m₁:=lone (b.atR { a with defers:={ target:=.fn fv cap,args:=#[] }::a.defers } (.inRegion ops js::k)) cs w) ?_ (t' w hw js hj { a with defers:={ target:=.fn fv cap,args:=#[] }::a.defers } cs Φ hn he (by rw[hds]) hF)
 refine step_lone_go ?_
 have hfin:=iZ (b:=b) { a with defers:={ target:=.fn fv cap,args:=#[] }::a.defers } js k ho undef
 rw[hst,hs]
 simp only[stepG.apply,Sem.runT_eq,hr,GStep.bare_after]
 exact congrArg (λfr=>GStep.go { frame:=fr,callers:=cs,status:=.running,dying:=none } w) hfin
end
theorem Vk{g:FuncId}{h:HF}{L:LH}{R:Ending->HF->LH->Prop}{R':HF->LH->Prop}(hf:P.funcs[f]? = some fn)(hg:P.funcs[g]? = some gn)(hb:gn.body=some c)(hm:gn.ntmps=m)(eT:YE cap.length m=true)(hc:∀args w,(callFunc g args).run P w=.ok (.enter g args) w)(t:∀X':Cx,X'.h0=h->TT P (deferFrame g) m [.code c] (Km P X' .returning R') (envArgs cap) [] X' h A)(hL:L=A++Fr)(fin:∀h' B,h.le h'->R' h' B->∀a:Act,envOf a=e->∀w,St X h' (B++Fr) w->∃v h2 B2,(results fn a.tmps).run P w=.ok v w/\St X h2 B2 w/\R (.returned v) h2 B2):
  TT P (bodyFrame f) n (.code .ret::k) (lJ P X R) e [{ target:=.fn (.func g) cap.toArray,args:=#[] }] X h L:=by
 intro w hw a cs Φ hn he hds hF
 obtain⟨cc,cs',rfl,h1,_⟩:=hF
 subst hL
 refine .step (stepR_ret rfl) ?_
 have hinv:(invoke (.fn (.func g) cap.toArray) #[]).run P w=.ok (.enter g cap.toArray) w:=by simp[invoke,hc]
 refine .step (step_defer (fr:={ (bodyFrame f).atR a (.code .ret::k)with mode:=.returning }) (by simp) hds rfl hinv) ?_
 have hle':=jM eT
 have henter:xR P g cap.toArray .deferred=(deferFrame g).atR { tmps:=cap.toArray++X4 (m-cap.length) undef,defers:=[] } [.code c]:=by
  grind [xR,Yr,deferFrame]
 rw[henter]
 refine t ⟨w,h,A.map (·.1)⟩ rfl w (Yw hw.pre.left) _ _ Φ (by simp;omega) (rk _ _) rfl ⟨_,cc::cs',rfl,rfl,?_⟩
 rintro w' ⟨h',B,hst,hR'⟩
 obtain⟨v,h2,B2,hv,hs2,hR⟩:=fin h' B hst.le hR' a he w' (hw.after hst)
 refine .step (jt (fn:=fn) (v:=v) rfl rfl rfl hf hv) ?_
 exact h1 v w' ⟨h2,B2,hs2,hR⟩
theorem Vn{g:FuncId}{h:HF}{L:LH}{R:Ending->HF->LH->Prop}{R':HF->LH->Prop}(hf:P.funcs[f]? = some fn)(hg:P.funcs[g]? = some gn)(hb:gn.body=some c)(hm:gn.ntmps=m)(eT:YE cap.length m=true)(hc:∀args w,(callFunc g args).run P w=.ok (.enter g args) w)(t:∀X':Cx,X'.h0=h->TT P (deferFrame g) m [.code c] (λcs Φ=>∃c rest,cs=c::rest/\c.mode=.panicking [{ v:=pv,recovered:=false }]/\Km P X' (.panicking [{ v:=pv,recovered:=true }]) R' ({ c with mode:=.panicking [{ v:=pv,recovered:=true }] }::rest) Φ) (envArgs cap) [] X' h A)(hL:L=A++Fr)(fin:∀h' B,h.le h'->R' h' B->∀a:Act,envOf a=e->∀w,St X h' (B++Fr) w->∃v h2 B2,(results fn a.tmps).run P w=.ok v w/\St X h2 B2 w/\R (.returned v) h2 B2):
  TP P (bodyFrame f) n [{ v:=pv,recovered:=false }] (lJ P X R) e [{ target:=.fn (.func g) cap.toArray,args:=#[] }] X h L:=by
 intro w hw a cs Φ todo hn he hds hF
 obtain⟨cc,cs',rfl,h1,_⟩:=hF
 subst hL
 have hinv:(invoke (.fn (.func g) cap.toArray) #[]).run P w=.ok (.enter g cap.toArray) w:=by simp[invoke,hc]
 refine .step (step_defer (fr:={ (bodyFrame f).atR a todo with mode:=.panicking [{ v:=pv,recovered:=false }] }) (by simp) hds rfl hinv) ?_
 have hle':=jM eT
 have henter:xR P g cap.toArray .deferred=(deferFrame g).atR { tmps:=cap.toArray++X4 (m-cap.length) undef,defers:=[] } [.code c]:=by
  grind [xR,Yr,deferFrame]
 rw[henter]
 refine t ⟨w,h,A.map (·.1)⟩ rfl w (Yw hw.pre.left) _ _ Φ (by simp;omega) (rk _ _) rfl ⟨_,cc::cs',rfl,rfl,_,cc::cs',rfl,rfl,?_⟩
 rintro w' ⟨h',B,hst,hR'⟩
 obtain⟨v,h2,B2,hv,hs2,hR⟩:=fin h' B hst.le hR' a he w' (hw.after hst)
 refine .step (jt (fn:=fn) (v:=v) rfl rfl rfl hf hv) ?_
 exact h1 v w' ⟨h2,B2,hs2,hR⟩
end
variable {assign body:Code}{clock:Nat}{es:Array MapEntry}{g:Operand}{it:Go.Value}{ps:List Tmp}{seen:Array Nat}{α:Type}
section
section steps
variable {P:Program} {b:Frame} {n:Nat} {ops:Array Oper} {F:List Frame->(Machine->Prop)->Prop} {e:Env} {ds:List Deferred} {X:Cx} {h:HF} {L:LH} {K:Env->HF->LH->Prop}
variable {d:Option Nat} {ty:TypeId} {pos:String} {af:Array Edge} {g:Option (Nat×Bool)}
theorem Rx{t T:TypeId}(hT:P.underlying t=some (.map T E))(hb:h bk=some (.map es clock))(hx:e.ev x=.map (some bk))(t':∀it,K (pute e d (.pointer (some ⟨it,0,none⟩))) h ((it,.mapIter (some bk) clock #[] clock)::L))(hg:guardB ops e ⟨d,.range t x,ty,pos,af,g⟩=true:=by rfl):Stp P b n ops F ds X ⟨d,.range t x,ty,pos,af,g⟩ e h L K:=
 kn hg λw hw=>⟨_,_,h,_,by simp[execOp,Instr.range,hx,run_underlying hT,tq (hw.imm _ _ hb)],hw.alloc _,t' _⟩
theorem T3(i:Nat){it since c0:Nat}(hL:nth L i=some (it,.mapIter (some bk) since seen c0))(hb:h bk=some (.map es clock))(hold:∀x∈es.toList,x.born<since)(hsc:since<=c0)(hx:e.ev x=.pointer (some ⟨it,0,none⟩))(no:(leftOf es seen).size=0->K (pute e d (.tuple #[.bool false])) h L)(yes:∀en∈(leftOf es seen).toList,K (pute e d (.tuple #[.bool true,en.key,en.val])) h (setNth L i (it,.mapIter (some bk) since (seen.push en.born) clock)))(hg:guardB ops e ⟨d,.next x false,ty,pos,af,g⟩=true:=by rfl):Stp P b n ops F ds X ⟨d,.next x false,ty,pos,af,g⟩ e h L K:=by
 refine kn hg λw hw=>?_
 have hit:w.heap[it]? = some (.mapIter (some bk) since seen c0):=by
  have h2:=hL
  rw[ja]at h2
  exact hw.own _ (kD h2)
 rcases run_next_at (P:=P) w ty it bk since c0 seen es clock hit (hw.imm _ _ hb) hold hsc with⟨h0,hr⟩|⟨en,hen,w1,hw1,hr⟩
 .exact⟨_,w,h,L,by simp[execOp,hx,hr],hw,no h0⟩
 .have hw1':St X h L w1:=by
   rcases hw1 with rfl|rfl
   .exact hw
   .exact hw.drew _
  exact⟨.tuple #[.bool true,en.key,en.val],{ w1 with heap:=w1.heap.setIfInBounds it (.mapIter (some bk) since (seen.push en.born) clock) },h,_,by simp[execOp,hx,hr];rfl,hw1'.write hL _,yes en hen⟩
theorem RE(i:Nat){it since:Nat}{en:MapEntry}(hL:nth L i=some (it,.mapIter (some bk) since (seen.push en.born) clock))(hb:h bk=some (.map es clock))(he:en∈es.toList)(hn:(es.toList.map (·.born)).Nodup)(hx:e.ev x=.pointer (some ⟨it,0,none⟩)):
  ∀w,St X h L w->(execOp e.ev ⟨d,.entry x,ty,pos,af,g⟩).run P w=.ok (.value (.tuple #[en.key,en.val])) w:=λw hw=>by
 have hit:w.heap[it]? = some (.mapIter (some bk) since (seen.push en.born) clock):=by
  have h2:=hL
  rw[ja]at h2
  exact hw.own _ (kD h2)
 have:=run_entry_at (P:=P) w it bk since seen es clock en hit (hw.imm _ _ hb) he hn
 simp[execOp,hx,this]
end steps
def Kk{α : Type}(P:Program)(it:Value)(val:α->HF->List Value->Prop)(S:List α->Prop)(h:HF):Prop:=
 ∃(f0:FuncId)(cap:List Value),it=.func (.func f0) #[] cap.toArray/\(∀args w,(callFunc f0 args).run P w=.ok (.enter f0 args) w) /\
  ∀(yf:Fn)(ya yb:Array Value)(C:List α->HF->LH->Prop)(Sp:HF->LH->Prop)(Pn:List PanicEntry->HF->LH->Prop)(h':HF)(A:LH),h.le h' ->
   (∀done h1 h2 B,zM h1 h2->C done h1 B->C done h2 B)->(∀h1 h2 B,zM h1 h2->Sp h1 B->Sp h2 B)->(∀ch h1 h2 B,zM h1 h2->Pn ch h1 B->Pn ch h2 B)->C [] h' A ->
   (∀done x vs h'' B,(∃rest,S (done++x::rest))->h'.le h''->C done h'' B->val x h'' vs->n0 P (.func yf ya yb) vs.toArray h'' B (YR C Sp Pn done x)) ->
   n0 P it #[.func yf ya yb] h' A (λr h2 B=>(r=.returned (.tuple #[])/\((∃xs,S xs/\C xs h2 B)\/Sp h2 B))\/∃ch,r=.panicked ch/\Pn ch h2 B)
theorem Lp{F:List Frame->(Machine->Prop)->Prop}{h:HF}{L:LH}{val:α->HF->List Value->Prop}{S:List α->Prop}(I:List α->HF->LH->Prop)(J:Code->HF->LH->Prop)(Pn:List PanicEntry->HF->LH->Prop)(hgv:e.ev g=it)(hit:Kk P it val S h)(hps:ps.all (λp=>kH p n)=true)(hval:∀x h vs,val x h vs->vs.length=ps.length)(hIm:∀done h1 h2 B,zM h1 h2->I done h1 B->I done h2 B)(hJm:∀c h1 h2 B,zM h1 h2->J c h1 B->J c h2 B)(hPm:∀ch h1 h2 B,zM h1 h2->Pn ch h1 B->Pn ch h2 B)(h0:I [] h L)(round:∀l r lp done x vs h' L' X',(∃rest,S (done++x::rest))->h.le h'->I done h' L'->val x h' vs->lp.state=.ready->X'.h0=h'->(∀b∈X'.M,b<X'.w0.heap.size) ->
   TT P (roundFrame l f) n [.code assign,.beginRound,.code body] (lJ P X' (RdR l r lp I J Pn done x)) (setParams e ps vs) [] X' h' ((l,.loop lp)::(r,.deferred (some []))::L'))(next:∀r xs h' L',S xs->h.le h'->I xs h' L'->TT P (bodyFrame f) n k F e ({ target:=.collected r,args:=#[] }::ds) X h' ((r,.deferred (some []))::L'))(jump:∀r c h' L',h.le h'->J c h' L'->TT P (bodyFrame f) n (.code c::k) F e ({ target:=.collected r,args:=#[] }::ds) X h' ((r,.deferred (some []))::L'))(pan:∀r ch h' L',h.le h'->Pn ch h' L'->TP P (bodyFrame f) n ch F e ({ target:=.collected r,args:=#[] }::ds) X h' ((r,.deferred (some []))::L')):
  TT P (bodyFrame f) n (.code (.rangeFunc g ps.toArray assign body)::k) F e ds X h L:=by
 obtain⟨f0,cap,rfl,hc0,hit⟩:=hit
 intro w hw a cs Φ hn he hds hF
 let r:=w.heap.size
 let w1:World:={ w with heap:=w.heap.push (.deferred (some [])) }
 have hw1:St X h ((r,.deferred (some []))::L) w1:=hw.alloc _
 let l:=w1.heap.size
 let lp:Loop:={ state:=.ready,pending:=none,fn:=f,tmps:=a.tmps,params:=ps.toArray,assign,body,defers:=r }
 let w2:World:={ w1 with heap:=w1.heap.push (.loop lp) }
 have hw2:St X h ((l,.loop lp)::(r,.deferred (some []))::L) w2:=hw1.alloc _
 have henter:(Y9 (bodyFrame f).fn a.tmps ps.toArray assign body (bodyFrame f).roundOf).run P w=.ok (l,[{ target:=.collected r,args:=#[] }]) w2:=by
  simp[Y9,bodyFrame,r,l,lp,w2,w1]
 let C:List α->HF->LH->Prop:=λdone h' B=>∃L',B=(l,.loop lp)::(r,.deferred (some []))::L'/\I done h' L'
 let Sp:HF->LH->Prop:=λh' B=>∃c L',B=(l,.loop { lp with state:=.done,pending:=some c })::(r,.deferred (some []))::L'/\J c h' L'
 let Pm:List PanicEntry->HF->LH->Prop:=λch h' B=>∃lp' L',B=(l,.loop lp')::(r,.deferred (some []))::L'/\Pn ch h' L'
 have hps':∀p∈ps,p<n:=λp hp=>rn (qP.1 hps p hp)
 have hy:∀done x vs h'' B,(∃rest,S (done++x::rest))->h.le h''->C done h'' B->val x h'' vs->n0 P (.func (.yield l) #[] #[]) vs.toArray h'' B (YR C Sp Pm done x):=by
  rintro done x vs h'' B hxs eT ⟨L',rfl,hI⟩ hv
  refine n0.mono (R:=RdR l r lp I J Pn done x) (AB (i:=0) (lp:=lp) rfl (by simp[lp];exact hval x h'' vs hv) ?_) ?_
  .intro X' _ hX' hXM'
   have henv:envOf { tmps:=(ps.toArray.zip vs.toArray).foldl (λtmps p=>tmps.setIfInBounds p.1 p.2) a.tmps,defers:=[] }=setParams e ps vs:=by
    have:=uv ps vs a.tmps a.defers hn hps'
    rw[←he]
    rw[←Zg]
    simpa using this
   grind
  .rintro x' h3 B' _ (⟨e1,L2,e2,h2⟩|⟨e1,c,L2,e2,h2⟩|⟨ch,e1,lp',L2,e2,h2⟩)
   .exact .inl ⟨e1,L2,e2,h2⟩
   .exact .inr (.inl ⟨e1,c,L2,e2,h2⟩)
   .exact .inr (.inr ⟨ch,e1,lp',L2,e2,h2⟩)
 have hs:=hit (.yield l) #[] #[] C Sp Pm h ((l,.loop lp)::(r,.deferred (some []))::L) (vF h) (λ_ _ _ _ hl⟨L',e1,hi⟩=>⟨L',e1,hIm _ _ _ _ hl hi⟩) (λ_ _ _ hl⟨c,L',e1,hi⟩=>⟨c,L',e1,hJm _ _ _ _ hl hi⟩) (λ_ _ _ _ hl⟨lp',L',e1,hi⟩=>⟨lp',L',e1,hPm _ _ _ _ hl hi⟩) ⟨L,rfl,h0⟩ hy
 obtain⟨nx,hrun,hcall⟩:=hs w2 hw2.pre
 have hev:a.eval g=e.ev g:=by rw[lU,he]
 have hnx:nx=.enter f0 (zQ (.yield l) #[] #[]::cap).toArray:=by
  grind [jH,invoke]
 subst hnx
 have hres:(resolve a.eval (rangeCall g l) 0).run P w2=.ok { target:=.fn (.func f0) cap.toArray,args:=#[.func (.yield l) #[] #[]] } w2:=by
  have hcst:∀v,a.eval (.const v)=v:=λ_=>rfl
  simp[resolve,rangeCall,hev,hgv,hcst,jH]
 have hinv:(invoke (.fn (.func f0) cap.toArray) #[.func (.yield l) #[] #[]]).run P w2=.ok (.enter f0 (zQ (.yield l) #[] #[]::cap).toArray) w2:=by
  simp[invoke,hc0]
 have hback:∀v w3,(∃h' B,St ⟨w2,h,((l,ZK lp)::(r,.deferred (some []))::L).map (·.1)⟩ h' B w3/\(λ(r:Ending)(h2:HF)(B:LH)=>(r=.returned (.tuple #[])/\((∃xs,S xs/\C xs h2 B)\/Sp h2 B))\/∃ch,r=.panicked ch/\Pm ch h2 B) (.returned v) h' B) ->
   To P Φ (lone (((bodyFrame f).atR { a with defers:=[{ target:=.collected r,args:=#[] }]++a.defers } (.inRangeFunc l::k)).finish v) cs w3):=by
  rintro v w3 ⟨h',B,hst,hR⟩
  rw[finish_atR_inRangeFunc]
  have hS3:St X h' B w3:=by
   have:=Yx (A:=(l,.loop lp)::(r,.deferred (some []))::L) (F:=[]) (by simpa using hw2) hst
   simpa using this
  have eT:=hst.le
  rcases hR with⟨_,hCS⟩|⟨ch,hx,_⟩
  .rcases hCS with⟨xs,hxs,L',rfl,hI⟩|⟨c,L',rfl,hJ⟩
   .have hb:w3.heap[l]? = some (.loop lp):=hS3.own _ (zB ..)
    have hend:(Ye l).run P w3=.ok none { w3 with heap:=w3.heap.setIfInBounds l (.loop { lp with state:=.exhausted }) }:=by
     simp[Ye,YC,getObj,setObj,Zs,hb,lp]
    refine .step (stepR_endRangeFunc hend) ?_
    have hS4:=hS3.write (i:=0) rfl (.loop { lp with state:=.exhausted })
    exact next r xs h' L' hxs eT hI _ (hS4.sub (List.sublist_cons_self ..)) { a with defers:={ target:=.collected r,args:=#[] }::a.defers } cs Φ hn he (by rw[hds]) hF
   .have hb:w3.heap[l]? = some (.loop { lp with state:=.done,pending:=some c }):=hS3.own _ (zB ..)
    have hend:(Ye l).run P w3=.ok (some c) { w3 with heap:=w3.heap.setIfInBounds l (.loop { lp with state:=.exhausted,pending:=some c }) }:=by
     simp[Ye,YC,getObj,setObj,Zs,hb,lp]
    refine .step (stepR_endRangeFunc hend) ?_
    have hS4:=hS3.write (i:=0) rfl (.loop { lp with state:=.exhausted,pending:=some c })
    exact jump r c h' L' eT hJ _ (hS4.sub (List.sublist_cons_self ..)) { a with defers:={ target:=.collected r,args:=#[] }::a.defers } cs Φ hn he (by rw[hds]) hF
  .cases hx
 have hraise:∀ch w3,(∃h' B,St ⟨w2,h,((l,ZK lp)::(r,.deferred (some []))::L).map (·.1)⟩ h' B w3/\(λ(r:Ending)(h2:HF)(B:LH)=>(r=.returned (.tuple #[])/\((∃xs,S xs/\C xs h2 B)\/Sp h2 B))\/∃ch,r=.panicked ch/\Pm ch h2 B) (.panicked ch) h' B) ->
   To P Φ (lone (((bodyFrame f).atR { a with defers:=[{ target:=.collected r,args:=#[] }]++a.defers } (.inRangeFunc l::k)).raise ch) cs w3):=by
  rintro ch w3 ⟨h',B,hst,hR⟩
  have hS3:St X h' B w3:=by
   have:=Yx (A:=(l,.loop lp)::(r,.deferred (some []))::L) (F:=[]) (by simpa using hw2) hst
   simpa using this
  rcases hR with⟨hx,_⟩|⟨ch',hx,lp',L',rfl,hP⟩
  .cases hx
  .cases hx
   exact pan r ch h' L' hst.le hP w3 (hS3.sub (List.sublist_cons_self ..)) { a with defers:={ target:=.collected r,args:=#[] }::a.defers } cs Φ _ hn he (by rw[hds]) hF
 refine .step (stepR_rangeFunc henter hres hinv) ?_
 exact hcall _ cs Φ hback hraise
theorem FW{es:List MapEntry}(hn:(es.map (·.born)).Nodup)(is:List Nat)(hlt:∀i∈is,i<es.length):
  ((leftOf es.toArray (is.map λi=>(es[i]?.map (·.born)).getD 0).toArray).size=0->∀i,i<es.length->i∈is) /\
  ∀en∈(leftOf es.toArray (is.map λi=>(es[i]?.map (·.born)).getD 0).toArray).toList,∃i,es[i]? = some en/\i∉is:=by
 have hmem:∀en,en∈(leftOf es.toArray (is.map λi=>(es[i]?.map (·.born)).getD 0).toArray).toList↔en∈es/\en.born∉is.map λi=>(es[i]?.map (·.born)).getD 0:=by
  intro en
  simp[leftOf]
 constructor
 .intro h0 i hi
  apply Classical.byContradiction
  intro hni
  have:es[i]∈(leftOf es.toArray (is.map λi=>(es[i]?.map (·.born)).getD 0).toArray).toList:=by
   rw[hmem]
   refine⟨List.getElem_mem hi,λhm=>?_⟩
   obtain⟨j,hj,hje⟩:=qM.1 hm
   have hjl:=hlt j hj
   simp only[List.getElem?_eq_getElem hjl,Option.map_some,Option.getD_some]at hje
   have:j=i:=by
    have h1:(es.map (·.born))[j]? = (es.map (·.born))[i]?:=by simp[List.getElem?_eq_getElem hjl,List.getElem?_eq_getElem hi,hje]
    exact(List.getElem?_inj (by simpa using hjl) hn).1 h1
   exact hni (this▸hj)
  grind
 .intro en hen
  rw[hmem]at hen
  obtain⟨i,hi,rfl⟩:=List.mem_iff_getElem.1 hen.1
  grind
end
variable {xs:List α}
section
section
variable {P:Program} {b:Frame} {n:Nat} {k:List Item} {F:List Frame->(Machine->Prop)->Prop} {e:Env} {ds:List Deferred} {X:Cx} {h:HF} {L:LH}
end
theorem Lq{F:List Frame->(Machine->Prop)->Prop}{h:HF}{L:LH}{val:α->HF->List Value->Prop}(rs:List Nat)(hh:ι->HF)(LL:ι->LH)(I:List α->ι->Prop)(JR:ι->Prop)(xid:Nat)(Q:List PanicEntry->HF->LH->Prop)(i₀ : ι)(hf:P.funcs[f]? = some fn)(hgv:e.ev g=it)(hit:Itr P it val xs h)(hps:ps.all (λp=>kH p n)=true)(hval:∀x h vs,val x h vs->vs.length=ps.length)(hQm:∀ch h1 h2 B,zM h1 h2->Q ch h1 B->Q ch h2 B)(hh0:hh i₀=h)(hL0:L=LL i₀)(h0:I xs i₀)(round:∀(l r:Nat)(lp:Loop)(x:α)(rest:List α)(vs:List Value)(i:ι)(h':HF)(X':Cx)(FR:List Frame->(Machine->Prop)->Prop),I (x::rest) i->h.le h'->(hh i).le h'->val x h' vs->X'.h0=h'->(∀b∈X'.M,b<X'.w0.heap.size)->lp.state=.ready ->
   (∀i' e' h2,I rest i'->(hh i').le h2->TT P (roundFrame l f) n [] FR e' [] X' h2 (rdH l r lp (LL i'++markB rs))) ->
   (∀i' e' h2 k',JR i'->(hh i').le h2->TT P (roundFrame l f) n (.code .ret::k') FR e' [] X' h2 (rdH l r lp (LL i'++markB rs))) ->
   (∀i' e' h2 k',I [] i'->(hh i').le h2->exitTo xid k'=none->TT P (roundFrame l f) n (.code (.exit xid)::k') FR e' [] X' h2 (rdH l r lp (LL i'++markB rs))) ->
   (∀ch e' h' L',Q ch h' L'->TP P (roundFrame l f) n ch FR e' [] X' h' (rdH l r lp (L'++markB rs))) ->
   TT P (roundFrame l f) n [.code assign,.beginRound,.code body] FR (setParams e ps vs) [] X' h' ((l,.loop lp)::(r,.deferred (some []))::(LL i++markB rs)))(next:∀r i h',I [] i->(hh i).le h'->h.le h'->TT P (bodyFrame f) n k F e (marks (r::rs)) X h' (LL i++markB (r::rs)))(jret:∀r i h',JR i->(hh i).le h'->h.le h'->TT P (bodyFrame f) n (.code .ret::.inBlock xid::k) F e (marks (r::rs)) X h' (LL i++markB (r::rs)))(pan:∀r ch h' L',Q ch h' L'->h.le h'->TP P (bodyFrame f) n ch F e (marks (r::rs)) X h' (L'++markB (r::rs))):
  TT P (bodyFrame f) n (.code (.rangeFunc g ps.toArray assign body)::.inBlock xid::k) F e (marks rs) X h (L++markB rs):=
 pz rs hh LL I JR (λi=>I [] i) xid Q i₀ hf hgv hit hps hval hQm hh0 hL0 h0 round (λr i h' a b c=>gU (next r i h' a b c)) jret
  (λr i h' a b c=>jI (by simp[exitTo]) (next r i h' a b c)) pan
section mputs
variable {κ α : Type} [DecidableEq κ]
end mputs
end
variable {G:LH}{base:Option Addr}{ch:Operand}{dir:ChanDir}{yt:Nat}{z:Go.Value}
section
section grow
variable {α : Type} {R:Rp α} {E:TypeId} {h:HF} {xs:List α} {base:Option Addr} {cap:Nat} {G:LH}
theorem di.pE(hG:di R E h xs base cap G)(hne:0<xs.length):∃bk,base=some ⟨bk,0,none⟩:=by
 rcases hG with⟨rfl,_⟩|⟨bk,_,_,e,_⟩
 .simp at hne
 .exact⟨bk,e⟩
theorem di.bnd(hG:di R E h xs base cap G):xs.length<=9223372036854775807:=by
 rcases hG with⟨rfl,_⟩|⟨bk,cl,sp,_,_,_,_,h5,_⟩
 .simp
 .exact h5
theorem di.WU(hG:di R E h xs base cap G):xs.length<=cap:=by
 rcases hG with⟨rfl,_⟩|⟨bk,cl,sp,_,_,_,h4,_⟩
 .simp
 .exact h4
theorem bW.split:∀{xs ys:List α}{cl:List Value},bW R h cl (xs++ys)->∃a b,cl=a++b/\bW R h a xs/\bW R h b ys
 |[],ys,cl,hc=>⟨[],cl,rfl,rfl,hc⟩
 |x::xs,ys,cl,⟨cs,rest,e,hl,hr,hc⟩=>by
  obtain⟨a,b,rfl,h1,h2⟩:=bW.split hc
  exact⟨cs++a,b,by rw[e,zC],⟨cs,a,rfl,hl,hr,h1⟩,h2⟩
theorem di.take(hG:di R E h xs base cap G)(k:Nat):di R E h (xs.take k) base cap G:=by
 rcases hG with⟨rfl,rfl,rfl,rfl⟩|⟨bk,cl,sp,e,hc,h3,h4,h5,rfl⟩
 .rw[List.take_nil];exact di.nil
 .rw[←List.take_append_drop k xs]at hc
  obtain⟨a,b,rfl,h1,h2⟩:=bW.split hc
  refine .inr ⟨bk,a,b++sp,e,h1,by rw[←zC];exact h3,?_,?_,by rw[zC]⟩
  all_goals grind
end grow
section runs
variable {P:Program} {e:Env} {X:Cx} {h:HF} {L:LH} {d:Option Nat} {ty:TypeId} {pos:String} {af:Array Edge} {g:Option (Nat×Bool)}
variable {α : Type} {R:Rp α} {E:TypeId} {xs:List α} {base:Option Addr} {cap bk:Nat} {G:LH}
theorem nU{t:TypeId}{z:Int}(hT:P.underlying t=some (.slice E))(hS:tySz P E=some (R.sz,a))(hb:base=some ⟨bk,0,none⟩)(hz:0<=z/\z<(xs.length:Int))(hx:e.ev x=.slice base m cap)(hm:m=xs.length)(hix:e.ev ix=.int .i64 z):∀w,St X h L w->(execOp e.ev ⟨d,.indexAddr t x ix,ty,pos,af,g⟩).run P w=.ok (.value (.pointer (some ⟨bk,z.toNat*R.sz,none⟩))) w:=by
 subst hb hm
 have hzz:z=(z.toNat:Int):=by omega
 rw[hzz]at hix
 intro w hw
 rw[FO hT hS hx hix (by omega) w hw,tQ]
theorem Cz{t:TypeId}{i:Nat}{y:α}{h0:HF}(hT:tySz P t=some (m,false))(hG:di R E h0 xs base cap G)(hb:base=some ⟨bk,0,none⟩)(hi:xs[i]? = some y)(hv:∀cs,R.rep h0 cs y->nth cs off=some v)(hx:e.ev x=.pointer (some ⟨bk,i*R.sz+off,none⟩))(hm:∀p∈G,p∈L):∀w,St X h L w->(execOp e.ev ⟨d,.load t x,ty,pos,af,g⟩).run P w=.ok (.value v) w:=by
 rcases hG with⟨rfl,_⟩|⟨bk',cl,sp,e1,hc,_,_,_,rfl⟩
 .simp at hi
 .rw[hb]at e1
  cases e1
  obtain⟨cs,hl,hr,hcell⟩:=hc.get i y hi
  have hv':=hv cs hr
  rw[ja]at hv'
  have h9:=hcell off v hv'
  refine Ab hT hx (hm _ (List.mem_singleton.2 rfl)) ?_
  grind [ja]
end runs
theorem zk(a b:List α)(i:Nat)(x:α)(hi:i<a.length):setNth (a++b) i x=setNth a i x++b:=by grind [qh]
theorem EK(a b:List α)(i:Nat)(x:α):setNth (a++b) (a.length+i) x=a++setNth b i x:=by grind [qh]
theorem bW.set{α : Type}{R:Rp α}{h:HF}{off:Nat}{v:Value}{y y':α}(ho:off<R.sz)(hrep:∀cs,R.rep h cs y->R.rep h (setNth cs off v) y'):
  ∀{xs:List α}{cl:List Value}(i:Nat),bW R h cl xs->xs[i]? = some y->bW R h (setNth cl (i*R.sz+off) v) (xs.set i y')
 |x::xs,cl,0,⟨cs,rest,e,hl,hr,hc⟩,hi=>by
  simp at hi
  subst hi
  rw[e,Nat.zero_mul,Nat.zero_add,zk _ _ _ _ (by omega)]
  exact⟨setNth cs off v,rest,rfl,by rw[s9];exact hl,hrep cs hr,hc⟩
 |x::xs,cl,i+1,⟨cs,rest,e,hl,hr,hc⟩,hi=>by
  have ih:=bW.set ho hrep i hc (by simpa using hi)
  rw[e,show(i+1)*R.sz+off=cs.length+(i*R.sz+off)from by rw[hl,Nat.add_mul];omega,EK]
  exact⟨cs,_,rfl,hl,hr,ih⟩
 |[],_,_,_,hi=>by simp at hi
section steps
variable {P:Program} {b:Frame} {n:Nat} {ops:Array Oper} {F:List Frame->(Machine->Prop)->Prop} {e:Env} {ds:List Deferred} {X:Cx} {h:HF} {L:LH} {K:Env->HF->LH->Prop}
variable {d:Option Nat} {ty:TypeId} {pos:String} {af:Array Edge} {g:Option (Nat×Bool)}
variable {α : Type} {R:Rp α} {E:TypeId} {xs:List α} {base:Option Addr} {cap bk:Nat}
theorem DE(A G Q:LH){t:TypeId}{i:Nat}{u u':α}(hT:tySz P t=some (m,a))(hm:m=1)(hG:di R E h xs base cap G)(hL:L=A++(G++Q))(hb:base=some ⟨bk,0,none⟩)(hi:xs[i]? = some u)(ho:off<R.sz)(hrep:∀cs,R.rep h cs u->R.rep h (setNth cs off v) u')(hx:e.ev x=.pointer (some ⟨bk,i*R.sz+off,none⟩))(hv:vcells (e.ev y)=[v])(h1:one v=true)(t':∀G',di R E h (xs.set i u') base cap G'->K e h (A++(G'++Q)))(hg:guardB ops e ⟨none,.store t x y,ty,pos,af,g⟩=true:=by rfl):Stp P b n ops F ds X ⟨none,.store t x y,ty,pos,af,g⟩ e h L K:=by
 subst hL hm
 rcases hG with⟨rfl,_⟩|⟨bk',cl,sp,e1,hc,h3,h4,h5,rfl⟩
 .simp at hi
 .have e2:=e1
  rw[hb]at e2
  cases e2
  have hlen:=hc.len
  have hil:i<xs.length:=by
   all_goals grind
  have hlt:i*R.sz+off<cl.length:=by
   rw[hlen]
   have:=Nat.mul_le_mul_right R.sz (show i+1<=xs.length from hil)
   rw[Nat.add_mul]at this;omega
  have hnth:nth (A++([(bk,vG (cl++sp).toArray E (0,0))]++Q)) A.length=some (bk,.cells (cl++sp).toArray E (0,0)):=RL A _ Q
  refine qi A.length hT hx hnth hv rfl (by simp;omega) (by simp[h1]) ?_ hg
  have hs:splice (cl++sp) (i*R.sz+off) [v]=setNth cl (i*R.sz+off) v++sp:=by
   grind [splice,zk]
  rw[hs]
  have hset:=Ic A (bk,vG (cl++sp).toArray E (0,0)) (bk,vG (setNth cl (i*R.sz+off) v++sp).toArray E (0,0)) Q
  show K e h (setNth (A++(bk,vG (cl++sp).toArray E (0,0))::Q) A.length _)
  rw[hset]
  refine t' [(bk,.cells (setNth cl (i*R.sz+off) v++sp).toArray E (0,0))] (.inr ⟨bk,setNth cl (i*R.sz+off) v,sp,e1,bW.set ho hrep i hc hi,?_,?_,?_,rfl⟩)
  all_goals grind [s9]
theorem T1{t:TypeId}{hi:Operand}{z:Int}(hT:P.underlying t=some (.slice E))(hS:tySz P E=some (R.sz,a))(hG:di R E h xs base cap G)(hz:0<=z/\z<=(xs.length:Int))(hx:e.ev x=.slice base m cap)(hm:m=xs.length)(hhi:e.ev hi=.int .i64 z)(t':K (pute e d (.slice base (xs.take z.toNat).length cap)) h L)(hg:guardB ops e ⟨d,.slice t x none (some hi) none,ty,pos,af,g⟩=true:=by rfl):Stp P b n ops F ds X ⟨d,.slice t x none (some hi) none,ty,pos,af,g⟩ e h L K:=by
 subst hm
 have hcap:=hG.WU
 have hz2:0<=z/\z<=(cap:Int):=by omega
 have hl:z.toNat=(xs.take z.toNat).length:=by simp;omega
 refine fU (v:=.slice base (xs.take z.toNat).length cap) (λw hw=>?_) t' hg
 rw[←hl]
 by_cases h0:cap=0
 .have hz0:z=0:=by omega
  subst hz0
  simp[execOp,Instr.sliceAt,Instr.slice,Instr.sliceBounds,Instr.sliceBound,hx,hhi,asIntOf,run_underlying hT,iP hS,hz2,h0]
 .simp[execOp,Instr.sliceAt,Instr.slice,Instr.sliceBounds,Instr.sliceBound,hx,hhi,asIntOf,run_underlying hT,iP hS,hz2,h0,jP]
theorem Ig(A G Q:LH)(hc:∀args w,(callFunc f args).run P w=.ok (.enter f args) w)(hm:R.Mono)(hG:di R E h xs base cap G)(hL:L=A++(G++Q))(hs:∀h1,h.le h1->SlC R h1 base cap xs->Ret P f vs h1 v)(hvs:ass.toList.map e.ev=vs)(t':K (pute e d v) h L)(hg:guardB ops e ⟨d,.call ⟨.value (.func f),ass,ats⟩,ty,pos,af,g⟩=true:=by rfl):
  Stp P b n ops F ds X ⟨d,.call ⟨.value (.func f),ass,ats⟩,ty,pos,af,g⟩ e h L K:=by
 unfold Stp
 rw[if_pos hg]
 intro w hw
 have harr:ass.map e.ev=vs.toArray:=qV (by simp[←hvs])
 have hr:(execOp e.ev ⟨d,.call ⟨.value (.func f),ass,ats⟩,ty,pos,af,g⟩).run P w=.ok (.enter f vs.toArray) w:=by
  simp[execOp,resolve,Zc,jH,invoke,harr,hc]
 rw[hr]
 have back:∀(h1:HF),h.le h1->(∀bk o,h1 bk=some o->w.heap[bk]? = some o)->SlC R h1 base cap xs->zX P b n ops F ds X ⟨d,.call ⟨.value (.func f),ass,ats⟩,ty,pos,af,g⟩ e K (.ok (.enter f vs.toArray) w):=by
  intro h1 eT himm hsl
  have hp1:Pre h1 [] w:=⟨himm,λ_ hp=>(vA hp).elim,XV,λ_ hp=>(vA hp).elim⟩
  refine nn (by simp) (lH (tT.mono (hs h1 eT hsl w hp1) ?_))
  rintro x w' ⟨h',B,hst,rfl,rfl,rfl⟩
  refine⟨h,L,⟨hst.os.trans hw.os,hst.tape.trans hw.tape,hst.output.trans hw.output,zN hw.size hst.size,λb' hb' hM=>?_,hw.le,hw.old,λb' o hb'=>?_,λp hp=>?_,hw.dis,hw.free,hw.new⟩,t'⟩
  .rw[hst.keep b' (Ya hb' hw.size) (by simp)];exact hw.keep b' hb' hM
  .rw[hst.keep b' (jX (hw.imm b' o hb')) (by simp)];exact hw.imm b' o hb'
  .rw[hst.keep p.1 (jX (hw.own p hp)) (by simp)];exact hw.own p hp
 rcases hG with⟨rfl,rfl,rfl,rfl⟩|⟨bk,cl,sp,rfl,hcl,h3,h4,h5,rfl⟩
 .exact back h (vF h) hw.imm SlC.nil
 .have hmem:(bk,vG (cl++sp).toArray E (0,0))∈L:=by rw[hL];simp
  have eT:h.le (h.add bk (.cells (cl++sp).toArray E (0,0))):=HF.C3 (hw.free _ hmem)
  refine back _ eT (λk o hk=>?_) ⟨bW.slB (hcl.mono hm eT) (HF.yn _ _ _) h5,h4⟩
  unfold HF.add at hk
  by_cases e0:k=bk
  .subst e0;simp at hk;subst hk;exact hw.own _ hmem
  .rw[if_neg e0]at hk;exact hw.imm k o hk
theorem T6{t E:TypeId}{sz:Operand}(hT:P.underlying t=some (.chan dir E))(hby:bytesOf P E=some yt)(hsz:e.ev sz=.int .i64 (m:Nat))(hm:m<=1000000000)(hb:yt<=4096)(t':∀bk,K (pute e d (.chan (some bk))) h ((bk,.chan m #[] false 0 0 false)::L))(hg:guardB ops e ⟨d,.makeChan t sz,ty,pos,af,g⟩=true:=by rfl):Stp P b n ops F ds X ⟨d,.makeChan t sz,ty,pos,af,g⟩ e h L K:=
 kn hg λw hw=>by
  refine⟨_,_,h,_,?_,hw.alloc (.chan m #[] false 0 0 false),t' _⟩
  have h1:¬((m:Int)>IntKind.i64.max):=by
   have:IntKind.i64.max=9223372036854775807:=by rfl
   omega
  have h2:∃i,P.info? E=some i/\i.bytes=yt:=by
   unfold bytesOf at hby
   cases hi:P.info? E with
   |none=>rw[hi]at hby;cases hby
   |some i=>rw[hi]at hby;exact⟨i,rfl,by simpa using hby⟩
  obtain⟨i,hi,hib⟩:=h2
  have h3:¬((i.bytes:Int)*(m:Int)>2 ^ 48-112):=by
   rw[hib]
   have:yt*m<=4096*1000000000:=Nat.mul_le_mul hb hm
   grind
  simp only[execOp,Instr.makeChan,hsz]
  simp[asInt,asIntOf,run_underlying hT,typeInfo,hi]
  grind
end steps
theorem CH{s:GStep}{g:Goroutine}{cs:Array CommCase}{bl:Bool}{sh:CommShape}(h:s.bare=.comm g cs bl sh w):∃es,s=.comm g cs bl sh w es:=by
 cases s<;>simp at h
 obtain⟨rfl,rfl,rfl,rfl,rfl⟩:=h
 exact⟨_,rfl⟩
section comm
variable {P:Program} {b:Frame} {n:Nat} {ops:Array Oper} {l:List Oper} {k:List Item} {F:List Frame->(Machine->Prop)->Prop} {e:Env} {ds:List Deferred} {X:Cx} {h:HF} {L:LH}
variable {ty:TypeId} {pos:String} {af:Array Edge} {g:Option (Nat×Bool)}
theorem WI(i:Nat){c cap s r:Nat}(hL:nth L i=some (c,.chan cap vs.toArray false s r false))(hch:e.ev ch=.chan (some c))(hx:e.ev x=v)(hroom:vs.length<cap)(t:TO P b n ops l k F e ds X h (setNth L i (c,.chan cap (vs++[v]).toArray false (s+1) r false)))(hg:guardB ops e ⟨none,.send ch x,ty,pos,af,g⟩=true:=by rfl):TO P b n ops (⟨none,.send ch x,ty,pos,af,g⟩::l) k F e ds X h L:=by
 intro w hw is hi a cs Φ hn he hds hF
 obtain⟨j,js,rfl,ho,hj⟩:=rX hi
 have hwt:=(gP (ops:=ops) he).trans hg
 have hs:=stepGR_op (P:=P) (b:=b) (k:=k) (cs:=cs) (w:=w) (rest:=js) ho hwt
 rw[lO _ _ rfl,lU,he]at hs
 have hb:w.heap[c]? = some (.chan cap vs.toArray false s r false):=by
  have h2:=hL
  rw[ja]at h2
  exact hw.own _ (kD h2)
 have hcm:∃es,stepG P true (Go.Conc.G (b.atR a (.inRegion ops (j::js)::k)) cs) w=.comm (Go.Conc.G (b.atR a (.inRegion ops (j::js)::k)) cs) #[Go.Conc.scase c v (.tuple #[])] true .send w es:=by
  have hrun:(execOp e.ev ⟨none,.send ch x,ty,pos,af,g⟩).run P w=.ok (.comm #[Go.Conc.scase c v (.tuple #[])] true .send) w:=by
   simp[execOp,hch,hx,Go.Conc.scase]
  show ∃es,stepG P true { frame:=b.atR a (.inRegion ops (j::js)::k),callers:=cs,status:=.running,dying:=none } w=_
  refine CH ?_
  rw[hs]
  simp[stepG.apply,hrun,Go.Conc.G]
 obtain⟨es,hcm⟩:=hcm
 have h1:=Go.Conc.step_lone_send_room hcm hb (by simpa using hroom)
 refine .step h1 ?_
 rw[show Go.Conc.solo (Go.Conc.G ((b.atR a (.inRegion ops (j::js)::k)).finish undef) cs) (w.setChan c cap (vs.toArray.push v) false (s+1) r false)=lone ((b.atR a (.inRegion ops (j::js)::k)).finish undef) cs (w.setChan c cap (vs.toArray.push v) false (s+1) r false)from rfl,iZ a js k ho undef]
 have hw2:=hw.write hL (.chan cap (vs++[v]).toArray false (s+1) r false)
 have e1:vs.toArray.push v=(vs++[v]).toArray:=by simp
 rw[e1]
 exact t _ hw2 js hj a cs Φ hn he hds hF
theorem WJ(i:Nat){t:TypeId}{d c cap s r:Nat}(hT:P.underlying t=some (.chan dir E))(hz:zeroV P E=some z)(hL:nth L i=some (c,.chan cap (v::vs).toArray false s r false))(hch:e.ev ch=.chan (some c))(t':TO P b n ops l k F (upd e d v) ds X h (setNth L i (c,.chan cap vs.toArray false s (r+1) false)))(hd:Nat.blt d n=true:=by rfl)(hg:guardB ops e ⟨some d,.recv t ch false,ty,pos,af,g⟩=true:=by rfl):TO P b n ops (⟨some d,.recv t ch false,ty,pos,af,g⟩::l) k F e ds X h L:=by
 intro w hw is hi a cs Φ hn he hds hF
 obtain⟨j,js,rfl,ho,hj⟩:=rX hi
 have hwt:=(gP (ops:=ops) he).trans hg
 have hs:=stepGR_op (P:=P) (b:=b) (k:=k) (cs:=cs) (w:=w) (rest:=js) ho hwt
 rw[lO _ _ rfl,lU,he]at hs
 have hb:w.heap[c]? = some (.chan cap (v::vs).toArray false s r false):=by
  have h2:=hL
  rw[ja]at h2
  exact hw.own _ (kD h2)
 have hcm:∃es,stepG P true (Go.Conc.G (b.atR a (.inRegion ops (j::js)::k)) cs) w=.comm (Go.Conc.G (b.atR a (.inRegion ops (j::js)::k)) cs) #[Go.Conc.rcase c z] true (.recv false) w es:=by
  have hrun:(execOp e.ev ⟨some d,.recv t ch false,ty,pos,af,g⟩).run P w=.ok (.comm #[Go.Conc.rcase c z] true (.recv false)) w:=by
   simp[execOp,run_underlying hT,gF hz,hch,Go.Conc.rcase]
  show ∃es,stepG P true { frame:=b.atR a (.inRegion ops (j::js)::k),callers:=cs,status:=.running,dying:=none } w=_
  refine CH ?_
  rw[hs]
  simp[stepG.apply,hrun,Go.Conc.G]
 obtain⟨es,hcm⟩:=hcm
 have h1:=Go.Conc.step_lone_recv_buf false hcm hb (by simp)
 refine .step h1 ?_
 have e2:Go.Conc.got false ((v::vs).toArray.getD 0 undef) true=v:=by simp[Go.Conc.got]
 have e1:(v::vs).toArray.extract 1 (v::vs).toArray.size=vs.toArray:=by simp
 rw[e2,e1]
 rw[show Go.Conc.solo (Go.Conc.G ((b.atR a (.inRegion ops (j::js)::k)).finish v) cs) (w.setChan c cap vs.toArray false s (r+1) false)=lone ((b.atR a (.inRegion ops (j::js)::k)).finish v) cs (w.setChan c cap vs.toArray false s (r+1) false)from rfl,iZ a js k ho v]
 have hw2:=hw.write hL (.chan cap vs.toArray false s (r+1) false)
 have hdn:d<n:=jM hd
 exact t' _ hw2 js hj (a.put (some d) v) cs Φ (by rw[qw];exact hn) (by rw[rG _ _ _ (hn▸hdn),he]) (by rw[nY];exact hds) hF
end comm
section runs2
variable {P:Program} {e:Env} {X:Cx} {h:HF} {L:LH} {d:Option Nat} {ty:TypeId} {pos:String} {af:Array Edge} {g:Option (Nat×Bool)}
theorem WB{t:TypeId}{c cap s r:Nat}(hT:P.underlying t=some (.chan dir E))(hL:(c,Obj.chan cap vs.toArray false s r false)∈L)(hch:e.ev ch=.chan (some c)):
  ∀w,St X h L w->(execOp e.ev ⟨d,.call ⟨.builtin .len,#[ch],#[t]⟩,ty,pos,af,g⟩).run P w=.ok (.value (.int .i64 (vs.length:Nat))) w:=λw hw=>by
 have hb:w.heap[c]? = some (.chan cap vs.toArray false s r false):=hw.own _ hL
 have hg:(getObj c).run P w=.ok (.chan cap vs.toArray false s r false) w:=by simp[getObj,Zs,hb]
 simp[execOp,resolve,invoke,builtin,Builtin.len_,hch,run_underlying hT,hg,goInt]
end runs2
theorem OR{R:Rp α}{h:HF}{L:LH}{t ty:TypeId}{ys:List α}{cap:Nat}{x:Value}(hw:St X h L w)(hT:P.underlying t=some (.slice E))(hS:tySz P E=some (R.sz,a))(hz:zeroC P E=some zs)(hzl:zs.length=R.sz)(hby:bytesOf P E=some yt)(hs1:Src R h L (.slice base xs.length cap) xs)(hsrc:Src R h L x ys)(hcap:cap<xs.length+ys.length)(hb:(xs.length+ys.length)*yt<=140737488355328)(hb2:xs.length+ys.length<=9223372036854775807):
  ∃base' cap' G' w',(Builtin.append_ #[t,t] ty #[.slice base xs.length cap,x]).run P w=.ok (.slice base' (xs++ys).length cap') w'/\di R E h (xs++ys) base' cap' G'/\St X h (G'++L) w':=by
 obtain⟨i,hi,hby'⟩:∃i,P.info? E=some i/\i.bytes=yt:=by
  unfold bytesOf at hby
  cases hi:P.info? E with
  |none=>simp[hi]at hby
  |some i=>exact⟨i,rfl,by simpa[hi]using hby⟩
 have hsz:i.size=R.sz:=by
  have:=iP hS w
  simpa[sizeOf,typeInfo,hi]using this
 obtain⟨z,hzz,hzc⟩:∃z,i.zero=some z/\z.cells=zs.toArray:=by
  unfold zeroC at hz
  cases hzz:i.zero with
  |none=>simp[hi,hzz]at hz
  |some z=>exact⟨z,rfl,by simp[hi,hzz]at hz;rw[oh,hz]⟩
 have hnewlen:(xs++ys).length=xs.length+ys.length:=by simp
 have hroom:¬xs.length+ys.length<=cap:=by omega
 have hwd:St X h L w.drew:=hw.drew _
 obtain⟨cl0,b0,c0,hx0,hc0,hf0⟩:=BI (P:=P) hs1 hwd
 obtain⟨cl',b1,c1,hx',hc',hf'⟩:=BI (P:=P) hsrc hwd
 have hfit:Builtin.nextslicecap (xs.length+ys.length) cap*i.bytes<=281474976710656:=growslice_fits hcap (by rw[hby'];exact hb)
 have h48':¬(281474976710656<Builtin.nextslicecap (xs.length+ys.length) cap*i.bytes):=by omega
 have h63':¬(9223372036854775807<((xs.length:Int)+(ys.length:Int))):=by omega
 have hge:=grownCap_ge w (xs.length+ys.length) cap E
 let nc:=grownCap w (xs.length+ys.length) cap E
 let rest:=(Builtin.zeroCells z.cells (nc-(xs.length+ys.length))).toList
 refine⟨some ⟨w.heap.size,0,none⟩,nc,[(w.heap.size,.cells ((cl0++cl')++rest).toArray E (0,0))],w.drew.alloc (.cells ((cl0++cl')++rest).toArray E),?_,?_,?_⟩
 .subst hx'
  rw[←hsz]at hf0 hf'
  simp[Builtin.append_,run_underlying hT,sizeOf,typeInfo,zeroValue,hi,hzz,Builtin.lenOf,hroom,h63',h48',Question.forced,hf0,hf',newRow,grownCap,nc,rest]
  congr 2
  apply qV
  simp
 .refine .inr ⟨w.heap.size,cl0++cl',rest,rfl,bW.app hc' hc0,?_,by rw[hnewlen];exact hge,by rw[hnewlen];exact hb2,rfl⟩
  have:rest.length=(nc-(xs.length+ys.length))*R.sz:=by
   simp[rest,Builtin.zeroCells,hzc,hzl]
  simp only[kA,this,hc0.len,hc'.len,←Nat.add_mul]
  congr 1
  omega
 .exact hwd.alloc (.cells ((cl0++cl')++rest).toArray E (0,0))
section steps3
variable {P:Program} {b:Frame} {n:Nat} {ops:Array Oper} {F:List Frame->(Machine->Prop)->Prop} {e:Env} {ds:List Deferred} {X:Cx} {h:HF} {L:LH} {K:Env->HF->LH->Prop}
variable {d:Option Nat} {ty:TypeId} {pos:String} {af:Array Edge} {g:Option (Nat×Bool)}
theorem Lz{R:Rp α}{t:TypeId}{s:Operand}{ys:List α}{cap:Nat}(hT:P.underlying t=some (.slice E))(hS:tySz P E=some (R.sz,a))(hz:zeroC P E=some zs)(hzl:zs.length=R.sz)(hby:bytesOf P E=some yt)(hs1:Src R h L (.slice base xs.length cap) xs)(hx:e.ev s=.slice base m cap)(hm:m=xs.length)(hsrc:Src R h L (e.ev y) ys)(hcap:cap<xs.length+ys.length)(hb:(xs.length+ys.length)*yt<=140737488355328)(hb2:xs.length+ys.length<=9223372036854775807)(t':∀base' cap' G',di R E h (xs++ys) base' cap' G'->K (pute e d (.slice base' (xs++ys).length cap')) h (G'++L))(hgd:guardB ops e ⟨d,.call ⟨.builtin .append,#[s,y],#[t,t]⟩,ty,pos,af,g⟩=true:=by rfl):Stp P b n ops F ds X ⟨d,.call ⟨.builtin .append,#[s,y],#[t,t]⟩,ty,pos,af,g⟩ e h L K:=
 kn hgd λw hw=>by
  subst hm
  obtain⟨base',cap',G',w',hr,hG',hst⟩:=OR (P:=P) (ty:=ty) hw hT hS hz hzl hby hs1 hsrc hcap hb hb2
  refine⟨_,w',h,_,?_,hst,t' _ _ _ hG'⟩
  simp[execOp,resolve,invoke,builtin,hx,hr]
theorem SC{t:TypeId}{len:Nat}{cells:List Value}(hXM:∀b∈X.M,b<X.w0.heap.size)(hT:P.underlying t=some (.slice E))(hS:tySz P E=some (sz,a))(hz:zeroC P E=some zs)(hpos:kH 0 (len*sz)=true)(hlt:YE (len*sz) 16777216=true)(hc:Y0 (λi=>some (i*sz,sz)) ((Array.range (len*sz)).map (zs.toArray[·%zs.toArray.size]!)) (parts.toList.map λp=>(p.1,e.ev p.2))=some cells.toArray)(t':∀bk,bk∉X.M->K (pute e d (.slice (some ⟨bk,0,none⟩) len len)) h ((bk,.cells cells.toArray E (0,0))::L))(hg:guardB ops e ⟨d,.buildSlice t len parts,ty,pos,af,g⟩=true:=by rfl):Stp P b n ops F ds X ⟨d,.buildSlice t len parts,ty,pos,af,g⟩ e h L K:=
 kn hg λw hw=>by
  obtain⟨z,h1,h2⟩:=uQ hz w
  have hp:=rn hpos
  have hl:=jM hlt
  have hparts:(parts.map λx=>(x.1,e.ev x.2)).toList=parts.toList.map λp=>(p.1,e.ev p.2):=by simp
  refine⟨_,_,h,_,?_,hw.alloc _,t' _ (λhm=>by have:=hXM _ hm;have:=hw.size;omega)⟩
  have hne:¬len*sz=0:=by omega
  have hnl:¬len*sz>2 ^ 24:=by omega
  simp only[execOp,Instr.buildSlice,kL,run_underlying hT,xK,iP hS,hnl,hne,if_false,h1,h2,Yy,hparts]
  rw[hc]
  simp[newRow]
theorem MT(A Q:LH){t:Nat}{Φ:LH->Prop}(hL:L.Perm (A++Q))(hs:n0 P fv vs.toArray h A (λx h' B=>x=.returned (.tuple #[])/\h'=h/\Φ B))(hf:e t=fv)(hvs:ass.toList.map e.ev=vs)(t':∀B,Φ B->K (pute e d (.tuple #[])) h (B++Q))(hg:guardB ops e ⟨d,.call ⟨.value (.tmp t),ass,ats⟩,ty,pos,af,g⟩=true:=by rfl):Stp P b n ops F ds X ⟨d,.call ⟨.value (.tmp t),ass,ats⟩,ty,pos,af,g⟩ e h L K:=by
 unfold Stp
 rw[if_pos hg]
 intro w hw
 have hw':=hw.perm hL
 have harr:ass.map e.ev=vs.toArray:=qV (by simp[←hvs])
 obtain⟨nx,hrun,hcall⟩:=hs w (Pre.left (A:=A) hw'.pre)
 have hr:(execOp e.ev ⟨d,.call ⟨.value (.tmp t),ass,ats⟩,ty,pos,af,g⟩).run P w=.ok nx w:=by
  rw[←hrun]
  simp[execOp,resolve,Zc,harr,hf]
 rw[hr]
 refine nn (pI hcall) (hcall.mono ?_)
 rintro x w' ⟨h',B,hst,rfl,rfl,hB⟩
 exact⟨h',_,Yx (A:=A) (F:=Q) hw' hst,t' B hB⟩
theorem Ie{o:Oper}(hp:L.Perm L')(t:Stp P b n ops F ds X o e h L' K)(hg:guardB ops e o=true:=by rfl):Stp P b n ops F ds X o e h L K:=by
 unfold Stp at t ⊢
 rw[if_pos hg]at t ⊢
 exact λw hw=>t w (hw.perm hp)
end steps3
section runs3
variable {P:Program} {e:Env} {X:Cx} {h:HF} {L:LH} {d:Option Nat} {ty:TypeId} {pos:String} {af:Array Edge} {g:Option (Nat×Bool)}
theorem WC{t:TypeId}{hi mx:Operand}{cap:Nat}(hT:P.underlying t=some (.slice E))(hS:tySz P E=some (sz,a))(hx:e.ev x=.slice base n cap)(hhi:e.ev hi=.int .i64 (n:Nat))(hmx:e.ev mx=.int .i64 (n:Nat))(hc:n<=cap):
  ∀w,St X h L w->(execOp e.ev ⟨d,.slice t x none (some hi) (some mx),ty,pos,af,g⟩).run P w=.ok (.value (.slice base n n)) w:=λw hw=>by
 by_cases h0:n=0
 .subst h0
  simp[execOp,Instr.sliceAt,Instr.slice,Instr.sliceBounds,Instr.sliceBound,hx,hhi,hmx,asIntOf,run_underlying hT,iP hS,hc]
 .simp[execOp,Instr.sliceAt,Instr.slice,Instr.sliceBounds,Instr.sliceBound,hx,hhi,hmx,asIntOf,run_underlying hT,iP hS,hc,h0,jP]
end runs3
theorem sW.del{κ α : Type}{enc:κ->Value}{V:HF->Value->α->Prop}{h:HF}[DecidableEq κ]{k:κ}:∀{es:List MapEntry}{m:List (κ×α)}(j:Nat),sW enc V h es m ->
  match findIn k (m.map (·.1)) es j with
  |some (i,_)=>j<=i/\i-j<es.length/\sW enc V h (es.eraseIdx (i-j)) (mdel m k)
  |none=>sW enc V h es (mdel m k)
 |[],[],_,_=>trivial
 |e::es,(k',v)::m,j,⟨a,b,c⟩=>by
  simp only[jG,findIn,mdel]
  by_cases hk:k=k'
  .simp only[hk,if_true]
   refine⟨zE _,by simp,?_⟩
   rw[Nat.sub_self];exact c
  .simp only[hk,if_false]
   have ih:=sW.del (k:=k) (j+1) c
   cases hf:findIn k (m.map (·.1)) es (j+1)with
   |none=>rw[hf]at ih;exact⟨a,b,ih⟩
   |some p=>
    obtain⟨i,u⟩:=p
    rw[hf]at ih
    obtain⟨h1,h2,h3⟩:=ih
    have e1:i-j=(i-(j+1))+1:=by omega
    refine⟨by omega,by simp;omega,?_⟩
    rw[e1,List.eraseIdx_cons_succ];exact⟨a,b,h3⟩
 |[],_::_,_,x=>x.elim
 |_::_,[],_,x=>x.elim
section del
variable {P:Program} {b:Frame} {n:Nat} {ops:Array Oper} {F:List Frame->(Machine->Prop)->Prop} {e:Env} {ds:List Deferred} {X:Cx} {h:HF} {L:LH} {K:Env->HF->LH->Prop}
variable {d:Option Nat} {ty:TypeId} {pos:String} {af:Array Edge} {g:Option (Nat×Bool)} {κ α : Type} {enc:κ->Value} {V:HF->Value->α->Prop} [DecidableEq κ]
end del
theorem BO{α : Type}[DecidableEq α]:∀{a b:List α},a.Nodup->(∀x∈a,x∈b)->a.length<=b.length
 |[],b,_,_=>kJ _
 |x::a,b,hn,hs=>by
  rw[jQ]at hn
  have hx:x∈b:=hs x (zB ..)
  have ih:=BO (b:=b.erase x) hn.2 (λy hy=>by
   have hne:y≠x:=λe=>hn.1 (e▸hy)
   rw[List.mem_erase_of_ne hne];exact hs y (qC _ hy))
  rw[List.length_erase_of_mem hx]at ih
  have:=List.length_pos_of_mem hx
  simp only[xA]
  omega
section frz
variable {P:Program} {b:Frame} {n:Nat} {k:List Item} {F:List Frame->(Machine->Prop)->Prop} {e:Env} {ds:List Deferred} {X:Cx} {h:HF} {L:LH}
theorem HT{todo:List Item}(A G Q:LH)(hL:L=A++(G++Q))(hM:X.M=[])(t:∀h2,h.le h2->(∀p∈G,h2 p.1=some p.2)->TT P b n todo F e ds X h2 (A++Q)):TT P b n todo F e ds X h L:=by
 subst hL
 intro w hw
 obtain⟨h1,h2,h3⟩:=hw.freezeMid hM
 exact t _ h2 h3 w h1
theorem Vm(sl:ι->List (Nat×Value))(hh:ι->HF)(LL:ι->LH)(I:ι->Prop)(hk:∀i,I i->∀e',TT P b n k F (upds e' (sl i)) ds X (hh i) (LL i))(t':(∀i e',I i->fT e' (sl i)->TT P b n k F e' ds X (hh i) (LL i))->TT P b n (.code c::k) F e ds X h L):TT P b n (.code c::k) F e ds X h L:=
 t' λi e' hI hr=>by have:=hk i hI e';rw[hr.upds]at this;exact this
end frz
end
section
def attR:Except Int Unit->Int
 |.ok _=>0
 |.error e=>e
def idxByte(s:ByteArray)(c:Int):Int:=match(List.range s.size).find? (λi=>s[i]! == UInt8.ofNat c.toNat)with
 |some i=>(i:Nat)
 |none=>-1
def bsI(xs:List Int)(t:Int):Int:=((xs.countP (·<t):Nat):Int)
def slices_BinarySearch_int(x:List Int)(target:Int):Int×Bool:=(bsI x target,x.contains target)
def insI(x:Int):List Int->List Int
 |[]=>[x]
 |y::l=>bif decide (x<=y)then x::y::l else y::insI x l
def sortI:List Int->List Int
 |[]=>[]
 |x::l=>insI x (sortI l)
theorem Fd(x:Int):∀l,(insI x l).Perm (x::l)
 |[]=>List.Perm.refl _
 |y::l=>by
  simp only[insI,Bool.cond_eq_ite]
  split
  .exact List.Perm.refl _
  .exact(List.Perm.cons y (Fd x l)).trans (List.Perm.swap x y l)
theorem m7:∀xs,(sortI xs).Perm xs
 |[]=>List.Perm.refl _
 |x::l=>(Fd x _).trans (List.Perm.cons x (m7 l))
theorem kO(xs:List Int):(sortI xs).length=xs.length:=(m7 xs).length_eq
theorem FZ(x:Int):∀l:List Int,l.Pairwise (·<=·)->(insI x l).Pairwise (·<=·)
 |[],_=>by simp[insI]
 |y::l,h=>by
  rw[List.pairwise_cons]at h
  simp only[insI,Bool.cond_eq_ite,decide_eq_true_eq]
  split
  .next hxy=>
   rw[List.pairwise_cons]
   refine⟨λz hz=>?_,List.pairwise_cons.2 h⟩
   grind
  .next hxy=>
   rw[List.pairwise_cons]
   refine⟨λz hz=>?_,FZ x l h.2⟩
   grind [Fd]
theorem oJ:∀xs,(sortI xs).Pairwise (·<=·)
 |[]=>List.Pairwise.nil
 |x::l=>FZ x _ (oJ l)
theorem AC:∀{a b:List Int},a.Pairwise (·<=·)->b.Pairwise (·<=·)->a.Perm b->a=b
 |[],b,_,_,p=>(List.Perm.nil_eq p)
 |x::a,[],_,_,p=>absurd p.length_eq (by simp)
 |x::a,y::b,ha,hb,p=>by
  have hx:x=y:=by
   have h1:x∈y::b:=p.mem_iff.1 (zB ..)
   have h2:y∈x::a:=p.mem_iff.2 (zB ..)
   rw[List.pairwise_cons]at ha hb
   grind
  subst hx
  rw[List.pairwise_cons]at ha hb
  rw[AC ha.2 hb.2 (List.Perm.cons_inv p)]
theorem OE{xs ys:List Int}(p:xs.Perm ys):sortI xs=sortI ys:=by grind [AC,oJ,m7]
def insS(x:OSeat):List OSeat->List OSeat
 |[]=>[x]
 |y::l=>bif decide (x.bu<=y.bu)then x::y::l else y::insS x l
def seatS:List OSeat->List OSeat
 |[]=>[]
 |x::l=>insS x (seatS l)
theorem Fb(x:OSeat):∀l,(insS x l).Perm (x::l)
 |[]=>List.Perm.refl _
 |y::l=>by
  simp only[insS,Bool.cond_eq_ite]
  split
  .exact List.Perm.refl _
  .exact(List.Perm.cons y (Fb x l)).trans (List.Perm.swap x y l)
theorem pR:∀xs,(seatS xs).Perm xs
 |[]=>List.Perm.refl _
 |x::l=>(Fb x _).trans (List.Perm.cons x (pR l))
theorem FY(x:OSeat):∀l:List OSeat,l.Pairwise (λa b=>a.bu<=b.bu)->(insS x l).Pairwise (λa b=>a.bu<=b.bu)
 |[],_=>by simp[insS]
 |y::l,h=>by
  rw[List.pairwise_cons]at h
  simp only[insS,Bool.cond_eq_ite,decide_eq_true_eq]
  split
  .next hxy=>
   rw[List.pairwise_cons]
   refine⟨λz hz=>?_,List.pairwise_cons.2 h⟩
   grind
  .next hxy=>
   rw[List.pairwise_cons]
   refine⟨λz hz=>?_,FY x l h.2⟩
   grind [Fb]
theorem yC:∀xs,(seatS xs).Pairwise (λa b=>a.bu<=b.bu)
 |[]=>List.Pairwise.nil
 |x::l=>FY x _ (yC l)
theorem NA(xs:List Int):(xs.mergeSort λx y=>decide (x<=y))=sortI xs:=by
 have h:=List.pairwise_mergeSort (le:=λx y:Int=>decide (x<=y)) (λa b c h1 h2=>by simp at *;omega) (λa b=>by simp;omega) xs
 exact AC (h.imp (λh=>by simpa using h)) (oJ _) ((List.mergeSort_perm _ _).trans (m7 xs).symm)
theorem AS{κ α : Type}[DecidableEq κ]{P:α->Prop}:∀{m:List (κ×α)}(k:κ){v:α},(∀p∈m,P p.2)->P v->∀p∈mput m k v,P p.2
 |[],k,v,_,hv,p,hp=>by simp[mput]at hp;subst hp;exact hv
 |(k',v')::m,k,v,h,hv,p,hp=>by
  simp only[mput]at hp
  split at hp
  .grind
  .rcases vC.1 hp with rfl|hp
   .exact h _ (zB ..)
   .exact AS k (λq hq=>h q (qC _ hq)) hv p hp
theorem Pg{κ α : Type}[DecidableEq κ]{P:α->Prop}:∀{m:List (κ×α)}(k:κ){v:α},(∀p∈m,P p.2)->mget? m k=some v->P v
 |[],k,v,_,h=>by simp[mget?]at h
 |(k',v')::m,k,v,h,hg=>by
  simp only[mget?]at hg
  split at hg
  .cases hg;exact h (k',v') (zB ..)
  .exact Pg k (λq hq=>h q (qC _ hq)) hg
theorem BP{κ:Type}[DecidableEq κ]{P:α->Prop}{m:List (κ×α)}(k:κ){z:α}(h:∀p∈m,P p.2)(hz:P z):P (mgetD m k z):=by
 unfold mgetD
 cases hg:mget? m k with
 |none=>exact hz
 |some v=>exact Pg k h hg
def compStep(out:List Int)(x:Int):List Int:=if out.getLast? = some x then out else out++[x]
def compI(xs:List Int):List Int:=xs.foldl compStep []
def slices_Compact_int(xs:List Int):List Int:=compI xs
def bsPos{α : Type}(f:α->Int)(l:List α)(t:Int):Nat:=l.countP λy=>decide (f y<t)
def bitAt(m k:Int):Bool:=(jD .i64 (((BitVec.ofInt 64 (m.fdiv (2 ^ min k.toNat 64)) &&& BitVec.ofInt 64 1).toNat:Nat):Int))==1
def setOf.L(n:Nat)(m:Int):List Int->Nat->List Int->List Int
 |[],_,g=>g
 |y::r,i,g=>setOf.L n m r (i+1) (bif bitAt m ((n:Int)-1-(i:Int))then g++[y]else g)
def setOf(people:List Int)(m:Int):List Int:=setOf.L people.length m people 0 []
structure QP where
 closed:Bool
 free:List Int
 needs:List Int
 over:List Int
 decides:List Int->Bool
end
variable {C:α->List Go.Value}{rs:List ResultVar}{sp:List Go.Value}
section
def RdN{α : Type}(l:Nat)(lp:Loop)(I:List α->HF->LH->Prop)(J:Code->HF->LH->Prop)(Pn:List PanicEntry->HF->LH->Prop)(done:List α)(x:α)(r':Ending)(h:HF)(B:LH):Prop:=
 (r'=.returned (.bool true)/\∃L',B=(l,.loop { lp with state:=.ready,pending:=none })::L'/\I (done++[x]) h L') \/
 (r'=.returned (.bool false)/\∃c L',B=(l,.loop { lp with state:=.done,pending:=some c })::L'/\J c h L') \/
 (∃ch,r'=.panicked ch/\∃lp' L',B=(l,.loop lp')::L'/\Pn ch h L')
section
variable {α : Type} {P:Program} {l:Nat} {f:FuncId} {n:Nat} {k:List Item} {e:Env} {X:Cx} {h:HF} {L:LH} {lp lp':Loop} {fn:Func} {I:List α->HF->LH->Prop} {J:Code->HF->LH->Prop} {Pn:List PanicEntry->HF->LH->Prop} {done:List α} {x:α}
theorem RB(hlp:lp'={ lp with state:=.busy })(hI:I (done++[x]) h L):TT P (roundFrame l f) n [] (lJ P X (RdN l lp I J Pn done x)) e [] X h ((l,.loop lp')::L):=
 Rk 0 rfl (.inl ⟨rfl,L,by rw[hlp];rfl,hI⟩)
end
theorem Sv{l0:Nat}{lp0:Loop}{F:List Frame->(Machine->Prop)->Prop}{h:HF}{L:LH}{val:α->HF->List Value->Prop}(i0:Nat)(hl0:nth L i0=some (l0,.loop lp0))(I:List α->HF->LH->Prop)(hgv:e.ev g=it)(hit:Itr P it val xs h)(hps:ps.all (λp=>kH p n)=true)(hval:∀x h vs,val x h vs->vs.length=ps.length)(hIm:∀done h1 h2 B,zM h1 h2->I done h1 B->I done h2 B)(h0:I [] h L)(round:∀l lp done x rest vs h' L' X',xs=done++x::rest->h.le h'->I done h' L'->val x h' vs->lp.state=.ready->X'.h0=h'->(∀b∈X'.M,b<X'.w0.heap.size) ->
   TT P (roundFrame l f) n [.code assign,.beginRound,.code body] (lJ P X' (RdN l lp I (λ_ _ _=>False) (λ_ _ _=>False) done x)) (setParams e ps vs) [] X' h' ((l,.loop lp)::L'))(next:∀h' L',h.le h'->I xs h' L'->TT P (roundFrame l0 f) n k F e ds X h' L'):
  TT P (roundFrame l0 f) n (.code (.rangeFunc g ps.toArray assign body)::k) F e ds X h L:=by
 obtain⟨f0,cap,rfl,hc0,hit⟩:=hit
 intro w hw a cs Φ hn he hds hF
 let l:=w.heap.size
 have hb0:w.heap[l0]? = some (.loop lp0):=tD hw hl0
 let lp:Loop:={ state:=.ready,pending:=none,fn:=f,tmps:=a.tmps,params:=ps.toArray,assign,body,defers:=lp0.defers }
 let w2:World:={ w with heap:=w.heap.push (.loop lp) }
 have hw2:St X h ((l,.loop lp)::L) w2:=hw.alloc _
 have henter:(Y9 (roundFrame l0 f).fn a.tmps ps.toArray assign body (roundFrame l0 f).roundOf).run P w=.ok (l,[]) w2:=by
  have:=run_enterLoop_inner (P:=P) hb0 f a.tmps ps.toArray assign body
  exact this
 let C:List α->HF->LH->Prop:=λdone h' B=>∃L',B=(l,.loop lp)::L'/\I done h' L'
 let Sp:HF->LH->Prop:=λ_ _=>False
 let Pm:List PanicEntry->HF->LH->Prop:=λ_ _ _=>False
 have hps':∀p∈ps,p<n:=λp hp=>rn (qP.1 hps p hp)
 have hy:∀done x rest vs h'' B,xs=done++x::rest->h.le h''->C done h'' B->val x h'' vs->n0 P (.func (.yield l) #[] #[]) vs.toArray h'' B (YR C Sp Pm done x):=by
  rintro done x rest vs h'' B hxs eT ⟨L',rfl,hI⟩ hv
  refine n0.mono (R:=RdN l lp I (λ_ _ _=>False) (λ_ _ _=>False) done x) (AB (i:=0) (lp:=lp) rfl (by simp[lp];exact hval x h'' vs hv) ?_) ?_
  .intro X' _ hX' hXM'
   have henv:envOf { tmps:=(ps.toArray.zip vs.toArray).foldl (λtmps p=>tmps.setIfInBounds p.1 p.2) a.tmps,defers:=[] }=setParams e ps vs:=by
    have:=uv ps vs a.tmps a.defers hn hps'
    rw[←he]
    rw[←Zg]
    simpa using this
   grind
  .rintro x' h3 B' _ (⟨e1,L2,e2,h2⟩|⟨e1,c,L2,e2,h2⟩|⟨ch,e1,lp',L2,e2,h2⟩)
   .exact .inl ⟨e1,L2,e2,h2⟩
   .exact h2.elim
   .exact h2.elim
 have hs:=hit (.yield l) #[] #[] C Sp Pm h ((l,.loop lp)::L) (vF h) (λ_ _ _ _ hl⟨L',e1,hi⟩=>⟨L',e1,hIm _ _ _ _ hl hi⟩) (λ_ _ _ _ hi=>hi) (λ_ _ _ _ _ hi=>hi) ⟨L,rfl,h0⟩ hy
 obtain⟨nx,hrun,hcall⟩:=hs w2 hw2.pre
 have hev:a.eval g=e.ev g:=by rw[lU,he]
 have hnx:nx=.enter f0 (zQ (.yield l) #[] #[]::cap).toArray:=by
  grind [jH,invoke]
 subst hnx
 have hres:(resolve a.eval (rangeCall g l) 0).run P w2=.ok { target:=.fn (.func f0) cap.toArray,args:=#[.func (.yield l) #[] #[]] } w2:=by
  have hcst:∀v,a.eval (.const v)=v:=λ_=>rfl
  simp[resolve,rangeCall,hev,hgv,hcst,jH]
 have hinv:(invoke (.fn (.func f0) cap.toArray) #[.func (.yield l) #[] #[]]).run P w2=.ok (.enter f0 (zQ (.yield l) #[] #[]::cap).toArray) w2:=by
  simp[invoke,hc0]
 have hback:∀v w3,(∃h' B,St ⟨w2,h,((l,ZK lp)::L).map (·.1)⟩ h' B w3/\ItR C Sp Pm xs (.returned v) h' B) ->
   To P Φ (lone (((roundFrame l0 f).atR { a with defers:=[]++a.defers } (.inRangeFunc l::k)).finish v) cs w3):=by
  rintro v w3 ⟨h',B,hst,hR⟩
  rw[finish_atR_inRangeFunc]
  have hS3:St X h' B w3:=by
   have:=Yx (A:=(l,.loop lp)::L) (F:=[]) (by simpa using hw2) hst
   simpa using this
  have eT:=hst.le
  rcases hR with⟨_,hCS⟩|⟨ch,hx,_⟩
  .rcases hCS with⟨L',rfl,hI⟩|hF
   .have hb:w3.heap[l]? = some (.loop lp):=hS3.own _ (zB ..)
    have hend:(Ye l).run P w3=.ok none { w3 with heap:=w3.heap.setIfInBounds l (.loop { lp with state:=.exhausted }) }:=by
     simp[Ye,YC,getObj,setObj,Zs,hb,lp]
    refine .step (stepR_endRangeFunc hend) ?_
    have hS4:=hS3.write (i:=0) rfl (.loop { lp with state:=.exhausted })
    exact next h' L' eT hI _ (hS4.sub (List.sublist_cons_self ..)) a cs Φ hn he hds hF
   .exact hF.elim
  .cases hx
 have hraise:∀ch w3,(∃h' B,St ⟨w2,h,((l,ZK lp)::L).map (·.1)⟩ h' B w3/\ItR C Sp Pm xs (.panicked ch) h' B) ->
   To P Φ (lone (((roundFrame l0 f).atR { a with defers:=[]++a.defers } (.inRangeFunc l::k)).raise ch) cs w3):=by
  rintro ch w3 ⟨h',B,hst,hR⟩
  rcases hR with⟨hx,_⟩|⟨ch',hx,hP⟩
  .cases hx
  .exact hP.elim
 refine .step (stepR_rangeFunc henter hres hinv) ?_
 exact hcall _ cs Φ hback hraise
def HF.lend(h:HF)(L:LH):HF:=λb=>match L.find? (λp=>p.1==b)with|some p=>some p.2|none=>h b
theorem HF.Pk{h:HF}:∀{L:LH},(L.map (·.1)).Nodup->∀p∈L,h.lend L p.1=some p.2
 |[],_,p,hp=>(vA hp).elim
 |q::L,hd,p,hp=>by
  rw[jG,jQ]at hd
  rcases vC.1 hp with rfl|hp
  .simp[HF.lend]
  .have hne:(q.1==p.1)=false:=by
    grind
   have:=HF.Pk (h:=h) hd.2 p hp
   grind [HF.lend]
theorem HF.VJ{h:HF}{L:LH}(hf:∀p∈L,h p.1=none):h.le (h.lend L):=λb o hb=>by
 grind [HF.lend]
section steps
variable {P:Program} {b:Frame} {n:Nat} {ops:Array Oper} {F:List Frame->(Machine->Prop)->Prop} {e:Env} {ds:List Deferred} {X:Cx} {h:HF} {L:LH} {K:Env->HF->LH->Prop}
variable {d:Option Nat} {ty:TypeId} {pos:String} {af:Array Edge} {g:Option (Nat×Bool)}
theorem T7(hc:∀args w,(callFunc f args).run P w=.ok (.enter f args) w)(hs:∀h1,h.le h1->(∀p∈L,h1 p.1=some p.2)->Ret P f vs h1 v)(hvs:ass.toList.map e.ev=vs)(t':K (pute e d v) h L)(hg:guardB ops e ⟨d,.call ⟨.value (.func f),ass,ats⟩,ty,pos,af,g⟩=true:=by rfl):
  Stp P b n ops F ds X ⟨d,.call ⟨.value (.func f),ass,ats⟩,ty,pos,af,g⟩ e h L K:=by
 unfold Stp
 rw[if_pos hg]
 intro w hw
 have harr:ass.map e.ev=vs.toArray:=qV (by simp[←hvs])
 have hr:(execOp e.ev ⟨d,.call ⟨.value (.func f),ass,ats⟩,ty,pos,af,g⟩).run P w=.ok (.enter f vs.toArray) w:=by
  simp[execOp,resolve,Zc,jH,invoke,harr,hc]
 rw[hr]
 have hp1:Pre (h.lend L) [] w:=⟨λk o hk=>by
  unfold HF.lend at hk
  cases hq:L.find? (λp=>p.1==k)with
  |none=>rw[hq]at hk;exact hw.imm k o hk
  |some p=>
   rw[hq]at hk
   have h2:p.1=k:=by simpa using List.find?_some hq
   have h3:p.2=o:=by simpa using hk
   rw[←h2,←h3];exact hw.own p (List.mem_of_find?_eq_some hq),λ_ hp=>(vA hp).elim,XV,λ_ hp=>(vA hp).elim⟩
 refine nn (by simp) (lH (tT.mono (hs _ (HF.VJ hw.free) (HF.Pk hw.dis) w hp1) ?_))
 rintro x w' ⟨h',B,hst,rfl,rfl,rfl⟩
 refine⟨h,L,⟨hst.os.trans hw.os,hst.tape.trans hw.tape,hst.output.trans hw.output,zN hw.size hst.size,λb' hb' hM=>?_,hw.le,hw.old,λb' o hb'=>?_,λp hp=>?_,hw.dis,hw.free,hw.new⟩,t'⟩
 .rw[hst.keep b' (Ya hb' hw.size) (by simp)];exact hw.keep b' hb' hM
 .rw[hst.keep b' (jX (hw.imm b' o hb')) (by simp)];exact hw.imm b' o hb'
 .rw[hst.keep p.1 (jX (hw.own p hp)) (by simp)];exact hw.own p hp
end steps
section
variable {P:Program} {b:Frame} {n:Nat} {k:List Item} {F:List Frame->(Machine->Prop)->Prop} {e:Env} {ds:List Deferred} {X:Cx} {h:HF} {L:LH} {ops:Array Oper} {l:List Oper} {ty:TypeId} {pos:String} {af:Array Edge} {g:Option (Nat×Bool)}
theorem Ls(hro:b.roundOf=none)(hvs:a5_.toList.map e.ev=vs)(t':TO P b n ops l k F e ({ target:=.fn (.func f) #[],args:=vs.toArray }::ds) X h L)(hg:guardB ops e ⟨none,.defer ⟨.value (.func f),a5_,ats⟩,ty,pos,af,g⟩=true:=by rfl):TO P b n ops (⟨none,.defer ⟨.value (.func f),a5_,ats⟩,ty,pos,af,g⟩::l) k F e ds X h L:=by
 intro w hw is hi a cs Φ hn he hds hF
 obtain⟨i,js,rfl,ho,hj⟩:=rX hi
 have hwt:=(gP (ops:=ops) he).trans hg
 have hst:=stepGR_op (P:=P) (b:=b) (k:=k) (cs:=cs) (w:=w) (rest:=js) ho hwt
 have harr:a5_.map e.ev=vs.toArray:=qV (by simp[←hvs])
 have hr:(execOp a.eval ⟨none,.defer ⟨.value (.func f),a5_,ats⟩,ty,pos,af,g⟩).run P w=.ok (.defer { target:=.fn (.func f) #[],args:=vs.toArray }) w:=by
  rw[lU,he]
  simp[execOp,resolve,Zc,jH,harr]
 have hs:Oper.semAt b.roundOf a.eval ⟨none,.defer ⟨.value (.func f),a5_,ats⟩,ty,pos,af,g⟩=execOp a.eval ⟨none,.defer ⟨.value (.func f),a5_,ats⟩,ty,pos,af,g⟩:=by rw[hro];rfl
 refine .step (m₁:=lone (b.atR { a with defers:={ target:=.fn (.func f) #[],args:=vs.toArray }::a.defers } (.inRegion ops js::k)) cs w) ?_ (t' w hw js hj { a with defers:={ target:=.fn (.func f) #[],args:=vs.toArray }::a.defers } cs Φ hn he (by rw[hds]) hF)
 refine step_lone_go ?_
 have hfin:=iZ (b:=b) { a with defers:={ target:=.fn (.func f) #[],args:=vs.toArray }::a.defers } js k ho undef
 rw[hst,hs]
 simp only[stepG.apply,Sem.runT_eq,hr,GStep.bare_after]
 exact congrArg (λfr=>GStep.go { frame:=fr,callers:=cs,status:=.running,dying:=none } w) hfin
end
theorem Oq{g:FuncId}{h:HF}{L:LH}{R:Ending->HF->LH->Prop}{R':HF->LH->Prop}(hf:P.funcs[f]? = some fn)(hg:P.funcs[g]? = some gn)(hb:gn.body=some c)(hm:gn.ntmps=m)(eT:YE cap.length m=true)(hc:∀args w,(callFunc g args).run P w=.ok (.enter g args) w)(t:∀X':Cx,X'.h0=h->TT P (deferFrame g) m [.code c] (Km P X' .returning R') (envArgs cap) [] X' h A)(hL:L=A++Fr)(fin:∀h' B,h.le h'->R' h' B->∀a:Act,envOf a=e->∀w,St X h' (B++Fr) w->∃v h2 B2,(results fn a.tmps).run P w=.ok v w/\St X h2 B2 w/\R (.returned v) h2 B2):
  TT P (bodyFrame f) n (.code .ret::k) (lJ P X R) e [{ target:=.fn (.func g) #[],args:=cap.toArray }] X h L:=by
 intro w hw a cs Φ hn he hds hF
 obtain⟨cc,cs',rfl,h1,_⟩:=hF
 subst hL
 refine .step (stepR_ret rfl) ?_
 have hinv:(invoke (.fn (.func g) #[]) cap.toArray).run P w=.ok (.enter g cap.toArray) w:=by simp[invoke,hc]
 refine .step (step_defer (fr:={ (bodyFrame f).atR a (.code .ret::k)with mode:=.returning }) (by simp) hds rfl hinv) ?_
 have hle':=jM eT
 have henter:xR P g cap.toArray .deferred=(deferFrame g).atR { tmps:=cap.toArray++X4 (m-cap.length) undef,defers:=[] } [.code c]:=by
  grind [xR,Yr,deferFrame]
 rw[henter]
 refine t ⟨w,h,A.map (·.1)⟩ rfl w (Yw hw.pre.left) _ _ Φ (by simp;omega) (rk _ _) rfl ⟨_,cc::cs',rfl,rfl,?_⟩
 rintro w' ⟨h',B,hst,hR'⟩
 obtain⟨v,h2,B2,hv,hs2,hR⟩:=fin h' B hst.le hR' a he w' (hw.after hst)
 refine .step (jt (fn:=fn) (v:=v) rfl rfl rfl hf hv) ?_
 exact h1 v w' ⟨h2,B2,hs2,hR⟩
theorem Du{g:FuncId}{h:HF}{L:LH}{R:Ending->HF->LH->Prop}{R':HF->LH->Prop}(hf:P.funcs[f]? = some fn)(hg:P.funcs[g]? = some gn)(hb:gn.body=some c)(hm:gn.ntmps=m)(eT:YE cap.length m=true)(hc:∀args w,(callFunc g args).run P w=.ok (.enter g args) w)(t:∀X':Cx,X'.h0=h->TT P (deferFrame g) m [.code c] (λcs Φ=>∃c rest,cs=c::rest/\c.mode=.panicking [{ v:=pv,recovered:=false }]/\Km P X' (.panicking [{ v:=pv,recovered:=true }]) R' ({ c with mode:=.panicking [{ v:=pv,recovered:=true }] }::rest) Φ) (envArgs cap) [] X' h A)(hL:L=A++Fr)(fin:∀h' B,h.le h'->R' h' B->∀a:Act,envOf a=e->∀w,St X h' (B++Fr) w->∃v h2 B2,(results fn a.tmps).run P w=.ok v w/\St X h2 B2 w/\R (.returned v) h2 B2):
  TP P (bodyFrame f) n [{ v:=pv,recovered:=false }] (lJ P X R) e [{ target:=.fn (.func g) #[],args:=cap.toArray }] X h L:=by
 intro w hw a cs Φ todo hn he hds hF
 obtain⟨cc,cs',rfl,h1,_⟩:=hF
 subst hL
 have hinv:(invoke (.fn (.func g) #[]) cap.toArray).run P w=.ok (.enter g cap.toArray) w:=by simp[invoke,hc]
 refine .step (step_defer (fr:={ (bodyFrame f).atR a todo with mode:=.panicking [{ v:=pv,recovered:=false }] }) (by simp) hds rfl hinv) ?_
 have hle':=jM eT
 have henter:xR P g cap.toArray .deferred=(deferFrame g).atR { tmps:=cap.toArray++X4 (m-cap.length) undef,defers:=[] } [.code c]:=by
  grind [xR,Yr,deferFrame]
 rw[henter]
 refine t ⟨w,h,A.map (·.1)⟩ rfl w (Yw hw.pre.left) _ _ Φ (by simp;omega) (rk _ _) rfl ⟨_,cc::cs',rfl,rfl,_,cc::cs',rfl,rfl,?_⟩
 rintro w' ⟨h',B,hst,hR'⟩
 obtain⟨v,h2,B2,hv,hs2,hR⟩:=fin h' B hst.le hR' a he w' (hw.after hst)
 refine .step (jt (fn:=fn) (v:=v) rfl rfl rfl hf hv) ?_
 exact h1 v w' ⟨h2,B2,hs2,hR⟩
section
variable {P:Program} {b:Frame} {n:Nat} {k:List Item} {F:List Frame->(Machine->Prop)->Prop} {e:Env} {ds:List Deferred} {X:Cx} {h:HF} {L:LH}
theorem HS(t:TT P b n (.code c::.inLoop c::k) F e ds X h L):TT P b n (.code (.loop c)::k) F e ds X h L:=
 λw hw a cs Φ h1 h2 h3 h4=>.step stepR_loop (t w hw a cs Φ h1 h2 h3 h4)
theorem Dt(t:TT P b n (.code c::.inLoop c::k) F e ds X h L):TT P b n (.inLoop c::k) F e ds X h L:=
 λw hw a cs Φ h1 h2 h3 h4=>.step stepR_inLoop (t w hw a cs Φ h1 h2 h3 h4)
end
def XRH{ρ : Type}(pe:Int->Value)(x:Except Int ρ)(φ : ρ->Value->HF->Prop)(r:Ending)(h':HF)(B:LH):Prop:=
 B=[]/\match x with
  |.ok u=>∃v,r=.returned v/\φ u v h'
  |.error p=>r=.panicked [{ v:=pe p,recovered:=false }]
abbrev My{ρ : Type}(P:Program)(f:FuncId)(args:List Value)(h:HF)(pe:Int->Value)(x:Except Int ρ)(φ : ρ->Value->HF->Prop):Prop:=qf P f args.toArray h [] (XRH pe x φ)
def exD{ρ : Type}[Inhabited ρ]:Except Int ρ->ρ
 |.ok r=>r
 |.error _=>default
def exOk{ρ : Type}:Except Int ρ->Prop
 |.ok _=>True
 |.error _=>False
theorem V7[Inhabited ρ]{x:Except Int ρ}(h:exOk x):x=.ok (exD x):=by cases x with
 |ok r=>rfl
 |error p=>exact h.elim
section
variable {P:Program} {f:FuncId} {n:Nat} {k:List Item} {e:Env} {X:Cx} {h:HF} {L:LH} {fn:Func} {ρ : Type} {pe:Int->Value} {x:Except Int ρ} {φ : ρ->Value->HF->Prop}
theorem Oo(ms:List Nat){u:ρ}(vs:List Value)(hf:P.funcs[f]? = some fn)(hr:fn.results=rs.toArray)(hv:qy P e L rs vs)(hx:x=.ok u)(hφ : φ u (retVal vs) h):
  TT P (bodyFrame f) n (.code .ret::k) (lJ P X (XRH pe x φ)) e (marks ms) X h (L++markB ms):=
 yu ms (v:=retVal vs) hf (λa he w hw=>oP hr hv a he w hw) (λ_ hw=>hw.sub (List.nil_sublist _)) (by subst hx;exact⟨rfl,_,rfl,hφ⟩)
theorem Ou(ms:List Nat){p:Int}(hf:P.funcs[f]? = some fn)(hx:x=.error p):
  TP P (bodyFrame f) n [{ v:=pe p,recovered:=false }] (lJ P X (XRH pe x φ)) e (marks ms) X h (L++markB ms):=
 MK ms hf (λ_ hw=>hw.sub (List.nil_sublist _)) (by subst hx;exact⟨rfl,rfl⟩)
end
section
variable {P:Program} {b:Frame} {n:Nat} {ops:Array Oper} {F:List Frame->(Machine->Prop)->Prop} {e:Env} {ds:List Deferred} {X:Cx} {h:HF} {L:LH} {K:Env->HF->LH->Prop}
variable {d:Option Nat} {ty:TypeId} {pos:String} {af:Array Edge} {g:Option (Nat×Bool)} {ρ : Type} {pe:Int->Value} {x:Except Int ρ} {φ : ρ->Value->HF->Prop}
theorem OO(hc:∀args w,(callFunc f args).run P w=.ok (.enter f args) w)(hs:My P f vs h pe x φ)(hvs:a5_.toList.map e.ev=vs)(t':∀u v h',x=.ok u->h.le h'->φ u v h'->K (pute e d v) h' L)(tp:∀p h',x=.error p->h.le h'->∀e',AgE ops ⟨d,.call ⟨.value (.func f),a5_,ats⟩,ty,pos,af,g⟩ e e'->TP P b n [{ v:=pe p,recovered:=false }] F e' ds X h' L)(hg:guardB ops e ⟨d,.call ⟨.value (.func f),a5_,ats⟩,ty,pos,af,g⟩=true:=by rfl):
  Stp P b n ops F ds X ⟨d,.call ⟨.value (.func f),a5_,ats⟩,ty,pos,af,g⟩ e h L K:=
 pG (A:=[]) (Fr:=L) hc hvs hs rfl (λv' h' B eT hR=>by
   obtain⟨rfl,hv⟩:=hR
   cases x with
   |ok u=>obtain⟨v,hv,hφ⟩:=hv;cases hv;exact t' _ _ _ rfl eT hφ
   |error p=>cases hv)
  (λch h' B eT hR=>by
   obtain⟨rfl,hv⟩:=hR
   cases x with
   |ok u=>obtain⟨v,hv,_⟩:=hv;cases hv
   |error p=>cases hv;exact tp _ _ rfl eT) hg
theorem SB[Inhabited ρ](hc:∀args w,(callFunc f args).run P w=.ok (.enter f args) w)(hs:My P f vs h pe x φ)(hok:exOk x)(hvs:a5_.toList.map e.ev=vs)(t':∀v h',h.le h'->φ (exD x) v h'->K (pute e d v) h' L)(hg:guardB ops e ⟨d,.call ⟨.value (.func f),a5_,ats⟩,ty,pos,af,g⟩=true:=by rfl):
  Stp P b n ops F ds X ⟨d,.call ⟨.value (.func f),a5_,ats⟩,ty,pos,af,g⟩ e h L K:=
 OO hc hs hvs (λu v h' hx hl hφ=>by subst hx;exact t' v h' hl hφ) (λp h' hx=>by subst hx;exact hok.elim) hg
theorem xy[Inhabited ρ]{enc:ρ->Value}(hc:∀args w,(callFunc f args).run P w=.ok (.enter f args) w)(hs:Fw P f vs h (exW pe enc x))(hok:exOk x)(hvs:a5_.toList.map e.ev=vs)(t':K (pute e d (enc (exD x))) h L)(hg:guardB ops e ⟨d,.call ⟨.value (.func f),a5_,ats⟩,ty,pos,af,g⟩=true:=by rfl):
  Stp P b n ops F ds X ⟨d,.call ⟨.value (.func f),a5_,ats⟩,ty,pos,af,g⟩ e h L K:=
 rO hc hs hvs (λu hu=>by
  obtain⟨r,hr,rfl⟩:=vY hu
  subst hr;exact t') (λp hp=>by
  obtain⟨q,hq,_⟩:=su hp
  subst hq;exact hok.elim) hg
end
abbrev Xk{α : Type}(P:Program)(f:FuncId)(args:List Value)(h:HF)(R:Rp α)(E:TypeId)(xs:List α):Prop:=
 qf P f args.toArray h [] (λr h' G=>h'=h/\∃b c,r=.returned (.slice b xs.length c)/\di R E h xs b c G)
section
variable {P:Program} {f:FuncId} {n:Nat} {k:List Item} {e:Env} {X:Cx} {h hh:HF} {L A G Q:LH} {fn:Func} {α : Type} {R:Rp α} {E:TypeId} {xs ys:List α} {base:Option Addr} {cap:Nat}
theorem St.forgetG(s:St X h (A++(G++Q)) w):St X X.h0 G w:=
 (s.sub (L':=G) ((List.sublist_append_left G Q).trans (List.sublist_append_right A _))).lower
theorem Vj(ms:List Nat)(hf:P.funcs[f]? = some fn)(hr:fn.results=rs.toArray)(hX:X.h0=hh)(hL:L=A++(G++Q))(hG:∀h1,di R E h1 xs base cap G)(hv:qy P e L rs [.slice base xs.length cap])(hs:ys=xs):
  TT P (bodyFrame f) n (.code .ret::k) (lJ P X (λr h' G=>h'=hh/\∃b c,r=.returned (.slice b ys.length c)/\di R E hh ys b c G)) e (marks ms) X h (L++markB ms):=by
 subst hs hL
 exact yu ms (v:=.slice base ys.length cap) hf (λa he w hw=>oP hr hv a he w hw) (λw hw=>hw.forgetG) ⟨hX,_,_,rfl,hG _⟩
end
theorem di.flat{R:Rp α}{h h1:HF}{cap:Nat}(hR:∀h h' cs x,R.rep h cs x->R.rep h' cs x)(g:di R E h xs base cap G):di R E h1 xs base cap G:=by
 have hc:∀{xs:List α}{cl:List Value},bW R h cl xs->bW R h1 cl xs:=by
  intro xs
  induction xs with
  |nil=>intro cl e;exact e
  |cons x xs ih=>rintro cl ⟨cs,rest,e,hl,hr,ht⟩;exact⟨cs,rest,e,hl,hR _ _ _ _ hr,ih ht⟩
 rcases g with g|⟨bk,cl,sp,e1,e2,e3⟩
 .exact .inl g
 .exact .inr ⟨bk,cl,sp,e1,hc e2,e3⟩
theorem OU{fl args:List Value}{h:HF}(hc:∀args w,(callFunc f args).run P w=.ok (.enter f args) w)(hr:Xl P f (fl++args++cap) h A v):
  wg P (.func (.func f) fl.toArray cap.toArray) args h A v:=by
 intro w hp
 refine⟨.enter f (fl++args++cap).toArray,?_,lH (hr w hp)⟩
 simp[jH,invoke,hc]
section
variable {P:Program} {e:Env} {X:Cx} {h:HF} {L:LH} {d:Option Nat} {ty:TypeId} {pos:String} {af:Array Edge} {g:Option (Nat×Bool)}
theorem W4{t u:TypeId}{a c:Int}(hx:e.ev x=.int .i64 a)(hy:e.ev y=.int .i64 c)(hc:c≠0):
  ∀w,St X h L w->(execOp e.ev ⟨d,.binOp .quo t x y u,ty,pos,af,g⟩).run P w=.ok (.value (.int .i64 (jD .i64 (a.tdiv c)))) w:=λw _=>by
 simp[execOp,hx,hy,eqGuard,binOp,Op.intDiv,hc]
end
theorem NY{N i:Nat}(h:i<N)(hb:N<=9223372036854775807):jC .i64 (IntKind.i64.wrap (((N-i:Nat):Int)-1))=.int .i64 (((N-(i+1):Nat)):Int):=by grind [nv]
section
variable {P:Program} {e:Env} {X:Cx} {h:HF} {L:LH} {d:Option Nat} {ty:TypeId} {pos:String} {af:Array Edge} {g:Option (Nat×Bool)}
theorem gK(hx:e.ev x=.pointer (some q)):
  ∀w,St X h L w->(execOp e.ev ⟨d,.nilCheck x,ty,pos,af,g⟩).run P w=.ok (.value (.pointer (some q))) w:=λw _=>by
 simp[execOp,hx]
end
theorem Si:∀(c A R:List Value),cut (A++(c++R)) A.length c.length=some c
 |[],A,R=>rfl
 |v::c,A,R=>by
  have h1:nth (A++(v::c++R)) A.length=some v:=by rw[ja];simp
  have h2:=Si c (A++[v]) R
  grind [kA,xA,List.length_nil,zC,cut]
theorem Dc{α : Type}{C:α->List Value}{sz:Nat}(hC:∀x,(C x).length=sz):∀{xs:List α}{i:Nat}{y:α},xs[i]? = some y->∃a b,xs=a++y::b/\a.length=i/\(a.flatMap C).length=i*sz
 |[],i,y,h=>by simp at h
 |x::xs,0,y,h=>by simp at h;subst h;exact⟨[],xs,rfl,rfl,by simp⟩
 |x::xs,i+1,y,h=>by
  obtain⟨a,b,e,h1,h2⟩:=Dc hC (xs:=xs) (i:=i) (y:=y) (by simpa using h)
  grind
theorem U1(hC:∀x,(C x).length=sz){i:Nat}{y:α}(h:xs[i]? = some y):cut (xs.flatMap C++sp) (i*sz) sz=some (C y):=by
 obtain⟨a,b,rfl,_,h2⟩:=Dc hC h
 grind [Si]
theorem OD(hC:∀x,(C x).length=sz){i:Nat}{u y:α}(h:xs[i]? = some u):splice (xs.flatMap C++sp) (i*sz) (C y)=(xs.set i y).flatMap C++sp:=by
 obtain⟨a,b,rfl,h1,h2⟩:=Dc hC h
 grind [BE]
theorem Dj{α : Type}{R:Rp α}{C:α->List Value}(hR:∀h cs x,R.rep h cs x->cs=C x){h:HF}:∀{xs:List α}{cl:List Value},bW R h cl xs->cl=xs.flatMap C
 |[],cl,e=>e
 |x::xs,cl,⟨cs,rest,e,_,hr,ht⟩=>by rw[e,hR _ _ _ hr,Dj hR ht];rfl
theorem JV{α : Type}{R:Rp α}{C:α->List Value}(hR:∀h x,R.rep h (C x) x)(hC:∀x,(C x).length=R.sz)(h:HF):∀(xs:List α),bW R h (xs.flatMap C) xs
 |[]=>rfl
 |x::xs=>⟨C x,xs.flatMap C,rfl,hC x,hR h x,JV hR hC h xs⟩
theorem vX{α : Type}{C:α->List Value}{sz:Nat}(hC:∀x,(C x).length=sz):∀(xs:List α),(xs.flatMap C).length=xs.length*sz
 |[]=>by simp
 |x::xs=>by rw[List.flatMap_cons,kA,hC,vX hC xs,xA,Nat.add_mul];omega
theorem Qn{t:TypeId}(hT:P.underlying t=some (.slice E))(hz:∀w,(zeroValue E).run P w=.ok z w)(hzc:z.cells=zs.toArray)(hzl:zs.length=sz)(h1:∀v∈zs,one v=true)(hs0:0<sz){cc:Nat}(hb:w.heap[bk]? = some (.cells cl.toArray E (0,0)))(eT:off+(n+1)*sz<=cl.length)(ty:TypeId):
  ∃vs,vs.length=(n+1)*sz/\(Builtin.clear_ #[t] ty #[.slice (some ⟨bk,off,none⟩) (n+1) cc]).run P w=.ok (.tuple #[]) { w with heap:=w.heap.setIfInBounds bk (.cells (splice cl off vs).toArray E (0,0)) }:=by
 refine⟨(Builtin.zeroCells z.cells (n+1)).toList,?_,?_⟩
 .simp[Builtin.zeroCells,hzc,hzl]
 .have hlen:(Builtin.zeroCells z.cells (n+1)).toList.length=(n+1)*sz:=by simp[Builtin.zeroCells,hzc,hzl]
  have h9:=oN (P:=P) off (Builtin.zeroCells z.cells (n+1)).toList 0 cl w hb (by rw[hlen];simpa using eT) (λv hv=>by
   simp only[Builtin.zeroCells,Array.toList_map,qM]at hv
   obtain⟨j,_,rfl⟩:=hv
   rw[hzc]
   have hj:j%zs.length<zs.length:=Nat.mod_lt _ (by omega)
   simp only[List.size_toArray]
   rw[getElem!_pos zs.toArray (j%zs.length) (by simpa using hj)]
   exact h1 _ (by simp))
  rw[Nat.add_zero]at h9
  simp only[Builtin.clear_,kL]
  simp[run_underlying hT,hz,h9]
section
variable {P:Program} {b:Frame} {n:Nat} {ops:Array Oper} {F:List Frame->(Machine->Prop)->Prop} {e:Env} {ds:List Deferred} {X:Cx} {h:HF} {L:LH} {K:Env->HF->LH->Prop}
variable {d:Option Nat} {ty:TypeId} {pos:String} {af:Array Edge} {g:Option (Nat×Bool)}
theorem Qv{t:TypeId}{lo:Operand}{n cap i:Nat}(hT:P.underlying t=some (.slice E))(hS:tySz P E=some (sz,a))(hx:e.ev x=.slice (some ⟨bk,0,none⟩) n cap)(hlo:e.ev lo=.int .i64 (i:Nat))(hi:i<n)(hc:n<=cap)(hm:n-i=m):
  ∀w,St X h L w->(execOp e.ev ⟨d,.slice t x (some lo) none none,ty,pos,af,g⟩).run P w=.ok (.value (.slice (some ⟨bk,i*sz,none⟩) m (cap-i))) w:=λw hw=>by
 subst hm
 have h2:¬(cap=i):=by omega
 have h3:(⟨bk,0,none⟩:Addr).add (i*sz)=⟨bk,i*sz,none⟩:=tQ bk (i*sz)
 simp[execOp,Instr.sliceAt,Instr.slice,Instr.sliceBounds,Instr.sliceBound,hx,hlo,asIntOf,run_underlying hT,iP hS,h2,h3,Nat.le_of_lt hi]
theorem Sw(i:Nat){t:TypeId}{cc:Nat}(hT:P.underlying t=some (.slice E))(hz:∀w,(zeroValue E).run P w=.ok z w)(hzc:z.cells=zs.toArray)(hzl:zs.length=sz)(h1:∀v∈zs,one v=true)(hs0:0<sz)(hL:nth L i=some (bk,.cells cl.toArray E (0,0)))(hx:e.ev x=.slice (some ⟨bk,off,none⟩) (m+1) cc)(eT:off+(m+1)*sz<=cl.length)(t':∀vs,vs.length=(m+1)*sz->K (pute e d (.tuple #[])) h (setNth L i (bk,.cells (splice cl off vs).toArray E (0,0))))(hg:guardB ops e ⟨d,.call ⟨.builtin .clear,#[x],#[t]⟩,ty,pos,af,g⟩=true:=by rfl):Stp P b n ops F ds X ⟨d,.call ⟨.builtin .clear,#[x],#[t]⟩,ty,pos,af,g⟩ e h L K:=
 kn hg λw hw=>by
  have hb:w.heap[bk]? = some (.cells cl.toArray E (0,0)):=by
   have h2:=hL
   rw[ja]at h2
   exact hw.own _ (kD h2)
  obtain⟨vs,hvl,hr⟩:=Qn (P:=P) (cc:=cc) hT hz hzc hzl h1 hs0 hb eT ty
  refine⟨.tuple #[],_,h,_,?_,hw.write hL _,t' vs hvl⟩
  simp only[execOp,resolve,invoke,builtin]
  simp[hx,hr]
end
section
variable {P:Program} {b:Frame} {n:Nat} {ops:Array Oper} {F:List Frame->(Machine->Prop)->Prop} {e:Env} {ds:List Deferred} {X:Cx} {h:HF} {L:LH} {K:Env->HF->LH->Prop}
variable {d:Option Nat} {ty:TypeId} {pos:String} {af:Array Edge} {g:Option (Nat×Bool)}
theorem Vt{R:Rp α}(hc:∀args w,(callFunc f args).run P w=.ok (.enter f args) w)(hs:Xk P f vs h R E xs)(hvs:ass.toList.map e.ev=vs)(t':∀bb c G,di R E h xs bb c G->K (pute e d (.slice bb xs.length c)) h (L++G))(hg:guardB ops e ⟨d,.call ⟨.value (.func f),ass,ats⟩,ty,pos,af,g⟩=true:=by rfl):
  Stp P b n ops F ds X ⟨d,.call ⟨.value (.func f),ass,ats⟩,ty,pos,af,g⟩ e h L K:=by
 unfold Stp
 rw[if_pos hg]
 intro w hw
 have harr:ass.map e.ev=vs.toArray:=qV (by simp[←hvs])
 have hr:(execOp e.ev ⟨d,.call ⟨.value (.func f),ass,ats⟩,ty,pos,af,g⟩).run P w=.ok (.enter f vs.toArray) w:=by
  simp[execOp,resolve,Zc,jH,invoke,harr,hc]
 rw[hr]
 refine nn (by simp) (lH (tT.mono (hs w (hw.sub (List.nil_sublist _)).pre) ?_))
 rintro x w' ⟨h',B,hst,rfl,bb,c,rfl,hG⟩
 exact⟨h',_,(Yx (A:=[]) (F:=L) hw hst).perm zD,t' bb c B hG⟩
end
section
variable {P:Program} {b:Frame} {n:Nat} {k:List Item} {F:List Frame->(Machine->Prop)->Prop} {ds:List Deferred} {X:Cx}
theorem Wt{J:HF->LH->Prop}(m0:Nat)(Inv:σ->Env->HF->LH->Prop)(μ : σ->Nat)(dn:σ->List Nat)(fin:∀s e h L,Inv s e h L->μ s=0->TA P b n l.toArray k F ds X J m0 (dn s) e h L)(step:∀s e h L,Inv s e h L->μ s≠0->nexts l.toArray (dn s)≠[]/\∀i∈nexts l.toArray (dn s),∀o,nth l i=some o->Stp P b n l.toArray F ds X o e h L (λe' h' L'=>J h' L'/\∃s',μ s=μ s'+1/\(i::dn s).Perm (dn s')/\Inv s' e' h' L')):
  ∀(m:Nat)(s:σ)(e:Env)(h:HF)(L:LH),μ s=m->Inv s e h L->TA P b n l.toArray k F ds X J (m+m0) (dn s) e h L:=by
 intro m
 induction m with
 |zero=>intro s e h L hm hI;rw[Nat.zero_add];exact fin s e h L hI hm
 |succ m ih=>
  intro s e h L hm hI
  obtain⟨h0,h1⟩:=step s e h L hI (by omega)
  rw[show m+1+m0=(m+m0)+1 from by omega]
  refine⟨λhn=>absurd hn h0,λi hi o ho=>Stp.mono ?_ (h1 i hi o (by rw[ja];simpa using ho))⟩
  rintro e' h' L' ⟨hj,s',hs,hp,hI'⟩
  exact⟨hj,TA.perm (λx=>hp.mem_iff.symm) (ih s' e' h' L' (by omega) hI')⟩
theorem Vq{dn:List Nat}{h:HF}{L:LH}{Q:Nat->Env->HF->LH->Prop}(is:List Nat)(hn:nexts l.toArray dn=is)(h0:is≠[])(t:∀i∈is,∀o,nth l i=some o->Stp P b n l.toArray F ds X o e h L (Q i)):nexts l.toArray dn≠[]/\∀i∈nexts l.toArray dn,∀o,nth l i=some o->Stp P b n l.toArray F ds X o e h L (Q i):=by grind
end
theorem pmid{T X X':List α}{i:α}(h:(i::X).Perm X'):(i::(T++X)).Perm (T++X'):=List.perm_middle.symm.trans (List.Perm.append_left T h)
section
variable {P:Program} {b:Frame} {n:Nat} {ops:Array Oper} {F:List Frame->(Machine->Prop)->Prop} {e:Env} {ds:List Deferred} {X:Cx} {h:HF} {L:LH} {K:Env->HF->LH->Prop}
variable {d:Option Nat} {ty:TypeId} {pos:String} {af:Array Edge} {g:Option (Nat×Bool)}
theorem Ly{t:TypeId}{ln cp:Operand}(hT:P.underlying t=some (.slice E))(hz:zeroC P E=some [z])(hS:tySz P E=some (1,a))(hby:bytesOf P E=some yt)(hl:e.ev ln=.int .i64 (m:Nat))(hc:e.ev cp=.int .i64 (m:Nat))(hb:yt*m<=281474976710656)(h63:m<=9223372036854775807)(t':∀bk,K (pute e d (.slice (some ⟨bk,0,none⟩) m m)) h ((bk,.cells (List.replicate m z).toArray E (0,0))::L))(hg:guardB ops e ⟨d,.makeSlice t ln cp,ty,pos,af,g⟩=true:=by rfl):Stp P b n ops F ds X ⟨d,.makeSlice t ln cp,ty,pos,af,g⟩ e h L K:=
 kn hg λw hw=>by
  obtain⟨i,hi,hby'⟩:∃i,P.info? E=some i/\i.bytes=yt:=by
   unfold bytesOf at hby
   cases hi:P.info? E with
   |none=>simp[hi]at hby
   |some i=>exact⟨i,rfl,by simpa[hi]using hby⟩
  have hsz:i.size=1:=by
   have:=iP hS w
   simpa[sizeOf,typeInfo,hi]using this
  obtain⟨zv,hzz,hzc⟩:∃zv,i.zero=some zv/\zv.cells=#[z]:=by
   unfold zeroC at hz
   cases hzz:i.zero with
   |none=>simp[hi,hzz]at hz
   |some zv=>exact⟨zv,rfl,by simp[hi,hzz]at hz;rw[oh,hz]⟩
  have hr:=run_make (P:=P) w t E i zv hT hi hzz .i64 .i64 (m:Int) (m:Int) (by omega) (Int.le_refl _) (by rw[hby'];omega) (by omega)
  have hcells:madeCells zv.cells ((m:Int).toNat*i.size)=(List.replicate m z).toArray:=by
   rw[hzc,hsz]
   apply Array.ext
   .simp[madeCells]
   .intro j h1 h2;simp[madeCells,Nat.mod_one]
  rw[hcells]at hr
  simp only[Int.toNat_natCast]at hr
  refine⟨_,_,h,_,?_,hw.alloc _,t' _⟩
  have e1:w.alloc (.cells (List.replicate m z).toArray E)={ w with heap:=w.heap.push (.cells (List.replicate m z).toArray E (0,0)) }:=rfl
  rw[e1]at hr
  simp[execOp,hl,hc,hr]
end
theorem MO{F:List Frame->(Machine->Prop)->Prop}{h:HF}{L:LH}{K:Env->HF->LH->Prop}{o:Oper}(sl:List (Nat×Value))(hr:fT e sl)(t:Stp P b n ops F ds X o (upds e sl) h L K):Stp P b n ops F ds X o e h L K:=by
 rw[hr.upds]at t;exact t
theorem Wr{F:List Frame->(Machine->Prop)->Prop}{h:HF}{L:LH}(sl:List (Nat×Value))(hr:fT e sl)(t:TT P b n k F (upds e sl) ds X h L):TT P b n k F e ds X h L:=by
 rw[hr.upds]at t;exact t
section
variable {P:Program} {b:Frame} {n:Nat} {k:List Item} {F:List Frame->(Machine->Prop)->Prop} {e:Env} {ds:List Deferred} {X:Cx} {h:HF} {L:LH}
theorem lp3{γ:Type}{x0:ρ}(xs:List α)(sl:Nat->γ->List (Nat×Value))(hh:γ->HF)(LL:γ->LH)(J JX:Nat->γ->Prop)(hJX:∀i g,J i g->JX i g)(Lf:List α->Nat->γ->ρ)(g0:γ)(hb:xs.length<=9223372036854775807)(hs:x0=Lf xs 0 g0)(hJ:J 0 g0)(after:∀i g,i<=xs.length->x0=Lf [] i g->JX i g->∀e',TT P b n k F (upds e' (sl i g)) ds X (hh g) (LL g))(cons:∀i g y r,xs.drop i=y::r->decide ((i:Int)<(xs.length:Int))=true->xs[i]? = some y->i<xs.length->xs.length<=9223372036854775807->x0=Lf (y::r) i g->J i g ->
   (∀i' g' {e'},x0=Lf [] i' g'->JX i' g'->(hi:i'<=xs.length:=by omega)->(hr:fT e' (sl i' g'):=by exact rds)->TT P b n k F e' ds X (hh g') (LL g')) ->
   (∀g' {e'},x0=Lf r (i+1) g'->J (i+1) g'->(hr:fT e' (sl (i+1) g'):=by exact rds)->TT P b n (.inLoop c::.inBlock id::k) F e' ds X (hh g') (LL g')) ->
   ∀e',TT P b n (.code c::.inLoop c::.inBlock id::k) F (upds e' (sl i g)) ds X (hh g) (LL g))(nil:∀i g,xs.drop i=[]->decide ((i:Int)<(xs.length:Int))=false->(∀e',fT e' (sl i g)->TT P b n k F e' ds X (hh g) (LL g)) ->
   ∀e',TT P b n (.code c::.inLoop c::.inBlock id::k) F (upds e' (sl i g)) ds X (hh g) (LL g):=by exact ndA)(h0:fT e (sl 0 g0):=by exact rds)(hw:∀w,St X h L w->St X (hh g0) (LL g0) w:=by exact sws):
  TT P b n (.code (.block id (.loop c))::k) F e ds X h L:=by
 refine km (ι:=Nat×γ) (λi=>sl i.1 i.2) (λi=>hh i.2) (λi=>LL i.2) (λi=>i.1<=xs.length/\x0=Lf [] i.1 i.2/\JX i.1 i.2) ?_ (λhx=>?_)
 .rintro⟨i,g⟩ ⟨h1,h2,h3⟩ e'
  exact after i g h1 h2 h3 e'
 .refine mL (ι:=Nat×γ×List α) (λi=>sl i.1 i.2.1) (λi=>hh i.2.1) (λi=>LL i.2.1) (λi=>xs.drop i.1=i.2.2/\i.1<=xs.length/\x0=Lf i.2.2 i.1 i.2.1/\J i.1 i.2.1) (λi=>i.2.2.length) (0,g0,xs) h0 hw ⟨rfl,kJ _,hs,hJ⟩ ?_
  rintro⟨i,g,s⟩ ⟨hd,hi,hs,hJ⟩ ag e'
  dsimp only at hd hi hs hJ
  rcases s with _|⟨y,r⟩
  .exact nil i g hd (rm hd) (λe'' hr=>hx (i,g) e'' ⟨hi,hs,hJX _ _ hJ⟩ hr) e'
  .exact cons i g y r hd (Bs hd) (sR hd) (kl hd) hb hs hJ (λi' g' e'' a b c d=>hx (i',g') e'' ⟨c,a,b⟩ d)
    (λg' e'' a b hr=>ag (i+1,g',r) e'' (Nat.lt_succ_self _) ⟨nl hd,kl hd,a,b⟩ hr) e'
end
end
variable {h:HF}
section
section
variable {α : Type} {R:Rp α} {T:TypeId}
def V3(_:HF)(v:Value)(x:Option Addr×Nat×Nat):Prop:=v=.slice x.1 x.2.1 x.2.2
def FRg(R:Rp α)(T:TypeId)(h:HF):List (Int×Option Addr×Nat×Nat)->List (Int×List α)->LH->Prop
 |[],[],G=>G=[]
 |(k,x)::m,(k',xs)::f,G=>k=k'/\x.2.1=xs.length/\∃G1 G2,G=G1++G2/\di R T h xs x.1 x.2.2 G1/\FRg R T h m f G2
 |_,_,_=>False
theorem V3.mono:zU V3:=λ_ _ _ _ _ e=>e
theorem FRg.mono(hR:R.Mono){h h':HF}(hl:h.le h'):∀{m:List (Int×Option Addr×Nat×Nat)}{f:List (Int×List α)}{G:LH},FRg R T h m f G->FRg R T h' m f G
 |[],[],_,e=>e
 |(_,_)::_,(_,_)::_,_,⟨a,b,G1,G2,c,d,t⟩=>⟨a,b,G1,G2,c,d.mono hR hl,FRg.mono hR hl t⟩
 |[],(_,_)::_,_,x=>x.elim
 |(_,_)::_,[],_,x=>x.elim
theorem FRg.get{h:HF}(k:Int):∀{m:List (Int×Option Addr×Nat×Nat)}{f:List (Int×List α)}{G:LH},FRg R T h m f G ->
  ∃b c G1 G2,mgetD m k (none,0,0)=(b,(mgetD f k []).length,c)/\di R T h (mgetD f k []) b c G1/\G.Perm (G1++G2) /\
   ∀b' c' xs' G1',di R T h xs' b' c' G1'->∃G',FRg R T h (mput m k (b',xs'.length,c')) (mput f k xs') G'/\G'.Perm (G1'++G2)
 |[],[],G,e=>by
  subst e
  refine⟨none,0,[],[],rfl,di.nil,List.Perm.refl _,λb' c' xs' G1' hG=>⟨G1',⟨rfl,rfl,G1',[],by simp,hG,rfl⟩,by simp⟩⟩
 |(k0,x)::m,(k',xs)::f,G,⟨e,hn,G1,G2,hG,hg,t⟩=>by
  subst e hG
  by_cases hk:k=k0
  .subst hk
   refine⟨x.1,x.2.2,G1,G2,?_,?_,List.Perm.refl _,λb' c' xs' G1' hG'=>⟨G1'++G2,?_,List.Perm.refl _⟩⟩
   .simp[mgetD,mget?,←hn]
   .simpa[mgetD,mget?]using hg
   .simp only[mput,if_true]
    exact⟨rfl,rfl,G1',G2,rfl,hG',t⟩
  .obtain⟨b,c,H1,H2,h1,h2,h3,h4⟩:=FRg.get k t
   refine⟨b,c,H1,G1++H2,?_,?_,?_,λb' c' xs' G1' hG'=>?_⟩
   .simpa[mgetD,mget?,hk]using h1
   .simpa[mgetD,mget?,hk]using h2
   .refine(List.Perm.append_left G1 h3).trans ?_
    rw[←zC,←zC];exact List.Perm.append_right H2 zD
   .obtain⟨G',g1,g2⟩:=h4 b' c' xs' G1' hG'
    refine⟨G1++G',?_,?_⟩
    .simp only[mput,hk,if_false]
     exact⟨rfl,hn,G1,G',rfl,hg,g1⟩
    .refine(List.Perm.append_left G1 g2).trans ?_
     rw[←zC,←zC];exact List.Perm.append_right H2 zD
 |[],(_,_)::_,_,x=>x.elim
 |(_,_)::_,[],_,x=>x.elim
theorem FRg.keys{h:HF}:∀{m:List (Int×Option Addr×Nat×Nat)}{f:List (Int×List α)}{G:LH},FRg R T h m f G->m.map (·.1)=f.map (·.1)
 |[],[],_,_=>rfl
 |(_,_)::_,(_,_)::_,_,⟨a,_,_,_,_,_,t⟩=>by simp[a,FRg.keys t]
 |[],(_,_)::_,_,x=>x.elim
 |(_,_)::_,[],_,x=>x.elim
theorem FRg.mem{h:HF}:∀{m:List (Int×Option Addr×Nat×Nat)}{f:List (Int×List α)}{G:LH},FRg R T h m f G->(m.map (·.1)).Nodup->∀p∈m,p.2.2.1=(mgetD f p.1 []).length/\∃G1,(∀q∈G1,q∈G)/\di R T h (mgetD f p.1 []) p.2.1 p.2.2.2 G1
 |[],[],_,_,_,_,hp=>(vA hp).elim
 |(k,x)::m,(k',xs)::f,G,⟨e,hn,G1,G2,hG,hg,t⟩,hnd,p,hp=>by
  subst e hG
  rw[jG,jQ]at hnd
  rcases vC.1 hp with rfl|hp
  .exact⟨by simp[mgetD,mget?,hn],G1,λq hq=>List.mem_append_left _ hq,by simpa[mgetD,mget?]using hg⟩
  .have hne:¬p.1=k:=λe=>hnd.1 (by have h9:=zT (f:=(·.1)) hp;rw[e]at h9;exact h9)
   obtain⟨h1,H,h2,h3⟩:=FRg.mem t hnd.2 p hp
   exact⟨by simpa[mgetD,mget?,hne]using h1,H,λq hq=>List.mem_append_right _ (h2 q hq),by simpa[mgetD,mget?,hne]using h3⟩
 |[],(_,_)::_,_,x,_,_,_=>x.elim
 |(_,_)::_,[],_,x,_,_,_=>x.elim
theorem Ph{β : Type}:∀{f:List (Int×β)}(z:β),(f.map (·.1)).Nodup->f=f.map λp=>(p.1,mgetD f p.1 z)
 |[],_,_=>rfl
 |(k,x)::f,z,hn=>by
  rw[jG,jQ]at hn
  rw[jG]
  congr 1
  .simp[mgetD,mget?]
  .have ih:=Ph z hn.2
   conv=>lhs;rw[ih]
   apply List.map_congr_left
   intro p hp
   have hne:¬p.1=k:=λe=>hn.1 (by have h9:=zT (f:=(·.1)) hp;rw[e]at h9;exact h9)
   simp[mgetD,mget?,hne]
theorem Qf{h:HF}{h2:HF}(g:Int->List α):∀{es:List MapEntry}{m:List (Int×Option Addr×Nat×Nat)},sW (jC .i64) V3 h es m ->
  (∀p∈m,p.2.2.1=(g p.1).length/\SlC R h2 p.2.1 p.2.2.2 (g p.1))->sW (jC .i64) (VSl R) h2 es (m.map λp=>(p.1,g p.1))
 |[],[],_,_=>trivial
 |e::es,(k,x)::m,⟨a,b,c⟩,hg=>by
  obtain⟨h1,h3⟩:=hg (k,x) (zB ..)
  refine⟨a,⟨x.1,x.2.2,?_,h3⟩,Qf g c λp hp=>hg p (qC _ hp)⟩
  rw[show e.val=.slice x.1 x.2.1 x.2.2 from b,h1]
 |[],_::_,x,_=>x.elim
 |_::_,[],x,_=>x.elim
theorem FRg.frozen(hR:R.Mono){h2:HF}{m:List (Int×Option Addr×Nat×Nat)}{f:List (Int×List α)}(hm:lB (jC .i64) V3 h o m)(hf:FRg R T h m f G)(hl:h.le h2)(hG:∀p∈G,h2 p.1=some p.2):
  lB (jC .i64) (VSl R) h2 o f:=by
 have hnd:=hm.nodup
 have hk:=hf.keys
 obtain⟨m',hp,hn,es,c,rfl,hE,h1,h3⟩:=hm
 have hmem:=hf.mem hnd
 have hfe:=Ph (f:=f) [] (hk▸hnd)
 have hfm:f=m.map λp=>(p.1,mgetD f p.1 []):=by
  have e1:(f.map λp=>(p.1,mgetD f p.1 []))=(f.map (·.1)).map λk=>(k,mgetD f k []):=by rw[List.map_map];rfl
  have e2:(m.map λp=>(p.1,mgetD f p.1 []))=(m.map (·.1)).map λk=>(k,mgetD f k []):=by rw[List.map_map];rfl
  rw[e2,hk,←e1];exact hfe
 refine⟨m'.map λp=>(p.1,mgetD f p.1 []),?_,?_,es,c,rfl,Qf (λk=>mgetD f k []) hE λp hp'=>?_,h1,h3⟩
 .grind
 .rw[List.map_map];exact hn
 .obtain⟨h5,G1,h6,h7⟩:=hmem p (hp.mem_iff.1 hp')
  exact⟨h5,h7.frozen hR hl λq hq=>hG q (h6 q hq)⟩
end
end
end Go.Sg
