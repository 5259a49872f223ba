import Derived.Recover
import Derived.Maps.RangeRun
import Derived.Conc.LoneCalls
import Derived.RangeFuncNested
import Derived.Laws.MakeOwn
import Derived.Test.YtknehchipcogdaaGreatDoorW1
/- A part of the proof of MissingCame. -/
set_option linter.unusedVariables false
set_option linter.unusedSimpArgs false
set_option maxRecDepth 100000
open List renaming length_cons→xA,not_mem_nil→jA,length_append→vA,mem_cons_self→xB,mem_cons_of_mem→qC,append_assoc→zC,mem_cons→kC,mem_of_getElem?→xD,perm_append_comm→jF,map_cons→kG,mem_map→xJ,all_eq_true→zP,nodup_cons→xR,nodup_nil→Yx,mem_map_of_mem→YI
open Bool renaming and_eq_true→zB,false_eq_true→YO
open Go.Sg.Rp renaming int→vB,bU→kM
open Go.Value renaming int→jC
open Go.IntKind renaming wrap→vC
open Nat renaming le_refl→xE,zero_le→jH,blt→qJ,le_trans→kK,le_of_ble_eq_true→jN,lt_of_lt_of_le→Zs,ble→Zt
open Go.Sg.HF renaming le_refl→qF,le→jL
open Go.Obj renaming cells→zH
open Go.Deferred renaming ofValue→xH
open Go.Result renaming andThen_ok→vK
open Go.Sem renaming run_bind→kL,run_pure→Y2,run→Z9
open Go.Addr renaming add→xP
open Array renaming ext'→zR,replicate→YK,foldl_toList→ZZ
open Go.Frame renaming enter→qS,atR→Y5
open Go.Sg.St renaming start→Y7,after→Y8
open Go.Instr renaming getLoop→Zi,fill→ZL,enterLoop→ZV
open Go.Sg.Env renaming ev→Zy

namespace Go.Sg
variable {P:Program}{X:Cx}{a r:Bool}{b:Frame}{bk m n off:Nat}{cl vs:List Go.Value}{ds:List Deferred}{e:Env}{fs:List Field}{ix x y:Operand}{k:List Item}{l:List Oper}{ops:Array Oper}{u:TypeId}{v:Go.Value}
section
def eqv:Option Value->Option Value->Bool
 |some (.int _ a),some (.int _ b)=>a==b
 |some (.bool a),some (.bool b)=>a==b
 |_,_=>false
def okF(P:Program)(xs ys:List Value)(f:Field):Bool:=
 !(f.name == "_") && (match tySz P f.type with|some (1, false) => true|_ => false) && (match P.underlying f.type, nth xs f.offset, nth ys f.offset with
  |some (.int _),some (.int j _),some (.int k _)=>decide (j=k)
  |some .bool,some (.bool _),some (.bool _)=>true
  |_,_,_=>false)
theorem ve{t:TypeId}{xs:List Value}(hT:tySz P t=some (1,false))(hv:nth xs off=some v)(w:World):(part t xs.toArray off).run P w=.ok v w:=by
 rw[hZ]at hv
 simp[part,Hz hT,eW hT,hv]
theorem Lu{xs ys:List Value}{f:Field}(h : okF P xs ys f = true) : f.name ≠ "_" /\ tySz P f.type = some (1, false) /\
  ((∃k j a b,P.underlying f.type=some (.int k)/\nth xs f.offset=some (.int j a)/\nth ys f.offset=some (.int j b))\/∃a b,P.underlying f.type=some .bool/\nth xs f.offset=some (.bool a)/\nth ys f.offset=some (.bool b)):=by grind [okF]
theorem DR{P:Program}{d:Nat}{xs ys:List Value}(w:World):∀(fs:List Field),fs.all (okF P xs ys)=true ->
  (Op.eqFields (d+1) xs.toArray ys.toArray fs).run P w=.ok (fs.all λf=>eqv (nth xs f.offset) (nth ys f.offset)) w
 |[],_=>by simp[Op.eqFields]
 |f::fs,h=>by
  rw[List.all_cons,zB]at h
  obtain⟨h1,h2⟩:=h
  have ih:=DR (d:=d) w fs h2
  obtain⟨hn,hT,⟨k,j,a,b,hu,hx,hy⟩|⟨a,b,hu,hx,hy⟩⟩:=Lu h1
  .rw[Op.eqFields,if_pos hn,List.all_cons,hx,hy]
   simp only[kL,ve hT hx,ve hT hy,vK,run_equalIn_int w d _ _ _ _ _ hu,eqv]
   cases hab:(a==b)
   .simp
   .simp only[Bool.not_true,YO,if_false,Bool.true_and];exact ih
  .rw[Op.eqFields,if_pos hn,List.all_cons,hx,hy]
   simp only[kL,ve hT hx,ve hT hy,vK,run_equalIn_bool' w d _ _ _ hu,eqv]
   cases hab:(a==b)
   .simp
   .simp only[Bool.not_true,YO,if_false,Bool.true_and];exact ih
theorem s8{t:TypeId}{xs ys:List Value}(hT:P.underlying t=some (.struct fs.toArray))(hp:P.stoodInHeld t=false)(hok:fs.all (okF P xs ys)=true)(hr:(fs.all λf=>eqv (nth xs f.offset) (nth ys f.offset))=r)(w:World):(Op.equal t (.agg xs.toArray) (.agg ys.toArray)).run P w=.ok r w:=by
 have hf:P.fieldsOf t=fs.toArray:=by simp[Program.fieldsOf,hT]
 have:=run_equalIn_struct (P:=P) w 9999 t xs.toArray ys.toArray (by rw[hf];exact hT) hp
 rw[hf]at this
 rw[Op.equal,Op.maxDepth,this,←hr]
 exact DR w fs hok
theorem vz{t:TypeId}{xs:List Value}(e:Bool)(hT:P.underlying t=some (.struct fs.toArray))(hok:fs.all (okF P xs xs)=true)(w:World):
  (Instr.checkKey e 10000 t (.agg xs.toArray)).run P w=.ok () w:=by
 rw[show(10000:Nat)=9999+1 from rfl,Instr.checkKey]
 simp only[kL,run_underlying hT,vK]
 rw[←Array.forIn_toList]
 simp only
 clear hT
 induction fs with
 |nil=>simp
 |cons f fs ih=>
  rw[List.all_cons,zB]at hok
  have ih:=ih hok.2
  obtain⟨hn,hT,⟨k,j,a,b,hu,hx,hy⟩|⟨a,b,hu,hx,hy⟩⟩:=Lu hok.1
  .have hc:(Instr.checkKey e 9999 f.type (.int j a)).run P w=.ok () w:=by
    rw[show(9999:Nat)=9998+1 from rfl,Instr.checkKey]
    simp[run_underlying hu]
   simp only[List.forIn_cons,if_pos hn,kL,ve hT hx,vK,hc,Y2]
   simpa using ih
  .have hc:(Instr.checkKey e 9999 f.type (.bool a)).run P w=.ok () w:=by
    rw[show(9999:Nat)=9998+1 from rfl,Instr.checkKey]
    simp[run_underlying hu]
   simp only[List.forIn_cons,if_pos hn,kL,ve hT hx,vK,hc,Y2]
   simpa using ih
theorem HT(vs:List Value):∀(cl:List Value),vs.length=cl.length->splice cl 0 vs=vs:=by
 intro cl hl
 have:=oK vs [] cl (by omega)
 simp at this
 rw[this,hl]
 simp
theorem ct{F:List Frame->(Machine->Prop)->Prop}{h:HF}{L:LH}{ty:TypeId}{pos:String}{af:Array Edge}{g:Option (Nat×Bool)}(i:Nat){t:TypeId}{T:Nat}(hT:tySz P t=some (m,a))(hx:e.ev x=.pointer (some ⟨bk,0,none⟩))(hL:nth L i=some (bk,.cells cl.toArray T (0,0)))(hv:e.ev y=.agg vs.toArray)(hm:vs.length=m)(hc:cl.length=m)(h1:vs.all one=true)(t':TO P b n ops l k F e ds X h (setNth L i (bk,.cells vs.toArray T (0,0))))(hg:guardB ops e ⟨none,.store t x y,ty,pos,af,g⟩=true:=by rfl):TO P b n ops (⟨none,.store t x y,ty,pos,af,g⟩::l) k F e ds X h L:=by
 refine dD i hT hx hL (vs:=vs) (by rw[hv];simp[vcells]) hm (by rw[Nat.zero_add,hm,hc];simp) h1 ?_ hg
 grind [HT]
section runs
variable {P:Program} {e:Env} {X:Cx} {h:HF} {L:LH} {d:Option Nat} {ty:TypeId} {pos:String} {af:Array Edge} {g:Option (Nat×Bool)}
theorem TV{t:TypeId}{xs ys:Array Value}(hq:∀w,(Op.equal t (.agg xs) (.agg ys)).run P w=.ok r w)(hm:P.eqGuardType P.depth t=false)(hx:e.ev x=.agg xs)(hy:e.ev y=.agg ys):
  ∀w,St X h L w->(execOp e.ev ⟨d,.binOp .eql t x y u,ty,pos,af,g⟩).run P w=.ok (.value (.bool r)) w:=
 λw _=>by
  have h1:=run_eqGuard_agg (P:=P) w .eql t x y xs ys hm
  have h2:=hq w
  simp[execOp,hx,hy,h1,binOp,h2]
theorem Xi{t:TypeId}{xs ys:Array Value}(hq:∀w,(Op.equal t (.agg xs) (.agg ys)).run P w=.ok r w)(hm:P.eqGuardType P.depth t=false)(hx:e.ev x=.agg xs)(hy:e.ev y=.agg ys):
  ∀w,St X h L w->(execOp e.ev ⟨d,.binOp .neq t x y u,ty,pos,af,g⟩).run P w=.ok (.value (.bool (!r))) w:=
 λw _=>by
  have h1:=run_eqGuard_agg (P:=P) w .neq t x y xs ys hm
  have h2:=hq w
  simp[execOp,hx,hy,h1,binOp,h2]
theorem WH{t:TypeId}{s:ByteArray}{i:Int}(hT:P.underlying t=some .string)(hx:e.ev x=.string s)(hix:e.ev ix=.int .i64 i)(hi:0<=i/\i<(s.size:Int)):
  ∀w,St X h L w->(execOp e.ev ⟨d,.index t x ix,ty,pos,af,g⟩).run P w=.ok (.value (.int .u8 ((s.data.getD i.toNat 0).toNat:Nat))) w:=
 λw _=>by
  obtain⟨n,rfl⟩:=Int.eq_ofNat_of_zero_le hi.1
  have hn:n<s.size:=by omega
  have hn':n<s.data.size:=hn
  simp[execOp,Instr.index,hix,hx,asIntOf,run_underlying hT,hn]
  rfl
end runs
end
section
structure cm where
 dz:Int
 gG:Int
deriving DecidableEq
instance:Inhabited cm:=⟨⟨0,0⟩⟩
def cm.cells(x:cm):List Go.Value:=[.int .i64 x.dz,.int .i64 x.gG]
abbrev cm.enc(x:cm):Go.Value:=.agg (cm.cells x).toArray
def cm.rp:Rp cm:=⟨2,λ_ cs x=>cs=cm.cells x⟩
theorem cm.aK:cm.rp.Mono:=λ_ _ _ _ _ e=>e
theorem cm.eF:cm.rp.Good:=⟨cm.aK,λ_ _ _ e=>by cases e;rfl,by decide⟩
structure Use where
 Doc:Int
 Kind:Int
 Value:Int
 At:Int
 fX:Int
deriving DecidableEq
instance:Inhabited Use:=⟨⟨0,0,0,0,0⟩⟩
def Use.cells(x:Use):List Go.Value:=[.int .i64 x.Doc,.int .i64 x.Kind,.int .i64 x.Value,.int .i64 x.At,.int .i64 x.fX]
abbrev Use.enc(x:Use):Go.Value:=.agg (Use.cells x).toArray
def Use.rp:Rp Use:=⟨5,λ_ cs x=>cs=Use.cells x⟩
theorem Use.aK:Use.rp.Mono:=λ_ _ _ _ _ e=>e
theorem Use.eF:Use.rp.Good:=⟨Use.aK,λ_ _ _ e=>by cases e;rfl,by decide⟩
structure aQ where
 No:Int
 At:Int
 fX:Int
 ea:Int
 dz:Int
 gG:Int
 nA:Bool
deriving DecidableEq
instance:Inhabited aQ:=⟨⟨0,0,0,0,0,0,false⟩⟩
def aQ.cells(x:aQ):List Go.Value:=[.int .i64 x.No,.int .i64 x.At,.int .i64 x.fX,.int .i64 x.ea,.int .i64 x.dz,.int .i64 x.gG,.bool x.nA]
abbrev aQ.enc(x:aQ):Go.Value:=.agg (aQ.cells x).toArray
def aQ.rp:Rp aQ:=⟨7,λ_ cs x=>cs=aQ.cells x⟩
theorem aQ.aK:aQ.rp.Mono:=λ_ _ _ _ _ e=>e
theorem aQ.eF:aQ.rp.Good:=⟨aQ.aK,λ_ _ _ e=>by cases e;rfl,by decide⟩
structure bj where
 No:Int
 At:Int
 fX:Int
 qi:Int
 From:Int
 To:Int
 ea:Int
 Kind:Int
 SQ:Int
 nA:Bool
deriving DecidableEq
instance:Inhabited bj:=⟨⟨0,0,0,0,0,0,0,0,0,false⟩⟩
def bj.cells(x:bj):List Go.Value:=[.int .i64 x.No,.int .i64 x.At,.int .i64 x.fX,.int .i64 x.qi,.int .i64 x.From,.int .i64 x.To,.int .i64 x.ea,.int .i64 x.Kind,.int .i64 x.SQ,.bool x.nA]
abbrev bj.enc(x:bj):Go.Value:=.agg (bj.cells x).toArray
def bj.rp:Rp bj:=⟨10,λ_ cs x=>cs=bj.cells x⟩
theorem bj.aK:bj.rp.Mono:=λ_ _ _ _ _ e=>e
theorem bj.eF:bj.rp.Good:=⟨bj.aK,λ_ _ _ e=>by cases e;rfl,by decide⟩
structure aG where
 No:Int
 At:Int
 fX:Int
 dz:Int
 jt:Int
 Of:Bool
 nA:Bool
deriving DecidableEq
instance:Inhabited aG:=⟨⟨0,0,0,0,0,false,false⟩⟩
def aG.cells(x:aG):List Go.Value:=[.int .i64 x.No,.int .i64 x.At,.int .i64 x.fX,.int .i64 x.dz,.int .i64 x.jt,.bool x.Of,.bool x.nA]
abbrev aG.enc(x:aG):Go.Value:=.agg (aG.cells x).toArray
def aG.rp:Rp aG:=⟨7,λ_ cs x=>cs=aG.cells x⟩
theorem aG.aK:aG.rp.Mono:=λ_ _ _ _ _ e=>e
theorem aG.eF:aG.rp.Good:=⟨aG.aK,λ_ _ _ e=>by cases e;rfl,by decide⟩
structure Budget where
 No:Int
 At:Int
 fX:Int
 Kind:Int
 lC:Int
 Count:Int
 Value:Int
 nA:Bool
deriving DecidableEq
instance:Inhabited Budget:=⟨⟨0,0,0,0,0,0,0,false⟩⟩
def Budget.cells(x:Budget):List Go.Value:=[.int .i64 x.No,.int .i64 x.At,.int .i64 x.fX,.int .i64 x.Kind,.int .i64 x.lC,.int .i64 x.Count,.int .i64 x.Value,.bool x.nA]
abbrev Budget.enc(x:Budget):Go.Value:=.agg (Budget.cells x).toArray
def Budget.rp:Rp Budget:=⟨8,λ_ cs x=>cs=Budget.cells x⟩
theorem Budget.aK:Budget.rp.Mono:=λ_ _ _ _ _ e=>e
theorem Budget.eF:Budget.rp.Good:=⟨Budget.aK,λ_ _ _ e=>by cases e;rfl,by decide⟩
structure ai where
 No:Int
 At:Int
 fX:Int
 Doc:Int
 By:Int
 For:Int
 ea:Int
 nA:Bool
deriving DecidableEq
instance:Inhabited ai:=⟨⟨0,0,0,0,0,0,0,false⟩⟩
def ai.cells(x:ai):List Go.Value:=[.int .i64 x.No,.int .i64 x.At,.int .i64 x.fX,.int .i64 x.Doc,.int .i64 x.By,.int .i64 x.For,.int .i64 x.ea,.bool x.nA]
abbrev ai.enc(x:ai):Go.Value:=.agg (ai.cells x).toArray
def ai.rp:Rp ai:=⟨8,λ_ cs x=>cs=ai.cells x⟩
theorem ai.aK:ai.rp.Mono:=λ_ _ _ _ _ e=>e
theorem ai.eF:ai.rp.Good:=⟨ai.aK,λ_ _ _ e=>by cases e;rfl,by decide⟩
inductive ao where
 |mk (Kind N No:Int) (Name:ByteArray) (L:List ao)
def ao.Kind:ao->Int
 |.mk Kind _ _ _ _=>Kind
def ao.N:ao->Int
 |.mk _ N _ _ _=>N
def ao.No:ao->Int
 |.mk _ _ No _ _=>No
def ao.Name:ao->ByteArray
 |.mk _ _ _ Name _=>Name
def ao.L:ao->List ao
 |.mk _ _ _ _ L=>L
instance:Inhabited ao:=⟨.mk 0 0 0 ⟨#[]⟩ []⟩
mutual
def ao.dep:ao->Nat
 |.mk _ _ _ _ L=>ao.depL L+1
def ao.depL:List ao->Nat
 |[]=>0
 |y::ys=>ao.dep y+ao.depL ys
end
theorem ao.np(x:ao):0<x.dep:=by cases x;simp[ao.dep]
theorem ao.UO{y:ao}:∀{l:List ao},y∈l->y.dep<=ao.depL l
 |z::l,h=>by
  rcases kC.1 h with rfl|h
  .simp[ao.depL]
  .have:=ao.UO h;simp[ao.depL];omega
theorem ao.OJ:∀(l:List ao),l.length<=ao.depL l
 |[]=>xE _
 |z::l=>by have:=ao.OJ l;have:=ao.np z;simp[ao.depL];omega
theorem ao.P4(x:ao):x.L.length<x.dep:=by
 cases x with
 |mk a b c d L=>have:=ao.OJ L;simp[ao.dep,ao.L];omega
theorem ao.lB{x y:ao}(h:y∈x.L):y.dep<x.dep:=by
 cases x with
 |mk a b c d L=>have:=ao.UO (l:=L) h;simp[ao.dep];omega
structure dJ where
 pE:Option Addr
 pF:Nat
def ao.cells(x:ao)(r:dJ):List Go.Value:=[.int .i64 x.Kind,.int .i64 x.N,.int .i64 x.No,.string x.Name,.slice r.pE x.L.length r.pF]
inductive ao.ok(h:HF):ao->dJ->Prop
 |mk (x:ao) (r:dJ) (rs:Nat->dJ) (h0:x.L.length<=9223372036854775807/\x.L.length<=r.pF) (h1:∀(i:Nat)(y:ao),x.L[i]? = some y->∃p,r.pE=some p/\At h (p.add (i*5)) (ao.cells y (rs i))) (h2:∀(i:Nat)(y:ao),x.L[i]? = some y->ao.ok h y (rs i)):ao.ok h x r
def ao.rp:Rp ao:=⟨5,λh cs x=>∃r,cs=ao.cells x r/\ao.ok h x r⟩
theorem ao.ok.mono{h h':HF}{x:ao}{r:dJ}(a:ao.ok h x r)(hl:h.le h'):ao.ok h' x r:=by
 induction a with
 |mk x r rs h0 h1 h2 ih=>exact .mk x r rs h0 (λi y hy=>let ⟨p,e,q⟩:=h1 i y hy;⟨p,e,q.mono hl⟩) (λi y hy=>ih i y hy)
theorem ao.ok.list{h:HF}{x:ao}{r:dJ}(a:ao.ok h x r):SlC ao.rp h r.pE r.pF x.L:=by
 cases a with
 |mk x r rs h0 h1 h2=>exact⟨⟨h0.1,λi y hy=>let ⟨p,e,q⟩:=h1 i y hy;⟨p,_,e,q,rfl,_,rfl,h2 i y hy⟩⟩,h0.2⟩
theorem ao.aK:ao.rp.Mono:=λ_ _ _ _ hl⟨r,e,o⟩=>⟨r,e,o.mono hl⟩
theorem ao.ok.of{h:HF}{x:ao}{r:dJ}(a:SlC ao.rp h r.pE r.pF x.L):ao.ok h x r:=by
 have h1:∀i,∃q:dJ,∀y,x.L[i]? = some y->∃p,r.pE=some p/\At h (p.add (i*5)) (ao.cells y q)/\ao.ok h y q:=by
  intro i
  cases hy:x.L[i]? with
  |none=>exact⟨⟨none,0⟩,λy e=>by cases e⟩
  |some y=>
   obtain⟨p,cs,e,q,_,r',rfl,o⟩:=a.1.2 i y hy
   exact⟨r',λz ez=>by cases ez;exact⟨p,e,q,o⟩⟩
 obtain⟨rs,hrs⟩:=Classical.axiomOfChoice h1
 exact .mk x r rs ⟨a.1.1,a.2⟩ (λi y hy=>let ⟨p,e,q,_⟩:=hrs i y hy;⟨p,e,q⟩) (λi y hy=>let ⟨_,_,_,o⟩:=hrs i y hy;o)
theorem ao.eF:ao.rp.Good:=⟨ao.aK,λ_ _ _⟨_,e,_⟩=>by cases e;rfl,by decide⟩
structure fg where
 Kind:ByteArray
 BQ:Int
 gf:Int
 ao:ao
instance:Inhabited fg:=⟨⟨⟨#[]⟩,0,0,default⟩⟩
structure yN where
 ao:dJ
def fg.cells(x:fg)(r:yN):List Go.Value:=[.string x.Kind,.int .i64 x.BQ,.int .i64 x.gf,.int .i64 x.ao.Kind,.int .i64 x.ao.N,.int .i64 x.ao.No,.string x.ao.Name,.slice r.ao.pE x.ao.L.length r.ao.pF]
structure fg.ok(h:HF)(x:fg)(r:yN):Prop where
 ao:ao.ok h x.ao r.ao
theorem fg.ok.mono{h h':HF}{x:fg}{r:yN}(a:fg.ok h x r)(hl:h.le h'):fg.ok h' x r:=⟨a.ao.mono hl⟩
def fg.rp:Rp fg:=⟨8,λh cs x=>∃r,cs=fg.cells x r/\fg.ok h x r⟩
theorem fg.aK:fg.rp.Mono:=λ_ _ _ _ hl⟨r,e,o⟩=>⟨r,e,o.mono hl⟩
theorem fg.eF:fg.rp.Good:=⟨fg.aK,λ_ _ _⟨_,e,_⟩=>by cases e;rfl,by decide⟩
structure ay where
 Name:ByteArray
 dM:List ByteArray
 aB:List ByteArray
 cZ:List fg
 aS:ao
 Mode:Int
instance:Inhabited ay:=⟨⟨⟨#[]⟩,[],[],[],default,0⟩⟩
structure ir where
 j3:Option Addr
 j1:Nat
 gI:Option Addr
 gH:Nat
 pN:Option Addr
 pM:Nat
 aS:dJ
def ay.cells(x:ay)(r:ir):List Go.Value:=[.string x.Name,.slice r.j3 x.dM.length r.j1,.slice r.gI x.aB.length r.gH,.slice r.pN x.cZ.length r.pM,.int .i64 x.aS.Kind,.int .i64 x.aS.N,.int .i64 x.aS.No,.string x.aS.Name,.slice r.aS.pE x.aS.L.length r.aS.pF,.int .i64 x.Mode]
structure ay.ok(h:HF)(x:ay)(r:ir):Prop where
 dM:SlC Rp.str h r.j3 r.j1 x.dM
 aB:SlC Rp.str h r.gI r.gH x.aB
 cZ:SlC fg.rp h r.pN r.pM x.cZ
 aS:ao.ok h x.aS r.aS
theorem ay.ok.mono{h h':HF}{x:ay}{r:ir}(a:ay.ok h x r)(hl:h.le h'):ay.ok h' x r:=⟨a.dM.mono Rp.jx hl,a.aB.mono Rp.jx hl,a.cZ.mono fg.aK hl,a.aS.mono hl⟩
def ay.rp:Rp ay:=⟨10,λh cs x=>∃r,cs=ay.cells x r/\ay.ok h x r⟩
theorem ay.aK:ay.rp.Mono:=λ_ _ _ _ hl⟨r,e,o⟩=>⟨r,e,o.mono hl⟩
theorem ay.eF:ay.rp.Good:=⟨ay.aK,λ_ _ _⟨_,e,_⟩=>by cases e;rfl,by decide⟩
structure aD where
 No:Int
 At:Int
 fX:Int
 ay:ay
instance:Inhabited aD:=⟨⟨0,0,0,default⟩⟩
structure nP where
 ay:ir
def aD.cells(x:aD)(r:nP):List Go.Value:=[.int .i64 x.No,.int .i64 x.At,.int .i64 x.fX,.string x.ay.Name,.slice r.ay.j3 x.ay.dM.length r.ay.j1,.slice r.ay.gI x.ay.aB.length r.ay.gH,.slice r.ay.pN x.ay.cZ.length r.ay.pM,.int .i64 x.ay.aS.Kind,.int .i64 x.ay.aS.N,.int .i64 x.ay.aS.No,.string x.ay.aS.Name,.slice r.ay.aS.pE x.ay.aS.L.length r.ay.aS.pF,.int .i64 x.ay.Mode]
structure aD.ok(h:HF)(x:aD)(r:nP):Prop where
 ay:ay.ok h x.ay r.ay
theorem aD.ok.mono{h h':HF}{x:aD}{r:nP}(a:aD.ok h x r)(hl:h.le h'):aD.ok h' x r:=⟨a.ay.mono hl⟩
def aD.rp:Rp aD:=⟨13,λh cs x=>∃r,cs=aD.cells x r/\aD.ok h x r⟩
theorem aD.aK:aD.rp.Mono:=λ_ _ _ _ hl⟨r,e,o⟩=>⟨r,e,o.mono hl⟩
theorem aD.eF:aD.rp.Good:=⟨aD.aK,λ_ _ _⟨_,e,_⟩=>by cases e;rfl,by decide⟩
structure av where
 No:Int
 At:Int
 Kind:Int
 Value:Int
 From:Int
 qi:Int
 ju:List Int
 fF:List Int
 e9:List Int
 Text:Nat->Int
instance:Inhabited av:=⟨⟨0,0,0,0,0,0,[],[],[],λ_=>0⟩⟩
structure lv where
 Cj:Option Addr
 Ci:Nat
 vh:Option Addr
 vg:Nat
 EP:Option Addr
 EO:Nat
def av.cells(x:av)(r:lv):List Go.Value:=.int .i64 x.No::.int .i64 x.At::.int .i64 x.Kind::.int .i64 x.Value::.int .i64 x.From::.int .i64 x.qi::.slice r.Cj x.ju.length r.Ci::.slice r.vh x.fF.length r.vg::.slice r.EP x.e9.length r.EO::.int .u8 (x.Text 0)::.int .u8 (x.Text 1)::.int .u8 (x.Text 2)::.int .u8 (x.Text 3)::.int .u8 (x.Text 4)::.int .u8 (x.Text 5)::.int .u8 (x.Text 6)::.int .u8 (x.Text 7)::.int .u8 (x.Text 8)::.int .u8 (x.Text 9)::.int .u8 (x.Text 10)::.int .u8 (x.Text 11)::.int .u8 (x.Text 12)::.int .u8 (x.Text 13)::.int .u8 (x.Text 14)::.int .u8 (x.Text 15)::.int .u8 (x.Text 16)::.int .u8 (x.Text 17)::.int .u8 (x.Text 18)::.int .u8 (x.Text 19)::.int .u8 (x.Text 20)::.int .u8 (x.Text 21)::.int .u8 (x.Text 22)::.int .u8 (x.Text 23)::.int .u8 (x.Text 24)::.int .u8 (x.Text 25)::.int .u8 (x.Text 26)::.int .u8 (x.Text 27)::.int .u8 (x.Text 28)::.int .u8 (x.Text 29)::.int .u8 (x.Text 30)::.int .u8 (x.Text 31)::[]
structure av.ok(h:HF)(x:av)(r:lv):Prop where
 ju:SlC vB h r.Cj r.Ci x.ju
 fF:SlC vB h r.vh r.vg x.fF
 e9:SlC vB h r.EP r.EO x.e9
theorem av.ok.mono{h h':HF}{x:av}{r:lv}(a:av.ok h x r)(hl:h.le h'):av.ok h' x r:=⟨a.ju.mono kM hl,a.fF.mono kM hl,a.e9.mono kM hl⟩
def av.rp:Rp av:=⟨41,λh cs x=>∃r,cs=av.cells x r/\av.ok h x r⟩
theorem av.aK:av.rp.Mono:=λ_ _ _ _ hl⟨r,e,o⟩=>⟨r,e,o.mono hl⟩
theorem av.eF:av.rp.Good:=⟨av.aK,λ_ _ _⟨_,e,_⟩=>by cases e;rfl,by decide⟩
structure Register where
 da:List aQ
 eI:List bj
 dt:List aG
 df:List Budget
 Versions:List aD
 bV:List av
 bO:List ai
instance:Inhabited Register:=⟨⟨[],[],[],[],[],[],[]⟩⟩
structure lu where
 wJ:Option Addr
 wH:Nat
 wD:Option Addr
 wC:Nat
 ua:Option Addr
 tZ:Nat
 sY:Option Addr
 sX:Nat
 mZ:Option Addr
 mY:Nat
 FG:Option Addr
 FF:Nat
 ry:Option Addr
 rx:Nat
def Register.cells(x:Register)(r:lu):List Go.Value:=[.slice r.wJ x.da.length r.wH,.slice r.wD x.eI.length r.wC,.slice r.ua x.dt.length r.tZ,.slice r.sY x.df.length r.sX,.slice r.mZ x.Versions.length r.mY,.slice r.FG x.bV.length r.FF,.slice r.ry x.bO.length r.rx]
structure Register.ok(h:HF)(x:Register)(r:lu):Prop where
 da:SlC aQ.rp h r.wJ r.wH x.da
 eI:SlC bj.rp h r.wD r.wC x.eI
 dt:SlC aG.rp h r.ua r.tZ x.dt
 df:SlC Budget.rp h r.sY r.sX x.df
 Versions:SlC aD.rp h r.mZ r.mY x.Versions
 bV:SlC av.rp h r.FG r.FF x.bV
 bO:SlC ai.rp h r.ry r.rx x.bO
theorem Register.ok.mono{h h':HF}{x:Register}{r:lu}(a:Register.ok h x r)(hl:h.le h'):Register.ok h' x r:=⟨a.da.mono aQ.aK hl,a.eI.mono bj.aK hl,a.dt.mono aG.aK hl,a.df.mono Budget.aK hl,a.Versions.mono aD.aK hl,a.bV.mono av.aK hl,a.bO.mono ai.aK hl⟩
def Register.rp:Rp Register:=⟨7,λh cs x=>∃r,cs=Register.cells x r/\Register.ok h x r⟩
theorem Register.aK:Register.rp.Mono:=λ_ _ _ _ hl⟨r,e,o⟩=>⟨r,e,o.mono hl⟩
theorem Register.eF:Register.rp.Good:=⟨Register.aK,λ_ _ _⟨_,e,_⟩=>by cases e;rfl,by decide⟩
structure fw where
 State:Int
 Budget:Int
 Versions:List Int
 Who:List Int
instance:Inhabited fw:=⟨⟨0,0,[],[]⟩⟩
structure qh where
 mZ:Option Addr
 mY:Nat
 Wo:Option Addr
 Wn:Nat
def fw.cells(x:fw)(r:qh):List Go.Value:=[.int .i64 x.State,.int .i64 x.Budget,.slice r.mZ x.Versions.length r.mY,.slice r.Wo x.Who.length r.Wn]
structure fw.ok(h:HF)(x:fw)(r:qh):Prop where
 Versions:SlC vB h r.mZ r.mY x.Versions
 Who:SlC vB h r.Wo r.Wn x.Who
theorem fw.ok.mono{h h':HF}{x:fw}{r:qh}(a:fw.ok h x r)(hl:h.le h'):fw.ok h' x r:=⟨a.Versions.mono kM hl,a.Who.mono kM hl⟩
def fw.rp:Rp fw:=⟨4,λh cs x=>∃r,cs=fw.cells x r/\fw.ok h x r⟩
theorem fw.aK:fw.rp.Mono:=λ_ _ _ _ hl⟨r,e,o⟩=>⟨r,e,o.mono hl⟩
theorem fw.eF:fw.rp.Good:=⟨fw.aK,λ_ _ _⟨_,e,_⟩=>by cases e;rfl,by decide⟩
structure eQ where
 Kind:Int
 N:Int
deriving DecidableEq
instance:Inhabited eQ:=⟨⟨0,0⟩⟩
def eQ.cells(x:eQ):List Go.Value:=[.int .i64 x.Kind,.int .i64 x.N]
abbrev eQ.enc(x:eQ):Go.Value:=.agg (eQ.cells x).toArray
def eQ.rp:Rp eQ:=⟨2,λ_ cs x=>cs=eQ.cells x⟩
theorem eQ.aK:eQ.rp.Mono:=λ_ _ _ _ _ e=>e
theorem eQ.eF:eQ.rp.Good:=⟨eQ.aK,λ_ _ _ e=>by cases e;rfl,by decide⟩
structure OSeat where
 bw:Int
 bY:Int
deriving DecidableEq
instance:Inhabited OSeat:=⟨⟨0,0⟩⟩
def OSeat.cells(x:OSeat):List Go.Value:=[.int .i64 x.bw,.int .i64 x.bY]
abbrev OSeat.enc(x:OSeat):Go.Value:=.agg (OSeat.cells x).toArray
def OSeat.rp:Rp OSeat:=⟨2,λ_ cs x=>cs=OSeat.cells x⟩
theorem OSeat.aK:OSeat.rp.Mono:=λ_ _ _ _ _ e=>e
theorem OSeat.eF:OSeat.rp.Good:=⟨OSeat.aK,λ_ _ _ e=>by cases e;rfl,by decide⟩
structure eR where
 bY:Int
 party:Int
 of:Bool
deriving DecidableEq
instance:Inhabited eR:=⟨⟨0,0,false⟩⟩
def eR.cells(x:eR):List Go.Value:=[.int .i64 x.bY,.int .i64 x.party,.bool x.of]
abbrev eR.enc(x:eR):Go.Value:=.agg (eR.cells x).toArray
def eR.rp:Rp eR:=⟨3,λ_ cs x=>cs=eR.cells x⟩
theorem eR.aK:eR.rp.Mono:=λ_ _ _ _ _ e=>e
theorem eR.eF:eR.rp.Good:=⟨eR.aK,λ_ _ _ e=>by cases e;rfl,by decide⟩
structure iu where
 path:List Int
 to:Int
instance:Inhabited iu:=⟨⟨[],0⟩⟩
structure L7 where
 AY:Option Addr
 C5:Nat
def iu.cells(x:iu)(r:L7):List Go.Value:=[.slice r.AY x.path.length r.C5,.int .i64 x.to]
structure iu.ok(h:HF)(x:iu)(r:L7):Prop where
 path:SlC vB h r.AY r.C5 x.path
theorem iu.ok.mono{h h':HF}{x:iu}{r:L7}(a:iu.ok h x r)(hl:h.le h'):iu.ok h' x r:=⟨a.path.mono kM hl⟩
def iu.rp:Rp iu:=⟨2,λh cs x=>∃r,cs=iu.cells x r/\iu.ok h x r⟩
theorem iu.aK:iu.rp.Mono:=λ_ _ _ _ hl⟨r,e,o⟩=>⟨r,e,o.mono hl⟩
theorem iu.eF:iu.rp.Good:=⟨iu.aK,λ_ _ _⟨_,e,_⟩=>by cases e;rfl,by decide⟩
structure sx where
 QF:List Int
 To:Int
instance:Inhabited sx:=⟨⟨[],0⟩⟩
structure LX where
 U4:Option Addr
 U3:Nat
def sx.cells(x:sx)(r:LX):List Go.Value:=[.slice r.U4 x.QF.length r.U3,.int .i64 x.To]
structure sx.ok(h:HF)(x:sx)(r:LX):Prop where
 QF:SlC vB h r.U4 r.U3 x.QF
theorem sx.ok.mono{h h':HF}{x:sx}{r:LX}(a:sx.ok h x r)(hl:h.le h'):sx.ok h' x r:=⟨a.QF.mono kM hl⟩
def sx.rp:Rp sx:=⟨2,λh cs x=>∃r,cs=sx.cells x r/\sx.ok h x r⟩
theorem sx.aK:sx.rp.Mono:=λ_ _ _ _ hl⟨r,e,o⟩=>⟨r,e,o.mono hl⟩
theorem sx.eF:sx.rp.Good:=⟨sx.aK,λ_ _ _⟨_,e,_⟩=>by cases e;rfl,by decide⟩
structure bh where
 value:Int
 dg:List (List cm)
 j9:List Int
instance:Inhabited bh:=⟨⟨0,[],[]⟩⟩
structure my where
 ml:Option Addr
 mj:Nat
 oZ:Option Addr
 oY:Nat
def bh.cells(x:bh)(r:my):List Go.Value:=[.int .i64 x.value,.slice r.ml x.dg.length r.mj,.slice r.oZ x.j9.length r.oY]
structure bh.ok(h:HF)(x:bh)(r:my):Prop where
 dg:SlC (Rp.sl cm.rp) h r.ml r.mj x.dg
 j9:SlC vB h r.oZ r.oY x.j9
theorem bh.ok.mono{h h':HF}{x:bh}{r:my}(a:bh.ok h x r)(hl:h.le h'):bh.ok h' x r:=⟨a.dg.mono (Rp.Mn cm.aK) hl,a.j9.mono kM hl⟩
def bh.rp:Rp bh:=⟨3,λh cs x=>∃r,cs=bh.cells x r/\bh.ok h x r⟩
theorem bh.aK:bh.rp.Mono:=λ_ _ _ _ hl⟨r,e,o⟩=>⟨r,e,o.mono hl⟩
theorem bh.eF:bh.rp.Good:=⟨bh.aK,λ_ _ _⟨_,e,_⟩=>by cases e;rfl,by decide⟩
structure gu where
 x:ao
 depth:Int
instance:Inhabited gu:=⟨⟨default,0⟩⟩
structure zz where
 x:dJ
def gu.cells(x:gu)(r:zz):List Go.Value:=[.int .i64 x.x.Kind,.int .i64 x.x.N,.int .i64 x.x.No,.string x.x.Name,.slice r.x.pE x.x.L.length r.x.pF,.int .i64 x.depth]
structure gu.ok(h:HF)(x:gu)(r:zz):Prop where
 x:ao.ok h x.x r.x
theorem gu.ok.mono{h h':HF}{x:gu}{r:zz}(a:gu.ok h x r)(hl:h.le h'):gu.ok h' x r:=⟨a.x.mono hl⟩
def gu.rp:Rp gu:=⟨6,λh cs x=>∃r,cs=gu.cells x r/\gu.ok h x r⟩
theorem gu.aK:gu.rp.Mono:=λ_ _ _ _ hl⟨r,e,o⟩=>⟨r,e,o.mono hl⟩
theorem gu.eF:gu.rp.Good:=⟨gu.aK,λ_ _ _⟨_,e,_⟩=>by cases e;rfl,by decide⟩
structure tX where
 e:Int
deriving DecidableEq
instance:Inhabited tX:=⟨⟨0⟩⟩
def tX.cells(x:tX):List Go.Value:=[.int .i64 x.e]
abbrev tX.enc(x:tX):Go.Value:=.agg (tX.cells x).toArray
def tX.rp:Rp tX:=⟨1,λ_ cs x=>cs=tX.cells x⟩
theorem tX.aK:tX.rp.Mono:=λ_ _ _ _ _ e=>e
theorem tX.eF:tX.rp.Good:=⟨tX.aK,λ_ _ _ e=>by cases e;rfl,by decide⟩
structure iK where
 docs:List av
 at_:List (Int×Int)
instance:Inhabited iK:=⟨⟨[],[]⟩⟩
structure pj where
 JI:Option Addr
 JH:Nat
 Py:Nat
def iK.cells(x:iK)(r:pj):List Go.Value:=[.slice r.JI x.docs.length r.JH,.map (some r.Py)]
structure iK.ok(h:HF)(x:iK)(r:pj):Prop where
 docs:SlC av.rp h r.JI r.JH x.docs
 at_:uY (jC .i64) Aw h r.Py x.at_
theorem iK.ok.mono{h h':HF}{x:iK}{r:pj}(a:iK.ok h x r)(hl:h.le h'):iK.ok h' x r:=⟨a.docs.mono av.aK hl,a.at_.mono Aw.mono hl⟩
def iK.rp:Rp iK:=⟨2,λh cs x=>∃r,cs=iK.cells x r/\iK.ok h x r⟩
theorem iK.aK:iK.rp.Mono:=λ_ _ _ _ hl⟨r,e,o⟩=>⟨r,e,o.mono hl⟩
theorem iK.eF:iK.rp.Good:=⟨iK.aK,λ_ _ _⟨_,e,_⟩=>by cases e;rfl,by decide⟩
structure eE where
 aP:Int
 uy:Int
 forWhom:Int
 bw:Int
deriving DecidableEq
instance:Inhabited eE:=⟨⟨0,0,0,0⟩⟩
def eE.cells(x:eE):List Go.Value:=[.int .i64 x.aP,.int .i64 x.uy,.int .i64 x.forWhom,.int .i64 x.bw]
abbrev eE.enc(x:eE):Go.Value:=.agg (eE.cells x).toArray
def eE.rp:Rp eE:=⟨4,λ_ cs x=>cs=eE.cells x⟩
theorem eE.aK:eE.rp.Mono:=λ_ _ _ _ _ e=>e
theorem eE.eF:eE.rp.Good:=⟨eE.aK,λ_ _ _ e=>by cases e;rfl,by decide⟩
structure et where
 ff:Int
 to:Int
 bw:Int
 kind:Int
deriving DecidableEq
instance:Inhabited et:=⟨⟨0,0,0,0⟩⟩
def et.cells(x:et):List Go.Value:=[.int .i64 x.ff,.int .i64 x.to,.int .i64 x.bw,.int .i64 x.kind]
abbrev et.enc(x:et):Go.Value:=.agg (et.cells x).toArray
def et.rp:Rp et:=⟨4,λ_ cs x=>cs=et.cells x⟩
theorem et.aK:et.rp.Mono:=λ_ _ _ _ _ e=>e
theorem et.eF:et.rp.Good:=⟨et.aK,λ_ _ _ e=>by cases e;rfl,by decide⟩
structure cn where
 bw:Int
 kind:Int
 value:Int
 at_:Int
 ah:Int
deriving DecidableEq
instance:Inhabited cn:=⟨⟨0,0,0,0,0⟩⟩
def cn.cells(x:cn):List Go.Value:=[.int .i64 x.bw,.int .i64 x.kind,.int .i64 x.value,.int .i64 x.at_,.int .i64 x.ah]
abbrev cn.enc(x:cn):Go.Value:=.agg (cn.cells x).toArray
def cn.rp:Rp cn:=⟨5,λ_ cs x=>cs=cn.cells x⟩
theorem cn.aK:cn.rp.Mono:=λ_ _ _ _ _ e=>e
theorem cn.eF:cn.rp.Good:=⟨cn.aK,λ_ _ _ e=>by cases e;rfl,by decide⟩
structure gq where
 kind:Int
 period:Int
deriving DecidableEq
instance:Inhabited gq:=⟨⟨0,0⟩⟩
def gq.cells(x:gq):List Go.Value:=[.int .i64 x.kind,.int .i64 x.period]
abbrev gq.enc(x:gq):Go.Value:=.agg (gq.cells x).toArray
def gq.rp:Rp gq:=⟨2,λ_ cs x=>cs=gq.cells x⟩
theorem gq.aK:gq.rp.Mono:=λ_ _ _ _ _ e=>e
theorem gq.eF:gq.rp.Good:=⟨gq.aK,λ_ _ _ e=>by cases e;rfl,by decide⟩
structure e8 where
 shelf:iK
 signed:List Int
 done:List Bool
 lacks:List Int
 revoked:List (Int×(List Int))
instance:Inhabited e8:=⟨⟨default,[],[],[],[]⟩⟩
structure sW where
 shelf:pj
 bK:Option Addr
 bJ:Nat
 JC:Option Addr
 JA:Nat
 Rj:Option Addr
 Ri:Nat
 Lk:Nat
def e8.cells(x:e8)(r:sW):List Go.Value:=[.slice r.shelf.JI x.shelf.docs.length r.shelf.JH,.map (some r.shelf.Py),.slice r.bK x.signed.length r.bJ,.slice r.JC x.done.length r.JA,.slice r.Rj x.lacks.length r.Ri,.map (some r.Lk)]
structure e8.ok(h:HF)(x:e8)(r:sW):Prop where
 shelf:iK.ok h x.shelf r.shelf
 signed:SlC vB h r.bK r.bJ x.signed
 done:SlC Rp.bool h r.JC r.JA x.done
 lacks:SlC vB h r.Rj r.Ri x.lacks
 revoked:uY (jC .i64) (VSl vB) h r.Lk x.revoked
theorem e8.ok.mono{h h':HF}{x:e8}{r:sW}(a:e8.ok h x r)(hl:h.le h'):e8.ok h' x r:=⟨a.shelf.mono hl,a.signed.mono kM hl,a.done.mono Rp.sV hl,a.lacks.mono kM hl,a.revoked.mono (VSl.mono kM) hl⟩
def e8.rp:Rp e8:=⟨6,λh cs x=>∃r,cs=e8.cells x r/\e8.ok h x r⟩
theorem e8.aK:e8.rp.Mono:=λ_ _ _ _ hl⟨r,e,o⟩=>⟨r,e,o.mono hl⟩
theorem e8.eF:e8.rp.Good:=⟨e8.aK,λ_ _ _⟨_,e,_⟩=>by cases e;rfl,by decide⟩
structure bI where
 Register:Register
 aP:av
 at_:Int
 ah:Int
instance:Inhabited bI:=⟨⟨default,default,0,0⟩⟩
structure ss where
 Register:lu
 aP:lv
def bI.cells(x:bI)(r:ss):List Go.Value:=.slice r.Register.wJ x.Register.da.length r.Register.wH::.slice r.Register.wD x.Register.eI.length r.Register.wC::.slice r.Register.ua x.Register.dt.length r.Register.tZ::.slice r.Register.sY x.Register.df.length r.Register.sX::.slice r.Register.mZ x.Register.Versions.length r.Register.mY::.slice r.Register.FG x.Register.bV.length r.Register.FF::.slice r.Register.ry x.Register.bO.length r.Register.rx::.int .i64 x.aP.No::.int .i64 x.aP.At::.int .i64 x.aP.Kind::.int .i64 x.aP.Value::.int .i64 x.aP.From::.int .i64 x.aP.qi::.slice r.aP.Cj x.aP.ju.length r.aP.Ci::.slice r.aP.vh x.aP.fF.length r.aP.vg::.slice r.aP.EP x.aP.e9.length r.aP.EO::.int .u8 (x.aP.Text 0)::.int .u8 (x.aP.Text 1)::.int .u8 (x.aP.Text 2)::.int .u8 (x.aP.Text 3)::.int .u8 (x.aP.Text 4)::.int .u8 (x.aP.Text 5)::.int .u8 (x.aP.Text 6)::.int .u8 (x.aP.Text 7)::.int .u8 (x.aP.Text 8)::.int .u8 (x.aP.Text 9)::.int .u8 (x.aP.Text 10)::.int .u8 (x.aP.Text 11)::.int .u8 (x.aP.Text 12)::.int .u8 (x.aP.Text 13)::.int .u8 (x.aP.Text 14)::.int .u8 (x.aP.Text 15)::.int .u8 (x.aP.Text 16)::.int .u8 (x.aP.Text 17)::.int .u8 (x.aP.Text 18)::.int .u8 (x.aP.Text 19)::.int .u8 (x.aP.Text 20)::.int .u8 (x.aP.Text 21)::.int .u8 (x.aP.Text 22)::.int .u8 (x.aP.Text 23)::.int .u8 (x.aP.Text 24)::.int .u8 (x.aP.Text 25)::.int .u8 (x.aP.Text 26)::.int .u8 (x.aP.Text 27)::.int .u8 (x.aP.Text 28)::.int .u8 (x.aP.Text 29)::.int .u8 (x.aP.Text 30)::.int .u8 (x.aP.Text 31)::.int .i64 x.at_::.int .i64 x.ah::[]
structure bI.ok(h:HF)(x:bI)(r:ss):Prop where
 Register:Register.ok h x.Register r.Register
 aP:av.ok h x.aP r.aP
theorem bI.ok.mono{h h':HF}{x:bI}{r:ss}(a:bI.ok h x r)(hl:h.le h'):bI.ok h' x r:=⟨a.Register.mono hl,a.aP.mono hl⟩
def bI.rp:Rp bI:=⟨50,λh cs x=>∃r,cs=bI.cells x r/\bI.ok h x r⟩
theorem bI.aK:bI.rp.Mono:=λ_ _ _ _ hl⟨r,e,o⟩=>⟨r,e,o.mono hl⟩
theorem bI.eF:bI.rp.Good:=⟨bI.aK,λ_ _ _⟨_,e,_⟩=>by cases e;rfl,by decide⟩
end
variable {A L':LH}{E:TypeId}{as ass:Array Operand}{ats:Array TypeId}{c:Code}{cap zs:List Go.Value}{f:FuncId}{fv:Go.Value}{id sz:Nat}{o:Obj}{parts:Array (Nat×Operand)}{pe:Int->Go.Value}{q:Addr}{w:World}{ι ρ σ:Type}
section
section
variable {P:Program} {b:Frame} {n:Nat} {k:List Item} {F:List Frame->(Machine->Prop)->Prop} {e:Env} {ds:List Deferred} {X:Cx} {h:HF} {L:LH}
theorem Vf(L':LH)(sl:List (Nat×Value))(hk:∀e',TT P b n k F (upds e' sl) ds X h L')(t':(∀e',fy e' sl->TT P b n k F e' ds X h L')->TT P b n (.code c::k) F e ds X h L):TT P b n (.code c::k) F e ds X h L:=
 t' λe' hr=>by have:=hk e';rw[hr.upds]at this;exact this
theorem uC(hs:L.Perm L')(t:TO P b n ops l k F e ds X h L'):TO P b n ops l k F e ds X h L:=λw hw=>t w (hw.perm hs)
theorem kX(hs:L=L')(t:TO P b n ops l k F e ds X h L'):TO P b n ops l k F e ds X h L:=hs▸t
theorem BY(A G M:LH):(A++(M++G)).Perm (A++(G++M)):=List.Perm.append_left A jF
theorem yS(sl:ι->List (Nat×Value))(dd:ι->List Deferred)(hh:ι->HF)(LL:ι->LH)(I:ι->Prop)(hk:∀i,I i->∀e',TT P b n k F (upds e' (sl i)) (dd i) X (hh i) (LL i))(hb:(∀i e',I i->fy e' (sl i)->TT P b n k F e' (dd i) X (hh i) (LL i))->TT P b n (.code c::.inBlock id::k) F e ds X h L):TT P b n (.code (.block id c)::k) F e ds X h L:=by grind [nf,NK]
end
section runs
variable {P:Program} {e:Env} {X:Cx} {h:HF} {L:LH} {d:Option Nat} {ty:TypeId} {pos:String} {af:Array Edge} {g:Option (Nat×Bool)}
theorem TS{t:TypeId}{len:Nat}{p:Addr}{i:Int}(hT:P.underlying t=some (.array len E))(hS:tySz P E=some (sz,a))(hx:e.ev x=.pointer (some p))(hix:e.ev ix=.int .i64 i)(hi:0<=i/\i<(len:Int)):
  ∀w,St X h L w->(execOp e.ev ⟨d,.indexAddr t x ix,ty,pos,af,g⟩).run P w=.ok (.value (.pointer (some (p.add (i.toNat*sz))))) w:=
 λw _=>by simp[execOp,Instr.indexAt,Instr.sureAddr,hix,hx,asIntOf,run_underlying hT,eW hS,hi.1,hi.2]
theorem Hf{c:Operand}{s:Bool}(hc:e.ev c=.bool s)(hv:(bif s then e.ev x else e.ev y)=v):∀w,St X h L w->(execOp e.ev ⟨d,.pick c x y,ty,pos,af,g⟩).run P w=.ok (.value v) w:=
 hv▸PV hc
end runs
section stepsM
variable {P:Program} {b:Frame} {n:Nat} {ops:Array Oper} {F:List Frame->(Machine->Prop)->Prop} {e:Env} {ds:List Deferred} {X:Cx} {h:HF} {L:LH} {K:Env->HF->LH->Prop}
variable {ty:TypeId} {pos:String} {af:Array Edge} {g:Option (Nat×Bool)} {κ α : Type} {enc:κ->Value} {V:HF->Value->α->Prop} [DecidableEq κ]
theorem vw(i:Nat){t T:TypeId}{mo ko xo:Operand}{m:List (κ×α)}{k:κ}{x:α}(hT:P.underlying t=some (.map T E))(hK:zI P T enc)(hL:nth L i=some (bk,o))(hm:ki enc V h o m)(hmo:e.ev mo=.map (some bk))(hko:e.ev ko=enc k)(hx:V h (e.ev xo) x)(t':∀o',ki enc V h o' (mput m k x)->K e h (setNth L i (bk,o')))(hg:guardB ops e ⟨none,.insert t mo ko xo,ty,pos,af,g⟩=true:=by rfl):Stp P b n ops F ds X ⟨none,.insert t mo ko xo,ty,pos,af,g⟩ e h L K:=by
 unfold Stp
 rw[if_pos hg]
 intro w hw
 have hb:w.heap[bk]? = some o:=by
  have h2:=hL
  rw[hZ]at h2
  exact hw.own _ (xD h2)
 obtain⟨o',hr,hm'⟩:=CH (k:=k) hT hK hb hm hx
 have:(execOp e.ev ⟨none,.insert t mo ko xo,ty,pos,af,g⟩).run P w=.ok .skip { w with heap:=w.heap.setIfInBounds bk o' }:=by
  simp[execOp,hmo,hko,hr]
 rw[this]
 exact⟨h,_,hw.write hL _,t' o' hm'⟩
end stepsM
section stepsA
variable {P:Program} {b:Frame} {n:Nat} {ops:Array Oper} {F:List Frame->(Machine->Prop)->Prop} {e:Env} {ds:List Deferred} {X:Cx} {h:HF} {L:LH} {K:Env->HF->LH->Prop}
variable {d:Option Nat} {ty:TypeId} {pos:String} {af:Array Edge} {g:Option (Nat×Bool)}
theorem vu(i:Nat){t:TypeId}{T:Nat}(hT:tySz P t=some (m,a))(hx:e.ev x=.pointer (some ⟨bk,0,none⟩))(hL:nth L i=some (bk,.cells cl.toArray T (0,0)))(hv:e.ev y=.agg vs.toArray)(hm:vs.length=m)(hc:cl.length=m)(h1:vs.all one=true)(t':K e h (setNth L i (bk,.cells vs.toArray T (0,0))))(hg:guardB ops e ⟨none,.store t x y,ty,pos,af,g⟩=true:=by rfl):Stp P b n ops F ds X ⟨none,.store t x y,ty,pos,af,g⟩ e h L K:=by
 refine lE i hT hx hL (vs:=vs) (by rw[hv];simp[vcells]) hm (by rw[Nat.zero_add,hm,hc];simp) h1 ?_ hg
 grind [HT]
theorem TL{t:TypeId}{len:Nat}{cells:List Value}(hT:P.underlying t=some (.array len E))(hS:tySz P E=some (sz,a))(hz:zeroC P t=some zs)(hc:ZL (λi=>some (i*sz,sz)) zs.toArray (parts.toList.map λp=>(p.1,e.ev p.2))=some cells.toArray)(t':K (pute e d (.agg cells.toArray)) h L)(hg:guardB ops e ⟨d,.build t parts,ty,pos,af,g⟩=true:=by rfl):Stp P b n ops F ds X ⟨d,.build t parts,ty,pos,af,g⟩ e h L K:=
 gZ hg λw hw=>by
  obtain⟨z,h1,h2⟩:=u9 hz w
  have hparts:(parts.map λx=>(x.1,e.ev x.2)).toList=parts.toList.map λp=>(p.1,e.ev p.2):=by simp
  refine⟨_,_,h,_,?_,hw,t'⟩
  simp only[execOp,Instr.build,kL,h1,h2,vK,run_underlying hT,eW hS,Y2,hparts]
  rw[hc]
  simp
theorem FM{α : Type}:∀(l:List α)(i:Nat)(x y:α),nth l i=some x->(setNth l i y).Perm (y::dropNth l i)
 |[],_,_,_,h=>by simp[nth]at h
 |z::l,0,x,y,h=>List.Perm.refl _
 |z::l,i+1,x,y,h=>(List.Perm.cons z (FM l i x y h)).trans (List.Perm.swap y z _)
theorem TK(i:Nat){t:Nat}{o':Obj}(hL:nth L i=some (bk,o))(hs:ny P fv vs.toArray h [(bk,o)] (λx h' B=>x=.returned (.tuple #[])/\h'=h/\B=[(bk,o')]))(hf:e t=fv)(hvs:as.toList.map e.ev=vs)(t':K (pute e d (.tuple #[])) h (setNth L i (bk,o')))(hg:guardB ops e ⟨d,.call ⟨.value (.tmp t),as,ats⟩,ty,pos,af,g⟩=true:=by rfl):Stp P b n ops F ds X ⟨d,.call ⟨.value (.tmp t),as,ats⟩,ty,pos,af,g⟩ e h L K:=by
 unfold Stp
 rw[if_pos hg]
 intro w hw
 have hw':=hw.perm (ou L i _ hL)
 have harr:as.map e.ev=vs.toArray:=zR (by simp[←hvs])
 obtain⟨nx,hrun,hcall⟩:=hs w (Pre.left (A:=[(bk,o)]) hw'.pre)
 have hr:(execOp e.ev ⟨d,.call ⟨.value (.tmp t),as,ats⟩,ty,pos,af,g⟩).run P w=.ok nx w:=by
  grind [execOp,resolve,Zy]
 rw[hr]
 refine mn (pb hcall) (hcall.mono ?_)
 rintro x w' ⟨h',B,hst,rfl,rfl,rfl⟩
 exact⟨h',_,(Y8 (A:=[(bk,o)]) (F:=dropNth L i) hw' hst).perm (FM L i _ _ hL).symm,t'⟩
theorem HY{t:Nat}{φ:Value->HF->Prop}(hs:Wp P fv vs h φ)(hf:e t=fv)(hvs:ass.toList.map e.ev=vs)(t':∀v h',h.le h'->φ v h'->K (pute e d v) h' L)(hg:guardB ops e ⟨d,.call ⟨.value (.tmp t),ass,ats⟩,ty,pos,af,g⟩=true:=by rfl):
  Stp P b n ops F ds X ⟨d,.call ⟨.value (.tmp t),ass,ats⟩,ty,pos,af,g⟩ e h L K:=by
 refine DM L [] (List.append_nil L).symm hs hf hvs ?_ ?_ hg
 all_goals grind
end stepsA
theorem W8{h:HF}{cs:List Value}(ha:At h q cs){i:Int}(hi:0<=i/\i<(cs.length:Int)):At h (q.add (i.toNat*1)) [cs.getD i.toNat .nilFunc]:=by
 obtain⟨cl,T,fz,hb,hs,hc⟩:=ha
 have hlt:i.toNat<cs.length:=by omega
 have h1:i.toNat*1=i.toNat:=Nat.mul_one _
 obtain⟨g,off,sp⟩:=q
 simp only at hs
 subst hs
 have hq:(⟨g,off,none⟩:Addr).add (i.toNat*1)=⟨g,off+i.toNat,none⟩:=by
  rw[h1]
  by_cases e0:i.toNat=0
  .simp[xP,e0]
  .simp[xP,e0]
 rw[hq]
 refine⟨cl,T,fz,hb,rfl,λj v hj=>?_⟩
 grind
theorem nI{args:List Value}{h:HF}{R:Ending->HF->LH->Prop}(hc:∀args w,(callFunc f args).run P w=.ok (.enter f args) w)(hs:oX P f (args++cap).toArray h A R):
  ny P (.func (.func f) #[] cap.toArray) args.toArray h A R:=by
 intro w hp
 refine⟨.enter f (args++cap).toArray,?_,j8 (hs w hp)⟩
 simp[xH,invoke,hc]
def exW{ρ : Type}(pe:Int->Value)(f:ρ->Value):Except Int ρ->Except Value Value
 |.ok r=>.ok (f r)
 |.error e=>.error (pe e)
theorem wm{f:ρ->Value}{x:Except Int ρ}{u:Value}(h:exW pe f x=.ok u):∃r,x=.ok r/\f r=u:=by
 cases x with
 |ok r=>exact⟨r,rfl,by simpa[exW]using h⟩
 |error p=>simp[exW]at h
theorem se{f:ρ->Value}{x:Except Int ρ}{p:Value}(h:exW pe f x=.error p):∃e,x=.error e/\pe e=p:=by
 cases x with
 |ok r=>simp[exW]at h
 |error q=>exact⟨q,rfl,by simpa[exW]using h⟩
def exi{ρ σ : Type}:Except Int ρ->(ρ->Except Int σ)->Except Int σ
 |.ok r,k=>k r
 |.error p,_=>.error p
theorem Dk{x:Except Int ρ}{k:ρ->Except Int σ}{r:ρ}(h:x=.ok r):exi x k=k r:=by subst h;rfl
theorem uU{x:Except Int ρ}{k:ρ->Except Int σ}{p:Int}(h:x=.error p):exi x k=.error p:=by subst h;rfl
theorem jW{args:Array Value}{R:Ending->World->Prop}(h:Calls P f args w R)(hno:∀w',¬R .outgrown w'):sK P f args w R:=by
 intro c cs Φ h1 h2
 obtain⟨e,w',fr,hR,hc,hfn,hl⟩:=h (c::cs)
 cases e with
 |returned v=>
  obtain⟨m',s',p'⟩:=h1 v w' hR
  exact⟨m',(show Steps P _ _ from hc).trans (.head (step_leave_returned hl) s'),p'⟩
 |panicked ch=>
  obtain⟨m',s',p'⟩:=h2 ch w' hR
  exact⟨m',(show Steps P _ _ from hc).trans (.head (step_leave_panicked hl) s'),p'⟩
 |outgrown=>exact(hno _ hR).elim
end
section
def smP(p:ay):Prop:=p.cZ.length<=2000000/\(∀r∈p.cZ,r.ao.dep<=1500000)/\p.aS.dep<=1500000/\p.aB.length<=2000000/\p.dM.length<=2000000
def smV(l:List aD):Prop:=l.length<=2000000/\∀v∈l,smP v.ay
def smR(r:Register):Prop:=smV r.Versions/\r.da.length<=2000000/\r.eI.length<=2000000/\r.dt.length<=2000000/\r.df.length<=2000000/\r.bV.length<=2000000/\r.bO.length<=2000000
theorem smP.rules{p:ay}(h:smP p):p.cZ.length<=2000000:=h.1
theorem smP.change{p:ay}(h:smP p):p.aS.dep<=1500000:=h.2.2.1
theorem smV.len{l:List aD}(h:smV l):l.length<=2000000:=h.1
theorem smR.vers{r:Register}(h:smR r):smV r.Versions:=h.1
inductive OkX(n:Int):ao->Prop
 |mk (x:ao) (hk:1<=x.Kind/\x.Kind<=4) (hn:x.Kind<=2->0<=x.No/\x.No<n) (hl:x.Kind=4->x.L.length=2) (hs:∀y∈x.L,OkX n y):OkX n x
theorem OkX.kind{n:Int}{x:ao}(h:OkX n x):1<=x.Kind/\x.Kind<=4:=by cases h with|mk _ a=>exact a
theorem OkX.no{n:Int}{x:ao}(h:OkX n x):x.Kind<=2->0<=x.No/\x.No<n:=by cases h with|mk _ _ a=>exact a
theorem OkX.two{n:Int}{x:ao}(h:OkX n x):x.Kind=4->x.L.length=2:=by cases h with|mk _ _ _ a=>exact a
theorem OkX.sub{n:Int}{x:ao}(h:OkX n x):∀y∈x.L,OkX n y:=by cases h with|mk _ _ _ _ a=>exact a
def stopV(e:Int):Value:=.iface 375 (.agg (tX.cells ⟨e⟩).toArray)
def errV(e:Int):Value:=.iface 37 (.int .i64 e)
def kindsC:List Value:=[.func (.func 442) #[] #[],.func (.func 443) #[] #[],.func (.func 444) #[] #[],.func (.func 445) #[] #[],.func (.func 446) #[] #[]]
def kfun(i:Int):Value:=kindsC.getD i.toNat .nilFunc
def dM(h:HF):Prop:=∃T fz,h 0=some (.cells kindsC.toArray T fz)
theorem dM.mono{h h':HF}(k:dM h)(hl:h.le h'):dM h':=let ⟨T,fz,e⟩:=k;⟨T,fz,hl _ _ e⟩
theorem dM.at{h:HF}(k:dM h){i:Int}(hi:0<=i/\i<5):At h ((⟨0,0,none⟩:Addr).add (i.toNat*1)) [kfun i]:=by
 obtain⟨T,fz,e⟩:=k
 rw[oJ]
 refine At.IG e (λj v hj=>?_)
 have hj0:j=0:=by
  grind
 subst hj0
 simp at hj
 subst hj
 have:i=0\/i=1\/i=2\/i=3\/i=4:=by omega
 rcases this with rfl|rfl|rfl|rfl|rfl<;>rfl
def VFn(_:HF)(v:Value)(x:Value):Prop:=v=x
theorem VFn.mono:Ac VFn:=λ_ _ _ _ _ e=>e
theorem rP{κ α : Type}[DecidableEq κ]:∀(m:List (κ×α))(k:κ)(v:α),(mput m k v).length<=m.length+1
 |[],_,_=>by simp[mput]
 |(k',v')::r,k,v=>by
  have:=rP r k v
  simp only[mput]
  split<;>simp<;>omega
theorem Q0{s:ByteArray}(h:(s.toList==(⟨#[]⟩:ByteArray).toList)=false):0<s.size:=by
 rcases Nat.eq_zero_or_pos s.size with h0|h0
 .exfalso
  have:s=⟨#[]⟩:=by
   cases s with
   |mk d=>
    have:d=#[]:=Array.eq_empty_of_size_eq_zero h0
    rw[this]
  rw[this]at h;simp at h
 .exact h0
abbrev uk:=e8
abbrev XJ:=sW
abbrev uk.cells(x:e8)(r:sW):List Go.Value:=e8.cells x r
structure uk.ok(h:HF)(x:e8)(r:sW):Prop where
 signed:SlC vB h r.bK r.bJ x.signed
theorem uk.ok.mono{h h':HF}{x:e8}{r:sW}(a:uk.ok h x r)(hl:h.le h'):uk.ok h' x r:=⟨a.signed.mono kM hl⟩
end
variable {Fr:LH}{fn gn:Func}{pv:Go.Value}
section
def deferFrame(f:FuncId):Frame:={ fn:=f,tmps:=#[],todo:=[],defers:=[],mode:=.run,kind:=.deferred,roundOf:=none }
section
variable {P:Program} {f:FuncId} {n:Nat} {k:List Item} {e:Env} {X:Cx} {h:HF} {L:LH} {ops:Array Oper} {l:List Oper} {d:Nat} {ty:TypeId} {pos:String} {af:Array Edge} {g:Option (Nat×Bool)} {ats:Array TypeId}
theorem HN{F F':List Frame->(Machine->Prop)->Prop}(v:Value)(hF:∀cs Φ,F cs Φ->∃cs',recoverD cs=some (v,cs')/\F' cs' Φ)(t:TO P (deferFrame f) n ops l k F' (upd e d v) ds X h L)(hd:Nat.blt d n=true:=by rfl)(hg:guardB ops e ⟨some d,.call ⟨.builtin .recover,#[],ats⟩,ty,pos,af,g⟩=true:=by rfl):
  TO P (deferFrame f) n ops (⟨some d,.call ⟨.builtin .recover,#[],ats⟩,ty,pos,af,g⟩::l) k F e ds X h L:=by
 intro w hw is hi a cs Φ hn he hds hF0
 obtain⟨i,js,rfl,ho,hj⟩:=rS hi
 obtain⟨cs',hrec,hF1⟩:=hF cs Φ hF0
 have hwt:=(fY (ops:=ops) he).trans hg
 have hst:=stepGR_op (P:=P) (b:=deferFrame f) (k:=k) (cs:=cs) (w:=w) (rest:=js) ho hwt
 have hr:(execOp a.eval ⟨some d,.call ⟨.builtin .recover,#[],ats⟩,ty,pos,af,g⟩).run P w=.ok .recover w:=by
  simp[execOp,resolve,invoke,builtin]
 have htr:tryRecover ((deferFrame f).atR a (.inRegion ops (i::js)::k)) cs=some (v,cs'):=by
  rw[tryRecover_deferred (by rfl) cs,hrec]
 have hput:envOf (a.put (some d) v)=upd e d v:=by rw[rq a d v (by rw[hn];exact qY hd),he]
 refine .step (m₁:=lone ((deferFrame f).atR (a.put (some d) v) (.inRegion ops js::k)) cs' w) ?_ (t w hw js hj (a.put (some d) v) cs' Φ (by rw[pY];exact hn) hput (by rw[nu];exact hds) hF1)
 refine step_lone_go ?_
 rw[hst,lg _ _ rfl,←iw a js k ho v]
 simp[stepG.apply,hr,htr]
 rfl
theorem FK{F:List Frame->(Machine->Prop)->Prop}(hF:∀cs Φ,F cs Φ->recoverD cs=none)(t:TO P (deferFrame f) n ops l k F (upd e d .nilIface) ds X h L)(hd:Nat.blt d n=true:=by rfl)(hg:guardB ops e ⟨some d,.call ⟨.builtin .recover,#[],ats⟩,ty,pos,af,g⟩=true:=by rfl):
  TO P (deferFrame f) n ops (⟨some d,.call ⟨.builtin .recover,#[],ats⟩,ty,pos,af,g⟩::l) k F e ds X h L:=by
 intro w hw is hi a cs Φ hn he hds hF0
 obtain⟨i,js,rfl,ho,hj⟩:=rS hi
 have hrec:=hF cs Φ hF0
 have hwt:=(fY (ops:=ops) he).trans hg
 have hst:=stepGR_op (P:=P) (b:=deferFrame f) (k:=k) (cs:=cs) (w:=w) (rest:=js) ho hwt
 have hr:(execOp a.eval ⟨some d,.call ⟨.builtin .recover,#[],ats⟩,ty,pos,af,g⟩).run P w=.ok .recover w:=by
  simp[execOp,resolve,invoke,builtin]
 have htr:tryRecover ((deferFrame f).atR a (.inRegion ops (i::js)::k)) cs=none:=by
  rw[tryRecover_deferred (by rfl) cs,hrec]
 have hput:envOf (a.put (some d) .nilIface)=upd e d .nilIface:=by rw[rq a d _ (by rw[hn];exact qY hd),he]
 refine .step (m₁:=lone ((deferFrame f).atR (a.put (some d) .nilIface) (.inRegion ops js::k)) cs w) ?_ (t w hw js hj (a.put (some d) .nilIface) cs Φ (by rw[pY];exact hn) hput (by rw[nu];exact hds) hF0)
 refine step_lone_go ?_
 rw[hst,lg _ _ rfl,←iw a js k ho .nilIface]
 simp[stepG.apply,hr,htr]
 rfl
def J8(P:Program)(X:Cx)(u':FrameMode)(R:HF->LH->Prop)(cs:List Frame)(Φ : Machine->Prop):Prop:=
 ∃c rest,cs=c::rest/\c.mode=u'/\∀w',(∃h' B,St X h' B w'/\R h' B)->To P Φ (lone { c with mode:=settle u' } rest w')
theorem Mg{u':FrameMode}{R:HF->LH->Prop}(hf:P.funcs[f]? = some fn)(hr:fn.results=#[])(hR:R h L):TT P (deferFrame f) n [] (J8 P X u' R) e [] X h L:=by
 intro w hw a cs Φ hn he hds hF
 obtain⟨c,rest,rfl,hm,h1⟩:=hF
 refine .step (stepR_end rfl) ?_
 have hgo:Frame.going P { (deferFrame f).atR a []with mode:=.returning } w (.returned (.tuple #[])):=⟨rfl,hds,fn,hf,nJ hr a w⟩
 refine .step (step_going_returned (c:=c) (cs:=rest) rfl hgo) ?_
 rw[hm]
 exact h1 w ⟨h,L,hw,hR⟩
end
section
variable {P:Program} {b:Frame} {n:Nat} {k:List Item} {F:List Frame->(Machine->Prop)->Prop} {e:Env} {ds:List Deferred} {X:Cx} {h:HF} {L:LH} {ops:Array Oper} {l:List Oper} {ty:TypeId} {pos:String} {af:Array Edge} {g:Option (Nat×Bool)}
theorem Ts{t:Nat}{fv:Fn}{cap:Array Value}(hro:b.roundOf=none)(hf:e t=.func fv #[] cap)(t':TO P b n ops l k F e ({ target:=.fn fv cap,args:=#[] }::ds) X h L)(hg:guardB ops e ⟨none,.defer ⟨.value (.tmp t),#[],ats⟩,ty,pos,af,g⟩=true:=by rfl):TO P b n ops (⟨none,.defer ⟨.value (.tmp t),#[],ats⟩,ty,pos,af,g⟩::l) k F e ds X h L:=by
 intro w hw is hi a cs Φ hn he hds hF
 obtain⟨i,js,rfl,ho,hj⟩:=rS hi
 have hwt:=(fY (ops:=ops) he).trans hg
 have hst:=stepGR_op (P:=P) (b:=b) (k:=k) (cs:=cs) (w:=w) (rest:=js) ho hwt
 have hr:(execOp a.eval ⟨none,.defer ⟨.value (.tmp t),#[],ats⟩,ty,pos,af,g⟩).run P w=.ok (.defer { target:=.fn fv cap,args:=#[] }) w:=by
  have hev:a.eval (.tmp t)=.func fv #[] cap:=by rw[lk,he];exact hf
  simp[execOp,resolve,hev,xH]
 have hs:Oper.semAt b.roundOf a.eval ⟨none,.defer ⟨.value (.tmp t),#[],ats⟩,ty,pos,af,g⟩=execOp a.eval ⟨none,.defer ⟨.value (.tmp t),#[],ats⟩,ty,pos,af,g⟩:=by rw[hro];rfl
 refine .step (m₁:=lone (b.atR { a with defers:={ target:=.fn fv cap,args:=#[] }::a.defers } (.inRegion ops js::k)) cs w) ?_ (t' w hw js hj { a with defers:={ target:=.fn fv cap,args:=#[] }::a.defers } cs Φ hn he (by rw[hds]) hF)
 refine step_lone_go ?_
 have hfin:=iw (b:=b) { a with defers:={ target:=.fn fv cap,args:=#[] }::a.defers } js k ho undef
 rw[hst,hs]
 simp only[stepG.apply,Sem.runT_eq,hr,GStep.bare_after]
 exact congrArg (λfr=>GStep.go { frame:=fr,callers:=cs,status:=.running,dying:=none } w) hfin
end
theorem Ve{g:FuncId}{h:HF}{L:LH}{R:Ending->HF->LH->Prop}{R':HF->LH->Prop}(hf:P.funcs[f]? = some fn)(hg:P.funcs[g]? = some gn)(hb:gn.body=some c)(hm:gn.ntmps=m)(dN:Zt cap.length m=true)(hc:∀args w,(callFunc g args).run P w=.ok (.enter g args) w)(t:∀X':Cx,X'.h0=h->TT P (deferFrame g) m [.code c] (J8 P X' .returning R') (envArgs cap) [] X' h A)(hL:L=A++Fr)(fin:∀h' B,h.le h'->R' h' B->∀a:Act,envOf a=e->∀w,St X h' (B++Fr) w->∃v h2 B2,(results fn a.tmps).run P w=.ok v w/\St X h2 B2 w/\R (.returned v) h2 B2):
  TT P (bodyFrame f) n (.code .ret::k) (kU P X R) e [{ target:=.fn (.func g) cap.toArray,args:=#[] }] X h L:=by
 intro w hw a cs Φ hn he hds hF
 obtain⟨cc,cs',rfl,h1,_⟩:=hF
 subst hL
 refine .step (stepR_ret rfl) ?_
 have hinv:(invoke (.fn (.func g) cap.toArray) #[]).run P w=.ok (.enter g cap.toArray) w:=by simp[invoke,hc]
 refine .step (step_defer (fr:={ (bodyFrame f).atR a (.code .ret::k)with mode:=.returning }) (by simp) hds rfl hinv) ?_
 have hle':=jN dN
 have henter:qS P g cap.toArray .deferred=(deferFrame g).atR { tmps:=cap.toArray++YK (m-cap.length) undef,defers:=[] } [.code c]:=by
  grind [qS,Y5,deferFrame]
 rw[henter]
 refine t ⟨w,h,A.map (·.1)⟩ rfl w (Y7 hw.pre.left) _ _ Φ (by simp;omega) (qU _ _) rfl ⟨_,cc::cs',rfl,rfl,?_⟩
 rintro w' ⟨h',B,hst,hR'⟩
 obtain⟨v,h2,B2,hv,hs2,hR⟩:=fin h' B hst.le hR' a he w' (hw.after hst)
 refine .step (iP (fn:=fn) (v:=v) rfl rfl rfl hf hv) ?_
 exact h1 v w' ⟨h2,B2,hs2,hR⟩
theorem Vh{g:FuncId}{h:HF}{L:LH}{R:Ending->HF->LH->Prop}{R':HF->LH->Prop}(hf:P.funcs[f]? = some fn)(hg:P.funcs[g]? = some gn)(hb:gn.body=some c)(hm:gn.ntmps=m)(dN:Zt cap.length m=true)(hc:∀args w,(callFunc g args).run P w=.ok (.enter g args) w)(t:∀X':Cx,X'.h0=h->TT P (deferFrame g) m [.code c] (λcs Φ=>∃c rest,cs=c::rest/\c.mode=.panicking [{ v:=pv,recovered:=false }]/\J8 P X' (.panicking [{ v:=pv,recovered:=true }]) R' ({ c with mode:=.panicking [{ v:=pv,recovered:=true }] }::rest) Φ) (envArgs cap) [] X' h A)(hL:L=A++Fr)(fin:∀h' B,h.le h'->R' h' B->∀a:Act,envOf a=e->∀w,St X h' (B++Fr) w->∃v h2 B2,(results fn a.tmps).run P w=.ok v w/\St X h2 B2 w/\R (.returned v) h2 B2):
  TP P (bodyFrame f) n [{ v:=pv,recovered:=false }] (kU P X R) e [{ target:=.fn (.func g) cap.toArray,args:=#[] }] X h L:=by
 intro w hw a cs Φ todo hn he hds hF
 obtain⟨cc,cs',rfl,h1,_⟩:=hF
 subst hL
 have hinv:(invoke (.fn (.func g) cap.toArray) #[]).run P w=.ok (.enter g cap.toArray) w:=by simp[invoke,hc]
 refine .step (step_defer (fr:={ (bodyFrame f).atR a todo with mode:=.panicking [{ v:=pv,recovered:=false }] }) (by simp) hds rfl hinv) ?_
 have hle':=jN dN
 have henter:qS P g cap.toArray .deferred=(deferFrame g).atR { tmps:=cap.toArray++YK (m-cap.length) undef,defers:=[] } [.code c]:=by
  grind [qS,Y5,deferFrame]
 rw[henter]
 refine t ⟨w,h,A.map (·.1)⟩ rfl w (Y7 hw.pre.left) _ _ Φ (by simp;omega) (qU _ _) rfl ⟨_,cc::cs',rfl,rfl,_,cc::cs',rfl,rfl,?_⟩
 rintro w' ⟨h',B,hst,hR'⟩
 obtain⟨v,h2,B2,hv,hs2,hR⟩:=fin h' B hst.le hR' a he w' (hw.after hst)
 refine .step (iP (fn:=fn) (v:=v) rfl rfl rfl hf hv) ?_
 exact h1 v w' ⟨h2,B2,hs2,hR⟩
end
variable {assign body:Code}{clock:Nat}{es:Array MapEntry}{g:Operand}{it:Go.Value}{ps:List Tmp}{seen:Array Nat}{α:Type}
section
section steps
variable {P:Program} {b:Frame} {n:Nat} {ops:Array Oper} {F:List Frame->(Machine->Prop)->Prop} {e:Env} {ds:List Deferred} {X:Cx} {h:HF} {L:LH} {K:Env->HF->LH->Prop}
variable {d:Option Nat} {ty:TypeId} {pos:String} {af:Array Edge} {g:Option (Nat×Bool)}
theorem Mq{t T:TypeId}(hT:P.underlying t=some (.map T E))(hb:h bk=some (.map es clock))(hx:e.ev x=.map (some bk))(t':∀it,K (pute e d (.pointer (some ⟨it,0,none⟩))) h ((it,.mapIter (some bk) clock #[] clock)::L))(hg:guardB ops e ⟨d,.range t x,ty,pos,af,g⟩=true:=by rfl):Stp P b n ops F ds X ⟨d,.range t x,ty,pos,af,g⟩ e h L K:=
 gZ hg λw hw=>⟨_,_,h,_,by simp[execOp,Instr.range,hx,run_underlying hT,tr (hw.imm _ _ hb)],hw.alloc _,t' _⟩
theorem PM(i:Nat){it since c0:Nat}(hL:nth L i=some (it,.mapIter (some bk) since seen c0))(hb:h bk=some (.map es clock))(hold:∀x∈es.toList,x.born<since)(hsc:since<=c0)(hx:e.ev x=.pointer (some ⟨it,0,none⟩))(no:(leftOf es seen).size=0->K (pute e d (.tuple #[.bool false])) h L)(yes:∀en∈(leftOf es seen).toList,K (pute e d (.tuple #[.bool true,en.key,en.val])) h (setNth L i (it,.mapIter (some bk) since (seen.push en.born) clock)))(hg:guardB ops e ⟨d,.next x false,ty,pos,af,g⟩=true:=by rfl):Stp P b n ops F ds X ⟨d,.next x false,ty,pos,af,g⟩ e h L K:=by
 refine gZ hg λw hw=>?_
 have hit:w.heap[it]? = some (.mapIter (some bk) since seen c0):=by
  have h2:=hL
  rw[hZ]at h2
  exact hw.own _ (xD h2)
 rcases run_next_at (P:=P) w ty it bk since c0 seen es clock hit (hw.imm _ _ hb) hold hsc with⟨h0,hr⟩|⟨en,hen,w1,hw1,hr⟩
 .exact⟨_,w,h,L,by simp[execOp,hx,hr],hw,no h0⟩
 .have hw1':St X h L w1:=by
   rcases hw1 with rfl|rfl
   .exact hw
   .exact hw.drew _
  exact⟨.tuple #[.bool true,en.key,en.val],{ w1 with heap:=w1.heap.setIfInBounds it (.mapIter (some bk) since (seen.push en.born) clock) },h,_,by simp[execOp,hx,hr];rfl,hw1'.write hL _,yes en hen⟩
theorem ME(i:Nat){it since:Nat}{en:MapEntry}(hL:nth L i=some (it,.mapIter (some bk) since (seen.push en.born) clock))(hb:h bk=some (.map es clock))(he:en∈es.toList)(hn:(es.toList.map (·.born)).Nodup)(hx:e.ev x=.pointer (some ⟨it,0,none⟩)):
  ∀w,St X h L w->(execOp e.ev ⟨d,.entry x,ty,pos,af,g⟩).run P w=.ok (.value (.tuple #[en.key,en.val])) w:=λw hw=>by
 have hit:w.heap[it]? = some (.mapIter (some bk) since (seen.push en.born) clock):=by
  have h2:=hL
  rw[hZ]at h2
  exact hw.own _ (xD h2)
 have:=run_entry_at (P:=P) w it bk since seen es clock en hit (hw.imm _ _ hb) he hn
 simp[execOp,hx,this]
end steps
def J7{α : Type}(P:Program)(it:Value)(val:α->HF->List Value->Prop)(S:List α->Prop)(h:HF):Prop:=
 ∃(f0:FuncId)(cap:List Value),it=.func (.func f0) #[] cap.toArray/\(∀args w,(callFunc f0 args).run P w=.ok (.enter f0 args) w) /\
  ∀(yf:Fn)(ya yb:Array Value)(C:List α->HF->LH->Prop)(Sp:HF->LH->Prop)(Pn:List PanicEntry->HF->LH->Prop)(h':HF)(A:LH),h.le h' ->
   (∀done h1 h2 B,jL h1 h2->C done h1 B->C done h2 B)->(∀h1 h2 B,jL h1 h2->Sp h1 B->Sp h2 B)->(∀ch h1 h2 B,jL h1 h2->Pn ch h1 B->Pn ch h2 B)->C [] h' A ->
   (∀done x vs h'' B,(∃rest,S (done++x::rest))->h'.le h''->C done h'' B->val x h'' vs->ny P (.func yf ya yb) vs.toArray h'' B (YR C Sp Pn done x)) ->
   ny P it #[.func yf ya yb] h' A (λr h2 B=>(r=.returned (.tuple #[])/\((∃xs,S xs/\C xs h2 B)\/Sp h2 B))\/∃ch,r=.panicked ch/\Pn ch h2 B)
theorem KY{F:List Frame->(Machine->Prop)->Prop}{h:HF}{L:LH}{val:α->HF->List Value->Prop}{S:List α->Prop}(I:List α->HF->LH->Prop)(J:Code->HF->LH->Prop)(Pn:List PanicEntry->HF->LH->Prop)(hgv:e.ev g=it)(hit:J7 P it val S h)(hps:ps.all (λp=>qJ p n)=true)(hval:∀x h vs,val x h vs->vs.length=ps.length)(hIm:∀done h1 h2 B,jL h1 h2->I done h1 B->I done h2 B)(hJm:∀c h1 h2 B,jL h1 h2->J c h1 B->J c h2 B)(hPm:∀ch h1 h2 B,jL h1 h2->Pn ch h1 B->Pn ch h2 B)(h0:I [] h L)(round:∀l r lp done x vs h' L' X',(∃rest,S (done++x::rest))->h.le h'->I done h' L'->val x h' vs->lp.state=.ready->X'.h0=h'->(∀b∈X'.M,b<X'.w0.heap.size) ->
   TT P (roundFrame l f) n [.code assign,.beginRound,.code body] (kU P X' (RdR l r lp I J Pn done x)) (setParams e ps vs) [] X' h' ((l,.loop lp)::(r,.deferred (some []))::L'))(next:∀r xs h' L',S xs->h.le h'->I xs h' L'->TT P (bodyFrame f) n k F e ({ target:=.collected r,args:=#[] }::ds) X h' ((r,.deferred (some []))::L'))(jump:∀r c h' L',h.le h'->J c h' L'->TT P (bodyFrame f) n (.code c::k) F e ({ target:=.collected r,args:=#[] }::ds) X h' ((r,.deferred (some []))::L'))(pan:∀r ch h' L',h.le h'->Pn ch h' L'->TP P (bodyFrame f) n ch F e ({ target:=.collected r,args:=#[] }::ds) X h' ((r,.deferred (some []))::L')):
  TT P (bodyFrame f) n (.code (.rangeFunc g ps.toArray assign body)::k) F e ds X h L:=by
 obtain⟨f0,cap,rfl,hc0,hit⟩:=hit
 intro w hw a cs Φ hn he hds hF
 let r:=w.heap.size
 let w1:World:={ w with heap:=w.heap.push (.deferred (some [])) }
 have hw1:St X h ((r,.deferred (some []))::L) w1:=hw.alloc _
 let l:=w1.heap.size
 let lp:Loop:={ state:=.ready,pending:=none,fn:=f,tmps:=a.tmps,params:=ps.toArray,assign,body,defers:=r }
 let w2:World:={ w1 with heap:=w1.heap.push (.loop lp) }
 have hw2:St X h ((l,.loop lp)::(r,.deferred (some []))::L) w2:=hw1.alloc _
 have henter:(ZV (bodyFrame f).fn a.tmps ps.toArray assign body (bodyFrame f).roundOf).run P w=.ok (l,[{ target:=.collected r,args:=#[] }]) w2:=by
  simp[ZV,bodyFrame,r,l,lp,w2,w1]
 let C:List α->HF->LH->Prop:=λdone h' B=>∃L',B=(l,.loop lp)::(r,.deferred (some []))::L'/\I done h' L'
 let Sp:HF->LH->Prop:=λh' B=>∃c L',B=(l,.loop { lp with state:=.done,pending:=some c })::(r,.deferred (some []))::L'/\J c h' L'
 let Pm:List PanicEntry->HF->LH->Prop:=λch h' B=>∃lp' L',B=(l,.loop lp')::(r,.deferred (some []))::L'/\Pn ch h' L'
 have hps':∀p∈ps,p<n:=λp hp=>qY (zP.1 hps p hp)
 have hy:∀done x vs h'' B,(∃rest,S (done++x::rest))->h.le h''->C done h'' B->val x h'' vs->ny P (.func (.yield l) #[] #[]) vs.toArray h'' B (YR C Sp Pm done x):=by
  rintro done x vs h'' B hxs dN ⟨L',rfl,hI⟩ hv
  refine ny.mono (R:=RdR l r lp I J Pn done x) (AH (i:=0) (lp:=lp) rfl (by simp[lp];exact hval x h'' vs hv) ?_) ?_
  .intro X' _ hX' hXM'
   have henv:envOf { tmps:=(ps.toArray.zip vs.toArray).foldl (λtmps p=>tmps.setIfInBounds p.1 p.2) a.tmps,defers:=[] }=setParams e ps vs:=by
    have:=uF ps vs a.tmps a.defers hn hps'
    rw[←he]
    rw[←ZZ]
    simpa using this
   grind
  .rintro x' h3 B' _ (⟨e1,L2,e2,h2⟩|⟨e1,c,L2,e2,h2⟩|⟨ch,e1,lp',L2,e2,h2⟩)
   .exact .inl ⟨e1,L2,e2,h2⟩
   .exact .inr (.inl ⟨e1,c,L2,e2,h2⟩)
   .exact .inr (.inr ⟨ch,e1,lp',L2,e2,h2⟩)
 have hs:=hit (.yield l) #[] #[] C Sp Pm h ((l,.loop lp)::(r,.deferred (some []))::L) (qF h) (λ_ _ _ _ hl⟨L',e1,hi⟩=>⟨L',e1,hIm _ _ _ _ hl hi⟩) (λ_ _ _ hl⟨c,L',e1,hi⟩=>⟨c,L',e1,hJm _ _ _ _ hl hi⟩) (λ_ _ _ _ hl⟨lp',L',e1,hi⟩=>⟨lp',L',e1,hPm _ _ _ _ hl hi⟩) ⟨L,rfl,h0⟩ hy
 obtain⟨nx,hrun,hcall⟩:=hs w2 hw2.pre
 have hev:a.eval g=e.ev g:=by rw[lk,he]
 have hnx:nx=.enter f0 (Value.func (.yield l) #[] #[]::cap).toArray:=by
  grind [xH,invoke]
 subst hnx
 have hres:(resolve a.eval (rangeCall g l) 0).run P w2=.ok { target:=.fn (.func f0) cap.toArray,args:=#[.func (.yield l) #[] #[]] } w2:=by
  have hcst:∀v,a.eval (.const v)=v:=λ_=>rfl
  simp[resolve,rangeCall,hev,hgv,hcst,xH]
 have hinv:(invoke (.fn (.func f0) cap.toArray) #[.func (.yield l) #[] #[]]).run P w2=.ok (.enter f0 (Value.func (.yield l) #[] #[]::cap).toArray) w2:=by
  simp[invoke,hc0]
 have hback:∀v w3,(∃h' B,St ⟨w2,h,((l,Obj.loop lp)::(r,.deferred (some []))::L).map (·.1)⟩ h' B w3/\(λ(r:Ending)(h2:HF)(B:LH)=>(r=.returned (.tuple #[])/\((∃xs,S xs/\C xs h2 B)\/Sp h2 B))\/∃ch,r=.panicked ch/\Pm ch h2 B) (.returned v) h' B) ->
   To P Φ (lone (((bodyFrame f).atR { a with defers:=[{ target:=.collected r,args:=#[] }]++a.defers } (.inRangeFunc l::k)).finish v) cs w3):=by
  rintro v w3 ⟨h',B,hst,hR⟩
  rw[finish_atR_inRangeFunc]
  have hS3:St X h' B w3:=by
   have:=Y8 (A:=(l,.loop lp)::(r,.deferred (some []))::L) (F:=[]) (by simpa using hw2) hst
   simpa using this
  have dN:=hst.le
  rcases hR with⟨_,hCS⟩|⟨ch,hx,_⟩
  .rcases hCS with⟨xs,hxs,L',rfl,hI⟩|⟨c,L',rfl,hJ⟩
   .have hb:w3.heap[l]? = some (.loop lp):=hS3.own _ (xB ..)
    have hend:(Instr.endLoop l).run P w3=.ok none { w3 with heap:=w3.heap.setIfInBounds l (.loop { lp with state:=.exhausted }) }:=by
     simp[Instr.endLoop,Zi,getObj,setObj,Z9,hb,lp]
    refine .step (stepR_endRangeFunc hend) ?_
    have hS4:=hS3.write (i:=0) rfl (.loop { lp with state:=.exhausted })
    exact next r xs h' L' hxs dN hI _ (hS4.sub (List.sublist_cons_self ..)) { a with defers:={ target:=.collected r,args:=#[] }::a.defers } cs Φ hn he (by rw[hds]) hF
   .have hb:w3.heap[l]? = some (.loop { lp with state:=.done,pending:=some c }):=hS3.own _ (xB ..)
    have hend:(Instr.endLoop l).run P w3=.ok (some c) { w3 with heap:=w3.heap.setIfInBounds l (.loop { lp with state:=.exhausted,pending:=some c }) }:=by
     simp[Instr.endLoop,Zi,getObj,setObj,Z9,hb,lp]
    refine .step (stepR_endRangeFunc hend) ?_
    have hS4:=hS3.write (i:=0) rfl (.loop { lp with state:=.exhausted,pending:=some c })
    exact jump r c h' L' dN hJ _ (hS4.sub (List.sublist_cons_self ..)) { a with defers:={ target:=.collected r,args:=#[] }::a.defers } cs Φ hn he (by rw[hds]) hF
  .cases hx
 have hraise:∀ch w3,(∃h' B,St ⟨w2,h,((l,Obj.loop lp)::(r,.deferred (some []))::L).map (·.1)⟩ h' B w3/\(λ(r:Ending)(h2:HF)(B:LH)=>(r=.returned (.tuple #[])/\((∃xs,S xs/\C xs h2 B)\/Sp h2 B))\/∃ch,r=.panicked ch/\Pm ch h2 B) (.panicked ch) h' B) ->
   To P Φ (lone (((bodyFrame f).atR { a with defers:=[{ target:=.collected r,args:=#[] }]++a.defers } (.inRangeFunc l::k)).raise ch) cs w3):=by
  rintro ch w3 ⟨h',B,hst,hR⟩
  have hS3:St X h' B w3:=by
   have:=Y8 (A:=(l,.loop lp)::(r,.deferred (some []))::L) (F:=[]) (by simpa using hw2) hst
   simpa using this
  rcases hR with⟨hx,_⟩|⟨ch',hx,lp',L',rfl,hP⟩
  .cases hx
  .cases hx
   exact pan r ch h' L' hst.le hP w3 (hS3.sub (List.sublist_cons_self ..)) { a with defers:={ target:=.collected r,args:=#[] }::a.defers } cs Φ _ hn he (by rw[hds]) hF
 refine .step (stepR_rangeFunc henter hres hinv) ?_
 exact hcall _ cs Φ hback hraise
theorem Bg{es:List MapEntry}(hn:(es.map (·.born)).Nodup)(is:List Nat)(hlt:∀i∈is,i<es.length):
  ((leftOf es.toArray (is.map λi=>(es[i]?.map (·.born)).getD 0).toArray).size=0->∀i,i<es.length->i∈is) /\
  ∀en∈(leftOf es.toArray (is.map λi=>(es[i]?.map (·.born)).getD 0).toArray).toList,∃i,es[i]? = some en/\i∉is:=by
 have hmem:∀en,en∈(leftOf es.toArray (is.map λi=>(es[i]?.map (·.born)).getD 0).toArray).toList↔en∈es/\en.born∉is.map λi=>(es[i]?.map (·.born)).getD 0:=by
  intro en
  simp[leftOf]
 constructor
 .intro h0 i hi
  apply Classical.byContradiction
  intro hni
  have:es[i]∈(leftOf es.toArray (is.map λi=>(es[i]?.map (·.born)).getD 0).toArray).toList:=by
   rw[hmem]
   refine⟨List.getElem_mem hi,λhm=>?_⟩
   obtain⟨j,hj,hje⟩:=xJ.1 hm
   have hjl:=hlt j hj
   simp only[List.getElem?_eq_getElem hjl,Option.map_some,Option.getD_some]at hje
   have:j=i:=by
    have h1:(es.map (·.born))[j]? = (es.map (·.born))[i]?:=by simp[List.getElem?_eq_getElem hjl,List.getElem?_eq_getElem hi,hje]
    exact(List.getElem?_inj (by simpa using hjl) hn).1 h1
   exact hni (this▸hj)
  grind
 .intro en hen
  rw[hmem]at hen
  obtain⟨i,hi,rfl⟩:=List.mem_iff_getElem.1 hen.1
  grind
end
variable {xs:List α}
section
section
variable {P:Program} {b:Frame} {n:Nat} {k:List Item} {F:List Frame->(Machine->Prop)->Prop} {e:Env} {ds:List Deferred} {X:Cx} {h:HF} {L:LH}
end
theorem KZ{F:List Frame->(Machine->Prop)->Prop}{h:HF}{L:LH}{val:α->HF->List Value->Prop}(rs:List Nat)(hh:ι->HF)(LL:ι->LH)(I:List α->ι->Prop)(JR:ι->Prop)(xid:Nat)(Q:List PanicEntry->HF->LH->Prop)(i₀ : ι)(hf:P.funcs[f]? = some fn)(hgv:e.ev g=it)(hit:Itr P it val xs h)(hps:ps.all (λp=>qJ p n)=true)(hval:∀x h vs,val x h vs->vs.length=ps.length)(hQm:∀ch h1 h2 B,jL h1 h2->Q ch h1 B->Q ch h2 B)(hh0:hh i₀=h)(hL0:L=LL i₀)(h0:I xs i₀)(round:∀(l r:Nat)(lp:Loop)(x:α)(rest:List α)(vs:List Value)(i:ι)(h':HF)(X':Cx)(FR:List Frame->(Machine->Prop)->Prop),I (x::rest) i->h.le h'->(hh i).le h'->val x h' vs->X'.h0=h'->(∀b∈X'.M,b<X'.w0.heap.size)->lp.state=.ready ->
   (∀i' e' h2,I rest i'->(hh i').le h2->TT P (roundFrame l f) n [] FR e' [] X' h2 (rdH l r lp (LL i'++markB rs))) ->
   (∀i' e' h2 k',JR i'->(hh i').le h2->TT P (roundFrame l f) n (.code .ret::k') FR e' [] X' h2 (rdH l r lp (LL i'++markB rs))) ->
   (∀i' e' h2 k',I [] i'->(hh i').le h2->exitTo xid k'=none->TT P (roundFrame l f) n (.code (.exit xid)::k') FR e' [] X' h2 (rdH l r lp (LL i'++markB rs))) ->
   (∀ch e' h' L',Q ch h' L'->TP P (roundFrame l f) n ch FR e' [] X' h' (rdH l r lp (L'++markB rs))) ->
   TT P (roundFrame l f) n [.code assign,.beginRound,.code body] FR (setParams e ps vs) [] X' h' ((l,.loop lp)::(r,.deferred (some []))::(LL i++markB rs)))(next:∀r i h',I [] i->(hh i).le h'->h.le h'->TT P (bodyFrame f) n k F e (marks (r::rs)) X h' (LL i++markB (r::rs)))(jret:∀r i h',JR i->(hh i).le h'->h.le h'->TT P (bodyFrame f) n (.code .ret::.inBlock xid::k) F e (marks (r::rs)) X h' (LL i++markB (r::rs)))(pan:∀r ch h' L',Q ch h' L'->h.le h'->TP P (bodyFrame f) n ch F e (marks (r::rs)) X h' (L'++markB (r::rs))):
  TT P (bodyFrame f) n (.code (.rangeFunc g ps.toArray assign body)::.inBlock xid::k) F e (marks rs) X h (L++markB rs):=
 nF rs hh LL I JR (λi=>I [] i) xid Q i₀ hf hgv hit hps hval hQm hh0 hL0 h0 round (λr i h' a b c=>fP (next r i h' a b c)) jret
  (λr i h' a b c=>jZ (by simp[exitTo]) (next r i h' a b c)) pan
section mputs
variable {κ α : Type} [DecidableEq κ]
end mputs
end
variable {G:LH}{base:Option Addr}{ch:Operand}{dir:ChanDir}{i uy:Nat}{z:Go.Value}
section
section grow
variable {α : Type} {R:Rp α} {E:TypeId} {h:HF} {xs:List α} {base:Option Addr} {cap:Nat} {G:LH}
theorem cI.yJ(hG:cI R E h xs base cap G)(hne:0<xs.length):∃bk,base=some ⟨bk,0,none⟩:=by
 rcases hG with⟨rfl,_⟩|⟨bk,_,_,e,_⟩
 .simp at hne
 .exact⟨bk,e⟩
theorem cI.bnd(hG:cI R E h xs base cap G):xs.length<=9223372036854775807:=by
 rcases hG with⟨rfl,_⟩|⟨bk,cl,sp,_,_,_,_,h5,_⟩
 .simp
 .exact h5
theorem cI.W4(hG:cI R E h xs base cap G):xs.length<=cap:=by
 rcases hG with⟨rfl,_⟩|⟨bk,cl,sp,_,_,_,h4,_⟩
 .simp
 .exact h4
theorem dC.split:∀{xs ys:List α}{cl:List Value},dC R h cl (xs++ys)->∃a b,cl=a++b/\dC R h a xs/\dC R h b ys
 |[],ys,cl,hc=>⟨[],cl,rfl,rfl,hc⟩
 |x::xs,ys,cl,⟨cs,rest,e,hl,hr,hc⟩=>by
  obtain⟨a,b,rfl,h1,h2⟩:=dC.split hc
  exact⟨cs++a,b,by rw[e,zC],⟨cs,a,rfl,hl,hr,h1⟩,h2⟩
theorem cI.take(hG:cI R E h xs base cap G)(k:Nat):cI R E h (xs.take k) base cap G:=by
 rcases hG with⟨rfl,rfl,rfl,rfl⟩|⟨bk,cl,sp,e,hc,h3,h4,h5,rfl⟩
 .rw[List.take_nil];exact cI.nil
 .rw[←List.take_append_drop k xs]at hc
  obtain⟨a,b,rfl,h1,h2⟩:=dC.split hc
  refine .inr ⟨bk,a,b++sp,e,h1,by rw[←zC];exact h3,?_,?_,by rw[zC]⟩
  all_goals grind
end grow
section runs
variable {P:Program} {e:Env} {X:Cx} {h:HF} {L:LH} {d:Option Nat} {ty:TypeId} {pos:String} {af:Array Edge} {g:Option (Nat×Bool)}
variable {α : Type} {R:Rp α} {E:TypeId} {xs:List α} {base:Option Addr} {cap bk:Nat} {G:LH}
theorem oa{t:TypeId}{z:Int}(hT:P.underlying t=some (.slice E))(hS:tySz P E=some (R.sz,a))(hb:base=some ⟨bk,0,none⟩)(hz:0<=z/\z<(xs.length:Int))(hx:e.ev x=.slice base m cap)(hm:m=xs.length)(hix:e.ev ix=.int .i64 z):∀w,St X h L w->(execOp e.ev ⟨d,.indexAddr t x ix,ty,pos,af,g⟩).run P w=.ok (.value (.pointer (some ⟨bk,z.toNat*R.sz,none⟩))) w:=by
 subst hb hm
 have hzz:z=(z.toNat:Int):=by omega
 rw[hzz]at hix
 intro w hw
 rw[ID hT hS hx hix (by omega) w hw,oJ]
theorem FW{t:TypeId}{y:α}{h0:HF}(hT:tySz P t=some (m,false))(hG:cI R E h0 xs base cap G)(hb:base=some ⟨bk,0,none⟩)(hi:xs[i]? = some y)(hv:∀cs,R.rep h0 cs y->nth cs off=some v)(hx:e.ev x=.pointer (some ⟨bk,i*R.sz+off,none⟩))(hm:∀p∈G,p∈L):∀w,St X h L w->(execOp e.ev ⟨d,.load t x,ty,pos,af,g⟩).run P w=.ok (.value v) w:=by
 rcases hG with⟨rfl,_⟩|⟨bk',cl,sp,e1,hc,_,_,_,rfl⟩
 .simp at hi
 .rw[hb]at e1
  cases e1
  obtain⟨cs,hl,hr,hcell⟩:=hc.get i y hi
  have hv':=hv cs hr
  rw[hZ]at hv'
  have h9:=hcell off v hv'
  refine wM hT hx (hm _ (List.mem_singleton.2 rfl)) ?_
  grind [hZ]
end runs
theorem zU(a b:List α)(i:Nat)(x:α)(hi:i<a.length):setNth (a++b) i x=setNth a i x++b:=by grind [pH]
theorem EY(a b:List α)(i:Nat)(x:α):setNth (a++b) (a.length+i) x=a++setNth b i x:=by grind [pH]
theorem dC.set{α : Type}{R:Rp α}{h:HF}{off:Nat}{v:Value}{y y':α}(ho:off<R.sz)(hrep:∀cs,R.rep h cs y->R.rep h (setNth cs off v) y'):
  ∀{xs:List α}{cl:List Value}(i:Nat),dC R h cl xs->xs[i]? = some y->dC R h (setNth cl (i*R.sz+off) v) (xs.set i y')
 |x::xs,cl,0,⟨cs,rest,e,hl,hr,hc⟩,hi=>by
  simp at hi
  subst hi
  rw[e,Nat.zero_mul,Nat.zero_add,zU _ _ _ _ (by omega)]
  exact⟨setNth cs off v,rest,rfl,by rw[td];exact hl,hrep cs hr,hc⟩
 |x::xs,cl,i+1,⟨cs,rest,e,hl,hr,hc⟩,hi=>by
  have ih:=dC.set ho hrep i hc (by simpa using hi)
  rw[e,show(i+1)*R.sz+off=cs.length+(i*R.sz+off)from by rw[hl,Nat.add_mul];omega,EY]
  exact⟨cs,_,rfl,hl,hr,ih⟩
 |[],_,_,_,hi=>by simp at hi
section steps
variable {P:Program} {b:Frame} {n:Nat} {ops:Array Oper} {F:List Frame->(Machine->Prop)->Prop} {e:Env} {ds:List Deferred} {X:Cx} {h:HF} {L:LH} {K:Env->HF->LH->Prop}
variable {d:Option Nat} {ty:TypeId} {pos:String} {af:Array Edge} {g:Option (Nat×Bool)}
variable {α : Type} {R:Rp α} {E:TypeId} {xs:List α} {base:Option Addr} {cap bk:Nat}
theorem vv(A G Q:LH){t:TypeId}{u u':α}(hT:tySz P t=some (m,a))(hm:m=1)(hG:cI R E h xs base cap G)(hL:L=A++(G++Q))(hb:base=some ⟨bk,0,none⟩)(hi:xs[i]? = some u)(ho:off<R.sz)(hrep:∀cs,R.rep h cs u->R.rep h (setNth cs off v) u')(hx:e.ev x=.pointer (some ⟨bk,i*R.sz+off,none⟩))(hv:vcells (e.ev y)=[v])(h1:one v=true)(t':∀G',cI R E h (xs.set i u') base cap G'->K e h (A++(G'++Q)))(hg:guardB ops e ⟨none,.store t x y,ty,pos,af,g⟩=true:=by rfl):Stp P b n ops F ds X ⟨none,.store t x y,ty,pos,af,g⟩ e h L K:=by
 subst hL hm
 rcases hG with⟨rfl,_⟩|⟨bk',cl,sp,e1,hc,h3,h4,h5,rfl⟩
 .simp at hi
 .have e2:=e1
  rw[hb]at e2
  cases e2
  have hlen:=hc.len
  have hil:i<xs.length:=by
   all_goals grind
  have hlt:i*R.sz+off<cl.length:=by
   rw[hlen]
   have:=Nat.mul_le_mul_right R.sz (show i+1<=xs.length from hil)
   rw[Nat.add_mul]at this;omega
  have hnth:nth (A++([(bk,zH (cl++sp).toArray E (0,0))]++Q)) A.length=some (bk,.cells (cl++sp).toArray E (0,0)):=Hi A _ Q
  refine lE A.length hT hx hnth hv rfl (by simp;omega) (by simp[h1]) ?_ hg
  have hs:splice (cl++sp) (i*R.sz+off) [v]=setNth cl (i*R.sz+off) v++sp:=by
   grind [splice,zU]
  rw[hs]
  have hset:=CX A (bk,zH (cl++sp).toArray E (0,0)) (bk,zH (setNth cl (i*R.sz+off) v++sp).toArray E (0,0)) Q
  show K e h (setNth (A++(bk,zH (cl++sp).toArray E (0,0))::Q) A.length _)
  rw[hset]
  refine t' [(bk,.cells (setNth cl (i*R.sz+off) v++sp).toArray E (0,0))] (.inr ⟨bk,setNth cl (i*R.sz+off) v,sp,e1,dC.set ho hrep i hc hi,?_,?_,?_,rfl⟩)
  all_goals grind [td]
theorem HW{t:TypeId}{hi:Operand}{z:Int}(hT:P.underlying t=some (.slice E))(hS:tySz P E=some (R.sz,a))(hG:cI R E h xs base cap G)(hz:0<=z/\z<=(xs.length:Int))(hx:e.ev x=.slice base m cap)(hm:m=xs.length)(hhi:e.ev hi=.int .i64 z)(t':K (pute e d (.slice base (xs.take z.toNat).length cap)) h L)(hg:guardB ops e ⟨d,.slice t x none (some hi) none,ty,pos,af,g⟩=true:=by rfl):Stp P b n ops F ds X ⟨d,.slice t x none (some hi) none,ty,pos,af,g⟩ e h L K:=by
 subst hm
 have hcap:=hG.W4
 have hz2:0<=z/\z<=(cap:Int):=by omega
 have hl:z.toNat=(xs.take z.toNat).length:=by simp;omega
 refine em (v:=.slice base (xs.take z.toNat).length cap) (λw hw=>?_) t' hg
 rw[←hl]
 by_cases h0:cap=0
 .have hz0:z=0:=by omega
  subst hz0
  simp[execOp,Instr.sliceAt,Instr.slice,Instr.sliceBounds,Instr.sliceBound,hx,hhi,asIntOf,run_underlying hT,eW hS,hz2,h0]
 .simp[execOp,Instr.sliceAt,Instr.slice,Instr.sliceBounds,Instr.sliceBound,hx,hhi,asIntOf,run_underlying hT,eW hS,hz2,h0,xP]
theorem DN(A G Q:LH)(hc:∀args w,(callFunc f args).run P w=.ok (.enter f args) w)(hm:R.Mono)(hG:cI R E h xs base cap G)(hL:L=A++(G++Q))(hs:∀h1,h.le h1->SlC R h1 base cap xs->Ret P f vs h1 v)(hvs:ass.toList.map e.ev=vs)(t':K (pute e d v) h L)(hg:guardB ops e ⟨d,.call ⟨.value (.func f),ass,ats⟩,ty,pos,af,g⟩=true:=by rfl):
  Stp P b n ops F ds X ⟨d,.call ⟨.value (.func f),ass,ats⟩,ty,pos,af,g⟩ e h L K:=by
 unfold Stp
 rw[if_pos hg]
 intro w hw
 have harr:ass.map e.ev=vs.toArray:=zR (by simp[←hvs])
 have hr:(execOp e.ev ⟨d,.call ⟨.value (.func f),ass,ats⟩,ty,pos,af,g⟩).run P w=.ok (.enter f vs.toArray) w:=by
  simp[execOp,resolve,Zy,xH,invoke,harr,hc]
 rw[hr]
 have back:∀(h1:HF),h.le h1->(∀bk o,h1 bk=some o->w.heap[bk]? = some o)->SlC R h1 base cap xs->Ad P b n ops F ds X ⟨d,.call ⟨.value (.func f),ass,ats⟩,ty,pos,af,g⟩ e K (.ok (.enter f vs.toArray) w):=by
  intro h1 dN himm hsl
  have hp1:Pre h1 [] w:=⟨himm,λ_ hp=>(jA hp).elim,Yx,λ_ hp=>(jA hp).elim⟩
  refine mn (by simp) (j8 (sK.mono (hs h1 dN hsl w hp1) ?_))
  rintro x w' ⟨h',B,hst,rfl,rfl,rfl⟩
  refine⟨h,L,⟨hst.os.trans hw.os,hst.tape.trans hw.tape,hst.output.trans hw.output,kK hw.size hst.size,λb' hb' hM=>?_,hw.le,hw.old,λb' o hb'=>?_,λp hp=>?_,hw.dis,hw.free,hw.new⟩,t'⟩
  .rw[hst.keep b' (Zs hb' hw.size) (by simp)];exact hw.keep b' hb' hM
  .rw[hst.keep b' (ie (hw.imm b' o hb')) (by simp)];exact hw.imm b' o hb'
  .rw[hst.keep p.1 (ie (hw.own p hp)) (by simp)];exact hw.own p hp
 rcases hG with⟨rfl,rfl,rfl,rfl⟩|⟨bk,cl,sp,rfl,hcl,h3,h4,h5,rfl⟩
 .exact back h (qF h) hw.imm SlC.nil
 .have hmem:(bk,zH (cl++sp).toArray E (0,0))∈L:=by rw[hL];simp
  have dN:h.le (h.add bk (.cells (cl++sp).toArray E (0,0))):=HF.zg (hw.free _ hmem)
  refine back _ dN (λk o hk=>?_) ⟨dC.slB (hcl.mono hm dN) (HF.tW _ _ _) h5,h4⟩
  unfold HF.add at hk
  by_cases e0:k=bk
  .subst e0;simp at hk;subst hk;exact hw.own _ hmem
  .rw[if_neg e0]at hk;exact hw.imm k o hk
theorem TI{t E:TypeId}{sz:Operand}(hT:P.underlying t=some (.chan dir E))(hby:bytesOf P E=some uy)(hsz:e.ev sz=.int .i64 (m:Nat))(hm:m<=1000000000)(hb:uy<=4096)(t':∀bk,K (pute e d (.chan (some bk))) h ((bk,.chan m #[] false 0 0 false)::L))(hg:guardB ops e ⟨d,.makeChan t sz,ty,pos,af,g⟩=true:=by rfl):Stp P b n ops F ds X ⟨d,.makeChan t sz,ty,pos,af,g⟩ e h L K:=
 gZ hg λw hw=>by
  refine⟨_,_,h,_,?_,hw.alloc (.chan m #[] false 0 0 false),t' _⟩
  have h1:¬((m:Int)>IntKind.i64.max):=by
   have:IntKind.i64.max=9223372036854775807:=by rfl
   omega
  have h2:∃i,P.info? E=some i/\i.bytes=uy:=by
   unfold bytesOf at hby
   cases hi:P.info? E with
   |none=>rw[hi]at hby;cases hby
   |some i=>rw[hi]at hby;exact⟨i,rfl,by simpa using hby⟩
  obtain⟨i,hi,hib⟩:=h2
  have h3:¬((i.bytes:Int)*(m:Int)>2 ^ 48-112):=by
   rw[hib]
   have:uy*m<=4096*1000000000:=Nat.mul_le_mul hb hm
   grind
  simp only[execOp,Instr.makeChan,hsz]
  simp[asInt,asIntOf,run_underlying hT,typeInfo,hi]
  grind
end steps
theorem CQ{s:GStep}{g:Goroutine}{cs:Array CommCase}{bl:Bool}{sh:CommShape}(h:s.bare=.comm g cs bl sh w):∃es,s=.comm g cs bl sh w es:=by
 cases s<;>simp at h
 obtain⟨rfl,rfl,rfl,rfl,rfl⟩:=h
 exact⟨_,rfl⟩
section comm
variable {P:Program} {b:Frame} {n:Nat} {ops:Array Oper} {l:List Oper} {k:List Item} {F:List Frame->(Machine->Prop)->Prop} {e:Env} {ds:List Deferred} {X:Cx} {h:HF} {L:LH}
variable {ty:TypeId} {pos:String} {af:Array Edge} {g:Option (Nat×Bool)}
theorem WT(i:Nat){c cap s r:Nat}(hL:nth L i=some (c,.chan cap vs.toArray false s r false))(hch:e.ev ch=.chan (some c))(hx:e.ev x=v)(hroom:vs.length<cap)(t:TO P b n ops l k F e ds X h (setNth L i (c,.chan cap (vs++[v]).toArray false (s+1) r false)))(hg:guardB ops e ⟨none,.send ch x,ty,pos,af,g⟩=true:=by rfl):TO P b n ops (⟨none,.send ch x,ty,pos,af,g⟩::l) k F e ds X h L:=by
 intro w hw is hi a cs Φ hn he hds hF
 obtain⟨j,js,rfl,ho,hj⟩:=rS hi
 have hwt:=(fY (ops:=ops) he).trans hg
 have hs:=stepGR_op (P:=P) (b:=b) (k:=k) (cs:=cs) (w:=w) (rest:=js) ho hwt
 rw[lg _ _ rfl,lk,he]at hs
 have hb:w.heap[c]? = some (.chan cap vs.toArray false s r false):=by
  have h2:=hL
  rw[hZ]at h2
  exact hw.own _ (xD h2)
 have hcm:∃es,stepG P true (Go.Conc.G (b.atR a (.inRegion ops (j::js)::k)) cs) w=.comm (Go.Conc.G (b.atR a (.inRegion ops (j::js)::k)) cs) #[Go.Conc.scase c v (.tuple #[])] true .send w es:=by
  have hrun:(execOp e.ev ⟨none,.send ch x,ty,pos,af,g⟩).run P w=.ok (.comm #[Go.Conc.scase c v (.tuple #[])] true .send) w:=by
   simp[execOp,hch,hx,Go.Conc.scase]
  show ∃es,stepG P true { frame:=b.atR a (.inRegion ops (j::js)::k),callers:=cs,status:=.running,dying:=none } w=_
  refine CQ ?_
  rw[hs]
  simp[stepG.apply,hrun,Go.Conc.G]
 obtain⟨es,hcm⟩:=hcm
 have h1:=Go.Conc.step_lone_send_room hcm hb (by simpa using hroom)
 refine .step h1 ?_
 rw[show Go.Conc.solo (Go.Conc.G ((b.atR a (.inRegion ops (j::js)::k)).finish undef) cs) (w.setChan c cap (vs.toArray.push v) false (s+1) r false)=lone ((b.atR a (.inRegion ops (j::js)::k)).finish undef) cs (w.setChan c cap (vs.toArray.push v) false (s+1) r false)from rfl,iw a js k ho undef]
 have hw2:=hw.write hL (.chan cap (vs++[v]).toArray false (s+1) r false)
 have e1:vs.toArray.push v=(vs++[v]).toArray:=by simp
 rw[e1]
 exact t _ hw2 js hj a cs Φ hn he hds hF
theorem WU(i:Nat){t:TypeId}{d c cap s r:Nat}(hT:P.underlying t=some (.chan dir E))(hz:zeroV P E=some z)(hL:nth L i=some (c,.chan cap (v::vs).toArray false s r false))(hch:e.ev ch=.chan (some c))(t':TO P b n ops l k F (upd e d v) ds X h (setNth L i (c,.chan cap vs.toArray false s (r+1) false)))(hd:Nat.blt d n=true:=by rfl)(hg:guardB ops e ⟨some d,.recv t ch false,ty,pos,af,g⟩=true:=by rfl):TO P b n ops (⟨some d,.recv t ch false,ty,pos,af,g⟩::l) k F e ds X h L:=by
 intro w hw is hi a cs Φ hn he hds hF
 obtain⟨j,js,rfl,ho,hj⟩:=rS hi
 have hwt:=(fY (ops:=ops) he).trans hg
 have hs:=stepGR_op (P:=P) (b:=b) (k:=k) (cs:=cs) (w:=w) (rest:=js) ho hwt
 rw[lg _ _ rfl,lk,he]at hs
 have hb:w.heap[c]? = some (.chan cap (v::vs).toArray false s r false):=by
  have h2:=hL
  rw[hZ]at h2
  exact hw.own _ (xD h2)
 have hcm:∃es,stepG P true (Go.Conc.G (b.atR a (.inRegion ops (j::js)::k)) cs) w=.comm (Go.Conc.G (b.atR a (.inRegion ops (j::js)::k)) cs) #[Go.Conc.rcase c z] true (.recv false) w es:=by
  have hrun:(execOp e.ev ⟨some d,.recv t ch false,ty,pos,af,g⟩).run P w=.ok (.comm #[Go.Conc.rcase c z] true (.recv false)) w:=by
   simp[execOp,run_underlying hT,fG hz,hch,Go.Conc.rcase]
  show ∃es,stepG P true { frame:=b.atR a (.inRegion ops (j::js)::k),callers:=cs,status:=.running,dying:=none } w=_
  refine CQ ?_
  rw[hs]
  simp[stepG.apply,hrun,Go.Conc.G]
 obtain⟨es,hcm⟩:=hcm
 have h1:=Go.Conc.step_lone_recv_buf false hcm hb (by simp)
 refine .step h1 ?_
 have e2:Go.Conc.got false ((v::vs).toArray.getD 0 undef) true=v:=by simp[Go.Conc.got]
 have e1:(v::vs).toArray.extract 1 (v::vs).toArray.size=vs.toArray:=by simp
 rw[e2,e1]
 rw[show Go.Conc.solo (Go.Conc.G ((b.atR a (.inRegion ops (j::js)::k)).finish v) cs) (w.setChan c cap vs.toArray false s (r+1) false)=lone ((b.atR a (.inRegion ops (j::js)::k)).finish v) cs (w.setChan c cap vs.toArray false s (r+1) false)from rfl,iw a js k ho v]
 have hw2:=hw.write hL (.chan cap vs.toArray false s (r+1) false)
 have hdn:d<n:=jN hd
 exact t' _ hw2 js hj (a.put (some d) v) cs Φ (by rw[pY];exact hn) (by rw[rq _ _ _ (hn▸hdn),he]) (by rw[nu];exact hds) hF
end comm
section runs2
variable {P:Program} {e:Env} {X:Cx} {h:HF} {L:LH} {d:Option Nat} {ty:TypeId} {pos:String} {af:Array Edge} {g:Option (Nat×Bool)}
theorem WJ{t:TypeId}{c cap s r:Nat}(hT:P.underlying t=some (.chan dir E))(hL:(c,Obj.chan cap vs.toArray false s r false)∈L)(hch:e.ev ch=.chan (some c)):
  ∀w,St X h L w->(execOp e.ev ⟨d,.call ⟨.builtin .len,#[ch],#[t]⟩,ty,pos,af,g⟩).run P w=.ok (.value (.int .i64 (vs.length:Nat))) w:=λw hw=>by
 have hb:w.heap[c]? = some (.chan cap vs.toArray false s r false):=hw.own _ hL
 have hg:(getObj c).run P w=.ok (.chan cap vs.toArray false s r false) w:=by simp[getObj,Z9,hb]
 simp[execOp,resolve,invoke,builtin,Builtin.len_,hch,run_underlying hT,hg,goInt]
theorem Sl{t:TypeId}{lo:Operand}{cap:Nat}(hT:P.underlying t=some (.slice E))(hS:tySz P E=some (sz,a))(hx:e.ev x=.slice (some ⟨bk,0,none⟩) n cap)(hlo:e.ev lo=.int .i64 (i:Nat))(hi:i<n)(hc:n<=cap)(hm:n-i=m)(h1:sz=1:=by rfl):
  ∀w,St X h L w->(execOp e.ev ⟨d,.slice t x (some lo) none none,ty,pos,af,g⟩).run P w=.ok (.value (.slice (some ⟨bk,i,none⟩) m (cap-i))) w:=λw hw=>by
 subst h1 hm
 have h2:¬(cap=i):=by omega
 have h3:(⟨bk,0,none⟩:Addr).add i=⟨bk,i,none⟩:=oJ bk i
 simp[execOp,Instr.sliceAt,Instr.slice,Instr.sliceBounds,Instr.sliceBound,hx,hlo,asIntOf,run_underlying hT,eW hS,h2,h3,Nat.le_of_lt hi]
end runs2
theorem N6{R:Rp α}{h:HF}{L:LH}{t ty:TypeId}{ys:List α}{cap:Nat}{x:Value}(hw:St X h L w)(hT:P.underlying t=some (.slice E))(hS:tySz P E=some (R.sz,a))(hz:zeroC P E=some zs)(hzl:zs.length=R.sz)(hby:bytesOf P E=some uy)(hs1:Src R h L (.slice base xs.length cap) xs)(hsrc:Src R h L x ys)(hcap:cap<xs.length+ys.length)(hb:(xs.length+ys.length)*uy<=140737488355328)(hb2:xs.length+ys.length<=9223372036854775807):
  ∃base' cap' G' w',(Builtin.append_ #[t,t] ty #[.slice base xs.length cap,x]).run P w=.ok (.slice base' (xs++ys).length cap') w'/\cI R E h (xs++ys) base' cap' G'/\St X h (G'++L) w':=by
 obtain⟨i,hi,hby'⟩:∃i,P.info? E=some i/\i.bytes=uy:=by
  unfold bytesOf at hby
  cases hi:P.info? E with
  |none=>simp[hi]at hby
  |some i=>exact⟨i,rfl,by simpa[hi]using hby⟩
 have hsz:i.size=R.sz:=by
  have:=eW hS w
  simpa[sizeOf,typeInfo,hi]using this
 obtain⟨z,hzz,hzc⟩:∃z,i.zero=some z/\z.cells=zs.toArray:=by
  unfold zeroC at hz
  cases hzz:i.zero with
  |none=>simp[hi,hzz]at hz
  |some z=>exact⟨z,rfl,by simp[hi,hzz]at hz;rw[mR,hz]⟩
 have hnewlen:(xs++ys).length=xs.length+ys.length:=by simp
 have hroom:¬xs.length+ys.length<=cap:=by omega
 have hwd:St X h L w.drew:=hw.drew _
 obtain⟨cl0,b0,c0,hx0,hc0,hf0⟩:=vf (P:=P) hs1 hwd
 obtain⟨cl',b1,c1,hx',hc',hf'⟩:=vf (P:=P) hsrc hwd
 have hfit:Builtin.nextslicecap (xs.length+ys.length) cap*i.bytes<=281474976710656:=growslice_fits hcap (by rw[hby'];exact hb)
 have h48':¬(281474976710656<Builtin.nextslicecap (xs.length+ys.length) cap*i.bytes):=by omega
 have h63':¬(9223372036854775807<((xs.length:Int)+(ys.length:Int))):=by omega
 have hge:=grownCap_ge w (xs.length+ys.length) cap E
 let nc:=grownCap w (xs.length+ys.length) cap E
 let rest:=(Builtin.zeroCells z.cells (nc-(xs.length+ys.length))).toList
 refine⟨some ⟨w.heap.size,0,none⟩,nc,[(w.heap.size,.cells ((cl0++cl')++rest).toArray E (0,0))],w.drew.alloc (.cells ((cl0++cl')++rest).toArray E),?_,?_,?_⟩
 .subst hx'
  rw[←hsz]at hf0 hf'
  simp[Builtin.append_,run_underlying hT,sizeOf,typeInfo,zeroValue,hi,hzz,Builtin.lenOf,hroom,h63',h48',Question.forced,hf0,hf',newRow,grownCap,nc,rest]
  congr 2
  apply zR
  simp
 .refine .inr ⟨w.heap.size,cl0++cl',rest,rfl,dC.app hc' hc0,?_,by rw[hnewlen];exact hge,by rw[hnewlen];exact hb2,rfl⟩
  have:rest.length=(nc-(xs.length+ys.length))*R.sz:=by
   simp[rest,Builtin.zeroCells,hzc,hzl]
  simp only[vA,this,hc0.len,hc'.len,←Nat.add_mul]
  congr 1
  omega
 .exact hwd.alloc (.cells ((cl0++cl')++rest).toArray E (0,0))
section steps3
variable {P:Program} {b:Frame} {n:Nat} {ops:Array Oper} {F:List Frame->(Machine->Prop)->Prop} {e:Env} {ds:List Deferred} {X:Cx} {h:HF} {L:LH} {K:Env->HF->LH->Prop}
variable {d:Option Nat} {ty:TypeId} {pos:String} {af:Array Edge} {g:Option (Nat×Bool)}
theorem Le{R:Rp α}{t:TypeId}{s:Operand}{ys:List α}{cap:Nat}(hT:P.underlying t=some (.slice E))(hS:tySz P E=some (R.sz,a))(hz:zeroC P E=some zs)(hzl:zs.length=R.sz)(hby:bytesOf P E=some uy)(hs1:Src R h L (.slice base xs.length cap) xs)(hx:e.ev s=.slice base m cap)(hm:m=xs.length)(hsrc:Src R h L (e.ev y) ys)(hcap:cap<xs.length+ys.length)(hb:(xs.length+ys.length)*uy<=140737488355328)(hb2:xs.length+ys.length<=9223372036854775807)(t':∀base' cap' G',cI R E h (xs++ys) base' cap' G'->K (pute e d (.slice base' (xs++ys).length cap')) h (G'++L))(hgd:guardB ops e ⟨d,.call ⟨.builtin .append,#[s,y],#[t,t]⟩,ty,pos,af,g⟩=true:=by rfl):Stp P b n ops F ds X ⟨d,.call ⟨.builtin .append,#[s,y],#[t,t]⟩,ty,pos,af,g⟩ e h L K:=
 gZ hgd λw hw=>by
  subst hm
  obtain⟨base',cap',G',w',hr,hG',hst⟩:=N6 (P:=P) (ty:=ty) hw hT hS hz hzl hby hs1 hsrc hcap hb hb2
  refine⟨_,w',h,_,?_,hst,t' _ _ _ hG'⟩
  simp[execOp,resolve,invoke,builtin,hx,hr]
theorem E1{t:TypeId}{len:Nat}{cells:List Value}(hXM:∀b∈X.M,b<X.w0.heap.size)(hT:P.underlying t=some (.slice E))(hS:tySz P E=some (sz,a))(hz:zeroC P E=some zs)(hpos:qJ 0 (len*sz)=true)(hlt:Zt (len*sz) 16777216=true)(hc:ZL (λi=>some (i*sz,sz)) ((Array.range (len*sz)).map (zs.toArray[·%zs.toArray.size]!)) (parts.toList.map λp=>(p.1,e.ev p.2))=some cells.toArray)(t':∀bk,bk∉X.M->K (pute e d (.slice (some ⟨bk,0,none⟩) len len)) h ((bk,.cells cells.toArray E (0,0))::L))(hg:guardB ops e ⟨d,.buildSlice t len parts,ty,pos,af,g⟩=true:=by rfl):Stp P b n ops F ds X ⟨d,.buildSlice t len parts,ty,pos,af,g⟩ e h L K:=
 gZ hg λw hw=>by
  obtain⟨z,h1,h2⟩:=u9 hz w
  have hp:=qY hpos
  have hl:=jN hlt
  have hparts:(parts.map λx=>(x.1,e.ev x.2)).toList=parts.toList.map λp=>(p.1,e.ev p.2):=by simp
  refine⟨_,_,h,_,?_,hw.alloc _,t' _ (λhm=>by have:=hXM _ hm;have:=hw.size;omega)⟩
  have hne:¬len*sz=0:=by omega
  have hnl:¬len*sz>2 ^ 24:=by omega
  simp only[execOp,Instr.buildSlice,kL,run_underlying hT,vK,eW hS,hnl,hne,if_false,h1,h2,Y2,hparts]
  rw[hc]
  simp[newRow]
theorem Mt(A Q:LH){t:Nat}{Φ:LH->Prop}(hL:L.Perm (A++Q))(hs:ny P fv vs.toArray h A (λx h' B=>x=.returned (.tuple #[])/\h'=h/\Φ B))(hf:e t=fv)(hvs:ass.toList.map e.ev=vs)(t':∀B,Φ B->K (pute e d (.tuple #[])) h (B++Q))(hg:guardB ops e ⟨d,.call ⟨.value (.tmp t),ass,ats⟩,ty,pos,af,g⟩=true:=by rfl):Stp P b n ops F ds X ⟨d,.call ⟨.value (.tmp t),ass,ats⟩,ty,pos,af,g⟩ e h L K:=by
 unfold Stp
 rw[if_pos hg]
 intro w hw
 have hw':=hw.perm hL
 have harr:ass.map e.ev=vs.toArray:=zR (by simp[←hvs])
 obtain⟨nx,hrun,hcall⟩:=hs w (Pre.left (A:=A) hw'.pre)
 have hr:(execOp e.ev ⟨d,.call ⟨.value (.tmp t),ass,ats⟩,ty,pos,af,g⟩).run P w=.ok nx w:=by
  rw[←hrun]
  simp[execOp,resolve,Zy,harr,hf]
 rw[hr]
 refine mn (pb hcall) (hcall.mono ?_)
 rintro x w' ⟨h',B,hst,rfl,rfl,hB⟩
 exact⟨h',_,Y8 (A:=A) (F:=Q) hw' hst,t' B hB⟩
theorem EZ{o:Oper}(hp:L.Perm L')(t:Stp P b n ops F ds X o e h L' K)(hg:guardB ops e o=true:=by rfl):Stp P b n ops F ds X o e h L K:=by
 unfold Stp at t ⊢
 rw[if_pos hg]at t ⊢
 exact λw hw=>t w (hw.perm hp)
end steps3
section runs3
variable {P:Program} {e:Env} {X:Cx} {h:HF} {L:LH} {d:Option Nat} {ty:TypeId} {pos:String} {af:Array Edge} {g:Option (Nat×Bool)}
theorem WK{t:TypeId}{hi mx:Operand}{cap:Nat}(hT:P.underlying t=some (.slice E))(hS:tySz P E=some (sz,a))(hx:e.ev x=.slice base n cap)(hhi:e.ev hi=.int .i64 (n:Nat))(hmx:e.ev mx=.int .i64 (n:Nat))(hc:n<=cap):
  ∀w,St X h L w->(execOp e.ev ⟨d,.slice t x none (some hi) (some mx),ty,pos,af,g⟩).run P w=.ok (.value (.slice base n n)) w:=λw hw=>by
 by_cases h0:n=0
 .subst h0
  simp[execOp,Instr.sliceAt,Instr.slice,Instr.sliceBounds,Instr.sliceBound,hx,hhi,hmx,asIntOf,run_underlying hT,eW hS,hc]
 .simp[execOp,Instr.sliceAt,Instr.slice,Instr.sliceBounds,Instr.sliceBound,hx,hhi,hmx,asIntOf,run_underlying hT,eW hS,hc,h0,xP]
end runs3
theorem sy.del{κ α : Type}{enc:κ->Value}{V:HF->Value->α->Prop}{h:HF}[DecidableEq κ]{k:κ}:∀{es:List MapEntry}{m:List (κ×α)}(j:Nat),sy enc V h es m ->
  match findIn k (m.map (·.1)) es j with
  |some (i,_)=>j<=i/\i-j<es.length/\sy enc V h (es.eraseIdx (i-j)) (mdel m k)
  |none=>sy enc V h es (mdel m k)
 |[],[],_,_=>trivial
 |e::es,(k',v)::m,j,⟨a,b,c⟩=>by
  simp only[kG,findIn,mdel]
  by_cases hk:k=k'
  .simp only[hk,if_true]
   refine⟨xE _,by simp,?_⟩
   rw[Nat.sub_self];exact c
  .simp only[hk,if_false]
   have ih:=sy.del (k:=k) (j+1) c
   cases hf:findIn k (m.map (·.1)) es (j+1)with
   |none=>rw[hf]at ih;exact⟨a,b,ih⟩
   |some p=>
    obtain⟨i,u⟩:=p
    rw[hf]at ih
    obtain⟨h1,h2,h3⟩:=ih
    have e1:i-j=(i-(j+1))+1:=by omega
    refine⟨by omega,by simp;omega,?_⟩
    rw[e1,List.eraseIdx_cons_succ];exact⟨a,b,h3⟩
 |[],_::_,_,x=>x.elim
 |_::_,[],_,x=>x.elim
section del
variable {P:Program} {b:Frame} {n:Nat} {ops:Array Oper} {F:List Frame->(Machine->Prop)->Prop} {e:Env} {ds:List Deferred} {X:Cx} {h:HF} {L:LH} {K:Env->HF->LH->Prop}
variable {d:Option Nat} {ty:TypeId} {pos:String} {af:Array Edge} {g:Option (Nat×Bool)} {κ α : Type} {enc:κ->Value} {V:HF->Value->α->Prop} [DecidableEq κ]
end del
theorem BZ{α : Type}[DecidableEq α]:∀{a b:List α},a.Nodup->(∀x∈a,x∈b)->a.length<=b.length
 |[],b,_,_=>jH _
 |x::a,b,hn,hs=>by
  rw[xR]at hn
  have hx:x∈b:=hs x (xB ..)
  have ih:=BZ (b:=b.erase x) hn.2 (λy hy=>by
   have hne:y≠x:=λe=>hn.1 (e▸hy)
   rw[List.mem_erase_of_ne hne];exact hs y (qC _ hy))
  rw[List.length_erase_of_mem hx]at ih
  have:=List.length_pos_of_mem hx
  simp only[xA]
  omega
section frz
variable {P:Program} {b:Frame} {n:Nat} {k:List Item} {F:List Frame->(Machine->Prop)->Prop} {e:Env} {ds:List Deferred} {X:Cx} {h:HF} {L:LH}
theorem HJ{todo:List Item}(A G Q:LH)(hL:L=A++(G++Q))(hM:X.M=[])(t:∀h2,h.le h2->(∀p∈G,h2 p.1=some p.2)->TT P b n todo F e ds X h2 (A++Q)):TT P b n todo F e ds X h L:=by
 subst hL
 intro w hw
 obtain⟨h1,h2,h3⟩:=hw.freezeMid hM
 exact t _ h2 h3 w h1
theorem Vg(sl:ι->List (Nat×Value))(hh:ι->HF)(LL:ι->LH)(I:ι->Prop)(hk:∀i,I i->∀e',TT P b n k F (upds e' (sl i)) ds X (hh i) (LL i))(t':(∀i e',I i->fy e' (sl i)->TT P b n k F e' ds X (hh i) (LL i))->TT P b n (.code c::k) F e ds X h L):TT P b n (.code c::k) F e ds X h L:=
 t' λi e' hI hr=>by have:=hk i hI e';rw[hr.upds]at this;exact this
end frz
end
section
def attR:Except Int Unit->Int
 |.ok _=>0
 |.error e=>e
def idxByte(s:ByteArray)(c:Int):Int:=match(List.range s.size).find? (λi=>s[i]! == UInt8.ofNat c.toNat)with
 |some i=>(i:Nat)
 |none=>-1
def bsI(xs:List Int)(t:Int):Int:=((xs.countP (·<t):Nat):Int)
def slices_BinarySearch_int(x:List Int)(target:Int):Int×Bool:=(bsI x target,x.contains target)
def insI(x:Int):List Int->List Int
 |[]=>[x]
 |y::l=>bif decide (x<=y)then x::y::l else y::insI x l
def sortI:List Int->List Int
 |[]=>[]
 |x::l=>insI x (sortI l)
theorem Fp(x:Int):∀l,(insI x l).Perm (x::l)
 |[]=>List.Perm.refl _
 |y::l=>by
  simp only[insI,Bool.cond_eq_ite]
  split
  .exact List.Perm.refl _
  .exact(List.Perm.cons y (Fp x l)).trans (List.Perm.swap x y l)
theorem nZ:∀xs,(sortI xs).Perm xs
 |[]=>List.Perm.refl _
 |x::l=>(Fp x _).trans (List.Perm.cons x (nZ l))
theorem iE(xs:List Int):(sortI xs).length=xs.length:=(nZ xs).length_eq
theorem F4(x:Int):∀l:List Int,l.Pairwise (·<=·)->(insI x l).Pairwise (·<=·)
 |[],_=>by simp[insI]
 |y::l,h=>by
  rw[List.pairwise_cons]at h
  simp only[insI,Bool.cond_eq_ite,decide_eq_true_eq]
  split
  .next hxy=>
   rw[List.pairwise_cons]
   refine⟨λz hz=>?_,List.pairwise_cons.2 h⟩
   grind
  .next hxy=>
   rw[List.pairwise_cons]
   refine⟨λz hz=>?_,F4 x l h.2⟩
   grind [Fp]
theorem pG:∀xs,(sortI xs).Pairwise (·<=·)
 |[]=>List.Pairwise.nil
 |x::l=>F4 x _ (pG l)
theorem AI:∀{a b:List Int},a.Pairwise (·<=·)->b.Pairwise (·<=·)->a.Perm b->a=b
 |[],b,_,_,p=>(List.Perm.nil_eq p)
 |x::a,[],_,_,p=>absurd p.length_eq (by simp)
 |x::a,y::b,ha,hb,p=>by
  have hx:x=y:=by
   have h1:x∈y::b:=p.mem_iff.1 (xB ..)
   have h2:y∈x::a:=p.mem_iff.2 (xB ..)
   rw[List.pairwise_cons]at ha hb
   grind
  subst hx
  rw[List.pairwise_cons]at ha hb
  rw[AI ha.2 hb.2 (List.Perm.cons_inv p)]
theorem NS{xs ys:List Int}(p:xs.Perm ys):sortI xs=sortI ys:=by grind [AI,pG,nZ]
def insS(x:OSeat):List OSeat->List OSeat
 |[]=>[x]
 |y::l=>bif decide (x.bY<=y.bY)then x::y::l else y::insS x l
def seatS:List OSeat->List OSeat
 |[]=>[]
 |x::l=>insS x (seatS l)
theorem Fm(x:OSeat):∀l,(insS x l).Perm (x::l)
 |[]=>List.Perm.refl _
 |y::l=>by
  simp only[insS,Bool.cond_eq_ite]
  split
  .exact List.Perm.refl _
  .exact(List.Perm.cons y (Fm x l)).trans (List.Perm.swap x y l)
theorem yY:∀xs,(seatS xs).Perm xs
 |[]=>List.Perm.refl _
 |x::l=>(Fm x _).trans (List.Perm.cons x (yY l))
theorem F3(x:OSeat):∀l:List OSeat,l.Pairwise (λa b=>a.bY<=b.bY)->(insS x l).Pairwise (λa b=>a.bY<=b.bY)
 |[],_=>by simp[insS]
 |y::l,h=>by
  rw[List.pairwise_cons]at h
  simp only[insS,Bool.cond_eq_ite,decide_eq_true_eq]
  split
  .next hxy=>
   rw[List.pairwise_cons]
   refine⟨λz hz=>?_,List.pairwise_cons.2 h⟩
   grind
  .next hxy=>
   rw[List.pairwise_cons]
   refine⟨λz hz=>?_,F3 x l h.2⟩
   grind [Fm]
theorem DL:∀xs,(seatS xs).Pairwise (λa b=>a.bY<=b.bY)
 |[]=>List.Pairwise.nil
 |x::l=>F3 x _ (DL l)
theorem MV(xs:List Int):(xs.mergeSort λx y=>decide (x<=y))=sortI xs:=by
 have h:=List.pairwise_mergeSort (le:=λx y:Int=>decide (x<=y)) (λa b c h1 h2=>by simp at *;omega) (λa b=>by simp;omega) xs
 exact AI (h.imp (λh=>by simpa using h)) (pG _) ((List.mergeSort_perm _ _).trans (nZ xs).symm)
theorem Ba{κ α : Type}[DecidableEq κ]{P:α->Prop}:∀{m:List (κ×α)}(k:κ){v:α},(∀p∈m,P p.2)->P v->∀p∈mput m k v,P p.2
 |[],k,v,_,hv,p,hp=>by simp[mput]at hp;subst hp;exact hv
 |(k',v')::m,k,v,h,hv,p,hp=>by
  simp only[mput]at hp
  split at hp
  .grind
  .rcases kC.1 hp with rfl|hp
   .exact h _ (xB ..)
   .exact Ba k (λq hq=>h q (qC _ hq)) hv p hp
theorem OE{κ α : Type}[DecidableEq κ]{P:α->Prop}:∀{m:List (κ×α)}(k:κ){v:α},(∀p∈m,P p.2)->mget? m k=some v->P v
 |[],k,v,_,h=>by simp[mget?]at h
 |(k',v')::m,k,v,h,hg=>by
  simp only[mget?]at hg
  split at hg
  .cases hg;exact h (k',v') (xB ..)
  .exact OE k (λq hq=>h q (qC _ hq)) hg
theorem B4{κ:Type}[DecidableEq κ]{P:α->Prop}{m:List (κ×α)}(k:κ){z:α}(h:∀p∈m,P p.2)(hz:P z):P (mgetD m k z):=by
 unfold mgetD
 cases hg:mget? m k with
 |none=>exact hz
 |some v=>exact OE k h hg
def compStep(out:List Int)(x:Int):List Int:=if out.getLast? = some x then out else out++[x]
def compI(xs:List Int):List Int:=xs.foldl compStep []
def slices_Compact_int(xs:List Int):List Int:=compI xs
def pop64(m:Int):Int:=
 let a0:=vC .u64 (((BitVec.ofInt 64 (m.fdiv (2 ^ 1)) &&& BitVec.ofInt 64 6148914691236517205).toNat:Nat):Int)
 let a1:=vC .u64 (((BitVec.ofInt 64 m &&& BitVec.ofInt 64 6148914691236517205).toNat:Nat):Int)
 let a:=vC .u64 (a0+a1)
 let b0:=vC .u64 (((BitVec.ofInt 64 (a.fdiv (2 ^ 2)) &&& BitVec.ofInt 64 3689348814741910323).toNat:Nat):Int)
 let b1:=vC .u64 (((BitVec.ofInt 64 a &&& BitVec.ofInt 64 3689348814741910323).toNat:Nat):Int)
 let b:=vC .u64 (b0+b1)
 let c:=vC .u64 (((BitVec.ofInt 64 (vC .u64 (b.fdiv (2 ^ 4)+b)) &&& BitVec.ofInt 64 1085102592571150095).toNat:Nat):Int)
 let d:=vC .u64 (c+c.fdiv (2 ^ 8))
 let f:=vC .u64 (d+d.fdiv (2 ^ 16))
 let g:=vC .u64 (f+f.fdiv (2 ^ 32))
 vC .i64 (((BitVec.ofInt 64 (vC .i64 g) &&& BitVec.ofInt 64 127).toNat:Nat):Int)
def bsPos{α : Type}(f:α->Int)(l:List α)(t:Int):Nat:=l.countP λy=>decide (f y<t)
theorem Do{α : Type}(f:α->Int)(t:Int):∀l:List α,l.Pairwise (λa b=>f a<f b)->(∀i y,i<bsPos f l t->l[i]? = some y->f y<t)/\(∀i y,bsPos f l t<=i->l[i]? = some y->¬f y<t)
 |[],_=>⟨λi y h=>absurd h (Nat.not_lt_zero _),λi y _ h=>by simp at h⟩
 |a::l,hp=>by
  have hp2:=List.pairwise_cons.1 hp
  obtain⟨h1,h2⟩:=Do f t l hp2.2
  by_cases ha:f a<t
  .have hc:bsPos f (a::l) t=bsPos f l t+1:=by simp[bsPos,List.countP_cons,ha]
   rw[hc]
   refine⟨λi y hi hy=>?_,λi y hi hy=>?_⟩
   .cases i with
    |zero=>simp at hy;subst hy;exact ha
    |succ i=>exact h1 i y (by omega) (by simpa using hy)
   .cases i with
    |zero=>omega
    |succ i=>exact h2 i y (by omega) (by simpa using hy)
  .have h0:∀y∈l,¬f y<t:=λy hy=>by have:=hp2.1 y hy;omega
   have hc:bsPos f (a::l) t=0:=by
    have:l.countP (λy=>decide (f y<t))=0:=List.countP_eq_zero.2 (λy hy=>by simpa using h0 y hy)
    simp[bsPos,List.countP_cons,ha,this]
   rw[hc]
   refine⟨λi y hi=>absurd hi (Nat.not_lt_zero _),λi y _ hy=>?_⟩
   cases i with
   |zero=>simp at hy;subst hy;exact ha
   |succ i=>exact h0 y (xD (by simpa using hy))
def bitAt(m k:Int):Bool:=(vC .i64 (((BitVec.ofInt 64 (m.fdiv (2 ^ min k.toNat 64)) &&& BitVec.ofInt 64 1).toNat:Nat):Int))==1
def setOf.L(n:Nat)(m:Int):List Int->Nat->List Int->List Int
 |[],_,g=>g
 |y::r,i,g=>setOf.L n m r (i+1) (bif bitAt m ((n:Int)-1-(i:Int))then g++[y]else g)
def setOf(people:List Int)(m:Int):List Int:=setOf.L people.length m people 0 []
def downF(f:Nat->List (List Int)):Nat->List (List Int)
 |0=>[]
 |j+1=>f j++downF f j
def upF(f:Nat->List (List Int)):Nat->Nat->List (List Int)
 |_,0=>[]
 |i,c+1=>f i++upF f (i+1) c
def setsM(people:List Int)(size m:Nat):List (List Int):=bif pop64 (m:Int)==(size:Int)then[setOf people (m:Int)]else[]
def iX(people:List Int):List (List Int):=upF (λsize=>downF (setsM people size) (2 ^ people.length)) 0 (people.length+1)
theorem TY(h:n<=12):2 ^ n<=4096:=kK (Nat.pow_le_pow_right (by decide) h) (by decide)
structure QP where
 closed:Bool
 free:List Int
 needs:List Int
 over:List Int
 decides:List Int->Bool
end
variable {C:α->List Go.Value}{rs:List ResultVar}{sp:List Go.Value}
section
def RdN{α : Type}(l:Nat)(lp:Loop)(I:List α->HF->LH->Prop)(J:Code->HF->LH->Prop)(Pn:List PanicEntry->HF->LH->Prop)(done:List α)(x:α)(r':Ending)(h:HF)(B:LH):Prop:=
 (r'=.returned (.bool true)/\∃L',B=(l,.loop { lp with state:=.ready,pending:=none })::L'/\I (done++[x]) h L') \/
 (r'=.returned (.bool false)/\∃c L',B=(l,.loop { lp with state:=.done,pending:=some c })::L'/\J c h L') \/
 (∃ch,r'=.panicked ch/\∃lp' L',B=(l,.loop lp')::L'/\Pn ch h L')
section
variable {α : Type} {P:Program} {l:Nat} {f:FuncId} {n:Nat} {k:List Item} {e:Env} {X:Cx} {h:HF} {L:LH} {lp lp':Loop} {fn:Func} {I:List α->HF->LH->Prop} {J:Code->HF->LH->Prop} {Pn:List PanicEntry->HF->LH->Prop} {done:List α} {x:α}
theorem Q6(hlp:lp'={ lp with state:=.busy })(hI:I (done++[x]) h L):TT P (roundFrame l f) n [] (kU P X (RdN l lp I J Pn done x)) e [] X h ((l,.loop lp')::L):=
 QV 0 rfl (.inl ⟨rfl,L,by rw[hlp];rfl,hI⟩)
end
theorem R3{l0:Nat}{lp0:Loop}{F:List Frame->(Machine->Prop)->Prop}{h:HF}{L:LH}{val:α->HF->List Value->Prop}(i0:Nat)(hl0:nth L i0=some (l0,.loop lp0))(I:List α->HF->LH->Prop)(hgv:e.ev g=it)(hit:Itr P it val xs h)(hps:ps.all (λp=>qJ p n)=true)(hval:∀x h vs,val x h vs->vs.length=ps.length)(hIm:∀done h1 h2 B,jL h1 h2->I done h1 B->I done h2 B)(h0:I [] h L)(round:∀l lp done x rest vs h' L' X',xs=done++x::rest->h.le h'->I done h' L'->val x h' vs->lp.state=.ready->X'.h0=h'->(∀b∈X'.M,b<X'.w0.heap.size) ->
   TT P (roundFrame l f) n [.code assign,.beginRound,.code body] (kU P X' (RdN l lp I (λ_ _ _=>False) (λ_ _ _=>False) done x)) (setParams e ps vs) [] X' h' ((l,.loop lp)::L'))(next:∀h' L',h.le h'->I xs h' L'->TT P (roundFrame l0 f) n k F e ds X h' L'):
  TT P (roundFrame l0 f) n (.code (.rangeFunc g ps.toArray assign body)::k) F e ds X h L:=by
 obtain⟨f0,cap,rfl,hc0,hit⟩:=hit
 intro w hw a cs Φ hn he hds hF
 let l:=w.heap.size
 have hb0:w.heap[l0]? = some (.loop lp0):=tG hw hl0
 let lp:Loop:={ state:=.ready,pending:=none,fn:=f,tmps:=a.tmps,params:=ps.toArray,assign,body,defers:=lp0.defers }
 let w2:World:={ w with heap:=w.heap.push (.loop lp) }
 have hw2:St X h ((l,.loop lp)::L) w2:=hw.alloc _
 have henter:(ZV (roundFrame l0 f).fn a.tmps ps.toArray assign body (roundFrame l0 f).roundOf).run P w=.ok (l,[]) w2:=by
  have:=run_enterLoop_inner (P:=P) hb0 f a.tmps ps.toArray assign body
  exact this
 let C:List α->HF->LH->Prop:=λdone h' B=>∃L',B=(l,.loop lp)::L'/\I done h' L'
 let Sp:HF->LH->Prop:=λ_ _=>False
 let Pm:List PanicEntry->HF->LH->Prop:=λ_ _ _=>False
 have hps':∀p∈ps,p<n:=λp hp=>qY (zP.1 hps p hp)
 have hy:∀done x rest vs h'' B,xs=done++x::rest->h.le h''->C done h'' B->val x h'' vs->ny P (.func (.yield l) #[] #[]) vs.toArray h'' B (YR C Sp Pm done x):=by
  rintro done x rest vs h'' B hxs dN ⟨L',rfl,hI⟩ hv
  refine ny.mono (R:=RdN l lp I (λ_ _ _=>False) (λ_ _ _=>False) done x) (AH (i:=0) (lp:=lp) rfl (by simp[lp];exact hval x h'' vs hv) ?_) ?_
  .intro X' _ hX' hXM'
   have henv:envOf { tmps:=(ps.toArray.zip vs.toArray).foldl (λtmps p=>tmps.setIfInBounds p.1 p.2) a.tmps,defers:=[] }=setParams e ps vs:=by
    have:=uF ps vs a.tmps a.defers hn hps'
    rw[←he]
    rw[←ZZ]
    simpa using this
   grind
  .rintro x' h3 B' _ (⟨e1,L2,e2,h2⟩|⟨e1,c,L2,e2,h2⟩|⟨ch,e1,lp',L2,e2,h2⟩)
   .exact .inl ⟨e1,L2,e2,h2⟩
   .exact h2.elim
   .exact h2.elim
 have hs:=hit (.yield l) #[] #[] C Sp Pm h ((l,.loop lp)::L) (qF h) (λ_ _ _ _ hl⟨L',e1,hi⟩=>⟨L',e1,hIm _ _ _ _ hl hi⟩) (λ_ _ _ _ hi=>hi) (λ_ _ _ _ _ hi=>hi) ⟨L,rfl,h0⟩ hy
 obtain⟨nx,hrun,hcall⟩:=hs w2 hw2.pre
 have hev:a.eval g=e.ev g:=by rw[lk,he]
 have hnx:nx=.enter f0 (Value.func (.yield l) #[] #[]::cap).toArray:=by
  grind [xH,invoke]
 subst hnx
 have hres:(resolve a.eval (rangeCall g l) 0).run P w2=.ok { target:=.fn (.func f0) cap.toArray,args:=#[.func (.yield l) #[] #[]] } w2:=by
  have hcst:∀v,a.eval (.const v)=v:=λ_=>rfl
  simp[resolve,rangeCall,hev,hgv,hcst,xH]
 have hinv:(invoke (.fn (.func f0) cap.toArray) #[.func (.yield l) #[] #[]]).run P w2=.ok (.enter f0 (Value.func (.yield l) #[] #[]::cap).toArray) w2:=by
  simp[invoke,hc0]
 have hback:∀v w3,(∃h' B,St ⟨w2,h,((l,Obj.loop lp)::L).map (·.1)⟩ h' B w3/\ItR C Sp Pm xs (.returned v) h' B) ->
   To P Φ (lone (((roundFrame l0 f).atR { a with defers:=[]++a.defers } (.inRangeFunc l::k)).finish v) cs w3):=by
  rintro v w3 ⟨h',B,hst,hR⟩
  rw[finish_atR_inRangeFunc]
  have hS3:St X h' B w3:=by
   have:=Y8 (A:=(l,.loop lp)::L) (F:=[]) (by simpa using hw2) hst
   simpa using this
  have dN:=hst.le
  rcases hR with⟨_,hCS⟩|⟨ch,hx,_⟩
  .rcases hCS with⟨L',rfl,hI⟩|hF
   .have hb:w3.heap[l]? = some (.loop lp):=hS3.own _ (xB ..)
    have hend:(Instr.endLoop l).run P w3=.ok none { w3 with heap:=w3.heap.setIfInBounds l (.loop { lp with state:=.exhausted }) }:=by
     simp[Instr.endLoop,Zi,getObj,setObj,Z9,hb,lp]
    refine .step (stepR_endRangeFunc hend) ?_
    have hS4:=hS3.write (i:=0) rfl (.loop { lp with state:=.exhausted })
    exact next h' L' dN hI _ (hS4.sub (List.sublist_cons_self ..)) a cs Φ hn he hds hF
   .exact hF.elim
  .cases hx
 have hraise:∀ch w3,(∃h' B,St ⟨w2,h,((l,Obj.loop lp)::L).map (·.1)⟩ h' B w3/\ItR C Sp Pm xs (.panicked ch) h' B) ->
   To P Φ (lone (((roundFrame l0 f).atR { a with defers:=[]++a.defers } (.inRangeFunc l::k)).raise ch) cs w3):=by
  rintro ch w3 ⟨h',B,hst,hR⟩
  rcases hR with⟨hx,_⟩|⟨ch',hx,hP⟩
  .cases hx
  .exact hP.elim
 refine .step (stepR_rangeFunc henter hres hinv) ?_
 exact hcall _ cs Φ hback hraise
def HF.lend(h:HF)(L:LH):HF:=λb=>match L.find? (λp=>p.1==b)with|some p=>some p.2|none=>h b
theorem HF.OI{h:HF}:∀{L:LH},(L.map (·.1)).Nodup->∀p∈L,h.lend L p.1=some p.2
 |[],_,p,hp=>(jA hp).elim
 |q::L,hd,p,hp=>by
  rw[kG,xR]at hd
  rcases kC.1 hp with rfl|hp
  .simp[HF.lend]
  .have hne:(q.1==p.1)=false:=by
    grind
   have:=HF.OI (h:=h) hd.2 p hp
   grind [HF.lend]
theorem HF.VF{h:HF}{L:LH}(hf:∀p∈L,h p.1=none):h.le (h.lend L):=λb o hb=>by
 grind [HF.lend]
section steps
variable {P:Program} {b:Frame} {n:Nat} {ops:Array Oper} {F:List Frame->(Machine->Prop)->Prop} {e:Env} {ds:List Deferred} {X:Cx} {h:HF} {L:LH} {K:Env->HF->LH->Prop}
variable {d:Option Nat} {ty:TypeId} {pos:String} {af:Array Edge} {g:Option (Nat×Bool)}
theorem TJ(hc:∀args w,(callFunc f args).run P w=.ok (.enter f args) w)(hs:∀h1,h.le h1->(∀p∈L,h1 p.1=some p.2)->Ret P f vs h1 v)(hvs:ass.toList.map e.ev=vs)(t':K (pute e d v) h L)(hg:guardB ops e ⟨d,.call ⟨.value (.func f),ass,ats⟩,ty,pos,af,g⟩=true:=by rfl):
  Stp P b n ops F ds X ⟨d,.call ⟨.value (.func f),ass,ats⟩,ty,pos,af,g⟩ e h L K:=by
 unfold Stp
 rw[if_pos hg]
 intro w hw
 have harr:ass.map e.ev=vs.toArray:=zR (by simp[←hvs])
 have hr:(execOp e.ev ⟨d,.call ⟨.value (.func f),ass,ats⟩,ty,pos,af,g⟩).run P w=.ok (.enter f vs.toArray) w:=by
  simp[execOp,resolve,Zy,xH,invoke,harr,hc]
 rw[hr]
 have hp1:Pre (h.lend L) [] w:=⟨λk o hk=>by
  unfold HF.lend at hk
  cases hq:L.find? (λp=>p.1==k)with
  |none=>rw[hq]at hk;exact hw.imm k o hk
  |some p=>
   rw[hq]at hk
   have h2:p.1=k:=by simpa using List.find?_some hq
   have h3:p.2=o:=by simpa using hk
   rw[←h2,←h3];exact hw.own p (List.mem_of_find?_eq_some hq),λ_ hp=>(jA hp).elim,Yx,λ_ hp=>(jA hp).elim⟩
 refine mn (by simp) (j8 (sK.mono (hs _ (HF.VF hw.free) (HF.OI hw.dis) w hp1) ?_))
 rintro x w' ⟨h',B,hst,rfl,rfl,rfl⟩
 refine⟨h,L,⟨hst.os.trans hw.os,hst.tape.trans hw.tape,hst.output.trans hw.output,kK hw.size hst.size,λb' hb' hM=>?_,hw.le,hw.old,λb' o hb'=>?_,λp hp=>?_,hw.dis,hw.free,hw.new⟩,t'⟩
 .rw[hst.keep b' (Zs hb' hw.size) (by simp)];exact hw.keep b' hb' hM
 .rw[hst.keep b' (ie (hw.imm b' o hb')) (by simp)];exact hw.imm b' o hb'
 .rw[hst.keep p.1 (ie (hw.own p hp)) (by simp)];exact hw.own p hp
end steps
section
variable {P:Program} {b:Frame} {n:Nat} {k:List Item} {F:List Frame->(Machine->Prop)->Prop} {e:Env} {ds:List Deferred} {X:Cx} {h:HF} {L:LH} {ops:Array Oper} {l:List Oper} {ty:TypeId} {pos:String} {af:Array Edge} {g:Option (Nat×Bool)}
theorem K0(hro:b.roundOf=none)(hvs:as.toList.map e.ev=vs)(t':TO P b n ops l k F e ({ target:=.fn (.func f) #[],args:=vs.toArray }::ds) X h L)(hg:guardB ops e ⟨none,.defer ⟨.value (.func f),as,ats⟩,ty,pos,af,g⟩=true:=by rfl):TO P b n ops (⟨none,.defer ⟨.value (.func f),as,ats⟩,ty,pos,af,g⟩::l) k F e ds X h L:=by
 intro w hw is hi a cs Φ hn he hds hF
 obtain⟨i,js,rfl,ho,hj⟩:=rS hi
 have hwt:=(fY (ops:=ops) he).trans hg
 have hst:=stepGR_op (P:=P) (b:=b) (k:=k) (cs:=cs) (w:=w) (rest:=js) ho hwt
 have harr:as.map e.ev=vs.toArray:=zR (by simp[←hvs])
 have hr:(execOp a.eval ⟨none,.defer ⟨.value (.func f),as,ats⟩,ty,pos,af,g⟩).run P w=.ok (.defer { target:=.fn (.func f) #[],args:=vs.toArray }) w:=by
  rw[lk,he]
  simp[execOp,resolve,Zy,xH,harr]
 have hs:Oper.semAt b.roundOf a.eval ⟨none,.defer ⟨.value (.func f),as,ats⟩,ty,pos,af,g⟩=execOp a.eval ⟨none,.defer ⟨.value (.func f),as,ats⟩,ty,pos,af,g⟩:=by rw[hro];rfl
 refine .step (m₁:=lone (b.atR { a with defers:={ target:=.fn (.func f) #[],args:=vs.toArray }::a.defers } (.inRegion ops js::k)) cs w) ?_ (t' w hw js hj { a with defers:={ target:=.fn (.func f) #[],args:=vs.toArray }::a.defers } cs Φ hn he (by rw[hds]) hF)
 refine step_lone_go ?_
 have hfin:=iw (b:=b) { a with defers:={ target:=.fn (.func f) #[],args:=vs.toArray }::a.defers } js k ho undef
 rw[hst,hs]
 simp only[stepG.apply,Sem.runT_eq,hr,GStep.bare_after]
 exact congrArg (λfr=>GStep.go { frame:=fr,callers:=cs,status:=.running,dying:=none } w) hfin
end
theorem NJ{g:FuncId}{h:HF}{L:LH}{R:Ending->HF->LH->Prop}{R':HF->LH->Prop}(hf:P.funcs[f]? = some fn)(hg:P.funcs[g]? = some gn)(hb:gn.body=some c)(hm:gn.ntmps=m)(dN:Zt cap.length m=true)(hc:∀args w,(callFunc g args).run P w=.ok (.enter g args) w)(t:∀X':Cx,X'.h0=h->TT P (deferFrame g) m [.code c] (J8 P X' .returning R') (envArgs cap) [] X' h A)(hL:L=A++Fr)(fin:∀h' B,h.le h'->R' h' B->∀a:Act,envOf a=e->∀w,St X h' (B++Fr) w->∃v h2 B2,(results fn a.tmps).run P w=.ok v w/\St X h2 B2 w/\R (.returned v) h2 B2):
  TT P (bodyFrame f) n (.code .ret::k) (kU P X R) e [{ target:=.fn (.func g) #[],args:=cap.toArray }] X h L:=by
 intro w hw a cs Φ hn he hds hF
 obtain⟨cc,cs',rfl,h1,_⟩:=hF
 subst hL
 refine .step (stepR_ret rfl) ?_
 have hinv:(invoke (.fn (.func g) #[]) cap.toArray).run P w=.ok (.enter g cap.toArray) w:=by simp[invoke,hc]
 refine .step (step_defer (fr:={ (bodyFrame f).atR a (.code .ret::k)with mode:=.returning }) (by simp) hds rfl hinv) ?_
 have hle':=jN dN
 have henter:qS P g cap.toArray .deferred=(deferFrame g).atR { tmps:=cap.toArray++YK (m-cap.length) undef,defers:=[] } [.code c]:=by
  grind [qS,Y5,deferFrame]
 rw[henter]
 refine t ⟨w,h,A.map (·.1)⟩ rfl w (Y7 hw.pre.left) _ _ Φ (by simp;omega) (qU _ _) rfl ⟨_,cc::cs',rfl,rfl,?_⟩
 rintro w' ⟨h',B,hst,hR'⟩
 obtain⟨v,h2,B2,hv,hs2,hR⟩:=fin h' B hst.le hR' a he w' (hw.after hst)
 refine .step (iP (fn:=fn) (v:=v) rfl rfl rfl hf hv) ?_
 exact h1 v w' ⟨h2,B2,hs2,hR⟩
theorem DA{g:FuncId}{h:HF}{L:LH}{R:Ending->HF->LH->Prop}{R':HF->LH->Prop}(hf:P.funcs[f]? = some fn)(hg:P.funcs[g]? = some gn)(hb:gn.body=some c)(hm:gn.ntmps=m)(dN:Zt cap.length m=true)(hc:∀args w,(callFunc g args).run P w=.ok (.enter g args) w)(t:∀X':Cx,X'.h0=h->TT P (deferFrame g) m [.code c] (λcs Φ=>∃c rest,cs=c::rest/\c.mode=.panicking [{ v:=pv,recovered:=false }]/\J8 P X' (.panicking [{ v:=pv,recovered:=true }]) R' ({ c with mode:=.panicking [{ v:=pv,recovered:=true }] }::rest) Φ) (envArgs cap) [] X' h A)(hL:L=A++Fr)(fin:∀h' B,h.le h'->R' h' B->∀a:Act,envOf a=e->∀w,St X h' (B++Fr) w->∃v h2 B2,(results fn a.tmps).run P w=.ok v w/\St X h2 B2 w/\R (.returned v) h2 B2):
  TP P (bodyFrame f) n [{ v:=pv,recovered:=false }] (kU P X R) e [{ target:=.fn (.func g) #[],args:=cap.toArray }] X h L:=by
 intro w hw a cs Φ todo hn he hds hF
 obtain⟨cc,cs',rfl,h1,_⟩:=hF
 subst hL
 have hinv:(invoke (.fn (.func g) #[]) cap.toArray).run P w=.ok (.enter g cap.toArray) w:=by simp[invoke,hc]
 refine .step (step_defer (fr:={ (bodyFrame f).atR a todo with mode:=.panicking [{ v:=pv,recovered:=false }] }) (by simp) hds rfl hinv) ?_
 have hle':=jN dN
 have henter:qS P g cap.toArray .deferred=(deferFrame g).atR { tmps:=cap.toArray++YK (m-cap.length) undef,defers:=[] } [.code c]:=by
  grind [qS,Y5,deferFrame]
 rw[henter]
 refine t ⟨w,h,A.map (·.1)⟩ rfl w (Y7 hw.pre.left) _ _ Φ (by simp;omega) (qU _ _) rfl ⟨_,cc::cs',rfl,rfl,_,cc::cs',rfl,rfl,?_⟩
 rintro w' ⟨h',B,hst,hR'⟩
 obtain⟨v,h2,B2,hv,hs2,hR⟩:=fin h' B hst.le hR' a he w' (hw.after hst)
 refine .step (iP (fn:=fn) (v:=v) rfl rfl rfl hf hv) ?_
 exact h1 v w' ⟨h2,B2,hs2,hR⟩
section
variable {P:Program} {b:Frame} {n:Nat} {k:List Item} {F:List Frame->(Machine->Prop)->Prop} {e:Env} {ds:List Deferred} {X:Cx} {h:HF} {L:LH}
theorem HH(t:TT P b n (.code c::.inLoop c::k) F e ds X h L):TT P b n (.code (.loop c)::k) F e ds X h L:=
 λw hw a cs Φ h1 h2 h3 h4=>.step stepR_loop (t w hw a cs Φ h1 h2 h3 h4)
theorem Dz(t:TT P b n (.code c::.inLoop c::k) F e ds X h L):TT P b n (.inLoop c::k) F e ds X h L:=
 λw hw a cs Φ h1 h2 h3 h4=>.step stepR_inLoop (t w hw a cs Φ h1 h2 h3 h4)
end
def XRH{ρ : Type}(pe:Int->Value)(x:Except Int ρ)(φ : ρ->Value->HF->Prop)(r:Ending)(h':HF)(B:LH):Prop:=
 B=[]/\match x with
  |.ok u=>∃v,r=.returned v/\φ u v h'
  |.error p=>r=.panicked [{ v:=pe p,recovered:=false }]
abbrev LW{ρ : Type}(P:Program)(f:FuncId)(args:List Value)(h:HF)(pe:Int->Value)(x:Except Int ρ)(φ : ρ->Value->HF->Prop):Prop:=oX P f args.toArray h [] (XRH pe x φ)
def exD{ρ : Type}[Inhabited ρ]:Except Int ρ->ρ
 |.ok r=>r
 |.error _=>default
def exOk{ρ : Type}:Except Int ρ->Prop
 |.ok _=>True
 |.error _=>False
theorem V2[Inhabited ρ]{x:Except Int ρ}(h:exOk x):x=.ok (exD x):=by cases x with
 |ok r=>rfl
 |error p=>exact h.elim
section
variable {P:Program} {f:FuncId} {n:Nat} {k:List Item} {e:Env} {X:Cx} {h:HF} {L:LH} {fn:Func} {ρ : Type} {pe:Int->Value} {x:Except Int ρ} {φ : ρ->Value->HF->Prop}
theorem NI(ms:List Nat){u:ρ}(vs:List Value)(hf:P.funcs[f]? = some fn)(hr:fn.results=rs.toArray)(hv:qj P e L rs vs)(hx:x=.ok u)(hφ : φ u (retVal vs) h):
  TT P (bodyFrame f) n (.code .ret::k) (kU P X (XRH pe x φ)) e (marks ms) X h (L++markB ms):=
 yR ms (v:=retVal vs) hf (λa he w hw=>o9 hr hv a he w hw) (λ_ hw=>hw.sub (List.nil_sublist _)) (by subst hx;exact⟨rfl,_,rfl,hφ⟩)
theorem NL(ms:List Nat){p:Int}(hf:P.funcs[f]? = some fn)(hx:x=.error p):
  TP P (bodyFrame f) n [{ v:=pe p,recovered:=false }] (kU P X (XRH pe x φ)) e (marks ms) X h (L++markB ms):=
 Me ms hf (λ_ hw=>hw.sub (List.nil_sublist _)) (by subst hx;exact⟨rfl,rfl⟩)
end
section
variable {P:Program} {b:Frame} {n:Nat} {ops:Array Oper} {F:List Frame->(Machine->Prop)->Prop} {e:Env} {ds:List Deferred} {X:Cx} {h:HF} {L:LH} {K:Env->HF->LH->Prop}
variable {d:Option Nat} {ty:TypeId} {pos:String} {af:Array Edge} {g:Option (Nat×Bool)} {ρ : Type} {pe:Int->Value} {x:Except Int ρ} {φ : ρ->Value->HF->Prop}
theorem N2(hc:∀args w,(callFunc f args).run P w=.ok (.enter f args) w)(hs:LW P f vs h pe x φ)(hvs:as.toList.map e.ev=vs)(t':∀u v h',x=.ok u->h.le h'->φ u v h'->K (pute e d v) h' L)(tp:∀p h',x=.error p->h.le h'->∀e',AgE ops ⟨d,.call ⟨.value (.func f),as,ats⟩,ty,pos,af,g⟩ e e'->TP P b n [{ v:=pe p,recovered:=false }] F e' ds X h' L)(hg:guardB ops e ⟨d,.call ⟨.value (.func f),as,ats⟩,ty,pos,af,g⟩=true:=by rfl):
  Stp P b n ops F ds X ⟨d,.call ⟨.value (.func f),as,ats⟩,ty,pos,af,g⟩ e h L K:=
 HZ (A:=[]) (Fr:=L) hc hvs hs rfl (λv' h' B dN hR=>by
   obtain⟨rfl,hv⟩:=hR
   cases x with
   |ok u=>obtain⟨v,hv,hφ⟩:=hv;cases hv;exact t' _ _ _ rfl dN hφ
   |error p=>cases hv)
  (λch h' B dN hR=>by
   obtain⟨rfl,hv⟩:=hR
   cases x with
   |ok u=>obtain⟨v,hv,_⟩:=hv;cases hv
   |error p=>cases hv;exact tp _ _ rfl dN) hg
theorem Sc[Inhabited ρ](hc:∀args w,(callFunc f args).run P w=.ok (.enter f args) w)(hs:LW P f vs h pe x φ)(hok:exOk x)(hvs:as.toList.map e.ev=vs)(t':∀v h',h.le h'->φ (exD x) v h'->K (pute e d v) h' L)(hg:guardB ops e ⟨d,.call ⟨.value (.func f),as,ats⟩,ty,pos,af,g⟩=true:=by rfl):
  Stp P b n ops F ds X ⟨d,.call ⟨.value (.func f),as,ats⟩,ty,pos,af,g⟩ e h L K:=
 N2 hc hs hvs (λu v h' hx hl hφ=>by subst hx;exact t' v h' hl hφ) (λp h' hx=>by subst hx;exact hok.elim) hg
theorem yl[Inhabited ρ]{enc:ρ->Value}(hc:∀args w,(callFunc f args).run P w=.ok (.enter f args) w)(hs:FD P f vs h (exW pe enc x))(hok:exOk x)(hvs:as.toList.map e.ev=vs)(t':K (pute e d (enc (exD x))) h L)(hg:guardB ops e ⟨d,.call ⟨.value (.func f),as,ats⟩,ty,pos,af,g⟩=true:=by rfl):
  Stp P b n ops F ds X ⟨d,.call ⟨.value (.func f),as,ats⟩,ty,pos,af,g⟩ e h L K:=
 rG hc hs hvs (λu hu=>by
  obtain⟨r,hr,rfl⟩:=wm hu
  subst hr;exact t') (λp hp=>by
  obtain⟨q,hq,_⟩:=se hp
  subst hq;exact hok.elim) hg
end
abbrev XF{α : Type}(P:Program)(f:FuncId)(args:List Value)(h:HF)(R:Rp α)(E:TypeId)(xs:List α):Prop:=
 oX P f args.toArray h [] (λr h' G=>h'=h/\∃b c,r=.returned (.slice b xs.length c)/\cI R E h xs b c G)
section
variable {P:Program} {f:FuncId} {n:Nat} {k:List Item} {e:Env} {X:Cx} {h hh:HF} {L A G Q:LH} {fn:Func} {α : Type} {R:Rp α} {E:TypeId} {xs ys:List α} {base:Option Addr} {cap:Nat}
theorem St.forgetG(s:St X h (A++(G++Q)) w):St X X.h0 G w:=
 (s.sub (L':=G) ((List.sublist_append_left G Q).trans (List.sublist_append_right A _))).lower
theorem Vd(ms:List Nat)(hf:P.funcs[f]? = some fn)(hr:fn.results=rs.toArray)(hX:X.h0=hh)(hL:L=A++(G++Q))(hG:∀h1,cI R E h1 xs base cap G)(hv:qj P e L rs [.slice base xs.length cap])(hs:ys=xs):
  TT P (bodyFrame f) n (.code .ret::k) (kU P X (λr h' G=>h'=hh/\∃b c,r=.returned (.slice b ys.length c)/\cI R E hh ys b c G)) e (marks ms) X h (L++markB ms):=by
 subst hs hL
 exact yR ms (v:=.slice base ys.length cap) hf (λa he w hw=>o9 hr hv a he w hw) (λw hw=>hw.forgetG) ⟨hX,_,_,rfl,hG _⟩
end
theorem cI.flat{R:Rp α}{h h1:HF}{cap:Nat}(hR:∀h h' cs x,R.rep h cs x->R.rep h' cs x)(g:cI R E h xs base cap G):cI R E h1 xs base cap G:=by
 have hc:∀{xs:List α}{cl:List Value},dC R h cl xs->dC R h1 cl xs:=by
  intro xs
  induction xs with
  |nil=>intro cl e;exact e
  |cons x xs ih=>rintro cl ⟨cs,rest,e,hl,hr,ht⟩;exact⟨cs,rest,e,hl,hR _ _ _ _ hr,ih ht⟩
 rcases g with g|⟨bk,cl,sp,e1,e2,e3⟩
 .exact .inl g
 .exact .inr ⟨bk,cl,sp,e1,hc e2,e3⟩
theorem Oa{fl args:List Value}{h:HF}(hc:∀args w,(callFunc f args).run P w=.ok (.enter f args) w)(hr:XG P f (fl++args++cap) h A v):
  ra P (.func (.func f) fl.toArray cap.toArray) args h A v:=by
 intro w hp
 refine⟨.enter f (fl++args++cap).toArray,?_,j8 (hr w hp)⟩
 simp[xH,invoke,hc]
section
variable {P:Program} {e:Env} {X:Cx} {h:HF} {L:LH} {d:Option Nat} {ty:TypeId} {pos:String} {af:Array Edge} {g:Option (Nat×Bool)}
theorem Xh{t:TypeId}{a c:Int}(hx:e.ev x=.int .i64 a)(hy:e.ev y=.int .i64 c)(hc:c≠0):
  ∀w,St X h L w->(execOp e.ev ⟨d,.binOp .quo t x y u,ty,pos,af,g⟩).run P w=.ok (.value (.int .i64 (vC .i64 (a.tdiv c)))) w:=λw _=>by
 simp[execOp,hx,hy,eqGuard,binOp,Op.intDiv,hc]
end
theorem Nf{N:Nat}(h:i<N)(hb:N<=9223372036854775807):jC .i64 (IntKind.i64.wrap (((N-i:Nat):Int)-1))=.int .i64 (((N-(i+1):Nat)):Int):=by grind [kW]
section
variable {P:Program} {e:Env} {X:Cx} {h:HF} {L:LH} {d:Option Nat} {ty:TypeId} {pos:String} {af:Array Edge} {g:Option (Nat×Bool)}
theorem fU(hx:e.ev x=.pointer (some q)):
  ∀w,St X h L w->(execOp e.ev ⟨d,.nilCheck x,ty,pos,af,g⟩).run P w=.ok (.value (.pointer (some q))) w:=λw _=>by
 simp[execOp,hx]
end
theorem RM:∀(c A R:List Value),cut (A++(c++R)) A.length c.length=some c
 |[],A,R=>rfl
 |v::c,A,R=>by
  have h1:nth (A++(v::c++R)) A.length=some v:=by rw[hZ];simp
  have h2:=RM c (A++[v]) R
  grind [vA,xA,List.length_nil,zC,cut]
theorem Dh{α : Type}{C:α->List Value}{sz:Nat}(hC:∀x,(C x).length=sz):∀{xs:List α}{i:Nat}{y:α},xs[i]? = some y->∃a b,xs=a++y::b/\a.length=i/\(a.flatMap C).length=i*sz
 |[],i,y,h=>by simp at h
 |x::xs,0,y,h=>by simp at h;subst h;exact⟨[],xs,rfl,rfl,by simp⟩
 |x::xs,i+1,y,h=>by
  obtain⟨a,b,e,h1,h2⟩:=Dh hC (xs:=xs) (i:=i) (y:=y) (by simpa using h)
  grind
theorem UR(hC:∀x,(C x).length=sz){y:α}(h:xs[i]? = some y):cut (xs.flatMap C++sp) (i*sz) sz=some (C y):=by
 obtain⟨a,b,rfl,_,h2⟩:=Dh hC h
 grind [RM]
theorem NR(hC:∀x,(C x).length=sz){u y:α}(h:xs[i]? = some u):splice (xs.flatMap C++sp) (i*sz) (C y)=(xs.set i y).flatMap C++sp:=by
 obtain⟨a,b,rfl,h1,h2⟩:=Dh hC h
 grind [oK]
theorem wv{α : Type}{R:Rp α}{C:α->List Value}(hR:∀h cs x,R.rep h cs x->cs=C x){h:HF}:∀{xs:List α}{cl:List Value},dC R h cl xs->cl=xs.flatMap C
 |[],cl,e=>e
 |x::xs,cl,⟨cs,rest,e,_,hr,ht⟩=>by rw[e,hR _ _ _ hr,wv hR ht];rfl
theorem Di{α : Type}{R:Rp α}{C:α->List Value}(hR:∀h x,R.rep h (C x) x)(hC:∀x,(C x).length=R.sz)(h:HF):∀(xs:List α),dC R h (xs.flatMap C) xs
 |[]=>rfl
 |x::xs=>⟨C x,xs.flatMap C,rfl,hC x,hR h x,Di hR hC h xs⟩
theorem pB{α : Type}{C:α->List Value}{sz:Nat}(hC:∀x,(C x).length=sz):∀(xs:List α),(xs.flatMap C).length=xs.length*sz
 |[]=>by simp
 |x::xs=>by rw[List.flatMap_cons,vA,hC,pB hC xs,xA,Nat.add_mul];omega
theorem PP{t:TypeId}(hT:P.underlying t=some (.slice E))(hz:∀w,(zeroValue E).run P w=.ok z w)(hzc:z.cells=zs.toArray)(hzl:zs.length=sz)(h1:∀v∈zs,one v=true)(hs0:0<sz){cc:Nat}(hb:w.heap[bk]? = some (.cells cl.toArray E (0,0)))(dN:off+(n+1)*sz<=cl.length)(ty:TypeId):
  ∃vs,vs.length=(n+1)*sz/\(Builtin.clear_ #[t] ty #[.slice (some ⟨bk,off,none⟩) (n+1) cc]).run P w=.ok (.tuple #[]) { w with heap:=w.heap.setIfInBounds bk (.cells (splice cl off vs).toArray E (0,0)) }:=by
 refine⟨(Builtin.zeroCells z.cells (n+1)).toList,?_,?_⟩
 .simp[Builtin.zeroCells,hzc,hzl]
 .have hlen:(Builtin.zeroCells z.cells (n+1)).toList.length=(n+1)*sz:=by simp[Builtin.zeroCells,hzc,hzl]
  have h9:=km (P:=P) off (Builtin.zeroCells z.cells (n+1)).toList 0 cl w hb (by rw[hlen];simpa using dN) (λv hv=>by
   simp only[Builtin.zeroCells,Array.toList_map,xJ]at hv
   obtain⟨j,_,rfl⟩:=hv
   rw[hzc]
   have hj:j%zs.length<zs.length:=Nat.mod_lt _ (by omega)
   simp only[List.size_toArray]
   rw[getElem!_pos zs.toArray (j%zs.length) (by simpa using hj)]
   exact h1 _ (by simp))
  rw[Nat.add_zero]at h9
  simp only[Builtin.clear_,kL]
  simp[run_underlying hT,hz,h9]
section
variable {P:Program} {b:Frame} {n:Nat} {ops:Array Oper} {F:List Frame->(Machine->Prop)->Prop} {e:Env} {ds:List Deferred} {X:Cx} {h:HF} {L:LH} {K:Env->HF->LH->Prop}
variable {d:Option Nat} {ty:TypeId} {pos:String} {af:Array Edge} {g:Option (Nat×Bool)}
theorem pw{t:TypeId}{lo:Operand}{n cap:Nat}(hT:P.underlying t=some (.slice E))(hS:tySz P E=some (sz,a))(hx:e.ev x=.slice (some ⟨bk,0,none⟩) n cap)(hlo:e.ev lo=.int .i64 (i:Nat))(hi:i<n)(hc:n<=cap)(hm:n-i=m):
  ∀w,St X h L w->(execOp e.ev ⟨d,.slice t x (some lo) none none,ty,pos,af,g⟩).run P w=.ok (.value (.slice (some ⟨bk,i*sz,none⟩) m (cap-i))) w:=λw hw=>by
 subst hm
 have h2:¬(cap=i):=by omega
 have h3:(⟨bk,0,none⟩:Addr).add (i*sz)=⟨bk,i*sz,none⟩:=oJ bk (i*sz)
 simp[execOp,Instr.sliceAt,Instr.slice,Instr.sliceBounds,Instr.sliceBound,hx,hlo,asIntOf,run_underlying hT,eW hS,h2,h3,Nat.le_of_lt hi]
theorem R5(i:Nat){t:TypeId}{cc:Nat}(hT:P.underlying t=some (.slice E))(hz:∀w,(zeroValue E).run P w=.ok z w)(hzc:z.cells=zs.toArray)(hzl:zs.length=sz)(h1:∀v∈zs,one v=true)(hs0:0<sz)(hL:nth L i=some (bk,.cells cl.toArray E (0,0)))(hx:e.ev x=.slice (some ⟨bk,off,none⟩) (m+1) cc)(dN:off+(m+1)*sz<=cl.length)(t':∀vs,vs.length=(m+1)*sz->K (pute e d (.tuple #[])) h (setNth L i (bk,.cells (splice cl off vs).toArray E (0,0))))(hg:guardB ops e ⟨d,.call ⟨.builtin .clear,#[x],#[t]⟩,ty,pos,af,g⟩=true:=by rfl):Stp P b n ops F ds X ⟨d,.call ⟨.builtin .clear,#[x],#[t]⟩,ty,pos,af,g⟩ e h L K:=
 gZ hg λw hw=>by
  have hb:w.heap[bk]? = some (.cells cl.toArray E (0,0)):=by
   have h2:=hL
   rw[hZ]at h2
   exact hw.own _ (xD h2)
  obtain⟨vs,hvl,hr⟩:=PP (P:=P) (cc:=cc) hT hz hzc hzl h1 hs0 hb dN ty
  refine⟨.tuple #[],_,h,_,?_,hw.write hL _,t' vs hvl⟩
  simp only[execOp,resolve,invoke,builtin]
  simp[hx,hr]
end
section
variable {P:Program} {b:Frame} {n:Nat} {ops:Array Oper} {F:List Frame->(Machine->Prop)->Prop} {e:Env} {ds:List Deferred} {X:Cx} {h:HF} {L:LH} {K:Env->HF->LH->Prop}
variable {d:Option Nat} {ty:TypeId} {pos:String} {af:Array Edge} {g:Option (Nat×Bool)}
theorem Vp{R:Rp α}(hc:∀args w,(callFunc f args).run P w=.ok (.enter f args) w)(hs:XF P f vs h R E xs)(hvs:ass.toList.map e.ev=vs)(t':∀bb c G,cI R E h xs bb c G->K (pute e d (.slice bb xs.length c)) h (L++G))(hg:guardB ops e ⟨d,.call ⟨.value (.func f),ass,ats⟩,ty,pos,af,g⟩=true:=by rfl):
  Stp P b n ops F ds X ⟨d,.call ⟨.value (.func f),ass,ats⟩,ty,pos,af,g⟩ e h L K:=by
 unfold Stp
 rw[if_pos hg]
 intro w hw
 have harr:ass.map e.ev=vs.toArray:=zR (by simp[←hvs])
 have hr:(execOp e.ev ⟨d,.call ⟨.value (.func f),ass,ats⟩,ty,pos,af,g⟩).run P w=.ok (.enter f vs.toArray) w:=by
  simp[execOp,resolve,Zy,xH,invoke,harr,hc]
 rw[hr]
 refine mn (by simp) (j8 (sK.mono (hs w (hw.sub (List.nil_sublist _)).pre) ?_))
 rintro x w' ⟨h',B,hst,rfl,bb,c,rfl,hG⟩
 exact⟨h',_,(Y8 (A:=[]) (F:=L) hw hst).perm jF,t' bb c B hG⟩
end
section
variable {P:Program} {b:Frame} {n:Nat} {k:List Item} {F:List Frame->(Machine->Prop)->Prop} {ds:List Deferred} {X:Cx}
theorem Wx{J:HF->LH->Prop}(m0:Nat)(Inv:σ->Env->HF->LH->Prop)(μ : σ->Nat)(dn:σ->List Nat)(fin:∀s e h L,Inv s e h L->μ s=0->TA P b n l.toArray k F ds X J m0 (dn s) e h L)(step:∀s e h L,Inv s e h L->μ s≠0->nexts l.toArray (dn s)≠[]/\∀i∈nexts l.toArray (dn s),∀o,nth l i=some o->Stp P b n l.toArray F ds X o e h L (λe' h' L'=>J h' L'/\∃s',μ s=μ s'+1/\(i::dn s).Perm (dn s')/\Inv s' e' h' L')):
  ∀(m:Nat)(s:σ)(e:Env)(h:HF)(L:LH),μ s=m->Inv s e h L->TA P b n l.toArray k F ds X J (m+m0) (dn s) e h L:=by
 intro m
 induction m with
 |zero=>intro s e h L hm hI;rw[Nat.zero_add];exact fin s e h L hI hm
 |succ m ih=>
  intro s e h L hm hI
  obtain⟨h0,h1⟩:=step s e h L hI (by omega)
  rw[show m+1+m0=(m+m0)+1 from by omega]
  refine⟨λhn=>absurd hn h0,λi hi o ho=>Stp.mono ?_ (h1 i hi o (by rw[hZ];simpa using ho))⟩
  rintro e' h' L' ⟨hj,s',hs,hp,hI'⟩
  exact⟨hj,TA.perm (λx=>hp.mem_iff.symm) (ih s' e' h' L' (by omega) hI')⟩
theorem Vn{dn:List Nat}{h:HF}{L:LH}{Q:Nat->Env->HF->LH->Prop}(is:List Nat)(hn:nexts l.toArray dn=is)(h0:is≠[])(t:∀i∈is,∀o,nth l i=some o->Stp P b n l.toArray F ds X o e h L (Q i)):nexts l.toArray dn≠[]/\∀i∈nexts l.toArray dn,∀o,nth l i=some o->Stp P b n l.toArray F ds X o e h L (Q i):=by grind
end
theorem pmid{T X X':List α}{i:α}(h:(i::X).Perm X'):(i::(T++X)).Perm (T++X'):=List.perm_middle.symm.trans (List.Perm.append_left T h)
section
variable {P:Program} {b:Frame} {n:Nat} {ops:Array Oper} {F:List Frame->(Machine->Prop)->Prop} {e:Env} {ds:List Deferred} {X:Cx} {h:HF} {L:LH} {K:Env->HF->LH->Prop}
variable {d:Option Nat} {ty:TypeId} {pos:String} {af:Array Edge} {g:Option (Nat×Bool)}
theorem Ld{t:TypeId}{ln cp:Operand}(hT:P.underlying t=some (.slice E))(hz:zeroC P E=some [z])(hS:tySz P E=some (1,a))(hby:bytesOf P E=some uy)(hl:e.ev ln=.int .i64 (m:Nat))(hc:e.ev cp=.int .i64 (m:Nat))(hb:uy*m<=281474976710656)(h63:m<=9223372036854775807)(t':∀bk,K (pute e d (.slice (some ⟨bk,0,none⟩) m m)) h ((bk,.cells (List.replicate m z).toArray E (0,0))::L))(hg:guardB ops e ⟨d,.makeSlice t ln cp,ty,pos,af,g⟩=true:=by rfl):Stp P b n ops F ds X ⟨d,.makeSlice t ln cp,ty,pos,af,g⟩ e h L K:=
 gZ hg λw hw=>by
  obtain⟨i,hi,hby'⟩:∃i,P.info? E=some i/\i.bytes=uy:=by
   unfold bytesOf at hby
   cases hi:P.info? E with
   |none=>simp[hi]at hby
   |some i=>exact⟨i,rfl,by simpa[hi]using hby⟩
  have hsz:i.size=1:=by
   have:=eW hS w
   simpa[sizeOf,typeInfo,hi]using this
  obtain⟨zv,hzz,hzc⟩:∃zv,i.zero=some zv/\zv.cells=#[z]:=by
   unfold zeroC at hz
   cases hzz:i.zero with
   |none=>simp[hi,hzz]at hz
   |some zv=>exact⟨zv,rfl,by simp[hi,hzz]at hz;rw[mR,hz]⟩
  have hr:=run_make (P:=P) w t E i zv hT hi hzz .i64 .i64 (m:Int) (m:Int) (by omega) (Int.le_refl _) (by rw[hby'];omega) (by omega)
  have hcells:madeCells zv.cells ((m:Int).toNat*i.size)=(List.replicate m z).toArray:=by
   rw[hzc,hsz]
   apply Array.ext
   .simp[madeCells]
   .intro j h1 h2;simp[madeCells,Nat.mod_one]
  rw[hcells]at hr
  simp only[Int.toNat_natCast]at hr
  refine⟨_,_,h,_,?_,hw.alloc _,t' _⟩
  have e1:w.alloc (.cells (List.replicate m z).toArray E)={ w with heap:=w.heap.push (.cells (List.replicate m z).toArray E (0,0)) }:=rfl
  rw[e1]at hr
  simp[execOp,hl,hc,hr]
end
theorem Mj{F:List Frame->(Machine->Prop)->Prop}{h:HF}{L:LH}{K:Env->HF->LH->Prop}{o:Oper}(sl:List (Nat×Value))(hr:fy e sl)(t:Stp P b n ops F ds X o (upds e sl) h L K):Stp P b n ops F ds X o e h L K:=by
 rw[hr.upds]at t;exact t
theorem Wu{F:List Frame->(Machine->Prop)->Prop}{h:HF}{L:LH}(sl:List (Nat×Value))(hr:fy e sl)(t:TT P b n k F (upds e sl) ds X h L):TT P b n k F e ds X h L:=by
 rw[hr.upds]at t;exact t
section
variable {P:Program} {b:Frame} {n:Nat} {k:List Item} {F:List Frame->(Machine->Prop)->Prop} {e:Env} {ds:List Deferred} {X:Cx} {h:HF} {L:LH}
theorem lp3{γ:Type}{x0:ρ}(xs:List α)(sl:Nat->γ->List (Nat×Value))(hh:γ->HF)(LL:γ->LH)(J JX:Nat->γ->Prop)(hJX:∀i g,J i g->JX i g)(Lf:List α->Nat->γ->ρ)(g0:γ)(hb:xs.length<=9223372036854775807)(hs:x0=Lf xs 0 g0)(hJ:J 0 g0)(after:∀i g,i<=xs.length->x0=Lf [] i g->JX i g->∀e',TT P b n k F (upds e' (sl i g)) ds X (hh g) (LL g))(cons:∀i g y r,xs.drop i=y::r->decide ((i:Int)<(xs.length:Int))=true->xs[i]? = some y->i<xs.length->xs.length<=9223372036854775807->x0=Lf (y::r) i g->J i g ->
   (∀i' g' {e'},x0=Lf [] i' g'->JX i' g'->(hi:i'<=xs.length:=by omega)->(hr:fy e' (sl i' g'):=by exact rds)->TT P b n k F e' ds X (hh g') (LL g')) ->
   (∀g' {e'},x0=Lf r (i+1) g'->J (i+1) g'->(hr:fy e' (sl (i+1) g'):=by exact rds)->TT P b n (.inLoop c::.inBlock id::k) F e' ds X (hh g') (LL g')) ->
   ∀e',TT P b n (.code c::.inLoop c::.inBlock id::k) F (upds e' (sl i g)) ds X (hh g) (LL g))(nil:∀i g,xs.drop i=[]->decide ((i:Int)<(xs.length:Int))=false->(∀e',fy e' (sl i g)->TT P b n k F e' ds X (hh g) (LL g)) ->
   ∀e',TT P b n (.code c::.inLoop c::.inBlock id::k) F (upds e' (sl i g)) ds X (hh g) (LL g):=by exact ndA)(h0:fy e (sl 0 g0):=by exact rds)(hw:∀w,St X h L w->St X (hh g0) (LL g0) w:=by exact sws):
  TT P b n (.code (.block id (.loop c))::k) F e ds X h L:=by
 refine fZ (ι:=Nat×γ) (λi=>sl i.1 i.2) (λi=>hh i.2) (λi=>LL i.2) (λi=>i.1<=xs.length/\x0=Lf [] i.1 i.2/\JX i.1 i.2) ?_ (λhx=>?_)
 .rintro⟨i,g⟩ ⟨h1,h2,h3⟩ e'
  exact after i g h1 h2 h3 e'
 .refine i9 (ι:=Nat×γ×List α) (λi=>sl i.1 i.2.1) (λi=>hh i.2.1) (λi=>LL i.2.1) (λi=>xs.drop i.1=i.2.2/\i.1<=xs.length/\x0=Lf i.2.2 i.1 i.2.1/\J i.1 i.2.1) (λi=>i.2.2.length) (0,g0,xs) h0 hw ⟨rfl,jH _,hs,hJ⟩ ?_
  rintro⟨i,g,s⟩ ⟨hd,hi,hs,hJ⟩ ag e'
  dsimp only at hd hi hs hJ
  rcases s with _|⟨y,r⟩
  .exact nil i g hd (oW hd) (λe'' hr=>hx (i,g) e'' ⟨hi,hs,hJX _ _ hJ⟩ hr) e'
  .exact cons i g y r hd (wp hd) (ui hd) (iy hd) hb hs hJ (λi' g' e'' a b c d=>hx (i',g') e'' ⟨c,a,b⟩ d)
    (λg' e'' a b hr=>ag (i+1,g',r) e'' (Nat.lt_succ_self _) ⟨ll hd,iy hd,a,b⟩ hr) e'
end
end
variable {h:HF}
section
section
variable {α : Type} {R:Rp α} {T:TypeId}
def V3(_:HF)(v:Value)(x:Option Addr×Nat×Nat):Prop:=v=.slice x.1 x.2.1 x.2.2
def FRg(R:Rp α)(T:TypeId)(h:HF):List (Int×Option Addr×Nat×Nat)->List (Int×List α)->LH->Prop
 |[],[],G=>G=[]
 |(k,x)::m,(k',xs)::f,G=>k=k'/\x.2.1=xs.length/\∃G1 G2,G=G1++G2/\cI R T h xs x.1 x.2.2 G1/\FRg R T h m f G2
 |_,_,_=>False
theorem V3.mono:Ac V3:=λ_ _ _ _ _ e=>e
theorem FRg.mono(hR:R.Mono){h h':HF}(hl:h.le h'):∀{m:List (Int×Option Addr×Nat×Nat)}{f:List (Int×List α)}{G:LH},FRg R T h m f G->FRg R T h' m f G
 |[],[],_,e=>e
 |(_,_)::_,(_,_)::_,_,⟨a,b,G1,G2,c,d,t⟩=>⟨a,b,G1,G2,c,d.mono hR hl,FRg.mono hR hl t⟩
 |[],(_,_)::_,_,x=>x.elim
 |(_,_)::_,[],_,x=>x.elim
theorem FRg.get{h:HF}(k:Int):∀{m:List (Int×Option Addr×Nat×Nat)}{f:List (Int×List α)}{G:LH},FRg R T h m f G ->
  ∃b c G1 G2,mgetD m k (none,0,0)=(b,(mgetD f k []).length,c)/\cI R T h (mgetD f k []) b c G1/\G.Perm (G1++G2) /\
   ∀b' c' xs' G1',cI R T h xs' b' c' G1'->∃G',FRg R T h (mput m k (b',xs'.length,c')) (mput f k xs') G'/\G'.Perm (G1'++G2)
 |[],[],G,e=>by
  subst e
  refine⟨none,0,[],[],rfl,cI.nil,List.Perm.refl _,λb' c' xs' G1' hG=>⟨G1',⟨rfl,rfl,G1',[],by simp,hG,rfl⟩,by simp⟩⟩
 |(k0,x)::m,(k',xs)::f,G,⟨e,hn,G1,G2,hG,hg,t⟩=>by
  subst e hG
  by_cases hk:k=k0
  .subst hk
   refine⟨x.1,x.2.2,G1,G2,?_,?_,List.Perm.refl _,λb' c' xs' G1' hG'=>⟨G1'++G2,?_,List.Perm.refl _⟩⟩
   .simp[mgetD,mget?,←hn]
   .simpa[mgetD,mget?]using hg
   .simp only[mput,if_true]
    exact⟨rfl,rfl,G1',G2,rfl,hG',t⟩
  .obtain⟨b,c,H1,H2,h1,h2,h3,h4⟩:=FRg.get k t
   refine⟨b,c,H1,G1++H2,?_,?_,?_,λb' c' xs' G1' hG'=>?_⟩
   .simpa[mgetD,mget?,hk]using h1
   .simpa[mgetD,mget?,hk]using h2
   .refine(List.Perm.append_left G1 h3).trans ?_
    rw[←zC,←zC];exact List.Perm.append_right H2 jF
   .obtain⟨G',g1,g2⟩:=h4 b' c' xs' G1' hG'
    refine⟨G1++G',?_,?_⟩
    .simp only[mput,hk,if_false]
     exact⟨rfl,hn,G1,G',rfl,hg,g1⟩
    .refine(List.Perm.append_left G1 g2).trans ?_
     rw[←zC,←zC];exact List.Perm.append_right H2 jF
 |[],(_,_)::_,_,x=>x.elim
 |(_,_)::_,[],_,x=>x.elim
theorem FRg.keys{h:HF}:∀{m:List (Int×Option Addr×Nat×Nat)}{f:List (Int×List α)}{G:LH},FRg R T h m f G->m.map (·.1)=f.map (·.1)
 |[],[],_,_=>rfl
 |(_,_)::_,(_,_)::_,_,⟨a,_,_,_,_,_,t⟩=>by simp[a,FRg.keys t]
 |[],(_,_)::_,_,x=>x.elim
 |(_,_)::_,[],_,x=>x.elim
theorem FRg.mem{h:HF}:∀{m:List (Int×Option Addr×Nat×Nat)}{f:List (Int×List α)}{G:LH},FRg R T h m f G->(m.map (·.1)).Nodup->∀p∈m,p.2.2.1=(mgetD f p.1 []).length/\∃G1,(∀q∈G1,q∈G)/\cI R T h (mgetD f p.1 []) p.2.1 p.2.2.2 G1
 |[],[],_,_,_,_,hp=>(jA hp).elim
 |(k,x)::m,(k',xs)::f,G,⟨e,hn,G1,G2,hG,hg,t⟩,hnd,p,hp=>by
  subst e hG
  rw[kG,xR]at hnd
  rcases kC.1 hp with rfl|hp
  .exact⟨by simp[mgetD,mget?,hn],G1,λq hq=>List.mem_append_left _ hq,by simpa[mgetD,mget?]using hg⟩
  .have hne:¬p.1=k:=λe=>hnd.1 (by have h9:=YI (f:=(·.1)) hp;rw[e]at h9;exact h9)
   obtain⟨h1,H,h2,h3⟩:=FRg.mem t hnd.2 p hp
   exact⟨by simpa[mgetD,mget?,hne]using h1,H,λq hq=>List.mem_append_right _ (h2 q hq),by simpa[mgetD,mget?,hne]using h3⟩
 |[],(_,_)::_,_,x,_,_,_=>x.elim
 |(_,_)::_,[],_,x,_,_,_=>x.elim
theorem OF{β : Type}:∀{f:List (Int×β)}(z:β),(f.map (·.1)).Nodup->f=f.map λp=>(p.1,mgetD f p.1 z)
 |[],_,_=>rfl
 |(k,x)::f,z,hn=>by
  rw[kG,xR]at hn
  rw[kG]
  congr 1
  .simp[mgetD,mget?]
  .have ih:=OF z hn.2
   conv=>lhs;rw[ih]
   apply List.map_congr_left
   intro p hp
   have hne:¬p.1=k:=λe=>hn.1 (by have h9:=YI (f:=(·.1)) hp;rw[e]at h9;exact h9)
   simp[mgetD,mget?,hne]
theorem PF{h:HF}{h2:HF}(g:Int->List α):∀{es:List MapEntry}{m:List (Int×Option Addr×Nat×Nat)},sy (jC .i64) V3 h es m ->
  (∀p∈m,p.2.2.1=(g p.1).length/\SlC R h2 p.2.1 p.2.2.2 (g p.1))->sy (jC .i64) (VSl R) h2 es (m.map λp=>(p.1,g p.1))
 |[],[],_,_=>trivial
 |e::es,(k,x)::m,⟨a,b,c⟩,hg=>by
  obtain⟨h1,h3⟩:=hg (k,x) (xB ..)
  refine⟨a,⟨x.1,x.2.2,?_,h3⟩,PF g c λp hp=>hg p (qC _ hp)⟩
  rw[show e.val=.slice x.1 x.2.1 x.2.2 from b,h1]
 |[],_::_,x,_=>x.elim
 |_::_,[],x,_=>x.elim
theorem FRg.frozen(hR:R.Mono){h2:HF}{m:List (Int×Option Addr×Nat×Nat)}{f:List (Int×List α)}(hm:ki (jC .i64) V3 h o m)(hf:FRg R T h m f G)(hl:h.le h2)(hG:∀p∈G,h2 p.1=some p.2):
  ki (jC .i64) (VSl R) h2 o f:=by
 have hnd:=hm.nodup
 have hk:=hf.keys
 obtain⟨m',hp,hn,es,c,rfl,hE,h1,h3⟩:=hm
 have hmem:=hf.mem hnd
 have hfe:=OF (f:=f) [] (hk▸hnd)
 have hfm:f=m.map λp=>(p.1,mgetD f p.1 []):=by
  have e1:(f.map λp=>(p.1,mgetD f p.1 []))=(f.map (·.1)).map λk=>(k,mgetD f k []):=by rw[List.map_map];rfl
  have e2:(m.map λp=>(p.1,mgetD f p.1 []))=(m.map (·.1)).map λk=>(k,mgetD f k []):=by rw[List.map_map];rfl
  rw[e2,hk,←e1];exact hfe
 refine⟨m'.map λp=>(p.1,mgetD f p.1 []),?_,?_,es,c,rfl,PF (λk=>mgetD f k []) hE λp hp'=>?_,h1,h3⟩
 .have hpm:=hp.map λp=>(p.1,mgetD f p.1 ([]:List α))
  rw[←hfm]at hpm;exact hpm
 .rw[List.map_map];exact hn
 .obtain⟨h5,G1,h6,h7⟩:=hmem p (hp.mem_iff.1 hp')
  exact⟨h5,h7.frozen hR hl λq hq=>hG q (h6 q hq)⟩
end
end
end Go.Sg
