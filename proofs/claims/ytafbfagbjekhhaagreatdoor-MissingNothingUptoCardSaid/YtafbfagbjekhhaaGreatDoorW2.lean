import Derived.Recover
import Derived.Maps.RangeRun
import Derived.Conc.LoneCalls
import Derived.RangeFuncNested
import Derived.Laws.MakeOwn
import Derived.Test.YtafbfagbjekhhaaGreatDoorW1
/- A part of the proof of MissingNothing. -/
set_option linter.unusedVariables false
set_option linter.unusedSimpArgs false
set_option maxRecDepth 100000
open List renaming length_cons→zA,length_append→vA,not_mem_nil→kA,mem_cons_self→kB,mem_cons_of_mem→jC,append_assoc→vD,mem_cons→zE,mem_of_getElem?→xE,perm_append_comm→xG,map_cons→vH,mem_map→zM,all_eq_true→qQ,nodup_cons→zR,sublist_cons_self→zS,nodup_nil→V6,mem_map_of_mem→V9
open Go.Sg.Rp renaming int→jB,bH→qJ
open Go.IntKind renaming wrap→vB
open Go.Value renaming int→qC,func→jQ
open Bool renaming and_eq_true→zC,false_eq_true→We
open Nat renaming le_refl→vE,zero_le→xH,blt→zJ,le_trans→qM,le_of_ble_eq_true→jM,lt_of_lt_of_le→WV,ble→Xc
open Go.Obj renaming cells→jG
open Go.Deferred renaming ofValue→qH
open Go.Sg.HF renaming le_refl→kH,le→xJ
open Go.Result renaming andThen_ok→vJ
open Go.Sem renaming run_bind→zL,run_pure→WF,run→Xv
open Go.Addr renaming add→kP
open Go.Frame renaming enter→vR,atR→Wu
open Array renaming ext'→qS,replicate→Wa,foldl_toList→Xo
open Go.Instr renaming endLoop→Wh,getLoop→WJ,enterLoop→Xk,fill→Xn
open Go.Sg.St renaming start→Ww,after→WC
open Go.Sg.Env renaming ev→Xh

namespace Go.Sg
variable {P:Program}{X:Cx}{a r:Bool}{b:Frame}{bk m n off:Nat}{cl vs:List Go.Value}{ds:List Deferred}{e:Env}{fs:List Field}{ix x y:Operand}{k:List Item}{l:List Oper}{ops:Array Oper}{s:ByteArray}{u:TypeId}{v:Go.Value}
section
def eqv:Option Value->Option Value->Bool
 |some (.int _ a),some (.int _ b)=>a==b
 |some (.bool a),some (.bool b)=>a==b
 |_,_=>false
def okF(P:Program)(xs ys:List Value)(f:Field):Bool:=
 !(f.name == "_") && (match tySz P f.type with|some (1, false) => true|_ => false) && (match P.underlying f.type, nth xs f.offset, nth ys f.offset with
  |some (.int _),some (.int j _),some (.int k _)=>decide (j=k)
  |some .bool,some (.bool _),some (.bool _)=>true
  |_,_,_=>false)
theorem ux{t:TypeId}{xs:List Value}(hT:tySz P t=some (1,false))(hv:nth xs off=some v)(w:World):(part t xs.toArray off).run P w=.ok v w:=by
 rw[iT]at hv
 simp[part,Gp hT,fL hT,hv]
theorem J6{xs ys:List Value}{f:Field}(h : okF P xs ys f = true) : f.name ≠ "_" /\ tySz P f.type = some (1, false) /\
  ((∃k j a b,P.underlying f.type=some (.int k)/\nth xs f.offset=some (.int j a)/\nth ys f.offset=some (.int j b))\/∃a b,P.underlying f.type=some .bool/\nth xs f.offset=some (.bool a)/\nth ys f.offset=some (.bool b)):=by grind [okF]
theorem Di{P:Program}{d:Nat}{xs ys:List Value}(w:World):∀(fs:List Field),fs.all (okF P xs ys)=true ->
  (Op.eqFields (d+1) xs.toArray ys.toArray fs).run P w=.ok (fs.all λf=>eqv (nth xs f.offset) (nth ys f.offset)) w
 |[],_=>by simp[Op.eqFields]
 |f::fs,h=>by
  rw[List.all_cons,zC]at h
  obtain⟨h1,h2⟩:=h
  have ih:=Di (d:=d) w fs h2
  obtain⟨hn,hT,⟨k,j,a,b,hu,hx,hy⟩|⟨a,b,hu,hx,hy⟩⟩:=J6 h1
  .rw[Op.eqFields,if_pos hn,List.all_cons,hx,hy]
   simp only[zL,ux hT hx,ux hT hy,vJ,run_equalIn_int w d _ _ _ _ _ hu,eqv]
   cases hab:(a==b)
   .simp
   .simp only[Bool.not_true,We,if_false,Bool.true_and];exact ih
  .rw[Op.eqFields,if_pos hn,List.all_cons,hx,hy]
   simp only[zL,ux hT hx,ux hT hy,vJ,run_equalIn_bool' w d _ _ _ hu,eqv]
   cases hab:(a==b)
   .simp
   .simp only[Bool.not_true,We,if_false,Bool.true_and];exact ih
theorem sy{t:TypeId}{xs ys:List Value}(hT:P.underlying t=some (.struct fs.toArray))(hp:P.stoodInHeld t=false)(hok:fs.all (okF P xs ys)=true)(hr:(fs.all λf=>eqv (nth xs f.offset) (nth ys f.offset))=r)(w:World):(Op.equal t (.agg xs.toArray) (.agg ys.toArray)).run P w=.ok r w:=by
 have hf:P.fieldsOf t=fs.toArray:=by simp[Program.fieldsOf,hT]
 have:=run_equalIn_struct (P:=P) w 9999 t xs.toArray ys.toArray (by rw[hf];exact hT) hp
 rw[hf]at this
 rw[Op.equal,Op.maxDepth,this,←hr]
 exact Di w fs hok
theorem uQ{t:TypeId}{xs:List Value}(e:Bool)(hT:P.underlying t=some (.struct fs.toArray))(hok:fs.all (okF P xs xs)=true)(w:World):
  (Instr.checkKey e 10000 t (.agg xs.toArray)).run P w=.ok () w:=by
 rw[show(10000:Nat)=9999+1 from rfl,Instr.checkKey]
 simp only[zL,run_underlying hT,vJ]
 rw[←Array.forIn_toList]
 simp only
 clear hT
 induction fs with
 |nil=>simp
 |cons f fs ih=>
  rw[List.all_cons,zC]at hok
  have ih:=ih hok.2
  obtain⟨hn,hT,⟨k,j,a,b,hu,hx,hy⟩|⟨a,b,hu,hx,hy⟩⟩:=J6 hok.1
  .have hc:(Instr.checkKey e 9999 f.type (.int j a)).run P w=.ok () w:=by
    rw[show(9999:Nat)=9998+1 from rfl,Instr.checkKey]
    simp[run_underlying hu]
   simp only[List.forIn_cons,if_pos hn,zL,ux hT hx,vJ,hc,WF]
   simpa using ih
  .have hc:(Instr.checkKey e 9999 f.type (.bool a)).run P w=.ok () w:=by
    rw[show(9999:Nat)=9998+1 from rfl,Instr.checkKey]
    simp[run_underlying hu]
   simp only[List.forIn_cons,if_pos hn,zL,ux hT hx,vJ,hc,WF]
   simpa using ih
theorem Gz(vs:List Value):∀(cl:List Value),vs.length=cl.length->splice cl 0 vs=vs:=by
 intro cl hl
 have:=uu vs [] cl (by omega)
 simp at this
 rw[this,hl]
 simp
theorem bG{F:List Frame->(Machine->Prop)->Prop}{h:HF}{L:LH}{ty:TypeId}{pos:String}{af:Array Edge}{g:Option (Nat×Bool)}(i:Nat){t:TypeId}{T:Nat}(hT:tySz P t=some (m,a))(hx:e.ev x=.pointer (some ⟨bk,0,none⟩))(hL:nth L i=some (bk,.cells cl.toArray T (0,0)))(hv:e.ev y=.agg vs.toArray)(hm:vs.length=m)(hc:cl.length=m)(h1:vs.all one=true)(t':TO P b n ops l k F e ds X h (setNth L i (bk,.cells vs.toArray T (0,0))))(hg:guardB ops e ⟨none,.store t x y,ty,pos,af,g⟩=true:=by rfl):TO P b n ops (⟨none,.store t x y,ty,pos,af,g⟩::l) k F e ds X h L:=by
 refine cU i hT hx hL (vs:=vs) (by rw[hv];simp[vcells]) hm (by rw[Nat.zero_add,hm,hc];simp) h1 ?_ hg
 grind [Gz]
section runs
variable {P:Program} {e:Env} {X:Cx} {h:HF} {L:LH} {d:Option Nat} {ty:TypeId} {pos:String} {af:Array Edge} {g:Option (Nat×Bool)}
theorem JY{t:TypeId}{xs ys:Array Value}(hq:∀w,(Op.equal t (.agg xs) (.agg ys)).run P w=.ok r w)(hm:P.eqGuardType P.depth t=false)(hx:e.ev x=.agg xs)(hy:e.ev y=.agg ys):
  ∀w,St X h L w->(execOp e.ev ⟨d,.binOp .eql t x y u,ty,pos,af,g⟩).run P w=.ok (.value (.bool r)) w:=
 λw _=>by
  have h1:=run_eqGuard_agg (P:=P) w .eql t x y xs ys hm
  have h2:=hq w
  simp[execOp,hx,hy,h1,binOp,h2]
theorem U5{t:TypeId}{xs ys:Array Value}(hq:∀w,(Op.equal t (.agg xs) (.agg ys)).run P w=.ok r w)(hm:P.eqGuardType P.depth t=false)(hx:e.ev x=.agg xs)(hy:e.ev y=.agg ys):
  ∀w,St X h L w->(execOp e.ev ⟨d,.binOp .neq t x y u,ty,pos,af,g⟩).run P w=.ok (.value (.bool (!r))) w:=
 λw _=>by
  have h1:=run_eqGuard_agg (P:=P) w .neq t x y xs ys hm
  have h2:=hq w
  simp[execOp,hx,hy,h1,binOp,h2]
theorem N6{t:TypeId}{i:Int}(hT:P.underlying t=some .string)(hx:e.ev x=.string s)(hix:e.ev ix=.int .i64 i)(hi:0<=i/\i<(s.size:Int)):
  ∀w,St X h L w->(execOp e.ev ⟨d,.index t x ix,ty,pos,af,g⟩).run P w=.ok (.value (.int .u8 ((s.data.getD i.toNat 0).toNat:Nat))) w:=
 λw _=>by
  obtain⟨n,rfl⟩:=Int.eq_ofNat_of_zero_le hi.1
  have hn:n<s.size:=by omega
  have hn':n<s.data.size:=hn
  simp[execOp,Instr.index,hix,hx,asIntOf,run_underlying hT,hn]
  rfl
end runs
end
section
structure cq where
 cZ:Int
 j3:Int
deriving DecidableEq
instance:Inhabited cq:=⟨⟨0,0⟩⟩
def cq.cells(x:cq):List Go.Value:=[.int .i64 x.cZ,.int .i64 x.j3]
abbrev cq.enc(x:cq):Go.Value:=.agg (cq.cells x).toArray
def cq.rp:Rp cq:=⟨2,λ_ cs x=>cs=cq.cells x⟩
theorem cq.aG:cq.rp.Mono:=λ_ _ _ _ _ e=>e
theorem cq.dl:cq.rp.Good:=⟨cq.aG,λ_ _ _ e=>by cases e;rfl,by decide⟩
structure Use where
 Doc:Int
 Kind:Int
 Value:Int
 At:Int
 dU:Int
deriving DecidableEq
instance:Inhabited Use:=⟨⟨0,0,0,0,0⟩⟩
def Use.cells(x:Use):List Go.Value:=[.int .i64 x.Doc,.int .i64 x.Kind,.int .i64 x.Value,.int .i64 x.At,.int .i64 x.dU]
abbrev Use.enc(x:Use):Go.Value:=.agg (Use.cells x).toArray
def Use.rp:Rp Use:=⟨5,λ_ cs x=>cs=Use.cells x⟩
theorem Use.aG:Use.rp.Mono:=λ_ _ _ _ _ e=>e
theorem Use.dl:Use.rp.Good:=⟨Use.aG,λ_ _ _ e=>by cases e;rfl,by decide⟩
structure aK where
 No:Int
 At:Int
 dU:Int
 ep:Int
 cZ:Int
 j3:Int
 mG:Bool
deriving DecidableEq
instance:Inhabited aK:=⟨⟨0,0,0,0,0,0,false⟩⟩
def aK.cells(x:aK):List Go.Value:=[.int .i64 x.No,.int .i64 x.At,.int .i64 x.dU,.int .i64 x.ep,.int .i64 x.cZ,.int .i64 x.j3,.bool x.mG]
abbrev aK.enc(x:aK):Go.Value:=.agg (aK.cells x).toArray
def aK.rp:Rp aK:=⟨7,λ_ cs x=>cs=aK.cells x⟩
theorem aK.aG:aK.rp.Mono:=λ_ _ _ _ _ e=>e
theorem aK.dl:aK.rp.Good:=⟨aK.aG,λ_ _ _ e=>by cases e;rfl,by decide⟩
structure bz where
 No:Int
 At:Int
 dU:Int
 mT:Int
 From:Int
 To:Int
 ep:Int
 Kind:Int
 NN:Int
 mG:Bool
deriving DecidableEq
instance:Inhabited bz:=⟨⟨0,0,0,0,0,0,0,0,0,false⟩⟩
def bz.cells(x:bz):List Go.Value:=[.int .i64 x.No,.int .i64 x.At,.int .i64 x.dU,.int .i64 x.mT,.int .i64 x.From,.int .i64 x.To,.int .i64 x.ep,.int .i64 x.Kind,.int .i64 x.NN,.bool x.mG]
abbrev bz.enc(x:bz):Go.Value:=.agg (bz.cells x).toArray
def bz.rp:Rp bz:=⟨10,λ_ cs x=>cs=bz.cells x⟩
theorem bz.aG:bz.rp.Mono:=λ_ _ _ _ _ e=>e
theorem bz.dl:bz.rp.Good:=⟨bz.aG,λ_ _ _ e=>by cases e;rfl,by decide⟩
structure aF where
 No:Int
 At:Int
 dU:Int
 cZ:Int
 iw:Int
 Of:Bool
 mG:Bool
deriving DecidableEq
instance:Inhabited aF:=⟨⟨0,0,0,0,0,false,false⟩⟩
def aF.cells(x:aF):List Go.Value:=[.int .i64 x.No,.int .i64 x.At,.int .i64 x.dU,.int .i64 x.cZ,.int .i64 x.iw,.bool x.Of,.bool x.mG]
abbrev aF.enc(x:aF):Go.Value:=.agg (aF.cells x).toArray
def aF.rp:Rp aF:=⟨7,λ_ cs x=>cs=aF.cells x⟩
theorem aF.aG:aF.rp.Mono:=λ_ _ _ _ _ e=>e
theorem aF.dl:aF.rp.Good:=⟨aF.aG,λ_ _ _ e=>by cases e;rfl,by decide⟩
structure Budget where
 No:Int
 At:Int
 dU:Int
 Kind:Int
 eK:Int
 Count:Int
 Value:Int
 mG:Bool
deriving DecidableEq
instance:Inhabited Budget:=⟨⟨0,0,0,0,0,0,0,false⟩⟩
def Budget.cells(x:Budget):List Go.Value:=[.int .i64 x.No,.int .i64 x.At,.int .i64 x.dU,.int .i64 x.Kind,.int .i64 x.eK,.int .i64 x.Count,.int .i64 x.Value,.bool x.mG]
abbrev Budget.enc(x:Budget):Go.Value:=.agg (Budget.cells x).toArray
def Budget.rp:Rp Budget:=⟨8,λ_ cs x=>cs=Budget.cells x⟩
theorem Budget.aG:Budget.rp.Mono:=λ_ _ _ _ _ e=>e
theorem Budget.dl:Budget.rp.Good:=⟨Budget.aG,λ_ _ _ e=>by cases e;rfl,by decide⟩
structure ay where
 No:Int
 At:Int
 dU:Int
 Doc:Int
 By:Int
 For:Int
 ep:Int
 mG:Bool
deriving DecidableEq
instance:Inhabited ay:=⟨⟨0,0,0,0,0,0,0,false⟩⟩
def ay.cells(x:ay):List Go.Value:=[.int .i64 x.No,.int .i64 x.At,.int .i64 x.dU,.int .i64 x.Doc,.int .i64 x.By,.int .i64 x.For,.int .i64 x.ep,.bool x.mG]
abbrev ay.enc(x:ay):Go.Value:=.agg (ay.cells x).toArray
def ay.rp:Rp ay:=⟨8,λ_ cs x=>cs=ay.cells x⟩
theorem ay.aG:ay.rp.Mono:=λ_ _ _ _ _ e=>e
theorem ay.dl:ay.rp.Good:=⟨ay.aG,λ_ _ _ e=>by cases e;rfl,by decide⟩
inductive aj where
 |mk (Kind N No:Int) (Name:ByteArray) (L:List aj)
def aj.Kind:aj->Int
 |.mk Kind _ _ _ _=>Kind
def aj.N:aj->Int
 |.mk _ N _ _ _=>N
def aj.No:aj->Int
 |.mk _ _ No _ _=>No
def aj.Name:aj->ByteArray
 |.mk _ _ _ Name _=>Name
def aj.L:aj->List aj
 |.mk _ _ _ _ L=>L
instance:Inhabited aj:=⟨.mk 0 0 0 ⟨#[]⟩ []⟩
mutual
def aj.dep:aj->Nat
 |.mk _ _ _ _ L=>aj.depL L+1
def aj.depL:List aj->Nat
 |[]=>0
 |y::ys=>aj.dep y+aj.depL ys
end
theorem aj.nd(x:aj):0<x.dep:=by cases x;simp[aj.dep]
theorem aj.SM{y:aj}:∀{l:List aj},y∈l->y.dep<=aj.depL l
 |z::l,h=>by
  rcases zE.1 h with rfl|h
  .simp[aj.depL]
  .have:=aj.SM h;simp[aj.depL];omega
theorem aj.MW:∀(l:List aj),l.length<=aj.depL l
 |[]=>vE _
 |z::l=>by have:=aj.MW l;have:=aj.nd z;simp[aj.depL];omega
theorem aj.Sb(x:aj):x.L.length<x.dep:=by
 cases x with
 |mk a b c d L=>have:=aj.MW L;simp[aj.dep,aj.L];omega
theorem aj.lD{x y:aj}(h:y∈x.L):y.dep<x.dep:=by
 cases x with
 |mk a b c d L=>have:=aj.SM (l:=L) h;simp[aj.dep];omega
structure eo where
 oN:Option Addr
 pc:Nat
def aj.cells(x:aj)(r:eo):List Go.Value:=[.int .i64 x.Kind,.int .i64 x.N,.int .i64 x.No,.string x.Name,.slice r.oN x.L.length r.pc]
inductive aj.ok(h:HF):aj->eo->Prop
 |mk (x:aj) (r:eo) (rs:Nat->eo) (h0:x.L.length<=9223372036854775807/\x.L.length<=r.pc) (h1:∀(i:Nat)(y:aj),x.L[i]? = some y->∃p,r.oN=some p/\At h (p.add (i*5)) (aj.cells y (rs i))) (h2:∀(i:Nat)(y:aj),x.L[i]? = some y->aj.ok h y (rs i)):aj.ok h x r
def aj.rp:Rp aj:=⟨5,λh cs x=>∃r,cs=aj.cells x r/\aj.ok h x r⟩
theorem aj.ok.mono{h h':HF}{x:aj}{r:eo}(a:aj.ok h x r)(hl:h.le h'):aj.ok h' x r:=by
 induction a with
 |mk x r rs h0 h1 h2 ih=>exact .mk x r rs h0 (λi y hy=>let ⟨p,e,q⟩:=h1 i y hy;⟨p,e,q.mono hl⟩) (λi y hy=>ih i y hy)
theorem aj.ok.list{h:HF}{x:aj}{r:eo}(a:aj.ok h x r):SlC aj.rp h r.oN r.pc x.L:=by
 cases a with
 |mk x r rs h0 h1 h2=>exact⟨⟨h0.1,λi y hy=>let ⟨p,e,q⟩:=h1 i y hy;⟨p,_,e,q,rfl,_,rfl,h2 i y hy⟩⟩,h0.2⟩
theorem aj.aG:aj.rp.Mono:=λ_ _ _ _ hl⟨r,e,o⟩=>⟨r,e,o.mono hl⟩
theorem aj.ok.of{h:HF}{x:aj}{r:eo}(a:SlC aj.rp h r.oN r.pc x.L):aj.ok h x r:=by
 have h1:∀i,∃q:eo,∀y,x.L[i]? = some y->∃p,r.oN=some p/\At h (p.add (i*5)) (aj.cells y q)/\aj.ok h y q:=by
  intro i
  cases hy:x.L[i]? with
  |none=>exact⟨⟨none,0⟩,λy e=>by cases e⟩
  |some y=>
   obtain⟨p,cs,e,q,_,r',rfl,o⟩:=a.1.2 i y hy
   exact⟨r',λz ez=>by cases ez;exact⟨p,e,q,o⟩⟩
 obtain⟨rs,hrs⟩:=Classical.axiomOfChoice h1
 exact .mk x r rs ⟨a.1.1,a.2⟩ (λi y hy=>let ⟨p,e,q,_⟩:=hrs i y hy;⟨p,e,q⟩) (λi y hy=>let ⟨_,_,_,o⟩:=hrs i y hy;o)
theorem aj.dl:aj.rp.Good:=⟨aj.aG,λ_ _ _⟨_,e,_⟩=>by cases e;rfl,by decide⟩
structure ft where
 Kind:ByteArray
 Bf:Int
 iK:Int
 aj:aj
instance:Inhabited ft:=⟨⟨⟨#[]⟩,0,0,default⟩⟩
structure Cd where
 aj:eo
def ft.cells(x:ft)(r:Cd):List Go.Value:=[.string x.Kind,.int .i64 x.Bf,.int .i64 x.iK,.int .i64 x.aj.Kind,.int .i64 x.aj.N,.int .i64 x.aj.No,.string x.aj.Name,.slice r.aj.oN x.aj.L.length r.aj.pc]
structure ft.ok(h:HF)(x:ft)(r:Cd):Prop where
 aj:aj.ok h x.aj r.aj
theorem ft.ok.mono{h h':HF}{x:ft}{r:Cd}(a:ft.ok h x r)(hl:h.le h'):ft.ok h' x r:=⟨a.aj.mono hl⟩
def ft.rp:Rp ft:=⟨8,λh cs x=>∃r,cs=ft.cells x r/\ft.ok h x r⟩
theorem ft.aG:ft.rp.Mono:=λ_ _ _ _ hl⟨r,e,o⟩=>⟨r,e,o.mono hl⟩
theorem ft.dl:ft.rp.Good:=⟨ft.aG,λ_ _ _⟨_,e,_⟩=>by cases e;rfl,by decide⟩
structure aw where
 Name:ByteArray
 dQ:List ByteArray
 aB:List ByteArray
 di:List ft
 aQ:aj
 Mode:Int
instance:Inhabited aw:=⟨⟨⟨#[]⟩,[],[],[],default,0⟩⟩
structure jm where
 ke:Option Addr
 kd:Nat
 gR:Option Addr
 gQ:Nat
 pt:Option Addr
 pq:Nat
 aQ:eo
def aw.cells(x:aw)(r:jm):List Go.Value:=[.string x.Name,.slice r.ke x.dQ.length r.kd,.slice r.gR x.aB.length r.gQ,.slice r.pt x.di.length r.pq,.int .i64 x.aQ.Kind,.int .i64 x.aQ.N,.int .i64 x.aQ.No,.string x.aQ.Name,.slice r.aQ.oN x.aQ.L.length r.aQ.pc,.int .i64 x.Mode]
structure aw.ok(h:HF)(x:aw)(r:jm):Prop where
 dQ:SlC Rp.str h r.ke r.kd x.dQ
 aB:SlC Rp.str h r.gR r.gQ x.aB
 di:SlC ft.rp h r.pt r.pq x.di
 aQ:aj.ok h x.aQ r.aQ
theorem aw.ok.mono{h h':HF}{x:aw}{r:jm}(a:aw.ok h x r)(hl:h.le h'):aw.ok h' x r:=⟨a.dQ.mono Rp.iO hl,a.aB.mono Rp.iO hl,a.di.mono ft.aG hl,a.aQ.mono hl⟩
def aw.rp:Rp aw:=⟨10,λh cs x=>∃r,cs=aw.cells x r/\aw.ok h x r⟩
theorem aw.aG:aw.rp.Mono:=λ_ _ _ _ hl⟨r,e,o⟩=>⟨r,e,o.mono hl⟩
theorem aw.dl:aw.rp.Good:=⟨aw.aG,λ_ _ _⟨_,e,_⟩=>by cases e;rfl,by decide⟩
structure aD where
 No:Int
 At:Int
 dU:Int
 aw:aw
instance:Inhabited aD:=⟨⟨0,0,0,default⟩⟩
structure pL where
 aw:jm
def aD.cells(x:aD)(r:pL):List Go.Value:=[.int .i64 x.No,.int .i64 x.At,.int .i64 x.dU,.string x.aw.Name,.slice r.aw.ke x.aw.dQ.length r.aw.kd,.slice r.aw.gR x.aw.aB.length r.aw.gQ,.slice r.aw.pt x.aw.di.length r.aw.pq,.int .i64 x.aw.aQ.Kind,.int .i64 x.aw.aQ.N,.int .i64 x.aw.aQ.No,.string x.aw.aQ.Name,.slice r.aw.aQ.oN x.aw.aQ.L.length r.aw.aQ.pc,.int .i64 x.aw.Mode]
structure aD.ok(h:HF)(x:aD)(r:pL):Prop where
 aw:aw.ok h x.aw r.aw
theorem aD.ok.mono{h h':HF}{x:aD}{r:pL}(a:aD.ok h x r)(hl:h.le h'):aD.ok h' x r:=⟨a.aw.mono hl⟩
def aD.rp:Rp aD:=⟨13,λh cs x=>∃r,cs=aD.cells x r/\aD.ok h x r⟩
theorem aD.aG:aD.rp.Mono:=λ_ _ _ _ hl⟨r,e,o⟩=>⟨r,e,o.mono hl⟩
theorem aD.dl:aD.rp.Good:=⟨aD.aG,λ_ _ _⟨_,e,_⟩=>by cases e;rfl,by decide⟩
structure ao where
 No:Int
 At:Int
 Kind:Int
 Value:Int
 From:Int
 mT:Int
 kU:List Int
 eX:List Int
 fm:List Int
 Text:Nat->Int
instance:Inhabited ao:=⟨⟨0,0,0,0,0,0,[],[],[],λ_=>0⟩⟩
structure ox where
 Bv:Option Addr
 Bu:Nat
 uA:Option Addr
 uz:Nat
 Eb:Option Addr
 Ea:Nat
def ao.cells(x:ao)(r:ox):List Go.Value:=.int .i64 x.No::.int .i64 x.At::.int .i64 x.Kind::.int .i64 x.Value::.int .i64 x.From::.int .i64 x.mT::.slice r.Bv x.kU.length r.Bu::.slice r.uA x.eX.length r.uz::.slice r.Eb x.fm.length r.Ea::.int .u8 (x.Text 0)::.int .u8 (x.Text 1)::.int .u8 (x.Text 2)::.int .u8 (x.Text 3)::.int .u8 (x.Text 4)::.int .u8 (x.Text 5)::.int .u8 (x.Text 6)::.int .u8 (x.Text 7)::.int .u8 (x.Text 8)::.int .u8 (x.Text 9)::.int .u8 (x.Text 10)::.int .u8 (x.Text 11)::.int .u8 (x.Text 12)::.int .u8 (x.Text 13)::.int .u8 (x.Text 14)::.int .u8 (x.Text 15)::.int .u8 (x.Text 16)::.int .u8 (x.Text 17)::.int .u8 (x.Text 18)::.int .u8 (x.Text 19)::.int .u8 (x.Text 20)::.int .u8 (x.Text 21)::.int .u8 (x.Text 22)::.int .u8 (x.Text 23)::.int .u8 (x.Text 24)::.int .u8 (x.Text 25)::.int .u8 (x.Text 26)::.int .u8 (x.Text 27)::.int .u8 (x.Text 28)::.int .u8 (x.Text 29)::.int .u8 (x.Text 30)::.int .u8 (x.Text 31)::[]
structure ao.ok(h:HF)(x:ao)(r:ox):Prop where
 kU:SlC jB h r.Bv r.Bu x.kU
 eX:SlC jB h r.uA r.uz x.eX
 fm:SlC jB h r.Eb r.Ea x.fm
theorem ao.ok.mono{h h':HF}{x:ao}{r:ox}(a:ao.ok h x r)(hl:h.le h'):ao.ok h' x r:=⟨a.kU.mono qJ hl,a.eX.mono qJ hl,a.fm.mono qJ hl⟩
def ao.rp:Rp ao:=⟨41,λh cs x=>∃r,cs=ao.cells x r/\ao.ok h x r⟩
theorem ao.aG:ao.rp.Mono:=λ_ _ _ _ hl⟨r,e,o⟩=>⟨r,e,o.mono hl⟩
theorem ao.dl:ao.rp.Good:=⟨ao.aG,λ_ _ _⟨_,e,_⟩=>by cases e;rfl,by decide⟩
structure Register where
 dD:List aK
 fR:List bz
 ej:List aF
 dN:List Budget
 Versions:List aD
 cj:List ao
 dy:List ay
instance:Inhabited Register:=⟨⟨[],[],[],[],[],[],[]⟩⟩
structure pu where
 yM:Option Addr
 yL:Nat
 yK:Option Addr
 yJ:Nat
 wx:Option Addr
 wv:Nat
 uD:Option Addr
 uC:Nat
 pb:Option Addr
 o9:Nat
 LE:Option Addr
 LD:Nat
 wz:Option Addr
 wy:Nat
def Register.cells(x:Register)(r:pu):List Go.Value:=[.slice r.yM x.dD.length r.yL,.slice r.yK x.fR.length r.yJ,.slice r.wx x.ej.length r.wv,.slice r.uD x.dN.length r.uC,.slice r.pb x.Versions.length r.o9,.slice r.LE x.cj.length r.LD,.slice r.wz x.dy.length r.wy]
structure Register.ok(h:HF)(x:Register)(r:pu):Prop where
 dD:SlC aK.rp h r.yM r.yL x.dD
 fR:SlC bz.rp h r.yK r.yJ x.fR
 ej:SlC aF.rp h r.wx r.wv x.ej
 dN:SlC Budget.rp h r.uD r.uC x.dN
 Versions:SlC aD.rp h r.pb r.o9 x.Versions
 cj:SlC ao.rp h r.LE r.LD x.cj
 dy:SlC ay.rp h r.wz r.wy x.dy
theorem Register.ok.mono{h h':HF}{x:Register}{r:pu}(a:Register.ok h x r)(hl:h.le h'):Register.ok h' x r:=⟨a.dD.mono aK.aG hl,a.fR.mono bz.aG hl,a.ej.mono aF.aG hl,a.dN.mono Budget.aG hl,a.Versions.mono aD.aG hl,a.cj.mono ao.aG hl,a.dy.mono ay.aG hl⟩
def Register.rp:Rp Register:=⟨7,λh cs x=>∃r,cs=Register.cells x r/\Register.ok h x r⟩
theorem Register.aG:Register.rp.Mono:=λ_ _ _ _ hl⟨r,e,o⟩=>⟨r,e,o.mono hl⟩
theorem Register.dl:Register.rp.Good:=⟨Register.aG,λ_ _ _⟨_,e,_⟩=>by cases e;rfl,by decide⟩
structure fA where
 State:Int
 Budget:Int
 Versions:List Int
 Who:List Int
instance:Inhabited fA:=⟨⟨0,0,[],[]⟩⟩
structure vu where
 pb:Option Addr
 o9:Nat
 Ue:Option Addr
 Ud:Nat
def fA.cells(x:fA)(r:vu):List Go.Value:=[.int .i64 x.State,.int .i64 x.Budget,.slice r.pb x.Versions.length r.o9,.slice r.Ue x.Who.length r.Ud]
structure fA.ok(h:HF)(x:fA)(r:vu):Prop where
 Versions:SlC jB h r.pb r.o9 x.Versions
 Who:SlC jB h r.Ue r.Ud x.Who
theorem fA.ok.mono{h h':HF}{x:fA}{r:vu}(a:fA.ok h x r)(hl:h.le h'):fA.ok h' x r:=⟨a.Versions.mono qJ hl,a.Who.mono qJ hl⟩
def fA.rp:Rp fA:=⟨4,λh cs x=>∃r,cs=fA.cells x r/\fA.ok h x r⟩
theorem fA.aG:fA.rp.Mono:=λ_ _ _ _ hl⟨r,e,o⟩=>⟨r,e,o.mono hl⟩
theorem fA.dl:fA.rp.Good:=⟨fA.aG,λ_ _ _⟨_,e,_⟩=>by cases e;rfl,by decide⟩
structure eC where
 Kind:Int
 N:Int
deriving DecidableEq
instance:Inhabited eC:=⟨⟨0,0⟩⟩
def eC.cells(x:eC):List Go.Value:=[.int .i64 x.Kind,.int .i64 x.N]
abbrev eC.enc(x:eC):Go.Value:=.agg (eC.cells x).toArray
def eC.rp:Rp eC:=⟨2,λ_ cs x=>cs=eC.cells x⟩
theorem eC.aG:eC.rp.Mono:=λ_ _ _ _ _ e=>e
theorem eC.dl:eC.rp.Good:=⟨eC.aG,λ_ _ _ e=>by cases e;rfl,by decide⟩
structure OSeat where
 aV:Int
 bS:Int
deriving DecidableEq
instance:Inhabited OSeat:=⟨⟨0,0⟩⟩
def OSeat.cells(x:OSeat):List Go.Value:=[.int .i64 x.aV,.int .i64 x.bS]
abbrev OSeat.enc(x:OSeat):Go.Value:=.agg (OSeat.cells x).toArray
def OSeat.rp:Rp OSeat:=⟨2,λ_ cs x=>cs=OSeat.cells x⟩
theorem OSeat.aG:OSeat.rp.Mono:=λ_ _ _ _ _ e=>e
theorem OSeat.dl:OSeat.rp.Good:=⟨OSeat.aG,λ_ _ _ e=>by cases e;rfl,by decide⟩
structure dX where
 bS:Int
 party:Int
 of:Bool
deriving DecidableEq
instance:Inhabited dX:=⟨⟨0,0,false⟩⟩
def dX.cells(x:dX):List Go.Value:=[.int .i64 x.bS,.int .i64 x.party,.bool x.of]
abbrev dX.enc(x:dX):Go.Value:=.agg (dX.cells x).toArray
def dX.rp:Rp dX:=⟨3,λ_ cs x=>cs=dX.cells x⟩
theorem dX.aG:dX.rp.Mono:=λ_ _ _ _ _ e=>e
theorem dX.dl:dX.rp.Good:=⟨dX.aG,λ_ _ _ e=>by cases e;rfl,by decide⟩
structure iv where
 path:List Int
 to:Int
instance:Inhabited iv:=⟨⟨[],0⟩⟩
structure S0 where
 Aq:Option Addr
 Cv:Nat
def iv.cells(x:iv)(r:S0):List Go.Value:=[.slice r.Aq x.path.length r.Cv,.int .i64 x.to]
structure iv.ok(h:HF)(x:iv)(r:S0):Prop where
 path:SlC jB h r.Aq r.Cv x.path
theorem iv.ok.mono{h h':HF}{x:iv}{r:S0}(a:iv.ok h x r)(hl:h.le h'):iv.ok h' x r:=⟨a.path.mono qJ hl⟩
def iv.rp:Rp iv:=⟨2,λh cs x=>∃r,cs=iv.cells x r/\iv.ok h x r⟩
theorem iv.aG:iv.rp.Mono:=λ_ _ _ _ hl⟨r,e,o⟩=>⟨r,e,o.mono hl⟩
theorem iv.dl:iv.rp.Good:=⟨iv.aG,λ_ _ _⟨_,e,_⟩=>by cases e;rfl,by decide⟩
structure bB where
 value:Int
 dh:List (List cq)
 lm:List Int
instance:Inhabited bB:=⟨⟨0,[],[]⟩⟩
structure n8 where
 mg:Option Addr
 mf:Nat
 oa:Option Addr
 n9:Nat
def bB.cells(x:bB)(r:n8):List Go.Value:=[.int .i64 x.value,.slice r.mg x.dh.length r.mf,.slice r.oa x.lm.length r.n9]
structure bB.ok(h:HF)(x:bB)(r:n8):Prop where
 dh:SlC (Rp.sl cq.rp) h r.mg r.mf x.dh
 lm:SlC jB h r.oa r.n9 x.lm
theorem bB.ok.mono{h h':HF}{x:bB}{r:n8}(a:bB.ok h x r)(hl:h.le h'):bB.ok h' x r:=⟨a.dh.mono (Rp.Bh cq.aG) hl,a.lm.mono qJ hl⟩
def bB.rp:Rp bB:=⟨3,λh cs x=>∃r,cs=bB.cells x r/\bB.ok h x r⟩
theorem bB.aG:bB.rp.Mono:=λ_ _ _ _ hl⟨r,e,o⟩=>⟨r,e,o.mono hl⟩
theorem bB.dl:bB.rp.Good:=⟨bB.aG,λ_ _ _⟨_,e,_⟩=>by cases e;rfl,by decide⟩
structure gr where
 x:aj
 depth:Int
instance:Inhabited gr:=⟨⟨default,0⟩⟩
structure CW where
 x:eo
def gr.cells(x:gr)(r:CW):List Go.Value:=[.int .i64 x.x.Kind,.int .i64 x.x.N,.int .i64 x.x.No,.string x.x.Name,.slice r.x.oN x.x.L.length r.x.pc,.int .i64 x.depth]
structure gr.ok(h:HF)(x:gr)(r:CW):Prop where
 x:aj.ok h x.x r.x
theorem gr.ok.mono{h h':HF}{x:gr}{r:CW}(a:gr.ok h x r)(hl:h.le h'):gr.ok h' x r:=⟨a.x.mono hl⟩
def gr.rp:Rp gr:=⟨6,λh cs x=>∃r,cs=gr.cells x r/\gr.ok h x r⟩
theorem gr.aG:gr.rp.Mono:=λ_ _ _ _ hl⟨r,e,o⟩=>⟨r,e,o.mono hl⟩
theorem gr.dl:gr.rp.Good:=⟨gr.aG,λ_ _ _⟨_,e,_⟩=>by cases e;rfl,by decide⟩
structure tv where
 e:Int
deriving DecidableEq
instance:Inhabited tv:=⟨⟨0⟩⟩
def tv.cells(x:tv):List Go.Value:=[.int .i64 x.e]
abbrev tv.enc(x:tv):Go.Value:=.agg (tv.cells x).toArray
def tv.rp:Rp tv:=⟨1,λ_ cs x=>cs=tv.cells x⟩
theorem tv.aG:tv.rp.Mono:=λ_ _ _ _ _ e=>e
theorem tv.dl:tv.rp.Good:=⟨tv.aG,λ_ _ _ e=>by cases e;rfl,by decide⟩
structure ie where
 docs:List ao
 at_:List (Int×Int)
instance:Inhabited ie:=⟨⟨[],[]⟩⟩
structure rJ where
 Iz:Option Addr
 Iy:Nat
 NK:Nat
def ie.cells(x:ie)(r:rJ):List Go.Value:=[.slice r.Iz x.docs.length r.Iy,.map (some r.NK)]
structure ie.ok(h:HF)(x:ie)(r:rJ):Prop where
 docs:SlC ao.rp h r.Iz r.Iy x.docs
 at_:vO (qC .i64) tq h r.NK x.at_
theorem ie.ok.mono{h h':HF}{x:ie}{r:rJ}(a:ie.ok h x r)(hl:h.le h'):ie.ok h' x r:=⟨a.docs.mono ao.aG hl,a.at_.mono tq.mono hl⟩
def ie.rp:Rp ie:=⟨2,λh cs x=>∃r,cs=ie.cells x r/\ie.ok h x r⟩
theorem ie.aG:ie.rp.Mono:=λ_ _ _ _ hl⟨r,e,o⟩=>⟨r,e,o.mono hl⟩
theorem ie.dl:ie.rp.Good:=⟨ie.aG,λ_ _ _⟨_,e,_⟩=>by cases e;rfl,by decide⟩
structure fC where
 ba:Int
 vo:Int
 forWhom:Int
 aV:Int
deriving DecidableEq
instance:Inhabited fC:=⟨⟨0,0,0,0⟩⟩
def fC.cells(x:fC):List Go.Value:=[.int .i64 x.ba,.int .i64 x.vo,.int .i64 x.forWhom,.int .i64 x.aV]
abbrev fC.enc(x:fC):Go.Value:=.agg (fC.cells x).toArray
def fC.rp:Rp fC:=⟨4,λ_ cs x=>cs=fC.cells x⟩
theorem fC.aG:fC.rp.Mono:=λ_ _ _ _ _ e=>e
theorem fC.dl:fC.rp.Good:=⟨fC.aG,λ_ _ _ e=>by cases e;rfl,by decide⟩
structure ec where
 fq:Int
 to:Int
 aV:Int
 kind:Int
deriving DecidableEq
instance:Inhabited ec:=⟨⟨0,0,0,0⟩⟩
def ec.cells(x:ec):List Go.Value:=[.int .i64 x.fq,.int .i64 x.to,.int .i64 x.aV,.int .i64 x.kind]
abbrev ec.enc(x:ec):Go.Value:=.agg (ec.cells x).toArray
def ec.rp:Rp ec:=⟨4,λ_ cs x=>cs=ec.cells x⟩
theorem ec.aG:ec.rp.Mono:=λ_ _ _ _ _ e=>e
theorem ec.dl:ec.rp.Good:=⟨ec.aG,λ_ _ _ e=>by cases e;rfl,by decide⟩
structure cL where
 aV:Int
 kind:Int
 value:Int
 at_:Int
 ah:Int
deriving DecidableEq
instance:Inhabited cL:=⟨⟨0,0,0,0,0⟩⟩
def cL.cells(x:cL):List Go.Value:=[.int .i64 x.aV,.int .i64 x.kind,.int .i64 x.value,.int .i64 x.at_,.int .i64 x.ah]
abbrev cL.enc(x:cL):Go.Value:=.agg (cL.cells x).toArray
def cL.rp:Rp cL:=⟨5,λ_ cs x=>cs=cL.cells x⟩
theorem cL.aG:cL.rp.Mono:=λ_ _ _ _ _ e=>e
theorem cL.dl:cL.rp.Good:=⟨cL.aG,λ_ _ _ e=>by cases e;rfl,by decide⟩
structure fB where
 kind:Int
 period:Int
deriving DecidableEq
instance:Inhabited fB:=⟨⟨0,0⟩⟩
def fB.cells(x:fB):List Go.Value:=[.int .i64 x.kind,.int .i64 x.period]
abbrev fB.enc(x:fB):Go.Value:=.agg (fB.cells x).toArray
def fB.rp:Rp fB:=⟨2,λ_ cs x=>cs=fB.cells x⟩
theorem fB.aG:fB.rp.Mono:=λ_ _ _ _ _ e=>e
theorem fB.dl:fB.rp.Good:=⟨fB.aG,λ_ _ _ e=>by cases e;rfl,by decide⟩
structure e8 where
 shelf:ie
 signed:List Int
 done:List Bool
 lacks:List Int
 revoked:List (Int×(List Int))
instance:Inhabited e8:=⟨⟨default,[],[],[],[]⟩⟩
structure vv where
 shelf:rJ
 cu:Option Addr
 ct:Nat
 CM:Option Addr
 CL:Nat
 Py:Option Addr
 Px:Nat
 JU:Nat
def e8.cells(x:e8)(r:vv):List Go.Value:=[.slice r.shelf.Iz x.shelf.docs.length r.shelf.Iy,.map (some r.shelf.NK),.slice r.cu x.signed.length r.ct,.slice r.CM x.done.length r.CL,.slice r.Py x.lacks.length r.Px,.map (some r.JU)]
structure e8.ok(h:HF)(x:e8)(r:vv):Prop where
 shelf:ie.ok h x.shelf r.shelf
 signed:SlC jB h r.cu r.ct x.signed
 done:SlC Rp.bool h r.CM r.CL x.done
 lacks:SlC jB h r.Py r.Px x.lacks
 revoked:vO (qC .i64) (VSl jB) h r.JU x.revoked
theorem e8.ok.mono{h h':HF}{x:e8}{r:vv}(a:e8.ok h x r)(hl:h.le h'):e8.ok h' x r:=⟨a.shelf.mono hl,a.signed.mono qJ hl,a.done.mono Rp.su hl,a.lacks.mono qJ hl,a.revoked.mono (VSl.mono qJ) hl⟩
def e8.rp:Rp e8:=⟨6,λh cs x=>∃r,cs=e8.cells x r/\e8.ok h x r⟩
theorem e8.aG:e8.rp.Mono:=λ_ _ _ _ hl⟨r,e,o⟩=>⟨r,e,o.mono hl⟩
theorem e8.dl:e8.rp.Good:=⟨e8.aG,λ_ _ _⟨_,e,_⟩=>by cases e;rfl,by decide⟩
structure bU where
 Register:Register
 ba:ao
 at_:Int
 ah:Int
instance:Inhabited bU:=⟨⟨default,default,0,0⟩⟩
structure sI where
 Register:pu
 ba:ox
def bU.cells(x:bU)(r:sI):List Go.Value:=.slice r.Register.yM x.Register.dD.length r.Register.yL::.slice r.Register.yK x.Register.fR.length r.Register.yJ::.slice r.Register.wx x.Register.ej.length r.Register.wv::.slice r.Register.uD x.Register.dN.length r.Register.uC::.slice r.Register.pb x.Register.Versions.length r.Register.o9::.slice r.Register.LE x.Register.cj.length r.Register.LD::.slice r.Register.wz x.Register.dy.length r.Register.wy::.int .i64 x.ba.No::.int .i64 x.ba.At::.int .i64 x.ba.Kind::.int .i64 x.ba.Value::.int .i64 x.ba.From::.int .i64 x.ba.mT::.slice r.ba.Bv x.ba.kU.length r.ba.Bu::.slice r.ba.uA x.ba.eX.length r.ba.uz::.slice r.ba.Eb x.ba.fm.length r.ba.Ea::.int .u8 (x.ba.Text 0)::.int .u8 (x.ba.Text 1)::.int .u8 (x.ba.Text 2)::.int .u8 (x.ba.Text 3)::.int .u8 (x.ba.Text 4)::.int .u8 (x.ba.Text 5)::.int .u8 (x.ba.Text 6)::.int .u8 (x.ba.Text 7)::.int .u8 (x.ba.Text 8)::.int .u8 (x.ba.Text 9)::.int .u8 (x.ba.Text 10)::.int .u8 (x.ba.Text 11)::.int .u8 (x.ba.Text 12)::.int .u8 (x.ba.Text 13)::.int .u8 (x.ba.Text 14)::.int .u8 (x.ba.Text 15)::.int .u8 (x.ba.Text 16)::.int .u8 (x.ba.Text 17)::.int .u8 (x.ba.Text 18)::.int .u8 (x.ba.Text 19)::.int .u8 (x.ba.Text 20)::.int .u8 (x.ba.Text 21)::.int .u8 (x.ba.Text 22)::.int .u8 (x.ba.Text 23)::.int .u8 (x.ba.Text 24)::.int .u8 (x.ba.Text 25)::.int .u8 (x.ba.Text 26)::.int .u8 (x.ba.Text 27)::.int .u8 (x.ba.Text 28)::.int .u8 (x.ba.Text 29)::.int .u8 (x.ba.Text 30)::.int .u8 (x.ba.Text 31)::.int .i64 x.at_::.int .i64 x.ah::[]
structure bU.ok(h:HF)(x:bU)(r:sI):Prop where
 Register:Register.ok h x.Register r.Register
 ba:ao.ok h x.ba r.ba
theorem bU.ok.mono{h h':HF}{x:bU}{r:sI}(a:bU.ok h x r)(hl:h.le h'):bU.ok h' x r:=⟨a.Register.mono hl,a.ba.mono hl⟩
def bU.rp:Rp bU:=⟨50,λh cs x=>∃r,cs=bU.cells x r/\bU.ok h x r⟩
theorem bU.aG:bU.rp.Mono:=λ_ _ _ _ hl⟨r,e,o⟩=>⟨r,e,o.mono hl⟩
theorem bU.dl:bU.rp.Good:=⟨bU.aG,λ_ _ _⟨_,e,_⟩=>by cases e;rfl,by decide⟩
end
variable {A L':LH}{E:TypeId}{as ass:Array Operand}{ats:Array TypeId}{c:Code}{cap zs:List Go.Value}{f:FuncId}{fv:Go.Value}{id sz:Nat}{o:Obj}{parts:Array (Nat×Operand)}{pe:Int->Go.Value}{q:Addr}{w:World}{ι ρ σ:Type}
section
section
variable {P:Program} {b:Frame} {n:Nat} {k:List Item} {F:List Frame->(Machine->Prop)->Prop} {e:Env} {ds:List Deferred} {X:Cx} {h:HF} {L:LH}
theorem S9(L':LH)(sl:List (Nat×Value))(hk:∀e',TT P b n k F (upds e' sl) ds X h L')(t':(∀e',iu e' sl->TT P b n k F e' ds X h L')->TT P b n (.code c::k) F e ds X h L):TT P b n (.code c::k) F e ds X h L:=
 t' λe' hr=>by have:=hk e';rw[hr.upds]at this;exact this
theorem qI(hs:L.Perm L')(t:TO P b n ops l k F e ds X h L'):TO P b n ops l k F e ds X h L:=λw hw=>t w (hw.perm hs)
theorem jf(hs:L=L')(t:TO P b n ops l k F e ds X h L'):TO P b n ops l k F e ds X h L:=hs▸t
theorem qi(A G M:LH):(A++(M++G)).Perm (A++(G++M)):=List.Perm.append_left A xG
theorem uI(sl:ι->List (Nat×Value))(dd:ι->List Deferred)(hh:ι->HF)(LL:ι->LH)(I:ι->Prop)(hk:∀i,I i->∀e',TT P b n k F (upds e' (sl i)) (dd i) X (hh i) (LL i))(hb:(∀i e',I i->iu e' (sl i)->TT P b n k F e' (dd i) X (hh i) (LL i))->TT P b n (.code c::.inBlock id::k) F e ds X h L):TT P b n (.code (.block id c)::k) F e ds X h L:=by grind [mZ,L5]
end
section runs
variable {P:Program} {e:Env} {X:Cx} {h:HF} {L:LH} {d:Option Nat} {ty:TypeId} {pos:String} {af:Array Edge} {g:Option (Nat×Bool)}
theorem RQ{t:TypeId}{len:Nat}{p:Addr}{i:Int}(hT:P.underlying t=some (.array len E))(hS:tySz P E=some (sz,a))(hx:e.ev x=.pointer (some p))(hix:e.ev ix=.int .i64 i)(hi:0<=i/\i<(len:Int)):
  ∀w,St X h L w->(execOp e.ev ⟨d,.indexAddr t x ix,ty,pos,af,g⟩).run P w=.ok (.value (.pointer (some (p.add (i.toNat*sz))))) w:=
 λw _=>by simp[execOp,Instr.indexAt,Instr.sureAddr,hix,hx,asIntOf,run_underlying hT,fL hS,hi.1,hi.2]
theorem pj{c:Operand}{s:Bool}(hc:e.ev c=.bool s)(hv:(bif s then e.ev x else e.ev y)=v):∀w,St X h L w->(execOp e.ev ⟨d,.pick c x y,ty,pos,af,g⟩).run P w=.ok (.value v) w:=
 hv▸N7 hc
end runs
section stepsM
variable {P:Program} {b:Frame} {n:Nat} {ops:Array Oper} {F:List Frame->(Machine->Prop)->Prop} {e:Env} {ds:List Deferred} {X:Cx} {h:HF} {L:LH} {K:Env->HF->LH->Prop}
variable {ty:TypeId} {pos:String} {af:Array Edge} {g:Option (Nat×Bool)} {κ α : Type} {enc:κ->Value} {V:HF->Value->α->Prop} [DecidableEq κ]
theorem uP(i:Nat){t T:TypeId}{mo ko xo:Operand}{m:List (κ×α)}{k:κ}{x:α}(hT:P.underlying t=some (.map T E))(hK:zq P T enc)(hL:nth L i=some (bk,o))(hm:kY enc V h o m)(hmo:e.ev mo=.map (some bk))(hko:e.ev ko=enc k)(hx:V h (e.ev xo) x)(t':∀o',kY enc V h o' (mput m k x)->K e h (setNth L i (bk,o')))(hg:guardB ops e ⟨none,.insert t mo ko xo,ty,pos,af,g⟩=true:=by rfl):Stp P b n ops F ds X ⟨none,.insert t mo ko xo,ty,pos,af,g⟩ e h L K:=by
 unfold Stp
 rw[if_pos hg]
 intro w hw
 have hb:w.heap[bk]? = some o:=by
  have h2:=hL
  rw[iT]at h2
  exact hw.own _ (xE h2)
 obtain⟨o',hr,hm'⟩:=BP (k:=k) hT hK hb hm hx
 have:(execOp e.ev ⟨none,.insert t mo ko xo,ty,pos,af,g⟩).run P w=.ok .skip { w with heap:=w.heap.setIfInBounds bk o' }:=by
  simp[execOp,hmo,hko,hr]
 rw[this]
 exact⟨h,_,hw.write hL _,t' o' hm'⟩
end stepsM
section stepsA
variable {P:Program} {b:Frame} {n:Nat} {ops:Array Oper} {F:List Frame->(Machine->Prop)->Prop} {e:Env} {ds:List Deferred} {X:Cx} {h:HF} {L:LH} {K:Env->HF->LH->Prop}
variable {d:Option Nat} {ty:TypeId} {pos:String} {af:Array Edge} {g:Option (Nat×Bool)}
theorem uN(i:Nat){t:TypeId}{T:Nat}(hT:tySz P t=some (m,a))(hx:e.ev x=.pointer (some ⟨bk,0,none⟩))(hL:nth L i=some (bk,.cells cl.toArray T (0,0)))(hv:e.ev y=.agg vs.toArray)(hm:vs.length=m)(hc:cl.length=m)(h1:vs.all one=true)(t':K e h (setNth L i (bk,.cells vs.toArray T (0,0))))(hg:guardB ops e ⟨none,.store t x y,ty,pos,af,g⟩=true:=by rfl):Stp P b n ops F ds X ⟨none,.store t x y,ty,pos,af,g⟩ e h L K:=by
 refine lK i hT hx hL (vs:=vs) (by rw[hv];simp[vcells]) hm (by rw[Nat.zero_add,hm,hc];simp) h1 ?_ hg
 grind [Gz]
theorem RM{t:TypeId}{len:Nat}{cells:List Value}(hT:P.underlying t=some (.array len E))(hS:tySz P E=some (sz,a))(hz:zeroC P t=some zs)(hc:Xn (λi=>some (i*sz,sz)) zs.toArray (parts.toList.map λp=>(p.1,e.ev p.2))=some cells.toArray)(t':K (pute e d (.agg cells.toArray)) h L)(hg:guardB ops e ⟨d,.build t parts,ty,pos,af,g⟩=true:=by rfl):Stp P b n ops F ds X ⟨d,.build t parts,ty,pos,af,g⟩ e h L K:=
 iB hg λw hw=>by
  obtain⟨z,h1,h2⟩:=uw hz w
  have hparts:(parts.map λx=>(x.1,e.ev x.2)).toList=parts.toList.map λp=>(p.1,e.ev p.2):=by simp
  refine⟨_,_,h,_,?_,hw,t'⟩
  simp only[execOp,Instr.build,zL,h1,h2,vJ,run_underlying hT,fL hS,WF,hparts]
  rw[hc]
  simp
theorem EU{α : Type}:∀(l:List α)(i:Nat)(x y:α),nth l i=some x->(setNth l i y).Perm (y::dropNth l i)
 |[],_,_,_,h=>by simp[nth]at h
 |z::l,0,x,y,h=>List.Perm.refl _
 |z::l,i+1,x,y,h=>(List.Perm.cons z (EU l i x y h)).trans (List.Perm.swap y z _)
theorem RL(i:Nat){t:Nat}{o':Obj}(hL:nth L i=some (bk,o))(hs:nK P fv vs.toArray h [(bk,o)] (λx h' B=>x=.returned (.tuple #[])/\h'=h/\B=[(bk,o')]))(hf:e t=fv)(hvs:as.toList.map e.ev=vs)(t':K (pute e d (.tuple #[])) h (setNth L i (bk,o')))(hg:guardB ops e ⟨d,.call ⟨.value (.tmp t),as,ats⟩,ty,pos,af,g⟩=true:=by rfl):Stp P b n ops F ds X ⟨d,.call ⟨.value (.tmp t),as,ats⟩,ty,pos,af,g⟩ e h L K:=by
 unfold Stp
 rw[if_pos hg]
 intro w hw
 have hw':=hw.perm (nY L i _ hL)
 have harr:as.map e.ev=vs.toArray:=qS (by simp[←hvs])
 obtain⟨nx,hrun,hcall⟩:=hs w (Pre.left (A:=[(bk,o)]) hw'.pre)
 have hr:(execOp e.ev ⟨d,.call ⟨.value (.tmp t),as,ats⟩,ty,pos,af,g⟩).run P w=.ok nx w:=by
  grind [execOp,resolve,Xh]
 rw[hr]
 refine mH (oI hcall) (hcall.mono ?_)
 rintro x w' ⟨h',B,hst,rfl,rfl,rfl⟩
 exact⟨h',_,(WC (A:=[(bk,o)]) (F:=dropNth L i) hw' hst).perm (EU L i _ _ hL).symm,t'⟩
theorem GF{t:Nat}{φ:Value->HF->Prop}(hs:Uf P fv vs h φ)(hf:e t=fv)(hvs:ass.toList.map e.ev=vs)(t':∀v h',h.le h'->φ v h'->K (pute e d v) h' L)(hg:guardB ops e ⟨d,.call ⟨.value (.tmp t),ass,ats⟩,ty,pos,af,g⟩=true:=by rfl):
  Stp P b n ops F ds X ⟨d,.call ⟨.value (.tmp t),ass,ats⟩,ty,pos,af,g⟩ e h L K:=by
 refine De L [] (List.append_nil L).symm hs hf hvs ?_ ?_ hg
 all_goals grind
end stepsA
theorem UW{h:HF}{cs:List Value}(ha:At h q cs){i:Int}(hi:0<=i/\i<(cs.length:Int)):At h (q.add (i.toNat*1)) [cs.getD i.toNat .nilFunc]:=by
 obtain⟨cl,T,fz,hb,hs,hc⟩:=ha
 have hlt:i.toNat<cs.length:=by omega
 have h1:i.toNat*1=i.toNat:=Nat.mul_one _
 obtain⟨g,off,sp⟩:=q
 simp only at hs
 subst hs
 have hq:(⟨g,off,none⟩:Addr).add (i.toNat*1)=⟨g,off+i.toNat,none⟩:=by
  rw[h1]
  by_cases e0:i.toNat=0
  .simp[kP,e0]
  .simp[kP,e0]
 rw[hq]
 refine⟨cl,T,fz,hb,rfl,λj v hj=>?_⟩
 grind
theorem np{args:List Value}{h:HF}{R:Ending->HF->LH->Prop}(hc:∀args w,(callFunc f args).run P w=.ok (.enter f args) w)(hs:pC P f (args++cap).toArray h A R):
  nK P (.func (.func f) #[] cap.toArray) args.toArray h A R:=by
 intro w hp
 refine⟨.enter f (args++cap).toArray,?_,lk (hs w hp)⟩
 simp[qH,invoke,hc]
def exW{ρ : Type}(pe:Int->Value)(f:ρ->Value):Except Int ρ->Except Value Value
 |.ok r=>.ok (f r)
 |.error e=>.error (pe e)
theorem sk{f:ρ->Value}{x:Except Int ρ}{u:Value}(h:exW pe f x=.ok u):∃r,x=.ok r/\f r=u:=by
 cases x with
 |ok r=>exact⟨r,rfl,by simpa[exW]using h⟩
 |error p=>simp[exW]at h
theorem po{f:ρ->Value}{x:Except Int ρ}{p:Value}(h:exW pe f x=.error p):∃e,x=.error e/\pe e=p:=by
 cases x with
 |ok r=>simp[exW]at h
 |error q=>exact⟨q,rfl,by simpa[exW]using h⟩
def exi{ρ σ : Type}:Except Int ρ->(ρ->Except Int σ)->Except Int σ
 |.ok r,k=>k r
 |.error p,_=>.error p
theorem wW{x:Except Int ρ}{k:ρ->Except Int σ}{r:ρ}(h:x=.ok r):exi x k=k r:=by subst h;rfl
theorem pP{x:Except Int ρ}{k:ρ->Except Int σ}{p:Int}(h:x=.error p):exi x k=.error p:=by subst h;rfl
theorem j5{args:Array Value}{R:Ending->World->Prop}(h:Calls P f args w R)(hno:∀w',¬R .outgrown w'):tw P f args w R:=by
 intro c cs Φ h1 h2
 obtain⟨e,w',fr,hR,hc,hfn,hl⟩:=h (c::cs)
 cases e with
 |returned v=>
  obtain⟨m',s',p'⟩:=h1 v w' hR
  exact⟨m',(show Steps P _ _ from hc).trans (.head (step_leave_returned hl) s'),p'⟩
 |panicked ch=>
  obtain⟨m',s',p'⟩:=h2 ch w' hR
  exact⟨m',(show Steps P _ _ from hc).trans (.head (step_leave_panicked hl) s'),p'⟩
 |outgrown=>exact(hno _ hR).elim
end
section
def smP(p:aw):Prop:=p.di.length<=2000000/\(∀r∈p.di,r.aj.dep<=1500000)/\p.aQ.dep<=1500000/\p.aB.length<=2000000/\p.dQ.length<=2000000
def smV(l:List aD):Prop:=l.length<=2000000/\∀v∈l,smP v.aw
def smR(r:Register):Prop:=smV r.Versions/\r.dD.length<=2000000/\r.fR.length<=2000000/\r.ej.length<=2000000/\r.dN.length<=2000000/\r.cj.length<=2000000/\r.dy.length<=2000000
theorem smP.rules{p:aw}(h:smP p):p.di.length<=2000000:=h.1
theorem smP.change{p:aw}(h:smP p):p.aQ.dep<=1500000:=h.2.2.1
theorem smV.len{l:List aD}(h:smV l):l.length<=2000000:=h.1
theorem smR.vers{r:Register}(h:smR r):smV r.Versions:=h.1
inductive OkX(n:Int):aj->Prop
 |mk (x:aj) (hk:1<=x.Kind/\x.Kind<=4) (hn:x.Kind<=2->0<=x.No/\x.No<n) (hl:x.Kind=4->x.L.length=2) (hs:∀y∈x.L,OkX n y):OkX n x
theorem OkX.kind{n:Int}{x:aj}(h:OkX n x):1<=x.Kind/\x.Kind<=4:=by cases h with|mk _ a=>exact a
theorem OkX.no{n:Int}{x:aj}(h:OkX n x):x.Kind<=2->0<=x.No/\x.No<n:=by cases h with|mk _ _ a=>exact a
theorem OkX.two{n:Int}{x:aj}(h:OkX n x):x.Kind=4->x.L.length=2:=by cases h with|mk _ _ _ a=>exact a
theorem OkX.sub{n:Int}{x:aj}(h:OkX n x):∀y∈x.L,OkX n y:=by cases h with|mk _ _ _ _ a=>exact a
def stopV(e:Int):Value:=.iface 347 (.agg (tv.cells ⟨e⟩).toArray)
def errV(e:Int):Value:=.iface 36 (.int .i64 e)
def kindsC:List Value:=[.func (.func 365) #[] #[],.func (.func 366) #[] #[],.func (.func 367) #[] #[],.func (.func 368) #[] #[],.func (.func 369) #[] #[]]
def kfun(i:Int):Value:=kindsC.getD i.toNat .nilFunc
def dQ(h:HF):Prop:=∃T fz,h 0=some (.cells kindsC.toArray T fz)
theorem dQ.mono{h h':HF}(k:dQ h)(hl:h.le h'):dQ h':=let ⟨T,fz,e⟩:=k;⟨T,fz,hl _ _ e⟩
theorem dQ.at{h:HF}(k:dQ h){i:Int}(hi:0<=i/\i<5):At h ((⟨0,0,none⟩:Addr).add (i.toNat*1)) [kfun i]:=by
 obtain⟨T,fz,e⟩:=k
 rw[oo]
 refine At.Ht e (λj v hj=>?_)
 have hj0:j=0:=by
  grind
 subst hj0
 simp at hj
 subst hj
 have:i=0\/i=1\/i=2\/i=3\/i=4:=by omega
 rcases this with rfl|rfl|rfl|rfl|rfl<;>rfl
def VFn(_:HF)(v:Value)(x:Value):Prop:=v=x
theorem VFn.mono:D9 VFn:=λ_ _ _ _ _ e=>e
theorem nw{κ α : Type}[DecidableEq κ]:∀(m:List (κ×α))(k:κ)(v:α),(mput m k v).length<=m.length+1
 |[],_,_=>by simp[mput]
 |(k',v')::r,k,v=>by
  have:=nw r k v
  simp only[mput]
  split<;>simp<;>omega
theorem Tf(h:(s.toList==(⟨#[]⟩:ByteArray).toList)=false):0<s.size:=by
 rcases Nat.eq_zero_or_pos s.size with h0|h0
 .exfalso
  have:s=⟨#[]⟩:=by
   cases s with
   |mk d=>
    have:d=#[]:=Array.eq_empty_of_size_eq_zero h0
    rw[this]
  rw[this]at h;simp at h
 .exact h0
abbrev tH:=e8
abbrev Vp:=vv
abbrev tH.cells(x:e8)(r:vv):List Go.Value:=e8.cells x r
structure tH.ok(h:HF)(x:e8)(r:vv):Prop where
 signed:SlC jB h r.cu r.ct x.signed
theorem tH.ok.mono{h h':HF}{x:e8}{r:vv}(a:tH.ok h x r)(hl:h.le h'):tH.ok h' x r:=⟨a.signed.mono qJ hl⟩
end
variable {Fr:LH}{fn gn:Func}{pv:Go.Value}
section
def deferFrame(f:FuncId):Frame:={ fn:=f,tmps:=#[],todo:=[],defers:=[],mode:=.run,kind:=.deferred,roundOf:=none }
section
variable {P:Program} {f:FuncId} {n:Nat} {k:List Item} {e:Env} {X:Cx} {h:HF} {L:LH} {ops:Array Oper} {l:List Oper} {d:Nat} {ty:TypeId} {pos:String} {af:Array Edge} {g:Option (Nat×Bool)} {ats:Array TypeId}
theorem Gt{F F':List Frame->(Machine->Prop)->Prop}(v:Value)(hF:∀cs Φ,F cs Φ->∃cs',recoverD cs=some (v,cs')/\F' cs' Φ)(t:TO P (deferFrame f) n ops l k F' (upd e d v) ds X h L)(hd:Nat.blt d n=true:=by rfl)(hg:guardB ops e ⟨some d,.call ⟨.builtin .recover,#[],ats⟩,ty,pos,af,g⟩=true:=by rfl):
  TO P (deferFrame f) n ops (⟨some d,.call ⟨.builtin .recover,#[],ats⟩,ty,pos,af,g⟩::l) k F e ds X h L:=by
 intro w hw is hi a cs Φ hn he hds hF0
 obtain⟨i,js,rfl,ho,hj⟩:=rk hi
 obtain⟨cs',hrec,hF1⟩:=hF cs Φ hF0
 have hwt:=(gh (ops:=ops) he).trans hg
 have hst:=stepGR_op (P:=P) (b:=deferFrame f) (k:=k) (cs:=cs) (w:=w) (rest:=js) ho hwt
 have hr:(execOp a.eval ⟨some d,.call ⟨.builtin .recover,#[],ats⟩,ty,pos,af,g⟩).run P w=.ok .recover w:=by
  simp[execOp,resolve,invoke,builtin]
 have htr:tryRecover ((deferFrame f).atR a (.inRegion ops (i::js)::k)) cs=some (v,cs'):=by
  rw[tryRecover_deferred (by rfl) cs,hrec]
 have hput:envOf (a.put (some d) v)=upd e d v:=by rw[qn a d v (by rw[hn];exact pZ hd),he]
 refine .step (m₁:=lone ((deferFrame f).atR (a.put (some d) v) (.inRegion ops js::k)) cs' w) ?_ (t w hw js hj (a.put (some d) v) cs' Φ (by rw[pF];exact hn) hput (by rw[ng];exact hds) hF1)
 refine step_lone_go ?_
 rw[hst,lv _ _ rfl,←iy a js k ho v]
 simp[stepG.apply,hr,htr]
 rfl
theorem ES{F:List Frame->(Machine->Prop)->Prop}(hF:∀cs Φ,F cs Φ->recoverD cs=none)(t:TO P (deferFrame f) n ops l k F (upd e d .nilIface) ds X h L)(hd:Nat.blt d n=true:=by rfl)(hg:guardB ops e ⟨some d,.call ⟨.builtin .recover,#[],ats⟩,ty,pos,af,g⟩=true:=by rfl):
  TO P (deferFrame f) n ops (⟨some d,.call ⟨.builtin .recover,#[],ats⟩,ty,pos,af,g⟩::l) k F e ds X h L:=by
 intro w hw is hi a cs Φ hn he hds hF0
 obtain⟨i,js,rfl,ho,hj⟩:=rk hi
 have hrec:=hF cs Φ hF0
 have hwt:=(gh (ops:=ops) he).trans hg
 have hst:=stepGR_op (P:=P) (b:=deferFrame f) (k:=k) (cs:=cs) (w:=w) (rest:=js) ho hwt
 have hr:(execOp a.eval ⟨some d,.call ⟨.builtin .recover,#[],ats⟩,ty,pos,af,g⟩).run P w=.ok .recover w:=by
  simp[execOp,resolve,invoke,builtin]
 have htr:tryRecover ((deferFrame f).atR a (.inRegion ops (i::js)::k)) cs=none:=by
  rw[tryRecover_deferred (by rfl) cs,hrec]
 have hput:envOf (a.put (some d) .nilIface)=upd e d .nilIface:=by rw[qn a d _ (by rw[hn];exact pZ hd),he]
 refine .step (m₁:=lone ((deferFrame f).atR (a.put (some d) .nilIface) (.inRegion ops js::k)) cs w) ?_ (t w hw js hj (a.put (some d) .nilIface) cs Φ (by rw[pF];exact hn) hput (by rw[ng];exact hds) hF0)
 refine step_lone_go ?_
 rw[hst,lv _ _ rfl,←iy a js k ho .nilIface]
 simp[stepG.apply,hr,htr]
 rfl
def IM(P:Program)(X:Cx)(u':FrameMode)(R:HF->LH->Prop)(cs:List Frame)(Φ : Machine->Prop):Prop:=
 ∃c rest,cs=c::rest/\c.mode=u'/\∀w',(∃h' B,St X h' B w'/\R h' B)->To P Φ (lone { c with mode:=settle u' } rest w')
theorem KB{u':FrameMode}{R:HF->LH->Prop}(hf:P.funcs[f]? = some fn)(hr:fn.results=#[])(hR:R h L):TT P (deferFrame f) n [] (IM P X u' R) e [] X h L:=by
 intro w hw a cs Φ hn he hds hF
 obtain⟨c,rest,rfl,hm,h1⟩:=hF
 refine .step (stepR_end rfl) ?_
 have hgo:Frame.going P { (deferFrame f).atR a []with mode:=.returning } w (.returned (.tuple #[])):=⟨rfl,hds,fn,hf,nr hr a w⟩
 refine .step (step_going_returned (c:=c) (cs:=rest) rfl hgo) ?_
 rw[hm]
 exact h1 w ⟨h,L,hw,hR⟩
end
section
variable {P:Program} {b:Frame} {n:Nat} {k:List Item} {F:List Frame->(Machine->Prop)->Prop} {e:Env} {ds:List Deferred} {X:Cx} {h:HF} {L:LH} {ops:Array Oper} {l:List Oper} {ty:TypeId} {pos:String} {af:Array Edge} {g:Option (Nat×Bool)}
theorem Rx{t:Nat}{fv:Fn}{cap:Array Value}(hro:b.roundOf=none)(hf:e t=.func fv #[] cap)(t':TO P b n ops l k F e ({ target:=.fn fv cap,args:=#[] }::ds) X h L)(hg:guardB ops e ⟨none,.defer ⟨.value (.tmp t),#[],ats⟩,ty,pos,af,g⟩=true:=by rfl):TO P b n ops (⟨none,.defer ⟨.value (.tmp t),#[],ats⟩,ty,pos,af,g⟩::l) k F e ds X h L:=by
 intro w hw is hi a cs Φ hn he hds hF
 obtain⟨i,js,rfl,ho,hj⟩:=rk hi
 have hwt:=(gh (ops:=ops) he).trans hg
 have hst:=stepGR_op (P:=P) (b:=b) (k:=k) (cs:=cs) (w:=w) (rest:=js) ho hwt
 have hr:(execOp a.eval ⟨none,.defer ⟨.value (.tmp t),#[],ats⟩,ty,pos,af,g⟩).run P w=.ok (.defer { target:=.fn fv cap,args:=#[] }) w:=by
  have hev:a.eval (.tmp t)=.func fv #[] cap:=by rw[lC,he];exact hf
  simp[execOp,resolve,hev,qH]
 have hs:Oper.semAt b.roundOf a.eval ⟨none,.defer ⟨.value (.tmp t),#[],ats⟩,ty,pos,af,g⟩=execOp a.eval ⟨none,.defer ⟨.value (.tmp t),#[],ats⟩,ty,pos,af,g⟩:=by rw[hro];rfl
 refine .step (m₁:=lone (b.atR { a with defers:={ target:=.fn fv cap,args:=#[] }::a.defers } (.inRegion ops js::k)) cs w) ?_ (t' w hw js hj { a with defers:={ target:=.fn fv cap,args:=#[] }::a.defers } cs Φ hn he (by rw[hds]) hF)
 refine step_lone_go ?_
 have hfin:=iy (b:=b) { a with defers:={ target:=.fn fv cap,args:=#[] }::a.defers } js k ho undef
 rw[hst,hs]
 simp only[stepG.apply,Sem.runT_eq,hr,GStep.bare_after]
 exact congrArg (λfr=>GStep.go { frame:=fr,callers:=cs,status:=.running,dying:=none } w) hfin
end
theorem S7{g:FuncId}{h:HF}{L:LH}{R:Ending->HF->LH->Prop}{R':HF->LH->Prop}(hf:P.funcs[f]? = some fn)(hg:P.funcs[g]? = some gn)(hb:gn.body=some c)(hm:gn.ntmps=m)(db:Xc cap.length m=true)(hc:∀args w,(callFunc g args).run P w=.ok (.enter g args) w)(t:∀X':Cx,X'.h0=h->TT P (deferFrame g) m [.code c] (IM P X' .returning R') (envArgs cap) [] X' h A)(hL:L=A++Fr)(fin:∀h' B,h.le h'->R' h' B->∀a:Act,envOf a=e->∀w,St X h' (B++Fr) w->∃v h2 B2,(results fn a.tmps).run P w=.ok v w/\St X h2 B2 w/\R (.returned v) h2 B2):
  TT P (bodyFrame f) n (.code .ret::k) (mN P X R) e [{ target:=.fn (.func g) cap.toArray,args:=#[] }] X h L:=by
 intro w hw a cs Φ hn he hds hF
 obtain⟨cc,cs',rfl,h1,_⟩:=hF
 subst hL
 refine .step (stepR_ret rfl) ?_
 have hinv:(invoke (.fn (.func g) cap.toArray) #[]).run P w=.ok (.enter g cap.toArray) w:=by simp[invoke,hc]
 refine .step (step_defer (fr:={ (bodyFrame f).atR a (.code .ret::k)with mode:=.returning }) (by simp) hds rfl hinv) ?_
 have hle':=jM db
 have henter:vR P g cap.toArray .deferred=(deferFrame g).atR { tmps:=cap.toArray++Wa (m-cap.length) undef,defers:=[] } [.code c]:=by
  grind [vR,Wu,deferFrame]
 rw[henter]
 refine t ⟨w,h,A.map (·.1)⟩ rfl w (Ww hw.pre.left) _ _ Φ (by simp;omega) (pX _ _) rfl ⟨_,cc::cs',rfl,rfl,?_⟩
 rintro w' ⟨h',B,hst,hR'⟩
 obtain⟨v,h2,B2,hv,hs2,hR⟩:=fin h' B hst.le hR' a he w' (hw.after hst)
 refine .step (i9 (fn:=fn) (v:=v) rfl rfl rfl hf hv) ?_
 exact h1 v w' ⟨h2,B2,hs2,hR⟩
theorem Tb{g:FuncId}{h:HF}{L:LH}{R:Ending->HF->LH->Prop}{R':HF->LH->Prop}(hf:P.funcs[f]? = some fn)(hg:P.funcs[g]? = some gn)(hb:gn.body=some c)(hm:gn.ntmps=m)(db:Xc cap.length m=true)(hc:∀args w,(callFunc g args).run P w=.ok (.enter g args) w)(t:∀X':Cx,X'.h0=h->TT P (deferFrame g) m [.code c] (λcs Φ=>∃c rest,cs=c::rest/\c.mode=.panicking [{ v:=pv,recovered:=false }]/\IM P X' (.panicking [{ v:=pv,recovered:=true }]) R' ({ c with mode:=.panicking [{ v:=pv,recovered:=true }] }::rest) Φ) (envArgs cap) [] X' h A)(hL:L=A++Fr)(fin:∀h' B,h.le h'->R' h' B->∀a:Act,envOf a=e->∀w,St X h' (B++Fr) w->∃v h2 B2,(results fn a.tmps).run P w=.ok v w/\St X h2 B2 w/\R (.returned v) h2 B2):
  TP P (bodyFrame f) n [{ v:=pv,recovered:=false }] (mN P X R) e [{ target:=.fn (.func g) cap.toArray,args:=#[] }] X h L:=by
 intro w hw a cs Φ todo hn he hds hF
 obtain⟨cc,cs',rfl,h1,_⟩:=hF
 subst hL
 have hinv:(invoke (.fn (.func g) cap.toArray) #[]).run P w=.ok (.enter g cap.toArray) w:=by simp[invoke,hc]
 refine .step (step_defer (fr:={ (bodyFrame f).atR a todo with mode:=.panicking [{ v:=pv,recovered:=false }] }) (by simp) hds rfl hinv) ?_
 have hle':=jM db
 have henter:vR P g cap.toArray .deferred=(deferFrame g).atR { tmps:=cap.toArray++Wa (m-cap.length) undef,defers:=[] } [.code c]:=by
  grind [vR,Wu,deferFrame]
 rw[henter]
 refine t ⟨w,h,A.map (·.1)⟩ rfl w (Ww hw.pre.left) _ _ Φ (by simp;omega) (pX _ _) rfl ⟨_,cc::cs',rfl,rfl,_,cc::cs',rfl,rfl,?_⟩
 rintro w' ⟨h',B,hst,hR'⟩
 obtain⟨v,h2,B2,hv,hs2,hR⟩:=fin h' B hst.le hR' a he w' (hw.after hst)
 refine .step (i9 (fn:=fn) (v:=v) rfl rfl rfl hf hv) ?_
 exact h1 v w' ⟨h2,B2,hs2,hR⟩
end
variable {assign body:Code}{clock:Nat}{es:Array MapEntry}{g:Operand}{it:Go.Value}{ps:List Tmp}{seen:Array Nat}{α:Type}
section
section steps
variable {P:Program} {b:Frame} {n:Nat} {ops:Array Oper} {F:List Frame->(Machine->Prop)->Prop} {e:Env} {ds:List Deferred} {X:Cx} {h:HF} {L:LH} {K:Env->HF->LH->Prop}
variable {d:Option Nat} {ty:TypeId} {pos:String} {af:Array Edge} {g:Option (Nat×Bool)}
theorem KI{t T:TypeId}(hT:P.underlying t=some (.map T E))(hb:h bk=some (.map es clock))(hx:e.ev x=.map (some bk))(t':∀it,K (pute e d (.pointer (some ⟨it,0,none⟩))) h ((it,.mapIter (some bk) clock #[] clock)::L))(hg:guardB ops e ⟨d,.range t x,ty,pos,af,g⟩=true:=by rfl):Stp P b n ops F ds X ⟨d,.range t x,ty,pos,af,g⟩ e h L K:=
 iB hg λw hw=>⟨_,_,h,_,by simp[execOp,Instr.range,hx,run_underlying hT,sM (hw.imm _ _ hb)],hw.alloc _,t' _⟩
theorem NW(i:Nat){it since c0:Nat}(hL:nth L i=some (it,.mapIter (some bk) since seen c0))(hb:h bk=some (.map es clock))(hold:∀x∈es.toList,x.born<since)(hsc:since<=c0)(hx:e.ev x=.pointer (some ⟨it,0,none⟩))(no:(leftOf es seen).size=0->K (pute e d (.tuple #[.bool false])) h L)(yes:∀en∈(leftOf es seen).toList,K (pute e d (.tuple #[.bool true,en.key,en.val])) h (setNth L i (it,.mapIter (some bk) since (seen.push en.born) clock)))(hg:guardB ops e ⟨d,.next x false,ty,pos,af,g⟩=true:=by rfl):Stp P b n ops F ds X ⟨d,.next x false,ty,pos,af,g⟩ e h L K:=by
 refine iB hg λw hw=>?_
 have hit:w.heap[it]? = some (.mapIter (some bk) since seen c0):=by
  have h2:=hL
  rw[iT]at h2
  exact hw.own _ (xE h2)
 rcases run_next_at (P:=P) w ty it bk since c0 seen es clock hit (hw.imm _ _ hb) hold hsc with⟨h0,hr⟩|⟨en,hen,w1,hw1,hr⟩
 .exact⟨_,w,h,L,by simp[execOp,hx,hr],hw,no h0⟩
 .have hw1':St X h L w1:=by
   rcases hw1 with rfl|rfl
   .exact hw
   .exact hw.drew _
  exact⟨.tuple #[.bool true,en.key,en.val],{ w1 with heap:=w1.heap.setIfInBounds it (.mapIter (some bk) since (seen.push en.born) clock) },h,_,by simp[execOp,hx,hr];rfl,hw1'.write hL _,yes en hen⟩
theorem KS(i:Nat){it since:Nat}{en:MapEntry}(hL:nth L i=some (it,.mapIter (some bk) since (seen.push en.born) clock))(hb:h bk=some (.map es clock))(he:en∈es.toList)(hn:(es.toList.map (·.born)).Nodup)(hx:e.ev x=.pointer (some ⟨it,0,none⟩)):
  ∀w,St X h L w->(execOp e.ev ⟨d,.entry x,ty,pos,af,g⟩).run P w=.ok (.value (.tuple #[en.key,en.val])) w:=λw hw=>by
 have hit:w.heap[it]? = some (.mapIter (some bk) since (seen.push en.born) clock):=by
  have h2:=hL
  rw[iT]at h2
  exact hw.own _ (xE h2)
 have:=run_entry_at (P:=P) w it bk since seen es clock en hit (hw.imm _ _ hb) he hn
 simp[execOp,hx,this]
end steps
def IL{α : Type}(P:Program)(it:Value)(val:α->HF->List Value->Prop)(S:List α->Prop)(h:HF):Prop:=
 ∃(f0:FuncId)(cap:List Value),it=.func (.func f0) #[] cap.toArray/\(∀args w,(callFunc f0 args).run P w=.ok (.enter f0 args) w) /\
  ∀(yf:Fn)(ya yb:Array Value)(C:List α->HF->LH->Prop)(Sp:HF->LH->Prop)(Pn:List PanicEntry->HF->LH->Prop)(h':HF)(A:LH),h.le h' ->
   (∀done h1 h2 B,xJ h1 h2->C done h1 B->C done h2 B)->(∀h1 h2 B,xJ h1 h2->Sp h1 B->Sp h2 B)->(∀ch h1 h2 B,xJ h1 h2->Pn ch h1 B->Pn ch h2 B)->C [] h' A ->
   (∀done x vs h'' B,(∃rest,S (done++x::rest))->h'.le h''->C done h'' B->val x h'' vs->nK P (.func yf ya yb) vs.toArray h'' B (YR C Sp Pn done x)) ->
   nK P it #[.func yf ya yb] h' A (λr h2 B=>(r=.returned (.tuple #[])/\((∃xs,S xs/\C xs h2 B)\/Sp h2 B))\/∃ch,r=.panicked ch/\Pn ch h2 B)
theorem JC{F:List Frame->(Machine->Prop)->Prop}{h:HF}{L:LH}{val:α->HF->List Value->Prop}{S:List α->Prop}(I:List α->HF->LH->Prop)(J:Code->HF->LH->Prop)(Pn:List PanicEntry->HF->LH->Prop)(hgv:e.ev g=it)(hit:IL P it val S h)(hps:ps.all (λp=>zJ p n)=true)(hval:∀x h vs,val x h vs->vs.length=ps.length)(hIm:∀done h1 h2 B,xJ h1 h2->I done h1 B->I done h2 B)(hJm:∀c h1 h2 B,xJ h1 h2->J c h1 B->J c h2 B)(hPm:∀ch h1 h2 B,xJ h1 h2->Pn ch h1 B->Pn ch h2 B)(h0:I [] h L)(round:∀l r lp done x vs h' L' X',(∃rest,S (done++x::rest))->h.le h'->I done h' L'->val x h' vs->lp.state=.ready->X'.h0=h'->(∀b∈X'.M,b<X'.w0.heap.size) ->
   TT P (roundFrame l f) n [.code assign,.beginRound,.code body] (mN P X' (RdR l r lp I J Pn done x)) (setParams e ps vs) [] X' h' ((l,.loop lp)::(r,.deferred (some []))::L'))(next:∀r xs h' L',S xs->h.le h'->I xs h' L'->TT P (bodyFrame f) n k F e ({ target:=.collected r,args:=#[] }::ds) X h' ((r,.deferred (some []))::L'))(jump:∀r c h' L',h.le h'->J c h' L'->TT P (bodyFrame f) n (.code c::k) F e ({ target:=.collected r,args:=#[] }::ds) X h' ((r,.deferred (some []))::L'))(pan:∀r ch h' L',h.le h'->Pn ch h' L'->TP P (bodyFrame f) n ch F e ({ target:=.collected r,args:=#[] }::ds) X h' ((r,.deferred (some []))::L')):
  TT P (bodyFrame f) n (.code (.rangeFunc g ps.toArray assign body)::k) F e ds X h L:=by
 obtain⟨f0,cap,rfl,hc0,hit⟩:=hit
 intro w hw a cs Φ hn he hds hF
 let r:=w.heap.size
 let w1:World:={ w with heap:=w.heap.push (.deferred (some [])) }
 have hw1:St X h ((r,.deferred (some []))::L) w1:=hw.alloc _
 let l:=w1.heap.size
 let lp:Loop:={ state:=.ready,pending:=none,fn:=f,tmps:=a.tmps,params:=ps.toArray,assign,body,defers:=r }
 let w2:World:={ w1 with heap:=w1.heap.push (.loop lp) }
 have hw2:St X h ((l,.loop lp)::(r,.deferred (some []))::L) w2:=hw1.alloc _
 have henter:(Xk (bodyFrame f).fn a.tmps ps.toArray assign body (bodyFrame f).roundOf).run P w=.ok (l,[{ target:=.collected r,args:=#[] }]) w2:=by
  simp[Xk,bodyFrame,r,l,lp,w2,w1]
 let C:List α->HF->LH->Prop:=λdone h' B=>∃L',B=(l,.loop lp)::(r,.deferred (some []))::L'/\I done h' L'
 let Sp:HF->LH->Prop:=λh' B=>∃c L',B=(l,.loop { lp with state:=.done,pending:=some c })::(r,.deferred (some []))::L'/\J c h' L'
 let Pm:List PanicEntry->HF->LH->Prop:=λch h' B=>∃lp' L',B=(l,.loop lp')::(r,.deferred (some []))::L'/\Pn ch h' L'
 have hps':∀p∈ps,p<n:=λp hp=>pZ (qQ.1 hps p hp)
 have hy:∀done x vs h'' B,(∃rest,S (done++x::rest))->h.le h''->C done h'' B->val x h'' vs->nK P (.func (.yield l) #[] #[]) vs.toArray h'' B (YR C Sp Pm done x):=by
  rintro done x vs h'' B hxs db ⟨L',rfl,hI⟩ hv
  refine nK.mono (R:=RdR l r lp I J Pn done x) (zY (i:=0) (lp:=lp) rfl (by simp[lp];exact hval x h'' vs hv) ?_) ?_
  .intro X' _ hX' hXM'
   have henv:envOf { tmps:=(ps.toArray.zip vs.toArray).foldl (λtmps p=>tmps.setIfInBounds p.1 p.2) a.tmps,defers:=[] }=setParams e ps vs:=by
    have:=ue ps vs a.tmps a.defers hn hps'
    rw[←he]
    rw[←Xo]
    simpa using this
   grind
  .rintro x' h3 B' _ (⟨e1,L2,e2,h2⟩|⟨e1,c,L2,e2,h2⟩|⟨ch,e1,lp',L2,e2,h2⟩)
   .exact .inl ⟨e1,L2,e2,h2⟩
   .exact .inr (.inl ⟨e1,c,L2,e2,h2⟩)
   .exact .inr (.inr ⟨ch,e1,lp',L2,e2,h2⟩)
 have hs:=hit (.yield l) #[] #[] C Sp Pm h ((l,.loop lp)::(r,.deferred (some []))::L) (kH h) (λ_ _ _ _ hl⟨L',e1,hi⟩=>⟨L',e1,hIm _ _ _ _ hl hi⟩) (λ_ _ _ hl⟨c,L',e1,hi⟩=>⟨c,L',e1,hJm _ _ _ _ hl hi⟩) (λ_ _ _ _ hl⟨lp',L',e1,hi⟩=>⟨lp',L',e1,hPm _ _ _ _ hl hi⟩) ⟨L,rfl,h0⟩ hy
 obtain⟨nx,hrun,hcall⟩:=hs w2 hw2.pre
 have hev:a.eval g=e.ev g:=by rw[lC,he]
 have hnx:nx=.enter f0 (jQ (.yield l) #[] #[]::cap).toArray:=by
  grind [qH,invoke]
 subst hnx
 have hres:(resolve a.eval (rangeCall g l) 0).run P w2=.ok { target:=.fn (.func f0) cap.toArray,args:=#[.func (.yield l) #[] #[]] } w2:=by
  have hcst:∀v,a.eval (.const v)=v:=λ_=>rfl
  simp[resolve,rangeCall,hev,hgv,hcst,qH]
 have hinv:(invoke (.fn (.func f0) cap.toArray) #[.func (.yield l) #[] #[]]).run P w2=.ok (.enter f0 (jQ (.yield l) #[] #[]::cap).toArray) w2:=by
  simp[invoke,hc0]
 have hback:∀v w3,(∃h' B,St ⟨w2,h,((l,Obj.loop lp)::(r,.deferred (some []))::L).map (·.1)⟩ h' B w3/\(λ(r:Ending)(h2:HF)(B:LH)=>(r=.returned (.tuple #[])/\((∃xs,S xs/\C xs h2 B)\/Sp h2 B))\/∃ch,r=.panicked ch/\Pm ch h2 B) (.returned v) h' B) ->
   To P Φ (lone (((bodyFrame f).atR { a with defers:=[{ target:=.collected r,args:=#[] }]++a.defers } (.inRangeFunc l::k)).finish v) cs w3):=by
  rintro v w3 ⟨h',B,hst,hR⟩
  rw[finish_atR_inRangeFunc]
  have hS3:St X h' B w3:=by
   have:=WC (A:=(l,.loop lp)::(r,.deferred (some []))::L) (F:=[]) (by simpa using hw2) hst
   simpa using this
  have db:=hst.le
  rcases hR with⟨_,hCS⟩|⟨ch,hx,_⟩
  .rcases hCS with⟨xs,hxs,L',rfl,hI⟩|⟨c,L',rfl,hJ⟩
   .have hb:w3.heap[l]? = some (.loop lp):=hS3.own _ (kB ..)
    have hend:(Wh l).run P w3=.ok none { w3 with heap:=w3.heap.setIfInBounds l (.loop { lp with state:=.exhausted }) }:=by
     simp[Wh,WJ,getObj,setObj,Xv,hb,lp]
    refine .step (stepR_endRangeFunc hend) ?_
    have hS4:=hS3.write (i:=0) rfl (.loop { lp with state:=.exhausted })
    exact next r xs h' L' hxs db hI _ (hS4.sub (zS ..)) { a with defers:={ target:=.collected r,args:=#[] }::a.defers } cs Φ hn he (by rw[hds]) hF
   .have hb:w3.heap[l]? = some (.loop { lp with state:=.done,pending:=some c }):=hS3.own _ (kB ..)
    have hend:(Wh l).run P w3=.ok (some c) { w3 with heap:=w3.heap.setIfInBounds l (.loop { lp with state:=.exhausted,pending:=some c }) }:=by
     simp[Wh,WJ,getObj,setObj,Xv,hb,lp]
    refine .step (stepR_endRangeFunc hend) ?_
    have hS4:=hS3.write (i:=0) rfl (.loop { lp with state:=.exhausted,pending:=some c })
    exact jump r c h' L' db hJ _ (hS4.sub (zS ..)) { a with defers:={ target:=.collected r,args:=#[] }::a.defers } cs Φ hn he (by rw[hds]) hF
  .cases hx
 have hraise:∀ch w3,(∃h' B,St ⟨w2,h,((l,Obj.loop lp)::(r,.deferred (some []))::L).map (·.1)⟩ h' B w3/\(λ(r:Ending)(h2:HF)(B:LH)=>(r=.returned (.tuple #[])/\((∃xs,S xs/\C xs h2 B)\/Sp h2 B))\/∃ch,r=.panicked ch/\Pm ch h2 B) (.panicked ch) h' B) ->
   To P Φ (lone (((bodyFrame f).atR { a with defers:=[{ target:=.collected r,args:=#[] }]++a.defers } (.inRangeFunc l::k)).raise ch) cs w3):=by
  rintro ch w3 ⟨h',B,hst,hR⟩
  have hS3:St X h' B w3:=by
   have:=WC (A:=(l,.loop lp)::(r,.deferred (some []))::L) (F:=[]) (by simpa using hw2) hst
   simpa using this
  rcases hR with⟨hx,_⟩|⟨ch',hx,lp',L',rfl,hP⟩
  .cases hx
  .cases hx
   exact pan r ch h' L' hst.le hP w3 (hS3.sub (zS ..)) { a with defers:={ target:=.collected r,args:=#[] }::a.defers } cs Φ _ hn he (by rw[hds]) hF
 refine .step (stepR_rangeFunc henter hres hinv) ?_
 exact hcall _ cs Φ hback hraise
theorem AB{es:List MapEntry}(hn:(es.map (·.born)).Nodup)(is:List Nat)(hlt:∀i∈is,i<es.length):
  ((leftOf es.toArray (is.map λi=>(es[i]?.map (·.born)).getD 0).toArray).size=0->∀i,i<es.length->i∈is) /\
  ∀en∈(leftOf es.toArray (is.map λi=>(es[i]?.map (·.born)).getD 0).toArray).toList,∃i,es[i]? = some en/\i∉is:=by
 have hmem:∀en,en∈(leftOf es.toArray (is.map λi=>(es[i]?.map (·.born)).getD 0).toArray).toList↔en∈es/\en.born∉is.map λi=>(es[i]?.map (·.born)).getD 0:=by
  intro en
  simp[leftOf]
 constructor
 .intro h0 i hi
  apply Classical.byContradiction
  intro hni
  have:es[i]∈(leftOf es.toArray (is.map λi=>(es[i]?.map (·.born)).getD 0).toArray).toList:=by
   rw[hmem]
   refine⟨List.getElem_mem hi,λhm=>?_⟩
   obtain⟨j,hj,hje⟩:=zM.1 hm
   have hjl:=hlt j hj
   simp only[List.getElem?_eq_getElem hjl,Option.map_some,Option.getD_some]at hje
   have:j=i:=by
    have h1:(es.map (·.born))[j]? = (es.map (·.born))[i]?:=by simp[List.getElem?_eq_getElem hjl,List.getElem?_eq_getElem hi,hje]
    exact(List.getElem?_inj (by simpa using hjl) hn).1 h1
   exact hni (this▸hj)
  grind
 .intro en hen
  rw[hmem]at hen
  obtain⟨i,hi,rfl⟩:=List.mem_iff_getElem.1 hen.1
  grind
end
variable {xs:List α}
section
section
variable {P:Program} {b:Frame} {n:Nat} {k:List Item} {F:List Frame->(Machine->Prop)->Prop} {e:Env} {ds:List Deferred} {X:Cx} {h:HF} {L:LH}
end
theorem P8{F:List Frame->(Machine->Prop)->Prop}{h:HF}{L:LH}{val:α->HF->List Value->Prop}(rs:List Nat)(hh:ι->HF)(LL:ι->LH)(I:List α->ι->Prop)(JR:ι->Prop)(xid:Nat)(Q:List PanicEntry->HF->LH->Prop)(i₀ : ι)(hf:P.funcs[f]? = some fn)(hgv:e.ev g=it)(hit:Itr P it val xs h)(hps:ps.all (λp=>zJ p n)=true)(hval:∀x h vs,val x h vs->vs.length=ps.length)(hQm:∀ch h1 h2 B,xJ h1 h2->Q ch h1 B->Q ch h2 B)(hh0:hh i₀=h)(hL0:L=LL i₀)(h0:I xs i₀)(round:∀(l r:Nat)(lp:Loop)(x:α)(rest:List α)(vs:List Value)(i:ι)(h':HF)(X':Cx)(FR:List Frame->(Machine->Prop)->Prop),I (x::rest) i->h.le h'->(hh i).le h'->val x h' vs->X'.h0=h'->(∀b∈X'.M,b<X'.w0.heap.size)->lp.state=.ready ->
   (∀i' e' h2,I rest i'->(hh i').le h2->TT P (roundFrame l f) n [] FR e' [] X' h2 (rdH l r lp (LL i'++markB rs))) ->
   (∀i' e' h2 k',JR i'->(hh i').le h2->TT P (roundFrame l f) n (.code .ret::k') FR e' [] X' h2 (rdH l r lp (LL i'++markB rs))) ->
   (∀i' e' h2 k',I [] i'->(hh i').le h2->exitTo xid k'=none->TT P (roundFrame l f) n (.code (.exit xid)::k') FR e' [] X' h2 (rdH l r lp (LL i'++markB rs))) ->
   (∀ch e' h' L',Q ch h' L'->TP P (roundFrame l f) n ch FR e' [] X' h' (rdH l r lp (L'++markB rs))) ->
   TT P (roundFrame l f) n [.code assign,.beginRound,.code body] FR (setParams e ps vs) [] X' h' ((l,.loop lp)::(r,.deferred (some []))::(LL i++markB rs)))(next:∀r i h',I [] i->(hh i).le h'->h.le h'->TT P (bodyFrame f) n k F e (marks (r::rs)) X h' (LL i++markB (r::rs)))(jret:∀r i h',JR i->(hh i).le h'->h.le h'->TT P (bodyFrame f) n (.code .ret::.inBlock xid::k) F e (marks (r::rs)) X h' (LL i++markB (r::rs)))(pan:∀r ch h' L',Q ch h' L'->h.le h'->TP P (bodyFrame f) n ch F e (marks (r::rs)) X h' (L'++markB (r::rs))):
  TT P (bodyFrame f) n (.code (.rangeFunc g ps.toArray assign body)::.inBlock xid::k) F e (marks rs) X h (L++markB rs):=
 j7 rs hh LL I JR (λi=>I [] i) xid Q i₀ hf hgv hit hps hval hQm hh0 hL0 h0 round (λr i h' a b c=>fM (next r i h' a b c)) jret
  (λr i h' a b c=>kw (by simp[exitTo]) (next r i h' a b c)) pan
section mputs
variable {κ α : Type} [DecidableEq κ]
end mputs
end
variable {G:LH}{base:Option Addr}{ch:Operand}{dir:ChanDir}{i vo:Nat}{z:Go.Value}
section
section grow
variable {α : Type} {R:Rp α} {E:TypeId} {h:HF} {xs:List α} {base:Option Addr} {cap:Nat} {G:LH}
theorem cN.xz(hG:cN R E h xs base cap G)(hne:0<xs.length):∃bk,base=some ⟨bk,0,none⟩:=by
 rcases hG with⟨rfl,_⟩|⟨bk,_,_,e,_⟩
 .simp at hne
 .exact⟨bk,e⟩
theorem cN.bnd(hG:cN R E h xs base cap G):xs.length<=9223372036854775807:=by
 rcases hG with⟨rfl,_⟩|⟨bk,cl,sp,_,_,_,_,h5,_⟩
 .simp
 .exact h5
theorem cN.US(hG:cN R E h xs base cap G):xs.length<=cap:=by
 rcases hG with⟨rfl,_⟩|⟨bk,cl,sp,_,_,_,h4,_⟩
 .simp
 .exact h4
theorem cY.split:∀{xs ys:List α}{cl:List Value},cY R h cl (xs++ys)->∃a b,cl=a++b/\cY R h a xs/\cY R h b ys
 |[],ys,cl,hc=>⟨[],cl,rfl,rfl,hc⟩
 |x::xs,ys,cl,⟨cs,rest,e,hl,hr,hc⟩=>by
  obtain⟨a,b,rfl,h1,h2⟩:=cY.split hc
  exact⟨cs++a,b,by rw[e,vD],⟨cs,a,rfl,hl,hr,h1⟩,h2⟩
theorem cN.take(hG:cN R E h xs base cap G)(k:Nat):cN R E h (xs.take k) base cap G:=by
 rcases hG with⟨rfl,rfl,rfl,rfl⟩|⟨bk,cl,sp,e,hc,h3,h4,h5,rfl⟩
 .rw[List.take_nil];exact cN.nil
 .rw[←List.take_append_drop k xs]at hc
  obtain⟨a,b,rfl,h1,h2⟩:=cY.split hc
  refine .inr ⟨bk,a,b++sp,e,h1,by rw[←vD];exact h3,?_,?_,by rw[vD]⟩
  all_goals grind
end grow
section runs
variable {P:Program} {e:Env} {X:Cx} {h:HF} {L:LH} {d:Option Nat} {ty:TypeId} {pos:String} {af:Array Edge} {g:Option (Nat×Bool)}
variable {α : Type} {R:Rp α} {E:TypeId} {xs:List α} {base:Option Addr} {cap bk:Nat} {G:LH}
theorem nR{t:TypeId}{z:Int}(hT:P.underlying t=some (.slice E))(hS:tySz P E=some (R.sz,a))(hb:base=some ⟨bk,0,none⟩)(hz:0<=z/\z<(xs.length:Int))(hx:e.ev x=.slice base m cap)(hm:m=xs.length)(hix:e.ev ix=.int .i64 z):∀w,St X h L w->(execOp e.ev ⟨d,.indexAddr t x ix,ty,pos,af,g⟩).run P w=.ok (.value (.pointer (some ⟨bk,z.toNat*R.sz,none⟩))) w:=by
 subst hb hm
 have hzz:z=(z.toNat:Int):=by omega
 rw[hzz]at hix
 intro w hw
 rw[Hq hT hS hx hix (by omega) w hw,oo]
theorem E2{t:TypeId}{y:α}{h0:HF}(hT:tySz P t=some (m,false))(hG:cN R E h0 xs base cap G)(hb:base=some ⟨bk,0,none⟩)(hi:xs[i]? = some y)(hv:∀cs,R.rep h0 cs y->nth cs off=some v)(hx:e.ev x=.pointer (some ⟨bk,i*R.sz+off,none⟩))(hm:∀p∈G,p∈L):∀w,St X h L w->(execOp e.ev ⟨d,.load t x,ty,pos,af,g⟩).run P w=.ok (.value v) w:=by
 rcases hG with⟨rfl,_⟩|⟨bk',cl,sp,e1,hc,_,_,_,rfl⟩
 .simp at hi
 .rw[hb]at e1
  cases e1
  obtain⟨cs,hl,hr,hcell⟩:=hc.get i y hi
  have hv':=hv cs hr
  rw[iT]at hv'
  have h9:=hcell off v hv'
  refine vy hT hx (hm _ (List.mem_singleton.2 rfl)) ?_
  grind [iT]
end runs
theorem yO(a b:List α)(i:Nat)(x:α)(hi:i<a.length):setNth (a++b) i x=setNth a i x++b:=by grind [pg]
theorem Ej(a b:List α)(i:Nat)(x:α):setNth (a++b) (a.length+i) x=a++setNth b i x:=by grind [pg]
theorem cY.set{α : Type}{R:Rp α}{h:HF}{off:Nat}{v:Value}{y y':α}(ho:off<R.sz)(hrep:∀cs,R.rep h cs y->R.rep h (setNth cs off v) y'):
  ∀{xs:List α}{cl:List Value}(i:Nat),cY R h cl xs->xs[i]? = some y->cY R h (setNth cl (i*R.sz+off) v) (xs.set i y')
 |x::xs,cl,0,⟨cs,rest,e,hl,hr,hc⟩,hi=>by
  simp at hi
  subst hi
  rw[e,Nat.zero_mul,Nat.zero_add,yO _ _ _ _ (by omega)]
  exact⟨setNth cs off v,rest,rfl,by rw[sD];exact hl,hrep cs hr,hc⟩
 |x::xs,cl,i+1,⟨cs,rest,e,hl,hr,hc⟩,hi=>by
  have ih:=cY.set ho hrep i hc (by simpa using hi)
  rw[e,show(i+1)*R.sz+off=cs.length+(i*R.sz+off)from by rw[hl,Nat.add_mul];omega,Ej]
  exact⟨cs,_,rfl,hl,hr,ih⟩
 |[],_,_,_,hi=>by simp at hi
section steps
variable {P:Program} {b:Frame} {n:Nat} {ops:Array Oper} {F:List Frame->(Machine->Prop)->Prop} {e:Env} {ds:List Deferred} {X:Cx} {h:HF} {L:LH} {K:Env->HF->LH->Prop}
variable {d:Option Nat} {ty:TypeId} {pos:String} {af:Array Edge} {g:Option (Nat×Bool)}
variable {α : Type} {R:Rp α} {E:TypeId} {xs:List α} {base:Option Addr} {cap bk:Nat}
theorem uO(A G Q:LH){t:TypeId}{u u':α}(hT:tySz P t=some (m,a))(hm:m=1)(hG:cN R E h xs base cap G)(hL:L=A++(G++Q))(hb:base=some ⟨bk,0,none⟩)(hi:xs[i]? = some u)(ho:off<R.sz)(hrep:∀cs,R.rep h cs u->R.rep h (setNth cs off v) u')(hx:e.ev x=.pointer (some ⟨bk,i*R.sz+off,none⟩))(hv:vcells (e.ev y)=[v])(h1:one v=true)(t':∀G',cN R E h (xs.set i u') base cap G'->K e h (A++(G'++Q)))(hg:guardB ops e ⟨none,.store t x y,ty,pos,af,g⟩=true:=by rfl):Stp P b n ops F ds X ⟨none,.store t x y,ty,pos,af,g⟩ e h L K:=by
 subst hL hm
 rcases hG with⟨rfl,_⟩|⟨bk',cl,sp,e1,hc,h3,h4,h5,rfl⟩
 .simp at hi
 .have e2:=e1
  rw[hb]at e2
  cases e2
  have hlen:=hc.len
  have hil:i<xs.length:=by
   all_goals grind
  have hlt:i*R.sz+off<cl.length:=by
   rw[hlen]
   have:=Nat.mul_le_mul_right R.sz (show i+1<=xs.length from hil)
   rw[Nat.add_mul]at this;omega
  have hnth:nth (A++([(bk,jG (cl++sp).toArray E (0,0))]++Q)) A.length=some (bk,.cells (cl++sp).toArray E (0,0)):=K7 A _ Q
  refine lK A.length hT hx hnth hv rfl (by simp;omega) (by simp[h1]) ?_ hg
  have hs:splice (cl++sp) (i*R.sz+off) [v]=setNth cl (i*R.sz+off) v++sp:=by
   grind [splice,yO]
  rw[hs]
  have hset:=Cn A (bk,jG (cl++sp).toArray E (0,0)) (bk,jG (setNth cl (i*R.sz+off) v++sp).toArray E (0,0)) Q
  show K e h (setNth (A++(bk,jG (cl++sp).toArray E (0,0))::Q) A.length _)
  rw[hset]
  refine t' [(bk,.cells (setNth cl (i*R.sz+off) v++sp).toArray E (0,0))] (.inr ⟨bk,setNth cl (i*R.sz+off) v,sp,e1,cY.set ho hrep i hc hi,?_,?_,?_,rfl⟩)
  all_goals grind [sD]
theorem Mo{t:TypeId}{hi:Operand}{z:Int}(hT:P.underlying t=some (.slice E))(hS:tySz P E=some (R.sz,a))(hG:cN R E h xs base cap G)(hz:0<=z/\z<=(xs.length:Int))(hx:e.ev x=.slice base m cap)(hm:m=xs.length)(hhi:e.ev hi=.int .i64 z)(t':K (pute e d (.slice base (xs.take z.toNat).length cap)) h L)(hg:guardB ops e ⟨d,.slice t x none (some hi) none,ty,pos,af,g⟩=true:=by rfl):Stp P b n ops F ds X ⟨d,.slice t x none (some hi) none,ty,pos,af,g⟩ e h L K:=by
 subst hm
 have hcap:=hG.US
 have hz2:0<=z/\z<=(cap:Int):=by omega
 have hl:z.toNat=(xs.take z.toNat).length:=by simp;omega
 refine eu (v:=.slice base (xs.take z.toNat).length cap) (λw hw=>?_) t' hg
 rw[←hl]
 by_cases h0:cap=0
 .have hz0:z=0:=by omega
  subst hz0
  simp[execOp,Instr.sliceAt,Instr.slice,Instr.sliceBounds,Instr.sliceBound,hx,hhi,asIntOf,run_underlying hT,fL hS,hz2,h0]
 .simp[execOp,Instr.sliceAt,Instr.slice,Instr.sliceBounds,Instr.sliceBound,hx,hhi,asIntOf,run_underlying hT,fL hS,hz2,h0,kP]
theorem Df(A G Q:LH)(hc:∀args w,(callFunc f args).run P w=.ok (.enter f args) w)(hm:R.Mono)(hG:cN R E h xs base cap G)(hL:L=A++(G++Q))(hs:∀h1,h.le h1->SlC R h1 base cap xs->Ret P f vs h1 v)(hvs:ass.toList.map e.ev=vs)(t':K (pute e d v) h L)(hg:guardB ops e ⟨d,.call ⟨.value (.func f),ass,ats⟩,ty,pos,af,g⟩=true:=by rfl):
  Stp P b n ops F ds X ⟨d,.call ⟨.value (.func f),ass,ats⟩,ty,pos,af,g⟩ e h L K:=by
 unfold Stp
 rw[if_pos hg]
 intro w hw
 have harr:ass.map e.ev=vs.toArray:=qS (by simp[←hvs])
 have hr:(execOp e.ev ⟨d,.call ⟨.value (.func f),ass,ats⟩,ty,pos,af,g⟩).run P w=.ok (.enter f vs.toArray) w:=by
  simp[execOp,resolve,Xh,qH,invoke,harr,hc]
 rw[hr]
 have back:∀(h1:HF),h.le h1->(∀bk o,h1 bk=some o->w.heap[bk]? = some o)->SlC R h1 base cap xs->yW P b n ops F ds X ⟨d,.call ⟨.value (.func f),ass,ats⟩,ty,pos,af,g⟩ e K (.ok (.enter f vs.toArray) w):=by
  intro h1 db himm hsl
  have hp1:Pre h1 [] w:=⟨himm,λ_ hp=>(kA hp).elim,V6,λ_ hp=>(kA hp).elim⟩
  refine mH (by simp) (lk (tw.mono (hs h1 db hsl w hp1) ?_))
  rintro x w' ⟨h',B,hst,rfl,rfl,rfl⟩
  refine⟨h,L,⟨hst.os.trans hw.os,hst.tape.trans hw.tape,hst.output.trans hw.output,qM hw.size hst.size,λb' hb' hM=>?_,hw.le,hw.old,λb' o hb'=>?_,λp hp=>?_,hw.dis,hw.free,hw.new⟩,t'⟩
  .rw[hst.keep b' (WV hb' hw.size) (by simp)];exact hw.keep b' hb' hM
  .rw[hst.keep b' (ij (hw.imm b' o hb')) (by simp)];exact hw.imm b' o hb'
  .rw[hst.keep p.1 (ij (hw.own p hp)) (by simp)];exact hw.own p hp
 rcases hG with⟨rfl,rfl,rfl,rfl⟩|⟨bk,cl,sp,rfl,hcl,h3,h4,h5,rfl⟩
 .exact back h (kH h) hw.imm SlC.nil
 .have hmem:(bk,jG (cl++sp).toArray E (0,0))∈L:=by rw[hL];simp
  have db:h.le (h.add bk (.cells (cl++sp).toArray E (0,0))):=HF.yw (hw.free _ hmem)
  refine back _ db (λk o hk=>?_) ⟨cY.slB (hcl.mono hm db) (HF.tl _ _ _) h5,h4⟩
  unfold HF.add at hk
  by_cases e0:k=bk
  .subst e0;simp at hk;subst hk;exact hw.own _ hmem
  .rw[if_neg e0]at hk;exact hw.imm k o hk
theorem RJ{t E:TypeId}{sz:Operand}(hT:P.underlying t=some (.chan dir E))(hby:bytesOf P E=some vo)(hsz:e.ev sz=.int .i64 (m:Nat))(hm:m<=1000000000)(hb:vo<=4096)(t':∀bk,K (pute e d (.chan (some bk))) h ((bk,.chan m #[] false 0 0 false)::L))(hg:guardB ops e ⟨d,.makeChan t sz,ty,pos,af,g⟩=true:=by rfl):Stp P b n ops F ds X ⟨d,.makeChan t sz,ty,pos,af,g⟩ e h L K:=
 iB hg λw hw=>by
  refine⟨_,_,h,_,?_,hw.alloc (.chan m #[] false 0 0 false),t' _⟩
  have h1:¬((m:Int)>IntKind.i64.max):=by
   have:IntKind.i64.max=9223372036854775807:=by rfl
   omega
  have h2:∃i,P.info? E=some i/\i.bytes=vo:=by
   unfold bytesOf at hby
   cases hi:P.info? E with
   |none=>rw[hi]at hby;cases hby
   |some i=>rw[hi]at hby;exact⟨i,rfl,by simpa using hby⟩
  obtain⟨i,hi,hib⟩:=h2
  have h3:¬((i.bytes:Int)*(m:Int)>2 ^ 48-112):=by
   rw[hib]
   have:vo*m<=4096*1000000000:=Nat.mul_le_mul hb hm
   grind
  simp only[execOp,Instr.makeChan,hsz]
  simp[asInt,asIntOf,run_underlying hT,typeInfo,hi]
  grind
end steps
theorem Cb{s:GStep}{g:Goroutine}{cs:Array CommCase}{bl:Bool}{sh:CommShape}(h:s.bare=.comm g cs bl sh w):∃es,s=.comm g cs bl sh w es:=by
 cases s<;>simp at h
 obtain⟨rfl,rfl,rfl,rfl,rfl⟩:=h
 exact⟨_,rfl⟩
section comm
variable {P:Program} {b:Frame} {n:Nat} {ops:Array Oper} {l:List Oper} {k:List Item} {F:List Frame->(Machine->Prop)->Prop} {e:Env} {ds:List Deferred} {X:Cx} {h:HF} {L:LH}
variable {ty:TypeId} {pos:String} {af:Array Edge} {g:Option (Nat×Bool)}
theorem UG(i:Nat){c cap s r:Nat}(hL:nth L i=some (c,.chan cap vs.toArray false s r false))(hch:e.ev ch=.chan (some c))(hx:e.ev x=v)(hroom:vs.length<cap)(t:TO P b n ops l k F e ds X h (setNth L i (c,.chan cap (vs++[v]).toArray false (s+1) r false)))(hg:guardB ops e ⟨none,.send ch x,ty,pos,af,g⟩=true:=by rfl):TO P b n ops (⟨none,.send ch x,ty,pos,af,g⟩::l) k F e ds X h L:=by
 intro w hw is hi a cs Φ hn he hds hF
 obtain⟨j,js,rfl,ho,hj⟩:=rk hi
 have hwt:=(gh (ops:=ops) he).trans hg
 have hs:=stepGR_op (P:=P) (b:=b) (k:=k) (cs:=cs) (w:=w) (rest:=js) ho hwt
 rw[lv _ _ rfl,lC,he]at hs
 have hb:w.heap[c]? = some (.chan cap vs.toArray false s r false):=by
  have h2:=hL
  rw[iT]at h2
  exact hw.own _ (xE h2)
 have hcm:∃es,stepG P true (Go.Conc.G (b.atR a (.inRegion ops (j::js)::k)) cs) w=.comm (Go.Conc.G (b.atR a (.inRegion ops (j::js)::k)) cs) #[Go.Conc.scase c v (.tuple #[])] true .send w es:=by
  have hrun:(execOp e.ev ⟨none,.send ch x,ty,pos,af,g⟩).run P w=.ok (.comm #[Go.Conc.scase c v (.tuple #[])] true .send) w:=by
   simp[execOp,hch,hx,Go.Conc.scase]
  show ∃es,stepG P true { frame:=b.atR a (.inRegion ops (j::js)::k),callers:=cs,status:=.running,dying:=none } w=_
  refine Cb ?_
  rw[hs]
  simp[stepG.apply,hrun,Go.Conc.G]
 obtain⟨es,hcm⟩:=hcm
 have h1:=Go.Conc.step_lone_send_room hcm hb (by simpa using hroom)
 refine .step h1 ?_
 rw[show Go.Conc.solo (Go.Conc.G ((b.atR a (.inRegion ops (j::js)::k)).finish undef) cs) (w.setChan c cap (vs.toArray.push v) false (s+1) r false)=lone ((b.atR a (.inRegion ops (j::js)::k)).finish undef) cs (w.setChan c cap (vs.toArray.push v) false (s+1) r false)from rfl,iy a js k ho undef]
 have hw2:=hw.write hL (.chan cap (vs++[v]).toArray false (s+1) r false)
 have e1:vs.toArray.push v=(vs++[v]).toArray:=by simp
 rw[e1]
 exact t _ hw2 js hj a cs Φ hn he hds hF
theorem UH(i:Nat){t:TypeId}{d c cap s r:Nat}(hT:P.underlying t=some (.chan dir E))(hz:zeroV P E=some z)(hL:nth L i=some (c,.chan cap (v::vs).toArray false s r false))(hch:e.ev ch=.chan (some c))(t':TO P b n ops l k F (upd e d v) ds X h (setNth L i (c,.chan cap vs.toArray false s (r+1) false)))(hd:Nat.blt d n=true:=by rfl)(hg:guardB ops e ⟨some d,.recv t ch false,ty,pos,af,g⟩=true:=by rfl):TO P b n ops (⟨some d,.recv t ch false,ty,pos,af,g⟩::l) k F e ds X h L:=by
 intro w hw is hi a cs Φ hn he hds hF
 obtain⟨j,js,rfl,ho,hj⟩:=rk hi
 have hwt:=(gh (ops:=ops) he).trans hg
 have hs:=stepGR_op (P:=P) (b:=b) (k:=k) (cs:=cs) (w:=w) (rest:=js) ho hwt
 rw[lv _ _ rfl,lC,he]at hs
 have hb:w.heap[c]? = some (.chan cap (v::vs).toArray false s r false):=by
  have h2:=hL
  rw[iT]at h2
  exact hw.own _ (xE h2)
 have hcm:∃es,stepG P true (Go.Conc.G (b.atR a (.inRegion ops (j::js)::k)) cs) w=.comm (Go.Conc.G (b.atR a (.inRegion ops (j::js)::k)) cs) #[Go.Conc.rcase c z] true (.recv false) w es:=by
  have hrun:(execOp e.ev ⟨some d,.recv t ch false,ty,pos,af,g⟩).run P w=.ok (.comm #[Go.Conc.rcase c z] true (.recv false)) w:=by
   simp[execOp,run_underlying hT,eG hz,hch,Go.Conc.rcase]
  show ∃es,stepG P true { frame:=b.atR a (.inRegion ops (j::js)::k),callers:=cs,status:=.running,dying:=none } w=_
  refine Cb ?_
  rw[hs]
  simp[stepG.apply,hrun,Go.Conc.G]
 obtain⟨es,hcm⟩:=hcm
 have h1:=Go.Conc.step_lone_recv_buf false hcm hb (by simp)
 refine .step h1 ?_
 have e2:Go.Conc.got false ((v::vs).toArray.getD 0 undef) true=v:=by simp[Go.Conc.got]
 have e1:(v::vs).toArray.extract 1 (v::vs).toArray.size=vs.toArray:=by simp
 rw[e2,e1]
 rw[show Go.Conc.solo (Go.Conc.G ((b.atR a (.inRegion ops (j::js)::k)).finish v) cs) (w.setChan c cap vs.toArray false s (r+1) false)=lone ((b.atR a (.inRegion ops (j::js)::k)).finish v) cs (w.setChan c cap vs.toArray false s (r+1) false)from rfl,iy a js k ho v]
 have hw2:=hw.write hL (.chan cap vs.toArray false s (r+1) false)
 have hdn:d<n:=jM hd
 exact t' _ hw2 js hj (a.put (some d) v) cs Φ (by rw[pF];exact hn) (by rw[qn _ _ _ (hn▸hdn),he]) (by rw[ng];exact hds) hF
end comm
section runs2
variable {P:Program} {e:Env} {X:Cx} {h:HF} {L:LH} {d:Option Nat} {ty:TypeId} {pos:String} {af:Array Edge} {g:Option (Nat×Bool)}
theorem Uw{t:TypeId}{c cap s r:Nat}(hT:P.underlying t=some (.chan dir E))(hL:(c,Obj.chan cap vs.toArray false s r false)∈L)(hch:e.ev ch=.chan (some c)):
  ∀w,St X h L w->(execOp e.ev ⟨d,.call ⟨.builtin .len,#[ch],#[t]⟩,ty,pos,af,g⟩).run P w=.ok (.value (.int .i64 (vs.length:Nat))) w:=λw hw=>by
 have hb:w.heap[c]? = some (.chan cap vs.toArray false s r false):=hw.own _ hL
 have hg:(getObj c).run P w=.ok (.chan cap vs.toArray false s r false) w:=by simp[getObj,Xv,hb]
 simp[execOp,resolve,invoke,builtin,Builtin.len_,hch,run_underlying hT,hg,goInt]
theorem Qo{t:TypeId}{lo:Operand}{cap:Nat}(hT:P.underlying t=some (.slice E))(hS:tySz P E=some (sz,a))(hx:e.ev x=.slice (some ⟨bk,0,none⟩) n cap)(hlo:e.ev lo=.int .i64 (i:Nat))(hi:i<n)(hc:n<=cap)(hm:n-i=m)(h1:sz=1:=by rfl):
  ∀w,St X h L w->(execOp e.ev ⟨d,.slice t x (some lo) none none,ty,pos,af,g⟩).run P w=.ok (.value (.slice (some ⟨bk,i,none⟩) m (cap-i))) w:=λw hw=>by
 subst h1 hm
 have h2:¬(cap=i):=by omega
 have h3:(⟨bk,0,none⟩:Addr).add i=⟨bk,i,none⟩:=oo bk i
 simp[execOp,Instr.sliceAt,Instr.slice,Instr.sliceBounds,Instr.sliceBound,hx,hlo,asIntOf,run_underlying hT,fL hS,h2,h3,Nat.le_of_lt hi]
end runs2
theorem Mu{R:Rp α}{h:HF}{L:LH}{t ty:TypeId}{ys:List α}{cap:Nat}{x:Value}(hw:St X h L w)(hT:P.underlying t=some (.slice E))(hS:tySz P E=some (R.sz,a))(hz:zeroC P E=some zs)(hzl:zs.length=R.sz)(hby:bytesOf P E=some vo)(hs1:Src R h L (.slice base xs.length cap) xs)(hsrc:Src R h L x ys)(hcap:cap<xs.length+ys.length)(hb:(xs.length+ys.length)*vo<=140737488355328)(hb2:xs.length+ys.length<=9223372036854775807):
  ∃base' cap' G' w',(Builtin.append_ #[t,t] ty #[.slice base xs.length cap,x]).run P w=.ok (.slice base' (xs++ys).length cap') w'/\cN R E h (xs++ys) base' cap' G'/\St X h (G'++L) w':=by
 obtain⟨i,hi,hby'⟩:∃i,P.info? E=some i/\i.bytes=vo:=by
  unfold bytesOf at hby
  cases hi:P.info? E with
  |none=>simp[hi]at hby
  |some i=>exact⟨i,rfl,by simpa[hi]using hby⟩
 have hsz:i.size=R.sz:=by
  have:=fL hS w
  simpa[sizeOf,typeInfo,hi]using this
 obtain⟨z,hzz,hzc⟩:∃z,i.zero=some z/\z.cells=zs.toArray:=by
  unfold zeroC at hz
  cases hzz:i.zero with
  |none=>simp[hi,hzz]at hz
  |some z=>exact⟨z,rfl,by simp[hi,hzz]at hz;rw[mB,hz]⟩
 have hnewlen:(xs++ys).length=xs.length+ys.length:=by simp
 have hroom:¬xs.length+ys.length<=cap:=by omega
 have hwd:St X h L w.drew:=hw.drew _
 obtain⟨cl0,b0,c0,hx0,hc0,hf0⟩:=uy (P:=P) hs1 hwd
 obtain⟨cl',b1,c1,hx',hc',hf'⟩:=uy (P:=P) hsrc hwd
 have hfit:Builtin.nextslicecap (xs.length+ys.length) cap*i.bytes<=281474976710656:=growslice_fits hcap (by rw[hby'];exact hb)
 have h48':¬(281474976710656<Builtin.nextslicecap (xs.length+ys.length) cap*i.bytes):=by omega
 have h63':¬(9223372036854775807<((xs.length:Int)+(ys.length:Int))):=by omega
 have hge:=grownCap_ge w (xs.length+ys.length) cap E
 let nc:=grownCap w (xs.length+ys.length) cap E
 let rest:=(Builtin.zeroCells z.cells (nc-(xs.length+ys.length))).toList
 refine⟨some ⟨w.heap.size,0,none⟩,nc,[(w.heap.size,.cells ((cl0++cl')++rest).toArray E (0,0))],w.drew.alloc (.cells ((cl0++cl')++rest).toArray E),?_,?_,?_⟩
 .subst hx'
  rw[←hsz]at hf0 hf'
  simp[Builtin.append_,run_underlying hT,sizeOf,typeInfo,zeroValue,hi,hzz,Builtin.lenOf,hroom,h63',h48',Question.forced,hf0,hf',newRow,grownCap,nc,rest]
  congr 2
  apply qS
  simp
 .refine .inr ⟨w.heap.size,cl0++cl',rest,rfl,cY.app hc' hc0,?_,by rw[hnewlen];exact hge,by rw[hnewlen];exact hb2,rfl⟩
  have:rest.length=(nc-(xs.length+ys.length))*R.sz:=by
   simp[rest,Builtin.zeroCells,hzc,hzl]
  simp only[vA,this,hc0.len,hc'.len,←Nat.add_mul]
  congr 1
  omega
 .exact hwd.alloc (.cells ((cl0++cl')++rest).toArray E (0,0))
section steps3
variable {P:Program} {b:Frame} {n:Nat} {ops:Array Oper} {F:List Frame->(Machine->Prop)->Prop} {e:Env} {ds:List Deferred} {X:Cx} {h:HF} {L:LH} {K:Env->HF->LH->Prop}
variable {d:Option Nat} {ty:TypeId} {pos:String} {af:Array Edge} {g:Option (Nat×Bool)}
theorem JN{R:Rp α}{t:TypeId}{s:Operand}{ys:List α}{cap:Nat}(hT:P.underlying t=some (.slice E))(hS:tySz P E=some (R.sz,a))(hz:zeroC P E=some zs)(hzl:zs.length=R.sz)(hby:bytesOf P E=some vo)(hs1:Src R h L (.slice base xs.length cap) xs)(hx:e.ev s=.slice base m cap)(hm:m=xs.length)(hsrc:Src R h L (e.ev y) ys)(hcap:cap<xs.length+ys.length)(hb:(xs.length+ys.length)*vo<=140737488355328)(hb2:xs.length+ys.length<=9223372036854775807)(t':∀base' cap' G',cN R E h (xs++ys) base' cap' G'->K (pute e d (.slice base' (xs++ys).length cap')) h (G'++L))(hgd:guardB ops e ⟨d,.call ⟨.builtin .append,#[s,y],#[t,t]⟩,ty,pos,af,g⟩=true:=by rfl):Stp P b n ops F ds X ⟨d,.call ⟨.builtin .append,#[s,y],#[t,t]⟩,ty,pos,af,g⟩ e h L K:=
 iB hgd λw hw=>by
  subst hm
  obtain⟨base',cap',G',w',hr,hG',hst⟩:=Mu (P:=P) (ty:=ty) hw hT hS hz hzl hby hs1 hsrc hcap hb hb2
  refine⟨_,w',h,_,?_,hst,t' _ _ _ hG'⟩
  simp[execOp,resolve,invoke,builtin,hx,hr]
theorem Ek{t:TypeId}{len:Nat}{cells:List Value}(hXM:∀b∈X.M,b<X.w0.heap.size)(hT:P.underlying t=some (.slice E))(hS:tySz P E=some (sz,a))(hz:zeroC P E=some zs)(hpos:zJ 0 (len*sz)=true)(hlt:Xc (len*sz) 16777216=true)(hc:Xn (λi=>some (i*sz,sz)) ((Array.range (len*sz)).map (zs.toArray[·%zs.toArray.size]!)) (parts.toList.map λp=>(p.1,e.ev p.2))=some cells.toArray)(t':∀bk,bk∉X.M->K (pute e d (.slice (some ⟨bk,0,none⟩) len len)) h ((bk,.cells cells.toArray E (0,0))::L))(hg:guardB ops e ⟨d,.buildSlice t len parts,ty,pos,af,g⟩=true:=by rfl):Stp P b n ops F ds X ⟨d,.buildSlice t len parts,ty,pos,af,g⟩ e h L K:=
 iB hg λw hw=>by
  obtain⟨z,h1,h2⟩:=uw hz w
  have hp:=pZ hpos
  have hl:=jM hlt
  have hparts:(parts.map λx=>(x.1,e.ev x.2)).toList=parts.toList.map λp=>(p.1,e.ev p.2):=by simp
  refine⟨_,_,h,_,?_,hw.alloc _,t' _ (λhm=>by have:=hXM _ hm;have:=hw.size;omega)⟩
  have hne:¬len*sz=0:=by omega
  have hnl:¬len*sz>2 ^ 24:=by omega
  simp only[execOp,Instr.buildSlice,zL,run_underlying hT,vJ,fL hS,hnl,hne,if_false,h1,h2,WF,hparts]
  rw[hc]
  simp[newRow]
theorem KJ(A Q:LH){t:Nat}{Φ:LH->Prop}(hL:L.Perm (A++Q))(hs:nK P fv vs.toArray h A (λx h' B=>x=.returned (.tuple #[])/\h'=h/\Φ B))(hf:e t=fv)(hvs:ass.toList.map e.ev=vs)(t':∀B,Φ B->K (pute e d (.tuple #[])) h (B++Q))(hg:guardB ops e ⟨d,.call ⟨.value (.tmp t),ass,ats⟩,ty,pos,af,g⟩=true:=by rfl):Stp P b n ops F ds X ⟨d,.call ⟨.value (.tmp t),ass,ats⟩,ty,pos,af,g⟩ e h L K:=by
 unfold Stp
 rw[if_pos hg]
 intro w hw
 have hw':=hw.perm hL
 have harr:ass.map e.ev=vs.toArray:=qS (by simp[←hvs])
 obtain⟨nx,hrun,hcall⟩:=hs w (Pre.left (A:=A) hw'.pre)
 have hr:(execOp e.ev ⟨d,.call ⟨.value (.tmp t),ass,ats⟩,ty,pos,af,g⟩).run P w=.ok nx w:=by
  rw[←hrun]
  simp[execOp,resolve,Xh,harr,hf]
 rw[hr]
 refine mH (oI hcall) (hcall.mono ?_)
 rintro x w' ⟨h',B,hst,rfl,rfl,hB⟩
 exact⟨h',_,WC (A:=A) (F:=Q) hw' hst,t' B hB⟩
theorem GD{o:Oper}(hp:L.Perm L')(t:Stp P b n ops F ds X o e h L' K)(hg:guardB ops e o=true:=by rfl):Stp P b n ops F ds X o e h L K:=by
 unfold Stp at t ⊢
 rw[if_pos hg]at t ⊢
 exact λw hw=>t w (hw.perm hp)
end steps3
section runs3
variable {P:Program} {e:Env} {X:Cx} {h:HF} {L:LH} {d:Option Nat} {ty:TypeId} {pos:String} {af:Array Edge} {g:Option (Nat×Bool)}
theorem Ux{t:TypeId}{hi mx:Operand}{cap:Nat}(hT:P.underlying t=some (.slice E))(hS:tySz P E=some (sz,a))(hx:e.ev x=.slice base n cap)(hhi:e.ev hi=.int .i64 (n:Nat))(hmx:e.ev mx=.int .i64 (n:Nat))(hc:n<=cap):
  ∀w,St X h L w->(execOp e.ev ⟨d,.slice t x none (some hi) (some mx),ty,pos,af,g⟩).run P w=.ok (.value (.slice base n n)) w:=λw hw=>by
 by_cases h0:n=0
 .subst h0
  simp[execOp,Instr.sliceAt,Instr.slice,Instr.sliceBounds,Instr.sliceBound,hx,hhi,hmx,asIntOf,run_underlying hT,fL hS,hc]
 .simp[execOp,Instr.sliceAt,Instr.slice,Instr.sliceBounds,Instr.sliceBound,hx,hhi,hmx,asIntOf,run_underlying hT,fL hS,hc,h0,kP]
end runs3
theorem rM.del{κ α : Type}{enc:κ->Value}{V:HF->Value->α->Prop}{h:HF}[DecidableEq κ]{k:κ}:∀{es:List MapEntry}{m:List (κ×α)}(j:Nat),rM enc V h es m ->
  match findIn k (m.map (·.1)) es j with
  |some (i,_)=>j<=i/\i-j<es.length/\rM enc V h (es.eraseIdx (i-j)) (mdel m k)
  |none=>rM enc V h es (mdel m k)
 |[],[],_,_=>trivial
 |e::es,(k',v)::m,j,⟨a,b,c⟩=>by
  simp only[vH,findIn,mdel]
  by_cases hk:k=k'
  .simp only[hk,if_true]
   refine⟨vE _,by simp,?_⟩
   rw[Nat.sub_self];exact c
  .simp only[hk,if_false]
   have ih:=rM.del (k:=k) (j+1) c
   cases hf:findIn k (m.map (·.1)) es (j+1)with
   |none=>rw[hf]at ih;exact⟨a,b,ih⟩
   |some p=>
    obtain⟨i,u⟩:=p
    rw[hf]at ih
    obtain⟨h1,h2,h3⟩:=ih
    have e1:i-j=(i-(j+1))+1:=by omega
    refine⟨by omega,by simp;omega,?_⟩
    rw[e1,List.eraseIdx_cons_succ];exact⟨a,b,h3⟩
 |[],_::_,_,x=>x.elim
 |_::_,[],_,x=>x.elim
section del
variable {P:Program} {b:Frame} {n:Nat} {ops:Array Oper} {F:List Frame->(Machine->Prop)->Prop} {e:Env} {ds:List Deferred} {X:Cx} {h:HF} {L:LH} {K:Env->HF->LH->Prop}
variable {d:Option Nat} {ty:TypeId} {pos:String} {af:Array Edge} {g:Option (Nat×Bool)} {κ α : Type} {enc:κ->Value} {V:HF->Value->α->Prop} [DecidableEq κ]
end del
theorem Ev{α : Type}[DecidableEq α]:∀{a b:List α},a.Nodup->(∀x∈a,x∈b)->a.length<=b.length
 |[],b,_,_=>xH _
 |x::a,b,hn,hs=>by
  rw[zR]at hn
  have hx:x∈b:=hs x (kB ..)
  have ih:=Ev (b:=b.erase x) hn.2 (λy hy=>by
   have hne:y≠x:=λe=>hn.1 (e▸hy)
   rw[List.mem_erase_of_ne hne];exact hs y (jC _ hy))
  rw[List.length_erase_of_mem hx]at ih
  have:=List.length_pos_of_mem hx
  simp only[zA]
  omega
section frz
variable {P:Program} {b:Frame} {n:Nat} {k:List Item} {F:List Frame->(Machine->Prop)->Prop} {e:Env} {ds:List Deferred} {X:Cx} {h:HF} {L:LH}
theorem Gr{todo:List Item}(A G Q:LH)(hL:L=A++(G++Q))(hM:X.M=[])(t:∀h2,h.le h2->(∀p∈G,h2 p.1=some p.2)->TT P b n todo F e ds X h2 (A++Q)):TT P b n todo F e ds X h L:=by
 subst hL
 intro w hw
 obtain⟨h1,h2,h3⟩:=hw.freezeMid hM
 exact t _ h2 h3 w h1
theorem Ta(sl:ι->List (Nat×Value))(hh:ι->HF)(LL:ι->LH)(I:ι->Prop)(hk:∀i,I i->∀e',TT P b n k F (upds e' (sl i)) ds X (hh i) (LL i))(t':(∀i e',I i->iu e' (sl i)->TT P b n k F e' ds X (hh i) (LL i))->TT P b n (.code c::k) F e ds X h L):TT P b n (.code c::k) F e ds X h L:=
 t' λi e' hI hr=>by have:=hk i hI e';rw[hr.upds]at this;exact this
end frz
end
section
def attR:Except Int Unit->Int
 |.ok _=>0
 |.error e=>e
def idxByte(s:ByteArray)(c:Int):Int:=match(List.range s.size).find? (λi=>s[i]! == UInt8.ofNat c.toNat)with
 |some i=>(i:Nat)
 |none=>-1
def bsI(xs:List Int)(t:Int):Int:=((xs.countP (·<t):Nat):Int)
def slices_BinarySearch_int(x:List Int)(target:Int):Int×Bool:=(bsI x target,x.contains target)
def insI(x:Int):List Int->List Int
 |[]=>[x]
 |y::l=>bif decide (x<=y)then x::y::l else y::insI x l
def sortI:List Int->List Int
 |[]=>[]
 |x::l=>insI x (sortI l)
theorem EG(x:Int):∀l,(insI x l).Perm (x::l)
 |[]=>List.Perm.refl _
 |y::l=>by
  simp only[insI,Bool.cond_eq_ite]
  split
  .exact List.Perm.refl _
  .exact(List.Perm.cons y (EG x l)).trans (List.Perm.swap x y l)
theorem nL:∀xs,(sortI xs).Perm xs
 |[]=>List.Perm.refl _
 |x::l=>(EG x _).trans (List.Perm.cons x (nL l))
theorem iL(xs:List Int):(sortI xs).length=xs.length:=(nL xs).length_eq
theorem Fa(x:Int):∀l:List Int,l.Pairwise (·<=·)->(insI x l).Pairwise (·<=·)
 |[],_=>by simp[insI]
 |y::l,h=>by
  rw[List.pairwise_cons]at h
  simp only[insI,Bool.cond_eq_ite,decide_eq_true_eq]
  split
  .next hxy=>
   rw[List.pairwise_cons]
   refine⟨λz hz=>?_,List.pairwise_cons.2 h⟩
   grind
  .next hxy=>
   rw[List.pairwise_cons]
   refine⟨λz hz=>?_,Fa x l h.2⟩
   grind [EG]
theorem pd:∀xs,(sortI xs).Pairwise (·<=·)
 |[]=>List.Pairwise.nil
 |x::l=>Fa x _ (pd l)
theorem zZ:∀{a b:List Int},a.Pairwise (·<=·)->b.Pairwise (·<=·)->a.Perm b->a=b
 |[],b,_,_,p=>(List.Perm.nil_eq p)
 |x::a,[],_,_,p=>absurd p.length_eq (by simp)
 |x::a,y::b,ha,hb,p=>by
  have hx:x=y:=by
   have h1:x∈y::b:=p.mem_iff.1 (kB ..)
   have h2:y∈x::a:=p.mem_iff.2 (kB ..)
   rw[List.pairwise_cons]at ha hb
   grind
  subst hx
  rw[List.pairwise_cons]at ha hb
  rw[zZ ha.2 hb.2 (List.Perm.cons_inv p)]
theorem Me{xs ys:List Int}(p:xs.Perm ys):sortI xs=sortI ys:=by grind [zZ,pd,nL]
def insS(x:OSeat):List OSeat->List OSeat
 |[]=>[x]
 |y::l=>bif decide (x.bS<=y.bS)then x::y::l else y::insS x l
def seatS:List OSeat->List OSeat
 |[]=>[]
 |x::l=>insS x (seatS l)
theorem EE(x:OSeat):∀l,(insS x l).Perm (x::l)
 |[]=>List.Perm.refl _
 |y::l=>by
  simp only[insS,Bool.cond_eq_ite]
  split
  .exact List.Perm.refl _
  .exact(List.Perm.cons y (EE x l)).trans (List.Perm.swap x y l)
theorem yj:∀xs,(seatS xs).Perm xs
 |[]=>List.Perm.refl _
 |x::l=>(EE x _).trans (List.Perm.cons x (yj l))
theorem E9(x:OSeat):∀l:List OSeat,l.Pairwise (λa b=>a.bS<=b.bS)->(insS x l).Pairwise (λa b=>a.bS<=b.bS)
 |[],_=>by simp[insS]
 |y::l,h=>by
  rw[List.pairwise_cons]at h
  simp only[insS,Bool.cond_eq_ite,decide_eq_true_eq]
  split
  .next hxy=>
   rw[List.pairwise_cons]
   refine⟨λz hz=>?_,List.pairwise_cons.2 h⟩
   grind
  .next hxy=>
   rw[List.pairwise_cons]
   refine⟨λz hz=>?_,E9 x l h.2⟩
   grind [EE]
theorem Dd:∀xs,(seatS xs).Pairwise (λa b=>a.bS<=b.bS)
 |[]=>List.Pairwise.nil
 |x::l=>E9 x _ (Dd l)
theorem Le(xs:List Int):(xs.mergeSort λx y=>decide (x<=y))=sortI xs:=by
 have h:=List.pairwise_mergeSort (le:=λx y:Int=>decide (x<=y)) (λa b c h1 h2=>by simp at *;omega) (λa b=>by simp;omega) xs
 exact zZ (h.imp (λh=>by simpa using h)) (pd _) ((List.mergeSort_perm _ _).trans (nL xs).symm)
theorem As{κ α : Type}[DecidableEq κ]{P:α->Prop}:∀{m:List (κ×α)}(k:κ){v:α},(∀p∈m,P p.2)->P v->∀p∈mput m k v,P p.2
 |[],k,v,_,hv,p,hp=>by simp[mput]at hp;subst hp;exact hv
 |(k',v')::m,k,v,h,hv,p,hp=>by
  simp only[mput]at hp
  split at hp
  .grind
  .rcases zE.1 hp with rfl|hp
   .exact h _ (kB ..)
   .exact As k (λq hq=>h q (jC _ hq)) hv p hp
theorem MS{κ α : Type}[DecidableEq κ]{P:α->Prop}:∀{m:List (κ×α)}(k:κ){v:α},(∀p∈m,P p.2)->mget? m k=some v->P v
 |[],k,v,_,h=>by simp[mget?]at h
 |(k',v')::m,k,v,h,hg=>by
  simp only[mget?]at hg
  split at hg
  .cases hg;exact h (k',v') (kB ..)
  .exact MS k (λq hq=>h q (jC _ hq)) hg
theorem Bo{κ:Type}[DecidableEq κ]{P:α->Prop}{m:List (κ×α)}(k:κ){z:α}(h:∀p∈m,P p.2)(hz:P z):P (mgetD m k z):=by
 unfold mgetD
 cases hg:mget? m k with
 |none=>exact hz
 |some v=>exact MS k h hg
def compStep(out:List Int)(x:Int):List Int:=if out.getLast? = some x then out else out++[x]
def compI(xs:List Int):List Int:=xs.foldl compStep []
def slices_Compact_int(xs:List Int):List Int:=compI xs
def pop64(m:Int):Int:=
 let a0:=vB .u64 (((BitVec.ofInt 64 (m.fdiv (2 ^ 1)) &&& BitVec.ofInt 64 6148914691236517205).toNat:Nat):Int)
 let a1:=vB .u64 (((BitVec.ofInt 64 m &&& BitVec.ofInt 64 6148914691236517205).toNat:Nat):Int)
 let a:=vB .u64 (a0+a1)
 let b0:=vB .u64 (((BitVec.ofInt 64 (a.fdiv (2 ^ 2)) &&& BitVec.ofInt 64 3689348814741910323).toNat:Nat):Int)
 let b1:=vB .u64 (((BitVec.ofInt 64 a &&& BitVec.ofInt 64 3689348814741910323).toNat:Nat):Int)
 let b:=vB .u64 (b0+b1)
 let c:=vB .u64 (((BitVec.ofInt 64 (vB .u64 (b.fdiv (2 ^ 4)+b)) &&& BitVec.ofInt 64 1085102592571150095).toNat:Nat):Int)
 let d:=vB .u64 (c+c.fdiv (2 ^ 8))
 let f:=vB .u64 (d+d.fdiv (2 ^ 16))
 let g:=vB .u64 (f+f.fdiv (2 ^ 32))
 vB .i64 (((BitVec.ofInt 64 (vB .i64 g) &&& BitVec.ofInt 64 127).toNat:Nat):Int)
def bsPos{α : Type}(f:α->Int)(l:List α)(t:Int):Nat:=l.countP λy=>decide (f y<t)
theorem CR{α : Type}(f:α->Int)(t:Int):∀l:List α,l.Pairwise (λa b=>f a<f b)->(∀i y,i<bsPos f l t->l[i]? = some y->f y<t)/\(∀i y,bsPos f l t<=i->l[i]? = some y->¬f y<t)
 |[],_=>⟨λi y h=>absurd h (Nat.not_lt_zero _),λi y _ h=>by simp at h⟩
 |a::l,hp=>by
  have hp2:=List.pairwise_cons.1 hp
  obtain⟨h1,h2⟩:=CR f t l hp2.2
  by_cases ha:f a<t
  .have hc:bsPos f (a::l) t=bsPos f l t+1:=by simp[bsPos,List.countP_cons,ha]
   rw[hc]
   refine⟨λi y hi hy=>?_,λi y hi hy=>?_⟩
   .cases i with
    |zero=>simp at hy;subst hy;exact ha
    |succ i=>exact h1 i y (by omega) (by simpa using hy)
   .cases i with
    |zero=>omega
    |succ i=>exact h2 i y (by omega) (by simpa using hy)
  .have h0:∀y∈l,¬f y<t:=λy hy=>by have:=hp2.1 y hy;omega
   have hc:bsPos f (a::l) t=0:=by
    have:l.countP (λy=>decide (f y<t))=0:=List.countP_eq_zero.2 (λy hy=>by simpa using h0 y hy)
    simp[bsPos,List.countP_cons,ha,this]
   rw[hc]
   refine⟨λi y hi=>absurd hi (Nat.not_lt_zero _),λi y _ hy=>?_⟩
   cases i with
   |zero=>simp at hy;subst hy;exact ha
   |succ i=>exact h0 y (xE (by simpa using hy))
def bitAt(m k:Int):Bool:=(vB .i64 (((BitVec.ofInt 64 (m.fdiv (2 ^ min k.toNat 64)) &&& BitVec.ofInt 64 1).toNat:Nat):Int))==1
def setOf.L(n:Nat)(m:Int):List Int->Nat->List Int->List Int
 |[],_,g=>g
 |y::r,i,g=>setOf.L n m r (i+1) (bif bitAt m ((n:Int)-1-(i:Int))then g++[y]else g)
def setOf(people:List Int)(m:Int):List Int:=setOf.L people.length m people 0 []
def downF(f:Nat->List (List Int)):Nat->List (List Int)
 |0=>[]
 |j+1=>f j++downF f j
def upF(f:Nat->List (List Int)):Nat->Nat->List (List Int)
 |_,0=>[]
 |i,c+1=>f i++upF f (i+1) c
def setsM(people:List Int)(size m:Nat):List (List Int):=bif pop64 (m:Int)==(size:Int)then[setOf people (m:Int)]else[]
def iM(people:List Int):List (List Int):=upF (λsize=>downF (setsM people size) (2 ^ people.length)) 0 (people.length+1)
theorem RW(h:n<=12):2 ^ n<=4096:=qM (Nat.pow_le_pow_right (by decide) h) (by decide)
structure QP where
 closed:Bool
 free:List Int
 needs:List Int
 over:List Int
 decides:List Int->Bool
end
variable {C:α->List Go.Value}{rs:List ResultVar}{sp:List Go.Value}
section
def RdN{α : Type}(l:Nat)(lp:Loop)(I:List α->HF->LH->Prop)(J:Code->HF->LH->Prop)(Pn:List PanicEntry->HF->LH->Prop)(done:List α)(x:α)(r':Ending)(h:HF)(B:LH):Prop:=
 (r'=.returned (.bool true)/\∃L',B=(l,.loop { lp with state:=.ready,pending:=none })::L'/\I (done++[x]) h L') \/
 (r'=.returned (.bool false)/\∃c L',B=(l,.loop { lp with state:=.done,pending:=some c })::L'/\J c h L') \/
 (∃ch,r'=.panicked ch/\∃lp' L',B=(l,.loop lp')::L'/\Pn ch h L')
section
variable {α : Type} {P:Program} {l:Nat} {f:FuncId} {n:Nat} {k:List Item} {e:Env} {X:Cx} {h:HF} {L:LH} {lp lp':Loop} {fn:Func} {I:List α->HF->LH->Prop} {J:Code->HF->LH->Prop} {Pn:List PanicEntry->HF->LH->Prop} {done:List α} {x:α}
theorem Pg(hlp:lp'={ lp with state:=.busy })(hI:I (done++[x]) h L):TT P (roundFrame l f) n [] (mN P X (RdN l lp I J Pn done x)) e [] X h ((l,.loop lp')::L):=
 O8 0 rfl (.inl ⟨rfl,L,by rw[hlp];rfl,hI⟩)
end
theorem P7{l0:Nat}{lp0:Loop}{F:List Frame->(Machine->Prop)->Prop}{h:HF}{L:LH}{val:α->HF->List Value->Prop}(i0:Nat)(hl0:nth L i0=some (l0,.loop lp0))(I:List α->HF->LH->Prop)(hgv:e.ev g=it)(hit:Itr P it val xs h)(hps:ps.all (λp=>zJ p n)=true)(hval:∀x h vs,val x h vs->vs.length=ps.length)(hIm:∀done h1 h2 B,xJ h1 h2->I done h1 B->I done h2 B)(h0:I [] h L)(round:∀l lp done x rest vs h' L' X',xs=done++x::rest->h.le h'->I done h' L'->val x h' vs->lp.state=.ready->X'.h0=h'->(∀b∈X'.M,b<X'.w0.heap.size) ->
   TT P (roundFrame l f) n [.code assign,.beginRound,.code body] (mN P X' (RdN l lp I (λ_ _ _=>False) (λ_ _ _=>False) done x)) (setParams e ps vs) [] X' h' ((l,.loop lp)::L'))(next:∀h' L',h.le h'->I xs h' L'->TT P (roundFrame l0 f) n k F e ds X h' L'):
  TT P (roundFrame l0 f) n (.code (.rangeFunc g ps.toArray assign body)::k) F e ds X h L:=by
 obtain⟨f0,cap,rfl,hc0,hit⟩:=hit
 intro w hw a cs Φ hn he hds hF
 let l:=w.heap.size
 have hb0:w.heap[l0]? = some (.loop lp0):=sY hw hl0
 let lp:Loop:={ state:=.ready,pending:=none,fn:=f,tmps:=a.tmps,params:=ps.toArray,assign,body,defers:=lp0.defers }
 let w2:World:={ w with heap:=w.heap.push (.loop lp) }
 have hw2:St X h ((l,.loop lp)::L) w2:=hw.alloc _
 have henter:(Xk (roundFrame l0 f).fn a.tmps ps.toArray assign body (roundFrame l0 f).roundOf).run P w=.ok (l,[]) w2:=by
  have:=run_enterLoop_inner (P:=P) hb0 f a.tmps ps.toArray assign body
  exact this
 let C:List α->HF->LH->Prop:=λdone h' B=>∃L',B=(l,.loop lp)::L'/\I done h' L'
 let Sp:HF->LH->Prop:=λ_ _=>False
 let Pm:List PanicEntry->HF->LH->Prop:=λ_ _ _=>False
 have hps':∀p∈ps,p<n:=λp hp=>pZ (qQ.1 hps p hp)
 have hy:∀done x rest vs h'' B,xs=done++x::rest->h.le h''->C done h'' B->val x h'' vs->nK P (.func (.yield l) #[] #[]) vs.toArray h'' B (YR C Sp Pm done x):=by
  rintro done x rest vs h'' B hxs db ⟨L',rfl,hI⟩ hv
  refine nK.mono (R:=RdN l lp I (λ_ _ _=>False) (λ_ _ _=>False) done x) (zY (i:=0) (lp:=lp) rfl (by simp[lp];exact hval x h'' vs hv) ?_) ?_
  .intro X' _ hX' hXM'
   have henv:envOf { tmps:=(ps.toArray.zip vs.toArray).foldl (λtmps p=>tmps.setIfInBounds p.1 p.2) a.tmps,defers:=[] }=setParams e ps vs:=by
    have:=ue ps vs a.tmps a.defers hn hps'
    rw[←he]
    rw[←Xo]
    simpa using this
   grind
  .rintro x' h3 B' _ (⟨e1,L2,e2,h2⟩|⟨e1,c,L2,e2,h2⟩|⟨ch,e1,lp',L2,e2,h2⟩)
   .exact .inl ⟨e1,L2,e2,h2⟩
   .exact h2.elim
   .exact h2.elim
 have hs:=hit (.yield l) #[] #[] C Sp Pm h ((l,.loop lp)::L) (kH h) (λ_ _ _ _ hl⟨L',e1,hi⟩=>⟨L',e1,hIm _ _ _ _ hl hi⟩) (λ_ _ _ _ hi=>hi) (λ_ _ _ _ _ hi=>hi) ⟨L,rfl,h0⟩ hy
 obtain⟨nx,hrun,hcall⟩:=hs w2 hw2.pre
 have hev:a.eval g=e.ev g:=by rw[lC,he]
 have hnx:nx=.enter f0 (jQ (.yield l) #[] #[]::cap).toArray:=by
  grind [qH,invoke]
 subst hnx
 have hres:(resolve a.eval (rangeCall g l) 0).run P w2=.ok { target:=.fn (.func f0) cap.toArray,args:=#[.func (.yield l) #[] #[]] } w2:=by
  have hcst:∀v,a.eval (.const v)=v:=λ_=>rfl
  simp[resolve,rangeCall,hev,hgv,hcst,qH]
 have hinv:(invoke (.fn (.func f0) cap.toArray) #[.func (.yield l) #[] #[]]).run P w2=.ok (.enter f0 (jQ (.yield l) #[] #[]::cap).toArray) w2:=by
  simp[invoke,hc0]
 have hback:∀v w3,(∃h' B,St ⟨w2,h,((l,Obj.loop lp)::L).map (·.1)⟩ h' B w3/\ItR C Sp Pm xs (.returned v) h' B) ->
   To P Φ (lone (((roundFrame l0 f).atR { a with defers:=[]++a.defers } (.inRangeFunc l::k)).finish v) cs w3):=by
  rintro v w3 ⟨h',B,hst,hR⟩
  rw[finish_atR_inRangeFunc]
  have hS3:St X h' B w3:=by
   have:=WC (A:=(l,.loop lp)::L) (F:=[]) (by simpa using hw2) hst
   simpa using this
  have db:=hst.le
  rcases hR with⟨_,hCS⟩|⟨ch,hx,_⟩
  .rcases hCS with⟨L',rfl,hI⟩|hF
   .have hb:w3.heap[l]? = some (.loop lp):=hS3.own _ (kB ..)
    have hend:(Wh l).run P w3=.ok none { w3 with heap:=w3.heap.setIfInBounds l (.loop { lp with state:=.exhausted }) }:=by
     simp[Wh,WJ,getObj,setObj,Xv,hb,lp]
    refine .step (stepR_endRangeFunc hend) ?_
    have hS4:=hS3.write (i:=0) rfl (.loop { lp with state:=.exhausted })
    exact next h' L' db hI _ (hS4.sub (zS ..)) a cs Φ hn he hds hF
   .exact hF.elim
  .cases hx
 have hraise:∀ch w3,(∃h' B,St ⟨w2,h,((l,Obj.loop lp)::L).map (·.1)⟩ h' B w3/\ItR C Sp Pm xs (.panicked ch) h' B) ->
   To P Φ (lone (((roundFrame l0 f).atR { a with defers:=[]++a.defers } (.inRangeFunc l::k)).raise ch) cs w3):=by
  rintro ch w3 ⟨h',B,hst,hR⟩
  rcases hR with⟨hx,_⟩|⟨ch',hx,hP⟩
  .cases hx
  .exact hP.elim
 refine .step (stepR_rangeFunc henter hres hinv) ?_
 exact hcall _ cs Φ hback hraise
def HF.lend(h:HF)(L:LH):HF:=λb=>match L.find? (λp=>p.1==b)with|some p=>some p.2|none=>h b
theorem HF.MV{h:HF}:∀{L:LH},(L.map (·.1)).Nodup->∀p∈L,h.lend L p.1=some p.2
 |[],_,p,hp=>(kA hp).elim
 |q::L,hd,p,hp=>by
  rw[vH,zR]at hd
  rcases zE.1 hp with rfl|hp
  .simp[HF.lend]
  .have hne:(q.1==p.1)=false:=by
    grind
   have:=HF.MV (h:=h) hd.2 p hp
   grind [HF.lend]
theorem HF.Tx{h:HF}{L:LH}(hf:∀p∈L,h p.1=none):h.le (h.lend L):=λb o hb=>by
 grind [HF.lend]
section steps
variable {P:Program} {b:Frame} {n:Nat} {ops:Array Oper} {F:List Frame->(Machine->Prop)->Prop} {e:Env} {ds:List Deferred} {X:Cx} {h:HF} {L:LH} {K:Env->HF->LH->Prop}
variable {d:Option Nat} {ty:TypeId} {pos:String} {af:Array Edge} {g:Option (Nat×Bool)}
theorem RK(hc:∀args w,(callFunc f args).run P w=.ok (.enter f args) w)(hs:∀h1,h.le h1->(∀p∈L,h1 p.1=some p.2)->Ret P f vs h1 v)(hvs:ass.toList.map e.ev=vs)(t':K (pute e d v) h L)(hg:guardB ops e ⟨d,.call ⟨.value (.func f),ass,ats⟩,ty,pos,af,g⟩=true:=by rfl):
  Stp P b n ops F ds X ⟨d,.call ⟨.value (.func f),ass,ats⟩,ty,pos,af,g⟩ e h L K:=by
 unfold Stp
 rw[if_pos hg]
 intro w hw
 have harr:ass.map e.ev=vs.toArray:=qS (by simp[←hvs])
 have hr:(execOp e.ev ⟨d,.call ⟨.value (.func f),ass,ats⟩,ty,pos,af,g⟩).run P w=.ok (.enter f vs.toArray) w:=by
  simp[execOp,resolve,Xh,qH,invoke,harr,hc]
 rw[hr]
 have hp1:Pre (h.lend L) [] w:=⟨λk o hk=>by
  unfold HF.lend at hk
  cases hq:L.find? (λp=>p.1==k)with
  |none=>rw[hq]at hk;exact hw.imm k o hk
  |some p=>
   rw[hq]at hk
   have h2:p.1=k:=by simpa using List.find?_some hq
   have h3:p.2=o:=by simpa using hk
   rw[←h2,←h3];exact hw.own p (List.mem_of_find?_eq_some hq),λ_ hp=>(kA hp).elim,V6,λ_ hp=>(kA hp).elim⟩
 refine mH (by simp) (lk (tw.mono (hs _ (HF.Tx hw.free) (HF.MV hw.dis) w hp1) ?_))
 rintro x w' ⟨h',B,hst,rfl,rfl,rfl⟩
 refine⟨h,L,⟨hst.os.trans hw.os,hst.tape.trans hw.tape,hst.output.trans hw.output,qM hw.size hst.size,λb' hb' hM=>?_,hw.le,hw.old,λb' o hb'=>?_,λp hp=>?_,hw.dis,hw.free,hw.new⟩,t'⟩
 .rw[hst.keep b' (WV hb' hw.size) (by simp)];exact hw.keep b' hb' hM
 .rw[hst.keep b' (ij (hw.imm b' o hb')) (by simp)];exact hw.imm b' o hb'
 .rw[hst.keep p.1 (ij (hw.own p hp)) (by simp)];exact hw.own p hp
end steps
section
variable {P:Program} {b:Frame} {n:Nat} {k:List Item} {F:List Frame->(Machine->Prop)->Prop} {e:Env} {ds:List Deferred} {X:Cx} {h:HF} {L:LH} {ops:Array Oper} {l:List Oper} {ty:TypeId} {pos:String} {af:Array Edge} {g:Option (Nat×Bool)}
theorem JD(hro:b.roundOf=none)(hvs:as.toList.map e.ev=vs)(t':TO P b n ops l k F e ({ target:=.fn (.func f) #[],args:=vs.toArray }::ds) X h L)(hg:guardB ops e ⟨none,.defer ⟨.value (.func f),as,ats⟩,ty,pos,af,g⟩=true:=by rfl):TO P b n ops (⟨none,.defer ⟨.value (.func f),as,ats⟩,ty,pos,af,g⟩::l) k F e ds X h L:=by
 intro w hw is hi a cs Φ hn he hds hF
 obtain⟨i,js,rfl,ho,hj⟩:=rk hi
 have hwt:=(gh (ops:=ops) he).trans hg
 have hst:=stepGR_op (P:=P) (b:=b) (k:=k) (cs:=cs) (w:=w) (rest:=js) ho hwt
 have harr:as.map e.ev=vs.toArray:=qS (by simp[←hvs])
 have hr:(execOp a.eval ⟨none,.defer ⟨.value (.func f),as,ats⟩,ty,pos,af,g⟩).run P w=.ok (.defer { target:=.fn (.func f) #[],args:=vs.toArray }) w:=by
  rw[lC,he]
  simp[execOp,resolve,Xh,qH,harr]
 have hs:Oper.semAt b.roundOf a.eval ⟨none,.defer ⟨.value (.func f),as,ats⟩,ty,pos,af,g⟩=execOp a.eval ⟨none,.defer ⟨.value (.func f),as,ats⟩,ty,pos,af,g⟩:=by rw[hro];rfl
 refine .step (m₁:=lone (b.atR { a with defers:={ target:=.fn (.func f) #[],args:=vs.toArray }::a.defers } (.inRegion ops js::k)) cs w) ?_ (t' w hw js hj { a with defers:={ target:=.fn (.func f) #[],args:=vs.toArray }::a.defers } cs Φ hn he (by rw[hds]) hF)
 refine step_lone_go ?_
 have hfin:=iy (b:=b) { a with defers:={ target:=.fn (.func f) #[],args:=vs.toArray }::a.defers } js k ho undef
 rw[hst,hs]
 simp only[stepG.apply,Sem.runT_eq,hr,GStep.bare_after]
 exact congrArg (λfr=>GStep.go { frame:=fr,callers:=cs,status:=.running,dying:=none } w) hfin
end
theorem LZ{g:FuncId}{h:HF}{L:LH}{R:Ending->HF->LH->Prop}{R':HF->LH->Prop}(hf:P.funcs[f]? = some fn)(hg:P.funcs[g]? = some gn)(hb:gn.body=some c)(hm:gn.ntmps=m)(db:Xc cap.length m=true)(hc:∀args w,(callFunc g args).run P w=.ok (.enter g args) w)(t:∀X':Cx,X'.h0=h->TT P (deferFrame g) m [.code c] (IM P X' .returning R') (envArgs cap) [] X' h A)(hL:L=A++Fr)(fin:∀h' B,h.le h'->R' h' B->∀a:Act,envOf a=e->∀w,St X h' (B++Fr) w->∃v h2 B2,(results fn a.tmps).run P w=.ok v w/\St X h2 B2 w/\R (.returned v) h2 B2):
  TT P (bodyFrame f) n (.code .ret::k) (mN P X R) e [{ target:=.fn (.func g) #[],args:=cap.toArray }] X h L:=by
 intro w hw a cs Φ hn he hds hF
 obtain⟨cc,cs',rfl,h1,_⟩:=hF
 subst hL
 refine .step (stepR_ret rfl) ?_
 have hinv:(invoke (.fn (.func g) #[]) cap.toArray).run P w=.ok (.enter g cap.toArray) w:=by simp[invoke,hc]
 refine .step (step_defer (fr:={ (bodyFrame f).atR a (.code .ret::k)with mode:=.returning }) (by simp) hds rfl hinv) ?_
 have hle':=jM db
 have henter:vR P g cap.toArray .deferred=(deferFrame g).atR { tmps:=cap.toArray++Wa (m-cap.length) undef,defers:=[] } [.code c]:=by
  grind [vR,Wu,deferFrame]
 rw[henter]
 refine t ⟨w,h,A.map (·.1)⟩ rfl w (Ww hw.pre.left) _ _ Φ (by simp;omega) (pX _ _) rfl ⟨_,cc::cs',rfl,rfl,?_⟩
 rintro w' ⟨h',B,hst,hR'⟩
 obtain⟨v,h2,B2,hv,hs2,hR⟩:=fin h' B hst.le hR' a he w' (hw.after hst)
 refine .step (i9 (fn:=fn) (v:=v) rfl rfl rfl hf hv) ?_
 exact h1 v w' ⟨h2,B2,hs2,hR⟩
theorem C4{g:FuncId}{h:HF}{L:LH}{R:Ending->HF->LH->Prop}{R':HF->LH->Prop}(hf:P.funcs[f]? = some fn)(hg:P.funcs[g]? = some gn)(hb:gn.body=some c)(hm:gn.ntmps=m)(db:Xc cap.length m=true)(hc:∀args w,(callFunc g args).run P w=.ok (.enter g args) w)(t:∀X':Cx,X'.h0=h->TT P (deferFrame g) m [.code c] (λcs Φ=>∃c rest,cs=c::rest/\c.mode=.panicking [{ v:=pv,recovered:=false }]/\IM P X' (.panicking [{ v:=pv,recovered:=true }]) R' ({ c with mode:=.panicking [{ v:=pv,recovered:=true }] }::rest) Φ) (envArgs cap) [] X' h A)(hL:L=A++Fr)(fin:∀h' B,h.le h'->R' h' B->∀a:Act,envOf a=e->∀w,St X h' (B++Fr) w->∃v h2 B2,(results fn a.tmps).run P w=.ok v w/\St X h2 B2 w/\R (.returned v) h2 B2):
  TP P (bodyFrame f) n [{ v:=pv,recovered:=false }] (mN P X R) e [{ target:=.fn (.func g) #[],args:=cap.toArray }] X h L:=by
 intro w hw a cs Φ todo hn he hds hF
 obtain⟨cc,cs',rfl,h1,_⟩:=hF
 subst hL
 have hinv:(invoke (.fn (.func g) #[]) cap.toArray).run P w=.ok (.enter g cap.toArray) w:=by simp[invoke,hc]
 refine .step (step_defer (fr:={ (bodyFrame f).atR a todo with mode:=.panicking [{ v:=pv,recovered:=false }] }) (by simp) hds rfl hinv) ?_
 have hle':=jM db
 have henter:vR P g cap.toArray .deferred=(deferFrame g).atR { tmps:=cap.toArray++Wa (m-cap.length) undef,defers:=[] } [.code c]:=by
  grind [vR,Wu,deferFrame]
 rw[henter]
 refine t ⟨w,h,A.map (·.1)⟩ rfl w (Ww hw.pre.left) _ _ Φ (by simp;omega) (pX _ _) rfl ⟨_,cc::cs',rfl,rfl,_,cc::cs',rfl,rfl,?_⟩
 rintro w' ⟨h',B,hst,hR'⟩
 obtain⟨v,h2,B2,hv,hs2,hR⟩:=fin h' B hst.le hR' a he w' (hw.after hst)
 refine .step (i9 (fn:=fn) (v:=v) rfl rfl rfl hf hv) ?_
 exact h1 v w' ⟨h2,B2,hs2,hR⟩
section
variable {P:Program} {b:Frame} {n:Nat} {k:List Item} {F:List Frame->(Machine->Prop)->Prop} {e:Env} {ds:List Deferred} {X:Cx} {h:HF} {L:LH}
theorem Gq(t:TT P b n (.code c::.inLoop c::k) F e ds X h L):TT P b n (.code (.loop c)::k) F e ds X h L:=
 λw hw a cs Φ h1 h2 h3 h4=>.step stepR_loop (t w hw a cs Φ h1 h2 h3 h4)
theorem C3(t:TT P b n (.code c::.inLoop c::k) F e ds X h L):TT P b n (.inLoop c::k) F e ds X h L:=
 λw hw a cs Φ h1 h2 h3 h4=>.step stepR_inLoop (t w hw a cs Φ h1 h2 h3 h4)
end
def XRH{ρ : Type}(pe:Int->Value)(x:Except Int ρ)(φ : ρ->Value->HF->Prop)(r:Ending)(h':HF)(B:LH):Prop:=
 B=[]/\match x with
  |.ok u=>∃v,r=.returned v/\φ u v h'
  |.error p=>r=.panicked [{ v:=pe p,recovered:=false }]
abbrev Ku{ρ : Type}(P:Program)(f:FuncId)(args:List Value)(h:HF)(pe:Int->Value)(x:Except Int ρ)(φ : ρ->Value->HF->Prop):Prop:=pC P f args.toArray h [] (XRH pe x φ)
def exD{ρ : Type}[Inhabited ρ]:Except Int ρ->ρ
 |.ok r=>r
 |.error _=>default
def exOk{ρ : Type}:Except Int ρ->Prop
 |.ok _=>True
 |.error _=>False
theorem TU[Inhabited ρ]{x:Except Int ρ}(h:exOk x):x=.ok (exD x):=by cases x with
 |ok r=>rfl
 |error p=>exact h.elim
section
variable {P:Program} {f:FuncId} {n:Nat} {k:List Item} {e:Env} {X:Cx} {h:HF} {L:LH} {fn:Func} {ρ : Type} {pe:Int->Value} {x:Except Int ρ} {φ : ρ->Value->HF->Prop}
theorem LY(ms:List Nat){u:ρ}(vs:List Value)(hf:P.funcs[f]? = some fn)(hr:fn.results=rs.toArray)(hv:tr P e L rs vs)(hx:x=.ok u)(hφ : φ u (retVal vs) h):
  TT P (bodyFrame f) n (.code .ret::k) (mN P X (XRH pe x φ)) e (marks ms) X h (L++markB ms):=
 yd ms (v:=retVal vs) hf (λa he w hw=>oD hr hv a he w hw) (λ_ hw=>hw.sub (List.nil_sublist _)) (by subst hx;exact⟨rfl,_,rfl,hφ⟩)
theorem L7(ms:List Nat){p:Int}(hf:P.funcs[f]? = some fn)(hx:x=.error p):
  TP P (bodyFrame f) n [{ v:=pe p,recovered:=false }] (mN P X (XRH pe x φ)) e (marks ms) X h (L++markB ms):=
 Kz ms hf (λ_ hw=>hw.sub (List.nil_sublist _)) (by subst hx;exact⟨rfl,rfl⟩)
end
section
variable {P:Program} {b:Frame} {n:Nat} {ops:Array Oper} {F:List Frame->(Machine->Prop)->Prop} {e:Env} {ds:List Deferred} {X:Cx} {h:HF} {L:LH} {K:Env->HF->LH->Prop}
variable {d:Option Nat} {ty:TypeId} {pos:String} {af:Array Edge} {g:Option (Nat×Bool)} {ρ : Type} {pe:Int->Value} {x:Except Int ρ} {φ : ρ->Value->HF->Prop}
theorem Mq(hc:∀args w,(callFunc f args).run P w=.ok (.enter f args) w)(hs:Ku P f vs h pe x φ)(hvs:as.toList.map e.ev=vs)(t':∀u v h',x=.ok u->h.le h'->φ u v h'->K (pute e d v) h' L)(tp:∀p h',x=.error p->h.le h'->∀e',AgE ops ⟨d,.call ⟨.value (.func f),as,ats⟩,ty,pos,af,g⟩ e e'->TP P b n [{ v:=pe p,recovered:=false }] F e' ds X h' L)(hg:guardB ops e ⟨d,.call ⟨.value (.func f),as,ats⟩,ty,pos,af,g⟩=true:=by rfl):
  Stp P b n ops F ds X ⟨d,.call ⟨.value (.func f),as,ats⟩,ty,pos,af,g⟩ e h L K:=
 GG (A:=[]) (Fr:=L) hc hvs hs rfl (λv' h' B db hR=>by
   obtain⟨rfl,hv⟩:=hR
   cases x with
   |ok u=>obtain⟨v,hv,hφ⟩:=hv;cases hv;exact t' _ _ _ rfl db hφ
   |error p=>cases hv)
  (λch h' B db hR=>by
   obtain⟨rfl,hv⟩:=hR
   cases x with
   |ok u=>obtain⟨v,hv,_⟩:=hv;cases hv
   |error p=>cases hv;exact tp _ _ rfl db) hg
theorem Qg[Inhabited ρ](hc:∀args w,(callFunc f args).run P w=.ok (.enter f args) w)(hs:Ku P f vs h pe x φ)(hok:exOk x)(hvs:as.toList.map e.ev=vs)(t':∀v h',h.le h'->φ (exD x) v h'->K (pute e d v) h' L)(hg:guardB ops e ⟨d,.call ⟨.value (.func f),as,ats⟩,ty,pos,af,g⟩=true:=by rfl):
  Stp P b n ops F ds X ⟨d,.call ⟨.value (.func f),as,ats⟩,ty,pos,af,g⟩ e h L K:=
 Mq hc hs hvs (λu v h' hx hl hφ=>by subst hx;exact t' v h' hl hφ) (λp h' hx=>by subst hx;exact hok.elim) hg
theorem pG[Inhabited ρ]{enc:ρ->Value}(hc:∀args w,(callFunc f args).run P w=.ok (.enter f args) w)(hs:II P f vs h (exW pe enc x))(hok:exOk x)(hvs:as.toList.map e.ev=vs)(t':K (pute e d (enc (exD x))) h L)(hg:guardB ops e ⟨d,.call ⟨.value (.func f),as,ats⟩,ty,pos,af,g⟩=true:=by rfl):
  Stp P b n ops F ds X ⟨d,.call ⟨.value (.func f),as,ats⟩,ty,pos,af,g⟩ e h L K:=
 pi hc hs hvs (λu hu=>by
  obtain⟨r,hr,rfl⟩:=sk hu
  subst hr;exact t') (λp hp=>by
  obtain⟨q,hq,_⟩:=po hp
  subst hq;exact hok.elim) hg
end
abbrev Vl{α : Type}(P:Program)(f:FuncId)(args:List Value)(h:HF)(R:Rp α)(E:TypeId)(xs:List α):Prop:=
 pC P f args.toArray h [] (λr h' G=>h'=h/\∃b c,r=.returned (.slice b xs.length c)/\cN R E h xs b c G)
section
variable {P:Program} {f:FuncId} {n:Nat} {k:List Item} {e:Env} {X:Cx} {h hh:HF} {L A G Q:LH} {fn:Func} {α : Type} {R:Rp α} {E:TypeId} {xs ys:List α} {base:Option Addr} {cap:Nat}
theorem St.forgetG(s:St X h (A++(G++Q)) w):St X X.h0 G w:=
 (s.sub (L':=G) ((List.sublist_append_left G Q).trans (List.sublist_append_right A _))).lower
theorem S6(ms:List Nat)(hf:P.funcs[f]? = some fn)(hr:fn.results=rs.toArray)(hX:X.h0=hh)(hL:L=A++(G++Q))(hG:∀h1,cN R E h1 xs base cap G)(hv:tr P e L rs [.slice base xs.length cap])(hs:ys=xs):
  TT P (bodyFrame f) n (.code .ret::k) (mN P X (λr h' G=>h'=hh/\∃b c,r=.returned (.slice b ys.length c)/\cN R E hh ys b c G)) e (marks ms) X h (L++markB ms):=by
 subst hs hL
 exact yd ms (v:=.slice base ys.length cap) hf (λa he w hw=>oD hr hv a he w hw) (λw hw=>hw.forgetG) ⟨hX,_,_,rfl,hG _⟩
end
theorem cN.flat{R:Rp α}{h h1:HF}{cap:Nat}(hR:∀h h' cs x,R.rep h cs x->R.rep h' cs x)(g:cN R E h xs base cap G):cN R E h1 xs base cap G:=by
 have hc:∀{xs:List α}{cl:List Value},cY R h cl xs->cY R h1 cl xs:=by
  intro xs
  induction xs with
  |nil=>intro cl e;exact e
  |cons x xs ih=>rintro cl ⟨cs,rest,e,hl,hr,ht⟩;exact⟨cs,rest,e,hl,hR _ _ _ _ hr,ih ht⟩
 rcases g with g|⟨bk,cl,sp,e1,e2,e3⟩
 .exact .inl g
 .exact .inr ⟨bk,cl,sp,e1,hc e2,e3⟩
theorem Mz{fl args:List Value}{h:HF}(hc:∀args w,(callFunc f args).run P w=.ok (.enter f args) w)(hr:Vm P f (fl++args++cap) h A v):
  qw P (.func (.func f) fl.toArray cap.toArray) args h A v:=by
 intro w hp
 refine⟨.enter f (fl++args++cap).toArray,?_,lk (hr w hp)⟩
 simp[qH,invoke,hc]
section
variable {P:Program} {e:Env} {X:Cx} {h:HF} {L:LH} {d:Option Nat} {ty:TypeId} {pos:String} {af:Array Edge} {g:Option (Nat×Bool)}
theorem E1{t:TypeId}{a c:Int}(hx:e.ev x=.int .i64 a)(hy:e.ev y=.int .i64 c)(hc:c≠0):
  ∀w,St X h L w->(execOp e.ev ⟨d,.binOp .quo t x y u,ty,pos,af,g⟩).run P w=.ok (.value (.int .i64 (vB .i64 (a.tdiv c)))) w:=λw _=>by
 simp[execOp,hx,hy,eqGuard,binOp,Op.intDiv,hc]
end
theorem Lv{N:Nat}(h:i<N)(hb:N<=9223372036854775807):qC .i64 (IntKind.i64.wrap (((N-i:Nat):Int)-1))=.int .i64 (((N-(i+1):Nat)):Int):=by grind [lI]
section
variable {P:Program} {e:Env} {X:Cx} {h:HF} {L:LH} {d:Option Nat} {ty:TypeId} {pos:String} {af:Array Edge} {g:Option (Nat×Bool)}
theorem gf(hx:e.ev x=.pointer (some q)):
  ∀w,St X h L w->(execOp e.ev ⟨d,.nilCheck x,ty,pos,af,g⟩).run P w=.ok (.value (.pointer (some q))) w:=λw _=>by
 simp[execOp,hx]
end
theorem PX:∀(c A R:List Value),cut (A++(c++R)) A.length c.length=some c
 |[],A,R=>rfl
 |v::c,A,R=>by
  have h1:nth (A++(v::c++R)) A.length=some v:=by rw[iT];simp
  have h2:=PX c (A++[v]) R
  grind [vA,zA,List.length_nil,vD,cut]
theorem CJ{α : Type}{C:α->List Value}{sz:Nat}(hC:∀x,(C x).length=sz):∀{xs:List α}{i:Nat}{y:α},xs[i]? = some y->∃a b,xs=a++y::b/\a.length=i/\(a.flatMap C).length=i*sz
 |[],i,y,h=>by simp at h
 |x::xs,0,y,h=>by simp at h;subst h;exact⟨[],xs,rfl,rfl,by simp⟩
 |x::xs,i+1,y,h=>by
  obtain⟨a,b,e,h1,h2⟩:=CJ hC (xs:=xs) (i:=i) (y:=y) (by simpa using h)
  grind
theorem SP(hC:∀x,(C x).length=sz){y:α}(h:xs[i]? = some y):cut (xs.flatMap C++sp) (i*sz) sz=some (C y):=by
 obtain⟨a,b,rfl,_,h2⟩:=CJ hC h
 grind [PX]
theorem Md(hC:∀x,(C x).length=sz){u y:α}(h:xs[i]? = some u):splice (xs.flatMap C++sp) (i*sz) (C y)=(xs.set i y).flatMap C++sp:=by
 obtain⟨a,b,rfl,h1,h2⟩:=CJ hC h
 grind [uu]
theorem CQ{α : Type}{R:Rp α}{C:α->List Value}(hR:∀h cs x,R.rep h cs x->cs=C x){h:HF}:∀{xs:List α}{cl:List Value},cY R h cl xs->cl=xs.flatMap C
 |[],cl,e=>e
 |x::xs,cl,⟨cs,rest,e,_,hr,ht⟩=>by rw[e,hR _ _ _ hr,CQ hR ht];rfl
theorem Iq{α : Type}{R:Rp α}{C:α->List Value}(hR:∀h x,R.rep h (C x) x)(hC:∀x,(C x).length=R.sz)(h:HF):∀(xs:List α),cY R h (xs.flatMap C) xs
 |[]=>rfl
 |x::xs=>⟨C x,xs.flatMap C,rfl,hC x,hR h x,Iq hR hC h xs⟩
theorem vk{α : Type}{C:α->List Value}{sz:Nat}(hC:∀x,(C x).length=sz):∀(xs:List α),(xs.flatMap C).length=xs.length*sz
 |[]=>by simp
 |x::xs=>by rw[List.flatMap_cons,vA,hC,vk hC xs,zA,Nat.add_mul];omega
theorem N0{t:TypeId}(hT:P.underlying t=some (.slice E))(hz:∀w,(zeroValue E).run P w=.ok z w)(hzc:z.cells=zs.toArray)(hzl:zs.length=sz)(h1:∀v∈zs,one v=true)(hs0:0<sz){cc:Nat}(hb:w.heap[bk]? = some (.cells cl.toArray E (0,0)))(db:off+(n+1)*sz<=cl.length)(ty:TypeId):
  ∃vs,vs.length=(n+1)*sz/\(Builtin.clear_ #[t] ty #[.slice (some ⟨bk,off,none⟩) (n+1) cc]).run P w=.ok (.tuple #[]) { w with heap:=w.heap.setIfInBounds bk (.cells (splice cl off vs).toArray E (0,0)) }:=by
 refine⟨(Builtin.zeroCells z.cells (n+1)).toList,?_,?_⟩
 .simp[Builtin.zeroCells,hzc,hzl]
 .have hlen:(Builtin.zeroCells z.cells (n+1)).toList.length=(n+1)*sz:=by simp[Builtin.zeroCells,hzc,hzl]
  have h9:=lP (P:=P) off (Builtin.zeroCells z.cells (n+1)).toList 0 cl w hb (by rw[hlen];simpa using db) (λv hv=>by
   simp only[Builtin.zeroCells,Array.toList_map,zM]at hv
   obtain⟨j,_,rfl⟩:=hv
   rw[hzc]
   have hj:j%zs.length<zs.length:=Nat.mod_lt _ (by omega)
   simp only[List.size_toArray]
   rw[getElem!_pos zs.toArray (j%zs.length) (by simpa using hj)]
   exact h1 _ (by simp))
  rw[Nat.add_zero]at h9
  simp only[Builtin.clear_,zL]
  simp[run_underlying hT,hz,h9]
section
variable {P:Program} {b:Frame} {n:Nat} {ops:Array Oper} {F:List Frame->(Machine->Prop)->Prop} {e:Env} {ds:List Deferred} {X:Cx} {h:HF} {L:LH} {K:Env->HF->LH->Prop}
variable {d:Option Nat} {ty:TypeId} {pos:String} {af:Array Edge} {g:Option (Nat×Bool)}
theorem N5{t:TypeId}{lo:Operand}{n cap:Nat}(hT:P.underlying t=some (.slice E))(hS:tySz P E=some (sz,a))(hx:e.ev x=.slice (some ⟨bk,0,none⟩) n cap)(hlo:e.ev lo=.int .i64 (i:Nat))(hi:i<n)(hc:n<=cap)(hm:n-i=m):
  ∀w,St X h L w->(execOp e.ev ⟨d,.slice t x (some lo) none none,ty,pos,af,g⟩).run P w=.ok (.value (.slice (some ⟨bk,i*sz,none⟩) m (cap-i))) w:=λw hw=>by
 subst hm
 have h2:¬(cap=i):=by omega
 have h3:(⟨bk,0,none⟩:Addr).add (i*sz)=⟨bk,i*sz,none⟩:=oo bk (i*sz)
 simp[execOp,Instr.sliceAt,Instr.slice,Instr.sliceBounds,Instr.sliceBound,hx,hlo,asIntOf,run_underlying hT,fL hS,h2,h3,Nat.le_of_lt hi]
theorem Qa(i:Nat){t:TypeId}{cc:Nat}(hT:P.underlying t=some (.slice E))(hz:∀w,(zeroValue E).run P w=.ok z w)(hzc:z.cells=zs.toArray)(hzl:zs.length=sz)(h1:∀v∈zs,one v=true)(hs0:0<sz)(hL:nth L i=some (bk,.cells cl.toArray E (0,0)))(hx:e.ev x=.slice (some ⟨bk,off,none⟩) (m+1) cc)(db:off+(m+1)*sz<=cl.length)(t':∀vs,vs.length=(m+1)*sz->K (pute e d (.tuple #[])) h (setNth L i (bk,.cells (splice cl off vs).toArray E (0,0))))(hg:guardB ops e ⟨d,.call ⟨.builtin .clear,#[x],#[t]⟩,ty,pos,af,g⟩=true:=by rfl):Stp P b n ops F ds X ⟨d,.call ⟨.builtin .clear,#[x],#[t]⟩,ty,pos,af,g⟩ e h L K:=
 iB hg λw hw=>by
  have hb:w.heap[bk]? = some (.cells cl.toArray E (0,0)):=by
   have h2:=hL
   rw[iT]at h2
   exact hw.own _ (xE h2)
  obtain⟨vs,hvl,hr⟩:=N0 (P:=P) (cc:=cc) hT hz hzc hzl h1 hs0 hb db ty
  refine⟨.tuple #[],_,h,_,?_,hw.write hL _,t' vs hvl⟩
  simp only[execOp,resolve,invoke,builtin]
  simp[hx,hr]
end
section
variable {P:Program} {b:Frame} {n:Nat} {ops:Array Oper} {F:List Frame->(Machine->Prop)->Prop} {e:Env} {ds:List Deferred} {X:Cx} {h:HF} {L:LH} {K:Env->HF->LH->Prop}
variable {d:Option Nat} {ty:TypeId} {pos:String} {af:Array Edge} {g:Option (Nat×Bool)}
theorem Ti{R:Rp α}(hc:∀args w,(callFunc f args).run P w=.ok (.enter f args) w)(hs:Vl P f vs h R E xs)(hvs:ass.toList.map e.ev=vs)(t':∀bb c G,cN R E h xs bb c G->K (pute e d (.slice bb xs.length c)) h (L++G))(hg:guardB ops e ⟨d,.call ⟨.value (.func f),ass,ats⟩,ty,pos,af,g⟩=true:=by rfl):
  Stp P b n ops F ds X ⟨d,.call ⟨.value (.func f),ass,ats⟩,ty,pos,af,g⟩ e h L K:=by
 unfold Stp
 rw[if_pos hg]
 intro w hw
 have harr:ass.map e.ev=vs.toArray:=qS (by simp[←hvs])
 have hr:(execOp e.ev ⟨d,.call ⟨.value (.func f),ass,ats⟩,ty,pos,af,g⟩).run P w=.ok (.enter f vs.toArray) w:=by
  simp[execOp,resolve,Xh,qH,invoke,harr,hc]
 rw[hr]
 refine mH (by simp) (lk (tw.mono (hs w (hw.sub (List.nil_sublist _)).pre) ?_))
 rintro x w' ⟨h',B,hst,rfl,bb,c,rfl,hG⟩
 exact⟨h',_,(WC (A:=[]) (F:=L) hw hst).perm xG,t' bb c B hG⟩
end
section
variable {P:Program} {b:Frame} {n:Nat} {k:List Item} {F:List Frame->(Machine->Prop)->Prop} {ds:List Deferred} {X:Cx}
theorem Un{J:HF->LH->Prop}(m0:Nat)(Inv:σ->Env->HF->LH->Prop)(μ : σ->Nat)(dn:σ->List Nat)(fin:∀s e h L,Inv s e h L->μ s=0->TA P b n l.toArray k F ds X J m0 (dn s) e h L)(step:∀s e h L,Inv s e h L->μ s≠0->nexts l.toArray (dn s)≠[]/\∀i∈nexts l.toArray (dn s),∀o,nth l i=some o->Stp P b n l.toArray F ds X o e h L (λe' h' L'=>J h' L'/\∃s',μ s=μ s'+1/\(i::dn s).Perm (dn s')/\Inv s' e' h' L')):
  ∀(m:Nat)(s:σ)(e:Env)(h:HF)(L:LH),μ s=m->Inv s e h L->TA P b n l.toArray k F ds X J (m+m0) (dn s) e h L:=by
 intro m
 induction m with
 |zero=>intro s e h L hm hI;rw[Nat.zero_add];exact fin s e h L hI hm
 |succ m ih=>
  intro s e h L hm hI
  obtain⟨h0,h1⟩:=step s e h L hI (by omega)
  rw[show m+1+m0=(m+m0)+1 from by omega]
  refine⟨λhn=>absurd hn h0,λi hi o ho=>Stp.mono ?_ (h1 i hi o (by rw[iT];simpa using ho))⟩
  rintro e' h' L' ⟨hj,s',hs,hp,hI'⟩
  exact⟨hj,TA.perm (λx=>hp.mem_iff.symm) (ih s' e' h' L' (by omega) hI')⟩
theorem Tg{dn:List Nat}{h:HF}{L:LH}{Q:Nat->Env->HF->LH->Prop}(is:List Nat)(hn:nexts l.toArray dn=is)(h0:is≠[])(t:∀i∈is,∀o,nth l i=some o->Stp P b n l.toArray F ds X o e h L (Q i)):nexts l.toArray dn≠[]/\∀i∈nexts l.toArray dn,∀o,nth l i=some o->Stp P b n l.toArray F ds X o e h L (Q i):=by grind
end
theorem pmid{T X X':List α}{i:α}(h:(i::X).Perm X'):(i::(T++X)).Perm (T++X'):=List.perm_middle.symm.trans (List.Perm.append_left T h)
section
variable {P:Program} {b:Frame} {n:Nat} {ops:Array Oper} {F:List Frame->(Machine->Prop)->Prop} {e:Env} {ds:List Deferred} {X:Cx} {h:HF} {L:LH} {K:Env->HF->LH->Prop}
variable {d:Option Nat} {ty:TypeId} {pos:String} {af:Array Edge} {g:Option (Nat×Bool)}
theorem JL{t:TypeId}{ln cp:Operand}(hT:P.underlying t=some (.slice E))(hz:zeroC P E=some [z])(hS:tySz P E=some (1,a))(hby:bytesOf P E=some vo)(hl:e.ev ln=.int .i64 (m:Nat))(hc:e.ev cp=.int .i64 (m:Nat))(hb:vo*m<=281474976710656)(h63:m<=9223372036854775807)(t':∀bk,K (pute e d (.slice (some ⟨bk,0,none⟩) m m)) h ((bk,.cells (List.replicate m z).toArray E (0,0))::L))(hg:guardB ops e ⟨d,.makeSlice t ln cp,ty,pos,af,g⟩=true:=by rfl):Stp P b n ops F ds X ⟨d,.makeSlice t ln cp,ty,pos,af,g⟩ e h L K:=
 iB hg λw hw=>by
  obtain⟨i,hi,hby'⟩:∃i,P.info? E=some i/\i.bytes=vo:=by
   unfold bytesOf at hby
   cases hi:P.info? E with
   |none=>simp[hi]at hby
   |some i=>exact⟨i,rfl,by simpa[hi]using hby⟩
  have hsz:i.size=1:=by
   have:=fL hS w
   simpa[sizeOf,typeInfo,hi]using this
  obtain⟨zv,hzz,hzc⟩:∃zv,i.zero=some zv/\zv.cells=#[z]:=by
   unfold zeroC at hz
   cases hzz:i.zero with
   |none=>simp[hi,hzz]at hz
   |some zv=>exact⟨zv,rfl,by simp[hi,hzz]at hz;rw[mB,hz]⟩
  have hr:=run_make (P:=P) w t E i zv hT hi hzz .i64 .i64 (m:Int) (m:Int) (by omega) (Int.le_refl _) (by rw[hby'];omega) (by omega)
  have hcells:madeCells zv.cells ((m:Int).toNat*i.size)=(List.replicate m z).toArray:=by
   rw[hzc,hsz]
   apply Array.ext
   .simp[madeCells]
   .intro j h1 h2;simp[madeCells,Nat.mod_one]
  rw[hcells]at hr
  simp only[Int.toNat_natCast]at hr
  refine⟨_,_,h,_,?_,hw.alloc _,t' _⟩
  have e1:w.alloc (.cells (List.replicate m z).toArray E)={ w with heap:=w.heap.push (.cells (List.replicate m z).toArray E (0,0)) }:=rfl
  rw[e1]at hr
  simp[execOp,hl,hc,hr]
end
theorem KE{F:List Frame->(Machine->Prop)->Prop}{h:HF}{L:LH}{K:Env->HF->LH->Prop}{o:Oper}(sl:List (Nat×Value))(hr:iu e sl)(t:Stp P b n ops F ds X o (upds e sl) h L K):Stp P b n ops F ds X o e h L K:=by
 rw[hr.upds]at t;exact t
theorem Ul{F:List Frame->(Machine->Prop)->Prop}{h:HF}{L:LH}(sl:List (Nat×Value))(hr:iu e sl)(t:TT P b n k F (upds e sl) ds X h L):TT P b n k F e ds X h L:=by
 rw[hr.upds]at t;exact t
section
variable {P:Program} {b:Frame} {n:Nat} {k:List Item} {F:List Frame->(Machine->Prop)->Prop} {e:Env} {ds:List Deferred} {X:Cx} {h:HF} {L:LH}
theorem lp3{γ:Type}{x0:ρ}(xs:List α)(sl:Nat->γ->List (Nat×Value))(hh:γ->HF)(LL:γ->LH)(J JX:Nat->γ->Prop)(hJX:∀i g,J i g->JX i g)(Lf:List α->Nat->γ->ρ)(g0:γ)(hb:xs.length<=9223372036854775807)(hs:x0=Lf xs 0 g0)(hJ:J 0 g0)(after:∀i g,i<=xs.length->x0=Lf [] i g->JX i g->∀e',TT P b n k F (upds e' (sl i g)) ds X (hh g) (LL g))(cons:∀i g y r,xs.drop i=y::r->decide ((i:Int)<(xs.length:Int))=true->xs[i]? = some y->i<xs.length->xs.length<=9223372036854775807->x0=Lf (y::r) i g->J i g ->
   (∀i' g' {e'},x0=Lf [] i' g'->JX i' g'->(hi:i'<=xs.length:=by omega)->(hr:iu e' (sl i' g'):=by exact rds)->TT P b n k F e' ds X (hh g') (LL g')) ->
   (∀g' {e'},x0=Lf r (i+1) g'->J (i+1) g'->(hr:iu e' (sl (i+1) g'):=by exact rds)->TT P b n (.inLoop c::.inBlock id::k) F e' ds X (hh g') (LL g')) ->
   ∀e',TT P b n (.code c::.inLoop c::.inBlock id::k) F (upds e' (sl i g)) ds X (hh g) (LL g))(nil:∀i g,xs.drop i=[]->decide ((i:Int)<(xs.length:Int))=false->(∀e',iu e' (sl i g)->TT P b n k F e' ds X (hh g) (LL g)) ->
   ∀e',TT P b n (.code c::.inLoop c::.inBlock id::k) F (upds e' (sl i g)) ds X (hh g) (LL g):=by exact ndA)(h0:iu e (sl 0 g0):=by exact rds)(hw:∀w,St X h L w->St X (hh g0) (LL g0) w:=by exact sws):
  TT P b n (.code (.block id (.loop c))::k) F e ds X h L:=by
 refine gx (ι:=Nat×γ) (λi=>sl i.1 i.2) (λi=>hh i.2) (λi=>LL i.2) (λi=>i.1<=xs.length/\x0=Lf [] i.1 i.2/\JX i.1 i.2) ?_ (λhx=>?_)
 .rintro⟨i,g⟩ ⟨h1,h2,h3⟩ e'
  exact after i g h1 h2 h3 e'
 .refine jw (ι:=Nat×γ×List α) (λi=>sl i.1 i.2.1) (λi=>hh i.2.1) (λi=>LL i.2.1) (λi=>xs.drop i.1=i.2.2/\i.1<=xs.length/\x0=Lf i.2.2 i.1 i.2.1/\J i.1 i.2.1) (λi=>i.2.2.length) (0,g0,xs) h0 hw ⟨rfl,xH _,hs,hJ⟩ ?_
  rintro⟨i,g,s⟩ ⟨hd,hi,hs,hJ⟩ ag e'
  dsimp only at hd hi hs hJ
  rcases s with _|⟨y,r⟩
  .exact nil i g hd (nZ hd) (λe'' hr=>hx (i,g) e'' ⟨hi,hs,hJX _ _ hJ⟩ hr) e'
  .exact cons i g y r hd (tU hd) (sn hd) (il hd) hb hs hJ (λi' g' e'' a b c d=>hx (i',g') e'' ⟨c,a,b⟩ d)
    (λg' e'' a b hr=>ag (i+1,g',r) e'' (Nat.lt_succ_self _) ⟨ll hd,il hd,a,b⟩ hr) e'
end
end
variable {h:HF}
section
section
variable {α : Type} {R:Rp α} {T:TypeId}
def V3(_:HF)(v:Value)(x:Option Addr×Nat×Nat):Prop:=v=.slice x.1 x.2.1 x.2.2
def FRg(R:Rp α)(T:TypeId)(h:HF):List (Int×Option Addr×Nat×Nat)->List (Int×List α)->LH->Prop
 |[],[],G=>G=[]
 |(k,x)::m,(k',xs)::f,G=>k=k'/\x.2.1=xs.length/\∃G1 G2,G=G1++G2/\cN R T h xs x.1 x.2.2 G1/\FRg R T h m f G2
 |_,_,_=>False
theorem V3.mono:D9 V3:=λ_ _ _ _ _ e=>e
theorem FRg.mono(hR:R.Mono){h h':HF}(hl:h.le h'):∀{m:List (Int×Option Addr×Nat×Nat)}{f:List (Int×List α)}{G:LH},FRg R T h m f G->FRg R T h' m f G
 |[],[],_,e=>e
 |(_,_)::_,(_,_)::_,_,⟨a,b,G1,G2,c,d,t⟩=>⟨a,b,G1,G2,c,d.mono hR hl,FRg.mono hR hl t⟩
 |[],(_,_)::_,_,x=>x.elim
 |(_,_)::_,[],_,x=>x.elim
theorem FRg.get{h:HF}(k:Int):∀{m:List (Int×Option Addr×Nat×Nat)}{f:List (Int×List α)}{G:LH},FRg R T h m f G ->
  ∃b c G1 G2,mgetD m k (none,0,0)=(b,(mgetD f k []).length,c)/\cN R T h (mgetD f k []) b c G1/\G.Perm (G1++G2) /\
   ∀b' c' xs' G1',cN R T h xs' b' c' G1'->∃G',FRg R T h (mput m k (b',xs'.length,c')) (mput f k xs') G'/\G'.Perm (G1'++G2)
 |[],[],G,e=>by
  subst e
  refine⟨none,0,[],[],rfl,cN.nil,List.Perm.refl _,λb' c' xs' G1' hG=>⟨G1',⟨rfl,rfl,G1',[],by simp,hG,rfl⟩,by simp⟩⟩
 |(k0,x)::m,(k',xs)::f,G,⟨e,hn,G1,G2,hG,hg,t⟩=>by
  subst e hG
  by_cases hk:k=k0
  .subst hk
   refine⟨x.1,x.2.2,G1,G2,?_,?_,List.Perm.refl _,λb' c' xs' G1' hG'=>⟨G1'++G2,?_,List.Perm.refl _⟩⟩
   .simp[mgetD,mget?,←hn]
   .simpa[mgetD,mget?]using hg
   .simp only[mput,if_true]
    exact⟨rfl,rfl,G1',G2,rfl,hG',t⟩
  .obtain⟨b,c,H1,H2,h1,h2,h3,h4⟩:=FRg.get k t
   refine⟨b,c,H1,G1++H2,?_,?_,?_,λb' c' xs' G1' hG'=>?_⟩
   .simpa[mgetD,mget?,hk]using h1
   .simpa[mgetD,mget?,hk]using h2
   .refine(List.Perm.append_left G1 h3).trans ?_
    rw[←vD,←vD];exact List.Perm.append_right H2 xG
   .obtain⟨G',g1,g2⟩:=h4 b' c' xs' G1' hG'
    refine⟨G1++G',?_,?_⟩
    .simp only[mput,hk,if_false]
     exact⟨rfl,hn,G1,G',rfl,hg,g1⟩
    .refine(List.Perm.append_left G1 g2).trans ?_
     rw[←vD,←vD];exact List.Perm.append_right H2 xG
 |[],(_,_)::_,_,x=>x.elim
 |(_,_)::_,[],_,x=>x.elim
theorem FRg.keys{h:HF}:∀{m:List (Int×Option Addr×Nat×Nat)}{f:List (Int×List α)}{G:LH},FRg R T h m f G->m.map (·.1)=f.map (·.1)
 |[],[],_,_=>rfl
 |(_,_)::_,(_,_)::_,_,⟨a,_,_,_,_,_,t⟩=>by simp[a,FRg.keys t]
 |[],(_,_)::_,_,x=>x.elim
 |(_,_)::_,[],_,x=>x.elim
theorem FRg.mem{h:HF}:∀{m:List (Int×Option Addr×Nat×Nat)}{f:List (Int×List α)}{G:LH},FRg R T h m f G->(m.map (·.1)).Nodup->∀p∈m,p.2.2.1=(mgetD f p.1 []).length/\∃G1,(∀q∈G1,q∈G)/\cN R T h (mgetD f p.1 []) p.2.1 p.2.2.2 G1
 |[],[],_,_,_,_,hp=>(kA hp).elim
 |(k,x)::m,(k',xs)::f,G,⟨e,hn,G1,G2,hG,hg,t⟩,hnd,p,hp=>by
  subst e hG
  rw[vH,zR]at hnd
  rcases zE.1 hp with rfl|hp
  .exact⟨by simp[mgetD,mget?,hn],G1,λq hq=>List.mem_append_left _ hq,by simpa[mgetD,mget?]using hg⟩
  .have hne:¬p.1=k:=λe=>hnd.1 (by have h9:=V9 (f:=(·.1)) hp;rw[e]at h9;exact h9)
   obtain⟨h1,H,h2,h3⟩:=FRg.mem t hnd.2 p hp
   exact⟨by simpa[mgetD,mget?,hne]using h1,H,λq hq=>List.mem_append_right _ (h2 q hq),by simpa[mgetD,mget?,hne]using h3⟩
 |[],(_,_)::_,_,x,_,_,_=>x.elim
 |(_,_)::_,[],_,x,_,_,_=>x.elim
theorem MT{β : Type}:∀{f:List (Int×β)}(z:β),(f.map (·.1)).Nodup->f=f.map λp=>(p.1,mgetD f p.1 z)
 |[],_,_=>rfl
 |(k,x)::f,z,hn=>by
  rw[vH,zR]at hn
  rw[vH]
  congr 1
  .simp[mgetD,mget?]
  .have ih:=MT z hn.2
   conv=>lhs;rw[ih]
   apply List.map_congr_left
   intro p hp
   have hne:¬p.1=k:=λe=>hn.1 (by have h9:=V9 (f:=(·.1)) hp;rw[e]at h9;exact h9)
   simp[mgetD,mget?,hne]
theorem NP{h:HF}{h2:HF}(g:Int->List α):∀{es:List MapEntry}{m:List (Int×Option Addr×Nat×Nat)},rM (qC .i64) V3 h es m ->
  (∀p∈m,p.2.2.1=(g p.1).length/\SlC R h2 p.2.1 p.2.2.2 (g p.1))->rM (qC .i64) (VSl R) h2 es (m.map λp=>(p.1,g p.1))
 |[],[],_,_=>trivial
 |e::es,(k,x)::m,⟨a,b,c⟩,hg=>by
  obtain⟨h1,h3⟩:=hg (k,x) (kB ..)
  refine⟨a,⟨x.1,x.2.2,?_,h3⟩,NP g c λp hp=>hg p (jC _ hp)⟩
  rw[show e.val=.slice x.1 x.2.1 x.2.2 from b,h1]
 |[],_::_,x,_=>x.elim
 |_::_,[],x,_=>x.elim
theorem FRg.frozen(hR:R.Mono){h2:HF}{m:List (Int×Option Addr×Nat×Nat)}{f:List (Int×List α)}(hm:kY (qC .i64) V3 h o m)(hf:FRg R T h m f G)(hl:h.le h2)(hG:∀p∈G,h2 p.1=some p.2):
  kY (qC .i64) (VSl R) h2 o f:=by
 have hnd:=hm.nodup
 have hk:=hf.keys
 obtain⟨m',hp,hn,es,c,rfl,hE,h1,h3⟩:=hm
 have hmem:=hf.mem hnd
 have hfe:=MT (f:=f) [] (hk▸hnd)
 have hfm:f=m.map λp=>(p.1,mgetD f p.1 []):=by
  have e1:(f.map λp=>(p.1,mgetD f p.1 []))=(f.map (·.1)).map λk=>(k,mgetD f k []):=by rw[List.map_map];rfl
  have e2:(m.map λp=>(p.1,mgetD f p.1 []))=(m.map (·.1)).map λk=>(k,mgetD f k []):=by rw[List.map_map];rfl
  rw[e2,hk,←e1];exact hfe
 refine⟨m'.map λp=>(p.1,mgetD f p.1 []),?_,?_,es,c,rfl,NP (λk=>mgetD f k []) hE λp hp'=>?_,h1,h3⟩
 .have hpm:=hp.map λp=>(p.1,mgetD f p.1 ([]:List α))
  rw[←hfm]at hpm;exact hpm
 .rw[List.map_map];exact hn
 .obtain⟨h5,G1,h6,h7⟩:=hmem p (hp.mem_iff.1 hp')
  exact⟨h5,h7.frozen hR hl λq hq=>hG q (h6 q hq)⟩
end
end
end Go.Sg
