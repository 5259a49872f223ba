import Derived.Test.YtpplkjhgggjaoaaGreatDoorProg
import Derived.ChangeArms
import Derived.OpenShut
import Derived.Test.YtpplkjhgggjaoaaGreatDoorRows
import Derived.LaidHandle
import Derived.WordedOn
import Derived.ChangeSame
import Derived.Carry
import Derived.Test.YtpplkjhgggjaoaaGreatDoorW4
/- A part of the proof of JudgeReason. -/
set_option linter.unusedVariables false
set_option linter.unusedSimpArgs false
set_option maxRecDepth 100000
namespace Go.Sg
theorem Gy {κ α : Type} [DecidableEq κ] (k:κ) (v:α) (m:List (κ×α)) (x:κ):mget? (mput m k v) x=if x=k then some v else mget? m x:=yi k v m x
theorem Cg (a:Int) (i:Nat) (k:List (Int×Int)→List Int×Bool×Int) (P:List Int×Bool×Int→Prop) (hk:∀ g,mget? g a=some 0→P (k g)):∀ (s:List Deputy) (g:List (Int×Int)),mget? g a=some 0→P (aE.L3 i k s g)
 | [],g,h=>hk g h
 | y::s,g,h=>by
  simp only [aE.L3,Bool.cond_eq_ite]
  split
  ·next hc=>
   refine Cg a i k P hk s _ ?_
   rw [Gy]
   split
   ·next e=>
    have hq:mhas g y.From=true:=by rw [← e];simp [mhas,h]
    rw [hq] at hc;simp at hc
   ·exact h
  ·exact Cg a i k P hk s g h
theorem GR (l:List Deputy) (a o k v t n:Int):(aE l a a o k v t n).1=[]:=by
 unfold aE
 rw [Bool.cond_eq_ite]
 split
 ·rfl
 ·have h0:mget? (mput ([]:List (Int×Int)) a 0) a=some 0:=by simp [mput,mget?]
  have:∀ (s:List Nat) (i:Nat) (g:List (Int×Int)),mget? g a=some 0→(aE.L1 l o k v t n (aE.K1 l a o k v t n) s i g).1=[]:=by
   intro s
   induction s with
   | nil=>
    intro i g hg
    show (aE.K1 l a o k v t n g).1=[]
    unfold aE.K1
    have e1:mgetD g a 0=0:=by simp [mgetD,hg]
    have e2:mhas g a=true:=by simp [mhas,hg]
    rw [e1,e2];rfl
   | cons y s ih=>
    intro i g hg
    simp only [aE.L1]
    exact Cg a i _ (fun r=>r.1=[]) (fun g' hg'=>ih _ g' hg') _ g hg
  exact this _ _ _ h0
theorem FS (no:Int):∀ (l:List Document) (i:Nat),aQ.L1 no aQ.K1 l i=ad.L1 (fun dB=>bx dB no) ad.K1 l i
 | [],i=>rfl
 | y::l,i=>by
  simp only [aQ.L1,ad.L1,bx,Bool.cond_eq_ite]
  split
  ·rfl
  ·exact FS no l (i+1)
theorem Ln {r:Register} {doc t known:Int} (hd:0≤aQ r doc) (ht:0≤t∧t < 1099511627776) (hk:0≤known∧known < 1099511627776):ki r doc t known=.ok ⟨r,nthI r.Docs (aQ r doc),t,known⟩:=by
 have e:ad r.Docs (fun dB=>bx dB doc)=aQ r doc:=(FS doc r.Docs 0).symm
 unfold ki
 rw [e]
 have h1:decide (aQ r doc < 0)=false:=decide_eq_false (by omega)
 have h2:decide (min t known < 0)=false:=decide_eq_false (by omega)
 have h3:decide (1099511627776≤max t known)=false:=decide_eq_false (by omega)
 rw [h1,h2,h3];rfl
theorem lpolicy (no:Int):∀ (l:List Version) (i:Nat),(bR.L1 no bR.K1 l).2=true→∃ (j:Nat) (v:Version),l[j]? = some v∧v.No=no∧aN.L1 (fun dB=>du dB no) aN.K1 l i=((i+j:Nat):Int)∧bR.L1 no bR.K1 l=(v.Policy,true)
 | [],i,h=>by cases h
 | y::l,i,h=>by
  have e0:du y no=(y.No==no):=rfl
  simp only [bR.L1,aN.L1,e0] at h ⊢
  cases hy:y.No==no with
  | true=>exact ⟨0,y,rfl,by simpa using hy,by simp,rfl⟩
  | false=>
   rw [hy,cond_false] at h
   obtain ⟨j,v,h1,h2,h3,h4⟩:=lpolicy no l (i+1) h
   exact ⟨j+1,v,by simpa using h1,h2,by rw [cond_false,h3];congr 1;omega,by rw [cond_false,h4]⟩
theorem Bo {r:Register} {no:Int} (c:bo) (hc:c.Register=r) (h:(bR r no).2=true):dJ c no=.ok (bR r no).1∧∃ v∈r.Versions,v.No=no:=by
 obtain ⟨j,v,h1,h2,h3,h4⟩:=lpolicy no r.Versions 0 h
 refine ⟨?_,v,List.mem_of_getElem? h1,h2⟩
 have e:aN c.Register.Versions (fun dB=>du dB no)=(j:Int):=by
  rw [hc];unfold aN;rw [h3,Nat.zero_add]
 unfold dJ
 rw [e,show decide ((j:Int) < 0)=false from decide_eq_false (by omega),cond_false,hc,ns h1]
 show Except.ok v.Policy=.ok (bR.L1 no bR.K1 r.Versions).1
 rw [h4]
theorem Iq {W pre l:List Int} {y:Int} (h:W=pre++(y::l)) (hi:W.Pairwise (· < ·)):(decide (0 < (pre.length:Int))&&decide (y≤(nthI W ((pre.length:Int) - 1))))=false:=by
 rcases List.eq_nil_or_concat pre with rfl | ⟨a,x,e⟩
 ·rfl
 ·rw [List.concat_eq_append] at e
  subst e
  have hx:nthI W (((a++[x]).length:Int) - 1)=x:=by
   rw [show (((a++[x]).length:Int) - 1)=(a.length:Int) from by simp]
   exact ns (by rw [h];simp)
  rw [hx]
  rw [h,List.pairwise_append] at hi
  have h2:=hi.2.2 x (by simp) y (List.mem_cons_self ..)
  rw [show decide (y≤x)=false from decide_eq_false (by omega),Bool.and_false]
theorem Dx {α : Type} (g:α→Int):∀ (l:List α) (m:List (Int×Bool)),(∀ p∈m,p.2=true)→∀ p∈l.foldl (fun m y=>mput m (g y) true) m,p.2=true
 | [],m,h=>h
 | y::l,m,h=>Dx g l _ (rQ (P:=fun b:Bool=>b=true) (g y) h rfl)
def thereM (l:List Approval):List (Int×Bool):=l.foldl (fun m y=>mput m y.For true) []
theorem Ij {l:List Approval} {x:Int} (h:∃ y∈l,x=y.For):mgetD (thereM l) x false=true:=by
 have hk:x∈(thereM l).map (·.1):=(yy (fun y:Approval=>y.For) l [] x).2 (.inr h)
 obtain ⟨v,h1,h2⟩:=um hk
 have h3:=Dx (fun y:Approval=>y.For) l [] (fun _ h=>(List.not_mem_nil h).elim) _ h2
 simp only at h3
 simp [mgetD,h1,h3]
theorem Ii (l:List Approval):(setI (l.map (·.For))).length=(thereM l).length:=by
 have hn:((thereM l).map (·.1)).Nodup:=BP (fun y:Approval=>y.For) l [] List.nodup_nil
 have e:sortI ((thereM l).map (·.1))=setI (l.map (·.For)):=by
  refine Ip (xS (kw _) ((j3 _).nodup_iff.2 hn)) (zT _).1 fun x=>?_
  rw [(j3 _).mem_iff,(zT _).2]
  refine (yy (fun y:Approval=>y.For) l [] x).trans ?_
  simp only [List.map_nil,List.not_mem_nil,false_or,List.mem_map]
  exact ⟨fun ⟨y,h1,h2⟩=>⟨y,h1,h2.symm⟩,fun ⟨y,h1,h2⟩=>⟨y,h1,h2.symm⟩⟩
 rw [← e,ir,List.length_map]
theorem Df {r:Register} {doc version t known:Int} {W:List Int} (M:List (Int×Bool)) (k:Bool) (hw:(cg r doc version t known).1=W) (hr:W.Pairwise (· < ·)) (hM:∀ y∈W,mgetD M y false=true):∀ (s pre:List Int),W=pre++s→bG.L2 r doc version t known M k s pre.length=k
 | [],_,_=>rfl
 | y::s,pre,h=>by
  have h1:=Iq h hr
  have h2:=hM y (by rw [h];simp)
  have h3:=Df M k hw hr hM s (pre++[y]) (by rw [h];simp)
  rw [List.length_append,List.length_cons,List.length_nil,Nat.zero_add] at h3
  simp only [bG.L2,hw,h1,h2,Bool.not_true,Bool.or_false,cond_false]
  exact h3
theorem Dg {r:Register} {doc t known:Int} (k:List (Int×Bool)→Bool) {c:bo} (hc:c=⟨r,nthI r.Docs (aQ r doc),t,known⟩):∀ (s:List Approval) (g:List (Int×Bool)),
  (∀ y∈s,(fe c.Register.Appoints y.Office y.For c.at_ c.known).2.2.2=0∧(aE c.Register.Deputies y.For y.By y.Office c.doc.Kind c.doc.Value c.at_ c.known).2.2=0∧(cC c.Register.Interests y.For c.doc.Parties c.at_ c.known).2.2=0∧(cC c.Register.Interests y.By c.doc.Parties c.at_ c.known).2.2=0) →
  bG.L1 r doc t known k s g=k ((s.filter (goodA c)).foldl (fun m y=>mput m y.For true) g)
 | [],g,_=>rfl
 | y::s,g,h=>by
  obtain ⟨h1,h2,h3,h4⟩:=h y (List.mem_cons_self ..)
  have ih:=fun g=>Dg k hc s g (fun z hz=>h z (List.mem_cons_of_mem _ hz))
  subst hc
  have h5:(((aE r.Deputies y.For y.By y.Office ((nthI r.Docs (aQ r doc)).Kind) ((nthI r.Docs (aQ r doc)).Value) t known).2.1&&(y.For==y.By))&&decide (0 < ((((aE r.Deputies y.For y.By y.Office ((nthI r.Docs (aQ r doc)).Kind) ((nthI r.Docs (aQ r doc)).Value) t known).1).length:Nat):Int)))=false:=by
   cases he:y.For==y.By with
   | false=>simp
   | true=>
    have e:y.For=y.By:=by simpa using he
    rw [← e,GR];simp
  have h6:(((((fe r.Appoints y.Office y.For t known).2.2.2 != 0)||((aE r.Deputies y.For y.By y.Office ((nthI r.Docs (aQ r doc)).Kind) ((nthI r.Docs (aQ r doc)).Value) t known).2.2 != 0))||((cC r.Interests y.For ((nthI r.Docs (aQ r doc)).Parties) t known).2.2 != 0))||((cC r.Interests y.By ((nthI r.Docs (aQ r doc)).Parties) t known).2.2 != 0))=false:=by
   dsimp only at h1 h2 h3 h4
   rw [h1,h2,h3,h4];rfl
  simp only [bG.L1,h5,h6,Bool.or_false,cond_false,ih,List.filter_cons]
  show (bif goodA ⟨r,nthI r.Docs (aQ r doc),t,known⟩ y then _ else _)=_
  cases goodA ⟨r,nthI r.Docs (aQ r doc),t,known⟩ y <;> rfl
structure LP (r:Register) (doc version t known:Int):Prop where
 pol:(bR r version).2=true
 chk:iW r=0
 doc:0≤aQ r doc
 time:0≤t∧t < 1099511627776
 know:0≤known∧known < 1099511627776
theorem rctx {r:Register} {doc version t known:Int} (h:((((((((!((bR r version).2))||(!(jY r)))||((iW r) != 0))||decide ((aQ r doc) < 0))||decide (t < 0))||decide (1099511627776≤t))||decide (known < 0))||decide (1099511627776≤known))=false):LP r doc version t known:=by
 simp only [Bool.or_eq_false_iff,Bool.not_eq_false',decide_eq_false_iff_not,bne_eq_false_iff_eq] at h
 obtain ⟨⟨⟨⟨⟨⟨⟨h1,h2⟩,h3⟩,h4⟩,h5⟩,h6⟩,h7⟩,h8⟩:=h
 exact ⟨h1,h3,by omega,by omega,by omega⟩
theorem LP.court {r:Register} {doc version t known:Int} (hs:smR r) (x:LP r doc version t known):∃ c:bo,c=⟨r,nthI r.Docs (aQ r doc),t,known⟩∧iS c∧c.doc.No=doc∧ki r doc t known=.ok c∧dJ c version=.ok (bR r version).1∧KP (bR r version).1∧cg r doc version t known=(cS c (bR r version).1,0):=by
 have hc0:=(judge30 hs).2 x.chk
 have ho:=Ln x.doc x.time x.know
 obtain ⟨h1,h2,h3,_⟩:=D2 hc0 ho
 obtain ⟨h4,_⟩:=Bo (r:=r) (no:=version) ⟨r,nthI r.Docs (aQ r doc),t,known⟩ rfl x.pol
 refine ⟨_,rfl,h2,h3,ho,h4,sJ h2 hs h4,?_⟩
 unfold cg
 rw [hc0,ho]
 simp only [bne_self_eq_false,cond_false,h4]
theorem reason_true {r:Register} (hs:smR r) (doc version t known:Int):bG r doc version t known=true:=by
 unfold bG
 rw [show pR=true from rfl]
 simp only [Bool.not_true,cond_false]
 cases hg:((((((((!((bR r version).2))||(!(jY r)))||((iW r) != 0))||decide ((aQ r doc) < 0))||decide (t < 0))||decide (1099511627776≤t))||decide (known < 0))||decide (1099511627776≤known)) with
 | true=>rfl
 | false=>
  obtain ⟨c,hc,hco,hno,ho,hpo,hpk,hpe⟩:=(rctx hg).court hs
  have hp2:((cg r doc version t known).2 != 0)=false:=by rw [hpe];rfl
  have hW:(cg r doc version t known).1=setI ((eU c (bR r version).1).map (·.For)):=by rw [hpe,← Dk]
  rw [hp2]
  simp only [cond_false]
  have hge:=Ea c (bR r version).1
  have hcd:c.doc=nthI r.Docs (aQ r doc):=by rw [hc]
  have hcr:c.Register=r:=by rw [hc]
  have hct:c.at_=t:=by rw [hc]
  have hck:c.known=known:=by rw [hc]
  cases hk:decide ((nthI r.Docs (aQ r doc)).Kind < ((((bR r version).1).Kinds.length:Nat):Int)) with
  | false=>
   have hk':=of_decide_eq_false hk
   rw [show decide (((((bR r version).1).Kinds.length:Nat):Int)≤c.doc.Kind)=true from decide_eq_true (by rw [hcd];omega),cond_true] at hge
   rw [hge] at hW
   simp only [cond_false]
   show bG.L3 r doc version t known (bG.K3 r doc version t known) (cg r doc version t known).1 0=true
   have e0:(cg r doc version t known).1=[]:=hW
   unfold bG.K3
   rw [e0];rfl
  | true=>
   have hk':=of_decide_eq_true hk
   rw [show decide (((((bR r version).1).Kinds.length:Nat):Int)≤c.doc.Kind)=false from decide_eq_false (by rw [hcd];omega),cond_false] at hge
   have hkb:0≤c.doc.Kind∧c.doc.Kind < (((bR r version).1).Rules.length:Int):=⟨hco.kind.1,by rw [hpk.rules.1,hcd];exact hk'⟩
   have hce:=qW hco hpk.rules hkb
   rw [hcr,hno,hcd,hct,hck] at hce
   rw [hcr,hno,hcd,hct,hck] at hge
   simp only [cond_true]
   rw [hce]
   simp only [bne_self_eq_false,cond_false]
   rw [Dg (c:=c) _ hc _ _ (fun y hy=>by
    have hy':y∈(bH c.Register.Approvals doc c.doc.At ((nthI (((bR r version).1).Rules) c.doc.Kind).Think) t known).1:=by rw [hcr,hcd];exact hy
    exact ⟨qV hco hy',qX hco hy',wv hco (yA hco hy'),wv hco (Cb hco hy')⟩)]
   rw [← hge]
   show bG.K1 r doc version t known (thereM (eU c (bR r version).1))=true
   unfold bG.K1
   have h2:=Df (thereM (eU c (bR r version).1)) (bG.K2 r doc version t known (thereM (eU c (bR r version).1))) hW (zT _).1 (fun y hy=>by
    obtain ⟨z,hz,rfl⟩:=List.mem_map.1 (((zT _).2 y).1 hy)
    exact Ij ⟨z,hz,rfl⟩) _ [] rfl
   rw [hW]
   refine h2.trans ?_
   unfold bG.K2
   rw [hW,Ii]
   simp
theorem CA {r:Register} {no:Int} (h:(bR r no).2=true):∃ v∈r.Versions,v.No=no:=(Bo (r:=r) ⟨r,default,0,0⟩ rfl h).2
theorem Gq {r:Register} {doc version t known:Int} (hs:smR r) (x:LP r doc version t known) (hk:decide ((nthI r.Docs (aQ r doc)).Kind < ((((bR r version).1).Kinds.length:Nat):Int))=true):0≤(nthI r.Docs (aQ r doc)).Kind∧(nthI r.Docs (aQ r doc)).Kind < ((((bR r version).1).Rules).length:Int):=by
 obtain ⟨c,hc,hco,hno,ho,hpo,hpk,hpe⟩:=x.court hs
 have h1:=hco.kind
 have h2:=of_decide_eq_true hk
 have hcd:c.doc=nthI r.Docs (aQ r doc):=by rw [hc]
 rw [hcd] at h1
 have h3:=hpk.rules.1
 omega
end Go.Sg
namespace Go.Sg
section
variable {P:Program} {b:Frame} {n:Nat} {k:List Item} {F:List Frame→(Machine→Prop)→Prop} {e:Env} {ds:List Deferred} {X:Cx} {h:HF} {L:LH}
variable {ops:Array Oper} {l:List Oper} {d:Nat} {ty:TypeId} {pos:String} {af:Array Edge} {g:Option (Nat×Bool)}
def memN:List Nat→Nat→Bool
 | [],_=>false
 | a::l,s=>bif Nat.beq s a then true else memN l s
def mix (S:List Nat) (e' e:Env):Env:=fun s=>bif memN S s then e' s else e s
def subN:List Nat→List Nat→Bool
 | [],_=>true
 | a::l,S=>memN S a&&subN l S
def Agr (S:List Nat) (e e':Env):Prop:=∀ s,memN S s=false→e' s=e s
theorem uF {S:List Nat} {e:Env}:Agr S e e:=fun _ _=>rfl
theorem xL {S:List Nat} {e e':Env} {d:Nat} {w:Value} (hd:memN S d=true) (h:Agr S e e'):Agr S e (upd e' d w):=fun s hs=>by
 unfold upd
 cases hb:Nat.beq s d with
 | true=>rw [Nat.eq_of_beq_eq_true hb,hd] at hs;cases hs
 | false=>exact h s hs
theorem Kd {S T:List Nat} (h:subN T S=true) {s:Nat} (hs:memN S s=false):memN T s=false:=by
 induction T with
 | nil=>rfl
 | cons a T ih=>
  simp only [subN,Bool.and_eq_true] at h
  simp only [memN]
  cases hb:Nat.beq s a with
  | true=>rw [Nat.eq_of_beq_eq_true hb,h.1] at hs;cases hs
  | false=>exact ih h.2
theorem xM {S T:List Nat} {e e' e2:Env} (hT:subN T S=true) (h:Agr S e e'):Agr S e (mix T e2 e'):=fun s hs=>by
 unfold mix
 rw [Kd hT hs];exact h s hs
theorem Hm (m:Nat) (S:List Nat) (d:Nat) (v:Value)
  (t':(∀ e',e' d=v→(ha:Agr S e e':=by repeat (first | exact uF | refine xL rfl ?_ | refine xM rfl ?_))→TO P b n ops (l.drop m) k F e' ds X h L)→TO P b n ops l k F e ds X h L)
  (hk:∀ e'',TO P b n ops (l.drop m) k F (upd (mix S e'' e) d v) ds X h L):TO P b n ops l k F e ds X h L:=
 t' fun e' hv ha=>by
  have e1:upd (mix S e' e) d v=e':=funext fun s=>by
   unfold upd
   cases hb:Nat.beq s d with
   | true=>rw [Nat.eq_of_beq_eq_true hb];exact hv.symm
   | false=>
    show mix S e' e s=e' s
    unfold mix
    cases hm:memN S s with
    | true=>rfl
    | false=>exact (ha s hm).symm
  have:=hk e'
  rw [e1] at this
  exact this
theorem ai {α : Type} {x y z:α} {c:Bool} {o:Operand} {p q:Code} (hs:x=bif c then y else z) (hx:e.ev o=.bool c)
  (t1:c=true→x=y→TT P b n (.code p::k) F e ds X h L) (t2:c=false→x=z→TT P b n (.code q::k) F e ds X h L):TT P b n (.code (.cond o p q)::k) F e ds X h L:=
 jG hx (fun e'=>t1 e' (hs.trans (by rw [e'];rfl))) (fun e'=>t2 e' (hs.trans (by rw [e'];rfl)))
end
end Go.Sg
namespace Go.Sg
inductive Qs
 | tt (k:List Item) (e:Env)
 | to (ops:Array Oper) (l:List Oper) (k:List Item) (e:Env)
@[reducible] def Qs.holds (P:Program) (b:Frame) (n:Nat) (F:List Frame→(Machine→Prop)→Prop) (ds:List Deferred) (X:Cx) (h:HF) (L:LH):Qs→Prop
 | .tt k e=>TT P b n k F e ds X h L
 | .to ops l k e=>TO P b n ops l k F e ds X h L
def opQ (e:Env):Op→Option Value
 | .move x=>some (e.ev x)
 | .assign x=>some (e.ev x)
 | .pick c x y=>match e.ev c with
  | .bool s=>some (bif s then e.ev x else e.ev y)
  | _=>none
 | .extract x i=>match e.ev x with
  | .tuple ⟨vs⟩=>nth vs i
  | _=>none
 | .unOp .not _ x=>match e.ev x with
  | .bool s=>some (.bool !s)
  | _=>none
 | .binOp op _ x y _=>binV op (e.ev x) (e.ev y)
 | _=>none
def qstepO (n:Nat) (ops:Array Oper) (l:List Oper) (k:List Item) (e:Env):Option Qs:=
 match l with
 | []=>some (.tt k e)
 | ⟨some d,op,ty,pos,af,g⟩::l=>
  match Nat.blt d n with
  | false=>none
  | true=>match guardB ops e ⟨some d,op,ty,pos,af,g⟩ with
   | false=>some (.to ops l k (upd e d undef))
   | true=>match opQ e op with
    | some v=>some (.to ops l k (upd e d v))
    | none=>none
 | _=>none
def qstepT (k:List Item) (e:Env):Option Qs:=
 match k with
 | .code .skip::k=>some (.tt k e)
 | .code (.seq x y)::k=>some (.tt (.code x::.code y::k) e)
 | .code (.block id c)::k=>some (.tt (.code c::.inBlock id::k) e)
 | .inBlock _::k=>some (.tt k e)
 | .code (.exit id)::k=>match exitTo id k with
  | some k'=>some (.tt k' e)
  | none=>none
 | .code (.cond c x y)::k=>match e.ev c with
  | .bool true=>some (.tt (.code x::k) e)
  | .bool false=>some (.tt (.code y::k) e)
  | _=>none
 | .code (.region _ ⟨l⟩ false)::k=>some (.to ⟨l⟩ l k e)
 | _=>none
def runQ (n:Nat):Nat→Qs→Option Qs
 | 0,s=>some s
 | m+1,.tt k e=>match qstepT k e with
  | some s=>runQ n m s
  | none=>none
 | m+1,.to ops l k e=>match qstepO n ops l k e with
  | some s=>runQ n m s
  | none=>none
section
variable {P:Program} {b:Frame} {n:Nat} {k:List Item} {F:List Frame→(Machine→Prop)→Prop} {e:Env} {ds:List Deferred} {X:Cx} {h:HF} {L:LH}
theorem D3 {op:Op} {v:Value} (hv:opQ e op=some v):noDefer op=true∧∀ (d:Option Nat) (ty:TypeId) (pos:String) (af:Array Edge) (g:Option (Nat×Bool)) w,(execOp e.ev ⟨d,op,ty,pos,af,g⟩).run P w=.ok (.value v) w:=by
 unfold opQ at hv
 split at hv
 ·cases hv;exact ⟨rfl,fun _ _ _ _ _ w=>by simp [execOp]⟩
 ·cases hv;exact ⟨rfl,fun _ _ _ _ _ w=>by simp [execOp]⟩
 ·split at hv
  ·next s hc=>cases hv;exact ⟨rfl,fun _ _ _ _ _ w=>by cases s <;> simp [execOp,hc,asBool]⟩
  ·cases hv
 ·split at hv
  ·next vs hx=>exact ⟨rfl,fun _ _ _ _ _ w=>by rw [gP] at hv;simp [execOp,hx,Instr.extract,hv]⟩
  ·cases hv
 ·split at hv
  ·next s hx=>cases hv;exact ⟨rfl,fun _ _ _ _ _ w=>by simp [execOp,hx,Op.unary]⟩
  ·cases hv
 ·next op t x y u=>
  exact ⟨rfl,fun _ _ _ _ _ w=>by
   have:=AG (P:=P) (t:=t) (x:=x) (y:=y) hv w
   simp only [execOp,Sem.run_bind] at this ⊢
   simp [this]⟩
 ·cases hv
theorem It {ops:Array Oper} {l:List Oper} {s:Qs} (hs:qstepO n ops l k e=some s) (t:s.holds P b n F ds X h L):TO P b n ops l k F e ds X h L:=by
 unfold qstepO at hs
 split at hs
 ·cases hs;exact aD t
 ·split at hs
  ·cases hs
  ·next hd=>
   split at hs
   ·next hg=>cases hs;exact ui t hd hg
   ·next hg=>
    split at hs
    ·next v hv=>
     cases hs
     obtain ⟨h1,h2⟩:=D3 (P:=P) hv
     exact qP v h1 (fun w _=>h2 _ _ _ _ _ w) hd hg t
    ·cases hs
 ·cases hs
theorem Di {s:Qs} (hs:qstepT k e=some s) (t:s.holds P b n F ds X h L):TT P b n k F e ds X h L:=by
 unfold qstepT at hs
 split at hs
 ·cases hs;exact aJ t
 ·cases hs;exact aR t
 ·cases hs;exact ie t
 ·cases hs;exact da t
 ·split at hs
  ·next hx=>cases hs;exact kv hx t
  ·cases hs
 ·split at hs
  ·next hc=>cases hs;exact iq hc t
  ·next hc=>cases hs;exact kL hc t
  ·cases hs
 ·cases hs;exact ay t
 ·cases hs
theorem zV:∀ (m:Nat) (a:Qs) {s:Qs},runQ n m a=some s→s.holds P b n F ds X h L→a.holds P b n F ds X h L
 | 0,_,_,hr,t=>by cases hr;exact t
 | m+1,.tt k e,s,hr,t=>by
  unfold runQ at hr
  split at hr
  ·next s' hs=>exact Di hs (zV m s' hr t)
  ·cases hr
 | m+1,.to ops l k e,s,hr,t=>by
  unfold runQ at hr
  split at hr
  ·next s' hs=>exact It hs (zV m s' hr t)
  ·cases hr
theorem qT (m:Nat) {s:Qs} (hr:runQ n m (.tt k e)=some s) (t:s.holds P b n F ds X h L):TT P b n k F e ds X h L:=zV m (.tt k e) hr t
theorem qO {ops:Array Oper} {l:List Oper} (m:Nat) {s:Qs} (hr:runQ n m (.to ops l k e)=some s) (t:s.holds P b n F ds X h L):TO P b n ops l k F e ds X h L:=zV m (.to ops l k e) hr t
end
end Go.Sg
namespace Go.Sg
section
variable {P:Program} {b:Frame} {n:Nat} {k:List Item} {F:List Frame→(Machine→Prop)→Prop} {e:Env} {ds:List Deferred} {X:Cx} {h:HF} {L:LH}
theorem rds {p:Prop} (h:p:=by repeat (first | exact trivial | refine ⟨rfl,?_⟩)):p:=h
theorem sws {p:Prop} (h:p:=by first | exact fun w hw=>hw | (intro w hw;first | simpa only [List.append_assoc,List.cons_append,List.nil_append,List.append_nil] using hw | (simp only [List.append_assoc,List.cons_append,List.nil_append,List.append_nil] at hw ⊢;exact hw))):p:=h
theorem ndA {p:Prop} (h:p:=by (intro i g hd hf hx e;refine aR (ay (aw (v':=.bool false) rfl (congrArg Value.bool hf) (aD (aR (kL rfl (kv rfl (hx _ ?_)))))));exact rds)):p:=h
theorem ndB {p:Prop} (h:p:=by (intro i hd hf hx e;refine aR (ay (aw (v':=.bool false) rfl (congrArg Value.bool hf) (aD (aR (kL rfl (kv rfl (hx _ ?_)))))));exact rds)):p:=h
theorem lpG {α γ ρ : Type} {id:Nat} {c:Code} {x0:ρ} (xs:List α) (sl:Nat→γ→List (Nat×Value)) (hh:γ→HF) (LL:γ→LH) (J:Nat→γ→Prop) (Lf:List α→Nat→γ→ρ) (g0:γ) (hb:xs.length≤9223372036854775807)
  (hs:x0=Lf xs 0 g0) (hJ:J 0 g0) (h0:ju e (sl 0 g0)) (hw:∀ w,St X h L w→St X (hh g0) (LL g0) w)
  (after:∀ i g,i≤xs.length→x0=Lf [] i g→J i g→∀ e',TT P b n k F (upds e' (sl i g)) ds X (hh g) (LL g))
  (cons:∀ i g y r,xs.drop i=y::r→decide ((i:Int) < (xs.length:Int))=true→xs[i]? = some y→i < xs.length→xs.length≤9223372036854775807→x0=Lf (y::r) i g→J i g →
   (∀ i' g' {e'},x0=Lf [] i' g'→J i' g'→i'≤xs.length→ju e' (sl i' g')→TT P b n k F e' ds X (hh g') (LL g')) →
   (∀ g' {e'},x0=Lf r (i+1) g'→J (i+1) g'→ju e' (sl (i+1) g')→TT P b n (.inLoop c::.inBlock id::k) F e' ds X (hh g') (LL g')) →
   ∀ e',TT P b n (.code c::.inLoop c::.inBlock id::k) F (upds e' (sl i g)) ds X (hh g) (LL g))
  (nil:∀ i g,xs.drop i=[]→decide ((i:Int) < (xs.length:Int))=false→(∀ e',ju e' (sl i g)→TT P b n k F e' ds X (hh g) (LL g)) →
   ∀ e',TT P b n (.code c::.inLoop c::.inBlock id::k) F (upds e' (sl i g)) ds X (hh g) (LL g)):
  TT P b n (.code (.block id (.loop c))::k) F e ds X h L:=by
 refine jx (ι:=Nat×γ) (fun i=>sl i.1 i.2) (fun i=>hh i.2) (fun i=>LL i.2) (fun i=>i.1≤xs.length∧x0=Lf [] i.1 i.2∧J i.1 i.2) ?_ (fun hx=>?_)
 ·rintro ⟨i,g⟩ ⟨h1,h2,h3⟩ e'
  exact after i g h1 h2 h3 e'
 ·refine ku (ι:=Nat×γ×List α) (fun i=>sl i.1 i.2.1) (fun i=>hh i.2.1) (fun i=>LL i.2.1) (fun i=>xs.drop i.1=i.2.2∧i.1≤xs.length∧x0=Lf i.2.2 i.1 i.2.1∧J i.1 i.2.1) (fun i=>i.2.2.length) (0,g0,xs) h0 hw ⟨rfl,Nat.zero_le _,hs,hJ⟩ ?_
  rintro ⟨i,g,s⟩ ⟨hd,hi,hs,hJ⟩ ag e'
  dsimp only at hd hi hs hJ
  rcases s with _ | ⟨y,r⟩
  ·exact nil i g hd (nH hd) (fun e'' hr=>hx (i,g) e'' ⟨hi,hs,hJ⟩ hr) e'
  ·exact cons i g y r hd (rW hd) (rG hd) (jr hd) hb hs hJ (fun i' g' e'' a b c d=>hx (i',g') e'' ⟨c,a,b⟩ d)
    (fun g' e'' a b hr=>ag (i+1,g',r) e'' (Nat.lt_succ_self _) ⟨lQ hd,jr hd,a,b⟩ hr) e'
theorem lp2 {α γ ρ : Type} {id:Nat} {c:Code} {x0:ρ} (xs:List α) (sl:Nat→γ→List (Nat×Value)) (hh:γ→HF) (LL:γ→LH) (J:Nat→γ→Prop) (Lf:List α→Nat→γ→ρ) (g0:γ) (hb:xs.length≤9223372036854775807)
  (hs:x0=Lf xs 0 g0) (hJ:J 0 g0)
  (after:∀ i g,i≤xs.length→x0=Lf [] i g→J i g→∀ e',TT P b n k F (upds e' (sl i g)) ds X (hh g) (LL g))
  (cons:∀ i g y r,xs.drop i=y::r→decide ((i:Int) < (xs.length:Int))=true→xs[i]? = some y→i < xs.length→xs.length≤9223372036854775807→x0=Lf (y::r) i g→J i g →
   (∀ i' g' {e'},x0=Lf [] i' g'→J i' g'→(hi:i'≤xs.length:=by omega)→(hr:ju e' (sl i' g'):=by exact rds)→TT P b n k F e' ds X (hh g') (LL g')) →
   (∀ g' {e'},x0=Lf r (i+1) g'→J (i+1) g'→(hr:ju e' (sl (i+1) g'):=by exact rds)→TT P b n (.inLoop c::.inBlock id::k) F e' ds X (hh g') (LL g')) →
   ∀ e',TT P b n (.code c::.inLoop c::.inBlock id::k) F (upds e' (sl i g)) ds X (hh g) (LL g))
  (nil:∀ i g,xs.drop i=[]→decide ((i:Int) < (xs.length:Int))=false→(∀ e',ju e' (sl i g)→TT P b n k F e' ds X (hh g) (LL g)) →
   ∀ e',TT P b n (.code c::.inLoop c::.inBlock id::k) F (upds e' (sl i g)) ds X (hh g) (LL g):=by exact ndA)
  (h0:ju e (sl 0 g0):=by exact rds)
  (hw:∀ w,St X h L w→St X (hh g0) (LL g0) w:=by exact sws):
  TT P b n (.code (.block id (.loop c))::k) F e ds X h L:=
 lpG xs sl hh LL J Lf g0 hb hs hJ h0 hw after cons nil
theorem lp1 {α γ ρ : Type} {id:Nat} {c:Code} {x0:ρ} (xs:List α) (sl:Nat→γ→List (Nat×Value)) (L':LH) (Lf:List α→Nat→γ→ρ) (g0:γ) (hb:xs.length≤9223372036854775807) (hs:x0=Lf xs 0 g0)
  (after:∀ i g,i≤xs.length→x0=Lf [] i g→∀ e',TT P b n k F (upds e' (sl i g)) ds X h L')
  (cons:∀ i g y r,xs.drop i=y::r→decide ((i:Int) < (xs.length:Int))=true→xs[i]? = some y→i < xs.length→xs.length≤9223372036854775807→x0=Lf (y::r) i g →
   (∀ i' g' {e'},x0=Lf [] i' g'→(hi:i'≤xs.length:=by omega)→(hr:ju e' (sl i' g'):=by exact rds)→TT P b n k F e' ds X h L') →
   (∀ g' {e'},x0=Lf r (i+1) g'→(hr:ju e' (sl (i+1) g'):=by exact rds)→TT P b n (.inLoop c::.inBlock id::k) F e' ds X h L') →
   ∀ e',TT P b n (.code c::.inLoop c::.inBlock id::k) F (upds e' (sl i g)) ds X h L')
  (nil:∀ i g,xs.drop i=[]→decide ((i:Int) < (xs.length:Int))=false→(∀ e',ju e' (sl i g)→TT P b n k F e' ds X h L') →
   ∀ e',TT P b n (.code c::.inLoop c::.inBlock id::k) F (upds e' (sl i g)) ds X h L':=by exact ndA)
  (h0:ju e (sl 0 g0):=by exact rds)
  (hw:∀ w,St X h L w→St X h L' w:=by exact sws):
  TT P b n (.code (.block id (.loop c))::k) F e ds X h L:=
 lpG xs sl (fun _=>h) (fun _=>L') (fun _ _=>True) Lf g0 hb hs trivial h0 hw (fun i g a b _=>after i g a b) (fun i g y r a1 a2 a3 a4 a5 a6 _ hx ag=>cons i g y r a1 a2 a3 a4 a5 a6 (fun i' g' _ a hi hr=>hx i' g' a trivial hi hr) (fun g' _ a hr=>ag g' a trivial hr)) nil
theorem lp0 {α ρ : Type} {id:Nat} {c:Code} {x0:ρ} (xs:List α) (sl:Nat→List (Nat×Value)) (L':LH) (Lf:List α→Nat→ρ) (hb:xs.length≤9223372036854775807) (hs:x0=Lf xs 0)
  (after:∀ i,i≤xs.length→x0=Lf [] i→∀ e',TT P b n k F (upds e' (sl i)) ds X h L')
  (cons:∀ i y r,xs.drop i=y::r→decide ((i:Int) < (xs.length:Int))=true→xs[i]? = some y→i < xs.length→xs.length≤9223372036854775807→x0=Lf (y::r) i →
   (∀ i' {e'},x0=Lf [] i'→(hi:i'≤xs.length:=by omega)→(hr:ju e' (sl i'):=by exact rds)→TT P b n k F e' ds X h L') →
   (∀ {e'},x0=Lf r (i+1)→(hr:ju e' (sl (i+1)):=by exact rds)→TT P b n (.inLoop c::.inBlock id::k) F e' ds X h L') →
   ∀ e',TT P b n (.code c::.inLoop c::.inBlock id::k) F (upds e' (sl i)) ds X h L')
  (nil:∀ i,xs.drop i=[]→decide ((i:Int) < (xs.length:Int))=false→(∀ e',ju e' (sl i)→TT P b n k F e' ds X h L') →
   ∀ e',TT P b n (.code c::.inLoop c::.inBlock id::k) F (upds e' (sl i)) ds X h L':=by exact ndB)
  (h0:ju e (sl 0):=by exact rds)
  (hw:∀ w,St X h L w→St X h L' w:=by exact sws):
  TT P b n (.code (.block id (.loop c))::k) F e ds X h L:=
 lpG (γ:=Unit) xs (fun i _=>sl i) (fun _=>h) (fun _=>L') (fun _ _=>True) (fun l i _=>Lf l i) () hb hs trivial h0 hw (fun i _ a b _=>after i a b) (fun i _ y r a1 a2 a3 a4 a5 a6 _ hx ag=>cons i y r a1 a2 a3 a4 a5 a6 (fun i' _ a hi hr=>hx i' () a trivial hi hr) (fun a hr=>ag () a trivial hr)) (fun i _=>nil i)
theorem bY {ops:Array Oper} {l:List Oper} (m:Nat) (S:List Nat) (s d:Nat) (y:Bool) {x:Bool} (hx:e s=.bool x)
  (t':x=false→(∀ e',e' d=.bool y→(ha:Agr S e e':=by repeat (first | exact uF | refine xL rfl ?_ | refine xM rfl ?_))→TO P b n ops (l.drop m) k F e' ds X h L)→TO P b n ops l k F (upd e s (.bool false)) ds X h L)
  (hk:∀ e'',TO P b n ops (l.drop m) k F (upd (mix S e'' e) d (.bool (x||y))) ds X h L) 
  (hq:∃ e2,runQ n m (.to ops l k (upd e s (.bool true)))=some (.to ops (l.drop m) k e2)∧e2 d=.bool true∧Agr S e e2:=by exact ⟨_,rfl,rfl,by repeat (first | exact uF | refine xL rfl ?_ | refine xM rfl ?_)⟩):TO P b n ops l k F e ds X h L:=by
 refine Hm m S d (.bool (x||y)) (fun hj=>?_) hk
 refine rJ s hx (fun c=>?_) (fun c=>t' c (fun e' he ha=>hj e' (he.trans (by rw [c];rfl)) ha))
 obtain ⟨e2,h1,h2,h3⟩:=hq
 exact qO m h1 (hj e2 (h2.trans (by rw [c];rfl)) h3)
theorem bC {ops:Array Oper} {l:List Oper} (m:Nat) (S:List Nat) (s d:Nat) (y:Bool) {x:Bool} (hx:e s=.bool x)
  (t':x=true→(∀ e',e' d=.bool y→(ha:Agr S e e':=by repeat (first | exact uF | refine xL rfl ?_ | refine xM rfl ?_))→TO P b n ops (l.drop m) k F e' ds X h L)→TO P b n ops l k F (upd e s (.bool true)) ds X h L)
  (hk:∀ e'',TO P b n ops (l.drop m) k F (upd (mix S e'' e) d (.bool (x&&y))) ds X h L)
  (hq:∃ e2,runQ n m (.to ops l k (upd e s (.bool false)))=some (.to ops (l.drop m) k e2)∧e2 d=.bool false∧Agr S e e2:=by exact ⟨_,rfl,rfl,by repeat (first | exact uF | refine xL rfl ?_ | refine xM rfl ?_)⟩):TO P b n ops l k F e ds X h L:=by
 refine Hm m S d (.bool (x&&y)) (fun hj=>?_) hk
 refine rJ s hx (fun c=>t' c (fun e' he ha=>hj e' (he.trans (by rw [c];rfl)) ha)) (fun c=>?_)
 obtain ⟨e2,h1,h2,h3⟩:=hq
 exact qO m h1 (hj e2 (h2.trans (by rw [c];rfl)) h3)
end
def look3:List (Nat×Nat×Nat)→Nat→Nat→Option Nat
 | [],_,_=>none
 | (a,b,c)::l,s,i=>bif Nat.beq a s&&Nat.beq b i then some c else look3 l s i
def tabOk (P:Program) (tF:List (Nat×Nat×Nat)) (tY tS:List Nat):Bool:=
 tF.all (fun x=>fldOf P x.1 x.2.1==some x.2.2)&&tY.all (fun t=>tySz P t==some (1,false))&&tS.all (fun t=>match P.underlying t with | some (.slice _)=>true | _=>false)
def LR:List (Nat×Nat)→Prop
 | []=>True
 | (a,b)::q=>a=b∧LR q
def runL (tF:List (Nat×Nat×Nat)) (tY tS:List Nat) (n:Nat) (L:LH):Nat→List Nat→Qs→Option (Qs×List (Nat×Nat))
 | 0,_,s=>some (s,[])
 | m+1,is,.tt k e=>match qstepT k e with
  | some s=>runL tF tY tS n L m is s
  | none=>none
 | m+1,is,.to ops [] k e=>runL tF tY tS n L m is (.tt k e)
 | m+1,is,.to ops (⟨some d,op,ty,pos,af,g⟩::l) k e=>match Nat.blt d n with
  | false=>none
  | true=>match guardB ops e ⟨some d,op,ty,pos,af,g⟩ with
   | false=>runL tF tY tS n L m is (.to ops l k (upd e d undef))
   | true=>match op with
    | .fieldAddr s x i=>match e.ev x,look3 tF s i with
     | .pointer (some a),some off=>runL tF tY tS n L m is (.to ops l k (upd e d (.pointer (some (a.add off)))))
     | _,_=>none
    | .load t x=>match e.ev x,is with
     | .pointer (some ⟨bk,off,none⟩),i::is=>match nth L i with
      | some (bk',.cells ⟨cl⟩ _ _)=>match nth cl off,memN tY t with
       | some v,true=>match runL tF tY tS n L m is (.to ops l k (upd e d v)) with
        | some (s,q)=>some (s,(bk,bk')::q)
        | none=>none
       | _,_=>none
      | _=>none
     | _,_=>none
    | .call ⟨.builtin .len,⟨[x]⟩,⟨[t]⟩⟩=>match e.ev x,memN tS t with
     | .slice _ m' _,true=>runL tF tY tS n L m is (.to ops l k (upd e d (.int .i64 (m':Int))))
     | _,_=>none
    | op=>match opQ e op with
     | some v=>runL tF tY tS n L m is (.to ops l k (upd e d v))
     | none=>none
 | _+1,_,.to _ _ _ _=>none
theorem Bn:∀ {l:List Nat} {a:Nat},memN l a=true→a∈l
 | [],_,h=>by cases h
 | b::l,a,h=>by
  unfold memN at h
  cases hb:Nat.beq a b with
  | true=>rw [Nat.eq_of_beq_eq_true hb];exact List.mem_cons_self ..
  | false=>rw [hb] at h;exact List.mem_cons_of_mem _ (Bn h)
theorem yj:∀ {l:List (Nat×Nat×Nat)} {s i o:Nat},look3 l s i=some o→(s,i,o)∈l
 | [],_,_,_,h=>by cases h
 | (a,b,c)::l,s,i,o,h=>by
  unfold look3 at h
  cases hb:Nat.beq a s&&Nat.beq b i with
  | true=>
   rw [hb] at h;cases h
   simp only [Bool.and_eq_true] at hb
   rw [Nat.eq_of_beq_eq_true hb.1,Nat.eq_of_beq_eq_true hb.2];exact List.mem_cons_self ..
  | false=>rw [hb] at h;exact List.mem_cons_of_mem _ (yj h)
section
variable {P:Program} {b:Frame} {n:Nat} {k:List Item} {F:List Frame→(Machine→Prop)→Prop} {e:Env} {ds:List Deferred} {X:Cx} {h:HF} {L:LH}
theorem ph {tF:List (Nat×Nat×Nat)} {tY tS:List Nat} (hT:tabOk P tF tY tS=true):∀ (m:Nat) (is:List Nat) (a:Qs) {s:Qs} {q:List (Nat×Nat)},runL tF tY tS n L m is a=some (s,q)→LR q→s.holds P b n F ds X h L→a.holds P b n F ds X h L
 | 0,is,a,s,q,hr,hq,t=>by
  simp only [runL,Option.some.injEq,Prod.mk.injEq] at hr;rw [hr.1];exact t
 | m+1,is,.tt k e,s,q,hr,hq,t=>by
  unfold runL at hr
  split at hr
  ·next hs=>exact Di hs (ph hT m _ _ hr hq t)
  ·cases hr
 | m+1,is,.to ops [] k e,s,q,hr,hq,t=>by
  unfold runL at hr
  exact aD (ph hT m _ _ hr hq t)
 | m+1,is,.to ops (⟨none,op,ty,pos,af,g⟩::l) k e,s,q,hr,hq,t=>by
  unfold runL at hr
  cases hr
 | m+1,is,.to ops (⟨some d,op,ty,pos,af,g⟩::l) k e,s,q,hr,hq,t=>by
  have hT':=hT
  simp only [tabOk,Bool.and_eq_true,List.all_eq_true] at hT'
  obtain ⟨⟨h1,h2⟩,h3⟩:=hT'
  unfold runL at hr
  split at hr
  ·cases hr
  ·next hd=>
   split at hr
   ·next hg=>exact ui (ph hT m _ _ hr hq t) hd hg
   ·next hg=>
    split at hr
    ·split at hr
     ·next hx hl=>exact fX (by simpa using h1 _ (yj hl)) hx (ph hT m _ _ hr hq t) hd hg
     ·cases hr
    ·split at hr
     ·next hx=>
      split at hr
      ·next hn=>
       split at hr
       ·next hv hm=>
        split at hr
        ·next hr2=>
         cases hr
         obtain ⟨e1,hq⟩:=hq
         subst e1
         exact kl _ (by simpa using h2 _ (Bn hm)) hx hn hv (ph hT m _ _ hr2 hq t) hd hg
        ·cases hr
       ·cases hr
      ·cases hr
     ·cases hr
    ·split at hr
     ·next hx hm=>
      have:=h3 _ (Bn hm)
      split at this
      ·next hu=>exact Bf hu hx (ph hT m _ _ hr hq t) hd hg
      ·cases this
     ·cases hr
    ·split at hr
     ·next v hv=>
      obtain ⟨g1,g2⟩:=D3 (P:=P) hv
      exact qP v g1 (fun w _=>g2 _ _ _ _ _ w) hd hg (ph hT m _ _ hr hq t)
     ·cases hr
end
theorem sT {P:Program} {f:FuncId} {fn:Func} {c:Code} {n:Nat} {args:List Value} {h:HF} {A:LH} {R:Ending→HF→LH→Prop}
  (hf:P.funcs[f]? = some fn) (hb:fn.body=some c) (hn:fn.ntmps=n) (hle:Nat.ble args.length n=true)
  (t:∀ X:Cx,X.M=A.map (·.1)→X.h0=h→P.funcs[f]? = some fn→TT P (bodyFrame f) n [.code c] (kG P X R) (envArgs args) [] X h A):mP P f args.toArray h A R:=
 cz hf hb hn hle fun X a b=>t X a b hf
section
variable {P:Program} {f:FuncId} {n:Nat} {k:List Item} {e:Env} {X:Cx} {h:HF} {L:LH} {fn:Func} {rs:List ResultVar} {φ : Value→HF→Prop}
theorem nretP {v:Value} {hh:HF} (vs:List Value) (hvv:retVal vs=v) (hf:P.funcs[f]? = some fn:=by assumption) (hr:fn.results=rs.toArray:=by rfl) (hX:X.h0=hh:=by assumption) (hv:qZ P e L rs vs:=by exact rds):
  TT P (bodyFrame f) n (.code .ret::k) (kG P X (fun x h' B=>x=.returned v∧h'=hh∧B=[])) e [] X h L:=qv vs hf hr hX hv hvv
theorem nretH (vs:List Value) (hφ : φ (retVal vs) h) (hf:P.funcs[f]? = some fn:=by assumption) (hr:fn.results=rs.toArray:=by rfl) (hv:qZ P e L rs vs:=by exact rds):
  TT P (bodyFrame f) n (.code .ret::k) (kG P X (fun x h' B=>B=[]∧∃ v,x=.returned v∧φ v h')) e [] X h L:=jd vs hf hr hv hφ
end
section grows
variable {P:Program} {b:Frame} {n:Nat} {ops:Array Oper} {F:List Frame→(Machine→Prop)→Prop} {e:Env} {ds:List Deferred} {X:Cx} {h:HF} {L:LH} {K:Env→HF→LH→Prop} {d:Option Nat} {ty:TypeId} {pos:String} {af:Array Edge} {g:Option (Nat×Bool)}
variable {α : Type} {R:Rp α} {E:TypeId} {xs:List α} {base:Option Addr} {cap bk:Nat} {G:LH}
theorem gC {α ρ : Type} {R:Rp α} {C:α→ρ→List Value} {ok:HF→α→ρ→Prop} {t E:TypeId} {x ix:Operand} {a:Bool} {base:Option Addr} {m cap:Nat} {xs:List α} {y:α} {z:Int} (hT:P.underlying t=some (.slice E)) (hS:tySz P E=some (R.sz,a))
  (hR:SlB R h base xs) (hz:0≤z∧z < (xs.length:Int)) (hj:xs[z.toNat]? = some y) (hx:e.ev x=.slice base m cap) (hm:m=xs.length) (hix:e.ev ix=.int .i64 z)
  (hC:∀ h cs y,R.rep h cs y→∃ r,cs=C y r∧ok h y r) (t':∀ q r,At h q (C y r)→ok h y r→K (pute e d (.pointer (some q))) h L)
  (hg:guardB ops e ⟨d,.indexAddr t x ix,ty,pos,af,g⟩=true:=by rfl):Stp P b n ops F ds X ⟨d,.indexAddr t x ix,ty,pos,af,g⟩ e h L K:=
 Hr hT hS hR hz hj hx hm hix (fun q cs A ln rr=>by obtain ⟨r,e1,o1⟩:=hC _ _ _ rr;subst e1;exact t' q r A o1) hg
end grows
end Go.Sg
namespace Go.Sg
theorem U.{u} {α : Sort u} {a:α}:a=a:=rfl
theorem kr {p:Prop} (h:p:=by kernel_rfl):p:=h
theorem ob {p:Prop} (h:p:=by first | assumption | omega | (simp only [] ;assumption) | (simp only [decide_eq_true_eq,decide_eq_false_iff_not,Bool.and_eq_true,Bool.or_eq_true,Bool.not_eq_true',Bool.not_eq_false',Bool.and_eq_false_iff,Bool.or_eq_false_iff,beq_iff_eq,beq_eq_false_iff_ne,bne_iff_ne,bne_eq_false_iff_eq,List.length_append,List.length_cons,List.length_nil,List.length_drop] at *;omega)):p:=h
theorem lo {p:Prop} (h:p:=by simp only [List.length_append,List.length_cons,List.length_nil,List.length_take,List.length_drop];omega):p:=h
theorem ap {p:Prop} (h:p:=by first | rfl | (simp only [List.append_assoc,List.cons_append,List.nil_append,List.append_nil];done) | (simp only [List.append_assoc,List.cons_append,List.nil_append,List.append_nil];rfl) | (rw [List.append_nil] <;> rfl) | (simp only [dropNth,List.append_assoc,List.cons_append,List.nil_append,List.append_nil];done)):p:=h
theorem lc {p:Prop} (h:p:=by first | omega | (simp only [List.length_nil,List.length_cons] at *;omega)):p:=h
theorem rd {p:Prop} (h:p:=by repeat (first | exact trivial | refine ⟨rfl,?_⟩)):p:=h
theorem jn {h:HF} {K L:LH} (hs:K.Sublist L:=by repeat (first | exact List.Sublist.refl _ | exact List.nil_sublist _ | exact List.sublist_append_left _ _ | refine List.Sublist.cons_cons _ ?_ | refine List.Sublist.cons _ ?_)):Jst h K h L:=fJ hs
theorem js {K L:LH} (hs:K.Sublist L:=by repeat (first | exact List.Sublist.refl _ | exact List.nil_sublist _ | exact List.sublist_append_left _ _ | refine List.Sublist.cons_cons _ ?_ | refine List.Sublist.cons _ ?_)):K.Sublist L:=hs
theorem ei {α : Type} {R:Rp α} {enc:α→List Value} (h:∀ h cs x,R.rep h cs x→cs=enc x:=by exact fun _ _ _ e=>e):∀ h cs x,R.rep h cs x→cs=enc x:=h
theorem lf {h:HF}:h.le h:=HF.le_refl h
theorem xf {p:Prop} (h:p:=by first | exact fun _ _ _ h=>h.elim | exact fun _ _ _ _ h=>h.elim):p:=h
theorem cb {a b:Bool} (h:a=b):Value.bool a=Value.bool b:=congrArg Value.bool h
theorem cs {a b:Bool} (h:a=b):Value.bool b=Value.bool a:=congrArg Value.bool h.symm
theorem ci {a b:Int} (h:a=b):Value.int .i64 b=Value.int .i64 a:=congrArg (Value.int .i64) h.symm
abbrev O (l:List Value) (t:Nat):Obj:=Obj.cells l.toArray t (0,0)
abbrev Y (x:Int):Value:=.int .u8 x
abbrev Q (b:Nat):Value:=.pointer (some ⟨b,0,none⟩)
abbrev I (x:Int):Value:=.int .i64 x
theorem HF.le.t {a b c:HF} (x:a.le b) (y:b.le c):a.le c:=HF.le_trans x y
section
variable {P:Program} {b:Frame} {n:Nat} {k:List Item} {F:List Frame→(Machine→Prop)→Prop} {ds:List Deferred} {X:Cx}
theorem tf (i:Nat) {l:List Oper} {h1:HF} {K:LH} {m d:Nat} {oi:Oper} {v:Value} {dn:List Nat} {e:Env} {h:HF} {L:LH}
  (hi:nth l i=some oi) (hd:oi.dst=some d)
  (hr:∀ h' L',Jst h1 K h' L'→∀ w,St X h' L' w→(execOp e.ev oi).run P w=.ok (.value v) w)
  (t:TA P b n l.toArray k F ds X (Jst h1 K) m (i::dn) (upd e d v) h L) (hsep:sepAll l.toArray=true:=by assumption) (hJ:Jst h1 K h L:=by exact jn) (hn:(nexts l.toArray dn).contains i=true:=by kernel_rfl) (hg:guardB l.toArray e oi=true:=by rfl):TA P b n l.toArray k F ds X (Jst h1 K) (m+1) dn e h L:=
 dX i hsep hJ hi hd hn hg hr t
theorem tm (i:Nat) {l:List Oper} {h1:HF} {K:LH} {m d:Nat} {x:Operand} {ty:TypeId} {pos:String} {af:Array Edge} {g:Option (Nat×Bool)} {dn:List Nat} {e:Env} {h:HF} {L:LH}
  (hi:nth l i=some ⟨some d,.move x,ty,pos,af,g⟩)
  (t:TA P b n l.toArray k F ds X (Jst h1 K) m (i::dn) (upd e d (e.ev x)) h L) (hsep:sepAll l.toArray=true:=by assumption) (hJ:Jst h1 K h L:=by exact jn) (hn:(nexts l.toArray dn).contains i=true:=by kernel_rfl) (hg:guardB l.toArray e ⟨some d,.move x,ty,pos,af,g⟩=true:=by rfl):TA P b n l.toArray k F ds X (Jst h1 K) (m+1) dn e h L:=
 dX i hsep hJ hi rfl hn hg (fun _ _ _=>jE) t
theorem tk (i:Nat) {l:List Oper} {h1:HF} {K:LH} {m d:Nat} {oi:Oper} {dn:List Nat} {e:Env} {h:HF} {L:LH}
  (hi:nth l i=some oi) (hd:oi.dst=some d)
  (t:TA P b n l.toArray k F ds X (Jst h1 K) m (i::dn) (upd e d undef) h L) (hsep:sepAll l.toArray=true:=by assumption) (hJ:Jst h1 K h L:=by exact jn) (hn:(nexts l.toArray dn).contains i=true:=by kernel_rfl) (hg:guardB l.toArray e oi=false:=by rfl):TA P b n l.toArray k F ds X (Jst h1 K) (m+1) dn e h L:=
 ld i hsep hJ hi hd hn hg t
theorem tn (i:Nat) {l:List Oper} {h1:HF} {K:LH} {m:Nat} {oi:Oper} {dn:List Nat} {e:Env} {h:HF} {L:LH} (hi:nth l i=some oi)
  (t:Stp P b n l.toArray F ds X oi e h L fun e' h' L'=>Jst h1 K h' L'∧TA P b n l.toArray k F ds X (Jst h1 K) m (i::dn) e' h' L') (hn:nexts l.toArray dn=[i]:=by kernel_rfl):TA P b n l.toArray k F ds X (Jst h1 K) (m+1) dn e h L:=
 mF i hn hi t
theorem sr {id:Nat} {l:List Oper} {y:Code} {e:Env} {h:HF} {L:LH} (t:TO P b n l.toArray l (.code y::k) F e ds X h L):TT P b n (.code (.seq (.region id l.toArray false) y)::k) F e ds X h L:=aR (ay t)
theorem an {ops:Array Oper} {d:Nat} {x:Operand} {ty:TypeId} {pos:String} {af:Array Edge} {g:Option (Nat×Bool)} {e:Env} {h:HF} {L:LH} (t:TT P b n k F (upd e d (e.ev x)) ds X h L) (hd:Nat.blt d n=true:=by rfl) (hg:guardB ops e ⟨some d,.assign x,ty,pos,af,g⟩=true:=by rfl):TO P b n ops [⟨some d,.assign x,ty,pos,af,g⟩] k F e ds X h L:=cK (aD t) hd hg
theorem kq {ops:Array Oper} {l:List Oper} {d d':Nat} {op op':Op} {ty ty':TypeId} {pos pos':String} {af af':Array Edge} {g g':Option (Nat×Bool)} {e:Env} {h:HF} {L:LH} (t:TO P b n ops l k F (upd (upd e d undef) d' undef) ds X h L) (hd:Nat.blt d n=true:=by rfl) (hg:guardB ops e ⟨some d,op,ty,pos,af,g⟩=false:=by rfl)
  (hd':Nat.blt d' n=true:=by rfl) (hg':guardB ops (upd e d undef) ⟨some d',op',ty',pos',af',g'⟩=false:=by rfl):TO P b n ops (⟨some d,op,ty,pos,af,g⟩::⟨some d',op',ty',pos',af',g'⟩::l) k F e ds X h L:=ui (ui t hd' hg') hd hg
def runA (l:List Oper):List Nat→Nat→List Nat→Env→Option (Nat×List Nat×Env)
 | [],m,dn,e=>some (m,dn,e)
 | i::is,m,dn,e=>match m with
  | 0=>none
  | m+1=>match nth l i with
   | some ⟨some d,op,ty,pos,af,g⟩=>match guardB l.toArray e ⟨some d,op,ty,pos,af,g⟩ with
    | false=>runA l is m (i::dn) (upd e d undef)
    | true=>match opQ e op with
     | some v=>runA l is m (i::dn) (upd e d v)
     | none=>none
   | _=>none
def allNext (l:List Oper):List Nat→List Nat→Bool
 | [],_=>true
 | i::is,dn=>(nexts l.toArray dn).contains i&&allNext l is (i::dn)
theorem zX {l:List Oper} {h1:HF} {K:LH} {h:HF} {L:LH} (hsep:sepAll l.toArray=true) (hJ:Jst h1 K h L):∀ (is:List Nat) (m:Nat) (dn:List Nat) (e:Env) {m':Nat} {dn':List Nat} {e':Env},runA l is m dn e=some (m',dn',e')→allNext l is dn=true→TA P b n l.toArray k F ds X (Jst h1 K) m' dn' e' h L→TA P b n l.toArray k F ds X (Jst h1 K) m dn e h L
 | [],m,dn,e,_,_,_,hr,_,t=>by cases hr;exact t
 | i::is,0,dn,e,_,_,_,hr,_,_=>by simp [runA] at hr
 | i::is,m+1,dn,e,_,_,_,hr,hn,t=>by
  simp only [allNext,Bool.and_eq_true] at hn
  simp only [runA] at hr
  split at hr
  ·next hi=>
   split at hr
   ·next hg=>exact ld i hsep hJ hi rfl hn.1 hg (zX hsep hJ is m _ _ hr hn.2 t)
   ·next hg=>
    split at hr
    ·next v hv=>exact dX i hsep hJ hi rfl hn.1 hg (fun _ _ _ w _=>(D3 hv).2 _ _ _ _ _ w) (zX hsep hJ is m _ _ hr hn.2 t)
    ·cases hr
  ·cases hr
theorem qA (is:List Nat) {l:List Oper} {h1:HF} {K:LH} {m:Nat} {dn:List Nat} {e:Env} {h:HF} {L:LH} {m':Nat} {dn':List Nat} {e':Env} (hr:runA l is m dn e=some (m',dn',e')) (t:TA P b n l.toArray k F ds X (Jst h1 K) m' dn' e' h L)
  (hsep:sepAll l.toArray=true:=by assumption) (hJ:Jst h1 K h L:=by exact jn) (hn:allNext l is dn=true:=by kernel_rfl):TA P b n l.toArray k F ds X (Jst h1 K) m dn e h L:=zX hsep hJ is m dn e hr hn t
theorem qR (a c:Nat) {l:List Oper} {h1:HF} {K:LH} {m:Nat} {dn:List Nat} {e:Env} {h:HF} {L:LH} {m':Nat} {dn':List Nat} {e':Env} (hr:runA l (List.range' a c) m dn e=some (m',dn',e')) (t:TA P b n l.toArray k F ds X (Jst h1 K) m' dn' e' h L)
  (hsep:sepAll l.toArray=true:=by assumption) (hJ:Jst h1 K h L:=by exact jn) (hn:allNext l (List.range' a c) dn=true:=by kernel_rfl):TA P b n l.toArray k F ds X (Jst h1 K) m dn e h L:=zX hsep hJ _ m dn e hr hn t
def opB (tF:List (Nat×Nat×Nat)) (e:Env):Op→Option Value
 | .fieldAddr s x i=>match e.ev x,look3 tF s i with
  | .pointer (some a),some off=>some (.pointer (some (a.add off)))
  | _,_=>none
 | op=>opQ e op
theorem Mq {tF:List (Nat×Nat×Nat)} (hT:(tF.all fun x=>fldOf P x.1 x.2.1==some x.2.2)=true) {op:Op} {e:Env} {v:Value} (hv:opB tF e op=some v) (h:HF) (L:LH) (d:Option Nat) (ty:TypeId) (pos:String) (af:Array Edge) (g:Option (Nat×Bool)):∀ w,St X h L w→(execOp e.ev ⟨d,op,ty,pos,af,g⟩).run P w=.ok (.value v) w:=by
 unfold opB at hv
 split at hv
 ·split at hv
  ·next hx hl=>
   cases hv
   exact jS (by simpa using (List.all_eq_true.1 hT) _ (yj hl)) hx
  ·cases hv
 ·exact fun w _=>(D3 hv).2 _ _ _ _ _ w
def runB (tF:List (Nat×Nat×Nat)) (l:List Oper):List Nat→Nat→List Nat→Env→Option (Nat×List Nat×Env)
 | [],m,dn,e=>some (m,dn,e)
 | i::is,m,dn,e=>match m with
  | 0=>none
  | m+1=>match nth l i with
   | some ⟨some d,op,ty,pos,af,g⟩=>match guardB l.toArray e ⟨some d,op,ty,pos,af,g⟩ with
    | false=>runB tF l is m (i::dn) (upd e d undef)
    | true=>match opB tF e op with
     | some v=>runB tF l is m (i::dn) (upd e d v)
     | none=>none
   | _=>none
theorem zW {tF:List (Nat×Nat×Nat)} (hT:(tF.all fun x=>fldOf P x.1 x.2.1==some x.2.2)=true) {l:List Oper} {h1:HF} {K:LH} {h:HF} {L:LH} (hsep:sepAll l.toArray=true) (hJ:Jst h1 K h L):∀ (is:List Nat) (m:Nat) (dn:List Nat) (e:Env) {m':Nat} {dn':List Nat} {e':Env},runB tF l is m dn e=some (m',dn',e')→allNext l is dn=true→TA P b n l.toArray k F ds X (Jst h1 K) m' dn' e' h L→TA P b n l.toArray k F ds X (Jst h1 K) m dn e h L
 | [],m,dn,e,_,_,_,hr,_,t=>by cases hr;exact t
 | i::is,0,dn,e,_,_,_,hr,_,_=>by simp [runB] at hr
 | i::is,m+1,dn,e,_,_,_,hr,hn,t=>by
  simp only [allNext,Bool.and_eq_true] at hn
  simp only [runB] at hr
  split at hr
  ·next hi=>
   split at hr
   ·next hg=>exact ld i hsep hJ hi rfl hn.1 hg (zW hT hsep hJ is m _ _ hr hn.2 t)
   ·next hg=>
    split at hr
    ·next v hv=>exact dX i hsep hJ hi rfl hn.1 hg (fun h' L' _ w hw=>Mq hT hv h' L' _ _ _ _ _ w hw) (zW hT hsep hJ is m _ _ hr hn.2 t)
    ·cases hr
  ·cases hr
theorem tu {ops:Array Oper} {h1 h2:HF} {K:LH} (hle:h1.le h2) {m:Nat} {dn:List Nat} {e:Env} {h:HF} {L:LH} (t:TA P b n ops k F ds X (Jst h2 K) m dn e h L):TA P b n ops k F ds X (Jst h1 K) m dn e h L:=mD hle (fun _ hp=>hp) t
end
theorem jl {h h2:HF} {K L:LH} (hle:h.le h2) (hs:K.Sublist L:=by repeat (first | exact List.Sublist.refl _ | exact List.nil_sublist _ | exact List.sublist_append_left _ _ | refine List.Sublist.cons_cons _ ?_ | refine List.Sublist.cons _ ?_)):Jst h K h2 L:=⟨hle,fun _ hp=>hs.subset hp⟩
theorem sw {p:Prop} (h:p:=by first | exact fun w hw=>hw | (intro w hw;first | simpa only [List.append_assoc,List.cons_append,List.nil_append,List.append_nil] using hw | (simp only [List.append_assoc,List.cons_append,List.nil_append,List.append_nil] at hw ⊢;exact hw))):p:=h
end Go.Sg
namespace Go.Sg
open Go.Proofs
abbrev fa := @Tryz.underlying31
abbrev lS := @Tryz.underlying3
abbrev kk := @Tryz.underlying60
abbrev oL := @Tryz.underlying27
abbrev si := @Tryz.underlying59
abbrev td := @Tryz.call100
abbrev tI := @Tryz.underlying28
abbrev vf := @Tryz.underlying26
abbrev vQ := @Tryz.call363
abbrev xQ := @Tryz.underlying58
abbrev rI := @Tryz.call51
abbrev sU := @Tryz.underlying24
abbrev wK := @Tryz.underlying9
abbrev sS := @Tryz.call47
abbrev wJ := @Tryz.func6
abbrev tJ := @Tryz.underlying23
abbrev vy := @Tryz.underlying25
abbrev vx := @Tryz.call324
abbrev wI := @Tryz.call149
abbrev wH := @Tryz.underlying190
abbrev wG := @Tryz.func195
abbrev yI := @Tryz.call201
abbrev yH := @Tryz.call207
abbrev yG := @Tryz.underlying56
abbrev Al := @Tryz.underlying22
abbrev Ak := @Tryz.call90
abbrev tz_26 := @Tryz.underlying4
abbrev Aj := @Tryz.func205
abbrev Ai := @Tryz.func27
abbrev C4 := @Tryz.call175
abbrev C3 := @Tryz.func329
abbrev C2 := @Tryz.func280
abbrev C1 := @Tryz.call103
abbrev C0 := @Tryz.underlying270
abbrev CZ := @Tryz.func50
abbrev CY := @Tryz.underlying57
abbrev CX := @Tryz.call48
abbrev EE := @Tryz.underlying182
abbrev ED := @Tryz.call132
abbrev EC := @Tryz.call281
abbrev EB := @Tryz.call199
abbrev EA := @Tryz.func208
abbrev Ez := @Tryz.underlying153
abbrev Ey := @Tryz.func22
abbrev Ex := @Tryz.underlying236
abbrev Ew := @Tryz.underlying129
abbrev Ev := @Tryz.call243
abbrev Eu := @Tryz.call307
abbrev Et := @Tryz.call252
abbrev Hi := @Tryz.underlying64
abbrev Jp := @Tryz.underlying30
abbrev Hh := @Tryz.underlying267
abbrev Hg := @Tryz.underlying279
abbrev Hf := @Tryz.underlying284
abbrev He := @Tryz.call282
abbrev Hd := @Tryz.func278
abbrev Hc := @Tryz.func279
abbrev Hb := @Tryz.func277
abbrev Nh := @Tryz.func211
abbrev Ha := @Tryz.underlying162
abbrev G9 := @Tryz.func31
abbrev G0 := @Tryz.underlying193
abbrev GZ := @Tryz.func255
abbrev GY := @Tryz.ntmps50
abbrev GX := @Tryz.call50
abbrev GW := @Tryz.call11
abbrev GV := @Tryz.call227
abbrev GU := @Tryz.func249
abbrev Ng := @Tryz.underlying5
abbrev Jo := @Tryz.underlying274
abbrev Jn := @Tryz.call89
abbrev Jm := @Tryz.call202
abbrev Jl := @Tryz.call200
abbrev Jk := @Tryz.call284
abbrev Jj := @Tryz.underlying20
abbrev Ji := @Tryz.func323
abbrev Jh := @Tryz.func185
abbrev Jg := @Tryz.call125
abbrev Jf := @Tryz.underlying37
abbrev tz_79 := @Tryz.underlying0
abbrev LT := @Tryz.underlying249
abbrev Je := @Tryz.func288
abbrev Jd := @Tryz.func105
abbrev Jc := @Tryz.func262
abbrev Jb := @Tryz.underlying240
abbrev Ja := @Tryz.func275
abbrev I9 := @Tryz.call88
abbrev I8 := @Tryz.func16
abbrev I7 := @Tryz.call13
abbrev I6 := @Tryz.func167
abbrev I5 := @Tryz.func333
abbrev I4 := @Tryz.func293
abbrev I3 := @Tryz.underlying68
abbrev I2 := @Tryz.func177
abbrev I1 := @Tryz.underlying67
abbrev I0 := @Tryz.func330
abbrev IZ := @Tryz.func186
abbrev IY := @Tryz.call97
abbrev IX := @Tryz.underlying126
abbrev IW := @Tryz.call157
abbrev Gh := @Tryz.call160
end Go.Sg
namespace Go.Sg
open Go.Proofs Go.Proofs.Tryz
set_option maxHeartbeats 2000000
def hOf (w:World):HF:=fun b=>w.heap[b]?
theorem pre_hOf (w:World):Pre (hOf w) [] w:=⟨fun _ _ h=>h,fun _ hp=>(List.not_mem_nil hp).elim,List.nodup_nil,fun _ hp=>(List.not_mem_nil hp).elim⟩
theorem H5 {w:World} {a:Addr} {v:Value} (h:w.cell? a=some v):a.spot=none∧∃ c T fz,w.heap[a.block]? = some (.cells c T fz)∧c[a.off]? = some v:=by
 unfold World.cell? at h
 split at h
 ·next c T fz e=>
  split at h
  ·cases h
  ·next hs=>exact ⟨by simpa using hs,c,T,fz,e,h⟩
 ·cases h
theorem Fl {α β : Type} {f:α→Option β}:∀ {l:List α} {r:List β},l.mapM f=some r→l.length=r.length∧∀ (j:Nat) (x:α),l[j]? = some x→f x=r[j]?
 | [],r,h=>by simp at h;subst h;exact ⟨rfl,fun j x hj=>by simp at hj⟩
 | a::l,r,h=>by
  rw [List.mapM_cons] at h
  simp only [Option.bind_eq_bind,Option.bind_eq_some_iff,Option.pure_def,Option.some.injEq] at h
  obtain ⟨b,hb,r',hr,rfl⟩:=h
  obtain ⟨h1,h2⟩:=Fl hr
  refine ⟨by simp [h1],fun j x hj=>?_⟩
  cases j with
  | zero=>simp at hj;subst hj;simpa using hb
  | succ j=>simpa using h2 j x (by simpa using hj)
theorem KM {w:World} {base n:Nat} {a:Addr} {cs:List Value} (hn:0 < n) (h:w.cells? base a n=some cs):At (hOf w) a cs∧cs.length=n:=by
 unfold World.cells? at h
 split at h
 ·obtain ⟨h1,h2⟩:=Fl h
  rw [List.length_range] at h1
  have hc:∀ j v,cs[j]? = some v→w.cell? (a.add j)=some v:=fun j v hv=>by
   have hj:=(List.getElem?_eq_some_iff.1 hv).1
   rw [h2 j j (List.getElem?_range (by omega))];exact hv
  obtain ⟨v,hv⟩:∃ v,cs[0]? = some v:=⟨cs[0],List.getElem?_eq_getElem (by omega)⟩
  obtain ⟨s1,c,T,fz,s2,s3⟩:=H5 (hc 0 v hv)
  have hsp:a.spot=none:=by simpa [Addr.add] using s1
  have hbl:∀ j,(a.add j).block=a.block∧(a.add j).off=a.off+j:=fun j=>by
   unfold Addr.add
   split
   ·next e=>subst e;exact ⟨rfl,rfl⟩
   ·exact ⟨rfl,rfl⟩
  refine ⟨⟨c,T,fz,?_,hsp,fun j u hu=>?_⟩,h1.symm⟩
  ·rw [(hbl 0).1] at s2;exact s2
  ·obtain ⟨_,c',T',fz',t2,t3⟩:=H5 (hc j u hu)
   rw [(hbl j).1] at t2
   rw [(hbl 0).1,t2] at s2
   cases s2
   rw [(hbl j).2] at t3;exact t3
 ·cases h
def szL {α : Type} (f:α→Nat):List α→Nat
 | []=>0
 | x::xs=>f x+szL f xs
theorem Av {α : Type} (f:α→Nat):∀ (l r:List α),szL f (l++r)=szL f l+szL f r
 | [],r=>by simp [szL]
 | x::l,r=>by simp [szL,Av f l r,Nat.add_assoc]
theorem nh {α : Type} {f:α→Nat} (hf:∀ x,1≤f x):∀ (l:List α),l.length≤szL f l
 | []=>Nat.le_refl _
 | x::l=>by have:=nh hf l;have:=hf x;simp [szL];omega
theorem DN {α : Type} {f:α→Nat} {x:α}:∀ {l:List α},x∈l→f x≤szL f l
 | y::l,h=>by
  rcases List.mem_cons.1 h with rfl | h
  ·simp [szL]
  ·have:=DN (f:=f) h;simp [szL];omega
theorem Hn:∀ (l:List Expr),szL Expr.dep l=Expr.depL l
 | []=>rfl
 | y::l=>by simp [szL,Expr.depL,Hn l]
open YtpplkjhgggjaoaaGreatDoor.Rows in
theorem bulk_one {H:Type} (d:DataW H):1≤uptoBulk d:=by
 cases d with
 | lit l=>cases l <;> simp [uptoBulk]
 | nil=>simp [uptoBulk]
 | ptr d=>simp [uptoBulk]
 | slice elems spare=>simp [uptoBulk]
 | agg parts=>simp [uptoBulk]
 | iface t d=>simp [uptoBulk]
 | map entries=>simp [uptoBulk]
 | held h=>simp [uptoBulk]
open YtpplkjhgggjaoaaGreatDoor.Rows in
theorem F6 {H:Type} (l r:List (DataW H)):uptoBulkAll (l++r)=uptoBulkAll l+uptoBulkAll r:=by
 induction l with
 | nil=>simp [uptoBulkAll]
 | cons x l ih=>simp only [List.cons_append,uptoBulkAll,ih];omega
section opn
open YtpplkjhgggjaoaaGreatDoor.Rows
variable {H:Type} {enc:TypeId×Value→H} {P:Program} {w:World} {base:Nat} {sp:Nat→Bool} {held:Bool}
def Opn (enc:TypeId×Value→H) (P:Program) (w:World) (base:Nat) (sp:Nat→Bool) (held:Bool) {α : Type} (T:TypeId) (R:Rp α) (sz:α→Nat) (fuel:Nat):Prop:=
 ∀ cs d ps,DataW.trod enc P w base sp held fuel T cs=some (d,ps)→∃ x,R.rep (hOf w) cs x∧sz x≤uptoBulk d
theorem jZ {α : Type} {R:Rp α} {sz:α→Nat} {T E:TypeId} {fuel:Nat} (ht:P.underlying T=some (.slice E)) (hc:P.cellsOf E=R.sz) (hp:0 < R.sz) (he:∀ n,fuel=n+1→Opn enc P w base sp held E R sz n) {cs:List Value} {d:DataW H} {ps:List MemPlace}
  (h:DataW.trod enc P w base sp held fuel T cs=some (d,ps)):∃ b c xs,cs=[.slice b (List.length xs) c]∧SlC R (hOf w) b c xs∧szL sz xs+1≤uptoBulk d:=by
 rcases DataW.trod_slice ht h with ⟨rfl,e⟩ | ⟨a,len,cap,elems,rest,n,hn,rfl,hx,h1,h2,h3,h4,h5,_,_⟩
 ·cases e
  exact ⟨none,0,[],rfl,SlC.nil,by simp [szL,uptoBulk]⟩
 ·cases hx
  have key:∀ k,k≤len→∃ xs:List α,xs.length=k∧(∀ i x,xs[i]? = some x→∃ cs',At (hOf w) (a.add (i * R.sz)) cs'∧cs'.length=R.sz∧R.rep (hOf w) cs' x)∧szL sz xs≤uptoBulkAll ((elems.take k).map (·.1)):=by
   intro k
   induction k with
   | zero=>exact fun _=>⟨[],rfl,fun i x hx=>by simp at hx,by simp [szL]⟩
   | succ k ih=>
    intro hk
    obtain ⟨xs,e1,e2,e3⟩:=ih (by omega)
    have hkl:k < elems.length:=by omega
    have c0:=h5 k (by omega)
    rw [List.getElem?_eq_getElem hkl] at c0
    obtain ⟨cs',c1,c2⟩:=Option.bind_eq_some_iff.1 c0
    rw [hc] at c1
    obtain ⟨x,x1,x2⟩:=he n hn _ _ _ c2
    obtain ⟨k1,k2⟩:=KM hp c1
    refine ⟨xs++[x],by simp [e1],fun i y hy=>?_,?_⟩
    ·rcases Nat.lt_or_ge i xs.length with hi | hi
     ·rw [List.getElem?_append_left hi] at hy;exact e2 i y hy
     ·rw [List.getElem?_append_right hi] at hy
      have hi2:i=k:=by
       have:=(List.getElem?_eq_some_iff.1 hy).1
       simp at this;omega
      subst hi2
      rw [show i - xs.length=0 from by omega] at hy
      simp at hy;subst hy
      exact ⟨cs',k1,k2,x1⟩
    ·rw [Av,List.take_add_one,List.map_append,F6,List.getElem?_eq_getElem hkl]
     simp only [szL,Option.toList_some,List.map_cons,List.map_nil,uptoBulkAll]
     have x3:sz x≤uptoBulk (elems[k]).1:=x2
     omega
  obtain ⟨xs,e1,e2,e3⟩:=key len (Nat.le_refl _)
  refine ⟨some a,cap,xs,by rw [e1],⟨⟨?_,fun i x hx=>?_⟩,by omega⟩,?_⟩
  ·have:maxLen≤9223372036854775807:=by decide
   omega
  ·obtain ⟨cs',k1,k2,k3⟩:=e2 i x hx
   exact ⟨a,cs',rfl,k1,k2,k3⟩
  ·rw [List.take_of_length_le (by omega)] at e3
   simp only [uptoBulk]
   omega
theorem eC {T:TypeId} (ht:P.underlying T=some (.int .i64)) (n:Nat):Opn enc P w base sp held T Rp.int (fun _=>1) n:=by
 intro cs d ps h
 refine (?_:∃ x,Rp.int.rep (hOf w) cs x).imp fun _ h=>⟨h,bulk_one d⟩
 cases n with
 | zero=>simp [DataW.trod] at h
 | succ n=>
  unfold DataW.trod at h
  rw [ht] at h
  split at h <;> simp_all
  next k k' z e=>
   obtain ⟨⟨h1,_⟩,h2,_⟩:=h
   subst h1
   exact ⟨z,by first | rfl | (subst e;rfl) | (cases e;rfl)⟩
theorem Mp {T:TypeId} (ht:P.underlying T=some (.int .u8)) (n:Nat):Opn enc P w base sp held T ⟨1,fun _ cs (x:Int)=>cs=[.int .u8 x]⟩ (fun _=>1) n:=by
 intro cs d ps h
 refine (?_:∃ x:Int,cs=[.int .u8 x]).imp fun _ h=>⟨h,bulk_one d⟩
 cases n with
 | zero=>simp [DataW.trod] at h
 | succ n=>
  unfold DataW.trod at h
  rw [ht] at h
  split at h <;> simp_all
theorem rN {T:TypeId} (ht:P.underlying T=some .bool) (n:Nat):Opn enc P w base sp held T Rp.bool (fun _=>1) n:=by
 intro cs d ps h
 obtain ⟨b,rfl,_⟩:=DataW.trod_bool ht h
 exact ⟨b,rfl,bulk_one d⟩
theorem xa {T:TypeId} (ht:P.underlying T=some .string) (n:Nat):Opn enc P w base sp held T Rp.str (fun _=>1) n:=by
 intro cs d ps h
 refine (?_:∃ x,Rp.str.rep (hOf w) cs x).imp fun _ h=>⟨h,bulk_one d⟩
 cases n with
 | zero=>simp [DataW.trod] at h
 | succ n=>
  unfold DataW.trod at h
  rw [ht] at h
  split at h <;> simp_all
  all_goals exact ⟨_,rfl⟩
def TrF (enc:TypeId×Value→H) (P:Program) (w:World) (base:Nat) (sp:Nat→Bool) (held:Bool) (fuel:Nat):List TypeId→List Value→List (DataW H)→Prop
 | [],cs,ds=>cs=[]∧ds=[]
 | t::ts,cs,ds=>∃ c cs' d ds' p,cs=c++cs'∧ds=d::ds'∧DataW.trod enc P w base sp held fuel t c=some (d,p)∧TrF enc P w base sp held fuel ts cs' ds'
def contig (P:Program):List Field→Nat→Option Nat
 | [],o=>some o
 | f::fs,o=>if f.offset=o then contig P fs (o+P.cellsOf f.type) else none
theorem Js {n:Nat} {cs:List Value}:∀ (fs:List Field) (xs:List (DataW H×List MemPlace)) (o:Nat),xs.length=fs.length→contig P fs o=some cs.length →
  (∀ (i:Nat) (f:Field),fs[i]? = some f→DataW.trod enc P w base sp held n f.type ((cs.drop f.offset).take (P.cellsOf f.type))=xs[i]?)→TrF enc P w base sp held n (fs.map (·.type)) (cs.drop o) (xs.map (·.1))
 | [],xs,o,hl,hc,_=>by
  simp only [contig,Option.some.injEq] at hc
  subst hc
  rw [List.length_nil,List.length_eq_zero_iff] at hl
  subst hl
  exact ⟨by simp,rfl⟩
 | f::fs,[],o,hl,hc,hx=>by simp at hl
 | f::fs,x::xs,o,hl,hc,hx=>by
  unfold contig at hc
  split at hc
  ·next ho=>
   have h0:=hx 0 f rfl
   rw [ho] at h0
   simp only [List.getElem?_cons_zero] at h0
   refine ⟨(cs.drop o).take (P.cellsOf f.type),cs.drop (o+P.cellsOf f.type),x.1,xs.map (·.1),x.2,?_,rfl,h0,Js fs xs _ (by simpa using hl) hc (fun i g hg=>by simpa using hx (i+1) g (by simpa using hg))⟩
   rw [← List.drop_drop,List.take_append_drop]
  ·cases hc
theorem kM {T:TypeId} {fs:Array Field} {fuel:Nat} {cs:List Value} {d:DataW H} {ps:List MemPlace} (ht:P.underlying T=some (.struct fs)) (hk:contig P fs.toList 0=some (P.cellsOf T)) (h:DataW.trod enc P w base sp held fuel T cs=some (d,ps)):
  ∃ n ds,fuel=n+1∧d=.agg ds∧TrF enc P w base sp held n (fs.toList.map (·.type)) cs ds:=by
 obtain ⟨xs,n,hn,hx,hl,hlen,hf⟩:=DataW.trod_struct ht h
 cases hx
 refine ⟨n,_,hn,rfl,?_⟩
 have:=Js (enc:=enc) (w:=w) (base:=base) (sp:=sp) (held:=held) (n:=n) (cs:=cs) fs.toList xs 0 (by simpa using hlen) (by rw [hk,hl]) (fun i f hi=>hf i f (by simpa using hi))
 simpa using this
theorem Iw {T E:TypeId} {m:Nat} (ht:P.underlying T=some (.array m E)) (hE:P.underlying E=some (.int .u8)) (hc:P.cellsOf E=1) (hcT:P.cellsOf T=m) {n:Nat} {cs:List Value} {d:DataW H} {ps:List MemPlace}
  (h:DataW.trod enc P w base sp held n T cs=some (d,ps)):∃ f:Nat→Int,cs=(List.range m).map fun i=>Value.int .u8 (f i):=by
 obtain ⟨xs,k,hk,hx,hl,hlen,hf⟩:=DataW.trod_array ht h
 rw [hcT] at hl
 have h1:∀ i,∃ z:Int,i < m→cs[i]? = some (.int .u8 z):=by
  intro i
  rcases Nat.lt_or_ge i m with hi | hi
  ·have h0:=hf i hi
   rw [hc,Nat.mul_one,List.getElem?_eq_getElem (by omega)] at h0
   obtain ⟨z,hz,_⟩:=Mp (enc:=enc) (w:=w) (base:=base) (sp:=sp) (held:=held) hE k _ _ _ h0
   refine ⟨z,fun _=>?_⟩
   have hz':(cs.drop i).take 1=[.int .u8 z]:=hz
   have:=congrArg (·[0]?) hz'
   simpa using this
  ·exact ⟨0,fun h=>by omega⟩
 obtain ⟨f,hf'⟩:=Classical.axiomOfChoice h1
 refine ⟨f,List.ext_getElem? fun i=>?_⟩
 rcases Nat.lt_or_ge i m with hi | hi
 ·rw [hf' i hi];simp [hi]
 ·rw [List.getElem?_eq_none (by omega)];simp [hi]
end opn
section openings
variable {H:Type} {enc:TypeId×Value→H} {w:World} {base:Nat} {sp:Nat→Bool} {held:Bool}
theorem Fb (n:Nat):Opn enc prog w base sp held 89 Appoint.rp (fun _=>1) n:=by
 intro cs d ps h
 obtain ⟨m,ds,rfl,rfl,c0,_,d0,_,p0,rfl,rfl,h0,c1,_,d1,_,p1,rfl,rfl,h1,c2,_,d2,_,p2,rfl,rfl,h2,c3,_,d3,_,p3,rfl,rfl,h3,c4,_,d4,_,p4,rfl,rfl,h4,c5,_,d5,_,p5,rfl,rfl,h5,c6,_,d6,_,p6,rfl,rfl,h6,rfl,rfl⟩:=kM (fs:=_) underlying89 (by kernel_rfl) h
 obtain ⟨x0,rfl,_⟩:=(eC (by kernel_rfl)) m _ _ _ h0
 obtain ⟨x1,rfl,_⟩:=(eC (by kernel_rfl)) m _ _ _ h1
 obtain ⟨x2,rfl,_⟩:=(eC (by kernel_rfl)) m _ _ _ h2
 obtain ⟨x3,rfl,_⟩:=(eC (by kernel_rfl)) m _ _ _ h3
 obtain ⟨x4,rfl,_⟩:=(eC (by kernel_rfl)) m _ _ _ h4
 obtain ⟨x5,rfl,_⟩:=(eC (by kernel_rfl)) m _ _ _ h5
 obtain ⟨x6,rfl,_⟩:=(rN (by kernel_rfl)) m _ _ _ h6
 exact ⟨⟨x0,x1,x2,x3,x4,x5,x6⟩,rfl,bulk_one _⟩
theorem Gv (n:Nat):Opn enc prog w base sp held 93 Deputy.rp (fun _=>1) n:=by
 intro cs d ps h
 obtain ⟨m,ds,rfl,rfl,c0,_,d0,_,p0,rfl,rfl,h0,c1,_,d1,_,p1,rfl,rfl,h1,c2,_,d2,_,p2,rfl,rfl,h2,c3,_,d3,_,p3,rfl,rfl,h3,c4,_,d4,_,p4,rfl,rfl,h4,c5,_,d5,_,p5,rfl,rfl,h5,c6,_,d6,_,p6,rfl,rfl,h6,c7,_,d7,_,p7,rfl,rfl,h7,c8,_,d8,_,p8,rfl,rfl,h8,c9,_,d9,_,p9,rfl,rfl,h9,rfl,rfl⟩:=kM (fs:=_) underlying93 (by kernel_rfl) h
 obtain ⟨x0,rfl,_⟩:=(eC (by kernel_rfl)) m _ _ _ h0
 obtain ⟨x1,rfl,_⟩:=(eC (by kernel_rfl)) m _ _ _ h1
 obtain ⟨x2,rfl,_⟩:=(eC (by kernel_rfl)) m _ _ _ h2
 obtain ⟨x3,rfl,_⟩:=(eC (by kernel_rfl)) m _ _ _ h3
 obtain ⟨x4,rfl,_⟩:=(eC (by kernel_rfl)) m _ _ _ h4
 obtain ⟨x5,rfl,_⟩:=(eC (by kernel_rfl)) m _ _ _ h5
 obtain ⟨x6,rfl,_⟩:=(eC (by kernel_rfl)) m _ _ _ h6
 obtain ⟨x7,rfl,_⟩:=(eC (by kernel_rfl)) m _ _ _ h7
 obtain ⟨x8,rfl,_⟩:=(eC (by kernel_rfl)) m _ _ _ h8
 obtain ⟨x9,rfl,_⟩:=(rN (by kernel_rfl)) m _ _ _ h9
 exact ⟨⟨x0,x1,x2,x3,x4,x5,x6,x7,x8,x9⟩,rfl,bulk_one _⟩
theorem DZ (n:Nat):Opn enc prog w base sp held 97 Interest.rp (fun _=>1) n:=by
 intro cs d ps h
 obtain ⟨m,ds,rfl,rfl,c0,_,d0,_,p0,rfl,rfl,h0,c1,_,d1,_,p1,rfl,rfl,h1,c2,_,d2,_,p2,rfl,rfl,h2,c3,_,d3,_,p3,rfl,rfl,h3,c4,_,d4,_,p4,rfl,rfl,h4,c5,_,d5,_,p5,rfl,rfl,h5,c6,_,d6,_,p6,rfl,rfl,h6,rfl,rfl⟩:=kM (fs:=_) underlying97 (by kernel_rfl) h
 obtain ⟨x0,rfl,_⟩:=(eC (by kernel_rfl)) m _ _ _ h0
 obtain ⟨x1,rfl,_⟩:=(eC (by kernel_rfl)) m _ _ _ h1
 obtain ⟨x2,rfl,_⟩:=(eC (by kernel_rfl)) m _ _ _ h2
 obtain ⟨x3,rfl,_⟩:=(eC (by kernel_rfl)) m _ _ _ h3
 obtain ⟨x4,rfl,_⟩:=(eC (by kernel_rfl)) m _ _ _ h4
 obtain ⟨x5,rfl,_⟩:=(rN (by kernel_rfl)) m _ _ _ h5
 obtain ⟨x6,rfl,_⟩:=(rN (by kernel_rfl)) m _ _ _ h6
 exact ⟨⟨x0,x1,x2,x3,x4,x5,x6⟩,rfl,bulk_one _⟩
theorem Gx (n:Nat):Opn enc prog w base sp held 101 Budget.rp (fun _=>1) n:=by
 intro cs d ps h
 obtain ⟨m,ds,rfl,rfl,c0,_,d0,_,p0,rfl,rfl,h0,c1,_,d1,_,p1,rfl,rfl,h1,c2,_,d2,_,p2,rfl,rfl,h2,c3,_,d3,_,p3,rfl,rfl,h3,c4,_,d4,_,p4,rfl,rfl,h4,c5,_,d5,_,p5,rfl,rfl,h5,c6,_,d6,_,p6,rfl,rfl,h6,c7,_,d7,_,p7,rfl,rfl,h7,rfl,rfl⟩:=kM (fs:=_) underlying101 (by kernel_rfl) h
 obtain ⟨x0,rfl,_⟩:=(eC (by kernel_rfl)) m _ _ _ h0
 obtain ⟨x1,rfl,_⟩:=(eC (by kernel_rfl)) m _ _ _ h1
 obtain ⟨x2,rfl,_⟩:=(eC (by kernel_rfl)) m _ _ _ h2
 obtain ⟨x3,rfl,_⟩:=(eC (by kernel_rfl)) m _ _ _ h3
 obtain ⟨x4,rfl,_⟩:=(eC (by kernel_rfl)) m _ _ _ h4
 obtain ⟨x5,rfl,_⟩:=(eC (by kernel_rfl)) m _ _ _ h5
 obtain ⟨x6,rfl,_⟩:=(eC (by kernel_rfl)) m _ _ _ h6
 obtain ⟨x7,rfl,_⟩:=(rN (by kernel_rfl)) m _ _ _ h7
 exact ⟨⟨x0,x1,x2,x3,x4,x5,x6,x7⟩,rfl,bulk_one _⟩
abbrev Expr.hold (x:Expr):Nat:=x.dep
theorem Fa (n:Nat):Opn enc prog w base sp held 62 Expr.rp Expr.hold n:=by
 induction n using Nat.strongRecOn with
 | _ n ih=>
 intro cs d ps h
 obtain ⟨m,ds,rfl,rfl,c0,_,d0,_,p0,rfl,rfl,h0,c1,_,d1,_,p1,rfl,rfl,h1,c2,_,d2,_,p2,rfl,rfl,h2,c3,_,d3,_,p3,rfl,rfl,h3,c4,_,d4,_,p4,rfl,rfl,h4,rfl,rfl⟩:=kM (fs:=_) underlying62 (by kernel_rfl) h
 obtain ⟨x0,rfl,_⟩:=(eC (by kernel_rfl)) m _ _ _ h0
 obtain ⟨x1,rfl,_⟩:=(eC (by kernel_rfl)) m _ _ _ h1
 obtain ⟨x2,rfl,_⟩:=(eC (by kernel_rfl)) m _ _ _ h2
 obtain ⟨x3,rfl,_⟩:=(xa (by kernel_rfl)) m _ _ _ h3
 obtain ⟨b4,k4,x4,rfl,o4,q4⟩:=jZ kk (by kernel_rfl) (by decide) (fun k hk=>ih k (by omega)) h4
 refine ⟨Expr.mk x0 x1 x2 x3 x4,⟨⟨b4,k4⟩,rfl,Expr.ok.of o4⟩,?_⟩
 rw [Hn] at q4
 simp only [Expr.hold,Expr.dep,YtpplkjhgggjaoaaGreatDoor.Rows.uptoBulk,YtpplkjhgggjaoaaGreatDoor.Rows.uptoBulkAll] at *
 omega
def Rule.hold (x:Rule):Nat:=Expr.hold x.Expr+1
theorem J8 (n:Nat):Opn enc prog w base sp held 79 Rule.rp Rule.hold n:=by
 intro cs d ps h
 obtain ⟨m,ds,rfl,rfl,c0,_,d0,_,p0,rfl,rfl,h0,c1,_,d1,_,p1,rfl,rfl,h1,c2,_,d2,_,p2,rfl,rfl,h2,c3,_,d3,_,p3,rfl,rfl,h3,rfl,rfl⟩:=kM (fs:=_) underlying79 (by kernel_rfl) h
 obtain ⟨x0,rfl,_⟩:=(xa (by kernel_rfl)) m _ _ _ h0
 obtain ⟨x1,rfl,_⟩:=(eC (by kernel_rfl)) m _ _ _ h1
 obtain ⟨x2,rfl,_⟩:=(eC (by kernel_rfl)) m _ _ _ h2
 obtain ⟨x3,⟨r3,rfl,o3⟩,q3⟩:=Fa m _ _ _ h3
 refine ⟨⟨x0,x1,x2,x3⟩,⟨⟨r3⟩,rfl,⟨o3⟩⟩,?_⟩
 simp only [Rule.hold,YtpplkjhgggjaoaaGreatDoor.Rows.uptoBulk,YtpplkjhgggjaoaaGreatDoor.Rows.uptoBulkAll]
 omega
def Policy.hold (x:Policy):Nat:=szL (fun _=>1) x.Kinds+szL (fun _=>1) x.Offices+szL Rule.hold x.Rules+Expr.hold x.Change+1
theorem Gu (n:Nat):Opn enc prog w base sp held 64 Policy.rp Policy.hold n:=by
 intro cs d ps h
 obtain ⟨m,ds,rfl,rfl,c0,_,d0,_,p0,rfl,rfl,h0,c1,_,d1,_,p1,rfl,rfl,h1,c2,_,d2,_,p2,rfl,rfl,h2,c3,_,d3,_,p3,rfl,rfl,h3,c4,_,d4,_,p4,rfl,rfl,h4,c5,_,d5,_,p5,rfl,rfl,h5,rfl,rfl⟩:=kM (fs:=_) Hi (by kernel_rfl) h
 obtain ⟨x0,rfl,_⟩:=(xa (by kernel_rfl)) m _ _ _ h0
 obtain ⟨b1,k1,x1,rfl,o1,q1⟩:=jZ xQ (by kernel_rfl) (by decide) (fun k _=>(xa (by kernel_rfl)) k) h1
 obtain ⟨b2,k2,x2,rfl,o2,q2⟩:=jZ xQ (by kernel_rfl) (by decide) (fun k _=>(xa (by kernel_rfl)) k) h2
 obtain ⟨b3,k3,x3,rfl,o3,q3⟩:=jZ si (by kernel_rfl) (by decide) (fun k _=>J8 k) h3
 obtain ⟨x4,⟨r4,rfl,o4⟩,q4⟩:=Fa m _ _ _ h4
 obtain ⟨x5,rfl,_⟩:=(eC (by kernel_rfl)) m _ _ _ h5
 refine ⟨⟨x0,x1,x2,x3,x4,x5⟩,⟨⟨b1,k1,b2,k2,b3,k3,r4⟩,rfl,⟨o1,o2,o3,o4⟩⟩,?_⟩
 simp only [Policy.hold,YtpplkjhgggjaoaaGreatDoor.Rows.uptoBulk,YtpplkjhgggjaoaaGreatDoor.Rows.uptoBulkAll]
 omega
def Version.hold (x:Version):Nat:=Policy.hold x.Policy+1
theorem E9 (n:Nat):Opn enc prog w base sp held 105 Version.rp Version.hold n:=by
 intro cs d ps h
 obtain ⟨m,ds,rfl,rfl,c0,_,d0,_,p0,rfl,rfl,h0,c1,_,d1,_,p1,rfl,rfl,h1,c2,_,d2,_,p2,rfl,rfl,h2,c3,_,d3,_,p3,rfl,rfl,h3,rfl,rfl⟩:=kM (fs:=_) underlying105 (by kernel_rfl) h
 obtain ⟨x0,rfl,_⟩:=(eC (by kernel_rfl)) m _ _ _ h0
 obtain ⟨x1,rfl,_⟩:=(eC (by kernel_rfl)) m _ _ _ h1
 obtain ⟨x2,rfl,_⟩:=(eC (by kernel_rfl)) m _ _ _ h2
 obtain ⟨x3,⟨r3,rfl,o3⟩,q3⟩:=Gu m _ _ _ h3
 refine ⟨⟨x0,x1,x2,x3⟩,⟨⟨r3⟩,rfl,⟨o3⟩⟩,?_⟩
 simp only [Version.hold,YtpplkjhgggjaoaaGreatDoor.Rows.uptoBulk,YtpplkjhgggjaoaaGreatDoor.Rows.uptoBulkAll]
 omega
def Document.hold (x:Document):Nat:=szL (fun _=>1) x.Parties+szL (fun _=>1) x.Revokes+szL (fun _=>1) x.Needs+1
theorem D0 (n:Nat):Opn enc prog w base sp held 51 Document.rp Document.hold n:=by
 intro cs d ps h
 obtain ⟨m,ds,rfl,rfl,c0,_,d0,_,p0,rfl,rfl,h0,c1,_,d1,_,p1,rfl,rfl,h1,c2,_,d2,_,p2,rfl,rfl,h2,c3,_,d3,_,p3,rfl,rfl,h3,c4,_,d4,_,p4,rfl,rfl,h4,c5,_,d5,_,p5,rfl,rfl,h5,c6,_,d6,_,p6,rfl,rfl,h6,c7,_,d7,_,p7,rfl,rfl,h7,c8,_,d8,_,p8,rfl,rfl,h8,c9,_,d9,_,p9,rfl,rfl,h9,rfl,rfl⟩:=kM (fs:=_) underlying51 (by kernel_rfl) h
 obtain ⟨x0,rfl,_⟩:=(eC (by kernel_rfl)) m _ _ _ h0
 obtain ⟨x1,rfl,_⟩:=(eC (by kernel_rfl)) m _ _ _ h1
 obtain ⟨x2,rfl,_⟩:=(eC (by kernel_rfl)) m _ _ _ h2
 obtain ⟨x3,rfl,_⟩:=(eC (by kernel_rfl)) m _ _ _ h3
 obtain ⟨x4,rfl,_⟩:=(eC (by kernel_rfl)) m _ _ _ h4
 obtain ⟨x5,rfl,_⟩:=(eC (by kernel_rfl)) m _ _ _ h5
 obtain ⟨b6,k6,x6,rfl,o6,q6⟩:=jZ fa (by kernel_rfl) (by decide) (fun k _=>(eC (by kernel_rfl)) k) h6
 obtain ⟨b7,k7,x7,rfl,o7,q7⟩:=jZ fa (by kernel_rfl) (by decide) (fun k _=>(eC (by kernel_rfl)) k) h7
 obtain ⟨b8,k8,x8,rfl,o8,q8⟩:=jZ fa (by kernel_rfl) (by decide) (fun k _=>(eC (by kernel_rfl)) k) h8
 obtain ⟨x9,rfl⟩:=Iw underlying49 Ng (by kernel_rfl) (by kernel_rfl) h9
 refine ⟨⟨x0,x1,x2,x3,x4,x5,x6,x7,x8,x9⟩,⟨⟨b6,k6,b7,k7,b8,k8⟩,rfl,⟨o6,o7,o8⟩⟩,?_⟩
 simp only [Document.hold,YtpplkjhgggjaoaaGreatDoor.Rows.uptoBulk,YtpplkjhgggjaoaaGreatDoor.Rows.uptoBulkAll]
 omega
theorem D1 (n:Nat):Opn enc prog w base sp held 81 Approval.rp (fun _=>1) n:=by
 intro cs d ps h
 obtain ⟨m,ds,rfl,rfl,c0,_,d0,_,p0,rfl,rfl,h0,c1,_,d1,_,p1,rfl,rfl,h1,c2,_,d2,_,p2,rfl,rfl,h2,c3,_,d3,_,p3,rfl,rfl,h3,c4,_,d4,_,p4,rfl,rfl,h4,c5,_,d5,_,p5,rfl,rfl,h5,c6,_,d6,_,p6,rfl,rfl,h6,c7,_,d7,_,p7,rfl,rfl,h7,rfl,rfl⟩:=kM (fs:=_) underlying81 (by kernel_rfl) h
 obtain ⟨x0,rfl,_⟩:=(eC (by kernel_rfl)) m _ _ _ h0
 obtain ⟨x1,rfl,_⟩:=(eC (by kernel_rfl)) m _ _ _ h1
 obtain ⟨x2,rfl,_⟩:=(eC (by kernel_rfl)) m _ _ _ h2
 obtain ⟨x3,rfl,_⟩:=(eC (by kernel_rfl)) m _ _ _ h3
 obtain ⟨x4,rfl,_⟩:=(eC (by kernel_rfl)) m _ _ _ h4
 obtain ⟨x5,rfl,_⟩:=(eC (by kernel_rfl)) m _ _ _ h5
 obtain ⟨x6,rfl,_⟩:=(eC (by kernel_rfl)) m _ _ _ h6
 obtain ⟨x7,rfl,_⟩:=(rN (by kernel_rfl)) m _ _ _ h7
 exact ⟨⟨x0,x1,x2,x3,x4,x5,x6,x7⟩,rfl,bulk_one _⟩
def Register.hold (x:Register):Nat:=szL (fun _=>1) x.Appoints+szL (fun _=>1) x.Deputies+szL (fun _=>1) x.Interests+szL (fun _=>1) x.Budgets+szL Version.hold x.Versions+szL Document.hold x.Docs+szL (fun _=>1) x.Approvals+1
theorem opn_Register (n:Nat):Opn enc prog w base sp held 30 Register.rp Register.hold n:=by
 intro cs d ps h
 obtain ⟨m,ds,rfl,rfl,c0,_,d0,_,p0,rfl,rfl,h0,c1,_,d1,_,p1,rfl,rfl,h1,c2,_,d2,_,p2,rfl,rfl,h2,c3,_,d3,_,p3,rfl,rfl,h3,c4,_,d4,_,p4,rfl,rfl,h4,c5,_,d5,_,p5,rfl,rfl,h5,c6,_,d6,_,p6,rfl,rfl,h6,rfl,rfl⟩:=kM (fs:=_) Jp (by kernel_rfl) h
 obtain ⟨b0,k0,x0,rfl,o0,q0⟩:=jZ Al (by kernel_rfl) (by decide) (fun k _=>Fb k) h0
 obtain ⟨b1,k1,x1,rfl,o1,q1⟩:=jZ tJ (by kernel_rfl) (by decide) (fun k _=>Gv k) h1
 obtain ⟨b2,k2,x2,rfl,o2,q2⟩:=jZ sU (by kernel_rfl) (by decide) (fun k _=>DZ k) h2
 obtain ⟨b3,k3,x3,rfl,o3,q3⟩:=jZ vy (by kernel_rfl) (by decide) (fun k _=>Gx k) h3
 obtain ⟨b4,k4,x4,rfl,o4,q4⟩:=jZ vf (by kernel_rfl) (by decide) (fun k _=>E9 k) h4
 obtain ⟨b5,k5,x5,rfl,o5,q5⟩:=jZ oL (by kernel_rfl) (by decide) (fun k _=>D0 k) h5
 obtain ⟨b6,k6,x6,rfl,o6,q6⟩:=jZ tI (by kernel_rfl) (by decide) (fun k _=>D1 k) h6
 refine ⟨⟨x0,x1,x2,x3,x4,x5,x6⟩,⟨⟨b0,k0,b1,k1,b2,k2,b3,k3,b4,k4,b5,k5,b6,k6⟩,rfl,⟨o0,o1,o2,o3,o4,o5,o6⟩⟩,?_⟩
 simp only [Register.hold,YtpplkjhgggjaoaaGreatDoor.Rows.uptoBulk,YtpplkjhgggjaoaaGreatDoor.Rows.uptoBulkAll]
 omega
end openings
theorem Mj {p:Policy} (h:Policy.hold p≤1048576):smP p:=by
 unfold Policy.hold Expr.hold at h
 have h1:=nh (f:=fun _:ByteArray=>1) (fun _=>Nat.le_refl _) p.Kinds
 have h2:=nh (f:=fun _:ByteArray=>1) (fun _=>Nat.le_refl _) p.Offices
 have h3:=nh (f:=Rule.hold) (fun x=>by unfold Rule.hold;omega) p.Rules
 refine ⟨by omega,fun r hr=>?_,by omega,by omega,by omega⟩
 have h4:=DN (f:=Rule.hold) hr
 unfold Rule.hold Expr.hold at h4
 have:szL (fun x=>Rule.hold x) p.Rules=szL Rule.hold p.Rules:=rfl
 unfold Rule.hold Expr.hold at this h
 omega
theorem Mi {l:List Version} (h:szL Version.hold l≤1048576):smV l:=by
 have h1:=nh (f:=Version.hold) (fun x=>by unfold Version.hold;omega) l
 refine ⟨by omega,fun v hv=>Mj ?_⟩
 have h2:=DN (f:=Version.hold) hv
 have h3:Policy.hold v.Policy≤Version.hold v:=by unfold Version.hold;omega
 omega
theorem smR_of {r:Register} (h:Register.hold r≤1048576):smR r:=by
 unfold Register.hold at h
 have h1:=nh (f:=fun _:Appoint=>1) (fun _=>Nat.le_refl _) r.Appoints
 have h2:=nh (f:=fun _:Deputy=>1) (fun _=>Nat.le_refl _) r.Deputies
 have h3:=nh (f:=fun _:Interest=>1) (fun _=>Nat.le_refl _) r.Interests
 have h4:=nh (f:=fun _:Budget=>1) (fun _=>Nat.le_refl _) r.Budgets
 have h5:=nh (f:=Document.hold) (fun x=>by unfold Document.hold;omega) r.Docs
 have h6:=nh (f:=fun _:Approval=>1) (fun _=>Nat.le_refl _) r.Approvals
 exact ⟨Mi (by omega),by omega,by omega,by omega,by omega,by omega,by omega⟩
end Go.Sg
namespace Go.Sg
def M0 (P:Program) (f:FuncId) (X:Cx) (v:Value) (cs:List Frame) (Φ : Machine→Prop):Prop:=
 X.M=[]∧∀ fr w',RowKit.Below X.w0.heap.size X.w0 w'→fr.fn=f→fr.leaving P w' (.returned v)→To P Φ (lone fr cs w')
theorem F5 {P:Program} {f:FuncId} {fn:Func} {c:Code} {n:Nat} {args:List Value} {h:HF} {v:Value} {w:World} (hp:Pre h [] w)
  (hf:P.funcs[f]? = some fn) (hb:fn.body=some c) (hn:fn.ntmps=n) (hle:Nat.ble args.length n=true)
  (t:∀ X:Cx,X.M=([]:LH).map (·.1)→X.h0=h→TT P (bodyFrame f) n [.code c] (M0 P f X v) (envArgs args) [] X h []):Calls P f args.toArray w fun e w'=>e=.returned v∧RowKit.Below w.heap.size w w':=by
 intro cs
 have hle:=Nat.le_of_ble_eq_true hle
 have henter:Frame.enter P f args.toArray .normal=(bodyFrame f).atR { tmps:=args.toArray++Array.replicate (n - args.length) undef,defers:=[] } [.code c]:=by
  simp [Frame.enter,Frame.atR,hf,hb,hn,bodyFrame]
 obtain ⟨m',s,w',fr,rfl,h1,h2,h3⟩:=t ⟨w,h,[]⟩ rfl rfl w (St.start hp) { tmps:=args.toArray++Array.replicate (n - args.length) undef,defers:=[] } cs
  (fun m=>∃ w' fr,m=lone fr cs w'∧RowKit.Below w.heap.size w w'∧fr.fn=f∧fr.leaving P w' (.returned v)) (by simp;omega) (m4 _ _) rfl
  ⟨rfl,fun fr w' hb hfn hl=>.now ⟨w',fr,rfl,hb,hfn,hl⟩⟩
 refine ⟨.returned v,w',fr,⟨rfl,h1⟩,?_,h2,h3⟩
 rw [henter];exact s
section ending
variable {P:Program} {f:FuncId} {n:Nat} {k:List Item} {e:Env} {X:Cx} {h:HF} {L:LH} {fn:Func}
theorem ng {rs:List ResultVar} {v:Value} {hh:HF} (vs:List Value) (hf:P.funcs[f]? = some fn) (hr:fn.results=rs.toArray) (_:X.h0=hh) (hv:qZ P e L rs vs) (hvv:retVal vs=v):
  TT P (bodyFrame f) n (.code .ret::k) (M0 P f X v) e [] X h L:=by
 intro w hw a cs Φ hn he hds hF
 exact .step (stepR_ret rfl) (hF.2 _ w (hw.below hF.1) rfl ⟨rfl,hds,rfl,fn,hf,hvv ▸ lk hr hv a he w hw⟩)
end ending
end Go.Sg
namespace Go.Sg
open Go.Proofs Go.Proofs.Tryz
theorem IE {P:Program} {w:World} {sp:Nat→Bool} {m:Nat} {E:TypeId} {ps rs:Array TypeId} {vd:Bool} {c:List Value} {b:UInt8} {r:List UInt8} {p:List MemPlace} (hE:P.underlying E=some (.func ps rs vd))
  (h:DataW.trod (funcToken P) P w 0 sp true m E c=some (.held (b::r),p)):∃ f fn,c=[.func (.func f) #[] #[]]∧P.funcs[f]? = some fn∧P.funcNamed fn.name=some f∧fn.name.toUTF8.data.toList=b::r:=by
 cases m with
 | zero=>simp [DataW.trod] at h
 | succ m=>
  unfold DataW.trod at h
  rw [hE] at h
  split at h <;> try (simp_all;done)
  next fn fi ca _ _=>
   simp only [if_true,Option.some.injEq,Prod.mk.injEq,DataW.held.injEq] at h
   obtain ⟨f,g,e,h1,h2,h3⟩:=funcToken_tells h.1
   exact ⟨f,g,by rw [e],h1,h2,h3⟩
theorem Lv {P:Program} {k:FuncId} {g:Func} {f:FuncId} {fn:Func} {l:List UInt8} (hg:P.funcNamed g.name=some k) (hl:g.name.toUTF8.data.toList=l) (h2:P.funcNamed fn.name=some f) (h3:fn.name.toUTF8.data.toList=l):f=k:=by
 have:fn.name=g.name:=bytes_inj (h3.trans hl.symm)
 rw [this,hg] at h2
 exact (Option.some.inj h2).symm
theorem Jw {α : Type} {l:List α} {i:Nat} {x:α} (h:(l.drop i).take 1=[x]):l[i]? = some x:=by
 have:=congrArg (·[0]?) h
 simpa using this
theorem kinds_of {W:World} (hL:laidMetH prog YtpplkjhgggjaoaaGreatDoor.Rows.judgeReasonUptoRow.laid W):Kinds (hOf W):=by
 obtain ⟨d, hd⟩ : ∃ d, (YtpplkjhgggjaoaaGreatDoor.Rows.laid_signatory_policies_kinds : DataW Unit) = .iface "func table" d := ⟨_, rfl⟩
 obtain ⟨g,t,cs,fuel,p,hg,ht,hv,hr⟩:=hL.funcs (d:=d) (by rw [← hd];exact List.mem_cons_self ..)
 unfold World.var? at hv
 rw [hg] at hv
 obtain rfl:g=0:=Option.some.inj (hg.symm.trans (by kernel_rfl))
 obtain rfl:t=365:=Option.some.inj (ht.symm.trans (by kernel_rfl))
 obtain ⟨xs,m,_,hx,hl,hlen,hf⟩:=DataW.trod_array (n:=5) (e:=168) (by kernel_rfl) hr
 rw [show prog.cellsOf 365=5 by kernel_rfl] at hl
 rw [show prog.cellsOf 168=1 by kernel_rfl] at hf
 unfold YtpplkjhgggjaoaaGreatDoor.Rows.laid_signatory_policies_kinds at hd
 cases hd
 simp only [DataW.funcsOut,DataW.funcsOutAll,Prod.mk.injEq] at hx
 match xs,hlen with
 | [x0,x1,x2,x3,x4],_=>
  simp only [List.map_cons,List.map_nil,beq_self_eq_true,if_true,DataW.agg.injEq,List.cons.injEq,and_true] at hx
  have key:∀ (i:Nat) (x:DataW (List UInt8)×List MemPlace) (b:UInt8) (r:List UInt8) (k:FuncId) (fk:Func),i < 5→[x0,x1,x2,x3,x4][i]? = some x→DataW.held (b::r)=x.1→prog.funcNamed fk.name=some k→fk.name.toUTF8.data.toList=b::r→cs.toList[i]? = some (.func (.func k) #[] #[]):=by
   intro i x b r k fk hi hxi hb hk hn
   have h0:=hf i hi
   rw [hxi,Nat.mul_one] at h0
   obtain ⟨f,fn,e,_,h2,h3⟩:=IE (P:=prog) (E:=168) underlying168 (h0.trans (show some x=some (DataW.held (b::r),x.2) by rw [hb]))
   obtain rfl:=Lv hk hn h2 h3
   exact Jw e
  obtain ⟨⟨e0,e1,e2,e3,e4⟩,_⟩:=hx
  have k0:=key 0 x0 _ _ 405 Tryz.f405 (by omega) rfl e0 (by kernel_rfl) (by kernel_rfl)
  have k1:=key 1 x1 _ _ 406 Tryz.f406 (by omega) rfl e1 (by kernel_rfl) (by kernel_rfl)
  have k2:=key 2 x2 _ _ 407 Tryz.f407 (by omega) rfl e2 (by kernel_rfl) (by kernel_rfl)
  have k3:=key 3 x3 _ _ 408 Tryz.f408 (by omega) rfl e3 (by kernel_rfl) (by kernel_rfl)
  have k4:=key 4 x4 _ _ 409 Tryz.f409 (by omega) rfl e4 (by kernel_rfl) (by kernel_rfl)
  have hcs:cs=kindsC.toArray:=by
   apply Array.toList_inj.1
   apply List.ext_getElem?
   intro i
   match i with
   | 0=>exact k0
   | 1=>exact k1
   | 2=>exact k2
   | 3=>exact k3
   | 4=>exact k4
   | i+5=>rw [List.getElem?_eq_none (by omega)];rfl
  simp only [Option.bind_some] at hv
  split at hv
  ·next c T fz e=>
   cases hv
   exact ⟨T,fz,by rw [← hcs];exact e⟩
  ·cases hv
end Go.Sg
namespace Go.Sg
open Go.ChangeShapes Go.WideShapes Go.RowKit
variable {H:Type} {enc:TypeId×Value→H} {P:Program}
theorem post_below {f:Func} {s:ChangeSpec} {apart fresh handsOn again:Bool} {W W':World} {args:Array Value} {v:Value} {ds gs:List (DataW H)} {before pa pv:List MemPlace}
  (hW:DataW.Whole enc P f.params.toList s.vars apart W args.toList ds gs before)
  (hres:∀ (b:Nat) (sp:Nat→Bool) (hd:Bool),DataW.TrodAll enc P W' b sp hd f.resultTypes.toList (v.resultList f.resultTypes.size) (s.fn H (ds++gs)).results [])
  (hargs:∀ sp:Nat→Bool,(∀ p∈before,sp p.block=true)→DataW.TrodAll enc P W' 0 sp true f.params.toList args.toList (s.fn H (ds++gs)).args pa)
  (hvars:∀ sp:Nat→Bool,(∀ p∈before,sp p.block=true)→DataW.TrodVars enc P W' sp s.vars (s.fn H (ds++gs)).vars pv)
  (hps:before=pa++pv) (hb:Below W.heap.size W W')
  (hok:∀ (j:Nat) (t:TypeId) (r:Value),f.resultTypes[j]? = some t→(v.resultList f.resultTypes.size)[j]? = some r→Value.okWide P W' .any 0 t r):
  s.post enc P f apart fresh handsOn again W args v W':=by
 have hlt:=hW.lt
 have hold:∀ p∈before,(fun b=>decide (b < W.heap.size)) p.block=true:=fun p hp=>by simpa using hlt p hp
 refine ⟨ds,gs,before,[],pa,pv,hW,hres _ _ _,hargs _ hold,hvars _ hold,World.keptBut_mono (fun p hp=>⟨hp,?_⟩) (hb.frame (·∈before)),fun _=>?_⟩
 ·rw [hps,List.mem_append] at hp
  exact Or.inr hp
 ·obtain ⟨_,_,_,_,_,hz,hn⟩:=hW
  refine ⟨hok,_,_,([]++pa)++pv,⟨[]++pa,pv,trodAll_append (hargs _ (fun _ _=>rfl)) (hres _ _ _),hvars _ (fun _ _=>rfl),rfl,?_,?_⟩,?_⟩
  ·intro b off hp
   have hp':MemPlace.cell b off∈before:=by rw [hps];simpa using hp
   rw [hb.frozen (p:=⟨b,off,none⟩) (hlt _ hp')]
   exact hz b off hp'
  ·intro ha
   have:=hn ha
   rw [hps] at this
   simpa using this
  ·intro p hp _
   rw [hps]
   simpa using hp
theorem stays {t:TypeId} (hl:laidOutB P=true) (hr:P.readableRec t=true) (hrow:decide (t < P.types.size)=true) {W W':World} {v:Value} {d:DataW H} {ps before:List MemPlace} (h:DataW.Trod enc P W 0 (fun _=>true) true t v d ps)
  (hb:Below W.heap.size W W') (hlt:∀ x∈before,x.block < W.heap.size) (hm:∀ x∈ps,x∈before) {sp:Nat→Bool} (hsp:∀ p∈before,sp p.block=true):DataW.Trod enc P W' 0 sp true t v d ps:=
 WideElems.Trod_stays hl hr (of_decide_eq_true hrow) h (fun x hx=>hb.same (hlt x (hm x hx))) (fun x hx=>hsp _ (hm x hx))
end Go.Sg
namespace Go.Sg
theorem Gg {κ α : Type} {enc:κ→Value} {V:HF→Value→α→Prop} {h:HF}:∀ {es:List MapEntry} {m:List (κ×α)},nf enc V h es m→es.length=m.length
 | [],[],_=>rfl
 | _::_,(_,_)::_,⟨_,_,t⟩=>by simp [Gg t]
 | [],_::_,x=>x.elim
 | _::_,[],x=>x.elim
theorem E3 {P:Program} {e:Env} {X:Cx} {h:HF} {L:LH} {d:Option Nat} {ty:TypeId} {pos:String} {af:Array Edge} {g:Option (Nat×Bool)} {κ α : Type} [DecidableEq κ] {enc:κ→Value} {V:HF→Value→α→Prop} (i:Nat) {t kt vt:TypeId} {x:Operand} {bk:Nat} {o:Obj} {m:List (κ×α)}
  (hT:P.underlying t=some (.map kt vt)) (hx:e.ev x=.map (some bk)) (hL:nth L i=some (bk,o)) (hm:iL enc V h o m):
  ∀ w,St X h L w→(execOp e.ev ⟨d,.call ⟨.builtin .len,#[x],#[t]⟩,ty,pos,af,g⟩).run P w=.ok (.value (.int .i64 (m.length:Int))) w:=fun w hw=>by
 obtain ⟨m',hp,hn,es,c,rfl,hE,_⟩:=hm
 have hb:w.heap[bk]? = some (.map es.toArray c):=by
  rw [gP] at hL
  exact hw.own _ (List.mem_of_getElem? hL)
 have hl:es.length=m.length:=(Gg hE).trans hp.length_eq
 have hg:(getObj bk:Sem Obj).run P w=.ok (.map es.toArray c) w:=by simp [getObj,Sem.run,hb]
 simp only [execOp,resolve,invoke,builtin]
 simp [hx,Builtin.len_,run_underlying hT,hg,goInt,hl]
end Go.Sg
namespace Go.Sg
open Go.Proofs Go.Proofs.Tryz
theorem ty56:tySz prog 56=some (1,false):=kr
theorem ty240:tySz prog 240=some (1,false):=kr
theorem ty162:tySz prog 162=some (1,false):=kr
theorem ty182:tySz prog 182=some (2,true):=kr
theorem ty31:tySz prog 31=some (1,false):=kr
theorem ty249:tySz prog 249=some (1,false):=kr
theorem ty3:tySz prog 3=some (1,false):=kr
theorem zc182:zeroC prog 182=some [.int .i64 0,.int .i64 0]:=kr
theorem bytes182:bytesOf prog 182=some 16:=kr
theorem zc3:zeroC prog 3=some [.int .i64 0]:=kr
theorem bytes3:bytesOf prog 3=some 8:=kr
theorem zc37:zeroC prog 37=some [.int .i64 0]:=kr
theorem ty37:tySz prog 37=some (1,false):=kr
theorem zc358:zeroC prog 358=some [.int .i64 0]:=kr
theorem ty358:tySz prog 358=some (1,true):=kr
theorem Kw:fldOf prog 358 0=some 0:=kr
theorem ty196:tySz prog 196=some (2,true):=kr
theorem ty194:tySz prog 194=some (1,false):=kr
theorem ty193:tySz prog 193=some (1,false):=kr
theorem ty197:tySz prog 197=some (1,false):=kr
theorem ty97:tySz prog 97=some (7,true):=kr
theorem ty24:tySz prog 24=some (1,false):=kr
theorem ty4:tySz prog 4=some (1,false):=kr
theorem ty26:tySz prog 26=some (1,false):=kr
theorem zc196:zeroC prog 196=some [.slice none 0 0,.int .i64 0]:=kr
theorem zc97:zeroC prog 97=some [.int .i64 0,.int .i64 0,.int .i64 0,.int .i64 0,.int .i64 0,.bool false,.bool false]:=kr
theorem zc193:zeroC prog 193=some [.map none]:=kr
theorem zc56:zeroC prog 56=some [.map none]:=kr
theorem zc194:zeroC prog 194=some [.chan none]:=kr
theorem zc197:zeroC prog 197=some [.nilFunc]:=kr
theorem zc31:zeroC prog 31=some [.slice none 0 0]:=kr
theorem zv4:zeroV prog 4=some (.bool false):=kr
theorem zv24:zeroV prog 24=some (.slice none 0 0):=kr
theorem zv196:zeroV prog 196=some (.agg (List.toArray [.slice none 0 0,.int .i64 0])):=kr
theorem bytes97:bytesOf prog 97=some 48:=kr
theorem bytes196:bytesOf prog 196=some 32:=kr
theorem KB:fldOf prog 196 0=some 0:=kr
theorem Ly:fldOf prog 97 0=some 0:=kr
theorem HQ:fldOf prog 97 3=some 3:=kr
theorem Lx:fldOf prog 97 4=some 4:=kr
theorem KC:fldOf prog 158 1=some 1:=kr
theorem zc238:zeroC prog 238=some [.slice none 0 0,.map none,.slice none 0 0,.slice none 0 0,.slice none 0 0,.map none]:=kr
theorem ty211:tySz prog 211=some (1,false):=kr
theorem zc211:zeroC prog 211=some [.pointer none]:=kr
theorem ty236:tySz prog 236=some (1,false):=kr
theorem ty57:tySz prog 57=some (1,false):=kr
theorem ty228:tySz prog 228=some (2,true):=kr
theorem zc228:zeroC prog 228=some [.slice none 0 0,.map none]:=kr
theorem ty51:tySz prog 51=some (41,true):=kr
theorem zc51:zeroC prog 51=some (.int .i64 0::.int .i64 0::.int .i64 0::.int .i64 0::.int .i64 0::.int .i64 0::.slice none 0 0::.slice none 0 0::.slice none 0 0::.int .u8 0::.int .u8 0::.int .u8 0::.int .u8 0::.int .u8 0::.int .u8 0::.int .u8 0::.int .u8 0::.int .u8 0::.int .u8 0::.int .u8 0::.int .u8 0::.int .u8 0::.int .u8 0::.int .u8 0::.int .u8 0::.int .u8 0::.int .u8 0::.int .u8 0::.int .u8 0::.int .u8 0::.int .u8 0::.int .u8 0::.int .u8 0::.int .u8 0::.int .u8 0::.int .u8 0::.int .u8 0::.int .u8 0::.int .u8 0::.int .u8 0::.int .u8 0::[]):=kr
theorem ty190:tySz prog 190=some (1,false):=kr
theorem bytes4:bytesOf prog 4=some 1:=kr
theorem FN:fldOf prog 238 0=some 0:=kr
theorem Ky:fldOf prog 238 1=some 2:=kr
theorem Kx:fldOf prog 238 2=some 3:=kr
theorem BQ:fldOf prog 238 3=some 4:=kr
theorem FM:fldOf prog 238 4=some 5:=kr
theorem KA:fldOf prog 228 0=some 0:=kr
theorem Kz:fldOf prog 228 1=some 1:=kr
theorem HV:fldOf prog 51 0=some 0:=kr
theorem LE:fldOf prog 51 7=some 7:=kr
theorem Ef:fldOf prog 51 8=some 8:=kr
theorem xw:fldOf prog 36 0=some 0:=kr
theorem HW:fldOf prog 36 1=some 1:=kr
theorem LF:fldOf prog 36 2=some 2:=kr
theorem xu:fldOf prog 36 3=some 3:=kr
theorem xy:fldOf prog 126 0=some 0:=kr
theorem xx:fldOf prog 126 1=some 1:=kr
theorem ty36:tySz prog 36=some (4,true):=kr
theorem ty126:tySz prog 126=some (2,true):=kr
theorem ty33:tySz prog 33=some (1,false):=kr
theorem ty123:tySz prog 123=some (50,true):=kr
theorem ty25:tySz prog 25=some (1,false):=kr
theorem ty32:tySz prog 32=some (1,false):=kr
theorem ty64:tySz prog 64=some (10,true):=kr
theorem zc36:zeroC prog 36=some [.int .i64 0,.int .i64 0,.slice none 0 0,.slice none 0 0]:=kr
theorem zc126:zeroC prog 126=some [.int .i64 0,.nilFunc]:=kr
theorem zc123:zeroC prog 123=some (.slice none 0 0::.slice none 0 0::.slice none 0 0::.slice none 0 0::.slice none 0 0::.slice none 0 0::.slice none 0 0::.int .i64 0::.int .i64 0::.int .i64 0::.int .i64 0::.int .i64 0::.int .i64 0::.slice none 0 0::.slice none 0 0::.slice none 0 0::.int .u8 0::.int .u8 0::.int .u8 0::.int .u8 0::.int .u8 0::.int .u8 0::.int .u8 0::.int .u8 0::.int .u8 0::.int .u8 0::.int .u8 0::.int .u8 0::.int .u8 0::.int .u8 0::.int .u8 0::.int .u8 0::.int .u8 0::.int .u8 0::.int .u8 0::.int .u8 0::.int .u8 0::.int .u8 0::.int .u8 0::.int .u8 0::.int .u8 0::.int .u8 0::.int .u8 0::.int .u8 0::.int .u8 0::.int .u8 0::.int .u8 0::.int .u8 0::.int .i64 0::.int .i64 0::[]):=kr
theorem zc64:zeroC prog 64=some [.string (⟨#[]⟩:ByteArray),.slice none 0 0,.slice none 0 0,.slice none 0 0,.int .i64 0,.int .i64 0,.int .i64 0,.string (⟨#[]⟩:ByteArray),.slice none 0 0,.int .i64 0]:=kr
theorem zc4:zeroC prog 4=some [.bool false]:=kr
theorem HX:fldOf prog 30 3=some 3:=kr
theorem LJ:fldOf prog 30 4=some 4:=kr
theorem LI:fldOf prog 30 5=some 5:=kr
theorem xB:fldOf prog 123 0=some 0:=kr
theorem nC:fldOf prog 123 1=some 7:=kr
theorem xA:fldOf prog 123 2=some 48:=kr
theorem xz:fldOf prog 123 3=some 49:=kr
theorem HU:fldOf prog 51 1=some 1:=kr
theorem Ae:fldOf prog 51 2=some 2:=kr
theorem HT:fldOf prog 51 3=some 3:=kr
theorem Lz:fldOf prog 89 2=some 2:=kr
theorem ty89:tySz prog 89=some (7,true):=kr
theorem zc89:zeroC prog 89=some [.int .i64 0,.int .i64 0,.int .i64 0,.int .i64 0,.int .i64 0,.int .i64 0,.bool false]:=kr
theorem ty93:tySz prog 93=some (10,true):=kr
theorem zc93:zeroC prog 93=some [.int .i64 0,.int .i64 0,.int .i64 0,.int .i64 0,.int .i64 0,.int .i64 0,.int .i64 0,.int .i64 0,.int .i64 0,.bool false]:=kr
theorem ty101:tySz prog 101=some (8,true):=kr
theorem zc101:zeroC prog 101=some [.int .i64 0,.int .i64 0,.int .i64 0,.int .i64 0,.int .i64 0,.int .i64 0,.int .i64 0,.bool false]:=kr
theorem ty62:tySz prog 62=some (5,true):=kr
theorem zc327:zeroC prog 327=some [.int .i64 0,.int .i64 0,.int .i64 0,.string (⟨#[]⟩:ByteArray),.slice none 0 0,.int .i64 0]:=kr
theorem ty60:tySz prog 60=some (1,false):=kr
theorem zc62:zeroC prog 62=some [.int .i64 0,.int .i64 0,.int .i64 0,.string (⟨#[]⟩:ByteArray),.slice none 0 0]:=kr
theorem ty327:tySz prog 327=some (6,true):=kr
theorem LC:fldOf prog 64 3=some 3:=kr
theorem ty59:tySz prog 59=some (1,false):=kr
theorem ty79:tySz prog 79=some (8,true):=kr
theorem zc79:zeroC prog 79=some [.string (⟨#[]⟩:ByteArray),.int .i64 0,.int .i64 0,.int .i64 0,.int .i64 0,.int .i64 0,.string (⟨#[]⟩:ByteArray),.slice none 0 0]:=kr
theorem LA:fldOf prog 79 3=some 3:=kr
theorem bytes62:bytesOf prog 62=some 64:=kr
theorem ty58:tySz prog 58=some (1,false):=kr
theorem LD:fldOf prog 64 1=some 1:=kr
theorem ty9:tySz prog 9=some (1,false):=kr
theorem LB:fldOf prog 79 2=some 2:=kr
theorem zc60:zeroC prog 60=some [.slice none 0 0]:=kr
theorem ty168:tySz prog 168=some (1,false):=kr
theorem bytes79:bytesOf prog 79=some 96:=kr
theorem ty105:tySz prog 105=some (13,true):=kr
theorem zc105:zeroC prog 105=some [.int .i64 0,.int .i64 0,.int .i64 0,.string (⟨#[]⟩:ByteArray),.slice none 0 0,.slice none 0 0,.slice none 0 0,.int .i64 0,.int .i64 0,.int .i64 0,.string (⟨#[]⟩:ByteArray),.slice none 0 0,.int .i64 0]:=kr
theorem FO:fldOf prog 105 3=some 3:=kr
theorem zv3:zeroV prog 3=some (.int .i64 0):=kr
theorem HS:fldOf prog 81 4=some 4:=kr
theorem Ad:fldOf prog 81 5=some 5:=kr
theorem HR:fldOf prog 81 6=some 6:=kr
theorem ty81:tySz prog 81=some (8,true):=kr
theorem zc81:zeroC prog 81=some [.int .i64 0,.int .i64 0,.int .i64 0,.int .i64 0,.int .i64 0,.int .i64 0,.int .i64 0,.bool false]:=kr
theorem LM:fldOf prog 30 0=some 0:=kr
theorem ty22:tySz prog 22=some (1,false):=kr
theorem LK:fldOf prog 30 1=some 1:=kr
theorem ty23:tySz prog 23=some (1,false):=kr
theorem ty27:tySz prog 27=some (1,false):=kr
theorem LG:fldOf prog 30 6=some 6:=kr
theorem ty28:tySz prog 28=some (1,false):=kr
theorem ty30:tySz prog 30=some (7,true):=kr
theorem zc274:zeroC prog 274=some [.int .i64 0,.int .i64 0,.int .i64 0,.int .i64 0]:=kr
theorem ty274:tySz prog 274=some (4,true):=kr
theorem zc28:zeroC prog 28=some [.slice none 0 0]:=kr
theorem zc270:zeroC prog 270=some [.map none]:=kr
theorem ty270:tySz prog 270=some (1,false):=kr
theorem zv81:zeroV prog 81=some (.agg (List.toArray [.int .i64 0,.int .i64 0,.int .i64 0,.int .i64 0,.int .i64 0,.int .i64 0,.int .i64 0,.bool false])):=kr
theorem eqg81:prog.eqGuardType prog.depth 81=false:=kr
theorem bytes81:bytesOf prog 81=some 64:=kr
theorem zv89:zeroV prog 89=some (.agg (List.toArray [.int .i64 0,.int .i64 0,.int .i64 0,.int .i64 0,.int .i64 0,.int .i64 0,.bool false])):=kr
theorem bytes93:bytesOf prog 93=some 80:=kr
theorem ty277:tySz prog 277=some (1,false):=kr
theorem zc279:zeroC prog 279=some [.int .i64 0,.int .i64 0,.int .i64 0,.int .i64 0]:=kr
theorem zv93:zeroV prog 93=some (.agg (List.toArray [.int .i64 0,.int .i64 0,.int .i64 0,.int .i64 0,.int .i64 0,.int .i64 0,.int .i64 0,.int .i64 0,.int .i64 0,.bool false])):=kr
theorem eqg93:prog.eqGuardType prog.depth 93=false:=kr
theorem ty223:tySz prog 223=some (1,false):=kr
theorem ty184:tySz prog 184=some (5,true):=kr
theorem zc223:zeroC prog 223=some [.nilFunc]:=kr
theorem zc277:zeroC prog 277=some [.map none]:=kr
theorem ty279:tySz prog 279=some (4,true):=kr
theorem zc184:zeroC prog 184=some [.int .i64 0,.int .i64 0,.int .i64 0,.int .i64 0,.int .i64 0]:=kr
theorem ty282:tySz prog 282=some (1,false):=kr
theorem zc284:zeroC prog 284=some [.int .i64 0,.int .i64 0,.bool false]:=kr
theorem zv97:zeroV prog 97=some (.agg (List.toArray [.int .i64 0,.int .i64 0,.int .i64 0,.int .i64 0,.int .i64 0,.bool false,.bool false])):=kr
theorem eqg97:prog.eqGuardType prog.depth 97=false:=kr
theorem zc282:zeroC prog 282=some [.map none]:=kr
theorem ty284:tySz prog 284=some (3,true):=kr
theorem zv105:zeroV prog 105=some (.agg (List.toArray [.int .i64 0,.int .i64 0,.int .i64 0,.string (⟨#[]⟩:ByteArray),.slice none 0 0,.slice none 0 0,.slice none 0 0,.int .i64 0,.int .i64 0,.int .i64 0,.string (⟨#[]⟩:ByteArray),.slice none 0 0,.int .i64 0])):=kr
theorem zc26:zeroC prog 26=some [.slice none 0 0]:=kr
theorem bytes105:bytesOf prog 105=some 184:=kr
theorem zv152:zeroV prog 152=some (.nilFunc):=kr
theorem ty111:tySz prog 111=some (5,true):=kr
theorem zc111:zeroC prog 111=some [.int .i64 0,.int .i64 0,.int .i64 0,.int .i64 0,.int .i64 0]:=kr
theorem zc267:zeroC prog 267=some [.int .i64 0,.int .i64 0]:=kr
theorem ty267:tySz prog 267=some (2,true):=kr
theorem zv101:zeroV prog 101=some (.agg (List.toArray [.int .i64 0,.int .i64 0,.int .i64 0,.int .i64 0,.int .i64 0,.int .i64 0,.int .i64 0,.bool false])):=kr
theorem eqg101:prog.eqGuardType prog.depth 101=false:=kr
theorem bytes101:bytesOf prog 101=some 64:=kr
theorem zv31:zeroV prog 31=some (.slice none 0 0):=kr
theorem zc158:zeroC prog 158=some [.int .i64 0,.int .i64 0]:=kr
theorem ty158:tySz prog 158=some (2,true):=kr
theorem ty68:tySz prog 68=some (1,false):=kr
theorem bytes158:bytesOf prog 158=some 16:=kr
theorem ty67:tySz prog 67=some (1,false):=kr
theorem ty167:tySz prog 167=some (3,true):=kr
theorem zc330:zeroC prog 330=some [.nilFunc]:=kr
theorem ty330:tySz prog 330=some (1,false):=kr
theorem zc261:zeroC prog 261=some [.nilFunc,.nilFunc,.nilFunc,.nilFunc,.nilFunc]:=kr
theorem ty260:tySz prog 260=some (1,false):=kr
theorem ty261:tySz prog 261=some (5,true):=kr
theorem zc167:zeroC prog 167=some [.int .i64 0,.slice none 0 0,.slice none 0 0]:=kr
theorem zc68:zeroC prog 68=some [.slice none 0 0]:=kr
theorem bytes68:bytesOf prog 68=some 24:=kr
theorem zc9:zeroC prog 9=some [.string (⟨#[]⟩:ByteArray)]:=kr
theorem zc30:zeroC prog 30=some [.slice none 0 0,.slice none 0 0,.slice none 0 0,.slice none 0 0,.slice none 0 0,.slice none 0 0,.slice none 0 0]:=kr
def rT (x:gf) (h:HF) (vs:List Go.Value):Prop:=∃ (r0:yD),vs=[.agg (gf.cells x r0).toArray]∧gf.ok h x r0
theorem mM (x:gf) (h:HF) (vs:List Go.Value) (e:rT x h vs):vs.length=1:=by
 obtain ⟨_,e,_⟩:=e;rw [e];rfl
def us (x:(Int×Int)) (h:HF) (vs:List Go.Value):Prop:=vs=[.int .i64 x.1,.int .i64 x.2]
theorem zH (x:(Int×Int)) (h:HF) (vs:List Go.Value) (e:us x h vs):vs.length=2:=by
 rw [e];rfl
def nv (x:Approval) (h:HF) (vs:List Go.Value):Prop:=vs=[.agg (Approval.cells x).toArray]
theorem n9 (x:Approval) (h:HF) (vs:List Go.Value) (e:nv x h vs):vs.length=1:=by
 rw [e];rfl
def pT (x:Deputy) (h:HF) (vs:List Go.Value):Prop:=vs=[.agg (Deputy.cells x).toArray]
theorem Bt (x:Deputy) (h:HF) (vs:List Go.Value) (e:pT x h vs):vs.length=1:=by
 rw [e];rfl
def sF (x:Interest) (h:HF) (vs:List Go.Value):Prop:=vs=[.agg (Interest.cells x).toArray]
theorem yn (x:Interest) (h:HF) (vs:List Go.Value) (e:sF x h vs):vs.length=1:=by
 rw [e];rfl
def uS (x:Int) (h:HF) (vs:List Go.Value):Prop:=vs=[.int .i64 x]
theorem yX (x:Int) (h:HF) (vs:List Go.Value) (e:uS x h vs):vs.length=1:=by
 rw [e];rfl
def oS (x:(Int×Version)) (h:HF) (vs:List Go.Value):Prop:=∃ (r0:nJ),vs=[.int .i64 x.1,.agg (Version.cells x.2 r0).toArray]∧Version.ok h x.2 r0
theorem vr (x:(Int×Version)) (h:HF) (vs:List Go.Value) (e:oS x h vs):vs.length=2:=by
 obtain ⟨_,e,_⟩:=e;rw [e];rfl
def mY (x:Holder) (h:HF) (vs:List Go.Value):Prop:=vs=[.agg (Holder.cells x).toArray]
theorem pS (x:Holder) (h:HF) (vs:List Go.Value) (e:mY x h vs):vs.length=1:=by
 rw [e];rfl
theorem Ej (a b:Approval) (w:World):(Op.equal 81 (Approval.enc a) (Approval.enc b)).run prog w=.ok (decide (a=b)) w:=
 pg underlying81 (by kernel_rfl) (by kernel_rfl) (by rw [Bool.eq_iff_iff];cases a;cases b;simp [eqv,nth,Approval.cells]) w
theorem GK (a b:Deputy) (w:World):(Op.equal 93 (Deputy.enc a) (Deputy.enc b)).run prog w=.ok (decide (a=b)) w:=
 pg underlying93 (by kernel_rfl) (by kernel_rfl) (by rw [Bool.eq_iff_iff];cases a;cases b;simp [eqv,nth,Deputy.cells]) w
theorem Eg (a b:Interest) (w:World):(Op.equal 97 (Interest.enc a) (Interest.enc b)).run prog w=.ok (decide (a=b)) w:=
 pg underlying97 (by kernel_rfl) (by kernel_rfl) (by rw [Bool.eq_iff_iff];cases a;cases b;simp [eqv,nth,Interest.cells]) w
theorem GL (a b:Budget) (w:World):(Op.equal 101 (Budget.enc a) (Budget.enc b)).run prog w=.ok (decide (a=b)) w:=
 pg underlying101 (by kernel_rfl) (by kernel_rfl) (by rw [Bool.eq_iff_iff];cases a;cases b;simp [eqv,nth,Budget.cells]) w
theorem IG (a b:OSeat) (w:World):(Op.equal 182 (OSeat.enc a) (OSeat.enc b)).run prog w=.ok (decide (a=b)) w:=
 pg EE (by kernel_rfl) (by kernel_rfl) (by rw [Bool.eq_iff_iff];cases a;cases b;simp [eqv,nth,OSeat.cells]) w
theorem sB:tA prog 182 OSeat.enc:=uk EE (fun e a w=>pM e EE (by kernel_rfl) w) IG (fun a=>by
 show Instr.sameBits (9999+1) _ _=true
 simp [Instr.sameBits,OSeat.enc,OSeat.cells])
theorem GM (a b:gx) (w:World):(Op.equal 267 (gx.enc a) (gx.enc b)).run prog w=.ok (decide (a=b)) w:=
 pg Hh (by kernel_rfl) (by kernel_rfl) (by rw [Bool.eq_iff_iff];cases a;cases b;simp [eqv,nth,gx.cells]) w
theorem ul:tA prog 267 gx.enc:=uk Hh (fun e a w=>pM e Hh (by kernel_rfl) w) GM (fun a=>by
 show Instr.sameBits (9999+1) _ _=true
 simp [Instr.sameBits,gx.enc,gx.cells])
theorem Ek (a b:eO) (w:World):(Op.equal 274 (eO.enc a) (eO.enc b)).run prog w=.ok (decide (a=b)) w:=
 pg Jo (by kernel_rfl) (by kernel_rfl) (by rw [Bool.eq_iff_iff];cases a;cases b;simp [eqv,nth,eO.cells]) w
theorem kE:tA prog 274 eO.enc:=uk Jo (fun e a w=>pM e Jo (by kernel_rfl) w) Ek (fun a=>by
 show Instr.sameBits (9999+1) _ _=true
 simp [Instr.sameBits,eO.enc,eO.cells])
theorem Ei (a b:dW) (w:World):(Op.equal 279 (dW.enc a) (dW.enc b)).run prog w=.ok (decide (a=b)) w:=
 pg Hg (by kernel_rfl) (by kernel_rfl) (by rw [Bool.eq_iff_iff];cases a;cases b;simp [eqv,nth,dW.cells]) w
theorem rB:tA prog 279 dW.enc:=uk Hg (fun e a w=>pM e Hg (by kernel_rfl) w) Ei (fun a=>by
 show Instr.sameBits (9999+1) _ _=true
 simp [Instr.sameBits,dW.enc,dW.cells])
theorem Eh (a b:dS) (w:World):(Op.equal 284 (dS.enc a) (dS.enc b)).run prog w=.ok (decide (a=b)) w:=
 pg Hf (by kernel_rfl) (by kernel_rfl) (by rw [Bool.eq_iff_iff];cases a;cases b;simp [eqv,nth,dS.cells]) w
theorem rA:tA prog 284 dS.enc:=uk Hf (fun e a w=>pM e Hf (by kernel_rfl) w) Eh (fun a=>by
 show Instr.sameBits (9999+1) _ _=true
 simp [Instr.sameBits,dS.enc,dS.cells])
def tabF:List (Nat×Nat×Nat):=(358,0,0)::(196,0,0)::(196,1,1)::(97,0,0)::(97,3,3)::(97,4,4)::(97,5,5)::(158,1,1)::(381,0,0)::(381,1,1)::(238,0,0)::(238,1,2)::(238,2,3)::(238,3,4)::(238,4,5)::(228,0,0)::(228,1,1)::(51,0,0)::(51,7,7)::(51,8,8)::(36,0,0)::(36,1,1)::(36,2,2)::(36,3,3)::(126,0,0)::(126,1,1)::(30,3,3)::(30,4,4)::(30,5,5)::(123,0,0)::(123,1,7)::(123,2,48)::(123,3,49)::(51,1,1)::(51,2,2)::(51,3,3)::(89,6,6)::(89,0,0)::(89,1,1)::(89,2,2)::(89,3,3)::(89,4,4)::(89,5,5)::(93,0,0)::(93,1,1)::(93,2,2)::(93,4,4)::(93,5,5)::(93,6,6)::(93,7,7)::(93,9,9)::(93,3,3)::(93,8,8)::(97,1,1)::(97,2,2)::(101,7,7)::(101,0,0)::(101,1,1)::(101,2,2)::(101,3,3)::(101,4,4)::(101,5,5)::(101,6,6)::(62,4,4)::(64,3,3)::(79,3,3)::(64,4,4)::(64,2,2)::(64,1,1)::(327,1,5)::(62,0,0)::(64,0,0)::(327,0,0)::(62,3,3)::(62,1,1)::(64,5,9)::(79,0,0)::(79,2,2)::(62,2,2)::(79,1,1)::(105,0,0)::(105,1,1)::(105,2,2)::(105,3,3)::(51,4,4)::(51,5,5)::(51,6,6)::(81,0,0)::(81,1,1)::(81,2,2)::(81,3,3)::(81,4,4)::(81,5,5)::(81,6,6)::(30,0,0)::(30,1,1)::(30,2,2)::(30,6,6)::(81,7,7)::(184,0,0)::(184,1,1)::(184,2,2)::(184,3,3)::(184,4,4)::(97,6,6)::(111,0,0)::(111,1,1)::(111,2,2)::(111,3,3)::(111,4,4)::(182,1,1)::(182,0,0)::(158,0,0)::(167,1,1)::(167,2,2)::(167,0,0)::[]
def tabY:List Nat:=56::240::162::31::249::3::37::194::193::197::24::4::26::281::211::236::57::190::33::25::32::366::60::59::58::9::168::22::23::27::28::270::277::223::282::68::67::330::260::[]
def tabS:List Nat:=22::23::24::25::26::27::28::31::32::57::58::59::60::67::68::129::141::249::378::[]
theorem tabs:tabOk prog tabF tabY tabS=true:=kr
theorem qK (m:Nat) (is:List Nat) {b:Frame} {n:Nat} {k:List Item} {F:List Frame→(Machine→Prop)→Prop} {e:Env} {ds:List Deferred} {X:Cx} {h:HF} {L:LH} {s:Qs} {q:List (Nat×Nat)} (hr:runL tabF tabY tabS n L m is (.tt k e)=some (s,q)) (t:s.holds prog b n F ds X h L) (hq:LR q:=by repeat (first | exact trivial | refine ⟨rfl,?_⟩)):TT prog b n k F e ds X h L:=ph tabs m is _ hr hq t
theorem qL (m:Nat) (is:List Nat) {ops:Array Oper} {l:List Oper} {b:Frame} {n:Nat} {k:List Item} {F:List Frame→(Machine→Prop)→Prop} {e:Env} {ds:List Deferred} {X:Cx} {h:HF} {L:LH} {s:Qs} {q:List (Nat×Nat)} (hr:runL tabF tabY tabS n L m is (.to ops l k e)=some (s,q)) (t:s.holds prog b n F ds X h L) (hq:LR q:=by repeat (first | exact trivial | refine ⟨rfl,?_⟩)):TO prog b n ops l k F e ds X h L:=ph tabs m is _ hr hq t
theorem tabsF:(tabF.all fun x=>fldOf prog x.1 x.2.1==some x.2.2)=true:=kr
theorem qB (is:List Nat) {l:List Oper} {h1:HF} {K:LH} {m:Nat} {dn:List Nat} {m':Nat} {dn':List Nat} {e':Env} {b:Frame} {n:Nat} {k:List Item} {F:List Frame→(Machine→Prop)→Prop} {e:Env} {ds:List Deferred} {X:Cx} {h:HF} {L:LH} (hr:runB tabF l is m dn e=some (m',dn',e')) (t:TA prog b n l.toArray k F ds X (Jst h1 K) m' dn' e' h L) (hsep:sepAll l.toArray=true:=by assumption) (hJ:Jst h1 K h L:=by exact jn) (hn:allNext l is dn=true:=by kernel_rfl):TA prog b n l.toArray k F ds X (Jst h1 K) m dn e h L:=zW tabsF hsep hJ is m dn e hr hn t
theorem qD (a c:Nat) {l:List Oper} {h1:HF} {K:LH} {m:Nat} {dn:List Nat} {m':Nat} {dn':List Nat} {e':Env} {b:Frame} {n:Nat} {k:List Item} {F:List Frame→(Machine→Prop)→Prop} {e:Env} {ds:List Deferred} {X:Cx} {h:HF} {L:LH} (hr:runB tabF l (List.range' a c) m dn e=some (m',dn',e')) (t:TA prog b n l.toArray k F ds X (Jst h1 K) m' dn' e' h L) (hsep:sepAll l.toArray=true:=by assumption) (hJ:Jst h1 K h L:=by exact jn) (hn:allNext l (List.range' a c) dn=true:=by kernel_rfl):TA prog b n l.toArray k F ds X (Jst h1 K) m dn e h L:=zW tabsF hsep hJ _ m dn e hr hn t
theorem mixed:prog.follows .mixedOrders=true:=kr
end Go.Sg
namespace Go.Sg
open Go.Proofs Go.Proofs.Tryz
set_option maxHeartbeats 2000000
theorem jp (h:HF) (eo:Int) (low:Int) (high:Int)  : Ret prog 175 [I eo,I low,I high] h (.bool (dQ eo low high)):=by
 refine sT func175 U ntmps175 U fun X hM hX hF=>?_
 have hs0:dQ eo low high=dQ eo low high:=rfl
 refine qT 10 U (bC 4 [10,11,12,13,14] 10 14 (decide (eo≤high)) U (fun c1 hk1=>?_) (fun e=>?_))
 ·exact aj (qO 3 U (hk1 _ U))
 exact an (nretP [.bool (decide (low≤eo)&&decide (eo≤high))] (cs hs0))
theorem kI (h:HF) (eo:Int)  : Ret prog 89 [I eo] h (.bool (eM eo)):=by
 refine sT func89 U ntmps89 U fun X hM hX hF=>?_
 have hs0:eM eo=eM eo:=rfl
 exact sr (qO 5 U (av C4 (jp h eo 0 31) U (an (nretP [.bool (dQ eo 0 31)] (cs hs0)))))
theorem iM (h:HF) (eo:Int)  : Ret prog 90 [I eo] h (.bool (di eo)):=by
 refine sT func90 U ntmps90 U fun X hM hX hF=>?_
 have hs0:di eo=di eo:=rfl
 exact sr (qO 5 U (av C4 (jp h eo 0 1099511627775) U (an (nretP [.bool (dQ eo 0 1099511627775)] (cs hs0)))))
theorem mH (h:HF) (eo:Int)  : Ret prog 107 [I eo] h (.bool (fy eo)):=by
 refine sT func107 U ntmps107 U fun X hM hX hF=>?_
 have hs0:fy eo=fy eo:=rfl
 exact sr (qO 5 U (av C4 (jp h eo 0 63) U (an (nretP [.bool (dQ eo 0 63)] (cs hs0)))))
theorem yc (h:HF) (x:Appoint)  : Ret prog 145 [.agg (Appoint.cells x).toArray] h (.bool (lD x)):=by
 refine sT func145 U ntmps145 U fun X hM hX hF=>?_
 have hs0:lD x=lD x:=rfl
 refine sr (cA (fun b1=>qL 13 [0] U (ai hs0 U (fun c1 hs1=>?_) (fun c1 hs2=>?_))))
 ·refine qK 8 [0] U (av C4 (jp h x.No 0 1048576) U (aj (bC 4 [10,11,12,13,14] 10 14 (di x.At) U (fun c2 hk1=>?_) (fun e=>?_))))
  ·exact qL 2 [0] U (av Ak (iM h x.At) U (ek U (hk1 _ U)))
  refine aj (bC 4 [15,16,17,18,19] 15 19 (di x.Known) U (fun c3 hk2=>?_) (fun e=>?_))
  ·exact qL 2 [0] U (av Ak (iM h x.Known) U (ek U (hk2 _ U)))
  refine aj (bC 4 [20,21,22,23,24] 20 24 (eM x.Office) U (fun c4 hk3=>?_) (fun e=>?_))
  ·exact qL 2 [0] U (av Jn (kI h x.Office) U (ek U (hk3 _ U)))
  refine aj (bC 4 [25,26,27,28,29] 25 29 (fy x.Person) U (fun c5 hk4=>?_) (fun e=>?_))
  ·exact qL 2 [0] U (av call107 (mH h x.Person) U (ek U (hk4 _ U)))
  refine aj (bC 6 [30,31,32,33,34,35,36] 30 36 (dQ x.Weight 0 0) U (fun c6 hk5=>?_) (fun e=>?_))
  ·exact qL 4 [0] U (av C4 (jp h x.Weight 0 0) U (ek U (hk5 _ U)))
  exact an (nretP [.bool ((((((dQ x.No 0 1048576)&&(di x.At))&&(di x.Known))&&(eM x.Office))&&(fy x.Person))&&(dQ x.Weight 0 0))] (cs hs1))
 refine qK 5 [0] U (av C4 (jp h x.No 0 1048576) U (aj (bC 4 [10,11,12,13,14] 10 14 (di x.At) U (fun c7 hk6=>?_) (fun e=>?_))))
 ·exact qL 2 [0] U (av Ak (iM h x.At) U (ek U (hk6 _ U)))
 refine aj (bC 4 [15,16,17,18,19] 15 19 (di x.Known) U (fun c8 hk7=>?_) (fun e=>?_))
 ·exact qL 2 [0] U (av Ak (iM h x.Known) U (ek U (hk7 _ U)))
 refine aj (bC 4 [20,21,22,23,24] 20 24 (eM x.Office) U (fun c9 hk8=>?_) (fun e=>?_))
 ·exact qL 2 [0] U (av Jn (kI h x.Office) U (ek U (hk8 _ U)))
 refine aj (bC 4 [25,26,27,28,29] 25 29 (fy x.Person) U (fun c10 hk9=>?_) (fun e=>?_))
 ·exact qL 2 [0] U (av call107 (mH h x.Person) U (ek U (hk9 _ U)))
 refine aj (bC 6 [30,31,32,33,34,35,36] 30 36 (dQ x.Weight 1 64) U (fun c11 hk10=>?_) (fun e=>?_))
 ·exact qL 4 [0] U (av C4 (jp h x.Weight 1 64) U (ek U (hk10 _ U)))
 exact an (nretP [.bool ((((((dQ x.No 0 1048576)&&(di x.At))&&(di x.Known))&&(eM x.Office))&&(fy x.Person))&&(dQ x.Weight 1 64))] (cs hs2))
theorem n8 (h:HF) (l:List Appoint) (e8:Option Addr) (eZ:Nat) (hl:SlC Appoint.rp h e8 eZ l):Ret prog 65 [.slice e8 l.length eZ] h (I (cZ l)):=by
 refine sT func65 U ntmps65 U fun X hM hX hF=>?_
 have hs0:cZ l=cZ l:=rfl
 refine qK 11 [] U (ai hs0 U (fun c1 hs1=>?_) (fun c1 hs2=>?_))
 ·have c1p:=of_decide_eq_true c1
  exact sr (an (nretP [I 2] (ci hs1)))
 have c1p:=of_decide_eq_false c1
 refine qK 12 [] U ?_
 refine lp1 l (fun i w=>[(3,I w),(9,.slice e8 l.length eZ),(10,I (l.length:Int)),(11,I (i:Int))]) ([]) (fun s1 i w=>(cZ.L1 (cZ.K1)) s1 w) (-1) hl.1.1 hs2 ?_ ?_
 ·rintro i1 ii fA hs4 e
  exact sr (an (nretP [I 0] (ci hs4)))
 rintro i1 ii y1 rz1 hd1 dx aL eH hO hs6 hx1 ag1 e
 refine sr (aw (v':=.bool true) U (cb dx) (qO 8 U (aF (fj (enc:=Appoint.cells) ei Al ty89 hl.1 (nthZ aL) (ba aL) U U U (fun q2 A2=>dz ty89 A2 U U (aV zc89 (fun b2=>aS 0 ty89 U U U U U U (qO 4 U (cW 0 ty89 U U U (av call145 (yc h y1) U (qO 2 U (bY 5 [18,19,20,21,22,23] 18 23 (decide (y1.No≤ii)) U (fun c2 hk1=>?_) (fun e=>?_)))))))))))))
 ·exact qL 5 [0] U (hk1 _ U)
 refine aD (ai hs6 U (fun c3 hs7=>?_) (fun c3 hs8=>?_))
 ·exact sr (an (nretP [I 150] (ci hs7)))
 exact qK 8 [0] U (aw (v':=I (((i1+1):Nat):Int)) U (bw ob) (qO 2 U (bB (L':=[]) js (ag1 y1.No hs8))))
theorem ic (h:HF) (eo:Int) (low:Int) (high:Int)  : Ret prog 201 [I eo,I low,I high] h (.bool (cQ eo low high)):=by
 refine sT func201 U ntmps201 U fun X hM hX hF=>?_
 have hs0:cQ eo low high=cQ eo low high:=rfl
 refine qT 10 U (bC 4 [10,11,12,13,14] 10 14 (decide (eo≤high)) U (fun c1 hk1=>?_) (fun e=>?_))
 ·exact aj (qO 3 U (hk1 _ U))
 exact an (nretP [.bool (decide (low≤eo)&&decide (eo≤high))] (cs hs0))
theorem kA (h:HF) (eo:Int)  : Ret prog 200 [I eo] h (.bool (fB eo)):=by
 refine sT func200 U ntmps200 U fun X hM hX hF=>?_
 have hs0:fB eo=fB eo:=rfl
 exact sr (qO 5 U (av yI (ic h eo 0 63) U (an (nretP [.bool (cQ eo 0 63)] (cs hs0)))))
theorem ls (h:HF) (eo:Int)  : Ret prog 202 [I eo] h (.bool (fV eo)):=by
 refine sT func202 U ntmps202 U fun X hM hX hF=>?_
 have hs0:fV eo=fV eo:=rfl
 exact sr (qO 5 U (av yI (ic h eo 0 1099511627775) U (an (nretP [.bool (cQ eo 0 1099511627775)] (cs hs0)))))
theorem xD (h:HF) (x:Deputy)  : Ret prog 146 [.agg (Deputy.cells x).toArray] h (.bool (kV x)):=by
 refine sT func146 U ntmps146 U fun X hM hX hF=>?_
 have hs0:kV x=kV x:=rfl
 refine sr (cA (fun b1=>qL 7 [0] U (av yI (ic h x.No 0 1048576) U (qO 2 U (bY 5 [7,8,9,10,11,12] 7 12 (!(fV x.At)) U (fun c1 hk1=>?_) (fun e=>?_))))))
 ·exact qL 2 [0] U (av Jm (ls h x.At) U (qO 2 U (hk1 _ U)))
 refine aj (bY 5 [13,14,15,16,17,18] 13 18 (!(fV x.Known)) U (fun c2 hk2=>?_) (fun e=>?_))
 ·exact qL 2 [0] U (av Jm (ls h x.Known) U (qO 2 U (hk2 _ U)))
 refine aj (bY 5 [19,20,21,22,23,24] 19 24 (!(fB x.From)) U (fun c3 hk3=>?_) (fun e=>?_))
 ·exact qL 2 [0] U (av Jl (kA h x.From) U (qO 2 U (hk3 _ U)))
 refine aj (bY 5 [25,26,27,28,29,30] 25 30 (!(fB x.To)) U (fun c4 hk4=>?_) (fun e=>?_))
 ·exact qL 2 [0] U (av Jl (kA h x.To) U (qO 2 U (hk4 _ U)))
 refine aj (bY 6 [31,32,33,34,35,36,37] 31 37 (x.From==x.To) U (fun c5 hk5=>?_) (fun e=>?_))
 ·exact qL 6 [0,0] U (hk5 _ U)
 refine aj (bY 5 [38,39,40,41,42,43] 38 43 (!(cQ x.Office 0 31)) U (fun c6 hk6=>?_) (fun e=>?_))
 ·exact qL 2 [0] U (av yI (ic h x.Office 0 31) U (qO 2 U (hk6 _ U)))
 refine aj (bY 5 [44,45,46,47,48,49] 44 49 (!(cQ x.Kind (-1) 15)) U (fun c7 hk7=>?_) (fun e=>?_))
 ·exact qL 2 [0] U (av yI (ic h x.Kind (-1) 15) U (qO 2 U (hk7 _ U)))
 refine aD (ai hs0 U (fun c8 hs1=>?_) (fun c8 hs2=>?_))
 ·exact sr (an (nretP [.bool false] (cs hs1)))
 refine qK 7 [0] U (ai hs2 U (fun c9 hs4=>?_) (fun c9 hs5=>?_))
 ·refine qK 6 [0] U (bC 4 [55,56,57,58,59] 55 59 (x.Most==0) U (fun c10 hk8=>?_) (fun e=>?_))
  ·exact qL 4 [0] U (hk8 _ U)
  exact an (nretP [.bool ((x.Until==0)&&(x.Most==0))] (cs hs4))
 refine qK 9 [0,0] U (bC 4 [65,66,67,68,69] 65 69 (decide (x.Until≤1099511627776)) U (fun c11 hk9=>?_) (fun e=>?_))
 ·exact qL 4 [0] U (hk9 _ U)
 refine aj (bC 4 [70,71,72,73,74] 70 74 (cQ x.Most 0 1099511627776) U (fun c12 hk10=>?_) (fun e=>?_))
 ·exact qL 2 [0] U (av yI (ic h x.Most 0 1099511627776) U (ek U (hk10 _ U)))
 exact an (nretP [.bool ((decide (x.At < x.Until)&&decide (x.Until≤1099511627776))&&(cQ x.Most 0 1099511627776))] (cs hs5))
theorem qS (h:HF) (l:List Deputy) (e8:Option Addr) (eZ:Nat) (hl:SlC Deputy.rp h e8 eZ l):Ret prog 66 [.slice e8 l.length eZ] h (I (dq l)):=by
 refine sT func66 U ntmps66 U fun X hM hX hF=>?_
 have hs0:dq l=dq l:=rfl
 refine qK 11 [] U (ai hs0 U (fun c1 hs1=>?_) (fun c1 hs2=>?_))
 ·have c1p:=of_decide_eq_true c1
  exact sr (an (nretP [I 2] (ci hs1)))
 have c1p:=of_decide_eq_false c1
 refine qK 12 [] U ?_
 refine lp1 l (fun i w=>[(3,I w),(9,.slice e8 l.length eZ),(10,I (l.length:Int)),(11,I (i:Int))]) ([]) (fun s1 i w=>(dq.L1 (dq.K1)) s1 w) (-1) hl.1.1 hs2 ?_ ?_
 ·rintro i1 ii fA hs4 e
  exact sr (an (nretP [I 0] (ci hs4)))
 rintro i1 ii y1 rz1 hd1 dx aL eH hO hs6 hx1 ag1 e
 refine sr (aw (v':=.bool true) U (cb dx) (qO 8 U (aF (fj (enc:=Deputy.cells) ei tJ ty93 hl.1 (nthZ aL) (ba aL) U U U (fun q2 A2=>dz ty93 A2 U U (aV zc93 (fun b2=>aS 0 ty93 U U U U U U (qO 4 U (cW 0 ty93 U U U (av call146 (xD h y1) U (qO 2 U (bY 5 [18,19,20,21,22,23] 18 23 (decide (y1.No≤ii)) U (fun c2 hk1=>?_) (fun e=>?_)))))))))))))
 ·exact qL 5 [0] U (hk1 _ U)
 refine aD (ai hs6 U (fun c3 hs7=>?_) (fun c3 hs8=>?_))
 ·exact sr (an (nretP [I 160] (ci hs7)))
 exact qK 8 [0] U (aw (v':=I (((i1+1):Nat):Int)) U (bw ob) (qO 2 U (bB (L':=[]) js (ag1 y1.No hs8))))
theorem gJ (h:HF) (eo:Int) (limit:Int)  : Ret prog 207 [I eo,I limit] h (.bool (bI eo limit)):=by
 refine sT func207 U ntmps207 U fun X hM hX hF=>?_
 have hs0:bI eo limit=bI eo limit:=rfl
 refine qT 9 U (bC 4 [7,8,9,10,11] 7 11 (decide (eo < limit)) U (fun c1 hk1=>?_) (fun e=>?_))
 ·exact aj (qO 3 U (hk1 _ U))
 exact an (nretP [.bool (decide (0≤eo)&&decide (eo < limit))] (cs hs0))
theorem wl (h:HF) (x:Interest)  : Ret prog 147 [.agg (Interest.cells x).toArray] h (.bool (kp x)):=by
 refine sT func147 U ntmps147 U fun X hM hX hF=>?_
 have hs0:kp x=kp x:=rfl
 refine sr (cA (fun b1=>qL 6 [0] U (av yH (gJ h x.No 1048577) U (aj (bC 4 [7,8,9,10,11] 7 11 (bI x.At 1099511627776) U (fun c1 hk1=>?_) (fun e=>?_))))))
 ·exact qL 2 [0] U (av yH (gJ h x.At 1099511627776) U (ek U (hk1 _ U)))
 refine aj (bC 4 [12,13,14,15,16] 12 16 (bI x.Known 1099511627776) U (fun c2 hk2=>?_) (fun e=>?_))
 ·exact qL 2 [0] U (av yH (gJ h x.Known 1099511627776) U (ek U (hk2 _ U)))
 refine aj (bC 4 [17,18,19,20,21] 17 21 (bI x.Party 1048577) U (fun c3 hk3=>?_) (fun e=>?_))
 ·exact qL 2 [0] U (av yH (gJ h x.Party 1048577) U (ek U (hk3 _ U)))
 refine qL 8 [0] U (ai hs0 U (fun c4 hs1=>?_) (fun c4 hs2=>?_))
 ·refine qT 4 U (bC 4 [25,26,27,28,29] 25 29 (bI x.Person 1048577) U (fun c5 hk4=>?_) (fun e=>?_))
  ·exact qL 2 [0] U (av yH (gJ h x.Person 1048577) U (ek U (hk4 _ U)))
  refine aj (bC 6 [30,31,32,33,34,35,36] 30 36 (x.Person != x.Party) U (fun c6 hk5=>?_) (fun e=>?_))
  ·exact qL 6 [0,0] U (hk5 _ U)
  exact an (nretP [.bool ((((((bI x.No 1048577)&&(bI x.At 1099511627776))&&(bI x.Known 1099511627776))&&(bI x.Party 1048577))&&(bI x.Person 1048577))&&(x.Person != x.Party))] (cs hs1))
 refine qT 5 U (bC 4 [38,39,40,41,42] 38 42 (bI x.Person 64) U (fun c7 hk6=>?_) (fun e=>?_))
 ·exact qL 2 [0] U (av yH (gJ h x.Person 64) U (ek U (hk6 _ U)))
 exact an (nretP [.bool (((((bI x.No 1048577)&&(bI x.At 1099511627776))&&(bI x.Known 1099511627776))&&(bI x.Party 1048577))&&(bI x.Person 64))] (cs hs2))
theorem pW (h:HF) (l:List Interest) (e8:Option Addr) (eZ:Nat) (hl:SlC Interest.rp h e8 eZ l):Ret prog 67 [.slice e8 l.length eZ] h (I (cN l)):=by
 refine sT func67 U ntmps67 U fun X hM hX hF=>?_
 have hs0:cN l=cN l:=rfl
 refine qK 11 [] U (ai hs0 U (fun c1 hs1=>?_) (fun c1 hs2=>?_))
 ·have c1p:=of_decide_eq_true c1
  exact sr (an (nretP [I 2] (ci hs1)))
 have c1p:=of_decide_eq_false c1
 refine qK 12 [] U ?_
 refine lp1 l (fun i w=>[(3,I w),(9,.slice e8 l.length eZ),(10,I (l.length:Int)),(11,I (i:Int))]) ([]) (fun s1 i w=>(cN.L1 (cN.K1)) s1 w) (-1) hl.1.1 hs2 ?_ ?_
 ·rintro i1 ii fA hs4 e
  exact sr (an (nretP [I 0] (ci hs4)))
 rintro i1 ii y1 rz1 hd1 dx aL eH hO hs6 hx1 ag1 e
 refine sr (aw (v':=.bool true) U (cb dx) (qO 8 U (aF (fj (enc:=Interest.cells) ei sU ty97 hl.1 (nthZ aL) (ba aL) U U U (fun q2 A2=>dz ty97 A2 U U (aV zc97 (fun b2=>aS 0 ty97 U U U U U U (qO 4 U (cW 0 ty97 U U U (av call147 (wl h y1) U (qO 2 U (bY 5 [18,19,20,21,22,23] 18 23 (decide (y1.No≤ii)) U (fun c2 hk1=>?_) (fun e=>?_)))))))))))))
 ·exact qL 5 [0] U (hk1 _ U)
 refine aD (ai hs6 U (fun c3 hs7=>?_) (fun c3 hs8=>?_))
 ·exact sr (an (nretP [I 290] (ci hs7)))
 exact qK 8 [0] U (aw (v':=I (((i1+1):Nat):Int)) U (bw ob) (qO 2 U (bB (L':=[]) js (ag1 y1.No hs8))))
theorem rL (h:HF) (s:List Int) (pL:Option Addr) (pK:Nat) (f:(Int→Bool)) (f_v:Value) (hs:SlC Rp.int h pL pK s) (hf:∀ (h':HF) (dB:Int),HF.le h h'→rH prog f_v [I dB] h' [] (.bool (f dB))):Ret prog 220 [.slice pL s.length pK,f_v] h (I (dD s f)):=by
 refine sT func220 U ntmps220 U fun X hM hX hF=>?_
 have hs0:dD s f=dD s f:=rfl
 refine qK 11 [] U ?_
 refine lp0 s (fun i=>[(0,.slice pL s.length pK),(1,f_v),(7,I (s.length:Int)),(8,I (i:Int))]) ([]) (fun s1 i=>(dD.L1 f (dD.K1)) s1 i) hs.1.1 hs0 ?_ ?_
 ·rintro i1 fA hs1 e
  exact sr (an (nretP [I (-1)] (ci hs1)))
 rintro i1 y1 rz1 hd1 dx aL eH hO hs3 hx1 ag1 e
 refine sr (aw (v':=.bool true) U (cb dx) (qO 16 U (aF (fj (enc:=fun y=>[I y]) ei fa ty3 hs.1 (nthZ aL) (ba aL) U U U (fun q2 A2=>dF ty3 A2 U (aF (kH (v:=.bool (f y1)) [] (List.nil_sublist _) (hf h y1 lf) U U (aD (ai hs3 U (fun c2 hs4=>?_) (fun c2 hs5=>?_))))))))))
 ·exact sr (qO 3 U (nretP [I (i1:Int)] (ci hs4)))
 exact aJ (qT 2 U (aw (v':=I (((i1+1):Nat):Int)) U (bw ob) (qO 2 U (ag1 hs5))))
theorem gM (h:HF) (s:List Int) (pL:Option Addr) (pK:Nat) (f:(Int→Bool)) (f_v:Value) (hs:SlC Rp.int h pL pK s) (hf:∀ (h':HF) (dB:Int),HF.le h h'→rH prog f_v [I dB] h' [] (.bool (f dB))):Ret prog 132 [.slice pL s.length pK,f_v] h (.bool (cw s f)):=by
 refine sT func132 U ntmps132 U fun X hM hX hF=>?_
 have hs0:cw s f=cw s f:=rfl
 exact sr (qO 6 U (av call220 (rL _ _ _ _ f f_v hs hf) U (qO 3 U (nretP [.bool (decide (0≤(dD s f)))] (cs hs0)))))
theorem uE (h:HF) (eo:Int) (v0:Int) (v0_q:Addr) (v1:Int) (v1_q:Addr) (av0:At h v0_q [I v0]) (av1:At h v1_q [I v1]):Ret prog 194 [I eo,.pointer (some v0_q),.pointer (some v1_q)] h (.bool (gV eo v0 v1)):=by
 refine sT func194 U ntmps194 U fun X hM hX hF=>?_
 have hs0:gV eo v0 v1=gV eo v0 v1:=rfl
 refine qT 7 U (dF ty3 av0 U (qO 2 U (bY 4 [8,9,10,11,12] 8 12 (decide (v1 < eo)) U (fun c1 hk1=>?_) (fun e=>?_))))
 ·exact aj (dF ty3 av1 U (qO 2 U (hk1 _ U)))
 exact an (nretP [.bool (decide (eo < v0)||decide (v1 < eo))] (cs hs0))
theorem dK (h:HF) (least:Int) (most:Int) (l:List Int) (e8:Option Addr) (eZ:Nat) (hl:SlC Rp.int h e8 eZ l):Ret prog 100 [I least,I most,.slice e8 l.length eZ] h (.bool (aU least most l)):=by
 refine sT func100 U ntmps100 U fun X hM hX hF=>?_
 have hs0:aU least most l=aU least most l:=rfl
 exact sr (cA (fun b1=>cA (fun b2=>qO 5 U (aT 1 U hM (fun h1 hle1 hb1=>aT 0 U hM (fun h2 hle2 hb2=>aF (et U U (av ED (gM _ _ _ _ (fun dB=>gV dB least most) (.func (.func 194) #[] #[Q b1,Q b2]) (hl.mono Rp.aY (hle1.t hle2)) (fun h' dB hle =>iu call194 (uE h' dB least ⟨b1,0,none⟩ most ⟨b2,0,none⟩  (((ct hb1).mono hle2).mono hle) ((ct hb2).mono hle)))) U (qO 3 U (nretP [.bool (!(cw l (fun dB=>gV dB least most)))] (cs hs0)))))))))))
theorem yB (h:HF) (x:Budget)  : Ret prog 148 [.agg (Budget.cells x).toArray] h (.bool (jf x)):=by
 refine sT func148 U ntmps148 U fun X hM hX hF=>?_
 have hs0:jf x=jf x:=rfl
 refine sr (cA (fun b1=>qL 13 [0] U (ai hs0 U (fun c1 hs1=>?_) (fun c1 hs2=>?_))))
 ·refine qK 8 [0] U (aF (bV (cells:=[I x.No]) fa ty3 zc3 U U kr (fun b2=>aT 0 U hM (fun h1 hle1 hb1=>?_))))
  have sl1:SlC Rp.int h1 (some ⟨b2,0,none⟩) 1 ([x.No]):=bu.slB0 (T:=3) (fz:=(0,0)) ((show bu Rp.int h [I x.No] ([x.No]) from ⟨[I x.No],[],rfl,rfl,rfl,rfl⟩).mono Rp.aY hle1) hb1
  refine av td (dK _ 0 1048576 _ _ _ sl1) U (aj (bC 7 [11,12,13,14,15,16,17,18] 11 18 (aU 0 1099511627775 ([x.At,x.Known])) U (fun c2 hk1=>?_) (fun e=>?_)))
  ·refine qL 4 [0,0] U (aF (bV (cells:=[I x.At,I x.Known]) fa ty3 zc3 U U kr (fun b3=>aT 0 U hM (fun h2 hle2 hb2=>?_))))
   have sl2:SlC Rp.int h2 (some ⟨b3,0,none⟩) 2 ([x.At,x.Known]):=bu.slB0 (T:=3) (fz:=(0,0)) ((show bu Rp.int h1 [I x.At,I x.Known] ([x.At,x.Known]) from ⟨[I x.At],[I x.Known],rfl,rfl,rfl,⟨[I x.Known],[],rfl,rfl,rfl,rfl⟩⟩).mono Rp.aY hle2) hb2
   exact av td (dK _ 0 1099511627775 _ _ _ sl2) U (ek U (jP (h:=h1) hle2 hX hle1 (hk1 _ U)))
  refine aj (bC 5 [19,20,21,22,23,24] 19 24 (aU (-1) 15 ([x.Kind])) U (fun c3 hk2=>?_) (fun e=>?_))
  ·refine qL 2 [0] U (aF (bV (cells:=[I x.Kind]) fa ty3 zc3 U U kr (fun b4=>aT 0 U hM (fun h3 hle3 hb3=>?_))))
   have sl3:SlC Rp.int h3 (some ⟨b4,0,none⟩) 1 ([x.Kind]):=bu.slB0 (T:=3) (fz:=(0,0)) ((show bu Rp.int h1 [I x.Kind] ([x.Kind]) from ⟨[I x.Kind],[],rfl,rfl,rfl,rfl⟩).mono Rp.aY hle3) hb3
   exact av td (dK _ (-1) 15 _ _ _ sl3) U (ek U (jP (h:=h1) hle3 hX hle1 (hk2 _ U)))
  refine aj (bC 5 [25,26,27,28,29,30] 25 30 (aU 1 1099511627776 ([x.Period])) U (fun c4 hk3=>?_) (fun e=>?_))
  ·refine qL 2 [0] U (aF (bV (cells:=[I x.Period]) fa ty3 zc3 U U kr (fun b5=>aT 0 U hM (fun h4 hle4 hb4=>?_))))
   have sl4:SlC Rp.int h4 (some ⟨b5,0,none⟩) 1 ([x.Period]):=bu.slB0 (T:=3) (fz:=(0,0)) ((show bu Rp.int h1 [I x.Period] ([x.Period]) from ⟨[I x.Period],[],rfl,rfl,rfl,rfl⟩).mono Rp.aY hle4) hb4
   exact av td (dK _ 1 1099511627776 _ _ _ sl4) U (ek U (jP (h:=h1) hle4 hX hle1 (hk3 _ U)))
  refine aj (bC 6 [31,32,33,34,35,36,37] 31 37 (aU 0 0 ([x.Count])) U (fun c5 hk4=>?_) (fun e=>?_))
  ·refine qL 3 [0] U (aF (bV (cells:=[I x.Count]) fa ty3 zc3 U U kr (fun b6=>aT 0 U hM (fun h5 hle5 hb5=>?_))))
   have sl5:SlC Rp.int h5 (some ⟨b6,0,none⟩) 1 ([x.Count]):=bu.slB0 (T:=3) (fz:=(0,0)) ((show bu Rp.int h1 [I x.Count] ([x.Count]) from ⟨[I x.Count],[],rfl,rfl,rfl,rfl⟩).mono Rp.aY hle5) hb5
   exact av td (dK _ 0 0 _ _ _ sl5) U (ek U (jP (h:=h1) hle5 hX hle1 (hk4 _ U)))
  refine aj (bC 6 [38,39,40,41,42,43,44] 38 44 (aU 0 0 ([x.Value])) U (fun c6 hk5=>?_) (fun e=>?_))
  ·refine qL 3 [0] U (aF (bV (cells:=[I x.Value]) fa ty3 zc3 U U kr (fun b7=>aT 0 U hM (fun h6 hle6 hb6=>?_))))
   have sl6:SlC Rp.int h6 (some ⟨b7,0,none⟩) 1 ([x.Value]):=bu.slB0 (T:=3) (fz:=(0,0)) ((show bu Rp.int h1 [I x.Value] ([x.Value]) from ⟨[I x.Value],[],rfl,rfl,rfl,rfl⟩).mono Rp.aY hle6) hb6
   exact av td (dK _ 0 0 _ _ _ sl6) U (ek U (jP (h:=h1) hle6 hX hle1 (hk5 _ U)))
  exact an (nretP [.bool ((((((aU 0 1048576 ([x.No]))&&(aU 0 1099511627775 ([x.At,x.Known])))&&(aU (-1) 15 ([x.Kind])))&&(aU 1 1099511627776 ([x.Period])))&&(aU 0 0 ([x.Count])))&&(aU 0 0 ([x.Value])))] (cs hs1))
 refine qK 5 [0] U (aF (bV (cells:=[I x.No]) fa ty3 zc3 U U kr (fun b8=>aT 0 U hM (fun h7 hle7 hb7=>?_))))
 have sl7:SlC Rp.int h7 (some ⟨b8,0,none⟩) 1 ([x.No]):=bu.slB0 (T:=3) (fz:=(0,0)) ((show bu Rp.int h [I x.No] ([x.No]) from ⟨[I x.No],[],rfl,rfl,rfl,rfl⟩).mono Rp.aY hle7) hb7
 refine av td (dK _ 0 1048576 _ _ _ sl7) U (aj (bC 7 [11,12,13,14,15,16,17,18] 11 18 (aU 0 1099511627775 ([x.At,x.Known])) U (fun c7 hk6=>?_) (fun e=>?_)))
 ·refine qL 4 [0,0] U (aF (bV (cells:=[I x.At,I x.Known]) fa ty3 zc3 U U kr (fun b9=>aT 0 U hM (fun h8 hle8 hb8=>?_))))
  have sl8:SlC Rp.int h8 (some ⟨b9,0,none⟩) 2 ([x.At,x.Known]):=bu.slB0 (T:=3) (fz:=(0,0)) ((show bu Rp.int h7 [I x.At,I x.Known] ([x.At,x.Known]) from ⟨[I x.At],[I x.Known],rfl,rfl,rfl,⟨[I x.Known],[],rfl,rfl,rfl,rfl⟩⟩).mono Rp.aY hle8) hb8
  exact av td (dK _ 0 1099511627775 _ _ _ sl8) U (ek U (jP (h:=h7) hle8 hX hle7 (hk6 _ U)))
 refine aj (bC 5 [19,20,21,22,23,24] 19 24 (aU (-1) 15 ([x.Kind])) U (fun c8 hk7=>?_) (fun e=>?_))
 ·refine qL 2 [0] U (aF (bV (cells:=[I x.Kind]) fa ty3 zc3 U U kr (fun b10=>aT 0 U hM (fun h9 hle9 hb9=>?_))))
  have sl9:SlC Rp.int h9 (some ⟨b10,0,none⟩) 1 ([x.Kind]):=bu.slB0 (T:=3) (fz:=(0,0)) ((show bu Rp.int h7 [I x.Kind] ([x.Kind]) from ⟨[I x.Kind],[],rfl,rfl,rfl,rfl⟩).mono Rp.aY hle9) hb9
  exact av td (dK _ (-1) 15 _ _ _ sl9) U (ek U (jP (h:=h7) hle9 hX hle7 (hk7 _ U)))
 refine aj (bC 5 [25,26,27,28,29,30] 25 30 (aU 1 1099511627776 ([x.Period])) U (fun c9 hk8=>?_) (fun e=>?_))
 ·refine qL 2 [0] U (aF (bV (cells:=[I x.Period]) fa ty3 zc3 U U kr (fun b11=>aT 0 U hM (fun h10 hle10 hb10=>?_))))
  have sl10:SlC Rp.int h10 (some ⟨b11,0,none⟩) 1 ([x.Period]):=bu.slB0 (T:=3) (fz:=(0,0)) ((show bu Rp.int h7 [I x.Period] ([x.Period]) from ⟨[I x.Period],[],rfl,rfl,rfl,rfl⟩).mono Rp.aY hle10) hb10
  exact av td (dK _ 1 1099511627776 _ _ _ sl10) U (ek U (jP (h:=h7) hle10 hX hle7 (hk8 _ U)))
 refine aj (bC 6 [31,32,33,34,35,36,37] 31 37 (aU 0 1048576 ([x.Count])) U (fun c10 hk9=>?_) (fun e=>?_))
 ·refine qL 3 [0] U (aF (bV (cells:=[I x.Count]) fa ty3 zc3 U U kr (fun b12=>aT 0 U hM (fun h11 hle11 hb11=>?_))))
  have sl11:SlC Rp.int h11 (some ⟨b12,0,none⟩) 1 ([x.Count]):=bu.slB0 (T:=3) (fz:=(0,0)) ((show bu Rp.int h7 [I x.Count] ([x.Count]) from ⟨[I x.Count],[],rfl,rfl,rfl,rfl⟩).mono Rp.aY hle11) hb11
  exact av td (dK _ 0 1048576 _ _ _ sl11) U (ek U (jP (h:=h7) hle11 hX hle7 (hk9 _ U)))
 refine aj (bC 6 [38,39,40,41,42,43,44] 38 44 (aU 0 1099511627776 ([x.Value])) U (fun c11 hk10=>?_) (fun e=>?_))
 ·refine qL 3 [0] U (aF (bV (cells:=[I x.Value]) fa ty3 zc3 U U kr (fun b13=>aT 0 U hM (fun h12 hle12 hb12=>?_))))
  have sl12:SlC Rp.int h12 (some ⟨b13,0,none⟩) 1 ([x.Value]):=bu.slB0 (T:=3) (fz:=(0,0)) ((show bu Rp.int h7 [I x.Value] ([x.Value]) from ⟨[I x.Value],[],rfl,rfl,rfl,rfl⟩).mono Rp.aY hle12) hb12
  exact av td (dK _ 0 1099511627776 _ _ _ sl12) U (ek U (jP (h:=h7) hle12 hX hle7 (hk10 _ U)))
 exact an (nretP [.bool ((((((aU 0 1048576 ([x.No]))&&(aU 0 1099511627775 ([x.At,x.Known])))&&(aU (-1) 15 ([x.Kind])))&&(aU 1 1099511627776 ([x.Period])))&&(aU 0 1048576 ([x.Count])))&&(aU 0 1099511627776 ([x.Value])))] (cs hs2))
theorem rY (h:HF) (l:List Budget) (e8:Option Addr) (eZ:Nat) (hl:SlC Budget.rp h e8 eZ l):Ret prog 68 [.slice e8 l.length eZ] h (I (cx l)):=by
 refine sT func68 U ntmps68 U fun X hM hX hF=>?_
 have hs0:cx l=cx l:=rfl
 refine qK 11 [] U (ai hs0 U (fun c1 hs1=>?_) (fun c1 hs2=>?_))
 ·have c1p:=of_decide_eq_true c1
  exact sr (an (nretP [I 2] (ci hs1)))
 have c1p:=of_decide_eq_false c1
 refine qK 12 [] U ?_
 refine lp1 l (fun i w=>[(3,I w),(9,.slice e8 l.length eZ),(10,I (l.length:Int)),(11,I (i:Int))]) ([]) (fun s1 i w=>(cx.L1 (cx.K1)) s1 w) (-1) hl.1.1 hs2 ?_ ?_
 ·rintro i1 ii fA hs4 e
  exact sr (an (nretP [I 0] (ci hs4)))
 rintro i1 ii y1 rz1 hd1 dx aL eH hO hs6 hx1 ag1 e
 refine sr (aw (v':=.bool true) U (cb dx) (qO 8 U (aF (fj (enc:=Budget.cells) ei vy ty101 hl.1 (nthZ aL) (ba aL) U U U (fun q2 A2=>dz ty101 A2 U U (aV zc101 (fun b2=>aS 0 ty101 U U U U U U (qO 4 U (cW 0 ty101 U U U (av call148 (yB h y1) U (qO 2 U (bY 5 [18,19,20,21,22,23] 18 23 (decide (y1.No≤ii)) U (fun c2 hk1=>?_) (fun e=>?_)))))))))))))
 ·exact qL 5 [0] U (hk1 _ U)
 refine aD (ai hs6 U (fun c3 hs7=>?_) (fun c3 hs8=>?_))
 ·exact sr (an (nretP [I 180] (ci hs7)))
 exact qK 8 [0] U (aw (v':=I (((i1+1):Nat):Int)) U (bw ob) (qO 2 U (bB (L':=[]) js (ag1 y1.No hs8))))
theorem ue (rec:Expr→Int→List gf) (h:HF) (x:Expr) (fP:cG) (x_q:Addr) (depth:Int) (depth_q:Addr) (hrec:∀ (h:HF) (qx:Expr) (j5:cG) (qdepth:Int) (_:Expr.ok h qx j5) (_:0≤qdepth∧qdepth+qx.dep≤2000000) (_:qx.dep < x.dep),jN prog 282 [.agg (Expr.cells qx j5).toArray,I qdepth] h (fun v h'=>∃ rv0:Value,v=rv0∧Itr prog rv0 rT (rec qx qdepth) h')) (hx:Expr.ok h x fP) (ax:At h x_q (Expr.cells x fP)) (adepth:At h depth_q [I depth]) (hb:0≤depth∧depth+x.dep≤2000000):Itr prog (.func (.func 329) #[] (List.toArray [.pointer (some x_q),.pointer (some depth_q)])) rT (aK.F rec x depth) h:=by
 refine pU call329 ?_
 intro yf ya yb C Sp Pn h1 A hle m1 m2 m3 hC hy
 refine iV C3 U ntmps329 U fun X hXM hX=>?_
 have hs0:aK.F rec x depth=[]++aK.F rec x depth:=rfl
 refine sr (cA (fun b1=>qL 5 [0] U (dz ty62 (ax.mono hle) U U (dF ty3 (adepth.mono hle) U (aF (fw (cells:=[I x.Kind,I x.N,I x.No,.string x.Name,.slice fP.jB x.L.length fP.jC,I depth]) (places:=[(0,5),(5,1)]) underlying327 zc327 kr kr ?_))))))
 have hx1:aK.F rec x depth=[]++((gf.mk (Expr.mk x.Kind x.N x.No x.Name x.L) depth)::((aK.L1 rec depth (aK.K1)) x.L)):=hs0
 let z1:Nat×Obj:=(b1,O [.func yf ya yb] 366)
 refine aF (jW ([z1]) A ap (hy [] (gf.mk (Expr.mk x.Kind x.N x.No x.Name x.L) depth) _ _ _ _ hx1 lf hC ⟨(yD.mk (cG.mk fP.jB fP.jC)),U,(show gf.ok h1 (gf.mk (Expr.mk x.Kind x.N x.No x.Name x.L) depth) (yD.mk (cG.mk fP.jB fP.jC)) from ⟨(show Expr.ok h1 (Expr.mk x.Kind x.N x.No x.Name x.L) (cG.mk fP.jB fP.jC) from Expr.ok.of (hx.list.mono Expr.ao hle))⟩)⟩) U U (fun h2 A1 hle1 hC1=>?_) (fun h3 A2 hle2 hS1=>?_) (fun ch1 h4 A3 hle3 hP1 e=>gp (lG [] (A:=A3) C3 (List.sublist_append_right _ _) hP1)))
 ·have hs1:aK.F rec x depth=[(gf.mk (Expr.mk x.Kind x.N x.No x.Name x.L) depth)]++(((aK.L1 rec depth (aK.K1)) x.L)):=hx1.trans ap
  refine qL 7 [] U (kd (j:=4) ty60 (ax.mono (hle.t hle1)) U U (qL 3 [] U (dY (cu (L':=[z1]++(A1++(markB []))) ap ?_))))
  refine pF (ι:=Nat×List gf×LH×List Nat×HF) (fun i=>[]) (fun i=>marks i.2.2.2.1) (fun i=>i.2.2.2.2) (fun i=>[z1]++(i.2.2.1++(markB i.2.2.2.1))) (fun i=>i.1≤x.L.length∧aK.F rec x depth=i.2.1++((aK.K1))∧C i.2.1 i.2.2.2.2 i.2.2.1∧HF.le h2 i.2.2.2.2) ?_ (fun hx1=>?_)
  ·rintro ⟨i1,dn1,A1_,rs1,hh1⟩ ⟨fA,hs2,hC1_,hl1⟩ e
   refine cu (L':=([z1]++(A1_))++markB rs1) ap ?_
   have hs3:aK.F rec x depth=dn1:=hs2.trans (List.append_nil _)
   exact pV rs1 (A:=A1_) C3 U js (.inl (hs3 ▸ hC1_))
  refine tK (ι:=Nat×List gf×LH×List Nat×HF×List Expr) (fun i=>[(2,.pointer (some depth_q)),(3,Q b1),(14,.slice fP.jB x.L.length fP.jC),(15,I (x.L.length:Int)),(16,I (i.1:Int))]) (fun i=>marks i.2.2.2.1) (fun i=>i.2.2.2.2.1) (fun i=>[z1]++(i.2.2.1++(markB i.2.2.2.1))) (fun i=>x.L.drop i.1=i.2.2.2.2.2∧i.1≤x.L.length∧aK.F rec x depth=i.2.1++((aK.L1 rec depth (aK.K1)) i.2.2.2.2.2)∧C i.2.1 i.2.2.2.2.1 i.2.2.1∧HF.le h2 i.2.2.2.2.1) (fun i=>i.2.2.2.2.2.length) (0,[(gf.mk (Expr.mk x.Kind x.N x.No x.Name x.L) depth)],A1,[],h2,x.L) U rd sw ⟨U,Nat.zero_le _,hs1,hC1,lf⟩ ?_
  rintro ⟨i1,dn1,A1_,rs1,hh1,s1⟩ ⟨hd1,fA,hs4,hC1_,hl1⟩ ag1 e
  rcases s1 with _ | ⟨y1,rz1⟩
  ·have il:=nH hd1
   exact sr (aw (v':=.bool false) U (cb il) (qO 4 U (hx1 (i1,dn1,A1_,rs1,hh1) _ ⟨fA,hs4,hC1_,hl1⟩ trivial)))
  have dx:=rW hd1
  have aL:=rG hd1
  have eH:=jr hd1
  have hO:=(hx.list.mono Expr.ao (hle.t hle1)).1.1
  have hdy:=Expr.iU (gi hd1)
  refine sr (aw (v':=.bool true) U (cb dx) (qO 8 U (aF (gC kk ty62 (hx.list.mono Expr.ao ((hle.t hle1).t hl1)).1 (nthZ aL) (ba aL) U U U (fun _ _ _ e=>e) (fun q2 r2 A8 ok2=>dz ty62 A8 U U (aV zc62 (fun b4=>aS 0 ty62 U U U U U U (iw (L':=[(b4,O (Expr.cells y1 r2) 62),z1]++(A1_++(markB rs1))) U (qO 3 U (cW 0 ty62 U U U (dF ty3 (adepth.mono ((hle.t hle1).t hl1)) U (aw (v':=I (depth+1)) U (jV ob) (aF (cY He (hrec _ _ _ (depth+1) ok2 ob (Expr.iU (gi hd1))) U (fun v2 h9 hle8 hp2=>?_)))))))))))))))
  obtain ⟨_,rfl,mo2⟩:=hp2
  refine qO 2 U ?_
  let z2:Nat×Obj:=(b4,O (Expr.cells y1 r2) 62)
  refine cu (L':=([z2,z1]++(A1_))++markB rs1) ap ?_
  refine jw (it:=v2) (xs:=(rec y1 (depth+1))) (ι:=List gf×LH×HF) rs1 (fun i=>i.2.2) (fun i=>[z2,z1]++(i.2.1)) (fun s i=>aK.F rec x depth=i.1++((aK.L3 ((aK.L1 rec depth (aK.K1) rz1))) s)∧C i.1 i.2.2 i.2.1∧HF.le h9 i.2.2) (fun i=>Sp i.2.2 i.2.1∧HF.le h9 i.2.2) (fun _=>False) 0 (fun ch h L=>∃ B,B.Sublist L∧Pn ch h B) (dn1,A1_,h9) C3 U mo2 U mM (fun _ _ _ _ hl ⟨B,hs,hp⟩=>⟨B,hs,m3 _ _ _ _ hl hp⟩) U (show [z2,z1]++(A1_)=_ from U) ⟨hs4,(m1 _ _ _ _ hle8 hC1_),lf⟩ ?_ ?_ ?_ ?_ ?_
  ·rintro l3 dm3 lp3 y3 rz3 vs3 ⟨dn3,A3_,hh3⟩ hr3 X hFR3 ⟨hs6,hC3_,hl3⟩ hl03 hlr3 hv3 hX hXM hlp3 nx3 rt3 ex3 pn3
   obtain ⟨rr3_0,rfl,ok3_0⟩:=hv3
   let z3:Nat×Obj:=(dm3,.deferred (some []))
   refine cu (L':=[(l3,.loop lp3),z3,z2,z1]++(A3_++(markB rs1))) ap (ay (aV zc327 (fun b6=>aS 0 ty327 U U U U U U (iw (L':=[(b6,O (gf.cells y3 rr3_0) 327),(l3,.loop lp3),z3,z2,z1]++(A3_++(markB rs1))) U (aD (jh 1 U hlp3 (qK 4 [4] U (cW 0 ty327 U U U ?_))))))))
   have hx4:aK.F rec x depth=dn3++(y3::((aK.L3 ((aK.L1 rec depth (aK.K1) rz1))) rz3)):=hs6
   let z4:Nat×Obj:=(l3,.loop { lp3 with state:=.busy })
   refine aF (JH ([(b6,O (gf.cells y3 rr3_0) 327),z4,z3,z2,z1]) A3_ (markB rs1) ap (hy dn3 y3 _ _ _ _ hx4 ((((hle1.t hl1).t hle8).t hl3).t hlr3) (m1 _ _ _ _ hlr3 hC3_) ⟨rr3_0,U,ok3_0⟩) U U (fun h13 A12 hle12 hC4=>?_) (fun h14 A13 hle13 hS4=>?_) (fun ch4 h15 A14 hle14 hP4 e=>vR (L':=[z4,z3]++(A14++(markB rs1))) js (pn3 _ _ _ A14 ⟨A14,List.Sublist.refl _,hP4⟩)))
   ·have hs7:aK.F rec x depth=(dn3++[y3])++(((aK.L3 ((aK.L1 rec depth (aK.K1) rz1))) rz3)):=hx4.trans ap
    exact kz U (qO 4 U (bB (L':=[z4,z3,z2,z1]++(A12++(markB rs1))) js (cu (L':=rdH l3 dm3 lp3 (([z2,z1]++(A12))++markB rs1)) ap (nx3 ((dn3++[y3]),A12,h13) _ _ ⟨hs7,hC4,((hl3.t hlr3).t hle12)⟩ lf))))
   exact kz U (qO 2 U (bB (L':=[z4,z3,z2,z1]++(A13++(markB rs1))) js (cu (L':=rdH l3 dm3 lp3 (([z2,z1]++(A13))++markB rs1)) ap (rt3 (dn3,A13,h14) _ _ _ ⟨hS4,((hl3.t hlr3).t hle13)⟩ lf))))
  ·rintro dm3 ⟨dn3,A3_,hh3⟩ hn3 ⟨hs8,hC3_,hl3⟩ hln3 hl03
   exact cu (L':=[z2,z1]++(A3_++(markB (dm3::rs1)))) ap (qT 3 U (aw (v':=I (((i1+1):Nat):Int)) U (bw ob) (qO 2 U (bB (L':=[z1]++(A3_++(markB (dm3::rs1)))) js (ag1 ((i1+1),dn3,A3_,(dm3::rs1),hn3,rz1) _ (Nat.lt_succ_self _) ⟨lQ hd1,jr hd1,hs8,(m1 _ _ _ _ hln3 hC3_),(((hl1.t hle8).t hl3).t hln3)⟩ rd)))))
  ·rintro dm3 ⟨dn3,A3_,hh3⟩ hn3 ⟨hS5,hl3⟩ hln3 hl03
   exact cu (L':=[z2,z1]++(A3_++(markB (dm3::rs1)))) ap (cu (L':=([z2,z1]++(A3_))++markB (dm3::rs1)) ap (lq (dm3::rs1) (A:=A3_) C3 U js (.inr (m2 _ _ _ hln3 hS5))))
  ·exact xf
  rintro dm3 ch hn3 L0 ⟨B,hB,hp⟩ hl03
  exact lG (dm3::rs1) C3 hB hp
 exact kz U (qO 2 U (dY (lq [] (A:=A2) C3 U js (.inr hS1))))
theorem oz:∀ (m:Nat) (h:HF) (x:Expr) (fP:cG) (depth:Int) (_:Expr.ok h x fP) (_:0≤depth∧depth+x.dep≤2000000) (_:x.dep≤m),jN prog 282 [.agg (Expr.cells x fP).toArray,I depth] h (fun v h'=>∃ rv0:Value,v=rv0∧Itr prog rv0 rT (aK.go m x depth) h')
 | 0,h,x,fP,depth,hx,hb,hd=>absurd hd (Nat.not_le.2 (Expr.kB _))
 | m+1,h,x,fP,depth,hx,hb,hd=>by
  exact cz func282 U ntmps282 U fun X hM hX=>sr (cA (fun b1=>cA (fun b2=>qO 4 U (aT 1 U hM (fun h2 hle2 hb2=>aT 0 U hM (fun h3 hle3 hb3=>aF (et U U (an (jd [.func (.func 329) #[] #[Q b1,Q b2]] func282 U rd ⟨_,U,ue (aK.go m) h3 x fP ⟨b1,0,none⟩ depth ⟨b2,0,none⟩ (fun h' y Nq d' hy hb' hl=>oz m h' y Nq d' hy hb' ob) (hx.mono (hle2.t hle3)) ((ct hb2).mono hle3) (ct hb3) hb⟩)))))))))
theorem lI (h:HF) (x:Expr) (fP:cG) (depth:Int) (hx:Expr.ok h x fP) (hb:0≤depth∧depth+x.dep≤2000000):jN prog 282 [.agg (Expr.cells x fP).toArray,I depth] h (fun v h'=>∃ rv0:Value,v=rv0∧Itr prog rv0 rT (bq x depth) h'):=oz _ h x fP depth hx hb (Nat.le_refl _)
theorem gO (h:HF) (ok:Bool) (Ma:Int)  : CV prog 324 [.bool ok,I Ma] h (exW stopV (fun r:Unit=>(.tuple #[]:Value)) (eD ok Ma)):=by
 refine cz func324 U ntmps324 U fun X hM hX=>?_
 have hs0:eD ok Ma=eD ok Ma:=rfl
 refine qT 5 U (ai hs0 U (fun c1 hs1=>?_) (fun c1 hs2=>?_))
 ·exact ay (aj (aF (fw (cells:=[I Ma]) (places:=[(0,1)]) underlying358 zc358 kr kr (aF (fg (zY underlying358 U U) (aF (zU U uL (fun e=>gp (mq [] func324 hX (congrArg (exW stopV (fun r:Unit=>(.tuple #[]:Value))) hs1))))))))))
 refine aJ ?_
 have hs3:eD ok Ma=(Except.ok ()):=hs2
 exact dY (uH [] [] func324 U hX trivial (congrArg (exW stopV (fun r:Unit=>(.tuple #[]:Value))) hs3))
theorem Ix {c:Bool} {e:Int} {u:Unit} (h:eD c e=.ok u):c=true:=by
 cases c with
 | true=>rfl
 | false=>simp [eD] at h
theorem kP (h:HF) (p:Policy) (fL:el) (hp:Policy.ok h p fL) (hsz0:p.Rules.length≤2000000):jN prog 325 [.agg (Policy.cells p fL).toArray] h (fun v h'=>∃ (rb0:Option Addr) (rc0:Nat),v=.slice rb0 (aB p).length rc0∧SlC Expr.rp h' rb0 rc0 (aB p)):=by
 refine sT func325 U ntmps325 U fun X hM hX hF=>?_
 have hs0:aB p=aB p:=rfl
 refine sr (cA (fun b1=>qL 10 [0] U ?_))
 let z2:Nat×Obj:=(b1,O (Policy.cells p fL) 64)
 refine lp2 p.Rules (fun i w=>[(1,Q b1),(2,.slice w.2.1 w.1.length w.2.2.1),(6,.slice fL.lv p.Rules.length fL.lu),(7,I (p.Rules.length:Int)),(8,I (i:Int))]) (fun _=>h) (fun w=>[z2]++(w.2.2.2)) (fun i w=>em Expr.rp 62 h w.1 w.2.1 w.2.2.1 w.2.2.2∧w.1.length≤0+i) (fun s1 i w=>(aB.L1 (aB.K1 p)) s1 w.1) ([],none,0,[]) hp.Rules.1.1 hs0 ⟨em.nil,lo⟩ ?_ ?_
 ·rintro i1 ⟨CK,MW,MV,L8⟩ fA hs1 ⟨FL,Ku⟩ e
  try dsimp only at FL Ku
  refine qK 4 [] U (cW 0 ty62 U U U (aF (bV (cells:=[I p.Change.Kind,I p.Change.N,I p.Change.No,.string p.Change.Name,.slice fL.Change.jB p.Change.L.length fL.Change.jC]) kk ty62 zc62 U U kr (fun b5=>?_))))
  let z1:Nat×Obj:=(b5,O [I p.Change.Kind,I p.Change.N,I p.Change.No,.string p.Change.Name,.slice fL.Change.jB p.Change.L.length fL.Change.jC] 62)
  refine aF (eR Expr.eF ([z1,z2]) ([]) (fun G=>[z1,z2]++G) ap (fun _=>ap) kk ty62 zc62 U bytes62 FL U U (fI 0 U (show bu Expr.rp h [I p.Change.Kind,I p.Change.N,I p.Change.No,.string p.Change.Name,.slice fL.Change.jB p.Change.L.length fL.Change.jC] ([p.Change]) from ⟨[I p.Change.Kind,I p.Change.N,I p.Change.No,.string p.Change.Name,.slice fL.Change.jB p.Change.L.length fL.Change.jC],[],U,U,⟨fL.Change,U,hp.Change⟩,U⟩)) lo lo (fun ob3 oc3 G3 gr3=>an (gL Expr.ao ([z1,z2]) G3 ([]) ap hM gr3 (fun h2 hle2 sl2=>?_))))
  have hs2:aB p=(CK++[p.Change]):=hs1
  exact nretH [.slice ob3 ((CK++[p.Change]).length) oc3] ⟨ob3,oc3,congrArg (fun r:List Expr=>(.slice ob3 r.length oc3:Value)) hs2.symm,(by rw [hs2];exact sl2)⟩
 rintro i1 ⟨CK,MW,MV,L8⟩ y1 rz1 hd1 dx aL eH hO hs3 ⟨FL,Ku⟩ hx1 ag1 e
 try dsimp only at FL Ku
 exact sr (aw (v':=.bool true) U (cb dx) (qO 8 U (aF (gC si ty79 hp.Rules.1 (nthZ aL) (ba aL) U U U (fun _ _ _ e=>e) (fun q2 r2 A2 ok2=>dz ty79 A2 U U (aV zc79 (fun b6=>aS 0 ty79 U U U U U U (iw (L':=[(b6,O (Rule.cells y1 r2) 79),z2]++(L8)) U (qL 4 [] U (cW 0 ty62 U U U (aF (bV (cells:=[I y1.Expr.Kind,I y1.Expr.N,I y1.Expr.No,.string y1.Expr.Name,.slice r2.Expr.jB y1.Expr.L.length r2.Expr.jC]) kk ty62 zc62 U U kr (fun b7=>aF (eR Expr.eF ([(b7,O [I y1.Expr.Kind,I y1.Expr.N,I y1.Expr.No,.string y1.Expr.Name,.slice r2.Expr.jB y1.Expr.L.length r2.Expr.jC] 62),(b6,O (Rule.cells y1 r2) 79),z2]) ([]) (fun G=>[(b7,O [I y1.Expr.Kind,I y1.Expr.N,I y1.Expr.No,.string y1.Expr.Name,.slice r2.Expr.jB y1.Expr.L.length r2.Expr.jC] 62),(b6,O (Rule.cells y1 r2) 79),z2]++G) ap (fun _=>ap) kk ty62 zc62 U bytes62 FL U U (fI 0 U (show bu Expr.rp h [I y1.Expr.Kind,I y1.Expr.N,I y1.Expr.No,.string y1.Expr.Name,.slice r2.Expr.jB y1.Expr.L.length r2.Expr.jC] ([y1.Expr]) from ⟨[I y1.Expr.Kind,I y1.Expr.N,I y1.Expr.No,.string y1.Expr.Name,.slice r2.Expr.jB y1.Expr.L.length r2.Expr.jC],[],U,U,⟨r2.Expr,U,ok2.Expr⟩,U⟩)) lo lo (fun ob4 oc4 G4 gr4=>qO 4 U (aw (v':=I (((i1+1):Nat):Int)) U (bw ob) (qO 2 U (bB (L':=[z2]++G4) js (ag1 ((CK++[y1.Expr]),ob4,oc4,G4) hs3 ⟨gr4,lo⟩)))))))))))))))))))
theorem HY (p:Policy):∀ (l:List Rule) (g:List Expr),aB.L1 (aB.K1 p) l g=g++(l.map (·.Expr)++[p.Change])
 | [],g=>by simp [aB.L1,aB.K1]
 | y::l,g=>by simp [aB.L1,HY p l]
theorem KD (p:Policy):aB p=p.Rules.map (·.Expr)++[p.Change]:=by
 unfold aB;rw [HY];simp
theorem xC {p:Policy} (h:smP p) {y:Expr} (hy:y∈aB p):y.dep≤1500000:=by
 rw [KD] at hy
 rcases List.mem_append.1 hy with hy | hy
 ·obtain ⟨r,hr,rfl⟩:=List.mem_map.1 hy;exact h.2.1 r hr
 rw [List.mem_singleton.1 hy];exact h.2.2.1
theorem w8 (h:HF) (p:Policy) (fL:el) (hp:Policy.ok h p fL) (hsm:smP p):CV prog 278 [.agg (Policy.cells p fL).toArray] h (exW stopV (fun r:Unit=>(.tuple #[]:Value)) (cj p)):=by
 refine cz Hd U ntmps278 U fun X hM hX=>?_
 have hs0:cj p=cj p:=rfl
 have hsr:=hsm.rules
 have hsc:=hsm.change
 refine sr (cA (fun b1=>qL 8 [0] U (bC 5 [10,11,12,13,14,15] 10 15 (decide ((p.Kinds.length:Int)≤16)) U (fun c1 hk1=>?_) (fun e=>?_))))
 ·exact qL 5 [0] U (hk1 _ U)
 refine aj (bC 5 [16,17,18,19,20,21] 16 21 (decide ((p.Rules.length:Int)≤16)) U (fun c2 hk2=>?_) (fun e=>?_))
 ·exact qL 5 [0] U (hk2 _ U)
 refine aF (li vx (gO h ((decide ((p.Offices.length:Int)≤32)&&decide ((p.Kinds.length:Int)≤16))&&decide ((p.Rules.length:Int)≤16)) 2) U (fun u1 hu1=>?_) (fun pv1 hpv1 e=>?_))
 ·obtain ⟨rx1,hrx1,rfl⟩:=mZ hu1
  have hs1:=hs0.trans (nD hrx1)
  cases rx1
  refine qO 3 U (cW 0 ty64 U U U (aF (cY call325 (kP _ _ _ hp ob) U (fun v1 h1 hle1 hp1=>?_))))
  obtain ⟨rb1,rc1,rfl,sl1⟩:=hp1
  refine qL 3 [] U (dY ?_)
  let z1:Nat×Obj:=(b1,O (Policy.cells p fL) 64)
  refine cu (L':=[z1]++(markB [])) ap ?_
  refine pF (ι:=Nat×List Nat×HF) (fun i=>[]) (fun i=>marks i.2.1) (fun i=>i.2.2) (fun i=>[z1]++(markB i.2.1)) (fun i=>i.1≤(aB p).length∧cj p=((cj.K1))∧HF.le h1 i.2.2) ?_ (fun hx1=>?_)
  ·rintro ⟨i1,rs1,hh1⟩ ⟨fA,hs2,hl1⟩ e
   have hs3:cj p=(Except.ok ()):=hs2
   exact cu (L':=([z1])++markB rs1) ap (uH rs1 [] Hd U hX trivial (congrArg (exW stopV (fun r:Unit=>(.tuple #[]:Value))) hs3))
  refine tK (ι:=Nat×List Nat×HF×List Expr) (fun i=>[(24,.slice rb1 ((aB p).length) rc1),(25,I ((aB p).length:Int)),(26,I (i.1:Int))]) (fun i=>marks i.2.1) (fun i=>i.2.2.1) (fun i=>[z1]++(markB i.2.1)) (fun i=>(aB p).drop i.1=i.2.2.2∧i.1≤(aB p).length∧cj p=((cj.L1 (cj.K1)) i.2.2.2)∧HF.le h1 i.2.2.1) (fun i=>i.2.2.2.length) (0,[],h1,(aB p)) U rd sw ⟨U,Nat.zero_le _,hs1,lf⟩ ?_
  rintro ⟨i1,rs1,hh1,s1⟩ ⟨hd1,fA,hs4,hl1⟩ ag1 e
  rcases s1 with _ | ⟨y1,rz1⟩
  ·have il:=nH hd1
   exact sr (aw (v':=.bool false) U (cb il) (qO 4 U (hx1 (i1,rs1,hh1) _ ⟨fA,hs4,hl1⟩ trivial)))
  have dx:=rW hd1
  have aL:=rG hd1
  have eH:=jr hd1
  have hO:=sl1.1.1
  try have hsy:=xC hsm (gi hd1)
  refine sr (aw (v':=.bool true) U (cb dx) (qO 8 U (aF (gC kk ty62 (sl1.mono Expr.ao hl1).1 (nthZ aL) (ba aL) U U U (fun _ _ _ e=>e) (fun q2 r2 A2 ok2=>dz ty62 A2 U U (aV zc62 (fun b5=>aS 0 ty62 U U U U U U (qO 3 U (aV zc3 (fun b6=>cJ 0 ty3 U U U U U U (qO 3 U (cW 1 ty62 U U U (aF (cY He (lI _ _ _ 1 ok2 ob) U (fun v3 h3 hle3 hp3=>?_)))))))))))))))
  obtain ⟨_,rfl,mo2⟩:=hp3
  refine qO 2 U ?_
  let z2:Nat×Obj:=(b5,O (Expr.cells y1 r2) 62)
  refine cu (L':=([(b6,O [I 0] 3),z2,z1])++markB rs1) ap ?_
  refine jw (it:=v3) (xs:=(bq y1 1)) (ι:=Int×HF) rs1 (fun i=>i.2) (fun i=>[(b6,O [I i.1] 3),z2,z1]) (fun s i=>cj p=((cj.L3 (fun zg3_b6_0=>(cj.L1 (cj.K1) rz1))) s i.1)∧HF.le h3 i.2) (fun _=>False) (fun _=>False) 0 (fun ch _ _=>∃ pv_,ch=[{ v:=stopV pv_,recovered:=false }]∧cj p=.error pv_) (0,h3) Hd U mo2 U mM (fun _ _ _ _ _ hq=>hq) U (show [(b6,O [I 0] 3),z2,z1]=_ from U) ⟨hs4,lf⟩ ?_ ?_ ?_ ?_ ?_
  ·rintro l3 dm3 lp3 y3 rz3 vs3 ⟨oh,hh3⟩ hr3 X hFR3 ⟨hs6,hl3⟩ hl03 hlr3 hv3 hX hXM hlp3 nx3 rt3 ex3 pn3
   obtain ⟨rr3_0,rfl,ok3_0⟩:=hv3
   let z4:Nat×Obj:=(dm3,.deferred (some []))
   refine cu (L':=[(l3,.loop lp3),z4,(b6,O [I oh] 3),z2,z1]++(markB rs1)) ap (ay (aV zc327 (fun b8=>aS 0 ty327 U U U U U U (aD (jh 1 U hlp3 (qK 5 [3] U (cJ 3 ty3 U U U U U U (qL 5 [3] U (bC 4 [37,38,39,40,41] 37 41 (decide (y3.depth≤16)) U (fun c3 hk3=>?_) (fun e=>?_))))))))))
   ·exact qL 4 [0] U (hk3 _ U)
   refine aF (li vx (gO hr3 (decide ((IntKind.wrap .i64 (oh+1))≤256)&&decide (y3.depth≤16)) 2) U (fun u2 hu2=>?_) (fun pv2 hpv2 e=>?_))
   ·obtain ⟨rx2,hrx2,rfl⟩:=mZ hu2
    have hs7:=hs6.trans (nD hrx2)
    cases rx2
    refine qO 2 U ?_
    let z3:Nat×Obj:=(b6,O [I (IntKind.wrap .i64 (oh+1))] 3)
    exact bB (L':=[(l3,.loop { lp3 with state:=.busy }),z4,z3,z2,z1]++(markB rs1)) js (cu (L':=rdH l3 dm3 lp3 (([z3,z2,z1])++markB rs1)) ap (nx3 ((IntKind.wrap .i64 (oh+1)),hr3) _ _ ⟨hs7,(hl3.t hlr3)⟩ lf))
   obtain ⟨pv2e,hpv2e,rfl⟩:=lr hpv2
   have hs8:=hs6.trans (lO hpv2e)
   exact vR (L':=[(l3,.loop { lp3 with state:=.busy }),z4]++(markB rs1)) js (pn3 _ _ _ [] ⟨_,U,hs8⟩)
  ·rintro dm3 ⟨oh,hh3⟩ hn3 ⟨hs9,hl3⟩ hln3 hl03
   exact cu (L':=[(b6,O [I oh] 3),z2,z1]++(markB (dm3::rs1))) ap (qT 3 U (aw (v':=I (((i1+1):Nat):Int)) U (bw ob) (qO 2 U (bB (L':=[z1]++(markB (dm3::rs1))) js (ag1 ((i1+1),(dm3::rs1),hn3,rz1) _ (Nat.lt_succ_self _) ⟨lQ hd1,jr hd1,hs9,(((hl1.t hle3).t hl3).t hln3)⟩ rd)))))
  ·exact xf
  ·exact xf
  rintro dm3 ch hn3 L0 ⟨pv_,rfl,hpv_⟩ hl03
  exact mq (dm3::rs1) Hd hX (congrArg (exW stopV (fun r:Unit=>(.tuple #[]:Value))) hpv_)
 obtain ⟨pv1e,hpv1e,rfl⟩:=lr hpv1
 have hs10:=hs0.trans (lO hpv1e)
 exact gp (mq [] Hd hX (congrArg (exW stopV (fun r:Unit=>(.tuple #[]:Value))) hs10))
end Go.Sg
namespace Go.Sg
open Go.Proofs Go.Proofs.Tryz
theorem ext282:Extern.find Tryz.f388=some Extern.BytealgIndexByte.indexByte:=by kernel_rfl
theorem ext282n:Extern.findNext Tryz.f388=none:=by kernel_rfl
theorem run282 (s:ByteArray) (c:Int) (w:World):(Extern.BytealgIndexByte.indexByte #[.string s,.int .u8 c]).run prog w=.ok (.int .i64 (idxByte s c)) w:=by
 show (do
  let b ← Extern.Bytes.bytesOf (.string s)
  let c ← Extern.Bytes.asByte (.int .u8 c)
  match (List.range b.size).find? fun i=>b[i]! == c with
  | some i=>pure (goInt i)
  | none=>pure (goInt (-1)):Sem Value).run prog w=_
 simp only [Extern.Bytes.bytesOf,Extern.Bytes.asByte,Sem.run_bind,Sem.run_pure,Result.andThen_ok,idxByte,goInt]
 cases hf:(List.range s.size).find? (fun i=>s[i]! == UInt8.ofNat c.toNat) with
 | none=>simp only [show c.toNat.toUInt8=UInt8.ofNat c.toNat from rfl,hf];simp
 | some i=>simp only [show c.toNat.toUInt8=UInt8.ofNat c.toNat from rfl,hf];simp
theorem call282 (s:ByteArray) (c:Int) (w:World):(callFunc 388 #[.string s,.int .u8 c]).run prog w=.ok (.value (.int .i64 (idxByte s c))) w:=by
 have hb:Tryz.f388.body.isNone=true:=by kernel_rfl
 have hn : (Tryz.f388.name == "runtime.NumGoroutine") = false := by kernel_rfl
 simp only [callFunc,Sem.run_bind,run_program,Result.andThen_ok,func388,hn,hb,ext282,ext282n]
 simp [run282]
theorem J4 {e:Env} {X:Cx} {h:HF} {L:LH} {d:Option Nat} {ty:TypeId} {pos:String} {af:Array Edge} {g:Option (Nat×Bool)} {x y:Operand} {ats:Array TypeId} {s:ByteArray} {c:Int} (hx:e.ev x=.string s) (hy:e.ev y=.int .u8 c):
  ∀ w,St X h L w→(execOp e.ev ⟨d,.call ⟨.value (.func 388),#[x,y],ats⟩,ty,pos,af,g⟩).run prog w=.ok (.value (.int .i64 (idxByte s c))) w:=
 fun w _=>by
  have hf:e.ev (.func 388)=.func (.func 388) #[] #[]:=rfl
  simp [execOp,resolve,hf,Deferred.ofValue,invoke,hx,hy,call282]
end Go.Sg
