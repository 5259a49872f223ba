import Derived.Test.YtgddeppkkjefjaaGreatDoorProg
import Derived.ChangeArms
import Derived.OpenShut
import Derived.Test.YtgddeppkkjefjaaGreatDoorRows
import Derived.LaidHandle
import Derived.WordedOn
import Derived.ChangeSame
import Derived.Carry
import Derived.Test.YtgddeppkkjefjaaGreatDoorW3
/- A part of the proof of AsofJudged. -/
set_option linter.unusedVariables false
set_option linter.unusedSimpArgs false
set_option maxRecDepth 100000
open List renaming length_cons→zA,not_mem_nil→jA,mem_cons_of_mem→vA,length_append→kA,mem_cons_self→zB,length_nil→vB,toArray→kB,mem_cons→qC,mem_singleton→xC,append_assoc→qE,getElem?_eq_getElem→vF,nil_append→zG,map_cons→kG,mem_append→xH,getElem?_eq_none→xJ,range→jJ,mem_map→kJ,mem_map_of_mem→zM,cons_append→jM,mem_filter→RP,all_eq_true→Si,ext_getElem?→Ta,map_nil→T8
open Go.Value renaming int→xB,bool→Sl
open Bool renaming and_eq_true→jB,not_eq_true'→kC,or_eq_true→xD,eq_iff_iff→vN
open Go.Sg.Rp renaming int→zC
open Go.Sg.Approval renaming cells→zD
open Go.Sg.Interest renaming cells→jD,rp→vL,mk→zW
open Go.IntKind renaming wrap→zE
open Go.Sg.OSeat renaming cells→kE,enc→R4,mk→S7
open Nat renaming le_refl→xG,lt_or_ge→vK,zero_le→vM,le_trans→jP,blt→zR,eq_of_beq_eq_true→vS,beq→SP
open Go.Obj renaming cells→qJ
open Go.Sg.Deputy renaming cells→kM,rp→Sr
open Go.Sg.Appoint renaming cells→xP,rp→kR
open Option.some renaming injEq→zQ,inj→xT
open Go.Addr renaming add→zT
open Go.Sg.Expr renaming iW→kV,depL→S3,dep→T2
open Go.Frame renaming enter→RX
open Go.Sg.Span renaming cells→Sk
open Array renaming replicate→Sy
open Prod.mk renaming injEq→Tu
open Go.RowKit renaming Below→Ux

namespace Go.Sg
variable {c:bL}{doc known th:Int}{hs:List (List Holder)}{m:List (Int×Bool)}{q:List gN}{signed who:List Int}{st:List Interest}{x:Approval}{α ρ:Type}
section
theorem Ns{r:Register}(hj:et r=0)(hD:0<=dc r doc)(hk:0<=known/\known<1099511627776)(hp:(∀x∈who,0<=x/\x<64)/\who.Pairwise (·<·)):
  ∃s,eu r doc who known=(s,0)/\KL (bF ⟨r,nthI r.Docs (dc r doc),known⟩ who) s 1099511627776:=by
 obtain⟨d1,d2,d3,d4,d5,d6,d7⟩:=(lY r).1 hj
 obtain⟨hd1,hd2,hd3⟩:=Pq hD
 have hd:=yk d6 _ hd2
 have hv:=(oS r.Versions).1 d5
 have hask:=QU (r:=r) (doc:=doc) (known:=known) hD hk
 have c1:=(CA r.Appoints).symm.trans d1
 have c3:=(yR r.Interests).symm.trans d3
 generalize hdd:nthI r.Docs (dc r doc)=d at *
 refine⟨(aE ⟨r,d,known⟩).foldl (stepT (bF ⟨r,d,known⟩ who)) [],?_,?_⟩
 .unfold eu
  rw[hj,Fq,hask,KJ hp]
  rfl
 .refine Jn (λx hx=>?_) λa b h0 hab hs=>H3 who hd.Qe hd.kind.1 h0 hab hs
  rcases hx with rfl|rfl|rfl|⟨a,ha,rfl⟩|⟨a,ha,rfl⟩|⟨v,hvm,rfl|⟨y,hy,rfl⟩⟩
  .exact Int.le_refl _
  .exact hd.at_.1
  .have:=hd.eW;show 0<=d.Until;omega
  .exact QP c1 a ha
  .exact QO c3 a ha
  .exact(hv.each v hvm).1.1
  .have h1:=((hv.okV.2 v hvm).2 y hy).1
   have h2:=hd.at_.1
   show 0<=d.At+y.Think;omega
theorem BK{α : Type}{R:α->Bool}{no:α->Int}{c:Int}(hc:c≠0):∀(l:List α)(g:Int),prgChk R no c l g=0↔(∀y∈l,R y=true/\g<no y)/\l.Pairwise (λa b=>no a<no b)
 |[],g=>by simp[prgChk]
 |y::l,g=>by
  have ih:=BK hc l (no y) (R:=R) (no:=no)
  simp only[prgChk,Bool.cond_eq_ite,xD,kC,decide_eq_true_eq]
  split
  .next h=>simp only[hc,false_iff];rintro⟨h1,_⟩;have:=h1 y (zB ..);rcases h with h|h<;>simp_all;omega
  .next h=>
   rw[ih]
   simp only[not_or,Bool.not_eq_false,Int.not_le]at h
   constructor
   .rintro⟨h1,h2⟩
    refine⟨λz hz=>?_,List.pairwise_cons.2 ⟨λz hz=>(h1 z hz).2,h2⟩⟩
    rcases qC.1 hz with rfl|hz
    .exact h
    .have:=h1 z hz;exact⟨this.1,by omega⟩
   .rintro⟨h1,h2⟩
    obtain⟨p1,p2⟩:=List.pairwise_cons.1 h2
    exact⟨λz hz=>⟨(h1 z (vA _ hz)).1,p1 z hz⟩,p2⟩
theorem mu{e:Int}(h:e=0):exOk (nz e):=by subst h;trivial
structure jt(c:bL):Prop where
 chk:et c.Register=0
 doc:c.doc∈c.Register.Docs
 time:0<=c.at_/\c.at_<1099511627776
 know:0<=c.known/\c.known<1099511627776
theorem jt.good(h:jt c):JW c.doc:=yk ((lY _).1 h.chk).2.2.2.2.2.1 _ h.doc
theorem jt.vers(h:jt c):yX c.Register.Versions:=(oS _).1 ((lY _).1 h.chk).2.2.2.2.1
theorem jt.kind(h:jt c):0<=c.doc.Kind/\c.doc.Kind<16:=h.good.kind
theorem approvalsP(l:List Approval)(g:Int):bX.L1 bX.K1 l g=prgChk jr (·.No) 280 l g:=by
 induction l generalizing g with
 |nil=>rfl
 |cons y l ih=>simp only[bX.L1,prgChk,ih]
theorem oK{l:List Approval}(h:bX l=0):∀x∈l,jr x=true:=by
 unfold bX at h
 rw[approvalsP]at h
 cases hd:decide (4096<(l.length:Int))with
 |true=>rw[hd]at h;simp at h
 |false=>rw[hd,cond_false,BK (by decide)]at h;exact λx hx=>(h.1 x hx).1
theorem xz(h:jr x=true):(0<=x.Doc/\x.Doc<4096)/\(0<=x.By/\x.By<64)/\(0<=x.For/\x.For<64)/\(0<=x.Office/\x.Office<32)/\(0<=x.At/\x.At<1099511627776):=by
 simp only[jr,dw,containsF,iu,List.any_cons,List.any_nil,Bool.or_false,jB,kC,Bool.or_eq_false_iff,decide_eq_false_iff_not]at h
 omega
theorem budgetsP(l:List Budget)(g:Int):cR.L1 cR.K1 l g=prgChk kX (·.No) 180 l g:=by
 induction l generalizing g with
 |nil=>rfl
 |cons y l ih=>simp only[cR.L1,prgChk,ih]
theorem Cf{l:List Budget}(h:cR l=0):∀x∈l,kX x=true:=by
 unfold cR at h
 rw[budgetsP]at h
 cases hd:decide (4096<(l.length:Int))with
 |true=>rw[hd]at h;simp at h
 |false=>rw[hd,cond_false,BK (by decide)]at h;exact λx hx=>(h.1 x hx).1
theorem FY{x:Budget}(h:kX x=true):x.Period≠0:=by
 simp only[kX,aW,containsF,iL,List.any_cons,List.any_nil,Bool.or_false,Bool.cond_eq_ite]at h
 split at h<;>simp only[jB,kC,Bool.or_eq_false_iff,decide_eq_false_iff_not]at h<;>omega
theorem FZ{l:List Budget}{kind t:Int}{x:Budget}(h:x∈bV l kind t known):x∈l:=by
 have h2:∀(g:List (gC×Budget))(s acc:List Budget),x∈bV.L2 g bV.K2 s acc->x∈acc\/x∈s:=by
  intro g s
  induction s with
  |nil=>intro acc h;exact .inl h
  |cons y s ih=>
   intro acc h
   simp only[bV.L2,Bool.cond_eq_ite]at h
   split at h
   .rcases ih _ h with h|h
    .rcases xH.1 h with h|h
     .exact .inl h
     .exact .inr (qC.2 (.inl (xC.1 h)))
    .exact .inr (vA _ h)
   .rcases ih _ h with h|h
    .exact .inl h
    .exact .inr (vA _ h)
 have h1:∀(s:List Budget)(g:List (gC×Budget)),x∈bV.L1 kind t known (bV.K1 l) s g->x∈l:=by
  intro s
  induction s with
  |nil=>intro g h;rcases h2 g l [] h with h|h;exact(jA h).elim;exact h
  |cons y s ih=>intro g h;simp only[bV.L1,Bool.cond_eq_ite]at h;(repeat' split at h)<;>exact ih _ h
 exact h1 _ _ h
theorem IJ{l:List Budget}{kind t:Int}{x:Budget}(h:cR l=0)(hx:x∈bV l kind t known):x.Period≠0:=FY (Cf h x (FZ hx))
theorem F2{l:List Approval}{t:Int}(h:x∈aJ l doc t known):x∈l:=by
 have hc:∀(s:List Approval),x∈bO.L1 doc t known bO.K1 s->x∈s:=by
  intro s
  induction s with
  |nil=>intro h;exact(jA h).elim
  |cons y s ih=>
   intro h
   simp only[bO.L1,Bool.cond_eq_ite]at h
   split at h
   .rcases qC.1 h with rfl|h
    .exact zB ..
    .exact vA _ (ih h)
   .exact vA _ (ih h)
 have h2:∀(g:List (fe×Approval))(s acc:List Approval),x∈aJ.L2 g aJ.K2 s acc->x∈acc\/x∈s:=by
  intro g s
  induction s with
  |nil=>intro acc h;exact .inl h
  |cons y s ih=>
   intro acc h
   simp only[aJ.L2,Bool.cond_eq_ite]at h
   split at h
   .rcases ih _ h with h|h
    .rcases xH.1 h with h|h
     .exact .inl h
     .exact .inr (qC.2 (.inl (xC.1 h)))
    .exact .inr (vA _ h)
   .rcases ih _ h with h|h
    .exact .inl h
    .exact .inr (vA _ h)
 have h1:∀(s:List Approval)(g:List (fe×Approval)),x∈aJ.L1 (aJ.K1 l doc t known) s g->x∈l:=by
  intro s
  induction s with
  |nil=>
   intro g h
   rcases h2 g (fj l doc t known) [] h with h|h
   .exact(jA h).elim
   .exact hc _ h
  |cons y s ih=>intro g h;simp only[aJ.L1,Bool.cond_eq_ite]at h;split at h<;>exact ih _ h
 exact h1 _ _ h
theorem vk{l:List Approval}{b t:Int}(h:x∈(cU l doc b th t known).1):x∈l:=by
 unfold cU at h
 simp only[Bool.cond_eq_ite]at h
 split at h
 .exact(jA h).elim
 .split at h
  .exact(jA h).elim
  .exact F2 (RP.1 h).1
section
variable {c:bL} (h:jt c)
include h
theorem Fg{p:Int}(hp:0<=p/\p<64):(cQ c.Register.Interests p c.doc.Parties c.at_ c.known).2.2=0:=
 Ib ((lY _).1 h.chk).2.2.1 hp h.good.parties h.time h.know
theorem xu{p:Policy}(hpr:p.Rules.length=p.Kinds.length/\∀y∈p.Rules,0<=y.Think/\y.Think<=1099511627775)(hk:0<=c.doc.Kind/\c.doc.Kind<(p.Rules.length:Int)):
  (cU c.Register.Approvals c.doc.No c.doc.At (nthI p.Rules c.doc.Kind).Think c.at_ c.known).2=0:=by
 have hth:=hpr.2 _ (lm hk)
 have h1:=h.good.no
 have h2:=h.good.at_
 have h3:=h.time
 have h4:=h.know
 have e1:dw 4095 [c.doc.No]=true:=by
  simp only[dw,containsF,iu,List.any_cons,List.any_nil,Bool.or_false,kC,Bool.or_eq_false_iff,decide_eq_false_iff_not];omega
 have e2:dw 1099511627775 [c.doc.At,(nthI p.Rules c.doc.Kind).Think,c.at_,c.known]=true:=by
  simp only[dw,containsF,iu,List.any_cons,List.any_nil,Bool.or_false,kC,Bool.or_eq_false_iff,decide_eq_false_iff_not];omega
 unfold cU
 rw[((lY _).1 h.chk).2.2.2.2.2.2,e1,e2];rfl
theorem vj{d b t:Int}(hx:x∈(cU c.Register.Approvals d b th t known).1):(0<=x.Doc/\x.Doc<4096)/\(0<=x.By/\x.By<64)/\(0<=x.For/\x.For<64)/\(0<=x.Office/\x.Office<32)/\(0<=x.At/\x.At<1099511627776):=
 xz (oK ((lY _).1 h.chk).2.2.2.2.2.2 x (vk hx))
theorem GX{d b t:Int}(hx:x∈(cU c.Register.Approvals d b th t known).1):0<=x.For/\x.For<64:=(vj h hx).2.2.1
theorem JA{d b t:Int}(hx:x∈(cU c.Register.Approvals d b th t known).1):0<=x.By/\x.By<64:=(vj h hx).2.1
theorem xr{d b t:Int}(hx:x∈(cU c.Register.Approvals d b th t known).1):(hO c.Register.Appoints x.Office x.For c.at_ c.known).2.2.2=0:=by
 obtain⟨_,_,h2,h3,_⟩:=vj h hx
 have h4:=h.time
 have h5:=h.know
 have e1:fo x.Office=true:=by simp only[fo,dT,jB,decide_eq_true_eq];omega
 have e2:gh x.For=true:=by simp only[gh,dT,jB,decide_eq_true_eq];omega
 have e3:∀z:Int,0<=z/\z<1099511627776->cZ z=true:=λz hz=>by simp only[cZ,dT,jB,decide_eq_true_eq];omega
 unfold hO
 rw[((lY _).1 h.chk).1,e1,e2,e3 _ h4,e3 _ h5]
 simp only[bne_self_eq_false,cond_false,Bool.not_true,Bool.or_false]
 cases(!(mhas (dp c.Register.Appoints c.at_ c.known) (S7 x.Office x.For))||(mgetD (dp c.Register.Appoints c.at_ c.known) (S7 x.Office x.For) (Appoint.mk 0 0 0 0 0 0 false)).Gone)<;>rfl
omit h in
theorem JL{l:List Deputy}{a o k v t n:Int}{g:List (Int×Int)}:(aI.K1 l a o k v t n g).2.2=0:=by
 unfold aI.K1
 cases(!(mhas g a))with
 |true=>rfl
 |false=>
  rw[cond_false]
  have:∀(s:List Nat)(i:Nat)(p:List Int)(q:Int),(aI.L4 l a o k v t n g aI.K4 s i p q).2.2=0:=by
   intro s
   induction s with
   |nil=>intro i p q;rfl
   |cons y s ih=>
    intro i p q
    simp only[aI.L4]
    have:∀(L:List Deputy)(p:List Int)(q:Int),(aI.L6 a g i (λzg6_16 zg6_31=>aI.L4 l a o k v t n g aI.K4 s (i+1) zg6_16 zg6_31) L p q).2.2=0:=by
     intro L
     induction L with
     |nil=>intro p q;exact ih _ _ _
     |cons z L ihL=>intro p q;simp only[aI.L6,Bool.cond_eq_ite];split;exact ih _ _ _;exact ihL _ _
    exact this _ _ _
  exact this _ _ _ _
omit h in
theorem ML{l:List Deputy}{a b o k v t n:Int}(h0:md l a b (cS.mk o k v t n)=0):(aI l a b o k v t n).2.2=0:=by
 unfold aI
 rw[h0]
 simp only[bne_self_eq_false,cond_false]
 have:∀(s:List Nat)(i:Nat)(g:List (Int×Int)),(aI.L1 l o k v t n (aI.K1 l a o k v t n) s i g).2.2=0:=by
  intro s
  induction s with
  |nil=>intro i g;exact JL
  |cons y s ih=>
   intro i g
   simp only[aI.L1]
   have:∀(L:List Deputy)(g:List (Int×Int)),(aI.L3 i (λzg3_b2_0=>aI.L1 l o k v t n (aI.K1 l a o k v t n) s (i+1) zg3_b2_0) L g).2.2=0:=by
    intro L
    induction L with
    |nil=>intro g;exact ih _ _
    |cons z L ihL=>intro g;simp only[aI.L3,Bool.cond_eq_ite];split<;>exact ihL _
   exact this _ _
 exact this _ _ _
theorem xw{d b t:Int}(hx:x∈(cU c.Register.Approvals d b th t known).1):
  (aI c.Register.Deputies x.For x.By x.Office c.doc.Kind c.doc.Value c.at_ c.known).2.2=0:=by
 obtain⟨_,h1,h2,h3,_⟩:=vj h hx
 have h4:=h.time
 have h5:=h.know
 have h6:=h.kind
 have h7:=h.good.value
 refine ML ?_
 have e2:∀z:Int,0<=z/\z<64->gi z=true:=λz hz=>by simp only[gi,di,jB,decide_eq_true_eq];omega
 have e3:∀z:Int,0<=z/\z<1099511627776->gu z=true:=λz hz=>by simp only[gu,di,jB,decide_eq_true_eq];omega
 have e4:di x.Office 0 31=true:=by simp only[di,jB,decide_eq_true_eq];omega
 have e5:di c.doc.Kind 0 15=true:=by simp only[di,jB,decide_eq_true_eq];omega
 have e6:di c.doc.Value 0 1099511627776=true:=by simp only[di,jB,decide_eq_true_eq];omega
 unfold md
 rw[((lY _).1 h.chk).2.1,e2 _ h1,e2 _ h2,e3 _ h4,e3 _ h5,e4,e5,e6];rfl
end
theorem Au{l:List Document}{b:Bool}(h:((!dv l signed)||b)=false):signed.length=l.length:=by
 simp only[dv,Bool.or_eq_false_iff,Bool.not_eq_false',jB,beq_iff_eq]at h
 have:=h.1.1
 omega
def playSame(P Q:fx):Prop:=Q.shelf=P.shelf/\Q.signed=P.signed/\Q.done.length=P.done.length/\Q.lacks.length=P.lacks.length
theorem playSame.refl(P:fx):playSame P P:=⟨rfl,rfl,rfl,rfl⟩
theorem playSame.trans{P Q R:fx}(h:playSame P Q)(k:playSame Q R):playSame P R:=⟨k.1.trans h.1,k.2.1.trans h.2.1,k.2.2.1.trans h.2.2.1,k.2.2.2.trans h.2.2.2⟩
theorem pi{β : Type}(f:fx->β->fx)(hf:∀P x,playSame P (f P x)):∀(l:List β)(P:fx),playSame P (l.foldl f P)
 |[],P=>.refl P
 |x::l,P=>(hf P x).trans (pi f hf l _)
theorem FF(sg:List Int)(i:Int)(P:fx)(no:Int):playSame P (playLack sg i P no):=by
 unfold playLack
 cases(cX P (mgetD P.shelf.at_ no 0) (nthI sg i)).1 != 0
 .exact .refl P
 .exact⟨rfl,rfl,rfl,by simp⟩
theorem Hw(P:fx)(i:Int):playSame P (playMid P i):=by
 refine playSame.trans (Q:={ P with lacks:=P.lacks.set i.toNat (-1) }) ⟨rfl,rfl,rfl,by simp⟩ ?_
 exact pi _ (λQ x=>FF _ _ _ _) _ _
theorem FG(P:fx)(i:Int):playSame P (playDone P i):=⟨rfl,rfl,by simp[playDone],rfl⟩
theorem Di(d:Document)(P:fx)(no:Int):playSame P (playRevoke d P no):=⟨rfl,rfl,rfl,rfl⟩
theorem FE(P:fx)(i:Int):playSame P (playStep P i):=by
 have h:=(Hw P i).trans (FG (playMid P i) i)
 unfold playStep
 cases decide (nthI (playMid P i).lacks i<0)
 .exact h
 .exact h.trans (pi _ (λQ x=>Di _ _ _) _ _)
theorem Cw(l:List Document)(signed:List Int)(t:Int):playSame (playP l signed) (cA l signed t):=pi _ FE _ _
theorem uV(l:List Document)(signed:List Int)(t:Int):(cA l signed t).shelf=ay l:=(Cw l signed t).1
theorem tC(l:List Document)(signed:List Int)(t:Int):(cA l signed t).shelf.docs=l:=by
 rw[uV]
 have:∀(s:List Document)(i:Nat)(g:List (Int×Int)),(ay.L1 (ay.K1 l) s i g).docs=l:=by
  intro s
  induction s with
  |nil=>intro i g;rfl
  |cons y s ih=>intro i g;exact ih _ _
 exact this _ _ _
theorem Cy(l:List Document)(signed:List Int)(t:Int):(cA l signed t).done.length=(cA l signed t).shelf.docs.length/\(cA l signed t).lacks.length=(cA l signed t).shelf.docs.length:=by
 have h:=Cw l signed t
 rw[tC]
 exact⟨h.2.2.1.trans (by simp[playP]),h.2.2.2.trans (by simp[playP])⟩
theorem Gs{l:List Document}{t:Int}{no:Int}(h:(!(mhas (cA l signed t).shelf.at_ no))=false):
  0<=mgetD (cA l signed t).shelf.at_ no 0/\mgetD (cA l signed t).shelf.at_ no 0<((cA l signed t).shelf.docs.length:Int):=by
 rw[tC]
 rw[uV]at h ⊢
 have hl:0<l.length:=by
  cases l with
  |nil=>exact Bool.noConfusion (show true=false from h)
  |cons=>simp
 have key:∀(s:List Document)(i:Nat)(g:List (Int×Int)),i+s.length=l.length->(∀p∈g,0<=p.2/\p.2<(l.length:Int))->∀p∈(ay.L1 (ay.K1 l) s i g).at_,0<=p.2/\p.2<(l.length:Int):=by
  intro s
  induction s with
  |nil=>intro i g _ hg;exact hg
  |cons y s ih=>
   intro i g hi hg
   simp only[zA]at hi
   exact ih (i+1) _ (by omega) (wW (P:=λx:Int=>0<=x/\x<(l.length:Int)) _ hg (by omega))
 exact yd (P:=λx:Int=>0<=x/\x<(l.length:Int)) no (key l 0 [] (by simp) (λ_ h=>(jA h).elim)) (by omega)
theorem rightH{n:Int}(h:dI hs n=true):∀l∈hs,∀y∈l,1<=y.Weight/\y.Weight<=64:=by
 have h3:∀(k:List Int->Bool)(l:List Holder)(g:List Int),dI.L3 k l g=true->(∀y∈l,1<=y.Weight/\y.Weight<=64)/\∃g',k g'=true:=by
  intro k l
  induction l with
  |nil=>exact λg h=>⟨λ_ h=>(jA h).elim,g,h⟩
  |cons y l ih=>
   intro g h
   simp only[dI.L3,Bool.cond_eq_ite]at h
   split at h
   .cases h
   .next hc=>
    simp only[xD,decide_eq_true_eq,not_or]at hc
    obtain⟨h1,h2⟩:=ih _ h
    refine⟨λz hz=>?_,h2⟩
    rcases qC.1 hz with rfl|hz
    .omega
    .exact h1 z hz
 have h1:∀(k:Bool)(l:List (List Holder)),dI.L1 k l=true->∀m∈l,∀y∈m,1<=y.Weight/\y.Weight<=64:=by
  intro k l
  induction l with
  |nil=>exact λ_ _ h=>(jA h).elim
  |cons y l ih=>
   intro h m hm
   obtain⟨h4,g',hg⟩:=h3 _ _ _ h
   simp only[Bool.cond_eq_ite]at hg
   split at hg
   .cases hg
   .rcases qC.1 hm with rfl|hm
    .exact h4
    .exact ih hg m hm
 exact h1 _ hs h
theorem Bs(q:aY)(o:Int):dO q o=(nthI q.holders o).filter λy=>q.who.contains y.Person:=by
 have:∀l:List Holder,bY.L1 q [] l=l.filter λy=>q.who.contains y.Person:=by
  intro l
  induction l with
  |nil=>rfl
  |cons y l ih=>
   simp only[bY.L1,slices_BinarySearch_int,List.filter_cons,ih]
   cases q.who.contains y.Person<;>rfl
 exact this _
theorem CY{α : Type}{p p':α->Bool}:∀{l:List α},(∀x∈l,p x=true->p' x=true)->(l.filter p).Sublist (l.filter p')
 |[],_=>List.Sublist.refl _
 |x::l,h=>by
  have ih:=CY (l:=l) λy hy=>h y (vA _ hy)
  have hx:=h x (zB ..)
  rw[List.filter_cons,List.filter_cons]
  cases h1:p x with
  |true=>rw[hx h1];exact ih.cons_cons _
  |false=>
   cases p' x with
   |true=>exact ih.cons _
   |false=>exact ih
structure OY(q q':aY):Prop where
 value:q'.value=q.value
 holders:q'.holders=q.holders
 who:∀l∈q.holders,∀y∈l,y.Person∈q.who->y.Person∈q'.who
 wt:∀l∈q.holders,∀y∈l,1<=y.Weight/\y.Weight<=64
 len:∀l∈q.holders,l.length<=2000000
theorem Dy[Inhabited α]{P:α->Prop}{l:List α}(h:∀y∈l,P y)(hd:P default)(z:Int):P (nthI l z):=by
 by_cases hz:z.toNat<l.length
 .have:nthI l z=l[z.toNat]:=by simp[nthI,List.getD_eq_getElem?_getD,hz]
  rw[this];exact h _ (List.getElem_mem _)
 .have:nthI l z=default:=by simp[nthI,List.getD_eq_getElem?_getD,hz]
  rw[this];exact hd
theorem Fp{q q':aY}(h:OY q q')(o:Int):(dO q o).Sublist (dO q' o):=by
 rw[Bs,Bs,h.holders]
 have hw:∀y∈nthI q.holders o,y.Person∈q.who->y.Person∈q'.who:=Dy (P:=λl:List Holder=>∀y∈l,y.Person∈q.who->y.Person∈q'.who) h.who (λ_ h=>(jA h).elim) o
 exact CY λy hy1 hy=>by simp only[List.contains_iff_mem]at hy ⊢;exact hw y hy1 hy
theorem OT{q q':aY}(h:OY q q')(o:Int):(∀y∈dO q' o,1<=y.Weight/\y.Weight<=64)/\(dO q' o).length<=2000000:=by
 rw[Bs,h.holders]
 have h1:(∀y∈nthI q.holders o,1<=y.Weight/\y.Weight<=64)/\(nthI q.holders o).length<=2000000:=Dy (P:=λl:List Holder=>(∀y∈l,1<=y.Weight/\y.Weight<=64)/\l.length<=2000000) (λl hl=>⟨h.wt l hl,h.len l hl⟩) ⟨(λ_ h=>(jA h).elim),vM _⟩ o
 exact⟨λy hy=>h1.1 y (RP.1 hy).1,jP (List.length_filter_le _ _) h1.2⟩
def wsum(l:List Holder):Int:=(l.map (·.Weight)).sum
theorem Hd:∀{l m:List Holder},l.Sublist m->(∀y∈m,1<=y.Weight/\y.Weight<=64)->wsum l<=wsum m
 |_,_,.slnil,_=>Int.le_refl _
 |_,_,.cons (l₂:=m) y hs,h=>by
  have ih:=Hd hs λz hz=>h z (vA _ hz)
  have:=h y (zB ..)
  simp only[wsum,kG,List.sum_cons]at ih ⊢;omega
 |_,_,.cons_cons (l₂:=m) y hs,h=>by
  have ih:=Hd hs λz hz=>h z (vA _ hz)
  simp only[wsum,kG,List.sum_cons]at ih ⊢;omega
theorem BA(k:Int->Bool):∀(l:List Holder)(g:Int),0<=g->g+64*l.length<=1000000000000->(∀y∈l,1<=y.Weight/\y.Weight<=64)->cz.L1 k l g=k (g+wsum l)
 |[],g,_,_,_=>by simp[cz.L1,wsum]
 |y::l,g,h0,hb,h=>by
  have hy:=h y (zB ..)
  rw[zA]at hb
  have e:zE .i64 (g+y.Weight)=g+y.Weight:=wrap64 (by omega)
  simp only[cz.L1,e]
  rw[BA k l _ (by omega) (by omega) λz hz=>h z (vA _ hz)]
  simp only[wsum,kG,List.sum_cons]
  rw[Int.add_assoc]
theorem Lu(rec:aY->Expr->Bool)(q:aY)(k:Int->Bool):∀(l:List Expr)(g:Int),0<=g->g+l.length<=1000000000000->dC.L1 rec q k l g=k (g+(l.countP (rec q):Nat))
 |[],g,_,_=>by simp[dC.L1]
 |y::l,g,h0,hb=>by
  rw[zA]at hb
  have e:zE .i64 (g+1)=g+1:=wrap64 (by omega)
  simp only[dC.L1,e]
  rw[Lu rec q k l g h0 (by omega),Lu rec q k l (g+1) (by omega) (by omega),List.countP_cons]
  cases rec q y
  .simp
  .simp only[cond_true,if_true];congr 1;omega
theorem CU{q q':aY}(h:OY q q'):∀(m:Nat)(x:Expr),x.dep<=2000000->bR.go m q x=true->bR.go m q' x=true
 |0,x,_,hx=>hx
 |m+1,x,hd,hx=>by
  have ih:=CU h m
  simp only[bR.go,bR.F,fulQ]at hx ⊢
  split
  .next hk=>
   rw[if_pos hk]at hx
   unfold dM at hx ⊢
   have hs:=Fp h x.No
   cases e:dO q x.No with
   |nil=>rw[e]at hx;cases hx
   |cons y l=>
    rw[e]at hs
    cases e2:dO q' x.No with
    |nil=>rw[e2]at hs;cases hs
    |cons z l=>rfl
  .next hk=>
   rw[if_neg hk]at hx
   split
   .next hk2=>
    rw[if_pos hk2]at hx
    unfold cz at hx ⊢
    obtain⟨w1,w2⟩:=OT h x.No
    have hs:=Fp h x.No
    have hl:=hs.length_le
    rw[BA _ _ _ (Int.le_refl _) (by omega) λy hy=>w1 y (hs.subset hy)]at hx
    rw[BA _ _ _ (Int.le_refl _) (by omega) w1]
    have:=Hd hs w1
    simp only[cz.K1,decide_eq_true_eq]at hx ⊢
    omega
   .next hk2=>
    rw[if_neg hk2]at hx
    split
    .next hk3=>
     rw[if_pos hk3]at hx
     unfold dC.F at hx ⊢
     have hl:=Expr.HJ x
     rw[Lu _ _ _ _ _ (Int.le_refl _) (by omega)]at hx ⊢
     have:x.L.countP (bR.go m q)<=x.L.countP (bR.go m q'):=List.countP_mono_left λy hy hh=>ih y (by have:=kV hy;omega) hh
     simp only[dC.K1,decide_eq_true_eq]at hx ⊢
     omega
    .next hk3=>
     rw[if_neg hk3]at hx
     unfold jj.F at hx ⊢
     have hsm:∀z,(nthI x.L z).dep<=2000000:=Dy (P:=λy:Expr=>y.dep<=2000000) (λy hy=>by have:=kV hy;omega) (by decide)
     rw[h.value]
     rw[Bool.cond_eq_ite]at hx ⊢
     split
     .next hc=>rw[if_pos hc]at hx;exact ih _ (hsm _) hx
     .next hc=>rw[if_neg hc]at hx;exact ih _ (hsm _) hx
theorem H8{p:Policy}{kind value:Int}{w w':List Int}(hp:smP p)(hl:∀l∈hs,l.length<=2000000)(hw:∀l∈hs,∀y∈l,y.Person∈w->y.Person∈w')(hw':er w'=true)(hk:kind<(p.Rules.length:Int))(h:((bU p kind value hs w).1&&((bU p kind value hs w).2==0))=true):((bU p kind value hs w').1&&((bU p kind value hs w').2==0))=true:=by
 unfold bU at h ⊢
 cases hc:(cT p != 0)with
 |true=>rw[hc]at h;simp at h
 |false=>
  rw[hc]at h
  simp only[cond_false]at h ⊢
  cases ha:(((decide (kind<0)||decide ((p.Kinds.length:Int)<=kind))||decide (value<0))||decide (1099511627776<value))with
  |true=>rw[ha]at h;simp at h
  |false=>
   rw[ha]at h
   simp only[cond_false]at h ⊢
   cases hr:dI hs (p.Offices.length:Int)with
   |false=>rw[hr]at h;simp at h
   |true=>
    rw[hr]at h
    simp only[Bool.not_true,cond_false]at h ⊢
    cases hq:er w with
    |false=>rw[hq]at h;simp at h
    |true=>
     rw[hq]at h
     rw[hw']
     simp only[Bool.not_true,cond_false,beq_self_eq_true,Bool.and_true]at h ⊢
     simp only[Bool.or_eq_false_iff,decide_eq_false_iff_not]at ha
     have hx:(nthI p.Rules kind).Expr.dep<=2000000:=jP (hp.2.1 _ (lm (by omega))) (by omega)
     exact CU (q:=⟨value,hs,w⟩) (q':=⟨value,hs,w'⟩) ⟨rfl,rfl,hw,rightH hr,hl⟩ _ _ hx h
theorem Cc(f:Bool->Bool):∀(l:List Bool)(i:Nat),decide (0<=ey.L1 f ey.K1 l i)=l.any f
 |[],i=>rfl
 |y::l,i=>by
  have ih:=Cc f l (i+1)
  simp only[ey.L1,List.any_cons,Bool.cond_eq_ite]
  split
  .next h=>rw[h];simp
  .next h=>rw[ih];simp[h]
def decV(mode:Int)(l:List Bool):Bool:=bif mode==4 then l.any id else bif mode==3 then l.any id&&!(l.any λb=>!b)else((l.length:Int)==1)&&nthI l 0
theorem Hc(mode:Int)(l:List Bool):fP mode l=bif gj mode l != 0 then(false,gj mode l)else(decV mode l,0):=by
 have y1:decide (0<=cM l eI)=l.any id:=Cc _ l 0
 have y2:decide (0<=cM l fM)=l.any λb=>!b:=Cc _ l 0
 have L1:∀(s:List Bool)i g,(aX.L1 (aX.K1 l) s i g).2=(l.any id,0):=by
  intro s
  induction s with
  |nil=>intro i g;simp only[aX.L1,aX.K1,y1]
  |cons y s ih=>intro i g;exact ih _ _
 have L2:∀(s:List Bool)i g,(aX.L2 (aX.K2 l) s i g).2=(((l.length:Int)==1)&&nthI l 0,0):=by
  intro s
  induction s with
  |nil=>intro i g;rfl
  |cons y s ih=>intro i g;exact ih _ _
 have L3:∀(s:List Bool)i g,(aX.L3 aX.K3 s i g).2=(false,0):=by
  intro s
  induction s with
  |nil=>intro i g;rfl
  |cons y s ih=>intro i g;exact ih _ _
 have e:fP mode l=(aX mode l).2:=rfl
 rw[e]
 unfold aX decV
 rw[y1,y2]
 cases(gj mode l != 0)with
 |true=>rfl
 |false=>
  simp only[cond_false]
  by_cases h4:mode=4
  .subst h4
   cases h:l.any id with
   |true=>rfl
   |false=>
    have:((4:Int)==3)=false:=rfl
    simp only[beq_self_eq_true,Bool.and_false,cond_false,this,Bool.false_and,bne_self_eq_false,L3,cond_true]
  .have e4:(mode==4)=false:=by simpa using h4
   have n4:(mode != 4)=true:=by simpa using h4
   rw[e4,n4]
   simp only[Bool.false_and,cond_false,cond_true]
   by_cases h3:mode=3
   .subst h3
    cases h:l.any λb=>!b with
    |true=>simp
    |false=>simp only[beq_self_eq_true,Bool.and_false,cond_false,L1,cond_true,Bool.not_false,Bool.and_true]
   .have e3:(mode==3)=false:=by simpa using h3
    rw[e3]
    simp only[Bool.false_and,cond_false,L2]
theorem MI{f g:α->Bool}(mode:Int){l:List α}(h:∀x∈l,f x=true->g x=true)(hd:decV mode (l.map f)=true):decV mode (l.map g)=true:=by
 have hany:(l.map f).any id=true->(l.map g).any id=true:=by
  simp only[List.any_map,List.any_eq_true,Function.comp,id]
  rintro⟨x,hx,hf⟩;exact⟨x,hx,h x hx hf⟩
 have hno:((l.map f).any λb=>!b)=false->((l.map g).any λb=>!b)=false:=by
  simp only[List.any_map,List.any_eq_false,Function.comp,kC,Bool.not_eq_false]
  exact λhf x hx=>h x hx (hf x hx)
 unfold decV at hd ⊢
 rw[Bool.cond_eq_ite]at hd ⊢
 split
 .next h4=>rw[if_pos h4]at hd;exact hany hd
 .next h4=>
  rw[if_neg h4,Bool.cond_eq_ite]at hd
  rw[Bool.cond_eq_ite]
  split
  .next h3=>
   rw[if_pos h3,jB,kC]at hd
   rw[jB,kC]
   exact⟨hany hd.1,hno hd.2⟩
  .next h3=>
   rw[if_neg h3]at hd
   match l,h,hd with
   |[],_,hd=>exact hd
   |[x],h,hd=>
    have hx:f x=true:=hd
    have:=h x (zB ..) hx
    show(true&&g x)=true
    rw[this];rfl
   |x::y::l,_,hd=>
    simp only[kG,zA,jB,beq_iff_eq]at hd
    omega
theorem Hk(l:List Interest)(a b:Int):∃p:Interest->Bool,cx l a b=l.filter p:=by
 have h1:∀v(l:List Interest),bT.L1 v [] l=l.filter λy=>(!y.Gone)&&decide (mgetD v (dL.mk y.Person y.Party y.Of) (zW 0 0 0 0 0 false false)=y):=by
  intro v l
  induction l with
  |nil=>rfl
  |cons y l ih=>
   simp only[bT.L1,List.filter_cons,ih]
   cases((!y.Gone)&&decide (mgetD v (dL.mk y.Person y.Party y.Of) (zW 0 0 0 0 0 false false)=y))<;>rfl
 have h2:∀(k:List (dL×Interest)->List Interest)(l:List Interest)m,∃m',cx.L1 a b k l m=k m':=by
  intro k l
  induction l with
  |nil=>exact λm=>⟨m,rfl⟩
  |cons y l ih=>
   intro m
   simp only[cx.L1,Bool.cond_eq_ite]
   split
   .exact ih _
   .split
    .exact ih _
    .exact ih _
 obtain⟨m',e⟩:=h2 (cx.K1 l) l []
 exact⟨_,by unfold cx;rw[e];exact h1 m' l⟩
theorem Iw(l:List Interest)(a b:Int):(cx l a b).length<=l.length:=by
 obtain⟨p,e⟩:=Hk l a b
 rw[e];exact List.length_filter_le _ _
theorem Ey{α : Type}{k:Int}{v:α}:∀{m:List (Int×α)},k∉m.map (·.1)->(mput m k v).length=m.length+1/\∀p∈mput m k v,p=(k,v)\/p∈m
 |[],_=>by simp[mput]
 |(k',v')::m,hk=>by
  simp only[kG,qC,not_or]at hk
  obtain⟨h1,h2⟩:=Ey (v:=v) hk.2
  simp only[mput,hk.1,if_false,zA,h1,qC,true_and]
  rintro p (rfl|hp)
  .exact .inr (.inl rfl)
  .rcases h2 p hp with h|h
   .exact .inl h
   .exact .inr (.inr h)
theorem HG(hg:uK st m q){k:Int}(h:mgetD m k false=false):k∉m.map (·.1):=by
 intro hk
 obtain⟨⟨k',v⟩,hp,rfl⟩:=kJ.1 hk
 have:∀{m:List (Int×Bool)},(∀p∈m,p.2=true)->k'∈m.map (·.1)->mgetD m k' false=true:=by
  intro m
  induction m with
  |nil=>intro _ h;simp at h
  |cons p m ih=>
   intro ha hm
   obtain⟨a,b⟩:=p
   by_cases e:k'=a
   .have:=ha (a,b) (zB ..)
    simp only at this
    simp[mgetD,mget?,e,this]
   .simp only[kG,qC,e,false_or]at hm
    have:=ih (λp hp=>ha p (vA _ hp)) hm
    simpa[mgetD,mget?,e]using this
 rw[this (λp hp=>(hg.1 p hp).1) hk]at h
 cases h
theorem tL{w:gN}(hg:uK st m q)(hw:w.to∈st.map (·.Party))(h8:w.path.length<=8):uK st (conPut w m q).1 (conPut w m q).2:=by
 unfold conPut
 cases h:mgetD m w.to false with
 |true=>exact hg
 |false=>
  obtain⟨h1,h2⟩:=Ey (v:=true) (HG hg h)
  refine⟨λp hp=>?_,?_,λw' hw'=>?_⟩
  .rcases h2 p hp with rfl|hp
   .exact⟨rfl,hw⟩
   .exact hg.1 p hp
  .show(q++[w]).length<=(mput m w.to true).length
   rw[h1,kA];have:=hg.2.1;simp;omega
  .rcases xH.1 (show w'∈q++[w]from hw')with hw'|hw'
   .exact hg.2.2 w' hw'
   .rw[xC.1 hw'];exact h8
theorem xx{k:Int}{cap:Nat}(hg:uK st m q)(hn:(m.map (·.1)).Nodup)(hk:k∈st.map (·.Party))(hc:st.length<=cap)(h:mgetD m k false=false):q.length<cap:=by
 have h1:=HG hg h
 have h2:(k::m.map (·.1)).length<=(st.map (·.Party)).length:=BQ (List.nodup_cons.2 ⟨h1,hn⟩) (λx hx=>by
  rcases qC.1 hx with rfl|hx
  .exact hk
  .obtain⟨p,hp,rfl⟩:=kJ.1 hx;exact(hg.1 p hp).2)
 simp only[zA,List.length_map]at h2
 have:=hg.2.1
 omega
theorem N5(hg:uK st m q)(hn:(m.map (·.1)).Nodup):m.length<=st.length:=by
 have:=BQ (b:=st.map (·.Party)) hn (λx hx=>by obtain⟨p,hp,rfl⟩:=kJ.1 hx;exact(hg.1 p hp).2)
 simpa using this
theorem H5{w:gN}(hn:(m.map (·.1)).Nodup):((conPut w m q).1.map (·.1)).Nodup:=by
 unfold conPut
 cases mgetD m w.to false with
 |true=>exact hn
 |false=>exact ju _ _ hn
theorem JC{w:gN}{N:Nat}(hg:uK st m q)(hn:(m.map (·.1)).Nodup)(hw:w.to∈st.map (·.Party))(hN:st.length<=N):
  (conPut w m q).2.length+(N-(conPut w m q).1.length)<=q.length+(N-m.length):=by
 unfold conPut
 cases h:mgetD m w.to false with
 |true=>simp
 |false=>
  obtain⟨h1,_⟩:=Ey (v:=true) (HG hg h)
  have h2:uK st (mput m w.to true) []:=by
   have:=tL (w:=⟨[],w.to⟩) (q:=[]) (st:=st) (m:=m) ⟨hg.1,vM _,λ_ h=>(jA h).elim⟩ hw (by simp)
   simp only[conPut,h,cond_false]at this
   exact⟨this.1,vM _,λ_ h=>(jA h).elim⟩
  have h3:=N5 h2 (ju w.to true hn)
  show(q++[w]).length+(N-(mput m w.to true).length)<=_
  rw[h1]at h3
  rw[h1,kA]
  simp;omega
theorem zq(m:List (Int×α))(k j:Int)(v z:α):mgetD (mput m k v) j z=if j=k then v else mgetD m j z:=by
 induction m with
 |nil=>by_cases h:j=k<;>simp[mput,mgetD,mget?,h]
 |cons p m ih=>
  obtain⟨a,b⟩:=p
  by_cases h:k=a
  .subst h
   by_cases h2:j=k<;>simp[mput,mgetD,mget?,h2]
  .by_cases h2:j=a
   .subst h2
    have:¬j=k:=λe=>h e.symm
    simp[mput,h,mgetD,mget?,this]
   .simp only[mgetD]at ih ⊢
    simp only[mput,h,if_false,mget?,h2]
    exact ih
theorem L8.put{f:List (Int×List Interest)}(hf:L8 st f){k:Int}{x:Interest}(hx:x∈st):L8 st (mput f k (mgetD f k []++[x])):=by
 intro j y hy
 rw[zq]at hy
 split at hy
 .rcases xH.1 hy with hy|hy
  .exact hf k y hy
  .rw[xC.1 hy];exact hx
 .exact hf j y hy
theorem xZ(A B:List α)(x y:α):(A++x::y::B).Perm (y::x::(A++B)):=
 List.perm_middle.trans ((List.Perm.cons x List.perm_middle).trans (List.Perm.swap y x _))
theorem Bm{st:List Interest}{path:List Int}{N:Nat}(hN:st.length<=N)(h8:path.length+1<=8):∀{xs:List Interest}{m:List (Int×Bool)}{q:List gN},(∀x∈xs,x∈st)->uK st m q->(m.map (·.1)).Nodup ->
  (conStep path xs m q).2.length+(N-(conStep path xs m q).1.length)<=q.length+(N-m.length)
 |[],m,q,_,_,_=>xG _
 |x::xs,m,q,hx,hg,hn=>by
  have hp:(gN.mk (path++[x.No]) x.Party).to∈st.map (·.Party):=zM (hx x (zB ..))
  have h1:=JC (w:=⟨path++[x.No],x.Party⟩) hg hn hp hN
  have h2:=Bm (path:=path) hN h8 (xs:=xs) (λy hy=>hx y (vA _ hy)) (tL hg hp (by simpa using h8)) (H5 hn)
  simp only[conStep]
  exact jP h2 h1
def lastV(t known:Int)(acc:Option Version)(y:Version):Option Version:=
 bif decide (y.At<=t)&&decide (y.Known<=known)then(match acc with
  |none=>some y
  |some a=>bif decide (a.At<=y.At)then some y else some a)else acc
def FV(t known:Int)(l:List Version):Option Version:=l.foldl (lastV t known) none
structure RO(f known:Int)(pre:List Version)(b:Int)(m:List (Int×Version)):Prop where
 at_:∀a,FV f known pre=some a->b=a.At
 no:FV f known pre=none->b=-1
 beg:mget? m f=FV f known pre
 has:∀t,f<t->(t∈m.map (·.1)↔∃y∈pre,y.At=t/\y.Known<=known)
 get:∀t,f<t->t∈m.map (·.1)->∃v,mget? m t=some v/\FV t known pre=some v/\v.At=t
 low:∀t,t∈m.map (·.1)->f<=t
def sKey(y:Interest):dL:=dL.mk y.Person y.Party y.Of
def sCnt(t known:Int)(y:Interest):Prop:=y.At<=t/\y.Known<=known
def sOver(z w:Interest):Prop:=z.At<w.At\/(w.At=z.At/\z.No<w.No)
structure RK(t known:Int)(pre:List Interest)(m:List (dL×Interest)):Prop where
 some:∀k z,mget? m k=some z->z∈pre/\sKey z=k/\sCnt t known z/\∀w∈pre,sKey w=k->sCnt t known w->¬sOver z w
 none:∀k,mget? m k=none->∀w∈pre,sKey w=k->¬sCnt t known w
structure ChL(l:List Int):Prop where
 inc:l.Pairwise (·<·)
 zero:∃l',l=0::l'
 tm:∀x∈l,0<=x/\x<1099511627776
theorem Mj(l:List Document){d:Document}(hd:d∈l):mhas (ay l).at_ d.No=true:=by
 have:=(DW l l 0 []).2 d.No
 show mhas (ay.L1 (ay.K1 l) l 0 []).at_ d.No=true
 rw[this]
 simp only[xD,List.any_eq_true,beq_iff_eq]
 exact .inr ⟨d,hd,rfl⟩
theorem GU{t:Int}(h:0<=t/\t<1099511627776):gm t=true:=by
 simp only[gm,jB,decide_eq_true_eq];exact h
theorem Ji{l:List Document}{t:Int}(hc:bz l=0)(hs:dv l signed=true)(ht:0<=t/\t<1099511627776):(bW l signed t).2=0:=by
 unfold bW
 rw[hc,hs,GU ht]
 simp only[bne_self_eq_false,cond_false,Bool.not_true,Bool.or_false]
 have:∀(s:List Document)(i:Nat)(g:List Int),(bW.L1 l signed t bW.K1 s i g).2=0:=by
  intro s
  induction s with
  |nil=>intro i g;rfl
  |cons y s ih=>intro i g;simp only[bW.L1,Bool.cond_eq_ite];split<;>exact ih _ _
 exact this _ _ _
theorem O0{l:List Document}{t:Int}{d:Document}(hc:bz l=0)(hs:dv l signed=true)(ht:0<=t/\t<1099511627776)(hd:d∈l):(gd l signed d.No t).2.2=0:=by
 unfold gd
 rw[hc,hs,GU ht,uV,Mj l hd];rfl
theorem Py{l:List Document}{f:Document->Bool}{d:Document}(hd:d∈l)(hf:f d=true):0<=ad l f/\ad l f<(l.length:Int):=by
 unfold ad
 rcases AP f l 0 with⟨_,h⟩|⟨a,y,b,h1,h2,_⟩
 .rw[h d hd]at hf;cases hf
 .rw[h2,h1];simp only[kA,zA];omega
theorem NA{l:List Document}(h:dv l signed=true):signed.length=l.length:=by
 simp only[dv,jB,beq_iff_eq]at h
 have:=h.1
 omega
section
variable {c:bL} (h:jt c)
include h
theorem jt.docs:bz c.Register.Docs=0:=((lY _).1 h.chk).2.2.2.2.2.1
theorem FU(hs:dv c.Register.Docs signed=true):(bW c.Register.Docs signed c.at_).2=0:=Ji h.docs hs h.time
theorem MJ{d:Document}(hs:dv c.Register.Docs signed=true)(hd:d∈c.Register.Docs):(gd c.Register.Docs signed d.No c.at_).2.2=0:=O0 h.docs hs h.time hd
theorem GW(hs:dv c.Register.Docs signed=true):0<=ad c.Register.Docs (λcj=>ck cj c)/\ad c.Register.Docs (λcj=>ck cj c)<(signed.length:Int):=by
 rw[NA hs]
 exact Py h.doc (by simp[ck])
end
theorem Fh:∀(xs out:List Int),out.Pairwise (·<·)->(∀a∈out,∀y∈xs,a<=y)->xs.Pairwise (·<=·) ->
  (xs.foldl compStep out).Pairwise (·<·)/\∀z,z∈xs.foldl compStep out↔z∈out\/z∈xs
 |[],out,h1,_,_=>⟨h1,λz=>by simp⟩
 |x::xs,out,h1,h2,h3=>by
  rw[List.pairwise_cons]at h3
  simp only[List.foldl_cons]
  by_cases hx:out.getLast? = some x
  .have e:compStep out x=out:=by simp[compStep,hx]
   rw[e]
   obtain⟨a,b⟩:=Fh xs out h1 (λa ha y hy=>h2 a ha y (vA _ hy)) h3.2
   refine⟨a,λz=>?_⟩
   rw[b]
   constructor
   .rintro(h|h)
    .exact .inl h
    .exact .inr (vA _ h)
   .rintro(h|h)
    .exact .inl h
    .rcases qC.1 h with rfl|h
     .exact .inl (List.mem_of_getLast? hx)
     .exact .inr h
  .have e:compStep out x=out++[x]:=by simp[compStep,hx]
   rw[e]
   have hlt:∀a∈out,a<x:=by
    intro a ha
    have hle:=h2 a ha x (zB ..)
    rcases Int.lt_or_eq_of_le hle with h|h
    .exact h
    .exfalso
     subst h
     obtain⟨pre,post,hp⟩:=List.append_of_mem ha
     cases post with
     |nil=>exact hx (by rw[hp];simp)
     |cons p post=>
      rw[hp,List.pairwise_append]at h1
      have h4:=(List.pairwise_cons.1 h1.2.1).1 p (zB ..)
      have h5:=h2 p (by rw[hp];simp) a (zB ..)
      omega
   obtain⟨a,b⟩:=Fh xs (out++[x]) (by
     rw[List.pairwise_append]
     exact⟨h1,List.pairwise_singleton _ _,λa ha y hy=>by rw[xC.1 hy];exact hlt a ha⟩) (λa ha y hy=>by
     rcases xH.1 ha with ha|ha
     .exact h2 a ha y (vA _ hy)
     .rw[xC.1 ha];exact h3.1 y hy) h3.2
   refine⟨a,λz=>?_⟩
   rw[b]
   simp only[xH,qC,jA,or_false]
   constructor
   .rintro((h|h)|h)
    .exact .inl h
    .exact .inr (.inl h)
    .exact .inr (.inr h)
   .rintro(h|h|h)
    .exact .inl (.inl h)
    .exact .inl (.inr h)
    .exact .inr h
def setI(xs:List Int):List Int:=compI (sortI xs)
theorem Av(xs:List Int):(setI xs).Pairwise (·<·)/\∀z,z∈setI xs↔z∈xs:=by
 obtain⟨a,b⟩:=Fh (sortI xs) [] List.Pairwise.nil (λ_ h=>(jA h).elim) (lW xs)
 refine⟨a,λz=>(b z).trans ?_⟩
 rw[(lG xs).mem_iff]
 simp
theorem N8{l:List Document}{f:Document->Bool}(h:0<=ad l f):∃a y b,l=a++y::b/\nthI l (ad l f)=y/\f y=true/\∀x∈a,f x=false:=by
 unfold ad at h ⊢
 rcases AP f l 0 with⟨h1,_⟩|⟨a,y,b,h1,h2,h3,h4⟩
 .omega
 .refine⟨a,y,b,h1,?_,h3,h4⟩
  rw[h2,Nat.zero_add]
  exact Ev (by rw[h1];simp)
theorem HC{r:Register}{t:Int}(hc:et r=0)(h:mW r doc t known=.ok c):
  c=⟨r,c.doc,t,known⟩/\jt c/\c.doc.No=doc/\∃a b,r.Docs=a++c.doc::b/\∀x∈a,x.No≠doc:=by
 unfold mW at h
 rw[Bool.cond_eq_ite]at h
 split at h
 .cases h
 .next hn=>
  simp only[xD,not_or,decide_eq_true_eq]at hn
  obtain⟨⟨h1,h2⟩,h3⟩:=hn
  cases h
  obtain⟨a,y,b,e1,e2,e3,e4⟩:=N8 (by omega:0<=ad r.Docs (λcj=>bE cj doc))
  rw[e2]
  refine⟨rfl,⟨hc,by rw[e1];simp,?_,?_⟩,?_,a,b,e1,λx hx=>?_⟩
  .show 0<=t/\t<1099511627776;omega
  .show 0<=known/\known<1099511627776;omega
  .simpa[bE]using e3
  .simpa[bE]using e4 x hx
theorem Jl(f:Version->Bool):∀(l:List Version)(i:Nat),(bq.L1 f bq.K1 l i=-1/\∀x∈l,f x=false) \/
  ∃a y b,l=a++y::b/\bq.L1 f bq.K1 l i=((i+a.length:Nat):Int)/\f y=true/\∀x∈a,f x=false
 |[],i=>.inl ⟨rfl,λ_ h=>(jA h).elim⟩
 |y::l,i=>by
  simp only[bq.L1]
  cases hy:f y with
  |true=>exact .inr ⟨[],y,l,rfl,by simp,hy,λ_ h=>(jA h).elim⟩
  |false=>
   rcases Jl f l (i+1)with⟨h1,h2⟩|⟨a,z,b,rfl,h2,h3,h4⟩
   .exact .inl ⟨h1,λx hx=>by rcases qC.1 hx with rfl|hx;exact hy;exact h2 x hx⟩
   .refine .inr ⟨y::a,z,b,rfl,?_,h3,λx hx=>by rcases qC.1 hx with rfl|hx;exact hy;exact h4 x hx⟩
    rw[cond_false,h2];simp only[zA];congr 1;omega
theorem uU(c:bL)(no:Int):(fE c no=.error 1/\∀v∈c.Register.Versions,v.No≠no)\/∃a v b,c.Register.Versions=a++v::b/\fE c no=.ok v.Policy/\v.No=no/\∀x∈a,x.No≠no:=by
 unfold fE bq
 rcases Jl (λcj=>eK cj no) c.Register.Versions 0 with⟨h1,h2⟩|⟨a,v,b,h1,h2,h3,h4⟩
 .left
  rw[h1]
  exact⟨rfl,λv hv=>by simpa[eK]using h2 v hv⟩
 .right
  refine⟨a,v,b,h1,?_,by simpa[eK]using h3,λx hx=>by simpa[eK]using h4 x hx⟩
  rw[h2,show decide (((0+a.length:Nat):Int)<0)=false from decide_eq_false (by omega),cond_false,Nat.zero_add,Ev (x:=v) (by rw[h1];simp)]
theorem Mr{no:Int}{p:Policy}(h:fE c no=.ok p):∃v∈c.Register.Versions,v.No=no/\v.Policy=p:=by
 rcases uU c no with⟨h1,_⟩|⟨a,v,b,h1,h2,h3,_⟩
 .rw[h]at h1;cases h1
 .rw[h]at h2;cases h2
  exact⟨v,by rw[h1];simp,h3,rfl⟩
theorem AI{no:Int}(h:∃v∈c.Register.Versions,v.No=no):exOk (fE c no):=by
 obtain⟨v,hv,hn⟩:=h
 rcases uU c no with⟨_,h2⟩|⟨_,_,_,_,h2,_⟩
 .exact absurd hn (h2 v hv)
 .rw[h2];trivial
structure OV(p:Policy):Prop where
 sm:smP p
 off:p.Offices.length<=32
 rules:p.Rules.length=p.Kinds.length/\∀y∈p.Rules,0<=y.Think/\y.Think<=1099511627775
theorem Bj(h:jt c)(hs:smR c.Register){no:Int}{p:Policy}(hp:fE c no=.ok p):OV p:=by
 obtain⟨v,hv,_,rfl⟩:=Mr hp
 have hg:=(h.vers.each v hv).2.2.2
 exact⟨hs.1.2 v hv,(uC hg).2.1,(uC hg).1,(vl hg).2.2⟩
theorem OC[Inhabited ρ]{x:Except Int ρ}{p:ρ}(h:x=.ok p):exD x=p:=by subst h;rfl
theorem MQ(l:List Approval)(doc ba known:Int):(fj l doc ba known).length<=l.length:=by
 show(bO.L1 doc ba known bO.K1 l).length<=l.length
 induction l with
 |nil=>exact xG _
 |cons y l ih=>simp only[bO.L1,Bool.cond_eq_ite];split<;>simp only[zA]<;>omega
theorem MM(l:List Approval)(doc ba known:Int):(aJ l doc ba known).length<=l.length:=by
 have h2:∀(g:List (fe×Approval))(s acc:List Approval),(aJ.L2 g aJ.K2 s acc).length<=acc.length+s.length:=by
  intro g s
  induction s with
  |nil=>intro acc;exact xG _
  |cons y s ih=>
   intro acc
   simp only[aJ.L2,Bool.cond_eq_ite]
   split
   .have:=ih (acc++[y]);simp only[kA,zA,vB]at *;omega
   .have:=ih acc;simp only[zA];omega
 have h1:∀(s:List Approval)(g:List (fe×Approval)),(aJ.L1 (aJ.K1 l doc ba known) s g).length<=l.length:=by
  intro s
  induction s with
  |nil=>
   intro g
   have h3:=h2 g (fj l doc ba known) []
   have h4:=MQ l doc ba known
   show(aJ.L2 g aJ.K2 (fj l doc ba known) []).length<=l.length
   simp only[vB]at h3;omega
  |cons y s ih=>intro g;simp only[aJ.L1,Bool.cond_eq_ite];split<;>exact ih _
 exact h1 _ _
theorem Bk(l:List Approval)(d b th t k:Int):(cU l d b th t k).1.length<=l.length:=by
 unfold cU
 simp only[Bool.cond_eq_ite]
 split
 .exact vM _
 .split
  .exact vM _
  .exact jP (List.length_filter_le _ _) (MM _ _ _ _)
def goodA(c:bL)(y:Approval):Bool:=(((hO c.Register.Appoints y.Office y.For c.at_ c.known).2.2.1&&(aI c.Register.Deputies y.For y.By y.Office c.doc.Kind c.doc.Value c.at_ c.known).2.1)&&(!(iO c y.For)))&&(!(iO c y.By))
theorem LE(c:bL):∀l:List Approval,cN.L1 c cN.K1 l=l.filter (goodA c)
 |[]=>rfl
 |y::l=>by
  simp only[cN.L1,List.filter_cons,LE c l,Bool.cond_eq_ite]
  rfl
theorem Dz(c:bL)(p:Policy):gV c p=bif decide ((p.Kinds.length:Int)<=c.doc.Kind)then[]else((cU c.Register.Approvals c.doc.No c.doc.At ((nthI p.Rules c.doc.Kind).Think) c.at_ c.known).1).filter (goodA c):=by
 show cN c p=_
 unfold cN
 rw[LE]
theorem BN(c:bL)(p:Policy):cL c p=setI ((gV c p).map (·.For)):=by
 have:∀(s:List Approval)(g:List Int),cL.L1 cL.K1 s g=setI (g++s.map (·.For)):=by
  intro s
  induction s with
  |nil=>intro g;simp[cL.L1,cL.K1,setI,slices_Compact_int]
  |cons y s ih=>intro g;simp only[cL.L1,ih,kG,qE,jM,zG]
 have h:=this (gV c p) []
 rw[zG]at h
 exact h
theorem JD:∀(xs out:List Int),(xs.foldl compStep out).length<=out.length+xs.length
 |[],out=>xG _
 |x::xs,out=>by
  simp only[List.foldl_cons,zA]
  have h1:=JD xs (compStep out x)
  have h2:(compStep out x).length<=out.length+1:=by unfold compStep;split<;>simp
  omega
theorem Ob(hs:smR c.Register)(p:Policy):(gV c p).length<=2000000:=by
 rw[Dz,Bool.cond_eq_ite]
 have h3:=hs.2.2.2.2.2.2
 split
 .exact vM _
 .exact jP (List.length_filter_le _ _) (jP (Bk _ _ _ _ _ _) h3)
theorem Es(hs:smR c.Register)(p:Policy):(cL c p).length<=2000000:=by
 rw[BN]
 have h1:=JD (sortI ((gV c p).map (·.For))) []
 rw[gP,List.length_map]at h1
 have h2:(gV c p).length<=c.Register.Approvals.length:=by
  rw[Dz,Bool.cond_eq_ite]
  split
  .exact vM _
  .exact jP (List.length_filter_le _ _) (Bk _ _ _ _ _ _)
 have h3:=hs.2.2.2.2.2.2
 show(compI _).length<=_
 unfold compI
 simp only[vB]at h1
 omega
theorem Lp(u:List Use)(v t k:Int):∀s:List Budget,(bZ.L1 u v t k bZ.K1 s).2.2=0
 |[]=>rfl
 |y::s=>by
  simp only[bZ.L1]
  have:∀(l:List Int)(a b:Int),(bZ.L3 (λzg3_b6_0 zg3_b5_0=>(bif(decide (y.Count<zg3_b5_0)||decide (y.Value<zg3_b6_0))then(y.No,false,0)else(bZ.L1 u v t k bZ.K1 s))) l a b).2.2=0:=by
   intro l
   induction l with
   |nil=>intro a b;simp only[bZ.L3,Bool.cond_eq_ite];split;rfl;exact Lp u v t k s
   |cons z l ih=>intro a b;simp only[bZ.L3];exact ih _ _
  exact this _ _ _
theorem C5{a b z:Int}:aW a b [z]=true↔a<=z/\z<=b:=by
 simp only[aW,containsF,iL,List.any_cons,List.any_nil,Bool.or_false,kC,Bool.or_eq_false_iff,decide_eq_false_iff_not];omega
theorem JP{a b y z:Int}:aW a b [y,z]=true↔(a<=y/\y<=b)/\(a<=z/\z<=b):=by
 simp only[aW,containsF,iL,List.any_cons,List.any_nil,Bool.or_false,kC,Bool.or_eq_false_iff,decide_eq_false_iff_not];omega
theorem NO{l:List Budget}{u:List Use}(h:(bZ l u 0 0 0 0).2.2=0){k v t n:Int}(hk:0<=k/\k<16)(hv:0<=v/\v<=1099511627776)(ht:0<=t/\t<1099511627776)(hn:0<=n/\n<1099511627776):(bZ l u k v t n).2.2=0:=by
 unfold bZ at h ⊢
 cases h1:(cR l) != 0 with
 |true=>
  rw[h1,cond_true]at h
  have:cR l=0:=h
  rw[this]at h1;cases h1
 |false=>
  rw[h1,cond_false]at h
  rw[cond_false]
  cases h2:decide (4096<(u.length:Int))with
  |true=>rw[h2,cond_true]at h;cases h
  |false=>
   rw[h2,cond_false]at h
   rw[cond_false]
   cases h3:ka u with
   |false=>rw[h3]at h;cases h
   |true=>
    rw[C5.2 (show(0:Int)<=k/\k<=15 by omega),C5.2 hv,JP.2 (show((0:Int)<=t/\t<=1099511627775)/\(0<=n/\n<=1099511627775) by omega)]
    exact Lp _ _ _ _ _
theorem HL{l:List Document}{t:Int}(h:(bW l signed t).2=0):dv l signed=true:=by
 unfold bW at h
 cases h1:(bz l) != 0 with
 |true=>
  rw[h1,cond_true]at h
  have:bz l=0:=h
  rw[this]at h1;cases h1
 |false=>
  rw[h1,cond_false]at h
  cases h2:dv l signed with
  |true=>rfl
  |false=>rw[h2]at h;cases h
theorem GY(h:eX c signed=false):c.doc.At<=c.at_:=by
 unfold eX at h
 simp only[Bool.or_eq_false_iff,decide_eq_false_iff_not]at h
 have:=h.1.1.1
 omega
theorem Jy(no:Int):∀(l:List Document)(i:Nat),dc.L1 no dc.K1 l i=ad.L1 (λcj=>bE cj no) ad.K1 l i
 |[],i=>rfl
 |y::l,i=>by
  simp only[dc.L1,ad.L1,bE,Bool.cond_eq_ite]
  split
  .rfl
  .exact Jy no l (i+1)
theorem Pt{r:Register}{t:Int}(hd:0<=dc r doc)(ht:0<=t/\t<1099511627776)(hk:0<=known/\known<1099511627776):mW r doc t known=.ok ⟨r,nthI r.Docs (dc r doc),t,known⟩:=by
 have e:ad r.Docs (λcj=>bE cj doc)=dc r doc:=(Jy doc r.Docs 0).symm
 unfold mW
 rw[e]
 have h1:decide (dc r doc<0)=false:=decide_eq_false (by omega)
 have h2:decide (min t known<0)=false:=decide_eq_false (by omega)
 have h3:decide (1099511627776<=max t known)=false:=decide_eq_false (by omega)
 rw[h1,h2,h3];rfl
theorem rise64:∀(l:List Int)(c:Int),c<=64->(∀x∈l,c<=x/\x<64)->l.Pairwise (·<·)->(l.length:Int)<=64-c
 |[],c,h,_,_=>by simp;omega
 |y::l,c,h,hb,hp=>by
  obtain⟨h1,h2⟩:=List.pairwise_cons.1 hp
  have hy:=hb y (zB ..)
  have ih:=rise64 l (y+1) (by omega) (λx hx=>⟨by have:=h1 x hx;omega,(hb x (vA _ hx)).2⟩) h2
  simp only[zA];omega
theorem GB(h:et c.Register=0)(p:Policy):∀z∈cL c p,0<=z/\z<64:=by
 intro z hz
 rw[BN,(Av _).2,kJ]at hz
 obtain⟨y,hy,rfl⟩:=hz
 rw[Dz,Bool.cond_eq_ite]at hy
 split at hy
 .exact(jA hy).elim
 .exact(xz (oK ((lY _).1 h).2.2.2.2.2.2 y (vk (RP.1 hy).1))).2.2.1
theorem OU(h:et c.Register=0):(∀z∈askAll c,0<=z/\z<64)/\(askAll c).Pairwise (·<·):=by
 have e:askAll c=setI ((askJ c).1.flatMap (askWho c)):=rfl
 rw[e]
 refine⟨λz hz=>?_,(Av _).1⟩
 rw[(Av _).2,List.mem_flatMap]at hz
 obtain⟨no,_,h2⟩:=hz
 exact GB h _ z h2
theorem EG(r:Register)(signed:List Int)(u:List Use)(doc t known:Int):(∀z∈(dj r signed u doc t known).1.Who,0<=z/\z<64)/\(dj r signed u doc t known).1.Who.Pairwise (·<·):=by
 have nil:(∀z∈([]:List Int),0<=z/\z<64)/\([]:List Int).Pairwise (·<·):=⟨λ_ h=>(jA h).elim,List.Pairwise.nil⟩
 unfold dj
 cases h1:et r != 0 with
 |true=>exact nil
 |false=>
  have hc:et r=0:=by simpa using h1
  cases h2:(bW r.Docs signed 0).2 != 0 with
  |true=>exact nil
  |false=>
   cases h3:(bZ r.Budgets u 0 0 0 0).2.2 != 0 with
   |true=>exact nil
   |false=>
    rw[cond_false,cond_false,cond_false]
    cases ho:mW r doc t known with
    |error e=>exact nil
    |ok c=>
     obtain⟨e,_⟩:=HC hc ho
     have hcc:et c.Register=0:=by rw[e];exact hc
     dsimp only
     unfold judgeC
     cases eX c signed<;>cases hY c signed<;>cases ft c<;>cases(judgeRoom c r u t known).2.1 <;>
      first|exact nil|exact OU hcc
theorem Kt(r:Register)(signed:List Int)(u:List Use)(doc t known:Int):(dj r signed u doc t known).1.Who.length<=2000000:=by
 obtain⟨h1,h2⟩:=EG r signed u doc t known
 have:=rise64 _ 0 (by omega) h1 h2
 omega
theorem Jh{r:Register}{l:List Int}(h:ga r doc who l=true):r.Docs.length<20:=by
 unfold ga at h
 obtain⟨_,h2⟩:=(D7 _ _).1 h
 simp only[ga.K1,jB]at h2
 have h1:=h2.1.1.1
 simp only[lS,Bool.cond_eq_ite]at h1
 split at h1
 .cases h1
 .next hc=>simp only[xD,not_or,decide_eq_true_eq]at hc;omega
inductive Bz:Expr->Prop
 |mk (x:Expr) (hn:x.Kind=2\/x.Kind=3->1<=x.N) (hs:∀y∈x.L,Bz y):Bz x
theorem Bz.n{x:Expr}(h:Bz x):x.Kind=2\/x.Kind=3->1<=x.N:=by cases h with|mk _ a=>exact a
theorem Bz.sub{x:Expr}(h:Bz x):∀y∈x.L,Bz y:=by cases h with|mk _ _ a=>exact a
theorem MK{p:Policy}(hc:cT p=0):∀x∈aA p,Bz x:=by
 obtain⟨h1,h2,h3⟩:=(Bn p).1 hc
 obtain⟨hs,hn,hf⟩:=(tg p).1 h1
 unfold bx at hf
 rw[qf,Bb]at hf
 obtain⟨_,_,hK⟩:=hf
 unfold bx.K1 bx.K2 at hK
 rw[DC]at hK
 intro x hx
 obtain⟨j,hj⟩:=List.getElem?_of_mem hx
 have hfm:=λz hz=>(hK j x hj z hz).1
 let Q:Expr->Prop:=λx=>x.Kind=2\/x.Kind=3->1<=x.N
 have all:∀z∈bM x 1,Q z.x:=by
  intro z hz hk
  have a:=hfm z hz
  simp only[jB]at a
  have a2:=a.2
  rcases hk with e|e
  .rw[e]at a2
   simp only[kindsP]at a2
   simp[lD,bh]at a2
   omega
  .rw[e]at a2
   simp only[kindsP]at a2
   simp[lC,bh]at a2
   omega
 clear hfm hK hj hx
 revert all
 refine Expr.ind (P:=λx=>(∀z∈bM x 1,Q z.x)->Bz x) ?_ x
 intro x ih all
 rw[yN Q]at all
 exact Bz.mk x all.1 λy hy=>ih y hy (all.2 y hy)
theorem Br(v:Int)(hs:List (List Holder))(o:Int):dO ⟨v,hs,[]⟩ o=[]:=by
 rw[Bs]
 exact List.filter_eq_nil_iff.2 λy _=>by simp
theorem nobody(v:Int)(hs:List (List Holder)):∀(m:Nat)(x:Expr),x.dep<=2000000->Bz x->bR.go m ⟨v,hs,[]⟩ x=false
 |0,x,_,_=>rfl
 |m+1,x,hd,hx=>by
  have ih:=nobody v hs m
  simp only[bR.go,bR.F,fulQ]
  split
  .unfold dM
   rw[Br];rfl
  .split
   .next hk2=>
    unfold cz
    rw[Br]
    have:=hx.n (.inl (by simpa using hk2))
    simp only[cz.L1,cz.K1,decide_eq_false_iff_not]
    omega
   .split
    .next hk3=>
     unfold dC.F
     have hl:=Expr.HJ x
     rw[Lu _ _ _ _ _ (Int.le_refl _) (by omega)]
     have h0:x.L.countP (bR.go m ⟨v,hs,[]⟩)=0:=List.countP_eq_zero.2 λy hy=>by rw[ih y (by have:=kV hy;omega) (hx.sub y hy)];simp
     have:=hx.n (.inr (by simpa using hk3))
     rw[h0]
     simp only[dC.K1,decide_eq_false_iff_not]
     omega
    .unfold jj.F
     have hsm:∀z,(nthI x.L z).dep<=2000000/\Bz (nthI x.L z):=Dy (P:=λy:Expr=>y.dep<=2000000/\Bz y) (λy hy=>⟨by have:=kV hy;omega,hx.sub y hy⟩) ⟨by decide,Bz.mk _ (λh=>by rcases h with h|h<;>cases h) (λy hy=>(jA hy).elim)⟩
     rw[Bool.cond_eq_ite]
     split
     .exact ih _ (hsm _).1 (hsm _).2
     .exact ih _ (hsm _).1 (hsm _).2
theorem Ft{p:Policy}{kind value:Int}(hp:smP p)(hk:kind<(p.Rules.length:Int)):((bU p kind value hs []).1&&((bU p kind value hs []).2==0))=false:=by
 unfold bU
 cases hc:(cT p != 0)with
 |true=>rfl
 |false=>
  rw[cond_false]
  cases ha:(((decide (kind<0)||decide ((p.Kinds.length:Int)<=kind))||decide (value<0))||decide (1099511627776<value))with
  |true=>rfl
  |false=>
   rw[cond_false]
   cases hr:dI hs (p.Offices.length:Int)with
   |false=>rfl
   |true=>
    simp only[Bool.or_eq_false_iff,decide_eq_false_iff_not]at ha
    have hm:nthI p.Rules kind∈p.Rules:=lm (by omega)
    have hpos:=MK (by simpa using hc) (nthI p.Rules kind).Expr (by rw[rR];exact List.mem_append_left _ (zM hm))
    have hx:(nthI p.Rules kind).Expr.dep<=2000000:=jP (hp.2.1 _ hm) (by omega)
    have:bR ⟨value,hs,[]⟩ (nthI p.Rules kind).Expr=false:=nobody value hs _ _ hx hpos
    rw[show er []=true from rfl,Bool.not_true,cond_false,cond_false,this]
    rfl
theorem Gz(c:bL)(k:List (List Holder)->Bool):∀(s:List ByteArray)(i:Nat)(g:List (List Holder)),dN.L1 c k s i g=k (g++(jJ s.length).map λj=>(dg c.Register.Appoints ((i+j:Nat):Int) c.at_ c.known).1)
 |[],i,g=>by simp[dN.L1]
 |y::s,i,g=>by
  simp only[dN.L1]
  rw[Gz c k s (i+1),zA,List.range_succ_eq_map]
  simp only[kG,List.map_map,qE,jM,zG,Nat.add_zero]
  congr 3
  apply List.map_congr_left
  intro j _
  simp only[Function.comp,Nat.succ_eq_add_one]
  congr 3
  omega
theorem Hx(r:Register)(d:Document)(t known:Int)(p:Policy)(who:List Int):dN ⟨r,d,t,known⟩ p who=((bU p d.Kind d.Value (aG ⟨r,d,known⟩ p t) who).1&&((bU p d.Kind d.Value (aG ⟨r,d,known⟩ p t) who).2==0)):=by
 unfold dN
 rw[Gz,zG,qs]
 simp only[Nat.zero_add]
 rfl
theorem Kr{r:Register}(d:Document)(t known:Int)(g:yX r.Versions){J:List Int×Int×Int}(j:Jdg r.Versions J):(r.Versions.filter λv=>eH J.1 v.No).map (·.Policy)=J.1.map (askP ⟨r,d,t,known⟩):=by
 have hmem:∀x,x∈((r.Versions.filter λv=>eH J.1 v.No).map (·.No))↔x∈J.1:=by
  intro x
  rw[kJ]
  constructor
  .rintro⟨v,hv,rfl⟩
   exact(Bl _ _).1 (RP.1 hv).2
  .intro hx
   obtain⟨v,hv,rfl⟩:=j.mem x hx
   exact⟨v,RP.2 ⟨hv,(Bl _ _).2 hx⟩,rfl⟩
 have hri:((r.Versions.filter λv=>eH J.1 v.No).map (·.No)).Pairwise (·<·):=by
  rw[List.pairwise_map]
  exact g.inc.sublist (List.filter_sublist ..)
 have he:(r.Versions.filter λv=>eH J.1 v.No).map (·.No)=J.1:=by
  refine s9 (hri.imp λh=>Int.le_of_lt h) (j.rise.imp λh=>Int.le_of_lt h) ?_
  exact(List.perm_ext_iff_of_nodup (hri.imp λh=>by omega) (j.rise.imp λh=>by omega)).2 hmem
 conv=>rhs;rw[←he]
 rw[List.map_map]
 apply List.map_congr_left
 intro v hv
 have hvm:=(RP.1 hv).1
 show v.Policy=askP ⟨r,d,t,known⟩ v.No
 rcases uU ⟨r,d,t,known⟩ v.No with⟨_,h2⟩|⟨a,w,b,h1,h2,h3,_⟩
 .exact absurd rfl (h2 v hvm)
 .have hw:w∈r.Versions:=by
   have:w∈(bL.mk r d t known).Register.Versions:=by rw[h1];simp
   exact this
  have:=LC g.inc hw hvm h3
  subst this
  unfold askP
  rw[OC h2]
section
variable {r:Register} {d:Document} {t known:Int} (hsm:smR r) (hco:jt ⟨r,d,t,known⟩)
include hsm hco
theorem MN{p:Policy}(hp:OV p)(hw:(∀x∈who,0<=x/\x<64)/\who.Pairwise (·<·))(hin:∀z∈cL ⟨r,d,t,known⟩ p,z∈who)(h:dN ⟨r,d,t,known⟩ p (cL ⟨r,d,t,known⟩ p)=true):cval ⟨r,d,known⟩ who t p=true:=by
 rw[Hx]at h
 have hkd:d.Kind<(p.Rules.length:Int):=by
  rcases Int.lt_or_le d.Kind (p.Rules.length:Int)with q|q
  .exact q
  .exfalso
   rw[hp.rules.1]at q
   unfold bU at h
   rw[show decide ((p.Kinds.length:Int)<=d.Kind)=true from decide_eq_true q]at h
   cases h3:cT p != 0<;>rw[h3]at h<;>simp at h
 have hgood:∀z∈cL ⟨r,d,t,known⟩ p,d.At+(nthI p.Rules d.Kind).Think<=t/\bQ z ⟨r,d,known⟩ t=false:=by
  intro z hz
  have hz64:=GB hco.chk p z hz
  rw[BN,(Av _).2,kJ]at hz
  obtain⟨y,hy,rfl⟩:=hz
  rw[Dz,Bool.cond_eq_ite]at hy
  split at hy
  .exact(jA hy).elim
  .obtain⟨hy1,hy2⟩:=RP.1 hy
   have hb:=(xz (oK ((lY _).1 hco.chk).2.2.2.2.2.2 y (vk hy1))).2.2.2.2
   have ht:=hco.time
   constructor
   .unfold cU at hy1
    simp only[Bool.cond_eq_ite]at hy1
    split at hy1
    .exact(jA hy1).elim
    .split at hy1
     .exact(jA hy1).elim
     .have h5:=(RP.1 hy1).2
      dsimp only at h5 ht
      simp only[ik,kC,Bool.or_eq_false_iff,decide_eq_false_iff_not]at h5
      rw[wrap64 (z:=t-y.At) (by omega)]at h5
      omega
   .simp only[goodA,jB,kC]at hy2
    have hbi:=hy2.1.2
    have he:=Fg hco (p:=y.For) hz64
    unfold bQ
    show(((cQ r.Interests y.For d.Parties t known).2.2 != 0)||(cQ r.Interests y.For d.Parties t known).2.1)=false
    rw[show(cQ r.Interests y.For d.Parties t known).2.2=0 from he,show(cQ r.Interests y.For d.Parties t known).2.1=false from hbi]
    rfl
 have hne:∃z,z∈cL ⟨r,d,t,known⟩ p:=by
  cases hq:cL ⟨r,d,t,known⟩ p with
  |nil=>rw[hq,Ft hp.sm hkd]at h;cases h
  |cons z l=>exact⟨z,zB ..⟩
 obtain⟨z,hz⟩:=hne
 have hth:=(hgood z hz).1
 unfold cval
 dsimp only
 rw[decide_eq_true hkd,decide_eq_true hth,Bool.and_self,cond_true]
 refine H8 (w:=cL ⟨r,d,t,known⟩ p) hp.sm (wP (q:=⟨r,d,known⟩) hsm.2.1 _ _) (λl _ y _ hx=>?_) ?_ hkd h
 .unfold ce
  exact RP.2 ⟨hin _ hx,by show(!(bQ y.Person ⟨r,d,known⟩ t))=true;rw[(hgood _ hx).2];rfl⟩
 .rw[GA]
  unfold ce
  exact⟨λx hx=>hw.1 x (RP.1 hx).1,hw.2.sublist (List.filter_sublist ..)⟩
theorem H4(hcl:eX ⟨r,d,t,known⟩ signed=false)(ha:ft ⟨r,d,t,known⟩=true):bF ⟨r,d,known⟩ (askAll ⟨r,d,t,known⟩) t=true:=by
 have hle:d.At<=t:=GY hcl
 have hun:¬d.Until<=t:=by
  unfold eX at hcl
  simp only[Bool.or_eq_false_iff,decide_eq_false_iff_not]at hcl
  exact hcl.1.1.2
 have hj:=G9 hco.vers hco.good.at_ hco.time hco.know hle
 have eJ:aB ⟨r,d,known⟩ t=((askJ ⟨r,d,t,known⟩).1.map (askP ⟨r,d,t,known⟩),(askJ ⟨r,d,t,known⟩).2.1):=by
  unfold aB
  rw[show(aK (aD.mk r d known).Register.Versions (aD.mk r d known).doc.At t (aD.mk r d known).known).2.2=0 from hj.err]
  rw[rQ,zG]
  show((r.Versions.filter λv=>eH (aK r.Versions d.At t known).1 v.No).map (·.Policy),(aK r.Versions d.At t known).2.1)=_
  rw[Kr d t known hco.vers hj]
  rfl
 unfold bF
 rw[show(decide (t<(aD.mk r d known).doc.At)||decide ((aD.mk r d known).doc.Until<=t))=false from by simp only[Bool.or_eq_false_iff,decide_eq_false_iff_not];exact⟨by show ¬t<d.At;omega,hun⟩]
 rw[cond_false,P8,zG]
 unfold bF.K1
 rw[eJ]
 dsimp only
 unfold ft at ha
 cases h0:(askJ ⟨r,d,t,known⟩).2.1==0 with
 |true=>rw[h0]at ha;cases ha
 |false=>
  rw[h0,cond_false,Hc]at ha
  rw[Hc,List.map_map]
  have e:gj (askJ ⟨r,d,t,known⟩).2.1 ((askJ ⟨r,d,t,known⟩).1.map (cval ⟨r,d,known⟩ (askAll ⟨r,d,t,known⟩) t∘askP ⟨r,d,t,known⟩))=gj (askJ ⟨r,d,t,known⟩).2.1 ((askJ ⟨r,d,t,known⟩).1.map (askAns ⟨r,d,t,known⟩)):=by
   unfold gj;rw[List.length_map,List.length_map]
  rw[e]
  cases h2:gj (askJ ⟨r,d,t,known⟩).2.1 ((askJ ⟨r,d,t,known⟩).1.map (askAns ⟨r,d,t,known⟩)) != 0 with
  |true=>rw[h2]at ha;cases ha
  |false=>
   rw[h2]at ha
   simp only[cond_false,beq_self_eq_true,Bool.and_true]at ha ⊢
   refine MI _ (λno hn hv=>?_) ha
   obtain⟨v,hv1,hvn⟩:=hj.mem no hn
   obtain⟨p,hp⟩:∃p,fE ⟨r,d,t,known⟩ no=.ok p:=by
    have:=AI (c:=⟨r,d,t,known⟩) ⟨v,hv1,hvn⟩
    cases hq:fE ⟨r,d,t,known⟩ no with
    |ok p=>exact⟨p,rfl⟩
    |error e=>rw[hq]at this;exact this.elim
   have eP:askP ⟨r,d,t,known⟩ no=p:=by unfold askP;rw[OC hp]
   have hpo:=Bj hco hsm hp
   unfold askAns askWho at hv
   rw[eP]at hv
   show cval ⟨r,d,known⟩ (askAll ⟨r,d,t,known⟩) t (askP ⟨r,d,t,known⟩ no)=true
   rw[eP]
   refine MN hsm hco hpo (OU hco.chk) (λz hz=>?_) hv
   show z∈setI ((askJ ⟨r,d,t,known⟩).1.flatMap (askWho ⟨r,d,t,known⟩))
   rw[(Av _).2,List.mem_flatMap]
   exact⟨no,hn,by unfold askWho;rw[eP];exact hz⟩
end
theorem judged_true{r:Register}(hs:smR r)(signed:List Int)(u:List Use)(doc t known:Int):nR r signed u doc t known=true:=by
 unfold nR
 rw[Mk]
 simp only[Bool.not_true,cond_false]
 cases hr:(!(ga r doc [] [t,known]))||decide (50<(u.length:Int))with
 |true=>rfl
 |false=>
  rw[cond_false]
  simp only[Bool.or_eq_false_iff,Bool.not_eq_false']at hr
  have q:=Pi hr.1
  have ht:=q.times t (zB ..)
  have hk:=q.times known (vA _ (zB ..))
  obtain⟨c1,c2,c3,c4,c5,c6,c7⟩:=JH q.check
  have hj:et r=0:=(lY r).2 ⟨(CA r.Appoints).trans c1,(H0 _).trans c2,(yR r.Interests).trans c3,(JO _).trans c4,JJ hs.vers c5,FT c6,(F4 _).trans c7⟩
  have ho:=Pt q.doc0 ht hk
  obtain⟨_,hco,_,_⟩:=HC hj ho
  cases hv:(((dj r signed u doc t known).2 != 0)||((((dj r signed u doc t known).1).State != 0)&&(((dj r signed u doc t known).1).State != 4)))with
  |true=>rfl
  |false=>
   rw[cond_false]
   have hw:=EG r signed u doc t known
   obtain⟨s,eT,hg⟩:=Ns (r:=r) (doc:=doc) (who:=(dj r signed u doc t known).1.Who) (known:=known) hj q.doc0 hk hw
   rw[eT]
   have hin:lq s t=bF ⟨r,nthI r.Docs (dc r doc),known⟩ (dj r signed u doc t known).1.Who t:=(P0 t s).trans (hg.is t ht.1 ht.2)
   dsimp only
   rw[hin]
   simp only[beq_self_eq_true,Bool.true_and]
   simp only[Bool.or_eq_false_iff]at hv
   obtain⟨hv1,hv2⟩:=hv
   have hJ:dj r signed u doc t known=(judgeC ⟨r,nthI r.Docs (dc r doc),t,known⟩ r signed u t known,0):=by
    revert hv1
    unfold dj
    rw[hj,ho]
    cases h2:(bW r.Docs signed 0).2 != 0 with
    |true=>intro hv1;exact absurd hv1 (by simpa using h2)
    |false=>
     cases h3:(bZ r.Budgets u 0 0 0 0).2.2 != 0 with
     |true=>intro hv1;exact absurd hv1 (by simpa using h3)
     |false=>intro _;rfl
   rw[hJ]at hv2 ⊢
   dsimp only at hv2 ⊢
   have key:∀(hcl:eX ⟨r,nthI r.Docs (dc r doc),t,known⟩ signed=false)(ha:ft ⟨r,nthI r.Docs (dc r doc),t,known⟩=true),bF ⟨r,nthI r.Docs (dc r doc),known⟩ (askAll ⟨r,nthI r.Docs (dc r doc),t,known⟩) t=true:=
    λhcl ha=>H4 hs hco hcl ha
   unfold judgeC at hv2 ⊢
   cases h1:eX ⟨r,nthI r.Docs (dc r doc),t,known⟩ signed with
   |true=>rw[h1]at hv2;cases hv2
   |false=>
    rw[h1]at hv2
    cases h2:hY ⟨r,nthI r.Docs (dc r doc),t,known⟩ signed with
    |true=>rw[h2]at hv2;cases hv2
    |false=>
     rw[h2]at hv2
     cases h3:ft ⟨r,nthI r.Docs (dc r doc),t,known⟩with
     |false=>rw[h3]at hv2;cases hv2
     |true=>
      cases h4:(judgeRoom ⟨r,nthI r.Docs (dc r doc),t,known⟩ r u t known).2.1<;>exact key h1 h3
end
variable {S:List Nat}{e':Env}
section
section
variable {P:Program} {b:Frame} {n:Nat} {k:List Item} {F:List Frame->(Machine->Prop)->Prop} {e:Env} {ds:List Deferred} {X:Cx} {h:HF} {L:LH}
variable {ops:Array Oper} {l:List Oper} {d:Nat} {ty:TypeId} {pos:String} {af:Array Edge} {g:Option (Nat×Bool)}
def memN:List Nat->Nat->Bool
 |[],_=>false
 |a::l,s=>bif SP s a then true else memN l s
def mix(S:List Nat)(e' e:Env):Env:=λs=>bif memN S s then e' s else e s
def subN:List Nat->List Nat->Bool
 |[],_=>true
 |a::l,S=>memN S a&&subN l S
def Agr(S:List Nat)(e e':Env):Prop:=∀s,memN S s=false->e' s=e s
theorem xI{e:Env}:Agr S e e:=λ_ _=>rfl
theorem Bt{e:Env}{d:Nat}{w:Value}(hd:memN S d=true)(h:Agr S e e'):Agr S e (upd e' d w):=λs hs=>by
 unfold upd
 cases hb:SP s d with
 |true=>rw[vS hb,hd]at hs;cases hs
 |false=>exact h s hs
theorem N6{T:List Nat}(h:subN T S=true){s:Nat}(hs:memN S s=false):memN T s=false:=by
 induction T with
 |nil=>rfl
 |cons a T ih=>
  simp only[subN,jB]at h
  simp only[memN]
  cases hb:SP s a with
  |true=>rw[vS hb,h.1]at hs;cases hs
  |false=>exact ih h.2
theorem Bu{T:List Nat}{e e2:Env}(hT:subN T S=true)(h:Agr S e e'):Agr S e (mix T e2 e'):=λs hs=>by
 unfold mix
 rw[N6 hT hs];exact h s hs
theorem Lj(m:Nat)(S:List Nat)(d:Nat)(v:Value)(t':(∀e',e' d=v->(ha:Agr S e e':=by repeat (first|exact xI|refine Bt rfl ?_|refine Bu rfl ?_))->TO P b n ops (l.drop m) k F e' ds X h L)->TO P b n ops l k F e ds X h L)(hk:∀e'',TO P b n ops (l.drop m) k F (upd (mix S e'' e) d v) ds X h L):TO P b n ops l k F e ds X h L:=
 t' λe' hv ha=>by
  have e1:upd (mix S e' e) d v=e':=funext λs=>by
   unfold upd
   cases hb:SP s d with
   |true=>rw[vS hb];exact hv.symm
   |false=>
    show mix S e' e s=e' s
    unfold mix
    cases hm:memN S s with
    |true=>rfl
    |false=>exact(ha s hm).symm
  have:=hk e'
  rw[e1]at this
  exact this
theorem ae{x y z:α}{c:Bool}{o:Operand}{p q:Code}(hs:x=bif c then y else z)(hx:e.ev o=.bool c)(t1:c=true->x=y->TT P b n (.code p::k) F e ds X h L)(t2:c=false->x=z->TT P b n (.code q::k) F e ds X h L):TT P b n (.code (.cond o p q)::k) F e ds X h L:=
 jf hx (λe'=>t1 e' (hs.trans (by rw[e'];rfl))) (λe'=>t2 e' (hs.trans (by rw[e'];rfl)))
end
end
variable {l:List Oper}{op:Op}{ops:Array Oper}{v:Go.Value}
section
inductive Qs
 |tt (k:List Item) (e:Env)
 |to (ops:Array Oper) (l:List Oper) (k:List Item) (e:Env)
@[reducible] def Qs.holds (P:Program) (b:Frame) (n:Nat) (F:List Frame->(Machine->Prop)->Prop) (ds:List Deferred) (X:Cx) (h:HF) (L:LH):Qs->Prop
 |.tt k e=>TT P b n k F e ds X h L
 |.to ops l k e=>TO P b n ops l k F e ds X h L
def opQ(e:Env):Op->Option Value
 |.move x=>some (e.ev x)
 |.assign x=>some (e.ev x)
 |.pick c x y=>match e.ev c with
  |.bool s=>some (bif s then e.ev x else e.ev y)
  |_=>none
 |.extract x i=>match e.ev x with
  |.tuple ⟨vs⟩=>nth vs i
  |_=>none
 |.unOp .not _ x=>match e.ev x with
  |.bool s=>some (.bool !s)
  |_=>none
 |.binOp op _ x y _=>binV op (e.ev x) (e.ev y)
 |_=>none
def qstepO(n:Nat)(ops:Array Oper)(l:List Oper)(k:List Item)(e:Env):Option Qs:=
 match l with
 |[]=>some (.tt k e)
 |⟨some d,op,ty,pos,af,g⟩::l=>
  match zR d n with
  |false=>none
  |true=>match guardB ops e ⟨some d,op,ty,pos,af,g⟩with
   |false=>some (.to ops l k (upd e d undef))
   |true=>match opQ e op with
    |some v=>some (.to ops l k (upd e d v))
    |none=>none
 |_=>none
def qstepT(k:List Item)(e:Env):Option Qs:=
 match k with
 |.code .skip::k=>some (.tt k e)
 |.code (.seq x y)::k=>some (.tt (.code x::.code y::k) e)
 |.code (.block id c)::k=>some (.tt (.code c::.inBlock id::k) e)
 |.inBlock _::k=>some (.tt k e)
 |.code (.exit id)::k=>match exitTo id k with
  |some k'=>some (.tt k' e)
  |none=>none
 |.code (.cond c x y)::k=>match e.ev c with
  |.bool true=>some (.tt (.code x::k) e)
  |.bool false=>some (.tt (.code y::k) e)
  |_=>none
 |.code (.region _ ⟨l⟩ false)::k=>some (.to ⟨l⟩ l k e)
 |_=>none
def runQ(n:Nat):Nat->Qs->Option Qs
 |0,s=>some s
 |m+1,.tt k e=>match qstepT k e with
  |some s=>runQ n m s
  |none=>none
 |m+1,.to ops l k e=>match qstepO n ops l k e with
  |some s=>runQ n m s
  |none=>none
section
variable {P:Program} {b:Frame} {n:Nat} {k:List Item} {F:List Frame->(Machine->Prop)->Prop} {e:Env} {ds:List Deferred} {X:Cx} {h:HF} {L:LH}
theorem HD(hv:opQ e op=some v):noDefer op=true/\∀(d:Option Nat)(ty:TypeId)(pos:String)(af:Array Edge)(g:Option (Nat×Bool))w,(execOp e.ev ⟨d,op,ty,pos,af,g⟩).run P w=.ok (.value v) w:=by
 unfold opQ at hv
 split at hv
 .cases hv;exact⟨rfl,λ_ _ _ _ _ w=>by simp[execOp]⟩
 .cases hv;exact⟨rfl,λ_ _ _ _ _ w=>by simp[execOp]⟩
 .split at hv
  .next s hc=>cases hv;exact⟨rfl,λ_ _ _ _ _ w=>by cases s<;>simp[execOp,hc,asBool]⟩
  .cases hv
 .split at hv
  .next vs hx=>exact⟨rfl,λ_ _ _ _ _ w=>by rw[hZ]at hv;simp[execOp,hx,Instr.extract,hv]⟩
  .cases hv
 .split at hv
  .next s hx=>cases hv;exact⟨rfl,λ_ _ _ _ _ w=>by simp[execOp,hx,Op.unary]⟩
  .cases hv
 .next op t x y u=>
  exact⟨rfl,λ_ _ _ _ _ w=>by
   have:=D4 (P:=P) (t:=t) (x:=x) (y:=y) hv w
   simp only[execOp,Sem.run_bind]at this ⊢
   simp[this]⟩
 .cases hv
theorem Mq{s:Qs}(hs:qstepO n ops l k e=some s)(t:s.holds P b n F ds X h L):TO P b n ops l k F e ds X h L:=by
 unfold qstepO at hs
 split at hs
 .cases hs;exact aH t
 .split at hs
  .cases hs
  .next hd=>
   split at hs
   .next hg=>cases hs;exact HE t hd hg
   .next hg=>
    split at hs
    .next v hv=>
     cases hs
     obtain⟨h1,h2⟩:=HD (P:=P) hv
     exact tE v h1 (λw _=>h2 _ _ _ _ _ w) hd hg t
    .cases hs
 .cases hs
theorem Gr{s:Qs}(hs:qstepT k e=some s)(t:s.holds P b n F ds X h L):TT P b n k F e ds X h L:=by
 unfold qstepT at hs
 split at hs
 .cases hs;exact aQ t
 .cases hs;exact dJ t
 .cases hs;exact ll t
 .cases hs;exact eB t
 .split at hs
  .next hx=>cases hs;exact mr hx t
  .cases hs
 .split at hs
  .next hc=>cases hs;exact kY hc t
  .next hc=>cases hs;exact np hc t
  .cases hs
 .cases hs;exact bu t
 .cases hs
theorem Du:∀(m:Nat)(a:Qs){s:Qs},runQ n m a=some s->s.holds P b n F ds X h L->a.holds P b n F ds X h L
 |0,_,_,hr,t=>by cases hr;exact t
 |m+1,.tt k e,s,hr,t=>by
  unfold runQ at hr
  split at hr
  .next s' hs=>exact Gr hs (Du m s' hr t)
  .cases hr
 |m+1,.to ops l k e,s,hr,t=>by
  unfold runQ at hr
  split at hr
  .next s' hs=>exact Mq hs (Du m s' hr t)
  .cases hr
theorem qT(m:Nat){s:Qs}(hr:runQ n m (.tt k e)=some s)(t:s.holds P b n F ds X h L):TT P b n k F e ds X h L:=Du m (.tt k e) hr t
theorem qO(m:Nat){s:Qs}(hr:runQ n m (.to ops l k e)=some s)(t:s.holds P b n F ds X h L):TO P b n ops l k F e ds X h L:=Du m (.to ops l k e) hr t
end
end
variable {P:Program}{a:Bool}{args:List Go.Value}{fn:Func}{id:Nat}{p:Prop}{x0:ρ}{γ:Type}
section
section
variable {P:Program} {b:Frame} {n:Nat} {k:List Item} {F:List Frame->(Machine->Prop)->Prop} {e:Env} {ds:List Deferred} {X:Cx} {h:HF} {L:LH}
theorem rds(h:p:=by repeat (first|exact trivial|refine⟨rfl,?_⟩)):p:=h
theorem sws(h:p:=by first|exact λw hw=>hw|(intro w hw;first|simpa only[List.append_assoc,List.cons_append,List.nil_append,List.append_nil]using hw|(simp only[List.append_assoc,List.cons_append,List.nil_append,List.append_nil]at hw ⊢;exact hw))):p:=h
theorem ndA(h:p:=by(intro i g hd hf hx e;refine dJ (bu (iq (v':=.bool false) rfl (congrArg Value.bool hf) (aH (dJ (np rfl (mr rfl (hx _ ?_)))))));exact rds)):p:=h
theorem ndB(h:p:=by(intro i hd hf hx e;refine dJ (bu (iq (v':=.bool false) rfl (congrArg Value.bool hf) (aH (dJ (np rfl (mr rfl (hx _ ?_)))))));exact rds)):p:=h
theorem lpG{c:Code}(xs:List α)(sl:Nat->γ->List (Nat×Value))(hh:γ->HF)(LL:γ->LH)(J:Nat->γ->Prop)(Lf:List α->Nat->γ->ρ)(g0:γ)(hb:xs.length<=9223372036854775807)(hs:x0=Lf xs 0 g0)(hJ:J 0 g0)(h0:i9 e (sl 0 g0))(hw:∀w,St X h L w->St X (hh g0) (LL g0) w)(after:∀i g,i<=xs.length->x0=Lf [] i g->J i g->∀e',TT P b n k F (upds e' (sl i g)) ds X (hh g) (LL g))(cons:∀i g y r,xs.drop i=y::r->decide ((i:Int)<(xs.length:Int))=true->xs[i]? = some y->i<xs.length->xs.length<=9223372036854775807->x0=Lf (y::r) i g->J i g ->
   (∀i' g' {e'},x0=Lf [] i' g'->J i' g'->i'<=xs.length->i9 e' (sl i' g')->TT P b n k F e' ds X (hh g') (LL g')) ->
   (∀g' {e'},x0=Lf r (i+1) g'->J (i+1) g'->i9 e' (sl (i+1) g')->TT P b n (.inLoop c::.inBlock id::k) F e' ds X (hh g') (LL g')) ->
   ∀e',TT P b n (.code c::.inLoop c::.inBlock id::k) F (upds e' (sl i g)) ds X (hh g) (LL g))(nil:∀i g,xs.drop i=[]->decide ((i:Int)<(xs.length:Int))=false->(∀e',i9 e' (sl i g)->TT P b n k F e' ds X (hh g) (LL g)) ->
   ∀e',TT P b n (.code c::.inLoop c::.inBlock id::k) F (upds e' (sl i g)) ds X (hh g) (LL g)):
  TT P b n (.code (.block id (.loop c))::k) F e ds X h L:=by
 refine iA (ι:=Nat×γ) (λi=>sl i.1 i.2) (λi=>hh i.2) (λi=>LL i.2) (λi=>i.1<=xs.length/\x0=Lf [] i.1 i.2/\J i.1 i.2) ?_ (λhx=>?_)
 .rintro⟨i,g⟩ ⟨h1,h2,h3⟩ e'
  exact after i g h1 h2 h3 e'
 .refine kl (ι:=Nat×γ×List α) (λi=>sl i.1 i.2.1) (λi=>hh i.2.1) (λi=>LL i.2.1) (λi=>xs.drop i.1=i.2.2/\i.1<=xs.length/\x0=Lf i.2.2 i.1 i.2.1/\J i.1 i.2.1) (λi=>i.2.2.length) (0,g0,xs) h0 hw ⟨rfl,vM _,hs,hJ⟩ ?_
  rintro⟨i,g,s⟩ ⟨hd,hi,hs,hJ⟩ ag e'
  dsimp only at hd hi hs hJ
  rcases s with _|⟨y,r⟩
  .exact nil i g hd (oI hd) (λe'' hr=>hx (i,g) e'' ⟨hi,hs,hJ⟩ hr) e'
  .exact cons i g y r hd (tJ hd) (sQ hd) (jv hd) hb hs hJ (λi' g' e'' a b c d=>hx (i',g') e'' ⟨c,a,b⟩ d)
    (λg' e'' a b hr=>ag (i+1,g',r) e'' (Nat.lt_succ_self _) ⟨mY hd,jv hd,a,b⟩ hr) e'
theorem lp2{c:Code}(xs:List α)(sl:Nat->γ->List (Nat×Value))(hh:γ->HF)(LL:γ->LH)(J:Nat->γ->Prop)(Lf:List α->Nat->γ->ρ)(g0:γ)(hb:xs.length<=9223372036854775807)(hs:x0=Lf xs 0 g0)(hJ:J 0 g0)(after:∀i g,i<=xs.length->x0=Lf [] i g->J i g->∀e',TT P b n k F (upds e' (sl i g)) ds X (hh g) (LL g))(cons:∀i g y r,xs.drop i=y::r->decide ((i:Int)<(xs.length:Int))=true->xs[i]? = some y->i<xs.length->xs.length<=9223372036854775807->x0=Lf (y::r) i g->J i g ->
   (∀i' g' {e'},x0=Lf [] i' g'->J i' g'->(hi:i'<=xs.length:=by omega)->(hr:i9 e' (sl i' g'):=by exact rds)->TT P b n k F e' ds X (hh g') (LL g')) ->
   (∀g' {e'},x0=Lf r (i+1) g'->J (i+1) g'->(hr:i9 e' (sl (i+1) g'):=by exact rds)->TT P b n (.inLoop c::.inBlock id::k) F e' ds X (hh g') (LL g')) ->
   ∀e',TT P b n (.code c::.inLoop c::.inBlock id::k) F (upds e' (sl i g)) ds X (hh g) (LL g))(nil:∀i g,xs.drop i=[]->decide ((i:Int)<(xs.length:Int))=false->(∀e',i9 e' (sl i g)->TT P b n k F e' ds X (hh g) (LL g)) ->
   ∀e',TT P b n (.code c::.inLoop c::.inBlock id::k) F (upds e' (sl i g)) ds X (hh g) (LL g):=by exact ndA)(h0:i9 e (sl 0 g0):=by exact rds)(hw:∀w,St X h L w->St X (hh g0) (LL g0) w:=by exact sws):
  TT P b n (.code (.block id (.loop c))::k) F e ds X h L:=
 lpG xs sl hh LL J Lf g0 hb hs hJ h0 hw after cons nil
theorem lp1{c:Code}(xs:List α)(sl:Nat->γ->List (Nat×Value))(L':LH)(Lf:List α->Nat->γ->ρ)(g0:γ)(hb:xs.length<=9223372036854775807)(hs:x0=Lf xs 0 g0)(after:∀i g,i<=xs.length->x0=Lf [] i g->∀e',TT P b n k F (upds e' (sl i g)) ds X h L')(cons:∀i g y r,xs.drop i=y::r->decide ((i:Int)<(xs.length:Int))=true->xs[i]? = some y->i<xs.length->xs.length<=9223372036854775807->x0=Lf (y::r) i g ->
   (∀i' g' {e'},x0=Lf [] i' g'->(hi:i'<=xs.length:=by omega)->(hr:i9 e' (sl i' g'):=by exact rds)->TT P b n k F e' ds X h L') ->
   (∀g' {e'},x0=Lf r (i+1) g'->(hr:i9 e' (sl (i+1) g'):=by exact rds)->TT P b n (.inLoop c::.inBlock id::k) F e' ds X h L') ->
   ∀e',TT P b n (.code c::.inLoop c::.inBlock id::k) F (upds e' (sl i g)) ds X h L')(nil:∀i g,xs.drop i=[]->decide ((i:Int)<(xs.length:Int))=false->(∀e',i9 e' (sl i g)->TT P b n k F e' ds X h L') ->
   ∀e',TT P b n (.code c::.inLoop c::.inBlock id::k) F (upds e' (sl i g)) ds X h L':=by exact ndA)(h0:i9 e (sl 0 g0):=by exact rds)(hw:∀w,St X h L w->St X h L' w:=by exact sws):
  TT P b n (.code (.block id (.loop c))::k) F e ds X h L:=
 lpG xs sl (λ_=>h) (λ_=>L') (λ_ _=>True) Lf g0 hb hs trivial h0 hw (λi g a b _=>after i g a b) (λi g y r a1 a2 a3 a4 a5 a6 _ hx ag=>cons i g y r a1 a2 a3 a4 a5 a6 (λi' g' _ a hi hr=>hx i' g' a trivial hi hr) (λg' _ a hr=>ag g' a trivial hr)) nil
theorem lp0{c:Code}(xs:List α)(sl:Nat->List (Nat×Value))(L':LH)(Lf:List α->Nat->ρ)(hb:xs.length<=9223372036854775807)(hs:x0=Lf xs 0)(after:∀i,i<=xs.length->x0=Lf [] i->∀e',TT P b n k F (upds e' (sl i)) ds X h L')(cons:∀i y r,xs.drop i=y::r->decide ((i:Int)<(xs.length:Int))=true->xs[i]? = some y->i<xs.length->xs.length<=9223372036854775807->x0=Lf (y::r) i ->
   (∀i' {e'},x0=Lf [] i'->(hi:i'<=xs.length:=by omega)->(hr:i9 e' (sl i'):=by exact rds)->TT P b n k F e' ds X h L') ->
   (∀{e'},x0=Lf r (i+1)->(hr:i9 e' (sl (i+1)):=by exact rds)->TT P b n (.inLoop c::.inBlock id::k) F e' ds X h L') ->
   ∀e',TT P b n (.code c::.inLoop c::.inBlock id::k) F (upds e' (sl i)) ds X h L')(nil:∀i,xs.drop i=[]->decide ((i:Int)<(xs.length:Int))=false->(∀e',i9 e' (sl i)->TT P b n k F e' ds X h L') ->
   ∀e',TT P b n (.code c::.inLoop c::.inBlock id::k) F (upds e' (sl i)) ds X h L':=by exact ndB)(h0:i9 e (sl 0):=by exact rds)(hw:∀w,St X h L w->St X h L' w:=by exact sws):
  TT P b n (.code (.block id (.loop c))::k) F e ds X h L:=
 lpG (γ:=Unit) xs (λi _=>sl i) (λ_=>h) (λ_=>L') (λ_ _=>True) (λl i _=>Lf l i) () hb hs trivial h0 hw (λi _ a b _=>after i a b) (λi _ y r a1 a2 a3 a4 a5 a6 _ hx ag=>cons i y r a1 a2 a3 a4 a5 a6 (λi' _ a hi hr=>hx i' () a trivial hi hr) (λa hr=>ag () a trivial hr)) (λi _=>nil i)
theorem cn(m:Nat)(S:List Nat)(s d:Nat)(y:Bool){x:Bool}(hx:e s=.bool x)(t':x=false->(∀e',e' d=.bool y->(ha:Agr S e e':=by repeat (first|exact xI|refine Bt rfl ?_|refine Bu rfl ?_))->TO P b n ops (l.drop m) k F e' ds X h L)->TO P b n ops l k F (upd e s (.bool false)) ds X h L)(hk:∀e'',TO P b n ops (l.drop m) k F (upd (mix S e'' e) d (.bool (x||y))) ds X h L)(hq:∃e2,runQ n m (.to ops l k (upd e s (.bool true)))=some (.to ops (l.drop m) k e2)/\e2 d=.bool true/\Agr S e e2:=by exact⟨_,rfl,rfl,by repeat (first|exact xI|refine Bt rfl ?_|refine Bu rfl ?_)⟩):TO P b n ops l k F e ds X h L:=by
 refine Lj m S d (.bool (x||y)) (λhj=>?_) hk
 refine nq s hx (λc=>?_) (λc=>t' c (λe' he ha=>hj e' (he.trans (by rw[c];rfl)) ha))
 obtain⟨e2,h1,h2,h3⟩:=hq
 exact qO m h1 (hj e2 (h2.trans (by rw[c];rfl)) h3)
theorem bD(m:Nat)(S:List Nat)(s d:Nat)(y:Bool){x:Bool}(hx:e s=.bool x)(t':x=true->(∀e',e' d=.bool y->(ha:Agr S e e':=by repeat (first|exact xI|refine Bt rfl ?_|refine Bu rfl ?_))->TO P b n ops (l.drop m) k F e' ds X h L)->TO P b n ops l k F (upd e s (.bool true)) ds X h L)(hk:∀e'',TO P b n ops (l.drop m) k F (upd (mix S e'' e) d (.bool (x&&y))) ds X h L)(hq:∃e2,runQ n m (.to ops l k (upd e s (.bool false)))=some (.to ops (l.drop m) k e2)/\e2 d=.bool false/\Agr S e e2:=by exact⟨_,rfl,rfl,by repeat (first|exact xI|refine Bt rfl ?_|refine Bu rfl ?_)⟩):TO P b n ops l k F e ds X h L:=by
 refine Lj m S d (.bool (x&&y)) (λhj=>?_) hk
 refine nq s hx (λc=>t' c (λe' he ha=>hj e' (he.trans (by rw[c];rfl)) ha)) (λc=>?_)
 obtain⟨e2,h1,h2,h3⟩:=hq
 exact qO m h1 (hj e2 (h2.trans (by rw[c];rfl)) h3)
end
def look3:List (Nat×Nat×Nat)->Nat->Nat->Option Nat
 |[],_,_=>none
 |(a,b,c)::l,s,i=>bif SP a s&&SP b i then some c else look3 l s i
def tabOk(P:Program)(tF:List (Nat×Nat×Nat))(tY tS:List Nat):Bool:=
 tF.all (λx=>fldOf P x.1 x.2.1==some x.2.2)&&tY.all (λt=>tySz P t==some (1,false))&&tS.all (λt=>match P.underlying t with|some (.slice _)=>true|_=>false)
def PU:List (Nat×Nat)->Prop
 |[]=>True
 |(a,b)::q=>a=b/\PU q
def runL(tF:List (Nat×Nat×Nat))(tY tS:List Nat)(n:Nat)(L:LH):Nat->List Nat->Qs->Option (Qs×List (Nat×Nat))
 |0,_,s=>some (s,[])
 |m+1,is,.tt k e=>match qstepT k e with
  |some s=>runL tF tY tS n L m is s
  |none=>none
 |m+1,is,.to ops [] k e=>runL tF tY tS n L m is (.tt k e)
 |m+1,is,.to ops (⟨some d,op,ty,pos,af,g⟩::l) k e=>match zR d n with
  |false=>none
  |true=>match guardB ops e ⟨some d,op,ty,pos,af,g⟩with
   |false=>runL tF tY tS n L m is (.to ops l k (upd e d undef))
   |true=>match op with
    |.fieldAddr s x i=>match e.ev x,look3 tF s i with
     |.pointer (some a),some off=>runL tF tY tS n L m is (.to ops l k (upd e d (.pointer (some (a.add off)))))
     |_,_=>none
    |.load t x=>match e.ev x,is with
     |.pointer (some ⟨bk,off,none⟩),i::is=>match nth L i with
      |some (bk',.cells ⟨cl⟩ _ _)=>match nth cl off,memN tY t with
       |some v,true=>match runL tF tY tS n L m is (.to ops l k (upd e d v))with
        |some (s,q)=>some (s,(bk,bk')::q)
        |none=>none
       |_,_=>none
      |_=>none
     |_,_=>none
    |.call ⟨.builtin .len,⟨[x]⟩,⟨[t]⟩⟩=>match e.ev x,memN tS t with
     |.slice _ m' _,true=>runL tF tY tS n L m is (.to ops l k (upd e d (.int .i64 (m':Int))))
     |_,_=>none
    |op=>match opQ e op with
     |some v=>runL tF tY tS n L m is (.to ops l k (upd e d v))
     |none=>none
 |_+1,_,.to _ _ _ _=>none
theorem EA:∀{l:List Nat}{a:Nat},memN l a=true->a∈l
 |[],_,h=>by cases h
 |b::l,a,h=>by
  unfold memN at h
  cases hb:SP a b with
  |true=>rw[vS hb];exact zB ..
  |false=>rw[hb]at h;exact vA _ (EA h)
theorem BS:∀{l:List (Nat×Nat×Nat)}{s i o:Nat},look3 l s i=some o->(s,i,o)∈l
 |[],_,_,_,h=>by cases h
 |(a,b,c)::l,s,i,o,h=>by
  unfold look3 at h
  cases hb:SP a s&&SP b i with
  |true=>
   rw[hb]at h;cases h
   simp only[jB]at hb
   rw[vS hb.1,vS hb.2];exact zB ..
  |false=>rw[hb]at h;exact vA _ (BS h)
section
variable {P:Program} {b:Frame} {n:Nat} {k:List Item} {F:List Frame->(Machine->Prop)->Prop} {e:Env} {ds:List Deferred} {X:Cx} {h:HF} {L:LH}
theorem rG{tF:List (Nat×Nat×Nat)}{tY tS:List Nat}(hT:tabOk P tF tY tS=true):∀(m:Nat)(is:List Nat)(a:Qs){s:Qs}{q:List (Nat×Nat)},runL tF tY tS n L m is a=some (s,q)->PU q->s.holds P b n F ds X h L->a.holds P b n F ds X h L
 |0,is,a,s,q,hr,hq,t=>by
  simp only[runL,zQ,Tu]at hr;rw[hr.1];exact t
 |m+1,is,.tt k e,s,q,hr,hq,t=>by
  unfold runL at hr
  split at hr
  .next hs=>exact Gr hs (rG hT m _ _ hr hq t)
  .cases hr
 |m+1,is,.to ops [] k e,s,q,hr,hq,t=>by
  unfold runL at hr
  exact aH (rG hT m _ _ hr hq t)
 |m+1,is,.to ops (⟨none,op,ty,pos,af,g⟩::l) k e,s,q,hr,hq,t=>by
  unfold runL at hr
  cases hr
 |m+1,is,.to ops (⟨some d,op,ty,pos,af,g⟩::l) k e,s,q,hr,hq,t=>by
  have hT':=hT
  simp only[tabOk,jB,Si]at hT'
  obtain⟨⟨h1,h2⟩,h3⟩:=hT'
  unfold runL at hr
  split at hr
  .cases hr
  .next hd=>
   split at hr
   .next hg=>exact HE (rG hT m _ _ hr hq t) hd hg
   .next hg=>
    split at hr
    .split at hr
     .next hx hl=>exact j7 (by simpa using h1 _ (BS hl)) hx (rG hT m _ _ hr hq t) hd hg
     .cases hr
    .split at hr
     .next hx=>
      split at hr
      .next hn=>
       split at hr
       .next hv hm=>
        split at hr
        .next hr2=>
         cases hr
         obtain⟨e1,hq⟩:=hq
         subst e1
         exact n0 _ (by simpa using h2 _ (EA hm)) hx hn hv (rG hT m _ _ hr2 hq t) hd hg
        .cases hr
       .cases hr
      .cases hr
     .cases hr
    .split at hr
     .next hx hm=>
      have:=h3 _ (EA hm)
      split at this
      .next hu=>exact Lv hu hx (rG hT m _ _ hr hq t) hd hg
      .cases this
     .cases hr
    .split at hr
     .next v hv=>
      obtain⟨g1,g2⟩:=HD (P:=P) hv
      exact tE v g1 (λw _=>g2 _ _ _ _ _ w) hd hg (rG hT m _ _ hr hq t)
     .cases hr
end
theorem sT{f:FuncId}{c:Code}{n:Nat}{h:HF}{A:LH}{R:Ending->HF->LH->Prop}(hf:P.funcs[f]? = some fn)(hb:fn.body=some c)(hn:fn.ntmps=n)(hle:Nat.ble args.length n=true)(t:∀X:Cx,X.M=A.map (·.1)->X.h0=h->P.funcs[f]? = some fn->TT P (bodyFrame f) n [.code c] (mm P X R) (envArgs args) [] X h A):nL P f args.toArray h A R:=
 cD hf hb hn hle λX a b=>t X a b hf
section
variable {P:Program} {f:FuncId} {n:Nat} {k:List Item} {e:Env} {X:Cx} {h:HF} {L:LH} {fn:Func} {rs:List ResultVar} {φ : Value->HF->Prop}
theorem nretP{hh:HF}(vs:List Value)(hvv:retVal vs=v)(hf:P.funcs[f]? = some fn:=by assumption)(hr:fn.results=rs.toArray:=by rfl)(hX:X.h0=hh:=by assumption)(hv:tM P e L rs vs:=by exact rds):
  TT P (bodyFrame f) n (.code .ret::k) (mm P X (λx h' B=>x=.returned v/\h'=hh/\B=[])) e [] X h L:=s8 vs hf hr hX hv hvv
theorem nretH(vs:List Value)(hφ : φ (retVal vs) h)(hf:P.funcs[f]? = some fn:=by assumption)(hr:fn.results=rs.toArray:=by rfl)(hv:tM P e L rs vs:=by exact rds):
  TT P (bodyFrame f) n (.code .ret::k) (mm P X (λx h' B=>B=[]/\∃v,x=.returned v/\φ v h')) e [] X h L:=il vs hf hr hv hφ
end
section grows
variable {P:Program} {b:Frame} {n:Nat} {ops:Array Oper} {F:List Frame->(Machine->Prop)->Prop} {e:Env} {ds:List Deferred} {X:Cx} {h:HF} {L:LH} {K:Env->HF->LH->Prop} {d:Option Nat} {ty:TypeId} {pos:String} {af:Array Edge} {g:Option (Nat×Bool)}
variable {α : Type} {R:Rp α} {E:TypeId} {xs:List α} {base:Option Addr} {cap bk:Nat} {G:LH}
theorem BG{α:Type}{R:Rp α}{C:α->ρ->List Value}{ok:HF->α->ρ->Prop}{t E:TypeId}{x ix:Operand}{base:Option Addr}{m cap:Nat}{xs:List α}{y:α}{z:Int}(hT:P.underlying t=some (.slice E))(hS:tySz P E=some (R.sz,a))(hR:SlB R h base xs)(hz:0<=z/\z<(xs.length:Int))(hj:xs[z.toNat]? = some y)(hx:e.ev x=.slice base m cap)(hm:m=xs.length)(hix:e.ev ix=.int .i64 z)(hC:∀h cs y,R.rep h cs y->∃r,cs=C y r/\ok h y r)(t':∀q r,At h q (C y r)->ok h y r->K (pute e d (.pointer (some q))) h L)(hg:guardB ops e ⟨d,.indexAddr t x ix,ty,pos,af,g⟩=true:=by rfl):Stp P b n ops F ds X ⟨d,.indexAddr t x ix,ty,pos,af,g⟩ e h L K:=
 Lo hT hS hR hz hj hx hm hix (λq cs A ln rr=>by obtain⟨r,e1,o1⟩:=hC _ _ _ rr;subst e1;exact t' q r A o1) hg
end grows
end
variable {K:LH}{R:Rp α}{af:Array Edge}{dn dn':List Nat}{e:Env}{g:Option (Nat×Bool)}{m':Nat}{pos:String}{ty:TypeId}
section
theorem U.{u}{α : Sort u}{a:α}:a=a:=rfl
theorem kr(h:p:=by kernel_rfl):p:=h
theorem ob(h:p:=by first|assumption|omega|(simp only[] ;assumption)|(simp only[decide_eq_true_eq,decide_eq_false_iff_not,Bool.and_eq_true,Bool.or_eq_true,Bool.not_eq_true',Bool.not_eq_false',Bool.and_eq_false_iff,Bool.or_eq_false_iff,beq_iff_eq,beq_eq_false_iff_ne,bne_iff_ne,bne_eq_false_iff_eq,List.length_append,List.length_cons,List.length_nil,List.length_drop]at *;omega)):p:=h
theorem lo(h:p:=by simp only[List.length_append,List.length_cons,List.length_nil,List.length_take,List.length_drop];omega):p:=h
theorem ap(h:p:=by first|rfl|(simp only[List.append_assoc,List.cons_append,List.nil_append,List.append_nil];done)|(simp only[List.append_assoc,List.cons_append,List.nil_append,List.append_nil];rfl)|(rw[List.append_nil]<;>rfl)|(simp only[dropNth,List.append_assoc,List.cons_append,List.nil_append,List.append_nil];done)):p:=h
theorem lc(h:p:=by first|omega|(simp only[List.length_nil,List.length_cons]at *;omega)):p:=h
theorem rd(h:p:=by repeat (first|exact trivial|refine⟨rfl,?_⟩)):p:=h
theorem jn{h:HF}{L:LH}(hs:K.Sublist L:=by repeat (first|exact List.Sublist.refl _|exact List.nil_sublist _|exact List.sublist_append_left _ _|refine List.Sublist.cons_cons _ ?_|refine List.Sublist.cons _ ?_)):Jst h K h L:=AO hs
theorem js{L:LH}(hs:K.Sublist L:=by repeat (first|exact List.Sublist.refl _|exact List.nil_sublist _|exact List.sublist_append_left _ _|refine List.Sublist.cons_cons _ ?_|refine List.Sublist.cons _ ?_)):K.Sublist L:=hs
theorem mj{h1 h':HF}{L' G:LH}(hj:Jst h1 K h' L')(h:∀p∈G,p∈K:=by intro p hp;simp only[List.mem_append,List.mem_cons,hp,true_or,or_true]):∀p∈G,p∈L':=λp hp=>hj.2 p (h p hp)
theorem ei{enc:α->List Value}(h:∀h cs x,R.rep h cs x->cs=enc x:=by exact λ_ _ _ e=>e):∀h cs x,R.rep h cs x->cs=enc x:=h
theorem lf{h:HF}:h.le h:=HF.le_refl h
theorem xf(h:p:=by first|exact λ_ _ _ h=>h.elim|exact λ_ _ _ _ h=>h.elim):p:=h
theorem cb{b:Bool}(h:a=b):Sl a=Sl b:=congrArg Sl h
theorem cs{b:Bool}(h:a=b):Sl b=Sl a:=congrArg Sl h.symm
theorem ci{a b:Int}(h:a=b):xB .i64 b=xB .i64 a:=congrArg (xB .i64) h.symm
abbrev O(l:List Value)(t:Nat):Obj:=qJ l.toArray t (0,0)
abbrev Y(x:Int):Value:=.int .u8 x
abbrev Q(b:Nat):Value:=.pointer (some ⟨b,0,none⟩)
abbrev I(x:Int):Value:=.int .i64 x
theorem HF.le.t{a b c:HF}(x:a.le b)(y:b.le c):a.le c:=HF.le_trans x y
section
variable {P:Program} {b:Frame} {n:Nat} {k:List Item} {F:List Frame->(Machine->Prop)->Prop} {ds:List Deferred} {X:Cx}
theorem tf(i:Nat){h1:HF}{m d:Nat}{oi:Oper}{h:HF}{L:LH}(hi:nth l i=some oi)(hd:oi.dst=some d)(hr:∀h' L',Jst h1 K h' L'->∀w,St X h' L' w->(execOp e.ev oi).run P w=.ok (.value v) w)(t:TA P b n l.toArray k F ds X (Jst h1 K) m (i::dn) (upd e d v) h L)(hsep:sepAll l.toArray=true:=by assumption)(hJ:Jst h1 K h L:=by exact jn)(hn:(nexts l.toArray dn).contains i=true:=by kernel_rfl)(hg:guardB l.toArray e oi=true:=by rfl):TA P b n l.toArray k F ds X (Jst h1 K) (m+1) dn e h L:=
 jk i hsep hJ hi hd hn hg hr t
theorem tm(i:Nat){h1:HF}{m d:Nat}{x:Operand}{h:HF}{L:LH}(hi:nth l i=some ⟨some d,.move x,ty,pos,af,g⟩)(t:TA P b n l.toArray k F ds X (Jst h1 K) m (i::dn) (upd e d (e.ev x)) h L)(hsep:sepAll l.toArray=true:=by assumption)(hJ:Jst h1 K h L:=by exact jn)(hn:(nexts l.toArray dn).contains i=true:=by kernel_rfl)(hg:guardB l.toArray e ⟨some d,.move x,ty,pos,af,g⟩=true:=by rfl):TA P b n l.toArray k F ds X (Jst h1 K) (m+1) dn e h L:=
 jk i hsep hJ hi rfl hn hg (λ_ _ _=>mV) t
theorem tk(i:Nat){h1:HF}{m d:Nat}{oi:Oper}{h:HF}{L:LH}(hi:nth l i=some oi)(hd:oi.dst=some d)(t:TA P b n l.toArray k F ds X (Jst h1 K) m (i::dn) (upd e d undef) h L)(hsep:sepAll l.toArray=true:=by assumption)(hJ:Jst h1 K h L:=by exact jn)(hn:(nexts l.toArray dn).contains i=true:=by kernel_rfl)(hg:guardB l.toArray e oi=false:=by rfl):TA P b n l.toArray k F ds X (Jst h1 K) (m+1) dn e h L:=
 mP i hsep hJ hi hd hn hg t
theorem tn(i:Nat){h1:HF}{m:Nat}{oi:Oper}{h:HF}{L:LH}(hi:nth l i=some oi)(t:Stp P b n l.toArray F ds X oi e h L λe' h' L'=>Jst h1 K h' L'/\TA P b n l.toArray k F ds X (Jst h1 K) m (i::dn) e' h' L')(hn:nexts l.toArray dn=[i]:=by kernel_rfl):TA P b n l.toArray k F ds X (Jst h1 K) (m+1) dn e h L:=
 Qi i hn hi t
theorem sr{y:Code}{h:HF}{L:LH}(t:TO P b n l.toArray l (.code y::k) F e ds X h L):TT P b n (.code (.seq (.region id l.toArray false) y)::k) F e ds X h L:=dJ (bu t)
theorem an{d:Nat}{x:Operand}{h:HF}{L:LH}(t:TT P b n k F (upd e d (e.ev x)) ds X h L)(hd:Nat.blt d n=true:=by rfl)(hg:guardB ops e ⟨some d,.assign x,ty,pos,af,g⟩=true:=by rfl):TO P b n ops [⟨some d,.assign x,ty,pos,af,g⟩] k F e ds X h L:=fU (aH t) hd hg
theorem kq{d d':Nat}{op':Op}{ty':TypeId}{pos':String}{af':Array Edge}{g':Option (Nat×Bool)}{h:HF}{L:LH}(t:TO P b n ops l k F (upd (upd e d undef) d' undef) ds X h L)(hd:Nat.blt d n=true:=by rfl)(hg:guardB ops e ⟨some d,op,ty,pos,af,g⟩=false:=by rfl)(hd':Nat.blt d' n=true:=by rfl)(hg':guardB ops (upd e d undef) ⟨some d',op',ty',pos',af',g'⟩=false:=by rfl):TO P b n ops (⟨some d,op,ty,pos,af,g⟩::⟨some d',op',ty',pos',af',g'⟩::l) k F e ds X h L:=HE (HE t hd' hg') hd hg
theorem tq{h:HF}{L:LH}(m:Nat)(sl:List (Nat×Value))(t':(∀e',i9 e' sl->TO P b n ops (l.drop m) k F e' ds X h L)->TO P b n ops l k F e ds X h L)(hk:∀e',TO P b n ops (l.drop m) k F (upds e' sl) ds X h L):TO P b n ops l k F e ds X h L:=Qh m sl hk t'
def runA(l:List Oper):List Nat->Nat->List Nat->Env->Option (Nat×List Nat×Env)
 |[],m,dn,e=>some (m,dn,e)
 |i::is,m,dn,e=>match m with
  |0=>none
  |m+1=>match nth l i with
   |some ⟨some d,op,ty,pos,af,g⟩=>match guardB l.toArray e ⟨some d,op,ty,pos,af,g⟩with
    |false=>runA l is m (i::dn) (upd e d undef)
    |true=>match opQ e op with
     |some v=>runA l is m (i::dn) (upd e d v)
     |none=>none
   |_=>none
def allNext(l:List Oper):List Nat->List Nat->Bool
 |[],_=>true
 |i::is,dn=>(nexts l.toArray dn).contains i&&allNext l is (i::dn)
theorem Dw{l:List Oper}{h1:HF}{K:LH}{h:HF}{L:LH}(hsep:sepAll l.toArray=true)(hJ:Jst h1 K h L):∀(is:List Nat)(m:Nat)(dn:List Nat)(e:Env){m':Nat}{dn':List Nat}{e':Env},runA l is m dn e=some (m',dn',e')->allNext l is dn=true->TA P b n l.toArray k F ds X (Jst h1 K) m' dn' e' h L->TA P b n l.toArray k F ds X (Jst h1 K) m dn e h L
 |[],m,dn,e,_,_,_,hr,_,t=>by cases hr;exact t
 |i::is,0,dn,e,_,_,_,hr,_,_=>by simp[runA]at hr
 |i::is,m+1,dn,e,_,_,_,hr,hn,t=>by
  simp only[allNext,jB]at hn
  simp only[runA]at hr
  split at hr
  .next hi=>
   split at hr
   .next hg=>exact mP i hsep hJ hi rfl hn.1 hg (Dw hsep hJ is m _ _ hr hn.2 t)
   .next hg=>
    split at hr
    .next v hv=>exact jk i hsep hJ hi rfl hn.1 hg (λ_ _ _ w _=>(HD hv).2 _ _ _ _ _ w) (Dw hsep hJ is m _ _ hr hn.2 t)
    .cases hr
  .cases hr
theorem qA(is:List Nat){h1:HF}{m:Nat}{h:HF}{L:LH}(hr:runA l is m dn e=some (m',dn',e'))(t:TA P b n l.toArray k F ds X (Jst h1 K) m' dn' e' h L)(hsep:sepAll l.toArray=true:=by assumption)(hJ:Jst h1 K h L:=by exact jn)(hn:allNext l is dn=true:=by kernel_rfl):TA P b n l.toArray k F ds X (Jst h1 K) m dn e h L:=Dw hsep hJ is m dn e hr hn t
theorem qR(a c:Nat){h1:HF}{m:Nat}{h:HF}{L:LH}(hr:runA l (List.range' a c) m dn e=some (m',dn',e'))(t:TA P b n l.toArray k F ds X (Jst h1 K) m' dn' e' h L)(hsep:sepAll l.toArray=true:=by assumption)(hJ:Jst h1 K h L:=by exact jn)(hn:allNext l (List.range' a c) dn=true:=by kernel_rfl):TA P b n l.toArray k F ds X (Jst h1 K) m dn e h L:=Dw hsep hJ _ m dn e hr hn t
def opB(tF:List (Nat×Nat×Nat))(e:Env):Op->Option Value
 |.fieldAddr s x i=>match e.ev x,look3 tF s i with
  |.pointer (some a),some off=>some (.pointer (some (a.add off)))
  |_,_=>none
 |op=>opQ e op
theorem Qy{tF:List (Nat×Nat×Nat)}(hT:(tF.all λx=>fldOf P x.1 x.2.1==some x.2.2)=true)(hv:opB tF e op=some v)(h:HF)(L:LH)(d:Option Nat)(ty:TypeId)(pos:String)(af:Array Edge)(g:Option (Nat×Bool)):∀w,St X h L w->(execOp e.ev ⟨d,op,ty,pos,af,g⟩).run P w=.ok (.value v) w:=by
 unfold opB at hv
 split at hv
 .split at hv
  .next hx hl=>
   cases hv
   exact tA (by simpa using(Si.1 hT) _ (BS hl)) hx
  .cases hv
 .exact λw _=>(HD hv).2 _ _ _ _ _ w
def runB(tF:List (Nat×Nat×Nat))(l:List Oper):List Nat->Nat->List Nat->Env->Option (Nat×List Nat×Env)
 |[],m,dn,e=>some (m,dn,e)
 |i::is,m,dn,e=>match m with
  |0=>none
  |m+1=>match nth l i with
   |some ⟨some d,op,ty,pos,af,g⟩=>match guardB l.toArray e ⟨some d,op,ty,pos,af,g⟩with
    |false=>runB tF l is m (i::dn) (upd e d undef)
    |true=>match opB tF e op with
     |some v=>runB tF l is m (i::dn) (upd e d v)
     |none=>none
   |_=>none
theorem Dv{tF:List (Nat×Nat×Nat)}(hT:(tF.all λx=>fldOf P x.1 x.2.1==some x.2.2)=true){l:List Oper}{h1:HF}{K:LH}{h:HF}{L:LH}(hsep:sepAll l.toArray=true)(hJ:Jst h1 K h L):∀(is:List Nat)(m:Nat)(dn:List Nat)(e:Env){m':Nat}{dn':List Nat}{e':Env},runB tF l is m dn e=some (m',dn',e')->allNext l is dn=true->TA P b n l.toArray k F ds X (Jst h1 K) m' dn' e' h L->TA P b n l.toArray k F ds X (Jst h1 K) m dn e h L
 |[],m,dn,e,_,_,_,hr,_,t=>by cases hr;exact t
 |i::is,0,dn,e,_,_,_,hr,_,_=>by simp[runB]at hr
 |i::is,m+1,dn,e,_,_,_,hr,hn,t=>by
  simp only[allNext,jB]at hn
  simp only[runB]at hr
  split at hr
  .next hi=>
   split at hr
   .next hg=>exact mP i hsep hJ hi rfl hn.1 hg (Dv hT hsep hJ is m _ _ hr hn.2 t)
   .next hg=>
    split at hr
    .next v hv=>exact jk i hsep hJ hi rfl hn.1 hg (λh' L' _ w hw=>Qy hT hv h' L' _ _ _ _ _ w hw) (Dv hT hsep hJ is m _ _ hr hn.2 t)
    .cases hr
  .cases hr
theorem tu{h1 h2:HF}(hle:h1.le h2){m:Nat}{h:HF}{L:LH}(t:TA P b n ops k F ds X (Jst h2 K) m dn e h L):TA P b n ops k F ds X (Jst h1 K) m dn e h L:=nr hle (λ_ hp=>hp) t
end
theorem jl{h h2:HF}{L:LH}(hle:h.le h2)(hs:K.Sublist L:=by repeat (first|exact List.Sublist.refl _|exact List.nil_sublist _|exact List.sublist_append_left _ _|refine List.Sublist.cons_cons _ ?_|refine List.Sublist.cons _ ?_)):Jst h K h2 L:=⟨hle,λ_ hp=>hs.subset hp⟩
theorem sw(h:p:=by first|exact λw hw=>hw|(intro w hw;first|simpa only[List.append_assoc,List.cons_append,List.nil_append,List.append_nil]using hw|(simp only[List.append_assoc,List.cons_append,List.nil_append,List.append_nil]at hw ⊢;exact hw))):p:=h
section
variable {P:Program} {b:Frame} {n:Nat} {k:List Item} {F:List Frame->(Machine->Prop)->Prop} {ds:List Deferred} {X:Cx} {ops:Array Oper} {l:List Oper} {d:Nat} {op:BinOp} {t u ty:TypeId} {x y:Operand} {pos:String} {af:Array Edge} {g:Option (Nat×Bool)} {e:Env} {h:HF} {L:LH}
theorem oi(i:Nat)(hv:binV op (e.ev x) (e.ev y)=some (.int .i64 (IntKind.i64.wrap ((i:Int)+1))))(t':TO P b n ops l k F (upd e d (.int .i64 (((i+1):Nat):Int))) ds X h L)(hb:i<9223372036854775807:=by exact ob)(hd:Nat.blt d n=true:=by rfl)(hg:guardB ops e ⟨some d,.binOp op t x y u,ty,pos,af,g⟩=true:=by rfl):
  TO P b n ops (⟨some d,.binOp op t x y u,ty,pos,af,g⟩::l) k F e ds X h L:=iq hv (Ab hb) t' hd hg
theorem tO(ha:a=true)(hv:binV op (e.ev x) (e.ev y)=some (.bool a))(t':TO P b n ops l k F (upd e d (.bool true)) ds X h L)(hd:Nat.blt d n=true:=by rfl)(hg:guardB ops e ⟨some d,.binOp op t x y u,ty,pos,af,g⟩=true:=by rfl):
  TO P b n ops (⟨some d,.binOp op t x y u,ty,pos,af,g⟩::l) k F e ds X h L:=iq hv (cb ha) t' hd hg
theorem fO(ha:a=false)(hv:binV op (e.ev x) (e.ev y)=some (.bool a))(t':TO P b n ops l k F (upd e d (.bool false)) ds X h L)(hd:Nat.blt d n=true:=by rfl)(hg:guardB ops e ⟨some d,.binOp op t x y u,ty,pos,af,g⟩=true:=by rfl):
  TO P b n ops (⟨some d,.binOp op t x y u,ty,pos,af,g⟩::l) k F e ds X h L:=iq hv (cb ha) t' hd hg
end
section
variable {P:Program} {d:Option Nat} {ty t:TypeId} {pos:String} {af:Array Edge} {g:Option (Nat×Bool)} {x:Operand} {m bk off T:Nat} {fz:Nat×Nat} {cl cs:List Value} {v:Value} {e:Env} {X:Cx} {h1:HF} {K:LH} {q:Addr}
theorem rj(i:Nat)(hT:tySz P t=some (m,false))(hx:e.ev x=.pointer (some ⟨bk,off,none⟩))(hi:nth K i=some (bk,qJ cl.toArray T fz))(hv:nth cl off=some v):∀h' L',Jst h1 K h' L'->∀w,St X h' L' w->(execOp e.ev ⟨d,.load t x,ty,pos,af,g⟩).run P w=.ok (.value v) w:=λ_ _ hj=>wO hT hx (hj.nth hi) hv
theorem rh(hT:tySz P t=some (m,false))(ha:At h1 q (v::cs))(hx:e.ev x=.pointer (some q)):∀h' L',Jst h1 K h' L'->∀w,St X h' L' w->(execOp e.ev ⟨d,.load t x,ty,pos,af,g⟩).run P w=.ok (.value v) w:=λ_ _ hj=>Qq hT (ha.mono hj.1) hx
theorem rH(j:Nat)(hT:tySz P t=some (m,false))(ha:At h1 q cs)(hx:e.ev x=.pointer (some (q.add j)))(hv:nth cs j=some v):∀h' L',Jst h1 K h' L'->∀w,St X h' L' w->(execOp e.ev ⟨d,.load t x,ty,pos,af,g⟩).run P w=.ok (.value v) w:=λ_ _ hj=>PY j hT (ha.mono hj.1) hx hv
end
section
variable {P:Program} {b:Frame} {n:Nat} {ops:Array Oper} {F:List Frame->(Machine->Prop)->Prop} {ds:List Deferred} {X:Cx} {e:Env} {h:HF} {L:LH} {d:Option Nat} {ty:TypeId} {pos:String} {af:Array Edge} {g:Option (Nat×Bool)} {K:Env->HF->LH->Prop} {α : Type} {R:Rp α} {t E:TypeId} {x ix:Operand} {a:Bool} {base:Option Addr} {m cap:Nat} {xs:List α} {y:α} {i:Nat}
theorem iF(enc:α->List Value)(hT:P.underlying t=some (.slice E))(hS:tySz P E=some (R.sz,a))(hR:SlB R h base xs)(hj:xs[i]? = some y)(hx:e.ev x=.slice base m cap)(hm:m=xs.length)(hix:e.ev ix=.int .i64 (i:Int))(t':∀q,At h q (enc y)->K (pute e d (.pointer (some q))) h L)(hR':∀h cs x,R.rep h cs x->cs=enc x:=by exact λ_ _ _ e=>e)(hg:guardB ops e ⟨d,.indexAddr t x ix,ty,pos,af,g⟩=true:=by rfl):Stp P b n ops F ds X ⟨d,.indexAddr t x ix,ty,pos,af,g⟩ e h L K:=oY hR' hT hS hR (nthZ hj) (fV hj) hx hm hix t' hg
theorem iG(hT:P.underlying t=some (.slice E))(hS:tySz P E=some (R.sz,a))(hR:SlB R h base xs)(hj:xs[i]? = some y)(hx:e.ev x=.slice base m cap)(hm:m=xs.length)(hix:e.ev ix=.int .i64 (i:Int))(t':∀q cs,At h q cs->cs.length=R.sz->R.rep h cs y->K (pute e d (.pointer (some q))) h L)(hg:guardB ops e ⟨d,.indexAddr t x ix,ty,pos,af,g⟩=true:=by rfl):Stp P b n ops F ds X ⟨d,.indexAddr t x ix,ty,pos,af,g⟩ e h L K:=Lo hT hS hR (nthZ hj) (fV hj) hx hm hix t' hg
theorem iR{C:α->ρ->List Value}{ok:HF->α->ρ->Prop}(hT:P.underlying t=some (.slice E))(hS:tySz P E=some (R.sz,a))(hR:SlB R h base xs)(hj:xs[i]? = some y)(hx:e.ev x=.slice base m cap)(hm:m=xs.length)(hix:e.ev ix=.int .i64 (i:Int))(hC:∀h cs y,R.rep h cs y->∃r,cs=C y r/\ok h y r)(t':∀q r,At h q (C y r)->ok h y r->K (pute e d (.pointer (some q))) h L)(hg:guardB ops e ⟨d,.indexAddr t x ix,ty,pos,af,g⟩=true:=by rfl):Stp P b n ops F ds X ⟨d,.indexAddr t x ix,ty,pos,af,g⟩ e h L K:=BG hT hS hR (nthZ hj) (fV hj) hx hm hix hC t' hg
end
theorem cE(y:α){h:HF}{cs:List Value}(hl:cs.length=R.sz)(hr:R.rep h cs y):bP R h cs [y]:=⟨cs,[],by simp,hl,hr,rfl⟩
end
section
open Go.Proofs
abbrev eG := @Tryz.underlying31
abbrev kz := @Tryz.underlying3
abbrev lP := @Tryz.underlying86
abbrev rf := @Tryz.underlying135
abbrev rC := @Tryz.underlying27
abbrev tQ := @Tryz.underlying92
abbrev vY := @Tryz.call60
abbrev wC := @Tryz.underlying26
abbrev yZ := @Tryz.call281
abbrev Ai := @Tryz.underlying28
abbrev ul := @Tryz.underlying24
abbrev vt := @Tryz.underlying89
abbrev Ao := @Tryz.underlying9
abbrev vr := @Tryz.call18
abbrev yF := @Tryz.underlying23
abbrev yE := @Tryz.call258
abbrev yD := @Tryz.underlying129
abbrev An := @Tryz.underlying25
abbrev Am := @Tryz.call101
abbrev Al := @Tryz.underlying165
abbrev Ak := @Tryz.underlying40
abbrev Aj := @Tryz.func112
abbrev Cn := @Tryz.underlying22
abbrev Cm := @Tryz.call170
abbrev Cl := @Tryz.call173
abbrev tz_25 := @Tryz.underlying4
abbrev DI := @Tryz.call167
abbrev DH := @Tryz.func21
abbrev DG := @Tryz.func271
abbrev Le := @Tryz.func3
abbrev Gg := @Tryz.underlying51
abbrev Ge := @Tryz.call166
abbrev Gd := @Tryz.func263
abbrev Gc := @Tryz.func224
abbrev Gb := @Tryz.call178
abbrev F9 := @Tryz.underlying145
abbrev F8 := @Tryz.call11
abbrev F7 := @Tryz.underlying324
abbrev Ld := @Tryz.underlying30
abbrev Ir := @Tryz.underlying285
abbrev Iq := @Tryz.call67
abbrev Ip := @Tryz.call225
abbrev Io := @Tryz.func79
abbrev In := @Tryz.underlying193
abbrev Im := @Tryz.func202
abbrev Il := @Tryz.func70
abbrev Ik := @Tryz.func10
abbrev Ij := @Tryz.call150
abbrev Ii := @Tryz.call217
abbrev Ih := @Tryz.call163
abbrev Ig := @Tryz.underlying169
abbrev If := @Tryz.call268
abbrev Ie := @Tryz.underlying77
abbrev Lc := @Tryz.underlying49
abbrev Lb := @Tryz.underlying94
abbrev La := @Tryz.underlying181
abbrev K9 := @Tryz.underlying258
abbrev K8 := @Tryz.underlying333
abbrev K7 := @Tryz.call226
abbrev K6 := @Tryz.func222
abbrev K5 := @Tryz.func223
abbrev K0 := @Tryz.func221
abbrev KZ := @Tryz.underlying250
abbrev RD := @Tryz.func213
abbrev KY := @Tryz.call38
abbrev KX := @Tryz.func81
abbrev KW := @Tryz.underlying204
abbrev KV := @Tryz.underlying147
abbrev KU := @Tryz.func7
abbrev KT := @Tryz.func36
abbrev KS := @Tryz.call7
abbrev KR := @Tryz.call10
abbrev KQ := @Tryz.call156
abbrev KP := @Tryz.func158
abbrev KO := @Tryz.call12
abbrev KN := @Tryz.func189
abbrev Nj := @Tryz.underlying54
abbrev RC := @Tryz.underlying5
abbrev Ni := @Tryz.underlying328
abbrev Nh := @Tryz.call168
abbrev Ng := @Tryz.call171
abbrev Nf := @Tryz.call172
abbrev Nd := @Tryz.call228
abbrev Nc := @Tryz.underlying20
abbrev Nb := @Tryz.func257
abbrev Na := @Tryz.func175
abbrev M9 := @Tryz.call56
abbrev M8 := @Tryz.call63
abbrev M7 := @Tryz.func127
abbrev M6 := @Tryz.func232
abbrev M5 := @Tryz.underlying239
abbrev M4 := @Tryz.func275
abbrev tz_92 := @Tryz.underlying0
abbrev PW := @Tryz.underlying296
abbrev M3 := @Tryz.func184
abbrev M2 := @Tryz.underlying141
abbrev M1 := @Tryz.func276
abbrev M0 := @Tryz.func204
abbrev MZ := @Tryz.call135
abbrev MY := @Tryz.func240
abbrev J9 := @Tryz.call95
abbrev J8 := @Tryz.underlying37
abbrev J7 := @Tryz.func231
abbrev J6 := @Tryz.func183
abbrev Qf := @Tryz.underlying32
abbrev J5 := @Tryz.func283
abbrev J4 := @Tryz.func234
abbrev J3 := @Tryz.func17
abbrev J1 := @Tryz.underlying74
end
variable {E T:TypeId}{H:Type}{fuel:Nat}{ps:List MemPlace}{w:World}
section
open Go.Proofs Go.Proofs.Tryz
set_option maxHeartbeats 2000000
def hOf(w:World):HF:=λb=>w.heap[b]?
theorem pre_hOf(w:World):Pre (hOf w) [] w:=⟨λ_ _ h=>h,λ_ hp=>(jA hp).elim,List.nodup_nil,λ_ hp=>(jA hp).elim⟩
theorem LV{a:Addr}(h:w.cell? a=some v):a.spot=none/\∃c T fz,w.heap[a.block]? = some (.cells c T fz)/\c[a.off]? = some v:=by
 unfold World.cell? at h
 split at h
 .next c T fz e=>
  split at h
  .cases h
  .next hs=>exact⟨by simpa using hs,c,T,fz,e,h⟩
 .cases h
theorem I6{α β : Type}{f:α->Option β}:∀{l:List α}{r:List β},l.mapM f=some r->l.length=r.length/\∀(j:Nat)(x:α),l[j]? = some x->f x=r[j]?
 |[],r,h=>by simp at h;subst h;exact⟨rfl,λj x hj=>by simp at hj⟩
 |a::l,r,h=>by
  rw[List.mapM_cons]at h
  simp only[Option.bind_eq_bind,Option.bind_eq_some_iff,Option.pure_def,zQ]at h
  obtain⟨b,hb,r',hr,rfl⟩:=h
  obtain⟨h1,h2⟩:=I6 hr
  refine⟨by simp[h1],λj x hj=>?_⟩
  cases j with
  |zero=>simp at hj;subst hj;simpa using hb
  |succ j=>simpa using h2 j x (by simpa using hj)
theorem OP{base n:Nat}{a:Addr}{cs:List Value}(hn:0<n)(h:w.cells? base a n=some cs):At (hOf w) a cs/\cs.length=n:=by
 unfold World.cells? at h
 split at h
 .obtain⟨h1,h2⟩:=I6 h
  rw[List.length_range]at h1
  have hc:∀j v,cs[j]? = some v->w.cell? (a.add j)=some v:=λj v hv=>by
   have hj:=(List.getElem?_eq_some_iff.1 hv).1
   rw[h2 j j (List.getElem?_range (by omega))];exact hv
  obtain⟨v,hv⟩:∃v,cs[0]? = some v:=⟨cs[0],vF (by omega)⟩
  obtain⟨s1,c,T,fz,s2,s3⟩:=LV (hc 0 v hv)
  have hsp:a.spot=none:=by simpa[zT]using s1
  have hbl:∀j,(a.add j).block=a.block/\(a.add j).off=a.off+j:=λj=>by
   unfold zT
   split
   .next e=>subst e;exact⟨rfl,rfl⟩
   .exact⟨rfl,rfl⟩
  refine⟨⟨c,T,fz,?_,hsp,λj u hu=>?_⟩,h1.symm⟩
  .rw[(hbl 0).1]at s2;exact s2
  .obtain⟨_,c',T',fz',t2,t3⟩:=LV (hc j u hu)
   rw[(hbl j).1]at t2
   rw[(hbl 0).1,t2]at s2
   cases s2
   rw[(hbl j).2]at t3;exact t3
 .cases h
def szL{α : Type}(f:α->Nat):List α->Nat
 |[]=>0
 |x::xs=>f x+szL f xs
theorem DQ{α : Type}(f:α->Nat):∀(l r:List α),szL f (l++r)=szL f l+szL f r
 |[],r=>by simp[szL]
 |x::l,r=>by simp[szL,DQ f l r,Nat.add_assoc]
theorem szL_len{α : Type}{f:α->Nat}(hf:∀x,1<=f x):∀(l:List α),l.length<=szL f l
 |[]=>xG _
 |x::l=>by have:=szL_len hf l;have:=hf x;simp[szL];omega
theorem Hi{α : Type}{f:α->Nat}{x:α}:∀{l:List α},x∈l->f x<=szL f l
 |y::l,h=>by
  rcases qC.1 h with rfl|h
  .simp[szL]
  .have:=Hi (f:=f) h;simp[szL];omega
theorem Ll:∀(l:List Expr),szL T2 l=S3 l
 |[]=>rfl
 |y::l=>by simp[szL,S3,Ll l]
open YtgddeppkkjefjaaGreatDoor.Rows in
theorem bulk_one(d:DataW H):1<=uptoBulk d:=by
 cases d with
 |lit l=>cases l<;>simp[uptoBulk]
 |nil=>simp[uptoBulk]
 |ptr d=>simp[uptoBulk]
 |slice elems spare=>simp[uptoBulk]
 |agg parts=>simp[uptoBulk]
 |iface t d=>simp[uptoBulk]
 |map entries=>simp[uptoBulk]
 |held h=>simp[uptoBulk]
open YtgddeppkkjefjaaGreatDoor.Rows in
theorem JN(l r:List (DataW H)):uptoBulkAll (l++r)=uptoBulkAll l+uptoBulkAll r:=by
 induction l with
 |nil=>simp[uptoBulkAll]
 |cons x l ih=>simp only[jM,uptoBulkAll,ih];omega
section opn
open YtgddeppkkjefjaaGreatDoor.Rows
variable {H:Type} {enc:TypeId×Value->H} {P:Program} {w:World} {base:Nat} {sp:Nat->Bool} {held:Bool}
def Opn(enc:TypeId×Value->H)(P:Program)(w:World)(base:Nat)(sp:Nat->Bool)(held:Bool){α : Type}(T:TypeId)(R:Rp α)(sz:α->Nat)(fuel:Nat):Prop:=
 ∀cs d ps,DataW.trod enc P w base sp held fuel T cs=some (d,ps)->∃x,R.rep (hOf w) cs x/\sz x<=uptoBulk d
theorem opn_slice{sz:α->Nat}(ht:P.underlying T=some (.slice E))(hc:P.cellsOf E=R.sz)(hp:0<R.sz)(he:∀n,fuel=n+1->Opn enc P w base sp held E R sz n){cs:List Value}{d:DataW H}(h:DataW.trod enc P w base sp held fuel T cs=some (d,ps)):∃b c xs,cs=[.slice b (List.length xs) c]/\SlC R (hOf w) b c xs/\szL sz xs+1<=uptoBulk d:=by
 rcases DataW.trod_slice ht h with⟨rfl,e⟩|⟨a,len,cap,elems,rest,n,hn,rfl,hx,h1,h2,h3,h4,h5,_,_⟩
 .cases e
  exact⟨none,0,[],rfl,SlC.nil,by simp[szL,uptoBulk]⟩
 .cases hx
  have key:∀k,k<=len->∃xs:List α,xs.length=k/\(∀i x,xs[i]? = some x->∃cs',At (hOf w) (a.add (i*R.sz)) cs'/\cs'.length=R.sz/\R.rep (hOf w) cs' x)/\szL sz xs<=uptoBulkAll ((elems.take k).map (·.1)):=by
   intro k
   induction k with
   |zero=>exact λ_=>⟨[],rfl,λi x hx=>by simp at hx,by simp[szL]⟩
   |succ k ih=>
    intro hk
    obtain⟨xs,e1,e2,e3⟩:=ih (by omega)
    have hkl:k<elems.length:=by omega
    have c0:=h5 k (by omega)
    rw[vF hkl]at c0
    obtain⟨cs',c1,c2⟩:=Option.bind_eq_some_iff.1 c0
    rw[hc]at c1
    obtain⟨x,x1,x2⟩:=he n hn _ _ _ c2
    obtain⟨k1,k2⟩:=OP hp c1
    refine⟨xs++[x],by simp[e1],λi y hy=>?_,?_⟩
    .rcases vK i xs.length with hi|hi
     .rw[List.getElem?_append_left hi]at hy;exact e2 i y hy
     .rw[List.getElem?_append_right hi]at hy
      have hi2:i=k:=by
       have:=(List.getElem?_eq_some_iff.1 hy).1
       simp at this;omega
      subst hi2
      rw[show i-xs.length=0 from by omega]at hy
      simp at hy;subst hy
      exact⟨cs',k1,k2,x1⟩
    .rw[DQ,List.take_add_one,List.map_append,JN,vF hkl]
     simp only[szL,Option.toList_some,kG,T8,uptoBulkAll]
     have x3:sz x<=uptoBulk (elems[k]).1:=x2
     omega
  obtain⟨xs,e1,e2,e3⟩:=key len (xG _)
  refine⟨some a,cap,xs,by rw[e1],⟨⟨?_,λi x hx=>?_⟩,by omega⟩,?_⟩
  .have:maxLen<=9223372036854775807:=by decide
   omega
  .obtain⟨cs',k1,k2,k3⟩:=e2 i x hx
   exact⟨a,cs',rfl,k1,k2,k3⟩
  .rw[List.take_of_length_le (by omega)]at e3
   simp only[uptoBulk]
   omega
theorem opn_int(ht:P.underlying T=some (.int .i64))(n:Nat):Opn enc P w base sp held T zC (λ_=>1) n:=by
 intro cs d ps h
 refine(?_:∃x,Rp.int.rep (hOf w) cs x).imp λ_ h=>⟨h,bulk_one d⟩
 cases n with
 |zero=>simp[DataW.trod]at h
 |succ n=>
  unfold DataW.trod at h
  rw[ht]at h
  split at h<;>simp_all
  next k k' z e=>
   obtain⟨⟨h1,_⟩,h2,_⟩:=h
   subst h1
   exact⟨z,by first|rfl|(subst e;rfl)|(cases e;rfl)⟩
theorem Qx(ht:P.underlying T=some (.int .u8))(n:Nat):Opn enc P w base sp held T ⟨1,λ_ cs(x:Int)=>cs=[.int .u8 x]⟩ (λ_=>1) n:=by
 intro cs d ps h
 refine(?_:∃x:Int,cs=[.int .u8 x]).imp λ_ h=>⟨h,bulk_one d⟩
 cases n with
 |zero=>simp[DataW.trod]at h
 |succ n=>
  unfold DataW.trod at h
  rw[ht]at h
  split at h<;>simp_all
theorem us(ht:P.underlying T=some .bool)(n:Nat):Opn enc P w base sp held T Rp.bool (λ_=>1) n:=by
 intro cs d ps h
 obtain⟨b,rfl,_⟩:=DataW.trod_bool ht h
 exact⟨b,rfl,bulk_one d⟩
theorem AL(ht:P.underlying T=some .string)(n:Nat):Opn enc P w base sp held T Rp.str (λ_=>1) n:=by
 intro cs d ps h
 refine(?_:∃x,Rp.str.rep (hOf w) cs x).imp λ_ h=>⟨h,bulk_one d⟩
 cases n with
 |zero=>simp[DataW.trod]at h
 |succ n=>
  unfold DataW.trod at h
  rw[ht]at h
  split at h<;>simp_all
  all_goals exact⟨_,rfl⟩
def TrF(enc:TypeId×Value->H)(P:Program)(w:World)(base:Nat)(sp:Nat->Bool)(held:Bool)(fuel:Nat):List TypeId->List Value->List (DataW H)->Prop
 |[],cs,ds=>cs=[]/\ds=[]
 |t::ts,cs,ds=>∃c cs' d ds' p,cs=c++cs'/\ds=d::ds'/\DataW.trod enc P w base sp held fuel t c=some (d,p)/\TrF enc P w base sp held fuel ts cs' ds'
def contig(P:Program):List Field->Nat->Option Nat
 |[],o=>some o
 |f::fs,o=>if f.offset=o then contig P fs (o+P.cellsOf f.type)else none
theorem Nn{n:Nat}{cs:List Value}:∀(fs:List Field)(xs:List (DataW H×List MemPlace))(o:Nat),xs.length=fs.length->contig P fs o=some cs.length ->
  (∀(i:Nat)(f:Field),fs[i]? = some f->DataW.trod enc P w base sp held n f.type ((cs.drop f.offset).take (P.cellsOf f.type))=xs[i]?)->TrF enc P w base sp held n (fs.map (·.type)) (cs.drop o) (xs.map (·.1))
 |[],xs,o,hl,hc,_=>by
  simp only[contig,zQ]at hc
  subst hc
  rw[vB,List.length_eq_zero_iff]at hl
  subst hl
  exact⟨by simp,rfl⟩
 |f::fs,[],o,hl,hc,hx=>by simp at hl
 |f::fs,x::xs,o,hl,hc,hx=>by
  unfold contig at hc
  split at hc
  .next ho=>
   have h0:=hx 0 f rfl
   rw[ho]at h0
   simp only[List.getElem?_cons_zero]at h0
   refine⟨(cs.drop o).take (P.cellsOf f.type),cs.drop (o+P.cellsOf f.type),x.1,xs.map (·.1),x.2,?_,rfl,h0,Nn fs xs _ (by simpa using hl) hc (λi g hg=>by simpa using hx (i+1) g (by simpa using hg))⟩
   rw[←List.drop_drop,List.take_append_drop]
  .cases hc
theorem lR{fs:Array Field}{cs:List Value}{d:DataW H}(ht:P.underlying T=some (.struct fs))(hk:contig P fs.toList 0=some (P.cellsOf T))(h:DataW.trod enc P w base sp held fuel T cs=some (d,ps)):
  ∃n ds,fuel=n+1/\d=.agg ds/\TrF enc P w base sp held n (fs.toList.map (·.type)) cs ds:=by
 obtain⟨xs,n,hn,hx,hl,hlen,hf⟩:=DataW.trod_struct ht h
 cases hx
 refine⟨n,_,hn,rfl,?_⟩
 have:=Nn (enc:=enc) (w:=w) (base:=base) (sp:=sp) (held:=held) (n:=n) (cs:=cs) fs.toList xs 0 (by simpa using hlen) (by rw[hk,hl]) (λi f hi=>hf i f (by simpa using hi))
 simpa using this
theorem Mt{m:Nat}(ht:P.underlying T=some (.array m E))(hE:P.underlying E=some (.int .u8))(hc:P.cellsOf E=1)(hcT:P.cellsOf T=m){n:Nat}{cs:List Value}{d:DataW H}(h:DataW.trod enc P w base sp held n T cs=some (d,ps)):∃f:Nat->Int,cs=(jJ m).map λi=>xB .u8 (f i):=by
 obtain⟨xs,k,hk,hx,hl,hlen,hf⟩:=DataW.trod_array ht h
 rw[hcT]at hl
 have h1:∀i,∃z:Int,i<m->cs[i]? = some (.int .u8 z):=by
  intro i
  rcases vK i m with hi|hi
  .have h0:=hf i hi
   rw[hc,Nat.mul_one,vF (by omega)]at h0
   obtain⟨z,hz,_⟩:=Qx (enc:=enc) (w:=w) (base:=base) (sp:=sp) (held:=held) hE k _ _ _ h0
   refine⟨z,λ_=>?_⟩
   have hz':(cs.drop i).take 1=[.int .u8 z]:=hz
   have:=congrArg (·[0]?) hz'
   simpa using this
  .exact⟨0,λh=>by omega⟩
 obtain⟨f,hf'⟩:=Classical.axiomOfChoice h1
 refine⟨f,Ta λi=>?_⟩
 rcases vK i m with hi|hi
 .rw[hf' i hi];simp[hi]
 .rw[xJ (by omega)];simp[hi]
end opn
section openings
variable {H:Type} {enc:TypeId×Value->H} {w:World} {base:Nat} {sp:Nat->Bool} {held:Bool}
theorem IW(n:Nat):Opn enc prog w base sp held 49 kR (λ_=>1) n:=by
 intro cs d ps h
 obtain⟨m,ds,rfl,rfl,c0,_,d0,_,p0,rfl,rfl,h0,c1,_,d1,_,p1,rfl,rfl,h1,c2,_,d2,_,p2,rfl,rfl,h2,c3,_,d3,_,p3,rfl,rfl,h3,c4,_,d4,_,p4,rfl,rfl,h4,c5,_,d5,_,p5,rfl,rfl,h5,c6,_,d6,_,p6,rfl,rfl,h6,rfl,rfl⟩:=lR (fs:=_) Lc (by kernel_rfl) h
 obtain⟨x0,rfl,_⟩:=(opn_int (by kernel_rfl)) m _ _ _ h0
 obtain⟨x1,rfl,_⟩:=(opn_int (by kernel_rfl)) m _ _ _ h1
 obtain⟨x2,rfl,_⟩:=(opn_int (by kernel_rfl)) m _ _ _ h2
 obtain⟨x3,rfl,_⟩:=(opn_int (by kernel_rfl)) m _ _ _ h3
 obtain⟨x4,rfl,_⟩:=(opn_int (by kernel_rfl)) m _ _ _ h4
 obtain⟨x5,rfl,_⟩:=(opn_int (by kernel_rfl)) m _ _ _ h5
 obtain⟨x6,rfl,_⟩:=(us (by kernel_rfl)) m _ _ _ h6
 exact⟨⟨x0,x1,x2,x3,x4,x5,x6⟩,rfl,bulk_one _⟩
theorem Kn(n:Nat):Opn enc prog w base sp held 157 Sr (λ_=>1) n:=by
 intro cs d ps h
 obtain⟨m,ds,rfl,rfl,c0,_,d0,_,p0,rfl,rfl,h0,c1,_,d1,_,p1,rfl,rfl,h1,c2,_,d2,_,p2,rfl,rfl,h2,c3,_,d3,_,p3,rfl,rfl,h3,c4,_,d4,_,p4,rfl,rfl,h4,c5,_,d5,_,p5,rfl,rfl,h5,c6,_,d6,_,p6,rfl,rfl,h6,c7,_,d7,_,p7,rfl,rfl,h7,c8,_,d8,_,p8,rfl,rfl,h8,c9,_,d9,_,p9,rfl,rfl,h9,rfl,rfl⟩:=lR (fs:=_) underlying157 (by kernel_rfl) h
 obtain⟨x0,rfl,_⟩:=(opn_int (by kernel_rfl)) m _ _ _ h0
 obtain⟨x1,rfl,_⟩:=(opn_int (by kernel_rfl)) m _ _ _ h1
 obtain⟨x2,rfl,_⟩:=(opn_int (by kernel_rfl)) m _ _ _ h2
 obtain⟨x3,rfl,_⟩:=(opn_int (by kernel_rfl)) m _ _ _ h3
 obtain⟨x4,rfl,_⟩:=(opn_int (by kernel_rfl)) m _ _ _ h4
 obtain⟨x5,rfl,_⟩:=(opn_int (by kernel_rfl)) m _ _ _ h5
 obtain⟨x6,rfl,_⟩:=(opn_int (by kernel_rfl)) m _ _ _ h6
 obtain⟨x7,rfl,_⟩:=(opn_int (by kernel_rfl)) m _ _ _ h7
 obtain⟨x8,rfl,_⟩:=(opn_int (by kernel_rfl)) m _ _ _ h8
 obtain⟨x9,rfl,_⟩:=(us (by kernel_rfl)) m _ _ _ h9
 exact⟨⟨x0,x1,x2,x3,x4,x5,x6,x7,x8,x9⟩,rfl,bulk_one _⟩
theorem Hz(n:Nat):Opn enc prog w base sp held 54 vL (λ_=>1) n:=by
 intro cs d ps h
 obtain⟨m,ds,rfl,rfl,c0,_,d0,_,p0,rfl,rfl,h0,c1,_,d1,_,p1,rfl,rfl,h1,c2,_,d2,_,p2,rfl,rfl,h2,c3,_,d3,_,p3,rfl,rfl,h3,c4,_,d4,_,p4,rfl,rfl,h4,c5,_,d5,_,p5,rfl,rfl,h5,c6,_,d6,_,p6,rfl,rfl,h6,rfl,rfl⟩:=lR (fs:=_) Nj (by kernel_rfl) h
 obtain⟨x0,rfl,_⟩:=(opn_int (by kernel_rfl)) m _ _ _ h0
 obtain⟨x1,rfl,_⟩:=(opn_int (by kernel_rfl)) m _ _ _ h1
 obtain⟨x2,rfl,_⟩:=(opn_int (by kernel_rfl)) m _ _ _ h2
 obtain⟨x3,rfl,_⟩:=(opn_int (by kernel_rfl)) m _ _ _ h3
 obtain⟨x4,rfl,_⟩:=(opn_int (by kernel_rfl)) m _ _ _ h4
 obtain⟨x5,rfl,_⟩:=(us (by kernel_rfl)) m _ _ _ h5
 obtain⟨x6,rfl,_⟩:=(us (by kernel_rfl)) m _ _ _ h6
 exact⟨⟨x0,x1,x2,x3,x4,x5,x6⟩,rfl,bulk_one _⟩
theorem Ko(n:Nat):Opn enc prog w base sp held 120 Budget.rp (λ_=>1) n:=by
 intro cs d ps h
 obtain⟨m,ds,rfl,rfl,c0,_,d0,_,p0,rfl,rfl,h0,c1,_,d1,_,p1,rfl,rfl,h1,c2,_,d2,_,p2,rfl,rfl,h2,c3,_,d3,_,p3,rfl,rfl,h3,c4,_,d4,_,p4,rfl,rfl,h4,c5,_,d5,_,p5,rfl,rfl,h5,c6,_,d6,_,p6,rfl,rfl,h6,c7,_,d7,_,p7,rfl,rfl,h7,rfl,rfl⟩:=lR (fs:=_) underlying120 (by kernel_rfl) h
 obtain⟨x0,rfl,_⟩:=(opn_int (by kernel_rfl)) m _ _ _ h0
 obtain⟨x1,rfl,_⟩:=(opn_int (by kernel_rfl)) m _ _ _ h1
 obtain⟨x2,rfl,_⟩:=(opn_int (by kernel_rfl)) m _ _ _ h2
 obtain⟨x3,rfl,_⟩:=(opn_int (by kernel_rfl)) m _ _ _ h3
 obtain⟨x4,rfl,_⟩:=(opn_int (by kernel_rfl)) m _ _ _ h4
 obtain⟨x5,rfl,_⟩:=(opn_int (by kernel_rfl)) m _ _ _ h5
 obtain⟨x6,rfl,_⟩:=(opn_int (by kernel_rfl)) m _ _ _ h6
 obtain⟨x7,rfl,_⟩:=(us (by kernel_rfl)) m _ _ _ h7
 exact⟨⟨x0,x1,x2,x3,x4,x5,x6,x7⟩,rfl,bulk_one _⟩
abbrev Expr.hold(x:Expr):Nat:=x.dep
theorem IV(n:Nat):Opn enc prog w base sp held 88 Expr.rp Expr.hold n:=by
 induction n using Nat.strongRecOn with
 |_ n ih=>
 intro cs d ps h
 obtain⟨m,ds,rfl,rfl,c0,_,d0,_,p0,rfl,rfl,h0,c1,_,d1,_,p1,rfl,rfl,h1,c2,_,d2,_,p2,rfl,rfl,h2,c3,_,d3,_,p3,rfl,rfl,h3,c4,_,d4,_,p4,rfl,rfl,h4,rfl,rfl⟩:=lR (fs:=_) underlying88 (by kernel_rfl) h
 obtain⟨x0,rfl,_⟩:=(opn_int (by kernel_rfl)) m _ _ _ h0
 obtain⟨x1,rfl,_⟩:=(opn_int (by kernel_rfl)) m _ _ _ h1
 obtain⟨x2,rfl,_⟩:=(opn_int (by kernel_rfl)) m _ _ _ h2
 obtain⟨x3,rfl,_⟩:=(AL (by kernel_rfl)) m _ _ _ h3
 obtain⟨b4,k4,x4,rfl,o4,q4⟩:=opn_slice lP (by kernel_rfl) (by decide) (λk hk=>ih k (by omega)) h4
 refine⟨Expr.mk x0 x1 x2 x3 x4,⟨⟨b4,k4⟩,rfl,Expr.ok.of o4⟩,?_⟩
 rw[Ll]at q4
 simp only[Expr.hold,T2,YtgddeppkkjefjaaGreatDoor.Rows.uptoBulk,YtgddeppkkjefjaaGreatDoor.Rows.uptoBulkAll]at *
 omega
def Rule.hold(x:Rule):Nat:=Expr.hold x.Expr+1
theorem NY(n:Nat):Opn enc prog w base sp held 91 Rule.rp Rule.hold n:=by
 intro cs d ps h
 obtain⟨m,ds,rfl,rfl,c0,_,d0,_,p0,rfl,rfl,h0,c1,_,d1,_,p1,rfl,rfl,h1,c2,_,d2,_,p2,rfl,rfl,h2,c3,_,d3,_,p3,rfl,rfl,h3,rfl,rfl⟩:=lR (fs:=_) underlying91 (by kernel_rfl) h
 obtain⟨x0,rfl,_⟩:=(AL (by kernel_rfl)) m _ _ _ h0
 obtain⟨x1,rfl,_⟩:=(opn_int (by kernel_rfl)) m _ _ _ h1
 obtain⟨x2,rfl,_⟩:=(opn_int (by kernel_rfl)) m _ _ _ h2
 obtain⟨x3,⟨r3,rfl,o3⟩,q3⟩:=IV m _ _ _ h3
 refine⟨⟨x0,x1,x2,x3⟩,⟨⟨r3⟩,rfl,⟨o3⟩⟩,?_⟩
 simp only[Rule.hold,YtgddeppkkjefjaaGreatDoor.Rows.uptoBulk,YtgddeppkkjefjaaGreatDoor.Rows.uptoBulkAll]
 omega
def Policy.hold(x:Policy):Nat:=szL (λ_=>1) x.Kinds+szL (λ_=>1) x.Offices+szL Rule.hold x.Rules+Expr.hold x.Change+1
theorem Km(n:Nat):Opn enc prog w base sp held 94 Policy.rp Policy.hold n:=by
 intro cs d ps h
 obtain⟨m,ds,rfl,rfl,c0,_,d0,_,p0,rfl,rfl,h0,c1,_,d1,_,p1,rfl,rfl,h1,c2,_,d2,_,p2,rfl,rfl,h2,c3,_,d3,_,p3,rfl,rfl,h3,c4,_,d4,_,p4,rfl,rfl,h4,c5,_,d5,_,p5,rfl,rfl,h5,rfl,rfl⟩:=lR (fs:=_) Lb (by kernel_rfl) h
 obtain⟨x0,rfl,_⟩:=(AL (by kernel_rfl)) m _ _ _ h0
 obtain⟨b1,k1,x1,rfl,o1,q1⟩:=opn_slice vt (by kernel_rfl) (by decide) (λk _=>(AL (by kernel_rfl)) k) h1
 obtain⟨b2,k2,x2,rfl,o2,q2⟩:=opn_slice vt (by kernel_rfl) (by decide) (λk _=>(AL (by kernel_rfl)) k) h2
 obtain⟨b3,k3,x3,rfl,o3,q3⟩:=opn_slice tQ (by kernel_rfl) (by decide) (λk _=>NY k) h3
 obtain⟨x4,⟨r4,rfl,o4⟩,q4⟩:=IV m _ _ _ h4
 obtain⟨x5,rfl,_⟩:=(opn_int (by kernel_rfl)) m _ _ _ h5
 refine⟨⟨x0,x1,x2,x3,x4,x5⟩,⟨⟨b1,k1,b2,k2,b3,k3,r4⟩,rfl,⟨o1,o2,o3,o4⟩⟩,?_⟩
 simp only[Policy.hold,YtgddeppkkjefjaaGreatDoor.Rows.uptoBulk,YtgddeppkkjefjaaGreatDoor.Rows.uptoBulkAll]
 omega
def Version.hold(x:Version):Nat:=Policy.hold x.Policy+1
theorem IU(n:Nat):Opn enc prog w base sp held 96 Version.rp Version.hold n:=by
 intro cs d ps h
 obtain⟨m,ds,rfl,rfl,c0,_,d0,_,p0,rfl,rfl,h0,c1,_,d1,_,p1,rfl,rfl,h1,c2,_,d2,_,p2,rfl,rfl,h2,c3,_,d3,_,p3,rfl,rfl,h3,rfl,rfl⟩:=lR (fs:=_) underlying96 (by kernel_rfl) h
 obtain⟨x0,rfl,_⟩:=(opn_int (by kernel_rfl)) m _ _ _ h0
 obtain⟨x1,rfl,_⟩:=(opn_int (by kernel_rfl)) m _ _ _ h1
 obtain⟨x2,rfl,_⟩:=(opn_int (by kernel_rfl)) m _ _ _ h2
 obtain⟨x3,⟨r3,rfl,o3⟩,q3⟩:=Km m _ _ _ h3
 refine⟨⟨x0,x1,x2,x3⟩,⟨⟨r3⟩,rfl,⟨o3⟩⟩,?_⟩
 simp only[Version.hold,YtgddeppkkjefjaaGreatDoor.Rows.uptoBulk,YtgddeppkkjefjaaGreatDoor.Rows.uptoBulkAll]
 omega
def Document.hold(x:Document):Nat:=szL (λ_=>1) x.Parties+szL (λ_=>1) x.Revokes+szL (λ_=>1) x.Needs+1
theorem HA(n:Nat):Opn enc prog w base sp held 70 Document.rp Document.hold n:=by
 intro cs d ps h
 obtain⟨m,ds,rfl,rfl,c0,_,d0,_,p0,rfl,rfl,h0,c1,_,d1,_,p1,rfl,rfl,h1,c2,_,d2,_,p2,rfl,rfl,h2,c3,_,d3,_,p3,rfl,rfl,h3,c4,_,d4,_,p4,rfl,rfl,h4,c5,_,d5,_,p5,rfl,rfl,h5,c6,_,d6,_,p6,rfl,rfl,h6,c7,_,d7,_,p7,rfl,rfl,h7,c8,_,d8,_,p8,rfl,rfl,h8,c9,_,d9,_,p9,rfl,rfl,h9,rfl,rfl⟩:=lR (fs:=_) underlying70 (by kernel_rfl) h
 obtain⟨x0,rfl,_⟩:=(opn_int (by kernel_rfl)) m _ _ _ h0
 obtain⟨x1,rfl,_⟩:=(opn_int (by kernel_rfl)) m _ _ _ h1
 obtain⟨x2,rfl,_⟩:=(opn_int (by kernel_rfl)) m _ _ _ h2
 obtain⟨x3,rfl,_⟩:=(opn_int (by kernel_rfl)) m _ _ _ h3
 obtain⟨x4,rfl,_⟩:=(opn_int (by kernel_rfl)) m _ _ _ h4
 obtain⟨x5,rfl,_⟩:=(opn_int (by kernel_rfl)) m _ _ _ h5
 obtain⟨b6,k6,x6,rfl,o6,q6⟩:=opn_slice eG (by kernel_rfl) (by decide) (λk _=>(opn_int (by kernel_rfl)) k) h6
 obtain⟨b7,k7,x7,rfl,o7,q7⟩:=opn_slice eG (by kernel_rfl) (by decide) (λk _=>(opn_int (by kernel_rfl)) k) h7
 obtain⟨b8,k8,x8,rfl,o8,q8⟩:=opn_slice eG (by kernel_rfl) (by decide) (λk _=>(opn_int (by kernel_rfl)) k) h8
 obtain⟨x9,rfl⟩:=Mt underlying68 RC (by kernel_rfl) (by kernel_rfl) h9
 refine⟨⟨x0,x1,x2,x3,x4,x5,x6,x7,x8,x9⟩,⟨⟨b6,k6,b7,k7,b8,k8⟩,rfl,⟨o6,o7,o8⟩⟩,?_⟩
 simp only[Document.hold,YtgddeppkkjefjaaGreatDoor.Rows.uptoBulk,YtgddeppkkjefjaaGreatDoor.Rows.uptoBulkAll]
 omega
theorem HB(n:Nat):Opn enc prog w base sp held 163 Approval.rp (λ_=>1) n:=by
 intro cs d ps h
 obtain⟨m,ds,rfl,rfl,c0,_,d0,_,p0,rfl,rfl,h0,c1,_,d1,_,p1,rfl,rfl,h1,c2,_,d2,_,p2,rfl,rfl,h2,c3,_,d3,_,p3,rfl,rfl,h3,c4,_,d4,_,p4,rfl,rfl,h4,c5,_,d5,_,p5,rfl,rfl,h5,c6,_,d6,_,p6,rfl,rfl,h6,c7,_,d7,_,p7,rfl,rfl,h7,rfl,rfl⟩:=lR (fs:=_) underlying163 (by kernel_rfl) h
 obtain⟨x0,rfl,_⟩:=(opn_int (by kernel_rfl)) m _ _ _ h0
 obtain⟨x1,rfl,_⟩:=(opn_int (by kernel_rfl)) m _ _ _ h1
 obtain⟨x2,rfl,_⟩:=(opn_int (by kernel_rfl)) m _ _ _ h2
 obtain⟨x3,rfl,_⟩:=(opn_int (by kernel_rfl)) m _ _ _ h3
 obtain⟨x4,rfl,_⟩:=(opn_int (by kernel_rfl)) m _ _ _ h4
 obtain⟨x5,rfl,_⟩:=(opn_int (by kernel_rfl)) m _ _ _ h5
 obtain⟨x6,rfl,_⟩:=(opn_int (by kernel_rfl)) m _ _ _ h6
 obtain⟨x7,rfl,_⟩:=(us (by kernel_rfl)) m _ _ _ h7
 exact⟨⟨x0,x1,x2,x3,x4,x5,x6,x7⟩,rfl,bulk_one _⟩
def Register.hold(x:Register):Nat:=szL (λ_=>1) x.Appoints+szL (λ_=>1) x.Deputies+szL (λ_=>1) x.Interests+szL (λ_=>1) x.Budgets+szL Version.hold x.Versions+szL Document.hold x.Docs+szL (λ_=>1) x.Approvals+1
theorem opn_Register(n:Nat):Opn enc prog w base sp held 30 Register.rp Register.hold n:=by
 intro cs d ps h
 obtain⟨m,ds,rfl,rfl,c0,_,d0,_,p0,rfl,rfl,h0,c1,_,d1,_,p1,rfl,rfl,h1,c2,_,d2,_,p2,rfl,rfl,h2,c3,_,d3,_,p3,rfl,rfl,h3,c4,_,d4,_,p4,rfl,rfl,h4,c5,_,d5,_,p5,rfl,rfl,h5,c6,_,d6,_,p6,rfl,rfl,h6,rfl,rfl⟩:=lR (fs:=_) Ld (by kernel_rfl) h
 obtain⟨b0,k0,x0,rfl,o0,q0⟩:=opn_slice Cn (by kernel_rfl) (by decide) (λk _=>IW k) h0
 obtain⟨b1,k1,x1,rfl,o1,q1⟩:=opn_slice yF (by kernel_rfl) (by decide) (λk _=>Kn k) h1
 obtain⟨b2,k2,x2,rfl,o2,q2⟩:=opn_slice ul (by kernel_rfl) (by decide) (λk _=>Hz k) h2
 obtain⟨b3,k3,x3,rfl,o3,q3⟩:=opn_slice An (by kernel_rfl) (by decide) (λk _=>Ko k) h3
 obtain⟨b4,k4,x4,rfl,o4,q4⟩:=opn_slice wC (by kernel_rfl) (by decide) (λk _=>IU k) h4
 obtain⟨b5,k5,x5,rfl,o5,q5⟩:=opn_slice rC (by kernel_rfl) (by decide) (λk _=>HA k) h5
 obtain⟨b6,k6,x6,rfl,o6,q6⟩:=opn_slice Ai (by kernel_rfl) (by decide) (λk _=>HB k) h6
 refine⟨⟨x0,x1,x2,x3,x4,x5,x6⟩,⟨⟨b0,k0,b1,k1,b2,k2,b3,k3,b4,k4,b5,k5,b6,k6⟩,rfl,⟨o0,o1,o2,o3,o4,o5,o6⟩⟩,?_⟩
 simp only[Register.hold,YtgddeppkkjefjaaGreatDoor.Rows.uptoBulk,YtgddeppkkjefjaaGreatDoor.Rows.uptoBulkAll]
 omega
theorem opn_Use(n:Nat):Opn enc prog w base sp held 178 Use.rp (λ_=>1) n:=by
 intro cs d ps h
 obtain⟨m,ds,rfl,rfl,c0,_,d0,_,p0,rfl,rfl,h0,c1,_,d1,_,p1,rfl,rfl,h1,c2,_,d2,_,p2,rfl,rfl,h2,c3,_,d3,_,p3,rfl,rfl,h3,c4,_,d4,_,p4,rfl,rfl,h4,rfl,rfl⟩:=lR (fs:=_) underlying178 (by kernel_rfl) h
 obtain⟨x0,rfl,_⟩:=(opn_int (by kernel_rfl)) m _ _ _ h0
 obtain⟨x1,rfl,_⟩:=(opn_int (by kernel_rfl)) m _ _ _ h1
 obtain⟨x2,rfl,_⟩:=(opn_int (by kernel_rfl)) m _ _ _ h2
 obtain⟨x3,rfl,_⟩:=(opn_int (by kernel_rfl)) m _ _ _ h3
 obtain⟨x4,rfl,_⟩:=(opn_int (by kernel_rfl)) m _ _ _ h4
 exact⟨⟨x0,x1,x2,x3,x4⟩,rfl,bulk_one _⟩
end openings
theorem Qm{p:Policy}(h:Policy.hold p<=1048576):smP p:=by
 unfold Policy.hold Expr.hold at h
 have h1:=szL_len (f:=λ_:ByteArray=>1) (λ_=>xG _) p.Kinds
 have h2:=szL_len (f:=λ_:ByteArray=>1) (λ_=>xG _) p.Offices
 have h3:=szL_len (f:=Rule.hold) (λx=>by unfold Rule.hold;omega) p.Rules
 refine⟨by omega,λr hr=>?_,by omega,by omega,by omega⟩
 have h4:=Hi (f:=Rule.hold) hr
 unfold Rule.hold Expr.hold at h4
 have:szL (λx=>Rule.hold x) p.Rules=szL Rule.hold p.Rules:=rfl
 unfold Rule.hold Expr.hold at this h
 omega
theorem Ql{l:List Version}(h:szL Version.hold l<=1048576):smV l:=by
 have h1:=szL_len (f:=Version.hold) (λx=>by unfold Version.hold;omega) l
 refine⟨by omega,λv hv=>Qm ?_⟩
 have h2:=Hi (f:=Version.hold) hv
 have h3:Policy.hold v.Policy<=Version.hold v:=by unfold Version.hold;omega
 omega
theorem smR_of{r:Register}(h:Register.hold r<=1048576):smR r:=by
 unfold Register.hold at h
 have h1:=szL_len (f:=λ_:Appoint=>1) (λ_=>xG _) r.Appoints
 have h2:=szL_len (f:=λ_:Deputy=>1) (λ_=>xG _) r.Deputies
 have h3:=szL_len (f:=λ_:Interest=>1) (λ_=>xG _) r.Interests
 have h4:=szL_len (f:=λ_:Budget=>1) (λ_=>xG _) r.Budgets
 have h5:=szL_len (f:=Document.hold) (λx=>by unfold Document.hold;omega) r.Docs
 have h6:=szL_len (f:=λ_:Approval=>1) (λ_=>xG _) r.Approvals
 exact⟨Ql (by omega),by omega,by omega,by omega,by omega,by omega,by omega⟩
end
variable {h:HF}
section
def Rk(P:Program)(f:FuncId)(X:Cx)(v:Value)(cs:List Frame)(Φ : Machine->Prop):Prop:=
 X.M=[]/\∀fr w',Ux X.w0.heap.size X.w0 w'->fr.fn=f->fr.leaving P w' (.returned v)->To P Φ (lone fr cs w')
theorem JM{f:FuncId}{c:Code}{n:Nat}(hp:Pre h [] w)(hf:P.funcs[f]? = some fn)(hb:fn.body=some c)(hn:fn.ntmps=n)(hle:Nat.ble args.length n=true)(t:∀X:Cx,X.M=([]:LH).map (·.1)->X.h0=h->TT P (bodyFrame f) n [.code c] (Rk P f X v) (envArgs args) [] X h []):Calls P f args.toArray w λe w'=>e=.returned v/\Ux w.heap.size w w':=by
 intro cs
 have hle:=Nat.le_of_ble_eq_true hle
 have henter:RX P f args.toArray .normal=(bodyFrame f).atR { tmps:=args.toArray++Sy (n-args.length) undef,defers:=[] } [.code c]:=by
  simp[RX,Frame.atR,hf,hb,hn,bodyFrame]
 obtain⟨m',s,w',fr,rfl,h1,h2,h3⟩:=t ⟨w,h,[]⟩ rfl rfl w (St.start hp) { tmps:=args.toArray++Sy (n-args.length) undef,defers:=[] } cs
  (λm=>∃w' fr,m=lone fr cs w'/\Ux w.heap.size w w'/\fr.fn=f/\fr.leaving P w' (.returned v)) (by simp;omega) (oG _ _) rfl
  ⟨rfl,λfr w' hb hfn hl=>.now ⟨w',fr,rfl,hb,hfn,hl⟩⟩
 refine⟨.returned v,w',fr,⟨rfl,h1⟩,?_,h2,h3⟩
 rw[henter];exact s
section ending
variable {P:Program} {f:FuncId} {n:Nat} {k:List Item} {e:Env} {X:Cx} {h:HF} {L:LH} {fn:Func}
theorem Ap{rs:List ResultVar}{hh:HF}(vs:List Value)(hf:P.funcs[f]? = some fn)(hr:fn.results=rs.toArray)(_:X.h0=hh)(hv:tM P e L rs vs)(hvv:retVal vs=v):
  TT P (bodyFrame f) n (.code .ret::k) (Rk P f X v) e [] X h L:=by
 intro w hw a cs Φ hn he hds hF
 exact .step (stepR_ret rfl) (hF.2 _ w (hw.below hF.1) rfl ⟨rfl,hds,rfl,fn,hf,hvv▸nO hr hv a he w hw⟩)
end ending
end
variable {W:World}{sp:Nat->Bool}
section
open Go.Proofs Go.Proofs.Tryz
theorem MC{m:Nat}{ps rs:Array TypeId}{vd:Bool}{c:List Value}{b:UInt8}{r:List UInt8}{p:List MemPlace}(hE:P.underlying E=some (.func ps rs vd))(h:DataW.trod (funcToken P) P w 0 sp true m E c=some (.held (b::r),p)):∃f fn,c=[.func (.func f) #[] #[]]/\P.funcs[f]? = some fn/\P.funcNamed fn.name=some f/\fn.name.toUTF8.data.toList=b::r:=by
 cases m with
 |zero=>simp[DataW.trod]at h
 |succ m=>
  unfold DataW.trod at h
  rw[hE]at h
  split at h<;>try (simp_all;done)
  next fn fi ca _ _=>
   simp only[if_true,zQ,Tu,DataW.held.injEq]at h
   obtain⟨f,g,e,h1,h2,h3⟩:=funcToken_tells h.1
   exact⟨f,g,by rw[e],h1,h2,h3⟩
theorem PB{k:FuncId}{g:Func}{f:FuncId}{l:List UInt8}(hg:P.funcNamed g.name=some k)(hl:g.name.toUTF8.data.toList=l)(h2:P.funcNamed fn.name=some f)(h3:fn.name.toUTF8.data.toList=l):f=k:=by
 have:fn.name=g.name:=bytes_inj (h3.trans hl.symm)
 rw[this,hg]at h2
 exact(xT h2).symm
theorem Nt{l:List α}{i:Nat}{x:α}(h:(l.drop i).take 1=[x]):l[i]? = some x:=by
 have:=congrArg (·[0]?) h
 simpa using this
theorem kinds_of(hL:laidMetH prog YtgddeppkkjefjaaGreatDoor.Rows.asofJudgedUptoRow.laid W):Kinds (hOf W):=by
 obtain⟨d, hd⟩ : ∃d, (YtgddeppkkjefjaaGreatDoor.Rows.laid_signatory_policies_kinds : DataW Unit) = .iface "func table" d := ⟨_, rfl⟩
 obtain⟨g,t,cs,fuel,p,hg,ht,hv,hr⟩:=hL.funcs (d:=d) (by rw[←hd];exact zB ..)
 unfold World.var? at hv
 rw[hg]at hv
 obtain rfl:g=0:=xT (hg.symm.trans (by kernel_rfl))
 obtain rfl:t=319:=xT (ht.symm.trans (by kernel_rfl))
 obtain⟨xs,m,_,hx,hl,hlen,hf⟩:=DataW.trod_array (n:=5) (e:=217) (by kernel_rfl) hr
 rw[show prog.cellsOf 319=5 by kernel_rfl]at hl
 rw[show prog.cellsOf 217=1 by kernel_rfl]at hf
 unfold YtgddeppkkjefjaaGreatDoor.Rows.laid_signatory_policies_kinds at hd
 cases hd
 simp only[DataW.funcsOut,DataW.funcsOutAll,Tu]at hx
 match xs,hlen with
 |[x0,x1,x2,x3,x4],_=>
  simp only[kG,T8,beq_self_eq_true,if_true,DataW.agg.injEq,List.cons.injEq,and_true]at hx
  have key:∀(i:Nat)(x:DataW (List UInt8)×List MemPlace)(b:UInt8)(r:List UInt8)(k:FuncId)(fk:Func),i<5->[x0,x1,x2,x3,x4][i]? = some x->DataW.held (b::r)=x.1->prog.funcNamed fk.name=some k->fk.name.toUTF8.data.toList=b::r->cs.toList[i]? = some (.func (.func k) #[] #[]):=by
   intro i x b r k fk hi hxi hb hk hn
   have h0:=hf i hi
   rw[hxi,Nat.mul_one]at h0
   obtain⟨f,fn,e,_,h2,h3⟩:=MC (P:=prog) (E:=217) underlying217 (h0.trans (show some x=some (DataW.held (b::r),x.2) by rw[hb]))
   obtain rfl:=PB hk hn h2 h3
   exact Nt e
  obtain⟨⟨e0,e1,e2,e3,e4⟩,_⟩:=hx
  have k0:=key 0 x0 _ _ 322 Tryz.f322 (by omega) rfl e0 (by kernel_rfl) (by kernel_rfl)
  have k1:=key 1 x1 _ _ 323 Tryz.f323 (by omega) rfl e1 (by kernel_rfl) (by kernel_rfl)
  have k2:=key 2 x2 _ _ 324 Tryz.f324 (by omega) rfl e2 (by kernel_rfl) (by kernel_rfl)
  have k3:=key 3 x3 _ _ 325 Tryz.f325 (by omega) rfl e3 (by kernel_rfl) (by kernel_rfl)
  have k4:=key 4 x4 _ _ 326 Tryz.f326 (by omega) rfl e4 (by kernel_rfl) (by kernel_rfl)
  have hcs:cs=kindsC.toArray:=by
   apply Array.toList_inj.1
   apply Ta
   intro i
   match i with
   |0=>exact k0
   |1=>exact k1
   |2=>exact k2
   |3=>exact k3
   |4=>exact k4
   |i+5=>rw[xJ (by omega)];rfl
  simp only[Option.bind_some]at hv
  split at hv
  .next c T fz e=>
   cases hv
   exact⟨T,fz,by rw[←hcs];exact e⟩
  .cases hv
end
section
open Go.ChangeShapes Go.WideShapes Go.RowKit
variable {H:Type} {enc:TypeId×Value->H} {P:Program}
theorem post_below{f:Func}{s:ChangeSpec}{apart fresh handsOn again:Bool}{W':World}{args:Array Value}{ds gs:List (DataW H)}{before pa pv:List MemPlace}(hW:DataW.Whole enc P f.params.toList s.vars apart W args.toList ds gs before)(hres:∀(b:Nat)(sp:Nat->Bool)(hd:Bool),DataW.TrodAll enc P W' b sp hd f.resultTypes.toList (v.resultList f.resultTypes.size) (s.fn H (ds++gs)).results [])(hargs:∀sp:Nat->Bool,(∀p∈before,sp p.block=true)->DataW.TrodAll enc P W' 0 sp true f.params.toList args.toList (s.fn H (ds++gs)).args pa)(hvars:∀sp:Nat->Bool,(∀p∈before,sp p.block=true)->DataW.TrodVars enc P W' sp s.vars (s.fn H (ds++gs)).vars pv)(hps:before=pa++pv)(hb:Below W.heap.size W W')(hok:∀(j:Nat)(t:TypeId)(r:Value),f.resultTypes[j]? = some t->(v.resultList f.resultTypes.size)[j]? = some r->Value.okWide P W' .any 0 t r):
  s.post enc P f apart fresh handsOn again W args v W':=by
 have hlt:=hW.lt
 have hold:∀p∈before,(λb=>decide (b<W.heap.size)) p.block=true:=λp hp=>by simpa using hlt p hp
 refine⟨ds,gs,before,[],pa,pv,hW,hres _ _ _,hargs _ hold,hvars _ hold,World.keptBut_mono (λp hp=>⟨hp,?_⟩) (hb.frame (·∈before)),λ_=>?_⟩
 .rw[hps,xH]at hp
  exact Or.inr hp
 .obtain⟨_,_,_,_,_,hz,hn⟩:=hW
  refine⟨hok,_,_,([]++pa)++pv,⟨[]++pa,pv,trodAll_append (hargs _ (λ_ _=>rfl)) (hres _ _ _),hvars _ (λ_ _=>rfl),rfl,?_,?_⟩,?_⟩
  .intro b off hp
   have hp':MemPlace.cell b off∈before:=by rw[hps];simpa using hp
   rw[hb.frozen (p:=⟨b,off,none⟩) (hlt _ hp')]
   exact hz b off hp'
  .intro ha
   have:=hn ha
   rw[hps]at this
   simpa using this
  .intro p hp _
   rw[hps]
   simpa using hp
theorem stays{t:TypeId}(hl:laidOutB P=true)(hr:P.readableRec t=true)(hrow:decide (t<P.types.size)=true){W':World}{d:DataW H}{before:List MemPlace}(h:DataW.Trod enc P W 0 (λ_=>true) true t v d ps)(hb:Below W.heap.size W W')(hlt:∀x∈before,x.block<W.heap.size)(hm:∀x∈ps,x∈before)(hsp:∀p∈before,sp p.block=true):DataW.Trod enc P W' 0 sp true t v d ps:=
 WideElems.Trod_stays hl hr (of_decide_eq_true hrow) h (λx hx=>hb.same (hlt x (hm x hx))) (λx hx=>hsp _ (hm x hx))
end
section
def agB(ops:Array Oper)(o:Oper)(t:Nat):Bool:=ops.toList.all λo'=>(o'.dst != some t)||(jJ ops.size).all λi=>match ops[i]? with
 |some oi=>(oi.dst != o.dst)||o'.after.toList.any λed=>Region.binds .any ed&&ed.on==i
 |none=>true
theorem AgE.at_{o:Oper}(h:AgE ops o e e')(t:Nat)(hb:agB ops o t=true:=by rfl):e' t=e t:=by
 refine h t λo' ho' hd i hi=>?_
 have h1:=Si.1 hb o' (by simpa using ho')
 simp only[hd,bne_self_eq_false,Bool.false_or]at h1
 have h2:=Si.1 h1 i (List.mem_range.2 (Array.getElem?_eq_some_iff.1 hi).1)
 simp only[hi,bne_self_eq_false,Bool.false_or,List.any_eq_true,jB,beq_iff_eq]at h2
 obtain⟨ed,h3,h4,h5⟩:=h2
 exact⟨ed,by simpa using h3,h4,h5⟩
end
section
theorem bP.rep{α : Type}{R:Rp α}{h:HF}{z:Value}{x:α}(h1:R.sz=1)(hr:R.rep h [z] x):∀m,bP R h (List.replicate m z) (List.replicate m x)
 |0=>rfl
 |m+1=>⟨[z],List.replicate m z,by simp[List.replicate_succ],h1.symm▸rfl,hr,bP.rep h1 hr m⟩
section
variable {P:Program} {b:Frame} {n:Nat} {ops:Array Oper} {F:List Frame->(Machine->Prop)->Prop} {e:Env} {ds:List Deferred} {X:Cx} {h:HF} {L:LH} {K:Env->HF->LH->Prop}
variable {d:Option Nat} {ty:TypeId} {pos:String} {af:Array Edge} {g:Option (Nat×Bool)}
end
section
variable {P:Program} {b:Frame} {n:Nat} {k:List Item} {F:List Frame->(Machine->Prop)->Prop} {e:Env} {ds:List Deferred} {X:Cx} {h:HF} {L:LH}
theorem lp4{c:Code}(xs:List α)(sl:Nat->γ->List (Nat×Value))(hh:γ->HF)(LL:γ->LH)(J JX:Nat->γ->Prop)(hJX:∀i g,i=xs.length->J i g->JX i g)(Lf:List α->Nat->γ->ρ)(g0:γ)(hb:xs.length<=9223372036854775807)(hs:x0=Lf xs 0 g0)(hJ:J 0 g0)(after:∀i g,i<=xs.length->x0=Lf [] i g->JX i g->∀e',TT P b n k F (upds e' (sl i g)) ds X (hh g) (LL g))(cons:∀i g y r,xs.drop i=y::r->decide ((i:Int)<(xs.length:Int))=true->xs[i]? = some y->i<xs.length->xs.length<=9223372036854775807->x0=Lf (y::r) i g->J i g ->
   (∀i' g' {e'},x0=Lf [] i' g'->JX i' g'->(hi:i'<=xs.length:=by omega)->(hr:i9 e' (sl i' g'):=by exact rds)->TT P b n k F e' ds X (hh g') (LL g')) ->
   (∀g' {e'},x0=Lf r (i+1) g'->J (i+1) g'->(hr:i9 e' (sl (i+1) g'):=by exact rds)->TT P b n (.inLoop c::.inBlock id::k) F e' ds X (hh g') (LL g')) ->
   ∀e',TT P b n (.code c::.inLoop c::.inBlock id::k) F (upds e' (sl i g)) ds X (hh g) (LL g))(nil:∀i g,xs.drop i=[]->decide ((i:Int)<(xs.length:Int))=false->(∀e',i9 e' (sl i g)->TT P b n k F e' ds X (hh g) (LL g)) ->
   ∀e',TT P b n (.code c::.inLoop c::.inBlock id::k) F (upds e' (sl i g)) ds X (hh g) (LL g):=by exact ndA)(h0:i9 e (sl 0 g0):=by exact rds)(hw:∀w,St X h L w->St X (hh g0) (LL g0) w:=by exact sws):
  TT P b n (.code (.block id (.loop c))::k) F e ds X h L:=by
 refine iA (ι:=Nat×γ) (λi=>sl i.1 i.2) (λi=>hh i.2) (λi=>LL i.2) (λi=>i.1<=xs.length/\x0=Lf [] i.1 i.2/\JX i.1 i.2) ?_ (λhx=>?_)
 .rintro⟨i,g⟩ ⟨h1,h2,h3⟩ e'
  exact after i g h1 h2 h3 e'
 .refine kl (ι:=Nat×γ×List α) (λi=>sl i.1 i.2.1) (λi=>hh i.2.1) (λi=>LL i.2.1) (λi=>xs.drop i.1=i.2.2/\i.1<=xs.length/\x0=Lf i.2.2 i.1 i.2.1/\J i.1 i.2.1) (λi=>i.2.2.length) (0,g0,xs) h0 hw ⟨rfl,vM _,hs,hJ⟩ ?_
  rintro⟨i,g,s⟩ ⟨hd,hi,hs,hJ⟩ ag e'
  dsimp only at hd hi hs hJ
  rcases s with _|⟨y,r⟩
  .exact nil i g hd (oI hd) (λe'' hr=>hx (i,g) e'' ⟨hi,hs,hJX _ _ (Nat.le_antisymm hi (by rcases vK i xs.length with q|q;(rw[List.drop_eq_getElem_cons q]at hd;cases hd);exact q)) hJ⟩ hr) e'
  .exact cons i g y r hd (tJ hd) (sQ hd) (jv hd) hb hs hJ (λi' g' e'' a b c d=>hx (i',g') e'' ⟨c,a,b⟩ d)
    (λg' e'' a b hr=>ag (i+1,g',r) e'' (Nat.lt_succ_self _) ⟨mY hd,jv hd,a,b⟩ hr) e'
end
end
variable {X:Cx}{b:Frame}{ds:List Deferred}{h1:HF}{k:List Item}{s:Qs}
section
open Go.Proofs Go.Proofs.Tryz
theorem ty135:tySz prog 135=some (1,false):=kr
theorem ty239:tySz prog 239=some (1,false):=kr
theorem ty250:tySz prog 250=some (1,false):=kr
theorem ty285:tySz prog 285=some (2,true):=kr
theorem ty31:tySz prog 31=some (1,false):=kr
theorem ty296:tySz prog 296=some (1,false):=kr
theorem ty3:tySz prog 3=some (1,false):=kr
theorem zc285:zeroC prog 285=some [.int .i64 0,.int .i64 0]:=kr
theorem bytes285:bytesOf prog 285=some 16:=kr
theorem zc3:zeroC prog 3=some [.int .i64 0]:=kr
theorem bytes3:bytesOf prog 3=some 8:=kr
theorem zc37:zeroC prog 37=some [.int .i64 0]:=kr
theorem ty37:tySz prog 37=some (1,false):=kr
theorem zc313:zeroC prog 313=some [.int .i64 0]:=kr
theorem ty313:tySz prog 313=some (1,true):=kr
theorem Ox:fldOf prog 313 0=some 0:=kr
theorem ty207:tySz prog 207=some (2,true):=kr
theorem ty205:tySz prog 205=some (1,false):=kr
theorem ty204:tySz prog 204=some (1,false):=kr
theorem ty208:tySz prog 208=some (1,false):=kr
theorem ty54:tySz prog 54=some (7,true):=kr
theorem ty24:tySz prog 24=some (1,false):=kr
theorem ty4:tySz prog 4=some (1,false):=kr
theorem ty26:tySz prog 26=some (1,false):=kr
theorem ty98:tySz prog 98=some (1,false):=kr
theorem ty79:tySz prog 79=some (49,true):=kr
theorem zc207:zeroC prog 207=some [.slice none 0 0,.int .i64 0]:=kr
theorem zc54:zeroC prog 54=some [.int .i64 0,.int .i64 0,.int .i64 0,.int .i64 0,.int .i64 0,.bool false,.bool false]:=kr
theorem zc204:zeroC prog 204=some [.map none]:=kr
theorem zc135:zeroC prog 135=some [.map none]:=kr
theorem zc205:zeroC prog 205=some [.chan none]:=kr
theorem zc208:zeroC prog 208=some [.nilFunc]:=kr
theorem zc98:zeroC prog 98=some [.nilFunc]:=kr
theorem zc31:zeroC prog 31=some [.slice none 0 0]:=kr
theorem zc79:zeroC prog 79=some (.slice none 0 0::.slice none 0 0::.slice none 0 0::.slice none 0 0::.slice none 0 0::.slice none 0 0::.slice none 0 0::.int .i64 0::.int .i64 0::.int .i64 0::.int .i64 0::.int .i64 0::.int .i64 0::.slice none 0 0::.slice none 0 0::.slice none 0 0::.int .u8 0::.int .u8 0::.int .u8 0::.int .u8 0::.int .u8 0::.int .u8 0::.int .u8 0::.int .u8 0::.int .u8 0::.int .u8 0::.int .u8 0::.int .u8 0::.int .u8 0::.int .u8 0::.int .u8 0::.int .u8 0::.int .u8 0::.int .u8 0::.int .u8 0::.int .u8 0::.int .u8 0::.int .u8 0::.int .u8 0::.int .u8 0::.int .u8 0::.int .u8 0::.int .u8 0::.int .u8 0::.int .u8 0::.int .u8 0::.int .u8 0::.int .u8 0::.int .i64 0::[]):=kr
theorem zv4:zeroV prog 4=some (.bool false):=kr
theorem zv24:zeroV prog 24=some (.slice none 0 0):=kr
theorem zv207:zeroV prog 207=some (.agg (kB [.slice none 0 0,.int .i64 0])):=kr
theorem bytes54:bytesOf prog 54=some 48:=kr
theorem bytes207:bytesOf prog 207=some 32:=kr
theorem Oy:fldOf prog 207 0=some 0:=kr
theorem PN:fldOf prog 54 0=some 0:=kr
theorem LN:fldOf prog 54 3=some 3:=kr
theorem PM:fldOf prog 54 4=some 4:=kr
theorem OA:fldOf prog 149 1=some 1:=kr
theorem zc171:zeroC prog 171=some [.slice none 0 0,.map none,.slice none 0 0,.slice none 0 0,.slice none 0 0,.map none]:=kr
theorem ty112:tySz prog 112=some (1,false):=kr
theorem zc112:zeroC prog 112=some [.pointer none]:=kr
theorem ty169:tySz prog 169=some (1,false):=kr
theorem ty129:tySz prog 129=some (1,false):=kr
theorem ty167:tySz prog 167=some (2,true):=kr
theorem zc167:zeroC prog 167=some [.slice none 0 0,.map none]:=kr
theorem ty70:tySz prog 70=some (41,true):=kr
theorem zc70:zeroC prog 70=some (.int .i64 0::.int .i64 0::.int .i64 0::.int .i64 0::.int .i64 0::.int .i64 0::.slice none 0 0::.slice none 0 0::.slice none 0 0::.int .u8 0::.int .u8 0::.int .u8 0::.int .u8 0::.int .u8 0::.int .u8 0::.int .u8 0::.int .u8 0::.int .u8 0::.int .u8 0::.int .u8 0::.int .u8 0::.int .u8 0::.int .u8 0::.int .u8 0::.int .u8 0::.int .u8 0::.int .u8 0::.int .u8 0::.int .u8 0::.int .u8 0::.int .u8 0::.int .u8 0::.int .u8 0::.int .u8 0::.int .u8 0::.int .u8 0::.int .u8 0::.int .u8 0::.int .u8 0::.int .u8 0::.int .u8 0::[]):=kr
theorem ty165:tySz prog 165=some (1,false):=kr
theorem bytes4:bytesOf prog 4=some 1:=kr
theorem Oz:fldOf prog 171 3=some 4:=kr
theorem PI:fldOf prog 70 7=some 7:=kr
theorem HU:fldOf prog 70 8=some 8:=kr
theorem Be:fldOf prog 36 0=some 0:=kr
theorem LO:fldOf prog 36 1=some 1:=kr
theorem PP:fldOf prog 36 2=some 2:=kr
theorem Bd:fldOf prog 36 3=some 3:=kr
theorem DE:fldOf prog 74 0=some 0:=kr
theorem DD:fldOf prog 74 1=some 1:=kr
theorem ty36:tySz prog 36=some (4,true):=kr
theorem ty74:tySz prog 74=some (2,true):=kr
theorem ty33:tySz prog 33=some (1,false):=kr
theorem ty72:tySz prog 72=some (50,true):=kr
theorem ty25:tySz prog 25=some (1,false):=kr
theorem ty32:tySz prog 32=some (1,false):=kr
theorem ty94:tySz prog 94=some (10,true):=kr
theorem zc36:zeroC prog 36=some [.int .i64 0,.int .i64 0,.slice none 0 0,.slice none 0 0]:=kr
theorem zc74:zeroC prog 74=some [.int .i64 0,.nilFunc]:=kr
theorem zc72:zeroC prog 72=some (.slice none 0 0::.slice none 0 0::.slice none 0 0::.slice none 0 0::.slice none 0 0::.slice none 0 0::.slice none 0 0::.int .i64 0::.int .i64 0::.int .i64 0::.int .i64 0::.int .i64 0::.int .i64 0::.slice none 0 0::.slice none 0 0::.slice none 0 0::.int .u8 0::.int .u8 0::.int .u8 0::.int .u8 0::.int .u8 0::.int .u8 0::.int .u8 0::.int .u8 0::.int .u8 0::.int .u8 0::.int .u8 0::.int .u8 0::.int .u8 0::.int .u8 0::.int .u8 0::.int .u8 0::.int .u8 0::.int .u8 0::.int .u8 0::.int .u8 0::.int .u8 0::.int .u8 0::.int .u8 0::.int .u8 0::.int .u8 0::.int .u8 0::.int .u8 0::.int .u8 0::.int .u8 0::.int .u8 0::.int .u8 0::.int .u8 0::.int .i64 0::.int .i64 0::[]):=kr
theorem zc94:zeroC prog 94=some [.string (⟨#[]⟩:ByteArray),.slice none 0 0,.slice none 0 0,.slice none 0 0,.int .i64 0,.int .i64 0,.int .i64 0,.string (⟨#[]⟩:ByteArray),.slice none 0 0,.int .i64 0]:=kr
theorem zc4:zeroC prog 4=some [.bool false]:=kr
theorem LP:fldOf prog 30 3=some 3:=kr
theorem PR:fldOf prog 30 4=some 4:=kr
theorem PQ:fldOf prog 30 5=some 5:=kr
theorem PH:fldOf prog 72 0=some 0:=kr
theorem HT:fldOf prog 72 1=some 7:=kr
theorem PG:fldOf prog 72 2=some 48:=kr
theorem PF:fldOf prog 72 3=some 49:=kr
theorem PL:fldOf prog 70 1=some 1:=kr
theorem PK:fldOf prog 70 2=some 2:=kr
theorem PJ:fldOf prog 70 3=some 3:=kr
theorem PO:fldOf prog 49 2=some 2:=kr
theorem ty49:tySz prog 49=some (7,true):=kr
theorem zc49:zeroC prog 49=some [.int .i64 0,.int .i64 0,.int .i64 0,.int .i64 0,.int .i64 0,.int .i64 0,.bool false]:=kr
theorem ty157:tySz prog 157=some (10,true):=kr
theorem zc157:zeroC prog 157=some [.int .i64 0,.int .i64 0,.int .i64 0,.int .i64 0,.int .i64 0,.int .i64 0,.int .i64 0,.int .i64 0,.int .i64 0,.bool false]:=kr
theorem ty120:tySz prog 120=some (8,true):=kr
theorem zc120:zeroC prog 120=some [.int .i64 0,.int .i64 0,.int .i64 0,.int .i64 0,.int .i64 0,.int .i64 0,.int .i64 0,.bool false]:=kr
theorem ty88:tySz prog 88=some (5,true):=kr
theorem zc278:zeroC prog 278=some [.int .i64 0,.int .i64 0,.int .i64 0,.string (⟨#[]⟩:ByteArray),.slice none 0 0,.int .i64 0]:=kr
theorem ty86:tySz prog 86=some (1,false):=kr
theorem zc88:zeroC prog 88=some [.int .i64 0,.int .i64 0,.int .i64 0,.string (⟨#[]⟩:ByteArray),.slice none 0 0]:=kr
theorem ty278:tySz prog 278=some (6,true):=kr
theorem ty92:tySz prog 92=some (1,false):=kr
theorem ty91:tySz prog 91=some (8,true):=kr
theorem zc91:zeroC prog 91=some [.string (⟨#[]⟩:ByteArray),.int .i64 0,.int .i64 0,.int .i64 0,.int .i64 0,.int .i64 0,.string (⟨#[]⟩:ByteArray),.slice none 0 0]:=kr
theorem PD:fldOf prog 91 3=some 3:=kr
theorem bytes88:bytesOf prog 88=some 64:=kr
theorem ty89:tySz prog 89=some (1,false):=kr
theorem ty9:tySz prog 9=some (1,false):=kr
theorem PE:fldOf prog 91 2=some 2:=kr
theorem zc86:zeroC prog 86=some [.slice none 0 0]:=kr
theorem ty217:tySz prog 217=some (1,false):=kr
theorem bytes91:bytesOf prog 91=some 96:=kr
theorem ty96:tySz prog 96=some (13,true):=kr
theorem zc96:zeroC prog 96=some [.int .i64 0,.int .i64 0,.int .i64 0,.string (⟨#[]⟩:ByteArray),.slice none 0 0,.slice none 0 0,.slice none 0 0,.int .i64 0,.int .i64 0,.int .i64 0,.string (⟨#[]⟩:ByteArray),.slice none 0 0,.int .i64 0]:=kr
theorem LM:fldOf prog 96 3=some 3:=kr
theorem zv3:zeroV prog 3=some (.int .i64 0):=kr
theorem ty163:tySz prog 163=some (8,true):=kr
theorem zc163:zeroC prog 163=some [.int .i64 0,.int .i64 0,.int .i64 0,.int .i64 0,.int .i64 0,.int .i64 0,.int .i64 0,.bool false]:=kr
theorem ty22:tySz prog 22=some (1,false):=kr
theorem ty23:tySz prog 23=some (1,false):=kr
theorem ty27:tySz prog 27=some (1,false):=kr
theorem ty28:tySz prog 28=some (1,false):=kr
theorem ty30:tySz prog 30=some (7,true):=kr
theorem zc51:zeroC prog 51=some [.int .i64 0,.int .i64 0]:=kr
theorem zv192:zeroV prog 192=some (.nilFunc):=kr
theorem ty256:tySz prog 256=some (1,false):=kr
theorem zc258:zeroC prog 258=some [.int .i64 0,.int .i64 0,.bool false]:=kr
theorem zv54:zeroV prog 54=some (.agg (kB [.int .i64 0,.int .i64 0,.int .i64 0,.int .i64 0,.int .i64 0,.bool false,.bool false])):=kr
theorem eqg54:prog.eqGuardType prog.depth 54=false:=kr
theorem zc256:zeroC prog 256=some [.map none]:=kr
theorem ty258:tySz prog 258=some (3,true):=kr
theorem zv96:zeroV prog 96=some (.agg (kB [.int .i64 0,.int .i64 0,.int .i64 0,.string (⟨#[]⟩:ByteArray),.slice none 0 0,.slice none 0 0,.slice none 0 0,.int .i64 0,.int .i64 0,.int .i64 0,.string (⟨#[]⟩:ByteArray),.slice none 0 0,.int .i64 0])):=kr
theorem zc26:zeroC prog 26=some [.slice none 0 0]:=kr
theorem bytes96:bytesOf prog 96=some 184:=kr
theorem bytes94:bytesOf prog 94=some 160:=kr
theorem ty147:tySz prog 147=some (1,false):=kr
theorem ty149:tySz prog 149=some (2,true):=kr
theorem zc149:zeroC prog 149=some [.int .i64 0,.int .i64 0]:=kr
theorem ty145:tySz prog 145=some (1,false):=kr
theorem ty216:tySz prog 216=some (3,true):=kr
theorem zc306:zeroC prog 306=some [.nilFunc]:=kr
theorem ty306:tySz prog 306=some (1,false):=kr
theorem zc261:zeroC prog 261=some [.nilFunc,.nilFunc,.nilFunc,.nilFunc,.nilFunc]:=kr
theorem ty260:tySz prog 260=some (1,false):=kr
theorem ty261:tySz prog 261=some (5,true):=kr
theorem zc216:zeroC prog 216=some [.int .i64 0,.slice none 0 0,.slice none 0 0]:=kr
theorem bytes149:bytesOf prog 149=some 16:=kr
theorem zv49:zeroV prog 49=some (.agg (kB [.int .i64 0,.int .i64 0,.int .i64 0,.int .i64 0,.int .i64 0,.int .i64 0,.bool false])):=kr
theorem zc147:zeroC prog 147=some [.slice none 0 0]:=kr
theorem bytes147:bytesOf prog 147=some 24:=kr
theorem zc40:zeroC prog 40=some [.slice none 0 0]:=kr
theorem ty40:tySz prog 40=some (1,false):=kr
theorem ty51:tySz prog 51=some (2,true):=kr
theorem bytes51:bytesOf prog 51=some 16:=kr
theorem zc30:zeroC prog 30=some [.slice none 0 0,.slice none 0 0,.slice none 0 0,.slice none 0 0,.slice none 0 0,.slice none 0 0,.slice none 0 0]:=kr
theorem zc9:zeroC prog 9=some [.string (⟨#[]⟩:ByteArray)]:=kr
theorem eqg51:prog.eqGuardType prog.depth 51=false:=kr
theorem zv31:zeroV prog 31=some (.slice none 0 0):=kr
theorem ty178:tySz prog 178=some (5,true):=kr
theorem zc178:zeroC prog 178=some [.int .i64 0,.int .i64 0,.int .i64 0,.int .i64 0,.int .i64 0]:=kr
theorem zc181:zeroC prog 181=some [.int .i64 0,.int .i64 0]:=kr
theorem ty181:tySz prog 181=some (2,true):=kr
theorem zv120:zeroV prog 120=some (.agg (kB [.int .i64 0,.int .i64 0,.int .i64 0,.int .i64 0,.int .i64 0,.int .i64 0,.int .i64 0,.bool false])):=kr
theorem eqg120:prog.eqGuardType prog.depth 120=false:=kr
theorem bytes120:bytesOf prog 120=some 64:=kr
theorem zc328:zeroC prog 328=some [.int .i64 0,.int .i64 0,.int .i64 0,.int .i64 0]:=kr
theorem ty328:tySz prog 328=some (4,true):=kr
theorem zc28:zeroC prog 28=some [.slice none 0 0]:=kr
theorem zc324:zeroC prog 324=some [.map none]:=kr
theorem ty324:tySz prog 324=some (1,false):=kr
theorem zv163:zeroV prog 163=some (.agg (kB [.int .i64 0,.int .i64 0,.int .i64 0,.int .i64 0,.int .i64 0,.int .i64 0,.int .i64 0,.bool false])):=kr
theorem eqg163:prog.eqGuardType prog.depth 163=false:=kr
theorem bytes163:bytesOf prog 163=some 64:=kr
theorem bytes157:bytesOf prog 157=some 80:=kr
theorem ty331:tySz prog 331=some (1,false):=kr
theorem zc333:zeroC prog 333=some [.int .i64 0,.int .i64 0,.int .i64 0,.int .i64 0]:=kr
theorem zv157:zeroV prog 157=some (.agg (kB [.int .i64 0,.int .i64 0,.int .i64 0,.int .i64 0,.int .i64 0,.int .i64 0,.int .i64 0,.int .i64 0,.int .i64 0,.bool false])):=kr
theorem eqg157:prog.eqGuardType prog.depth 157=false:=kr
theorem ty155:tySz prog 155=some (1,false):=kr
theorem ty287:tySz prog 287=some (5,true):=kr
theorem zc155:zeroC prog 155=some [.nilFunc]:=kr
theorem zc331:zeroC prog 331=some [.map none]:=kr
theorem ty333:tySz prog 333=some (4,true):=kr
theorem zc287:zeroC prog 287=some [.int .i64 0,.int .i64 0,.int .i64 0,.int .i64 0,.int .i64 0]:=kr
def uw(x:gq)(h:HF)(vs:List Go.Value):Prop:=∃(r0:Ch),vs=[.agg (gq.cells x r0).toArray]/\gq.ok h x r0
theorem oc(x:gq)(h:HF)(vs:List Go.Value)(e:uw x h vs):vs.length=1:=by
 obtain⟨_,e,_⟩:=e;rw[e];rfl
def xa(x:(Int×Int))(h:HF)(vs:List Go.Value):Prop:=vs=[.int .i64 x.1,.int .i64 x.2]
theorem Dk(x:(Int×Int))(h:HF)(vs:List Go.Value)(e:xa x h vs):vs.length=2:=by
 rw[e];rfl
def yg(x:Int)(h:HF)(vs:List Go.Value):Prop:=vs=[.int .i64 x]
theorem CE(x:Int)(h:HF)(vs:List Go.Value)(e:yg x h vs):vs.length=1:=by
 rw[e];rfl
def EI(x:Span)(h:HF)(vs:List Go.Value):Prop:=vs=[.agg (Sk x).toArray]
theorem HK(x:Span)(h:HF)(vs:List Go.Value)(e:EI x h vs):vs.length=1:=by
 rw[e];rfl
def ve(x:Interest)(h:HF)(vs:List Go.Value):Prop:=vs=[.agg (jD x).toArray]
theorem BV(x:Interest)(h:HF)(vs:List Go.Value)(e:ve x h vs):vs.length=1:=by
 rw[e];rfl
def rk(x:(Int×Version))(h:HF)(vs:List Go.Value):Prop:=∃(r0:pE),vs=[.int .i64 x.1,.agg (Version.cells x.2 r0).toArray]/\Version.ok h x.2 r0
theorem yA(x:(Int×Version))(h:HF)(vs:List Go.Value)(e:rk x h vs):vs.length=2:=by
 obtain⟨_,e,_⟩:=e;rw[e];rfl
def oE(x:Holder)(h:HF)(vs:List Go.Value):Prop:=vs=[.agg (Holder.cells x).toArray]
theorem sC(x:Holder)(h:HF)(vs:List Go.Value)(e:oE x h vs):vs.length=1:=by
 rw[e];rfl
def pk(x:Approval)(h:HF)(vs:List Go.Value):Prop:=vs=[.agg (zD x).toArray]
theorem qb(x:Approval)(h:HF)(vs:List Go.Value)(e:pk x h vs):vs.length=1:=by
 rw[e];rfl
def sD(x:Deputy)(h:HF)(vs:List Go.Value):Prop:=vs=[.agg (kM x).toArray]
theorem EJ(x:Deputy)(h:HF)(vs:List Go.Value)(e:sD x h vs):vs.length=1:=by
 rw[e];rfl
theorem OD(a b:Span)(w:World):(Op.equal 51 (Span.enc a) (Span.enc b)).run prog w=.ok (decide (a=b)) w:=
 qe Gg (by kernel_rfl) (by kernel_rfl) (by rw[vN];cases a;cases b;simp[eqv,nth,Sk]) w
theorem HV(a b:Interest)(w:World):(Op.equal 54 (Interest.enc a) (Interest.enc b)).run prog w=.ok (decide (a=b)) w:=
 qe Nj (by kernel_rfl) (by kernel_rfl) (by rw[vN];cases a;cases b;simp[eqv,nth,jD]) w
theorem KD(a b:Budget)(w:World):(Op.equal 120 (Budget.enc a) (Budget.enc b)).run prog w=.ok (decide (a=b)) w:=
 qe underlying120 (by kernel_rfl) (by kernel_rfl) (by rw[vN];cases a;cases b;simp[eqv,nth,Budget.cells]) w
theorem KC(a b:Deputy)(w:World):(Op.equal 157 (Deputy.enc a) (Deputy.enc b)).run prog w=.ok (decide (a=b)) w:=
 qe underlying157 (by kernel_rfl) (by kernel_rfl) (by rw[vN];cases a;cases b;simp[eqv,nth,kM]) w
theorem HY(a b:Approval)(w:World):(Op.equal 163 (Approval.enc a) (Approval.enc b)).run prog w=.ok (decide (a=b)) w:=
 qe underlying163 (by kernel_rfl) (by kernel_rfl) (by rw[vN];cases a;cases b;simp[eqv,nth,zD]) w
theorem KE(a b:gC)(w:World):(Op.equal 181 (gC.enc a) (gC.enc b)).run prog w=.ok (decide (a=b)) w:=
 qe La (by kernel_rfl) (by kernel_rfl) (by rw[vN];cases a;cases b;simp[eqv,nth,gC.cells]) w
theorem wZ:vp prog 181 gC.enc:=wY La (λe a w=>sf e La (by kernel_rfl) w) KE (λa=>by
 show Instr.sameBits (9999+1) _ _=true
 simp[Instr.sameBits,gC.enc,gC.cells])
theorem HW(a b:dL)(w:World):(Op.equal 258 (dL.enc a) (dL.enc b)).run prog w=.ok (decide (a=b)) w:=
 qe K9 (by kernel_rfl) (by kernel_rfl) (by rw[vN];cases a;cases b;simp[eqv,nth,dL.cells]) w
theorem ue:vp prog 258 dL.enc:=wY K9 (λe a w=>sf e K9 (by kernel_rfl) w) HW (λa=>by
 show Instr.sameBits (9999+1) _ _=true
 simp[Instr.sameBits,dL.enc,dL.cells])
theorem MG(a b:OSeat)(w:World):(Op.equal 285 (R4 a) (R4 b)).run prog w=.ok (decide (a=b)) w:=
 qe Ir (by kernel_rfl) (by kernel_rfl) (by rw[vN];cases a;cases b;simp[eqv,nth,kE]) w
theorem uX:vp prog 285 R4:=wY Ir (λe a w=>sf e Ir (by kernel_rfl) w) MG (λa=>by
 show Instr.sameBits (9999+1) _ _=true
 simp[Instr.sameBits,R4,kE])
theorem HZ(a b:fe)(w:World):(Op.equal 328 (fe.enc a) (fe.enc b)).run prog w=.ok (decide (a=b)) w:=
 qe Ni (by kernel_rfl) (by kernel_rfl) (by rw[vN];cases a;cases b;simp[eqv,nth,fe.cells]) w
theorem mh:vp prog 328 fe.enc:=wY Ni (λe a w=>sf e Ni (by kernel_rfl) w) HZ (λa=>by
 show Instr.sameBits (9999+1) _ _=true
 simp[Instr.sameBits,fe.enc,fe.cells])
theorem HX(a b:em)(w:World):(Op.equal 333 (em.enc a) (em.enc b)).run prog w=.ok (decide (a=b)) w:=
 qe K8 (by kernel_rfl) (by kernel_rfl) (by rw[vN];cases a;cases b;simp[eqv,nth,em.cells]) w
theorem uf:vp prog 333 em.enc:=wY K8 (λe a w=>sf e K8 (by kernel_rfl) w) HX (λa=>by
 show Instr.sameBits (9999+1) _ _=true
 simp[Instr.sameBits,em.enc,em.cells])
def tabF:List (Nat×Nat×Nat):=(313,0,0)::(207,0,0)::(207,1,1)::(54,0,0)::(54,3,3)::(54,4,4)::(54,5,5)::(149,1,1)::(171,0,0)::(171,1,2)::(171,2,3)::(171,3,4)::(171,4,5)::(167,0,0)::(167,1,1)::(70,0,0)::(70,7,7)::(70,8,8)::(36,0,0)::(36,1,1)::(36,2,2)::(36,3,3)::(74,0,0)::(74,1,1)::(30,3,3)::(30,4,4)::(30,5,5)::(72,0,0)::(72,1,7)::(72,2,48)::(72,3,49)::(70,1,1)::(70,2,2)::(70,3,3)::(49,6,6)::(49,0,0)::(49,1,1)::(49,2,2)::(49,3,3)::(49,4,4)::(49,5,5)::(157,0,0)::(157,1,1)::(157,2,2)::(157,4,4)::(157,5,5)::(157,6,6)::(157,7,7)::(157,9,9)::(157,3,3)::(157,8,8)::(54,1,1)::(54,2,2)::(120,7,7)::(120,0,0)::(120,1,1)::(120,2,2)::(120,3,3)::(120,4,4)::(120,5,5)::(120,6,6)::(88,4,4)::(94,3,3)::(91,3,3)::(94,4,4)::(94,2,2)::(94,1,1)::(278,1,5)::(88,0,0)::(94,0,0)::(278,0,0)::(88,3,3)::(88,1,1)::(94,5,9)::(91,0,0)::(91,2,2)::(88,2,2)::(91,1,1)::(96,0,0)::(96,1,1)::(96,2,2)::(96,3,3)::(70,4,4)::(70,5,5)::(70,6,6)::(163,0,0)::(163,1,1)::(163,2,2)::(163,3,3)::(163,4,4)::(163,5,5)::(163,6,6)::(30,0,0)::(30,1,1)::(30,2,2)::(30,6,6)::(79,1,7)::(79,0,0)::(54,6,6)::(79,2,48)::(149,0,0)::(216,1,1)::(216,2,2)::(216,0,0)::(285,1,1)::(285,0,0)::(51,0,0)::(51,1,1)::(178,0,0)::(178,1,1)::(178,2,2)::(178,3,3)::(178,4,4)::(163,7,7)::(287,0,0)::(287,1,1)::(287,2,2)::(287,3,3)::(287,4,4)::[]
def tabY:List Nat:=135::239::250::31::296::3::37::205::204::208::24::4::26::98::112::169::129::165::33::25::32::320::86::92::89::9::217::22::23::27::28::256::147::145::306::260::40::324::331::155::[]
def tabS:List Nat:=22::23::24::25::26::27::28::31::32::40::77::86::89::92::110::129::141::145::147::296::[]
theorem tabs:tabOk prog tabF tabY tabS=true:=kr
theorem qK(m:Nat)(is:List Nat){n:Nat}{F:List Frame->(Machine->Prop)->Prop}{L:LH}{q:List (Nat×Nat)}(hr:runL tabF tabY tabS n L m is (.tt k e)=some (s,q))(t:s.holds prog b n F ds X h L)(hq:PU q:=by repeat (first|exact trivial|refine⟨rfl,?_⟩)):TT prog b n k F e ds X h L:=rG tabs m is _ hr hq t
theorem qL(m:Nat)(is:List Nat){n:Nat}{F:List Frame->(Machine->Prop)->Prop}{L:LH}{q:List (Nat×Nat)}(hr:runL tabF tabY tabS n L m is (.to ops l k e)=some (s,q))(t:s.holds prog b n F ds X h L)(hq:PU q:=by repeat (first|exact trivial|refine⟨rfl,?_⟩)):TO prog b n ops l k F e ds X h L:=rG tabs m is _ hr hq t
theorem tabsF:(tabF.all λx=>fldOf prog x.1 x.2.1==some x.2.2)=true:=kr
theorem qB(is:List Nat){m:Nat}{n:Nat}{F:List Frame->(Machine->Prop)->Prop}{L:LH}(hr:runB tabF l is m dn e=some (m',dn',e'))(t:TA prog b n l.toArray k F ds X (Jst h1 K) m' dn' e' h L)(hsep:sepAll l.toArray=true:=by assumption)(hJ:Jst h1 K h L:=by exact jn)(hn:allNext l is dn=true:=by kernel_rfl):TA prog b n l.toArray k F ds X (Jst h1 K) m dn e h L:=Dv tabsF hsep hJ is m dn e hr hn t
theorem qD(a c:Nat){m:Nat}{n:Nat}{F:List Frame->(Machine->Prop)->Prop}{L:LH}(hr:runB tabF l (List.range' a c) m dn e=some (m',dn',e'))(t:TA prog b n l.toArray k F ds X (Jst h1 K) m' dn' e' h L)(hsep:sepAll l.toArray=true:=by assumption)(hJ:Jst h1 K h L:=by exact jn)(hn:allNext l (List.range' a c) dn=true:=by kernel_rfl):TA prog b n l.toArray k F ds X (Jst h1 K) m dn e h L:=Dv tabsF hsep hJ _ m dn e hr hn t
theorem mixed:prog.follows .mixedOrders=true:=kr
end
section
open Go.Proofs Go.Proofs.Tryz
set_option maxHeartbeats 2000000
theorem j6(h:HF)(eS:Int)(low:Int)(high:Int)  : Ret prog 166 [I eS,I low,I high] h (.bool (dT eS low high)):=by
 refine sT func166 U ntmps166 U λX hM hX hF=>?_
 have hs0:=@rfl _ (dT eS low high)
 refine qT 10 U (bD 4 [10,11,12,13,14] 10 14 (decide (eS<=high)) U (λc1 hk1=>?_) (λe=>?_))
 .exact ao (qO 3 U (hk1 _ U))
 exact an (nretP [.bool (decide (low<=eS)&&decide (eS<=high))] (cs hs0))
theorem jh(h:HF)(eS:Int)  : Ret prog 167 [I eS] h (.bool (cZ eS)):=by
 refine sT func167 U ntmps167 U λX hM hX hF=>?_
 have hs0:=@rfl _ (cZ eS)
 exact sr (qO 5 U (ai Ge (j6 h eS 0 1099511627775) U (an (nretP [.bool (dT eS 0 1099511627775)] (cs hs0)))))
theorem mt(h:HF)(eS:Int)  : Ret prog 168 [I eS] h (.bool (fo eS)):=by
 refine sT func168 U ntmps168 U λX hM hX hF=>?_
 have hs0:=@rfl _ (fo eS)
 exact sr (qO 5 U (ai Ge (j6 h eS 0 31) U (an (nretP [.bool (dT eS 0 31)] (cs hs0)))))
theorem nZ(h:HF)(eS:Int)  : Ret prog 169 [I eS] h (.bool (gh eS)):=by
 refine sT func169 U ntmps169 U λX hM hX hF=>?_
 have hs0:=@rfl _ (gh eS)
 exact sr (qO 5 U (ai Ge (j6 h eS 0 63) U (an (nretP [.bool (dT eS 0 63)] (cs hs0)))))
theorem BO(h:HF)(x:Appoint)  : Ret prog 97 [.agg (xP x).toArray] h (.bool (oa x)):=by
 refine sT func97 U ntmps97 U λX hM hX hF=>?_
 have hs0:=@rfl _ (oa x)
 refine sr (ct (λb1=>qL 13 [0] U (ae hs0 U (λc1 hs1=>?_) (λc1 hs2=>?_))))
 .refine qK 8 [0] U (ai Ge (j6 h x.No 0 1048576) U (ao (bD 4 [10,11,12,13,14] 10 14 (cZ x.At) U (λc2 hk1=>?_) (λe=>?_))))
  .exact qL 2 [0] U (ai DI (jh h x.At) U (eM U (hk1 _ U)))
  refine ao (bD 4 [15,16,17,18,19] 15 19 (cZ x.Known) U (λc3 hk2=>?_) (λe=>?_))
  .exact qL 2 [0] U (ai DI (jh h x.Known) U (eM U (hk2 _ U)))
  refine ao (bD 4 [20,21,22,23,24] 20 24 (fo x.Office) U (λc4 hk3=>?_) (λe=>?_))
  .exact qL 2 [0] U (ai Nh (mt h x.Office) U (eM U (hk3 _ U)))
  refine ao (bD 4 [25,26,27,28,29] 25 29 (gh x.Person) U (λc5 hk4=>?_) (λe=>?_))
  .exact qL 2 [0] U (ai call169 (nZ h x.Person) U (eM U (hk4 _ U)))
  refine ao (bD 6 [30,31,32,33,34,35,36] 30 36 (dT x.Weight 0 0) U (λc6 hk5=>?_) (λe=>?_))
  .exact qL 4 [0] U (ai Ge (j6 h x.Weight 0 0) U (eM U (hk5 _ U)))
  exact an (nretP [.bool ((((((dT x.No 0 1048576)&&(cZ x.At))&&(cZ x.Known))&&(fo x.Office))&&(gh x.Person))&&(dT x.Weight 0 0))] (cs hs1))
 refine qK 5 [0] U (ai Ge (j6 h x.No 0 1048576) U (ao (bD 4 [10,11,12,13,14] 10 14 (cZ x.At) U (λc7 hk6=>?_) (λe=>?_))))
 .exact qL 2 [0] U (ai DI (jh h x.At) U (eM U (hk6 _ U)))
 refine ao (bD 4 [15,16,17,18,19] 15 19 (cZ x.Known) U (λc8 hk7=>?_) (λe=>?_))
 .exact qL 2 [0] U (ai DI (jh h x.Known) U (eM U (hk7 _ U)))
 refine ao (bD 4 [20,21,22,23,24] 20 24 (fo x.Office) U (λc9 hk8=>?_) (λe=>?_))
 .exact qL 2 [0] U (ai Nh (mt h x.Office) U (eM U (hk8 _ U)))
 refine ao (bD 4 [25,26,27,28,29] 25 29 (gh x.Person) U (λc10 hk9=>?_) (λe=>?_))
 .exact qL 2 [0] U (ai call169 (nZ h x.Person) U (eM U (hk9 _ U)))
 refine ao (bD 6 [30,31,32,33,34,35,36] 30 36 (dT x.Weight 1 64) U (λc11 hk10=>?_) (λe=>?_))
 .exact qL 4 [0] U (ai Ge (j6 h x.Weight 1 64) U (eM U (hk10 _ U)))
 exact an (nretP [.bool ((((((dT x.No 0 1048576)&&(cZ x.At))&&(cZ x.Known))&&(fo x.Office))&&(gh x.Person))&&(dT x.Weight 1 64))] (cs hs2))
theorem pY(h:HF)(l:List Appoint)(fq:Option Addr)(fp:Nat)(hl:SlC kR h fq fp l):Ret prog 48 [.slice fq l.length fp] h (I (dq l)):=by
 refine sT func48 U ntmps48 U λX hM hX hF=>?_
 have hs0:=@rfl _ (dq l)
 refine qK 11 [] U (ae hs0 U (λc1 hs1=>?_) (λc1 hs2=>?_))
 .have c1p:=of_decide_eq_true c1
  exact sr (an (nretP [I 2] (ci hs1)))
 have c1p:=of_decide_eq_false c1
 refine qK 12 [] U ?_
 refine lp1 l (λi w=>[(3,I w),(9,.slice fq l.length fp),(10,I (l.length:Int)),(11,I (i:Int))]) ([]) (λs1 i w=>(dq.L1 (dq.K1)) s1 w) (-1) hl.1.1 hs2 ?_ ?_
 .rintro i1 gZ fB hs4 e
  exact sr (an (nretP [I 0] (ci hs4)))
 rintro i1 gZ y1 rz1 hd1 du bo eA gD hs6 hx1 ag1 e
 refine sr (tO du U (qO 8 U (aw (iF xP Cn ty49 hl.1 bo U U U (λq2 A2=>dl ty49 A2 U U (aU zc49 (λb2=>aR 0 ty49 U U U U U U (qO 4 U (cI 0 ty49 U U U (ai call97 (BO h y1) U (qO 2 U (cn 5 [18,19,20,21,22,23] 18 23 (decide (y1.No<=gZ)) U (λc2 hk1=>?_) (λe=>?_)))))))))))))
 .exact qL 5 [0] U (hk1 _ U)
 refine aH (ae hs6 U (λc3 hs7=>?_) (λc3 hs8=>?_))
 .exact sr (an (nretP [I 150] (ci hs7)))
 exact qK 8 [0] U (oi i1 U (qO 2 U (bj (L':=[]) js (ag1 y1.No hs8))))
theorem ir(h:HF)(eS:Int)(low:Int)(high:Int)  : Ret prog 170 [I eS,I low,I high] h (.bool (di eS low high)):=by
 refine sT func170 U ntmps170 U λX hM hX hF=>?_
 have hs0:=@rfl _ (di eS low high)
 refine qT 10 U (bD 4 [10,11,12,13,14] 10 14 (decide (eS<=high)) U (λc1 hk1=>?_) (λe=>?_))
 .exact ao (qO 3 U (hk1 _ U))
 exact an (nretP [.bool (decide (low<=eS)&&decide (eS<=high))] (cs hs0))
theorem mZ(h:HF)(eS:Int)  : Ret prog 171 [I eS] h (.bool (gu eS)):=by
 refine sT func171 U ntmps171 U λX hM hX hF=>?_
 have hs0:=@rfl _ (gu eS)
 exact sr (qO 5 U (ai Cm (ir h eS 0 1099511627775) U (an (nretP [.bool (di eS 0 1099511627775)] (cs hs0)))))
theorem mb(h:HF)(eS:Int)  : Ret prog 172 [I eS] h (.bool (gi eS)):=by
 refine sT func172 U ntmps172 U λX hM hX hF=>?_
 have hs0:=@rfl _ (gi eS)
 exact sr (qO 5 U (ai Cm (ir h eS 0 63) U (an (nretP [.bool (di eS 0 63)] (cs hs0)))))
theorem Bg(h:HF)(x:Deputy)  : Ret prog 98 [.agg (kM x).toArray] h (.bool (nJ x)):=by
 refine sT func98 U ntmps98 U λX hM hX hF=>?_
 have hs0:=@rfl _ (nJ x)
 refine sr (ct (λb1=>qL 7 [0] U (ai Cm (ir h x.No 0 1048576) U (qO 2 U (cn 5 [7,8,9,10,11,12] 7 12 (!(gu x.At)) U (λc1 hk1=>?_) (λe=>?_))))))
 .exact qL 2 [0] U (ai Ng (mZ h x.At) U (qO 2 U (hk1 _ U)))
 refine ao (cn 5 [13,14,15,16,17,18] 13 18 (!(gu x.Known)) U (λc2 hk2=>?_) (λe=>?_))
 .exact qL 2 [0] U (ai Ng (mZ h x.Known) U (qO 2 U (hk2 _ U)))
 refine ao (cn 5 [19,20,21,22,23,24] 19 24 (!(gi x.From)) U (λc3 hk3=>?_) (λe=>?_))
 .exact qL 2 [0] U (ai Nf (mb h x.From) U (qO 2 U (hk3 _ U)))
 refine ao (cn 5 [25,26,27,28,29,30] 25 30 (!(gi x.To)) U (λc4 hk4=>?_) (λe=>?_))
 .exact qL 2 [0] U (ai Nf (mb h x.To) U (qO 2 U (hk4 _ U)))
 refine ao (cn 6 [31,32,33,34,35,36,37] 31 37 (x.From==x.To) U (λc5 hk5=>?_) (λe=>?_))
 .exact qL 6 [0,0] U (hk5 _ U)
 refine ao (cn 5 [38,39,40,41,42,43] 38 43 (!(di x.Office 0 31)) U (λc6 hk6=>?_) (λe=>?_))
 .exact qL 2 [0] U (ai Cm (ir h x.Office 0 31) U (qO 2 U (hk6 _ U)))
 refine ao (cn 5 [44,45,46,47,48,49] 44 49 (!(di x.Kind (-1) 15)) U (λc7 hk7=>?_) (λe=>?_))
 .exact qL 2 [0] U (ai Cm (ir h x.Kind (-1) 15) U (qO 2 U (hk7 _ U)))
 refine aH (ae hs0 U (λc8 hs1=>?_) (λc8 hs2=>?_))
 .exact sr (an (nretP [.bool false] (cs hs1)))
 refine qK 7 [0] U (ae hs2 U (λc9 hs4=>?_) (λc9 hs5=>?_))
 .refine qK 6 [0] U (bD 4 [55,56,57,58,59] 55 59 (x.Most==0) U (λc10 hk8=>?_) (λe=>?_))
  .exact qL 4 [0] U (hk8 _ U)
  exact an (nretP [.bool ((x.Until==0)&&(x.Most==0))] (cs hs4))
 refine qK 9 [0,0] U (bD 4 [65,66,67,68,69] 65 69 (decide (x.Until<=1099511627776)) U (λc11 hk9=>?_) (λe=>?_))
 .exact qL 4 [0] U (hk9 _ U)
 refine ao (bD 4 [70,71,72,73,74] 70 74 (di x.Most 0 1099511627776) U (λc12 hk10=>?_) (λe=>?_))
 .exact qL 2 [0] U (ai Cm (ir h x.Most 0 1099511627776) U (eM U (hk10 _ U)))
 exact an (nretP [.bool ((decide (x.At<x.Until)&&decide (x.Until<=1099511627776))&&(di x.Most 0 1099511627776))] (cs hs5))
theorem tK(h:HF)(l:List Deputy)(fq:Option Addr)(fp:Nat)(hl:SlC Sr h fq fp l):Ret prog 49 [.slice fq l.length fp] h (I (dH l)):=by
 refine sT func49 U ntmps49 U λX hM hX hF=>?_
 have hs0:=@rfl _ (dH l)
 refine qK 11 [] U (ae hs0 U (λc1 hs1=>?_) (λc1 hs2=>?_))
 .have c1p:=of_decide_eq_true c1
  exact sr (an (nretP [I 2] (ci hs1)))
 have c1p:=of_decide_eq_false c1
 refine qK 12 [] U ?_
 refine lp1 l (λi w=>[(3,I w),(9,.slice fq l.length fp),(10,I (l.length:Int)),(11,I (i:Int))]) ([]) (λs1 i w=>(dH.L1 (dH.K1)) s1 w) (-1) hl.1.1 hs2 ?_ ?_
 .rintro i1 gZ fB hs4 e
  exact sr (an (nretP [I 0] (ci hs4)))
 rintro i1 gZ y1 rz1 hd1 du bo eA gD hs6 hx1 ag1 e
 refine sr (tO du U (qO 8 U (aw (iF kM yF ty157 hl.1 bo U U U (λq2 A2=>dl ty157 A2 U U (aU zc157 (λb2=>aR 0 ty157 U U U U U U (qO 4 U (cI 0 ty157 U U U (ai call98 (Bg h y1) U (qO 2 U (cn 5 [18,19,20,21,22,23] 18 23 (decide (y1.No<=gZ)) U (λc2 hk1=>?_) (λe=>?_)))))))))))))
 .exact qL 5 [0] U (hk1 _ U)
 refine aH (ae hs6 U (λc3 hs7=>?_) (λc3 hs8=>?_))
 .exact sr (an (nretP [I 160] (ci hs7)))
 exact qK 8 [0] U (oi i1 U (qO 2 U (bj (L':=[]) js (ag1 y1.No hs8))))
theorem gQ(h:HF)(eS:Int)(limit:Int)  : Ret prog 173 [I eS,I limit] h (.bool (bA eS limit)):=by
 refine sT func173 U ntmps173 U λX hM hX hF=>?_
 have hs0:=@rfl _ (bA eS limit)
 refine qT 9 U (bD 4 [7,8,9,10,11] 7 11 (decide (eS<limit)) U (λc1 hk1=>?_) (λe=>?_))
 .exact ao (qO 3 U (hk1 _ U))
 exact an (nretP [.bool (decide (0<=eS)&&decide (eS<limit))] (cs hs0))
theorem zI(h:HF)(x:Interest)  : Ret prog 99 [.agg (jD x).toArray] h (.bool (m5 x)):=by
 refine sT func99 U ntmps99 U λX hM hX hF=>?_
 have hs0:=@rfl _ (m5 x)
 refine sr (ct (λb1=>qL 6 [0] U (ai Cl (gQ h x.No 1048577) U (ao (bD 4 [7,8,9,10,11] 7 11 (bA x.At 1099511627776) U (λc1 hk1=>?_) (λe=>?_))))))
 .exact qL 2 [0] U (ai Cl (gQ h x.At 1099511627776) U (eM U (hk1 _ U)))
 refine ao (bD 4 [12,13,14,15,16] 12 16 (bA x.Known 1099511627776) U (λc2 hk2=>?_) (λe=>?_))
 .exact qL 2 [0] U (ai Cl (gQ h x.Known 1099511627776) U (eM U (hk2 _ U)))
 refine ao (bD 4 [17,18,19,20,21] 17 21 (bA x.Party 1048577) U (λc3 hk3=>?_) (λe=>?_))
 .exact qL 2 [0] U (ai Cl (gQ h x.Party 1048577) U (eM U (hk3 _ U)))
 refine qL 8 [0] U (ae hs0 U (λc4 hs1=>?_) (λc4 hs2=>?_))
 .refine qT 4 U (bD 4 [25,26,27,28,29] 25 29 (bA x.Person 1048577) U (λc5 hk4=>?_) (λe=>?_))
  .exact qL 2 [0] U (ai Cl (gQ h x.Person 1048577) U (eM U (hk4 _ U)))
  refine ao (bD 6 [30,31,32,33,34,35,36] 30 36 (x.Person != x.Party) U (λc6 hk5=>?_) (λe=>?_))
  .exact qL 6 [0,0] U (hk5 _ U)
  exact an (nretP [.bool ((((((bA x.No 1048577)&&(bA x.At 1099511627776))&&(bA x.Known 1099511627776))&&(bA x.Party 1048577))&&(bA x.Person 1048577))&&(x.Person != x.Party))] (cs hs1))
 refine qT 5 U (bD 4 [38,39,40,41,42] 38 42 (bA x.Person 64) U (λc7 hk6=>?_) (λe=>?_))
 .exact qL 2 [0] U (ai Cl (gQ h x.Person 64) U (eM U (hk6 _ U)))
 exact an (nretP [.bool (((((bA x.No 1048577)&&(bA x.At 1099511627776))&&(bA x.Known 1099511627776))&&(bA x.Party 1048577))&&(bA x.Person 64))] (cs hs2))
theorem sE(h:HF)(l:List Interest)(fq:Option Addr)(fp:Nat)(hl:SlC vL h fq fp l):Ret prog 50 [.slice fq l.length fp] h (I (dh l)):=by
 refine sT func50 U ntmps50 U λX hM hX hF=>?_
 have hs0:=@rfl _ (dh l)
 refine qK 11 [] U (ae hs0 U (λc1 hs1=>?_) (λc1 hs2=>?_))
 .have c1p:=of_decide_eq_true c1
  exact sr (an (nretP [I 2] (ci hs1)))
 have c1p:=of_decide_eq_false c1
 refine qK 12 [] U ?_
 refine lp1 l (λi w=>[(3,I w),(9,.slice fq l.length fp),(10,I (l.length:Int)),(11,I (i:Int))]) ([]) (λs1 i w=>(dh.L1 (dh.K1)) s1 w) (-1) hl.1.1 hs2 ?_ ?_
 .rintro i1 gZ fB hs4 e
  exact sr (an (nretP [I 0] (ci hs4)))
 rintro i1 gZ y1 rz1 hd1 du bo eA gD hs6 hx1 ag1 e
 refine sr (tO du U (qO 8 U (aw (iF jD ul ty54 hl.1 bo U U U (λq2 A2=>dl ty54 A2 U U (aU zc54 (λb2=>aR 0 ty54 U U U U U U (qO 4 U (cI 0 ty54 U U U (ai call99 (zI h y1) U (qO 2 U (cn 5 [18,19,20,21,22,23] 18 23 (decide (y1.No<=gZ)) U (λc2 hk1=>?_) (λe=>?_)))))))))))))
 .exact qL 5 [0] U (hk1 _ U)
 refine aH (ae hs6 U (λc3 hs7=>?_) (λc3 hs8=>?_))
 .exact sr (an (nretP [I 290] (ci hs7)))
 exact qK 8 [0] U (oi i1 U (qO 2 U (bj (L':=[]) js (ag1 y1.No hs8))))
theorem oM(h:HF)(s:List Int)(pU:Option Addr)(pI:Nat)(f:(Int->Bool))(f_v:Value)(hs:SlC zC h pU pI s)(hf:∀(h':HF)(cj:Int),HF.le h h'->sZ prog f_v [I cj] h' [] (.bool (f cj))):Ret prog 116 [.slice pU s.length pI,f_v] h (I (cK s f)):=by
 refine sT func116 U ntmps116 U λX hM hX hF=>?_
 have hs0:=@rfl _ (cK s f)
 refine qK 11 [] U ?_
 refine lp0 s (λi=>[(0,.slice pU s.length pI),(1,f_v),(7,I (s.length:Int)),(8,I (i:Int))]) ([]) (λs1 i=>(cK.L1 f (cK.K1)) s1 i) hs.1.1 hs0 ?_ ?_
 .rintro i1 fB hs1 e
  exact sr (an (nretP [I (-1)] (ci hs1)))
 rintro i1 y1 rz1 hd1 du bo eA gD hs3 hx1 ag1 e
 refine sr (tO du U (qO 16 U (aw (iF (λy=>[I y]) eG ty3 hs.1 bo U U U (λq2 A2=>de ty3 A2 U (aw (lX (v:=.bool (f y1)) [] (List.nil_sublist _) (hf h y1 lf) U U (aH (ae hs3 U (λc2 hs4=>?_) (λc2 hs5=>?_))))))))))
 .exact sr (qO 3 U (nretP [I (i1:Int)] (ci hs4)))
 exact aQ (qT 2 U (oi i1 U (qO 2 U (ag1 hs5))))
theorem gT(h:HF)(s:List Int)(pU:Option Addr)(pI:Nat)(f:(Int->Bool))(f_v:Value)(hs:SlC zC h pU pI s)(hf:∀(h':HF)(cj:Int),HF.le h h'->sZ prog f_v [I cj] h' [] (.bool (f cj))):Ret prog 67 [.slice pU s.length pI,f_v] h (.bool (da s f)):=by
 refine sT func67 U ntmps67 U λX hM hX hF=>?_
 have hs0:=@rfl _ (da s f)
 exact sr (qO 6 U (ai call116 (oM _ _ _ _ f f_v hs hf) U (qO 3 U (nretP [.bool (decide (0<=(cK s f)))] (cs hs0)))))
end
end Go.Sg
