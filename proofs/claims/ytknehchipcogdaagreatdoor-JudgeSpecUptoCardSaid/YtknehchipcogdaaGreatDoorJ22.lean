import Derived.Test.YtknehchipcogdaaGreatDoorJ6
/- A part of the proof of JudgeSpec. -/
set_option linter.unusedVariables false
set_option linter.unusedSimpArgs false
set_option maxRecDepth 100000
open List renaming length_cons→xA,not_mem_nil→vA,length_append→kA,length_nil→xB,toArray→vB,append_assoc→zC,nil_append→qD,mem_of_getElem?→kD,mem_append→qE,range→xF,getElem?_map→qW,nodup_nil→XV,map_append→X3,nodup_append→Yj
open Go.Sg.Rp renaming int→jB,bG→vJ,fR→XZ
open Go.Value renaming int→jC
open Go.Sg.HF renaming le_trans→xD,le_refl→vF,le→zM
open Nat renaming le_refl→zE,lt_or_ge→vR
open Go.Sg.OSeat renaming cells→jE,enc→jS,rp→Zk
open Go.Obj renaming cells→vG
open Go.Deferred renaming ofValue→jH

namespace Go.Sg
variable {κ:Type}
section
open Go.Proofs Go.Proofs.Tryz
theorem sW.length{κ α : Type}{enc:κ->Value}{V:HF->Value->α->Prop}{h:HF}:∀{es:List MapEntry}{m:List (κ×α)},sW enc V h es m->es.length=m.length
 |[],[],_=>rfl
 |_::_,(_,_)::_,⟨_,_,c⟩=>by simp[sW.length c]
 |[],_::_,x=>x.elim
 |_::_,[],x=>x.elim
theorem CX[Inhabited κ](ks:List κ)(is:List Nat)(hn:is.Nodup)(hlt:∀i∈is,i<ks.length)(hall:∀i,i<ks.length->i∈is):(is.map λi=>(ks[i]?).getD default).Perm ks:=by
 have h1:is.Perm (xF ks.length):=(List.perm_ext_iff_of_nodup hn List.nodup_range).2 (λi=>by rw[List.mem_range];exact⟨hlt i,hall i⟩)
 refine(h1.map _).trans (List.Perm.of_eq ?_)
 apply List.ext_getElem (by simp)
 grind
theorem FT[Inhabited κ](ks:List κ)(is:List Nat)(hn:is.Nodup)(hlt:∀i∈is,i<ks.length):∃rest,((is.map λi=>(ks[i]?).getD default)++rest).Perm ks:=by
 let js:=(xF ks.length).filter λi=>!is.contains i
 have hd:(is++js).Nodup:=by
  rw[Yj]
  refine⟨hn,List.nodup_range.filter _,λa ha b hb e=>?_⟩
  subst e
  simp[js]at hb
  exact hb.2 ha
 refine⟨js.map λi=>(ks[i]?).getD default,?_⟩
 rw[←X3]
 grind [js,CX]
theorem yM(h:HF)(m:List (Int×aC))(bk:Nat)(q:Addr)(hm:uN (jC .i64) (mT aC.rp) h bk m)(aq:At h q [.map (some bk)]):
  Kk prog (.func (.func 336) #[] #[.pointer (some q)]) (λk _ vs=>vs=[(jC .i64) k]) (λxs=>xs.Perm (m.map (·.1))) h:=by
 refine⟨336,[.pointer (some q)],rfl,call336,?_⟩
 intro yf ya yb C Sp Pn h1 A eT m1 m2 m3 hC hy
 obtain⟨o,hb,m0,hpm,hnd0,es,clock,rfl,hE,hP,hcl⟩:=hm.mono (mT.mono aC.aB) eT
 have hnod:(es.map (·.born)).Nodup:=hP.imp (λh=>Nat.ne_of_lt h)
 have hkeys:=hE.keys
 have hlen:es.length=(m0.map (·.1)).length:=by rw[hE.length];simp
 let ks:=m0.map (·.1)
 let kf:Nat->Int:=λi=>(ks[i]?).getD default
 let bf:Nat->Nat:=λi=>(es[i]?.map (·.born)).getD 0
 have hkey:∀(i:Nat)(en:MapEntry),es[i]? = some en->en.key=(jC .i64) (kf i):=by
  intro i en hi
  have h2:(es.map (·.key))[i]? = some en.key:=by simp[hi]
  rw[hkeys]at h2
  simp only[qW]at h2
  simp only[kf,ks,qW]
  cases hq:m0[i]? with
  |none=>rw[hq]at h2;simp at h2
  |some p=>rw[hq]at h2;simp at h2;simp[←h2]
 refine pP (args:=[.func yf ya yb]) (cap:=[.pointer (some q)]) call336 ?_
 refine oA Tz rfl ntmps336 rfl λX hXM hX=>?_
 refine eI (cB (iw ty280 (aq.mono eT) rfl (aS (Rx Ty hb rfl (λit=>ck ?_)))))
 refine km (ι:=List Nat×LH×HF) (λi=>[]) (λi=>i.2.2) (λi=>[(it,Obj.mapIter (some bk) clock (vB (i.1.map bf)) clock)]++i.2.1) (λi=>(i.1.Nodup/\(∀j∈i.1,j<es.length)/\(∀j,j<es.length->j∈i.1))/\C (i.1.map kf) i.2.2 i.2.1) ?_ (λhx=>?_)
 .rintro⟨js,A1,h2⟩ ⟨⟨hn,hl,ha⟩,hC1⟩ e
  exact Az Tz (λa _ w _=>ol rfl a w) (λw hw=>hw.sub (List.sublist_append_right _ _)) (.inl ⟨rfl,.inl ⟨_,(CX ks js hn (λi hi=>by rw[←hlen];exact hl i hi) (λi hi=>ha i (by rw[hlen];exact hi))).trans (hpm.map _),hC1⟩⟩)
 refine mL (ι:=List Nat×LH×HF) (λi=>[(0,.func yf ya yb),(5,.pointer (some ⟨it,0,none⟩))]) (λi=>i.2.2) (λi=>[(it,Obj.mapIter (some bk) clock (vB (i.1.map bf)) clock)]++i.2.1) (λi=>i.1.Nodup/\(∀j∈i.1,j<es.length)/\C (i.1.map kf) i.2.2 i.2.1/\zM h1 i.2.2) (λi=>es.length-i.1.length) ([],A,h1) ⟨rfl,rfl,trivial⟩ (λw hw=>hw) ⟨XV,λ_ hj=>(vA hj).elim,hC,vF _⟩ ?_
 rintro⟨js,A1,h2⟩ ⟨hn,hl,hC1,hle2⟩ ag e
 dsimp only at hn hl hC1 hle2
 have hlp:=FW hnod js hl
 show TT _ _ _ _ _ (upds e [(0,.func yf ya yb),(5,.pointer (some ⟨it,0,none⟩))]) _ _ h2 ([(it,Obj.mapIter (some bk) clock (vB (js.map bf)) clock)]++A1)
 refine eI (cB (aS (T3 0 rfl (hle2 _ _ hb) (λx hx=>hcl x (by simpa using hx)) (zE _) rfl (λh0=>?_) (λen hen=>?_))))
 .refine rD rfl rfl (ck (eI (pj rfl (jI rfl ?_))))
  exact hx (js,A1,h2) _ ⟨⟨hn,hl,hlp.1 h0⟩,hC1⟩ trivial
 .obtain⟨i,hi,hni⟩:=hlp.2 en hen
  have hil:i<es.length:=by
   rcases vR i es.length with h3|h3
   .exact h3
   .simp[List.getElem?_eq_none h3]at hi
  have hmem:en∈es.toArray.toList:=by simpa using kD hi
  have hn':(js++[i]).Nodup:=by
   rw[Yj];exact⟨hn,by simp,λa ha b hb' e'=>by simp at hb';subst hb';subst e';exact hni ha⟩
  have hl':∀j∈js++[i],j<es.length:=λj hj=>by
   rcases qE.1 hj with h3|h3
   .exact hl j h3
   .simp at h3;subst h3;exact hil
  obtain⟨rest,hrest⟩:=FT ks (js++[i]) hn' (λj hj=>by rw[←hlen];exact hl' j hj)
  have Cr:js.length+1<=es.length:=by
   have h9:=hrest.length_eq
   rw[kA,List.length_map,kA]at h9
   have h10:ks.length=es.length:=hlen.symm
   simp only[xA,xB]at h9
   omega
  have hrest':(js.map kf++kf i::rest).Perm (m.map (·.1)):=by
   rw[X3,zC]at hrest
   exact List.Perm.trans hrest (hpm.map _)
  obtain⟨ekey,evl,eborn⟩:=en
  have hk':ekey=(jC .i64) (kf i):=hkey i _ hi
  subst hk'
  refine rD rfl rfl (ck ?_)
  refine eI (rM rfl (jf (nI ?_)))
  refine eI (cB ?_)
  refine aS (fU (RE 0 rfl (hle2 _ _ hb) hmem (by simpa using hnod) rfl) ?_)
  refine rD rfl rfl (jj (ck ?_))
  refine eI (cB (dU (dU ?_)))
  refine aS (sZ [(it,Obj.mapIter (some bk) clock ((vB (js.map bf)).push eborn) clock)] A1 rfl (hy (js.map kf) (kf i) [(jC .i64) (kf i)] h2 A1 ⟨rest,hrest'⟩ hle2 hC1 rfl) rfl rfl (λh3 B hle3 hC3=>?_) (λh3 B hle3 hS3=>?_) (λch h3 B hle3 hP3 e'=>?_))
  .refine sF rfl (ck (pj rfl (jf (gU ?_))))
   have hpush:((vB (js.map bf)).push eborn)=vB ((js++[i]).map bf):=by simp[bf,hi]
   rw[hpush]
   refine ag (js++[i],B,h3) _ (by show es.length-(js++[i]).length<es.length-js.length;rw[kA];simp only[xA,xB];omega) ⟨hn',hl',by simpa using hC3,xD hle2 hle3⟩ ⟨rfl,rfl,trivial⟩
  .refine sF rfl (ck (rM rfl ?_))
   exact ra Tz (λa _ w _=>ol rfl a w) (λw hw=>hw.sub (List.sublist_append_right _ _)) (.inl ⟨rfl,.inr hS3⟩)
  .exact TK Tz (λw hw=>hw.sub (List.sublist_append_right _ _)) (.inr ⟨ch,rfl,hP3⟩)
theorem yN(h:HF)(m:List (OSeat×aA))(bk:Nat)(q:Addr)(hm:uN jS (mT aA.rp) h bk m)(aq:At h q [.map (some bk)]):
  Kk prog (.func (.func 388) #[] #[.pointer (some q)]) (λk _ vs=>vs=[jS k]) (λxs=>xs.Perm (m.map (·.1))) h:=by
 refine⟨388,[.pointer (some q)],rfl,call388,?_⟩
 intro yf ya yb C Sp Pn h1 A eT m1 m2 m3 hC hy
 obtain⟨o,hb,m0,hpm,hnd0,es,clock,rfl,hE,hP,hcl⟩:=hm.mono (mT.mono aA.aB) eT
 have hnod:(es.map (·.born)).Nodup:=hP.imp (λh=>Nat.ne_of_lt h)
 have hkeys:=hE.keys
 have hlen:es.length=(m0.map (·.1)).length:=by rw[hE.length];simp
 let ks:=m0.map (·.1)
 let kf:Nat->OSeat:=λi=>(ks[i]?).getD default
 let bf:Nat->Nat:=λi=>(es[i]?.map (·.born)).getD 0
 have hkey:∀(i:Nat)(en:MapEntry),es[i]? = some en->en.key=jS (kf i):=by
  intro i en hi
  have h2:(es.map (·.key))[i]? = some en.key:=by simp[hi]
  rw[hkeys]at h2
  simp only[qW]at h2
  simp only[kf,ks,qW]
  cases hq:m0[i]? with
  |none=>rw[hq]at h2;simp at h2
  |some p=>rw[hq]at h2;simp at h2;simp[←h2]
 refine pP (args:=[.func yf ya yb]) (cap:=[.pointer (some q)]) call388 ?_
 refine oA Tx rfl ntmps388 rfl λX hXM hX=>?_
 refine eI (cB (iw ty288 (aq.mono eT) rfl (aS (Rx underlying288 hb rfl (λit=>ck ?_)))))
 refine km (ι:=List Nat×LH×HF) (λi=>[]) (λi=>i.2.2) (λi=>[(it,Obj.mapIter (some bk) clock (vB (i.1.map bf)) clock)]++i.2.1) (λi=>(i.1.Nodup/\(∀j∈i.1,j<es.length)/\(∀j,j<es.length->j∈i.1))/\C (i.1.map kf) i.2.2 i.2.1) ?_ (λhx=>?_)
 .rintro⟨js,A1,h2⟩ ⟨⟨hn,hl,ha⟩,hC1⟩ e
  exact Az Tx (λa _ w _=>ol rfl a w) (λw hw=>hw.sub (List.sublist_append_right _ _)) (.inl ⟨rfl,.inl ⟨_,(CX ks js hn (λi hi=>by rw[←hlen];exact hl i hi) (λi hi=>ha i (by rw[hlen];exact hi))).trans (hpm.map _),hC1⟩⟩)
 refine mL (ι:=List Nat×LH×HF) (λi=>[(0,.func yf ya yb),(5,.pointer (some ⟨it,0,none⟩))]) (λi=>i.2.2) (λi=>[(it,Obj.mapIter (some bk) clock (vB (i.1.map bf)) clock)]++i.2.1) (λi=>i.1.Nodup/\(∀j∈i.1,j<es.length)/\C (i.1.map kf) i.2.2 i.2.1/\zM h1 i.2.2) (λi=>es.length-i.1.length) ([],A,h1) ⟨rfl,rfl,trivial⟩ (λw hw=>hw) ⟨XV,λ_ hj=>(vA hj).elim,hC,vF _⟩ ?_
 rintro⟨js,A1,h2⟩ ⟨hn,hl,hC1,hle2⟩ ag e
 dsimp only at hn hl hC1 hle2
 have hlp:=FW hnod js hl
 show TT _ _ _ _ _ (upds e [(0,.func yf ya yb),(5,.pointer (some ⟨it,0,none⟩))]) _ _ h2 ([(it,Obj.mapIter (some bk) clock (vB (js.map bf)) clock)]++A1)
 refine eI (cB (aS (T3 0 rfl (hle2 _ _ hb) (λx hx=>hcl x (by simpa using hx)) (zE _) rfl (λh0=>?_) (λen hen=>?_))))
 .refine rD rfl rfl (ck (eI (pj rfl (jI rfl ?_))))
  exact hx (js,A1,h2) _ ⟨⟨hn,hl,hlp.1 h0⟩,hC1⟩ trivial
 .obtain⟨i,hi,hni⟩:=hlp.2 en hen
  have hil:i<es.length:=by
   rcases vR i es.length with h3|h3
   .exact h3
   .simp[List.getElem?_eq_none h3]at hi
  have hmem:en∈es.toArray.toList:=by simpa using kD hi
  have hn':(js++[i]).Nodup:=by
   rw[Yj];exact⟨hn,by simp,λa ha b hb' e'=>by simp at hb';subst hb';subst e';exact hni ha⟩
  have hl':∀j∈js++[i],j<es.length:=λj hj=>by
   rcases qE.1 hj with h3|h3
   .exact hl j h3
   .simp at h3;subst h3;exact hil
  obtain⟨rest,hrest⟩:=FT ks (js++[i]) hn' (λj hj=>by rw[←hlen];exact hl' j hj)
  have Cr:js.length+1<=es.length:=by
   have h9:=hrest.length_eq
   rw[kA,List.length_map,kA]at h9
   have h10:ks.length=es.length:=hlen.symm
   simp only[xA,xB]at h9
   omega
  have hrest':(js.map kf++kf i::rest).Perm (m.map (·.1)):=by
   rw[X3,zC]at hrest
   exact List.Perm.trans hrest (hpm.map _)
  obtain⟨ekey,evl,eborn⟩:=en
  have hk':ekey=jS (kf i):=hkey i _ hi
  subst hk'
  refine rD rfl rfl (ck ?_)
  refine eI (rM rfl (jf (nI ?_)))
  refine eI (cB ?_)
  refine aS (fU (RE 0 rfl (hle2 _ _ hb) hmem (by simpa using hnod) rfl) ?_)
  refine rD rfl rfl (cS zc325 (λb3=>cJ 0 ty325 rfl rfl rfl rfl rfl rfl (ck ?_)))
  refine eI (cB (dU (ga 0 ty325 rfl rfl rfl ?_)))
  refine aS (sZ [(b3,vG (jE (kf i)).toArray 325 (0,0)),(it,Obj.mapIter (some bk) clock ((vB (js.map bf)).push eborn) clock)] A1 rfl (hy (js.map kf) (kf i) [jS (kf i)] h2 A1 ⟨rest,hrest'⟩ hle2 hC1 rfl) rfl rfl (λh3 B hle3 hC3=>?_) (λh3 B hle3 hS3=>?_) (λch h3 B hle3 hP3 e'=>?_))
  .refine sF rfl (ck (pj rfl (jf (gU ?_))))
   have hpush:((vB (js.map bf)).push eborn)=vB ((js++[i]).map bf):=by simp[bf,hi]
   rw[hpush]
   refine ek (L':=[(it,Obj.mapIter (some bk) clock (vB ((js++[i]).map bf)) clock)]++B) (.cons _ (List.Sublist.refl _)) ?_
   refine ag (js++[i],B,h3) _ (by show es.length-(js++[i]).length<es.length-js.length;rw[kA];simp only[xA,xB];omega) ⟨hn',hl',by simpa using hC3,xD hle2 hle3⟩ ⟨rfl,rfl,trivial⟩
  .refine sF rfl (ck (rM rfl ?_))
   exact ra Tx (λa _ w _=>ol rfl a w) (λw hw=>hw.sub (List.sublist_append_right _ _)) (.inl ⟨rfl,.inr hS3⟩)
  .exact TK Tx (λw hw=>hw.sub (List.sublist_append_right _ _)) (.inr ⟨ch,rfl,hP3⟩)
end
variable {ats:Array TypeId}
section
open Go.Proofs Go.Proofs.Tryz
abbrev Qb{α : Type}(P:Program)(f:FuncId)(args:List Value)(h:HF)(R:Rp α)(E:TypeId)(S:List α->Prop):Prop:=
 qf P f args.toArray h [] (λr h' G=>∃xs bb c,S xs/\r=.returned (.slice bb xs.length c)/\di R E h' xs bb c G)
section steps
variable {P:Program} {b:Frame} {n:Nat} {ops:Array Oper} {F:List Frame->(Machine->Prop)->Prop} {e:Env} {ds:List Deferred} {X:Cx} {h:HF} {L:LH} {K:Env->HF->LH->Prop}
variable {d:Option Nat} {ty:TypeId} {pos:String} {af:Array Edge} {g:Option (Nat×Bool)}
theorem DG{α:Type}{R:Rp α}{E:TypeId}{S:List α->Prop}{f:FuncId}{ass:Array Operand}{vs:List Value}(hc:∀args w,(callFunc f args).run P w=.ok (.enter f args) w)(hs:Qb P f vs h R E S)(hvs:ass.toList.map e.ev=vs)(t':∀h' xs bb c G,h.le h'->S xs->di R E h' xs bb c G->K (pute e d (.slice bb xs.length c)) h' (L++G))(hg:guardB ops e ⟨d,.call ⟨.value (.func f),ass,ats⟩,ty,pos,af,g⟩=true:=by rfl):
  Stp P b n ops F ds X ⟨d,.call ⟨.value (.func f),ass,ats⟩,ty,pos,af,g⟩ e h L K:=by
 unfold Stp
 rw[if_pos hg]
 intro w hw
 have harr:ass.map e.ev=vs.toArray:=Array.ext' (by simp[←hvs])
 have hr:(execOp e.ev ⟨d,.call ⟨.value (.func f),ass,ats⟩,ty,pos,af,g⟩).run P w=.ok (.enter f vs.toArray) w:=by
  simp[execOp,resolve,Env.ev,jH,invoke,harr,hc]
 rw[hr]
 refine nn (by simp) (lH (tT.mono (hs w (hw.sub (List.nil_sublist _)).pre) ?_))
 rintro x w' ⟨h',B,hst,xs,bb,c,hS,rfl,hG⟩
 exact⟨h',_,(St.after (A:=[]) (F:=L) hw hst).perm List.perm_append_comm,t' h' xs bb c B hst.le hS hG⟩
end steps
theorem Hj(h:HF)(it:Value)(S:List Int->Prop)(hit:Kk prog it (λ(k:Int)(_:HF)(vs:List Value)=>vs=[jC .i64 k]) S h)(hS:∀xs,S xs->xs.length<=1000000000000):Qb prog 234 [.slice none 0 0,it] h jB 3 S:=by
 refine el func234 rfl ntmps234 rfl λX hM hX=>?_
 refine eI (cB (j2 (λb1=>jj (ck (eI (eI (cB (dU (ck (nI (?_)))))))))))
 refine Lp (it:=it) (S:=S) (ps:=[7])
  (λdone h' L'=>∃gb gc G,L'=[(b1,vG (vB [.slice gb done.length gc]) 31 (0,0))]++G/\di jB 3 h' done gb gc G)
  (λ_ _ _=>False) (λ_ _ _=>False) rfl hit rfl (λx h' vs hv=>by rw[hv];rfl) ?_ (λ_ _ _ _ _ hf=>hf) (λ_ _ _ _ _ hf=>hf) ⟨none,0,[],rfl,di.nil⟩ ?_ ?_ (λ_ _ _ _ _ hf=>hf.elim) (λ_ _ _ _ _ hf=>hf.elim)
 .rintro done h1 h2 B hl ⟨gb,gc,G,rfl,hG⟩;exact⟨gb,gc,G,rfl,hG.mono vJ hl⟩
 .rintro l1 r1 lp1 done y vs hr L' X' ⟨rest,hrest⟩ eT ⟨gb,gc,G,rfl,hG⟩ hv hlp hX' hXM
  obtain rfl:=hv
  have hlen:=hS _ hrest
  simp only[kA,xA]at hlen
  refine cB (jj (ck ?_))
  refine nJ 0 rfl hlp (nI (cB ?_))
  refine qm 2 ty31 rfl rfl rfl (dU ?_)
  refine aS (cM (cells:=[.int .i64 y]) fm ty3 zc3 rfl rfl (by kernel_rfl) (λb3=>?_))
  refine aS (dN XZ ([(b3,vG (vB [.int .i64 y]) 3 (0,0)),(l1,.loop { lp1 with state:=.busy }),(r1,.deferred (some [])),(b1,vG (vB [.slice gb done.length gc]) 31 (0,0))]) [] (λG=>[(b3,vG (vB [.int .i64 y]) 3 (0,0)),(l1,.loop { lp1 with state:=.busy }),(r1,.deferred (some [])),(b1,vG (vB [.slice gb done.length gc]) 31 (0,0))]++G) (G:=G) (show _=[(b3,vG (vB [.int .i64 y]) 3 (0,0)),(l1,.loop { lp1 with state:=.busy }),(r1,.deferred (some [])),(b1,vG (vB [.slice gb done.length gc]) 31 (0,0))]++(G++[])from by rw[List.append_nil];rfl) (λ_=>by first|rfl|simp only[qD]) fm ty3 zc3 rfl bytes3 hG rfl rfl (gQ (ys:=[y]) 0 rfl (show bW jB hr [.int .i64 y] [y]from⟨[.int .i64 y],[],rfl,rfl,rfl,rfl⟩)) (by simp only[kA,xA,xB];omega) (by simp only[kA,xA,xB];omega) (λob2 oc2 G2 gr2=>?_))
  refine dK 3 ty31 rfl rfl rfl rfl rfl rfl (ck (gU ?_))
  refine ek (L':=(l1,.loop { lp1 with state:=.busy })::(r1,.deferred (some []))::([(b1,vG (vB [.slice ob2 (done++[y]).length oc2]) 31 (0,0))]++G2)) (.cons _ (List.Sublist.refl _)) ?_
  exact Na rfl ⟨ob2,oc2,G2,rfl,gr2⟩
 .rintro r1 xs h2 L' hxs eT ⟨gb,gc,G,rfl,hG⟩
  refine gU (eI (cB (qm 1 ty31 rfl rfl rfl (jj (ck ?_)))))
  refine jy (L':=([(b1,vG (vB [.slice gb xs.length gc]) 31 (0,0))]++G)++markB [r1]) (List.perm_append_singleton _ _).symm ?_
  exact yu [r1] func234 (λa ha w hw=>res1 rfl a ha w) (λw hw=>hw.sub (L':=G) (List.sublist_append_right _ _)) ⟨xs,gb,gc,hxs,rfl,hG⟩
theorem Lg(h:HF)(it:Value)(S:List Int->Prop)(hit:Kk prog it (λ(k:Int)(_:HF)(vs:List Value)=>vs=[jC .i64 k]) S h)(hS:∀xs,S xs->xs.length<=1000000000000):Qb prog 145 [it] h jB 3 S:=by
 refine el func145 rfl ntmps145 rfl λX hM hX=>?_
 refine eI (cB (jj (ck (eI (cB (dU ?_))))))
 refine aS (DG call234 (Hj h it S hit hS) rfl (λh' xs bb c G eT hxs hG=>?_))
 refine jj (ck ?_)
 exact ra func145 (λa ha w hw=>res1 rfl a ha w) (λw hw=>hw.sub (L':=G) (List.sublist_append_right _ _)) ⟨xs,bb,c,hxs,rfl,hG⟩
theorem Fx(h:HF)(it:Value)(S:List OSeat->Prop)(hit:Kk prog it (λ(k:OSeat)(_:HF)(vs:List Value)=>vs=[jS k]) S h)(hS:∀xs,S xs->xs.length<=1000000000000):Qb prog 403 [.slice none 0 0,it] h Zk 325 S:=by
 refine el func403 rfl ntmps403 rfl λX hM hX=>?_
 refine eI (cB (j2 (λb1=>jj (ck (eI (eI (cB (dU (ck (nI (?_)))))))))))
 refine Lp (it:=it) (S:=S) (ps:=[7])
  (λdone h' L'=>∃gb gc G,L'=[(b1,vG (vB [.slice gb done.length gc]) 351 (0,0))]++G/\di Zk 325 h' done gb gc G)
  (λ_ _ _=>False) (λ_ _ _=>False) rfl hit rfl (λx h' vs hv=>by rw[hv];rfl) ?_ (λ_ _ _ _ _ hf=>hf) (λ_ _ _ _ _ hf=>hf) ⟨none,0,[],rfl,di.nil⟩ ?_ ?_ (λ_ _ _ _ _ hf=>hf.elim) (λ_ _ _ _ _ hf=>hf.elim)
 .rintro done h1 h2 B hl ⟨gb,gc,G,rfl,hG⟩;exact⟨gb,gc,G,rfl,hG.mono OSeat.aB hl⟩
 .rintro l1 r1 lp1 done y vs hr L' X' ⟨rest,hrest⟩ eT ⟨gb,gc,G,rfl,hG⟩ hv hlp hX' hXM
  obtain rfl:=hv
  have hlen:=hS _ hrest
  simp only[kA,xA]at hlen
  refine cB (cS zc325 (λb2=>cJ 0 ty325 rfl rfl rfl rfl rfl rfl (ck ?_)))
  refine nJ 1 rfl hlp (nI (cB ?_))
  refine qm 3 ty351 rfl rfl rfl (ga 0 ty325 rfl rfl rfl ?_)
  refine aS (cM (cells:=[.int .i64 y.aI,.int .i64 y.bu]) We ty325 zc325 rfl rfl (by kernel_rfl) (λb3=>?_))
  refine aS (dN OSeat.ft ([(b3,vG (vB [.int .i64 y.aI,.int .i64 y.bu]) 325 (0,0)),(b2,vG (jE y).toArray 325 (0,0)),(l1,.loop { lp1 with state:=.busy }),(r1,.deferred (some [])),(b1,vG (vB [.slice gb done.length gc]) 351 (0,0))]) [] (λG=>[(b3,vG (vB [.int .i64 y.aI,.int .i64 y.bu]) 325 (0,0)),(b2,vG (jE y).toArray 325 (0,0)),(l1,.loop { lp1 with state:=.busy }),(r1,.deferred (some [])),(b1,vG (vB [.slice gb done.length gc]) 351 (0,0))]++G) (G:=G) (show _=[(b3,vG (vB [.int .i64 y.aI,.int .i64 y.bu]) 325 (0,0)),(b2,vG (jE y).toArray 325 (0,0)),(l1,.loop { lp1 with state:=.busy }),(r1,.deferred (some [])),(b1,vG (vB [.slice gb done.length gc]) 351 (0,0))]++(G++[])from by rw[List.append_nil];rfl) (λ_=>by first|rfl|simp only[qD]) We ty325 zc325 rfl bytes325 hG rfl rfl (gQ (ys:=[y]) 0 rfl (show bW Zk hr [.int .i64 y.aI,.int .i64 y.bu] [y]from⟨[.int .i64 y.aI,.int .i64 y.bu],[],rfl,rfl,rfl,rfl⟩)) (by simp only[kA,xA,xB];omega) (by simp only[kA,xA,xB];omega) (λob2 oc2 G2 gr2=>?_))
  refine dK 4 ty351 rfl rfl rfl rfl rfl rfl (ck (gU ?_))
  refine ek (L':=(l1,.loop { lp1 with state:=.busy })::(r1,.deferred (some []))::([(b1,vG (vB [.slice ob2 (done++[y]).length oc2]) 351 (0,0))]++G2)) (.cons _ (.cons _ (List.Sublist.refl _))) ?_
  exact Na rfl ⟨ob2,oc2,G2,rfl,gr2⟩
 .rintro r1 xs h2 L' hxs eT ⟨gb,gc,G,rfl,hG⟩
  refine gU (eI (cB (qm 1 ty351 rfl rfl rfl (jj (ck ?_)))))
  refine jy (L':=([(b1,vG (vB [.slice gb xs.length gc]) 351 (0,0))]++G)++markB [r1]) (List.perm_append_singleton _ _).symm ?_
  exact yu [r1] func403 (λa ha w hw=>res1 rfl a ha w) (λw hw=>hw.sub (L':=G) (List.sublist_append_right _ _)) ⟨xs,gb,gc,hxs,rfl,hG⟩
theorem Kn(h:HF)(it:Value)(S:List OSeat->Prop)(hit:Kk prog it (λ(k:OSeat)(_:HF)(vs:List Value)=>vs=[jS k]) S h)(hS:∀xs,S xs->xs.length<=1000000000000):Qb prog 386 [it] h Zk 325 S:=by
 refine el func386 rfl ntmps386 rfl λX hM hX=>?_
 refine eI (cB (jj (ck (eI (cB (dU ?_))))))
 refine aS (DG call403 (Fx h it S hit hS) rfl (λh' xs bb c G eT hxs hG=>?_))
 refine jj (ck ?_)
 exact ra func386 (λa ha w hw=>res1 rfl a ha w) (λw hw=>hw.sub (L':=G) (List.sublist_append_right _ _)) ⟨xs,bb,c,hxs,rfl,hG⟩
end
section
open Go.Proofs Go.Proofs.Tryz
theorem Ce(h:HF)(it:Value)(ks:List Int)(hit:Kk prog it (λ(k:Int)(_:HF)(vs:List Value)=>vs=[jC .i64 k]) (λxs=>xs.Perm ks) h)(hk:ks.length<=1000000000000):
  j0 prog 263 [it] h (λv h'=>∃(b:Option Addr)(c:Nat),v=.slice b (sortI ks).length c/\SlC jB h' b c (sortI ks)):=by
 refine el func263 rfl ntmps263 rfl λX hM hX=>?_
 refine eI (cB (jj (ck (eI (cB (dU ?_))))))
 refine aS (DG call145 (Lg h it _ hit (λxs hx=>by rw[hx.length_eq];exact hk)) rfl (λh' xs bb c G eT hxs hG=>?_))
 refine jj (ck (eI (cB (dU ?_))))
 refine aS (pT [] G [] Tw (oL h' xs bb c G hG (by rw[hxs.length_eq];exact hk)) (by simp) rfl (λG' hG'=>?_))
 refine ck (eI (cB (dU (jj (ck ?_)))))
 refine jz vJ [] G' [] (by simp) hM hG' (λh2 hle2 sl=>?_)
 refine mK [.slice bb xs.length c] func263 rfl ⟨rfl,trivial⟩ ⟨bb,c,?_,?_⟩
 .rw[←OE hxs,kO];rfl
 .rw[←OE hxs];exact sl
theorem AV(h:HF)(m:List (Int×aC))(RT:Nat)(hm:uN (jC .i64) (mT aC.rp) h RT m):j0 prog 264 [.map (some RT)] h (λv h'=>Kk prog v (λ(k:Int)(_:HF)(vs:List Value)=>vs=[(jC .i64) k]) (λxs=>xs.Perm (m.map (·.1))) h'):=by
 refine el func264 rfl ntmps264 rfl λX hM hX=>?_
 refine eI (cB (j2 (λb1=>jj (ck (eI (cB ?_))))))
 refine dV 0 rfl hM (λh2 hle2 hb2=>?_)
 refine aS (kw rfl rfl ?_)
 refine jj (ck ?_)
 refine mK [.func (.func 336) #[] #[.pointer (some ⟨b1,0,none⟩)]] func264 rfl ⟨rfl,trivial⟩ ?_
 exact yM h2 m RT ⟨b1,0,none⟩ (hm.mono (mT.mono aC.aB) hle2) (gM hb2)
theorem AW(h:HF)(m:List (OSeat×aA))(RT:Nat)(hm:uN jS (mT aA.rp) h RT m):j0 prog 341 [.map (some RT)] h (λv h'=>Kk prog v (λ(k:OSeat)(_:HF)(vs:List Value)=>vs=[jS k]) (λxs=>xs.Perm (m.map (·.1))) h'):=by
 refine el func341 rfl ntmps341 rfl λX hM hX=>?_
 refine eI (cB (j2 (λb1=>jj (ck (eI (cB ?_))))))
 refine dV 0 rfl hM (λh2 hle2 hb2=>?_)
 refine aS (kw rfl rfl ?_)
 refine jj (ck ?_)
 refine mK [.func (.func 388) #[] #[.pointer (some ⟨b1,0,none⟩)]] func341 rfl ⟨rfl,trivial⟩ ?_
 exact yN h2 m RT ⟨b1,0,none⟩ (hm.mono (mT.mono aA.aB) hle2) (gM hb2)
end
end Go.Sg
