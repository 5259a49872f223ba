import Derived.Test.YtknehchipcogdaaGreatDoorJ57
import Derived.Test.YtknehchipcogdaaGreatDoorJ58
/- Part of JudgeSpec. -/
set_option linter.unusedVariables false
set_option linter.unusedSimpArgs false
set_option maxRecDepth 100000
open List renaming length_cons→xA,not_mem_nil→vA,mem_cons_self→zB,toArray→vB,mem_singleton→kB,mem_cons_of_mem→qC,mem_cons→vC,range→xF,mem_append_right→xM,mem_map_of_mem→zT
open Go.Sg.Rp renaming int→jB,bG→vJ,fR→XZ,kv→YS
open Go.Value renaming int→jC
open Go.Sg.HF renaming le_trans→xD,le_refl→vF,le→zM
open Go.IntKind renaming wrap→jD
open Go.Sg.SlC renaming nil→vE
open Go.Obj renaming cells→vG
open Go.Sg.Register renaming cells→vH,ok→vM
open Nat renaming zero_le→kJ,le_trans→zN
namespace Go.Sg
section
open Go.Proofs Go.Proofs.Tryz
set_option maxHeartbeats 4000000
theorem yo.mono{h h':HF}(hl:h.le h'):∀{vs:List Value}{ws:List iX},yo h vs ws->yo h' vs ws
 |[],[],_=>trivial
 |_::_,_::_,⟨⟨r,e,o⟩,t⟩=>⟨⟨r,e,o.mono hl⟩,yo.mono hl t⟩
 |[],_::_,x=>x.elim
 |_::_,[],x=>x.elim
theorem yo.snoc{h:HF}{v:Value}{w:iX}(hw:∃r,v=.agg (iX.cells w r).toArray/\iX.ok h w r):∀{vs:List Value}{ws:List iX},yo h vs ws->yo h (vs++[v]) (ws++[w])
 |[],[],_=>⟨hw,trivial⟩
 |_::_,_::_,⟨a,t⟩=>⟨a,yo.snoc hw t⟩
 |[],_::_,x=>x.elim
 |_::_,[],x=>x.elim
theorem yo.len{h:HF}:∀{vs:List Value}{ws:List iX},yo h vs ws->vs.length=ws.length
 |[],[],_=>rfl
 |_::_,_::_,⟨_,t⟩=>by simp[yo.len t]
 |[],_::_,x=>x.elim
 |_::_,[],x=>x.elim
theorem ou(h w WZ q1 q2 bm bc om)(m:List (Int×Bool))(cap s r:Nat)(vs:List Value)(q:List iX)(hw:iX.ok h w WZ)(a1:At h q1 [.map (some bm)])(a2:At h q2 [.chan (some bc)])(hm:lB (jC .i64) sO h om m)(hq:yo h vs q)(hroom:mgetD m w.to false=false->vs.length<cap):
  n0 prog (.func (.func 319) #[] #[.pointer (some q1),.pointer (some q2)]) #[.agg (iX.cells w WZ).toArray] h [(bm,om),(bc,.chan cap vs.toArray false s r false)]
   (λx h' B=>x=.returned (.tuple #[])/\h'=h/\∃om' vs' s',lB (jC .i64) sO h om' (conPut w m q).1/\yo h vs' (conPut w m q).2/\B=[(bm,om'),(bc,.chan cap vs'.toArray false s' r false)]):=by
 refine pP (args:=[.agg (iX.cells w WZ).toArray]) (cap:=[.pointer (some q1),.pointer (some q2)]) call319 (el func319 U ntmps319 U λX hM hX=>sr (j2 (λb1=>qO 3 U (iw ty224 a1 U (qL 2 [0] U (aS (ve 1 (k:=w.to) underlying224 (im qZ) U hm (gF zv4) (show sO _ (.bool false) false from U) U U (λv hv=>?_))))))))
 obtain rfl:=hv
 cases hc:mgetD m w.to false with
 |true=>
  refine qO 4 U ?_
  have e1:conPut w m q=(m,q):=by simp[conPut,hc]
  refine Az func319 (λa ha w hw=>ol U a w) (λw hw=>(hw.sub (L':=[(bm,om),(bc,.chan cap vs.toArray false s r false)]) js).lower) ⟨U,hX,om,vs,s,?_,?_,U⟩
  .rw[e1];exact hm
  rw[e1];exact hq
 |false=>
  refine qO 3 U ?_
  have e1:conPut w m q=(mput m w.to true,q++[w]):=by simp[conPut,hc]
  refine sr (iw ty224 a1 U (qL 2 [0] U (aS (pS 1 (k:=w.to) (x:=true) underlying224 (im qZ) U hm U U U (λom' hm'=>qO 2 U (iw ty327 a2 U (ga 0 ty329 U U U (WI 2 U U U (hroom hc) (ck ?_)))))))))
  refine Az func319 (λa ha w hw=>ol U a w) (λww hww=>(hww.sub (L':=[(bm,om'),(bc,.chan cap (vs++[Value.agg (iX.cells w WZ).toArray]).toArray false (s+1) r false)]) js).lower) ⟨U,hX,om',vs++[.agg (iX.cells w WZ).toArray],s+1,?_,?_,U⟩
  .rw[e1];exact hm'
  rw[e1];exact yo.snoc ⟨WZ,rfl,hw⟩ hq
theorem FR.mono{h h':HF}(hl:h.le h'){m:List (Int×Option Addr×Nat×Nat)}{f:List (Int×List av)}{G:LH}(x:FR h m f G):FR h' m f G:=FRg.mono av.aB hl x
theorem JY(k:Int->Int):∀(l:List Int)(g:Int),cG.L1 k l g=0->(∀x∈l,g<x/\x<=1048576)/\l.Pairwise (·<·)/\∃g',k g'=0
 |[],g,h=>⟨λ_ h=>(vA h).elim,List.Pairwise.nil,g,h⟩
 |y::l,g,h=>by
  simp only[cG.L1,Bool.cond_eq_ite,Bool.or_eq_true,decide_eq_true_eq]at h
  split at h
  .omega
  next hc=>
  obtain⟨h1,h2,h3⟩:=JY k l y h
  refine⟨λx hx=>?_,List.pairwise_cons.2 ⟨λx hx=>(h1 x hx).1,h2⟩,h3⟩
  rcases vC.1 hx with rfl|hx
  .omega
  have:=h1 x hx;omega
theorem Hf{l:List av}{bu:Int}{bQ:List Int}{a b:Int}(h:cG l bu bQ a b=0):bQ.Pairwise (·<=·)/\bQ.length<=16:=by
 unfold cG at h
 rw[Bool.cond_eq_ite]at h
 split at h
 .next hc=>simp at hc;exact absurd h hc
 obtain⟨_,h2,g',h3⟩:=JY _ _ _ h
 refine⟨h2.imp (λh=>Int.le_of_lt h),?_⟩
 unfold cG.K1 at h3
 rw[Bool.cond_eq_ite]at h3
 split at h3
 .omega
 next hc=>
 simp only[Bool.or_eq_true,not_or,decide_eq_true_eq]at hc
 omega
theorem uZ(h b)(n c:Nat)(hc:n<=c):Ret prog 322 [.slice b n c] h (.slice b n n):=by
 exact el func322 U ntmps322 U λX hM hX=>qK 11 [] U (aS (fU (WC fm ty3 U U U hc) (an (wk [.slice b n n] func322 U hX rd U))))
theorem Aj(h l eP eO bu bQ j7 j6 aU ad)(hl:SlC av.rp h eP eO l)(vv:SlC jB h j7 j6 bQ)(hsz:l.length<=2000000):
  j0 prog 237 [.slice eP l.length eO,I bu,.slice j7 bQ.length j6,I aU,I ad] h
   (λv h'=>∃(rb0:Option Addr)(rc0:Nat),v=.tuple #[.slice rb0 ((fy l bu bQ aU ad).1.length) rc0,.bool ((fy l bu bQ aU ad).2.1),I ((fy l bu bQ aU ad).2.2)]/\SlC jB h' rb0 rc0 ((fy l bu bQ aU ad).1)):=by
 refine el Re U ntmps237 U λX hM hX=>sr (j2 (λb1=>qL 12 [0] U (e9 (v:=I (cG l bu bQ aU ad)) call318 (Be h l eP eO bu bQ j7 j6 aU ad hl vv) U (qO 7 U (lL U (λc1=>?_) (λc1=>?_))))))
 .have e1:fy l bu bQ aU ad=([],false,cG l bu bQ aU ad):=by unfold fy;rw[c1];rfl
  exact sr (qO 5 U (mK [zSN,.bool false,I (cG l bu bQ aU ad)] Re U rd ⟨none,0,by rw[e1];rfl,by rw[e1];exact vE⟩))
 have hex:cG l bu bQ aU ad=0:=by simpa using c1
 obtain⟨hps,hpl⟩:=Hf hex
 have e1:fy l bu bQ aU ad=((conFind l bu bQ (cH l aU ad)).1,(conFind l bu bQ (cH l aU ad)).2,0):=by unfold fy;rw[c1];rfl
 rw[e1]
 have hstl:=OA l aU ad
 generalize hst:cH l aU ad=st at hstl
 refine qT 3 U (aS (uw (λbf=>cS zc326 (λb14=>dK 0 ty326 U U U U U U (qO 3 U (aS (uw (λbm=>cS zc224 (λb15=>dK 0 ty224 U U U U U U (qL 5 [] U (aS (T6 underlying327 bytes329 U ob (by decide) (λbc=>cS zc327 (λb16=>dK 0 ty327 U U U U U U (qO 3 U (aS (kw U U (cS zc330 (λb17=>dK 0 ty330 U U U U U U (ck (fK 0 U hM (λh1 l1 f17=>fK 0 U hM (λh2 l2 f16=>fK 1 U hM (λh3 l3 f15=>fK 2 U hM (λh4 l4 f14=>fK 3 U hM (λh5 l5 f1=>?_))))))))))))))))))))))))))
 have a17:=(gM f17).mono (l2.t (l3.t (l4.t l5)))
 have a16:=(gM f16).mono (l3.t (l4.t l5))
 have a15:=(gM f15).mono (l4.t l5)
 have a14:=(gM f14).mono l5
 have a1:=gM f1
 have l05:h.le h5:=xD l1 (l2.t (l3.t (l4.t l5)))
 clear f17 f16 f15 f14 f1 l1 l2 l3 l4 l5
 refine qT 6 U (aS (eb call320 (Ai h5 l eP eO aU ad (hl.mono av.aB l05)) U (λv1 h6 l6 hp1=>?_)))
 obtain⟨_,rfl,hit⟩:=hp1
 rw[hst]at hit
 refine qO 2 U (ke ?_)
 refine pz (it:=v1) (xs:=st) (ι:=List (Int×List av)×List (Int×Bool)×List iX×List Value×Nat×Obj×List (Int×Option Addr×Nat×Nat)×Obj×LH×HF) [] (λi=>i.2.2.2.2.2.2.2.2.2)
  (λi=>[(bc,.chan l.length i.2.2.2.1.toArray false i.2.2.2.2.1 0 false),(bm,i.2.2.2.2.2.1),(bf,i.2.2.2.2.2.2.2.1)]++i.2.2.2.2.2.2.2.2.1)
  (λrest i=>(conFill bu rest i.1 i.2.1 i.2.2.1=conFill bu st [] [] []/\(∀x∈rest,x∈st))/\(yo i.2.2.2.2.2.2.2.2.2 i.2.2.2.1 i.2.2.1/\lB (jC .i64) sO i.2.2.2.2.2.2.2.2.2 i.2.2.2.2.2.1 i.2.1/\lB (jC .i64) V3 i.2.2.2.2.2.2.2.2.2 i.2.2.2.2.2.2.2.1 i.2.2.2.2.2.2.1/\FR i.2.2.2.2.2.2.2.2.2 i.2.2.2.2.2.2.1 i.1 i.2.2.2.2.2.2.2.2.1)/\(yq st i.2.1 i.2.2.1/\Sq st i.1)/\h6.le i.2.2.2.2.2.2.2.2.2/\(∀k,(mgetD i.1 k []).length+rest.length<=l.length))
  (λ_=>False) (λ_=>False) 0 (λ_ _ _=>False) ([],[],[],[],0,.map #[] 0,[],.map #[] 0,[],h6) Re rfl hit rfl yd (λ_ _ _ _ _ hq=>hq) rfl rfl
  ⟨⟨rfl,λ_ hx=>hx⟩,⟨trivial,lB.nil,lB.nil,rfl⟩,⟨⟨λ_ hp=>(vA hp).elim,Nat.le_refl _,λ_ hp=>(vA hp).elim⟩,λ_ _ hx=>(vA hx).elim⟩,vF _,λk=>by simp[mgetD,mget?];exact hstl⟩ ?_ ?_ (λ_ _ _ hF=>hF.elim) (λ_ _ _ hF=>hF.elim) (λ_ _ _ _ hF=>hF.elim)
 .rintro l1 r1 lp1 x rest vs1 ⟨f,m,q,vs,s,om,m3,o3,Gf,hh⟩ h7 X' hFR ⟨⟨hfill,hin⟩,⟨hwy,hmm,hm3,hfr⟩,⟨hgq,hgf⟩,h6h,hlen⟩ h67 hh7 hv hX' hXM hlp nx rt ex pn
  dsimp only at hfill hin hwy hmm hm3 hfr hgq hgf h6h hh7 hlen
  obtain rfl:=hv
  have hxst:x∈st:=hin x (zB ..)
  have hin':∀y∈rest,y∈st:=λy hy=>hin y (qC _ hy)
  have h57:h5.le h7:=xD l6 h67
  replace hwy:=hwy.mono hh7
  replace hmm:=hmm.mono sO.mono hh7
  replace hm3:=hm3.mono V3.mono hh7
  replace hfr:=hfr.mono hh7
  have h67':h6.le h7:=h67
  clear hh7 h6h
  refine cB (cS zc78 (λb18=>cJ 0 ty78 U U U U U U (ck (nJ 1 U hlp (qT 2 U (eA (L':=[(b18,.cells (av.cells x).toArray 78 (0,0)),(l1,.loop { lp1 with state:=.busy }),(r1,.deferred (some [])),(bc,.chan l.length vs.toArray false s 0 false),(bm,om),(bf,o3)]++Gf) (by simp[markB,setNth]) (qK 6 [0] U (lL U (λcO=>?_) (λcO=>?_)))))))))
  .obtain⟨gb,gc,G1,G2,hget,hgrow,hperm,hput⟩:=hfr.get x.bw
   have hlx:=hlen x.bw
   simp only[xA]at hlx
   have hnext:conFill bu rest (mput f x.bw (mgetD f x.bw []++[x])) m q=conFill bu st [] [] []:=by
    rw[←hfill];simp[conFill,cO]
   have hlen':∀k,(mgetD (mput f x.bw (mgetD f x.bw []++[x])) k []).length+rest.length<=l.length:=λk=>by
    rw[vq]
    split
    .simp only[List.length_append,xA,List.length_nil];omega
    have:=hlen k;simp only[xA]at this;omega
   have fin:∀(e':Env)(b8:Nat)(o8:Obj)(o3':Obj)(gb':Option Addr)(gc':Nat)(G1':LH),di av.rp 78 h7 (mgetD f x.bw []++[x]) gb' gc' G1'->lB (jC .i64) V3 h7 o3' (mput m3 x.bw (gb',(mgetD f x.bw []++[x]).length,gc')) ->
     TT prog (roundFrame l1 237) 111 [.inBlock 2,.inBlock 1] hFR e' [] X' h7 ([(b8,o8),(b18,.cells (av.cells x).toArray 78 (0,0)),(l1,.loop { lp1 with state:=.busy }),(r1,.deferred (some [])),(bc,.chan l.length vs.toArray false s 0 false),(bm,om),(bf,o3')]++(G2++G1')):=by
    intro e' b8 o8 o3' gb' gc' G1' hG' hm'
    obtain⟨G',hfr',hp'⟩:=hput gb' gc' _ G1' hG'
    exact gU (gU (ek (L':=[(l1,.loop { lp1 with state:=.busy }),(r1,.deferred (some [])),(bc,.chan l.length vs.toArray false s 0 false),(bm,om),(bf,o3')]++(G2++G1')) js (jy (L':=[(l1,.loop { lp1 with state:=.busy }),(r1,.deferred (some [])),(bc,.chan l.length vs.toArray false s 0 false),(bm,om),(bf,o3')]++G') (List.Perm.append_left _ (List.perm_append_comm.trans hp'.symm)) (eA (L':=rdH l1 r1 lp1 (([(bc,.chan l.length vs.toArray false s 0 false),(bm,om),(bf,o3')]++G')++markB [])) (by simp[markB]) (nx (mput f x.bw (mgetD f x.bw []++[x]),m,q,vs,s,om,mput m3 x.bw (gb',(mgetD f x.bw []++[x]).length,gc'),o3',G',h7) _ _ ⟨⟨hnext,hin'⟩,⟨hwy,hmm,hm',hfr'⟩,⟨hgq,hgf.put hxst⟩,h67',hlen'⟩ lf)))))
   have hJ:∀{L:LH},Jst h7 [(b18,.cells (av.cells x).toArray 78 (0,0))] h7 ((b18,.cells (av.cells x).toArray 78 (0,0))::L):=D5 js
   have hJ2:∀{L:LH}{p:Nat×Obj},Jst h7 [(b18,.cells (av.cells x).toArray 78 (0,0))] h7 (p::(b18,.cells (av.cells x).toArray 78 (0,0))::L):=D5 js
   refine hU [(b18,.cells (av.cells x).toArray 78 (0,0))] mixed kr hJ (λhsep _=>?_)
   refine j5 0 hsep hJ U U kr U (rh ty326 (a14.mono h57) U) (j5 1 hsep hJ U U kr U (λ_ _ _=>AL R6 U) (j5 2 hsep hJ U U kr U (rj 0 ty3 U U U) (j5 3 hsep hJ U U kr U (rh ty326 (a14.mono h57) U) (j5 4 hsep hJ U U kr U (λ_ _ _=>AL R6 U) (j5 5 hsep hJ U U kr U (rj 0 ty3 U U U) (j5 7 hsep hJ U U kr U (λ_ _ hj=>nQ ty78 U (hj.nth (i:=0) U) U) ?_))))))
   refine np 6 8 kr U U ?_ ?_
   .refine ve 5 (k:=x.bw) Rd (im qZ) U hm3 (gF zv24) (show V3 _ (zSN) (none,0,0)from U) U U (λv hv=>?_)
    rw[hget]at hv
    obtain rfl:=hv
    exact⟨hJ,tn 8 U (cM (cells:=av.cells x) Dn ty78 zc78 U U kr (λb8=>⟨hJ2,tn 9 U (Ie (List.Perm.append_left ([(b8,.cells (av.cells x).toArray 78 (0,0)),(b18,.cells (av.cells x).toArray 78 (0,0)),(l1,.loop { lp1 with state:=.busy }),(r1,.deferred (some [])),(bc,.chan l.length vs.toArray false s 0 false),(bm,om),(bf,o3)]:LH) hperm) (dN av.ft [(b8,.cells (av.cells x).toArray 78 (0,0)),(b18,.cells (av.cells x).toArray 78 (0,0)),(l1,.loop { lp1 with state:=.busy }),(r1,.deferred (some [])),(bc,.chan l.length vs.toArray false s 0 false),(bm,om),(bf,o3)] G2 (λG=>[(b8,.cells (av.cells x).toArray 78 (0,0)),(b18,.cells (av.cells x).toArray 78 (0,0)),(l1,.loop { lp1 with state:=.busy }),(r1,.deferred (some [])),(bc,.chan l.length vs.toArray false s 0 false),(bm,om),(bf,o3)]++(G2++G)) U (λ_=>U) Dn ty78 zc78 U bytes78 hgrow U U (gQ 0 U (show bW av.rp h7 (av.cells x) [x]from⟨av.cells x,[],by simp,U,U,U⟩)) lo lo (λgb' gc' G1' hG'=>⟨hJ2,tn 10 U (pS 6 (k:=x.bw) (x:=(gb',(mgetD f x.bw []++[x]).length,gc')) Rd (im qZ) U hm3 U U U (λo3' hm'=>⟨hJ2,dJ kr (fin _ b8 _ o3' gb' gc' G1' hG' hm')⟩))⟩)))⟩))⟩
   refine cM (cells:=av.cells x) Dn ty78 zc78 U U kr (λb8=>⟨hJ2,tn 6 U (ve 6 (k:=x.bw) Rd (im qZ) U hm3 (gF zv24) (show V3 _ (zSN) (none,0,0)from U) U U (λv hv=>?_))⟩)
   rw[hget]at hv
   obtain rfl:=hv
   exact⟨hJ2,tn 9 U (Ie (List.Perm.append_left ([(b8,.cells (av.cells x).toArray 78 (0,0)),(b18,.cells (av.cells x).toArray 78 (0,0)),(l1,.loop { lp1 with state:=.busy }),(r1,.deferred (some [])),(bc,.chan l.length vs.toArray false s 0 false),(bm,om),(bf,o3)]:LH) hperm) (dN av.ft [(b8,.cells (av.cells x).toArray 78 (0,0)),(b18,.cells (av.cells x).toArray 78 (0,0)),(l1,.loop { lp1 with state:=.busy }),(r1,.deferred (some [])),(bc,.chan l.length vs.toArray false s 0 false),(bm,om),(bf,o3)] G2 (λG=>[(b8,.cells (av.cells x).toArray 78 (0,0)),(b18,.cells (av.cells x).toArray 78 (0,0)),(l1,.loop { lp1 with state:=.busy }),(r1,.deferred (some [])),(bc,.chan l.length vs.toArray false s 0 false),(bm,om),(bf,o3)]++(G2++G)) U (λ_=>U) Dn ty78 zc78 U bytes78 hgrow U U (gQ 0 U (show bW av.rp h7 (av.cells x) [x]from⟨av.cells x,[],by simp,U,U,U⟩)) lo lo (λgb' gc' G1' hG'=>⟨hJ2,tn 10 U (pS 6 (k:=x.bw) (x:=(gb',(mgetD f x.bw []++[x]).length,gc')) Rd (im qZ) U hm3 U U U (λo3' hm'=>⟨hJ2,dJ kr (fin _ b8 _ o3' gb' gc' G1' hG' hm')⟩))⟩)))⟩
  refine qK 4 [0] U (iw ty3 (a1.mono h57) U (qO 3 U ?_))
  have hlen':∀k,(mgetD f k []).length+rest.length<=l.length:=λk=>by have:=hlen k;simp only[xA]at this;omega
  refine lL U (λcP=>?_) (λcP=>?_)
  .have hnext:conFill bu rest f (conPut ⟨[x.No],x.eG⟩ m q).1 (conPut ⟨[x.No],x.eG⟩ m q).2=conFill bu st [] [] []:=by
    rw[←hfill];simp only[conFill,cO,cond_false,cP,cond_true]
   have hpty:(iX.mk [x.No] x.eG).to∈st.map (·.eG):=zT hxst
   refine cB (iw ty330 (a17.mono h57) U (qL 2 [0] U (aS (SC (cells:=[I x.No]) hXM fm ty3 zc3 U U kr (λb65 hb65=>HW 0 U hb65 (λh8 l8 f8=>?_))))))
   have sl8:SlC jB h8 (zAD b65) 1 [x.No]:=bW.slB0 (T:=3) (fz:=(0,0)) (show bW jB h8 [I x.No] [x.No]from⟨[I x.No],[],rfl,rfl,rfl,rfl⟩) f8
   refine qL 2 [0] U (aS (ia (cells:=iX.cells ⟨[x.No],x.eG⟩ ⟨zAD b65,1⟩) (places:=[(0,1),(1,1)]) underlying329 zc329 kr kr ?_))
   refine aS (MT (vs:=[.agg (iX.cells ⟨[x.No],x.eG⟩ ⟨zAD b65,1⟩).toArray]) [(bm,om),(bc,.chan l.length vs.toArray false s 0 false)] ([(b18,.cells (av.cells x).toArray 78 (0,0)),(l1,.loop { lp1 with state:=.busy }),(r1,.deferred (some [])),(bf,o3)]++Gf) ?_
    (ou h8 ⟨[x.No],x.eG⟩ ⟨zAD b65,1⟩ ⟨b15,0,none⟩ ⟨b16,0,none⟩ bm bc om m l.length s 0 vs q ⟨sl8⟩ (a15.mono (h57.t l8)) (a16.mono (h57.t l8)) (hmm.mono sO.mono l8) (hwy.mono l8) (λhno=>by rw[hwy.len];exact Bx hgq hmm.nodup hpty hstl hno)) rfl rfl (λB hB=>?_))
   .exact BL [(b18,.cells (av.cells x).toArray 78 (0,0)),(l1,.loop { lp1 with state:=.busy }),(r1,.deferred (some []))] ((bf,o3)::Gf) (bc,.chan l.length vs.toArray false s 0 false) (bm,om)
   obtain⟨om',vs',s',hm',hw',rfl⟩:=hB
   refine qO 3 U (ek (L':=[(bm,om'),(bc,.chan l.length vs'.toArray false s' 0 false)]++([(l1,.loop { lp1 with state:=.busy }),(r1,.deferred (some [])),(bf,o3)]++Gf)) js ?_)
   refine jy (L':=rdH l1 r1 lp1 (([(bc,.chan l.length vs'.toArray false s' 0 false),(bm,om'),(bf,o3)]++Gf)++markB [])) ?_ ?_
   .rw[show markB []=([]:LH)from rfl,List.append_nil]
    exact(BL [(l1,Obj.loop { lp1 with state:=.busy }),(r1,.deferred (some []))] ((bf,o3)::Gf) (bc,.chan l.length vs'.toArray false s' 0 false) (bm,om')).symm
   exact nx (f,(conPut ⟨[x.No],x.eG⟩ m q).1,(conPut ⟨[x.No],x.eG⟩ m q).2,vs',s',om',m3,o3,Gf,h8) _ _ ⟨⟨hnext,hin'⟩,⟨hw',hm',hm3.mono V3.mono l8,hfr.mono l8⟩,⟨wI hgq hpty (by simp),hgf⟩,xD h67' l8,hlen'⟩ lf
  have hnext:conFill bu rest f m q=conFill bu st [] [] []:=by
   rw[←hfill];simp only[conFill,cO,cond_false,cP]
  exact jf (qT 2 U (ek (L':=[(l1,.loop { lp1 with state:=.busy }),(r1,.deferred (some [])),(bc,.chan l.length vs.toArray false s 0 false),(bm,om),(bf,o3)]++Gf) js (eA (L':=rdH l1 r1 lp1 (([(bc,.chan l.length vs.toArray false s 0 false),(bm,om),(bf,o3)]++Gf)++markB [])) (by simp[markB]) (nx (f,m,q,vs,s,om,m3,o3,Gf,h7) _ _ ⟨⟨hnext,hin'⟩,⟨hwy,hmm,hm3,hfr⟩,⟨hgq,hgf⟩,h67',hlen'⟩ lf))))
 rintro dm ⟨f,m0,q0,vs0,s0,om0,m3,o3,Gf,hh⟩ h7 ⟨⟨hfill,_⟩,⟨hwy,hmm,hm3,hfr⟩,⟨hgq,hgf⟩,h6h,hlen⟩ hh7 h67
 dsimp only at hfill hwy hmm hm3 hfr hgq hgf h6h hh7 hlen
 refine gU (fK 2 U hM (λh8 l8 f8=>HT [(bc,.chan l.length vs0.toArray false s0 0 false),(bm,om0)] Gf (markB [dm]) U hM (λh9 l9 hG9=>?_)))
 have h89:hh.le h9:=xD hh7 (l8.t l9)
 have hmF:lB (jC .i64) (VSl av.rp) h9 o3 f:=FRg.frozen av.aB hm3 hfr h89 hG9
 have hbf:h9 bf=some o3:=l9 _ _ f8
 have h59:h5.le h9:=xD l6 (h67.t (l8.t l9))
 replace a14:=a14.mono h59
 replace a15:=a15.mono h59
 replace a16:=a16.mono h59
 replace a17:=a17.mono h59
 have hpar:=(vv.mono vJ l05).mono vJ h59
 have hcf:conFind l bu bQ st=conLoop bQ f (l.length+1) m0 q0:=by
  unfold conFind;rw[←hfill];rfl
 have hwy0:=hwy.mono h89
 have hmm0:=hmm.mono sO.mono h89
 clear hwy hmm hm3 hfr hG9 l8 f8 h6h hh7 h67 hfill a1
 generalize hCF:conFind l bu bQ st=CF at hcf
 refine eI ?_
 refine km (ι:=List Value×Nat×Nat×Obj×HF) (λi=>[]) (λi=>i.2.2.2.2) (λi=>[(bc,.chan l.length i.1.toArray false i.2.1 i.2.2.1 false),(bm,i.2.2.2.1)]++markB [dm]) (λi=>CF=([],false)) ?_ (λhx=>?_)
 .rintro⟨vs,s,r,om,hh⟩ hc e
  exact sr (qO 4 U (uX [dm] [zSN,.bool false,I 0] Re U rd ⟨none,0,by rw[hc];rfl,by rw[hc];exact vE⟩))
 refine mL (ι:=Nat×List (Int×Bool)×List iX×List Value×Nat×Nat×Obj×HF) (λi=>[(2,.slice j7 bQ.length j6),(14,Q b14),(16,Q b16),(17,Q b17)]) (λi=>i.2.2.2.2.2.2.2)
  (λi=>[(bc,.chan l.length i.2.2.2.1.toArray false i.2.2.2.2.1 i.2.2.2.2.2.1 false),(bm,i.2.2.2.2.2.2.1)]++markB [dm])
  (λi=>CF=conLoop bQ f i.1 i.2.1 i.2.2.1/\i.2.2.1.length+(l.length-i.2.1.length)<i.1/\yo i.2.2.2.2.2.2.2 i.2.2.2.1 i.2.2.1/\lB (jC .i64) sO i.2.2.2.2.2.2.2 i.2.2.2.2.2.2.1 i.2.1/\yq st i.2.1 i.2.2.1/\h9.le i.2.2.2.2.2.2.2)
  (λi=>i.1) (l.length+1,m0,q0,vs0,s0,0,om0,h9) rd (λw hw=>hw) ⟨hcf,?_,hwy0,hmm0,hgq,vF _⟩ ?_
 .show q0.length+(l.length-m0.length)<l.length+1
  have:=hgq.2.1;have:=Uu hgq hmm0.nodup;omega
 clear hcf hwy0 hmm0 hgq
 rintro⟨n,m,q,vs,s,r,om,hh⟩ ⟨hcf,hn,hwy,hmm,hgq,h9h⟩ ag e
 dsimp only at hcf hn hwy hmm hgq h9h
 obtain⟨n,rfl⟩:∃n',n=n'+1:=⟨n-1,by omega⟩
 refine qT 3 U (iw ty327 (a16.mono h9h) U (aS (fU (WB underlying327 (zB ..) U) ?_)))
 rcases q with _|⟨w,q⟩
 .have hv0:vs=[]:=List.eq_nil_of_length_eq_zero hwy.len
  subst hv0
  exact ls (v':=.bool false) U U (qO 3 U (hx ([],s,r,om,hh) _ hcf trivial))
 rcases vs with _|⟨v,vs⟩
 .exact hwy.elim
 obtain⟨⟨wr,rfl,hok⟩,hwy⟩:=hwy
 refine tO (decide_eq_true (by simp)) U (qO 6 U (iw ty327 (a16.mono h9h) U (WJ 0 underlying327 zv329 U U (cS zc329 (λb19=>cJ 0 ty329 U U U U U U (qL 7 [0] U (e9 (v:=.tuple #[I (slices_BinarySearch_int bQ w.to).1,.bool (slices_BinarySearch_int bQ w.to).2]) call321 (pQ hh bQ j7 j6 w.to (hpar.mono vJ h9h) hps ob) U (qO 10 U ?_))))))))
 have hgq':yq st m q:=⟨hgq.1,by have:=hgq.2.1;simp only[xA]at this;omega,λw' hw'=>hgq.2.2 w' (qC _ hw')⟩
 have hw8:=hgq.2.2 w (zB ..)
 simp only[xA]at hn
 refine lL U (λcF=>?_) (λcF=>?_)
 .have hc2:CF=(w.path,true):=by
   rw[hcf];simp only[conLoop];rw[show bQ.contains w.to=true from cF];rfl
  exact qK 8 [0] U (ek (L':=[(bc,.chan l.length vs.toArray false s (r+1) false),(bm,om)]++markB [dm]) js (uX [dm] [.slice wr.AQ w.path.length wr.CY,.bool true,I 0] Re U rd ⟨wr.AQ,wr.CY,by rw[hc2];rfl,by rw[hc2];exact hok.path⟩))
 have hc2:CF=(bif(w.path.length:Int)==8 then conLoop bQ f n m q else conLoop bQ f n (conStep w.path (mgetD f w.to []) m q).1 (conStep w.path (mgetD f w.to []) m q).2):=by
  rw[hcf];simp only[conLoop];rw[show bQ.contains w.to=false from cF];rfl
 refine qK 9 [0] U (lL U (λc8=>?_) (λc8=>?_))
 .rw[show((w.path.length:Int)==8)=true from c8]at hc2
  exact jI U (ek (L':=[(bc,.chan l.length vs.toArray false s (r+1) false),(bm,om)]++markB [dm]) js (ag (n,m,q,vs,s,r+1,om,hh) _ (Nat.lt_succ_self _) ⟨hc2,by show q.length+(l.length-m.length)<n;omega,hwy,hmm,hgq',h9h⟩ rd))
 rw[show((w.path.length:Int)==8)=false from c8]at hc2
 refine qT 3 U (iw ty326 (a14.mono h9h) U (qL 2 [0] U (aS (ru (k:=w.to) Rd (im qZ) (h9h _ _ hbf) (hmF.mono (VSl.mono av.aB) h9h) (gF zv24) (show VSl av.rp _ (zSN) []from⟨none,0,U,vE⟩) U U (λv hv=>?_)))))
 obtain⟨xb,xc,rfl,slx⟩:=hv
 have hxs:∀y∈mgetD f w.to [],y∈st:=hgf w.to
 generalize mgetD f w.to []=xs at slx hc2 hxs
 refine qL 3 [] U ?_
 have hw7:w.path.length+1<=8:=by simp at c8;omega
 have hsum:=Et (path:=w.path) hstl hw7 hxs hgq' hmm.nodup
 generalize hcs:conStep w.path xs m q=CS at hc2 hsum
 refine km (ι:=List Value×Nat×Obj×HF) (λi=>[(2,.slice j7 bQ.length j6),(14,Q b14),(16,Q b16),(17,Q b17)]) (λi=>i.2.2.2) (λi=>[(b19,.cells (iX.cells w wr).toArray 329 (0,0)),(bc,.chan l.length i.1.toArray false i.2.1 (r+1) false),(bm,i.2.2.1)]++markB [dm])
  (λi=>yo i.2.2.2 i.1 CS.2/\lB (jC .i64) sO i.2.2.2 i.2.2.1 CS.1/\yq st CS.1 CS.2/\hh.le i.2.2.2) ?_ (λhx2=>?_)
 .rintro⟨vs2,s2,om2,h10⟩ ⟨hw2,hm2,hg2,kF⟩ e2
  exact gU (ek (L':=[(bc,.chan l.length vs2.toArray false s2 (r+1) false),(bm,om2)]++markB [dm]) js (ag (n,CS.1,CS.2,vs2,s2,r+1,om2,h10) _ (Nat.lt_succ_self _) ⟨hc2,by show CS.2.length+(l.length-CS.1.length)<n;omega,hw2,hm2,hg2,xD h9h kF⟩ rd))
 refine mL (ι:=Nat×List (Int×Bool)×List iX×List Value×Nat×Obj×HF×List av) (λi=>[(2,.slice j7 bQ.length j6),(14,Q b14),(16,Q b16),(17,Q b17),(19,Q b19),(92,.slice xb xs.length xc),(93,I (xs.length:Int)),(94,I (i.1:Int))]) (λi=>i.2.2.2.2.2.2.1)
  (λi=>[(b19,.cells (iX.cells w wr).toArray 329 (0,0)),(bc,.chan l.length i.2.2.2.1.toArray false i.2.2.2.2.1 (r+1) false),(bm,i.2.2.2.2.2.1)]++markB [dm])
  (λi=>xs.drop i.1=i.2.2.2.2.2.2.2/\conStep w.path i.2.2.2.2.2.2.2 i.2.1 i.2.2.1=CS/\yo i.2.2.2.2.2.2.1 i.2.2.2.1 i.2.2.1/\lB (jC .i64) sO i.2.2.2.2.2.2.1 i.2.2.2.2.2.1 i.2.1/\yq st i.2.1 i.2.2.1/\hh.le i.2.2.2.2.2.2.1)
  (λi=>i.2.2.2.2.2.2.2.length) (0,m,q,vs,s,om,hh,xs) rd (λw hw=>hw) ⟨rfl,hcs,hwy,hmm,hgq',vF _⟩ ?_
 rintro⟨i1,m2,q2,vs2,s2,om2,h10,rest⟩ ⟨hd1,hcs2,hw2,hm2,hg2,kF⟩ ag2 e2
 dsimp only at hd1 hcs2 hw2 hm2 hg2 kF
 rcases rest with _|⟨x,rest⟩
 .have hge:=rm hd1
  refine sr (fO hge U (qO 4 U ?_))
  obtain rfl:(m2,q2)=CS:=hcs2
  exact hx2 (vs2,s2,om2,h10) _ ⟨hw2,hm2,hg2,kF⟩ rd
 have hlt:=Bs hd1
 have hget:=sR hd1
 have hxst:x∈st:=hxs x (fe hd1)
 have hpty:(iX.mk (w.path++[x.No]) x.eG).to∈st.map (·.eG):=zT hxst
 have slx2:=slx.mono av.aB kF
 have hokp:=hok.path.mono vJ kF
 have xe:=slx.1.1
 have po:=kl hd1
 have h910:h9.le h10:=xD h9h kF
 refine sr (tO hlt U (qO 8 U (aS (iF av.cells Dn ty78 slx2.1 hget U U U (λqx Ax=>lh ty78 Ax U U (cS zc78 (λb23=>cJ 0 ty78 U U U U U U (ck ?_))))))))
 refine Vm (ι:=List Value×Nat×Obj×HF) (λi=>[(2,.slice j7 bQ.length j6),(14,Q b14),(16,Q b16),(17,Q b17),(19,Q b19),(92,.slice xb xs.length xc),(93,I (xs.length:Int)),(94,I (i1:Int))]) (λi=>i.2.2.2) (λi=>[(b19,.cells (iX.cells w wr).toArray 329 (0,0)),(bc,.chan l.length i.1.toArray false i.2.1 (r+1) false),(bm,i.2.2.1)]++markB [dm])
  (λi=>h10.le i.2.2.2/\yo i.2.2.2 i.1 (conPut ⟨w.path++[x.No],x.eG⟩ m2 q2).2/\lB (jC .i64) sO i.2.2.2 i.2.2.1 (conPut ⟨w.path++[x.No],x.eG⟩ m2 q2).1) ?_ (λfin=>?_)
 .rintro⟨vs3,s3,om3,h11⟩ ⟨l11,hw3,hm3⟩ e3
  dsimp only at l11 hw3 hm3
  exact gU (cB (oi i1 U (qO 2 U (ag2 (i1+1,(conPut ⟨w.path++[x.No],x.eG⟩ m2 q2).1,(conPut ⟨w.path++[x.No],x.eG⟩ m2 q2).2,vs3,s3,om3,h11,rest) _ (Nat.lt_succ_self _) ⟨nl hd1,hcs2,hw3,hm3,wI hg2 hpty (by simpa using hw7),xD kF l11⟩ rd))))
 have hKs:∀p∈([(b23,.cells (av.cells x).toArray 78 (0,0)),(b19,.cells (iX.cells w wr).toArray 329 (0,0))]:LH),p∈([(b23,.cells (av.cells x).toArray 78 (0,0)),(b19,.cells (iX.cells w wr).toArray 329 (0,0)),(bc,.chan l.length vs2.toArray false s2 (r+1) false),(bm,om2)]++markB [dm]:LH):=λp hp=>by
  rcases vC.1 hp with rfl|hp
  .simp
  rw[kB.1 hp];simp
 have hJ:Jst h10 [(b23,.cells (av.cells x).toArray 78 (0,0)),(b19,.cells (iX.cells w wr).toArray 329 (0,0))] h10 ([(b23,.cells (av.cells x).toArray 78 (0,0)),(b19,.cells (iX.cells w wr).toArray 329 (0,0)),(bc,.chan l.length vs2.toArray false s2 (r+1) false),(bm,om2)]++markB [dm]):=⟨vF _,hKs⟩
 refine hU [(b23,.cells (av.cells x).toArray 78 (0,0)),(b19,.cells (iX.cells w wr).toArray 329 (0,0))] mixed kr hJ (λhsep _=>?_)
 refine j5 0 hsep hJ U U kr U (rh ty330 (a17.mono h910) U) (j5 1 hsep hJ U U kr U (λ_ _ _=>AL UV U) (j5 2 hsep hJ U U kr U (rj 1 ty31 U U U) (j5 4 hsep hJ U U kr U (λ_ _ _=>AL VV U) (j5 5 hsep hJ U U kr U (rj 0 ty3 U U U) (j5 8 hsep hJ U U kr U (λ_ _ _=>AL VU U) (j5 9 hsep hJ U U kr U (rj 0 ty3 U U U) ?_))))))
 have hpl8:w.path.length<=wr.CY:=hokp.2
 have hpn:=hokp.1.1
 refine np 3 6 kr U U ?_ ?_
 .refine kg (v:=.slice wr.AQ w.path.length w.path.length) call322 (uZ h10 wr.AQ w.path.length wr.CY hpl8) U ⟨hJ,tn 6 U (cM (cells:=[I x.No]) fm ty3 zc3 U U kr (λb6=>⟨⟨vF _,λp hp=>qC _ (hKs p hp)⟩,tn 7 U (Lz (R:=jB) (xs:=w.path) (ys:=[x.No]) fm ty3 zc3 U bytes3 (iY hokp.1) U U (gQ 0 U (show bW jB h10 [I x.No] [x.No]from⟨[I x.No],[],U,U,U,U⟩)) (by simp) lo lo (λnb nc NG hNG=>⟨⟨vF _,λp hp=>xM NG (qC _ (hKs p hp))⟩,tn 10 U (ia (cells:=iX.cells ⟨w.path++[x.No],x.eG⟩ ⟨nb,nc⟩) (places:=[(0,1),(1,1)]) underlying329 zc329 kr kr ⟨⟨vF _,λp hp=>xM NG (qC _ (hKs p hp))⟩,tn 11 U (nD vJ [] NG ((b6,.cells [jC .i64 x.No].toArray 3 (0,0))::[(b23,.cells (av.cells x).toArray 78 (0,0)),(b19,.cells (iX.cells w wr).toArray 329 (0,0)),(bc,.chan l.length vs2.toArray false s2 (r+1) false),(bm,om2)]++markB [dm]) U hM hNG (λh11 l11 slN=>?_))⟩)⟩))⟩))⟩
  refine MT (vs:=[.agg (iX.cells ⟨w.path++[x.No],x.eG⟩ ⟨nb,nc⟩).toArray]) [(bm,om2),(bc,.chan l.length vs2.toArray false s2 (r+1) false)] ([(b6,.cells [jC .i64 x.No].toArray 3 (0,0)),(b23,.cells (av.cells x).toArray 78 (0,0)),(b19,.cells (iX.cells w wr).toArray 329 (0,0))]++markB [dm]) ?_
   (ou h11 ⟨w.path++[x.No],x.eG⟩ ⟨nb,nc⟩ ⟨b15,0,none⟩ ⟨b16,0,none⟩ bm bc om2 m2 l.length s2 (r+1) vs2 q2 ⟨slN⟩ (a15.mono (h910.t l11)) (a16.mono (h910.t l11)) (hm2.mono sO.mono l11) (hw2.mono l11) (λhno=>by rw[hw2.len];exact Bx hg2 hm2.nodup hpty hstl hno)) rfl rfl (λB hB=>?_)
  .exact BL [(b6,.cells [jC .i64 x.No].toArray 3 (0,0)),(b23,.cells (av.cells x).toArray 78 (0,0)),(b19,.cells (iX.cells w wr).toArray 329 (0,0))] (markB [dm]) (bc,.chan l.length vs2.toArray false s2 (r+1) false) (bm,om2)
  obtain⟨om3,vs3,s3,hm3,hw3,rfl⟩:=hB
  exact⟨⟨l11,λp hp=>by rcases hp with _|⟨_,_|⟨_,h⟩⟩;simp;simp;cases h⟩,xq (K2:=[(b23,.cells (av.cells x).toArray 78 (0,0)),(b19,.cells (iX.cells w wr).toArray 329 (0,0))]) l11 (λ_ hp=>hp) (dJ kr (jy (BL [(b6,.cells [jC .i64 x.No].toArray 3 (0,0)),(b23,.cells (av.cells x).toArray 78 (0,0)),(b19,.cells (iX.cells w wr).toArray 329 (0,0))] (markB [dm]) (bc,.chan l.length vs3.toArray false s3 (r+1) false) (bm,om3)).symm (ek (L':=[(b19,.cells (iX.cells w wr).toArray 329 (0,0)),(bc,.chan l.length vs3.toArray false s3 (r+1) false),(bm,om3)]++markB [dm]) js (fin (vs3,s3,om3,h11) _ ⟨l11,hw3,hm3⟩ rd))))⟩
 refine cM (cells:=[I x.No]) fm ty3 zc3 U U kr (λb6=>⟨⟨vF _,λp hp=>qC _ (hKs p hp)⟩,tn 3 U (kg (v:=.slice wr.AQ w.path.length w.path.length) call322 (uZ h10 wr.AQ w.path.length wr.CY hpl8) U ⟨⟨vF _,λp hp=>qC _ (hKs p hp)⟩,tn 7 U (Lz (R:=jB) (xs:=w.path) (ys:=[x.No]) fm ty3 zc3 U bytes3 (iY hokp.1) U U (gQ 0 U (show bW jB h10 [I x.No] [x.No]from⟨[I x.No],[],U,U,U,U⟩)) (by simp) lo lo (λnb nc NG hNG=>⟨⟨vF _,λp hp=>xM NG (qC _ (hKs p hp))⟩,tn 10 U (ia (cells:=iX.cells ⟨w.path++[x.No],x.eG⟩ ⟨nb,nc⟩) (places:=[(0,1),(1,1)]) underlying329 zc329 kr kr ⟨⟨vF _,λp hp=>xM NG (qC _ (hKs p hp))⟩,tn 11 U (nD vJ [] NG ((b6,.cells [jC .i64 x.No].toArray 3 (0,0))::[(b23,.cells (av.cells x).toArray 78 (0,0)),(b19,.cells (iX.cells w wr).toArray 329 (0,0)),(bc,.chan l.length vs2.toArray false s2 (r+1) false),(bm,om2)]++markB [dm]) U hM hNG (λh11 l11 slN=>?_))⟩)⟩))⟩)⟩)
 refine MT (vs:=[.agg (iX.cells ⟨w.path++[x.No],x.eG⟩ ⟨nb,nc⟩).toArray]) [(bm,om2),(bc,.chan l.length vs2.toArray false s2 (r+1) false)] ([(b6,.cells [jC .i64 x.No].toArray 3 (0,0)),(b23,.cells (av.cells x).toArray 78 (0,0)),(b19,.cells (iX.cells w wr).toArray 329 (0,0))]++markB [dm]) ?_
  (ou h11 ⟨w.path++[x.No],x.eG⟩ ⟨nb,nc⟩ ⟨b15,0,none⟩ ⟨b16,0,none⟩ bm bc om2 m2 l.length s2 (r+1) vs2 q2 ⟨slN⟩ (a15.mono (h910.t l11)) (a16.mono (h910.t l11)) (hm2.mono sO.mono l11) (hw2.mono l11) (λhno=>by rw[hw2.len];exact Bx hg2 hm2.nodup hpty hstl hno)) rfl rfl (λB hB=>?_)
 .exact BL [(b6,.cells [jC .i64 x.No].toArray 3 (0,0)),(b23,.cells (av.cells x).toArray 78 (0,0)),(b19,.cells (iX.cells w wr).toArray 329 (0,0))] (markB [dm]) (bc,.chan l.length vs2.toArray false s2 (r+1) false) (bm,om2)
 obtain⟨om3,vs3,s3,hm3,hw3,rfl⟩:=hB
 exact⟨⟨l11,λp hp=>by rcases hp with _|⟨_,_|⟨_,h⟩⟩;simp;simp;cases h⟩,xq (K2:=[(b23,.cells (av.cells x).toArray 78 (0,0)),(b19,.cells (iX.cells w wr).toArray 329 (0,0))]) l11 (λ_ hp=>hp) (dJ kr (jy (BL [(b6,.cells [jC .i64 x.No].toArray 3 (0,0)),(b23,.cells (av.cells x).toArray 78 (0,0)),(b19,.cells (iX.cells w wr).toArray 329 (0,0))] (markB [dm]) (bc,.chan l.length vs3.toArray false s3 (r+1) false) (bm,om3)).symm (ek (L':=[(b19,.cells (iX.cells w wr).toArray 329 (0,0)),(bc,.chan l.length vs3.toArray false s3 (r+1) false),(bm,om3)]++markB [dm]) js (fin (vs3,s3,om3,h11) _ ⟨l11,hw3,hm3⟩ rd))))⟩
instance k237:Ct 237:=⟨_,call237,@Aj⟩
theorem RS{p:Prop}(h:p:=by
  refine np 7 13 kr U U ?_ ?_
  .exact dN Rp.fR ([]) (iA) (λG=>iA++G) ap (λ_=>ap) fm ty3 zc3 U bytes3 (di.lit (show bW Rp.int hh3 [] ([])from U) U) U U (iY ok3.mn.1) lo lo (λob1 oc1 G2 gr2=>⟨jn,(tn 13 U (cM (cells:=[I y3.No]) fm ty3 zc3 U U kr (λb3=>⟨jn,(tn 14 U (dN Rp.fR ([(b3,O [I y3.No] 3)]++(iA)) ([]) (λG=>[(b3,O [I y3.No] 3)]++(iA++G)) ap (λ_=>ap) fm ty3 zc3 U bytes3 gr2 U U (gQ 0 U (cE (y3.No) U U)) lo lo (λob2 oc2 G3 gr3=>⟨jn,(tn 20 U (ia (cells:=[.slice ob2 (((nthI iN (i2:Int)).mn++[y3.No]).length) oc2,I y3.eG]) (places:=[(0,1),(1,1)]) Lm zc275 kr kr (⟨jn,(tn 21 U (nD Rp.bG ([(b3,O [I y3.No] 3)]++(iA)) G3 ([]) ap hM gr3 (λh2 kF sl2=>vf ([(b3,O [I y3.No] 3)]) iA ([]) (λG=>[(b3,O [I y3.No] 3)]++G) Ll (oT h2 iN vz vy iA (fw.mk ((nthI iN (i2:Int)).mn++[y3.No]) y3.eG) (rJ.mk ob2 oc2) (pc.mono fw.aB kF) (show fw.ok h2 (fw.mk ((nthI iN (i2:Int)).mn++[y3.No]) y3.eG) (rJ.mk ob2 oc2)from⟨sl2⟩) ob) ap (λ_=>ap) U (λob3 oc3 G4 gr4=>⟨⟨kF,λ_ hp=>List.Sublist.subset js hp⟩,xq (K2:=[]) kF (λ_ hp=>hp) (qA [22] U (dJ kr (qT 3 U (oi i3 U (an (ek (L':=G4) js (ag2 ((rwPut iN (fw.mk ((nthI iN (i2:Int)).mn++[y3.No]) y3.eG)),ob3,oc3,G4,h2) hs16 ⟨gr4,(hl3.t kF),ob,ob,ob⟩)))))))⟩))))⟩)))⟩)))⟩)))⟩)
  exact cM (cells:=[I y3.No]) fm ty3 zc3 U U kr (λb4=>⟨jn,(tn 7 U (dN Rp.fR ([(b4,O [I y3.No] 3)]) (iA) (λG=>[(b4,O [I y3.No] 3)]++(iA++G)) ap (λ_=>ap) fm ty3 zc3 U bytes3 (di.lit (show bW Rp.int hh3 [] ([])from U) U) U U (iY ok3.mn.1) lo lo (λob4 oc4 G5 gr5=>⟨jn,(tn 14 U (dN Rp.fR ([(b4,O [I y3.No] 3)]++(iA)) ([]) (λG=>[(b4,O [I y3.No] 3)]++(iA++G)) ap (λ_=>ap) fm ty3 zc3 U bytes3 gr5 U U (gQ 0 U (cE (y3.No) U U)) lo lo (λob5 oc5 G6 gr6=>⟨jn,(tn 20 U (ia (cells:=[.slice ob5 (((nthI iN (i2:Int)).mn++[y3.No]).length) oc5,I y3.eG]) (places:=[(0,1),(1,1)]) Lm zc275 kr kr (⟨jn,(tn 21 U (nD Rp.bG ([(b4,O [I y3.No] 3)]++(iA)) G6 ([]) ap hM gr6 (λh3 kG sl3=>vf ([(b4,O [I y3.No] 3)]) iA ([]) (λG=>[(b4,O [I y3.No] 3)]++G) Ll (oT h3 iN vz vy iA (fw.mk ((nthI iN (i2:Int)).mn++[y3.No]) y3.eG) (rJ.mk ob5 oc5) (pc.mono fw.aB kG) (show fw.ok h3 (fw.mk ((nthI iN (i2:Int)).mn++[y3.No]) y3.eG) (rJ.mk ob5 oc5)from⟨sl3⟩) ob) ap (λ_=>ap) U (λob6 oc6 G7 gr7=>⟨⟨kG,λ_ hp=>List.Sublist.subset js hp⟩,xq (K2:=[]) kG (λ_ hp=>hp) (qA [22] U (dJ kr (qT 3 U (oi i3 U (an (ek (L':=G7) js (ag2 ((rwPut iN (fw.mk ((nthI iN (i2:Int)).mn++[y3.No]) y3.eG)),ob6,oc6,G7,h3) hs16 ⟨gr7,(hl3.t kG),ob,ob,ob⟩)))))))⟩))))⟩)))⟩)))⟩)))⟩)):p:=h
theorem DK(h l eP eO gv bQ j7 j6 aU ad)(hl:SlC av.rp h eP eO l)(vv:SlC jB h j7 j6 bQ)(hsz:l.length<=2000000):j0 prog 154 [.slice eP l.length eO,I gv,.slice j7 bQ.length j6,I aU,I ad] h (λv h'=>∃(rb0:Option Addr)(rc0:Nat),v=.tuple #[.slice rb0 ((bJ l gv bQ aU ad).1).length rc0,.bool ((bJ l gv bQ aU ad).2.1),I ((bJ l gv bQ aU ad).2.2)]/\SlC jB h' rb0 rc0 ((bJ l gv bQ aU ad).1)):=by
 refine sT func154 U ntmps154 U λX hM hX hF=>?_
 have hs0:=@rfl _ (bJ l gv bQ aU ad)
 have hall:=Kq l aU ad
 refine qT 13 U (e9 call245 (Iu _ _ _ _ gv _ _ _ aU ad hl vv) U (qO 8 U (dy hs0 U (λc1 hs1=>?_) (λc1 hs2=>?_))))
 .refine qT 7 U ?_
  have hs3:bJ l gv bQ aU ad=([],false,(lg l gv bQ aU ad)):=hs1
  exact nretH [zSN,.bool false,I (lg l gv bQ aU ad)] (hs3▸⟨none,0,U,vE⟩)
 refine qT 6 U (aS (eb call246 (DJ _ _ _ _ aU ad hl ob) U (λv1 h1 kE hp1=>?_)))
 obtain⟨rb1,rc1,rfl,sl1⟩:=hp1
 refine qO 4 U (aS (lC Fz ty275 (λb1=>qO 7 U ?_)))
 obtain⟨G1,gr1,ge1⟩:∃G:LH,di fw.rp 275 h1 ([]) (zAD b1) 0 G/\[(b1,O [] 275)]=G:=⟨_,di.lit (show bW fw.rp h1 [] ([])from rfl) rfl,rfl⟩
 refine eA (L':=([])++([(b1,O [] 275)]++([]))) ap ?_
 rw[ge1]
 refine jy (List.Perm.append_left _ List.perm_append_comm) (eA (L':=G1) ap ?_)
 refine lp2 (dD l aU ad) (λi w=>[(1,I gv),(2,.slice j7 bQ.length j6),(14,.slice rb1 ((dD l aU ad).length) rc1),(15,.slice w.2.1 w.1.length w.2.2.1),(16,I (i:Int))]) (λw=>w.2.2.2.2) (λw=>w.2.2.2.1) (λi w=>di fw.rp 275 w.2.2.2.2 w.1 w.2.1 w.2.2.1 w.2.2.2.1/\zM h1 w.2.2.2.2/\uo (dD l aU ad) w.1) (λs1 i w=>(bJ.L1 gv (bJ.K1 l bQ aU ad)) s1 w.1) ([],(zAD b1),0,G1,h1) sl1.1.1 hs2 ⟨gr1,lf,uo.nil⟩ ?_ ?_ ?_
 .rintro i1 ⟨pM,JK,JJ,Fk,hh1⟩ pq hs4 ⟨Fj,hl1,kR⟩ e
  try dsimp only at Fj hl1 kR
  refine qT 5 U ?_
  refine km (ι:=Nat×List fw×Option Addr×Nat×LH×HF) (λi=>[]) (λi=>i.2.2.2.2.2) (λi=>i.2.2.2.2.1) (λi=>bJ l gv bQ aU ad=(bJ.K2) i.1 i.2.1/\di fw.rp 275 i.2.2.2.2.2 i.2.1 i.2.2.1 i.2.2.2.1 i.2.2.2.2.1/\zM hh1 i.2.2.2.2.2) ?_ (λhx2=>?_)
  .rintro⟨i2,nR,NP,NO,NQ,hh2⟩ ⟨hs5,tZ,hl2⟩ e
   try dsimp only at tZ hl2
   refine qT 6 U ?_
   have hs6:bJ l gv bQ aU ad=([],false,0):=hs5
   exact nretH [zSN,.bool false,I 0] (hs6▸⟨none,0,U,vE⟩)
  refine mL (ι:=Nat×List fw×Option Addr×Nat×LH×HF×Nat) (λi=>[(2,.slice j7 bQ.length j6),(14,.slice rb1 ((dD l aU ad).length) rc1),(15,.slice i.2.2.1 i.2.1.length i.2.2.2.1),(17,I (i.1:Int))]) (λi=>i.2.2.2.2.2.1) (λi=>i.2.2.2.2.1) (λi=>bJ l gv bQ aU ad=(bJ.L2 l bQ aU ad (bJ.K2)) i.2.2.2.2.2.2 i.1 i.2.1/\i.2.2.2.2.2.2+i.1=(l.length+1)/\di fw.rp 275 i.2.2.2.2.2.1 i.2.1 i.2.2.1 i.2.2.2.1 i.2.2.2.2.1/\zM hh1 i.2.2.2.2.2.1/\uo (dD l aU ad) i.2.1) (λi=>i.2.2.2.2.2.2) (0,pM,JK,JJ,Fk,hh1,(l.length+1)) rd sw ⟨hs4,U,Fj,lf,ob⟩ ?_
  rintro⟨i2,nR,NP,NO,NQ,hh2,rz2⟩ ⟨hs7,hf2,tZ,hl2,u2_0⟩ ag1 e
  try dsimp only at hf2 tZ hl2 u2_0
  have hwl:=u2_0.len
  rcases Nat.lt_or_ge i2 nR.length with L8|hge2p
  .obtain⟨rz2,rfl⟩:∃q,rz2=q+1:=⟨rz2-1,by omega⟩
   have Cr:decide ((i2:Int)<(nR.length:Int))=true:=decide_eq_true ob
   have hs8:=hs7.trans (bt Cr)
   refine qK 6 [] U (tO Cr U (qO 11 U ?_))
   have ho1:0<=((i2:Int):Int)/\((i2:Int):Int)<((nR).length:Int):=ob
   have hgz:=di.pE tZ (by omega)
   obtain⟨bk1,hbk1⟩:=hgz
   refine aS (fU (nU (R:=fw.rp) (xs:=nR) Fz ty275 hbk1 ho1 rfl rfl rfl) (qL 1 [] rfl (aS (fU (Cz (R:=fw.rp) (i:=((i2:Int):Int).toNat) (off:=1) ty3 tZ hbk1 (eu ho1) (λcs_z hcs=>by obtain⟨q,e1,_⟩:=hcs;rw[e1];rfl) rfl mh) (e9 call248 (M2 _ _ _ _ ((nthI nR (i2:Int)).To) (vv.mono vJ ((kE.t hl1).t hl2))) rfl (ck (dy hs8 rfl (λc2 hs9=>?_) (λc2 hs10=>?_))))))))
   .refine qT 4 U ?_
    have ho2:0<=((i2:Int):Int)/\((i2:Int):Int)<((nR).length:Int):=ob
    have hgz:=di.pE tZ (by omega)
    obtain⟨bk2,hbk2⟩:=hgz
    refine aS (fU (nU (R:=fw.rp) (xs:=nR) Fz ty275 hbk2 ho2 U U U) (qL 1 [] U ?_))
    obtain⟨_,⟨r1,rfl,ok1⟩,hi1⟩:=di.elem tZ (eu ho2)
    refine aS (fU (I0 (off:=0) ty31 hi1 hbk2 U U mh) (qO 4 U ?_))
    have hs11:bJ l gv bQ aU ad=((nthI nR (i2:Int)).mn,true,0):=hs9
    exact nretH [.slice r1.N4 ((nthI nR (i2:Int)).mn.length) r1.N3,.bool true,I 0] (hs11▸⟨r1.N4,r1.N3,U,ok1.mn⟩)
   refine qT 6 U ?_
   have ho3:0<=((i2:Int):Int)/\((i2:Int):Int)<((nR).length:Int):=ob
   have hgz:=di.pE tZ (by omega)
   obtain⟨bk3,hbk3⟩:=hgz
   refine aS (fU (nU (R:=fw.rp) (xs:=nR) Fz ty275 hbk3 ho3 U U U) (qL 1 [] U ?_))
   obtain⟨_,⟨r2,rfl,ok2⟩,hi2⟩:=di.elem tZ (eu ho3)
   refine aS (fU (I0 (off:=0) ty31 hi2 hbk3 U U mh) (qL 3 [] U (dy hs10 U (λc3 hs12=>?_) (λc3 hs13=>?_))))
   .exact jI U (qT 2 U (oi i2 U (an (ag1 ((i2+1),nR,NP,NO,NQ,hh2,rz2) _ (Nat.lt_succ_self _) ⟨hs12,(by dsimp only;omega),tZ,hl2,ob⟩ rd))))
   refine qT 5 U ?_
   refine lp2 (dD l aU ad) (λi w=>[(2,.slice j7 bQ.length j6),(14,.slice rb1 ((dD l aU ad).length) rc1),(15,.slice w.2.1 w.1.length w.2.2.1),(17,I (i2:Int)),(18,I (i:Int))]) (λw=>w.2.2.2.2) (λw=>w.2.2.2.1) (λi w=>di fw.rp 275 w.2.2.2.2 w.1 w.2.1 w.2.2.1 w.2.2.2.1/\zM hh2 w.2.2.2.2/\uo (dD l aU ad) w.1/\i2<w.1.length/\nthI w.1 (i2:Int)=nthI nR (i2:Int)) (λs3 i w=>(bJ.L3 i2 (λzg3_15=>(bJ.L2 l bQ aU ad (bJ.K2) rz2 (i2+1) zg3_15))) s3 w.1) (nR,NP,NO,NQ,hh2) ((sl1.mono av.aB (hl1.t hl2)).1.1) hs13 ⟨tZ,lf,ob,ob,U⟩ ?_ ?_ ?_
   .rintro i3 ⟨iN,vz,vy,iA,hh3⟩ Ff hs14 ⟨pc,hl3,u3_0,u3_1,u3_2⟩ e
    try dsimp only at pc hl3 u3_0 u3_1 u3_2
    exact gU (qT 2 U (oi i2 U (an (ag1 ((i2+1),iN,vz,vy,iA,hh3,rz2) _ (Nat.lt_succ_self _) ⟨hs14,(by dsimp only;omega),pc,(hl2.t hl3),ob⟩ rd))))
   .rintro i3 ⟨iN,vz,vy,iA,hh3⟩ y3 rz3 hd3 NE qb L7 WO hs15 ⟨pc,hl3,u3_0,u3_1,u3_2⟩ hx3 ag2 e
    try dsimp only at pc hl3 u3_0 u3_1 u3_2
    have hpl:(nthI iN (i2:Int)).mn.length<=7:=(by have q8:=uo.at u3_0 u3_1;rw[u3_2]at q8 ⊢;simp only[beq_eq_false_iff_ne]at *;omega)
    have hW3:=uo.put (x:=(fw.mk ((nthI iN (i2:Int)).mn++[y3.No]) y3.eG)) u3_0 (LO (fe hd3)) lo
    have hN3:=Nat.lt_of_lt_of_le u3_1 (OP iN (fw.mk ((nthI iN (i2:Int)).mn++[y3.No]) y3.eG))
    have hR3:=(LB (fw.mk ((nthI iN (i2:Int)).mn++[y3.No]) y3.eG) u3_1).trans u3_2
    have hL3:=u3_0.len
    refine qK 6 [] U (tO NE U (qO 6 U ?_))
    refine MJ [(2,.slice j7 bQ.length j6),(14,.slice rb1 ((dD l aU ad).length) rc1),(15,.slice vz iN.length vy),(17,I (i2:Int)),(18,I (i3:Int)),(116,.bool (y3.Of&&(y3.bw==(nthI iN (i2:Int)).To)))] (λe=>?_) (λhk1=>?_)
    rotate_left
    .refine hU (iA) mixed kr jn (λkI _=>?_)
     refine qA [0,1] U (jr 2 (enc:=av.cells) kI jn ei Dn ty78 (sl1.mono av.aB ((hl1.t hl2).t hl3)).1 (nthZ qb) (jk qb) U U U U kr (λq5 A5=>qB [3] U (tf 4 U U (rH 5 ty4 A5 U U) (tm 5 U ?_))))
     refine pk 104 U (λc4=>?_) (λc4=>?_)
     .refine qA [6,7] U (jr 8 (enc:=av.cells) kI jn ei Dn ty78 (sl1.mono av.aB ((hl1.t hl2).t hl3)).1 (nthZ qb) (jk qb) U U U U kr (λq6 A6=>qB [9] U (tf 10 U U (rH 3 ty3 A6 U U) (qA [11,12] U ?_))))
      have ho5:0<=((i2:Int):Int)/\((i2:Int):Int)<((iN).length:Int):=ob
      have hgz:=di.pE pc (by omega)
      obtain⟨bk5,hbk5⟩:=hgz
      exact tf 13 rfl rfl (λ_ _ _=>nU (R:=fw.rp) (xs:=iN) Fz ty275 hbk5 ho5 rfl rfl rfl) (qB [14] rfl (tf 15 rfl rfl (λ_ _ hj=>Cz (R:=fw.rp) (i:=((i2:Int):Int).toNat) (off:=1) ty3 pc hbk5 (eu ho5) (λcs_z hcs=>by obtain⟨q,e1,_⟩:=hcs;rw[e1];rfl) rfl (mj hj)) (qA [16,17] rfl (dJ kr (hk1 _ ⟨rfl,rfl,rfl,rfl,rfl,(cb (show(y3.bw==(nthI iN (i2:Int)).To)=(y3.Of&&(y3.bw==(nthI iN (i2:Int)).To))from by rw[c4]<;>rfl)),trivial⟩)))))
     exact tk 6 U U (qR 7 11 U (dJ kr (hk1 _ ⟨U,U,U,U,U,(cb (show false=(y3.Of&&(y3.bw==(nthI iN (i2:Int)).To))from by rw[c4]<;>rfl)),trivial⟩)))
    refine dy hs15 U (λc5 hs16=>?_) (λc5 hs17=>?_)
    .refine hU ([]) mixed kr jn (λow _=>?_)
     refine qA [0,2,3] U ?_
     have ho6:0<=((i2:Int):Int)/\((i2:Int):Int)<((iN).length:Int):=ob
     have hgz:=di.pE pc (by omega)
     obtain⟨bk6,hbk6⟩:=hgz
     refine tf 4 U U (λ_ _ _=>nU (R:=fw.rp) (xs:=iN) Fz ty275 hbk6 ho6 U U U) (qB [5,8,9] U (jr 10 (enc:=av.cells) ow jn ei Dn ty78 (sl1.mono av.aB ((hl1.t hl2).t hl3)).1 (nthZ qb) (jk qb) U U U U kr (λq7 A7=>qB [11] U (tf 12 U U (rh ty3 A7 U) (qA [15,16] U (jr 17 (enc:=av.cells) ow jn ei Dn ty78 (sl1.mono av.aB ((hl1.t hl2).t hl3)).1 (nthZ qb) (jk qb) U U U U kr (λq8 A8=>qB [18] U (tf 19 U U (rH 4 ty3 A8 U U) ?_))))))))
     refine TN 1 6 13 kr U U U ?_ ?_ ?_
     .refine lC fm ty3 (λb2=>⟨jn,?_⟩)
      refine np 6 13 kr U U ?_ ?_
      .obtain⟨_,⟨r3,rfl,ok3⟩,hi3⟩:=di.elem pc (eu ho6)
       refine fU (I0 (off:=0) ty31 hi3 hbk6 U U mh) (⟨jn,?_⟩)
       exact RS
      refine cM (cells:=[I y3.No]) fm ty3 zc3 U U kr (λb5=>⟨jn,(tn 6 U ?_)⟩)
      obtain⟨_,⟨r4,rfl,ok4⟩,hi4⟩:=di.elem pc (eu ho6)
      exact fU (I0 (off:=0) ty31 hi4 hbk6 U U mh) (⟨jn,tn 7 U (dN XZ ([(b5,O [I y3.No] 3)]) (iA) (λG=>[(b5,O [I y3.No] 3)]++(iA++G)) ap (λ_=>ap) fm ty3 zc3 U bytes3 (di.lit (show bW jB hh3 [] ([])from U) U) U U (iY ok4.mn.1) lo lo (λob7 oc7 G8 gr8=>⟨jn,(tn 14 U (dN XZ ([(b5,O [I y3.No] 3)]++(iA)) ([]) (λG=>[(b5,O [I y3.No] 3)]++(iA++G)) ap (λ_=>ap) fm ty3 zc3 U bytes3 gr8 U U (gQ 0 U (cE (y3.No) U U)) lo lo (λob8 oc8 G9 gr9=>⟨jn,(tn 20 U (ia (cells:=[.slice ob8 (((nthI iN (i2:Int)).mn++[y3.No]).length) oc8,I y3.eG]) (places:=[(0,1),(1,1)]) Lm zc275 kr kr (⟨jn,(tn 21 U (nD vJ ([(b5,O [I y3.No] 3)]++(iA)) G9 ([]) ap hM gr9 (λh4 kK sl4=>vf ([(b5,O [I y3.No] 3)]) iA ([]) (λG=>[(b5,O [I y3.No] 3)]++G) Ll (oT h4 iN vz vy iA (fw.mk ((nthI iN (i2:Int)).mn++[y3.No]) y3.eG) (rJ.mk ob8 oc8) (pc.mono fw.aB kK) (show fw.ok h4 (fw.mk ((nthI iN (i2:Int)).mn++[y3.No]) y3.eG) (rJ.mk ob8 oc8)from⟨sl4⟩) ob) ap (λ_=>ap) U (λob9 oc9 G10 gr10=>⟨⟨kK,λ_ hp=>List.Sublist.subset js hp⟩,xq (K2:=[]) kK (λ_ hp=>hp) (qA [22] U (dJ kr (qT 3 U (oi i3 U (an (ek (L':=G10) js (ag2 ((rwPut iN (fw.mk ((nthI iN (i2:Int)).mn++[y3.No]) y3.eG)),ob9,oc9,G10,h4) hs16 ⟨gr10,(hl3.t kK),ob,ob,ob⟩)))))))⟩))))⟩)))⟩)))⟩))⟩)
     .obtain⟨_,⟨r5,rfl,ok3⟩,hi5⟩:=di.elem pc (eu ho6)
      refine fU (I0 (off:=0) ty31 hi5 hbk6 U U mh) (⟨jn,?_⟩)
      refine np 1 13 kr U U ?_ ?_
      .refine lC fm ty3 (λb6=>⟨jn,?_⟩)
       exact RS
      exact cM (cells:=[I y3.No]) fm ty3 zc3 U U kr (λb9=>⟨jn,(tn 1 U (lC fm ty3 (λb10=>⟨jn,(tn 7 U (dN XZ ([]) ([(b9,O [I y3.No] 3)]++(iA)) (λG=>[(b9,O [I y3.No] 3)]++(iA++G)) ap (λ_=>ap) fm ty3 zc3 U bytes3 (di.lit (show bW jB hh3 [] ([])from U) U) U U (iY ok3.mn.1) lo lo (λob16 oc16 G17 gr17=>⟨jn,(tn 14 U (dN XZ ([(b9,O [I y3.No] 3)]++(iA)) ([]) (λG=>[(b9,O [I y3.No] 3)]++(iA++G)) ap (λ_=>ap) fm ty3 zc3 U bytes3 gr17 U U (gQ 0 U (cE (y3.No) U U)) lo lo (λob17 oc17 G18 gr18=>⟨jn,(tn 20 U (ia (cells:=[.slice ob17 (((nthI iN (i2:Int)).mn++[y3.No]).length) oc17,I y3.eG]) (places:=[(0,1),(1,1)]) Lm zc275 kr kr (⟨jn,(tn 21 U (nD vJ ([(b9,O [I y3.No] 3)]++(iA)) G18 ([]) ap hM gr18 (λh7 hle7 sl7=>vf ([(b9,O [I y3.No] 3)]) iA ([]) (λG=>[(b9,O [I y3.No] 3)]++G) Ll (oT h7 iN vz vy iA (fw.mk ((nthI iN (i2:Int)).mn++[y3.No]) y3.eG) (rJ.mk ob17 oc17) (pc.mono fw.aB hle7) (show fw.ok h7 (fw.mk ((nthI iN (i2:Int)).mn++[y3.No]) y3.eG) (rJ.mk ob17 oc17)from⟨sl7⟩) ob) ap (λ_=>ap) U (λob18 oc18 G19 gr19=>⟨⟨hle7,λ_ hp=>List.Sublist.subset js hp⟩,xq (K2:=[]) hle7 (λ_ hp=>hp) (qA [22] U (dJ kr (qT 3 U (oi i3 U (an (ek (L':=G19) js (ag2 ((rwPut iN (fw.mk ((nthI iN (i2:Int)).mn++[y3.No]) y3.eG)),ob18,oc18,G19,h7) hs16 ⟨gr19,(hl3.t hle7),ob,ob,ob⟩)))))))⟩))))⟩)))⟩)))⟩)))⟩)))⟩)
     refine cM (cells:=[I y3.No]) fm ty3 zc3 U U kr (λb11=>⟨jn,?_⟩)
     refine np 1 6 kr U U ?_ ?_
     .refine lC fm ty3 (λb12=>⟨jn,(tn 6 U ?_)⟩)
      obtain⟨_,⟨r6,rfl,ok6⟩,hi6⟩:=di.elem pc (eu ho6)
      exact fU (I0 (off:=0) ty31 hi6 hbk6 U U mh) (⟨jn,tn 7 U (dN XZ ([]) ([(b11,O [I y3.No] 3)]++(iA)) (λG=>[(b11,O [I y3.No] 3)]++(iA++G)) ap (λ_=>ap) fm ty3 zc3 U bytes3 (di.lit (show bW jB hh3 [] ([])from U) U) U U (iY ok6.mn.1) lo lo (λob19 oc19 G20 gr20=>⟨jn,(tn 14 U (dN XZ ([(b11,O [I y3.No] 3)]++(iA)) ([]) (λG=>[(b11,O [I y3.No] 3)]++(iA++G)) ap (λ_=>ap) fm ty3 zc3 U bytes3 gr20 U U (gQ 0 U (cE (y3.No) U U)) lo lo (λob20 oc20 G21 gr21=>⟨jn,(tn 20 U (ia (cells:=[.slice ob20 (((nthI iN (i2:Int)).mn++[y3.No]).length) oc20,I y3.eG]) (places:=[(0,1),(1,1)]) Lm zc275 kr kr (⟨jn,(tn 21 U (nD vJ ([(b11,O [I y3.No] 3)]++(iA)) G21 ([]) ap hM gr21 (λh8 hle8 sl8=>vf ([(b11,O [I y3.No] 3)]) iA ([]) (λG=>[(b11,O [I y3.No] 3)]++G) Ll (oT h8 iN vz vy iA (fw.mk ((nthI iN (i2:Int)).mn++[y3.No]) y3.eG) (rJ.mk ob20 oc20) (pc.mono fw.aB hle8) (show fw.ok h8 (fw.mk ((nthI iN (i2:Int)).mn++[y3.No]) y3.eG) (rJ.mk ob20 oc20)from⟨sl8⟩) ob) ap (λ_=>ap) U (λob21 oc21 G22 gr22=>⟨⟨hle8,λ_ hp=>List.Sublist.subset js hp⟩,xq (K2:=[]) hle8 (λ_ hp=>hp) (qA [22] U (dJ kr (qT 3 U (oi i3 U (an (ek (L':=G22) js (ag2 ((rwPut iN (fw.mk ((nthI iN (i2:Int)).mn++[y3.No]) y3.eG)),ob21,oc21,G22,h8) hs16 ⟨gr22,(hl3.t hle8),ob,ob,ob⟩)))))))⟩))))⟩)))⟩)))⟩))⟩)
     obtain⟨_,⟨r7,rfl,ok7⟩,hi7⟩:=di.elem pc (eu ho6)
     exact fU (I0 (off:=0) ty31 hi7 hbk6 U U mh) (⟨jn,tn 1 U (lC fm ty3 (λb13=>⟨jn,(tn 7 U (dN XZ ([]) ([(b11,O [I y3.No] 3)]++(iA)) (λG=>[(b11,O [I y3.No] 3)]++(iA++G)) ap (λ_=>ap) fm ty3 zc3 U bytes3 (di.lit (show bW jB hh3 [] ([])from U) U) U U (iY ok7.mn.1) lo lo (λob22 oc22 G23 gr23=>⟨jn,(tn 14 U (dN XZ ([(b11,O [I y3.No] 3)]++(iA)) ([]) (λG=>[(b11,O [I y3.No] 3)]++(iA++G)) ap (λ_=>ap) fm ty3 zc3 U bytes3 gr23 U U (gQ 0 U (cE (y3.No) U U)) lo lo (λob23 oc23 G24 gr24=>⟨jn,(tn 20 U (ia (cells:=[.slice ob23 (((nthI iN (i2:Int)).mn++[y3.No]).length) oc23,I y3.eG]) (places:=[(0,1),(1,1)]) Lm zc275 kr kr (⟨jn,(tn 21 U (nD vJ ([(b11,O [I y3.No] 3)]++(iA)) G24 ([]) ap hM gr24 (λh9 hle9 sl9=>vf ([(b11,O [I y3.No] 3)]) iA ([]) (λG=>[(b11,O [I y3.No] 3)]++G) Ll (oT h9 iN vz vy iA (fw.mk ((nthI iN (i2:Int)).mn++[y3.No]) y3.eG) (rJ.mk ob23 oc23) (pc.mono fw.aB hle9) (show fw.ok h9 (fw.mk ((nthI iN (i2:Int)).mn++[y3.No]) y3.eG) (rJ.mk ob23 oc23)from⟨sl9⟩) ob) ap (λ_=>ap) U (λob24 oc24 G25 gr25=>⟨⟨hle9,λ_ hp=>List.Sublist.subset js hp⟩,xq (K2:=[]) hle9 (λ_ hp=>hp) (qA [22] U (dJ kr (qT 3 U (oi i3 U (an (ek (L':=G25) js (ag2 ((rwPut iN (fw.mk ((nthI iN (i2:Int)).mn++[y3.No]) y3.eG)),ob24,oc24,G25,h9) hs16 ⟨gr25,(hl3.t hle9),ob,ob,ob⟩)))))))⟩))))⟩)))⟩)))⟩)))⟩))⟩)
    exact jf (qT 3 U (oi i3 U (an (ag2 (iN,vz,vy,iA,hh3) hs17 ⟨pc,hl3,ob,ob,ob⟩))))
   rintro i3 ⟨iN,vz,vy,iA,hh3⟩ hd3 UA hx e
   exact qK 6 [] U (fO UA U (qO 3 U (hx _ rd)))
  have PH:decide ((i2:Int)<(nR.length:Int))=false:=decide_eq_false ob
  have hs8:bJ l gv bQ aU ad=(bJ.K2) i2 nR:=by cases rz2 with|zero=>exact hs7|succ q=>exact hs7.trans (bf PH)
  exact qK 6 [] U (fO PH U (qO 3 U (hx2 (i2,nR,NP,NO,NQ,hh2) _ ⟨hs8,tZ,hl2⟩ trivial)))
 .rintro i1 ⟨pM,JK,JJ,Fk,hh1⟩ y1 rz1 hd1 ns iI po xe hs18 ⟨Fj,hl1,kR⟩ hx1 ag3 e
  try dsimp only at Fj hl1 kR
  have hL1:=kR.len
  have hW1:=uo.put (x:=(fw.mk [y1.No] y1.eG)) kR (LO (fe hd1)) (by simp)
  refine qK 6 [] U (tO ns U (qO 9 U (aS (iF av.cells Dn ty78 (sl1.mono av.aB hl1).1 iI U U U (λq9 A9=>qL 1 [] U (nm (j:=5) ty4 A9 U U (qO 2 U (pF 8 [45,46,47,48,49,50,51,52,53] 45 53 (y1.bw==gv) U (λc6 hk2=>?_) (λe=>?_)))))))))
  .exact dU (dU (aS (iF av.cells Dn ty78 (sl1.mono av.aB hl1).1 iI U U U (λq10 A10=>qL 1 [] U (nm (j:=3) ty3 A10 U U (qO 3 U (hk2 _ U)))))))
  refine ck (dy hs18 U (λc7 hs19=>?_) (λc7 hs20=>?_))
  .refine hU ([]) mixed kr jn (λF4 _=>?_)
   refine qR 0 3 U (jr 3 (enc:=av.cells) F4 jn ei Dn ty78 (sl1.mono av.aB hl1).1 (nthZ iI) (jk iI) U U U U kr (λq11 A11=>qB [4] U (tf 5 U U (rh ty3 A11 U) (qA [7,8] U (jr 9 (enc:=av.cells) F4 jn ei Dn ty78 (sl1.mono av.aB hl1).1 (nthZ iI) (jk iI) U U U U kr (λq12 A12=>qB [10] U (tf 11 U U (rH 4 ty3 A12 U U) (tn 6 U (cM (cells:=[I y1.No]) fm ty3 zc3 U U kr (λb14=>⟨jn,tn 12 U (ia (cells:=[.slice (zAD b14) 1 1,I y1.eG]) (places:=[(0,1),(1,1)]) Lm zc275 kr kr (⟨jn,tn 13 U (SA 0 U hM (λh10 hle10 hb1=>?_))⟩))⟩))))))))))
   have sl10:SlC jB h10 (zAD b14) 1 ([y1.No]):=bW.slB0 (T:=3) (fz:=(0,0)) ((show bW jB hh1 [I y1.No] ([y1.No])from⟨[I y1.No],[],rfl,rfl,rfl,rfl⟩).mono vJ hle10) hb1
   exact vf ([]) Fk ([]) (λG=>G) Ll (oT h10 pM JK JJ Fk (fw.mk ([y1.No]) y1.eG) (rJ.mk (zAD b14) 1) (Fj.mono fw.aB hle10) (show fw.ok h10 (fw.mk ([y1.No]) y1.eG) (rJ.mk (zAD b14) 1)from⟨sl10⟩) ob) ap (λ_=>ap) U (λob25 oc25 G26 gr26=>⟨⟨hle10,λ_ hp=>List.Sublist.subset (List.nil_sublist _) hp⟩,xq (K2:=[]) hle10 (λ_ hp=>hp) (qA [14] U (dJ kr (qT 3 U (oi i1 U (an (ag3 ((rwPut pM (fw.mk ([y1.No]) y1.eG)),ob25,oc25,G26,h10) hs19 ⟨gr26,(hl1.t hle10),ob⟩))))))⟩)
  exact jf (qT 3 U (oi i1 U (an (ag3 (pM,JK,JJ,Fk,hh1) hs20 ⟨Fj,hl1,ob⟩))))
 rintro i1 ⟨pM,JK,JJ,Fk,hh1⟩ hd1 rZ hx e
 exact qK 6 [] U (fO rZ U (qO 3 U (hx _ rd)))
instance k154:Ct 154:=⟨_,call154,@DK⟩
theorem CV(h s):Ret prog 365 [.string s] h (.bool (gy s)):=by
 refine sVv func365 ntmps365 ?_
 generalize hz:(gy s)=z
 exact W
instance k365:Ct 365:=⟨_,call365,@CV⟩
theorem Hg(h l eP eO cV to)(q:bL)(hl:SlC aE.rp h eP eO l):Ret prog 331 [.slice eP l.length eO,I cV,I to,.agg (bL.cells q).toArray] h (I (ly l cV to q)):=by
 refine sVv func331 ntmps331 ?_
 generalize hz:(ly l cV to q)=z
 exact W
theorem EU(h l eP eO vK bV bU aT)(hl:SlC aj.rp h eP eO l)(iC:SlC jB h bV bU vK)(hsn:l.length<=2000000):j0 prog 113 [.slice eP l.length eO,.slice bV vK.length bU,I aT] h (λv h'=>∃(rb0:Option Addr)(rc0:Nat),v=.tuple #[.slice rb0 ((ej l vK aT).1).length rc0,I ((ej l vK aT).2)]/\SlC jB h' rb0 rc0 ((ej l vK aT).1)):=by
 refine sVv func113 ntmps113 ?_
 generalize hz:(ej l vK aT)=z
 have gk:=trivial
 have q0:=@uM
 have q1:=@Gp
 have HA:=hG [0,1,2] 10 9 jB 3 (λs1 i w=>(ej.L1 l vK aT (ej.K1)) s1 i w)
 exact W
instance k113:Ct 113:=⟨_,call113,@EU⟩
theorem we(h l eP eO)(hl:SlC ae.rp h eP eO l):Ret prog 51 [.slice eP l.length eO] h (I (bN l)):=by
 refine sVv func51 ntmps51 ?_
 generalize hz:(bN l)=z
 have HA:=h1 [9,10] 11 (λw=>[(3,I w)]) (λs1 i w=>(bN.L1 (bN.K1)) s1 w)
 exact W
theorem E3(h l eP eO aI bu aU ad)(hl:SlC aA.rp h eP eO l):Ret prog 236 [.slice eP l.length eO,I aI,I bu,I aU,I ad] h (.tuple #[I ((jq l aI bu aU ad).1),I ((jq l aI bu aU ad).2.1),.bool ((jq l aI bu aU ad).2.2.1),I ((jq l aI bu aU ad).2.2.2)]):=by
 refine sVv func236 ntmps236 ?_
 generalize hz:(jq l aI bu aU ad)=z
 exact W
theorem M7(h l eP eO vK bV bU no aU)(hl:SlC aj.rp h eP eO l)(iC:SlC jB h bV bU vK)(hsn:l.length<=2000000):Ret prog 116 [.slice eP l.length eO,.slice bV vK.length bU,I no,I aU] h (.tuple #[I ((pB l vK no aU).1),I ((pB l vK no aU).2.1),I ((pB l vK no aU).2.2)]):=by
 refine sVv func116 ntmps116 ?_
 generalize hz:(pB l vK no aU)=z
 have k0:=λ(a:dq l vK=true)=>(show vK.length<=2000000 from by rw[uM a];exact hsn)
 have k1:=λ(a:¬cD l no<0)=>(show 0<=cD l no/\cD l no<(l.length:Int)from⟨by omega,Mm _ _⟩)
 have q0:=@uM
 have q1:=@Gp
 have q2:=@Mm
 exact W
instance k116:Ct 116:=⟨_,call116,@M7⟩
theorem DL(h l eP eO bD aT ad)(hl:SlC ae.rp h eP eO l)(hsz0:l.length<=2000000):j0 prog 297 [.slice eP l.length eO,I bD,I aT,I ad] h (λv h'=>∃(rb0:Option Addr)(rc0:Nat),v=.tuple #[.slice rb0 ((eC l bD aT ad).1).length rc0,I ((eC l bD aT ad).2)]/\SlC ae.rp h' rb0 rc0 ((eC l bD aT ad).1)):=by
 refine sVv func297 ntmps297 ?_
 generalize hz:(eC l bD aT ad)=z
 have HA:=hG [0,1,2,3] 12 11 ae.rp 67 (λs1 i w=>(eC.L1 l bD aT ad (eC.K1)) s1 w)
 exact W
instance k297:Ct 297:=⟨_,call297,@DL⟩
theorem yj(h l eP eO)(hl:SlC Budget.rp h eP eO l):Ret prog 48 [.slice eP l.length eO] h (I (bY l)):=by
 refine sVv func48 ntmps48 ?_
 generalize hz:(bY l)=z
 have HA:=h1 [9,10] 11 (λw=>[(3,I w)]) (λs1 i w=>(bY.L1 (bY.K1)) s1 w)
 exact W
theorem CZ(h)(m:List (OSeat×aA))(RT aI)(hm:uN OSeat.enc (mT aA.rp) h RT m)(hsz:m.length<=1000000000):j0 prog 269 [.map (some RT),I aI] h (λv h'=>∃(rv0:Value),v=rv0/\Itr prog rv0 rg (nE m aI) h'):=by
 refine sVv func269 ntmps269 ?_
 generalize hz:(nE m aI)=z
 exact W
instance k269:Ct 269:=⟨_,call269,@CZ⟩
theorem CL(h mode vQ ku kt)(hpermits:SlC Rp.bool h ku kt vQ)(hsz0:vQ.length<=2000000):Ret prog 112 [I mode,.slice ku vQ.length kt] h (.tuple #[.bool ((ip mode vQ).1),I ((ip mode vQ).2)]):=by
 refine sVv func112 ntmps112 ?_
 generalize hz:(ip mode vQ)=z
 exact W
theorem DP(h l eP eO)(hl:SlC Rp.str h eP eO l):Ret prog 314 [.slice eP l.length eO] h (.bool (fP l)):=by
 refine sVv func314 ntmps314 ?_
 generalize hz:(fP l)=z
 have HA:=h0 [0] 3 (λs1 i=>(fP.L1 l (fP.K1)) s1 i)
 exact W
instance k314:Ct 314:=⟨_,call314,@DP⟩
theorem IU(h l eP eO cV to aI vL vN i9 ad)(hl:SlC aE.rp h eP eO l):Ret prog 359 [.slice eP l.length eO,I cV,I to,I aI,I vL,I vN,I i9,I ad] h (I (nP l cV to aI vL vN i9 ad)):=by
 refine sVv func359 ntmps359 ?_
 generalize hz:(nP l cV to aI vL vN i9 ad)=z
 exact W
theorem Ep(h l eP eO cV to aI vL vN i9 ad)(hl:SlC aE.rp h eP eO l)(hsz:l.length<=2000000):j0 prog 256 [.slice eP l.length eO,I cV,I to,I aI,I vL,I vN,I i9,I ad] h (λv h'=>∃(rb0:Option Addr)(rc0:Nat),v=.tuple #[.slice rb0 ((aJ l cV to aI vL vN i9 ad).1).length rc0,.bool ((aJ l cV to aI vL vN i9 ad).2.1),I ((aJ l cV to aI vL vN i9 ad).2.2)]/\SlC jB h' rb0 rc0 ((aJ l cV to aI vL vN i9 ad).1)):=by
 refine sT func256 U ntmps256 U λX hM hX hF=>?_
 have hs0:=@rfl _ (aJ l cV to aI vL vN i9 ad)
 have hcv:(dx (aL (bL.mk aI vL vN i9 ad) l)).length<=2000000:=by rw[wY];exact zN (sL _ _) hsz
 refine qT 13 U (aS (ia (cells:=[I aI,I vL,I vN,I i9,I ad]) (places:=[(0,1),(1,1),(2,1),(3,1),(4,1)]) underlying341 zc341 kr kr (cS zc341 (λb1=>cJ 0 ty341 U U U U U U (qO 7 U (ga 0 ty341 U U U (e9 call331 (Hg _ _ _ _ cV to (bL.mk aI vL vN i9 ad) hl) U (qO 7 U (dy hs0 U (λc1 hs1=>?_) (λc1 hs2=>?_))))))))))
 .refine qT 7 U ?_
  have hs3:aJ l cV to aI vL vN i9 ad=([],false,(ly l cV to (bL.mk aI vL vN i9 ad))):=hs1
  exact nretH [zSN,.bool false,I (ly l cV to (bL.mk aI vL vN i9 ad))] (hs3▸⟨none,0,U,vE⟩)
 refine qT 3 U (ga 0 ty341 U U U (dU (aS (eb call333 (tN _ (bL.mk aI vL vN i9 ad) _ _ _ hl) U (λv1 h1 kE hp1=>?_)))))
 obtain⟨_,rfl,mo1⟩:=hp1
 refine aS (eb call332 (wX h1 (aL (bL.mk aI vL vN i9 ad) l) v1 mo1 (zN (sL _ _) hsz)) U (λv2 h2 kF hp2=>?_))
 obtain⟨rb1,rc1,rfl,sl1⟩:=hp2
 refine qO 4 U (aS (uw (λb2=>dU (aS (AE 0 (k:=to) (x:=0) Dp (im qZ) U (lB.nil (enc:=(jC .i64)) (V:=Ao) (h:=h2)) U U U (λmo2 hm1=>qO 8 U ?_))))))
 let z1:Nat×Obj:=(b1,O [I aI,I vL,I vN,I i9,I ad] 341)
 refine km (ι:=Nat×(List (Int×Int))×Obj) (λi=>[(1,I cV),(16,zSN),(20,.slice rb1 ((dx (aL (bL.mk aI vL vN i9 ad) l)).length) rc1),(21,.map (some b2))]) (λi=>h2) (λi=>[(b2,i.2.2),z1]) (λi=>i.1<=(xF 8).length/\aJ l cV to aI vL vN i9 ad=((aJ.K1 l cV aI vL vN i9 ad) i.2.1)/\lB (jC .i64) Ao h2 i.2.2 i.2.1/\(∀p∈i.2.1,0<=p.2/\p.2<=8)) ?_ (λhx1=>?_)
 .rintro⟨i1,df,fG⟩ ⟨pq,hs4,mY,kR⟩ e
  try dsimp only at pq mY kR
  have hf8:=(BP (P:=λx:Int=>0<=x/\x<=8) cV kR (show(0:Int)<=0/\(0:Int)<=8 from⟨Int.le_refl _,by omega⟩))
  have hrg:=List.length_range (n:=(mgetD df cV 0).toNat)
  refine qT 4 U (aS (oM 0 (k:=cV) Dp (im qZ) U mY (gF zv3) (show Ao _ (I 0) 0 from U) U U (λv5 hv3=>?_)))
  obtain rfl:=hv3
  refine qO 12 U (dy hs4 U (λc3 hs5=>?_) (λc3 hs6=>?_))
  .refine qT 6 U ?_
   have hs7:aJ l cV to aI vL vN i9 ad=([],false,0):=hs5
   exact nretH [zSN,.bool false,I 0] (hs7▸⟨none,0,U,vE⟩)
  refine qT 7 U ?_
  refine km (ι:=Nat×List Int×Option Addr×Nat×LH×Int) (λi=>[(16,.slice i.2.2.1 i.2.1.length i.2.2.2.1)]) (λi=>h2) (λi=>[(b2,fG),z1]++(i.2.2.2.2.1)) (λi=>i.1<=(xF (((mgetD df cV 0)).toNat)).length/\aJ l cV to aI vL vN i9 ad=((aJ.K4) i.2.1 i.2.2.2.2.2)/\di jB 3 h2 i.2.1 i.2.2.1 i.2.2.2.1 i.2.2.2.2.1/\i.2.1.length<=i.1) ?_ (λhx4=>?_)
  .rintro⟨i4,Bg,Jx,Jw,NH,F7⟩ ⟨Ff,hs8,Fi,QN⟩ e
   try dsimp only at Ff Fi QN
   refine qT 7 U (jz vJ ([(b2,fG),z1]) NH ([]) ap hM Fi (λh3 kG sl2=>?_))
   have hs9:aJ l cV to aI vL vN i9 ad=(Bg,true,0):=hs8
   exact nretH [.slice Jx Bg.length Jw,.bool true,I 0] (hs9▸⟨Jx,Jw,U,sl2⟩)
  refine mL (ι:=Nat×List Int×Option Addr×Nat×LH×Int×List Nat) (λi=>[(16,.slice i.2.2.1 i.2.1.length i.2.2.2.1),(20,.slice rb1 ((dx (aL (bL.mk aI vL vN i9 ad) l)).length) rc1),(21,.map (some b2)),(29,I ((((((mgetD df cV 0)).toNat)-i.1):Nat):Int)),(31,I i.2.2.2.2.2.1)]) (λi=>h2) (λi=>[(b2,fG),z1]++(i.2.2.2.2.1)) (λi=>(xF (((mgetD df cV 0)).toNat)).drop i.1=i.2.2.2.2.2.2/\i.1<=(xF (((mgetD df cV 0)).toNat)).length/\aJ l cV to aI vL vN i9 ad=((aJ.L4 l cV aI vL vN i9 ad df (aJ.K4)) i.2.2.2.2.2.2 i.1 i.2.1 i.2.2.2.2.2.1)/\di jB 3 h2 i.2.1 i.2.2.1 i.2.2.2.1 i.2.2.2.2.1/\i.2.1.length<=i.1) (λi=>i.2.2.2.2.2.2.length) (0,[],none,0,[],cV,(xF (((mgetD df cV 0)).toNat))) ⟨U,U,U,(congrArg (jC .i64) (show(mgetD df cV 0)=((((((mgetD df cV 0)).toNat)-0):Nat):Int)from(by have hq:=(BP (P:=λx:Int=>0<=x/\x<=8) cV kR (show(0:Int)<=0/\(0:Int)<=8 from⟨Int.le_refl _,by omega⟩));omega))),U,trivial⟩ sw ⟨U,kJ _,hs6,di.nil,lo⟩ ?_
  rintro⟨i4,Bg,Jx,Jw,NH,F7,s4⟩ ⟨hd4,SR,hs10,Fi,QN⟩ ag1 e
  try dsimp only at hd4 SR Fi QN
  rcases s4 with _|⟨y4,rz4⟩
  .have WN:decide (0<((((((mgetD df cV 0)).toNat)-i4):Nat):Int))=false:=decide_eq_false (by have q_:=of_decide_eq_false (rm hd4);rw[List.length_range]at q_;omega)
   exact eI (qT 3 U (fO WN U (qO 3 U (hx4 (i4,Bg,Jx,Jw,NH,F7) _ ⟨SR,hs10,Fi,lo⟩ rd))))
  have WM:decide (0<((((((mgetD df cV 0)).toNat)-i4):Nat):Int))=true:=decide_eq_true (by have q_:=kl hd4;rw[List.length_range]at q_;omega)
  have PG:i4<(((mgetD df cV 0)).toNat):=by simpa using kl hd4
  refine qT 4 U (tO WM U (qL 11 [] U ?_))
  refine lp3 (dx (aL (bL.mk aI vL vN i9 ad) l)) (λi w=>[(16,.slice w.2.1 w.1.length w.2.2.1),(20,.slice rb1 ((dx (aL (bL.mk aI vL vN i9 ad) l)).length) rc1),(21,.map (some b2)),(29,I ((((((mgetD df cV 0)).toNat)-i4):Nat):Int)),(31,I w.2.2.2.2),(110,.slice rb1 ((dx (aL (bL.mk aI vL vN i9 ad) l)).length) rc1),(111,I (((dx (aL (bL.mk aI vL vN i9 ad) l)).length:Nat):Int)),(112,I (i:Int))]) (λ_=>h2) (λw=>[(b2,fG),z1]++(w.2.2.2.1)) (λi w=>di jB 3 h2 w.1 w.2.1 w.2.2.1 w.2.2.2.1/\w.1.length<=i4) (λi w=>di jB 3 h2 w.1 w.2.1 w.2.2.1 w.2.2.2.1/\w.1.length<=i4+1) (λ_ _ h=>⟨h.1,Nat.le_succ_of_le h.2⟩) (λs6 i w=>(aJ.L6 cV df i4 (λzg6_16 zg6_31=>(aJ.L4 l cV aI vL vN i9 ad df (aJ.K4) rz4 (i4+1) zg6_16 zg6_31))) s6 w.1 w.2.2.2.2) (Bg,Jx,Jw,NH,F7) sl1.1.1 hs10 ⟨Fi,lo⟩ ?_ ?_
  .rintro i6 ⟨D8,QM,QL,Jt,F6⟩ SS hs12 ⟨Fh,QK⟩ e
   try dsimp only at Fh QK
   exact gU (qT 2 U (ls (v':=I ((((((mgetD df cV 0)).toNat)-(i4+1)):Nat):Int)) U (NY PG ob) (an (ag1 ((i4+1),D8,QM,QL,Jt,F6,rz4) _ (Nat.lt_succ_self _) ⟨nl hd4,kl hd4,hs12,Fh,lo⟩ rd))))
  rintro i6 ⟨D8,QM,QL,Jt,F6⟩ y6 rz6 hd6 Xw Xc XN XS hs13 ⟨Fh,QK⟩ hx6 ag2 e
  try dsimp only at Fh QK
  refine sr (tO Xw U (qO 8 U (aS (iF aE.cells ur ty150 sl1.1 Xc U U U (λq4 A4=>lh ty150 A4 U U (cS zc150 (λb6=>cJ 0 ty150 U U U U U U (mf (L':=[(b6,O (aE.cells y6) 150),(b2,fG),z1]++(Jt)) U (qL 6 [0] U (aS (oM 1 (k:=y6.To) Dp (im qZ) U mY (gF zv3) (show Ao _ (I 0) 0 from U) U U (λv8 hv6=>?_))))))))))))
  obtain rfl:=hv6
  refine qL 13 [0] U (pF 2 [127,128,129] 127 129 (mhas df y6.To) U (λc5 hk1=>?_) (λe=>?_))
  .exact dU (I6 U (hk1 _ U))
  refine dU (pF 5 [130,131,132,133,134,135] 130 135 ((mgetD df y6.To 0)==((((((mgetD df cV 0)).toNat)-(i4+1)):Nat):Int)) U (λc6 hk2=>?_) (λe=>?_))
  .exact dU (dU (ls (v':=I ((((((mgetD df cV 0)).toNat)-(i4+1)):Nat):Int)) U (NY PG ob) (qO 2 U (hk2 _ U))))
  refine ck (dy hs13 U (λc7 hs14=>?_) (λc7 hs15=>?_))
  .refine eI ?_
   let z2:Nat×Obj:=(b6,O (aE.cells y6) 150)
   refine hU ([z2,(b2,fG),z1]) mixed kr jn (λkI _=>?_)
   exact tm 0 U (qB [1] U (tf 2 U U (rj 0 ty3 U U U) (qB [5] U (tf 6 U U (rj 0 ty3 U U U) (tn 3 U (cM (cells:=[I y6.No]) fm ty3 zc3 U U kr (λb7=>⟨jn,tn 4 U (dN XZ ([(b7,O [I y6.No] 3),z2,(b2,fG),z1]) ([]) (λG=>[(b7,O [I y6.No] 3),z2,(b2,fG),z1]++G) ap (λ_=>ap) fm ty3 zc3 U bytes3 Fh U U (gQ 0 U (cE (y6.No) U U)) lo lo (λob1 oc1 G1 gr1=>⟨jn,qA [7,8] U (dJ kr (jI U (ek (L':=[(b2,fG),z1]++G1) js (hx6 i6 ((D8++[y6.No]),ob1,oc1,G1,y6.To) hs14 ⟨gr1,lo⟩))))⟩))⟩)))))))
  exact jf (qT 2 U (oi i6 U (qO 2 U (ek (L':=[(b2,fG),z1]++(Jt)) js (ag2 (D8,QM,QL,Jt,F6) hs15 ⟨Fh,lo⟩)))))
 refine mL (ι:=Nat×(List (Int×Int))×Obj×List Nat) (λi=>[(1,I cV),(16,zSN),(20,.slice rb1 ((dx (aL (bL.mk aI vL vN i9 ad) l)).length) rc1),(21,.map (some b2)),(57,I (i.1:Int))]) (λi=>h2) (λi=>[(b2,i.2.2.1),z1]) (λi=>(xF 8).drop i.1=i.2.2.2/\i.1<=(xF 8).length/\aJ l cV to aI vL vN i9 ad=((aJ.L1 l aI vL vN i9 ad (aJ.K1 l cV aI vL vN i9 ad)) i.2.2.2 i.1 i.2.1)/\lB (jC .i64) Ao h2 i.2.2.1 i.2.1/\(∀p∈i.2.1,0<=p.2/\p.2<=8)) (λi=>i.2.2.2.length) (0,(mput ([]) to 0),mo2,(xF 8)) rd sw ⟨U,kJ _,hs2,hm1,(λp hp=>by rw[kB.1 hp];exact⟨Int.le_refl _,by omega⟩)⟩ ?_
 rintro⟨i1,df,fG,s1⟩ ⟨hd1,pq,hs16,mY,kR⟩ ag3 e
 try dsimp only at hd1 pq mY kR
 rcases s1 with _|⟨y1,rz1⟩
 .have rZ:decide ((i1:Int)<8)=false:=by simpa using rm hd1
  exact sr (fO rZ U (qO 4 U (hx1 (i1,df,fG) _ ⟨pq,hs16,mY,kR⟩ rd)))
 have ns:decide ((i1:Int)<8)=true:=by simpa using Bs hd1
 have po:i1<8:=by simpa using kl hd1
 have hr8:i1<8:=po
 refine sr (tO ns U (qL 17 [] U ?_))
 refine lp2 (dx (aL (bL.mk aI vL vN i9 ad) l)) (λi w=>[(1,I cV),(16,zSN),(20,.slice rb1 ((dx (aL (bL.mk aI vL vN i9 ad) l)).length) rc1),(21,.map (some b2)),(22,I (i1:Int)),(57,I (i1:Int)),(60,.slice rb1 ((dx (aL (bL.mk aI vL vN i9 ad) l)).length) rc1),(61,I (((dx (aL (bL.mk aI vL vN i9 ad) l)).length:Nat):Int)),(62,I (i:Int))]) (λ_=>h2) (λw=>[(b2,w.2),z1]) (λi w=>lB (jC .i64) Ao h2 w.2 w.1/\(∀p∈w.1,0<=p.2/\p.2<=8)) (λs3 i w=>(aJ.L3 i1 (λzg3_b2_0=>(aJ.L1 l aI vL vN i9 ad (aJ.K1 l cV aI vL vN i9 ad) rz1 (i1+1) zg3_b2_0))) s3 w.1) (df,fG) sl1.1.1 hs16 ⟨mY,ob⟩ ?_ ?_
 .rintro i3 ⟨pJ,Ea⟩ SR hs18 ⟨tE,u3_0⟩ e
  try dsimp only at tE u3_0
  exact gU (cB (oi i1 U (qO 2 U (ag3 ((i1+1),pJ,Ea,rz1) _ (Nat.lt_succ_self _) ⟨nl hd1,kl hd1,hs18,tE,ob⟩ rd))))
 rintro i3 ⟨pJ,Ea⟩ y3 rz3 hd3 NE qb L7 WO hs19 ⟨tE,u3_0⟩ hx3 ag4 e
 try dsimp only at tE u3_0
 refine sr (tO NE U (qO 8 U (aS (iF aE.cells ur ty150 sl1.1 qb U U U (λq6 A6=>lh ty150 A6 U U (cS zc150 (λb9=>cJ 0 ty150 U U U U U U (qL 6 [0] U (aS (oM 1 (k:=y3.From) Dp (im qZ) U tE (gF zv3) (show Ao _ (I 0) 0 from U) U U (λv11 hv9=>?_)))))))))))
 obtain rfl:=hv9
 refine qL 11 [0] U (aS (oM 1 (k:=y3.To) Dp (im qZ) U tE (gF zv3) (show Ao _ (I 0) 0 from U) U U (λv12 hv10=>?_)))
 obtain rfl:=hv10
 refine qO 10 U (pF 4 [81,82,83,84,85] 81 85 ((mgetD pJ y3.To 0)==(i1:Int)) U (λc8 hk3=>?_) (λe=>?_))
 .exact dU (qO 3 U (hk3 _ U))
 refine dU (pF 3 [86,87,88,89] 86 89 (!(mhas pJ y3.From)) U (λc9 hk4=>?_) (λe=>?_))
 .exact dU (qO 2 U (hk4 _ U))
 refine ck (dy hs19 U (λc10 hs20=>?_) (λc10 hs21=>?_))
 .exact qK 5 [0] U (oi i1 U (aS (pS 1 (k:=y3.From) (x:=(((i1+1):Nat):Int)) Dp (im qZ) U tE U U U (λmo3 hm2=>qO 3 U (oi i3 U (qO 2 U (ek (L':=[(b2,mo3),z1]) js (ag4 ((mput pJ y3.From (((i1+1):Nat):Int)),mo3) hs20 ⟨hm2,(by first|assumption|exact AS (P:=λx:Int=>0<=x/\x<=8) _ ob ob)⟩))))))))
 exact jf (qT 2 U (oi i3 U (qO 2 U (ek (L':=[(b2,Ea),z1]) js (ag4 (pJ,Ea) hs21 ⟨tE,(by first|assumption|exact AS (P:=λx:Int=>0<=x/\x<=8) _ ob ob)⟩)))))
theorem tM(h l eP eO vK bV bU aT)(hl:SlC aj.rp h eP eO l)(iC:SlC jB h bV bU vK)(hln:l.length<20):j0 prog 30 [.slice eP l.length eO,.slice bV vK.length bU,I aT] h (λv h'=>∃(rb0:Option Addr)(rc0:Nat),v=.tuple #[.slice rb0 ((bR l vK aT).1).length rc0,I ((bR l vK aT).2)]/\SlC jB h' rb0 rc0 ((bR l vK aT).1)):=by
 refine sVv func30 ntmps30 ?_
 generalize hz:(bR l vK aT)=z
 have q4:=λ(i:Nat)(a:i<l.length)=>(show 0<=(i:Int)/\(i:Int)<((co l vK aT).shelf.docs.length:Int)from by rw[tC];omega)
 have q0:=@DB
 have q1:=@LJ
 have q2:=@tC
 have q3:=@FS
 have HA:=hG [2,9,32,33] 34 6 jB 3 (λs1 i w=>(bR.L1 l vK aT (bR.K1)) s1 i w)
 exact W
instance k30:Ct 30:=⟨_,call30,@tM⟩
theorem zO(h l eP eO u xl xk vL vN dh ad)(hl:SlC Budget.rp h eP eO l)(hu:SlC Use.rp h xl xk u)(hsz:l.length<=2000000):Ret prog 31 [.slice eP l.length eO,.slice xl u.length xk,I vL,I vN,I dh,I ad] h (.tuple #[I ((bo l u vL vN dh ad).1),.bool ((bo l u vL vN dh ad).2.1),I ((bo l u vL vN dh ad).2.2)]):=by
 refine el HN U ntmps31 U λX hM hX=>?_
 have hs0:=@rfl _ (bo l u vL vN dh ad)
 refine qT 10 U (e9 call48 (yj _ _ _ _ hl) U (qO 7 U (dy hs0 U (λc1 hs1=>?_) (λc1 hs2=>?_))))
 .refine qT 7 U ?_
  have hs3:bo l u vL vN dh ad=(0,false,(bY l)):=hs1
  exact wk [I 0,.bool false,I (bY l)] HN U hX rd (congrArg (λr:(Int×Bool×Int)=>(.tuple #[I r.1,.bool r.2.1,I r.2.2]:Value)) hs3.symm)
 refine qK 8 [] U (dy hs2 U (λc2 hs4=>?_) (λc2 hs5=>?_))
 .have c2p:=of_decide_eq_true c2
  refine qT 6 U ?_
  have hs6:bo l u vL vN dh ad=(0,false,2):=hs4
  exact wk [I 0,.bool false,I 2] HN U hX rd (congrArg (λr:(Int×Bool×Int)=>(.tuple #[I r.1,.bool r.2.1,I r.2.2]:Value)) hs6.symm)
 have c2p:=of_decide_eq_false c2
 refine qT 5 U (e9 call98 (Hh _ _ _ _ hu) U (qO 2 U (dy hs5 U (λc3 hs7=>?_) (λc3 hs8=>?_))))
 .refine qT 6 U ?_
  have hs9:bo l u vL vN dh ad=(0,false,180):=hs7
  exact wk [I 0,.bool false,I 180] HN U hX rd (congrArg (λr:(Int×Bool×Int)=>(.tuple #[I r.1,.bool r.2.1,I r.2.2]:Value)) hs9.symm)
 refine qT 5 U (aS (cM (cells:=[I vL]) fm ty3 zc3 U U kr (λb1=>dV 0 U hM (λh1 kE hb1=>?_))))
 have sl1:SlC jB h1 (zAD b1) 1 ([vL]):=bW.slB0 (T:=3) (fz:=(0,0)) ((show bW jB h [I vL] ([vL])from⟨[I vL],[],rfl,rfl,rfl,rfl⟩).mono vJ kE) hb1
 refine e9 Tp (pi _ 0 15 _ _ _ sl1) U (qO 2 U (pH 5 [36,37,38,39,40,41] 36 41 (!(ct 0 1099511627776 ([vN]))) U (λc4 hk1=>?_) (λe=>?_)))
 .refine dU (aS (cM (cells:=[I vN]) fm ty3 zc3 U U kr (λb2=>dV 0 U hM (λh2 kF hb2=>?_))))
  have sl2:SlC jB h2 (zAD b2) 1 ([vN]):=bW.slB0 (T:=3) (fz:=(0,0)) ((show bW jB h1 [I vN] ([vN])from⟨[I vN],[],rfl,rfl,rfl,rfl⟩).mono vJ kF) hb2
  exact e9 Tp (pi _ 0 1099511627776 _ _ _ sl2) U (qO 2 U (Hl (h:=h1) kF hX kE (hk1 _ U)))
 refine dU (pH 6 [42,43,44,45,46,47,48] 42 48 (!(ct 0 1099511627775 ([dh,ad]))) U (λc5 hk2=>?_) (λe=>?_))
 .refine qO 2 U (aS (cM (cells:=[I dh,I ad]) fm ty3 zc3 U U kr (λb3=>dV 0 U hM (λh3 kG hb3=>?_))))
  have sl3:SlC jB h3 (zAD b3) 2 ([dh,ad]):=bW.slB0 (T:=3) (fz:=(0,0)) ((show bW jB h1 [I dh,I ad] ([dh,ad])from⟨[I dh],[I ad],rfl,rfl,rfl,⟨[I ad],[],rfl,rfl,rfl,rfl⟩⟩).mono vJ kG) hb3
  exact e9 Tp (pi _ 0 1099511627775 _ _ _ sl3) U (qO 2 U (Hl (h:=h1) kG hX kE (hk2 _ U)))
 refine ck (dy hs8 U (λc6 hs10=>?_) (λc6 hs11=>?_))
 .refine qT 6 U ?_
  have hs12:bo l u vL vN dh ad=(0,false,1):=hs10
  exact wk [I 0,.bool false,I 1] HN U hX rd (congrArg (λr:(Int×Bool×Int)=>(.tuple #[I r.1,.bool r.2.1,I r.2.2]:Value)) hs12.symm)
 refine qT 8 U (aS (eb call100 (Cs _ _ _ _ vL dh ad (hl.mono Budget.aB kE) ob) U (λv1 h4 kK hp1=>?_)))
 obtain⟨rb1,rc1,rfl,sl4⟩:=hp1
 refine qL 3 [] U (ke (eA (L':=markB []) ap ?_))
 refine yv (ι:=Nat×List Nat×HF) (λi=>[]) (λi=>marks i.2.1) (λi=>i.2.2) (λi=>markB i.2.1) (λi=>i.1<=(aZ l vL dh ad).length/\bo l u vL vN dh ad=((bo.K1))/\zM h4 i.2.2) ?_ (λhx1=>?_)
 .rintro⟨i1,rs1,hh1⟩ ⟨pq,hs13,hl1⟩ e
  refine qT 6 U ?_
  have hs14:bo l u vL vN dh ad=((-1),true,0):=hs13
  exact eA (L':=([])++markB rs1) ap (Dr rs1 [I (-1),.bool true,I 0] HN U hX rd (congrArg (λr:(Int×Bool×Int)=>(.tuple #[I r.1,.bool r.2.1,I r.2.2]:Value)) hs14.symm))
 refine Ds (ι:=Nat×List Nat×HF×List Budget) (λi=>[(1,.slice xl u.length xk),(3,I vN),(4,I dh),(5,I ad),(53,.slice rb1 ((aZ l vL dh ad).length) rc1),(54,I ((aZ l vL dh ad).length:Int)),(55,I (i.1:Int))]) (λi=>marks i.2.1) (λi=>i.2.2.1) (λi=>markB i.2.1) (λi=>(aZ l vL dh ad).drop i.1=i.2.2.2/\i.1<=(aZ l vL dh ad).length/\bo l u vL vN dh ad=((bo.L1 u vN dh ad (bo.K1)) i.2.2.2)/\zM h4 i.2.2.1) (λi=>i.2.2.2.length) (0,[],h4,(aZ l vL dh ad)) U rd sw ⟨U,kJ _,hs11,lf⟩ ?_
 rintro⟨i1,rs1,hh1,s1⟩ ⟨hd1,pq,hs15,hl1⟩ ag1 e
 rcases s1 with _|⟨y1,rz1⟩
 .have rZ:=rm hd1
  exact sr (fO rZ U (qO 4 U (hx1 (i1,rs1,hh1) _ ⟨pq,hs15,hl1⟩ trivial)))
 have ns:=Bs hd1
 have iI:=sR hd1
 have po:=kl hd1
 have xe:=sl4.1.1
 refine sr (tO ns U (qO 8 U (aS (iF Budget.cells underlying25 ty81 (sl4.mono Budget.aB hl1).1 iI U U U (λq2 A2=>lh ty81 A2 U U (cS zc81 (λb7=>cJ 0 ty81 U U U U U U (qO 4 U (cS zc3 (λb8=>cS zc3 (λb9=>dK 1 ty3 U U U U U U (dK 0 ty3 U U U U U U (qO 4 U (ga 2 ty81 U U U (qO 3 U (aS (eb call101 (Hi _ y1 _ _ _ dh ad (hu.mono Use.aB ((kE.t kK).t hl1)) (OS (by simpa using c1) (fe hd1))) U (λv3 h6 kQ hp3=>?_))))))))))))))))))
 obtain⟨_,rfl,mo2⟩:=hp3
 refine qO 2 U ?_
 let z1:Nat×Obj:=(b7,O (Budget.cells y1) 81)
 refine eA (L':=([(b9,O [I vN] 3),(b8,O [I 1] 3),z1])++markB rs1) ap ?_
 refine pz (it:=v3) (xs:=(qp y1 u dh ad)) (ι:=Int×Int×HF) rs1 (λi=>i.2.2) (λi=>[(b9,O [I i.1] 3),(b8,O [I i.2.1] 3),z1]) (λs i=>bo l u vL vN dh ad=((bo.L3 (λzg3_b9_0 zg3_b8_0=>(bif(decide (y1.Count<zg3_b8_0)||decide (y1.Value<zg3_b9_0))then(y1.No,false,0)else(bo.L1 u vN dh ad (bo.K1) rz1)))) s i.1 i.2.1)/\zM h6 i.2.2) (λ_=>False) (λ_=>False) 0 (λ_ _ _=>False) (vN,1,h6) HN U mo2 U AZ (λ_ _ _ _ _ hq=>hq) U (show[(b9,O [I vN] 3),(b8,O [I 1] 3),z1]=_ from U) ⟨hs15,lf⟩ ?_ ?_ ?_ ?_ ?_
 .rintro l3 dm3 lp3 y3 rz3 vs3 ⟨yT,BU,hh3⟩ hr3 X hFR3 ⟨hs17,hl3⟩ hl03 hlr3 hv3 hX hXM hlp3 nx3 rt3 ex3 pn3
  obtain rfl:=hv3
  exact eA (L':=[(l3,.loop lp3),(dm3,.deferred (some [])),(b9,O [I yT] 3),(b8,O [I BU] 3),z1]++(markB rs1)) ap (qT 3 U (nJ 0 U hlp3 (qK 5 [3] U (dK 3 ty3 U U U U U U (qL 5 [2] U (dK 2 ty3 U U U U U U (qO 2 U (eA (L':=rdH l3 dm3 lp3 (([(b9,O [I (jD .i64 (yT+y3))] 3),(b8,O [I (jD .i64 (BU+1))] 3),z1])++markB rs1)) ap (nx3 ((jD .i64 (yT+y3)),(jD .i64 (BU+1)),hr3) _ _ ⟨hs17,(hl3.t hlr3)⟩ lf)))))))))
 .rintro dm3 ⟨yT,BU,hh3⟩ hn3 ⟨hs18,hl3⟩ hln3 hl03
  refine eA (L':=[(b9,O [I yT] 3),(b8,O [I BU] 3),z1]++(markB (dm3::rs1))) ap (qK 8 [1,2] U (pH 5 [75,76,77,78,79,80] 75 80 (decide (y1.Value<yT)) U (λc7 hk3=>?_) (λe=>?_)))
  .exact qL 5 [0,2] U (hk3 _ U)
  refine ck (dy hs18 U (λc8 hs19=>?_) (λc8 hs20=>?_))
  .refine qK 8 [2] U ?_
   have hs21:bo l u vL vN dh ad=(y1.No,false,0):=hs19
   exact eA (L':=([(b9,O [I yT] 3),(b8,O [I BU] 3),z1])++markB (dm3::rs1)) ap (Dr (dm3::rs1) [I y1.No,.bool false,I 0] HN U hX rd (congrArg (λr:(Int×Bool×Int)=>(.tuple #[I r.1,.bool r.2.1,I r.2.2]:Value)) hs21.symm))
  exact jf (qT 2 U (oi i1 U (qO 2 U (ek (L':=markB (dm3::rs1)) js (ag1 ((i1+1),(dm3::rs1),hn3,rz1) _ (Nat.lt_succ_self _) ⟨nl hd1,kl hd1,hs20,(((hl1.t kQ).t hl3).t hln3)⟩ rd)))))
 .exact xf
 .exact xf
 exact xf
theorem DX(h p jv)(hp:aw.ok h p jv)(hsm:smP p):Fw prog 304 [.agg (aw.cells p jv).toArray] h (exW stopV (λr:Unit=>(.tuple #[]:Value)) (dw p)):=by
 refine sVv func304 ntmps304 ?_
 generalize hz:(dw p)=z
 have hsr:=hsm.rules
 have hsq:=hsm;unfold smP at hsq
 have q5:=λ{y:ai}(a:y∈aH p)=>(show(0:Int)<=1/\(1:Int)+(y.dep:Int)<=2000000 from by have:=tL hsm a;omega)
 have q0:=@tL
 have w0:=λ{y}(a:y∈_)=>tL hsm a
 have HA:=lK [1,20,21] 22 (λs i=>((dw.L1 p (dw.K1)) s))
 have HB:=λ{rz1}=>lX stopV z .mE (λs w=>((dw.L3 p ((dw.L1 p (dw.K1) rz1))) s))
 exact W
instance k304:Ct 304:=⟨_,call304,@DX⟩
theorem sI(h c rL)(bu:Int)(hc:bZ.ok h c rL)(hsm:smR c.Register)(hco:kj c)(hpp:0<=bu/\bu<64):Ret prog 257 [.agg (bZ.cells c rL).toArray,I bu] h (.bool (jY c bu)):=by
 refine sVv func257 ntmps257 ?_
 generalize hz:(jY c bu)=z
 have hsq:=hsm;unfold smR at hsq
 have q1:=λ{e:Int}(a:e=0)=>(show my e=.ok ()from by subst a;rfl)
 have hcq:=hco;cases hcq
 have q0:=@QX
 exact W
theorem DM(h l eP eO bD aW vS dh ad)(hl:SlC ae.rp h eP eO l)(hsz0:l.length<=2000000):j0 prog 200 [.slice eP l.length eO,I bD,I aW,I vS,I dh,I ad] h (λv h'=>∃(rb0:Option Addr)(rc0:Nat),v=.tuple #[.slice rb0 ((fd l bD aW vS dh ad).1).length rc0,I ((fd l bD aW vS dh ad).2)]/\SlC ae.rp h' rb0 rc0 ((fd l bD aW vS dh ad).1)):=by
 refine sVv func200 ntmps200 ?_
 generalize hz:(fd l bD aW vS dh ad)=z
 have w0:=λ{y:ae}(m:y∈(eC l bD dh ad).1)a(b:(((((!(pA bD))||(!(iO aW)))||(!(iO vS)))||(!(iO dh)))||(!(iO ad)))=false)=>(show jD .i64 (y.At+vS)=y.At+vS from wrap64 (by have:=PZ a b m;omega))
 have q0:=@H7
 have q1:=@PZ
 have ho0:=zN (H7 l bD dh ad) hsz0
 have HA:=hG [2,3,4,15] 18 17 ae.rp 67 (λs1 i w=>(fd.L1 aW vS dh (fd.K1)) s1 w)
 exact W
instance k200:Ct 200:=⟨_,call200,@DM⟩
theorem Fo(h l eP eO vK bV bU no aU)(hl:SlC aj.rp h eP eO l)(iC:SlC jB h bV bU vK)(hln:l.length<20):Ret prog 176 [.slice eP l.length eO,.slice bV vK.length bU,I no,I aU] h (.tuple #[I ((i5 l vK no aU).1),I ((i5 l vK no aU).2.1),I ((i5 l vK no aU).2.2)]):=by
 refine sT func176 U ntmps176 U λX hM hX hF=>?_
 have hs0:=@rfl _ (i5 l vK no aU)
 refine qT 10 U (e9 call50 (rl _ _ _ _ hl) U (qO 7 U (dy hs0 U (λc1 hs1=>?_) (λc1 hs2=>?_))))
 .refine qT 7 U ?_
  have hs3:i5 l vK no aU=(0,0,(aR l)):=hs1
  exact nretP [I 0,I 0,I (aR l)] (hs3▸U)
 refine qT 6 U (e9 call94 (sJ _ _ _ _ _ _ _ hl iC) U (qO 2 U (pH 4 [24,25,26,27,28] 24 28 (!(j3 aU)) U (λc2 hk1=>?_) (λe=>?_))))
 .exact dU (e9 call95 (wG h aU) U (qO 2 U (hk1 _ U)))
 refine ck (dy hs2 U (λc3 hs4=>?_) (λc3 hs5=>?_))
 .refine qT 6 U ?_
  have hs6:i5 l vK no aU=(0,0,1):=hs4
  exact nretP [I 0,I 0,I 1] (hs6▸U)
 refine qT 6 U (aS (eb call96 (un _ _ _ _ _ _ _ aU hl iC (by simpa using c1) (DB ob) hln) U (λv1 h1 kE hp1=>?_)))
 obtain⟨q1,rr1,rfl,ok1,A1⟩:=hp1
 refine qO 5 U (aS (fU (gK U) (qL 2 [] U (nm (j:=1) ty183 A1 U U (dU ?_)))))
 obtain⟨o1,hb1,hm1⟩:=ok1.shelf.at_
 refine aS (wm (k:=no) Dp (im qZ) hb1 hm1 (gF zv3) (show Ao _ (I 0) 0 from U) U U (λv2 hv1=>?_))
 obtain rfl:=hv1
 refine qO 12 U (dy hs5 U (λc4 hs7=>?_) (λc4 hs8=>?_))
 .refine qT 6 U ?_
  have hs9:i5 l vK no aU=(0,0,1):=hs7
  exact nretP [I 0,I 0,I 1] (hs9▸U)
 refine qT 6 U (e9 call97 (oy h1 (co l vK aU) rr1 q1 (mgetD ((co l vK aU).shelf.at_) no 0) aU ok1 A1 (by first|exact LJ ob|(rw[tC];omega)) (FS _ _ _)) U (qO 14 U ?_))
 have hs10:i5 l vK no aU=((cu (co l vK aU) (mgetD ((co l vK aU).shelf.at_) no 0) aU).1,(cu (co l vK aU) (mgetD ((co l vK aU).shelf.at_) no 0) aU).2,0):=hs8
 exact nretP [I ((cu (co l vK aU) (mgetD ((co l vK aU).shelf.at_) no 0) aU).1),I ((cu (co l vK aU) (mgetD ((co l vK aU).shelf.at_) no 0) aU).2),I 0] (hs10▸U)
instance k176:Ct 176:=⟨_,call176,@Fo⟩
theorem GA(h bK fA vK bV bU)(wj:Int)(aU)(nW:vM h bK fA)(iC:SlC jB h bV bU vK)(hsm:smR bK)(hix:0<=wj/\wj<(bK.cj.length:Int))(hsg:vK.length=bK.cj.length):Ret prog 42 [.agg (vH bK fA).toArray,.slice bV vK.length bU,I wj,I aU] h (.bool (fM bK vK wj aU)):=by
 refine sVv func42 ntmps42 ?_
 generalize hz:(fM bK vK wj aU)=z
 have hsq:=hsm;unfold smR at hsq
 have HA:=h0 [1,3,4,9] 10 (λs1 i=>(fM.L1 bK vK wj aU (fM.K1)) s1)
 exact W
instance k42:Ct 42:=⟨_,call42,@GA⟩
theorem IW(h l eP eO cV to aI vL vN i9 ad)(hl:SlC aE.rp h eP eO l)(hsz0:l.length<=2000000):j0 prog 298 [.slice eP l.length eO,I cV,I to,I aI,I vL,I vN,I i9,I ad] h (λv h'=>∃(rb0:Option Addr)(rc0:Nat),v=.tuple #[.slice rb0 ((fJ l cV to aI vL vN i9 ad).1).length rc0,.bool ((fJ l cV to aI vL vN i9 ad).2.1),I ((fJ l cV to aI vL vN i9 ad).2.2)]/\SlC jB h' rb0 rc0 ((fJ l cV to aI vL vN i9 ad).1)):=by
 refine sT func298 U ntmps298 U λX hM hX hF=>?_
 have hs0:=@rfl _ (fJ l cV to aI vL vN i9 ad)
 refine qT 16 U (e9 call359 (IU _ _ _ _ cV to aI vL vN i9 ad hl) U (qO 8 U (dy hs0 U (λc1 hs1=>?_) (λc1 hs2=>?_))))
 .refine qT 7 U ?_
  have hs3:fJ l cV to aI vL vN i9 ad=([],false,(nP l cV to aI vL vN i9 ad)):=hs1
  exact nretH [zSN,.bool false,I (nP l cV to aI vL vN i9 ad)] (hs3▸⟨none,0,U,vE⟩)
 refine qT 9 U (aS (eb call360 (DU _ _ _ _ aI vL vN i9 ad hl ob) U (λv1 h1 kE hp1=>?_)))
 obtain⟨rb1,rc1,rfl,sl1⟩:=hp1
 refine qO 7 U ?_
 refine km (ι:=Nat×HF) (λi=>[]) (λi=>i.2) (λi=>[]) (λi=>i.1<=(xF 9).length/\fJ l cV to aI vL vN i9 ad=((fJ.K1))/\zM h1 i.2) ?_ (λhx1=>?_)
 .rintro⟨i1,hh1⟩ ⟨pq,hs4,hl1⟩ e
  refine qT 6 U ?_
  have hs5:fJ l cV to aI vL vN i9 ad=([],false,0):=hs4
  exact nretH [zSN,.bool false,I 0] (hs5▸⟨none,0,U,vE⟩)
 refine mL (ι:=Nat×HF×List Nat) (λi=>[(1,I cV),(2,I to),(20,.slice rb1 ((eL l aI vL vN i9 ad).length) rc1),(21,I (i.1:Int))]) (λi=>i.2.1) (λi=>[]) (λi=>(xF 9).drop i.1=i.2.2/\i.1<=(xF 9).length/\fJ l cV to aI vL vN i9 ad=((fJ.L1 l cV to aI vL vN i9 ad (fJ.K1)) i.2.2 i.1)/\zM h1 i.2.1) (λi=>i.2.2.length) (0,h1,(xF 9)) rd sw ⟨U,kJ _,hs2,lf⟩ ?_
 rintro⟨i1,hh1,s1⟩ ⟨hd1,pq,hs6,hl1⟩ ag1 e
 rcases s1 with _|⟨y1,rz1⟩
 .have rZ:decide ((i1:Int)<=8)=false:=decide_eq_false (by have q_:=of_decide_eq_false (rm hd1);rw[List.length_range]at q_;omega)
  exact eI (qT 3 U (fO rZ U (qO 3 U (hx1 (i1,hh1) _ ⟨pq,hs6,hl1⟩ trivial))))
 have ns:decide ((i1:Int)<=8)=true:=decide_eq_true (by have q_:=kl hd1;rw[List.length_range]at q_;omega)
 have po:i1<9:=by simpa using kl hd1
 refine qT 4 U (tO ns U (qO 9 U (aS (cM (cells:=[I cV]) fm ty3 zc3 U U kr (λb2=>qO 2 U (dV 0 U hM (λh4 kK hb2=>?_)))))))
 have sl4:SlC jB h4 (zAD b2) 1 ([cV]):=bW.slB0 (T:=3) (fz:=(0,0)) ((show bW jB hh1 [I cV] ([cV])from⟨[I cV],[],rfl,rfl,rfl,rfl⟩).mono vJ kK) hb2
 refine aS (eb Ts (KG _ _ _ _ _ _ _ to (i1:Int) (sl1.mono aE.aB (hl1.t kK)) sl4 ob) U (λv3 h5 kP hp3=>?_))
 obtain⟨rb3,rc3,rfl,sl5⟩:=hp3
 refine qO 10 U (dy hs6 U (λc3 hs8=>?_) (λc3 hs9=>?_))
 .refine qT 7 U ?_
  have hs10:fJ l cV to aI vL vN i9 ad=((cX (eL l aI vL vN i9 ad) ([cV]) to (i1:Int)).1,true,0):=hs8
  exact nretH [.slice rb3 (((cX (eL l aI vL vN i9 ad) ([cV]) to (i1:Int)).1).length) rc3,.bool true,I 0] (hs10▸⟨rb3,rc3,U,sl5⟩)
 exact jf (qT 3 U (oi i1 U (an (ag1 ((i1+1),h5,rz1) _ (Nat.lt_succ_self _) ⟨nl hd1,kl hd1,hs9,((hl1.t kK).t kP)⟩ rd))))
instance k298:Ct 298:=⟨_,call298,@IW⟩
theorem Ks(h bK fA bu d Ap aU ad)(nW:vM h bK fA)(hd:aj.ok h d Ap)(hsm:smR bK):Ret prog 299 [.agg (vH bK fA).toArray,I bu,.agg (aj.cells d Ap).toArray,I aU,I ad] h (.bool (vh bK bu d aU ad)):=by
 refine sVv func299 ntmps299 ?_
 generalize hz:(vh bK bu d aU ad)=z
 have hsq:=hsm;unfold smR at hsq
 exact W
instance k299:Ct 299:=⟨_,call299,@Ks⟩
theorem An(h l eP eO bD aW vS dh ad)(hl:SlC ae.rp h eP eO l)(hsz:l.length<=2000000):j0 prog 255 [.slice eP l.length eO,I bD,I aW,I vS,I dh,I ad] h (λv h'=>∃(rb0:Option Addr)(rc0:Nat),v=.tuple #[.slice rb0 ((cC l bD aW vS dh ad).1).length rc0,I ((cC l bD aW vS dh ad).2)]/\SlC ae.rp h' rb0 rc0 ((cC l bD aW vS dh ad).1)):=by
 refine sT func255 U ntmps255 U λX hM hX hF=>?_
 have hs0:=@rfl _ (cC l bD aW vS dh ad)
 have hst:=yZ l bD dh ad
 refine sr (j2 (λb1=>j2 (λb2=>j2 (λb3=>qO 7 U (e9 call51 (we _ _ _ _ hl) U (qO 7 U (dy hs0 U (λc1 hs1=>?_) (λc1 hs2=>?_))))))))
 .refine qT 6 U ?_
  have hs3:cC l bD aW vS dh ad=([],(bN l)):=hs1
  exact nretH [zSN,I (bN l)] (hs3▸⟨none,0,U,vE⟩)
 refine qT 5 U (aS (cM (cells:=[I bD]) fm ty3 zc3 U U kr (λb4=>dV 0 U hM (λh1 kE hb1=>?_))))
 have sl1:SlC jB h1 (zAD b4) 1 ([bD]):=bW.slB0 (T:=3) (fz:=(0,0)) ((show bW jB h [I bD] ([bD])from⟨[I bD],[],rfl,rfl,rfl,rfl⟩).mono vJ kE) hb1
 refine e9 call162 (qv _ 4095 _ _ _ sl1) U (qO 2 U (pH 8 [23,24,25,26,27,28,29,30,31] 23 31 (!(eN 1099511627775 ([aW,vS,dh,ad]))) U (λc2 hk1=>?_) (λe=>?_)))
 .refine qL 4 [2,1,0] U (aS (cM (cells:=[I aW,I vS,I dh,I ad]) fm ty3 zc3 U U kr (λb5=>dV 0 U hM (λh2 kF hb2=>?_))))
  have sl2:SlC jB h2 (zAD b5) 4 ([aW,vS,dh,ad]):=bW.slB0 (T:=3) (fz:=(0,0)) ((show bW jB h1 [I aW,I vS,I dh,I ad] ([aW,vS,dh,ad])from⟨[I aW],[I vS,I dh,I ad],rfl,rfl,rfl,⟨[I vS],[I dh,I ad],rfl,rfl,rfl,⟨[I dh],[I ad],rfl,rfl,rfl,⟨[I ad],[],rfl,rfl,rfl,rfl⟩⟩⟩⟩).mono vJ kF) hb2
  exact e9 call162 (qv _ 1099511627775 _ _ _ sl2) U (qO 2 U (Hl (h:=h1) kF hX kE (hk1 _ U)))
 refine ck (dy hs2 U (λc3 hs4=>?_) (λc3 hs5=>?_))
 .refine qT 5 U ?_
  have hs6:cC l bD aW vS dh ad=([],1):=hs4
  exact nretH [zSN,I 1] (hs6▸⟨none,0,U,vE⟩)
 refine qK 7 [0] U (aS (Vt call329 (Am _ _ _ _ bD dh ad (hl.mono ae.aB kE) ob) U (λob1 oc1 G1 gr1=>dV 2 U hM (λh3 kG hb3=>dV 0 U hM (λh4 kK hb4=>dV 0 U hM (λh5 kP hb5=>aS (kw U U (aS (pT (v:=.slice ob1 (fL (aK l bD dh ad) (λfX=>kz fX aW dh vS)).length oc1) ([]) G1 ([]) call328 (tj h5 (aK l bD dh ad) ob1 oc1 G1 (λfX=>kz fX aW dh vS) (.func (.func 330) #[] #[Q b1,Q b3,Q b2]) (gr1.mono ae.aB ((kG.t kK).t kP)) (λh' fX eT=>oO call330 (ym h' fX aW ⟨b1,0,none⟩ dh ⟨b3,0,none⟩ vS ⟨b2,0,none⟩  (((gM hb3).mono (kK.t kP)).mono eT) (((gM hb4).mono kP).mono eT) ((gM hb5).mono eT))) ob) ap U (λG2 gr2=>mf (L':=G2) ap (sP ae.aB ([]) G2 ([]) ap hM gr2 (λh6 kQ sl3=>qO 3 U ?_))))))))))))
 have hs7:cC l bD aW vS dh ad=((fL (aK l bD dh ad) (λfX=>kz fX aW dh vS)),0):=hs5
 exact nretH [.slice ob1 ((fL (aK l bD dh ad) (λfX=>kz fX aW dh vS)).length) oc1,I 0] (hs7▸⟨ob1,oc1,U,sl3⟩)
theorem C0(h l eP eO aI aT ad)(hl:SlC aA.rp h eP eO l)(hsz:l.length<=2000000):j0 prog 181 [.slice eP l.length eO,I aI,I aT,I ad] h (λv h'=>∃(rb0:Option Addr)(rc0:Nat),v=.tuple #[.slice rb0 ((jh l aI aT ad).1).length rc0,I ((jh l aI aT ad).2)]/\SlC aV.rp h' rb0 rc0 ((jh l aI aT ad).1)):=by
 refine sVv func181 ntmps181 ?_
 generalize hz:(jh l aI aT ad)=z
 have gk:=trivial
 have q0:=@Dy
 have q1:=@F5
 exact W
instance k181:Ct 181:=⟨_,call181,@C0⟩
theorem ID(h p jv)(hp:aw.ok h p jv):Ret prog 231 [.agg (aw.cells p jv).toArray] h (.bool (jc p)):=by
 refine sVv func231 ntmps231 ?_
 generalize hz:(jc p)=z
 have HA:=h0 [1] 3 (λs1 i=>(jc.L1 p (jc.K1 p)) s1)
 exact W
theorem Ip(h bK fA vK bV bU d Ap aU)(nW:vM h bK fA)(iC:SlC jB h bV bU vK)(hd:aj.ok h d Ap)(hsm:smR bK):Ret prog 43 [.agg (vH bK fA).toArray,.slice bV vK.length bU,.agg (aj.cells d Ap).toArray,I aU] h (.bool (ka bK vK d aU)):=by
 refine sVv func43 ntmps43 ?_
 generalize hz:(ka bK vK d aU)=z
 have hsq:=hsm;unfold smR at hsq
 have HA:=h0 [6,9] 11 (λs1 i=>(ka.L1 bK vK aU (ka.K1)) s1)
 exact W
instance k43:Ct 43:=⟨_,call43,@Ip⟩
theorem ET(h p jv)(hp:aw.ok h p jv)(hsm:smP p):j0 prog 142 [.agg (aw.cells p jv).toArray] h (λv h'=>∃(rr0:iq),v=.tuple #[.agg (aw.cells ((eM p).1) rr0).toArray,I ((eM p).2)]/\aw.ok h' ((eM p).1) rr0):=by
 refine el Rc U ntmps142 U λX hM hX=>?_
 have hs0:=@rfl _ (eM p)
 have hsc:=hsm.change
 have hsr:=hsm.rules
 refine sr (j2 (λb1=>cS zc61 (λb2=>qO 5 U (ga 1 ty61 U U U (e9 call230 (DO _ _ _ hp) U (ck (dy hs0 U (λc1 hs1=>?_) (λc1 hs2=>?_))))))))
 .refine sr (aS (ia (cells:=[.string (⟨#[]⟩:ByteArray),zSN,zSN,zSN,I 0,I 0,I 0,.string (⟨#[]⟩:ByteArray),zSN,I 0]) (places:=[(0,1),(1,1),(2,1),(3,1),(4,5),(9,1)]) Rj zc61 kr kr (cJ 0 ty61 U U U U U U (an ?_))))
  have hs3:eM p=((aw.mk (⟨#[]⟩:ByteArray) ([]) ([]) ([]) (ai.mk 0 0 0 (⟨#[]⟩:ByteArray) ([])) 0),2):=hs1
  exact mK [.agg (vB [.string (⟨#[]⟩:ByteArray),zSN,zSN,zSN,I 0,I 0,I 0,.string (⟨#[]⟩:ByteArray),zSN,I 0]),I 2] Rc U ⟨⟨0,_,_,_,_,U,U,.inl ⟨ty61,U⟩⟩,U,trivial⟩ ⟨(iq.mk none 0 none 0 none 0 (dO.mk none 0)),congrArg (λr:(aw×Int)=>(.tuple #[.agg (aw.cells r.1 (iq.mk none 0 none 0 none 0 (dO.mk none 0))).toArray,I r.2]:Value)) hs3.symm,(by rw[hs3];exact(show aw.ok h (aw.mk (⟨#[]⟩:ByteArray) ([]) ([]) ([]) (ai.mk 0 0 0 (⟨#[]⟩:ByteArray) ([])) 0) (iq.mk none 0 none 0 none 0 (dO.mk none 0))from⟨vE,vE,vE,(show ai.ok h (ai.mk 0 0 0 (⟨#[]⟩:ByteArray) ([])) (dO.mk none 0)from ai.ok.of vE)⟩))⟩
 refine qT 4 U (ga 1 ty61 U U U (e9 call231 (ID _ _ _ hp) U (qO 2 U (dy hs2 U (λc2 hs4=>?_) (λc2 hs5=>?_)))))
 .refine sr (aS (ia (cells:=[.string (⟨#[]⟩:ByteArray),zSN,zSN,zSN,I 0,I 0,I 0,.string (⟨#[]⟩:ByteArray),zSN,I 0]) (places:=[(0,1),(1,1),(2,1),(3,1),(4,5),(9,1)]) Rj zc61 kr kr (cJ 0 ty61 U U U U U U (an ?_))))
  have hs6:eM p=((aw.mk (⟨#[]⟩:ByteArray) ([]) ([]) ([]) (ai.mk 0 0 0 (⟨#[]⟩:ByteArray) ([])) 0),201):=hs4
  exact mK [.agg (vB [.string (⟨#[]⟩:ByteArray),zSN,zSN,zSN,I 0,I 0,I 0,.string (⟨#[]⟩:ByteArray),zSN,I 0]),I 201] Rc U ⟨⟨0,_,_,_,_,U,U,.inl ⟨ty61,U⟩⟩,U,trivial⟩ ⟨(iq.mk none 0 none 0 none 0 (dO.mk none 0)),congrArg (λr:(aw×Int)=>(.tuple #[.agg (aw.cells r.1 (iq.mk none 0 none 0 none 0 (dO.mk none 0))).toArray,I r.2]:Value)) hs6.symm,(by rw[hs6];exact(show aw.ok h (aw.mk (⟨#[]⟩:ByteArray) ([]) ([]) ([]) (ai.mk 0 0 0 (⟨#[]⟩:ByteArray) ([])) 0) (iq.mk none 0 none 0 none 0 (dO.mk none 0))from⟨vE,vE,vE,(show ai.ok h (ai.mk 0 0 0 (⟨#[]⟩:ByteArray) ([])) (dO.mk none 0)from ai.ok.of vE)⟩))⟩
 refine qT 4 U (ga 1 ty61 U U U (e9 call232 (GM _ _ _ hp) U (qO 2 U (dy hs5 U (λc3 hs7=>?_) (λc3 hs8=>?_)))))
 .refine sr (aS (ia (cells:=[.string (⟨#[]⟩:ByteArray),zSN,zSN,zSN,I 0,I 0,I 0,.string (⟨#[]⟩:ByteArray),zSN,I 0]) (places:=[(0,1),(1,1),(2,1),(3,1),(4,5),(9,1)]) Rj zc61 kr kr (cJ 0 ty61 U U U U U U (an ?_))))
  have hs9:eM p=((aw.mk (⟨#[]⟩:ByteArray) ([]) ([]) ([]) (ai.mk 0 0 0 (⟨#[]⟩:ByteArray) ([])) 0),200):=hs7
  exact mK [.agg (vB [.string (⟨#[]⟩:ByteArray),zSN,zSN,zSN,I 0,I 0,I 0,.string (⟨#[]⟩:ByteArray),zSN,I 0]),I 200] Rc U ⟨⟨0,_,_,_,_,U,U,.inl ⟨ty61,U⟩⟩,U,trivial⟩ ⟨(iq.mk none 0 none 0 none 0 (dO.mk none 0)),congrArg (λr:(aw×Int)=>(.tuple #[.agg (aw.cells r.1 (iq.mk none 0 none 0 none 0 (dO.mk none 0))).toArray,I r.2]:Value)) hs9.symm,(by rw[hs9];exact(show aw.ok h (aw.mk (⟨#[]⟩:ByteArray) ([]) ([]) ([]) (ai.mk 0 0 0 (⟨#[]⟩:ByteArray) ([])) 0) (iq.mk none 0 none 0 none 0 (dO.mk none 0))from⟨vE,vE,vE,(show ai.ok h (ai.mk 0 0 0 (⟨#[]⟩:ByteArray) ([])) (dO.mk none 0)from ai.ok.of vE)⟩))⟩
 refine qT 3 U (ga 1 ty61 U U U (cS zc61 (λb3=>cJ 0 ty61 U U U U U U (qL 4 [] U (dK 0 ty56 U U U U U U (qO 6 U ?_))))))
 let z4:Nat×Obj:=(b2,O [.string (⟨#[]⟩:ByteArray),zSN,zSN,zSN,I 0,I 0,I 0,.string (⟨#[]⟩:ByteArray),zSN,I 0] 61)
 let z7:Nat×Obj:=(b1,O (aw.cells p jv) 61)
 refine lp2 p.dt (λi w=>[(1,Q b1),(2,Q b2),(4,Q b3),(5,I (i:Int))]) (λw=>w.2.2.2.2) (λw=>[(b3,O [.string p.Name,.slice jv.lj p.ey.length jv.li,.slice jv.iM p.aD.length jv.iL,.slice w.2.1 w.1.length w.2.2.1,I p.aP.Kind,I p.aP.N,I p.aP.No,.string p.aP.Name,.slice jv.aP.qg p.aP.L.length jv.aP.qs,I p.Mode] 61),z4,z7]++(w.2.2.2.1)) (λi w=>di fI.rp 65 w.2.2.2.2 w.1 w.2.1 w.2.2.1 w.2.2.2.1/\w.1.length<=0+i/\zM h w.2.2.2.2) (λs1 i w=>(eM.L1 p (eM.K1 p)) s1 i w.1) ([],none,0,[],h) hp.dt.1.1 hs8 ⟨di.nil,lo,lf⟩ ?_ ?_ ?_
 .rintro i1 ⟨oe,ss,sn,Bm,hh1⟩ pq hs10 ⟨Bl,JD,hl1⟩ e
  try dsimp only at Bl JD hl1
  refine qK 5 [2] U (ga 2 ty59 U U U (aS (eb On (wv _ _ _ _ _ _ (hp.aD.mono YS hl1) (hp.aP.mono hl1) ob) U (λv3 h4 kK hp3=>?_))))
  obtain⟨rr4,rfl,ok4⟩:=hp3
  let z2:Nat×Obj:=(b3,O [.string p.Name,.slice jv.lj p.ey.length jv.li,.slice jv.iM p.aD.length jv.iL,.slice ss oe.length sn,I ((ao p.aD p.aP).Kind),I ((ao p.aD p.aP).N),I ((ao p.aD p.aP).No),.string ((ao p.aD p.aP).Name),.slice rr4.qg ((ao p.aD p.aP).L.length) rr4.qs,I p.Mode] 61)
  let z3:Nat×Obj:=(b2,O [.string p.Name,.slice jv.lj p.ey.length jv.li,.slice jv.iM p.aD.length jv.iL,.slice ss oe.length sn,I ((ao p.aD p.aP).Kind),I ((ao p.aD p.aP).N),I ((ao p.aD p.aP).No),.string ((ao p.aD p.aP).Name),.slice rr4.qg ((ao p.aD p.aP).L.length) rr4.qs,I p.Mode] 61)
  refine qL 1 [] U (dK 0 ty59 U U U U U U (qO 3 U (ga 0 ty61 U U U (cJ 1 ty61 U U U U U U (mf (L':=[z2,z3,z7]++(Bm)) U (an (jz fI.aB ([z2,z3,z7]) Bm ([]) ap hM (Bl.mono fI.aB kK) (λh5 kP sl2=>?_))))))))
  have hs11:eM p=((aw.mk p.Name p.ey p.aD oe (ai.mk ((ao p.aD p.aP).Kind) ((ao p.aD p.aP).N) ((ao p.aD p.aP).No) ((ao p.aD p.aP).Name) ((ao p.aD p.aP).L)) p.Mode),0):=hs10
  exact mK [.agg (aw.cells (aw.mk p.Name p.ey p.aD oe (ai.mk ((ao p.aD p.aP).Kind) ((ao p.aD p.aP).N) ((ao p.aD p.aP).No) ((ao p.aD p.aP).Name) ((ao p.aD p.aP).L)) p.Mode) (iq.mk jv.lj jv.li jv.iM jv.iL ss sn (dO.mk rr4.qg rr4.qs))).toArray,I 0] Rc U ⟨⟨1,_,_,_,_,U,U,.inl ⟨ty61,U⟩⟩,U,trivial⟩ ⟨(iq.mk jv.lj jv.li jv.iM jv.iL ss sn (dO.mk rr4.qg rr4.qs)),congrArg (λr:(aw×Int)=>(.tuple #[.agg (aw.cells r.1 (iq.mk jv.lj jv.li jv.iM jv.iL ss sn (dO.mk rr4.qg rr4.qs))).toArray,I r.2]:Value)) hs11.symm,(by rw[hs11];exact(show aw.ok h5 (aw.mk p.Name p.ey p.aD oe (ai.mk ((ao p.aD p.aP).Kind) ((ao p.aD p.aP).N) ((ao p.aD p.aP).No) ((ao p.aD p.aP).Name) ((ao p.aD p.aP).L)) p.Mode) (iq.mk jv.lj jv.li jv.iM jv.iL ss sn (dO.mk rr4.qg rr4.qs))from⟨(hp.ey.mono YS ((hl1.t kK).t kP)),(hp.aD.mono YS ((hl1.t kK).t kP)),sl2,(show ai.ok h5 (ai.mk ((ao p.aD p.aP).Kind) ((ao p.aD p.aP).N) ((ao p.aD p.aP).No) ((ao p.aD p.aP).Name) ((ao p.aD p.aP).L)) (dO.mk rr4.qg rr4.qs)from ai.ok.of (ok4.list.mono ai.aB kP))⟩))⟩
 .rintro i1 ⟨oe,ss,sn,Bm,hh1⟩ y1 rz1 hd1 ns iI po xe hs12 ⟨Bl,JD,hl1⟩ hx1 ag1 e
  try dsimp only at Bl JD hl1
  have hsy:=hsm.2.1 y1 (fe hd1)
  refine qK 7 [2] U (tO ns U (qL 9 [2] U ?_))
  let z1:Nat×Obj:=(b3,O [.string p.Name,.slice jv.lj p.ey.length jv.li,.slice jv.iM p.aD.length jv.iL,.slice ss oe.length sn,I p.aP.Kind,I p.aP.N,I p.aP.No,.string p.aP.Name,.slice jv.aP.qg p.aP.L.length jv.aP.qs,I p.Mode] 61)
  refine dU (aS (iR MH ty65 (hp.dt.mono fI.aB hl1).1 iI U U U (λ_ _ _ e=>e) (λq2 r2 A2 ok5=>lh ty65 A2 U U (cS zc65 (λb6=>cJ 0 ty65 U U U U U U (mf (L':=[(b6,O (fI.cells y1 r2) 65),z1,z4,z7]++(Bm)) U (qL 5 [] U (dK 0 ty3 U U U U U U (qL 6 [3] U (ga 0 ty59 U U U (aS (eb On (wv _ _ _ _ _ _ (hp.aD.mono YS hl1) ok5.ai ob) U (λv4 h6 kQ hp4=>?_)))))))))))))
  obtain⟨rr6,rfl,ok6⟩:=hp4
  refine qL 1 [] U (dK 0 ty59 U U U U U U (qL 4 [1] U (ga 0 ty65 U U U (aS (cM (cells:=[.string y1.Kind,I (i1:Int),I y1.iJ,I ((ao p.aD y1.ai).Kind),I ((ao p.aD y1.ai).N),I ((ao p.aD y1.ai).No),.string ((ao p.aD y1.ai).Name),.slice rr6.qg ((ao p.aD y1.ai).L.length) rr6.qs]) MH ty65 zc65 U U kr (λb7=>?_))))))
  let z5:Nat×Obj:=(b7,O [.string y1.Kind,I (i1:Int),I y1.iJ,I ((ao p.aD y1.ai).Kind),I ((ao p.aD y1.ai).N),I ((ao p.aD y1.ai).No),.string ((ao p.aD y1.ai).Name),.slice rr6.qg ((ao p.aD y1.ai).L.length) rr6.qs] 65)
  let z6:Nat×Obj:=(b6,O [.string y1.Kind,I (i1:Int),I y1.iJ,I ((ao p.aD y1.ai).Kind),I ((ao p.aD y1.ai).N),I ((ao p.aD y1.ai).No),.string ((ao p.aD y1.ai).Name),.slice rr6.qg ((ao p.aD y1.ai).L.length) rr6.qs] 65)
  refine aS (dN fI.ft ([z5,z6,z1,z4,z7]) ([]) (λG=>[z5,z6,z1,z4,z7]++G) ap (λ_=>ap) MH ty65 zc65 U bytes65 (Bl.mono fI.aB kQ) U U (gQ 0 U (cE (R:=fI.rp) (fI.mk y1.Kind (i1:Int) y1.iJ (ai.mk ((ao p.aD y1.ai).Kind) ((ao p.aD y1.ai).N) ((ao p.aD y1.ai).No) ((ao p.aD y1.ai).Name) ((ao p.aD y1.ai).L))) U ⟨(yp.mk (dO.mk rr6.qg rr6.qs)),U,(show fI.ok h6 (fI.mk y1.Kind (i1:Int) y1.iJ (ai.mk ((ao p.aD y1.ai).Kind) ((ao p.aD y1.ai).N) ((ao p.aD y1.ai).No) ((ao p.aD y1.ai).Name) ((ao p.aD y1.ai).L))) (yp.mk (dO.mk rr6.qg rr6.qs))from⟨(show ai.ok h6 (ai.mk ((ao p.aD y1.ai).Kind) ((ao p.aD y1.ai).N) ((ao p.aD y1.ai).No) ((ao p.aD y1.ai).Name) ((ao p.aD y1.ai).L)) (dO.mk rr6.qg rr6.qs)from ai.ok.of ok6.list)⟩)⟩)) lo lo (λob2 oc2 G2 gr2=>qL 1 [] U (dK 2 ty56 U U U U U U (qO 4 U (oi i1 U (an (ek (L':=[(b3,O [.string p.Name,.slice jv.lj p.ey.length jv.li,.slice jv.iM p.aD.length jv.iL,.slice ob2 ((oe++[(fI.mk y1.Kind (i1:Int) y1.iJ (ai.mk ((ao p.aD y1.ai).Kind) ((ao p.aD y1.ai).N) ((ao p.aD y1.ai).No) ((ao p.aD y1.ai).Name) ((ao p.aD y1.ai).L)))]).length) oc2,I p.aP.Kind,I p.aP.N,I p.aP.No,.string p.aP.Name,.slice jv.aP.qg p.aP.L.length jv.aP.qs,I p.Mode] 61),z4,z7]++G2) js ?_)))))))
  exact ag1 ((oe++[(fI.mk y1.Kind (i1:Int) y1.iJ (ai.mk ((ao p.aD y1.ai).Kind) ((ao p.aD y1.ai).N) ((ao p.aD y1.ai).No) ((ao p.aD y1.ai).Name) ((ao p.aD y1.ai).L)))]),ob2,oc2,G2,h6) hs12 ⟨gr2,lo,(hl1.t kQ)⟩
 rintro i1 ⟨oe,ss,sn,Bm,hh1⟩ hd1 rZ hx e
 exact qK 7 [2] U (fO rZ U (qO 3 U (hx _ rd)))
instance k142:Ct 142:=⟨_,call142,@ET⟩
theorem Ac(h p jv p_q)(hp:aw.ok h p jv)(ap_z:At h p_q (aw.cells p jv))(hsm:smP p)(hk:ey h):Fw prog 302 [.pointer (some p_q)] h (exW stopV (λr:Unit=>(.tuple #[]:Value)) (fx p)):=by
 refine sVv func302 ntmps302 ?_
 generalize hz:(fx p)=z
 have hsq:=hsm;unfold smP at hsq
 exact W
theorem Ag(h c rL c_q p jv p_q)(hc:bZ.ok h c rL)(ac:At h c_q (bZ.cells c rL))(hp:aw.ok h p jv)(ap_z:At h p_q (aw.cells p jv))(hsm:smR c.Register)(hco:kj c)(hpr:p.dt.length=p.ey.length/\∀y∈p.dt,0<=y.iJ/\y.iJ<=1099511627775):Itr prog (.func (.func 254) #[] (vB [.pointer (some c_q),.pointer (some p_q)])) rW (dl c p) h:=by
 refine vt call254 ?_
 intro yf ya yb C Sp Pn h1 A eT m1 m2 m3 hC hy
 refine oA Rb U ntmps254 U λX hXM hX=>?_
 have hs0:dl c p=[]++dl c p:=rfl
 have hkd:=hco.kind
 refine qK 5 [] U (nm (j:=9) ty3 (ac.mono eT) U U (qL 1 [] U (nm (j:=1) ty55 (ap_z.mono eT) U U (qL 3 [] U (lL U (λc1=>?_) (λc1=>?_))))))
 .have c1p:=of_decide_eq_true c1
  have hs1:=hs0.trans (congrArg ([]++·) (bt c1))
  refine ke ?_
  have hs2:dl c p=[]:=hs1.trans (List.append_nil _)
  exact Bc [] (A:=A) Rb U (List.Sublist.refl _) (.inl (hs2▸hC))
 have c1p:=of_decide_eq_false c1
 have hs3:=hs0.trans (congrArg ([]++·) (bf c1))
 refine qT 2 U (hU ([]) mixed kr jn (λkI _=>qB [0,1] U (tf 2 U U (rH 6 ty28 (ac.mono eT) U U) (qB [3,4] U (tf 5 U U (rH 7 ty3 (ac.mono eT) U U) (qB [6,7] U (tf 8 U U (rH 8 ty3 (ac.mono eT) U U) (qB [9] U (tf 10 U U (rH 3 ty56 (ap_z.mono eT) U U) (qB [11,12] U (tf 13 U U (rH 9 ty3 (ac.mono eT) U U) ?_)))))))))))
 have ho1:0<=(c.bD.Kind:Int)/\(c.bD.Kind:Int)<((p.dt).length:Int):=ob
 refine sY 14 kI jn MH ty65 (hp.dt.mono fI.aB eT).1 ho1 (eu ho1) U U U U kr (λq1 cs1 A1 ln1 rr1=>?_)
 obtain⟨r1,rfl,ok1⟩:=rr1
 refine qB [15] U (tf 16 U U (rH 2 ty3 A1 U U) (qB [17] U (tf 18 U U (rH 48 ty3 (ac.mono eT) U U) (qB [19] U (tf 20 U U (rH 49 ty3 (ac.mono eT) U U) (tn 21 U (eb call255 (An _ _ _ _ c.bD.No c.bD.At ((nthI p.dt c.bD.Kind).iJ) c.at_ c.ad (hc.Register.bS.mono ae.aB eT) hsm.2.2.2.2.2.2) U (λv1 h2 kE hp1=>?_))))))))
 obtain⟨rb1,rc1,rfl,sl1⟩:=hp1
 refine⟨⟨kE,λ_ hp=>List.Sublist.subset (List.nil_sublist _) hp⟩,xq (K2:=[]) kE (λ_ hp=>hp) (qR 22 5 U (dJ kr (qT 3 U (aS (xy Kp (lv h2 ((cC c.Register.bS c.bD.No c.bD.At ((nthI p.dt c.bD.Kind).iJ) c.at_ c.ad).2)) (by first|exact qI (Bv hco hpr ob)|exact qI (Bu hco (fe hd1))|exact qI (Bw hco (fe hd1))) U (qL 7 [] U ?_))))))⟩
 refine lp2 ((cC c.Register.bS c.bD.No c.bD.At ((nthI p.dt c.bD.Kind).iJ) c.at_ c.ad).1) (λi w=>[(0,.func yf ya yb),(1,.pointer (some c_q)),(48,.slice rb1 (((cC c.Register.bS c.bD.No c.bD.At ((nthI p.dt c.bD.Kind).iJ) c.at_ c.ad).1).length) rc1),(49,I ((((cC c.Register.bS c.bD.No c.bD.At ((nthI p.dt c.bD.Kind).iJ) c.at_ c.ad).1).length:Nat):Int)),(50,I (i:Int))]) (λw=>w.2.2) (λw=>w.2.1) (λi w=>C w.1 w.2.2 w.2.1/\zM h2 w.2.2) (λs1 i w=>w.1++(dl.L1 c (dl.K1)) s1) ([],A,h2) sl1.1.1 hs3 ⟨(m1 _ _ _ _ kE hC),lf⟩ ?_ ?_
 .rintro i1 ⟨dn1,A1_,hh1⟩ pq hs4 ⟨hC1_,hl1⟩ e
  refine ke ?_
  have hs5:dl c p=dn1:=hs4.trans (List.append_nil _)
  exact Fa [] (A:=A1_) Rb U (List.Sublist.refl _) (.inl (hs5▸hC1_))
 rintro i1 ⟨dn1,A1_,hh1⟩ y1 rz1 hd1 ns iI po xe hs6 ⟨hC1_,hl1⟩ hx1 ag1 e
 refine sr (tO ns U (qO 8 U (aS (iF ae.cells MF ty67 (sl1.mono ae.aB hl1).1 iI U U U (λq3 A3=>lh ty67 A3 U U (cS zc67 (λb2=>cJ 0 ty67 U U U U U U (mf (L':=[(b2,O (ae.cells y1) 67)]++(A1_)) U (qL 5 [] U (iw ty22 (ac.mono ((eT.t kE).t hl1)) U (qL 5 [0,0] U (nm (j:=48) ty3 (ac.mono ((eT.t kE).t hl1)) U U (qL 1 [] U (nm (j:=49) ty3 (ac.mono ((eT.t kE).t hl1)) U U (e9 call236 (E3 _ _ _ _ y1.dQ y1.For c.at_ c.ad (hc.Register.fj.mono aA.aB ((eT.t kE).t hl1))) U (qO 13 U (aS (xy Kp (lv hh1 ((jq c.Register.fj y1.dQ y1.For c.at_ c.ad).2.2.2)) (by first|exact qI (Bv hco hpr ob)|exact qI (Bu hco (fe hd1))|exact qI (Bw hco (fe hd1))) U (qL 5 [] U (nm (j:=1) ty23 (ac.mono ((eT.t kE).t hl1)) U U (qL 8 [0,0,0] U (nm (j:=9) ty3 (ac.mono ((eT.t kE).t hl1)) U U (qL 2 [] U (nm (j:=10) ty3 (ac.mono ((eT.t kE).t hl1)) U U (qL 1 [] U (nm (j:=48) ty3 (ac.mono ((eT.t kE).t hl1)) U U (qL 1 [] U (nm (j:=49) ty3 (ac.mono ((eT.t kE).t hl1)) U U (aS (eb call256 (Ep _ _ _ _ y1.For y1.By y1.dQ c.bD.Kind c.bD.Value c.at_ c.ad (hc.Register.dY.mono aE.aB ((eT.t kE).t hl1)) hsm.2.2.1) U (λv3 h4 kG hp3=>?_)))))))))))))))))))))))))))))))
 obtain⟨rb3,rc3,rfl,sl3⟩:=hp3
 refine qO 11 U (aS (xy Kp (lv h4 ((aJ c.Register.dY y1.For y1.By y1.dQ c.bD.Kind c.bD.Value c.at_ c.ad).2.2)) (by first|exact qI (Bv hco hpr ob)|exact qI (Bu hco (fe hd1))|exact qI (Bw hco (fe hd1))) U (qO 5 U (pF 2 [100,101,102] 100 102 ((aJ c.Register.dY y1.For y1.By y1.dQ c.bD.Kind c.bD.Value c.at_ c.ad).2.1) U (λc2 hk1=>?_) (λe=>?_)))))
 .exact dU (I6 U (hk1 _ U))
 refine dU (pF 6 [103,104,105,106,107,108,109] 103 109 (!(jY c y1.For)) U (λc3 hk2=>?_) (λe=>?_))
 .exact lh ty91 (ac.mono (((eT.t kE).t hl1).t kG)) U U (qL 2 [0] U (e9 call257 (sI _ _ _ y1.For (hc.mono (((eT.t kE).t hl1).t kG)) hsm ob (by first|exact Mq hco (fe hd1)|exact PV hco (fe hd1))) U (qO 2 U (hk2 _ U))))
 refine dU (pF 6 [110,111,112,113,114,115,116] 110 116 (!(jY c y1.By)) U (λc4 hk3=>?_) (λe=>?_))
 .exact lh ty91 (ac.mono (((eT.t kE).t hl1).t kG)) U U (qL 2 [0] U (e9 call257 (sI _ _ _ y1.By (hc.mono (((eT.t kE).t hl1).t kG)) hsm ob (by first|exact Mq hco (fe hd1)|exact PV hco (fe hd1))) U (qO 2 U (hk3 _ U))))
 refine dU (xp 117 U (λc5=>?_) (λc5=>?_))
 .have hs7:=hs6.trans (congrArg (dn1++·) (bt c5))
  refine dU (ga 0 ty67 U U U ?_)
  have hx1:dl c p=dn1++(y1::(dl.L1 c (dl.K1) rz1)):=hs7
  refine aS (sZ ([(b2,O (ae.cells y1) 67)]) A1_ ap (hy dn1 y1 _ _ _ _ hx1 ((kE.t hl1).t kG) (m1 _ _ _ _ kG hC1_) U) U U (λh5 A4 kK hC1=>?_) (λh6 A5 kP hS1=>?_) (λch1 h7 A6 kQ hP1 e=>nK (Bd [] (A:=A6) Rb (List.sublist_append_right _ _) hP1)))
  .have hs8:dl c p=(dn1++[y1])++((dl.L1 c (dl.K1) rz1)):=hx1.trans ap
   exact sF U (qO 6 U (oi i1 U (qO 2 U (ek (L':=A4) js (ag1 ((dn1++[y1]),A4,h5) hs8 ⟨hC1,((hl1.t kG).t kK)⟩)))))
  exact sF U (qO 3 U (ke (Bc [] (A:=A5) Rb U js (.inr hS1))))
 have hs9:=hs6.trans (congrArg (dn1++·) (bf c5))
 exact kq (qO 8 U (oi i1 U (qO 2 U (ek (L':=A1_) js (ag1 (dn1,A1_,h4) hs9 ⟨(m1 _ _ _ _ kG hC1_),(hl1.t kG)⟩)))))
instance kI254:CtI 254:=⟨_,@Ag⟩
theorem Kr(h bK fA)(x:ae)(d Ap aU ad)(nW:vM h bK fA)(hd:aj.ok h d Ap)(hsm:smR bK):Ret prog 201 [.agg (vH bK fA).toArray,.agg (ae.cells x).toArray,.agg (aj.cells d Ap).toArray,I aU,I ad] h (.bool (pU bK x d aU ad)):=by
 refine sVv func201 ntmps201 ?_
 generalize hz:(pU bK x d aU ad)=z
 have hsq:=hsm;unfold smR at hsq
 exact W
instance k201:Ct 201:=⟨_,call201,@Kr⟩
theorem w9(h d Ap c rL c_q vK bV bU signed_q)(hd:aj.ok h d Ap)(hc:bZ.ok h c rL)(ac:At h c_q (bZ.cells c rL))(iC:SlC jB h bV bU vK)(asigned:At h signed_q [.slice bV vK.length bU])(hsm:smR c.Register)(hco:kj c)(hln:c.Register.cj.length<20)(hsg:bT c.Register.cj vK=true)(hdm:d∈c.Register.cj):Ret prog 175 [.agg (aj.cells d Ap).toArray,.pointer (some c_q),.pointer (some signed_q)] h (.bool (nw d c vK)):=by
 refine sVv func175 ntmps175 ?_
 generalize hz:(nw d c vK)=z
 have hsq:=hsm;unfold smR at hsq
 have q1:=λ{e:Int}(a:e=0)=>(show my e=.ok ()from by subst a;rfl)
 have hcq:=hco;cases hcq
 have q0:=@S3
 exact W
instance k175:Ct 175:=⟨_,call175,@w9⟩
theorem AY(h c rL vK bV bU)(hc:bZ.ok h c rL)(iC:SlC jB h bV bU vK)(hsm:smR c.Register)(hco:kj c)(hln:c.Register.cj.length<20)(hsg:bT c.Register.cj vK=true):Ret prog 36 [.agg (bZ.cells c rL).toArray,.slice bV vK.length bU] h (.bool (ki c vK)):=by
 refine sVv func36 ntmps36 ?_
 generalize hz:(ki c vK)=z
 have hsq:=hsm;unfold smR at hsq
 have q1:=λ{e:Int}(a:e=0)=>(show my e=.ok ()from by subst a;rfl)
 have hcq:=hco;cases hcq
 have q0:=@K9
 exact W
instance k36:Ct 36:=⟨_,call36,@AY⟩
end
variable {v:Go.Value}{x:Operand}
section
open Go.Proofs Go.Proofs.Tryz
section runs
variable {P:Program} {e:Env} {X:Cx} {h:HF} {L:LH} {d:Option Nat} {ty:TypeId} {pos:String} {af:Array Edge} {g:Option (Nat×Bool)}
theorem Vy{t u:TypeId}(hT:∃ms,P.underlying t=some (.interface ms))(hx:e.ev x=.nilIface):∀w,St X h L w->(execOp e.ev ⟨d,.binOp .neq t x (.const .nilIface) u,ty,pos,af,g⟩).run P w=.ok (.value (.bool false)) w:=
 λw _=>by
  obtain⟨ms,hT⟩:=hT
  have hc:e.ev (.const .nilIface)=.nilIface:=rfl
  have he:(Op.equal t .nilIface .nilIface).run P w=.ok true w:=by
   rw[Op.equal,Op.maxDepth,show(10000:Nat)=9999+1 from rfl,Op.equalIn];simp[run_underlying hT]
  simp[execOp,hx,hc,eqGuard,binOp,he]
theorem Vx{t u:TypeId}{T:TypeId}(hT:∃ms,P.underlying t=some (.interface ms))(hx:e.ev x=.iface T v):∀w,St X h L w->(execOp e.ev ⟨d,.binOp .neq t x (.const .nilIface) u,ty,pos,af,g⟩).run P w=.ok (.value (.bool true)) w:=
 λw _=>by
  obtain⟨ms,hT⟩:=hT
  have hc:e.ev (.const .nilIface)=.nilIface:=rfl
  have he:(Op.equal t (.iface T v) .nilIface).run P w=.ok false w:=by
   rw[Op.equal,Op.maxDepth,show(10000:Nat)=9999+1 from rfl,Op.equalIn];simp[run_underlying hT]
  simp[execOp,hx,hc,eqGuard,binOp,he]
theorem SG{xt T:TypeId}{fs:Array Field}(hT:P.underlying T=some (.struct fs))(hx:e.ev x=.iface T v):∀w,St X h L w->(execOp e.ev ⟨d,.typeAssert x xt T true,ty,pos,af,g⟩).run P w=.ok (.value (.tuple #[v,.bool true])) w:=
 λw _=>by simp[execOp,hx,Instr.typeAssert,run_underlying hT]
end runs
def bodyOf(f:Func):Code:=f.body.getD .skip
theorem Qo{P:Program}{e:Env}{d:Option Nat}{ty:TypeId}{pos:String}{af:Array Edge}{g:Option (Nat×Bool)}{t:Nat}{fv:Value}{ats:Array TypeId}(hf:e t=fv)(w:World):
  (execOp e.ev ⟨d,.call ⟨.value (.tmp t),#[],ats⟩,ty,pos,af,g⟩).run P w=(do let d ←Deferred.ofValue fv #[];invoke d.target d.args:Sem Next).run P w:=by grind [execOp,resolve,Env.ev]
theorem Lc(h:HF)(b1:Nat)(X':Cx):TT prog (deferFrame 362) 17 [.code (bodyOf Tryz.f362)] (Km prog X' .returning (λh' B=>h'=h/\B=[(b1,vG (vB [.int .i64 0]) 37 (0,0))])) (envArgs [.pointer (some ⟨b1,0,none⟩)]) [] X' h [(b1,vG (vB [.int .i64 0]) 37 (0,0))]:=by
 refine eI (cB (?_))
 refine FB (λcs Φ⟨c,rest,hcs,hm,_⟩=>by subst hcs;simp[recoverD,hm]) ?_
 refine jj (ck (eI (cB (dU (aS (fU (Vy ⟨_,Tm⟩ rfl) (ck (?_))))))))
 exact pj rfl (jf (MM Tl rfl ⟨rfl,rfl⟩))
theorem Ld(h:HF)(b1:Nat)(ee:Int)(X':Cx):TT prog (deferFrame 362) 17 [.code (bodyOf Tryz.f362)]
  (λcs Φ=>∃c rest,cs=c::rest/\c.mode=.panicking [{ v:=stopV ee,recovered:=false }]/\Km prog X' (.panicking [{ v:=stopV ee,recovered:=true }]) (λh' B=>h'=h/\∃B0,B=B0++[(b1,vG (vB [.int .i64 ee]) 37 (0,0))]) ({ c with mode:=(.panicking [{ v:=stopV ee,recovered:=true }]) }::rest) Φ)
  (envArgs [.pointer (some ⟨b1,0,none⟩)]) [] X' h [(b1,vG (vB [.int .i64 0]) 37 (0,0))]:=by
 refine eI (cB (?_))
 refine HV (F':=Km prog X' (.panicking [{ v:=stopV ee,recovered:=true }]) (λh' B=>h'=h/\∃B0,B=B0++[(b1,vG (vB [.int .i64 ee]) 37 (0,0))])) (stopV ee) (λcs Φ⟨c,rest,hcs,hm,hF⟩=>⟨_,by subst hcs;simp[recoverD,hm],hF⟩) ?_
 refine jj (ck (eI (cB (dU (aS (fU (Vx ⟨_,Tm⟩ rfl) (ck (?_))))))))
 refine rM rfl (eI (cB (dU (aS (fU (SG underlying375 rfl) (dU (rD rfl rfl (rD rfl rfl (cS zc375 (λb2=>?_))))))))))
 refine cJ 0 ty375 rfl rfl rfl rfl rfl rfl (jj (ck (?_)))
 refine eI (eI (cB (dU (sF rfl (ck (?_))))))
 refine pj rfl (jf (?_))
 refine cB (lT UU rfl (?_))
 refine qm 0 ty37 rfl rfl rfl (?_)
 refine dK 1 ty37 rfl rfl rfl rfl rfl rfl (ck (?_))
 exact MM Tl rfl ⟨rfl,[(b2,_)],rfl⟩
theorem Ch(h:HF)(fv:Value)(x:Except Int Unit)(hf:n0 prog fv #[] h [] (XR (exW stopV (λ_:Unit=>.tuple #[]) x) h)):Ret prog 301 [fv] h (.int .i64 (attR x)):=by
 refine el func301 rfl ntmps301 rfl λX hM hX=>?_
 refine eI (cB (cS zc37 (λb1=>ck (eI (cB (aS (kw rfl rfl (TL rfl rfl (ck (eI (cB (dU (?_)))))))))))))
 have fin:∀(r:Int)(B:LH),attR x=r->(∃B0,B=B0++[(b1,vG (vB [.int .i64 r]) 37 (0,0))])->∀(e:Env),e 2=.pointer (some ⟨b1,0,none⟩)->∀a:Act,envOf a=e->∀w,St X h (B++[]) w ->
   ∃v h2 B2,(results Tryz.f301 a.tmps).run prog w=.ok v w/\St X h2 B2 w/\v=.int .i64 (attR x)/\h2=h/\B2=[]:=by
  rintro r B hr ⟨B0,rfl⟩ e he a ha w hw
  have hw':=hw.sub (L':=[(b1,vG (vB [.int .i64 r]) 37 (0,0))]) (by simp)
  exact⟨_,h,[],oP (rs:=[.cell 2 37]) (vs:=[.int .i64 r]) rfl ⟨⟨0,b1,[.int .i64 r],37,(0,0),rfl,he,.inr ⟨_,ty37,rfl⟩⟩,trivial⟩ a ha w hw',hw'.sub (List.nil_sublist _),by rw[hr];rfl,rfl,rfl⟩
 refine ML rfl (by decide) rfl rfl (λw hw=>?_)
 have hpre:Pre h [] w:=(hw.sub (List.nil_sublist _)).pre
 obtain⟨nx,hrun,hcall⟩:=hf w hpre
 refine⟨nx,w,?_,hcall.mono ?_⟩
 .rw[←hrun];exact Qo rfl w
 rintro y w' ⟨h',B,hst,rfl,rfl,hv⟩
 have hw2:=St.after (A:=[]) (B:=[]) (F:=[(b1,vG (vB [.int .i64 0]) 37 (0,0))]) hw hst
 cases y with
 |outgrown=>trivial
 |returned v=>
  refine⟨h',_,hw2,?_⟩
  have hx:∃u,x=.ok u:=by cases x with
   |ok u=>exact⟨u,rfl⟩
   |error p=>simp[exW]at hv
  obtain⟨u,rfl⟩:=hx
  refine ck (eI (cB (dK 0 ty37 rfl rfl rfl rfl rfl rfl (ck (?_)))))
  refine Vk (c:=bodyOf Tryz.f362) (cap:=[.pointer (some ⟨b1,0,none⟩)]) (A:=[(b1,vG (vB [.int .i64 0]) 37 (0,0))]) (R':=λh'' B=>h''=h'/\B=[(b1,vG (vB [.int .i64 0]) 37 (0,0))]) func301 Tl rfl ntmps362 rfl call362 (λX' _=>Lc h' b1 X') (Fr:=[]) rfl ?_
  rintro h'' B _ ⟨rfl,rfl⟩ a ha w hw
  obtain⟨v,h2,B2,h3,h4,rfl,rfl,rfl⟩:=fin 0 _ rfl ⟨[],rfl⟩ _ rfl a ha w hw
  exact⟨_,_,_,h3,h4,rfl,rfl,rfl⟩
 |panicked ch=>
  refine⟨h',_,hw2,?_⟩
  have hx:∃ee,x=.error ee:=by cases x with
   |ok u=>simp[exW]at hv
   |error p=>exact⟨p,rfl⟩
  obtain⟨ee,rfl⟩:=hx
  simp only[exW]at hv
  cases hv
  refine Vn (c:=bodyOf Tryz.f362) (cap:=[.pointer (some ⟨b1,0,none⟩)]) (A:=[(b1,vG (vB [.int .i64 0]) 37 (0,0))]) (R':=λh'' B=>h''=h'/\∃B0,B=B0++[(b1,vG (vB [.int .i64 ee]) 37 (0,0))]) func301 Tl rfl ntmps362 rfl call362 (λX' _=>Ld h' b1 ee X') (Fr:=[]) rfl ?_
  rintro h'' B _ ⟨rfl,hB⟩ a ha w hw
  obtain⟨v,h2,B2,h3,h4,rfl,rfl,rfl⟩:=fin ee _ rfl hB _ rfl a ha w hw
  exact⟨_,_,_,h3,h4,rfl,rfl,rfl⟩
end
end Go.Sg
