import Derived.Sort.OwnSortedInts
import Derived.Test.YtafbfagbjekhhaaGreatDoorW5
/- A part of the proof of MissingNothing. -/
set_option linter.unusedVariables false
set_option linter.unusedSimpArgs false
set_option maxRecDepth 100000
open List renaming length_cons→zA,length_append→vA,not_mem_nil→kA,length_nil→zB,toArray→xB,mem_cons_self→kB,mem_singleton→xC,mem_cons_of_mem→jC,append_assoc→vD,range→qE,mem_cons→zE,mem_of_getElem?→xE,nil_append→zF,mem_append→zG,perm_append_comm→xG,getElem?_map→kV,nodup_nil→V6,foldl_cons→Wb,map_append→Wo,nodup_append→WH
open Go.Sg.HF renaming le_trans→jA,le_refl→kH,le→xJ
open Go.Sg.Rp renaming int→jB,bH→qJ,bool→vV,jz→W3
open Go.IntKind renaming wrap→vB
open Go.Value renaming int→qC,func→jQ,bool→zV
open Bool renaming and_eq_true→zC,or_eq_true→kD,not_eq_true'→qF
open Go.Sg.Register renaming cells→kC
open Nat renaming le_refl→vE,zero_le→xH,lt_or_ge→xM
open Go.Sg.OSeat renaming cells→kE,enc→jT,mk→vT,rp→WM
open Go.Sg.SlC renaming nil→qG
open Go.Obj renaming cells→jG
open Go.Deferred renaming ofValue→qH
open Go.Sg.Budget renaming cells→vL,rp→vQ,mk→Wt,aG→XA
open Go.Addr renaming add→kP
open Array renaming ext'→qS
open Go.Sg.St renaming start→Ww,after→WC
open Go.Sg.Use renaming cells→WL,rp→W0
open Go.Sg.Env renaming ev→Xh
open Go.Sg.Stp renaming mono→Xi

namespace Go.Sg
variable {E:TypeId}{ass:Array Operand}{ats:Array TypeId}{f:FuncId}{h:HF}{v:Go.Value}{vs:List Go.Value}{w':World}{xs:List Int}{α:Type}{R:Rp α}
section
open Go.Proofs Go.Proofs.Tryz Go.RowKit
theorem St.R1{w:World}(hp:Pre h [] w)(hb:Below w.heap.size w w'):St ⟨w,h,[]⟩ h [] w':=
  ⟨hb.os,hb.tape,hb.output,hb.size,λb hlt _=>hb.block b hlt,λ_ _ e=>e,λ_ _=>rfl,λb o e=>by rw[hb.block b (ij (hp.imm b o e))];exact hp.imm b o e,
   λ_ hq=>(kA hq).elim,V6,λ_ hq=>(kA hq).elim,λ_ hq=>(kA hq).elim⟩
theorem St.Qu{w:World}{g:Nat}{o:Obj}(hp:Pre h [] w)(hb:Below w.heap.size w w')(hg:w.heap.size<=g)(ho:w'.heap[g]? = some o):St ⟨w,h,[]⟩ h [(g,o)] w':=
  ⟨hb.os,hb.tape,hb.output,hb.size,λb hlt _=>hb.block b hlt,λ_ _ e=>e,λ_ _=>rfl,λb o e=>by rw[hb.block b (ij (hp.imm b o e))];exact hp.imm b o e,
   λq hq=>by rw[xC.1 hq];exact ho,by simp,λq hq=>by
     rw[xC.1 hq]
     show h g=none
     cases hh:h g with
     |none=>rfl
     |some o'=>have:=ij (hp.imm g o' hh);omega,λq hq=>by rw[xC.1 hq];exact .inl hg⟩
theorem Pz{b:Option Addr}(hs:SlB jB h b xs)(hne:xs≠[]):∃g off,b=some ⟨g,off,none⟩/\∀w,Pre h [] w->∀j,j<xs.length->w.cell? ⟨g,off+j,none⟩=some (.int .i64 (xs.getD j 0)):=by
 obtain⟨x0,r,rfl⟩:∃x r,xs=x::r:=by cases xs with
  |nil=>exact(hne rfl).elim
  |cons x r=>exact⟨x,r,rfl⟩
 obtain⟨p,cs,rfl,hA,_,_⟩:=hs.2 0 x0 rfl
 have hsp:p.spot=none:=by
  obtain⟨_,_,_,_,h2,_⟩:=hA
  simpa[kP]using h2
 obtain⟨g,off,sp⟩:=p
 simp only at hsp
 subst hsp
 refine⟨g,off,rfl,λw hp j hj=>?_⟩
 obtain⟨p',cs',e,hA',hl,hr⟩:=hs.2 j ((x0::r)[j]) (by rw[List.getElem?_eq_getElem hj])
 cases e
 have hcs:cs'=[.int .i64 ((x0::r)[j])]:=hr
 subst hcs
 have hc:=hA'.cell (X:=⟨w,h,[]⟩) (L:=[]) (Ww hp) (j:=0) (v:=.int .i64 ((x0::r)[j])) rfl
 have ha:((⟨g,off,none⟩:Addr).add (j*Rp.int.sz)).add 0=⟨g,off+j,none⟩:=by
  have h1:j*Rp.int.sz=j:=Nat.mul_one j
  rw[h1]
  by_cases e0:j=0
  .subst e0;simp[kP]
  .simp[kP,e0]
 grind
theorem oO(h:HF)(x:List Int)(Ui:Option Addr)(T1:Nat)(target:Int)(hx:SlC jB h Ui T1 x)(hs:x.Pairwise (·<=·))(hsz:x.length<=2000000):
  Ret prog 193 [.slice Ui x.length T1,.int .i64 target] h (.tuple #[.int .i64 (slices_BinarySearch_int x target).1,.bool (slices_BinarySearch_int x target).2]):=by
 intro w hp
 by_cases hne:x=[]
 .subst hne
  refine(j5 (Tryz.slices_BinarySearch_int_empty Ui T1 target w) (λw' hw=>by cases hw.1)).mono ?_
  rintro e w' ⟨rfl,rfl⟩
  exact⟨h,[],Ww hp,rfl,rfl,rfl⟩
 .obtain⟨g,off,rfl,hc⟩:=Pz hx.1 hne
  refine(j5 (Tryz.slices_BinarySearch_int g off x.length T1 x target w (vE _) (by omega) (hc w hp) (by simpa using hs)) (λw' hw=>by cases hw.1)).mono ?_
  rintro e w' ⟨rfl,q,rfl⟩
  refine⟨h,[],(Ww hp).drew _,?_,rfl,rfl⟩
  simp[bsI,slices_BinarySearch_int]
abbrev QQ{α : Type}(P:Program)(f:FuncId)(args:List Value)(h:HF)(R:Rp α)(E:TypeId)(xs:List α):Prop:=
 pC P f args.toArray h [] (λr h' G=>h'=h/\∃b c,r=.returned (.slice b xs.length c)/\cN R E h xs b c G)
theorem J5{w:World}(hp:Pre h [] w)(hb:Below w.heap.size w w')(ho:w'.ownsRow w.heap.size 3 1 v xs.length (xs.map (qC .i64))):
  ∃h' G,St ⟨w,h,[]⟩ h' G w'/\h'=h/\∃b c,Ending.returned v=.returned (.slice b xs.length c)/\cN jB 3 h xs b c G:=by
 obtain⟨_,⟨rfl,hn⟩|⟨g,cap,cur,rfl,hg,hh,h1,h2,h3,h4⟩⟩:=ho
 .have:xs=[]:=List.length_eq_zero_iff.1 hn
  subst this
  exact⟨h,[],St.R1 hp hb,rfl,none,0,rfl,cN.nil⟩
 .refine⟨h,_,St.Qu hp hb hg hh,rfl,some ⟨g,0,none⟩,cap,rfl,.inr ⟨g,xs.map (qC .i64),cur.toList.drop xs.length,rfl,?_,?_,h1,?_,?_⟩⟩
  .have:∀l:List Int,cY jB h (l.map (qC .i64)) l:=by
    intro l
    induction l with
    |nil=>rfl
    |cons y l ih=>exact⟨[.int .i64 y],l.map (qC .i64),rfl,rfl,rfl,ih⟩
   exact this xs
  .have h5:xs.map (qC .i64)++cur.toList.drop xs.length=cur.toList:=by
    rw[←h4,Nat.mul_one];exact List.take_append_drop _ _
   rw[h5];show _=cap*1;simpa using h3
  .have:maxLen=9223372036854775807:=by rfl
   omega
  .have h5:xs.map (qC .i64)++cur.toList.drop xs.length=cur.toList:=by
    rw[←h4,Nat.mul_one];exact List.take_append_drop _ _
   rw[h5]
theorem mJ(h:HF)(xs:List Int)(b:Option Addr)(c:Nat)(G:LH)(hG:cN jB 3 h xs b c G)(hsz:xs.length<=1000000000000):
  pC prog 94 [.slice b xs.length c].toArray h G (λr h' G'=>h'=h/\r=.returned (.tuple #[])/\cN jB 3 h (sortI xs) b c G'):=by
 intro w hp
 rcases hG with⟨rfl,rfl,rfl,rfl⟩|⟨bk,cl,sp,rfl,hcl,hlen,hcap,hmax,rfl⟩
 .refine(j5 (Tryz.slices_Sort_int_none none 0 w) (λw' hw=>by cases hw.1)).mono ?_
  rintro e w' ⟨rfl,rfl⟩
  exact⟨h,[],Ww hp,rfl,rfl,by rw[show sortI []=[]from by simp[sortI]];exact cN.nil⟩
 .have hb:=hp.own _ (xC.2 rfl)
  simp only at hb
  have hcl':cl=xs.map (qC .i64):=by
   clear hlen hb hp hcap hmax hsz
   induction xs generalizing cl with
   |nil=>exact hcl
   |cons y l ih=>
    obtain⟨cs,r,rfl,_,hr,hl⟩:=hcl
    have:cs=[.int .i64 y]:=hr
    rw[this,ih r hl];rfl
  subst hcl'
  have hH:Sort.Holds (qC .i64) w bk 0 xs.toArray:=by
   refine holds_of_blockI (cur:=(xs.map (qC .i64)++sp).toArray) (e:=3) hb ?_
   simp
  refine(j5 (Tryz.slices_Sort_int bk 0 c xs w hH (ij hb) (by omega)) (λw' hw=>by cases hw.1)).mono ?_
  rw[Le]
  rintro e w' ⟨rfl,n,os,rfl⟩
  obtain⟨g1,g2,g3,g4,g5⟩:=grownBy_sortedI (w:=w) (g:=bk) (n:=n) (os:=os) (sortI xs).toArray
  have hnew:=heap_sortedI (w:=w) (g:=bk) (n:=n) (os:=os) (sortI xs).toArray hb
  have htake:=take_putCellsI (xs.map (qC .i64)++sp).toArray (sortI xs) (by rw[iL];simp)
  refine⟨h,[(bk,.cells (Sort.putCells (qC .i64) 0 (sortI xs).toArray (xs.map (qC .i64)++sp).toArray) 3 (0,0))],⟨g1,g2,g3,g4,λk hk hM=>g5 k hk (λe=>hM (by cases e;simp)),λ_ _ e=>e,λ_ _=>rfl,λk o e=>?_,λq hq=>?_,?_,?_,?_⟩,rfl,rfl,?_⟩
  .have hne:k≠bk:=λe'=>by
    have:=hp.free _ (xC.2 rfl)
    simp only at this
    rw[e',this]at e;cases e
   exact(g5 k (ij (hp.imm k o e)) (λe'=>by cases e';exact hne rfl)).trans (hp.imm k o e)
  .rw[xC.1 hq];exact hnew
  .simp
  .intro q hq;rw[xC.1 hq];exact hp.free (bk,jG (xs.map (qC .i64)++sp).toArray 3 (0,0)) (xC.2 rfl)
  .intro q hq;rw[xC.1 hq];exact .inr (by simp)
  .refine .inr ⟨bk,(sortI xs).map (qC .i64),(Sort.putCells (qC .i64) 0 (sortI xs).toArray (xs.map (qC .i64)++sp).toArray).toList.drop xs.length,rfl,?_,?_,by rw[iL];exact hcap,by rw[iL];exact hmax,?_⟩
   .have:∀l:List Int,cY jB h (l.map (qC .i64)) l:=by
     intro l
     induction l with
     |nil=>rfl
     |cons y l ih=>exact⟨[.int .i64 y],l.map (qC .i64),rfl,rfl,rfl,ih⟩
    exact this _
   .rw[←htake,iL,List.take_append_drop]
    simpa[Sort.putCells]using hlen
   .rw[←htake,iL,List.take_append_drop]
section steps
variable {P:Program} {b:Frame} {n:Nat} {ops:Array Oper} {F:List Frame->(Machine->Prop)->Prop} {e:Env} {ds:List Deferred} {X:Cx} {h:HF} {L:LH} {K:Env->HF->LH->Prop}
variable {d:Option Nat} {ty:TypeId} {pos:String} {af:Array Edge} {g:Option (Nat×Bool)}
theorem Dh{xs:List α}(hc:∀args w,(callFunc f args).run P w=.ok (.enter f args) w)(hs:QQ P f vs h R E xs)(hvs:ass.toList.map e.ev=vs)(t':∀bb c G,cN R E h xs bb c G->K (pute e d (.slice bb xs.length c)) h (L++G))(hg:guardB ops e ⟨d,.call ⟨.value (.func f),ass,ats⟩,ty,pos,af,g⟩=true:=by rfl):
  Stp P b n ops F ds X ⟨d,.call ⟨.value (.func f),ass,ats⟩,ty,pos,af,g⟩ e h L K:=by
 unfold Stp
 rw[if_pos hg]
 intro w hw
 have harr:ass.map e.ev=vs.toArray:=qS (by simp[←hvs])
 have hr:(execOp e.ev ⟨d,.call ⟨.value (.func f),ass,ats⟩,ty,pos,af,g⟩).run P w=.ok (.enter f vs.toArray) w:=by
  simp[execOp,resolve,Xh,qH,invoke,harr,hc]
 rw[hr]
 refine mH (by simp) (lk (tw.mono (hs w (hw.sub (List.nil_sublist _)).pre) ?_))
 rintro x w' ⟨h',B,hst,rfl,bb,c,rfl,hG⟩
 exact⟨h',_,(WC (A:=[]) (F:=L) hw hst).perm xG,t' bb c B hG⟩
theorem m6(A0 G Q:LH){Φ:LH->Prop}(hc:∀args w,(callFunc f args).run P w=.ok (.enter f args) w)(hs:pC P f vs.toArray h G (λr h' G'=>h'=h/\r=.returned v/\Φ G'))(hL:L=A0++(G++Q))(hvs:ass.toList.map e.ev=vs)(t':∀G',Φ G'->K (pute e d v) h (A0++(G'++Q)))(hg:guardB ops e ⟨d,.call ⟨.value (.func f),ass,ats⟩,ty,pos,af,g⟩=true:=by rfl):
  Stp P b n ops F ds X ⟨d,.call ⟨.value (.func f),ass,ats⟩,ty,pos,af,g⟩ e h L K:=by
 unfold Stp
 rw[if_pos hg]
 intro w hw
 subst hL
 have hp:∀G:LH,(A0++(G++Q)).Perm (G++(A0++Q)):=λG=>by
  rw[←vD,←vD];exact List.Perm.append_right Q xG
 have hw':=hw.perm (hp G)
 have harr:ass.map e.ev=vs.toArray:=qS (by simp[←hvs])
 have hr:(execOp e.ev ⟨d,.call ⟨.value (.func f),ass,ats⟩,ty,pos,af,g⟩).run P w=.ok (.enter f vs.toArray) w:=by
  simp[execOp,resolve,Xh,qH,invoke,harr,hc]
 rw[hr]
 refine mH (by simp) (lk (tw.mono (hs w hw'.pre.left) ?_))
 rintro x w' ⟨h',B,hst,rfl,rfl,hG⟩
 exact⟨h',_,(WC (A:=G) (F:=A0++Q) hw' hst).perm (hp B).symm,t' B hG⟩
end steps
end
variable {i:Nat}{m3:List (Int×Option Addr×Nat×Nat)}{om:Obj}{p:Prop}
section
open Go.Proofs Go.Proofs.Tryz
set_option maxHeartbeats 2000000
theorem Br(cmp:Int->Int->Int):∀(j:Nat)(xs:List Int),(insIn cmp j xs).length=xs.length
 |0,xs=>rfl
 |j+1,xs=>by
  simp only[insIn,Bool.cond_eq_ite]
  split
  .rw[Br cmp j];simp
  rfl
theorem EF(cmp:Int->Int->Int):∀(j:Nat)(xs:List Int),j<xs.length->∀x∈insIn cmp j xs,x∈xs
 |0,xs,_,x,hx=>hx
 |j+1,xs,hj,x,hx=>by
  simp only[insIn,Bool.cond_eq_ite]at hx
  split at hx
  .have h1:=EF cmp j _ (by simp;omega) x hx
   rcases List.mem_or_eq_of_mem_set h1 with h1|rfl
   .rcases List.mem_or_eq_of_mem_set h1 with h1|rfl
    .exact h1
    simp[List.getD_eq_getElem?_getD,show j<xs.length by omega]
   simp[List.getD_eq_getElem?_getD,show j+1<xs.length by omega]
  exact hx
theorem HP(cmp:Int->Int->Int):∀(m i:Nat)(xs:List Int),(insOut cmp m i xs).length=xs.length
 |0,_,_=>rfl
 |m+1,i,xs=>by simp only[insOut];rw[HP cmp m,Br]
theorem Gy(xs:List Int)(cmp:Int->Int->Int):(fH xs cmp).length=xs.length:=HP _ _ _ _
theorem C5(j:Nat)(hj:j<9223372036854775807):qC .i64 (IntKind.i64.wrap (((j+1:Nat):Int)-1))=I (j:Int):=by
 rw[lI ob];congr 1;omega
theorem pS(h)(xs:List Int)(b c G)(cmp:Int->Int->Int)(cmp_v)(hG:cN jB 3 h xs b c G)(hcmp:∀(h':HF)(ef Ec:Int),xJ h h'->ef∈xs->Ec∈xs->qw prog cmp_v [I ef,I Ec] h' [] (I (cmp ef Ec)))(hsz:xs.length<=2000000):
  pC prog 315 [.slice b xs.length c,I 0,I (xs.length:Int),cmp_v].toArray h G (λr h' G'=>h'=h/\r=.returned (.tuple #[])/\cN jB 3 h (fH xs cmp) b c G'):=by
 refine cV func315 U ntmps315 U λX hM hX=>qT 3 U (iS (v':=I ((1:Nat):Int)) U U (an ?_))
 refine gx (ι:=List Int×LH) (λi=>[]) (λi=>h) (λi=>i.2) (λi=>i.1=fH xs cmp/\cN jB 3 h i.1 b c i.2) ?_ (λhx=>?_)
 .rintro⟨ys,G'⟩ ⟨hs,hG'⟩ e
  dsimp only at hs hG'
  exact zU func315 (λa _ w _=>nr U a w) (λw hw=>hw.lower) ⟨hX,U,hs▸hG'⟩
 refine jw (ι:=Nat×List Int×LH) (λi=>[(0,.slice b xs.length c),(1,I 0),(2,I (xs.length:Int)),(3,cmp_v),(8,I (i.1:Int))]) (λi=>h) (λi=>i.2.2)
  (λi=>insOut cmp (xs.length-i.1) i.1 i.2.1=fH xs cmp/\1<=i.1/\i.2.1.length=xs.length/\(∀x∈i.2.1,x∈xs)/\cN jB 3 h i.2.1 b c i.2.2) (λi=>xs.length-i.1) (1,xs,G) rd (λw hw=>hw) ⟨rfl,vE _,rfl,λ_ hx=>hx,hG⟩ ?_
 rintro⟨i,ys,G1⟩ ⟨hs,hi1,hyl,hym,hG1⟩ ag e
 dsimp only at hs hi1 hyl hym hG1
 rcases xM i xs.length with hi|hi
 .refine qT 5 U (tO (decide_eq_true ob) U (qO 10 U ?_))
  refine gx (ι:=List Int×LH) (λq=>[(0,.slice b xs.length c),(1,I 0),(2,I (xs.length:Int)),(3,cmp_v),(8,I (i:Int))]) (λq=>h) (λq=>q.2) (λq=>q.1=insIn cmp i ys/\cN jB 3 h q.1 b c q.2) ?_ (λhy=>?_)
  .rintro⟨zs,G2⟩ ⟨hz,hG2⟩ e2
   dsimp only at hz hG2
   subst hz
   refine qT 3 U (oi i U (an (ag (i+1,insIn cmp i ys,G2) _ (by show xs.length-(i+1)<xs.length-i;omega) ⟨?_,by show 1<=i+1;omega,by show(insIn cmp i ys).length=xs.length;rw[Br];exact hyl,λx hx=>hym x (EF cmp i ys ob x hx),hG2⟩ rd)))
   show insOut cmp (xs.length-(i+1)) (i+1) (insIn cmp i ys)=_
   rw[←hs,show xs.length-i=(xs.length-(i+1))+1 from by omega];rfl
  refine jw (ι:=Nat×List Int×LH) (λq=>[(0,.slice b xs.length c),(1,I 0),(2,I (xs.length:Int)),(3,cmp_v),(8,I (i:Int)),(9,I (q.1:Int))]) (λq=>h) (λq=>q.2.2)
   (λq=>insIn cmp q.1 q.2.1=insIn cmp i ys/\q.1<=i/\q.2.1.length=xs.length/\(∀x∈q.2.1,x∈xs)/\cN jB 3 h q.2.1 b c q.2.2) (λq=>q.1) (i,ys,G1) rd (λw hw=>hw) ⟨rfl,vE _,hyl,hym,hG1⟩ ?_
  rintro⟨j,zs,G2⟩ ⟨hz,hji,hzl,hzm,hG2⟩ ag2 e2
  dsimp only at hz hji hzl hzm hG2
  have J0:∀{L:LH},Jst h [] h L:=DC (List.nil_sublist _)
  obtain⟨bk,hbk⟩:=hG2.xz ob
  have JG:Jst h G2 h G2:=DC (List.Sublist.refl _)
  refine qT 2 U (fo G2 mixed kr JG (λhsep _=>kh 0 hsep JG U U kr U (λ_ _ _=>nQ) (kh 1 hsep JG U U kr U (λ_ _ _=>nQ) ?_)))
  rcases j with _|j
  .exact kh 2 hsep JG U U kr U (λ_ _ _=>yo (v':=.bool false) U (cb (decide_eq_false ob))) (kh 3 hsep JG U U kr U (λ_ _ _=>nQ) (nh 4 hsep JG U U kr U (nh 5 hsep JG U U kr U (nh 6 hsep JG U U kr U (nh 7 hsep JG U U kr U (nh 8 hsep JG U U kr U (nh 9 hsep JG U U kr U (nh 10 hsep JG U U kr U (nh 11 hsep JG U U kr U (nh 12 hsep JG U U kr U (nh 13 hsep JG U U kr U (nh 14 hsep JG U U kr U (nh 15 hsep JG U U kr U (kh 16 hsep JG U U kr U (λ_ _ _=>N7 U) (bW kr (qT 2 U (hy (zs,G2) _ ⟨hz,hG2⟩ rd)))))))))))))))))
  have hj1:zs[j+1]? = some (zs.getD (j+1) 0):=by simp[List.getD_eq_getElem?_getD,show j+1<zs.length by omega]
  have hj0:zs[j]? = some (zs.getD j 0):=by simp[List.getD_eq_getElem?_getD,show j<zs.length by omega]
  have hjn:(((j+1:Nat):Int)).toNat=j+1:=by omega
  have hjn0:((j:Int)).toNat=j:=by omega
  refine kh 2 hsep JG U U kr U (λ_ _ _=>yo (v':=.bool true) U (cb (decide_eq_true ob))) (kh 3 hsep JG U U kr U (λ_ _ _=>nQ) (kh 4 hsep JG U U kr U (λ_ _ _=>nQ) (kh 5 hsep JG U U kr U (λ_ _ _=>nQ) (kh 6 hsep JG U U kr U (λ_ _ _=>nQ) (kh 7 hsep JG U U kr U (λ_ _ _=>nR (R:=jB) (xs:=zs) (z:=((j+1:Nat):Int)) eM ty3 hbk ob U hzl.symm U) (kh 8 hsep JG U U kr U (λ_ _ hj=>E2 (R:=jB) (off:=0) (i:=j+1) ty3 hG2 hbk hj1 (λcs_z hcs=>by rw[show cs_z=[I (zs.getD (j+1) 0)]from hcs];rfl) (by rfl) (λp hp=>hj.2 p hp)) (kh 9 hsep JG U U kr U (λ_ _ _=>nQ) (kh 10 hsep JG U U kr U (λ_ _ _=>nQ) (kh 11 hsep JG U U kr U (λ_ _ _=>yo (v':=I (j:Int)) U (C5 j ob)) (kh 12 hsep JG U U kr U (λ_ _ _=>nR (R:=jB) (xs:=zs) (z:=(j:Int)) eM ty3 hbk ob U hzl.symm U) (kh 13 hsep JG U U kr U (λ_ _ hj=>E2 (R:=jB) (off:=0) (i:=j) ty3 hG2 hbk hj0 (λcs_z hcs=>by rw[show cs_z=[I (zs.getD j 0)]from hcs];rfl) (by rfl) (λp hp=>hj.2 p hp)) (tn 14 U (j8 (v:=I (cmp (zs.getD (j+1) 0) (zs.getD j 0))) [] (List.nil_sublist _) (hcmp h (zs.getD (j+1) 0) (zs.getD j 0) lf (hzm _ (xE hj1)) (hzm _ (xE hj0))) U U ⟨JG,kh 15 hsep JG U U kr U (λ_ _ _=>RT U) (kh 16 hsep JG U U kr U (λ_ _ _=>N7 U) (bW kr (lu U (λhc=>bO ?_) (λhc=>?_))))⟩)))))))))))))
  .refine qT 2 U (fo [] mixed kr J0 (λnJ _=>kh 0 nJ J0 U U kr U (λ_ _ _=>nQ) (kh 1 nJ J0 U U kr U (λ_ _ _=>nQ) (kh 5 nJ J0 U U kr U (λ_ _ _=>nQ) (kh 6 nJ J0 U U kr U (λ_ _ _=>nQ) (kh 2 nJ J0 U U kr U (λ_ _ _=>nQ) (kh 3 nJ J0 U U kr U (λ_ _ _=>nQ) (kh 4 nJ J0 U U kr U (λ_ _ _=>yo (v':=I (j:Int)) U (C5 j ob)) (kh 7 nJ J0 U U kr U (λ_ _ _=>yo (v':=I (j:Int)) U (C5 j ob)) (kh 8 nJ J0 U U kr U (λ_ _ _=>nR (R:=jB) (xs:=zs) (z:=(j:Int)) eM ty3 hbk ob U hzl.symm U) (kh 10 nJ J0 U U kr U (λ_ _ _=>nQ) (kh 11 nJ J0 U U kr U (λ_ _ _=>nQ) (kh 12 nJ J0 U U kr U (λ_ _ _=>nR (R:=jB) (xs:=zs) (z:=((j+1:Nat):Int)) eM ty3 hbk ob U hzl.symm U) ?_)))))))))))))
   refine nn 9 13 kr U U
    (eu (E2 (R:=jB) (off:=0) (i:=j) ty3 hG2 hbk hj0 (λcs_z hcs=>by rw[show cs_z=[I (zs.getD j 0)]from hcs];rfl) (by rfl) (λp hp=>hp)) ⟨J0,tn 13 rfl (eu (E2 (R:=jB) (off:=0) (i:=j+1) ty3 hG2 hbk hj1 (λcs_z hcs=>by rw[show cs_z=[I (zs.getD (j+1) 0)]from hcs];rfl) (by rfl) (λp hp=>hp)) ⟨J0,?_⟩)⟩)
    (eu (E2 (R:=jB) (off:=0) (i:=j+1) ty3 hG2 hbk hj1 (λcs_z hcs=>by rw[show cs_z=[I (zs.getD (j+1) 0)]from hcs];rfl) (by rfl) (λp hp=>hp)) ⟨J0,tn 9 rfl (eu (E2 (R:=jB) (off:=0) (i:=j) ty3 hG2 hbk hj0 (λcs_z hcs=>by rw[show cs_z=[I (zs.getD j 0)]from hcs];rfl) (by rfl) (λp hp=>hp)) ⟨J0,?_⟩)⟩)
   all_goals
    refine kh 14 nJ J0 U U kr U (λ_ _ _=>nR (R:=jB) (xs:=zs) (z:=((j+1:Nat):Int)) eM ty3 hbk ob U hzl.symm U) (tn 15 U (uO (R:=jB) (i:=j+1) (off:=0) (u:=zs.getD (j+1) 0) (u':=zs.getD j 0) (v:=I (zs.getD j 0)) [] G2 [] ty3 U hG2 (by simp) hbk hj1 (by decide) (λcs_z hcs=>by rw[show cs_z=[I (zs.getD (j+1) 0)]from hcs];rfl) (by rfl) U U (λG3 hG3=>⟨J0,?_⟩)))
    rw[zF,List.append_nil]
    refine kh 16 nJ J0 U U kr U (λ_ _ _=>nR (R:=jB) (xs:=zs) (z:=(j:Int)) eM ty3 hbk ob U hzl.symm U) ?_
    have hj0':(zs.set (j+1) (zs.getD j 0))[j]? = some (zs.getD j 0):=by rw[List.getElem?_set_ne ob];exact hj0
    refine tn 17 U (uO (R:=jB) (i:=j) (off:=0) (u:=zs.getD j 0) (u':=zs.getD (j+1) 0) (v:=I (zs.getD (j+1) 0)) [] G3 [] ty3 U hG3 (by simp) hbk hj0' (by decide) (λcs_z hcs=>by rw[show cs_z=[I (zs.getD j 0)]from hcs];rfl) (by rfl) U U (λG4 hG4=>⟨J0,?_⟩))
    rw[zF,List.append_nil]
    refine bW kr (qT 3 U (iS (v':=I (j:Int)) U (C5 j ob) (an (ag2 (j,(zs.set (j+1) (zs.getD j 0)).set j (zs.getD (j+1) 0),G4) _ (Nat.lt_succ_self _) ⟨?_,by show j<=i;omega,by show((zs.set (j+1) (zs.getD j 0)).set j (zs.getD (j+1) 0)).length=xs.length;simpa using hzl,λx hx=>(List.mem_or_eq_of_mem_set hx).elim (λhx=>(List.mem_or_eq_of_mem_set hx).elim (hzm x) (λhx=>hx▸hzm _ (xE hj0))) (λhx=>hx▸hzm _ (xE hj1)),hG4⟩ rd))))
    show insIn cmp j ((zs.set (j+1) (zs.getD j 0)).set j (zs.getD (j+1) 0))=insIn cmp i ys
    rw[←hz];simp only[insIn,hc,cond_true]
  refine kw U (hy (zs,G2) _ ⟨?_,hG2⟩ rd)
  show zs=insIn cmp i ys
  rw[←hz];simp only[insIn,hc,cond_false]
 refine qT 5 U (fO (decide_eq_false ob) U (qO 3 U (hx (ys,G1) _ ⟨?_,hG1⟩ trivial)))
 show ys=_
 rw[←hs,show xs.length-i=0 from by omega];rfl
theorem ua(h)(xs:List Int)(b c G)(cmp:Int->Int->Int)(cmp_v)(hG:cN jB 3 h xs b c G)(hcmp:∀(h':HF)(ef Ec:Int),xJ h h'->ef∈xs->Ec∈xs->qw prog cmp_v [I ef,I Ec] h' [] (I (cmp ef Ec)))(hsz:xs.length<20):
  pC prog 286 [.slice b xs.length c,I (xs.length:Int),cmp_v].toArray h G (λr h' G'=>h'=h/\r=.returned (.tuple #[])/\cN jB 3 h (fH xs cmp) b c G'):=by
 refine cV func286 U ntmps286 U λX hM hX=>qT 12 U (Gq (qT 5 U (fO (decide_eq_false ob) U (qO 9 U (aH (m6 [] G [] call315 (pS h xs b c G cmp cmp_v hG hcmp ob) (by simp) U (λG2 hG2=>?_)))))))
 rw[zF,List.append_nil]
 exact bp (mZ (Gq (qT 5 U (fO (decide_eq_false ob) U (qO 3 U (zU func286 (λa _ w _=>nr U a w) (λw hw=>hw.lower) ⟨hX,U,hG2⟩))))))
theorem tx(h)(xs:List Int)(b c G)(cmp:Int->Int->Int)(cmp_v)(hG:cN jB 3 h xs b c G)(hcmp:∀(h':HF)(ef Ec:Int),xJ h h'->ef∈xs->Ec∈xs->qw prog cmp_v [I ef,I Ec] h' [] (I (cmp ef Ec)))(hsz:xs.length<20):
  pC prog 220 [.slice b xs.length c,cmp_v].toArray h G (λr h' G'=>h'=h/\r=.returned (.tuple #[])/\cN jB 3 h (fH xs cmp) b c G'):=by
 refine cV func220 U ntmps220 U λX hM hX=>qK 5 [] U (aH (m6 [] G [] call286 (ua h xs b c G cmp cmp_v hG hcmp hsz) (by simp) U (λG2 hG2=>?_)))
 rw[zF,List.append_nil]
 exact bp (zU func220 (λa _ w _=>nr U a w) (λw hw=>hw.lower) ⟨hX,U,hG2⟩)
theorem EN(h x)  : Ret prog 98 [I x] h (.bool (cmp_isNaN_int x)):=by
 refine sT VO U ntmps98 U λX hM hX hF=>?_
 generalize hz:(cmp_isNaN_int x)=z;have hs:=hz.symm
 exact W
instance kC98:Ct 98:=⟨_,call98,@EN⟩
theorem vm(h x y)  : Ret prog 48 [I x,I y] h (I (cmp_Compare_int x y)):=by
 refine sT func48 U ntmps48 U λX hM hX hF=>?_
 generalize hz:(cmp_Compare_int x y)=z;have hs:=hz.symm
 exact W
instance kC48:Ct 48:=⟨_,call48,@vm⟩
theorem tE(h)(a:Int)(mP:Int)(p i8 p_p p_q)(hp:tH.ok h p i8)(pp:At h p_p (tH.cells p i8))(ap_z:At h p_q [.pointer (some p_p)])(ha:0<=a/\a<(p.signed.length:Int))(hb:0<=mP/\mP<(p.signed.length:Int)):Ret prog 221 [I a,I mP,.pointer (some p_q)] h (I (kj a mP p)):=by
 refine sT func221 U ntmps221 U λX hM hX hF=>?_
 have hs0:=@rfl _ (kj a mP p)
 refine qT 5 U (fo ([]) mixed kr jn (λim _=>tf 0 U U (rh ty150 ap_z U) (tf 1 U U (λ_ _ _=>gf U) (qB [2] U (tf 3 U U (rH 2 ty31 pp U U) (tm 4 U ?_))))))
 have ho1:0<=(a:Int)/\(a:Int)<((p.signed).length:Int):=ob
 refine kZ 5 (enc:=λy=>[I y]) im jn ei eM ty3 hp.signed.1 ho1 (dC ho1) U U U U kr (λq1 A1=>tf 6 U U (rh ty3 A1 U) (tf 7 U U (rh ty150 ap_z U) (tf 8 U U (λ_ _ _=>gf U) (qB [9] U (tf 10 U U (rH 2 ty31 pp U U) (tm 11 U ?_))))))
 have ho2:0<=(mP:Int)/\(mP:Int)<((p.signed).length:Int):=ob
 exact kZ 12 (enc:=λy=>[I y]) im jn ei eM ty3 hp.signed.1 ho2 (dC ho2) U U U U kr (λq2 A2=>tf 13 U U (rh ty3 A2 U) (tn 14 U (gu call48 (vm h (nthI p.signed a) (nthI p.signed mP)) U (⟨jn,(qA [15] U (bW kr (nretP [I (cmp_Compare_int (nthI p.signed a) (nthI p.signed mP))] (ci hs0))))⟩))))
theorem yh(h v0 tX tW v0_q)(hv0:SlC jB h tX tW v0)(av0:At h v0_q [.slice tX v0.length tW]):Itr prog (.func (.func 287) #[] (xB [.pointer (some v0_q)])) sE (dq v0) h:=by
 refine si call287 ?_
 intro yf ya yb C Sp Pn h1 A db m1 m2 m3 hC hy
 refine jX Rj U ntmps287 U λX hXM hX=>?_
 have hs0:dq v0=[]++dq v0:=rfl
 refine sr (eE ty31 (av0.mono db) U (qL 3 [] U ?_))
 refine lp2 v0 (λi w=>[(0,.func yf ya yb),(5,.slice tX v0.length tW),(6,I (v0.length:Int)),(7,I (i:Int))]) (λw=>w.2.2) (λw=>w.2.1) (λi w=>C w.1 w.2.2 w.2.1/\xJ h1 w.2.2) (λs1 i w=>w.1++(dq.L1 (dq.K1)) s1 ) ([],A,h1) ((hv0.mono qJ db).1.1) hs0 ⟨hC,(kH h1)⟩ ?_ ?_
 .rintro i1 ⟨dn1,A1_,hh1⟩ i7 hs1 ⟨hC1_,hl1⟩ e
  refine dR ?_
  have hs2:dq v0=dn1:=hs1.trans (List.append_nil _)
  exact sj [] (A:=A1_) Rj U (List.Sublist.refl _) (.inl (hs2▸hC1_))
 rintro i1 ⟨dn1,A1_,hh1⟩ y1 rz1 hd1 gg dL i5 mF hs3 ⟨hC1_,hl1⟩ hx1 ag1 e
 refine sr (tO gg U (qO 8 U (aH (iF (λy=>[I y]) eM ty3 (hv0.mono qJ (db.t hl1)).1 dL U U U (λq2 A5=>eE ty3 A5 U (qO 6 U ?_))))))
 have hx2:dq v0=dn1++(y1::(dq.L1 (dq.K1) rz1 )):=hs3
 refine aH (me ([]) A1_ ap (hy dn1 y1 _ _ _ _ hx2 hl1 hC1_ U) U U (λh5 A6 hle4 hC2=>?_) (λh6 A7 hle5 hS2=>?_) (λch2 h7 A8 hle6 hP2 e=>iN (oz [] (A:=A8) Rj (List.sublist_append_right _ _) hP2)))
 .have hs4:dq v0=(dn1++[y1])++((dq.L1 (dq.K1) rz1 )):=hx2.trans ap
  exact nv U (qO 5 U (oi i1 U (qO 2 U (ag1 ((dn1++[y1]),A6,h5) hs4 ⟨hC2,(hl1.t hle4)⟩))))
 exact nv U (qO 2 U (dR (nU [] (A:=A7) Rj U (List.Sublist.refl _) (.inr hS2))))
instance kI287:CtI 287:=⟨_,@yh⟩
theorem Aa(h s pM pD)(hs:SlC jB h pM pD s):j4 prog 222 [.slice pM s.length pD] h (λv h'=>∃(rv0:Value),v=rv0/\Itr prog rv0 sE (m4 s) h'):=by
 refine sT func222 U ntmps222 U λX hM hX hF=>?_
 generalize hz:(m4 s)=z;have hs:=hz.symm
 exact W
theorem vl(h p i8 p_q lq)(hp:tH.ok h p i8)(ap_z:At h p_q (tH.cells p i8))(hsg:p.signed.length<20):j4 prog 151 [.pointer (some p_q),I lq] h (λv h'=>∃(rv0:Value),v=rv0/\Itr prog rv0 sE (bX p lq) h'):=by
 refine sT func151 U ntmps151 U λX hM hX hF=>?_
 have hs0:=@rfl _ (bX p lq)
 refine sr (eL (λb1=>qL 10 [0] U (aH (eu (gf U) (qL 1 [] U (lM (j:=2) ty31 ap_z U U (qL 3 [] U ?_)))))))
 let z1:Nat×Obj:=(b1,O [.pointer (some p_q)] 150)
 refine lp2 p.signed (λi w=>[(1,I lq),(2,Q b1),(5,.slice w.2.1 w.1.length w.2.2.1),(11,.slice i8.cu p.signed.length i8.ct),(12,I (p.signed.length:Int)),(13,I (i:Int))]) (λ_=>h) (λw=>[z1]++(w.2.2.2)) (λi w=>cN jB 3 h w.1 w.2.1 w.2.2.1 w.2.2.2/\w.1.length<=0+i/\(∀x∈w.1,0<=x/\x<(p.signed.length:Int))) (λs1 i w=>(bX.L1 lq (bX.K1 p)) s1 i w.1) ([],none,0,[]) hp.signed.1.1 hs0 ⟨cN.nil,lo,(λx hx=>(kA hx).elim)⟩ ?_ ?_
 .rintro i1 ⟨eZ,yU,yT,PI⟩ i7 hs1 ⟨te,Ik,u1_0⟩ e
  try dsimp only at te Ik u1_0
  refine qT 3 U (cv 0 U hM (λh1 hle1 hb1=>aH (gB U U (aH (m6 ([]) PI ([]) call220 (tx h1 eZ yU yT PI (λef Ec=>kj ef Ec p) (.func (.func 221) #[] #[Q b1]) (te.mono qJ hle1) (λh' ef Ec db Sf VD=>ip call221 (tE h' ef Ec p i8 p_q ⟨b1,0,none⟩  ((hp.mono hle1).mono db) ((ap_z.mono hle1).mono db) ((dM hb1).mono db) (u1_0 _ Sf) (u1_0 _ VD))) (by first|assumption|omega)) ap U (λG1 gr1=>jf (L':=G1) ap (qO 4 U (pR qJ ([]) G1 ([]) ap hM gr1 (λh2 hle2 sl1=>aH (cw call222 (Aa _ _ _ _ sl1) (by first|rfl|(simp only[Gy,iL];rfl)) (λv1 h3 hle3 hp1=>?_)))))))))))
  obtain⟨_,rfl,mo1⟩:=hp1
  refine an ?_
  have hs2:bX p lq=(m4 (fH eZ (λef Ec=>kj ef Ec p))):=hs1
  exact nretH [v1] (hs2▸⟨v1,U,mo1⟩)
 rintro i1 ⟨eZ,yU,yT,PI⟩ y1 rz1 hd1 gg dL i5 mF hs3 ⟨te,Ik,u1_0⟩ hx1 ag1 e
 try dsimp only at te Ik u1_0
 refine sr (tO gg U (qO 9 U (aH (iF (λy=>[I y]) eM ty3 hp.signed.1 dL U U U (λq2 A2=>eE ty3 A2 U (qO 8 U (jO 4 [20,21,22,23,24] 20 24 (decide (y1<=lq)) U (λc1 hk1=>?_) (λe=>?_))))))))
 .exact bD (qO 3 U (hk1 _ U))
 refine bp (aI hs3 U (λc2 hs4=>?_) (λc2 hs5=>?_))
 .exact bM (qO 2 U (aH (bT (cells:=[I (i1:Int)]) eM ty3 zc3 U U kr (λb2=>aH (eN W3 ([(b2,O [I (i1:Int)] 3),z1]) ([]) (λG=>[(b2,O [I (i1:Int)] 3),z1]++G) ap (λ_=>ap) eM ty3 zc3 U bytes3 te U U (gV 0 U (cE (i1:Int) U U)) lo lo (λob1 oc1 G2 gr2=>qO 4 U (oi i1 U (qO 2 U (cm (L':=[z1]++G2) js (ag1 ((eZ++[(i1:Int)]),ob1,oc1,G2) hs4 ⟨gr2,lo,(by first|assumption|exact λx hx=>(zG.1 hx).elim (u1_0 x) (λhx=>by rw[xC.1 hx];omega))⟩))))))))))
 exact bO (qT 2 U (oi i1 U (qO 2 U (ag1 (eZ,yU,yT,PI) hs5 ⟨te,lo,(by first|assumption|exact λx hx=>(zG.1 hx).elim (u1_0 x) (λhx=>by rw[xC.1 hx];omega))⟩))))
theorem wK(h v0 tX tW v0_q)(hv0:SlC jB h tX tW v0)(av0:At h v0_q [.slice tX v0.length tW]):Itr prog (.func (.func 223) #[] (xB [.pointer (some v0_q)])) AH (ku v0) h:=by
 refine si call223 ?_
 intro yf ya yb C Sp Pn h1 A db m1 m2 m3 hC hy
 refine jX Ri U ntmps223 U λX hXM hX=>?_
 have hbd:=hv0.1.1
 refine sr (eE ty31 (av0.mono db) U (qL 1 [] U (iS (v':=I ((v0.length:Int)-1)) U (lI ob) (qO 3 U ?_))))
 refine jw (ι:=Nat×List (Int×Int)×LH×HF) (λi=>[(0,.func yf ya yb),(1,.pointer (some v0_q)),(3,I ((i.1:Int)-1))]) (λi=>i.2.2.2) (λi=>i.2.2.1)
  (λi=>ku v0=i.2.1++backL v0 i.1/\i.1<=v0.length/\C i.2.1 i.2.2.2 i.2.2.1/\xJ h1 i.2.2.2) (λi=>i.1) (v0.length,[],A,h1) rd (λw hw=>hw) ⟨rfl,vE _,hC,kH _⟩ ?_
 rintro⟨m,dn,A1,hh⟩ ⟨hs,hm,hC1,hl1⟩ ag e
 dsimp only at hs hm hC1 hl1
 rcases m with _|m
 .exact el (qT 3 U (fO (decide_eq_false ob) U (qO 3 U (dR (sj [] (A:=A1) Ri U (List.Sublist.refl _) (.inl ((show ku v0=dn from hs.trans (List.append_nil _))▸hC1)))))))
 have e1:(((m+1:Nat):Int)-1)=(m:Int):=by omega
 rw[e1]
 have ho:0<=(m:Int)/\(m:Int)<(v0.length:Int):=by omega
 refine qT 4 U (tO (decide_eq_true ob) U (qO 9 U (eE ty31 (av0.mono (db.t hl1)) U (bD (aH (tA (enc:=λy=>[I y]) ei eM ty3 (hv0.mono qJ (db.t hl1)).1 ho (dC ho) U U U (λq2 A5=>eE ty3 A5 U ?_)))))))
 have hx:ku v0=dn++(((m:Int),nthI v0 (m:Int))::backL v0 m):=hs
 refine aH (me ([]) A1 U (hy dn ((m:Int),nthI v0 (m:Int)) _ _ _ _ hx hl1 hC1 U) U U (λh5 A6 hle4 hC2=>?_) (λh6 A7 hle5 hS2=>?_) (λch2 h7 A8 hle6 hP2 e=>iN (oz [] (A:=A8) Ri (List.sublist_append_right _ _) hP2)))
 .have hs4:ku v0=(dn++[((m:Int),nthI v0 (m:Int))])++backL v0 m:=hx.trans ap
  exact nv U (qO 6 U (iS (v':=I ((m:Int)-1)) U (lI ob) (an (ag (m,dn++[((m:Int),nthI v0 (m:Int))],A6,h5) _ (Nat.lt_succ_self _) ⟨hs4,by show m<=v0.length;omega,hC2,jA hl1 hle4⟩ rd))))
 exact nv U (qO 2 U (dR (nU [] (A:=A7) Ri U (List.Sublist.refl _) (.inr hS2))))
instance kI223:CtI 223:=⟨_,@wK⟩
theorem yi(h s pM pD)(hs:SlC jB h pM pD s):j4 prog 152 [.slice pM s.length pD] h (λv h'=>∃(rv0:Value),v=rv0/\Itr prog rv0 AH (mr s) h'):=by
 refine sT func152 U ntmps152 U λX hM hX hF=>?_
 generalize hz:(mr s)=z;have hs:=hz.symm
 exact W
theorem NQ(s:List Int):m4 s=s:=by
  show dq.L1 dq.K1 s=s
  induction s with
  |nil=>rfl
  |cons y s ih=>simp only[dq.L1,ih]
theorem HO(cmp:Int->Int->Int):∀(m i:Nat)(xs:List Int),m=0\/i+m<=xs.length->∀x∈insOut cmp m i xs,x∈xs
  |0,_,_,_,x,hx=>hx
  |m+1,i,xs,h,x,hx=>by
    simp only[insOut]at hx
    exact EF cmp i xs ob x (HO cmp m (i+1) _ (by rw[Br];omega) x hx)
theorem NS(xs:List Int)(cmp:Int->Int->Int):∀x∈fH xs cmp,x∈xs:=HO _ _ _ _ ob
theorem GA(p:e8)(bq):∀(s:List Int)(i:Nat)(g:List Int),(∀x∈g,0<=x/\x<(i:Int))->g.length<=i ->
  (∀x∈bX.L1 bq (bX.K1 p) s i g,0<=x/\x<((i+s.length:Nat):Int))/\(bX.L1 bq (bX.K1 p) s i g).length<=i+s.length:=by
 intro s
 induction s with
 |nil=>
  intro i g hg hl
  simp only[bX.L1,bX.K1,NQ,zB,Nat.add_zero,Gy]
  exact⟨λx hx=>hg x (NS _ _ x hx),hl⟩
 |cons y s ih=>
  intro i g hg hl
  have e1:i+(y::s).length=(i+1)+s.length:=by simp only[zA];omega
  rw[e1]
  simp only[bX.L1,Bool.cond_eq_ite]
  split
  .refine ih (i+1) _ (λx hx=>?_) lo
   rcases zG.1 hx with hx|hx
   .have:=hg x hx;omega
   rw[xC.1 hx];omega
  exact ih (i+1) g (λx hx=>by have:=hg x hx;omega) ob
theorem Mk(p:e8)(bq):∀x∈bX p bq,0<=x/\x<(p.signed.length:Int):=by
  have:=(GA p bq p.signed 0 [] (λ_ h=>(kA h).elim) (vE _)).1
  simpa[bX]using this
theorem Mj(p:e8)(bq):(bX p bq).length<=p.signed.length:=by
  have:=(GA p bq p.signed 0 [] (λ_ h=>(kA h).elim) (vE _)).2
  simpa[bX]using this
theorem FRi.mono{h':HF}(hl:h.le h'){m:List (Int×Option Addr×Nat×Nat)}{f:List (Int×List Int)}{G:LH}(x:FRi h m f G):FRi h' m f G:=FRg.mono qJ hl x
section
variable {b0:Frame} {n:Nat} {ops:Array Oper} {F:List Frame->(Machine->Prop)->Prop} {ds:List Deferred} {X:Cx} {e:Env} {h h':HF} {L:LH} {l:List ao} {lb:Option Addr} {lc_z:Nat} {sg:List Int} {sb:Option Addr} {sc:Nat} {at_:Int} {q4:Addr} {a b c d f g t:Bool} {ty:TypeId} {pos:String} {af:Array Edge}
theorem Vx(hl:SlC ao.rp h lb lc_z l)(hI:PlI h l lb lc_z sg sb sc at_ q4 false b c d f g t e h' L):
    Stp prog b0 n ops F ds X ⟨some 17,.call ⟨.value (.func 147),#[.tmp 16],#[27]⟩,ty,pos,af,none⟩ e h' L (λe2 h2 L2=>Jst h [] h2 L2/\PlI h l lb lc_z sg sb sc at_ q4 true b c d f g t e2 h2 L2):=by
  obtain⟨hv,db,⟨k2,k4,k16,k18,k20,k23⟩,sq,b5,b8,b9,b12,b11,x1,x5,x8,x9,x12,x10,x11,hL⟩:=hI
  cases g<;>cases t<;>simp at hv
  refine cw call147 (rU h' l lb lc_z (hl.mono ao.aG db)) (congrArg (λx=>[x]) k16) (λv h2 hl2 hp=>?_)
  obtain⟨r2,rfl,ok2⟩:=hp
  exact⟨⟨jA db hl2,λ_ hp=>(kA hp).elim⟩,U,jA db hl2,⟨k2,k4,k16,k18,k20,k23⟩,r2,b5,b8,b9,b12,b11,λ_=>⟨U,ok2⟩,x5,x8,x9,x12,λh=>(by cases h),λh=>(by cases h),hL⟩
theorem Vw(hn:l.length<20)(hI:PlI h l lb lc_z sg sb sc at_ q4 a false c d f g t e h' L):
    Stp prog b0 n ops F ds X ⟨some 21,.makeSlice 136 (.tmp 20) (.tmp 20),ty,pos,af,none⟩ e h' L (λe2 h2 L2=>Jst h [] h2 L2/\PlI h l lb lc_z sg sb sc at_ q4 a true c d f g t e2 h2 L2):=by
  obtain⟨hv,db,⟨k2,k4,k16,k18,k20,k23⟩,sq,b5,b8,b9,b12,b11,x1,x5,x8,x9,x12,x10,x11,hL⟩:=hI
  cases g<;>cases t<;>simp at hv
  refine JL Ef zc4 ty4 bytes4 k20 k20 ob ob (λbk=>?_)
  exact⟨⟨db,λ_ hp=>(kA hp).elim⟩,U,db,⟨k2,k4,k16,k18,k20,k23⟩,sq,bk,b8,b9,b12,b11,x1,λ_=>U,x8,x9,x12,λh=>(by cases h),λh=>(by cases h),
    (List.Perm.cons _ hL).trans (pmid (pmid (pmid (pmid (List.Perm.refl _)))))⟩
theorem Vv(hn:l.length<20)(hI:PlI h l lb lc_z sg sb sc at_ q4 a b false d f g t e h' L):
    Stp prog b0 n ops F ds X ⟨some 24,.makeSlice 31 (.tmp 23) (.tmp 23),ty,pos,af,none⟩ e h' L (λe2 h2 L2=>Jst h [] h2 L2/\PlI h l lb lc_z sg sb sc at_ q4 a b true d f g t e2 h2 L2):=by
  obtain⟨hv,db,⟨k2,k4,k16,k18,k20,k23⟩,sq,b5,b8,b9,b12,b11,x1,x5,x8,x9,x12,x10,x11,hL⟩:=hI
  cases g<;>cases t<;>simp at hv
  refine JL eM zc3 ty3 bytes3 k23 k23 ob ob (λbk=>?_)
  exact⟨⟨db,λ_ hp=>(kA hp).elim⟩,U,db,⟨k2,k4,k16,k18,k20,k23⟩,sq,b5,bk,b9,b12,b11,x1,x5,λ_=>U,x9,x12,λh=>(by cases h),λh=>(by cases h),
    (List.Perm.cons _ hL).trans (pmid (pmid (pmid (List.Perm.refl _))))⟩
theorem Vu(hI:PlI h l lb lc_z sg sb sc at_ q4 a b c false f g t e h' L):
    Stp prog b0 n ops F ds X ⟨some 25,.makeMap 105 none,ty,pos,af,none⟩ e h' L (λe2 h2 L2=>Jst h [] h2 L2/\PlI h l lb lc_z sg sb sc at_ q4 a b c true f g t e2 h2 L2):=by
  obtain⟨hv,db,⟨k2,k4,k16,k18,k20,k23⟩,sq,b5,b8,b9,b12,b11,x1,x5,x8,x9,x12,x10,x11,hL⟩:=hI
  cases g<;>cases t<;>simp at hv
  refine oC (λbk=>?_)
  exact⟨⟨db,λ_ hp=>(kA hp).elim⟩,U,db,⟨k2,k4,k16,k18,k20,k23⟩,sq,b5,b8,bk,b12,b11,x1,x5,x8,λ_=>U,x12,λh=>(by cases h),λh=>(by cases h),
    (List.Perm.cons _ hL).trans (pmid (pmid (List.Perm.refl _)))⟩
theorem U8(hI:PlI h l lb lc_z sg sb sc at_ q4 a b c d false g t e h' L):
    Stp prog b0 n ops F ds X ⟨some 7,.alloc 150,ty,pos,af,none⟩ e h' L (λe2 h2 L2=>Jst h [] h2 L2/\PlI h l lb lc_z sg sb sc at_ q4 a b c d true g t e2 h2 L2):=by
  obtain⟨hv,db,⟨k2,k4,k16,k18,k20,k23⟩,sq,b5,b8,b9,b12,b11,x1,x5,x8,x9,x12,x10,x11,hL⟩:=hI
  refine Bj zc150 (λbk=>?_)
  exact⟨⟨db,λ_ hp=>(kA hp).elim⟩,hv,db,⟨k2,k4,k16,k18,k20,k23⟩,sq,b5,b8,b9,bk,b11,x1,x5,x8,x9,λ_=>U,x10,x11,
    (List.Perm.cons _ hL).trans (pmid (List.Perm.refl _))⟩
theorem Va(ha:(a&&b&&c&&d)=true)(hI:PlI h l lb lc_z sg sb sc at_ q4 a b c d f false t e h' L):
    Stp prog b0 n ops F ds X ⟨some 26,.build 215 #[(0,.tmp 17),(1,.tmp 18),(2,.tmp 21),(3,.tmp 24),(4,.tmp 25)],ty,pos,af,none⟩ e h' L (λe2 h2 L2=>Jst h [] h2 L2/\PlI h l lb lc_z sg sb sc at_ q4 a b c d f true t e2 h2 L2):=by
  obtain⟨hv,db,⟨k2,k4,k16,k18,k20,k23⟩,sq,b5,b8,b9,b12,b11,x1,x5,x8,x9,x12,x10,x11,hL⟩:=hI
  cases a<;>cases b<;>cases c<;>cases d<;>simp at ha
  cases t<;>simp at hv
  obtain⟨x1,o1⟩:=x1 rfl
  replace x5:=x5 rfl
  replace x8:=x8 rfl
  replace x9:=x9 rfl
  refine KE [(17,_),(18,_),(21,_),(24,_),(25,_)] ⟨x1,k18,x5,x8,x9,trivial⟩ ?_
  have hc:e8.cells (playP l sg) (playR l.length sq sb sc b5 b8 b9)=[.slice sq.Iz (aJ l).docs.length sq.Iy,.map (some sq.NK),.slice sb sg.length sc,.slice (zAD b5) l.length l.length,.slice (zAD b8) l.length l.length,.map (some b9)]:=by simp[e8.cells,playP,playR]
  exact gv (cells:=[.slice sq.Iz (aJ l).docs.length sq.Iy,.map (some sq.NK),.slice sb sg.length sc,.slice (zAD b5) l.length l.length,.slice (zAD b8) l.length l.length,.map (some b9)]) (places:=[(0,2),(2,1),(3,1),(4,1),(5,1)]) underlying215 zc215 kr kr (⟨⟨db,λ_ hp=>(kA hp).elim⟩,U,db,⟨k2,k4,k16,U,k20,k23⟩,sq,b5,b8,b9,b12,b11,λ_=>⟨U,o1⟩,λ_=>U,λ_=>U,λ_=>U,x12,λ_=>(congrArg (λz:List Value=>Value.agg z.toArray) hc).symm,λh=>(by cases h),hL⟩)
theorem U9(hI:PlI h l lb lc_z sg sb sc at_ q4 a b c d f true false e h' L):
    Stp prog b0 n ops F ds X ⟨some 27,.box 215 (.tmp 26),ty,pos,af,none⟩ e h' L (λe2 h2 L2=>Jst h [] h2 L2/\PlI h l lb lc_z sg sb sc at_ q4 a b c d f true true e2 h2 L2):=by
  obtain⟨hv,db,⟨k2,k4,k16,k18,k20,k23⟩,sq,b5,b8,b9,b12,b11,x1,x5,x8,x9,x12,x10,x11,hL⟩:=hI
  replace x10:=x10 rfl
  refine KE [(26,_)] ⟨x10,trivial⟩ (U4 (λbk=>?_))
  exact⟨⟨db,λ_ hp=>(kA hp).elim⟩,hv,db,⟨k2,k4,k16,k18,k20,k23⟩,sq,b5,b8,b9,b12,bk,x1,x5,x8,x9,x12,λ_=>U,λ_=>U,List.Perm.cons _ hL⟩
end
theorem Tu{a b c d f g t:Bool}(h:i∈plN a b c d f g t):(i=1/\a=false)\/(i=5/\b=false)\/(i=8/\c=false)\/(i=9/\d=false)\/(i=10/\(a&&b&&c&&d)=true/\g=false)\/(i=11/\g=true/\t=false)\/(i=12/\f=false)\/(a=true/\b=true/\c=true/\d=true/\f=true/\g=true/\t=true):=by
 simp only[plN,zG]at h
 rcases h with h|h|h|h|h|h|h|h
 .cases a with
  |true=>simp at h
  |false=>simp at h;exact .inl ⟨h,rfl⟩
 .cases b with
  |true=>simp at h
  |false=>simp at h;exact .inr (.inl ⟨h,rfl⟩)
 .cases c with
  |true=>simp at h
  |false=>simp at h;exact .inr (.inr (.inl ⟨h,rfl⟩))
 .cases d with
  |true=>simp at h
  |false=>simp at h;exact .inr (.inr (.inr (.inl ⟨h,rfl⟩)))
 .cases g with
  |true=>simp at h
  |false=>
   cases hh:(a&&b&&c&&d)with
   |false=>rw[hh]at h;simp at h
   |true=>rw[hh]at h;simp at h;exact .inr (.inr (.inr (.inr (.inl ⟨h,rfl,rfl⟩))))
 .cases g with
  |false=>simp at h
  |true=>
   cases t with
   |true=>simp at h
   |false=>simp at h;exact .inr (.inr (.inr (.inr (.inr (.inl ⟨h,rfl,rfl⟩)))))
 .cases f with
  |true=>simp at h
  |false=>simp at h;exact .inr (.inr (.inr (.inr (.inr (.inr (.inl ⟨h,rfl⟩))))))
 cases a<;>cases b<;>cases c<;>cases d<;>cases f<;>cases g<;>cases t<;>simp at h
 exact .inr (.inr (.inr (.inr (.inr (.inr (.inr ⟨U,U,U,U,U,U,U⟩))))))
theorem RY{a b c d f g t:Bool}(h:plM a b c d f g t=0):a=true/\b=true/\c=true/\d=true/\f=true/\g=true/\t=true:=by
  cases a<;>cases b<;>cases c<;>cases d<;>cases f<;>cases g<;>cases t<;>simp[plM]at h<;>simp
theorem yX.mono{h':HF}{n b5 b8 br:Nat}{P:e8}{Gf:LH}(o:yX h n b5 b8 br P om m3 Gf)(hl:h.le h'):yX h' n b5 b8 br P om m3 Gf:=
  ⟨o.done,o.lacks,o.map.mono V3.mono hl,o.rev.mono hl⟩
theorem Fw(h):∀xs:List Bool,cY vV h (xs.map zV) xs
  |[]=>rfl
  |x::xs=>⟨[.bool x],xs.map zV,rfl,rfl,rfl,Fw h xs⟩
theorem E8(h):∀xs:List Int,cY jB h (xs.map (qC .i64)) xs
  |[]=>rfl
  |x::xs=>⟨[I x],xs.map (qC .i64),rfl,rfl,rfl,E8 h xs⟩
theorem yX.lent{h1:HF}{n b5 b8 br:Nat}{P:e8}{Gf:LH}{sq:rJ}{sb:Option Addr}{sc:Nat}(o:yX h n b5 b8 br P om m3 Gf)(hn:n<20)(hs:ie.ok h P.shelf sq)(hg:SlC jB h sb sc P.signed)(hl:h.le h1)(hL:∀p∈plB b5 b8 br P om Gf,h1 p.1=some p.2):e8.ok h1 P (playR n sq sb sc b5 b8 br):=by
  have h5:=hL (b5,.cells (P.done.map zV).toArray 4 (0,0)) (by simp[plB])
  have h8:=hL (b8,.cells (P.lacks.map (qC .i64)).toArray 3 (0,0)) (by simp[plB])
  have hr:=hL (br,om) (by simp[plB])
  have hd:=o.done
  have hk:=o.lacks
  exact⟨hs.mono hl,hg.mono qJ hl,cY.slB0 (Fw h1 _) h5 ob (by rw[hd];exact vE _),cY.slB0 (E8 h1 _) h8 ob (by rw[hk];exact vE _),
    ⟨om,hr,FRg.frozen qJ o.map o.rev hl (λp hp=>hL p (by simp[plB,hp]))⟩⟩
theorem I9(l:List ao):(aJ l).docs=l:=by
  have:∀(s:List ao)(i:Nat)(g:List (Int×Int)),(aJ.L1 (aJ.K1 l) s i g).docs=l:=by
    intro s
    induction s with
    |nil=>intro i g;rfl
    |cons y s ih=>intro i g;exact ih _ _
  exact this _ _ _
theorem MK(l:List ao)(hl:0<l.length)(k):0<=mgetD (aJ l).at_ k 0/\mgetD (aJ l).at_ k 0<(l.length:Int):=by
  have key:∀(s:List ao)(i:Nat)(g:List (Int×Int)),i+s.length=l.length->(∀p∈g,0<=p.2/\p.2<(l.length:Int))->∀p∈(aJ.L1 (aJ.K1 l) s i g).at_,0<=p.2/\p.2<(l.length:Int):=by
    intro s
    induction s with
    |nil=>intro i g _ hg;exact hg
    |cons y s ih=>
      intro i g hi hg
      simp only[zA]at hi
      exact ih (i+1) _ ob (As (P:=λx:Int=>0<=x/\x<(l.length:Int)) _ hg ob)
  exact Bo (P:=λx:Int=>0<=x/\x<(l.length:Int)) k (key l 0 [] (by simp) (λ_ h=>(kA h).elim)) ob
theorem Ck(f:α->Value)(xs:List α)(k)(y:α):splice (xs.map f) (k*1) [f y]=(xs.set k y).map f:=by
  simp[splice,pg,List.map_set]
theorem Hr{l:List ao}{sg:List Int}{P:e8}{r:vv}(h1:P.shelf=aJ l)(h2:P.signed=sg)(h3:P.done.length=l.length)(h4:P.lacks.length=l.length):e8.cells P r=e8.cells (playP l sg) r:=by
  simp[e8.cells,playP,h1,h2,h3,h4]
theorem Ao(sg:List Int)(i no)(P:e8):(playLack sg i P no).shelf=P.shelf/\(playLack sg i P no).signed=P.signed/\(playLack sg i P no).done=P.done/\(playLack sg i P no).lacks.length=P.lacks.length/\(playLack sg i P no).revoked=P.revoked:=by
  unfold playLack
  cases(cX P (mgetD P.shelf.at_ no 0) (nthI sg i)).1 != 0<;>simp
theorem KL{d:ao}{Q_z:e8}{y:Int}{P:List (Int×List Int)}(h:∀k,(mgetD Q_z.revoked k []).length<=(mgetD P k []).length+i):∀k,(mgetD (playRevoke d Q_z y).revoked k []).length<=(mgetD P k []).length+(i+1):=λk=>by
 show(mgetD (mput Q_z.revoked y (mgetD Q_z.revoked y []++[d.No])) k []).length<=_
 rw[CC]
 split
 .next hk=>subst hk;have:=h k;simp only[vA,zA,zB];omega
 have:=h k;omega
theorem R6(h:p:=by
  refine tn 15 U (mt 7 (k:=y) (x:=(gb',(mgetD QD.revoked y []++[d.No]).length,gc')) Gm (fe mR) U ownQ.map U U U (λoR hmR=>⟨jn,bW kr ?_⟩))
  obtain⟨G',hfr',hp'⟩:=hput gb' gc' _ G1' hG'
  refine qT 2 U (oi i U (qO 2 U (bY (L':=[zn,zd,zi,zl,zr,z5,(b8,.cells (QD.lacks.map (λv=>Value.int .i64 v)).toArray 3 (0,0)),(br,oR)]++(G2++G1')) U ?_)))
  exact mY (L':=zn::([zd,zi,zl,zr]++plB b5 b8 br (playRevoke d QD y) oR G')) (List.Perm.append_left [_,_,_,_,_,_,_,_] (List.perm_append_comm.trans hp'.symm)) (cm (L':=[zd,zi,zl,zr]++plB b5 b8 br (playRevoke d QD y) oR G') js (ag (i+1,playRevoke d QD y,oR,mput mQ y (gb',(mgetD QD.revoked y []++[d.No]).length,gc'),G') _ (by show d.eX.length-(i+1)<d.eX.length-i;omega) ⟨hfQ,hi,⟨ownQ.done,ownQ.lacks,hmR,hfr'⟩,hQs,hQg,KL hQc⟩ rd))):p:=h
theorem tT(h l fg ff signed cu ct bq)(hl:SlC ao.rp h fg ff l)(eT:SlC jB h cu ct signed)(hck:bh l=0)(hsg:signed.length=l.length)(hln:l.length<20):
  j4 prog 80 [.slice fg l.length ff,.slice cu signed.length ct,I bq] h (λv h'=>∃(rq0:Addr)(rr0:vv),v=.pointer (some rq0)/\e8.ok h' (cD l signed bq) rr0/\At h' rq0 (e8.cells (cD l signed bq) rr0)):=by
 refine cV func80 U ntmps80 U λX hM hX=>?_
 refine sr (eL (λb4=>an ?_))
 refine gl 0 U hM (λh1 l1 f4=>?_)
 have a4:=dM f4
 show TT _ _ _ _ _ _ _ _ h1 []
 refine el (fo [] mixed kr jn (λhsep _=>?_))
 refine tm 0 U (tf 2 U U (rh ty31 a4 U) (tm 3 U (tf 4 U U (λ_ _ _=>JW w7 U) (tm 6 U (tf 7 U U (λ_ _ _=>JW w7 U) ?_)))))
 refine Un (σ:=Bool×Bool×Bool×Bool×Bool×Bool×Bool) 1 (λs e2 h2 L2=>PlI h1 l fg ff signed cu ct bq ⟨b4,0,none⟩ s.1 s.2.1 s.2.2.1 s.2.2.2.1 s.2.2.2.2.1 s.2.2.2.2.2.1 s.2.2.2.2.2.2 e2 h2 L2)
  (λs=>plM s.1 s.2.1 s.2.2.1 s.2.2.2.1 s.2.2.2.2.1 s.2.2.2.2.2.1 s.2.2.2.2.2.2) (λs=>plD s.1 s.2.1 s.2.2.1 s.2.2.2.1 s.2.2.2.2.1 s.2.2.2.2.2.1 s.2.2.2.2.2.2) ?_ ?_ 7 (false,false,false,false,false,false,false) _ _ _ rfl
  ⟨rfl,kH _,⟨rfl,rfl,rfl,rfl,rfl,rfl⟩,⟨none,0,0⟩,0,0,0,0,0,λh=>(by cases h),λh=>(by cases h),λh=>(by cases h),λh=>(by cases h),λh=>(by cases h),λh=>(by cases h),λh=>(by cases h),List.Perm.refl _⟩
 .rintro⟨a,b,c,d,f,g,t⟩ e2 h2 L2 hI hμ
  obtain⟨e1,e2',e3,e4,e5,e6,e7⟩:=RY hμ
  dsimp only at e1 e2' e3 e4 e5 e6 e7
  subst e1 e2' e3 e4 e5 e6 e7
  obtain⟨_,db,⟨k2,k4,_,_,_,_⟩,sr0,b5,b8,br,b12,b11,x1,_,_,_,x12,_,x11,hL⟩:=hI
  obtain⟨_,oks⟩:=x1 rfl
  have k7:=x12 rfl
  have k27:=x11 rfl
  clear x1 x12 x11
  dsimp only at k7 k27 oks hL k2 k4
  have J2:∀{L:LH},Jst h1 [] h2 L:=⟨db,λ_ hp=>(kA hp).elim⟩
  refine tn 13 U (GD hL (KE [(7,Q b12),(27,Q b11)] ⟨k7,k27,trivial⟩ (lK 1 (off:=0) (vs:=[Q b11]) ty150 U U U U (by rfl) U ⟨J2,bW kr (Ul [(2,I bq),(4,Q b4),(7,Q b12)] ⟨k2,k4,U,trivial⟩ (gl 1 U hM (λh3 l3 f12=>gl 0 U hM (λh4 l4 f11=>?_))))⟩)))
  have A7:=(dM f12).mono l4
  have A11:=dM f11
  have l24:h2.le h4:=jA l3 l4
  have l04:h.le h4:=jA l1 (jA db l24)
  replace oks:=oks.mono l24
  replace a4:=a4.mono (jA db l24)
  clear f12 f11 l3 l4 J2 hL k2 k4 k7 k27
  refine mY (L':=plB b5 b8 br (playP l signed) (.map #[] 0) []) (by
   have h9:plB b5 b8 br (playP l signed) (.map #[] 0) []=[(b5,.cells (List.replicate l.length (.bool false)).toArray 4 (0,0)),(b8,.cells (List.replicate l.length (I 0)).toArray 3 (0,0)),(br,.map #[] 0)]:=by simp[plB,playP,List.map_replicate]
   rw[h9]
   exact List.reverse_perm [(b5,O (List.replicate l.length (.bool false)) 4),(b8,.cells (List.replicate l.length (I 0)).toArray 3 (0,0)),(br,.map #[] 0)]) ?_
  have hl4:=hl.mono ao.aG l04
  have hs4:=eT.mono qJ l04
  refine qT 3 U (eE ty150 A7 U (bD (aH (cw call151 (vl h4 (playP l signed) (playR l.length sr0 cu ct b5 b8 br) ⟨b11,0,none⟩ bq ⟨hs4⟩ A11 (by show signed.length<20;omega)) U (λv5 h5 l5 hp=>?_)))))
  obtain⟨rv,rfl,hit⟩:=hp
  refine qO 2 U (dR ?_)
  have hord:=Mk (playP l signed) bq
  have hordl:=Mj (playP l signed) bq
  have hsl:(playP l signed).signed.length=l.length:=hsg
  replace a4:=a4.mono l5
  replace A7:=A7.mono l5
  replace A11:=A11.mono l5
  replace hl4:=hl4.mono ao.aG l5
  replace hs4:=hs4.mono qJ l5
  replace oks:=oks.mono l5
  have hdr:=Km hck
  refine j7 (it:=v5) (xs:=bX (playP l signed) bq) (ι:=e8×Obj×List (Int×Option Addr×Nat×Nat)×LH×HF) [] (λi=>i.2.2.2.2) (λi=>plB b5 b8 br i.1 i.2.1 i.2.2.2.1)
   (λrest i=>rest.foldl playStep i.1=cD l signed bq/\i.1.shelf=aJ l/\i.1.signed=signed/\yX i.2.2.2.2 l.length b5 b8 br i.1 i.2.1 i.2.2.1 i.2.2.2.1/\h5.le i.2.2.2.2/\(∀x∈rest,0<=x/\x<(l.length:Int))/\(∀k,(mgetD i.1.revoked k []).length+16*rest.length<=320))
   (λ_=>False) (λ_=>False) 0 (λ_ _ _=>False) (playP l signed,.map #[] 0,[],[],h5) func80 rfl hit rfl AG (λ_ _ _ _ _ hq=>hq) rfl rfl
   ⟨rfl,rfl,rfl,⟨by simp[playP],by simp[playP],kY.nil,rfl⟩,kH _,λx hx=>hsl▸hord x hx,λk=>by show 0+16*_<=320;omega⟩ ?_ ?_ (λ_ _ _ hF=>hF.elim) (λ_ _ _ hF=>hF.elim) (λ_ _ _ _ hF=>hF.elim)
  .rintro Vo r1 lp1 x rest vs1 ⟨P,om,m3,Gf,hh⟩ h7 X' FR ⟨hfold,hsh,hsgd,hown,h5h,hin,hcnt⟩ h57 hh7 hv hX' hXM hlp nx rt ex pn
   dsimp only at hfold hsh hsgd hown h5h hin hcnt hh7
   obtain rfl:=hv
   have hPl:P.signed.length=l.length:=by rw[hsgd];exact hsg
   have hD:=I9 l
   have hx0:=hin x (kB ..)
   have hx:0<=x/\x<((aJ l).docs.length:Int):=by rw[hD];exact hx0
   have hxn:x.toNat<l.length:=by omega
   replace hown:=hown.mono hh7
   have oks7:=oks.mono h57
   have A7':=A7.mono h57
   have A11':=A11.mono h57
   have a4':=a4.mono h57
   have hs7:=hs4.mono qJ h57
   have hpd:=hown.done
   have hpl:=hown.lacks
   clear hh7
   refine bM (bJ zc3 (λbi=>cU 0 ty3 U U U U U U (bp ?_)))
   let zi:Nat×Obj:=(bi,O [I x] 3)
   let zl:Nat×Obj:=(Vo,.loop { lp1 with state:=.busy })
   let zr:Nat×Obj:=(r1,.deferred (some []))
   refine kg 1 U hlp (mZ (bY (L':=[zi,zl,zr]++plB b5 b8 br P om Gf) (show[zi,zl,zr]++(plB b5 b8 br P om Gf++markB [])=_ from by simp[markB]) (el (fo [zi] mixed kr jn (λhs4 _=>?_)))))
   refine tf 0 U U (rh ty150 A7' U) (tf 1 U U (λ_ _ _=>gf U) (qB [2,3] U (tf 4 U U (rh ty27 A11' U) (tf 5 U U (rj 0 ty3 U U U) (oB 6 hs4 jn w7 ty54 oks7.docs.1 hx (dC hx) U U U U kr (λq1 cs1 B1 ln1 rr1=>?_))))))
   obtain⟨dr,rfl,okd⟩:=rr1
   refine tf 7 U U (λ_ _ hj=>oE ty54 (B1.mono hj.1) U U) (tn 8 U (Bj zc54 (λbd=>⟨jn,(tn 9 U (uN 0 ty54 U U U U U U ⟨jn,bW kr ?_⟩))⟩)))
   generalize hdd:nthI (aJ l).docs x=d at okd B1
   let zd:Nat×Obj:=(bd,O (ao.cells d dr) 54)
   have hdP:nthI P.shelf.docs x=d:=by rw[hsh];exact hdd
   have hdl:d∈l:=by have h9:=pI hx;rw[hdd,hD]at h9;exact h9
   have hgd:=hdr d hdl
   show TT _ _ _ _ _ _ _ _ h7 ([zd,zi,zl,zr]++plB b5 b8 br P om Gf)
   refine el (fo [zd,zi] mixed kr jn (λhs5 _=>?_))
   refine tf 0 U U (rh ty150 A7' U) (tf 1 U U (λ_ _ _=>gf U) (qB [2] U (tf 3 U U (rH 4 ty31 A11' U U) (tf 4 U U (rj 1 ty3 U U U) (tf 5 U U (λ_ _ _=>nR (R:=jB) (xs:=P.lacks) (bk:=b8) (z:=x) eM ty3 U ob U (by simp[playP,hpl]) U) (tn 6 U (lK 5 (off:=x.toNat*1) (vs:=[I (-1)]) ty3 U U U U (Nat.ble_eq_true_of_le (by simp only[List.length_map,zA,zB];omega)) U ⟨jn,bW kr (bY (L':=[zd,zi,zl,zr]++plB b5 b8 br { P with lacks:=P.lacks.set x.toNat (-1) } om Gf) (by rw[Ck (qC .i64)];rfl) ?_)⟩)))))))
   have own1:yX h7 l.length b5 b8 br { P with lacks:=P.lacks.set x.toNat (-1) } om m3 Gf:=⟨hpd,by simpa using hpl,hown.map,hown.rev⟩
   refine qT 3 U (lA TI U (pk 0 ty31 U U U (aH (cw call152 (yi h7 d.fm _ _ okd.fm) U (λv8 h8 l8 hp8=>?_)))))
   obtain⟨rv8,rfl,hit8⟩:=hp8
   refine qO 2 U ?_
   refine P7 (it:=v8) (xs:=mr d.fm) 2 U (λdone h' L'=>h8.le h'/\yX h' l.length b5 b8 br (done.foldl (λq(z:Int×Int)=>playLack P.signed x q z.2) { P with lacks:=P.lacks.set x.toNat (-1) }) om m3 Gf/\L'=[zd,zi,zl,zr]++plB b5 b8 br (done.foldl (λq(z:Int×Int)=>playLack P.signed x q z.2) { P with lacks:=P.lacks.set x.toNat (-1) }) om Gf)
    rfl hit8 rfl FU (λ_ _ _ _ hl⟨a,b,c⟩=>⟨jA a hl,b.mono hl,c⟩) ⟨kH _,own1.mono l8,rfl⟩ ?_ ?_
   .rintro l2 lp2 done z rest2 vs2 h9 L9 X9 hxs h89 ⟨h89',own2,rfl⟩ hv2 hlp2 hX9 hXM9
    obtain rfl:=hv2
    obtain⟨Pm,hPm⟩:∃Pm,Pm=done.foldl (λq(z:Int×Int)=>playLack P.signed x q z.2) { P with lacks:=P.lacks.set x.toNat (-1) }:=⟨_,rfl⟩
    have hPs:Pm.shelf=aJ l/\Pm.signed=signed:=by
     rw[hPm]
     have:∀(s:List (Int×Int))(QD:e8),QD.shelf=aJ l/\QD.signed=signed->(s.foldl (λq(z:Int×Int)=>playLack P.signed x q z.2) QD).shelf=aJ l/\(s.foldl (λq(z:Int×Int)=>playLack P.signed x q z.2) QD).signed=signed:=by
      intro s
      induction s with
      |nil=>intro QD h;exact h
      |cons y s ih=>intro QD h;obtain⟨a1,a2,_⟩:=Ao P.signed x y.2 QD;exact ih _ ⟨a1.trans h.1,a2.trans h.2⟩
     exact this _ _ ⟨hsh,hsgd⟩
    rw[←hPm]at own2
    have l79:h7.le h9:=jA l8 h89
    have A79:=A7'.mono l79
    have B79:=A11'.mono l79
    refine qT 3 U (kg 0 U hlp2 (mZ ?_))
    rw[←hPm]
    refine bY (L':=[(l2,.loop { lp2 with state:=.busy }),zd,zi,zl,zr]++plB b5 b8 br Pm om Gf) U (el (fo [zi] mixed kr jn (λhs8 _=>?_)))
    refine tf 0 U U (rh ty150 A79 U) (tf 1 U U (rh ty150 A79 U) (tf 2 U U (λ_ _ _=>gf U) (qB [3,4] U (tf 5 U U (rH 1 ty43 B79 U U) (tm 6 U (tf 8 U U (rh ty31 (a4'.mono l79) U) (tf 9 U U (rj 0 ty3 U U U) ?_)))))))
    have hxs:0<=x/\x<(signed.length:Int):=by omega
    refine kZ 10 (enc:=λy=>[I y]) hs8 jn (λ_ _ _ e=>e) eM ty3 (hs7.mono qJ l79).1 hxs (dC hxs) U U U U kr (λq3 B3=>?_)
    refine tf 11 U U (rh ty3 B3 U) ?_
    obtain⟨mo,hmb,hmm⟩:=(oks7.mono l79).at_
    refine tn 7 U (ph (k:=z.2) Cf (fe mR) hmb hmm (eG zv3) (show tq _ (I 0) 0 from U) U U (λv hv=>?_))
    obtain rfl:=hv
    refine⟨jn,?_⟩
    have hat:=MK l ob z.2
    refine tn 12 U (RK (v:=.tuple #[I (cX Pm (mgetD (aJ l).at_ z.2 0) (nthI signed x)).1,I (cX Pm (mgetD (aJ l).at_ z.2 0) (nthI signed x)).2]) call81 (λhz lz hall=>nA hz Pm (playR l.length sr0 cu ct b5 b8 br) ⟨b11,0,none⟩ (mgetD (aJ l).at_ z.2 0) (nthI signed x)
     (own2.lent hln (hPs.1▸oks7.mono l79) (hPs.2▸hs7.mono qJ l79) lz (λp hp=>hall p (by simp only[zG,zE];exact .inr hp))) (by rw[Hr hPs.1 hPs.2 own2.done own2.lacks];exact(A11'.mono l79).mono lz) (by rw[hPs.1,hD];exact hat) (by rw[hPs.1,hD];exact⟨own2.done,own2.lacks⟩)) rfl ⟨jn,?_⟩)
    refine qR 13 5 U (bW kr (qT 5 U ?_))
    have hlk:playLack P.signed x Pm z.2=bif(cX Pm (mgetD (aJ l).at_ z.2 0) (nthI signed x)).1 != 0 then { Pm with lacks:=Pm.lacks.set x.toNat z.2 }else Pm:=by
     unfold playLack;rw[hPs.1,hsgd]
    have hnx:(done++[z]).foldl (λq(z:Int×Int)=>playLack P.signed x q z.2) { P with lacks:=P.lacks.set x.toNat (-1) }=playLack P.signed x Pm z.2:=by rw[List.foldl_append,hPm];rfl
    refine lu U (λc1=>?_) (λc1=>qT 2 U ?_)
    .refine fo [zi] mixed kr jn (λhs9 _=>?_)
     refine tf 0 U U (rh ty150 A79 U) (tf 1 U U (λ_ _ _=>gf U) (qB [2] U (tf 3 U U (rH 4 ty31 B79 U U) (tf 4 U U (rj 0 ty3 U U U) (tm 5 U ?_)))))
     have hml:=own2.lacks
     refine tf 6 U U (λ_ _ _=>nR (R:=jB) (xs:=Pm.lacks) (bk:=b8) (z:=x) eM ty3 U ob U (by simp[playP,hml]) U) (tn 7 U (lK 6 (off:=x.toNat*1) (vs:=[I z.2]) ty3 U U U U (Nat.ble_eq_true_of_le (by simp only[List.length_map,zA,zB];omega)) U ⟨jn,bW kr (fM ?_)⟩))
     rw[c1,cond_true]at hlk
     refine bY (L':=(l2,.loop { lp2 with state:=.busy })::([zd,zi,zl,zr]++plB b5 b8 br { Pm with lacks:=Pm.lacks.set x.toNat z.2 } om Gf)) (by rw[Ck (qC .i64)];rfl) ?_
     refine Pg U ⟨h89',?_,?_⟩
     .rw[hnx,hlk];exact⟨own2.done,by simpa using hml,own2.map,own2.rev⟩
     rw[hnx,hlk]
    rw[c1,cond_false]at hlk
    refine Pg U ⟨h89',?_,?_⟩
    .rw[hnx,hlk];exact own2
    rw[hnx,hlk];rfl
   rintro h9 L9 h89 ⟨h89',own2,rfl⟩
   obtain⟨Pm,hPm⟩:∃Pm,Pm=(mr d.fm).foldl (λq(z:Int×Int)=>playLack P.signed x q z.2) { P with lacks:=P.lacks.set x.toNat (-1) }:=⟨_,rfl⟩
   rw[←hPm]at own2
   rw[←hPm]
   have hPs:Pm.shelf=aJ l/\Pm.signed=signed/\Pm.revoked=P.revoked:=by
    rw[hPm]
    have:∀(s:List (Int×Int))(QD:e8),QD.shelf=aJ l/\QD.signed=signed/\QD.revoked=P.revoked->(s.foldl (λq(z:Int×Int)=>playLack P.signed x q z.2) QD).shelf=aJ l/\(s.foldl (λq(z:Int×Int)=>playLack P.signed x q z.2) QD).signed=signed/\(s.foldl (λq(z:Int×Int)=>playLack P.signed x q z.2) QD).revoked=P.revoked:=by
     intro s
     induction s with
     |nil=>intro QD h;exact h
     |cons y s ih=>intro QD h;obtain⟨a1,a2,_,_,a5⟩:=Ao P.signed x y.2 QD;exact ih _ ⟨a1.trans h.1,a2.trans h.2.1,a5.trans h.2.2⟩
    exact this _ _ ⟨hsh,hsgd,U⟩
   have hmid:playMid P x=Pm:=by unfold playMid;rw[hdP];exact hPm.symm
   have hstep:playStep P x=bif decide (nthI Pm.lacks x<0)then d.eX.foldl (playRevoke d) (playDone Pm x)else playDone Pm x:=by
    unfold playStep;rw[hmid,hdP]
   have l79:h7.le h9:=jA l8 h89
   have A79:=A7'.mono l79
   have B79:=A11'.mono l79
   have hmd:=own2.done
   have hml:=own2.lacks
   refine qT 2 U (fo [zd,zi] mixed kr jn (λhs11 _=>?_))
   refine tf 0 U U (rh ty150 A79 U) (tf 1 U U (λ_ _ _=>gf U) (qB [2] U (tf 3 U U (rH 3 ty136 B79 U U) (tf 4 U U (rj 1 ty3 U U U) (tf 5 U U (λ_ _ _=>nR (R:=vV) (xs:=Pm.done) (bk:=b5) (z:=x) Ef ty4 U ob U (by simp[playP,hmd]) U) (tn 6 U (lK 4 (off:=x.toNat*1) (vs:=[.bool true]) ty4 U U U U (Nat.ble_eq_true_of_le (by simp only[List.length_map,zA,zB];omega)) U ⟨jn,bW kr (bY (L':=[zd,zi,zl,zr]++plB b5 b8 br (playDone Pm x) om Gf) (by rw[Ck zV];rfl) ?_)⟩)))))))
   have own3:yX h9 l.length b5 b8 br (playDone Pm x) om m3 Gf:=⟨by simpa[playDone]using hmd,hml,own2.map,own2.rev⟩
   have JB:∀{A:LH},Jst h9 [zi,(b8,.cells (Pm.lacks.map (qC .i64)).toArray 3 (0,0))] h9 ([zd,zi,zl,zr]++plB b5 b8 br (playDone Pm x) om A):=⟨kH _,λp hp=>by
    simp only[zE,kA,or_false]at hp
    rcases hp with rfl|rfl<;>simp[plB,playDone]⟩
   refine el (fo [zi,(b8,.cells (Pm.lacks.map (qC .i64)).toArray 3 (0,0))] mixed kr JB (λhs12 _=>?_))
   refine kh 0 hs12 JB U U kr U (rh ty150 A79 U) (kh 1 hs12 JB U U kr U (λ_ _ _=>gf U) (kh 2 hs12 JB U U kr U (λ_ _ _=>yR SG U) (kh 3 hs12 JB U U kr U (rH 4 ty31 B79 U U) (kh 4 hs12 JB U U kr U (rj 0 ty3 U U U) (kh 5 hs12 JB U U kr U (λ_ _ _=>nR (R:=jB) (xs:=Pm.lacks) (bk:=b8) (z:=x) eM ty3 U ob U (by simp[playP,hml]) U) ?_)))))
   have hlx:(Pm.lacks.map (qC .i64))[x.toNat*1]? = some (I (nthI Pm.lacks x)):=by
    rw[Nat.mul_one,kV,dC ob];rfl
   refine kh 6 hs12 JB U U kr U (λ_ _ hj=>vy ty3 U (hj.nth (i:=1) U) (by rw[iT];exact hlx)) (kh 7 hs12 JB U U kr U (λ_ _ _=>RT U) (bW kr ?_))
   have hin':∀y∈rest,0<=y/\y<(l.length:Int):=λy hy=>hin y (jC _ hy)
   have h59:h5.le h9:=jA h57 l79
   refine lu U (λc1=>?_) (λc1=>qT 2 U ?_)
   .rw[c1,cond_true]at hstep
    have hrl:=hgd.revokes.2
    refine sr (lA TJ U (pk 0 ty31 U U U (E6 eM U (qO 2 U ?_))))
    have hfin:∀(QD:e8)(oQ:Obj)(mQ:List (Int×Option Addr×Nat×Nat))(GQ:LH)(e':Env),QD=d.eX.foldl (playRevoke d) (playDone Pm x)->yX h9 l.length b5 b8 br QD oQ mQ GQ->QD.shelf=aJ l->QD.signed=signed->(∀k,(mgetD QD.revoked k []).length<=(mgetD P.revoked k []).length+d.eX.length) ->
      TT prog (roundFrame Vo 80) 114 [.inBlock 1] FR e' [] X' h9 ([zd,zi,zl,zr]++plB b5 b8 br QD oQ GQ):=by
     intro QD oQ mQ GQ e' hQ ownQ hQs hQg hQc
     refine fM (cm (L':=[zl,zr]++plB b5 b8 br QD oQ GQ) js (bY (L':=rdH Vo r1 lp1 (plB b5 b8 br QD oQ GQ++markB [])) (by simp[markB,rdH,zl,zr]) ?_))
     refine nx (QD,oQ,mQ,GQ,h9) _ _ ⟨?_,hQs,hQg,ownQ,h59,hin',λk=>?_⟩ lf
     .rw[←hfold,Wb,hstep,hQ]
     have h1':=hcnt k
     have h2':=hQc k
     simp only[zA]at h1'
     show(mgetD QD.revoked k []).length+16*rest.length<=320
     omega
    refine gx (ι:=e8×Obj×List (Int×Option Addr×Nat×Nat)×LH) (λi=>[]) (λi=>h9) (λi=>[zd,zi,zl,zr]++plB b5 b8 br i.1 i.2.1 i.2.2.2)
     (λi=>i.1=d.eX.foldl (playRevoke d) (playDone Pm x)/\yX h9 l.length b5 b8 br i.1 i.2.1 i.2.2.1 i.2.2.2/\i.1.shelf=aJ l/\i.1.signed=signed/\∀k,(mgetD i.1.revoked k []).length<=(mgetD P.revoked k []).length+d.eX.length) ?_ (λhx4=>?_)
    .rintro⟨QD,oQ,mQ,GQ⟩ ⟨q1,q2,q3,q4,q5⟩ e4
     exact hfin QD oQ mQ GQ _ q1 q2 q3 q4 q5
    refine jw (ι:=Nat×e8×Obj×List (Int×Option Addr×Nat×Nat)×LH) (λi=>[(7,Q b12),(9,Q bd),(91,.slice dr.uA d.eX.length dr.uz),(92,I (d.eX.length:Int)),(93,I (i.1:Int))]) (λi=>h9)
     (λi=>[zd,zi,zl,zr]++plB b5 b8 br i.2.1 i.2.2.1 i.2.2.2.2)
     (λi=>(d.eX.drop i.1).foldl (playRevoke d) i.2.1=d.eX.foldl (playRevoke d) (playDone Pm x)/\i.1<=d.eX.length/\yX h9 l.length b5 b8 br i.2.1 i.2.2.1 i.2.2.2.1 i.2.2.2.2/\i.2.1.shelf=aJ l/\i.2.1.signed=signed/\∀k,(mgetD i.2.1.revoked k []).length<=(mgetD P.revoked k []).length+i.1)
     (λi=>d.eX.length-i.1) (0,playDone Pm x,om,m3,Gf) rd (λw hw=>hw) ⟨rfl,xH _,own3,hPs.1,hPs.2.1,λk=>by show(mgetD Pm.revoked k []).length<=_;rw[hPs.2.2];omega⟩ ?_
    rintro⟨i,QD,oQ,mQ,GQ⟩ ⟨hfQ,hiQ,ownQ,hQs,hQg,hQc⟩ ag e5
    dsimp only at hfQ hiQ ownQ hQs hQg hQc
    show TT _ _ _ _ _ (upds e5 [(7,Q b12),(9,Q bd),(91,.slice dr.uA d.eX.length dr.uz),(92,I (d.eX.length:Int)),(93,I (i:Int))]) _ _ h9 ([zd,zi,zl,zr]++plB b5 b8 br QD oQ GQ)
    rcases xM i d.eX.length with hi|hi
    .have hgi:d.eX[i]? = some d.eX[i]:=List.getElem?_eq_getElem hi
     obtain⟨y,hy⟩:∃y,d.eX[i]=y:=⟨_,rfl⟩
     rw[hy]at hgi
     have hdrop:d.eX.drop i=y::d.eX.drop (i+1):=by rw[List.drop_eq_getElem_cons hi,hy]
     rw[hdrop,Wb]at hfQ
     obtain⟨gb,gc,G1,G2,hget,hgrow,hperm,hput⟩:=ownQ.rev.get y
     have hcy:=hQc y
     have hcP:=hcnt y
     refine sr (tO (decide_eq_true ob) U (qO 8 U (aH (tA (enc:=λy=>[I y]) (λ_ _ _ e=>e) eM ty3 (okd.eX.mono qJ l79).1 (nthZ hgi) (iC hgi) U U U (λq6 B6=>?_)))))
     refine eE ty3 B6 U (an (fo [zd] mixed kr jn (λhs16 _=>?_)))
     refine tf 0 U U (rh ty150 A79 U) (tf 1 U U (λ_ _ _=>gf U) (qB [2] U (tf 3 U U (rH 5 ty105 B79 U U) (tm 4 U (tf 5 U U (rh ty150 A79 U) (tf 6 U U (λ_ _ _=>gf U) (qB [7] U (tf 8 U U (rH 5 ty105 B79 U U) (qB [9,11] U (tf 12 U U (rj 0 ty3 U U U) ?_))))))))))
     refine nn 10 13 kr U U ?_ ?_
     .refine nq 6 (k:=y) Gm (fe mR) U ownQ.map (eG zv31) (show V3 _ (zSN) (none,0,0)from U) U U (λv hv=>?_)
      rw[hget]at hv
      obtain rfl:=hv
      refine⟨jn,(tn 13 U (bT (cells:=[I d.No]) eM ty3 zc3 U U kr (λbn=>⟨jn,?_⟩)))⟩
      let zn:Nat×Obj:=(bn,O [I d.No] 3)
      let z5:Nat×Obj:=(b5,O (QD.done.map zV) 4)
      refine tn 14 U (GD (List.Perm.append_left ([zn,zd,zi,zl,zr,z5,(b8,.cells (QD.lacks.map (qC .i64)).toArray 3 (0,0)),(br,oQ)]:LH) hperm) (eN W3 [zn,zd,zi,zl,zr,z5,(b8,.cells (QD.lacks.map (qC .i64)).toArray 3 (0,0)),(br,oQ)] G2 (λG=>[zn,zd,zi,zl,zr,z5,(b8,.cells (QD.lacks.map (qC .i64)).toArray 3 (0,0)),(br,oQ)]++(G2++G)) U (λ_=>U) eM ty3 zc3 U bytes3 hgrow U U (gV 0 U (show cY jB h9 [I d.No] [d.No]from⟨[I d.No],[],U,U,U,U⟩)) (by simp only[zA,zB]at *;omega) (by simp only[zA,zB]at *;omega) (λgb' gc' G1' hG'=>⟨jn,?_⟩)))
      exact R6
     refine bT (cells:=[I d.No]) eM ty3 zc3 U U kr (λbn=>⟨jn,?_⟩)
     let zn:Nat×Obj:=(bn,O [I d.No] 3)
     let z5:Nat×Obj:=(b5,O (QD.done.map zV) 4)
     refine tn 10 U (nq 7 (k:=y) Gm (fe mR) U ownQ.map (eG zv31) (show V3 _ (zSN) (none,0,0)from U) U U (λv hv=>?_))
     rw[hget]at hv
     obtain rfl:=hv
     refine⟨jn,(tn 14 U (GD (List.Perm.append_left ([zn,zd,zi,zl,zr,z5,(b8,.cells (QD.lacks.map (qC .i64)).toArray 3 (0,0)),(br,oQ)]:LH) hperm) (eN W3 [zn,zd,zi,zl,zr,z5,(b8,.cells (QD.lacks.map (qC .i64)).toArray 3 (0,0)),(br,oQ)] G2 (λG=>[zn,zd,zi,zl,zr,z5,(b8,.cells (QD.lacks.map (qC .i64)).toArray 3 (0,0)),(br,oQ)]++(G2++G)) U (λ_=>U) eM ty3 zc3 U bytes3 hgrow U U (gV 0 U (show cY jB h9 [I d.No] [d.No]from⟨[I d.No],[],U,U,U,U⟩)) (by simp only[zA,zB]at *;omega) (by simp only[zA,zB]at *;omega) (λgb' gc' G1' hG'=>⟨jn,?_⟩))))⟩
     exact R6
    refine sr (fO (decide_eq_false ob) U (qO 4 U ?_))
    have hie:i=d.eX.length:=by omega
    refine hx4 (QD,oQ,mQ,GQ) _ ⟨?_,ownQ,hQs,hQg,λk=>?_⟩ trivial
    .rw[hie,List.drop_length]at hfQ;exact hfQ
    have:=hQc k;show(mgetD QD.revoked k []).length<=_;omega
   rw[c1,cond_false]at hstep
   refine cm (L':=[zl,zr]++plB b5 b8 br (playDone Pm x) om Gf) js (bY (L':=rdH Vo r1 lp1 (plB b5 b8 br (playDone Pm x) om Gf++markB [])) (by simp[markB,rdH,zl,zr]) ?_)
   refine nx (playDone Pm x,om,m3,Gf,h9) _ _ ⟨?_,hPs.1,hPs.2.1,own3,h59,hin',λk=>?_⟩ lf
   .rw[←hfold,Wb,hstep]
   have:=hcnt k
   simp only[zA]at this
   show(mgetD Pm.revoked k []).length+16*rest.length<=320
   rw[hPs.2.2];omega
  rintro r1 ⟨P,om,m3,Gf,hh⟩ h7 ⟨hfold,hsh,hsgd,hown,h5h,hin,hcnt⟩ hh7 h57
  dsimp only at hfold hsh hsgd hown h5h hin hcnt hh7
  replace hown:=hown.mono hh7
  have hPl:P.signed.length=l.length:=by rw[hsgd];exact hsg
  refine qT 3 U (eE ty150 (A7.mono h57) U (an (Gr [] (plB b5 b8 br P om Gf) (markB [r1]) U hM (λh8 l8 hG=>?_))))
  have hP:P=cD l signed bq:=hfold
  have okP:=hown.lent (sq:=sr0) (sb:=cu) (sc:=ct) hln (hsh▸oks.mono h57) (hsgd▸hs4.mono qJ h57) l8 hG
  exact od [r1] [Q b11] func80 U rd ⟨⟨b11,0,none⟩,playR l.length sr0 cu ct b5 b8 br,U,hP▸okP,by
   rw[←hP,Hr hsh hsgd hown.done hown.lacks];exact A11.mono (jA h57 l8)⟩
 rintro⟨a,b,c,d,f,g,t⟩ e2 h2 L2 hI hμ
 dsimp only at hI hμ ⊢
 have hv:=hI.1
 refine Tg (plN a b c d f g t) ?_ ?_ (λi hi o ho=>?_)
 .clear hI hμ
  revert hv
  cases a<;>cases b<;>cases c<;>cases d<;>cases f<;>cases g<;>cases t<;>intro hv<;>first|exact absurd hv (by decide)|kernel_rfl
 .clear hI
  revert hv hμ
  cases a<;>cases b<;>cases c<;>cases d<;>cases f<;>cases g<;>cases t<;>intro hμ hv<;>first|exact absurd hv (by decide)|exact absurd rfl hμ|decide
 rcases Tu hi with⟨rfl,rfl⟩|⟨rfl,rfl⟩|⟨rfl,rfl⟩|⟨rfl,rfl⟩|⟨rfl,ha,rfl⟩|⟨rfl,rfl,rfl⟩|⟨rfl,rfl⟩|⟨rfl,rfl,rfl,rfl,rfl,rfl,rfl⟩
 .obtain rfl:=Option.some.inj (show some _=some o from ho)
  exact Xi (λ_ _ _ q=>⟨q.1,(true,b,c,d,f,g,t),by simp only[plM,cond_true,cond_false];omega,pmid (pmid (pmid (pmid (pmid (pmid (List.Perm.refl _)))))),q.2⟩) (Vx (hl.mono ao.aG l1) hI)
 .obtain rfl:=Option.some.inj (show some _=some o from ho)
  exact Xi (λ_ _ _ q=>⟨q.1,(a,true,c,d,f,g,t),by simp only[plM,cond_true,cond_false];omega,pmid (pmid (pmid (pmid (pmid (List.Perm.refl _))))),q.2⟩) (Vw hln hI)
 .obtain rfl:=Option.some.inj (show some _=some o from ho)
  exact Xi (λ_ _ _ q=>⟨q.1,(a,b,true,d,f,g,t),by simp only[plM,cond_true,cond_false];omega,pmid (pmid (pmid (pmid (List.Perm.refl _)))),q.2⟩) (Vv hln hI)
 .obtain rfl:=Option.some.inj (show some _=some o from ho)
  exact Xi (λ_ _ _ q=>⟨q.1,(a,b,c,true,f,g,t),by simp only[plM,cond_true,cond_false];omega,pmid (pmid (pmid (List.Perm.refl _))),q.2⟩) (Vu hI)
 .obtain rfl:=Option.some.inj (show some _=some o from ho)
  exact Xi (λ_ _ _ q=>⟨q.1,(a,b,c,d,f,true,t),by simp only[plM,cond_true,cond_false];omega,pmid (List.Perm.refl _),q.2⟩) (Va ha hI)
 .obtain rfl:=Option.some.inj (show some _=some o from ho)
  exact Xi (λ_ _ _ q=>⟨q.1,(a,b,c,d,f,true,true),by simp only[plM,cond_true,cond_false],List.Perm.refl _,q.2⟩) (U9 hI)
 .obtain rfl:=Option.some.inj (show some _=some o from ho)
  exact Xi (λ_ _ _ q=>⟨q.1,(a,b,c,d,true,g,t),by simp only[plM,cond_true,cond_false];omega,pmid (pmid (List.Perm.refl _)),q.2⟩) (U8 hI)
 exact absurd U hμ
theorem oY(h l fg ff signed cu ct bq)(hl:SlC ao.rp h fg ff l)(eT:SlC jB h cu ct signed)(hln:l.length<20):j4 prog 27 [.slice fg l.length ff,.slice cu signed.length ct,I bq] h (λv h'=>∃(rb0:Option Addr)(rc0:Nat),v=.tuple #[.slice rb0 ((bA l signed bq).1).length rc0,I ((bA l signed bq).2)]/\SlC jB h' rb0 rc0 ((bA l signed bq).1)):=by
 refine sT func27 U ntmps27 U λX hM hX hF=>?_
 have hs0:=@rfl _ (bA l signed bq)
 refine qT 9 U (aX call77 (pY _ _ _ _ hl) U (qO 7 U (aI hs0 U (λc1 hs1=>?_) (λc1 hs2=>?_))))
 .refine qT 6 U ?_
  have hs3:bA l signed bq=([],(bh l)):=hs1
  exact nretH [zSN,I (bh l)] (hs3▸⟨none,0,U,qG⟩)
 refine qT 6 U (aX call78 (rT _ _ _ _ _ _ _ hl eT) U (qO 2 U (gz 4 [23,24,25,26,27] 23 27 (!(jk bq)) U (λc2 hk1=>?_) (λe=>?_))))
 .exact bD (aX call79 (rE h bq) U (qO 2 U (hk1 _ U)))
 refine bp (aI hs2 U (λc3 hs4=>?_) (λc3 hs5=>?_))
 .refine qT 5 U ?_
  have hs6:bA l signed bq=([],1):=hs4
  exact nretH [zSN,I 1] (hs6▸⟨none,0,U,qG⟩)
 refine qT 6 U (aH (cw call80 (tT _ _ _ _ _ _ _ bq hl eT (by simpa using c1) (C9 ob) hln) U (λv1 h1 hle1 hp1=>?_)))
 obtain⟨q1,rr1,rfl,ok1,A1⟩:=hp1
 refine qL 9 [] U ?_
 refine lp2 l (λi w=>[(2,I bq),(6,.slice w.2.1 w.1.length w.2.2.1),(9,.pointer (some q1)),(32,.slice fg l.length ff),(33,I (l.length:Int)),(34,I (i:Int))]) (λ_=>h1) (λw=>w.2.2.2) (λi w=>cN jB 3 h1 w.1 w.2.1 w.2.2.1 w.2.2.2/\w.1.length<=0+i) (λs1 i w=>(bA.L1 l signed bq (bA.K1)) s1 i w.1) ([],none,0,[]) ((hl.mono ao.aG hle1).1.1) hs5 ⟨cN.nil,lo⟩ ?_ ?_
 .rintro i1 ⟨un,PH,PG,Nj⟩ i7 hs7 ⟨Kg,Sw⟩ e
  try dsimp only at Kg Sw
  refine qT 6 U (fF qJ ([]) Nj ([]) ap hM Kg (λh3 hle3 sl2=>?_))
  have hs8:bA l signed bq=(un,0):=hs7
  exact nretH [.slice PH un.length PG,I 0] (hs8▸⟨PH,PG,U,sl2⟩)
 rintro i1 ⟨un,PH,PG,Nj⟩ y1 rz1 hd1 gg dL i5 mF hs9 ⟨Kg,Sw⟩ hx1 ag1 e
 try dsimp only at Kg Sw
 refine sr (tO gg U (qO 9 U (aH (iR w7 ty54 (hl.mono ao.aG hle1).1 dL U U U (λ_ _ _ e=>e) (λq3 r2 A3 ok3=>eJ ty54 A3 U U (bJ zc54 (λb3=>ig (bG 0 ty54 U U U U U U (jf (L':=[(b3,O (ao.cells y1 r2) 54)]++(Nj)) U (qO 6 U (aX call81 (nA h1 (cD l signed bq) rr1 q1 (i1:Int) bq ok1 A1 (by first|exact J1 ob|(rw[wi];omega)) (E4 _ _ _)) U (qO 11 U (aI hs9 U (λc5 hs10=>?_) (λc5 hs11=>?_))))))))))))))
 .exact qK 4 [0] U (aH (bT (cells:=[I y1.No]) eM ty3 zc3 U U kr (λb4=>aH (eN W3 ([(b4,O [I y1.No] 3),(b3,O (ao.cells y1 r2) 54)]) ([]) (λG=>[(b4,O [I y1.No] 3),(b3,O (ao.cells y1 r2) 54)]++G) ap (λ_=>ap) eM ty3 zc3 U bytes3 Kg U U (gV 0 U (cE (y1.No) U U)) lo lo (λob2 oc2 G2 gr2=>qO 4 U (oi i1 U (qO 2 U (cm (L':=G2) js (ag1 ((un++[y1.No]),ob2,oc2,G2) hs10 ⟨gr2,lo⟩)))))))))
 exact bO (qT 2 U (oi i1 U (qO 2 U (cm (L':=Nj) js (ag1 (un,PH,PG,Nj) hs11 ⟨Kg,lo⟩)))))
theorem F0(h u qs qp)(hu:SlC W0 h qs qp u):Ret prog 82 [.slice qs u.length qp] h (.bool (ia u)):=by
 refine sT func82 U ntmps82 U λX hM hX hF=>?_
 have hs0:=@rfl _ (ia u)
 refine qT 6 U (aH (oC (λb1=>qL 9 [] U ?_)))
 refine lp2 u (λi w=>[(3,.map (some b1)),(7,.slice qs u.length qp),(8,I (u.length:Int)),(9,I (i:Int))]) (λ_=>h) (λw=>[(b1,w.2)]) (λi w=>kY (qC .i64) rX h w.2 w.1/\w.1.length<=0+i) (λs1 i w=>(ia.L1 (ia.K1)) s1 w.1) ([],.map #[] 0) hu.1.1 hs0 ⟨(kY.nil (enc:=(qC .i64)) (V:=rX) (h:=h)),lc⟩ ?_ ?_
 .rintro i1 ⟨aZ,jj⟩ i7 hs1 ⟨eY,oX⟩ e
  exact sr (an (nretP [.bool true] (cs hs1)))
 rintro i1 ⟨aZ,jj⟩ y1 rz1 hd1 gg dL i5 mF hs3 ⟨eY,oX⟩ hx1 ag1 e
 refine sr (tO gg U (qO 8 U (aH (iF WL JA ty223 hu.1 dL U U U (λq2 A2=>eJ ty223 A2 U U (bJ zc223 (λb4=>bG 0 ty223 U U U U U U (qL 7 [0] U (aH (nq 1 (k:=y1.Doc) Rh (fe mR) U eY (eG zv4) (show rX _ (.bool false) false from U) U U (λv2 hv2=>?_)))))))))))
 obtain rfl:=hv2
 refine bD (gz 6 [17,18,19,20,21,22,23] 17 23 (!(ce 0 4095 ([y1.Doc]))) U (λc1 hk1=>?_) (λe=>?_))
 .refine qL 2 [0] U (aH (bT (cells:=[I y1.Doc]) eM ty3 zc3 U U kr (λb5=>cv 0 U hM (λh2 hle2 hb2=>?_))))
  have sl2:SlC jB h2 (zAD b5) 1 ([y1.Doc]):=cY.slB0 (T:=3) (fz:=(0,0)) ((show cY jB h [I y1.Doc] ([y1.Doc])from⟨[I y1.Doc],[],rfl,rfl,rfl,rfl⟩).mono qJ hle2) hb2
  exact aX C0 (iA _ 0 4095 _ _ _ sl2) U (qO 2 U (sx (h:=h) hle2 hX lf (hk1 _ U)))
 refine bD (gz 6 [24,25,26,27,28,29,30] 24 30 (!(ce 0 15 ([y1.Kind]))) U (λc2 hk2=>?_) (λe=>?_))
 .refine qL 2 [0] U (aH (bT (cells:=[I y1.Kind]) eM ty3 zc3 U U kr (λb6=>cv 0 U hM (λh3 hle3 hb3=>?_))))
  have sl3:SlC jB h3 (zAD b6) 1 ([y1.Kind]):=cY.slB0 (T:=3) (fz:=(0,0)) ((show cY jB h [I y1.Kind] ([y1.Kind])from⟨[I y1.Kind],[],rfl,rfl,rfl,rfl⟩).mono qJ hle3) hb3
  exact aX C0 (iA _ 0 15 _ _ _ sl3) U (qO 2 U (sx (h:=h) hle3 hX lf (hk2 _ U)))
 refine bD (gz 6 [31,32,33,34,35,36,37] 31 37 (!(ce 0 1099511627776 ([y1.Value]))) U (λc3 hk3=>?_) (λe=>?_))
 .refine qL 2 [0] U (aH (bT (cells:=[I y1.Value]) eM ty3 zc3 U U kr (λb7=>cv 0 U hM (λh4 hle4 hb4=>?_))))
  have sl4:SlC jB h4 (zAD b7) 1 ([y1.Value]):=cY.slB0 (T:=3) (fz:=(0,0)) ((show cY jB h [I y1.Value] ([y1.Value])from⟨[I y1.Value],[],rfl,rfl,rfl,rfl⟩).mono qJ hle4) hb4
  exact aX C0 (iA _ 0 1099511627776 _ _ _ sl4) U (qO 2 U (sx (h:=h) hle4 hX lf (hk3 _ U)))
 refine bD (gz 8 [38,39,40,41,42,43,44,45,46] 38 46 (!(ce 0 1099511627775 ([y1.At,y1.dU]))) U (λc4 hk4=>?_) (λe=>?_))
 .refine qL 4 [0,0] U (aH (bT (cells:=[I y1.At,I y1.dU]) eM ty3 zc3 U U kr (λb8=>cv 0 U hM (λh5 hle5 hb5=>?_))))
  have sl5:SlC jB h5 (zAD b8) 2 ([y1.At,y1.dU]):=cY.slB0 (T:=3) (fz:=(0,0)) ((show cY jB h [I y1.At,I y1.dU] ([y1.At,y1.dU])from⟨[I y1.At],[I y1.dU],rfl,rfl,rfl,⟨[I y1.dU],[],rfl,rfl,rfl,rfl⟩⟩).mono qJ hle5) hb5
  exact aX C0 (iA _ 0 1099511627775 _ _ _ sl5) U (qO 2 U (sx (h:=h) hle5 hX lf (hk4 _ U)))
 refine bp (aI hs3 U (λc5 hs4=>?_) (λc5 hs5=>?_))
 .exact sr (an (nretP [.bool false] (cs hs4)))
 exact qK 5 [0] U (aH (mt 1 (k:=y1.Doc) (x:=true) Rh (fe mR) U eY U U U (λmo1 hm1=>qO 3 U (oi i1 U (qO 2 U (cm (L':=[(b1,mo1)]) js (ag1 ((mput aZ y1.Doc true),mo1) hs5 ⟨hm1,(by have:=nw aZ y1.Doc true;first|omega|(simp only[zB,zA]at *;omega))⟩)))))))
theorem tV(h l fg ff kind bq ah)(hl:SlC vQ h fg ff l)(hsz0:l.length<=2000000):j4 prog 84 [.slice fg l.length ff,I kind,I bq,I ah] h (λv h'=>∃(rb0:Option Addr)(rc0:Nat),v=.slice rb0 (aO l kind bq ah).length rc0/\SlC vQ h' rb0 rc0 (aO l kind bq ah)):=by
 refine sT func84 U ntmps84 U λX hM hX hF=>?_
 have hs0:=@rfl _ (aO l kind bq ah)
 refine qT 6 U (aH (oC (λb1=>qL 9 [] U ?_)))
 refine lp2 l (λi w=>[(0,.slice fg l.length ff),(1,I kind),(2,I bq),(3,I ah),(8,zSN),(9,.map (some b1)),(18,.slice fg l.length ff),(19,I (l.length:Int)),(20,I (i:Int))]) (λ_=>h) (λw=>[(b1,w.2)]) (λi w=>kY fB.enc (km vQ) h w.2 w.1/\w.1.length<=0+i) (λs1 i w=>(aO.L1 kind bq ah (aO.K1 l)) s1 w.1) ([],.map #[] 0) hl.1.1 hs0 ⟨(kY.nil (enc:=fB.enc) (V:=(km vQ)) (h:=h)),lc⟩ ?_ ?_
 .rintro i1 ⟨aZ,jj⟩ i7 hs1 ⟨eY,oX⟩ e
  try dsimp only at eY oX
  refine qK 7 [] U ?_
  refine lp2 l (λi w=>[(8,.slice w.2.1 w.1.length w.2.2.1),(9,.map (some b1)),(69,.slice fg l.length ff),(70,I (l.length:Int)),(71,I (i:Int))]) (λ_=>h) (λw=>[(b1,jj)]++(w.2.2.2)) (λi w=>cN vQ 73 h w.1 w.2.1 w.2.2.1 w.2.2.2/\w.1.length<=0+i) (λs2 i w=>(aO.L2 aZ (aO.K2)) s2 w.1) ([],none,0,[]) hl.1.1 hs1 ⟨cN.nil,lo⟩ ?_ ?_
  .rintro i2 ⟨mv,qm,ql,py⟩ CI hs2 ⟨rx,Ia⟩ e
   try dsimp only at rx Ia
   refine qT 5 U (fF XA ([(b1,jj)]) py ([]) ap hM rx (λh1 hle1 sl1=>?_))
   have hs3:aO l kind bq ah=mv:=hs2
   exact nretH [.slice qm mv.length ql] ⟨qm,ql,congrArg (λr:List Budget=>(.slice qm r.length ql:Value)) hs3.symm,(by rw[hs3];exact sl1)⟩
  rintro i2 ⟨mv,qm,ql,py⟩ y2 rz2 hd2 xw rS Fg Nf hs4 ⟨rx,Ia⟩ hx2 ag1 e
  try dsimp only at rx Ia
  refine sr (tO xw U (qO 8 U (aH (iF vL C1 ty73 hl.1 rS U U U (λq3 A3=>eJ ty73 A3 U U (bJ zc73 (λb4=>bG 0 ty73 U U U U U U (jf (L':=[(b4,O (vL y2) 73),(b1,jj)]++(py)) U (qO 2 U ?_)))))))))
  refine Eg [(8,.slice qm mv.length ql),(9,.map (some b1)),(16,Q b4),(69,.slice fg l.length ff),(70,I (l.length:Int)),(71,I (i2:Int)),(88,.bool ((!y2.mG)&&(decide ((mgetD aZ (fB.mk y2.Kind y2.eK) (Wt 0 0 0 0 0 0 0 false))=y2))))] (λe=>?_) (λhk1=>?_)
  rotate_left
  .let z2:Nat×Obj:=(b4,O (vL y2) 73)
   refine fo ([z2,(b1,jj)]) mixed kr jn (λim _=>?_)
   refine qB [0] U (tf 1 U U (rj 0 ty4 U U U) (qA [2,3] U ?_))
   refine fJ 78 U (λc1=>?_) (λc1=>?_)
   .refine qB [4,5] U (tf 6 U U (rj 0 ty3 U U U) (qB [7] U (tf 8 U U (rj 0 ty3 U U U) (tf 11 U U (λ_ _ hj=>lV ty73 U (hj.nth (i:=0) U) U) (tn 9 U (gv (cells:=[I y2.Kind,I y2.eK]) (places:=[(0,1),(1,1)]) O3 zc226 kr kr (⟨jn,tn 10 U (nq 1 (k:=(fB.mk y2.Kind y2.eK)) underlying224 Aw U eY (eG zv73) (show(km vQ) _ (.agg (xB [I 0,I 0,I 0,I 0,I 0,I 0,I 0,.bool false])) (Wt 0 0 0 0 0 0 0 false)from⟨_,U,U⟩) U U (λv2 hv2=>?_))⟩)))))))
    obtain⟨_,rfl,rfl⟩:=hv2
    exact⟨jn,(tf 12 U U (λ_ _ _=>JY (Oz (mgetD aZ (fB.mk y2.Kind y2.eK) (Wt 0 0 0 0 0 0 0 false)) y2) eqg73 U U) (qA [13] U (bW kr (hk1 _ ⟨U,U,U,U,U,U,(cb (show(decide ((mgetD aZ (fB.mk y2.Kind y2.eK) (Wt 0 0 0 0 0 0 0 false))=y2))=((!y2.mG)&&(decide ((mgetD aZ (fB.mk y2.Kind y2.eK) (Wt 0 0 0 0 0 0 0 false))=y2)))from by rw[c1]<;>rfl)),trivial⟩))))⟩
   exact tk 4 U U (qR 5 9 U (bW kr (hk1 _ ⟨U,U,U,U,U,U,(cb (show false=((!y2.mG)&&(decide ((mgetD aZ (fB.mk y2.Kind y2.eK) (Wt 0 0 0 0 0 0 0 false))=y2)))from by rw[c1]<;>rfl)),trivial⟩)))
  refine aI hs4 U (λc2 hs5=>?_) (λc2 hs6=>?_)
  .refine qT 2 U (du 0 ty73 U U U (aH (bT (cells:=[I y2.No,I y2.At,I y2.dU,I y2.Kind,I y2.eK,I y2.Count,I y2.Value,.bool y2.mG]) C1 ty73 zc73 U U kr (λb5=>?_))))
   let z1:Nat×Obj:=(b5,O [I y2.No,I y2.At,I y2.dU,I y2.Kind,I y2.eK,I y2.Count,I y2.Value,.bool y2.mG] 73)
   exact aH (eN Budget.dl ([z1,(b4,O (vL y2) 73),(b1,jj)]) ([]) (λG=>[z1,(b4,O (vL y2) 73),(b1,jj)]++G) ap (λ_=>ap) C1 ty73 zc73 U bytes73 rx U U (gV 0 U (cE y2 U U)) lo lo (λob1 oc1 G1 gr1=>qO 4 U (oi i2 U (qO 2 U (cm (L':=[(b1,jj)]++G1) js (ag1 ((mv++[y2]),ob1,oc1,G1) hs5 ⟨gr1,lo⟩))))))
  exact bO (qT 2 U (oi i2 U (qO 2 U (cm (L':=[(b1,jj)]++(py)) js (ag1 (mv,qm,ql,py) hs6 ⟨rx,lo⟩)))))
 rintro i1 ⟨aZ,jj⟩ y1 rz1 hd1 gg dL i5 mF hs7 ⟨eY,oX⟩ hx1 ag2 e
 try dsimp only at eY oX
 refine sr (tO gg U (qO 8 U (aH (iF vL C1 ty73 hl.1 dL U U U (λq4 A4=>eJ ty73 A4 U U (bJ zc73 (λb6=>bG 0 ty73 U U U U U U (qL 9 [0] U (gz 5 [28,29,30,31,32,33] 28 33 (decide (ah<y1.dU)) U (λc3 hk2=>?_) (λe=>?_))))))))))
 .exact qL 5 [0] U (hk2 _ U)
 refine bD (gz 10 [34,35,36,37,38,39,40,41,42,43,44] 34 44 ((y1.Kind != (-1))&&(y1.Kind != kind)) U (λc4 hk3=>?_) (λe=>?_))
 .refine qL 4 [0] U (jO 5 [38,39,40,41,42,43] 38 43 (y1.Kind != kind) U (λc5 hk4=>?_) (λe=>?_))
  .exact qL 5 [0] U (hk4 _ U)
  exact mU U (hk3 _ U)
 refine bp (aI hs7 U (λc6 hs8=>?_) (λc6 hs9=>?_))
 .exact kw U (bM (oi i1 U (qO 2 U (cm (L':=[(b1,jj)]) js (ag2 (aZ,jj) hs8 ⟨eY,lc⟩)))))
 refine qK 7 [0,0] U (aH (gv (cells:=[I y1.Kind,I y1.eK]) (places:=[(0,1),(1,1)]) O3 zc226 kr kr (bJ zc226 (λb7=>bG 0 ty226 U U U U U U (qO 4 U (du 0 ty226 U U U (aH (mL 2 (k:=(fB.mk y1.Kind y1.eK)) underlying224 Aw U eY (eG zv73) (show(km vQ) _ (.agg (xB [I 0,I 0,I 0,I 0,I 0,I 0,I 0,.bool false])) (Wt 0 0 0 0 0 0 0 false)from⟨_,U,U⟩) U U (λv3 hv3=>?_)))))))))
 obtain⟨_,rfl,rfl⟩:=hv3
 refine qO 3 U (bJ zc73 (λb8=>bG 0 ty73 U U U U U U (qO 7 U (gz 6 [58,59,60,61,62,63,64] 58 64 (decide ((mgetD aZ (fB.mk y1.Kind y1.eK) (Wt 0 0 0 0 0 0 0 false)).At<=y1.At)) U (λc7 hk5=>?_) (λe=>?_)))))
 .exact qL 6 [0,2] U (hk5 _ U)
 refine bp (aI hs9 U (λc8 hs10=>?_) (λc8 hs11=>?_))
 .exact bM (bD (du 1 ty226 U U U (du 2 ty73 U U U (aH (mt 3 (k:=(fB.mk y1.Kind y1.eK)) (x:=y1) underlying224 Aw U eY U U ⟨_,U,U⟩ (λmo1 hm1=>qO 3 U (oi i1 U (qO 2 U (cm (L':=[(b1,mo1)]) js (ag2 ((mput aZ (fB.mk y1.Kind y1.eK) y1),mo1) hs10 ⟨hm1,(by have:=nw aZ (fB.mk y1.Kind y1.eK) y1;first|omega|(simp only[zB,zA]at *;omega))⟩))))))))))
 exact bO (qT 2 U (oi i1 U (qO 2 U (cm (L':=[(b1,jj)]) js (ag2 (aZ,jj) hs11 ⟨eY,lc⟩)))))
theorem Pv(h:p:=by
  have hs7:=hs3.trans (congrArg (dn1++·) (bt ct3))
  refine qB [29,30] U (tf 31 U U (rj 0 ty3 U U U) ?_)
  have hx2:eb u ah bg at_=dn1++(y1.Value::(eb.L1 ah bg at_ (eb.K1) rz1)):=hs7
  refine tn 32 U (me ([z1]) A1_ ap (hy dn1 y1.Value _ _ _ _ hx2 hl1 hC1_ U) U U (λh5 A6 hle4 hC2=>?_) (λh6 A7 hle5 hS2=>?_) (λch2 h7 A8 hle6 hP2 e=>iN (oz [] (A:=A8) LV (List.sublist_append_right _ _) hP2)))
  .have hs8:eb u ah bg at_=(dn1++[y1.Value])++((eb.L1 ah bg at_ (eb.K1) rz1)):=hx2.trans ap
   exact⟨⟨hle4,λ_ hp=>List.Sublist.subset js hp⟩,sK (K2:=[z1]) hle4 (λ_ hp=>hp) (qA [33,34] U (bW kr (qT 4 U (oi i1 U (qO 2 U (cm (L':=A6) js (ag1 ((dn1++[y1.Value]),A6,h5) hs8 ⟨hC2,(hl1.t hle4)⟩)))))))⟩
  exact⟨⟨hle5,λ_ hp=>List.Sublist.subset js hp⟩,sK (K2:=[z1]) hle5 (λ_ hp=>hp) (qA [33,34] U (bW kr (mq U (dR (nU [] (A:=A7) LV U js (.inr hS2))))))⟩):p:=h
theorem Pu(h:p:=by
  refine fJ 42 U (λc5=>?_) (λc5=>?_)
  .have ct3:=c5
   exact Pv
  have ct4:=c5
  have hs9:=hs3.trans (congrArg (dn1++·) (bf ct4))
  exact tk 29 U U (qR 30 5 U (bW kr (qT 4 U (oi i1 U (qO 2 U (cm (L':=A1_) js (ag1 (dn1,A1_,hh1) hs9 ⟨hC1_,hl1⟩)))))))):p:=h
theorem D5(h u qs qp u_q ah known_q)(bg:Budget)(bg_q at_ at__q)(hu:SlC W0 h qs qp u)(au:At h u_q [.slice qs u.length qp])(aknown:At h known_q [I ah])(abg:At h bg_q (vL bg))(aat_:At h at__q [I at_])(hbp:bg.eK≠0):Itr prog (.func (.func 155) #[] (xB [.pointer (some u_q),.pointer (some known_q),.pointer (some bg_q),.pointer (some at__q)])) sE (eb u ah bg at_) h:=by
 refine si call155 ?_
 intro yf ya yb C Sp Pn h1 A db m1 m2 m3 hC hy
 refine jX LV U ntmps155 U λX hXM hX=>?_
 have hs0:eb u ah bg at_=[]++eb u ah bg at_:=rfl
 refine sr (eE ty32 (au.mono db) U (qL 3 [] U ?_))
 refine lp2 u (λi w=>[(0,.func yf ya yb),(2,.pointer (some known_q)),(3,.pointer (some bg_q)),(4,.pointer (some at__q)),(8,.slice qs u.length qp),(9,I (u.length:Int)),(10,I (i:Int))]) (λw=>w.2.2) (λw=>w.2.1) (λi w=>C w.1 w.2.2 w.2.1/\xJ h1 w.2.2) (λs1 i w=>w.1++(eb.L1 ah bg at_ (eb.K1)) s1) ([],A,h1) ((hu.mono Use.aG db).1.1) hs0 ⟨hC,lf⟩ ?_ ?_
 .rintro i1 ⟨dn1,A1_,hh1⟩ i7 hs1 ⟨hC1_,hl1⟩ e
  refine dR ?_
  have hs2:eb u ah bg at_=dn1:=hs1.trans (List.append_nil _)
  exact sj [] (A:=A1_) LV U (List.Sublist.refl _) (.inl (hs2▸hC1_))
 rintro i1 ⟨dn1,A1_,hh1⟩ y1 rz1 hd1 gg dL i5 mF hs3 ⟨hC1_,hl1⟩ hx1 ag1 e
 refine sr (tO gg U (qO 8 U (aH (iF WL JA ty223 (hu.mono Use.aG (db.t hl1)).1 dL U U U (λq2 A2=>eJ ty223 A2 U U (bJ zc223 (λb2=>bG 0 ty223 U U U U U U (jf (L':=[(b2,O (WL y1) 223)]++(A1_)) U (qO 2 U ?_)))))))))
 let z1:Nat×Obj:=(b2,O (WL y1) 223)
 refine fo ([z1]) mixed kr jn (λim _=>?_)
 refine qB [0] U (tf 1 U U (rj 0 ty3 U U U) (tf 2 U U (rh ty3 (aknown.mono (db.t hl1)) U) (qA [3,4] U ?_)))
 refine fJ 18 U (λc1=>?_) (λc1=>?_)
 .have c1p:=of_decide_eq_true c1
  refine qB [5] U (tf 6 U U (rH 3 ty3 (abg.mono (db.t hl1)) U U) (qA [7,8] U ?_))
  refine fJ 22 U (λc2=>?_) (λc2=>?_)
  .refine qD 9 9 U (tf 18 U U (rj 0 ty3 U U U) (qB [19] U (tf 20 U U (rH 4 ty3 (abg.mono (db.t hl1)) U U) (tf 21 U U (λ_ _ _=>E1 U U ob) (tf 22 U U (rh ty3 (aat_.mono (db.t hl1)) U) (qB [23] U (tf 24 U U (rH 4 ty3 (abg.mono (db.t hl1)) U U) (tf 25 U U (λ_ _ _=>E1 U U ob) (qA [26] U (tf 27 U U (λ_ _ _=>pj U (cb (show((vB .i64 (y1.At.tdiv bg.eK))==(vB .i64 (at_.tdiv bg.eK)))=((decide (y1.dU<=ah)&&((bg.Kind==(-1))||(bg.Kind==y1.Kind)))&&((vB .i64 (y1.At.tdiv bg.eK))==(vB .i64 (at_.tdiv bg.eK))))from by first|(rw[c1];rw[c2];rfl)|(rw[c2];rfl)|simp[c1,c2]))) (tm 28 U ?_)))))))))))
   refine fJ 42 U (λc3=>?_) (λc3=>?_)
   .have ct1:=c3
    have hs4:=hs3.trans (congrArg (dn1++·) (bt ct1))
    refine qB [29,30] U (tf 31 U U (rj 0 ty3 U U U) ?_)
    have hx1:eb u ah bg at_=dn1++(y1.Value::(eb.L1 ah bg at_ (eb.K1) rz1)):=hs4
    refine tn 32 U (me ([z1]) A1_ ap (hy dn1 y1.Value _ _ _ _ hx1 hl1 hC1_ U) U U (λh2 A3 hle1 hC1=>?_) (λh3 A4 hle2 hS1=>?_) (λch1 h4 A5 hle3 hP1 e=>iN (oz [] (A:=A5) LV (List.sublist_append_right _ _) hP1)))
    .have hs5:eb u ah bg at_=(dn1++[y1.Value])++((eb.L1 ah bg at_ (eb.K1) rz1)):=hx1.trans ap
     exact⟨⟨hle1,λ_ hp=>List.Sublist.subset js hp⟩,sK (K2:=[z1]) hle1 (λ_ hp=>hp) (qA [33,34] U (bW kr (qT 4 U (oi i1 U (qO 2 U (cm (L':=A3) js (ag1 ((dn1++[y1.Value]),A3,h2) hs5 ⟨hC1,(hl1.t hle1)⟩)))))))⟩
    exact⟨⟨hle2,λ_ hp=>List.Sublist.subset js hp⟩,sK (K2:=[z1]) hle2 (λ_ hp=>hp) (qA [33,34] U (bW kr (mq U (dR (nU [] (A:=A4) LV U js (.inr hS1))))))⟩
   have ct2:=c3
   have hs6:=hs3.trans (congrArg (dn1++·) (bf ct2))
   exact tk 29 U U (qR 30 5 U (bW kr (qT 4 U (oi i1 U (qO 2 U (cm (L':=A1_) js (ag1 (dn1,A1_,hh1) hs6 ⟨hC1_,hl1⟩)))))))
  refine qB [9] U (tf 10 U U (rH 3 ty3 (abg.mono (db.t hl1)) U U) (qB [11] U (tf 12 U U (rj 0 ty3 U U U) (qR 13 4 U ?_))))
  refine fJ 30 U (λc4=>?_) (λc4=>?_)
  .refine qB [17] U (tf 18 U U (rj 0 ty3 U U U) (qB [19] U (tf 20 U U (rH 4 ty3 (abg.mono (db.t hl1)) U U) (tf 21 U U (λ_ _ _=>E1 U U ob) (tf 22 U U (rh ty3 (aat_.mono (db.t hl1)) U) (qB [23] U (tf 24 U U (rH 4 ty3 (abg.mono (db.t hl1)) U U) (tf 25 U U (λ_ _ _=>E1 U U ob) (qA [26] U (tf 27 U U (λ_ _ _=>pj U (cb (show((vB .i64 (y1.At.tdiv bg.eK))==(vB .i64 (at_.tdiv bg.eK)))=((decide (y1.dU<=ah)&&((bg.Kind==(-1))||(bg.Kind==y1.Kind)))&&((vB .i64 (y1.At.tdiv bg.eK))==(vB .i64 (at_.tdiv bg.eK))))from by first|(rw[c1];rw[c2];rw[c4];rfl)|(rw[c4];rfl)|simp[c1,c2,c4]))) (tm 28 U ?_)))))))))))
   exact Pu
  refine qR 17 10 U (tf 27 U U (λ_ _ _=>pj U (cb (show false=((decide (y1.dU<=ah)&&((bg.Kind==(-1))||(bg.Kind==y1.Kind)))&&((vB .i64 (y1.At.tdiv bg.eK))==(vB .i64 (at_.tdiv bg.eK))))from by first|(rw[c1];rw[c2];rw[c4];rfl)|(rw[c4];rfl)|simp[c1,c2,c4]))) (tm 28 U ?_))
  exact Pu
 have c1p:=of_decide_eq_false c1
 refine qR 5 22 U (tf 27 U U (λ_ _ _=>pj U (cb (show false=((decide (y1.dU<=ah)&&((bg.Kind==(-1))||(bg.Kind==y1.Kind)))&&((vB .i64 (y1.At.tdiv bg.eK))==(vB .i64 (at_.tdiv bg.eK))))from by first|(rw[c1];rfl)|(rw[c1];rfl)|simp[c1]))) (tm 28 U ?_))
 refine fJ 42 U (λc7=>?_) (λc7=>?_)
 .have ct3:=c7
  exact Pv
 have ct8:=c7
 have hs15:=hs3.trans (congrArg (dn1++·) (bf ct8))
 exact tk 29 U U (qR 30 5 U (bW kr (qT 4 U (oi i1 U (qO 2 U (cm (L':=A1_) js (ag1 (dn1,A1_,hh1) hs15 ⟨hC1_,hl1⟩)))))))
instance kI155:CtI 155:=⟨_,@D5⟩
theorem F1(h)(LI:Budget)(u qs qp bq ah)(hu:SlC W0 h qs qp u)(hbp:LI.eK≠0):j4 prog 85 [.agg (vL LI).toArray,.slice qs u.length qp,I bq,I ah] h (λv h'=>∃(rv0:Value),v=rv0/\Itr prog rv0 sE (rF LI u bq ah) h'):=by
 refine sT func85 U ntmps85 U λX hM hX hF=>?_
 generalize hz:(rF LI u bq ah)=z;have hs:=hz.symm
 exact W
theorem tG(h l fg ff u qs qp kind value cB ah)(hl:SlC vQ h fg ff l)(hu:SlC W0 h qs qp u)(hsz:l.length<=2000000):Ret prog 28 [.slice fg l.length ff,.slice qs u.length qp,I kind,I value,I cB,I ah] h (.tuple #[I ((aN l u kind value cB ah).1),.bool ((aN l u kind value cB ah).2.1),I ((aN l u kind value cB ah).2.2)]):=by
 refine cV Gl U ntmps28 U λX hM hX=>?_
 have hs0:=@rfl _ (aN l u kind value cB ah)
 refine qT 10 U (aX call75 (ss _ _ _ _ hl) U (qO 7 U (aI hs0 U (λc1 hs1=>?_) (λc1 hs2=>?_))))
 .refine qT 7 U ?_
  have hs3:aN l u kind value cB ah=(0,false,(bI l)):=hs1
  exact vU [I 0,.bool false,I (bI l)] Gl U hX rd (congrArg (λr:(Int×Bool×Int)=>(.tuple #[I r.1,.bool r.2.1,I r.2.2]:Value)) hs3.symm)
 refine qK 8 [] U (aI hs2 U (λc2 hs4=>?_) (λc2 hs5=>?_))
 .have c2p:=of_decide_eq_true c2
  refine qT 6 U ?_
  have hs6:aN l u kind value cB ah=(0,false,2):=hs4
  exact vU [I 0,.bool false,I 2] Gl U hX rd (congrArg (λr:(Int×Bool×Int)=>(.tuple #[I r.1,.bool r.2.1,I r.2.2]:Value)) hs6.symm)
 have c2p:=of_decide_eq_false c2
 refine qT 5 U (aX call82 (F0 _ _ _ _ hu) U (qO 2 U (aI hs5 U (λc3 hs7=>?_) (λc3 hs8=>?_))))
 .refine qT 6 U ?_
  have hs9:aN l u kind value cB ah=(0,false,180):=hs7
  exact vU [I 0,.bool false,I 180] Gl U hX rd (congrArg (λr:(Int×Bool×Int)=>(.tuple #[I r.1,.bool r.2.1,I r.2.2]:Value)) hs9.symm)
 refine qT 5 U (aH (bT (cells:=[I kind]) eM ty3 zc3 U U kr (λb1=>cv 0 U hM (λh1 hle1 hb1=>?_))))
 have sl1:SlC jB h1 (zAD b1) 1 ([kind]):=cY.slB0 (T:=3) (fz:=(0,0)) ((show cY jB h [I kind] ([kind])from⟨[I kind],[],rfl,rfl,rfl,rfl⟩).mono qJ hle1) hb1
 refine aX C0 (iA _ 0 15 _ _ _ sl1) U (qO 2 U (gz 5 [36,37,38,39,40,41] 36 41 (!(ce 0 1099511627776 ([value]))) U (λc4 hk1=>?_) (λe=>?_)))
 .refine bD (aH (bT (cells:=[I value]) eM ty3 zc3 U U kr (λb2=>cv 0 U hM (λh2 hle2 hb2=>?_))))
  have sl2:SlC jB h2 (zAD b2) 1 ([value]):=cY.slB0 (T:=3) (fz:=(0,0)) ((show cY jB h1 [I value] ([value])from⟨[I value],[],rfl,rfl,rfl,rfl⟩).mono qJ hle2) hb2
  exact aX C0 (iA _ 0 1099511627776 _ _ _ sl2) U (qO 2 U (sx (h:=h1) hle2 hX hle1 (hk1 _ U)))
 refine bD (gz 6 [42,43,44,45,46,47,48] 42 48 (!(ce 0 1099511627775 ([cB,ah]))) U (λc5 hk2=>?_) (λe=>?_))
 .refine qO 2 U (aH (bT (cells:=[I cB,I ah]) eM ty3 zc3 U U kr (λb3=>cv 0 U hM (λh3 hle3 hb3=>?_))))
  have sl3:SlC jB h3 (zAD b3) 2 ([cB,ah]):=cY.slB0 (T:=3) (fz:=(0,0)) ((show cY jB h1 [I cB,I ah] ([cB,ah])from⟨[I cB],[I ah],rfl,rfl,rfl,⟨[I ah],[],rfl,rfl,rfl,rfl⟩⟩).mono qJ hle3) hb3
  exact aX C0 (iA _ 0 1099511627775 _ _ _ sl3) U (qO 2 U (sx (h:=h1) hle3 hX hle1 (hk2 _ U)))
 refine bp (aI hs8 U (λc6 hs10=>?_) (λc6 hs11=>?_))
 .refine qT 6 U ?_
  have hs12:aN l u kind value cB ah=(0,false,1):=hs10
  exact vU [I 0,.bool false,I 1] Gl U hX rd (congrArg (λr:(Int×Bool×Int)=>(.tuple #[I r.1,.bool r.2.1,I r.2.2]:Value)) hs12.symm)
 refine qT 8 U (aH (cw call84 (tV _ _ _ _ kind cB ah (hl.mono XA hle1) ob) U (λv1 h4 hle4 hp1=>?_)))
 obtain⟨rb1,rc1,rfl,sl4⟩:=hp1
 refine qL 3 [] U (dR (bY (L':=markB []) ap ?_))
 refine uI (ι:=Nat×List Nat×HF) (λi=>[]) (λi=>marks i.2.1) (λi=>i.2.2) (λi=>markB i.2.1) (λi=>i.1<=(aO l kind cB ah).length/\aN l u kind value cB ah=((aN.K1))/\xJ h4 i.2.2) ?_ (λhx1=>?_)
 .rintro⟨i1,rs1,hh1⟩ ⟨i7,hs13,hl1⟩ e
  refine qT 6 U ?_
  have hs14:aN l u kind value cB ah=((-1),true,0):=hs13
  exact bY (L':=([])++markB rs1) ap (uH rs1 [I (-1),.bool true,I 0] Gl U hX rd (congrArg (λr:(Int×Bool×Int)=>(.tuple #[I r.1,.bool r.2.1,I r.2.2]:Value)) hs14.symm))
 refine zO (ι:=Nat×List Nat×HF×List Budget) (λi=>[(1,.slice qs u.length qp),(3,I value),(4,I cB),(5,I ah),(53,.slice rb1 ((aO l kind cB ah).length) rc1),(54,I ((aO l kind cB ah).length:Int)),(55,I (i.1:Int))]) (λi=>marks i.2.1) (λi=>i.2.2.1) (λi=>markB i.2.1) (λi=>(aO l kind cB ah).drop i.1=i.2.2.2/\i.1<=(aO l kind cB ah).length/\aN l u kind value cB ah=((aN.L1 u value cB ah (aN.K1)) i.2.2.2)/\xJ h4 i.2.2.1) (λi=>i.2.2.2.length) (0,[],h4,(aO l kind cB ah)) U rd sw ⟨U,xH _,hs11,lf⟩ ?_
 rintro⟨i1,rs1,hh1,s1⟩ ⟨hd1,i7,hs15,hl1⟩ ag1 e
 rcases s1 with _|⟨y1,rz1⟩
 .have mE:=nZ hd1
  exact sr (fO mE U (qO 4 U (hx1 (i1,rs1,hh1) _ ⟨i7,hs15,hl1⟩ trivial)))
 have gg:=tU hd1
 have dL:=sn hd1
 have i5:=il hd1
 have mF:=sl4.1.1
 refine sr (tO gg U (qO 8 U (aH (iF vL C1 ty73 (sl4.mono XA hl1).1 dL U U U (λq2 A2=>eJ ty73 A2 U U (bJ zc73 (λb7=>bG 0 ty73 U U U U U U (qO 4 U (bJ zc3 (λb8=>bJ zc3 (λb9=>cU 1 ty3 U U U U U U (cU 0 ty3 U U U U U U (qO 4 U (du 2 ty73 U U U (qO 3 U (aH (cw call85 (F1 _ y1 _ _ _ cB ah (hu.mono Use.aG ((hle1.t hle4).t hl1)) (Mv (by simpa using c1) (gP hd1))) U (λv3 h6 hle6 hp3=>?_))))))))))))))))))
 obtain⟨_,rfl,mo2⟩:=hp3
 refine qO 2 U ?_
 let z1:Nat×Obj:=(b7,O (vL y1) 73)
 refine bY (L':=([(b9,O [I value] 3),(b8,O [I 1] 3),z1])++markB rs1) ap ?_
 refine j7 (it:=v3) (xs:=(rF y1 u cB ah)) (ι:=Int×Int×HF) rs1 (λi=>i.2.2) (λi=>[(b9,O [I i.1] 3),(b8,O [I i.2.1] 3),z1]) (λs i=>aN l u kind value cB ah=((aN.L3 (λzg3_b9_0 zg3_b8_0=>(bif(decide (y1.Count<zg3_b8_0)||decide (y1.Value<zg3_b9_0))then(y1.No,false,0)else(aN.L1 u value cB ah (aN.K1) rz1)))) s i.1 i.2.1)/\xJ h6 i.2.2) (λ_=>False) (λ_=>False) 0 (λ_ _ _=>False) (value,1,h6) Gl U mo2 U AG (λ_ _ _ _ _ hq=>hq) U (show[(b9,O [I value] 3),(b8,O [I 1] 3),z1]=_ from U) ⟨hs15,lf⟩ ?_ ?_ ?_ ?_ ?_
 .rintro l3 dm3 lp3 y3 rz3 vs3 ⟨yA,Bs,hh3⟩ hr3 X hFR3 ⟨hs17,hl3⟩ hl03 hlr3 hv3 hX hXM hlp3 nx3 rt3 ex3 pn3
  obtain rfl:=hv3
  exact bY (L':=[(l3,.loop lp3),(dm3,.deferred (some [])),(b9,O [I yA] 3),(b8,O [I Bs] 3),z1]++(markB rs1)) ap (qT 3 U (kg 0 U hlp3 (qK 5 [3] U (cU 3 ty3 U U U U U U (qL 5 [2] U (cU 2 ty3 U U U U U U (qO 2 U (bY (L':=rdH l3 dm3 lp3 (([(b9,O [I (vB .i64 (yA+y3))] 3),(b8,O [I (vB .i64 (Bs+1))] 3),z1])++markB rs1)) ap (nx3 ((vB .i64 (yA+y3)),(vB .i64 (Bs+1)),hr3) _ _ ⟨hs17,(hl3.t hlr3)⟩ lf)))))))))
 .rintro dm3 ⟨yA,Bs,hh3⟩ hn3 ⟨hs18,hl3⟩ hln3 hl03
  refine bY (L':=[(b9,O [I yA] 3),(b8,O [I Bs] 3),z1]++(markB (dm3::rs1))) ap (qK 8 [1,2] U (gz 5 [75,76,77,78,79,80] 75 80 (decide (y1.Value<yA)) U (λc7 hk3=>?_) (λe=>?_)))
  .exact qL 5 [0,2] U (hk3 _ U)
  refine bp (aI hs18 U (λc8 hs19=>?_) (λc8 hs20=>?_))
  .refine qK 8 [2] U ?_
   have hs21:aN l u kind value cB ah=(y1.No,false,0):=hs19
   exact bY (L':=([(b9,O [I yA] 3),(b8,O [I Bs] 3),z1])++markB (dm3::rs1)) ap (uH (dm3::rs1) [I y1.No,.bool false,I 0] Gl U hX rd (congrArg (λr:(Int×Bool×Int)=>(.tuple #[I r.1,.bool r.2.1,I r.2.2]:Value)) hs21.symm))
  exact bO (qT 2 U (oi i1 U (qO 2 U (cm (L':=markB (dm3::rs1)) js (ag1 ((i1+1),(dm3::rs1),hn3,rz1) _ (Nat.lt_succ_self _) ⟨ll hd1,il hd1,hs20,(((hl1.t hle6).t hl3).t hln3)⟩ rd)))))
 .exact xf
 .exact xf
 exact xf
theorem mj(h s pM pD)(f:(ao->Bool))(f_v)(hs:SlC ao.rp h pM pD s)(hf:∀(h':HF)(ef:ao)(BN:ox),xJ h h'->ef∈s->ao.ok h' ef BN->qw prog f_v [.agg (ao.cells ef BN).toArray] h' [] (.bool (f ef))):Ret prog 86 [.slice pM s.length pD,f_v] h (I (ai s f)):=by
 refine sT func86 U ntmps86 U λX hM hX hF=>?_
 have hs0:=@rfl _ (ai s f)
 refine qK 11 [] U ?_
 refine lp0 s (λi=>[(0,.slice pM s.length pD),(1,f_v),(7,I (s.length:Int)),(8,I (i:Int))]) ([]) (λs1 i=>(ai.L1 f (ai.K1)) s1 i) hs.1.1 hs0 ?_ ?_
 .rintro i1 i7 hs1 e
  exact sr (an (nretP [I (-1)] (ci hs1)))
 rintro i1 y1 rz1 hd1 gg dL i5 mF hs3 hx1 ag1 e
 refine sr (tO gg U (qO 16 U (aH (iR w7 ty54 hs.1 dL U U U (λ_ _ _ e=>e) (λq2 r2 A2 ok2=>eJ ty54 A2 U U (aH (j8 (v:=.bool (f y1)) [] (List.nil_sublist _) (hf h y1 r2 lf (gP hd1) ok2) U U (bp (aI hs3 U (λc2 hs4=>?_) (λc2 hs5=>?_))))))))))
 .exact sr (qO 3 U (nretP [I (i1:Int)] (ci hs4)))
 exact bO (qT 2 U (oi i1 U (qO 2 U (ag1 hs5))))
instance kC86:Ct 86:=⟨_,call86,@mj⟩
theorem EH(s:List ao)(f:ao->Bool):ai s f<(s.length:Int):=by
 have key:∀(l:List ao)(i:Nat),ai.L1 f ai.K1 l i<((i+l.length:Nat):Int):=by
  intro l
  induction l with
  |nil=>intro i;simp only[ai.L1,ai.K1];omega
  |cons y l ih=>
   intro i
   simp only[ai.L1,Bool.cond_eq_ite,zA]
   split
   .omega
   have:=ih (i+1);omega
 have:=key s 0
 simpa[ai]using this
theorem FS(h d AW v0 v0_q)(hd:ao.ok h d AW)(av0:At h v0_q [I v0]):Ret prog 87 [.agg (ao.cells d AW).toArray,.pointer (some v0_q)] h (.bool (bL d v0)):=by
 refine sT func87 U ntmps87 U λX hM hX hF=>?_
 generalize hz:(bL d v0)=z;have hs:=hz.symm
 exact W
theorem BV(h cK gH ba bq ah)(mS:Register.ok h cK gH):Ku prog 29 [.agg (kC cK gH).toArray,I ba,I bq,I ah] h errV (nT cK ba bq ah) (λ(r:bU)v h'=>∃(rr0:sI),v=.agg (bU.cells r rr0).toArray/\bU.ok h' r rr0):=by
 refine cV func29 U ntmps29 U λX hM hX=>?_
 have hs0:=@rfl _ (nT cK ba bq ah)
 refine sr (eL (λb1=>eL (λb2=>bJ zc96 (λb3=>qL 5 [2] U (cv 1 U hM (λh1 hle1 hb1=>aH (gB U U (aX call86 (mj _ _ _ _ (λef=>bL ef ba) (.func (.func 87) #[] #[Q b2]) (mS.cj.mono ao.aG hle1) (λh' ef BN db Sf a0_o=>ip call87 (FS h' ef BN ba ⟨b2,0,none⟩ a0_o ((dM hb1).mono db)))) U (qO 8 U (gz 5 [16,17,18,19,20,21] 16 21 (decide ((min bq ah)<0)) U (λc1 hk1=>?_) (λe=>?_)))))))))))
 .exact bD (bD (aH (eu (T5 U U) (qO 2 U (hk1 _ U)))))
 refine bD (gz 5 [22,23,24,25,26,27] 22 27 (decide (1099511627776<=(max bq ah))) U (λc2 hk2=>?_) (λe=>?_))
 .exact bD (bD (aH (eu (T6 U U) (qO 2 U (hk2 _ U)))))
 refine bp (aI hs0 U (λc3 hs1=>?_) (λc3 hs2=>?_))
 .exact bM (aH (eu (F8 Rn U U) (aH (F4 U Bk (λe=>iN (L7 [] func29 hs1))))))
 refine qT 2 U ?_
 let z1:Nat×Obj:=(b1,O (kC cK gH) 30)
 refine fo ([z1]) mixed kr jn (λim _=>?_)
 refine tf 0 U U (λ_ _ hj=>lV ty30 U (hj.nth (i:=0) U) U) (qB [1] U (tf 2 U U (rj 0 ty27 U U U) (tm 3 U ?_)))
 have ho1:0<=((ai cK.cj (λef=>bL ef ba)):Int)/\((ai cK.cj (λef=>bL ef ba)):Int)<((cK.cj).length:Int):=(by have hq:=EH cK.cj (λef=>bL ef ba);simp only[decide_eq_true_eq,decide_eq_false_iff_not,zC,kD,qF,Bool.not_eq_false',Bool.and_eq_false_iff,Bool.or_eq_false_iff,beq_iff_eq,beq_eq_false_iff_ne,bne_iff_ne,bne_eq_false_iff_eq,vA,zA,zB,List.length_drop]at *;omega)
 refine oB 4 im jn w7 ty54 (mS.cj.mono ao.aG hle1).1 ho1 (dC ho1) U U U U kr (λq1 cs1 A1 ln1 rr1=>?_)
 obtain⟨r1,rfl,ok1⟩:=rr1
 refine tf 5 U U (λ_ _ hj=>oE ty54 (A1.mono hj.1) U U) (qA [6,7] U (tn 8 U (gv (cells:=[.slice gH.yM cK.dD.length gH.yL,.slice gH.yK cK.fR.length gH.yJ,.slice gH.wx cK.ej.length gH.wv,.slice gH.uD cK.dN.length gH.uC,.slice gH.pb cK.Versions.length gH.o9,.slice gH.LE cK.cj.length gH.LD,.slice gH.wz cK.dy.length gH.wy,I ((nthI cK.cj (ai cK.cj (λef=>bL ef ba))).No),I ((nthI cK.cj (ai cK.cj (λef=>bL ef ba))).At),I ((nthI cK.cj (ai cK.cj (λef=>bL ef ba))).Kind),I ((nthI cK.cj (ai cK.cj (λef=>bL ef ba))).Value),I ((nthI cK.cj (ai cK.cj (λef=>bL ef ba))).From),I ((nthI cK.cj (ai cK.cj (λef=>bL ef ba))).mT),.slice r1.Bv ((nthI cK.cj (ai cK.cj (λef=>bL ef ba))).kU.length) r1.Bu,.slice r1.uA ((nthI cK.cj (ai cK.cj (λef=>bL ef ba))).eX.length) r1.uz,.slice r1.Eb ((nthI cK.cj (ai cK.cj (λef=>bL ef ba))).fm.length) r1.Ea,Y ((nthI cK.cj (ai cK.cj (λef=>bL ef ba))).Text 0),Y ((nthI cK.cj (ai cK.cj (λef=>bL ef ba))).Text 1),Y ((nthI cK.cj (ai cK.cj (λef=>bL ef ba))).Text 2),Y ((nthI cK.cj (ai cK.cj (λef=>bL ef ba))).Text 3),Y ((nthI cK.cj (ai cK.cj (λef=>bL ef ba))).Text 4),Y ((nthI cK.cj (ai cK.cj (λef=>bL ef ba))).Text 5),Y ((nthI cK.cj (ai cK.cj (λef=>bL ef ba))).Text 6),Y ((nthI cK.cj (ai cK.cj (λef=>bL ef ba))).Text 7),Y ((nthI cK.cj (ai cK.cj (λef=>bL ef ba))).Text 8),Y ((nthI cK.cj (ai cK.cj (λef=>bL ef ba))).Text 9),Y ((nthI cK.cj (ai cK.cj (λef=>bL ef ba))).Text 10),Y ((nthI cK.cj (ai cK.cj (λef=>bL ef ba))).Text 11),Y ((nthI cK.cj (ai cK.cj (λef=>bL ef ba))).Text 12),Y ((nthI cK.cj (ai cK.cj (λef=>bL ef ba))).Text 13),Y ((nthI cK.cj (ai cK.cj (λef=>bL ef ba))).Text 14),Y ((nthI cK.cj (ai cK.cj (λef=>bL ef ba))).Text 15),Y ((nthI cK.cj (ai cK.cj (λef=>bL ef ba))).Text 16),Y ((nthI cK.cj (ai cK.cj (λef=>bL ef ba))).Text 17),Y ((nthI cK.cj (ai cK.cj (λef=>bL ef ba))).Text 18),Y ((nthI cK.cj (ai cK.cj (λef=>bL ef ba))).Text 19),Y ((nthI cK.cj (ai cK.cj (λef=>bL ef ba))).Text 20),Y ((nthI cK.cj (ai cK.cj (λef=>bL ef ba))).Text 21),Y ((nthI cK.cj (ai cK.cj (λef=>bL ef ba))).Text 22),Y ((nthI cK.cj (ai cK.cj (λef=>bL ef ba))).Text 23),Y ((nthI cK.cj (ai cK.cj (λef=>bL ef ba))).Text 24),Y ((nthI cK.cj (ai cK.cj (λef=>bL ef ba))).Text 25),Y ((nthI cK.cj (ai cK.cj (λef=>bL ef ba))).Text 26),Y ((nthI cK.cj (ai cK.cj (λef=>bL ef ba))).Text 27),Y ((nthI cK.cj (ai cK.cj (λef=>bL ef ba))).Text 28),Y ((nthI cK.cj (ai cK.cj (λef=>bL ef ba))).Text 29),Y ((nthI cK.cj (ai cK.cj (λef=>bL ef ba))).Text 30),Y ((nthI cK.cj (ai cK.cj (λef=>bL ef ba))).Text 31),I bq,I ah]) (places:=[(0,7),(7,41),(48,1),(49,1)]) underlying96 zc96 kr kr ?_)))
 refine⟨jn,(tn 9 U (uN 0 ty96 U U U U U U (⟨jn,(bW kr ?_)⟩)))⟩
 have hs3:nT cK ba bq ah=(Except.ok (bU.mk cK (nthI cK.cj (ai cK.cj (λef=>bL ef ba))) bq ah)):=hs2
 exact dR (LY [] [.agg (bU.cells (bU.mk cK (nthI cK.cj (ai cK.cj (λef=>bL ef ba))) bq ah) (sI.mk gH r1)).toArray] func29 U ⟨⟨0,_,_,_,_,U,U,.inl ⟨ty96,U⟩⟩,trivial⟩ hs3 ⟨(sI.mk gH r1),U,(show bU.ok h1 (bU.mk cK (nthI cK.cj (ai cK.cj (λef=>bL ef ba))) bq ah) (sI.mk gH r1)from⟨(mS.mono hle1),ok1⟩)⟩)
theorem xq(h d AW v0 QX v0_q)(hd:ao.ok h d AW)(hv0:bU.ok h v0 QX)(av0:At h v0_q (bU.cells v0 QX)):Ret prog 88 [.agg (ao.cells d AW).toArray,.pointer (some v0_q)] h (.bool (cA d v0)):=by
 refine sT func88 U ntmps88 U λX hM hX hF=>?_
 have hs0:=@rfl _ (cA d v0)
 exact sr (eL (λb1=>qL 8 [0] U (lM (j:=7) ty3 av0 U U (qO 3 U (nretP [.bool (d.No==v0.ba.No)] (cs hs0))))))
theorem rK(h s pM pD)(f:(ao->Bool))(f_v)(hs:SlC ao.rp h pM pD s)(hf:∀(h':HF)(ef:ao)(BN:ox),xJ h h'->ef∈s->ao.ok h' ef BN->qw prog f_v [.agg (ao.cells ef BN).toArray] h' [] (.bool (f ef))):Ret prog 156 [.slice pM s.length pD,f_v] h (.bool (kx s f)):=by
 refine sT func156 U ntmps156 U λX hM hX hF=>?_
 generalize hz:(kx s f)=z;have hs:=hz.symm
 exact W
theorem BA(h s pM pD v)(hs:SlC jB h pM pD s):Ret prog 127 [.slice pM s.length pD,I v] h (I (jp s v)):=by
 refine sT func127 U ntmps127 U λX hM hX hF=>?_
 generalize hz:(jp s v)=z;have hs:=hz.symm
 have HA:=h0 [0,1,7] 8 (λs1 i=>(jp.L1 v (jp.K1)) s1 i)
 exact W
instance kC127:Ct 127:=⟨_,call127,@BA⟩
theorem nN(h s pM pD v)(hs:SlC jB h pM pD s):Ret prog 63 [.slice pM s.length pD,I v] h (.bool (fS s v)):=by
 refine sT func63 U ntmps63 U λX hM hX hF=>?_
 generalize hz:(fS s v)=z;have hs:=hz.symm
 exact W
instance kC63:Ct 63:=⟨_,call63,@nN⟩
theorem EM(h l fg ff signed cu ct no dw)(hl:SlC ao.rp h fg ff l)(eT:SlC jB h cu ct signed)(hln:l.length<20):Ret prog 158 [.slice fg l.length ff,.slice cu signed.length ct,I no,I dw] h (.tuple #[I ((gL l signed no dw).1),I ((gL l signed no dw).2.1),I ((gL l signed no dw).2.2)]):=by
 refine sT func158 U ntmps158 U λX hM hX hF=>?_
 have hs0:=@rfl _ (gL l signed no dw)
 refine qT 10 U (aX call77 (pY _ _ _ _ hl) U (qO 7 U (aI hs0 U (λc1 hs1=>?_) (λc1 hs2=>?_))))
 .refine qT 7 U ?_
  have hs3:gL l signed no dw=(0,0,(bh l)):=hs1
  exact nretP [I 0,I 0,I (bh l)] (hs3▸U)
 refine qT 6 U (aX call78 (rT _ _ _ _ _ _ _ hl eT) U (qO 2 U (gz 4 [24,25,26,27,28] 24 28 (!(jk dw)) U (λc2 hk1=>?_) (λe=>?_))))
 .exact bD (aX call79 (rE h dw) U (qO 2 U (hk1 _ U)))
 refine bp (aI hs2 U (λc3 hs4=>?_) (λc3 hs5=>?_))
 .refine qT 6 U ?_
  have hs6:gL l signed no dw=(0,0,1):=hs4
  exact nretP [I 0,I 0,I 1] (hs6▸U)
 refine qT 6 U (aH (cw call80 (tT _ _ _ _ _ _ _ dw hl eT (by simpa using c1) (C9 ob) hln) U (λv1 h1 hle1 hp1=>?_)))
 obtain⟨q1,rr1,rfl,ok1,A1⟩:=hp1
 refine qO 5 U (aH (eu (gf U) (qL 2 [] U (lM (j:=1) ty43 A1 U U (bD ?_)))))
 obtain⟨o1,hb1,hm1⟩:=ok1.shelf.at_
 refine aH (vW (k:=no) Cf (fe mR) hb1 hm1 (eG zv3) (show tq _ (I 0) 0 from U) U U (λv2 hv1=>?_))
 obtain rfl:=hv1
 refine qO 12 U (aI hs5 U (λc4 hs7=>?_) (λc4 hs8=>?_))
 .refine qT 6 U ?_
  have hs9:gL l signed no dw=(0,0,1):=hs7
  exact nretP [I 0,I 0,I 1] (hs9▸U)
 refine qT 6 U (aX call81 (nA h1 (cD l signed dw) rr1 q1 (mgetD ((cD l signed dw).shelf.at_) no 0) dw ok1 A1 (by first|exact J1 ob|(rw[wi];omega)) (E4 _ _ _)) U (qO 14 U ?_))
 have hs10:gL l signed no dw=((cX (cD l signed dw) (mgetD ((cD l signed dw).shelf.at_) no 0) dw).1,(cX (cD l signed dw) (mgetD ((cD l signed dw).shelf.at_) no 0) dw).2,0):=hs8
 exact nretP [I ((cX (cD l signed dw) (mgetD ((cD l signed dw).shelf.at_) no 0) dw).1),I ((cX (cD l signed dw) (mgetD ((cD l signed dw).shelf.at_) no 0) dw).2),I 0] (hs10▸U)
theorem wU(h d AW c pK c_q signed cu ct signed_q)(hd:ao.ok h d AW)(hc:bU.ok h c pK)(ac:At h c_q (bU.cells c pK))(eT:SlC jB h cu ct signed)(asigned:At h signed_q [.slice cu signed.length ct])(hsm:smR c.Register)(hco:jo c)(hln:c.Register.cj.length<20)(hsg:cC c.Register.cj signed=true)(hdm:d∈c.Register.cj):Ret prog 157 [.agg (ao.cells d AW).toArray,.pointer (some c_q),.pointer (some signed_q)] h (.bool (lO d c signed)):=by
 refine sT func157 U ntmps157 U λX hM hX hF=>?_
 have hs0:=@rfl _ (lO d c signed)
 refine sr (eL (λb1=>qL 9 [0] U (lM (j:=7) ty3 ac U U (aX call63 (nN _ _ _ _ c.ba.No hd.eX) U (qO 2 U (aI hs0 U (λc1 hs1=>?_) (λc1 hs2=>?_)))))))
 .exact sr (an (nretP [.bool false] (cs hs1)))
 refine qK 5 [] U (lM (j:=5) ty27 ac U U (eE ty31 asigned U (qL 3 [0] U (lM (j:=48) ty3 ac U U (aX call158 (EM _ _ _ _ _ _ _ d.No c.at_ hc.Register.cj eT ob) U (qO 11 U (aH (pG Ee (iY h ((gL c.Register.cj signed d.No c.at_).2.2)) (ni (QH hco hsg hdm)) U (qO 6 U (jO 3 [32,33,34,35] 32 35 ((gL c.Register.cj signed d.No c.at_).1 != 4) U (λc2 hk1=>?_) (λe=>?_)))))))))))
 .exact bD (qO 2 U (hk1 _ U))
 exact an (nretP [.bool (((gL c.Register.cj signed d.No c.at_).1 != 1)&&((gL c.Register.cj signed d.No c.at_).1 != 4))] (cs hs2))
theorem rg(h c pK signed cu ct)(hc:bU.ok h c pK)(eT:SlC jB h cu ct signed)(hsm:smR c.Register)(hco:jo c)(hln:c.Register.cj.length<20)(hsg:cC c.Register.cj signed=true):Ret prog 89 [.agg (bU.cells c pK).toArray,.slice cu signed.length ct] h (.bool (fV c signed)):=by
 refine sT func89 U ntmps89 U λX hM hX hF=>?_
 have hs0:=@rfl _ (fV c signed)
 exact sr (eL (λb1=>eL (λb2=>qL 7 [1] U (cv 1 U hM (λh1 hle1 hb1=>cv 0 U hM (λh2 hle2 hb2=>aH (gB U U (aX call156 (rK _ _ _ _ (λef=>lO ef c signed) (.func (.func 157) #[] #[Q b1,Q b2]) (hc.Register.cj.mono ao.aG (hle1.t hle2)) (λh' ef BN db Sf a0_o=>ip call157 (wU h' ef BN c pK ⟨b1,0,none⟩ signed cu ct ⟨b2,0,none⟩ a0_o ((hc.mono (hle1.t hle2)).mono db) (((dM hb1).mono hle2).mono db) ((eT.mono qJ (hle1.t hle2)).mono qJ db) ((dM hb2).mono db) hsm hco ob hsg Sf))) U (an (nretP [.bool (kx c.Register.cj (λef=>lO ef c signed))] (cs hs0)))))))))))
theorem zj(h c pK signed cu ct)(hc:bU.ok h c pK)(eT:SlC jB h cu ct signed)(hsm:smR c.Register)(hco:jo c)(hln:c.Register.cj.length<20)(hsg:cC c.Register.cj signed=true):Ret prog 31 [.agg (bU.cells c pK).toArray,.slice cu signed.length ct] h (.bool (hY c signed)):=by
 refine sT func31 U ntmps31 U λX hM hX hF=>?_
 have hs0:=@rfl _ (hY c signed)
 refine sr (eL (λb1=>qL 7 [0] U (cv 0 U hM (λh1 hle1 hb1=>aH (gB U U (aX call86 (mj _ _ _ _ (λef=>cA ef c) (.func (.func 88) #[] #[Q b1]) (hc.Register.cj.mono ao.aG hle1) (λh' ef BN db Sf a0_o=>ip call88 (xq h' ef BN c pK ⟨b1,0,none⟩ a0_o ((hc.mono hle1).mono db) ((dM hb1).mono db)))) U (qO 3 U ?_)))))))
 refine Eg [(4,.bool (((decide (c.at_<c.ba.At)||decide (c.ba.mT<=c.at_))||(decide (0<=(nthI signed (ai c.Register.cj (λef=>cA ef c))))&&decide ((nthI signed (ai c.Register.cj (λef=>cA ef c)))<=c.at_)))||(fV c signed)))] (λe=>?_) (λhk1=>?_)
 rotate_left
 .refine fo ([]) mixed kr jn (λim _=>?_)
  refine qB [0] U (tf 1 U U (rH 48 ty3 (dM hb1) U U) (qB [2,3] U (tf 4 U U (rH 8 ty3 (dM hb1) U U) (qA [5,6] U ?_))))
  refine fJ 17 U (λc1=>?_) (λc1=>?_)
  .have c1p:=of_decide_eq_true c1
   exact tk 7 U U (qR 8 28 U (bW kr (hk1 _ ⟨(cb (show true=(((decide (c.at_<c.ba.At)||decide (c.ba.mT<=c.at_))||(decide (0<=(nthI signed (ai c.Register.cj (λef=>cA ef c))))&&decide ((nthI signed (ai c.Register.cj (λef=>cA ef c)))<=c.at_)))||(fV c signed))from by rw[c1]<;>rfl)),trivial⟩)))
  have c1p:=of_decide_eq_false c1
  refine qB [7] U (tf 8 U U (rH 48 ty3 (dM hb1) U U) (qB [9,10] U (tf 11 U U (rH 12 ty3 (dM hb1) U U) (qR 12 3 U ?_))))
  refine fJ 25 U (λc2=>?_) (λc2=>?_)
  .have c2p:=of_decide_eq_true c2
   exact tk 15 U U (qR 16 20 U (bW kr (hk1 _ ⟨(cb (show true=(((decide (c.at_<c.ba.At)||decide (c.ba.mT<=c.at_))||(decide (0<=(nthI signed (ai c.Register.cj (λef=>cA ef c))))&&decide ((nthI signed (ai c.Register.cj (λef=>cA ef c)))<=c.at_)))||(fV c signed))from by rw[c1,c2]<;>rfl)),trivial⟩)))
  have c2p:=of_decide_eq_false c2
  refine qA [15,16] U ?_
  have ho1:0<=((ai c.Register.cj (λef=>cA ef c)):Int)/\((ai c.Register.cj (λef=>cA ef c)):Int)<((signed).length:Int):=(Kn hco hsg)
  refine kZ 17 (enc:=λy=>[I y]) im jn ei eM ty3 (eT.mono qJ hle1).1 ho1 (dC ho1) U U U U kr (λq1 A1=>tf 18 U U (rh ty3 A1 U) (qA [19,20] U ?_))
  refine fJ 31 U (λc3=>?_) (λc3=>?_)
  .have c3p:=of_decide_eq_true c3
   refine qA [21,22] U ?_
   have ho2:0<=((ai c.Register.cj (λef=>cA ef c)):Int)/\((ai c.Register.cj (λef=>cA ef c)):Int)<((signed).length:Int):=(Kn hco hsg)
   refine kZ 23 (enc:=λy=>[I y]) im jn ei eM ty3 (eT.mono qJ hle1).1 ho2 (dC ho2) U U U U kr (λq2 A2=>tf 24 U U (rh ty3 A2 U) (qB [25] U (tf 26 U U (rH 48 ty3 (dM hb1) U U) (qR 27 4 U ?_))))
   refine fJ 41 U (λc4=>?_) (λc4=>?_)
   .have c4p:=of_decide_eq_true c4
    exact tk 31 U U (qR 32 4 U (bW kr (hk1 _ ⟨(cb (show true=(((decide (c.at_<c.ba.At)||decide (c.ba.mT<=c.at_))||(decide (0<=(nthI signed (ai c.Register.cj (λef=>cA ef c))))&&decide ((nthI signed (ai c.Register.cj (λef=>cA ef c)))<=c.at_)))||(fV c signed))from by rw[c1,c2,c3,c4]<;>rfl)),trivial⟩)))
   have c4p:=of_decide_eq_false c4
   exact tf 31 U U (λ_ _ hj=>oE ty96 ((dM hb1).mono hj.1) U U) (tm 32 U (tn 33 U (gu call89 (rg _ _ _ _ _ _ (hc.mono hle1) (eT.mono qJ hle1) ob ob ob ob) U (⟨jn,(qA [34,35] U (bW kr (hk1 _ ⟨(cb (show(fV c signed)=(((decide (c.at_<c.ba.At)||decide (c.ba.mT<=c.at_))||(decide (0<=(nthI signed (ai c.Register.cj (λef=>cA ef c))))&&decide ((nthI signed (ai c.Register.cj (λef=>cA ef c)))<=c.at_)))||(fV c signed))from by rw[c1,c2,c3,c4]<;>rfl)),trivial⟩)))⟩))))
  have c3p:=of_decide_eq_false c3
  exact tk 21 U U (qR 22 9 U (tf 31 U U (λ_ _ hj=>oE ty96 ((dM hb1).mono hj.1) U U) (tm 32 U (tn 33 U (gu call89 (rg _ _ _ _ _ _ (hc.mono hle1) (eT.mono qJ hle1) ob ob ob ob) U (⟨jn,(qA [34,35] U (bW kr (hk1 _ ⟨(cb (show(fV c signed)=(((decide (c.at_<c.ba.At)||decide (c.ba.mT<=c.at_))||(decide (0<=(nthI signed (ai c.Register.cj (λef=>cA ef c))))&&decide ((nthI signed (ai c.Register.cj (λef=>cA ef c)))<=c.at_)))||(fV c signed))from by rw[c1,c2,c3]<;>rfl)),trivial⟩)))⟩))))))
 exact nretP [.bool (((decide (c.at_<c.ba.At)||decide (c.ba.mT<=c.at_))||(decide (0<=(nthI signed (ai c.Register.cj (λef=>cA ef c))))&&decide ((nthI signed (ai c.Register.cj (λef=>cA ef c)))<=c.at_)))||(fV c signed))] (cs hs0)
theorem EC(h c pK c_q signed cu ct signed_q)(hc:bU.ok h c pK)(ac:At h c_q (bU.cells c pK))(eT:SlC jB h cu ct signed)(asigned:At h signed_q [.slice cu signed.length ct])(hsm:smR c.Register)(hco:jo c)(hln:c.Register.cj.length<20)(hsg:cC c.Register.cj signed=true):Ret prog 30 [.pointer (some c_q),.pointer (some signed_q)] h (.bool (BX c signed)):=by
 refine sT func30 U ntmps30 U λX hM hX hF=>?_
 have hs0:=@rfl _ (BX c signed)
 exact sr (qO 4 U (eJ ty96 ac U U (eE ty31 asigned U (aX call31 (zj _ _ _ _ _ _ hc eT ob ob ob ob) U (an (nretP [.bool (hY c signed)] (cs hs0)))))))
theorem yx(h gp v0 tX tW v0_q)(hv0:SlC jB h tX tW v0)(av0:At h v0_q [.slice tX v0.length tW]):Ret prog 90 [I gp,.pointer (some v0_q)] h (.bool (mu gp v0)):=by
 refine sT func90 U ntmps90 U λX hM hX hF=>?_
 generalize hz:(mu gp v0)=z;have hs:=hz.symm
 exact W
theorem AD(h c pK signed cu ct)(hc:bU.ok h c pK)(eT:SlC jB h cu ct signed)(hsm:smR c.Register)(hco:jo c)(hln:c.Register.cj.length<20)(hsg:cC c.Register.cj signed=true):Ret prog 33 [.agg (bU.cells c pK).toArray,.slice cu signed.length ct] h (.bool (iZ c signed)):=by
 refine sT func33 U ntmps33 U λX hM hX hF=>?_
 have hs0:=@rfl _ (iZ c signed)
 refine sr (eL (λb1=>qL 10 [0,0] U (aH (cw call27 (oY _ _ _ _ _ _ _ c.at_ hc.Register.cj eT ob) U (λv1 h1 hle1 hp1=>?_)))))
 obtain⟨rb1,rc1,rfl,sl1⟩:=hp1
 exact bD (qO 2 U (bJ zc31 (λb2=>cU 0 ty31 U U U U U U (qO 5 U (aH (pG Ee (iY h1 ((bA c.Register.cj signed c.at_).2)) (ni (Jk hco hsg)) U (qL 6 [1] U (cv 0 U hM (λh2 hle2 hb1=>aH (gB U U (aX call40 (mK _ _ _ _ (λef=>mu ef ((bA c.Register.cj signed c.at_).1)) (.func (.func 90) #[] #[Q b2]) (hc.ba.fm.mono qJ (hle1.t hle2)) (λh' ef db=>ip call90 (yx h' ef ((bA c.Register.cj signed c.at_).1) rb1 rc1 ⟨b2,0,none⟩  ((sl1.mono qJ hle2).mono qJ db) ((dM hb1).mono db)))) U (an (nretP [.bool (et c.ba.fm (λef=>mu ef ((bA c.Register.cj signed c.at_).1)))] (cs hs0))))))))))))))
theorem EB(h c pK c_q signed cu ct signed_q)(hc:bU.ok h c pK)(ac:At h c_q (bU.cells c pK))(eT:SlC jB h cu ct signed)(asigned:At h signed_q [.slice cu signed.length ct])(hsm:smR c.Register)(hco:jo c)(hln:c.Register.cj.length<20)(hsg:cC c.Register.cj signed=true):Ret prog 32 [.pointer (some c_q),.pointer (some signed_q)] h (.bool (BW c signed)):=by
 refine sT func32 U ntmps32 U λX hM hX hF=>?_
 have hs0:=@rfl _ (BW c signed)
 exact sr (qO 4 U (eJ ty96 ac U U (eE ty31 asigned U (aX call33 (AD _ _ _ _ _ _ hc eT ob ob ob ob) U (an (nretP [.bool (iZ c signed)] (cs hs0)))))))
end
variable {κ:Type}
section
open Go.Proofs Go.Proofs.Tryz
theorem rM.length{κ α : Type}{enc:κ->Value}{V:HF->Value->α->Prop}{h:HF}:∀{es:List MapEntry}{m:List (κ×α)},rM enc V h es m->es.length=m.length
 |[],[],_=>rfl
 |_::_,(_,_)::_,⟨_,_,c⟩=>by simp[rM.length c]
 |[],_::_,x=>x.elim
 |_::_,[],x=>x.elim
theorem Cu[Inhabited κ](ks:List κ)(is:List Nat)(hn:is.Nodup)(hlt:∀i∈is,i<ks.length)(hall:∀i,i<ks.length->i∈is):(is.map λi=>(ks[i]?).getD default).Perm ks:=by
 have h1:is.Perm (qE ks.length):=(List.perm_ext_iff_of_nodup hn List.nodup_range).2 (λi=>by rw[List.mem_range];exact⟨hlt i,hall i⟩)
 refine(h1.map _).trans (List.Perm.of_eq ?_)
 apply List.ext_getElem (by simp)
 grind
theorem Ap[Inhabited κ](ks:List κ)(is:List Nat)(hn:is.Nodup)(hlt:∀i∈is,i<ks.length):∃rest,((is.map λi=>(ks[i]?).getD default)++rest).Perm ks:=by
 let js:=(qE ks.length).filter λi=>!is.contains i
 have hd:(is++js).Nodup:=by
  rw[WH]
  refine⟨hn,List.nodup_range.filter _,λa ha b hb e=>?_⟩
  subst e
  simp[js]at hb
  exact hb.2 ha
 refine⟨js.map λi=>(ks[i]?).getD default,?_⟩
 rw[←Wo]
 grind [js,Cu]
theorem yu(h:HF)(m:List (Int×aD))(bk:Nat)(q:Addr)(hm:vO (qC .i64) (km aD.rp) h bk m)(aq:At h q [.map (some bk)]):
  IL prog (.func (.func 266) #[] #[.pointer (some q)]) (λk _ vs=>vs=[(qC .i64) k]) (λxs=>xs.Perm (m.map (·.1))) h:=by
 refine⟨266,[.pointer (some q)],rfl,call266,?_⟩
 intro yf ya yb C Sp Pn h1 A db m1 m2 m3 hC hy
 obtain⟨o,hb,m0,hpm,hnd0,es,clock,rfl,hE,hP,hcl⟩:=hm.mono (km.mono aD.aG) db
 have hnod:(es.map (·.born)).Nodup:=hP.imp (λh=>Nat.ne_of_lt h)
 have hkeys:=hE.keys
 have hlen:es.length=(m0.map (·.1)).length:=by rw[hE.length];simp
 let ks:=m0.map (·.1)
 let kf:Nat->Int:=λi=>(ks[i]?).getD default
 let bf:Nat->Nat:=λi=>(es[i]?.map (·.born)).getD 0
 have hkey:∀(i:Nat)(en:MapEntry),es[i]? = some en->en.key=(qC .i64) (kf i):=by
  intro i en hi
  have h2:(es.map (·.key))[i]? = some en.key:=by simp[hi]
  rw[hkeys]at h2
  simp only[kV]at h2
  simp only[kf,ks,kV]
  cases hq:m0[i]? with
  |none=>rw[hq]at h2;simp at h2
  |some p=>rw[hq]at h2;simp at h2;simp[←h2]
 refine np (args:=[.func yf ya yb]) (cap:=[.pointer (some q)]) call266 ?_
 refine jX Rg rfl ntmps266 rfl λX hXM hX=>?_
 refine el (bM (eE ty264 (aq.mono db) rfl (aH (KI Rf hb rfl (λit=>bp ?_)))))
 refine gx (ι:=List Nat×LH×HF) (λi=>[]) (λi=>i.2.2) (λi=>[(it,Obj.mapIter (some bk) clock (xB (i.1.map bf)) clock)]++i.2.1) (λi=>(i.1.Nodup/\(∀j∈i.1,j<es.length)/\(∀j,j<es.length->j∈i.1))/\C (i.1.map kf) i.2.2 i.2.1) ?_ (λhx=>?_)
 .rintro⟨js,A1,h2⟩ ⟨⟨hn,hl,ha⟩,hC1⟩ e
  exact zU Rg (λa _ w _=>nr rfl a w) (λw hw=>hw.sub (List.sublist_append_right _ _)) (.inl ⟨rfl,.inl ⟨_,(Cu ks js hn (λi hi=>by rw[←hlen];exact hl i hi) (λi hi=>ha i (by rw[hlen];exact hi))).trans (hpm.map _),hC1⟩⟩)
 refine jw (ι:=List Nat×LH×HF) (λi=>[(0,.func yf ya yb),(5,.pointer (some ⟨it,0,none⟩))]) (λi=>i.2.2) (λi=>[(it,Obj.mapIter (some bk) clock (xB (i.1.map bf)) clock)]++i.2.1) (λi=>i.1.Nodup/\(∀j∈i.1,j<es.length)/\C (i.1.map kf) i.2.2 i.2.1/\xJ h1 i.2.2) (λi=>es.length-i.1.length) ([],A,h1) ⟨rfl,rfl,trivial⟩ (λw hw=>hw) ⟨V6,λ_ hj=>(kA hj).elim,hC,kH _⟩ ?_
 rintro⟨js,A1,h2⟩ ⟨hn,hl,hC1,hle2⟩ ag e
 dsimp only at hn hl hC1 hle2
 have hlp:=AB hnod js hl
 show TT _ _ _ _ _ (upds e [(0,.func yf ya yb),(5,.pointer (some ⟨it,0,none⟩))]) _ _ h2 ([(it,Obj.mapIter (some bk) clock (xB (js.map bf)) clock)]++A1)
 refine el (bM (aH (NW 0 rfl (hle2 _ _ hb) (λx hx=>hcl x (by simpa using hx)) (vE _) rfl (λh0=>?_) (λen hen=>?_))))
 .refine qj rfl rfl (bp (el (oe rfl (kw rfl ?_))))
  exact hx (js,A1,h2) _ ⟨⟨hn,hl,hlp.1 h0⟩,hC1⟩ trivial
 .obtain⟨i,hi,hni⟩:=hlp.2 en hen
  have hil:i<es.length:=by
   rcases xM i es.length with h3|h3
   .exact h3
   .simp[List.getElem?_eq_none h3]at hi
  have hmem:en∈es.toArray.toList:=by simpa using xE hi
  have hn':(js++[i]).Nodup:=by
   rw[WH];exact⟨hn,by simp,λa ha b hb' e'=>by simp at hb';subst hb';subst e';exact hni ha⟩
  have hl':∀j∈js++[i],j<es.length:=λj hj=>by
   rcases zG.1 hj with h3|h3
   .exact hl j h3
   .simp at h3;subst h3;exact hil
  obtain⟨rest,hrest⟩:=Ap ks (js++[i]) hn' (λj hj=>by rw[←hlen];exact hl' j hj)
  have xw:js.length+1<=es.length:=by
   have h9:=hrest.length_eq
   rw[vA,List.length_map,vA]at h9
   have h10:ks.length=es.length:=hlen.symm
   simp only[zA,zB]at h9
   omega
  have hrest':(js.map kf++kf i::rest).Perm (m.map (·.1)):=by
   rw[Wo,vD]at hrest
   exact List.Perm.trans hrest (hpm.map _)
  obtain⟨ekey,evl,eborn⟩:=en
  have hk':ekey=(qC .i64) (kf i):=hkey i _ hi
  subst hk'
  refine qj rfl rfl (bp ?_)
  refine el (mq rfl (bO (mZ ?_)))
  refine el (bM ?_)
  refine aH (eu (KS 0 rfl (hle2 _ _ hb) hmem (by simpa using hnod) rfl) ?_)
  refine qj rfl rfl (ig (bp ?_))
  refine el (bM (bD (bD ?_)))
  refine aH (me [(it,Obj.mapIter (some bk) clock ((xB (js.map bf)).push eborn) clock)] A1 rfl (hy (js.map kf) (kf i) [(qC .i64) (kf i)] h2 A1 ⟨rest,hrest'⟩ hle2 hC1 rfl) rfl rfl (λh3 B hle3 hC3=>?_) (λh3 B hle3 hS3=>?_) (λch h3 B hle3 hP3 e'=>?_))
  .refine nv rfl (bp (oe rfl (bO (fM ?_))))
   have hpush:((xB (js.map bf)).push eborn)=xB ((js++[i]).map bf):=by simp[bf,hi]
   rw[hpush]
   refine ag (js++[i],B,h3) _ (by show es.length-(js++[i]).length<es.length-js.length;rw[vA];simp only[zA,zB];omega) ⟨hn',hl',by simpa using hC3,jA hle2 hle3⟩ ⟨rfl,rfl,trivial⟩
  .refine nv rfl (bp (mq rfl ?_))
   exact nm Rg (λa _ w _=>nr rfl a w) (λw hw=>hw.sub (List.sublist_append_right _ _)) (.inl ⟨rfl,.inr hS3⟩)
  .exact Rw Rg (λw hw=>hw.sub (List.sublist_append_right _ _)) (.inr ⟨ch,rfl,hP3⟩)
theorem yv(h:HF)(m:List (OSeat×aK))(bk:Nat)(q:Addr)(hm:vO jT (km aK.rp) h bk m)(aq:At h q [.map (some bk)]):
  IL prog (.func (.func 305) #[] #[.pointer (some q)]) (λk _ vs=>vs=[jT k]) (λxs=>xs.Perm (m.map (·.1))) h:=by
 refine⟨305,[.pointer (some q)],rfl,call305,?_⟩
 intro yf ya yb C Sp Pn h1 A db m1 m2 m3 hC hy
 obtain⟨o,hb,m0,hpm,hnd0,es,clock,rfl,hE,hP,hcl⟩:=hm.mono (km.mono aK.aG) db
 have hnod:(es.map (·.born)).Nodup:=hP.imp (λh=>Nat.ne_of_lt h)
 have hkeys:=hE.keys
 have hlen:es.length=(m0.map (·.1)).length:=by rw[hE.length];simp
 let ks:=m0.map (·.1)
 let kf:Nat->OSeat:=λi=>(ks[i]?).getD default
 let bf:Nat->Nat:=λi=>(es[i]?.map (·.born)).getD 0
 have hkey:∀(i:Nat)(en:MapEntry),es[i]? = some en->en.key=jT (kf i):=by
  intro i en hi
  have h2:(es.map (·.key))[i]? = some en.key:=by simp[hi]
  rw[hkeys]at h2
  simp only[kV]at h2
  simp only[kf,ks,kV]
  cases hq:m0[i]? with
  |none=>rw[hq]at h2;simp at h2
  |some p=>rw[hq]at h2;simp at h2;simp[←h2]
 refine np (args:=[.func yf ya yb]) (cap:=[.pointer (some q)]) call305 ?_
 refine jX Re rfl ntmps305 rfl λX hXM hX=>?_
 refine el (bM (eE ty249 (aq.mono db) rfl (aH (KI OW hb rfl (λit=>bp ?_)))))
 refine gx (ι:=List Nat×LH×HF) (λi=>[]) (λi=>i.2.2) (λi=>[(it,Obj.mapIter (some bk) clock (xB (i.1.map bf)) clock)]++i.2.1) (λi=>(i.1.Nodup/\(∀j∈i.1,j<es.length)/\(∀j,j<es.length->j∈i.1))/\C (i.1.map kf) i.2.2 i.2.1) ?_ (λhx=>?_)
 .rintro⟨js,A1,h2⟩ ⟨⟨hn,hl,ha⟩,hC1⟩ e
  exact zU Re (λa _ w _=>nr rfl a w) (λw hw=>hw.sub (List.sublist_append_right _ _)) (.inl ⟨rfl,.inl ⟨_,(Cu ks js hn (λi hi=>by rw[←hlen];exact hl i hi) (λi hi=>ha i (by rw[hlen];exact hi))).trans (hpm.map _),hC1⟩⟩)
 refine jw (ι:=List Nat×LH×HF) (λi=>[(0,.func yf ya yb),(5,.pointer (some ⟨it,0,none⟩))]) (λi=>i.2.2) (λi=>[(it,Obj.mapIter (some bk) clock (xB (i.1.map bf)) clock)]++i.2.1) (λi=>i.1.Nodup/\(∀j∈i.1,j<es.length)/\C (i.1.map kf) i.2.2 i.2.1/\xJ h1 i.2.2) (λi=>es.length-i.1.length) ([],A,h1) ⟨rfl,rfl,trivial⟩ (λw hw=>hw) ⟨V6,λ_ hj=>(kA hj).elim,hC,kH _⟩ ?_
 rintro⟨js,A1,h2⟩ ⟨hn,hl,hC1,hle2⟩ ag e
 dsimp only at hn hl hC1 hle2
 have hlp:=AB hnod js hl
 show TT _ _ _ _ _ (upds e [(0,.func yf ya yb),(5,.pointer (some ⟨it,0,none⟩))]) _ _ h2 ([(it,Obj.mapIter (some bk) clock (xB (js.map bf)) clock)]++A1)
 refine el (bM (aH (NW 0 rfl (hle2 _ _ hb) (λx hx=>hcl x (by simpa using hx)) (vE _) rfl (λh0=>?_) (λen hen=>?_))))
 .refine qj rfl rfl (bp (el (oe rfl (kw rfl ?_))))
  exact hx (js,A1,h2) _ ⟨⟨hn,hl,hlp.1 h0⟩,hC1⟩ trivial
 .obtain⟨i,hi,hni⟩:=hlp.2 en hen
  have hil:i<es.length:=by
   rcases xM i es.length with h3|h3
   .exact h3
   .simp[List.getElem?_eq_none h3]at hi
  have hmem:en∈es.toArray.toList:=by simpa using xE hi
  have hn':(js++[i]).Nodup:=by
   rw[WH];exact⟨hn,by simp,λa ha b hb' e'=>by simp at hb';subst hb';subst e';exact hni ha⟩
  have hl':∀j∈js++[i],j<es.length:=λj hj=>by
   rcases zG.1 hj with h3|h3
   .exact hl j h3
   .simp at h3;subst h3;exact hil
  obtain⟨rest,hrest⟩:=Ap ks (js++[i]) hn' (λj hj=>by rw[←hlen];exact hl' j hj)
  have xw:js.length+1<=es.length:=by
   have h9:=hrest.length_eq
   rw[vA,List.length_map,vA]at h9
   have h10:ks.length=es.length:=hlen.symm
   simp only[zA,zB]at h9
   omega
  have hrest':(js.map kf++kf i::rest).Perm (m.map (·.1)):=by
   rw[Wo,vD]at hrest
   exact List.Perm.trans hrest (hpm.map _)
  obtain⟨ekey,evl,eborn⟩:=en
  have hk':ekey=jT (kf i):=hkey i _ hi
  subst hk'
  refine qj rfl rfl (bp ?_)
  refine el (mq rfl (bO (mZ ?_)))
  refine el (bM ?_)
  refine aH (eu (KS 0 rfl (hle2 _ _ hb) hmem (by simpa using hnod) rfl) ?_)
  refine qj rfl rfl (bJ zc252 (λb3=>bG 0 ty252 rfl rfl rfl rfl rfl rfl (bp ?_)))
  refine el (bM (bD (du 0 ty252 rfl rfl rfl ?_)))
  refine aH (me [(b3,jG (kE (kf i)).toArray 252 (0,0)),(it,Obj.mapIter (some bk) clock ((xB (js.map bf)).push eborn) clock)] A1 rfl (hy (js.map kf) (kf i) [jT (kf i)] h2 A1 ⟨rest,hrest'⟩ hle2 hC1 rfl) rfl rfl (λh3 B hle3 hC3=>?_) (λh3 B hle3 hS3=>?_) (λch h3 B hle3 hP3 e'=>?_))
  .refine nv rfl (bp (oe rfl (bO (fM ?_))))
   have hpush:((xB (js.map bf)).push eborn)=xB ((js++[i]).map bf):=by simp[bf,hi]
   rw[hpush]
   refine cm (L':=[(it,Obj.mapIter (some bk) clock (xB ((js++[i]).map bf)) clock)]++B) (.cons _ (List.Sublist.refl _)) ?_
   refine ag (js++[i],B,h3) _ (by show es.length-(js++[i]).length<es.length-js.length;rw[vA];simp only[zA,zB];omega) ⟨hn',hl',by simpa using hC3,jA hle2 hle3⟩ ⟨rfl,rfl,trivial⟩
  .refine nv rfl (bp (mq rfl ?_))
   exact nm Re (λa _ w _=>nr rfl a w) (λw hw=>hw.sub (List.sublist_append_right _ _)) (.inl ⟨rfl,.inr hS3⟩)
  .exact Rw Re (λw hw=>hw.sub (List.sublist_append_right _ _)) (.inr ⟨ch,rfl,hP3⟩)
end
section
open Go.Proofs Go.Proofs.Tryz
abbrev NM{α : Type}(P:Program)(f:FuncId)(args:List Value)(h:HF)(R:Rp α)(E:TypeId)(S:List α->Prop):Prop:=
 pC P f args.toArray h [] (λr h' G=>∃xs bb c,S xs/\r=.returned (.slice bb xs.length c)/\cN R E h' xs bb c G)
section steps
variable {P:Program} {b:Frame} {n:Nat} {ops:Array Oper} {F:List Frame->(Machine->Prop)->Prop} {e:Env} {ds:List Deferred} {X:Cx} {h:HF} {L:LH} {K:Env->HF->LH->Prop}
variable {d:Option Nat} {ty:TypeId} {pos:String} {af:Array Edge} {g:Option (Nat×Bool)}
theorem Dg{S:List α->Prop}(hc:∀args w,(callFunc f args).run P w=.ok (.enter f args) w)(hs:NM P f vs h R E S)(hvs:ass.toList.map e.ev=vs)(t':∀h' xs bb c G,h.le h'->S xs->cN R E h' xs bb c G->K (pute e d (.slice bb xs.length c)) h' (L++G))(hg:guardB ops e ⟨d,.call ⟨.value (.func f),ass,ats⟩,ty,pos,af,g⟩=true:=by rfl):
  Stp P b n ops F ds X ⟨d,.call ⟨.value (.func f),ass,ats⟩,ty,pos,af,g⟩ e h L K:=by
 unfold Stp
 rw[if_pos hg]
 intro w hw
 have harr:ass.map e.ev=vs.toArray:=qS (by simp[←hvs])
 have hr:(execOp e.ev ⟨d,.call ⟨.value (.func f),ass,ats⟩,ty,pos,af,g⟩).run P w=.ok (.enter f vs.toArray) w:=by
  simp[execOp,resolve,Xh,qH,invoke,harr,hc]
 rw[hr]
 refine mH (by simp) (lk (tw.mono (hs w (hw.sub (List.nil_sublist _)).pre) ?_))
 rintro x w' ⟨h',B,hst,xs,bb,c,hS,rfl,hG⟩
 exact⟨h',_,(WC (A:=[]) (F:=L) hw hst).perm xG,t' h' xs bb c B hst.le hS hG⟩
end steps
theorem F2(h:HF)(it:Value)(S:List Int->Prop)(hit:IL prog it (λ(k:Int)(_:HF)(vs:List Value)=>vs=[qC .i64 k]) S h)(hS:∀xs,S xs->xs.length<=1000000000000):NM prog 123 [.slice none 0 0,it] h jB 3 S:=by
 refine cV OV rfl ntmps123 rfl λX hM hX=>?_
 refine el (bM (eL (λb1=>ig (bp (el (el (bM (bD (bp (mZ (?_)))))))))))
 refine JC (it:=it) (S:=S) (ps:=[7])
  (λdone h' L'=>∃gb gc G,L'=[(b1,jG (xB [.slice gb done.length gc]) 31 (0,0))]++G/\cN jB 3 h' done gb gc G)
  (λ_ _ _=>False) (λ_ _ _=>False) rfl hit rfl (λx h' vs hv=>by rw[hv];rfl) ?_ (λ_ _ _ _ _ hf=>hf) (λ_ _ _ _ _ hf=>hf) ⟨none,0,[],rfl,cN.nil⟩ ?_ ?_ (λ_ _ _ _ _ hf=>hf.elim) (λ_ _ _ _ _ hf=>hf.elim)
 .rintro done h1 h2 B hl ⟨gb,gc,G,rfl,hG⟩;exact⟨gb,gc,G,rfl,hG.mono qJ hl⟩
 .rintro l1 r1 lp1 done y vs hr L' X' ⟨rest,hrest⟩ db ⟨gb,gc,G,rfl,hG⟩ hv hlp hX' hXM
  obtain rfl:=hv
  have hlen:=hS _ hrest
  simp only[vA,zA]at hlen
  refine bM (ig (bp ?_))
  refine kg 0 rfl hlp (mZ (bM ?_))
  refine pk 2 ty31 rfl rfl rfl (bD ?_)
  refine aH (bT (cells:=[.int .i64 y]) eM ty3 zc3 rfl rfl (by kernel_rfl) (λb3=>?_))
  refine aH (eN W3 ([(b3,jG (xB [.int .i64 y]) 3 (0,0)),(l1,.loop { lp1 with state:=.busy }),(r1,.deferred (some [])),(b1,jG (xB [.slice gb done.length gc]) 31 (0,0))]) [] (λG=>[(b3,jG (xB [.int .i64 y]) 3 (0,0)),(l1,.loop { lp1 with state:=.busy }),(r1,.deferred (some [])),(b1,jG (xB [.slice gb done.length gc]) 31 (0,0))]++G) (G:=G) (show _=[(b3,jG (xB [.int .i64 y]) 3 (0,0)),(l1,.loop { lp1 with state:=.busy }),(r1,.deferred (some [])),(b1,jG (xB [.slice gb done.length gc]) 31 (0,0))]++(G++[])from by rw[List.append_nil];rfl) (λ_=>by first|rfl|simp only[zF]) eM ty3 zc3 rfl bytes3 hG rfl rfl (gV (ys:=[y]) 0 rfl (show cY jB hr [.int .i64 y] [y]from⟨[.int .i64 y],[],rfl,rfl,rfl,rfl⟩)) (by simp only[vA,zA,zB];omega) (by simp only[vA,zA,zB];omega) (λob2 oc2 G2 gr2=>?_))
  refine cU 3 ty31 rfl rfl rfl rfl rfl rfl (bp (fM ?_))
  refine cm (L':=(l1,.loop { lp1 with state:=.busy })::(r1,.deferred (some []))::([(b1,jG (xB [.slice ob2 (done++[y]).length oc2]) 31 (0,0))]++G2)) (.cons _ (List.Sublist.refl _)) ?_
  exact KR rfl ⟨ob2,oc2,G2,rfl,gr2⟩
 .rintro r1 xs h2 L' hxs db ⟨gb,gc,G,rfl,hG⟩
  refine fM (el (bM (pk 1 ty31 rfl rfl rfl (ig (bp ?_)))))
  refine mY (L':=([(b1,jG (xB [.slice gb xs.length gc]) 31 (0,0))]++G)++markB [r1]) (List.perm_append_singleton _ _).symm ?_
  exact yd [r1] OV (λa ha w hw=>res1 rfl a ha w) (λw hw=>hw.sub (L':=G) (List.sublist_append_right _ _)) ⟨xs,gb,gc,hxs,rfl,hG⟩
theorem Jt(h:HF)(it:Value)(S:List Int->Prop)(hit:IL prog it (λ(k:Int)(_:HF)(vs:List Value)=>vs=[qC .i64 k]) S h)(hS:∀xs,S xs->xs.length<=1000000000000):NM prog 61 [it] h jB 3 S:=by
 refine cV func61 rfl ntmps61 rfl λX hM hX=>?_
 refine el (bM (ig (bp (el (bM (bD ?_))))))
 refine aH (Dg call123 (F2 h it S hit hS) rfl (λh' xs bb c G db hxs hG=>?_))
 refine ig (bp ?_)
 exact nm func61 (λa ha w hw=>res1 rfl a ha w) (λw hw=>hw.sub (L':=G) (List.sublist_append_right _ _)) ⟨xs,bb,c,hxs,rfl,hG⟩
theorem ER(h:HF)(it:Value)(S:List OSeat->Prop)(hit:IL prog it (λ(k:OSeat)(_:HF)(vs:List Value)=>vs=[jT k]) S h)(hS:∀xs,S xs->xs.length<=1000000000000):NM prog 326 [.slice none 0 0,it] h WM 252 S:=by
 refine cV OU rfl ntmps326 rfl λX hM hX=>?_
 refine el (bM (eL (λb1=>ig (bp (el (el (bM (bD (bp (mZ (?_)))))))))))
 refine JC (it:=it) (S:=S) (ps:=[7])
  (λdone h' L'=>∃gb gc G,L'=[(b1,jG (xB [.slice gb done.length gc]) 306 (0,0))]++G/\cN WM 252 h' done gb gc G)
  (λ_ _ _=>False) (λ_ _ _=>False) rfl hit rfl (λx h' vs hv=>by rw[hv];rfl) ?_ (λ_ _ _ _ _ hf=>hf) (λ_ _ _ _ _ hf=>hf) ⟨none,0,[],rfl,cN.nil⟩ ?_ ?_ (λ_ _ _ _ _ hf=>hf.elim) (λ_ _ _ _ _ hf=>hf.elim)
 .rintro done h1 h2 B hl ⟨gb,gc,G,rfl,hG⟩;exact⟨gb,gc,G,rfl,hG.mono OSeat.aG hl⟩
 .rintro l1 r1 lp1 done y vs hr L' X' ⟨rest,hrest⟩ db ⟨gb,gc,G,rfl,hG⟩ hv hlp hX' hXM
  obtain rfl:=hv
  have hlen:=hS _ hrest
  simp only[vA,zA]at hlen
  refine bM (bJ zc252 (λb2=>bG 0 ty252 rfl rfl rfl rfl rfl rfl (bp ?_)))
  refine kg 1 rfl hlp (mZ (bM ?_))
  refine pk 3 ty306 rfl rfl rfl (du 0 ty252 rfl rfl rfl ?_)
  refine aH (bT (cells:=[.int .i64 y.aV,.int .i64 y.bS]) O7 ty252 zc252 rfl rfl (by kernel_rfl) (λb3=>?_))
  refine aH (eN OSeat.dl ([(b3,jG (xB [.int .i64 y.aV,.int .i64 y.bS]) 252 (0,0)),(b2,jG (kE y).toArray 252 (0,0)),(l1,.loop { lp1 with state:=.busy }),(r1,.deferred (some [])),(b1,jG (xB [.slice gb done.length gc]) 306 (0,0))]) [] (λG=>[(b3,jG (xB [.int .i64 y.aV,.int .i64 y.bS]) 252 (0,0)),(b2,jG (kE y).toArray 252 (0,0)),(l1,.loop { lp1 with state:=.busy }),(r1,.deferred (some [])),(b1,jG (xB [.slice gb done.length gc]) 306 (0,0))]++G) (G:=G) (show _=[(b3,jG (xB [.int .i64 y.aV,.int .i64 y.bS]) 252 (0,0)),(b2,jG (kE y).toArray 252 (0,0)),(l1,.loop { lp1 with state:=.busy }),(r1,.deferred (some [])),(b1,jG (xB [.slice gb done.length gc]) 306 (0,0))]++(G++[])from by rw[List.append_nil];rfl) (λ_=>by first|rfl|simp only[zF]) O7 ty252 zc252 rfl bytes252 hG rfl rfl (gV (ys:=[y]) 0 rfl (show cY WM hr [.int .i64 y.aV,.int .i64 y.bS] [y]from⟨[.int .i64 y.aV,.int .i64 y.bS],[],rfl,rfl,rfl,rfl⟩)) (by simp only[vA,zA,zB];omega) (by simp only[vA,zA,zB];omega) (λob2 oc2 G2 gr2=>?_))
  refine cU 4 ty306 rfl rfl rfl rfl rfl rfl (bp (fM ?_))
  refine cm (L':=(l1,.loop { lp1 with state:=.busy })::(r1,.deferred (some []))::([(b1,jG (xB [.slice ob2 (done++[y]).length oc2]) 306 (0,0))]++G2)) (.cons _ (.cons _ (List.Sublist.refl _))) ?_
  exact KR rfl ⟨ob2,oc2,G2,rfl,gr2⟩
 .rintro r1 xs h2 L' hxs db ⟨gb,gc,G,rfl,hG⟩
  refine fM (el (bM (pk 1 ty306 rfl rfl rfl (ig (bp ?_)))))
  refine mY (L':=([(b1,jG (xB [.slice gb xs.length gc]) 306 (0,0))]++G)++markB [r1]) (List.perm_append_singleton _ _).symm ?_
  exact yd [r1] OU (λa ha w hw=>res1 rfl a ha w) (λw hw=>hw.sub (L':=G) (List.sublist_append_right _ _)) ⟨xs,gb,gc,hxs,rfl,hG⟩
theorem IP(h:HF)(it:Value)(S:List OSeat->Prop)(hit:IL prog it (λ(k:OSeat)(_:HF)(vs:List Value)=>vs=[jT k]) S h)(hS:∀xs,S xs->xs.length<=1000000000000):NM prog 303 [it] h WM 252 S:=by
 refine cV func303 rfl ntmps303 rfl λX hM hX=>?_
 refine el (bM (ig (bp (el (bM (bD ?_))))))
 refine aH (Dg call326 (ER h it S hit hS) rfl (λh' xs bb c G db hxs hG=>?_))
 refine ig (bp ?_)
 exact nm func303 (λa ha w hw=>res1 rfl a ha w) (λw hw=>hw.sub (L':=G) (List.sublist_append_right _ _)) ⟨xs,bb,c,hxs,rfl,hG⟩
end
section
open Go.Proofs Go.Proofs.Tryz
theorem Bz(h:HF)(it:Value)(ks:List Int)(hit:IL prog it (λ(k:Int)(_:HF)(vs:List Value)=>vs=[qC .i64 k]) (λxs=>xs.Perm ks) h)(hk:ks.length<=1000000000000):
  j4 prog 196 [it] h (λv h'=>∃(b:Option Addr)(c:Nat),v=.slice b (sortI ks).length c/\SlC jB h' b c (sortI ks)):=by
 refine cV func196 rfl ntmps196 rfl λX hM hX=>?_
 refine el (bM (ig (bp (el (bM (bD ?_))))))
 refine aH (Dg call61 (Jt h it _ hit (λxs hx=>by rw[hx.length_eq];exact hk)) rfl (λh' xs bb c G db hxs hG=>?_))
 refine ig (bp (el (bM (bD ?_))))
 refine aH (m6 [] G [] OT (mJ h' xs bb c G hG (by rw[hxs.length_eq];exact hk)) (by simp) rfl (λG' hG'=>?_))
 refine bp (el (bM (bD (ig (bp ?_)))))
 refine fF qJ [] G' [] (by simp) hM hG' (λh2 hle2 sl=>?_)
 refine lJ [.slice bb xs.length c] func196 rfl ⟨rfl,trivial⟩ ⟨bb,c,?_,?_⟩
 .rw[←Me hxs,iL];rfl
 .rw[←Me hxs];exact sl
theorem Az(h:HF)(m:List (Int×aD))(Og:Nat)(hm:vO (qC .i64) (km aD.rp) h Og m):j4 prog 197 [.map (some Og)] h (λv h'=>IL prog v (λ(k:Int)(_:HF)(vs:List Value)=>vs=[(qC .i64) k]) (λxs=>xs.Perm (m.map (·.1))) h'):=by
 refine cV func197 rfl ntmps197 rfl λX hM hX=>?_
 refine el (bM (eL (λb1=>ig (bp (el (bM ?_))))))
 refine cv 0 rfl hM (λh2 hle2 hb2=>?_)
 refine aH (gB rfl rfl ?_)
 refine ig (bp ?_)
 refine lJ [.func (.func 266) #[] #[.pointer (some ⟨b1,0,none⟩)]] func197 rfl ⟨rfl,trivial⟩ ?_
 exact yu h2 m Og ⟨b1,0,none⟩ (hm.mono (km.mono aD.aG) hle2) (dM hb2)
theorem AA(h:HF)(m:List (OSeat×aK))(Og:Nat)(hm:vO jT (km aK.rp) h Og m):j4 prog 271 [.map (some Og)] h (λv h'=>IL prog v (λ(k:OSeat)(_:HF)(vs:List Value)=>vs=[jT k]) (λxs=>xs.Perm (m.map (·.1))) h'):=by
 refine cV func271 rfl ntmps271 rfl λX hM hX=>?_
 refine el (bM (eL (λb1=>ig (bp (el (bM ?_))))))
 refine cv 0 rfl hM (λh2 hle2 hb2=>?_)
 refine aH (gB rfl rfl ?_)
 refine ig (bp ?_)
 refine lJ [.func (.func 305) #[] #[.pointer (some ⟨b1,0,none⟩)]] func271 rfl ⟨rfl,trivial⟩ ?_
 exact yv h2 m Og ⟨b1,0,none⟩ (hm.mono (km.mono aK.aG) hle2) (dM hb2)
end
variable {q:ay->Bool}
section
open Go.Proofs Go.Proofs.Tryz
set_option maxHeartbeats 2000000
theorem pQ(h gp)  : Ret prog 128 [I gp] h (.bool (fE gp)):=by
 refine sT func128 U ntmps128 U λX hM hX hF=>?_
 generalize hz:(fE gp)=z;have hs:=hz.symm
 exact W
theorem xa(h)(seq:List Int)(seq_v)(hseq:Itr prog seq_v sE seq h)(hsz:seq.length<=2000000):j4 prog 123 [zSN,seq_v] h (λv h'=>∃(rb0:Option Addr)(rc0:Nat),v=.slice rb0 (dE seq).length rc0/\SlC jB h' rb0 rc0 (dE seq)):=by
 refine cV OV U ntmps123 U λX hM hX=>?_
 have hs0:=@rfl _ (dE seq)
 refine sr (eL (λb1=>qO 8 U (dR (bY (L':=([(b1,O [zSN] 31)])++markB []) ap ?_))))
 refine j7 (it:=seq_v) (xs:=seq) (ι:=(List Int)×Option Addr×Nat×LH×HF) [] (λi=>i.2.2.2.2) (λi=>[(b1,O [.slice i.2.1 i.1.length i.2.2.1] 31)]++(i.2.2.2.1)) (λs i=>dE seq=((dE.L1 (dE.K1)) s i.1)/\cN jB 3 i.2.2.2.2 i.1 i.2.1 i.2.2.1 i.2.2.2.1/\xJ h i.2.2.2.2/\i.1.length+s.length<=seq.length) (λ_=>False) (λ_=>False) 0 (λ_ _ _=>False) ([],none,0,[],h) OV U hseq U AG (λ_ _ _ _ _ hq=>hq) U (show[(b1,O [zSN] 31)]=_ from U) ⟨hs0,cN.nil,lf,(by simp)⟩ ?_ ?_ ?_ ?_ ?_
 .rintro l1 dm1 lp1 y1 rz1 vs1 ⟨aZ,iV,iU,ki,hh1⟩ hr1 X hFR1 ⟨hs1,eY,hl1,u1_0⟩ hl01 hlr1 hv1 hX hXM hlp1 nx1 rt1 ex1 pn1
  obtain rfl:=hv1
  simp only[zA]at u1_0
  let z1:Nat×Obj:=(b1,O [.slice iV aZ.length iU] 31)
  let z4:Nat×Obj:=(dm1,.deferred (some []))
  refine bY (L':=[(l1,.loop lp1),z4,z1]++(ki++(markB []))) ap ?_
  let z3:Nat×Obj:=(l1,.loop { lp1 with state:=.busy })
  refine qT 3 U (kg 0 U hlp1 (qK 4 [2] U (aH (bT (cells:=[I y1]) eM ty3 zc3 U U kr (λb3=>aH (eN W3 ([(b3,O [I y1] 3),z3,z4,z1]) (markB []) (λG=>[(b3,O [I y1] 3),z3,z4,z1]++(markB []++G)) ap (λ_=>ap) eM ty3 zc3 U bytes3 (eY.mono qJ hlr1) U U (gV 0 U (cE y1 U U)) lo lo (λob2 oc2 G2 gr2=>qI (qi ([(b3,O [I y1] 3),z3,z4,z1]) G2 (markB [])) (cU 3 ty31 U U U U U U (qO 2 U ?_)))))))))
  let z5:Nat×Obj:=(b1,O [.slice ob2 ((aZ++[y1]).length) oc2] 31)
  exact cm (L':=[z3,z4,z5]++(G2++(markB []))) js (bY (L':=rdH l1 dm1 lp1 (([z5]++G2)++markB [])) ap (nx1 ((aZ++[y1]),ob2,oc2,G2,hr1) _ _ ⟨hs1,gr2,(hl1.t hlr1),(by simp only[vA,zA,zB]at *;omega)⟩ lf))
 .rintro dm1 ⟨aZ,iV,iU,ki,hh1⟩ hn1 ⟨hs2,eY,hl1,u1_0⟩ hln1 hl01
  let z2:Nat×Obj:=(b1,O [.slice iV aZ.length iU] 31)
  refine bY (L':=[z2]++(ki++(markB (dm1::[])))) ap (qK 6 [0] U (fF qJ ([z2]) ki (markB (dm1::[])) ap hM (eY.mono qJ hln1) (λh2 hle2 sl2=>?_)))
  have hs3:dE seq=aZ:=hs2
  exact bY (L':=([z2])++markB (dm1::[])) ap (od (dm1::[]) [.slice iV aZ.length iU] OV U rd ⟨iV,iU,congrArg (λr:List Int=>(.slice iV r.length iU:Value)) hs3.symm,(by rw[hs3];exact sl2)⟩)
 .exact xf
 .exact xf
 exact xf
instance kC123:Ct 123:=⟨_,call123,@xa⟩
theorem zb(h)(seq:List Int)(seq_v)(hseq:Itr prog seq_v sE seq h)(hsz:seq.length<=2000000):j4 prog 61 [seq_v] h (λv h'=>∃(rb0:Option Addr)(rc0:Nat),v=.slice rb0 (eD seq).length rc0/\SlC jB h' rb0 rc0 (eD seq)):=by
 refine sT func61 U ntmps61 U λX hM hX hF=>?_
 generalize hz:(eD seq)=z;have hs:=hz.symm
 exact W
theorem Pt(h:p:=by
  exact kw U (bM (oi i1 U (qO 2 U (cm (L':=[(b1,jj)]++(A)) js (ag2 (un,aZ,jj) hs7 ⟨eY,lc⟩)))))):p:=h
theorem yY(h l fg ff l_q ah known_q fq from__q)(hl:SlC aD.rp h fg ff l)(al:At h l_q [.slice fg l.length ff])(aknown:At h known_q [I ah])(afrom_:At h from__q [I fq])(hsz:l.length<=2000000):Itr prog (.func (.func 195) #[] (xB [.pointer (some l_q),.pointer (some known_q),.pointer (some from__q)])) tD (bV l ah fq) h:=by
 refine si call195 ?_
 intro yf ya yb C Sp Pn h1 A db m1 m2 m3 hC hy
 refine jX Rd U ntmps195 U λX hXM hX=>?_
 have hs0:bV l ah fq=[]++bV l ah fq:=rfl
 refine sr (aH (RI hXM (λb1 b1M=>qO 9 U (eE ty26 (al.mono db) U (qL 3 [] U ?_)))))
 refine lp2 l (λi w=>[(0,.func yf ya yb),(2,.pointer (some known_q)),(3,.pointer (some from__q)),(5,.map (some b1)),(6,I w.1),(13,.slice fg l.length ff),(14,I (l.length:Int)),(15,I (i:Int))]) (λ_=>h1) (λw=>[(b1,w.2.2)]++(A)) (λi w=>kY (qC .i64) (km aD.rp) h1 w.2.2 w.2.1/\w.2.1.length<=0+i) (λs1 i w=>[]++(bV.L1 ah fq (bV.K1)) s1 w.1 w.2.1) ((-1),[],.map #[] 0) ((hl.mono aD.aG db).1.1) hs0 ⟨(kY.nil (enc:=(qC .i64)) (V:=(km aD.rp)) (h:=h1)),lc⟩ ?_ ?_
 .rintro i1 ⟨un,aZ,jj⟩ i7 hs1 ⟨eY,oX⟩ e
  try dsimp only at eY oX
  refine qT 3 U (Cj 0 U b1M (λh8 hle7 hb3=>?_))
  have mc2:vO (qC .i64) (km aD.rp) h8 b1 aZ:=⟨_,hb3,eY.mono (km.mono aD.aG) hle7⟩
  refine aH (cw call197 (Az h8 aZ b1 mc2) U (λv4 h9 hle8 hp3=>aH (cw call196 (Bz h9 v4 (aZ.map Prod.fst) hp3 (by rw[List.length_map];omega)) U (λv5 h10 hle9 hp4=>?_))))
  obtain⟨rb2,rc2,rfl,sl2⟩:=hp4
  refine qL 3 [] U ?_
  refine lp2 (sortI (aZ.map Prod.fst)) (λi w=>[(0,.func yf ya yb),(5,.map (some b1)),(39,.slice rb2 ((sortI (aZ.map Prod.fst)).length) rc2),(40,I ((sortI (aZ.map Prod.fst)).length:Int)),(41,I (i:Int))]) (λw=>w.2.2) (λw=>w.2.1) (λi w=>C w.1 w.2.2 w.2.1/\xJ h10 w.2.2) (λs2 i w=>w.1++(bV.L2 aZ (bV.K2)) s2) ([],A,h10) sl2.1.1 hs1 ⟨(m1 _ _ _ _ ((hle7.t hle8).t hle9) hC),lf⟩ ?_ ?_
  .rintro i2 ⟨dn2,A2_,hh2⟩ CI hs2 ⟨hC2_,hl2⟩ e
   try dsimp only at hC2_ hl2
   refine dR ?_
   have hs3:bV l ah fq=dn2:=hs2.trans (List.append_nil _)
   exact sj [] (A:=A2_) Rd U (List.Sublist.refl _) (.inl (hs3▸hC2_))
  rintro i2 ⟨dn2,A2_,hh2⟩ y2 rz2 hd2 xw rS Fg Nf hs4 ⟨hC2_,hl2⟩ hx2 ag1 e
  try dsimp only at hC2_ hl2
  refine sr (tO xw U (qO 8 U (aH (iF (λy=>[I y]) eM ty3 (sl2.mono qJ hl2).1 rS U U U (λq4 A10=>eE ty3 A10 U (qO 8 U ?_))))))
  obtain⟨o3,hb5,hm5⟩:=(mc2.mono (km.mono aD.aG) ((hle8.t hle9).t hl2))
  refine aH (ph (k:=y2) Rf (fe mR) hb5 hm5 (eG zv63) (show(km aD.rp) _ (.agg (xB [I 0,I 0,I 0,.string (⟨#[]⟩:ByteArray),zSN,zSN,zSN,I 0,I 0,I 0,.string (⟨#[]⟩:ByteArray),zSN,I 0])) (aD.mk 0 0 0 (aw.mk (⟨#[]⟩:ByteArray) [] [] [] (aj.mk 0 0 0 (⟨#[]⟩:ByteArray) []) 0))from⟨_,U,(pL.mk (jm.mk none 0 none 0 none 0 (eo.mk none 0))),U,⟨⟨qG,qG,qG,(aj.ok.of qG)⟩⟩⟩) U U (λv7 hv3=>?_))
  obtain⟨_,rfl,rr4,rfl,ok4⟩:=hv3
  have hx3:bV l ah fq=dn2++((y2,(mgetD aZ y2 (aD.mk 0 0 0 (aw.mk (⟨#[]⟩:ByteArray) [] [] [] (aj.mk 0 0 0 (⟨#[]⟩:ByteArray) []) 0))))::(bV.L2 aZ (bV.K2) rz2)):=hs4
  refine aH (me ([]) A2_ ap (hy dn2 (y2,(mgetD aZ y2 (aD.mk 0 0 0 (aw.mk (⟨#[]⟩:ByteArray) [] [] [] (aj.mk 0 0 0 (⟨#[]⟩:ByteArray) []) 0)))) _ _ _ _ hx3 (((hle7.t hle8).t hle9).t hl2) hC2_ ⟨rr4,U,ok4⟩) U U (λh14 A11 hle13 hC3=>?_) (λh15 A12 hle14 hS3=>?_) (λch3 h16 A13 hle15 hP3 e=>iN (oz [] (A:=A13) Rd (List.sublist_append_right _ _) hP3)))
  .have hs5:bV l ah fq=(dn2++[(y2,(mgetD aZ y2 (aD.mk 0 0 0 (aw.mk (⟨#[]⟩:ByteArray) [] [] [] (aj.mk 0 0 0 (⟨#[]⟩:ByteArray) []) 0))))])++((bV.L2 aZ (bV.K2) rz2)):=hx3.trans ap
   exact nv U (qO 5 U (oi i2 U (qO 2 U (ag1 ((dn2++[(y2,(mgetD aZ y2 (aD.mk 0 0 0 (aw.mk (⟨#[]⟩:ByteArray) [] [] [] (aj.mk 0 0 0 (⟨#[]⟩:ByteArray) []) 0))))]),A11,h14) hs5 ⟨hC3,(hl2.t hle13)⟩))))
  exact nv U (qO 2 U (dR (nU [] (A:=A12) Rd U (List.Sublist.refl _) (.inr hS3))))
 rintro i1 ⟨un,aZ,jj⟩ y1 rz1 hd1 gg dL i5 mF hs6 ⟨eY,oX⟩ hx1 ag2 e
 try dsimp only at eY oX
 refine sr (tO gg U (qO 8 U (aH (iR Ch ty63 (hl.mono aD.aG db).1 dL U U U (λ_ _ _ e=>e) (λq5 r2 A14 ok5=>eJ ty63 A14 U U (bJ zc63 (λb3=>bG 0 ty63 U U U U U U (jf (L':=[(b3,O (aD.cells y1 r2) 63),(b1,jj)]++(A)) U (qL 6 [0] U (eE ty3 (aknown.mono db) U (qO 2 U (lu U (λc5=>?_) (λc5=>?_)))))))))))))
 .have c5p:=of_decide_eq_true c5
  have hs7:=hs6.trans (congrArg ([]++·) (bt c5))
  exact Pt
 have c5p:=of_decide_eq_false c5
 have hs8:=hs6.trans (congrArg ([]++·) (bf c5))
 refine qK 11 [0] U (eE ty3 (afrom_.mono db) U (qO 2 U (lu U (λc6=>?_) (λc6=>?_))))
 .have c6p:=of_decide_eq_true c6
  have hs9:=hs8.trans (congrArg ([]++·) (bt c6))
  refine qT 7 U (lu U (λc7=>?_) (λc7=>?_))
  .have c7p:=of_decide_eq_true c7
   have hs7:=hs9.trans (congrArg ([]++·) (bt c7))
   exact Pt
  have c7p:=of_decide_eq_false c7
  have hs11:=hs9.trans (congrArg ([]++·) (bf c7))
  exact bO (fo ([(b3,O (aD.cells y1 r2) 63),(b1,jj)]) mixed kr jn (λim _=>tm 0 U (tf 1 U U (rh ty3 (afrom_.mono db) U) (qA [2,3] U (bW kr (qT 3 U (du 0 ty63 U U U (aH (mt 1 (k:=fq) (x:=y1) Rf (fe mR) U eY U U ⟨_,U,r2,U,ok5⟩ (λmo3 hm6=>qO 3 U (oi i1 U (qO 2 U (cm (L':=[(b1,mo3)]++(A)) js (ag2 (y1.At,(mput aZ fq y1),mo3) hs11 ⟨hm6,(by have:=nw aZ fq y1;first|omega|(simp only[zB,zA]at *;omega))⟩))))))))))))))
 have c6p:=of_decide_eq_false c6
 have hs12:=hs8.trans (congrArg ([]++·) (bf c6))
 exact bO (qT 3 U (du 0 ty63 U U U (aH (mt 1 (k:=y1.At) (x:=y1) Rf (fe mR) U eY U U ⟨_,U,r2,U,ok5⟩ (λmo4 hm7=>qO 3 U (oi i1 U (qO 2 U (cm (L':=[(b1,mo4)]++(A)) js (ag2 (un,(mput aZ y1.At y1),mo4) hs12 ⟨hm7,(by have:=nw aZ y1.At y1;first|omega|(simp only[zB,zA]at *;omega))⟩)))))))))
instance kI195:CtI 195:=⟨_,@yY⟩
theorem Bx(h l fg ff eF ah)(hl:SlC aD.rp h fg ff l)(hsz:l.length<=2000000):j4 prog 129 [.slice fg l.length ff,I eF,I ah] h (λv h'=>∃(rv0:Value),v=rv0/\Itr prog rv0 tD (io l eF ah) h'):=by
 refine sT func129 U ntmps129 U λX hM hX hF=>?_
 generalize hz:(io l eF ah)=z;have hs:=hz.symm
 exact W
theorem sJ(h l fg ff old)(hl:SlC aD.rp h fg ff l):j4 prog 198 [.slice fg l.length ff,.bool old] h (λv h'=>∃(rb0:Option Addr)(rc0:Nat),v=.slice rb0 (lr l old).length rc0/\SlC aD.rp h' rb0 rc0 (lr l old)):=by
 refine sT func198 U ntmps198 U λX hM hX hF=>?_
 generalize hz:(lr l old)=z;have hs:=hz.symm
 exact W
theorem zw(h l fg ff old)(hl:SlC aD.rp h fg ff l)(hne:0<l.length):j4 prog 199 [.slice fg l.length ff,.bool old] h (λv h'=>∃(rb0:Option Addr)(rc0:Nat),v=.slice rb0 (jv l old).length rc0/\SlC aD.rp h' rb0 rc0 (jv l old)):=by
 refine sT func199 U ntmps199 U λX hM hX hF=>?_
 have hs0:=@rfl _ (jv l old)
 refine qT 10 U (aI hs0 U (λc1 hs1=>?_) (λc1 hs2=>?_))
 .refine qT 4 U ?_
  have hs3:jv l old=[]:=hs1
  exact nretH [zSN] ⟨none,0,congrArg (λr:List aD=>(.slice none r.length 0:Value)) hs3.symm,(by rw[hs3];exact qG)⟩
 refine qT 4 U (aH (RG Ch ty63 hl.1 hl.2 ob U U U (λsb1 sc1 sl1=>an ?_)))
 have hs4:jv l old=(l.take ((1:Int)).toNat):=hs2
 exact nretH [.slice sb1 ((l.take ((1:Int)).toNat).length) sc1] ⟨sb1,sc1,congrArg (λr:List aD=>(.slice sb1 r.length sc1:Value)) hs4.symm,(by rw[hs4];exact sl1)⟩
theorem zu(h l fg ff old)(hl:SlC aD.rp h fg ff l)(hne:0<l.length):j4 prog 200 [.slice fg l.length ff,.bool old] h (λv h'=>∃(rb0:Option Addr)(rc0:Nat),v=.slice rb0 (kt l old).length rc0/\SlC aD.rp h' rb0 rc0 (kt l old)):=by
 refine sT func200 U ntmps200 U λX hM hX hF=>?_
 have hs0:=@rfl _ (kt l old)
 have hbl:=hl.1.1
 refine qK 9 [] U (iS (v':=I ((l.length:Int)-1)) U (lI ob) (aH (RH Ch ty63 hl.1 hl.2 ob U U U (λsb1 sc1 sl1=>an ?_))))
 have hs1:kt l old=(l.drop ((((l.length:Int)-1):Int)).toNat):=hs0
 exact nretH [.slice sb1 ((l.drop ((((l.length:Int)-1):Int)).toNat).length) sc1] (hs1▸⟨sb1,sc1,U,sl1⟩)
theorem uE(h)   : j4 prog 130 [] h (λv h'=>∃(rk0:Nat),v=.map (some rk0)/\vO (qC .i64) VFn h' rk0 (mV)):=by
 refine sT func130 U ntmps130 U λX hM hX hF=>?_
 have hs0:=@rfl _ (mV)
 refine qT 10 U (aH (oC (λb1=>aH (uP 0 (k:=1) (x:=(jQ (.func 199) #[] #[])) LU (fe mR) U (kY.nil (enc:=(qC .i64)) (V:=VFn) (h:=h)) U U U (λmo1 hm1=>aH (uP 0 (k:=2) (x:=(jQ (.func 200) #[] #[])) LU (fe mR) U hm1 U U U (λmo2 hm2=>bD (aH (uP 0 (k:=3) (x:=(jQ (.func 198) #[] #[])) LU (fe mR) U hm2 U U U (λmo3 hm3=>bD (aH (uP 0 (k:=4) (x:=(jQ (.func 198) #[] #[])) LU (fe mR) U hm3 U U U (λmo4 hm4=>qO 3 U (gl 0 U hM (λh1 hle1 hb1=>?_)))))))))))))))
 have mc1:vO (qC .i64) VFn h1 b1 (mput (mput (mput (mput ([]) 1 (jQ (.func 199) #[] #[])) 2 (jQ (.func 200) #[] #[])) 3 (jQ (.func 198) #[] #[])) 4 (jQ (.func 198) #[] #[])):=⟨_,hb1,hm4.mono VFn.mono hle1⟩
 have hs1:mV=(mput (mput (mput (mput ([]) 1 (jQ (.func 199) #[] #[])) 2 (jQ (.func 200) #[] #[])) 3 (jQ (.func 198) #[] #[])) 4 (jQ (.func 198) #[] #[])):=hs0
 exact nretH [.map (some b1)] (hs1▸⟨b1,U,mc1⟩)
theorem M4(mode)(l:List aD)(old):(judgesP mode l old).length<=l.length:=by
 unfold judgesP lr jv kt
 cases mode==1<;>cases mode==2<;>cases old<;>simp<;>omega
theorem M2(h)(mode:Int)(hm:1<=mode/\mode<=4)(l fg ff old)(hl:SlC aD.rp h fg ff l)(hne:0<l.length):
  Uf prog (mgetD mV mode Value.nilFunc) [.slice fg l.length ff,.bool old] h (λv h'=>∃(rb0:Option Addr)(rc0:Nat),v=.slice rb0 (judgesP mode l old).length rc0/\SlC aD.rp h' rb0 rc0 (judgesP mode l old)):=by
 have:mode=1\/mode=2\/mode=3\/mode=4:=by omega
 rcases this with rfl|rfl|rfl|rfl
 .exact np (cap:=[]) (args:=[.slice fg l.length ff,.bool old]) call199 (zw h l fg ff old hl hne)
 .exact np (cap:=[]) (args:=[.slice fg l.length ff,.bool old]) call200 (zu h l fg ff old hl hne)
 .exact np (cap:=[]) (args:=[.slice fg l.length ff,.bool old]) call198 (sJ h l fg ff old hl)
 exact np (cap:=[]) (args:=[.slice fg l.length ff,.bool old]) call198 (sJ h l fg ff old hl)
theorem uF(h l fg ff dT bq ah)(hl:SlC aD.rp h fg ff l)(hsm:smV l)(hk:dQ h):j4 prog 65 [.slice fg l.length ff,I dT,I bq,I ah] h (λv h'=>∃(rb0:Option Addr)(rc0:Nat),v=.tuple #[.slice rb0 ((aM l dT bq ah).1).length rc0,I ((aM l dT bq ah).2.1),I ((aM l dT bq ah).2.2)]/\SlC jB h' rb0 rc0 ((aM l dT bq ah).1)):=by
 refine cV LT U ntmps65 U λX hM hX=>?_
 have hs0:=@rfl _ (aM l dT bq ah)
 have hsl:=hsm.len
 refine sr (eL (λb1=>eL (λb2=>qO 8 U (aX call76 (sV _ _ _ _ hl ob hk) U (qO 7 U (aI hs0 U (λc1 hs1=>?_) (λc1 hs2=>?_)))))))
 .refine qT 7 U ?_
  have hs3:aM l dT bq ah=([],0,(bQ l)):=hs1
  exact lJ [zSN,I 0,I (bQ l)] LT U rd ⟨none,0,congrArg (λr:(List Int×Int×Int)=>(.tuple #[.slice none r.1.length 0,I r.2.1,I r.2.2]:Value)) hs3.symm,(by rw[hs3];exact qG)⟩
 refine qK 5 [1] U (aX call128 (pQ h dT) U (qO 2 U (gz 4 [25,26,27,28,29] 25 29 (!(fE bq)) U (λc2 hk1=>?_) (λe=>?_))))
 .exact qL 1 [0] U (aX call128 (pQ h bq) U (qO 2 U (hk1 _ U)))
 refine bD (gz 4 [30,31,32,33,34] 30 34 (!(fE ah)) U (λc3 hk2=>?_) (λe=>?_))
 .exact bD (aX call128 (pQ h ah) U (qO 2 U (hk2 _ U)))
 refine bD (gz 4 [35,36,37,38,39] 35 39 (decide (bq<dT)) U (λc4 hk3=>?_) (λe=>?_))
 .exact qL 4 [1,0] U (hk3 _ U)
 refine bp (aI hs2 U (λc5 hs4=>?_) (λc5 hs5=>?_))
 .refine qT 6 U ?_
  have hs6:aM l dT bq ah=([],0,1):=hs4
  exact lJ [zSN,I 0,I 1] LT U rd ⟨none,0,congrArg (λr:(List Int×Int×Int)=>(.tuple #[.slice none r.1.length 0,I r.2.1,I r.2.2]:Value)) hs6.symm,(by rw[hs6];exact qG)⟩
 refine qT 3 U (bJ zc26 (λb3=>qO 3 U (bJ zc4 (λb4=>cU 0 ty4 U U U U U U (qL 7 [3] U (aH (cw call129 (Bx _ _ _ _ dT ah hl ob) U (λv1 h1 hle1 hp1=>?_))))))))
 obtain⟨_,rfl,mo1⟩:=hp1
 refine qO 2 U (dR (bY (L':=([(b4,O [.bool false] 4),(b3,O [zSN] 26),(b2,O [I bq] 3),(b1,O [I dT] 3)])++markB []) ap ?_))
 refine P8 (it:=v1) (xs:=(io l dT ah)) (ι:=Bool×List aD×Option Addr×Nat×LH×HF) [] (λi=>i.2.2.2.2.2) (λi=>[(b4,O [.bool i.1] 4),(b3,O [.slice i.2.2.1 i.2.1.length i.2.2.2.1] 26),(b2,O [I bq] 3),(b1,O [I dT] 3)]++(i.2.2.2.2.1)) (λs i=>aM l dT bq ah=((aM.L1 dT bq (aM.K1)) s i.1 i.2.1)/\cN aD.rp 63 i.2.2.2.2.2 i.2.1 i.2.2.1 i.2.2.2.1 i.2.2.2.2.1/\xJ h1 i.2.2.2.2.2/\(∀x∈i.2.1,x∈l)/\(∀q∈s,q.2∈l)/\i.2.1.length+s.length<=l.length) (λ_=>False) 0 (λ_ _ _=>False) (false,[],none,0,[],h1) LT U mo1 U BJ (λ_ _ _ _ _ hq=>hq) U (show[(b4,O [.bool false] 4),(b3,O [zSN] 26),(b2,O [I bq] 3),(b1,O [I dT] 3)]=_ from U) ⟨hs5,cN.nil,lf,(λx hx=>(kA hx).elim),AJ,(by have:=Fc l dT ah;simpa using this)⟩ ?_ ?_ ?_ ?_
 .rintro l1 dm1 lp1 y1 rz1 vs1 ⟨eR,bF,my,mw,mz,hh1⟩ hr1 X hFR1 ⟨hs7,lj,hl1,u1_0,u1_1,u1_2⟩ hl01 hlr1 hv1 hX hXM hlp1 nx1 rt1 ex1 pn1
  try dsimp only at lj hl1 u1_0 u1_1 u1_2 hlr1
  obtain⟨rr1_0,rfl,ok1_0⟩:=hv1
  simp only[zA]at u1_2
  let z2:Nat×Obj:=(b3,O [.slice my bF.length mw] 26)
  let z6:Nat×Obj:=(dm1,.deferred (some []))
  refine bY (L':=[(l1,.loop lp1),z6,(b4,O [.bool eR] 4),z2,(b2,O [I bq] 3),(b1,O [I dT] 3)]++(mz++(markB []))) ap (qT 5 U (bJ zc63 (λb6=>bG 0 ty63 U U U U U U (jf (L':=[(b6,O (aD.cells y1.2 rr1_0) 63),(l1,.loop lp1),z6,(b4,O [.bool eR] 4),z2,(b2,O [I bq] 3),(b1,O [I dT] 3)]++(mz++(markB []))) U (bp (kg 1 U hlp1 (qK 8 [5] U (aI hs7 U (λc7 hs8=>?_) (λc7 hs9=>?_)))))))))
  .have c7p:=of_decide_eq_true c7
   exact cm (L':=[(l1,.loop { lp1 with state:=.busy }),z6,(b4,O [.bool eR] 4),z2,(b2,O [I bq] 3),(b1,O [I dT] 3)]++(mz++(markB []))) js (bY (L':=rdH l1 dm1 lp1 (([(b4,O [.bool eR] 4),z2,(b2,O [I bq] 3),(b1,O [I dT] 3)]++(mz))++markB [])) ap (ex1 (eR,bF,my,mw,mz,hr1) _ _ _ ⟨hs8,(lj.mono aD.aG hlr1),(hl1.t hlr1),u1_0,(λq hq=>(kA hq).elim),(by simp only[zB,zA]at *;omega)⟩ lf U))
  have c7p:=of_decide_eq_false c7
  refine qK 5 [3] U (gz 4 [50,51,52,53,54] 50 54 (y1.1==dT) U (λc8 hk4=>?_) (λe=>?_))
  .exact qL 4 [6] U (hk4 _ U)
  refine cU 3 ty4 U U U U U U (qL 3 [4] U (du 0 ty63 U U U (aH (bT (cells:=[I y1.2.No,I y1.2.At,I y1.2.dU,.string y1.2.aw.Name,.slice rr1_0.aw.ke y1.2.aw.dQ.length rr1_0.aw.kd,.slice rr1_0.aw.gR y1.2.aw.aB.length rr1_0.aw.gQ,.slice rr1_0.aw.pt y1.2.aw.di.length rr1_0.aw.pq,I y1.2.aw.aQ.Kind,I y1.2.aw.aQ.N,I y1.2.aw.aQ.No,.string y1.2.aw.aQ.Name,.slice rr1_0.aw.aQ.oN y1.2.aw.aQ.L.length rr1_0.aw.aQ.pc,I y1.2.aw.Mode]) Ch ty63 zc63 U U kr (λb7=>?_)))))
  let z1:Nat×Obj:=(b7,O [I y1.2.No,I y1.2.At,I y1.2.dU,.string y1.2.aw.Name,.slice rr1_0.aw.ke y1.2.aw.dQ.length rr1_0.aw.kd,.slice rr1_0.aw.gR y1.2.aw.aB.length rr1_0.aw.gQ,.slice rr1_0.aw.pt y1.2.aw.di.length rr1_0.aw.pq,I y1.2.aw.aQ.Kind,I y1.2.aw.aQ.N,I y1.2.aw.aQ.No,.string y1.2.aw.aQ.Name,.slice rr1_0.aw.aQ.oN y1.2.aw.aQ.L.length rr1_0.aw.aQ.pc,I y1.2.aw.Mode] 63)
  let z4:Nat×Obj:=(b4,O [.bool (eR||(y1.1==dT))] 4)
  let z5:Nat×Obj:=(l1,.loop { lp1 with state:=.busy })
  let z7:Nat×Obj:=(b6,O (aD.cells y1.2 rr1_0) 63)
  refine aH (eN aD.dl ([z1,z7,z5,z6,z4,z2,(b2,O [I bq] 3),(b1,O [I dT] 3)]) (markB []) (λG=>[z1,z7,z5,z6,z4,z2,(b2,O [I bq] 3),(b1,O [I dT] 3)]++(markB []++G)) ap (λ_=>ap) Ch ty63 zc63 U bytes63 (lj.mono aD.aG hlr1) U U (gV 0 U (cE (R:=aD.rp) (y1.2) U ⟨rr1_0,U,ok1_0⟩)) lo lo (λob1 oc1 G1 gr1=>qI (qi ([z1,z7,z5,z6,z4,z2,(b2,O [I bq] 3),(b1,O [I dT] 3)]) G1 (markB [])) (cU 5 ty26 U U U U U U (qO 2 U ?_))))
  let z9:Nat×Obj:=(b3,O [.slice ob1 ((bF++[y1.2]).length) oc1] 26)
  exact cm (L':=[z5,z6,z4,z9,(b2,O [I bq] 3),(b1,O [I dT] 3)]++(G1++(markB []))) js (bY (L':=rdH l1 dm1 lp1 (([z4,z9,(b2,O [I bq] 3),(b1,O [I dT] 3)]++G1)++markB [])) ap (nx1 ((eR||(y1.1==dT)),(bF++[y1.2]),ob1,oc1,G1,hr1) _ _ ⟨hs9,gr1,(hl1.t hlr1),(λx hx=>(zG.1 hx).elim (u1_0 x) (λhx=>by rw[xC.1 hx];exact u1_1 y1 (kB ..))),(λq hq=>u1_1 q (jC _ hq)),(by simp only[vA,zA,zB]at *;omega)⟩ lf))
 .rintro dm1 ⟨eR,bF,my,mw,mz,hh1⟩ hn1 ⟨hs10,lj,hl1,u1_0,u1_1,u1_2⟩ hln1 hl01
  try dsimp only at lj hl1 u1_0 u1_1 u1_2 hln1
  let z3:Nat×Obj:=(b3,O [.slice my bF.length mw] 26)
  refine bY (L':=[(b4,O [.bool eR] 4),z3,(b2,O [I bq] 3),(b1,O [I dT] 3)]++(mz++(markB (dm1::[])))) ap (qK 7 [1] U (aI hs10 U (λc9 hs11=>?_) (λc9 hs12=>?_)))
  .refine qT 6 U ?_
   have hs13:aM l dT bq ah=([],0,0):=hs11
   exact bY (L':=([(b4,O [.bool eR] 4),z3,(b2,O [I bq] 3),(b1,O [I dT] 3)]++(mz))++markB (dm1::[])) ap (od (dm1::[]) [zSN,I 0,I 0] LT U rd ⟨none,0,congrArg (λr:(List Int×Int×Int)=>(.tuple #[.slice none r.1.length 0,I r.2.1,I r.2.2]:Value)) hs13.symm,(by rw[hs13];exact qG)⟩)
  refine qK 6 [1,1] U (iS (v':=I ((bF.length:Int)-1)) U (lI ob) (pR aD.aG ([(b4,O [.bool eR] 4),z3,(b2,O [I bq] 3),(b1,O [I dT] 3)]) mz (markB (dm1::[])) ap hM (lj.mono aD.aG hln1) (λh2 hle2 sl1=>?_)))
  have ho1:0<=(((bF.length:Int)-1):Int)/\(((bF.length:Int)-1):Int)<((bF).length:Int):=ob
  refine aH (yl Ch ty63 sl1.1 ho1 (dC ho1) U U U (λ_ _ _ e=>e) (λq1 r1 A1 ok1=>qL 2 [] U (lM (j:=12) ty3 A1 U U (qO 4 U (fo ([(b4,O [.bool eR] 4),z3,(b2,O [I bq] 3),(b1,O [I dT] 3)]) mixed kr jn (λim _=>tm 1 U (tf 3 U U (rj 1 ty26 U U U) (tf 4 U U (rj 0 ty4 U U U) (tm 7 U (tn 0 U (cw call130 (uE h2) U (λv2 h3 hle3 hp2=>?_))))))))))))
  obtain⟨rk2,rfl,mo2⟩:=hp2
  refine⟨jl hle3,tu hle3 (tn 2 U ?_)⟩
  obtain⟨o1,hb1,hm1⟩:=mo2
  refine ph (k:=(nthI bF ((bF.length:Int)-1)).aw.Mode) LU (fe mR) hb1 hm1 (eG zv185) (show VFn _ (.nilFunc) Value.nilFunc from U) U U (λv3 hv1=>?_)
  obtain rfl:=hv1
  refine⟨jn,tn 5 U (GF (M2 h3 ((nthI bF ((bF.length:Int)-1)).aw.Mode) (((tj l).1 (by simpa using c1)).mode (u1_0 _ (pI ho1))) bF my mw eR (sl1.mono aD.aG hle3) ob) U U (λv4 h4 hle4 hp3=>?_))⟩
  obtain⟨rb1,rc1,rfl,sl2⟩:=hp3
  have hjl:=M4 ((nthI bF ((bF.length:Int)-1)).aw.Mode) bF eR
  refine⟨jl hle4,tu hle4 (tf 6 U U (λ_ _ _=>JW Ch U) (bW kr ?_))⟩
  refine lp2 (judgesP ((nthI bF ((bF.length:Int)-1)).aw.Mode) bF eR) (λi w=>[(8,.slice w.2.1 w.1.length w.2.2.1),(9,I ((nthI bF ((bF.length:Int)-1)).aw.Mode)),(75,.slice rb1 ((judgesP ((nthI bF ((bF.length:Int)-1)).aw.Mode) bF eR).length) rc1),(76,I (((judgesP ((nthI bF ((bF.length:Int)-1)).aw.Mode) bF eR).length:Nat):Int)),(77,I (i:Int))]) (λ_=>h4) (λw=>[(b4,O [.bool eR] 4),z3,(b2,O [I bq] 3),(b1,O [I dT] 3)]++(w.2.2.2++(markB (dm1::[])))) (λi w=>cN jB 3 h4 w.1 w.2.1 w.2.2.1 w.2.2.2/\w.1.length<=0+i) (λs2 i w=>(aM.L2 (aM.K2 bF)) s2 w.1) ([],none,0,[]) sl2.1.1 hs12 ⟨cN.nil,lo⟩ ?_ ?_
  .rintro i2 ⟨mv,qm,ql,py⟩ i7 hs14 ⟨rx,Ia⟩ e
   try dsimp only at rx Ia
   refine qT 3 U (aH (m6 ([(b4,O [.bool eR] 4),z3,(b2,O [I bq] 3),(b1,O [I dT] 3)]) py (markB (dm1::[])) OT (mJ h4 mv qm ql py rx (by first|assumption|omega|(simp only[vA,zA,zB] ;omega))) ap U (λG4 gr4=>qO 9 U (fF qJ ([(b4,O [.bool eR] 4),z3,(b2,O [I bq] 3),(b1,O [I dT] 3)]) G4 (markB (dm1::[])) ap hM gr4 (λh6 hle6 sl4=>?_)))))
   have hs15:aM l dT bq ah=((sortI mv),(nthI bF ((bF.length:Int)-1)).aw.Mode,0):=hs14
   exact bY (L':=([(b4,O [.bool eR] 4),z3,(b2,O [I bq] 3),(b1,O [I dT] 3)])++markB (dm1::[])) ap (od (dm1::[]) [.slice qm mv.length ql,I ((nthI bF ((bF.length:Int)-1)).aw.Mode),I 0] LT U rd ⟨qm,ql,(by rw[hs15];simp[retVal,iL]),(by rw[hs15];exact sl4)⟩)
  rintro i2 ⟨mv,qm,ql,py⟩ y2 rz2 hd2 xw rS Fg Nf hs16 ⟨rx,Ia⟩ hx2 ag1 e
  try dsimp only at rx Ia
  refine sr (tO xw U (qO 8 U (aH (iR Ch ty63 sl2.1 rS U U U (λ_ _ _ e=>e) (λq3 r3 A3 ok3=>eJ ty63 A3 U U (bJ zc63 (λb10=>bG 0 ty63 U U U U U U (jf (L':=[(b10,O (aD.cells y2 r3) 63),(b4,O [.bool eR] 4),z3,(b2,O [I bq] 3),(b1,O [I dT] 3)]++(py++(markB (dm1::[])))) U ?_))))))))
  let z8:Nat×Obj:=(b10,O (aD.cells y2 r3) 63)
  exact qL 5 [0] U (aH (bT (cells:=[I y2.No]) eM ty3 zc3 U U kr (λb11=>aH (eN W3 ([(b11,O [I y2.No] 3),z8,(b4,O [.bool eR] 4),z3,(b2,O [I bq] 3),(b1,O [I dT] 3)]) (markB (dm1::[])) (λG=>[(b11,O [I y2.No] 3),z8,(b4,O [.bool eR] 4),z3,(b2,O [I bq] 3),(b1,O [I dT] 3)]++(markB (dm1::[])++G)) ap (λ_=>ap) eM ty3 zc3 U bytes3 rx U U (gV 0 U (cE (y2.No) U U)) lo lo (λob3 oc3 G5 gr5=>qI (qi ([(b11,O [I y2.No] 3),z8,(b4,O [.bool eR] 4),z3,(b2,O [I bq] 3),(b1,O [I dT] 3)]) G5 (markB (dm1::[]))) (qO 4 U (oi i2 U (qO 2 U (cm (L':=[(b4,O [.bool eR] 4),z3,(b2,O [I bq] 3),(b1,O [I dT] 3)]++(G5++(markB (dm1::[])))) js (ag1 ((mv++[y2.No]),ob3,oc3,G5) hs16 ⟨gr5,lo⟩))))))))))
 .exact xf
 exact xf
theorem CY(h mode permits qh qg)(hpermits:SlC vV h qh qg permits):Ret prog 207 [I mode,.slice qh permits.length qg] h (I (mI mode permits)):=by
 refine sT func207 U ntmps207 U λX hM hX hF=>?_
 have hs0:=@rfl _ (mI mode permits)
 refine qT 7 U (aH (cw call130 (uE h) U (λv1 h1 hle1 hp1=>?_)))
 obtain⟨rk1,rfl,mo1⟩:=hp1
 refine bD ?_
 obtain⟨o1,hb1,hm1⟩:=mo1
 refine aH (vW (k:=mode) LU (fe mR) hb1 hm1 (eG zv185) (show VFn _ (.nilFunc) Value.nilFunc from U) U U (λv2 hv1=>?_))
 obtain rfl:=hv1
 refine qO 11 U (aI hs0 U (λc1 hs1=>?_) (λc1 hs2=>?_))
 .exact sr (an (nretP [I 270] (ci hs1)))
 refine qK 8 [] U (aI hs2 U (λc2 hs4=>?_) (λc2 hs5=>?_))
 .have c2p:=of_decide_eq_true c2
  exact sr (an (nretP [I 1] (ci hs4)))
 have c2p:=of_decide_eq_false c2
 exact bO (qT 4 U (nretP [I 0] (ci hs5)))
instance kC207:Ct 207:=⟨_,call207,@CY⟩
theorem wC(h s pM pD)(f:(Bool->Bool))(f_v)(hs:SlC vV h pM pD s)(hf:∀(h':HF)(ef:Bool),xJ h h'->qw prog f_v [.bool ef] h' [] (.bool (f ef))):Ret prog 276 [.slice pM s.length pD,f_v] h (I (gi s f)):=by
 refine sT func276 U ntmps276 U λX hM hX hF=>?_
 generalize hz:(gi s f)=z;have hs:=hz.symm
 have HA:=h0 [0,1,7] 8 (λs1 i=>(gi.L1 f (gi.K1)) s1 i)
 exact W
instance kC276:Ct 276:=⟨_,call276,@wC⟩
theorem yZ(h l fg ff)(ok:(Bool->Bool))(ok_v)(hl:SlC vV h fg ff l)(hok:∀(h':HF)(ef:Bool),xJ h h'->qw prog ok_v [.bool ef] h' [] (.bool (ok ef))):Ret prog 208 [.slice fg l.length ff,ok_v] h (I (jU l ok)):=by
 refine sT func208 U ntmps208 U λX hM hX hF=>?_
 generalize hz:(jU l ok)=z;have hs:=hz.symm
 exact W
instance kC208:Ct 208:=⟨_,call208,@yZ⟩
theorem zy(h LI)  : Ret prog 209 [.bool LI] h (.bool (mX LI)):=by
 refine sT func209 U ntmps209 U λX hM hX hF=>?_
 generalize hz:(mX LI)=z;have hs:=hz.symm
 exact W
instance kC209:Ct 209:=⟨_,call209,@zy⟩
theorem zx(h LI)  : Ret prog 210 [.bool LI] h (.bool (oA LI)):=by
 refine sT func210 U ntmps210 U λX hM hX hF=>?_
 generalize hz:(oA LI)=z;have hs:=hz.symm
 exact W
instance kC210:Ct 210:=⟨_,call210,@zx⟩
theorem Ce(h mode permits qh qg)(hpermits:SlC vV h qh qg permits)(hsz0:permits.length<=2000000):j4 prog 138 [I mode,.slice qh permits.length qg] h (λv h'=>∃(rb0:Option Addr)(rc0:Nat),v=.tuple #[.slice rb0 ((cJ mode permits).1).length rc0,.bool ((cJ mode permits).2.1),I ((cJ mode permits).2.2)]/\SlC jB h' rb0 rc0 ((cJ mode permits).1)):=by
 refine sT func138 U ntmps138 U λX hM hX hF=>?_
 generalize hz:(cJ mode permits)=z;have hs:=hz.symm
 have HA:=hG [5,55] 56 4 jB 3 (λs1 i w=>(cJ.L1 (cJ.K1 permits)) s1 i w)
 have HB:=hG [5,55] 56 4 jB 3 (λs2 i w=>(cJ.L2 (cJ.K2 permits)) s2 i w)
 have HC:=hG [5,55] 56 4 jB 3 (λs3 i w=>(cJ.L3 (cJ.K3)) s3 i w)
 exact W
instance kC138:Ct 138:=⟨_,call138,@Ce⟩
theorem uG(h mode permits qh qg)(hpermits:SlC vV h qh qg permits)(hsz0:permits.length<=2000000):Ret prog 68 [I mode,.slice qh permits.length qg] h (.tuple #[.bool ((gU mode permits).1),I ((gU mode permits).2)]):=by
 refine sT func68 U ntmps68 U λX hM hX hF=>?_
 generalize hz:(gU mode permits)=z;have hs:=hz.symm
 exact W
theorem ud(h s pM pD)(f:(aD->Bool))(f_v)(hs:SlC aD.rp h pM pD s)(hf:∀(h':HF)(ef:aD)(BN:pL),xJ h h'->aD.ok h' ef BN->qw prog f_v [.agg (aD.cells ef BN).toArray] h' [] (.bool (f ef))):Ret prog 159 [.slice pM s.length pD,f_v] h (I (bw s f)):=by
 refine sT func159 U ntmps159 U λX hM hX hF=>?_
 generalize hz:(bw s f)=z;have hs:=hz.symm
 have HA:=h0 [0,1,7] 8 (λs1 i=>(bw.L1 f (bw.K1)) s1 i)
 exact W
theorem FW(s:List aD)(f:aD->Bool):bw s f<(s.length:Int):=by
 have key:∀(l:List aD)(i:Nat),bw.L1 f bw.K1 l i<((i+l.length:Nat):Int):=by
  intro l
  induction l with
  |nil=>intro i;simp only[bw.L1,bw.K1];omega
  |cons y l ih=>
   intro i
   simp only[bw.L1,Bool.cond_eq_ite,zA]
   split
   .omega
   have:=ih (i+1);omega
 have:=key s 0
 simpa[bw]using this
theorem xp(h v VM v0 v0_q)(hv:aD.ok h v VM)(av0:At h v0_q [I v0]):Ret prog 160 [.agg (aD.cells v VM).toArray,.pointer (some v0_q)] h (.bool (eQ v v0)):=by
 refine sT func160 U ntmps160 U λX hM hX hF=>?_
 generalize hz:(eQ v v0)=z;have hs:=hz.symm
 exact W
theorem rO(h c pK no)(hc:bU.ok h c pK):Ku prog 91 [.agg (bU.cells c pK).toArray,I no] h errV (fP c no) (λ(r:aw)v h'=>∃(rr0:jm),v=.agg (aw.cells r rr0).toArray/\aw.ok h' r rr0):=by
 refine cV func91 U ntmps91 U λX hM hX=>?_
 have hs0:=@rfl _ (fP c no)
 refine sr (eL (λb1=>eL (λb2=>bJ zc61 (λb3=>qL 6 [2] U (cv 1 U hM (λh1 hle1 hb1=>aH (gB U U (aX call159 (ud _ _ _ _ (λef=>eQ ef no) (.func (.func 160) #[] #[Q b2]) (hc.Register.Versions.mono aD.aG hle1) (λh' ef BN db a0_o=>ip call160 (xp h' ef BN no ⟨b2,0,none⟩ a0_o ((dM hb1).mono db)))) U (qO 8 U (aI hs0 U (λc1 hs1=>?_) (λc1 hs2=>?_)))))))))))
 .have c1p:=of_decide_eq_true c1
  exact bM (aH (eu (F8 Rn U U) (aH (F4 U Bk (λe=>iN (L7 [] func91 hs1))))))
 have c1p:=of_decide_eq_false c1
 refine qK 7 [1] U ?_
 have ho1:0<=((bw c.Register.Versions (λef=>eQ ef no)):Int)/\((bw c.Register.Versions (λef=>eQ ef no)):Int)<((c.Register.Versions).length:Int):=(by have hq:=FW c.Register.Versions (λef=>eQ ef no);simp only[decide_eq_true_eq,decide_eq_false_iff_not,zC,kD,qF,Bool.not_eq_false',Bool.and_eq_false_iff,Bool.or_eq_false_iff,beq_iff_eq,beq_eq_false_iff_ne,bne_iff_ne,bne_eq_false_iff_eq,vA,zA,zB,List.length_drop]at *;omega)
 refine aH (yl Ch ty63 (hc.Register.Versions.mono aD.aG hle1).1 ho1 (dC ho1) U U U (λ_ _ _ e=>e) (λq1 r1 A1 ok1=>qL 1 [] U (Eu (j:=3) ty61 A1 U U (bG 0 ty61 U U U U U U (bp ?_)))))
 have hs3:fP c no=(Except.ok ((nthI c.Register.Versions (bw c.Register.Versions (λef=>eQ ef no))).aw)):=hs2
 exact dR (LY [] [.agg (aw.cells ((nthI c.Register.Versions (bw c.Register.Versions (λef=>eQ ef no))).aw) r1.aw).toArray] func91 U ⟨⟨0,_,_,_,_,U,U,.inl ⟨ty61,U⟩⟩,trivial⟩ hs3 ⟨r1.aw,U,ok1.aw⟩)
theorem zf(h)(x:aK)(v0 v0_q v1 v1_q)(av0:At h v0_q [I v0])(av1:At h v1_q [I v1]):Ret prog 261 [.agg (aK.cells x).toArray,.pointer (some v0_q),.pointer (some v1_q)] h (.tuple #[.agg (kE ((ji x v0 v1).1)).toArray,.bool ((ji x v0 v1).2)]):=by
 refine cV func261 U ntmps261 U λX hM hX=>?_
 have hs0:=@rfl _ (ji x v0 v1)
 refine sr (eL (λb1=>bJ zc252 (λb2=>qO 3 U ?_)))
 let z1:Nat×Obj:=(b1,O (aK.cells x) 120)
 refine S9 ([(b2,O [I x.ep,I x.cZ] 252),z1]) [(4,Q b2),(5,.bool (decide (x.At<=v0)&&decide (x.dU<=v1)))] (λe=>?_) (λhk1=>?_)
 rotate_left
 .refine fo ([z1]) mixed kr jn (λim _=>?_)
  refine qB [0] U (tf 1 U U (rj 0 ty3 U U U) (qB [2] U (tf 3 U U (rj 0 ty3 U U U) (qB [5] U (tf 6 U U (rj 0 ty3 U U U) (tf 7 U U (rh ty3 av0 U) (qA [8,9] U ?_)))))))
  refine fJ 15 U (λc1=>?_) (λc1=>?_)
  .have c1p:=of_decide_eq_true c1
   exact tf 10 U U (λ_ _ _=>yR SJ U) (tf 11 U U (rj 0 ty3 U U U) (tf 12 U U (rh ty3 av1 U) (qA [13,14] U (tn 4 U (gv (cells:=[I x.ep,I x.cZ]) (places:=[(0,1),(1,1)]) LX zc252 kr kr (⟨jn,(tn 15 U (uN 0 ty252 U U U U U U (⟨jn,(qA [16] U (bW kr (hk1 _ ⟨U,(cb (show decide (x.dU<=v1)=(decide (x.At<=v0)&&decide (x.dU<=v1))from by rw[c1]<;>rfl)),trivial⟩)))⟩)))⟩))))))
  have c1p:=of_decide_eq_false c1
  exact tk 10 U U (qR 11 4 U (tn 4 U (gv (cells:=[I x.ep,I x.cZ]) (places:=[(0,1),(1,1)]) LX zc252 kr kr (⟨jn,(tn 15 U (uN 0 ty252 U U U U U U (⟨jn,(qA [16] U (bW kr (hk1 _ ⟨U,(cb (show false=(decide (x.At<=v0)&&decide (x.dU<=v1))from by rw[c1]<;>rfl)),trivial⟩)))⟩)))⟩))))
 have hs1:ji x v0 v1=((vT x.ep x.cZ),(decide (x.At<=v0)&&decide (x.dU<=v1))):=hs0
 exact vU [.agg (xB [I x.ep,I x.cZ]),.bool (decide (x.At<=v0)&&decide (x.dU<=v1))] func261 U hX ⟨⟨0,_,_,_,_,U,U,.inl ⟨ty252,U⟩⟩,U,trivial⟩ (congrArg (λr:(OSeat×Bool)=>(.tuple #[.agg (kE r.1).toArray,.bool r.2]:Value)) hs1.symm)
instance kC261:Ct 261:=⟨_,call261,@zf⟩
theorem xj(h l fg ff)(key:(aK->OSeat×Bool))(key_v)(later:(aK->aK->Bool))(later_v)(hl:SlC aK.rp h fg ff l)(hkey:∀(h':HF)(ef:aK),xJ h h'->qw prog key_v [.agg (aK.cells ef).toArray] h' [] (.tuple #[.agg (kE ((key ef).1)).toArray,.bool ((key ef).2)]))(hlater:∀(h':HF)(ef:aK)(Ec:aK),xJ h h'->qw prog later_v [.agg (aK.cells ef).toArray,.agg (aK.cells Ec).toArray] h' [] (.bool (later ef Ec))):j4 prog 262 [.slice fg l.length ff,key_v,later_v] h (λv h'=>∃(rk0:Nat),v=.map (some rk0)/\vO jT (km aK.rp) h' rk0 (dc l key later)):=by
 refine sT func262 U ntmps262 U λX hM hX hF=>?_
 have hs0:=@rfl _ (dc l key later)
 refine qT 6 U (aH (oC (λb1=>qL 9 [] U ?_)))
 refine lp2 l (λi w=>[(1,key_v),(2,later_v),(7,.map (some b1)),(15,.slice fg l.length ff),(16,I (l.length:Int)),(17,I (i:Int))]) (λ_=>h) (λw=>[(b1,w.2)]) (λi w=>kY jT (km aK.rp) h w.2 w.1/\w.1.length<=0+i) (λs1 i w=>(dc.L1 key later (dc.K1)) s1 w.1) ([],.map #[] 0) hl.1.1 hs0 ⟨(kY.nil (enc:=jT) (V:=(km aK.rp)) (h:=h)),lc⟩ ?_ ?_
 .rintro i1 ⟨aZ,jj⟩ i7 hs1 ⟨eY,oX⟩ e
  refine qT 5 U (gl 0 U hM (λh1 hle1 hb1=>?_))
  have mc1:vO jT (km aK.rp) h1 b1 aZ:=⟨_,hb1,eY.mono (km.mono aK.aG) hle1⟩
  have hs2:dc l key later=aZ:=hs1
  exact nretH [.map (some b1)] (hs2▸⟨b1,U,mc1⟩)
 rintro i1 ⟨aZ,jj⟩ y1 rz1 hd1 gg dL i5 mF hs3 ⟨eY,oX⟩ hx1 ag1 e
 refine sr (tO gg U (qO 8 U (aH (iF aK.cells Ro ty120 hl.1 dL U U U (λq2 A2=>eJ ty120 A2 U U (bJ zc120 (λb5=>bG 0 ty120 U U U U U U (qO 4 U (du 0 ty120 U U U (aH (j8 (v:=.tuple #[.agg (kE ((key y1).1)).toArray,.bool ((key y1).2)]) [] (List.nil_sublist _) (hkey h y1 lf) U U (qO 3 U (bJ zc252 (λb6=>bG 0 ty252 U U U U U U (qO 5 U (du 0 ty252 U U U (aH (mL 2 (k:=(key y1).1) OW yr U eY (eG zv120) (show(km aK.rp) _ (.agg (xB [I 0,I 0,I 0,I 0,I 0,I 0,.bool false])) (aK.mk 0 0 0 0 0 0 false)from⟨_,U,U⟩) U U (λv2 hv2=>?_)))))))))))))))))))
 obtain⟨_,rfl,rfl⟩:=hv2
 refine qO 3 U (bJ zc120 (λb7=>bG 0 ty120 U U U U U U (qO 6 U (jO 10 [34,35,36,37,38,39,40,41,42,43,44] 34 44 ((!(mhas aZ ((key y1).1)))||(!(later (mgetD aZ ((key y1).1) (aK.mk 0 0 0 0 0 0 false)) y1))) U (λc1 hk1=>?_) (λe=>?_)))))
 .refine qO 3 U (gz 6 [37,38,39,40,41,42,43] 37 43 (!(later (mgetD aZ ((key y1).1) (aK.mk 0 0 0 0 0 0 false)) y1)) U (λc2 hk2=>?_) (λe=>?_))
  .exact bD (du 0 ty120 U U U (du 2 ty120 U U U (aH (j8 (v:=.bool (later (mgetD aZ ((key y1).1) (aK.mk 0 0 0 0 0 0 false)) y1)) [] (List.nil_sublist _) (hlater h (mgetD aZ ((key y1).1) (aK.mk 0 0 0 0 0 0 false)) y1 lf) U U (qO 2 U (hk2 _ U))))))
  exact mU U (hk1 _ U)
 refine bp (aI hs3 U (λc3 hs4=>?_) (λc3 hs5=>?_))
 .exact bM (bD (du 1 ty252 U U U (du 2 ty120 U U U (aH (mt 3 (k:=(key y1).1) (x:=y1) OW yr U eY U U ⟨_,U,U⟩ (λmo1 hm1=>qO 3 U (oi i1 U (qO 2 U (cm (L':=[(b1,mo1)]) js (ag1 ((mput aZ ((key y1).1) y1),mo1) hs4 ⟨hm1,(by have:=nw aZ ((key y1).1) y1;first|omega|(simp only[zB,zA]at *;omega))⟩))))))))))
 exact bO (qT 2 U (oi i1 U (qO 2 U (cm (L':=[(b1,jj)]) js (ag1 (aZ,jj) hs5 ⟨eY,lc⟩)))))
instance kC262:Ct 262:=⟨_,call262,@xj⟩
theorem ze(h)(a:aK)(mP:aK)  : Ret prog 263 [.agg (aK.cells a).toArray,.agg (aK.cells mP).toArray] h (.bool (jh a mP)):=by
 refine sT func263 U ntmps263 U λX hM hX hF=>?_
 generalize hz:(jh a mP)=z;have hs:=hz.symm
 exact W
instance kC263:Ct 263:=⟨_,call263,@ze⟩
theorem tP(h l fg ff lq ah)(hl:SlC aK.rp h fg ff l):j4 prog 189 [.slice fg l.length ff,I lq,I ah] h (λv h'=>∃(rk0:Nat),v=.map (some rk0)/\vO jT (km aK.rp) h' rk0 (dI l lq ah)):=by
 refine sT func189 U ntmps189 U λX hM hX hF=>?_
 generalize hz:(dI l lq ah)=z;have hs:=hz.symm
 exact W
theorem xk(h l fg ff aV bS dw ah)(hl:SlC aK.rp h fg ff l):Ret prog 125 [.slice fg l.length ff,I aV,I bS,I dw,I ah] h (.tuple #[I ((eO l aV bS dw ah).1),I ((eO l aV bS dw ah).2.1),.bool ((eO l aV bS dw ah).2.2.1),I ((eO l aV bS dw ah).2.2.2)]):=by
 refine sT func125 U ntmps125 U λX hM hX hF=>?_
 have hs0:=@rfl _ (eO l aV bS dw ah)
 refine qT 11 U (aX call72 (sd _ _ _ _ hl) U (qO 7 U (aI hs0 U (λc1 hs1=>?_) (λc1 hs2=>?_))))
 .refine qT 8 U ?_
  have hs3:eO l aV bS dw ah=(0,0,false,(dz l)):=hs1
  exact nretP [I 0,I 0,.bool false,I (dz l)] (hs3▸U)
 refine qT 5 U (aX call186 (pA h aV) U (qO 2 U (gz 4 [24,25,26,27,28] 24 28 (!(ka bS)) U (λc2 hk1=>?_) (λe=>?_))))
 .exact bD (aX call187 (tQ h bS) U (qO 2 U (hk1 _ U)))
 refine bD (gz 4 [29,30,31,32,33] 29 33 (!(fy dw)) U (λc3 hk2=>?_) (λe=>?_))
 .exact bD (aX O0 (m8 h dw) U (qO 2 U (hk2 _ U)))
 refine bD (gz 4 [34,35,36,37,38] 34 38 (!(fy ah)) U (λc4 hk3=>?_) (λe=>?_))
 .exact bD (aX O0 (m8 h ah) U (qO 2 U (hk3 _ U)))
 refine bp (aI hs2 U (λc5 hs4=>?_) (λc5 hs5=>?_))
 .refine qT 7 U ?_
  have hs6:eO l aV bS dw ah=(0,0,false,1):=hs4
  exact nretP [I 0,I 0,.bool false,I 1] (hs6▸U)
 refine qT 6 U (aH (cw call189 (tP _ _ _ _ dw ah hl) U (λv1 h1 hle1 hp1=>?_)))
 obtain⟨rk1,rfl,mo1⟩:=hp1
 refine qO 2 U (aH (gv (cells:=[I aV,I bS]) (places:=[(0,1),(1,1)]) LX zc252 kr kr ?_))
 obtain⟨o1,hb1,hm1⟩:=mo1
 refine aH (vW (k:=(vT aV bS)) OW yr hb1 hm1 (eG zv120) (show(km aK.rp) _ (.agg (xB [I 0,I 0,I 0,I 0,I 0,I 0,.bool false])) (aK.mk 0 0 0 0 0 0 false)from⟨_,U,U⟩) U U (λv2 hv1=>?_))
 obtain⟨_,rfl,rfl⟩:=hv1
 refine qO 3 U (bJ zc120 (λb1=>bG 0 ty120 U U U U U U (qO 8 U (gz 3 [52,53,54,55] 52 55 ((mgetD (dI l dw ah) (vT aV bS) (aK.mk 0 0 0 0 0 0 false)).mG) U (λc6 hk4=>?_) (λe=>?_)))))
 .exact qL 3 [0] U (hk4 _ U)
 refine bp (aI hs5 U (λc7 hs7=>?_) (λc7 hs8=>?_))
 .refine qT 7 U ?_
  have hs9:eO l aV bS dw ah=(0,0,false,0):=hs7
  exact nretP [I 0,I 0,.bool false,I 0] (hs9▸U)
 refine qT 2 U (fo ([(b1,O (aK.cells (mgetD (dI l dw ah) (vT aV bS) (aK.mk 0 0 0 0 0 0 false))) 120)]) mixed kr jn (λim _=>qB [0] U (tf 1 U U (rj 0 ty3 U U U) (qB [2] U (tf 3 U U (rj 0 ty3 U U U) (qR 4 4 U (bW kr ?_)))))))
 have hs10:eO l aV bS dw ah=((mgetD (dI l dw ah) (vT aV bS) (aK.mk 0 0 0 0 0 0 false)).No,(mgetD (dI l dw ah) (vT aV bS) (aK.mk 0 0 0 0 0 0 false)).j3,true,0):=hs8
 exact nretP [I ((mgetD (dI l dw ah) (vT aV bS) (aK.mk 0 0 0 0 0 0 false)).No),I ((mgetD (dI l dw ah) (vT aV bS) (aK.mk 0 0 0 0 0 0 false)).j3),.bool true,I 0] (hs10▸U)
theorem tz(h s pM pD)(f:(ay->Bool))(f_v)(hs:SlC ay.rp h pM pD s)(hf:∀(h':HF)(ef:ay),xJ h h'->qw prog f_v [.agg (ay.cells ef).toArray] h' [] (.bool (f ef))):Ret prog 317 [.slice pM s.length pD,f_v] h (I (cW s f)):=by
 refine sT func317 U ntmps317 U λX hM hX hF=>?_
 generalize hz:(cW s f)=z;have hs:=hz.symm
 have HA:=h0 [0,1,7] 8 (λs1 i=>(cW.L1 f (cW.K1)) s1 i)
 exact W
theorem sH(x:ay):(ay.cells x).length=8:=rfl
theorem BZ(f:ay->Bool):∀(l:List ay)(i:Nat),(cW.L1 f cW.K1 l i=-1/\∀x∈l,f x=false) \/
  ∃a y b,l=a++y::b/\cW.L1 f cW.K1 l i=((i+a.length:Nat):Int)/\f y=true/\∀x∈a,f x=false
 |[],i=>.inl ⟨rfl,λ_ h=>(kA h).elim⟩
 |y::l,i=>by
  simp only[cW.L1]
  cases hy:f y with
  |true=>exact .inr ⟨[],y,l,rfl,by simp,hy,λ_ h=>(kA h).elim⟩
  |false=>
   rcases BZ f l (i+1)with⟨h1,h2⟩|⟨a,z,b,rfl,h2,h3,h4⟩
   .exact .inl ⟨h1,λx hx=>by rcases zE.1 hx with rfl|hx;exact hy;exact h2 x hx⟩
   refine .inr ⟨y::a,z,b,rfl,?_,h3,λx hx=>by rcases zE.1 hx with rfl|hx;exact hy;exact h4 x hx⟩
   rw[cond_false,h2];simp only[zA];congr 1;omega
theorem D7{l:List ay}(h:∀x∈l,q x=false):(l.filter λx=>!(q x))=l:=by
 rw[List.filter_eq_self];intro x hx;simp[h x hx]
theorem QN{s zs:List ay}{j:Nat}{y:ay}(hij:i<j)(hz:zs.length=s.length)(hj:s[j]? = some y)(ht:zs.take i=(s.take j).filter λx=>!(q x))(hd:zs.drop j=s.drop j)(hy:q y=false):
  (zs.set i y).take (i+1)=((s.take (j+1)).filter λx=>!(q x))/\(zs.set i y).drop (j+1)=s.drop (j+1):=by
 have hjl:j<s.length:=by
  rcases xM j s.length with h|h
  .exact h
  simp[List.getElem?_eq_none h]at hj
 constructor
 .rw[List.take_add_one,List.take_set_of_le (vE _),ht,List.take_add_one,hj,List.filter_append]
  simp[hy,show i<zs.length from by omega]
 rw[List.drop_set_of_lt ob,←List.drop_drop,hd,List.drop_drop]
theorem QM{s zs:List ay}{j:Nat}{y:ay}(hj:s[j]? = some y)(ht:zs.take i=(s.take j).filter λx=>!(q x))(hd:zs.drop j=s.drop j)(hy:q y=true):
  zs.take i=((s.take (j+1)).filter λx=>!(q x))/\zs.drop (j+1)=s.drop (j+1):=by
 constructor
 .rw[List.take_add_one,hj,List.filter_append,ht];simp[hy]
 rw[←List.drop_drop,hd,List.drop_drop]
theorem D8{xs:List ay}{bk c:Nat}{sp:List Value}(h3:(xs.flatMap ay.cells++sp).length=c*8)(h4:xs.length<=c)(h5:xs.length<=9223372036854775807):cN ay.rp 67 h xs (zAD bk) c [(bk,.cells (xs.flatMap ay.cells++sp).toArray 67 (0,0))]:=
 .inr ⟨bk,_,sp,rfl,Iq (λ_ _=>rfl) sH h xs,h3,h4,h5,rfl⟩
theorem sL(h)(s:List ay)(b c G)(del:ay->Bool)(del_v)(hG:cN ay.rp 67 h s b c G)(hdel:∀(h':HF)(ef:ay),xJ h h'->qw prog del_v [.agg (ay.cells ef).toArray] h' [] (.bool (del ef)))(hsz:s.length<=2000000):
  pC prog 288 [.slice b s.length c,del_v].toArray h G (λr h' G'=>h'=h/\r=.returned (.slice b (fW s del).length c)/\cN ay.rp 67 h (fW s del) b c G'):=by
 refine cV func288 U ntmps288 U λX hM hX=>qT 8 U (aH (Df [] G [] call317 ay.aG hG (by simp) (λh1 db hsl=>tz h1 s b c del del_v hsl (λh' a hl=>hdel h' a (db.t hl))) U (qO 6 U ?_)))
 have hcase:=BZ del s 0
 rw[show cW.L1 del cW.K1 s 0=cW s del from rfl]at hcase
 rcases hcase with⟨h1,h2⟩|⟨a,y,r,hs,h1,hy,ha⟩
 .rw[h1]
  refine iS (v':=.bool true) U U (qO 7 U ?_)
  have hf:fW s del=s:=D7 h2
  refine nm func288 (λa ha w hw=>res1 U a ha w) (λw hw=>hw.lower) ⟨hX,?_,?_⟩
  .rw[hf];rfl
  rw[hf];exact hG
 rw[h1,Nat.zero_add]
 have hne:((a.length:Int)==-1)=false:=by simp
 have hsl:s.length=a.length+(r.length+1):=by rw[hs];simp
 refine fO hne U (qO 7 U (iS (v':=I ((a.length+1:Nat):Int)) U (n0 ob) (an ?_)))
 refine gx (ι:=Nat×List ay×LH) (λi=>[(0,.slice b s.length c),(1,del_v),(5,I (i.1:Int))]) (λi=>h) (λi=>i.2.2)
  (λi=>i.1<s.length/\i.2.1.length=s.length/\i.2.1.take i.1=fW s del/\cN ay.rp 67 h i.2.1 b c i.2.2) ?_ (λhx=>?_)
 .rintro⟨i,zs,G'⟩ ⟨hi,hz,hf,hG'⟩ e
  dsimp only at hi hz hf hG'
  rcases hG' with⟨rfl,_⟩|⟨bk,cl,sp,rfl,hcl,h3,h4,h5,rfl⟩
  .simp at hz;omega
  have hcl':=CQ (C:=ay.cells) (λ_ _ _ e=>e) hcl
  subst hcl'
  have hcz:zs.length<=c:=h4
  have hzl:=vk sH zs
  have h3':zs.length*8+sp.length=c*8:=by rw[←hzl,←vA];exact h3
  have hzn:(i:Int).toNat=i:=by omega
  have hgf:cN ay.rp 67 h zs (zAD bk) c [(bk,.cells (zs.flatMap ay.cells++sp).toArray 67 (0,0))]:=D8 h3 h4 h5
  obtain⟨m,hm⟩:∃m,s.length-i=m+1:=⟨s.length-i-1,by omega⟩
  refine qT 4 U (aH (eu (v:=.slice (some ⟨bk,i*8,none⟩) (m+1) (c-i)) (N5 zz ty67 U U ob ob hm) (aH (Qa (P:=prog) 0 (sz:=8) (zs:=[I 0,I 0,I 0,I 0,I 0,I 0,I 0,.bool false]) (bk:=bk) (cl:=zs.flatMap ay.cells++sp) (cc:=c-i) zz (eG zv67) U U (by decide) (by decide) U U (off:=i*8) (m:=m) (by rw[vA,hzl];omega) (λvs hvl=>?_)))))
  have hsp:∃sp',splice (zs.flatMap ay.cells++sp) (i*8) vs=(zs.take i).flatMap ay.cells++sp':=by
   have e1:zs.flatMap ay.cells++sp=(zs.take i).flatMap ay.cells++((zs.drop i).flatMap ay.cells++sp):=by
    rw[←vD,←List.flatMap_append,List.take_append_drop]
   rw[e1]
   have e2:i*8=((zs.take i).flatMap ay.cells).length:=by rw[vk sH,List.length_take];congr 1;omega
   have:=uu vs ((zs.take i).flatMap ay.cells) ((zs.drop i).flatMap ay.cells++sp) (by rw[vA,vk sH,List.length_drop,hvl];omega)
   rw[←e2]at this
   exact⟨_,this⟩
  obtain⟨sp',hsp⟩:=hsp
  have hlen:((zs.take i).flatMap ay.cells++sp').length=c*8:=by
   rw[←hsp,BU];exact h3
  show TO _ _ _ _ _ _ _ _ _ _ h [(bk,.cells (splice (zs.flatMap ay.cells++sp) (i*8) vs).toArray 67 (0,0))]
  rw[hsp]
  have hg2:cN ay.rp 67 h (zs.take i) (zAD bk) c [(bk,.cells ((zs.take i).flatMap ay.cells++sp').toArray 67 (0,0))]:=
   D8 hlen (by rw[List.length_take];omega) (by rw[List.length_take];omega)
  refine qO 5 U (aH (Mo (z:=(i:Int)) zz ty67 hgf ob (by show _=Value.slice _ _ _;rw[hz];rfl) U U (an ?_)))
  refine nm func288 (λa ha w hw=>res1 U a ha w) (λw hw=>hw.lower) ⟨hX,?_,?_⟩
  .rw[←hf,hzn];rfl
  rw[←hf];exact hg2
 refine jw (ι:=Nat×Nat×List ay×LH) (λi=>[(0,.slice b s.length c),(1,del_v),(5,I (i.1:Int)),(6,I (i.2.1:Int))]) (λi=>h) (λi=>i.2.2.2)
  (λi=>i.1<i.2.1/\i.2.1<=s.length/\i.2.2.1.length=s.length/\i.2.2.1.take i.1=((s.take i.2.1).filter λx=>!(del x))/\i.2.2.1.drop i.2.1=s.drop i.2.1/\cN ay.rp 67 h i.2.2.1 b c i.2.2.2)
  (λi=>s.length-i.2.1) (a.length,a.length+1,s,G) rd (λw hw=>hw) ⟨Nat.lt_succ_self _,by show a.length+1<=s.length;omega,rfl,?_,rfl,hG⟩ ?_
 .show s.take a.length=((s.take (a.length+1)).filter λx=>!(del x))
  rw[hs,List.take_left' rfl,List.take_add_one,List.take_left' rfl,List.filter_append,D7 ha];simp[hy]
 rintro⟨i,j,zs,G'⟩ ⟨hij,hjl,hz,ht,hd,hG'⟩ ag e
 dsimp only at hij hjl hz ht hd hG'
 rcases xM j s.length with hj|hj
 .have hjs:s[j]? = some s[j]:=List.getElem?_eq_getElem hj
  have hjz:zs[j]? = some s[j]:=by
   have e1:(zs.drop j)[0]? = (s.drop j)[0]?:=by rw[hd]
   simpa[hjs]using e1
  have hiz:zs[i]? = some zs[i]:=List.getElem?_eq_getElem ob
  rcases hG' with⟨rfl,_⟩|⟨bk,cl,sp,rfl,hcl,h3,h4,h5,rfl⟩
  .simp at hz;omega
  have hcl':=CQ (C:=ay.cells) (λ_ _ _ e=>e) hcl
  subst hcl'
  refine qK 6 [] U (tO (decide_eq_true ob) U (qO 9 U (aH (eu (nR (R:=ay.rp) (xs:=zs) (z:=(j:Int)) zz ty67 U ob U hz.symm U) (aH (eu (lV (off:=j*8) (cs:=ay.cells s[j]) ty67 U (xC.2 U) (SP sH hjz)) (bJ zc67 (λb7=>bG 0 ty67 U U U U U U (qO 4 U (du 0 ty67 U U U (aH (j8 (v:=.bool (del s[j])) [] (List.nil_sublist _) (hdel h s[j] lf) U U ?_))))))))))))
  cases hy:del s[j]with
  |true=>
   obtain⟨k1,k2⟩:=QM hjs ht hd hy
   exact nv U (qO 6 U (oi j U (an (cm (L':=[(bk,.cells (zs.flatMap ay.cells++sp).toArray 67 (0,0))]) js (ag (i,j+1,zs,[(bk,.cells (zs.flatMap ay.cells++sp).toArray 67 (0,0))]) _ (by show s.length-(j+1)<s.length-j;omega) ⟨by show i<j+1;omega,hj,hz,k1,k2,D8 h3 h4 h5⟩ rd)))))
  |false=>
   obtain⟨k1,k2⟩:=QN hij hz hjs ht hd hy
   refine qO 7 U (du 0 ty67 U U U (aH (eu (nR (R:=ay.rp) (xs:=zs) (z:=(i:Int)) zz ty67 U ob U hz.symm U) (aH (lK 1 (off:=i*8) (vs:=ay.cells s[j]) ty67 U U U U (by rw[vA,vk sH,sH];exact Nat.ble_eq_true_of_le ob) U ?_)))))
   have hsl2:setNth [(b7,O (ay.cells s[j]) 67),(bk,.cells (zs.flatMap ay.cells++sp).toArray 67 (0,0))] 1 (bk,.cells (splice (zs.flatMap ay.cells++sp) (i*8) (ay.cells s[j])).toArray 67 (0,0))=[(b7,O (ay.cells s[j]) 67),(bk,.cells ((zs.set i s[j]).flatMap ay.cells++sp).toArray 67 (0,0))]:=by
    rw[Md sH hiz];rfl
   refine jf hsl2 (qO 3 U (oi i U (qO 5 U (oi j U (an (cm (L':=[(bk,.cells ((zs.set i s[j]).flatMap ay.cells++sp).toArray 67 (0,0))]) js ?_))))))
   have hzl2:(zs.set i s[j]).length=s.length:=by rw[List.length_set];exact hz
   exact ag (i+1,j+1,zs.set i s[j],[(bk,.cells ((zs.set i s[j]).flatMap ay.cells++sp).toArray 67 (0,0))]) _ (by show s.length-(j+1)<s.length-j;omega) ⟨by show i+1<j+1;omega,hj,hzl2,k1,k2,D8 (by rw[vA,vk sH,List.length_set,←vk sH,←vA];exact h3) (by rw[List.length_set];exact h4) (by rw[List.length_set];exact h5)⟩ rd
 have hje:j=s.length:=by omega
 subst hje
 exact qK 6 [] U (fO (decide_eq_false ob) U (qO 3 U (hx (i,zs,G') _ ⟨hij,hz,by show zs.take i=_;rw[ht,List.take_length];rfl,hG'⟩ rd)))
theorem xI(h v0 tX tW v0_q v1 v1_q v2 v2_q v3 v3_q)(hv0:SlC ay.rp h tX tW v0)(av0:At h v0_q [.slice tX v0.length tW])(av1:At h v1_q [I v1])(av2:At h v2_q [I v2])(av3:At h v3_q [I v3]):Itr prog (.func (.func 331) #[] (xB [.pointer (some v0_q),.pointer (some v1_q),.pointer (some v2_q),.pointer (some v3_q)])) ri (cd v0 v1 v2 v3) h:=by
 refine si call331 ?_
 intro yf ya yb C Sp Pn h1 A db m1 m2 m3 hC hy
 refine jX Rc U ntmps331 U λX hXM hX=>?_
 have hs0:cd v0 v1 v2 v3=[]++cd v0 v1 v2 v3:=rfl
 refine sr (eE ty28 (av0.mono db) U (qL 3 [] U ?_))
 refine lp2 v0 (λi w=>[(0,.func yf ya yb),(2,.pointer (some v1_q)),(3,.pointer (some v2_q)),(4,.pointer (some v3_q)),(8,.slice tX v0.length tW),(9,I (v0.length:Int)),(10,I (i:Int))]) (λw=>w.2.2) (λw=>w.2.1) (λi w=>C w.1 w.2.2 w.2.1/\xJ h1 w.2.2) (λs1 i w=>w.1++(cd.L1 v1 v2 v3 (cd.K1)) s1) ([],A,h1) ((hv0.mono ay.aG db).1.1) hs0 ⟨hC,lf⟩ ?_ ?_
 .rintro i1 ⟨dn1,A1_,hh1⟩ i7 hs1 ⟨hC1_,hl1⟩ e
  refine dR ?_
  have hs2:cd v0 v1 v2 v3=dn1:=hs1.trans (List.append_nil _)
  exact sj [] (A:=A1_) Rc U (List.Sublist.refl _) (.inl (hs2▸hC1_))
 rintro i1 ⟨dn1,A1_,hh1⟩ y1 rz1 hd1 gg dL i5 mF hs3 ⟨hC1_,hl1⟩ hx1 ag1 e
 refine sr (tO gg U (qO 8 U (aH (iF ay.cells zz ty67 (hv0.mono ay.aG (db.t hl1)).1 dL U U U (λq2 A2=>eJ ty67 A2 U U (bJ zc67 (λb2=>bG 0 ty67 U U U U U U (jf (L':=[(b2,O (ay.cells y1) 67)]++(A1_)) U (qL 5 [0] U (eE ty3 (av1.mono (db.t hl1)) U (qO 2 U (jO 5 [18,19,20,21,22,23] 18 23 (decide (y1.At<=v2)) U (λc1 hk1=>?_) (λe=>?_)))))))))))))
 .exact qL 2 [0] U (eE ty3 (av2.mono (db.t hl1)) U (qO 2 U (hk1 _ U)))
 refine bD (jO 5 [24,25,26,27,28,29] 24 29 (decide (y1.dU<=v3)) U (λc2 hk2=>?_) (λe=>?_))
 .exact qL 2 [0] U (eE ty3 (av3.mono (db.t hl1)) U (qO 2 U (hk2 _ U)))
 refine bD (uJ 30 U (λc3=>?_) (λc3=>?_))
 .have hs4:=hs3.trans (congrArg (dn1++·) (bt c3))
  refine bD (du 0 ty67 U U U ?_)
  have hx1:cd v0 v1 v2 v3=dn1++(y1::(cd.L1 v1 v2 v3 (cd.K1) rz1)):=hs4
  refine aH (me ([(b2,O (ay.cells y1) 67)]) A1_ ap (hy dn1 y1 _ _ _ _ hx1 hl1 hC1_ U) U U (λh2 A3 hle1 hC1=>?_) (λh3 A4 hle2 hS1=>?_) (λch1 h4 A5 hle3 hP1 e=>iN (oz [] (A:=A5) Rc (List.sublist_append_right _ _) hP1)))
  .have hs5:cd v0 v1 v2 v3=(dn1++[y1])++((cd.L1 v1 v2 v3 (cd.K1) rz1)):=hx1.trans ap
   exact nv U (qO 6 U (oi i1 U (qO 2 U (cm (L':=A3) js (ag1 ((dn1++[y1]),A3,h2) hs5 ⟨hC1,(hl1.t hle1)⟩)))))
  exact nv U (qO 3 U (dR (nU [] (A:=A4) Rc U js (.inr hS1))))
 have hs6:=hs3.trans (congrArg (dn1++·) (bf c3))
 exact kq (qO 8 U (oi i1 U (qO 2 U (cm (L':=A1_) js (ag1 (dn1,A1_,hh1) hs6 ⟨hC1_,hl1⟩)))))
instance kI331:CtI 331:=⟨_,@xI⟩
theorem rW(h l fg ff ba bq ah)(hl:SlC ay.rp h fg ff l):j4 prog 318 [.slice fg l.length ff,I ba,I bq,I ah] h (λv h'=>∃(rv0:Value),v=rv0/\Itr prog rv0 ri (fQ l ba bq ah) h'):=by
 refine sT func318 U ntmps318 U λX hM hX hF=>?_
 generalize hz:(fQ l ba bq ah)=z;have hs:=hz.symm
 exact W
theorem rG(l:List ay)(ba bq ah):(fQ l ba bq ah).length<=l.length:=by
 show(cd.L1 ba bq ah cd.K1 l).length<=l.length
 induction l with
 |nil=>exact vE _
 |cons y l ih=>simp only[cd.L1,Bool.cond_eq_ite];split<;>simp only[zA]<;>omega
theorem lF(h)(x:ay)  : Ret prog 319 [.agg (ay.cells x).toArray] h (.agg (fC.cells (cS x)).toArray):=by
 refine sT func319 U ntmps319 U λX hM hX hF=>?_
 generalize hz:(cS x)=z;have hs:=hz.symm
 exact W
theorem Pp(h:p:=by
  refine bp (aI hs1 U (λc2 hs2=>?_) (λc2 hs3=>?_))
  .let z11:Nat×Obj:=(b7,O (ay.cells (mgetD cg (cS y1) (ay.mk 0 0 0 0 0 0 0 false))) 67)
   refine fo ([z11,z7,z3,z6,z1,z2]) mixed kr jn (λnJ _=>?_)
   exact tf 0 U U (rj 4 ty358 U U U) (tf 1 U U (λ_ _ hj=>lV ty67 U (hj.nth (i:=1) U) U) (tf 3 U U (λ_ _ hj=>lV ty67 U (hj.nth (i:=1) U) U) (tn 2 U (gu OS (lF hr1 y1) U (⟨jn,tn 4 U (mt 5 (k:=(cS y1)) (x:=y1) LS oq U (iD.mono (km.mono ay.aG) hlr1) U U ⟨_,U,U⟩ (λmo2 hm1=>⟨jn,bW kr (fM (cm (L':=[z3,z6,z1,(b2,mo2),z2]++(markB [])) js (bY (L':=rdH l1 dm1 lp1 (([z1,(b2,mo2),z2])++markB [])) ap (nx1 ((mput cg (cS y1) y1),mo2,hr1) _ _ ⟨hs2,hm1,(hl1.t hlr1)⟩ lf))))⟩))⟩)))))
  exact bO (fM (cm (L':=[z3,z6,z1,(b2,eB),z2]++(markB [])) js (bY (L':=rdH l1 dm1 lp1 (([z1,(b2,eB),z2])++markB [])) ap (nx1 (cg,eB,hr1) _ _ ⟨hs3,(iD.mono (km.mono ay.aG) hlr1),(hl1.t hlr1)⟩ lf))))):p:=h
theorem zo(h l fg ff ba bq ah)(hl:SlC ay.rp h fg ff l)(hsz:l.length<=2000000):Vl prog 289 [.slice fg l.length ff,I ba,I bq,I ah] h ay.rp 67 (aP l ba bq ah):=by
 refine cV Rb U ntmps289 U λX hM hX=>?_
 have hs0:=@rfl _ (aP l ba bq ah)
 refine sr (bJ zc28 (λb1=>qO 3 U (aH (oC (λb2=>bJ zc358 (λb3=>cU 0 ty358 U U U U U U (qO 8 U (aH (cw call318 (rW _ _ _ _ ba bq ah hl) U (λv1 h1 hle1 hp1=>?_))))))))))
 obtain⟨_,rfl,mo1⟩:=hp1
 refine qO 2 U (dR ?_)
 let z1:Nat×Obj:=(b3,O [.map (some b2)] 358)
 let z2:Nat×Obj:=(b1,O [zSN] 28)
 refine bY (L':=([z1,(b2,.map #[] 0),z2])++markB []) ap ?_
 refine j7 (it:=v1) (xs:=(fQ l ba bq ah)) (ι:=(List (fC×ay))×Obj×HF) [] (λi=>i.2.2) (λi=>[z1,(b2,i.2.1),z2]) (λs i=>aP l ba bq ah=((aP.L1 (aP.K1 l ba bq ah)) s i.1)/\kY fC.enc (km ay.rp) i.2.2 i.2.1 i.1/\xJ h1 i.2.2) (λ_=>False) (λ_=>False) 0 (λ_ _ _=>False) ([],.map #[] 0,h1) Rb U mo1 U sf (λ_ _ _ _ _ hq=>hq) U (show[z1,(b2,.map #[] 0),z2]=_ from U) ⟨hs0,((kY.nil (enc:=fC.enc) (V:=(km ay.rp)) (h:=h)).mono (km.mono ay.aG) hle1),lf⟩ ?_ ?_ ?_ ?_ ?_
 .rintro l1 dm1 lp1 y1 rz1 vs1 ⟨cg,eB,hh1⟩ hr1 X hFR1 ⟨hs1,iD,hl1⟩ hl01 hlr1 hv1 hX hXM hlp1 nx1 rt1 ex1 pn1
  obtain rfl:=hv1
  let z6:Nat×Obj:=(dm1,.deferred (some []))
  refine bY (L':=[(l1,.loop lp1),z6,z1,(b2,eB),z2]++(markB [])) ap (bM (bJ zc67 (λb6=>bG 0 ty67 U U U U U U (bp (kg 1 U hlp1 (qT 2 U ?_))))))
  let z3:Nat×Obj:=(l1,.loop { lp1 with state:=.busy })
  let z7:Nat×Obj:=(b6,O (ay.cells y1) 67)
  refine fo ([z7,z3,z6,z1,(b2,eB),z2]) mixed kr jn (λim _=>?_)
  refine tf 0 U U (rj 3 ty358 U U U) (tf 1 U U (λ_ _ hj=>lV ty67 U (hj.nth (i:=0) U) U) ?_)
  refine nn 2 7 kr U U ?_ ?_ 
  .refine gu OS (lF hr1 y1) U (⟨jn,?_⟩)
   refine nn 3 7 kr U U ?_ ?_ 
   .refine mL 4 (k:=(cS y1)) LS oq U (iD.mono (km.mono ay.aG) hlr1) (eG zv67) (show(km ay.rp) _ (.agg (xB [I 0,I 0,I 0,I 0,I 0,I 0,I 0,.bool false])) (ay.mk 0 0 0 0 0 0 0 false)from⟨_,U,U⟩) U U (λv3 hv2=>?_)
    obtain⟨_,rfl,rfl⟩:=hv2
    refine⟨jn,qR 4 3 U (tn 7 U (Bj zc67 (λb7=>⟨jn,tn 8 U (uN 0 ty67 U U U U U U (⟨jn,qA [9] U (bW kr (qT 5 U (gz 6 [30,31,32,33,34,35,36] 30 36 (decide ((mgetD cg (cS y1) (ay.mk 0 0 0 0 0 0 0 false)).At<=y1.At)) U (λc1 hk1=>?_) (λe=>?_))))⟩))⟩)))⟩
    .exact qL 6 [1,0] U (hk1 _ U)
    exact Pp
   refine Bj zc67 (λb8=>⟨jn,tn 3 U (mL 5 (k:=(cS y1)) LS oq U (iD.mono (km.mono ay.aG) hlr1) (eG zv67) (show(km ay.rp) _ (.agg (xB [I 0,I 0,I 0,I 0,I 0,I 0,I 0,.bool false])) (ay.mk 0 0 0 0 0 0 0 false)from⟨_,U,U⟩) U U (λv4 hv3=>?_))⟩)
   obtain⟨_,rfl,rfl⟩:=hv3
   refine⟨jn,qR 4 3 U (tn 8 U (uN 0 ty67 U U U U U U (⟨jn,qA [9] U (bW kr (qT 5 U (gz 6 [30,31,32,33,34,35,36] 30 36 (decide ((mgetD cg (cS y1) (ay.mk 0 0 0 0 0 0 0 false)).At<=y1.At)) U (λc3 hk2=>?_) (λe=>?_))))⟩)))⟩
   .exact qL 6 [1,0] U (hk2 _ U)
   refine bp (aI hs1 U (λc4 hs4=>?_) (λc4 hs5=>?_))
   .let z12:Nat×Obj:=(b8,O (ay.cells (mgetD cg (cS y1) (ay.mk 0 0 0 0 0 0 0 false))) 67)
    refine fo ([z12,z7,z3,z6,z1,z2]) mixed kr jn (λNa _=>?_)
    exact tf 0 U U (rj 4 ty358 U U U) (tf 1 U U (λ_ _ hj=>lV ty67 U (hj.nth (i:=1) U) U) (tf 3 U U (λ_ _ hj=>lV ty67 U (hj.nth (i:=1) U) U) (tn 2 U (gu OS (lF hr1 y1) U (⟨jn,tn 4 U (mt 5 (k:=(cS y1)) (x:=y1) LS oq U (iD.mono (km.mono ay.aG) hlr1) U U ⟨_,U,U⟩ (λmo3 hm2=>⟨jn,bW kr (fM (cm (L':=[z3,z6,z1,(b2,mo3),z2]++(markB [])) js (bY (L':=rdH l1 dm1 lp1 (([z1,(b2,mo3),z2])++markB [])) ap (nx1 ((mput cg (cS y1) y1),mo3,hr1) _ _ ⟨hs4,hm2,(hl1.t hlr1)⟩ lf))))⟩))⟩)))))
   exact bO (fM (cm (L':=[z3,z6,z1,(b2,eB),z2]++(markB [])) js (bY (L':=rdH l1 dm1 lp1 (([z1,(b2,eB),z2])++markB [])) ap (nx1 (cg,eB,hr1) _ _ ⟨hs5,(iD.mono (km.mono ay.aG) hlr1),(hl1.t hlr1)⟩ lf))))
  refine Bj zc67 (λb7=>⟨jn,tn 2 U (gu OS (lF hr1 y1) U (⟨jn,tn 3 U (mL 5 (k:=(cS y1)) LS oq U (iD.mono (km.mono ay.aG) hlr1) (eG zv67) (show(km ay.rp) _ (.agg (xB [I 0,I 0,I 0,I 0,I 0,I 0,I 0,.bool false])) (ay.mk 0 0 0 0 0 0 0 false)from⟨_,U,U⟩) U U (λv5 hv3=>?_))⟩))⟩)
  obtain⟨_,rfl,rfl⟩:=hv3
  refine⟨jn,qR 4 3 U (tn 8 U (uN 0 ty67 U U U U U U (⟨jn,qA [9] U (bW kr (qT 5 U (gz 6 [30,31,32,33,34,35,36] 30 36 (decide ((mgetD cg (cS y1) (ay.mk 0 0 0 0 0 0 0 false)).At<=y1.At)) U (λc3 hk2=>?_) (λe=>?_))))⟩)))⟩
  .exact qL 6 [1,0] U (hk2 _ U)
  exact Pp
 .rintro dm1 ⟨cg,eB,hh1⟩ hn1 ⟨hs8,iD,hl1⟩ hln1 hl01
  refine bY (L':=[z1,(b2,eB),z2]++(markB (dm1::[]))) ap (qT 8 U (aH (cw call318 (rW _ _ _ _ ba bq ah (hl.mono ay.aG ((hle1.t hl1).t hln1))) U (λv6 h2 hle2 hp2=>?_))))
  obtain⟨_,rfl,mo5⟩:=hp2
  refine qO 2 U (bY (L':=([z1,(b2,eB),z2])++markB (dm1::[])) ap ?_)
  refine j7 (it:=v6) (xs:=(fQ l ba bq ah)) (ι:=(List ay)×Option Addr×Nat×LH×HF) (dm1::[]) (λi=>i.2.2.2.2) (λi=>[z1,(b2,eB),(b1,O [.slice i.2.1 i.1.length i.2.2.1] 28)]++(i.2.2.2.1)) (λs i=>aP l ba bq ah=((aP.L2 cg (aP.K2)) s i.1)/\cN ay.rp 67 i.2.2.2.2 i.1 i.2.1 i.2.2.1 i.2.2.2.1/\xJ h2 i.2.2.2.2/\i.1.length+s.length<=l.length) (λ_=>False) (λ_=>False) 0 (λ_ _ _=>False) ([],none,0,[],h2) Rb U mo5 U sf (λ_ _ _ _ _ hq=>hq) U (show[z1,(b2,eB),z2]=_ from U) ⟨hs8,cN.nil,lf,(by have hc:=rG l ba bq ah;simpa using hc)⟩ ?_ ?_ ?_ ?_ ?_
  .rintro l2 dm2 lp2 y2 rz2 vs2 ⟨oK,DN,DM,ru,hh2⟩ hr2 X hFR2 ⟨hs9,DL,hl2,u2_0⟩ hl02 hlr2 hv2 hX hXM hlp2 nx2 rt2 ex2 pn2
   obtain rfl:=hv2
   simp only[zA]at u2_0
   let z4:Nat×Obj:=(b1,O [.slice DN oK.length DM] 28)
   let z10:Nat×Obj:=(dm2,.deferred (some []))
   refine bY (L':=[(l2,.loop lp2),z10,z1,(b2,eB),z4]++(ru++(markB (dm1::[])))) ap (bM (bJ zc67 (λb11=>bG 0 ty67 U U U U U U (jf (L':=[(b11,O (ay.cells y2) 67),(l2,.loop lp2),z10,z1,(b2,eB),z4]++(ru++(markB (dm1::[])))) U (bp (kg 1 U hlp2 (qT 2 U ?_)))))))
   refine Eg [(8,Q b1),(13,Q b11),(57,.bool ((!y2.mG)&&(decide ((mgetD cg (cS y2) (ay.mk 0 0 0 0 0 0 0 false))=y2))))] (λe=>?_) (λhk4=>?_)
   rotate_left
   .refine fo ([(b11,O (ay.cells y2) 67),(l2,.loop { lp2 with state:=.busy }),z10,z1,(b2,eB),z4]) mixed kr jn (λVR _=>?_)
    refine qB [0] U (tf 1 U U (rj 0 ty4 U U U) (qA [2,3] U ?_))
    refine fJ 50 U (λc7=>?_) (λc7=>?_)
    .refine tf 4 U U (rj 3 ty358 U U U) (tf 5 U U (λ_ _ hj=>lV ty67 U (hj.nth (i:=0) U) U) (tf 8 U U (λ_ _ hj=>lV ty67 U (hj.nth (i:=0) U) U) (tn 6 U (gu OS (lF hr2 y2) U (⟨jn,tn 7 U (nq 4 (k:=(cS y2)) LS oq U (iD.mono (km.mono ay.aG) (((hln1.t hle2).t hl2).t hlr2)) (eG zv67) (show(km ay.rp) _ (.agg (xB [I 0,I 0,I 0,I 0,I 0,I 0,I 0,.bool false])) (ay.mk 0 0 0 0 0 0 0 false)from⟨_,U,U⟩) U U (λv8 hv6=>?_))⟩)))))
     obtain⟨_,rfl,rfl⟩:=hv6
     exact⟨jn,tf 9 U U (λ_ _ _=>JY (Lt (mgetD cg (cS y2) (ay.mk 0 0 0 0 0 0 0 false)) y2) eqg67 U U) (qA [10] U (bW kr (hk4 _ ⟨U,U,(cb (show(decide ((mgetD cg (cS y2) (ay.mk 0 0 0 0 0 0 0 false))=y2))=((!y2.mG)&&(decide ((mgetD cg (cS y2) (ay.mk 0 0 0 0 0 0 0 false))=y2)))from by rw[c7]<;>rfl)),trivial⟩)))⟩
    exact tk 4 U U (qR 5 6 U (bW kr (hk4 _ ⟨U,U,(cb (show false=((!y2.mG)&&(decide ((mgetD cg (cS y2) (ay.mk 0 0 0 0 0 0 0 false))=y2)))from by rw[c7]<;>rfl)),trivial⟩)))
   refine aI hs9 U (λc8 hs10=>?_) (λc8 hs11=>?_)
   .refine qK 2 [5] U (du 0 ty67 U U U (aH (bT (cells:=[I y2.No,I y2.At,I y2.dU,I y2.Doc,I y2.By,I y2.For,I y2.ep,.bool y2.mG]) zz ty67 zc67 U U kr (λb12=>?_))))
    let z8:Nat×Obj:=(b12,O [I y2.No,I y2.At,I y2.dU,I y2.Doc,I y2.By,I y2.For,I y2.ep,.bool y2.mG] 67)
    let z9:Nat×Obj:=(l2,.loop { lp2 with state:=.busy })
    let z14:Nat×Obj:=(b11,O (ay.cells y2) 67)
    refine aH (eN ay.dl ([z8,z14,z9,z10,z1,(b2,eB),z4]) (markB (dm1::[])) (λG=>[z8,z14,z9,z10,z1,(b2,eB),z4]++(markB (dm1::[])++G)) ap (λ_=>ap) zz ty67 zc67 U bytes67 (DL.mono ay.aG hlr2) U U (gV 0 U (cE y2 U U)) lo lo (λob1 oc1 G1 gr1=>qI (qi ([z8,z14,z9,z10,z1,(b2,eB),z4]) G1 (markB (dm1::[]))) (cU 6 ty28 U U U U U U (qO 2 U ?_))))
    let z15:Nat×Obj:=(b1,O [.slice ob1 ((oK++[y2]).length) oc1] 28)
    exact cm (L':=[z9,z10,z1,(b2,eB),z15]++(G1++(markB (dm1::[])))) js (bY (L':=rdH l2 dm2 lp2 (([z1,(b2,eB),z15]++G1)++markB (dm1::[]))) ap (nx2 ((oK++[y2]),ob1,oc1,G1,hr2) _ _ ⟨hs10,gr1,(hl2.t hlr2),(by first|omega|(simp only[vA,zA,zB]at *;omega))⟩ lf))
   exact bO (fM (cm (L':=[(l2,.loop { lp2 with state:=.busy }),z10,z1,(b2,eB),z4]++(ru++(markB (dm1::[])))) js (bY (L':=rdH l2 dm2 lp2 (([z1,(b2,eB),z4]++(ru))++markB (dm1::[]))) ap (nx2 (oK,DN,DM,ru,hr2) _ _ ⟨hs11,(DL.mono ay.aG hlr2),(hl2.t hlr2),(by first|omega|(simp only[vA,zA,zB]at *;omega))⟩ lf))))
  .rintro dm2 ⟨oK,DN,DM,ru,hh2⟩ hn2 ⟨hs12,DL,hl2,u2_0⟩ hln2 hl02
   let z5:Nat×Obj:=(b1,O [.slice DN oK.length DM] 28)
   refine bY (L':=[z1,(b2,eB),z5]++(ru++(markB (dm2::(dm1::[]))))) ap (qK 4 [2] U (cU 2 ty28 U U U U U U (bp ?_)))
   have hs13:aP l ba bq ah=oK:=hs12
   exact bY (L':=([z1,(b2,eB),z5]++(ru))++markB (dm2::(dm1::[]))) ap (S6 (dm2::(dm1::[])) (A:=[z1,(b2,eB),z5]) (G:=ru) (Q:=[]) Rb U hX ap (λh1=>cN.flat (λ_ _ _ _ e=>e) (DL.mono ay.aG hln2)) ⟨⟨2,_,_,_,_,U,U,.inr ⟨_,ty28,U⟩⟩,trivial⟩ hs13)
  .exact xf
  .exact xf
  exact xf
 .exact xf
 .exact xf
 exact xf
theorem yH(l:List ay)(ba bq ah):(aP l ba bq ah).length<=l.length:=by
 have h2:∀(g:List (fC×ay))(s acc:List ay),(aP.L2 g aP.K2 s acc).length<=acc.length+s.length:=by
  intro g s
  induction s with
  |nil=>intro acc;exact vE _
  |cons y s ih=>
   intro acc
   simp only[aP.L2,Bool.cond_eq_ite]
   split
   .have:=ih (acc++[y]);simp only[vA,zA,zB]at *;omega
   have:=ih acc;simp only[zA];omega
 have h1:∀(s:List ay)(g:List (fC×ay)),(aP.L1 (aP.K1 l ba bq ah) s g).length<=l.length:=by
  intro s
  induction s with
  |nil=>
   intro g
   have h3:=h2 g (fQ l ba bq ah) []
   have h4:=rG l ba bq ah
   show(aP.L2 g aP.K2 (fQ l ba bq ah) []).length<=l.length
   simp only[zB]at h3;omega
  |cons y s ih=>intro g;simp only[aP.L1,Bool.cond_eq_ite];split<;>exact ih _
 exact h1 _ _
theorem xO(h)(y:ay)(dT begun_q at_ at__q think think_q)(abegun:At h begun_q [I dT])(aat_:At h at__q [I at_])(athink:At h think_q [I think]):Ret prog 290 [.agg (ay.cells y).toArray,.pointer (some begun_q),.pointer (some at__q),.pointer (some think_q)] h (.bool (j1 y dT at_ think)):=by
 refine sT func290 U ntmps290 U λX hM hX hF=>?_
 generalize hz:(j1 y dT at_ think)=z;have hs:=hz.symm
 exact W
end
end Go.Sg
