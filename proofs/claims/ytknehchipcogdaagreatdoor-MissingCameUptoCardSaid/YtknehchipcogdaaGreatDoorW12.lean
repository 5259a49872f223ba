import Derived.Test.YtknehchipcogdaaGreatDoorCards
import Derived.Test.YtknehchipcogdaaGreatDoorTie
import Derived.ProofKit
import Derived.Deep.DeepHandedRow
import Derived.Test.YtknehchipcogdaaGreatDoorW11
/- A part of the proof of MissingCame. -/
set_option linter.unusedVariables false
set_option linter.unusedSimpArgs false
set_option maxRecDepth 100000
open List renaming not_mem_nil→jA,length_append→vA,length_nil→jB,append_assoc→zC,mem_singleton→xC,range→zD,nil_append→vD
open Go.IntKind renaming wrap→vC
open Go.Sg.Register renaming cells→qD,ok→vL,mk→Y3
open Go.Sg.HF renaming le_refl→qF
open Go.Sg.SlC renaming nil→qH
open Nat renaming lt_or_ge→zK

namespace Go.Sg
section
open Go.Proofs Go.Proofs.Tryz
set_option maxHeartbeats 2000000
theorem Dp(h)(a:ai)(no)  : Ret prog 85 [.agg (ai.cells a).toArray,I no] h (I (jY a no)):=by
 refine sVv func85 ntmps85 ?_
 generalize hz:(jY a no)=z
 exact W
theorem EK(x:ai):(ai.cells x).length=8:=rfl
theorem JV{h:HF}{xs:List ai}{bk c:Nat}{sp:List Value}(h3:(xs.flatMap ai.cells++sp).length=c*8)(h4:xs.length<=c)(h5:xs.length<=9223372036854775807):cI ai.rp 67 h xs (zAD bk) c [(bk,.cells (xs.flatMap ai.cells++sp).toArray 67 (0,0))]:=
 .inr ⟨bk,_,sp,rfl,Di (λ_ _=>rfl) EK h xs,h3,h4,h5,rfl⟩
theorem VH(A sp Y_z D:List Value)(h:Y_z.length+D.length<=sp.length):splice (splice (A++sp) A.length Y_z) (A.length+Y_z.length) D=A++(Y_z++(D++sp.drop (Y_z.length+D.length))):=by
 rw[oK Y_z A sp ob,←zC,show A.length+Y_z.length=(A++Y_z).length by simp,oK D (A++Y_z) (sp.drop Y_z.length) (by rw[List.length_drop];omega),List.drop_drop,zC]
theorem Ug(A D sp Y_z:List Value)(h:Y_z.length<=sp.length):∃sp',splice (splice (A++(D++sp)) (A.length+Y_z.length) D) A.length Y_z=A++(Y_z++(D++sp')):=by
 have e1:A++(D++sp)=(A++(D++sp).take Y_z.length)++(D++sp).drop Y_z.length:=by rw[zC,List.take_append_drop]
 have hl:((D++sp).take Y_z.length).length=Y_z.length:=by rw[List.length_take,vA];omega
 have h2:=oK D (A++(D++sp).take Y_z.length) ((D++sp).drop Y_z.length) (by rw[List.length_drop,vA];omega)
 rw[vA,hl]at h2
 refine⟨((D++sp).drop Y_z.length).drop D.length,?_⟩
 rw[e1,h2,zC,oK Y_z A _ (by rw[vA,hl];omega),List.drop_append_of_le_length ob,List.drop_of_length_le ob,vD]
theorem Fq(s:List ai)(i)(x:ai):(s.take i++x::s.drop i).flatMap ai.cells=(s.take i).flatMap ai.cells++(ai.cells x++(s.drop i).flatMap ai.cells):=by
 rw[List.flatMap_append,List.flatMap_cons]
theorem Nn(l:List ai):∀v∈l.flatMap ai.cells,one v=true:=λv hv=>by
 obtain⟨x,_,hx⟩:=List.mem_flatMap.1 hv
 simp only[ai.cells,List.mem_cons,jA,or_false]at hx
 rcases hx with rfl|rfl|rfl|rfl|rfl|rfl|rfl|rfl<;>rfl
theorem call212(args:Array Value)(w:World):(callFunc 163 args).run prog w=((Extern.SlicesOverlaps.overlaps #[28,28] #[4] args).run prog w).andThen λv w'=>.ok (.value v) w':=
 run_callFunc_extern func163 kr kr kr kr args w
theorem pO(h)(s:List ai)(i:Nat)(x:ai)(b c vb G)(hG:cI ai.rp 67 h s b c G)(hi:i<=s.length)(hsz:s.length<=2000000):
  oX prog 88 [.slice b s.length c,I (i:Nat),.slice (zAD vb) 1 1].toArray h (G++[(vb,.cells (ai.cells x).toArray 67 (0,0))]) (λr h' G'=>∃b' c',h'=h/\r=.returned (.slice b' (s.take i++x::s.drop i).length c')/\cI ai.rp 67 h (s.take i++x::s.drop i) b' c' G'):=by
 refine dL S1 U ntmps88 U λX hM hX=>qT 8 U (aM (PL oT ty67 U U hi (λv0=>qL 11 [] U (gE (v':=.bool false) U U (qL 9 [] U (AD [(0,.slice b s.length c),(1,I (i:Int)),(2,.slice (zAD vb) 1 1),(7,I ((1:Nat):Int)),(8,I (s.length:Int))] rd (λe=>?_)))))))
 have hlen:(s.take i++x::s.drop i).length=s.length+1:=by rw[vA,List.length_cons,List.length_take,List.length_drop];omega
 have hxl:(ai.cells x).length=8:=rfl
 have hx1:∀v∈ai.cells x,one v=true:=λv hv=>Nn [x] v (by simpa using hv)
 rcases zK i s.length with hlt|hge
 .refine qT 5 U (fO (decide_eq_false ob) U (qO 3 U ?_))
  rcases hG with⟨rfl,_⟩|⟨bk,cl,sp,rfl,hcl,h3,h4,h5,rfl⟩
  .simp at hlt
  have hcl':=wv (C:=ai.cells) (λ_ _ _ e=>e) hcl
  subst hcl'
  have hgf:cI ai.rp 67 h s (zAD bk) c [(bk,.cells (s.flatMap ai.cells++sp).toArray 67 (0,0))]:=JV h3 h4 h5
  have hsl:=pB EK s
  have htl:=pB EK (s.take i)
  have hdl:=pB EK (s.drop i)
  rw[List.length_take,Nat.min_eq_left (Nat.le_of_lt hlt)]at htl
  rw[List.length_drop]at hdl
  have hsplit:s.flatMap ai.cells=(s.take i).flatMap ai.cells++(s.drop i).flatMap ai.cells:=by rw[←List.flatMap_append,List.take_append_drop]
  rw[vA]at h3
  replace h3:(s.flatMap ai.cells).length+sp.length=c*8:=h3
  obtain⟨m,hm⟩:∃m,s.length-i=m:=⟨_,rfl⟩
  refine qT 5 U (gE (v':=I ((s.length+1:Nat):Int)) U (mO ob) (cN (aM (em (Od oT U) ?_))))
  rcases zK c (s.length+1)with hno|hro
  .refine tO (decide_eq_true ob) U (qO 6 U (aM (HW (z:=(i:Int)) oT ty67 hgf ob U U U (qO 2 U (gE (v':=I ((s.length+1:Nat):Int)) U (mO ob) (cN (gE (v':=I ((m+1:Nat):Int)) U (by rw[kW ob];congr 1;omega) ?_)))))))
   have htk:(s.take ((i:Int)).toNat)=s.take i:=by rw[Int.toNat_natCast]
   rw[htk]
   have htn:(s.take i).length=i:=by rw[List.length_take];omega
   refine aM (E3 (R:=ai.rp) (xs:=s.take i) (k:=m+1) (kn:=.i64) [] [(bk,.cells (s.flatMap ai.cells++sp).toArray 67 (0,0))] [(vb,.cells (ai.cells x).toArray 67 (0,0))] U oT nz ty67 zc67 U (by decide) bytes67 (hgf.take i) U U U ob ob ob ob (λb2 cl2 sp2 c2 hc2 hl2 hr2=>?_))
   have hc2':=wv (C:=ai.cells) (λ_ _ _ e=>e) hc2
   subst hc2'
   rw[vA,htl]at hl2
   rw[htn]at hr2 ⊢
   have hc2b:s.length+1<=c2:=by omega
   have hn1:i+(m+1)=s.length+1:=by omega
   rw[hn1]
   replace hl2:i*8+sp2.length=c2*8:=hl2
   refine an (AD [(0,.slice (zAD bk) s.length c),(1,I (i:Int)),(2,.slice (zAD vb) 1 1),(7,I ((1:Nat):Int)),(9,.slice (zAD b2) (s.length+1) c2)] rd (λe=>qT 4 U (aM (em (v:=.slice (some ⟨b2,i*8,none⟩) (m+1) (c2-i)) (pw oT ty67 U U ob hc2b ob) (cN ?_)))))
   have hmn:Nat.min 1 (m+1)=1:=Nat.min_eq_left ob
   refine aM (Ms 0 2 (vs:=ai.cells x) oT ty67 U U U U (by rw[hmn];rfl) (λq v hq=>by rw[Nat.zero_add];exact hq) (by rw[vA,htl,hxl];omega) hx1 (bM (AD [(0,.slice (zAD bk) s.length c),(1,I (i:Int)),(2,.slice (zAD vb) 1 1),(7,I ((1:Nat):Int)),(9,.slice (zAD b2) (s.length+1) c2)] rd (λe=>dZ (fQ [] mixed kr ⟨qF _,λ_ hq=>(jA hq).elim⟩ (λhsep hJ=>ic 0 hsep hJ U U kr U (λ_ _ _=>ku) (ic 1 hsep hJ U U kr U (λ_ _ _=>ku) (ic 2 hsep hJ U U kr U (λ_ _ _=>ku) (ic 3 hsep hJ U U kr U (λ_ _ _=>Oe (v:=I ((i+1:Nat):Int)) (congrArg some (mO ob))) (ic 4 hsep hJ U U kr U (λ_ _ _=>pw (m:=m) (i:=i+1) oT ty67 U U ob hc2b ob) (ic 5 hsep hJ U U kr U (λ_ _ _=>ku) (ic 6 hsep hJ U U kr U (λ_ _ _=>ku) (ic 7 hsep hJ U U kr U (λ_ _ _=>pw (m:=m) (i:=i) oT ty67 U U hlt h4 hm) ?_)))))))))))))
   have hmm:Nat.min m m=m:=Nat.min_self m
   have e1:(i+1)*8=((s.take i).flatMap ai.cells).length+(ai.cells x).length:=by rw[htl,hxl,Nat.add_mul]
   have e0:i*8=((s.take i).flatMap ai.cells).length:=htl.symm
   have hsp:=VH ((s.take i).flatMap ai.cells) sp2 (ai.cells x) ((s.drop i).flatMap ai.cells) (by rw[hxl,hdl];omega)
   rw[←e1,←e0]at hsp
   refine tn 8 U (Ms 0 1 (vs:=(s.drop i).flatMap ai.cells) oT ty67 U U U U (by rw[hmm,hdl,hm]) (λq v hq=>?_) (by rw[oP,vA,htl,hdl];omega) (Nn _) ?_)
   .rw[hsplit,zC,List.getElem?_append_right ob,htl,Nat.add_sub_cancel_left,List.getElem?_append_left (List.getElem?_eq_some_iff.1 hq).1];exact hq
   refine⟨hJ.up lf |> λ_=>⟨qF _,λ_ hq=>(jA hq).elim⟩,dO kr (qT 5 U (dE (L':=[(b2,.cells (splice (splice ((s.take i).flatMap ai.cells++sp2) (i*8) (ai.cells x)) ((i+1)*8) ((s.drop i).flatMap ai.cells)).toArray 67 (0,0))]) js ?_))⟩
   refine mp S1 (λa ha w hw=>res1 U a ha w) (λw hw=>hw.lower) ⟨zAD b2,c2,hX,?_,?_⟩
   .rw[hlen];rfl
   rw[hsp,←zC (ai.cells x),←zC,←Fq]
   refine JV ?_ (by rw[hlen];omega) (by rw[hlen];omega)
   rw[vA,pB EK,hlen,List.length_drop,hxl,hdl];omega
  refine fO (decide_eq_false ob) U (qO 8 U (gE (v':=I ((s.length+1:Nat):Int)) U (mO ob) (aM (em (v:=.slice (zAD bk) (s.length+1) c) (E7 oT ty67 U U hro) (an (AD [(0,.slice (zAD bk) (s.length+1) c),(1,I (i:Int)),(2,.slice (zAD vb) 1 1),(7,I ((1:Nat):Int))] rd (λe=>qT 7 U (oi i U (aM (em (v:=.slice (some ⟨bk,(i+1)*8,none⟩) m (c-(i+1))) (pw oT ty67 U U ob hro ob) (aM (WE 1 0 call212 oT ty67 U U U (by decide) (by rw[vA,hsl];omega) (qO 3 U (AD [(0,.slice (zAD bk) (s.length+1) c),(1,I (i:Int)),(2,.slice (zAD vb) 1 1),(7,I ((1:Nat):Int))] rd (λe=>dZ (fQ [] mixed kr ⟨qF _,λ_ hq=>(jA hq).elim⟩ (λhsep hJ=>ic 0 hsep hJ U U kr U (λ_ _ _=>ku) (ic 1 hsep hJ U U kr U (λ_ _ _=>ku) (ic 2 hsep hJ U U kr U (λ_ _ _=>ku) (ic 3 hsep hJ U U kr U (λ_ _ _=>Oe (v:=I ((i+1:Nat):Int)) (congrArg some (mO ob))) (ic 4 hsep hJ U U kr U (λ_ _ _=>pw (m:=m) (i:=i+1) oT ty67 U U ob hro ob) (ic 5 hsep hJ U U kr U (λ_ _ _=>ku) (ic 6 hsep hJ U U kr U (λ_ _ _=>ku) (ic 7 hsep hJ U U kr U (λ_ _ _=>pw (m:=m+1) (i:=i) oT ty67 U U ob hro ob) ?_))))))))))))))))))))))))
  have hmm:Nat.min (m+1) m=m:=Nat.min_eq_right ob
  refine tn 8 U (Ms 0 0 (vs:=(s.drop i).flatMap ai.cells) oT ty67 U U U U (by rw[hmm,hdl,hm]) (λq v hq=>?_) (by rw[vA,hsl,hdl];omega) (Nn _) ?_)
  .rw[hsplit,zC,List.getElem?_append_right ob,htl,Nat.add_sub_cancel_left,List.getElem?_append_left (List.getElem?_eq_some_iff.1 hq).1];exact hq
  refine⟨⟨qF _,λ_ hq=>(jA hq).elim⟩,dO kr (AD [(0,.slice (zAD bk) (s.length+1) c),(1,I (i:Int)),(2,.slice (zAD vb) 1 1),(7,I ((1:Nat):Int))] rd (λe=>qT 4 U (aM (em (v:=.slice (some ⟨bk,i*8,none⟩) (m+1) (c-i)) (pw oT ty67 U U ob hro ob) (cN ?_)))))⟩
  have hmn:Nat.min 1 (m+1)=1:=Nat.min_eq_left ob
  refine aM (Ms 0 1 (vs:=ai.cells x) oT ty67 U U U U (by rw[hmn];rfl) (λq v hq=>by rw[Nat.zero_add];exact hq) (by rw[oP,vA,hsl,hxl];omega) hx1 (qO 6 U ?_))
  have e1:(i+1)*8=((s.take i).flatMap ai.cells).length+(ai.cells x).length:=by rw[htl,hxl,Nat.add_mul]
  have e0:i*8=((s.take i).flatMap ai.cells).length:=htl.symm
  obtain⟨sp',hsp⟩:=Ug ((s.take i).flatMap ai.cells) ((s.drop i).flatMap ai.cells) sp (ai.cells x) (by rw[hxl];omega)
  rw[←e1,←e0,←zC ((s.take i).flatMap ai.cells),←hsplit]at hsp
  have hl9:=congrArg List.length hsp
  rw[oP,oP]at hl9
  simp only[vA]at hl9
  refine dE (L':=[(bk,.cells (splice (splice (s.flatMap ai.cells++sp) ((i+1)*8) ((s.drop i).flatMap ai.cells)) (i*8) (ai.cells x)).toArray 67 (0,0))]) js ?_
  refine mp S1 (λa ha w hw=>res1 U a ha w) (λw hw=>hw.lower) ⟨zAD bk,c,hX,?_,?_⟩
  .rw[hlen];rfl
  rw[hsp,←zC (ai.cells x),←zC,←Fq]
  refine JV ?_ (by rw[hlen];omega) (by rw[hlen];omega)
  rw[vA,Fq,vA,vA];omega
 have hie:i=s.length:=by omega
 subst hie
 refine qT 5 U (tO (decide_eq_true U) U (qO 6 U (aM (fd (R:=ai.rp) (xs:=s) (ys:=[x]) (G:=G) ai.eF [] [(vb,.cells (ai.cells x).toArray 67 (0,0))] (λG'=>[(vb,.cells (ai.cells x).toArray 67 (0,0))]++G') U (λ_=>U) oT ty67 zc67 U bytes67 hG U U (iM (R:=ai.rp) (ys:=[x]) G.length (Hi G _ []) ⟨_,[],by simp,U,U,U⟩) lo lo (λb' c' G' hG'=>an (dE (List.sublist_append_right _ G') ?_))))))
 refine mp S1 (λa ha w hw=>res1 U a ha w) (λw hw=>hw.lower) ⟨b',c',hX,?_,?_⟩
 .rw[List.take_length,List.drop_length];rfl
 rw[List.take_length,List.drop_length];exact hG'
theorem pV(h l b c)(hl:SlC ai.rp h b c l)(hsz:l.length<=2000000):
  oX prog 89 [.slice b l.length c].toArray h [] (λr h' G'=>∃b' c',h'=h/\r=.returned (.slice b' l.length c')/\cI ai.rp 67 h l b' c' G'):=by
 refine dL func89 U ntmps89 U λX hM hX=>qT 8 U (aM (em (Vs oT U U) ?_))
 cases b with
 |none=>
  have h0:l=[]:=by
   cases l with
   |nil=>rfl
   |cons x l=>obtain⟨p,cs_z,e,_⟩:=hl.1.2 0 x rfl;cases e
  subst h0
  exact bM (qT 5 U (mp func89 (λa ha w hw=>res1 U a ha w) (λw hw=>hw.lower) ⟨none,0,hX,U,cI.nil⟩))
 |some b=>
  exact bM (qT 4 U (aM (sM oT ty67 (λbk=>cN (aM (fd (R:=ai.rp) (xs:=[]) (ys:=l) (base:=zAD bk) (cap:=0) (G:=[(bk,.cells #[] 67 (0,0))]) ai.eF [] [] (λG=>G) U (λ_=>U) oT ty67 zc67 U bytes67 (cI.lit (cl:=[]) U U) U U (lH hl.1) (by simp only[jB];omega) (by simp only[jB];omega) (λb' c' G' hG=>an (mp func89 (λa ha w hw=>res1 U a ha w) (λw hw=>hw.lower) ⟨b',c',hX,U,hG⟩))))))))
theorem FC(h l fm fj)(x:ai)(hl:SlC ai.rp h fm fj l):
  jv prog 22 [.slice fm l.length fj,.agg (ai.cells x).toArray] h (λv h'=>∃(rb0:Option Addr)(rc0:Nat),v=.tuple #[.slice rb0 (dG l x).1.length rc0,I (dG l x).2]/\SlC ai.rp h' rb0 rc0 (dG l x).1):=by
 refine sT func22 U ntmps22 U λX hM hX hF=>?_
 have hs0:=@rfl _ (dG l x)
 refine sr (iA (λb3=>qO 7 U (dP call51 (qZ h l fm fj hl) U (qO 7 U (cQ hs0 U (λc1 hs1=>?_) (λc1 hs1=>?_))))))
 .refine qT 6 U ?_
  refine nretH [zSN,I (aX l)] ⟨none,0,?_,?_⟩
  .rw[hs1];rfl
  rw[hs1];exact qH
 have hc:aX l=0:=by simpa using c1
 obtain⟨hsz,hinc⟩:=qg hc
 refine qK 6 [0] U (dP call84 (pX h l fm fj x.No jY (.func (.func 85) #[] #[]) (addAt l x.No) hl (λh' fh CE dN=>jd call85 (Dp h' fh CE)) (J3 l x.No) (PA l x.No) (PB hinc x.No) ob) U ?_)
 rw[PC hinc]
 refine cN (oM (vs:=[I ((addAt l x.No:Nat):Int),.bool (l.any (λy=>y.No==x.No))]) U U (oM (vs:=[I ((addAt l x.No:Nat):Int),.bool (l.any (λy=>y.No==x.No))]) U U (qO 3 U (AD [(0,.slice fm l.length fj),(3,Q b3),(6,I ((addAt l x.No:Nat):Int)),(7,.bool (l.any (λy=>y.No==x.No)))] rd (λe=>qT 4 U (eS 0 ty67 U U U (dP call87 (wz h x) U (qO 3 U (cQ hs1 U (λc2 hs2=>?_) (λc2 hs2=>?_))))))))))
 .refine qT 5 U ?_
  refine nretH [zSN,I 280] ⟨none,0,?_,?_⟩
  .rw[hs2];rfl
  rw[hs2];exact qH
 refine qT 5 U (cQ hs2 U (λc3 hs3=>?_) (λc3 hs3=>?_))
 .refine qT 5 U ?_
  refine nretH [zSN,I 151] ⟨none,0,?_,?_⟩
  .rw[hs3];rfl
  rw[hs3];exact qH
 refine qK 7 [] U (cQ hs3 U (λc4 hs4=>?_) (λc4 hs4=>?_))
 .refine qT 5 U ?_
  refine nretH [zSN,I 2] ⟨none,0,?_,?_⟩
  .rw[hs4];rfl
  rw[hs4];exact qH
 refine qT 2 U (AD [(0,.slice fm l.length fj),(3,Q b3),(6,I ((addAt l x.No:Nat):Int))] rd (λe=>dZ ?_))
 let z1:Nat×Obj:=(b3,.cells (ai.cells x).toArray 67 (0,0))
 refine fQ [z1] mixed kr jn (λhsep hJ=>?_)
 have hJ':∀{L:LH}(B:LH),Jst h [z1] h (B++z1::L):=λB=>⟨qF _,λp hp=>List.mem_append_right _ (by rw[xC.1 hp];exact List.mem_cons_self)⟩
 refine ic 0 hsep hJ U U kr U (λ_ _ _=>ku) (ic 2 hsep hJ U U kr U (λ_ _ _=>ku) (ic 3 hsep hJ U U kr U (λ_ _ hj=>oA ty67 U (hj.nth (i:=0) U) U) ?_))
 have hins:l.take (addAt l x.No)++x::l.drop (addAt l x.No)=(dG l x).1:=by rw[hs4,J1,J4]
 have fin:∀(A0 Q_z:LH)(G:LH)(bb:Option Addr)(cc:Nat)(e:Env),cI ai.rp 67 h (dG l x).1 bb cc G->e 4=.slice bb (dG l x).1.length cc->e 5=I 0->TT prog (bodyFrame 22) 36 [.code .ret] (kU prog X (λx' h' B=>B=[]/\∃v,x'=.returned v/\∃(rb0:Option Addr)(rc0:Nat),v=.tuple #[.slice rb0 (dG l x).1.length rc0,I (dG l x).2]/\SlC ai.rp h' rb0 rc0 (dG l x).1)) e [] X h (A0++(G++Q_z)):=λA0 Q_z G bb cc e hg h4 h5=>by
  refine ib ai.aK A0 G Q_z U hM hg (λh2 dN hsl=>lD [.slice bb (dG l x).1.length cc,I 0] func22 U ⟨h4,h5,trivial⟩ ⟨bb,cc,?_,hsl⟩)
  rw[hs4];rfl
 refine nq 1 4 kr U U ?_ ?_
 .refine DP [] [] [z1] (λG=>G++[z1]) call89 (pV h l fm fj hl ob) U (λ_=>U) U (λb1 c1 G1 hG1=>⟨hJ' G1,tn 4 U (bW (cells:=ai.cells x) oT ty67 zc67 U U kr (λvb=>⟨hJ' (_::G1),tn 5 U (EZ (L':=[]++((G1++[(vb,.cells (ai.cells x).toArray 67 (0,0))])++[z1])) (by rw[vD,zC];exact(List.perm_middle (l₁:=G1) (l₂:=[z1]) (a:=(vb,O (ai.cells x) 67))).symm) (DP [] (G1++[(vb,.cells (ai.cells x).toArray 67 (0,0))]) [z1] (λG=>G++[z1]) call88 (pO h l (addAt l x.No) x b1 c1 vb G1 hG1 (J3 l x.No) ob) U (λ_=>U) U (λb2 c2 G2 hG2=>⟨hJ' G2,?_⟩)))⟩))⟩)
  rw[hins]at hG2 ⊢
  exact ic 6 hsep (hJ' G2) U U kr U (λ_ _ _=>AS) (ic 7 hsep (hJ' G2) U U kr U (λ_ _ _=>AS) (dO kr (fin [] _ G2 b2 c2 _ hG2 U U)))
 refine bW (cells:=ai.cells x) oT ty67 zc67 U U kr (λvb=>⟨hJ' [_],tn 1 U (DP [] [] [(vb,.cells (ai.cells x).toArray 67 (0,0)),z1] (λG=>G++[(vb,.cells (ai.cells x).toArray 67 (0,0)),z1]) call89 (pV h l fm fj hl ob) U (λ_=>U) U (λb1 c1 G1 hG1=>⟨⟨qF _,λp hp=>by rw[xC.1 hp];simp⟩,tn 5 U (DP [] (G1++[(vb,.cells (ai.cells x).toArray 67 (0,0))]) [z1] (λG=>G++[z1]) call88 (pO h l (addAt l x.No) x b1 c1 vb G1 hG1 (J3 l x.No) ob) (by simp) (λ_=>U) U (λb2 c2 G2 hG2=>⟨hJ' G2,?_⟩))⟩))⟩)
 rw[hins]at hG2 ⊢
 exact ic 6 hsep (hJ' G2) U U kr U (λ_ _ _=>AS) (ic 7 hsep (hJ' G2) U U kr U (λ_ _ _=>AS) (dO kr (fin [] _ G2 b2 c2 _ hG2 U U)))
end
section
open Go.Proofs Go.Proofs.Tryz
set_option maxHeartbeats 2000000
theorem law32_MissingCame_top{w:World}(h:HF)(hp:Pre h [] w)(co:Register)(eP:lu)(signed:List Int)(bK:Option Addr)(bJ:Nat)(u:List Use)(qm:Option Addr)(ql:Nat)(aP:Int)(cL:Int)(ah:Int)(m5:vL h co eP)(gL:SlC Rp.int h bK bJ signed)(hu:SlC Use.rp h qm ql u)(hsm:smR co)(hk:dM h):Calls prog 6 [.agg (qD co eP).toArray,.slice bK signed.length bJ,.slice qm u.length ql,I aP,I cL,I ah].toArray w λe w'=>e=.returned (.bool (aC co signed u aP cL ah))/\RowKit.Below w.heap.size w w':=by
 refine Pt hp Kc U ntmps6 U λX hM hX=>?_
 have hs0:=@rfl _ (aC co signed u aP cL ah)
 have hal:co.bO.length<=2000000:=hsm.2.2.2.2.2.2
 refine sr (iA (λb1=>qO 5 U (dP call14 (KF h  hk) U (qO 2 U (cQ hs0 U (λc1 hs1=>?_) (λc1 hs2=>?_))))))
 .exact sr (an (pU [.bool false] Kc U hX rd (cs hs1)))
 .refine qT 4 U (eS 0 ty30 U U U (qO 5 U (dP call21 (IT _ _ _ _ _ _ _ _ _ aP cL ah m5 gL hu ob) U (qO 2 U (cQ hs2 U (λc2 hs4=>?_) (λc2 hs5=>?_))))))
  .exact sr (an (pU [.bool true] Kc U hX rd (cs hs4)))
  .refine qT 3 U (eS 0 ty30 U U U (qO 5 U (aM (cW S2 (oe _ _ _ _ _ _ _ _ _ aP cL ah m5 gL hu hsm (Ia (by simpa using(by assumption:(!(jp co signed u aP cL ah))=false))) hk (λ_=>(Sj hsm (by simpa using(by assumption:(!(jp co signed u aP cL ah))=false))))) U (λv1 h1 hle1 hp1=>?_)))))
   obtain⟨rb1,rc1,rfl,sl1⟩:=hp1
   refine qO 14 U (cQ hs5 U (λc3 hs7=>?_) (λc3 hs8=>?_))
   .exact sr (an (pU [.bool false] Kc U hX rd (cs hs7)))
   .refine qT 7 U (cQ hs8 U (λc4 hs10=>?_) (λc4 hs11=>?_))
    .exact sr (an (pU [.bool true] Kc U hX rd (cs hs10)))
    .refine qK 13 [0] U ?_
     let z1:Nat×Obj:=(b1,O (qD co eP) 30)
     refine lp1 co.bV (λi w=>[(1,.slice bK signed.length bJ),(2,.slice qm u.length ql),(3,I aP),(4,I cL),(5,I ah),(6,Q b1),(13,.slice rb1 (((bN co signed u aP cL ah).1).length) rc1),(16,I w),(64,.slice eP.FG co.bV.length eP.FF),(65,I (co.bV.length:Int)),(66,I (i:Int))]) ([z1]) (λs1 i w=>(aC.L1 aP (aC.K1 co signed u aP cL ah)) s1 w) 0 ((m5.bV.mono av.aK hle1).1.1) hs11 ?_ ?_
     .rintro i1 iO m4 hs13 e
      refine qK 8 [0] U ?_
      refine lp0 co.Versions (λi=>[(1,.slice bK signed.length bJ),(2,.slice qm u.length ql),(3,I aP),(4,I cL),(5,I ah),(6,Q b1),(13,.slice rb1 (((bN co signed u aP cL ah).1).length) rc1),(16,I iO),(78,.slice eP.mZ co.Versions.length eP.mY),(79,I (co.Versions.length:Int)),(80,I (i:Int))]) ([z1]) (λs2 i=>(aC.L2 cL iO (aC.K2 co signed u aP cL ah iO)) s2 ) ((m5.Versions.mono aD.aK hle1).1.1) hs13 ?_ ?_
      .rintro i2 Ed hs14 e
       refine qK 12 [0] U ?_
       refine lp1 co.bO (λi w=>[(1,.slice bK signed.length bJ),(2,.slice qm u.length ql),(3,I aP),(4,I cL),(5,I ah),(6,Q b1),(13,.slice rb1 (((bN co signed u aP cL ah).1).length) rc1),(16,I iO),(23,I w),(101,.slice eP.ry co.bO.length eP.rx),(102,I (co.bO.length:Int)),(103,I (i:Int))]) ([z1]) (λs5 i w=>(aC.L5 (aC.K5 co signed u aP cL ah iO)) s5 w) 0 ((m5.bO.mono ai.aK hle1).1.1) hs14 ?_ ?_
       .rintro i5 Ef M1 hs15 e
        refine qK 13 [0] U ?_
        refine lp2 ((bN co signed u aP cL ah).1) (λi w=>[(1,.slice bK signed.length bJ),(2,.slice qm u.length ql),(3,I aP),(4,I cL),(5,I ah),(6,Q b1),(16,I iO),(23,I w.1),(26,.slice w.2.2.1 w.2.1.length w.2.2.2.1),(115,.slice rb1 (((bN co signed u aP cL ah).1).length) rc1),(116,I (((bN co signed u aP cL ah).1).length:Int)),(117,I (i:Int))]) (λw=>w.2.2.2.2) (λw=>[z1]) (λi w=>SlC ai.rp w.2.2.2.2 w.2.2.1 w.2.2.2.1 w.2.1/\w.2.1.length<=2000000/\HF.le h1 w.2.2.2.2) (λs6 i w=>(aC.L6 aP iO (aC.K6 co signed u aP cL ah)) s6 w.1 w.2.1) (Ef,co.bO,eP.ry,eP.rx,h1) sl1.1.1 hs15 ⟨(m5.bO.mono ai.aK hle1),lo,(qF h1)⟩ ?_ ?_
        .rintro i6 ⟨I7,yE,Qf,Qe,hh6⟩ Qb hs16 ⟨Qd,Us,hl6⟩ e
         refine sr (eS 0 ty30 U U U (cD zc30 (λb14=>ct 0 ty30 U U U U U U (qL 5 [] U (dD 0 ty28 U U U U U U (qO 3 U (eS 0 ty30 U U U (qO 5 U (aM (cW call9 (Bj _ _ _ _ _ _ _ _ _ aP cL ah (show vL hh6 (Y3 co.da co.eI co.dt co.df co.Versions co.bV yE) (lu.mk eP.wJ eP.wH eP.wD eP.wC eP.ua eP.tZ eP.sY eP.sX eP.mZ eP.mY eP.FG eP.FF Qf Qe)from⟨(m5.da.mono aQ.aK (hle1.t hl6)),(m5.eI.mono bj.aK (hle1.t hl6)),(m5.dt.mono aG.aK (hle1.t hl6)),(m5.df.mono Budget.aK (hle1.t hl6)),(m5.Versions.mono aD.aK (hle1.t hl6)),(m5.bV.mono av.aK (hle1.t hl6)),Qd⟩) (gL.mono Rp.bU (hle1.t hl6)) (hu.mono Use.aK (hle1.t hl6)) ⟨hsm.1,hsm.2.1,hsm.2.2.1,hsm.2.2.2.1,hsm.2.2.2.2.1,hsm.2.2.2.2.2.1,Us⟩ (show co.bV.length<20 from Ia (by simpa using(by assumption:(!(jp co signed u aP cL ah))=false))) (hk.mono (hle1.t hl6))) U (λv2 h2 hle2 hp2=>?_)))))))))))
         obtain⟨rr10,rfl,ok10⟩:=hp2
         refine qO 3 U (cD zc36 (λb15=>ct 0 ty36 U U U U U U (qO 7 U (nY 4 [205,206,207,208,209] 205 209 (((aZ (Y3 co.da co.eI co.dt co.df co.Versions co.bV yE) signed u aP cL ah).1).State==0) U (λc22 hk1=>?_) (λe=>?_)))))
         .exact qL 4 [0] U (hk1 _ U)
         exact an (pU [.bool (((aZ (Y3 co.da co.eI co.dt co.df co.Versions co.bV yE) signed u aP cL ah).2==0)&&(((aZ (Y3 co.da co.eI co.dt co.df co.Versions co.bV yE) signed u aP cL ah).1).State==0))] Kc U hX rd (cs hs16))
        .rintro i6 ⟨I7,yE,Qf,Qe,hh6⟩ y6 rz6 hd6 WY Ul Xs X3 hs18 ⟨Qd,Us,hl6⟩ hx6 ag1 e
         refine sr (tO WY U (qO 8 U (aM (iF eQ.cells Dt ty69 (sl1.mono eQ.aK hl6).1 Ul U U U (λq13 A13=>gV ty69 A13 U U (cD zc69 (λb16=>ct 0 ty69 U U U U U U (qL 8 [0] U (cQ hs18 U (λc23 hs19=>?_) (λc23 hs20=>?_))))))))))
         .exact sr (an (pU [.bool true] Kc U hX rd (cs hs19)))
         .refine qK 8 [0] U (nH 4 [127,128,129,130,131] 127 131 (decide (64<=y6.N)) U (λc24 hk2=>?_) (λe=>?_))
          .exact qL 4 [0] U (hk2 _ U)
          refine bM (cQ hs20 U (λc25 hs22=>?_) (λc25 hs23=>?_))
          .exact sr (an (pU [.bool false] Kc U hX rd (cs hs22)))
          .refine qT 5 U ?_
           let z3:Nat×Obj:=(b16,O (eQ.cells y6) 69)
           refine fZ (ι:=Nat×Int×(List ai)×Option Addr×Nat×HF) (λi=>[(1,.slice bK signed.length bJ),(2,.slice qm u.length ql),(3,I aP),(4,I cL),(5,I ah),(6,Q b1),(16,I iO),(23,I i.2.1),(26,.slice i.2.2.2.1 i.2.2.1.length i.2.2.2.2.1),(115,.slice rb1 (((bN co signed u aP cL ah).1).length) rc1),(116,I (((bN co signed u aP cL ah).1).length:Int)),(117,I (i6:Int))]) (λi=>i.2.2.2.2.2) (λi=>[z3,z1]) (λi=>i.1<=(zD 32).length/\aC co signed u aP cL ah=((λzg10_23 zg10_26=>(aC.L6 aP iO (aC.K6 co signed u aP cL ah) rz6 zg10_23 zg10_26)) i.2.1 i.2.2.1)/\SlC ai.rp i.2.2.2.2.2 i.2.2.2.1 i.2.2.2.2.1 i.2.2.1/\i.2.2.1.length<=2000000/\HF.le hh6 i.2.2.2.2.2) ?_ (λhx10=>?_)
           .rintro⟨i10,ns,pS,Eu,Et,hh10⟩ ⟨Yq,hs25,Cg,VL,hl10⟩ e
            exact fP (bS (oi i6 U (qO 2 U (dE (L':=[z1]) js (ag1 (ns,pS,Eu,Et,hh10) hs25 ⟨Cg,lo,(hl6.t hl10)⟩)))))
           .refine i9 (ι:=Nat×Int×(List ai)×Option Addr×Nat×HF×List Nat) (λi=>[(1,.slice bK signed.length bJ),(2,.slice qm u.length ql),(3,I aP),(4,I cL),(5,I ah),(6,Q b1),(16,I iO),(23,I i.2.1),(26,.slice i.2.2.2.1 i.2.2.1.length i.2.2.2.2.1),(28,Q b16),(115,.slice rb1 (((bN co signed u aP cL ah).1).length) rc1),(116,I (((bN co signed u aP cL ah).1).length:Int)),(117,I (i6:Int)),(132,I (i.1:Int))]) (λi=>i.2.2.2.2.2.1) (λi=>[z3,z1]) (λi=>(zD 32).drop i.1=i.2.2.2.2.2.2/\i.1<=(zD 32).length/\aC co signed u aP cL ah=((aC.L10 aP iO y6 (λzg10_23 zg10_26=>(aC.L6 aP iO (aC.K6 co signed u aP cL ah) rz6 zg10_23 zg10_26))) i.2.2.2.2.2.2 i.1 i.2.1 i.2.2.1)/\SlC ai.rp i.2.2.2.2.2.1 i.2.2.2.1 i.2.2.2.2.1 i.2.2.1/\i.2.2.1.length<=2000000/\HF.le hh6 i.2.2.2.2.2.1) (λi=>i.2.2.2.2.2.2.length) (0,I7,yE,Qf,Qe,hh6,(zD 32)) rd sw ⟨U,Nat.zero_le _,hs23,Qd,lo,(qF hh6)⟩ ?_
            rintro⟨i10,ns,pS,Eu,Et,hh10,s10⟩ ⟨hd10,Xv,hs26,Cg,VL,hl10⟩ ag2 e
            rcases s10 with _|⟨y10,rz10⟩
            .have Xy:decide ((i10:Int)<32)=false:=by simpa using oW hd10
             exact sr (fO Xy U (qO 4 U (hx10 (i10,ns,pS,Eu,Et,hh10) _ ⟨Xv,hs26,Cg,lo,hl10⟩ rd)))
            .have Xu:decide ((i10:Int)<32)=true:=by simpa using wp hd10
             have X2:i10<32:=by simpa using iy hd10
             refine sr (tO Xu U (qL 21 [0,0] U (aM (ja (cells:=[I ns,I iO,I 0,I aP,I y6.N,I y6.N,I (i10:Int),.bool false]) (places:=[(0,1),(1,1),(2,1),(3,1),(4,1),(5,1),(6,1),(7,1)]) Tl zc67 kr kr (cD zc67 (λb19=>ct 0 ty67 U U U U U U (qL 8 [] U ?_)))))))
             let z2:Nat×Obj:=(b19,O [I ns,I iO,I 0,I aP,I y6.N,I y6.N,I (i10:Int),.bool false] 67)
             refine lp0 pS (λi=>[(1,.slice bK signed.length bJ),(2,.slice qm u.length ql),(3,I aP),(4,I cL),(5,I ah),(6,Q b1),(16,I iO),(23,I ns),(26,.slice Eu pS.length Et),(28,Q b16),(29,I (i10:Int)),(30,Q b19),(115,.slice rb1 (((bN co signed u aP cL ah).1).length) rc1),(116,I (((bN co signed u aP cL ah).1).length:Int)),(117,I (i6:Int)),(132,I (i10:Int)),(144,.slice Eu pS.length Et),(145,I (pS.length:Int)),(146,I (i:Int))]) ([z2,z3,z1]) (λs12 i=>(aC.L12 aP y6 i10 ((bif((dG pS (ai.mk ns iO 0 aP y6.N y6.N (i10:Int) false)).2 != 0)then decide (1048576<ns)else(aC.L10 aP iO y6 (λzg10_23 zg10_26=>(aC.L6 aP iO (aC.K6 co signed u aP cL ah) rz6 zg10_23 zg10_26)) rz10 ((i10+1)) (vC .i64 (ns+1)) ((dG pS (ai.mk ns iO 0 aP y6.N y6.N (i10:Int) false)).1))))) s12 ) Cg.1.1 hs26 ?_ ?_
             .rintro i12 Yp hs28 e
              refine qT 3 U (eS 0 ty67 U U U (aM (cW call22 (FC _ _ _ _ (ai.mk ns iO 0 aP y6.N y6.N (i10:Int) false) Cg) U (λv3 h3 hle3 hp3=>?_))))
              obtain⟨rb2,rc2,rfl,sl2⟩:=hp3
              refine qO 12 U (cQ hs28 U (λc27 hs29=>?_) (λc27 hs30=>?_))
              .exact sr (qO 4 U (pU [.bool (decide (1048576<ns))] Kc U hX rd (cs hs29)))
              .exact iL (qT 9 U (oi i10 U (qO 2 U (dE (L':=[z3,z1]) js (ag2 ((i10+1),(vC .i64 (ns+1)),(dG pS (ai.mk ns iO 0 aP y6.N y6.N (i10:Int) false)).1,rb2,rc2,h3,rz10) _ (Nat.lt_succ_self _) ⟨ll hd10,iy hd10,hs30,sl2,Nat.le_trans (V8 _ _) (by decide),(hl10.t hle3)⟩ rd)))))
             .rintro i12 y12 rz12 hd12 Xt WZ X0 Yl hs32 hx12 ag3 e
              refine sr (tO Xt U (qO 8 U (aM (iF ai.cells oT ty67 Cg.1 WZ U U U (λq16 A16=>gV ty67 A16 U U (cD zc67 (λb21=>ct 0 ty67 U U U U U U (qL 8 [0] U (nY 6 [154,155,156,157,158,159,160] 154 160 (y12.By==y6.N) U (λc28 hk3=>?_) (λe=>?_))))))))))
              .exact qL 6 [0,2] U (hk3 _ U)
              refine cN (nY 6 [161,162,163,164,165,166,167] 161 167 (y12.For==y6.N) U (λc29 hk4=>?_) (λe=>?_))
              .exact qL 6 [0,2] U (hk4 _ U)
              refine cN (nY 5 [168,169,170,171,172,173] 168 173 (y12.ea==(i10:Int)) U (λc30 hk5=>?_) (λe=>?_))
              .exact qL 5 [0] U (hk5 _ U)
              refine bM (cQ hs32 U (λc31 hs33=>?_) (λc31 hs34=>?_))
              .exact sr (an (pU [.bool true] Kc U hX rd (cs hs33)))
              .exact iL (qT 2 U (oi i12 U (qO 2 U (dE (L':=[z2,z3,z1]) js (ag3 hs34)))))
       .rintro i5 Ef y5 rz5 hd5 XZ Xw Yk Yr hs36 hx5 ag4 e
        exact sr (tO XZ U (qO 8 U (aM (iF ai.cells oT ty67 (m5.bO.mono ai.aK hle1).1 Xw U U U (λq17 A17=>gV ty67 A17 U U (cD zc67 (λb22=>ct 0 ty67 U U U U U U (qL 6 [0] U (aM (em (TN U U) (qO 4 U (oi i5 U (qO 2 U (dE (L':=[z1]) js (ag4 (max Ef (vC .i64 (y5.No+1))) hs36)))))))))))))))
      .rintro i2 y2 rz2 hd2 Ar uv I2 Qc hs37 hx2 ag5 e
       refine sr (tO Ar U (qO 8 U (aM (iR Ht ty63 (m5.Versions.mono aD.aK hle1).1 uv U U U (λ_ _ _ e=>e) (λq18 r10 A18 ok11=>gV ty63 A18 U U (cD zc63 (λb23=>ct 0 ty63 U U U U U U (qL 9 [0] U ?_))))))))
       refine lp0 y2.ay.cZ (λi=>[(1,.slice bK signed.length bJ),(2,.slice qm u.length ql),(3,I aP),(4,I cL),(5,I ah),(6,Q b1),(13,.slice rb1 (((bN co signed u aP cL ah).1).length) rc1),(16,I iO),(78,.slice eP.mZ co.Versions.length eP.mY),(79,I (co.Versions.length:Int)),(80,I (i2:Int)),(86,.slice r10.ay.pN y2.ay.cZ.length r10.ay.pM),(87,I (y2.ay.cZ.length:Int)),(88,I (i:Int))]) ([(b23,O (aD.cells y2 r10) 63),z1]) (λs4 i=>(aC.L4 cL iO ((aC.L2 cL iO (aC.K2 co signed u aP cL ah iO) rz2 ))) s4 ) ok11.ay.cZ.1.1 hs37 ?_ ?_
       .rintro i4 Yo hs38 e
        exact fP (bS (oi i2 U (qO 2 U (dE (L':=[z1]) js (ag5 hs38)))))
       .rintro i4 y4 rz4 hd4 Uk Xx LA Ys hs39 hx4 ag6 e
        refine sr (tO Uk U (qO 8 U (aM (iR Hu ty65 ok11.ay.cZ.1 Xx U U U (λ_ _ _ e=>e) (λq20 r12 A20 ok13=>gV ty65 A20 U U (cD zc65 (λb25=>ct 0 ty65 U U U U U U (qL 10 [0] U (cQ hs39 U (λc33 hs40=>?_) (λc33 hs41=>?_))))))))))
        .have c33p:=of_decide_eq_true c33
         exact sr (an (pU [.bool true] Kc U hX rd (cs hs40)))
        .have c33p:=of_decide_eq_false c33
         exact iL (qT 2 U (oi i4 U (qO 2 U (dE (L':=[(b23,O (aD.cells y2 r10) 63),z1]) js (ag6 hs41)))))
     .rintro i1 iO y1 rz1 hd1 mN kl oD yD hs43 hx1 ag7 e
      refine sr (tO mN U (qO 8 U (aM (iR EU ty54 (m5.bV.mono av.aK hle1).1 kl U U U (λ_ _ _ e=>e) (λq21 r13 A21 ok14=>gV ty54 A21 U U (cD zc54 (λb26=>ct 0 ty54 U U U U U U (qL 8 [0] U (cQ hs43 U (λc34 hs44=>?_) (λc34 hs45=>?_))))))))))
      .exact qK 7 [0] U (oi i1 U (qO 2 U (dE (L':=[z1]) js (ag7 y1.At hs44))))
      .exact iL (qT 2 U (oi i1 U (qO 2 U (dE (L':=[z1]) js (ag7 iO hs45)))))
end
end Go.Sg

namespace Go.Proofs.YtknehchipcogdaaGreatDoor.missingCame
open Go.ChangeShapes Go.WideShapes Go.ChangeAt Go.RowKit
theorem own:ownKnob Tryz.prog.godebug=none:=by kernel_rfl
theorem laidOut:laidOutB Tryz.prog=true:=by kernel_rfl
theorem contract(H:Type)(enc:TypeId×Value->H)(W:World)(base:Nat)(args:Array Value)(ds gs:List (DataW H))(before:List MemPlace)(hval:∀(j:Nat)t v,Tryz.f6.params[j]? = some t->args[j]? = some v->Value.okWide Tryz.prog W .any base t v)(hW:DataW.Whole enc Tryz.prog Tryz.f6.params.toList Rows.missingCameSpec.vars false W args.toList ds gs before)(hcond:Rows.uptoSmall H (ds++gs)=true)(hL:laidMetH Tryz.prog Rows.missingCameUptoRow.laid W):
    Calls Tryz.prog 6 args W λe W'=>∃v,e=.returned v/\Rows.missingCameSpec.post enc Tryz.prog Tryz.f6 false true false false W args v W':=by
  have hW':=hW
  obtain⟨p,q,hA0,hV,rfl,hfz,hnd⟩:=hW
  have hA:DataW.TrodAll enc Tryz.prog W 0 (λ_=>true) true Tryz.f6.params.toList args.toList ds p:=hA0
  rw[Tryz.params6]at hA hval
  obtain⟨v0,vs0,d0,ds0,p0,z0,hargs,rfl,rfl,h0,t0⟩:=trodAll_cons hA
  obtain⟨v1,vs1,d1,ds1,p1,z1,rfl,rfl,rfl,h1,t1⟩:=trodAll_cons t0
  obtain⟨v2,vs2,d2,ds2,p2,z2,rfl,rfl,rfl,h2,t2⟩:=trodAll_cons t1
  obtain⟨v3,vs3,d3,ds3,p3,z3,rfl,rfl,rfl,h3,t3⟩:=trodAll_cons t2
  obtain⟨v4,vs4,d4,ds4,p4,z4,rfl,rfl,rfl,h4,t4⟩:=trodAll_cons t3
  obtain⟨v5,vs5,d5,ds5,p5,z5,rfl,rfl,rfl,h5,t5⟩:=trodAll_cons t4
  obtain⟨rfl,rfl,rfl⟩:=trodAll_nil t5
  obtain rfl:args=#[v0,v1,v2,v3,v4,v5]:=by cases args;simp_all
  obtain⟨rfl,rfl⟩:=trodVars_none hV
  clear hA0 hA
  have h0k:=h0
  have h1k:=h1
  have h2k:=h2
  have h3k:=h3
  have h4k:=h4
  have h5k:=h5
  simp only[List.append_nil]at hW' hcond
  have hB:Rows.uptoBulkAll [d0,d1,d2,d3,d4,d5]<=1048576:=of_decide_eq_true hcond
  obtain⟨a0,rfl,_⟩:=okWide_struct Tryz.underlying30 (hval 0 30 v0 rfl rfl)
  obtain⟨f0,g0⟩:=h0
  obtain⟨x0,⟨r0,e0,o0⟩,q0⟩:=Sg.opn_Register f0 _ _ _ g0
  obtain rfl:a0=(Sg.Register.cells x0 r0).toArray:=by
    apply Array.toList_inj.1;exact e0
  obtain⟨b1,l1,c1,rfl⟩:=okWide_slice Tryz.underlying31 (hval 1 31 v1 rfl rfl)
  obtain⟨f1,g1⟩:=h1
  obtain⟨b1',c1',x1,e1,o1,q1⟩:=Sg.opn_slice (R:=Sg.Rp.int) (sz:=λ_=>1) Tryz.underlying31 (by kernel_rfl) (by decide) (λk _=>Sg.opn_int (by kernel_rfl) k) g1
  cases e1
  obtain⟨b2,l2,c2,rfl⟩:=okWide_slice Tryz.underlying32 (hval 2 32 v2 rfl rfl)
  obtain⟨f2,g2⟩:=h2
  obtain⟨b2',c2',x2,e2,o2,q2⟩:=Sg.opn_slice (R:=Sg.Use.rp) (sz:=λ_=>1) Tryz.underlying32 (by kernel_rfl) (by decide) (λk _=>Sg.opn_Use k) g2
  cases e2
  obtain⟨n3,rfl⟩:=okWide_int Tryz.underlying3 (hval 3 3 v3 rfl rfl)
  obtain⟨n4,rfl⟩:=okWide_int Tryz.underlying3 (hval 4 3 v4 rfl rfl)
  obtain⟨n5,rfl⟩:=okWide_int Tryz.underlying3 (hval 5 3 v5 rfl rfl)
  simp only[Rows.uptoBulkAll]at hB
  have y1:=Sg.szL_len (f:=λ_:Int=>1) (λ_=>Nat.le_refl _) x1
  have y2:=Sg.szL_len (f:=λ_:Sg.Use=>1) (λ_=>Nat.le_refl _) x2
  have z0b:=Sg.bulk_one d0
  have z1b:=Sg.bulk_one d1
  have z2b:=Sg.bulk_one d2
  have z3b:=Sg.bulk_one d3
  have z4b:=Sg.bulk_one d4
  have z5b:=Sg.bulk_one d5
  have walk:=Sg.law32_MissingCame_top (Sg.hOf W) (Sg.pre_hOf W) x0 r0 x1 b1 c1 x2 b2 c2 n3 n4 n5 o0 o1 o2 (Sg.smR_of (by omega)) (Sg.kinds_of hL)
  rw[Sg.came_true (Sg.smR_of (by omega))]at walk
  refine walk.mono λe W'⟨he,hb⟩=>?_
  subst he
  exact⟨_,rfl,Sg.post_below (pa:=p0++(p1++(p2++(p3++(p4++(p5++([]))))))) (pv:=[]) hW' (λ_ _ _=>trodAll_cons_mk (shut_bool Tryz.underlying4 _) trodAll_mk0) (λsp hsp=>(trodAll_cons_mk (Sg.stays laidOut (by kernel_rfl) (by kernel_rfl) h0k hb hW'.lt (λx hx=>by simp[hx]) hsp) (trodAll_cons_mk (Sg.stays laidOut (by kernel_rfl) (by kernel_rfl) h1k hb hW'.lt (λx hx=>by simp[hx]) hsp) (trodAll_cons_mk (Sg.stays laidOut (by kernel_rfl) (by kernel_rfl) h2k hb hW'.lt (λx hx=>by simp[hx]) hsp) (trodAll_cons_mk (Sg.stays laidOut (by kernel_rfl) (by kernel_rfl) h3k hb hW'.lt (λx hx=>by simp[hx]) hsp) (trodAll_cons_mk (Sg.stays laidOut (by kernel_rfl) (by kernel_rfl) h4k hb hW'.lt (λx hx=>by simp[hx]) hsp) (trodAll_cons_mk (Sg.stays laidOut (by kernel_rfl) (by kernel_rfl) h5k hb hW'.lt (λx hx=>by simp[hx]) hsp) trodAll_mk0))))))) (λ_ _=>rfl) (by simp) hb (ok_one (by kernel_rfl) rfl (okWide_bool_mk Tryz.underlying4 _))⟩
end Go.Proofs.YtknehchipcogdaaGreatDoor.missingCame
