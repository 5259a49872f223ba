import Derived.Test.YtknehchipcogdaaGreatDoorJ55
/- Part of JudgeSpec. -/
set_option linter.unusedVariables false
set_option linter.unusedSimpArgs false
set_option maxRecDepth 100000
open List renaming length_cons→xA,length_append→kA,length_nil→xB,mem_singleton→kB
open Go.Sg.Rp renaming int→jB,bG→vJ,kv→YS
open Go.Value renaming int→jC
open Nat renaming le_refl→zE,le_trans→zN
open Go.Sg.Register renaming cells→vH,ok→vM
namespace Go.Sg
section
open Go.Proofs Go.Proofs.Tryz
set_option maxHeartbeats 4000000
theorem Ci(h p jv)(hp:aw.ok h p jv)(hsm:smP p)(hk:ey h):j0 prog 212 [.agg (aw.cells p jv).toArray] h (λv h'=>∃(rr0:iq),v=.tuple #[.agg (aw.cells ((e8 p).1) rr0).toArray,I ((e8 p).2)]/\aw.ok h' ((e8 p).1) rr0):=by
 refine el func212 U ntmps212 U λX hM hX=>?_
 have hs0:=@rfl _ (e8 p)
 have hsc:=hsm.change
 have hsr:=hsm.rules
 refine sr (j2 (λb1=>cS zc61 (λb2=>qO 4 U (dV 1 U hM (λh1 kE hb1=>aS (kw U U (e9 (v:=I (attR (fx p))) call301 (Ch h1 (.func (.func 302) #[] #[Q b1]) (fx p) (pP (args:=[]) (cap:=[Q b1]) call302 (Ac h1 p jv ⟨b1,0,none⟩ (hp.mono kE) (gM hb1) (by first|assumption|omega) (hk.mono kE)))) U (qO 8 U (dy hs0 U (λc1 hs1=>?_) (λc1 hs2=>?_))))))))))
 .refine sr (ga 0 ty61 U U U (dU (cJ 0 ty61 U U U U U U (an ?_))))
  have hs3:e8 p=((aw.mk (⟨#[]⟩:ByteArray) ([]) ([]) ([]) (ai.mk 0 0 0 (⟨#[]⟩:ByteArray) ([])) 0),(attR (fx p))):=hs1
  exact mK [.agg (List.toArray [.string (⟨#[]⟩:ByteArray),zSN,zSN,zSN,I 0,I 0,I 0,.string (⟨#[]⟩:ByteArray),zSN,I 0]),I (attR (fx p))] func212 U ⟨⟨0,_,_,_,_,U,U,.inl ⟨ty61,U⟩⟩,U,trivial⟩ ⟨(iq.mk none 0 none 0 none 0 (dO.mk none 0)),congrArg (λr:(aw×Int)=>(.tuple #[.agg (aw.cells r.1 (iq.mk none 0 none 0 none 0 (dO.mk none 0))).toArray,I r.2]:Value)) hs3.symm,(by rw[hs3];exact(show aw.ok h1 (aw.mk (⟨#[]⟩:ByteArray) ([]) ([]) ([]) (ai.mk 0 0 0 (⟨#[]⟩:ByteArray) ([])) 0) (iq.mk none 0 none 0 none 0 (dO.mk none 0))from⟨SlC.nil,SlC.nil,SlC.nil,(show ai.ok h1 (ai.mk 0 0 0 (⟨#[]⟩:ByteArray) ([])) (dO.mk none 0)from ai.ok.of SlC.nil)⟩))⟩
 refine qT 3 U (lh ty61 (gM hb1) U U (cJ 0 ty61 U U U U U U (qL 4 [] U (dK 0 ty56 U U U U U U (qL 5 [] U (nm (j:=3) ty56 (gM hb1) U U (qL 3 [] U ?_)))))))
 refine lp2 p.dt (λi w=>[(1,Q b1),(2,Q b2),(15,.slice jv.sB p.dt.length jv.sA),(16,I (p.dt.length:Int)),(17,I (i:Int))]) (λw=>w.2.2.2.2) (λw=>[(b2,O [.string p.Name,.slice jv.lj p.ey.length jv.li,.slice jv.iM p.aD.length jv.iL,.slice w.2.1 w.1.length w.2.2.1,I p.aP.Kind,I p.aP.N,I p.aP.No,.string p.aP.Name,.slice jv.aP.qg p.aP.L.length jv.aP.qs,I p.Mode] 61)]++(w.2.2.2.1)) (λi w=>di fI.rp 65 w.2.2.2.2 w.1 w.2.1 w.2.2.1 w.2.2.2.1/\w.1.length<=0+i/\HF.le h1 w.2.2.2.2) (λs1 i w=>(e8.L1 p (e8.K1 p)) s1 i w.1) ([],none,0,[],h1) ((hp.dt.mono fI.aB kE).1.1) hs2 ⟨di.nil,lo,lf⟩ ?_ ?_
 .rintro i1 ⟨pL,vO,vI,Eh,hh1⟩ pq hs4 ⟨Bn,JE,hl1⟩ e
  try dsimp only at Bn JE hl1
  refine qK 3 [] U (nm (j:=2) ty55 ((gM hb1).mono hl1) U U (qL 1 [] U (Np (j:=4) ty59 ((gM hb1).mono hl1) U U (aS (eb Om (ue _ _ _ _ _ _ (hp.aD.mono YS (kE.t hl1)) (hp.aP.mono (kE.t hl1)) ob) U (λv3 h5 kP hp3=>?_))))))
  obtain⟨rr4,rfl,ok4⟩:=hp3
  let z2:Nat×Obj:=(b2,O [.string p.Name,.slice jv.lj p.ey.length jv.li,.slice jv.iM p.aD.length jv.iL,.slice vO pL.length vI,I ((ay p.aD p.aP).Kind),I ((ay p.aD p.aP).N),I ((ay p.aD p.aP).No),.string ((ay p.aD p.aP).Name),.slice rr4.qg ((ay p.aD p.aP).L.length) rr4.qs,I p.Mode] 61)
  refine qL 1 [] U (dK 0 ty59 U U U U U U (qO 3 U (ga 0 ty61 U U U (cJ 0 ty61 U U U U U U (mf (L':=[z2]++(Eh)) U (an (jz fI.aB ([z2]) Eh ([]) ap hM (Bn.mono fI.aB kP) (λh6 kQ sl2=>?_))))))))
  have hs5:e8 p=((aw.mk p.Name p.ey p.aD pL (ai.mk ((ay p.aD p.aP).Kind) ((ay p.aD p.aP).N) ((ay p.aD p.aP).No) ((ay p.aD p.aP).Name) ((ay p.aD p.aP).L)) p.Mode),0):=hs4
  exact mK [.agg (aw.cells (aw.mk p.Name p.ey p.aD pL (ai.mk ((ay p.aD p.aP).Kind) ((ay p.aD p.aP).N) ((ay p.aD p.aP).No) ((ay p.aD p.aP).Name) ((ay p.aD p.aP).L)) p.Mode) (iq.mk jv.lj jv.li jv.iM jv.iL vO vI (dO.mk rr4.qg rr4.qs))).toArray,I 0] func212 U ⟨⟨0,_,_,_,_,U,U,.inl ⟨ty61,U⟩⟩,U,trivial⟩ ⟨(iq.mk jv.lj jv.li jv.iM jv.iL vO vI (dO.mk rr4.qg rr4.qs)),congrArg (λr:(aw×Int)=>(.tuple #[.agg (aw.cells r.1 (iq.mk jv.lj jv.li jv.iM jv.iL vO vI (dO.mk rr4.qg rr4.qs))).toArray,I r.2]:Value)) hs5.symm,(by rw[hs5];exact(show aw.ok h6 (aw.mk p.Name p.ey p.aD pL (ai.mk ((ay p.aD p.aP).Kind) ((ay p.aD p.aP).N) ((ay p.aD p.aP).No) ((ay p.aD p.aP).Name) ((ay p.aD p.aP).L)) p.Mode) (iq.mk jv.lj jv.li jv.iM jv.iL vO vI (dO.mk rr4.qg rr4.qs))from⟨(hp.ey.mono YS (((kE.t hl1).t kP).t kQ)),(hp.aD.mono YS (((kE.t hl1).t kP).t kQ)),sl2,(show ai.ok h6 (ai.mk ((ay p.aD p.aP).Kind) ((ay p.aD p.aP).N) ((ay p.aD p.aP).No) ((ay p.aD p.aP).Name) ((ay p.aD p.aP).L)) (dO.mk rr4.qg rr4.qs)from ai.ok.of (ok4.list.mono ai.aB kQ))⟩))⟩
 rintro i1 ⟨pL,vO,vI,Eh,hh1⟩ y1 rz1 hd1 ns iI po xe hs6 ⟨Bn,JE,hl1⟩ hx1 ag1 e
 try dsimp only at Bn JE hl1
 have hsy:=hsm.2.1 y1 (fe hd1)
 refine sr (tO ns U (qO 9 U (aS (iR MH ty65 (hp.dt.mono fI.aB (kE.t hl1)).1 iI U U U (λ_ _ _ e=>e) (λq2 r2 A2 ok5=>?_)))))
 let z1:Nat×Obj:=(b2,O [.string p.Name,.slice jv.lj p.ey.length jv.li,.slice jv.iM p.aD.length jv.iL,.slice vO pL.length vI,I p.aP.Kind,I p.aP.N,I p.aP.No,.string p.aP.Name,.slice jv.aP.qg p.aP.L.length jv.aP.qs,I p.Mode] 61)
 refine lh ty65 A2 U U (cS zc65 (λb5=>jj (cJ 0 ty65 U U U U U U (mf (L':=[(b5,O (fI.cells y1 r2) 65),z1]++(Eh)) U (qL 5 [] U (nm (j:=2) ty55 ((gM hb1).mono hl1) U U (qL 1 [] U (ga 0 ty59 U U U (aS (eb Om (ue _ _ _ _ _ _ (hp.aD.mono YS (kE.t hl1)) ok5.ai ob) U (λv4 h7 hle7 hp4=>?_)))))))))))
 obtain⟨rr6,rfl,ok6⟩:=hp4
 refine qL 1 [] U (dK 0 ty3 U U U U U U (qL 1 [] U (dK 0 ty59 U U U U U U (qL 4 [1] U (ga 0 ty65 U U U (aS (cM (cells:=[.string y1.Kind,I (i1:Int),I y1.iJ,I ((ay p.aD y1.ai).Kind),I ((ay p.aD y1.ai).N),I ((ay p.aD y1.ai).No),.string ((ay p.aD y1.ai).Name),.slice rr6.qg ((ay p.aD y1.ai).L.length) rr6.qs]) MH ty65 zc65 U U kr (λb6=>?_))))))))
 let z3:Nat×Obj:=(b6,O [.string y1.Kind,I (i1:Int),I y1.iJ,I ((ay p.aD y1.ai).Kind),I ((ay p.aD y1.ai).N),I ((ay p.aD y1.ai).No),.string ((ay p.aD y1.ai).Name),.slice rr6.qg ((ay p.aD y1.ai).L.length) rr6.qs] 65)
 let z4:Nat×Obj:=(b5,O [.string y1.Kind,I (i1:Int),I y1.iJ,I ((ay p.aD y1.ai).Kind),I ((ay p.aD y1.ai).N),I ((ay p.aD y1.ai).No),.string ((ay p.aD y1.ai).Name),.slice rr6.qg ((ay p.aD y1.ai).L.length) rr6.qs] 65)
 refine aS (dN fI.ft ([z3,z4,z1]) ([]) (λG=>[z3,z4,z1]++G) ap (λ_=>ap) MH ty65 zc65 U bytes65 (Bn.mono fI.aB hle7) U U (gQ 0 U (cE (R:=fI.rp) (fI.mk y1.Kind (i1:Int) y1.iJ (ai.mk ((ay p.aD y1.ai).Kind) ((ay p.aD y1.ai).N) ((ay p.aD y1.ai).No) ((ay p.aD y1.ai).Name) ((ay p.aD y1.ai).L))) U ⟨(yp.mk (dO.mk rr6.qg rr6.qs)),U,(show fI.ok h7 (fI.mk y1.Kind (i1:Int) y1.iJ (ai.mk ((ay p.aD y1.ai).Kind) ((ay p.aD y1.ai).N) ((ay p.aD y1.ai).No) ((ay p.aD y1.ai).Name) ((ay p.aD y1.ai).L))) (yp.mk (dO.mk rr6.qg rr6.qs))from⟨(show ai.ok h7 (ai.mk ((ay p.aD y1.ai).Kind) ((ay p.aD y1.ai).N) ((ay p.aD y1.ai).No) ((ay p.aD y1.ai).Name) ((ay p.aD y1.ai).L)) (dO.mk rr6.qg rr6.qs)from ai.ok.of ok6.list)⟩)⟩)) lo lo (λob2 oc2 G2 gr2=>qL 1 [] U (dK 2 ty56 U U U U U U (qO 3 U (oi i1 U (qO 2 U (ek (L':=[(b2,O [.string p.Name,.slice jv.lj p.ey.length jv.li,.slice jv.iM p.aD.length jv.iL,.slice ob2 ((pL++[(fI.mk y1.Kind (i1:Int) y1.iJ (ai.mk ((ay p.aD y1.ai).Kind) ((ay p.aD y1.ai).N) ((ay p.aD y1.ai).No) ((ay p.aD y1.ai).Name) ((ay p.aD y1.ai).L)))]).length) oc2,I p.aP.Kind,I p.aP.N,I p.aP.No,.string p.aP.Name,.slice jv.aP.qg p.aP.L.length jv.aP.qs,I p.Mode] 61)]++G2) js ?_)))))))
 exact ag1 ((pL++[(fI.mk y1.Kind (i1:Int) y1.iJ (ai.mk ((ay p.aD y1.ai).Kind) ((ay p.aD y1.ai).N) ((ay p.aD y1.ai).No) ((ay p.aD y1.ai).Name) ((ay p.aD y1.ai).L)))]),ob2,oc2,G2,h7) hs6 ⟨gr2,lo,(hl1.t hle7)⟩
instance k212:Ct 212:=⟨_,call212,@Ci⟩
theorem Cp(h c rL p jv)(hc:bZ.ok h c rL)(hp:aw.ok h p jv)(hsm:smR c.Register)(hco:kj c)(hpr:p.dt.length=p.ey.length/\∀y∈p.dt,0<=y.iJ/\y.iJ<=1099511627775):j0 prog 165 [.agg (bZ.cells c rL).toArray,.agg (aw.cells p jv).toArray] h (λv h'=>∃(rv0:Value),v=rv0/\Itr prog rv0 rW (j8 c p) h'):=by
 refine sVv func165 ntmps165 ?_
 generalize hz:(j8 c p)=z
 have hsq:=hsm;unfold smR at hsq
 have hcq:=hco;cases hcq
 exact W
theorem yP(h c rL vK bV bU)(hc:bZ.ok h c rL)(iC:SlC jB h bV bU vK)(hsm:smR c.Register)(hco:kj c)(hln:c.Register.cj.length<20)(hsg:bT c.Register.cj vK=true):Ret prog 105 [.agg (bZ.cells c rL).toArray,.slice bV vK.length bU] h (.bool (ng c vK)):=by
 refine sVv func105 ntmps105 ?_
 generalize hz:(ng c vK)=z
 have hsq:=hsm;unfold smR at hsq
 have hcq:=hco;cases hcq
 exact W
instance k105:Ct 105:=⟨_,call105,@yP⟩
theorem E8(h c rL c_q vK bV bU signed_q)(hc:bZ.ok h c rL)(ac:At h c_q (bZ.cells c rL))(iC:SlC jB h bV bU vK)(asigned:At h signed_q [.slice bV vK.length bU])(hsm:smR c.Register)(hco:kj c)(hln:c.Register.cj.length<20)(hsg:bT c.Register.cj vK=true):Ret prog 35 [.pointer (some c_q),.pointer (some signed_q)] h (.bool (CC c vK)):=by
 refine sVv func35 ntmps35 ?_
 generalize hz:(CC c vK)=z
 have hsq:=hsm;unfold smR at hsq
 have hcq:=hco;cases hcq
 exact W
theorem IJ(h p jv)(hp:aw.ok h p jv)(hsm:smP p):Ret prog 138 [.agg (aw.cells p jv).toArray] h (I (ma p)):=by
 refine sVv func138 ntmps138 ?_
 generalize hz:(ma p)=z
 have hsq:=hsm;unfold smP at hsq
 exact W
instance k138:Ct 138:=⟨_,call138,@IJ⟩
theorem zp(h bK fA d Ap p jv aU ad)(nW:vM h bK fA)(hd:aj.ok h d Ap)(hp:aw.ok h p jv)(hsm:smR bK)(hpk:p.dt.length=p.ey.length/\0<=d.Kind):j0 prog 121 [.agg (vH bK fA).toArray,.agg (aj.cells d Ap).toArray,.agg (aw.cells p jv).toArray,I aU,I ad] h (λv h'=>∃(rb0:Option Addr)(rc0:Nat),v=.slice rb0 (eJ bK d p aU ad).length rc0/\SlC jB h' rb0 rc0 (eJ bK d p aU ad)):=by
 refine sVv func121 ntmps121 ?_
 generalize hz:(eJ bK d p aU ad)=z
 have hsq:=hsm;unfold smR at hsq
 have q0:=@Fq
 have q1:=@EY
 have ho0:=zN (Fq bK.bS d.No d.At ((nthI p.dt d.Kind).iJ) aU ad) hsm.2.2.2.2.2.2
 have HA:=lM [3,4,5,6,12] 14 (.mS 11 jB .mE) (λs1 i w=>(eJ.L1 bK d aU ad (eJ.K1)) s1 w.1)
 exact W
instance k121:Ct 121:=⟨_,call121,@zp⟩
end
section
open Go.Proofs Go.Proofs.Tryz Go.RowKit
theorem La{out:List Int}{x:Int}:(compStep out x).getLast? = some x:=by
 unfold compStep
 split
 .assumption
 .simp
theorem Ka(xs:List Int):∀k,k<=xs.length->Lib.compactUpTo xs.toArray k=compI (xs.take k)/\(0<k->(compI (xs.take k)).getLast? = xs[k-1]?)
 |0,_=>⟨by simp[Lib.compactUpTo,compI],λh=>absurd h (Nat.lt_irrefl _)⟩
 |k+1,hk=>by
  obtain⟨h1,h2⟩:=Ka xs k (by omega)
  have hx:xs[k]? = some xs[k]:=List.getElem?_eq_getElem (by omega)
  have ht:xs.take (k+1)=xs.take k++[xs[k]]:=by rw[List.take_add_one,hx];rfl
  have hc:compI (xs.take (k+1))=compStep (compI (xs.take k)) xs[k]:=by unfold compI;rw[ht,List.foldl_append];rfl
  refine⟨?_,λ_=>by rw[hc,La,Nat.add_sub_cancel,hx]⟩
  rw[Lib.compactUpTo_succ,h1,hc]
  have hd:xs.toArray[k]! = xs[k]:=by simp[getElem!_pos,show k<xs.length by omega]
  rcases Nat.eq_zero_or_pos k with rfl|hk0
  .simp[Lib.keeps,compI,compStep,hd]
  .have hl:=h2 hk0
   have hd1:xs.toArray[k-1]! = xs[k-1]:=by simp[getElem!_pos,show k-1<xs.length by omega]
   have hx1:xs[k-1]? = some xs[k-1]:=List.getElem?_eq_getElem (by omega)
   unfold compStep
   rw[hl,hx1,hd]
   by_cases he:xs[k-1]=xs[k]
   .have:Lib.keeps xs.toArray k=false:=Lib.keeps_neg hk0 (by rw[hd,hd1,he])
    simp[this,he]
   .have:Lib.keeps xs.toArray k=true:=Lib.keeps_pos (by rw[hd,hd1];exact λe=>he e.symm)
    simp[this,he]
theorem QY(xs:List Int):Lib.compact xs=compI xs:=by
 have:=(Ka xs xs.length (zE _)).1
 rw[List.take_length]at this
 exact this
theorem U2(xs:List Int):(compI xs).length<=xs.length:=by
 have:∀(l acc:List Int),(l.foldl compStep acc).length<=acc.length+l.length:=by
  intro l
  induction l with
  |nil=>intro acc;exact zE _
  |cons y l ih=>
   grind [compStep,xA]
 have h3:=this xs []
 simpa[compI]using h3
theorem sE(h:HF)(xs:List Int)(b:Option Addr)(c:Nat)(G:LH)(hG:di jB 3 h xs b c G):
  qf prog 111 [.slice b xs.length c].toArray h G (λr h' G'=>h'=h/\r=.returned (.slice b (slices_Compact_int xs).length c)/\di jB 3 h (slices_Compact_int xs) b c G'):=by
 intro w hp
 rcases hG with⟨rfl,rfl,rfl,rfl⟩|⟨bk,cl,sp,rfl,hcl,hlen,hcap,hmax,rfl⟩
 .refine(mZ (Tryz.slices_Compact_int_empty none 0 w) (λw' hw=>by cases hw.1)).mono ?_
  rintro e w' ⟨rfl,rfl⟩
  exact⟨h,[],St.start hp,rfl,rfl,di.nil⟩
 .have hb:=hp.own _ (kB.2 rfl)
  simp only at hb
  have hcl':cl=xs.map (jC .i64):=by
   clear hlen hb hp hcap hmax
   induction xs generalizing cl with
   |nil=>exact hcl
   |cons y l ih=>
    obtain⟨cs,r,rfl,_,hr,hl⟩:=hcl
    have:cs=[.int .i64 y]:=hr
    rw[this,ih r hl];rfl
  subst hcl'
  have hH:Sort.Holds (jC .i64) w bk 0 xs.toArray:=by
   refine holds_of_blockI (cur:=(xs.map (jC .i64)++sp).toArray) (e:=3) hb ?_
   simp
  refine(mZ (Tryz.slices_Compact_int bk 0 c xs w hH hmax hcap) (λw' hw=>by cases hw.1)).mono ?_
  rw[QY]
  have eT:=U2 xs
  rintro e w' ⟨rfl,n,rfl⟩
  let ys:List Int:=compI xs++List.replicate (xs.length-(compI xs).length) 0
  have hys:ys.length=xs.length:=by simp[ys];omega
  obtain⟨g1,g2,g3,g4,g5⟩:=grownBy_sortedI (w:=w) (g:=bk) (n:=n) (os:=#[]) ys.toArray
  have hnew:=heap_sortedI (w:=w) (g:=bk) (n:=n) (os:=#[]) ys.toArray hb
  have htake:=take_putCellsI (xs.map (jC .i64)++sp).toArray ys (by rw[hys];simp)
  have hgr:∀W:World,Go.Sort.grow W #[]=W:=λW=>by simp[Go.Sort.grow]
  rw[hgr]at g1 g2 g3 g4 g5 hnew
  refine⟨h,[(bk,.cells (Sort.putCells (jC .i64) 0 ys.toArray (xs.map (jC .i64)++sp).toArray) 3 (0,0))],⟨g1,g2,g3,g4,λk hk hM=>g5 k hk (λe=>hM (by cases e;simp)),λ_ _ e=>e,λ_ _=>rfl,λk o e=>?_,λq hq=>?_,?_,?_,?_⟩,rfl,rfl,?_⟩
  .have hne:k≠bk:=λe'=>by
    have:=hp.free _ (kB.2 rfl)
    simp only at this
    rw[e',this]at e;cases e
   exact(g5 k (jX (hp.imm k o e)) (λe'=>by cases e';exact hne rfl)).trans (hp.imm k o e)
  .rw[kB.1 hq];exact hnew
  .simp
  .intro q hq;rw[kB.1 hq];exact hp.free (bk,Obj.cells (xs.map (jC .i64)++sp).toArray 3 (0,0)) (kB.2 rfl)
  .intro q hq;rw[kB.1 hq];exact .inr (by simp)
  .have hcells:∀l:List Int,bW jB h (l.map (jC .i64)) l:=by
    intro l
    induction l with
    |nil=>rfl
    |cons y l ih=>exact⟨[.int .i64 y],l.map (jC .i64),rfl,rfl,rfl,ih⟩
   have hg:di jB 3 h ys (some ⟨bk,0,none⟩) c [(bk,.cells (Sort.putCells (jC .i64) 0 ys.toArray (xs.map (jC .i64)++sp).toArray) 3 (0,0))]:=by
    refine .inr ⟨bk,ys.map (jC .i64),(Sort.putCells (jC .i64) 0 ys.toArray (xs.map (jC .i64)++sp).toArray).toList.drop ys.length,rfl,hcells _,?_,by rw[hys];exact hcap,by rw[hys];exact hmax,?_⟩
    .rw[←htake,List.take_append_drop]
     simpa[Sort.putCells]using hlen
    .rw[←htake,List.take_append_drop]
   have:=hg.take (compI xs).length
   rwa [show ys.take (compI xs).length=compI xs from by simp[ys]]at this
end
section
open Go.Proofs Go.Proofs.Tryz
set_option maxHeartbeats 4000000
theorem sH(h c rL p jv)(hc:bZ.ok h c rL)(hp:aw.ok h p jv)(hsm:smR c.Register)(hco:kj c)(hpr:p.dt.length=p.ey.length/\∀y∈p.dt,0<=y.iJ/\y.iJ<=1099511627775):j0 prog 90 [.agg (bZ.cells c rL).toArray,.agg (aw.cells p jv).toArray] h (λv h'=>∃(rb0:Option Addr)(rc0:Nat),v=.slice rb0 (cZ c p).length rc0/\SlC jB h' rb0 rc0 (cZ c p)):=by
 refine el func90 U ntmps90 U λX hM hX=>?_
 have hs0:=@rfl _ (cZ c p)
 refine sr (j2 (λb1=>j2 (λb2=>cS zc31 (λb3=>qO 4 U (ga 2 ty91 U U U (ga 1 ty61 U U U (aS (eb call165 (Cp _ _ _ _ _ hc hp ob ob ob) U (λv1 h1 kE hp1=>?_)))))))))
 obtain⟨_,rfl,mo1⟩:=hp1
 refine qO 2 U (ke ?_)
 let z1:Nat×Obj:=(b2,O (aw.cells p jv) 61)
 let z2:Nat×Obj:=(b1,O (bZ.cells c rL) 91)
 refine eA (L':=([(b3,O [zSN] 31),z1,z2])++markB []) ap ?_
 refine pz (it:=v1) (xs:=(j8 c p)) (ι:=(List Int)×Option Addr×Nat×LH×HF) [] (λi=>i.2.2.2.2) (λi=>[(b3,O [.slice i.2.1 i.1.length i.2.2.1] 31),z1,z2]++(i.2.2.2.1)) (λs i=>cZ c p=((cZ.L1 (cZ.K1)) s i.1)/\di jB 3 i.2.2.2.2 i.1 i.2.1 i.2.2.1 i.2.2.2.1/\HF.le h1 i.2.2.2.2/\i.1.length+s.length<=2000000) (λ_=>False) (λ_=>False) 0 (λ_ _ _=>False) ([],none,0,[],h1) func90 U mo1 U qn (λ_ _ _ _ _ hq=>hq) U (show[(b3,O [zSN] 31),z1,z2]=_ from U) ⟨hs0,di.nil,lf,(by have hc:=UF hsm p;simpa using hc)⟩ ?_ ?_ ?_ ?_ ?_
 .rintro l1 dm1 lp1 y1 rz1 vs1 ⟨cT,ni,nh,nj,hh1⟩ hr1 X hFR1 ⟨hs1,pu,hl1,kR⟩ hl01 hlr1 hv1 hX hXM hlp1 nx1 rt1 ex1 pn1
  try dsimp only at pu hl1 kR hlr1
  obtain rfl:=hv1
  simp only[xA]at kR
  let z3:Nat×Obj:=(b3,O [.slice ni cT.length nh] 31)
  let z6:Nat×Obj:=(dm1,.deferred (some []))
  refine eA (L':=[(l1,.loop lp1),z6,z3,z1,z2]++(nj++(markB []))) ap (cB (cS zc67 (λb6=>cJ 0 ty67 U U U U U U (mf (L':=[(b6,O (ae.cells y1) 67),(l1,.loop lp1),z6,z3,z1,z2]++(nj++(markB []))) U ?_))))
  let z7:Nat×Obj:=(l1,.loop { lp1 with state:=.busy })
  let z8:Nat×Obj:=(b6,O (ae.cells y1) 67)
  refine ck (nJ 1 U hlp1 (qK 5 [3,0] U (aS (cM (cells:=[I y1.For]) fm ty3 zc3 U U kr (λb7=>aS (dN Rp.fR ([(b7,O [I y1.For] 3),z8,z7,z6,z3,z1,z2]) (markB []) (λG=>[(b7,O [I y1.For] 3),z8,z7,z6,z3,z1,z2]++(markB []++G)) ap (λ_=>ap) fm ty3 zc3 U bytes3 (pu.mono vJ hlr1) U U (gQ 0 U (cE (y1.For) U U)) lo lo (λob2 oc2 G4 gr4=>wl (BN ([(b7,O [I y1.For] 3),z8,z7,z6,z3,z1,z2]) G4 (markB [])) (dK 4 ty31 U U U U U U (qO 2 U ?_)))))))))
  let z9:Nat×Obj:=(b3,O [.slice ob2 ((cT++[y1.For]).length) oc2] 31)
  exact ek (L':=[z7,z6,z9,z1,z2]++(G4++(markB []))) js (eA (L':=rdH l1 dm1 lp1 (([z9,z1,z2]++G4)++markB [])) ap (nx1 ((cT++[y1.For]),ob2,oc2,G4,hr1) _ _ ⟨hs1,gr4,(hl1.t hlr1),(by first|omega|(simp only[kA,xA,xB]at *;omega))⟩ lf))
 .rintro dm1 ⟨cT,ni,nh,nj,hh1⟩ hn1 ⟨hs2,pu,hl1,kR⟩ hln1 hl01
  try dsimp only at pu hl1 kR hln1
  let z4:Nat×Obj:=(b3,O [.slice ni cT.length nh] 31)
  refine eA (L':=[z4,z1,z2]++(nj++(markB (dm1::[])))) ap (qK 4 [0] U (aS (pT ([z4,z1,z2]) nj (markB (dm1::[])) Tw (oL hn1 cT ni nh nj (pu.mono vJ hln1) (by first|assumption|omega|(simp only[kA,xA,xB] ;omega))) ap U (λG5 gr5=>qL 4 [0] U (aS (pT (v:=.slice ni (slices_Compact_int (sortI cT)).length nh) ([z4,z1,z2]) G5 (markB (dm1::[])) call111 (sE hn1 (sortI cT) ni nh G5 gr5) ap (by first|rfl|(simp only[kO];rfl)) (λG6 gr6=>mf (L':=[z4,z1,z2]++(G6++(markB (dm1::[])))) ap (dK 0 ty31 U U U U U U (ck ?_)))))))))
  let z5:Nat×Obj:=(b3,O [.slice ni ((slices_Compact_int (sortI cT)).length) nh] 31)
  refine jz vJ ([z5,z1,z2]) G6 (markB (dm1::[])) ap hM gr6 (λh3 kG sl2=>?_)
  have hs3:cZ c p=(slices_Compact_int (sortI cT)):=hs2
  exact eA (L':=([z5,z1,z2])++markB (dm1::[])) ap (uX (dm1::[]) [.slice ni ((slices_Compact_int (sortI cT)).length) nh] func90 U ⟨⟨0,_,_,_,_,U,U,.inr ⟨_,ty31,U⟩⟩,trivial⟩ ⟨ni,nh,congrArg (λr:List Int=>(.slice ni r.length nh:Value)) hs3.symm,(by rw[hs3];exact sl2)⟩)
 .exact xf
 .exact xf
 exact xf
theorem DR(h l eP eO)(hl:SlC aC.rp h eP eO l)(hsm:smV l):Ret prog 56 [.slice eP l.length eO] h (I (dE l)):=by
 refine sVv func56 ntmps56 ?_
 generalize hz:(dE l)=z
 have w0:=λ{y}(a:y∈_)=>hsm.2 y a
 have HA:=h0 [0] 3 (λs1 i=>(dE.L1 l (dE.K1)) s1 i)
 exact W
instance k56:Ct 56:=⟨_,call56,@DR⟩
theorem DY(h p jv)(hp:aw.ok h p jv)(hsm:smP p)(hk:ey h):Ret prog 129 [.agg (aw.cells p jv).toArray] h (I (dF p)):=by
 refine sVv func129 ntmps129 ?_
 generalize hz:(dF p)=z
 have hsc:=hsm.change
 have hsq:=hsm;unfold smP at hsq
 have w0:=λ{y}(a:y∈_)=>hsm.2.1 y a
 have HA:=h0 [1,14,15] 16 (λs1 i=>(dF.L1 p (dF.K1 p)) s1 i)
 exact W
instance k129:Ct 129:=⟨_,call129,@DY⟩
theorem Ah(h c rL vK bV bU)(hc:bZ.ok h c rL)(iC:SlC jB h bV bU vK)(hsm:smR c.Register)(hco:kj c)(hln:c.Register.cj.length<20)(hsg:bT c.Register.cj vK=true):Ret prog 34 [.agg (bZ.cells c rL).toArray,.slice bV vK.length bU] h (.bool (iy c vK)):=by
 refine sVv func34 ntmps34 ?_
 generalize hz:(iy c vK)=z
 have hsq:=hsm;unfold smR at hsq
 have hcq:=hco;cases hcq
 have q0:=@S4
 exact W
instance k34:Ct 34:=⟨_,call34,@Ah⟩
theorem EQ(h p jv vL vN)(bh:List (List aV))(gr gp gv nd na)(hp:aw.ok h p jv)(pt:SlC (Rp.sl aV.rp) h gr gp bh)(hwho:SlC jB h nd na gv)(hsm:smP p)(hsz0:∀y∈bh,y.length<=2000000)(hsw:gv.length<=2000000):Ret prog 199 [.agg (aw.cells p jv).toArray,I vL,I vN,.slice gr bh.length gp,.slice nd gv.length na] h (.tuple #[.bool ((lr p vL vN bh gv).1),I ((lr p vL vN bh gv).2)]):=by
 refine sVv func199 ntmps199 ?_
 generalize hz:(lr p vL vN bh gv)=z
 have hsq:=hsm;unfold smP at hsq
 have k0:=λ(a:ma p=0)(b:¬vL<0)(c:¬(p.ey.length:Int)<=vL)=>(show 0<=vL/\vL<(p.dt.length:Int)from by have:=(sS (Ew hsm a)).1;omega)
 have k1:=λa b c(d:eh bh (p.aD.length:Int)=true)=>(show OkX (bh.length:Int) (nthI p.dt vL).ai from by rw[LE ((right21 _ _).trans d)];exact(sS (Ew hsm a)).2.2 _ (De (lu (k0 a b c))))
 exact W
theorem tB(h l eP eO)(hl:SlC aC.rp h eP eO l)(hsm:smV l)(hk:ey h):Ret prog 49 [.slice eP l.length eO] h (I (bE l)):=by
 refine sVv func49 ntmps49 ?_
 generalize hz:(bE l)=z
 have hsl:=hsm.len
 have w0:=λ{y}(a:y∈_)=>hsm.2 y a
 have HA:=h1 [9,10] 11 (λw=>[(3,I w)]) (λs1 i w=>(bE.L1 (bE.K1)) s1 w)
 exact W
theorem GH(h l eP eO aW aT ad)(hl:SlC aC.rp h eP eO l)(hsm:smV l):j0 prog 118 [.slice eP l.length eO,I aW,I aT,I ad] h (λv h'=>∃(rb0:Option Addr)(rc0:Nat),v=.tuple #[.slice rb0 ((fY l aW aT ad).1).length rc0,I ((fY l aW aT ad).2.1),I ((fY l aW aT ad).2.2)]/\SlC jB h' rb0 rc0 ((fY l aW aT ad).1)):=by
 refine sVv func118 ntmps118 ?_
 generalize hz:(fY l aW aT ad)=z
 have q0:=@vk
 exact W
instance k118:Ct 118:=⟨_,call118,@GH⟩
theorem EN(h bK fA d Ap p jv aU ad)(nW:vM h bK fA)(hd:aj.ok h d Ap)(hp:aw.ok h p jv)(hsm:smR bK)(hpk:p.dt.length=p.ey.length/\0<=d.Kind)(hpm:smP p):Ret prog 120 [.agg (vH bK fA).toArray,.agg (aj.cells d Ap).toArray,.agg (aw.cells p jv).toArray,I aU,I ad] h (.bool (fV bK d p aU ad)):=by
 refine sT func120 U ntmps120 U λX hM hX hF=>?_
 have hs0:=@rfl _ (fV bK d p aU ad)
 have hpo_:=hpm.2.2.2.1
 refine sr (j2 (λb1=>j2 (λb2=>j2 (λb3=>qO 4 U (aS (lC Tr ty241 (λb4=>qO 7 U ?_)))))))
 obtain⟨G2,gr2,ge1⟩:∃G:LH,di (Rp.sl aV.rp) 241 h ([]) (zAD b4) 0 G/\[(b4,O [] 241)]=G:=⟨_,di.lit (show bW (Rp.sl aV.rp) h [] ([])from rfl) rfl,rfl⟩
 let z1:Nat×Obj:=(b1,O (vH bK fA) 30)
 let z2:Nat×Obj:=(b2,O (aj.cells d Ap) 54)
 let z3:Nat×Obj:=(b3,O (aw.cells p jv) 61)
 refine eA (L':=([])++([(b4,O [] 241)]++([z3,z2,z1]))) ap ?_
 rw[ge1]
 refine jy (List.Perm.append_left _ List.perm_append_comm) (eA (L':=[z3,z2,z1]++G2) ap ?_)
 refine lp2 p.aD (λi w=>[(3,I aU),(4,I ad),(5,Q b1),(6,Q b2),(7,Q b3),(11,.slice w.2.1 w.1.length w.2.2.1),(12,I (i:Int))]) (λw=>w.2.2.2.2) (λw=>[z3,z2,z1]++(w.2.2.2.1)) (λi w=>di (Rp.sl aV.rp) 241 w.2.2.2.2 w.1 w.2.1 w.2.2.1 w.2.2.2.1/\w.1.length<=0+i/\HF.le h w.2.2.2.2/\(∀y∈w.1,y.length<=2000000)) (λs1 i w=>(fV.L1 bK aU ad (fV.K1 bK d p aU ad)) s1 i w.1) ([],(zAD b4),0,G2,h) hp.aD.1.1 hs0 ⟨gr2,lo,lf,(λy hy=>(List.not_mem_nil hy).elim)⟩ ?_ ?_ ?_
 .rintro i1 ⟨gZ,JM,JL,Da,hh1⟩ pq hs1 ⟨vW,C9,hl1,kR⟩ e
  try dsimp only at vW C9 hl1 kR
  refine eI (hU ([z3,z2,z1]) mixed kr jn (λkI _=>tf 0 U U (λ_ _ hj=>nQ ty61 U (hj.nth (i:=0) U) U) (qB [1] U (tf 2 U U (rj 1 ty3 U U U) (qB [3] U (tf 4 U U (rj 1 ty3 U U U) (tm 5 U (tf 6 U U (λ_ _ hj=>nQ ty30 U (hj.nth (i:=2) U) U) (tf 7 U U (λ_ _ hj=>nQ ty54 U (hj.nth (i:=1) U) U) (tf 8 U U (λ_ _ hj=>nQ ty61 U (hj.nth (i:=0) U) U) (qA [9,10] U (tn 11 U (eb call121 (zp _ _ _ _ _ _ _ aU ad (nW.mono hl1) (hd.mono hl1) (hp.mono hl1) ob ob) U (λv3 h4 kK hp3=>?_))))))))))))))
  obtain⟨rb3,rc3,rfl,sl4⟩:=hp3
  refine⟨jl kK,tu kK (tn 12 U (nD (Rp.BF aV.aB) ([z3,z2,z1]) Da ([]) ap hM (vW.mono (Rp.BF aV.aB) kK) (λh5 kP sl5=>kg call199 (EQ _ _ _ d.Kind d.Value _ _ _ _ _ _ (hp.mono ((hl1.t kK).t kP)) sl5 (sl4.mono vJ kP) hpm ob (zN (yL _ _ _ _ _) hsm.2.2.2.2.2.2)) U (⟨jl kP,tu kP (qR 13 5 U (dJ kr (qT 4 U (pF 3 [55,56,57,58] 55 58 ((lr p d.Kind d.Value gZ (eJ bK d p aU ad)).2==0) U (λc1 hk1=>?_) (λe=>?_)))))⟩))))⟩
  .exact dU (qO 2 U (hk1 _ U))
  exact an (nretP [.bool ((lr p d.Kind d.Value gZ (eJ bK d p aU ad)).1&&((lr p d.Kind d.Value gZ (eJ bK d p aU ad)).2==0))] (cs hs1))
 .rintro i1 ⟨gZ,JM,JL,Da,hh1⟩ y1 rz1 hd1 ns iI po xe hs3 ⟨vW,C9,hl1,kR⟩ hx1 ag1 e
  try dsimp only at vW C9 hl1 kR
  refine qK 7 [0] U (tO ns U (qL 12 [2] U (aS (eb call198 (EV _ _ _ _ (i1:Int) aU ad (nW.fj.mono aA.aB hl1)) U (λv4 h6 kQ hp4=>?_)))))
  obtain⟨rb4,rc4,rfl,sl6⟩:=hp4
  refine qO 9 U (aS (cM (cells:=[.slice rb4 (((dP bK.fj (i1:Int) aU ad).1).length) rc4]) Tr ty241 zc241 U U kr (λb6=>?_)))
  let z4:Nat×Obj:=(b6,O [.slice rb4 (((dP bK.fj (i1:Int) aU ad).1).length) rc4] 241)
  exact aS (dN (Rp.Rt aV.aB) ([z4,z3,z2,z1]) ([]) (λG=>[z4,z3,z2,z1]++G) ap (λ_=>ap) Tr ty241 zc241 U bytes241 (vW.mono (Rp.BF aV.aB) kQ) U U (gQ 0 U (cE (R:=(Rp.sl aV.rp)) ((dP bK.fj (i1:Int) aU ad).1) U ⟨rb4,rc4,U,sl6⟩)) lo lo (λob2 oc2 G3 gr3=>qO 5 U (oi i1 U (an (ek (L':=[z3,z2,z1]++G3) js (ag1 ((gZ++[(dP bK.fj (i1:Int) aU ad).1]),ob2,oc2,G3,h6) hs3 ⟨gr3,lo,(hl1.t kQ),(λy hy=>(List.mem_append.1 hy).elim (kR y) (λhy=>by rw[kB.1 hy];exact zN (Nb _ _ _ _) (by decide)))⟩))))))
 rintro i1 ⟨gZ,JM,JL,Da,hh1⟩ hd1 rZ hx e
 exact qK 7 [0] U (fO rZ U (qO 3 U (hx _ rd)))
instance k120:Ct 120:=⟨_,call120,@EN⟩
end
end Go.Sg
