import Derived.Shelf.SlSortCmp.WholeK
import Derived.Ground.SlsfProg
import Derived.Shelf.Small.Bits
import Derived.Shelf.Small.Strs
import Derived.Shelf.Strconv.Itoa0
import Derived.Shelf.Strings.Search1
import Derived.Shelf.Sort.Plain
import Derived.Ground.Names2Prog
import Derived.Shelf.Slices.Clone
import Derived.Shelf.Slices.CompactI
import Derived.Shelf.Slices.SearchI
import Derived.Shelf.Slices.Cells
import Derived.Shelf.Slices.In.SortNone
import Derived.Shelf.Slices.Empties
import Derived.Ground.SlgnProg
import Derived.Shelf.SlicesE.Clone
import Derived.Ground.SlgcProg
import Derived.Shelf.SlicesG.Cmp
import Derived.Shelf.SlSortCmp.Insertion
import Derived.Shelf.SlSortCmp.Insertion1
import Derived.Shelf.SlSortCmp.NoneTotal
import Derived.Sort.OwnSortedInts
import Derived.Test.YtgddeppkkjefjaaGreatDoorW4
/- A part of the proof of AsofJudged. -/
set_option linter.unusedVariables false
set_option linter.unusedSimpArgs false
set_option maxRecDepth 100000
open List renaming length_cons→zA,not_mem_nil→jA,length_append→kA,length_nil→vB,toArray→kB,mem_singleton→xC,append_assoc→qE,mem_of_getElem?→vE,getElem?_eq_getElem→vF,nil_append→zG,mem_append→xH,getElem?_eq_none→xJ,range→jJ,perm_append_comm→xL,nodup_nil→kQ,getElem?_map→xV,map_append→xW,nodup_append→Sn
open Go.Value renaming int→xB
open Bool renaming and_eq_true→jB,not_eq_true'→kC,or_eq_true→xD
open Go.Sg.Rp renaming int→zC,aO→zH,str→Sz,ib→Ti
open Go.Sg.Expr renaming cells→jC,ok→qG,mk→vG,iW→kV,av→R3,rp→Su,eD→Tw
open Go.Sg.Approval renaming cells→zD
open Go.Sg.Policy renaming cells→kD,mk→qM,ok→kN
open Go.IntKind renaming wrap→zE
open Go.Sg.OSeat renaming cells→kE,enc→R4,rp→T3
open Go.Sg.HF renaming le_trans→qF,le_refl→jH,le→kK
open Go.Sg.SlC renaming nil→zF
open Go.Sg.Register renaming cells→jF,ok→qP,mk→qQ
open Nat renaming le_refl→xG,lt_or_ge→vK,zero_le→vM
open Go.Deferred renaming ofValue→kH
open Go.Obj renaming cells→qJ
open Go.Result renaming andThen_ok→zL
open Go.Sem renaming run_bind→qN
open Go.Sg.Version renaming rp→jQ,cells→kS,av→vV
open Go.Sg.Document renaming cells→vQ,av→vR,rp→RV,ok→R8,mk→SR
open Go.Sg.Appoint renaming rp→kR,av→Se
open Go.Sg.Budget renaming cells→qS
open Go.Addr renaming add→zT
open Go.Sg.Span renaming mk→qW
open Go.Sg.Expr.ok renaming of→Sb
open Array renaming ext'→Sd
open Go.Sg.Rule renaming mk→SE,av→Tk,cells→TC
open Go.Sg.St renaming start→SW,after→S4
open Go.Sg.Env renaming ev→Tz

namespace Go.Sg
section
open Go.Proofs Go.Proofs.Tryz
set_option maxHeartbeats 2000000
theorem xy(h:HF)(eS:Int)(v0:Int)(v0_q:Addr)(v1:Int)(v1_q:Addr)(av0:At h v0_q [I v0])(av1:At h v1_q [I v1]):Ret prog 111 [I eS,.pointer (some v0_q),.pointer (some v1_q)] h (.bool (iL eS v0 v1)):=by
 refine sT func111 U ntmps111 U λX hM hX hF=>?_
 have hs0:=@rfl _ (iL eS v0 v1)
 refine qT 7 U (de ty3 av0 U (qO 2 U (cn 4 [8,9,10,11,12] 8 12 (decide (v1<eS)) U (λc1 hk1=>?_) (λe=>?_))))
 .exact ao (de ty3 av1 U (qO 2 U (hk1 _ U)))
 exact an (nretP [.bool (decide (eS<v0)||decide (v1<eS))] (cs hs0))
theorem dP(h:HF)(least:Int)(most:Int)(l:List Int)(fq:Option Addr)(fp:Nat)(hl:SlC zC h fq fp l):Ret prog 60 [I least,I most,.slice fq l.length fp] h (.bool (aW least most l)):=by
 refine sT func60 U ntmps60 U λX hM hX hF=>?_
 have hs0:=@rfl _ (aW least most l)
 exact sr (ct (λb1=>ct (λb2=>qO 5 U (aP 1 U hM (λh1 hle1 hb1=>aP 0 U hM (λh2 hle2 hb2=>aw (dS U U (ai Iq (gT _ _ _ _ (λcj=>iL cj least most) (.func (.func 111) #[] #[Q b1,Q b2]) (hl.mono zH (hle1.t hle2)) (λh' cj hle=>im call111 (xy h' cj least ⟨b1,0,none⟩ most ⟨b2,0,none⟩  (((bI hb1).mono hle2).mono hle) ((bI hb2).mono hle)))) U (qO 3 U (nretP [.bool (!(da l (λcj=>iL cj least most)))] (cs hs0)))))))))))
theorem Ce(h:HF)(x:Budget)  : Ret prog 100 [.agg (qS x).toArray] h (.bool (kX x)):=by
 refine sT func100 U ntmps100 U λX hM hX hF=>?_
 have hs0:=@rfl _ (kX x)
 refine sr (ct (λb1=>qL 13 [0] U (ae hs0 U (λc1 hs1=>?_) (λc1 hs2=>?_))))
 .refine qK 8 [0] U (aw (bB (cells:=[I x.No]) eG ty3 zc3 U U kr (λb2=>aP 0 U hM (λh1 hle1 hb1=>?_))))
  have sl1:SlC zC h1 (some ⟨b2,0,none⟩) 1 ([x.No]):=bP.slB0 (T:=3) (fz:=(0,0)) ((show bP zC h [I x.No] ([x.No])from⟨[I x.No],[],rfl,rfl,rfl,rfl⟩).mono zH hle1) hb1
  refine ai vY (dP _ 0 1048576 _ _ _ sl1) U (ao (bD 7 [11,12,13,14,15,16,17,18] 11 18 (aW 0 1099511627775 ([x.At,x.Known])) U (λc2 hk1=>?_) (λe=>?_)))
  .refine qL 4 [0,0] U (aw (bB (cells:=[I x.At,I x.Known]) eG ty3 zc3 U U kr (λb3=>aP 0 U hM (λh2 hle2 hb2=>?_))))
   have sl2:SlC zC h2 (some ⟨b3,0,none⟩) 2 ([x.At,x.Known]):=bP.slB0 (T:=3) (fz:=(0,0)) ((show bP zC h1 [I x.At,I x.Known] ([x.At,x.Known])from⟨[I x.At],[I x.Known],rfl,rfl,rfl,⟨[I x.Known],[],rfl,rfl,rfl,rfl⟩⟩).mono zH hle2) hb2
   exact ai vY (dP _ 0 1099511627775 _ _ _ sl2) U (eM U (kI (h:=h1) hle2 hX hle1 (hk1 _ U)))
  refine ao (bD 5 [19,20,21,22,23,24] 19 24 (aW (-1) 15 ([x.Kind])) U (λc3 hk2=>?_) (λe=>?_))
  .refine qL 2 [0] U (aw (bB (cells:=[I x.Kind]) eG ty3 zc3 U U kr (λb4=>aP 0 U hM (λh3 hle3 hb3=>?_))))
   have sl3:SlC zC h3 (some ⟨b4,0,none⟩) 1 ([x.Kind]):=bP.slB0 (T:=3) (fz:=(0,0)) ((show bP zC h1 [I x.Kind] ([x.Kind])from⟨[I x.Kind],[],rfl,rfl,rfl,rfl⟩).mono zH hle3) hb3
   exact ai vY (dP _ (-1) 15 _ _ _ sl3) U (eM U (kI (h:=h1) hle3 hX hle1 (hk2 _ U)))
  refine ao (bD 5 [25,26,27,28,29,30] 25 30 (aW 1 1099511627776 ([x.Period])) U (λc4 hk3=>?_) (λe=>?_))
  .refine qL 2 [0] U (aw (bB (cells:=[I x.Period]) eG ty3 zc3 U U kr (λb5=>aP 0 U hM (λh4 hle4 hb4=>?_))))
   have sl4:SlC zC h4 (some ⟨b5,0,none⟩) 1 ([x.Period]):=bP.slB0 (T:=3) (fz:=(0,0)) ((show bP zC h1 [I x.Period] ([x.Period])from⟨[I x.Period],[],rfl,rfl,rfl,rfl⟩).mono zH hle4) hb4
   exact ai vY (dP _ 1 1099511627776 _ _ _ sl4) U (eM U (kI (h:=h1) hle4 hX hle1 (hk3 _ U)))
  refine ao (bD 6 [31,32,33,34,35,36,37] 31 37 (aW 0 0 ([x.Count])) U (λc5 hk4=>?_) (λe=>?_))
  .refine qL 3 [0] U (aw (bB (cells:=[I x.Count]) eG ty3 zc3 U U kr (λb6=>aP 0 U hM (λh5 hle5 hb5=>?_))))
   have sl5:SlC zC h5 (some ⟨b6,0,none⟩) 1 ([x.Count]):=bP.slB0 (T:=3) (fz:=(0,0)) ((show bP zC h1 [I x.Count] ([x.Count])from⟨[I x.Count],[],rfl,rfl,rfl,rfl⟩).mono zH hle5) hb5
   exact ai vY (dP _ 0 0 _ _ _ sl5) U (eM U (kI (h:=h1) hle5 hX hle1 (hk4 _ U)))
  refine ao (bD 6 [38,39,40,41,42,43,44] 38 44 (aW 0 0 ([x.Value])) U (λc6 hk5=>?_) (λe=>?_))
  .refine qL 3 [0] U (aw (bB (cells:=[I x.Value]) eG ty3 zc3 U U kr (λb7=>aP 0 U hM (λh6 hle6 hb6=>?_))))
   have sl6:SlC zC h6 (some ⟨b7,0,none⟩) 1 ([x.Value]):=bP.slB0 (T:=3) (fz:=(0,0)) ((show bP zC h1 [I x.Value] ([x.Value])from⟨[I x.Value],[],rfl,rfl,rfl,rfl⟩).mono zH hle6) hb6
   exact ai vY (dP _ 0 0 _ _ _ sl6) U (eM U (kI (h:=h1) hle6 hX hle1 (hk5 _ U)))
  exact an (nretP [.bool ((((((aW 0 1048576 ([x.No]))&&(aW 0 1099511627775 ([x.At,x.Known])))&&(aW (-1) 15 ([x.Kind])))&&(aW 1 1099511627776 ([x.Period])))&&(aW 0 0 ([x.Count])))&&(aW 0 0 ([x.Value])))] (cs hs1))
 refine qK 5 [0] U (aw (bB (cells:=[I x.No]) eG ty3 zc3 U U kr (λb8=>aP 0 U hM (λh7 hle7 hb7=>?_))))
 have sl7:SlC zC h7 (some ⟨b8,0,none⟩) 1 ([x.No]):=bP.slB0 (T:=3) (fz:=(0,0)) ((show bP zC h [I x.No] ([x.No])from⟨[I x.No],[],rfl,rfl,rfl,rfl⟩).mono zH hle7) hb7
 refine ai vY (dP _ 0 1048576 _ _ _ sl7) U (ao (bD 7 [11,12,13,14,15,16,17,18] 11 18 (aW 0 1099511627775 ([x.At,x.Known])) U (λc7 hk6=>?_) (λe=>?_)))
 .refine qL 4 [0,0] U (aw (bB (cells:=[I x.At,I x.Known]) eG ty3 zc3 U U kr (λb9=>aP 0 U hM (λh8 hle8 hb8=>?_))))
  have sl8:SlC zC h8 (some ⟨b9,0,none⟩) 2 ([x.At,x.Known]):=bP.slB0 (T:=3) (fz:=(0,0)) ((show bP zC h7 [I x.At,I x.Known] ([x.At,x.Known])from⟨[I x.At],[I x.Known],rfl,rfl,rfl,⟨[I x.Known],[],rfl,rfl,rfl,rfl⟩⟩).mono zH hle8) hb8
  exact ai vY (dP _ 0 1099511627775 _ _ _ sl8) U (eM U (kI (h:=h7) hle8 hX hle7 (hk6 _ U)))
 refine ao (bD 5 [19,20,21,22,23,24] 19 24 (aW (-1) 15 ([x.Kind])) U (λc8 hk7=>?_) (λe=>?_))
 .refine qL 2 [0] U (aw (bB (cells:=[I x.Kind]) eG ty3 zc3 U U kr (λb10=>aP 0 U hM (λh9 hle9 hb9=>?_))))
  have sl9:SlC zC h9 (some ⟨b10,0,none⟩) 1 ([x.Kind]):=bP.slB0 (T:=3) (fz:=(0,0)) ((show bP zC h7 [I x.Kind] ([x.Kind])from⟨[I x.Kind],[],rfl,rfl,rfl,rfl⟩).mono zH hle9) hb9
  exact ai vY (dP _ (-1) 15 _ _ _ sl9) U (eM U (kI (h:=h7) hle9 hX hle7 (hk7 _ U)))
 refine ao (bD 5 [25,26,27,28,29,30] 25 30 (aW 1 1099511627776 ([x.Period])) U (λc9 hk8=>?_) (λe=>?_))
 .refine qL 2 [0] U (aw (bB (cells:=[I x.Period]) eG ty3 zc3 U U kr (λb11=>aP 0 U hM (λh10 hle10 hb10=>?_))))
  have sl10:SlC zC h10 (some ⟨b11,0,none⟩) 1 ([x.Period]):=bP.slB0 (T:=3) (fz:=(0,0)) ((show bP zC h7 [I x.Period] ([x.Period])from⟨[I x.Period],[],rfl,rfl,rfl,rfl⟩).mono zH hle10) hb10
  exact ai vY (dP _ 1 1099511627776 _ _ _ sl10) U (eM U (kI (h:=h7) hle10 hX hle7 (hk8 _ U)))
 refine ao (bD 6 [31,32,33,34,35,36,37] 31 37 (aW 0 1048576 ([x.Count])) U (λc10 hk9=>?_) (λe=>?_))
 .refine qL 3 [0] U (aw (bB (cells:=[I x.Count]) eG ty3 zc3 U U kr (λb12=>aP 0 U hM (λh11 hle11 hb11=>?_))))
  have sl11:SlC zC h11 (some ⟨b12,0,none⟩) 1 ([x.Count]):=bP.slB0 (T:=3) (fz:=(0,0)) ((show bP zC h7 [I x.Count] ([x.Count])from⟨[I x.Count],[],rfl,rfl,rfl,rfl⟩).mono zH hle11) hb11
  exact ai vY (dP _ 0 1048576 _ _ _ sl11) U (eM U (kI (h:=h7) hle11 hX hle7 (hk9 _ U)))
 refine ao (bD 6 [38,39,40,41,42,43,44] 38 44 (aW 0 1099511627776 ([x.Value])) U (λc11 hk10=>?_) (λe=>?_))
 .refine qL 3 [0] U (aw (bB (cells:=[I x.Value]) eG ty3 zc3 U U kr (λb13=>aP 0 U hM (λh12 hle12 hb12=>?_))))
  have sl12:SlC zC h12 (some ⟨b13,0,none⟩) 1 ([x.Value]):=bP.slB0 (T:=3) (fz:=(0,0)) ((show bP zC h7 [I x.Value] ([x.Value])from⟨[I x.Value],[],rfl,rfl,rfl,rfl⟩).mono zH hle12) hb12
  exact ai vY (dP _ 0 1099511627776 _ _ _ sl12) U (eM U (kI (h:=h7) hle12 hX hle7 (hk10 _ U)))
 exact an (nretP [.bool ((((((aW 0 1048576 ([x.No]))&&(aW 0 1099511627775 ([x.At,x.Known])))&&(aW (-1) 15 ([x.Kind])))&&(aW 1 1099511627776 ([x.Period])))&&(aW 0 1048576 ([x.Count])))&&(aW 0 1099511627776 ([x.Value])))] (cs hs2))
theorem uD(h:HF)(l:List Budget)(fq:Option Addr)(fp:Nat)(hl:SlC Budget.rp h fq fp l):Ret prog 51 [.slice fq l.length fp] h (I (cR l)):=by
 refine sT func51 U ntmps51 U λX hM hX hF=>?_
 have hs0:=@rfl _ (cR l)
 refine qK 11 [] U (ae hs0 U (λc1 hs1=>?_) (λc1 hs2=>?_))
 .have c1p:=of_decide_eq_true c1
  exact sr (an (nretP [I 2] (ci hs1)))
 have c1p:=of_decide_eq_false c1
 refine qK 12 [] U ?_
 refine lp1 l (λi w=>[(3,I w),(9,.slice fq l.length fp),(10,I (l.length:Int)),(11,I (i:Int))]) ([]) (λs1 i w=>(cR.L1 (cR.K1)) s1 w) (-1) hl.1.1 hs2 ?_ ?_
 .rintro i1 gZ fB hs4 e
  exact sr (an (nretP [I 0] (ci hs4)))
 rintro i1 gZ y1 rz1 hd1 du bo eA gD hs6 hx1 ag1 e
 refine sr (tO du U (qO 8 U (aw (iF qS An ty120 hl.1 bo U U U (λq2 A2=>dl ty120 A2 U U (aU zc120 (λb2=>aR 0 ty120 U U U U U U (qO 4 U (cI 0 ty120 U U U (ai call100 (Ce h y1) U (qO 2 U (cn 5 [18,19,20,21,22,23] 18 23 (decide (y1.No<=gZ)) U (λc2 hk1=>?_) (λe=>?_)))))))))))))
 .exact qL 5 [0] U (hk1 _ U)
 refine aH (ae hs6 U (λc3 hs7=>?_) (λc3 hs8=>?_))
 .exact sr (an (nretP [I 180] (ci hs7)))
 exact qK 8 [0] U (oi i1 U (qO 2 U (bj (L':=[]) js (ag1 y1.No hs8))))
theorem gH(h:HF)(eS:Int)(low:Int)(high:Int)  : Ret prog 101 [I eS,I low,I high] h (.bool (bh eS low high)):=by
 refine sT func101 U ntmps101 U λX hM hX hF=>?_
 have hs0:=@rfl _ (bh eS low high)
 refine qT 10 U (bD 4 [10,11,12,13,14] 10 14 (decide (eS<=high)) U (λc1 hk1=>?_) (λe=>?_))
 .exact ao (qO 3 U (hk1 _ U))
 exact an (nretP [.bool (decide (low<=eS)&&decide (eS<=high))] (cs hs0))
theorem Mc{n a b:Int}(h:bh n a b=true):a<=n/\n<=b:=by simpa[bh]using h
theorem wR(rec:Expr->Int->List gq)(h:HF)(x:Expr)(fX:cY)(x_q:Addr)(depth:Int)(depth_q:Addr)(hrec:∀(h:HF)(qx:Expr)(lk:cY)(qdepth:Int)(_:qG h qx lk)(_:0<=qdepth/\qdepth+qx.dep<=2000000)(_:qx.dep<x.dep),jY prog 226 [.agg (jC qx lk).toArray,I qdepth] h (λv h'=>∃rv0:Value,v=rv0/\Itr prog rv0 uw (rec qx qdepth) h'))(hx:qG h x fX)(ax:At h x_q (jC x fX))(adepth:At h depth_q [I depth])(hb:0<=depth/\depth+x.dep<=2000000):Itr prog (.func (.func 263) #[] (kB [.pointer (some x_q),.pointer (some depth_q)])) uw (aL.F rec x depth) h:=by
 refine rl call263 ?_
 intro yf ya yb C Sp Pn h1 A hle m1 m2 m3 hC hy
 refine iN Gd U ntmps263 U λX hXM hX=>?_
 have hs0:aL.F rec x depth=[]++aL.F rec x depth:=rfl
 refine sr (ct (λb1=>qL 5 [0] U (dl ty88 (ax.mono hle) U U (de ty3 (adepth.mono hle) U (aw (eY (cells:=[I x.Kind,I x.N,I x.No,.string x.Name,.slice fX.mI x.L.length fX.mJ,I depth]) (places:=[(0,5),(5,1)]) underlying278 zc278 kr kr ?_))))))
 have hx1:aL.F rec x depth=[]++((gq.mk (vG x.Kind x.N x.No x.Name x.L) depth)::((aL.L1 rec depth (aL.K1)) x.L)):=hs0
 let z1:Nat×Obj:=(b1,O [.func yf ya yb] 320)
 refine aw (j2 ([z1]) A ap (hy [] (gq.mk (vG x.Kind x.N x.No x.Name x.L) depth) _ _ _ _ hx1 lf hC ⟨(Ch.mk (cY.mk fX.mI fX.mJ)),U,(show gq.ok h1 (gq.mk (vG x.Kind x.N x.No x.Name x.L) depth) (Ch.mk (cY.mk fX.mI fX.mJ))from⟨(show qG h1 (vG x.Kind x.N x.No x.Name x.L) (cY.mk fX.mI fX.mJ)from Sb (hx.list.mono R3 hle))⟩)⟩) U U (λh2 A1 hle1 hC1=>?_) (λh3 A2 hle2 hS1=>?_) (λch1 h4 A3 hle3 hP1 e=>gk (mC [] (A:=A3) Gd (List.sublist_append_right _ _) hP1)))
 .have hs1:aL.F rec x depth=[(gq.mk (vG x.Kind x.N x.No x.Name x.L) depth)]++(((aL.L1 rec depth (aL.K1)) x.L)):=hx1.trans ap
  refine qL 7 [] U (ky (j:=4) ty86 (ax.mono (hle.t hle1)) U U (qL 3 [] U (dQ (cu (L':=[z1]++(A1++(markB []))) ap ?_))))
  refine rZ (ι:=Nat×List gq×LH×List Nat×HF) (λi=>[]) (λi=>marks i.2.2.2.1) (λi=>i.2.2.2.2) (λi=>[z1]++(i.2.2.1++(markB i.2.2.2.1))) (λi=>i.1<=x.L.length/\aL.F rec x depth=i.2.1++((aL.K1))/\C i.2.1 i.2.2.2.2 i.2.2.1/\kK h2 i.2.2.2.2) ?_ (λhx1=>?_)
  .rintro⟨i1,dn1,A1_,rs1,hh1⟩ ⟨fB,hs2,hC1_,hl1⟩ e
   refine cu (L':=([z1]++(A1_))++markB rs1) ap ?_
   have hs3:aL.F rec x depth=dn1:=hs2.trans (List.append_nil _)
   exact rm rs1 (A:=A1_) Gd U js (.inl (hs3▸hC1_))
  refine wD (ι:=Nat×List gq×LH×List Nat×HF×List Expr) (λi=>[(2,.pointer (some depth_q)),(3,Q b1),(14,.slice fX.mI x.L.length fX.mJ),(15,I (x.L.length:Int)),(16,I (i.1:Int))]) (λi=>marks i.2.2.2.1) (λi=>i.2.2.2.2.1) (λi=>[z1]++(i.2.2.1++(markB i.2.2.2.1))) (λi=>x.L.drop i.1=i.2.2.2.2.2/\i.1<=x.L.length/\aL.F rec x depth=i.2.1++((aL.L1 rec depth (aL.K1)) i.2.2.2.2.2)/\C i.2.1 i.2.2.2.2.1 i.2.2.1/\kK h2 i.2.2.2.2.1) (λi=>i.2.2.2.2.2.length) (0,[(gq.mk (vG x.Kind x.N x.No x.Name x.L) depth)],A1,[],h2,x.L) U rd sw ⟨U,vM _,hs1,hC1,lf⟩ ?_
  rintro⟨i1,dn1,A1_,rs1,hh1,s1⟩ ⟨hd1,fB,hs4,hC1_,hl1⟩ ag1 e
  rcases s1 with _|⟨y1,rz1⟩
  .have iw:=oI hd1
   exact sr (fO iw U (qO 4 U (hx1 (i1,dn1,A1_,rs1,hh1) _ ⟨fB,hs4,hC1_,hl1⟩ trivial)))
  have du:=tJ hd1
  have bo:=sQ hd1
  have eA:=jv hd1
  have gD:=(hx.list.mono R3 (hle.t hle1)).1.1
  have hdy:=kV (fS hd1)
  refine sr (tO du U (qO 8 U (aw (iR lP ty88 (hx.list.mono R3 ((hle.t hle1).t hl1)).1 bo U U U (λ_ _ _ e=>e) (λq2 r2 A8 ok2=>dl ty88 A8 U U (aU zc88 (λb4=>aR 0 ty88 U U U U U U (gS (L':=[(b4,O (jC y1 r2) 88),z1]++(A1_++(markB rs1))) U (qO 3 U (cI 0 ty88 U U U (de ty3 (adepth.mono ((hle.t hle1).t hl1)) U (iq (v':=I (depth+1)) U (jc ob) (aw (cJ K7 (hrec _ _ _ (depth+1) ok2 ob (kV (fS hd1))) U (λv2 h9 hle8 hp2=>?_)))))))))))))))
  obtain⟨_,rfl,mo2⟩:=hp2
  refine qO 2 U ?_
  let z2:Nat×Obj:=(b4,O (jC y1 r2) 88)
  refine cu (L':=([z2,z1]++(A1_))++markB rs1) ap ?_
  refine jw (it:=v2) (xs:=(rec y1 (depth+1))) (ι:=List gq×LH×HF) rs1 (λi=>i.2.2) (λi=>[z2,z1]++(i.2.1)) (λs i=>aL.F rec x depth=i.1++((aL.L3 ((aL.L1 rec depth (aL.K1) rz1))) s)/\C i.1 i.2.2 i.2.1/\kK h9 i.2.2) (λi=>Sp i.2.2 i.2.1/\kK h9 i.2.2) (λ_=>False) 0 (λch h L=>∃B,B.Sublist L/\Pn ch h B) (dn1,A1_,h9) Gd U mo2 U oc (λ_ _ _ _ hl⟨B,hs,hp⟩=>⟨B,hs,m3 _ _ _ _ hl hp⟩) U (show[z2,z1]++(A1_)=_ from U) ⟨hs4,(m1 _ _ _ _ hle8 hC1_),lf⟩ ?_ ?_ ?_ ?_ ?_
  .rintro l3 dm3 lp3 y3 rz3 vs3 ⟨dn3,A3_,hh3⟩ hr3 X hFR3 ⟨hs6,hC3_,hl3⟩ hl03 hlr3 hv3 hX hXM hlp3 nx3 rt3 ex3 pn3
   obtain⟨rr3_0,rfl,ok3_0⟩:=hv3
   let z3:Nat×Obj:=(dm3,.deferred (some []))
   refine cu (L':=[(l3,.loop lp3),z3,z2,z1]++(A3_++(markB rs1))) ap (bu (aU zc278 (λb6=>aR 0 ty278 U U U U U U (gS (L':=[(b6,O (gq.cells y3 rr3_0) 278),(l3,.loop lp3),z3,z2,z1]++(A3_++(markB rs1))) U (aH (jx 1 U hlp3 (qK 4 [4] U (cI 0 ty278 U U U ?_))))))))
   have hx4:aL.F rec x depth=dn3++(y3::((aL.L3 ((aL.L1 rec depth (aL.K1) rz1))) rz3)):=hs6
   let z4:Nat×Obj:=(l3,.loop { lp3 with state:=.busy })
   refine aw (NC ([(b6,O (gq.cells y3 rr3_0) 278),z4,z3,z2,z1]) A3_ (markB rs1) ap (hy dn3 y3 _ _ _ _ hx4 ((((hle1.t hl1).t hle8).t hl3).t hlr3) (m1 _ _ _ _ hlr3 hC3_) ⟨rr3_0,U,ok3_0⟩) U U (λh13 A12 hle12 hC4=>?_) (λh14 A13 hle13 hS4=>?_) (λch4 h15 A14 hle14 hP4 e=>za (L':=[z4,z3]++(A14++(markB rs1))) js (pn3 _ _ _ A14 ⟨A14,List.Sublist.refl _,hP4⟩)))
   .have hs7:aL.F rec x depth=(dn3++[y3])++(((aL.L3 ((aL.L1 rec depth (aL.K1) rz1))) rz3)):=hx4.trans ap
    exact lL U (qO 4 U (bj (L':=[z4,z3,z2,z1]++(A12++(markB rs1))) js (cu (L':=rdH l3 dm3 lp3 (([z2,z1]++(A12))++markB rs1)) ap (nx3 ((dn3++[y3]),A12,h13) _ _ ⟨hs7,hC4,((hl3.t hlr3).t hle12)⟩ lf))))
   exact lL U (qO 2 U (bj (L':=[z4,z3,z2,z1]++(A13++(markB rs1))) js (cu (L':=rdH l3 dm3 lp3 (([z2,z1]++(A13))++markB rs1)) ap (rt3 (dn3,A13,h14) _ _ _ ⟨hS4,((hl3.t hlr3).t hle13)⟩ lf))))
  .rintro dm3 ⟨dn3,A3_,hh3⟩ hn3 ⟨hs8,hC3_,hl3⟩ hln3 hl03
   exact cu (L':=[z2,z1]++(A3_++(markB (dm3::rs1)))) ap (qT 3 U (oi i1 U (qO 2 U (bj (L':=[z1]++(A3_++(markB (dm3::rs1)))) js (ag1 ((i1+1),dn3,A3_,(dm3::rs1),hn3,rz1) _ (Nat.lt_succ_self _) ⟨mY hd1,jv hd1,hs8,(m1 _ _ _ _ hln3 hC3_),(((hl1.t hle8).t hl3).t hln3)⟩ rd)))))
  .rintro dm3 ⟨dn3,A3_,hh3⟩ hn3 ⟨hS5,hl3⟩ hln3 hl03
   exact cu (L':=[z2,z1]++(A3_++(markB (dm3::rs1)))) ap (cu (L':=([z2,z1]++(A3_))++markB (dm3::rs1)) ap (mi (dm3::rs1) (A:=A3_) Gd U js (.inr (m2 _ _ _ hln3 hS5))))
  .exact xf
  rintro dm3 ch hn3 L0 ⟨B,hB,hp⟩ hl03
  exact mC (dm3::rs1) Gd hB hp
 exact lL U (qO 2 U (dQ (mi [] (A:=A2) Gd U js (.inr hS1))))
theorem qv:∀(m:Nat)(h:HF)(x:Expr)(fX:cY)(depth:Int)(_:qG h x fX)(_:0<=depth/\depth+x.dep<=2000000)(_:x.dep<=m),jY prog 226 [.agg (jC x fX).toArray,I depth] h (λv h'=>∃rv0:Value,v=rv0/\Itr prog rv0 uw (aL.go m x depth) h')
 |0,h,x,fX,depth,hx,hb,hd=>absurd hd (Nat.not_le.2 (Expr.me _))
 |m+1,h,x,fX,depth,hx,hb,hd=>by
  exact cD func226 U ntmps226 U λX hM hX=>sr (ct (λb1=>ct (λb2=>qO 4 U (aP 1 U hM (λh2 hle2 hb2=>aP 0 U hM (λh3 hle3 hb3=>aw (dS U U (an (il [.func (.func 263) #[] #[Q b1,Q b2]] func226 U rd ⟨_,U,wR (aL.go m) h3 x fX ⟨b1,0,none⟩ depth ⟨b2,0,none⟩ (λh' y RL d' hy hb' hl=>qv m h' y RL d' hy hb' ob) (hx.mono (hle2.t hle3)) ((bI hb2).mono hle3) (bI hb3) hb⟩)))))))))
theorem nd(h:HF)(x:Expr)(fX:cY)(depth:Int)(hx:qG h x fX)(hb:0<=depth/\depth+x.dep<=2000000):jY prog 226 [.agg (jC x fX).toArray,I depth] h (λv h'=>∃rv0:Value,v=rv0/\Itr prog rv0 uw (bM x depth) h'):=qv _ h x fX depth hx hb (xG _)
theorem gU(h:HF)(ok:Bool)(QL:Int)  : F5 prog 258 [.bool ok,I QL] h (exW stopV (λr:Unit=>(.tuple #[]:Value)) (eZ ok QL)):=by
 refine cD func258 U ntmps258 U λX hM hX=>?_
 have hs0:=@rfl _ (eZ ok QL)
 refine qT 5 U (ae hs0 U (λc1 hs1=>?_) (λc1 hs2=>?_))
 .exact bu (ao (aw (eY (cells:=[I QL]) (places:=[(0,1)]) underlying313 zc313 kr kr (aw (ff (Dx underlying313 U U) (aw (Dt U xX (λe=>gk (nM [] func258 hX (congrArg (exW stopV (λr:Unit=>(.tuple #[]:Value))) hs1))))))))))
 refine aQ ?_
 have hs3:eZ ok QL=(Except.ok ()):=hs2
 exact dQ (xO [] [] func258 U hX trivial (congrArg (exW stopV (λr:Unit=>(.tuple #[]:Value))) hs3))
theorem Mv{c:Bool}{e:Int}{u:Unit}(h:eZ c e=.ok u):c=true:=by
 cases c with
 |true=>rfl
 |false=>simp[eZ]at h
theorem mA(h:HF)(p:Policy)(gG:eU)(hp:kN h p gG)(hsz0:p.Rules.length<=2000000):jY prog 259 [.agg (kD p gG).toArray] h (λv h'=>∃(rb0:Option Addr)(rc0:Nat),v=.slice rb0 (aA p).length rc0/\SlC Su h' rb0 rc0 (aA p)):=by
 refine sT func259 U ntmps259 U λX hM hX hF=>?_
 have hs0:=@rfl _ (aA p)
 refine sr (ct (λb1=>qL 10 [0] U ?_))
 let z2:Nat×Obj:=(b1,O (kD p gG) 94)
 refine lp2 p.Rules (λi w=>[(1,Q b1),(2,.slice w.2.1 w.1.length w.2.2.1),(6,.slice gG.ou p.Rules.length gG.ot),(7,I (p.Rules.length:Int)),(8,I (i:Int))]) (λ_=>h) (λw=>[z2]++(w.2.2.2)) (λi w=>dA Su 88 h w.1 w.2.1 w.2.2.1 w.2.2.2/\w.1.length<=0+i) (λs1 i w=>(aA.L1 (aA.K1 p)) s1 w.1) ([],none,0,[]) hp.Rules.1.1 hs0 ⟨dA.nil,lo⟩ ?_ ?_
 .rintro i1 ⟨FS,Rg,Rf,P7⟩ fB hs1 ⟨Jv,Ov⟩ e
  try dsimp only at Jv Ov
  refine qK 4 [] U (cI 0 ty88 U U U (aw (bB (cells:=[I p.Change.Kind,I p.Change.N,I p.Change.No,.string p.Change.Name,.slice gG.Change.mI p.Change.L.length gG.Change.mJ]) lP ty88 zc88 U U kr (λb5=>?_))))
  let z1:Nat×Obj:=(b5,O [I p.Change.Kind,I p.Change.N,I p.Change.No,.string p.Change.Name,.slice gG.Change.mI p.Change.L.length gG.Change.mJ] 88)
  refine aw (eo Tw ([z1,z2]) ([]) (λG=>[z1,z2]++G) ap (λ_=>ap) lP ty88 zc88 U bytes88 Jv U U (fd 0 U (cE (R:=Su) (p.Change) U ⟨gG.Change,U,hp.Change⟩)) lo lo (λob3 oc3 G3 gr3=>an (fW R3 ([z1,z2]) G3 ([]) ap hM gr3 (λh2 hle2 sl2=>?_))))
  have hs2:aA p=(FS++[p.Change]):=hs1
  exact nretH [.slice ob3 ((FS++[p.Change]).length) oc3] ⟨ob3,oc3,congrArg (λr:List Expr=>(.slice ob3 r.length oc3:Value)) hs2.symm,(by rw[hs2];exact sl2)⟩
 rintro i1 ⟨FS,Rg,Rf,P7⟩ y1 rz1 hd1 du bo eA gD hs3 ⟨Jv,Ov⟩ hx1 ag1 e
 try dsimp only at Jv Ov
 exact sr (tO du U (qO 8 U (aw (iR tQ ty91 hp.Rules.1 bo U U U (λ_ _ _ e=>e) (λq2 r2 A2 ok2=>dl ty91 A2 U U (aU zc91 (λb6=>aR 0 ty91 U U U U U U (gS (L':=[(b6,O (TC y1 r2) 91),z2]++(P7)) U (qL 4 [] U (cI 0 ty88 U U U (aw (bB (cells:=[I y1.Expr.Kind,I y1.Expr.N,I y1.Expr.No,.string y1.Expr.Name,.slice r2.Expr.mI y1.Expr.L.length r2.Expr.mJ]) lP ty88 zc88 U U kr (λb7=>aw (eo Tw ([(b7,O [I y1.Expr.Kind,I y1.Expr.N,I y1.Expr.No,.string y1.Expr.Name,.slice r2.Expr.mI y1.Expr.L.length r2.Expr.mJ] 88),(b6,O (TC y1 r2) 91),z2]) ([]) (λG=>[(b7,O [I y1.Expr.Kind,I y1.Expr.N,I y1.Expr.No,.string y1.Expr.Name,.slice r2.Expr.mI y1.Expr.L.length r2.Expr.mJ] 88),(b6,O (TC y1 r2) 91),z2]++G) ap (λ_=>ap) lP ty88 zc88 U bytes88 Jv U U (fd 0 U (cE (R:=Su) (y1.Expr) U ⟨r2.Expr,U,ok2.Expr⟩)) lo lo (λob4 oc4 G4 gr4=>qO 4 U (oi i1 U (qO 2 U (bj (L':=[z2]++G4) js (ag1 ((FS++[y1.Expr]),ob4,oc4,G4) hs3 ⟨gr4,lo⟩)))))))))))))))))))
theorem LQ(p:Policy):∀(l:List Rule)(g:List Expr),aA.L1 (aA.K1 p) l g=g++(l.map (·.Expr)++[p.Change])
 |[],g=>by simp[aA.L1,aA.K1]
 |y::l,g=>by simp[aA.L1,LQ p l]
theorem OB(p:Policy):aA p=p.Rules.map (·.Expr)++[p.Change]:=by
 unfold aA;rw[LQ];simp
theorem Bf{p:Policy}(h:smP p){y:Expr}(hy:y∈aA p):y.dep<=1500000:=by
 rw[OB]at hy
 rcases xH.1 hy with hy|hy
 .obtain⟨r,hr,rfl⟩:=List.mem_map.1 hy;exact h.2.1 r hr
 rw[xC.1 hy];exact h.2.2.1
end
variable {af:Array Edge}{ats:Array TypeId}{d:Option Nat}{g:Option (Nat×Bool)}{pos:String}{ty:TypeId}{x:Operand}
section
open Go.Proofs Go.Proofs.Tryz
theorem ext282:Extern.find Tryz.f305=some Extern.BytealgIndexByte.indexByte:=by kernel_rfl
theorem ext282n:Extern.findNext Tryz.f305=none:=by kernel_rfl
theorem run282(s:ByteArray)(c:Int)(w:World):(Extern.BytealgIndexByte.indexByte #[.string s,.int .u8 c]).run prog w=.ok (.int .i64 (idxByte s c)) w:=by
 show(do
  let b ←Extern.Bytes.bytesOf (.string s)
  let c ←Extern.Bytes.asByte (.int .u8 c)
  match(jJ b.size).find? λi=>b[i]! == c with
  |some i=>pure (goInt i)
  |none=>pure (goInt (-1)):Sem Value).run prog w=_
 simp only[Extern.Bytes.bytesOf,Extern.Bytes.asByte,qN,Sem.run_pure,zL,idxByte,goInt]
 cases hf:(jJ s.size).find? (λi=>s[i]! == UInt8.ofNat c.toNat)with
 |none=>simp only[show c.toNat.toUInt8=UInt8.ofNat c.toNat from rfl,hf];simp
 |some i=>simp only[show c.toNat.toUInt8=UInt8.ofNat c.toNat from rfl,hf];simp
theorem call282(s:ByteArray)(c:Int)(w:World):(callFunc 305 #[.string s,.int .u8 c]).run prog w=.ok (.value (.int .i64 (idxByte s c))) w:=by
 have hb:Tryz.f305.body.isNone=true:=by kernel_rfl
 have hn : (Tryz.f305.name == "runtime.NumGoroutine") = false := by kernel_rfl
 simp only[callFunc,qN,run_program,zL,func305,hn,hb,ext282,ext282n]
 simp[run282]
theorem NT{e:Env}{X:Cx}{h:HF}{L:LH}{y:Operand}{s:ByteArray}{c:Int}(hx:e.ev x=.string s)(hy:e.ev y=.int .u8 c):
  ∀w,St X h L w->(execOp e.ev ⟨d,.call ⟨.value (.func 305),#[x,y],ats⟩,ty,pos,af,g⟩).run prog w=.ok (.value (.int .i64 (idxByte s c))) w:=
 λw _=>by
  have hf:e.ev (.func 305)=.func (.func 305) #[] #[]:=rfl
  simp[execOp,resolve,hf,kH,invoke,hx,hy,call282]
end
section
open Go.Proofs Go.Proofs.Tryz
set_option maxHeartbeats 2000000
theorem AJ(h:HF)(p:Policy)(gG:eU)(hp:kN h p gG)(hsm:smP p):F5 prog 222 [.agg (kD p gG).toArray] h (exW stopV (λr:Unit=>(.tuple #[]:Value)) (cG p)):=by
 refine cD K6 U ntmps222 U λX hM hX=>?_
 have hs0:=@rfl _ (cG p)
 have hsr:=hsm.rules
 have hsc:=hsm.change
 refine sr (ct (λb1=>qL 8 [0] U (bD 5 [10,11,12,13,14,15] 10 15 (decide ((p.Kinds.length:Int)<=16)) U (λc1 hk1=>?_) (λe=>?_))))
 .exact qL 5 [0] U (hk1 _ U)
 refine ao (bD 5 [16,17,18,19,20,21] 16 21 (decide ((p.Rules.length:Int)<=16)) U (λc2 hk2=>?_) (λe=>?_))
 .exact qL 5 [0] U (hk2 _ U)
 refine aw (mS yE (gU h ((decide ((p.Offices.length:Int)<=32)&&decide ((p.Kinds.length:Int)<=16))&&decide ((p.Rules.length:Int)<=16)) 2) U (λu1 hu1=>?_) (λpv1 hpv1 e=>?_))
 .obtain⟨rx1,hrx1,rfl⟩:=oF hu1
  have hs1:=hs0.trans (pw hrx1)
  cases rx1
  refine qO 3 U (cI 0 ty94 U U U (aw (cJ call259 (mA _ _ _ hp ob) U (λv1 h1 hle1 hp1=>?_))))
  obtain⟨rb1,rc1,rfl,sl1⟩:=hp1
  refine qL 3 [] U (dQ ?_)
  let z1:Nat×Obj:=(b1,O (kD p gG) 94)
  refine cu (L':=[z1]++(markB [])) ap ?_
  refine rZ (ι:=Nat×List Nat×HF) (λi=>[]) (λi=>marks i.2.1) (λi=>i.2.2) (λi=>[z1]++(markB i.2.1)) (λi=>i.1<=(aA p).length/\cG p=((cG.K1))/\kK h1 i.2.2) ?_ (λhx1=>?_)
  .rintro⟨i1,rs1,hh1⟩ ⟨fB,hs2,hl1⟩ e
   have hs3:cG p=(Except.ok ()):=hs2
   exact cu (L':=([z1])++markB rs1) ap (xO rs1 [] K6 U hX trivial (congrArg (exW stopV (λr:Unit=>(.tuple #[]:Value))) hs3))
  refine wD (ι:=Nat×List Nat×HF×List Expr) (λi=>[(24,.slice rb1 ((aA p).length) rc1),(25,I ((aA p).length:Int)),(26,I (i.1:Int))]) (λi=>marks i.2.1) (λi=>i.2.2.1) (λi=>[z1]++(markB i.2.1)) (λi=>(aA p).drop i.1=i.2.2.2/\i.1<=(aA p).length/\cG p=((cG.L1 (cG.K1)) i.2.2.2)/\kK h1 i.2.2.1) (λi=>i.2.2.2.length) (0,[],h1,(aA p)) U rd sw ⟨U,vM _,hs1,lf⟩ ?_
  rintro⟨i1,rs1,hh1,s1⟩ ⟨hd1,fB,hs4,hl1⟩ ag1 e
  rcases s1 with _|⟨y1,rz1⟩
  .have iw:=oI hd1
   exact sr (fO iw U (qO 4 U (hx1 (i1,rs1,hh1) _ ⟨fB,hs4,hl1⟩ trivial)))
  have du:=tJ hd1
  have bo:=sQ hd1
  have eA:=jv hd1
  have gD:=sl1.1.1
  try have hsy:=Bf hsm (fS hd1)
  refine sr (tO du U (qO 8 U (aw (iR lP ty88 (sl1.mono R3 hl1).1 bo U U U (λ_ _ _ e=>e) (λq2 r2 A2 ok2=>dl ty88 A2 U U (aU zc88 (λb5=>aR 0 ty88 U U U U U U (qO 3 U (aU zc3 (λb6=>cB 0 ty3 U U U U U U (qO 3 U (cI 1 ty88 U U U (aw (cJ K7 (nd _ _ _ 1 ok2 ob) U (λv3 h3 hle3 hp3=>?_)))))))))))))))
  obtain⟨_,rfl,mo2⟩:=hp3
  refine qO 2 U ?_
  let z2:Nat×Obj:=(b5,O (jC y1 r2) 88)
  refine cu (L':=([(b6,O [I 0] 3),z2,z1])++markB rs1) ap ?_
  refine jw (it:=v3) (xs:=(bM y1 1)) (ι:=Int×HF) rs1 (λi=>i.2) (λi=>[(b6,O [I i.1] 3),z2,z1]) (λs i=>cG p=((cG.L3 (λzg3_b6_0=>(cG.L1 (cG.K1) rz1))) s i.1)/\kK h3 i.2) (λ_=>False) (λ_=>False) 0 (λch _ _=>∃pv_,ch=[{ v:=stopV pv_,recovered:=false }]/\cG p=.error pv_) (0,h3) K6 U mo2 U oc (λ_ _ _ _ _ hq=>hq) U (show[(b6,O [I 0] 3),z2,z1]=_ from U) ⟨hs4,lf⟩ ?_ ?_ ?_ ?_ ?_
  .rintro l3 dm3 lp3 y3 rz3 vs3 ⟨qh,hh3⟩ hr3 X hFR3 ⟨hs6,hl3⟩ hl03 hlr3 hv3 hX hXM hlp3 nx3 rt3 ex3 pn3
   obtain⟨rr3_0,rfl,ok3_0⟩:=hv3
   let z4:Nat×Obj:=(dm3,.deferred (some []))
   refine cu (L':=[(l3,.loop lp3),z4,(b6,O [I qh] 3),z2,z1]++(markB rs1)) ap (bu (aU zc278 (λb8=>aR 0 ty278 U U U U U U (aH (jx 1 U hlp3 (qK 5 [3] U (cB 3 ty3 U U U U U U (qL 5 [3] U (bD 4 [37,38,39,40,41] 37 41 (decide (y3.depth<=16)) U (λc3 hk3=>?_) (λe=>?_))))))))))
   .exact qL 4 [0] U (hk3 _ U)
   refine aw (mS yE (gU hr3 (decide ((zE .i64 (qh+1))<=256)&&decide (y3.depth<=16)) 2) U (λu2 hu2=>?_) (λpv2 hpv2 e=>?_))
   .obtain⟨rx2,hrx2,rfl⟩:=oF hu2
    have hs7:=hs6.trans (pw hrx2)
    cases rx2
    refine qO 2 U ?_
    let z3:Nat×Obj:=(b6,O [I (zE .i64 (qh+1))] 3)
    exact bj (L':=[(l3,.loop { lp3 with state:=.busy }),z4,z3,z2,z1]++(markB rs1)) js (cu (L':=rdH l3 dm3 lp3 (([z3,z2,z1])++markB rs1)) ap (nx3 ((zE .i64 (qh+1)),hr3) _ _ ⟨hs7,(hl3.t hlr3)⟩ lf))
   obtain⟨pv2e,hpv2e,rfl⟩:=mX hpv2
   have hs8:=hs6.trans (nk hpv2e)
   exact za (L':=[(l3,.loop { lp3 with state:=.busy }),z4]++(markB rs1)) js (pn3 _ _ _ [] ⟨_,U,hs8⟩)
  .rintro dm3 ⟨qh,hh3⟩ hn3 ⟨hs9,hl3⟩ hln3 hl03
   exact cu (L':=[(b6,O [I qh] 3),z2,z1]++(markB (dm3::rs1))) ap (qT 3 U (oi i1 U (qO 2 U (bj (L':=[z1]++(markB (dm3::rs1))) js (ag1 ((i1+1),(dm3::rs1),hn3,rz1) _ (Nat.lt_succ_self _) ⟨mY hd1,jv hd1,hs9,(((hl1.t hle3).t hl3).t hln3)⟩ rd)))))
  .exact xf
  .exact xf
  rintro dm3 ch hn3 L0 ⟨pv_,rfl,hpv_⟩ hl03
  exact nM (dm3::rs1) K6 hX (congrArg (exW stopV (λr:Unit=>(.tuple #[]:Value))) hpv_)
 obtain⟨pv1e,hpv1e,rfl⟩:=mX hpv1
 have hs10:=hs0.trans (nk hpv1e)
 exact gk (nM [] K6 hX (congrArg (exW stopV (λr:Unit=>(.tuple #[]:Value))) hs10))
theorem nY(h:HF)(x:Expr)(fX:cY)(hx:qG h x fX):Ret prog 227 [.agg (jC x fX).toArray] h (.bool (dU x)):=by
 refine sT func227 U ntmps227 U λX hM hX hF=>?_
 have hs0:=@rfl _ (dU x)
 refine sr (ct (λb1=>qL 8 [0] U (cn 4 [6,7,8,9,10] 6 10 (x.Kind==2) U (λc1 hk1=>?_) (λe=>?_))))
 .exact qL 4 [0] U (hk1 _ U)
 exact an (nretP [.bool ((x.Kind==1)||(x.Kind==2))] (cs hs0))
theorem oW(h:HF)(s:ByteArray)(c:Int)  : Ret prog 303 [.string s,Y c] h (I (iV s c)):=by
 refine sT func303 U ntmps303 U λX hM hX hF=>?_
 have hs0:=@rfl _ (iV s c)
 exact sr (qO 6 U (aw (ff (NT U U) (an (nretP [I (idxByte s c)] (ci hs0))))))
theorem wE(h:HF)(s:ByteArray)(c:Int)  : Ret prog 299 [.string s,Y c] h (I (strings_IndexByte s c)):=by
 refine sT func299 U ntmps299 U λX hM hX hF=>?_
 have hs0:=@rfl _ (strings_IndexByte s c)
 exact sr (qO 6 U (ai call303 (oW h s c) U (an (nretP [I (iV s c)] (ci hs0)))))
theorem AN(h:HF)(c:Int)  : Ret prog 288 [Y c] h (I (kx c)):=by
 refine sT func288 U ntmps288 U λX hM hX hF=>?_
 have hs0:=@rfl _ (kx c)
 refine qT 11 U (bD 3 [6,7,8,9] 6 9 (decide (c<=122)) U (λc1 hk1=>?_) (λe=>?_))
 .exact ao (qO 2 U (hk1 _ U))
 refine ao (cn 7 [10,11,12,13,14,15,16,17] 10 17 (decide (65<=c)&&decide (c<=90)) U (λc2 hk2=>?_) (λe=>?_))
 .refine qO 3 U (bD 3 [13,14,15,16] 13 16 (decide (c<=90)) U (λc3 hk3=>?_) (λe=>?_))
  .exact ao (qO 2 U (hk3 _ U))
  exact eM U (hk2 _ U)
 refine an (ae hs0 U (λc4 hs1=>?_) (λc4 hs2=>?_))
 .exact sr (an (nretP [I 2] (ci hs1)))
 refine qT 5 U (bD 3 [21,22,23,24] 21 24 (decide (c<=57)) U (λc5 hk4=>?_) (λe=>?_))
 .exact ao (qO 2 U (hk4 _ U))
 refine an (ae hs2 U (λc6 hs4=>?_) (λc6 hs5=>?_))
 .exact sr (an (nretP [I 3] (ci hs4)))
 refine qT 6 U (ae hs5 U (λc7 hs7=>?_) (λc7 hs8=>?_))
 .exact sr (an (nretP [I 5] (ci hs7)))
 refine qT 5 U (cn 3 [31,32,33,34] 31 34 (c==9) U (λc8 hk5=>?_) (λe=>?_))
 .exact ao (qO 2 U (hk5 _ U))
 refine ao (cn 3 [35,36,37,38] 35 38 (c==10) U (λc9 hk6=>?_) (λe=>?_))
 .exact ao (qO 2 U (hk6 _ U))
 refine ao (cn 3 [39,40,41,42] 39 42 (c==13) U (λc10 hk7=>?_) (λe=>?_))
 .exact ao (qO 2 U (hk7 _ U))
 refine an (ae hs8 U (λc11 hs10=>?_) (λc11 hs11=>?_))
 .exact sr (an (nretP [I 1] (ci hs10)))
 refine qT 3 U (ai call299 (wE h (⟨#[123,125,40,41,59,44,61,58,46,60,62,33,43,45,42,47]⟩:ByteArray) c) U (qO 3 U (ae hs11 U (λc12 hs13=>?_) (λc12 hs14=>?_))))
 .have c12p:=of_decide_eq_true c12
  exact sr (an (nretP [I 4] (ci hs13)))
 have c12p:=of_decide_eq_false c12
 exact aQ (qT 5 U (nretP [I 0] (ci hs14)))
theorem iD(h:HF)(s:ByteArray)  : Ret prog 281 [.string s] h (.bool (dX s)):=by
 refine sT func281 U ntmps281 U λX hM hX hF=>?_
 have hs0:=@rfl _ (dX s)
 refine qT 10 U (cn 4 [7,8,9,10,11] 7 11 (decide (32<(s.size:Int))) U (λc1 hk1=>?_) (λe=>?_))
 .exact ao (aw (ff (BI Ao U) (qO 2 U (hk1 _ U))))
 refine ao (cn 5 [12,13,14,15,16,17] 12 17 ((kx ((s.data.getD (0:Int).toNat 0).toNat:Int)) != 2) U (λc2 hk2=>?_) (λe=>?_))
 .refine ao ?_
  have ho1:0<=(0:Int)/\(0:Int)<(s.size:Int):=(by have:=O9 (Bool.or_eq_false_iff.1 ob).1;omega)
  exact aw (ff (Hs Ao U U ho1) (ai call288 (AN h ((s.data.getD (0:Int).toNat 0).toNat:Int)) U (qO 2 U (hk2 _ U))))
 refine aH (ae hs0 U (λc3 hs1=>?_) (λc3 hs2=>?_))
 .exact sr (an (nretP [.bool false] (cs hs1)))
 refine qT 5 U (aw (ff (BI Ao U) (qO 2 U ?_)))
 refine iA (ι:=Nat) (λi=>[]) (λi=>h) (λi=>[]) (λi=>i<=(jJ s.size).length/\dX s=((dX.K1))) ?_ (λhx1=>?_)
 .rintro i1 ⟨fB,hs4⟩ e
  exact sr (an (nretP [.bool true] (cs hs4)))
 refine kl (ι:=Nat×List Nat) (λi=>[(0,.string s),(19,I (s.size:Int)),(20,I (i.1:Int))]) (λi=>h) (λi=>[]) (λi=>(jJ s.size).drop i.1=i.2/\i.1<=(jJ s.size).length/\dX s=((dX.L1 s (dX.K1)) i.2 i.1)) (λi=>i.2.length) (0,(jJ s.size)) rd sw ⟨U,vM _,hs2⟩ ?_
 rintro⟨i1,s1⟩ ⟨hd1,fB,hs6⟩ ag1 e
 rcases s1 with _|⟨y1,rz1⟩
 .have iw:decide ((i1:Int)<(s.size:Int))=false:=by simpa using oI hd1
  exact sr (fO iw U (qO 4 U (hx1 i1 _ ⟨fB,hs6⟩ trivial)))
 have du:decide ((i1:Int)<(s.size:Int))=true:=by simpa using tJ hd1
 have eA:i1<s.size:=by simpa using jv hd1
 refine sr (tO du U (qO 15 U ?_))
 have ho3:0<=((i1:Int):Int)/\((i1:Int):Int)<(s.size:Int):=ob
 refine aw (ff (Hs Ao U U ho3) (ai call288 (AN h ((s.data.getD ((i1:Int):Int).toNat 0).toNat:Int)) U (qO 7 U (bD 3 [29,30,31,32] 29 32 ((kx ((s.data.getD ((i1:Int):Int).toNat 0).toNat:Int)) != 3) U (λc4 hk3=>?_) (λe=>?_)))))
 .exact ao (qO 2 U (hk3 _ U))
 refine ao (bD 3 [33,34,35,36] 33 36 ((kx ((s.data.getD ((i1:Int):Int).toNat 0).toNat:Int)) != 5) U (λc5 hk4=>?_) (λe=>?_))
 .exact ao (qO 2 U (hk4 _ U))
 refine aH (ae hs6 U (λc6 hs8=>?_) (λc6 hs9=>?_))
 .exact sr (an (nretP [.bool false] (cs hs8)))
 exact aQ (qT 2 U (oi i1 U (qO 2 U (ag1 ((i1+1),rz1) _ (Nat.lt_succ_self _) ⟨mY hd1,jv hd1,hs9⟩ rd))))
theorem oD(h:HF)(s:ByteArray)  : Ret prog 260 [.string s] h (.bool (eE s)):=by
 refine sT func260 U ntmps260 U λX hM hX hF=>?_
 have hs0:=@rfl _ (eE s)
 refine qT 16 U (ae hs0 U (λc1 hs1=>?_) (λc1 hs2=>?_))
 .refine aQ (ae hs1 U (λc2 hs3=>?_) (λc2 hs4=>?_))
  .exact sr (an (nretP [.bool false] (cs hs3)))
  exact aQ (qT 4 U (ai yZ (iD h s) U (an (nretP [.bool (dX s)] (cs hs4)))))
 refine qT 5 U (ae hs2 U (λc3 hs7=>?_) (λc3 hs8=>?_))
 .refine aQ (ae hs7 U (λc4 hs9=>?_) (λc4 hs10=>?_))
  .exact sr (an (nretP [.bool false] (cs hs9)))
  exact aQ (qT 4 U (ai yZ (iD h s) U (an (nretP [.bool (dX s)] (cs hs10)))))
 refine qT 5 U (ae hs8 U (λc5 hs13=>?_) (λc5 hs14=>?_))
 .refine aQ (ae hs13 U (λc6 hs15=>?_) (λc6 hs16=>?_))
  .exact sr (an (nretP [.bool false] (cs hs15)))
  exact aQ (qT 4 U (ai yZ (iD h s) U (an (nretP [.bool (dX s)] (cs hs16)))))
 refine qT 5 U (ae hs14 U (λc7 hs19=>?_) (λc7 hs20=>?_))
 .refine aQ (ae hs19 U (λc8 hs21=>?_) (λc8 hs22=>?_))
  .exact sr (an (nretP [.bool false] (cs hs21)))
  exact aQ (qT 4 U (ai yZ (iD h s) U (an (nretP [.bool (dX s)] (cs hs22)))))
 refine qT 5 U (ae hs20 U (λc9 hs25=>?_) (λc9 hs26=>?_))
 .refine aQ (ae hs25 U (λc10 hs27=>?_) (λc10 hs28=>?_))
  .exact sr (an (nretP [.bool false] (cs hs27)))
  exact aQ (qT 4 U (ai yZ (iD h s) U (an (nretP [.bool (dX s)] (cs hs28)))))
 refine qT 5 U (ae hs26 U (λc11 hs31=>?_) (λc11 hs32=>?_))
 .refine aQ (ae hs31 U (λc12 hs33=>?_) (λc12 hs34=>?_))
  .exact sr (an (nretP [.bool false] (cs hs33)))
  exact aQ (qT 4 U (ai yZ (iD h s) U (an (nretP [.bool (dX s)] (cs hs34)))))
 refine qT 5 U (ae hs32 U (λc13 hs37=>?_) (λc13 hs38=>?_))
 .refine aQ (ae hs37 U (λc14 hs39=>?_) (λc14 hs40=>?_))
  .exact sr (an (nretP [.bool false] (cs hs39)))
  exact aQ (qT 4 U (ai yZ (iD h s) U (an (nretP [.bool (dX s)] (cs hs40)))))
 refine qT 5 U (ae hs38 U (λc15 hs43=>?_) (λc15 hs44=>?_))
 .refine aQ (ae hs43 U (λc16 hs45=>?_) (λc16 hs46=>?_))
  .exact sr (an (nretP [.bool false] (cs hs45)))
  exact aQ (qT 4 U (ai yZ (iD h s) U (an (nretP [.bool (dX s)] (cs hs46)))))
 refine qT 5 U (ae hs44 U (λc17 hs49=>?_) (λc17 hs50=>?_))
 .refine aQ (ae hs49 U (λc18 hs51=>?_) (λc18 hs52=>?_))
  .exact sr (an (nretP [.bool false] (cs hs51)))
  exact aQ (qT 4 U (ai yZ (iD h s) U (an (nretP [.bool (dX s)] (cs hs52)))))
 refine qT 5 U (ae hs50 U (λc19 hs55=>?_) (λc19 hs56=>?_))
 .refine aQ (ae hs55 U (λc20 hs57=>?_) (λc20 hs58=>?_))
  .exact sr (an (nretP [.bool false] (cs hs57)))
  exact aQ (qT 4 U (ai yZ (iD h s) U (an (nretP [.bool (dX s)] (cs hs58)))))
 refine qT 5 U (ae hs56 U (λc21 hs61=>?_) (λc21 hs62=>?_))
 .refine aQ (ae hs61 U (λc22 hs63=>?_) (λc22 hs64=>?_))
  .exact sr (an (nretP [.bool false] (cs hs63)))
  exact aQ (qT 4 U (ai yZ (iD h s) U (an (nretP [.bool (dX s)] (cs hs64)))))
 refine qT 5 U (ae hs62 U (λc23 hs67=>?_) (λc23 hs68=>?_))
 .refine aQ (ae hs67 U (λc24 hs69=>?_) (λc24 hs70=>?_))
  .exact sr (an (nretP [.bool false] (cs hs69)))
  exact aQ (qT 4 U (ai yZ (iD h s) U (an (nretP [.bool (dX s)] (cs hs70)))))
 refine qT 5 U (ae hs68 U (λc25 hs73=>?_) (λc25 hs74=>?_))
 .refine aQ (ae hs73 U (λc26 hs75=>?_) (λc26 hs76=>?_))
  .exact sr (an (nretP [.bool false] (cs hs75)))
  exact aQ (qT 4 U (ai yZ (iD h s) U (an (nretP [.bool (dX s)] (cs hs76)))))
 refine qT 5 U (ae hs74 U (λc27 hs79=>?_) (λc27 hs80=>?_))
 .refine aQ (ae hs79 U (λc28 hs81=>?_) (λc28 hs82=>?_))
  .exact sr (an (nretP [.bool false] (cs hs81)))
  exact aQ (qT 4 U (ai yZ (iD h s) U (an (nretP [.bool (dX s)] (cs hs82)))))
 refine qT 5 U (ae hs80 U (λc29 hs85=>?_) (λc29 hs86=>?_))
 .refine aQ (ae hs85 U (λc30 hs87=>?_) (λc30 hs88=>?_))
  .exact sr (an (nretP [.bool false] (cs hs87)))
  exact aQ (qT 4 U (ai yZ (iD h s) U (an (nretP [.bool (dX s)] (cs hs88)))))
 refine qT 4 U (ae hs86 U (λc31 hs91=>?_) (λc31 hs92=>?_))
 .exact sr (an (nretP [.bool false] (cs hs91)))
 exact aQ (qT 4 U (ai yZ (iD h s) U (an (nretP [.bool (dX s)] (cs hs92)))))
theorem ls(h:HF)(s:List ByteArray)(pU:Option Addr)(pI:Nat)(v:ByteArray)(hs:SlC Sz h pU pI s):Ret prog 228 [.slice pU s.length pI,.string v] h (I (aT s v)):=by
 refine sT func228 U ntmps228 U λX hM hX hF=>?_
 have hs0:=@rfl _ (aT s v)
 refine qK 11 [] U ?_
 refine lp0 s (λi=>[(0,.slice pU s.length pI),(1,.string v),(7,I (s.length:Int)),(8,I (i:Int))]) ([]) (λs1 i=>(aT.L1 v (aT.K1)) s1 i) hs.1.1 hs0 ?_ ?_
 .rintro i1 fB hs1 e
  exact sr (an (nretP [I (-1)] (ci hs1)))
 rintro i1 y1 rz1 hd1 du bo eA gD hs3 hx1 ag1 e
 refine sr (tO du U (qO 16 U (aw (iF (λy=>[.string y]) vt ty9 hs.1 bo U U U (λq2 A2=>de ty9 A2 U (qO 2 U (ae hs3 U (λc2 hs4=>?_) (λc2 hs5=>?_))))))))
 .exact sr (qO 3 U (nretP [I (i1:Int)] (ci hs4)))
 exact aQ (qT 2 U (oi i1 U (qO 2 U (ag1 hs5))))
theorem nf(h:HF)(l:List ByteArray)(fq:Option Addr)(fp:Nat)(ok:(ByteArray->Bool))(ok_v:Value)(hl:SlC Sz h fq fp l)(hok:∀(h':HF)(cj:ByteArray),kK h h'->sZ prog ok_v [.string cj] h' [] (.bool (ok cj))):Ret prog 261 [.slice fq l.length fp,ok_v] h (.bool (cm l ok)):=by
 refine sT func261 U ntmps261 U λX hM hX hF=>?_
 have hs0:=@rfl _ (cm l ok)
 refine qK 11 [] U ?_
 refine lp0 l (λi=>[(0,.slice fq l.length fp),(1,ok_v),(7,.slice fq l.length fp),(8,I (l.length:Int)),(9,I (i:Int))]) ([]) (λs1 i=>(cm.L1 l ok (cm.K1)) s1 i) hl.1.1 hs0 ?_ ?_
 .rintro i1 fB hs1 e
  exact sr (an (nretP [.bool true] (cs hs1)))
 rintro i1 y1 rz1 hd1 du bo eA gD hs3 hx1 ag1 e
 refine sr (tO du U (qO 9 U (aw (iF (λy=>[.string y]) vt ty9 hl.1 bo U U U (λq2 A2=>de ty9 A2 U (qO 7 U (aw (lX (v:=.bool (ok y1)) [] (List.nil_sublist _) (hok h y1 lf) U U (qO 2 U (cn 6 [18,19,20,21,22,23,24] 18 24 ((aT l y1) != (i1:Int)) U (λc1 hk1=>?_) (λe=>?_)))))))))))
 .exact ao (ao (ai Nd (ls _ _ _ _ y1 hl) U (qO 3 U (hk1 _ U))))
 refine aH (ae hs3 U (λc2 hs4=>?_) (λc2 hs5=>?_))
 .exact sr (an (nretP [.bool false] (cs hs4)))
 exact aQ (qT 2 U (oi i1 U (qO 2 U (ag1 hs5))))
theorem sW(h:HF)(s:List ByteArray)(pU:Option Addr)(pI:Nat)(v:ByteArray)(hs:SlC Sz h pU pI s):Ret prog 262 [.slice pU s.length pI,.string v] h (.bool (dY s v)):=by
 refine sT func262 U ntmps262 U λX hM hX hF=>?_
 have hs0:=@rfl _ (dY s v)
 exact sr (qO 6 U (ai Nd (ls _ _ _ _ v hs) U (qO 3 U (nretP [.bool (decide (0<=(aT s v)))] (cs hs0)))))
theorem AK(h:HF)(p:Policy)(gG:eU)(hp:kN h p gG)(hsm:smP p):F5 prog 223 [.agg (kD p gG).toArray] h (exW stopV (λr:Unit=>(.tuple #[]:Value)) (cH p)):=by
 refine cD K5 U ntmps223 U λX hM hX=>?_
 have hs0:=@rfl _ (cH p)
 have hsr:=hsm.rules
 refine sr (ct (λb1=>qL 5 [0] U (ai call260 (oD h p.Name) U (ao (bD 4 [8,9,10,11,12] 8 12 (cm p.Offices eE) U (λc1 hk1=>?_) (λe=>?_))))))
 .exact qL 2 [0] U (ai call261 (nf _ _ _ _ eE (.func (.func 260) #[] #[]) hp.Offices (λh' cj hle=>im call260 (oD h' cj))) U (eM U (hk1 _ U)))
 refine ao (bD 4 [13,14,15,16,17] 13 17 (cm p.Kinds eE) U (λc2 hk2=>?_) (λe=>?_))
 .exact qL 2 [0] U (ai call261 (nf _ _ _ _ eE (.func (.func 260) #[] #[]) hp.Kinds (λh' cj hle=>im call260 (oD h' cj))) U (eM U (hk2 _ U)))
 refine aw (mS yE (gU h (((eE p.Name)&&(cm p.Offices eE))&&(cm p.Kinds eE)) 201) U (λu1 hu1=>?_) (λpv1 hpv1 e=>?_))
 .obtain⟨rx1,hrx1,rfl⟩:=oF hu1
  have hs1:=hs0.trans (pw hrx1)
  cases rx1
  refine qO 3 U (cI 0 ty94 U U U (aw (cJ call259 (mA _ _ _ hp ob) U (λv1 h1 hle1 hp1=>?_))))
  obtain⟨rb1,rc1,rfl,sl1⟩:=hp1
  refine qL 3 [] U (dQ ?_)
  let z1:Nat×Obj:=(b1,O (kD p gG) 94)
  refine cu (L':=[z1]++(markB [])) ap ?_
  refine rZ (ι:=Nat×List Nat×HF) (λi=>[]) (λi=>marks i.2.1) (λi=>i.2.2) (λi=>[z1]++(markB i.2.1)) (λi=>i.1<=(aA p).length/\cH p=((cH.K1))/\kK h1 i.2.2) ?_ (λhx1=>?_)
  .rintro⟨i1,rs1,hh1⟩ ⟨fB,hs2,hl1⟩ e
   have hs3:cH p=(Except.ok ()):=hs2
   exact cu (L':=([z1])++markB rs1) ap (xO rs1 [] K5 U hX trivial (congrArg (exW stopV (λr:Unit=>(.tuple #[]:Value))) hs3))
  refine wD (ι:=Nat×List Nat×HF×List Expr) (λi=>[(1,Q b1),(20,.slice rb1 ((aA p).length) rc1),(21,I ((aA p).length:Int)),(22,I (i.1:Int))]) (λi=>marks i.2.1) (λi=>i.2.2.1) (λi=>[z1]++(markB i.2.1)) (λi=>(aA p).drop i.1=i.2.2.2/\i.1<=(aA p).length/\cH p=((cH.L1 p (cH.K1)) i.2.2.2)/\kK h1 i.2.2.1) (λi=>i.2.2.2.length) (0,[],h1,(aA p)) U rd sw ⟨U,vM _,hs1,lf⟩ ?_
  rintro⟨i1,rs1,hh1,s1⟩ ⟨hd1,fB,hs4,hl1⟩ ag1 e
  rcases s1 with _|⟨y1,rz1⟩
  .have iw:=oI hd1
   exact sr (fO iw U (qO 4 U (hx1 (i1,rs1,hh1) _ ⟨fB,hs4,hl1⟩ trivial)))
  have du:=tJ hd1
  have bo:=sQ hd1
  have eA:=jv hd1
  have gD:=sl1.1.1
  try have hsy:=Bf hsm (fS hd1)
  refine sr (tO du U (qO 8 U (aw (iR lP ty88 (sl1.mono R3 hl1).1 bo U U U (λ_ _ _ e=>e) (λq2 r2 A2 ok2=>dl ty88 A2 U U (aU zc88 (λb4=>aR 0 ty88 U U U U U U (qO 3 U (cI 0 ty88 U U U (aw (cJ K7 (nd _ _ _ 1 ok2 ob) U (λv3 h3 hle3 hp3=>?_))))))))))))
  obtain⟨_,rfl,mo2⟩:=hp3
  refine qO 2 U ?_
  let z2:Nat×Obj:=(b4,O (jC y1 r2) 88)
  refine cu (L':=([z2,z1])++markB rs1) ap ?_
  refine jw (it:=v3) (xs:=(bM y1 1)) (ι:=HF) rs1 (λi=>i) (λi=>[z2,z1]) (λs i=>cH p=((cH.L3 p ((cH.L1 p (cH.K1) rz1))) s)/\kK h3 i) (λ_=>False) (λ_=>False) 0 (λch _ _=>∃pv_,ch=[{ v:=stopV pv_,recovered:=false }]/\cH p=.error pv_) h3 K5 U mo2 U oc (λ_ _ _ _ _ hq=>hq) U (show[z2,z1]=_ from U) ⟨hs4,lf⟩ ?_ ?_ ?_ ?_ ?_
  .rintro l3 dm3 lp3 y3 rz3 vs3 hh3 hr3 X hFR3 ⟨hs6,hl3⟩ hl03 hlr3 hv3 hX hXM hlp3 nx3 rt3 ex3 pn3
   obtain⟨rr3_0,rfl,ok3_0⟩:=hv3
   let z3:Nat×Obj:=(dm3,.deferred (some []))
   refine cu (L':=[(l3,.loop lp3),z3,z2,z1]++(markB rs1)) ap (bu (aU zc278 (λb6=>aR 0 ty278 U U U U U U (aH (jx 1 U hlp3 (qK 3 [] U (cI 0 ty88 U U U (ai call227 (nY _ _ _ ok3_0.x) U (qO 2 U (cn 7 [33,34,35,36,37,38,39,40] 33 40 (dY p.Offices y3.x.Name) U (λc3 hk3=>?_) (λe=>?_)))))))))))
   .exact qL 5 [4,0] U (ai call262 (sW _ _ _ _ y3.x.Name (hp.Offices.mono Ti ((((hle1.t hl1).t hle3).t hl3).t hlr3))) U (eM U (hk3 _ U)))
   refine aw (mS yE (gU hr3 ((!(dU y3.x))||(dY p.Offices y3.x.Name)) 201) U (λu2 hu2=>?_) (λpv2 hpv2 e=>?_))
   .obtain⟨rx2,hrx2,rfl⟩:=oF hu2
    have hs7:=hs6.trans (pw hrx2)
    cases rx2
    exact aH (eB (bj (L':=[(l3,.loop { lp3 with state:=.busy }),z3,z2,z1]++(markB rs1)) js (cu (L':=rdH l3 dm3 lp3 (([z2,z1])++markB rs1)) ap (nx3 hr3 _ _ ⟨hs7,(hl3.t hlr3)⟩ lf))))
   obtain⟨pv2e,hpv2e,rfl⟩:=mX hpv2
   have hs8:=hs6.trans (nk hpv2e)
   exact za (L':=[(l3,.loop { lp3 with state:=.busy }),z3]++(markB rs1)) js (pn3 _ _ _ [] ⟨_,U,hs8⟩)
  .rintro dm3 hh3 hn3 ⟨hs9,hl3⟩ hln3 hl03
   exact cu (L':=[z2,z1]++(markB (dm3::rs1))) ap (qT 3 U (oi i1 U (qO 2 U (bj (L':=[z1]++(markB (dm3::rs1))) js (ag1 ((i1+1),(dm3::rs1),hn3,rz1) _ (Nat.lt_succ_self _) ⟨mY hd1,jv hd1,hs9,(((hl1.t hle3).t hl3).t hln3)⟩ rd)))))
  .exact xf
  .exact xf
  rintro dm3 ch hn3 L0 ⟨pv_,rfl,hpv_⟩ hl03
  exact nM (dm3::rs1) K5 hX (congrArg (exW stopV (λr:Unit=>(.tuple #[]:Value))) hpv_)
 obtain⟨pv1e,hpv1e,rfl⟩:=mX hpv1
 have hs10:=hs0.trans (nk hpv1e)
 exact gk (nM [] K5 hX (congrArg (exW stopV (λr:Unit=>(.tuple #[]:Value))) hs10))
theorem yv(h:HF)(x0:Expr)(Q0:cY)(hx0:qG h x0 Q0):Ret prog 322 [.agg (jC x0 Q0).toArray] h (.bool (pW x0)):=by
 refine sT func322 U ntmps322 U λX hM hX hF=>?_
 have hs0:=@rfl _ (pW x0)
 exact sr (ct (λb1=>qO 6 U (nretP [.bool false] (cs hs0))))
theorem yu(h:HF)(x:Expr)(fX:cY)(hx:qG h x fX):Ret prog 323 [.agg (jC x fX).toArray] h (.bool (mz x)):=by
 refine sT func323 U ntmps323 U λX hM hX hF=>?_
 have hs0:=@rfl _ (mz x)
 refine sr (ct (λb1=>qL 8 [0] U (bD 5 [6,7,8,9,10,11] 6 11 ((x.L.length:Int)==0) U (λc1 hk1=>?_) (λe=>?_))))
 .exact qL 5 [0] U (hk1 _ U)
 exact an (nretP [.bool ((x.N==0)&&((x.L.length:Int)==0))] (cs hs0))
theorem yt(h:HF)(x:Expr)(fX:cY)(hx:qG h x fX):Ret prog 324 [.agg (jC x fX).toArray] h (.bool (lD x)):=by
 refine sT func324 U ntmps324 U λX hM hX hF=>?_
 have hs0:=@rfl _ (lD x)
 refine sr (ct (λb1=>qL 6 [0] U (ai Am (gH h x.N 1 4096) U (ao (bD 5 [6,7,8,9,10,11] 6 11 ((x.L.length:Int)==0) U (λc1 hk1=>?_) (λe=>?_))))))
 .exact qL 5 [0] U (hk1 _ U)
 exact an (nretP [.bool ((bh x.N 1 4096)&&((x.L.length:Int)==0))] (cs hs0))
theorem yr(h:HF)(x:Expr)(fX:cY)(hx:qG h x fX):Ret prog 325 [.agg (jC x fX).toArray] h (.bool (lC x)):=by
 refine sT func325 U ntmps325 U λX hM hX hF=>?_
 have hs0:=@rfl _ (lC x)
 refine sr (ct (λb1=>qL 8 [0] U (bD 5 [6,7,8,9,10,11] 6 11 (bh (x.L.length:Int) 1 16) U (λc1 hk1=>?_) (λe=>?_))))
 .exact qL 3 [0] U (ai Am (gH h (x.L.length:Int) 1 16) U (eM U (hk1 _ U)))
 refine ao (bD 7 [12,13,14,15,16,17,18,19] 12 19 (bh x.N 1 (x.L.length:Int)) U (λc2 hk2=>?_) (λe=>?_))
 .exact qL 5 [0,0] U (ai Am (gH h x.N 1 (x.L.length:Int)) U (eM U (hk2 _ U)))
 exact an (nretP [.bool (((x.Name.toList==(⟨#[]⟩:ByteArray).toList)&&(bh (x.L.length:Int) 1 16))&&(bh x.N 1 (x.L.length:Int)))] (cs hs0))
theorem yq(h:HF)(x:Expr)(fX:cY)(hx:qG h x fX):Ret prog 326 [.agg (jC x fX).toArray] h (.bool (lB x)):=by
 refine sT func326 U ntmps326 U λX hM hX hF=>?_
 have hs0:=@rfl _ (lB x)
 refine sr (ct (λb1=>qL 8 [0] U (bD 5 [6,7,8,9,10,11] 6 11 ((x.L.length:Int)==2) U (λc1 hk1=>?_) (λe=>?_))))
 .exact qL 5 [0] U (hk1 _ U)
 refine ao (bD 4 [12,13,14,15,16] 12 16 (bh x.N 0 1099511627776) U (λc2 hk2=>?_) (λe=>?_))
 .exact qL 2 [0] U (ai Am (gH h x.N 0 1099511627776) U (eM U (hk2 _ U)))
 exact an (nretP [.bool (((x.Name.toList==(⟨#[]⟩:ByteArray).toList)&&((x.L.length:Int)==2))&&(bh x.N 0 1099511627776))] (cs hs0))
theorem Kq(h:HF)(i:Int)(hi:0<=i/\i<5)(x:Expr)(fX:cY)(hx:qG h x fX):sZ prog (kfun i) [.agg (jC x fX).toArray] h [] (.bool (kindsP i x)):=by
 have:i=0\/i=1\/i=2\/i=3\/i=4:=by omega
 rcases this with rfl|rfl|rfl|rfl|rfl
 .exact im (cap:=[]) call322 (yv h x fX hx)
 .exact im (cap:=[]) call323 (yu h x fX hx)
 .exact im (cap:=[]) call324 (yt h x fX hx)
 .exact im (cap:=[]) call325 (yr h x fX hx)
 exact im (cap:=[]) call326 (yq h x fX hx)
end
variable {v:Go.Value}
section
open Go.Proofs Go.Proofs.Tryz
section runs
variable {P:Program} {e:Env} {X:Cx} {h:HF} {L:LH} {d:Option Nat} {ty:TypeId} {pos:String} {af:Array Edge} {g:Option (Nat×Bool)}
theorem Pl{t u:TypeId}(hT:∃ms,P.underlying t=some (.interface ms))(hx:e.ev x=.nilIface):∀w,St X h L w->(execOp e.ev ⟨d,.binOp .neq t x (.const .nilIface) u,ty,pos,af,g⟩).run P w=.ok (.value (.bool false)) w:=
 λw _=>by
  obtain⟨ms,hT⟩:=hT
  have hc:e.ev (.const .nilIface)=.nilIface:=rfl
  have he:(Op.equal t .nilIface .nilIface).run P w=.ok true w:=by
   rw[Op.equal,Op.maxDepth,show(10000:Nat)=9999+1 from rfl,Op.equalIn];simp[run_underlying hT]
  simp[execOp,hx,hc,eqGuard,binOp,he]
theorem Pk{t u:TypeId}{T:TypeId}(hT:∃ms,P.underlying t=some (.interface ms))(hx:e.ev x=.iface T v):∀w,St X h L w->(execOp e.ev ⟨d,.binOp .neq t x (.const .nilIface) u,ty,pos,af,g⟩).run P w=.ok (.value (.bool true)) w:=
 λw _=>by
  obtain⟨ms,hT⟩:=hT
  have hc:e.ev (.const .nilIface)=.nilIface:=rfl
  have he:(Op.equal t (.iface T v) .nilIface).run P w=.ok false w:=by
   rw[Op.equal,Op.maxDepth,show(10000:Nat)=9999+1 from rfl,Op.equalIn];simp[run_underlying hT]
  simp[execOp,hx,hc,eqGuard,binOp,he]
theorem Mo{xt T:TypeId}{fs:Array Field}(hT:P.underlying T=some (.struct fs))(hx:e.ev x=.iface T v):∀w,St X h L w->(execOp e.ev ⟨d,.typeAssert x xt T true,ty,pos,af,g⟩).run P w=.ok (.value (.tuple #[v,.bool true])) w:=
 λw _=>by simp[execOp,hx,Instr.typeAssert,run_underlying hT]
end runs
def bodyOf(f:Func):Code:=f.body.getD .skip
theorem Kg{P:Program}{e:Env}{t:Nat}{fv:Value}(hf:e t=fv)(w:World):
  (execOp e.ev ⟨d,.call ⟨.value (.tmp t),#[],ats⟩,ty,pos,af,g⟩).run P w=(do let d ←kH fv #[];invoke d.target d.args:Sem Next).run P w:=by
 subst hf;simp[execOp,resolve,Tz]
theorem F0(h:HF)(b1:Nat)(X':Cx):TT prog (deferFrame 257) 17 [.code (bodyOf Tryz.f257)] (Fw prog X' .returning (λh' B=>h'=h/\B=[(b1,qJ (kB [.int .i64 0]) 37 (0,0))])) (envArgs [.pointer (some ⟨b1,0,none⟩)]) [] X' h [(b1,qJ (kB [.int .i64 0]) 37 (0,0))]:=by
 refine dJ (bu (?_))
 refine Co (λcs Φ⟨c,rest,hcs,hm,_⟩=>by subst hcs;simp[recoverD,hm]) ?_
 refine fU (aH (dJ (bu (ao (aw (ff (Pl ⟨_,Nc⟩ rfl) (aH (?_))))))))
 exact np rfl (aQ (Hh Nb rfl ⟨rfl,rfl⟩))
theorem F1(h:HF)(b1:Nat)(ee:Int)(X':Cx):TT prog (deferFrame 257) 17 [.code (bodyOf Tryz.f257)]
  (λcs Φ=>∃c rest,cs=c::rest/\c.mode=.panicking [{ v:=stopV ee,recovered:=false }]/\Fw prog X' (.panicking [{ v:=stopV ee,recovered:=true }]) (λh' B=>h'=h/\∃B0,B=B0++[(b1,qJ (kB [.int .i64 ee]) 37 (0,0))]) ({ c with mode:=(.panicking [{ v:=stopV ee,recovered:=true }]) }::rest) Φ)
  (envArgs [.pointer (some ⟨b1,0,none⟩)]) [] X' h [(b1,qJ (kB [.int .i64 0]) 37 (0,0))]:=by
 refine dJ (bu (?_))
 refine DN (F':=Fw prog X' (.panicking [{ v:=stopV ee,recovered:=true }]) (λh' B=>h'=h/\∃B0,B=B0++[(b1,qJ (kB [.int .i64 ee]) 37 (0,0))])) (stopV ee) (λcs Φ⟨c,rest,hcs,hm,hF⟩=>⟨_,by subst hcs;simp[recoverD,hm],hF⟩) ?_
 refine fU (aH (dJ (bu (ao (aw (ff (Pk ⟨_,Nc⟩ rfl) (aH (?_))))))))
 refine kY rfl (dJ (bu (ao (aw (ff (Mo underlying313 rfl) (ao (mB rfl rfl (mB rfl rfl (aU zc313 (λb2=>?_))))))))))
 refine aR 0 ty313 rfl rfl rfl rfl rfl rfl (fU (aH (?_)))
 refine dJ (dJ (bu (ao (lL rfl (aH (?_))))))
 refine np rfl (aQ (?_))
 refine bu (j7 Ox rfl (?_))
 refine n0 0 ty37 rfl rfl rfl (?_)
 refine cB 1 ty37 rfl rfl rfl rfl rfl rfl (aH (?_))
 exact Hh Nb rfl ⟨rfl,[(b2,_)],rfl⟩
theorem yw(h:HF)(fv:Value)(x:Except Int Unit)(hf:mN prog fv #[] h [] (XR (exW stopV (λ_:Unit=>.tuple #[]) x) h)):Ret prog 220 [fv] h (.int .i64 (attR x)):=by
 refine cD func220 rfl ntmps220 rfl λX hM hX=>?_
 refine dJ (bu (aU zc37 (λb1=>aH (dJ (bu (aw (dS rfl rfl (Nr rfl rfl (aH (dJ (bu (ao (?_)))))))))))))
 have fin:∀(r:Int)(B:LH),attR x=r->(∃B0,B=B0++[(b1,qJ (kB [.int .i64 r]) 37 (0,0))])->∀(e:Env),e 2=.pointer (some ⟨b1,0,none⟩)->∀a:Act,envOf a=e->∀w,St X h (B++[]) w ->
   ∃v h2 B2,(results Tryz.f220 a.tmps).run prog w=.ok v w/\St X h2 B2 w/\v=.int .i64 (attR x)/\h2=h/\B2=[]:=by
  rintro r B hr ⟨B0,rfl⟩ e he a ha w hw
  have hw':=hw.sub (L':=[(b1,qJ (kB [.int .i64 r]) 37 (0,0))]) (by simp)
  exact⟨_,h,[],nO (rs:=[.cell 2 37]) (vs:=[.int .i64 r]) rfl ⟨⟨0,b1,[.int .i64 r],37,(0,0),rfl,he,.inr ⟨_,ty37,rfl⟩⟩,trivial⟩ a ha w hw',hw'.sub (List.nil_sublist _),by rw[hr];rfl,rfl,rfl⟩
 refine Hg rfl (by decide) rfl rfl (λw hw=>?_)
 have hpre:Pre h [] w:=(hw.sub (List.nil_sublist _)).pre
 obtain⟨nx,hrun,hcall⟩:=hf w hpre
 refine⟨nx,w,?_,hcall.mono ?_⟩
 .rw[←hrun];exact Kg rfl w
 rintro y w' ⟨h',B,hst,rfl,rfl,hv⟩
 have hw2:=S4 (A:=[]) (B:=[]) (F:=[(b1,qJ (kB [.int .i64 0]) 37 (0,0))]) hw hst
 cases y with
 |outgrown=>trivial
 |returned v=>
  refine⟨h',_,hw2,?_⟩
  have hx:∃u,x=.ok u:=by cases x with
   |ok u=>exact⟨u,rfl⟩
   |error p=>simp[exW]at hv
  obtain⟨u,rfl⟩:=hx
  refine aH (dJ (bu (cB 0 ty37 rfl rfl rfl rfl rfl rfl (aH (?_)))))
  refine O3 (c:=bodyOf Tryz.f257) (cap:=[.pointer (some ⟨b1,0,none⟩)]) (A:=[(b1,qJ (kB [.int .i64 0]) 37 (0,0))]) (R':=λh'' B=>h''=h'/\B=[(b1,qJ (kB [.int .i64 0]) 37 (0,0))]) func220 Nb rfl ntmps257 rfl call257 (λX' _=>F0 h' b1 X') (Fr:=[]) rfl ?_
  rintro h'' B _ ⟨rfl,rfl⟩ a ha w hw
  obtain⟨v,h2,B2,h3,h4,rfl,rfl,rfl⟩:=fin 0 _ rfl ⟨[],rfl⟩ _ rfl a ha w hw
  exact⟨_,_,_,h3,h4,rfl,rfl,rfl⟩
 |panicked ch=>
  refine⟨h',_,hw2,?_⟩
  have hx:∃ee,x=.error ee:=by cases x with
   |ok u=>simp[exW]at hv
   |error p=>exact⟨p,rfl⟩
  obtain⟨ee,rfl⟩:=hx
  simp only[exW]at hv
  cases hv
  refine O6 (c:=bodyOf Tryz.f257) (cap:=[.pointer (some ⟨b1,0,none⟩)]) (A:=[(b1,qJ (kB [.int .i64 0]) 37 (0,0))]) (R':=λh'' B=>h''=h'/\∃B0,B=B0++[(b1,qJ (kB [.int .i64 ee]) 37 (0,0))]) func220 Nb rfl ntmps257 rfl call257 (λX' _=>F1 h' b1 ee X') (Fr:=[]) rfl ?_
  rintro h'' B _ ⟨rfl,hB⟩ a ha w hw
  obtain⟨v,h2,B2,h3,h4,rfl,rfl,rfl⟩:=fin ee _ rfl hB _ rfl a ha w hw
  exact⟨_,_,_,h3,h4,rfl,rfl,rfl⟩
end
section
open Go.Proofs Go.Proofs.Tryz
set_option maxHeartbeats 2000000
theorem BL(h:HF)(p:Policy)(gG:eU)(hp:kN h p gG)(hsm:smP p)(hk:Kinds h):F5 prog 224 [.agg (kD p gG).toArray] h (exW stopV (λr:Unit=>(.tuple #[]:Value)) (bx p)):=by
 refine cD Gc U ntmps224 U λX hM hX=>?_
 have hs0:=@rfl _ (bx p)
 have hsr:=hsm.rules
 refine sr (ct (λb1=>qL 8 [0] U (bD 8 [12,13,14,15,16,17,18,19,20] 12 20 ((p.Rules.length:Int)==(p.Kinds.length:Int)) U (λc1 hk1=>?_) (λe=>?_))))
 .exact qL 8 [0,0] U (hk1 _ U)
 refine ao (bD 4 [21,22,23,24,25] 21 25 (bh p.Mode 1 4) U (λc2 hk2=>?_) (λe=>?_))
 .exact qL 2 [0] U (ai Am (gH h p.Mode 1 4) U (eM U (hk2 _ U)))
 refine aw (mS yE (gU h ((decide (0<(p.Kinds.length:Int))&&((p.Rules.length:Int)==(p.Kinds.length:Int)))&&(bh p.Mode 1 4)) 200) U (λu1 hu1=>?_) (λpv1 hpv1 e=>?_))
 .obtain⟨rx1,hrx1,rfl⟩:=oF hu1
  have hs1:=hs0.trans (pw hrx1)
  cases rx1
  refine qL 9 [0] U ?_
  let z2:Nat×Obj:=(b1,O (kD p gG) 94)
  refine lp0 p.Rules (λi=>[(1,Q b1),(28,.slice gG.ou p.Rules.length gG.ot),(29,I (p.Rules.length:Int)),(30,I (i:Int))]) ([z2]) (λs1 i=>(bx.L1 p (bx.K1 p)) s1 i) hp.Rules.1.1 hs1 ?_ ?_
  .rintro i1 fB hs2 e
   refine sr (cI 0 ty94 U U U (aw (cJ call259 (mA _ _ _ hp ob) U (λv1 h1 hle1 hp1=>?_))))
   obtain⟨rb1,rc1,rfl,sl1⟩:=hp1
   refine aU zc86 (λb3=>cB 0 ty86 U U U U U U (qL 7 [0] U (dQ ?_)))
   let z1:Nat×Obj:=(b3,O [.slice rb1 ((aA p).length) rc1] 86)
   refine cu (L':=[z1,z2]++(markB [])) ap ?_
   refine rZ (ι:=Nat×List Nat×HF) (λi=>[]) (λi=>marks i.2.1) (λi=>i.2.2) (λi=>[z1,z2]++(markB i.2.1)) (λi=>i.1<=(aA p).length/\bx p=((bx.K2))/\kK h1 i.2.2) ?_ (λhx2=>?_)
   .rintro⟨i2,rs2,hh2⟩ ⟨BZ,hs3,hl2⟩ e
    have hs4:bx p=(Except.ok ()):=hs3
    exact cu (L':=([z1,z2])++markB rs2) ap (xO rs2 [] Gc U hX trivial (congrArg (exW stopV (λr:Unit=>(.tuple #[]:Value))) hs4))
   refine wD (ι:=Nat×List Nat×HF×List Expr) (λi=>[(4,Q b3),(52,.slice rb1 ((aA p).length) rc1),(53,I ((aA p).length:Int)),(54,I (i.1:Int))]) (λi=>marks i.2.1) (λi=>i.2.2.1) (λi=>[z1,z2]++(markB i.2.1)) (λi=>(aA p).drop i.1=i.2.2.2/\i.1<=(aA p).length/\bx p=((bx.L2 p (bx.K2)) i.2.2.2 i.1)/\kK h1 i.2.2.1) (λi=>i.2.2.2.length) (0,[],h1,(aA p)) U rd sw ⟨U,vM _,hs2,lf⟩ ?_
   rintro⟨i2,rs2,hh2,s2⟩ ⟨hd2,BZ,hs5,hl2⟩ ag1 e
   rcases s2 with _|⟨y2,rz2⟩
   .have QH:=oI hd2
    exact sr (fO QH U (qO 4 U (hx2 (i2,rs2,hh2) _ ⟨BZ,hs5,hl2⟩ trivial)))
   have wk:=tJ hd2
   have sF:=sQ hd2
   have EP:=jv hd2
   have Kw:=sl1.1.1
   try have hsy:=Bf hsm (fS hd2)
   refine sr (tO wk U (qO 9 U (aw (iR lP ty88 (sl1.mono R3 hl2).1 sF U U U (λ_ _ _ e=>e) (λq4 r3 A5 ok3=>dl ty88 A5 U U (aU zc3 (λb7=>aU zc88 (λb8=>cB 1 ty3 U U U U U U (aR 0 ty88 U U U U U U (qO 3 U (cI 0 ty88 U U U (aw (cJ K7 (nd _ _ _ 1 ok3 ob) U (λv3 h3 hle3 hp3=>?_))))))))))))))
   obtain⟨_,rfl,mo2⟩:=hp3
   refine qO 2 U ?_
   let z3:Nat×Obj:=(b7,O [I (i2:Int)] 3)
   let z5:Nat×Obj:=(b8,O (jC y2 r3) 88)
   refine cu (L':=([z5,z3,z1,z2])++markB rs2) ap ?_
   refine jw (it:=v3) (xs:=(bM y2 1)) (ι:=HF) rs2 (λi=>i) (λi=>[z5,z3,z1,z2]) (λs i=>bx p=((bx.L4 p i2 ((bx.L2 p (bx.K2) rz2 (i2+1)))) s)/\kK h3 i) (λ_=>False) (λ_=>False) 0 (λch _ _=>∃pv_,ch=[{ v:=stopV pv_,recovered:=false }]/\bx p=.error pv_) h3 Gc U mo2 U oc (λ_ _ _ _ _ hq=>hq) U (show[z5,z3,z1,z2]=_ from U) ⟨hs5,lf⟩ ?_ ?_ ?_ ?_ ?_
   .rintro l4 dm4 lp4 y4 rz4 vs4 hh4 hr4 X hFR4 ⟨hs7,hl4⟩ hl04 hlr4 hv4 hX hXM hlp4 nx4 rt4 ex4 pn4
    obtain⟨rr4_0,rfl,ok4_0⟩:=hv4
    let z6:Nat×Obj:=(dm4,.deferred (some []))
    refine cu (L':=[(l4,.loop lp4),z6,z5,z3,z1,z2]++(markB rs2)) ap (bu (aU zc278 (λb10=>aR 0 ty278 U U U U U U (aH (jx 1 U hlp4 (qT 2 U ?_))))))
    let z4:Nat×Obj:=(l4,.loop { lp4 with state:=.busy })
    let z8:Nat×Obj:=(b10,O (gq.cells y4 rr4_0) 278)
    refine eQ ([z8,z4,z6,z5,z3,z1,z2]) mixed kr jn (λeF _=>?_)
    refine qB [0,1] U (tf 2 U U (rj 0 ty3 U U U) (tn 3 U (fg Am (gH hr4 y4.x.Kind 1 4) U (⟨jn,tm 4 U ?_⟩))))
    refine dt 66 U (λc3=>?_) (λc3=>?_)
    .refine qB [5,6] U (tf 7 U U (rj 0 ty3 U U U) ?_)
     have ho4:0<=(y4.x.Kind:Int)/\(y4.x.Kind:Int)<5:=(by have:=Mc ob;omega)
     have A7:=(hk.mono ((((hle1.t hl2).t hle3).t hl4).t hlr4)).at ho4
     refine tf 8 U U (λ_ _ _=>NS underlying319 ty217 U U ho4) (tf 9 U U (rh ty217 A7 U) (qB [10] U (tf 11 U U (λ_ _ hj=>jZ ty88 U (hj.nth (i:=0) U) U) (tn 12 U (lX (v:=.bool (kindsP y4.x.Kind y4.x)) [] (List.nil_sublist _) (Kq hr4 y4.x.Kind ho4 y4.x rr4_0.x ok4_0.x) U U (⟨jn,tf 13 U U (λ_ _ _=>nQ U (cb (show(kindsP y4.x.Kind y4.x)=((bh y4.x.Kind 1 4)&&(kindsP y4.x.Kind y4.x))from by first|(rw[c3];rfl)|(rw[c3];rfl)|simp[c3]))) ?_⟩))))))
     refine tn 14 U (mS yE (gU hr4 ((bh y4.x.Kind 1 4)&&(kindsP y4.x.Kind y4.x)) 200) U (λu2 hu2=>?_) (λpv2 hpv2 e=>?_))
     .obtain⟨rx2,hrx2,rfl⟩:=oF hu2
      have hs8:=hs7.trans (pw hrx2)
      cases rx2
      refine⟨jn,aN kr (qK 7 [4,5] U (cn 5 [82,83,84,85,86,87] 82 87 (y4.x.Kind != 4) U (λc4 hk3=>?_) (λe=>?_)))⟩
      .exact qL 5 [0] U (hk3 _ U)
      refine aw (mS yE (gU hr4 (decide ((i2:Int)<(zE .i64 (((aA p).length:Int)-1)))||(y4.x.Kind != 4)) 200) U (λu3 hu3=>?_) (λpv3 hpv3 e=>?_))
      .obtain⟨rx3,hrx3,rfl⟩:=oF hu3
       have hs9:=hs8.trans (pw hrx3)
       cases rx3
       exact aH (eB (bj (L':=[z4,z6,z5,z3,z1,z2]++(markB rs2)) js (cu (L':=rdH l4 dm4 lp4 (([z5,z3,z1,z2])++markB rs2)) ap (nx4 hr4 _ _ ⟨hs9,(hl4.t hlr4)⟩ lf))))
      obtain⟨pv3e,hpv3e,rfl⟩:=mX hpv3
      have hs10:=hs8.trans (nk hpv3e)
      exact za (L':=[z4,z6]++(markB rs2)) js (pn4 _ _ _ [] ⟨_,U,hs10⟩)
     obtain⟨pv2e,hpv2e,rfl⟩:=mX hpv2
     have hs11:=hs7.trans (nk hpv2e)
     exact za (L':=[z4,z6]++(markB rs2)) js (pn4 _ _ _ [] ⟨_,U,hs11⟩)
    refine qR 5 8 U (tf 13 U U (λ_ _ _=>nQ U (cb (show false=((bh y4.x.Kind 1 4)&&(kindsP y4.x.Kind y4.x))from by first|(rw[c3];rfl)|(rw[c3];rfl)|simp[c3]))) ?_)
    refine tn 14 U (mS yE (gU hr4 ((bh y4.x.Kind 1 4)&&(kindsP y4.x.Kind y4.x)) 200) U (λu4 hu4=>?_) (λpv4 hpv4 e=>?_))
    .obtain⟨rx4,hrx4,rfl⟩:=oF hu4
     have hs12:=hs7.trans (pw hrx4)
     cases rx4
     refine⟨jn,aN kr (qK 7 [4,5] U (cn 5 [82,83,84,85,86,87] 82 87 (y4.x.Kind != 4) U (λc5 hk4=>?_) (λe=>?_)))⟩
     .exact qL 5 [0] U (hk4 _ U)
     refine aw (mS yE (gU hr4 (decide ((i2:Int)<(zE .i64 (((aA p).length:Int)-1)))||(y4.x.Kind != 4)) 200) U (λu5 hu5=>?_) (λpv5 hpv5 e=>?_))
     .obtain⟨rx5,hrx5,rfl⟩:=oF hu5
      have hs13:=hs12.trans (pw hrx5)
      cases rx5
      exact aH (eB (bj (L':=[z4,z6,z5,z3,z1,z2]++(markB rs2)) js (cu (L':=rdH l4 dm4 lp4 (([z5,z3,z1,z2])++markB rs2)) ap (nx4 hr4 _ _ ⟨hs13,(hl4.t hlr4)⟩ lf))))
     obtain⟨pv5e,hpv5e,rfl⟩:=mX hpv5
     have hs14:=hs12.trans (nk hpv5e)
     exact za (L':=[z4,z6]++(markB rs2)) js (pn4 _ _ _ [] ⟨_,U,hs14⟩)
    obtain⟨pv4e,hpv4e,rfl⟩:=mX hpv4
    have hs15:=hs7.trans (nk hpv4e)
    exact za (L':=[z4,z6]++(markB rs2)) js (pn4 _ _ _ [] ⟨_,U,hs15⟩)
   .rintro dm4 hh4 hn4 ⟨hs16,hl4⟩ hln4 hl04
    exact cu (L':=[z5,z3,z1,z2]++(markB (dm4::rs2))) ap (qT 3 U (oi i2 U (qO 2 U (bj (L':=[z1,z2]++(markB (dm4::rs2))) js (ag1 ((i2+1),(dm4::rs2),hn4,rz2) _ (Nat.lt_succ_self _) ⟨mY hd2,jv hd2,hs16,(((hl2.t hle3).t hl4).t hln4)⟩ rd)))))
   .exact xf
   .exact xf
   rintro dm4 ch hn4 L0 ⟨pv_,rfl,hpv_⟩ hl04
   exact nM (dm4::rs2) Gc hX (congrArg (exW stopV (λr:Unit=>(.tuple #[]:Value))) hpv_)
  rintro i1 y1 rz1 hd1 du bo eA gD hs17 hx1 ag2 e
  try have hsy:=Bf hsm (fS hd1)
  refine sr (tO du U (qO 9 U (aw (iR tQ ty91 hp.Rules.1 bo U U U (λ_ _ _ e=>e) (λq5 r4 A8 ok4=>dl ty91 A8 U U (aU zc91 (λb11=>fU (aR 0 ty91 U U U U U U (aH ?_)))))))))
  let z7:Nat×Obj:=(b11,O (TC y1 r4) 91)
  refine eQ ([z7,z2]) mixed kr jn (λnh _=>?_)
  refine qB [0] U (tf 1 U U (rj 0 ty9 U U U) (qB [2] U (tf 3 U U (rj 1 ty89 U U U) (tm 4 U ?_))))
  have ho5:0<=((i1:Int):Int)/\((i1:Int):Int)<((p.Kinds).length:Int):=(by have hm:=Mv hrx1;simp only[decide_eq_true_eq,decide_eq_false_iff_not,jB,xD,kC,Bool.not_eq_false',Bool.and_eq_false_iff,Bool.or_eq_false_iff,beq_iff_eq,beq_eq_false_iff_ne,bne_iff_ne,bne_eq_false_iff_eq,kA,zA,vB,List.length_drop]at hm;omega)
  refine fF 5 (enc:=λy=>[.string y]) nh jn ei vt ty9 hp.Kinds.1 ho5 (dy ho5) U U U U kr (λq6 A9=>tf 6 U U (rh ty9 A9 U) (qA [7,8] U ?_))
  refine dt 43 U (λc6=>?_) (λc6=>?_)
  .refine qB [9] U (tf 10 U U (rj 0 ty3 U U U) (tn 11 U (fg Am (gH h y1.Think 0 1099511627775) U (⟨jn,tf 12 U U (λ_ _ _=>nQ U (cb (show(bh y1.Think 0 1099511627775)=((y1.Kind.toList==(nthI p.Kinds (i1:Int)).toList)&&(bh y1.Think 0 1099511627775))from by first|(rw[c6];rfl)|(rw[c6];rfl)|simp[c6]))) ?_⟩))))
   refine tn 13 U (mS yE (gU h ((y1.Kind.toList==(nthI p.Kinds (i1:Int)).toList)&&(bh y1.Think 0 1099511627775)) 200) U (λu6 hu6=>?_) (λpv6 hpv6 e=>?_))
   .obtain⟨rx6,hrx6,rfl⟩:=oF hu6
    have hs18:=hs17.trans (pw hrx6)
    cases rx6
    exact⟨jn,(aN kr (qT 2 U (oi i1 U (qO 2 U (bj (L':=[z2]) js (ag2 hs18))))))⟩
   obtain⟨pv6e,hpv6e,rfl⟩:=mX hpv6
   have hs19:=hs17.trans (nk hpv6e)
   exact gk (nM [] Gc hX (congrArg (exW stopV (λr:Unit=>(.tuple #[]:Value))) hs19))
  refine qR 9 3 U (tf 12 U U (λ_ _ _=>nQ U (cb (show false=((y1.Kind.toList==(nthI p.Kinds (i1:Int)).toList)&&(bh y1.Think 0 1099511627775))from by first|(rw[c6];rfl)|(rw[c6];rfl)|simp[c6]))) ?_)
  refine tn 13 U (mS yE (gU h ((y1.Kind.toList==(nthI p.Kinds (i1:Int)).toList)&&(bh y1.Think 0 1099511627775)) 200) U (λu7 hu7=>?_) (λpv7 hpv7 e=>?_))
  .obtain⟨rx7,hrx7,rfl⟩:=oF hu7
   have hs20:=hs17.trans (pw hrx7)
   cases rx7
   exact⟨jn,(aN kr (qT 2 U (oi i1 U (qO 2 U (bj (L':=[z2]) js (ag2 hs20))))))⟩
  obtain⟨pv7e,hpv7e,rfl⟩:=mX hpv7
  have hs21:=hs17.trans (nk hpv7e)
  exact gk (nM [] Gc hX (congrArg (exW stopV (λr:Unit=>(.tuple #[]:Value))) hs21))
 obtain⟨pv1e,hpv1e,rfl⟩:=mX hpv1
 have hs22:=hs0.trans (nk hpv1e)
 exact gk (nM [] Gc hX (congrArg (exW stopV (λr:Unit=>(.tuple #[]:Value))) hs22))
theorem vZ(h:HF)(p:Policy)(gG:eU)(p_q:Addr)(hp:kN h p gG)(ap_z:At h p_q (kD p gG))(hsm:smP p)(hk:Kinds h):F5 prog 221 [.pointer (some p_q)] h (exW stopV (λr:Unit=>(.tuple #[]:Value)) (dD p)):=by
 refine cD K0 U ntmps221 U λX hM hX=>?_
 have hs0:=@rfl _ (dD p)
 refine sr (dl ty94 ap_z U U ?_)
 refine aw (mS call222 (AJ h p gG hp ob) U (λu1 hu1=>?_) (λpv1 hpv1 e=>?_))
 .obtain⟨rx1,hrx1,rfl⟩:=oF hu1
  have hs1:=hs0.trans (pw hrx1)
  cases rx1
  refine qO 3 U (dl ty94 ap_z U U ?_)
  refine aw (mS call223 (AK h p gG hp ob) U (λu2 hu2=>?_) (λpv2 hpv2 e=>?_))
  .obtain⟨rx2,hrx2,rfl⟩:=oF hu2
   have hs2:=hs1.trans (pw hrx2)
   cases rx2
   refine qO 2 U (dl ty94 ap_z U U ?_)
   refine aw (mS call224 (BL h p gG hp ob hk) U (λu3 hu3=>?_) (λpv3 hpv3 e=>?_))
   .obtain⟨rx3,hrx3,rfl⟩:=oF hu3
    have hs3:=hs2.trans (pw hrx3)
    cases rx3
    refine aH ?_
    have hs4:dD p=(Except.ok ()):=hs3
    exact dQ (xO [] [] K0 U hX trivial (congrArg (exW stopV (λr:Unit=>(.tuple #[]:Value))) hs4))
   obtain⟨pv3e,hpv3e,rfl⟩:=mX hpv3
   have hs5:=hs2.trans (nk hpv3e)
   exact gk (nM [] K0 hX (congrArg (exW stopV (λr:Unit=>(.tuple #[]:Value))) hs5))
  obtain⟨pv2e,hpv2e,rfl⟩:=mX hpv2
  have hs6:=hs1.trans (nk hpv2e)
  exact gk (nM [] K0 hX (congrArg (exW stopV (λr:Unit=>(.tuple #[]:Value))) hs6))
 obtain⟨pv1e,hpv1e,rfl⟩:=mX hpv1
 have hs7:=hs0.trans (nk hpv1e)
 exact gk (nM [] K0 hX (congrArg (exW stopV (λr:Unit=>(.tuple #[]:Value))) hs7))
theorem wQ(rec:List ByteArray->Expr->Expr)(h:HF)(offices:List ByteArray)(dF:Option Addr)(dE:Nat)(x:Expr)(fX:cY)(hrec:∀(h:HF)(qoffices:List ByteArray)(j5:Option Addr)(j4:Nat)(qx:Expr)(lk:cY)(hqoffices:SlC Sz h j5 j4 qoffices)(hqx:qG h qx lk)(hsz:qx.dep<=2000000)(_:qx.dep<x.dep),jY prog 225 [.slice j5 qoffices.length j4,.agg (jC qx lk).toArray] h (λv h'=>∃(rr0:cY),v=.agg (jC (rec qoffices qx) rr0).toArray/\qG h' (rec qoffices qx) rr0))(hoffices:SlC Sz h dF dE offices)(hx:qG h x fX)(hsz:x.dep<=2000000):jY prog 225 [.slice dF offices.length dE,.agg (jC x fX).toArray] h (λv h'=>∃(rr0:cY),v=.agg (jC (aj.F rec offices x) rr0).toArray/\qG h' (aj.F rec offices x) rr0):=by
 refine cD func225 U ntmps225 U λX hM hX=>?_
 have hs0:=@rfl _ (aj.F rec offices x)
 have hln:=Expr.HJ x
 refine sr (ct (λb1=>aU zc88 (λb2=>qL 4 [] U (cB 1 ty3 U U U U U U (qO 4 U (cI 1 ty88 U U U (ai call227 (nY _ _ _ (show qG h (vG x.Kind x.N 0 x.Name x.L) (cY.mk fX.mI fX.mJ)from Sb hx.list)) U (aH (ae hs0 U (λc1 hs1=>?_) (λc1 hs2=>?_))))))))))
 .refine qK 4 [1] U (ai Nd (ls _ _ _ _ x.Name hoffices) U (qL 1 [] U (cB 1 ty3 U U U U U U (qL 10 [1] U (cB 1 ty86 U U U U U U (qL 8 [] U ?_))))))
  let z1:Nat×Obj:=(b2,O [I 0,I 0,I 0,.string (⟨#[]⟩:ByteArray),.slice none 0 0] 88)
  refine lp2 x.L (λi w=>[(0,.slice dF offices.length dE),(3,Q b1),(4,Q b2),(19,.slice fX.mI x.L.length fX.mJ),(20,I (x.L.length:Int)),(21,I (i:Int))]) (λw=>w.2.2.2.2) (λw=>[z1,(b1,O [I x.Kind,I x.N,I (aT offices x.Name),.string x.Name,.slice w.2.1 w.1.length w.2.2.1] 88)]++(w.2.2.2.1)) (λi w=>dA Su 88 w.2.2.2.2 w.1 w.2.1 w.2.2.1 w.2.2.2.1/\w.1.length<=0+i/\kK h w.2.2.2.2) (λs1 i w=>(aj.L1 rec offices (aj.K1 offices x)) s1 w.1) ([],none,0,[],h) hx.list.1.1 hs1 ⟨dA.nil,lo,lf⟩ ?_ ?_
  .rintro i1 ⟨lx,qY,qX,AY,hh1⟩ fB hs3 ⟨sM,E4,hl1⟩ e
   try dsimp only at sM E4 hl1
   let z3:Nat×Obj:=(b1,O [I x.Kind,I x.N,I (aT offices x.Name),.string x.Name,.slice qY lx.length qX] 88)
   let z15:Nat×Obj:=(b2,O [I x.Kind,I x.N,I (aT offices x.Name),.string x.Name,.slice qY lx.length qX] 88)
   refine sr (cI 1 ty88 U U U (aR 0 ty88 U U U U U U (gS (L':=[z15,z3]++(AY)) U (aH (fW R3 ([z15,z3]) AY ([]) ap hM sM (λh3 hle3 sl2=>?_))))))
   have hs4:aj.F rec offices x=(vG x.Kind x.N (aT offices x.Name) x.Name lx):=hs3
   exact il [.agg (kB [I x.Kind,I x.N,I (aT offices x.Name),.string x.Name,.slice qY lx.length qX])] func225 U ⟨⟨0,_,_,_,_,U,U,.inl ⟨ty88,U⟩⟩,trivial⟩ ⟨(cY.mk qY qX),congrArg (λr:Expr=>(.agg (jC r (cY.mk qY qX)).toArray:Value)) hs4.symm,(by rw[hs4];exact(show qG h3 (vG x.Kind x.N (aT offices x.Name) x.Name lx) (cY.mk qY qX)from Sb sl2))⟩
  rintro i1 ⟨lx,qY,qX,AY,hh1⟩ y1 rz1 hd1 du bo eA gD hs5 ⟨sM,E4,hl1⟩ hx1 ag1 e
  try dsimp only at sM E4 hl1
  have hdy:=kV (fS hd1)
  refine sr (tO du U (qO 8 U (aw (iR lP ty88 (hx.list.mono R3 hl1).1 bo U U U (λ_ _ _ e=>e) (λq2 r2 A2 ok3=>?_)))))
  let z4:Nat×Obj:=(b1,O [I x.Kind,I x.N,I (aT offices x.Name),.string x.Name,.slice qY lx.length qX] 88)
  refine dl ty88 A2 U U (aU zc88 (λb5=>aR 0 ty88 U U U U U U (gS (L':=[(b5,O (jC y1 r2) 88),z1,z4]++(AY)) U (aH ?_))))
  let z8:Nat×Obj:=(b5,O (jC y1 r2) 88)
  refine eQ ([z8,z1]) mixed kr jn (λeF _=>?_)
  refine qB [0,2] U (tf 3 U U (λ_ _ hj=>jZ ty88 U (hj.nth (i:=0) U) U) ?_)
  refine mO 1 4 kr U U ?_ ?_ 
  .refine ff (wO ty86 U (oq (i:=2) U) U) (⟨jn,tn 4 U (cJ Ip (hrec _ _ _ _ _ _ (hoffices.mono Ti hl1) ok3 ob (kV (fS hd1))) U (λv2 h4 hle4 hp2=>?_))⟩)
   obtain⟨rr4,rfl,ok4⟩:=hp2
   refine⟨jl hle4,tu hle4 (tn 5 U (bB (cells:=[I ((rec offices y1).Kind),I ((rec offices y1).N),I ((rec offices y1).No),.string ((rec offices y1).Name),.slice rr4.mI ((rec offices y1).L.length) rr4.mJ]) lP ty88 zc88 U U kr (λb6=>⟨jn,?_⟩)))⟩
   let z12:Nat×Obj:=(b6,O [I ((rec offices y1).Kind),I ((rec offices y1).N),I ((rec offices y1).No),.string ((rec offices y1).Name),.slice rr4.mI ((rec offices y1).L.length) rr4.mJ] 88)
   exact tn 6 U (eo Tw ([z12,z8,z1,z4]) ([]) (λG=>[z12,z8,z1,z4]++G) ap (λ_=>ap) lP ty88 zc88 U bytes88 (sM.mono R3 hle4) U U (fd 0 U (cE (R:=Su) (rec offices y1) U ⟨rr4,U,ok4⟩)) lo lo (λob2 oc2 G2 gr2=>⟨jn,qB [7] U (tn 8 U (kO 3 ty86 U U U U U U (⟨jn,aN kr (qT 2 U (oi i1 U (qO 2 U (bj (L':=[z1,(b1,O [I x.Kind,I x.N,I (aT offices x.Name),.string x.Name,.slice ob2 ((lx++[(rec offices y1)]).length) oc2] 88)]++G2) js (ag1 ((lx++[(rec offices y1)]),ob2,oc2,G2,h4) hs5 ⟨gr2,lo,(hl1.t hle4)⟩)))))⟩)))⟩))
  refine cJ Ip (hrec _ _ _ _ _ _ (hoffices.mono Ti hl1) ok3 ob (kV (fS hd1))) U (λv3 h5 hle5 hp3=>?_)
  obtain⟨rr5,rfl,ok5⟩:=hp3
  refine⟨jl hle5,tu hle5 ?_⟩
  refine mO 1 5 kr U U ?_ ?_ 
  .refine ff (wO ty86 U (oq (i:=2) U) U) (⟨jn,tn 5 U (bB (cells:=[I ((rec offices y1).Kind),I ((rec offices y1).N),I ((rec offices y1).No),.string ((rec offices y1).Name),.slice rr5.mI ((rec offices y1).L.length) rr5.mJ]) lP ty88 zc88 U U kr (λb7=>⟨jn,?_⟩))⟩)
   let z13:Nat×Obj:=(b7,O [I ((rec offices y1).Kind),I ((rec offices y1).N),I ((rec offices y1).No),.string ((rec offices y1).Name),.slice rr5.mI ((rec offices y1).L.length) rr5.mJ] 88)
   exact tn 6 U (eo Tw ([z13,z8,z1,z4]) ([]) (λG=>[z13,z8,z1,z4]++G) ap (λ_=>ap) lP ty88 zc88 U bytes88 (sM.mono R3 hle5) U U (fd 0 U (cE (R:=Su) (rec offices y1) U ⟨rr5,U,ok5⟩)) lo lo (λob3 oc3 G3 gr3=>⟨jn,qB [7] U (tn 8 U (kO 3 ty86 U U U U U U (⟨jn,aN kr (qT 2 U (oi i1 U (qO 2 U (bj (L':=[z1,(b1,O [I x.Kind,I x.N,I (aT offices x.Name),.string x.Name,.slice ob3 ((lx++[(rec offices y1)]).length) oc3] 88)]++G3) js (ag1 ((lx++[(rec offices y1)]),ob3,oc3,G3,h5) hs5 ⟨gr3,lo,(hl1.t hle5)⟩)))))⟩)))⟩))
  refine bB (cells:=[I ((rec offices y1).Kind),I ((rec offices y1).N),I ((rec offices y1).No),.string ((rec offices y1).Name),.slice rr5.mI ((rec offices y1).L.length) rr5.mJ]) lP ty88 zc88 U U kr (λb8=>⟨jn,tn 1 U (ff (wO ty86 U (oq (i:=3) U) U) (⟨jn,?_⟩))⟩)
  let z14:Nat×Obj:=(b8,O [I ((rec offices y1).Kind),I ((rec offices y1).N),I ((rec offices y1).No),.string ((rec offices y1).Name),.slice rr5.mI ((rec offices y1).L.length) rr5.mJ] 88)
  exact tn 6 U (eo Tw ([z14,z8,z1,z4]) ([]) (λG=>[z14,z8,z1,z4]++G) ap (λ_=>ap) lP ty88 zc88 U bytes88 (sM.mono R3 hle5) U U (fd 0 U (cE (R:=Su) (rec offices y1) U ⟨rr5,U,ok5⟩)) lo lo (λob4 oc4 G4 gr4=>⟨jn,qB [7] U (tn 8 U (kO 3 ty86 U U U U U U (⟨jn,aN kr (qT 2 U (oi i1 U (qO 2 U (bj (L':=[z1,(b1,O [I x.Kind,I x.N,I (aT offices x.Name),.string x.Name,.slice ob4 ((lx++[(rec offices y1)]).length) oc4] 88)]++G4) js (ag1 ((lx++[(rec offices y1)]),ob4,oc4,G4,h5) hs5 ⟨gr4,lo,(hl1.t hle5)⟩)))))⟩)))⟩))
 refine qK 10 [1] U (cB 1 ty86 U U U U U U (qL 8 [] U ?_))
 let z2:Nat×Obj:=(b2,O [I 0,I 0,I 0,.string (⟨#[]⟩:ByteArray),.slice none 0 0] 88)
 refine lp2 x.L (λi w=>[(0,.slice dF offices.length dE),(3,Q b1),(4,Q b2),(19,.slice fX.mI x.L.length fX.mJ),(20,I (x.L.length:Int)),(21,I (i:Int))]) (λw=>w.2.2.2.2) (λw=>[z2,(b1,O [I x.Kind,I x.N,I 0,.string x.Name,.slice w.2.1 w.1.length w.2.2.1] 88)]++(w.2.2.2.1)) (λi w=>dA Su 88 w.2.2.2.2 w.1 w.2.1 w.2.2.1 w.2.2.2.1/\w.1.length<=0+i/\kK h w.2.2.2.2) (λs2 i w=>(aj.L2 rec offices (aj.K2 x)) s2 w.1) ([],none,0,[],h) hx.list.1.1 hs2 ⟨dA.nil,lo,lf⟩ ?_ ?_
 .rintro i2 ⟨lv,qU,qI,AS,hh2⟩ BZ hs6 ⟨sI,EY,hl2⟩ e
  try dsimp only at sI EY hl2
  let z5:Nat×Obj:=(b1,O [I x.Kind,I x.N,I 0,.string x.Name,.slice qU lv.length qI] 88)
  let z16:Nat×Obj:=(b2,O [I x.Kind,I x.N,I 0,.string x.Name,.slice qU lv.length qI] 88)
  refine sr (cI 1 ty88 U U U (aR 0 ty88 U U U U U U (gS (L':=[z16,z5]++(AS)) U (aH (fW R3 ([z16,z5]) AS ([]) ap hM sI (λh8 hle8 sl4=>?_))))))
  have hs7:aj.F rec offices x=(vG x.Kind x.N 0 x.Name lv):=hs6
  exact il [.agg (kB [I x.Kind,I x.N,I 0,.string x.Name,.slice qU lv.length qI])] func225 U ⟨⟨0,_,_,_,_,U,U,.inl ⟨ty88,U⟩⟩,trivial⟩ ⟨(cY.mk qU qI),congrArg (λr:Expr=>(.agg (jC r (cY.mk qU qI)).toArray:Value)) hs7.symm,(by rw[hs7];exact(show qG h8 (vG x.Kind x.N 0 x.Name lv) (cY.mk qU qI)from Sb sl4))⟩
 rintro i2 ⟨lv,qU,qI,AS,hh2⟩ y2 rz2 hd2 wk sF EP Kw hs8 ⟨sI,EY,hl2⟩ hx2 ag2 e
 try dsimp only at sI EY hl2
 have hdy:=kV (fS hd2)
 refine sr (tO wk U (qO 8 U (aw (iR lP ty88 (hx.list.mono R3 hl2).1 sF U U U (λ_ _ _ e=>e) (λq4 r4 A4 ok8=>?_)))))
 let z6:Nat×Obj:=(b1,O [I x.Kind,I x.N,I 0,.string x.Name,.slice qU lv.length qI] 88)
 refine dl ty88 A4 U U (aU zc88 (λb11=>aR 0 ty88 U U U U U U (gS (L':=[(b11,O (jC y2 r4) 88),z2,z6]++(AS)) U (aH ?_))))
 let z7:Nat×Obj:=(b11,O (jC y2 r4) 88)
 refine eQ ([z7,z2]) mixed kr jn (λnh _=>?_)
 refine qB [0,2] U (tf 3 U U (λ_ _ hj=>jZ ty88 U (hj.nth (i:=0) U) U) ?_)
 refine mO 1 4 kr U U ?_ ?_ 
 .refine ff (wO ty86 U (oq (i:=2) U) U) (⟨jn,tn 4 U (cJ Ip (hrec _ _ _ _ _ _ (hoffices.mono Ti hl2) ok8 ob (kV (fS hd2))) U (λv5 h9 hle9 hp5=>?_))⟩)
  obtain⟨rr9,rfl,ok9⟩:=hp5
  refine⟨jl hle9,tu hle9 (tn 5 U (bB (cells:=[I ((rec offices y2).Kind),I ((rec offices y2).N),I ((rec offices y2).No),.string ((rec offices y2).Name),.slice rr9.mI ((rec offices y2).L.length) rr9.mJ]) lP ty88 zc88 U U kr (λb12=>⟨jn,?_⟩)))⟩
  let z11:Nat×Obj:=(b12,O [I ((rec offices y2).Kind),I ((rec offices y2).N),I ((rec offices y2).No),.string ((rec offices y2).Name),.slice rr9.mI ((rec offices y2).L.length) rr9.mJ] 88)
  exact tn 6 U (eo Tw ([z11,z7,z2,z6]) ([]) (λG=>[z11,z7,z2,z6]++G) ap (λ_=>ap) lP ty88 zc88 U bytes88 (sI.mono R3 hle9) U U (fd 0 U (cE (R:=Su) (rec offices y2) U ⟨rr9,U,ok9⟩)) lo lo (λob6 oc6 G6 gr6=>⟨jn,qB [7] U (tn 8 U (kO 3 ty86 U U U U U U (⟨jn,aN kr (qT 2 U (oi i2 U (qO 2 U (bj (L':=[z2,(b1,O [I x.Kind,I x.N,I 0,.string x.Name,.slice ob6 ((lv++[(rec offices y2)]).length) oc6] 88)]++G6) js (ag2 ((lv++[(rec offices y2)]),ob6,oc6,G6,h9) hs8 ⟨gr6,lo,(hl2.t hle9)⟩)))))⟩)))⟩))
 refine cJ Ip (hrec _ _ _ _ _ _ (hoffices.mono Ti hl2) ok8 ob (kV (fS hd2))) U (λv6 h10 hle10 hp6=>?_)
 obtain⟨rr10,rfl,ok10⟩:=hp6
 refine⟨jl hle10,tu hle10 ?_⟩
 refine mO 1 5 kr U U ?_ ?_ 
 .refine ff (wO ty86 U (oq (i:=2) U) U) (⟨jn,tn 5 U (bB (cells:=[I ((rec offices y2).Kind),I ((rec offices y2).N),I ((rec offices y2).No),.string ((rec offices y2).Name),.slice rr10.mI ((rec offices y2).L.length) rr10.mJ]) lP ty88 zc88 U U kr (λb13=>⟨jn,?_⟩))⟩)
  let z9:Nat×Obj:=(b13,O [I ((rec offices y2).Kind),I ((rec offices y2).N),I ((rec offices y2).No),.string ((rec offices y2).Name),.slice rr10.mI ((rec offices y2).L.length) rr10.mJ] 88)
  exact tn 6 U (eo Tw ([z9,z7,z2,z6]) ([]) (λG=>[z9,z7,z2,z6]++G) ap (λ_=>ap) lP ty88 zc88 U bytes88 (sI.mono R3 hle10) U U (fd 0 U (cE (R:=Su) (rec offices y2) U ⟨rr10,U,ok10⟩)) lo lo (λob7 oc7 G7 gr7=>⟨jn,qB [7] U (tn 8 U (kO 3 ty86 U U U U U U (⟨jn,aN kr (qT 2 U (oi i2 U (qO 2 U (bj (L':=[z2,(b1,O [I x.Kind,I x.N,I 0,.string x.Name,.slice ob7 ((lv++[(rec offices y2)]).length) oc7] 88)]++G7) js (ag2 ((lv++[(rec offices y2)]),ob7,oc7,G7,h10) hs8 ⟨gr7,lo,(hl2.t hle10)⟩)))))⟩)))⟩))
 refine bB (cells:=[I ((rec offices y2).Kind),I ((rec offices y2).N),I ((rec offices y2).No),.string ((rec offices y2).Name),.slice rr10.mI ((rec offices y2).L.length) rr10.mJ]) lP ty88 zc88 U U kr (λb14=>⟨jn,tn 1 U (ff (wO ty86 U (oq (i:=3) U) U) (⟨jn,?_⟩))⟩)
 let z10:Nat×Obj:=(b14,O [I ((rec offices y2).Kind),I ((rec offices y2).N),I ((rec offices y2).No),.string ((rec offices y2).Name),.slice rr10.mI ((rec offices y2).L.length) rr10.mJ] 88)
 exact tn 6 U (eo Tw ([z10,z7,z2,z6]) ([]) (λG=>[z10,z7,z2,z6]++G) ap (λ_=>ap) lP ty88 zc88 U bytes88 (sI.mono R3 hle10) U U (fd 0 U (cE (R:=Su) (rec offices y2) U ⟨rr10,U,ok10⟩)) lo lo (λob8 oc8 G8 gr8=>⟨jn,qB [7] U (tn 8 U (kO 3 ty86 U U U U U U (⟨jn,aN kr (qT 2 U (oi i2 U (qO 2 U (bj (L':=[z2,(b1,O [I x.Kind,I x.N,I 0,.string x.Name,.slice ob8 ((lv++[(rec offices y2)]).length) oc8] 88)]++G8) js (ag2 ((lv++[(rec offices y2)]),ob8,oc8,G8,h10) hs8 ⟨gr8,lo,(hl2.t hle10)⟩)))))⟩)))⟩))
theorem ph:∀(m:Nat)(h:HF)(offices:List ByteArray)(dF:Option Addr)(dE:Nat)(x:Expr)(fX:cY)(_:x.dep<=m)(hoffices:SlC Sz h dF dE offices)(hx:qG h x fX)(hsz:x.dep<=2000000),jY prog 225 [.slice dF offices.length dE,.agg (jC x fX).toArray] h (λv h'=>∃(rr0:cY),v=.agg (jC (aj.go m offices x) rr0).toArray/\qG h' (aj.go m offices x) rr0)
 |0,h,offices,dF,dE,x,fX,hd,hoffices,hx,hsz=>absurd hd (Nat.not_le.2 (Expr.me _))
 |m+1,h,offices,dF,dE,x,fX,hd,hoffices,hx,hsz=>wQ (aj.go m) h offices dF dE x fX (λqh_ qoffices j5 j4 qx lk qhoffices qhx qhsz qd=>ph m qh_ qoffices j5 j4 qx lk ob qhoffices qhx qhsz) hoffices hx hsz
theorem rx(h:HF)(offices:List ByteArray)(dF:Option Addr)(dE:Nat)(x:Expr)(fX:cY)(hoffices:SlC Sz h dF dE offices)(hx:qG h x fX)(hsz:x.dep<=2000000):jY prog 225 [.slice dF offices.length dE,.agg (jC x fX).toArray] h (λv h'=>∃(rr0:cY),v=.agg (jC (aj offices x) rr0).toArray/\qG h' (aj offices x) rr0):=ph _ h offices dF dE x fX (xG _) hoffices hx hsz
theorem yx(h:HF)(p:Policy)(gG:eU)(hp:kN h p gG)(hsm:smP p)(hk:Kinds h):jY prog 174 [.agg (kD p gG).toArray] h (λv h'=>∃(rr0:eU),v=.tuple #[.agg (kD ((ep p).1) rr0).toArray,I ((ep p).2)]/\kN h' ((ep p).1) rr0):=by
 refine cD func174 U ntmps174 U λX hM hX=>?_
 have hs0:=@rfl _ (ep p)
 have hsc:=hsm.change
 have hsr:=hsm.rules
 refine sr (ct (λb1=>aU zc94 (λb2=>qO 4 U (aP 1 U hM (λh1 hle1 hb1=>aw (dS U U (ai (v:=I (attR (dD p))) call220 (yw h1 (.func (.func 221) #[] #[Q b1]) (dD p) (lV (args:=[]) (cap:=[Q b1]) call221 (vZ h1 p gG ⟨b1,0,none⟩ (hp.mono hle1) (bI hb1) (by first|assumption|omega) (hk.mono hle1)))) U (qO 8 U (ae hs0 U (λc1 hs1=>?_) (λc1 hs2=>?_))))))))))
 .refine sr (cI 0 ty94 U U U (ao (aR 0 ty94 U U U U U U (an ?_))))
  have hs3:ep p=((qM (⟨#[]⟩:ByteArray) ([]) ([]) ([]) (vG 0 0 0 (⟨#[]⟩:ByteArray) ([])) 0),(attR (dD p))):=hs1
  exact il [.agg (kB [.string (⟨#[]⟩:ByteArray),.slice none 0 0,.slice none 0 0,.slice none 0 0,I 0,I 0,I 0,.string (⟨#[]⟩:ByteArray),.slice none 0 0,I 0]),I (attR (dD p))] func174 U ⟨⟨0,_,_,_,_,U,U,.inl ⟨ty94,U⟩⟩,U,trivial⟩ ⟨(eU.mk none 0 none 0 none 0 (cY.mk none 0)),congrArg (λr:(Policy×Int)=>(.tuple #[.agg (kD r.1 (eU.mk none 0 none 0 none 0 (cY.mk none 0))).toArray,I r.2]:Value)) hs3.symm,(by rw[hs3];exact(show kN h1 (qM (⟨#[]⟩:ByteArray) ([]) ([]) ([]) (vG 0 0 0 (⟨#[]⟩:ByteArray) ([])) 0) (eU.mk none 0 none 0 none 0 (cY.mk none 0))from⟨zF,zF,zF,(show qG h1 (vG 0 0 0 (⟨#[]⟩:ByteArray) ([])) (cY.mk none 0)from Sb zF)⟩))⟩
 refine qT 3 U (dl ty94 (bI hb1) U U (aR 0 ty94 U U U U U U (qL 4 [] U (cB 0 ty92 U U U U U U (qL 5 [] U (ky (j:=3) ty92 (bI hb1) U U (qL 3 [] U ?_)))))))
 refine lp2 p.Rules (λi w=>[(1,Q b1),(2,Q b2),(15,.slice gG.ou p.Rules.length gG.ot),(16,I (p.Rules.length:Int)),(17,I (i:Int))]) (λw=>w.2.2.2.2) (λw=>[(b2,O [.string p.Name,.slice gG.jX p.Kinds.length gG.jW,.slice gG.gM p.Offices.length gG.gL,.slice w.2.1 w.1.length w.2.2.1,I p.Change.Kind,I p.Change.N,I p.Change.No,.string p.Change.Name,.slice gG.Change.mI p.Change.L.length gG.Change.mJ,I p.Mode] 94)]++(w.2.2.2.1)) (λi w=>dA Rule.rp 91 w.2.2.2.2 w.1 w.2.1 w.2.2.1 w.2.2.2.1/\w.1.length<=0+i/\kK h1 w.2.2.2.2) (λs1 i w=>(ep.L1 p (ep.K1 p)) s1 i w.1) ([],none,0,[],h1) ((hp.Rules.mono Tk hle1).1.1) hs2 ⟨dA.nil,lo,lf⟩ ?_ ?_
 .rintro i1 ⟨nj,sL,sK,AX,hh1⟩ fB hs4 ⟨xq,E3,hl1⟩ e
  try dsimp only at xq E3 hl1
  refine qK 3 [] U (ky (j:=2) ty89 ((bI hb1).mono hl1) U U (qL 1 [] U (zm (j:=4) ty88 ((bI hb1).mono hl1) U U (aw (cJ Ip (rx _ _ _ _ _ _ (hp.Offices.mono Ti (hle1.t hl1)) (hp.Change.mono (hle1.t hl1)) ob) U (λv3 h5 hle5 hp3=>?_))))))
  obtain⟨rr4,rfl,ok4⟩:=hp3
  let z2:Nat×Obj:=(b2,O [.string p.Name,.slice gG.jX p.Kinds.length gG.jW,.slice gG.gM p.Offices.length gG.gL,.slice sL nj.length sK,I ((aj p.Offices p.Change).Kind),I ((aj p.Offices p.Change).N),I ((aj p.Offices p.Change).No),.string ((aj p.Offices p.Change).Name),.slice rr4.mI ((aj p.Offices p.Change).L.length) rr4.mJ,I p.Mode] 94)
  refine qL 1 [] U (cB 0 ty88 U U U U U U (qO 3 U (cI 0 ty94 U U U (aR 0 ty94 U U U U U U (gS (L':=[z2]++(AX)) U (an (fW Tk ([z2]) AX ([]) ap hM (xq.mono Tk hle5) (λh6 hle6 sl2=>?_))))))))
  have hs5:ep p=((qM p.Name p.Kinds p.Offices nj (vG ((aj p.Offices p.Change).Kind) ((aj p.Offices p.Change).N) ((aj p.Offices p.Change).No) ((aj p.Offices p.Change).Name) ((aj p.Offices p.Change).L)) p.Mode),0):=hs4
  exact il [.agg (kD (qM p.Name p.Kinds p.Offices nj (vG ((aj p.Offices p.Change).Kind) ((aj p.Offices p.Change).N) ((aj p.Offices p.Change).No) ((aj p.Offices p.Change).Name) ((aj p.Offices p.Change).L)) p.Mode) (eU.mk gG.jX gG.jW gG.gM gG.gL sL sK (cY.mk rr4.mI rr4.mJ))).toArray,I 0] func174 U ⟨⟨0,_,_,_,_,U,U,.inl ⟨ty94,U⟩⟩,U,trivial⟩ ⟨(eU.mk gG.jX gG.jW gG.gM gG.gL sL sK (cY.mk rr4.mI rr4.mJ)),congrArg (λr:(Policy×Int)=>(.tuple #[.agg (kD r.1 (eU.mk gG.jX gG.jW gG.gM gG.gL sL sK (cY.mk rr4.mI rr4.mJ))).toArray,I r.2]:Value)) hs5.symm,(by rw[hs5];exact(show kN h6 (qM p.Name p.Kinds p.Offices nj (vG ((aj p.Offices p.Change).Kind) ((aj p.Offices p.Change).N) ((aj p.Offices p.Change).No) ((aj p.Offices p.Change).Name) ((aj p.Offices p.Change).L)) p.Mode) (eU.mk gG.jX gG.jW gG.gM gG.gL sL sK (cY.mk rr4.mI rr4.mJ))from⟨(hp.Kinds.mono Ti (((hle1.t hl1).t hle5).t hle6)),(hp.Offices.mono Ti (((hle1.t hl1).t hle5).t hle6)),sl2,(show qG h6 (vG ((aj p.Offices p.Change).Kind) ((aj p.Offices p.Change).N) ((aj p.Offices p.Change).No) ((aj p.Offices p.Change).Name) ((aj p.Offices p.Change).L)) (cY.mk rr4.mI rr4.mJ)from Sb (ok4.list.mono R3 hle6))⟩))⟩
 rintro i1 ⟨nj,sL,sK,AX,hh1⟩ y1 rz1 hd1 du bo eA gD hs6 ⟨xq,E3,hl1⟩ hx1 ag1 e
 try dsimp only at xq E3 hl1
 have hsy:=hsm.2.1 y1 (fS hd1)
 refine sr (tO du U (qO 9 U (aw (iR tQ ty91 (hp.Rules.mono Tk (hle1.t hl1)).1 bo U U U (λ_ _ _ e=>e) (λq2 r2 A2 ok5=>?_)))))
 let z1:Nat×Obj:=(b2,O [.string p.Name,.slice gG.jX p.Kinds.length gG.jW,.slice gG.gM p.Offices.length gG.gL,.slice sL nj.length sK,I p.Change.Kind,I p.Change.N,I p.Change.No,.string p.Change.Name,.slice gG.Change.mI p.Change.L.length gG.Change.mJ,I p.Mode] 94)
 refine dl ty91 A2 U U (aU zc91 (λb5=>fU (aR 0 ty91 U U U U U U (gS (L':=[(b5,O (TC y1 r2) 91),z1]++(AX)) U (qL 5 [] U (ky (j:=2) ty89 ((bI hb1).mono hl1) U U (qL 1 [] U (cI 0 ty88 U U U (aw (cJ Ip (rx _ _ _ _ _ _ (hp.Offices.mono Ti (hle1.t hl1)) ok5.Expr ob) U (λv4 h7 hle7 hp4=>?_)))))))))))
 obtain⟨rr6,rfl,ok6⟩:=hp4
 refine qL 1 [] U (cB 0 ty3 U U U U U U (qL 1 [] U (cB 0 ty88 U U U U U U (qL 4 [1] U (cI 0 ty91 U U U (aw (bB (cells:=[.string y1.Kind,I (i1:Int),I y1.Think,I ((aj p.Offices y1.Expr).Kind),I ((aj p.Offices y1.Expr).N),I ((aj p.Offices y1.Expr).No),.string ((aj p.Offices y1.Expr).Name),.slice rr6.mI ((aj p.Offices y1.Expr).L.length) rr6.mJ]) tQ ty91 zc91 U U kr (λb6=>?_))))))))
 let z3:Nat×Obj:=(b6,O [.string y1.Kind,I (i1:Int),I y1.Think,I ((aj p.Offices y1.Expr).Kind),I ((aj p.Offices y1.Expr).N),I ((aj p.Offices y1.Expr).No),.string ((aj p.Offices y1.Expr).Name),.slice rr6.mI ((aj p.Offices y1.Expr).L.length) rr6.mJ] 91)
 let z4:Nat×Obj:=(b5,O [.string y1.Kind,I (i1:Int),I y1.Think,I ((aj p.Offices y1.Expr).Kind),I ((aj p.Offices y1.Expr).N),I ((aj p.Offices y1.Expr).No),.string ((aj p.Offices y1.Expr).Name),.slice rr6.mI ((aj p.Offices y1.Expr).L.length) rr6.mJ] 91)
 refine aw (eo Rule.eD ([z3,z4,z1]) ([]) (λG=>[z3,z4,z1]++G) ap (λ_=>ap) tQ ty91 zc91 U bytes91 (xq.mono Tk hle7) U U (fd 0 U (cE (R:=Rule.rp) (SE y1.Kind (i1:Int) y1.Think (vG ((aj p.Offices y1.Expr).Kind) ((aj p.Offices y1.Expr).N) ((aj p.Offices y1.Expr).No) ((aj p.Offices y1.Expr).Name) ((aj p.Offices y1.Expr).L))) U ⟨(Bx.mk (cY.mk rr6.mI rr6.mJ)),U,(show Rule.ok h7 (SE y1.Kind (i1:Int) y1.Think (vG ((aj p.Offices y1.Expr).Kind) ((aj p.Offices y1.Expr).N) ((aj p.Offices y1.Expr).No) ((aj p.Offices y1.Expr).Name) ((aj p.Offices y1.Expr).L))) (Bx.mk (cY.mk rr6.mI rr6.mJ))from⟨(show qG h7 (vG ((aj p.Offices y1.Expr).Kind) ((aj p.Offices y1.Expr).N) ((aj p.Offices y1.Expr).No) ((aj p.Offices y1.Expr).Name) ((aj p.Offices y1.Expr).L)) (cY.mk rr6.mI rr6.mJ)from Sb ok6.list)⟩)⟩)) lo lo (λob2 oc2 G2 gr2=>qL 1 [] U (cB 2 ty92 U U U U U U (qO 3 U (oi i1 U (qO 2 U (bj (L':=[(b2,O [.string p.Name,.slice gG.jX p.Kinds.length gG.jW,.slice gG.gM p.Offices.length gG.gL,.slice ob2 ((nj++[(SE y1.Kind (i1:Int) y1.Think (vG ((aj p.Offices y1.Expr).Kind) ((aj p.Offices y1.Expr).N) ((aj p.Offices y1.Expr).No) ((aj p.Offices y1.Expr).Name) ((aj p.Offices y1.Expr).L)))]).length) oc2,I p.Change.Kind,I p.Change.N,I p.Change.No,.string p.Change.Name,.slice gG.Change.mI p.Change.L.length gG.Change.mJ,I p.Mode] 94)]++G2) js ?_)))))))
 exact ag1 ((nj++[(SE y1.Kind (i1:Int) y1.Think (vG ((aj p.Offices y1.Expr).Kind) ((aj p.Offices y1.Expr).N) ((aj p.Offices y1.Expr).No) ((aj p.Offices y1.Expr).Name) ((aj p.Offices y1.Expr).L)))]),ob2,oc2,G2,h7) hs6 ⟨gr2,lo,(hl1.t hle7)⟩
theorem qt(h:HF)(offices:List ByteArray)(dF:Option Addr)(dE:Nat)(x:Expr)(fX:cY)(hoffices:SlC Sz h dF dE offices)(hx:qG h x fX)(hsz:x.dep<=1500000):Ret prog 175 [.slice dF offices.length dE,.agg (jC x fX).toArray] h (.bool (co offices x)):=by
 refine cD Na U ntmps175 U λX hM hX=>?_
 have hs0:=@rfl _ (co offices x)
 refine sr (ct (λb1=>ct (λb2=>aU zc4 (λb3=>qO 4 U (cI 1 ty88 U U U (aw (cJ K7 (nd _ _ _ 1 hx ob) U (λv1 h1 hle1 hp1=>?_))))))))
 obtain⟨_,rfl,mo1⟩:=hp1
 refine qO 2 U (dQ ?_)
 let z1:Nat×Obj:=(b1,O [.slice dF offices.length dE] 89)
 let z2:Nat×Obj:=(b2,O (jC x fX) 88)
 refine cu (L':=([(b3,O [.bool false] 4),z2,z1])++markB []) ap ?_
 refine jw (it:=v1) (xs:=(bM x 1)) (ι:=HF) [] (λi=>i) (λi=>[(b3,O [.bool false] 4),z2,z1]) (λs i=>co offices x=((co.L1 offices (co.K1)) s)/\kK h1 i) (λi=>co offices x=false/\kK h1 i) (λ_=>False) 0 (λ_ _ _=>False) h1 Na U mo1 U oc (λ_ _ _ _ _ hq=>hq) U (show[(b3,O [.bool false] 4),z2,z1]=_ from U) ⟨hs0,lf⟩ ?_ ?_ ?_ ?_ ?_
 .rintro l1 dm1 lp1 y1 rz1 vs1 hh1 hr1 X hFR1 ⟨hs1,hl1⟩ hl01 hlr1 hv1 hX hXM hlp1 nx1 rt1 ex1 pn1
  try dsimp only at hl1 hlr1
  obtain⟨rr1_0,rfl,ok1_0⟩:=hv1
  let z3:Nat×Obj:=(dm1,.deferred (some []))
  refine cu (L':=[(l1,.loop lp1),z3,(b3,O [.bool false] 4),z2,z1]++(markB [])) ap (bu (aU zc278 (λb5=>aR 0 ty278 U U U U U U (aH (jx 1 U hlp1 (qK 9 [] U (cI 0 ty88 U U U (ai call227 (nY _ _ _ ok1_0.x) U (aH (ae hs1 U (λc4 hs2=>?_) (λc4 hs3=>?_)))))))))))
  .refine qK 5 [5,0] U (ai Nd (ls _ _ _ _ y1.x.Name (hoffices.mono Ti ((hle1.t hl1).t hlr1))) U (qL 10 [0] U (ae hs2 U (λc5 hs4=>?_) (λc5 hs5=>?_))))
   .exact sr (cB 3 ty4 U U U U U U (aH (bj (L':=[(l1,.loop { lp1 with state:=.busy }),z3,(b3,O [.bool false] 4),z2,z1]++(markB [])) js (cu (L':=rdH l1 dm1 lp1 (([(b3,O [.bool false] 4),z2,z1])++markB [])) ap (rt1 hr1 _ _ _ ⟨hs4,(hl1.t hlr1)⟩ lf)))))
   exact aQ (eB (bj (L':=[(l1,.loop { lp1 with state:=.busy }),z3,(b3,O [.bool false] 4),z2,z1]++(markB [])) js (cu (L':=rdH l1 dm1 lp1 (([(b3,O [.bool false] 4),z2,z1])++markB [])) ap (nx1 hr1 _ _ ⟨hs5,(hl1.t hlr1)⟩ lf))))
  refine qK 9 [0] U (ae hs3 U (λc6 hs6=>?_) (λc6 hs7=>?_))
  .exact sr (cB 3 ty4 U U U U U U (aH (bj (L':=[(l1,.loop { lp1 with state:=.busy }),z3,(b3,O [.bool false] 4),z2,z1]++(markB [])) js (cu (L':=rdH l1 dm1 lp1 (([(b3,O [.bool false] 4),z2,z1])++markB [])) ap (rt1 hr1 _ _ _ ⟨hs6,(hl1.t hlr1)⟩ lf)))))
  exact aQ (eB (bj (L':=[(l1,.loop { lp1 with state:=.busy }),z3,(b3,O [.bool false] 4),z2,z1]++(markB [])) js (cu (L':=rdH l1 dm1 lp1 (([(b3,O [.bool false] 4),z2,z1])++markB [])) ap (nx1 hr1 _ _ ⟨hs7,(hl1.t hlr1)⟩ lf))))
 .rintro dm1 hh1 hn1 ⟨hs8,hl1⟩ hln1 hl01
  try dsimp only at hl1 hln1
  refine cu (L':=[(b3,O [.bool false] 4),z2,z1]++(markB (dm1::[]))) ap (qT 3 U (cB 0 ty4 U U U U U U (aH ?_)))
  have hs9:co offices x=true:=hs8
  exact cu (L':=([(b3,O [.bool true] 4),z2,z1])++markB (dm1::[])) ap (rY (dm1::[]) [.bool true] Na U hX ⟨⟨0,_,_,_,_,U,U,.inr ⟨_,ty4,U⟩⟩,trivial⟩ (cs hs9))
 .rintro dm1 hh1 hn1 ⟨hs10,hl1⟩ hln1 hl01
  try dsimp only at hl1 hln1
  refine cu (L':=[(b3,O [.bool false] 4),z2,z1]++(markB (dm1::[]))) ap ?_
  have hs11:co offices x=false:=hs10
  exact cu (L':=([(b3,O [.bool false] 4),z2,z1])++markB (dm1::[])) ap (rY (dm1::[]) [.bool false] Na U hX ⟨⟨0,_,_,_,_,U,U,.inr ⟨_,ty4,U⟩⟩,trivial⟩ (cs hs11))
 .exact xf
 exact xf
theorem tB(h:HF)(p:Policy)(gG:eU)(hp:kN h p gG)(hsm:smP p)(hk:Kinds h):Ret prog 102 [.agg (kD p gG).toArray] h (I (cT p)):=by
 refine sT func102 U ntmps102 U λX hM hX hF=>?_
 have hs0:=@rfl _ (cT p)
 have hsc:=hsm.change
 refine sr (ct (λb1=>qO 5 U (cI 0 ty94 U U U (aw (cJ call174 (yx _ _ _ hp ob hk) U (λv1 h1 hle1 hp1=>?_))))))
 obtain⟨rr1,rfl,ok1⟩:=hp1
 refine qO 10 U (ae hs0 U (λc1 hs1=>?_) (λc1 hs2=>?_))
 .exact sr (qO 3 U (nretP [I ((ep p).2)] (ci hs1)))
 refine qK 9 [0] U ?_
 refine lp0 p.Rules (λi=>[(1,Q b1),(14,.slice gG.ou p.Rules.length gG.ot),(15,I (p.Rules.length:Int)),(16,I (i:Int))]) ([(b1,O (kD p gG) 94)]) (λs1 i=>(cT.L1 p (cT.K1 p)) s1 i) ((hp.Rules.mono Tk hle1).1.1) hs2 ?_ ?_
 .rintro i1 fB hs4 e
  refine qK 6 [0] U (cI 0 ty88 U U U (ai call175 (qt _ _ _ _ _ _ (hp.Offices.mono Ti hle1) (hp.Change.mono hle1) ob) U (qO 2 U (ae hs4 U (λc2 hs5=>?_) (λc2 hs6=>?_)))))
  .exact sr (an (nretP [I 200] (ci hs5)))
  exact aQ (qT 4 U (nretP [I 0] (ci hs6)))
 rintro i1 y1 rz1 hd1 du bo eA gD hs9 hx1 ag1 e
 have hsy:=hsm.2.1 y1 (fS hd1)
 refine sr (tO du U (qO 9 U (aw (iR tQ ty91 (hp.Rules.mono Tk hle1).1 bo U U U (λ_ _ _ e=>e) (λq2 r2 A2 ok3=>dl ty91 A2 U U (aU zc91 (λb3=>fU (aR 0 ty91 U U U U U U (qL 8 [0] U (cn 7 [25,26,27,28,29,30,31,32] 25 32 (!(co p.Offices y1.Expr)) U (λc3 hk1=>?_) (λe=>?_)))))))))))
 .exact qL 3 [1] U (cI 0 ty88 U U U (ai call175 (qt _ _ _ _ _ _ (hp.Offices.mono Ti hle1) ok3.Expr ob) U (qO 2 U (hk1 _ U))))
 refine aH (ae hs9 U (λc4 hs10=>?_) (λc4 hs11=>?_))
 .exact sr (an (nretP [I 200] (ci hs10)))
 exact aQ (qT 2 U (oi i1 U (qO 2 U (bj (L':=[(b1,O (kD p gG) 94)]) js (ag1 hs11)))))
theorem qw(h:HF)(l:List Version)(fq:Option Addr)(fp:Nat)(hl:SlC jQ h fq fp l)(hsm:smV l)(hk:Kinds h):Ret prog 52 [.slice fq l.length fp] h (I (bJ l)):=by
 refine sT func52 U ntmps52 U λX hM hX hF=>?_
 have hs0:=@rfl _ (bJ l)
 have hsl:=hsm.len
 refine qK 11 [] U (ae hs0 U (λc1 hs1=>?_) (λc1 hs2=>?_))
 .have c1p:=of_decide_eq_true c1
  exact sr (an (nretP [I 2] (ci hs1)))
 have c1p:=of_decide_eq_false c1
 refine qK 12 [] U ?_
 refine lp1 l (λi w=>[(3,I w),(9,.slice fq l.length fp),(10,I (l.length:Int)),(11,I (i:Int))]) ([]) (λs1 i w=>(bJ.L1 (bJ.K1)) s1 w) (-1) hl.1.1 hs2 ?_ ?_
 .rintro i1 gZ fB hs4 e
  exact sr (an (nretP [I 0] (ci hs4)))
 rintro i1 gZ y1 rz1 hd1 du bo eA gD hs6 hx1 ag1 e
 have hsy:=hsm.2 y1 (fS hd1)
 refine sr (tO du U (qO 8 U (aw (iR wC ty96 hl.1 bo U U U (λ_ _ _ e=>e) (λq2 r2 A2 ok2=>dl ty96 A2 U U (aU zc96 (λb2=>aR 0 ty96 U U U U U U (qL 8 [0] U (ai Am (gH h y1.No (zE .i64 (gZ+1)) 1048576) U (qO 2 U (cn 5 [21,22,23,24,25,26] 21 26 (!(bh y1.At 0 1099511627775)) U (λc2 hk1=>?_) (λe=>?_))))))))))))
 .exact qL 2 [0] U (ai Am (gH h y1.At 0 1099511627775) U (qO 2 U (hk1 _ U)))
 refine ao (cn 5 [27,28,29,30,31,32] 27 32 (!(bh y1.Known 0 1099511627775)) U (λc3 hk2=>?_) (λe=>?_))
 .exact qL 2 [0] U (ai Am (gH h y1.Known 0 1099511627775) U (qO 2 U (hk2 _ U)))
 refine ao (cn 5 [33,34,35,36,37,38] 33 38 ((cT y1.Policy) != 0) U (λc4 hk3=>?_) (λe=>?_))
 .exact qL 1 [] U (cI 0 ty94 U U U (ai call102 (tB _ _ _ ok2.Policy ob hk) U (qO 2 U (hk3 _ U))))
 refine aH (ae hs6 U (λc5 hs7=>?_) (λc5 hs8=>?_))
 .exact sr (an (nretP [I 200] (ci hs7)))
 exact qK 8 [0] U (oi i1 U (qO 2 U (bj (L':=[]) js (ag1 y1.No hs8))))
theorem pP(h:HF)(l:List Document)(fq:Option Addr)(fp:Nat)(hl:SlC RV h fq fp l):jY prog 103 [.slice fq l.length fp] h (λv h'=>∃(rr0:nS),v=.agg (gB.cells (ay l) rr0).toArray/\gB.ok h' (ay l) rr0):=by
 refine cD func103 U ntmps103 U λX hM hX=>?_
 have hs0:=@rfl _ (ay l)
 refine sr (aU zc167 (λb1=>qO 4 U (aw (na (λb2=>aw (eY (cells:=[.slice fq l.length fp,.map (some b2)]) (places:=[(0,1),(1,1)]) underlying167 zc167 kr kr (aU zc167 (λb3=>aR 0 ty167 U U U U U U (qL 8 [] U ?_)))))))))
 let z1:Nat×Obj:=(b3,O [.slice fq l.length fp,.map (some b2)] 167)
 refine lp2 l (λi w=>[(2,Q b1),(3,Q b3),(9,.slice fq l.length fp),(10,I (l.length:Int)),(11,I (i:Int))]) (λ_=>h) (λw=>[z1,(b2,w.2),(b1,O [.slice none 0 0,.map none] 167)]) (λi w=>ia (xB .i64) vo h w.2 w.1/\w.1.length<=0+i) (λs1 i w=>(ay.L1 (ay.K1 l)) s1 i w.1) ([],.map #[] 0) hl.1.1 hs0 ⟨(ia.nil (enc:=(xB .i64)) (V:=vo) (h:=h)),lc⟩ ?_ ?_
 .rintro i1 ⟨aZ,dB⟩ fB hs1 ⟨eV,nG⟩ e
  refine sr (cI 0 ty167 U U U (aR 2 ty167 U U U U U U (aH (eO 1 U hM (λh2 hle2 hb2=>?_)))))
  have mc2:re (xB .i64) vo h2 b2 aZ:=⟨_,hb2,eV.mono vo.mono hle2⟩
  have hs2:ay l=(gB.mk l aZ):=hs1
  exact il [.agg (kB [.slice fq l.length fp,.map (some b2)])] func103 U ⟨⟨1,_,_,_,_,U,U,.inl ⟨ty167,U⟩⟩,trivial⟩ ⟨(nS.mk fq fp b2),congrArg (λr:gB=>(.agg (gB.cells r (nS.mk fq fp b2)).toArray:Value)) hs2.symm,(by rw[hs2];exact(show gB.ok h2 (gB.mk l aZ) (nS.mk fq fp b2)from⟨(hl.mono vR hle2),mc2⟩))⟩
 rintro i1 ⟨aZ,dB⟩ y1 rz1 hd1 du bo eA gD hs3 ⟨eV,nG⟩ hx1 ag1 e
 exact sr (tO du U (qO 9 U (aw (iR rC ty70 hl.1 bo U U U (λ_ _ _ e=>e) (λq2 r2 A2 ok2=>dl ty70 A2 U U (aU zc70 (λb5=>fU (aR 0 ty70 U U U U U U (qL 7 [1,0] U (aw (iZ 2 (k:=y1.No) (x:=(i1:Int)) Al (dG kz) U eV U U U (λmo2 hm2=>qO 3 U (oi i1 U (qO 2 U (bj (L':=[z1,(b2,mo2),(b1,O [.slice none 0 0,.map none] 167)]) js (ag1 ((mput aZ y1.No (i1:Int)),mo2) hs3 ⟨hm2,(by have:=gy aZ y1.No (i1:Int);first|omega|(simp only[vB,zA]at *;omega))⟩))))))))))))))))
theorem nl(h:HF)(t:Int)  : Ret prog 56 [I t] h (.bool (gm t)):=by
 refine sT func56 U ntmps56 U λX hM hX hF=>?_
 have hs0:=@rfl _ (gm t)
 refine qT 9 U (bD 3 [5,6,7,8] 5 8 (decide (t<1099511627776)) U (λc1 hk1=>?_) (λe=>?_))
 .exact ao (qO 2 U (hk1 _ U))
 exact an (nretP [.bool (decide (0<=t)&&decide (t<1099511627776))] (cs hs0))
theorem pz(h:HF)(l:List Int)(fq:Option Addr)(fp:Nat)(limit:Int)(hl:SlC zC h fq fp l):Ret prog 176 [.slice fq l.length fp,I limit] h (.bool (dK l limit)):=by
 refine sT func176 U ntmps176 U λX hM hX hF=>?_
 have hs0:=@rfl _ (dK l limit)
 refine qK 15 [] U ?_
 refine lp1 l (λi w=>[(0,.slice fq l.length fp),(1,I limit),(5,I w),(8,.slice fq l.length fp),(9,I (l.length:Int)),(10,I (i:Int))]) ([]) (λs1 i w=>(dK.L1 limit (dK.K1 l)) s1 w) (-1) hl.1.1 hs0 ?_ ?_
 .rintro i1 jm fB hs1 e
  exact qK 7 [] U (nretP [.bool (decide ((l.length:Int)<=16))] (cs hs1))
 rintro i1 jm y1 rz1 hd1 du bo eA gD hs3 hx1 ag1 e
 refine sr (tO du U (qO 8 U (aw (iF (λy=>[I y]) eG ty3 hl.1 bo U U U (λq2 A2=>de ty3 A2 U (qO 9 U (cn 4 [17,18,19,20,21] 17 21 (decide (limit<=y1)) U (λc1 hk1=>?_) (λe=>?_))))))))
 .exact ao (qO 3 U (hk1 _ U))
 refine aH (ae hs3 U (λc2 hs4=>?_) (λc2 hs5=>?_))
 .exact sr (an (nretP [.bool false] (cs hs4)))
 exact aQ (qT 6 U (oi i1 U (qO 2 U (ag1 y1 hs5))))
theorem Aa(h:HF)(d:Document)(GV:iC)(hd:R8 h d GV):Ret prog 104 [.agg (vQ d GV).toArray] h (.bool (iy d)):=by
 refine sT func104 U ntmps104 U λX hM hX hF=>?_
 have hs0:=@rfl _ (iy d)
 refine sr (ct (λb1=>qL 8 [0] U (bD 4 [7,8,9,10,11] 7 11 (decide (d.No<4096)) U (λc1 hk1=>?_) (λe=>?_))))
 .exact qL 4 [0] U (hk1 _ U)
 refine ao (bD 4 [12,13,14,15,16] 12 16 (gm d.At) U (λc2 hk2=>?_) (λe=>?_))
 .exact qL 2 [0] U (ai M9 (nl h d.At) U (eM U (hk2 _ U)))
 refine ao (bD 4 [17,18,19,20,21] 17 21 (decide (0<=d.Kind)) U (λc3 hk3=>?_) (λe=>?_))
 .exact qL 4 [0] U (hk3 _ U)
 refine ao (bD 4 [22,23,24,25,26] 22 26 (decide (d.Kind<16)) U (λc4 hk4=>?_) (λe=>?_))
 .exact qL 4 [0] U (hk4 _ U)
 refine ao (bD 4 [27,28,29,30,31] 27 31 (decide (0<=d.Value)) U (λc5 hk5=>?_) (λe=>?_))
 .exact qL 4 [0] U (hk5 _ U)
 refine ao (bD 4 [32,33,34,35,36] 32 36 (decide (d.Value<=1099511627776)) U (λc6 hk6=>?_) (λe=>?_))
 .exact qL 4 [0] U (hk6 _ U)
 refine qO 6 U (bD 4 [38,39,40,41,42] 38 42 (decide (0<=d.From)) U (λc7 hk7=>?_) (λe=>?_))
 .exact qL 4 [0] U (hk7 _ U)
 refine ao (bD 6 [43,44,45,46,47,48,49] 43 49 (decide (d.From<d.Until)) U (λc8 hk8=>?_) (λe=>?_))
 .exact qL 6 [0,0] U (hk8 _ U)
 refine ao (bD 4 [50,51,52,53,54] 50 54 (decide (d.Until<=1099511627776)) U (λc9 hk9=>?_) (λe=>?_))
 .exact qL 4 [0] U (hk9 _ U)
 refine ao (bD 4 [55,56,57,58,59] 55 59 (dK d.Parties 1048577) U (λc10 hk10=>?_) (λe=>?_))
 .exact qL 2 [0] U (ai call176 (pz _ _ _ _ 1048577 hd.Parties) U (eM U (hk10 _ U)))
 refine ao (bD 6 [60,61,62,63,64,65,66] 60 66 (dK d.Revokes d.No) U (λc11 hk11=>?_) (λe=>?_))
 .exact qL 4 [0,0] U (ai call176 (pz _ _ _ _ d.No hd.Revokes) U (eM U (hk11 _ U)))
 refine ao (bD 6 [67,68,69,70,71,72,73] 67 73 (dK d.Needs d.No) U (λc12 hk12=>?_) (λe=>?_))
 .exact qL 4 [0,0] U (ai call176 (pz _ _ _ _ d.No hd.Needs) U (eM U (hk12 _ U)))
 exact an (nretP [.bool ((((((((((((decide (0<=d.No)&&decide (d.No<4096))&&(gm d.At))&&decide (0<=d.Kind))&&decide (d.Kind<16))&&decide (0<=d.Value))&&decide (d.Value<=1099511627776))&&decide (0<=d.From))&&decide (d.From<d.Until))&&decide (d.Until<=1099511627776))&&(dK d.Parties 1048577))&&(dK d.Revokes d.No))&&(dK d.Needs d.No))] (cs hs0))
theorem oe(h:HF)(no:Int)(v0:gB)(MW:nS)(v0_q:Addr)(hv0:gB.ok h v0 MW)(av0:At h v0_q (gB.cells v0 MW)):Ret prog 177 [I no,.pointer (some v0_q)] h (.bool (fA no v0)):=by
 refine sT func177 U ntmps177 U λX hM hX hF=>?_
 have hs0:=@rfl _ (fA no v0)
 refine qK 7 [] U (ky (j:=1) ty165 av0 U U (ao ?_))
 obtain⟨o1,hb1,hm1⟩:=hv0.at_
 refine aw (tc (k:=no) Al (dG kz) hb1 hm1 (e8 zv3) (show vo _ (I 0) 0 from U) U U (λv1 hv1=>?_))
 obtain rfl:=hv1
 exact ao (qO 11 U (nretP [.bool (!(mhas v0.at_ no))] (cs hs0)))
theorem py(h:HF)(s:gB)(Rm:nS)(d:Document)(GV:iC)(hs:gB.ok h s Rm)(hd:R8 h d GV):Ret prog 105 [.agg (gB.cells s Rm).toArray,.agg (vQ d GV).toArray] h (.bool (fH s d)):=by
 refine sT func105 U ntmps105 U λX hM hX hF=>?_
 have hs0:=@rfl _ (fH s d)
 refine sr (ct (λb1=>ct (λb2=>qO 4 U (aP 1 U hM (λh1 hle1 hb1=>aw (dS U U (qL 7 [0] U (ai Iq (gT _ _ _ _ (λcj=>fA cj s) (.func (.func 177) #[] #[Q b1]) (hd.Revokes.mono zH hle1) (λh' cj hle=>im call177 (oe h' cj s Rm ⟨b1,0,none⟩  ((hs.mono hle1).mono hle) ((bI hb1).mono hle)))) U (qO 2 U (bD 6 [12,13,14,15,16,17,18] 12 18 (!(da d.Needs (λcj=>fA cj s))) U (λc1 hk1=>?_) (λe=>?_)))))))))))
 .exact qL 3 [0] U (ai Iq (gT _ _ _ _ (λcj=>fA cj s) (.func (.func 177) #[] #[Q b1]) (hd.Needs.mono zH hle1) (λh' cj hle=>im call177 (oe h' cj s Rm ⟨b1,0,none⟩  ((hs.mono hle1).mono hle) ((bI hb1).mono hle)))) U (qO 2 U (hk1 _ U)))
 exact an (nretP [.bool ((!(da d.Revokes (λcj=>fA cj s)))&&(!(da d.Needs (λcj=>fA cj s))))] (cs hs0))
theorem oH(h:HF)(l:List Document)(fq:Option Addr)(fp:Nat)(hl:SlC RV h fq fp l):Ret prog 53 [.slice fq l.length fp] h (I (bz l)):=by
 refine sT func53 U ntmps53 U λX hM hX hF=>?_
 have hs0:=@rfl _ (bz l)
 refine qK 11 [] U (ae hs0 U (λc1 hs1=>?_) (λc1 hs2=>?_))
 .have c1p:=of_decide_eq_true c1
  exact sr (an (nretP [I 2] (ci hs1)))
 have c1p:=of_decide_eq_false c1
 refine qT 4 U (aw (cJ call103 (pP _ _ _ _ hl) U (λv1 h1 hle1 hp1=>?_)))
 obtain⟨rr1,rfl,ok1⟩:=hp1
 refine aU zc167 (λb1=>aR 0 ty167 U U U U U U (qL 8 [] U ?_))
 let z1:Nat×Obj:=(b1,O (gB.cells (ay l) rr1) 167)
 refine lp0 l (λi=>[(0,.slice fq l.length fp),(3,Q b1),(11,.slice fq l.length fp),(12,I (l.length:Int)),(13,I (i:Int))]) ([z1]) (λs1 i=>(bz.L1 l (bz.K1)) s1 i) ((hl.mono vR hle1).1.1) hs2 ?_ ?_
 .rintro i1 fB hs4 e
  exact sr (an (nretP [I 0] (ci hs4)))
 rintro i1 y1 rz1 hd1 du bo eA gD hs6 hx1 ag1 e
 refine sr (tO du U (qO 9 U (aw (iR rC ty70 (hl.mono vR hle1).1 bo U U U (λ_ _ _ e=>e) (λq3 r3 A3 ok4=>dl ty70 A3 U U (aU zc70 (λb3=>fU (aR 0 ty70 U U U U U U (qO 2 U ?_)))))))))
 refine nU [(0,.slice fq l.length fp),(3,Q b1),(11,.slice fq l.length fp),(12,I (l.length:Int)),(13,I (i1:Int)),(41,.bool (((!(iy y1))||(decide (0<(i1:Int))&&decide (y1.No<=(nthI l ((i1:Int)-1)).No)))||(!(fH (ay l) y1))))] (λe=>?_) (λhk1=>?_)
 rotate_left
 .let z2:Nat×Obj:=(b3,O (vQ y1 r3) 70)
  refine eQ ([z2,z1]) mixed kr jn (λeF _=>?_)
  refine tf 0 U U (λ_ _ hj=>jZ ty70 U (hj.nth (i:=0) U) U) (tn 1 U (fg call104 (Aa _ _ _ ok4) U (⟨jn,qA [2,3] U ?_⟩)))
  refine dt 21 U (λc2=>?_) (λc2=>?_)
  .exact tk 4 U U (qR 5 19 U (aN kr (hk1 _ ⟨U,U,U,U,U,(cb (show true=(((!(iy y1))||(decide (0<(i1:Int))&&decide (y1.No<=(nthI l ((i1:Int)-1)).No)))||(!(fH (ay l) y1)))from by rw[c2]<;>rfl)),trivial⟩)))
  refine qR 4 3 U ?_
  refine dt 24 U (λc3=>?_) (λc3=>?_)
  .have c3p:=of_decide_eq_true c3
   refine qB [7] U (tf 8 U U (rj 0 ty3 U U U) (qA [9,10] U (tf 11 U U (λ_ _ _=>ny (v':=I ((i1:Int)-1)) U (jc ob)) ?_)))
   have ho2:0<=(((i1:Int)-1):Int)/\(((i1:Int)-1):Int)<((l).length:Int):=ob
   refine km 12 eF jn rC ty70 (hl.mono vR hle1).1 ho2 (dy ho2) U U U U kr (λq4 cs4 A4 ln4 rr5=>?_)
   obtain⟨r4,rfl,ok5⟩:=rr5
   refine qB [13] U (tf 14 U U (rh ty3 A4 U) (qR 15 4 U ?_))
   refine dt 36 U (λc4=>?_) (λc4=>?_)
   .have c4p:=of_decide_eq_true c4
    exact tk 19 U U (qR 20 4 U (aN kr (hk1 _ ⟨U,U,U,U,U,(cb (show true=(((!(iy y1))||(decide (0<(i1:Int))&&decide (y1.No<=(nthI l ((i1:Int)-1)).No)))||(!(fH (ay l) y1)))from by rw[c2,c3,c4]<;>rfl)),trivial⟩)))
   have c4p:=of_decide_eq_false c4
   exact tf 19 U U (λ_ _ hj=>jZ ty167 U (hj.nth (i:=1) U) U) (tf 20 U U (λ_ _ hj=>jZ ty70 U (hj.nth (i:=0) U) U) (tn 21 U (fg call105 (py _ _ _ _ _ ok1 ok4) U (⟨jn,qA [22,23] U (aN kr (hk1 _ ⟨U,U,U,U,U,(cb (show(!(fH (ay l) y1))=(((!(iy y1))||(decide (0<(i1:Int))&&decide (y1.No<=(nthI l ((i1:Int)-1)).No)))||(!(fH (ay l) y1)))from by rw[c2,c3,c4]<;>rfl)),trivial⟩))⟩))))
  have c3p:=of_decide_eq_false c3
  exact tk 7 U U (qR 8 11 U (tf 19 U U (λ_ _ hj=>jZ ty167 U (hj.nth (i:=1) U) U) (tf 20 U U (λ_ _ hj=>jZ ty70 U (hj.nth (i:=0) U) U) (tn 21 U (fg call105 (py _ _ _ _ _ ok1 ok4) U (⟨jn,qA [22,23] U (aN kr (hk1 _ ⟨U,U,U,U,U,(cb (show(!(fH (ay l) y1))=(((!(iy y1))||(decide (0<(i1:Int))&&decide (y1.No<=(nthI l ((i1:Int)-1)).No)))||(!(fH (ay l) y1)))from by rw[c2,c3]<;>rfl)),trivial⟩))⟩))))))
 refine ae hs6 U (λc5 hs7=>?_) (λc5 hs8=>?_)
 .exact sr (an (nretP [I 170] (ci hs7)))
 exact aQ (qT 2 U (oi i1 U (qO 2 U (bj (L':=[z1]) js (ag1 hs8)))))
theorem wm(h:HF)(eS:Int)(v0:Int)(v0_q:Addr)(av0:At h v0_q [I v0]):Ret prog 229 [I eS,.pointer (some v0_q)] h (.bool (iu eS v0)):=by
 refine sT func229 U ntmps229 U λX hM hX hF=>?_
 have hs0:=@rfl _ (iu eS v0)
 refine qT 9 U (cn 4 [6,7,8,9,10] 6 10 (decide (v0<eS)) U (λc1 hk1=>?_) (λe=>?_))
 .exact ao (de ty3 av0 U (qO 2 U (hk1 _ U)))
 exact an (nretP [.bool (decide (eS<0)||decide (v0<eS))] (cs hs0))
theorem jb(h:HF)(most:Int)(l:List Int)(fq:Option Addr)(fp:Nat)(hl:SlC zC h fq fp l):Ret prog 178 [I most,.slice fq l.length fp] h (.bool (dw most l)):=by
 refine sT func178 U ntmps178 U λX hM hX hF=>?_
 have hs0:=@rfl _ (dw most l)
 exact sr (ct (λb1=>qO 5 U (aP 0 U hM (λh1 hle1 hb1=>aw (dS U U (ai Iq (gT _ _ _ _ (λcj=>iu cj most) (.func (.func 229) #[] #[Q b1]) (hl.mono zH hle1) (λh' cj hle=>im call229 (wm h' cj most ⟨b1,0,none⟩  ((bI hb1).mono hle)))) U (qO 3 U (nretP [.bool (!(da l (λcj=>iu cj most)))] (cs hs0)))))))))
theorem Af(h:HF)(x:Approval)  : Ret prog 106 [.agg (zD x).toArray] h (.bool (jr x)):=by
 refine sT func106 U ntmps106 U λX hM hX hF=>?_
 have hs0:=@rfl _ (jr x)
 refine sr (ct (λb1=>qL 6 [0] U (aw (bB (cells:=[I x.No]) eG ty3 zc3 U U kr (λb2=>aP 0 U hM (λh1 hle1 hb1=>?_))))))
 have sl1:SlC zC h1 (some ⟨b2,0,none⟩) 1 ([x.No]):=bP.slB0 (T:=3) (fz:=(0,0)) ((show bP zC h [I x.No] ([x.No])from⟨[I x.No],[],rfl,rfl,rfl,rfl⟩).mono zH hle1) hb1
 refine ai Gb (jb _ 1048576 _ _ _ sl1) U (ao (bD 7 [7,8,9,10,11,12,13,14] 7 14 (dw 1099511627775 ([x.At,x.Known])) U (λc1 hk1=>?_) (λe=>?_)))
 .refine qL 4 [0,0] U (aw (bB (cells:=[I x.At,I x.Known]) eG ty3 zc3 U U kr (λb3=>aP 0 U hM (λh2 hle2 hb2=>?_))))
  have sl2:SlC zC h2 (some ⟨b3,0,none⟩) 2 ([x.At,x.Known]):=bP.slB0 (T:=3) (fz:=(0,0)) ((show bP zC h1 [I x.At,I x.Known] ([x.At,x.Known])from⟨[I x.At],[I x.Known],rfl,rfl,rfl,⟨[I x.Known],[],rfl,rfl,rfl,rfl⟩⟩).mono zH hle2) hb2
  exact ai Gb (jb _ 1099511627775 _ _ _ sl2) U (eM U (kI (h:=h1) hle2 hX hle1 (hk1 _ U)))
 refine ao (bD 5 [15,16,17,18,19,20] 15 20 (dw 4095 ([x.Doc])) U (λc2 hk2=>?_) (λe=>?_))
 .refine qL 2 [0] U (aw (bB (cells:=[I x.Doc]) eG ty3 zc3 U U kr (λb4=>aP 0 U hM (λh3 hle3 hb3=>?_))))
  have sl3:SlC zC h3 (some ⟨b4,0,none⟩) 1 ([x.Doc]):=bP.slB0 (T:=3) (fz:=(0,0)) ((show bP zC h1 [I x.Doc] ([x.Doc])from⟨[I x.Doc],[],rfl,rfl,rfl,rfl⟩).mono zH hle3) hb3
  exact ai Gb (jb _ 4095 _ _ _ sl3) U (eM U (kI (h:=h1) hle3 hX hle1 (hk2 _ U)))
 refine ao (bD 7 [21,22,23,24,25,26,27,28] 21 28 (dw 63 ([x.By,x.For])) U (λc3 hk3=>?_) (λe=>?_))
 .refine qL 4 [0,0] U (aw (bB (cells:=[I x.By,I x.For]) eG ty3 zc3 U U kr (λb5=>aP 0 U hM (λh4 hle4 hb4=>?_))))
  have sl4:SlC zC h4 (some ⟨b5,0,none⟩) 2 ([x.By,x.For]):=bP.slB0 (T:=3) (fz:=(0,0)) ((show bP zC h1 [I x.By,I x.For] ([x.By,x.For])from⟨[I x.By],[I x.For],rfl,rfl,rfl,⟨[I x.For],[],rfl,rfl,rfl,rfl⟩⟩).mono zH hle4) hb4
  exact ai Gb (jb _ 63 _ _ _ sl4) U (eM U (kI (h:=h1) hle4 hX hle1 (hk3 _ U)))
 refine ao (bD 5 [29,30,31,32,33,34] 29 34 (dw 31 ([x.Office])) U (λc4 hk4=>?_) (λe=>?_))
 .refine qL 2 [0] U (aw (bB (cells:=[I x.Office]) eG ty3 zc3 U U kr (λb6=>aP 0 U hM (λh5 hle5 hb5=>?_))))
  have sl5:SlC zC h5 (some ⟨b6,0,none⟩) 1 ([x.Office]):=bP.slB0 (T:=3) (fz:=(0,0)) ((show bP zC h1 [I x.Office] ([x.Office])from⟨[I x.Office],[],rfl,rfl,rfl,rfl⟩).mono zH hle5) hb5
  exact ai Gb (jb _ 31 _ _ _ sl5) U (eM U (kI (h:=h1) hle5 hX hle1 (hk4 _ U)))
 exact an (nretP [.bool (((((dw 1048576 ([x.No]))&&(dw 1099511627775 ([x.At,x.Known])))&&(dw 4095 ([x.Doc])))&&(dw 63 ([x.By,x.For])))&&(dw 31 ([x.Office])))] (cs hs0))
theorem sR(h:HF)(l:List Approval)(fq:Option Addr)(fp:Nat)(hl:SlC Approval.rp h fq fp l):Ret prog 54 [.slice fq l.length fp] h (I (bX l)):=by
 refine sT func54 U ntmps54 U λX hM hX hF=>?_
 have hs0:=@rfl _ (bX l)
 refine qK 11 [] U (ae hs0 U (λc1 hs1=>?_) (λc1 hs2=>?_))
 .have c1p:=of_decide_eq_true c1
  exact sr (an (nretP [I 2] (ci hs1)))
 have c1p:=of_decide_eq_false c1
 refine qK 12 [] U ?_
 refine lp1 l (λi w=>[(3,I w),(9,.slice fq l.length fp),(10,I (l.length:Int)),(11,I (i:Int))]) ([]) (λs1 i w=>(bX.L1 (bX.K1)) s1 w) (-1) hl.1.1 hs2 ?_ ?_
 .rintro i1 gZ fB hs4 e
  exact sr (an (nretP [I 0] (ci hs4)))
 rintro i1 gZ y1 rz1 hd1 du bo eA gD hs6 hx1 ag1 e
 refine sr (tO du U (qO 8 U (aw (iF zD Ai ty163 hl.1 bo U U U (λq2 A2=>dl ty163 A2 U U (aU zc163 (λb2=>aR 0 ty163 U U U U U U (qO 4 U (cI 0 ty163 U U U (ai call106 (Af h y1) U (qO 2 U (cn 5 [18,19,20,21,22,23] 18 23 (decide (y1.No<=gZ)) U (λc2 hk1=>?_) (λe=>?_)))))))))))))
 .exact qL 5 [0] U (hk1 _ U)
 refine aH (ae hs6 U (λc3 hs7=>?_) (λc3 hs8=>?_))
 .exact sr (an (nretP [I 280] (ci hs7)))
 exact qK 8 [0] U (oi i1 U (qO 2 U (bj (L':=[]) js (ag1 y1.No hs8))))
theorem sB(h:HF)(bG:Register)(dW:eN)(kW:qP h bG dW)(hsm:smR bG)(hk:Kinds h):Ret prog 19 [.agg (jF bG dW).toArray] h (I (et bG)):=by
 refine sT func19 U ntmps19 U λX hM hX hF=>?_
 have hs0:=@rfl _ (et bG)
 have hsv:=hsm.vers
 refine sr (ct (λb1=>qO 4 U ?_))
 let z1:Nat×Obj:=(b1,O (jF bG dW) 30)
 refine eQ ([z1]) mixed kr jn (λeF _=>?_)
 refine qB [0] U (tf 1 U U (rj 0 ty22 U U U) (qB [3] U (tf 4 U U (rj 0 ty23 U U U) (qB [6] U (tf 7 U U (rj 0 ty24 U U U) (qB [9] U (tf 10 U U (rj 0 ty25 U U U) (qB [12] U (tf 13 U U (rj 0 ty26 U U U) (qB [15] U (tf 16 U U (rj 0 ty27 U U U) (qB [18] U (tf 19 U U (rj 0 ty28 U U U) (tm 23 U (tn 2 U (fg call48 (pY _ _ _ _ kW.Appoints) U (⟨jn,tn 5 U (fg call49 (tK _ _ _ _ kW.Deputies) U (⟨jn,tn 8 U (fg call50 (sE _ _ _ _ kW.Interests) U (⟨jn,tn 11 U (fg call51 (uD _ _ _ _ kW.Budgets) U (⟨jn,tn 14 U (fg call52 (qw _ _ _ _ kW.Versions ob hk) U (⟨jn,(tn 17 U (fg call53 (oH _ _ _ _ kW.Docs) U (⟨jn,(tn 20 U (fg call54 (sR _ _ _ _ kW.Approvals) U (⟨jn,(tn 21 U (bB (cells:=[I (dq bG.Appoints),I (dH bG.Deputies),I (dh bG.Interests),I (cR bG.Budgets),I (bJ bG.Versions),I (bz bG.Docs),I (bX bG.Approvals)]) underlying110 ty37 zc37 U U kr (λb2=>⟨jn,(tf 22 U U (λ_ _ _=>Gq underlying110 U) (aN kr (eO 0 U hM (λh1 hle1 hb1=>?_))))⟩)))⟩)))⟩)))⟩))⟩))⟩))⟩))⟩)))))))))))))))))
 have sl1:SlC zC h1 (some ⟨b2,0,none⟩) 7 ([(dq bG.Appoints),(dH bG.Deputies),(dh bG.Interests),(cR bG.Budgets),(bJ bG.Versions),(bz bG.Docs),(bX bG.Approvals)]):=bP.slB0 (T:=37) (fz:=(0,0)) ((show bP zC h [I (dq bG.Appoints),I (dH bG.Deputies),I (dh bG.Interests),I (cR bG.Budgets),I (bJ bG.Versions),I (bz bG.Docs),I (bX bG.Approvals)] ([(dq bG.Appoints),(dH bG.Deputies),(dh bG.Interests),(cR bG.Budgets),(bJ bG.Versions),(bz bG.Docs),(bX bG.Approvals)])from⟨[I (dq bG.Appoints)],[I (dH bG.Deputies),I (dh bG.Interests),I (cR bG.Budgets),I (bJ bG.Versions),I (bz bG.Docs),I (bX bG.Approvals)],rfl,rfl,rfl,⟨[I (dH bG.Deputies)],[I (dh bG.Interests),I (cR bG.Budgets),I (bJ bG.Versions),I (bz bG.Docs),I (bX bG.Approvals)],rfl,rfl,rfl,⟨[I (dh bG.Interests)],[I (cR bG.Budgets),I (bJ bG.Versions),I (bz bG.Docs),I (bX bG.Approvals)],rfl,rfl,rfl,⟨[I (cR bG.Budgets)],[I (bJ bG.Versions),I (bz bG.Docs),I (bX bG.Approvals)],rfl,rfl,rfl,⟨[I (bJ bG.Versions)],[I (bz bG.Docs),I (bX bG.Approvals)],rfl,rfl,rfl,⟨[I (bz bG.Docs)],[I (bX bG.Approvals)],rfl,rfl,rfl,⟨[I (bX bG.Approvals)],[],rfl,rfl,rfl,rfl⟩⟩⟩⟩⟩⟩⟩).mono zH hle1) hb1
 refine iA (ι:=Nat) (λi=>[]) (λi=>h1) (λi=>[z1]) (λi=>i<=(jJ 7).length/\et bG=((et.K1))) ?_ (λhx1=>?_)
 .rintro i1 ⟨fB,hs1⟩ e
  exact sr (an (nretP [I 0] (ci hs1)))
 refine kl (ι:=Nat×List Nat) (λi=>[(26,.slice (some ⟨b2,0,none⟩) 7 7),(27,I 7),(28,I (i.1:Int))]) (λi=>h1) (λi=>[z1]) (λi=>(jJ 7).drop i.1=i.2/\i.1<=(jJ 7).length/\et bG=((et.L1 bG (et.K1)) i.2 i.1)) (λi=>i.2.length) (0,(jJ 7)) rd sw ⟨U,vM _,hs0⟩ ?_
 rintro⟨i1,s1⟩ ⟨hd1,fB,hs3⟩ ag1 e
 rcases s1 with _|⟨y1,rz1⟩
 .have iw:decide ((i1:Int)<7)=false:=by simpa using oI hd1
  exact sr (fO iw U (qO 4 U (hx1 i1 _ ⟨fB,hs3⟩ trivial)))
 have du:decide ((i1:Int)<7)=true:=by simpa using tJ hd1
 have eA:i1<7:=by simpa using jv hd1
 refine sr (tO du U (qO 8 U ?_))
 have ho2:0<=((i1:Int):Int)/\((i1:Int):Int)<(([(dq bG.Appoints),(dH bG.Deputies),(dh bG.Interests),(cR bG.Budgets),(bJ bG.Versions),(bz bG.Docs),(bX bG.Approvals)]).length:Int):=ob
 refine aw (oY (enc:=λy=>[I y]) ei underlying110 ty37 sl1.1 ho2 (dy ho2) U U U (λq2 A2=>de ty37 A2 U (qO 7 U (ae hs3 U (λc2 hs5=>?_) (λc2 hs6=>?_)))))
 .exact sr (an (nretP [I 300] (ci hs5)))
 exact aQ (qT 2 U (oi i1 U (qO 2 U (ag1 ((i1+1),rz1) _ (Nat.lt_succ_self _) ⟨mY hd1,jv hd1,hs6⟩ rd))))
theorem Bq(h:HF)(t:Int)  : Ret prog 34 [I t] h (.bool (mH t)):=by
 refine sT func34 U ntmps34 U λX hM hX hF=>?_
 have hs0:=@rfl _ (mH t)
 refine qT 9 U (bD 3 [5,6,7,8] 5 8 (decide (t<1099511627776)) U (λc1 hk1=>?_) (λe=>?_))
 .exact ao (qO 2 U (hk1 _ U))
 exact an (nretP [.bool (decide (0<=t)&&decide (t<1099511627776))] (cs hs0))
theorem jo(h:HF)(s:List Document)(pU:Option Addr)(pI:Nat)(f:(Document->Bool))(f_v:Value)(hs:SlC RV h pU pI s)(hf:∀(h':HF)(cj:Document)(wq:iC),kK h h'->cj∈s->R8 h' cj wq->sZ prog f_v [.agg (vQ cj wq).toArray] h' [] (.bool (f cj))):Ret prog 63 [.slice pU s.length pI,f_v] h (I (ad s f)):=by
 refine sT func63 U ntmps63 U λX hM hX hF=>?_
 have hs0:=@rfl _ (ad s f)
 refine qK 11 [] U ?_
 refine lp0 s (λi=>[(0,.slice pU s.length pI),(1,f_v),(7,I (s.length:Int)),(8,I (i:Int))]) ([]) (λs1 i=>(ad.L1 f (ad.K1)) s1 i) hs.1.1 hs0 ?_ ?_
 .rintro i1 fB hs1 e
  exact sr (an (nretP [I (-1)] (ci hs1)))
 rintro i1 y1 rz1 hd1 du bo eA gD hs3 hx1 ag1 e
 refine sr (tO du U (qO 16 U (aw (iR rC ty70 hs.1 bo U U U (λ_ _ _ e=>e) (λq2 r2 A2 ok2=>dl ty70 A2 U U (aw (lX (v:=.bool (f y1)) [] (List.nil_sublist _) (hf h y1 r2 lf (fS hd1) ok2) U U (aH (ae hs3 U (λc2 hs4=>?_) (λc2 hs5=>?_))))))))))
 .exact sr (qO 3 U (nretP [I (i1:Int)] (ci hs4)))
 exact aQ (qT 2 U (oi i1 U (qO 2 U (ag1 hs5))))
theorem uy(s:List Document)(f:Document->Bool):ad s f<(s.length:Int):=by
 have key:∀(l:List Document)(i:Nat),ad.L1 f ad.K1 l i<((i+l.length:Nat):Int):=by
  intro l
  induction l with
  |nil=>intro i;simp only[ad.L1,ad.K1];omega
  |cons y l ih=>
   intro i
   simp only[ad.L1,Bool.cond_eq_ite,zA]
   split
   .omega
   have:=ih (i+1);omega
 have:=key s 0
 simpa[ad]using this
theorem F3(h:HF)(d:Document)(GV:iC)(v0:Int)(v0_q:Addr)(hd:R8 h d GV)(av0:At h v0_q [I v0]):Ret prog 76 [.agg (vQ d GV).toArray,.pointer (some v0_q)] h (.bool (cv d v0)):=by
 refine sT func76 U ntmps76 U λX hM hX hF=>?_
 have hs0:=@rfl _ (cv d v0)
 exact sr (ct (λb1=>qL 6 [0] U (de ty3 av0 U (qO 3 U (nretP [.bool (d.No==v0)] (cs hs0))))))
theorem C6(h:HF)(bG:Register)(dW:eN)(doc:Int)(known:Int)(kW:qP h bG dW):jY prog 30 [.agg (jF bG dW).toArray,I doc,I known] h (λv h'=>∃(rr0:gK),v=.tuple #[.agg (aD.cells ((dx bG doc known).1) rr0).toArray,.bool ((dx bG doc known).2)]/\aD.ok h' ((dx bG doc known).1) rr0):=by
 refine cD func30 U ntmps30 U λX hM hX=>?_
 have hs0:=@rfl _ (dx bG doc known)
 refine sr (ct (λb1=>ct (λb2=>aU zc79 (λb3=>qL 6 [2] U (aP 1 U hM (λh1 hle1 hb1=>aw (dS U U (ai M8 (jo _ _ _ _ (λcj=>cv cj doc) (.func (.func 76) #[] #[Q b2]) (kW.Docs.mono vR hle1) (λh' cj wq hle My a0_o=>im call76 (F3 h' cj wq doc ⟨b2,0,none⟩ a0_o ((bI hb1).mono hle)))) U (qO 8 U (cn 4 [15,16,17,18,19] 15 19 (!(mH known)) U (λc1 hk1=>?_) (λe=>?_)))))))))))
 .exact ao (ai call34 (Bq h1 known) U (qO 2 U (hk1 _ U)))
 refine aH (ae hs0 U (λc2 hs1=>?_) (λc2 hs2=>?_))
 .refine sr (cI 0 ty79 U U U (aR 0 ty79 U U U U U U (an ?_)))
  have hs3:dx bG doc known=((aD.mk (qQ ([]) ([]) ([]) ([]) ([]) ([]) ([])) (SR 0 0 0 0 0 0 ([]) ([]) ([]) (λ_=>0)) 0),false):=hs1
  exact il [.agg (aD.cells (aD.mk (qQ ([]) ([]) ([]) ([]) ([]) ([]) ([])) (SR 0 0 0 0 0 0 ([]) ([]) ([]) (λ_=>0)) 0) (gK.mk (eN.mk none 0 none 0 none 0 none 0 none 0 none 0 none 0) (iC.mk none 0 none 0 none 0))).toArray,.bool false] func30 U ⟨⟨0,_,_,_,_,U,U,.inl ⟨ty79,U⟩⟩,U,trivial⟩ ⟨(gK.mk (eN.mk none 0 none 0 none 0 none 0 none 0 none 0 none 0) (iC.mk none 0 none 0 none 0)),congrArg (λr:(aD×Bool)=>(.tuple #[.agg (aD.cells r.1 (gK.mk (eN.mk none 0 none 0 none 0 none 0 none 0 none 0 none 0) (iC.mk none 0 none 0 none 0))).toArray,.bool r.2]:Value)) hs3.symm,(by rw[hs3];exact(show aD.ok h1 (aD.mk (qQ ([]) ([]) ([]) ([]) ([]) ([]) ([])) (SR 0 0 0 0 0 0 ([]) ([]) ([]) (λ_=>0)) 0) (gK.mk (eN.mk none 0 none 0 none 0 none 0 none 0 none 0 none 0) (iC.mk none 0 none 0 none 0))from⟨(show qP h1 (qQ ([]) ([]) ([]) ([]) ([]) ([]) ([])) (eN.mk none 0 none 0 none 0 none 0 none 0 none 0 none 0)from⟨zF,zF,zF,zF,zF,zF,zF⟩),(show R8 h1 (SR 0 0 0 0 0 0 ([]) ([]) ([]) (λ_=>0)) (iC.mk none 0 none 0 none 0)from⟨zF,zF,zF⟩)⟩))⟩
 refine qT 2 U ?_
 let z1:Nat×Obj:=(b1,O (jF bG dW) 30)
 refine eQ ([z1]) mixed kr jn (λeF _=>?_)
 refine tf 0 U U (λ_ _ hj=>jZ ty30 U (hj.nth (i:=0) U) U) (qB [1] U (tf 2 U U (rj 0 ty27 U U U) (tm 3 U ?_)))
 have ho1:0<=((ad bG.Docs (λcj=>cv cj doc)):Int)/\((ad bG.Docs (λcj=>cv cj doc)):Int)<((bG.Docs).length:Int):=(by have:=uy bG.Docs (λcj=>cv cj doc);simp only[decide_eq_true_eq,decide_eq_false_iff_not,jB,xD,kC,Bool.not_eq_false',Bool.and_eq_false_iff,Bool.or_eq_false_iff,beq_iff_eq,beq_eq_false_iff_ne,bne_iff_ne,bne_eq_false_iff_eq,kA,zA,vB,List.length_drop]at *;omega)
 refine km 4 eF jn rC ty70 (kW.Docs.mono vR hle1).1 ho1 (dy ho1) U U U U kr (λq1 cs1 A1 ln1 rr1=>?_)
 obtain⟨r1,rfl,ok1⟩:=rr1
 refine tf 5 U U (λ_ _ hj=>kU ty70 (A1.mono hj.1) U U) (tm 6 U (tn 7 U (eY (cells:=[.slice dW.lO bG.Appoints.length dW.lN,.slice dW.mp bG.Deputies.length dW.mn,.slice dW.mg bG.Interests.length dW.mf,.slice dW.m8 bG.Budgets.length dW.m7,.slice dW.kc bG.Versions.length dW.kb,.slice dW.uk bG.Docs.length dW.uj,.slice dW.lA bG.Approvals.length dW.ly,I ((nthI bG.Docs (ad bG.Docs (λcj=>cv cj doc))).No),I ((nthI bG.Docs (ad bG.Docs (λcj=>cv cj doc))).At),I ((nthI bG.Docs (ad bG.Docs (λcj=>cv cj doc))).Kind),I ((nthI bG.Docs (ad bG.Docs (λcj=>cv cj doc))).Value),I ((nthI bG.Docs (ad bG.Docs (λcj=>cv cj doc))).From),I ((nthI bG.Docs (ad bG.Docs (λcj=>cv cj doc))).Until),.slice r1.rU ((nthI bG.Docs (ad bG.Docs (λcj=>cv cj doc))).Parties.length) r1.rT,.slice r1.oV ((nthI bG.Docs (ad bG.Docs (λcj=>cv cj doc))).Revokes.length) r1.oU,.slice r1.yn ((nthI bG.Docs (ad bG.Docs (λcj=>cv cj doc))).Needs.length) r1.ym,Y ((nthI bG.Docs (ad bG.Docs (λcj=>cv cj doc))).Text 0),Y ((nthI bG.Docs (ad bG.Docs (λcj=>cv cj doc))).Text 1),Y ((nthI bG.Docs (ad bG.Docs (λcj=>cv cj doc))).Text 2),Y ((nthI bG.Docs (ad bG.Docs (λcj=>cv cj doc))).Text 3),Y ((nthI bG.Docs (ad bG.Docs (λcj=>cv cj doc))).Text 4),Y ((nthI bG.Docs (ad bG.Docs (λcj=>cv cj doc))).Text 5),Y ((nthI bG.Docs (ad bG.Docs (λcj=>cv cj doc))).Text 6),Y ((nthI bG.Docs (ad bG.Docs (λcj=>cv cj doc))).Text 7),Y ((nthI bG.Docs (ad bG.Docs (λcj=>cv cj doc))).Text 8),Y ((nthI bG.Docs (ad bG.Docs (λcj=>cv cj doc))).Text 9),Y ((nthI bG.Docs (ad bG.Docs (λcj=>cv cj doc))).Text 10),Y ((nthI bG.Docs (ad bG.Docs (λcj=>cv cj doc))).Text 11),Y ((nthI bG.Docs (ad bG.Docs (λcj=>cv cj doc))).Text 12),Y ((nthI bG.Docs (ad bG.Docs (λcj=>cv cj doc))).Text 13),Y ((nthI bG.Docs (ad bG.Docs (λcj=>cv cj doc))).Text 14),Y ((nthI bG.Docs (ad bG.Docs (λcj=>cv cj doc))).Text 15),Y ((nthI bG.Docs (ad bG.Docs (λcj=>cv cj doc))).Text 16),Y ((nthI bG.Docs (ad bG.Docs (λcj=>cv cj doc))).Text 17),Y ((nthI bG.Docs (ad bG.Docs (λcj=>cv cj doc))).Text 18),Y ((nthI bG.Docs (ad bG.Docs (λcj=>cv cj doc))).Text 19),Y ((nthI bG.Docs (ad bG.Docs (λcj=>cv cj doc))).Text 20),Y ((nthI bG.Docs (ad bG.Docs (λcj=>cv cj doc))).Text 21),Y ((nthI bG.Docs (ad bG.Docs (λcj=>cv cj doc))).Text 22),Y ((nthI bG.Docs (ad bG.Docs (λcj=>cv cj doc))).Text 23),Y ((nthI bG.Docs (ad bG.Docs (λcj=>cv cj doc))).Text 24),Y ((nthI bG.Docs (ad bG.Docs (λcj=>cv cj doc))).Text 25),Y ((nthI bG.Docs (ad bG.Docs (λcj=>cv cj doc))).Text 26),Y ((nthI bG.Docs (ad bG.Docs (λcj=>cv cj doc))).Text 27),Y ((nthI bG.Docs (ad bG.Docs (λcj=>cv cj doc))).Text 28),Y ((nthI bG.Docs (ad bG.Docs (λcj=>cv cj doc))).Text 29),Y ((nthI bG.Docs (ad bG.Docs (λcj=>cv cj doc))).Text 30),Y ((nthI bG.Docs (ad bG.Docs (λcj=>cv cj doc))).Text 31),I known]) (places:=[(0,7),(7,41),(48,1)]) underlying79 zc79 kr kr ?_)))
 refine⟨jn,(tn 8 U (qm 0 ty79 U U U U U U (⟨jn,(qA [9] U (aN kr ?_))⟩)))⟩
 have hs4:dx bG doc known=((aD.mk bG (nthI bG.Docs (ad bG.Docs (λcj=>cv cj doc))) known),true):=hs2
 exact il [.agg (aD.cells (aD.mk bG (nthI bG.Docs (ad bG.Docs (λcj=>cv cj doc))) known) (gK.mk dW r1)).toArray,.bool true] func30 U ⟨⟨0,_,_,_,_,U,U,.inl ⟨ty79,U⟩⟩,U,trivial⟩ ⟨(gK.mk dW r1),congrArg (λr:(aD×Bool)=>(.tuple #[.agg (aD.cells r.1 (gK.mk dW r1)).toArray,.bool r.2]:Value)) hs4.symm,(by rw[hs4];exact(show aD.ok h1 (aD.mk bG (nthI bG.Docs (ad bG.Docs (λcj=>cv cj doc))) known) (gK.mk dW r1)from⟨(kW.mono hle1),ok1⟩))⟩
theorem Fo(h:HF)(who:List Int)(gF:Option Addr)(gE:Nat)(hwho:SlC zC h gF gE who):Ret prog 31 [.slice gF who.length gE] h (.bool (iQ who)):=by
 refine sT func31 U ntmps31 U λX hM hX hF=>?_
 have hs0:=@rfl _ (iQ who)
 refine qK 15 [] U ?_
 refine lp1 who (λi w=>[(3,I w),(6,.slice gF who.length gE),(7,I (who.length:Int)),(8,I (i:Int))]) ([]) (λs1 i w=>(iQ.L1 (iQ.K1)) s1 w) (-1) hwho.1.1 hs0 ?_ ?_
 .rintro i1 gZ fB hs1 e
  exact sr (an (nretP [.bool true] (cs hs1)))
 rintro i1 gZ y1 rz1 hd1 du bo eA gD hs3 hx1 ag1 e
 refine sr (tO du U (qO 8 U (aw (iF (λy=>[I y]) eG ty3 hwho.1 bo U U U (λq2 A2=>de ty3 A2 U (qO 9 U (cn 3 [15,16,17,18] 15 18 (decide (64<=y1)) U (λc1 hk1=>?_) (λe=>?_))))))))
 .exact ao (qO 2 U (hk1 _ U))
 refine aH (ae hs3 U (λc2 hs4=>?_) (λc2 hs5=>?_))
 .exact sr (an (nretP [.bool false] (cs hs4)))
 exact aQ (qT 6 U (oi i1 U (qO 2 U (ag1 y1 hs5))))
end
variable {κ:Type}
section
open Go.Proofs Go.Proofs.Tryz
theorem pF.length{κ α : Type}{enc:κ->Value}{V:HF->Value->α->Prop}{h:HF}:∀{es:List MapEntry}{m:List (κ×α)},pF enc V h es m->es.length=m.length
 |[],[],_=>rfl
 |_::_,(_,_)::_,⟨_,_,c⟩=>by simp[pF.length c]
 |[],_::_,x=>x.elim
 |_::_,[],x=>x.elim
theorem uW[Inhabited κ](ks:List κ)(is:List Nat)(hn:is.Nodup)(hlt:∀i∈is,i<ks.length)(hall:∀i,i<ks.length->i∈is):(is.map λi=>(ks[i]?).getD default).Perm ks:=by
 have h1:is.Perm (jJ ks.length):=(List.perm_ext_iff_of_nodup hn List.nodup_range).2 (λi=>by rw[List.mem_range];exact⟨hlt i,hall i⟩)
 refine(h1.map _).trans (List.Perm.of_eq ?_)
 apply List.ext_getElem (by simp)
 intro i h2 h3
 simp at h2
 simp[vF h2]
theorem wT[Inhabited κ](ks:List κ)(is:List Nat)(hn:is.Nodup)(hlt:∀i∈is,i<ks.length):∃rest,((is.map λi=>(ks[i]?).getD default)++rest).Perm ks:=by
 let js:=(jJ ks.length).filter λi=>!is.contains i
 have hd:(is++js).Nodup:=by
  rw[Sn]
  refine⟨hn,List.nodup_range.filter _,λa ha b hb e=>?_⟩
  subst e
  simp[js]at hb
  exact hb.2 ha
 refine⟨js.map λi=>(ks[i]?).getD default,?_⟩
 rw[←xW]
 refine uW ks (is++js) hd (λi hi=>?_) (λi hi=>?_)
 .rcases xH.1 hi with h|h
  .exact hlt i h
  .simp[js]at h;exact h.1
 .by_cases hm:i∈is
  .exact List.mem_append_left _ hm
  .exact List.mem_append_right _ (by simp[js,hi,hm])
theorem yy(h:HF)(m:List (Int×Bool))(bk:Nat)(q:Addr)(hm:re (xB .i64) j0 h bk m)(aq:At h q [.map (some bk)]):
  Cj prog (.func (.func 127) #[] #[.pointer (some q)]) (λk _ vs=>vs=[(xB .i64) k]) (λxs=>xs.Perm (m.map (·.1))) h:=by
 refine⟨127,[.pointer (some q)],rfl,call127,?_⟩
 intro yf ya yb C Sp Pn h1 A hle m1 m2 m3 hC hy
 obtain⟨o,hb,m0,hpm,hnd0,es,clock,rfl,hE,hP,hcl⟩:=hm.mono j0.mono hle
 have hnod:(es.map (·.born)).Nodup:=hP.imp (λh=>Nat.ne_of_lt h)
 have hkeys:=hE.keys
 have hlen:es.length=(m0.map (·.1)).length:=by rw[hE.length];simp
 let ks:=m0.map (·.1)
 let kf:Nat->Int:=λi=>(ks[i]?).getD default
 let bf:Nat->Nat:=λi=>(es[i]?.map (·.born)).getD 0
 have hkey:∀(i:Nat)(en:MapEntry),es[i]? = some en->en.key=(xB .i64) (kf i):=by
  intro i en hi
  have h2:(es.map (·.key))[i]? = some en.key:=by simp[hi]
  rw[hkeys]at h2
  simp only[xV]at h2
  simp only[kf,ks,xV]
  cases hq:m0[i]? with
  |none=>rw[hq]at h2;simp at h2
  |some p=>rw[hq]at h2;simp at h2;simp[←h2]
 refine lV (args:=[.func yf ya yb]) (cap:=[.pointer (some q)]) call127 ?_
 refine iN M7 rfl ntmps127 rfl λX hXM hX=>?_
 refine dJ (bu (de ty135 (aq.mono hle) rfl (aw (Hm rf hb rfl (λit=>aH ?_)))))
 refine iA (ι:=List Nat×LH×HF) (λi=>[]) (λi=>i.2.2) (λi=>[(it,Obj.mapIter (some bk) clock (kB (i.1.map bf)) clock)]++i.2.1) (λi=>(i.1.Nodup/\(∀j∈i.1,j<es.length)/\(∀j,j<es.length->j∈i.1))/\C (i.1.map kf) i.2.2 i.2.1) ?_ (λhx=>?_)
 .rintro⟨js,A1,h2⟩ ⟨⟨hn,hl,ha⟩,hC1⟩ e
  exact uN M7 (λa _ w _=>lK rfl a w) (λw hw=>hw.sub (List.sublist_append_right _ _)) (.inl ⟨rfl,.inl ⟨_,(uW ks js hn (λi hi=>by rw[←hlen];exact hl i hi) (λi hi=>ha i (by rw[hlen];exact hi))).trans (hpm.map _),hC1⟩⟩)
 refine kl (ι:=List Nat×LH×HF) (λi=>[(0,.func yf ya yb),(5,.pointer (some ⟨it,0,none⟩))]) (λi=>i.2.2) (λi=>[(it,Obj.mapIter (some bk) clock (kB (i.1.map bf)) clock)]++i.2.1) (λi=>i.1.Nodup/\(∀j∈i.1,j<es.length)/\C (i.1.map kf) i.2.2 i.2.1/\kK h1 i.2.2) (λi=>es.length-i.1.length) ([],A,h1) ⟨rfl,rfl,trivial⟩ (λw hw=>hw) ⟨kQ,λ_ hj=>(jA hj).elim,hC,jH _⟩ ?_
 rintro⟨js,A1,h2⟩ ⟨hn,hl,hC1,hle2⟩ ag e
 dsimp only at hn hl hC1 hle2
 have hlp:=w6 hnod js hl
 show TT _ _ _ _ _ (upds e [(0,.func yf ya yb),(5,.pointer (some ⟨it,0,none⟩))]) _ _ h2 ([(it,Obj.mapIter (some bk) clock (kB (js.map bf)) clock)]++A1)
 refine dJ (bu (aw (Kd 0 rfl (hle2 _ _ hb) (λx hx=>hcl x (by simpa using hx)) (xG _) rfl (λh0=>?_) (λen hen=>?_))))
 .refine mB rfl rfl (aH (dJ (np rfl (mr rfl ?_))))
  exact hx (js,A1,h2) _ ⟨⟨hn,hl,hlp.1 h0⟩,hC1⟩ trivial
 .obtain⟨i,hi,hni⟩:=hlp.2 en hen
  have hil:i<es.length:=by
   rcases vK i es.length with h3|h3
   .exact h3
   .simp[xJ h3]at hi
  have hmem:en∈es.toArray.toList:=by simpa using vE hi
  have hn':(js++[i]).Nodup:=by
   rw[Sn];exact⟨hn,by simp,λa ha b hb' e'=>by simp at hb';subst hb';subst e';exact hni ha⟩
  have hl':∀j∈js++[i],j<es.length:=λj hj=>by
   rcases xH.1 hj with h3|h3
   .exact hl j h3
   .simp at h3;subst h3;exact hil
  obtain⟨rest,hrest⟩:=wT ks (js++[i]) hn' (λj hj=>by rw[←hlen];exact hl' j hj)
  have wk:js.length+1<=es.length:=by
   have h9:=hrest.length_eq
   rw[kA,List.length_map,kA]at h9
   have h10:ks.length=es.length:=hlen.symm
   simp only[zA,vB]at h9
   omega
  have hrest':(js.map kf++kf i::rest).Perm (m.map (·.1)):=by
   rw[xW,qE]at hrest
   exact List.Perm.trans hrest (hpm.map _)
  obtain⟨ekey,evl,eborn⟩:=en
  have hk':ekey=(xB .i64) (kf i):=hkey i _ hi
  subst hk'
  refine mB rfl rfl (aH ?_)
  refine dJ (kY rfl (aQ (ll ?_)))
  refine dJ (bu ?_)
  refine aw (ff (Ht 0 rfl (hle2 _ _ hb) hmem (by simpa using hnod) rfl) ?_)
  refine mB rfl rfl (fU (aH ?_))
  refine dJ (bu (ao (ao ?_)))
  refine aw (j2 [(it,Obj.mapIter (some bk) clock ((kB (js.map bf)).push eborn) clock)] A1 rfl (hy (js.map kf) (kf i) [(xB .i64) (kf i)] h2 A1 ⟨rest,hrest'⟩ hle2 hC1 rfl) rfl rfl (λh3 B hle3 hC3=>?_) (λh3 B hle3 hS3=>?_) (λch h3 B hle3 hP3 e'=>?_))
  .refine lL rfl (aH (np rfl (aQ (eB ?_))))
   have hpush:((kB (js.map bf)).push eborn)=kB ((js++[i]).map bf):=by simp[bf,hi]
   rw[hpush]
   refine ag (js++[i],B,h3) _ (by show es.length-(js++[i]).length<es.length-js.length;rw[kA];simp only[zA,vB];omega) ⟨hn',hl',by simpa using hC3,qF hle2 hle3⟩ ⟨rfl,rfl,trivial⟩
  .refine lL rfl (aH (kY rfl ?_))
   exact m9 M7 (λa _ w _=>lK rfl a w) (λw hw=>hw.sub (List.sublist_append_right _ _)) (.inl ⟨rfl,.inr hS3⟩)
  .exact Ka M7 (λw hw=>hw.sub (List.sublist_append_right _ _)) (.inr ⟨ch,rfl,hP3⟩)
theorem uY(h:HF)(m:List (Int×Version))(bk:Nat)(q:Addr)(hm:re (xB .i64) (iY jQ) h bk m)(aq:At h q [.map (some bk)]):
  Cj prog (.func (.func 232) #[] #[.pointer (some q)]) (λk _ vs=>vs=[(xB .i64) k]) (λxs=>xs.Perm (m.map (·.1))) h:=by
 refine⟨232,[.pointer (some q)],rfl,call232,?_⟩
 intro yf ya yb C Sp Pn h1 A hle m1 m2 m3 hC hy
 obtain⟨o,hb,m0,hpm,hnd0,es,clock,rfl,hE,hP,hcl⟩:=hm.mono (iY.mono vV) hle
 have hnod:(es.map (·.born)).Nodup:=hP.imp (λh=>Nat.ne_of_lt h)
 have hkeys:=hE.keys
 have hlen:es.length=(m0.map (·.1)).length:=by rw[hE.length];simp
 let ks:=m0.map (·.1)
 let kf:Nat->Int:=λi=>(ks[i]?).getD default
 let bf:Nat->Nat:=λi=>(es[i]?.map (·.born)).getD 0
 have hkey:∀(i:Nat)(en:MapEntry),es[i]? = some en->en.key=(xB .i64) (kf i):=by
  intro i en hi
  have h2:(es.map (·.key))[i]? = some en.key:=by simp[hi]
  rw[hkeys]at h2
  simp only[xV]at h2
  simp only[kf,ks,xV]
  cases hq:m0[i]? with
  |none=>rw[hq]at h2;simp at h2
  |some p=>rw[hq]at h2;simp at h2;simp[←h2]
 refine lV (args:=[.func yf ya yb]) (cap:=[.pointer (some q)]) call232 ?_
 refine iN M6 rfl ntmps232 rfl λX hXM hX=>?_
 refine dJ (bu (de ty239 (aq.mono hle) rfl (aw (Hm M5 hb rfl (λit=>aH ?_)))))
 refine iA (ι:=List Nat×LH×HF) (λi=>[]) (λi=>i.2.2) (λi=>[(it,Obj.mapIter (some bk) clock (kB (i.1.map bf)) clock)]++i.2.1) (λi=>(i.1.Nodup/\(∀j∈i.1,j<es.length)/\(∀j,j<es.length->j∈i.1))/\C (i.1.map kf) i.2.2 i.2.1) ?_ (λhx=>?_)
 .rintro⟨js,A1,h2⟩ ⟨⟨hn,hl,ha⟩,hC1⟩ e
  exact uN M6 (λa _ w _=>lK rfl a w) (λw hw=>hw.sub (List.sublist_append_right _ _)) (.inl ⟨rfl,.inl ⟨_,(uW ks js hn (λi hi=>by rw[←hlen];exact hl i hi) (λi hi=>ha i (by rw[hlen];exact hi))).trans (hpm.map _),hC1⟩⟩)
 refine kl (ι:=List Nat×LH×HF) (λi=>[(0,.func yf ya yb),(5,.pointer (some ⟨it,0,none⟩))]) (λi=>i.2.2) (λi=>[(it,Obj.mapIter (some bk) clock (kB (i.1.map bf)) clock)]++i.2.1) (λi=>i.1.Nodup/\(∀j∈i.1,j<es.length)/\C (i.1.map kf) i.2.2 i.2.1/\kK h1 i.2.2) (λi=>es.length-i.1.length) ([],A,h1) ⟨rfl,rfl,trivial⟩ (λw hw=>hw) ⟨kQ,λ_ hj=>(jA hj).elim,hC,jH _⟩ ?_
 rintro⟨js,A1,h2⟩ ⟨hn,hl,hC1,hle2⟩ ag e
 dsimp only at hn hl hC1 hle2
 have hlp:=w6 hnod js hl
 show TT _ _ _ _ _ (upds e [(0,.func yf ya yb),(5,.pointer (some ⟨it,0,none⟩))]) _ _ h2 ([(it,Obj.mapIter (some bk) clock (kB (js.map bf)) clock)]++A1)
 refine dJ (bu (aw (Kd 0 rfl (hle2 _ _ hb) (λx hx=>hcl x (by simpa using hx)) (xG _) rfl (λh0=>?_) (λen hen=>?_))))
 .refine mB rfl rfl (aH (dJ (np rfl (mr rfl ?_))))
  exact hx (js,A1,h2) _ ⟨⟨hn,hl,hlp.1 h0⟩,hC1⟩ trivial
 .obtain⟨i,hi,hni⟩:=hlp.2 en hen
  have hil:i<es.length:=by
   rcases vK i es.length with h3|h3
   .exact h3
   .simp[xJ h3]at hi
  have hmem:en∈es.toArray.toList:=by simpa using vE hi
  have hn':(js++[i]).Nodup:=by
   rw[Sn];exact⟨hn,by simp,λa ha b hb' e'=>by simp at hb';subst hb';subst e';exact hni ha⟩
  have hl':∀j∈js++[i],j<es.length:=λj hj=>by
   rcases xH.1 hj with h3|h3
   .exact hl j h3
   .simp at h3;subst h3;exact hil
  obtain⟨rest,hrest⟩:=wT ks (js++[i]) hn' (λj hj=>by rw[←hlen];exact hl' j hj)
  have wk:js.length+1<=es.length:=by
   have h9:=hrest.length_eq
   rw[kA,List.length_map,kA]at h9
   have h10:ks.length=es.length:=hlen.symm
   simp only[zA,vB]at h9
   omega
  have hrest':(js.map kf++kf i::rest).Perm (m.map (·.1)):=by
   rw[xW,qE]at hrest
   exact List.Perm.trans hrest (hpm.map _)
  obtain⟨ekey,evl,eborn⟩:=en
  have hk':ekey=(xB .i64) (kf i):=hkey i _ hi
  subst hk'
  refine mB rfl rfl (aH ?_)
  refine dJ (kY rfl (aQ (ll ?_)))
  refine dJ (bu ?_)
  refine aw (ff (Ht 0 rfl (hle2 _ _ hb) hmem (by simpa using hnod) rfl) ?_)
  refine mB rfl rfl (fU (aH ?_))
  refine dJ (bu (ao (ao ?_)))
  refine aw (j2 [(it,Obj.mapIter (some bk) clock ((kB (js.map bf)).push eborn) clock)] A1 rfl (hy (js.map kf) (kf i) [(xB .i64) (kf i)] h2 A1 ⟨rest,hrest'⟩ hle2 hC1 rfl) rfl rfl (λh3 B hle3 hC3=>?_) (λh3 B hle3 hS3=>?_) (λch h3 B hle3 hP3 e'=>?_))
  .refine lL rfl (aH (np rfl (aQ (eB ?_))))
   have hpush:((kB (js.map bf)).push eborn)=kB ((js++[i]).map bf):=by simp[bf,hi]
   rw[hpush]
   refine ag (js++[i],B,h3) _ (by show es.length-(js++[i]).length<es.length-js.length;rw[kA];simp only[zA,vB];omega) ⟨hn',hl',by simpa using hC3,qF hle2 hle3⟩ ⟨rfl,rfl,trivial⟩
  .refine lL rfl (aH (kY rfl ?_))
   exact m9 M6 (λa _ w _=>lK rfl a w) (λw hw=>hw.sub (List.sublist_append_right _ _)) (.inl ⟨rfl,.inr hS3⟩)
  .exact Ka M6 (λw hw=>hw.sub (List.sublist_append_right _ _)) (.inr ⟨ch,rfl,hP3⟩)
theorem uZ(h:HF)(m:List (OSeat×Appoint))(bk:Nat)(q:Addr)(hm:re R4 (iY kR) h bk m)(aq:At h q [.map (some bk)]):
  Cj prog (.func (.func 275) #[] #[.pointer (some q)]) (λk _ vs=>vs=[R4 k]) (λxs=>xs.Perm (m.map (·.1))) h:=by
 refine⟨275,[.pointer (some q)],rfl,call275,?_⟩
 intro yf ya yb C Sp Pn h1 A hle m1 m2 m3 hC hy
 obtain⟨o,hb,m0,hpm,hnd0,es,clock,rfl,hE,hP,hcl⟩:=hm.mono (iY.mono Se) hle
 have hnod:(es.map (·.born)).Nodup:=hP.imp (λh=>Nat.ne_of_lt h)
 have hkeys:=hE.keys
 have hlen:es.length=(m0.map (·.1)).length:=by rw[hE.length];simp
 let ks:=m0.map (·.1)
 let kf:Nat->OSeat:=λi=>(ks[i]?).getD default
 let bf:Nat->Nat:=λi=>(es[i]?.map (·.born)).getD 0
 have hkey:∀(i:Nat)(en:MapEntry),es[i]? = some en->en.key=R4 (kf i):=by
  intro i en hi
  have h2:(es.map (·.key))[i]? = some en.key:=by simp[hi]
  rw[hkeys]at h2
  simp only[xV]at h2
  simp only[kf,ks,xV]
  cases hq:m0[i]? with
  |none=>rw[hq]at h2;simp at h2
  |some p=>rw[hq]at h2;simp at h2;simp[←h2]
 refine lV (args:=[.func yf ya yb]) (cap:=[.pointer (some q)]) call275 ?_
 refine iN M4 rfl ntmps275 rfl λX hXM hX=>?_
 refine dJ (bu (de ty250 (aq.mono hle) rfl (aw (Hm KZ hb rfl (λit=>aH ?_)))))
 refine iA (ι:=List Nat×LH×HF) (λi=>[]) (λi=>i.2.2) (λi=>[(it,Obj.mapIter (some bk) clock (kB (i.1.map bf)) clock)]++i.2.1) (λi=>(i.1.Nodup/\(∀j∈i.1,j<es.length)/\(∀j,j<es.length->j∈i.1))/\C (i.1.map kf) i.2.2 i.2.1) ?_ (λhx=>?_)
 .rintro⟨js,A1,h2⟩ ⟨⟨hn,hl,ha⟩,hC1⟩ e
  exact uN M4 (λa _ w _=>lK rfl a w) (λw hw=>hw.sub (List.sublist_append_right _ _)) (.inl ⟨rfl,.inl ⟨_,(uW ks js hn (λi hi=>by rw[←hlen];exact hl i hi) (λi hi=>ha i (by rw[hlen];exact hi))).trans (hpm.map _),hC1⟩⟩)
 refine kl (ι:=List Nat×LH×HF) (λi=>[(0,.func yf ya yb),(5,.pointer (some ⟨it,0,none⟩))]) (λi=>i.2.2) (λi=>[(it,Obj.mapIter (some bk) clock (kB (i.1.map bf)) clock)]++i.2.1) (λi=>i.1.Nodup/\(∀j∈i.1,j<es.length)/\C (i.1.map kf) i.2.2 i.2.1/\kK h1 i.2.2) (λi=>es.length-i.1.length) ([],A,h1) ⟨rfl,rfl,trivial⟩ (λw hw=>hw) ⟨kQ,λ_ hj=>(jA hj).elim,hC,jH _⟩ ?_
 rintro⟨js,A1,h2⟩ ⟨hn,hl,hC1,hle2⟩ ag e
 dsimp only at hn hl hC1 hle2
 have hlp:=w6 hnod js hl
 show TT _ _ _ _ _ (upds e [(0,.func yf ya yb),(5,.pointer (some ⟨it,0,none⟩))]) _ _ h2 ([(it,Obj.mapIter (some bk) clock (kB (js.map bf)) clock)]++A1)
 refine dJ (bu (aw (Kd 0 rfl (hle2 _ _ hb) (λx hx=>hcl x (by simpa using hx)) (xG _) rfl (λh0=>?_) (λen hen=>?_))))
 .refine mB rfl rfl (aH (dJ (np rfl (mr rfl ?_))))
  exact hx (js,A1,h2) _ ⟨⟨hn,hl,hlp.1 h0⟩,hC1⟩ trivial
 .obtain⟨i,hi,hni⟩:=hlp.2 en hen
  have hil:i<es.length:=by
   rcases vK i es.length with h3|h3
   .exact h3
   .simp[xJ h3]at hi
  have hmem:en∈es.toArray.toList:=by simpa using vE hi
  have hn':(js++[i]).Nodup:=by
   rw[Sn];exact⟨hn,by simp,λa ha b hb' e'=>by simp at hb';subst hb';subst e';exact hni ha⟩
  have hl':∀j∈js++[i],j<es.length:=λj hj=>by
   rcases xH.1 hj with h3|h3
   .exact hl j h3
   .simp at h3;subst h3;exact hil
  obtain⟨rest,hrest⟩:=wT ks (js++[i]) hn' (λj hj=>by rw[←hlen];exact hl' j hj)
  have wk:js.length+1<=es.length:=by
   have h9:=hrest.length_eq
   rw[kA,List.length_map,kA]at h9
   have h10:ks.length=es.length:=hlen.symm
   simp only[zA,vB]at h9
   omega
  have hrest':(js.map kf++kf i::rest).Perm (m.map (·.1)):=by
   rw[xW,qE]at hrest
   exact List.Perm.trans hrest (hpm.map _)
  obtain⟨ekey,evl,eborn⟩:=en
  have hk':ekey=R4 (kf i):=hkey i _ hi
  subst hk'
  refine mB rfl rfl (aH ?_)
  refine dJ (kY rfl (aQ (ll ?_)))
  refine dJ (bu ?_)
  refine aw (ff (Ht 0 rfl (hle2 _ _ hb) hmem (by simpa using hnod) rfl) ?_)
  refine mB rfl rfl (aU zc285 (λb3=>aR 0 ty285 rfl rfl rfl rfl rfl rfl (aH ?_)))
  refine dJ (bu (ao (cI 0 ty285 rfl rfl rfl ?_)))
  refine aw (j2 [(b3,qJ (kE (kf i)).toArray 285 (0,0)),(it,Obj.mapIter (some bk) clock ((kB (js.map bf)).push eborn) clock)] A1 rfl (hy (js.map kf) (kf i) [R4 (kf i)] h2 A1 ⟨rest,hrest'⟩ hle2 hC1 rfl) rfl rfl (λh3 B hle3 hC3=>?_) (λh3 B hle3 hS3=>?_) (λch h3 B hle3 hP3 e'=>?_))
  .refine lL rfl (aH (np rfl (aQ (eB ?_))))
   have hpush:((kB (js.map bf)).push eborn)=kB ((js++[i]).map bf):=by simp[bf,hi]
   rw[hpush]
   refine bj (L':=[(it,Obj.mapIter (some bk) clock (kB ((js++[i]).map bf)) clock)]++B) (.cons _ (List.Sublist.refl _)) ?_
   refine ag (js++[i],B,h3) _ (by show es.length-(js++[i]).length<es.length-js.length;rw[kA];simp only[zA,vB];omega) ⟨hn',hl',by simpa using hC3,qF hle2 hle3⟩ ⟨rfl,rfl,trivial⟩
  .refine lL rfl (aH (kY rfl ?_))
   exact m9 M4 (λa _ w _=>lK rfl a w) (λw hw=>hw.sub (List.sublist_append_right _ _)) (.inl ⟨rfl,.inr hS3⟩)
  .exact Ka M4 (λw hw=>hw.sub (List.sublist_append_right _ _)) (.inr ⟨ch,rfl,hP3⟩)
end
end Go.Sg

namespace Go.Proofs
open Go.Shelf
def Tryz.Ja:Go.Shelf.Ren:=⟨λ| 137=>299|217=>303|266=>305|n=>n,λ| 9=>9|5=>5|3=>3|n=>n,λ| n=>n⟩
theorem Tryz.lays137:Go.Proofs.Lays.n137 Tryz.prog Tryz.Ja:={
 mixed:=by kernel_rfl
 f137:=Tryz.func299.trans (congrArg some (by kernel_rfl))
 f217:=Tryz.func303.trans (congrArg some (by kernel_rfl))
 f266:=Tryz.func305.trans (congrArg some (by kernel_rfl))
 t3:=Tryz.underlying3
 a3:=Tryz.isAgg3
 z3:=Tryz.sizeOf3
 v3:=Tryz.zeroValue3
 t5:=Tryz.underlying5
 a5:=Tryz.isAgg5
 z5:=Tryz.sizeOf5
 v5:=Tryz.zeroValue5
 t9:=Tryz.underlying9
 a9:=Tryz.isAgg9
 z9:=Tryz.sizeOf9
 v9:=Tryz.zeroValue9 }
open Go.RowKit in
theorem Tryz.strings_IndexByte(s:ByteArray)(c:Int)(w:World):
  Calls Tryz.prog 299 #[.string s,.int .u8 c] w λe w'=>e=.returned (.int .i64 (Lib.indexByte s.data.toList c.toNat.toUInt8))/\w'=w:=Any.strings_IndexByte Tryz.lays137 s c w
open Go.RowKit Go.Lib in
def Tryz.I9:Go.Shelf.Ren:=⟨λ| 189=>38|125=>87|257=>86|128=>145|129=>146|294=>136|295=>137|296=>138|297=>139|298=>140|299=>141|216=>142|300=>143|301=>144|328=>208|329=>209|330=>210|331=>211|332=>212|215=>213|343=>250|n=>n,λ| 28=>31|3=>3|46=>152|0=>0|51=>226|53=>228|4=>4|183=>220|182=>219|131=>212|5=>5|9=>9|218=>262|222=>266|228=>307|229=>114|n=>n,λ| n=>n⟩
theorem Tryz.lays189:Go.Proofs.Lays.n189 Tryz.prog Tryz.I9:={
 mixed:=by kernel_rfl
 f125:=Tryz.func87.trans (congrArg some (by kernel_rfl))
 f128:=Tryz.func145.trans (congrArg some (by kernel_rfl))
 f129:=Tryz.func146.trans (congrArg some (by kernel_rfl))
 f189:=Tryz.func38.trans (congrArg some (by kernel_rfl))
 f215:=Tryz.func213.trans (congrArg some (by kernel_rfl))
 f216:=Tryz.func142.trans (congrArg some (by kernel_rfl))
 f257:=Tryz.func86.trans (congrArg some (by kernel_rfl))
 f294:=Tryz.func136.trans (congrArg some (by kernel_rfl))
 f295:=Tryz.func137.trans (congrArg some (by kernel_rfl))
 f296:=Tryz.func138.trans (congrArg some (by kernel_rfl))
 f297:=Tryz.func139.trans (congrArg some (by kernel_rfl))
 f298:=Tryz.func140.trans (congrArg some (by kernel_rfl))
 f299:=Tryz.func141.trans (congrArg some (by kernel_rfl))
 f300:=Tryz.func143.trans (congrArg some (by kernel_rfl))
 f301:=Tryz.func144.trans (congrArg some (by kernel_rfl))
 f328:=Tryz.func208.trans (congrArg some (by kernel_rfl))
 f329:=Tryz.func209.trans (congrArg some (by kernel_rfl))
 f330:=Tryz.func210.trans (congrArg some (by kernel_rfl))
 f331:=Tryz.func211.trans (congrArg some (by kernel_rfl))
 f332:=Tryz.func212.trans (congrArg some (by kernel_rfl))
 f343:=Tryz.func250.trans (congrArg some (by kernel_rfl))
 t0:=Tryz.underlying0
 a0:=Tryz.isAgg0
 z0:=Tryz.sizeOf0
 v0:=Tryz.zeroValue0
 t3:=Tryz.underlying3
 a3:=Tryz.isAgg3
 z3:=Tryz.sizeOf3
 v3:=Tryz.zeroValue3
 t4:=Tryz.underlying4
 a4:=Tryz.isAgg4
 z4:=Tryz.sizeOf4
 v4:=Tryz.zeroValue4
 t5:=Tryz.underlying5
 a5:=Tryz.isAgg5
 z5:=Tryz.sizeOf5
 v5:=Tryz.zeroValue5
 t9:=Tryz.underlying9
 a9:=Tryz.isAgg9
 z9:=Tryz.sizeOf9
 v9:=Tryz.zeroValue9
 t28:=Tryz.underlying31
 a28:=Tryz.isAgg31
 z28:=Tryz.sizeOf31
 v28:=Tryz.zeroValue31
 t46:=Tryz.underlying152
 a46:=Tryz.isAgg152
 z46:=Tryz.sizeOf152
 v46:=Tryz.zeroValue152
 t51:=Tryz.underlying226
 a51:=Tryz.isAgg226
 z51:=Tryz.sizeOf226
 v51:=Tryz.zeroValue226
 t53:=Tryz.underlying228
 a53:=Tryz.isAgg228
 z53:=Tryz.sizeOf228
 v53:=Tryz.zeroValue228
 t131:=Tryz.underlying212
 a131:=Tryz.isAgg212
 z131:=Tryz.sizeOf212
 v131:=Tryz.zeroValue212
 t182:=Tryz.underlying219
 a182:=Tryz.isAgg219
 z182:=Tryz.sizeOf219
 v182:=Tryz.zeroValue219
 t183:=Tryz.underlying220
 a183:=Tryz.isAgg220
 z183:=Tryz.sizeOf220
 v183:=Tryz.zeroValue220
 t218:=Tryz.underlying262
 a218:=Tryz.isAgg262
 z218:=Tryz.sizeOf262
 v218:=Tryz.zeroValue262
 t222:=Tryz.underlying266
 a222:=Tryz.isAgg266
 z222:=Tryz.sizeOf266
 v222:=Tryz.zeroValue266
 t228:=Tryz.underlying307
 a228:=Tryz.isAgg307
 z228:=Tryz.sizeOf307
 v228:=Tryz.zeroValue307
 t229:=Tryz.underlying114
 a229:=Tryz.isAgg114
 z229:=Tryz.sizeOf114
 v229:=Tryz.zeroValue114 }
open Go.Sort Go.RowKit in
theorem Tryz.slices_Sort_int(blk off cap:Nat)(zs:List Int)(w:World)(hH:Holds (Value.int .i64) w blk off zs.toArray)(hblk:blk<w.heap.size)(hsz:zs.length<4611686018427387904):
  Calls Tryz.prog 38 #[.slice (some ⟨blk,off,none⟩) zs.length cap] w λe w'=>
   e=.returned (.tuple #[])/\∃n os,w'=grow (putRow (Value.int .i64) (Sort.ahead w n) blk off (zs.mergeSort λx y=>decide (x<=y)).toArray) os:=Any.slices_Sort_int Tryz.lays189 blk off cap zs w hH hblk hsz
def Tryz.FL:Go.Shelf.Ren:=⟨λ| 15=>37|n=>n,λ| 22=>31|3=>3|4=>4|n=>n,λ| n=>n⟩
theorem Tryz.laysNm215:Go.Proofs.Lays2.n15 Tryz.prog Tryz.FL:={
 mixed:=by kernel_rfl
 f15:=Tryz.func37.trans (congrArg some (by kernel_rfl))
 t3:=Tryz.underlying3
 a3:=Tryz.isAgg3
 z3:=Tryz.sizeOf3
 v3:=Tryz.zeroValue3
 t4:=Tryz.underlying4
 a4:=Tryz.isAgg4
 z4:=Tryz.sizeOf4
 v4:=Tryz.zeroValue4
 t22:=Tryz.underlying31
 a22:=Tryz.isAgg31
 z22:=Tryz.sizeOf31
 v22:=Tryz.zeroValue31
 i3:=by kernel_rfl }
open Go.RowKit Go.Lib in
theorem Tryz.slices_Clone_int(b off n c:Nat)(zs:List Int)(w:World)(hz:n<=zs.length)(hbig:n*8<=140737488355328)(hc:∀j,j<zs.length->w.cell? ⟨b,off+j,none⟩=some (.int .i64 (zs.getD j 0))):
  Calls Tryz.prog 37 #[.slice (some ⟨b,off,none⟩) n c] w λe w'=>∃v',e=.returned v'/\w'.ownsRow w.heap.size 3 1 v' n ((zs.take n).map (Value.int .i64))/\v'≠.slice none 0 0/\Below w.heap.size w w':=Any.slices_Clone_int Tryz.laysNm215 b off n c zs w hz hbig hc
open Go.RowKit Go.Lib in
theorem Tryz.slices_Clone_int_nil(n c:Nat)(w:World):
  Calls Tryz.prog 37 #[.slice none n c] w λe w'=>e=.returned (.slice none 0 0)/\w'=w:=Any.slices_Clone_int_nil Tryz.laysNm215 n c w
open Go.RowKit Go.Lib in
theorem Tryz.slices_Clone_int_zero(a:Addr)(c:Nat)(w:World):
  Calls Tryz.prog 37 #[.slice (some a) 0 c] w λe w'=>∃v',e=.returned v'/\w'.ownsRow w.heap.size 3 1 v' 0 []/\v'≠.slice none 0 0/\Below w.heap.size w w':=Any.slices_Clone_int_zero Tryz.laysNm215 a c w
def Tryz.FK:Go.Shelf.Ren:=⟨λ| 20=>74|n=>n,λ| 22=>31|3=>3|4=>4|0=>0|n=>n,λ| n=>n⟩
theorem Tryz.laysNm220:Go.Proofs.Lays2.n20 Tryz.prog Tryz.FK:={
 mixed:=by kernel_rfl
 f20:=Tryz.func74.trans (congrArg some (by kernel_rfl))
 t0:=Tryz.underlying0
 a0:=Tryz.isAgg0
 z0:=Tryz.sizeOf0
 v0:=Tryz.zeroValue0
 t3:=Tryz.underlying3
 a3:=Tryz.isAgg3
 z3:=Tryz.sizeOf3
 v3:=Tryz.zeroValue3
 t4:=Tryz.underlying4
 a4:=Tryz.isAgg4
 z4:=Tryz.sizeOf4
 v4:=Tryz.zeroValue4
 t22:=Tryz.underlying31
 a22:=Tryz.isAgg31
 z22:=Tryz.sizeOf31
 v22:=Tryz.zeroValue31
 i3:=by kernel_rfl }
open Go.RowKit Go.Lib Go.Sort in
open Go.RowKit Go.Lib Go.Sort in
theorem Tryz.slices_Compact_int(blk off cap:Nat)(zs:List Int)(w:World)(hH:Holds (Value.int .i64) w blk off zs.toArray)(hsz:zs.length<=9223372036854775807)(hcap:zs.length<=cap):
  Calls Tryz.prog 74 #[.slice (some ⟨blk,off,none⟩) zs.length cap] w λe w'=>e=.returned (.slice (some ⟨blk,off,none⟩) (Lib.compact zs).length cap)/\∃q,w'=putRow (Value.int .i64) (Sort.ahead w q) blk off (Lib.compact zs++List.replicate (zs.length-(Lib.compact zs).length) 0).toArray:=Any.slices_Compact_int Tryz.laysNm220 blk off cap zs w hH hsz hcap
open Go.RowKit Go.Lib Go.Sort in
theorem Tryz.slices_Compact_int_empty(a:Option Addr)(cap:Nat)(w:World):
  Calls Tryz.prog 74 #[.slice a 0 cap] w λe w'=>e=.returned (.slice a 0 cap)/\w'=w:=Any.slices_Compact_int_empty Tryz.laysNm220 a cap w
open Go.RowKit Go.Lib in
open Go.RowKit Go.Lib in
open Go.RowKit Go.Lib in
def Tryz.FJ:Go.Shelf.Ren:=⟨λ| 25=>131|31=>142|32=>203|37=>213|n=>n,λ| 22=>31|3=>3|4=>4|40=>152|0=>0|n=>n,λ| n=>n⟩
theorem Tryz.laysNm225:Go.Proofs.Lays2.n25 Tryz.prog Tryz.FJ:={
 mixed:=by kernel_rfl
 f25:=Tryz.func131.trans (congrArg some (by kernel_rfl))
 f31:=Tryz.func142.trans (congrArg some (by kernel_rfl))
 f32:=Tryz.func203.trans (congrArg some (by kernel_rfl))
 f37:=Tryz.func213.trans (congrArg some (by kernel_rfl))
 t0:=Tryz.underlying0
 a0:=Tryz.isAgg0
 z0:=Tryz.sizeOf0
 v0:=Tryz.zeroValue0
 t3:=Tryz.underlying3
 a3:=Tryz.isAgg3
 z3:=Tryz.sizeOf3
 v3:=Tryz.zeroValue3
 t4:=Tryz.underlying4
 a4:=Tryz.isAgg4
 z4:=Tryz.sizeOf4
 v4:=Tryz.zeroValue4
 t22:=Tryz.underlying31
 a22:=Tryz.isAgg31
 z22:=Tryz.sizeOf31
 v22:=Tryz.zeroValue31
 t40:=Tryz.underlying152
 a40:=Tryz.isAgg152
 z40:=Tryz.sizeOf152
 v40:=Tryz.zeroValue152 }
open Go.RowKit Go.Lib in
theorem Tryz.slices_BinarySearch_int(b off n c:Nat)(zs:List Int)(x:Int)(w:World)(hz:n<=zs.length)(hbig:n<4611686018427387904)(hc:∀j,j<zs.length->w.cell? ⟨b,off+j,none⟩=some (.int .i64 (zs.getD j 0)))(hs:(zs.take n).Pairwise (·<=·)):
  Calls Tryz.prog 131 #[.slice (some ⟨b,off,none⟩) n c,.int .i64 x] w λe w'=>e=.returned (.tuple #[.int .i64 ((zs.take n).countP (·<x):Nat),.bool ((zs.take n).contains x)])/\∃q,w'=w.drewN q:=Any.slices_BinarySearch_int Tryz.laysNm225 b off n c zs x w hz hbig hc hs
open Go.RowKit Go.Lib Go.Sort in
open Go.RowKit Go.Sort in
theorem Tryz.slices_Sort_int_none(p:Option Addr)(cap:Nat)(w:World):
  Calls Tryz.prog 38 #[.slice p 0 cap] w λe w'=>e=.returned (.tuple #[])/\w'=w:=Any.slices_Sort_int_none Tryz.lays189 p cap w
open Go.RowKit Go.Lib in
theorem Tryz.slices_BinarySearch_int_empty(a:Option Addr)(c:Nat)(x:Int)(w:World):
  Calls Tryz.prog 131 #[.slice a 0 c,.int .i64 x] w λe w'=>e=.returned (.tuple #[.int .i64 0,.bool false])/\w'=w:=Any.slices_BinarySearch_int_empty Tryz.laysNm225 a c x w
open Go.RowKit Go.Lib in
open Go.RowKit Go.Lib in
def Tryz.zu:Go.Shelf.Ren:=⟨λ| 7=>213|n=>n,λ| 22=>3|4=>4|n=>n,λ| n=>n⟩
theorem Tryz.EC:Go.Proofs.SlLaysC2.n7 Tryz.prog Tryz.zu:={
 mixed:=by kernel_rfl
 f7:=⟨Tryz.f213.name,by decide,Tryz.func213.trans (congrArg some (by kernel_rfl))⟩
 t4:=Tryz.underlying4
 a4:=Tryz.isAgg4
 z4:=Tryz.sizeOf4
 v4:=Tryz.zeroValue4
 t22:=Tryz.underlying3
 a22:=Tryz.isAgg3
 z22:=Tryz.sizeOf3
 v22:=Tryz.zeroValue3 }
open Go.Lib in
theorem Tryz.cmp_isNaN_int(x:Int)(w:World):
  Calls Tryz.prog 213 #[.int .i64 x] w λe w'=>e=.returned (.bool false)/\w'=w:=AnyG.cmp_isNaN_int Tryz.EC x w
def Tryz.zw:Go.Shelf.Ren:=⟨λ| 5=>181|7=>213|n=>n,λ| 22=>3|3=>3|4=>4|n=>n,λ| n=>n⟩
theorem Tryz.ED:Go.Proofs.SlLaysC2.n5 Tryz.prog Tryz.zw:={
 mixed:=by kernel_rfl
 f5:=⟨Tryz.f181.name,by decide,Tryz.func181.trans (congrArg some (by kernel_rfl))⟩
 f7:=⟨Tryz.f213.name,by decide,Tryz.func213.trans (congrArg some (by kernel_rfl))⟩
 t3:=Tryz.underlying3
 a3:=Tryz.isAgg3
 z3:=Tryz.sizeOf3
 v3:=Tryz.zeroValue3
 t4:=Tryz.underlying4
 a4:=Tryz.isAgg4
 z4:=Tryz.sizeOf4
 v4:=Tryz.zeroValue4
 t22:=Tryz.underlying3
 a22:=Tryz.isAgg3
 z22:=Tryz.sizeOf3
 v22:=Tryz.zeroValue3 }
open Go.Lib in
theorem Tryz.cmp_Compare_int(x y:Int)(w:World):
  Calls Tryz.prog 181 #[.int .i64 x,.int .i64 y] w λe w'=>e=.returned (.int .i64 (Lib.compareInt x y))/\w'=w:=AnyG.cmp_Compare_int Tryz.ED x y w
open Go.RowKit Go.Lib Go.Sort in
def Tryz.Hl:Go.Shelf.Ren:=⟨λ| 6=>274|15=>87|14=>285|28=>145|29=>146|20=>290|21=>291|22=>292|23=>293|24=>294|25=>295|26=>296|27=>297|46=>300|47=>209|48=>210|49=>301|50=>302|57=>304|n=>n,λ| 22=>296|24=>285|25=>295|3=>3|39=>152|0=>0|53=>226|55=>228|4=>4|46=>220|45=>219|50=>212|5=>5|9=>9|66=>262|70=>266|76=>307|77=>114|n=>n,λ| n=>n⟩
theorem Tryz.sortSeat:Go.Proofs.SlLaysF0.n6 Tryz.prog Tryz.Hl:={
 mixed:=by kernel_rfl
 f6:=⟨Tryz.f274.name,by decide,Tryz.func274.trans (congrArg some (by kernel_rfl))⟩
 f14:=⟨Tryz.f285.name,by decide,Tryz.func285.trans (congrArg some (by kernel_rfl))⟩
 f15:=Tryz.func87.trans (congrArg some (by kernel_rfl))
 f20:=⟨Tryz.f290.name,by decide,Tryz.func290.trans (congrArg some (by kernel_rfl))⟩
 f21:=⟨Tryz.f291.name,by decide,Tryz.func291.trans (congrArg some (by kernel_rfl))⟩
 f22:=⟨Tryz.f292.name,by decide,Tryz.func292.trans (congrArg some (by kernel_rfl))⟩
 f23:=⟨Tryz.f293.name,by decide,Tryz.func293.trans (congrArg some (by kernel_rfl))⟩
 f24:=⟨Tryz.f294.name,by decide,Tryz.func294.trans (congrArg some (by kernel_rfl))⟩
 f25:=⟨Tryz.f295.name,by decide,Tryz.func295.trans (congrArg some (by kernel_rfl))⟩
 f26:=⟨Tryz.f296.name,by decide,Tryz.func296.trans (congrArg some (by kernel_rfl))⟩
 f27:=⟨Tryz.f297.name,by decide,Tryz.func297.trans (congrArg some (by kernel_rfl))⟩
 f28:=Tryz.func145.trans (congrArg some (by kernel_rfl))
 f29:=Tryz.func146.trans (congrArg some (by kernel_rfl))
 f46:=⟨Tryz.f300.name,by decide,Tryz.func300.trans (congrArg some (by kernel_rfl))⟩
 f47:=Tryz.func209.trans (congrArg some (by kernel_rfl))
 f48:=Tryz.func210.trans (congrArg some (by kernel_rfl))
 f49:=⟨Tryz.f301.name,by decide,Tryz.func301.trans (congrArg some (by kernel_rfl))⟩
 f50:=⟨Tryz.f302.name,by decide,Tryz.func302.trans (congrArg some (by kernel_rfl))⟩
 f57:=⟨Tryz.f304.name,by decide,Tryz.func304.trans (congrArg some (by kernel_rfl))⟩
 t0:=Tryz.underlying0
 a0:=Tryz.isAgg0
 z0:=Tryz.sizeOf0
 v0:=Tryz.zeroValue0
 t3:=Tryz.underlying3
 a3:=Tryz.isAgg3
 z3:=Tryz.sizeOf3
 v3:=Tryz.zeroValue3
 t4:=Tryz.underlying4
 a4:=Tryz.isAgg4
 z4:=Tryz.sizeOf4
 v4:=Tryz.zeroValue4
 t5:=Tryz.underlying5
 a5:=Tryz.isAgg5
 z5:=Tryz.sizeOf5
 v5:=Tryz.zeroValue5
 t9:=Tryz.underlying9
 a9:=Tryz.isAgg9
 z9:=Tryz.sizeOf9
 v9:=Tryz.zeroValue9
 t22:=Tryz.underlying296
 a22:=Tryz.isAgg296
 z22:=Tryz.sizeOf296
 v22:=Tryz.zeroValue296
 t25:=Tryz.underlying295
 a25:=Tryz.isAgg295
 z25:=Tryz.sizeOf295
 v25:=Tryz.zeroValue295
 t39:=Tryz.underlying152
 a39:=Tryz.isAgg152
 z39:=Tryz.sizeOf152
 v39:=Tryz.zeroValue152
 t45:=Tryz.underlying219
 a45:=Tryz.isAgg219
 z45:=Tryz.sizeOf219
 v45:=Tryz.zeroValue219
 t46:=Tryz.underlying220
 a46:=Tryz.isAgg220
 z46:=Tryz.sizeOf220
 v46:=Tryz.zeroValue220
 t50:=Tryz.underlying212
 a50:=Tryz.isAgg212
 z50:=Tryz.sizeOf212
 v50:=Tryz.zeroValue212
 t53:=Tryz.underlying226
 a53:=Tryz.isAgg226
 z53:=Tryz.sizeOf226
 v53:=Tryz.zeroValue226
 t55:=Tryz.underlying228
 a55:=Tryz.isAgg228
 z55:=Tryz.sizeOf228
 v55:=Tryz.zeroValue228
 t66:=Tryz.underlying262
 a66:=Tryz.isAgg262
 z66:=Tryz.sizeOf262
 v66:=Tryz.zeroValue262
 t70:=Tryz.underlying266
 a70:=Tryz.isAgg266
 z70:=Tryz.sizeOf266
 v70:=Tryz.zeroValue266
 t76:=Tryz.underlying307
 a76:=Tryz.isAgg307
 z76:=Tryz.sizeOf307
 v76:=Tryz.zeroValue307
 t77:=Tryz.underlying114
 a77:=Tryz.isAgg114
 z77:=Tryz.sizeOf114
 v77:=Tryz.zeroValue114 }
end Go.Proofs
namespace Go.Sg
variable {E:TypeId}{ass:Array Operand}{ats:Array TypeId}{f:FuncId}{h:HF}{v:Go.Value}{vs:List Go.Value}{w':World}{xs:List Int}{α:Type}{R:Rp α}
section
open Go.Proofs Go.Proofs.Tryz Go.RowKit
theorem St.N0{w:World}(hp:Pre h [] w)(hb:Below w.heap.size w w'):St ⟨w,h,[]⟩ h [] w':=
  ⟨hb.os,hb.tape,hb.output,hb.size,λb hlt _=>hb.block b hlt,λ_ _ e=>e,λ_ _=>rfl,λb o e=>by rw[hb.block b (fD (hp.imm b o e))];exact hp.imm b o e,
   λ_ hq=>(jA hq).elim,kQ,λ_ hq=>(jA hq).elim,λ_ hq=>(jA hq).elim⟩
theorem St.Mu{w:World}{g:Nat}{o:Obj}(hp:Pre h [] w)(hb:Below w.heap.size w w')(hg:w.heap.size<=g)(ho:w'.heap[g]? = some o):St ⟨w,h,[]⟩ h [(g,o)] w':=
  ⟨hb.os,hb.tape,hb.output,hb.size,λb hlt _=>hb.block b hlt,λ_ _ e=>e,λ_ _=>rfl,λb o e=>by rw[hb.block b (fD (hp.imm b o e))];exact hp.imm b o e,
   λq hq=>by rw[xC.1 hq];exact ho,by simp,λq hq=>by
     rw[xC.1 hq]
     show h g=none
     cases hh:h g with
     |none=>rfl
     |some o'=>have:=fD (hp.imm g o' hh);omega,λq hq=>by rw[xC.1 hq];exact .inl hg⟩
theorem LB{b:Option Addr}(hs:SlB zC h b xs)(hne:xs≠[]):∃g off,b=some ⟨g,off,none⟩/\∀w,Pre h [] w->∀j,j<xs.length->w.cell? ⟨g,off+j,none⟩=some (.int .i64 (xs.getD j 0)):=by
 obtain⟨x0,r,rfl⟩:∃x r,xs=x::r:=by cases xs with
  |nil=>exact(hne rfl).elim
  |cons x r=>exact⟨x,r,rfl⟩
 obtain⟨p,cs,rfl,hA,_,_⟩:=hs.2 0 x0 rfl
 have hsp:p.spot=none:=by
  obtain⟨_,_,_,_,h2,_⟩:=hA
  simpa[zT]using h2
 obtain⟨g,off,sp⟩:=p
 simp only at hsp
 subst hsp
 refine⟨g,off,rfl,λw hp j hj=>?_⟩
 obtain⟨p',cs',e,hA',hl,hr⟩:=hs.2 j ((x0::r)[j]) (by rw[vF hj])
 cases e
 have hcs:cs'=[.int .i64 ((x0::r)[j])]:=hr
 subst hcs
 have hc:=hA'.cell (X:=⟨w,h,[]⟩) (L:=[]) (SW hp) (j:=0) (v:=.int .i64 ((x0::r)[j])) rfl
 have ha:((⟨g,off,none⟩:Addr).add (j*Rp.int.sz)).add 0=⟨g,off+j,none⟩:=by
  have h1:j*Rp.int.sz=j:=Nat.mul_one j
  rw[h1]
  by_cases e0:j=0
  .subst e0;simp[zT]
  .simp[zT,e0]
 rw[ha]at hc
 rw[hc]
 simp[List.getD,vF hj]
theorem ns(h:HF)(x:List Int)(Qd:Option Addr)(PV:Nat)(target:Int)(hx:SlC zC h Qd PV x)(hs:x.Pairwise (·<=·))(hsz:x.length<=2000000):
  Ret prog 131 [.slice Qd x.length PV,.int .i64 target] h (.tuple #[.int .i64 (slices_BinarySearch_int x target).1,.bool (slices_BinarySearch_int x target).2]):=by
 intro w hp
 by_cases hne:x=[]
 .subst hne
  refine(iT (Tryz.slices_BinarySearch_int_empty Qd PV target w) (λw' hw=>by cases hw.1)).mono ?_
  rintro e w' ⟨rfl,rfl⟩
  exact⟨h,[],SW hp,rfl,rfl,rfl⟩
 .obtain⟨g,off,rfl,hc⟩:=LB hx.1 hne
  refine(iT (Tryz.slices_BinarySearch_int g off x.length PV x target w (xG _) (by omega) (hc w hp) (by simpa using hs)) (λw' hw=>by cases hw.1)).mono ?_
  rintro e w' ⟨rfl,q,rfl⟩
  refine⟨h,[],(SW hp).drew _,?_,rfl,rfl⟩
  simp[bsI,slices_BinarySearch_int]
abbrev QY{α : Type}(P:Program)(f:FuncId)(args:List Value)(h:HF)(R:Rp α)(E:TypeId)(xs:List α):Prop:=
 nL P f args.toArray h [] (λr h' G=>h'=h/\∃b c,r=.returned (.slice b xs.length c)/\dA R E h xs b c G)
theorem GE{w:World}(hp:Pre h [] w)(hb:Below w.heap.size w w')(ho:w'.ownsRow w.heap.size 3 1 v xs.length (xs.map (xB .i64))):
  ∃h' G,St ⟨w,h,[]⟩ h' G w'/\h'=h/\∃b c,Ending.returned v=.returned (.slice b xs.length c)/\dA zC 3 h xs b c G:=by
 obtain⟨_,⟨rfl,hn⟩|⟨g,cap,cur,rfl,hg,hh,h1,h2,h3,h4⟩⟩:=ho
 .have:xs=[]:=List.length_eq_zero_iff.1 hn
  subst this
  exact⟨h,[],St.N0 hp hb,rfl,none,0,rfl,dA.nil⟩
 .refine⟨h,_,St.Mu hp hb hg hh,rfl,some ⟨g,0,none⟩,cap,rfl,.inr ⟨g,xs.map (xB .i64),cur.toList.drop xs.length,rfl,?_,?_,h1,?_,?_⟩⟩
  .have:∀l:List Int,bP zC h (l.map (xB .i64)) l:=by
    intro l
    induction l with
    |nil=>rfl
    |cons y l ih=>exact⟨[.int .i64 y],l.map (xB .i64),rfl,rfl,rfl,ih⟩
   exact this xs
  .have h5:xs.map (xB .i64)++cur.toList.drop xs.length=cur.toList:=by
    rw[←h4,Nat.mul_one];exact List.take_append_drop _ _
   rw[h5];show _=cap*1;simpa using h3
  .have:maxLen=9223372036854775807:=by rfl
   omega
  .have h5:xs.map (xB .i64)++cur.toList.drop xs.length=cur.toList:=by
    rw[←h4,Nat.mul_one];exact List.take_append_drop _ _
   rw[h5]
theorem nW(h:HF)(s:List Int)(pU:Option Addr)(pI:Nat)(hs:SlC zC h pU pI s)(hsz:s.length<=2000000):QY prog 37 [.slice pU s.length pI] h zC 3 s:=by
 intro w hp
 by_cases hne:s=[]
 .subst hne
  cases pU with
  |none=>
   refine(iT (Tryz.slices_Clone_int_nil 0 pI w) (λw' hw=>by cases hw.1)).mono ?_
   rintro e w' ⟨rfl,rfl⟩
   exact⟨h,[],SW hp,rfl,none,0,rfl,dA.nil⟩
  |some a=>
   refine(iT (Tryz.slices_Clone_int_zero a pI w) (λw' hw=>by obtain⟨_,e,_⟩:=hw;cases e)).mono ?_
   rintro e w' ⟨v,rfl,ho,_,hb⟩
   exact GE (xs:=[]) hp hb ho
 .obtain⟨g,off,rfl,hc⟩:=LB hs.1 hne
  refine(iT (Tryz.slices_Clone_int g off s.length pI s w (xG _) (by omega) (hc w hp)) (λw' hw=>by obtain⟨_,e,_⟩:=hw;cases e)).mono ?_
  rintro e w' ⟨v,rfl,ho,_,hb⟩
  rw[List.take_length]at ho
  exact GE hp hb ho
theorem lH(h:HF)(xs:List Int)(b:Option Addr)(c:Nat)(G:LH)(hG:dA zC 3 h xs b c G)(hsz:xs.length<=1000000000000):
  nL prog 38 [.slice b xs.length c].toArray h G (λr h' G'=>h'=h/\r=.returned (.tuple #[])/\dA zC 3 h (sortI xs) b c G'):=by
 intro w hp
 rcases hG with⟨rfl,rfl,rfl,rfl⟩|⟨bk,cl,sp,rfl,hcl,hlen,hcap,hmax,rfl⟩
 .refine(iT (Tryz.slices_Sort_int_none none 0 w) (λw' hw=>by cases hw.1)).mono ?_
  rintro e w' ⟨rfl,rfl⟩
  exact⟨h,[],SW hp,rfl,rfl,by rw[show sortI []=[]from by simp[sortI]];exact dA.nil⟩
 .have hb:=hp.own _ (xC.2 rfl)
  simp only at hb
  have hcl':cl=xs.map (xB .i64):=by
   clear hlen hb hp hcap hmax hsz
   induction xs generalizing cl with
   |nil=>exact hcl
   |cons y l ih=>
    obtain⟨cs,r,rfl,_,hr,hl⟩:=hcl
    have:cs=[.int .i64 y]:=hr
    rw[this,ih r hl];rfl
  subst hcl'
  have hH:Sort.Holds (xB .i64) w bk 0 xs.toArray:=by
   refine holds_of_blockI (cur:=(xs.map (xB .i64)++sp).toArray) (e:=3) hb ?_
   simp
  refine(iT (Tryz.slices_Sort_int bk 0 c xs w hH (fD hb) (by omega)) (λw' hw=>by cases hw.1)).mono ?_
  rw[HH]
  rintro e w' ⟨rfl,n,os,rfl⟩
  obtain⟨g1,g2,g3,g4,g5⟩:=grownBy_sortedI (w:=w) (g:=bk) (n:=n) (os:=os) (sortI xs).toArray
  have hnew:=heap_sortedI (w:=w) (g:=bk) (n:=n) (os:=os) (sortI xs).toArray hb
  have htake:=take_putCellsI (xs.map (xB .i64)++sp).toArray (sortI xs) (by rw[gP];simp)
  refine⟨h,[(bk,.cells (Sort.putCells (xB .i64) 0 (sortI xs).toArray (xs.map (xB .i64)++sp).toArray) 3 (0,0))],⟨g1,g2,g3,g4,λk hk hM=>g5 k hk (λe=>hM (by cases e;simp)),λ_ _ e=>e,λ_ _=>rfl,λk o e=>?_,λq hq=>?_,?_,?_,?_⟩,rfl,rfl,?_⟩
  .have hne:k≠bk:=λe'=>by
    have:=hp.free _ (xC.2 rfl)
    simp only at this
    rw[e',this]at e;cases e
   exact(g5 k (fD (hp.imm k o e)) (λe'=>by cases e';exact hne rfl)).trans (hp.imm k o e)
  .rw[xC.1 hq];exact hnew
  .simp
  .intro q hq;rw[xC.1 hq];exact hp.free (bk,qJ (xs.map (xB .i64)++sp).toArray 3 (0,0)) (xC.2 rfl)
  .intro q hq;rw[xC.1 hq];exact .inr (by simp)
  .refine .inr ⟨bk,(sortI xs).map (xB .i64),(Sort.putCells (xB .i64) 0 (sortI xs).toArray (xs.map (xB .i64)++sp).toArray).toList.drop xs.length,rfl,?_,?_,by rw[gP];exact hcap,by rw[gP];exact hmax,?_⟩
   .have:∀l:List Int,bP zC h (l.map (xB .i64)) l:=by
     intro l
     induction l with
     |nil=>rfl
     |cons y l ih=>exact⟨[.int .i64 y],l.map (xB .i64),rfl,rfl,rfl,ih⟩
    exact this _
   .rw[←htake,gP,List.take_append_drop]
    simpa[Sort.putCells]using hlen
   .rw[←htake,gP,List.take_append_drop]
section steps
variable {P:Program} {b:Frame} {n:Nat} {ops:Array Oper} {F:List Frame->(Machine->Prop)->Prop} {e:Env} {ds:List Deferred} {X:Cx} {h:HF} {L:LH} {K:Env->HF->LH->Prop}
variable {d:Option Nat} {ty:TypeId} {pos:String} {af:Array Edge} {g:Option (Nat×Bool)}
theorem Ph{xs:List α}(hc:∀args w,(callFunc f args).run P w=.ok (.enter f args) w)(hs:QY P f vs h R E xs)(hvs:ass.toList.map e.ev=vs)(t':∀bb c G,dA R E h xs bb c G->K (pute e d (.slice bb xs.length c)) h (L++G))(hg:guardB ops e ⟨d,.call ⟨.value (.func f),ass,ats⟩,ty,pos,af,g⟩=true:=by rfl):
  Stp P b n ops F ds X ⟨d,.call ⟨.value (.func f),ass,ats⟩,ty,pos,af,g⟩ e h L K:=by
 unfold Stp
 rw[if_pos hg]
 intro w hw
 have harr:ass.map e.ev=vs.toArray:=Sd (by simp[←hvs])
 have hr:(execOp e.ev ⟨d,.call ⟨.value (.func f),ass,ats⟩,ty,pos,af,g⟩).run P w=.ok (.enter f vs.toArray) w:=by
  simp[execOp,resolve,Tz,kH,invoke,harr,hc]
 rw[hr]
 refine lj (by simp) (ji (pT.mono (hs w (hw.sub (List.nil_sublist _)).pre) ?_))
 rintro x w' ⟨h',B,hst,rfl,bb,c,rfl,hG⟩
 exact⟨h',_,(S4 (A:=[]) (F:=L) hw hst).perm xL,t' bb c B hG⟩
theorem my(A0 G Q:LH){Φ:LH->Prop}(hc:∀args w,(callFunc f args).run P w=.ok (.enter f args) w)(hs:nL P f vs.toArray h G (λr h' G'=>h'=h/\r=.returned v/\Φ G'))(hL:L=A0++(G++Q))(hvs:ass.toList.map e.ev=vs)(t':∀G',Φ G'->K (pute e d v) h (A0++(G'++Q)))(hg:guardB ops e ⟨d,.call ⟨.value (.func f),ass,ats⟩,ty,pos,af,g⟩=true:=by rfl):
  Stp P b n ops F ds X ⟨d,.call ⟨.value (.func f),ass,ats⟩,ty,pos,af,g⟩ e h L K:=by
 unfold Stp
 rw[if_pos hg]
 intro w hw
 subst hL
 have hp:∀G:LH,(A0++(G++Q)).Perm (G++(A0++Q)):=λG=>by
  rw[←qE,←qE];exact List.Perm.append_right Q xL
 have hw':=hw.perm (hp G)
 have harr:ass.map e.ev=vs.toArray:=Sd (by simp[←hvs])
 have hr:(execOp e.ev ⟨d,.call ⟨.value (.func f),ass,ats⟩,ty,pos,af,g⟩).run P w=.ok (.enter f vs.toArray) w:=by
  simp[execOp,resolve,Tz,kH,invoke,harr,hc]
 rw[hr]
 refine lj (by simp) (ji (pT.mono (hs w hw'.pre.left) ?_))
 rintro x w' ⟨h',B,hst,rfl,rfl,hG⟩
 exact⟨h',_,(S4 (A:=G) (F:=A0++Q) hw' hst).perm (hp B).symm,t' B hG⟩
end steps
end
section
open Go.Proofs Go.Proofs.Tryz
abbrev JS{α : Type}(P:Program)(f:FuncId)(args:List Value)(h:HF)(R:Rp α)(E:TypeId)(S:List α->Prop):Prop:=
 nL P f args.toArray h [] (λr h' G=>∃xs bb c,S xs/\r=.returned (.slice bb xs.length c)/\dA R E h' xs bb c G)
section steps
variable {P:Program} {b:Frame} {n:Nat} {ops:Array Oper} {F:List Frame->(Machine->Prop)->Prop} {e:Env} {ds:List Deferred} {X:Cx} {h:HF} {L:LH} {K:Env->HF->LH->Prop}
variable {d:Option Nat} {ty:TypeId} {pos:String} {af:Array Edge} {g:Option (Nat×Bool)}
theorem AC{S:List α->Prop}(hc:∀args w,(callFunc f args).run P w=.ok (.enter f args) w)(hs:JS P f vs h R E S)(hvs:ass.toList.map e.ev=vs)(t':∀h' xs bb c G,h.le h'->S xs->dA R E h' xs bb c G->K (pute e d (.slice bb xs.length c)) h' (L++G))(hg:guardB ops e ⟨d,.call ⟨.value (.func f),ass,ats⟩,ty,pos,af,g⟩=true:=by rfl):
  Stp P b n ops F ds X ⟨d,.call ⟨.value (.func f),ass,ats⟩,ty,pos,af,g⟩ e h L K:=by
 unfold Stp
 rw[if_pos hg]
 intro w hw
 have harr:ass.map e.ev=vs.toArray:=Sd (by simp[←hvs])
 have hr:(execOp e.ev ⟨d,.call ⟨.value (.func f),ass,ats⟩,ty,pos,af,g⟩).run P w=.ok (.enter f vs.toArray) w:=by
  simp[execOp,resolve,Tz,kH,invoke,harr,hc]
 rw[hr]
 refine lj (by simp) (ji (pT.mono (hs w (hw.sub (List.nil_sublist _)).pre) ?_))
 rintro x w' ⟨h',B,hst,xs,bb,c,hS,rfl,hG⟩
 exact⟨h',_,(S4 (A:=[]) (F:=L) hw hst).perm xL,t' h' xs bb c B hst.le hS hG⟩
end steps
theorem Dr(h:HF)(it:Value)(S:List Int->Prop)(hit:Cj prog it (λ(k:Int)(_:HF)(vs:List Value)=>vs=[xB .i64 k]) S h)(hS:∀xs,S xs->xs.length<=1000000000000):JS prog 201 [.slice none 0 0,it] h zC 3 S:=by
 refine cD func201 rfl ntmps201 rfl λX hM hX=>?_
 refine dJ (bu (ct (λb1=>fU (aH (dJ (dJ (bu (ao (aH (ll (?_)))))))))))
 refine Gh (it:=it) (S:=S) (ps:=[7])
  (λdone h' L'=>∃gb gc G,L'=[(b1,qJ (kB [.slice gb done.length gc]) 31 (0,0))]++G/\dA zC 3 h' done gb gc G)
  (λ_ _ _=>False) (λ_ _ _=>False) rfl hit rfl (λx h' vs hv=>by rw[hv];rfl) ?_ (λ_ _ _ _ _ hf=>hf) (λ_ _ _ _ _ hf=>hf) ⟨none,0,[],rfl,dA.nil⟩ ?_ ?_ (λ_ _ _ _ _ hf=>hf.elim) (λ_ _ _ _ _ hf=>hf.elim)
 .rintro done h1 h2 B hl ⟨gb,gc,G,rfl,hG⟩;exact⟨gb,gc,G,rfl,hG.mono zH hl⟩
 .rintro l1 r1 lp1 done y vs hr L' X' ⟨rest,hrest⟩ hle ⟨gb,gc,G,rfl,hG⟩ hv hlp hX' hXM
  obtain rfl:=hv
  have hlen:=hS _ hrest
  simp only[kA,zA]at hlen
  refine bu (fU (aH ?_))
  refine jx 0 rfl hlp (ll (bu ?_))
  refine n0 2 ty31 rfl rfl rfl (ao ?_)
  refine aw (bB (cells:=[.int .i64 y]) eG ty3 zc3 rfl rfl (by kernel_rfl) (λb3=>?_))
  refine aw (eo Rp.kZ ([(b3,qJ (kB [.int .i64 y]) 3 (0,0)),(l1,.loop { lp1 with state:=.busy }),(r1,.deferred (some [])),(b1,qJ (kB [.slice gb done.length gc]) 31 (0,0))]) [] (λG=>[(b3,qJ (kB [.int .i64 y]) 3 (0,0)),(l1,.loop { lp1 with state:=.busy }),(r1,.deferred (some [])),(b1,qJ (kB [.slice gb done.length gc]) 31 (0,0))]++G) (G:=G) (show _=[(b3,qJ (kB [.int .i64 y]) 3 (0,0)),(l1,.loop { lp1 with state:=.busy }),(r1,.deferred (some [])),(b1,qJ (kB [.slice gb done.length gc]) 31 (0,0))]++(G++[])from by rw[List.append_nil];rfl) (λ_=>by first|rfl|simp only[zG]) eG ty3 zc3 rfl bytes3 hG rfl rfl (fd (ys:=[y]) 0 rfl (show bP zC hr [.int .i64 y] [y]from⟨[.int .i64 y],[],rfl,rfl,rfl,rfl⟩)) (by simp only[kA,zA,vB];omega) (by simp only[kA,zA,vB];omega) (λob2 oc2 G2 gr2=>?_))
  refine cB 3 ty31 rfl rfl rfl rfl rfl rfl (aH (eB ?_))
  refine bj (L':=(l1,.loop { lp1 with state:=.busy })::(r1,.deferred (some []))::([(b1,qJ (kB [.slice ob2 (done++[y]).length oc2]) 31 (0,0))]++G2)) (.cons _ (List.Sublist.refl _)) ?_
  exact Hr rfl ⟨ob2,oc2,G2,rfl,gr2⟩
 .rintro r1 xs h2 L' hxs hle ⟨gb,gc,G,rfl,hG⟩
  refine eB (dJ (bu (n0 1 ty31 rfl rfl rfl (fU (aH ?_)))))
  refine oo (L':=([(b1,qJ (kB [.slice gb xs.length gc]) 31 (0,0))]++G)++markB [r1]) (List.perm_append_singleton _ _).symm ?_
  exact uM [r1] func201 (λa ha w hw=>res1 rfl a ha w) (λw hw=>hw.sub (L':=G) (List.sublist_append_right _ _)) ⟨xs,gb,gc,hxs,rfl,hG⟩
theorem F6(h:HF)(it:Value)(S:List Int->Prop)(hit:Cj prog it (λ(k:Int)(_:HF)(vs:List Value)=>vs=[xB .i64 k]) S h)(hS:∀xs,S xs->xs.length<=1000000000000):JS prog 126 [it] h zC 3 S:=by
 refine cD func126 rfl ntmps126 rfl λX hM hX=>?_
 refine dJ (bu (fU (aH (dJ (bu (ao ?_))))))
 refine aw (AC call201 (Dr h it S hit hS) rfl (λh' xs bb c G hle hxs hG=>?_))
 refine fU (aH ?_)
 exact m9 func126 (λa ha w hw=>res1 rfl a ha w) (λw hw=>hw.sub (L':=G) (List.sublist_append_right _ _)) ⟨xs,bb,c,hxs,rfl,hG⟩
theorem Ck(h:HF)(it:Value)(S:List OSeat->Prop)(hit:Cj prog it (λ(k:OSeat)(_:HF)(vs:List Value)=>vs=[R4 k]) S h)(hS:∀xs,S xs->xs.length<=1000000000000):JS prog 284 [.slice none 0 0,it] h T3 285 S:=by
 refine cD func284 rfl ntmps284 rfl λX hM hX=>?_
 refine dJ (bu (ct (λb1=>fU (aH (dJ (dJ (bu (ao (aH (ll (?_)))))))))))
 refine Gh (it:=it) (S:=S) (ps:=[7])
  (λdone h' L'=>∃gb gc G,L'=[(b1,qJ (kB [.slice gb done.length gc]) 296 (0,0))]++G/\dA T3 285 h' done gb gc G)
  (λ_ _ _=>False) (λ_ _ _=>False) rfl hit rfl (λx h' vs hv=>by rw[hv];rfl) ?_ (λ_ _ _ _ _ hf=>hf) (λ_ _ _ _ _ hf=>hf) ⟨none,0,[],rfl,dA.nil⟩ ?_ ?_ (λ_ _ _ _ _ hf=>hf.elim) (λ_ _ _ _ _ hf=>hf.elim)
 .rintro done h1 h2 B hl ⟨gb,gc,G,rfl,hG⟩;exact⟨gb,gc,G,rfl,hG.mono OSeat.av hl⟩
 .rintro l1 r1 lp1 done y vs hr L' X' ⟨rest,hrest⟩ hle ⟨gb,gc,G,rfl,hG⟩ hv hlp hX' hXM
  obtain rfl:=hv
  have hlen:=hS _ hrest
  simp only[kA,zA]at hlen
  refine bu (aU zc285 (λb2=>aR 0 ty285 rfl rfl rfl rfl rfl rfl (aH ?_)))
  refine jx 1 rfl hlp (ll (bu ?_))
  refine n0 3 ty296 rfl rfl rfl (cI 0 ty285 rfl rfl rfl ?_)
  refine aw (bB (cells:=[.int .i64 y.office,.int .i64 y.person]) PW ty285 zc285 rfl rfl (by kernel_rfl) (λb3=>?_))
  refine aw (eo OSeat.eD ([(b3,qJ (kB [.int .i64 y.office,.int .i64 y.person]) 285 (0,0)),(b2,qJ (kE y).toArray 285 (0,0)),(l1,.loop { lp1 with state:=.busy }),(r1,.deferred (some [])),(b1,qJ (kB [.slice gb done.length gc]) 296 (0,0))]) [] (λG=>[(b3,qJ (kB [.int .i64 y.office,.int .i64 y.person]) 285 (0,0)),(b2,qJ (kE y).toArray 285 (0,0)),(l1,.loop { lp1 with state:=.busy }),(r1,.deferred (some [])),(b1,qJ (kB [.slice gb done.length gc]) 296 (0,0))]++G) (G:=G) (show _=[(b3,qJ (kB [.int .i64 y.office,.int .i64 y.person]) 285 (0,0)),(b2,qJ (kE y).toArray 285 (0,0)),(l1,.loop { lp1 with state:=.busy }),(r1,.deferred (some [])),(b1,qJ (kB [.slice gb done.length gc]) 296 (0,0))]++(G++[])from by rw[List.append_nil];rfl) (λ_=>by first|rfl|simp only[zG]) PW ty285 zc285 rfl bytes285 hG rfl rfl (fd (ys:=[y]) 0 rfl (show bP T3 hr [.int .i64 y.office,.int .i64 y.person] [y]from⟨[.int .i64 y.office,.int .i64 y.person],[],rfl,rfl,rfl,rfl⟩)) (by simp only[kA,zA,vB];omega) (by simp only[kA,zA,vB];omega) (λob2 oc2 G2 gr2=>?_))
  refine cB 4 ty296 rfl rfl rfl rfl rfl rfl (aH (eB ?_))
  refine bj (L':=(l1,.loop { lp1 with state:=.busy })::(r1,.deferred (some []))::([(b1,qJ (kB [.slice ob2 (done++[y]).length oc2]) 296 (0,0))]++G2)) (.cons _ (.cons _ (List.Sublist.refl _))) ?_
  exact Hr rfl ⟨ob2,oc2,G2,rfl,gr2⟩
 .rintro r1 xs h2 L' hxs hle ⟨gb,gc,G,rfl,hG⟩
  refine eB (dJ (bu (n0 1 ty296 rfl rfl rfl (fU (aH ?_)))))
  refine oo (L':=([(b1,qJ (kB [.slice gb xs.length gc]) 296 (0,0))]++G)++markB [r1]) (List.perm_append_singleton _ _).symm ?_
  exact uM [r1] func284 (λa ha w hw=>res1 rfl a ha w) (λw hw=>hw.sub (L':=G) (List.sublist_append_right _ _)) ⟨xs,gb,gc,hxs,rfl,hG⟩
theorem Fx(h:HF)(it:Value)(S:List OSeat->Prop)(hit:Cj prog it (λ(k:OSeat)(_:HF)(vs:List Value)=>vs=[R4 k]) S h)(hS:∀xs,S xs->xs.length<=1000000000000):JS prog 273 [it] h T3 285 S:=by
 refine cD func273 rfl ntmps273 rfl λX hM hX=>?_
 refine dJ (bu (fU (aH (dJ (bu (ao ?_))))))
 refine aw (AC call284 (Ck h it S hit hS) rfl (λh' xs bb c G hle hxs hG=>?_))
 refine fU (aH ?_)
 exact m9 func273 (λa ha w hw=>res1 rfl a ha w) (λw hw=>hw.sub (L':=G) (List.sublist_append_right _ _)) ⟨xs,bb,c,hxs,rfl,hG⟩
end
section
open Go.Proofs Go.Proofs.Tryz
theorem nV(h:HF)(it:Value)(ks:List Int)(hit:Cj prog it (λ(k:Int)(_:HF)(vs:List Value)=>vs=[xB .i64 k]) (λxs=>xs.Perm ks) h)(hk:ks.length<=1000000000000):
  jY prog 77 [it] h (λv h'=>∃(b:Option Addr)(c:Nat),v=.slice b (sortI ks).length c/\SlC zC h' b c (sortI ks)):=by
 refine cD func77 rfl ntmps77 rfl λX hM hX=>?_
 refine dJ (bu (fU (aH (dJ (bu (ao ?_))))))
 refine aw (AC call126 (F6 h it _ hit (λxs hx=>by rw[hx.length_eq];exact hk)) rfl (λh' xs bb c G hle hxs hG=>?_))
 refine fU (aH (dJ (bu (ao ?_))))
 refine aw (my [] G [] KY (lH h' xs bb c G hG (by rw[hxs.length_eq];exact hk)) (by simp) rfl (λG' hG'=>?_))
 refine aH (dJ (bu (ao (fU (aH ?_)))))
 refine fW zH [] G' [] (by simp) hM hG' (λh2 hle2 sl=>?_)
 refine il [.slice bb xs.length c] func77 rfl ⟨rfl,trivial⟩ ⟨bb,c,?_,?_⟩
 .rw[←Iy hxs,gP];rfl
 .rw[←Iy hxs];exact sl
theorem tH(h:HF)(m:List (Int×Bool))(HI:Nat)(hm:re (xB .i64) j0 h HI m):jY prog 78 [.map (some HI)] h (λv h'=>Cj prog v (λ(k:Int)(_:HF)(vs:List Value)=>vs=[(xB .i64) k]) (λxs=>xs.Perm (m.map (·.1))) h'):=by
 refine cD func78 rfl ntmps78 rfl λX hM hX=>?_
 refine dJ (bu (ct (λb1=>fU (aH (dJ (bu ?_))))))
 refine aP 0 rfl hM (λh2 hle2 hb2=>?_)
 refine aw (dS rfl rfl ?_)
 refine fU (aH ?_)
 refine il [.func (.func 127) #[] #[.pointer (some ⟨b1,0,none⟩)]] func78 rfl ⟨rfl,trivial⟩ ?_
 exact yy h2 m HI ⟨b1,0,none⟩ (hm.mono j0.mono hle2) (bI hb2)
theorem w4(h:HF)(m:List (Int×Version))(HI:Nat)(hm:re (xB .i64) (iY jQ) h HI m):jY prog 185 [.map (some HI)] h (λv h'=>Cj prog v (λ(k:Int)(_:HF)(vs:List Value)=>vs=[(xB .i64) k]) (λxs=>xs.Perm (m.map (·.1))) h'):=by
 refine cD func185 rfl ntmps185 rfl λX hM hX=>?_
 refine dJ (bu (ct (λb1=>fU (aH (dJ (bu ?_))))))
 refine aP 0 rfl hM (λh2 hle2 hb2=>?_)
 refine aw (dS rfl rfl ?_)
 refine fU (aH ?_)
 refine il [.func (.func 232) #[] #[.pointer (some ⟨b1,0,none⟩)]] func185 rfl ⟨rfl,trivial⟩ ?_
 exact uY h2 m HI ⟨b1,0,none⟩ (hm.mono (iY.mono vV) hle2) (bI hb2)
theorem w5(h:HF)(m:List (OSeat×Appoint))(HI:Nat)(hm:re R4 (iY kR) h HI m):jY prog 243 [.map (some HI)] h (λv h'=>Cj prog v (λ(k:OSeat)(_:HF)(vs:List Value)=>vs=[R4 k]) (λxs=>xs.Perm (m.map (·.1))) h'):=by
 refine cD func243 rfl ntmps243 rfl λX hM hX=>?_
 refine dJ (bu (ct (λb1=>fU (aH (dJ (bu ?_))))))
 refine aP 0 rfl hM (λh2 hle2 hb2=>?_)
 refine aw (dS rfl rfl ?_)
 refine fU (aH ?_)
 refine il [.func (.func 275) #[] #[.pointer (some ⟨b1,0,none⟩)]] func243 rfl ⟨rfl,trivial⟩ ?_
 exact uZ h2 m HI ⟨b1,0,none⟩ (hm.mono (iY.mono Se) hle2) (bI hb2)
end
section
open Go.Proofs Go.Proofs.Tryz
set_option maxHeartbeats 2000000
theorem uB(h:HF)(x:Int)  : Ret prog 213 [I x] h (.bool (cmp_isNaN_int x)):=by
 refine sT RD U ntmps213 U λX hM hX hF=>?_
 have hs0:=@rfl _ (cmp_isNaN_int x)
 exact sr (qO 9 U (nretP [.bool (x != x)] (cs hs0)))
theorem sY(h:HF)(l:List Int)(fq:Option Addr)(fp:Nat)(l_q:Addr)(hl:SlC zC h fq fp l)(al:At h l_q [.slice fq l.length fp]):Itr prog (.func (.func 79) #[] (kB [.pointer (some l_q)])) EI (aS l) h:=by
 refine rl call79 ?_
 intro yf ya yb C Sp Pn h1 A hle m1 m2 m3 hC hy
 refine iN Io U ntmps79 U λX hXM hX=>?_
 have hs0:aS l=[]++aS l:=rfl
 refine sr (de ty31 (al.mono hle) U (qL 3 [] U ?_))
 refine lp2 l (λi w=>[(0,.func yf ya yb),(1,.pointer (some l_q)),(6,.slice fq l.length fp),(7,I (l.length:Int)),(8,I (i:Int))]) (λw=>w.2.2) (λw=>w.2.1) (λi w=>C w.1 w.2.2 w.2.1/\kK h1 w.2.2) (λs1 i w=>w.1++(aS.L1 l (aS.K1)) s1 i) ([],A,h1) ((hl.mono zH hle).1.1) hs0 ⟨hC,lf⟩ ?_ ?_
 .rintro i1 ⟨dn1,A1_,hh1⟩ fB hs1 ⟨hC1_,hl1⟩ e
  refine dQ ?_
  have hs2:aS l=dn1:=hs1.trans (List.append_nil _)
  exact rm [] (A:=A1_) Io U (List.Sublist.refl _) (.inl (hs2▸hC1_))
 rintro i1 ⟨dn1,A1_,hh1⟩ y1 rz1 hd1 du bo eA gD hs3 ⟨hC1_,hl1⟩ hx1 ag1 e
 refine sr (tO du U (qO 9 U (aw (iF (λy=>[I y]) eG ty3 (hl.mono zH (hle.t hl1)).1 bo U U U (λq3 A6=>de ty3 A6 U (qO 11 U (oi i1 U (de ty31 (al.mono (hle.t hl1)) U (qL 3 [] U (jf U (λc3=>?_) (λc3=>?_)))))))))))
 .have c3p:=of_decide_eq_true c3
  have hs4:=hs3.trans (congrArg (dn1++·) (bt c3))
  refine qT 2 U (de ty31 (al.mono (hle.t hl1)) U (ao (oi i1 U ?_)))
  have ho2:0<=((((i1+1):Nat):Int):Int)/\((((i1+1):Nat):Int):Int)<((l).length:Int):=ob
  refine aw (oY (enc:=λy=>[I y]) ei eG ty3 (hl.mono zH (hle.t hl1)).1 ho2 (dy ho2) U U U (λq4 A7=>de ty3 A7 U (aw (ff (NQ U U) (qO 8 U (nq 28 U (λc4=>?_) (λc4=>?_)))))))
  .have c4p:=of_decide_eq_true c4
   have hs5:=hs4.trans (congrArg (dn1++·) (bt c4))
   refine qO 3 U (aw (eY (cells:=[I y1,I (min 1099511627776 (nthI l (((i1+1):Nat):Int)))]) (places:=[(0,1),(1,1)]) Gg zc51 kr kr ?_))
   have hx2:aS l=dn1++((qW y1 (min 1099511627776 (nthI l (((i1+1):Nat):Int))))::(aS.L1 l (aS.K1) rz1 (i1+1))):=hs5
   refine aw (j2 ([]) A1_ ap (hy dn1 (qW y1 (min 1099511627776 (nthI l (((i1+1):Nat):Int)))) _ _ _ _ hx2 hl1 hC1_ U) U U (λh5 A8 hle4 hC2=>?_) (λh6 A9 hle5 hS2=>?_) (λch2 h7 A10 hle6 hP2 e=>gk (mC [] (A:=A10) Io (List.sublist_append_right _ _) hP2)))
   .have hs6:aS l=(dn1++[(qW y1 (min 1099511627776 (nthI l (((i1+1):Nat):Int))))])++((aS.L1 l (aS.K1) rz1 (i1+1))):=hx2.trans ap
    exact lL U (qO 6 U (oi i1 U (qO 2 U (ag1 ((dn1++[(qW y1 (min 1099511627776 (nthI l (((i1+1):Nat):Int))))]),A8,h5) hs6 ⟨hC2,(hl1.t hle4)⟩))))
   exact lL U (qO 3 U (dQ (mi [] (A:=A9) Io U (List.Sublist.refl _) (.inr hS2))))
  have c4p:=of_decide_eq_false c4
  have hs7:=hs4.trans (congrArg (dn1++·) (bf c4))
  exact kq (qO 10 U (oi i1 U (qO 2 U (ag1 (dn1,A1_,hh1) hs7 ⟨hC1_,hl1⟩))))
 have c3p:=of_decide_eq_false c3
 have hs8:=hs3.trans (congrArg (dn1++·) (bf c3))
 refine qT 7 U (nq 28 U (λc5=>?_) (λc5=>?_))
 .have c5p:=of_decide_eq_true c5
  have hs9:=hs8.trans (congrArg (dn1++·) (bt c5))
  refine qO 3 U (aw (eY (cells:=[I y1,I 1099511627776]) (places:=[(0,1),(1,1)]) Gg zc51 kr kr ?_))
  have hx3:aS l=dn1++((qW y1 1099511627776)::(aS.L1 l (aS.K1) rz1 (i1+1))):=hs9
  refine aw (j2 ([]) A1_ ap (hy dn1 (qW y1 1099511627776) _ _ _ _ hx3 hl1 hC1_ U) U U (λh8 A11 hle7 hC3=>?_) (λh9 A12 hle8 hS3=>?_) (λch3 h10 A13 hle9 hP3 e=>gk (mC [] (A:=A13) Io (List.sublist_append_right _ _) hP3)))
  .have hs10:aS l=(dn1++[(qW y1 1099511627776)])++((aS.L1 l (aS.K1) rz1 (i1+1))):=hx3.trans ap
   exact lL U (qO 6 U (oi i1 U (qO 2 U (ag1 ((dn1++[(qW y1 1099511627776)]),A11,h8) hs10 ⟨hC3,(hl1.t hle7)⟩))))
  exact lL U (qO 3 U (dQ (mi [] (A:=A12) Io U (List.Sublist.refl _) (.inr hS3))))
 have c5p:=of_decide_eq_false c5
 have hs11:=hs8.trans (congrArg (dn1++·) (bf c5))
 exact kq (qO 10 U (oi i1 U (qO 2 U (ag1 (dn1,A1_,hh1) hs11 ⟨hC1_,hl1⟩))))
theorem uE(h:HF)(q:aD)(mq:gK)(hq:aD.ok h q mq)(hsm:smR q.Register)(hov:okV q.Register.Versions)(hod:0<=q.doc.At/\q.doc.At<=1099511627776):jY prog 32 [.agg (aD.cells q mq).toArray] h (λv h'=>∃(rv0:Value),v=rv0/\Itr prog rv0 EI (aE q) h'):=by
 refine sT func32 U ntmps32 U λX hM hX hF=>?_
 have hs0:=@rfl _ (aE q)
 have hm1:=gy (mput (mput ([]:List (Int×Bool)) 0 true) q.doc.At true) q.doc.Until true
 have hm2:=gy (mput ([]:List (Int×Bool)) 0 true) q.doc.At true
 have hm3:=gy ([]:List (Int×Bool)) 0 true
 have hs1:=hsm.2.1
 have hs2:=hsm.2.2.2.1
 have hs3:=hov.1
 simp only[vB]at hm3
 refine sr (ct (λb1=>qO 3 U ?_))
 let z1:Nat×Obj:=(b1,O (aD.cells q mq) 79)
 refine He (ι:=Nat×Obj) (λi=>[(1,Q b1),(3,.map (some i.1))]) (λi=>[(i.1,i.2),z1]) (λi=>ia (xB .i64) j0 h i.2 (mput (mput (mput ([]) 0 true) q.doc.At true) q.doc.Until true)) ?_ (λhk1=>?_)
 rotate_left
 .refine eQ ([z1]) mixed kr jn (λeF _=>?_)
  refine qB [2,3] U (tf 4 U U (rj 0 ty3 U U U) (qB [6,7] U (tf 8 U U (rj 0 ty3 U U U) (tn 0 U (na (λb3=>⟨jn,?_⟩))))))
  refine Nu 1 5 9 kr U U U ?_ ?_ ?_ 
  .refine jy 0 (k:=0) (x:=true) rf (dG kz) U (ia.nil (enc:=(xB .i64)) (V:=j0) (h:=h)) U U U (λmo2 hm2=>⟨jn,?_⟩)
   refine mO 5 9 kr U U ?_ ?_ 
   .exact jy 0 (k:=q.doc.At) (x:=true) rf (dG kz) U hm2 U U U (λmo3 hm3=>⟨jn,tn 9 U (jy 0 (k:=q.doc.Until) (x:=true) rf (dG kz) U hm3 U U U (λmo4 hm4=>⟨jn,qA [10,11] U (aN kr (hk1 (b3,mo4) _ hm4 rd))⟩))⟩)
   exact jy 0 (k:=q.doc.Until) (x:=true) rf (dG kz) U hm2 U U U (λmo5 hm5=>⟨jn,tn 5 U (jy 0 (k:=q.doc.At) (x:=true) rf (dG kz) U hm5 U U U (λmo6 hm6=>⟨jn,qA [10,11] U (aN kr (hk1 (b3,mo6) _ (ia.perm hm6 (sy true (p132 0 q.doc.At q.doc.Until) kQ)) rd))⟩))⟩)
  .refine jy 0 (k:=q.doc.At) (x:=true) rf (dG kz) U (ia.nil (enc:=(xB .i64)) (V:=j0) (h:=h)) U U U (λmo7 hm7=>⟨jn,?_⟩)
   refine mO 1 9 kr U U ?_ ?_ 
   .exact jy 0 (k:=0) (x:=true) rf (dG kz) U hm7 U U U (λmo8 hm8=>⟨jn,tn 9 U (jy 0 (k:=q.doc.Until) (x:=true) rf (dG kz) U hm8 U U U (λmo9 hm9=>⟨jn,qA [10,11] U (aN kr (hk1 (b3,mo9) _ (ia.perm hm9 (sy true (p213 0 q.doc.At q.doc.Until) kQ)) rd))⟩))⟩)
   exact jy 0 (k:=q.doc.Until) (x:=true) rf (dG kz) U hm7 U U U (λmo10 hm10=>⟨jn,tn 1 U (jy 0 (k:=0) (x:=true) rf (dG kz) U hm10 U U U (λmo11 hm11=>⟨jn,qA [10,11] U (aN kr (hk1 (b3,mo11) _ (ia.perm hm11 (sy true (p231 0 q.doc.At q.doc.Until) kQ)) rd))⟩))⟩)
  refine jy 0 (k:=q.doc.Until) (x:=true) rf (dG kz) U (ia.nil (enc:=(xB .i64)) (V:=j0) (h:=h)) U U U (λmo12 hm12=>⟨jn,?_⟩)
  refine mO 1 5 kr U U ?_ ?_ 
  .exact jy 0 (k:=0) (x:=true) rf (dG kz) U hm12 U U U (λmo13 hm13=>⟨jn,tn 5 U (jy 0 (k:=q.doc.At) (x:=true) rf (dG kz) U hm13 U U U (λmo14 hm14=>⟨jn,qA [10,11] U (aN kr (hk1 (b3,mo14) _ (ia.perm hm14 (sy true (p312 0 q.doc.At q.doc.Until) kQ)) rd))⟩))⟩)
  exact jy 0 (k:=q.doc.At) (x:=true) rf (dG kz) U hm12 U U U (λmo15 hm15=>⟨jn,tn 1 U (jy 0 (k:=0) (x:=true) rf (dG kz) U hm15 U U U (λmo16 hm16=>⟨jn,qA [10,11] U (aN kr (hk1 (b3,mo16) _ (ia.perm hm16 (sy true (p321 0 q.doc.At q.doc.Until) kQ)) rd))⟩))⟩)
 rintro⟨b2,mo1⟩ hm1 e
 try dsimp only at hm1
 refine qK 9 [1] U ?_
 refine lp2 q.Register.Appoints (λi w=>[(1,Q b1),(3,.map (some b2)),(23,.slice mq.Register.lO q.Register.Appoints.length mq.Register.lN),(24,I (q.Register.Appoints.length:Int)),(25,I (i:Int))]) (λ_=>h) (λw=>[(b2,w.2),z1]) (λi w=>ia (xB .i64) j0 h w.2 w.1/\w.1.length<=(mput (mput (mput ([]) 0 true) q.doc.At true) q.doc.Until true).length+i) (λs1 i w=>(aE.L1 (aE.K1 q)) s1 w.1) ((mput (mput (mput ([]) 0 true) q.doc.At true) q.doc.Until true),mo1) hq.Register.Appoints.1.1 hs0 ⟨hm1,(by have:=gy (mput (mput ([]) 0 true) q.doc.At true) q.doc.Until true;have:=gy (mput ([]) 0 true) q.doc.At true;have:=gy ([]) 0 true;first|omega|(simp only[vB,zA]at *;omega))⟩ ?_ ?_
 .rintro i1 ⟨aZ,dB⟩ fB hs1 ⟨eV,nG⟩ e
  try dsimp only at eV nG
  refine qK 9 [1] U ?_
  refine lp2 q.Register.Interests (λi w=>[(1,Q b1),(3,.map (some b2)),(35,.slice mq.Register.mg q.Register.Interests.length mq.Register.mf),(36,I (q.Register.Interests.length:Int)),(37,I (i:Int))]) (λ_=>h) (λw=>[(b2,w.2),z1]) (λi w=>ia (xB .i64) j0 h w.2 w.1/\w.1.length<=aZ.length+i) (λs2 i w=>(aE.L2 (aE.K2 q)) s2 w.1) (aZ,dB) hq.Register.Interests.1.1 hs1 ⟨eV,lc⟩ ?_ ?_
  .rintro i2 ⟨j8,Js⟩ BZ hs2 ⟨xj,EX⟩ e
   try dsimp only at xj EX
   refine qK 9 [1] U ?_
   refine lp2 q.Register.Versions (λi w=>[(1,Q b1),(3,.map (some b2)),(47,.slice mq.Register.kc q.Register.Versions.length mq.Register.kb),(48,I (q.Register.Versions.length:Int)),(49,I (i:Int))]) (λ_=>h) (λw=>[(b2,w.2),z1]) (λi w=>ia (xB .i64) j0 h w.2 w.1/\w.1.length<=j8.length+17*i) (λs3 i w=>(aE.L3 q (aE.K3)) s3 w.1) (j8,Js) hq.Register.Versions.1.1 hs2 ⟨xj,lc⟩ ?_ ?_
   .rintro i3 ⟨gz,uz⟩ QG hs3 ⟨ma,EV⟩ e
    try dsimp only at ma EV
    refine qT 3 U (aP 0 U hM (λh1 hle1 hb1=>?_))
    have mc1:re (xB .i64) j0 h1 b2 gz:=⟨_,hb1,ma.mono j0.mono hle1⟩
    refine aw (cJ call78 (tH h1 gz b2 mc1) U (λv1 h2 hle2 hp1=>aw (cJ call77 (nV h2 v1 (gz.map Prod.fst) hp1 (by rw[List.length_map];omega)) U (λv2 h3 hle3 hp2=>?_))))
    obtain⟨rb1,rc1,rfl,sl1⟩:=hp2
    refine aU zc31 (λb17=>cB 0 ty31 U U U U U U (qO 3 U (aP 0 U hM (λh4 hle4 hb2=>aw (dS U U (an ?_))))))
    have hs4:aE q=(aS (sortI (gz.map Prod.fst))):=hs3
    exact nretH [.func (.func 79) #[] #[Q b17]] (hs4▸⟨(.func (.func 79) #[] #[Q b17]),U,(sY h4 (sortI (gz.map Prod.fst)) rb1 rc1 ⟨b17,0,none⟩ (sl1.mono zH hle4) (bI hb2))⟩)
   rintro i3 ⟨gz,uz⟩ y3 rz3 hd3 HN CM LD PA hs5 ⟨ma,EV⟩ hx3 ag1 e
   try dsimp only at ma EV
   have hml:=gy gz y3.At true
   have hvr:=(hov.2 y3 (fS hd3)).1
   refine sr (tO HN U (qO 8 U (aw (iR wC ty96 hq.Register.Versions.1 CM U U U (λ_ _ _ e=>e) (λq14 r9 A14 ok9=>dl ty96 A14 U U (aU zc96 (λb18=>aR 0 ty96 U U U U U U (qL 6 [0] U (aw (iZ 1 (k:=y3.At) (x:=true) rf (dG kz) U ma U U U (λmo30 hm30=>qL 9 [0] U ?_)))))))))))
   refine lp2 y3.Policy.Rules (λi w=>[(1,Q b1),(3,.map (some b2)),(47,.slice mq.Register.kc q.Register.Versions.length mq.Register.kb),(48,I (q.Register.Versions.length:Int)),(49,I (i3:Int)),(58,.slice r9.Policy.ou y3.Policy.Rules.length r9.Policy.ot),(59,I (y3.Policy.Rules.length:Int)),(60,I (i:Int))]) (λ_=>h) (λw=>[(b18,O (kS y3 r9) 96),(b2,w.2),z1]) (λi w=>ia (xB .i64) j0 h w.2 w.1/\w.1.length<=(mput gz y3.At true).length+i) (λs5 i w=>(aE.L5 q (λzg5_b2_0=>(aE.L3 q (aE.K3) rz3 zg5_b2_0))) s5 w.1) ((mput gz y3.At true),mo30) ok9.Policy.Rules.1.1 hs5 ⟨hm30,(by have:=gy gz y3.At true;first|omega|(simp only[vB,zA]at *;omega))⟩ ?_ ?_
   .rintro i5 ⟨lZ,qz⟩ Pz hs6 ⟨nB,sG⟩ e
    try dsimp only at nB sG
    exact eB (bu (oi i3 U (qO 2 U (bj (L':=[(b2,qz),z1]) js (ag1 (lZ,qz) hs6 ⟨nB,lc⟩)))))
   rintro i5 ⟨lZ,qz⟩ y5 rz5 hd5 QF N9 Q8 RA hs7 ⟨nB,sG⟩ hx5 ag2 e
   try dsimp only at nB sG
   have hth:=(hov.2 y3 (fS hd3)).2 y5 (fS hd5)
   exact sr (tO QF U (qO 8 U (aw (iR tQ ty91 ok9.Policy.Rules.1 N9 U U U (λ_ _ _ e=>e) (λq16 r11 A16 ok11=>dl ty91 A16 U U (aU zc91 (λb20=>aR 0 ty91 U U U U U U (qL 8 [3,0] U (iq (v':=I (q.doc.At+y5.Think)) U (jc ob) (aw (iZ 2 (k:=(q.doc.At+y5.Think)) (x:=true) rf (dG kz) U nB U U U (λmo32 hm32=>qO 3 U (oi i5 U (qO 2 U (bj (L':=[(b18,O (kS y3 r9) 96),(b2,mo32),z1]) js (ag2 ((mput lZ (q.doc.At+y5.Think) true),mo32) hs7 ⟨hm32,(by have:=gy lZ (q.doc.At+y5.Think) true;first|omega|(simp only[vB,zA]at *;omega))⟩))))))))))))))))
  rintro i2 ⟨j8,Js⟩ y2 rz2 hd2 wk sF EP Kw hs8 ⟨xj,EX⟩ hx2 ag3 e
  try dsimp only at xj EX
  exact sr (tO wk U (qO 8 U (aw (iF Interest.cells ul ty54 hq.Register.Interests.1 sF U U U (λq17 A17=>dl ty54 A17 U U (aU zc54 (λb21=>aR 0 ty54 U U U U U U (qL 5 [0] U (aw (iZ 1 (k:=y2.At) (x:=true) rf (dG kz) U xj U U U (λmo33 hm33=>qO 3 U (oi i2 U (qO 2 U (bj (L':=[(b2,mo33),z1]) js (ag3 ((mput j8 y2.At true),mo33) hs8 ⟨hm33,(by have:=gy j8 y2.At true;first|omega|(simp only[vB,zA]at *;omega))⟩)))))))))))))))
 rintro i1 ⟨aZ,dB⟩ y1 rz1 hd1 du bo eA gD hs9 ⟨eV,nG⟩ hx1 ag4 e
 try dsimp only at eV nG
 exact sr (tO du U (qO 8 U (aw (iF Appoint.cells Cn ty49 hq.Register.Appoints.1 bo U U U (λq18 A18=>dl ty49 A18 U U (aU zc49 (λb22=>aR 0 ty49 U U U U U U (qL 5 [0] U (aw (iZ 1 (k:=y1.At) (x:=true) rf (dG kz) U eV U U U (λmo34 hm34=>qO 3 U (oi i1 U (qO 2 U (bj (L':=[(b2,mo34),z1]) js (ag4 ((mput aZ y1.At true),mo34) hs9 ⟨hm34,(by have:=gy aZ y1.At true;first|omega|(simp only[vB,zA]at *;omega))⟩)))))))))))))))
theorem qj(h:HF)(l:List Version)(fq:Option Addr)(fp:Nat)(old:Bool)(hl:SlC jQ h fq fp l):jY prog 186 [.slice fq l.length fp,.bool old] h (λv h'=>∃(rb0:Option Addr)(rc0:Nat),v=.slice rb0 (je l old).length rc0/\SlC jQ h' rb0 rc0 (je l old)):=by
 refine sT func186 U ntmps186 U λX hM hX hF=>?_
 have hs0:=@rfl _ (je l old)
 refine qT 9 U ?_
 have hs1:je l old=l:=hs0
 exact nretH [.slice fq l.length fp] (hs1▸⟨fq,fp,U,hl⟩)
theorem wz(h:HF)(l:List Version)(fq:Option Addr)(fp:Nat)(old:Bool)(hl:SlC jQ h fq fp l)(hne:0<l.length):jY prog 187 [.slice fq l.length fp,.bool old] h (λv h'=>∃(rb0:Option Addr)(rc0:Nat),v=.slice rb0 (iI l old).length rc0/\SlC jQ h' rb0 rc0 (iI l old)):=by
 refine sT func187 U ntmps187 U λX hM hX hF=>?_
 have hs0:=@rfl _ (iI l old)
 refine qT 10 U (ae hs0 U (λc1 hs1=>?_) (λc1 hs2=>?_))
 .refine qT 4 U ?_
  have hs3:iI l old=[]:=hs1
  exact nretH [.slice none 0 0] ⟨none,0,congrArg (λr:List Version=>(.slice none r.length 0:Value)) hs3.symm,(by rw[hs3];exact zF)⟩
 refine qT 4 U (aw (ND wC ty96 hl.1 hl.2 ob U U U (λsb1 sc1 sl1=>an ?_)))
 have hs4:iI l old=(l.take ((1:Int)).toNat):=hs2
 exact nretH [.slice sb1 ((l.take ((1:Int)).toNat).length) sc1] ⟨sb1,sc1,congrArg (λr:List Version=>(.slice sb1 r.length sc1:Value)) hs4.symm,(by rw[hs4];exact sl1)⟩
end
end Go.Sg
