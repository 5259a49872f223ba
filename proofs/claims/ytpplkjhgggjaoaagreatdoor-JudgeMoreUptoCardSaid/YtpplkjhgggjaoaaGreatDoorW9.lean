import Derived.Test.YtpplkjhgggjaoaaGreatDoorCards
import Derived.Test.YtpplkjhgggjaoaaGreatDoorTie
import Derived.ProofKit
import Derived.Deep.DeepHandedRow
import Derived.Test.YtpplkjhgggjaoaaGreatDoorW8
/- A part of the proof of JudgeMore. -/
set_option linter.unusedVariables false
set_option linter.unusedSimpArgs false
set_option maxRecDepth 100000
open List renaming length_cons→xA,length_append→jA,not_mem_nil→kA,length_nil→vB,mem_singleton→xC,append_assoc→kC,getElem?_eq_getElem→qF,nil_append→xG,range→qH
open Go.Sg.Approval renaming cells→vA,rp→kG,aj→zH
open Go.Sg.Rp renaming int→zC,aM→xH
open Go.IntKind renaming wrap→jC
open Go.Value renaming int→zD
open Go.Sg.SlC renaming nil→kE
open Go.Sg.Register renaming mk→zK,cells→vN,ok→Sa
open Go.Sg.Budget renaming cells→kK,rp→Sj,aj→TI
open Nat renaming lt_or_ge→jL,zero_le→qM
open Go.Sg.HF renaming le_refl→xM
open Go.Sg.Use renaming cells→Sy,rp→Ux

namespace Go.Sg
section
open Go.Proofs Go.Proofs.Tryz
set_option maxHeartbeats 2000000
theorem Gh(h:HF)(u:List Use)(rO:Option Addr)(rN:Nat)(hu:SlC Ux h rO rN u):Ret prog 225 [.slice rO u.length rN] h (.bool (fd u)):=by
 refine sT func225 U ntmps225 U λX hM hX hF=>?_
 have hs0:=@rfl _ (fd u)
 refine qT 9 U ?_
 refine lp0 u (λi=>[(0,.slice rO u.length rN),(3,I (i:Int))]) ([]) (λs1 i=>(fd.L1 u (fd.K1)) s1 i) hu.1.1 hs0 ?_ ?_ ?_
 .rintro i1 fm hs1 e
  exact sr (an (nretP [.bool true] (cs hs1)))
 .rintro i1 y1 rz1 hd1 df aS ek gu hs3 hx1 ag1 e
  refine qK 6 [] U (tO df U (qO 10 U (aA (iF Sy uy ty111 hu.1 aS U U U (λq3 A3=>qL 1 [] U (dj ty3 A3 U (ai D6 (jO h y1.Doc 0 4095) U (qO 2 U (bT 8 [18,19,20,21,22,23,24,25,26] 18 26 (!(pQ y1.Kind)) U (λc1 hk1=>?_) (λe=>?_))))))))))
  .exact av (av (aA (iF Sy uy ty111 hu.1 aS U U U (λq4 A4=>qL 1 [] U (iZ (j:=1) ty3 A4 U U (ai call226 (yY h y1.Kind) U (qO 2 U (hk1 _ U))))))))
  refine av (bT 8 [27,28,29,30,31,32,33,34,35] 27 35 (!(fJ y1.Value 0 1099511627776)) U (λc2 hk2=>?_) (λe=>?_))
  .exact av (av (aA (iF Sy uy ty111 hu.1 aS U U U (λq5 A5=>qL 1 [] U (iZ (j:=2) ty3 A5 U U (ai D6 (jO h y1.Value 0 1099511627776) U (qO 2 U (hk2 _ U))))))))
  refine av (bT 8 [36,37,38,39,40,41,42,43,44] 36 44 (!(gP y1.At)) U (λc3 hk3=>?_) (λe=>?_))
  .exact av (av (aA (iF Sy uy ty111 hu.1 aS U U U (λq6 A6=>qL 1 [] U (iZ (j:=3) ty3 A6 U U (ai IH (lH h y1.At) U (qO 2 U (hk3 _ U))))))))
  refine av (bT 8 [45,46,47,48,49,50,51,52,53] 45 53 (!(gP y1.Known)) U (λc4 hk4=>?_) (λe=>?_))
  .exact av (av (aA (iF Sy uy ty111 hu.1 aS U U U (λq7 A7=>qL 1 [] U (iZ (j:=4) ty3 A7 U U (ai IH (lH h y1.Known) U (qO 2 U (hk4 _ U))))))))
  refine aF (ae hs3 U (λc5 hs4=>?_) (λc5 hs5=>?_))
  .exact sr (an (nretP [.bool false] (cs hs4)))
  refine qT 5 U ?_
  refine ir (ι:=Nat) (λi=>[(0,.slice rO u.length rN),(3,I (i1:Int))]) (λi=>h) (λi=>[]) (λi=>i<=(qH i1).length/\fd u=(((fd.L1 u (fd.K1) rz1 (i1+1))))) ?_ (λhx3=>?_)
  .rintro i3 ⟨yP,hs7⟩ e
   exact eS (qT 2 U (oi i1 U (an (ag1 hs7))))
  refine jZ (ι:=Nat×List Nat) (λi=>[(0,.slice rO u.length rN),(3,I (i1:Int)),(4,I (i.1:Int))]) (λi=>h) (λi=>[]) (λi=>(qH i1).drop i.1=i.2/\i.1<=(qH i1).length/\fd u=((fd.L3 u y1 ((fd.L1 u (fd.K1) rz1 (i1+1)))) i.2 i.1)) (λi=>i.2.length) (0,(qH i1)) rd sw ⟨U,qM _,hs5⟩ ?_
  rintro⟨i3,s3⟩ ⟨hd3,Gx,hs8⟩ ag2 e
  rcases s3 with _|⟨y3,rz3⟩
  .have OG:decide ((i3:Int)<(i1:Int))=false:=by simpa using mR hd3
   exact dK (qT 4 U (fO OG U (qO 3 U (hx3 i3 _ ⟨Gx,hs8⟩ rd))))
  have Cr:decide ((i3:Int)<(i1:Int))=true:=by simpa using s8 hd3
  have Db:i3<i1:=by simpa using hY hd3
  refine qT 5 U (tO Cr U (qO 6 U (er ([]) mixed kr jn (λdY _=>qA [0,1] U ?_))))
  have ho2:0<=((i3:Int):Int)/\((i3:Int):Int)<((u).length:Int):=ob
  refine eJ 2 (enc:=Sy) dY jn ei uy ty111 hu.1 ho2 (cV ho2) U U U U kr (λq10 A10=>qB [3] U (tf 4 U U (rh ty3 A10 U) (qA [5,6] U (eJ 7 (enc:=Sy) dY jn ei uy ty111 hu.1 (nthZ aS) (fh aS) U U U U kr (λq11 A11=>qB [8] U (tf 9 U U (rh ty3 A11 U) (qA [10] U (aJ kr (ae hs8 U (λc7 hs10=>?_) (λc7 hs11=>?_))))))))))
  .exact sr (an (nretP [.bool false] (cs hs10)))
  exact aI (qT 3 U (oi i3 U (an (ag2 ((i3+1),rz3) _ (Nat.lt_succ_self _) ⟨kw hd3,hY hd3,hs11⟩ rd))))
 rintro i1 hd1 fS hx e
 exact qK 6 [] U (fO fS U (qO 3 U (hx _ rd)))
theorem wd(h:HF)(x:Budget)(il:Int)(known:Int)  : Ret prog 335 [.agg (kK x).toArray,I il,I known] h (.bool (nA x il known)):=by
 refine sT func335 U ntmps335 U λX hM hX hF=>?_
 have hs0:=@rfl _ (nA x il known)
 refine sr (cv (λb1=>qL 9 [0] U (bp 5 [11,12,13,14,15,16] 11 16 (decide (x.Known<=known)) U (λc1 hk1=>?_) (λe=>?_))))
 .exact qL 5 [0] U (hk1 _ U)
 exact an (nretP [.bool (decide (x.At<=il)&&decide (x.Known<=known))] (cs hs0))
theorem DA(h:HF)(l:List Budget)(ep:Option Addr)(eo:Nat)(nO:Int)(ba:Int)(known:Int)(hl:SlC Sj h ep eo l)(hi:0<=nO/\nO<(l.length:Int)):Ret prog 297 [.slice ep l.length eo,I nO,I ba,I known] h (.bool (jk l nO ba known)):=by
 refine sT func297 U ntmps297 U λX hM hX hF=>?_
 have hs0:=@rfl _ (jk l nO ba known)
 refine qT 8 U ?_
 have ho1:0<=(nO:Int)/\(nO:Int)<((l).length:Int):=ob
 refine aA (oP (enc:=kK) ei uv ty101 hl.1 ho1 (cV ho1) U U U (λq1 A1=>dt ty101 A1 U U (aT zc101 (λb1=>aO 0 ty101 U U U U U U (qL 7 [0] U (bT 6 [18,19,20,21,22,23,24] 18 24 (!(nA (nthI l nO) ba known)) U (λc1 hk1=>?_) (λe=>?_)))))))
 .exact cM 0 ty101 U U U (qO 2 U (ai call335 (wd h (nthI l nO) ba known) U (qO 2 U (hk1 _ U))))
 refine aF (ae hs0 U (λc2 hs1=>?_) (λc2 hs2=>?_))
 .exact sr (an (nretP [.bool false] (cs hs1)))
 refine qT 6 U ?_
 refine lp0 l (λi=>[(0,.slice ep l.length eo),(2,I ba),(3,I known),(9,Q b1),(10,I (i:Int))]) ([(b1,O (kK (nthI l nO)) 101)]) (λs1 i=>(jk.L1 l nO ba known (jk.K1)) s1) hl.1.1 hs2 ?_ ?_ ?_
 .rintro i1 fm hs4 e
  exact sr (an (nretP [.bool true] (cs hs4)))
 .rintro i1 y1 rz1 hd1 df aS ek gu hs6 hx1 ag1 e
  refine qK 6 [] U (tO df U (qO 9 U (aA (iF kK uv ty101 hl.1 aS U U U (λq3 A3=>dt ty101 A3 U U (aT zc101 (λb3=>aO 0 ty101 U U U U U U (qL 9 [0,1] U (bp 6 [40,41,42,43,44,45,46] 40 46 (y1.Period==(nthI l nO).Period) U (λc3 hk2=>?_) (λe=>?_))))))))))
  .exact qL 6 [0,1] U (hk2 _ U)
  refine av (bp 5 [47,48,49,50,51,52] 47 52 (nA y1 ba known) U (λc4 hk3=>?_) (λe=>?_))
  .exact cM 0 ty101 U U U (qO 2 U (ai call335 (wd h y1 ba known) U (eB U (hk3 _ U))))
  refine av (bp 20 [53,54,55,56,57,58,59,60,61,62,63,64,65,66,67,68,69,70,71,72,73] 53 73 (decide ((nthI l nO).At<y1.At)||((y1.At==(nthI l nO).At)&&decide ((nthI l nO).No<y1.No))) U (λc5 hk4=>?_) (λe=>?_))
  .refine qL 6 [0,1] U (bT 13 [59,60,61,62,63,64,65,66,67,68,69,70,71,72] 59 72 ((y1.At==(nthI l nO).At)&&decide ((nthI l nO).No<y1.No)) U (λc6 hk5=>?_) (λe=>?_))
   .refine qL 6 [0,1] U (bp 6 [65,66,67,68,69,70,71] 65 71 (decide ((nthI l nO).No<y1.No)) U (λc7 hk6=>?_) (λe=>?_))
    .exact qL 6 [0,1] U (hk6 _ U)
    exact eB U (hk5 _ U)
   exact eB U (hk4 _ U)
  refine aF (ae hs6 U (λc8 hs7=>?_) (λc8 hs8=>?_))
  .exact sr (an (nretP [.bool false] (cs hs7)))
  exact aI (qT 3 U (oi i1 U (an (bo (L':=[(b1,O (kK (nthI l nO)) 101)]) js (ag1 hs8)))))
 rintro i1 hd1 fS hx e
 exact qK 6 [] U (fO fS U (qO 3 U (hx _ rd)))
theorem AX(h:HF)(l:List Budget)(ep:Option Addr)(eo:Nat)(DF:Int)(ba:Int)(known:Int)(hl:SlC Sj h ep eo l)(hsz0:l.length<=2000000):ju prog 229 [.slice ep l.length eo,I DF,I ba,I known] h (λv h'=>∃(rb0:Option Addr)(rc0:Nat),v=.slice rb0 (eY l DF ba known).length rc0/\SlC Sj h' rb0 rc0 (eY l DF ba known)):=by
 refine sT func229 U ntmps229 U λX hM hX hF=>?_
 have hs0:=@rfl _ (eY l DF ba known)
 refine qT 6 U (aA (oC uv ty101 (λb1=>qO 7 U ?_)))
 obtain⟨G1,gr1,ge1⟩:∃G:LH,du Sj 101 h ([]) (some ⟨b1,0,none⟩) 0 G/\[(b1,O [] 101)]=G:=⟨_,du.lit (show bz Sj h [] ([])from rfl) rfl,rfl⟩
 refine cg (L':=([])++([(b1,O [] 101)]++([]))) ap ?_
 rw[ge1]
 refine lJ (List.Perm.append_left _ List.perm_append_comm) (cg (L':=G1) ap ?_)
 refine lp2 l (λi w=>[(0,.slice ep l.length eo),(1,I DF),(2,I ba),(3,I known),(9,.slice w.2.1 w.1.length w.2.2.1),(10,I (i:Int))]) (λ_=>h) (λw=>w.2.2.2) (λi w=>du Sj 101 h w.1 w.2.1 w.2.2.1 w.2.2.2/\w.1.length<=0+i) (λs1 i w=>(eY.L1 l DF ba known (eY.K1)) s1 i w.1) ([],(some ⟨b1,0,none⟩),0,G1) hl.1.1 hs0 ⟨gr1,lo⟩ ?_ ?_ ?_
 .rintro i1 ⟨mK,rK,rJ,uL⟩ fm hs1 ⟨po,xY⟩ e
  try dsimp only at po xY
  refine qT 5 U (fx TI ([]) uL ([]) ap hM po (λh1 hle1 sl1=>?_))
  have hs2:eY l DF ba known=mK:=hs1
  exact nretH [.slice rK mK.length rJ] ⟨rK,rJ,congrArg (λr:List Budget=>(.slice rK r.length rJ:Value)) hs2.symm,(by rw[hs2];exact sl1)⟩
 .rintro i1 ⟨mK,rK,rJ,uL⟩ y1 rz1 hd1 df aS ek gu hs3 ⟨po,xY⟩ hx1 ag1 e
  try dsimp only at po xY
  refine qK 6 [] U (tO df U (qO 9 U (aA (iF kK uv ty101 hl.1 aS U U U (λq3 A3=>qL 1 [] U (iZ (j:=3) ty3 A3 U U (qO 2 U (bT 8 [24,25,26,27,28,29,30,31,32] 24 32 (y1.Kind==DF) U (λc1 hk1=>?_) (λe=>?_)))))))))
  .exact av (av (aA (iF kK uv ty101 hl.1 aS U U U (λq4 A4=>qL 1 [] U (iZ (j:=3) ty3 A4 U U (qO 3 U (hk1 _ U)))))))
  refine av (bp 6 [33,34,35,36,37,38,39] 33 39 (jk l (i1:Int) ba known) U (λc2 hk2=>?_) (λe=>?_))
  .exact av (qO 3 U (ai call297 (DA _ _ _ _ (i1:Int) ba known hl ob) U (eB U (hk2 _ U))))
  refine aF (ae hs3 U (λc3 hs4=>?_) (λc3 hs5=>?_))
  .refine qT 4 U (aA (iF kK uv ty101 hl.1 aS U U U (λq5 A5=>dt ty101 A5 U U (aA (bE (cells:=[I y1.No,I y1.At,I y1.Known,I y1.Kind,I y1.Period,I y1.Count,I y1.Value,.bool y1.Gone]) uv ty101 zc101 U U kr (λb2=>?_))))))
   let z1:Nat×Obj:=(b2,O [I y1.No,I y1.At,I y1.Known,I y1.Kind,I y1.Period,I y1.Count,I y1.Value,.bool y1.Gone] 101)
   exact aA (dE Budget.ew ([z1]) ([]) (λG=>[z1]++G) ap (λ_=>ap) uv ty101 zc101 U bytes101 po U U (e8 0 U (cE y1 U U)) lo lo (λob1 oc1 G2 gr2=>qO 5 U (oi i1 U (an (bo (L':=G2) js (ag1 ((mK++[y1]),ob1,oc1,G2) hs4 ⟨gr2,lo⟩))))))
  exact aI (qT 3 U (oi i1 U (an (ag1 (mK,rK,rJ,uL) hs5 ⟨po,lo⟩))))
 rintro i1 ⟨mK,rK,rJ,uL⟩ hd1 fS hx e
 exact qK 6 [] U (fO fS U (qO 3 U (hx _ rd)))
theorem Gg(h:HF)(x:Budget)(u:List Use)(rO:Option Addr)(rN:Nat)(value:Int)(di:Int)(known:Int)(hu:SlC Ux h rO rN u)(hxp:x.Period≠0):Ret prog 230 [.agg (kK x).toArray,.slice rO u.length rN,I value,I di,I known] h (.bool (lx x u value di known)):=by
 refine sT func230 U ntmps230 U λX hM hX hF=>?_
 have hs0:=@rfl _ (lx x u value di known)
 refine sr (cv (λb1=>qO 16 U ?_))
 refine lp1 u (λi w=>[(1,.slice rO u.length rN),(3,I di),(4,I known),(5,Q b1),(11,I w.1),(12,I w.2),(13,I (i:Int))]) ([(b1,O (kK x) 101)]) (λs1 i w=>(lx.L1 x di known (lx.K1 x)) s1 w.1 w.2) (0,value) hu.1.1 hs0 ?_ ?_ ?_
 .rintro i1 ⟨ll,nX⟩ fm hs1 e
  refine qK 7 [0] U (bT 5 [71,72,73,74,75,76] 71 76 (decide (x.Value<nX)) U (λc1 hk1=>?_) (λe=>?_))
  .exact qL 5 [0] U (hk1 _ U)
  exact an (nretP [.bool (decide (x.Count<=ll)||decide (x.Value<nX))] (cs hs1))
 .rintro i1 ⟨ll,nX⟩ y1 rz1 hd1 df aS ek gu hs3 hx1 ag1 e
  refine qK 6 [] U (tO df U (qO 6 U ?_))
  refine oa [(1,.slice rO u.length rN),(3,I di),(4,I known),(5,Q b1),(11,I ll),(12,I nX),(13,I (i1:Int)),(57,.bool ((decide (y1.Known<=known)&&((x.Kind==(-1))||(x.Kind==y1.Kind)))&&((jC .i64 (y1.At.tdiv x.Period))==(jC .i64 (di.tdiv x.Period)))))] (λe=>?_) (λhk2=>?_)
  rotate_left
  .refine er ([(b1,O (kK x) 101)]) mixed kr jn (λdY _=>?_)
   refine qA [0,1] U (eJ 2 (enc:=Sy) dY jn ei uy ty111 hu.1 (nthZ aS) (fh aS) U U U U kr (λq3 A3=>qB [3] U (tf 4 U U (rH 4 ty3 A3 U U) (qR 5 3 U ?_))))
   refine dh 28 U (λc2=>?_) (λc2=>?_)
   .have c2p:=of_decide_eq_true c2
    refine qB [8] U (tf 9 U U (rj 0 ty3 U U U) (qA [10,11] U ?_))
    refine dh 32 U (λc3=>?_) (λc3=>?_)
    .exact tk 12 U U (qR 13 12 U (eJ 25 (enc:=Sy) dY jn ei uy ty111 hu.1 (nthZ aS) (fh aS) U U U U kr (λq4 A4=>qB [26] U (tf 27 U U (rH 3 ty3 A4 U U) (qB [28] U (tf 29 U U (rj 0 ty3 U U U) (tf 30 U U (λ_ _ _=>CT U U ob) (qB [31,32] U (tf 33 U U (rj 0 ty3 U U U) (tf 34 U U (λ_ _ _=>CT U U ob) (qA [35,36] U (aJ kr (hk2 _ ⟨U,U,U,U,U,U,U,(cb (show((jC .i64 (y1.At.tdiv x.Period))==(jC .i64 (di.tdiv x.Period)))=((decide (y1.Known<=known)&&((x.Kind==(-1))||(x.Kind==y1.Kind)))&&((jC .i64 (y1.At.tdiv x.Period))==(jC .i64 (di.tdiv x.Period))))from by rw[c2,c3]<;>rfl)),trivial⟩)))))))))))))
    refine qB [12] U (tf 13 U U (rj 0 ty3 U U U) (qA [14,15] U (eJ 16 (enc:=Sy) dY jn ei uy ty111 hu.1 (nthZ aS) (fh aS) U U U U kr (λq5 A5=>qB [17] U (tf 18 U U (rH 1 ty3 A5 U U) (qR 19 4 U ?_))))))
    refine dh 43 U (λc4=>?_) (λc4=>?_)
    .exact tm 23 U (tm 24 U (eJ 25 (enc:=Sy) dY jn ei uy ty111 hu.1 (nthZ aS) (fh aS) U U U U kr (λq6 A6=>qB [26] U (tf 27 U U (rH 3 ty3 A6 U U) (qB [28] U (tf 29 U U (rj 0 ty3 U U U) (tf 30 U U (λ_ _ _=>CT U U ob) (qB [31,32] U (tf 33 U U (rj 0 ty3 U U U) (tf 34 U U (λ_ _ _=>CT U U ob) (qA [35,36] U (aJ kr (hk2 _ ⟨U,U,U,U,U,U,U,(cb (show((jC .i64 (y1.At.tdiv x.Period))==(jC .i64 (di.tdiv x.Period)))=((decide (y1.Known<=known)&&((x.Kind==(-1))||(x.Kind==y1.Kind)))&&((jC .i64 (y1.At.tdiv x.Period))==(jC .i64 (di.tdiv x.Period))))from by rw[c2,c3,c4]<;>rfl)),trivial⟩)))))))))))))
    exact tk 23 U U (qR 24 13 U (aJ kr (hk2 _ ⟨U,U,U,U,U,U,U,(cb (show false=((decide (y1.Known<=known)&&((x.Kind==(-1))||(x.Kind==y1.Kind)))&&((jC .i64 (y1.At.tdiv x.Period))==(jC .i64 (di.tdiv x.Period))))from by rw[c2,c3,c4]<;>rfl)),trivial⟩)))
   have c2p:=of_decide_eq_false c2
   exact tk 8 U U (qR 9 28 U (aJ kr (hk2 _ ⟨U,U,U,U,U,U,U,(cb (show false=((decide (y1.Known<=known)&&((x.Kind==(-1))||(x.Kind==y1.Kind)))&&((jC .i64 (y1.At.tdiv x.Period))==(jC .i64 (di.tdiv x.Period))))from by rw[c2]<;>rfl)),trivial⟩)))
  refine ae hs3 U (λc5 hs4=>?_) (λc5 hs5=>?_)
  .exact sr (qO 8 U (aA (iF Sy uy ty111 hu.1 aS U U U (λq7 A7=>qL 1 [] U (iZ (j:=2) ty3 A7 U U (qO 6 U (oi i1 U (an (ag1 ((jC .i64 (ll+1)),(jC .i64 (nX+y1.Value))) hs4)))))))))
  exact aI (qT 3 U (oi i1 U (an (ag1 (ll,nX) hs5))))
 rintro i1 ⟨ll,nX⟩ hd1 fS hx e
 exact qK 6 [] U (fO fS U (qO 3 U (hx _ rd)))
theorem Gi(h:HF)(l:List Budget)(ep:Option Addr)(eo:Nat)(u:List Use)(rO:Option Addr)(rN:Nat)(IC:Int)(value:Int)(cD:Int)(known:Int)(hl:SlC Sj h ep eo l)(hu:SlC Ux h rO rN u)(hsz:l.length<=2000000):Ret prog 138 [.slice ep l.length eo,.slice rO u.length rN,I IC,I value,I cD,I known] h (.tuple #[I ((gr l u IC value cD known).1),.bool ((gr l u IC value cD known).2.1),I ((gr l u IC value cD known).2.2)]):=by
 refine sT func138 U ntmps138 U λX hM hX hF=>?_
 have hs0:=@rfl _ (gr l u IC value cD known)
 refine qT 9 U (ai call75 (w6 _ _ _ _ hl) U (qO 8 U (ae hs0 U (λc1 hs1=>?_) (λc1 hs2=>?_))))
 .refine qT 7 U ?_
  have hs3:gr l u IC value cD known=(0,false,(fE l)):=hs1
  exact nretP [I 0,.bool false,I (fE l)] (hs3▸U)
 refine qK 8 [] U (ae hs2 U (λc2 hs4=>?_) (λc2 hs5=>?_))
 .have c2p:=of_decide_eq_true c2
  refine qT 6 U ?_
  have hs6:gr l u IC value cD known=(0,false,2):=hs4
  exact nretP [I 0,.bool false,I 2] (hs6▸U)
 have c2p:=of_decide_eq_false c2
 refine qT 5 U (ai call225 (Gh _ _ _ _ hu) U (qO 2 U (ae hs5 U (λc3 hs7=>?_) (λc3 hs8=>?_))))
 .refine qT 6 U ?_
  have hs9:gr l u IC value cD known=(0,false,180):=hs7
  exact nretP [I 0,.bool false,I 180] (hs9▸U)
 refine qT 5 U (ai call226 (yY h IC) U (qO 2 U (bT 4 [32,33,34,35,36] 32 36 (!(fJ value 0 1099511627776)) U (λc4 hk1=>?_) (λe=>?_))))
 .exact av (ai D6 (jO h value 0 1099511627776) U (qO 2 U (hk1 _ U)))
 refine av (bT 4 [37,38,39,40,41] 37 41 (!(gP cD)) U (λc5 hk2=>?_) (λe=>?_))
 .exact av (ai IH (lH h cD) U (qO 2 U (hk2 _ U)))
 refine av (bT 4 [42,43,44,45,46] 42 46 (!(gP known)) U (λc6 hk3=>?_) (λe=>?_))
 .exact av (ai IH (lH h known) U (qO 2 U (hk3 _ U)))
 refine aF (ae hs8 U (λc7 hs10=>?_) (λc7 hs11=>?_))
 .refine qT 6 U ?_
  have hs12:gr l u IC value cD known=(0,false,1):=hs10
  exact nretP [I 0,.bool false,I 1] (hs12▸U)
 refine qT 7 U (aA (cR call229 (AX _ _ _ _ IC cD known hl ob) U (λv1 h1 hle1 hp1=>?_)))
 obtain⟨rb1,rc1,rfl,sl1⟩:=hp1
 refine qO 7 U ?_
 refine lp0 (eY l IC cD known) (λi=>[(1,.slice rO u.length rN),(3,I value),(4,I cD),(5,I known),(16,.slice rb1 ((eY l IC cD known).length) rc1),(17,I (i:Int))]) ([]) (λs1 i=>(gr.L1 u value cD known (gr.K1)) s1) sl1.1.1 hs11 ?_ ?_ ?_
 .rintro i1 fm hs13 e
  refine qT 6 U ?_
  have hs14:gr l u IC value cD known=((-1),true,0):=hs13
  exact nretP [I (-1),.bool true,I 0] (hs14▸U)
 .rintro i1 y1 rz1 hd1 df aS ek gu hs15 hx1 ag1 e
  refine qK 6 [] U (tO df U (qO 9 U (aA (iF kK uv ty101 sl1.1 aS U U U (λq3 A3=>dt ty101 A3 U U (qO 4 U (ai call230 (Gg _ y1 _ _ _ value cD known (hu.mono Use.aj hle1) (H4 (by simpa using c1) (fN hd1))) U (aF (ae hs15 U (λc9 hs16=>?_) (λc9 hs17=>?_))))))))))
  .refine qT 4 U (aA (iF kK uv ty101 sl1.1 aS U U U (λq4 A4=>qL 1 [] U (dj ty3 A4 U (qO 4 U ?_)))))
   have hs18:gr l u IC value cD known=(y1.No,false,0):=hs16
   exact nretP [I y1.No,.bool false,I 0] (hs18▸U)
  exact aI (qT 3 U (oi i1 U (an (ag1 hs17))))
 rintro i1 hd1 fS hx e
 exact qK 6 [] U (fO fS U (qO 3 U (hx _ rd)))
theorem EB(h:HF)(bN:Register)(eN:fq)(signed:List Int)(cd:Option Addr)(bZ:Nat)(u:List Use)(rO:Option Addr)(rN:Nat)(doc:Int)(cD:Int)(known:Int)(jr:Sa h bN eN)(hsigned:SlC zC h cd bZ signed)(hu:SlC Ux h rO rN u)(hsm:smR bN):Ret prog 61 [.agg (vN bN eN).toArray,.slice cd signed.length bZ,.slice rO u.length rN,I doc,I cD,I known] h (I (oD bN signed u doc cD known)):=by
 refine sT func61 U ntmps61 U λX hM hX hF=>?_
 have hs0:=@rfl _ (oD bN signed u doc cD known)
 refine sr (cv (λb1=>qO 5 U (cM 0 ty30 U U U (ai call14 (EC _ _ _ jr ob) U (qO 2 U (ae hs0 U (λc1 hs1=>?_) (λc1 hs2=>?_)))))))
 .exact sr (an (nretP [I 300] (ci hs1)))
 refine qK 6 [0] U (aA (cR call137 (BX _ _ _ _ _ _ _ 0 jr.Docs hsigned hsm.2.2.2.2.2.1) U (λv1 h1 hle1 hp1=>?_)))
 obtain⟨rb1,rc1,rfl,sl1⟩:=hp1
 refine qO 12 U (ae hs2 U (λc2 hs4=>?_) (λc2 hs5=>?_))
 .exact sr (qO 3 U (nretP [I ((fp bN.Docs signed 0).2)] (ci hs4)))
 refine qK 6 [0] U (ai call138 (Gi _ _ _ _ _ _ _ 0 0 0 0 (jr.Budgets.mono TI hle1) (hu.mono Use.aj hle1) hsm.2.2.2.2.1) U (qO 14 U (ae hs5 U (λc3 hs7=>?_) (λc3 hs8=>?_))))
 .exact sr (qO 3 U (nretP [I ((gr bN.Budgets u 0 0 0 0).2.2)] (ci hs7)))
 refine qT 4 U (cM 0 ty30 U U U (av (ai call20 (H0 _ _ _ doc (jr.mono hle1)) U (qO 2 U (bT 4 [46,47,48,49,50] 46 50 (!(mC cD)) U (λc4 hk1=>?_) (λe=>?_))))))
 .exact av (ai call82 (wa h1 cD) U (qO 2 U (hk1 _ U)))
 refine av (bT 4 [51,52,53,54,55] 51 55 (!(mC known)) U (λc5 hk2=>?_) (λe=>?_))
 .exact av (ai call82 (wa h1 known) U (qO 2 U (hk2 _ U)))
 refine aF (ae hs8 U (λc6 hs10=>?_) (λc6 hs11=>?_))
 .exact sr (an (nretP [I 1] (ci hs10)))
 exact aI (qT 4 U (nretP [I 0] (ci hs11)))
theorem E9(h:HF)(bN:Register)(eN:fq)(signed:List Int)(cd:Option Addr)(bZ:Nat)(u:List Use)(rO:Option Addr)(rN:Nat)(doc:Int)(cD:Int)(known:Int)(jr:Sa h bN eN)(hsigned:SlC zC h cd bZ signed)(hu:SlC Ux h rO rN u)(hsm:smR bN):Ret prog 19 [.agg (vN bN eN).toArray,.slice cd signed.length bZ,.slice rO u.length rN,I doc,I cD,I known] h (.bool (ki bN signed u doc cD known)):=by
 refine sT func19 U ntmps19 U λX hM hX hF=>?_
 have hs0:=@rfl _ (ki bN signed u doc cD known)
 refine sr (cv (λb1=>qO 4 U (cM 0 ty30 U U U (ai call10 (HZ _ _ _ jr) U (av (bp 4 [15,16,17,18,19] 15 19 (decide ((signed.length:Int)<=40)) U (λc1 hk1=>?_) (λe=>?_)))))))
 .exact qL 4 [] U (hk1 _ U)
 refine av (bp 4 [20,21,22,23,24] 20 24 (decide ((u.length:Int)<=30)) U (λc2 hk2=>?_) (λe=>?_))
 .exact qL 4 [] U (hk2 _ U)
 refine av (bp 9 [25,26,27,28,29,30,31,32,33,34] 25 34 ((oD bN signed u doc cD known)==0) U (λc3 hk3=>?_) (λe=>?_))
 .exact cM 0 ty30 U U U (qO 5 U (ai call61 (EB _ _ _ _ _ _ _ _ _ doc cD known jr hsigned hu ob) U (qO 2 U (hk3 _ U))))
 exact an (nretP [.bool ((((lF bN)&&decide ((signed.length:Int)<=40))&&decide ((u.length:Int)<=30))&&((oD bN signed u doc cD known)==0))] (cs hs0))
theorem Nt{m:Nat}(h:m<=9223372036854775807):jC .u64 (m:Int)=m:=by
 simp only[jC,IntKind.signed,IntKind.bits]
 simp
 omega
theorem OE{m:Nat}(h:m<=9223372036854775807):jC .i64 (m:Int)=m:=by
 have:=jh (z:=(m:Int)) ob
 injection this
theorem nR(h:HF)(l:List Approval)(ep:Option Addr)(eo:Nat)(t:Int)(cmp:Approval->Int->Int)(cmp_v:Value)(k:Nat)(hl:SlC kG h ep eo l)(hcmp:∀(h':HF)(dC:Approval)(BP:Int),HF.le h h'->tv prog cmp_v [.agg (vA dC).toArray,I BP] h' [] (I (cmp dC BP)))(hk:k<=l.length)(hlo:∀i y,i<k->l[i]? = some y->cmp y t<0)(hhi:∀i y,k<=i->l[i]? = some y->¬cmp y t<0)(hsz:l.length<=2000000):
  Ret prog 116 [.slice ep l.length eo,I t,cmp_v] h (retVal [I (k:Nat),.bool ((l[k]?).any λy=>cmp y t==0)]):=by
 refine sT func116 U ntmps116 U λX hM hX hF=>qK 18 [] U ?_
 refine ir (ι:=Unit) (λ_=>[(0,.slice ep l.length eo),(1,I t),(2,cmp_v),(8,I (l.length:Int)),(9,I (k:Int))]) (λ_=>h) (λ_=>[]) (λ_=>True) ?_ (λhx=>?_)
 .rintro⟨⟩ _ e
  refine qT 5 U ?_
  rcases jL k l.length with hlt|hge
  .have hget:l[k]? = some l[k]:=qF hlt
   refine tO (decide_eq_true ob) U (qO 4 U (aA (iF vA md ty81 hl.1 hget U U U (λq A=>dt ty81 A U U (av (aA (lA (v:=I (cmp l[k] t)) [] (List.nil_sublist _) (hcmp h l[k] t lf) U U (io (v':=.bool (cmp l[k] t==0)) U U (eB (s:=true) U (qO 3 U (nretP [I (k:Int),.bool (cmp l[k] t==0)] ?_)))))))))))
   rw[hget];rfl
  have hget:l[k]? = none:=List.getElem?_eq_none hge
  refine fO (decide_eq_false ob) U (qO 9 U (eB (s:=false) U (qO 3 U (nretP [I (k:Int),.bool false] ?_))))
  rw[hget];rfl
 refine jZ (ι:=Nat×Nat) (λi=>[(0,.slice ep l.length eo),(1,I t),(2,cmp_v),(8,I (l.length:Int)),(9,I (i.1:Int)),(10,I (i.2:Int))]) (λi=>h) (λi=>[]) (λi=>i.1<=k/\k<=i.2/\i.2<=l.length) (λi=>i.2-i.1) (0,l.length) rd (λw hw=>hw) ⟨qM _,hk,Nat.le_refl _⟩ ?_
 rintro⟨i,j⟩ ⟨hik,hkj,hjl⟩ ag e
 dsimp only at hik hkj hjl
 rcases jL i j with hij|hij
 .refine qT 5 U (tO (decide_eq_true ob) U (qO 8 U (io (v':=I ((i+j:Nat):Int)) U (by rw[jh ob];rfl) (aA (eT (On (m':=((i+j:Nat):Int)) mH Rh U (Nt ob)) (aA (eT (QR (m:=i+j) U U) (aA (eT (On (m':=(((i+j)/2:Nat):Int)) Rh mH U (OE ob)) ?_)))))))))
  obtain⟨q,hq⟩:∃q,(i+j)/2=q:=⟨_,rfl⟩
  rw[hq]
  have hqj:q<j:=by omega
  have hget:l[q]? = some l[q]:=qF ob
  refine qO 7 U (aA (iF vA md ty81 hl.1 hget U U U (λq' A=>dt ty81 A U U (av (aA (lA (v:=I (cmp l[q] t)) [] (List.nil_sublist _) (hcmp h l[q] t lf) U U ?_))))))
  by_cases hc:cmp l[q] t<0
  .have hqk:q<k:=by
    rcases jL q k with h1|h1
    .exact h1
    exact(hhi q _ h1 hget hc).elim
   exact tO (decide_eq_true hc) U (qO 4 U (oi q U (qO 3 U (ag (q+1,j) _ (by show j-(q+1)<j-i;omega) ⟨hqk,hkj,hjl⟩ rd))))
  have hqk:k<=q:=by
   rcases jL q k with h1|h1
   .exact(hc (hlo q _ h1 hget)).elim
   exact h1
  exact fO (decide_eq_false hc) U (qO 7 U (ag (i,q) _ (by show q-i<j-i;omega) ⟨hik,hqk,by show q<=l.length;omega⟩ rd))
 have hki:i=k:=by omega
 subst hki
 exact dK (qT 4 U (fO (decide_eq_false ob) U (qO 3 U (hx () _ trivial rd))))
theorem Av(h:HF)(a:Approval)(no:Int)  : Ret prog 117 [.agg (vA a).toArray,I no] h (I (ip a no)):=by
 refine sT func117 U ntmps117 U λX hM hX hF=>?_
 have hs0:=@rfl _ (ip a no)
 exact sr (cv (λb1=>qL 7 [0] U (ai call118 (s9 h a.No no) U (an (nretP [I (cmp_Compare_int a.No no)] (ci hs0))))))
theorem BK(x:Approval):(vA x).length=8:=rfl
theorem F0{h:HF}{xs:List Approval}{bk c:Nat}{sp:List Value}(h3:(xs.flatMap vA++sp).length=c*8)(h4:xs.length<=c)(h5:xs.length<=9223372036854775807):du kG 81 h xs (some ⟨bk,0,none⟩) c [(bk,.cells (xs.flatMap vA++sp).toArray 81 (0,0))]:=
 .inr ⟨bk,_,sp,rfl,An (λ_ _=>rfl) BK h xs,h3,h4,h5,rfl⟩
theorem P1(A sp Y_z D:List Value)(h:Y_z.length+D.length<=sp.length):splice (splice (A++sp) A.length Y_z) (A.length+Y_z.length) D=A++(Y_z++(D++sp.drop (Y_z.length+D.length))):=by
 rw[oB Y_z A sp ob,←kC,show A.length+Y_z.length=(A++Y_z).length by simp,oB D (A++Y_z) (sp.drop Y_z.length) (by rw[List.length_drop];omega),List.drop_drop,kC]
theorem OB(A D sp Y_z:List Value)(h:Y_z.length<=sp.length):∃sp',splice (splice (A++(D++sp)) (A.length+Y_z.length) D) A.length Y_z=A++(Y_z++(D++sp')):=by
 have e1:A++(D++sp)=(A++(D++sp).take Y_z.length)++(D++sp).drop Y_z.length:=by rw[kC,List.take_append_drop]
 have hl:((D++sp).take Y_z.length).length=Y_z.length:=by rw[List.length_take,jA];omega
 have h2:=oB D (A++(D++sp).take Y_z.length) ((D++sp).drop Y_z.length) (by rw[List.length_drop,jA];omega)
 rw[jA,hl]at h2
 refine⟨((D++sp).drop Y_z.length).drop D.length,?_⟩
 rw[e1,h2,kC,oB Y_z A _ (by rw[jA,hl];omega),List.drop_append_of_le_length ob,List.drop_of_length_le ob,xG]
theorem Cp(s:List Approval)(i:Nat)(x:Approval):(s.take i++x::s.drop i).flatMap vA=(s.take i).flatMap vA++(vA x++(s.drop i).flatMap vA):=by
 rw[List.flatMap_append,List.flatMap_cons]
theorem Iy(l:List Approval):∀v∈l.flatMap vA,one v=true:=λv hv=>by
 obtain⟨x,_,hx⟩:=List.mem_flatMap.1 hv
 simp only[vA,List.mem_cons,kA,or_false]at hx
 rcases hx with rfl|rfl|rfl|rfl|rfl|rfl|rfl|rfl<;>rfl
theorem call212(args:Array Value)(w:World):(callFunc 212 args).run prog w=((Extern.SlicesOverlaps.overlaps #[28,28] #[4] args).run prog w).andThen λv w'=>.ok (.value v) w':=
 run_callFunc_extern func212 kr kr kr kr args w
theorem nI(h:HF)(s:List Approval)(i:Nat)(x:Approval)(b:Option Addr)(c vb:Nat)(G:LH)(hG:du kG 81 h s b c G)(hi:i<=s.length)(hsz:s.length<=2000000):
  nu prog 120 [.slice b s.length c,I (i:Nat),.slice (some ⟨vb,0,none⟩) 1 1].toArray h (G++[(vb,.cells (vA x).toArray 81 (0,0))]) (λr h' G'=>∃b' c',h'=h/\r=.returned (.slice b' (s.take i++x::s.drop i).length c')/\du kG 81 h (s.take i++x::s.drop i) b' c' G'):=by
 refine cB KN U ntmps120 U λX hM hX=>qT 8 U (aA (KV md ty81 U U hi (λv0=>qL 11 [] U (io (v':=.bool false) U U (qL 9 [] U (wO [(0,.slice b s.length c),(1,I (i:Int)),(2,.slice (some ⟨vb,0,none⟩) 1 1),(7,I ((1:Nat):Int)),(8,I (s.length:Int))] rd (λe=>?_)))))))
 have hlen:(s.take i++x::s.drop i).length=s.length+1:=by rw[jA,xA,List.length_take,List.length_drop];omega
 have hxl:(vA x).length=8:=rfl
 have hx1:∀v∈vA x,one v=true:=λv hv=>Iy [x] v (by simpa using hv)
 rcases jL i s.length with hlt|hge
 .refine qT 5 U (fO (decide_eq_false ob) U (qO 3 U ?_))
  rcases hG with⟨rfl,_⟩|⟨bk,cl,sp,rfl,hcl,h3,h4,h5,rfl⟩
  .simp at hlt
  have hcl':=tb (C:=vA) (λ_ _ _ e=>e) hcl
  subst hcl'
  have hgf:du kG 81 h s (some ⟨bk,0,none⟩) c [(bk,.cells (s.flatMap vA++sp).toArray 81 (0,0))]:=F0 h3 h4 h5
  have hsl:=ns BK s
  have htl:=ns BK (s.take i)
  have hdl:=ns BK (s.drop i)
  rw[List.length_take,Nat.min_eq_left (Nat.le_of_lt hlt)]at htl
  rw[List.length_drop]at hdl
  have hsplit:s.flatMap vA=(s.take i).flatMap vA++(s.drop i).flatMap vA:=by rw[←List.flatMap_append,List.take_append_drop]
  rw[jA]at h3
  replace h3:(s.flatMap vA).length+sp.length=c*8:=h3
  obtain⟨m,hm⟩:∃m,s.length-i=m:=⟨_,rfl⟩
  refine qT 5 U (io (v':=I ((s.length+1:Nat):Int)) U (xZ ob) (av (aA (eT (Rj md U) ?_))))
  rcases jL c (s.length+1)with hno|hro
  .refine tO (decide_eq_true ob) U (qO 6 U (aA (Jc (z:=(i:Int)) md ty81 hgf ob U U U (qO 2 U (io (v':=I ((s.length+1:Nat):Int)) U (xZ ob) (av (io (v':=I ((m+1:Nat):Int)) U (by rw[jh ob];congr 1;omega) ?_)))))))
   have htk:(s.take ((i:Int)).toNat)=s.take i:=by rw[Int.toNat_natCast]
   rw[htk]
   have htn:(s.take i).length=i:=by rw[List.length_take];omega
   refine aA (MT (R:=kG) (xs:=s.take i) (k:=m+1) (kn:=.i64) [] [(bk,.cells (s.flatMap vA++sp).toArray 81 (0,0))] [(vb,.cells (vA x).toArray 81 (0,0))] U md mH ty81 zc81 U (by decide) bytes81 (hgf.take i) U U U ob ob ob ob (λb2 cl2 sp2 c2 hc2 hl2 hr2=>?_))
   have hc2':=tb (C:=vA) (λ_ _ _ e=>e) hc2
   subst hc2'
   rw[jA,htl]at hl2
   rw[htn]at hr2 ⊢
   have hc2b:s.length+1<=c2:=by omega
   have hn1:i+(m+1)=s.length+1:=by omega
   rw[hn1]
   replace hl2:i*8+sp2.length=c2*8:=hl2
   refine an (wO [(0,.slice (some ⟨bk,0,none⟩) s.length c),(1,I (i:Int)),(2,.slice (some ⟨vb,0,none⟩) 1 1),(7,I ((1:Nat):Int)),(9,.slice (some ⟨b2,0,none⟩) (s.length+1) c2)] rd (λe=>qT 4 U (aA (eT (v:=.slice (some ⟨b2,i*8,none⟩) (m+1) (c2-i)) (nf md ty81 U U ob hc2b ob) (av ?_)))))
   have hmn:Nat.min 1 (m+1)=1:=Nat.min_eq_left ob
   refine aA (HW 0 2 (vs:=vA x) md ty81 U U U U (by rw[hmn];rfl) (λq v hq=>by rw[Nat.zero_add];exact hq) (by rw[jA,htl,hxl];omega) hx1 (aF (wO [(0,.slice (some ⟨bk,0,none⟩) s.length c),(1,I (i:Int)),(2,.slice (some ⟨vb,0,none⟩) 1 1),(7,I ((1:Nat):Int)),(9,.slice (some ⟨b2,0,none⟩) (s.length+1) c2)] rd (λe=>dK (er [] mixed kr ⟨xM _,λ_ hq=>(kA hq).elim⟩ (λhsep hJ=>gz 0 hsep hJ U U kr U (λ_ _ _=>ja) (gz 1 hsep hJ U U kr U (λ_ _ _=>ja) (gz 2 hsep hJ U U kr U (λ_ _ _=>ja) (gz 3 hsep hJ U U kr U (λ_ _ _=>Jo (v:=I ((i+1:Nat):Int)) (congrArg some (xZ ob))) (gz 4 hsep hJ U U kr U (λ_ _ _=>nf (m:=m) (i:=i+1) md ty81 U U ob hc2b ob) (gz 5 hsep hJ U U kr U (λ_ _ _=>ja) (gz 6 hsep hJ U U kr U (λ_ _ _=>ja) (gz 7 hsep hJ U U kr U (λ_ _ _=>nf (m:=m) (i:=i) md ty81 U U hlt h4 hm) ?_)))))))))))))
   have hmm:Nat.min m m=m:=Nat.min_self m
   have e1:(i+1)*8=((s.take i).flatMap vA).length+(vA x).length:=by rw[htl,hxl,Nat.add_mul]
   have e0:i*8=((s.take i).flatMap vA).length:=htl.symm
   have hsp:=P1 ((s.take i).flatMap vA) sp2 (vA x) ((s.drop i).flatMap vA) (by rw[hxl,hdl];omega)
   rw[←e1,←e0]at hsp
   refine tn 8 U (HW 0 1 (vs:=(s.drop i).flatMap vA) md ty81 U U U U (by rw[hmm,hdl,hm]) (λq v hq=>?_) (by rw[nV,jA,htl,hdl];omega) (Iy _) ?_)
   .rw[hsplit,kC,List.getElem?_append_right ob,htl,Nat.add_sub_cancel_left,List.getElem?_append_left (List.getElem?_eq_some_iff.1 hq).1];exact hq
   refine⟨hJ.up lf |> λ_=>⟨xM _,λ_ hq=>(kA hq).elim⟩,aJ kr (qT 5 U (bo (L':=[(b2,.cells (splice (splice ((s.take i).flatMap vA++sp2) (i*8) (vA x)) ((i+1)*8) ((s.drop i).flatMap vA)).toArray 81 (0,0))]) js ?_))⟩
   refine mN KN (λa ha w hw=>res1 U a ha w) (λw hw=>hw.lower) ⟨some ⟨b2,0,none⟩,c2,hX,?_,?_⟩
   .rw[hlen];rfl
   rw[hsp,←kC (vA x),←kC,←Cp]
   refine F0 ?_ (by rw[hlen];omega) (by rw[hlen];omega)
   rw[jA,ns BK,hlen,List.length_drop,hxl,hdl];omega
  refine fO (decide_eq_false ob) U (qO 8 U (io (v':=I ((s.length+1:Nat):Int)) U (xZ ob) (aA (eT (v:=.slice (some ⟨bk,0,none⟩) (s.length+1) c) (MY md ty81 U U hro) (an (wO [(0,.slice (some ⟨bk,0,none⟩) (s.length+1) c),(1,I (i:Int)),(2,.slice (some ⟨vb,0,none⟩) 1 1),(7,I ((1:Nat):Int))] rd (λe=>qT 7 U (oi i U (aA (eT (v:=.slice (some ⟨bk,(i+1)*8,none⟩) m (c-(i+1))) (nf md ty81 U U ob hro ob) (aA (QM 1 0 call212 md ty81 U U U (by decide) (by rw[jA,hsl];omega) (qO 3 U (wO [(0,.slice (some ⟨bk,0,none⟩) (s.length+1) c),(1,I (i:Int)),(2,.slice (some ⟨vb,0,none⟩) 1 1),(7,I ((1:Nat):Int))] rd (λe=>dK (er [] mixed kr ⟨xM _,λ_ hq=>(kA hq).elim⟩ (λhsep hJ=>gz 0 hsep hJ U U kr U (λ_ _ _=>ja) (gz 1 hsep hJ U U kr U (λ_ _ _=>ja) (gz 2 hsep hJ U U kr U (λ_ _ _=>ja) (gz 3 hsep hJ U U kr U (λ_ _ _=>Jo (v:=I ((i+1:Nat):Int)) (congrArg some (xZ ob))) (gz 4 hsep hJ U U kr U (λ_ _ _=>nf (m:=m) (i:=i+1) md ty81 U U ob hro ob) (gz 5 hsep hJ U U kr U (λ_ _ _=>ja) (gz 6 hsep hJ U U kr U (λ_ _ _=>ja) (gz 7 hsep hJ U U kr U (λ_ _ _=>nf (m:=m+1) (i:=i) md ty81 U U ob hro ob) ?_))))))))))))))))))))))))
  have hmm:Nat.min (m+1) m=m:=Nat.min_eq_right ob
  refine tn 8 U (HW 0 0 (vs:=(s.drop i).flatMap vA) md ty81 U U U U (by rw[hmm,hdl,hm]) (λq v hq=>?_) (by rw[jA,hsl,hdl];omega) (Iy _) ?_)
  .rw[hsplit,kC,List.getElem?_append_right ob,htl,Nat.add_sub_cancel_left,List.getElem?_append_left (List.getElem?_eq_some_iff.1 hq).1];exact hq
  refine⟨⟨xM _,λ_ hq=>(kA hq).elim⟩,aJ kr (wO [(0,.slice (some ⟨bk,0,none⟩) (s.length+1) c),(1,I (i:Int)),(2,.slice (some ⟨vb,0,none⟩) 1 1),(7,I ((1:Nat):Int))] rd (λe=>qT 4 U (aA (eT (v:=.slice (some ⟨bk,i*8,none⟩) (m+1) (c-i)) (nf md ty81 U U ob hro ob) (av ?_)))))⟩
  have hmn:Nat.min 1 (m+1)=1:=Nat.min_eq_left ob
  refine aA (HW 0 1 (vs:=vA x) md ty81 U U U U (by rw[hmn];rfl) (λq v hq=>by rw[Nat.zero_add];exact hq) (by rw[nV,jA,hsl,hxl];omega) hx1 (qO 6 U ?_))
  have e1:(i+1)*8=((s.take i).flatMap vA).length+(vA x).length:=by rw[htl,hxl,Nat.add_mul]
  have e0:i*8=((s.take i).flatMap vA).length:=htl.symm
  obtain⟨sp',hsp⟩:=OB ((s.take i).flatMap vA) ((s.drop i).flatMap vA) sp (vA x) (by rw[hxl];omega)
  rw[←e1,←e0,←kC ((s.take i).flatMap vA),←hsplit]at hsp
  have hl9:=congrArg List.length hsp
  rw[nV,nV]at hl9
  simp only[jA]at hl9
  refine bo (L':=[(bk,.cells (splice (splice (s.flatMap vA++sp) ((i+1)*8) ((s.drop i).flatMap vA)) (i*8) (vA x)).toArray 81 (0,0))]) js ?_
  refine mN KN (λa ha w hw=>res1 U a ha w) (λw hw=>hw.lower) ⟨some ⟨bk,0,none⟩,c,hX,?_,?_⟩
  .rw[hlen];rfl
  rw[hsp,←kC (vA x),←kC,←Cp]
  refine F0 ?_ (by rw[hlen];omega) (by rw[hlen];omega)
  rw[jA,Cp,jA,jA];omega
 have hie:i=s.length:=by omega
 subst hie
 refine qT 5 U (tO (decide_eq_true U) U (qO 6 U (aA (dE (R:=kG) (xs:=s) (ys:=[x]) (G:=G) Approval.ew [] [(vb,.cells (vA x).toArray 81 (0,0))] (λG'=>[(vb,.cells (vA x).toArray 81 (0,0))]++G') U (λ_=>U) md ty81 zc81 U bytes81 hG U U (e8 (R:=kG) (ys:=[x]) G.length (If G _ []) ⟨_,[],by simp,U,U,U⟩) lo lo (λb' c' G' hG'=>an (bo (List.sublist_append_right _ G') ?_))))))
 refine mN KN (λa ha w hw=>res1 U a ha w) (λw hw=>hw.lower) ⟨b',c',hX,?_,?_⟩
 .rw[List.take_length,List.drop_length];rfl
 rw[List.take_length,List.drop_length];exact hG'
theorem nQ(h:HF)(l:List Approval)(b:Option Addr)(c:Nat)(hl:SlC kG h b c l)(hsz:l.length<=2000000):
  nu prog 121 [.slice b l.length c].toArray h [] (λr h' G'=>∃b' c',h'=h/\r=.returned (.slice b' l.length c')/\du kG 81 h l b' c' G'):=by
 refine cB func121 U ntmps121 U λX hM hX=>qT 8 U (aA (eT (PP md U U) ?_))
 cases b with
 |none=>
  have h0:l=[]:=by
   cases l with
   |nil=>rfl
   |cons x l=>obtain⟨p,cs_z,e,_⟩:=hl.1.2 0 x rfl;cases e
  subst h0
  exact aF (qT 5 U (mN func121 (λa ha w hw=>res1 U a ha w) (λw hw=>hw.lower) ⟨none,0,hX,U,du.nil⟩))
 |some b=>
  exact aF (qT 4 U (aA (oC md ty81 (λbk=>av (aA (dE (R:=kG) (xs:=[]) (ys:=l) (base:=some ⟨bk,0,none⟩) (cap:=0) (G:=[(bk,.cells #[] 81 (0,0))]) Approval.ew [] [] (λG=>G) U (λ_=>U) md ty81 zc81 U bytes81 (du.lit (cl:=[]) U U) U U (lR hl.1) (by simp only[vB];omega) (by simp only[vB];omega) (λb' c' G' hG=>an (mN func121 (λa ha w hw=>res1 U a ha w) (λw hw=>hw.lower) ⟨b',c',hX,U,hG⟩))))))))
theorem Cz(h:HF)(l:List Approval)(ep:Option Addr)(eo:Nat)(x:Approval)(hl:SlC kG h ep eo l):
  ju prog 46 [.slice ep l.length eo,.agg (vA x).toArray] h (λv h'=>∃(rb0:Option Addr)(rc0:Nat),v=.tuple #[.slice rb0 (bY l x).1.length rc0,I (bY l x).2]/\SlC kG h' rb0 rc0 (bY l x).1):=by
 refine sT func46 U ntmps46 U λX hM hX hF=>?_
 have hs0:=@rfl _ (bY l x)
 refine sr (cv (λb3=>qO 7 U (ai call71 (oz h l ep eo hl) U (qO 7 U (ae hs0 U (λc1 hs1=>?_) (λc1 hs1=>?_))))))
 .refine qT 6 U ?_
  refine nretH [.slice none 0 0,I (aX l)] ⟨none,0,?_,?_⟩
  .rw[hs1];rfl
  rw[hs1];exact kE
 have hc:aX l=0:=by simpa using c1
 obtain⟨hsz,hinc⟩:=qj hc
 refine qK 6 [0] U (ai call116 (nR h l ep eo x.No ip (.func (.func 117) #[] #[]) (addAt l x.No) hl (λh' dC BP hle=>iq call117 (Av h' dC BP)) (F5 l x.No) (KD l x.No) (KE hinc x.No) ob) U ?_)
 rw[KF hinc]
 refine av (mL (vs:=[I ((addAt l x.No:Nat):Int),.bool (l.any (λy=>y.No==x.No))]) U U (mL (vs:=[I ((addAt l x.No:Nat):Int),.bool (l.any (λy=>y.No==x.No))]) U U (qO 3 U (wO [(0,.slice ep l.length eo),(3,Q b3),(6,I ((addAt l x.No:Nat):Int)),(7,.bool (l.any (λy=>y.No==x.No)))] rd (λe=>qT 4 U (cM 0 ty81 U U U (ai call119 (tc h x) U (qO 3 U (ae hs1 U (λc2 hs2=>?_) (λc2 hs2=>?_))))))))))
 .refine qT 5 U ?_
  refine nretH [.slice none 0 0,I 280] ⟨none,0,?_,?_⟩
  .rw[hs2];rfl
  rw[hs2];exact kE
 refine qT 5 U (ae hs2 U (λc3 hs3=>?_) (λc3 hs3=>?_))
 .refine qT 5 U ?_
  refine nretH [.slice none 0 0,I 151] ⟨none,0,?_,?_⟩
  .rw[hs3];rfl
  rw[hs3];exact kE
 refine qK 7 [] U (ae hs3 U (λc4 hs4=>?_) (λc4 hs4=>?_))
 .refine qT 5 U ?_
  refine nretH [.slice none 0 0,I 2] ⟨none,0,?_,?_⟩
  .rw[hs4];rfl
  rw[hs4];exact kE
 refine qT 2 U (wO [(0,.slice ep l.length eo),(3,Q b3),(6,I ((addAt l x.No:Nat):Int))] rd (λe=>dK ?_))
 let z1:Nat×Obj:=(b3,.cells (vA x).toArray 81 (0,0))
 refine er [z1] mixed kr jn (λhsep hJ=>?_)
 have hJ':∀{L:LH}(B:LH),Jst h [z1] h (B++z1::L):=λB=>⟨xM _,λp hp=>List.mem_append_right _ (by rw[xC.1 hp];exact List.mem_cons_self)⟩
 refine gz 0 hsep hJ U U kr U (λ_ _ _=>ja) (gz 2 hsep hJ U U kr U (λ_ _ _=>ja) (gz 3 hsep hJ U U kr U (λ_ _ hj=>jg ty81 U (hj.nth (i:=0) U) U) ?_))
 have hins:l.take (addAt l x.No)++x::l.drop (addAt l x.No)=(bY l x).1:=by rw[hs4,F4,F6]
 have fin:∀(A0 Q_z:LH)(G:LH)(bb:Option Addr)(cc:Nat)(e:Env),du kG 81 h (bY l x).1 bb cc G->e 4=.slice bb (bY l x).1.length cc->e 5=I 0->TT prog (bodyFrame 46) 36 [.code .ret] (lQ prog X (λx' h' B=>B=[]/\∃v,x'=.returned v/\∃(rb0:Option Addr)(rc0:Nat),v=.tuple #[.slice rb0 (bY l x).1.length rc0,I (bY l x).2]/\SlC kG h' rb0 rc0 (bY l x).1)) e [] X h (A0++(G++Q_z)):=λA0 Q_z G bb cc e hg h4 h5=>by
  refine fx zH A0 G Q_z U hM hg (λh2 hle hsl=>jY [.slice bb (bY l x).1.length cc,I 0] func46 U ⟨h4,h5,trivial⟩ ⟨bb,cc,?_,hsl⟩)
  rw[hs4];rfl
 refine m6 1 4 kr U U ?_ ?_
 .refine AR [] [] [z1] (λG=>G++[z1]) call121 (nQ h l ep eo hl ob) U (λ_=>U) U (λb1 c1 G1 hG1=>⟨hJ' G1,tn 4 U (bE (cells:=vA x) md ty81 zc81 U U kr (λvb=>⟨hJ' (_::G1),tn 5 U (BV (L':=[]++((G1++[(vb,.cells (vA x).toArray 81 (0,0))])++[z1])) (by rw[xG,kC];exact(List.perm_middle (l₁:=G1) (l₂:=[z1]) (a:=(vb,O (vA x) 81))).symm) (AR [] (G1++[(vb,.cells (vA x).toArray 81 (0,0))]) [z1] (λG=>G++[z1]) call120 (nI h l (addAt l x.No) x b1 c1 vb G1 hG1 (F5 l x.No) ob) U (λ_=>U) U (λb2 c2 G2 hG2=>⟨hJ' G2,?_⟩)))⟩))⟩)
  rw[hins]at hG2 ⊢
  exact gz 6 hsep (hJ' G2) U U kr U (λ_ _ _=>xa) (gz 7 hsep (hJ' G2) U U kr U (λ_ _ _=>xa) (aJ kr (fin [] _ G2 b2 c2 _ hG2 U U)))
 refine bE (cells:=vA x) md ty81 zc81 U U kr (λvb=>⟨hJ' [_],tn 1 U (AR [] [] [(vb,.cells (vA x).toArray 81 (0,0)),z1] (λG=>G++[(vb,.cells (vA x).toArray 81 (0,0)),z1]) call121 (nQ h l ep eo hl ob) U (λ_=>U) U (λb1 c1 G1 hG1=>⟨⟨xM _,λp hp=>by rw[xC.1 hp];simp⟩,tn 5 U (AR [] (G1++[(vb,.cells (vA x).toArray 81 (0,0))]) [z1] (λG=>G++[z1]) call120 (nI h l (addAt l x.No) x b1 c1 vb G1 hG1 (F5 l x.No) ob) (by simp) (λ_=>U) U (λb2 c2 G2 hG2=>⟨hJ' G2,?_⟩))⟩))⟩)
 rw[hins]at hG2 ⊢
 exact gz 6 hsep (hJ' G2) U U kr U (λ_ _ _=>xa) (gz 7 hsep (hJ' G2) U U kr U (λ_ _ _=>xa) (aJ kr (fin [] _ G2 b2 c2 _ hG2 U U)))
end
section
open Go.Proofs Go.Proofs.Tryz
set_option maxHeartbeats 2000000
theorem law30_JudgeMore_top{w:World}(h:HF)(hp:Pre h [] w)(bN:Register)(eN:fq)(signed:List Int)(cd:Option Addr)(bZ:Nat)(u:List Use)(rO:Option Addr)(rN:Nat)(doc:Int)(cD:Int)(known:Int)(x:Approval)(jr:Sa h bN eN)(hsigned:SlC zC h cd bZ signed)(hu:SlC Ux h rO rN u)(hsm:smR bN)(hk:Kinds h):Calls prog 8 [.agg (vN bN eN).toArray,.slice cd signed.length bZ,.slice rO u.length rN,I doc,I cD,I known,.agg (vA x).toArray].toArray w λe w'=>e=.returned (.bool (cz bN signed u doc cD known x))/\RowKit.Below w.heap.size w w':=by
 refine Kw hp Ec U ntmps8 U λX hM hX=>?_
 have hs0:=@rfl _ (cz bN signed u doc cD known x)
 refine sr (cv (λb1=>cv (λb2=>qO 5 U (ai call9 (Gu h  hk) U (qO 2 U (ae hs0 U (λc1 hs1=>?_) (λc1 hs2=>?_)))))))
 .exact sr (an (sB [.bool false] Ec U hX rd (cs hs1)))
 .refine qT 4 U (cM 1 ty30 U U U (qO 5 U (ai call19 (E9 _ _ _ _ _ _ _ _ _ doc cD known jr hsigned hu ob) U (qO 2 U (bT 3 [39,40,41,42] 39 42 x.Gone U (λc2 hk1=>?_) (λe=>?_))))))
  .exact qL 3 [0] U (hk1 _ U)
  refine aF (ae hs2 U (λc3 hs4=>?_) (λc3 hs5=>?_))
  .exact sr (an (sB [.bool true] Ec U hX rd (cs hs4)))
  .refine qK 9 [1] U ?_
   let z4:Nat×Obj:=(b1,O (vN bN eN) 30)
   let z5:Nat×Obj:=(b2,O (vA x) 81)
   refine lp0 bN.Approvals (λi=>[(1,.slice cd signed.length bZ),(2,.slice rO u.length rN),(3,I doc),(4,I cD),(5,I known),(7,Q b1),(13,Q b2),(44,.slice eN.rx bN.Approvals.length eN.ru),(45,I (bN.Approvals.length:Int)),(46,I (i:Int))]) ([z5,z4]) (λs1 i=>(cz.L1 x (cz.K1 bN signed u doc cD known x)) s1 ) jr.Approvals.1.1 hs5 ?_ ?_
   .rintro i1 fm hs7 e
    refine sr (cM 1 ty30 U U U (aT zc30 (λb4=>aO 0 ty30 U U U U U U (qL 5 [2] U (cM 1 ty81 U U U (aA (cR call46 (Cz _ _ _ _ x jr.Approvals) U (λv1 h1 hle1 hp1=>?_))))))))
    obtain⟨rb1,rc1,rfl,sl1⟩:=hp1
    refine qO 12 U (ae hs7 U (λc4 hs8=>?_) (λc4 hs9=>?_))
    .exact sr (an (sB [.bool true] Ec U hX rd (cs hs8)))
    .refine qK 5 [] U (cJ 0 ty28 U U U U U U (qO 3 U (cM 2 ty30 U U U (qO 5 U (aA (cR GO (ly _ _ _ _ _ _ _ _ _ doc cD known (jr.mono hle1) (hsigned.mono xH hle1) (hu.mono Use.aj hle1) (by first|exact hsm|exact Pq hsm x) (show bN.Docs.length<20 from(CO (by have hq:=(by assumption:((!(ki bN signed u doc cD known))||x.Gone)=false);simp only[Bool.or_eq_false_iff,Bool.not_eq_false']at hq;exact hq.1)).1) (hk.mono hle1)) U (λv2 h2 hle2 hp2=>?_)))))))
     obtain⟨rr1,rfl,ok1⟩:=hp2
     refine qO 3 U (aT zc36 (λb5=>aO 0 ty36 U U U U U U (qO 4 U (cM 1 ty30 U U U (qO 5 U (aA (cR GO (ly _ _ _ _ _ _ _ _ _ doc cD known (show Sa h2 (zK bN.Appoints bN.Deputies bN.Interests bN.Budgets bN.Versions bN.Docs ((bY bN.Approvals x).1)) (fq.mk eN.qb eN.pZ eN.pY eN.pX eN.oK eN.oJ eN.ss eN.so eN.ke eN.kd eN.CD eN.CC rb1 rc1)from⟨(jr.Appoints.mono Appoint.aj (hle1.t hle2)),(jr.Deputies.mono Deputy.aj (hle1.t hle2)),(jr.Interests.mono Interest.aj (hle1.t hle2)),(jr.Budgets.mono TI (hle1.t hle2)),(jr.Versions.mono Version.aj (hle1.t hle2)),(jr.Docs.mono Document.aj (hle1.t hle2)),(sl1.mono zH hle2)⟩) (hsigned.mono xH (hle1.t hle2)) (hu.mono Use.aj (hle1.t hle2)) (by first|exact hsm|exact Pq hsm x) (show bN.Docs.length<20 from(CO (by have hq:=(by assumption:((!(ki bN signed u doc cD known))||x.Gone)=false);simp only[Bool.or_eq_false_iff,Bool.not_eq_false']at hq;exact hq.1)).1) (hk.mono (hle1.t hle2))) U (λv3 h3 hle3 hp3=>?_))))))))
     obtain⟨rr2,rfl,ok2⟩:=hp3
     refine qO 3 U (aT zc36 (λb6=>aO 0 ty36 U U U U U U (qO 8 U (bT 3 [111,112,113,114] 111 114 ((bJ (zK bN.Appoints bN.Deputies bN.Interests bN.Budgets bN.Versions bN.Docs ((bY bN.Approvals x).1)) signed u doc cD known).2 != 0) U (λc5 hk2=>?_) (λe=>?_)))))
     .exact av (qO 2 U (hk2 _ U))
     refine av (bT 9 [115,116,117,118,119,120,121,122,123,124] 115 124 ((((bJ bN signed u doc cD known).1).State==0)&&(((bJ (zK bN.Appoints bN.Deputies bN.Interests bN.Budgets bN.Versions bN.Docs ((bY bN.Approvals x).1)) signed u doc cD known).1).State != 0)) U (λc6 hk3=>?_) (λe=>?_))
     .refine qL 4 [1] U (bp 4 [119,120,121,122,123] 119 123 (((bJ (zK bN.Appoints bN.Deputies bN.Interests bN.Budgets bN.Versions bN.Docs ((bY bN.Approvals x).1)) signed u doc cD known).1).State != 0) U (λc7 hk4=>?_) (λe=>?_))
      .exact qL 4 [0] U (hk4 _ U)
      exact eB U (hk3 _ U)
     refine av (bT 9 [125,126,127,128,129,130,131,132,133,134] 125 134 ((((bJ bN signed u doc cD known).1).State==4)&&(((bJ (zK bN.Appoints bN.Deputies bN.Interests bN.Budgets bN.Versions bN.Docs ((bY bN.Approvals x).1)) signed u doc cD known).1).State != 4)) U (λc8 hk5=>?_) (λe=>?_))
     .refine qL 4 [1] U (bp 4 [129,130,131,132,133] 129 133 (((bJ (zK bN.Appoints bN.Deputies bN.Interests bN.Budgets bN.Versions bN.Docs ((bY bN.Approvals x).1)) signed u doc cD known).1).State != 4) U (λc9 hk6=>?_) (λe=>?_))
      .exact qL 4 [0] U (hk6 _ U)
      exact eB U (hk5 _ U)
     refine aF (ae hs9 U (λc10 hs11=>?_) (λc10 hs12=>?_))
     .exact sr (an (sB [.bool false] Ec U hX rd (cs hs11)))
     .refine qT 3 U (aA (nw (λb7=>qL 10 [1] U ?_)))
      let z1:Nat×Obj:=(b4,O [.slice eN.qb bN.Appoints.length eN.pZ,.slice eN.pY bN.Deputies.length eN.pX,.slice eN.oK bN.Interests.length eN.oJ,.slice eN.ss bN.Budgets.length eN.so,.slice eN.ke bN.Versions.length eN.kd,.slice eN.CD bN.Docs.length eN.CC,.slice rb1 (((bY bN.Approvals x).1).length) rc1] 30)
      let z2:Nat×Obj:=(b6,O (gj.cells ((bJ (zK bN.Appoints bN.Deputies bN.Interests bN.Budgets bN.Versions bN.Docs ((bY bN.Approvals x).1)) signed u doc cD known).1) rr2) 36)
      let z3:Nat×Obj:=(b5,O (gj.cells ((bJ bN signed u doc cD known).1) rr1) 36)
      refine lp2 (((bJ (zK bN.Appoints bN.Deputies bN.Interests bN.Budgets bN.Versions bN.Docs ((bY bN.Approvals x).1)) signed u doc cD known).1).Who) (λi w=>[(20,Q b5),(22,Q b6),(24,.map (some b7)),(137,.slice rr2.Ds (((bJ (zK bN.Appoints bN.Deputies bN.Interests bN.Budgets bN.Versions bN.Docs ((bY bN.Approvals x).1)) signed u doc cD known).1).Who.length) rr2.Dr),(138,I ((((bJ (zK bN.Appoints bN.Deputies bN.Interests bN.Budgets bN.Versions bN.Docs ((bY bN.Approvals x).1)) signed u doc cD known).1).Who.length:Nat):Int)),(139,I (i:Int))]) (λ_=>h3) (λw=>[(b7,w.2),z2,z3,z1,z5,z4]) (λi w=>i9 (zD .i64) n0 h3 w.2 w.1/\w.1.length<=0+i) (λs2 i w=>(cz.L2 (cz.K2 bN signed u doc cD known x)) s2 w.1) ([],.map #[] 0) ok2.Who.1.1 hs12 ⟨(i9.nil (enc:=(zD .i64)) (V:=n0) (h:=h3)),lc⟩ ?_ ?_
      .rintro i2 ⟨nD,J7⟩ yP hs14 ⟨Fp,OR⟩ e
       refine qK 8 [2] U ?_
       refine lp0 (((bJ bN signed u doc cD known).1).Who) (λi=>[(20,Q b5),(22,Q b6),(24,.map (some b7)),(147,.slice rr1.Ds (((bJ bN signed u doc cD known).1).Who.length) rr1.Dr),(148,I ((((bJ bN signed u doc cD known).1).Who.length:Nat):Int)),(149,I (i:Int))]) ([(b7,J7),z2,z3,z1,z5,z4]) (λs3 i=>(cz.L3 nD (cz.K3 bN signed u doc cD known x)) s3 ) ((ok1.Who.mono xH hle3).1.1) hs14 ?_ ?_
       .rintro i3 Gx hs15 e
        exact qK 6 [2,1] U (ai call18 (tC _ _ _ _ _ _ _ (ok1.Versions.mono xH hle3) ok2.Versions) U (an (sB [.bool (gf (((bJ bN signed u doc cD known).1).Versions) (((bJ (zK bN.Appoints bN.Deputies bN.Interests bN.Budgets bN.Versions bN.Docs ((bY bN.Approvals x).1)) signed u doc cD known).1).Versions))] Ec U hX rd (cs hs15))))
       .rintro i3 y3 rz3 hd3 Cr Dd Db P4 hs17 hx3 ag1 e
        refine sr (tO Cr U (qO 8 U (aA (iF (λy=>[I y]) ec ty3 (ok1.Who.mono xH hle3).1 Dd U U U (λq7 A7=>dj ty3 A7 U (qO 6 U (aA (oO 0 (k:=y3) IP (fA mH) U Fp (eX zv4) (show n0 _ (.bool false) false from U) U U (λv8 hv5=>?_)))))))))
        obtain rfl:=hv5
        refine qO 2 U (ae hs17 U (λc18 hs18=>?_) (λc18 hs19=>?_))
        .exact sr (an (sB [.bool false] Ec U hX rd (cs hs18)))
        .exact aI (qT 2 U (oi i3 U (qO 2 U (ag1 hs19))))
      .rintro i2 ⟨nD,J7⟩ y2 rz2 hd2 vq qU Dc J3 hs21 ⟨Fp,OR⟩ hx2 ag2 e
       exact sr (tO vq U (qO 8 U (aA (iF (λy=>[I y]) ec ty3 ok2.Who.1 qU U U U (λq8 A8=>dj ty3 A8 U (qO 5 U (aA (j3 0 (k:=y2) (x:=true) IP (fA mH) U Fp U U U (λmo2 hm2=>qO 3 U (oi i2 U (qO 2 U (ag2 ((mput nD y2 true),mo2) hs21 ⟨hm2,(by have:=mj nD y2 true;first|omega|(simp only[vB,xA]at *;omega))⟩))))))))))))
   .rintro i1 y1 rz1 hd1 df aS ek gu hs22 hx1 ag3 e
    refine sr (tO df U (qO 8 U (aA (iF vA md ty81 jr.Approvals.1 aS U U U (λq9 A9=>dt ty81 A9 U U (aT zc81 (λb8=>aO 0 ty81 U U U U U U (qL 9 [0,1] U (bp 6 [55,56,57,58,59,60,61] 55 61 (y1.By==x.By) U (λc19 hk7=>?_) (λe=>?_))))))))))
    .exact qL 6 [0,1] U (hk7 _ U)
    refine av (bp 6 [62,63,64,65,66,67,68] 62 68 (y1.For==x.For) U (λc20 hk8=>?_) (λe=>?_))
    .exact qL 6 [0,1] U (hk8 _ U)
    refine av (bp 6 [69,70,71,72,73,74,75] 69 75 (y1.Office==x.Office) U (λc21 hk9=>?_) (λe=>?_))
    .exact qL 6 [0,1] U (hk9 _ U)
    refine aF (ae hs22 U (λc22 hs23=>?_) (λc22 hs24=>?_))
    .exact sr (an (sB [.bool true] Ec U hX rd (cs hs23)))
    .exact aI (qT 2 U (oi i1 U (qO 2 U (bo (L':=[z5,z4]) js (ag3 hs24)))))
end
end Go.Sg

namespace Go.Proofs.YtpplkjhgggjaoaaGreatDoor.judgeMore
open Go.ChangeShapes Go.WideShapes Go.ChangeAt Go.RowKit
theorem own:ownKnob Tryz.prog.godebug=none:=by kernel_rfl
theorem laidOut:laidOutB Tryz.prog=true:=by kernel_rfl
theorem contract(H:Type)(enc:TypeId×Value->H)(W:World)(base:Nat)(args:Array Value)(ds gs:List (DataW H))(before:List MemPlace)(hval:∀(j:Nat)t v,Tryz.f8.params[j]? = some t->args[j]? = some v->Value.okWide Tryz.prog W .any base t v)(hW:DataW.Whole enc Tryz.prog Tryz.f8.params.toList Rows.judgeMoreSpec.vars false W args.toList ds gs before)(hcond:Rows.uptoSmall H (ds++gs)=true)(hL:laidMetH Tryz.prog Rows.judgeMoreUptoRow.laid W):
    Calls Tryz.prog 8 args W λe W'=>∃v,e=.returned v/\Rows.judgeMoreSpec.post enc Tryz.prog Tryz.f8 false true false false W args v W':=by
  have hW':=hW
  obtain⟨p,q,hA0,hV,rfl,hfz,hnd⟩:=hW
  have hA:DataW.TrodAll enc Tryz.prog W 0 (λ_=>true) true Tryz.f8.params.toList args.toList ds p:=hA0
  rw[Tryz.params8]at hA hval
  obtain⟨v0,vs0,d0,ds0,p0,z0,hargs,rfl,rfl,h0,t0⟩:=trodAll_cons hA
  obtain⟨v1,vs1,d1,ds1,p1,z1,rfl,rfl,rfl,h1,t1⟩:=trodAll_cons t0
  obtain⟨v2,vs2,d2,ds2,p2,z2,rfl,rfl,rfl,h2,t2⟩:=trodAll_cons t1
  obtain⟨v3,vs3,d3,ds3,p3,z3,rfl,rfl,rfl,h3,t3⟩:=trodAll_cons t2
  obtain⟨v4,vs4,d4,ds4,p4,z4,rfl,rfl,rfl,h4,t4⟩:=trodAll_cons t3
  obtain⟨v5,vs5,d5,ds5,p5,z5,rfl,rfl,rfl,h5,t5⟩:=trodAll_cons t4
  obtain⟨v6,vs6,d6,ds6,p6,z6,rfl,rfl,rfl,h6,t6⟩:=trodAll_cons t5
  obtain⟨rfl,rfl,rfl⟩:=trodAll_nil t6
  obtain rfl:args=#[v0,v1,v2,v3,v4,v5,v6]:=by cases args;simp_all
  obtain⟨rfl,rfl⟩:=trodVars_none hV
  clear hA0 hA
  have h0k:=h0
  have h1k:=h1
  have h2k:=h2
  have h3k:=h3
  have h4k:=h4
  have h5k:=h5
  have h6k:=h6
  simp only[List.append_nil]at hW' hcond
  have hB:Rows.uptoBulkAll [d0,d1,d2,d3,d4,d5,d6]<=1048576:=of_decide_eq_true hcond
  obtain⟨a0,rfl,_⟩:=okWide_struct Tryz.underlying30 (hval 0 30 v0 rfl rfl)
  obtain⟨f0,g0⟩:=h0
  obtain⟨x0,⟨r0,e0,o0⟩,q0⟩:=Sg.opn_Register f0 _ _ _ g0
  obtain rfl:a0=(Sg.Register.cells x0 r0).toArray:=by
    apply Array.toList_inj.1;exact e0
  obtain⟨b1,l1,c1,rfl⟩:=okWide_slice Tryz.underlying31 (hval 1 31 v1 rfl rfl)
  obtain⟨f1,g1⟩:=h1
  obtain⟨b1',c1',x1,e1,o1,q1⟩:=Sg.opn_slice (R:=Sg.Rp.int) (sz:=λ_=>1) Tryz.underlying31 (by kernel_rfl) (by decide) (λk _=>Sg.opn_int (by kernel_rfl) k) g1
  cases e1
  obtain⟨b2,l2,c2,rfl⟩:=okWide_slice Tryz.underlying32 (hval 2 32 v2 rfl rfl)
  obtain⟨f2,g2⟩:=h2
  obtain⟨b2',c2',x2,e2,o2,q2⟩:=Sg.opn_slice (R:=Sg.Use.rp) (sz:=λ_=>1) Tryz.underlying32 (by kernel_rfl) (by decide) (λk _=>Sg.opn_Use k) g2
  cases e2
  obtain⟨n3,rfl⟩:=okWide_int Tryz.underlying3 (hval 3 3 v3 rfl rfl)
  obtain⟨n4,rfl⟩:=okWide_int Tryz.underlying3 (hval 4 3 v4 rfl rfl)
  obtain⟨n5,rfl⟩:=okWide_int Tryz.underlying3 (hval 5 3 v5 rfl rfl)
  obtain⟨a6,rfl,_⟩:=okWide_struct Tryz.underlying81 (hval 6 81 v6 rfl rfl)
  obtain⟨f6,g6⟩:=h6
  obtain⟨x6,e6,q6⟩:=Sg.opn_Approval f6 _ _ _ g6
  obtain rfl:a6=(Sg.Approval.cells x6).toArray:=by
    apply Array.toList_inj.1;exact e6
  simp only[Rows.uptoBulkAll]at hB
  have y1:=Sg.szL_len (f:=λ_:Int=>1) (λ_=>Nat.le_refl _) x1
  have y2:=Sg.szL_len (f:=λ_:Sg.Use=>1) (λ_=>Nat.le_refl _) x2
  have z0b:=Sg.bulk_one d0
  have z1b:=Sg.bulk_one d1
  have z2b:=Sg.bulk_one d2
  have z3b:=Sg.bulk_one d3
  have z4b:=Sg.bulk_one d4
  have z5b:=Sg.bulk_one d5
  have z6b:=Sg.bulk_one d6
  have walk:=Sg.law30_JudgeMore_top (Sg.hOf W) (Sg.pre_hOf W) x0 r0 x1 b1 c1 x2 b2 c2 n3 n4 n5 x6 o0 o1 o2 (Sg.smR_of (by omega)) (Sg.kinds_of hL)
  rw[Sg.more_true (Sg.smR_of (by omega))]at walk
  refine walk.mono λe W'⟨he,hb⟩=>?_
  subst he
  exact⟨_,rfl,Sg.post_below (pa:=p0++(p1++(p2++(p3++(p4++(p5++(p6++([])))))))) (pv:=[]) hW' (λ_ _ _=>trodAll_cons_mk (shut_bool Tryz.underlying4 _) trodAll_mk0) (λsp hsp=>(trodAll_cons_mk (Sg.stays laidOut (by kernel_rfl) (by kernel_rfl) h0k hb hW'.lt (λx hx=>by simp[hx]) hsp) (trodAll_cons_mk (Sg.stays laidOut (by kernel_rfl) (by kernel_rfl) h1k hb hW'.lt (λx hx=>by simp[hx]) hsp) (trodAll_cons_mk (Sg.stays laidOut (by kernel_rfl) (by kernel_rfl) h2k hb hW'.lt (λx hx=>by simp[hx]) hsp) (trodAll_cons_mk (Sg.stays laidOut (by kernel_rfl) (by kernel_rfl) h3k hb hW'.lt (λx hx=>by simp[hx]) hsp) (trodAll_cons_mk (Sg.stays laidOut (by kernel_rfl) (by kernel_rfl) h4k hb hW'.lt (λx hx=>by simp[hx]) hsp) (trodAll_cons_mk (Sg.stays laidOut (by kernel_rfl) (by kernel_rfl) h5k hb hW'.lt (λx hx=>by simp[hx]) hsp) (trodAll_cons_mk (Sg.stays laidOut (by kernel_rfl) (by kernel_rfl) h6k hb hW'.lt (λx hx=>by simp[hx]) hsp) trodAll_mk0)))))))) (λ_ _=>rfl) (by simp) hb (ok_one (by kernel_rfl) rfl (okWide_bool_mk Tryz.underlying4 _))⟩
end Go.Proofs.YtpplkjhgggjaoaaGreatDoor.judgeMore
