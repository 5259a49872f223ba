import Derived.Test.YtpplkjhgggjaoaaGreatDoorCards
import Derived.Test.YtpplkjhgggjaoaaGreatDoorTie
import Derived.ProofKit
import Derived.Deep.DeepHandedRow
import Derived.Test.YtpplkjhgggjaoaaGreatDoorW11
/- A part of the proof of JudgeKnown. -/
set_option linter.unusedVariables false
set_option linter.unusedSimpArgs false
set_option maxRecDepth 100000
open Go.Sg.Rp renaming int→kB,aP→jH
open Go.Sg.Approval renaming cells→xC,ai→zH,rp→xL
open Go.IntKind renaming wrap→vC
open Go.Sg.Interest renaming cells→zD,rp→kL,ai→aAj
open Go.Sg.Register renaming mk→jG,ok→vL,cells→qQ
open Go.Sg.Appoint renaming rp→kG,cells→qM,ai→kP
open List renaming range→qH
open Go.Sg.Budget renaming cells→xH,rp→aAd,ai→aBd
open Go.Sg.Deputy renaming cells→kK,ai→qS,rp→aAh
open Go.Sg.Version renaming ai→jM,rp→jN,cells→xV,ok→aBA
open Go.Sg.HF renaming le→vM
open Go.Sg.Use renaming cells→aAc,rp→aBY,ai→aCa

namespace Go.Sg
open Go.Proofs Go.Proofs.Tryz
set_option maxHeartbeats 2000000
theorem GW(h:HF)(u:List Use)(rO:Option Addr)(rN:Nat)(hu:SlC aBY h rO rN u):Ret prog 225 [.slice rO u.length rN] h (.bool (fp u)):=by
 refine sT func225 U ntmps225 U λX hM hX hF=>?_
 have hs0:fp u=fp u:=rfl
 refine qT 9 U ?_
 refine lp0 u (λi=>[(0,.slice rO u.length rN),(3,I (i:Int))]) ([]) (λs1 i=>(fp.L1 u (fp.K1)) s1 i) hu.1.1 hs0 ?_ ?_ ?_
 .rintro i1 ft hs1 e
  exact sr (an (nretP [.bool true] (cs hs1)))
 .rintro i1 y1 rz1 hd1 df aS dZ gy hs3 hx1 ag1 e
  refine qK 6 [] U (tO df U (qO 10 U (aB (iF aAc zt ty111 hu.1 aS U U U (λq3 A3=>qL 1 [] U (dB ty3 A3 U (aj EG (ku h y1.Doc 0 4095) U (qO 2 U (ce 8 [18,19,20,21,22,23,24,25,26] 18 26 (!(oI y1.Kind)) U (λc1 hk1=>?_) (λe=>?_))))))))))
  .exact av (av (aB (iF aAc zt ty111 hu.1 aS U U U (λq4 A4=>qL 1 [] U (ju (j:=1) ty3 A4 U U (aj call226 (Ah h y1.Kind) U (qO 2 U (hk1 _ U))))))))
  refine av (ce 8 [27,28,29,30,31,32,33,34,35] 27 35 (!(fP y1.Value 0 1099511627776)) U (λc2 hk2=>?_) (λe=>?_))
  .exact av (av (aB (iF aAc zt ty111 hu.1 aS U U U (λq5 A5=>qL 1 [] U (ju (j:=2) ty3 A5 U U (aj EG (ku h y1.Value 0 1099511627776) U (qO 2 U (hk2 _ U))))))))
  refine av (ce 8 [36,37,38,39,40,41,42,43,44] 36 44 (!(gY y1.At)) U (λc3 hk3=>?_) (λe=>?_))
  .exact av (av (aB (iF aAc zt ty111 hu.1 aS U U U (λq6 A6=>qL 1 [] U (ju (j:=3) ty3 A6 U U (aj Jp (lZ h y1.At) U (qO 2 U (hk3 _ U))))))))
  refine av (ce 8 [45,46,47,48,49,50,51,52,53] 45 53 (!(gY y1.Known)) U (λc4 hk4=>?_) (λe=>?_))
  .exact av (av (aB (iF aAc zt ty111 hu.1 aS U U U (λq7 A7=>qL 1 [] U (ju (j:=4) ty3 A7 U U (aj Jp (lZ h y1.Known) U (qO 2 U (hk4 _ U))))))))
  refine aJ (ae hs3 U (λc5 hs4=>?_) (λc5 hs5=>?_))
  .exact sr (an (nretP [.bool false] (cs hs4)))
  refine qT 5 U ?_
  refine iX (ι:=Nat) (λi=>[(0,.slice rO u.length rN),(3,I (i1:Int))]) (λi=>h) (λi=>[]) (λi=>i<=(qH i1).length/\fp u=(((fp.L1 u (fp.K1) rz1 (i1+1))))) ?_ (λhx3=>?_)
  .rintro i3 ⟨AZ,hs7⟩ e
   exact fe (qT 2 U (oi i1 U (an (ag1 hs7))))
  refine kY (ι:=Nat×List Nat) (λi=>[(0,.slice rO u.length rN),(3,I (i1:Int)),(4,I (i.1:Int))]) (λi=>h) (λi=>[]) (λi=>(qH i1).drop i.1=i.2/\i.1<=(qH i1).length/\fp u=((fp.L3 u y1 ((fp.L1 u (fp.K1) rz1 (i1+1)))) i.2 i.1)) (λi=>i.2.length) (0,(qH i1)) rd sw ⟨U,Nat.zero_le _,hs5⟩ ?_
  rintro⟨i3,s3⟩ ⟨hd3,I2,hs8⟩ ag2 e
  rcases s3 with _|⟨y3,rz3⟩
  .have Ps:decide ((i3:Int)<(i1:Int))=false:=by simpa using ni hd3
   exact el (qT 4 U (fO Ps U (qO 3 U (hx3 i3 _ ⟨I2,hs8⟩ rd))))
  have FY:decide ((i3:Int)<(i1:Int))=true:=by simpa using tj hd3
  have FX:i3<i1:=by simpa using iB hd3
  refine qT 5 U (tO FY U (qO 6 U (eT ([]) mixed kr jn (λeo _=>qA [0,1] U ?_))))
  have ho2:0<=((i3:Int):Int)/\((i3:Int):Int)<((u).length:Int):=ob
  refine eX 2 (enc:=aAc) eo jn ei zt ty111 hu.1 ho2 (dh ho2) U U U U kr (λq10 A10=>qB [3] U (tf 4 U U (rh ty3 A10 U) (qA [5,6] U (eX 7 (enc:=aAc) eo jn ei zt ty111 hu.1 (nthZ aS) (fH aS) U U U U kr (λq11 A11=>qB [8] U (tf 9 U U (rh ty3 A11 U) (qA [10] U (aQ kr (ae hs8 U (λc7 hs10=>?_) (λc7 hs11=>?_))))))))))
  .exact sr (an (nretP [.bool false] (cs hs10)))
  exact aI (qT 3 U (oi i3 U (an (ag2 ((i3+1),rz3) _ (Nat.lt_succ_self _) ⟨kO hd3,iB hd3,hs11⟩ rd))))
 rintro i1 hd1 gu hx e
 exact qK 6 [] U (fO gu U (qO 3 U (hx _ rd)))
theorem wv(h:HF)(x:Budget)(iw:Int)(known:Int)  : Ret prog 335 [.agg (xH x).toArray,I iw,I known] h (.bool (mX x iw known)):=by
 refine sT func335 U ntmps335 U λX hM hX hF=>?_
 have hs0:mX x iw known=mX x iw known:=rfl
 refine sr (cz (λb1=>qL 9 [0] U (bA 5 [11,12,13,14,15,16] 11 16 (decide (x.Known<=known)) U (λc1 hk1=>?_) (λe=>?_))))
 .exact qL 5 [0] U (hk1 _ U)
 exact an (nretP [.bool (decide (x.At<=iw)&&decide (x.Known<=known))] (cs hs0))
theorem Ebqq(h:HF)(l:List Budget)(eu:Option Addr)(et:Nat)(n0:Int)(aH:Int)(known:Int)(hl:SlC aAd h eu et l)(hi:0<=n0/\n0<(l.length:Int)):Ret prog 297 [.slice eu l.length et,I n0,I aH,I known] h (.bool (jx l n0 aH known)):=by
 refine sT func297 U ntmps297 U λX hM hX hF=>?_
 have hs0:jx l n0 aH known=jx l n0 aH known:=rfl
 refine qT 8 U ?_
 have ho1:0<=(n0:Int)/\(n0:Int)<((l).length:Int):=ob
 refine aB (pd (enc:=xH) ei sA ty101 hl.1 ho1 (dh ho1) U U U (λq1 A1=>dq ty101 A1 U U (aT zc101 (λb1=>aL 0 ty101 U U U U U U (qL 7 [0] U (ce 6 [18,19,20,21,22,23,24] 18 24 (!(mX (nthI l n0) aH known)) U (λc1 hk1=>?_) (λe=>?_)))))))
 .exact cI 0 ty101 U U U (qO 2 U (aj call335 (wv h (nthI l n0) aH known) U (qO 2 U (hk1 _ U))))
 refine aJ (ae hs0 U (λc2 hs1=>?_) (λc2 hs2=>?_))
 .exact sr (an (nretP [.bool false] (cs hs1)))
 refine qT 6 U ?_
 refine lp0 l (λi=>[(0,.slice eu l.length et),(2,I aH),(3,I known),(9,Q b1),(10,I (i:Int))]) ([(b1,O (xH (nthI l n0)) 101)]) (λs1 i=>(jx.L1 l n0 aH known (jx.K1)) s1) hl.1.1 hs2 ?_ ?_ ?_
 .rintro i1 ft hs4 e
  exact sr (an (nretP [.bool true] (cs hs4)))
 .rintro i1 y1 rz1 hd1 df aS dZ gy hs6 hx1 ag1 e
  refine qK 6 [] U (tO df U (qO 9 U (aB (iF xH sA ty101 hl.1 aS U U U (λq3 A3=>dq ty101 A3 U U (aT zc101 (λb3=>aL 0 ty101 U U U U U U (qL 9 [0,1] U (bA 6 [40,41,42,43,44,45,46] 40 46 (y1.Period==(nthI l n0).Period) U (λc3 hk2=>?_) (λe=>?_))))))))))
  .exact qL 6 [0,1] U (hk2 _ U)
  refine av (bA 5 [47,48,49,50,51,52] 47 52 (mX y1 aH known) U (λc4 hk3=>?_) (λe=>?_))
  .exact cI 0 ty101 U U U (qO 2 U (aj call335 (wv h y1 aH known) U (eU U (hk3 _ U))))
  refine av (bA 20 [53,54,55,56,57,58,59,60,61,62,63,64,65,66,67,68,69,70,71,72,73] 53 73 (decide ((nthI l n0).At<y1.At)||((y1.At==(nthI l n0).At)&&decide ((nthI l n0).No<y1.No))) U (λc5 hk4=>?_) (λe=>?_))
  .refine qL 6 [0,1] U (ce 13 [59,60,61,62,63,64,65,66,67,68,69,70,71,72] 59 72 ((y1.At==(nthI l n0).At)&&decide ((nthI l n0).No<y1.No)) U (λc6 hk5=>?_) (λe=>?_))
   .refine qL 6 [0,1] U (bA 6 [65,66,67,68,69,70,71] 65 71 (decide ((nthI l n0).No<y1.No)) U (λc7 hk6=>?_) (λe=>?_))
    .exact qL 6 [0,1] U (hk6 _ U)
    exact eU U (hk5 _ U)
   exact eU U (hk4 _ U)
  refine aJ (ae hs6 U (λc8 hs7=>?_) (λc8 hs8=>?_))
  .exact sr (an (nretP [.bool false] (cs hs7)))
  exact aI (qT 3 U (oi i1 U (an (aX (L':=[(b1,O (xH (nthI l n0)) 101)]) js (ag1 hs8)))))
 rintro i1 hd1 gu hx e
 exact qK 6 [] U (fO gu U (qO 3 U (hx _ rd)))
theorem BO(h:HF)(l:List Budget)(eu:Option Addr)(et:Nat)(C0:Int)(aH:Int)(known:Int)(hl:SlC aAd h eu et l)(hsz0:l.length<=2000000):jv prog 229 [.slice eu l.length et,I C0,I aH,I known] h (λv h'=>∃(rb0:Option Addr)(rc0:Nat),v=.slice rb0 (eY l C0 aH known).length rc0/\SlC aAd h' rb0 rc0 (eY l C0 aH known)):=by
 refine sT func229 U ntmps229 U λX hM hX hF=>?_
 have hs0:eY l C0 aH known=eY l C0 aH known:=rfl
 refine qT 6 U (aB (qf sA ty101 (λb1=>qO 7 U ?_)))
 obtain⟨G1,gr1,ge1⟩:∃G:LH,dC aAd 101 h ([]) (some ⟨b1,0,none⟩) 0 G/\[(b1,O [] 101)]=G:=⟨_,dC.lit (show bI aAd h [] ([])from rfl) rfl,rfl⟩
 refine cv (L':=([])++([(b1,O [] 101)]++([]))) ap ?_
 rw[ge1]
 refine mb (List.Perm.append_left _ List.perm_append_comm) (cv (L':=G1) ap ?_)
 refine lp2 l (λi w=>[(0,.slice eu l.length et),(1,I C0),(2,I aH),(3,I known),(9,.slice w.2.1 w.1.length w.2.2.1),(10,I (i:Int))]) (λ_=>h) (λw=>w.2.2.2) (λi w=>dC aAd 101 h w.1 w.2.1 w.2.2.1 w.2.2.2/\w.1.length<=0+i) (λs1 i w=>(eY.L1 l C0 aH known (eY.K1)) s1 i w.1) ([],(some ⟨b1,0,none⟩),0,G1) hl.1.1 hs0 ⟨gr1,lo⟩ ?_ ?_ ?_
 .rintro i1 ⟨nd,rq,rn,uV⟩ ft hs1 ⟨pD,yD⟩ e
  try dsimp only at pD yD
  refine qT 5 U (eK aBd ([]) uV ([]) ap hM pD (λh1 hle1 sl1=>?_))
  have hs2:eY l C0 aH known=nd:=hs1
  exact nretH [.slice rq nd.length rn] ⟨rq,rn,congrArg (λr:List Budget=>(.slice rq r.length rn:Value)) hs2.symm,(by rw[hs2];exact sl1)⟩
 .rintro i1 ⟨nd,rq,rn,uV⟩ y1 rz1 hd1 df aS dZ gy hs3 ⟨pD,yD⟩ hx1 ag1 e
  try dsimp only at pD yD
  refine qK 6 [] U (tO df U (qO 9 U (aB (iF xH sA ty101 hl.1 aS U U U (λq3 A3=>qL 1 [] U (ju (j:=3) ty3 A3 U U (qO 2 U (ce 8 [24,25,26,27,28,29,30,31,32] 24 32 (y1.Kind==C0) U (λc1 hk1=>?_) (λe=>?_)))))))))
  .exact av (av (aB (iF xH sA ty101 hl.1 aS U U U (λq4 A4=>qL 1 [] U (ju (j:=3) ty3 A4 U U (qO 3 U (hk1 _ U)))))))
  refine av (bA 6 [33,34,35,36,37,38,39] 33 39 (jx l (i1:Int) aH known) U (λc2 hk2=>?_) (λe=>?_))
  .exact av (qO 3 U (aj call297 (Ebqq _ _ _ _ (i1:Int) aH known hl ob) U (eU U (hk2 _ U))))
  refine aJ (ae hs3 U (λc3 hs4=>?_) (λc3 hs5=>?_))
  .refine qT 4 U (aB (iF xH sA ty101 hl.1 aS U U U (λq5 A5=>dq ty101 A5 U U (aB (bB (cells:=[I y1.No,I y1.At,I y1.Known,I y1.Kind,I y1.Period,I y1.Count,I y1.Value,.bool y1.Gone]) sA ty101 zc101 U U kr (λb2=>?_))))))
   let z1:Nat×Obj:=(b2,O [I y1.No,I y1.At,I y1.Known,I y1.Kind,I y1.Period,I y1.Count,I y1.Value,.bool y1.Gone] 101)
   exact aB (dy Budget.em ([z1]) ([]) (λG=>[z1]++G) ap (λ_=>ap) sA ty101 zc101 U bytes101 pD U U (eF 0 U (cE y1 U U)) lo lo (λob1 oc1 G2 gr2=>qO 5 U (oi i1 U (an (aX (L':=G2) js (ag1 ((nd++[y1]),ob1,oc1,G2) hs4 ⟨gr2,lo⟩))))))
  exact aI (qT 3 U (oi i1 U (an (ag1 (nd,rq,rn,uV) hs5 ⟨pD,lo⟩))))
 rintro i1 ⟨nd,rq,rn,uV⟩ hd1 gu hx e
 exact qK 6 [] U (fO gu U (qO 3 U (hx _ rd)))
theorem GV(h:HF)(x:Budget)(u:List Use)(rO:Option Addr)(rN:Nat)(value:Int)(dt:Int)(known:Int)(hu:SlC aBY h rO rN u)(hxp:x.Period≠0):Ret prog 230 [.agg (xH x).toArray,.slice rO u.length rN,I value,I dt,I known] h (.bool (lx x u value dt known)):=by
 refine sT func230 U ntmps230 U λX hM hX hF=>?_
 have hs0:lx x u value dt known=lx x u value dt known:=rfl
 refine sr (cz (λb1=>qO 16 U ?_))
 refine lp1 u (λi w=>[(1,.slice rO u.length rN),(3,I dt),(4,I known),(5,Q b1),(11,I w.1),(12,I w.2),(13,I (i:Int))]) ([(b1,O (xH x) 101)]) (λs1 i w=>(lx.L1 x dt known (lx.K1 x)) s1 w.1 w.2) (0,value) hu.1.1 hs0 ?_ ?_ ?_
 .rintro i1 ⟨lI,ow⟩ ft hs1 e
  refine qK 7 [0] U (ce 5 [71,72,73,74,75,76] 71 76 (decide (x.Value<ow)) U (λc1 hk1=>?_) (λe=>?_))
  .exact qL 5 [0] U (hk1 _ U)
  exact an (nretP [.bool (decide (x.Count<=lI)||decide (x.Value<ow))] (cs hs1))
 .rintro i1 ⟨lI,ow⟩ y1 rz1 hd1 df aS dZ gy hs3 hx1 ag1 e
  refine qK 6 [] U (tO df U (qO 6 U ?_))
  refine oE [(1,.slice rO u.length rN),(3,I dt),(4,I known),(5,Q b1),(11,I lI),(12,I ow),(13,I (i1:Int)),(57,.bool ((decide (y1.Known<=known)&&((x.Kind==(-1))||(x.Kind==y1.Kind)))&&((vC .i64 (y1.At.tdiv x.Period))==(vC .i64 (dt.tdiv x.Period)))))] (λe=>?_) (λhk2=>?_)
  rotate_left
  .refine eT ([(b1,O (xH x) 101)]) mixed kr jn (λeo _=>?_)
   refine qA [0,1] U (eX 2 (enc:=aAc) eo jn ei zt ty111 hu.1 (nthZ aS) (fH aS) U U U U kr (λq3 A3=>qB [3] U (tf 4 U U (rH 4 ty3 A3 U U) (qR 5 3 U ?_))))
   refine dx 28 U (λc2=>?_) (λc2=>?_)
   .have c2p:=of_decide_eq_true c2
    refine qB [8] U (tf 9 U U (rj 0 ty3 U U U) (qA [10,11] U ?_))
    refine dx 32 U (λc3=>?_) (λc3=>?_)
    .exact tk 12 U U (qR 13 12 U (eX 25 (enc:=aAc) eo jn ei zt ty111 hu.1 (nthZ aS) (fH aS) U U U U kr (λq4 A4=>qB [26] U (tf 27 U U (rH 3 ty3 A4 U U) (qB [28] U (tf 29 U U (rj 0 ty3 U U U) (tf 30 U U (λ_ _ _=>Dz U U ob) (qB [31,32] U (tf 33 U U (rj 0 ty3 U U U) (tf 34 U U (λ_ _ _=>Dz U U ob) (qA [35,36] U (aQ kr (hk2 _ ⟨U,U,U,U,U,U,U,(cb (show((vC .i64 (y1.At.tdiv x.Period))==(vC .i64 (dt.tdiv x.Period)))=((decide (y1.Known<=known)&&((x.Kind==(-1))||(x.Kind==y1.Kind)))&&((vC .i64 (y1.At.tdiv x.Period))==(vC .i64 (dt.tdiv x.Period))))from by rw[c2,c3]<;>rfl)),trivial⟩)))))))))))))
    refine qB [12] U (tf 13 U U (rj 0 ty3 U U U) (qA [14,15] U (eX 16 (enc:=aAc) eo jn ei zt ty111 hu.1 (nthZ aS) (fH aS) U U U U kr (λq5 A5=>qB [17] U (tf 18 U U (rH 1 ty3 A5 U U) (qR 19 4 U ?_))))))
    refine dx 43 U (λc4=>?_) (λc4=>?_)
    .exact tm 23 U (tm 24 U (eX 25 (enc:=aAc) eo jn ei zt ty111 hu.1 (nthZ aS) (fH aS) U U U U kr (λq6 A6=>qB [26] U (tf 27 U U (rH 3 ty3 A6 U U) (qB [28] U (tf 29 U U (rj 0 ty3 U U U) (tf 30 U U (λ_ _ _=>Dz U U ob) (qB [31,32] U (tf 33 U U (rj 0 ty3 U U U) (tf 34 U U (λ_ _ _=>Dz U U ob) (qA [35,36] U (aQ kr (hk2 _ ⟨U,U,U,U,U,U,U,(cb (show((vC .i64 (y1.At.tdiv x.Period))==(vC .i64 (dt.tdiv x.Period)))=((decide (y1.Known<=known)&&((x.Kind==(-1))||(x.Kind==y1.Kind)))&&((vC .i64 (y1.At.tdiv x.Period))==(vC .i64 (dt.tdiv x.Period))))from by rw[c2,c3,c4]<;>rfl)),trivial⟩)))))))))))))
    exact tk 23 U U (qR 24 13 U (aQ kr (hk2 _ ⟨U,U,U,U,U,U,U,(cb (show false=((decide (y1.Known<=known)&&((x.Kind==(-1))||(x.Kind==y1.Kind)))&&((vC .i64 (y1.At.tdiv x.Period))==(vC .i64 (dt.tdiv x.Period))))from by rw[c2,c3,c4]<;>rfl)),trivial⟩)))
   have c2p:=of_decide_eq_false c2
   exact tk 8 U U (qR 9 28 U (aQ kr (hk2 _ ⟨U,U,U,U,U,U,U,(cb (show false=((decide (y1.Known<=known)&&((x.Kind==(-1))||(x.Kind==y1.Kind)))&&((vC .i64 (y1.At.tdiv x.Period))==(vC .i64 (dt.tdiv x.Period))))from by rw[c2]<;>rfl)),trivial⟩)))
  refine ae hs3 U (λc5 hs4=>?_) (λc5 hs5=>?_)
  .exact sr (qO 8 U (aB (iF aAc zt ty111 hu.1 aS U U U (λq7 A7=>qL 1 [] U (ju (j:=2) ty3 A7 U U (qO 6 U (oi i1 U (an (ag1 ((vC .i64 (lI+1)),(vC .i64 (ow+y1.Value))) hs4)))))))))
  exact aI (qT 3 U (oi i1 U (an (ag1 (lI,ow) hs5))))
 rintro i1 ⟨lI,ow⟩ hd1 gu hx e
 exact qK 6 [] U (fO gu U (qO 3 U (hx _ rd)))
theorem GXqq(h:HF)(l:List Budget)(eu:Option Addr)(et:Nat)(u:List Use)(rO:Option Addr)(rN:Nat)(IW:Int)(value:Int)(cX:Int)(known:Int)(hl:SlC aAd h eu et l)(hu:SlC aBY h rO rN u)(hsz:l.length<=2000000):Ret prog 138 [.slice eu l.length et,.slice rO u.length rN,I IW,I value,I cX,I known] h (.tuple #[I ((gF l u IW value cX known).1),.bool ((gF l u IW value cX known).2.1),I ((gF l u IW value cX known).2.2)]):=by
 refine sT func138 U ntmps138 U λX hM hX hF=>?_
 have hs0:gF l u IW value cX known=gF l u IW value cX known:=rfl
 refine qT 9 U (aj call75 (xU _ _ _ _ hl) U (qO 8 U (ae hs0 U (λc1 hs1=>?_) (λc1 hs2=>?_))))
 .refine qT 7 U ?_
  have hs3:gF l u IW value cX known=(0,false,(fL l)):=hs1
  exact nretP [I 0,.bool false,I (fL l)] (congrArg (λr:(Int×Bool×Int)=>(.tuple #[I r.1,.bool r.2.1,I r.2.2]:Value)) hs3.symm)
 refine qK 8 [] U (ae hs2 U (λc2 hs4=>?_) (λc2 hs5=>?_))
 .have c2p:=of_decide_eq_true c2
  refine qT 6 U ?_
  have hs6:gF l u IW value cX known=(0,false,2):=hs4
  exact nretP [I 0,.bool false,I 2] (congrArg (λr:(Int×Bool×Int)=>(.tuple #[I r.1,.bool r.2.1,I r.2.2]:Value)) hs6.symm)
 have c2p:=of_decide_eq_false c2
 refine qT 5 U (aj call225 (GW _ _ _ _ hu) U (qO 2 U (ae hs5 U (λc3 hs7=>?_) (λc3 hs8=>?_))))
 .refine qT 6 U ?_
  have hs9:gF l u IW value cX known=(0,false,180):=hs7
  exact nretP [I 0,.bool false,I 180] (congrArg (λr:(Int×Bool×Int)=>(.tuple #[I r.1,.bool r.2.1,I r.2.2]:Value)) hs9.symm)
 refine qT 5 U (aj call226 (Ah h IW) U (qO 2 U (ce 4 [32,33,34,35,36] 32 36 (!(fP value 0 1099511627776)) U (λc4 hk1=>?_) (λe=>?_))))
 .exact av (aj EG (ku h value 0 1099511627776) U (qO 2 U (hk1 _ U)))
 refine av (ce 4 [37,38,39,40,41] 37 41 (!(gY cX)) U (λc5 hk2=>?_) (λe=>?_))
 .exact av (aj Jp (lZ h cX) U (qO 2 U (hk2 _ U)))
 refine av (ce 4 [42,43,44,45,46] 42 46 (!(gY known)) U (λc6 hk3=>?_) (λe=>?_))
 .exact av (aj Jp (lZ h known) U (qO 2 U (hk3 _ U)))
 refine aJ (ae hs8 U (λc7 hs10=>?_) (λc7 hs11=>?_))
 .refine qT 6 U ?_
  have hs12:gF l u IW value cX known=(0,false,1):=hs10
  exact nretP [I 0,.bool false,I 1] (congrArg (λr:(Int×Bool×Int)=>(.tuple #[I r.1,.bool r.2.1,I r.2.2]:Value)) hs12.symm)
 refine qT 7 U (aB (cT call229 (BO _ _ _ _ IW cX known hl ob) U (λv1 h1 hle1 hp1=>?_)))
 obtain⟨rb1,rc1,rfl,sl1⟩:=hp1
 refine qO 7 U ?_
 refine lp0 (eY l IW cX known) (λi=>[(1,.slice rO u.length rN),(3,I value),(4,I cX),(5,I known),(16,.slice rb1 ((eY l IW cX known).length) rc1),(17,I (i:Int))]) ([]) (λs1 i=>(gF.L1 u value cX known (gF.K1)) s1) sl1.1.1 hs11 ?_ ?_ ?_
 .rintro i1 ft hs13 e
  refine qT 6 U ?_
  have hs14:gF l u IW value cX known=((-1),true,0):=hs13
  exact nretP [I (-1),.bool true,I 0] (congrArg (λr:(Int×Bool×Int)=>(.tuple #[I r.1,.bool r.2.1,I r.2.2]:Value)) hs14.symm)
 .rintro i1 y1 rz1 hd1 df aS dZ gy hs15 hx1 ag1 e
  refine qK 6 [] U (tO df U (qO 9 U (aB (iF xH sA ty101 sl1.1 aS U U U (λq3 A3=>dq ty101 A3 U U (qO 4 U (aj call230 (GV _ y1 _ _ _ value cX known (hu.mono aCa hle1) (II (by simpa using c1) (gp hd1))) U (aJ (ae hs15 U (λc9 hs16=>?_) (λc9 hs17=>?_))))))))))
  .refine qT 4 U (aB (iF xH sA ty101 sl1.1 aS U U U (λq4 A4=>qL 1 [] U (dB ty3 A4 U (qO 4 U ?_)))))
   have hs18:gF l u IW value cX known=(y1.No,false,0):=hs16
   exact nretP [I y1.No,.bool false,I 0] (congrArg (λr:(Int×Bool×Int)=>(.tuple #[I r.1,.bool r.2.1,I r.2.2]:Value)) hs18.symm)
  exact aI (qT 3 U (oi i1 U (an (ag1 hs17))))
 rintro i1 hd1 gu hx e
 exact qK 6 [] U (fO gu U (qO 3 U (hx _ rd)))
theorem Feqq(h:HF)(cH:Register)(gB:dK)(signed:List Int)(ck:Option Addr)(cj:Nat)(u:List Use)(rO:Option Addr)(rN:Nat)(doc:Int)(cX:Int)(known:Int)(kx:vL h cH gB)(hsigned:SlC kB h ck cj signed)(hu:SlC aBY h rO rN u)(hsm:smR cH):Ret prog 61 [.agg (qQ cH gB).toArray,.slice ck signed.length cj,.slice rO u.length rN,I doc,I cX,I known] h (I (ny cH signed u doc cX known)):=by
 refine sT func61 U ntmps61 U λX hM hX hF=>?_
 have hs0:ny cH signed u doc cX known=ny cH signed u doc cX known:=rfl
 refine sr (cz (λb1=>qO 5 U (cI 0 ty30 U U U (aj call14 (Fe _ _ _ kx ob) U (qO 2 U (ae hs0 U (λc1 hs1=>?_) (λc1 hs2=>?_)))))))
 .exact sr (an (nretP [I 300] (ci hs1)))
 refine qK 6 [0] U (aB (cT call137 (CP _ _ _ _ _ _ _ 0 kx.Docs hsigned hsm.2.2.2.2.2.1) U (λv1 h1 hle1 hp1=>?_)))
 obtain⟨rb1,rc1,rfl,sl1⟩:=hp1
 refine qO 12 U (ae hs2 U (λc2 hs4=>?_) (λc2 hs5=>?_))
 .exact sr (qO 3 U (nretP [I ((fx cH.Docs signed 0).2)] (ci hs4)))
 refine qK 6 [0] U (aj call138 (GXqq _ _ _ _ _ _ _ 0 0 0 0 (kx.Budgets.mono aBd hle1) (hu.mono aCa hle1) hsm.2.2.2.2.1) U (qO 14 U (ae hs5 U (λc3 hs7=>?_) (λc3 hs8=>?_))))
 .exact sr (qO 3 U (nretP [I ((gF cH.Budgets u 0 0 0 0).2.2)] (ci hs7)))
 refine qT 4 U (cI 0 ty30 U U U (av (aj call20 (IG _ _ _ doc (kx.mono hle1)) U (qO 2 U (ce 4 [46,47,48,49,50] 46 50 (!(me cX)) U (λc4 hk1=>?_) (λe=>?_))))))
 .exact av (aj call82 (wu h1 cX) U (qO 2 U (hk1 _ U)))
 refine av (ce 4 [51,52,53,54,55] 51 55 (!(me known)) U (λc5 hk2=>?_) (λe=>?_))
 .exact av (aj call82 (wu h1 known) U (qO 2 U (hk2 _ U)))
 refine aJ (ae hs8 U (λc6 hs10=>?_) (λc6 hs11=>?_))
 .exact sr (an (nretP [I 1] (ci hs10)))
 exact aI (qT 4 U (nretP [I 0] (ci hs11)))
theorem GSqq(h:HF)(a:fJ)(Hv:pK)(jh:fJ)(oz:pK)(ha:fJ.ok h a Hv)(vO:fJ.ok h jh oz):Ret prog 15 [.agg (fJ.cells a Hv).toArray,.agg (fJ.cells jh oz).toArray] h (.bool (oH a jh)):=by
 refine sT func15 U ntmps15 U λX hM hX hF=>?_
 have hs0:oH a jh=oH a jh:=rfl
 refine sr (cz (λb1=>cz (λb2=>qL 10 [1,0] U (bA 6 [10,11,12,13,14,15,16] 10 16 (a.Budget==jh.Budget) U (λc1 hk1=>?_) (λe=>?_)))))
 .exact qL 6 [1,0] U (hk1 _ U)
 refine av (bA 6 [17,18,19,20,21,22,23] 17 23 (fg a.Versions jh.Versions) U (λc2 hk2=>?_) (λe=>?_))
 .exact qL 4 [1,0] U (aj call18 (ph _ _ _ _ _ _ _ ha.Versions vO.Versions) U (eU U (hk2 _ U)))
 refine av (bA 6 [24,25,26,27,28,29,30] 24 30 (fg a.Who jh.Who) U (λc3 hk3=>?_) (λe=>?_))
 .exact qL 4 [1,0] U (aj call18 (ph _ _ _ _ _ _ _ ha.Who vO.Who) U (eU U (hk3 _ U)))
 exact an (nretP [.bool ((((a.State==jh.State)&&(a.Budget==jh.Budget))&&(fg a.Versions jh.Versions))&&(fg a.Who jh.Who))] (cs hs0))
theorem FMqq(h:HF)(cH:Register)(gB:dK)(signed:List Int)(ck:Option Addr)(cj:Nat)(u:List Use)(rO:Option Addr)(rN:Nat)(doc:Int)(cX:Int)(known:Int)(kx:vL h cH gB)(hsigned:SlC kB h ck cj signed)(hu:SlC aBY h rO rN u)(hsm:smR cH):Ret prog 19 [.agg (qQ cH gB).toArray,.slice ck signed.length cj,.slice rO u.length rN,I doc,I cX,I known] h (.bool (kv cH signed u doc cX known)):=by
 refine sT func19 U ntmps19 U λX hM hX hF=>?_
 have hs0:kv cH signed u doc cX known=kv cH signed u doc cX known:=rfl
 refine sr (cz (λb1=>qO 4 U (cI 0 ty30 U U U (aj call10 (IF _ _ _ kx) U (av (bA 4 [15,16,17,18,19] 15 19 (decide ((signed.length:Int)<=40)) U (λc1 hk1=>?_) (λe=>?_)))))))
 .exact qL 4 [] U (hk1 _ U)
 refine av (bA 4 [20,21,22,23,24] 20 24 (decide ((u.length:Int)<=30)) U (λc2 hk2=>?_) (λe=>?_))
 .exact qL 4 [] U (hk2 _ U)
 refine av (bA 9 [25,26,27,28,29,30,31,32,33,34] 25 34 ((ny cH signed u doc cX known)==0) U (λc3 hk3=>?_) (λe=>?_))
 .exact cI 0 ty30 U U U (qO 5 U (aj call61 (Feqq _ _ _ _ _ _ _ _ _ doc cX known kx hsigned hu ob) U (qO 2 U (hk3 _ U))))
 exact an (nretP [.bool ((((lJ cH)&&decide ((signed.length:Int)<=40))&&decide ((u.length:Int)<=30))&&((ny cH signed u doc cX known)==0))] (cs hs0))
theorem vx(h:HF)(l:List Appoint)(eu:Option Addr)(et:Nat)(known:(Appoint->Int))(known_v:Value)(aH:Int)(hl:SlC kG h eu et l)(hknown:∀(h':HF)(dl:Appoint),vM h h'->pQ prog known_v [.agg (qM dl).toArray] h' [] (I (known dl)))(hsz0:l.length<=2000000):jv prog 32 [.slice eu l.length et,known_v,I aH] h (λv h'=>∃(rb0:Option Addr)(rc0:Nat),v=.slice rb0 (bX l known aH).length rc0/\SlC kG h' rb0 rc0 (bX l known aH)):=by
 refine sT func32 U ntmps32 U λX hM hX hF=>?_
 have hs0:bX l known aH=bX l known aH:=rfl
 refine qK 11 [] U ?_
 refine lp2 l (λi w=>[(1,known_v),(2,I aH),(6,.slice w.2.1 w.1.length w.2.2.1),(9,.slice eu l.length et),(10,I (l.length:Int)),(11,I (i:Int))]) (λ_=>h) (λw=>w.2.2.2) (λi w=>dC kG 89 h w.1 w.2.1 w.2.2.1 w.2.2.2/\w.1.length<=0+i) (λs1 i w=>(bX.L1 known aH (bX.K1)) s1 w.1) ([],none,0,[]) hl.1.1 hs0 ⟨dC.nil,lo⟩ ?_ ?_
 .rintro i1 ⟨fI,i8,i7,i9⟩ ft hs1 ⟨iv,lS⟩ e
  try dsimp only at iv lS
  refine qT 5 U (eK kP ([]) i9 ([]) ap hM iv (λh2 hle2 sl2=>?_))
  have hs2:bX l known aH=fI:=hs1
  exact nretH [.slice i8 fI.length i7] ⟨i8,i7,congrArg (λr:List Appoint=>(.slice i8 r.length i7:Value)) hs2.symm,(by rw[hs2];exact sl2)⟩
 rintro i1 ⟨fI,i8,i7,i9⟩ y1 rz1 hd1 df aS dZ gy hs3 ⟨iv,lS⟩ hx1 ag1 e
 try dsimp only at iv lS
 refine sr (tO df U (qO 8 U (aB (iF qM Ac ty89 hl.1 aS U U U (λq2 A2=>dq ty89 A2 U U (aT zc89 (λb3=>aL 0 ty89 U U U U U U (gJ (L':=[(b3,O (qM y1) 89)]++(i9)) U (qO 4 U (cI 0 ty89 U U U (aB (ke (v:=I (known y1)) [] (List.nil_sublist _) (hknown h y1 lf) U U (qO 3 U (ae hs3 U (λc2 hs4=>?_) (λc2 hs5=>?_)))))))))))))))
 .have c2p:=of_decide_eq_true c2
  refine qT 2 U (cI 0 ty89 U U U (aB (bB (cells:=[I y1.No,I y1.At,I y1.Known,I y1.Office,I y1.Person,I y1.Weight,.bool y1.Gone]) Ac ty89 zc89 U U kr (λb4=>?_))))
  let z1:Nat×Obj:=(b4,O [I y1.No,I y1.At,I y1.Known,I y1.Office,I y1.Person,I y1.Weight,.bool y1.Gone] 89)
  exact aB (dy Appoint.em ([z1,(b3,O (qM y1) 89)]) ([]) (λG=>[z1,(b3,O (qM y1) 89)]++G) ap (λ_=>ap) Ac ty89 zc89 U bytes89 iv U U (eF 0 U (cE y1 U U)) lo lo (λob2 oc2 G2 gr2=>qO 4 U (oi i1 U (qO 2 U (aX (L':=G2) js (ag1 ((fI++[y1]),ob2,oc2,G2) hs4 ⟨gr2,lo⟩))))))
 have c2p:=of_decide_eq_false c2
 exact aI (qT 2 U (oi i1 U (qO 2 U (aX (L':=i9) js (ag1 (fI,i8,i7,i9) hs5 ⟨iv,lo⟩)))))
theorem wX(h:HF)(y:Appoint)  : Ret prog 33 [.agg (qM y).toArray] h (I (fE y)):=by
 refine sT func33 U ntmps33 U λX hM hX hF=>?_
 have hs0:fE y=fE y:=rfl
 exact sr (cz (λb1=>qL 8 [0] U (nretP [I y.Known] (ci hs0))))
theorem wP(h:HF)(l:List Deputy)(eu:Option Addr)(et:Nat)(known:(Deputy->Int))(known_v:Value)(aH:Int)(hl:SlC aAh h eu et l)(hknown:∀(h':HF)(dl:Deputy),vM h h'->pQ prog known_v [.agg (kK dl).toArray] h' [] (I (known dl)))(hsz0:l.length<=2000000):jv prog 34 [.slice eu l.length et,known_v,I aH] h (λv h'=>∃(rb0:Option Addr)(rc0:Nat),v=.slice rb0 (cm l known aH).length rc0/\SlC aAh h' rb0 rc0 (cm l known aH)):=by
 refine sT func34 U ntmps34 U λX hM hX hF=>?_
 have hs0:cm l known aH=cm l known aH:=rfl
 refine qK 11 [] U ?_
 refine lp2 l (λi w=>[(1,known_v),(2,I aH),(6,.slice w.2.1 w.1.length w.2.2.1),(9,.slice eu l.length et),(10,I (l.length:Int)),(11,I (i:Int))]) (λ_=>h) (λw=>w.2.2.2) (λi w=>dC aAh 93 h w.1 w.2.1 w.2.2.1 w.2.2.2/\w.1.length<=0+i) (λs1 i w=>(cm.L1 known aH (cm.K1)) s1 w.1) ([],none,0,[]) hl.1.1 hs0 ⟨dC.nil,lo⟩ ?_ ?_
 .rintro i1 ⟨fI,i8,i7,i9⟩ ft hs1 ⟨iv,lS⟩ e
  try dsimp only at iv lS
  refine qT 5 U (eK qS ([]) i9 ([]) ap hM iv (λh2 hle2 sl2=>?_))
  have hs2:cm l known aH=fI:=hs1
  exact nretH [.slice i8 fI.length i7] ⟨i8,i7,congrArg (λr:List Deputy=>(.slice i8 r.length i7:Value)) hs2.symm,(by rw[hs2];exact sl2)⟩
 rintro i1 ⟨fI,i8,i7,i9⟩ y1 rz1 hd1 df aS dZ gy hs3 ⟨iv,lS⟩ hx1 ag1 e
 try dsimp only at iv lS
 refine sr (tO df U (qO 8 U (aB (iF kK tB ty93 hl.1 aS U U U (λq2 A2=>dq ty93 A2 U U (aT zc93 (λb3=>aL 0 ty93 U U U U U U (gJ (L':=[(b3,O (kK y1) 93)]++(i9)) U (qO 4 U (cI 0 ty93 U U U (aB (ke (v:=I (known y1)) [] (List.nil_sublist _) (hknown h y1 lf) U U (qO 3 U (ae hs3 U (λc2 hs4=>?_) (λc2 hs5=>?_)))))))))))))))
 .have c2p:=of_decide_eq_true c2
  refine qT 2 U (cI 0 ty93 U U U (aB (bB (cells:=[I y1.No,I y1.At,I y1.Known,I y1.Until,I y1.From,I y1.To,I y1.Office,I y1.Kind,I y1.Most,.bool y1.Gone]) tB ty93 zc93 U U kr (λb4=>?_))))
  let z1:Nat×Obj:=(b4,O [I y1.No,I y1.At,I y1.Known,I y1.Until,I y1.From,I y1.To,I y1.Office,I y1.Kind,I y1.Most,.bool y1.Gone] 93)
  exact aB (dy Deputy.em ([z1,(b3,O (kK y1) 93)]) ([]) (λG=>[z1,(b3,O (kK y1) 93)]++G) ap (λ_=>ap) tB ty93 zc93 U bytes93 iv U U (eF 0 U (cE y1 U U)) lo lo (λob2 oc2 G2 gr2=>qO 4 U (oi i1 U (qO 2 U (aX (L':=G2) js (ag1 ((fI++[y1]),ob2,oc2,G2) hs4 ⟨gr2,lo⟩))))))
 have c2p:=of_decide_eq_false c2
 exact aI (qT 2 U (oi i1 U (qO 2 U (aX (L':=i9) js (ag1 (fI,i8,i7,i9) hs5 ⟨iv,lo⟩)))))
theorem wW(h:HF)(y:Deputy)  : Ret prog 35 [.agg (kK y).toArray] h (I (fD y)):=by
 refine sT func35 U ntmps35 U λX hM hX hF=>?_
 have hs0:fD y=fD y:=rfl
 exact sr (cz (λb1=>qL 8 [0] U (nretP [I y.Known] (ci hs0))))
theorem uO(h:HF)(l:List Interest)(eu:Option Addr)(et:Nat)(known:(Interest->Int))(known_v:Value)(aH:Int)(hl:SlC kL h eu et l)(hknown:∀(h':HF)(dl:Interest),vM h h'->pQ prog known_v [.agg (zD dl).toArray] h' [] (I (known dl)))(hsz0:l.length<=2000000):jv prog 36 [.slice eu l.length et,known_v,I aH] h (λv h'=>∃(rb0:Option Addr)(rc0:Nat),v=.slice rb0 (bN l known aH).length rc0/\SlC kL h' rb0 rc0 (bN l known aH)):=by
 refine sT func36 U ntmps36 U λX hM hX hF=>?_
 have hs0:bN l known aH=bN l known aH:=rfl
 refine qK 11 [] U ?_
 refine lp2 l (λi w=>[(1,known_v),(2,I aH),(6,.slice w.2.1 w.1.length w.2.2.1),(9,.slice eu l.length et),(10,I (l.length:Int)),(11,I (i:Int))]) (λ_=>h) (λw=>w.2.2.2) (λi w=>dC kL 97 h w.1 w.2.1 w.2.2.1 w.2.2.2/\w.1.length<=0+i) (λs1 i w=>(bN.L1 known aH (bN.K1)) s1 w.1) ([],none,0,[]) hl.1.1 hs0 ⟨dC.nil,lo⟩ ?_ ?_
 .rintro i1 ⟨fI,i8,i7,i9⟩ ft hs1 ⟨iv,lS⟩ e
  try dsimp only at iv lS
  refine qT 5 U (eK aAj ([]) i9 ([]) ap hM iv (λh2 hle2 sl2=>?_))
  have hs2:bN l known aH=fI:=hs1
  exact nretH [.slice i8 fI.length i7] ⟨i8,i7,congrArg (λr:List Interest=>(.slice i8 r.length i7:Value)) hs2.symm,(by rw[hs2];exact sl2)⟩
 rintro i1 ⟨fI,i8,i7,i9⟩ y1 rz1 hd1 df aS dZ gy hs3 ⟨iv,lS⟩ hx1 ag1 e
 try dsimp only at iv lS
 refine sr (tO df U (qO 8 U (aB (iF zD sC ty97 hl.1 aS U U U (λq2 A2=>dq ty97 A2 U U (aT zc97 (λb3=>aL 0 ty97 U U U U U U (gJ (L':=[(b3,O (zD y1) 97)]++(i9)) U (qO 4 U (cI 0 ty97 U U U (aB (ke (v:=I (known y1)) [] (List.nil_sublist _) (hknown h y1 lf) U U (qO 3 U (ae hs3 U (λc2 hs4=>?_) (λc2 hs5=>?_)))))))))))))))
 .have c2p:=of_decide_eq_true c2
  exact bE (av (cI 0 ty97 U U U (aB (bB (cells:=[I y1.No,I y1.At,I y1.Known,I y1.Person,I y1.Party,.bool y1.Of,.bool y1.Gone]) sC ty97 zc97 U U kr (λb4=>aB (dy Interest.em ([(b4,O [I y1.No,I y1.At,I y1.Known,I y1.Person,I y1.Party,.bool y1.Of,.bool y1.Gone] 97),(b3,O (zD y1) 97)]) ([]) (λG=>[(b4,O [I y1.No,I y1.At,I y1.Known,I y1.Person,I y1.Party,.bool y1.Of,.bool y1.Gone] 97),(b3,O (zD y1) 97)]++G) ap (λ_=>ap) sC ty97 zc97 U bytes97 iv U U (eF 0 U (cE y1 U U)) lo lo (λob2 oc2 G2 gr2=>qO 4 U (oi i1 U (qO 2 U (aX (L':=G2) js (ag1 ((fI++[y1]),ob2,oc2,G2) hs4 ⟨gr2,lo⟩)))))))))))
 have c2p:=of_decide_eq_false c2
 exact aI (qT 2 U (oi i1 U (qO 2 U (aX (L':=i9) js (ag1 (fI,i8,i7,i9) hs5 ⟨iv,lo⟩)))))
theorem wV(h:HF)(y:Interest)  : Ret prog 37 [.agg (zD y).toArray] h (I (fC y)):=by
 refine sT func37 U ntmps37 U λX hM hX hF=>?_
 have hs0:fC y=fC y:=rfl
 exact sr (cz (λb1=>qL 8 [0] U (nretP [I y.Known] (ci hs0))))
theorem wQ(h:HF)(l:List Budget)(eu:Option Addr)(et:Nat)(known:(Budget->Int))(known_v:Value)(aH:Int)(hl:SlC aAd h eu et l)(hknown:∀(h':HF)(dl:Budget),vM h h'->pQ prog known_v [.agg (xH dl).toArray] h' [] (I (known dl)))(hsz0:l.length<=2000000):jv prog 38 [.slice eu l.length et,known_v,I aH] h (λv h'=>∃(rb0:Option Addr)(rc0:Nat),v=.slice rb0 (cn l known aH).length rc0/\SlC aAd h' rb0 rc0 (cn l known aH)):=by
 refine sT func38 U ntmps38 U λX hM hX hF=>?_
 have hs0:cn l known aH=cn l known aH:=rfl
 refine qK 11 [] U ?_
 refine lp2 l (λi w=>[(1,known_v),(2,I aH),(6,.slice w.2.1 w.1.length w.2.2.1),(9,.slice eu l.length et),(10,I (l.length:Int)),(11,I (i:Int))]) (λ_=>h) (λw=>w.2.2.2) (λi w=>dC aAd 101 h w.1 w.2.1 w.2.2.1 w.2.2.2/\w.1.length<=0+i) (λs1 i w=>(cn.L1 known aH (cn.K1)) s1 w.1) ([],none,0,[]) hl.1.1 hs0 ⟨dC.nil,lo⟩ ?_ ?_
 .rintro i1 ⟨fI,i8,i7,i9⟩ ft hs1 ⟨iv,lS⟩ e
  try dsimp only at iv lS
  refine qT 5 U (eK aBd ([]) i9 ([]) ap hM iv (λh2 hle2 sl2=>?_))
  have hs2:cn l known aH=fI:=hs1
  exact nretH [.slice i8 fI.length i7] ⟨i8,i7,congrArg (λr:List Budget=>(.slice i8 r.length i7:Value)) hs2.symm,(by rw[hs2];exact sl2)⟩
 rintro i1 ⟨fI,i8,i7,i9⟩ y1 rz1 hd1 df aS dZ gy hs3 ⟨iv,lS⟩ hx1 ag1 e
 try dsimp only at iv lS
 refine sr (tO df U (qO 8 U (aB (iF xH sA ty101 hl.1 aS U U U (λq2 A2=>dq ty101 A2 U U (aT zc101 (λb3=>aL 0 ty101 U U U U U U (gJ (L':=[(b3,O (xH y1) 101)]++(i9)) U (qO 4 U (cI 0 ty101 U U U (aB (ke (v:=I (known y1)) [] (List.nil_sublist _) (hknown h y1 lf) U U (qO 3 U (ae hs3 U (λc2 hs4=>?_) (λc2 hs5=>?_)))))))))))))))
 .have c2p:=of_decide_eq_true c2
  refine qT 2 U (cI 0 ty101 U U U (aB (bB (cells:=[I y1.No,I y1.At,I y1.Known,I y1.Kind,I y1.Period,I y1.Count,I y1.Value,.bool y1.Gone]) sA ty101 zc101 U U kr (λb4=>?_))))
  let z1:Nat×Obj:=(b4,O [I y1.No,I y1.At,I y1.Known,I y1.Kind,I y1.Period,I y1.Count,I y1.Value,.bool y1.Gone] 101)
  exact aB (dy Budget.em ([z1,(b3,O (xH y1) 101)]) ([]) (λG=>[z1,(b3,O (xH y1) 101)]++G) ap (λ_=>ap) sA ty101 zc101 U bytes101 iv U U (eF 0 U (cE y1 U U)) lo lo (λob2 oc2 G2 gr2=>qO 4 U (oi i1 U (qO 2 U (aX (L':=G2) js (ag1 ((fI++[y1]),ob2,oc2,G2) hs4 ⟨gr2,lo⟩))))))
 have c2p:=of_decide_eq_false c2
 exact aI (qT 2 U (oi i1 U (qO 2 U (aX (L':=i9) js (ag1 (fI,i8,i7,i9) hs5 ⟨iv,lo⟩)))))
theorem wU(h:HF)(y:Budget)  : Ret prog 39 [.agg (xH y).toArray] h (I (fB y)):=by
 refine sT func39 U ntmps39 U λX hM hX hF=>?_
 have hs0:fB y=fB y:=rfl
 exact sr (cz (λb1=>qL 8 [0] U (nretP [I y.Known] (ci hs0))))
theorem vw(h:HF)(l:List Version)(eu:Option Addr)(et:Nat)(known:(Version->Int))(known_v:Value)(aH:Int)(hl:SlC jN h eu et l)(hknown:∀(h':HF)(dl:Version)(uC:nO),vM h h'->aBA h' dl uC->pQ prog known_v [.agg (xV dl uC).toArray] h' [] (I (known dl)))(hsz0:l.length<=2000000):jv prog 40 [.slice eu l.length et,known_v,I aH] h (λv h'=>∃(rb0:Option Addr)(rc0:Nat),v=.slice rb0 (bW l known aH).length rc0/\SlC jN h' rb0 rc0 (bW l known aH)):=by
 refine sT func40 U ntmps40 U λX hM hX hF=>?_
 have hs0:bW l known aH=bW l known aH:=rfl
 refine qK 11 [] U ?_
 refine lp2 l (λi w=>[(1,known_v),(2,I aH),(6,.slice w.2.1 w.1.length w.2.2.1),(9,.slice eu l.length et),(10,I (l.length:Int)),(11,I (i:Int))]) (λ_=>h) (λw=>w.2.2.2) (λi w=>dC jN 105 h w.1 w.2.1 w.2.2.1 w.2.2.2/\w.1.length<=0+i) (λs1 i w=>(bW.L1 known aH (bW.K1)) s1 w.1) ([],none,0,[]) hl.1.1 hs0 ⟨dC.nil,lo⟩ ?_ ?_
 .rintro i1 ⟨fI,i8,i7,i9⟩ ft hs1 ⟨iv,lS⟩ e
  try dsimp only at iv lS
  refine qT 5 U (eK jM ([]) i9 ([]) ap hM iv (λh2 hle2 sl2=>?_))
  have hs2:bW l known aH=fI:=hs1
  exact nretH [.slice i8 fI.length i7] ⟨i8,i7,congrArg (λr:List Version=>(.slice i8 r.length i7:Value)) hs2.symm,(by rw[hs2];exact sl2)⟩
 rintro i1 ⟨fI,i8,i7,i9⟩ y1 rz1 hd1 df aS dZ gy hs3 ⟨iv,lS⟩ hx1 ag1 e
 try dsimp only at iv lS
 refine sr (tO df U (qO 8 U (aB (iR wK ty105 hl.1 aS U U U (λ_ _ _ e=>e) (λq2 r2 A2 ok2=>dq ty105 A2 U U (aT zc105 (λb3=>aL 0 ty105 U U U U U U (gJ (L':=[(b3,O (xV y1 r2) 105)]++(i9)) U (qO 4 U (cI 0 ty105 U U U (aB (ke (v:=I (known y1)) [] (List.nil_sublist _) (hknown h y1 r2 lf ok2) U U (qO 3 U (ae hs3 U (λc2 hs4=>?_) (λc2 hs5=>?_)))))))))))))))
 .have c2p:=of_decide_eq_true c2
  refine qT 2 U (cI 0 ty105 U U U (aB (bB (cells:=[I y1.No,I y1.At,I y1.Known,.string y1.Policy.Name,.slice r2.Policy.i5 y1.Policy.Kinds.length r2.Policy.iZ,.slice r2.Policy.gr y1.Policy.Offices.length r2.Policy.gq,.slice r2.Policy.m8 y1.Policy.Rules.length r2.Policy.m7,I y1.Policy.Change.Kind,I y1.Policy.Change.N,I y1.Policy.Change.No,.string y1.Policy.Change.Name,.slice r2.Policy.Change.mt y1.Policy.Change.L.length r2.Policy.Change.mu,I y1.Policy.Mode]) wK ty105 zc105 U U kr (λb4=>?_))))
  let z1:Nat×Obj:=(b4,O [I y1.No,I y1.At,I y1.Known,.string y1.Policy.Name,.slice r2.Policy.i5 y1.Policy.Kinds.length r2.Policy.iZ,.slice r2.Policy.gr y1.Policy.Offices.length r2.Policy.gq,.slice r2.Policy.m8 y1.Policy.Rules.length r2.Policy.m7,I y1.Policy.Change.Kind,I y1.Policy.Change.N,I y1.Policy.Change.No,.string y1.Policy.Change.Name,.slice r2.Policy.Change.mt y1.Policy.Change.L.length r2.Policy.Change.mu,I y1.Policy.Mode] 105)
  exact aB (dy Version.em ([z1,(b3,O (xV y1 r2) 105)]) ([]) (λG=>[z1,(b3,O (xV y1 r2) 105)]++G) ap (λ_=>ap) wK ty105 zc105 U bytes105 iv U U (eF 0 U (cE (R:=jN) y1 U ⟨r2,U,ok2⟩)) lo lo (λob2 oc2 G2 gr2=>qO 4 U (oi i1 U (qO 2 U (aX (L':=G2) js (ag1 ((fI++[y1]),ob2,oc2,G2) hs4 ⟨gr2,lo⟩))))))
 have c2p:=of_decide_eq_false c2
 exact aI (qT 2 U (oi i1 U (qO 2 U (aX (L':=i9) js (ag1 (fI,i8,i7,i9) hs5 ⟨iv,lo⟩)))))
theorem wT(h:HF)(y:Version)(R3:nO)(hy:aBA h y R3):Ret prog 41 [.agg (xV y R3).toArray] h (I (fA y)):=by
 refine sT func41 U ntmps41 U λX hM hX hF=>?_
 have hs0:fA y=fA y:=rfl
 exact sr (cz (λb1=>qL 8 [0] U (nretP [I y.Known] (ci hs0))))
theorem uP(h:HF)(l:List Approval)(eu:Option Addr)(et:Nat)(known:(Approval->Int))(known_v:Value)(aH:Int)(hl:SlC xL h eu et l)(hknown:∀(h':HF)(dl:Approval),vM h h'->pQ prog known_v [.agg (xC dl).toArray] h' [] (I (known dl)))(hsz0:l.length<=2000000):jv prog 42 [.slice eu l.length et,known_v,I aH] h (λv h'=>∃(rb0:Option Addr)(rc0:Nat),v=.slice rb0 (bO l known aH).length rc0/\SlC xL h' rb0 rc0 (bO l known aH)):=by
 refine sT func42 U ntmps42 U λX hM hX hF=>?_
 have hs0:bO l known aH=bO l known aH:=rfl
 refine qK 11 [] U ?_
 refine lp2 l (λi w=>[(1,known_v),(2,I aH),(6,.slice w.2.1 w.1.length w.2.2.1),(9,.slice eu l.length et),(10,I (l.length:Int)),(11,I (i:Int))]) (λ_=>h) (λw=>w.2.2.2) (λi w=>dC xL 81 h w.1 w.2.1 w.2.2.1 w.2.2.2/\w.1.length<=0+i) (λs1 i w=>(bO.L1 known aH (bO.K1)) s1 w.1) ([],none,0,[]) hl.1.1 hs0 ⟨dC.nil,lo⟩ ?_ ?_
 .rintro i1 ⟨fI,i8,i7,i9⟩ ft hs1 ⟨iv,lS⟩ e
  try dsimp only at iv lS
  refine qT 5 U (eK zH ([]) i9 ([]) ap hM iv (λh2 hle2 sl2=>?_))
  have hs2:bO l known aH=fI:=hs1
  exact nretH [.slice i8 fI.length i7] ⟨i8,i7,congrArg (λr:List Approval=>(.slice i8 r.length i7:Value)) hs2.symm,(by rw[hs2];exact sl2)⟩
 rintro i1 ⟨fI,i8,i7,i9⟩ y1 rz1 hd1 df aS dZ gy hs3 ⟨iv,lS⟩ hx1 ag1 e
 try dsimp only at iv lS
 refine sr (tO df U (qO 8 U (aB (iF xC wJ ty81 hl.1 aS U U U (λq2 A2=>dq ty81 A2 U U (aT zc81 (λb3=>aL 0 ty81 U U U U U U (gJ (L':=[(b3,O (xC y1) 81)]++(i9)) U (qO 4 U (cI 0 ty81 U U U (aB (ke (v:=I (known y1)) [] (List.nil_sublist _) (hknown h y1 lf) U U (qO 3 U (ae hs3 U (λc2 hs4=>?_) (λc2 hs5=>?_)))))))))))))))
 .have c2p:=of_decide_eq_true c2
  refine qT 2 U (cI 0 ty81 U U U (aB (bB (cells:=[I y1.No,I y1.At,I y1.Known,I y1.Doc,I y1.By,I y1.For,I y1.Office,.bool y1.Gone]) wJ ty81 zc81 U U kr (λb4=>?_))))
  let z1:Nat×Obj:=(b4,O [I y1.No,I y1.At,I y1.Known,I y1.Doc,I y1.By,I y1.For,I y1.Office,.bool y1.Gone] 81)
  exact aB (dy Approval.em ([z1,(b3,O (xC y1) 81)]) ([]) (λG=>[z1,(b3,O (xC y1) 81)]++G) ap (λ_=>ap) wJ ty81 zc81 U bytes81 iv U U (eF 0 U (cE y1 U U)) lo lo (λob2 oc2 G2 gr2=>qO 4 U (oi i1 U (qO 2 U (aX (L':=G2) js (ag1 ((fI++[y1]),ob2,oc2,G2) hs4 ⟨gr2,lo⟩))))))
 have c2p:=of_decide_eq_false c2
 exact aI (qT 2 U (oi i1 U (qO 2 U (aX (L':=i9) js (ag1 (fI,i8,i7,i9) hs5 ⟨iv,lo⟩)))))
theorem wS(h:HF)(y:Approval)  : Ret prog 43 [.agg (xC y).toArray] h (I (fy y)):=by
 refine sT func43 U ntmps43 U λX hM hX hF=>?_
 have hs0:fy y=fy y:=rfl
 exact sr (cz (λb1=>qL 8 [0] U (nretP [I y.Known] (ci hs0))))
theorem AU(h:HF)(l:List Use)(eu:Option Addr)(et:Nat)(known:(Use->Int))(known_v:Value)(aH:Int)(hl:SlC aBY h eu et l)(hknown:∀(h':HF)(dl:Use),vM h h'->pQ prog known_v [.agg (aAc dl).toArray] h' [] (I (known dl)))(hsz0:l.length<=2000000):jv prog 44 [.slice eu l.length et,known_v,I aH] h (λv h'=>∃(rb0:Option Addr)(rc0:Nat),v=.slice rb0 (dw l known aH).length rc0/\SlC aBY h' rb0 rc0 (dw l known aH)):=by
 refine sT func44 U ntmps44 U λX hM hX hF=>?_
 have hs0:dw l known aH=dw l known aH:=rfl
 refine qK 11 [] U ?_
 refine lp2 l (λi w=>[(1,known_v),(2,I aH),(6,.slice w.2.1 w.1.length w.2.2.1),(9,.slice eu l.length et),(10,I (l.length:Int)),(11,I (i:Int))]) (λ_=>h) (λw=>w.2.2.2) (λi w=>dC aBY 111 h w.1 w.2.1 w.2.2.1 w.2.2.2/\w.1.length<=0+i) (λs1 i w=>(dw.L1 known aH (dw.K1)) s1 w.1) ([],none,0,[]) hl.1.1 hs0 ⟨dC.nil,lo⟩ ?_ ?_
 .rintro i1 ⟨fI,i8,i7,i9⟩ ft hs1 ⟨iv,lS⟩ e
  try dsimp only at iv lS
  refine qT 5 U (eK aCa ([]) i9 ([]) ap hM iv (λh2 hle2 sl2=>?_))
  have hs2:dw l known aH=fI:=hs1
  exact nretH [.slice i8 fI.length i7] ⟨i8,i7,congrArg (λr:List Use=>(.slice i8 r.length i7:Value)) hs2.symm,(by rw[hs2];exact sl2)⟩
 rintro i1 ⟨fI,i8,i7,i9⟩ y1 rz1 hd1 df aS dZ gy hs3 ⟨iv,lS⟩ hx1 ag1 e
 try dsimp only at iv lS
 refine sr (tO df U (qO 8 U (aB (iF aAc zt ty111 hl.1 aS U U U (λq2 A2=>dq ty111 A2 U U (aT zc111 (λb3=>aL 0 ty111 U U U U U U (gJ (L':=[(b3,O (aAc y1) 111)]++(i9)) U (qO 4 U (cI 0 ty111 U U U (aB (ke (v:=I (known y1)) [] (List.nil_sublist _) (hknown h y1 lf) U U (qO 3 U (ae hs3 U (λc2 hs4=>?_) (λc2 hs5=>?_)))))))))))))))
 .have c2p:=of_decide_eq_true c2
  exact bE (av (cI 0 ty111 U U U (aB (bB (cells:=[I y1.Doc,I y1.Kind,I y1.Value,I y1.At,I y1.Known]) zt ty111 zc111 U U kr (λb4=>aB (dy Use.em ([(b4,O [I y1.Doc,I y1.Kind,I y1.Value,I y1.At,I y1.Known] 111),(b3,O (aAc y1) 111)]) ([]) (λG=>[(b4,O [I y1.Doc,I y1.Kind,I y1.Value,I y1.At,I y1.Known] 111),(b3,O (aAc y1) 111)]++G) ap (λ_=>ap) zt ty111 zc111 U bytes111 iv U U (eF 0 U (cE y1 U U)) lo lo (λob2 oc2 G2 gr2=>qO 4 U (oi i1 U (qO 2 U (aX (L':=G2) js (ag1 ((fI++[y1]),ob2,oc2,G2) hs4 ⟨gr2,lo⟩)))))))))))
 have c2p:=of_decide_eq_false c2
 exact aI (qT 2 U (oi i1 U (qO 2 U (aX (L':=i9) js (ag1 (fI,i8,i7,i9) hs5 ⟨iv,lo⟩)))))
theorem wR(h:HF)(y:Use)  : Ret prog 45 [.agg (aAc y).toArray] h (I (gj y)):=by
 refine sT func45 U ntmps45 U λX hM hX hF=>?_
 have hs0:gj y=gj y:=rfl
 exact sr (cz (λb1=>qL 8 [0] U (nretP [I y.Known] (ci hs0))))
end Go.Sg

namespace Go.Sg
open Go.Proofs Go.Proofs.Tryz
set_option maxHeartbeats 2000000
theorem law30_JudgeKnown_top{w:World}(h:HF)(hp:Pre h [] w)(cH:Register)(gB:dK)(signed:List Int)(ck:Option Addr)(cj:Nat)(u:List Use)(rO:Option Addr)(rN:Nat)(doc:Int)(cX:Int)(known:Int)(kx:vL h cH gB)(hsigned:SlC kB h ck cj signed)(hu:SlC aBY h rO rN u)(hsm:smR cH)(hk:Kinds h):Calls prog 7 [.agg (qQ cH gB).toArray,.slice ck signed.length cj,.slice rO u.length rN,I doc,I cX,I known].toArray w λe w'=>e=.returned (.bool (fm cH signed u doc cX known))/\RowKit.Below w.heap.size w w':=by
 refine Lb hp OH U ntmps7 U λX hM hX=>?_
 have hs0:fm cH signed u doc cX known=fm cH signed u doc cX known:=rfl
 refine sr (cz (λb1=>qO 5 U (aj call9 (Hh h  hk) U (qO 2 U (ae hs0 U (λc1 hs1=>?_) (λc1 hs2=>?_))))))
 .exact sr (an (EL [.bool false] OH U hX rd (cs hs1)))
 .refine qT 4 U (cI 0 ty30 U U U (qO 5 U (aj call19 (FMqq _ _ _ _ _ _ _ _ _ doc cX known kx hsigned hu ob) U (qO 2 U (ae hs2 U (λc2 hs4=>?_) (λc2 hs5=>?_))))))
  .exact sr (an (EL [.bool true] OH U hX rd (cs hs4)))
  .refine qT 3 U (cI 0 ty30 U U U (aT zc30 (λb2=>aL 0 ty30 U U U U U U (qL 6 [1] U (aB (cT call32 (vx _ _ _ _ fE (.func (.func 33) #[] #[]) known kx.Appoints (λh' dl hle=>gM call33 (wX h' dl    )) hsm.2.1) U (λv1 h1 hle1 hp1=>?_)))))))
   obtain⟨rb1,rc1,rfl,sl1⟩:=hp1
   refine qL 1 [] U (cM 0 ty22 U U U U U U (qL 6 [1] U (aB (cT call34 (wP _ _ _ _ fD (.func (.func 35) #[] #[]) known (kx.Deputies.mono qS hle1) (λh' dl hle=>gM call35 (wW h' dl    )) hsm.2.2.1) U (λv2 h2 hle2 hp2=>?_)))))
   obtain⟨rb2,rc2,rfl,sl2⟩:=hp2
   refine qL 1 [] U (cM 0 ty23 U U U U U U (qL 6 [1] U (aB (cT call36 (uO _ _ _ _ fC (.func (.func 37) #[] #[]) known (kx.Interests.mono aAj (hle1.t hle2)) (λh' dl hle=>gM call37 (wV h' dl    )) hsm.2.2.2.1) U (λv3 h3 hle3 hp3=>?_)))))
   obtain⟨rb3,rc3,rfl,sl3⟩:=hp3
   refine qL 1 [] U (cM 0 ty24 U U U U U U (qL 6 [1] U (aB (cT call38 (wQ _ _ _ _ fB (.func (.func 39) #[] #[]) known (kx.Budgets.mono aBd ((hle1.t hle2).t hle3)) (λh' dl hle=>gM call39 (wU h' dl    )) hsm.2.2.2.2.1) U (λv4 h4 hle4 hp4=>?_)))))
   obtain⟨rb4,rc4,rfl,sl4⟩:=hp4
   refine qL 1 [] U (cM 0 ty25 U U U U U U (qL 6 [1] U (aB (cT call40 (vw _ _ _ _ fA (.func (.func 41) #[] #[]) known (kx.Versions.mono jM (((hle1.t hle2).t hle3).t hle4)) (λh' dl uC hle a0_o=>gM call41 (wT h' dl uC  a0_o  )) hsm.vers.len) U (λv5 h5 hle5 hp5=>?_)))))
   obtain⟨rb5,rc5,rfl,sl5⟩:=hp5
   refine qL 1 [] U (cM 0 ty26 U U U U U U (qL 6 [1] U (aB (cT call42 (uP _ _ _ _ fy (.func (.func 43) #[] #[]) known (kx.Approvals.mono zH ((((hle1.t hle2).t hle3).t hle4).t hle5)) (λh' dl hle=>gM call43 (wS h' dl    )) hsm.2.2.2.2.2.2) U (λv6 h6 hle6 hp6=>?_)))))
   obtain⟨rb6,rc6,rfl,sl6⟩:=hp6
   refine qL 1 [] U (cM 0 ty28 U U U U U U (qO 5 U (aB (cT call44 (AU _ _ _ _ gj (.func (.func 45) #[] #[]) known (hu.mono aCa (((((hle1.t hle2).t hle3).t hle4).t hle5).t hle6)) (λh' dl hle=>gM call45 (wR h' dl    )) (by have hq:=(tG (by simpa using(by assumption:(!(kv cH signed u doc cX known))=false))).2.2;omega)) U (λv7 h7 hle7 hp7=>?_)))))
   obtain⟨rb7,rc7,rfl,sl7⟩:=hp7
   refine qL 13 [] U ?_
   let z1:Nat×Obj:=(b2,O [.slice rb1 ((bX cH.Appoints fE known).length) rc1,.slice rb2 ((cm cH.Deputies fD known).length) rc2,.slice rb3 ((bN cH.Interests fC known).length) rc3,.slice rb4 ((cn cH.Budgets fB known).length) rc4,.slice rb5 ((bW cH.Versions fA known).length) rc5,.slice gB.Dl cH.Docs.length gB.Dk,.slice rb6 ((bO cH.Approvals fy known).length) rc6] 30)
   let z2:Nat×Obj:=(b1,O (qQ cH gB) 30)
   refine lp2 signed (λi w=>[(1,.slice ck signed.length cj),(2,.slice rO u.length rN),(3,I doc),(4,I cX),(5,I known),(6,Q b1),(13,Q b2),(14,.slice rb7 ((dw u gj known).length) rc7),(15,.slice w.2.1 w.1.length w.2.2.1),(66,.slice ck signed.length cj),(67,I (signed.length:Int)),(68,I (i:Int))]) (λ_=>h7) (λw=>[z1,z2]++(w.2.2.2)) (λi w=>dC kB 3 h7 w.1 w.2.1 w.2.2.1 w.2.2.2/\w.1.length<=0+i) (λs1 i w=>(fm.L1 cX (fm.K1 cH signed u doc cX known)) s1 w.1) ([],none,0,[]) ((hsigned.mono jH ((((((hle1.t hle2).t hle3).t hle4).t hle5).t hle6).t hle7)).1.1) hs5 ⟨dC.nil,lo⟩ ?_ ?_
   .rintro i1 ⟨td,RC,RB,LWqq⟩ ft hs7 ⟨Dfqq,LV⟩ e
    try dsimp only at Dfqq LV
    refine sr (cI 1 ty30 U U U (qO 5 U (aB (cT HB (lR _ _ _ _ _ _ _ _ _ doc cX known (kx.mono ((((((hle1.t hle2).t hle3).t hle4).t hle5).t hle6).t hle7)) (hsigned.mono jH ((((((hle1.t hle2).t hle3).t hle4).t hle5).t hle6).t hle7)) (hu.mono aCa ((((((hle1.t hle2).t hle3).t hle4).t hle5).t hle6).t hle7)) (by first|exact hsm|exact KT hsm _) (show cH.Docs.length<20 from(tG (by simpa using(by assumption:(!(kv cH signed u doc cX known))=false))).1) (hk.mono ((((((hle1.t hle2).t hle3).t hle4).t hle5).t hle6).t hle7))) U (λv10 h11 hle11 hp10=>?_)))))
    obtain⟨rr3,rfl,ok3⟩:=hp10
    refine qO 3 U (aT zc36 (λb7=>aL 0 ty36 U U U U U U (gJ (L':=[(b7,O (fJ.cells ((cU cH signed u doc cX known).1) rr3) 36),z1,z2]++(LWqq)) U (qO 4 U (cI 1 ty30 U U U (qO 5 U (oF jH ([(b7,O (fJ.cells ((cU cH signed u doc cX known).1) rr3) 36),z1,z2]) LWqq ([]) ap hM (Dfqq.mono jH hle11) (λh12 hle12 sl9=>aB (cT HB (lR _ _ _ _ _ _ _ _ _ doc cX known (show vL h12 (jG (bX cH.Appoints fE known) (cm cH.Deputies fD known) (bN cH.Interests fC known) (cn cH.Budgets fB known) (bW cH.Versions fA known) cH.Docs (bO cH.Approvals fy known)) (dK.mk rb1 rc1 rb2 rc2 rb3 rc3 rb4 rc4 rb5 rc5 gB.Dl gB.Dk rb6 rc6)from⟨(sl1.mono kP (((((((hle2.t hle3).t hle4).t hle5).t hle6).t hle7).t hle11).t hle12)),(sl2.mono qS ((((((hle3.t hle4).t hle5).t hle6).t hle7).t hle11).t hle12)),(sl3.mono aAj (((((hle4.t hle5).t hle6).t hle7).t hle11).t hle12)),(sl4.mono aBd ((((hle5.t hle6).t hle7).t hle11).t hle12)),(sl5.mono jM (((hle6.t hle7).t hle11).t hle12)),(kx.Docs.mono Document.ai ((((((((hle1.t hle2).t hle3).t hle4).t hle5).t hle6).t hle7).t hle11).t hle12)),(sl6.mono zH ((hle7.t hle11).t hle12))⟩) sl9 (sl7.mono aCa (hle11.t hle12)) (by first|exact hsm|exact KT hsm _) (show cH.Docs.length<20 from(tG (by simpa using(by assumption:(!(kv cH signed u doc cX known))=false))).1) (hk.mono ((((((((hle1.t hle2).t hle3).t hle4).t hle5).t hle6).t hle7).t hle11).t hle12))) U (λv11 h13 hle13 hp11=>?_))))))))))
    obtain⟨rr4,rfl,ok4⟩:=hp11
    refine qO 3 U (aT zc36 (λb8=>aL 0 ty36 U U U U U U (qO 7 U (bA 3 [102,103,104,105] 102 105 ((cU (jG (bX cH.Appoints fE known) (cm cH.Deputies fD known) (bN cH.Interests fC known) (cn cH.Budgets fB known) (bW cH.Versions fA known) cH.Docs (bO cH.Approvals fy known)) td (dw u gj known) doc cX known).2==0) U (λc4 hk1=>?_) (λe=>?_)))))
    .exact av (qO 2 U (hk1 _ U))
    refine av (bA 4 [106,107,108,109,110] 106 110 (oH ((cU cH signed u doc cX known).1) ((cU (jG (bX cH.Appoints fE known) (cm cH.Deputies fD known) (bN cH.Interests fC known) (cn cH.Budgets fB known) (bW cH.Versions fA known) cH.Docs (bO cH.Approvals fy known)) td (dw u gj known) doc cX known).1)) U (λc5 hk2=>?_) (λe=>?_))
    .exact cI 1 ty36 U U U (cI 0 ty36 U U U (aj call15 (GSqq _ _ _ _ _ (ok3.mono (hle12.t hle13)) ok4) U (eU U (hk2 _ U))))
    exact an (EL [.bool ((((cU cH signed u doc cX known).2==0)&&((cU (jG (bX cH.Appoints fE known) (cm cH.Deputies fD known) (bN cH.Interests fC known) (cn cH.Budgets fB known) (bW cH.Versions fA known) cH.Docs (bO cH.Approvals fy known)) td (dw u gj known) doc cX known).2==0))&&(oH ((cU cH signed u doc cX known).1) ((cU (jG (bX cH.Appoints fE known) (cm cH.Deputies fD known) (bN cH.Interests fC known) (cn cH.Budgets fB known) (bW cH.Versions fA known) cH.Docs (bO cH.Approvals fy known)) td (dw u gj known) doc cX known).1)))] OH U hX rd (cs hs7))
   .rintro i1 ⟨td,RC,RB,LWqq⟩ y1 rz1 hd1 df aS dZ gy hs9 ⟨Dfqq,LV⟩ hx1 ag1 e
    try dsimp only at Dfqq LV
    have hsl:=(tG (by simpa using(by assumption:(!(kv cH signed u doc cX known))=false))).2.1
    refine sr (tO df U (qO 8 U (aB (iF (λy=>[I y]) ej ty3 (hsigned.mono jH ((((((hle1.t hle2).t hle3).t hle4).t hle5).t hle6).t hle7)).1 aS U U U (λq2 A2=>dB ty3 A2 U (qO 9 U (ae hs9 U (λc6 hs10=>?_) (λc6 hs11=>?_))))))))
    .have c6p:=of_decide_eq_true c6
     exact bE (qO 5 U (aB (bB (cells:=[I (-1)]) ej ty3 zc3 U U kr (λb9=>aB (dy Rp.iI ([(b9,O [I (-1)] 3),z1,z2]) ([]) (λG=>[(b9,O [I (-1)] 3),z1,z2]++(G)) ap (λ_=>ap) ej ty3 zc3 U bytes3 Dfqq U U (eF 0 U (cE (-1) U U)) lo lo (λob3 oc3 G3 gr3=>qO 4 U (oi i1 U (qO 2 U (aX (L':=[z1,z2]++(G3)) js (ag1 ((td++[(-1)]),ob3,oc3,G3) hs10 ⟨gr3,lo⟩))))))))))
    .have c6p:=of_decide_eq_false c6
     exact aI (qT 3 U (aB (bB (cells:=[I y1]) ej ty3 zc3 U U kr (λb10=>aB (dy Rp.iI ([(b10,O [I y1] 3),z1,z2]) ([]) (λG=>[(b10,O [I y1] 3),z1,z2]++(G)) ap (λ_=>ap) ej ty3 zc3 U bytes3 Dfqq U U (eF 0 U (cE y1 U U)) lo lo (λob4 oc4 G4 gr4=>qO 4 U (oi i1 U (qO 2 U (aX (L':=[z1,z2]++(G4)) js (ag1 ((td++[y1]),ob4,oc4,G4) hs11 ⟨gr4,lo⟩))))))))))
end Go.Sg

namespace Go.Proofs.YtpplkjhgggjaoaaGreatDoor.judgeKnown
open Go.ChangeShapes Go.WideShapes Go.ChangeAt Go.RowKit
theorem own:ownKnob Tryz.prog.godebug=none:=by kernel_rfl
theorem laidOut:laidOutB Tryz.prog=true:=by kernel_rfl
theorem contract(H:Type)(enc:TypeId×Value->H)(W:World)(base:Nat)(args:Array Value)(ds gs:List (DataW H))(before:List MemPlace)(hval:∀(j:Nat)t v,Tryz.f7.params[j]? = some t->args[j]? = some v->Value.okWide Tryz.prog W .any base t v)(hW:DataW.Whole enc Tryz.prog Tryz.f7.params.toList Rows.judgeKnownSpec.vars false W args.toList ds gs before)(hcond:Rows.uptoSmall H (ds++gs)=true)(hL:laidMetH Tryz.prog Rows.judgeKnownUptoRow.laid W):
    Calls Tryz.prog 7 args W λe W'=>∃v,e=.returned v/\Rows.judgeKnownSpec.post enc Tryz.prog Tryz.f7 false true false false W args v W':=by
  have hW':=hW
  obtain⟨p,q,hA0,hV,rfl,hfz,hnd⟩:=hW
  have hA:DataW.TrodAll enc Tryz.prog W 0 (λ_=>true) true Tryz.f7.params.toList args.toList ds p:=hA0
  rw[Tryz.params7]at hA hval
  obtain⟨v0,vs0,d0,ds0,p0,z0,hargs,rfl,rfl,h0,t0⟩:=trodAll_cons hA
  obtain⟨v1,vs1,d1,ds1,p1,z1,rfl,rfl,rfl,h1,t1⟩:=trodAll_cons t0
  obtain⟨v2,vs2,d2,ds2,p2,z2,rfl,rfl,rfl,h2,t2⟩:=trodAll_cons t1
  obtain⟨v3,vs3,d3,ds3,p3,z3,rfl,rfl,rfl,h3,t3⟩:=trodAll_cons t2
  obtain⟨v4,vs4,d4,ds4,p4,z4,rfl,rfl,rfl,h4,t4⟩:=trodAll_cons t3
  obtain⟨v5,vs5,d5,ds5,p5,z5,rfl,rfl,rfl,h5,t5⟩:=trodAll_cons t4
  obtain⟨rfl,rfl,rfl⟩:=trodAll_nil t5
  obtain rfl:args=#[v0,v1,v2,v3,v4,v5]:=by cases args;simp_all
  obtain⟨rfl,rfl⟩:=trodVars_none hV
  clear hA0 hA
  have h0k:=h0
  have h1k:=h1
  have h2k:=h2
  have h3k:=h3
  have h4k:=h4
  have h5k:=h5
  simp only[List.append_nil]at hW' hcond
  have hB:Rows.uptoBulkAll [d0,d1,d2,d3,d4,d5]<=1048576:=of_decide_eq_true hcond
  obtain⟨a0,rfl,_⟩:=okWide_struct Tryz.underlying30 (hval 0 30 v0 rfl rfl)
  obtain⟨f0,g0⟩:=h0
  obtain⟨x0,⟨r0,e0,o0⟩,q0⟩:=Sg.opn_Register f0 _ _ _ g0
  obtain rfl:a0=(Sg.Register.cells x0 r0).toArray:=by
    apply Array.toList_inj.1;exact e0
  obtain⟨b1,l1,c1,rfl⟩:=okWide_slice Tryz.underlying31 (hval 1 31 v1 rfl rfl)
  obtain⟨f1,g1⟩:=h1
  obtain⟨b1',c1',x1,e1,o1,q1⟩:=Sg.opn_slice (R:=Sg.Rp.int) (sz:=λ_=>1) Tryz.underlying31 (by kernel_rfl) (by decide) (λk _=>Sg.opn_int (by kernel_rfl) k) g1
  cases e1
  obtain⟨b2,l2,c2,rfl⟩:=okWide_slice Tryz.underlying32 (hval 2 32 v2 rfl rfl)
  obtain⟨f2,g2⟩:=h2
  obtain⟨b2',c2',x2,e2,o2,q2⟩:=Sg.opn_slice (R:=Sg.Use.rp) (sz:=λ_=>1) Tryz.underlying32 (by kernel_rfl) (by decide) (λk _=>Sg.opn_Use k) g2
  cases e2
  obtain⟨n3,rfl⟩:=okWide_int Tryz.underlying3 (hval 3 3 v3 rfl rfl)
  obtain⟨n4,rfl⟩:=okWide_int Tryz.underlying3 (hval 4 3 v4 rfl rfl)
  obtain⟨n5,rfl⟩:=okWide_int Tryz.underlying3 (hval 5 3 v5 rfl rfl)
  simp only[Rows.uptoBulkAll]at hB
  have y1:=Sg.szL_len (f:=λ_:Int=>1) (λ_=>Nat.le_refl _) x1
  have y2:=Sg.szL_len (f:=λ_:Sg.Use=>1) (λ_=>Nat.le_refl _) x2
  have z0b:=Sg.bulk_one d0
  have z1b:=Sg.bulk_one d1
  have z2b:=Sg.bulk_one d2
  have z3b:=Sg.bulk_one d3
  have z4b:=Sg.bulk_one d4
  have z5b:=Sg.bulk_one d5
  have walk:=Sg.law30_JudgeKnown_top (Sg.hOf W) (Sg.pre_hOf W) x0 r0 x1 b1 c1 x2 b2 c2 n3 n4 n5 o0 o1 o2 (Sg.smR_of (by omega)) (Sg.kinds_of hL)
  rw[Sg.known_true (Sg.smR_of (by omega))]at walk
  refine walk.mono λe W'⟨he,hb⟩=>?_
  subst he
  exact⟨_,rfl,Sg.post_below (pa:=p0++(p1++(p2++(p3++(p4++(p5++([]))))))) (pv:=[]) hW' (λ_ _ _=>trodAll_cons_mk (shut_bool Tryz.underlying4 _) trodAll_mk0) (λsp hsp=>(trodAll_cons_mk (Sg.stays laidOut (by kernel_rfl) (by kernel_rfl) h0k hb hW'.lt (λx hx=>by simp[hx]) hsp) (trodAll_cons_mk (Sg.stays laidOut (by kernel_rfl) (by kernel_rfl) h1k hb hW'.lt (λx hx=>by simp[hx]) hsp) (trodAll_cons_mk (Sg.stays laidOut (by kernel_rfl) (by kernel_rfl) h2k hb hW'.lt (λx hx=>by simp[hx]) hsp) (trodAll_cons_mk (Sg.stays laidOut (by kernel_rfl) (by kernel_rfl) h3k hb hW'.lt (λx hx=>by simp[hx]) hsp) (trodAll_cons_mk (Sg.stays laidOut (by kernel_rfl) (by kernel_rfl) h4k hb hW'.lt (λx hx=>by simp[hx]) hsp) (trodAll_cons_mk (Sg.stays laidOut (by kernel_rfl) (by kernel_rfl) h5k hb hW'.lt (λx hx=>by simp[hx]) hsp) trodAll_mk0))))))) (λ_ _=>rfl) (by simp) hb (ok_one (by kernel_rfl) rfl (okWide_bool_mk Tryz.underlying4 _))⟩
end Go.Proofs.YtpplkjhgggjaoaaGreatDoor.judgeKnown
