import Derived.Shelf.SlSortCmp.WholeK
import Derived.Ground.SlsfProg
import Derived.Shelf.Small.Strs
import Derived.Shelf.Strings.Search1
import Derived.Shelf.Sort.Plain
import Derived.Ground.Names2Prog
import Derived.Shelf.Slices.Clone
import Derived.Shelf.Slices.CompactI
import Derived.Shelf.Slices.SearchI
import Derived.Shelf.Slices.In.SortNone
import Derived.Shelf.Slices.Empties
import Derived.Ground.SlgcProg
import Derived.Shelf.SlicesG.Cmp
import Derived.Sort.OwnSortedInts
import Derived.Test.YtafbfagbjekhhaaGreatDoorL5
/- A part of the proof of MissingLeast. -/
set_option linter.unusedVariables false
set_option linter.unusedSimpArgs false
set_option maxRecDepth 100000
open List renaming length_cons→zA,length_append→jA,not_mem_nil→kA,length_nil→zB,toArray→xB,mem_cons_self→vB,mem_cons_of_mem→xC,mem_singleton→jC,range→vD,mem_cons→kD,mem_of_getElem?→xE,append_assoc→jE,nil_append→vF,perm_append_comm→xG,mem_append→qH,getElem?_map→zW,map_append→Wx,nodup_nil→WH,foldl_cons→WZ,nodup_append→Xi
open Go.Sg.HF renaming le_trans→vA,le_refl→kH,le→xJ
open Go.Sg.Rp renaming int→jB,bw→vH,bool→qW,jZ→XF
open Go.IntKind renaming wrap→kB
open Bool renaming and_eq_true→qC,or_eq_true→zE,not_eq_true'→xF
open Go.Value renaming int→zC,func→kQ,bool→vV
open Go.Sg.Register renaming cells→zD,ok→zL
open Nat renaming le_refl→kE,zero_le→zH,lt_or_ge→kM
open Go.Sg.OSeat renaming cells→qF,enc→qV,rp→Xn
open Go.Sg.SlC renaming nil→zG
open Go.Obj renaming cells→jG
open Go.Deferred renaming ofValue→xH
open Go.Sg.Budget renaming cells→xM,rp→zR,mk→Xo,aD→Yg
open Go.Addr renaming add→zQ
open Array renaming ext'→xS
open Go.Sg.St renaming start→W8,after→Xd
open Go.Sg.Use renaming cells→Xm,rp→XC,aD→Yf
open Go.Sg.Env renaming ev→XQ
open Go.Sg.Stp renaming mono→XS

namespace Go.Sg
open Go.Proofs Go.Proofs.Tryz
set_option maxHeartbeats 2000000
theorem xd(h no v0 Rk v0_q)(hv0:iq.ok h v0 Rk)(av0:At h v0_q (iq.cells v0 Rk)):Ret prog 219 [I no,.pointer (some v0_q)] h (.bool (iU no v0)):=by
 refine sT func219 U ntmps219 U λX hM hX hF=>?_
 have hs0:=@rfl _ (iU no v0)
 refine qK 7 [] U (lQ (j:=1) ty43 av0 U U (bp ?_))
 obtain⟨o1,hb1,hm1⟩:=hv0.at_
 refine aI (we (k:=no) Db (gx nI) hb1 hm1 (ft zv3) (show yP _ (I 0) 0 from U) U U (λv1 hv1=>?_))
 obtain rfl:=hv1
 exact bp (qO 11 U (nretP [.bool (!(mhas v0.at_ no))] (cs hs0)))
instance kC219:Ct 219:=⟨_,call219,@xd⟩
theorem yK(h s Wn d Be)(hs:iq.ok h s Wn)(hd:ao.ok h d Be):Ret prog 149 [.agg (iq.cells s Wn).toArray,.agg (ao.cells d Be).toArray] h (.bool (kt s d)):=by
 refine sT func149 U ntmps149 U λX hM hX hF=>?_
 generalize hz:(kt s d)=z;have hs:=hz.symm
 exact W
instance kC149:Ct 149:=⟨_,call149,@yK⟩
theorem qh(h l fo fm)(hl:SlC ao.rp h fo fm l):Ret prog 77 [.slice fo l.length fm] h (I (aZ l)):=by
 refine sT func77 U ntmps77 U λX hM hX hF=>?_
 generalize hz:(aZ l)=z;have hs:=hz.symm
 have HA:=h0 [0,3,11,12] 13 (λs1 i=>(aZ.L1 l (aZ.K1)) s1 i)
 exact W
theorem AN(h cK gU)(mK:zL h cK gU)(hsm:smR cK)(hk:dN h):Ret prog 26 [.agg (zD cK gU).toArray] h (I (dM cK)):=by
 refine sT func26 U ntmps26 U λX hM hX hF=>?_
 have hs0:=@rfl _ (dM cK)
 have hsv:=hsm.vers
 refine sr (eO (λb1=>qO 4 U ?_))
 let z1:Nat×Obj:=(b1,O (zD cK gU) 30)
 refine eY ([z1]) mixed kr jn (λgK _=>?_)
 refine qB [0] U (tf 1 U U (rj 0 ty22 U U U) (qB [3] U (tf 4 U U (rj 0 ty23 U U U) (qB [6] U (tf 7 U U (rj 0 ty24 U U U) (qB [9] U (tf 10 U U (rj 0 ty25 U U U) (qB [12] U (tf 13 U U (rj 0 ty26 U U U) (qB [15] U (tf 16 U U (rj 0 ty27 U U U) (qB [18] U (tf 19 U U (rj 0 ty28 U U U) (tm 23 U (tn 2 U (gi call72 (se _ _ _ _ mK.dF) U (⟨jn,tn 5 U (gi call73 (wC _ _ _ _ mK.ga) U (⟨jn,tn 8 U (gi call74 (vp _ _ _ _ mK.er) U (⟨jn,tn 11 U (gi call75 (so _ _ _ _ mK.dH) U (⟨jn,tn 14 U (gi call76 (sS _ _ _ _ mK.Versions ob hk) U (⟨jn,(tn 17 U (gi call77 (qh _ _ _ _ mK.cd) U (⟨jn,(tn 20 U (gi call45 (vz _ _ _ _ mK.dC) U (⟨jn,(tn 21 U (bN (cells:=[I (dD cK.dF),I (dT cK.ga),I (du cK.er),I (bX cK.dH),I (bR cK.Versions),I (aZ cK.cd),I (cj cK.dC)]) underlying148 ty36 zc36 U U kr (λb2=>⟨jn,(tf 22 U U (λ_ _ _=>Ke underlying148 U) (bO kr (gE 0 U hM (λh1 hle1 hb1=>?_))))⟩)))⟩)))⟩)))⟩))⟩))⟩))⟩))⟩)))))))))))))))))
 have sl1:SlC jB h1 (zAD b2) 7 ([(dD cK.dF),(dT cK.ga),(du cK.er),(bX cK.dH),(bR cK.Versions),(aZ cK.cd),(cj cK.dC)]):=cS.slB0 (T:=36) (fz:=(0,0)) ((show cS jB h [I (dD cK.dF),I (dT cK.ga),I (du cK.er),I (bX cK.dH),I (bR cK.Versions),I (aZ cK.cd),I (cj cK.dC)] ([(dD cK.dF),(dT cK.ga),(du cK.er),(bX cK.dH),(bR cK.Versions),(aZ cK.cd),(cj cK.dC)])from⟨[I (dD cK.dF)],[I (dT cK.ga),I (du cK.er),I (bX cK.dH),I (bR cK.Versions),I (aZ cK.cd),I (cj cK.dC)],rfl,rfl,rfl,⟨[I (dT cK.ga)],[I (du cK.er),I (bX cK.dH),I (bR cK.Versions),I (aZ cK.cd),I (cj cK.dC)],rfl,rfl,rfl,⟨[I (du cK.er)],[I (bX cK.dH),I (bR cK.Versions),I (aZ cK.cd),I (cj cK.dC)],rfl,rfl,rfl,⟨[I (bX cK.dH)],[I (bR cK.Versions),I (aZ cK.cd),I (cj cK.dC)],rfl,rfl,rfl,⟨[I (bR cK.Versions)],[I (aZ cK.cd),I (cj cK.dC)],rfl,rfl,rfl,⟨[I (aZ cK.cd)],[I (cj cK.dC)],rfl,rfl,rfl,⟨[I (cj cK.dC)],[],rfl,rfl,rfl,rfl⟩⟩⟩⟩⟩⟩⟩).mono vH hle1) hb1
 refine gB (ι:=Nat) (λi=>[]) (λi=>h1) (λi=>[z1]) (λi=>i<=(vD 7).length/\dM cK=((dM.K1))) ?_ (λhx1=>?_)
 .rintro i1 ⟨iP,hs1⟩ e
  exact sr (an (nretP [I 0] (ci hs1)))
 refine ju (ι:=Nat×List Nat) (λi=>[(26,.slice (zAD b2) 7 7),(27,I 7),(28,I (i.1:Int))]) (λi=>h1) (λi=>[z1]) (λi=>(vD 7).drop i.1=i.2/\i.1<=(vD 7).length/\dM cK=((dM.L1 cK (dM.K1)) i.2 i.1)) (λi=>i.2.length) (0,(vD 7)) rd sw ⟨U,zH _,hs0⟩ ?_
 rintro⟨i1,s1⟩ ⟨hd1,iP,hs3⟩ ag1 e
 rcases s1 with _|⟨y1,rz1⟩
 .have ml:decide ((i1:Int)<7)=false:=by simpa using nF hd1
  exact sr (fO ml U (qO 4 U (hx1 i1 _ ⟨iP,hs3⟩ trivial)))
 have fY:decide ((i1:Int)<7)=true:=by simpa using tc hd1
 have iT:i1<7:=by simpa using ip hd1
 refine sr (tO fY U (qO 8 U ?_))
 have ho2:0<=((i1:Int):Int)/\((i1:Int):Int)<(([(dD cK.dF),(dT cK.ga),(du cK.er),(bX cK.dH),(bR cK.Versions),(aZ cK.cd),(cj cK.dC)]).length:Int):=ob
 refine aI (tx (enc:=λy=>[I y]) ei underlying148 ty36 sl1.1 ho2 (di ho2) U U U (λq2 A2=>eJ ty36 A2 U (qO 7 U (aH hs3 U (λc2 hs5=>?_) (λc2 hs6=>?_)))))
 .exact sr (an (nretP [I 300] (ci hs5)))
 exact bL (qT 2 U (oi i1 U (qO 2 U (ag1 ((i1+1),rz1) _ (Nat.lt_succ_self _) ⟨kx hd1,ip hd1,hs6⟩ rd))))
theorem xZ(h t)  : Ret prog 150 [I t] h (.bool (mj t)):=by
 refine sT func150 U ntmps150 U λX hM hX hF=>?_
 generalize hz:(mj t)=z;have hs:=hz.symm
 exact W
instance kC150:Ct 150:=⟨_,call150,@xZ⟩
theorem rV(h l fo fm signed co cn)(hl:SlC ao.rp h fo fm l)(eN:SlC jB h co cn signed):Ret prog 78 [.slice fo l.length fm,.slice co signed.length cn] h (.bool (cD l signed)):=by
 refine sT func78 U ntmps78 U λX hM hX hF=>?_
 generalize hz:(cD l signed)=z;have hs:=hz.symm
 exact W
theorem Dh(h x UO Ux)(hx:SlC jB h UO Ux x)(hne:0<x.length):Ret prog 153 [.slice UO x.length Ux] h (I (ii x)):=by
 refine sT func153 U ntmps153 U λX hM hX hF=>?_
 have hs0:=@rfl _ (ii x)
 refine qK 11 [] U (ly U (λc1=>?_) (λc1=>?_))
 .exact absurd c1 (by simp only[decide_eq_true_eq,Bool.not_eq_true,decide_eq_false_iff_not];omega)
 have c1p:=of_decide_eq_false c1
 refine qT 4 U ?_
 have ho1:0<=(0:Int)/\(0:Int)<((x).length:Int):=ob
 refine aI (tx (enc:=λy=>[I y]) ei eP ty3 hx.1 ho1 (di ho1) U U U (λq1 A1=>eJ ty3 A1 U (qO 7 U ?_)))
 refine gB (ι:=Nat×Int) (λi=>[(3,I i.2)]) (λi=>h) (λi=>[]) (λi=>i.1<=x.length/\ii x=((ii.K1) i.2)) ?_ (λhx1=>?_)
 .rintro⟨i1,lG⟩ ⟨iP,hs1⟩ e
  exact sr (qO 3 U (nretP [I lG] (ci hs1)))
 refine ju (ι:=Nat×Int×List Int) (λi=>[(0,.slice UO x.length Ux),(3,I i.2.1),(4,I (i.1:Int))]) (λi=>h) (λi=>[]) (λi=>x.drop i.1=i.2.2/\i.1<=x.length/\ii x=((ii.L1 (ii.K1)) i.2.2 i.2.1)) (λi=>i.2.2.length) (1,(nthI x 0),(x.drop 1)) rd sw ⟨U,ob,hs0⟩ ?_
 rintro⟨i1,lG,s1⟩ ⟨hd1,iP,hs3⟩ ag1 e
 rcases s1 with _|⟨y1,rz1⟩
 .have ml:=nF hd1
  exact qK 6 [] U (fO ml U (qO 3 U (hx1 (i1,lG) _ ⟨iP,hs3⟩ rd)))
 have fY:=tc hd1
 have dz:=rJ hd1
 have iT:=ip hd1
 have mF:=hx.1.1
 exact qK 6 [] U (tO fY U (qO 9 U (aI (iF (λy=>[I y]) eP ty3 hx.1 dz U U U (λq3 A3=>eJ ty3 A3 U (aI (eG (UC U U) (qO 5 U (oi i1 U (an (ag1 ((i1+1),(min lG y1),rz1) _ (Nat.lt_succ_self _) ⟨kx hd1,ip hd1,hs3⟩ rd)))))))))))
theorem nE(h p jg p_q)(sD:Int)(bq)(hp:fh.ok h p jg)(ap_z:At h p_q (fh.cells p jg))(hi:0<=sD/\sD<(p.shelf.docs.length:Int))(hlen:p.done.length=p.shelf.docs.length/\p.lacks.length=p.shelf.docs.length):Ret prog 81 [.pointer (some p_q),I sD,I bq] h (.tuple #[I ((cZ p sD bq).1),I ((cZ p sD bq).2)]):=by
 refine sT func81 U ntmps81 U λX hM hX hF=>?_
 have hs0:=@rfl _ (cZ p sD bq)
 refine qT 8 U (aI (eG (gv U) (qL 2 [] U (eJ ty27 ap_z U (bp ?_)))))
 have ho1:0<=(sD:Int)/\(sD:Int)<((p.shelf.docs).length:Int):=ob
 refine aI (yv xh ty54 hp.shelf.docs.1 ho1 (di ho1) U U U (λ_ _ _ e=>e) (λq1 r1 A1 ok1=>eU ty54 A1 U U (bH zc54 (λb1=>bE 0 ty54 U U U U U U (qO 6 U (aI (eG (gv U) (qL 1 [] U (lQ (j:=3) ty136 ap_z U U (bp ?_))))))))))
 have ho2:0<=(sD:Int)/\(sD:Int)<((p.done).length:Int):=ob
 refine aI (tx (enc:=λy=>[.bool y]) ei Et ty4 hp.done.1 ho2 (di ho2) U U U (λq2 A2=>eJ ty4 A2 U (qO 3 U (aH hs0 U (λc1 hs1=>?_) (λc1 hs2=>?_)))))
 .refine qT 5 U ?_
  have hs3:cZ p sD bq=(1,(-1)):=hs1
  exact nretP [I 1,I (-1)] (hs3▸U)
 refine qT 3 U (aI (eG (gv U) (qL 1 [] U (lQ (j:=4) ty31 ap_z U U (bp ?_)))))
 have ho3:0<=(sD:Int)/\(sD:Int)<((p.lacks).length:Int):=ob
 refine aI (tx (enc:=λy=>[I y]) ei eP ty3 hp.lacks.1 ho3 (di ho3) U U U (λq3 A3=>eJ ty3 A3 U (qO 3 U (aH hs2 U (λc2 hs4=>?_) (λc2 hs5=>?_)))))
 .have c2p:=of_decide_eq_true c2
  refine ea (eY ([(b1,O (ao.cells (nthI p.shelf.docs sD) r1) 54)]) mixed kr jn (λgK _=>tm 0 U (tf 1 U U (λ_ _ _=>gv U) (qB [2] U (tf 3 U U (rH 4 ty31 ap_z U U) (tm 4 U ?_))))))
  have ho4:0<=(sD:Int)/\(sD:Int)<((p.lacks).length:Int):=ob
  refine ir 5 (enc:=λy=>[I y]) gK jn ei eP ty3 hp.lacks.1 ho4 (di ho4) U U U U kr (λq4 A4=>tf 6 U U (rh ty3 A4 U) (qA [7,8] U (bO kr ?_)))
  have hs6:cZ p sD bq=(4,(nthI p.lacks sD)):=hs4
  exact nretP [I 4,I (nthI p.lacks sD)] (hs6▸U)
 have c2p:=of_decide_eq_false c2
 refine ea ?_
 let z1:Nat×Obj:=(b1,O (ao.cells (nthI p.shelf.docs sD) r1) 54)
 refine eY ([z1]) mixed kr jn (λlZ _=>?_)
 refine tm 0 U (tf 1 U U (λ_ _ _=>gv U) (qB [2] U (tf 3 U U (rH 5 ty105 ap_z U U) (qB [4] U (tf 5 U U (rj 0 ty3 U U U) (tn 6 U ?_))))))
 obtain⟨o1,hb1,hm1⟩:=hp.revoked
 refine pt (k:=(nthI p.shelf.docs sD).No) GF (gx nI) hb1 hm1 (ft zv31) (show(VSl jB) _ (zSN) []from⟨none,0,U,zG⟩) U U (λv1 hv1=>?_)
 obtain⟨rb1,rc1,rfl,sl1⟩:=hv1
 refine⟨jn,(tf 7 U U (λ_ _ _=>Ke eP U) (qA [8,9] U (bO kr (aH hs5 U (λc3 hs7=>?_) (λc3 hs8=>?_)))))⟩
 .have c3p:=of_decide_eq_true c3
  refine ea (eY ([z1]) mixed kr jn (λNA _=>tm 0 U (tf 1 U U (λ_ _ _=>gv U) (qB [2] U (tf 3 U U (rH 5 ty105 ap_z U U) (qB [4] U (tf 5 U U (rj 0 ty3 U U U) (tn 6 U ?_))))))))
  obtain⟨o2,hb2,hm2⟩:=hp.revoked
  refine pt (k:=(nthI p.shelf.docs sD).No) GF (gx nI) hb2 hm2 (ft zv31) (show(VSl jB) _ (zSN) []from⟨none,0,U,zG⟩) U U (λv2 hv2=>?_)
  obtain⟨rb2,rc2,rfl,sl2⟩:=hv2
  refine⟨jn,(tn 7 U (gi call153 (Dh _ _ _ _ sl2 ob) U (⟨jn,(qA [8,9] U (bO kr ?_))⟩)))⟩
  have hs9:cZ p sD bq=(5,(ii (mgetD p.revoked ((nthI p.shelf.docs sD).No) []))):=hs7
  exact nretP [I 5,I (ii (mgetD p.revoked ((nthI p.shelf.docs sD).No) []))] (hs9▸U)
 have c3p:=of_decide_eq_false c3
 refine qK 8 [0] U (aH hs8 U (λc4 hs10=>?_) (λc4 hs11=>?_))
 .have c4p:=of_decide_eq_true c4
  refine qT 5 U ?_
  have hs12:cZ p sD bq=(2,(-1)):=hs10
  exact nretP [I 2,I (-1)] (hs12▸U)
 have c4p:=of_decide_eq_false c4
 refine qK 8 [0] U (aH hs11 U (λc5 hs13=>?_) (λc5 hs14=>?_))
 .have c5p:=of_decide_eq_true c5
  refine qT 5 U ?_
  have hs15:cZ p sD bq=(3,(-1)):=hs13
  exact nretP [I 3,I (-1)] (hs15▸U)
 have c5p:=of_decide_eq_false c5
 refine qT 7 U ?_
 have hs16:cZ p sD bq=(0,(-1)):=hs14
 exact nretP [I 0,I (-1)] (hs16▸U)
end Go.Sg

namespace Go.Proofs
open Go.Shelf
def Tryz.Nm:Go.Shelf.Ren:=⟨λ| 137=>345|217=>347|266=>348|n=>n,λ| 9=>9|5=>5|3=>3|n=>n,λ| n=>n⟩
theorem Tryz.lays137:Go.Proofs.Lays.n137 Tryz.prog Tryz.Nm:={
 mixed:=by kernel_rfl
 f137:=Tryz.func345.trans (congrArg some (by kernel_rfl))
 f217:=Tryz.func347.trans (congrArg some (by kernel_rfl))
 f266:=Tryz.func348.trans (congrArg some (by kernel_rfl))
 t3:=Tryz.underlying3
 a3:=Tryz.isAgg3
 z3:=Tryz.sizeOf3
 v3:=Tryz.zeroValue3
 t5:=Tryz.underlying5
 a5:=Tryz.isAgg5
 z5:=Tryz.sizeOf5
 v5:=Tryz.zeroValue5
 t9:=Tryz.underlying9
 a9:=Tryz.isAgg9
 z9:=Tryz.sizeOf9
 v9:=Tryz.zeroValue9 }
open Go.RowKit in
theorem Tryz.strings_IndexByte(s:ByteArray)(c:Int)(w:World):
  Calls Tryz.prog 345 #[.string s,.int .u8 c] w λe w'=>e=.returned (.int .i64 (Lib.indexByte s.data.toList c.toNat.toUInt8))/\w'=w:=Any.strings_IndexByte Tryz.lays137 s c w
open Go.RowKit Go.Lib in
def Tryz.Nl:Go.Shelf.Ren:=⟨λ| 189=>94|125=>163|257=>162|128=>237|129=>238|294=>228|295=>229|296=>230|297=>231|298=>232|299=>233|216=>234|300=>235|301=>236|328=>294|329=>295|330=>296|331=>297|332=>298|215=>98|343=>324|n=>n,λ| 28=>31|3=>3|46=>139|0=>0|51=>199|53=>201|4=>4|183=>286|182=>285|131=>110|5=>5|9=>9|218=>331|222=>335|228=>369|229=>152|n=>n,λ| n=>n⟩
theorem Tryz.lays189:Go.Proofs.Lays.n189 Tryz.prog Tryz.Nl:={
 mixed:=by kernel_rfl
 f125:=Tryz.func163.trans (congrArg some (by kernel_rfl))
 f128:=Tryz.func237.trans (congrArg some (by kernel_rfl))
 f129:=Tryz.func238.trans (congrArg some (by kernel_rfl))
 f189:=Tryz.func94.trans (congrArg some (by kernel_rfl))
 f215:=Tryz.func98.trans (congrArg some (by kernel_rfl))
 f216:=Tryz.func234.trans (congrArg some (by kernel_rfl))
 f257:=Tryz.func162.trans (congrArg some (by kernel_rfl))
 f294:=Tryz.func228.trans (congrArg some (by kernel_rfl))
 f295:=Tryz.func229.trans (congrArg some (by kernel_rfl))
 f296:=Tryz.func230.trans (congrArg some (by kernel_rfl))
 f297:=Tryz.func231.trans (congrArg some (by kernel_rfl))
 f298:=Tryz.func232.trans (congrArg some (by kernel_rfl))
 f299:=Tryz.func233.trans (congrArg some (by kernel_rfl))
 f300:=Tryz.func235.trans (congrArg some (by kernel_rfl))
 f301:=Tryz.func236.trans (congrArg some (by kernel_rfl))
 f328:=Tryz.func294.trans (congrArg some (by kernel_rfl))
 f329:=Tryz.func295.trans (congrArg some (by kernel_rfl))
 f330:=Tryz.func296.trans (congrArg some (by kernel_rfl))
 f331:=Tryz.func297.trans (congrArg some (by kernel_rfl))
 f332:=Tryz.func298.trans (congrArg some (by kernel_rfl))
 f343:=Tryz.func324.trans (congrArg some (by kernel_rfl))
 t0:=Tryz.underlying0
 a0:=Tryz.isAgg0
 z0:=Tryz.sizeOf0
 v0:=Tryz.zeroValue0
 t3:=Tryz.underlying3
 a3:=Tryz.isAgg3
 z3:=Tryz.sizeOf3
 v3:=Tryz.zeroValue3
 t4:=Tryz.underlying4
 a4:=Tryz.isAgg4
 z4:=Tryz.sizeOf4
 v4:=Tryz.zeroValue4
 t5:=Tryz.underlying5
 a5:=Tryz.isAgg5
 z5:=Tryz.sizeOf5
 v5:=Tryz.zeroValue5
 t9:=Tryz.underlying9
 a9:=Tryz.isAgg9
 z9:=Tryz.sizeOf9
 v9:=Tryz.zeroValue9
 t28:=Tryz.underlying31
 a28:=Tryz.isAgg31
 z28:=Tryz.sizeOf31
 v28:=Tryz.zeroValue31
 t46:=Tryz.underlying139
 a46:=Tryz.isAgg139
 z46:=Tryz.sizeOf139
 v46:=Tryz.zeroValue139
 t51:=Tryz.underlying199
 a51:=Tryz.isAgg199
 z51:=Tryz.sizeOf199
 v51:=Tryz.zeroValue199
 t53:=Tryz.underlying201
 a53:=Tryz.isAgg201
 z53:=Tryz.sizeOf201
 v53:=Tryz.zeroValue201
 t131:=Tryz.underlying110
 a131:=Tryz.isAgg110
 z131:=Tryz.sizeOf110
 v131:=Tryz.zeroValue110
 t182:=Tryz.underlying285
 a182:=Tryz.isAgg285
 z182:=Tryz.sizeOf285
 v182:=Tryz.zeroValue285
 t183:=Tryz.underlying286
 a183:=Tryz.isAgg286
 z183:=Tryz.sizeOf286
 v183:=Tryz.zeroValue286
 t218:=Tryz.underlying331
 a218:=Tryz.isAgg331
 z218:=Tryz.sizeOf331
 v218:=Tryz.zeroValue331
 t222:=Tryz.underlying335
 a222:=Tryz.isAgg335
 z222:=Tryz.sizeOf335
 v222:=Tryz.zeroValue335
 t228:=Tryz.underlying369
 a228:=Tryz.isAgg369
 z228:=Tryz.sizeOf369
 v228:=Tryz.zeroValue369
 t229:=Tryz.underlying152
 a229:=Tryz.isAgg152
 z229:=Tryz.sizeOf152
 v229:=Tryz.zeroValue152 }
open Go.Sort Go.RowKit in
theorem Tryz.slices_Sort_int(blk off cap:Nat)(zs:List Int)(w:World)(hH:Holds (Value.int .i64) w blk off zs.toArray)(hblk:blk<w.heap.size)(hsz:zs.length<4611686018427387904):
  Calls Tryz.prog 94 #[.slice (some ⟨blk,off,none⟩) zs.length cap] w λe w'=>
   e=.returned (.tuple #[])/\∃n os,w'=grow (putRow (Value.int .i64) (Sort.ahead w n) blk off (zs.mergeSort λx y=>decide (x<=y)).toArray) os:=Any.slices_Sort_int Tryz.lays189 blk off cap zs w hH hblk hsz
def Tryz.Jv:Go.Shelf.Ren:=⟨λ| 15=>43|n=>n,λ| 22=>31|3=>3|4=>4|n=>n,λ| n=>n⟩
theorem Tryz.laysNm215:Go.Proofs.Lays2.n15 Tryz.prog Tryz.Jv:={
 mixed:=by kernel_rfl
 f15:=Tryz.func43.trans (congrArg some (by kernel_rfl))
 t3:=Tryz.underlying3
 a3:=Tryz.isAgg3
 z3:=Tryz.sizeOf3
 v3:=Tryz.zeroValue3
 t4:=Tryz.underlying4
 a4:=Tryz.isAgg4
 z4:=Tryz.sizeOf4
 v4:=Tryz.zeroValue4
 t22:=Tryz.underlying31
 a22:=Tryz.isAgg31
 z22:=Tryz.sizeOf31
 v22:=Tryz.zeroValue31
 i3:=by kernel_rfl }
open Go.RowKit Go.Lib in
theorem Tryz.slices_Clone_int(b off n c:Nat)(zs:List Int)(w:World)(hz:n<=zs.length)(hbig:n*8<=140737488355328)(hc:∀j,j<zs.length->w.cell? ⟨b,off+j,none⟩=some (.int .i64 (zs.getD j 0))):
  Calls Tryz.prog 43 #[.slice (some ⟨b,off,none⟩) n c] w λe w'=>∃v',e=.returned v'/\w'.ownsRow w.heap.size 3 1 v' n ((zs.take n).map (Value.int .i64))/\v'≠.slice none 0 0/\Below w.heap.size w w':=Any.slices_Clone_int Tryz.laysNm215 b off n c zs w hz hbig hc
open Go.RowKit Go.Lib in
theorem Tryz.slices_Clone_int_nil(n c:Nat)(w:World):
  Calls Tryz.prog 43 #[.slice none n c] w λe w'=>e=.returned (.slice none 0 0)/\w'=w:=Any.slices_Clone_int_nil Tryz.laysNm215 n c w
open Go.RowKit Go.Lib in
theorem Tryz.slices_Clone_int_zero(a:Addr)(c:Nat)(w:World):
  Calls Tryz.prog 43 #[.slice (some a) 0 c] w λe w'=>∃v',e=.returned v'/\w'.ownsRow w.heap.size 3 1 v' 0 []/\v'≠.slice none 0 0/\Below w.heap.size w w':=Any.slices_Clone_int_zero Tryz.laysNm215 a c w
def Tryz.Ju:Go.Shelf.Ren:=⟨λ| 20=>95|n=>n,λ| 22=>31|3=>3|4=>4|0=>0|n=>n,λ| n=>n⟩
theorem Tryz.laysNm220:Go.Proofs.Lays2.n20 Tryz.prog Tryz.Ju:={
 mixed:=by kernel_rfl
 f20:=Tryz.func95.trans (congrArg some (by kernel_rfl))
 t0:=Tryz.underlying0
 a0:=Tryz.isAgg0
 z0:=Tryz.sizeOf0
 v0:=Tryz.zeroValue0
 t3:=Tryz.underlying3
 a3:=Tryz.isAgg3
 z3:=Tryz.sizeOf3
 v3:=Tryz.zeroValue3
 t4:=Tryz.underlying4
 a4:=Tryz.isAgg4
 z4:=Tryz.sizeOf4
 v4:=Tryz.zeroValue4
 t22:=Tryz.underlying31
 a22:=Tryz.isAgg31
 z22:=Tryz.sizeOf31
 v22:=Tryz.zeroValue31
 i3:=by kernel_rfl }
open Go.RowKit Go.Lib Go.Sort in
open Go.RowKit Go.Lib Go.Sort in
theorem Tryz.slices_Compact_int(blk off cap:Nat)(zs:List Int)(w:World)(hH:Holds (Value.int .i64) w blk off zs.toArray)(hsz:zs.length<=9223372036854775807)(hcap:zs.length<=cap):
  Calls Tryz.prog 95 #[.slice (some ⟨blk,off,none⟩) zs.length cap] w λe w'=>e=.returned (.slice (some ⟨blk,off,none⟩) (Lib.compact zs).length cap)/\∃q,w'=putRow (Value.int .i64) (Sort.ahead w q) blk off (Lib.compact zs++List.replicate (zs.length-(Lib.compact zs).length) 0).toArray:=Any.slices_Compact_int Tryz.laysNm220 blk off cap zs w hH hsz hcap
open Go.RowKit Go.Lib Go.Sort in
theorem Tryz.slices_Compact_int_empty(a:Option Addr)(cap:Nat)(w:World):
  Calls Tryz.prog 95 #[.slice a 0 cap] w λe w'=>e=.returned (.slice a 0 cap)/\w'=w:=Any.slices_Compact_int_empty Tryz.laysNm220 a cap w
open Go.RowKit Go.Lib in
open Go.RowKit Go.Lib in
open Go.RowKit Go.Lib in
def Tryz.Jt:Go.Shelf.Ren:=⟨λ| 25=>193|31=>234|32=>265|37=>98|n=>n,λ| 22=>31|3=>3|4=>4|40=>139|0=>0|n=>n,λ| n=>n⟩
theorem Tryz.laysNm225:Go.Proofs.Lays2.n25 Tryz.prog Tryz.Jt:={
 mixed:=by kernel_rfl
 f25:=Tryz.func193.trans (congrArg some (by kernel_rfl))
 f31:=Tryz.func234.trans (congrArg some (by kernel_rfl))
 f32:=Tryz.func265.trans (congrArg some (by kernel_rfl))
 f37:=Tryz.func98.trans (congrArg some (by kernel_rfl))
 t0:=Tryz.underlying0
 a0:=Tryz.isAgg0
 z0:=Tryz.sizeOf0
 v0:=Tryz.zeroValue0
 t3:=Tryz.underlying3
 a3:=Tryz.isAgg3
 z3:=Tryz.sizeOf3
 v3:=Tryz.zeroValue3
 t4:=Tryz.underlying4
 a4:=Tryz.isAgg4
 z4:=Tryz.sizeOf4
 v4:=Tryz.zeroValue4
 t22:=Tryz.underlying31
 a22:=Tryz.isAgg31
 z22:=Tryz.sizeOf31
 v22:=Tryz.zeroValue31
 t40:=Tryz.underlying139
 a40:=Tryz.isAgg139
 z40:=Tryz.sizeOf139
 v40:=Tryz.zeroValue139 }
open Go.RowKit Go.Lib in
theorem Tryz.slices_BinarySearch_int(b off n c:Nat)(zs:List Int)(x:Int)(w:World)(hz:n<=zs.length)(hbig:n<4611686018427387904)(hc:∀j,j<zs.length->w.cell? ⟨b,off+j,none⟩=some (.int .i64 (zs.getD j 0)))(hs:(zs.take n).Pairwise (·<=·)):
  Calls Tryz.prog 193 #[.slice (some ⟨b,off,none⟩) n c,.int .i64 x] w λe w'=>e=.returned (.tuple #[.int .i64 ((zs.take n).countP (·<x):Nat),.bool ((zs.take n).contains x)])/\∃q,w'=w.drewN q:=Any.slices_BinarySearch_int Tryz.laysNm225 b off n c zs x w hz hbig hc hs
open Go.RowKit Go.Sort in
theorem Tryz.slices_Sort_int_none(p:Option Addr)(cap:Nat)(w:World):
  Calls Tryz.prog 94 #[.slice p 0 cap] w λe w'=>e=.returned (.tuple #[])/\w'=w:=Any.slices_Sort_int_none Tryz.lays189 p cap w
open Go.RowKit Go.Lib in
theorem Tryz.slices_BinarySearch_int_empty(a:Option Addr)(c:Nat)(x:Int)(w:World):
  Calls Tryz.prog 193 #[.slice a 0 c,.int .i64 x] w λe w'=>e=.returned (.tuple #[.int .i64 0,.bool false])/\w'=w:=Any.slices_BinarySearch_int_empty Tryz.laysNm225 a c x w
def Tryz.DJ:Go.Shelf.Ren:=⟨λ| 7=>98|n=>n,λ| 22=>3|4=>4|n=>n,λ| n=>n⟩
theorem Tryz.Jr:Go.Proofs.SlLaysC2.n7 Tryz.prog Tryz.DJ:={
 mixed:=by kernel_rfl
 f7:=⟨Tryz.f98.name,by decide,Tryz.func98.trans (congrArg some (by kernel_rfl))⟩
 t4:=Tryz.underlying4
 a4:=Tryz.isAgg4
 z4:=Tryz.sizeOf4
 v4:=Tryz.zeroValue4
 t22:=Tryz.underlying3
 a22:=Tryz.isAgg3
 z22:=Tryz.sizeOf3
 v22:=Tryz.zeroValue3 }
open Go.Lib in
theorem Tryz.cmp_isNaN_int(x:Int)(w:World):
  Calls Tryz.prog 98 #[.int .i64 x] w λe w'=>e=.returned (.bool false)/\w'=w:=AnyG.cmp_isNaN_int Tryz.Jr x w
def Tryz.DK:Go.Shelf.Ren:=⟨λ| 5=>48|7=>98|n=>n,λ| 22=>3|3=>3|4=>4|n=>n,λ| n=>n⟩
theorem Tryz.Js:Go.Proofs.SlLaysC2.n5 Tryz.prog Tryz.DK:={
 mixed:=by kernel_rfl
 f5:=⟨Tryz.f48.name,by decide,Tryz.func48.trans (congrArg some (by kernel_rfl))⟩
 f7:=⟨Tryz.f98.name,by decide,Tryz.func98.trans (congrArg some (by kernel_rfl))⟩
 t3:=Tryz.underlying3
 a3:=Tryz.isAgg3
 z3:=Tryz.sizeOf3
 v3:=Tryz.zeroValue3
 t4:=Tryz.underlying4
 a4:=Tryz.isAgg4
 z4:=Tryz.sizeOf4
 v4:=Tryz.zeroValue4
 t22:=Tryz.underlying3
 a22:=Tryz.isAgg3
 z22:=Tryz.sizeOf3
 v22:=Tryz.zeroValue3 }
open Go.Lib in
theorem Tryz.cmp_Compare_int(x y:Int)(w:World):
  Calls Tryz.prog 48 #[.int .i64 x,.int .i64 y] w λe w'=>e=.returned (.int .i64 (Lib.compareInt x y))/\w'=w:=AnyG.cmp_Compare_int Tryz.Js x y w
def Tryz.KV:Go.Shelf.Ren:=⟨λ| 6=>304|15=>163|14=>327|28=>237|29=>238|20=>332|21=>333|22=>334|23=>335|24=>336|25=>337|26=>338|27=>339|46=>342|47=>295|48=>296|49=>343|50=>344|57=>346|n=>n,λ| 22=>306|24=>252|25=>305|3=>3|39=>139|0=>0|53=>199|55=>201|4=>4|46=>286|45=>285|50=>110|5=>5|9=>9|66=>331|70=>335|76=>369|77=>152|n=>n,λ| n=>n⟩
theorem Tryz.sortSeat:Go.Proofs.SlLaysF0.n6 Tryz.prog Tryz.KV:={
 mixed:=by kernel_rfl
 f6:=⟨Tryz.f304.name,by decide,Tryz.func304.trans (congrArg some (by kernel_rfl))⟩
 f14:=⟨Tryz.f327.name,by decide,Tryz.func327.trans (congrArg some (by kernel_rfl))⟩
 f15:=Tryz.func163.trans (congrArg some (by kernel_rfl))
 f20:=⟨Tryz.f332.name,by decide,Tryz.func332.trans (congrArg some (by kernel_rfl))⟩
 f21:=⟨Tryz.f333.name,by decide,Tryz.func333.trans (congrArg some (by kernel_rfl))⟩
 f22:=⟨Tryz.f334.name,by decide,Tryz.func334.trans (congrArg some (by kernel_rfl))⟩
 f23:=⟨Tryz.f335.name,by decide,Tryz.func335.trans (congrArg some (by kernel_rfl))⟩
 f24:=⟨Tryz.f336.name,by decide,Tryz.func336.trans (congrArg some (by kernel_rfl))⟩
 f25:=⟨Tryz.f337.name,by decide,Tryz.func337.trans (congrArg some (by kernel_rfl))⟩
 f26:=⟨Tryz.f338.name,by decide,Tryz.func338.trans (congrArg some (by kernel_rfl))⟩
 f27:=⟨Tryz.f339.name,by decide,Tryz.func339.trans (congrArg some (by kernel_rfl))⟩
 f28:=Tryz.func237.trans (congrArg some (by kernel_rfl))
 f29:=Tryz.func238.trans (congrArg some (by kernel_rfl))
 f46:=⟨Tryz.f342.name,by decide,Tryz.func342.trans (congrArg some (by kernel_rfl))⟩
 f47:=Tryz.func295.trans (congrArg some (by kernel_rfl))
 f48:=Tryz.func296.trans (congrArg some (by kernel_rfl))
 f49:=⟨Tryz.f343.name,by decide,Tryz.func343.trans (congrArg some (by kernel_rfl))⟩
 f50:=⟨Tryz.f344.name,by decide,Tryz.func344.trans (congrArg some (by kernel_rfl))⟩
 f57:=⟨Tryz.f346.name,by decide,Tryz.func346.trans (congrArg some (by kernel_rfl))⟩
 t0:=Tryz.underlying0
 a0:=Tryz.isAgg0
 z0:=Tryz.sizeOf0
 v0:=Tryz.zeroValue0
 t3:=Tryz.underlying3
 a3:=Tryz.isAgg3
 z3:=Tryz.sizeOf3
 v3:=Tryz.zeroValue3
 t4:=Tryz.underlying4
 a4:=Tryz.isAgg4
 z4:=Tryz.sizeOf4
 v4:=Tryz.zeroValue4
 t5:=Tryz.underlying5
 a5:=Tryz.isAgg5
 z5:=Tryz.sizeOf5
 v5:=Tryz.zeroValue5
 t9:=Tryz.underlying9
 a9:=Tryz.isAgg9
 z9:=Tryz.sizeOf9
 v9:=Tryz.zeroValue9
 t22:=Tryz.underlying306
 a22:=Tryz.isAgg306
 z22:=Tryz.sizeOf306
 v22:=Tryz.zeroValue306
 t25:=Tryz.underlying305
 a25:=Tryz.isAgg305
 z25:=Tryz.sizeOf305
 v25:=Tryz.zeroValue305
 t39:=Tryz.underlying139
 a39:=Tryz.isAgg139
 z39:=Tryz.sizeOf139
 v39:=Tryz.zeroValue139
 t45:=Tryz.underlying285
 a45:=Tryz.isAgg285
 z45:=Tryz.sizeOf285
 v45:=Tryz.zeroValue285
 t46:=Tryz.underlying286
 a46:=Tryz.isAgg286
 z46:=Tryz.sizeOf286
 v46:=Tryz.zeroValue286
 t50:=Tryz.underlying110
 a50:=Tryz.isAgg110
 z50:=Tryz.sizeOf110
 v50:=Tryz.zeroValue110
 t53:=Tryz.underlying199
 a53:=Tryz.isAgg199
 z53:=Tryz.sizeOf199
 v53:=Tryz.zeroValue199
 t55:=Tryz.underlying201
 a55:=Tryz.isAgg201
 z55:=Tryz.sizeOf201
 v55:=Tryz.zeroValue201
 t66:=Tryz.underlying331
 a66:=Tryz.isAgg331
 z66:=Tryz.sizeOf331
 v66:=Tryz.zeroValue331
 t70:=Tryz.underlying335
 a70:=Tryz.isAgg335
 z70:=Tryz.sizeOf335
 v70:=Tryz.zeroValue335
 t76:=Tryz.underlying369
 a76:=Tryz.isAgg369
 z76:=Tryz.sizeOf369
 v76:=Tryz.zeroValue369
 t77:=Tryz.underlying152
 a77:=Tryz.isAgg152
 z77:=Tryz.sizeOf152
 v77:=Tryz.zeroValue152 }
end Go.Proofs
namespace Go.Sg
variable {E:TypeId}{ass:Array Operand}{ats:Array TypeId}{f:FuncId}{h:HF}{v:Go.Value}{vs:List Go.Value}{w':World}{xs:List Int}{α:Type}{R:Rp α}
section
open Go.Proofs Go.Proofs.Tryz Go.RowKit
theorem St.Sr{w:World}(hp:Pre h [] w)(hb:Below w.heap.size w w'):St ⟨w,h,[]⟩ h [] w':=
  ⟨hb.os,hb.tape,hb.output,hb.size,λb hlt _=>hb.block b hlt,λ_ _ e=>e,λ_ _=>rfl,λb o e=>by rw[hb.block b (iw (hp.imm b o e))];exact hp.imm b o e,
   λ_ hq=>(kA hq).elim,WH,λ_ hq=>(kA hq).elim,λ_ hq=>(kA hq).elim⟩
theorem St.QT{w:World}{g:Nat}{o:Obj}(hp:Pre h [] w)(hb:Below w.heap.size w w')(hg:w.heap.size<=g)(ho:w'.heap[g]? = some o):St ⟨w,h,[]⟩ h [(g,o)] w':=
  ⟨hb.os,hb.tape,hb.output,hb.size,λb hlt _=>hb.block b hlt,λ_ _ e=>e,λ_ _=>rfl,λb o e=>by rw[hb.block b (iw (hp.imm b o e))];exact hp.imm b o e,
   λq hq=>by rw[jC.1 hq];exact ho,by simp,λq hq=>by
     rw[jC.1 hq]
     show h g=none
     cases hh:h g with
     |none=>rfl
     |some o'=>have:=iw (hp.imm g o' hh);omega,λq hq=>by rw[jC.1 hq];exact .inl hg⟩
theorem P0{b:Option Addr}(hs:SlB jB h b xs)(hne:xs≠[]):∃g off,b=some ⟨g,off,none⟩/\∀w,Pre h [] w->∀j,j<xs.length->w.cell? ⟨g,off+j,none⟩=some (.int .i64 (xs.getD j 0)):=by
 obtain⟨x0,r,rfl⟩:∃x r,xs=x::r:=by cases xs with
  |nil=>exact(hne rfl).elim
  |cons x r=>exact⟨x,r,rfl⟩
 obtain⟨p,cs,rfl,hA,_,_⟩:=hs.2 0 x0 rfl
 have hsp:p.spot=none:=by
  obtain⟨_,_,_,_,h2,_⟩:=hA
  simpa[zQ]using h2
 obtain⟨g,off,sp⟩:=p
 simp only at hsp
 subst hsp
 refine⟨g,off,rfl,λw hp j hj=>?_⟩
 obtain⟨p',cs',e,hA',hl,hr⟩:=hs.2 j ((x0::r)[j]) (by rw[List.getElem?_eq_getElem hj])
 cases e
 have hcs:cs'=[.int .i64 ((x0::r)[j])]:=hr
 subst hcs
 have hc:=hA'.cell (X:=⟨w,h,[]⟩) (L:=[]) (W8 hp) (j:=0) (v:=.int .i64 ((x0::r)[j])) rfl
 have ha:((⟨g,off,none⟩:Addr).add (j*Rp.int.sz)).add 0=⟨g,off+j,none⟩:=by
  have h1:j*Rp.int.sz=j:=Nat.mul_one j
  rw[h1]
  by_cases e0:j=0
  .subst e0;simp[zQ]
  .simp[zQ,e0]
 grind
theorem oX(h:HF)(x:List Int)(UO:Option Addr)(Ux:Nat)(target:Int)(hx:SlC jB h UO Ux x)(hs:x.Pairwise (·<=·))(hsz:x.length<=2000000):
  Ret prog 193 [.slice UO x.length Ux,.int .i64 target] h (.tuple #[.int .i64 (slices_BinarySearch_int x target).1,.bool (slices_BinarySearch_int x target).2]):=by
 intro w hp
 by_cases hne:x=[]
 .subst hne
  refine(j7 (Tryz.slices_BinarySearch_int_empty UO Ux target w) (λw' hw=>by cases hw.1)).mono ?_
  rintro e w' ⟨rfl,rfl⟩
  exact⟨h,[],W8 hp,rfl,rfl,rfl⟩
 .obtain⟨g,off,rfl,hc⟩:=P0 hx.1 hne
  refine(j7 (Tryz.slices_BinarySearch_int g off x.length Ux x target w (kE _) (by omega) (hc w hp) (by simpa using hs)) (λw' hw=>by cases hw.1)).mono ?_
  rintro e w' ⟨rfl,q,rfl⟩
  refine⟨h,[],(W8 hp).drew _,?_,rfl,rfl⟩
  simp[bsI,slices_BinarySearch_int]
abbrev Rd{α : Type}(P:Program)(f:FuncId)(args:List Value)(h:HF)(R:Rp α)(E:TypeId)(xs:List α):Prop:=
 pJ P f args.toArray h [] (λr h' G=>h'=h/\∃b c,r=.returned (.slice b xs.length c)/\cN R E h xs b c G)
theorem Kl{w:World}(hp:Pre h [] w)(hb:Below w.heap.size w w')(ho:w'.ownsRow w.heap.size 3 1 v xs.length (xs.map (zC .i64))):
  ∃h' G,St ⟨w,h,[]⟩ h' G w'/\h'=h/\∃b c,Ending.returned v=.returned (.slice b xs.length c)/\cN jB 3 h xs b c G:=by
 obtain⟨_,⟨rfl,hn⟩|⟨g,cap,cur,rfl,hg,hh,h1,h2,h3,h4⟩⟩:=ho
 .have:xs=[]:=List.length_eq_zero_iff.1 hn
  subst this
  exact⟨h,[],St.Sr hp hb,rfl,none,0,rfl,cN.nil⟩
 .refine⟨h,_,St.QT hp hb hg hh,rfl,some ⟨g,0,none⟩,cap,rfl,.inr ⟨g,xs.map (zC .i64),cur.toList.drop xs.length,rfl,?_,?_,h1,?_,?_⟩⟩
  .have:∀l:List Int,cS jB h (l.map (zC .i64)) l:=by
    intro l
    induction l with
    |nil=>rfl
    |cons y l ih=>exact⟨[.int .i64 y],l.map (zC .i64),rfl,rfl,rfl,ih⟩
   exact this xs
  .have h5:xs.map (zC .i64)++cur.toList.drop xs.length=cur.toList:=by
    rw[←h4,Nat.mul_one];exact List.take_append_drop _ _
   rw[h5];show _=cap*1;simpa using h3
  .have:maxLen=9223372036854775807:=by rfl
   omega
  .have h5:xs.map (zC .i64)++cur.toList.drop xs.length=cur.toList:=by
    rw[←h4,Nat.mul_one];exact List.take_append_drop _ _
   rw[h5]
theorem mP(h:HF)(xs:List Int)(b:Option Addr)(c:Nat)(G:LH)(hG:cN jB 3 h xs b c G)(hsz:xs.length<=1000000000000):
  pJ prog 94 [.slice b xs.length c].toArray h G (λr h' G'=>h'=h/\r=.returned (.tuple #[])/\cN jB 3 h (sortI xs) b c G'):=by
 intro w hp
 rcases hG with⟨rfl,rfl,rfl,rfl⟩|⟨bk,cl,sp,rfl,hcl,hlen,hcap,hmax,rfl⟩
 .refine(j7 (Tryz.slices_Sort_int_none none 0 w) (λw' hw=>by cases hw.1)).mono ?_
  rintro e w' ⟨rfl,rfl⟩
  exact⟨h,[],W8 hp,rfl,rfl,by rw[show sortI []=[]from by simp[sortI]];exact cN.nil⟩
 .have hb:=hp.own _ (jC.2 rfl)
  simp only at hb
  have hcl':cl=xs.map (zC .i64):=by
   clear hlen hb hp hcap hmax hsz
   induction xs generalizing cl with
   |nil=>exact hcl
   |cons y l ih=>
    obtain⟨cs,r,rfl,_,hr,hl⟩:=hcl
    have:cs=[.int .i64 y]:=hr
    rw[this,ih r hl];rfl
  subst hcl'
  have hH:Sort.Holds (zC .i64) w bk 0 xs.toArray:=by
   refine holds_of_blockI (cur:=(xs.map (zC .i64)++sp).toArray) (e:=3) hb ?_
   simp
  refine(j7 (Tryz.slices_Sort_int bk 0 c xs w hH (iw hb) (by omega)) (λw' hw=>by cases hw.1)).mono ?_
  rw[Ly]
  rintro e w' ⟨rfl,n,os,rfl⟩
  obtain⟨g1,g2,g3,g4,g5⟩:=grownBy_sortedI (w:=w) (g:=bk) (n:=n) (os:=os) (sortI xs).toArray
  have hnew:=heap_sortedI (w:=w) (g:=bk) (n:=n) (os:=os) (sortI xs).toArray hb
  have htake:=take_putCellsI (xs.map (zC .i64)++sp).toArray (sortI xs) (by rw[iW];simp)
  refine⟨h,[(bk,.cells (Sort.putCells (zC .i64) 0 (sortI xs).toArray (xs.map (zC .i64)++sp).toArray) 3 (0,0))],⟨g1,g2,g3,g4,λk hk hM=>g5 k hk (λe=>hM (by cases e;simp)),λ_ _ e=>e,λ_ _=>rfl,λk o e=>?_,λq hq=>?_,?_,?_,?_⟩,rfl,rfl,?_⟩
  .have hne:k≠bk:=λe'=>by
    have:=hp.free _ (jC.2 rfl)
    simp only at this
    rw[e',this]at e;cases e
   exact(g5 k (iw (hp.imm k o e)) (λe'=>by cases e';exact hne rfl)).trans (hp.imm k o e)
  .rw[jC.1 hq];exact hnew
  .simp
  .intro q hq;rw[jC.1 hq];exact hp.free (bk,jG (xs.map (zC .i64)++sp).toArray 3 (0,0)) (jC.2 rfl)
  .intro q hq;rw[jC.1 hq];exact .inr (by simp)
  .refine .inr ⟨bk,(sortI xs).map (zC .i64),(Sort.putCells (zC .i64) 0 (sortI xs).toArray (xs.map (zC .i64)++sp).toArray).toList.drop xs.length,rfl,?_,?_,by rw[iW];exact hcap,by rw[iW];exact hmax,?_⟩
   .have:∀l:List Int,cS jB h (l.map (zC .i64)) l:=by
     intro l
     induction l with
     |nil=>rfl
     |cons y l ih=>exact⟨[.int .i64 y],l.map (zC .i64),rfl,rfl,rfl,ih⟩
    exact this _
   .rw[←htake,iW,List.take_append_drop]
    simpa[Sort.putCells]using hlen
   .rw[←htake,iW,List.take_append_drop]
section steps
variable {P:Program} {b:Frame} {n:Nat} {ops:Array Oper} {F:List Frame->(Machine->Prop)->Prop} {e:Env} {ds:List Deferred} {X:Cx} {h:HF} {L:LH} {K:Env->HF->LH->Prop}
variable {d:Option Nat} {ty:TypeId} {pos:String} {af:Array Edge} {g:Option (Nat×Bool)}
theorem Dr{xs:List α}(hc:∀args w,(callFunc f args).run P w=.ok (.enter f args) w)(hs:Rd P f vs h R E xs)(hvs:ass.toList.map e.ev=vs)(t':∀bb c G,cN R E h xs bb c G->K (pute e d (.slice bb xs.length c)) h (L++G))(hg:guardB ops e ⟨d,.call ⟨.value (.func f),ass,ats⟩,ty,pos,af,g⟩=true:=by rfl):
  Stp P b n ops F ds X ⟨d,.call ⟨.value (.func f),ass,ats⟩,ty,pos,af,g⟩ e h L K:=by
 unfold Stp
 rw[if_pos hg]
 intro w hw
 have harr:ass.map e.ev=vs.toArray:=xS (by simp[←hvs])
 have hr:(execOp e.ev ⟨d,.call ⟨.value (.func f),ass,ats⟩,ty,pos,af,g⟩).run P w=.ok (.enter f vs.toArray) w:=by
  simp[execOp,resolve,XQ,xH,invoke,harr,hc]
 rw[hr]
 refine mO (by simp) (lq (tr.mono (hs w (hw.sub (List.nil_sublist _)).pre) ?_))
 rintro x w' ⟨h',B,hst,rfl,bb,c,rfl,hG⟩
 exact⟨h',_,(Xd (A:=[]) (F:=L) hw hst).perm xG,t' bb c B hG⟩
theorem m9(A0 G Q:LH){Φ:LH->Prop}(hc:∀args w,(callFunc f args).run P w=.ok (.enter f args) w)(hs:pJ P f vs.toArray h G (λr h' G'=>h'=h/\r=.returned v/\Φ G'))(hL:L=A0++(G++Q))(hvs:ass.toList.map e.ev=vs)(t':∀G',Φ G'->K (pute e d v) h (A0++(G'++Q)))(hg:guardB ops e ⟨d,.call ⟨.value (.func f),ass,ats⟩,ty,pos,af,g⟩=true:=by rfl):
  Stp P b n ops F ds X ⟨d,.call ⟨.value (.func f),ass,ats⟩,ty,pos,af,g⟩ e h L K:=by
 unfold Stp
 rw[if_pos hg]
 intro w hw
 subst hL
 have hp:∀G:LH,(A0++(G++Q)).Perm (G++(A0++Q)):=λG=>by
  rw[←jE,←jE];exact List.Perm.append_right Q xG
 have hw':=hw.perm (hp G)
 have harr:ass.map e.ev=vs.toArray:=xS (by simp[←hvs])
 have hr:(execOp e.ev ⟨d,.call ⟨.value (.func f),ass,ats⟩,ty,pos,af,g⟩).run P w=.ok (.enter f vs.toArray) w:=by
  simp[execOp,resolve,XQ,xH,invoke,harr,hc]
 rw[hr]
 refine mO (by simp) (lq (tr.mono (hs w hw'.pre.left) ?_))
 rintro x w' ⟨h',B,hst,rfl,rfl,hG⟩
 exact⟨h',_,(Xd (A:=G) (F:=A0++Q) hw' hst).perm (hp B).symm,t' B hG⟩
end steps
end
variable {m3:List (Int×Option Addr×Nat×Nat)}{om:Obj}{p:Prop}
section
open Go.Proofs Go.Proofs.Tryz
set_option maxHeartbeats 2000000
theorem BA(cmp:Int->Int->Int):∀(j:Nat)(xs:List Int),(insIn cmp j xs).length=xs.length
 |0,xs=>rfl
 |j+1,xs=>by
  simp only[insIn,Bool.cond_eq_ite]
  split
  .rw[BA cmp j];simp
  rfl
theorem ER(cmp:Int->Int->Int):∀(j:Nat)(xs:List Int),j<xs.length->∀x∈insIn cmp j xs,x∈xs
 |0,xs,_,x,hx=>hx
 |j+1,xs,hj,x,hx=>by
  simp only[insIn,Bool.cond_eq_ite]at hx
  split at hx
  .have h1:=ER cmp j _ (by simp;omega) x hx
   rcases List.mem_or_eq_of_mem_set h1 with h1|rfl
   .rcases List.mem_or_eq_of_mem_set h1 with h1|rfl
    .exact h1
    simp[List.getD_eq_getElem?_getD,show j<xs.length by omega]
   simp[List.getD_eq_getElem?_getD,show j+1<xs.length by omega]
  exact hx
theorem H5(cmp:Int->Int->Int):∀(m i:Nat)(xs:List Int),(insOut cmp m i xs).length=xs.length
 |0,_,_=>rfl
 |m+1,i,xs=>by simp only[insOut];rw[H5 cmp m,BA]
theorem GR(xs:List Int)(cmp:Int->Int->Int):(fS xs cmp).length=xs.length:=H5 _ _ _ _
theorem Dg(j:Nat)(hj:j<9223372036854775807):zC .i64 (IntKind.i64.wrap (((j+1:Nat):Int)-1))=I (j:Int):=by
 rw[lv ob];congr 1;omega
theorem pX(h)(xs:List Int)(b c G)(cmp:Int->Int->Int)(cmp_v)(hG:cN jB 3 h xs b c G)(hcmp:∀(h':HF)(el Eo:Int),xJ h h'->el∈xs->Eo∈xs->qX prog cmp_v [I el,I Eo] h' [] (I (cmp el Eo)))(hsz:xs.length<=2000000):
  pJ prog 315 [.slice b xs.length c,I 0,I (xs.length:Int),cmp_v].toArray h G (λr h' G'=>h'=h/\r=.returned (.tuple #[])/\cN jB 3 h (fS xs cmp) b c G'):=by
 refine cX func315 U ntmps315 U λX hM hX=>qT 3 U (i8 (v':=I ((1:Nat):Int)) U U (an ?_))
 refine gB (ι:=List Int×LH) (λi=>[]) (λi=>h) (λi=>i.2) (λi=>i.1=fS xs cmp/\cN jB 3 h i.1 b c i.2) ?_ (λhx=>?_)
 .rintro⟨ys,G'⟩ ⟨hs,hG'⟩ e
  dsimp only at hs hG'
  exact Ae func315 (λa _ w _=>nw U a w) (λw hw=>hw.lower) ⟨hX,U,hs▸hG'⟩
 refine ju (ι:=Nat×List Int×LH) (λi=>[(0,.slice b xs.length c),(1,I 0),(2,I (xs.length:Int)),(3,cmp_v),(8,I (i.1:Int))]) (λi=>h) (λi=>i.2.2)
  (λi=>insOut cmp (xs.length-i.1) i.1 i.2.1=fS xs cmp/\1<=i.1/\i.2.1.length=xs.length/\(∀x∈i.2.1,x∈xs)/\cN jB 3 h i.2.1 b c i.2.2) (λi=>xs.length-i.1) (1,xs,G) rd (λw hw=>hw) ⟨rfl,kE _,rfl,λ_ hx=>hx,hG⟩ ?_
 rintro⟨i,ys,G1⟩ ⟨hs,hi1,hyl,hym,hG1⟩ ag e
 dsimp only at hs hi1 hyl hym hG1
 rcases kM i xs.length with hi|hi
 .refine qT 5 U (tO (decide_eq_true ob) U (qO 10 U ?_))
  refine gB (ι:=List Int×LH) (λq=>[(0,.slice b xs.length c),(1,I 0),(2,I (xs.length:Int)),(3,cmp_v),(8,I (i:Int))]) (λq=>h) (λq=>q.2) (λq=>q.1=insIn cmp i ys/\cN jB 3 h q.1 b c q.2) ?_ (λhy=>?_)
  .rintro⟨zs,G2⟩ ⟨hz,hG2⟩ e2
   dsimp only at hz hG2
   subst hz
   refine qT 3 U (oi i U (an (ag (i+1,insIn cmp i ys,G2) _ (by show xs.length-(i+1)<xs.length-i;omega) ⟨?_,by show 1<=i+1;omega,by show(insIn cmp i ys).length=xs.length;rw[BA];exact hyl,λx hx=>hym x (ER cmp i ys ob x hx),hG2⟩ rd)))
   show insOut cmp (xs.length-(i+1)) (i+1) (insIn cmp i ys)=_
   rw[←hs,show xs.length-i=(xs.length-(i+1))+1 from by omega];rfl
  refine ju (ι:=Nat×List Int×LH) (λq=>[(0,.slice b xs.length c),(1,I 0),(2,I (xs.length:Int)),(3,cmp_v),(8,I (i:Int)),(9,I (q.1:Int))]) (λq=>h) (λq=>q.2.2)
   (λq=>insIn cmp q.1 q.2.1=insIn cmp i ys/\q.1<=i/\q.2.1.length=xs.length/\(∀x∈q.2.1,x∈xs)/\cN jB 3 h q.2.1 b c q.2.2) (λq=>q.1) (i,ys,G1) rd (λw hw=>hw) ⟨rfl,kE _,hyl,hym,hG1⟩ ?_
  rintro⟨j,zs,G2⟩ ⟨hz,hji,hzl,hzm,hG2⟩ ag2 e2
  dsimp only at hz hji hzl hzm hG2
  have J0:∀{L:LH},Jst h [] h L:=DN (List.nil_sublist _)
  obtain⟨bk,hbk⟩:=hG2.yg ob
  have JG:Jst h G2 h G2:=DN (List.Sublist.refl _)
  refine qT 2 U (eY G2 mixed kr JG (λhsep _=>ki 0 hsep JG U U kr U (λ_ _ _=>nX) (ki 1 hsep JG U U kr U (λ_ _ _=>nX) ?_)))
  rcases j with _|j
  .exact ki 2 hsep JG U U kr U (λ_ _ _=>vg (v':=.bool false) U (cb (decide_eq_false ob))) (ki 3 hsep JG U U kr U (λ_ _ _=>nX) (np 4 hsep JG U U kr U (np 5 hsep JG U U kr U (np 6 hsep JG U U kr U (np 7 hsep JG U U kr U (np 8 hsep JG U U kr U (np 9 hsep JG U U kr U (np 10 hsep JG U U kr U (np 11 hsep JG U U kr U (np 12 hsep JG U U kr U (np 13 hsep JG U U kr U (np 14 hsep JG U U kr U (np 15 hsep JG U U kr U (ki 16 hsep JG U U kr U (λ_ _ _=>Ox U) (bO kr (qT 2 U (hy (zs,G2) _ ⟨hz,hG2⟩ rd)))))))))))))))))
  have hj1:zs[j+1]? = some (zs.getD (j+1) 0):=by simp[List.getD_eq_getElem?_getD,show j+1<zs.length by omega]
  have hj0:zs[j]? = some (zs.getD j 0):=by simp[List.getD_eq_getElem?_getD,show j<zs.length by omega]
  have hjn:(((j+1:Nat):Int)).toNat=j+1:=by omega
  have hjn0:((j:Int)).toNat=j:=by omega
  refine ki 2 hsep JG U U kr U (λ_ _ _=>vg (v':=.bool true) U (cb (decide_eq_true ob))) (ki 3 hsep JG U U kr U (λ_ _ _=>nX) (ki 4 hsep JG U U kr U (λ_ _ _=>nX) (ki 5 hsep JG U U kr U (λ_ _ _=>nX) (ki 6 hsep JG U U kr U (λ_ _ _=>nX) (ki 7 hsep JG U U kr U (λ_ _ _=>nY (R:=jB) (xs:=zs) (z:=((j+1:Nat):Int)) eP ty3 hbk ob U hzl.symm U) (ki 8 hsep JG U U kr U (λ_ _ hj=>Fg (R:=jB) (off:=0) (i:=j+1) ty3 hG2 hbk hj1 (λcs_z hcs=>by rw[show cs_z=[I (zs.getD (j+1) 0)]from hcs];rfl) (by rfl) (λp hp=>hj.2 p hp)) (ki 9 hsep JG U U kr U (λ_ _ _=>nX) (ki 10 hsep JG U U kr U (λ_ _ _=>nX) (ki 11 hsep JG U U kr U (λ_ _ _=>vg (v':=I (j:Int)) U (Dg j ob)) (ki 12 hsep JG U U kr U (λ_ _ _=>nY (R:=jB) (xs:=zs) (z:=(j:Int)) eP ty3 hbk ob U hzl.symm U) (ki 13 hsep JG U U kr U (λ_ _ hj=>Fg (R:=jB) (off:=0) (i:=j) ty3 hG2 hbk hj0 (λcs_z hcs=>by rw[show cs_z=[I (zs.getD j 0)]from hcs];rfl) (by rfl) (λp hp=>hj.2 p hp)) (tn 14 U (ka (v:=I (cmp (zs.getD (j+1) 0) (zs.getD j 0))) [] (List.nil_sublist _) (hcmp h (zs.getD (j+1) 0) (zs.getD j 0) lf (hzm _ (xE hj1)) (hzm _ (xE hj0))) U U ⟨JG,ki 15 hsep JG U U kr U (λ_ _ _=>Sj U) (ki 16 hsep JG U U kr U (λ_ _ _=>Ox U) (bO kr (ly U (λhc=>bL ?_) (λhc=>?_))))⟩)))))))))))))
  .refine qT 2 U (eY [] mixed kr J0 (λlZ _=>ki 0 lZ J0 U U kr U (λ_ _ _=>nX) (ki 1 lZ J0 U U kr U (λ_ _ _=>nX) (ki 5 lZ J0 U U kr U (λ_ _ _=>nX) (ki 6 lZ J0 U U kr U (λ_ _ _=>nX) (ki 2 lZ J0 U U kr U (λ_ _ _=>nX) (ki 3 lZ J0 U U kr U (λ_ _ _=>nX) (ki 4 lZ J0 U U kr U (λ_ _ _=>vg (v':=I (j:Int)) U (Dg j ob)) (ki 7 lZ J0 U U kr U (λ_ _ _=>vg (v':=I (j:Int)) U (Dg j ob)) (ki 8 lZ J0 U U kr U (λ_ _ _=>nY (R:=jB) (xs:=zs) (z:=(j:Int)) eP ty3 hbk ob U hzl.symm U) (ki 10 lZ J0 U U kr U (λ_ _ _=>nX) (ki 11 lZ J0 U U kr U (λ_ _ _=>nX) (ki 12 lZ J0 U U kr U (λ_ _ _=>nY (R:=jB) (xs:=zs) (z:=((j+1:Nat):Int)) eP ty3 hbk ob U hzl.symm U) ?_)))))))))))))
   refine nk 9 13 kr U U
    (eG (Fg (R:=jB) (off:=0) (i:=j) ty3 hG2 hbk hj0 (λcs_z hcs=>by rw[show cs_z=[I (zs.getD j 0)]from hcs];rfl) (by rfl) (λp hp=>hp)) ⟨J0,tn 13 rfl (eG (Fg (R:=jB) (off:=0) (i:=j+1) ty3 hG2 hbk hj1 (λcs_z hcs=>by rw[show cs_z=[I (zs.getD (j+1) 0)]from hcs];rfl) (by rfl) (λp hp=>hp)) ⟨J0,?_⟩)⟩)
    (eG (Fg (R:=jB) (off:=0) (i:=j+1) ty3 hG2 hbk hj1 (λcs_z hcs=>by rw[show cs_z=[I (zs.getD (j+1) 0)]from hcs];rfl) (by rfl) (λp hp=>hp)) ⟨J0,tn 9 rfl (eG (Fg (R:=jB) (off:=0) (i:=j) ty3 hG2 hbk hj0 (λcs_z hcs=>by rw[show cs_z=[I (zs.getD j 0)]from hcs];rfl) (by rfl) (λp hp=>hp)) ⟨J0,?_⟩)⟩)
   all_goals
    refine ki 14 lZ J0 U U kr U (λ_ _ _=>nY (R:=jB) (xs:=zs) (z:=((j+1:Nat):Int)) eP ty3 hbk ob U hzl.symm U) (tn 15 U (uT (R:=jB) (i:=j+1) (off:=0) (u:=zs.getD (j+1) 0) (u':=zs.getD j 0) (v:=I (zs.getD j 0)) [] G2 [] ty3 U hG2 (by simp) hbk hj1 (by decide) (λcs_z hcs=>by rw[show cs_z=[I (zs.getD (j+1) 0)]from hcs];rfl) (by rfl) U U (λG3 hG3=>⟨J0,?_⟩)))
    rw[vF,List.append_nil]
    refine ki 16 lZ J0 U U kr U (λ_ _ _=>nY (R:=jB) (xs:=zs) (z:=(j:Int)) eP ty3 hbk ob U hzl.symm U) ?_
    have hj0':(zs.set (j+1) (zs.getD j 0))[j]? = some (zs.getD j 0):=by rw[List.getElem?_set_ne ob];exact hj0
    refine tn 17 U (uT (R:=jB) (i:=j) (off:=0) (u:=zs.getD j 0) (u':=zs.getD (j+1) 0) (v:=I (zs.getD (j+1) 0)) [] G3 [] ty3 U hG3 (by simp) hbk hj0' (by decide) (λcs_z hcs=>by rw[show cs_z=[I (zs.getD j 0)]from hcs];rfl) (by rfl) U U (λG4 hG4=>⟨J0,?_⟩))
    rw[vF,List.append_nil]
    refine bO kr (qT 3 U (i8 (v':=I (j:Int)) U (Dg j ob) (an (ag2 (j,(zs.set (j+1) (zs.getD j 0)).set j (zs.getD (j+1) 0),G4) _ (Nat.lt_succ_self _) ⟨?_,by show j<=i;omega,by show((zs.set (j+1) (zs.getD j 0)).set j (zs.getD (j+1) 0)).length=xs.length;simpa using hzl,λx hx=>(List.mem_or_eq_of_mem_set hx).elim (λhx=>(List.mem_or_eq_of_mem_set hx).elim (hzm x) (λhx=>hx▸hzm _ (xE hj0))) (λhx=>hx▸hzm _ (xE hj1)),hG4⟩ rd))))
    show insIn cmp j ((zs.set (j+1) (zs.getD j 0)).set j (zs.getD (j+1) 0))=insIn cmp i ys
    rw[←hz];simp only[insIn,hc,cond_true]
  refine kW U (hy (zs,G2) _ ⟨?_,hG2⟩ rd)
  show zs=insIn cmp i ys
  rw[←hz];simp only[insIn,hc,cond_false]
 refine qT 5 U (fO (decide_eq_false ob) U (qO 3 U (hx (ys,G1) _ ⟨?_,hG1⟩ trivial)))
 show ys=_
 rw[←hs,show xs.length-i=0 from by omega];rfl
theorem ua(h)(xs:List Int)(b c G)(cmp:Int->Int->Int)(cmp_v)(hG:cN jB 3 h xs b c G)(hcmp:∀(h':HF)(el Eo:Int),xJ h h'->el∈xs->Eo∈xs->qX prog cmp_v [I el,I Eo] h' [] (I (cmp el Eo)))(hsz:xs.length<20):
  pJ prog 286 [.slice b xs.length c,I (xs.length:Int),cmp_v].toArray h G (λr h' G'=>h'=h/\r=.returned (.tuple #[])/\cN jB 3 h (fS xs cmp) b c G'):=by
 refine cX func286 U ntmps286 U λX hM hX=>qT 12 U (GJ (qT 5 U (fO (decide_eq_false ob) U (qO 9 U (aI (m9 [] G [] call315 (pX h xs b c G cmp cmp_v hG hcmp ob) (by simp) U (λG2 hG2=>?_)))))))
 rw[vF,List.append_nil]
 exact bo (m7 (GJ (qT 5 U (fO (decide_eq_false ob) U (qO 3 U (Ae func286 (λa _ w _=>nw U a w) (λw hw=>hw.lower) ⟨hX,U,hG2⟩))))))
theorem tv(h)(xs:List Int)(b c G)(cmp:Int->Int->Int)(cmp_v)(hG:cN jB 3 h xs b c G)(hcmp:∀(h':HF)(el Eo:Int),xJ h h'->el∈xs->Eo∈xs->qX prog cmp_v [I el,I Eo] h' [] (I (cmp el Eo)))(hsz:xs.length<20):
  pJ prog 220 [.slice b xs.length c,cmp_v].toArray h G (λr h' G'=>h'=h/\r=.returned (.tuple #[])/\cN jB 3 h (fS xs cmp) b c G'):=by
 refine cX func220 U ntmps220 U λX hM hX=>qK 5 [] U (aI (m9 [] G [] call286 (ua h xs b c G cmp cmp_v hG hcmp hsz) (by simp) U (λG2 hG2=>?_)))
 rw[vF,List.append_nil]
 exact bo (Ae func220 (λa _ w _=>nw U a w) (λw hw=>hw.lower) ⟨hX,U,hG2⟩)
theorem E0(h x)  : Ret prog 98 [I x] h (.bool (cmp_isNaN_int x)):=by
 refine sT Wm U ntmps98 U λX hM hX hF=>?_
 generalize hz:(cmp_isNaN_int x)=z;have hs:=hz.symm
 exact W
instance kC98:Ct 98:=⟨_,call98,@E0⟩
theorem vw(h x y)  : Ret prog 48 [I x,I y] h (I (cmp_Compare_int x y)):=by
 refine sT func48 U ntmps48 U λX hM hX hF=>?_
 generalize hz:(cmp_Compare_int x y)=z;have hs:=hz.symm
 exact W
instance kC48:Ct 48:=⟨_,call48,@vw⟩
theorem tD(h)(a:Int)(ky:Int)(p jg p_p p_q)(hp:tG.ok h p jg)(pp:At h p_p (tG.cells p jg))(ap_z:At h p_q [.pointer (some p_p)])(ha:0<=a/\a<(p.signed.length:Int))(hb:0<=ky/\ky<(p.signed.length:Int)):Ret prog 221 [I a,I ky,.pointer (some p_q)] h (I (kl a ky p)):=by
 refine sT func221 U ntmps221 U λX hM hX hF=>?_
 have hs0:=@rfl _ (kl a ky p)
 refine qT 5 U (eY ([]) mixed kr jn (λgK _=>tf 0 U U (rh ty150 ap_z U) (tf 1 U U (λ_ _ _=>gv U) (qB [2] U (tf 3 U U (rH 2 ty31 pp U U) (tm 4 U ?_))))))
 have ho1:0<=(a:Int)/\(a:Int)<((p.signed).length:Int):=ob
 refine ir 5 (enc:=λy=>[I y]) gK jn ei eP ty3 hp.signed.1 ho1 (di ho1) U U U U kr (λq1 A1=>tf 6 U U (rh ty3 A1 U) (tf 7 U U (rh ty150 ap_z U) (tf 8 U U (λ_ _ _=>gv U) (qB [9] U (tf 10 U U (rH 2 ty31 pp U U) (tm 11 U ?_))))))
 have ho2:0<=(ky:Int)/\(ky:Int)<((p.signed).length:Int):=ob
 exact ir 12 (enc:=λy=>[I y]) gK jn ei eP ty3 hp.signed.1 ho2 (di ho2) U U U U kr (λq2 A2=>tf 13 U U (rh ty3 A2 U) (tn 14 U (gi call48 (vw h (nthI p.signed a) (nthI p.signed ky)) U (⟨jn,(qA [15] U (bO kr (nretP [I (cmp_Compare_int (nthI p.signed a) (nthI p.signed ky))] (ci hs0))))⟩))))
theorem yr(h v0 tW tV v0_q)(hv0:SlC jB h tW tV v0)(av0:At h v0_q [.slice tW v0.length tV]):Itr prog (.func (.func 287) #[] (xB [.pointer (some v0_q)])) sC (dx v0) h:=by
 refine sj call287 ?_
 intro yf ya yb C Sp Pn h1 A de m1 m2 m3 hC hy
 refine j1 RH U ntmps287 U λX hXM hX=>?_
 have hs0:dx v0=[]++dx v0:=rfl
 refine sr (eJ ty31 (av0.mono de) U (qL 3 [] U ?_))
 refine lp2 v0 (λi w=>[(0,.func yf ya yb),(5,.slice tW v0.length tV),(6,I (v0.length:Int)),(7,I (i:Int))]) (λw=>w.2.2) (λw=>w.2.1) (λi w=>C w.1 w.2.2 w.2.1/\xJ h1 w.2.2) (λs1 i w=>w.1++(dx.L1 (dx.K1)) s1 ) ([],A,h1) ((hv0.mono vH de).1.1) hs0 ⟨hC,(kH h1)⟩ ?_ ?_
 .rintro i1 ⟨dn1,A1_,hh1⟩ iP hs1 ⟨hC1_,hl1⟩ e
  refine dR ?_
  have hs2:dx v0=dn1:=hs1.trans (List.append_nil _)
  exact sk [] (A:=A1_) RH U (List.Sublist.refl _) (.inl (hs2▸hC1_))
 rintro i1 ⟨dn1,A1_,hh1⟩ y1 rz1 hd1 fY dz iT mF hs3 ⟨hC1_,hl1⟩ hx1 ag1 e
 refine sr (tO fY U (qO 8 U (aI (iF (λy=>[I y]) eP ty3 (hv0.mono vH (de.t hl1)).1 dz U U U (λq2 A5=>eJ ty3 A5 U (qO 6 U ?_))))))
 have hx2:dx v0=dn1++(y1::(dx.L1 (dx.K1) rz1 )):=hs3
 refine aI (mq ([]) A1_ ap (hy dn1 y1 _ _ _ _ hx2 hl1 hC1_ U) U U (λh5 A6 hle4 hC2=>?_) (λh6 A7 hle5 hS2=>?_) (λch2 h7 A8 hle6 hP2 e=>iY (oJ [] (A:=A8) RH (List.sublist_append_right _ _) hP2)))
 .have hs4:dx v0=(dn1++[y1])++((dx.L1 (dx.K1) rz1 )):=hx2.trans ap
  exact nB U (qO 5 U (oi i1 U (qO 2 U (ag1 ((dn1++[y1]),A6,h5) hs4 ⟨hC2,(hl1.t hle4)⟩))))
 exact nB U (qO 2 U (dR (n8 [] (A:=A7) RH U (List.Sublist.refl _) (.inr hS2))))
instance kI287:CtI 287:=⟨_,@yr⟩
theorem Ai(h s pS pK)(hs:SlC jB h pS pK s):j6 prog 222 [.slice pS s.length pK] h (λv h'=>∃(rv0:Value),v=rv0/\Itr prog rv0 sC (m8 s) h'):=by
 refine sT func222 U ntmps222 U λX hM hX hF=>?_
 generalize hz:(m8 s)=z;have hs:=hz.symm
 exact W
theorem vv(h p jg p_q lu)(hp:tG.ok h p jg)(ap_z:At h p_q (tG.cells p jg))(hsg:p.signed.length<20):j6 prog 151 [.pointer (some p_q),I lu] h (λv h'=>∃(rv0:Value),v=rv0/\Itr prog rv0 sC (bY p lu) h'):=by
 refine sT func151 U ntmps151 U λX hM hX hF=>?_
 have hs0:=@rfl _ (bY p lu)
 refine sr (eO (λb1=>qL 10 [0] U (aI (eG (gv U) (qL 1 [] U (lQ (j:=2) ty31 ap_z U U (qL 3 [] U ?_)))))))
 let z1:Nat×Obj:=(b1,O [.pointer (some p_q)] 150)
 refine lp2 p.signed (λi w=>[(1,I lu),(2,Q b1),(5,.slice w.2.1 w.1.length w.2.2.1),(11,.slice jg.co p.signed.length jg.cn),(12,I (p.signed.length:Int)),(13,I (i:Int))]) (λ_=>h) (λw=>[z1]++(w.2.2.2)) (λi w=>cN jB 3 h w.1 w.2.1 w.2.2.1 w.2.2.2/\w.1.length<=0+i/\(∀x∈w.1,0<=x/\x<(p.signed.length:Int))) (λs1 i w=>(bY.L1 lu (bY.K1 p)) s1 i w.1) ([],none,0,[]) hp.signed.1.1 hs0 ⟨cN.nil,lo,(λx hx=>(kA hx).elim)⟩ ?_ ?_
 .rintro i1 ⟨fg,zc,zb,P9⟩ iP hs1 ⟨tb,Ix,u1_0⟩ e
  try dsimp only at tb Ix u1_0
  refine qT 3 U (cz 0 U hM (λh1 hle1 hb1=>aI (gM U U (aI (m9 ([]) P9 ([]) call220 (tv h1 fg zc zb P9 (λel Eo=>kl el Eo p) (.func (.func 221) #[] #[Q b1]) (tb.mono vH hle1) (λh' el Eo de SG V9=>iA call221 (tD h' el Eo p jg p_q ⟨b1,0,none⟩  ((hp.mono hle1).mono de) ((ap_z.mono hle1).mono de) ((dO hb1).mono de) (u1_0 _ SG) (u1_0 _ V9))) (by first|assumption|omega)) ap U (λG1 gr1=>jm (L':=G1) ap (qO 4 U (oW vH ([]) G1 ([]) ap hM gr1 (λh2 hle2 sl1=>aI (cx call222 (Ai _ _ _ _ sl1) (by first|rfl|(simp only[GR,iW];rfl)) (λv1 h3 hle3 hp1=>?_)))))))))))
  obtain⟨_,rfl,mo1⟩:=hp1
  refine an ?_
  have hs2:bY p lu=(m8 (fS fg (λel Eo=>kl el Eo p))):=hs1
  exact nretH [v1] (hs2▸⟨v1,U,mo1⟩)
 rintro i1 ⟨fg,zc,zb,P9⟩ y1 rz1 hd1 fY dz iT mF hs3 ⟨tb,Ix,u1_0⟩ hx1 ag1 e
 try dsimp only at tb Ix u1_0
 refine sr (tO fY U (qO 9 U (aI (iF (λy=>[I y]) eP ty3 hp.signed.1 dz U U U (λq2 A2=>eJ ty3 A2 U (qO 8 U (kI 4 [20,21,22,23,24] 20 24 (decide (y1<=lu)) U (λc1 hk1=>?_) (λe=>?_))))))))
 .exact bp (qO 3 U (hk1 _ U))
 refine bo (aH hs3 U (λc2 hs4=>?_) (λc2 hs5=>?_))
 .exact bJ (qO 2 U (aI (bN (cells:=[I (i1:Int)]) eP ty3 zc3 U U kr (λb2=>aI (eB XF ([(b2,O [I (i1:Int)] 3),z1]) ([]) (λG=>[(b2,O [I (i1:Int)] 3),z1]++G) ap (λ_=>ap) eP ty3 zc3 U bytes3 tb U U (ic 0 U (cE (i1:Int) U U)) lo lo (λob1 oc1 G2 gr2=>qO 4 U (oi i1 U (qO 2 U (cu (L':=[z1]++G2) js (ag1 ((fg++[(i1:Int)]),ob1,oc1,G2) hs4 ⟨gr2,lo,(by first|assumption|exact λx hx=>(qH.1 hx).elim (u1_0 x) (λhx=>by rw[jC.1 hx];omega))⟩))))))))))
 exact bL (qT 2 U (oi i1 U (qO 2 U (ag1 (fg,zc,zb,P9) hs5 ⟨tb,lo,(by first|assumption|exact λx hx=>(qH.1 hx).elim (u1_0 x) (λhx=>by rw[jC.1 hx];omega))⟩))))
theorem wW(h v0 tW tV v0_q)(hv0:SlC jB h tW tV v0)(av0:At h v0_q [.slice tW v0.length tV]):Itr prog (.func (.func 223) #[] (xB [.pointer (some v0_q)])) AP (kz v0) h:=by
 refine sj call223 ?_
 intro yf ya yb C Sp Pn h1 A de m1 m2 m3 hC hy
 refine j1 RG U ntmps223 U λX hXM hX=>?_
 have hbd:=hv0.1.1
 refine sr (eJ ty31 (av0.mono de) U (qL 1 [] U (i8 (v':=I ((v0.length:Int)-1)) U (lv ob) (qO 3 U ?_))))
 refine ju (ι:=Nat×List (Int×Int)×LH×HF) (λi=>[(0,.func yf ya yb),(1,.pointer (some v0_q)),(3,I ((i.1:Int)-1))]) (λi=>i.2.2.2) (λi=>i.2.2.1)
  (λi=>kz v0=i.2.1++backL v0 i.1/\i.1<=v0.length/\C i.2.1 i.2.2.2 i.2.2.1/\xJ h1 i.2.2.2) (λi=>i.1) (v0.length,[],A,h1) rd (λw hw=>hw) ⟨rfl,kE _,hC,kH _⟩ ?_
 rintro⟨m,dn,A1,hh⟩ ⟨hs,hm,hC1,hl1⟩ ag e
 dsimp only at hs hm hC1 hl1
 rcases m with _|m
 .exact ea (qT 3 U (fO (decide_eq_false ob) U (qO 3 U (dR (sk [] (A:=A1) RG U (List.Sublist.refl _) (.inl ((show kz v0=dn from hs.trans (List.append_nil _))▸hC1)))))))
 have e1:(((m+1:Nat):Int)-1)=(m:Int):=by omega
 rw[e1]
 have ho:0<=(m:Int)/\(m:Int)<(v0.length:Int):=by omega
 refine qT 4 U (tO (decide_eq_true ob) U (qO 9 U (eJ ty31 (av0.mono (de.t hl1)) U (bp (aI (tx (enc:=λy=>[I y]) ei eP ty3 (hv0.mono vH (de.t hl1)).1 ho (di ho) U U U (λq2 A5=>eJ ty3 A5 U ?_)))))))
 have hx:kz v0=dn++(((m:Int),nthI v0 (m:Int))::backL v0 m):=hs
 refine aI (mq ([]) A1 U (hy dn ((m:Int),nthI v0 (m:Int)) _ _ _ _ hx hl1 hC1 U) U U (λh5 A6 hle4 hC2=>?_) (λh6 A7 hle5 hS2=>?_) (λch2 h7 A8 hle6 hP2 e=>iY (oJ [] (A:=A8) RG (List.sublist_append_right _ _) hP2)))
 .have hs4:kz v0=(dn++[((m:Int),nthI v0 (m:Int))])++backL v0 m:=hx.trans ap
  exact nB U (qO 6 U (i8 (v':=I ((m:Int)-1)) U (lv ob) (an (ag (m,dn++[((m:Int),nthI v0 (m:Int))],A6,h5) _ (Nat.lt_succ_self _) ⟨hs4,by show m<=v0.length;omega,hC2,vA hl1 hle4⟩ rd))))
 exact nB U (qO 2 U (dR (n8 [] (A:=A7) RG U (List.Sublist.refl _) (.inr hS2))))
instance kI223:CtI 223:=⟨_,@wW⟩
theorem yt(h s pS pK)(hs:SlC jB h pS pK s):j6 prog 152 [.slice pS s.length pK] h (λv h'=>∃(rv0:Value),v=rv0/\Itr prog rv0 AP (mD s) h'):=by
 refine sT func152 U ntmps152 U λX hM hX hF=>?_
 generalize hz:(mD s)=z;have hs:=hz.symm
 exact W
theorem Oe(s:List Int):m8 s=s:=by
  show dx.L1 dx.K1 s=s
  induction s with
  |nil=>rfl
  |cons y s ih=>simp only[dx.L1,ih]
theorem H4(cmp:Int->Int->Int):∀(m i:Nat)(xs:List Int),m=0\/i+m<=xs.length->∀x∈insOut cmp m i xs,x∈xs
  |0,_,_,_,x,hx=>hx
  |m+1,i,xs,h,x,hx=>by
    simp only[insOut]at hx
    exact ER cmp i xs ob x (H4 cmp m (i+1) _ (by rw[BA];omega) x hx)
theorem Oh(xs:List Int)(cmp:Int->Int->Int):∀x∈fS xs cmp,x∈xs:=H4 _ _ _ _ ob
theorem GT(p:fh)(bq):∀(s:List Int)(i:Nat)(g:List Int),(∀x∈g,0<=x/\x<(i:Int))->g.length<=i ->
  (∀x∈bY.L1 bq (bY.K1 p) s i g,0<=x/\x<((i+s.length:Nat):Int))/\(bY.L1 bq (bY.K1 p) s i g).length<=i+s.length:=by
 intro s
 induction s with
 |nil=>
  intro i g hg hl
  simp only[bY.L1,bY.K1,Oe,zB,Nat.add_zero,GR]
  exact⟨λx hx=>hg x (Oh _ _ x hx),hl⟩
 |cons y s ih=>
  intro i g hg hl
  have e1:i+(y::s).length=(i+1)+s.length:=by simp only[zA];omega
  rw[e1]
  simp only[bY.L1,Bool.cond_eq_ite]
  split
  .refine ih (i+1) _ (λx hx=>?_) lo
   rcases qH.1 hx with hx|hx
   .have:=hg x hx;omega
   rw[jC.1 hx];omega
  exact ih (i+1) g (λx hx=>by have:=hg x hx;omega) ob
theorem ME(p:fh)(bq):∀x∈bY p bq,0<=x/\x<(p.signed.length:Int):=by
  have:=(GT p bq p.signed 0 [] (λ_ h=>(kA h).elim) (kE _)).1
  simpa[bY]using this
theorem MD(p:fh)(bq):(bY p bq).length<=p.signed.length:=by
  have:=(GT p bq p.signed 0 [] (λ_ h=>(kA h).elim) (kE _)).2
  simpa[bY]using this
theorem FRi.mono{h':HF}(hl:h.le h'){m:List (Int×Option Addr×Nat×Nat)}{f:List (Int×List Int)}{G:LH}(x:FRi h m f G):FRi h' m f G:=FRg.mono vH hl x
section
variable {b0:Frame} {n:Nat} {ops:Array Oper} {F:List Frame->(Machine->Prop)->Prop} {ds:List Deferred} {X:Cx} {e:Env} {h h':HF} {L:LH} {l:List ao} {lb:Option Addr} {lc_z:Nat} {sg:List Int} {sb:Option Addr} {sc:Nat} {at_:Int} {q4:Addr} {a b c d f g t:Bool} {ty:TypeId} {pos:String} {af:Array Edge}
theorem V2(hl:SlC ao.rp h lb lc_z l)(hI:PlI h l lb lc_z sg sb sc at_ q4 false b c d f g t e h' L):
    Stp prog b0 n ops F ds X ⟨some 17,.call ⟨.value (.func 147),#[.tmp 16],#[27]⟩,ty,pos,af,none⟩ e h' L (λe2 h2 L2=>Jst h [] h2 L2/\PlI h l lb lc_z sg sb sc at_ q4 true b c d f g t e2 h2 L2):=by
  obtain⟨hv,de,⟨k2,k4,k16,k18,k20,k23⟩,sq,b5,b8,b9,b12,b11,x1,x5,x8,x9,x12,x10,x11,hL⟩:=hI
  cases g<;>cases t<;>simp at hv
  refine cx call147 (rW h' l lb lc_z (hl.mono ao.aD de)) (congrArg (λx=>[x]) k16) (λv h2 hl2 hp=>?_)
  obtain⟨r2,rfl,ok2⟩:=hp
  exact⟨⟨vA de hl2,λ_ hp=>(kA hp).elim⟩,U,vA de hl2,⟨k2,k4,k16,k18,k20,k23⟩,r2,b5,b8,b9,b12,b11,λ_=>⟨U,ok2⟩,x5,x8,x9,x12,λh=>(by cases h),λh=>(by cases h),hL⟩
theorem V1(hn:l.length<20)(hI:PlI h l lb lc_z sg sb sc at_ q4 a false c d f g t e h' L):
    Stp prog b0 n ops F ds X ⟨some 21,.makeSlice 136 (.tmp 20) (.tmp 20),ty,pos,af,none⟩ e h' L (λe2 h2 L2=>Jst h [] h2 L2/\PlI h l lb lc_z sg sb sc at_ q4 a true c d f g t e2 h2 L2):=by
  obtain⟨hv,de,⟨k2,k4,k16,k18,k20,k23⟩,sq,b5,b8,b9,b12,b11,x1,x5,x8,x9,x12,x10,x11,hL⟩:=hI
  cases g<;>cases t<;>simp at hv
  refine J7 Et zc4 ty4 bytes4 k20 k20 ob ob (λbk=>?_)
  exact⟨⟨de,λ_ hp=>(kA hp).elim⟩,U,de,⟨k2,k4,k16,k18,k20,k23⟩,sq,bk,b8,b9,b12,b11,x1,λ_=>U,x8,x9,x12,λh=>(by cases h),λh=>(by cases h),
    (List.Perm.cons _ hL).trans (pmid (pmid (pmid (pmid (List.Perm.refl _)))))⟩
theorem V0(hn:l.length<20)(hI:PlI h l lb lc_z sg sb sc at_ q4 a b false d f g t e h' L):
    Stp prog b0 n ops F ds X ⟨some 24,.makeSlice 31 (.tmp 23) (.tmp 23),ty,pos,af,none⟩ e h' L (λe2 h2 L2=>Jst h [] h2 L2/\PlI h l lb lc_z sg sb sc at_ q4 a b true d f g t e2 h2 L2):=by
  obtain⟨hv,de,⟨k2,k4,k16,k18,k20,k23⟩,sq,b5,b8,b9,b12,b11,x1,x5,x8,x9,x12,x10,x11,hL⟩:=hI
  cases g<;>cases t<;>simp at hv
  refine J7 eP zc3 ty3 bytes3 k23 k23 ob ob (λbk=>?_)
  exact⟨⟨de,λ_ hp=>(kA hp).elim⟩,U,de,⟨k2,k4,k16,k18,k20,k23⟩,sq,b5,bk,b9,b12,b11,x1,x5,λ_=>U,x9,x12,λh=>(by cases h),λh=>(by cases h),
    (List.Perm.cons _ hL).trans (pmid (pmid (pmid (List.Perm.refl _))))⟩
theorem VZ(hI:PlI h l lb lc_z sg sb sc at_ q4 a b c false f g t e h' L):
    Stp prog b0 n ops F ds X ⟨some 25,.makeMap 105 none,ty,pos,af,none⟩ e h' L (λe2 h2 L2=>Jst h [] h2 L2/\PlI h l lb lc_z sg sb sc at_ q4 a b c true f g t e2 h2 L2):=by
  obtain⟨hv,de,⟨k2,k4,k16,k18,k20,k23⟩,sq,b5,b8,b9,b12,b11,x1,x5,x8,x9,x12,x10,x11,hL⟩:=hI
  cases g<;>cases t<;>simp at hv
  refine pq (λbk=>?_)
  exact⟨⟨de,λ_ hp=>(kA hp).elim⟩,U,de,⟨k2,k4,k16,k18,k20,k23⟩,sq,b5,b8,bk,b12,b11,x1,x5,x8,λ_=>U,x12,λh=>(by cases h),λh=>(by cases h),
    (List.Perm.cons _ hL).trans (pmid (pmid (List.Perm.refl _)))⟩
theorem VE(hI:PlI h l lb lc_z sg sb sc at_ q4 a b c d false g t e h' L):
    Stp prog b0 n ops F ds X ⟨some 7,.alloc 150,ty,pos,af,none⟩ e h' L (λe2 h2 L2=>Jst h [] h2 L2/\PlI h l lb lc_z sg sb sc at_ q4 a b c d true g t e2 h2 L2):=by
  obtain⟨hv,de,⟨k2,k4,k16,k18,k20,k23⟩,sq,b5,b8,b9,b12,b11,x1,x5,x8,x9,x12,x10,x11,hL⟩:=hI
  refine Bp zc150 (λbk=>?_)
  exact⟨⟨de,λ_ hp=>(kA hp).elim⟩,hv,de,⟨k2,k4,k16,k18,k20,k23⟩,sq,b5,b8,b9,bk,b11,x1,x5,x8,x9,λ_=>U,x10,x11,
    (List.Perm.cons _ hL).trans (pmid (List.Perm.refl _))⟩
theorem VG(ha:(a&&b&&c&&d)=true)(hI:PlI h l lb lc_z sg sb sc at_ q4 a b c d f false t e h' L):
    Stp prog b0 n ops F ds X ⟨some 26,.build 215 #[(0,.tmp 17),(1,.tmp 18),(2,.tmp 21),(3,.tmp 24),(4,.tmp 25)],ty,pos,af,none⟩ e h' L (λe2 h2 L2=>Jst h [] h2 L2/\PlI h l lb lc_z sg sb sc at_ q4 a b c d f true t e2 h2 L2):=by
  obtain⟨hv,de,⟨k2,k4,k16,k18,k20,k23⟩,sq,b5,b8,b9,b12,b11,x1,x5,x8,x9,x12,x10,x11,hL⟩:=hI
  cases a<;>cases b<;>cases c<;>cases d<;>simp at ha
  cases t<;>simp at hv
  obtain⟨x1,o1⟩:=x1 rfl
  replace x5:=x5 rfl
  replace x8:=x8 rfl
  replace x9:=x9 rfl
  refine KT [(17,_),(18,_),(21,_),(24,_),(25,_)] ⟨x1,k18,x5,x8,x9,trivial⟩ ?_
  have hc:fh.cells (playP l sg) (playR l.length sq sb sc b5 b8 b9)=[.slice sq.IM (aJ l).docs.length sq.IL,.map (some sq.N8),.slice sb sg.length sc,.slice (zAD b5) l.length l.length,.slice (zAD b8) l.length l.length,.map (some b9)]:=by simp[fh.cells,playP,playR]
  exact ie (cells:=[.slice sq.IM (aJ l).docs.length sq.IL,.map (some sq.N8),.slice sb sg.length sc,.slice (zAD b5) l.length l.length,.slice (zAD b8) l.length l.length,.map (some b9)]) (places:=[(0,2),(2,1),(3,1),(4,1),(5,1)]) underlying215 zc215 kr kr (⟨⟨de,λ_ hp=>(kA hp).elim⟩,U,de,⟨k2,k4,k16,U,k20,k23⟩,sq,b5,b8,b9,b12,b11,λ_=>⟨U,o1⟩,λ_=>U,λ_=>U,λ_=>U,x12,λ_=>(congrArg (λz:List Value=>Value.agg z.toArray) hc).symm,λh=>(by cases h),hL⟩)
theorem VF(hI:PlI h l lb lc_z sg sb sc at_ q4 a b c d f true false e h' L):
    Stp prog b0 n ops F ds X ⟨some 27,.box 215 (.tmp 26),ty,pos,af,none⟩ e h' L (λe2 h2 L2=>Jst h [] h2 L2/\PlI h l lb lc_z sg sb sc at_ q4 a b c d f true true e2 h2 L2):=by
  obtain⟨hv,de,⟨k2,k4,k16,k18,k20,k23⟩,sq,b5,b8,b9,b12,b11,x1,x5,x8,x9,x12,x10,x11,hL⟩:=hI
  replace x10:=x10 rfl
  refine KT [(26,_)] ⟨x10,trivial⟩ (VA (λbk=>?_))
  exact⟨⟨de,λ_ hp=>(kA hp).elim⟩,hv,de,⟨k2,k4,k16,k18,k20,k23⟩,sq,b5,b8,b9,b12,bk,x1,x5,x8,x9,x12,λ_=>U,λ_=>U,List.Perm.cons _ hL⟩
end
theorem T7{i:Nat}{a b c d f g t:Bool}(h:i∈plN a b c d f g t):(i=1/\a=false)\/(i=5/\b=false)\/(i=8/\c=false)\/(i=9/\d=false)\/(i=10/\(a&&b&&c&&d)=true/\g=false)\/(i=11/\g=true/\t=false)\/(i=12/\f=false)\/(a=true/\b=true/\c=true/\d=true/\f=true/\g=true/\t=true):=by
 simp only[plN,qH]at h
 rcases h with h|h|h|h|h|h|h|h
 .cases a with
  |true=>simp at h
  |false=>simp at h;exact .inl ⟨h,rfl⟩
 .cases b with
  |true=>simp at h
  |false=>simp at h;exact .inr (.inl ⟨h,rfl⟩)
 .cases c with
  |true=>simp at h
  |false=>simp at h;exact .inr (.inr (.inl ⟨h,rfl⟩))
 .cases d with
  |true=>simp at h
  |false=>simp at h;exact .inr (.inr (.inr (.inl ⟨h,rfl⟩)))
 .cases g with
  |true=>simp at h
  |false=>
   cases hh:(a&&b&&c&&d)with
   |false=>rw[hh]at h;simp at h
   |true=>rw[hh]at h;simp at h;exact .inr (.inr (.inr (.inr (.inl ⟨h,rfl,rfl⟩))))
 .cases g with
  |false=>simp at h
  |true=>
   cases t with
   |true=>simp at h
   |false=>simp at h;exact .inr (.inr (.inr (.inr (.inr (.inl ⟨h,rfl,rfl⟩)))))
 .cases f with
  |true=>simp at h
  |false=>simp at h;exact .inr (.inr (.inr (.inr (.inr (.inr (.inl ⟨h,rfl⟩))))))
 cases a<;>cases b<;>cases c<;>cases d<;>cases f<;>cases g<;>cases t<;>simp at h
 exact .inr (.inr (.inr (.inr (.inr (.inr (.inr ⟨U,U,U,U,U,U,U⟩))))))
theorem Sn{a b c d f g t:Bool}(h:plM a b c d f g t=0):a=true/\b=true/\c=true/\d=true/\f=true/\g=true/\t=true:=by
  cases a<;>cases b<;>cases c<;>cases d<;>cases f<;>cases g<;>cases t<;>simp[plM]at h<;>simp
theorem zg.mono{h':HF}{n b5 b8 br:Nat}{P:fh}{Gf:LH}(o:zg h n b5 b8 br P om m3 Gf)(hl:h.le h'):zg h' n b5 b8 br P om m3 Gf:=
  ⟨o.done,o.lacks,o.map.mono V3.mono hl,o.rev.mono hl⟩
theorem FK(h):∀xs:List Bool,cS qW h (xs.map vV) xs
  |[]=>rfl
  |x::xs=>⟨[.bool x],xs.map vV,rfl,rfl,rfl,FK h xs⟩
theorem Fm(h):∀xs:List Int,cS jB h (xs.map (zC .i64)) xs
  |[]=>rfl
  |x::xs=>⟨[I x],xs.map (zC .i64),rfl,rfl,rfl,Fm h xs⟩
theorem zg.lent{h1:HF}{n b5 b8 br:Nat}{P:fh}{Gf:LH}{sq:rM}{sb:Option Addr}{sc:Nat}(o:zg h n b5 b8 br P om m3 Gf)(hn:n<20)(hs:iq.ok h P.shelf sq)(hg:SlC jB h sb sc P.signed)(hl:h.le h1)(hL:∀p∈plB b5 b8 br P om Gf,h1 p.1=some p.2):fh.ok h1 P (playR n sq sb sc b5 b8 br):=by
  have h5:=hL (b5,.cells (P.done.map vV).toArray 4 (0,0)) (by simp[plB])
  have h8:=hL (b8,.cells (P.lacks.map (zC .i64)).toArray 3 (0,0)) (by simp[plB])
  have hr:=hL (br,om) (by simp[plB])
  have hd:=o.done
  have hk:=o.lacks
  exact⟨hs.mono hl,hg.mono vH hl,cS.slB0 (FK h1 _) h5 ob (by rw[hd];exact kE _),cS.slB0 (Fm h1 _) h8 ob (by rw[hk];exact kE _),
    ⟨om,hr,FRg.frozen vH o.map o.rev hl (λp hp=>hL p (by simp[plB,hp]))⟩⟩
theorem Jq(l:List ao):(aJ l).docs=l:=by
  have:∀(s:List ao)(i:Nat)(g:List (Int×Int)),(aJ.L1 (aJ.K1 l) s i g).docs=l:=by
    intro s
    induction s with
    |nil=>intro i g;rfl
    |cons y s ih=>intro i g;exact ih _ _
  exact this _ _ _
theorem M5(l:List ao)(hl:0<l.length)(k):0<=mgetD (aJ l).at_ k 0/\mgetD (aJ l).at_ k 0<(l.length:Int):=by
  have key:∀(s:List ao)(i:Nat)(g:List (Int×Int)),i+s.length=l.length->(∀p∈g,0<=p.2/\p.2<(l.length:Int))->∀p∈(aJ.L1 (aJ.K1 l) s i g).at_,0<=p.2/\p.2<(l.length:Int):=by
    intro s
    induction s with
    |nil=>intro i g _ hg;exact hg
    |cons y s ih=>
      intro i g hi hg
      simp only[zA]at hi
      exact ih (i+1) _ ob (AD (P:=λx:Int=>0<=x/\x<(l.length:Int)) _ hg ob)
  exact Bw (P:=λx:Int=>0<=x/\x<(l.length:Int)) k (key l 0 [] (by simp) (λ_ h=>(kA h).elim)) ob
theorem Cw(f:α->Value)(xs:List α)(k)(y:α):splice (xs.map f) (k*1) [f y]=(xs.set k y).map f:=by
  simp[splice,po,List.map_set]
theorem HL{l:List ao}{sg:List Int}{P:fh}{r:vO}(h1:P.shelf=aJ l)(h2:P.signed=sg)(h3:P.done.length=l.length)(h4:P.lacks.length=l.length):fh.cells P r=fh.cells (playP l sg) r:=by
  simp[fh.cells,playP,h1,h2,h3,h4]
theorem Az(sg:List Int)(i no)(P:fh):(playLack sg i P no).shelf=P.shelf/\(playLack sg i P no).signed=P.signed/\(playLack sg i P no).done=P.done/\(playLack sg i P no).lacks.length=P.lacks.length/\(playLack sg i P no).revoked=P.revoked:=by
  unfold playLack
  cases(cZ P (mgetD P.shelf.at_ no 0) (nthI sg i)).1 != 0<;>simp
theorem K6{d:ao}{Q_z:fh}{y:Int}{P:List (Int×List Int)}{i:Nat}(h:∀k,(mgetD Q_z.revoked k []).length<=(mgetD P k []).length+i):∀k,(mgetD (playRevoke d Q_z y).revoked k []).length<=(mgetD P k []).length+(i+1):=λk=>by
 show(mgetD (mput Q_z.revoked y (mgetD Q_z.revoked y []++[d.No])) k []).length<=_
 rw[CN]
 split
 .next hk=>subst hk;have:=h k;simp only[jA,zA,zB];omega
 have:=h k;omega
theorem Sx(h:p:=by
  refine tn 15 U (mS 7 (k:=y) (x:=(gb',(mgetD QD.revoked y []++[d.No]).length,gc')) GF (gx nI) U ownQ.map U U U (λoR hmR=>⟨jn,bO kr ?_⟩))
  obtain⟨G',hfr',hp'⟩:=hput gb' gc' _ G1' hG'
  refine qT 2 U (oi i U (qO 2 U (bZ (L':=[zn,zd,zi,zl,zr,z5,(b8,.cells (QD.lacks.map (λv=>Value.int .i64 v)).toArray 3 (0,0)),(br,oR)]++(G2++G1')) U ?_)))
  exact m6 (L':=zn::([zd,zi,zl,zr]++plB b5 b8 br (playRevoke d QD y) oR G')) (List.Perm.append_left [_,_,_,_,_,_,_,_] (List.perm_append_comm.trans hp'.symm)) (cu (L':=[zd,zi,zl,zr]++plB b5 b8 br (playRevoke d QD y) oR G') js (ag (i+1,playRevoke d QD y,oR,mput mQ y (gb',(mgetD QD.revoked y []++[d.No]).length,gc'),G') _ (by show d.fe.length-(i+1)<d.fe.length-i;omega) ⟨hfQ,hi,⟨ownQ.done,ownQ.lacks,hmR,hfr'⟩,hQs,hQg,K6 hQc⟩ rd))):p:=h
theorem tT(h l fo fm signed co cn bq)(hl:SlC ao.rp h fo fm l)(eN:SlC jB h co cn signed)(hck:aZ l=0)(hsg:signed.length=l.length)(hln:l.length<20):
  j6 prog 80 [.slice fo l.length fm,.slice co signed.length cn,I bq] h (λv h'=>∃(rq0:Addr)(rr0:vO),v=.pointer (some rq0)/\fh.ok h' (cG l signed bq) rr0/\At h' rq0 (fh.cells (cG l signed bq) rr0)):=by
 refine cX func80 U ntmps80 U λX hM hX=>?_
 refine sr (eO (λb4=>an ?_))
 refine gE 0 U hM (λh1 l1 f4=>?_)
 have a4:=dO f4
 show TT _ _ _ _ _ _ _ _ h1 []
 refine ea (eY [] mixed kr jn (λhsep _=>?_))
 refine tm 0 U (tf 2 U U (rh ty31 a4 U) (tm 3 U (tf 4 U U (λ_ _ _=>Ke xh U) (tm 6 U (tf 7 U U (λ_ _ _=>Ke xh U) ?_)))))
 refine UT (σ:=Bool×Bool×Bool×Bool×Bool×Bool×Bool) 1 (λs e2 h2 L2=>PlI h1 l fo fm signed co cn bq ⟨b4,0,none⟩ s.1 s.2.1 s.2.2.1 s.2.2.2.1 s.2.2.2.2.1 s.2.2.2.2.2.1 s.2.2.2.2.2.2 e2 h2 L2)
  (λs=>plM s.1 s.2.1 s.2.2.1 s.2.2.2.1 s.2.2.2.2.1 s.2.2.2.2.2.1 s.2.2.2.2.2.2) (λs=>plD s.1 s.2.1 s.2.2.1 s.2.2.2.1 s.2.2.2.2.1 s.2.2.2.2.2.1 s.2.2.2.2.2.2) ?_ ?_ 7 (false,false,false,false,false,false,false) _ _ _ rfl
  ⟨rfl,kH _,⟨rfl,rfl,rfl,rfl,rfl,rfl⟩,⟨none,0,0⟩,0,0,0,0,0,λh=>(by cases h),λh=>(by cases h),λh=>(by cases h),λh=>(by cases h),λh=>(by cases h),λh=>(by cases h),λh=>(by cases h),List.Perm.refl _⟩
 .rintro⟨a,b,c,d,f,g,t⟩ e2 h2 L2 hI hμ
  obtain⟨e1,e2',e3,e4,e5,e6,e7⟩:=Sn hμ
  dsimp only at e1 e2' e3 e4 e5 e6 e7
  subst e1 e2' e3 e4 e5 e6 e7
  obtain⟨_,de,⟨k2,k4,_,_,_,_⟩,sr0,b5,b8,br,b12,b11,x1,_,_,_,x12,_,x11,hL⟩:=hI
  obtain⟨_,oks⟩:=x1 rfl
  have k7:=x12 rfl
  have k27:=x11 rfl
  clear x1 x12 x11
  dsimp only at k7 k27 oks hL k2 k4
  have J2:∀{L:LH},Jst h1 [] h2 L:=⟨de,λ_ hp=>(kA hp).elim⟩
  refine tn 13 U (GV hL (KT [(7,Q b12),(27,Q b11)] ⟨k7,k27,trivial⟩ (lM 1 (off:=0) (vs:=[Q b11]) ty150 U U U U (by rfl) U ⟨J2,bO kr (UR [(2,I bq),(4,Q b4),(7,Q b12)] ⟨k2,k4,U,trivial⟩ (gE 1 U hM (λh3 l3 f12=>gE 0 U hM (λh4 l4 f11=>?_))))⟩)))
  have A7:=(dO f12).mono l4
  have A11:=dO f11
  have l24:h2.le h4:=vA l3 l4
  have l04:h.le h4:=vA l1 (vA de l24)
  replace oks:=oks.mono l24
  replace a4:=a4.mono (vA de l24)
  clear f12 f11 l3 l4 J2 hL k2 k4 k7 k27
  refine m6 (L':=plB b5 b8 br (playP l signed) (.map #[] 0) []) (by
   have h9:plB b5 b8 br (playP l signed) (.map #[] 0) []=[(b5,.cells (List.replicate l.length (.bool false)).toArray 4 (0,0)),(b8,.cells (List.replicate l.length (I 0)).toArray 3 (0,0)),(br,.map #[] 0)]:=by simp[plB,playP,List.map_replicate]
   rw[h9]
   exact List.reverse_perm [(b5,O (List.replicate l.length (.bool false)) 4),(b8,.cells (List.replicate l.length (I 0)).toArray 3 (0,0)),(br,.map #[] 0)]) ?_
  have hl4:=hl.mono ao.aD l04
  have hs4:=eN.mono vH l04
  refine qT 3 U (eJ ty150 A7 U (bp (aI (cx call151 (vv h4 (playP l signed) (playR l.length sr0 co cn b5 b8 br) ⟨b11,0,none⟩ bq ⟨hs4⟩ A11 (by show signed.length<20;omega)) U (λv5 h5 l5 hp=>?_)))))
  obtain⟨rv,rfl,hit⟩:=hp
  refine qO 2 U (dR ?_)
  have hord:=ME (playP l signed) bq
  have hordl:=MD (playP l signed) bq
  have hsl:(playP l signed).signed.length=l.length:=hsg
  replace a4:=a4.mono l5
  replace A7:=A7.mono l5
  replace A11:=A11.mono l5
  replace hl4:=hl4.mono ao.aD l5
  replace hs4:=hs4.mono vH l5
  replace oks:=oks.mono l5
  have hdr:=EZ hck
  refine j9 (it:=v5) (xs:=bY (playP l signed) bq) (ι:=fh×Obj×List (Int×Option Addr×Nat×Nat)×LH×HF) [] (λi=>i.2.2.2.2) (λi=>plB b5 b8 br i.1 i.2.1 i.2.2.2.1)
   (λrest i=>rest.foldl playStep i.1=cG l signed bq/\i.1.shelf=aJ l/\i.1.signed=signed/\zg i.2.2.2.2 l.length b5 b8 br i.1 i.2.1 i.2.2.1 i.2.2.2.1/\h5.le i.2.2.2.2/\(∀x∈rest,0<=x/\x<(l.length:Int))/\(∀k,(mgetD i.1.revoked k []).length+16*rest.length<=320))
   (λ_=>False) (λ_=>False) 0 (λ_ _ _=>False) (playP l signed,.map #[] 0,[],[],h5) func80 rfl hit rfl AO (λ_ _ _ _ _ hq=>hq) rfl rfl
   ⟨rfl,rfl,rfl,⟨by simp[playP],by simp[playP],lr.nil,rfl⟩,kH _,λx hx=>hsl▸hord x hx,λk=>by show 0+16*_<=320;omega⟩ ?_ ?_ (λ_ _ _ hF=>hF.elim) (λ_ _ _ hF=>hF.elim) (λ_ _ _ _ hF=>hF.elim)
  .rintro VT r1 lp1 x rest vs1 ⟨P,om,m3,Gf,hh⟩ h7 X' FR ⟨hfold,hsh,hsgd,hown,h5h,hin,hcnt⟩ h57 hh7 hv hX' hXM hlp nx rt ex pn
   dsimp only at hfold hsh hsgd hown h5h hin hcnt hh7
   obtain rfl:=hv
   have hPl:P.signed.length=l.length:=by rw[hsgd];exact hsg
   have hD:=Jq l
   have hx0:=hin x (vB ..)
   have hx:0<=x/\x<((aJ l).docs.length:Int):=by rw[hD];exact hx0
   have hxn:x.toNat<l.length:=by omega
   replace hown:=hown.mono hh7
   have oks7:=oks.mono h57
   have A7':=A7.mono h57
   have A11':=A11.mono h57
   have a4':=a4.mono h57
   have hs7:=hs4.mono vH h57
   have hpd:=hown.done
   have hpl:=hown.lacks
   clear hh7
   refine bJ (bH zc3 (λbi=>cW 0 ty3 U U U U U U (bo ?_)))
   let zi:Nat×Obj:=(bi,O [I x] 3)
   let zl:Nat×Obj:=(VT,.loop { lp1 with state:=.busy })
   let zr:Nat×Obj:=(r1,.deferred (some []))
   refine kh 1 U hlp (m7 (bZ (L':=[zi,zl,zr]++plB b5 b8 br P om Gf) (show[zi,zl,zr]++(plB b5 b8 br P om Gf++markB [])=_ from by simp[markB]) (ea (eY [zi] mixed kr jn (λhs4 _=>?_)))))
   refine tf 0 U U (rh ty150 A7' U) (tf 1 U U (λ_ _ _=>gv U) (qB [2,3] U (tf 4 U U (rh ty27 A11' U) (tf 5 U U (rj 0 ty3 U U U) (oK 6 hs4 jn xh ty54 oks7.docs.1 hx (di hx) U U U U kr (λq1 cs1 B1 ln1 rr1=>?_))))))
   obtain⟨dr,rfl,okd⟩:=rr1
   refine tf 7 U U (λ_ _ hj=>mW ty54 (B1.mono hj.1) U U) (tn 8 U (Bp zc54 (λbd=>⟨jn,(tn 9 U (uS 0 ty54 U U U U U U ⟨jn,bO kr ?_⟩))⟩)))
   generalize hdd:nthI (aJ l).docs x=d at okd B1
   let zd:Nat×Obj:=(bd,O (ao.cells d dr) 54)
   have hdP:nthI P.shelf.docs x=d:=by rw[hsh];exact hdd
   have hdl:d∈l:=by have h9:=ow hx;rw[hdd,hD]at h9;exact h9
   have hgd:=hdr d hdl
   show TT _ _ _ _ _ _ _ _ h7 ([zd,zi,zl,zr]++plB b5 b8 br P om Gf)
   refine ea (eY [zd,zi] mixed kr jn (λhs5 _=>?_))
   refine tf 0 U U (rh ty150 A7' U) (tf 1 U U (λ_ _ _=>gv U) (qB [2] U (tf 3 U U (rH 4 ty31 A11' U U) (tf 4 U U (rj 1 ty3 U U U) (tf 5 U U (λ_ _ _=>nY (R:=jB) (xs:=P.lacks) (bk:=b8) (z:=x) eP ty3 U ob U (by simp[playP,hpl]) U) (tn 6 U (lM 5 (off:=x.toNat*1) (vs:=[I (-1)]) ty3 U U U U (Nat.ble_eq_true_of_le (by simp only[List.length_map,zA,zB];omega)) U ⟨jn,bO kr (bZ (L':=[zd,zi,zl,zr]++plB b5 b8 br { P with lacks:=P.lacks.set x.toNat (-1) } om Gf) (by rw[Cw (zC .i64)];rfl) ?_)⟩)))))))
   have own1:zg h7 l.length b5 b8 br { P with lacks:=P.lacks.set x.toNat (-1) } om m3 Gf:=⟨hpd,by simpa using hpl,hown.map,hown.rev⟩
   refine qT 3 U (lD Uj U (py 0 ty31 U U U (aI (cx call152 (yt h7 d.fp _ _ okd.fp) U (λv8 h8 l8 hp8=>?_)))))
   obtain⟨rv8,rfl,hit8⟩:=hp8
   refine qO 2 U ?_
   refine QA (it:=v8) (xs:=mD d.fp) 2 U (λdone h' L'=>h8.le h'/\zg h' l.length b5 b8 br (done.foldl (λq(z:Int×Int)=>playLack P.signed x q z.2) { P with lacks:=P.lacks.set x.toNat (-1) }) om m3 Gf/\L'=[zd,zi,zl,zr]++plB b5 b8 br (done.foldl (λq(z:Int×Int)=>playLack P.signed x q z.2) { P with lacks:=P.lacks.set x.toNat (-1) }) om Gf)
    rfl hit8 rfl F9 (λ_ _ _ _ hl⟨a,b,c⟩=>⟨vA a hl,b.mono hl,c⟩) ⟨kH _,own1.mono l8,rfl⟩ ?_ ?_
   .rintro l2 lp2 done z rest2 vs2 h9 L9 X9 hxs h89 ⟨h89',own2,rfl⟩ hv2 hlp2 hX9 hXM9
    obtain rfl:=hv2
    obtain⟨Pm,hPm⟩:∃Pm,Pm=done.foldl (λq(z:Int×Int)=>playLack P.signed x q z.2) { P with lacks:=P.lacks.set x.toNat (-1) }:=⟨_,rfl⟩
    have hPs:Pm.shelf=aJ l/\Pm.signed=signed:=by
     rw[hPm]
     have:∀(s:List (Int×Int))(QD:fh),QD.shelf=aJ l/\QD.signed=signed->(s.foldl (λq(z:Int×Int)=>playLack P.signed x q z.2) QD).shelf=aJ l/\(s.foldl (λq(z:Int×Int)=>playLack P.signed x q z.2) QD).signed=signed:=by
      intro s
      induction s with
      |nil=>intro QD h;exact h
      |cons y s ih=>intro QD h;obtain⟨a1,a2,_⟩:=Az P.signed x y.2 QD;exact ih _ ⟨a1.trans h.1,a2.trans h.2⟩
     exact this _ _ ⟨hsh,hsgd⟩
    rw[←hPm]at own2
    have l79:h7.le h9:=vA l8 h89
    have A79:=A7'.mono l79
    have B79:=A11'.mono l79
    refine qT 3 U (kh 0 U hlp2 (m7 ?_))
    rw[←hPm]
    refine bZ (L':=[(l2,.loop { lp2 with state:=.busy }),zd,zi,zl,zr]++plB b5 b8 br Pm om Gf) U (ea (eY [zi] mixed kr jn (λhs8 _=>?_)))
    refine tf 0 U U (rh ty150 A79 U) (tf 1 U U (rh ty150 A79 U) (tf 2 U U (λ_ _ _=>gv U) (qB [3,4] U (tf 5 U U (rH 1 ty43 B79 U U) (tm 6 U (tf 8 U U (rh ty31 (a4'.mono l79) U) (tf 9 U U (rj 0 ty3 U U U) ?_)))))))
    have hxs:0<=x/\x<(signed.length:Int):=by omega
    refine ir 10 (enc:=λy=>[I y]) hs8 jn (λ_ _ _ e=>e) eP ty3 (hs7.mono vH l79).1 hxs (di hxs) U U U U kr (λq3 B3=>?_)
    refine tf 11 U U (rh ty3 B3 U) ?_
    obtain⟨mo,hmb,hmm⟩:=(oks7.mono l79).at_
    refine tn 7 U (pt (k:=z.2) Db (gx nI) hmb hmm (ft zv3) (show yP _ (I 0) 0 from U) U U (λv hv=>?_))
    obtain rfl:=hv
    refine⟨jn,?_⟩
    have hat:=M5 l ob z.2
    refine tn 12 U (R8 (v:=.tuple #[I (cZ Pm (mgetD (aJ l).at_ z.2 0) (nthI signed x)).1,I (cZ Pm (mgetD (aJ l).at_ z.2 0) (nthI signed x)).2]) call81 (λhz lz hall=>nE hz Pm (playR l.length sr0 co cn b5 b8 br) ⟨b11,0,none⟩ (mgetD (aJ l).at_ z.2 0) (nthI signed x)
     (own2.lent hln (hPs.1▸oks7.mono l79) (hPs.2▸hs7.mono vH l79) lz (λp hp=>hall p (by simp only[qH,kD];exact .inr hp))) (by rw[HL hPs.1 hPs.2 own2.done own2.lacks];exact(A11'.mono l79).mono lz) (by rw[hPs.1,hD];exact hat) (by rw[hPs.1,hD];exact⟨own2.done,own2.lacks⟩)) rfl ⟨jn,?_⟩)
    refine qR 13 5 U (bO kr (qT 5 U ?_))
    have hlk:playLack P.signed x Pm z.2=bif(cZ Pm (mgetD (aJ l).at_ z.2 0) (nthI signed x)).1 != 0 then { Pm with lacks:=Pm.lacks.set x.toNat z.2 }else Pm:=by
     unfold playLack;rw[hPs.1,hsgd]
    have hnx:(done++[z]).foldl (λq(z:Int×Int)=>playLack P.signed x q z.2) { P with lacks:=P.lacks.set x.toNat (-1) }=playLack P.signed x Pm z.2:=by rw[List.foldl_append,hPm];rfl
    refine ly U (λc1=>?_) (λc1=>qT 2 U ?_)
    .refine eY [zi] mixed kr jn (λhs9 _=>?_)
     refine tf 0 U U (rh ty150 A79 U) (tf 1 U U (λ_ _ _=>gv U) (qB [2] U (tf 3 U U (rH 4 ty31 B79 U U) (tf 4 U U (rj 0 ty3 U U U) (tm 5 U ?_)))))
     have hml:=own2.lacks
     refine tf 6 U U (λ_ _ _=>nY (R:=jB) (xs:=Pm.lacks) (bk:=b8) (z:=x) eP ty3 U ob U (by simp[playP,hml]) U) (tn 7 U (lM 6 (off:=x.toNat*1) (vs:=[I z.2]) ty3 U U U U (Nat.ble_eq_true_of_le (by simp only[List.length_map,zA,zB];omega)) U ⟨jn,bO kr (fW ?_)⟩))
     rw[c1,cond_true]at hlk
     refine bZ (L':=(l2,.loop { lp2 with state:=.busy })::([zd,zi,zl,zr]++plB b5 b8 br { Pm with lacks:=Pm.lacks.set x.toNat z.2 } om Gf)) (by rw[Cw (zC .i64)];rfl) ?_
     refine PI U ⟨h89',?_,?_⟩
     .rw[hnx,hlk];exact⟨own2.done,by simpa using hml,own2.map,own2.rev⟩
     rw[hnx,hlk]
    rw[c1,cond_false]at hlk
    refine PI U ⟨h89',?_,?_⟩
    .rw[hnx,hlk];exact own2
    rw[hnx,hlk];rfl
   rintro h9 L9 h89 ⟨h89',own2,rfl⟩
   obtain⟨Pm,hPm⟩:∃Pm,Pm=(mD d.fp).foldl (λq(z:Int×Int)=>playLack P.signed x q z.2) { P with lacks:=P.lacks.set x.toNat (-1) }:=⟨_,rfl⟩
   rw[←hPm]at own2
   rw[←hPm]
   have hPs:Pm.shelf=aJ l/\Pm.signed=signed/\Pm.revoked=P.revoked:=by
    rw[hPm]
    have:∀(s:List (Int×Int))(QD:fh),QD.shelf=aJ l/\QD.signed=signed/\QD.revoked=P.revoked->(s.foldl (λq(z:Int×Int)=>playLack P.signed x q z.2) QD).shelf=aJ l/\(s.foldl (λq(z:Int×Int)=>playLack P.signed x q z.2) QD).signed=signed/\(s.foldl (λq(z:Int×Int)=>playLack P.signed x q z.2) QD).revoked=P.revoked:=by
     intro s
     induction s with
     |nil=>intro QD h;exact h
     |cons y s ih=>intro QD h;obtain⟨a1,a2,_,_,a5⟩:=Az P.signed x y.2 QD;exact ih _ ⟨a1.trans h.1,a2.trans h.2.1,a5.trans h.2.2⟩
    exact this _ _ ⟨hsh,hsgd,U⟩
   have hmid:playMid P x=Pm:=by unfold playMid;rw[hdP];exact hPm.symm
   have hstep:playStep P x=bif decide (nthI Pm.lacks x<0)then d.fe.foldl (playRevoke d) (playDone Pm x)else playDone Pm x:=by
    unfold playStep;rw[hmid,hdP]
   have l79:h7.le h9:=vA l8 h89
   have A79:=A7'.mono l79
   have B79:=A11'.mono l79
   have hmd:=own2.done
   have hml:=own2.lacks
   refine qT 2 U (eY [zd,zi] mixed kr jn (λhs11 _=>?_))
   refine tf 0 U U (rh ty150 A79 U) (tf 1 U U (λ_ _ _=>gv U) (qB [2] U (tf 3 U U (rH 3 ty136 B79 U U) (tf 4 U U (rj 1 ty3 U U U) (tf 5 U U (λ_ _ _=>nY (R:=qW) (xs:=Pm.done) (bk:=b5) (z:=x) Et ty4 U ob U (by simp[playP,hmd]) U) (tn 6 U (lM 4 (off:=x.toNat*1) (vs:=[.bool true]) ty4 U U U U (Nat.ble_eq_true_of_le (by simp only[List.length_map,zA,zB];omega)) U ⟨jn,bO kr (bZ (L':=[zd,zi,zl,zr]++plB b5 b8 br (playDone Pm x) om Gf) (by rw[Cw vV];rfl) ?_)⟩)))))))
   have own3:zg h9 l.length b5 b8 br (playDone Pm x) om m3 Gf:=⟨by simpa[playDone]using hmd,hml,own2.map,own2.rev⟩
   have JB:∀{A:LH},Jst h9 [zi,(b8,.cells (Pm.lacks.map (zC .i64)).toArray 3 (0,0))] h9 ([zd,zi,zl,zr]++plB b5 b8 br (playDone Pm x) om A):=⟨kH _,λp hp=>by
    simp only[kD,kA,or_false]at hp
    rcases hp with rfl|rfl<;>simp[plB,playDone]⟩
   refine ea (eY [zi,(b8,.cells (Pm.lacks.map (zC .i64)).toArray 3 (0,0))] mixed kr JB (λhs12 _=>?_))
   refine ki 0 hs12 JB U U kr U (rh ty150 A79 U) (ki 1 hs12 JB U U kr U (λ_ _ _=>gv U) (ki 2 hs12 JB U U kr U (λ_ _ _=>yZ S1 U) (ki 3 hs12 JB U U kr U (rH 4 ty31 B79 U U) (ki 4 hs12 JB U U kr U (rj 0 ty3 U U U) (ki 5 hs12 JB U U kr U (λ_ _ _=>nY (R:=jB) (xs:=Pm.lacks) (bk:=b8) (z:=x) eP ty3 U ob U (by simp[playP,hml]) U) ?_)))))
   have hlx:(Pm.lacks.map (zC .i64))[x.toNat*1]? = some (I (nthI Pm.lacks x)):=by
    rw[Nat.mul_one,zW,di ob];rfl
   refine ki 6 hs12 JB U U kr U (λ_ _ hj=>vX ty3 U (hj.nth (i:=1) U) (by rw[i9];exact hlx)) (ki 7 hs12 JB U U kr U (λ_ _ _=>Sj U) (bO kr ?_))
   have hin':∀y∈rest,0<=y/\y<(l.length:Int):=λy hy=>hin y (xC _ hy)
   have h59:h5.le h9:=vA h57 l79
   refine ly U (λc1=>?_) (λc1=>qT 2 U ?_)
   .rw[c1,cond_true]at hstep
    have hrl:=hgd.revokes.2
    refine sr (lD Uk U (py 0 ty31 U U U (Fk eP U (qO 2 U ?_))))
    have hfin:∀(QD:fh)(oQ:Obj)(mQ:List (Int×Option Addr×Nat×Nat))(GQ:LH)(e':Env),QD=d.fe.foldl (playRevoke d) (playDone Pm x)->zg h9 l.length b5 b8 br QD oQ mQ GQ->QD.shelf=aJ l->QD.signed=signed->(∀k,(mgetD QD.revoked k []).length<=(mgetD P.revoked k []).length+d.fe.length) ->
      TT prog (roundFrame VT 80) 114 [.inBlock 1] FR e' [] X' h9 ([zd,zi,zl,zr]++plB b5 b8 br QD oQ GQ):=by
     intro QD oQ mQ GQ e' hQ ownQ hQs hQg hQc
     refine fW (cu (L':=[zl,zr]++plB b5 b8 br QD oQ GQ) js (bZ (L':=rdH VT r1 lp1 (plB b5 b8 br QD oQ GQ++markB [])) (by simp[markB,rdH,zl,zr]) ?_))
     refine nx (QD,oQ,mQ,GQ,h9) _ _ ⟨?_,hQs,hQg,ownQ,h59,hin',λk=>?_⟩ lf
     .rw[←hfold,WZ,hstep,hQ]
     have h1':=hcnt k
     have h2':=hQc k
     simp only[zA]at h1'
     show(mgetD QD.revoked k []).length+16*rest.length<=320
     omega
    refine gB (ι:=fh×Obj×List (Int×Option Addr×Nat×Nat)×LH) (λi=>[]) (λi=>h9) (λi=>[zd,zi,zl,zr]++plB b5 b8 br i.1 i.2.1 i.2.2.2)
     (λi=>i.1=d.fe.foldl (playRevoke d) (playDone Pm x)/\zg h9 l.length b5 b8 br i.1 i.2.1 i.2.2.1 i.2.2.2/\i.1.shelf=aJ l/\i.1.signed=signed/\∀k,(mgetD i.1.revoked k []).length<=(mgetD P.revoked k []).length+d.fe.length) ?_ (λhx4=>?_)
    .rintro⟨QD,oQ,mQ,GQ⟩ ⟨q1,q2,q3,q4,q5⟩ e4
     exact hfin QD oQ mQ GQ _ q1 q2 q3 q4 q5
    refine ju (ι:=Nat×fh×Obj×List (Int×Option Addr×Nat×Nat)×LH) (λi=>[(7,Q b12),(9,Q bd),(91,.slice dr.uE d.fe.length dr.uD),(92,I (d.fe.length:Int)),(93,I (i.1:Int))]) (λi=>h9)
     (λi=>[zd,zi,zl,zr]++plB b5 b8 br i.2.1 i.2.2.1 i.2.2.2.2)
     (λi=>(d.fe.drop i.1).foldl (playRevoke d) i.2.1=d.fe.foldl (playRevoke d) (playDone Pm x)/\i.1<=d.fe.length/\zg h9 l.length b5 b8 br i.2.1 i.2.2.1 i.2.2.2.1 i.2.2.2.2/\i.2.1.shelf=aJ l/\i.2.1.signed=signed/\∀k,(mgetD i.2.1.revoked k []).length<=(mgetD P.revoked k []).length+i.1)
     (λi=>d.fe.length-i.1) (0,playDone Pm x,om,m3,Gf) rd (λw hw=>hw) ⟨rfl,zH _,own3,hPs.1,hPs.2.1,λk=>by show(mgetD Pm.revoked k []).length<=_;rw[hPs.2.2];omega⟩ ?_
    rintro⟨i,QD,oQ,mQ,GQ⟩ ⟨hfQ,hiQ,ownQ,hQs,hQg,hQc⟩ ag e5
    dsimp only at hfQ hiQ ownQ hQs hQg hQc
    show TT _ _ _ _ _ (upds e5 [(7,Q b12),(9,Q bd),(91,.slice dr.uE d.fe.length dr.uD),(92,I (d.fe.length:Int)),(93,I (i:Int))]) _ _ h9 ([zd,zi,zl,zr]++plB b5 b8 br QD oQ GQ)
    rcases kM i d.fe.length with hi|hi
    .have hgi:d.fe[i]? = some d.fe[i]:=List.getElem?_eq_getElem hi
     obtain⟨y,hy⟩:∃y,d.fe[i]=y:=⟨_,rfl⟩
     rw[hy]at hgi
     have hdrop:d.fe.drop i=y::d.fe.drop (i+1):=by rw[List.drop_eq_getElem_cons hi,hy]
     rw[hdrop,WZ]at hfQ
     obtain⟨gb,gc,G1,G2,hget,hgrow,hperm,hput⟩:=ownQ.rev.get y
     have hcy:=hQc y
     have hcP:=hcnt y
     refine sr (tO (decide_eq_true ob) U (qO 8 U (aI (tx (enc:=λy=>[I y]) (λ_ _ _ e=>e) eP ty3 (okd.fe.mono vH l79).1 (nthZ hgi) (gI hgi) U U U (λq6 B6=>?_)))))
     refine eJ ty3 B6 U (an (eY [zd] mixed kr jn (λhs16 _=>?_)))
     refine tf 0 U U (rh ty150 A79 U) (tf 1 U U (λ_ _ _=>gv U) (qB [2] U (tf 3 U U (rH 5 ty105 B79 U U) (tm 4 U (tf 5 U U (rh ty150 A79 U) (tf 6 U U (λ_ _ _=>gv U) (qB [7] U (tf 8 U U (rH 5 ty105 B79 U U) (qB [9,11] U (tf 12 U U (rj 0 ty3 U U U) ?_))))))))))
     refine nk 10 13 kr U U ?_ ?_
     .refine sJ 6 (k:=y) GF (gx nI) U ownQ.map (ft zv31) (show V3 _ (zSN) (none,0,0)from U) U U (λv hv=>?_)
      rw[hget]at hv
      obtain rfl:=hv
      refine⟨jn,(tn 13 U (bN (cells:=[I d.No]) eP ty3 zc3 U U kr (λbn=>⟨jn,?_⟩)))⟩
      let zn:Nat×Obj:=(bn,O [I d.No] 3)
      let z5:Nat×Obj:=(b5,O (QD.done.map vV) 4)
      refine tn 14 U (GV (List.Perm.append_left ([zn,zd,zi,zl,zr,z5,(b8,.cells (QD.lacks.map (zC .i64)).toArray 3 (0,0)),(br,oQ)]:LH) hperm) (eB XF [zn,zd,zi,zl,zr,z5,(b8,.cells (QD.lacks.map (zC .i64)).toArray 3 (0,0)),(br,oQ)] G2 (λG=>[zn,zd,zi,zl,zr,z5,(b8,.cells (QD.lacks.map (zC .i64)).toArray 3 (0,0)),(br,oQ)]++(G2++G)) U (λ_=>U) eP ty3 zc3 U bytes3 hgrow U U (ic 0 U (show cS jB h9 [I d.No] [d.No]from⟨[I d.No],[],U,U,U,U⟩)) (by simp only[zA,zB]at *;omega) (by simp only[zA,zB]at *;omega) (λgb' gc' G1' hG'=>⟨jn,?_⟩)))
      exact Sx
     refine bN (cells:=[I d.No]) eP ty3 zc3 U U kr (λbn=>⟨jn,?_⟩)
     let zn:Nat×Obj:=(bn,O [I d.No] 3)
     let z5:Nat×Obj:=(b5,O (QD.done.map vV) 4)
     refine tn 10 U (sJ 7 (k:=y) GF (gx nI) U ownQ.map (ft zv31) (show V3 _ (zSN) (none,0,0)from U) U U (λv hv=>?_))
     rw[hget]at hv
     obtain rfl:=hv
     refine⟨jn,(tn 14 U (GV (List.Perm.append_left ([zn,zd,zi,zl,zr,z5,(b8,.cells (QD.lacks.map (zC .i64)).toArray 3 (0,0)),(br,oQ)]:LH) hperm) (eB XF [zn,zd,zi,zl,zr,z5,(b8,.cells (QD.lacks.map (zC .i64)).toArray 3 (0,0)),(br,oQ)] G2 (λG=>[zn,zd,zi,zl,zr,z5,(b8,.cells (QD.lacks.map (zC .i64)).toArray 3 (0,0)),(br,oQ)]++(G2++G)) U (λ_=>U) eP ty3 zc3 U bytes3 hgrow U U (ic 0 U (show cS jB h9 [I d.No] [d.No]from⟨[I d.No],[],U,U,U,U⟩)) (by simp only[zA,zB]at *;omega) (by simp only[zA,zB]at *;omega) (λgb' gc' G1' hG'=>⟨jn,?_⟩))))⟩
     exact Sx
    refine sr (fO (decide_eq_false ob) U (qO 4 U ?_))
    have hie:i=d.fe.length:=by omega
    refine hx4 (QD,oQ,mQ,GQ) _ ⟨?_,ownQ,hQs,hQg,λk=>?_⟩ trivial
    .rw[hie,List.drop_length]at hfQ;exact hfQ
    have:=hQc k;show(mgetD QD.revoked k []).length<=_;omega
   rw[c1,cond_false]at hstep
   refine cu (L':=[zl,zr]++plB b5 b8 br (playDone Pm x) om Gf) js (bZ (L':=rdH VT r1 lp1 (plB b5 b8 br (playDone Pm x) om Gf++markB [])) (by simp[markB,rdH,zl,zr]) ?_)
   refine nx (playDone Pm x,om,m3,Gf,h9) _ _ ⟨?_,hPs.1,hPs.2.1,own3,h59,hin',λk=>?_⟩ lf
   .rw[←hfold,WZ,hstep]
   have:=hcnt k
   simp only[zA]at this
   show(mgetD Pm.revoked k []).length+16*rest.length<=320
   rw[hPs.2.2];omega
  rintro r1 ⟨P,om,m3,Gf,hh⟩ h7 ⟨hfold,hsh,hsgd,hown,h5h,hin,hcnt⟩ hh7 h57
  dsimp only at hfold hsh hsgd hown h5h hin hcnt hh7
  replace hown:=hown.mono hh7
  have hPl:P.signed.length=l.length:=by rw[hsgd];exact hsg
  refine qT 3 U (eJ ty150 (A7.mono h57) U (an (GK [] (plB b5 b8 br P om Gf) (markB [r1]) U hM (λh8 l8 hG=>?_))))
  have hP:P=cG l signed bq:=hfold
  have okP:=hown.lent (sq:=sr0) (sb:=co) (sc:=cn) hln (hsh▸oks.mono h57) (hsgd▸hs4.mono vH h57) l8 hG
  exact oq [r1] [Q b11] func80 U rd ⟨⟨b11,0,none⟩,playR l.length sr0 co cn b5 b8 br,U,hP▸okP,by
   rw[←hP,HL hsh hsgd hown.done hown.lacks];exact A11.mono (vA h57 l8)⟩
 rintro⟨a,b,c,d,f,g,t⟩ e2 h2 L2 hI hμ
 dsimp only at hI hμ ⊢
 have hv:=hI.1
 refine TQ (plN a b c d f g t) ?_ ?_ (λi hi o ho=>?_)
 .clear hI hμ
  revert hv
  cases a<;>cases b<;>cases c<;>cases d<;>cases f<;>cases g<;>cases t<;>intro hv<;>first|exact absurd hv (by decide)|kernel_rfl
 .clear hI
  revert hv hμ
  cases a<;>cases b<;>cases c<;>cases d<;>cases f<;>cases g<;>cases t<;>intro hμ hv<;>first|exact absurd hv (by decide)|exact absurd rfl hμ|decide
 rcases T7 hi with⟨rfl,rfl⟩|⟨rfl,rfl⟩|⟨rfl,rfl⟩|⟨rfl,rfl⟩|⟨rfl,ha,rfl⟩|⟨rfl,rfl,rfl⟩|⟨rfl,rfl⟩|⟨rfl,rfl,rfl,rfl,rfl,rfl,rfl⟩
 .obtain rfl:=Option.some.inj (show some _=some o from ho)
  exact XS (λ_ _ _ q=>⟨q.1,(true,b,c,d,f,g,t),by simp only[plM,cond_true,cond_false];omega,pmid (pmid (pmid (pmid (pmid (pmid (List.Perm.refl _)))))),q.2⟩) (V2 (hl.mono ao.aD l1) hI)
 .obtain rfl:=Option.some.inj (show some _=some o from ho)
  exact XS (λ_ _ _ q=>⟨q.1,(a,true,c,d,f,g,t),by simp only[plM,cond_true,cond_false];omega,pmid (pmid (pmid (pmid (pmid (List.Perm.refl _))))),q.2⟩) (V1 hln hI)
 .obtain rfl:=Option.some.inj (show some _=some o from ho)
  exact XS (λ_ _ _ q=>⟨q.1,(a,b,true,d,f,g,t),by simp only[plM,cond_true,cond_false];omega,pmid (pmid (pmid (pmid (List.Perm.refl _)))),q.2⟩) (V0 hln hI)
 .obtain rfl:=Option.some.inj (show some _=some o from ho)
  exact XS (λ_ _ _ q=>⟨q.1,(a,b,c,true,f,g,t),by simp only[plM,cond_true,cond_false];omega,pmid (pmid (pmid (List.Perm.refl _))),q.2⟩) (VZ hI)
 .obtain rfl:=Option.some.inj (show some _=some o from ho)
  exact XS (λ_ _ _ q=>⟨q.1,(a,b,c,d,f,true,t),by simp only[plM,cond_true,cond_false];omega,pmid (List.Perm.refl _),q.2⟩) (VG ha hI)
 .obtain rfl:=Option.some.inj (show some _=some o from ho)
  exact XS (λ_ _ _ q=>⟨q.1,(a,b,c,d,f,true,true),by simp only[plM,cond_true,cond_false],List.Perm.refl _,q.2⟩) (VF hI)
 .obtain rfl:=Option.some.inj (show some _=some o from ho)
  exact XS (λ_ _ _ q=>⟨q.1,(a,b,c,d,true,g,t),by simp only[plM,cond_true,cond_false];omega,pmid (pmid (List.Perm.refl _)),q.2⟩) (VE hI)
 exact absurd U hμ
theorem pg(h l fo fm signed co cn bq)(hl:SlC ao.rp h fo fm l)(eN:SlC jB h co cn signed)(hln:l.length<20):j6 prog 27 [.slice fo l.length fm,.slice co signed.length cn,I bq] h (λv h'=>∃(rb0:Option Addr)(rc0:Nat),v=.tuple #[.slice rb0 ((bD l signed bq).1).length rc0,I ((bD l signed bq).2)]/\SlC jB h' rb0 rc0 ((bD l signed bq).1)):=by
 refine sT func27 U ntmps27 U λX hM hX hF=>?_
 have hs0:=@rfl _ (bD l signed bq)
 refine qT 9 U (aS call77 (qh _ _ _ _ hl) U (qO 7 U (aH hs0 U (λc1 hs1=>?_) (λc1 hs2=>?_))))
 .refine qT 6 U ?_
  have hs3:bD l signed bq=([],(aZ l)):=hs1
  exact nretH [zSN,I (aZ l)] (hs3▸⟨none,0,U,zG⟩)
 refine qT 6 U (aS call78 (rV _ _ _ _ _ _ _ hl eN) U (qO 2 U (gy 4 [23,24,25,26,27] 23 27 (!(jt bq)) U (λc2 hk1=>?_) (λe=>?_))))
 .exact bp (aS call79 (rI h bq) U (qO 2 U (hk1 _ U)))
 refine bo (aH hs2 U (λc3 hs4=>?_) (λc3 hs5=>?_))
 .refine qT 5 U ?_
  have hs6:bD l signed bq=([],1):=hs4
  exact nretH [zSN,I 1] (hs6▸⟨none,0,U,zG⟩)
 refine qT 6 U (aI (cx call80 (tT _ _ _ _ _ _ _ bq hl eN (by simpa using c1) (Dj ob) hln) U (λv1 h1 hle1 hp1=>?_)))
 obtain⟨q1,rr1,rfl,ok1,A1⟩:=hp1
 refine qL 9 [] U ?_
 refine lp2 l (λi w=>[(2,I bq),(6,.slice w.2.1 w.1.length w.2.2.1),(9,.pointer (some q1)),(32,.slice fo l.length fm),(33,I (l.length:Int)),(34,I (i:Int))]) (λ_=>h1) (λw=>w.2.2.2) (λi w=>cN jB 3 h1 w.1 w.2.1 w.2.2.1 w.2.2.2/\w.1.length<=0+i) (λs1 i w=>(bD.L1 l signed bq (bD.K1)) s1 i w.1) ([],none,0,[]) ((hl.mono ao.aD hle1).1.1) hs5 ⟨cN.nil,lo⟩ ?_ ?_
 .rintro i1 ⟨uo,P8,P7,NI⟩ iP hs7 ⟨Kv,SS⟩ e
  try dsimp only at Kv SS
  refine qT 6 U (fQ vH ([]) NI ([]) ap hM Kv (λh3 hle3 sl2=>?_))
  have hs8:bD l signed bq=(uo,0):=hs7
  exact nretH [.slice P8 uo.length P7,I 0] (hs8▸⟨P8,P7,U,sl2⟩)
 rintro i1 ⟨uo,P8,P7,NI⟩ y1 rz1 hd1 fY dz iT mF hs9 ⟨Kv,SS⟩ hx1 ag1 e
 try dsimp only at Kv SS
 refine sr (tO fY U (qO 9 U (aI (iR xh ty54 (hl.mono ao.aD hle1).1 dz U U U (λ_ _ _ e=>e) (λq3 r2 A3 ok3=>eU ty54 A3 U U (bH zc54 (λb3=>iu (bE 0 ty54 U U U U U U (jm (L':=[(b3,O (ao.cells y1 r2) 54)]++(NI)) U (qO 6 U (aS call81 (nE h1 (cG l signed bq) rr1 q1 (i1:Int) bq ok1 A1 (by first|exact Kg ob|(rw[wp];omega)) (Fi _ _ _)) U (qO 11 U (aH hs9 U (λc5 hs10=>?_) (λc5 hs11=>?_))))))))))))))
 .exact qK 4 [0] U (aI (bN (cells:=[I y1.No]) eP ty3 zc3 U U kr (λb4=>aI (eB XF ([(b4,O [I y1.No] 3),(b3,O (ao.cells y1 r2) 54)]) ([]) (λG=>[(b4,O [I y1.No] 3),(b3,O (ao.cells y1 r2) 54)]++G) ap (λ_=>ap) eP ty3 zc3 U bytes3 Kv U U (ic 0 U (cE (y1.No) U U)) lo lo (λob2 oc2 G2 gr2=>qO 4 U (oi i1 U (qO 2 U (cu (L':=G2) js (ag1 ((uo++[y1.No]),ob2,oc2,G2) hs10 ⟨gr2,lo⟩)))))))))
 exact bL (qT 2 U (oi i1 U (qO 2 U (cu (L':=NI) js (ag1 (uo,P8,P7,NI) hs11 ⟨Kv,lo⟩)))))
theorem Gg(h u ql qj)(hu:SlC XC h ql qj u):Ret prog 82 [.slice ql u.length qj] h (.bool (iC u)):=by
 refine sT func82 U ntmps82 U λX hM hX hF=>?_
 have hs0:=@rfl _ (iC u)
 refine qT 6 U (aI (pq (λb1=>qL 9 [] U ?_)))
 refine lp2 u (λi w=>[(3,.map (some b1)),(7,.slice ql u.length qj),(8,I (u.length:Int)),(9,I (i:Int))]) (λ_=>h) (λw=>[(b1,w.2)]) (λi w=>lr (zC .i64) rZ h w.2 w.1/\w.1.length<=0+i) (λs1 i w=>(iC.L1 (iC.K1)) s1 w.1) ([],.map #[] 0) hu.1.1 hs0 ⟨(lr.nil (enc:=(zC .i64)) (V:=rZ) (h:=h)),lc⟩ ?_ ?_
 .rintro i1 ⟨aX,jr⟩ iP hs1 ⟨ff,pd⟩ e
  exact sr (an (nretP [.bool true] (cs hs1)))
 rintro i1 ⟨aX,jr⟩ y1 rz1 hd1 fY dz iT mF hs3 ⟨ff,pd⟩ hx1 ag1 e
 refine sr (tO fY U (qO 8 U (aI (iF Xm JU ty223 hu.1 dz U U U (λq2 A2=>eU ty223 A2 U U (bH zc223 (λb4=>bE 0 ty223 U U U U U U (qL 7 [0] U (aI (sJ 1 (k:=y1.Doc) RF (gx nI) U ff (ft zv4) (show rZ _ (.bool false) false from U) U U (λv2 hv2=>?_)))))))))))
 obtain rfl:=hv2
 refine bp (gy 6 [17,18,19,20,21,22,23] 17 23 (!(cg 0 4095 ([y1.Doc]))) U (λc1 hk1=>?_) (λe=>?_))
 .refine qL 2 [0] U (aI (bN (cells:=[I y1.Doc]) eP ty3 zc3 U U kr (λb5=>cz 0 U hM (λh2 hle2 hb2=>?_))))
  have sl2:SlC jB h2 (zAD b5) 1 ([y1.Doc]):=cS.slB0 (T:=3) (fz:=(0,0)) ((show cS jB h [I y1.Doc] ([y1.Doc])from⟨[I y1.Doc],[],rfl,rfl,rfl,rfl⟩).mono vH hle2) hb2
  exact aS Dc (iL _ 0 4095 _ _ _ sl2) U (qO 2 U (tZ (h:=h) hle2 hX lf (hk1 _ U)))
 refine bp (gy 6 [24,25,26,27,28,29,30] 24 30 (!(cg 0 15 ([y1.Kind]))) U (λc2 hk2=>?_) (λe=>?_))
 .refine qL 2 [0] U (aI (bN (cells:=[I y1.Kind]) eP ty3 zc3 U U kr (λb6=>cz 0 U hM (λh3 hle3 hb3=>?_))))
  have sl3:SlC jB h3 (zAD b6) 1 ([y1.Kind]):=cS.slB0 (T:=3) (fz:=(0,0)) ((show cS jB h [I y1.Kind] ([y1.Kind])from⟨[I y1.Kind],[],rfl,rfl,rfl,rfl⟩).mono vH hle3) hb3
  exact aS Dc (iL _ 0 15 _ _ _ sl3) U (qO 2 U (tZ (h:=h) hle3 hX lf (hk2 _ U)))
 refine bp (gy 6 [31,32,33,34,35,36,37] 31 37 (!(cg 0 1099511627776 ([y1.Value]))) U (λc3 hk3=>?_) (λe=>?_))
 .refine qL 2 [0] U (aI (bN (cells:=[I y1.Value]) eP ty3 zc3 U U kr (λb7=>cz 0 U hM (λh4 hle4 hb4=>?_))))
  have sl4:SlC jB h4 (zAD b7) 1 ([y1.Value]):=cS.slB0 (T:=3) (fz:=(0,0)) ((show cS jB h [I y1.Value] ([y1.Value])from⟨[I y1.Value],[],rfl,rfl,rfl,rfl⟩).mono vH hle4) hb4
  exact aS Dc (iL _ 0 1099511627776 _ _ _ sl4) U (qO 2 U (tZ (h:=h) hle4 hX lf (hk3 _ U)))
 refine bp (gy 8 [38,39,40,41,42,43,44,45,46] 38 46 (!(cg 0 1099511627775 ([y1.At,y1.dY]))) U (λc4 hk4=>?_) (λe=>?_))
 .refine qL 4 [0,0] U (aI (bN (cells:=[I y1.At,I y1.dY]) eP ty3 zc3 U U kr (λb8=>cz 0 U hM (λh5 hle5 hb5=>?_))))
  have sl5:SlC jB h5 (zAD b8) 2 ([y1.At,y1.dY]):=cS.slB0 (T:=3) (fz:=(0,0)) ((show cS jB h [I y1.At,I y1.dY] ([y1.At,y1.dY])from⟨[I y1.At],[I y1.dY],rfl,rfl,rfl,⟨[I y1.dY],[],rfl,rfl,rfl,rfl⟩⟩).mono vH hle5) hb5
  exact aS Dc (iL _ 0 1099511627775 _ _ _ sl5) U (qO 2 U (tZ (h:=h) hle5 hX lf (hk4 _ U)))
 refine bo (aH hs3 U (λc5 hs4=>?_) (λc5 hs5=>?_))
 .exact sr (an (nretP [.bool false] (cs hs4)))
 exact qK 5 [0] U (aI (mS 1 (k:=y1.Doc) (x:=true) RF (gx nI) U ff U U U (λmo1 hm1=>qO 3 U (oi i1 U (qO 2 U (cu (L':=[(b1,mo1)]) js (ag1 ((mput aX y1.Doc true),mo1) hs5 ⟨hm1,(by have:=ox aX y1.Doc true;first|omega|(simp only[zB,zA]at *;omega))⟩)))))))
theorem tU(h l fo fm kind bq ah)(hl:SlC zR h fo fm l)(hsz0:l.length<=2000000):j6 prog 84 [.slice fo l.length fm,I kind,I bq,I ah] h (λv h'=>∃(rb0:Option Addr)(rc0:Nat),v=.slice rb0 (ba l kind bq ah).length rc0/\SlC zR h' rb0 rc0 (ba l kind bq ah)):=by
 refine sT func84 U ntmps84 U λX hM hX hF=>?_
 have hs0:=@rfl _ (ba l kind bq ah)
 refine qT 6 U (aI (pq (λb1=>qL 9 [] U ?_)))
 refine lp2 l (λi w=>[(0,.slice fo l.length fm),(1,I kind),(2,I bq),(3,I ah),(8,zSN),(9,.map (some b1)),(18,.slice fo l.length fm),(19,I (l.length:Int)),(20,I (i:Int))]) (λ_=>h) (λw=>[(b1,w.2)]) (λi w=>lr gl.enc (ku zR) h w.2 w.1/\w.1.length<=0+i) (λs1 i w=>(ba.L1 kind bq ah (ba.K1 l)) s1 w.1) ([],.map #[] 0) hl.1.1 hs0 ⟨(lr.nil (enc:=gl.enc) (V:=(ku zR)) (h:=h)),lc⟩ ?_ ?_
 .rintro i1 ⟨aX,jr⟩ iP hs1 ⟨ff,pd⟩ e
  try dsimp only at ff pd
  refine qK 7 [] U ?_
  refine lp2 l (λi w=>[(8,.slice w.2.1 w.1.length w.2.2.1),(9,.map (some b1)),(69,.slice fo l.length fm),(70,I (l.length:Int)),(71,I (i:Int))]) (λ_=>h) (λw=>[(b1,jr)]++(w.2.2.2)) (λi w=>cN zR 73 h w.1 w.2.1 w.2.2.1 w.2.2.2/\w.1.length<=0+i) (λs2 i w=>(ba.L2 aX (ba.K2)) s2 w.1) ([],none,0,[]) hl.1.1 hs1 ⟨cN.nil,lo⟩ ?_ ?_
  .rintro i2 ⟨mG,qy,qw,pF⟩ DP hs2 ⟨rB,Io⟩ e
   try dsimp only at rB Io
   refine qT 5 U (fQ Yg ([(b1,jr)]) pF ([]) ap hM rB (λh1 hle1 sl1=>?_))
   have hs3:ba l kind bq ah=mG:=hs2
   exact nretH [.slice qy mG.length qw] ⟨qy,qw,congrArg (λr:List Budget=>(.slice qy r.length qw:Value)) hs3.symm,(by rw[hs3];exact sl1)⟩
  rintro i2 ⟨mG,qy,qw,pF⟩ y2 rz2 hd2 zy tR Ib OP hs4 ⟨rB,Io⟩ hx2 ag1 e
  try dsimp only at rB Io
  refine sr (tO zy U (qO 8 U (aI (iF xM Dd ty73 hl.1 tR U U U (λq3 A3=>eU ty73 A3 U U (bH zc73 (λb4=>bE 0 ty73 U U U U U U (jm (L':=[(b4,O (xM y2) 73),(b1,jr)]++(pF)) U (qO 2 U ?_)))))))))
  refine Cs [(8,.slice qy mG.length qw),(9,.map (some b1)),(16,Q b4),(69,.slice fo l.length fm),(70,I (l.length:Int)),(71,I (i2:Int)),(88,.bool ((!y2.nj)&&(decide ((mgetD aX (gl.mk y2.Kind y2.e8) (Xo 0 0 0 0 0 0 0 false))=y2))))] (λe=>?_) (λhk1=>?_)
  rotate_left
  .let z2:Nat×Obj:=(b4,O (xM y2) 73)
   refine eY ([z2,(b1,jr)]) mixed kr jn (λgK _=>?_)
   refine qB [0] U (tf 1 U U (rj 0 ty4 U U U) (qA [2,3] U ?_))
   refine fE 78 U (λc1=>?_) (λc1=>?_)
   .refine qB [4,5] U (tf 6 U U (rj 0 ty3 U U U) (qB [7] U (tf 8 U U (rj 0 ty3 U U U) (tf 11 U U (λ_ _ hj=>lO ty73 U (hj.nth (i:=0) U) U) (tn 9 U (ie (cells:=[I y2.Kind,I y2.e8]) (places:=[(0,1),(1,1)]) Pw zc226 kr kr (⟨jn,tn 10 U (sJ 1 (k:=(gl.mk y2.Kind y2.e8)) underlying224 AG U ff (ft zv73) (show(ku zR) _ (.agg (xB [I 0,I 0,I 0,I 0,I 0,I 0,I 0,.bool false])) (Xo 0 0 0 0 0 0 0 false)from⟨_,U,U⟩) U U (λv2 hv2=>?_))⟩)))))))
    obtain⟨_,rfl,rfl⟩:=hv2
    exact⟨jn,(tf 12 U U (λ_ _ _=>MU (OZ (mgetD aX (gl.mk y2.Kind y2.e8) (Xo 0 0 0 0 0 0 0 false)) y2) eqg73 U U) (qA [13] U (bO kr (hk1 _ ⟨U,U,U,U,U,U,(cb (show(decide ((mgetD aX (gl.mk y2.Kind y2.e8) (Xo 0 0 0 0 0 0 0 false))=y2))=((!y2.nj)&&(decide ((mgetD aX (gl.mk y2.Kind y2.e8) (Xo 0 0 0 0 0 0 0 false))=y2)))from by rw[c1]<;>rfl)),trivial⟩))))⟩
   exact tk 4 U U (qR 5 9 U (bO kr (hk1 _ ⟨U,U,U,U,U,U,(cb (show false=((!y2.nj)&&(decide ((mgetD aX (gl.mk y2.Kind y2.e8) (Xo 0 0 0 0 0 0 0 false))=y2)))from by rw[c1]<;>rfl)),trivial⟩)))
  refine aH hs4 U (λc2 hs5=>?_) (λc2 hs6=>?_)
  .refine qT 2 U (dy 0 ty73 U U U (aI (bN (cells:=[I y2.No,I y2.At,I y2.dY,I y2.Kind,I y2.e8,I y2.Count,I y2.Value,.bool y2.nj]) Dd ty73 zc73 U U kr (λb5=>?_))))
   let z1:Nat×Obj:=(b5,O [I y2.No,I y2.At,I y2.dY,I y2.Kind,I y2.e8,I y2.Count,I y2.Value,.bool y2.nj] 73)
   exact aI (eB Budget.dg ([z1,(b4,O (xM y2) 73),(b1,jr)]) ([]) (λG=>[z1,(b4,O (xM y2) 73),(b1,jr)]++G) ap (λ_=>ap) Dd ty73 zc73 U bytes73 rB U U (ic 0 U (cE y2 U U)) lo lo (λob1 oc1 G1 gr1=>qO 4 U (oi i2 U (qO 2 U (cu (L':=[(b1,jr)]++G1) js (ag1 ((mG++[y2]),ob1,oc1,G1) hs5 ⟨gr1,lo⟩))))))
  exact bL (qT 2 U (oi i2 U (qO 2 U (cu (L':=[(b1,jr)]++(pF)) js (ag1 (mG,qy,qw,pF) hs6 ⟨rB,lo⟩)))))
 rintro i1 ⟨aX,jr⟩ y1 rz1 hd1 fY dz iT mF hs7 ⟨ff,pd⟩ hx1 ag2 e
 try dsimp only at ff pd
 refine sr (tO fY U (qO 8 U (aI (iF xM Dd ty73 hl.1 dz U U U (λq4 A4=>eU ty73 A4 U U (bH zc73 (λb6=>bE 0 ty73 U U U U U U (qL 9 [0] U (gy 5 [28,29,30,31,32,33] 28 33 (decide (ah<y1.dY)) U (λc3 hk2=>?_) (λe=>?_))))))))))
 .exact qL 5 [0] U (hk2 _ U)
 refine bp (gy 10 [34,35,36,37,38,39,40,41,42,43,44] 34 44 ((y1.Kind != (-1))&&(y1.Kind != kind)) U (λc4 hk3=>?_) (λe=>?_))
 .refine qL 4 [0] U (kI 5 [38,39,40,41,42,43] 38 43 (y1.Kind != kind) U (λc5 hk4=>?_) (λe=>?_))
  .exact qL 5 [0] U (hk4 _ U)
  exact mY U (hk3 _ U)
 refine bo (aH hs7 U (λc6 hs8=>?_) (λc6 hs9=>?_))
 .exact kW U (bJ (oi i1 U (qO 2 U (cu (L':=[(b1,jr)]) js (ag2 (aX,jr) hs8 ⟨ff,lc⟩)))))
 refine qK 7 [0,0] U (aI (ie (cells:=[I y1.Kind,I y1.e8]) (places:=[(0,1),(1,1)]) Pw zc226 kr kr (bH zc226 (λb7=>bE 0 ty226 U U U U U U (qO 4 U (dy 0 ty226 U U U (aI (mT 2 (k:=(gl.mk y1.Kind y1.e8)) underlying224 AG U ff (ft zv73) (show(ku zR) _ (.agg (xB [I 0,I 0,I 0,I 0,I 0,I 0,I 0,.bool false])) (Xo 0 0 0 0 0 0 0 false)from⟨_,U,U⟩) U U (λv3 hv3=>?_)))))))))
 obtain⟨_,rfl,rfl⟩:=hv3
 refine qO 3 U (bH zc73 (λb8=>bE 0 ty73 U U U U U U (qO 7 U (gy 6 [58,59,60,61,62,63,64] 58 64 (decide ((mgetD aX (gl.mk y1.Kind y1.e8) (Xo 0 0 0 0 0 0 0 false)).At<=y1.At)) U (λc7 hk5=>?_) (λe=>?_)))))
 .exact qL 6 [0,2] U (hk5 _ U)
 refine bo (aH hs9 U (λc8 hs10=>?_) (λc8 hs11=>?_))
 .exact bJ (bp (dy 1 ty226 U U U (dy 2 ty73 U U U (aI (mS 3 (k:=(gl.mk y1.Kind y1.e8)) (x:=y1) underlying224 AG U ff U U ⟨_,U,U⟩ (λmo1 hm1=>qO 3 U (oi i1 U (qO 2 U (cu (L':=[(b1,mo1)]) js (ag2 ((mput aX (gl.mk y1.Kind y1.e8) y1),mo1) hs10 ⟨hm1,(by have:=ox aX (gl.mk y1.Kind y1.e8) y1;first|omega|(simp only[zB,zA]at *;omega))⟩))))))))))
 exact bL (qT 2 U (oi i1 U (qO 2 U (cu (L':=[(b1,jr)]) js (ag2 (aX,jr) hs11 ⟨ff,lc⟩)))))
theorem PW(h:p:=by
  have hs7:=hs3.trans (congrArg (dn1++·) (bt ct3))
  refine qB [29,30] U (tf 31 U U (rj 0 ty3 U U U) ?_)
  have hx2:ej u ah bg at_=dn1++(y1.Value::(ej.L1 ah bg at_ (ej.K1) rz1)):=hs7
  refine tn 32 U (mq ([z1]) A1_ ap (hy dn1 y1.Value _ _ _ _ hx2 hl1 hC1_ U) U U (λh5 A6 hle4 hC2=>?_) (λh6 A7 hle5 hS2=>?_) (λch2 h7 A8 hle6 hP2 e=>iY (oJ [] (A:=A8) Mm (List.sublist_append_right _ _) hP2)))
  .have hs8:ej u ah bg at_=(dn1++[y1.Value])++((ej.L1 ah bg at_ (ej.K1) rz1)):=hx2.trans ap
   exact⟨⟨hle4,λ_ hp=>List.Sublist.subset js hp⟩,qm (K2:=[z1]) hle4 (λ_ hp=>hp) (qA [33,34] U (bO kr (qT 4 U (oi i1 U (qO 2 U (cu (L':=A6) js (ag1 ((dn1++[y1.Value]),A6,h5) hs8 ⟨hC2,(hl1.t hle4)⟩)))))))⟩
  exact⟨⟨hle5,λ_ hp=>List.Sublist.subset js hp⟩,qm (K2:=[z1]) hle5 (λ_ hp=>hp) (qA [33,34] U (bO kr (mC U (dR (n8 [] (A:=A7) Mm U js (.inr hS2))))))⟩):p:=h
theorem PV(h:p:=by
  refine fE 42 U (λc5=>?_) (λc5=>?_)
  .have ct3:=c5
   exact PW
  have ct4:=c5
  have hs9:=hs3.trans (congrArg (dn1++·) (bf ct4))
  exact tk 29 U U (qR 30 5 U (bO kr (qT 4 U (oi i1 U (qO 2 U (cu (L':=A1_) js (ag1 (dn1,A1_,hh1) hs9 ⟨hC1_,hl1⟩)))))))):p:=h
theorem Ei(h u ql qj u_q ah known_q)(bg:Budget)(bg_q at_ at__q)(hu:SlC XC h ql qj u)(au:At h u_q [.slice ql u.length qj])(aknown:At h known_q [I ah])(abg:At h bg_q (xM bg))(aat_:At h at__q [I at_])(hbp:bg.e8≠0):Itr prog (.func (.func 155) #[] (xB [.pointer (some u_q),.pointer (some known_q),.pointer (some bg_q),.pointer (some at__q)])) sC (ej u ah bg at_) h:=by
 refine sj call155 ?_
 intro yf ya yb C Sp Pn h1 A de m1 m2 m3 hC hy
 refine j1 Mm U ntmps155 U λX hXM hX=>?_
 have hs0:ej u ah bg at_=[]++ej u ah bg at_:=rfl
 refine sr (eJ ty32 (au.mono de) U (qL 3 [] U ?_))
 refine lp2 u (λi w=>[(0,.func yf ya yb),(2,.pointer (some known_q)),(3,.pointer (some bg_q)),(4,.pointer (some at__q)),(8,.slice ql u.length qj),(9,I (u.length:Int)),(10,I (i:Int))]) (λw=>w.2.2) (λw=>w.2.1) (λi w=>C w.1 w.2.2 w.2.1/\xJ h1 w.2.2) (λs1 i w=>w.1++(ej.L1 ah bg at_ (ej.K1)) s1) ([],A,h1) ((hu.mono Yf de).1.1) hs0 ⟨hC,lf⟩ ?_ ?_
 .rintro i1 ⟨dn1,A1_,hh1⟩ iP hs1 ⟨hC1_,hl1⟩ e
  refine dR ?_
  have hs2:ej u ah bg at_=dn1:=hs1.trans (List.append_nil _)
  exact sk [] (A:=A1_) Mm U (List.Sublist.refl _) (.inl (hs2▸hC1_))
 rintro i1 ⟨dn1,A1_,hh1⟩ y1 rz1 hd1 fY dz iT mF hs3 ⟨hC1_,hl1⟩ hx1 ag1 e
 refine sr (tO fY U (qO 8 U (aI (iF Xm JU ty223 (hu.mono Yf (de.t hl1)).1 dz U U U (λq2 A2=>eU ty223 A2 U U (bH zc223 (λb2=>bE 0 ty223 U U U U U U (jm (L':=[(b2,O (Xm y1) 223)]++(A1_)) U (qO 2 U ?_)))))))))
 let z1:Nat×Obj:=(b2,O (Xm y1) 223)
 refine eY ([z1]) mixed kr jn (λgK _=>?_)
 refine qB [0] U (tf 1 U U (rj 0 ty3 U U U) (tf 2 U U (rh ty3 (aknown.mono (de.t hl1)) U) (qA [3,4] U ?_)))
 refine fE 18 U (λc1=>?_) (λc1=>?_)
 .have c1p:=of_decide_eq_true c1
  refine qB [5] U (tf 6 U U (rH 3 ty3 (abg.mono (de.t hl1)) U U) (qA [7,8] U ?_))
  refine fE 22 U (λc2=>?_) (λc2=>?_)
  .refine qD 9 9 U (tf 18 U U (rj 0 ty3 U U U) (qB [19] U (tf 20 U U (rH 4 ty3 (abg.mono (de.t hl1)) U U) (tf 21 U U (λ_ _ _=>Ff U U ob) (tf 22 U U (rh ty3 (aat_.mono (de.t hl1)) U) (qB [23] U (tf 24 U U (rH 4 ty3 (abg.mono (de.t hl1)) U U) (tf 25 U U (λ_ _ _=>Ff U U ob) (qA [26] U (tf 27 U U (λ_ _ _=>px U (cb (show((kB .i64 (y1.At.tdiv bg.e8))==(kB .i64 (at_.tdiv bg.e8)))=((decide (y1.dY<=ah)&&((bg.Kind==(-1))||(bg.Kind==y1.Kind)))&&((kB .i64 (y1.At.tdiv bg.e8))==(kB .i64 (at_.tdiv bg.e8))))from by first|(rw[c1];rw[c2];rfl)|(rw[c2];rfl)|simp[c1,c2]))) (tm 28 U ?_)))))))))))
   refine fE 42 U (λc3=>?_) (λc3=>?_)
   .have ct1:=c3
    have hs4:=hs3.trans (congrArg (dn1++·) (bt ct1))
    refine qB [29,30] U (tf 31 U U (rj 0 ty3 U U U) ?_)
    have hx1:ej u ah bg at_=dn1++(y1.Value::(ej.L1 ah bg at_ (ej.K1) rz1)):=hs4
    refine tn 32 U (mq ([z1]) A1_ ap (hy dn1 y1.Value _ _ _ _ hx1 hl1 hC1_ U) U U (λh2 A3 hle1 hC1=>?_) (λh3 A4 hle2 hS1=>?_) (λch1 h4 A5 hle3 hP1 e=>iY (oJ [] (A:=A5) Mm (List.sublist_append_right _ _) hP1)))
    .have hs5:ej u ah bg at_=(dn1++[y1.Value])++((ej.L1 ah bg at_ (ej.K1) rz1)):=hx1.trans ap
     exact⟨⟨hle1,λ_ hp=>List.Sublist.subset js hp⟩,qm (K2:=[z1]) hle1 (λ_ hp=>hp) (qA [33,34] U (bO kr (qT 4 U (oi i1 U (qO 2 U (cu (L':=A3) js (ag1 ((dn1++[y1.Value]),A3,h2) hs5 ⟨hC1,(hl1.t hle1)⟩)))))))⟩
    exact⟨⟨hle2,λ_ hp=>List.Sublist.subset js hp⟩,qm (K2:=[z1]) hle2 (λ_ hp=>hp) (qA [33,34] U (bO kr (mC U (dR (n8 [] (A:=A4) Mm U js (.inr hS1))))))⟩
   have ct2:=c3
   have hs6:=hs3.trans (congrArg (dn1++·) (bf ct2))
   exact tk 29 U U (qR 30 5 U (bO kr (qT 4 U (oi i1 U (qO 2 U (cu (L':=A1_) js (ag1 (dn1,A1_,hh1) hs6 ⟨hC1_,hl1⟩)))))))
  refine qB [9] U (tf 10 U U (rH 3 ty3 (abg.mono (de.t hl1)) U U) (qB [11] U (tf 12 U U (rj 0 ty3 U U U) (qR 13 4 U ?_))))
  refine fE 30 U (λc4=>?_) (λc4=>?_)
  .refine qB [17] U (tf 18 U U (rj 0 ty3 U U U) (qB [19] U (tf 20 U U (rH 4 ty3 (abg.mono (de.t hl1)) U U) (tf 21 U U (λ_ _ _=>Ff U U ob) (tf 22 U U (rh ty3 (aat_.mono (de.t hl1)) U) (qB [23] U (tf 24 U U (rH 4 ty3 (abg.mono (de.t hl1)) U U) (tf 25 U U (λ_ _ _=>Ff U U ob) (qA [26] U (tf 27 U U (λ_ _ _=>px U (cb (show((kB .i64 (y1.At.tdiv bg.e8))==(kB .i64 (at_.tdiv bg.e8)))=((decide (y1.dY<=ah)&&((bg.Kind==(-1))||(bg.Kind==y1.Kind)))&&((kB .i64 (y1.At.tdiv bg.e8))==(kB .i64 (at_.tdiv bg.e8))))from by first|(rw[c1];rw[c2];rw[c4];rfl)|(rw[c4];rfl)|simp[c1,c2,c4]))) (tm 28 U ?_)))))))))))
   exact PV
  refine qR 17 10 U (tf 27 U U (λ_ _ _=>px U (cb (show false=((decide (y1.dY<=ah)&&((bg.Kind==(-1))||(bg.Kind==y1.Kind)))&&((kB .i64 (y1.At.tdiv bg.e8))==(kB .i64 (at_.tdiv bg.e8))))from by first|(rw[c1];rw[c2];rw[c4];rfl)|(rw[c4];rfl)|simp[c1,c2,c4]))) (tm 28 U ?_))
  exact PV
 have c1p:=of_decide_eq_false c1
 refine qR 5 22 U (tf 27 U U (λ_ _ _=>px U (cb (show false=((decide (y1.dY<=ah)&&((bg.Kind==(-1))||(bg.Kind==y1.Kind)))&&((kB .i64 (y1.At.tdiv bg.e8))==(kB .i64 (at_.tdiv bg.e8))))from by first|(rw[c1];rfl)|(rw[c1];rfl)|simp[c1]))) (tm 28 U ?_))
 refine fE 42 U (λc7=>?_) (λc7=>?_)
 .have ct3:=c7
  exact PW
 have ct8:=c7
 have hs15:=hs3.trans (congrArg (dn1++·) (bf ct8))
 exact tk 29 U U (qR 30 5 U (bO kr (qT 4 U (oi i1 U (qO 2 U (cu (L':=A1_) js (ag1 (dn1,A1_,hh1) hs15 ⟨hC1_,hl1⟩)))))))
instance kI155:CtI 155:=⟨_,@Ei⟩
theorem Gh(h)(Ma:Budget)(u ql qj bq ah)(hu:SlC XC h ql qj u)(hbp:Ma.e8≠0):j6 prog 85 [.agg (xM Ma).toArray,.slice ql u.length qj,I bq,I ah] h (λv h'=>∃(rv0:Value),v=rv0/\Itr prog rv0 sC (ut Ma u bq ah) h'):=by
 refine sT func85 U ntmps85 U λX hM hX hF=>?_
 generalize hz:(ut Ma u bq ah)=z;have hs:=hz.symm
 exact W
theorem tE(h l fo fm u ql qj kind value cy ah)(hl:SlC zR h fo fm l)(hu:SlC XC h ql qj u)(hsz:l.length<=2000000):Ret prog 28 [.slice fo l.length fm,.slice ql u.length qj,I kind,I value,I cy,I ah] h (.tuple #[I ((bM l u kind value cy ah).1),.bool ((bM l u kind value cy ah).2.1),I ((bM l u kind value cy ah).2.2)]):=by
 refine cX GE U ntmps28 U λX hM hX=>?_
 have hs0:=@rfl _ (bM l u kind value cy ah)
 refine qT 10 U (aS call75 (so _ _ _ _ hl) U (qO 7 U (aH hs0 U (λc1 hs1=>?_) (λc1 hs2=>?_))))
 .refine qT 7 U ?_
  have hs3:bM l u kind value cy ah=(0,false,(bX l)):=hs1
  exact wd [I 0,.bool false,I (bX l)] GE U hX rd (congrArg (λr:(Int×Bool×Int)=>(.tuple #[I r.1,.bool r.2.1,I r.2.2]:Value)) hs3.symm)
 refine qK 8 [] U (aH hs2 U (λc2 hs4=>?_) (λc2 hs5=>?_))
 .have c2p:=of_decide_eq_true c2
  refine qT 6 U ?_
  have hs6:bM l u kind value cy ah=(0,false,2):=hs4
  exact wd [I 0,.bool false,I 2] GE U hX rd (congrArg (λr:(Int×Bool×Int)=>(.tuple #[I r.1,.bool r.2.1,I r.2.2]:Value)) hs6.symm)
 have c2p:=of_decide_eq_false c2
 refine qT 5 U (aS call82 (Gg _ _ _ _ hu) U (qO 2 U (aH hs5 U (λc3 hs7=>?_) (λc3 hs8=>?_))))
 .refine qT 6 U ?_
  have hs9:bM l u kind value cy ah=(0,false,180):=hs7
  exact wd [I 0,.bool false,I 180] GE U hX rd (congrArg (λr:(Int×Bool×Int)=>(.tuple #[I r.1,.bool r.2.1,I r.2.2]:Value)) hs9.symm)
 refine qT 5 U (aI (bN (cells:=[I kind]) eP ty3 zc3 U U kr (λb1=>cz 0 U hM (λh1 hle1 hb1=>?_))))
 have sl1:SlC jB h1 (zAD b1) 1 ([kind]):=cS.slB0 (T:=3) (fz:=(0,0)) ((show cS jB h [I kind] ([kind])from⟨[I kind],[],rfl,rfl,rfl,rfl⟩).mono vH hle1) hb1
 refine aS Dc (iL _ 0 15 _ _ _ sl1) U (qO 2 U (gy 5 [36,37,38,39,40,41] 36 41 (!(cg 0 1099511627776 ([value]))) U (λc4 hk1=>?_) (λe=>?_)))
 .refine bp (aI (bN (cells:=[I value]) eP ty3 zc3 U U kr (λb2=>cz 0 U hM (λh2 hle2 hb2=>?_))))
  have sl2:SlC jB h2 (zAD b2) 1 ([value]):=cS.slB0 (T:=3) (fz:=(0,0)) ((show cS jB h1 [I value] ([value])from⟨[I value],[],rfl,rfl,rfl,rfl⟩).mono vH hle2) hb2
  exact aS Dc (iL _ 0 1099511627776 _ _ _ sl2) U (qO 2 U (tZ (h:=h1) hle2 hX hle1 (hk1 _ U)))
 refine bp (gy 6 [42,43,44,45,46,47,48] 42 48 (!(cg 0 1099511627775 ([cy,ah]))) U (λc5 hk2=>?_) (λe=>?_))
 .refine qO 2 U (aI (bN (cells:=[I cy,I ah]) eP ty3 zc3 U U kr (λb3=>cz 0 U hM (λh3 hle3 hb3=>?_))))
  have sl3:SlC jB h3 (zAD b3) 2 ([cy,ah]):=cS.slB0 (T:=3) (fz:=(0,0)) ((show cS jB h1 [I cy,I ah] ([cy,ah])from⟨[I cy],[I ah],rfl,rfl,rfl,⟨[I ah],[],rfl,rfl,rfl,rfl⟩⟩).mono vH hle3) hb3
  exact aS Dc (iL _ 0 1099511627775 _ _ _ sl3) U (qO 2 U (tZ (h:=h1) hle3 hX hle1 (hk2 _ U)))
 refine bo (aH hs8 U (λc6 hs10=>?_) (λc6 hs11=>?_))
 .refine qT 6 U ?_
  have hs12:bM l u kind value cy ah=(0,false,1):=hs10
  exact wd [I 0,.bool false,I 1] GE U hX rd (congrArg (λr:(Int×Bool×Int)=>(.tuple #[I r.1,.bool r.2.1,I r.2.2]:Value)) hs12.symm)
 refine qT 8 U (aI (cx call84 (tU _ _ _ _ kind cy ah (hl.mono Yg hle1) ob) U (λv1 h4 hle4 hp1=>?_)))
 obtain⟨rb1,rc1,rfl,sl4⟩:=hp1
 refine qL 3 [] U (dR (bZ (L':=markB []) ap ?_))
 refine uN (ι:=Nat×List Nat×HF) (λi=>[]) (λi=>marks i.2.1) (λi=>i.2.2) (λi=>markB i.2.1) (λi=>i.1<=(ba l kind cy ah).length/\bM l u kind value cy ah=((bM.K1))/\xJ h4 i.2.2) ?_ (λhx1=>?_)
 .rintro⟨i1,rs1,hh1⟩ ⟨iP,hs13,hl1⟩ e
  refine qT 6 U ?_
  have hs14:bM l u kind value cy ah=((-1),true,0):=hs13
  exact bZ (L':=([])++markB rs1) ap (uL rs1 [I (-1),.bool true,I 0] GE U hX rd (congrArg (λr:(Int×Bool×Int)=>(.tuple #[I r.1,.bool r.2.1,I r.2.2]:Value)) hs14.symm))
 refine Ad (ι:=Nat×List Nat×HF×List Budget) (λi=>[(1,.slice ql u.length qj),(3,I value),(4,I cy),(5,I ah),(53,.slice rb1 ((ba l kind cy ah).length) rc1),(54,I ((ba l kind cy ah).length:Int)),(55,I (i.1:Int))]) (λi=>marks i.2.1) (λi=>i.2.2.1) (λi=>markB i.2.1) (λi=>(ba l kind cy ah).drop i.1=i.2.2.2/\i.1<=(ba l kind cy ah).length/\bM l u kind value cy ah=((bM.L1 u value cy ah (bM.K1)) i.2.2.2)/\xJ h4 i.2.2.1) (λi=>i.2.2.2.length) (0,[],h4,(ba l kind cy ah)) U rd sw ⟨U,zH _,hs11,lf⟩ ?_
 rintro⟨i1,rs1,hh1,s1⟩ ⟨hd1,iP,hs15,hl1⟩ ag1 e
 rcases s1 with _|⟨y1,rz1⟩
 .have ml:=nF hd1
  exact sr (fO ml U (qO 4 U (hx1 (i1,rs1,hh1) _ ⟨iP,hs15,hl1⟩ trivial)))
 have fY:=tc hd1
 have dz:=rJ hd1
 have iT:=ip hd1
 have mF:=sl4.1.1
 refine sr (tO fY U (qO 8 U (aI (iF xM Dd ty73 (sl4.mono Yg hl1).1 dz U U U (λq2 A2=>eU ty73 A2 U U (bH zc73 (λb7=>bE 0 ty73 U U U U U U (qO 4 U (bH zc3 (λb8=>bH zc3 (λb9=>cW 1 ty3 U U U U U U (cW 0 ty3 U U U U U U (qO 4 U (dy 2 ty73 U U U (qO 3 U (aI (cx call85 (Gh _ y1 _ _ _ cy ah (hu.mono Yf ((hle1.t hle4).t hl1)) (MP (by simpa using c1) (hZ hd1))) U (λv3 h6 hle6 hp3=>?_))))))))))))))))))
 obtain⟨_,rfl,mo2⟩:=hp3
 refine qO 2 U ?_
 let z1:Nat×Obj:=(b7,O (xM y1) 73)
 refine bZ (L':=([(b9,O [I value] 3),(b8,O [I 1] 3),z1])++markB rs1) ap ?_
 refine j9 (it:=v3) (xs:=(ut y1 u cy ah)) (ι:=Int×Int×HF) rs1 (λi=>i.2.2) (λi=>[(b9,O [I i.1] 3),(b8,O [I i.2.1] 3),z1]) (λs i=>bM l u kind value cy ah=((bM.L3 (λzg3_b9_0 zg3_b8_0=>(bif(decide (y1.Count<zg3_b8_0)||decide (y1.Value<zg3_b9_0))then(y1.No,false,0)else(bM.L1 u value cy ah (bM.K1) rz1)))) s i.1 i.2.1)/\xJ h6 i.2.2) (λ_=>False) (λ_=>False) 0 (λ_ _ _=>False) (value,1,h6) GE U mo2 U AO (λ_ _ _ _ _ hq=>hq) U (show[(b9,O [I value] 3),(b8,O [I 1] 3),z1]=_ from U) ⟨hs15,lf⟩ ?_ ?_ ?_ ?_ ?_
 .rintro l3 dm3 lp3 y3 rz3 vs3 ⟨yI,BB,hh3⟩ hr3 X hFR3 ⟨hs17,hl3⟩ hl03 hlr3 hv3 hX hXM hlp3 nx3 rt3 ex3 pn3
  obtain rfl:=hv3
  exact bZ (L':=[(l3,.loop lp3),(dm3,.deferred (some [])),(b9,O [I yI] 3),(b8,O [I BB] 3),z1]++(markB rs1)) ap (qT 3 U (kh 0 U hlp3 (qK 5 [3] U (cW 3 ty3 U U U U U U (qL 5 [2] U (cW 2 ty3 U U U U U U (qO 2 U (bZ (L':=rdH l3 dm3 lp3 (([(b9,O [I (kB .i64 (yI+y3))] 3),(b8,O [I (kB .i64 (BB+1))] 3),z1])++markB rs1)) ap (nx3 ((kB .i64 (yI+y3)),(kB .i64 (BB+1)),hr3) _ _ ⟨hs17,(hl3.t hlr3)⟩ lf)))))))))
 .rintro dm3 ⟨yI,BB,hh3⟩ hn3 ⟨hs18,hl3⟩ hln3 hl03
  refine bZ (L':=[(b9,O [I yI] 3),(b8,O [I BB] 3),z1]++(markB (dm3::rs1))) ap (qK 8 [1,2] U (gy 5 [75,76,77,78,79,80] 75 80 (decide (y1.Value<yI)) U (λc7 hk3=>?_) (λe=>?_)))
  .exact qL 5 [0,2] U (hk3 _ U)
  refine bo (aH hs18 U (λc8 hs19=>?_) (λc8 hs20=>?_))
  .refine qK 8 [2] U ?_
   have hs21:bM l u kind value cy ah=(y1.No,false,0):=hs19
   exact bZ (L':=([(b9,O [I yI] 3),(b8,O [I BB] 3),z1])++markB (dm3::rs1)) ap (uL (dm3::rs1) [I y1.No,.bool false,I 0] GE U hX rd (congrArg (λr:(Int×Bool×Int)=>(.tuple #[I r.1,.bool r.2.1,I r.2.2]:Value)) hs21.symm))
  exact bL (qT 2 U (oi i1 U (qO 2 U (cu (L':=markB (dm3::rs1)) js (ag1 ((i1+1),(dm3::rs1),hn3,rz1) _ (Nat.lt_succ_self _) ⟨kx hd1,ip hd1,hs20,(((hl1.t hle6).t hl3).t hln3)⟩ rd)))))
 .exact xf
 .exact xf
 exact xf
theorem mw(h s pS pK)(f:(ao->Bool))(f_v)(hs:SlC ao.rp h pS pK s)(hf:∀(h':HF)(el:ao)(BV:oH),xJ h h'->el∈s->ao.ok h' el BV->qX prog f_v [.agg (ao.cells el BV).toArray] h' [] (.bool (f el))):Ret prog 86 [.slice pS s.length pK,f_v] h (I (ai s f)):=by
 refine sT func86 U ntmps86 U λX hM hX hF=>?_
 have hs0:=@rfl _ (ai s f)
 refine qK 11 [] U ?_
 refine lp0 s (λi=>[(0,.slice pS s.length pK),(1,f_v),(7,I (s.length:Int)),(8,I (i:Int))]) ([]) (λs1 i=>(ai.L1 f (ai.K1)) s1 i) hs.1.1 hs0 ?_ ?_
 .rintro i1 iP hs1 e
  exact sr (an (nretP [I (-1)] (ci hs1)))
 rintro i1 y1 rz1 hd1 fY dz iT mF hs3 hx1 ag1 e
 refine sr (tO fY U (qO 16 U (aI (iR xh ty54 hs.1 dz U U U (λ_ _ _ e=>e) (λq2 r2 A2 ok2=>eU ty54 A2 U U (aI (ka (v:=.bool (f y1)) [] (List.nil_sublist _) (hf h y1 r2 lf (hZ hd1) ok2) U U (bo (aH hs3 U (λc2 hs4=>?_) (λc2 hs5=>?_))))))))))
 .exact sr (qO 3 U (nretP [I (i1:Int)] (ci hs4)))
 exact bL (qT 2 U (oi i1 U (qO 2 U (ag1 hs5))))
instance kC86:Ct 86:=⟨_,call86,@mw⟩
theorem ET(s:List ao)(f:ao->Bool):ai s f<(s.length:Int):=by
 have key:∀(l:List ao)(i:Nat),ai.L1 f ai.K1 l i<((i+l.length:Nat):Int):=by
  intro l
  induction l with
  |nil=>intro i;simp only[ai.L1,ai.K1];omega
  |cons y l ih=>
   intro i
   simp only[ai.L1,Bool.cond_eq_ite,zA]
   split
   .omega
   have:=ih (i+1);omega
 have:=key s 0
 simpa[ai]using this
theorem F7(h d Be v0 v0_q)(hd:ao.ok h d Be)(av0:At h v0_q [I v0]):Ret prog 87 [.agg (ao.cells d Be).toArray,.pointer (some v0_q)] h (.bool (bI d v0)):=by
 refine sT func87 U ntmps87 U λX hM hX hF=>?_
 generalize hz:(bI d v0)=z;have hs:=hz.symm
 exact W
theorem Cc(h cK gU aV bq ah)(mK:zL h cK gU):KI prog 29 [.agg (zD cK gU).toArray,I aV,I bq,I ah] h errV (n0 cK aV bq ah) (λ(r:bU)v h'=>∃(rr0:sG),v=.agg (bU.cells r rr0).toArray/\bU.ok h' r rr0):=by
 refine cX func29 U ntmps29 U λX hM hX=>?_
 have hs0:=@rfl _ (n0 cK aV bq ah)
 refine sr (eO (λb1=>eO (λb2=>bH zc96 (λb3=>qL 5 [2] U (cz 1 U hM (λh1 hle1 hb1=>aI (gM U U (aS call86 (mw _ _ _ _ (λel=>bI el aV) (.func (.func 87) #[] #[Q b2]) (mK.cd.mono ao.aD hle1) (λh' el BV de SG a0_o=>iA call87 (F7 h' el BV aV ⟨b2,0,none⟩ a0_o ((dO hb1).mono de)))) U (qO 8 U (gy 5 [16,17,18,19,20,21] 16 21 (decide ((min bq ah)<0)) U (λc1 hk1=>?_) (λe=>?_)))))))))))
 .exact bp (bp (aI (eG (UC U U) (qO 2 U (hk1 _ U)))))
 refine bp (gy 5 [22,23,24,25,26,27] 22 27 (decide (1099511627776<=(max bq ah))) U (λc2 hk2=>?_) (λe=>?_))
 .exact bp (bp (aI (eG (UD U U) (qO 2 U (hk2 _ U)))))
 refine bo (aH hs0 U (λc3 hs1=>?_) (λc3 hs2=>?_))
 .exact bJ (aI (eG (Gq RL U U) (aI (Gl U Bq (λe=>iY (Ms [] func29 hs1))))))
 refine qT 2 U ?_
 let z1:Nat×Obj:=(b1,O (zD cK gU) 30)
 refine eY ([z1]) mixed kr jn (λgK _=>?_)
 refine tf 0 U U (λ_ _ hj=>lO ty30 U (hj.nth (i:=0) U) U) (qB [1] U (tf 2 U U (rj 0 ty27 U U U) (tm 3 U ?_)))
 have ho1:0<=((ai cK.cd (λel=>bI el aV)):Int)/\((ai cK.cd (λel=>bI el aV)):Int)<((cK.cd).length:Int):=(by have hq:=ET cK.cd (λel=>bI el aV);simp only[decide_eq_true_eq,decide_eq_false_iff_not,qC,zE,xF,Bool.not_eq_false',Bool.and_eq_false_iff,Bool.or_eq_false_iff,beq_iff_eq,beq_eq_false_iff_ne,bne_iff_ne,bne_eq_false_iff_eq,jA,zA,zB,List.length_drop]at *;omega)
 refine oK 4 gK jn xh ty54 (mK.cd.mono ao.aD hle1).1 ho1 (di ho1) U U U U kr (λq1 cs1 A1 ln1 rr1=>?_)
 obtain⟨r1,rfl,ok1⟩:=rr1
 refine tf 5 U U (λ_ _ hj=>mW ty54 (A1.mono hj.1) U U) (qA [6,7] U (tn 8 U (ie (cells:=[.slice gU.yU cK.dF.length gU.yT,.slice gU.yS cK.ga.length gU.yR,.slice gU.wJ cK.er.length gU.wH,.slice gU.uH cK.dH.length gU.uG,.slice gU.pj cK.Versions.length gU.pi,.slice gU.L5 cK.cd.length gU.LZ,.slice gU.wM cK.dC.length gU.wK,I ((nthI cK.cd (ai cK.cd (λel=>bI el aV))).No),I ((nthI cK.cd (ai cK.cd (λel=>bI el aV))).At),I ((nthI cK.cd (ai cK.cd (λel=>bI el aV))).Kind),I ((nthI cK.cd (ai cK.cd (λel=>bI el aV))).Value),I ((nthI cK.cd (ai cK.cd (λel=>bI el aV))).From),I ((nthI cK.cd (ai cK.cd (λel=>bI el aV))).mX),.slice r1.BE ((nthI cK.cd (ai cK.cd (λel=>bI el aV))).lh.length) r1.BD,.slice r1.uE ((nthI cK.cd (ai cK.cd (λel=>bI el aV))).fe.length) r1.uD,.slice r1.En ((nthI cK.cd (ai cK.cd (λel=>bI el aV))).fp.length) r1.Em,Y ((nthI cK.cd (ai cK.cd (λel=>bI el aV))).Text 0),Y ((nthI cK.cd (ai cK.cd (λel=>bI el aV))).Text 1),Y ((nthI cK.cd (ai cK.cd (λel=>bI el aV))).Text 2),Y ((nthI cK.cd (ai cK.cd (λel=>bI el aV))).Text 3),Y ((nthI cK.cd (ai cK.cd (λel=>bI el aV))).Text 4),Y ((nthI cK.cd (ai cK.cd (λel=>bI el aV))).Text 5),Y ((nthI cK.cd (ai cK.cd (λel=>bI el aV))).Text 6),Y ((nthI cK.cd (ai cK.cd (λel=>bI el aV))).Text 7),Y ((nthI cK.cd (ai cK.cd (λel=>bI el aV))).Text 8),Y ((nthI cK.cd (ai cK.cd (λel=>bI el aV))).Text 9),Y ((nthI cK.cd (ai cK.cd (λel=>bI el aV))).Text 10),Y ((nthI cK.cd (ai cK.cd (λel=>bI el aV))).Text 11),Y ((nthI cK.cd (ai cK.cd (λel=>bI el aV))).Text 12),Y ((nthI cK.cd (ai cK.cd (λel=>bI el aV))).Text 13),Y ((nthI cK.cd (ai cK.cd (λel=>bI el aV))).Text 14),Y ((nthI cK.cd (ai cK.cd (λel=>bI el aV))).Text 15),Y ((nthI cK.cd (ai cK.cd (λel=>bI el aV))).Text 16),Y ((nthI cK.cd (ai cK.cd (λel=>bI el aV))).Text 17),Y ((nthI cK.cd (ai cK.cd (λel=>bI el aV))).Text 18),Y ((nthI cK.cd (ai cK.cd (λel=>bI el aV))).Text 19),Y ((nthI cK.cd (ai cK.cd (λel=>bI el aV))).Text 20),Y ((nthI cK.cd (ai cK.cd (λel=>bI el aV))).Text 21),Y ((nthI cK.cd (ai cK.cd (λel=>bI el aV))).Text 22),Y ((nthI cK.cd (ai cK.cd (λel=>bI el aV))).Text 23),Y ((nthI cK.cd (ai cK.cd (λel=>bI el aV))).Text 24),Y ((nthI cK.cd (ai cK.cd (λel=>bI el aV))).Text 25),Y ((nthI cK.cd (ai cK.cd (λel=>bI el aV))).Text 26),Y ((nthI cK.cd (ai cK.cd (λel=>bI el aV))).Text 27),Y ((nthI cK.cd (ai cK.cd (λel=>bI el aV))).Text 28),Y ((nthI cK.cd (ai cK.cd (λel=>bI el aV))).Text 29),Y ((nthI cK.cd (ai cK.cd (λel=>bI el aV))).Text 30),Y ((nthI cK.cd (ai cK.cd (λel=>bI el aV))).Text 31),I bq,I ah]) (places:=[(0,7),(7,41),(48,1),(49,1)]) underlying96 zc96 kr kr ?_)))
 refine⟨jn,(tn 9 U (uS 0 ty96 U U U U U U (⟨jn,(bO kr ?_)⟩)))⟩
 have hs3:n0 cK aV bq ah=(Except.ok (bU.mk cK (nthI cK.cd (ai cK.cd (λel=>bI el aV))) bq ah)):=hs2
 exact dR (Mp [] [.agg (bU.cells (bU.mk cK (nthI cK.cd (ai cK.cd (λel=>bI el aV))) bq ah) (sG.mk gU r1)).toArray] func29 U ⟨⟨0,_,_,_,_,U,U,.inl ⟨ty96,U⟩⟩,trivial⟩ hs3 ⟨(sG.mk gU r1),U,(show bU.ok h1 (bU.mk cK (nthI cK.cd (ai cK.cd (λel=>bI el aV))) bq ah) (sG.mk gU r1)from⟨(mK.mono hle1),ok1⟩)⟩)
theorem xO(h d Be v0 Rk v0_q)(hd:ao.ok h d Be)(hv0:bU.ok h v0 Rk)(av0:At h v0_q (bU.cells v0 Rk)):Ret prog 88 [.agg (ao.cells d Be).toArray,.pointer (some v0_q)] h (.bool (cA d v0)):=by
 refine sT func88 U ntmps88 U λX hM hX hF=>?_
 have hs0:=@rfl _ (cA d v0)
 exact sr (eO (λb1=>qL 8 [0] U (lQ (j:=7) ty3 av0 U U (qO 3 U (nretP [.bool (d.No==v0.aV.No)] (cs hs0))))))
theorem rN(h s pS pK)(f:(ao->Bool))(f_v)(hs:SlC ao.rp h pS pK s)(hf:∀(h':HF)(el:ao)(BV:oH),xJ h h'->el∈s->ao.ok h' el BV->qX prog f_v [.agg (ao.cells el BV).toArray] h' [] (.bool (f el))):Ret prog 156 [.slice pS s.length pK,f_v] h (.bool (kX s f)):=by
 refine sT func156 U ntmps156 U λX hM hX hF=>?_
 generalize hz:(kX s f)=z;have hs:=hz.symm
 exact W
theorem BI(h s pS pK v)(hs:SlC jB h pS pK s):Ret prog 127 [.slice pS s.length pK,I v] h (I (jx s v)):=by
 refine sT func127 U ntmps127 U λX hM hX hF=>?_
 generalize hz:(jx s v)=z;have hs:=hz.symm
 have HA:=h0 [0,1,7] 8 (λs1 i=>(jx.L1 v (jx.K1)) s1 i)
 exact W
instance kC127:Ct 127:=⟨_,call127,@BI⟩
theorem nU(h s pS pK v)(hs:SlC jB h pS pK s):Ret prog 63 [.slice pS s.length pK,I v] h (.bool (gH s v)):=by
 refine sT func63 U ntmps63 U λX hM hX hF=>?_
 generalize hz:(gH s v)=z;have hs:=hz.symm
 exact W
instance kC63:Ct 63:=⟨_,call63,@nU⟩
theorem EY(h l fo fm signed co cn no dA)(hl:SlC ao.rp h fo fm l)(eN:SlC jB h co cn signed)(hln:l.length<20):Ret prog 158 [.slice fo l.length fm,.slice co signed.length cn,I no,I dA] h (.tuple #[I ((gZ l signed no dA).1),I ((gZ l signed no dA).2.1),I ((gZ l signed no dA).2.2)]):=by
 refine sT func158 U ntmps158 U λX hM hX hF=>?_
 have hs0:=@rfl _ (gZ l signed no dA)
 refine qT 10 U (aS call77 (qh _ _ _ _ hl) U (qO 7 U (aH hs0 U (λc1 hs1=>?_) (λc1 hs2=>?_))))
 .refine qT 7 U ?_
  have hs3:gZ l signed no dA=(0,0,(aZ l)):=hs1
  exact nretP [I 0,I 0,I (aZ l)] (hs3▸U)
 refine qT 6 U (aS call78 (rV _ _ _ _ _ _ _ hl eN) U (qO 2 U (gy 4 [24,25,26,27,28] 24 28 (!(jt dA)) U (λc2 hk1=>?_) (λe=>?_))))
 .exact bp (aS call79 (rI h dA) U (qO 2 U (hk1 _ U)))
 refine bo (aH hs2 U (λc3 hs4=>?_) (λc3 hs5=>?_))
 .refine qT 6 U ?_
  have hs6:gZ l signed no dA=(0,0,1):=hs4
  exact nretP [I 0,I 0,I 1] (hs6▸U)
 refine qT 6 U (aI (cx call80 (tT _ _ _ _ _ _ _ dA hl eN (by simpa using c1) (Dj ob) hln) U (λv1 h1 hle1 hp1=>?_)))
 obtain⟨q1,rr1,rfl,ok1,A1⟩:=hp1
 refine qO 5 U (aI (eG (gv U) (qL 2 [] U (lQ (j:=1) ty43 A1 U U (bp ?_)))))
 obtain⟨o1,hb1,hm1⟩:=ok1.shelf.at_
 refine aI (we (k:=no) Db (gx nI) hb1 hm1 (ft zv3) (show yP _ (I 0) 0 from U) U U (λv2 hv1=>?_))
 obtain rfl:=hv1
 refine qO 12 U (aH hs5 U (λc4 hs7=>?_) (λc4 hs8=>?_))
 .refine qT 6 U ?_
  have hs9:gZ l signed no dA=(0,0,1):=hs7
  exact nretP [I 0,I 0,I 1] (hs9▸U)
 refine qT 6 U (aS call81 (nE h1 (cG l signed dA) rr1 q1 (mgetD ((cG l signed dA).shelf.at_) no 0) dA ok1 A1 (by first|exact Kg ob|(rw[wp];omega)) (Fi _ _ _)) U (qO 14 U ?_))
 have hs10:gZ l signed no dA=((cZ (cG l signed dA) (mgetD ((cG l signed dA).shelf.at_) no 0) dA).1,(cZ (cG l signed dA) (mgetD ((cG l signed dA).shelf.at_) no 0) dA).2,0):=hs8
 exact nretP [I ((cZ (cG l signed dA) (mgetD ((cG l signed dA).shelf.at_) no 0) dA).1),I ((cZ (cG l signed dA) (mgetD ((cG l signed dA).shelf.at_) no 0) dA).2),I 0] (hs10▸U)
theorem w8(h d Be c pQ c_q signed co cn signed_q)(hd:ao.ok h d Be)(hc:bU.ok h c pQ)(ac:At h c_q (bU.cells c pQ))(eN:SlC jB h co cn signed)(asigned:At h signed_q [.slice co signed.length cn])(hsm:smR c.Register)(hco:jw c)(hln:c.Register.cd.length<20)(hsg:cD c.Register.cd signed=true)(hdm:d∈c.Register.cd):Ret prog 157 [.agg (ao.cells d Be).toArray,.pointer (some c_q),.pointer (some signed_q)] h (.bool (lR d c signed)):=by
 refine sT func157 U ntmps157 U λX hM hX hF=>?_
 have hs0:=@rfl _ (lR d c signed)
 refine sr (eO (λb1=>qL 9 [0] U (lQ (j:=7) ty3 ac U U (aS call63 (nU _ _ _ _ c.aV.No hd.fe) U (qO 2 U (aH hs0 U (λc1 hs1=>?_) (λc1 hs2=>?_)))))))
 .exact sr (an (nretP [.bool false] (cs hs1)))
 refine qK 5 [] U (lQ (j:=5) ty27 ac U U (eJ ty31 asigned U (qL 3 [0] U (lQ (j:=48) ty3 ac U U (aS call158 (EY _ _ _ _ _ _ _ d.No c.at_ hc.Register.cd eN ob) U (qO 11 U (aI (pN Es (jf h ((gZ c.Register.cd signed d.No c.at_).2.2)) (nq (Q7 hco hsg hdm)) U (qO 6 U (kI 3 [32,33,34,35] 32 35 ((gZ c.Register.cd signed d.No c.at_).1 != 4) U (λc2 hk1=>?_) (λe=>?_)))))))))))
 .exact bp (qO 2 U (hk1 _ U))
 exact an (nretP [.bool (((gZ c.Register.cd signed d.No c.at_).1 != 1)&&((gZ c.Register.cd signed d.No c.at_).1 != 4))] (cs hs2))
theorem rl(h c pQ signed co cn)(hc:bU.ok h c pQ)(eN:SlC jB h co cn signed)(hsm:smR c.Register)(hco:jw c)(hln:c.Register.cd.length<20)(hsg:cD c.Register.cd signed=true):Ret prog 89 [.agg (bU.cells c pQ).toArray,.slice co signed.length cn] h (.bool (gh c signed)):=by
 refine sT func89 U ntmps89 U λX hM hX hF=>?_
 have hs0:=@rfl _ (gh c signed)
 exact sr (eO (λb1=>eO (λb2=>qL 7 [1] U (cz 1 U hM (λh1 hle1 hb1=>cz 0 U hM (λh2 hle2 hb2=>aI (gM U U (aS call156 (rN _ _ _ _ (λel=>lR el c signed) (.func (.func 157) #[] #[Q b1,Q b2]) (hc.Register.cd.mono ao.aD (hle1.t hle2)) (λh' el BV de SG a0_o=>iA call157 (w8 h' el BV c pQ ⟨b1,0,none⟩ signed co cn ⟨b2,0,none⟩ a0_o ((hc.mono (hle1.t hle2)).mono de) (((dO hb1).mono hle2).mono de) ((eN.mono vH (hle1.t hle2)).mono vH de) ((dO hb2).mono de) hsm hco ob hsg SG))) U (an (nretP [.bool (kX c.Register.cd (λel=>lR el c signed))] (cs hs0)))))))))))
theorem zw(h c pQ signed co cn)(hc:bU.ok h c pQ)(eN:SlC jB h co cn signed)(hsm:smR c.Register)(hco:jw c)(hln:c.Register.cd.length<20)(hsg:cD c.Register.cd signed=true):Ret prog 31 [.agg (bU.cells c pQ).toArray,.slice co signed.length cn] h (.bool (fK c signed)):=by
 refine sT func31 U ntmps31 U λX hM hX hF=>?_
 have hs0:=@rfl _ (fK c signed)
 refine sr (eO (λb1=>qL 7 [0] U (cz 0 U hM (λh1 hle1 hb1=>aI (gM U U (aS call86 (mw _ _ _ _ (λel=>cA el c) (.func (.func 88) #[] #[Q b1]) (hc.Register.cd.mono ao.aD hle1) (λh' el BV de SG a0_o=>iA call88 (xO h' el BV c pQ ⟨b1,0,none⟩ a0_o ((hc.mono hle1).mono de) ((dO hb1).mono de)))) U (qO 3 U ?_)))))))
 refine Cs [(4,.bool (((decide (c.at_<c.aV.At)||decide (c.aV.mX<=c.at_))||(decide (0<=(nthI signed (ai c.Register.cd (λel=>cA el c))))&&decide ((nthI signed (ai c.Register.cd (λel=>cA el c)))<=c.at_)))||(gh c signed)))] (λe=>?_) (λhk1=>?_)
 rotate_left
 .refine eY ([]) mixed kr jn (λgK _=>?_)
  refine qB [0] U (tf 1 U U (rH 48 ty3 (dO hb1) U U) (qB [2,3] U (tf 4 U U (rH 8 ty3 (dO hb1) U U) (qA [5,6] U ?_))))
  refine fE 17 U (λc1=>?_) (λc1=>?_)
  .have c1p:=of_decide_eq_true c1
   exact tk 7 U U (qR 8 28 U (bO kr (hk1 _ ⟨(cb (show true=(((decide (c.at_<c.aV.At)||decide (c.aV.mX<=c.at_))||(decide (0<=(nthI signed (ai c.Register.cd (λel=>cA el c))))&&decide ((nthI signed (ai c.Register.cd (λel=>cA el c)))<=c.at_)))||(gh c signed))from by rw[c1]<;>rfl)),trivial⟩)))
  have c1p:=of_decide_eq_false c1
  refine qB [7] U (tf 8 U U (rH 48 ty3 (dO hb1) U U) (qB [9,10] U (tf 11 U U (rH 12 ty3 (dO hb1) U U) (qR 12 3 U ?_))))
  refine fE 25 U (λc2=>?_) (λc2=>?_)
  .have c2p:=of_decide_eq_true c2
   exact tk 15 U U (qR 16 20 U (bO kr (hk1 _ ⟨(cb (show true=(((decide (c.at_<c.aV.At)||decide (c.aV.mX<=c.at_))||(decide (0<=(nthI signed (ai c.Register.cd (λel=>cA el c))))&&decide ((nthI signed (ai c.Register.cd (λel=>cA el c)))<=c.at_)))||(gh c signed))from by rw[c1,c2]<;>rfl)),trivial⟩)))
  have c2p:=of_decide_eq_false c2
  refine qA [15,16] U ?_
  have ho1:0<=((ai c.Register.cd (λel=>cA el c)):Int)/\((ai c.Register.cd (λel=>cA el c)):Int)<((signed).length:Int):=(KC hco hsg)
  refine ir 17 (enc:=λy=>[I y]) gK jn ei eP ty3 (eN.mono vH hle1).1 ho1 (di ho1) U U U U kr (λq1 A1=>tf 18 U U (rh ty3 A1 U) (qA [19,20] U ?_))
  refine fE 31 U (λc3=>?_) (λc3=>?_)
  .have c3p:=of_decide_eq_true c3
   refine qA [21,22] U ?_
   have ho2:0<=((ai c.Register.cd (λel=>cA el c)):Int)/\((ai c.Register.cd (λel=>cA el c)):Int)<((signed).length:Int):=(KC hco hsg)
   refine ir 23 (enc:=λy=>[I y]) gK jn ei eP ty3 (eN.mono vH hle1).1 ho2 (di ho2) U U U U kr (λq2 A2=>tf 24 U U (rh ty3 A2 U) (qB [25] U (tf 26 U U (rH 48 ty3 (dO hb1) U U) (qR 27 4 U ?_))))
   refine fE 41 U (λc4=>?_) (λc4=>?_)
   .have c4p:=of_decide_eq_true c4
    exact tk 31 U U (qR 32 4 U (bO kr (hk1 _ ⟨(cb (show true=(((decide (c.at_<c.aV.At)||decide (c.aV.mX<=c.at_))||(decide (0<=(nthI signed (ai c.Register.cd (λel=>cA el c))))&&decide ((nthI signed (ai c.Register.cd (λel=>cA el c)))<=c.at_)))||(gh c signed))from by rw[c1,c2,c3,c4]<;>rfl)),trivial⟩)))
   have c4p:=of_decide_eq_false c4
   exact tf 31 U U (λ_ _ hj=>mW ty96 ((dO hb1).mono hj.1) U U) (tm 32 U (tn 33 U (gi call89 (rl _ _ _ _ _ _ (hc.mono hle1) (eN.mono vH hle1) ob ob ob ob) U (⟨jn,(qA [34,35] U (bO kr (hk1 _ ⟨(cb (show(gh c signed)=(((decide (c.at_<c.aV.At)||decide (c.aV.mX<=c.at_))||(decide (0<=(nthI signed (ai c.Register.cd (λel=>cA el c))))&&decide ((nthI signed (ai c.Register.cd (λel=>cA el c)))<=c.at_)))||(gh c signed))from by rw[c1,c2,c3,c4]<;>rfl)),trivial⟩)))⟩))))
  have c3p:=of_decide_eq_false c3
  exact tk 21 U U (qR 22 9 U (tf 31 U U (λ_ _ hj=>mW ty96 ((dO hb1).mono hj.1) U U) (tm 32 U (tn 33 U (gi call89 (rl _ _ _ _ _ _ (hc.mono hle1) (eN.mono vH hle1) ob ob ob ob) U (⟨jn,(qA [34,35] U (bO kr (hk1 _ ⟨(cb (show(gh c signed)=(((decide (c.at_<c.aV.At)||decide (c.aV.mX<=c.at_))||(decide (0<=(nthI signed (ai c.Register.cd (λel=>cA el c))))&&decide ((nthI signed (ai c.Register.cd (λel=>cA el c)))<=c.at_)))||(gh c signed))from by rw[c1,c2,c3]<;>rfl)),trivial⟩)))⟩))))))
 exact nretP [.bool (((decide (c.at_<c.aV.At)||decide (c.aV.mX<=c.at_))||(decide (0<=(nthI signed (ai c.Register.cd (λel=>cA el c))))&&decide ((nthI signed (ai c.Register.cd (λel=>cA el c)))<=c.at_)))||(gh c signed))] (cs hs0)
theorem EO(h c pQ c_q signed co cn signed_q)(hc:bU.ok h c pQ)(ac:At h c_q (bU.cells c pQ))(eN:SlC jB h co cn signed)(asigned:At h signed_q [.slice co signed.length cn])(hsm:smR c.Register)(hco:jw c)(hln:c.Register.cd.length<20)(hsg:cD c.Register.cd signed=true):Ret prog 30 [.pointer (some c_q),.pointer (some signed_q)] h (.bool (Ce c signed)):=by
 refine sT func30 U ntmps30 U λX hM hX hF=>?_
 have hs0:=@rfl _ (Ce c signed)
 exact sr (qO 4 U (eU ty96 ac U U (eJ ty31 asigned U (aS call31 (zw _ _ _ _ _ _ hc eN ob ob ob ob) U (an (nretP [.bool (fK c signed)] (cs hs0)))))))
theorem yF(h gF v0 tW tV v0_q)(hv0:SlC jB h tW tV v0)(av0:At h v0_q [.slice tW v0.length tV]):Ret prog 90 [I gF,.pointer (some v0_q)] h (.bool (mE gF v0)):=by
 refine sT func90 U ntmps90 U λX hM hX hF=>?_
 generalize hz:(mE gF v0)=z;have hs:=hz.symm
 exact W
theorem AM(h c pQ signed co cn)(hc:bU.ok h c pQ)(eN:SlC jB h co cn signed)(hsm:smR c.Register)(hco:jw c)(hln:c.Register.cd.length<20)(hsg:cD c.Register.cd signed=true):Ret prog 33 [.agg (bU.cells c pQ).toArray,.slice co signed.length cn] h (.bool (jY c signed)):=by
 refine sT func33 U ntmps33 U λX hM hX hF=>?_
 have hs0:=@rfl _ (jY c signed)
 refine sr (eO (λb1=>qL 10 [0,0] U (aI (cx call27 (pg _ _ _ _ _ _ _ c.at_ hc.Register.cd eN ob) U (λv1 h1 hle1 hp1=>?_)))))
 obtain⟨rb1,rc1,rfl,sl1⟩:=hp1
 exact bp (qO 2 U (bH zc31 (λb2=>cW 0 ty31 U U U U U U (qO 5 U (aI (pN Es (jf h1 ((bD c.Register.cd signed c.at_).2)) (nq (JA hco hsg)) U (qL 6 [1] U (cz 0 U hM (λh2 hle2 hb1=>aI (gM U U (aS call40 (mR _ _ _ _ (λel=>mE el ((bD c.Register.cd signed c.at_).1)) (.func (.func 90) #[] #[Q b2]) (hc.aV.fp.mono vH (hle1.t hle2)) (λh' el de=>iA call90 (yF h' el ((bD c.Register.cd signed c.at_).1) rb1 rc1 ⟨b2,0,none⟩  ((sl1.mono vH hle2).mono vH de) ((dO hb1).mono de)))) U (an (nretP [.bool (eF c.aV.fp (λel=>mE el ((bD c.Register.cd signed c.at_).1)))] (cs hs0))))))))))))))
theorem EN(h c pQ c_q signed co cn signed_q)(hc:bU.ok h c pQ)(ac:At h c_q (bU.cells c pQ))(eN:SlC jB h co cn signed)(asigned:At h signed_q [.slice co signed.length cn])(hsm:smR c.Register)(hco:jw c)(hln:c.Register.cd.length<20)(hsg:cD c.Register.cd signed=true):Ret prog 32 [.pointer (some c_q),.pointer (some signed_q)] h (.bool (Cd c signed)):=by
 refine sT func32 U ntmps32 U λX hM hX hF=>?_
 have hs0:=@rfl _ (Cd c signed)
 exact sr (qO 4 U (eU ty96 ac U U (eJ ty31 asigned U (aS call33 (AM _ _ _ _ _ _ hc eN ob ob ob ob) U (an (nretP [.bool (jY c signed)] (cs hs0)))))))
end
variable {κ:Type}
section
open Go.Proofs Go.Proofs.Tryz
theorem rP.length{κ α : Type}{enc:κ->Value}{V:HF->Value->α->Prop}{h:HF}:∀{es:List MapEntry}{m:List (κ×α)},rP enc V h es m->es.length=m.length
 |[],[],_=>rfl
 |_::_,(_,_)::_,⟨_,_,c⟩=>by simp[rP.length c]
 |[],_::_,x=>x.elim
 |_::_,[],x=>x.elim
theorem CG[Inhabited κ](ks:List κ)(is:List Nat)(hn:is.Nodup)(hlt:∀i∈is,i<ks.length)(hall:∀i,i<ks.length->i∈is):(is.map λi=>(ks[i]?).getD default).Perm ks:=by
 have h1:is.Perm (vD ks.length):=(List.perm_ext_iff_of_nodup hn List.nodup_range).2 (λi=>by rw[List.mem_range];exact⟨hlt i,hall i⟩)
 refine(h1.map _).trans (List.Perm.of_eq ?_)
 apply List.ext_getElem (by simp)
 grind
theorem AA[Inhabited κ](ks:List κ)(is:List Nat)(hn:is.Nodup)(hlt:∀i∈is,i<ks.length):∃rest,((is.map λi=>(ks[i]?).getD default)++rest).Perm ks:=by
 let js:=(vD ks.length).filter λi=>!is.contains i
 have hd:(is++js).Nodup:=by
  rw[Xi]
  refine⟨hn,List.nodup_range.filter _,λa ha b hb e=>?_⟩
  subst e
  simp[js]at hb
  exact hb.2 ha
 refine⟨js.map λi=>(ks[i]?).getD default,?_⟩
 rw[←Wx]
 grind [js,CG]
theorem yC(h:HF)(m:List (Int×aE))(bk:Nat)(q:Addr)(hm:wa (zC .i64) (ku aE.rp) h bk m)(aq:At h q [.map (some bk)]):
  I2 prog (.func (.func 266) #[] #[.pointer (some q)]) (λk _ vs=>vs=[(zC .i64) k]) (λxs=>xs.Perm (m.map (·.1))) h:=by
 refine⟨266,[.pointer (some q)],rfl,call266,?_⟩
 intro yf ya yb C Sp Pn h1 A de m1 m2 m3 hC hy
 obtain⟨o,hb,m0,hpm,hnd0,es,clock,rfl,hE,hP,hcl⟩:=hm.mono (ku.mono aE.aD) de
 have hnod:(es.map (·.born)).Nodup:=hP.imp (λh=>Nat.ne_of_lt h)
 have hkeys:=hE.keys
 have hlen:es.length=(m0.map (·.1)).length:=by rw[hE.length];simp
 let ks:=m0.map (·.1)
 let kf:Nat->Int:=λi=>(ks[i]?).getD default
 let bf:Nat->Nat:=λi=>(es[i]?.map (·.born)).getD 0
 have hkey:∀(i:Nat)(en:MapEntry),es[i]? = some en->en.key=(zC .i64) (kf i):=by
  intro i en hi
  have h2:(es.map (·.key))[i]? = some en.key:=by simp[hi]
  rw[hkeys]at h2
  simp only[zW]at h2
  simp only[kf,ks,zW]
  cases hq:m0[i]? with
  |none=>rw[hq]at h2;simp at h2
  |some p=>rw[hq]at h2;simp at h2;simp[←h2]
 refine nv (args:=[.func yf ya yb]) (cap:=[.pointer (some q)]) call266 ?_
 refine j1 RE rfl ntmps266 rfl λX hXM hX=>?_
 refine ea (bJ (eJ ty264 (aq.mono de) rfl (aI (KZ RD hb rfl (λit=>bo ?_)))))
 refine gB (ι:=List Nat×LH×HF) (λi=>[]) (λi=>i.2.2) (λi=>[(it,Obj.mapIter (some bk) clock (xB (i.1.map bf)) clock)]++i.2.1) (λi=>(i.1.Nodup/\(∀j∈i.1,j<es.length)/\(∀j,j<es.length->j∈i.1))/\C (i.1.map kf) i.2.2 i.2.1) ?_ (λhx=>?_)
 .rintro⟨js,A1,h2⟩ ⟨⟨hn,hl,ha⟩,hC1⟩ e
  exact Ae RE (λa _ w _=>nw rfl a w) (λw hw=>hw.sub (List.sublist_append_right _ _)) (.inl ⟨rfl,.inl ⟨_,(CG ks js hn (λi hi=>by rw[←hlen];exact hl i hi) (λi hi=>ha i (by rw[hlen];exact hi))).trans (hpm.map _),hC1⟩⟩)
 refine ju (ι:=List Nat×LH×HF) (λi=>[(0,.func yf ya yb),(5,.pointer (some ⟨it,0,none⟩))]) (λi=>i.2.2) (λi=>[(it,Obj.mapIter (some bk) clock (xB (i.1.map bf)) clock)]++i.2.1) (λi=>i.1.Nodup/\(∀j∈i.1,j<es.length)/\C (i.1.map kf) i.2.2 i.2.1/\xJ h1 i.2.2) (λi=>es.length-i.1.length) ([],A,h1) ⟨rfl,rfl,trivial⟩ (λw hw=>hw) ⟨WH,λ_ hj=>(kA hj).elim,hC,kH _⟩ ?_
 rintro⟨js,A1,h2⟩ ⟨hn,hl,hC1,hle2⟩ ag e
 dsimp only at hn hl hC1 hle2
 have hlp:=AK hnod js hl
 show TT _ _ _ _ _ (upds e [(0,.func yf ya yb),(5,.pointer (some ⟨it,0,none⟩))]) _ _ h2 ([(it,Obj.mapIter (some bk) clock (xB (js.map bf)) clock)]++A1)
 refine ea (bJ (aI (Ok 0 rfl (hle2 _ _ hb) (λx hx=>hcl x (by simpa using hx)) (kE _) rfl (λh0=>?_) (λen hen=>?_))))
 .refine qt rfl rfl (bo (ea (ot rfl (kW rfl ?_))))
  exact hx (js,A1,h2) _ ⟨⟨hn,hl,hlp.1 h0⟩,hC1⟩ trivial
 .obtain⟨i,hi,hni⟩:=hlp.2 en hen
  have hil:i<es.length:=by
   rcases kM i es.length with h3|h3
   .exact h3
   .simp[List.getElem?_eq_none h3]at hi
  have hmem:en∈es.toArray.toList:=by simpa using xE hi
  have hn':(js++[i]).Nodup:=by
   rw[Xi];exact⟨hn,by simp,λa ha b hb' e'=>by simp at hb';subst hb';subst e';exact hni ha⟩
  have hl':∀j∈js++[i],j<es.length:=λj hj=>by
   rcases qH.1 hj with h3|h3
   .exact hl j h3
   .simp at h3;subst h3;exact hil
  obtain⟨rest,hrest⟩:=AA ks (js++[i]) hn' (λj hj=>by rw[←hlen];exact hl' j hj)
  have zy:js.length+1<=es.length:=by
   have h9:=hrest.length_eq
   rw[jA,List.length_map,jA]at h9
   have h10:ks.length=es.length:=hlen.symm
   simp only[zA,zB]at h9
   omega
  have hrest':(js.map kf++kf i::rest).Perm (m.map (·.1)):=by
   rw[Wx,jE]at hrest
   exact List.Perm.trans hrest (hpm.map _)
  obtain⟨ekey,evl,eborn⟩:=en
  have hk':ekey=(zC .i64) (kf i):=hkey i _ hi
  subst hk'
  refine qt rfl rfl (bo ?_)
  refine ea (mC rfl (bL (m7 ?_)))
  refine ea (bJ ?_)
  refine aI (eG (Ld 0 rfl (hle2 _ _ hb) hmem (by simpa using hnod) rfl) ?_)
  refine qt rfl rfl (iu (bo ?_))
  refine ea (bJ (bp (bp ?_)))
  refine aI (mq [(it,Obj.mapIter (some bk) clock ((xB (js.map bf)).push eborn) clock)] A1 rfl (hy (js.map kf) (kf i) [(zC .i64) (kf i)] h2 A1 ⟨rest,hrest'⟩ hle2 hC1 rfl) rfl rfl (λh3 B hle3 hC3=>?_) (λh3 B hle3 hS3=>?_) (λch h3 B hle3 hP3 e'=>?_))
  .refine nB rfl (bo (ot rfl (bL (fW ?_))))
   have hpush:((xB (js.map bf)).push eborn)=xB ((js++[i]).map bf):=by simp[bf,hi]
   rw[hpush]
   refine ag (js++[i],B,h3) _ (by show es.length-(js++[i]).length<es.length-js.length;rw[jA];simp only[zA,zB];omega) ⟨hn',hl',by simpa using hC3,vA hle2 hle3⟩ ⟨rfl,rfl,trivial⟩
  .refine nB rfl (bo (mC rfl ?_))
   exact nu RE (λa _ w _=>nw rfl a w) (λw hw=>hw.sub (List.sublist_append_right _ _)) (.inl ⟨rfl,.inr hS3⟩)
  .exact RU RE (λw hw=>hw.sub (List.sublist_append_right _ _)) (.inr ⟨ch,rfl,hP3⟩)
theorem yD(h:HF)(m:List (OSeat×aK))(bk:Nat)(q:Addr)(hm:wa qV (ku aK.rp) h bk m)(aq:At h q [.map (some bk)]):
  I2 prog (.func (.func 305) #[] #[.pointer (some q)]) (λk _ vs=>vs=[qV k]) (λxs=>xs.Perm (m.map (·.1))) h:=by
 refine⟨305,[.pointer (some q)],rfl,call305,?_⟩
 intro yf ya yb C Sp Pn h1 A de m1 m2 m3 hC hy
 obtain⟨o,hb,m0,hpm,hnd0,es,clock,rfl,hE,hP,hcl⟩:=hm.mono (ku.mono aK.aD) de
 have hnod:(es.map (·.born)).Nodup:=hP.imp (λh=>Nat.ne_of_lt h)
 have hkeys:=hE.keys
 have hlen:es.length=(m0.map (·.1)).length:=by rw[hE.length];simp
 let ks:=m0.map (·.1)
 let kf:Nat->OSeat:=λi=>(ks[i]?).getD default
 let bf:Nat->Nat:=λi=>(es[i]?.map (·.born)).getD 0
 have hkey:∀(i:Nat)(en:MapEntry),es[i]? = some en->en.key=qV (kf i):=by
  intro i en hi
  have h2:(es.map (·.key))[i]? = some en.key:=by simp[hi]
  rw[hkeys]at h2
  simp only[zW]at h2
  simp only[kf,ks,zW]
  cases hq:m0[i]? with
  |none=>rw[hq]at h2;simp at h2
  |some p=>rw[hq]at h2;simp at h2;simp[←h2]
 refine nv (args:=[.func yf ya yb]) (cap:=[.pointer (some q)]) call305 ?_
 refine j1 RC rfl ntmps305 rfl λX hXM hX=>?_
 refine ea (bJ (eJ ty249 (aq.mono de) rfl (aI (KZ Pp hb rfl (λit=>bo ?_)))))
 refine gB (ι:=List Nat×LH×HF) (λi=>[]) (λi=>i.2.2) (λi=>[(it,Obj.mapIter (some bk) clock (xB (i.1.map bf)) clock)]++i.2.1) (λi=>(i.1.Nodup/\(∀j∈i.1,j<es.length)/\(∀j,j<es.length->j∈i.1))/\C (i.1.map kf) i.2.2 i.2.1) ?_ (λhx=>?_)
 .rintro⟨js,A1,h2⟩ ⟨⟨hn,hl,ha⟩,hC1⟩ e
  exact Ae RC (λa _ w _=>nw rfl a w) (λw hw=>hw.sub (List.sublist_append_right _ _)) (.inl ⟨rfl,.inl ⟨_,(CG ks js hn (λi hi=>by rw[←hlen];exact hl i hi) (λi hi=>ha i (by rw[hlen];exact hi))).trans (hpm.map _),hC1⟩⟩)
 refine ju (ι:=List Nat×LH×HF) (λi=>[(0,.func yf ya yb),(5,.pointer (some ⟨it,0,none⟩))]) (λi=>i.2.2) (λi=>[(it,Obj.mapIter (some bk) clock (xB (i.1.map bf)) clock)]++i.2.1) (λi=>i.1.Nodup/\(∀j∈i.1,j<es.length)/\C (i.1.map kf) i.2.2 i.2.1/\xJ h1 i.2.2) (λi=>es.length-i.1.length) ([],A,h1) ⟨rfl,rfl,trivial⟩ (λw hw=>hw) ⟨WH,λ_ hj=>(kA hj).elim,hC,kH _⟩ ?_
 rintro⟨js,A1,h2⟩ ⟨hn,hl,hC1,hle2⟩ ag e
 dsimp only at hn hl hC1 hle2
 have hlp:=AK hnod js hl
 show TT _ _ _ _ _ (upds e [(0,.func yf ya yb),(5,.pointer (some ⟨it,0,none⟩))]) _ _ h2 ([(it,Obj.mapIter (some bk) clock (xB (js.map bf)) clock)]++A1)
 refine ea (bJ (aI (Ok 0 rfl (hle2 _ _ hb) (λx hx=>hcl x (by simpa using hx)) (kE _) rfl (λh0=>?_) (λen hen=>?_))))
 .refine qt rfl rfl (bo (ea (ot rfl (kW rfl ?_))))
  exact hx (js,A1,h2) _ ⟨⟨hn,hl,hlp.1 h0⟩,hC1⟩ trivial
 .obtain⟨i,hi,hni⟩:=hlp.2 en hen
  have hil:i<es.length:=by
   rcases kM i es.length with h3|h3
   .exact h3
   .simp[List.getElem?_eq_none h3]at hi
  have hmem:en∈es.toArray.toList:=by simpa using xE hi
  have hn':(js++[i]).Nodup:=by
   rw[Xi];exact⟨hn,by simp,λa ha b hb' e'=>by simp at hb';subst hb';subst e';exact hni ha⟩
  have hl':∀j∈js++[i],j<es.length:=λj hj=>by
   rcases qH.1 hj with h3|h3
   .exact hl j h3
   .simp at h3;subst h3;exact hil
  obtain⟨rest,hrest⟩:=AA ks (js++[i]) hn' (λj hj=>by rw[←hlen];exact hl' j hj)
  have zy:js.length+1<=es.length:=by
   have h9:=hrest.length_eq
   rw[jA,List.length_map,jA]at h9
   have h10:ks.length=es.length:=hlen.symm
   simp only[zA,zB]at h9
   omega
  have hrest':(js.map kf++kf i::rest).Perm (m.map (·.1)):=by
   rw[Wx,jE]at hrest
   exact List.Perm.trans hrest (hpm.map _)
  obtain⟨ekey,evl,eborn⟩:=en
  have hk':ekey=qV (kf i):=hkey i _ hi
  subst hk'
  refine qt rfl rfl (bo ?_)
  refine ea (mC rfl (bL (m7 ?_)))
  refine ea (bJ ?_)
  refine aI (eG (Ld 0 rfl (hle2 _ _ hb) hmem (by simpa using hnod) rfl) ?_)
  refine qt rfl rfl (bH zc252 (λb3=>bE 0 ty252 rfl rfl rfl rfl rfl rfl (bo ?_)))
  refine ea (bJ (bp (dy 0 ty252 rfl rfl rfl ?_)))
  refine aI (mq [(b3,jG (qF (kf i)).toArray 252 (0,0)),(it,Obj.mapIter (some bk) clock ((xB (js.map bf)).push eborn) clock)] A1 rfl (hy (js.map kf) (kf i) [qV (kf i)] h2 A1 ⟨rest,hrest'⟩ hle2 hC1 rfl) rfl rfl (λh3 B hle3 hC3=>?_) (λh3 B hle3 hS3=>?_) (λch h3 B hle3 hP3 e'=>?_))
  .refine nB rfl (bo (ot rfl (bL (fW ?_))))
   have hpush:((xB (js.map bf)).push eborn)=xB ((js++[i]).map bf):=by simp[bf,hi]
   rw[hpush]
   refine cu (L':=[(it,Obj.mapIter (some bk) clock (xB ((js++[i]).map bf)) clock)]++B) (.cons _ (List.Sublist.refl _)) ?_
   refine ag (js++[i],B,h3) _ (by show es.length-(js++[i]).length<es.length-js.length;rw[jA];simp only[zA,zB];omega) ⟨hn',hl',by simpa using hC3,vA hle2 hle3⟩ ⟨rfl,rfl,trivial⟩
  .refine nB rfl (bo (mC rfl ?_))
   exact nu RC (λa _ w _=>nw rfl a w) (λw hw=>hw.sub (List.sublist_append_right _ _)) (.inl ⟨rfl,.inr hS3⟩)
  .exact RU RC (λw hw=>hw.sub (List.sublist_append_right _ _)) (.inr ⟨ch,rfl,hP3⟩)
end
section
open Go.Proofs Go.Proofs.Tryz
abbrev Oa{α : Type}(P:Program)(f:FuncId)(args:List Value)(h:HF)(R:Rp α)(E:TypeId)(S:List α->Prop):Prop:=
 pJ P f args.toArray h [] (λr h' G=>∃xs bb c,S xs/\r=.returned (.slice bb xs.length c)/\cN R E h' xs bb c G)
section steps
variable {P:Program} {b:Frame} {n:Nat} {ops:Array Oper} {F:List Frame->(Machine->Prop)->Prop} {e:Env} {ds:List Deferred} {X:Cx} {h:HF} {L:LH} {K:Env->HF->LH->Prop}
variable {d:Option Nat} {ty:TypeId} {pos:String} {af:Array Edge} {g:Option (Nat×Bool)}
theorem Dq{S:List α->Prop}(hc:∀args w,(callFunc f args).run P w=.ok (.enter f args) w)(hs:Oa P f vs h R E S)(hvs:ass.toList.map e.ev=vs)(t':∀h' xs bb c G,h.le h'->S xs->cN R E h' xs bb c G->K (pute e d (.slice bb xs.length c)) h' (L++G))(hg:guardB ops e ⟨d,.call ⟨.value (.func f),ass,ats⟩,ty,pos,af,g⟩=true:=by rfl):
  Stp P b n ops F ds X ⟨d,.call ⟨.value (.func f),ass,ats⟩,ty,pos,af,g⟩ e h L K:=by
 unfold Stp
 rw[if_pos hg]
 intro w hw
 have harr:ass.map e.ev=vs.toArray:=xS (by simp[←hvs])
 have hr:(execOp e.ev ⟨d,.call ⟨.value (.func f),ass,ats⟩,ty,pos,af,g⟩).run P w=.ok (.enter f vs.toArray) w:=by
  simp[execOp,resolve,XQ,xH,invoke,harr,hc]
 rw[hr]
 refine mO (by simp) (lq (tr.mono (hs w (hw.sub (List.nil_sublist _)).pre) ?_))
 rintro x w' ⟨h',B,hst,xs,bb,c,hS,rfl,hG⟩
 exact⟨h',_,(Xd (A:=[]) (F:=L) hw hst).perm xG,t' h' xs bb c B hst.le hS hG⟩
end steps
theorem Gi(h:HF)(it:Value)(S:List Int->Prop)(hit:I2 prog it (λ(k:Int)(_:HF)(vs:List Value)=>vs=[zC .i64 k]) S h)(hS:∀xs,S xs->xs.length<=1000000000000):Oa prog 123 [.slice none 0 0,it] h jB 3 S:=by
 refine cX Po rfl ntmps123 rfl λX hM hX=>?_
 refine ea (bJ (eO (λb1=>iu (bo (ea (ea (bJ (bp (bo (m7 (?_)))))))))))
 refine JV (it:=it) (S:=S) (ps:=[7])
  (λdone h' L'=>∃gb gc G,L'=[(b1,jG (xB [.slice gb done.length gc]) 31 (0,0))]++G/\cN jB 3 h' done gb gc G)
  (λ_ _ _=>False) (λ_ _ _=>False) rfl hit rfl (λx h' vs hv=>by rw[hv];rfl) ?_ (λ_ _ _ _ _ hf=>hf) (λ_ _ _ _ _ hf=>hf) ⟨none,0,[],rfl,cN.nil⟩ ?_ ?_ (λ_ _ _ _ _ hf=>hf.elim) (λ_ _ _ _ _ hf=>hf.elim)
 .rintro done h1 h2 B hl ⟨gb,gc,G,rfl,hG⟩;exact⟨gb,gc,G,rfl,hG.mono vH hl⟩
 .rintro l1 r1 lp1 done y vs hr L' X' ⟨rest,hrest⟩ de ⟨gb,gc,G,rfl,hG⟩ hv hlp hX' hXM
  obtain rfl:=hv
  have hlen:=hS _ hrest
  simp only[jA,zA]at hlen
  refine bJ (iu (bo ?_))
  refine kh 0 rfl hlp (m7 (bJ ?_))
  refine py 2 ty31 rfl rfl rfl (bp ?_)
  refine aI (bN (cells:=[.int .i64 y]) eP ty3 zc3 rfl rfl (by kernel_rfl) (λb3=>?_))
  refine aI (eB XF ([(b3,jG (xB [.int .i64 y]) 3 (0,0)),(l1,.loop { lp1 with state:=.busy }),(r1,.deferred (some [])),(b1,jG (xB [.slice gb done.length gc]) 31 (0,0))]) [] (λG=>[(b3,jG (xB [.int .i64 y]) 3 (0,0)),(l1,.loop { lp1 with state:=.busy }),(r1,.deferred (some [])),(b1,jG (xB [.slice gb done.length gc]) 31 (0,0))]++G) (G:=G) (show _=[(b3,jG (xB [.int .i64 y]) 3 (0,0)),(l1,.loop { lp1 with state:=.busy }),(r1,.deferred (some [])),(b1,jG (xB [.slice gb done.length gc]) 31 (0,0))]++(G++[])from by rw[List.append_nil];rfl) (λ_=>by first|rfl|simp only[vF]) eP ty3 zc3 rfl bytes3 hG rfl rfl (ic (ys:=[y]) 0 rfl (show cS jB hr [.int .i64 y] [y]from⟨[.int .i64 y],[],rfl,rfl,rfl,rfl⟩)) (by simp only[jA,zA,zB];omega) (by simp only[jA,zA,zB];omega) (λob2 oc2 G2 gr2=>?_))
  refine cW 3 ty31 rfl rfl rfl rfl rfl rfl (bo (fW ?_))
  refine cu (L':=(l1,.loop { lp1 with state:=.busy })::(r1,.deferred (some []))::([(b1,jG (xB [.slice ob2 (done++[y]).length oc2]) 31 (0,0))]++G2)) (.cons _ (List.Sublist.refl _)) ?_
  exact Lc rfl ⟨ob2,oc2,G2,rfl,gr2⟩
 .rintro r1 xs h2 L' hxs de ⟨gb,gc,G,rfl,hG⟩
  refine fW (ea (bJ (py 1 ty31 rfl rfl rfl (iu (bo ?_)))))
  refine m6 (L':=([(b1,jG (xB [.slice gb xs.length gc]) 31 (0,0))]++G)++markB [r1]) (List.perm_append_singleton _ _).symm ?_
  exact yo [r1] Po (λa ha w hw=>res1 rfl a ha w) (λw hw=>hw.sub (L':=G) (List.sublist_append_right _ _)) ⟨xs,gb,gc,hxs,rfl,hG⟩
theorem JK(h:HF)(it:Value)(S:List Int->Prop)(hit:I2 prog it (λ(k:Int)(_:HF)(vs:List Value)=>vs=[zC .i64 k]) S h)(hS:∀xs,S xs->xs.length<=1000000000000):Oa prog 61 [it] h jB 3 S:=by
 refine cX func61 rfl ntmps61 rfl λX hM hX=>?_
 refine ea (bJ (iu (bo (ea (bJ (bp ?_))))))
 refine aI (Dq call123 (Gi h it S hit hS) rfl (λh' xs bb c G de hxs hG=>?_))
 refine iu (bo ?_)
 exact nu func61 (λa ha w hw=>res1 rfl a ha w) (λw hw=>hw.sub (L':=G) (List.sublist_append_right _ _)) ⟨xs,bb,c,hxs,rfl,hG⟩
theorem E4(h:HF)(it:Value)(S:List OSeat->Prop)(hit:I2 prog it (λ(k:OSeat)(_:HF)(vs:List Value)=>vs=[qV k]) S h)(hS:∀xs,S xs->xs.length<=1000000000000):Oa prog 326 [.slice none 0 0,it] h Xn 252 S:=by
 refine cX Pl rfl ntmps326 rfl λX hM hX=>?_
 refine ea (bJ (eO (λb1=>iu (bo (ea (ea (bJ (bp (bo (m7 (?_)))))))))))
 refine JV (it:=it) (S:=S) (ps:=[7])
  (λdone h' L'=>∃gb gc G,L'=[(b1,jG (xB [.slice gb done.length gc]) 306 (0,0))]++G/\cN Xn 252 h' done gb gc G)
  (λ_ _ _=>False) (λ_ _ _=>False) rfl hit rfl (λx h' vs hv=>by rw[hv];rfl) ?_ (λ_ _ _ _ _ hf=>hf) (λ_ _ _ _ _ hf=>hf) ⟨none,0,[],rfl,cN.nil⟩ ?_ ?_ (λ_ _ _ _ _ hf=>hf.elim) (λ_ _ _ _ _ hf=>hf.elim)
 .rintro done h1 h2 B hl ⟨gb,gc,G,rfl,hG⟩;exact⟨gb,gc,G,rfl,hG.mono OSeat.aD hl⟩
 .rintro l1 r1 lp1 done y vs hr L' X' ⟨rest,hrest⟩ de ⟨gb,gc,G,rfl,hG⟩ hv hlp hX' hXM
  obtain rfl:=hv
  have hlen:=hS _ hrest
  simp only[jA,zA]at hlen
  refine bJ (bH zc252 (λb2=>bE 0 ty252 rfl rfl rfl rfl rfl rfl (bo ?_)))
  refine kh 1 rfl hlp (m7 (bJ ?_))
  refine py 3 ty306 rfl rfl rfl (dy 0 ty252 rfl rfl rfl ?_)
  refine aI (bN (cells:=[.int .i64 y.aT,.int .i64 y.bT]) Pz ty252 zc252 rfl rfl (by kernel_rfl) (λb3=>?_))
  refine aI (eB OSeat.dg ([(b3,jG (xB [.int .i64 y.aT,.int .i64 y.bT]) 252 (0,0)),(b2,jG (qF y).toArray 252 (0,0)),(l1,.loop { lp1 with state:=.busy }),(r1,.deferred (some [])),(b1,jG (xB [.slice gb done.length gc]) 306 (0,0))]) [] (λG=>[(b3,jG (xB [.int .i64 y.aT,.int .i64 y.bT]) 252 (0,0)),(b2,jG (qF y).toArray 252 (0,0)),(l1,.loop { lp1 with state:=.busy }),(r1,.deferred (some [])),(b1,jG (xB [.slice gb done.length gc]) 306 (0,0))]++G) (G:=G) (show _=[(b3,jG (xB [.int .i64 y.aT,.int .i64 y.bT]) 252 (0,0)),(b2,jG (qF y).toArray 252 (0,0)),(l1,.loop { lp1 with state:=.busy }),(r1,.deferred (some [])),(b1,jG (xB [.slice gb done.length gc]) 306 (0,0))]++(G++[])from by rw[List.append_nil];rfl) (λ_=>by first|rfl|simp only[vF]) Pz ty252 zc252 rfl bytes252 hG rfl rfl (ic (ys:=[y]) 0 rfl (show cS Xn hr [.int .i64 y.aT,.int .i64 y.bT] [y]from⟨[.int .i64 y.aT,.int .i64 y.bT],[],rfl,rfl,rfl,rfl⟩)) (by simp only[jA,zA,zB];omega) (by simp only[jA,zA,zB];omega) (λob2 oc2 G2 gr2=>?_))
  refine cW 4 ty306 rfl rfl rfl rfl rfl rfl (bo (fW ?_))
  refine cu (L':=(l1,.loop { lp1 with state:=.busy })::(r1,.deferred (some []))::([(b1,jG (xB [.slice ob2 (done++[y]).length oc2]) 306 (0,0))]++G2)) (.cons _ (.cons _ (List.Sublist.refl _))) ?_
  exact Lc rfl ⟨ob2,oc2,G2,rfl,gr2⟩
 .rintro r1 xs h2 L' hxs de ⟨gb,gc,G,rfl,hG⟩
  refine fW (ea (bJ (py 1 ty306 rfl rfl rfl (iu (bo ?_)))))
  refine m6 (L':=([(b1,jG (xB [.slice gb xs.length gc]) 306 (0,0))]++G)++markB [r1]) (List.perm_append_singleton _ _).symm ?_
  exact yo [r1] Pl (λa ha w hw=>res1 rfl a ha w) (λw hw=>hw.sub (L':=G) (List.sublist_append_right _ _)) ⟨xs,gb,gc,hxs,rfl,hG⟩
theorem I5(h:HF)(it:Value)(S:List OSeat->Prop)(hit:I2 prog it (λ(k:OSeat)(_:HF)(vs:List Value)=>vs=[qV k]) S h)(hS:∀xs,S xs->xs.length<=1000000000000):Oa prog 303 [it] h Xn 252 S:=by
 refine cX func303 rfl ntmps303 rfl λX hM hX=>?_
 refine ea (bJ (iu (bo (ea (bJ (bp ?_))))))
 refine aI (Dq call326 (E4 h it S hit hS) rfl (λh' xs bb c G de hxs hG=>?_))
 refine iu (bo ?_)
 exact nu func303 (λa ha w hw=>res1 rfl a ha w) (λw hw=>hw.sub (L':=G) (List.sublist_append_right _ _)) ⟨xs,bb,c,hxs,rfl,hG⟩
end
section
open Go.Proofs Go.Proofs.Tryz
theorem BH(h:HF)(it:Value)(ks:List Int)(hit:I2 prog it (λ(k:Int)(_:HF)(vs:List Value)=>vs=[zC .i64 k]) (λxs=>xs.Perm ks) h)(hk:ks.length<=1000000000000):
  j6 prog 196 [it] h (λv h'=>∃(b:Option Addr)(c:Nat),v=.slice b (sortI ks).length c/\SlC jB h' b c (sortI ks)):=by
 refine cX func196 rfl ntmps196 rfl λX hM hX=>?_
 refine ea (bJ (iu (bo (ea (bJ (bp ?_))))))
 refine aI (Dq call61 (JK h it _ hit (λxs hx=>by rw[hx.length_eq];exact hk)) rfl (λh' xs bb c G de hxs hG=>?_))
 refine iu (bo (ea (bJ (bp ?_))))
 refine aI (m9 [] G [] Pk (mP h' xs bb c G hG (by rw[hxs.length_eq];exact hk)) (by simp) rfl (λG' hG'=>?_))
 refine bo (ea (bJ (bp (iu (bo ?_)))))
 refine fQ vH [] G' [] (by simp) hM hG' (λh2 hle2 sl=>?_)
 refine lL [.slice bb xs.length c] func196 rfl ⟨rfl,trivial⟩ ⟨bb,c,?_,?_⟩
 .rw[←My hxs,iW];rfl
 .rw[←My hxs];exact sl
theorem AI(h:HF)(m:List (Int×aE))(OF:Nat)(hm:wa (zC .i64) (ku aE.rp) h OF m):j6 prog 197 [.map (some OF)] h (λv h'=>I2 prog v (λ(k:Int)(_:HF)(vs:List Value)=>vs=[(zC .i64) k]) (λxs=>xs.Perm (m.map (·.1))) h'):=by
 refine cX func197 rfl ntmps197 rfl λX hM hX=>?_
 refine ea (bJ (eO (λb1=>iu (bo (ea (bJ ?_))))))
 refine cz 0 rfl hM (λh2 hle2 hb2=>?_)
 refine aI (gM rfl rfl ?_)
 refine iu (bo ?_)
 refine lL [.func (.func 266) #[] #[.pointer (some ⟨b1,0,none⟩)]] func197 rfl ⟨rfl,trivial⟩ ?_
 exact yC h2 m OF ⟨b1,0,none⟩ (hm.mono (ku.mono aE.aD) hle2) (dO hb2)
theorem AJ(h:HF)(m:List (OSeat×aK))(OF:Nat)(hm:wa qV (ku aK.rp) h OF m):j6 prog 271 [.map (some OF)] h (λv h'=>I2 prog v (λ(k:OSeat)(_:HF)(vs:List Value)=>vs=[qV k]) (λxs=>xs.Perm (m.map (·.1))) h'):=by
 refine cX func271 rfl ntmps271 rfl λX hM hX=>?_
 refine ea (bJ (eO (λb1=>iu (bo (ea (bJ ?_))))))
 refine cz 0 rfl hM (λh2 hle2 hb2=>?_)
 refine aI (gM rfl rfl ?_)
 refine iu (bo ?_)
 refine lL [.func (.func 305) #[] #[.pointer (some ⟨b1,0,none⟩)]] func271 rfl ⟨rfl,trivial⟩ ?_
 exact yD h2 m OF ⟨b1,0,none⟩ (hm.mono (ku.mono aK.aD) hle2) (dO hb2)
end
section
open Go.Proofs Go.Proofs.Tryz
set_option maxHeartbeats 2000000
theorem pW(h gF)  : Ret prog 128 [I gF] h (.bool (fP gF)):=by
 refine sT func128 U ntmps128 U λX hM hX hF=>?_
 generalize hz:(fP gF)=z;have hs:=hz.symm
 exact W
theorem xk(h)(seq:List Int)(seq_v)(hseq:Itr prog seq_v sC seq h)(hsz:seq.length<=2000000):j6 prog 123 [zSN,seq_v] h (λv h'=>∃(rb0:Option Addr)(rc0:Nat),v=.slice rb0 (dI seq).length rc0/\SlC jB h' rb0 rc0 (dI seq)):=by
 refine cX Po U ntmps123 U λX hM hX=>?_
 have hs0:=@rfl _ (dI seq)
 refine sr (eO (λb1=>qO 8 U (dR (bZ (L':=([(b1,O [zSN] 31)])++markB []) ap ?_))))
 refine j9 (it:=seq_v) (xs:=seq) (ι:=(List Int)×Option Addr×Nat×LH×HF) [] (λi=>i.2.2.2.2) (λi=>[(b1,O [.slice i.2.1 i.1.length i.2.2.1] 31)]++(i.2.2.2.1)) (λs i=>dI seq=((dI.L1 (dI.K1)) s i.1)/\cN jB 3 i.2.2.2.2 i.1 i.2.1 i.2.2.1 i.2.2.2.1/\xJ h i.2.2.2.2/\i.1.length+s.length<=seq.length) (λ_=>False) (λ_=>False) 0 (λ_ _ _=>False) ([],none,0,[],h) Po U hseq U AO (λ_ _ _ _ _ hq=>hq) U (show[(b1,O [zSN] 31)]=_ from U) ⟨hs0,cN.nil,lf,(by simp)⟩ ?_ ?_ ?_ ?_ ?_
 .rintro l1 dm1 lp1 y1 rz1 vs1 ⟨aX,jd,ja,kj,hh1⟩ hr1 X hFR1 ⟨hs1,ff,hl1,u1_0⟩ hl01 hlr1 hv1 hX hXM hlp1 nx1 rt1 ex1 pn1
  obtain rfl:=hv1
  simp only[zA]at u1_0
  let z1:Nat×Obj:=(b1,O [.slice jd aX.length ja] 31)
  let z4:Nat×Obj:=(dm1,.deferred (some []))
  refine bZ (L':=[(l1,.loop lp1),z4,z1]++(kj++(markB []))) ap ?_
  let z3:Nat×Obj:=(l1,.loop { lp1 with state:=.busy })
  refine qT 3 U (kh 0 U hlp1 (qK 4 [2] U (aI (bN (cells:=[I y1]) eP ty3 zc3 U U kr (λb3=>aI (eB XF ([(b3,O [I y1] 3),z3,z4,z1]) (markB []) (λG=>[(b3,O [I y1] 3),z3,z4,z1]++(markB []++G)) ap (λ_=>ap) eP ty3 zc3 U bytes3 (ff.mono vH hlr1) U U (ic 0 U (cE y1 U U)) lo lo (λob2 oc2 G2 gr2=>qZ (qs ([(b3,O [I y1] 3),z3,z4,z1]) G2 (markB [])) (cW 3 ty31 U U U U U U (qO 2 U ?_)))))))))
  let z5:Nat×Obj:=(b1,O [.slice ob2 ((aX++[y1]).length) oc2] 31)
  exact cu (L':=[z3,z4,z5]++(G2++(markB []))) js (bZ (L':=rdH l1 dm1 lp1 (([z5]++G2)++markB [])) ap (nx1 ((aX++[y1]),ob2,oc2,G2,hr1) _ _ ⟨hs1,gr2,(hl1.t hlr1),(by simp only[jA,zA,zB]at *;omega)⟩ lf))
 .rintro dm1 ⟨aX,jd,ja,kj,hh1⟩ hn1 ⟨hs2,ff,hl1,u1_0⟩ hln1 hl01
  let z2:Nat×Obj:=(b1,O [.slice jd aX.length ja] 31)
  refine bZ (L':=[z2]++(kj++(markB (dm1::[])))) ap (qK 6 [0] U (fQ vH ([z2]) kj (markB (dm1::[])) ap hM (ff.mono vH hln1) (λh2 hle2 sl2=>?_)))
  have hs3:dI seq=aX:=hs2
  exact bZ (L':=([z2])++markB (dm1::[])) ap (oq (dm1::[]) [.slice jd aX.length ja] Po U rd ⟨jd,ja,congrArg (λr:List Int=>(.slice jd r.length ja:Value)) hs3.symm,(by rw[hs3];exact sl2)⟩)
 .exact xf
 .exact xf
 exact xf
instance kC123:Ct 123:=⟨_,call123,@xk⟩
theorem zm(h)(seq:List Int)(seq_v)(hseq:Itr prog seq_v sC seq h)(hsz:seq.length<=2000000):j6 prog 61 [seq_v] h (λv h'=>∃(rb0:Option Addr)(rc0:Nat),v=.slice rb0 (ew seq).length rc0/\SlC jB h' rb0 rc0 (ew seq)):=by
 refine sT func61 U ntmps61 U λX hM hX hF=>?_
 generalize hz:(ew seq)=z;have hs:=hz.symm
 exact W
theorem PU(h:p:=by
  exact kW U (bJ (oi i1 U (qO 2 U (cu (L':=[(b1,jr)]++(A)) js (ag2 (uo,aX,jr) hs7 ⟨ff,lc⟩)))))):p:=h
theorem zh(h l fo fm l_q ah known_q fB from__q)(hl:SlC aE.rp h fo fm l)(al:At h l_q [.slice fo l.length fm])(aknown:At h known_q [I ah])(afrom_:At h from__q [I fB])(hsz:l.length<=2000000):Itr prog (.func (.func 195) #[] (xB [.pointer (some l_q),.pointer (some known_q),.pointer (some from__q)])) tC (bV l ah fB) h:=by
 refine sj call195 ?_
 intro yf ya yb C Sp Pn h1 A de m1 m2 m3 hC hy
 refine j1 RB U ntmps195 U λX hXM hX=>?_
 have hs0:bV l ah fB=[]++bV l ah fB:=rfl
 refine sr (aI (R6 hXM (λb1 b1M=>qO 9 U (eJ ty26 (al.mono de) U (qL 3 [] U ?_)))))
 refine lp2 l (λi w=>[(0,.func yf ya yb),(2,.pointer (some known_q)),(3,.pointer (some from__q)),(5,.map (some b1)),(6,I w.1),(13,.slice fo l.length fm),(14,I (l.length:Int)),(15,I (i:Int))]) (λ_=>h1) (λw=>[(b1,w.2.2)]++(A)) (λi w=>lr (zC .i64) (ku aE.rp) h1 w.2.2 w.2.1/\w.2.1.length<=0+i) (λs1 i w=>[]++(bV.L1 ah fB (bV.K1)) s1 w.1 w.2.1) ((-1),[],.map #[] 0) ((hl.mono aE.aD de).1.1) hs0 ⟨(lr.nil (enc:=(zC .i64)) (V:=(ku aE.rp)) (h:=h1)),lc⟩ ?_ ?_
 .rintro i1 ⟨uo,aX,jr⟩ iP hs1 ⟨ff,pd⟩ e
  try dsimp only at ff pd
  refine qT 3 U (Cv 0 U b1M (λh8 hle7 hb3=>?_))
  have mc2:wa (zC .i64) (ku aE.rp) h8 b1 aX:=⟨_,hb3,ff.mono (ku.mono aE.aD) hle7⟩
  refine aI (cx call197 (AI h8 aX b1 mc2) U (λv4 h9 hle8 hp3=>aI (cx call196 (BH h9 v4 (aX.map Prod.fst) hp3 (by rw[List.length_map];omega)) U (λv5 h10 hle9 hp4=>?_))))
  obtain⟨rb2,rc2,rfl,sl2⟩:=hp4
  refine qL 3 [] U ?_
  refine lp2 (sortI (aX.map Prod.fst)) (λi w=>[(0,.func yf ya yb),(5,.map (some b1)),(39,.slice rb2 ((sortI (aX.map Prod.fst)).length) rc2),(40,I ((sortI (aX.map Prod.fst)).length:Int)),(41,I (i:Int))]) (λw=>w.2.2) (λw=>w.2.1) (λi w=>C w.1 w.2.2 w.2.1/\xJ h10 w.2.2) (λs2 i w=>w.1++(bV.L2 aX (bV.K2)) s2) ([],A,h10) sl2.1.1 hs1 ⟨(m1 _ _ _ _ ((hle7.t hle8).t hle9) hC),lf⟩ ?_ ?_
  .rintro i2 ⟨dn2,A2_,hh2⟩ DP hs2 ⟨hC2_,hl2⟩ e
   try dsimp only at hC2_ hl2
   refine dR ?_
   have hs3:bV l ah fB=dn2:=hs2.trans (List.append_nil _)
   exact sk [] (A:=A2_) RB U (List.Sublist.refl _) (.inl (hs3▸hC2_))
  rintro i2 ⟨dn2,A2_,hh2⟩ y2 rz2 hd2 zy tR Ib OP hs4 ⟨hC2_,hl2⟩ hx2 ag1 e
  try dsimp only at hC2_ hl2
  refine sr (tO zy U (qO 8 U (aI (iF (λy=>[I y]) eP ty3 (sl2.mono vH hl2).1 tR U U U (λq4 A10=>eJ ty3 A10 U (qO 8 U ?_))))))
  obtain⟨o3,hb5,hm5⟩:=(mc2.mono (ku.mono aE.aD) ((hle8.t hle9).t hl2))
  refine aI (pt (k:=y2) RD (gx nI) hb5 hm5 (ft zv63) (show(ku aE.rp) _ (.agg (xB [I 0,I 0,I 0,.string (⟨#[]⟩:ByteArray),zSN,zSN,zSN,I 0,I 0,I 0,.string (⟨#[]⟩:ByteArray),zSN,I 0])) (aE.mk 0 0 0 (aw.mk (⟨#[]⟩:ByteArray) [] [] [] (aj.mk 0 0 0 (⟨#[]⟩:ByteArray) []) 0))from⟨_,U,(pR.mk (jv.mk none 0 none 0 none 0 (eC.mk none 0))),U,⟨⟨zG,zG,zG,(aj.ok.of zG)⟩⟩⟩) U U (λv7 hv3=>?_))
  obtain⟨_,rfl,rr4,rfl,ok4⟩:=hv3
  have hx3:bV l ah fB=dn2++((y2,(mgetD aX y2 (aE.mk 0 0 0 (aw.mk (⟨#[]⟩:ByteArray) [] [] [] (aj.mk 0 0 0 (⟨#[]⟩:ByteArray) []) 0))))::(bV.L2 aX (bV.K2) rz2)):=hs4
  refine aI (mq ([]) A2_ ap (hy dn2 (y2,(mgetD aX y2 (aE.mk 0 0 0 (aw.mk (⟨#[]⟩:ByteArray) [] [] [] (aj.mk 0 0 0 (⟨#[]⟩:ByteArray) []) 0)))) _ _ _ _ hx3 (((hle7.t hle8).t hle9).t hl2) hC2_ ⟨rr4,U,ok4⟩) U U (λh14 A11 hle13 hC3=>?_) (λh15 A12 hle14 hS3=>?_) (λch3 h16 A13 hle15 hP3 e=>iY (oJ [] (A:=A13) RB (List.sublist_append_right _ _) hP3)))
  .have hs5:bV l ah fB=(dn2++[(y2,(mgetD aX y2 (aE.mk 0 0 0 (aw.mk (⟨#[]⟩:ByteArray) [] [] [] (aj.mk 0 0 0 (⟨#[]⟩:ByteArray) []) 0))))])++((bV.L2 aX (bV.K2) rz2)):=hx3.trans ap
   exact nB U (qO 5 U (oi i2 U (qO 2 U (ag1 ((dn2++[(y2,(mgetD aX y2 (aE.mk 0 0 0 (aw.mk (⟨#[]⟩:ByteArray) [] [] [] (aj.mk 0 0 0 (⟨#[]⟩:ByteArray) []) 0))))]),A11,h14) hs5 ⟨hC3,(hl2.t hle13)⟩))))
  exact nB U (qO 2 U (dR (n8 [] (A:=A12) RB U (List.Sublist.refl _) (.inr hS3))))
 rintro i1 ⟨uo,aX,jr⟩ y1 rz1 hd1 fY dz iT mF hs6 ⟨ff,pd⟩ hx1 ag2 e
 try dsimp only at ff pd
 refine sr (tO fY U (qO 8 U (aI (iR Cr ty63 (hl.mono aE.aD de).1 dz U U U (λ_ _ _ e=>e) (λq5 r2 A14 ok5=>eU ty63 A14 U U (bH zc63 (λb3=>bE 0 ty63 U U U U U U (jm (L':=[(b3,O (aE.cells y1 r2) 63),(b1,jr)]++(A)) U (qL 6 [0] U (eJ ty3 (aknown.mono de) U (qO 2 U (ly U (λc5=>?_) (λc5=>?_)))))))))))))
 .have c5p:=of_decide_eq_true c5
  have hs7:=hs6.trans (congrArg ([]++·) (bt c5))
  exact PU
 have c5p:=of_decide_eq_false c5
 have hs8:=hs6.trans (congrArg ([]++·) (bf c5))
 refine qK 11 [0] U (eJ ty3 (afrom_.mono de) U (qO 2 U (ly U (λc6=>?_) (λc6=>?_))))
 .have c6p:=of_decide_eq_true c6
  have hs9:=hs8.trans (congrArg ([]++·) (bt c6))
  refine qT 7 U (ly U (λc7=>?_) (λc7=>?_))
  .have c7p:=of_decide_eq_true c7
   have hs7:=hs9.trans (congrArg ([]++·) (bt c7))
   exact PU
  have c7p:=of_decide_eq_false c7
  have hs11:=hs9.trans (congrArg ([]++·) (bf c7))
  exact bL (eY ([(b3,O (aE.cells y1 r2) 63),(b1,jr)]) mixed kr jn (λgK _=>tm 0 U (tf 1 U U (rh ty3 (afrom_.mono de) U) (qA [2,3] U (bO kr (qT 3 U (dy 0 ty63 U U U (aI (mS 1 (k:=fB) (x:=y1) RD (gx nI) U ff U U ⟨_,U,r2,U,ok5⟩ (λmo3 hm6=>qO 3 U (oi i1 U (qO 2 U (cu (L':=[(b1,mo3)]++(A)) js (ag2 (y1.At,(mput aX fB y1),mo3) hs11 ⟨hm6,(by have:=ox aX fB y1;first|omega|(simp only[zB,zA]at *;omega))⟩))))))))))))))
 have c6p:=of_decide_eq_false c6
 have hs12:=hs8.trans (congrArg ([]++·) (bf c6))
 exact bL (qT 3 U (dy 0 ty63 U U U (aI (mS 1 (k:=y1.At) (x:=y1) RD (gx nI) U ff U U ⟨_,U,r2,U,ok5⟩ (λmo4 hm7=>qO 3 U (oi i1 U (qO 2 U (cu (L':=[(b1,mo4)]++(A)) js (ag2 (uo,(mput aX y1.At y1),mo4) hs12 ⟨hm7,(by have:=ox aX y1.At y1;first|omega|(simp only[zB,zA]at *;omega))⟩)))))))))
instance kI195:CtI 195:=⟨_,@zh⟩
theorem BG(h l fo fm eK ah)(hl:SlC aE.rp h fo fm l)(hsz:l.length<=2000000):j6 prog 129 [.slice fo l.length fm,I eK,I ah] h (λv h'=>∃(rv0:Value),v=rv0/\Itr prog rv0 tC (iy l eK ah) h'):=by
 refine sT func129 U ntmps129 U λX hM hX hF=>?_
 generalize hz:(iy l eK ah)=z;have hs:=hz.symm
 exact W
theorem sH(h l fo fm old)(hl:SlC aE.rp h fo fm l):j6 prog 198 [.slice fo l.length fm,.bool old] h (λv h'=>∃(rb0:Option Addr)(rc0:Nat),v=.slice rb0 (lx l old).length rc0/\SlC aE.rp h' rb0 rc0 (lx l old)):=by
 refine sT func198 U ntmps198 U λX hM hX hF=>?_
 generalize hz:(lx l old)=z;have hs:=hz.symm
 exact W
theorem zZ(h l fo fm old)(hl:SlC aE.rp h fo fm l)(hne:0<l.length):j6 prog 199 [.slice fo l.length fm,.bool old] h (λv h'=>∃(rb0:Option Addr)(rc0:Nat),v=.slice rb0 (jO l old).length rc0/\SlC aE.rp h' rb0 rc0 (jO l old)):=by
 refine sT func199 U ntmps199 U λX hM hX hF=>?_
 have hs0:=@rfl _ (jO l old)
 refine qT 10 U (aH hs0 U (λc1 hs1=>?_) (λc1 hs2=>?_))
 .refine qT 4 U ?_
  have hs3:jO l old=[]:=hs1
  exact nretH [zSN] ⟨none,0,congrArg (λr:List aE=>(.slice none r.length 0:Value)) hs3.symm,(by rw[hs3];exact zG)⟩
 refine qT 4 U (aI (R4 Cr ty63 hl.1 hl.2 ob U U U (λsb1 sc1 sl1=>an ?_)))
 have hs4:jO l old=(l.take ((1:Int)).toNat):=hs2
 exact nretH [.slice sb1 ((l.take ((1:Int)).toNat).length) sc1] ⟨sb1,sc1,congrArg (λr:List aE=>(.slice sb1 r.length sc1:Value)) hs4.symm,(by rw[hs4];exact sl1)⟩
theorem zY(h l fo fm old)(hl:SlC aE.rp h fo fm l)(hne:0<l.length):j6 prog 200 [.slice fo l.length fm,.bool old] h (λv h'=>∃(rb0:Option Addr)(rc0:Nat),v=.slice rb0 (kv l old).length rc0/\SlC aE.rp h' rb0 rc0 (kv l old)):=by
 refine sT func200 U ntmps200 U λX hM hX hF=>?_
 have hs0:=@rfl _ (kv l old)
 have hbl:=hl.1.1
 refine qK 9 [] U (i8 (v':=I ((l.length:Int)-1)) U (lv ob) (aI (R5 Cr ty63 hl.1 hl.2 ob U U U (λsb1 sc1 sl1=>an ?_))))
 have hs1:kv l old=(l.drop ((((l.length:Int)-1):Int)).toNat):=hs0
 exact nretH [.slice sb1 ((l.drop ((((l.length:Int)-1):Int)).toNat).length) sc1] (hs1▸⟨sb1,sc1,U,sl1⟩)
theorem uI(h)   : j6 prog 130 [] h (λv h'=>∃(rk0:Nat),v=.map (some rk0)/\wa (zC .i64) VFn h' rk0 (mZ)):=by
 refine sT func130 U ntmps130 U λX hM hX hF=>?_
 have hs0:=@rfl _ (mZ)
 refine qT 10 U (aI (pq (λb1=>aI (uU 0 (k:=1) (x:=(kQ (.func 199) #[] #[])) Ml (gx nI) U (lr.nil (enc:=(zC .i64)) (V:=VFn) (h:=h)) U U U (λmo1 hm1=>aI (uU 0 (k:=2) (x:=(kQ (.func 200) #[] #[])) Ml (gx nI) U hm1 U U U (λmo2 hm2=>bp (aI (uU 0 (k:=3) (x:=(kQ (.func 198) #[] #[])) Ml (gx nI) U hm2 U U U (λmo3 hm3=>bp (aI (uU 0 (k:=4) (x:=(kQ (.func 198) #[] #[])) Ml (gx nI) U hm3 U U U (λmo4 hm4=>qO 3 U (gE 0 U hM (λh1 hle1 hb1=>?_)))))))))))))))
 have mc1:wa (zC .i64) VFn h1 b1 (mput (mput (mput (mput ([]) 1 (kQ (.func 199) #[] #[])) 2 (kQ (.func 200) #[] #[])) 3 (kQ (.func 198) #[] #[])) 4 (kQ (.func 198) #[] #[])):=⟨_,hb1,hm4.mono VFn.mono hle1⟩
 have hs1:mZ=(mput (mput (mput (mput ([]) 1 (kQ (.func 199) #[] #[])) 2 (kQ (.func 200) #[] #[])) 3 (kQ (.func 198) #[] #[])) 4 (kQ (.func 198) #[] #[])):=hs0
 exact nretH [.map (some b1)] (hs1▸⟨b1,U,mc1⟩)
theorem Nt(mode)(l:List aE)(old):(judgesP mode l old).length<=l.length:=by
 unfold judgesP lx jO kv
 cases mode==1<;>cases mode==2<;>cases old<;>simp<;>omega
theorem Nr(h)(mode:Int)(hm:1<=mode/\mode<=4)(l fo fm old)(hl:SlC aE.rp h fo fm l)(hne:0<l.length):
  UM prog (mgetD mZ mode Value.nilFunc) [.slice fo l.length fm,.bool old] h (λv h'=>∃(rb0:Option Addr)(rc0:Nat),v=.slice rb0 (judgesP mode l old).length rc0/\SlC aE.rp h' rb0 rc0 (judgesP mode l old)):=by
 have:mode=1\/mode=2\/mode=3\/mode=4:=by omega
 rcases this with rfl|rfl|rfl|rfl
 .exact nv (cap:=[]) (args:=[.slice fo l.length fm,.bool old]) call199 (zZ h l fo fm old hl hne)
 .exact nv (cap:=[]) (args:=[.slice fo l.length fm,.bool old]) call200 (zY h l fo fm old hl hne)
 .exact nv (cap:=[]) (args:=[.slice fo l.length fm,.bool old]) call198 (sH h l fo fm old hl)
 exact nv (cap:=[]) (args:=[.slice fo l.length fm,.bool old]) call198 (sH h l fo fm old hl)
theorem uJ(h l fo fm dU bq ah)(hl:SlC aE.rp h fo fm l)(hsm:smV l)(hk:dN h):j6 prog 65 [.slice fo l.length fm,I dU,I bq,I ah] h (λv h'=>∃(rb0:Option Addr)(rc0:Nat),v=.tuple #[.slice rb0 ((aM l dU bq ah).1).length rc0,I ((aM l dU bq ah).2.1),I ((aM l dU bq ah).2.2)]/\SlC jB h' rb0 rc0 ((aM l dU bq ah).1)):=by
 refine cX Mk U ntmps65 U λX hM hX=>?_
 have hs0:=@rfl _ (aM l dU bq ah)
 have hsl:=hsm.len
 refine sr (eO (λb1=>eO (λb2=>qO 8 U (aS call76 (sS _ _ _ _ hl ob hk) U (qO 7 U (aH hs0 U (λc1 hs1=>?_) (λc1 hs2=>?_)))))))
 .refine qT 7 U ?_
  have hs3:aM l dU bq ah=([],0,(bR l)):=hs1
  exact lL [zSN,I 0,I (bR l)] Mk U rd ⟨none,0,congrArg (λr:(List Int×Int×Int)=>(.tuple #[.slice none r.1.length 0,I r.2.1,I r.2.2]:Value)) hs3.symm,(by rw[hs3];exact zG)⟩
 refine qK 5 [1] U (aS call128 (pW h dU) U (qO 2 U (gy 4 [25,26,27,28,29] 25 29 (!(fP bq)) U (λc2 hk1=>?_) (λe=>?_))))
 .exact qL 1 [0] U (aS call128 (pW h bq) U (qO 2 U (hk1 _ U)))
 refine bp (gy 4 [30,31,32,33,34] 30 34 (!(fP ah)) U (λc3 hk2=>?_) (λe=>?_))
 .exact bp (aS call128 (pW h ah) U (qO 2 U (hk2 _ U)))
 refine bp (gy 4 [35,36,37,38,39] 35 39 (decide (bq<dU)) U (λc4 hk3=>?_) (λe=>?_))
 .exact qL 4 [1,0] U (hk3 _ U)
 refine bo (aH hs2 U (λc5 hs4=>?_) (λc5 hs5=>?_))
 .refine qT 6 U ?_
  have hs6:aM l dU bq ah=([],0,1):=hs4
  exact lL [zSN,I 0,I 1] Mk U rd ⟨none,0,congrArg (λr:(List Int×Int×Int)=>(.tuple #[.slice none r.1.length 0,I r.2.1,I r.2.2]:Value)) hs6.symm,(by rw[hs6];exact zG)⟩
 refine qT 3 U (bH zc26 (λb3=>qO 3 U (bH zc4 (λb4=>cW 0 ty4 U U U U U U (qL 7 [3] U (aI (cx call129 (BG _ _ _ _ dU ah hl ob) U (λv1 h1 hle1 hp1=>?_))))))))
 obtain⟨_,rfl,mo1⟩:=hp1
 refine qO 2 U (dR (bZ (L':=([(b4,O [.bool false] 4),(b3,O [zSN] 26),(b2,O [I bq] 3),(b1,O [I dU] 3)])++markB []) ap ?_))
 refine QB (it:=v1) (xs:=(iy l dU ah)) (ι:=Bool×List aE×Option Addr×Nat×LH×HF) [] (λi=>i.2.2.2.2.2) (λi=>[(b4,O [.bool i.1] 4),(b3,O [.slice i.2.2.1 i.2.1.length i.2.2.2.1] 26),(b2,O [I bq] 3),(b1,O [I dU] 3)]++(i.2.2.2.2.1)) (λs i=>aM l dU bq ah=((aM.L1 dU bq (aM.K1)) s i.1 i.2.1)/\cN aE.rp 63 i.2.2.2.2.2 i.2.1 i.2.2.1 i.2.2.2.1 i.2.2.2.2.1/\xJ h1 i.2.2.2.2.2/\(∀x∈i.2.1,x∈l)/\(∀q∈s,q.2∈l)/\i.2.1.length+s.length<=l.length) (λ_=>False) 0 (λ_ _ _=>False) (false,[],none,0,[],h1) Mk U mo1 U BR (λ_ _ _ _ _ hq=>hq) U (show[(b4,O [.bool false] 4),(b3,O [zSN] 26),(b2,O [I bq] 3),(b1,O [I dU] 3)]=_ from U) ⟨hs5,cN.nil,lf,(λx hx=>(kA hx).elim),AR,(by have:=Fs l dU ah;simpa using this)⟩ ?_ ?_ ?_ ?_
 .rintro l1 dm1 lp1 y1 rz1 vs1 ⟨eX,cB,mI,mH,mJ,hh1⟩ hr1 X hFR1 ⟨hs7,oB,hl1,u1_0,u1_1,u1_2⟩ hl01 hlr1 hv1 hX hXM hlp1 nx1 rt1 ex1 pn1
  try dsimp only at oB hl1 u1_0 u1_1 u1_2 hlr1
  obtain⟨rr1_0,rfl,ok1_0⟩:=hv1
  simp only[zA]at u1_2
  let z2:Nat×Obj:=(b3,O [.slice mI cB.length mH] 26)
  let z6:Nat×Obj:=(dm1,.deferred (some []))
  refine bZ (L':=[(l1,.loop lp1),z6,(b4,O [.bool eX] 4),z2,(b2,O [I bq] 3),(b1,O [I dU] 3)]++(mJ++(markB []))) ap (qT 5 U (bH zc63 (λb6=>bE 0 ty63 U U U U U U (jm (L':=[(b6,O (aE.cells y1.2 rr1_0) 63),(l1,.loop lp1),z6,(b4,O [.bool eX] 4),z2,(b2,O [I bq] 3),(b1,O [I dU] 3)]++(mJ++(markB []))) U (bo (kh 1 U hlp1 (qK 8 [5] U (aH hs7 U (λc7 hs8=>?_) (λc7 hs9=>?_)))))))))
  .have c7p:=of_decide_eq_true c7
   exact cu (L':=[(l1,.loop { lp1 with state:=.busy }),z6,(b4,O [.bool eX] 4),z2,(b2,O [I bq] 3),(b1,O [I dU] 3)]++(mJ++(markB []))) js (bZ (L':=rdH l1 dm1 lp1 (([(b4,O [.bool eX] 4),z2,(b2,O [I bq] 3),(b1,O [I dU] 3)]++(mJ))++markB [])) ap (ex1 (eX,cB,mI,mH,mJ,hr1) _ _ _ ⟨hs8,(oB.mono aE.aD hlr1),(hl1.t hlr1),u1_0,(λq hq=>(kA hq).elim),(by simp only[zB,zA]at *;omega)⟩ lf U))
  have c7p:=of_decide_eq_false c7
  refine qK 5 [3] U (gy 4 [50,51,52,53,54] 50 54 (y1.1==dU) U (λc8 hk4=>?_) (λe=>?_))
  .exact qL 4 [6] U (hk4 _ U)
  refine cW 3 ty4 U U U U U U (qL 3 [4] U (dy 0 ty63 U U U (aI (bN (cells:=[I y1.2.No,I y1.2.At,I y1.2.dY,.string y1.2.aw.Name,.slice rr1_0.aw.kg y1.2.aw.dN.length rr1_0.aw.ke,.slice rr1_0.aw.ib y1.2.aw.aA.length rr1_0.aw.ia,.slice rr1_0.aw.pB y1.2.aw.dp.length rr1_0.aw.pA,I y1.2.aw.aO.Kind,I y1.2.aw.aO.N,I y1.2.aw.aO.No,.string y1.2.aw.aO.Name,.slice rr1_0.aw.aO.oV y1.2.aw.aO.L.length rr1_0.aw.aO.pk,I y1.2.aw.Mode]) Cr ty63 zc63 U U kr (λb7=>?_)))))
  let z1:Nat×Obj:=(b7,O [I y1.2.No,I y1.2.At,I y1.2.dY,.string y1.2.aw.Name,.slice rr1_0.aw.kg y1.2.aw.dN.length rr1_0.aw.ke,.slice rr1_0.aw.ib y1.2.aw.aA.length rr1_0.aw.ia,.slice rr1_0.aw.pB y1.2.aw.dp.length rr1_0.aw.pA,I y1.2.aw.aO.Kind,I y1.2.aw.aO.N,I y1.2.aw.aO.No,.string y1.2.aw.aO.Name,.slice rr1_0.aw.aO.oV y1.2.aw.aO.L.length rr1_0.aw.aO.pk,I y1.2.aw.Mode] 63)
  let z4:Nat×Obj:=(b4,O [.bool (eX||(y1.1==dU))] 4)
  let z5:Nat×Obj:=(l1,.loop { lp1 with state:=.busy })
  let z7:Nat×Obj:=(b6,O (aE.cells y1.2 rr1_0) 63)
  refine aI (eB aE.dg ([z1,z7,z5,z6,z4,z2,(b2,O [I bq] 3),(b1,O [I dU] 3)]) (markB []) (λG=>[z1,z7,z5,z6,z4,z2,(b2,O [I bq] 3),(b1,O [I dU] 3)]++(markB []++G)) ap (λ_=>ap) Cr ty63 zc63 U bytes63 (oB.mono aE.aD hlr1) U U (ic 0 U (cE (R:=aE.rp) (y1.2) U ⟨rr1_0,U,ok1_0⟩)) lo lo (λob1 oc1 G1 gr1=>qZ (qs ([z1,z7,z5,z6,z4,z2,(b2,O [I bq] 3),(b1,O [I dU] 3)]) G1 (markB [])) (cW 5 ty26 U U U U U U (qO 2 U ?_))))
  let z9:Nat×Obj:=(b3,O [.slice ob1 ((cB++[y1.2]).length) oc1] 26)
  exact cu (L':=[z5,z6,z4,z9,(b2,O [I bq] 3),(b1,O [I dU] 3)]++(G1++(markB []))) js (bZ (L':=rdH l1 dm1 lp1 (([z4,z9,(b2,O [I bq] 3),(b1,O [I dU] 3)]++G1)++markB [])) ap (nx1 ((eX||(y1.1==dU)),(cB++[y1.2]),ob1,oc1,G1,hr1) _ _ ⟨hs9,gr1,(hl1.t hlr1),(λx hx=>(qH.1 hx).elim (u1_0 x) (λhx=>by rw[jC.1 hx];exact u1_1 y1 (vB ..))),(λq hq=>u1_1 q (xC _ hq)),(by simp only[jA,zA,zB]at *;omega)⟩ lf))
 .rintro dm1 ⟨eX,cB,mI,mH,mJ,hh1⟩ hn1 ⟨hs10,oB,hl1,u1_0,u1_1,u1_2⟩ hln1 hl01
  try dsimp only at oB hl1 u1_0 u1_1 u1_2 hln1
  let z3:Nat×Obj:=(b3,O [.slice mI cB.length mH] 26)
  refine bZ (L':=[(b4,O [.bool eX] 4),z3,(b2,O [I bq] 3),(b1,O [I dU] 3)]++(mJ++(markB (dm1::[])))) ap (qK 7 [1] U (aH hs10 U (λc9 hs11=>?_) (λc9 hs12=>?_)))
  .refine qT 6 U ?_
   have hs13:aM l dU bq ah=([],0,0):=hs11
   exact bZ (L':=([(b4,O [.bool eX] 4),z3,(b2,O [I bq] 3),(b1,O [I dU] 3)]++(mJ))++markB (dm1::[])) ap (oq (dm1::[]) [zSN,I 0,I 0] Mk U rd ⟨none,0,congrArg (λr:(List Int×Int×Int)=>(.tuple #[.slice none r.1.length 0,I r.2.1,I r.2.2]:Value)) hs13.symm,(by rw[hs13];exact zG)⟩)
  refine qK 6 [1,1] U (i8 (v':=I ((cB.length:Int)-1)) U (lv ob) (oW aE.aD ([(b4,O [.bool eX] 4),z3,(b2,O [I bq] 3),(b1,O [I dU] 3)]) mJ (markB (dm1::[])) ap hM (oB.mono aE.aD hln1) (λh2 hle2 sl1=>?_)))
  have ho1:0<=(((cB.length:Int)-1):Int)/\(((cB.length:Int)-1):Int)<((cB).length:Int):=ob
  refine aI (yv Cr ty63 sl1.1 ho1 (di ho1) U U U (λ_ _ _ e=>e) (λq1 r1 A1 ok1=>qL 2 [] U (lQ (j:=12) ty3 A1 U U (qO 4 U (eY ([(b4,O [.bool eX] 4),z3,(b2,O [I bq] 3),(b1,O [I dU] 3)]) mixed kr jn (λgK _=>tm 1 U (tf 3 U U (rj 1 ty26 U U U) (tf 4 U U (rj 0 ty4 U U U) (tm 7 U (tn 0 U (cx call130 (uI h2) U (λv2 h3 hle3 hp2=>?_))))))))))))
  obtain⟨rk2,rfl,mo2⟩:=hp2
  refine⟨jl hle3,tu hle3 (tn 2 U ?_)⟩
  obtain⟨o1,hb1,hm1⟩:=mo2
  refine pt (k:=(nthI cB ((cB.length:Int)-1)).aw.Mode) Ml (gx nI) hb1 hm1 (ft zv185) (show VFn _ (.nilFunc) Value.nilFunc from U) U U (λv3 hv1=>?_)
  obtain rfl:=hv1
  refine⟨jn,tn 5 U (GX (Nr h3 ((nthI cB ((cB.length:Int)-1)).aw.Mode) (((te l).1 (by simpa using c1)).mode (u1_0 _ (ow ho1))) cB mI mH eX (sl1.mono aE.aD hle3) ob) U U (λv4 h4 hle4 hp3=>?_))⟩
  obtain⟨rb1,rc1,rfl,sl2⟩:=hp3
  have hjl:=Nt ((nthI cB ((cB.length:Int)-1)).aw.Mode) cB eX
  refine⟨jl hle4,tu hle4 (tf 6 U U (λ_ _ _=>Ke Cr U) (bO kr ?_))⟩
  refine lp2 (judgesP ((nthI cB ((cB.length:Int)-1)).aw.Mode) cB eX) (λi w=>[(8,.slice w.2.1 w.1.length w.2.2.1),(9,I ((nthI cB ((cB.length:Int)-1)).aw.Mode)),(75,.slice rb1 ((judgesP ((nthI cB ((cB.length:Int)-1)).aw.Mode) cB eX).length) rc1),(76,I (((judgesP ((nthI cB ((cB.length:Int)-1)).aw.Mode) cB eX).length:Nat):Int)),(77,I (i:Int))]) (λ_=>h4) (λw=>[(b4,O [.bool eX] 4),z3,(b2,O [I bq] 3),(b1,O [I dU] 3)]++(w.2.2.2++(markB (dm1::[])))) (λi w=>cN jB 3 h4 w.1 w.2.1 w.2.2.1 w.2.2.2/\w.1.length<=0+i) (λs2 i w=>(aM.L2 (aM.K2 cB)) s2 w.1) ([],none,0,[]) sl2.1.1 hs12 ⟨cN.nil,lo⟩ ?_ ?_
  .rintro i2 ⟨mG,qy,qw,pF⟩ iP hs14 ⟨rB,Io⟩ e
   try dsimp only at rB Io
   refine qT 3 U (aI (m9 ([(b4,O [.bool eX] 4),z3,(b2,O [I bq] 3),(b1,O [I dU] 3)]) pF (markB (dm1::[])) Pk (mP h4 mG qy qw pF rB (by first|assumption|omega|(simp only[jA,zA,zB] ;omega))) ap U (λG4 gr4=>qO 9 U (fQ vH ([(b4,O [.bool eX] 4),z3,(b2,O [I bq] 3),(b1,O [I dU] 3)]) G4 (markB (dm1::[])) ap hM gr4 (λh6 hle6 sl4=>?_)))))
   have hs15:aM l dU bq ah=((sortI mG),(nthI cB ((cB.length:Int)-1)).aw.Mode,0):=hs14
   exact bZ (L':=([(b4,O [.bool eX] 4),z3,(b2,O [I bq] 3),(b1,O [I dU] 3)])++markB (dm1::[])) ap (oq (dm1::[]) [.slice qy mG.length qw,I ((nthI cB ((cB.length:Int)-1)).aw.Mode),I 0] Mk U rd ⟨qy,qw,(by rw[hs15];simp[retVal,iW]),(by rw[hs15];exact sl4)⟩)
  rintro i2 ⟨mG,qy,qw,pF⟩ y2 rz2 hd2 zy tR Ib OP hs16 ⟨rB,Io⟩ hx2 ag1 e
  try dsimp only at rB Io
  refine sr (tO zy U (qO 8 U (aI (iR Cr ty63 sl2.1 tR U U U (λ_ _ _ e=>e) (λq3 r3 A3 ok3=>eU ty63 A3 U U (bH zc63 (λb10=>bE 0 ty63 U U U U U U (jm (L':=[(b10,O (aE.cells y2 r3) 63),(b4,O [.bool eX] 4),z3,(b2,O [I bq] 3),(b1,O [I dU] 3)]++(pF++(markB (dm1::[])))) U ?_))))))))
  let z8:Nat×Obj:=(b10,O (aE.cells y2 r3) 63)
  exact qL 5 [0] U (aI (bN (cells:=[I y2.No]) eP ty3 zc3 U U kr (λb11=>aI (eB XF ([(b11,O [I y2.No] 3),z8,(b4,O [.bool eX] 4),z3,(b2,O [I bq] 3),(b1,O [I dU] 3)]) (markB (dm1::[])) (λG=>[(b11,O [I y2.No] 3),z8,(b4,O [.bool eX] 4),z3,(b2,O [I bq] 3),(b1,O [I dU] 3)]++(markB (dm1::[])++G)) ap (λ_=>ap) eP ty3 zc3 U bytes3 rB U U (ic 0 U (cE (y2.No) U U)) lo lo (λob3 oc3 G5 gr5=>qZ (qs ([(b11,O [I y2.No] 3),z8,(b4,O [.bool eX] 4),z3,(b2,O [I bq] 3),(b1,O [I dU] 3)]) G5 (markB (dm1::[]))) (qO 4 U (oi i2 U (qO 2 U (cu (L':=[(b4,O [.bool eX] 4),z3,(b2,O [I bq] 3),(b1,O [I dU] 3)]++(G5++(markB (dm1::[])))) js (ag1 ((mG++[y2.No]),ob3,oc3,G5) hs16 ⟨gr5,lo⟩))))))))))
 .exact xf
 exact xf
theorem C9(h mode permits qp qo)(hpermits:SlC qW h qp qo permits):Ret prog 207 [I mode,.slice qp permits.length qo] h (I (iX mode permits)):=by
 refine sT func207 U ntmps207 U λX hM hX hF=>?_
 have hs0:=@rfl _ (iX mode permits)
 refine qT 7 U (aI (cx call130 (uI h) U (λv1 h1 hle1 hp1=>?_)))
 obtain⟨rk1,rfl,mo1⟩:=hp1
 refine bp ?_
 obtain⟨o1,hb1,hm1⟩:=mo1
 refine aI (we (k:=mode) Ml (gx nI) hb1 hm1 (ft zv185) (show VFn _ (.nilFunc) Value.nilFunc from U) U U (λv2 hv1=>?_))
 obtain rfl:=hv1
 refine qO 11 U (aH hs0 U (λc1 hs1=>?_) (λc1 hs2=>?_))
 .exact sr (an (nretP [I 270] (ci hs1)))
 refine qK 8 [] U (aH hs2 U (λc2 hs4=>?_) (λc2 hs5=>?_))
 .have c2p:=of_decide_eq_true c2
  exact sr (an (nretP [I 1] (ci hs4)))
 have c2p:=of_decide_eq_false c2
 exact bL (qT 4 U (nretP [I 0] (ci hs5)))
instance kC207:Ct 207:=⟨_,call207,@C9⟩
theorem wO(h s pS pK)(f:(Bool->Bool))(f_v)(hs:SlC qW h pS pK s)(hf:∀(h':HF)(el:Bool),xJ h h'->qX prog f_v [.bool el] h' [] (.bool (f el))):Ret prog 276 [.slice pS s.length pK,f_v] h (I (eZ s f)):=by
 refine sT func276 U ntmps276 U λX hM hX hF=>?_
 generalize hz:(eZ s f)=z;have hs:=hz.symm
 have HA:=h0 [0,1,7] 8 (λs1 i=>(eZ.L1 f (eZ.K1)) s1 i)
 exact W
instance kC276:Ct 276:=⟨_,call276,@wO⟩
theorem zj(h l fo fm)(ok:(Bool->Bool))(ok_v)(hl:SlC qW h fo fm l)(hok:∀(h':HF)(el:Bool),xJ h h'->qX prog ok_v [.bool el] h' [] (.bool (ok el))):Ret prog 208 [.slice fo l.length fm,ok_v] h (I (iI l ok)):=by
 refine sT func208 U ntmps208 U λX hM hX hF=>?_
 generalize hz:(iI l ok)=z;have hs:=hz.symm
 exact W
instance kC208:Ct 208:=⟨_,call208,@zj⟩
theorem Ab(h Ma)  : Ret prog 209 [.bool Ma] h (.bool (mp Ma)):=by
 refine sT func209 U ntmps209 U λX hM hX hF=>?_
 generalize hz:(mp Ma)=z;have hs:=hz.symm
 exact W
instance kC209:Ct 209:=⟨_,call209,@Ab⟩
theorem Aa(h Ma)  : Ret prog 210 [.bool Ma] h (.bool (m5 Ma)):=by
 refine sT func210 U ntmps210 U λX hM hX hF=>?_
 generalize hz:(m5 Ma)=z;have hs:=hz.symm
 exact W
instance kC210:Ct 210:=⟨_,call210,@Aa⟩
theorem Cp(h mode permits qp qo)(hpermits:SlC qW h qp qo permits)(hsz0:permits.length<=2000000):j6 prog 138 [I mode,.slice qp permits.length qo] h (λv h'=>∃(rb0:Option Addr)(rc0:Nat),v=.tuple #[.slice rb0 ((bK mode permits).1).length rc0,.bool ((bK mode permits).2.1),I ((bK mode permits).2.2)]/\SlC jB h' rb0 rc0 ((bK mode permits).1)):=by
 refine sT func138 U ntmps138 U λX hM hX hF=>?_
 generalize hz:(bK mode permits)=z;have hs:=hz.symm
 have HA:=hG [5,55] 56 4 jB 3 (λs1 i w=>(bK.L1 (bK.K1 permits)) s1 i w)
 have HB:=hG [5,55] 56 4 jB 3 (λs2 i w=>(bK.L2 (bK.K2 permits)) s2 i w)
 have HC:=hG [5,55] 56 4 jB 3 (λs3 i w=>(bK.L3 (bK.K3)) s3 i w)
 exact W
instance kC138:Ct 138:=⟨_,call138,@Cp⟩
theorem uK(h mode permits qp qo)(hpermits:SlC qW h qp qo permits)(hsz0:permits.length<=2000000):Ret prog 68 [I mode,.slice qp permits.length qo] h (.tuple #[.bool ((gf mode permits).1),I ((gf mode permits).2)]):=by
 refine sT func68 U ntmps68 U λX hM hX hF=>?_
 generalize hz:(gf mode permits)=z;have hs:=hz.symm
 exact W
theorem ud(h s pS pK)(f:(aE->Bool))(f_v)(hs:SlC aE.rp h pS pK s)(hf:∀(h':HF)(el:aE)(BV:pR),xJ h h'->aE.ok h' el BV->qX prog f_v [.agg (aE.cells el BV).toArray] h' [] (.bool (f el))):Ret prog 159 [.slice pS s.length pK,f_v] h (I (bx s f)):=by
 refine sT func159 U ntmps159 U λX hM hX hF=>?_
 generalize hz:(bx s f)=z;have hs:=hz.symm
 have HA:=h0 [0,1,7] 8 (λs1 i=>(bx.L1 f (bx.K1)) s1 i)
 exact W
theorem Gb(s:List aE)(f:aE->Bool):bx s f<(s.length:Int):=by
 have key:∀(l:List aE)(i:Nat),bx.L1 f bx.K1 l i<((i+l.length:Nat):Int):=by
  intro l
  induction l with
  |nil=>intro i;simp only[bx.L1,bx.K1];omega
  |cons y l ih=>
   intro i
   simp only[bx.L1,Bool.cond_eq_ite,zA]
   split
   .omega
   have:=ih (i+1);omega
 have:=key s 0
 simpa[bx]using this
theorem xI(h v Wk v0 v0_q)(hv:aE.ok h v Wk)(av0:At h v0_q [I v0]):Ret prog 160 [.agg (aE.cells v Wk).toArray,.pointer (some v0_q)] h (.bool (eW v v0)):=by
 refine sT func160 U ntmps160 U λX hM hX hF=>?_
 generalize hz:(eW v v0)=z;have hs:=hz.symm
 exact W
theorem rR(h c pQ no)(hc:bU.ok h c pQ):KI prog 91 [.agg (bU.cells c pQ).toArray,I no] h errV (fX c no) (λ(r:aw)v h'=>∃(rr0:jv),v=.agg (aw.cells r rr0).toArray/\aw.ok h' r rr0):=by
 refine cX func91 U ntmps91 U λX hM hX=>?_
 have hs0:=@rfl _ (fX c no)
 refine sr (eO (λb1=>eO (λb2=>bH zc61 (λb3=>qL 6 [2] U (cz 1 U hM (λh1 hle1 hb1=>aI (gM U U (aS call159 (ud _ _ _ _ (λel=>eW el no) (.func (.func 160) #[] #[Q b2]) (hc.Register.Versions.mono aE.aD hle1) (λh' el BV de a0_o=>iA call160 (xI h' el BV no ⟨b2,0,none⟩ a0_o ((dO hb1).mono de)))) U (qO 8 U (aH hs0 U (λc1 hs1=>?_) (λc1 hs2=>?_)))))))))))
 .have c1p:=of_decide_eq_true c1
  exact bJ (aI (eG (Gq RL U U) (aI (Gl U Bq (λe=>iY (Ms [] func91 hs1))))))
 have c1p:=of_decide_eq_false c1
 refine qK 7 [1] U ?_
 have ho1:0<=((bx c.Register.Versions (λel=>eW el no)):Int)/\((bx c.Register.Versions (λel=>eW el no)):Int)<((c.Register.Versions).length:Int):=(by have hq:=Gb c.Register.Versions (λel=>eW el no);simp only[decide_eq_true_eq,decide_eq_false_iff_not,qC,zE,xF,Bool.not_eq_false',Bool.and_eq_false_iff,Bool.or_eq_false_iff,beq_iff_eq,beq_eq_false_iff_ne,bne_iff_ne,bne_eq_false_iff_eq,jA,zA,zB,List.length_drop]at *;omega)
 refine aI (yv Cr ty63 (hc.Register.Versions.mono aE.aD hle1).1 ho1 (di ho1) U U U (λ_ _ _ e=>e) (λq1 r1 A1 ok1=>qL 1 [] U (EF (j:=3) ty61 A1 U U (bE 0 ty61 U U U U U U (bo ?_)))))
 have hs3:fX c no=(Except.ok ((nthI c.Register.Versions (bx c.Register.Versions (λel=>eW el no))).aw)):=hs2
 exact dR (Mp [] [.agg (aw.cells ((nthI c.Register.Versions (bx c.Register.Versions (λel=>eW el no))).aw) r1.aw).toArray] func91 U ⟨⟨0,_,_,_,_,U,U,.inl ⟨ty61,U⟩⟩,trivial⟩ hs3 ⟨r1.aw,U,ok1.aw⟩)
theorem zq(h)(x:aK)(v0 v0_q v1 v1_q)(av0:At h v0_q [I v0])(av1:At h v1_q [I v1]):Ret prog 261 [.agg (aK.cells x).toArray,.pointer (some v0_q),.pointer (some v1_q)] h (.tuple #[.agg (qF ((jq x v0 v1).1)).toArray,.bool ((jq x v0 v1).2)]):=by
 refine cX func261 U ntmps261 U λX hM hX=>?_
 have hs0:=@rfl _ (jq x v0 v1)
 refine sr (eO (λb1=>bH zc252 (λb2=>qO 3 U ?_)))
 let z1:Nat×Obj:=(b1,O (aK.cells x) 120)
 refine TG ([(b2,O [I x.eD,I x.cM] 252),z1]) [(4,Q b2),(5,.bool (decide (x.At<=v0)&&decide (x.dY<=v1)))] (λe=>?_) (λhk1=>?_)
 rotate_left
 .refine eY ([z1]) mixed kr jn (λgK _=>?_)
  refine qB [0] U (tf 1 U U (rj 0 ty3 U U U) (qB [2] U (tf 3 U U (rj 0 ty3 U U U) (qB [5] U (tf 6 U U (rj 0 ty3 U U U) (tf 7 U U (rh ty3 av0 U) (qA [8,9] U ?_)))))))
  refine fE 15 U (λc1=>?_) (λc1=>?_)
  .have c1p:=of_decide_eq_true c1
   exact tf 10 U U (λ_ _ _=>yZ S4 U) (tf 11 U U (rj 0 ty3 U U U) (tf 12 U U (rh ty3 av1 U) (qA [13,14] U (tn 4 U (ie (cells:=[I x.eD,I x.cM]) (places:=[(0,1),(1,1)]) Mo zc252 kr kr (⟨jn,(tn 15 U (uS 0 ty252 U U U U U U (⟨jn,(qA [16] U (bO kr (hk1 _ ⟨U,(cb (show decide (x.dY<=v1)=(decide (x.At<=v0)&&decide (x.dY<=v1))from by rw[c1]<;>rfl)),trivial⟩)))⟩)))⟩))))))
  have c1p:=of_decide_eq_false c1
  exact tk 10 U U (qR 11 4 U (tn 4 U (ie (cells:=[I x.eD,I x.cM]) (places:=[(0,1),(1,1)]) Mo zc252 kr kr (⟨jn,(tn 15 U (uS 0 ty252 U U U U U U (⟨jn,(qA [16] U (bO kr (hk1 _ ⟨U,(cb (show false=(decide (x.At<=v0)&&decide (x.dY<=v1))from by rw[c1]<;>rfl)),trivial⟩)))⟩)))⟩))))
 have hs1:jq x v0 v1=((OSeat.mk x.eD x.cM),(decide (x.At<=v0)&&decide (x.dY<=v1))):=hs0
 exact wd [.agg (xB [I x.eD,I x.cM]),.bool (decide (x.At<=v0)&&decide (x.dY<=v1))] func261 U hX ⟨⟨0,_,_,_,_,U,U,.inl ⟨ty252,U⟩⟩,U,trivial⟩ (congrArg (λr:(OSeat×Bool)=>(.tuple #[.agg (qF r.1).toArray,.bool r.2]:Value)) hs1.symm)
instance kC261:Ct 261:=⟨_,call261,@zq⟩
theorem xw(h l fo fm)(key:(aK->OSeat×Bool))(key_v)(later:(aK->aK->Bool))(later_v)(hl:SlC aK.rp h fo fm l)(hkey:∀(h':HF)(el:aK),xJ h h'->qX prog key_v [.agg (aK.cells el).toArray] h' [] (.tuple #[.agg (qF ((key el).1)).toArray,.bool ((key el).2)]))(hlater:∀(h':HF)(el:aK)(Eo:aK),xJ h h'->qX prog later_v [.agg (aK.cells el).toArray,.agg (aK.cells Eo).toArray] h' [] (.bool (later el Eo))):j6 prog 262 [.slice fo l.length fm,key_v,later_v] h (λv h'=>∃(rk0:Nat),v=.map (some rk0)/\wa qV (ku aK.rp) h' rk0 (df l key later)):=by
 refine sT func262 U ntmps262 U λX hM hX hF=>?_
 have hs0:=@rfl _ (df l key later)
 refine qT 6 U (aI (pq (λb1=>qL 9 [] U ?_)))
 refine lp2 l (λi w=>[(1,key_v),(2,later_v),(7,.map (some b1)),(15,.slice fo l.length fm),(16,I (l.length:Int)),(17,I (i:Int))]) (λ_=>h) (λw=>[(b1,w.2)]) (λi w=>lr qV (ku aK.rp) h w.2 w.1/\w.1.length<=0+i) (λs1 i w=>(df.L1 key later (df.K1)) s1 w.1) ([],.map #[] 0) hl.1.1 hs0 ⟨(lr.nil (enc:=qV) (V:=(ku aK.rp)) (h:=h)),lc⟩ ?_ ?_
 .rintro i1 ⟨aX,jr⟩ iP hs1 ⟨ff,pd⟩ e
  refine qT 5 U (gE 0 U hM (λh1 hle1 hb1=>?_))
  have mc1:wa qV (ku aK.rp) h1 b1 aX:=⟨_,hb1,ff.mono (ku.mono aK.aD) hle1⟩
  have hs2:df l key later=aX:=hs1
  exact nretH [.map (some b1)] (hs2▸⟨b1,U,mc1⟩)
 rintro i1 ⟨aX,jr⟩ y1 rz1 hd1 fY dz iT mF hs3 ⟨ff,pd⟩ hx1 ag1 e
 refine sr (tO fY U (qO 8 U (aI (iF aK.cells RN ty120 hl.1 dz U U U (λq2 A2=>eU ty120 A2 U U (bH zc120 (λb5=>bE 0 ty120 U U U U U U (qO 4 U (dy 0 ty120 U U U (aI (ka (v:=.tuple #[.agg (qF ((key y1).1)).toArray,.bool ((key y1).2)]) [] (List.nil_sublist _) (hkey h y1 lf) U U (qO 3 U (bH zc252 (λb6=>bE 0 ty252 U U U U U U (qO 5 U (dy 0 ty252 U U U (aI (mT 2 (k:=(key y1).1) Pp yA U ff (ft zv120) (show(ku aK.rp) _ (.agg (xB [I 0,I 0,I 0,I 0,I 0,I 0,.bool false])) (aK.mk 0 0 0 0 0 0 false)from⟨_,U,U⟩) U U (λv2 hv2=>?_)))))))))))))))))))
 obtain⟨_,rfl,rfl⟩:=hv2
 refine qO 3 U (bH zc120 (λb7=>bE 0 ty120 U U U U U U (qO 6 U (kI 10 [34,35,36,37,38,39,40,41,42,43,44] 34 44 ((!(mhas aX ((key y1).1)))||(!(later (mgetD aX ((key y1).1) (aK.mk 0 0 0 0 0 0 false)) y1))) U (λc1 hk1=>?_) (λe=>?_)))))
 .refine qO 3 U (gy 6 [37,38,39,40,41,42,43] 37 43 (!(later (mgetD aX ((key y1).1) (aK.mk 0 0 0 0 0 0 false)) y1)) U (λc2 hk2=>?_) (λe=>?_))
  .exact bp (dy 0 ty120 U U U (dy 2 ty120 U U U (aI (ka (v:=.bool (later (mgetD aX ((key y1).1) (aK.mk 0 0 0 0 0 0 false)) y1)) [] (List.nil_sublist _) (hlater h (mgetD aX ((key y1).1) (aK.mk 0 0 0 0 0 0 false)) y1 lf) U U (qO 2 U (hk2 _ U))))))
  exact mY U (hk1 _ U)
 refine bo (aH hs3 U (λc3 hs4=>?_) (λc3 hs5=>?_))
 .exact bJ (bp (dy 1 ty252 U U U (dy 2 ty120 U U U (aI (mS 3 (k:=(key y1).1) (x:=y1) Pp yA U ff U U ⟨_,U,U⟩ (λmo1 hm1=>qO 3 U (oi i1 U (qO 2 U (cu (L':=[(b1,mo1)]) js (ag1 ((mput aX ((key y1).1) y1),mo1) hs4 ⟨hm1,(by have:=ox aX ((key y1).1) y1;first|omega|(simp only[zB,zA]at *;omega))⟩))))))))))
 exact bL (qT 2 U (oi i1 U (qO 2 U (cu (L':=[(b1,jr)]) js (ag1 (aX,jr) hs5 ⟨ff,lc⟩)))))
instance kC262:Ct 262:=⟨_,call262,@xw⟩
theorem zp(h)(a:aK)(ky:aK)  : Ret prog 263 [.agg (aK.cells a).toArray,.agg (aK.cells ky).toArray] h (.bool (jp a ky)):=by
 refine sT func263 U ntmps263 U λX hM hX hF=>?_
 generalize hz:(jp a ky)=z;have hs:=hz.symm
 exact W
instance kC263:Ct 263:=⟨_,call263,@zp⟩
theorem tN(h l fo fm lu ah)(hl:SlC aK.rp h fo fm l):j6 prog 189 [.slice fo l.length fm,I lu,I ah] h (λv h'=>∃(rk0:Nat),v=.map (some rk0)/\wa qV (ku aK.rp) h' rk0 (dK l lu ah)):=by
 refine sT func189 U ntmps189 U λX hM hX hF=>?_
 generalize hz:(dK l lu ah)=z;have hs:=hz.symm
 exact W
end
end Go.Sg
