import Derived.Test.YtafbfagbjekhhaaGreatDoorCards
import Derived.Test.YtafbfagbjekhhaaGreatDoorTie
import Derived.ProofKit
import Derived.Deep.DeepHandedRow
import Derived.Test.YtafbfagbjekhhaaGreatDoorL8
/- A part of the proof of MissingLeast. -/
set_option linter.unusedVariables false
set_option linter.unusedSimpArgs false
set_option maxRecDepth 100000
open List renaming length_cons→zA,length_append→jA,length_nil→zB,toArray→xB,range→vD,append_assoc→jE,nil_append→vF,perm_append_comm→xG,cons_append→xL
open Go.Sg.HF renaming le_trans→vA,le→xJ
open Go.Sg.Rp renaming int→jB,bw→vH,bool→qW,str→WN,iZ→Xl,jZ→XF
open Go.IntKind renaming wrap→kB
open Bool renaming and_eq_true→qC,or_eq_true→zE,not_eq_true'→xF
open Go.Value renaming int→zC
open Go.Sg.Register renaming cells→zD,ok→zL
open Nat renaming le_refl→kE,zero_le→zH
open Go.Sg.SlC renaming nil→zG
open Go.Sg.Lack renaming rp→jJ,cells→xQ,aD→WP
open Go.Sg.Budget renaming cells→xM,rp→zR
open Go.Sg.Use renaming cells→Xm,rp→XC,aD→Yf

namespace Go.Sg
section
open Go.Proofs Go.Proofs.Tryz
set_option maxHeartbeats 2000000
theorem kO(h kU oo oh)(hwho:SlC jB h oo oh kU)(hsz0:kU.length<=2000000):j6 prog 16 [.slice oo kU.length oh] h (λv h'=>∃(rr0:pC),v=.agg (zD (cH kU) rr0).toArray/\zL h' (cH kU) rr0):=by
 refine cX func16 U ntmps16 U λX hM hX=>?_
 have hs0:=@rfl _ (cH kU)
 refine sr (bH zc30 (λb1=>qO 3 U (aI (ie (cells:=[I 2,I 2,I 0,.string lsz2,zSN]) (places:=[(0,1),(1,1),(2,1),(3,1),(4,1)]) underlying59 zc59 kr kr (bH zc59 (λb2=>bE 0 ty59 U U U U U U (qO 3 U (aI (bN (cells:=[.string lsz2]) Px ty9 zc9 U U kr (λb3=>aI (bN (cells:=[.string lsz1]) Px ty9 zc9 U U kr (λb4=>dy 2 ty59 U U U (aI (ie (cells:=[.string lsz1,I 0,I 0,I 2,I 2,I 0,.string lsz2,zSN]) (places:=[(0,1),(1,1),(2,1),(3,5)]) underlying65 zc65 kr kr (aI (bN (cells:=[.string lsz1,I 0,I 0,I 2,I 2,I 0,.string lsz2,zSN]) GB ty65 zc65 U U kr (λb5=>dy 3 ty59 U U U (aI (ie (cells:=[.string lsz0,.slice (zAD b4) 1 1,.slice (zAD b3) 1 1,.slice (zAD b5) 1 1,I 2,I 2,I 0,.string lsz2,zSN,I 2]) (places:=[(0,1),(1,1),(2,1),(3,1),(4,5),(9,1)]) Py zc61 kr kr (cz 1 U hM (λh1 hle1 hb1=>?_)))))))))))))))))))))
 have sl1:SlC WN h1 (zAD b4) 1 ([lsz1]):=cS.slB0 (T:=9) (fz:=(0,0)) ((show cS WN h [.string lsz1] ([lsz1])from⟨[.string lsz1],[],rfl,rfl,rfl,rfl⟩).mono Xl hle1) hb1
 refine cz 1 U hM (λh2 hle2 hb2=>?_)
 have sl2:SlC WN h2 (zAD b3) 1 ([lsz2]):=cS.slB0 (T:=9) (fz:=(0,0)) ((show cS WN h1 [.string lsz2] ([lsz2])from⟨[.string lsz2],[],rfl,rfl,rfl,rfl⟩).mono Xl hle2) hb2
 refine cz 0 U hM (λh3 hle3 hb3=>?_)
 have sl3:SlC fC.rp h3 (zAD b5) 1 ([(fC.mk lsz1 0 0 lszx)]):=cS.slB0 (T:=65) (fz:=(0,0)) ((show cS fC.rp h2 [.string lsz1,I 0,I 0,I 2,I 2,I 0,.string lsz2,zSN] ([(fC.mk lsz1 0 0 lszx)])from⟨[.string lsz1,I 0,I 0,I 2,I 2,I 0,.string lsz2,zSN],[],rfl,rfl,⟨(Co.mk (eC.mk none 0)),rfl,((show fC.ok h (fC.mk lsz1 0 0 lszx) (Co.mk (eC.mk none 0))from⟨(show aj.ok h lszx (eC.mk none 0)from aj.ok.of zG)⟩).mono (hle1.t hle2))⟩,rfl⟩).mono fC.aD hle3) hb3
 refine aI (cx call52 (xq _ _ _ (show aw.ok h3 lszp (jv.mk (zAD b4) 1 (zAD b3) 1 (zAD b5) 1 (eC.mk none 0))from⟨(sl1.mono Xl (hle2.t hle3)),(sl2.mono Xl hle3),sl3,(show aj.ok h3 lszx (eC.mk none 0)from aj.ok.of zG)⟩) VW) U (λv1 h4 hle4 hp1=>?_))
 obtain⟨rr1,rfl,ok1⟩:=hp1
 refine qO 3 U (bH zc61 (λb6=>bE 0 ty61 U U U U U U (qO 4 U (dy 0 ty61 U U U (aI (ie (cells:=[I 0,I 0,I 0,.string (lszq.Name),.slice rr1.kg (lszq.dN.length) rr1.ke,.slice rr1.ib (lszq.aA.length) rr1.ia,.slice rr1.pB (lszq.dp.length) rr1.pA,I (lszq.aO.Kind),I (lszq.aO.N),I (lszq.aO.No),.string (lszq.aO.Name),.slice rr1.aO.oV (lszq.aO.L.length) rr1.aO.pk,I (lszq.Mode)]) (places:=[(0,1),(1,1),(2,1),(3,10)]) underlying63 zc63 kr kr (aI (bN (cells:=[I 0,I 0,I 0,.string (lszq.Name),.slice rr1.kg (lszq.dN.length) rr1.ke,.slice rr1.ib (lszq.aA.length) rr1.ia,.slice rr1.pB (lszq.dp.length) rr1.pA,I (lszq.aO.Kind),I (lszq.aO.N),I (lszq.aO.No),.string (lszq.aO.Name),.slice rr1.aO.oV (lszq.aO.L.length) rr1.aO.pk,I (lszq.Mode)]) Cr ty63 zc63 U U kr (λb7=>aI (ie (cells:=[I 5,I 0,I 0,I 0,I 0,I 1099511627776,zSN,zSN,zSN,Y 0,Y 0,Y 0,Y 0,Y 0,Y 0,Y 0,Y 0,Y 0,Y 0,Y 0,Y 0,Y 0,Y 0,Y 0,Y 0,Y 0,Y 0,Y 0,Y 0,Y 0,Y 0,Y 0,Y 0,Y 0,Y 0,Y 0,Y 0,Y 0,Y 0,Y 0,Y 0]) (places:=[(0,1),(1,1),(2,1),(3,1),(4,1),(5,1),(6,1),(7,1),(8,1),(9,32)]) underlying54 zc54 kr kr (aI (bN (cells:=[I 5,I 0,I 0,I 0,I 0,I 1099511627776,zSN,zSN,zSN,Y 0,Y 0,Y 0,Y 0,Y 0,Y 0,Y 0,Y 0,Y 0,Y 0,Y 0,Y 0,Y 0,Y 0,Y 0,Y 0,Y 0,Y 0,Y 0,Y 0,Y 0,Y 0,Y 0,Y 0,Y 0,Y 0,Y 0,Y 0,Y 0,Y 0,Y 0,Y 0]) xh ty54 zc54 U U kr (λb8=>aI (ie (cells:=[zSN,zSN,zSN,zSN,.slice (zAD b7) 1 1,.slice (zAD b8) 1 1,zSN]) (places:=[(0,1),(1,1),(2,1),(3,1),(4,1),(5,1),(6,1)]) underlying30 zc30 kr kr (bH zc30 (λb9=>bE 0 ty30 U U U U U U (qO 6 U ?_)))))))))))))))))
 let z1:Nat×Obj:=(b8,Obj.cells (xB (I 5::I 0::I 0::I 0::I 0::I 1099511627776::zSN::zSN::zSN::Y 0::Y 0::Y 0::Y 0::Y 0::Y 0::Y 0::Y 0::Y 0::Y 0::Y 0::Y 0::Y 0::Y 0::Y 0::Y 0::Y 0::Y 0::Y 0::Y 0::Y 0::Y 0::Y 0::Y 0::Y 0::Y 0::Y 0::Y 0::Y 0::Y 0::Y 0::Y 0::[])) 54 (0,0))
 let z2:Nat×Obj:=(b7,O [I 0,I 0,I 0,.string (lszq.Name),.slice rr1.kg (lszq.dN.length) rr1.ke,.slice rr1.ib (lszq.aA.length) rr1.ia,.slice rr1.pB (lszq.dp.length) rr1.pA,I (lszq.aO.Kind),I (lszq.aO.N),I (lszq.aO.No),.string (lszq.aO.Name),.slice rr1.aO.oV (lszq.aO.L.length) rr1.aO.pk,I (lszq.Mode)] 63)
 let z3:Nat×Obj:=(b1,O [zSN,zSN,zSN,zSN,zSN,zSN,zSN] 30)
 let z6:Nat×Obj:=(b2,O [I 2,I 2,I 0,.string lsz2,zSN] 59)
 let z8:Nat×Obj:=(b6,O (aw.cells lszq rr1) 61)
 refine gB (ι:=Nat×List aK×Option Addr×Nat×LH) (λi=>[(0,.slice oo kU.length oh),(2,Q b1),(6,Q b9)]) (λi=>h4) (λi=>[(b9,O [.slice i.2.2.1 i.2.1.length i.2.2.2.1,zSN,zSN,zSN,.slice (zAD b7) 1 1,.slice (zAD b8) 1 1,zSN] 30),z1,z2,z8,z6,z3]++(i.2.2.2.2)) (λi=>i.1<=(vD 3).length/\cH kU=((cH.K1 kU) i.2.1)/\cN aK.rp 120 h4 i.2.1 i.2.2.1 i.2.2.2.1 i.2.2.2.2/\i.2.1.length<=0+i.1) ?_ (λhx1=>?_)
 .rintro⟨i1,lN,oA,oz,s7⟩ ⟨iP,hs1,xY,Ip⟩ e
  try dsimp only at iP xY Ip
  refine qK 7 [] U ?_
  refine lp2 kU (λi w=>[(2,Q b1),(6,Q b9),(41,.slice oo kU.length oh),(42,I (kU.length:Int)),(43,I (i:Int))]) (λ_=>h4) (λw=>[(b9,O [.slice oA lN.length oz,zSN,zSN,zSN,.slice (zAD b7) 1 1,.slice (zAD b8) 1 1,.slice w.2.1 w.1.length w.2.2.1] 30),z1,z2,z8,z6,z3]++(s7++(w.2.2.2))) (λi w=>cN ay.rp 67 h4 w.1 w.2.1 w.2.2.1 w.2.2.2/\w.1.length<=0+i) (λs2 i w=>(cH.L2 (cH.K2 lN)) s2 i w.1) ([],none,0,[]) ((hwho.mono vH (((hle1.t hle2).t hle3).t hle4)).1.1) hs1 ⟨cN.nil,lo⟩ ?_ ?_
  .rintro i2 ⟨n9,sY,sX,DU⟩ DP hs2 ⟨AU,Ik⟩ e
   try dsimp only at AU Ik
   let z4:Nat×Obj:=(b9,O [.slice oA lN.length oz,zSN,zSN,zSN,.slice (zAD b7) 1 1,.slice (zAD b8) 1 1,.slice sY n9.length sX] 30)
   let z7:Nat×Obj:=(b1,O [.slice oA lN.length oz,zSN,zSN,zSN,.slice (zAD b7) 1 1,.slice (zAD b8) 1 1,.slice sY n9.length sX] 30)
   refine sr (dy 0 ty30 U U U (bE 5 ty30 U U U U U U (jm (L':=[z4,z1,z2,z8,z6,z7]++(s7++(DU))) U (bo (fQ aK.aD ([z4,z1,z2,z8,z6,z7]) s7 (DU) ap hM xY (λh9 hle9 sl8=>gE 2 U hM (λh10 hle10 hb6=>?_)))))))
   have sl9:SlC aE.rp h10 (zAD b7) 1 ([(aE.mk 0 0 0 lszq)]):=cS.slB0 (T:=63) (fz:=(0,0)) ((show cS aE.rp h9 [I 0,I 0,I 0,.string (lszq.Name),.slice rr1.kg (lszq.dN.length) rr1.ke,.slice rr1.ib (lszq.aA.length) rr1.ia,.slice rr1.pB (lszq.dp.length) rr1.pA,I (lszq.aO.Kind),I (lszq.aO.N),I (lszq.aO.No),.string (lszq.aO.Name),.slice rr1.aO.oV (lszq.aO.L.length) rr1.aO.pk,I (lszq.Mode)] ([(aE.mk 0 0 0 lszq)])from⟨[I 0,I 0,I 0,.string (lszq.Name),.slice rr1.kg (lszq.dN.length) rr1.ke,.slice rr1.ib (lszq.aA.length) rr1.ia,.slice rr1.pB (lszq.dp.length) rr1.pA,I (lszq.aO.Kind),I (lszq.aO.N),I (lszq.aO.No),.string (lszq.aO.Name),.slice rr1.aO.oV (lszq.aO.L.length) rr1.aO.pk,I (lszq.Mode)],[],rfl,rfl,⟨(pR.mk rr1),rfl,((show aE.ok h4 (aE.mk 0 0 0 lszq) (pR.mk rr1)from⟨ok1⟩).mono hle9)⟩,rfl⟩).mono aE.aD hle10) hb6
   refine gE 1 U hM (λh11 hle11 hb7=>?_)
   have sl10:SlC ao.rp h11 (zAD b8) 1 ([(ao.mk 5 0 0 0 0 1099511627776 ([]) ([]) ([]) (λ_=>0))]):=cS.slB0 (T:=54) (fz:=(0,0)) ((show cS ao.rp h10 [I 5,I 0,I 0,I 0,I 0,I 1099511627776,zSN,zSN,zSN,Y 0,Y 0,Y 0,Y 0,Y 0,Y 0,Y 0,Y 0,Y 0,Y 0,Y 0,Y 0,Y 0,Y 0,Y 0,Y 0,Y 0,Y 0,Y 0,Y 0,Y 0,Y 0,Y 0,Y 0,Y 0,Y 0,Y 0,Y 0,Y 0,Y 0,Y 0,Y 0] ([(ao.mk 5 0 0 0 0 1099511627776 ([]) ([]) ([]) (λ_=>0))])from⟨[I 5,I 0,I 0,I 0,I 0,I 1099511627776,zSN,zSN,zSN,Y 0,Y 0,Y 0,Y 0,Y 0,Y 0,Y 0,Y 0,Y 0,Y 0,Y 0,Y 0,Y 0,Y 0,Y 0,Y 0,Y 0,Y 0,Y 0,Y 0,Y 0,Y 0,Y 0,Y 0,Y 0,Y 0,Y 0,Y 0,Y 0,Y 0,Y 0,Y 0],[],rfl,rfl,⟨(oH.mk none 0 none 0 none 0),rfl,((show ao.ok h4 (ao.mk 5 0 0 0 0 1099511627776 ([]) ([]) ([]) (λ_=>0)) (oH.mk none 0 none 0 none 0)from⟨zG,zG,zG⟩).mono (hle9.t hle10))⟩,rfl⟩).mono ao.aD hle11) hb7
   refine fQ ay.aD ([z4,z8,z6,z7]) DU ([]) ap hM (AU.mono ay.aD ((hle9.t hle10).t hle11)) (λh12 hle12 sl11=>?_)
   have hs3:cH kU=(Register.mk lN ([]) ([]) ([]) ([(aE.mk 0 0 0 lszq)]) ([(ao.mk 5 0 0 0 0 1099511627776 ([]) ([]) ([]) (λ_=>0))]) n9):=hs2
   exact lL [.agg (xB [.slice oA lN.length oz,zSN,zSN,zSN,.slice (zAD b7) 1 1,.slice (zAD b8) 1 1,.slice sY n9.length sX])] func16 U ⟨⟨3,_,_,_,_,U,U,.inl ⟨ty30,U⟩⟩,trivial⟩ ⟨(pC.mk oA oz none 0 none 0 none 0 (zAD b7) 1 (zAD b8) 1 sY sX),congrArg (λr:Register=>(.agg (zD r (pC.mk oA oz none 0 none 0 none 0 (zAD b7) 1 (zAD b8) 1 sY sX)).toArray:Value)) hs3.symm,(by rw[hs3];exact(show zL h12 (Register.mk lN ([]) ([]) ([]) ([(aE.mk 0 0 0 lszq)]) ([(ao.mk 5 0 0 0 0 1099511627776 ([]) ([]) ([]) (λ_=>0))]) n9) (pC.mk oA oz none 0 none 0 none 0 (zAD b7) 1 (zAD b8) 1 sY sX)from⟨(sl8.mono aK.aD ((hle10.t hle11).t hle12)),zG,zG,zG,(sl9.mono aE.aD (hle11.t hle12)),(sl10.mono ao.aD hle12),sl11⟩))⟩
  rintro i2 ⟨n9,sY,sX,DU⟩ y2 rz2 hd2 zy tR Ib OP hs4 ⟨AU,Ik⟩ hx2 ag1 e
  try dsimp only at AU Ik
  refine sr (tO zy U (qO 9 U (aI (iF (λy=>[I y]) eP ty3 (hwho.mono vH (((hle1.t hle2).t hle3).t hle4)).1 tR U U U (λq5 A5=>eJ ty3 A5 U (qL 9 [0] U (aI (ie (cells:=[I (i2:Int),I 0,I 0,I 5,I y2,I y2,I 0,.bool false]) (places:=[(0,1),(1,1),(2,1),(3,1),(4,1),(5,1),(6,1),(7,1)]) underlying67 zc67 kr kr ?_))))))))
  let z5:Nat×Obj:=(b9,O [.slice oA lN.length oz,zSN,zSN,zSN,.slice (zAD b7) 1 1,.slice (zAD b8) 1 1,.slice sY n9.length sX] 30)
  exact aI (bN (cells:=[I (i2:Int),I 0,I 0,I 5,I y2,I y2,I 0,.bool false]) Ac ty67 zc67 U U kr (λb15=>aI (eB ay.dg ([(b15,O [I (i2:Int),I 0,I 0,I 5,I y2,I y2,I 0,.bool false] 67),z5,z1,z2,z8,z6,z3]++(s7)) ([]) (λG=>[(b15,O [I (i2:Int),I 0,I 0,I 5,I y2,I y2,I 0,.bool false] 67),z5,z1,z2,z8,z6,z3]++(s7++G)) ap (λ_=>ap) Ac ty67 zc67 U bytes67 AU U U (ic 0 U (cE (ay.mk (i2:Int) 0 0 5 y2 y2 0 false) U U)) lo lo (λob6 oc6 G6 gr6=>qL 1 [] U (cW 1 ty28 U U U U U U (qO 3 U (oi i2 U (qO 2 U (cu (L':=[(b9,O [.slice oA lN.length oz,zSN,zSN,zSN,.slice (zAD b7) 1 1,.slice (zAD b8) 1 1,.slice ob6 ((n9++[(ay.mk (i2:Int) 0 0 5 y2 y2 0 false)]).length) oc6] 30),z1,z2,z8,z6,z3]++(s7++G6)) js (ag1 ((n9++[(ay.mk (i2:Int) 0 0 5 y2 y2 0 false)]),ob6,oc6,G6) hs4 ⟨gr6,lo⟩))))))))))
 refine ju (ι:=Nat×List aK×Option Addr×Nat×LH×List Nat) (λi=>[(0,.slice oo kU.length oh),(2,Q b1),(6,Q b9),(28,I (i.1:Int))]) (λi=>h4) (λi=>[(b9,O [.slice i.2.2.1 i.2.1.length i.2.2.2.1,zSN,zSN,zSN,.slice (zAD b7) 1 1,.slice (zAD b8) 1 1,zSN] 30),z1,z2,z8,z6,z3]++(i.2.2.2.2.1)) (λi=>(vD 3).drop i.1=i.2.2.2.2.2/\i.1<=(vD 3).length/\cH kU=((cH.L1 (cH.K1 kU)) i.2.2.2.2.2 i.1 i.2.1)/\cN aK.rp 120 h4 i.2.1 i.2.2.1 i.2.2.2.1 i.2.2.2.2.1/\i.2.1.length<=0+i.1) (λi=>i.2.2.2.2.2.length) (0,[],none,0,[],(vD 3)) rd sw ⟨U,zH _,hs0,cN.nil,lo⟩ ?_
 rintro⟨i1,lN,oA,oz,s7,s1⟩ ⟨hd1,iP,hs5,xY,Ip⟩ ag2 e
 try dsimp only at hd1 iP xY Ip
 rcases s1 with _|⟨y1,rz1⟩
 .have ml:decide ((i1:Int)<3)=false:=by simpa using nF hd1
  exact sr (fO ml U (qO 4 U (hx1 (i1,lN,oA,oz,s7) _ ⟨iP,hs5,xY,lo⟩ rd)))
 have fY:decide ((i1:Int)<3)=true:=by simpa using tc hd1
 have iT:i1<3:=by simpa using ip hd1
 refine sr (tO fY U (qL 16 [0] U (oi i1 U (aI (ie (cells:=[I (i1:Int),I 0,I 0,I 0,I (((i1+1):Nat):Int),I 1,.bool false]) (places:=[(0,1),(1,1),(2,1),(3,1),(4,1),(5,1),(6,1)]) underlying120 zc120 kr kr ?_)))))
 let z9:Nat×Obj:=(b9,O [.slice oA lN.length oz,zSN,zSN,zSN,.slice (zAD b7) 1 1,.slice (zAD b8) 1 1,zSN] 30)
 exact aI (bN (cells:=[I (i1:Int),I 0,I 0,I 0,I (((i1+1):Nat):Int),I 1,.bool false]) RN ty120 zc120 U U kr (λb16=>aI (eB aK.dg ([(b16,O [I (i1:Int),I 0,I 0,I 0,I (((i1+1):Nat):Int),I 1,.bool false] 120),z9,z1,z2,z8,z6,z3]) ([]) (λG=>[(b16,O [I (i1:Int),I 0,I 0,I 0,I (((i1+1):Nat):Int),I 1,.bool false] 120),z9,z1,z2,z8,z6,z3]++G) ap (λ_=>ap) RN ty120 zc120 U bytes120 xY U U (ic 0 U (cE (aK.mk (i1:Int) 0 0 0 (((i1+1):Nat):Int) 1 false) U U)) lo lo (λob7 oc7 G7 gr7=>qL 1 [] U (cW 1 ty22 U U U U U U (qO 3 U (oi i1 U (qO 2 U (cu (L':=[(b9,O [.slice ob7 ((lN++[(aK.mk (i1:Int) 0 0 0 (((i1+1):Nat):Int) 1 false)]).length) oc7,zSN,zSN,zSN,.slice (zAD b7) 1 1,.slice (zAD b8) 1 1,zSN] 30),z1,z2,z8,z6,z3]++G7) js (ag2 ((i1+1),(lN++[(aK.mk (i1:Int) 0 0 0 (((i1+1):Nat):Int) 1 false)]),ob7,oc7,G7,rz1) _ (Nat.lt_succ_self _) ⟨kx hd1,ip hd1,hs5,gr7,lo⟩ rd))))))))))
theorem I6(h a Tw Tv ky Cm Ck)(ha:SlC jJ h Tw Tv a)(CT:SlC jJ h Cm Ck ky):Ret prog 10 [.slice Tw a.length Tv,.slice Cm ky.length Ck] h (.bool (my a ky)):=by
 refine sT func10 U ntmps10 U λX hM hX hF=>?_
 have hs0:=@rfl _ (my a ky)
 refine qK 13 [] U (aH hs0 U (λc1 hs1=>?_) (λc1 hs2=>?_))
 .exact sr (an (nretP [.bool false] (cs hs1)))
 refine qT 6 U ?_
 refine lp0 a (λi=>[(0,.slice Tw a.length Tv),(1,.slice Cm ky.length Ck),(5,I (i:Int))]) ([]) (λs1 i=>(my.L1 ky (my.K1)) s1 i) ha.1.1 hs2 ?_ ?_ ?_
 .rintro i1 iP hs4 e
  exact sr (an (nretP [.bool true] (cs hs4)))
 .rintro i1 y1 rz1 hd1 fY dz iT mF hs6 hx1 ag1 e
  refine qK 6 [] U (tO fY U (qO 6 U (eY ([]) mixed kr jn (λgK _=>qA [0,1] U (ir 2 (enc:=xQ) gK jn ei nR ty45 ha.1 (nthZ dz) (gI dz) U U U U kr (λq3 A3=>tf 3 U U (λ_ _ hj=>mW ty45 (A3.mono hj.1) U U) (qA [4,5] U ?_)))))))
  have ho2:0<=((i1:Int):Int)/\((i1:Int):Int)<((ky).length:Int):=ob
  refine ir 6 (enc:=xQ) gK jn ei nR ty45 CT.1 ho2 (di ho2) U U U U kr (λq4 A4=>tf 7 U U (λ_ _ hj=>mW ty45 (A4.mono hj.1) U U) (tf 8 U U (λ_ _ _=>UB (IG y1 (nthI ky (i1:Int))) eqg45 U U) (bO kr (aH hs6 U (λc3 hs7=>?_) (λc3 hs8=>?_)))))
  .exact sr (an (nretP [.bool false] (cs hs7)))
  exact bL (qT 3 U (oi i1 U (an (ag1 hs8))))
 rintro i1 hd1 ml hx e
 exact qK 6 [] U (fO ml U (qO 3 U (hx _ rd)))
theorem sU(h cK gU)(signed:Int)(want Ri Rh)(mK:zL h cK gU)(hwant:SlC jJ h Ri Rh want)(hsm:smR cK)(hln:cK.cd.length<20)(hok:(bF cK [signed] [] 5 9 9).2=0->vU cK 5 9 9)(hk:dN h):Ret prog 17 [.agg (zD cK gU).toArray,I signed,.slice Ri want.length Rh] h (.bool (vl cK signed want)):=by
 refine sT func17 U ntmps17 U λX hM hX hF=>?_
 have hs0:=@rfl _ (vl cK signed want)
 refine sr (eO (λb1=>qO 4 U (dy 0 ty30 U U U (bp (aI (bN (cells:=[I signed]) eP ty3 zc3 U U kr (λb2=>cz 0 U hM (λh1 hle1 hb1=>?_))))))))
 have sl1:SlC jB h1 (zAD b2) 1 ([signed]):=cS.slB0 (T:=3) (fz:=(0,0)) ((show cS jB h [I signed] ([signed])from⟨[I signed],[],rfl,rfl,rfl,rfl⟩).mono vH hle1) hb1
 refine aI (cx Ro (nZ _ _ _ _ _ _ ([]) none 0 5 9 9 (mK.mono hle1) sl1 zG ob ob (hk.mono hle1) ob) U (λv1 h2 hle2 hp1=>?_))
 obtain⟨rb1,rc1,rfl,sl2⟩:=hp1
 refine qO 13 U (kI 5 [20,21,22,23,24,25] 20 25 ((aY cK ([signed]) ([]) 5 9 9).2.1==decide (signed<0)) U (λc1 hk1=>?_) (λe=>?_))
 .exact bp (qO 2 U (aI (eG (VC Vz U U) (mY U (hk1 _ U)))))
 refine bp (kI 4 [26,27,28,29,30] 26 30 (my ((aY cK ([signed]) ([]) 5 9 9).1) want) U (λc2 hk2=>?_) (λe=>?_))
 .exact bp (bp (aS call10 (I6 _ _ _ _ _ _ _ sl2 (hwant.mono WP (hle1.t hle2))) U (mY U (hk2 _ U))))
 exact an (nretP [.bool ((((aY cK ([signed]) ([]) 5 9 9).2.2==0)&&((aY cK ([signed]) ([]) 5 9 9).2.1==decide (signed<0)))&&(my ((aY cK ([signed]) ([]) 5 9 9).1) want))] (cs hs0))
theorem cIs2{h:HF}{a b:Int}:cS jB h [I a,I b] [a,b]:=cCo (R:=jB) (cs:=[I a]) (x:=a) rfl rfl (cE b rfl rfl)
theorem Jw(h)(hk:dN h):Ret prog 6 [] h (.bool CO):=by
 refine sT func6 U ntmps6 U λX hM hX hF=>?_
 refine rn ?_
 refine aI (bN (cells:=[I 1,I 2]) eP ty3 zc3 U U kr (λc1=>cz 0 U hM (λh1 k1 fc1=>?_)))
 have sc1:SlC jB h1 (zAD c1) 2 [1,2]:=slL fc1 lf cIs2 (by simp) (by simp)
 refine aI (cx Da (kO h1 [1,2] _ _ sc1 dk) U (λv h2 k2 hp=>?_))
 obtain⟨r2,rfl,o2⟩:=hp
 refine aI (wal U (λb2=>?_))
 refine wsW U U U nthA U U U ?_
 refine rn ?_
 refine wst U U nthA U U U U ?_
 refine rn ?_
 refine dy 0 ty30 U U U ?_
 refine aI (bN (cells:=[I (-1)]) eP ty3 zc3 U U kr (λc2=>cz 0 U hM (λh3 k3 fc2=>?_)))
 have sc2:SlC jB h3 (zAD c2) 1 [-1]:=slL fc2 lf (cE (R:=jB) (-1) rfl rfl) (by simp) (by simp)
 have on:zL h3 saneN { r2 with pj:=none,pi:=0 }:=⟨(o2.mono k3).dF,(o2.mono k3).ga,(o2.mono k3).er,(o2.mono k3).dH,zG,(o2.mono k3).cd,(o2.mono k3).dC⟩
 refine aI (cx Ro (nZ h3 saneN _ [-1] _ _ [] none 0 5 9 9 on sc2 zG VX dk (hk.mono leA) (λ_=>V4)) U (λv h4 k4 hp=>?_))
 obtain⟨lb1,lc1,hv,sl1⟩:=hp
 rw[sane1]at hv sl1
 subst hv
 refine rn ?_
 refine aI (bN (cells:=[I 2]) eP ty3 zc3 U U kr (λc3=>cz 0 U hM (λh5 k5 fc3=>?_)))
 have sc3:SlC jB h5 (zAD c3) 1 [2]:=slL fc3 lf (cE (R:=jB) (2) rfl rfl) (by simp) (by simp)
 refine aI (cx Da (kO h5 [2] _ _ sc3 dk) U (λv h6 k6 hp=>?_))
 obtain⟨r6,rfl,o6⟩:=hp
 refine aI (bN (cells:=[I (-1)]) eP ty3 zc3 U U kr (λc4=>cz 0 U hM (λh7 k7 fc4=>?_)))
 have sc4:SlC jB h7 (zAD c4) 1 [-1]:=slL fc4 lf (cE (R:=jB) (-1) rfl rfl) (by simp) (by simp)
 refine rn ?_
 refine aI (ka (v:=.agg #[I 1,I 3]) [] (List.nil_sublist _) (iA (cap:=[]) (args:=[I 1,I 3]) JN (mA h7 1 3)) U U ?_)
 refine aI (bN (cells:=[I 1,I 3]) nR ty45 zc45 U U kr (λc5=>cz 0 U hM (λh8 k8 fc5=>?_)))
 have sc5:SlC jJ h8 (zAD c5) 1 [⟨1,3⟩]:=slL fc5 lf (cE (R:=jJ) ⟨1,3⟩ rfl rfl) (by simp) (by simp)
 have hc:=lE h8 (cH [2]) _ [-1] _ _ [] none 0 5 9 9 [⟨1,3⟩] _ _ (o6.mono leA) (slm sc4 k8) zG sc5 UW dk (hk.mono leA) (λ_=>Va)
 rw[sane2]at hc
 refine aS JM hc U ?_
 clear hc
 refine rn ?_
 refine aI (bN (cells:=[I 2]) eP ty3 zc3 U U kr (λc6=>cz 0 U hM (λh9 k9 fc6=>?_)))
 have sc6:SlC jB h9 (zAD c6) 1 [2]:=slL fc6 lf (cE (R:=jB) (2) rfl rfl) (by simp) (by simp)
 refine aI (cx Da (kO h9 [2] _ _ sc6 dk) U (λv h10 k10 hp=>?_))
 obtain⟨r10,rfl,o10⟩:=hp
 refine aI (bN (cells:=[I (-1)]) eP ty3 zc3 U U kr (λc7=>cz 0 U hM (λh11 k11 fc7=>?_)))
 have sc7:SlC jB h11 (zAD c7) 1 [-1]:=slL fc7 lf (cE (R:=jB) (-1) rfl rfl) (by simp) (by simp)
 refine rn ?_
 refine aI (ka (v:=.agg #[I 1,I 4]) [] (List.nil_sublist _) (iA (cap:=[]) (args:=[I 1,I 4]) JN (mA h11 1 4)) U U ?_)
 refine aI (bN (cells:=[I 1,I 4]) nR ty45 zc45 U U kr (λc8=>cz 0 U hM (λh12 k12 fc8=>?_)))
 have sc8:SlC jJ h12 (zAD c8) 1 [⟨1,4⟩]:=slL fc8 lf (cE (R:=jJ) ⟨1,4⟩ rfl rfl) (by simp) (by simp)
 have hc:=lE h12 (cH [2]) _ [-1] _ _ [] none 0 5 9 9 [⟨1,4⟩] _ _ (o10.mono leA) (slm sc7 k12) zG sc8 UW dk (hk.mono leA) (λ_=>Va)
 rw[sane3]at hc
 refine aS JM hc U ?_
 clear hc
 refine rn ?_
 refine aI (cx Da (kO h12 [] _ _ zG dk) U (λv h13 k13 hp=>?_))
 obtain⟨r13,rfl,o13⟩:=hp
 refine aI (cx Ro (nZ h13 (cH []) _ [] none 0 [] none 0 5 9 9 o13 zG zG UX dk (hk.mono leA) V6) U (λv h14 k14 hp=>?_))
 obtain⟨lb2,lc2,hv,sl2⟩:=hp
 rw[sane4]at hv sl2
 subst hv
 refine rn ?_
 refine aI (cx Da (kO h14 [] _ _ zG dk) U (λv h15 k15 hp=>?_))
 obtain⟨r15,rfl,o15⟩:=hp
 refine aI (bN (cells:=[I (-1)]) eP ty3 zc3 U U kr (λc9=>cz 0 U hM (λh16 k16 fc9=>?_)))
 have sc9:SlC jB h16 (zAD c9) 1 [-1]:=slL fc9 lf (cE (R:=jB) (-1) rfl rfl) (by simp) (by simp)
 have hc:=lE h16 (cH []) _ [-1] _ _ [] none 0 6 9 9 [] none 0 (o15.mono k16) sc9 zG zG UX dk (hk.mono leA) V7
 rw[sane5]at hc
 refine aS JM hc U ?_
 clear hc
 refine rn ?_
 refine aI (bN (cells:=[I 1,I 2]) eP ty3 zc3 U U kr (λc10=>cz 0 U hM (λh17 k17 fc10=>?_)))
 have sc10:SlC jB h17 (zAD c10) 2 [1,2]:=slL fc10 lf cIs2 (by simp) (by simp)
 refine aI (cx Da (kO h17 [1,2] _ _ sc10 dk) U (λv h18 k18 hp=>?_))
 obtain⟨r18,rfl,o18⟩:=hp
 refine aI (wal U (λb15=>?_))
 refine wsW U U U nthA U U U ?_
 refine rn ?_
 refine aI (wbd U U U ?_)
 refine aI (bN (cells:=[I 7,I 0,I 0,I (-1),I 100,I 0,I 0,.bool false]) Dd ty73 zc73 U U kr (λc11=>cz 0 U hM (λh19 k19 fc11=>?_)))
 have sc11:SlC zR h19 (zAD c11) 1 [⟨7,0,0,-1,100,0,0,false⟩]:=slL fc11 lf (cE (R:=zR) ⟨7,0,0,-1,100,0,0,false⟩ rfl rfl) (by simp) (by simp)
 have of_:zL h19 saneF { r18 with uH:=zAD c11,uG:=1 }:=⟨(o18.mono k19).dF,(o18.mono k19).ga,(o18.mono k19).er,sc11,(o18.mono k19).Versions,(o18.mono k19).cd,(o18.mono k19).dC⟩
 refine rn ?_
 refine wst U U nthA U U U U ?_
 repeat (first|refine rn ?_|refine wgo rfl ?_)
 refine wcF U U ?_
 refine rn ?_
 refine eY ([(b15,O (zD saneF { r18 with uH:=zAD c11,uG:=1 }) 30)]) mixed kr jn (λgK _=>?_)
 refine tn 0 U (bN (cells:=[I 1,I 2]) eP ty3 zc3 U U kr (λc12=>?_))
 refine⟨jn,?_⟩
 refine tn 1 U (m4 0 U hM (λh20 k20 fc12=>?_))
 have sc12:SlC jB h20 (zAD c12) 2 [1,2]:=slL fc12 lf cIs2 (by simp) (by simp)
 refine cx Da (kO h20 [1,2] _ _ sc12 dk) U (λv h21 k21 hp=>?_)
 obtain⟨r21,rfl,o21⟩:=hp
 refine⟨jl (vA k20 k21),tu (vA k20 k21) ?_⟩
 have hc:=sU h21 (cH [1,2]) _ (-1) [] none 0 o21 zG UA dk (λ_=>UE) (hk.mono leA)
 rw[sane6]at hc
 refine tn 2 U (gi Pd hc U ⟨jn,?_⟩)
 clear hc
 refine qA [3,6] U ?_
 refine tn 4 U (bN (cells:=[I 1,I 2]) eP ty3 zc3 U U kr (λc13=>?_))
 refine⟨jn,?_⟩
 refine tn 5 U (m4 0 U hM (λh22 k22 fc13=>?_))
 have sc13:SlC jB h22 (zAD c13) 2 [1,2]:=slL fc13 lf cIs2 (by simp) (by simp)
 refine cx Da (kO h22 [1,2] _ _ sc13 dk) U (λv h23 k23 hp=>?_)
 obtain⟨r23,rfl,o23⟩:=hp
 refine⟨jl (vA k22 k23),tu (vA k22 k23) ?_⟩
 refine tn 7 U (ka (v:=.agg #[I 4,I 5]) [] (List.nil_sublist _) (iA (cap:=[]) (args:=[I 4,I 5]) JN (mA h23 4 5)) U U ⟨jn,?_⟩)
 refine tn 8 U (bN (cells:=[I 4,I 5]) nR ty45 zc45 U U kr (λc14=>⟨jn,?_⟩))
 refine tn 9 U (m4 0 U hM (λh24 k24 fc14=>?_))
 have sc14:SlC jJ h24 (zAD c14) 1 [⟨4,5⟩]:=slL fc14 lf (cE (R:=jJ) ⟨4,5⟩ rfl rfl) (by simp) (by simp)
 have hc:=sU h24 (cH [1,2]) _ 3 [⟨4,5⟩] _ _ (o23.mono k24) sc14 UA dk (λ_=>UE) (hk.mono leA)
 rw[sane7]at hc
 refine gi Pd hc U ⟨jl k24,tu k24 ?_⟩
 clear hc
 refine qA [10,11,14] U ?_
 refine tn 12 U (bN (cells:=[I 2]) eP ty3 zc3 U U kr (λc15=>?_))
 refine⟨jn,?_⟩
 refine tn 13 U (m4 0 U hM (λh25 k25 fc15=>?_))
 have sc15:SlC jB h25 (zAD c15) 1 [2]:=slL fc15 lf (cE (R:=jB) (2) rfl rfl) (by simp) (by simp)
 refine cx Da (kO h25 [2] _ _ sc15 dk) U (λv h26 k26 hp=>?_)
 obtain⟨r26,rfl,o26⟩:=hp
 refine⟨jl (vA k25 k26),tu (vA k25 k26) ?_⟩
 refine tn 15 U (ka (v:=.agg #[I 1,I 1]) [] (List.nil_sublist _) (iA (cap:=[]) (args:=[I 1,I 1]) JN (mA h26 1 1)) U U ⟨jn,?_⟩)
 refine tn 16 U (bN (cells:=[I 1,I 1]) nR ty45 zc45 U U kr (λc16=>⟨jn,?_⟩))
 refine tn 17 U (m4 0 U hM (λh27 k27 fc16=>?_))
 have sc16:SlC jJ h27 (zAD c16) 1 [⟨1,1⟩]:=slL fc16 lf (cE (R:=jJ) ⟨1,1⟩ rfl rfl) (by simp) (by simp)
 have hc:=sU h27 (cH [2]) _ (-1) [⟨1,1⟩] _ _ (o26.mono k27) sc16 UW dk (λ_=>Va) (hk.mono leA)
 rw[sane8]at hc
 refine gi Pd hc U ⟨jl k27,tu k27 ?_⟩
 clear hc
 refine qA [18,19,21,23] U ?_
 refine tn 20 U (cx Da (kO h27 [] _ _ zG dk) U (λv h28 k28 hp=>?_))
 obtain⟨r28,rfl,o28⟩:=hp
 refine⟨jl k28,tu k28 ?_⟩
 refine tn 22 U (ka (v:=.agg #[I 1,I 1]) [] (List.nil_sublist _) (iA (cap:=[]) (args:=[I 1,I 1]) JN (mA h28 1 1)) U U ⟨jn,?_⟩)
 refine tn 24 U (ka (v:=.agg #[I 1,I 2]) [] (List.nil_sublist _) (iA (cap:=[]) (args:=[I 1,I 2]) JN (mA h28 1 2)) U U ⟨jn,?_⟩)
 refine tn 25 U (bN (cells:=[I 1,I 1,I 1,I 2]) nR ty45 zc45 U U kr (λc17=>⟨jn,?_⟩))
 refine tn 26 U (m4 0 U hM (λh29 k29 fc17=>?_))
 have sc17:SlC jJ h29 (zAD c17) 2 [⟨1,1⟩,⟨1,2⟩]:=slL fc17 lf (cCo (R:=jJ) (cs:=[I 1,I 1]) (x:=⟨1,1⟩) rfl rfl (cE (R:=jJ) ⟨1,2⟩ rfl rfl)) (by simp) (by simp)
 have hc:=sU h29 (cH []) _ (-1) [⟨1,1⟩,⟨1,2⟩] _ _ (o28.mono k29) sc17 UX dk (λ_=>VH) (hk.mono leA)
 rw[sane9]at hc
 refine gi Pd hc U ⟨jl k29,tu k29 ?_⟩
 clear hc
 refine qA [27,28,30] U ?_
 refine tf 29 U U (λ_ _ hj=>lO ty30 U (hj.nth (i:=0) U) U) ?_
 refine tn 31 U (ka (v:=.agg #[I 3,I 7]) [] (List.nil_sublist _) (iA (cap:=[]) (args:=[I 3,I 7]) JN (mA h29 3 7)) U U ⟨jn,?_⟩)
 refine tn 32 U (bN (cells:=[I 3,I 7]) nR ty45 zc45 U U kr (λc18=>⟨jn,?_⟩))
 refine tn 33 U (m4 0 U hM (λh30 k30 fc18=>?_))
 have sc18:SlC jJ h30 (zAD c18) 1 [⟨3,7⟩]:=slL fc18 lf (cE (R:=jJ) ⟨3,7⟩ rfl rfl) (by simp) (by simp)
 have hc:=sU h30 saneF _ (-1) [⟨3,7⟩] _ _ (of_.mono leA) sc18 VY dk (λ_=>V5) (hk.mono leA)
 rw[saneA]at hc
 refine gi Pd hc U ⟨jl k30,tu k30 ?_⟩
 clear hc
 refine qA [34,35] U (bO kr ?_)
 exact wrP [.bool true] hF U rdR hX U
theorem FN(rec:aj->Int->Int)(h)(x:aj)(gR dL)(hrec:∀(h:HF)(qx:aj)(mz:eC)(qlimit:Int)(hqx:aj.ok h qx mz)(_:qx.dep<x.dep),Ret prog 172 [.agg (aj.cells qx mz).toArray,I qlimit] h (I (rec qx qlimit)))(hx:aj.ok h x gR):Ret prog 172 [.agg (aj.cells x gR).toArray,I dL] h (I (il.F rec x dL)):=by
 refine sT func172 U ntmps172 U λX hM hX hF=>?_
 have hs0:=@rfl _ (il.F rec x dL)
 refine sr (eO (λb1=>qO 11 U ?_))
 refine lp1 x.L (λi w=>[(1,I dL),(2,Q b1),(5,I w),(6,I (i:Int))]) ([(b1,O (aj.cells x gR) 59)]) (λs1 i w=>(il.L1 rec dL (il.K1)) s1 w) 1 hx.list.1.1 hs0 ?_ ?_ ?_
 .rintro i1 fg iP hs1 e
  exact sr (qO 3 U (nretP [I fg] (ci hs1)))
 .rintro i1 fg y1 rz1 hd1 fY dz iT mF hs3 hx1 ag1 e
  refine qK 7 [0] U (tO fY U (qO 6 U (aH hs3 U (λc2 hs4=>?_) (λc2 hs5=>?_))))
  .have c2p:=of_decide_eq_true c2
   exact qK 8 [0] U (aI (iR qI ty59 hx.list.1 dz U U U (λ_ _ _ e=>e) (λq2 r2 A2 ok2=>eU ty59 A2 U U (qO 3 U (aS call172 (hrec _ _ _ (kB .i64 (dL-fg)) ok2 (aj.lj (hZ hd1))) U (qO 6 U (oi i1 U (qO 2 U (ag1 (kB .i64 (fg+(rec y1 (kB .i64 (dL-fg))))) hs4)))))))))
  have c2p:=of_decide_eq_false c2
  exact kW U (hx1 i1 fg hs5)
 rintro i1 fg hd1 ml hx e
 exact qK 7 [0] U (fO ml U (qO 8 U (hx _ rd)))
theorem wh:∀(m:Nat)(h:HF)(x:aj)(gR:eC)(dL:Int)(_:x.dep<=m)(hx:aj.ok h x gR),Ret prog 172 [.agg (aj.cells x gR).toArray,I dL] h (I (il.go m x dL))
 |0,h,x,gR,dL,hd,hx=>absurd hd (Nat.not_le.2 (aj.ni _))
 |m+1,h,x,gR,dL,hd,hx=>FN (il.go m) h x gR dL (λqh_ qx mz qlimit qhx qd=>wh m qh_ qx mz qlimit ob qhx) hx
theorem Hh(h x gR dL)(hx:aj.ok h x gR):Ret prog 172 [.agg (aj.cells x gR).toArray,I dL] h (I (il x dL)):=wh _ h x gR dL (kE _) hx
instance kC172:Ct 172:=⟨_,call172,@Hh⟩
theorem Am(h l fo fm)(hl:SlC aE.rp h fo fm l):Ret prog 106 [.slice fo l.length fm] h (.bool (eL l)):=by
 refine sT func106 U ntmps106 U λX hM hX hF=>?_
 generalize hz:(eL l)=z;have hs:=hz.symm
 have HA:=h0 [0] 3 (λs1 i=>(eL.L1 (eL.K1)) s1)
 have HB:=λrz1=>h0 [0,3,4] 5 (λs3 i=>(eL.L3 ((eL.L1 (eL.K1) rz1))) s3)
 exact W
instance kC106:Ct 106:=⟨_,call106,@Am⟩
theorem K8(h cK gU)(mK:zL h cK gU):Ret prog 53 [.agg (zD cK gU).toArray] h (.bool (mr cK)):=by
 refine sT func53 U ntmps53 U λX hM hX hF=>?_
 generalize hz:(mr cK)=z;have hs:=hz.symm
 have HA:=h0 [1] 3 (λs1 i=>(mr.L1 (mr.K1)) s1)
 exact W
instance kC53:Ct 53:=⟨_,call53,@K8⟩
theorem K7(h cK gU signed co cn u ql qj)(mK:zL h cK gU)(eN:SlC jB h co cn signed)(hu:SlC XC h ql qj u):Ret prog 18 [.agg (zD cK gU).toArray,.slice co signed.length cn,.slice ql u.length qj] h (.bool (lK cK signed u)):=by
 refine sT func18 U ntmps18 U λX hM hX hF=>?_
 generalize hz:(lK cK signed u)=z;have hs:=hz.symm
 have HA:=h0 [3] 7 (λs1 i=>(lK.L1 (lK.K1)) s1)
 exact W
theorem Ji(h gF)  : Ret prog 244 [I gF] h (.bool (ve gF)):=by
 refine sT func244 U ntmps244 U λX hM hX hF=>?_
 generalize hz:(ve gF)=z;have hs:=hz.symm
 exact W
instance kC244:Ct 244:=⟨_,call244,@Ji⟩
theorem F1(h gF)  : Ret prog 245 [I gF] h (.bool (uj gF)):=by
 refine sT func245 U ntmps245 U λX hM hX hF=>?_
 generalize hz:(uj gF)=z;have hs:=hz.symm
 exact W
instance kC245:Ct 245:=⟨_,call245,@F1⟩
theorem F0(h gF)  : Ret prog 246 [I gF] h (.bool (ui gF)):=by
 refine sT func246 U ntmps246 U λX hM hX hF=>?_
 generalize hz:(ui gF)=z;have hs:=hz.symm
 exact W
instance kC246:Ct 246:=⟨_,call246,@F0⟩
theorem HH(h)(x:aK)  : Ret prog 173 [.agg (aK.cells x).toArray] h (.bool (nO x)):=by
 refine sT func173 U ntmps173 U λX hM hX hF=>?_
 generalize hz:(nO x)=z;have hs:=hz.symm
 exact W
instance kC173:Ct 173:=⟨_,call173,@HH⟩
theorem HI(h l fo fm)(hl:SlC aK.rp h fo fm l):Ret prog 107 [.slice fo l.length fm] h (I (jz l)):=by
 refine sT func107 U ntmps107 U λX hM hX hF=>?_
 generalize hz:(jz l)=z;have hs:=hz.symm
 have HA:=h0 [0] 3 (λs1 i=>(jz.L1 l (jz.K1)) s1 i)
 exact W
theorem FY(h gF low high)  : Ret prog 247 [I gF,I low,I high] h (.bool (me gF low high)):=by
 refine sT func247 U ntmps247 U λX hM hX hF=>?_
 generalize hz:(me gF low high)=z;have hs:=hz.symm
 exact W
instance kC247:Ct 247:=⟨_,call247,@FY⟩
theorem Jh(h gF)  : Ret prog 248 [I gF] h (.bool (u9 gF)):=by
 refine sT func248 U ntmps248 U λX hM hX hF=>?_
 generalize hz:(u9 gF)=z;have hs:=hz.symm
 exact W
instance kC248:Ct 248:=⟨_,call248,@Jh⟩
theorem FZ(h gF)  : Ret prog 249 [I gF] h (.bool (rg gF)):=by
 refine sT func249 U ntmps249 U λX hM hX hF=>?_
 generalize hz:(rg gF)=z;have hs:=hz.symm
 exact W
instance kC249:Ct 249:=⟨_,call249,@FZ⟩
theorem Hz(h)(x:bA)  : Ret prog 174 [.agg (bA.cells x).toArray] h (.bool (nN x)):=by
 refine sT func174 U ntmps174 U λX hM hX hF=>?_
 generalize hz:(nN x)=z;have hs:=hz.symm
 exact W
instance kC174:Ct 174:=⟨_,call174,@Hz⟩
theorem HE(h l fo fm)(hl:SlC bA.rp h fo fm l):Ret prog 108 [.slice fo l.length fm] h (I (jk l)):=by
 refine sT func108 U ntmps108 U λX hM hX hF=>?_
 generalize hz:(jk l)=z;have hs:=hz.symm
 have HA:=h0 [0] 3 (λs1 i=>(jk.L1 l (jk.K1)) s1 i)
 exact W
theorem I7(h t)  : Ret prog 250 [I t] h (.bool (uX t)):=by
 refine sT func250 U ntmps250 U λX hM hX hF=>?_
 generalize hz:(uX t)=z;have hs:=hz.symm
 exact W
instance kC250:Ct 250:=⟨_,call250,@I7⟩
theorem Hk(h gF)  : Ret prog 251 [I gF] h (.bool (sM gF)):=by
 refine sT func251 U ntmps251 U λX hM hX hF=>?_
 generalize hz:(sM gF)=z;have hs:=hz.symm
 exact W
instance kC251:Ct 251:=⟨_,call251,@Hk⟩
theorem FO(h gF)  : Ret prog 252 [I gF] h (.bool (ug gF)):=by
 refine sT func252 U ntmps252 U λX hM hX hF=>?_
 generalize hz:(ug gF)=z;have hs:=hz.symm
 exact W
instance kC252:Ct 252:=⟨_,call252,@FO⟩
theorem Hl(h)(x:aG)  : Ret prog 175 [.agg (aG.cells x).toArray] h (.bool (nK x)):=by
 refine sT func175 U ntmps175 U λX hM hX hF=>?_
 generalize hz:(nK x)=z;have hs:=hz.symm
 exact W
instance kC175:Ct 175:=⟨_,call175,@Hl⟩
theorem Hm(h l fo fm)(hl:SlC aG.rp h fo fm l):Ret prog 109 [.slice fo l.length fm] h (I (ji l)):=by
 refine sT func109 U ntmps109 U λX hM hX hF=>?_
 generalize hz:(ji l)=z;have hs:=hz.symm
 have HA:=h0 [0] 3 (λs1 i=>(ji.L1 l (ji.K1)) s1 i)
 exact W
theorem yY(h gF least most)  : Ret prog 119 [I gF,I least,I most] h (.bool (jU gF least most)):=by
 refine sT func119 U ntmps119 U λX hM hX hF=>?_
 generalize hz:(jU gF least most)=z;have hs:=hz.symm
 exact W
instance kC119:Ct 119:=⟨_,call119,@yY⟩
theorem tA(h gF)  : Ret prog 120 [I gF] h (.bool (kY gF)):=by
 refine sT func120 U ntmps120 U λX hM hX hF=>?_
 generalize hz:(kY gF)=z;have hs:=hz.symm
 exact W
instance kC120:Ct 120:=⟨_,call120,@tA⟩
theorem Hu(h)(x:Budget)  : Ret prog 176 [.agg (xM x).toArray] h (.bool (nM x)):=by
 refine sT func176 U ntmps176 U λX hM hX hF=>?_
 generalize hz:(nM x)=z;have hs:=hz.symm
 exact W
instance kC176:Ct 176:=⟨_,call176,@Hu⟩
theorem Aq(h l fo fm)(hl:SlC zR h fo fm l):Ret prog 110 [.slice fo l.length fm] h (I (gq l)):=by
 refine sT func110 U ntmps110 U λX hM hX hF=>?_
 generalize hz:(gq l)=z;have hs:=hz.symm
 have HA:=h0 [0] 3 (λs1 i=>(gq.L1 l (gq.K1)) s1 i)
 exact W
theorem sx(h gF)  : Ret prog 177 [I gF] h (.bool (gp gF)):=by
 refine sT func177 U ntmps177 U λX hM hX hF=>?_
 generalize hz:(gp gF)=z;have hs:=hz.symm
 exact W
theorem CC(h a Tw Tv ky Cm Ck)(ha:SlC WN h Tw Tv a)(CT:SlC WN h Cm Ck ky):Ret prog 301 [.slice Tw a.length Tv,.slice Cm ky.length Ck] h (.bool (gg a ky)):=by
 refine sT func301 U ntmps301 U λX hM hX hF=>?_
 generalize hz:(gg a ky)=z;have hs:=hz.symm
 have HA:=h0 [0,1] 5 (λs1 i=>(gg.L1 ky (gg.K1)) s1 i)
 exact W
instance kC301:Ct 301:=⟨_,call301,@CC⟩
instance kR302:Cl 302:=⟨call302⟩
theorem CD(rec:aj->aj->Bool)(h)(a:aj)(O8 ky vy)(hrec:∀(h:HF)(qa:aj)(T4:eC)(Sl:aj)(Lg:eC)(hqa:aj.ok h qa T4)(Wp:aj.ok h Sl Lg)(_:qa.dep<a.dep),Ret prog 302 [.agg (aj.cells qa T4).toArray,.agg (aj.cells Sl Lg).toArray] h (.bool (rec qa Sl)))(ha:aj.ok h a O8)(CT:aj.ok h ky vy):Ret prog 302 [.agg (aj.cells a O8).toArray,.agg (aj.cells ky vy).toArray] h (.bool (bG.F rec a ky)):=by
 refine sT func302 U ntmps302 U λX hM hX hF=>?_
 generalize hz:(bG.F rec a ky)=z;have hs:=hz.symm
 have HA:=h0 [2,3] 5 (λs1 i=>(bG.L1 rec ky (bG.K1)) s1 i)
 exact W
theorem sO:∀(m:Nat)(h:HF)(a:aj)(O8:eC)(ky:aj)(vy:eC)(_:a.dep<=m)(ha:aj.ok h a O8)(CT:aj.ok h ky vy),Ret prog 302 [.agg (aj.cells a O8).toArray,.agg (aj.cells ky vy).toArray] h (.bool (bG.go m a ky))
 |0,h,a,O8,ky,vy,hd,ha,CT=>absurd hd (Nat.not_le.2 (aj.ni _))
 |m+1,h,a,O8,ky,vy,hd,ha,CT=>CD (bG.go m) h a O8 ky vy (λqh_ qa T4 Sl Lg qha VD qd=>sO m qh_ qa T4 Sl Lg ob qha VD) ha CT
theorem Dv(h a O8 ky vy)(ha:aj.ok h a O8)(CT:aj.ok h ky vy):Ret prog 302 [.agg (aj.cells a O8).toArray,.agg (aj.cells ky vy).toArray] h (.bool (bG a ky)):=sO _ h a O8 ky vy (kE _) ha CT
instance kC302:Ct 302:=⟨_,call302,@Dv⟩
theorem Ja(h a O8 ky vy)(ha:aw.ok h a O8)(CT:aw.ok h ky vy):Ret prog 253 [.agg (aw.cells a O8).toArray,.agg (aw.cells ky vy).toArray] h (.bool (jo a ky)):=by
 refine sT func253 U ntmps253 U λX hM hX hF=>?_
 generalize hz:(jo a ky)=z;have hs:=hz.symm
 have HA:=h0 [2,3] 5 (λs1 i=>(jo.L1 ky (jo.K1)) s1 i)
 exact W
instance kC253:Ct 253:=⟨_,call253,@Ja⟩
theorem Ap(h p jg)(hp:aw.ok h p jg)(hsm:smP p):Ret prog 178 [.agg (aw.cells p jg).toArray] h (I (im p)):=by
 refine sT func178 U ntmps178 U λX hM hX hF=>?_
 generalize hz:(im p)=z;have hs:=hz.symm
 exact W
theorem Dw(h l fo fm)(hl:SlC aE.rp h fo fm l)(hsm:smV l):Ret prog 111 [.slice fo l.length fm] h (I (eb l)):=by
 refine sT func111 U ntmps111 U λX hM hX hF=>?_
 have hs0:=@rfl _ (eb l)
 refine qK 11 [] U (aH hs0 U (λc1 hs1=>?_) (λc1 hs2=>?_))
 .have c1p:=of_decide_eq_true c1
  exact sr (an (nretP [I 2] (ci hs1)))
 have c1p:=of_decide_eq_false c1
 refine qT 6 U ?_
 refine lp0 l (λi=>[(0,.slice fo l.length fm),(3,I (i:Int))]) ([]) (λs1 i=>(eb.L1 l (eb.K1)) s1 i) hl.1.1 hs2 ?_ ?_ ?_
 .rintro i1 iP hs4 e
  exact sr (an (nretP [I 0] (ci hs4)))
 .rintro i1 y1 rz1 hd1 fY dz iT mF hs6 hx1 ag1 e
  have hsy:=hsm.2 y1 (hZ hd1)
  refine qK 6 [] U (tO fY U (qO 9 U (aI (iR Cr ty63 hl.1 dz U U U (λ_ _ _ e=>e) (λq2 r2 A2 ok2=>eU ty63 A2 U U (bH zc63 (λb2=>bE 0 ty63 U U U U U U (qO 2 U ?_))))))))
  refine Cs [(0,.slice fo l.length fm),(3,I (i1:Int)),(58,.bool (((((decide (y1.No<0)||decide (1048576<y1.No))||(decide (0<(i1:Int))&&decide (y1.No<=(nthI l ((i1:Int)-1)).No)))||(!(gp y1.At)))||(!(gp y1.dY)))||((im y1.aw) != 0)))] (λe=>?_) (λhk1=>?_)
  rotate_left
  .let z1:Nat×Obj:=(b2,O (aE.cells y1 r2) 63)
   refine eY ([z1]) mixed kr jn (λgK _=>?_)
   refine qB [0] U (tf 1 U U (rj 0 ty3 U U U) (qA [2,3] U ?_))
   refine fE 21 U (λc2=>?_) (λc2=>?_)
   .have c2p:=of_decide_eq_true c2
    exact tk 4 U U (qR 5 36 U (bO kr (hk1 _ ⟨U,U,(cb (show true=(((((decide (y1.No<0)||decide (1048576<y1.No))||(decide (0<(i1:Int))&&decide (y1.No<=(nthI l ((i1:Int)-1)).No)))||(!(gp y1.At)))||(!(gp y1.dY)))||((im y1.aw) != 0))from by rw[c2]<;>rfl)),trivial⟩)))
   have c2p:=of_decide_eq_false c2
   refine qB [4] U (tf 5 U U (rj 0 ty3 U U U) (qR 6 3 U ?_))
   refine fE 26 U (λc3=>?_) (λc3=>?_)
   .have c3p:=of_decide_eq_true c3
    exact tk 9 U U (qR 10 31 U (bO kr (hk1 _ ⟨U,U,(cb (show true=(((((decide (y1.No<0)||decide (1048576<y1.No))||(decide (0<(i1:Int))&&decide (y1.No<=(nthI l ((i1:Int)-1)).No)))||(!(gp y1.At)))||(!(gp y1.dY)))||((im y1.aw) != 0))from by rw[c2,c3]<;>rfl)),trivial⟩)))
   have c3p:=of_decide_eq_false c3
   refine qR 9 3 U ?_
   refine fE 29 U (λc4=>?_) (λc4=>?_)
   .have c4p:=of_decide_eq_true c4
    refine qA [12,13] U (tf 14 U U (λ_ _ _=>vg (v':=I ((i1:Int)-1)) U (lv ob)) ?_)
    have ho1:0<=(((i1:Int)-1):Int)/\(((i1:Int)-1):Int)<((l).length:Int):=ob
    refine oK 15 gK jn Cr ty63 hl.1 ho1 (di ho1) U U U U kr (λq3 cs3 A3 ln3 rr3=>?_)
    obtain⟨r3,rfl,ok3⟩:=rr3
    refine qB [16] U (tf 17 U U (rh ty3 A3 U) (qB [18] U (tf 19 U U (rj 0 ty3 U U U) (qR 20 4 U ?_))))
    refine fE 41 U (λc5=>?_) (λc5=>?_)
    .have c5p:=of_decide_eq_true c5
     exact tk 24 U U (qR 25 16 U (bO kr (hk1 _ ⟨U,U,(cb (show true=(((((decide (y1.No<0)||decide (1048576<y1.No))||(decide (0<(i1:Int))&&decide (y1.No<=(nthI l ((i1:Int)-1)).No)))||(!(gp y1.At)))||(!(gp y1.dY)))||((im y1.aw) != 0))from by rw[c2,c3,c4,c5]<;>rfl)),trivial⟩)))
    have c5p:=of_decide_eq_false c5
    refine qB [24] U (tf 25 U U (rj 0 ty3 U U U) (tn 26 U (gi Rn (sx h y1.At) U (⟨jn,(qR 27 3 U ?_)⟩))))
    refine fE 47 U (λc6=>?_) (λc6=>?_)
    .exact tk 30 U U (qR 31 10 U (bO kr (hk1 _ ⟨U,U,(cb (show true=(((((decide (y1.No<0)||decide (1048576<y1.No))||(decide (0<(i1:Int))&&decide (y1.No<=(nthI l ((i1:Int)-1)).No)))||(!(gp y1.At)))||(!(gp y1.dY)))||((im y1.aw) != 0))from by rw[c2,c3,c4,c5,c6]<;>rfl)),trivial⟩)))
    refine qB [30] U (tf 31 U U (rj 0 ty3 U U U) (tn 32 U (gi Rn (sx h y1.dY) U (⟨jn,(qR 33 3 U ?_)⟩))))
    refine fE 53 U (λc7=>?_) (λc7=>?_)
    .exact tk 36 U U (qR 37 4 U (bO kr (hk1 _ ⟨U,U,(cb (show true=(((((decide (y1.No<0)||decide (1048576<y1.No))||(decide (0<(i1:Int))&&decide (y1.No<=(nthI l ((i1:Int)-1)).No)))||(!(gp y1.At)))||(!(gp y1.dY)))||((im y1.aw) != 0))from by rw[c2,c3,c4,c5,c6,c7]<;>rfl)),trivial⟩)))
    exact tf 36 U U (λ_ _ _=>yZ Qh U) (tf 37 U U (λ_ _ hj=>lO ty61 U (hj.nth (i:=0) U) U) (tn 38 U (gi call178 (Ap _ _ _ ok2.aw ob) U (⟨jn,(qA [39,40] U (bO kr (hk1 _ ⟨U,U,(cb (show((im y1.aw) != 0)=(((((decide (y1.No<0)||decide (1048576<y1.No))||(decide (0<(i1:Int))&&decide (y1.No<=(nthI l ((i1:Int)-1)).No)))||(!(gp y1.At)))||(!(gp y1.dY)))||((im y1.aw) != 0))from by rw[c2,c3,c4,c5,c6,c7]<;>rfl)),trivial⟩)))⟩))))
   have c4p:=of_decide_eq_false c4
   refine qD 12 13 U (tf 25 U U (rj 0 ty3 U U U) (tn 26 U (gi Rn (sx h y1.At) U (⟨jn,qR 27 3 U ?_⟩))))
   refine fE 47 U (λc8=>?_) (λc8=>?_)
   .exact tk 30 U U (qR 31 10 U (bO kr (hk1 _ ⟨U,U,(cb (show true=(((((decide (y1.No<0)||decide (1048576<y1.No))||(decide (0<(i1:Int))&&decide (y1.No<=(nthI l ((i1:Int)-1)).No)))||(!(gp y1.At)))||(!(gp y1.dY)))||((im y1.aw) != 0))from by rw[c2,c3,c4,c8]<;>rfl)),trivial⟩)))
   refine qB [30] U (tf 31 U U (rj 0 ty3 U U U) (tn 32 U (gi Rn (sx h y1.dY) U (⟨jn,(qR 33 3 U ?_)⟩))))
   refine fE 53 U (λc9=>?_) (λc9=>?_)
   .exact tk 36 U U (qR 37 4 U (bO kr (hk1 _ ⟨U,U,(cb (show true=(((((decide (y1.No<0)||decide (1048576<y1.No))||(decide (0<(i1:Int))&&decide (y1.No<=(nthI l ((i1:Int)-1)).No)))||(!(gp y1.At)))||(!(gp y1.dY)))||((im y1.aw) != 0))from by rw[c2,c3,c4,c8,c9]<;>rfl)),trivial⟩)))
   exact tf 36 U U (λ_ _ _=>yZ Qh U) (tf 37 U U (λ_ _ hj=>lO ty61 U (hj.nth (i:=0) U) U) (tn 38 U (gi call178 (Ap _ _ _ ok2.aw ob) U (⟨jn,(qA [39,40] U (bO kr (hk1 _ ⟨U,U,(cb (show((im y1.aw) != 0)=(((((decide (y1.No<0)||decide (1048576<y1.No))||(decide (0<(i1:Int))&&decide (y1.No<=(nthI l ((i1:Int)-1)).No)))||(!(gp y1.At)))||(!(gp y1.dY)))||((im y1.aw) != 0))from by rw[c2,c3,c4,c8,c9]<;>rfl)),trivial⟩)))⟩))))
  refine aH hs6 U (λc10 hs7=>?_) (λc10 hs8=>?_)
  .exact sr (an (nretP [I 200] (ci hs7)))
  exact bL (qT 3 U (oi i1 U (an (cu (L':=[]) js (ag1 hs8)))))
 rintro i1 hd1 ml hx e
 exact qK 6 [] U (fO ml U (qO 3 U (hx _ rd)))
theorem BZ(h t)  : Ret prog 115 [I t] h (.bool (o9 t)):=by
 refine sT func115 U ntmps115 U λX hM hX hF=>?_
 generalize hz:(o9 t)=z;have hs:=hz.symm
 exact W
instance kC115:Ct 115:=⟨_,call115,@BZ⟩
theorem Jf(h l fo fm dL)(hl:SlC jB h fo fm l):Ret prog 254 [.slice fo l.length fm,I dL] h (.bool (gu l dL)):=by
 refine sT func254 U ntmps254 U λX hM hX hF=>?_
 generalize hz:(gu l dL)=z;have hs:=hz.symm
 have HA:=h0 [0,1] 5 (λs1 i=>(gu.L1 l dL (gu.K1 l)) s1 i)
 exact W
instance kC254:Ct 254:=⟨_,call254,@Jf⟩
theorem Hx(h d Be)(hd:ao.ok h d Be):Ret prog 179 [.agg (ao.cells d Be).toArray] h (.bool (na d)):=by
 refine sT func179 U ntmps179 U λX hM hX hF=>?_
 generalize hz:(na d)=z;have hs:=hz.symm
 exact W
instance kC179:Ct 179:=⟨_,call179,@Hx⟩
theorem B4(h l fo fm no)(hl:SlC ao.rp h fo fm l):Ret prog 255 [.slice fo l.length fm,I no] h (I (gQ l no)):=by
 refine sT func255 U ntmps255 U λX hM hX hF=>?_
 generalize hz:(gQ l no)=z;have hs:=hz.symm
 have HA:=h0 [0,1] 5 (λs1 i=>(gQ.L1 no (gQ.K1)) s1 i)
 exact W
instance kC255:Ct 255:=⟨_,call255,@B4⟩
theorem Hv(h l fo fm nos UG UF)(hl:SlC ao.rp h fo fm l)(hnos:SlC jB h UG UF nos):Ret prog 180 [.slice fo l.length fm,.slice UG nos.length UF] h (.bool (gr l nos)):=by
 refine sT func180 U ntmps180 U λX hM hX hF=>?_
 generalize hz:(gr l nos)=z;have hs:=hz.symm
 have HA:=h0 [0,1] 5 (λs1 i=>(gr.L1 l (gr.K1)) s1)
 exact W
instance kC180:Ct 180:=⟨_,call180,@Hv⟩
theorem Au(h l fo fm)(hl:SlC ao.rp h fo fm l):Ret prog 112 [.slice fo l.length fm] h (I (et l)):=by
 refine sT func112 U ntmps112 U λX hM hX hF=>?_
 generalize hz:(et l)=z;have hs:=hz.symm
 have HA:=h0 [0] 3 (λs1 i=>(et.L1 l (et.K1)) s1 i)
 exact W
theorem FP(h gF most)  : Ret prog 256 [I gF,I most] h (.bool (ma gF most)):=by
 refine sT func256 U ntmps256 U λX hM hX hF=>?_
 generalize hz:(ma gF most)=z;have hs:=hz.symm
 exact W
instance kC256:Ct 256:=⟨_,call256,@FP⟩
theorem I8(h gF)  : Ret prog 257 [I gF] h (.bool (uY gF)):=by
 refine sT func257 U ntmps257 U λX hM hX hF=>?_
 generalize hz:(uY gF)=z;have hs:=hz.symm
 exact W
instance kC257:Ct 257:=⟨_,call257,@I8⟩
theorem La(h gF)  : Ret prog 258 [I gF] h (.bool (Bs gF)):=by
 refine sT func258 U ntmps258 U λX hM hX hF=>?_
 generalize hz:(Bs gF)=z;have hs:=hz.symm
 exact W
instance kC258:Ct 258:=⟨_,call258,@La⟩
theorem Hn(h)(x:ay)  : Ret prog 181 [.agg (ay.cells x).toArray] h (.bool (nL x)):=by
 refine sT func181 U ntmps181 U λX hM hX hF=>?_
 generalize hz:(nL x)=z;have hs:=hz.symm
 exact W
instance kC181:Ct 181:=⟨_,call181,@Hn⟩
theorem Ho(h l fo fm)(hl:SlC ay.rp h fo fm l):Ret prog 113 [.slice fo l.length fm] h (I (jj l)):=by
 refine sT func113 U ntmps113 U λX hM hX hF=>?_
 generalize hz:(jj l)=z;have hs:=hz.symm
 have HA:=h0 [0] 3 (λs1 i=>(jj.L1 l (jj.K1)) s1 i)
 exact W
theorem Hj(h cK gU)(mK:zL h cK gU)(hsm:smR cK):Ret prog 54 [.agg (zD cK gU).toArray] h (I (nJ cK)):=by
 refine sT func54 U ntmps54 U λX hM hX hF=>?_
 have hs0:=@rfl _ (nJ cK)
 have hsv:=hsm.vers
 refine sr (eO (λb1=>qL 7 [0] U (aS call107 (HI _ _ _ _ mK.dF) U (qO 2 U (gy 5 [7,8,9,10,11,12] 7 12 ((jk cK.ga) != 0) U (λc1 hk1=>?_) (λe=>?_))))))
 .exact qL 2 [0] U (aS call108 (HE _ _ _ _ mK.ga) U (qO 2 U (hk1 _ U)))
 refine bp (gy 5 [13,14,15,16,17,18] 13 18 ((ji cK.er) != 0) U (λc2 hk2=>?_) (λe=>?_))
 .exact qL 2 [0] U (aS call109 (Hm _ _ _ _ mK.er) U (qO 2 U (hk2 _ U)))
 refine bp (gy 5 [19,20,21,22,23,24] 19 24 ((gq cK.dH) != 0) U (λc3 hk3=>?_) (λe=>?_))
 .exact qL 2 [0] U (aS call110 (Aq _ _ _ _ mK.dH) U (qO 2 U (hk3 _ U)))
 refine bo (aH hs0 U (λc4 hs1=>?_) (λc4 hs2=>?_))
 .exact sr (an (nretP [I 300] (ci hs1)))
 refine qK 6 [0] U (aS call111 (Dw _ _ _ _ mK.Versions ob) U (qO 2 U (gy 5 [29,30,31,32,33,34] 29 34 ((et cK.cd) != 0) U (λc5 hk4=>?_) (λe=>?_))))
 .exact qL 2 [0] U (aS call112 (Au _ _ _ _ mK.cd) U (qO 2 U (hk4 _ U)))
 refine bp (gy 5 [35,36,37,38,39,40] 35 40 ((jj cK.dC) != 0) U (λc6 hk5=>?_) (λe=>?_))
 .exact qL 2 [0] U (aS call113 (Ho _ _ _ _ mK.dC) U (qO 2 U (hk5 _ U)))
 refine bo (aH hs2 U (λc7 hs4=>?_) (λc7 hs5=>?_))
 .exact sr (an (nretP [I 300] (ci hs4)))
 exact bL (qT 4 U (nretP [I 0] (ci hs5)))
theorem Dy(h l fo fm signed co cn)(hl:SlC ao.rp h fo fm l)(eN:SlC jB h co cn signed):Ret prog 114 [.slice fo l.length fm,.slice co signed.length cn] h (.bool (fu l signed)):=by
 refine sT func114 U ntmps114 U λX hM hX hF=>?_
 generalize hz:(fu l signed)=z;have hs:=hz.symm
 have HA:=h0 [0,1] 5 (λs1 i=>(fu.L1 (fu.K1 l signed)) s1)
 exact W
theorem yx(h l fo fm EH)(hl:SlC jB h fo fm l):Ret prog 259 [.slice fo l.length fm,I EH] h (.bool (gL l EH)):=by
 refine sT func259 U ntmps259 U λX hM hX hF=>?_
 generalize hz:(gL l EH)=z;have hs:=hz.symm
 have HA:=h0 [0,1] 5 (λs1 i=>(gL.L1 EH (gL.K1)) s1)
 exact W
theorem Ar(h l fo fm done CX CW effective wA wz yn cy)(hl:SlC ao.rp h fo fm l)(hdone:SlC jB h CX CW done)(heffective:SlC qW h wA wz effective)(hdn:∀x∈done,0<=x/\x<(l.length:Int))(hef:effective.length=l.length):Ret prog 183 [.slice fo l.length fm,.slice CX done.length CW,.slice wA effective.length wz,I yn,I cy] h (.tuple #[I ((e9 l done effective yn cy).1),I ((e9 l done effective yn cy).2)]):=by
 refine sT func183 U ntmps183 U λX hM hX hF=>?_
 have hs0:=@rfl _ (e9 l done effective yn cy)
 refine qT 10 U (aS call259 (yx _ _ _ _ yn hdone) U (qO 2 U (aH hs0 U (λc1 hs1=>?_) (λc1 hs2=>?_))))
 .refine qT 5 U ?_
  have hs3:e9 l done effective yn cy=(1,(-1)):=hs1
  exact nretP [I 1,I (-1)] (hs3▸U)
 refine qT 6 U ?_
 have ho1:0<=(yn:Int)/\(yn:Int)<((effective).length:Int):=(by first|omega|exact Ic hdn hef ob)
 refine aI (tx (enc:=λy=>[.bool y]) ei Et ty4 heffective.1 ho1 (di ho1) U U U (λq1 A1=>eJ ty4 A1 U (qO 2 U (aH hs2 U (λc2 hs4=>?_) (λc2 hs5=>?_)))))
 .refine qT 5 U ?_
  have hs6:e9 l done effective yn cy=(4,(-1)):=hs4
  exact nretP [I 4,I (-1)] (hs6▸U)
 refine qT 6 U ?_
 refine lp0 l (λi=>[(0,.slice fo l.length fm),(1,.slice CX done.length CW),(2,.slice wA effective.length wz),(3,I yn),(4,I cy),(12,I (i:Int))]) ([]) (λs1 i=>(e9.L1 l done effective yn (e9.K1 l yn cy)) s1 i) hl.1.1 hs5 ?_ ?_ ?_
 .rintro i1 iP hs7 e
  refine qT 6 U ?_
  have ho3:0<=(yn:Int)/\(yn:Int)<((l).length:Int):=(by first|omega|exact Ic hdn rfl ob)
  refine aI (yv xh ty54 hl.1 ho3 (di ho3) U U U (λ_ _ _ e=>e) (λq3 r1 A3 ok1=>qL 1 [] U (lQ (j:=4) ty3 A3 U U (qO 2 U (aH hs7 U (λc3 hs8=>?_) (λc3 hs9=>?_))))))
  .have c3p:=of_decide_eq_true c3
   refine qT 5 U ?_
   have hs10:e9 l done effective yn cy=(2,(-1)):=hs8
   exact nretP [I 2,I (-1)] (hs10▸U)
  have c3p:=of_decide_eq_false c3
  refine qT 7 U ?_
  have ho4:0<=(yn:Int)/\(yn:Int)<((l).length:Int):=(by first|omega|exact Ic hdn rfl ob)
  refine aI (yv xh ty54 hl.1 ho4 (di ho4) U U U (λ_ _ _ e=>e) (λq4 r2 A4 ok2=>qL 1 [] U (lQ (j:=5) ty3 A4 U U (qO 2 U (aH hs9 U (λc4 hs11=>?_) (λc4 hs12=>?_))))))
  .have c4p:=of_decide_eq_true c4
   refine qT 5 U ?_
   have hs13:e9 l done effective yn cy=(3,(-1)):=hs11
   exact nretP [I 3,I (-1)] (hs13▸U)
  have c4p:=of_decide_eq_false c4
  refine qT 6 U ?_
  have hs14:e9 l done effective yn cy=(0,(-1)):=hs12
  exact nretP [I 0,I (-1)] (hs14▸U)
 .rintro i1 y1 rz1 hd1 fY dz iT mF hs15 hx1 ag1 e
  refine qK 6 [] U (tO fY U (qO 6 U ?_))
  refine Cs [(0,.slice fo l.length fm),(1,.slice CX done.length CW),(2,.slice wA effective.length wz),(3,I yn),(4,I cy),(12,I (i1:Int)),(49,.bool (((gL done (i1:Int))&&(nthI effective (i1:Int)))&&(gL y1.fe ((nthI l yn).No))))] (λe=>?_) (λhk1=>?_)
  rotate_left
  .refine eY ([]) mixed kr jn (λgK _=>?_)
   refine qA [0,1] U (tn 2 U (gi call259 (yx _ _ _ _ (i1:Int) hdone) U (⟨jn,(tm 3 U ?_)⟩)))
   refine fE 31 U (λc5=>?_) (λc5=>?_)
   .refine qA [4,5] U ?_
    have ho5:0<=((i1:Int):Int)/\((i1:Int):Int)<((effective).length:Int):=(by first|omega|exact Ic hdn hef ob)
    refine ir 6 (enc:=λy=>[.bool y]) gK jn ei Et ty4 heffective.1 ho5 (di ho5) U U U U kr (λq5 A5=>tf 7 U U (rh ty4 A5 U) (qA [8,9] U ?_))
    refine fE 37 U (λc6=>?_) (λc6=>?_)
    .refine qA [10,11] U (oK 12 gK jn xh ty54 hl.1 (nthZ dz) (gI dz) U U U U kr (λq6 cs3 A6 ln3 rr3=>?_))
     obtain⟨r3,rfl,ok3⟩:=rr3
     refine qB [13] U (tf 14 U U (rH 7 ty31 A6 U U) (qA [15,16] U ?_))
     have ho6:0<=(yn:Int)/\(yn:Int)<((l).length:Int):=(by first|omega|exact Ic hdn rfl ob)
     refine oK 17 gK jn xh ty54 hl.1 ho6 (di ho6) U U U U kr (λq7 cs4 A7 ln4 rr4=>?_)
     obtain⟨r4,rfl,ok4⟩:=rr4
     exact tf 18 U U (λ_ _ _=>yZ Uo U) (tf 19 U U (rh ty3 A7 U) (tn 20 U (gi call259 (yx _ _ _ _ ((nthI l yn).No) ok3.fe) U (⟨jn,(qA [21] U (bO kr (hk1 _ ⟨U,U,U,U,U,U,(cb (show(gL y1.fe ((nthI l yn).No))=(((gL done (i1:Int))&&(nthI effective (i1:Int)))&&(gL y1.fe ((nthI l yn).No)))from by rw[c5,c6]<;>rfl)),trivial⟩)))⟩))))
    exact tk 10 U U (qR 11 11 U (bO kr (hk1 _ ⟨U,U,U,U,U,U,(cb (show false=(((gL done (i1:Int))&&(nthI effective (i1:Int)))&&(gL y1.fe ((nthI l yn).No)))from by rw[c5,c6]<;>rfl)),trivial⟩)))
   exact tk 4 U U (qR 5 17 U (bO kr (hk1 _ ⟨U,U,U,U,U,U,(cb (show false=(((gL done (i1:Int))&&(nthI effective (i1:Int)))&&(gL y1.fe ((nthI l yn).No)))from by rw[c5]<;>rfl)),trivial⟩)))
  refine aH hs15 U (λc7 hs16=>?_) (λc7 hs17=>?_)
  .refine ea (eY ([]) mixed kr jn (λlZ _=>qA [0,1] U (oK 2 lZ jn xh ty54 hl.1 (nthZ dz) (gI dz) U U U U kr (λq8 cs5 A8 ln5 rr5=>?_))))
   obtain⟨r5,rfl,ok5⟩:=rr5
   refine qB [3] U (tf 4 U U (rh ty3 A8 U) (qA [5,6] U (bO kr ?_)))
   have hs18:e9 l done effective yn cy=(5,y1.No):=hs16
   exact nretP [I 5,I y1.No] (hs18▸U)
  exact bL (qT 3 U (oi i1 U (an (ag1 hs17))))
 rintro i1 hd1 ml hx e
 exact qK 6 [] U (fO ml U (qO 3 U (hx _ rd)))
theorem As(h signed co cn lu)(eN:SlC jB h co cn signed)(hsn:signed.length<=2000000):j6 prog 184 [.slice co signed.length cn,I lu] h (λv h'=>∃(rb0:Option Addr)(rc0:Nat),v=.slice rb0 (cq signed lu).length rc0/\SlC jB h' rb0 rc0 (cq signed lu)):=by
 refine sT func184 U ntmps184 U λX hM hX hF=>?_
 have hs0:=@rfl _ (cq signed lu)
 refine qT 6 U (aI (pw eP ty3 (λb1=>qO 7 U (gE 0 U hM (λh1 hle1 hb1=>?_)))))
 have sl1:SlC jB h1 (zAD b1) 0 ([]):=cS.slB0 (T:=3) (fz:=(0,0)) ((show cS jB h [] ([])from rfl).mono vH hle1) hb1
 refine lp2 signed (λi w=>[(0,.slice co signed.length cn),(1,I lu),(5,.slice w.2.1 w.1.length w.2.2.1),(6,I (i:Int))]) (λw=>w.2.2.2) (λw=>[]) (λi w=>SlC jB w.2.2.2 w.2.1 w.2.2.1 w.1/\w.1.length<=i/\xJ h1 w.2.2.2/\(∀x∈w.1,0<=x/\x<(signed.length:Int))) (λs1 i w=>(cq.L1 signed lu (cq.K1)) s1 i w.1) ([],(zAD b1),0,h1) ((eN.mono vH hle1).1.1) hs0 ⟨sl1,(by first|omega|(simp only[jA,zA,zB];omega)|(simp only[jA,zA,zB,List.length_take,List.length_drop];first|omega|(dsimp only;omega))),lf,(λx hx=>(List.not_mem_nil hx).elim)⟩ ?_ ?_ ?_
 .rintro i1 ⟨fg,zc,zb,hh1⟩ iP hs1 ⟨tb,Ix,hl1,u1_0⟩ e
  try dsimp only at tb Ix hl1 u1_0
  refine qT 5 U ?_
  have hs2:cq signed lu=fg:=hs1
  exact nretH [.slice zc fg.length zb] ⟨zc,zb,congrArg (λr:List Int=>(.slice zc r.length zb:Value)) hs2.symm,(by rw[hs2];exact tb)⟩
 .rintro i1 ⟨fg,zc,zb,hh1⟩ y1 rz1 hd1 fY dz iT mF hs3 ⟨tb,Ix,hl1,u1_0⟩ hx1 ag1 e
  try dsimp only at tb Ix hl1 u1_0
  refine qK 6 [] U (tO fY U (qO 10 U (aI (iF (λy=>[I y]) eP ty3 (eN.mono vH (hle1.t hl1)).1 dz U U U (λq3 A3=>eJ ty3 A3 U (qO 2 U (gy 7 [20,21,22,23,24,25,26,27] 20 27 (decide (lu<y1)) U (λc1 hk1=>?_) (λe=>?_))))))))
  .exact bp (bp (aI (iF (λy=>[I y]) eP ty3 (eN.mono vH (hle1.t hl1)).1 dz U U U (λq4 A4=>eJ ty3 A4 U (qO 3 U (hk1 _ U))))))
  refine bo (aH hs3 U (λc2 hs4=>?_) (λc2 hs5=>?_))
  .exact kW U (qT 2 U (oi i1 U (an (ag1 (fg,zc,zb,hh1) hs4 ⟨tb,(by first|omega|(simp only[jA,zA,zB];omega)|(simp only[jA,zA,zB,List.length_take,List.length_drop];first|omega|(dsimp only;omega))),hl1,(by first|assumption|exact DC u1_0 ob)⟩))))
  refine qK 8 [] U ?_
  refine gB (ι:=Nat) (λi=>[(0,.slice co signed.length cn),(1,I lu),(5,.slice zc fg.length zb),(6,I (i1:Int)),(7,I (((fg.length-i):Nat):Int))]) (λi=>hh1) (λi=>[]) (λi=>i<=(vD fg.length).length/\cq signed lu=((λzi3=>(cq.L1 signed lu (cq.K1) rz1 (i1+1) (((fg.take (((((fg.length-zi3):Nat):Int):Int)).toNat)++[(i1:Int)])++(fg.drop (((((fg.length-zi3):Nat):Int):Int)).toNat)))) i)) ?_ (λhx3=>?_)
  .rintro i3 ⟨DP,hs6⟩ e
   try dsimp only at DP
   refine eY ([]) mixed kr jn (λgK _=>?_)
   refine qA [1,2] U (Ev 3 gK jn eP ty3 tb.1 tb.2 ob U U U U kr (λsb3 sc3 sl5=>qA [5,8,9] U (J1 10 gK jn eP ty3 tb.1 tb.2 ob U U U U kr (λsb4 sc4 sl6=>?_))))
   refine nk 0 6 kr U U ?_ ?_ 
   .refine pw eP ty3 (λb4=>⟨jn,?_⟩)
    refine nk 4 6 kr U U ?_ ?_ 
    .refine eB XF ([]) ([]) (λG=>G) ap (λ_=>ap) eP ty3 zc3 U bytes3 (cN.lit (show cS jB hh1 [] ([])from U) U) U U (km sl5.1) lo lo (λob4 oc4 G4 gr4=>⟨jn,(tn 6 U (bN (cells:=[I (i1:Int)]) eP ty3 zc3 U U kr (λb5=>?_)))⟩)
     let z3:Nat×Obj:=(b5,O [I (i1:Int)] 3)
     exact⟨jn,(tn 7 U (eB XF ([z3]) ([]) (λG=>[z3]++G) ap (λ_=>ap) eP ty3 zc3 U bytes3 gr4 U U (ic 0 U (cE (i1:Int) U U)) lo lo (λob5 oc5 G5 gr5=>⟨jn,(tn 11 U (eB XF ([z3]) ([]) (λG=>[z3]++G) ap (λ_=>ap) eP ty3 zc3 U bytes3 gr5 U U (km sl6.1) lo lo (λob6 oc6 G6 gr6=>⟨jn,(qA [12] U (bO kr (qT 3 U (oi i1 U (an (fQ vH ([z3]) G6 ([]) ap hM gr6 (λh3 hle3 sl7=>cu (L':=[]) js (ag1 ((((fg.take (((((fg.length-i3):Nat):Int):Int)).toNat)++[(i1:Int)])++(fg.drop (((((fg.length-i3):Nat):Int):Int)).toNat)),ob6,oc6,h3) hs6 ⟨sl7,(by first|omega|(simp only[jA,zA,zB];omega)|(simp only[jA,zA,zB,List.length_take,List.length_drop];first|omega|(dsimp only;omega))),(hl1.t hle3),(by first|assumption|exact DC u1_0 ob)⟩))))))))⟩)))⟩)))⟩
    refine bN (cells:=[I (i1:Int)]) eP ty3 zc3 U U kr (λb6=>⟨jn,(tn 4 U ?_)⟩)
    let z1:Nat×Obj:=(b6,O [I (i1:Int)] 3)
    exact eB XF ([z1]) ([]) (λG=>[z1]++G) ap (λ_=>ap) eP ty3 zc3 U bytes3 (cN.lit (show cS jB hh1 [] ([])from U) U) U U (km sl5.1) lo lo (λob7 oc7 G7 gr7=>⟨jn,(tn 7 U (eB XF ([z1]) ([]) (λG=>[z1]++G) ap (λ_=>ap) eP ty3 zc3 U bytes3 gr7 U U (ic 0 U (cE (i1:Int) U U)) lo lo (λob8 oc8 G8 gr8=>⟨jn,(tn 11 U (eB XF ([z1]) ([]) (λG=>[z1]++G) ap (λ_=>ap) eP ty3 zc3 U bytes3 gr8 U U (km sl6.1) lo lo (λob9 oc9 G9 gr9=>⟨jn,(qA [12] U (bO kr (qT 3 U (oi i1 U (an (fQ vH ([z1]) G9 ([]) ap hM gr9 (λh4 hle4 sl8=>cu (L':=[]) js (ag1 ((((fg.take (((((fg.length-i3):Nat):Int):Int)).toNat)++[(i1:Int)])++(fg.drop (((((fg.length-i3):Nat):Int):Int)).toNat)),ob9,oc9,h4) hs6 ⟨sl8,(by first|omega|(simp only[jA,zA,zB];omega)|(simp only[jA,zA,zB,List.length_take,List.length_drop];first|omega|(dsimp only;omega))),(hl1.t hle4),(by first|assumption|exact DC u1_0 ob)⟩))))))))⟩)))⟩)))⟩)
   refine bN (cells:=[I (i1:Int)]) eP ty3 zc3 U U kr (λb7=>⟨jn,(tn 0 U ?_)⟩)
   let z2:Nat×Obj:=(b7,O [I (i1:Int)] 3)
   exact pw eP ty3 (λb8=>⟨jn,(tn 4 U (eB XF ([]) ([z2]) (λG=>[z2]++G) ap (λ_=>ap) eP ty3 zc3 U bytes3 (cN.lit (show cS jB hh1 [] ([])from U) U) U U (km sl5.1) lo lo (λob10 oc10 G10 gr10=>⟨jn,(tn 7 U (eB XF ([z2]) ([]) (λG=>[z2]++G) ap (λ_=>ap) eP ty3 zc3 U bytes3 gr10 U U (ic 0 U (cE (i1:Int) U U)) lo lo (λob11 oc11 G11 gr11=>⟨jn,(tn 11 U (eB XF ([z2]) ([]) (λG=>[z2]++G) ap (λ_=>ap) eP ty3 zc3 U bytes3 gr11 U U (km sl6.1) lo lo (λob12 oc12 G12 gr12=>⟨jn,(qA [12] U (bO kr (qT 3 U (oi i1 U (an (fQ vH ([z2]) G12 ([]) ap hM gr12 (λh5 hle5 sl9=>cu (L':=[]) js (ag1 ((((fg.take (((((fg.length-i3):Nat):Int):Int)).toNat)++[(i1:Int)])++(fg.drop (((((fg.length-i3):Nat):Int):Int)).toNat)),ob12,oc12,h5) hs6 ⟨sl9,(by first|omega|(simp only[jA,zA,zB];omega)|(simp only[jA,zA,zB,List.length_take,List.length_drop];first|omega|(dsimp only;omega))),(hl1.t hle5),(by first|assumption|exact DC u1_0 ob)⟩))))))))⟩)))⟩)))⟩)))⟩)
  refine ju (ι:=Nat×List Nat) (λi=>[(0,.slice co signed.length cn),(1,I lu),(5,.slice zc fg.length zb),(6,I (i1:Int)),(7,I (((fg.length-i.1):Nat):Int))]) (λi=>hh1) (λi=>[]) (λi=>(vD fg.length).drop i.1=i.2/\i.1<=(vD fg.length).length/\cq signed lu=((cq.L3 signed y1 fg (λzi3=>(cq.L1 signed lu (cq.K1) rz1 (i1+1) (((fg.take (((((fg.length-zi3):Nat):Int):Int)).toNat)++[(i1:Int)])++(fg.drop (((((fg.length-zi3):Nat):Int):Int)).toNat))))) i.2 i.1)) (λi=>i.2.length) (0,(vD fg.length)) ⟨U,U,U,U,(congrArg (zC .i64) (show(fg.length:Int)=(((fg.length-0):Nat):Int)from by omega)),trivial⟩ sw ⟨U,zH _,hs5⟩ ?_
  rintro⟨i3,s3⟩ ⟨hd3,ND,hs7⟩ ag2 e
  try dsimp only at hd3 ND
  rcases s3 with _|⟨y3,rz3⟩
  .have Vk:decide (0<(((fg.length-i3):Nat):Int))=false:=decide_eq_false (by have q_:=of_decide_eq_false (nF hd3);rw[List.length_range]at q_;omega)
   exact ea (ea (eY ([]) mixed kr jn (λlZ _=>tm 0 U (tf 1 U U (λ_ _ _=>vg (v':=.bool false) U (cb Vk)) (qR 2 15 U (bO kr (qT 2 U (hx3 i3 _ ⟨ND,hs7⟩ rd))))))))
  have OO:decide (0<(((fg.length-i3):Nat):Int))=true:=decide_eq_true (by have q_:=ip hd3;rw[List.length_range]at q_;omega)
  have NC:i3<fg.length:=by simpa using ip hd3
  refine qT 2 U (eY ([]) mixed kr jn (λNA _=>tm 0 U (tf 1 U U (λ_ _ _=>vg (v':=.bool true) U (cb OO)) (qR 2 4 U (tf 6 U U (λ_ _ _=>vg (v':=I (((fg.length-(i3+1)):Nat):Int)) U (LQ NC ob)) ?_)))))
  have ho3:0<=((((fg.length-(i3+1)):Nat):Int):Int)/\((((fg.length-(i3+1)):Nat):Int):Int)<((fg).length:Int):=ob
  refine ir 7 (enc:=λy=>[I y]) NA jn ei eP ty3 tb.1 ho3 (di ho3) U U U U kr (λq8 A8=>tf 8 U U (rh ty3 A8 U) ?_)
  have ho4:0<=((nthI fg (((fg.length-(i3+1)):Nat):Int)):Int)/\((nthI fg (((fg.length-(i3+1)):Nat):Int)):Int)<((signed).length:Int):=(by first|omega|exact T8 u1_0 ob _)
  refine ir 9 (enc:=λy=>[I y]) NA jn ei eP ty3 (eN.mono vH (hle1.t hl1)).1 ho4 (di ho4) U U U U kr (λq9 A9=>tf 10 U U (rh ty3 A9 U) (qA [11,12] U (ir 13 (enc:=λy=>[I y]) NA jn ei eP ty3 (eN.mono vH (hle1.t hl1)).1 (nthZ dz) (gI dz) U U U U kr (λq10 A10=>tf 14 U U (rh ty3 A10 U) (qA [15,16] U (bO kr (aH hs7 U (λc4 hs9=>?_) (λc4 hs10=>?_))))))))
  .have c4p:=of_decide_eq_true c4
   exact bL (qT 3 U (i8 (v':=I (((fg.length-(i3+1)):Nat):Int)) U (LQ NC ob) (qO 3 U (ag2 ((i3+1),rz3) _ (Nat.lt_succ_self _) ⟨kx hd3,ip hd3,hs9⟩ rd))))
  have c4p:=of_decide_eq_false c4
  exact kW U (hx3 i3 _ ⟨ND,hs10⟩ rd)
 rintro i1 ⟨fg,zc,zb,hh1⟩ hd1 ml hx e
 exact qK 6 [] U (fO ml U (qO 3 U (hx _ rd)))
theorem Hy(h l fo fm signed co cn bq)(hl:SlC ao.rp h fo fm l)(eN:SlC jB h co cn signed)(hsg:signed.length=l.length)(hsn:signed.length<=2000000)(hnd:∀d∈l,d.fp.length<=16):j6 prog 182 [.slice fo l.length fm,.slice co signed.length cn,I bq] h (λv h'=>∃(rb0:Option Addr)(rc0:Nat),v=.slice rb0 (ct l signed bq).length rc0/\SlC jB h' rb0 rc0 (ct l signed bq)):=by
 refine sT func182 U ntmps182 U λX hM hX hF=>?_
 have hs0:=@rfl _ (ct l signed bq)
 refine qT 8 U (aI (cx call184 (As _ _ _ _ bq eN ob) U (λv1 h1 hle1 hp1=>?_)))
 obtain⟨rb1,rc1,rfl,sl1⟩:=hp1
 refine qL 6 [] U (aI (GW (R:=qW) (x0:=false) (m:=l.length) (λG=>G) U U (λ_=>ap) Et zc4 ty4 bytes4 U U ob ob (λb1 G1 gr1=>qO 4 U (aI (pw eP ty3 (λb2=>qO 7 U ?_))))))
 obtain⟨G6,gr6,ge1⟩:∃G:LH,cN jB 3 h1 ([]) (zAD b2) 0 G/\[(b2,O [] 3)]=G:=⟨_,cN.lit (show cS jB h1 [] ([])from rfl) rfl,rfl⟩
 refine bZ (L':=([])++([(b2,O [] 3)]++G1)) ap ?_
 rw[ge1]
 refine m6 (List.Perm.append_left _ xG) (bZ (L':=G1++G6) ap ?_)
 refine lp4 l (λi w=>[(0,.slice fo l.length fm),(1,.slice co signed.length cn),(7,.slice rb1 ((cq signed bq).length) rc1),(8,.slice (zAD b1) ((List.replicate l.length false).length) l.length),(9,.slice w.2.1 w.1.length w.2.2.1),(10,I (i:Int))]) (λ_=>h1) (λw=>G1++(w.2.2.2)) (λi w=>cN jB 3 h1 w.1 w.2.1 w.2.2.1 w.2.2.2/\w.1.length<=0+i/\w.1.length=i) (λi w=>cN jB 3 h1 w.1 w.2.1 w.2.2.1 w.2.2.2/\w.1.length<=0+i/\w.1.length=l.length) (λi g hi h=>⟨h.1,h.2.1,h.2.2.trans hi⟩) (λs1 i w=>(ct.L1 (ct.K1 l signed bq)) s1 w.1) ([],(zAD b2),0,G6) ((hl.mono ao.aD hle1).1.1) hs0 ⟨gr6,lo,U⟩ ?_ ?_ ?_
 .rintro i1 ⟨qf,D4,D3,Fy⟩ iP hs1 ⟨za,Iw,u1_0⟩ e
  try dsimp only at za Iw u1_0
  refine qT 5 U ?_
  refine lp2 (cq signed bq) (λi w=>[(0,.slice fo l.length fm),(1,.slice co signed.length cn),(7,.slice rb1 ((cq signed bq).length) rc1),(8,.slice w.2.1 w.1.length w.2.2.1),(9,.slice w.2.2.2.2.2.1 w.2.2.2.2.1.length w.2.2.2.2.2.2.1),(11,I (i:Int))]) (λ_=>h1) (λw=>w.2.2.2.1++(w.2.2.2.2.2.2.2)) (λi w=>cN qW 4 h1 w.1 w.2.1 w.2.2.1 w.2.2.2.1/\cN jB 3 h1 w.2.2.2.2.1 w.2.2.2.2.2.1 w.2.2.2.2.2.2.1 w.2.2.2.2.2.2.2/\w.1.length=l.length/\w.2.2.2.2.1.length=l.length) (λs2 i w=>(ct.L2 l signed bq (ct.K2)) s2 i w.1 w.2.2.2.2.1) ((List.replicate l.length false),(zAD b1),l.length,G1,qf,D4,D3,Fy) sl1.1.1 hs1 ⟨gr1,za,List.length_replicate,ob⟩ ?_ ?_ ?_
  .rintro i2 ⟨mG,qy,qw,pF,In,Ku,Kt,P6⟩ DP hs2 ⟨rB,NF,u2_0,u2_1⟩ e
   try dsimp only at rB NF u2_0 u2_1
   refine qT 5 U (fQ vH (pF) P6 ([]) ap hM NF (λh2 hle2 sl8=>bZ (L':=pF) ap ?_))
   have hs3:ct l signed bq=In:=hs2
   exact nretH [.slice Ku In.length Kt] ⟨Ku,Kt,congrArg (λr:List Int=>(.slice Ku r.length Kt:Value)) hs3.symm,(by rw[hs3];exact sl8)⟩
  .rintro i2 ⟨mG,qy,qw,pF,In,Ku,Kt,P6⟩ y2 rz2 hd2 zy tR Ib OP hs4 ⟨rB,NF,u2_0,u2_1⟩ hx2 ag1 e
   try dsimp only at rB NF u2_0 u2_1
   have hnl:=DF (P:=λd:ao=>d.fp.length<=16) hnd (zH _) y2
   refine qK 6 [] U (tO zy U (qO 9 U (aI (iF (λy=>[I y]) eP ty3 sl1.1 tR U U U (λq35 A35=>eJ ty3 A35 U (qO 7 U ?_))))))
   have ho40:0<=(y2:Int)/\(y2:Int)<((l).length:Int):=(by first|omega|(have hq:=uF signed bq _ (hZ hd2);omega))
   refine aI (yv xh ty54 (hl.mono ao.aD hle1).1 ho40 (di ho40) U U U (λ_ _ _ e=>e) (λq36 r15 A36 ok15=>qL 1 [] U (lQ (j:=8) ty31 A36 U U (qL 1 [] U (i8 (v':=I ((((nthI l y2).fp.length:Nat):Int)-1)) U (lv ob) (an ?_))))))
   refine gB (ι:=Nat×List Int×Option Addr×Nat×LH) (λi=>[(0,.slice fo l.length fm),(1,.slice co signed.length cn),(7,.slice rb1 ((cq signed bq).length) rc1),(8,.slice qy mG.length qw),(9,.slice i.2.2.1 i.2.1.length i.2.2.2.1),(11,I (i2:Int)),(12,I y2)]) (λi=>h1) (λi=>pF++(i.2.2.2.2)) (λi=>i.1<=(vD ((nthI l y2).fp.length)).length/\ct l signed bq=((λzg4_9=>(ct.L2 l signed bq (ct.K2) rz2 (i2+1) (mG.set (y2:Int).toNat (decide ((nthI zg4_9 y2)<0))) zg4_9)) i.2.1)/\cN jB 3 h1 i.2.1 i.2.2.1 i.2.2.2.1 i.2.2.2.2/\i.2.1.length=l.length) ?_ (λhx4=>?_)
   .rintro⟨i4,vZ,Ih,Ig,DR⟩ ⟨ND,hs5,Ch,u4_0⟩ e
    try dsimp only at ND Ch u4_0
    refine qT 5 U ?_
    have ho49:0<=(y2:Int)/\(y2:Int)<((vZ).length:Int):=ob
    have hgz:=cN.yg Ch (by omega)
    obtain⟨bk10,hbk10⟩:=hgz
    refine aI (eG (nY (R:=jB) (xs:=vZ) eP ty3 hbk10 ho49 U U U) (aI (eG (Fg (R:=jB) (i:=(y2:Int).toNat) (off:=0) ty3 Ch hbk10 (di ho49) (λcs_z hcs=>by rw[show cs_z=[I (nthI vZ y2)]from hcs];rfl) U mh) (PN U ?_))))
    have ho50:0<=(y2:Int)/\(y2:Int)<((mG).length:Int):=ob
    have hgz:=cN.yg rB (by omega)
    obtain⟨bk11,hbk11⟩:=hgz
    exact aI (eG (nY (R:=qW) (xs:=mG) Et ty4 hbk11 ho50 U U U) (aI (uT (R:=qW) (i:=(y2:Int).toNat) (off:=0) (u:=(nthI mG y2)) (u':=decide ((nthI vZ y2)<0)) (v:=.bool (decide ((nthI vZ y2)<0))) ([]) pF (DR) ty4 U rB ap hbk11 (di ho50) (by decide) (λcs_z hcs=>by rw[show cs_z=[.bool (nthI mG y2)]from hcs];rfl) U U U (λG12 gr12=>jm (L':=G12++(DR)) (by first|rfl|simp only[List.length_set,jE,xL,vF,List.append_nil]) (Uz 8 (.slice qy ((mG.set (y2:Int).toNat (decide ((nthI vZ y2)<0))).length) qw) (congrArg (λn_=>Value.slice qy n_ qw) (List.length_set ..).symm) (qO 4 U (oi i2 U (an (ag1 ((mG.set (y2:Int).toNat (decide ((nthI vZ y2)<0))),qy,qw,G12,vZ,Ih,Ig,DR) hs5 ⟨gr12,Ch,(by first|assumption|(rw[List.length_set];assumption)),(by first|assumption|(rw[List.length_set];assumption))⟩)))))))))
   refine ju (ι:=Nat×List Int×Option Addr×Nat×LH×List Nat) (λi=>[(0,.slice fo l.length fm),(1,.slice co signed.length cn),(7,.slice rb1 ((cq signed bq).length) rc1),(8,.slice qy mG.length qw),(9,.slice i.2.2.1 i.2.1.length i.2.2.2.1),(11,I (i2:Int)),(12,I y2),(13,I ((((((nthI l y2).fp.length)-i.1):Nat):Int)-1))]) (λi=>h1) (λi=>pF++(i.2.2.2.2.1)) (λi=>(vD ((nthI l y2).fp.length)).drop i.1=i.2.2.2.2.2/\i.1<=(vD ((nthI l y2).fp.length)).length/\ct l signed bq=((ct.L4 l signed bq i2 y2 mG (λzg4_9=>(ct.L2 l signed bq (ct.K2) rz2 (i2+1) (mG.set (y2:Int).toNat (decide ((nthI zg4_9 y2)<0))) zg4_9))) i.2.2.2.2.2 i.1 i.2.1)/\cN jB 3 h1 i.2.1 i.2.2.1 i.2.2.2.1 i.2.2.2.2.1/\i.2.1.length=l.length) (λi=>i.2.2.2.2.2.length) (0,In,Ku,Kt,P6,(vD ((nthI l y2).fp.length))) ⟨U,U,U,U,U,U,U,(congrArg (zC .i64) (show((((nthI l y2).fp.length:Nat):Int)-1)=((((((nthI l y2).fp.length)-0):Nat):Int)-1)from by omega)),trivial⟩ sw ⟨U,zH _,hs4,NF,ob⟩ ?_
   rintro⟨i4,vZ,Ih,Ig,DR,s4⟩ ⟨hd4,QY,hs6,Ch,u4_0⟩ ag2 e
   try dsimp only at hd4 QY Ch u4_0
   rcases s4 with _|⟨y4,rz4⟩
   .have Vj:decide (0<=((((((nthI l y2).fp.length)-i4):Nat):Int)-1))=false:=decide_eq_false (by have q_:=of_decide_eq_false (nF hd4);rw[List.length_range]at q_;omega)
    exact ea (qT 3 U (fO Vj U (qO 3 U (hx4 (i4,vZ,Ih,Ig,DR) _ ⟨QY,hs6,Ch,u4_0⟩ rd))))
   have Vi:decide (0<=((((((nthI l y2).fp.length)-i4):Nat):Int)-1))=true:=decide_eq_true (by have q_:=ip hd4;rw[List.length_range]at q_;omega)
   have NB:i4<((nthI l y2).fp.length):=by simpa using ip hd4
   refine qT 4 U (tO Vi U (qO 6 U (eY (pF++(DR)) mixed kr jn (λgK _=>qR 0 3 U (Ev 3 gK jn eP ty3 sl1.1 sl1.2 ob U U U U kr (λsb8 sc8 sl10=>qR 4 4 U ?_))))))
   have ho51:0<=(y2:Int)/\(y2:Int)<((l).length:Int):=(by first|omega|(have hq:=uF signed bq _ (hZ hd2);omega))
   refine oK 8 gK jn xh ty54 (hl.mono ao.aD hle1).1 ho51 (di ho51) U U U U kr (λq42 cs18 A42 ln18 rr18=>?_)
   obtain⟨r18,rfl,ok18⟩:=rr18
   refine qB [9] U (tf 10 U U (rH 8 ty31 A42 U U) (tm 11 U ?_))
   have ho52:0<=(((((((nthI l y2).fp.length)-i4):Nat):Int)-1):Int)/\(((((((nthI l y2).fp.length)-i4):Nat):Int)-1):Int)<(((nthI l y2).fp).length:Int):=ob
   refine ir 12 (enc:=λy=>[I y]) gK jn ei eP ty3 ok18.fp.1 ho52 (di ho52) U U U U kr (λq43 A43=>tf 13 U U (rh ty3 A43 U) (qA [15,16] U ?_))
   have ho53:0<=(y2:Int)/\(y2:Int)<((signed).length:Int):=(by first|omega|(have hq:=uF signed bq _ (hZ hd2);omega))
   refine ir 17 (enc:=λy=>[I y]) gK jn ei eP ty3 (eN.mono vH hle1).1 ho53 (di ho53) U U U U kr (λq44 A44=>tf 18 U U (rh ty3 A44 U) (tn 14 U (gi call255 (B4 _ _ _ _ (nthI ((nthI l y2).fp) ((((((nthI l y2).fp.length)-i4):Nat):Int)-1)) (hl.mono ao.aD hle1)) U (⟨jn,tn 19 U (Dp ([]) pF (DR) call183 Rp.ss rB ap (λhq1 hqle1 hqsl=>Ar hq1 l fo fm ((cq signed bq).take (((i2:Int):Int)).toNat) sb8 sc8 mG qy qw (gQ l (nthI ((nthI l y2).fp) ((((((nthI l y2).fp.length)-i4):Nat):Int)-1))) (nthI signed y2) (hl.mono ao.aD (hle1.t hqle1)) (sl10.mono vH hqle1) hqsl (λx hx=>by have hq:=uF signed bq x (List.mem_of_mem_take hx);omega) ob) U (⟨jn,(qR 20 5 U (bO kr (qT 5 U (aH hs6 U (λc15 hs8=>?_) (λc15 hs9=>?_)))))⟩))⟩))))
   .refine qT 5 U ?_
    have ho54:0<=(y2:Int)/\(y2:Int)<((l).length:Int):=(by first|omega|(have hq:=uF signed bq _ (hZ hd2);omega))
    refine aI (yv xh ty54 (hl.mono ao.aD hle1).1 ho54 (di ho54) U U U (λ_ _ _ e=>e) (λq45 r19 A45 ok19=>qL 1 [] U (lQ (j:=8) ty31 A45 U U (bp ?_))))
    have ho55:0<=(((((((nthI l y2).fp.length)-i4):Nat):Int)-1):Int)/\(((((((nthI l y2).fp.length)-i4):Nat):Int)-1):Int)<(((nthI l y2).fp).length:Int):=ob
    refine aI (tx (enc:=λy=>[I y]) ei eP ty3 ok19.fp.1 ho55 (di ho55) U U U (λq46 A46=>eJ ty3 A46 U ?_))
    have ho56:0<=(y2:Int)/\(y2:Int)<((vZ).length:Int):=ob
    have hgz:=cN.yg Ch (by omega)
    obtain⟨bk12,hbk12⟩:=hgz
    exact aI (eG (nY (R:=jB) (xs:=vZ) eP ty3 hbk12 ho56 U U U) (aI (uT (R:=jB) (i:=(y2:Int).toNat) (off:=0) (u:=(nthI vZ y2)) (u':=(nthI ((nthI l y2).fp) ((((((nthI l y2).fp.length)-i4):Nat):Int)-1))) (v:=I (nthI ((nthI l y2).fp) ((((((nthI l y2).fp.length)-i4):Nat):Int)-1))) (pF) DR ([]) ty3 U Ch ap hbk12 (di ho56) (by decide) (λcs_z hcs=>by rw[show cs_z=[I (nthI vZ y2)]from hcs];rfl) U U U (λG13 gr13=>jm (L':=pF++G13) (by first|rfl|simp only[List.length_set,jE,xL,vF,List.append_nil]) (Uz 9 (.slice Ih ((vZ.set (y2:Int).toNat (nthI ((nthI l y2).fp) ((((((nthI l y2).fp.length)-i4):Nat):Int)-1))).length) Ig) (congrArg (λn_=>Value.slice Ih n_ Ig) (List.length_set ..).symm) (qO 4 U (i8 (v':=I ((((((nthI l y2).fp.length)-(i4+1)):Nat):Int)-1)) U (Ql NB ob) (an (ag2 ((i4+1),(vZ.set (y2:Int).toNat (nthI ((nthI l y2).fp) ((((((nthI l y2).fp.length)-i4):Nat):Int)-1))),Ih,Ig,G13,rz4) _ (Nat.lt_succ_self _) ⟨kx hd4,ip hd4,hs8,gr13,(by first|assumption|(rw[List.length_set];assumption))⟩ rd)))))))))
   exact bL (qT 3 U (i8 (v':=I ((((((nthI l y2).fp.length)-(i4+1)):Nat):Int)-1)) U (Ql NB ob) (an (ag2 ((i4+1),vZ,Ih,Ig,DR,rz4) _ (Nat.lt_succ_self _) ⟨kx hd4,ip hd4,hs9,Ch,(by first|assumption|(rw[List.length_set];assumption))⟩ rd))))
  rintro i2 ⟨mG,qy,qw,pF,In,Ku,Kt,P6⟩ hd2 SI hx e
  exact qK 6 [] U (fO SI U (qO 3 U (hx _ rd)))
 .rintro i1 ⟨qf,D4,D3,Fy⟩ y1 rz1 hd1 fY dz iT mF hs10 ⟨za,Iw,u1_0⟩ hx1 ag3 e
  try dsimp only at za Iw u1_0
  exact qK 6 [] U (tO fY U (qO 7 U (aI (bN (cells:=[I (-1)]) eP ty3 zc3 U U kr (λb4=>aI (eB XF ([(b4,O [I (-1)] 3)]++G1) ([]) (λG=>[(b4,O [I (-1)] 3)]++(G1++G)) ap (λ_=>ap) eP ty3 zc3 U bytes3 za U U (ic 0 U (cE (-1) U U)) lo lo (λob2 oc2 G14 gr14=>qO 5 U (oi i1 U (an (cu (L':=G1++G14) js (ag3 ((qf++[(-1)]),ob2,oc2,G14) hs10 ⟨gr14,lo,lo⟩)))))))))))
 rintro i1 ⟨qf,D4,D3,Fy⟩ hd1 ml hx e
 exact qK 6 [] U (fO ml U (qO 3 U (hx _ rd)))
theorem Hw(h l fo fm signed co cn)(DO:Int)(dA)(hl:SlC ao.rp h fo fm l)(eN:SlC jB h co cn signed)(hsg:signed.length=l.length)(hsn:signed.length<=2000000)(hnd:∀d∈l,d.fp.length<=16)(hi:0<=DO/\DO<(l.length:Int)):Ret prog 116 [.slice fo l.length fm,.slice co signed.length cn,I DO,I dA] h (.tuple #[I ((ll l signed DO dA).1),I ((ll l signed DO dA).2)]):=by
 refine sT func116 U ntmps116 U λX hM hX hF=>?_
 have hs0:=@rfl _ (ll l signed DO dA)
 have hll:=Re l signed dA hsg
 refine qT 10 U (aI (cx call182 (Hy _ _ _ _ _ _ _ dA hl eN ob ob ob) U (λv1 h1 hle1 hp1=>?_)))
 obtain⟨rb1,rc1,rfl,sl1⟩:=hp1
 refine qO 4 U (aI (pw Et ty4 (λb1=>qO 7 U ?_)))
 obtain⟨G2,gr2,ge1⟩:∃G:LH,cN qW 4 h1 ([]) (zAD b1) 0 G/\[(b1,O [] 4)]=G:=⟨_,cN.lit (show cS qW h1 [] ([])from rfl) rfl,rfl⟩
 refine bZ (L':=([])++([(b1,O [] 4)]++([]))) ap ?_
 rw[ge1]
 refine m6 (List.Perm.append_left _ xG) (bZ (L':=G2) ap ?_)
 refine lp4 l (λi w=>[(0,.slice fo l.length fm),(1,.slice co signed.length cn),(2,I DO),(3,I dA),(10,.slice rb1 ((ct l signed dA).length) rc1),(11,.slice w.2.1 w.1.length w.2.2.1),(12,I (i:Int))]) (λ_=>h1) (λw=>w.2.2.2) (λi w=>cN qW 4 h1 w.1 w.2.1 w.2.2.1 w.2.2.2/\w.1.length<=0+i/\w.1.length=i) (λi w=>cN qW 4 h1 w.1 w.2.1 w.2.2.1 w.2.2.2/\w.1.length<=0+i/\w.1.length=l.length) (λi g hi h=>⟨h.1,h.2.1,h.2.2.trans hi⟩) (λs1 i w=>(ll.L1 l signed dA (ll.K1 l signed DO dA)) s1 i w.1) ([],(zAD b1),0,G2) ((hl.mono ao.aD hle1).1.1) hs0 ⟨gr2,lo,U⟩ ?_ ?_ ?_
 .rintro i1 ⟨mL,SW,SV,OW⟩ iP hs1 ⟨Iy,OV,u1_0⟩ e
  try dsimp only at Iy OV u1_0
  refine qT 5 U (aI (cx call184 (As _ _ _ _ dA (eN.mono vH hle1) ob) U (λv3 h4 hle4 hp3=>?_)))
  obtain⟨rb3,rc3,rfl,sl4⟩:=hp3
  refine qO 3 U (oW Rp.ss ([]) OW ([]) ap hM (Iy.mono Rp.ss hle4) (λh5 hle5 sl5=>aS call183 (Ar _ _ _ _ _ _ _ _ _ _ DO dA (hl.mono ao.aD ((hle1.t hle4).t hle5)) (sl4.mono vH hle5) sl5 (λx hx=>by have hq:=uF signed dA x hx;omega) ob) U (qO 12 U (aH hs1 U (λc2 hs2=>?_) (λc2 hs3=>?_)))))
  .refine qT 3 U ?_
   have ho3:0<=(DO:Int)/\(DO:Int)<(((ct l signed dA)).length:Int):=ob
   refine aI (tx (enc:=λy=>[I y]) ei eP ty3 (sl1.mono vH (hle4.t hle5)).1 ho3 (di ho3) U U U (λq3 A3=>eJ ty3 A3 U (qO 9 U ?_)))
   have hs4:ll l signed DO dA=((e9 l (cq signed dA) mL DO dA).1,(nthI (ct l signed dA) DO)):=hs2
   exact nretP [I ((e9 l (cq signed dA) mL DO dA).1),I (nthI (ct l signed dA) DO)] (hs4▸U)
  refine qT 8 U ?_
  have hs5:ll l signed DO dA=((e9 l (cq signed dA) mL DO dA).1,(e9 l (cq signed dA) mL DO dA).2):=hs3
  exact nretP [I ((e9 l (cq signed dA) mL DO dA).1),I ((e9 l (cq signed dA) mL DO dA).2)] (hs5▸U)
 .rintro i1 ⟨mL,SW,SV,OW⟩ y1 rz1 hd1 fY dz iT mF hs6 ⟨Iy,OV,u1_0⟩ hx1 ag1 e
  try dsimp only at Iy OV u1_0
  refine qK 6 [] U (tO fY U (qO 9 U ?_))
  have ho4:0<=((i1:Int):Int)/\((i1:Int):Int)<(((ct l signed dA)).length:Int):=ob
  refine aI (tx (enc:=λy=>[I y]) ei eP ty3 sl1.1 ho4 (di ho4) U U U (λq4 A4=>eJ ty3 A4 U (PN U (aI (bN (cells:=[.bool (decide ((nthI (ct l signed dA) (i1:Int))<0))]) Et ty4 zc4 U U kr (λb3=>?_))))))
  let z1:Nat×Obj:=(b3,O [.bool (decide ((nthI (ct l signed dA) (i1:Int))<0))] 4)
  exact aI (eB Rp.E2 ([z1]) ([]) (λG=>[z1]++G) ap (λ_=>ap) Et ty4 zc4 U bytes4 Iy U U (ic 0 U (cE (decide ((nthI (ct l signed dA) (i1:Int))<0)) U U)) lo lo (λob2 oc2 G3 gr3=>qO 5 U (oi i1 U (an (cu (L':=G3) js (ag1 ((mL++[decide ((nthI (ct l signed dA) (i1:Int))<0)]),ob2,oc2,G3) hs6 ⟨gr3,lo,lo⟩))))))
 rintro i1 ⟨mL,SW,SV,OW⟩ hd1 ml hx e
 exact qK 6 [] U (fO ml U (qO 3 U (hx _ rd)))
theorem Ez(h l fo fm signed co cn bq)(hl:SlC ao.rp h fo fm l)(eN:SlC jB h co cn signed)(hsn:l.length<=2000000):j6 prog 55 [.slice fo l.length fm,.slice co signed.length cn,I bq] h (λv h'=>∃(rb0:Option Addr)(rc0:Nat),v=.tuple #[.slice rb0 ((fR l signed bq).1).length rc0,I ((fR l signed bq).2)]/\SlC jB h' rb0 rc0 ((fR l signed bq).1)):=by
 refine sT func55 U ntmps55 U λX hM hX hF=>?_
 have hs0:=@rfl _ (fR l signed bq)
 refine qT 8 U (aS call112 (Au _ _ _ _ hl) U (qO 8 U (aH hs0 U (λc1 hs1=>?_) (λc1 hs2=>?_))))
 .refine qT 6 U ?_
  have hs3:fR l signed bq=([],(et l)):=hs1
  exact nretH [zSN,I (et l)] (hs3▸⟨none,0,U,zG⟩)
 refine qT 6 U (aS call114 (Dy _ _ _ _ _ _ _ hl eN) U (qO 2 U (gy 4 [22,23,24,25,26] 22 26 (!(o9 bq)) U (λc2 hk1=>?_) (λe=>?_))))
 .exact bp (aS call115 (BZ h bq) U (qO 2 U (hk1 _ U)))
 refine bo (aH hs2 U (λc3 hs4=>?_) (λc3 hs5=>?_))
 .refine qT 5 U ?_
  have hs6:fR l signed bq=([],1):=hs4
  exact nretH [zSN,I 1] (hs6▸⟨none,0,U,zG⟩)
 refine qT 3 U (aI (pw eP ty3 (λb1=>qO 7 U ?_)))
 obtain⟨G2,gr2,ge1⟩:∃G:LH,cN jB 3 h ([]) (zAD b1) 0 G/\[(b1,O [] 3)]=G:=⟨_,cN.lit (show cS jB h [] ([])from rfl) rfl,rfl⟩
 refine bZ (L':=([])++([(b1,O [] 3)]++([]))) ap ?_
 rw[ge1]
 refine m6 (List.Perm.append_left _ xG) (bZ (L':=G2) ap ?_)
 refine lp2 l (λi w=>[(0,.slice fo l.length fm),(1,.slice co signed.length cn),(2,I bq),(9,.slice w.2.1 w.1.length w.2.2.1),(10,I (i:Int))]) (λ_=>h) (λw=>w.2.2.2) (λi w=>cN jB 3 h w.1 w.2.1 w.2.2.1 w.2.2.2/\w.1.length<=0+i) (λs1 i w=>(fR.L1 l signed bq (fR.K1)) s1 i w.1) ([],(zAD b1),0,G2) hl.1.1 hs5 ⟨gr2,lo⟩ ?_ ?_ ?_
 .rintro i1 ⟨qf,D4,D3,Fy⟩ iP hs7 ⟨za,Iw⟩ e
  try dsimp only at za Iw
  refine qT 6 U (fQ vH ([]) Fy ([]) ap hM za (λh2 hle2 sl2=>?_))
  have hs8:fR l signed bq=(qf,0):=hs7
  exact nretH [.slice D4 qf.length D3,I 0] (hs8▸⟨D4,D3,U,sl2⟩)
 .rintro i1 ⟨qf,D4,D3,Fy⟩ y1 rz1 hd1 fY dz iT mF hs9 ⟨za,Iw⟩ hx1 ag1 e
  try dsimp only at za Iw
  refine qK 6 [] U (tO fY U (qO 11 U (aS call116 (Hw _ _ _ _ _ _ _ (i1:Int) bq hl eN (yQ (by simp only[decide_eq_true_eq,decide_eq_false_iff_not,qC,zE,xF,Bool.not_eq_false',Bool.and_eq_false_iff,Bool.or_eq_false_iff,beq_iff_eq,beq_eq_false_iff_ne,bne_iff_ne,bne_eq_false_iff_eq,jA,zA,zB,List.length_drop]at *;first|assumption|exact(by assumption:_/\_).1|exact(by assumption:(_/\_)/\_).1.1)) (by rw[show signed.length=l.length from(yQ (by simp only[decide_eq_true_eq,decide_eq_false_iff_not,qC,zE,xF,Bool.not_eq_false',Bool.and_eq_false_iff,Bool.or_eq_false_iff,beq_iff_eq,beq_eq_false_iff_ne,bne_iff_ne,bne_eq_false_iff_eq,jA,zA,zB,List.length_drop]at *;first|assumption|exact(by assumption:_/\_).1|exact(by assumption:(_/\_)/\_).1.1))];exact hsn) (N1 ob) (by first|omega|exact Find_ok ob)) U (qO 11 U (aH hs9 U (λc5 hs10=>?_) (λc5 hs11=>?_))))))
  .exact bJ (qO 3 U (aI (iR xh ty54 hl.1 dz U U U (λ_ _ _ e=>e) (λq2 r2 A2 ok2=>qL 1 [] U (eJ ty3 A2 U (aI (bN (cells:=[I y1.No]) eP ty3 zc3 U U kr (λb3=>aI (eB XF ([(b3,O [I y1.No] 3)]) ([]) (λG=>[(b3,O [I y1.No] 3)]++G) ap (λ_=>ap) eP ty3 zc3 U bytes3 za U U (ic 0 U (cE (y1.No) U U)) lo lo (λob2 oc2 G3 gr3=>qO 5 U (oi i1 U (an (cu (L':=G3) js (ag1 ((qf++[y1.No]),ob2,oc2,G3) hs10 ⟨gr3,lo⟩))))))))))))))
  exact bL (qT 3 U (oi i1 U (an (ag1 (qf,D4,D3,Fy) hs11 ⟨za,lo⟩))))
 rintro i1 ⟨qf,D4,D3,Fy⟩ hd1 ml hx e
 exact qK 6 [] U (fO ml U (qO 3 U (hx _ rd)))
theorem BY(h gF)  : Ret prog 118 [I gF] h (.bool (u0 gF)):=by
 refine sT func118 U ntmps118 U λX hM hX hF=>?_
 generalize hz:(u0 gF)=z;have hs:=hz.symm
 exact W
instance kC118:Ct 118:=⟨_,call118,@BY⟩
theorem Jd(h u ql qj)(hu:SlC XC h ql qj u):Ret prog 117 [.slice ql u.length qj] h (.bool (gP u)):=by
 refine sT func117 U ntmps117 U λX hM hX hF=>?_
 generalize hz:(gP u)=z;have hs:=hz.symm
 have HA:=h0 [0] 3 (λs1 i=>(gP.L1 u (gP.K1)) s1 i)
 have HB:=λy1 rz1 i1=>h0 [0,3] 4 (λs1 i=>((gP.L3 u y1 ((gP.L1 u (gP.K1) rz1 (i1+1)))) s1 i))
 exact W
theorem FX(h)(x:Budget)(lu ah)  : Ret prog 260 [.agg (xM x).toArray,I lu,I ah] h (.bool (uh x lu ah)):=by
 refine sT func260 U ntmps260 U λX hM hX hF=>?_
 generalize hz:(uh x lu ah)=z;have hs:=hz.symm
 exact W
instance kC260:Ct 260:=⟨_,call260,@FX⟩
theorem FW(h l fo fm)(sD:Int)(bq ah)(hl:SlC zR h fo fm l)(hi:0<=sD/\sD<(l.length:Int)):Ret prog 185 [.slice fo l.length fm,I sD,I bq,I ah] h (.bool (mb l sD bq ah)):=by
 refine sT func185 U ntmps185 U λX hM hX hF=>?_
 generalize hz:(mb l sD bq ah)=z;have hs:=hz.symm
 have HA:=h0 [0,2,3,9] 10 (λs1 i=>(mb.L1 l sD bq ah (mb.K1)) s1)
 exact W
instance kC185:Ct 185:=⟨_,call185,@FW⟩
theorem Dx(h l fo fm EH bq ah)(hl:SlC zR h fo fm l)(hsz0:l.length<=2000000):j6 prog 121 [.slice fo l.length fm,I EH,I bq,I ah] h (λv h'=>∃(rb0:Option Addr)(rc0:Nat),v=.slice rb0 (fI l EH bq ah).length rc0/\SlC zR h' rb0 rc0 (fI l EH bq ah)):=by
 refine sT func121 U ntmps121 U λX hM hX hF=>?_
 generalize hz:(fI l EH bq ah)=z;have hs:=hz.symm
 have HA:=hG [0,1,2,3] 10 9 zR 73 (λs1 i w=>(fI.L1 l EH bq ah (fI.K1)) s1 i w)
 exact W
theorem Jc(h)(x:Budget)(u ql qj value dA ah)(hu:SlC XC h ql qj u)(hxp:x.e8≠0):Ret prog 122 [.agg (xM x).toArray,.slice ql u.length qj,I value,I dA,I ah] h (.bool (mU x u value dA ah)):=by
 refine sT func122 U ntmps122 U λX hM hX hF=>?_
 have hs0:=@rfl _ (mU x u value dA ah)
 refine sr (eO (λb1=>qO 16 U ?_))
 refine lp1 u (λi w=>[(1,.slice ql u.length qj),(3,I dA),(4,I ah),(5,Q b1),(11,I w.1),(12,I w.2),(13,I (i:Int))]) ([(b1,O (xM x) 73)]) (λs1 i w=>(mU.L1 x dA ah (mU.K1 x)) s1 w.1 w.2) (0,value) hu.1.1 hs0 ?_ ?_ ?_
 .rintro i1 ⟨mL,rG⟩ iP hs1 e
  refine qK 7 [0] U (gy 5 [71,72,73,74,75,76] 71 76 (decide (x.Value<rG)) U (λc1 hk1=>?_) (λe=>?_))
  .exact qL 5 [0] U (hk1 _ U)
  exact an (nretP [.bool (decide (x.Count<=mL)||decide (x.Value<rG))] (cs hs1))
 .rintro i1 ⟨mL,rG⟩ y1 rz1 hd1 fY dz iT mF hs3 hx1 ag1 e
  refine qK 6 [] U (tO fY U (qO 6 U ?_))
  refine Cs [(1,.slice ql u.length qj),(3,I dA),(4,I ah),(5,Q b1),(11,I mL),(12,I rG),(13,I (i1:Int)),(57,.bool ((decide (y1.dY<=ah)&&((x.Kind==(-1))||(x.Kind==y1.Kind)))&&((kB .i64 (y1.At.tdiv x.e8))==(kB .i64 (dA.tdiv x.e8)))))] (λe=>?_) (λhk2=>?_)
  rotate_left
  .refine eY ([(b1,O (xM x) 73)]) mixed kr jn (λgK _=>?_)
   refine qA [0,1] U (ir 2 (enc:=Xm) gK jn ei JU ty223 hu.1 (nthZ dz) (gI dz) U U U U kr (λq3 A3=>qB [3] U (tf 4 U U (rH 4 ty3 A3 U U) (qR 5 3 U ?_))))
   refine fE 28 U (λc2=>?_) (λc2=>?_)
   .have c2p:=of_decide_eq_true c2
    refine qB [8] U (tf 9 U U (rj 0 ty3 U U U) (qA [10,11] U ?_))
    refine fE 32 U (λc3=>?_) (λc3=>?_)
    .exact tk 12 U U (qR 13 12 U (ir 25 (enc:=Xm) gK jn ei JU ty223 hu.1 (nthZ dz) (gI dz) U U U U kr (λq4 A4=>qB [26] U (tf 27 U U (rH 3 ty3 A4 U U) (qB [28] U (tf 29 U U (rj 0 ty3 U U U) (tf 30 U U (λ_ _ _=>Ff U U ob) (qB [31,32] U (tf 33 U U (rj 0 ty3 U U U) (tf 34 U U (λ_ _ _=>Ff U U ob) (qA [35,36] U (bO kr (hk2 _ ⟨U,U,U,U,U,U,U,(cb (show((kB .i64 (y1.At.tdiv x.e8))==(kB .i64 (dA.tdiv x.e8)))=((decide (y1.dY<=ah)&&((x.Kind==(-1))||(x.Kind==y1.Kind)))&&((kB .i64 (y1.At.tdiv x.e8))==(kB .i64 (dA.tdiv x.e8))))from by rw[c2,c3]<;>rfl)),trivial⟩)))))))))))))
    refine qB [12] U (tf 13 U U (rj 0 ty3 U U U) (qA [14,15] U (ir 16 (enc:=Xm) gK jn ei JU ty223 hu.1 (nthZ dz) (gI dz) U U U U kr (λq5 A5=>qB [17] U (tf 18 U U (rH 1 ty3 A5 U U) (qR 19 4 U ?_))))))
    refine fE 43 U (λc4=>?_) (λc4=>?_)
    .exact tm 23 U (tm 24 U (ir 25 (enc:=Xm) gK jn ei JU ty223 hu.1 (nthZ dz) (gI dz) U U U U kr (λq6 A6=>qB [26] U (tf 27 U U (rH 3 ty3 A6 U U) (qB [28] U (tf 29 U U (rj 0 ty3 U U U) (tf 30 U U (λ_ _ _=>Ff U U ob) (qB [31,32] U (tf 33 U U (rj 0 ty3 U U U) (tf 34 U U (λ_ _ _=>Ff U U ob) (qA [35,36] U (bO kr (hk2 _ ⟨U,U,U,U,U,U,U,(cb (show((kB .i64 (y1.At.tdiv x.e8))==(kB .i64 (dA.tdiv x.e8)))=((decide (y1.dY<=ah)&&((x.Kind==(-1))||(x.Kind==y1.Kind)))&&((kB .i64 (y1.At.tdiv x.e8))==(kB .i64 (dA.tdiv x.e8))))from by rw[c2,c3,c4]<;>rfl)),trivial⟩)))))))))))))
    exact tk 23 U U (qR 24 13 U (bO kr (hk2 _ ⟨U,U,U,U,U,U,U,(cb (show false=((decide (y1.dY<=ah)&&((x.Kind==(-1))||(x.Kind==y1.Kind)))&&((kB .i64 (y1.At.tdiv x.e8))==(kB .i64 (dA.tdiv x.e8))))from by rw[c2,c3,c4]<;>rfl)),trivial⟩)))
   have c2p:=of_decide_eq_false c2
   exact tk 8 U U (qR 9 28 U (bO kr (hk2 _ ⟨U,U,U,U,U,U,U,(cb (show false=((decide (y1.dY<=ah)&&((x.Kind==(-1))||(x.Kind==y1.Kind)))&&((kB .i64 (y1.At.tdiv x.e8))==(kB .i64 (dA.tdiv x.e8))))from by rw[c2]<;>rfl)),trivial⟩)))
  refine aH hs3 U (λc5 hs4=>?_) (λc5 hs5=>?_)
  .exact sr (qO 8 U (aI (iF Xm JU ty223 hu.1 dz U U U (λq7 A7=>qL 1 [] U (lQ (j:=2) ty3 A7 U U (qO 6 U (oi i1 U (an (ag1 ((kB .i64 (mL+1)),(kB .i64 (rG+y1.Value))) hs4)))))))))
  exact bL (qT 3 U (oi i1 U (an (ag1 (mL,rG) hs5))))
 rintro i1 ⟨mL,rG⟩ hd1 ml hx e
 exact qK 6 [] U (fO ml U (qO 3 U (hx _ rd)))
theorem Je(h l fo fm u ql qj L8 value cy ah)(hl:SlC zR h fo fm l)(hu:SlC XC h ql qj u)(hsz:l.length<=2000000):Ret prog 56 [.slice fo l.length fm,.slice ql u.length qj,I L8,I value,I cy,I ah] h (.tuple #[I ((iv l u L8 value cy ah).1),.bool ((iv l u L8 value cy ah).2.1),I ((iv l u L8 value cy ah).2.2)]):=by
 refine sT func56 U ntmps56 U λX hM hX hF=>?_
 have hs0:=@rfl _ (iv l u L8 value cy ah)
 refine qT 9 U (aS call110 (Aq _ _ _ _ hl) U (qO 8 U (aH hs0 U (λc1 hs1=>?_) (λc1 hs2=>?_))))
 .refine qT 7 U ?_
  have hs3:iv l u L8 value cy ah=(0,false,(gq l)):=hs1
  exact nretP [I 0,.bool false,I (gq l)] (hs3▸U)
 refine qK 8 [] U (aH hs2 U (λc2 hs4=>?_) (λc2 hs5=>?_))
 .have c2p:=of_decide_eq_true c2
  refine qT 6 U ?_
  have hs6:iv l u L8 value cy ah=(0,false,2):=hs4
  exact nretP [I 0,.bool false,I 2] (hs6▸U)
 have c2p:=of_decide_eq_false c2
 refine qT 5 U (aS call117 (Jd _ _ _ _ hu) U (qO 2 U (aH hs5 U (λc3 hs7=>?_) (λc3 hs8=>?_))))
 .refine qT 6 U ?_
  have hs9:iv l u L8 value cy ah=(0,false,180):=hs7
  exact nretP [I 0,.bool false,I 180] (hs9▸U)
 refine qT 5 U (aS call118 (BY h L8) U (qO 2 U (gy 4 [32,33,34,35,36] 32 36 (!(jU value 0 1099511627776)) U (λc4 hk1=>?_) (λe=>?_))))
 .exact bp (aS call119 (yY h value 0 1099511627776) U (qO 2 U (hk1 _ U)))
 refine bp (gy 4 [37,38,39,40,41] 37 41 (!(kY cy)) U (λc5 hk2=>?_) (λe=>?_))
 .exact bp (aS call120 (tA h cy) U (qO 2 U (hk2 _ U)))
 refine bp (gy 4 [42,43,44,45,46] 42 46 (!(kY ah)) U (λc6 hk3=>?_) (λe=>?_))
 .exact bp (aS call120 (tA h ah) U (qO 2 U (hk3 _ U)))
 refine bo (aH hs8 U (λc7 hs10=>?_) (λc7 hs11=>?_))
 .refine qT 6 U ?_
  have hs12:iv l u L8 value cy ah=(0,false,1):=hs10
  exact nretP [I 0,.bool false,I 1] (hs12▸U)
 refine qT 7 U (aI (cx call121 (Dx _ _ _ _ L8 cy ah hl ob) U (λv1 h1 hle1 hp1=>?_)))
 obtain⟨rb1,rc1,rfl,sl1⟩:=hp1
 refine qO 7 U ?_
 refine lp0 (fI l L8 cy ah) (λi=>[(1,.slice ql u.length qj),(3,I value),(4,I cy),(5,I ah),(16,.slice rb1 ((fI l L8 cy ah).length) rc1),(17,I (i:Int))]) ([]) (λs1 i=>(iv.L1 u value cy ah (iv.K1)) s1) sl1.1.1 hs11 ?_ ?_ ?_
 .rintro i1 iP hs13 e
  refine qT 6 U ?_
  have hs14:iv l u L8 value cy ah=((-1),true,0):=hs13
  exact nretP [I (-1),.bool true,I 0] (hs14▸U)
 .rintro i1 y1 rz1 hd1 fY dz iT mF hs15 hx1 ag1 e
  refine qK 6 [] U (tO fY U (qO 9 U (aI (iF xM Dd ty73 sl1.1 dz U U U (λq3 A3=>eU ty73 A3 U U (qO 4 U (aS call122 (Jc _ y1 _ _ _ value cy ah (hu.mono Yf hle1) (Lb (by simpa using c1) (hZ hd1))) U (bo (aH hs15 U (λc9 hs16=>?_) (λc9 hs17=>?_))))))))))
  .refine qT 4 U (aI (iF xM Dd ty73 sl1.1 dz U U U (λq4 A4=>qL 1 [] U (eJ ty3 A4 U (qO 4 U ?_)))))
   have hs18:iv l u L8 value cy ah=(y1.No,false,0):=hs16
   exact nretP [I y1.No,.bool false,I 0] (hs18▸U)
  exact bL (qT 3 U (oi i1 U (an (ag1 hs17))))
 rintro i1 hd1 ml hx e
 exact qK 6 [] U (fO ml U (qO 3 U (hx _ rd)))
theorem K9(h cK gU no)(mK:zL h cK gU):Ret prog 57 [.agg (zD cK gU).toArray,I no] h (I (eR cK no)):=by
 refine sT func57 U ntmps57 U λX hM hX hF=>?_
 generalize hz:(eR cK no)=z;have hs:=hz.symm
 have HA:=h0 [1,2] 5 (λs1 i=>(eR.L1 no (eR.K1)) s1 i)
 exact W
theorem yX(h gF)  : Ret prog 58 [I gF] h (.bool (nV gF)):=by
 refine sT func58 U ntmps58 U λX hM hX hF=>?_
 generalize hz:(nV gF)=z;have hs:=hz.symm
 exact W
theorem Hi(h cK gU signed co cn u ql qj aV cy ah)(mK:zL h cK gU)(eN:SlC jB h co cn signed)(hu:SlC XC h ql qj u)(hsm:smR cK):Ret prog 19 [.agg (zD cK gU).toArray,.slice co signed.length cn,.slice ql u.length qj,I aV,I cy,I ah] h (I (oY cK signed u aV cy ah)):=by
 refine sT func19 U ntmps19 U λX hM hX hF=>?_
 have hs0:=@rfl _ (oY cK signed u aV cy ah)
 refine sr (eO (λb1=>qO 5 U (dy 0 ty30 U U U (aS call54 (Hj _ _ _ mK ob) U (qO 2 U (aH hs0 U (λc1 hs1=>?_) (λc1 hs2=>?_)))))))
 .exact sr (an (nretP [I 300] (ci hs1)))
 refine qK 6 [0] U (aI (cx call55 (Ez _ _ _ _ _ _ _ 0 mK.cd eN hsm.2.2.2.2.2.1) U (λv1 h1 hle1 hp1=>?_)))
 obtain⟨rb1,rc1,rfl,sl1⟩:=hp1
 refine qO 12 U (aH hs2 U (λc2 hs4=>?_) (λc2 hs5=>?_))
 .exact sr (qO 3 U (nretP [I ((fR cK.cd signed 0).2)] (ci hs4)))
 refine qK 6 [0] U (aS call56 (Je _ _ _ _ _ _ _ 0 0 0 0 (mK.dH.mono Budget.aD hle1) (hu.mono Yf hle1) hsm.2.2.2.2.1) U (qO 14 U (aH hs5 U (λc3 hs7=>?_) (λc3 hs8=>?_))))
 .exact sr (qO 3 U (nretP [I ((iv cK.dH u 0 0 0 0).2.2)] (ci hs7)))
 refine qT 4 U (dy 0 ty30 U U U (bp (aS call57 (K9 _ _ _ aV (mK.mono hle1)) U (qO 2 U (gy 4 [46,47,48,49,50] 46 50 (!(nV cy)) U (λc4 hk1=>?_) (λe=>?_))))))
 .exact bp (aS call58 (yX h1 cy) U (qO 2 U (hk1 _ U)))
 refine bp (gy 4 [51,52,53,54,55] 51 55 (!(nV ah)) U (λc5 hk2=>?_) (λe=>?_))
 .exact bp (aS call58 (yX h1 ah) U (qO 2 U (hk2 _ U)))
 refine bo (aH hs8 U (λc6 hs10=>?_) (λc6 hs11=>?_))
 .exact sr (an (nretP [I 1] (ci hs10)))
 exact bL (qT 4 U (nretP [I 0] (ci hs11)))
theorem HX(h cK gU signed co cn u ql qj aV cy ah)(mK:zL h cK gU)(eN:SlC jB h co cn signed)(hu:SlC XC h ql qj u)(hsm:smR cK):Ret prog 7 [.agg (zD cK gU).toArray,.slice co signed.length cn,.slice ql u.length qj,I aV,I cy,I ah] h (.bool (gV cK signed u aV cy ah)):=by
 refine sT func7 U ntmps7 U λX hM hX hF=>?_
 have hs0:=@rfl _ (gV cK signed u aV cy ah)
 refine sr (eO (λb1=>qO 4 U (dy 0 ty30 U U U (qO 2 U (aS call18 (K7 _ _ _ _ _ _ _ _ _ mK eN hu) U (bp (kI 9 [17,18,19,20,21,22,23,24,25,26] 17 26 ((oY cK signed u aV cy ah)==0) U (λc1 hk1=>?_) (λe=>?_))))))))
 .exact dy 0 ty30 U U U (qO 5 U (aS call19 (Hi _ _ _ _ _ _ _ _ _ aV cy ah mK eN hu ob) U (qO 2 U (hk1 _ U))))
 exact an (nretP [.bool ((lK cK signed u)&&((oY cK signed u aV cy ah)==0))] (cs hs0))
theorem tz(h a Tw Tv ky Cm Ck)(ha:SlC jJ h Tw Tv a)(CT:SlC jJ h Cm Ck ky):Ret prog 13 [.slice Tw a.length Tv,.slice Cm ky.length Ck] h (.bool (fa a ky)):=by
 refine sT func13 U ntmps13 U λX hM hX hF=>?_
 have hs0:=@rfl _ (fa a ky)
 refine qK 13 [] U (aH hs0 U (λc1 hs1=>?_) (λc1 hs2=>?_))
 .exact qK 9 [] U (nretP [.bool (decide ((a.length:Int)<(ky.length:Int)))] (cs hs1))
 refine qT 6 U ?_
 refine lp0 a (λi=>[(0,.slice Tw a.length Tv),(1,.slice Cm ky.length Ck),(5,I (i:Int))]) ([]) (λs1 i=>(fa.L1 ky (fa.K1)) s1 i) ha.1.1 hs2 ?_ ?_ ?_
 .rintro i1 iP hs4 e
  exact sr (an (nretP [.bool false] (cs hs4)))
 .rintro i1 y1 rz1 hd1 fY dz iT mF hs6 hx1 ag1 e
  refine qK 6 [] U (tO fY U (qO 6 U (eY ([]) mixed kr jn (λgK _=>qA [0,1] U (ir 2 (enc:=xQ) gK jn ei nR ty45 ha.1 (nthZ dz) (gI dz) U U U U kr (λq9 A9=>tf 3 U U (λ_ _ hj=>mW ty45 (A9.mono hj.1) U U) (qA [4,5] U ?_)))))))
  have ho5:0<=((i1:Int):Int)/\((i1:Int):Int)<((ky).length:Int):=ob
  refine ir 6 (enc:=xQ) gK jn ei nR ty45 CT.1 ho5 (di ho5) U U U U kr (λq10 A10=>tf 7 U U (λ_ _ hj=>mW ty45 (A10.mono hj.1) U U) (tf 8 U U (λ_ _ _=>UB (IG y1 (nthI ky (i1:Int))) eqg45 U U) (bO kr (aH hs6 U (λc3 hs7=>?_) (λc3 hs8=>?_)))))
  .refine ea ?_
   refine Cs [(4,.bool (decide (y1.Kind<(nthI ky (i1:Int)).Kind)||((y1.Kind==(nthI ky (i1:Int)).Kind)&&decide (y1.N<(nthI ky (i1:Int)).N))))] (λe=>?_) (λhk1=>?_)
   rotate_left
   .refine eY ([]) mixed kr jn (λlZ _=>?_)
    refine qA [0,1] U (ir 2 (enc:=xQ) lZ jn ei nR ty45 ha.1 (nthZ dz) (gI dz) U U U U kr (λq11 A11=>qB [3] U (tf 4 U U (rh ty3 A11 U) (qA [5,6] U ?_))))
    have ho6:0<=((i1:Int):Int)/\((i1:Int):Int)<((ky).length:Int):=ob
    refine ir 7 (enc:=xQ) lZ jn ei nR ty45 CT.1 ho6 (di ho6) U U U U kr (λq12 A12=>qB [8] U (tf 9 U U (rh ty3 A12 U) (qA [10,11] U ?_)))
    refine fE 42 U (λc4=>?_) (λc4=>?_)
    .have c4p:=of_decide_eq_true c4
     exact tk 12 U U (qR 13 25 U (bO kr (hk1 _ ⟨(cb (show true=(decide (y1.Kind<(nthI ky (i1:Int)).Kind)||((y1.Kind==(nthI ky (i1:Int)).Kind)&&decide (y1.N<(nthI ky (i1:Int)).N)))from by rw[c4]<;>rfl)),trivial⟩)))
    have c4p:=of_decide_eq_false c4
    refine qA [12,13] U (ir 14 (enc:=xQ) lZ jn ei nR ty45 ha.1 (nthZ dz) (gI dz) U U U U kr (λq13 A13=>qB [15] U (tf 16 U U (rh ty3 A13 U) (qA [17,18] U ?_))))
    have ho7:0<=((i1:Int):Int)/\((i1:Int):Int)<((ky).length:Int):=ob
    refine ir 19 (enc:=xQ) lZ jn ei nR ty45 CT.1 ho7 (di ho7) U U U U kr (λq14 A14=>qB [20] U (tf 21 U U (rh ty3 A14 U) (qA [22,23] U ?_)))
    refine fE 54 U (λc5=>?_) (λc5=>?_)
    .refine qA [24,25] U (ir 26 (enc:=xQ) lZ jn ei nR ty45 ha.1 (nthZ dz) (gI dz) U U U U kr (λq15 A15=>qB [27] U (tf 28 U U (rH 1 ty3 A15 U U) (qA [29,30] U ?_))))
     have ho8:0<=((i1:Int):Int)/\((i1:Int):Int)<((ky).length:Int):=ob
     exact ir 31 (enc:=xQ) lZ jn ei nR ty45 CT.1 ho8 (di ho8) U U U U kr (λq16 A16=>qB [32] U (tf 33 U U (rH 1 ty3 A16 U U) (qR 34 4 U (bO kr (hk1 _ ⟨(cb (show decide (y1.N<(nthI ky (i1:Int)).N)=(decide (y1.Kind<(nthI ky (i1:Int)).Kind)||((y1.Kind==(nthI ky (i1:Int)).Kind)&&decide (y1.N<(nthI ky (i1:Int)).N)))from by rw[c4,c5]<;>rfl)),trivial⟩)))))
    exact tk 24 U U (qR 25 13 U (bO kr (hk1 _ ⟨(cb (show false=(decide (y1.Kind<(nthI ky (i1:Int)).Kind)||((y1.Kind==(nthI ky (i1:Int)).Kind)&&decide (y1.N<(nthI ky (i1:Int)).N)))from by rw[c4,c5]<;>rfl)),trivial⟩)))
   exact nretP [.bool (decide (y1.Kind<(nthI ky (i1:Int)).Kind)||((y1.Kind==(nthI ky (i1:Int)).Kind)&&decide (y1.N<(nthI ky (i1:Int)).N)))] (cs hs7)
  exact bL (qT 3 U (oi i1 U (an (ag1 hs8))))
 rintro i1 hd1 ml hx e
 exact qK 6 [] U (fO ml U (qO 3 U (hx _ rd)))
theorem xp(h l fo fm)(hl:SlC jJ h fo fm l):Ret prog 12 [.slice fo l.length fm] h (.bool (em l)):=by
 refine sT func12 U ntmps12 U λX hM hX hF=>?_
 have hs0:=@rfl _ (em l)
 refine qT 9 U ?_
 refine gB (ι:=Nat×HF) (λi=>[]) (λi=>i.2) (λi=>[]) (λi=>i.1<=l.length+1/\em l=((em.K1))/\xJ h i.2) ?_ (λhx1=>?_)
 .rintro⟨i1,hh1⟩ ⟨iP,hs1,hl1⟩ e
  exact sr (an (nretP [.bool true] (cs hs1)))
 refine ju (ι:=Nat×HF×List Lack) (λi=>[(0,.slice fo l.length fm),(3,I (i.1:Int))]) (λi=>i.2.1) (λi=>[]) (λi=>l.drop i.1=i.2.2/\(1<=i.1/\i.1<=l.length+1)/\em l=((em.L1 l (em.K1)) i.2.2 i.1)/\xJ h i.2.1) (λi=>i.2.2.length) (1,h,(l.drop 1)) rd sw ⟨U,ob,hs0,lf⟩ ?_
 rintro⟨i1,hh1,s1⟩ ⟨hd1,iP,hs3,hl1⟩ ag1 e
 rcases s1 with _|⟨y1,rz1⟩
 .have ml:=nF hd1
  exact qK 6 [] U (fO ml U (qO 3 U (hx1 (i1,hh1) _ ⟨iP.2,hs3,hl1⟩ trivial)))
 have fY:=tc hd1
 have dz:=rJ hd1
 have iT:=ip hd1
 have mF:=hl.1.1
 refine qK 6 [] U (tO fY U (qO 6 U (eY ([]) mixed kr jn (λgK _=>qA [0,1] U (tf 2 U U (λ_ _ _=>vg (v':=I ((i1:Int)-1)) U (lv ob)) ?_)))))
 have ho2:0<=(((i1:Int)-1):Int)/\(((i1:Int)-1):Int)<((l).length:Int):=ob
 refine ir 3 (enc:=xQ) gK jn ei nR ty45 (hl.mono WP hl1).1 ho2 (di ho2) U U U U kr (λq3 A3=>tf 4 U U (λ_ _ hj=>mW ty45 (A3.mono hj.1) U U) (qA [6,7] U (ir 8 (enc:=xQ) gK jn ei nR ty45 (hl.mono WP hl1).1 (nthZ dz) (gI dz) U U U U kr (λq4 A4=>tf 9 U U (λ_ _ hj=>mW ty45 (A4.mono hj.1) U U) ?_))))
 refine nk 5 10 kr U U ?_ ?_ 
 .refine bN (cells:=[I ((nthI l ((i1:Int)-1)).Kind),I ((nthI l ((i1:Int)-1)).N)]) nR ty45 zc45 U U kr (λb3=>⟨jn,tn 10 U (bN (cells:=[I y1.Kind,I y1.N]) nR ty45 zc45 U U kr (λb4=>⟨jn,tn 11 U (m4 1 U hM (λh3 hle3 hb3=>?_))⟩))⟩)
  have sl3:SlC jJ h3 (zAD b3) 1 ([(nthI l ((i1:Int)-1))]):=cS.slB0 (T:=45) (fz:=(0,0)) ((show cS jJ hh1 [I ((nthI l ((i1:Int)-1)).Kind),I ((nthI l ((i1:Int)-1)).N)] ([(nthI l ((i1:Int)-1))])from⟨[I ((nthI l ((i1:Int)-1)).Kind),I ((nthI l ((i1:Int)-1)).N)],[],rfl,rfl,rfl,rfl⟩).mono WP hle3) hb3
  refine m4 0 U hM (λh4 hle4 hb4=>?_)
  have sl4:SlC jJ h4 (zAD b4) 1 ([y1]):=cS.slB0 (T:=45) (fz:=(0,0)) ((show cS jJ h3 [I y1.Kind,I y1.N] ([y1])from⟨[I y1.Kind,I y1.N],[],rfl,rfl,rfl,rfl⟩).mono WP hle4) hb4
  refine gi call13 (tz _ _ _ _ _ _ _ (sl3.mono WP hle4) sl4) U (⟨⟨(hle3.t hle4),λ_ hp=>List.Sublist.subset (List.Sublist.refl _) hp⟩,qm (K2:=[]) (hle3.t hle4) (λ_ hp=>hp) (qA [12] U (bO kr (aH hs3 U (λc2 hs5=>?_) (λc2 hs6=>?_))))⟩)
  .exact sr (an (nretP [.bool false] (cs hs5)))
  exact bL (qT 3 U (oi i1 U (an (ag1 ((i1+1),h4,rz1) _ (Nat.lt_succ_self _) ⟨kx hd1,ob,hs6,((hl1.t hle3).t hle4)⟩ rd))))
 refine bN (cells:=[I y1.Kind,I y1.N]) nR ty45 zc45 U U kr (λb5=>⟨jn,(tn 5 U (bN (cells:=[I ((nthI l ((i1:Int)-1)).Kind),I ((nthI l ((i1:Int)-1)).N)]) nR ty45 zc45 U U kr (λb6=>⟨jn,tn 11 U (m4 0 U hM (λh5 hle5 hb5=>?_))⟩)))⟩)
 have sl5:SlC jJ h5 (zAD b6) 1 ([(nthI l ((i1:Int)-1))]):=cS.slB0 (T:=45) (fz:=(0,0)) ((show cS jJ hh1 [I ((nthI l ((i1:Int)-1)).Kind),I ((nthI l ((i1:Int)-1)).N)] ([(nthI l ((i1:Int)-1))])from⟨[I ((nthI l ((i1:Int)-1)).Kind),I ((nthI l ((i1:Int)-1)).N)],[],rfl,rfl,rfl,rfl⟩).mono WP hle5) hb5
 refine m4 0 U hM (λh6 hle6 hb6=>?_)
 have sl6:SlC jJ h6 (zAD b5) 1 ([y1]):=cS.slB0 (T:=45) (fz:=(0,0)) ((show cS jJ h5 [I y1.Kind,I y1.N] ([y1])from⟨[I y1.Kind,I y1.N],[],rfl,rfl,rfl,rfl⟩).mono WP hle6) hb6
 refine gi call13 (tz _ _ _ _ _ _ _ (sl5.mono WP hle6) sl6) U (⟨⟨(hle5.t hle6),λ_ hp=>List.Sublist.subset (List.Sublist.refl _) hp⟩,qm (K2:=[]) (hle5.t hle6) (λ_ hp=>hp) (qA [12] U (bO kr (aH hs3 U (λc3 hs8=>?_) (λc3 hs9=>?_))))⟩)
 .exact sr (an (nretP [.bool false] (cs hs8)))
 exact bL (qT 3 U (oi i1 U (an (ag1 ((i1+1),h6,rz1) _ (Nat.lt_succ_self _) ⟨kx hd1,ob,hs9,((hl1.t hle5).t hle6)⟩ rd))))
theorem call212(args:Array Value)(w:World):(callFunc 100 args).run prog w=((Extern.SlicesOverlaps.overlaps #[28,28] #[4] args).run prog w).andThen λv w'=>.ok (.value v) w':=
 run_callFunc_extern func100 kr kr kr kr args w
end
section
open Go.Proofs Go.Proofs.Tryz
set_option maxHeartbeats 2000000
theorem law32_MissingLeast_top{w:World}(h:HF)(hp:Pre h [] w)(cK:Register)(gU:pC)(signed:List Int)(co:Option Addr)(cn:Nat)(u:List Use)(ql:Option Addr)(qj:Nat)(aV:Int)(cy:Int)(ah:Int)(other:List Lack)(Lm:Option Addr)(Ll:Nat)(mK:zL h cK gU)(eN:SlC jB h co cn signed)(hu:SlC XC h ql qj u)(hother:SlC jJ h Lm Ll other)(hsm:smR cK)(hso:other.length<=1500000)(hk:dN h):Calls prog 4 [.agg (zD cK gU).toArray,.slice co signed.length cn,.slice ql u.length qj,I aV,I cy,I ah,.slice Lm other.length Ll].toArray w λe w'=>e=.returned (.bool (eA cK signed u aV cy ah other))/\RowKit.Below w.heap.size w w':=by
 refine N5 hp GH U ntmps4 U λX hM hX=>?_
 have hs0:=@rfl _ (eA cK signed u aV cy ah other)
 have hml:=SA cK signed u aV cy ah
 refine sr (eO (λb1=>qO 5 U (aS call6 (Jw h  hk) U (qO 2 U (aH hs0 U (λc1 hs1=>?_) (λc1 hs2=>?_))))))
 .exact sr (an (uM [.bool false] GH U hX rd (cs hs1)))
 .refine qT 4 U (dy 0 ty30 U U U (qO 5 U (aS call7 (HX _ _ _ _ _ _ _ _ _ aV cy ah mK eN hu ob) U (qO 2 U (gy 4 [38,39,40,41,42] 38 42 (decide (40<(other.length:Int))) U (λc2 hk1=>?_) (λe=>?_))))))
  .exact qL 4 [] U (hk1 _ U)
  refine bo (aH hs2 U (λc3 hs4=>?_) (λc3 hs5=>?_))
  .exact sr (an (uM [.bool true] GH U hX rd (cs hs4)))
  .refine qT 3 U (dy 0 ty30 U U U (qO 5 U (aI (cx Ro (nZ _ _ _ _ _ _ _ _ _ aV cy ah mK eN hu hsm (uW (by simpa using(Bool.or_eq_false_iff.1 (by assumption:((!(gV cK signed u aV cy ah))||decide (40<(other.length:Int)))=false)).1)) hk (λ_=>(xn hsm (by simpa using(Bool.or_eq_false_iff.1 (by assumption:((!(gV cK signed u aV cy ah))||decide (40<(other.length:Int)))=false)).1)))) U (λv1 h1 hle1 hp1=>?_)))))
   obtain⟨rb1,rc1,rfl,sl1⟩:=hp1
   refine qO 10 U (dy 0 ty30 U U U (qO 6 U (aS JM (lE _ _ _ _ _ _ _ _ _ aV cy ah _ _ _ (mK.mono hle1) (eN.mono vH hle1) (hu.mono Yf hle1) sl1 hsm (uW (by simpa using(Bool.or_eq_false_iff.1 (by assumption:((!(gV cK signed u aV cy ah))||decide (40<(other.length:Int)))=false)).1)) (hk.mono hle1) (λ_=>(xn hsm (by simpa using(Bool.or_eq_false_iff.1 (by assumption:((!(gV cK signed u aV cy ah))||decide (40<(other.length:Int)))=false)).1)))) U (qO 8 U (dy 0 ty30 U U U (qO 6 U (aS JM (lE _ _ _ _ _ _ _ _ _ aV cy ah _ _ _ (mK.mono hle1) (eN.mono vH hle1) (hu.mono Yf hle1) (hother.mono WP hle1) hsm (uW (by simpa using(Bool.or_eq_false_iff.1 (by assumption:((!(gV cK signed u aV cy ah))||decide (40<(other.length:Int)))=false)).1)) (hk.mono hle1) (λ_=>(xn hsm (by simpa using(Bool.or_eq_false_iff.1 (by assumption:((!(gV cK signed u aV cy ah))||decide (40<(other.length:Int)))=false)).1)))) U (qO 12 U (gy 3 [78,79,80,81] 78 81 ((dS cK signed u aV cy ah ((aY cK signed u aV cy ah).1)).2 != 0) U (λc4 hk2=>?_) (λe=>?_))))))))))
   .exact bp (qO 2 U (hk2 _ U))
   refine bp (gy 3 [82,83,84,85] 82 85 ((dS cK signed u aV cy ah other).2 != 0) U (λc5 hk3=>?_) (λe=>?_))
   .exact bp (qO 2 U (hk3 _ U))
   refine bp (gy 4 [86,87,88,89,90] 86 90 (!((dS cK signed u aV cy ah ((aY cK signed u aV cy ah).1)).1==(aY cK signed u aV cy ah).2.1)) U (λc6 hk4=>?_) (λe=>?_))
   .exact bp (bp (aI (eG (VB Vz U U) (mY U (hk4 _ U)))))
   refine bp (gy 4 [91,92,93,94,95] 91 95 (!(em ((aY cK signed u aV cy ah).1))) U (λc7 hk5=>?_) (λe=>?_))
   .exact bp (aS call12 (xp _ _ _ _ sl1) U (qO 2 U (hk5 _ U)))
   refine bp (gy 4 [96,97,98,99,100] 96 100 (decide (100<(((aY cK signed u aV cy ah).1).length:Int))) U (λc8 hk6=>?_) (λe=>?_))
   .exact qL 4 [] U (hk6 _ U)
   refine bo (aH hs5 U (λc9 hs7=>?_) (λc9 hs8=>?_))
   .exact sr (an (uM [.bool false] GH U hX rd (cs hs7)))
   .refine qT 6 U (kI 12 [102,103,104,105,106,107,108,109,110,111,112,113,114] 102 114 ((!((aY cK signed u aV cy ah).2.1))||((em other)&&(fa other ((aY cK signed u aV cy ah).1)))) U (λc10 hk7=>?_) (λe=>?_))
    .refine qO 3 U (gy 8 [105,106,107,108,109,110,111,112,113] 105 113 ((em other)&&(fa other ((aY cK signed u aV cy ah).1))) U (λc11 hk8=>?_) (λe=>?_))
     .refine bp (aS call12 (xp _ _ _ _ (hother.mono WP hle1)) U (bp (kI 4 [108,109,110,111,112] 108 112 (fa other ((aY cK signed u aV cy ah).1)) U (λc12 hk9=>?_) (λe=>?_))))
      .exact bp (bp (aS call13 (tz _ _ _ _ _ _ _ (hother.mono WP hle1) sl1) U (mY U (hk9 _ U))))
      exact mY U (hk8 _ U)
     exact mY U (hk7 _ U)
    refine bo (aH hs8 U (λc13 hs10=>?_) (λc13 hs11=>?_))
    .exact sr (an (uM [.bool false] GH U hX rd (cs hs10)))
    .refine qT 7 U (aH hs11 U (λc14 hs13=>?_) (λc14 hs14=>?_))
     .exact sr (an (uM [.bool true] GH U hX rd (cs hs13)))
     .refine qK 8 [] U ?_
      let z1:Nat×Obj:=(b1,O (zD cK gU) 30)
      refine lp2 ((aY cK signed u aV cy ah).1) (λi w=>[(1,.slice co signed.length cn),(2,.slice ql u.length qj),(3,I aV),(4,I cy),(5,I ah),(6,.slice Lm other.length Ll),(7,Q b1),(15,.slice rb1 (((aY cK signed u aV cy ah).1).length) rc1),(118,I (((aY cK signed u aV cy ah).1).length:Int)),(119,I (i:Int))]) (λw=>w) (λw=>[z1]) (λi w=>xJ h1 w) (λs1 i w=>(eA.L1 cK signed u aV cy ah (eA.K1 cK signed u aV cy ah other)) s1 i) h1 sl1.1.1 hs14 (HF.le_refl h1) ?_ ?_
      .rintro i1 hh1 iP hs16 hl1 e
       refine ea (eY ([z1]) mixed kr jn (λgK _=>tf 0 U U (λ_ _ hj=>lO ty30 U (hj.nth (i:=0) U) U) (qA [1,2,3,4,5,7,9] U (tn 6 U (pw nR ty45 (λb3=>⟨jn,(tn 8 U (eB Lack.dg ([]) ([z1]) (λG=>[z1]++(G)) ap (λ_=>ap) nR ty45 zc45 U bytes45 (cN.lit (show cS jJ hh1 [] ([])from U) U) U U (km (sl1.mono WP hl1).1) lo lo (λob3 oc3 G3 gr3=>⟨jn,(tn 10 U (eB Lack.dg ([z1]) ([]) (λG=>[z1]++(G)) ap (λ_=>ap) nR ty45 zc45 U bytes45 gr3 U U (km (hother.mono WP (hle1.t hl1)).1) lo lo (λob4 oc4 G4 gr4=>⟨jn,(tn 11 U (xm WP ([z1]) G4 ([]) ap hM gr4 (λh3 hle3 sl5=>gi JM (lE _ _ _ _ _ _ _ _ _ aV cy ah _ _ _ (mK.mono ((hle1.t hl1).t hle3)) (eN.mono vH ((hle1.t hl1).t hle3)) (hu.mono Yf ((hle1.t hl1).t hle3)) sl5 hsm (uW (by simpa using(Bool.or_eq_false_iff.1 (by assumption:((!(gV cK signed u aV cy ah))||decide (40<(other.length:Int)))=false)).1)) (hk.mono ((hle1.t hl1).t hle3)) (λ_=>(xn hsm (by simpa using(Bool.or_eq_false_iff.1 (by assumption:((!(gV cK signed u aV cy ah))||decide (40<(other.length:Int)))=false)).1)))) U (⟨⟨hle3,λ_ hp=>List.Sublist.subset (List.Sublist.refl _) hp⟩,qm (K2:=[z1]) hle3 (λ_ hp=>hp) (qR 12 5 U (bO kr (qT 5 U (kI 2 [166,167,168] 166 168 ((dS cK signed u aV cy ah ((aY cK signed u aV cy ah).1++other)).1) U (λc15 hk10=>?_) (λe=>?_)))))⟩))))⟩)))⟩)))⟩))))))
       .exact bp (mY U (hk10 _ U))
       exact an (uM [.bool (((dS cK signed u aV cy ah ((aY cK signed u aV cy ah).1++other)).2==0)&&(dS cK signed u aV cy ah ((aY cK signed u aV cy ah).1++other)).1)] GH U hX rd (cs hs16))
      .rintro i1 hh1 y1 rz1 hd1 fY dz iT mF hs18 hl1 hx1 ag1 e
       refine sr (tO fY U (qO 12 U (eY ([z1]) mixed kr jn (λlZ _=>qA [1,2] U (Ev 3 lZ jn nR ty45 (sl1.mono WP hl1).1 (sl1.mono WP hl1).2 ob U U U U kr (λsb3 sc3 sl6=>qA [5,6] U (tf 7 U U (λ_ _ _=>vg (v':=I (((i1+1):Nat):Int)) U (nH ob)) (J1 8 lZ jn nR ty45 (sl1.mono WP hl1).1 (sl1.mono WP hl1).2 ob U U U U kr (λsb4 sc4 sl7=>tn 0 U (pw nR ty45 (λb4=>⟨jn,(tn 4 U (eB Lack.dg ([]) ([z1]) (λG=>[z1]++(G)) ap (λ_=>ap) nR ty45 zc45 U bytes45 (cN.lit (show cS jJ hh1 [] ([])from U) U) U U (km sl6.1) lo lo (λob5 oc5 G5 gr5=>⟨jn,(tn 9 U (eB Lack.dg ([z1]) ([]) (λG=>[z1]++(G)) ap (λ_=>ap) nR ty45 zc45 U bytes45 gr5 U U (km sl7.1) lo lo (λob6 oc6 G6 gr6=>⟨jn,(qA [10] U (bO kr (sr (dy 0 ty30 U U U (qO 6 U (oW WP ([z1]) G6 ([]) ap hM gr6 (λh4 hle4 sl8=>aS JM (lE _ _ _ _ _ _ _ _ _ aV cy ah _ _ _ (mK.mono ((hle1.t hl1).t hle4)) (eN.mono vH ((hle1.t hl1).t hle4)) (hu.mono Yf ((hle1.t hl1).t hle4)) sl8 hsm (uW (by simpa using(Bool.or_eq_false_iff.1 (by assumption:((!(gV cK signed u aV cy ah))||decide (40<(other.length:Int)))=false)).1)) (hk.mono ((hle1.t hl1).t hle4)) (λ_=>(xn hsm (by simpa using(Bool.or_eq_false_iff.1 (by assumption:((!(gV cK signed u aV cy ah))||decide (40<(other.length:Int)))=false)).1)))) U (qO 11 U (gy 2 [145,146,147] 145 147 ((dS cK signed u aV cy ah ((((aY cK signed u aV cy ah).1).take (((i1:Int):Int)).toNat)++(((aY cK signed u aV cy ah).1).drop (((((i1+1):Nat):Int):Int)).toNat))).1) U (λc16 hk11=>?_) (λe=>?_))))))))))⟩)))⟩)))⟩)))))))))))
       .exact bp (mY U (hk11 _ U))
       refine bo (aH hs18 U (λc17 hs19=>?_) (λc17 hs20=>?_))
       .exact sr (an (uM [.bool false] GH U hX rd (cs hs19)))
       .exact bL (qT 2 U (oi i1 U (qO 2 U (ag1 h4 hs20 (hl1.t hle4)))))
end
end Go.Sg

namespace Go.Proofs.YtafbfagbjekhhaaGreatDoor.missingLeast
open Go.ChangeShapes Go.WideShapes Go.ChangeAt Go.RowKit
theorem own:ownKnob Tryz.prog.godebug=none:=by kernel_rfl
theorem laidOut:laidOutB Tryz.prog=true:=by kernel_rfl
theorem contract(H:Type)(enc:TypeId×Value->H)(W:World)(base:Nat)(args:Array Value)(ds gs:List (DataW H))(before:List MemPlace)(hval:∀(j:Nat)t v,Tryz.f4.params[j]? = some t->args[j]? = some v->Value.okWide Tryz.prog W .any base t v)(hW:DataW.Whole enc Tryz.prog Tryz.f4.params.toList Rows.missingLeastSpec.vars false W args.toList ds gs before)(hcond:Rows.uptoSmall H (ds++gs)=true)(hL:laidMetH Tryz.prog Rows.missingLeastUptoRow.laid W):
    Calls Tryz.prog 4 args W λe W'=>∃v,e=.returned v/\Rows.missingLeastSpec.post enc Tryz.prog Tryz.f4 false true false false W args v W':=by
  have hW':=hW
  obtain⟨p,q,hA0,hV,rfl,hfz,hnd⟩:=hW
  have hA:DataW.TrodAll enc Tryz.prog W 0 (λ_=>true) true Tryz.f4.params.toList args.toList ds p:=hA0
  rw[Tryz.params4]at hA hval
  obtain⟨v0,vs0,d0,ds0,p0,z0,hargs,rfl,rfl,h0,t0⟩:=trodAll_cons hA
  obtain⟨v1,vs1,d1,ds1,p1,z1,rfl,rfl,rfl,h1,t1⟩:=trodAll_cons t0
  obtain⟨v2,vs2,d2,ds2,p2,z2,rfl,rfl,rfl,h2,t2⟩:=trodAll_cons t1
  obtain⟨v3,vs3,d3,ds3,p3,z3,rfl,rfl,rfl,h3,t3⟩:=trodAll_cons t2
  obtain⟨v4,vs4,d4,ds4,p4,z4,rfl,rfl,rfl,h4,t4⟩:=trodAll_cons t3
  obtain⟨v5,vs5,d5,ds5,p5,z5,rfl,rfl,rfl,h5,t5⟩:=trodAll_cons t4
  obtain⟨v6,vs6,d6,ds6,p6,z6,rfl,rfl,rfl,h6,t6⟩:=trodAll_cons t5
  obtain⟨rfl,rfl,rfl⟩:=trodAll_nil t6
  obtain rfl:args=#[v0,v1,v2,v3,v4,v5,v6]:=by cases args;simp_all
  obtain⟨rfl,rfl⟩:=trodVars_none hV
  clear hA0 hA
  have h0k:=h0
  have h1k:=h1
  have h2k:=h2
  have h3k:=h3
  have h4k:=h4
  have h5k:=h5
  have h6k:=h6
  simp only[List.append_nil]at hW' hcond
  have hB:Rows.uptoBulkAll [d0,d1,d2,d3,d4,d5,d6]<=1048576:=of_decide_eq_true hcond
  obtain⟨a0,rfl,_⟩:=okWide_struct Tryz.underlying30 (hval 0 30 v0 rfl rfl)
  obtain⟨f0,g0⟩:=h0
  obtain⟨x0,⟨r0,e0,o0⟩,q0⟩:=Sg.opn_Register f0 _ _ _ g0
  obtain rfl:a0=(Sg.Register.cells x0 r0).toArray:=by
    apply Array.toList_inj.1;exact e0
  obtain⟨b1,l1,c1,rfl⟩:=okWide_slice Tryz.underlying31 (hval 1 31 v1 rfl rfl)
  obtain⟨f1,g1⟩:=h1
  obtain⟨b1',c1',x1,e1,o1,q1⟩:=Sg.opn_slice (R:=Sg.Rp.int) (sz:=λ_=>1) Tryz.underlying31 (by kernel_rfl) (by decide) (λk _=>Sg.opn_int (by kernel_rfl) k) g1
  cases e1
  obtain⟨b2,l2,c2,rfl⟩:=okWide_slice Tryz.underlying32 (hval 2 32 v2 rfl rfl)
  obtain⟨f2,g2⟩:=h2
  obtain⟨b2',c2',x2,e2,o2,q2⟩:=Sg.opn_slice (R:=Sg.Use.rp) (sz:=λ_=>1) Tryz.underlying32 (by kernel_rfl) (by decide) (λk _=>Sg.opn_Use k) g2
  cases e2
  obtain⟨n3,rfl⟩:=okWide_int Tryz.underlying3 (hval 3 3 v3 rfl rfl)
  obtain⟨n4,rfl⟩:=okWide_int Tryz.underlying3 (hval 4 3 v4 rfl rfl)
  obtain⟨n5,rfl⟩:=okWide_int Tryz.underlying3 (hval 5 3 v5 rfl rfl)
  obtain⟨b6,l6,c6,rfl⟩:=okWide_slice Tryz.underlying35 (hval 6 35 v6 rfl rfl)
  obtain⟨f6,g6⟩:=h6
  obtain⟨b6',c6',x6,e6,o6,q6⟩:=Sg.opn_slice (R:=Sg.Lack.rp) (sz:=λ_=>1) Tryz.underlying35 (by kernel_rfl) (by decide) (λk _=>Sg.opn_Lack k) g6
  cases e6
  simp only[Rows.uptoBulkAll]at hB
  have y1:=Sg.szL_len (f:=λ_:Int=>1) (λ_=>Nat.le_refl _) x1
  have y2:=Sg.szL_len (f:=λ_:Sg.Use=>1) (λ_=>Nat.le_refl _) x2
  have y6:=Sg.szL_len (f:=λ_:Sg.Lack=>1) (λ_=>Nat.le_refl _) x6
  have z0b:=Sg.bulk_one d0
  have z1b:=Sg.bulk_one d1
  have z2b:=Sg.bulk_one d2
  have z3b:=Sg.bulk_one d3
  have z4b:=Sg.bulk_one d4
  have z5b:=Sg.bulk_one d5
  have z6b:=Sg.bulk_one d6
  have walk:=Sg.law32_MissingLeast_top (Sg.hOf W) (Sg.pre_hOf W) x0 r0 x1 b1 c1 x2 b2 c2 n3 n4 n5 x6 b6 c6 o0 o1 o2 o6 (Sg.smR_of (by omega)) (by omega) (Sg.kinds_of hL)
  rw[Sg.least_true (Sg.smR_of (by omega))]at walk
  refine walk.mono λe W'⟨he,hb⟩=>?_
  subst he
  exact⟨_,rfl,Sg.post_below (pa:=p0++(p1++(p2++(p3++(p4++(p5++(p6++([])))))))) (pv:=[]) hW' (λ_ _ _=>trodAll_cons_mk (shut_bool Tryz.underlying4 _) trodAll_mk0) (λsp hsp=>(trodAll_cons_mk (Sg.stays laidOut (by kernel_rfl) (by kernel_rfl) h0k hb hW'.lt (λx hx=>by simp[hx]) hsp) (trodAll_cons_mk (Sg.stays laidOut (by kernel_rfl) (by kernel_rfl) h1k hb hW'.lt (λx hx=>by simp[hx]) hsp) (trodAll_cons_mk (Sg.stays laidOut (by kernel_rfl) (by kernel_rfl) h2k hb hW'.lt (λx hx=>by simp[hx]) hsp) (trodAll_cons_mk (Sg.stays laidOut (by kernel_rfl) (by kernel_rfl) h3k hb hW'.lt (λx hx=>by simp[hx]) hsp) (trodAll_cons_mk (Sg.stays laidOut (by kernel_rfl) (by kernel_rfl) h4k hb hW'.lt (λx hx=>by simp[hx]) hsp) (trodAll_cons_mk (Sg.stays laidOut (by kernel_rfl) (by kernel_rfl) h5k hb hW'.lt (λx hx=>by simp[hx]) hsp) (trodAll_cons_mk (Sg.stays laidOut (by kernel_rfl) (by kernel_rfl) h6k hb hW'.lt (λx hx=>by simp[hx]) hsp) trodAll_mk0)))))))) (λ_ _=>rfl) (by simp) hb (ok_one (by kernel_rfl) rfl (okWide_bool_mk Tryz.underlying4 _))⟩
end Go.Proofs.YtafbfagbjekhhaaGreatDoor.missingLeast
