import Derived.Test.YtngiefchigcphaaGreatDoorCards
import Derived.Test.YtngiefchigcphaaGreatDoorTie
import Derived.ProofKit
import Derived.Deep.DeepHandedRow
import Derived.Test.YtngiefchigcphaaGreatDoorW10
/- A part of the proof of AsofNeededSpec. -/
set_option linter.unusedVariables false
set_option linter.unusedSimpArgs false
set_option maxRecDepth 100000
namespace Go.Sg
open Go.Proofs Go.Proofs.Tryz
set_option maxHeartbeats 2000000
theorem CB (h:HF) (l:List Int) (ey:Option Addr) (ew:Nat) (gM:Int) (hl:SlC Rp.int h ey ew l):Ret prog 237 [.slice ey l.length ew,I gM] h (.bool (iJ l gM)):=by
 refine sT func237 U ntmps237 U fun X hM hX hF=>?_
 have hs0:iJ l gM=iJ l gM:=rfl
 refine qT 9 U ?_
 refine lp0 l (fun i=>[(0,.slice ey l.length ew),(1,I gM),(5,I (i:Int))]) ([]) (fun s1 i=>(iJ.L1 gM (iJ.K1)) s1) hl.1.1 hs0 ?_ ?_ ?_
 ·rintro i1 et hs1 e
  exact sr (an (nretP [.bool false] (cs hs1)))
 ·rintro i1 y1 rz1 hd1 cw ao dy fB hs3 hx1 ag1 e
  refine qK 6 [] U (ad (v':=.bool true) U (cb cw) (qO 9 U (aA (ek (enc:=fun y=>[I y]) ei cQ ty3 hl.1 (nthZ ao) (au ao) U U U (fun q2 A2=>cK ty3 A2 U (qO 3 U (ac hs3 U (fun c2 hs4=>?_) (fun c2 hs5=>?_))))))))
  ·exact sr (an (nretP [.bool true] (cs hs4)))
  exact aE (qT 3 U (ad (v':=I (((i1+1):Nat):Int)) U (aL ob) (an (ag1 hs5))))
 rintro i1 hd1 eG hx e
 exact qK 6 [] U (ad (v':=.bool false) U (cb eG) (qO 3 U (hx _ rd)))
theorem vz (h:HF) (l:List Interest) (ey:Option Addr) (ew:Nat) (who:Int) (parties:List Int) (gd:Option Addr) (ga:Nat) (aW:Int) (known:Int) (hl:SlC Interest.rp h ey ew l) (hparties:SlC Rp.int h gd ga parties) (hsz:l.length≤2000000):iq prog 200 [.slice ey l.length ew,I who,.slice gd parties.length ga,I aW,I known] h (fun v h'=>∃ (rb0:Option Addr) (rc0:Nat),v=.tuple #[.slice rb0 ((br l who parties aW known).1).length rc0,.bool ((br l who parties aW known).2.1),I ((br l who parties aW known).2.2)]∧SlC Rp.int h' rb0 rc0 ((br l who parties aW known).1)):=by
 refine sT func200 U ntmps200 U fun X hM hX hF=>?_
 have hs0:br l who parties aW known=br l who parties aW known:=rfl
 have hall:=AL l aW known
 refine qT 13 U (ah call234 (zl _ _ _ _ who _ _ _ aW known hl hparties) U (qO 8 U (ac hs0 U (fun c1 hs1=>?_) (fun c1 hs2=>?_))))
 ·refine qT 7 U ?_
  have hs3:br l who parties aW known=([],false,(gK l who parties aW known)):=hs1
  exact nretH [.slice none 0 0,.bool false,I (gK l who parties aW known)] ⟨none,0,congrArg (fun r:(List Int×Bool×Int)=>(.tuple #[.slice none r.1.length 0,.bool r.2.1,I r.2.2]:Value)) hs3.symm,(by rw [hs3];exact SlC.nil)⟩
 refine qT 6 U (aA (cf call235 (vy _ _ _ _ aW known hl ob) U (fun v1 h1 hle1 hp1=>?_)))
 obtain ⟨rb1,rc1,rfl,sl1⟩:=hp1
 refine qO 4 U (aA (ia xe ty270 (fun b1=>qO 7 U ?_)))
 obtain ⟨G1,gr1,ge1⟩:∃ G:LH,cM dJ.rp 270 h1 ([]) (some ⟨b1,0,none⟩) 0 G∧[(b1,O [] 270)]=G:=⟨_,cM.lit (show aP dJ.rp h1 [] ([]) from rfl) rfl,rfl⟩
 refine cS (L':=([])++([(b1,O [] 270)]++([]))) ap ?_
 rw [ge1]
 refine kC (List.Perm.append_left _ List.perm_append_comm) (cS (L':=G1) ap ?_)
 refine lp2 (cu l aW known) (fun i w=>[(1,I who),(2,.slice gd parties.length ga),(14,.slice rb1 ((cu l aW known).length) rc1),(15,.slice w.2.1 w.1.length w.2.2.1),(16,I (i:Int))]) (fun w=>w.2.2.2.2) (fun w=>w.2.2.2.1) (fun i w=>cM dJ.rp 270 w.2.2.2.2 w.1 w.2.1 w.2.2.1 w.2.2.2.1∧HF.le h1 w.2.2.2.2∧nR (cu l aW known) w.1) (fun s1 i w=>(br.L1 who (br.K1 l parties aW known)) s1 w.1) ([],(some ⟨b1,0,none⟩),0,G1,h1) sl1.1.1 hs2 ⟨gr1,lf,nR.nil⟩ ?_ ?_ ?_
 ·rintro i1 ⟨qk,An,Am,wU,hh1⟩ et hs4 ⟨wT,hl1,u1_0⟩ e
  try dsimp only at wT hl1 u1_0
  refine qT 5 U ?_
  refine iH (ι:=Nat×List dJ×Option Addr×Nat×LH×HF) (fun i=>[]) (fun i=>i.2.2.2.2.2) (fun i=>i.2.2.2.2.1) (fun i=>br l who parties aW known=(br.K2) i.1 i.2.1∧cM dJ.rp 270 i.2.2.2.2.2 i.2.1 i.2.2.1 i.2.2.2.1 i.2.2.2.2.1∧HF.le hh1 i.2.2.2.2.2) ?_ (fun hx2=>?_)
  ·rintro ⟨i2,jY,C3,C2,C4,hh2⟩ ⟨hs5,nM,hl2⟩ e
   try dsimp only at nM hl2
   refine qT 6 U ?_
   have hs6:br l who parties aW known=([],false,0):=hs5
   exact nretH [.slice none 0 0,.bool false,I 0] ⟨none,0,congrArg (fun r:(List Int×Bool×Int)=>(.tuple #[.slice none r.1.length 0,.bool r.2.1,I r.2.2]:Value)) hs6.symm,(by rw [hs6];exact SlC.nil)⟩
  refine j5 (ι:=Nat×List dJ×Option Addr×Nat×LH×HF×Nat) (fun i=>[(2,.slice gd parties.length ga),(14,.slice rb1 ((cu l aW known).length) rc1),(15,.slice i.2.2.1 i.2.1.length i.2.2.2.1),(17,I (i.1:Int))]) (fun i=>i.2.2.2.2.2.1) (fun i=>i.2.2.2.2.1) (fun i=>br l who parties aW known=(br.L2 l parties aW known (br.K2)) i.2.2.2.2.2.2 i.1 i.2.1∧i.2.2.2.2.2.2+i.1=(l.length+1)∧cM dJ.rp 270 i.2.2.2.2.2.1 i.2.1 i.2.2.1 i.2.2.2.1 i.2.2.2.2.1∧HF.le hh1 i.2.2.2.2.2.1∧nR (cu l aW known) i.2.1) (fun i=>i.2.2.2.2.2.2) (0,qk,An,Am,wU,hh1,(l.length+1)) rd sw ⟨hs4,U,wT,lf,ob⟩ ?_
  rintro ⟨i2,jY,C3,C2,C4,hh2,rz2⟩ ⟨hs7,hf2,nM,hl2,u2_0⟩ ag1 e
  try dsimp only at hf2 nM hl2 u2_0
  have hwl:=u2_0.len
  rcases Nat.lt_or_ge i2 jY.length with vM | hge2p
  ·obtain ⟨rz2,rfl⟩:∃ q,rz2=q+1:=⟨rz2 - 1,by omega⟩
   have oI:decide ((i2:Int) < (jY.length:Int))=true:=decide_eq_true ob
   have hs8:=hs7.trans (bt oI)
   refine qK 6 [] U (ad (v':=.bool true) U (cb oI) (qO 11 U ?_))
   have ho1:0≤((i2:Int):Int)∧((i2:Int):Int) < ((jY).length:Int):=ob
   obtain ⟨bk1,hbk1⟩:=cM.lM nM ob
   refine aA (fu (pN (R:=dJ.rp) (xs:=jY) xe ty270 hbk1 ho1 rfl rfl rfl) (qL 1 [] rfl (aA (fu (DS (R:=dJ.rp) (i:=((i2:Int):Int).toNat) (off:=1) ty3 nM hbk1 (bT ho1) (fun cs hcs=>by obtain ⟨q,e1,_⟩:=hcs;rw [e1];rfl) rfl mh) (ah call237 (CB _ _ _ _ ((nthI jY (i2:Int)).To) (hparties.mono Rp.aK ((hle1.t hl1).t hl2))) rfl (aM (ac hs8 rfl (fun c2 hs9=>?_) (fun c2 hs10=>?_))))))))
   ·refine qT 4 U ?_
    have ho2:0≤((i2:Int):Int)∧((i2:Int):Int) < ((jY).length:Int):=ob
    obtain ⟨bk2,hbk2⟩:=cM.lM nM ob
    refine aA (fu (pN (R:=dJ.rp) (xs:=jY) xe ty270 hbk2 ho2 U U U) (qL 1 [] U ?_))
    obtain ⟨_,⟨r1,rfl,ok1⟩,hi1⟩:=cM.elem nM (bT ho2)
    refine aA (fu (zC (off:=0) ty31 hi1 hbk2 U U mh) (qO 4 U ?_))
    have hs11:br l who parties aW known=((nthI jY (i2:Int)).gT,true,0):=hs9
    exact nretH [.slice r1.AG ((nthI jY (i2:Int)).gT.length) r1.AF,.bool true,I 0] ⟨r1.AG,r1.AF,congrArg (fun r:(List Int×Bool×Int)=>(.tuple #[.slice r1.AG r.1.length r1.AF,.bool r.2.1,I r.2.2]:Value)) hs11.symm,(by rw [hs11];exact ok1.gT)⟩
   refine qT 6 U ?_
   have ho3:0≤((i2:Int):Int)∧((i2:Int):Int) < ((jY).length:Int):=ob
   obtain ⟨bk3,hbk3⟩:=cM.lM nM ob
   refine aA (fu (pN (R:=dJ.rp) (xs:=jY) xe ty270 hbk3 ho3 U U U) (qL 1 [] U ?_))
   obtain ⟨_,⟨r2,rfl,ok2⟩,hi2⟩:=cM.elem nM (bT ho3)
   refine aA (fu (zC (off:=0) ty31 hi2 hbk3 U U mh) (qL 3 [] U (ac hs10 U (fun c3 hs12=>?_) (fun c3 hs13=>?_))))
   ·exact j6 U (qT 2 U (ad (v':=I (((i2+1):Nat):Int)) U (aL ob) (an (ag1 ((i2+1),jY,C3,C2,C4,hh2,rz2) _ (Nat.lt_succ_self _) ⟨hs12,(by dsimp only;omega),nM,hl2,ob⟩ rd))))
   refine qT 5 U ?_
   refine lp2 (cu l aW known) (fun i w=>[(2,.slice gd parties.length ga),(14,.slice rb1 ((cu l aW known).length) rc1),(15,.slice w.2.1 w.1.length w.2.2.1),(17,I (i2:Int)),(18,I (i:Int))]) (fun w=>w.2.2.2.2) (fun w=>w.2.2.2.1) (fun i w=>cM dJ.rp 270 w.2.2.2.2 w.1 w.2.1 w.2.2.1 w.2.2.2.1∧HF.le hh2 w.2.2.2.2∧nR (cu l aW known) w.1∧i2 < w.1.length∧nthI w.1 (i2:Int)=nthI jY (i2:Int)) (fun s3 i w=>(br.L3 i2 (fun zg3_15=>(br.L2 l parties aW known (br.K2) rz2 (i2+1) zg3_15))) s3 w.1) (jY,C3,C2,C4,hh2) ((sl1.mono Interest.ak (hl1.t hl2)).1.1) hs13 ⟨nM,lf,ob,ob,U⟩ ?_ ?_ ?_
   ·rintro i3 ⟨eO,na,m9,ep,hh3⟩ sK hs14 ⟨jZ,hl3,u3_0,u3_1,u3_2⟩ e
    try dsimp only at jZ hl3 u3_0 u3_1 u3_2
    exact dY (qT 2 U (ad (v':=I (((i2+1):Nat):Int)) U (aL ob) (an (ag1 ((i2+1),eO,na,m9,ep,hh3,rz2) _ (Nat.lt_succ_self _) ⟨hs14,(by dsimp only;omega),jZ,(hl2.t hl3),ob⟩ rd))))
   ·rintro i3 ⟨eO,na,m9,ep,hh3⟩ y3 rz3 hd3 sJ gU xI Ev hs15 ⟨jZ,hl3,u3_0,u3_1,u3_2⟩ hx3 ag2 e
    try dsimp only at jZ hl3 u3_0 u3_1 u3_2
    have hpl:(nthI eO (i2:Int)).gT.length≤7:=(by have q8:=nR.at u3_0 u3_1;rw [u3_2] at q8 ⊢;simp only [beq_eq_false_iff_ne] at *;omega)
    have hW3:=nR.put (x:=(dJ.mk ((nthI eO (i2:Int)).gT++[y3.No]) y3.Party)) u3_0 (BO (fq hd3)) lo
    have hN3:=Nat.lt_of_lt_of_le u3_1 (DK eO (dJ.mk ((nthI eO (i2:Int)).gT++[y3.No]) y3.Party))
    have hR3:=(BD (dJ.mk ((nthI eO (i2:Int)).gT++[y3.No]) y3.Party) u3_1).trans u3_2
    have hL3:=u3_0.len
    refine qK 6 [] U (ad (v':=.bool true) U (cb sJ) (qO 6 U ?_))
    refine ke [(2,.slice gd parties.length ga),(14,.slice rb1 ((cu l aW known).length) rc1),(15,.slice na eO.length m9),(17,I (i2:Int)),(18,I (i3:Int)),(116,.bool (y3.Of&&(y3.Person==(nthI eO (i2:Int)).To)))] (fun e=>?_) (fun hk1=>?_)
    rotate_left
    ·refine eB (ep) mixed kr jn (fun cB _=>?_)
     refine qA [0,1] U (cD 2 (enc:=Interest.cells) cB jn ei ml ty61 (sl1.mono Interest.ak ((hl1.t hl2).t hl3)).1 (nthZ gU) (au gU) U U U U kr (fun q5 A5=>qB [3] U (tf 4 U U (fun _ _ hj=>kQ 5 ty4 (A5.mono hj.1) U U) (tm 5 U ?_))))
     refine cx 104 U (fun c4=>?_) (fun c4=>?_)
     ·refine qA [6,7] U (cD 8 (enc:=Interest.cells) cB jn ei ml ty61 (sl1.mono Interest.ak ((hl1.t hl2).t hl3)).1 (nthZ gU) (au gU) U U U U kr (fun q6 A6=>qB [9] U (tf 10 U U (fun _ _ hj=>kQ 3 ty3 (A6.mono hj.1) U U) (qA [11,12] U ?_))))
      have ho5:0≤((i2:Int):Int)∧((i2:Int):Int) < ((eO).length:Int):=ob
      obtain ⟨bk5,hbk5⟩:=cM.lM jZ ob
      exact tf 13 rfl rfl (fun _ _ _=>pN (R:=dJ.rp) (xs:=eO) xe ty270 hbk5 ho5 rfl rfl rfl) (qB [14] rfl (tf 15 rfl rfl (fun _ _ hj=>DS (R:=dJ.rp) (i:=((i2:Int):Int).toNat) (off:=1) ty3 jZ hbk5 (bT ho5) (fun cs hcs=>by obtain ⟨q,e1,_⟩:=hcs;rw [e1];rfl) rfl (mj hj)) (qA [16,17] rfl (aI kr (hk1 _ ⟨rfl,rfl,rfl,rfl,rfl,(cb (show (y3.Person==(nthI eO (i2:Int)).To)=(y3.Of&&(y3.Person==(nthI eO (i2:Int)).To)) from by rw [c4] <;> rfl)),trivial⟩)))))
     exact tk 6 U U (qR 7 11 U (aI kr (hk1 _ ⟨U,U,U,U,U,(cb (show false=(y3.Of&&(y3.Person==(nthI eO (i2:Int)).To)) from by rw [c4] <;> rfl)),trivial⟩)))
    refine ac hs15 U (fun c5 hs16=>?_) (fun c5 hs17=>?_)
    ·refine eB ([]) mixed kr jn (fun pC _=>?_)
     refine qA [0,2,3] U ?_
     have ho6:0≤((i2:Int):Int)∧((i2:Int):Int) < ((eO).length:Int):=ob
     obtain ⟨bk6,hbk6⟩:=cM.lM jZ ob
     refine tf 4 U U (fun _ _ _=>pN (R:=dJ.rp) (xs:=eO) xe ty270 hbk6 ho6 U U U) (qB [5,8,9] U (cD 10 (enc:=Interest.cells) pC jn ei ml ty61 (sl1.mono Interest.ak ((hl1.t hl2).t hl3)).1 (nthZ gU) (au gU) U U U U kr (fun q7 A7=>qB [11] U (tf 12 U U (fun _ _ hj=>eF ty3 (A7.mono hj.1) U) (qA [15,16] U (cD 17 (enc:=Interest.cells) pC jn ei ml ty61 (sl1.mono Interest.ak ((hl1.t hl2).t hl3)).1 (nthZ gU) (au gU) U U U U kr (fun q8 A8=>qB [18] U (tf 19 U U (fun _ _ hj=>kQ 4 ty3 (A8.mono hj.1) U U) ?_))))))))
     refine Dt 1 6 13 kr U U U ?_ ?_ ?_ 
     ·refine ia cQ ty3 (fun b2=>⟨jn,?_⟩)
      refine jq 6 13 kr U U ?_ ?_ 
      ·obtain ⟨_,⟨r3,rfl,ok3⟩,hi3⟩:=cM.elem jZ (bT ho6)
       refine fu (zC (off:=0) ty31 hi3 hbk6 U U mh) (⟨jn,?_⟩)
       refine jq 7 13 kr U U ?_ ?_ 
       ·exact bS Rp.dF ([]) (ep) (fun G=>ep++G) ap (fun _=>ap) cQ ty3 zc3 U bytes3 (cM.lit (show aP Rp.int hh3 [] ([]) from U) U) U U (fo ok3.gT.1) lo lo (fun ob1 oc1 G2 gr2=>⟨jn,(tn 13 U (bg (cells:=[I y3.No]) cQ ty3 zc3 U U kr (fun b3=>⟨jn,(tn 14 U (bS Rp.dF ([(b3,O [I y3.No] 3)]++(ep)) ([]) (fun G=>[(b3,O [I y3.No] 3)]++(ep++G)) ap (fun _=>ap) cQ ty3 zc3 U bytes3 gr2 U U (du 0 U (show aP Rp.int hh3 [I y3.No] ([y3.No]) from ⟨[I y3.No],[],U,U,U,U⟩)) lo lo (fun ob2 oc2 G3 gr3=>⟨jn,(tn 20 U (er (cells:=[.slice ob2 (((nthI eO (i2:Int)).gT++[y3.No]).length) oc2,I y3.Party]) (places:=[(0,1),(1,1)]) xd zc270 kr kr (⟨jn,(tn 21 U (jK Rp.aK ([(b3,O [I y3.No] 3)]++(ep)) G3 ([]) ap hM gr3 (fun h2 hle2 sl2=>mJ ([(b3,O [I y3.No] 3)]) ep ([]) (fun G=>[(b3,O [I y3.No] 3)]++G) xa (jy h2 eO na m9 ep (dJ.mk ((nthI eO (i2:Int)).gT++[y3.No]) y3.Party) (lP.mk ob2 oc2) (jZ.mono dJ.ak hle2) (show dJ.ok h2 (dJ.mk ((nthI eO (i2:Int)).gT++[y3.No]) y3.Party) (lP.mk ob2 oc2) from ⟨sl2⟩) ob) ap (fun _=>ap) U (fun ob3 oc3 G4 gr4=>⟨⟨hle2,fun _ hp=>List.Sublist.subset js hp⟩,kM (K2:=[]) hle2 (fun _ hp=>hp) (qA [22] U (aI kr (qT 3 U (ad (v':=I (((i3+1):Nat):Int)) U (aL ob) (an (bU (L':=G4) js (ag2 ((rwPut eO (dJ.mk ((nthI eO (i2:Int)).gT++[y3.No]) y3.Party)),ob3,oc3,G4,h2) hs16 ⟨gr4,(hl3.t hle2),ob,ob,ob⟩)))))))⟩))))⟩)))⟩)))⟩)))⟩)
       exact bg (cells:=[I y3.No]) cQ ty3 zc3 U U kr (fun b4=>⟨jn,(tn 7 U (bS Rp.dF ([(b4,O [I y3.No] 3)]) (ep) (fun G=>[(b4,O [I y3.No] 3)]++(ep++G)) ap (fun _=>ap) cQ ty3 zc3 U bytes3 (cM.lit (show aP Rp.int hh3 [] ([]) from U) U) U U (fo ok3.gT.1) lo lo (fun ob4 oc4 G5 gr5=>⟨jn,(tn 14 U (bS Rp.dF ([(b4,O [I y3.No] 3)]++(ep)) ([]) (fun G=>[(b4,O [I y3.No] 3)]++(ep++G)) ap (fun _=>ap) cQ ty3 zc3 U bytes3 gr5 U U (du 0 U (show aP Rp.int hh3 [I y3.No] ([y3.No]) from ⟨[I y3.No],[],U,U,U,U⟩)) lo lo (fun ob5 oc5 G6 gr6=>⟨jn,(tn 20 U (er (cells:=[.slice ob5 (((nthI eO (i2:Int)).gT++[y3.No]).length) oc5,I y3.Party]) (places:=[(0,1),(1,1)]) xd zc270 kr kr (⟨jn,(tn 21 U (jK Rp.aK ([(b4,O [I y3.No] 3)]++(ep)) G6 ([]) ap hM gr6 (fun h3 hle3 sl3=>mJ ([(b4,O [I y3.No] 3)]) ep ([]) (fun G=>[(b4,O [I y3.No] 3)]++G) xa (jy h3 eO na m9 ep (dJ.mk ((nthI eO (i2:Int)).gT++[y3.No]) y3.Party) (lP.mk ob5 oc5) (jZ.mono dJ.ak hle3) (show dJ.ok h3 (dJ.mk ((nthI eO (i2:Int)).gT++[y3.No]) y3.Party) (lP.mk ob5 oc5) from ⟨sl3⟩) ob) ap (fun _=>ap) U (fun ob6 oc6 G7 gr7=>⟨⟨hle3,fun _ hp=>List.Sublist.subset js hp⟩,kM (K2:=[]) hle3 (fun _ hp=>hp) (qA [22] U (aI kr (qT 3 U (ad (v':=I (((i3+1):Nat):Int)) U (aL ob) (an (bU (L':=G7) js (ag2 ((rwPut eO (dJ.mk ((nthI eO (i2:Int)).gT++[y3.No]) y3.Party)),ob6,oc6,G7,h3) hs16 ⟨gr7,(hl3.t hle3),ob,ob,ob⟩)))))))⟩))))⟩)))⟩)))⟩)))⟩)
      refine bg (cells:=[I y3.No]) cQ ty3 zc3 U U kr (fun b5=>⟨jn,(tn 6 U ?_)⟩)
      obtain ⟨_,⟨r4,rfl,ok4⟩,hi4⟩:=cM.elem jZ (bT ho6)
      exact fu (zC (off:=0) ty31 hi4 hbk6 U U mh) (⟨jn,tn 7 U (bS Rp.dF ([(b5,O [I y3.No] 3)]) (ep) (fun G=>[(b5,O [I y3.No] 3)]++(ep++G)) ap (fun _=>ap) cQ ty3 zc3 U bytes3 (cM.lit (show aP Rp.int hh3 [] ([]) from U) U) U U (fo ok4.gT.1) lo lo (fun ob7 oc7 G8 gr8=>⟨jn,(tn 14 U (bS Rp.dF ([(b5,O [I y3.No] 3)]++(ep)) ([]) (fun G=>[(b5,O [I y3.No] 3)]++(ep++G)) ap (fun _=>ap) cQ ty3 zc3 U bytes3 gr8 U U (du 0 U (show aP Rp.int hh3 [I y3.No] ([y3.No]) from ⟨[I y3.No],[],U,U,U,U⟩)) lo lo (fun ob8 oc8 G9 gr9=>⟨jn,(tn 20 U (er (cells:=[.slice ob8 (((nthI eO (i2:Int)).gT++[y3.No]).length) oc8,I y3.Party]) (places:=[(0,1),(1,1)]) xd zc270 kr kr (⟨jn,(tn 21 U (jK Rp.aK ([(b5,O [I y3.No] 3)]++(ep)) G9 ([]) ap hM gr9 (fun h4 hle4 sl4=>mJ ([(b5,O [I y3.No] 3)]) ep ([]) (fun G=>[(b5,O [I y3.No] 3)]++G) xa (jy h4 eO na m9 ep (dJ.mk ((nthI eO (i2:Int)).gT++[y3.No]) y3.Party) (lP.mk ob8 oc8) (jZ.mono dJ.ak hle4) (show dJ.ok h4 (dJ.mk ((nthI eO (i2:Int)).gT++[y3.No]) y3.Party) (lP.mk ob8 oc8) from ⟨sl4⟩) ob) ap (fun _=>ap) U (fun ob9 oc9 G10 gr10=>⟨⟨hle4,fun _ hp=>List.Sublist.subset js hp⟩,kM (K2:=[]) hle4 (fun _ hp=>hp) (qA [22] U (aI kr (qT 3 U (ad (v':=I (((i3+1):Nat):Int)) U (aL ob) (an (bU (L':=G10) js (ag2 ((rwPut eO (dJ.mk ((nthI eO (i2:Int)).gT++[y3.No]) y3.Party)),ob9,oc9,G10,h4) hs16 ⟨gr10,(hl3.t hle4),ob,ob,ob⟩)))))))⟩))))⟩)))⟩)))⟩))⟩)
     ·obtain ⟨_,⟨r5,rfl,ok5⟩,hi5⟩:=cM.elem jZ (bT ho6)
      refine fu (zC (off:=0) ty31 hi5 hbk6 U U mh) (⟨jn,?_⟩)
      refine jq 1 13 kr U U ?_ ?_ 
      ·refine ia cQ ty3 (fun b6=>⟨jn,?_⟩)
       refine jq 7 13 kr U U ?_ ?_ 
       ·exact bS Rp.dF ([]) (ep) (fun G=>ep++G) ap (fun _=>ap) cQ ty3 zc3 U bytes3 (cM.lit (show aP Rp.int hh3 [] ([]) from U) U) U U (fo ok5.gT.1) lo lo (fun ob10 oc10 G11 gr11=>⟨jn,(tn 13 U (bg (cells:=[I y3.No]) cQ ty3 zc3 U U kr (fun b7=>⟨jn,(tn 14 U (bS Rp.dF ([(b7,O [I y3.No] 3)]++(ep)) ([]) (fun G=>[(b7,O [I y3.No] 3)]++(ep++G)) ap (fun _=>ap) cQ ty3 zc3 U bytes3 gr11 U U (du 0 U (show aP Rp.int hh3 [I y3.No] ([y3.No]) from ⟨[I y3.No],[],U,U,U,U⟩)) lo lo (fun ob11 oc11 G12 gr12=>⟨jn,(tn 20 U (er (cells:=[.slice ob11 (((nthI eO (i2:Int)).gT++[y3.No]).length) oc11,I y3.Party]) (places:=[(0,1),(1,1)]) xd zc270 kr kr (⟨jn,(tn 21 U (jK Rp.aK ([(b7,O [I y3.No] 3)]++(ep)) G12 ([]) ap hM gr12 (fun h5 hle5 sl5=>mJ ([(b7,O [I y3.No] 3)]) ep ([]) (fun G=>[(b7,O [I y3.No] 3)]++G) xa (jy h5 eO na m9 ep (dJ.mk ((nthI eO (i2:Int)).gT++[y3.No]) y3.Party) (lP.mk ob11 oc11) (jZ.mono dJ.ak hle5) (show dJ.ok h5 (dJ.mk ((nthI eO (i2:Int)).gT++[y3.No]) y3.Party) (lP.mk ob11 oc11) from ⟨sl5⟩) ob) ap (fun _=>ap) U (fun ob12 oc12 G13 gr13=>⟨⟨hle5,fun _ hp=>List.Sublist.subset js hp⟩,kM (K2:=[]) hle5 (fun _ hp=>hp) (qA [22] U (aI kr (qT 3 U (ad (v':=I (((i3+1):Nat):Int)) U (aL ob) (an (bU (L':=G13) js (ag2 ((rwPut eO (dJ.mk ((nthI eO (i2:Int)).gT++[y3.No]) y3.Party)),ob12,oc12,G13,h5) hs16 ⟨gr13,(hl3.t hle5),ob,ob,ob⟩)))))))⟩))))⟩)))⟩)))⟩)))⟩)
       exact bg (cells:=[I y3.No]) cQ ty3 zc3 U U kr (fun b8=>⟨jn,(tn 7 U (bS Rp.dF ([(b8,O [I y3.No] 3)]) (ep) (fun G=>[(b8,O [I y3.No] 3)]++(ep++G)) ap (fun _=>ap) cQ ty3 zc3 U bytes3 (cM.lit (show aP Rp.int hh3 [] ([]) from U) U) U U (fo ok5.gT.1) lo lo (fun ob13 oc13 G14 gr14=>⟨jn,(tn 14 U (bS Rp.dF ([(b8,O [I y3.No] 3)]++(ep)) ([]) (fun G=>[(b8,O [I y3.No] 3)]++(ep++G)) ap (fun _=>ap) cQ ty3 zc3 U bytes3 gr14 U U (du 0 U (show aP Rp.int hh3 [I y3.No] ([y3.No]) from ⟨[I y3.No],[],U,U,U,U⟩)) lo lo (fun ob14 oc14 G15 gr15=>⟨jn,(tn 20 U (er (cells:=[.slice ob14 (((nthI eO (i2:Int)).gT++[y3.No]).length) oc14,I y3.Party]) (places:=[(0,1),(1,1)]) xd zc270 kr kr (⟨jn,(tn 21 U (jK Rp.aK ([(b8,O [I y3.No] 3)]++(ep)) G15 ([]) ap hM gr15 (fun h6 hle6 sl6=>mJ ([(b8,O [I y3.No] 3)]) ep ([]) (fun G=>[(b8,O [I y3.No] 3)]++G) xa (jy h6 eO na m9 ep (dJ.mk ((nthI eO (i2:Int)).gT++[y3.No]) y3.Party) (lP.mk ob14 oc14) (jZ.mono dJ.ak hle6) (show dJ.ok h6 (dJ.mk ((nthI eO (i2:Int)).gT++[y3.No]) y3.Party) (lP.mk ob14 oc14) from ⟨sl6⟩) ob) ap (fun _=>ap) U (fun ob15 oc15 G16 gr16=>⟨⟨hle6,fun _ hp=>List.Sublist.subset js hp⟩,kM (K2:=[]) hle6 (fun _ hp=>hp) (qA [22] U (aI kr (qT 3 U (ad (v':=I (((i3+1):Nat):Int)) U (aL ob) (an (bU (L':=G16) js (ag2 ((rwPut eO (dJ.mk ((nthI eO (i2:Int)).gT++[y3.No]) y3.Party)),ob15,oc15,G16,h6) hs16 ⟨gr16,(hl3.t hle6),ob,ob,ob⟩)))))))⟩))))⟩)))⟩)))⟩)))⟩)
      exact bg (cells:=[I y3.No]) cQ ty3 zc3 U U kr (fun b9=>⟨jn,(tn 1 U (ia cQ ty3 (fun b10=>⟨jn,(tn 7 U (bS Rp.dF ([]) ([(b9,O [I y3.No] 3)]++(ep)) (fun G=>[(b9,O [I y3.No] 3)]++(ep++G)) ap (fun _=>ap) cQ ty3 zc3 U bytes3 (cM.lit (show aP Rp.int hh3 [] ([]) from U) U) U U (fo ok5.gT.1) lo lo (fun ob16 oc16 G17 gr17=>⟨jn,(tn 14 U (bS Rp.dF ([(b9,O [I y3.No] 3)]++(ep)) ([]) (fun G=>[(b9,O [I y3.No] 3)]++(ep++G)) ap (fun _=>ap) cQ ty3 zc3 U bytes3 gr17 U U (du 0 U (show aP Rp.int hh3 [I y3.No] ([y3.No]) from ⟨[I y3.No],[],U,U,U,U⟩)) lo lo (fun ob17 oc17 G18 gr18=>⟨jn,(tn 20 U (er (cells:=[.slice ob17 (((nthI eO (i2:Int)).gT++[y3.No]).length) oc17,I y3.Party]) (places:=[(0,1),(1,1)]) xd zc270 kr kr (⟨jn,(tn 21 U (jK Rp.aK ([(b9,O [I y3.No] 3)]++(ep)) G18 ([]) ap hM gr18 (fun h7 hle7 sl7=>mJ ([(b9,O [I y3.No] 3)]) ep ([]) (fun G=>[(b9,O [I y3.No] 3)]++G) xa (jy h7 eO na m9 ep (dJ.mk ((nthI eO (i2:Int)).gT++[y3.No]) y3.Party) (lP.mk ob17 oc17) (jZ.mono dJ.ak hle7) (show dJ.ok h7 (dJ.mk ((nthI eO (i2:Int)).gT++[y3.No]) y3.Party) (lP.mk ob17 oc17) from ⟨sl7⟩) ob) ap (fun _=>ap) U (fun ob18 oc18 G19 gr19=>⟨⟨hle7,fun _ hp=>List.Sublist.subset js hp⟩,kM (K2:=[]) hle7 (fun _ hp=>hp) (qA [22] U (aI kr (qT 3 U (ad (v':=I (((i3+1):Nat):Int)) U (aL ob) (an (bU (L':=G19) js (ag2 ((rwPut eO (dJ.mk ((nthI eO (i2:Int)).gT++[y3.No]) y3.Party)),ob18,oc18,G19,h7) hs16 ⟨gr19,(hl3.t hle7),ob,ob,ob⟩)))))))⟩))))⟩)))⟩)))⟩)))⟩)))⟩)
     refine bg (cells:=[I y3.No]) cQ ty3 zc3 U U kr (fun b11=>⟨jn,?_⟩)
     refine jq 1 6 kr U U ?_ ?_ 
     ·refine ia cQ ty3 (fun b12=>⟨jn,(tn 6 U ?_)⟩)
      obtain ⟨_,⟨r6,rfl,ok6⟩,hi6⟩:=cM.elem jZ (bT ho6)
      exact fu (zC (off:=0) ty31 hi6 hbk6 U U mh) (⟨jn,tn 7 U (bS Rp.dF ([]) ([(b11,O [I y3.No] 3)]++(ep)) (fun G=>[(b11,O [I y3.No] 3)]++(ep++G)) ap (fun _=>ap) cQ ty3 zc3 U bytes3 (cM.lit (show aP Rp.int hh3 [] ([]) from U) U) U U (fo ok6.gT.1) lo lo (fun ob19 oc19 G20 gr20=>⟨jn,(tn 14 U (bS Rp.dF ([(b11,O [I y3.No] 3)]++(ep)) ([]) (fun G=>[(b11,O [I y3.No] 3)]++(ep++G)) ap (fun _=>ap) cQ ty3 zc3 U bytes3 gr20 U U (du 0 U (show aP Rp.int hh3 [I y3.No] ([y3.No]) from ⟨[I y3.No],[],U,U,U,U⟩)) lo lo (fun ob20 oc20 G21 gr21=>⟨jn,(tn 20 U (er (cells:=[.slice ob20 (((nthI eO (i2:Int)).gT++[y3.No]).length) oc20,I y3.Party]) (places:=[(0,1),(1,1)]) xd zc270 kr kr (⟨jn,(tn 21 U (jK Rp.aK ([(b11,O [I y3.No] 3)]++(ep)) G21 ([]) ap hM gr21 (fun h8 hle8 sl8=>mJ ([(b11,O [I y3.No] 3)]) ep ([]) (fun G=>[(b11,O [I y3.No] 3)]++G) xa (jy h8 eO na m9 ep (dJ.mk ((nthI eO (i2:Int)).gT++[y3.No]) y3.Party) (lP.mk ob20 oc20) (jZ.mono dJ.ak hle8) (show dJ.ok h8 (dJ.mk ((nthI eO (i2:Int)).gT++[y3.No]) y3.Party) (lP.mk ob20 oc20) from ⟨sl8⟩) ob) ap (fun _=>ap) U (fun ob21 oc21 G22 gr22=>⟨⟨hle8,fun _ hp=>List.Sublist.subset js hp⟩,kM (K2:=[]) hle8 (fun _ hp=>hp) (qA [22] U (aI kr (qT 3 U (ad (v':=I (((i3+1):Nat):Int)) U (aL ob) (an (bU (L':=G22) js (ag2 ((rwPut eO (dJ.mk ((nthI eO (i2:Int)).gT++[y3.No]) y3.Party)),ob21,oc21,G22,h8) hs16 ⟨gr22,(hl3.t hle8),ob,ob,ob⟩)))))))⟩))))⟩)))⟩)))⟩))⟩)
     obtain ⟨_,⟨r7,rfl,ok7⟩,hi7⟩:=cM.elem jZ (bT ho6)
     exact fu (zC (off:=0) ty31 hi7 hbk6 U U mh) (⟨jn,tn 1 U (ia cQ ty3 (fun b13=>⟨jn,(tn 7 U (bS Rp.dF ([]) ([(b11,O [I y3.No] 3)]++(ep)) (fun G=>[(b11,O [I y3.No] 3)]++(ep++G)) ap (fun _=>ap) cQ ty3 zc3 U bytes3 (cM.lit (show aP Rp.int hh3 [] ([]) from U) U) U U (fo ok7.gT.1) lo lo (fun ob22 oc22 G23 gr23=>⟨jn,(tn 14 U (bS Rp.dF ([(b11,O [I y3.No] 3)]++(ep)) ([]) (fun G=>[(b11,O [I y3.No] 3)]++(ep++G)) ap (fun _=>ap) cQ ty3 zc3 U bytes3 gr23 U U (du 0 U (show aP Rp.int hh3 [I y3.No] ([y3.No]) from ⟨[I y3.No],[],U,U,U,U⟩)) lo lo (fun ob23 oc23 G24 gr24=>⟨jn,(tn 20 U (er (cells:=[.slice ob23 (((nthI eO (i2:Int)).gT++[y3.No]).length) oc23,I y3.Party]) (places:=[(0,1),(1,1)]) xd zc270 kr kr (⟨jn,(tn 21 U (jK Rp.aK ([(b11,O [I y3.No] 3)]++(ep)) G24 ([]) ap hM gr24 (fun h9 hle9 sl9=>mJ ([(b11,O [I y3.No] 3)]) ep ([]) (fun G=>[(b11,O [I y3.No] 3)]++G) xa (jy h9 eO na m9 ep (dJ.mk ((nthI eO (i2:Int)).gT++[y3.No]) y3.Party) (lP.mk ob23 oc23) (jZ.mono dJ.ak hle9) (show dJ.ok h9 (dJ.mk ((nthI eO (i2:Int)).gT++[y3.No]) y3.Party) (lP.mk ob23 oc23) from ⟨sl9⟩) ob) ap (fun _=>ap) U (fun ob24 oc24 G25 gr25=>⟨⟨hle9,fun _ hp=>List.Sublist.subset js hp⟩,kM (K2:=[]) hle9 (fun _ hp=>hp) (qA [22] U (aI kr (qT 3 U (ad (v':=I (((i3+1):Nat):Int)) U (aL ob) (an (bU (L':=G25) js (ag2 ((rwPut eO (dJ.mk ((nthI eO (i2:Int)).gT++[y3.No]) y3.Party)),ob24,oc24,G25,h9) hs16 ⟨gr25,(hl3.t hle9),ob,ob,ob⟩)))))))⟩))))⟩)))⟩)))⟩)))⟩))⟩)
    exact aE (qT 3 U (ad (v':=I (((i3+1):Nat):Int)) U (aL ob) (an (ag2 (eO,na,m9,ep,hh3) hs17 ⟨jZ,hl3,ob,ob,ob⟩))))
   rintro i3 ⟨eO,na,m9,ep,hh3⟩ hd3 zX hx e
   exact qK 6 [] U (ad (v':=.bool false) U (cb zX) (qO 3 U (hx _ rd)))
  have Bc:decide ((i2:Int) < (jY.length:Int))=false:=decide_eq_false ob
  have hs8:br l who parties aW known=(br.K2) i2 jY:=by cases rz2 with | zero=>exact hs7 | succ q=>exact hs7.trans (bf Bc)
  exact qK 6 [] U (ad (v':=.bool false) U (cb Bc) (qO 3 U (hx2 (i2,jY,C3,C2,C4,hh2) _ ⟨hs8,nM,hl2⟩ trivial)))
 ·rintro i1 ⟨qk,An,Am,wU,hh1⟩ y1 rz1 hd1 cw ao dy fB hs18 ⟨wT,hl1,u1_0⟩ hx1 ag3 e
  try dsimp only at wT hl1 u1_0
  have hL1:=u1_0.len
  have hW1:=nR.put (x:=(dJ.mk [y1.No] y1.Party)) u1_0 (BO (fq hd1)) (by simp)
  refine qK 6 [] U (ad (v':=.bool true) U (cb cw) (qO 9 U (aA (ek (enc:=Interest.cells) ei ml ty61 (sl1.mono Interest.ak hl1).1 (nthZ ao) (au ao) U U U (fun q9 A9=>qL 1 [] U (jF (j:=5) ty4 A9 U U (qO 2 U (bx 8 [45,46,47,48,49,50,51,52,53] 45 53 (y1.Person==who) U (fun c6 hk2=>?_) (fun e=>?_)))))))))
  ·exact aj (aj (aA (ek (enc:=Interest.cells) ei ml ty61 (sl1.mono Interest.ak hl1).1 (nthZ ao) (au ao) U U U (fun q10 A10=>qL 1 [] U (jF (j:=3) ty3 A10 U U (qO 3 U (hk2 _ U)))))))
  refine aM (ac hs18 U (fun c7 hs19=>?_) (fun c7 hs20=>?_))
  ·refine eB ([]) mixed kr jn (fun J4 _=>?_)
   refine qR 0 3 U (cD 3 (enc:=Interest.cells) J4 jn ei ml ty61 (sl1.mono Interest.ak hl1).1 (nthZ ao) (au ao) U U U U kr (fun q11 A11=>qB [4] U (tf 5 U U (fun _ _ hj=>eF ty3 (A11.mono hj.1) U) (qA [7,8] U (cD 9 (enc:=Interest.cells) J4 jn ei ml ty61 (sl1.mono Interest.ak hl1).1 (nthZ ao) (au ao) U U U U kr (fun q12 A12=>qB [10] U (tf 11 U U (fun _ _ hj=>kQ 4 ty3 (A12.mono hj.1) U U) (tn 6 U (bg (cells:=[I y1.No]) cQ ty3 zc3 U U kr (fun b14=>⟨jn,tn 12 U (er (cells:=[.slice (some ⟨b14,0,none⟩) 1 1,I y1.Party]) (places:=[(0,1),(1,1)]) xd zc270 kr kr (⟨jn,tn 13 U (GP 0 U hM (fun h10 hle10 hb1=>?_))⟩))⟩))))))))))
   have sl10:SlC Rp.int h10 (some ⟨b14,0,none⟩) 1 ([y1.No]):=aP.slB0 (T:=3) (fz:=(0,0)) ((show aP Rp.int hh1 [I y1.No] ([y1.No]) from ⟨[I y1.No],[],rfl,rfl,rfl,rfl⟩).mono Rp.aK hle10) hb1
   exact mJ ([]) wU ([]) (fun G=>G) xa (jy h10 qk An Am wU (dJ.mk ([y1.No]) y1.Party) (lP.mk (some ⟨b14,0,none⟩) 1) (wT.mono dJ.ak hle10) (show dJ.ok h10 (dJ.mk ([y1.No]) y1.Party) (lP.mk (some ⟨b14,0,none⟩) 1) from ⟨sl10⟩) ob) ap (fun _=>ap) U (fun ob25 oc25 G26 gr26=>⟨⟨hle10,fun _ hp=>List.Sublist.subset (List.nil_sublist _) hp⟩,kM (K2:=[]) hle10 (fun _ hp=>hp) (qA [14] U (aI kr (qT 3 U (ad (v':=I (((i1+1):Nat):Int)) U (aL ob) (an (ag3 ((rwPut qk (dJ.mk ([y1.No]) y1.Party)),ob25,oc25,G26,h10) hs19 ⟨gr26,(hl1.t hle10),ob⟩))))))⟩)
  exact aE (qT 3 U (ad (v':=I (((i1+1):Nat):Int)) U (aL ob) (an (ag3 (qk,An,Am,wU,hh1) hs20 ⟨wT,hl1,ob⟩))))
 rintro i1 ⟨qk,An,Am,wU,hh1⟩ hd1 eG hx e
 exact qK 6 [] U (ad (v':=.bool false) U (cb eG) (qO 3 U (hx _ rd)))
theorem AN (h:HF) (aT:Register) (dt:dH) (d:Document) (wo:gE) (who:List Int) (dU:Option Addr) (dT:Nat) (aW:Int) (known:Int) (gD:Register.ok h aT dt) (hd:Document.ok h d wo) (hwho:SlC Rp.int h dU dT who) (hsi:aT.Interests.length≤2000000) (hsw:who.length≤2000000):iq prog 123 [.agg (Register.cells aT dt).toArray,.agg (Document.cells d wo).toArray,.slice dU who.length dT,I aW,I known] h (fun v h'=>∃ (rb0:Option Addr) (rc0:Nat),v=.slice rb0 (fp aT d who aW known).length rc0∧SlC Rp.int h' rb0 rc0 (fp aT d who aW known)):=by
 refine sT func123 U ntmps123 U fun X hM hX hF=>?_
 have hs0:fp aT d who aW known=fp aT d who aW known:=rfl
 refine sr (cA (fun b1=>cA (fun b2=>qO 4 U (aA (ia cQ ty3 (fun b3=>qO 7 U ?_))))))
 obtain ⟨G2,gr2,ge1⟩:∃ G:LH,cM Rp.int 3 h ([]) (some ⟨b3,0,none⟩) 0 G∧[(b3,O [] 3)]=G:=⟨_,cM.lit (show aP Rp.int h [] ([]) from rfl) rfl,rfl⟩
 let z1:Nat×Obj:=(b1,O (Register.cells aT dt) 30)
 let z2:Nat×Obj:=(b2,O (Document.cells d wo) 52)
 refine cS (L':=([])++([(b3,O [] 3)]++([z2,z1]))) ap ?_
 rw [ge1]
 refine kC (List.Perm.append_left _ List.perm_append_comm) (cS (L':=[z2,z1]++G2) ap ?_)
 refine lp2 who (fun i w=>[(2,.slice dU who.length dT),(3,I aW),(4,I known),(5,Q b1),(6,Q b2),(11,.slice w.2.1 w.1.length w.2.2.1),(12,I (i:Int))]) (fun w=>w.2.2.2.2) (fun w=>[z2,z1]++(w.2.2.2.1)) (fun i w=>cM Rp.int 3 w.2.2.2.2 w.1 w.2.1 w.2.2.1 w.2.2.2.1∧w.1.length≤0+i∧HF.le h w.2.2.2.2) (fun s1 i w=>(fp.L1 aT d aW known (fp.K1)) s1 w.1) ([],(some ⟨b3,0,none⟩),0,G2,h) hwho.1.1 hs0 ⟨gr2,lo,lf⟩ ?_ ?_ ?_
 ·rintro i1 ⟨eV,j2,j1,ri,hh1⟩ et hs1 ⟨j0,oU,hl1⟩ e
  try dsimp only at j0 oU hl1
  refine qT 5 U (eI Rp.aK ([z2,z1]) ri ([]) ap hM j0 (fun h3 hle3 sl3=>?_))
  have hs2:fp aT d who aW known=eV:=hs1
  exact nretH [.slice j2 eV.length j1] ⟨j2,j1,congrArg (fun r:List Int=>(.slice j2 r.length j1:Value)) hs2.symm,(by rw [hs2];exact sl3)⟩
 ·rintro i1 ⟨eV,j2,j1,ri,hh1⟩ y1 rz1 hd1 cw ao dy fB hs3 ⟨j0,oU,hl1⟩ hx1 ag1 e
  try dsimp only at j0 oU hl1
  refine qK 6 [] U (ad (v':=.bool true) U (cb cw) (qO 6 U (eB ([z2,z1]) mixed kr jn (fun cB _=>qB [0] U (tf 1 U U (fun _ _ hj=>fI ty24 U (hj.nth (i:=1) U) U) (qA [2,3] U (cD 4 (enc:=fun y=>[I y]) cB jn ei cQ ty3 (hwho.mono Rp.aK hl1).1 (nthZ ao) (au ao) U U U U kr (fun q3 A3=>tf 5 U U (fun _ _ hj=>eF ty3 (A3.mono hj.1) U) (qB [6] U (tf 7 U U (fun _ _ hj=>fI ty31 U (hj.nth (i:=0) U) U) (qA [8,9] U (tn 10 U (cf call200 (vz _ _ _ _ y1 _ _ _ aW known (gD.Interests.mono Interest.ak hl1) (hd.Parties.mono Rp.aK hl1) hsi) U (fun v2 h4 hle4 hp2=>?_))))))))))))))
  obtain ⟨rb2,rc2,rfl,sl4⟩:=hp2
  refine ⟨⟨hle4,fun _ hp=>List.Sublist.subset js hp⟩,kM (K2:=[z2,z1]) hle4 (fun _ hp=>hp) (qR 11 7 U (aI kr (qT 5 U (ac hs3 U (fun c2 hs4=>?_) (fun c2 hs5=>?_)))))⟩
  ·exact bn (qO 3 U (aA (ek (enc:=fun y=>[I y]) ei cQ ty3 (hwho.mono Rp.aK (hl1.t hle4)).1 (nthZ ao) (au ao) U U U (fun q4 A4=>cK ty3 A4 U (aA (bg (cells:=[I y1]) cQ ty3 zc3 U U kr (fun b5=>aA (bS Rp.dF ([(b5,O [I y1] 3),z2,z1]) ([]) (fun G=>[(b5,O [I y1] 3),z2,z1]++G) ap (fun _=>ap) cQ ty3 zc3 U bytes3 (j0.mono Rp.aK hle4) U U (du 0 U (show aP Rp.int h4 [I y1] ([y1]) from ⟨[I y1],[],U,U,U,U⟩)) lo lo (fun ob2 oc2 G3 gr3=>qO 5 U (ad (v':=I (((i1+1):Nat):Int)) U (aL ob) (an (bU (L':=[z2,z1]++G3) js (ag1 ((eV++[y1]),ob2,oc2,G3,h4) hs4 ⟨gr3,lo,(hl1.t hle4)⟩)))))))))))))
  exact aE (qT 3 U (ad (v':=I (((i1+1):Nat):Int)) U (aL ob) (an (ag1 (eV,j2,j1,ri,h4) hs5 ⟨(j0.mono Rp.aK hle4),lo,(hl1.t hle4)⟩))))
 rintro i1 ⟨eV,j2,j1,ri,hh1⟩ hd1 eG hx e
 exact qK 6 [] U (ad (v':=.bool false) U (cb eG) (qO 3 U (hx _ rd)))
theorem zi (h:HF) (aT:Register) (dt:dH) (p:Policy) (gp:dS) (d:Document) (wo:gE) (who:List Int) (dU:Option Addr) (dT:Nat) (mF:Int) (known:Int) (gD:Register.ok h aT dt) (hp:Policy.ok h p gp) (hd:Document.ok h d wo) (hwho:SlC Rp.int h dU dT who) (hsm:smR aT) (hsp:smP p) (hsw:who.length≤2000000) (hkr:p.Rules.length=p.Kinds.length) (htr:∀ y∈p.Rules,0≤y.Think∧y.Think≤1099511627775) (hod:(0≤d.At∧d.At≤1099511627776)∧0≤d.Kind):Ret prog 76 [.agg (Register.cells aT dt).toArray,.agg (Policy.cells p gp).toArray,.agg (Document.cells d wo).toArray,.slice dU who.length dT,I mF,I known] h (.bool (eS aT p d who mF known)):=by
 refine sT func76 U ntmps76 U fun X hM hX hF=>?_
 have hs0:eS aT p d who mF known=eS aT p d who mF known:=rfl
 have hofl:=hsp.2.2.2.1
 refine sr (cA (fun b1=>cA (fun b2=>cA (fun b3=>qO 4 U ?_))))
 refine ke [(3,.slice dU who.length dT),(4,I mF),(5,I known),(6,Q b1),(7,Q b2),(8,Q b3),(38,.bool (decide ((p.Kinds.length:Int)≤d.Kind)||decide (mF < (d.At+(nthI p.Rules d.Kind).Think))))] (fun e=>?_) (fun hk1=>?_)
 rotate_left
 ·refine eB ([(b3,O (Document.cells d wo) 52),(b2,O (Policy.cells p gp) 68),(b1,O (Register.cells aT dt) 30)]) mixed kr jn (fun cB _=>?_)
  refine qB [0] U (tf 1 U U (fun _ _ hj=>fI ty3 U (hj.nth (i:=0) U) U) (qB [2] U (tf 3 U U (fun _ _ hj=>fI ty62 U (hj.nth (i:=1) U) U) (tf 4 U U (fun _ _ _=>DR pS U) (qA [5,6] U ?_)))))
  refine cx 25 U (fun c1=>?_) (fun c1=>?_)
  ·have c1p:=of_decide_eq_true c1
   exact tk 7 U U (qR 8 12 U (aI kr (hk1 _ ⟨U,U,U,U,U,U,(cb (show true=(decide ((p.Kinds.length:Int)≤d.Kind)||decide (mF < (d.At+(nthI p.Rules d.Kind).Think))) from by rw [c1] <;> rfl)),trivial⟩)))
  have c1p:=of_decide_eq_false c1
  refine qB [7,8] U (tf 9 U U (fun _ _ hj=>fI ty3 U (hj.nth (i:=0) U) U) (qB [10] U (tf 11 U U (fun _ _ hj=>fI ty63 U (hj.nth (i:=1) U) U) (qB [12] U (tf 13 U U (fun _ _ hj=>fI ty3 U (hj.nth (i:=0) U) U) ?_)))))
  have ho1:0≤(d.Kind:Int)∧(d.Kind:Int) < ((p.Rules).length:Int):=ob
  refine gC 14 cB jn pc ty107 hp.Rules.1 ho1 (bT ho1) U U U U kr (fun q1 cs1 A1 ln1 rr1=>?_)
  obtain ⟨r1,rfl,ok1⟩:=rr1
  exact tf 15 U U (fun _ _ _=>nt EK U) (tf 16 U U (fun _ _ hj=>kQ 2 ty3 (A1.mono hj.1) U U) (tf 17 U U (fun _ _ _=>mq (v':=I (d.At+(nthI p.Rules d.Kind).Think)) U (gG (by first | omega | (have hth:=htr _ (fw ob);omega)))) (qA [18,19] U (aI kr (hk1 _ ⟨U,U,U,U,U,U,(cb (show decide (mF < (d.At+(nthI p.Rules d.Kind).Think))=(decide ((p.Kinds.length:Int)≤d.Kind)||decide (mF < (d.At+(nthI p.Rules d.Kind).Think))) from by rw [c1] <;> rfl)),trivial⟩)))))
 refine ac hs0 U (fun c2 hs1=>?_) (fun c2 hs2=>?_)
 ·exact sr (an (nretP [.bool false] (cs hs1)))
 refine qT 3 U (aA (ia ua ty101 (fun b4=>qO 7 U ?_)))
 obtain ⟨G2,gr2,ge1⟩:∃ G:LH,cM (Rp.sl Holder.rp) 101 h ([]) (some ⟨b4,0,none⟩) 0 G∧[(b4,O [] 101)]=G:=⟨_,cM.lit (show aP (Rp.sl Holder.rp) h [] ([]) from rfl) rfl,rfl⟩
 let z1:Nat×Obj:=(b1,O (Register.cells aT dt) 30)
 let z2:Nat×Obj:=(b3,O (Document.cells d wo) 52)
 let z3:Nat×Obj:=(b2,O (Policy.cells p gp) 68)
 refine cS (L':=([])++([(b4,O [] 101)]++([z2,z3,z1]))) ap ?_
 rw [ge1]
 refine kC (List.Perm.append_left _ List.perm_append_comm) (cS (L':=[z2,z3,z1]++G2) ap ?_)
 refine lp2 p.Offices (fun i w=>[(3,.slice dU who.length dT),(4,I mF),(5,I known),(6,Q b1),(7,Q b2),(8,Q b3),(13,.slice w.2.1 w.1.length w.2.2.1),(14,I (i:Int))]) (fun w=>w.2.2.2.2) (fun w=>[z2,z3,z1]++(w.2.2.2.1)) (fun i w=>cM (Rp.sl Holder.rp) 101 w.2.2.2.2 w.1 w.2.1 w.2.2.1 w.2.2.2.1∧w.1.length≤0+i∧HF.le h w.2.2.2.2∧(∀ y∈w.1,y.length≤2000000)) (fun s1 i w=>(eS.L1 aT mF known (eS.K1 aT p d who mF known)) s1 i w.1) ([],(some ⟨b4,0,none⟩),0,G2,h) hp.Offices.1.1 hs2 ⟨gr2,lo,lf,(fun y hy=>(List.not_mem_nil hy).elim)⟩ ?_ ?_ ?_
 ·rintro i1 ⟨un,IV,IU,Ft,hh1⟩ et hs4 ⟨Ap,Fs,hl1,u1_0⟩ e
  try dsimp only at Ap Fs hl1 u1_0
  refine dz (eB ([z2,z3,z1]) mixed kr jn (fun pC _=>tf 0 U U (fun _ _ hj=>jj ty68 U (hj.nth (i:=1) U) U) (qB [1] U (tf 2 U U (fun _ _ hj=>fI ty3 U (hj.nth (i:=0) U) U) (qB [3] U (tf 4 U U (fun _ _ hj=>fI ty3 U (hj.nth (i:=0) U) U) (tm 5 U (tf 6 U U (fun _ _ hj=>jj ty30 U (hj.nth (i:=2) U) U) (tf 7 U U (fun _ _ hj=>jj ty52 U (hj.nth (i:=0) U) U) (qR 8 3 U (tn 11 U (cf call123 (AN _ _ _ _ _ _ _ _ mF known (gD.mono hl1) (hd.mono hl1) (hwho.mono Rp.aK hl1) hsm.2.2.2.1 hsw) U (fun v3 h4 hle4 hp3=>?_)))))))))))))
  obtain ⟨rb3,rc3,rfl,sl4⟩:=hp3
  exact ⟨jl hle4,tu hle4 (tn 12 U (jK (Rp.j8 Holder.ak) ([z2,z3,z1]) Ft ([]) ap hM (Ap.mono (Rp.j8 Holder.ak) hle4) (fun h5 hle5 sl5=>eK call122 (wA _ _ _ d.Kind d.Value _ _ _ _ _ _ (hp.mono ((hl1.t hle4).t hle5)) sl5 (sl4.mono Rp.aK hle5) hsp u1_0 (Nat.le_trans (Fv _ _ _ _ _) hsw)) U (⟨⟨hle5,fun _ hp=>List.Sublist.subset (List.Sublist.refl _) hp⟩,kM (K2:=[z2,z3,z1]) hle5 (fun _ hp=>hp) (qR 13 5 U (aI kr (qT 5 U (nretP [.bool ((fJ p d.Kind d.Value un (fp aT d who mF known)).1)] (cs hs4)))))⟩))))⟩
 ·rintro i1 ⟨un,IV,IU,Ft,hh1⟩ y1 rz1 hd1 cw ao dy fB hs6 ⟨Ap,Fs,hl1,u1_0⟩ hx1 ag1 e
  try dsimp only at Ap Fs hl1 u1_0
  refine qK 7 [1] U (ad (v':=.bool true) U (cb cw) (qL 12 [2] U (aA (cf call78 (m5 _ _ _ _ (i1:Int) mF known (gD.Appoints.mono Appoint.ak hl1)) U (fun v4 h6 hle6 hp4=>?_)))))
  obtain ⟨rb4,rc4,rfl,sl6⟩:=hp4
  refine qO 9 U (aA (bg (cells:=[.slice rb4 (((bu aT.Appoints (i1:Int) mF known).1).length) rc4]) ua ty101 zc101 U U kr (fun b6=>?_)))
  let z4:Nat×Obj:=(b6,O [.slice rb4 (((bu aT.Appoints (i1:Int) mF known).1).length) rc4] 101)
  exact aA (bS (Rp.Cw Holder.ak) ([z4,z2,z3,z1]) ([]) (fun G=>[z4,z2,z3,z1]++G) ap (fun _=>ap) ua ty101 zc101 U bytes101 (Ap.mono (Rp.j8 Holder.ak) hle6) U U (du 0 U (show aP (Rp.sl Holder.rp) h6 [.slice rb4 (((bu aT.Appoints (i1:Int) mF known).1).length) rc4] ([(bu aT.Appoints (i1:Int) mF known).1]) from ⟨[.slice rb4 (((bu aT.Appoints (i1:Int) mF known).1).length) rc4],[],U,U,⟨rb4,rc4,U,sl6⟩,U⟩)) lo lo (fun ob2 oc2 G3 gr3=>qO 5 U (ad (v':=I (((i1+1):Nat):Int)) U (aL (by first | omega | (have hth:=htr _ (fw ob);omega))) (an (bU (L':=[z2,z3,z1]++G3) js (ag1 ((un++[(bu aT.Appoints (i1:Int) mF known).1]),ob2,oc2,G3,h6) hs6 ⟨gr3,lo,(hl1.t hle6),(fun y hy=>(List.mem_append.1 hy).elim (u1_0 y) (fun hy=>by rw [List.mem_singleton.1 hy];exact Nat.le_trans (qM _ _ _ _) (by decide)))⟩))))))
 rintro i1 ⟨un,IV,IU,Ft,hh1⟩ hd1 eG hx e
 exact qK 7 [1] U (ad (v':=.bool false) U (cb eG) (qO 3 U (hx _ rd)))
theorem zp (h:HF) (mode:Int) (permits:List Bool) (gy:Option Addr) (gx:Nat) (hpermits:SlC Rp.bool h gy gx permits):Ret prog 124 [I mode,.slice gy permits.length gx] h (I (jS mode permits)):=by
 refine sT func124 U ntmps124 U fun X hM hX hF=>?_
 have hs0:jS mode permits=jS mode permits:=rfl
 refine qT 10 U (ce 3 [7,8,9,10] 7 10 (decide (4 < mode)) U (fun c1 hk1=>?_) (fun e=>?_))
 ·exact aj (qO 2 U (hk1 _ U))
 refine aM (ac hs0 U (fun c2 hs1=>?_) (fun c2 hs2=>?_))
 ·exact sr (an (nretP [I 270] (ci hs1)))
 refine qK 8 [] U (ac hs2 U (fun c3 hs4=>?_) (fun c3 hs5=>?_))
 ·have c3p:=of_decide_eq_true c3
  exact sr (an (nretP [I 1] (ci hs4)))
 have c3p:=of_decide_eq_false c3
 exact aE (qT 4 U (nretP [I 0] (ci hs5)))
theorem sd (h:HF) (permits:List Bool) (gy:Option Addr) (gx:Nat) (so:Bool) (hpermits:SlC Rp.bool h gy gx permits):Ret prog 201 [.slice gy permits.length gx,.bool so] h (I (eu permits so)):=by
 refine sT func201 U ntmps201 U fun X hM hX hF=>?_
 have hs0:eu permits so=eu permits so:=rfl
 refine qT 9 U ?_
 refine lp0 permits (fun i=>[(0,.slice gy permits.length gx),(1,.bool so),(5,I (i:Int))]) ([]) (fun s1 i=>(eu.L1 so (eu.K1)) s1 i) hpermits.1.1 hs0 ?_ ?_ ?_
 ·rintro i1 et hs1 e
  exact sr (an (nretP [I (-1)] (ci hs1)))
 ·rintro i1 y1 rz1 hd1 cw ao dy fB hs3 hx1 ag1 e
  refine qK 6 [] U (ad (v':=.bool true) U (cb cw) (qO 9 U (aA (ek (enc:=fun y=>[.bool y]) ei tZ ty4 hpermits.1 (nthZ ao) (au ao) U U U (fun q2 A2=>cK ty4 A2 U (aj (aA (fu (Ig JV U U) (aM (ac hs3 U (fun c2 hs4=>?_) (fun c2 hs5=>?_)))))))))))
  ·exact sr (qO 3 U (nretP [I (i1:Int)] (ci hs4)))
  exact aE (qT 3 U (ad (v':=I (((i1+1):Nat):Int)) U (aL ob) (an (ag1 hs5))))
 rintro i1 hd1 eG hx e
 exact qK 6 [] U (ad (v':=.bool false) U (cb eG) (qO 3 U (hx _ rd)))
theorem vA (h:HF) (mode:Int) (permits:List Bool) (gy:Option Addr) (gx:Nat) (hpermits:SlC Rp.bool h gy gx permits):Ret prog 125 [I mode,.slice gy permits.length gx] h (.bool (jD mode permits)):=by
 refine sT func125 U ntmps125 U fun X hM hX hF=>?_
 have hs0:jD mode permits=jD mode permits:=rfl
 refine qT 15 U (ac hs0 U (fun c1 hs1=>?_) (fun c1 hs2=>?_))
 ·refine qK 6 [] U (bx 4 [11,12,13,14,15] 11 15 (decide ((eu permits false) < 0)) U (fun c2 hk1=>?_) (fun e=>?_))
  ·exact aj (ah call201 (sd _ _ _ _ false hpermits) U (qO 2 U (hk1 _ U)))
  exact an (nretP [.bool (decide (0 < (permits.length:Int))&&decide ((eu permits false) < 0))] (cs hs1))
 refine qT 5 U (ac hs2 U (fun c3 hs4=>?_) (fun c3 hs5=>?_))
 ·exact sr (aj (ah call201 (sd _ _ _ _ true hpermits) U (qO 3 U (nretP [.bool (decide (0≤(eu permits true)))] (cs hs4)))))
 refine qK 8 [] U (bx 4 [24,25,26,27,28] 24 28 (nthI permits 0) U (fun c4 hk2=>?_) (fun e=>?_))
 ·refine aj ?_
  have ho1:0≤(0:Int)∧(0:Int) < ((permits).length:Int):=(by have hq:=eq_of_beq (by assumption:(((permits).length:Int)==1)=true);omega)
  exact aA (ek (enc:=fun y=>[.bool y]) ei tZ ty4 hpermits.1 ho1 (bT ho1) U U U (fun q1 A1=>cK ty4 A1 U (dZ U (hk2 _ U))))
 exact an (nretP [.bool (((permits.length:Int)==1)&&(nthI permits 0))] (cs hs5))
theorem yg (h:HF) (mode:Int) (permits:List Bool) (gy:Option Addr) (gx:Nat) (hpermits:SlC Rp.bool h gy gx permits):Ret prog 77 [I mode,.slice gy permits.length gx] h (.tuple #[.bool ((iy mode permits).1),I ((iy mode permits).2)]):=by
 refine sT func77 U ntmps77 U fun X hM hX hF=>?_
 have hs0:iy mode permits=iy mode permits:=rfl
 refine qT 9 U (ah call124 (zp _ mode _ _ _ hpermits) U (qO 8 U (ac hs0 U (fun c1 hs1=>?_) (fun c1 hs2=>?_))))
 ·refine qT 6 U ?_
  have hs3:iy mode permits=(false,(jS mode permits)):=hs1
  exact nretP [.bool false,I (jS mode permits)] (congrArg (fun r:(Bool×Int)=>(.tuple #[.bool r.1,I r.2]:Value)) hs3.symm)
 refine qT 5 U (ah call125 (vA _ mode _ _ _ hpermits) U (qO 3 U ?_))
 have hs4:iy mode permits=((jD mode permits),0):=hs2
 exact nretP [.bool (jD mode permits),I 0] (congrArg (fun r:(Bool×Int)=>(.tuple #[.bool r.1,I r.2]:Value)) hs4.symm)
theorem zj (h:HF) (aT:Register) (dt:dH) (d:Document) (wo:gE) (who:List Int) (dU:Option Addr) (dT:Nat) (aW:Int) (known:Int) (gD:Register.ok h aT dt) (hd:Document.ok h d wo) (hwho:SlC Rp.int h dU dT who) (hsm:smR aT) (hgv:o9 aT.Versions) (hsw:who.length≤2000000) (hod:(0≤d.At∧d.At≤1099511627776)∧0≤d.Kind):Ret prog 35 [.agg (Register.cells aT dt).toArray,.agg (Document.cells d wo).toArray,.slice dU who.length dT,I aW,I known] h (.bool (gm aT d who aW known)):=by
 refine sT func35 U ntmps35 U fun X hM hX hF=>?_
 have hs0:gm aT d who aW known=gm aT d who aW known:=rfl
 have hJl:=xw aT.Versions d.At aW known
 have hvl:=hgv.len
 refine sr (cA (fun b1=>cA (fun b2=>qL 10 [0] U (ce 5 [22,23,24,25,26,27] 22 27 (decide (d.Until≤aW)) U (fun c1 hk1=>?_) (fun e=>?_)))))
 ·exact qL 5 [0] U (hk1 _ U)
 refine aM (ac hs0 U (fun c2 hs1=>?_) (fun c2 hs2=>?_))
 ·exact sr (an (nretP [.bool false] (cs hs1)))
 refine qK 9 [1,0] U (aA (cf call75 (rq _ _ _ _ d.At aW known gD.Versions hsm.vers) U (fun v1 h1 hle1 hp1=>?_)))
 obtain ⟨rb1,rc1,rfl,sl1⟩:=hp1
 refine qO 10 U (aA (ia tZ ty4 (fun b3=>qO 7 U ?_)))
 obtain ⟨G2,gr2,ge1⟩:∃ G:LH,cM Rp.bool 4 h1 ([]) (some ⟨b3,0,none⟩) 0 G∧[(b3,O [] 4)]=G:=⟨_,cM.lit (show aP Rp.bool h1 [] ([]) from rfl) rfl,rfl⟩
 let z1:Nat×Obj:=(b1,O (Register.cells aT dt) 30)
 let z2:Nat×Obj:=(b2,O (Document.cells d wo) 52)
 refine cS (L':=([])++([(b3,O [] 4)]++([z2,z1]))) ap ?_
 rw [ge1]
 refine kC (List.Perm.append_left _ List.perm_append_comm) (cS (L':=[z2,z1]++G2) ap ?_)
 refine lp2 ((cN aT.Versions d.At aW known).1) (fun i w=>[(2,.slice dU who.length dT),(3,I aW),(4,I known),(5,Q b1),(6,Q b2),(11,.slice rb1 (((cN aT.Versions d.At aW known).1).length) rc1),(12,I ((cN aT.Versions d.At aW known).2.1)),(14,.slice w.2.1 w.1.length w.2.2.1),(15,I (i:Int))]) (fun w=>w.2.2.2.2) (fun w=>[z2,z1]++(w.2.2.2.1)) (fun i w=>cM Rp.bool 4 w.2.2.2.2 w.1 w.2.1 w.2.2.1 w.2.2.2.1∧w.1.length≤0+i∧HF.le h1 w.2.2.2.2) (fun s1 i w=>(gm.L1 aT d who aW known (gm.K1 aT d aW known)) s1 w.1) ([],(some ⟨b3,0,none⟩),0,G2,h1) sl1.1.1 hs2 ⟨gr2,lo,lf⟩ ?_ ?_ ?_
 ·rintro i1 ⟨um,IT,IS,Fq,hh1⟩ et hs4 ⟨Ao,Fp,hl1⟩ e
  try dsimp only at Ao Fp hl1
  exact sr (qO 2 U (oo Rp.ql ([z2,z1]) Fq ([]) ap hM Ao (fun h4 hle4 sl3=>ah call77 (yg _ ((cN aT.Versions d.At aW known).2.1) _ _ _ sl3) U (qO 11 U (nretP [.bool ((iy ((cN aT.Versions d.At aW known).2.1) um).1)] (cs hs4))))))
 ·rintro i1 ⟨um,IT,IS,Fq,hh1⟩ y1 rz1 hd1 cw ao dy fB hs6 ⟨Ao,Fp,hl1⟩ hx1 ag1 e
  try dsimp only at Ao Fp hl1
  refine qK 6 [] U (ad (v':=.bool true) U (cb cw) (qO 5 U (eB ([z2,z1]) mixed kr jn (fun cB _=>tm 0 U (tf 1 U U (fun _ _ hj=>jj ty30 U (hj.nth (i:=1) U) U) (tf 2 U U (fun _ _ hj=>jj ty30 U (hj.nth (i:=1) U) U) (qA [3,4] U (cD 5 (enc:=fun y=>[I y]) cB jn ei cQ ty3 (sl1.mono Rp.aK hl1).1 (nthZ ao) (au ao) U U U U kr (fun q2 A2=>tf 6 U U (fun _ _ hj=>eF ty3 (A2.mono hj.1) U) (tf 9 U U (fun _ _ hj=>jj ty52 U (hj.nth (i:=0) U) U) (qR 10 3 U (tn 7 U (cf call46 (m4 _ _ _ y1 (gD.mono (hle1.t hl1))) U (fun v3 h5 hle5 hp3=>?_))))))))))))))
  obtain ⟨rr2,rfl,ok2⟩:=hp3
  refine ⟨⟨hle5,fun _ hp=>List.Sublist.subset js hp⟩,kM (K2:=[z2,z1]) hle5 (fun _ hp=>hp) (tf 8 U U (fun _ _ _=>zD C5 ty68 U U) (tn 13 U (eK call76 (zi _ _ _ _ _ _ _ _ _ _ aW known (gD.mono ((hle1.t hl1).t hle5)) ok2.Policy (hd.mono ((hle1.t hl1).t hle5)) (hwho.mono Rp.aK ((hle1.t hl1).t hle5)) hsm (AM hsm _) hsw (Ei hgv _) (Fb hgv.okV _) hod) U (⟨jn,tn 14 U (bg (cells:=[.bool (eS aT ((aV aT y1).Policy) d who aW known)]) tZ ty4 zc4 U U kr (fun b5=>⟨jn,?_⟩))⟩))))⟩
  let z3:Nat×Obj:=(b5,O [.bool (eS aT ((aV aT y1).Policy) d who aW known)] 4)
  exact tn 15 U (bS Rp.w4 ([z3,z2,z1]) ([]) (fun G=>[z3,z2,z1]++G) ap (fun _=>ap) tZ ty4 zc4 U bytes4 (Ao.mono Rp.ql hle5) U U (du 0 U (show aP Rp.bool h5 [.bool (eS aT ((aV aT y1).Policy) d who aW known)] ([(eS aT ((aV aT y1).Policy) d who aW known)]) from ⟨[.bool (eS aT ((aV aT y1).Policy) d who aW known)],[],U,U,U,U⟩)) lo lo (fun ob2 oc2 G3 gr3=>⟨jn,qA [16] U (aI kr (qT 3 U (ad (v':=I (((i1+1):Nat):Int)) U (aL ob) (an (bU (L':=[z2,z1]++G3) js (ag1 ((um++[(eS aT ((aV aT y1).Policy) d who aW known)]),ob2,oc2,G3,h5) hs6 ⟨gr3,lo,(hl1.t hle5)⟩))))))⟩))
 rintro i1 ⟨um,IT,IS,Fq,hh1⟩ hd1 eG hx e
 exact qK 6 [] U (ad (v':=.bool false) U (cb eG) (qO 3 U (hx _ rd)))
theorem nK (h:HF) (l:List Int) (ey:Option Addr) (ew:Nat) (gM:Int) (hl:SlC Rp.int h ey ew l) (hsz0:l.length≤2000000):iq prog 43 [.slice ey l.length ew,I gM] h (fun v h'=>∃ (rb0:Option Addr) (rc0:Nat),v=.slice rb0 (cd l gM).length rc0∧SlC Rp.int h' rb0 rc0 (cd l gM)):=by
 refine sT func43 U ntmps43 U fun X hM hX hF=>?_
 have hs0:cd l gM=cd l gM:=rfl
 refine qT 9 U ?_
 refine lp0 l (fun i=>[(0,.slice ey l.length ew),(1,I gM),(5,I (i:Int))]) ([]) (fun s1 i=>(cd.L1 gM (cd.K1 l gM)) s1 i) hl.1.1 hs0 ?_ ?_ ?_
 ·rintro i1 et hs1 e
  refine qK 8 [] U (bx 7 [24,25,26,27,28,29,30,31] 24 31 ((nthI l (i1:Int))==gM) U (fun c2 hk1=>?_) (fun e=>?_))
  ·refine qO 2 U ?_
   have ho2:0≤((i1:Int):Int)∧((i1:Int):Int) < ((l).length:Int):=ob
   exact aA (ek (enc:=fun y=>[I y]) ei cQ ty3 hl.1 ho2 (bT ho2) U U U (fun q3 A3=>cK ty3 A3 U (qO 3 U (hk1 _ U))))
  refine aM (ac hs1 U (fun c3 hs2=>?_) (fun c3 hs3=>?_))
  ·refine qT 5 U ?_
   have hs4:cd l gM=l:=hs2
   exact nretH [.slice ey l.length ew] ⟨ey,ew,congrArg (fun r:List Int=>(.slice ey r.length ew:Value)) hs4.symm,(by rw [hs4];exact hl)⟩
  refine qT 2 U (eB ([]) mixed kr jn (fun cB _=>qA [1,2] U (Bw 3 cB jn cQ ty3 hl.1 hl.2 ob U U U U kr (fun sb1 sc1 sl1=>qA [5,8,9] U (Bx 10 cB jn cQ ty3 hl.1 hl.2 ob U U U U kr (fun sb2 sc2 sl2=>?_))))))
  refine jq 0 6 kr U U ?_ ?_ 
  ·refine ia cQ ty3 (fun b1=>⟨jn,?_⟩)
   refine jq 4 6 kr U U ?_ ?_ 
   ·refine bS Rp.dF ([]) ([]) (fun G=>G) ap (fun _=>ap) cQ ty3 zc3 U bytes3 (cM.lit (show aP Rp.int h [] ([]) from U) U) U U (fo sl1.1) lo lo (fun ob1 oc1 G1 gr1=>⟨jn,(tn 6 U (bg (cells:=[I gM]) cQ ty3 zc3 U U kr (fun b2=>⟨jn,tn 7 U (bS Rp.dF ([(b2,O [I gM] 3)]) ([]) (fun G=>[(b2,O [I gM] 3)]++G) ap (fun _=>ap) cQ ty3 zc3 U bytes3 gr1 U U (du 0 U (show aP Rp.int h [I gM] ([gM]) from ⟨[I gM],[],U,U,U,U⟩)) lo lo (fun ob2 oc2 G2 gr2=>⟨jn,(tn 11 U (bS Rp.dF ([(b2,O [I gM] 3)]) ([]) (fun G=>[(b2,O [I gM] 3)]++G) ap (fun _=>ap) cQ ty3 zc3 U bytes3 gr2 U U (fo sl2.1) lo lo (fun ob3 oc3 G3 gr3=>⟨jn,(qA [12] U (aI kr (eI Rp.aK ([(b2,O [I gM] 3)]) G3 ([]) ap hM gr3 (fun h1 hle1 sl3=>?_))))⟩)))⟩))⟩)))⟩)
    have hs5:cd l gM=(((l.take (((i1:Int):Int)).toNat)++[gM])++(l.drop (((i1:Int):Int)).toNat)):=hs3
    exact nretH [.slice ob3 ((((l.take (((i1:Int):Int)).toNat)++[gM])++(l.drop (((i1:Int):Int)).toNat)).length) oc3] ⟨ob3,oc3,congrArg (fun r:List Int=>(.slice ob3 r.length oc3:Value)) hs5.symm,(by rw [hs5];exact sl3)⟩
   refine bg (cells:=[I gM]) cQ ty3 zc3 U U kr (fun b3=>⟨jn,(tn 4 U (bS Rp.dF ([(b3,O [I gM] 3)]) ([]) (fun G=>[(b3,O [I gM] 3)]++G) ap (fun _=>ap) cQ ty3 zc3 U bytes3 (cM.lit (show aP Rp.int h [] ([]) from U) U) U U (fo sl1.1) lo lo (fun ob4 oc4 G4 gr4=>⟨jn,(tn 7 U (bS Rp.dF ([(b3,O [I gM] 3)]) ([]) (fun G=>[(b3,O [I gM] 3)]++G) ap (fun _=>ap) cQ ty3 zc3 U bytes3 gr4 U U (du 0 U (show aP Rp.int h [I gM] ([gM]) from ⟨[I gM],[],U,U,U,U⟩)) lo lo (fun ob5 oc5 G5 gr5=>⟨jn,(tn 11 U (bS Rp.dF ([(b3,O [I gM] 3)]) ([]) (fun G=>[(b3,O [I gM] 3)]++G) ap (fun _=>ap) cQ ty3 zc3 U bytes3 gr5 U U (fo sl2.1) lo lo (fun ob6 oc6 G6 gr6=>⟨jn,(qA [12] U (aI kr (eI Rp.aK ([(b3,O [I gM] 3)]) G6 ([]) ap hM gr6 (fun h2 hle2 sl4=>?_))))⟩)))⟩)))⟩)))⟩)
   have hs6:cd l gM=(((l.take (((i1:Int):Int)).toNat)++[gM])++(l.drop (((i1:Int):Int)).toNat)):=hs3
   exact nretH [.slice ob6 ((((l.take (((i1:Int):Int)).toNat)++[gM])++(l.drop (((i1:Int):Int)).toNat)).length) oc6] ⟨ob6,oc6,congrArg (fun r:List Int=>(.slice ob6 r.length oc6:Value)) hs6.symm,(by rw [hs6];exact sl4)⟩
  refine bg (cells:=[I gM]) cQ ty3 zc3 U U kr (fun b4=>⟨jn,(tn 0 U (ia cQ ty3 (fun b5=>⟨jn,(tn 4 U (bS Rp.dF ([]) ([(b4,O [I gM] 3)]) (fun G=>[(b4,O [I gM] 3)]++G) ap (fun _=>ap) cQ ty3 zc3 U bytes3 (cM.lit (show aP Rp.int h [] ([]) from U) U) U U (fo sl1.1) lo lo (fun ob7 oc7 G7 gr7=>⟨jn,(tn 7 U (bS Rp.dF ([(b4,O [I gM] 3)]) ([]) (fun G=>[(b4,O [I gM] 3)]++G) ap (fun _=>ap) cQ ty3 zc3 U bytes3 gr7 U U (du 0 U (show aP Rp.int h [I gM] ([gM]) from ⟨[I gM],[],U,U,U,U⟩)) lo lo (fun ob8 oc8 G8 gr8=>⟨jn,(tn 11 U (bS Rp.dF ([(b4,O [I gM] 3)]) ([]) (fun G=>[(b4,O [I gM] 3)]++G) ap (fun _=>ap) cQ ty3 zc3 U bytes3 gr8 U U (fo sl2.1) lo lo (fun ob9 oc9 G9 gr9=>⟨jn,(qA [12] U (aI kr (eI Rp.aK ([(b4,O [I gM] 3)]) G9 ([]) ap hM gr9 (fun h3 hle3 sl5=>?_))))⟩)))⟩)))⟩)))⟩)))⟩)
  have hs7:cd l gM=(((l.take (((i1:Int):Int)).toNat)++[gM])++(l.drop (((i1:Int):Int)).toNat)):=hs3
  exact nretH [.slice ob9 ((((l.take (((i1:Int):Int)).toNat)++[gM])++(l.drop (((i1:Int):Int)).toNat)).length) oc9] ⟨ob9,oc9,congrArg (fun r:List Int=>(.slice ob9 r.length oc9:Value)) hs7.symm,(by rw [hs7];exact sl5)⟩
 ·rintro i1 y1 rz1 hd1 cw ao dy fB hs8 hx1 ag1 e
  refine qK 6 [] U (ad (v':=.bool true) U (cb cw) (qO 3 U (aA (ek (enc:=fun y=>[I y]) ei cQ ty3 hl.1 (nthZ ao) (au ao) U U U (fun q4 A4=>cK ty3 A4 U (qO 4 U (ac hs8 U (fun c4 hs9=>?_) (fun c4 hs10=>?_))))))))
  ·have c4p:=of_decide_eq_true c4
   exact aE (qT 3 U (ad (v':=I (((i1+1):Nat):Int)) U (aL ob) (qO 3 U (ag1 hs9))))
  have c4p:=of_decide_eq_false c4
  exact j6 U (hx1 i1 hs10)
 rintro i1 hd1 eG hx e
 exact qK 6 [] U (ad (v':=.bool false) U (cb eG) (qO 11 U (hx _ rd)))
theorem ue (h:HF) (aT:Register) (dt:dH) (d:Document) (wo:gE) (person:Int) (aW:Int) (known:Int) (gD:Register.ok h aT dt) (hd:Document.ok h d wo) (hsm:smR aT) (hov:okV aT.Versions):iq prog 36 [.agg (Register.cells aT dt).toArray,.agg (Document.cells d wo).toArray,I person,I aW,I known] h (fun v h'=>∃ (rb0:Option Addr) (rc0:Nat),v=.slice rb0 (ba aT d person aW known).length rc0∧SlC Rp.int h' rb0 rc0 (ba aT d person aW known)):=by
 refine sT func36 U ntmps36 U fun X hM hX hF=>?_
 have hs0:ba aT d person aW known=ba aT d person aW known:=rfl
 have hJl:=xw aT.Versions d.At aW known
 have hov1:=hov.1
 refine sr (cA (fun b1=>cA (fun b2=>qO 4 U (aA (ia cQ ty3 (fun b3=>qL 10 [1] U (ac hs0 U (fun c1 hs1=>?_) (fun c1 hs2=>?_))))))))
 ·have c1p:=of_decide_eq_true c1
  refine qT 5 U (eM 0 U hM (fun h1 hle1 hb1=>?_))
  have sl1:SlC Rp.int h1 (some ⟨b3,0,none⟩) 0 ([]):=aP.slB0 (T:=3) (fz:=(0,0)) ((show aP Rp.int h [] ([]) from rfl).mono Rp.aK hle1) hb1
  have hs3:ba aT d person aW known=[]:=hs1
  exact nretH [.slice (some ⟨b3,0,none⟩) 0 0] ⟨(some ⟨b3,0,none⟩),0,congrArg (fun r:List Int=>(.slice (some ⟨b3,0,none⟩) r.length 0:Value)) hs3.symm,(by rw [hs3];exact sl1)⟩
 have c1p:=of_decide_eq_false c1
 refine qK 9 [2,1] U (aA (cf call75 (rq _ _ _ _ d.At aW known gD.Versions hsm.vers) U (fun v1 h2 hle2 hp1=>?_)))
 obtain ⟨rb1,rc1,rfl,sl2⟩:=hp1
 refine qO 13 U (eM 0 U hM (fun h8 hle8 hb2=>?_))
 have sl7:SlC Rp.int h8 (some ⟨b3,0,none⟩) 0 ([]):=aP.slB0 (T:=3) (fz:=(0,0)) ((show aP Rp.int h2 [] ([]) from rfl).mono Rp.aK hle8) hb2
 let z1:Nat×Obj:=(b1,O (Register.cells aT dt) 30)
 let z2:Nat×Obj:=(b2,O (Document.cells d wo) 52)
 refine lp2 ((cN aT.Versions d.At aW known).1) (fun i w=>[(2,I person),(3,I aW),(4,I known),(5,Q b1),(11,.slice w.2.1 w.1.length w.2.2.1),(12,.slice rb1 (((cN aT.Versions d.At aW known).1).length) rc1),(15,I (i:Int))]) (fun w=>w.2.2.2) (fun w=>[z2,z1]) (fun i w=>SlC Rp.int w.2.2.2 w.2.1 w.2.2.1 w.1∧w.1.length≤2048 * i∧HF.le h8 w.2.2.2) (fun s1 i w=>(ba.L1 aT person aW known (ba.K1)) s1 w.1) ([],(some ⟨b3,0,none⟩),0,h8) ((sl2.mono Rp.aK hle8).1.1) hs2 ⟨sl7,(by first | omega | (simp only [List.length_append,List.length_cons,List.length_nil];omega) | (skip;first | omega | (dsimp only;omega))),lf⟩ ?_ ?_ ?_
 ·rintro i1 ⟨eV,j2,j1,hh1⟩ et hs4 ⟨j0,oU,hl1⟩ e
  try dsimp only at j0 oU hl1
  refine qT 5 U ?_
  have hs5:ba aT d person aW known=eV:=hs4
  exact nretH [.slice j2 eV.length j1] ⟨j2,j1,congrArg (fun r:List Int=>(.slice j2 r.length j1:Value)) hs5.symm,(by rw [hs5];exact j0)⟩
 ·rintro i1 ⟨eV,j2,j1,hh1⟩ y1 rz1 hd1 cw ao dy fB hs6 ⟨j0,oU,hl1⟩ hx1 ag1 e
  try dsimp only at j0 oU hl1
  have hof:=zf hov y1
  refine qK 6 [] U (ad (v':=.bool true) U (cb cw) (qO 6 U (eB ([z2,z1]) mixed kr jn (fun cB _=>tf 0 U U (fun _ _ hj=>jj ty30 U (hj.nth (i:=1) U) U) (qA [1,2] U (cD 3 (enc:=fun y=>[I y]) cB jn ei cQ ty3 (sl2.mono Rp.aK (hle8.t hl1)).1 (nthZ ao) (au ao) U U U U kr (fun q8 A8=>tf 4 U U (fun _ _ hj=>eF ty3 (A8.mono hj.1) U) ?_)))))))
  refine jq 5 7 kr U U ?_ ?_ 
  ·refine cf call46 (m4 _ _ _ y1 (gD.mono ((hle2.t hle8).t hl1))) U (fun v7 h9 hle9 hp7=>?_)
   obtain ⟨rr2,rfl,ok2⟩:=hp7
   refine ⟨⟨hle9,fun _ hp=>List.Sublist.subset (List.Sublist.refl _) hp⟩,kM (K2:=[z2,z1]) hle9 (fun _ hp=>hp) (tf 6 U U (fun _ _ _=>zD C5 ty68 U U) (tn 7 U (F5 zc68 (fun b5=>⟨jn,tn 8 U (rX 0 ty68 U U U U U U (⟨jn,aI kr (qT 4 U ?_)⟩))⟩))))⟩
   let z3:Nat×Obj:=(b5,O (Policy.cells ((aV aT y1).Policy) rr2.Policy) 68)
   refine lp2 (((aV aT y1).Policy).Offices) (fun i w=>[(2,I person),(3,I aW),(4,I known),(5,Q b1),(11,.slice w.2.1 w.1.length w.2.2.1),(12,.slice rb1 (((cN aT.Versions d.At aW known).1).length) rc1),(15,I (i1:Int)),(16,Q b5),(17,I (i:Int))]) (fun w=>w.2.2.2) (fun w=>[z3,z2,z1]) (fun i w=>SlC Rp.int w.2.2.2 w.2.1 w.2.2.1 w.1∧w.1.length≤eV.length+64 * i∧HF.le h9 w.2.2.2) (fun s5 i w=>(ba.L5 aT person aW known (fun zg5_11=>(ba.L1 aT person aW known (ba.K1) rz1 zg5_11))) s5 i w.1) (eV,j2,j1,h9) ok2.Policy.Offices.1.1 hs6 ⟨(j0.mono Rp.aK hle9),(by first | omega | (simp only [List.length_append,List.length_cons,List.length_nil];omega) | (skip;first | omega | (dsimp only;omega))),lf⟩ ?_ ?_ ?_
   ·rintro i5 ⟨oL,rg,rf,hh5⟩ sK hs7 ⟨oK,uS,hl5⟩ e
    try dsimp only at oK uS hl5
    exact dY (qT 2 U (ad (v':=I (((i1+1):Nat):Int)) U (aL ob) (an (bU (L':=[z2,z1]) js (ag1 (oL,rg,rf,hh5) hs7 ⟨oK,(by first | omega | (simp only [List.length_append,List.length_cons,List.length_nil];omega) | (skip;first | omega | (dsimp only;omega))),((hl1.t hle9).t hl5)⟩)))))
   ·rintro i5 ⟨oL,rg,rf,hh5⟩ y5 rz5 hd5 Fo zW Iy KF hs8 ⟨oK,uS,hl5⟩ hx5 ag2 e
    try dsimp only at oK uS hl5
    have hHl:=qM aT.Appoints (i5:Int) aW known
    refine qK 7 [0] U (ad (v':=.bool true) U (cb Fo) (qL 12 [2] U (aA (cf call78 (m5 _ _ _ _ (i5:Int) aW known (gD.Appoints.mono Appoint.ak ((((hle2.t hle8).t hl1).t hle9).t hl5))) U (fun v12 h14 hle14 hp12=>?_)))))
    obtain ⟨rb10,rc10,rfl,sl12⟩:=hp12
    refine qO 10 U ?_
    refine lp2 ((bu aT.Appoints (i5:Int) aW known).1) (fun i w=>[(2,I person),(3,I aW),(4,I known),(5,Q b1),(11,.slice w.2.1 w.1.length w.2.2.1),(12,.slice rb1 (((cN aT.Versions d.At aW known).1).length) rc1),(15,I (i1:Int)),(16,Q b5),(17,I (i5:Int)),(18,.slice rb10 (((bu aT.Appoints (i5:Int) aW known).1).length) rc10),(20,I (i:Int))]) (fun w=>w.2.2.2) (fun w=>[z3,z2,z1]) (fun i w=>SlC Rp.int w.2.2.2 w.2.1 w.2.2.1 w.1∧w.1.length≤oL.length+i∧HF.le h14 w.2.2.2) (fun s7 i w=>(ba.L7 person (fun zg7_11=>(ba.L5 aT person aW known (fun zg5_11=>(ba.L1 aT person aW known (ba.K1) rz1 zg5_11)) rz5 (i5+1) zg7_11))) s7 w.1) (oL,rg,rf,h14) sl12.1.1 hs8 ⟨(oK.mono Rp.aK hle14),(by first | omega | (simp only [List.length_append,List.length_cons,List.length_nil];omega) | (have hq:=iX lO y7.Person;first | omega | (dsimp only;omega))),lf⟩ ?_ ?_ ?_
    ·rintro i7 ⟨lO,re,ra,hh7⟩ JH hs9 ⟨m8,uR,hl7⟩ e
     try dsimp only at m8 uR hl7
     exact dY (qT 2 U (ad (v':=I (((i5+1):Nat):Int)) U (aL ob) (an (ag2 (lO,re,ra,hh7) hs9 ⟨m8,(by first | omega | (simp only [List.length_append,List.length_cons,List.length_nil];omega) | (skip;first | omega | (dsimp only;omega))),((hl5.t hle14).t hl7)⟩))))
    ·rintro i7 ⟨lO,re,ra,hh7⟩ y7 rz7 hd7 Ix rA J5 K8 hs10 ⟨m8,uR,hl7⟩ hx7 ag3 e
     try dsimp only at m8 uR hl7
     refine qK 6 [] U (ad (v':=.bool true) U (cb Ix) (qO 9 U (aA (ek (enc:=Holder.cells) ei pb ty133 (sl12.mono Holder.ak hl7).1 (nthZ rA) (au rA) U U U (fun q17 A17=>qL 1 [] U (cK ty3 A17 U (qO 3 U (ac hs10 U (fun c16 hs11=>?_) (fun c16 hs12=>?_)))))))))
     ·refine qT 4 U (aA (ek (enc:=Holder.cells) ei pb ty133 (sl12.mono Holder.ak hl7).1 (nthZ rA) (au rA) U U U (fun q18 A18=>qL 1 [] U (cK ty3 A18 U (aA (cf call43 (nK _ _ _ _ y7.Person m8 ob) U (fun v14 h16 hle16 hp14=>?_)))))))
      obtain ⟨rb12,rc12,rfl,sl14⟩:=hp14
      exact an (qT 3 U (ad (v':=I (((i7+1):Nat):Int)) U (aL ob) (an (ag3 ((cd lO y7.Person),rb12,rc12,h16) hs11 ⟨sl14,(by first | omega | (simp only [List.length_append,List.length_cons,List.length_nil];omega) | (have hq:=iX lO y7.Person;first | omega | (dsimp only;omega))),(hl7.t hle16)⟩))))
     exact aE (qT 3 U (ad (v':=I (((i7+1):Nat):Int)) U (aL ob) (an (ag3 (lO,re,ra,hh7) hs12 ⟨m8,(by first | omega | (simp only [List.length_append,List.length_cons,List.length_nil];omega) | (have hq:=iX lO y7.Person;first | omega | (dsimp only;omega))),hl7⟩))))
    rintro i7 ⟨lO,re,ra,hh7⟩ hd7 KD hx e
    exact qK 6 [] U (ad (v':=.bool false) U (cb KD) (qO 3 U (hx _ rd)))
   rintro i5 ⟨oL,rg,rf,hh5⟩ hd5 KE hx e
   exact qK 7 [0] U (ad (v':=.bool false) U (cb KE) (qO 3 U (hx _ rd)))
  refine F5 zc68 (fun b6=>⟨jn,tn 5 U (cf call46 (m4 _ _ _ y1 (gD.mono ((hle2.t hle8).t hl1))) U (fun v15 h17 hle17 hp15=>?_))⟩)
  obtain ⟨rr3,rfl,ok3⟩:=hp15
  refine ⟨jl hle17,tu hle17 (tf 6 U U (fun _ _ _=>zD C5 ty68 U U) (tn 8 U (rX 0 ty68 U U U U U U (⟨jn,aI kr (qT 4 U ?_)⟩))))⟩
  let z4:Nat×Obj:=(b6,O (Policy.cells ((aV aT y1).Policy) rr3.Policy) 68)
  refine lp2 (((aV aT y1).Policy).Offices) (fun i w=>[(2,I person),(3,I aW),(4,I known),(5,Q b1),(11,.slice w.2.1 w.1.length w.2.2.1),(12,.slice rb1 (((cN aT.Versions d.At aW known).1).length) rc1),(15,I (i1:Int)),(16,Q b6),(17,I (i:Int))]) (fun w=>w.2.2.2) (fun w=>[z4,z2,z1]) (fun i w=>SlC Rp.int w.2.2.2 w.2.1 w.2.2.1 w.1∧w.1.length≤eV.length+64 * i∧HF.le h17 w.2.2.2) (fun s5 i w=>(ba.L5 aT person aW known (fun zg5_11=>(ba.L1 aT person aW known (ba.K1) rz1 zg5_11))) s5 i w.1) (eV,j2,j1,h17) ok3.Policy.Offices.1.1 hs6 ⟨(j0.mono Rp.aK hle17),(by first | omega | (simp only [List.length_append,List.length_cons,List.length_nil];omega) | (skip;first | omega | (dsimp only;omega))),lf⟩ ?_ ?_ ?_
  ·rintro i5 ⟨oL,rg,rf,hh5⟩ K7 hs13 ⟨oK,uS,hl5⟩ e
   try dsimp only at oK uS hl5
   exact dY (qT 2 U (ad (v':=I (((i1+1):Nat):Int)) U (aL ob) (an (bU (L':=[z2,z1]) js (ag1 (oL,rg,rf,hh5) hs13 ⟨oK,(by first | omega | (simp only [List.length_append,List.length_cons,List.length_nil];omega) | (skip;first | omega | (dsimp only;omega))),((hl1.t hle17).t hl5)⟩)))))
  ·rintro i5 ⟨oL,rg,rf,hh5⟩ y5 rz5 hd5 Fo zW Iy KF hs14 ⟨oK,uS,hl5⟩ hx5 ag4 e
   try dsimp only at oK uS hl5
   have hHl:=qM aT.Appoints (i5:Int) aW known
   refine qK 7 [0] U (ad (v':=.bool true) U (cb Fo) (qL 12 [2] U (aA (cf call78 (m5 _ _ _ _ (i5:Int) aW known (gD.Appoints.mono Appoint.ak ((((hle2.t hle8).t hl1).t hle17).t hl5))) U (fun v20 h22 hle22 hp20=>?_)))))
   obtain ⟨rb17,rc17,rfl,sl19⟩:=hp20
   refine qO 10 U ?_
   refine lp2 ((bu aT.Appoints (i5:Int) aW known).1) (fun i w=>[(2,I person),(3,I aW),(4,I known),(5,Q b1),(11,.slice w.2.1 w.1.length w.2.2.1),(12,.slice rb1 (((cN aT.Versions d.At aW known).1).length) rc1),(15,I (i1:Int)),(16,Q b6),(17,I (i5:Int)),(18,.slice rb17 (((bu aT.Appoints (i5:Int) aW known).1).length) rc17),(20,I (i:Int))]) (fun w=>w.2.2.2) (fun w=>[z4,z2,z1]) (fun i w=>SlC Rp.int w.2.2.2 w.2.1 w.2.2.1 w.1∧w.1.length≤oL.length+i∧HF.le h22 w.2.2.2) (fun s7 i w=>(ba.L7 person (fun zg7_11=>(ba.L5 aT person aW known (fun zg5_11=>(ba.L1 aT person aW known (ba.K1) rz1 zg5_11)) rz5 (i5+1) zg7_11))) s7 w.1) (oL,rg,rf,h22) sl19.1.1 hs14 ⟨(oK.mono Rp.aK hle22),(by first | omega | (simp only [List.length_append,List.length_cons,List.length_nil];omega) | (have hq:=iX lO y7.Person;first | omega | (dsimp only;omega))),lf⟩ ?_ ?_ ?_
   ·rintro i7 ⟨lO,re,ra,hh7⟩ Lw hs15 ⟨m8,uR,hl7⟩ e
    try dsimp only at m8 uR hl7
    exact dY (qT 2 U (ad (v':=I (((i5+1):Nat):Int)) U (aL ob) (an (ag4 (lO,re,ra,hh7) hs15 ⟨m8,(by first | omega | (simp only [List.length_append,List.length_cons,List.length_nil];omega) | (skip;first | omega | (dsimp only;omega))),((hl5.t hle22).t hl7)⟩))))
   ·rintro i7 ⟨lO,re,ra,hh7⟩ y7 rz7 hd7 Ix rA J5 K8 hs16 ⟨m8,uR,hl7⟩ hx7 ag5 e
    try dsimp only at m8 uR hl7
    refine qK 6 [] U (ad (v':=.bool true) U (cb Ix) (qO 9 U (aA (ek (enc:=Holder.cells) ei pb ty133 (sl19.mono Holder.ak hl7).1 (nthZ rA) (au rA) U U U (fun q27 A27=>qL 1 [] U (cK ty3 A27 U (qO 3 U (ac hs16 U (fun c24 hs17=>?_) (fun c24 hs18=>?_)))))))))
    ·refine qT 4 U (aA (ek (enc:=Holder.cells) ei pb ty133 (sl19.mono Holder.ak hl7).1 (nthZ rA) (au rA) U U U (fun q28 A28=>qL 1 [] U (cK ty3 A28 U (aA (cf call43 (nK _ _ _ _ y7.Person m8 ob) U (fun v22 h24 hle24 hp22=>?_)))))))
     obtain ⟨rb19,rc19,rfl,sl21⟩:=hp22
     exact an (qT 3 U (ad (v':=I (((i7+1):Nat):Int)) U (aL ob) (an (ag5 ((cd lO y7.Person),rb19,rc19,h24) hs17 ⟨sl21,(by first | omega | (simp only [List.length_append,List.length_cons,List.length_nil];omega) | (have hq:=iX lO y7.Person;first | omega | (dsimp only;omega))),(hl7.t hle24)⟩))))
    exact aE (qT 3 U (ad (v':=I (((i7+1):Nat):Int)) U (aL ob) (an (ag5 (lO,re,ra,hh7) hs18 ⟨m8,(by first | omega | (simp only [List.length_append,List.length_cons,List.length_nil];omega) | (have hq:=iX lO y7.Person;first | omega | (dsimp only;omega))),hl7⟩))))
   rintro i7 ⟨lO,re,ra,hh7⟩ hd7 KD hx e
   exact qK 6 [] U (ad (v':=.bool false) U (cb KD) (qO 3 U (hx _ rd)))
  rintro i5 ⟨oL,rg,rf,hh5⟩ hd5 KE hx e
  exact qK 7 [0] U (ad (v':=.bool false) U (cb KE) (qO 3 U (hx _ rd)))
 rintro i1 ⟨eV,j2,j1,hh1⟩ hd1 eG hx e
 exact qK 6 [] U (ad (v':=.bool false) U (cb eG) (qO 3 U (hx _ rd)))
theorem wx (h:HF) (aT:Register) (dt:dH) (doc:Int) (person:Int) (aW:Int) (known:Int) (gD:Register.ok h aT dt) (hsm:smR aT):Ret prog 13 [.agg (Register.cells aT dt).toArray,I doc,I person,I aW,I known] h (.bool (kT aT doc person aW known)):=by
 refine sT func13 U ntmps13 U fun X hM hX hF=>?_
 have hs0:kT aT doc person aW known=kT aT doc person aW known:=rfl
 refine sr (cA (fun b1=>qO 5 U (cJ 0 ty30 U U U (ah call31 (sb _ _ _ gD ob) U (qO 2 U (ce 5 [15,16,17,18,19,20] 15 20 (decide ((bq aT doc) < 0)) U (fun c1 hk1=>?_) (fun e=>?_)))))))
 ·exact cJ 0 ty30 U U U (aj (ah call19 (qI _ _ _ doc gD) U (qO 2 U (hk1 _ U))))
 refine aj (ce 4 [21,22,23,24,25] 21 25 (!(bM aW)) U (fun c2 hk2=>?_) (fun e=>?_))
 ·exact aj (ah tX (gY h aW) U (qO 2 U (hk2 _ U)))
 refine aj (ce 4 [26,27,28,29,30] 26 30 (!(bM known)) U (fun c3 hk3=>?_) (fun e=>?_))
 ·exact aj (ah tX (gY h known) U (qO 2 U (hk3 _ U)))
 refine aM (ac hs0 U (fun c4 hs1=>?_) (fun c4 hs2=>?_))
 ·exact sr (an (nretP [.bool true] (cs hs1)))
 refine qT 2 U (eB ([(b1,O (Register.cells aT dt) 30)]) mixed kr jn (fun cB _=>tf 0 U U (fun _ _ hj=>jj ty30 U (hj.nth (i:=0) U) U) (qB [1] U (tf 2 U U (fun _ _ hj=>fI ty27 U (hj.nth (i:=0) U) U) (tf 3 U U (fun _ _ hj=>jj ty30 U (hj.nth (i:=0) U) U) (qA [4,8,9,10] U (tn 5 U (eK call19 (qI _ _ _ doc gD) U (⟨jn,?_⟩)))))))))
 have ho1:0≤((bq aT doc):Int)∧((bq aT doc):Int) < ((aT.Docs).length:Int):=(by have hq:=vC (r:=aT) (no:=doc) ob;simp only [decide_eq_true_eq,decide_eq_false_iff_not,Bool.and_eq_true,Bool.or_eq_true,Bool.not_eq_true',Bool.not_eq_false',Bool.and_eq_false_iff,Bool.or_eq_false_iff,beq_iff_eq,beq_eq_false_iff_ne,bne_iff_ne,bne_eq_false_iff_eq,List.length_append,List.length_cons,List.length_nil,List.length_drop] at *;omega)
 refine gC 6 cB jn pH ty52 gD.Docs.1 ho1 (bT ho1) U U U U kr (fun q1 cs1 A1 ln1 rr1=>?_)
 obtain ⟨r1,rfl,ok1⟩:=rr1
 refine tf 7 U U (fun _ _ hj=>iQ ty52 (A1.mono hj.1) U U) (tn 11 U (cf call36 (ue _ _ _ _ _ person aW known gD ok1 ob (by have hq:gJ aT=0:=ob;exact ((je _).1 (xT hsm.vers (xS hq).2.2.2.2.1)).okV)) U (fun v1 h1 hle1 hp1=>?_)))
 obtain ⟨rb1,rc1,rfl,sl1⟩:=hp1
 refine ⟨⟨hle1,fun _ hp=>List.Sublist.subset (List.Sublist.refl _) hp⟩,kM (K2:=[(b1,O (Register.cells aT dt) 30)]) hle1 (fun _ hp=>hp) (tf 12 U U (fun _ _ _=>DR cQ U) (qA [13] U (aI kr (qT 5 U (ce 3 [46,47,48,49] 46 49 (decide (12 < (((ba aT (nthI aT.Docs (bq aT doc)) person aW known).length:Nat):Int))) U (fun c5 hk4=>?_) (fun e=>?_))))))⟩
 ·exact aj (qO 2 U (hk4 _ U))
 exact an (nretP [.bool (decide ((((ba aT (nthI aT.Docs (bq aT doc)) person aW known).length:Nat):Int)≤7)||decide (12 < (((ba aT (nthI aT.Docs (bq aT doc)) person aW known).length:Nat):Int)))] (cs hs2))
theorem wv (rec:List Int→Int→(List (List Int))) (hrp:∀ (p:List Int) (n:Int),0≤n→p.length≤12→(∀ s∈rec p n,s.length≤12)∧(rec p n).length≤4096) (h:HF) (people:List Int) (jW:Option Addr) (jV:Nat) (many:Int) (hrec:∀ (h:HF) (qpeople:List Int) (tg:Option Addr) (te:Nat) (qmany:Int) (hqpeople:SlC Rp.int h tg te qpeople) (hmn:(0≤qmany∧qmany≤13)∧qpeople.length≤12) (_:(qmany.toNat+1) < (many.toNat+1)),iq prog 42 [.slice tg qpeople.length te,I qmany] h (fun v h'=>∃ (rb0:Option Addr) (rc0:Nat),v=.slice rb0 (rec qpeople qmany).length rc0∧SlC (Rp.sl Rp.int) h' rb0 rc0 (rec qpeople qmany))) (hpeople:SlC Rp.int h jW jV people) (hmn:(0≤many∧many≤13)∧people.length≤12):iq prog 42 [.slice jW people.length jV,I many] h (fun v h'=>∃ (rb0:Option Addr) (rc0:Nat),v=.slice rb0 (aU.F rec people many).length rc0∧SlC (Rp.sl Rp.int) h' rb0 rc0 (aU.F rec people many)):=by
 refine sT func42 U ntmps42 U fun X hM hX hF=>?_
 have hs0:aU.F rec people many=aU.F rec people many:=rfl
 refine qT 10 U (ac hs0 U (fun c1 hs1=>?_) (fun c1 hs2=>?_))
 ·refine sr (aA (ia cQ ty3 (fun b1=>bN 0 U hM (fun h1 hle1 hb1=>?_))))
  have sl1:SlC Rp.int h1 (some ⟨b1,0,none⟩) 0 ([]):=aP.slB0 (T:=3) (fz:=(0,0)) ((show aP Rp.int h [] ([]) from rfl).mono Rp.aK hle1) hb1
  refine aA (bg (cells:=[.slice (some ⟨b1,0,none⟩) 0 0]) Bm ty31 zc31 U U kr (fun b2=>an (eM 0 U hM (fun h2 hle2 hb2=>?_))))
  have sl2:SlC (Rp.sl Rp.int) h2 (some ⟨b2,0,none⟩) 1 ([[]]):=aP.slB0 (T:=31) (fz:=(0,0)) ((show aP (Rp.sl Rp.int) h1 [.slice (some ⟨b1,0,none⟩) 0 0] ([[]]) from ⟨[.slice (some ⟨b1,0,none⟩) 0 0],[],rfl,rfl,⟨(some ⟨b1,0,none⟩),0,rfl,sl1⟩,rfl⟩).mono (Rp.j8 Rp.aK) hle2) hb2
  have hs3:aU.F rec people many=[[]]:=hs1
  exact nretH [.slice (some ⟨b2,0,none⟩) 1 1] ⟨(some ⟨b2,0,none⟩),1,congrArg (fun r:(List (List Int))=>(.slice (some ⟨b2,0,none⟩) r.length 1:Value)) hs3.symm,(by rw [hs3];exact sl2)⟩
 refine qT 3 U (aA (ia Bm ty31 (fun b3=>qO 7 U ?_)))
 obtain ⟨G7,gr7,ge1⟩:∃ G:LH,cM (Rp.sl Rp.int) 31 h ([]) (some ⟨b3,0,none⟩) 0 G∧[(b3,O [] 31)]=G:=⟨_,cM.lit (show aP (Rp.sl Rp.int) h [] ([]) from rfl) rfl,rfl⟩
 refine cS (L':=([])++([(b3,O [] 31)]++([]))) ap ?_
 rw [ge1]
 refine kC (List.Perm.append_left _ List.perm_append_comm) (cS (L':=G7) ap ?_)
 refine iH (ι:=Nat×(List (List Int))×Option Addr×Nat×LH×HF) (fun i=>[(5,.slice i.2.2.1 i.2.1.length i.2.2.2.1)]) (fun i=>i.2.2.2.2.2) (fun i=>i.2.2.2.2.1) (fun i=>i.1≤(List.range (people.length+1 - (many:Int).toNat)).length∧aU.F rec people many=((aU.K1) i.2.1)∧cM (Rp.sl Rp.int) 31 i.2.2.2.2.2 i.2.1 i.2.2.1 i.2.2.2.1 i.2.2.2.2.1∧i.2.1.length≤4096 * i.1∧HF.le h i.2.2.2.2.2) ?_ (fun hx1=>?_)
 ·rintro ⟨i1,gZ,Ce,Cd,Gr,hh1⟩ ⟨et,hs4,Cc,IQ,hl1⟩ e
  try dsimp only at et Cc IQ hl1
  refine qT 5 U (eI (Rp.j8 Rp.aK) ([]) Gr ([]) ap hM Cc (fun h7 hle7 sl11=>?_))
  have hs5:aU.F rec people many=gZ:=hs4
  exact nretH [.slice Ce gZ.length Cd] ⟨Ce,Cd,congrArg (fun r:(List (List Int))=>(.slice Ce r.length Cd:Value)) hs5.symm,(by rw [hs5];exact sl11)⟩
 refine j5 (ι:=Nat×(List (List Int))×Option Addr×Nat×LH×HF×List Nat) (fun i=>[(0,.slice jW people.length jV),(1,I many),(5,.slice i.2.2.1 i.2.1.length i.2.2.2.1),(6,I (i.1:Int))]) (fun i=>i.2.2.2.2.2.1) (fun i=>i.2.2.2.2.1) (fun i=>(List.range (people.length+1 - (many:Int).toNat)).drop i.1=i.2.2.2.2.2.2∧i.1≤(List.range (people.length+1 - (many:Int).toNat)).length∧aU.F rec people many=((aU.L1 rec people many (aU.K1)) i.2.2.2.2.2.2 i.1 i.2.1)∧cM (Rp.sl Rp.int) 31 i.2.2.2.2.2.1 i.2.1 i.2.2.1 i.2.2.2.1 i.2.2.2.2.1∧i.2.1.length≤4096 * i.1∧HF.le h i.2.2.2.2.2.1) (fun i=>i.2.2.2.2.2.2.length) (0,[],(some ⟨b3,0,none⟩),0,G7,h,(List.range (people.length+1 - (many:Int).toNat))) rd sw ⟨U,Nat.zero_le _,hs2,gr7,(by first | omega | (simp only [List.length_append,List.length_cons,List.length_nil];omega) | (skip;first | omega | (dsimp only;omega))),lf⟩ ?_
 rintro ⟨i1,gZ,Ce,Cd,Gr,hh1,s1⟩ ⟨hd1,et,hs6,Cc,IQ,hl1⟩ ag1 e
 try dsimp only at hd1 et Cc IQ hl1
 rcases s1 with _ | ⟨y1,rz1⟩
 ·have eG:decide (((i1:Int)+many)≤(people.length:Int))=false:=decide_eq_false (by have q_:=of_decide_eq_false (nN hd1);rw [List.length_range] at q_;omega)
  exact dz (qT 4 U (ad (v':=I ((i1:Int)+many)) U (gG (by first | omega | (simp only [List.length_range,decide_eq_true_eq,decide_eq_false_iff_not,Bool.and_eq_true,Bool.or_eq_true,Bool.not_eq_true',Bool.not_eq_false',Bool.and_eq_false_iff,Bool.or_eq_false_iff,beq_iff_eq,beq_eq_false_iff_ne,bne_iff_ne,bne_eq_false_iff_eq,List.length_append,List.length_cons,List.length_nil,List.length_drop] at *;omega))) (qL 2 [] U (ad (v':=.bool false) U (cb eG) (qO 3 U (hx1 (i1,gZ,Ce,Cd,Gr,hh1) _ ⟨et,hs6,Cc,(by first | omega | (simp only [List.length_append,List.length_cons,List.length_nil];omega) | (skip;first | omega | (dsimp only;omega))),hl1⟩ rd))))))
 have cw:decide (((i1:Int)+many)≤(people.length:Int))=true:=decide_eq_true (by have q_:=iY hd1;rw [List.length_range] at q_;omega)
 have dy:i1 < (people.length+1 - (many:Int).toNat):=by simpa using iY hd1
 have hq:=hrp (people.drop ((((i1+1:Nat):Int)).toNat)) (many - 1) (by simp only [beq_eq_false_iff_ne] at *;omega) (by rw [List.length_drop];omega)
 refine qT 5 U (ad (v':=I ((i1:Int)+many)) U (gG (by first | omega | (simp only [List.length_range,decide_eq_true_eq,decide_eq_false_iff_not,Bool.and_eq_true,Bool.or_eq_true,Bool.not_eq_true',Bool.not_eq_false',Bool.and_eq_false_iff,Bool.or_eq_false_iff,beq_iff_eq,beq_eq_false_iff_ne,bne_iff_ne,bne_eq_false_iff_eq,List.length_append,List.length_cons,List.length_nil,List.length_drop] at *;omega))) (qL 2 [] U (ad (v':=.bool true) U (cb cw) (qO 9 U (ad (v':=I (((i1+1):Nat):Int)) U (aL (by first | omega | (simp only [List.length_range,decide_eq_true_eq,decide_eq_false_iff_not,Bool.and_eq_true,Bool.or_eq_true,Bool.not_eq_true',Bool.not_eq_false',Bool.and_eq_false_iff,Bool.or_eq_false_iff,beq_iff_eq,beq_eq_false_iff_ne,bne_iff_ne,bne_eq_false_iff_eq,List.length_append,List.length_cons,List.length_nil,List.length_drop] at *;omega))) (aA (DH cQ ty3 (hpeople.mono Rp.aK hl1).1 (hpeople.mono Rp.aK hl1).2 (by first | omega | (simp only [List.length_range,decide_eq_true_eq,decide_eq_false_iff_not,Bool.and_eq_true,Bool.or_eq_true,Bool.not_eq_true',Bool.not_eq_false',Bool.and_eq_false_iff,Bool.or_eq_false_iff,beq_iff_eq,beq_eq_false_iff_ne,bne_iff_ne,bne_eq_false_iff_eq,List.length_append,List.length_cons,List.length_nil,List.length_drop] at *;omega)) U U U (fun sb2 sc2 sl12=>aj (ad (v':=I (many - 1)) U (gG (by first | omega | (simp only [List.length_range,decide_eq_true_eq,decide_eq_false_iff_not,Bool.and_eq_true,Bool.or_eq_true,Bool.not_eq_true',Bool.not_eq_false',Bool.and_eq_false_iff,Bool.or_eq_false_iff,beq_iff_eq,beq_eq_false_iff_ne,bne_iff_ne,bne_eq_false_iff_eq,List.length_append,List.length_cons,List.length_nil,List.length_drop] at *;omega))) (aA (cf call42 (hrec _ _ _ _ (many - 1) sl12 (by simp only [beq_eq_false_iff_ne,List.length_drop] at *;omega) (by simp only [beq_eq_false_iff_ne] at *;omega)) U (fun v2 h8 hle8 hp2=>?_))))))))))))
 obtain ⟨rb5,rc5,rfl,sl13⟩:=hp2
 refine qO 6 U ?_
 refine lp2 (rec (people.drop (((((i1+1):Nat):Int):Int)).toNat) (many - 1)) (fun i w=>[(0,.slice jW people.length jV),(1,I many),(5,.slice w.2.1 w.1.length w.2.2.1),(6,I (i1:Int)),(7,.slice rb5 ((rec (people.drop (((((i1+1):Nat):Int):Int)).toNat) (many - 1)).length) rc5),(8,I (i:Int))]) (fun w=>w.2.2.2.2) (fun w=>w.2.2.2.1) (fun i w=>cM (Rp.sl Rp.int) 31 w.2.2.2.2 w.1 w.2.1 w.2.2.1 w.2.2.2.1∧w.1.length≤gZ.length+i∧HF.le h8 w.2.2.2.2) (fun s3 i w=>(aU.L3 people i1 (fun zg3_5=>(aU.L1 rec people many (aU.K1) rz1 (i1+1) zg3_5))) s3 w.1) (gZ,Ce,Cd,Gr,h8) sl13.1.1 hs6 ⟨(Cc.mono (Rp.j8 Rp.aK) hle8),lo,lf⟩ ?_ ?_ ?_
 ·rintro i3 ⟨EA,IH,IG,B5,hh3⟩ sK hs8 ⟨Ez,IF,hl3⟩ e
  try dsimp only at Ez IF hl3
  exact dY (qT 2 U (ad (v':=I (((i1+1):Nat):Int)) U (aL (by first | omega | (simp only [List.length_range,decide_eq_true_eq,decide_eq_false_iff_not,Bool.and_eq_true,Bool.or_eq_true,Bool.not_eq_true',Bool.not_eq_false',Bool.and_eq_false_iff,Bool.or_eq_false_iff,beq_iff_eq,beq_eq_false_iff_ne,bne_iff_ne,bne_eq_false_iff_eq,List.length_append,List.length_cons,List.length_nil,List.length_drop] at *;omega))) (an (ag1 ((i1+1),EA,IH,IG,B5,hh3,rz1) _ (Nat.lt_succ_self _) ⟨lL hd1,iY hd1,hs8,Ez,(by first | omega | (simp only [List.length_append,List.length_cons,List.length_nil];omega) | (skip;first | omega | (dsimp only;omega))),((hl1.t hle8).t hl3)⟩ rd))))
 ·rintro i3 ⟨EA,IH,IG,B5,hh3⟩ y3 rz3 hd3 sJ gU xI Ev hs9 ⟨Ez,IF,hl3⟩ hx3 ag2 e
  try dsimp only at Ez IF hl3
  have hy:=hq.1 y3 (fq hd3)
  refine qK 6 [] U (ad (v':=.bool true) U (cb sJ) (qO 5 U (eB ([]) mixed kr jn (fun cB _=>qR 0 3 U ?_))))
  have ho8:0≤((i1:Int):Int)∧((i1:Int):Int) < ((people).length:Int):=ob
  refine cD 3 (enc:=fun y=>[I y]) cB jn ei cQ ty3 (hpeople.mono Rp.aK ((hl1.t hle8).t hl3)).1 ho8 (bT ho8) U U U U kr (fun q9 A9=>tf 4 U U (fun _ _ hj=>eF ty3 (A9.mono hj.1) U) (qA [6,7] U (gC 8 cB jn Bm ty31 (sl13.mono (Rp.j8 Rp.aK) hl3).1 (nthZ gU) (au gU) U U U U kr (fun q10 cs5 A10 ln5 rr5=>?_))))
  obtain ⟨rb7,rc7,rfl,sl16⟩:=rr5
  refine tf 9 U U (fun _ _ hj=>eF ty31 (A10.mono hj.1) U) (tn 5 U (bg (cells:=[I (nthI people (i1:Int))]) cQ ty3 zc3 U U kr (fun b12=>⟨jn,(tn 10 U (bS Rp.dF ([]) (B5) (fun G=>B5++G) ap (fun _=>ap) cQ ty3 zc3 U bytes3 (cM.lit (show aP Rp.int hh3 [I (nthI people (i1:Int))] ([(nthI people (i1:Int))]) from ⟨[I (nthI people (i1:Int))],[],U,U,U,U⟩) U) U U (fo sl16.1) lo lo (fun ob9 oc9 G10 gr10=>⟨jn,(tn 11 U (jK Rp.aK (B5) G10 ([]) ap hM gr10 (fun h10 hle10 sl17=>bg (cells:=[.slice ob9 (([(nthI people (i1:Int))]++y3).length) oc9]) Bm ty31 zc31 U U kr (fun b13=>⟨⟨hle10,fun _ hp=>List.Sublist.subset js hp⟩,kM (K2:=[]) hle10 (fun _ hp=>hp) ?_⟩))))⟩)))⟩)))
  let z1:Nat×Obj:=(b13,O [.slice ob9 (([(nthI people (i1:Int))]++y3).length) oc9] 31)
  exact tn 12 U (bS (Rp.Cw Rp.aK) ([z1]) ([]) (fun G=>[z1]++G) ap (fun _=>ap) Bm ty31 zc31 U bytes31 (Ez.mono (Rp.j8 Rp.aK) hle10) U U (du 0 U (show aP (Rp.sl Rp.int) h10 [.slice ob9 (([(nthI people (i1:Int))]++y3).length) oc9] ([([(nthI people (i1:Int))]++y3)]) from ⟨[.slice ob9 (([(nthI people (i1:Int))]++y3).length) oc9],[],U,U,⟨ob9,oc9,U,sl17⟩,U⟩)) lo lo (fun ob10 oc10 G11 gr11=>⟨jn,(qA [13] U (aI kr (qT 3 U (ad (v':=I (((i3+1):Nat):Int)) U (aL (by first | omega | (simp only [List.length_range,decide_eq_true_eq,decide_eq_false_iff_not,Bool.and_eq_true,Bool.or_eq_true,Bool.not_eq_true',Bool.not_eq_false',Bool.and_eq_false_iff,Bool.or_eq_false_iff,beq_iff_eq,beq_eq_false_iff_ne,bne_iff_ne,bne_eq_false_iff_eq,List.length_append,List.length_cons,List.length_nil,List.length_drop] at *;omega))) (an (bU (L':=G11) js (ag2 ((EA++[([(nthI people (i1:Int))]++y3)]),ob10,oc10,G11,h10) hs9 ⟨gr11,lo,(hl3.t hle10)⟩)))))))⟩))
 rintro i3 ⟨EA,IH,IG,B5,hh3⟩ hd3 zX hx e
 exact qK 6 [] U (ad (v':=.bool false) U (cb zX) (qO 3 U (hx _ rd)))
theorem ou:∀ (m:Nat) (h:HF) (people:List Int) (jW:Option Addr) (jV:Nat) (many:Int) (_:(many.toNat+1)≤m) (hpeople:SlC Rp.int h jW jV people) (hmn:(0≤many∧many≤13)∧people.length≤12),iq prog 42 [.slice jW people.length jV,I many] h (fun v h'=>∃ (rb0:Option Addr) (rc0:Nat),v=.slice rb0 (aU.go m people many).length rc0∧SlC (Rp.sl Rp.int) h' rb0 rc0 (aU.go m people many))
 | 0,h,people,jW,jV,many,hd,hpeople,hmn=>absurd hd (Nat.not_le.2 (Nat.succ_pos _))
 | m+1,h,people,jW,jV,many,hd,hpeople,hmn=>wv (aU.go m) (xR m) h people jW jV many (fun qh_ qpeople tg te qmany qhpeople qhmn qd=>ou m qh_ qpeople tg te qmany ob qhpeople qhmn) hpeople hmn
theorem xZ (h:HF) (people:List Int) (jW:Option Addr) (jV:Nat) (many:Int) (hpeople:SlC Rp.int h jW jV people) (hmn:(0≤many∧many≤13)∧people.length≤12):iq prog 42 [.slice jW people.length jV,I many] h (fun v h'=>∃ (rb0:Option Addr) (rc0:Nat),v=.slice rb0 (aU people many).length rc0∧SlC (Rp.sl Rp.int) h' rb0 rc0 (aU people many)):=ou _ h people jW jV many (Nat.le_refl _) hpeople hmn
theorem yc (h:HF) (aT:Register) (dt:dH) (doc:Int) (person:Int) (aW:Int) (known:Int) (gD:Register.ok h aT dt) (hsm:smR aT):iq prog 15 [.agg (Register.cells aT dt).toArray,I doc,I person,I aW,I known] h (fun v h'=>∃ (rb0:Option Addr) (rc0:Nat),v=.tuple #[.slice rb0 ((cg aT doc person aW known).1).length rc0,.bool ((cg aT doc person aW known).2.1),I ((cg aT doc person aW known).2.2)]∧SlC Rp.int h' rb0 rc0 ((cg aT doc person aW known).1)):=by
 refine sT func15 U ntmps15 U fun X hM hX hF=>?_
 have hs0:cg aT doc person aW known=cg aT doc person aW known:=rfl
 refine sr (cA (fun b1=>qO 7 U (cJ 0 ty30 U U U (ah call31 (sb _ _ _ gD ob) U (qO 2 U (ac hs0 U (fun c1 hs1=>?_) (fun c1 hs2=>?_)))))))
 ·refine qT 6 U ?_
  have hs3:cg aT doc person aW known=([],false,300):=hs1
  exact nretH [.slice none 0 0,.bool false,I 300] ⟨none,0,congrArg (fun r:(List Int×Bool×Int)=>(.tuple #[.slice none r.1.length 0,.bool r.2.1,I r.2.2]:Value)) hs3.symm,(by rw [hs3];exact SlC.nil)⟩
 refine qT 3 U (cJ 0 ty30 U U U (aj (ah call19 (qI _ _ _ doc gD) U (qO 8 U (ce 3 [26,27,28,29] 26 29 (decide (person < 0)) U (fun c2 hk1=>?_) (fun e=>?_))))))
 ·exact aj (qO 2 U (hk1 _ U))
 refine aj (ce 3 [30,31,32,33] 30 33 (decide (64≤person)) U (fun c3 hk2=>?_) (fun e=>?_))
 ·exact aj (qO 2 U (hk2 _ U))
 refine aj (ce 4 [34,35,36,37,38] 34 38 (!(bM aW)) U (fun c4 hk3=>?_) (fun e=>?_))
 ·exact aj (ah tX (gY h aW) U (qO 2 U (hk3 _ U)))
 refine aj (ce 4 [39,40,41,42,43] 39 43 (!(bM known)) U (fun c5 hk4=>?_) (fun e=>?_))
 ·exact aj (ah tX (gY h known) U (qO 2 U (hk4 _ U)))
 refine aM (ac hs2 U (fun c6 hs4=>?_) (fun c6 hs5=>?_))
 ·refine qT 6 U ?_
  have hs6:cg aT doc person aW known=([],false,1):=hs4
  exact nretH [.slice none 0 0,.bool false,I 1] ⟨none,0,congrArg (fun r:(List Int×Bool×Int)=>(.tuple #[.slice none r.1.length 0,.bool r.2.1,I r.2.2]:Value)) hs6.symm,(by rw [hs6];exact SlC.nil)⟩
 refine qT 2 U ?_
 let z1:Nat×Obj:=(b1,O (Register.cells aT dt) 30)
 refine eB ([z1]) mixed kr jn (fun cB _=>?_)
 refine tf 0 U U (fun _ _ hj=>jj ty30 U (hj.nth (i:=0) U) U) (qB [1] U (tf 2 U U (fun _ _ hj=>fI ty27 U (hj.nth (i:=0) U) U) (tm 3 U ?_)))
 have ho1:0≤((bq aT doc):Int)∧((bq aT doc):Int) < ((aT.Docs).length:Int):=(by have hq:=vC (r:=aT) (no:=doc) ob;simp only [decide_eq_true_eq,decide_eq_false_iff_not,Bool.and_eq_true,Bool.or_eq_true,Bool.not_eq_true',Bool.not_eq_false',Bool.and_eq_false_iff,Bool.or_eq_false_iff,beq_iff_eq,beq_eq_false_iff_ne,bne_iff_ne,bne_eq_false_iff_eq,List.length_append,List.length_cons,List.length_nil,List.length_drop] at *;omega)
 refine gC 4 cB jn pH ty52 gD.Docs.1 ho1 (bT ho1) U U U U kr (fun q1 cs1 A1 ln1 rr1=>?_)
 obtain ⟨r1,rfl,ok1⟩:=rr1
 refine tf 5 U U (fun _ _ hj=>iQ ty52 (A1.mono hj.1) U U) (qR 6 3 U (tn 9 U (cf call36 (ue _ _ _ _ _ person aW known gD ok1 hsm (few9 hsm (by simpa using c1)).vers.okV) U (fun v1 h1 hle1 hp1=>?_))))
 obtain ⟨rb1,rc1,rfl,sl1⟩:=hp1
 refine ⟨⟨hle1,fun _ hp=>List.Sublist.subset (List.Sublist.refl _) hp⟩,kM (K2:=[z1]) hle1 (fun _ hp=>hp) (qA [10] U (aI kr (qK 7 [] U (ac hs5 U (fun c7 hs7=>?_) (fun c7 hs8=>?_)))))⟩
 ·have c7p:=of_decide_eq_true c7
  refine qT 6 U ?_
  have hs9:cg aT doc person aW known=([],false,2):=hs7
  exact nretH [.slice none 0 0,.bool false,I 2] ⟨none,0,congrArg (fun r:(List Int×Bool×Int)=>(.tuple #[.slice none r.1.length 0,.bool r.2.1,I r.2.2]:Value)) hs9.symm,(by rw [hs9];exact SlC.nil)⟩
 have c7p:=of_decide_eq_false c7
 refine qT 6 U ?_
 refine iH (ι:=Nat×HF) (fun i=>[]) (fun i=>i.2) (fun i=>[z1]) (fun i=>i.1≤(List.range ((ba aT (nthI aT.Docs (bq aT doc)) person aW known).length+1)).length∧cg aT doc person aW known=((cg.K1))∧HF.le h1 i.2) ?_ (fun hx1=>?_)
 ·rintro ⟨i1,hh1⟩ ⟨et,hs10,hl1⟩ e
  try dsimp only at et hl1
  refine qT 6 U ?_
  have hs11:cg aT doc person aW known=([],false,0):=hs10
  exact nretH [.slice none 0 0,.bool false,I 0] ⟨none,0,congrArg (fun r:(List Int×Bool×Int)=>(.tuple #[.slice none r.1.length 0,.bool r.2.1,I r.2.2]:Value)) hs11.symm,(by rw [hs11];exact SlC.nil)⟩
 refine j5 (ι:=Nat×HF×List Nat) (fun i=>[(2,I person),(3,I aW),(4,I known),(5,Q b1),(13,I (bq aT doc)),(14,.slice rb1 ((ba aT (nthI aT.Docs (bq aT doc)) person aW known).length) rc1),(15,I (i.1:Int))]) (fun i=>i.2.1) (fun i=>[z1]) (fun i=>(List.range ((ba aT (nthI aT.Docs (bq aT doc)) person aW known).length+1)).drop i.1=i.2.2∧i.1≤(List.range ((ba aT (nthI aT.Docs (bq aT doc)) person aW known).length+1)).length∧cg aT doc person aW known=((cg.L1 aT doc person aW known (cg.K1)) i.2.2 i.1)∧HF.le h1 i.2.1) (fun i=>i.2.2.length) (0,h1,(List.range ((ba aT (nthI aT.Docs (bq aT doc)) person aW known).length+1))) rd sw ⟨U,Nat.zero_le _,hs8,lf⟩ ?_
 rintro ⟨i1,hh1,s1⟩ ⟨hd1,et,hs12,hl1⟩ ag1 e
 try dsimp only at hd1 et hl1
 rcases s1 with _ | ⟨y1,rz1⟩
 ·have eG:decide ((i1:Int)≤(((ba aT (nthI aT.Docs (bq aT doc)) person aW known).length:Nat):Int))=false:=decide_eq_false (by have q_:=of_decide_eq_false (nN hd1);rw [List.length_range] at q_;omega)
  exact qK 6 [] U (ad (v':=.bool false) U (cb eG) (qO 3 U (hx1 (i1,hh1) _ ⟨et,hs12,hl1⟩ trivial)))
 have cw:decide ((i1:Int)≤(((ba aT (nthI aT.Docs (bq aT doc)) person aW known).length:Nat):Int))=true:=decide_eq_true (by have q_:=iY hd1;rw [List.length_range] at q_;omega)
 have dy:i1 < ((ba aT (nthI aT.Docs (bq aT doc)) person aW known).length+1):=by simpa using iY hd1
 have hq:=Hl (p:=ba aT (nthI aT.Docs (bq aT doc)) person aW known) (n:=(i1:Int)) ob (by simp only [decide_eq_false_iff_not] at *;omega)
 refine qK 6 [] U (ad (v':=.bool true) U (cb cw) (qO 9 U (aA (cf call42 (xZ _ _ _ _ (i1:Int) (sl1.mono Rp.aK hl1) ob) U (fun v6 h6 hle6 hp6=>?_)))))
 obtain ⟨rb12,rc12,rfl,sl12⟩:=hp6
 refine qO 6 U ?_
 refine lp2 (aU (ba aT (nthI aT.Docs (bq aT doc)) person aW known) (i1:Int)) (fun i w=>[(2,I person),(3,I aW),(4,I known),(5,Q b1),(13,I (bq aT doc)),(14,.slice rb1 ((ba aT (nthI aT.Docs (bq aT doc)) person aW known).length) rc1),(15,I (i1:Int)),(16,.slice rb12 ((aU (ba aT (nthI aT.Docs (bq aT doc)) person aW known) (i1:Int)).length) rc12),(17,I (i:Int))]) (fun w=>w) (fun w=>[z1]) (fun i w=>HF.le h6 w) (fun s3 i w=>(cg.L3 aT doc person aW known ((cg.L1 aT doc person aW known (cg.K1) rz1 (i1+1)))) s3) h6 sl12.1.1 hs12 lf ?_ ?_ ?_
 ·rintro i3 hh3 sK hs14 hl3 e
  try dsimp only at hl3
  exact dY (qT 2 U (ad (v':=I (((i1+1):Nat):Int)) U (aL ob) (an (ag1 ((i1+1),hh3,rz1) _ (Nat.lt_succ_self _) ⟨lL hd1,iY hd1,hs14,((hl1.t hle6).t hl3)⟩ rd))))
 ·rintro i3 hh3 y3 rz3 hd3 sJ gU xI Ev hs15 hl3 hx3 ag2 e
  try dsimp only at hl3
  have hy:=hq.1 y3 (fq hd3)
  have hil:=iX y3 person
  refine qK 6 [] U (ad (v':=.bool true) U (cb sJ) (qO 6 U (eB ([z1]) mixed kr jn (fun pC _=>tf 0 U U (fun _ _ hj=>jj ty30 U (hj.nth (i:=0) U) U) (qB [1] U (tf 2 U U (fun _ _ hj=>fI ty27 U (hj.nth (i:=0) U) U) (tm 3 U ?_)))))))
  have ho12:0≤((bq aT doc):Int)∧((bq aT doc):Int) < ((aT.Docs).length:Int):=(by have hq:=vC (r:=aT) (no:=doc) ob;simp only [decide_eq_true_eq,decide_eq_false_iff_not,Bool.and_eq_true,Bool.or_eq_true,Bool.not_eq_true',Bool.not_eq_false',Bool.and_eq_false_iff,Bool.or_eq_false_iff,beq_iff_eq,beq_eq_false_iff_ne,bne_iff_ne,bne_eq_false_iff_eq,List.length_append,List.length_cons,List.length_nil,List.length_drop] at *;omega)
  refine gC 4 pC jn pH ty52 (gD.Docs.mono Document.ak (((hle1.t hl1).t hle6).t hl3)).1 ho12 (bT ho12) U U U U kr (fun q14 cs14 A14 ln14 rr14=>?_)
  obtain ⟨r6,rfl,ok6⟩:=rr14
  refine tf 5 U U (fun _ _ hj=>iQ ty52 (A14.mono hj.1) U U) (qA [6,7] U (gC 8 pC jn Bm ty31 (sl12.mono (Rp.j8 Rp.aK) hl3).1 (nthZ gU) (au gU) U U U U kr (fun q15 cs15 A15 ln15 rr15=>?_)))
  obtain ⟨rb16,rc16,rfl,sl16⟩:=rr15
  refine tf 9 U U (fun _ _ hj=>eF ty31 (A15.mono hj.1) U) (qA [10,12,13] U (tn 11 U (cf call43 (nK _ _ _ _ person sl16 ob) U (fun v8 h8 hle8 hp8=>?_))))
  obtain ⟨rb17,rc17,rfl,sl17⟩:=hp8
  refine ⟨⟨hle8,fun _ hp=>List.Sublist.subset (List.Sublist.refl _) hp⟩,kM (K2:=[z1]) hle8 (fun _ hp=>hp) (tn 14 U (eK call35 (zj _ _ _ _ _ _ _ _ aW known (gD.mono ((((hle1.t hl1).t hle6).t hl3).t hle8)) (ok6.mono hle8) sl17 hsm (few9 hsm (by simpa using c1)).vers ob ((few9 hsm (by simpa using c1)).doc (by have hq:=vC (r:=aT) (no:=doc) ob;simp only [decide_eq_true_eq,decide_eq_false_iff_not,Bool.and_eq_true,Bool.or_eq_true,Bool.not_eq_true',Bool.not_eq_false',Bool.and_eq_false_iff,Bool.or_eq_false_iff,beq_iff_eq,beq_eq_false_iff_ne,bne_iff_ne,bne_eq_false_iff_eq,List.length_append,List.length_cons,List.length_nil,List.length_drop] at *;omega))) U (⟨jn,(aI kr (ac hs15 U (fun c15 hs16=>?_) (fun c15 hs17=>?_)))⟩)))⟩
  ·refine qT 4 U (aA (vr Bm ty31 (sl12.mono (Rp.j8 Rp.aK) (hl3.t hle8)).1 (nthZ gU) (au gU) U U U (fun q16 cs16 A16 ln16 rr16=>?_)))
   obtain ⟨rb18,rc18,rfl,sl18⟩:=rr16
   refine cK ty31 A16 U (qO 4 U ?_)
   have hs18:cg aT doc person aW known=(y3,true,0):=hs16
   exact nretH [.slice rb18 y3.length rc18,.bool true,I 0] ⟨rb18,rc18,congrArg (fun r:(List Int×Bool×Int)=>(.tuple #[.slice rb18 r.1.length rc18,.bool r.2.1,I r.2.2]:Value)) hs18.symm,(by rw [hs18];exact sl18)⟩
  exact aE (qT 3 U (ad (v':=I (((i3+1):Nat):Int)) U (aL ob) (an (ag2 h8 hs17 (hl3.t hle8)))))
 rintro i3 hh3 hd3 zX hx e
 exact qK 6 [] U (ad (v':=.bool false) U (cb zX) (qO 3 U (hx _ rd)))
theorem vx (h:HF) (a:List Int) (Jd:Option Addr) (Jc:Nat) (gR:List Int) (sZ:Option Addr) (sY:Nat) (ha:SlC Rp.int h Jd Jc a) (rK:SlC Rp.int h sZ sY gR):Ret prog 16 [.slice Jd a.length Jc,.slice sZ gR.length sY] h (.bool (eT a gR)):=by
 refine sT func16 U ntmps16 U fun X hM hX hF=>?_
 have hs0:eT a gR=eT a gR:=rfl
 refine qK 13 [] U (ac hs0 U (fun c1 hs1=>?_) (fun c1 hs2=>?_))
 ·exact sr (an (nretP [.bool false] (cs hs1)))
 refine qT 6 U ?_
 refine lp0 a (fun i=>[(0,.slice Jd a.length Jc),(1,.slice sZ gR.length sY),(5,I (i:Int))]) ([]) (fun s1 i=>(eT.L1 gR (eT.K1)) s1 i) ha.1.1 hs2 ?_ ?_ ?_
 ·rintro i1 et hs4 e
  exact sr (an (nretP [.bool true] (cs hs4)))
 ·rintro i1 y1 rz1 hd1 cw ao dy fB hs6 hx1 ag1 e
  refine qK 6 [] U (ad (v':=.bool true) U (cb cw) (qO 6 U (eB ([]) mixed kr jn (fun cB _=>qA [0,1] U (cD 2 (enc:=fun y=>[I y]) cB jn ei cQ ty3 ha.1 (nthZ ao) (au ao) U U U U kr (fun q3 A3=>tf 3 U U (fun _ _ hj=>eF ty3 (A3.mono hj.1) U) (qA [4,5] U ?_)))))))
  have ho2:0≤((i1:Int):Int)∧((i1:Int):Int) < ((gR).length:Int):=ob
  refine cD 6 (enc:=fun y=>[I y]) cB jn ei cQ ty3 rK.1 ho2 (bT ho2) U U U U kr (fun q4 A4=>tf 7 U U (fun _ _ hj=>eF ty3 (A4.mono hj.1) U) (qA [8] U (aI kr (ac hs6 U (fun c3 hs7=>?_) (fun c3 hs8=>?_)))))
  ·exact sr (an (nretP [.bool false] (cs hs7)))
  exact aE (qT 3 U (ad (v':=I (((i1+1):Nat):Int)) U (aL ob) (an (ag1 hs8))))
 rintro i1 hd1 eG hx e
 exact qK 6 [] U (ad (v':=.bool false) U (cb eG) (qO 3 U (hx _ rd)))
end Go.Sg
namespace Go.Sg
open Go.Proofs Go.Proofs.Tryz
set_option maxHeartbeats 2000000
theorem law33_AsofNeededSpec_top {w:World} (h:HF) (hp:Pre h [] w) (aT:Register) (dt:dH) (doc:Int) (person:Int) (aW:Int) (known:Int) (gD:Register.ok h aT dt) (hsm:smR aT) (hk:Kinds h):Calls prog 4 [.agg (Register.cells aT dt).toArray,I doc,I person,I aW,I known].toArray w fun e w'=>e=.returned (.bool (jb aT doc person aW known))∧RowKit.Below w.heap.size w w':=by
 refine ET hp HP U ntmps4 U fun X hM hX=>?_
 have hs0:jb aT doc person aW known=jb aT doc person aW known:=rfl
 refine sr (cA (fun b1=>qO 5 U (ah call8 (AZ h  hk) U (qO 2 U (ac hs0 U (fun c1 hs1=>?_) (fun c1 hs2=>?_))))))
 ·exact sr (an (yK [.bool false] HP U hX rd (cs hs1)))
 ·refine qT 4 U (cJ 0 ty30 U U U (ah call9 (CA _ _ _ gD) U (qO 2 U (ce 8 [22,23,24,25,26,27,28,29,30] 22 30 (!(kT aT doc person aW known)) U (fun c2 hk1=>?_) (fun e=>?_)))))
  ·exact cJ 0 ty30 U U U (qO 4 U (ah call13 (wx _ _ _ doc person aW known gD ob) U (qO 2 U (hk1 _ U))))
  refine aM (ac hs2 U (fun c3 hs4=>?_) (fun c3 hs5=>?_))
  ·exact sr (an (yK [.bool true] HP U hX rd (cs hs4)))
  ·refine qT 3 U (cJ 0 ty30 U U U (qO 4 U (aA (cf Di (kx _ _ _ doc person aW known gD ob hk) U (fun v1 h1 hle1 hp1=>?_)))))
   obtain ⟨rb1,rc1,rfl,sl1⟩:=hp1
   refine qO 10 U (cJ 0 ty30 U U U (qO 4 U (aA (cf call15 (yc _ _ _ doc person aW known (gD.mono hle1) ob) U (fun v2 h2 hle2 hp2=>?_)))))
   obtain ⟨rb2,rc2,rfl,sl2⟩:=hp2
   refine qO 12 U (ah call16 (vx _ _ _ _ _ _ _ (sl1.mono Rp.aK hle2) sl2) U (aj (bx 4 [54,55,56,57,58] 54 58 ((dP aT doc person aW known).2.1==(cg aT doc person aW known).2.1) U (fun c4 hk2=>?_) (fun e=>?_))))
   ·exact aj (aj (aA (fu (Ig JV U U) (dZ U (hk2 _ U)))))
   refine aj (bx 4 [59,60,61,62,63] 59 63 ((dP aT doc person aW known).2.2==(cg aT doc person aW known).2.2) U (fun c5 hk3=>?_) (fun e=>?_))
   ·exact aj (qO 3 U (hk3 _ U))
   exact an (yK [.bool (((eT ((dP aT doc person aW known).1) ((cg aT doc person aW known).1))&&((dP aT doc person aW known).2.1==(cg aT doc person aW known).2.1))&&((dP aT doc person aW known).2.2==(cg aT doc person aW known).2.2))] HP U hX rd (cs hs5))
end Go.Sg
namespace Go.Proofs.YtngiefchigcphaaGreatDoor.asofNeededSpec
open Go.ChangeShapes Go.WideShapes Go.ChangeAt Go.RowKit
theorem own:ownKnob Tryz.prog.godebug=none:=by kernel_rfl
theorem laidOut:laidOutB Tryz.prog=true:=by kernel_rfl
theorem contract (H:Type) (enc:TypeId×Value→H) (W:World) (base:Nat) (args:Array Value) (ds gs:List (DataW H)) (before:List MemPlace)
    (hval:∀ (j:Nat) t v,Tryz.f4.params[j]? = some t→args[j]? = some v→Value.okWide Tryz.prog W .any base t v)
    (hW:DataW.Whole enc Tryz.prog Tryz.f4.params.toList Rows.asofNeededSpecSpec.vars false W args.toList ds gs before) (hcond:Rows.uptoSmall H (ds++gs)=true) (hL:laidMetH Tryz.prog Rows.asofNeededSpecUptoRow.laid W):
    Calls Tryz.prog 4 args W fun e W'=>∃ v,e=.returned v∧Rows.asofNeededSpecSpec.post enc Tryz.prog Tryz.f4 false true false false W args v W':=by
  have hW':=hW
  obtain ⟨p,q,hA0,hV,rfl,hfz,hnd⟩:=hW
  have hA:DataW.TrodAll enc Tryz.prog W 0 (fun _=>true) true Tryz.f4.params.toList args.toList ds p:=hA0
  rw [Tryz.params4] at hA hval
  obtain ⟨v0,vs0,d0,ds0,p0,z0,hargs,rfl,rfl,h0,t0⟩:=trodAll_cons hA
  obtain ⟨v1,vs1,d1,ds1,p1,z1,rfl,rfl,rfl,h1,t1⟩:=trodAll_cons t0
  obtain ⟨v2,vs2,d2,ds2,p2,z2,rfl,rfl,rfl,h2,t2⟩:=trodAll_cons t1
  obtain ⟨v3,vs3,d3,ds3,p3,z3,rfl,rfl,rfl,h3,t3⟩:=trodAll_cons t2
  obtain ⟨v4,vs4,d4,ds4,p4,z4,rfl,rfl,rfl,h4,t4⟩:=trodAll_cons t3
  obtain ⟨rfl,rfl,rfl⟩:=trodAll_nil t4
  obtain rfl:args=#[v0,v1,v2,v3,v4]:=by cases args;simp_all
  obtain ⟨rfl,rfl⟩:=trodVars_none hV
  clear hA0 hA
  have h0k:=h0
  have h1k:=h1
  have h2k:=h2
  have h3k:=h3
  have h4k:=h4
  simp only [List.append_nil] at hW' hcond
  have hB:Rows.uptoBulkAll [d0,d1,d2,d3,d4]≤1048576:=of_decide_eq_true hcond
  obtain ⟨a0,rfl,_⟩:=okWide_struct Tryz.underlying30 (hval 0 30 v0 rfl rfl)
  obtain ⟨f0,g0⟩:=h0
  obtain ⟨x0,⟨r0,e0,o0⟩,q0⟩:=Sg.opn_Register f0 _ _ _ g0
  obtain rfl:a0=(Sg.Register.cells x0 r0).toArray:=by
    apply Array.toList_inj.1;exact e0
  obtain ⟨n1,rfl⟩:=okWide_int Tryz.underlying3 (hval 1 3 v1 rfl rfl)
  obtain ⟨n2,rfl⟩:=okWide_int Tryz.underlying3 (hval 2 3 v2 rfl rfl)
  obtain ⟨n3,rfl⟩:=okWide_int Tryz.underlying3 (hval 3 3 v3 rfl rfl)
  obtain ⟨n4,rfl⟩:=okWide_int Tryz.underlying3 (hval 4 3 v4 rfl rfl)
  simp only [Rows.uptoBulkAll] at hB
  have z0b:=Sg.bulk_one d0
  have z1b:=Sg.bulk_one d1
  have z2b:=Sg.bulk_one d2
  have z3b:=Sg.bulk_one d3
  have z4b:=Sg.bulk_one d4
  have walk:=Sg.law33_AsofNeededSpec_top (Sg.hOf W) (Sg.pre_hOf W) x0 r0 n1 n2 n3 n4 o0 (Sg.smR_of (by omega)) (Sg.kinds_of hL)
  rw [Sg.neededSpec_true (Sg.smR_of (by omega))] at walk
  refine walk.mono fun e W' ⟨he,hb⟩=>?_
  subst he
  exact ⟨_,rfl,Sg.post_below (pa:=p0++(p1++(p2++(p3++(p4++([])))))) (pv:=[]) hW' (fun _ _ _=>trodAll_cons_mk (shut_bool Tryz.underlying4 _) trodAll_mk0) (fun sp hsp=>(trodAll_cons_mk (Sg.stays laidOut (by kernel_rfl) (by kernel_rfl) h0k hb hW'.lt (fun x hx=>by simp [hx]) hsp) (trodAll_cons_mk (Sg.stays laidOut (by kernel_rfl) (by kernel_rfl) h1k hb hW'.lt (fun x hx=>by simp [hx]) hsp) (trodAll_cons_mk (Sg.stays laidOut (by kernel_rfl) (by kernel_rfl) h2k hb hW'.lt (fun x hx=>by simp [hx]) hsp) (trodAll_cons_mk (Sg.stays laidOut (by kernel_rfl) (by kernel_rfl) h3k hb hW'.lt (fun x hx=>by simp [hx]) hsp) (trodAll_cons_mk (Sg.stays laidOut (by kernel_rfl) (by kernel_rfl) h4k hb hW'.lt (fun x hx=>by simp [hx]) hsp) trodAll_mk0)))))) (fun _ _=>rfl) (by simp) hb (ok_one (by kernel_rfl) rfl (okWide_bool_mk Tryz.underlying4 _))⟩
end Go.Proofs.YtngiefchigcphaaGreatDoor.asofNeededSpec
