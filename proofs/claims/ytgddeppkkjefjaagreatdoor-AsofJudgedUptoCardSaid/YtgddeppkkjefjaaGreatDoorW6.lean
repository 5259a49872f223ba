import Derived.WalkKit
import Derived.Test.YtgddeppkkjefjaaGreatDoorW5
/- A part of the proof of AsofJudged. -/
set_option linter.unusedVariables false
set_option linter.unusedSimpArgs false
set_option maxRecDepth 100000
open List renaming length_cons→zA,not_mem_nil→jA,mem_cons_of_mem→vA,length_append→kA,mem_cons_self→zB,length_nil→vB,toArray→kB,mem_cons→qC,mem_singleton→xC,append_assoc→qE,getElem?_eq_getElem→vF,map_cons→kG,getElem?_eq_none→xJ,perm_append_comm→xL,mem_map_of_mem→zM,nodup_cons→xN,mem_append_right→jN,ext_getElem?→Ta
open Go.Value renaming int→xB
open Go.Sg.Rp renaming int→zC,aO→zH,bool→T0
open Go.Sg.Expr renaming cells→jC,ok→qG,mk→vG,iW→kV
open Bool renaming or_eq_true→xD
open Go.Sg.Interest renaming cells→jD,rp→vL,mk→zW,av→R7
open Go.Sg.Policy renaming cells→kD,mk→qM,ok→kN
open Go.IntKind renaming wrap→zE
open Go.Sg.OSeat renaming cells→kE,enc→R4,rp→T3
open Go.Sg.HF renaming le_trans→qF,le_refl→jH,le→kK
open Go.Sg.SlC renaming nil→zF
open Go.Sg.Appoint renaming mk→kF,cells→xP,rp→kR,av→Se
open Nat renaming le_refl→xG,lt_or_ge→vK
open Go.Obj renaming cells→qJ
open Go.Sg.Version renaming rp→jQ,cells→kS,av→vV,mk→Sv
open Array renaming getElem?_eq_getElem→RY,getElem?_modify→Ud
open Go.Sg.Holder renaming cells→RZ,av→SJ,rp→S1,mk→UA
open Option renaming getD_some→Tg

namespace Go.Sg
variable {q:Int->Bool}
section
open Go.Proofs Go.Proofs.Tryz
set_option maxHeartbeats 2000000
theorem wy(h:HF)(l:List Version)(fq:Option Addr)(fp:Nat)(old:Bool)(hl:SlC jQ h fq fp l)(hne:0<l.length):jY prog 188 [.slice fq l.length fp,.bool old] h (λv h'=>∃(rb0:Option Addr)(rc0:Nat),v=.slice rb0 (jd l old).length rc0/\SlC jQ h' rb0 rc0 (jd l old)):=by
 refine sT func188 U ntmps188 U λX hM hX hF=>?_
 have hs0:=@rfl _ (jd l old)
 have hbl:=hl.1.1
 refine qK 9 [] U (iq (v':=I ((l.length:Int)-1)) U (jc ob) (aw (NE wC ty96 hl.1 hl.2 ob U U U (λsb1 sc1 sl1=>an ?_))))
 have hs1:jd l old=(l.drop ((((l.length:Int)-1):Int)).toNat):=hs0
 exact nretH [.slice sb1 ((l.drop ((((l.length:Int)-1):Int)).toNat).length) sc1] (hs1▸⟨sb1,sc1,U,sl1⟩)
theorem rV(h:HF)   : jY prog 120 [] h (λv h'=>∃(rk0:Nat),v=.map (some rk0)/\re (xB .i64) VFn h' rk0 (lQ)):=by
 refine sT func120 U ntmps120 U λX hM hX hF=>?_
 have hs0:=@rfl _ (lQ)
 refine qT 10 U (aw (na (λb1=>aw (jy 0 (k:=1) (x:=(Value.func (.func 187) #[] #[])) In (dG kz) U (ia.nil (enc:=(xB .i64)) (V:=VFn) (h:=h)) U U U (λmo1 hm1=>aw (jy 0 (k:=2) (x:=(Value.func (.func 188) #[] #[])) In (dG kz) U hm1 U U U (λmo2 hm2=>ao (aw (jy 0 (k:=3) (x:=(Value.func (.func 186) #[] #[])) In (dG kz) U hm2 U U U (λmo3 hm3=>ao (aw (jy 0 (k:=4) (x:=(Value.func (.func 186) #[] #[])) In (dG kz) U hm3 U U U (λmo4 hm4=>qO 3 U (eO 0 U hM (λh1 hle1 hb1=>?_)))))))))))))))
 have mc1:re (xB .i64) VFn h1 b1 (mput (mput (mput (mput ([]) 1 (Value.func (.func 187) #[] #[])) 2 (Value.func (.func 188) #[] #[])) 3 (Value.func (.func 186) #[] #[])) 4 (Value.func (.func 186) #[] #[])):=⟨_,hb1,hm4.mono VFn.mono hle1⟩
 have hs1:lQ=(mput (mput (mput (mput ([]) 1 (Value.func (.func 187) #[] #[])) 2 (Value.func (.func 188) #[] #[])) 3 (Value.func (.func 186) #[] #[])) 4 (Value.func (.func 186) #[] #[])):=hs0
 exact nretH [.map (some b1)] (hs1▸⟨b1,U,mc1⟩)
theorem Jg(mode:Int)(l:List Version)(old:Bool):(judgesP mode l old).length<=l.length:=by
 unfold judgesP je iI jd
 cases mode==1<;>cases mode==2<;>cases old<;>simp<;>omega
theorem Je(h:HF)(mode:Int)(hm:1<=mode/\mode<=4)(l:List Version)(fq:Option Addr)(fp:Nat)(old:Bool)(hl:SlC jQ h fq fp l)(hne:0<l.length):
  Qb prog (mgetD lQ mode Value.nilFunc) [.slice fq l.length fp,.bool old] h (λv h'=>∃(rb0:Option Addr)(rc0:Nat),v=.slice rb0 (judgesP mode l old).length rc0/\SlC jQ h' rb0 rc0 (judgesP mode l old)):=by
 have:mode=1\/mode=2\/mode=3\/mode=4:=by omega
 rcases this with rfl|rfl|rfl|rfl
 .exact lV (cap:=[]) (args:=[.slice fq l.length fp,.bool old]) call187 (wz h l fq fp old hl hne)
 .exact lV (cap:=[]) (args:=[.slice fq l.length fp,.bool old]) call188 (wy h l fq fp old hl hne)
 .exact lV (cap:=[]) (args:=[.slice fq l.length fp,.bool old]) call186 (qj h l fq fp old hl)
 exact lV (cap:=[]) (args:=[.slice fq l.length fp,.bool old]) call186 (qj h l fq fp old hl)
theorem Ah(h:HF)(mode:Int)(permits:List Bool)(oO:Option Addr)(oN:Nat)(hpermits:SlC T0 h oO oN permits):Ret prog 197 [I mode,.slice oO permits.length oN] h (I (gj mode permits)):=by
 refine sT func197 U ntmps197 U λX hM hX hF=>?_
 have hs0:=@rfl _ (gj mode permits)
 refine qT 7 U (aw (cJ call120 (rV h) U (λv1 h1 hle1 hp1=>?_)))
 obtain⟨rk1,rfl,mo1⟩:=hp1
 refine ao ?_
 obtain⟨o1,hb1,hm1⟩:=mo1
 refine aw (tc (k:=mode) In (dG kz) hb1 hm1 (e8 zv192) (show VFn _ (.nilFunc) Value.nilFunc from U) U U (λv2 hv1=>?_))
 obtain rfl:=hv1
 refine qO 11 U (ae hs0 U (λc1 hs1=>?_) (λc1 hs2=>?_))
 .exact sr (an (nretP [I 270] (ci hs1)))
 refine qK 8 [] U (ae hs2 U (λc2 hs4=>?_) (λc2 hs5=>?_))
 .have c2p:=of_decide_eq_true c2
  exact sr (an (nretP [I 1] (ci hs4)))
 have c2p:=of_decide_eq_false c2
 exact aQ (qT 4 U (nretP [I 0] (ci hs5)))
theorem tT(h:HF)(s:List Bool)(pU:Option Addr)(pI:Nat)(f:(Bool->Bool))(f_v:Value)(hs:SlC T0 h pU pI s)(hf:∀(h':HF)(cj:Bool),kK h h'->sZ prog f_v [.bool cj] h' [] (.bool (f cj))):Ret prog 247 [.slice pU s.length pI,f_v] h (I (ey s f)):=by
 refine sT func247 U ntmps247 U λX hM hX hF=>?_
 have hs0:=@rfl _ (ey s f)
 refine qK 11 [] U ?_
 refine lp0 s (λi=>[(0,.slice pU s.length pI),(1,f_v),(7,I (s.length:Int)),(8,I (i:Int))]) ([]) (λs1 i=>(ey.L1 f (ey.K1)) s1 i) hs.1.1 hs0 ?_ ?_
 .rintro i1 fB hs1 e
  exact sr (an (nretP [I (-1)] (ci hs1)))
 rintro i1 y1 rz1 hd1 du bo eA gD hs3 hx1 ag1 e
 refine sr (tO du U (qO 16 U (aw (iF (λy=>[.bool y]) yD ty4 hs.1 bo U U U (λq2 A2=>de ty4 A2 U (aw (lX (v:=.bool (f y1)) [] (List.nil_sublist _) (hf h y1 lf) U U (aH (ae hs3 U (λc2 hs4=>?_) (λc2 hs5=>?_))))))))))
 .exact sr (qO 3 U (nretP [I (i1:Int)] (ci hs4)))
 exact aQ (qT 2 U (oi i1 U (qO 2 U (ag1 hs5))))
theorem pK(h:HF)(l:List Bool)(fq:Option Addr)(fp:Nat)(ok:(Bool->Bool))(ok_v:Value)(hl:SlC T0 h fq fp l)(hok:∀(h':HF)(cj:Bool),kK h h'->sZ prog ok_v [.bool cj] h' [] (.bool (ok cj))):Ret prog 198 [.slice fq l.length fp,ok_v] h (I (cM l ok)):=by
 refine sT func198 U ntmps198 U λX hM hX hF=>?_
 have hs0:=@rfl _ (cM l ok)
 exact sr (qO 6 U (ai call247 (tT _ _ _ _ ok ok_v hl hok) U (an (nretP [I (ey l ok)] (ci hs0)))))
theorem wB(h:HF)(Fm:Bool)  : Ret prog 199 [.bool Fm] h (.bool (eI Fm)):=by
 refine sT func199 U ntmps199 U λX hM hX hF=>?_
 have hs0:=@rfl _ (eI Fm)
 exact sr (qO 7 U (nretP [.bool Fm] (cs hs0)))
theorem wA(h:HF)(Fm:Bool)  : Ret prog 200 [.bool Fm] h (.bool (fM Fm)):=by
 refine sT func200 U ntmps200 U λX hM hX hF=>?_
 have hs0:=@rfl _ (fM Fm)
 exact sr (qO 8 U (nretP [.bool (!Fm)] (cs hs0)))
theorem yY(h:HF)(mode:Int)(permits:List Bool)(oO:Option Addr)(oN:Nat)(hpermits:SlC T0 h oO oN permits)(hsz0:permits.length<=2000000):jY prog 125 [I mode,.slice oO permits.length oN] h (λv h'=>∃(rb0:Option Addr)(rc0:Nat),v=.tuple #[.slice rb0 ((aX mode permits).1).length rc0,.bool ((aX mode permits).2.1),I ((aX mode permits).2.2)]/\SlC zC h' rb0 rc0 ((aX mode permits).1)):=by
 refine sT func125 U ntmps125 U λX hM hX hF=>?_
 have hs0:=@rfl _ (aX mode permits)
 refine qT 11 U (ai call197 (Ah _ mode _ _ _ hpermits) U (qO 7 U (ae hs0 U (λc1 hs1=>?_) (λc1 hs2=>?_))))
 .refine qT 7 U ?_
  have hs3:aX mode permits=([],false,(gj mode permits)):=hs1
  exact nretH [.slice none 0 0,.bool false,I (gj mode permits)] (hs3▸⟨none,0,U,zF⟩)
 refine qT 4 U (ai call198 (pK _ _ _ _ eI (.func (.func 199) #[] #[]) hpermits (λh' cj hle=>im call199 (wB h' cj))) U (qO 5 U (ai call198 (pK _ _ _ _ fM (.func (.func 200) #[] #[]) hpermits (λh' cj hle=>im call200 (wA h' cj))) U (qO 9 U (bD 3 [23,24,25,26] 23 26 (decide (0<=(cM permits eI))) U (λc2 hk1=>?_) (λe=>?_))))))
 .exact ao (qO 2 U (hk1 _ U))
 refine an (ae hs2 U (λc3 hs4=>?_) (λc3 hs5=>?_))
 .refine qT 3 U (aw (bB (cells:=[I (cM permits eI)]) eG ty3 zc3 U U kr (λb1=>qO 4 U (eO 0 U hM (λh1 hle1 hb1=>?_)))))
  have sl1:SlC zC h1 (some ⟨b1,0,none⟩) 1 ([(cM permits eI)]):=bP.slB0 (T:=3) (fz:=(0,0)) ((show bP zC h [I (cM permits eI)] ([(cM permits eI)])from⟨[I (cM permits eI)],[],rfl,rfl,rfl,rfl⟩).mono zH hle1) hb1
  have hs6:aX mode permits=([(cM permits eI)],true,0):=hs4
  exact nretH [.slice (some ⟨b1,0,none⟩) 1 1,.bool true,I 0] (hs6▸⟨(some ⟨b1,0,none⟩),1,U,sl1⟩)
 refine qT 5 U (bD 3 [32,33,34,35] 32 35 (decide (0<=(cM permits fM))) U (λc4 hk2=>?_) (λe=>?_))
 .exact ao (qO 2 U (hk2 _ U))
 refine an (ae hs5 U (λc5 hs7=>?_) (λc5 hs8=>?_))
 .refine qT 3 U (aw (bB (cells:=[I (cM permits fM)]) eG ty3 zc3 U U kr (λb2=>qO 4 U (eO 0 U hM (λh2 hle2 hb2=>?_)))))
  have sl2:SlC zC h2 (some ⟨b2,0,none⟩) 1 ([(cM permits fM)]):=bP.slB0 (T:=3) (fz:=(0,0)) ((show bP zC h [I (cM permits fM)] ([(cM permits fM)])from⟨[I (cM permits fM)],[],rfl,rfl,rfl,rfl⟩).mono zH hle2) hb2
  have hs9:aX mode permits=([(cM permits fM)],false,0):=hs7
  exact nretH [.slice (some ⟨b2,0,none⟩) 1 1,.bool false,I 0] (hs9▸⟨(some ⟨b2,0,none⟩),1,U,sl2⟩)
 refine qT 6 U (ae hs8 U (λc6 hs10=>?_) (λc6 hs11=>?_))
 .refine qK 13 [] U ?_
  refine lp2 permits (λi w=>[(4,.slice w.2.1 w.1.length w.2.2.1),(5,.bool (decide (0<=(cM permits eI)))),(55,I (permits.length:Int)),(56,I (i:Int))]) (λ_=>h) (λw=>w.2.2.2) (λi w=>dA zC 3 h w.1 w.2.1 w.2.2.1 w.2.2.2/\w.1.length<=0+i) (λs1 i w=>(aX.L1 (aX.K1 permits)) s1 i w.1) ([],none,0,[]) hpermits.1.1 hs10 ⟨dA.nil,lo⟩ ?_ ?_
  .rintro i1 ⟨sN,CR,CQ,CT⟩ fB hs12 ⟨vI,E6⟩ e
   try dsimp only at vI E6
   refine qT 8 U (fW zH ([]) CT ([]) ap hM vI (λh4 hle4 sl4=>?_))
   have hs13:aX mode permits=(sN,decide (0<=(cM permits eI)),0):=hs12
   exact nretH [.slice CR sN.length CQ,.bool (decide (0<=(cM permits eI))),I 0] (hs13▸⟨CR,CQ,U,sl4⟩)
  rintro i1 ⟨sN,CR,CQ,CT⟩ y1 rz1 hd1 du bo eA gD hs14 ⟨vI,E6⟩ hx1 ag1 e
  try dsimp only at vI E6
  exact sr (tO du U (qO 14 U (aw (bB (cells:=[I (i1:Int)]) eG ty3 zc3 U U kr (λb4=>aw (eo Rp.kZ ([(b4,O [I (i1:Int)] 3)]) ([]) (λG=>[(b4,O [I (i1:Int)] 3)]++G) ap (λ_=>ap) eG ty3 zc3 U bytes3 vI U U (fd 0 U (cE (i1:Int) U U)) lo lo (λob2 oc2 G2 gr2=>qO 4 U (oi i1 U (qO 2 U (bj (L':=G2) js (ag1 ((sN++[(i1:Int)]),ob2,oc2,G2) hs14 ⟨gr2,lo⟩)))))))))))
 refine qT 6 U (ae hs11 U (λc7 hs15=>?_) (λc7 hs16=>?_))
 .refine qK 5 [] U (bD 4 [49,50,51,52,53] 49 53 (nthI permits 0) U (λc8 hk3=>?_) (λe=>?_))
  .refine ao ?_
   have ho1:0<=(0:Int)/\(0:Int)<((permits).length:Int):=ob
   exact aw (oY (enc:=λy=>[.bool y]) ei yD ty4 hpermits.1 ho1 (dy ho1) U U U (λq1 A1=>de ty4 A1 U (eM U (hk3 _ U))))
  refine qL 10 [] U ?_
  refine lp2 permits (λi w=>[(4,.slice w.2.1 w.1.length w.2.2.1),(5,.bool (((permits.length:Int)==1)&&(nthI permits 0))),(55,I (permits.length:Int)),(56,I (i:Int))]) (λ_=>h) (λw=>w.2.2.2) (λi w=>dA zC 3 h w.1 w.2.1 w.2.2.1 w.2.2.2/\w.1.length<=0+i) (λs2 i w=>(aX.L2 (aX.K2 permits)) s2 i w.1) ([],none,0,[]) hpermits.1.1 hs15 ⟨dA.nil,lo⟩ ?_ ?_
  .rintro i2 ⟨FQ,Ok,Oj,P3⟩ BZ hs17 ⟨Jt,Oi⟩ e
   try dsimp only at Jt Oi
   refine qT 8 U (fW zH ([]) P3 ([]) ap hM Jt (λh6 hle6 sl6=>?_))
   have hs18:aX mode permits=(FQ,(((permits.length:Int)==1)&&(nthI permits 0)),0):=hs17
   exact nretH [.slice Ok FQ.length Oj,.bool (((permits.length:Int)==1)&&(nthI permits 0)),I 0] (hs18▸⟨Ok,Oj,U,sl6⟩)
  rintro i2 ⟨FQ,Ok,Oj,P3⟩ y2 rz2 hd2 wk sF EP Kw hs19 ⟨Jt,Oi⟩ hx2 ag2 e
  try dsimp only at Jt Oi
  exact sr (tO wk U (qO 14 U (aw (bB (cells:=[I (i2:Int)]) eG ty3 zc3 U U kr (λb6=>aw (eo Rp.kZ ([(b6,O [I (i2:Int)] 3)]) ([]) (λG=>[(b6,O [I (i2:Int)] 3)]++G) ap (λ_=>ap) eG ty3 zc3 U bytes3 Jt U U (fd 0 U (cE (i2:Int) U U)) lo lo (λob4 oc4 G4 gr4=>qO 4 U (oi i2 U (qO 2 U (bj (L':=G4) js (ag2 ((FQ++[(i2:Int)]),ob4,oc4,G4) hs19 ⟨gr4,lo⟩)))))))))))
 refine qK 9 [] U ?_
 refine lp2 permits (λi w=>[(4,.slice w.2.1 w.1.length w.2.2.1),(5,.bool false),(55,I (permits.length:Int)),(56,I (i:Int))]) (λ_=>h) (λw=>w.2.2.2) (λi w=>dA zC 3 h w.1 w.2.1 w.2.2.1 w.2.2.2/\w.1.length<=0+i) (λs3 i w=>(aX.L3 (aX.K3)) s3 i w.1) ([],none,0,[]) hpermits.1.1 hs16 ⟨dA.nil,lo⟩ ?_ ?_
 .rintro i3 ⟨FP,Oh,Og,P2⟩ QG hs20 ⟨Jr,Oe⟩ e
  try dsimp only at Jr Oe
  refine qT 8 U (fW zH ([]) P2 ([]) ap hM Jr (λh8 hle8 sl8=>?_))
  have hs21:aX mode permits=(FP,false,0):=hs20
  exact nretH [.slice Oh FP.length Og,.bool false,I 0] (hs21▸⟨Oh,Og,U,sl8⟩)
 rintro i3 ⟨FP,Oh,Og,P2⟩ y3 rz3 hd3 HN CM LD PA hs22 ⟨Jr,Oe⟩ hx3 ag3 e
 try dsimp only at Jr Oe
 exact sr (tO HN U (qO 14 U (aw (bB (cells:=[I (i3:Int)]) eG ty3 zc3 U U kr (λb8=>aw (eo Rp.kZ ([(b8,O [I (i3:Int)] 3)]) ([]) (λG=>[(b8,O [I (i3:Int)] 3)]++G) ap (λ_=>ap) eG ty3 zc3 U bytes3 Jr U U (fd 0 U (cE (i3:Int) U U)) lo lo (λob6 oc6 G6 gr6=>qO 4 U (oi i3 U (qO 2 U (bj (L':=G6) js (ag3 ((FP++[(i3:Int)]),ob6,oc6,G6) hs22 ⟨gr6,lo⟩)))))))))))
theorem rX(h:HF)(mode:Int)(permits:List Bool)(oO:Option Addr)(oN:Nat)(hpermits:SlC T0 h oO oN permits)(hsz0:permits.length<=2000000):Ret prog 75 [I mode,.slice oO permits.length oN] h (.tuple #[.bool ((fP mode permits).1),I ((fP mode permits).2)]):=by
 refine sT func75 U ntmps75 U λX hM hX hF=>?_
 have hs0:=@rfl _ (fP mode permits)
 refine qT 9 U (aw (cJ call125 (yY _ mode _ _ _ hpermits ob) U (λv1 h1 hle1 hp1=>?_)))
 obtain⟨rb1,rc1,rfl,sl1⟩:=hp1
 refine qO 14 U ?_
 have hs1:fP mode permits=((aX mode permits).2.1,(aX mode permits).2.2):=hs0
 exact nretP [.bool ((aX mode permits).2.1),I ((aX mode permits).2.2)] (hs1▸U)
theorem xd(h:HF)(l:List Interest)(fq:Option Addr)(fp:Nat)(person:Int)(parties:List Int)(lF:Option Addr)(lE:Nat)(fa:Int)(known:Int)(hl:SlC vL h fq fp l)(hparties:SlC zC h lF lE parties):Ret prog 128 [.slice fq l.length fp,I person,.slice lF parties.length lE,I fa,I known] h (I (cq l person parties fa known)):=by
 refine sT func128 U ntmps128 U λX hM hX hF=>?_
 have hs0:=@rfl _ (cq l person parties fa known)
 refine qT 8 U (ai call50 (sE _ _ _ _ hl) U (qO 7 U (ae hs0 U (λc1 hs1=>?_) (λc1 hs2=>?_))))
 .exact sr (qO 3 U (nretP [I (dh l)] (ci hs1)))
 refine qK 12 [] U ?_
 refine lp1 parties (λi w=>[(1,I person),(2,.slice lF parties.length lE),(3,I fa),(4,I known),(12,I w),(20,.slice lF parties.length lE),(21,I (parties.length:Int)),(22,I (i:Int))]) ([]) (λs1 i w=>(cq.L1 (cq.K1 person parties fa known)) s1 w) (-1) hparties.1.1 hs2 ?_ ?_
 .rintro i1 GS fB hs4 e
  refine qT 4 U (ai Cl (gQ h person 64) U (qO 2 U (cn 4 [38,39,40,41,42] 38 42 (decide (16<(parties.length:Int))) U (λc2 hk1=>?_) (λe=>?_))))
  .exact qL 4 [] U (hk1 _ U)
  refine ao (cn 4 [43,44,45,46,47] 43 47 (!(bA fa 1099511627776)) U (λc3 hk2=>?_) (λe=>?_))
  .exact ao (ai Cl (gQ h fa 1099511627776) U (qO 2 U (hk2 _ U)))
  refine ao (cn 4 [48,49,50,51,52] 48 52 (!(bA known 1099511627776)) U (λc4 hk3=>?_) (λe=>?_))
  .exact ao (ai Cl (gQ h known 1099511627776) U (qO 2 U (hk3 _ U)))
  refine aH (ae hs4 U (λc5 hs5=>?_) (λc5 hs6=>?_))
  .exact sr (an (nretP [I 1] (ci hs5)))
  exact aQ (qT 4 U (nretP [I 0] (ci hs6)))
 rintro i1 GS y1 rz1 hd1 du bo eA gD hs9 hx1 ag1 e
 refine sr (tO du U (qO 8 U (aw (iF (λy=>[I y]) eG ty3 hparties.1 bo U U U (λq2 A2=>de ty3 A2 U (qO 9 U (cn 3 [29,30,31,32] 29 32 (decide (1048576<y1)) U (λc6 hk4=>?_) (λe=>?_))))))))
 .exact ao (qO 2 U (hk4 _ U))
 refine aH (ae hs9 U (λc7 hs10=>?_) (λc7 hs11=>?_))
 .exact sr (an (nretP [I 1] (ci hs10)))
 exact aQ (qT 6 U (oi i1 U (qO 2 U (ag1 y1 hs11))))
theorem ux(h:HF)(v0:List Interest)(tP:Option Addr)(tN:Nat)(v0_q:Addr)(v1:List (dL×Interest))(MV:Nat)(v1_q:Addr)(hv0:SlC vL h tP tN v0)(av0:At h v0_q [.slice tP v0.length tN])(hv1:re dL.enc (iY vL) h MV v1)(av1:At h v1_q [.map (some MV)]):Itr prog (.func (.func 202) #[] (kB [.pointer (some v0_q),.pointer (some v1_q)])) ve (bT v0 v1) h:=by
 refine rl call202 ?_
 intro yf ya yb C Sp Pn h1 A hle m1 m2 m3 hC hy
 refine iN Im U ntmps202 U λX hXM hX=>?_
 have hs0:bT v0 v1=[]++bT v0 v1:=rfl
 refine sr (de ty24 (av0.mono hle) U (qL 3 [] U ?_))
 refine lp2 v0 (λi w=>[(0,.func yf ya yb),(2,.pointer (some v1_q)),(6,.slice tP v0.length tN),(7,I (v0.length:Int)),(8,I (i:Int))]) (λw=>w.2.2) (λw=>w.2.1) (λi w=>C w.1 w.2.2 w.2.1/\kK h1 w.2.2) (λs1 i w=>w.1++(bT.L1 v1 (bT.K1)) s1) ([],A,h1) ((hv0.mono R7 hle).1.1) hs0 ⟨hC,lf⟩ ?_ ?_
 .rintro i1 ⟨dn1,A1_,hh1⟩ fB hs1 ⟨hC1_,hl1⟩ e
  refine dQ ?_
  have hs2:bT v0 v1=dn1:=hs1.trans (List.append_nil _)
  exact rm [] (A:=A1_) Im U (List.Sublist.refl _) (.inl (hs2▸hC1_))
 rintro i1 ⟨dn1,A1_,hh1⟩ y1 rz1 hd1 du bo eA gD hs3 ⟨hC1_,hl1⟩ hx1 ag1 e
 refine sr (tO du U (qO 8 U (aw (iF jD ul ty54 (hv0.mono R7 (hle.t hl1)).1 bo U U U (λq2 A2=>dl ty54 A2 U U (aU zc54 (λb2=>aR 0 ty54 U U U U U U (gS (L':=[(b2,O (jD y1) 54)]++(A1_)) U (qO 2 U ?_)))))))))
 let z1:Nat×Obj:=(b2,O (jD y1) 54)
 refine eQ ([z1]) mixed kr jn (λeF _=>?_)
 refine qB [0] U (tf 1 U U (rj 0 ty4 U U U) (qA [2,3] U ?_))
 refine dt 15 U (λc1=>?_) (λc1=>?_)
 .refine tf 4 U U (rh ty256 (av1.mono (hle.t hl1)) U) (qB [5] U (tf 6 U U (rj 0 ty3 U U U) (qB [7] U (tf 8 U U (rj 0 ty3 U U U) (qB [9] U (tf 10 U U (rj 0 ty4 U U U) (tf 13 U U (λ_ _ hj=>jZ ty54 U (hj.nth (i:=0) U) U) (tn 11 U (eY (cells:=[I y1.Person,I y1.Party,.bool y1.Of]) (places:=[(0,1),(1,1),(2,1)]) K9 zc258 kr kr (⟨jn,tn 12 U ?_⟩))))))))))
  obtain⟨o2,hb2,hm2⟩:=(hv1.mono (iY.mono R7) (hle.t hl1))
  refine nN (k:=(dL.mk y1.Person y1.Party y1.Of)) underlying256 ue hb2 hm2 (e8 zv54) (show(iY vL) _ (.agg (kB [I 0,I 0,I 0,I 0,I 0,.bool false,.bool false])) (zW 0 0 0 0 0 false false)from⟨_,U,U⟩) U U (λv2 hv2=>?_)
  obtain⟨_,rfl,rfl⟩:=hv2
  refine⟨jn,(tf 14 U U (λ_ _ _=>Ls (HV (mgetD v1 (dL.mk y1.Person y1.Party y1.Of) (zW 0 0 0 0 0 false false)) y1) eqg54 U U) (tf 15 U U (λ_ _ _=>nQ U (cb (show(decide ((mgetD v1 (dL.mk y1.Person y1.Party y1.Of) (zW 0 0 0 0 0 false false))=y1))=((!y1.Gone)&&(decide ((mgetD v1 (dL.mk y1.Person y1.Party y1.Of) (zW 0 0 0 0 0 false false))=y1)))from by first|(rw[c1];rfl)|(rw[c1];rfl)|simp[c1]))) (tm 16 U ?_)))⟩
  refine dt 28 U (λc2=>?_) (λc2=>?_)
  .have ct1:=c2
   have hs4:=hs3.trans (congrArg (dn1++·) (bt ct1))
   refine tm 17 U (tf 18 U U (λ_ _ hj=>jZ ty54 U (hj.nth (i:=0) U) U) ?_)
   have hx1:bT v0 v1=dn1++(y1::(bT.L1 v1 (bT.K1) rz1)):=hs4
   refine tn 19 U (j2 ([z1]) A1_ ap (hy dn1 y1 _ _ _ _ hx1 hl1 hC1_ U) U U (λh2 A3 hle1 hC1=>?_) (λh3 A4 hle2 hS1=>?_) (λch1 h4 A5 hle3 hP1 e=>gk (mC [] (A:=A5) Im (List.sublist_append_right _ _) hP1)))
   .have hs5:bT v0 v1=(dn1++[y1])++((bT.L1 v1 (bT.K1) rz1)):=hx1.trans ap
    exact⟨⟨hle1,λ_ hp=>List.Sublist.subset js hp⟩,nr (K2:=[z1]) hle1 (λ_ hp=>hp) (qA [20,21] U (aN kr (qT 4 U (oi i1 U (qO 2 U (bj (L':=A3) js (ag1 ((dn1++[y1]),A3,h2) hs5 ⟨hC1,(hl1.t hle1)⟩)))))))⟩
   exact⟨⟨hle2,λ_ hp=>List.Sublist.subset js hp⟩,nr (K2:=[z1]) hle2 (λ_ hp=>hp) (qA [20,21] U (aN kr (kY U (dQ (mi [] (A:=A4) Im U js (.inr hS1))))))⟩
  have ct2:=c2
  have hs6:=hs3.trans (congrArg (dn1++·) (bf ct2))
  exact tk 17 U U (qR 18 4 U (aN kr (qT 4 U (oi i1 U (qO 2 U (bj (L':=A1_) js (ag1 (dn1,A1_,hh1) hs6 ⟨hC1_,hl1⟩)))))))
 refine qR 4 11 U (tf 15 U U (λ_ _ _=>nQ U (cb (show false=((!y1.Gone)&&(decide ((mgetD v1 (dL.mk y1.Person y1.Party y1.Of) (zW 0 0 0 0 0 false false))=y1)))from by first|(rw[c1];rfl)|(rw[c1];rfl)|simp[c1]))) (tm 16 U ?_))
 refine dt 28 U (λc3=>?_) (λc3=>?_)
 .have ct3:=c3
  have hs7:=hs3.trans (congrArg (dn1++·) (bt ct3))
  refine tm 17 U (tf 18 U U (λ_ _ hj=>jZ ty54 U (hj.nth (i:=0) U) U) ?_)
  have hx2:bT v0 v1=dn1++(y1::(bT.L1 v1 (bT.K1) rz1)):=hs7
  refine tn 19 U (j2 ([z1]) A1_ ap (hy dn1 y1 _ _ _ _ hx2 hl1 hC1_ U) U U (λh5 A6 hle4 hC2=>?_) (λh6 A7 hle5 hS2=>?_) (λch2 h7 A8 hle6 hP2 e=>gk (mC [] (A:=A8) Im (List.sublist_append_right _ _) hP2)))
  .have hs8:bT v0 v1=(dn1++[y1])++((bT.L1 v1 (bT.K1) rz1)):=hx2.trans ap
   exact⟨⟨hle4,λ_ hp=>List.Sublist.subset js hp⟩,nr (K2:=[z1]) hle4 (λ_ hp=>hp) (qA [20,21] U (aN kr (qT 4 U (oi i1 U (qO 2 U (bj (L':=A6) js (ag1 ((dn1++[y1]),A6,h5) hs8 ⟨hC2,(hl1.t hle4)⟩)))))))⟩
  exact⟨⟨hle5,λ_ hp=>List.Sublist.subset js hp⟩,nr (K2:=[z1]) hle5 (λ_ hp=>hp) (qA [20,21] U (aN kr (kY U (dQ (mi [] (A:=A7) Im U js (.inr hS2))))))⟩
 have ct4:=c3
 have hs9:=hs3.trans (congrArg (dn1++·) (bf ct4))
 exact tk 17 U U (qR 18 4 U (aN kr (qT 4 U (oi i1 U (qO 2 U (bj (L':=A1_) js (ag1 (dn1,A1_,hh1) hs9 ⟨hC1_,hl1⟩)))))))
theorem wj(h:HF)(l:List Interest)(fq:Option Addr)(fp:Nat)(jU:Int)(known:Int)(hl:SlC vL h fq fp l):jY prog 130 [.slice fq l.length fp,I jU,I known] h (λv h'=>∃(rv0:Value),v=rv0/\Itr prog rv0 ve (cx l jU known) h'):=by
 refine sT func130 U ntmps130 U λX hM hX hF=>?_
 have hs0:=@rfl _ (cx l jU known)
 refine sr (ct (λb1=>qO 4 U (aw (na (λb2=>aU zc256 (λb3=>cB 0 ty256 U U U U U U (qL 8 [2] U ?_)))))))
 let z1:Nat×Obj:=(b1,O [.slice fq l.length fp] 24)
 let z2:Nat×Obj:=(b3,O [.map (some b2)] 256)
 refine lp2 l (λi w=>[(1,I jU),(2,I known),(3,Q b1),(7,Q b3),(14,.slice fq l.length fp),(15,I (l.length:Int)),(16,I (i:Int))]) (λ_=>h) (λw=>[z2,(b2,w.2),z1]) (λi w=>ia dL.enc (iY vL) h w.2 w.1/\w.1.length<=0+i) (λs1 i w=>(cx.L1 jU known (cx.K1 l)) s1 w.1) ([],.map #[] 0) hl.1.1 hs0 ⟨(ia.nil (enc:=dL.enc) (V:=(iY vL)) (h:=h)),lc⟩ ?_ ?_
 .rintro i1 ⟨aZ,dB⟩ fB hs1 ⟨eV,nG⟩ e
  refine sr (aP 2 U hM (λh1 hle1 hb1=>aP 0 U hM (λh2 hle2 hb2=>aw (dS U U (an (eO 0 U hM (λh3 hle3 hb3=>?_)))))))
  have mc1:re dL.enc (iY vL) h3 b2 aZ:=⟨_,hb3,(eV.mono (iY.mono R7) (hle1.t hle2)).mono (iY.mono R7) hle3⟩
  have hs2:cx l jU known=(bT l aZ):=hs1
  exact nretH [.func (.func 202) #[] #[Q b1,Q b3]] (hs2▸⟨(.func (.func 202) #[] #[Q b1,Q b3]),U,(ux h3 l fq fp ⟨b1,0,none⟩ aZ b2 ⟨b3,0,none⟩ (hl.mono R7 ((hle1.t hle2).t hle3)) ((bI hb1).mono (hle2.t hle3)) mc1 ((bI hb2).mono hle3))⟩)
 rintro i1 ⟨aZ,dB⟩ y1 rz1 hd1 du bo eA gD hs3 ⟨eV,nG⟩ hx1 ag1 e
 refine sr (tO du U (qO 8 U (aw (iF jD ul ty54 hl.1 bo U U U (λq2 A2=>dl ty54 A2 U U (aU zc54 (λb5=>aR 0 ty54 U U U U U U (qL 9 [0] U (cn 5 [24,25,26,27,28,29] 24 29 (decide (known<y1.Known)) U (λc1 hk1=>?_) (λe=>?_))))))))))
 .exact qL 5 [0] U (hk1 _ U)
 refine aH (ae hs3 U (λc2 hs4=>?_) (λc2 hs5=>?_))
 .exact mr U (bu (oi i1 U (qO 2 U (bj (L':=[z2,(b2,dB),z1]) js (ag1 (aZ,dB) hs4 ⟨eV,lc⟩)))))
 refine qK 9 [0,0,0] U (aw (eY (cells:=[I y1.Person,I y1.Party,.bool y1.Of]) (places:=[(0,1),(1,1),(2,1)]) K9 zc258 kr kr (aU zc258 (λb6=>aR 0 ty258 U U U U U U (qL 4 [2] U (cI 0 ty258 U U U (aw (lI 3 (k:=(dL.mk y1.Person y1.Party y1.Of)) underlying256 ue U eV (e8 zv54) (show(iY vL) _ (.agg (kB [I 0,I 0,I 0,I 0,I 0,.bool false,.bool false])) (zW 0 0 0 0 0 false false)from⟨_,U,U⟩) U U (λv1 hv1=>?_)))))))))
 obtain⟨_,rfl,rfl⟩:=hv1
 refine qO 3 U (aU zc54 (λb7=>aR 0 ty54 U U U U U U (qO 7 U (cn 6 [45,46,47,48,49,50,51] 45 51 (decide ((mgetD aZ (dL.mk y1.Person y1.Party y1.Of) (zW 0 0 0 0 0 false false)).At<=y1.At)) U (λc3 hk2=>?_) (λe=>?_)))))
 .exact qL 6 [2,0] U (hk2 _ U)
 refine aH (ae hs5 U (λc4 hs6=>?_) (λc4 hs7=>?_))
 .exact qK 2 [3] U (cI 1 ty258 U U U (cI 2 ty54 U U U (aw (iZ 4 (k:=(dL.mk y1.Person y1.Party y1.Of)) (x:=y1) underlying256 ue U eV U U ⟨_,U,U⟩ (λmo1 hm1=>qO 3 U (oi i1 U (qO 2 U (bj (L':=[z2,(b2,mo1),z1]) js (ag1 ((mput aZ (dL.mk y1.Person y1.Party y1.Of) y1),mo1) hs6 ⟨hm1,(by have:=gy aZ (dL.mk y1.Person y1.Party y1.Of) y1;first|omega|(simp only[vB,zA]at *;omega))⟩)))))))))
 exact aQ (qT 2 U (oi i1 U (qO 2 U (bj (L':=[z2,(b2,dB),z1]) js (ag1 (aZ,dB) hs7 ⟨eV,lc⟩)))))
theorem uI.mono{h h':HF}(hl:h.le h'):∀{vs:List Value}{ws:List gN},uI h vs ws->uI h' vs ws
 |[],[],_=>trivial
 |_::_,_::_,⟨⟨r,e,o⟩,t⟩=>⟨⟨r,e,o.mono hl⟩,uI.mono hl t⟩
 |[],_::_,x=>x.elim
 |_::_,[],x=>x.elim
theorem uI.snoc{h:HF}{v:Value}{w:gN}(hw:∃r,v=.agg (gN.cells w r).toArray/\gN.ok h w r):∀{vs:List Value}{ws:List gN},uI h vs ws->uI h (vs++[v]) (ws++[w])
 |[],[],_=>⟨hw,trivial⟩
 |_::_,_::_,⟨a,t⟩=>⟨a,uI.snoc hw t⟩
 |[],_::_,x=>x.elim
 |_::_,[],x=>x.elim
theorem uI.len{h:HF}:∀{vs:List Value}{ws:List gN},uI h vs ws->vs.length=ws.length
 |[],[],_=>rfl
 |_::_,_::_,⟨_,t⟩=>by simp[uI.len t]
 |[],_::_,x=>x.elim
 |_::_,[],x=>x.elim
theorem mD(h:HF)(w:gN)(QZ:LZ)(q1 q2:Addr)(bm bc:Nat)(om:Obj)(m:List (Int×Bool))(cap s r:Nat)(vs:List Value)(q:List gN)(hw:gN.ok h w QZ)(a1:At h q1 [.map (some bm)])(a2:At h q2 [.chan (some bc)])(hm:ia (xB .i64) j0 h om m)(hq:uI h vs q)(hroom:mgetD m w.to false=false->vs.length<cap):
  mN prog (.func (.func 129) #[] #[.pointer (some q1),.pointer (some q2)]) #[.agg (gN.cells w QZ).toArray] h [(bm,om),(bc,.chan cap vs.toArray false s r false)]
   (λx h' B=>x=.returned (.tuple #[])/\h'=h/\∃om' vs' s',ia (xB .i64) j0 h om' (conPut w m q).1/\uI h vs' (conPut w m q).2/\B=[(bm,om'),(bc,.chan cap vs'.toArray false s' r false)]):=by
 refine lV (args:=[.agg (gN.cells w QZ).toArray]) (cap:=[.pointer (some q1),.pointer (some q2)]) call129 (cD func129 U ntmps129 U λX hM hX=>sr (ct (λb1=>qO 3 U (de ty135 a1 U (qL 2 [0] U (aw (qn 1 (k:=w.to) rf (dG kz) U hm (e8 zv4) (show j0 _ (.bool false) false from U) U U (λv hv=>?_))))))))
 obtain rfl:=hv
 cases hc:mgetD m w.to false with
 |true=>
  refine qO 4 U ?_
  have e1:conPut w m q=(m,q):=by simp[conPut,hc]
  refine uN func129 (λa ha w hw=>lK U a w) (λw hw=>(hw.sub (L':=[(bm,om),(bc,.chan cap vs.toArray false s r false)]) js).lower) ⟨U,hX,om,vs,s,?_,?_,U⟩
  .rw[e1];exact hm
  rw[e1];exact hq
 |false=>
  refine qO 3 U ?_
  have e1:conPut w m q=(mput m w.to true,q++[w]):=by simp[conPut,hc]
  refine sr (de ty135 a1 U (qL 2 [0] U (aw (iZ 1 (k:=w.to) (x:=true) rf (dG kz) U hm U U U (λom' hm'=>qO 2 U (de ty205 a2 U (cI 0 ty207 U U U (QB 2 U U U (hroom hc) (aH ?_)))))))))
  refine uN func129 (λa ha w hw=>lK U a w) (λww hww=>(hww.sub (L':=[(bm,om'),(bc,.chan cap (vs++[Value.agg (gN.cells w QZ).toArray]).toArray false (s+1) r false)]) js).lower) ⟨U,hX,om',vs++[.agg (gN.cells w QZ).toArray],s+1,?_,?_,U⟩
  .rw[e1];exact hm'
  rw[e1];exact uI.snoc ⟨QZ,rfl,hw⟩ hq
theorem V3.mono:yW V3:=λ_ _ _ _ _ e=>e
theorem FR.mono{h h':HF}(hl:h.le h'):∀{m:List (Int×Option Addr×Nat×Nat)}{f:List (Int×List Interest)}{G:LH},FR h m f G->FR h' m f G
 |[],[],_,e=>e
 |(_,_)::_,(_,_)::_,_,⟨a,b,G1,G2,c,d,t⟩=>⟨a,b,G1,G2,c,d.mono R7 hl,FR.mono hl t⟩
 |[],(_,_)::_,_,x=>x.elim
 |(_,_)::_,[],_,x=>x.elim
theorem FR.get{h:HF}(k:Int):∀{m:List (Int×Option Addr×Nat×Nat)}{f:List (Int×List Interest)}{G:LH},FR h m f G ->
  ∃b c G1 G2,mgetD m k (none,0,0)=(b,(mgetD f k []).length,c)/\dA vL 54 h (mgetD f k []) b c G1/\G.Perm (G1++G2) /\
   ∀b' c' xs' G1',dA vL 54 h xs' b' c' G1'->∃G',FR h (mput m k (b',xs'.length,c')) (mput f k xs') G'/\G'.Perm (G1'++G2)
 |[],[],G,e=>by
  subst e
  refine⟨none,0,[],[],U,dA.nil,List.Perm.refl _,λb' c' xs' G1' hG=>⟨G1',⟨U,U,G1',[],by simp,hG,U⟩,by simp⟩⟩
 |(k0,x)::m,(k',xs)::f,G,⟨e,hn,G1,G2,hG,hg,t⟩=>by
  subst e hG
  by_cases hk:k=k0
  .subst hk
   refine⟨x.1,x.2.2,G1,G2,?_,?_,List.Perm.refl _,λb' c' xs' G1' hG'=>⟨G1'++G2,?_,List.Perm.refl _⟩⟩
   .simp[mgetD,mget?,←hn]
   .simpa[mgetD,mget?]using hg
   simp only[mput,if_true]
   exact⟨U,U,G1',G2,U,hG',t⟩
  obtain⟨b,c,H1,H2,h1,h2,h3,h4⟩:=FR.get k t
  refine⟨b,c,H1,G1++H2,?_,?_,?_,λb' c' xs' G1' hG'=>?_⟩
  .simpa[mgetD,mget?,hk]using h1
  .simpa[mgetD,mget?,hk]using h2
  .refine(List.Perm.append_left G1 h3).trans ?_
   rw[←qE,←qE];exact List.Perm.append_right H2 xL
  obtain⟨G',g1,g2⟩:=h4 b' c' xs' G1' hG'
  refine⟨G1++G',?_,?_⟩
  .simp only[mput,hk,if_false]
   exact⟨U,hn,G1,G',U,hg,g1⟩
  refine(List.Perm.append_left G1 g2).trans ?_
  rw[←qE,←qE];exact List.Perm.append_right H2 xL
 |[],(_,_)::_,_,x=>x.elim
 |(_,_)::_,[],_,x=>x.elim
theorem FR.keys{h:HF}:∀{m:List (Int×Option Addr×Nat×Nat)}{f:List (Int×List Interest)}{G:LH},FR h m f G->m.map (·.1)=f.map (·.1)
 |[],[],_,_=>rfl
 |(_,_)::_,(_,_)::_,_,⟨a,_,_,_,_,_,t⟩=>by simp[a,FR.keys t]
 |[],(_,_)::_,_,x=>x.elim
 |(_,_)::_,[],_,x=>x.elim
theorem FR.mem{h:HF}:∀{m:List (Int×Option Addr×Nat×Nat)}{f:List (Int×List Interest)}{G:LH},FR h m f G->(m.map (·.1)).Nodup->∀p∈m,p.2.2.1=(mgetD f p.1 []).length/\∃G1,(∀q∈G1,q∈G)/\dA vL 54 h (mgetD f p.1 []) p.2.1 p.2.2.2 G1
 |[],[],_,_,_,_,hp=>(jA hp).elim
 |(k,x)::m,(k',xs)::f,G,⟨e,hn,G1,G2,hG,hg,t⟩,hnd,p,hp=>by
  subst e hG
  rw[kG,xN]at hnd
  rcases qC.1 hp with rfl|hp
  .exact⟨by simp[mgetD,mget?,hn],G1,λq hq=>List.mem_append_left _ hq,by simpa[mgetD,mget?]using hg⟩
  have hne:¬p.1=k:=λe=>hnd.1 (by have h9:=zM (f:=(·.1)) hp;rw[e]at h9;exact h9)
  obtain⟨h1,H,h2,h3⟩:=FR.mem t hnd.2 p hp
  exact⟨by simpa[mgetD,mget?,hne]using h1,H,λq hq=>jN _ (h2 q hq),by simpa[mgetD,mget?,hne]using h3⟩
 |[],(_,_)::_,_,x,_,_,_=>x.elim
 |(_,_)::_,[],_,x,_,_,_=>x.elim
theorem I5{α : Type}:∀{f:List (Int×α)}(z:α),(f.map (·.1)).Nodup->f=f.map λp=>(p.1,mgetD f p.1 z)
 |[],_,_=>rfl
 |(k,x)::f,z,hn=>by
  rw[kG,xN]at hn
  rw[kG]
  congr 1
  .simp[mgetD,mget?]
  have ih:=I5 z hn.2
  conv=>lhs;rw[ih]
  apply List.map_congr_left
  intro p hp
  have hne:¬p.1=k:=λe=>hn.1 (by have h9:=zM (f:=(·.1)) hp;rw[e]at h9;exact h9)
  simp[mgetD,mget?,hne]
theorem JY{h:HF}{h2:HF}(g:Int->List Interest):∀{es:List MapEntry}{m:List (Int×Option Addr×Nat×Nat)},pF (xB .i64) V3 h es m ->
  (∀p∈m,p.2.2.1=(g p.1).length/\SlC vL h2 p.2.1 p.2.2.2 (g p.1))->pF (xB .i64) (VSl vL) h2 es (m.map λp=>(p.1,g p.1))
 |[],[],_,_=>trivial
 |e::es,(k,x)::m,⟨a,b,c⟩,hg=>by
  obtain⟨h1,h3⟩:=hg (k,x) (zB ..)
  refine⟨a,⟨x.1,x.2.2,?_,h3⟩,JY g c λp hp=>hg p (vA _ hp)⟩
  rw[show e.val=.slice x.1 x.2.1 x.2.2 from b,h1]
 |[],_::_,x,_=>x.elim
 |_::_,[],x,_=>x.elim
theorem FR.frozen{h h2:HF}{o:Obj}{m:List (Int×Option Addr×Nat×Nat)}{f:List (Int×List Interest)}{G:LH}(hm:ia (xB .i64) V3 h o m)(hf:FR h m f G)(hl:h.le h2)(hG:∀p∈G,h2 p.1=some p.2):
  ia (xB .i64) (VSl vL) h2 o f:=by
 have hnd:=hm.nodup
 have hk:=hf.keys
 obtain⟨m',hp,hn,es,c,rfl,hE,h1,h3⟩:=hm
 have hmem:=hf.mem hnd
 have hfe:=I5 (f:=f) [] (hk▸hnd)
 have hfm:f=m.map λp=>(p.1,mgetD f p.1 []):=by
  have e1:(f.map λp=>(p.1,mgetD f p.1 []))=(f.map (·.1)).map λk=>(k,mgetD f k []):=by rw[List.map_map];rfl
  have e2:(m.map λp=>(p.1,mgetD f p.1 []))=(m.map (·.1)).map λk=>(k,mgetD f k []):=by rw[List.map_map];rfl
  rw[e2,hk,←e1];exact hfe
 refine⟨m'.map λp=>(p.1,mgetD f p.1 []),?_,?_,es,c,U,JY (λk=>mgetD f k []) hE λp hp'=>?_,h1,h3⟩
 .have hpm:=hp.map λp=>(p.1,mgetD f p.1 ([]:List Interest))
  rw[←hfm]at hpm;exact hpm
 .rw[List.map_map];exact hn
 obtain⟨h5,G1,h6,h7⟩:=hmem p (hp.mem_iff.1 hp')
 exact⟨h5,h7.frozen R7 hl λq hq=>hG q (h6 q hq)⟩
theorem Fb(k:Int->Int):∀(l:List Int)(g:Int),cq.L1 k l g=0->(∀x∈l,g<x/\x<=1048576)/\l.Pairwise (·<·)/\∃g',k g'=0
 |[],g,h=>⟨λ_ h=>(jA h).elim,List.Pairwise.nil,g,h⟩
 |y::l,g,h=>by
  simp only[cq.L1,Bool.cond_eq_ite,xD,decide_eq_true_eq]at h
  split at h
  .omega
  next hc=>
  obtain⟨h1,h2,h3⟩:=Fb k l y h
  refine⟨λx hx=>?_,List.pairwise_cons.2 ⟨λx hx=>(h1 x hx).1,h2⟩,h3⟩
  rcases qC.1 hx with rfl|hx
  .omega
  have:=h1 x hx;omega
theorem Dn{l:List Interest}{person:Int}{parties:List Int}{a b:Int}(h:cq l person parties a b=0):parties.Pairwise (·<=·)/\parties.length<=16:=by
 unfold cq at h
 rw[Bool.cond_eq_ite]at h
 split at h
 .next hc=>simp at hc;exact absurd h hc
 obtain⟨_,h2,g',h3⟩:=Fb _ _ _ h
 refine⟨h2.imp (λh=>Int.le_of_lt h),?_⟩
 unfold cq.K1 at h3
 rw[Bool.cond_eq_ite]at h3
 split at h3
 .omega
 next hc=>
 simp only[xD,not_or,decide_eq_true_eq]at hc
 omega
theorem sa(h:HF)(b:Option Addr)(n c:Nat)(hc:n<=c):Ret prog 132 [.slice b n c] h (.slice b n n):=by
 exact cD func132 U ntmps132 U λX hM hX=>qK 11 [] U (aw (ff (Qr eG ty3 U U U hc) (an (s8 [.slice b n n] func132 U hX rd U))))
theorem pN(h:HF)(l:List Interest)(fq:Option Addr)(fp:Nat)(person:Int)(parties:List Int)(lF:Option Addr)(lE:Nat)(fa known:Int)(hl:SlC vL h fq fp l)(hparties:SlC zC h lF lE parties)(hsz:l.length<=2000000):
  jY prog 81 [.slice fq l.length fp,I person,.slice lF parties.length lE,I fa,I known] h
   (λv h'=>∃(rb0:Option Addr)(rc0:Nat),v=.tuple #[.slice rb0 ((cQ l person parties fa known).1.length) rc0,.bool ((cQ l person parties fa known).2.1),I ((cQ l person parties fa known).2.2)]/\SlC zC h' rb0 rc0 ((cQ l person parties fa known).1)):=by
 refine cD KX U ntmps81 U λX hM hX=>sr (ct (λb1=>qL 12 [0] U (ai (v:=I (cq l person parties fa known)) call128 (xd h l fq fp person parties lF lE fa known hl hparties) U (qO 7 U (jf U (λc1=>?_) (λc1=>?_))))))
 .have e1:cQ l person parties fa known=([],false,cq l person parties fa known):=by unfold cQ;rw[c1];rfl
  exact sr (qO 5 U (il [.slice none 0 0,.bool false,I (cq l person parties fa known)] KX U rd ⟨none,0,by rw[e1];rfl,by rw[e1];exact zF⟩))
 have hex:cq l person parties fa known=0:=by simpa using c1
 obtain⟨hps,hpl⟩:=Dn hex
 have e1:cQ l person parties fa known=((conFind l person parties (cx l fa known)).1,(conFind l person parties (cx l fa known)).2,0):=by unfold cQ;rw[c1];rfl
 rw[e1]
 have hstl:=Iw l fa known
 generalize hst:cx l fa known=st at hstl
 refine qT 3 U (aw (na (λbf=>aU zc204 (λb14=>cB 0 ty204 U U U U U U (qO 3 U (aw (na (λbm=>aU zc135 (λb15=>cB 0 ty135 U U U U U U (qL 5 [] U (aw (NH underlying205 bytes207 U ob (by decide) (λbc=>aU zc205 (λb16=>cB 0 ty205 U U U U U U (qO 3 U (aw (dS U U (aU zc208 (λb17=>cB 0 ty208 U U U U U U (aH (eO 0 U hM (λh1 l1 f17=>eO 0 U hM (λh2 l2 f16=>eO 1 U hM (λh3 l3 f15=>eO 2 U hM (λh4 l4 f14=>eO 3 U hM (λh5 l5 f1=>?_))))))))))))))))))))))))))
 have a17:=(bI f17).mono (l2.t (l3.t (l4.t l5)))
 have a16:=(bI f16).mono (l3.t (l4.t l5))
 have a15:=(bI f15).mono (l4.t l5)
 have a14:=(bI f14).mono l5
 have a1:=bI f1
 have l05:h.le h5:=qF l1 (l2.t (l3.t (l4.t l5)))
 clear f17 f16 f15 f14 f1 l1 l2 l3 l4 l5
 refine qT 6 U (aw (cJ call130 (wj h5 l fq fp fa known (hl.mono R7 l05)) U (λv1 h6 l6 hp1=>?_)))
 obtain⟨_,rfl,hit⟩:=hp1
 rw[hst]at hit
 refine qO 2 U (dQ ?_)
 refine jw (it:=v1) (xs:=st) (ι:=List (Int×List Interest)×List (Int×Bool)×List gN×List Value×Nat×Obj×List (Int×Option Addr×Nat×Nat)×Obj×LH×HF) [] (λi=>i.2.2.2.2.2.2.2.2.2)
  (λi=>[(bc,.chan l.length i.2.2.2.1.toArray false i.2.2.2.2.1 0 false),(bm,i.2.2.2.2.2.1),(bf,i.2.2.2.2.2.2.2.1)]++i.2.2.2.2.2.2.2.2.1)
  (λrest i=>(conFill person rest i.1 i.2.1 i.2.2.1=conFill person st [] [] []/\(∀x∈rest,x∈st))/\(uI i.2.2.2.2.2.2.2.2.2 i.2.2.2.1 i.2.2.1/\ia (xB .i64) j0 i.2.2.2.2.2.2.2.2.2 i.2.2.2.2.2.1 i.2.1/\ia (xB .i64) V3 i.2.2.2.2.2.2.2.2.2 i.2.2.2.2.2.2.2.1 i.2.2.2.2.2.2.1/\FR i.2.2.2.2.2.2.2.2.2 i.2.2.2.2.2.2.1 i.1 i.2.2.2.2.2.2.2.2.1)/\(uK st i.2.1 i.2.2.1/\L8 st i.1)/\h6.le i.2.2.2.2.2.2.2.2.2/\(∀k,(mgetD i.1 k []).length+rest.length<=l.length))
  (λ_=>False) (λ_=>False) 0 (λ_ _ _=>False) ([],[],[],[],0,.map #[] 0,[],.map #[] 0,[],h6) KX rfl hit rfl BV (λ_ _ _ _ _ hq=>hq) rfl rfl
  ⟨⟨rfl,λ_ hx=>hx⟩,⟨trivial,ia.nil,ia.nil,rfl⟩,⟨⟨λ_ hp=>(jA hp).elim,xG _,λ_ hp=>(jA hp).elim⟩,λ_ _ hx=>(jA hx).elim⟩,jH _,λk=>by simp[mgetD,mget?];exact hstl⟩ ?_ ?_ (λ_ _ _ hF=>hF.elim) (λ_ _ _ hF=>hF.elim) (λ_ _ _ _ hF=>hF.elim)
 .rintro l1 r1 lp1 x rest vs1 ⟨f,m,q,vs,s,om,m3,o3,Gf,hh⟩ h7 X' hFR ⟨⟨hfill,hin⟩,⟨hwy,hmm,hm3,hfr⟩,⟨hgq,hgf⟩,h6h,hlen⟩ h67 hh7 hv hX' hXM hlp nx rt ex pn
  dsimp only at hfill hin hwy hmm hm3 hfr hgq hgf h6h hh7 hlen
  obtain rfl:=hv
  have hxst:x∈st:=hin x (zB ..)
  have hin':∀y∈rest,y∈st:=λy hy=>hin y (vA _ hy)
  have h57:h5.le h7:=qF l6 h67
  replace hwy:=hwy.mono hh7
  replace hmm:=hmm.mono j0.mono hh7
  replace hm3:=hm3.mono V3.mono hh7
  replace hfr:=hfr.mono hh7
  have h67':h6.le h7:=h67
  clear hh7 h6h
  refine bu (aU zc54 (λb18=>aR 0 ty54 U U U U U U (aH (jx 1 U hlp (qT 2 U (cu (L':=[(b18,.cells (jD x).toArray 54 (0,0)),(l1,.loop { lp1 with state:=.busy }),(r1,.deferred (some [])),(bc,.chan l.length vs.toArray false s 0 false),(bm,om),(bf,o3)]++Gf) (by simp[markB,setNth]) (qK 6 [0] U (jf U (λcO=>?_) (λcO=>?_)))))))))
  .obtain⟨gb,gc,G1,G2,hget,hgrow,hperm,hput⟩:=hfr.get x.Person
   have hlx:=hlen x.Person
   simp only[zA]at hlx
   have hnext:conFill person rest (mput f x.Person (mgetD f x.Person []++[x])) m q=conFill person st [] [] []:=by
    rw[←hfill];simp[conFill,cO]
   have hlen':∀k,(mgetD (mput f x.Person (mgetD f x.Person []++[x])) k []).length+rest.length<=l.length:=λk=>by
    rw[zq]
    split
    .simp only[kA,zA,vB];omega
    have:=hlen k;simp only[zA]at this;omega
   have fin:∀(e':Env)(b8:Nat)(o8:Obj)(o3':Obj)(gb':Option Addr)(gc':Nat)(G1':LH),dA vL 54 h7 (mgetD f x.Person []++[x]) gb' gc' G1'->ia (xB .i64) V3 h7 o3' (mput m3 x.Person (gb',(mgetD f x.Person []++[x]).length,gc')) ->
     TT prog (roundFrame l1 81) 111 [.inBlock 2,.inBlock 1] hFR e' [] X' h7 ([(b8,o8),(b18,.cells (jD x).toArray 54 (0,0)),(l1,.loop { lp1 with state:=.busy }),(r1,.deferred (some [])),(bc,.chan l.length vs.toArray false s 0 false),(bm,om),(bf,o3')]++(G2++G1')):=by
    intro e' b8 o8 o3' gb' gc' G1' hG' hm'
    obtain⟨G',hfr',hp'⟩:=hput gb' gc' _ G1' hG'
    exact eB (eB (bj (L':=[(l1,.loop { lp1 with state:=.busy }),(r1,.deferred (some [])),(bc,.chan l.length vs.toArray false s 0 false),(bm,om),(bf,o3')]++(G2++G1')) js (oo (L':=[(l1,.loop { lp1 with state:=.busy }),(r1,.deferred (some [])),(bc,.chan l.length vs.toArray false s 0 false),(bm,om),(bf,o3')]++G') (List.Perm.append_left _ (List.perm_append_comm.trans hp'.symm)) (cu (L':=rdH l1 r1 lp1 (([(bc,.chan l.length vs.toArray false s 0 false),(bm,om),(bf,o3')]++G')++markB [])) (by simp[markB]) (nx (mput f x.Person (mgetD f x.Person []++[x]),m,q,vs,s,om,mput m3 x.Person (gb',(mgetD f x.Person []++[x]).length,gc'),o3',G',h7) _ _ ⟨⟨hnext,hin'⟩,⟨hwy,hmm,hm',hfr'⟩,⟨hgq,hgf.put hxst⟩,h67',hlen'⟩ lf)))))
   have hJ:∀{L:LH},Jst h7 [(b18,.cells (jD x).toArray 54 (0,0))] h7 ((b18,.cells (jD x).toArray 54 (0,0))::L):=AO js
   have hJ2:∀{L:LH}{p:Nat×Obj},Jst h7 [(b18,.cells (jD x).toArray 54 (0,0))] h7 (p::(b18,.cells (jD x).toArray 54 (0,0))::L):=AO js
   refine eQ [(b18,.cells (jD x).toArray 54 (0,0))] mixed kr hJ (λhsep _=>?_)
   refine jk 0 hsep hJ U U kr U (rh ty204 (a14.mono h57) U) (jk 1 hsep hJ U U kr U (λ_ _ _=>tA LN U) (jk 2 hsep hJ U U kr U (rj 0 ty3 U U U) (jk 3 hsep hJ U U kr U (rh ty204 (a14.mono h57) U) (jk 4 hsep hJ U U kr U (λ_ _ _=>tA LN U) (jk 5 hsep hJ U U kr U (rj 0 ty3 U U U) (jk 7 hsep hJ U U kr U (λ_ _ hj=>jZ ty54 U (hj.nth (i:=0) U) U) ?_))))))
   refine mO 6 8 kr U U ?_ ?_
   .refine qn 5 (k:=x.Person) KW (dG kz) U hm3 (e8 zv24) (show V3 _ (.slice none 0 0) (none,0,0)from U) U U (λv hv=>?_)
    rw[hget]at hv
    obtain rfl:=hv
    exact⟨hJ,tn 8 U (bB (cells:=jD x) ul ty54 zc54 U U kr (λb8=>⟨hJ2,tn 9 U (D0 (List.Perm.append_left ([(b8,.cells (jD x).toArray 54 (0,0)),(b18,.cells (jD x).toArray 54 (0,0)),(l1,.loop { lp1 with state:=.busy }),(r1,.deferred (some [])),(bc,.chan l.length vs.toArray false s 0 false),(bm,om),(bf,o3)]:LH) hperm) (eo Interest.eD [(b8,.cells (jD x).toArray 54 (0,0)),(b18,.cells (jD x).toArray 54 (0,0)),(l1,.loop { lp1 with state:=.busy }),(r1,.deferred (some [])),(bc,.chan l.length vs.toArray false s 0 false),(bm,om),(bf,o3)] G2 (λG=>[(b8,.cells (jD x).toArray 54 (0,0)),(b18,.cells (jD x).toArray 54 (0,0)),(l1,.loop { lp1 with state:=.busy }),(r1,.deferred (some [])),(bc,.chan l.length vs.toArray false s 0 false),(bm,om),(bf,o3)]++(G2++G)) U (λ_=>U) ul ty54 zc54 U bytes54 hgrow U U (fd 0 U (show bP vL h7 (jD x) [x]from⟨jD x,[],by simp,U,U,U⟩)) lo lo (λgb' gc' G1' hG'=>⟨hJ2,tn 10 U (iZ 6 (k:=x.Person) (x:=(gb',(mgetD f x.Person []++[x]).length,gc')) KW (dG kz) U hm3 U U U (λo3' hm'=>⟨hJ2,aN kr (fin _ b8 _ o3' gb' gc' G1' hG' hm')⟩))⟩)))⟩))⟩
   refine bB (cells:=jD x) ul ty54 zc54 U U kr (λb8=>⟨hJ2,tn 6 U (qn 6 (k:=x.Person) KW (dG kz) U hm3 (e8 zv24) (show V3 _ (.slice none 0 0) (none,0,0)from U) U U (λv hv=>?_))⟩)
   rw[hget]at hv
   obtain rfl:=hv
   exact⟨hJ2,tn 9 U (D0 (List.Perm.append_left ([(b8,.cells (jD x).toArray 54 (0,0)),(b18,.cells (jD x).toArray 54 (0,0)),(l1,.loop { lp1 with state:=.busy }),(r1,.deferred (some [])),(bc,.chan l.length vs.toArray false s 0 false),(bm,om),(bf,o3)]:LH) hperm) (eo Interest.eD [(b8,.cells (jD x).toArray 54 (0,0)),(b18,.cells (jD x).toArray 54 (0,0)),(l1,.loop { lp1 with state:=.busy }),(r1,.deferred (some [])),(bc,.chan l.length vs.toArray false s 0 false),(bm,om),(bf,o3)] G2 (λG=>[(b8,.cells (jD x).toArray 54 (0,0)),(b18,.cells (jD x).toArray 54 (0,0)),(l1,.loop { lp1 with state:=.busy }),(r1,.deferred (some [])),(bc,.chan l.length vs.toArray false s 0 false),(bm,om),(bf,o3)]++(G2++G)) U (λ_=>U) ul ty54 zc54 U bytes54 hgrow U U (fd 0 U (show bP vL h7 (jD x) [x]from⟨jD x,[],by simp,U,U,U⟩)) lo lo (λgb' gc' G1' hG'=>⟨hJ2,tn 10 U (iZ 6 (k:=x.Person) (x:=(gb',(mgetD f x.Person []++[x]).length,gc')) KW (dG kz) U hm3 U U U (λo3' hm'=>⟨hJ2,aN kr (fin _ b8 _ o3' gb' gc' G1' hG' hm')⟩))⟩)))⟩
  refine qK 4 [0] U (de ty3 (a1.mono h57) U (qO 3 U ?_))
  have hlen':∀k,(mgetD f k []).length+rest.length<=l.length:=λk=>by have:=hlen k;simp only[zA]at this;omega
  refine jf U (λcP=>?_) (λcP=>?_)
  .have hnext:conFill person rest f (conPut ⟨[x.No],x.Party⟩ m q).1 (conPut ⟨[x.No],x.Party⟩ m q).2=conFill person st [] [] []:=by
    rw[←hfill];simp only[conFill,cO,cond_false,cP,cond_true]
   have hpty:(gN.mk [x.No] x.Party).to∈st.map (·.Party):=zM hxst
   refine bu (de ty208 (a17.mono h57) U (qL 2 [0] U (aw (Mm (cells:=[I x.No]) hXM eG ty3 zc3 U U kr (λb65 hb65=>DO 0 U hb65 (λh8 l8 f8=>?_))))))
   have sl8:SlC zC h8 (some ⟨b65,0,none⟩) 1 [x.No]:=bP.slB0 (T:=3) (fz:=(0,0)) (show bP zC h8 [I x.No] [x.No]from⟨[I x.No],[],rfl,rfl,rfl,rfl⟩) f8
   refine qL 2 [0] U (aw (eY (cells:=gN.cells ⟨[x.No],x.Party⟩ ⟨some ⟨b65,0,none⟩,1⟩) (places:=[(0,1),(1,1)]) underlying207 zc207 kr kr ?_))
   refine aw (Hn (vs:=[.agg (gN.cells ⟨[x.No],x.Party⟩ ⟨some ⟨b65,0,none⟩,1⟩).toArray]) [(bm,om),(bc,.chan l.length vs.toArray false s 0 false)] ([(b18,.cells (jD x).toArray 54 (0,0)),(l1,.loop { lp1 with state:=.busy }),(r1,.deferred (some [])),(bf,o3)]++Gf) ?_
    (mD h8 ⟨[x.No],x.Party⟩ ⟨some ⟨b65,0,none⟩,1⟩ ⟨b15,0,none⟩ ⟨b16,0,none⟩ bm bc om m l.length s 0 vs q ⟨sl8⟩ (a15.mono (h57.t l8)) (a16.mono (h57.t l8)) (hmm.mono j0.mono l8) (hwy.mono l8) (λhno=>by rw[hwy.len];exact xx hgq hmm.nodup hpty hstl hno)) rfl rfl (λB hB=>?_))
   .exact xZ [(b18,.cells (jD x).toArray 54 (0,0)),(l1,.loop { lp1 with state:=.busy }),(r1,.deferred (some []))] ((bf,o3)::Gf) (bc,.chan l.length vs.toArray false s 0 false) (bm,om)
   obtain⟨om',vs',s',hm',hw',rfl⟩:=hB
   refine qO 3 U (bj (L':=[(bm,om'),(bc,.chan l.length vs'.toArray false s' 0 false)]++([(l1,.loop { lp1 with state:=.busy }),(r1,.deferred (some [])),(bf,o3)]++Gf)) js ?_)
   refine oo (L':=rdH l1 r1 lp1 (([(bc,.chan l.length vs'.toArray false s' 0 false),(bm,om'),(bf,o3)]++Gf)++markB [])) ?_ ?_
   .rw[show markB []=([]:LH)from rfl,List.append_nil]
    exact(xZ [(l1,Obj.loop { lp1 with state:=.busy }),(r1,.deferred (some []))] ((bf,o3)::Gf) (bc,.chan l.length vs'.toArray false s' 0 false) (bm,om')).symm
   exact nx (f,(conPut ⟨[x.No],x.Party⟩ m q).1,(conPut ⟨[x.No],x.Party⟩ m q).2,vs',s',om',m3,o3,Gf,h8) _ _ ⟨⟨hnext,hin'⟩,⟨hw',hm',hm3.mono V3.mono l8,hfr.mono l8⟩,⟨tL hgq hpty (by simp),hgf⟩,qF h67' l8,hlen'⟩ lf
  have hnext:conFill person rest f m q=conFill person st [] [] []:=by
   rw[←hfill];simp only[conFill,cO,cond_false,cP]
  exact aQ (qT 2 U (bj (L':=[(l1,.loop { lp1 with state:=.busy }),(r1,.deferred (some [])),(bc,.chan l.length vs.toArray false s 0 false),(bm,om),(bf,o3)]++Gf) js (cu (L':=rdH l1 r1 lp1 (([(bc,.chan l.length vs.toArray false s 0 false),(bm,om),(bf,o3)]++Gf)++markB [])) (by simp[markB]) (nx (f,m,q,vs,s,om,m3,o3,Gf,h7) _ _ ⟨⟨hnext,hin'⟩,⟨hwy,hmm,hm3,hfr⟩,⟨hgq,hgf⟩,h67',hlen'⟩ lf))))
 rintro dm ⟨f,m0,q0,vs0,s0,om0,m3,o3,Gf,hh⟩ h7 ⟨⟨hfill,_⟩,⟨hwy,hmm,hm3,hfr⟩,⟨hgq,hgf⟩,h6h,hlen⟩ hh7 h67
 dsimp only at hfill hwy hmm hm3 hfr hgq hgf h6h hh7 hlen
 refine eB (eO 2 U hM (λh8 l8 f8=>DL [(bc,.chan l.length vs0.toArray false s0 0 false),(bm,om0)] Gf (markB [dm]) U hM (λh9 l9 hG9=>?_)))
 have h89:hh.le h9:=qF hh7 (l8.t l9)
 have hmF:ia (xB .i64) (VSl vL) h9 o3 f:=FR.frozen hm3 hfr h89 hG9
 have hbf:h9 bf=some o3:=l9 _ _ f8
 have h59:h5.le h9:=qF l6 (h67.t (l8.t l9))
 replace a14:=a14.mono h59
 replace a15:=a15.mono h59
 replace a16:=a16.mono h59
 replace a17:=a17.mono h59
 have hpar:=(hparties.mono zH l05).mono zH h59
 have hcf:conFind l person parties st=conLoop parties f (l.length+1) m0 q0:=by
  unfold conFind;rw[←hfill];rfl
 have hwy0:=hwy.mono h89
 have hmm0:=hmm.mono j0.mono h89
 clear hwy hmm hm3 hfr hG9 l8 f8 h6h hh7 h67 hfill a1
 generalize hCF:conFind l person parties st=CF at hcf
 refine dJ ?_
 refine iA (ι:=List Value×Nat×Nat×Obj×HF) (λi=>[]) (λi=>i.2.2.2.2) (λi=>[(bc,.chan l.length i.1.toArray false i.2.1 i.2.2.1 false),(bm,i.2.2.2.1)]++markB [dm]) (λi=>CF=([],false)) ?_ (λhx=>?_)
 .rintro⟨vs,s,r,om,hh⟩ hc e
  exact sr (qO 4 U (oX [dm] [.slice none 0 0,.bool false,I 0] KX U rd ⟨none,0,by rw[hc];rfl,by rw[hc];exact zF⟩))
 refine kl (ι:=Nat×List (Int×Bool)×List gN×List Value×Nat×Nat×Obj×HF) (λi=>[(2,.slice lF parties.length lE),(14,Q b14),(16,Q b16),(17,Q b17)]) (λi=>i.2.2.2.2.2.2.2)
  (λi=>[(bc,.chan l.length i.2.2.2.1.toArray false i.2.2.2.2.1 i.2.2.2.2.2.1 false),(bm,i.2.2.2.2.2.2.1)]++markB [dm])
  (λi=>CF=conLoop parties f i.1 i.2.1 i.2.2.1/\i.2.2.1.length+(l.length-i.2.1.length)<i.1/\uI i.2.2.2.2.2.2.2 i.2.2.2.1 i.2.2.1/\ia (xB .i64) j0 i.2.2.2.2.2.2.2 i.2.2.2.2.2.2.1 i.2.1/\uK st i.2.1 i.2.2.1/\h9.le i.2.2.2.2.2.2.2)
  (λi=>i.1) (l.length+1,m0,q0,vs0,s0,0,om0,h9) rd (λw hw=>hw) ⟨hcf,?_,hwy0,hmm0,hgq,jH _⟩ ?_
 .show q0.length+(l.length-m0.length)<l.length+1
  have:=hgq.2.1;have:=N5 hgq hmm0.nodup;omega
 clear hcf hwy0 hmm0 hgq
 rintro⟨n,m,q,vs,s,r,om,hh⟩ ⟨hcf,hn,hwy,hmm,hgq,h9h⟩ ag e
 dsimp only at hcf hn hwy hmm hgq h9h
 obtain⟨n,rfl⟩:∃n',n=n'+1:=⟨n-1,by omega⟩
 refine qT 3 U (de ty205 (a16.mono h9h) U (aw (ff (Qp underlying205 (zB ..) U) ?_)))
 rcases q with _|⟨w,q⟩
 .have hv0:vs=[]:=List.eq_nil_of_length_eq_zero hwy.len
  subst hv0
  exact iq (v':=.bool false) U U (qO 3 U (hx ([],s,r,om,hh) _ hcf trivial))
 rcases vs with _|⟨v,vs⟩
 .exact hwy.elim
 obtain⟨⟨wr,rfl,hok⟩,hwy⟩:=hwy
 refine tO (decide_eq_true (by simp)) U (qO 6 U (de ty205 (a16.mono h9h) U (QC 0 underlying205 zv207 U U (aU zc207 (λb19=>aR 0 ty207 U U U U U U (qL 7 [0] U (ai (v:=.tuple #[I (slices_BinarySearch_int parties w.to).1,.bool (slices_BinarySearch_int parties w.to).2]) call131 (ns hh parties lF lE w.to (hpar.mono zH h9h) hps ob) U (qO 10 U ?_))))))))
 have hgq':uK st m q:=⟨hgq.1,by have:=hgq.2.1;simp only[zA]at this;omega,λw' hw'=>hgq.2.2 w' (vA _ hw')⟩
 have hw8:=hgq.2.2 w (zB ..)
 simp only[zA]at hn
 refine jf U (λcF=>?_) (λcF=>?_)
 .have hc2:CF=(w.path,true):=by
   rw[hcf];simp only[conLoop];rw[show parties.contains w.to=true from cF];rfl
  exact qK 8 [0] U (bj (L':=[(bc,.chan l.length vs.toArray false s (r+1) false),(bm,om)]++markB [dm]) js (oX [dm] [.slice wr.wU w.path.length wr.zj,.bool true,I 0] KX U rd ⟨wr.wU,wr.zj,by rw[hc2];rfl,by rw[hc2];exact hok.path⟩))
 have hc2:CF=(bif(w.path.length:Int)==8 then conLoop parties f n m q else conLoop parties f n (conStep w.path (mgetD f w.to []) m q).1 (conStep w.path (mgetD f w.to []) m q).2):=by
  rw[hcf];simp only[conLoop];rw[show parties.contains w.to=false from cF];rfl
 refine qK 9 [0] U (jf U (λc8=>?_) (λc8=>?_))
 .rw[show((w.path.length:Int)==8)=true from c8]at hc2
  exact mr U (bj (L':=[(bc,.chan l.length vs.toArray false s (r+1) false),(bm,om)]++markB [dm]) js (ag (n,m,q,vs,s,r+1,om,hh) _ (Nat.lt_succ_self _) ⟨hc2,by show q.length+(l.length-m.length)<n;omega,hwy,hmm,hgq',h9h⟩ rd))
 rw[show((w.path.length:Int)==8)=false from c8]at hc2
 refine qT 3 U (de ty204 (a14.mono h9h) U (qL 2 [0] U (aw (nN (k:=w.to) KW (dG kz) (h9h _ _ hbf) (hmF.mono (VSl.mono R7) h9h) (e8 zv24) (show VSl vL _ (.slice none 0 0) []from⟨none,0,U,zF⟩) U U (λv hv=>?_)))))
 obtain⟨xb,xc,rfl,slx⟩:=hv
 have hxs:∀y∈mgetD f w.to [],y∈st:=hgf w.to
 generalize mgetD f w.to []=xs at slx hc2 hxs
 refine qL 3 [] U ?_
 have hw7:w.path.length+1<=8:=by simp at c8;omega
 have hsum:=Bm (path:=w.path) hstl hw7 hxs hgq' hmm.nodup
 generalize hcs:conStep w.path xs m q=CS at hc2 hsum
 refine iA (ι:=List Value×Nat×Obj×HF) (λi=>[(2,.slice lF parties.length lE),(14,Q b14),(16,Q b16),(17,Q b17)]) (λi=>i.2.2.2) (λi=>[(b19,.cells (gN.cells w wr).toArray 207 (0,0)),(bc,.chan l.length i.1.toArray false i.2.1 (r+1) false),(bm,i.2.2.1)]++markB [dm])
  (λi=>uI i.2.2.2 i.1 CS.2/\ia (xB .i64) j0 i.2.2.2 i.2.2.1 CS.1/\uK st CS.1 CS.2/\hh.le i.2.2.2) ?_ (λhx2=>?_)
 .rintro⟨vs2,s2,om2,h10⟩ ⟨hw2,hm2,hg2,hle2⟩ e2
  exact eB (bj (L':=[(bc,.chan l.length vs2.toArray false s2 (r+1) false),(bm,om2)]++markB [dm]) js (ag (n,CS.1,CS.2,vs2,s2,r+1,om2,h10) _ (Nat.lt_succ_self _) ⟨hc2,by show CS.2.length+(l.length-CS.1.length)<n;omega,hw2,hm2,hg2,qF h9h hle2⟩ rd))
 refine kl (ι:=Nat×List (Int×Bool)×List gN×List Value×Nat×Obj×HF×List Interest) (λi=>[(2,.slice lF parties.length lE),(14,Q b14),(16,Q b16),(17,Q b17),(19,Q b19),(92,.slice xb xs.length xc),(93,I (xs.length:Int)),(94,I (i.1:Int))]) (λi=>i.2.2.2.2.2.2.1)
  (λi=>[(b19,.cells (gN.cells w wr).toArray 207 (0,0)),(bc,.chan l.length i.2.2.2.1.toArray false i.2.2.2.2.1 (r+1) false),(bm,i.2.2.2.2.2.1)]++markB [dm])
  (λi=>xs.drop i.1=i.2.2.2.2.2.2.2/\conStep w.path i.2.2.2.2.2.2.2 i.2.1 i.2.2.1=CS/\uI i.2.2.2.2.2.2.1 i.2.2.2.1 i.2.2.1/\ia (xB .i64) j0 i.2.2.2.2.2.2.1 i.2.2.2.2.2.1 i.2.1/\uK st i.2.1 i.2.2.1/\hh.le i.2.2.2.2.2.2.1)
  (λi=>i.2.2.2.2.2.2.2.length) (0,m,q,vs,s,om,hh,xs) rd (λw hw=>hw) ⟨rfl,hcs,hwy,hmm,hgq',jH _⟩ ?_
 rintro⟨i1,m2,q2,vs2,s2,om2,h10,rest⟩ ⟨hd1,hcs2,hw2,hm2,hg2,hle2⟩ ag2 e2
 dsimp only at hd1 hcs2 hw2 hm2 hg2 hle2
 rcases rest with _|⟨x,rest⟩
 .have hge:=oI hd1
  refine sr (fO hge U (qO 4 U ?_))
  obtain rfl:(m2,q2)=CS:=hcs2
  exact hx2 (vs2,s2,om2,h10) _ ⟨hw2,hm2,hg2,hle2⟩ rd
 have hlt:=tJ hd1
 have hget:=sQ hd1
 have hxst:x∈st:=hxs x (fS hd1)
 have hpty:(gN.mk (w.path++[x.No]) x.Party).to∈st.map (·.Party):=zM hxst
 have slx2:=slx.mono R7 hle2
 have hokp:=hok.path.mono zH hle2
 have gD:=slx.1.1
 have eA:=jv hd1
 have h910:h9.le h10:=qF h9h hle2
 refine sr (tO hlt U (qO 8 U (aw (iF jD ul ty54 slx2.1 hget U U U (λqx Ax=>dl ty54 Ax U U (aU zc54 (λb23=>aR 0 ty54 U U U U U U (aH ?_))))))))
 refine O5 (ι:=List Value×Nat×Obj×HF) (λi=>[(2,.slice lF parties.length lE),(14,Q b14),(16,Q b16),(17,Q b17),(19,Q b19),(92,.slice xb xs.length xc),(93,I (xs.length:Int)),(94,I (i1:Int))]) (λi=>i.2.2.2) (λi=>[(b19,.cells (gN.cells w wr).toArray 207 (0,0)),(bc,.chan l.length i.1.toArray false i.2.1 (r+1) false),(bm,i.2.2.1)]++markB [dm])
  (λi=>h10.le i.2.2.2/\uI i.2.2.2 i.1 (conPut ⟨w.path++[x.No],x.Party⟩ m2 q2).2/\ia (xB .i64) j0 i.2.2.2 i.2.2.1 (conPut ⟨w.path++[x.No],x.Party⟩ m2 q2).1) ?_ (λfin=>?_)
 .rintro⟨vs3,s3,om3,h11⟩ ⟨l11,hw3,hm3⟩ e3
  dsimp only at l11 hw3 hm3
  exact eB (bu (oi i1 U (qO 2 U (ag2 (i1+1,(conPut ⟨w.path++[x.No],x.Party⟩ m2 q2).1,(conPut ⟨w.path++[x.No],x.Party⟩ m2 q2).2,vs3,s3,om3,h11,rest) _ (Nat.lt_succ_self _) ⟨mY hd1,hcs2,hw3,hm3,tL hg2 hpty (by simpa using hw7),qF hle2 l11⟩ rd))))
 have hKs:∀p∈([(b23,.cells (jD x).toArray 54 (0,0)),(b19,.cells (gN.cells w wr).toArray 207 (0,0))]:LH),p∈([(b23,.cells (jD x).toArray 54 (0,0)),(b19,.cells (gN.cells w wr).toArray 207 (0,0)),(bc,.chan l.length vs2.toArray false s2 (r+1) false),(bm,om2)]++markB [dm]:LH):=λp hp=>by
  rcases qC.1 hp with rfl|hp
  .simp
  rw[xC.1 hp];simp
 have hJ:Jst h10 [(b23,.cells (jD x).toArray 54 (0,0)),(b19,.cells (gN.cells w wr).toArray 207 (0,0))] h10 ([(b23,.cells (jD x).toArray 54 (0,0)),(b19,.cells (gN.cells w wr).toArray 207 (0,0)),(bc,.chan l.length vs2.toArray false s2 (r+1) false),(bm,om2)]++markB [dm]):=⟨jH _,hKs⟩
 refine eQ [(b23,.cells (jD x).toArray 54 (0,0)),(b19,.cells (gN.cells w wr).toArray 207 (0,0))] mixed kr hJ (λhsep _=>?_)
 refine jk 0 hsep hJ U U kr U (rh ty208 (a17.mono h910) U) (jk 1 hsep hJ U U kr U (λ_ _ _=>tA Oy U) (jk 2 hsep hJ U U kr U (rj 1 ty31 U U U) (jk 4 hsep hJ U U kr U (λ_ _ _=>tA PN U) (jk 5 hsep hJ U U kr U (rj 0 ty3 U U U) (jk 8 hsep hJ U U kr U (λ_ _ _=>tA PM U) (jk 9 hsep hJ U U kr U (rj 0 ty3 U U U) ?_))))))
 have hpl8:w.path.length<=wr.zj:=hokp.2
 have hpn:=hokp.1.1
 refine mO 3 6 kr U U ?_ ?_
 .refine fg (v:=.slice wr.wU w.path.length w.path.length) call132 (sa h10 wr.wU w.path.length wr.zj hpl8) U ⟨hJ,tn 6 U (bB (cells:=[I x.No]) eG ty3 zc3 U U kr (λb6=>⟨⟨jH _,λp hp=>vA _ (hKs p hp)⟩,tn 7 U (Gm (R:=zC) (xs:=w.path) (ys:=[x.No]) eG ty3 zc3 U bytes3 (zb hokp.1) U U (fd 0 U (show bP zC h10 [I x.No] [x.No]from⟨[I x.No],[],U,U,U,U⟩)) (by simp) lo lo (λnb nc NG hNG=>⟨⟨jH _,λp hp=>jN NG (vA _ (hKs p hp))⟩,tn 10 U (eY (cells:=gN.cells ⟨w.path++[x.No],x.Party⟩ ⟨nb,nc⟩) (places:=[(0,1),(1,1)]) underlying207 zc207 kr kr ⟨⟨jH _,λp hp=>jN NG (vA _ (hKs p hp))⟩,tn 11 U (Gl zH [] NG ((b6,.cells [xB .i64 x.No].toArray 3 (0,0))::[(b23,.cells (jD x).toArray 54 (0,0)),(b19,.cells (gN.cells w wr).toArray 207 (0,0)),(bc,.chan l.length vs2.toArray false s2 (r+1) false),(bm,om2)]++markB [dm]) U hM hNG (λh11 l11 slN=>?_))⟩)⟩))⟩))⟩
  refine Hn (vs:=[.agg (gN.cells ⟨w.path++[x.No],x.Party⟩ ⟨nb,nc⟩).toArray]) [(bm,om2),(bc,.chan l.length vs2.toArray false s2 (r+1) false)] ([(b6,.cells [xB .i64 x.No].toArray 3 (0,0)),(b23,.cells (jD x).toArray 54 (0,0)),(b19,.cells (gN.cells w wr).toArray 207 (0,0))]++markB [dm]) ?_
   (mD h11 ⟨w.path++[x.No],x.Party⟩ ⟨nb,nc⟩ ⟨b15,0,none⟩ ⟨b16,0,none⟩ bm bc om2 m2 l.length s2 (r+1) vs2 q2 ⟨slN⟩ (a15.mono (h910.t l11)) (a16.mono (h910.t l11)) (hm2.mono j0.mono l11) (hw2.mono l11) (λhno=>by rw[hw2.len];exact xx hg2 hm2.nodup hpty hstl hno)) rfl rfl (λB hB=>?_)
  .exact xZ [(b6,.cells [xB .i64 x.No].toArray 3 (0,0)),(b23,.cells (jD x).toArray 54 (0,0)),(b19,.cells (gN.cells w wr).toArray 207 (0,0))] (markB [dm]) (bc,.chan l.length vs2.toArray false s2 (r+1) false) (bm,om2)
  obtain⟨om3,vs3,s3,hm3,hw3,rfl⟩:=hB
  exact⟨⟨l11,λp hp=>by rcases hp with _|⟨_,_|⟨_,h⟩⟩;simp;simp;cases h⟩,nr (K2:=[(b23,.cells (jD x).toArray 54 (0,0)),(b19,.cells (gN.cells w wr).toArray 207 (0,0))]) l11 (λ_ hp=>hp) (aN kr (oo (xZ [(b6,.cells [xB .i64 x.No].toArray 3 (0,0)),(b23,.cells (jD x).toArray 54 (0,0)),(b19,.cells (gN.cells w wr).toArray 207 (0,0))] (markB [dm]) (bc,.chan l.length vs3.toArray false s3 (r+1) false) (bm,om3)).symm (bj (L':=[(b19,.cells (gN.cells w wr).toArray 207 (0,0)),(bc,.chan l.length vs3.toArray false s3 (r+1) false),(bm,om3)]++markB [dm]) js (fin (vs3,s3,om3,h11) _ ⟨l11,hw3,hm3⟩ rd))))⟩
 refine bB (cells:=[I x.No]) eG ty3 zc3 U U kr (λb6=>⟨⟨jH _,λp hp=>vA _ (hKs p hp)⟩,tn 3 U (fg (v:=.slice wr.wU w.path.length w.path.length) call132 (sa h10 wr.wU w.path.length wr.zj hpl8) U ⟨⟨jH _,λp hp=>vA _ (hKs p hp)⟩,tn 7 U (Gm (R:=zC) (xs:=w.path) (ys:=[x.No]) eG ty3 zc3 U bytes3 (zb hokp.1) U U (fd 0 U (show bP zC h10 [I x.No] [x.No]from⟨[I x.No],[],U,U,U,U⟩)) (by simp) lo lo (λnb nc NG hNG=>⟨⟨jH _,λp hp=>jN NG (vA _ (hKs p hp))⟩,tn 10 U (eY (cells:=gN.cells ⟨w.path++[x.No],x.Party⟩ ⟨nb,nc⟩) (places:=[(0,1),(1,1)]) underlying207 zc207 kr kr ⟨⟨jH _,λp hp=>jN NG (vA _ (hKs p hp))⟩,tn 11 U (Gl zH [] NG ((b6,.cells [xB .i64 x.No].toArray 3 (0,0))::[(b23,.cells (jD x).toArray 54 (0,0)),(b19,.cells (gN.cells w wr).toArray 207 (0,0)),(bc,.chan l.length vs2.toArray false s2 (r+1) false),(bm,om2)]++markB [dm]) U hM hNG (λh11 l11 slN=>?_))⟩)⟩))⟩)⟩)
 refine Hn (vs:=[.agg (gN.cells ⟨w.path++[x.No],x.Party⟩ ⟨nb,nc⟩).toArray]) [(bm,om2),(bc,.chan l.length vs2.toArray false s2 (r+1) false)] ([(b6,.cells [xB .i64 x.No].toArray 3 (0,0)),(b23,.cells (jD x).toArray 54 (0,0)),(b19,.cells (gN.cells w wr).toArray 207 (0,0))]++markB [dm]) ?_
  (mD h11 ⟨w.path++[x.No],x.Party⟩ ⟨nb,nc⟩ ⟨b15,0,none⟩ ⟨b16,0,none⟩ bm bc om2 m2 l.length s2 (r+1) vs2 q2 ⟨slN⟩ (a15.mono (h910.t l11)) (a16.mono (h910.t l11)) (hm2.mono j0.mono l11) (hw2.mono l11) (λhno=>by rw[hw2.len];exact xx hg2 hm2.nodup hpty hstl hno)) rfl rfl (λB hB=>?_)
 .exact xZ [(b6,.cells [xB .i64 x.No].toArray 3 (0,0)),(b23,.cells (jD x).toArray 54 (0,0)),(b19,.cells (gN.cells w wr).toArray 207 (0,0))] (markB [dm]) (bc,.chan l.length vs2.toArray false s2 (r+1) false) (bm,om2)
 obtain⟨om3,vs3,s3,hm3,hw3,rfl⟩:=hB
 exact⟨⟨l11,λp hp=>by rcases hp with _|⟨_,_|⟨_,h⟩⟩;simp;simp;cases h⟩,nr (K2:=[(b23,.cells (jD x).toArray 54 (0,0)),(b19,.cells (gN.cells w wr).toArray 207 (0,0))]) l11 (λ_ hp=>hp) (aN kr (oo (xZ [(b6,.cells [xB .i64 x.No].toArray 3 (0,0)),(b23,.cells (jD x).toArray 54 (0,0)),(b19,.cells (gN.cells w wr).toArray 207 (0,0))] (markB [dm]) (bc,.chan l.length vs3.toArray false s3 (r+1) false) (bm,om3)).symm (bj (L':=[(b19,.cells (gN.cells w wr).toArray 207 (0,0)),(bc,.chan l.length vs3.toArray false s3 (r+1) false),(bm,om3)]++markB [dm]) js (fin (vs3,s3,om3,h11) _ ⟨l11,hw3,hm3⟩ rd))))⟩
theorem ui(h:HF)(eS:Int)(q:aD)(mq:gK)(q_q:Addr)(at_:Int)(at__q:Addr)(hq:aD.ok h q mq)(aq:At h q_q (aD.cells q mq))(aat_:At h at__q [I at_])(hsm:smR q.Register):Ret prog 80 [I eS,.pointer (some q_q),.pointer (some at__q)] h (.bool (bQ eS q at_)):=by
 refine sT func80 U ntmps80 U λX hM hX hF=>?_
 have hs0:=@rfl _ (bQ eS q at_)
 refine qK 8 [] U (ky (j:=2) ty24 aq U U (qL 3 [] U (ky (j:=13) ty31 aq U U (de ty3 aat_ U (qL 1 [] U (ky (j:=48) ty3 aq U U (aw (cJ call81 (pN _ _ _ _ eS _ _ _ at_ q.known hq.Register.Interests hq.doc.Parties hsm.2.2.2.1) U (λv1 h1 hle1 hp1=>?_)))))))))
 obtain⟨rb1,rc1,rfl,sl1⟩:=hp1
 refine qO 13 U (cn 2 [25,26,27] 25 27 ((cQ q.Register.Interests eS q.doc.Parties at_ q.known).2.1) U (λc1 hk1=>?_) (λe=>?_))
 .exact ao (eM U (hk1 _ U))
 exact an (nretP [.bool (((cQ q.Register.Interests eS q.doc.Parties at_ q.known).2.2 != 0)||(cQ q.Register.Interests eS q.doc.Parties at_ q.known).2.1)] (cs hs0))
theorem zz{h:HF}:∀{cl:List Value}{xs:List Int},bP zC h cl xs->cl=xs.map (xB .i64)
 |_,[],hc=>hc
 |_,x::xs,⟨cs_z,rest,e,_,hr,hc⟩=>by
  have:cs_z=[I x]:=hr
  rw[e,this,zz hc];rfl
theorem Ad(h:HF):∀xs:List Int,bP zC h (xs.map (xB .i64)) xs
 |[]=>rfl
 |x::xs=>⟨[I x],xs.map (xB .i64),rfl,rfl,rfl,Ad h xs⟩
theorem Jm(f:Int->Bool):∀(l:List Int)(i:Nat),(cK.L1 f cK.K1 l i=-1/\∀x∈l,f x=false) \/
  ∃a y b,l=a++y::b/\cK.L1 f cK.K1 l i=((i+a.length:Nat):Int)/\f y=true/\∀x∈a,f x=false
 |[],i=>.inl ⟨rfl,λ_ h=>(jA h).elim⟩
 |y::l,i=>by
  simp only[cK.L1]
  cases hy:f y with
  |true=>exact .inr ⟨[],y,l,rfl,by simp,hy,λ_ h=>(jA h).elim⟩
  |false=>
   rcases Jm f l (i+1)with⟨h1,h2⟩|⟨a,z,b,rfl,h2,h3,h4⟩
   .exact .inl ⟨h1,λx hx=>by rcases qC.1 hx with rfl|hx;exact hy;exact h2 x hx⟩
   refine .inr ⟨y::a,z,b,rfl,?_,h3,λx hx=>by rcases qC.1 hx with rfl|hx;exact hy;exact h4 x hx⟩
   rw[cond_false,h2];simp only[zA];congr 1;omega
theorem CX{l:List Int}(h:∀x∈l,q x=false):(l.filter λx=>!(q x))=l:=by
 rw[List.filter_eq_self];intro x hx;simp[h x hx]
theorem OK{s zs:List Int}{i j:Nat}{y:Int}(hij:i<j)(hz:zs.length=s.length)(hj:s[j]? = some y)(ht:zs.take i=(s.take j).filter λx=>!(q x))(hd:zs.drop j=s.drop j)(hy:q y=false):
  (zs.set i y).take (i+1)=((s.take (j+1)).filter λx=>!(q x))/\(zs.set i y).drop (j+1)=s.drop (j+1):=by
 have hjl:j<s.length:=by
  rcases vK j s.length with h|h
  .exact h
  simp[xJ h]at hj
 constructor
 .rw[List.take_add_one,List.take_set_of_le (xG _),ht,List.take_add_one,hj,List.filter_append]
  simp[hy,show i<zs.length from by omega]
 rw[List.drop_set_of_lt ob,←List.drop_drop,hd,List.drop_drop]
theorem OJ{s zs:List Int}{i j:Nat}{y:Int}(hj:s[j]? = some y)(ht:zs.take i=(s.take j).filter λx=>!(q x))(hd:zs.drop j=s.drop j)(hy:q y=true):
  zs.take i=((s.take (j+1)).filter λx=>!(q x))/\zs.drop (j+1)=s.drop (j+1):=by
 constructor
 .rw[List.take_add_one,hj,List.filter_append,ht];simp[hy]
 rw[←List.drop_drop,hd,List.drop_drop]
theorem D3{w:World}{bk i n cc:Nat}{cl:List Value}(hb:w.heap[bk]? = some (.cells cl.toArray 3 (0,0)))(hle:i+(n+1)<=cl.length)(ty:TypeId):
  (Builtin.clear_ #[31] ty #[.slice (some ⟨bk,i,none⟩) (n+1) cc]).run prog w=.ok (.tuple #[]) { w with heap:=w.heap.setIfInBounds bk (.cells (splice cl i (List.replicate (n+1) (I 0))).toArray 3 (0,0)) }:=by
 have hz:(zeroValue 3).run prog w=.ok (I 0) w:=e8 kr w
 have h9:=lJ (P:=prog) i (List.replicate (n+1) (I 0)) 0 cl w hb (by simpa using hle) (λv hv=>by rw[(List.mem_replicate.1 hv).2];rfl)
 rw[Nat.add_zero]at h9
 have hzc:(Builtin.zeroCells (xB .i64 0).cells (n+1)).toList=List.replicate (n+1) (xB .i64 0):=by
  simp[Builtin.zeroCells,Value.cells]
  rw[List.eq_replicate_iff]
  refine⟨by simp,λx hx=>?_⟩
  obtain⟨j,_,rfl⟩:=List.mem_map.1 hx
  simp[Nat.mod_one]
 simp only[Builtin.clear_,Sem.run_bind]
 simp[run_underlying eG,hz,hzc,h9]
theorem tU(h:HF)(s:List Int)(b:Option Addr)(c:Nat)(G:LH)(del:Int->Bool)(del_v:Value)(hG:dA zC 3 h s b c G)(hdel:∀(h':HF)(cj:Int),kK h h'->sZ prog del_v [I cj] h' [] (.bool (del cj)))(hsz:s.length<=2000000):
  nL prog 82 [.slice b s.length c,del_v].toArray h G (λr h' G'=>h'=h/\r=.returned (.slice b (ce s del).length c)/\dA zC 3 h (ce s del) b c G'):=by
 refine cD func82 U ntmps82 U λX hM hX=>qT 8 U (aw (AB [] G [] call116 zH hG (by simp) (λh1 hle hsl=>oM h1 s b c del del_v hsl (λh' a hl=>hdel h' a (hle.t hl))) U (qO 6 U ?_)))
 have hcase:=Jm del s 0
 rw[show cK.L1 del cK.K1 s 0=cK s del from rfl]at hcase
 rcases hcase with⟨h1,h2⟩|⟨a,y,r,hs,h1,hy,ha⟩
 .rw[h1]
  refine iq (v':=.bool true) U U (qO 7 U ?_)
  have hf:ce s del=s:=CX h2
  refine m9 func82 (λa ha w hw=>res1 U a ha w) (λw hw=>hw.lower) ⟨hX,?_,?_⟩
  .rw[hf];rfl
  rw[hf];exact hG
 rw[h1,Nat.zero_add]
 have hne:((a.length:Int)==-1)=false:=by simp
 have hsl:s.length=a.length+(r.length+1):=by rw[hs];simp
 refine fO hne U (qO 7 U (iq (v':=I ((a.length+1:Nat):Int)) U (Ab ob) (an ?_)))
 refine iA (ι:=Nat×List Int×LH) (λi=>[(0,.slice b s.length c),(1,del_v),(5,I (i.1:Int))]) (λi=>h) (λi=>i.2.2)
  (λi=>i.1<s.length/\i.2.1.length=s.length/\i.2.1.take i.1=ce s del/\dA zC 3 h i.2.1 b c i.2.2) ?_ (λhx=>?_)
 .rintro⟨i,zs,G'⟩ ⟨hi,hz,hf,hG'⟩ e
  dsimp only at hi hz hf hG'
  rcases hG' with⟨rfl,_⟩|⟨bk,cl,sp,rfl,hcl,h3,h4,h5,rfl⟩
  .simp at hz;omega
  have hcl':=zz hcl
  subst hcl'
  have hcz:zs.length<=c:=h4
  have h3':zs.length+sp.length=c:=by simpa[zC]using h3
  have hz2:0<=(i:Int)/\(i:Int)<=(s.length:Int):=by omega
  have hzn:(i:Int).toNat=i:=by omega
  have hgf:dA zC 3 h zs (some ⟨bk,0,none⟩) c [(bk,.cells (zs.map (xB .i64)++sp).toArray 3 (0,0))]:=.inr ⟨bk,_,sp,rfl,hcl,h3,h4,h5,rfl⟩
  obtain⟨m,hm⟩:∃m,s.length-i=m+1:=⟨s.length-i-1,by omega⟩
  refine qT 4 U (aw (ff (v:=.slice (some ⟨bk,i,none⟩) (m+1) (c-i)) (Mp eG ty3 U U ob ob hm) ?_))
  refine aw (iM U λw hw=>⟨.tuple #[],_,h,_,?_,hw.write (i:=0) U (.cells (splice (zs.map (xB .i64)++sp) i (List.replicate (m+1) (I 0))).toArray 3 (0,0)),?_⟩)
  .have:=D3 (w:=w) (i:=i) (n:=m) (cc:=c-i) (hw.own _ (xC.2 rfl)) (by simp;omega)
   simp only[execOp,resolve,invoke,builtin]
   simp[Env.ev,upd,upds,pute,this]
  have hsp:∃sp',splice (zs.map (xB .i64)++sp) i (List.replicate (m+1) (I 0))=(zs.take i).map (xB .i64)++sp':=by
   have e1:zs.map (xB .i64)++sp=(zs.take i).map (xB .i64)++((zs.drop i).map (xB .i64)++sp):=by
    rw[←qE,←List.map_append,List.take_append_drop]
   rw[e1]
   have e2:i=((zs.take i).map (xB .i64)).length:=by simp;omega
   have:=um (List.replicate (m+1) (I 0)) ((zs.take i).map (xB .i64)) ((zs.drop i).map (xB .i64)++sp) (by simp;omega)
   rw[←e2]at this
   exact⟨_,this⟩
  obtain⟨sp',hsp⟩:=hsp
  have hlen:((zs.take i).map (xB .i64)++sp').length=c*Rp.int.sz:=by
   rw[←hsp,yO];exact h3
  rw[hsp]
  have hg2:dA zC 3 h (zs.take i) (some ⟨bk,0,none⟩) c [(bk,.cells ((zs.take i).map (xB .i64)++sp').toArray 3 (0,0))]:=
   .inr ⟨bk,_,sp',rfl,Ad h _,hlen,by rw[List.length_take];omega,by rw[List.length_take];omega,rfl⟩
  refine qO 5 U (aw (DZ (z:=(i:Int)) eG ty3 hgf ob (by show _=Value.slice _ _ _;rw[hz];rfl) U U (an ?_)))
  refine m9 func82 (λa ha w hw=>res1 U a ha w) (λw hw=>hw.lower) ⟨hX,?_,?_⟩
  .rw[←hf,hzn];rfl
  rw[←hf];exact hg2
 refine kl (ι:=Nat×Nat×List Int×LH) (λi=>[(0,.slice b s.length c),(1,del_v),(5,I (i.1:Int)),(6,I (i.2.1:Int))]) (λi=>h) (λi=>i.2.2.2)
  (λi=>i.1<i.2.1/\i.2.1<=s.length/\i.2.2.1.length=s.length/\i.2.2.1.take i.1=((s.take i.2.1).filter λx=>!(del x))/\i.2.2.1.drop i.2.1=s.drop i.2.1/\dA zC 3 h i.2.2.1 b c i.2.2.2)
  (λi=>s.length-i.2.1) (a.length,a.length+1,s,G) rd (λw hw=>hw) ⟨Nat.lt_succ_self _,by show a.length+1<=s.length;omega,rfl,?_,rfl,hG⟩ ?_
 .show s.take a.length=((s.take (a.length+1)).filter λx=>!(del x))
  rw[hs,List.take_left' rfl,List.take_add_one,List.take_left' rfl,List.filter_append,CX ha];simp[hy]
 rintro⟨i,j,zs,G'⟩ ⟨hij,hjl,hz,ht,hd,hG'⟩ ag e
 dsimp only at hij hjl hz ht hd hG'
 rcases vK j s.length with hj|hj
 .have hjs:s[j]? = some s[j]:=vF hj
  have hjz:zs[j]? = some s[j]:=by
   have e1:(zs.drop j)[0]? = (s.drop j)[0]?:=by rw[hd]
   simpa[hjs]using e1
  obtain⟨bk,hbk⟩:=hG'.yl ob
  have hiz:zs[i]? = some zs[i]:=vF ob
  refine qK 6 [] U (tO (decide_eq_true ob) U (qO 9 U (aw (ff (nX (R:=zC) (xs:=zs) (z:=(j:Int)) eG ty3 hbk ob U hz.symm U) (aw (ff (Cu (R:=zC) (off:=0) (i:=j) ty3 hG' hbk hjz (λcs_z hcs=>by rw[show cs_z=[I s[j]]from hcs];rfl) (by rfl) (λp hp=>hp)) (qO 6 U (aw (lX (v:=.bool (del s[j])) [] (List.nil_sublist _) (hdel h s[j] lf) U U ?_)))))))))
  cases hy:del s[j]with
  |true=>
   obtain⟨k1,k2⟩:=OJ hjs ht hd hy
   exact lL U (qO 6 U (oi j U (an (ag (i,j+1,zs,G') _ (by show s.length-(j+1)<s.length-j;omega) ⟨by show i<j+1;omega,hj,hz,k1,k2,hG'⟩ rd))))
  |false=>
   obtain⟨k1,k2⟩:=OK hij hz hjs ht hd hy
   refine qO 8 U (aw (ff (nX (R:=zC) (xs:=zs) (z:=(i:Int)) eG ty3 hbk ob U hz.symm U) (aw (AA (R:=zC) (i:=i) (off:=0) (u:=zs[i]) (u':=s[j]) (v:=I s[j]) [] G' [] ty3 U hG' (by simp) hbk hiz (by decide) (λcs_z hcs=>by rw[show cs_z=[I zs[i]]from hcs];rfl) (by rfl) U U (λG2 hG2=>?_)))))
   rw[List.nil_append,List.append_nil]
   exact aH (qT 2 U (oi i U (qO 5 U (oi j U (an (ag (i+1,j+1,zs.set i s[j],G2) _ (by show s.length-(j+1)<s.length-j;omega) ⟨by show i+1<j+1;omega,hj,by show(zs.set i s[j]).length=s.length;simpa using hz,k1,k2,hG2⟩ rd))))))
 have hje:j=s.length:=by omega
 subst hje
 exact qK 6 [] U (fO (decide_eq_false ob) U (qO 3 U (hx (i,zs,G') _ ⟨hij,hz,by show zs.take i=_;rw[ht,List.take_length];rfl,hG'⟩ rd)))
theorem yp(h:HF)(s:List Int)(pU:Option Addr)(pI:Nat)(v:Int)(hs:SlC zC h pU pI s):Ret prog 117 [.slice pU s.length pI,I v] h (I (fm s v)):=by
 refine sT func117 U ntmps117 U λX hM hX hF=>?_
 have hs0:=@rfl _ (fm s v)
 refine qK 11 [] U ?_
 refine lp0 s (λi=>[(0,.slice pU s.length pI),(1,I v),(7,I (s.length:Int)),(8,I (i:Int))]) ([]) (λs1 i=>(fm.L1 v (fm.K1)) s1 i) hs.1.1 hs0 ?_ ?_
 .rintro i1 fB hs1 e
  exact sr (an (nretP [I (-1)] (ci hs1)))
 rintro i1 y1 rz1 hd1 du bo eA gD hs3 hx1 ag1 e
 refine sr (tO du U (qO 16 U (aw (iF (λy=>[I y]) eG ty3 hs.1 bo U U U (λq2 A2=>de ty3 A2 U (qO 2 U (ae hs3 U (λc2 hs4=>?_) (λc2 hs5=>?_))))))))
 .exact sr (qO 3 U (nretP [I (i1:Int)] (ci hs4)))
 exact aQ (qT 2 U (oi i1 U (qO 2 U (ag1 hs5))))
theorem mR(h:HF)(s:List Int)(pU:Option Addr)(pI:Nat)(v:Int)(hs:SlC zC h pU pI s):Ret prog 69 [.slice pU s.length pI,I v] h (.bool (eH s v)):=by
 refine sT func69 U ntmps69 U λX hM hX hF=>?_
 have hs0:=@rfl _ (eH s v)
 exact sr (qO 6 U (ai call117 (yp _ _ _ _ v hs) U (qO 3 U (nretP [.bool (decide (0<=(fm s v)))] (cs hs0)))))
theorem ow(h:HF)(eS:Int)  : Ret prog 118 [I eS] h (.bool (fN eS)):=by
 refine sT func118 U ntmps118 U λX hM hX hF=>?_
 have hs0:=@rfl _ (fN eS)
 refine qT 9 U (bD 3 [5,6,7,8] 5 8 (decide (eS<1099511627776)) U (λc1 hk1=>?_) (λe=>?_))
 .exact ao (qO 2 U (hk1 _ U))
 exact an (nretP [.bool (decide (0<=eS)&&decide (eS<1099511627776))] (cs hs0))
theorem vX(h:HF)(l:List Version)(fq:Option Addr)(fp:Nat)(l_q:Addr)(known:Int)(known_q:Addr)(eW:Int)(from__q:Addr)(hl:SlC jQ h fq fp l)(al:At h l_q [.slice fq l.length fp])(aknown:At h known_q [I known])(afrom_:At h from__q [I eW])(hsz:l.length<=2000000):Itr prog (.func (.func 184) #[] (kB [.pointer (some l_q),.pointer (some known_q),.pointer (some from__q)])) rk (bH l known eW) h:=by
 refine rl call184 ?_
 intro yf ya yb C Sp Pn h1 A hle m1 m2 m3 hC hy
 refine iN M3 U ntmps184 U λX hXM hX=>?_
 have hs0:bH l known eW=[]++bH l known eW:=rfl
 refine sr (aw (NF hXM (λb1 b1M=>qO 9 U (de ty26 (al.mono hle) U (qL 3 [] U ?_)))))
 refine lp2 l (λi w=>[(0,.func yf ya yb),(2,.pointer (some known_q)),(3,.pointer (some from__q)),(5,.map (some b1)),(6,I w.1),(13,.slice fq l.length fp),(14,I (l.length:Int)),(15,I (i:Int))]) (λ_=>h1) (λw=>[(b1,w.2.2)]++(A)) (λi w=>ia (xB .i64) (iY jQ) h1 w.2.2 w.2.1/\w.2.1.length<=0+i) (λs1 i w=>[]++(bH.L1 known eW (bH.K1)) s1 w.1 w.2.1) ((-1),[],.map #[] 0) ((hl.mono vV hle).1.1) hs0 ⟨(ia.nil (enc:=(xB .i64)) (V:=(iY jQ)) (h:=h1)),lc⟩ ?_ ?_
 .rintro i1 ⟨nn,bC,gY⟩ fB hs1 ⟨fK,nH⟩ e
  try dsimp only at fK nH
  refine qT 3 U (DO 0 U b1M (λh8 hle7 hb3=>?_))
  have mc2:re (xB .i64) (iY jQ) h8 b1 bC:=⟨_,hb3,fK.mono (iY.mono vV) hle7⟩
  refine aw (cJ call185 (w4 h8 bC b1 mc2) U (λv4 h9 hle8 hp3=>aw (cJ call77 (nV h9 v4 (bC.map Prod.fst) hp3 (by rw[List.length_map];omega)) U (λv5 h10 hle9 hp4=>?_))))
  obtain⟨rb2,rc2,rfl,sl2⟩:=hp4
  refine qL 3 [] U ?_
  refine lp2 (sortI (bC.map Prod.fst)) (λi w=>[(0,.func yf ya yb),(5,.map (some b1)),(39,.slice rb2 ((sortI (bC.map Prod.fst)).length) rc2),(40,I ((sortI (bC.map Prod.fst)).length:Int)),(41,I (i:Int))]) (λw=>w.2.2) (λw=>w.2.1) (λi w=>C w.1 w.2.2 w.2.1/\kK h10 w.2.2) (λs2 i w=>w.1++(bH.L2 bC (bH.K2)) s2) ([],A,h10) sl2.1.1 hs1 ⟨(m1 _ _ _ _ ((hle7.t hle8).t hle9) hC),lf⟩ ?_ ?_
  .rintro i2 ⟨dn2,A2_,hh2⟩ BZ hs2 ⟨hC2_,hl2⟩ e
   try dsimp only at hC2_ hl2
   refine dQ ?_
   have hs3:bH l known eW=dn2:=hs2.trans (List.append_nil _)
   exact rm [] (A:=A2_) M3 U (List.Sublist.refl _) (.inl (hs3▸hC2_))
  rintro i2 ⟨dn2,A2_,hh2⟩ y2 rz2 hd2 wk sF EP Kw hs4 ⟨hC2_,hl2⟩ hx2 ag1 e
  try dsimp only at hC2_ hl2
  refine sr (tO wk U (qO 8 U (aw (iF (λy=>[I y]) eG ty3 (sl2.mono zH hl2).1 sF U U U (λq4 A10=>de ty3 A10 U (qO 8 U ?_))))))
  obtain⟨o3,hb5,hm5⟩:=(mc2.mono (iY.mono vV) ((hle8.t hle9).t hl2))
  refine aw (nN (k:=y2) M5 (dG kz) hb5 hm5 (e8 zv96) (show(iY jQ) _ (.agg (kB [I 0,I 0,I 0,.string (⟨#[]⟩:ByteArray),.slice none 0 0,.slice none 0 0,.slice none 0 0,I 0,I 0,I 0,.string (⟨#[]⟩:ByteArray),.slice none 0 0,I 0])) (Sv 0 0 0 (qM (⟨#[]⟩:ByteArray) [] [] [] (vG 0 0 0 (⟨#[]⟩:ByteArray) []) 0))from⟨_,U,(pE.mk (eU.mk none 0 none 0 none 0 (cY.mk none 0))),U,⟨⟨zF,zF,zF,(Expr.ok.of zF)⟩⟩⟩) U U (λv7 hv3=>?_))
  obtain⟨_,rfl,rr4,rfl,ok4⟩:=hv3
  have hx3:bH l known eW=dn2++((y2,(mgetD bC y2 (Sv 0 0 0 (qM (⟨#[]⟩:ByteArray) [] [] [] (vG 0 0 0 (⟨#[]⟩:ByteArray) []) 0))))::(bH.L2 bC (bH.K2) rz2)):=hs4
  refine aw (j2 ([]) A2_ ap (hy dn2 (y2,(mgetD bC y2 (Sv 0 0 0 (qM (⟨#[]⟩:ByteArray) [] [] [] (vG 0 0 0 (⟨#[]⟩:ByteArray) []) 0)))) _ _ _ _ hx3 (((hle7.t hle8).t hle9).t hl2) hC2_ ⟨rr4,U,ok4⟩) U U (λh14 A11 hle13 hC3=>?_) (λh15 A12 hle14 hS3=>?_) (λch3 h16 A13 hle15 hP3 e=>gk (mC [] (A:=A13) M3 (List.sublist_append_right _ _) hP3)))
  .have hs5:bH l known eW=(dn2++[(y2,(mgetD bC y2 (Sv 0 0 0 (qM (⟨#[]⟩:ByteArray) [] [] [] (vG 0 0 0 (⟨#[]⟩:ByteArray) []) 0))))])++((bH.L2 bC (bH.K2) rz2)):=hx3.trans ap
   exact lL U (qO 5 U (oi i2 U (qO 2 U (ag1 ((dn2++[(y2,(mgetD bC y2 (Sv 0 0 0 (qM (⟨#[]⟩:ByteArray) [] [] [] (vG 0 0 0 (⟨#[]⟩:ByteArray) []) 0))))]),A11,h14) hs5 ⟨hC3,(hl2.t hle13)⟩))))
  exact lL U (qO 2 U (dQ (mi [] (A:=A12) M3 U (List.Sublist.refl _) (.inr hS3))))
 rintro i1 ⟨nn,bC,gY⟩ y1 rz1 hd1 du bo eA gD hs6 ⟨fK,nH⟩ hx1 ag2 e
 try dsimp only at fK nH
 refine sr (tO du U (qO 8 U (aw (iR wC ty96 (hl.mono vV hle).1 bo U U U (λ_ _ _ e=>e) (λq5 r2 A14 ok5=>dl ty96 A14 U U (aU zc96 (λb3=>aR 0 ty96 U U U U U U (gS (L':=[(b3,O (kS y1 r2) 96),(b1,gY)]++(A)) U (qL 6 [0] U (de ty3 (aknown.mono hle) U (qO 2 U (jf U (λc5=>?_) (λc5=>?_)))))))))))))
 .have c5p:=of_decide_eq_true c5
  have hs7:=hs6.trans (congrArg ([]++·) (bt c5))
  exact mr U (bu (oi i1 U (qO 2 U (bj (L':=[(b1,gY)]++(A)) js (ag2 (nn,bC,gY) hs7 ⟨fK,lc⟩)))))
 have c5p:=of_decide_eq_false c5
 have hs8:=hs6.trans (congrArg ([]++·) (bf c5))
 refine qK 11 [0] U (de ty3 (afrom_.mono hle) U (qO 2 U (jf U (λc6=>?_) (λc6=>?_))))
 .have c6p:=of_decide_eq_true c6
  have hs9:=hs8.trans (congrArg ([]++·) (bt c6))
  refine qT 7 U (jf U (λc7=>?_) (λc7=>?_))
  .have c7p:=of_decide_eq_true c7
   have hs10:=hs9.trans (congrArg ([]++·) (bt c7))
   exact mr U (bu (oi i1 U (qO 2 U (bj (L':=[(b1,gY)]++(A)) js (ag2 (nn,bC,gY) hs10 ⟨fK,lc⟩)))))
  have c7p:=of_decide_eq_false c7
  have hs11:=hs9.trans (congrArg ([]++·) (bf c7))
  exact aQ (eQ ([(b3,O (kS y1 r2) 96),(b1,gY)]) mixed kr jn (λeF _=>tm 0 U (tf 1 U U (rh ty3 (afrom_.mono hle) U) (qA [2,3] U (aN kr (qT 3 U (cI 0 ty96 U U U (aw (iZ 1 (k:=eW) (x:=y1) M5 (dG kz) U fK U U ⟨_,U,r2,U,ok5⟩ (λmo3 hm6=>qO 3 U (oi i1 U (qO 2 U (bj (L':=[(b1,mo3)]++(A)) js (ag2 (y1.At,(mput bC eW y1),mo3) hs11 ⟨hm6,(by have:=gy bC eW y1;first|omega|(simp only[vB,zA]at *;omega))⟩))))))))))))))
 have c6p:=of_decide_eq_false c6
 have hs12:=hs8.trans (congrArg ([]++·) (bf c6))
 exact aQ (qT 3 U (cI 0 ty96 U U U (aw (iZ 1 (k:=y1.At) (x:=y1) M5 (dG kz) U fK U U ⟨_,U,r2,U,ok5⟩ (λmo4 hm7=>qO 3 U (oi i1 U (qO 2 U (bj (L':=[(b1,mo4)]++(A)) js (ag2 (nn,(mput bC y1.At y1),mo4) hs12 ⟨hm7,(by have:=gy bC y1.At y1;first|omega|(simp only[vB,zA]at *;omega))⟩)))))))))
theorem yo(h:HF)(l:List Version)(fq:Option Addr)(fp:Nat)(dR:Int)(known:Int)(hl:SlC jQ h fq fp l)(hsz:l.length<=2000000):jY prog 119 [.slice fq l.length fp,I dR,I known] h (λv h'=>∃(rv0:Value),v=rv0/\Itr prog rv0 rk (gg l dR known) h'):=by
 refine sT func119 U ntmps119 U λX hM hX hF=>?_
 have hs0:=@rfl _ (gg l dR known)
 refine sr (ct (λb1=>ct (λb2=>ct (λb3=>qO 4 U (aP 2 U hM (λh1 hle1 hb1=>aP 0 U hM (λh2 hle2 hb2=>aP 0 U hM (λh3 hle3 hb3=>aw (dS U U (qO 2 U ?_))))))))))
 have hs1:gg l dR known=(bH l known dR):=hs0
 exact nretH [.func (.func 184) #[] #[Q b1,Q b3,Q b2]] (hs1▸⟨(.func (.func 184) #[] #[Q b1,Q b3,Q b2]),U,(vX h3 l fq fp ⟨b1,0,none⟩ known ⟨b3,0,none⟩ dR ⟨b2,0,none⟩ (hl.mono vV ((hle1.t hle2).t hle3)) ((bI hb1).mono (hle2.t hle3)) ((bI hb2).mono hle3) (bI hb3) ob)⟩)
theorem rW(h:HF)(l:List Version)(fq:Option Addr)(fp:Nat)(begun:Int)(ba:Int)(known:Int)(hl:SlC jQ h fq fp l)(hsm:smV l)(hk:Kinds h):jY prog 70 [.slice fq l.length fp,I begun,I ba,I known] h (λv h'=>∃(rb0:Option Addr)(rc0:Nat),v=.tuple #[.slice rb0 ((aK l begun ba known).1).length rc0,I ((aK l begun ba known).2.1),I ((aK l begun ba known).2.2)]/\SlC zC h' rb0 rc0 ((aK l begun ba known).1)):=by
 refine cD Il U ntmps70 U λX hM hX=>?_
 have hs0:=@rfl _ (aK l begun ba known)
 have hsl:=hsm.len
 refine sr (ct (λb1=>ct (λb2=>qO 8 U (ai call52 (qw _ _ _ _ hl ob hk) U (qO 7 U (ae hs0 U (λc1 hs1=>?_) (λc1 hs2=>?_)))))))
 .refine qT 7 U ?_
  have hs3:aK l begun ba known=([],0,(bJ l)):=hs1
  exact il [.slice none 0 0,I 0,I (bJ l)] Il U rd ⟨none,0,congrArg (λr:(List Int×Int×Int)=>(.tuple #[.slice none r.1.length 0,I r.2.1,I r.2.2]:Value)) hs3.symm,(by rw[hs3];exact zF)⟩
 refine qK 5 [1] U (ai call118 (ow h begun) U (qO 2 U (cn 4 [25,26,27,28,29] 25 29 (!(fN ba)) U (λc2 hk1=>?_) (λe=>?_))))
 .exact qL 1 [0] U (ai call118 (ow h ba) U (qO 2 U (hk1 _ U)))
 refine ao (cn 4 [30,31,32,33,34] 30 34 (!(fN known)) U (λc3 hk2=>?_) (λe=>?_))
 .exact ao (ai call118 (ow h known) U (qO 2 U (hk2 _ U)))
 refine ao (cn 4 [35,36,37,38,39] 35 39 (decide (ba<begun)) U (λc4 hk3=>?_) (λe=>?_))
 .exact qL 4 [1,0] U (hk3 _ U)
 refine aH (ae hs2 U (λc5 hs4=>?_) (λc5 hs5=>?_))
 .refine qT 6 U ?_
  have hs6:aK l begun ba known=([],0,1):=hs4
  exact il [.slice none 0 0,I 0,I 1] Il U rd ⟨none,0,congrArg (λr:(List Int×Int×Int)=>(.tuple #[.slice none r.1.length 0,I r.2.1,I r.2.2]:Value)) hs6.symm,(by rw[hs6];exact zF)⟩
 refine qT 3 U (aU zc26 (λb3=>qO 3 U (aU zc4 (λb4=>cB 0 ty4 U U U U U U (qL 7 [3] U (aw (cJ call119 (yo _ _ _ _ begun known hl ob) U (λv1 h1 hle1 hp1=>?_))))))))
 obtain⟨_,rfl,mo1⟩:=hp1
 refine qO 2 U (dQ (cu (L':=([(b4,O [.bool false] 4),(b3,O [.slice none 0 0] 26),(b2,O [I ba] 3),(b1,O [I begun] 3)])++markB []) ap ?_))
 refine Me (it:=v1) (xs:=(gg l begun known)) (ι:=Bool×List Version×Option Addr×Nat×LH×HF) [] (λi=>i.2.2.2.2.2) (λi=>[(b4,O [.bool i.1] 4),(b3,O [.slice i.2.2.1 i.2.1.length i.2.2.2.1] 26),(b2,O [I ba] 3),(b1,O [I begun] 3)]++(i.2.2.2.2.1)) (λs i=>aK l begun ba known=((aK.L1 begun ba (aK.K1)) s i.1 i.2.1)/\dA jQ 96 i.2.2.2.2.2 i.2.1 i.2.2.1 i.2.2.2.1 i.2.2.2.2.1/\kK h1 i.2.2.2.2.2/\(∀x∈i.2.1,x∈l)/\(∀q∈s,q.2∈l)/\i.2.1.length+s.length<=l.length) (λ_=>False) 0 (λ_ _ _=>False) (false,[],none,0,[],h1) Il U mo1 U yA (λ_ _ _ _ _ hq=>hq) U (show[(b4,O [.bool false] 4),(b3,O [.slice none 0 0] 26),(b2,O [I ba] 3),(b1,O [I begun] 3)]=_ from U) ⟨hs5,dA.nil,lf,(λx hx=>(jA hx).elim),xe,(by have:=CJ l begun known;simpa using this)⟩ ?_ ?_ ?_ ?_
 .rintro l1 dm1 lp1 y1 rz1 vs1 ⟨eL,aF,fw,fu,gX,hh1⟩ hr1 X hFR1 ⟨hs7,iP,hl1,u1_0,u1_1,u1_2⟩ hl01 hlr1 hv1 hX hXM hlp1 nx1 rt1 ex1 pn1
  try dsimp only at iP hl1 u1_0 u1_1 u1_2 hlr1
  obtain⟨rr1_0,rfl,ok1_0⟩:=hv1
  simp only[zA]at u1_2
  let z2:Nat×Obj:=(b3,O [.slice fw aF.length fu] 26)
  let z6:Nat×Obj:=(dm1,.deferred (some []))
  refine cu (L':=[(l1,.loop lp1),z6,(b4,O [.bool eL] 4),z2,(b2,O [I ba] 3),(b1,O [I begun] 3)]++(gX++(markB []))) ap (qT 5 U (aU zc96 (λb6=>aR 0 ty96 U U U U U U (gS (L':=[(b6,O (kS y1.2 rr1_0) 96),(l1,.loop lp1),z6,(b4,O [.bool eL] 4),z2,(b2,O [I ba] 3),(b1,O [I begun] 3)]++(gX++(markB []))) U (aH (jx 1 U hlp1 (qK 8 [5] U (ae hs7 U (λc7 hs8=>?_) (λc7 hs9=>?_)))))))))
  .have c7p:=of_decide_eq_true c7
   exact bj (L':=[(l1,.loop { lp1 with state:=.busy }),z6,(b4,O [.bool eL] 4),z2,(b2,O [I ba] 3),(b1,O [I begun] 3)]++(gX++(markB []))) js (cu (L':=rdH l1 dm1 lp1 (([(b4,O [.bool eL] 4),z2,(b2,O [I ba] 3),(b1,O [I begun] 3)]++(gX))++markB [])) ap (ex1 (eL,aF,fw,fu,gX,hr1) _ _ _ ⟨hs8,(iP.mono vV hlr1),(hl1.t hlr1),u1_0,(λq hq=>(jA hq).elim),(by simp only[vB,zA]at *;omega)⟩ lf U))
  have c7p:=of_decide_eq_false c7
  refine qK 5 [3] U (cn 4 [50,51,52,53,54] 50 54 (y1.1==begun) U (λc8 hk4=>?_) (λe=>?_))
  .exact qL 4 [6] U (hk4 _ U)
  refine cB 3 ty4 U U U U U U (qL 3 [4] U (cI 0 ty96 U U U (aw (bB (cells:=[I y1.2.No,I y1.2.At,I y1.2.Known,.string y1.2.Policy.Name,.slice rr1_0.Policy.jX y1.2.Policy.Kinds.length rr1_0.Policy.jW,.slice rr1_0.Policy.gM y1.2.Policy.Offices.length rr1_0.Policy.gL,.slice rr1_0.Policy.ou y1.2.Policy.Rules.length rr1_0.Policy.ot,I y1.2.Policy.Change.Kind,I y1.2.Policy.Change.N,I y1.2.Policy.Change.No,.string y1.2.Policy.Change.Name,.slice rr1_0.Policy.Change.mI y1.2.Policy.Change.L.length rr1_0.Policy.Change.mJ,I y1.2.Policy.Mode]) wC ty96 zc96 U U kr (λb7=>?_)))))
  let z1:Nat×Obj:=(b7,O [I y1.2.No,I y1.2.At,I y1.2.Known,.string y1.2.Policy.Name,.slice rr1_0.Policy.jX y1.2.Policy.Kinds.length rr1_0.Policy.jW,.slice rr1_0.Policy.gM y1.2.Policy.Offices.length rr1_0.Policy.gL,.slice rr1_0.Policy.ou y1.2.Policy.Rules.length rr1_0.Policy.ot,I y1.2.Policy.Change.Kind,I y1.2.Policy.Change.N,I y1.2.Policy.Change.No,.string y1.2.Policy.Change.Name,.slice rr1_0.Policy.Change.mI y1.2.Policy.Change.L.length rr1_0.Policy.Change.mJ,I y1.2.Policy.Mode] 96)
  let z4:Nat×Obj:=(b4,O [.bool (eL||(y1.1==begun))] 4)
  let z5:Nat×Obj:=(l1,.loop { lp1 with state:=.busy })
  let z7:Nat×Obj:=(b6,O (kS y1.2 rr1_0) 96)
  refine aw (eo Version.eD ([z1,z7,z5,z6,z4,z2,(b2,O [I ba] 3),(b1,O [I begun] 3)]) (markB []) (λG=>[z1,z7,z5,z6,z4,z2,(b2,O [I ba] 3),(b1,O [I begun] 3)]++(markB []++G)) ap (λ_=>ap) wC ty96 zc96 U bytes96 (iP.mono vV hlr1) U U (fd 0 U (cE (R:=jQ) (y1.2) U ⟨rr1_0,U,ok1_0⟩)) lo lo (λob1 oc1 G1 gr1=>uO (pX ([z1,z7,z5,z6,z4,z2,(b2,O [I ba] 3),(b1,O [I begun] 3)]) G1 (markB [])) (cB 5 ty26 U U U U U U (qO 2 U ?_))))
  let z9:Nat×Obj:=(b3,O [.slice ob1 ((aF++[y1.2]).length) oc1] 26)
  exact bj (L':=[z5,z6,z4,z9,(b2,O [I ba] 3),(b1,O [I begun] 3)]++(G1++(markB []))) js (cu (L':=rdH l1 dm1 lp1 (([z4,z9,(b2,O [I ba] 3),(b1,O [I begun] 3)]++G1)++markB [])) ap (nx1 ((eL||(y1.1==begun)),(aF++[y1.2]),ob1,oc1,G1,hr1) _ _ ⟨hs9,gr1,(hl1.t hlr1),(λx hx=>(List.mem_append.1 hx).elim (u1_0 x) (λhx=>by rw[xC.1 hx];exact u1_1 y1 (zB ..))),(λq hq=>u1_1 q (vA _ hq)),(by simp only[kA,zA,vB]at *;omega)⟩ lf))
 .rintro dm1 ⟨eL,aF,fw,fu,gX,hh1⟩ hn1 ⟨hs10,iP,hl1,u1_0,u1_1,u1_2⟩ hln1 hl01
  try dsimp only at iP hl1 u1_0 u1_1 u1_2 hln1
  let z3:Nat×Obj:=(b3,O [.slice fw aF.length fu] 26)
  refine cu (L':=[(b4,O [.bool eL] 4),z3,(b2,O [I ba] 3),(b1,O [I begun] 3)]++(gX++(markB (dm1::[])))) ap (qK 7 [1] U (ae hs10 U (λc9 hs11=>?_) (λc9 hs12=>?_)))
  .refine qT 6 U ?_
   have hs13:aK l begun ba known=([],0,0):=hs11
   exact cu (L':=([(b4,O [.bool eL] 4),z3,(b2,O [I ba] 3),(b1,O [I begun] 3)]++(gX))++markB (dm1::[])) ap (oX (dm1::[]) [.slice none 0 0,I 0,I 0] Il U rd ⟨none,0,congrArg (λr:(List Int×Int×Int)=>(.tuple #[.slice none r.1.length 0,I r.2.1,I r.2.2]:Value)) hs13.symm,(by rw[hs13];exact zF)⟩)
  refine qK 6 [1,1] U (iq (v':=I ((aF.length:Int)-1)) U (jc ob) (ox vV ([(b4,O [.bool eL] 4),z3,(b2,O [I ba] 3),(b1,O [I begun] 3)]) gX (markB (dm1::[])) ap hM (iP.mono vV hln1) (λh2 hle2 sl1=>?_)))
  have ho1:0<=(((aF.length:Int)-1):Int)/\(((aF.length:Int)-1):Int)<((aF).length:Int):=ob
  refine aw (BG wC ty96 sl1.1 ho1 (dy ho1) U U U (λ_ _ _ e=>e) (λq1 r1 A1 ok1=>qL 2 [] U (ky (j:=12) ty3 A1 U U (qO 4 U (eQ ([(b4,O [.bool eL] 4),z3,(b2,O [I ba] 3),(b1,O [I begun] 3)]) mixed kr jn (λeF _=>tm 1 U (tf 3 U U (rj 1 ty26 U U U) (tf 4 U U (rj 0 ty4 U U U) (tm 7 U (tn 0 U (cJ call120 (rV h2) U (λv2 h3 hle3 hp2=>?_))))))))))))
  obtain⟨rk2,rfl,mo2⟩:=hp2
  refine⟨jl hle3,tu hle3 (tn 2 U ?_)⟩
  obtain⟨o1,hb1,hm1⟩:=mo2
  refine nN (k:=(nthI aF ((aF.length:Int)-1)).Policy.Mode) In (dG kz) hb1 hm1 (e8 zv192) (show VFn _ (.nilFunc) Value.nilFunc from U) U U (λv3 hv1=>?_)
  obtain rfl:=hv1
  refine⟨jn,tn 5 U (NL (Je h3 ((nthI aF ((aF.length:Int)-1)).Policy.Mode) (((oS l).1 (by simpa using c1)).mode (u1_0 _ (lm ho1))) aF fw fu eL (sl1.mono vV hle3) ob) U U (λv4 h4 hle4 hp3=>?_))⟩
  obtain⟨rb1,rc1,rfl,sl2⟩:=hp3
  have hjl:=Jg ((nthI aF ((aF.length:Int)-1)).Policy.Mode) aF eL
  refine⟨jl hle4,tu hle4 (tf 6 U U (λ_ _ _=>Gq wC U) (aN kr ?_))⟩
  refine lp2 (judgesP ((nthI aF ((aF.length:Int)-1)).Policy.Mode) aF eL) (λi w=>[(8,.slice w.2.1 w.1.length w.2.2.1),(9,I ((nthI aF ((aF.length:Int)-1)).Policy.Mode)),(75,.slice rb1 ((judgesP ((nthI aF ((aF.length:Int)-1)).Policy.Mode) aF eL).length) rc1),(76,I (((judgesP ((nthI aF ((aF.length:Int)-1)).Policy.Mode) aF eL).length:Nat):Int)),(77,I (i:Int))]) (λ_=>h4) (λw=>[(b4,O [.bool eL] 4),z3,(b2,O [I ba] 3),(b1,O [I begun] 3)]++(w.2.2.2++(markB (dm1::[])))) (λi w=>dA zC 3 h4 w.1 w.2.1 w.2.2.1 w.2.2.2/\w.1.length<=0+i) (λs2 i w=>(aK.L2 (aK.K2 aF)) s2 w.1) ([],none,0,[]) sl2.1.1 hs12 ⟨dA.nil,lo⟩ ?_ ?_
  .rintro i2 ⟨rn,xl,xk,yT⟩ fB hs14 ⟨vy,EZ⟩ e
   try dsimp only at vy EZ
   refine qT 3 U (aw (my ([(b4,O [.bool eL] 4),z3,(b2,O [I ba] 3),(b1,O [I begun] 3)]) yT (markB (dm1::[])) KY (lH h4 rn xl xk yT vy (by first|assumption|omega|(simp only[kA,zA,vB] ;omega))) ap U (λG4 gr4=>qO 9 U (fW zH ([(b4,O [.bool eL] 4),z3,(b2,O [I ba] 3),(b1,O [I begun] 3)]) G4 (markB (dm1::[])) ap hM gr4 (λh6 hle6 sl4=>?_)))))
   have hs15:aK l begun ba known=((sortI rn),(nthI aF ((aF.length:Int)-1)).Policy.Mode,0):=hs14
   exact cu (L':=([(b4,O [.bool eL] 4),z3,(b2,O [I ba] 3),(b1,O [I begun] 3)])++markB (dm1::[])) ap (oX (dm1::[]) [.slice xl rn.length xk,I ((nthI aF ((aF.length:Int)-1)).Policy.Mode),I 0] Il U rd ⟨xl,xk,(by rw[hs15];simp[retVal,gP]),(by rw[hs15];exact sl4)⟩)
  rintro i2 ⟨rn,xl,xk,yT⟩ y2 rz2 hd2 wk sF EP Kw hs16 ⟨vy,EZ⟩ hx2 ag1 e
  try dsimp only at vy EZ
  refine sr (tO wk U (qO 8 U (aw (iR wC ty96 sl2.1 sF U U U (λ_ _ _ e=>e) (λq3 r3 A3 ok3=>dl ty96 A3 U U (aU zc96 (λb10=>aR 0 ty96 U U U U U U (gS (L':=[(b10,O (kS y2 r3) 96),(b4,O [.bool eL] 4),z3,(b2,O [I ba] 3),(b1,O [I begun] 3)]++(yT++(markB (dm1::[])))) U ?_))))))))
  let z8:Nat×Obj:=(b10,O (kS y2 r3) 96)
  exact qL 5 [0] U (aw (bB (cells:=[I y2.No]) eG ty3 zc3 U U kr (λb11=>aw (eo Rp.kZ ([(b11,O [I y2.No] 3),z8,(b4,O [.bool eL] 4),z3,(b2,O [I ba] 3),(b1,O [I begun] 3)]) (markB (dm1::[])) (λG=>[(b11,O [I y2.No] 3),z8,(b4,O [.bool eL] 4),z3,(b2,O [I ba] 3),(b1,O [I begun] 3)]++(markB (dm1::[])++G)) ap (λ_=>ap) eG ty3 zc3 U bytes3 vy U U (fd 0 U (cE (y2.No) U U)) lo lo (λob3 oc3 G5 gr5=>uO (pX ([(b11,O [I y2.No] 3),z8,(b4,O [.bool eL] 4),z3,(b2,O [I ba] 3),(b1,O [I begun] 3)]) G5 (markB (dm1::[]))) (qO 4 U (oi i2 U (qO 2 U (bj (L':=[(b4,O [.bool eL] 4),z3,(b2,O [I ba] 3),(b1,O [I begun] 3)]++(G5++(markB (dm1::[])))) js (ag1 ((rn++[y2.No]),ob3,oc3,G5) hs16 ⟨gr5,lo⟩))))))))))
 .exact xf
 exact xf
theorem oT(h:HF)(q:aD)(mq:gK)(jU:Int)(hq:aD.ok h q mq)(hsm:smR q.Register)(hk:Kinds h):jY prog 83 [.agg (aD.cells q mq).toArray,I jU] h (λv h'=>∃(rb0:Option Addr)(rc0:Nat),v=.tuple #[.slice rb0 ((aB q jU).1).length rc0,I ((aB q jU).2)]/\SlC Policy.rp h' rb0 rc0 ((aB q jU).1)):=by
 refine sT func83 U ntmps83 U λX hM hX hF=>?_
 have hs0:=@rfl _ (aB q jU)
 have hsv:=hsm.vers
 have hsl:=hsv.len
 refine sr (ct (λb1=>qL 14 [0,0,0] U (aw (cJ call70 (rW _ _ _ _ q.doc.At jU q.known hq.Register.Versions ob hk) U (λv1 h1 hle1 hp1=>?_)))))
 obtain⟨rb1,rc1,rfl,sl1⟩:=hp1
 refine qO 14 U (ae hs0 U (λc1 hs1=>?_) (λc1 hs2=>?_))
 .refine qT 5 U ?_
  have hs3:aB q jU=([],0):=hs1
  exact nretH [.slice none 0 0,I 0] (hs3▸⟨none,0,U,zF⟩)
 refine qK 10 [0] U ?_
 let z2:Nat×Obj:=(b1,O (aD.cells q mq) 79)
 refine lp2 q.Register.Versions (λi w=>[(4,.slice w.2.1 w.1.length w.2.2.1),(5,I ((aK q.Register.Versions q.doc.At jU q.known).2.1)),(6,.slice rb1 (((aK q.Register.Versions q.doc.At jU q.known).1).length) rc1),(28,.slice mq.Register.kc q.Register.Versions.length mq.Register.kb),(29,I (q.Register.Versions.length:Int)),(30,I (i:Int))]) (λ_=>h1) (λw=>[z2]++(w.2.2.2)) (λi w=>dA Policy.rp 94 h1 w.1 w.2.1 w.2.2.1 w.2.2.2/\w.1.length<=0+i) (λs1 i w=>(aB.L1 q jU (aB.K1 q jU)) s1 w.1) ([],none,0,[]) ((hq.Register.Versions.mono vV hle1).1.1) hs2 ⟨dA.nil,lo⟩ ?_ ?_
 .rintro i1 ⟨sN,CR,CQ,CT⟩ fB hs4 ⟨vI,E6⟩ e
  try dsimp only at vI E6
  refine qT 7 U (fW Policy.av ([z2]) CT ([]) ap hM vI (λh3 hle3 sl3=>?_))
  have hs5:aB q jU=(sN,(aK q.Register.Versions q.doc.At jU q.known).2.1):=hs4
  exact nretH [.slice CR sN.length CQ,I ((aK q.Register.Versions q.doc.At jU q.known).2.1)] (hs5▸⟨CR,CQ,U,sl3⟩)
 rintro i1 ⟨sN,CR,CQ,CT⟩ y1 rz1 hd1 du bo eA gD hs6 ⟨vI,E6⟩ hx1 ag1 e
 try dsimp only at vI E6
 refine sr (tO du U (qO 8 U (aw (iR wC ty96 (hq.Register.Versions.mono vV hle1).1 bo U U U (λ_ _ _ e=>e) (λq2 r2 A2 ok2=>dl ty96 A2 U U (aU zc96 (λb4=>aR 0 ty96 U U U U U U (gS (L':=[(b4,O (kS y1 r2) 96),z2]++(CT)) U (qL 6 [0] U (ai call69 (mR _ _ _ _ y1.No sl1) U (aH (ae hs6 U (λc3 hs7=>?_) (λc3 hs8=>?_)))))))))))))
 .refine qK 3 [] U (cI 0 ty94 U U U (aw (bB (cells:=[.string y1.Policy.Name,.slice r2.Policy.jX y1.Policy.Kinds.length r2.Policy.jW,.slice r2.Policy.gM y1.Policy.Offices.length r2.Policy.gL,.slice r2.Policy.ou y1.Policy.Rules.length r2.Policy.ot,I y1.Policy.Change.Kind,I y1.Policy.Change.N,I y1.Policy.Change.No,.string y1.Policy.Change.Name,.slice r2.Policy.Change.mI y1.Policy.Change.L.length r2.Policy.Change.mJ,I y1.Policy.Mode]) M2 ty94 zc94 U U kr (λb5=>?_))))
  let z1:Nat×Obj:=(b5,O [.string y1.Policy.Name,.slice r2.Policy.jX y1.Policy.Kinds.length r2.Policy.jW,.slice r2.Policy.gM y1.Policy.Offices.length r2.Policy.gL,.slice r2.Policy.ou y1.Policy.Rules.length r2.Policy.ot,I y1.Policy.Change.Kind,I y1.Policy.Change.N,I y1.Policy.Change.No,.string y1.Policy.Change.Name,.slice r2.Policy.Change.mI y1.Policy.Change.L.length r2.Policy.Change.mJ,I y1.Policy.Mode] 94)
  exact aw (eo Policy.eD ([z1,(b4,O (kS y1 r2) 96),z2]) ([]) (λG=>[z1,(b4,O (kS y1 r2) 96),z2]++G) ap (λ_=>ap) M2 ty94 zc94 U bytes94 vI U U (fd 0 U (cE (R:=Policy.rp) (y1.Policy) U ⟨r2.Policy,U,ok2.Policy⟩)) lo lo (λob2 oc2 G2 gr2=>qO 4 U (oi i1 U (qO 2 U (bj (L':=[z2]++G2) js (ag1 ((sN++[y1.Policy]),ob2,oc2,G2) hs7 ⟨gr2,lo⟩))))))
 exact aQ (qT 2 U (oi i1 U (qO 2 U (bj (L':=[z2]++(CT)) js (ag1 (sN,CR,CQ,CT) hs8 ⟨vI,lo⟩)))))
theorem tD(h:HF)(who:List Int)(gF:Option Addr)(gE:Nat)(hwho:SlC zC h gF gE who):Ret prog 134 [.slice gF who.length gE] h (.bool (er who)):=by
 refine sT func134 U ntmps134 U λX hM hX hF=>?_
 have hs0:=@rfl _ (er who)
 refine qK 15 [] U ?_
 refine lp1 who (λi w=>[(3,I w),(6,.slice gF who.length gE),(7,I (who.length:Int)),(8,I (i:Int))]) ([]) (λs1 i w=>(er.L1 (er.K1)) s1 w) (-1) hwho.1.1 hs0 ?_ ?_
 .rintro i1 gZ fB hs1 e
  exact sr (an (nretP [.bool true] (cs hs1)))
 rintro i1 gZ y1 rz1 hd1 du bo eA gD hs3 hx1 ag1 e
 refine sr (tO du U (qO 8 U (aw (iF (λy=>[I y]) eG ty3 hwho.1 bo U U U (λq2 A2=>de ty3 A2 U (qO 9 U (cn 3 [15,16,17,18] 15 18 (decide (64<=y1)) U (λc1 hk1=>?_) (λe=>?_))))))))
 .exact ao (qO 2 U (hk1 _ U))
 refine aH (ae hs3 U (λc2 hs4=>?_) (λc2 hs5=>?_))
 .exact sr (an (nretP [.bool false] (cs hs4)))
 exact aQ (qT 6 U (oi i1 U (qO 2 U (ag1 y1 hs5))))
end
section
open Go.Proofs Go.Proofs.Tryz
theorem Id(h:HF)(x:Holder)(s:Int)(bk:Nat):nL prog 249 [.agg (RZ x).toArray,.pointer (some ⟨bk,0,none⟩)].toArray h [(bk,qJ (kB [.int .i64 s]) 3 (0,0))]
  (λr h' B=>r=.returned (.tuple #[])/\h'=h/\B=[(bk,qJ (kB [.int .i64 (zE .i64 (s+x.Weight))]) 3 (0,0))]):=by
 refine cD func249 rfl ntmps249 rfl λX hM hX=>?_
 refine dJ (bu (ct (λb2=>aH (bu (n0 1 ty3 rfl rfl rfl (j7 OA rfl (n0 0 ty3 rfl rfl rfl (PZ rfl (cB 1 ty3 rfl rfl rfl rfl rfl rfl (aH ?_))))))))))
 exact uN func249 (λa _ w _=>lK rfl a w) (λw hw=>hw.sub (List.sublist_cons_self _ _)) ⟨rfl,rfl,rfl⟩
end
section
open Go.Proofs Go.Proofs.Tryz
set_option maxHeartbeats 2000000
theorem BM(h:HF)(holders:List (List Holder))(li:Option Addr)(lh:Nat)(offices:Int)(hholders:SlC (Rp.sl S1) h li lh holders)(hsz0:∀y∈holders,y.length<=2000000):Ret prog 133 [.slice li holders.length lh,I offices] h (.bool (dI holders offices)):=by
 refine sT func133 U ntmps133 U λX hM hX hF=>?_
 have hs0:=@rfl _ (dI holders offices)
 refine qK 11 [] U ?_
 refine lp2 holders (λi w=>[(0,.slice li holders.length lh),(1,I offices),(10,.slice li holders.length lh),(11,I (holders.length:Int)),(12,I (i:Int))]) (λw=>w) (λw=>[]) (λi w=>kK h w) (λs1 i w=>(dI.L1 (dI.K1 holders offices)) s1) h hholders.1.1 hs0 lf ?_ ?_
 .rintro i1 hh1 fB hs1 hl1 e
  try dsimp only at hl1
  exact qK 8 [] U (nretP [.bool ((holders.length:Int)==offices)] (cs hs1))
 rintro i1 hh1 y1 rz1 hd1 du bo eA gD hs3 hl1 hx1 ag1 e
 try dsimp only at hl1
 have hszy:=hsz0 y1 (fS hd1)
 refine sr (tO du U (qO 8 U (aw (iG F9 ty147 (hholders.mono (Rp.tb SJ) hl1).1 bo U U U (λq3 cs2 A3 ln2 rr2=>?_)))))
 obtain⟨rb2,rc2,rfl,sl2⟩:=rr2
 refine de ty147 A3 U (qL 13 [] U ?_)
 refine lp2 y1 (λi w=>[(0,.slice li holders.length lh),(1,I offices),(7,.slice w.2.1 w.1.length w.2.2.1),(10,.slice li holders.length lh),(11,I (holders.length:Int)),(12,I (i1:Int)),(16,.slice rb2 y1.length rc2),(17,I (y1.length:Int)),(18,I (i:Int))]) (λ_=>hh1) (λw=>w.2.2.2) (λi w=>dA zC 3 hh1 w.1 w.2.1 w.2.2.1 w.2.2.2/\w.1.length<=0+i) (λs3 i w=>(dI.L3 (λzg3_7=>(bif(!(er zg3_7))then false else(dI.L1 (dI.K1 holders offices) rz1)))) s3 w.1) ([],none,0,[]) sl2.1.1 hs3 ⟨dA.nil,lo⟩ ?_ ?_
 .rintro i3 ⟨MB,Rc,Rb,Od⟩ BZ hs4 ⟨Jq,Oc⟩ e
  try dsimp only at Jq Oc
  refine qT 3 U (ox zH ([]) Od ([]) ap hM Jq (λh1 hle1 sl3=>ai call134 (tD _ _ _ _ sl3) U (qO 2 U (ae hs4 U (λc2 hs5=>?_) (λc2 hs6=>?_)))))
  .exact sr (an (nretP [.bool false] (cs hs5)))
  exact aQ (qT 2 U (oi i1 U (qO 2 U (ag1 h1 hs6 (hl1.t hle1)))))
 rintro i3 ⟨MB,Rc,Rb,Od⟩ y3 rz3 hd3 HN CM LD PA hs8 ⟨Jq,Oc⟩ hx3 ag2 e
 try dsimp only at Jq Oc
 refine sr (tO HN U (qO 8 U (aw (iF RZ KV ty149 sl2.1 CM U U U (λq5 A5=>dl ty149 A5 U U (aU zc149 (λb3=>aR 0 ty149 U U U U U U (gS (L':=[(b3,O (RZ y3) 149)]++(Od)) U (qL 8 [0] U (cn 4 [25,26,27,28,29] 25 29 (decide (64<y3.Weight)) U (λc3 hk1=>?_) (λe=>?_)))))))))))
 .exact qL 4 [0] U (hk1 _ U)
 refine aH (ae hs8 U (λc4 hs9=>?_) (λc4 hs10=>?_))
 .exact sr (an (nretP [.bool false] (cs hs9)))
 exact qK 5 [0] U (aw (bB (cells:=[I y3.Person]) eG ty3 zc3 U U kr (λb4=>aw (eo Rp.kZ ([(b4,O [I y3.Person] 3),(b3,O (RZ y3) 149)]) ([]) (λG=>[(b4,O [I y3.Person] 3),(b3,O (RZ y3) 149)]++G) ap (λ_=>ap) eG ty3 zc3 U bytes3 Jq U U (fd 0 U (cE (y3.Person) U U)) lo lo (λob1 oc1 G1 gr1=>qO 4 U (oi i3 U (qO 2 U (bj (L':=G1) js (ag2 ((MB++[y3.Person]),ob1,oc1,G1) hs10 ⟨gr1,lo⟩)))))))))
theorem rJ(h:HF)(q:aY)(mq:iH)(q_q:Addr)(office:Int)(office_q:Addr)(hq:aY.ok h q mq)(aq:At h q_q (aY.cells q mq))(aoffice:At h office_q [I office])(hno:0<=office/\office<(q.holders.length:Int))(hso:q.who.Pairwise (·<=·))(hsw:q.who.length<=2000000):Itr prog (.func (.func 276) #[] (kB [.pointer (some q_q),.pointer (some office_q)])) oE (bY q office) h:=by
 refine rl call276 ?_
 intro yf ya yb C Sp Pn h1 A hle m1 m2 m3 hC hy
 refine iN M1 U ntmps276 U λX hXM hX=>?_
 have hs0:bY q office=[]++bY q office:=rfl
 refine qK 3 [] U (ky (j:=1) ty145 (aq.mono hle) U U (de ty3 (aoffice.mono hle) U ?_))
 have ho1:0<=(office:Int)/\(office:Int)<((q.holders).length:Int):=ob
 refine aw (Lo F9 ty147 (hq.holders.mono (Rp.tb SJ) hle).1 ho1 (dy ho1) U U U (λq1 cs1 A1 ln1 rr1=>?_))
 obtain⟨rb1,rc1,rfl,sl1⟩:=rr1
 refine de ty147 A1 U (qL 3 [] U ?_)
 refine lp2 (nthI q.holders office) (λi w=>[(0,.func yf ya yb),(1,.pointer (some q_q)),(12,.slice rb1 ((nthI q.holders office).length) rc1),(13,I ((nthI q.holders office).length:Int)),(14,I (i:Int))]) (λw=>w.2.2) (λw=>w.2.1) (λi w=>C w.1 w.2.2 w.2.1/\kK h1 w.2.2) (λs1 i w=>w.1++(bY.L1 q (bY.K1)) s1) ([],A,h1) sl1.1.1 hs0 ⟨hC,lf⟩ ?_ ?_
 .rintro i1 ⟨dn1,A1_,hh1⟩ fB hs1 ⟨hC1_,hl1⟩ e
  refine dQ ?_
  have hs2:bY q office=dn1:=hs1.trans (List.append_nil _)
  exact rm [] (A:=A1_) M1 U (List.Sublist.refl _) (.inl (hs2▸hC1_))
 rintro i1 ⟨dn1,A1_,hh1⟩ y1 rz1 hd1 du bo eA gD hs3 ⟨hC1_,hl1⟩ hx1 ag1 e
 refine sr (tO du U (qO 8 U (aw (iF RZ KV ty149 (sl1.mono SJ hl1).1 bo U U U (λq3 A6=>dl ty149 A6 U U (aU zc149 (λb2=>aR 0 ty149 U U U U U U (gS (L':=[(b2,O (RZ y1) 149)]++(A1_)) U (qL 4 [] U (ky (j:=2) ty31 (aq.mono (hle.t hl1)) U U (qL 2 [0] U (ai call131 (ns _ _ _ _ y1.Person (hq.who.mono zH (hle.t hl1)) ob ob) U (qO 10 U (nq 27 U (λc2=>?_) (λc2=>?_)))))))))))))))
 .have hs4:=hs3.trans (congrArg (dn1++·) (bt c2))
  refine ao (cI 0 ty149 U U U ?_)
  have hx2:bY q office=dn1++(y1::(bY.L1 q (bY.K1) rz1)):=hs4
  refine aw (j2 ([(b2,O (RZ y1) 149)]) A1_ ap (hy dn1 y1 _ _ _ _ hx2 hl1 hC1_ U) U U (λh5 A7 hle4 hC2=>?_) (λh6 A8 hle5 hS2=>?_) (λch2 h7 A9 hle6 hP2 e=>gk (mC [] (A:=A9) M1 (List.sublist_append_right _ _) hP2)))
  .have hs5:bY q office=(dn1++[y1])++((bY.L1 q (bY.K1) rz1)):=hx2.trans ap
   exact lL U (qO 6 U (oi i1 U (qO 2 U (bj (L':=A7) js (ag1 ((dn1++[y1]),A7,h5) hs5 ⟨hC2,(hl1.t hle4)⟩)))))
  exact lL U (qO 3 U (dQ (mi [] (A:=A8) M1 U js (.inr hS2))))
 have hs6:=hs3.trans (congrArg (dn1++·) (bf c2))
 exact kq (qO 8 U (oi i1 U (qO 2 U (bj (L':=A1_) js (ag1 (dn1,A1_,hh1) hs6 ⟨hC1_,hl1⟩)))))
theorem nT(h:HF)(q:aY)(mq:iH)(office:Int)(hq:aY.ok h q mq)(hno:0<=office/\office<(q.holders.length:Int))(hso:q.who.Pairwise (·<=·))(hsw:q.who.length<=2000000):jY prog 248 [.agg (aY.cells q mq).toArray,I office] h (λv h'=>∃(rv0:Value),v=rv0/\Itr prog rv0 oE (dO q office) h'):=by
 refine sT func248 U ntmps248 U λX hM hX hF=>?_
 have hs0:=@rfl _ (dO q office)
 refine sr (ct (λb1=>ct (λb2=>qO 4 U (aP 1 U hM (λh1 hle1 hb1=>aP 0 U hM (λh2 hle2 hb2=>aw (dS U U (an ?_))))))))
 have hs1:dO q office=(bY q office):=hs0
 exact nretH [.func (.func 276) #[] #[Q b1,Q b2]] (hs1▸⟨(.func (.func 276) #[] #[Q b1,Q b2]),U,(rJ h2 q mq ⟨b1,0,none⟩ office ⟨b2,0,none⟩ (hq.mono (hle1.t hle2)) ((bI hb1).mono hle2) (bI hb2) ob ob ob)⟩)
theorem ud(h:HF)(q:aY)(mq:iH)(x:Expr)(fX:cY)(hq:aY.ok h q mq)(hx:qG h x fX)(hno:0<=x.No/\x.No<(q.holders.length:Int))(hso:q.who.Pairwise (·<=·))(hsw:q.who.length<=2000000):Ret prog 204 [.agg (aY.cells q mq).toArray,.agg (jC x fX).toArray] h (.bool (dM q x)):=by
 refine cD M0 U ntmps204 U λX hM hX=>?_
 have hs0:=@rfl _ (dM q x)
 refine sr (ct (λb1=>ct (λb2=>aU zc4 (λb3=>qO 4 U (cI 2 ty216 U U U (qL 2 [1] U (aw (cJ call248 (nT _ _ _ x.No hq ob ob ob) U (λv1 h1 hle1 hp1=>?_)))))))))
 obtain⟨_,rfl,mo1⟩:=hp1
 refine qO 2 U (dQ ?_)
 let z1:Nat×Obj:=(b1,O (aY.cells q mq) 216)
 let z2:Nat×Obj:=(b2,O (jC x fX) 88)
 refine cu (L':=([(b3,O [.bool false] 4),z2,z1])++markB []) ap ?_
 refine jw (it:=v1) (xs:=(dO q x.No)) (ι:=Bool×HF) [] (λi=>i.2) (λi=>[(b3,O [.bool i.1] 4),z2,z1]) (λs i=>dM q x=((dM.L1 (dM.K1)) s i.1)/\kK h1 i.2) (λi=>dM q x=i.1/\kK h1 i.2) (λ_=>False) 0 (λ_ _ _=>False) (false,h1) M0 U mo1 U sC (λ_ _ _ _ _ hq=>hq) U (show[(b3,O [.bool false] 4),z2,z1]=_ from U) ⟨hs0,lf⟩ ?_ ?_ ?_ ?_ ?_
 .rintro l1 dm1 lp1 y1 rz1 vs1 ⟨aF,hh1⟩ hr1 X hFR1 ⟨hs1,hl1⟩ hl01 hlr1 hv1 hX hXM hlp1 nx1 rt1 ex1 pn1
  obtain rfl:=hv1
  exact cu (L':=[(l1,.loop lp1),(dm1,.deferred (some [])),(b3,O [.bool aF] 4),z2,z1]++(markB [])) ap (aQ (jx 0 U hlp1 (qT 3 U (cB 2 ty4 U U U U U U (aH (cu (L':=rdH l1 dm1 lp1 (([(b3,O [.bool true] 4),z2,z1])++markB [])) ap (rt1 (true,hr1) _ _ _ ⟨hs1,(hl1.t hlr1)⟩ lf)))))))
 .rintro dm1 ⟨aF,hh1⟩ hn1 ⟨hs2,hl1⟩ hln1 hl01
  refine cu (L':=[(b3,O [.bool aF] 4),z2,z1]++(markB (dm1::[]))) ap (qT 3 U (cB 0 ty4 U U U U U U (aH ?_)))
  have hs3:dM q x=false:=hs2
  exact cu (L':=([(b3,O [.bool false] 4),z2,z1])++markB (dm1::[])) ap (rY (dm1::[]) [.bool false] M0 U hX ⟨⟨0,_,_,_,_,U,U,.inr ⟨_,ty4,U⟩⟩,trivial⟩ (cs hs3))
 .rintro dm1 ⟨aF,hh1⟩ hn1 ⟨hs4,hl1⟩ hln1 hl01
  refine cu (L':=[(b3,O [.bool aF] 4),z2,z1]++(markB (dm1::[]))) ap ?_
  have hs5:dM q x=aF:=hs4
  exact cu (L':=([(b3,O [.bool aF] 4),z2,z1])++markB (dm1::[])) ap (rY (dm1::[]) [.bool aF] M0 U hX ⟨⟨0,_,_,_,_,U,U,.inr ⟨_,ty4,U⟩⟩,trivial⟩ (cs hs5))
 .exact xf
 exact xf
theorem so(h:HF)(q:aY)(mq:iH)(x:Expr)(fX:cY)(hq:aY.ok h q mq)(hx:qG h x fX)(hno:0<=x.No/\x.No<(q.holders.length:Int))(hso:q.who.Pairwise (·<=·))(hsw:q.who.length<=2000000):Ret prog 205 [.agg (aY.cells q mq).toArray,.agg (jC x fX).toArray] h (.bool (cz q x)):=by
 refine cD func205 U ntmps205 U λX hM hX=>?_
 have hs0:=@rfl _ (cz q x)
 refine sr (ct (λb1=>ct (λb2=>qO 4 U (aU zc3 (λb3=>cB 0 ty3 U U U U U U (qO 3 U (aw (dS U U (aU zc306 (λb4=>cB 0 ty306 U U U U U U (qO 4 U (cI 3 ty216 U U U (qL 2 [2] U (aw (cJ call248 (nT _ _ _ x.No hq ob ob ob) U (λv1 h1 hle1 hp1=>?_))))))))))))))))
 obtain⟨_,rfl,mo1⟩:=hp1
 refine qO 2 U (dQ ?_)
 let z1:Nat×Obj:=(b4,O [.func (.func 249) #[] #[Q b3]] 306)
 let z2:Nat×Obj:=(b1,O (aY.cells q mq) 216)
 let z3:Nat×Obj:=(b2,O (jC x fX) 88)
 refine cu (L':=([z1,(b3,O [I 0] 3),z3,z2])++markB []) ap ?_
 refine jw (it:=v1) (xs:=(dO q x.No)) (ι:=Int×HF) [] (λi=>i.2) (λi=>[z1,(b3,O [I i.1] 3),z3,z2]) (λs i=>cz q x=((cz.L1 (cz.K1 x)) s i.1)/\kK h1 i.2) (λ_=>False) (λ_=>False) 0 (λ_ _ _=>False) (0,h1) func205 U mo1 U sC (λ_ _ _ _ _ hq=>hq) U (show[z1,(b3,O [I 0] 3),z3,z2]=_ from U) ⟨hs0,lf⟩ ?_ ?_ ?_ ?_ ?_
 .rintro l1 dm1 lp1 y1 rz1 vs1 ⟨aF,hh1⟩ hr1 X hFR1 ⟨hs1,hl1⟩ hl01 hlr1 hv1 hX hXM hlp1 nx1 rt1 ex1 pn1
  obtain rfl:=hv1
  refine cu (L':=[(l1,.loop lp1),(dm1,.deferred (some [])),z1,(b3,O [I aF] 3),z3,z2]++(markB [])) ap (bu (aU zc149 (λb6=>aR 0 ty149 U U U U U U (aH (jx 1 U hlp1 (qK 3 [3] U (cI 0 ty149 U U U (aw (NM 4 (o':=O [I (zE .i64 (aF+y1.Weight))] 3) U (lV (args:=[.agg (RZ y1).toArray]) (cap:=[Q b3]) call249 (Id hr1 y1 aF b3)) U U (qO 2 U ?_))))))))))
  let z4:Nat×Obj:=(b3,O [I (zE .i64 (aF+y1.Weight))] 3)
  exact bj (L':=[(l1,.loop { lp1 with state:=.busy }),(dm1,.deferred (some [])),z1,z4,z3,z2]++(markB [])) js (cu (L':=rdH l1 dm1 lp1 (([z1,z4,z3,z2])++markB [])) ap (nx1 ((zE .i64 (aF+y1.Weight)),hr1) _ _ ⟨hs1,(hl1.t hlr1)⟩ lf))
 .rintro dm1 ⟨aF,hh1⟩ hn1 ⟨hs2,hl1⟩ hln1 hl01
  refine cu (L':=[z1,(b3,O [I aF] 3),z3,z2]++(markB (dm1::[]))) ap (qK 9 [1,2] U ?_)
  have hs3:cz q x=decide (x.N<=aF):=hs2
  exact cu (L':=([z1,(b3,O [I aF] 3),z3,z2])++markB (dm1::[])) ap (rY (dm1::[]) [.bool (decide (x.N<=aF))] func205 U hX rd (cs hs3))
 .exact xf
 .exact xf
 exact xf
theorem ur(rec:aY->Expr->Bool)(h:HF)(q:aY)(mq:iH)(x:Expr)(fX:cY)(hrec:∀(h:HF)(qq:aY)(BJ:iH)(qx:Expr)(lk:cY)(hqq:aY.ok h qq BJ)(hqx:qG h qx lk)(hok:OkX (qq.holders.length:Int) qx)(hso:qq.who.Pairwise (·<=·))(hsw:qq.who.length<=2000000)(_:qx.dep<x.dep),Ret prog 135 [.agg (aY.cells qq BJ).toArray,.agg (jC qx lk).toArray] h (.bool (rec qq qx)))(hq:aY.ok h q mq)(hx:qG h x fX)(hok:OkX (q.holders.length:Int) x)(hso:q.who.Pairwise (·<=·))(hsw:q.who.length<=2000000):Ret prog 206 [.agg (aY.cells q mq).toArray,.agg (jC x fX).toArray] h (.bool (dC.F rec q x)):=by
 refine sT func206 U ntmps206 U λX hM hX hF=>?_
 have hs0:=@rfl _ (dC.F rec q x)
 refine sr (ct (λb1=>ct (λb2=>qL 14 [0] U ?_)))
 let z1:Nat×Obj:=(b1,O (aY.cells q mq) 216)
 let z2:Nat×Obj:=(b2,O (jC x fX) 88)
 refine lp1 x.L (λi w=>[(2,Q b1),(3,Q b2),(5,I w),(9,.slice fX.mI x.L.length fX.mJ),(10,I (x.L.length:Int)),(11,I (i:Int))]) ([z2,z1]) (λs1 i w=>(dC.L1 rec q (dC.K1 x)) s1 w) 0 hx.list.1.1 hs0 ?_ ?_
 .rintro i1 jm fB hs1 e
  exact qK 8 [0] U (nretP [.bool (decide (x.N<=jm))] (cs hs1))
 rintro i1 jm y1 rz1 hd1 du bo eA gD hs3 hx1 ag1 e
 have hoy:=hok.sub y1 (fS hd1)
 refine sr (tO du U (qO 8 U (aw (iR lP ty88 hx.list.1 bo U U U (λ_ _ _ e=>e) (λq2 r2 A2 ok2=>dl ty88 A2 U U (aU zc88 (λb4=>aR 0 ty88 U U U U U U (qO 3 U (cI 2 ty216 U U U (cI 0 ty88 U U U (ai MZ (hrec _ _ _ _ _ hq ok2 ob ob ob (kV (fS hd1))) U (aH (ae hs3 U (λc2 hs4=>?_) (λc2 hs5=>?_))))))))))))))
 .exact bu (qO 6 U (oi i1 U (qO 2 U (bj (L':=[z2,z1]) js (ag1 (zE .i64 (jm+1)) hs4)))))
 exact aQ (qT 2 U (oi i1 U (qO 2 U (bj (L':=[z2,z1]) js (ag1 jm hs5)))))
theorem sX(rec:aY->Expr->Bool)(h:HF)(q:aY)(mq:iH)(x:Expr)(fX:cY)(hrec:∀(h:HF)(qq:aY)(BJ:iH)(qx:Expr)(lk:cY)(hqq:aY.ok h qq BJ)(hqx:qG h qx lk)(hok:OkX (qq.holders.length:Int) qx)(hso:qq.who.Pairwise (·<=·))(hsw:qq.who.length<=2000000)(_:qx.dep<x.dep),Ret prog 135 [.agg (aY.cells qq BJ).toArray,.agg (jC qx lk).toArray] h (.bool (rec qq qx)))(hq:aY.ok h q mq)(hx:qG h x fX)(hok:OkX (q.holders.length:Int) x)(hso:q.who.Pairwise (·<=·))(hsw:q.who.length<=2000000)(hk4:x.Kind=4):Ret prog 207 [.agg (aY.cells q mq).toArray,.agg (jC x fX).toArray] h (.bool (jj.F rec q x)):=by
 refine sT func207 U ntmps207 U λX hM hX hF=>?_
 have hs0:=@rfl _ (jj.F rec q x)
 have hl2:=hok.two hk4
 refine sr (ct (λb1=>ct (λb2=>qL 11 [1,0] U (ae hs0 U (λc1 hs1=>?_) (λc1 hs2=>?_)))))
 .have c1p:=of_decide_eq_true c1
  refine dJ (eQ ([(b2,O (jC x fX) 88),(b1,O (aY.cells q mq) 216)]) mixed kr jn (λeF _=>tf 0 U U (λ_ _ hj=>jZ ty216 U (hj.nth (i:=1) U) U) (qB [1] U (tf 2 U U (rj 0 ty86 U U U) ?_))))
  have ho1:0<=(0:Int)/\(0:Int)<((x.L).length:Int):=ob
  refine km 3 eF jn lP ty88 hx.list.1 ho1 (dy ho1) U U U U kr (λq1 cs1 A1 ln1 rr1=>?_)
  obtain⟨r1,rfl,ok1⟩:=rr1
  exact tf 4 U U (λ_ _ hj=>kU ty88 (A1.mono hj.1) U U) (tn 5 U (fg MZ (hrec _ _ _ _ _ hq ok1 (hok.sub _ (lm ob)) ob ob (kV (lm ob))) U (⟨jn,(qA [6] U (aN kr (nretP [.bool (rec q (nthI x.L 0))] (cs hs1))))⟩)))
 have c1p:=of_decide_eq_false c1
 refine qT 2 U (eQ ([(b2,O (jC x fX) 88),(b1,O (aY.cells q mq) 216)]) mixed kr jn (λnh _=>tf 0 U U (λ_ _ hj=>jZ ty216 U (hj.nth (i:=1) U) U) (qB [1] U (tf 2 U U (rj 0 ty86 U U U) ?_))))
 have ho2:0<=(1:Int)/\(1:Int)<((x.L).length:Int):=ob
 refine km 3 nh jn lP ty88 hx.list.1 ho2 (dy ho2) U U U U kr (λq2 cs2 A2 ln2 rr2=>?_)
 obtain⟨r2,rfl,ok2⟩:=rr2
 exact tf 4 U U (λ_ _ hj=>kU ty88 (A2.mono hj.1) U U) (tn 5 U (fg MZ (hrec _ _ _ _ _ hq ok2 (hok.sub _ (lm ob)) ob ob (kV (lm ob))) U (⟨jn,(qA [6] U (aN kr (nretP [.bool (rec q (nthI x.L 1))] (cs hs2))))⟩)))
theorem Ow(rec:aY->Expr->Bool)(h:HF)(q:aY)(mq:iH)(x:Expr)(fX:cY)(hq:aY.ok h q mq)(hx:qG h x fX)(hrec:∀(h:HF)(qq:aY)(BJ:iH)(qx:Expr)(lk:cY)(_:aY.ok h qq BJ)(_:qG h qx lk)(_:OkX (qq.holders.length:Int) qx)(_:qq.who.Pairwise (·<=·))(_:qq.who.length<=2000000)(_:qx.dep<x.dep),Ret prog 135 [.agg (aY.cells qq BJ).toArray,.agg (jC qx lk).toArray] h (.bool (rec qq qx)))(hok:OkX (q.holders.length:Int) x)(hso:q.who.Pairwise (·<=·))(hsw:q.who.length<=2000000):
  sZ prog (List.getD [.nilFunc,.func (.func 204) #[] #[],.func (.func 205) #[] #[],.func (.func 206) #[] #[],.func (.func 207) #[] #[]] x.Kind.toNat .nilFunc) [.agg (aY.cells q mq).toArray,.agg (jC x fX).toArray] h [] (.bool (fulQ rec q x)):=by
 have hk:=hok.kind
 have hc:x.Kind=1\/x.Kind=2\/x.Kind=3\/x.Kind=4:=by omega
 rcases hc with e|e|e|e
 .rw[show fulQ rec q x=dM q x from by simp[fulQ,e],e];exact im (cap:=[]) call204 (ud h q mq x fX hq hx (hok.no ob) hso hsw)
 .rw[show fulQ rec q x=cz q x from by simp[fulQ,e],e];exact im (cap:=[]) call205 (so h q mq x fX hq hx (hok.no ob) hso hsw)
 .rw[show fulQ rec q x=dC.F rec q x from by simp[fulQ,e],e];exact im (cap:=[]) call206 (ur rec h q mq x fX hrec hq hx hok hso hsw)
 rw[show fulQ rec q x=jj.F rec q x from by simp[fulQ,e],e];exact im (cap:=[]) call207 (sX rec h q mq x fX hrec hq hx hok hso hsw e)
theorem rI(rec:aY->Expr->Bool)(h:HF)(q:aY)(mq:iH)(x:Expr)(fX:cY)(hrec:∀(h:HF)(qq:aY)(BJ:iH)(qx:Expr)(lk:cY)(hqq:aY.ok h qq BJ)(hqx:qG h qx lk)(hok:OkX (qq.holders.length:Int) qx)(hso:qq.who.Pairwise (·<=·))(hsw:qq.who.length<=2000000)(_:qx.dep<x.dep),Ret prog 135 [.agg (aY.cells qq BJ).toArray,.agg (jC qx lk).toArray] h (.bool (rec qq qx)))(hq:aY.ok h q mq)(hx:qG h x fX)(hok:OkX (q.holders.length:Int) x)(hso:q.who.Pairwise (·<=·))(hsw:q.who.length<=2000000):Ret prog 135 [.agg (aY.cells q mq).toArray,.agg (jC x fX).toArray] h (.bool (bR.F rec q x)):=by
 refine sT func135 U ntmps135 U λX hM hX hF=>?_
 have hs0:=@rfl _ (bR.F rec q x)
 have hkd:=hok.kind
 refine sr (ct (λb1=>ct (λb2=>qO 4 U (aw (NN (cells:=[.nilFunc,.func (.func 204) #[] #[],.func (.func 205) #[] #[],.func (.func 206) #[] #[],.func (.func 207) #[] #[]]) underlying261 ty260 zc261 kr (aU zc261 (λb3=>aR 0 ty261 U U U U U U (qO 2 U (eO 0 U hM (λh1 hle1 hb1=>eQ ([(b2,O (jC x fX) 88),(b1,O (aY.cells q mq) 216)]) mixed kr jn (λeF _=>qB [0] U (tf 1 U U (rj 0 ty3 U U U) ?_))))))))))))
 have ho1:0<=(x.Kind:Int)/\(x.Kind:Int)<5:=ob
 have A1:=QS (bI hb1) ho1
 exact tf 2 U U (λ_ _ _=>NS underlying261 ty260 U U ho1) (tf 3 U U (rh ty260 A1 U) (tf 4 U U (λ_ _ hj=>jZ ty216 U (hj.nth (i:=1) U) U) (tf 5 U U (λ_ _ hj=>jZ ty88 U (hj.nth (i:=0) U) U) (tn 6 U (lX (v:=.bool (fulQ rec q x)) [] (List.nil_sublist _) (Ow rec h1 q mq x fX (hq.mono hle1) (hx.mono hle1) hrec hok hso hsw) U U (⟨jn,(qA [7] U (aN kr (nretP [.bool (fulQ rec q x)] (cs hs0))))⟩))))))
theorem mM:∀(m:Nat)(h:HF)(q:aY)(mq:iH)(x:Expr)(fX:cY)(_:x.dep<=m)(hq:aY.ok h q mq)(hx:qG h x fX)(hok:OkX (q.holders.length:Int) x)(hso:q.who.Pairwise (·<=·))(hsw:q.who.length<=2000000),Ret prog 135 [.agg (aY.cells q mq).toArray,.agg (jC x fX).toArray] h (.bool (bR.go m q x))
 |0,h,q,mq,x,fX,hd,hq,hx,hok,hso,hsw=>absurd hd (Nat.not_le.2 (Expr.me _))
 |m+1,h,q,mq,x,fX,hd,hq,hx,hok,hso,hsw=>rI (bR.go m) h q mq x fX (λqh_ qq BJ qx lk qhq qhx qhok qhso qhsw qd=>mM m qh_ qq BJ qx lk ob qhq qhx qhok qhso qhsw) hq hx hok hso hsw
theorem ss(h:HF)(q:aY)(mq:iH)(x:Expr)(fX:cY)(hq:aY.ok h q mq)(hx:qG h x fX)(hok:OkX (q.holders.length:Int) x)(hso:q.who.Pairwise (·<=·))(hsw:q.who.length<=2000000):Ret prog 135 [.agg (aY.cells q mq).toArray,.agg (jC x fX).toArray] h (.bool (bR q x)):=mM _ h q mq x fX (xG _) hq hx hok hso hsw
end
end Go.Sg

namespace Go.Proofs
open Go.Shelf Go.RowKit Go.Lib Go.Sort
set_option maxHeartbeats 1000000 in
theorem Tryz.closure178(x y:Go.Sg.OSeat)(W:World):Calls Tryz.prog 241 #[.agg (Go.Sg.OSeat.cells x).toArray,.agg (Go.Sg.OSeat.cells y).toArray] W λe w'=>e=.returned (.int .i64 (Lib.compareInt x.person y.person))/\∃q os',w'=grow (W.drewN q) os':=by
 have hcon:=λW'=>Tryz.cmp_Compare_int x.person y.person W'
 generalize Lib.compareInt x.person y.person=r at hcon ⊢
 unfold Go.Sg.OSeat.cells
 go_enter Tryz.func241,Tryz.ntmps241
 go_wp2_with (go_at_call 181;refine(hcon _).mono ?_;rintro e w' ⟨rfl,rfl⟩)
 go_ret
 exact⟨rfl,0,_,by rw[alloc_eq_grow,alloc_eq_grow,grow_grow];rfl⟩
theorem Tryz.ltSeat(x y:Go.Sg.OSeat):ltOf (λx y:Go.Sg.OSeat=>Lib.compareInt x.person y.person) x y=decide (x.person<y.person):=by
 unfold ltOf Lib.compareInt
 by_cases h1:x.person<y.person
 .simp[h1]
 .by_cases h2:y.person<x.person<;>simp[h1,h2]
theorem Tryz.swoSeat:SWO (ltOf λx y:Go.Sg.OSeat=>Lib.compareInt x.person y.person) where
 irrefl x:=by rw[Tryz.ltSeat];simp
 trans x y z h1 h2:=by rw[Tryz.ltSeat]at *;simp at *;omega
 ntrans x y z h1 h2:=by rw[Tryz.ltSeat]at *;simp at *;omega
end Go.Proofs
namespace Go.Sg
variable {os:Array Obj}{w:World}
section
open Go.Proofs Go.Proofs.Tryz Go.RowKit Go.Sort
theorem Cr{h:HF}:∀{cl:List Value}{xs:List OSeat},bP T3 h cl xs->cl=xs.flatMap kE
 |_,[],hc=>hc
 |_,x::xs,⟨cs,rest,e,_,hr,hc⟩=>by
  have:cs=kE x:=hr
  rw[e,this,Cr hc];rfl
theorem C2(h:HF):∀xs:List OSeat,bP T3 h (xs.flatMap kE) xs
 |[]=>rfl
 |x::xs=>⟨kE x,xs.flatMap kE,rfl,rfl,rfl,C2 h xs⟩
theorem Gj:∀(xs:List OSeat)(j:Nat),j<xs.length*2->(xs.flatMap kE)[j]? = some ((kE (xs.getD (j/2) default)).getD (j%2) undef)
 |[],j,hj=>by simp at hj
 |x::xs,0,_=>by simp[kE]
 |x::xs,1,_=>by simp[kE]
 |x::xs,j+2,hj=>by
  have ih:=Gj xs j (by simp at hj;omega)
  simp only[List.flatMap_cons]
  rw[List.getElem?_append_right (by simp[kE])]
  simp only[kE,zA,vB]
  rw[show j+2-(0+1+1)=j from by omega,show(j+2)/2=j/2+1 from by omega,show(j+2)%2=j%2 from by omega]
  simpa[kE]using ih
theorem rN(xs:List OSeat):(xs.flatMap kE).length=xs.length*2:=by
 induction xs with
 |nil=>rfl
 |cons x xs ih=>rw[List.flatMap_cons,kA,ih];simp[kE];omega
theorem E9(xs:List OSeat):(flatK kE 2 xs.toArray).toList=xs.flatMap kE:=by
 apply Ta
 intro j
 rcases vK j (xs.length*2)with hj|hj
 .rw[Gj xs j hj]
  have h1:=get_flatK kE 2 xs.toArray j (by simpa using hj)
  have h2:j<(flatK kE 2 xs.toArray).size:=by rw[size_flatK];simpa using hj
  rw[getElem!_pos _ j h2]at h1
  rw[Array.getElem?_toList,RY h2,h1]
  have h3:j/2<xs.length:=by omega
  congr 1
  rw[getElem!_pos xs.toArray (j/2) (by simpa using h3)]
  have h4:j%2<2:=Nat.mod_lt _ (by omega)
  simp only[List.getElem_toArray,List.getD,vF h3,Tg]
  rw[getElem!_pos _ (j%2) (by simpa[kE]using h4)]
  rw[vF (by simpa[kE]using h4),Tg]
 .rw[xJ (by rw[Array.length_toList,size_flatK];simpa using hj),xJ (by rw[rN];exact hj)]
theorem IQ(F cur:Array Value)(h:F.size<=cur.size):(putCells id 0 F cur).toList=F.toList++cur.toList.drop F.size:=by
 apply Ta
 intro j
 rcases vK j cur.size with hj|hj
 .have e1:(putCells id 0 F cur).toList[j]? = some (if j<F.size then F[j]! else cur[j]):=by
   rw[Array.getElem?_toList]
   simp[putCells,hj]
  rw[e1]
  rcases vK j F.size with h1|h1
  .rw[if_pos h1,List.getElem?_append_left (by simpa using h1),Array.getElem?_toList,RY h1,getElem!_pos _ j h1]
  .rw[if_neg (by omega),List.getElem?_append_right (by simpa using h1),List.getElem?_drop,Array.getElem?_toList,Array.length_toList,show F.size+(j-F.size)=j from by omega,RY hj]
 .rw[xJ (by simpa[putCells]using hj),xJ (by simp;omega)]
theorem Oa{g n:Nat}{cur:Array Value}{e:TypeId}{fr:Nat×Nat}(d:Array Value)(hb:w.heap[g]? = some (.cells cur e fr)):
  (grow (putRow id (Sort.ahead w n) g 0 d) os).heap[g]? = some (.cells (putCells id 0 d cur) e fr):=by
 have hg:g<w.heap.size:=(Array.getElem?_eq_some_iff.1 hb).1
 rw[heap_grow_old _ _ (by simpa using hg)]
 simp[putRow,mapBlock,Sort.ahead,Ud,hb,onCells]
theorem Mz{g n:Nat}(d:Array Value):(grow (putRow id (Sort.ahead w n) g 0 d) os).os=w.os/\(grow (putRow id (Sort.ahead w n) g 0 d) os).tape=w.tape/\(grow (putRow id (Sort.ahead w n) g 0 d) os).output=w.output /\
  w.heap.size<=(grow (putRow id (Sort.ahead w n) g 0 d) os).heap.size/\∀k,k<w.heap.size->k≠g->(grow (putRow id (Sort.ahead w n) g 0 d) os).heap[k]? = w.heap[k]?:=by
 refine⟨rfl,rfl,rfl,by simp[putRow,mapBlock,Sort.ahead],λk hk hne=>?_⟩
 rw[heap_grow_old _ _ (by simpa using hk)]
 simp[putRow,mapBlock,Sort.ahead,Ud,Ne.symm hne]
theorem un(h:HF)(xs:List OSeat)(b:Option Addr)(c:Nat)(G:LH)(hG:dA T3 285 h xs b c G)(hsz:xs.length<=1000000000000):
  nL prog 274 [.slice b xs.length c,.func (.func 241) #[] #[]].toArray h G (λr h' G'=>h'=h/\r=.returned (.tuple #[])/\∃ys,ys.Perm xs/\ys.Pairwise (λx y=>x.person<=y.person)/\dA T3 285 h ys b c G'):=by
 intro w hp
 rcases hG with⟨rfl,rfl,rfl,rfl⟩|⟨bk,cl,sp,rfl,hcl,hlen,hcap,hmax,rfl⟩
 .refine(iT (AnyF.slices_SortFunc_none Tryz.sortSeat none 0 (.func (.func 241) #[] #[]) w) (λw' hw=>by cases hw.1)).mono ?_
  rintro e w' ⟨rfl,rfl⟩
  exact⟨h,[],St.start hp,rfl,rfl,[],List.Perm.refl _,List.Pairwise.nil,dA.nil⟩
 .have hb:=hp.own _ (xC.2 rfl)
  simp only at hb
  have hcl':=Cr hcl
  subst hcl'
  have hfl:=E9 xs
  have hH:HoldsK kE 2 w bk 0 xs.toArray:=by
   intro j hj
   rw[size_flatK]at hj
   have hj':j<xs.length*2:=by simpa using hj
   refine⟨?_,by simp[World.frozen?,hb]⟩
   have h2:j<(flatK kE 2 xs.toArray).size:=by rw[size_flatK];exact hj
   have h3:(flatK kE 2 xs.toArray).toList[j]? = some (flatK kE 2 xs.toArray)[j]!:=by
    rw[Array.getElem?_toList,RY h2,getElem!_pos _ j h2]
   rw[hfl]at h3
   have h4:(xs.flatMap kE++sp)[j]? = some (flatK kE 2 xs.toArray)[j]!:=by
    rw[List.getElem?_append_left (by rw[rN];exact hj')];exact h3
   simp only[World.cell?,hb,Nat.zero_add]
   simpa using h4
  have eg:∀args w,(callFunc 241 args).run prog w=.ok (.enter 241 args) w:=call241
  have hcall:=AnyQ.slices_SortFunc Tryz.sortSeat 2 Tryz.isAgg285 Tryz.sizeOf285 kE (λ_=>rfl) (λx v hv=>by simp[kE]at hv;rcases hv with rfl|rfl<;>rfl)
   (λx y=>Lib.compareInt x.person y.person) Tryz.swoSeat 241 #[] bk 0 c xs.toArray w eg (λ_ _ _ _ x y=>Tryz.closure178 x y _) hH (fD hb) (by simp;omega)
  change Calls prog 274 _ _ _ at hcall
  rw[List.size_toArray]at hcall
  refine(iT hcall (λw' hw=>by cases hw.1)).mono ?_
  rintro e w' ⟨rfl,d',n,os,⟨hds,_,hperm⟩,hsorted,rfl⟩
  have hds':d'.size=xs.length:=by simpa using hds
  have hF:(flatK kE 2 d').toList=d'.toList.flatMap kE:=by have:=E9 d'.toList;simpa using this
  have hFs:(flatK kE 2 d').size=xs.length*2:=by rw[size_flatK,hds']
  obtain⟨g1,g2,g3,g4,g5⟩:=Mz (w:=w) (g:=bk) (n:=n) (os:=os) (flatK kE 2 d')
  have hnew:=Oa (w:=w) (g:=bk) (n:=n) (os:=os) (flatK kE 2 d') hb
  have hcur:(putCells id 0 (flatK kE 2 d') (xs.flatMap kE++sp).toArray).toList=d'.toList.flatMap kE++sp:=by
   rw[IQ _ _ (by rw[hFs,←rN];simp),hF,hFs]
   congr 1
   rw[←rN]
   exact List.drop_left' rfl
  have hcur':putCells id 0 (flatK kE 2 d') (xs.flatMap kE++sp).toArray=(d'.toList.flatMap kE++sp).toArray:=by rw[←hcur]
  rw[hcur']at hnew
  have hperm':d'.toList.Perm xs:=by
   have e1:d'.extract 0 xs.length=d':=by rw[←hds'];simp
   have e2:xs.toArray.extract 0 xs.length=xs.toArray:=by simp
   rw[e1,e2]at hperm;exact hperm
  refine⟨h,[(bk,.cells (d'.toList.flatMap kE++sp).toArray 285 (0,0))],⟨g1,g2,g3,g4,λk hk hM=>g5 k hk (λe=>hM (by subst e;simp)),λ_ _ e=>e,λ_ _=>rfl,λk o e=>?_,λq hq=>?_,?_,?_,?_⟩,rfl,rfl,d'.toList,hperm',?_,?_⟩
  .have hne:k≠bk:=λe'=>by
    have:=hp.free _ (xC.2 rfl)
    simp only at this
    rw[e',this]at e;cases e
   exact(g5 k (fD (hp.imm k o e)) hne).trans (hp.imm k o e)
  .rw[xC.1 hq];exact hnew
  .simp
  .intro q hq;rw[xC.1 hq];exact hp.free (bk,qJ (xs.flatMap kE++sp).toArray 285 (0,0)) (xC.2 rfl)
  .intro q hq;rw[xC.1 hq];exact .inr (by simp)
  .rw[List.pairwise_iff_getElem]
   intro i j hi hj hij
   have hj':j<d'.size:=by simpa using hj
   have hi':i<d'.size:=by simpa using hi
   have:=hsorted i j (Nat.zero_le _) hij (by omega)
   rw[Tryz.ltSeat,getElem!_pos _ j hj',getElem!_pos _ i hi']at this
   simp only[Array.getElem_toList]
   simpa using this
  .refine .inr ⟨bk,d'.toList.flatMap kE,sp,rfl,C2 h _,?_,?_,?_,rfl⟩
   .rw[kA,rN,hperm'.length_eq,←rN,←kA];exact hlen
   .rw[hperm'.length_eq];exact hcap
   .rw[hperm'.length_eq];exact hmax
theorem tR(h:HF)(it:Value)(ks:List OSeat)(hit:Cj prog it (λ(k:OSeat)(_:HF)(vs:List Value)=>vs=[R4 k]) (λxs=>xs.Perm ks) h)(hk:ks.length<=1000000000000):
  jY prog 242 [it,.func (.func 241) #[] #[]] h (λv h'=>∃(b:Option Addr)(c:Nat)(ys:List OSeat),ys.Perm ks/\ys.Pairwise (λx y=>x.person<=y.person)/\v=.slice b ys.length c/\SlC T3 h' b c ys):=by
 refine cD func242 rfl ntmps242 rfl λX hM hX=>?_
 refine dJ (bu (fU (aH (dJ (bu (ao ?_))))))
 refine aw (AC call273 (Fx h it _ hit (λxs hx=>by rw[hx.length_eq];exact hk)) rfl (λh' xs bb c G hle hxs hG=>?_))
 refine fU (aH (dJ (bu (ao (ao ?_)))))
 refine aw (my [] G [] call274 (un h' xs bb c G hG (by rw[hxs.length_eq];exact hk)) (by simp) rfl (λG' hG'=>?_))
 obtain⟨ys,hp,hs,hG'⟩:=hG'
 refine aH (dJ (bu (ao (fU (aH ?_)))))
 refine fW OSeat.av [] G' [] (by simp) hM hG' (λh2 hle2 sl=>?_)
 exact il [.slice bb xs.length c] func242 rfl ⟨rfl,trivial⟩ ⟨bb,c,ys,hp.trans hxs,hs,by rw[hp.length_eq];rfl,sl⟩
end
section
open Go.Proofs Go.Proofs.Tryz
set_option maxHeartbeats 2000000
theorem su(h:HF)(p:Policy)(gG:eU)(kind:Int)(value:Int)(holders:List (List Holder))(li:Option Addr)(lh:Nat)(who:List Int)(gF:Option Addr)(gE:Nat)(hp:kN h p gG)(hholders:SlC (Rp.sl S1) h li lh holders)(hwho:SlC zC h gF gE who)(hsm:smP p)(hsz0:∀y∈holders,y.length<=2000000)(hsw:who.length<=2000000)(hk:Kinds h):Ret prog 84 [.agg (kD p gG).toArray,I kind,I value,.slice li holders.length lh,.slice gF who.length gE] h (.tuple #[.bool ((bU p kind value holders who).1),I ((bU p kind value holders who).2)]):=by
 refine sT func84 U ntmps84 U λX hM hX hF=>?_
 have hs0:=@rfl _ (bU p kind value holders who)
 refine sr (ct (λb1=>qO 6 U (cI 0 ty94 U U U (ai call102 (tB _ _ _ hp ob hk) U (qO 7 U (ae hs0 U (λc1 hs1=>?_) (λc1 hs2=>?_)))))))
 .refine qT 6 U ?_
  have hs3:bU p kind value holders who=(false,(cT p)):=hs1
  exact nretP [.bool false,I (cT p)] (hs3▸U)
 refine qT 8 U (cn 6 [21,22,23,24,25,26,27] 21 27 (decide ((p.Kinds.length:Int)<=kind)) U (λc2 hk1=>?_) (λe=>?_))
 .exact qL 6 [0] U (hk1 _ U)
 refine ao (cn 3 [28,29,30,31] 28 31 (decide (value<0)) U (λc3 hk2=>?_) (λe=>?_))
 .exact ao (qO 2 U (hk2 _ U))
 refine ao (cn 3 [32,33,34,35] 32 35 (decide (1099511627776<value)) U (λc4 hk3=>?_) (λe=>?_))
 .exact ao (qO 2 U (hk3 _ U))
 refine an (ae hs2 U (λc5 hs4=>?_) (λc5 hs5=>?_))
 .refine qT 5 U ?_
  have hs6:bU p kind value holders who=(false,1):=hs4
  exact nretP [.bool false,I 1] (hs6▸U)
 refine qK 6 [0] U (ai call133 (BM _ _ _ _ (p.Offices.length:Int) hholders ob) U (qO 3 U (ae hs5 U (λc6 hs7=>?_) (λc6 hs8=>?_))))
 .refine qT 5 U ?_
  have hs9:bU p kind value holders who=(false,210):=hs7
  exact nretP [.bool false,I 210] (hs9▸U)
 refine qT 3 U (ai call134 (tD _ _ _ _ hwho) U (qO 3 U (ae hs8 U (λc7 hs10=>?_) (λc7 hs11=>?_))))
 .refine qT 5 U ?_
  have hs12:bU p kind value holders who=(false,1):=hs10
  exact nretP [.bool false,I 1] (hs12▸U)
 refine qT 7 U (aw (eY (cells:=[I value,.slice li holders.length lh,.slice gF who.length gE]) (places:=[(0,1),(1,1),(2,1)]) underlying216 zc216 kr kr (qL 3 [0] U ?_)))
 have ho1:0<=(kind:Int)/\(kind:Int)<((p.Rules).length:Int):=(by have hq:=uC (by simpa using c1);simp only[decide_eq_true_eq,decide_eq_false_iff_not,Bool.and_eq_true,xD,Bool.not_eq_true',Bool.not_eq_false',Bool.and_eq_false_iff,Bool.or_eq_false_iff,beq_iff_eq,beq_eq_false_iff_ne,bne_iff_ne,bne_eq_false_iff_eq,kA,zA,vB,List.length_drop]at c5;omega)
 refine aw (BG tQ ty91 hp.Rules.1 ho1 (dy ho1) U U U (λ_ _ _ e=>e) (λq1 r1 A1 ok1=>qL 1 [] U (zm (j:=3) ty88 A1 U U (ai MZ (ss _ _ _ _ _ (show aY.ok h (aY.mk value holders who) (iH.mk li lh gF gE)from⟨hholders,hwho⟩) ok1.Expr (by have hq:=uC (by simpa using c1);have hr:=Mn (by simpa using c6);show OkX (holders.length:Int) _;rw[hr];exact hq.2.2 _ (KB (lm ho1))) (FH (by simpa using c7)) hsw) U (qO 3 U ?_)))))
 have hs13:bU p kind value holders who=((bR (aY.mk value holders who) ((nthI p.Rules kind).Expr)),0):=hs11
 exact nretP [.bool (bR (aY.mk value holders who) ((nthI p.Rules kind).Expr)),I 0] (hs13▸U)
theorem sd(h:HF)(seq:List Holder)(seq_v:Value)(hseq:Itr prog seq_v oE seq h)(hsz:seq.length<=2000000):jY prog 239 [.slice none 0 0,seq_v] h (λv h'=>∃(rb0:Option Addr)(rc0:Nat),v=.slice rb0 (cy seq).length rc0/\SlC S1 h' rb0 rc0 (cy seq)):=by
 refine cD func239 U ntmps239 U λX hM hX=>?_
 have hs0:=@rfl _ (cy seq)
 refine sr (ct (λb1=>qO 8 U (dQ (cu (L':=([(b1,O [.slice none 0 0] 147)])++markB []) ap ?_))))
 refine jw (it:=seq_v) (xs:=seq) (ι:=(List Holder)×Option Addr×Nat×LH×HF) [] (λi=>i.2.2.2.2) (λi=>[(b1,O [.slice i.2.1 i.1.length i.2.2.1] 147)]++(i.2.2.2.1)) (λs i=>cy seq=((cy.L1 (cy.K1)) s i.1)/\dA S1 149 i.2.2.2.2 i.1 i.2.1 i.2.2.1 i.2.2.2.1/\kK h i.2.2.2.2/\i.1.length+s.length<=seq.length) (λ_=>False) (λ_=>False) 0 (λ_ _ _=>False) ([],none,0,[],h) func239 U hseq U sC (λ_ _ _ _ _ hq=>hq) U (show[(b1,O [.slice none 0 0] 147)]=_ from U) ⟨hs0,dA.nil,lf,(by simp)⟩ ?_ ?_ ?_ ?_ ?_
 .rintro l1 dm1 lp1 y1 rz1 vs1 ⟨bC,mF,mE,nI,hh1⟩ hr1 X hFR1 ⟨hs1,fK,hl1,u1_0⟩ hl01 hlr1 hv1 hX hXM hlp1 nx1 rt1 ex1 pn1
  obtain rfl:=hv1
  simp only[zA]at u1_0
  let z1:Nat×Obj:=(b1,O [.slice mF bC.length mE] 147)
  let z3:Nat×Obj:=(dm1,.deferred (some []))
  refine cu (L':=[(l1,.loop lp1),z3,z1]++(nI++(markB []))) ap (bu (aU zc149 (λb4=>aR 0 ty149 U U U U U U (gS (L':=[(b4,O (RZ y1) 149),(l1,.loop lp1),z3,z1]++(nI++(markB []))) U ?_))))
  let z4:Nat×Obj:=(l1,.loop { lp1 with state:=.busy })
  let z5:Nat×Obj:=(b4,O (RZ y1) 149)
  refine aH (jx 1 U hlp1 (qK 3 [3] U (cI 0 ty149 U U U (aw (bB (cells:=[I y1.Person,I y1.Weight]) KV ty149 zc149 U U kr (λb5=>aw (eo Holder.eD ([(b5,O [I y1.Person,I y1.Weight] 149),z5,z4,z3,z1]) (markB []) (λG=>[(b5,O [I y1.Person,I y1.Weight] 149),z5,z4,z3,z1]++(markB []++G)) ap (λ_=>ap) KV ty149 zc149 U bytes149 (fK.mono SJ hlr1) U U (fd 0 U (cE y1 U U)) lo lo (λob2 oc2 G2 gr2=>uO (pX ([(b5,O [I y1.Person,I y1.Weight] 149),z5,z4,z3,z1]) G2 (markB [])) (cB 4 ty147 U U U U U U (qO 2 U ?_))))))))))
  let z6:Nat×Obj:=(b1,O [.slice ob2 ((bC++[y1]).length) oc2] 147)
  exact bj (L':=[z4,z3,z6]++(G2++(markB []))) js (cu (L':=rdH l1 dm1 lp1 (([z6]++G2)++markB [])) ap (nx1 ((bC++[y1]),ob2,oc2,G2,hr1) _ _ ⟨hs1,gr2,(hl1.t hlr1),(by simp only[kA,zA,vB]at *;omega)⟩ lf))
 .rintro dm1 ⟨bC,mF,mE,nI,hh1⟩ hn1 ⟨hs2,fK,hl1,u1_0⟩ hln1 hl01
  let z2:Nat×Obj:=(b1,O [.slice mF bC.length mE] 147)
  refine cu (L':=[z2]++(nI++(markB (dm1::[])))) ap (qK 6 [0] U (fW SJ ([z2]) nI (markB (dm1::[])) ap hM (fK.mono SJ hln1) (λh2 hle2 sl2=>?_)))
  have hs3:cy seq=bC:=hs2
  exact cu (L':=([z2])++markB (dm1::[])) ap (oX (dm1::[]) [.slice mF bC.length mE] func239 U rd ⟨mF,mE,congrArg (λr:List Holder=>(.slice mF r.length mE:Value)) hs3.symm,(by rw[hs3];exact sl2)⟩)
 .exact xf
 .exact xf
 exact xf
theorem tV(h:HF)(seq:List Holder)(seq_v:Value)(hseq:Itr prog seq_v oE seq h)(hsz:seq.length<=2000000):jY prog 194 [seq_v] h (λv h'=>∃(rb0:Option Addr)(rc0:Nat),v=.slice rb0 (gp seq).length rc0/\SlC S1 h' rb0 rc0 (gp seq)):=by
 refine sT func194 U ntmps194 U λX hM hX hF=>?_
 have hs0:=@rfl _ (gp seq)
 refine qT 7 U (aw (cJ call239 (sd h seq seq_v hseq ob) U (λv1 h1 hle1 hp1=>?_)))
 obtain⟨rb1,rc1,rfl,sl1⟩:=hp1
 refine an ?_
 have hs1:gp seq=(cy seq):=hs0
 exact nretH [.slice rb1 ((cy seq).length) rc1] (hs1▸⟨rb1,rc1,U,sl1⟩)
theorem Ac(h:HF)(x:Int)(y:Int)  : Ret prog 181 [I x,I y] h (I (cmp_Compare_int x y)):=by
 refine sT func181 U ntmps181 U λX hM hX hF=>?_
 have hs0:=@rfl _ (cmp_Compare_int x y)
 refine qT 7 U (ai call213 (uB h x) U (qO 5 U (ai call213 (uB h y) U (qO 7 U (ae hs0 U (λc1 hs1=>?_) (λc1 hs2=>?_))))))
 .refine qT 5 U (ae hs1 U (λc2 hs3=>?_) (λc2 hs4=>?_))
  .exact sr (an (nretP [I 0] (ci hs3)))
  exact aQ (qT 4 U (nretP [I (-1)] (ci hs4)))
 refine qT 6 U (ae hs2 U (λc3 hs7=>?_) (λc3 hs8=>?_))
 .exact sr (an (nretP [I 1] (ci hs7)))
 refine qT 8 U (ae hs8 U (λc4 hs10=>?_) (λc4 hs11=>?_))
 .have c4p:=of_decide_eq_true c4
  exact sr (an (nretP [I (-1)] (ci hs10)))
 have c4p:=of_decide_eq_false c4
 refine qT 8 U (ae hs11 U (λc5 hs13=>?_) (λc5 hs14=>?_))
 .have c5p:=of_decide_eq_true c5
  exact sr (an (nretP [I 1] (ci hs13)))
 have c5p:=of_decide_eq_false c5
 exact aQ (qT 4 U (nretP [I 0] (ci hs14)))
theorem wV(h:HF)(m:List (OSeat×Appoint))(HI:Nat)(m_q:Addr)(office:Int)(office_q:Addr)(hm:re R4 (iY kR) h HI m)(am:At h m_q [.map (some HI)])(aoffice:At h office_q [I office])(hsz:m.length<=1000000000):Itr prog (.func (.func 240) #[] (kB [.pointer (some m_q),.pointer (some office_q)])) oE (cd m office) h:=by
 refine rl call240 ?_
 intro yf ya yb C Sp Pn h1 A hle m1 m2 m3 hC hy
 refine iN MY U ntmps240 U λX hXM hX=>?_
 have hs0:cd m office=[]++cd m office:=rfl
 refine qT 6 U (de ty250 (am.mono hle) U (aw (cJ call243 (w5 h1 m HI (hm.mono (iY.mono Se) hle)) U (λv1 h2 hle1 hp1=>ao (aw (cJ call242 (tR h2 v1 (m.map Prod.fst) hp1 (by rw[List.length_map];omega)) U (λv2 h3 hle2 hp2=>?_)))))))
 obtain⟨rb1,rc1,ys_,hper_,hsrt_,rfl,sl1⟩:=hp2
 have Rt:cd m office=[]++((cd.L1 m office (cd.K1)) ys_):=FO (by obtain⟨_,_,q⟩:=hm;exact q.nodup) hper_ hsrt_
 refine qL 3 [] U ?_
 refine lp2 ys_ (λi w=>[(0,.func yf ya yb),(1,.pointer (some m_q)),(2,.pointer (some office_q)),(11,.slice rb1 ys_.length rc1),(12,I (ys_.length:Int)),(13,I (i:Int))]) (λw=>w.2.2) (λw=>w.2.1) (λi w=>C w.1 w.2.2 w.2.1/\kK h3 w.2.2) (λs1 i w=>w.1++(cd.L1 m office (cd.K1)) s1) ([],A,h3) sl1.1.1 Rt ⟨(m1 _ _ _ _ (hle1.t hle2) hC),lf⟩ ?_ ?_
 .rintro i1 ⟨dn1,A1_,hh1⟩ fB hs1 ⟨hC1_,hl1⟩ e
  refine dQ ?_
  have hs2:cd m office=dn1:=hs1.trans (List.append_nil _)
  exact rm [] (A:=A1_) MY U (List.Sublist.refl _) (.inl (hs2▸hC1_))
 rintro i1 ⟨dn1,A1_,hh1⟩ y1 rz1 hd1 du bo eA gD hs3 ⟨hC1_,hl1⟩ hx1 ag1 e
 refine sr (tO du U (qO 8 U (aw (iF kE PW ty285 (sl1.mono OSeat.av hl1).1 bo U U U (λq2 A2=>dl ty285 A2 U U (aU zc285 (λb3=>aR 0 ty285 U U U U U U (gS (L':=[(b3,O (kE y1) 285)]++(A1_)) U (qO 3 U (de ty250 (am.mono (((hle.t hle1).t hle2).t hl1)) U (cI 0 ty285 U U U ?_)))))))))))
 obtain⟨o2,hb2,hm2⟩:=(hm.mono (iY.mono Se) (((hle.t hle1).t hle2).t hl1))
 refine aw (nN (k:=y1) KZ uX hb2 hm2 (e8 zv49) (show(iY kR) _ (.agg (kB [I 0,I 0,I 0,I 0,I 0,I 0,.bool false])) (kF 0 0 0 0 0 0 false)from⟨_,U,U⟩) U U (λv4 hv2=>?_))
 obtain⟨_,rfl,rfl⟩:=hv2
 refine aU zc49 (λb4=>aR 0 ty49 U U U U U U (gS (L':=[(b4,O (xP (mgetD m y1 (kF 0 0 0 0 0 0 false))) 49),(b3,O (kE y1) 285)]++(A1_)) U (qL 5 [1] U (de ty3 (aoffice.mono (((hle.t hle1).t hle2).t hl1)) U (qO 2 U (bD 4 [24,25,26,27,28] 24 28 (!((mgetD m y1 (kF 0 0 0 0 0 0 false)).Gone)) U (λc1 hk1=>?_) (λe=>?_)))))))
 .exact qL 4 [0] U (hk1 _ U)
 refine ao (nq 29 U (λc2=>?_) (λc2=>?_))
 .have hs4:=hs3.trans (congrArg (dn1++·) (bt c2))
  refine qL 5 [0,0] U (aw (eY (cells:=[I ((mgetD m y1 (kF 0 0 0 0 0 0 false)).Person),I ((mgetD m y1 (kF 0 0 0 0 0 0 false)).Weight)]) (places:=[(0,1),(1,1)]) underlying149 zc149 kr kr ?_))
  have hx1:cd m office=dn1++((UA ((mgetD m y1 (kF 0 0 0 0 0 0 false)).Person) ((mgetD m y1 (kF 0 0 0 0 0 0 false)).Weight))::(cd.L1 m office (cd.K1) rz1)):=hs4
  refine aw (j2 ([(b4,O (xP (mgetD m y1 (kF 0 0 0 0 0 0 false))) 49),(b3,O (kE y1) 285)]) A1_ ap (hy dn1 (UA ((mgetD m y1 (kF 0 0 0 0 0 0 false)).Person) ((mgetD m y1 (kF 0 0 0 0 0 0 false)).Weight)) _ _ _ _ hx1 ((hle1.t hle2).t hl1) hC1_ U) U U (λh4 A3 hle3 hC1=>?_) (λh5 A4 hle4 hS1=>?_) (λch1 h6 A5 hle5 hP1 e=>gk (mC [] (A:=A5) MY (List.sublist_append_right _ _) hP1)))
  .have hs5:cd m office=(dn1++[(UA ((mgetD m y1 (kF 0 0 0 0 0 0 false)).Person) ((mgetD m y1 (kF 0 0 0 0 0 0 false)).Weight))])++((cd.L1 m office (cd.K1) rz1)):=hx1.trans ap
   exact lL U (qO 6 U (oi i1 U (qO 2 U (bj (L':=A3) js (ag1 ((dn1++[(UA ((mgetD m y1 (kF 0 0 0 0 0 0 false)).Person) ((mgetD m y1 (kF 0 0 0 0 0 0 false)).Weight))]),A3,h4) hs5 ⟨hC1,(hl1.t hle3)⟩)))))
  exact lL U (qO 3 U (dQ (mi [] (A:=A4) MY U js (.inr hS1))))
 have hs6:=hs3.trans (congrArg (dn1++·) (bf c2))
 exact kq (qO 12 U (oi i1 U (qO 2 U (bj (L':=A1_) js (ag1 (dn1,A1_,hh1) hs6 ⟨hC1_,hl1⟩)))))
theorem zk(h:HF)(m:List (OSeat×Appoint))(HI:Nat)(office:Int)(hm:re R4 (iY kR) h HI m)(hsz:m.length<=1000000000):jY prog 195 [.map (some HI),I office] h (λv h'=>∃(rv0:Value),v=rv0/\Itr prog rv0 oE (jq m office) h'):=by
 refine sT func195 U ntmps195 U λX hM hX hF=>?_
 have hs0:=@rfl _ (jq m office)
 refine sr (ct (λb1=>ct (λb2=>qO 4 U (aP 1 U hM (λh1 hle1 hb1=>aP 0 U hM (λh2 hle2 hb2=>aw (dS U U (an ?_))))))))
 have hs1:jq m office=(cd m office):=hs0
 exact nretH [.func (.func 240) #[] #[Q b1,Q b2]] (hs1▸⟨(.func (.func 240) #[] #[Q b1,Q b2]),U,(wV h2 m HI ⟨b1,0,none⟩ office ⟨b2,0,none⟩ (hm.mono (iY.mono Se) (hle1.t hle2)) ((bI hb1).mono hle2) (bI hb2) ob)⟩)
theorem wd(h:HF)(x:Appoint)(v0:Int)(v0_q:Addr)(v1:Int)(v1_q:Addr)(av0:At h v0_q [I v0])(av1:At h v1_q [I v1]):Ret prog 244 [.agg (xP x).toArray,.pointer (some v0_q),.pointer (some v1_q)] h (.tuple #[.agg (kE ((fC x v0 v1).1)).toArray,.bool ((fC x v0 v1).2)]):=by
 refine cD func244 U ntmps244 U λX hM hX=>?_
 have hs0:=@rfl _ (fC x v0 v1)
 refine sr (ct (λb1=>aU zc285 (λb2=>qO 3 U ?_)))
 let z1:Nat×Obj:=(b1,O (xP x) 49)
 refine O4 ([(b2,O [I x.Office,I x.Person] 285),z1]) [(4,Q b2),(5,.bool (decide (x.At<=v0)&&decide (x.Known<=v1)))] (λe=>?_) (λhk1=>?_)
 rotate_left
 .refine eQ ([z1]) mixed kr jn (λeF _=>?_)
  refine qB [0] U (tf 1 U U (rj 0 ty3 U U U) (qB [2] U (tf 3 U U (rj 0 ty3 U U U) (qB [5] U (tf 6 U U (rj 0 ty3 U U U) (tf 7 U U (rh ty3 av0 U) (qA [8,9] U ?_)))))))
  refine dt 15 U (λc1=>?_) (λc1=>?_)
  .have c1p:=of_decide_eq_true c1
   exact tf 10 U U (λ_ _ _=>tA PO U) (tf 11 U U (rj 0 ty3 U U U) (tf 12 U U (rh ty3 av1 U) (qA [13,14] U (tn 4 U (eY (cells:=[I x.Office,I x.Person]) (places:=[(0,1),(1,1)]) Ir zc285 kr kr (⟨jn,(tn 15 U (qm 0 ty285 U U U U U U (⟨jn,(qA [16] U (aN kr (hk1 _ ⟨U,(cb (show decide (x.Known<=v1)=(decide (x.At<=v0)&&decide (x.Known<=v1))from by rw[c1]<;>rfl)),trivial⟩)))⟩)))⟩))))))
  have c1p:=of_decide_eq_false c1
  exact tk 10 U U (qR 11 4 U (tn 4 U (eY (cells:=[I x.Office,I x.Person]) (places:=[(0,1),(1,1)]) Ir zc285 kr kr (⟨jn,(tn 15 U (qm 0 ty285 U U U U U U (⟨jn,(qA [16] U (aN kr (hk1 _ ⟨U,(cb (show false=(decide (x.At<=v0)&&decide (x.Known<=v1))from by rw[c1]<;>rfl)),trivial⟩)))⟩)))⟩))))
 have hs1:fC x v0 v1=((OSeat.mk x.Office x.Person),(decide (x.At<=v0)&&decide (x.Known<=v1))):=hs0
 exact s8 [.agg (kB [I x.Office,I x.Person]),.bool (decide (x.At<=v0)&&decide (x.Known<=v1))] func244 U hX ⟨⟨0,_,_,_,_,U,U,.inl ⟨ty285,U⟩⟩,U,trivial⟩ (congrArg (λr:(OSeat×Bool)=>(.tuple #[.agg (kE r.1).toArray,.bool r.2]:Value)) hs1.symm)
theorem ut(h:HF)(l:List Appoint)(fq:Option Addr)(fp:Nat)(key:(Appoint->OSeat×Bool))(key_v:Value)(later:(Appoint->Appoint->Bool))(later_v:Value)(hl:SlC kR h fq fp l)(hkey:∀(h':HF)(cj:Appoint),kK h h'->sZ prog key_v [.agg (xP cj).toArray] h' [] (.tuple #[.agg (kE ((key cj).1)).toArray,.bool ((key cj).2)]))(hlater:∀(h':HF)(cj:Appoint)(DF:Appoint),kK h h'->sZ prog later_v [.agg (xP cj).toArray,.agg (xP DF).toArray] h' [] (.bool (later cj DF))):jY prog 245 [.slice fq l.length fp,key_v,later_v] h (λv h'=>∃(rk0:Nat),v=.map (some rk0)/\re R4 (iY kR) h' rk0 (cW l key later)):=by
 refine sT func245 U ntmps245 U λX hM hX hF=>?_
 have hs0:=@rfl _ (cW l key later)
 refine qT 6 U (aw (na (λb1=>qL 9 [] U ?_)))
 refine lp2 l (λi w=>[(1,key_v),(2,later_v),(7,.map (some b1)),(15,.slice fq l.length fp),(16,I (l.length:Int)),(17,I (i:Int))]) (λ_=>h) (λw=>[(b1,w.2)]) (λi w=>ia R4 (iY kR) h w.2 w.1/\w.1.length<=0+i) (λs1 i w=>(cW.L1 key later (cW.K1)) s1 w.1) ([],.map #[] 0) hl.1.1 hs0 ⟨(ia.nil (enc:=R4) (V:=(iY kR)) (h:=h)),lc⟩ ?_ ?_
 .rintro i1 ⟨bC,gY⟩ fB hs1 ⟨fK,nH⟩ e
  refine qT 5 U (eO 0 U hM (λh1 hle1 hb1=>?_))
  have mc1:re R4 (iY kR) h1 b1 bC:=⟨_,hb1,fK.mono (iY.mono Se) hle1⟩
  have hs2:cW l key later=bC:=hs1
  exact nretH [.map (some b1)] (hs2▸⟨b1,U,mc1⟩)
 rintro i1 ⟨bC,gY⟩ y1 rz1 hd1 du bo eA gD hs3 ⟨fK,nH⟩ hx1 ag1 e
 refine sr (tO du U (qO 8 U (aw (iF xP Cn ty49 hl.1 bo U U U (λq2 A2=>dl ty49 A2 U U (aU zc49 (λb5=>aR 0 ty49 U U U U U U (qO 4 U (cI 0 ty49 U U U (aw (lX (v:=.tuple #[.agg (kE ((key y1).1)).toArray,.bool ((key y1).2)]) [] (List.nil_sublist _) (hkey h y1 lf) U U (qO 3 U (aU zc285 (λb6=>aR 0 ty285 U U U U U U (qO 5 U (cI 0 ty285 U U U (aw (lI 2 (k:=(key y1).1) KZ uX U fK (e8 zv49) (show(iY kR) _ (.agg (kB [I 0,I 0,I 0,I 0,I 0,I 0,.bool false])) (kF 0 0 0 0 0 0 false)from⟨_,U,U⟩) U U (λv2 hv2=>?_)))))))))))))))))))
 obtain⟨_,rfl,rfl⟩:=hv2
 refine qO 3 U (aU zc49 (λb7=>aR 0 ty49 U U U U U U (qO 6 U (bD 10 [34,35,36,37,38,39,40,41,42,43,44] 34 44 ((!(mhas bC ((key y1).1)))||(!(later (mgetD bC ((key y1).1) (kF 0 0 0 0 0 0 false)) y1))) U (λc1 hk1=>?_) (λe=>?_)))))
 .refine qO 3 U (cn 6 [37,38,39,40,41,42,43] 37 43 (!(later (mgetD bC ((key y1).1) (kF 0 0 0 0 0 0 false)) y1)) U (λc2 hk2=>?_) (λe=>?_))
  .exact ao (cI 0 ty49 U U U (cI 2 ty49 U U U (aw (lX (v:=.bool (later (mgetD bC ((key y1).1) (kF 0 0 0 0 0 0 false)) y1)) [] (List.nil_sublist _) (hlater h (mgetD bC ((key y1).1) (kF 0 0 0 0 0 0 false)) y1 lf) U U (qO 2 U (hk2 _ U))))))
  exact eM U (hk1 _ U)
 refine aH (ae hs3 U (λc3 hs4=>?_) (λc3 hs5=>?_))
 .exact bu (ao (cI 1 ty285 U U U (cI 2 ty49 U U U (aw (iZ 3 (k:=(key y1).1) (x:=y1) KZ uX U fK U U ⟨_,U,U⟩ (λmo1 hm1=>qO 3 U (oi i1 U (qO 2 U (bj (L':=[(b1,mo1)]) js (ag1 ((mput bC ((key y1).1) y1),mo1) hs4 ⟨hm1,(by have:=gy bC ((key y1).1) y1;first|omega|(simp only[vB,zA]at *;omega))⟩))))))))))
 exact aQ (qT 2 U (oi i1 U (qO 2 U (bj (L':=[(b1,gY)]) js (ag1 (bC,gY) hs5 ⟨fK,lc⟩)))))
theorem wa(h:HF)(a:Appoint)(ku:Appoint)  : Ret prog 246 [.agg (xP a).toArray,.agg (xP ku).toArray] h (.bool (kw a ku)):=by
 refine sT func246 U ntmps246 U λX hM hX hF=>?_
 have hs0:=@rfl _ (kw a ku)
 exact sr (ct (λb1=>ct (λb2=>qL 11 [1,0] U (nretP [.bool (decide (ku.At<a.At))] (cs hs0)))))
theorem ry(h:HF)(l:List Appoint)(fq:Option Addr)(fp:Nat)(jU:Int)(known:Int)(hl:SlC kR h fq fp l):jY prog 196 [.slice fq l.length fp,I jU,I known] h (λv h'=>∃(rk0:Nat),v=.map (some rk0)/\re R4 (iY kR) h' rk0 (dp l jU known)):=by
 refine sT func196 U ntmps196 U λX hM hX hF=>?_
 have hs0:=@rfl _ (dp l jU known)
 refine sr (ct (λb1=>ct (λb2=>qO 4 U (aP 1 U hM (λh1 hle1 hb1=>aP 0 U hM (λh2 hle2 hb2=>aw (dS U U (qO 6 U (aw (cJ call245 (ut _ _ _ _ (λcj=>fC cj jU known) (.func (.func 244) #[] #[Q b1,Q b2]) kw (.func (.func 246) #[] #[]) (hl.mono Se (hle1.t hle2)) (λh' cj hle=>im call244 (wd h' cj jU ⟨b1,0,none⟩ known ⟨b2,0,none⟩  (((bI hb1).mono hle2).mono hle) ((bI hb2).mono hle))) (λh' cj DF hle=>im call246 (wa h' cj DF))) U (λv1 h3 hle3 hp1=>?_)))))))))))
 obtain⟨rk1,rfl,mo1⟩:=hp1
 refine an ?_
 have hs1:dp l jU known=(cW l (λcj=>fC cj jU known) kw):=hs0
 exact nretH [.map (some rk1)] (hs1▸⟨rk1,U,mo1⟩)
theorem sx(h:HF)(l:List Appoint)(fq:Option Addr)(fp:Nat)(office:Int)(ba:Int)(known:Int)(hl:SlC kR h fq fp l)(hsz:l.length<=2000000):jY prog 124 [.slice fq l.length fp,I office,I ba,I known] h (λv h'=>∃(rb0:Option Addr)(rc0:Nat),v=.tuple #[.slice rb0 ((dg l office ba known).1).length rc0,I ((dg l office ba known).2)]/\SlC S1 h' rb0 rc0 ((dg l office ba known).1)):=by
 refine sT func124 U ntmps124 U λX hM hX hF=>?_
 have hs0:=@rfl _ (dg l office ba known)
 refine qT 9 U (ai call48 (pY _ _ _ _ hl) U (qO 7 U (ae hs0 U (λc1 hs1=>?_) (λc1 hs2=>?_))))
 .refine qT 6 U ?_
  have hs3:dg l office ba known=([],(dq l)):=hs1
  exact nretH [.slice none 0 0,I (dq l)] (hs3▸⟨none,0,U,zF⟩)
 refine qT 5 U (ai Nh (mt h office) U (qO 2 U (cn 4 [18,19,20,21,22] 18 22 (!(cZ ba)) U (λc2 hk1=>?_) (λe=>?_))))
 .exact ao (ai DI (jh h ba) U (qO 2 U (hk1 _ U)))
 refine ao (cn 4 [23,24,25,26,27] 23 27 (!(cZ known)) U (λc3 hk2=>?_) (λe=>?_))
 .exact ao (ai DI (jh h known) U (qO 2 U (hk2 _ U)))
 refine aH (ae hs2 U (λc4 hs4=>?_) (λc4 hs5=>?_))
 .refine qT 5 U ?_
  have hs6:dg l office ba known=([],1):=hs4
  exact nretH [.slice none 0 0,I 1] (hs6▸⟨none,0,U,zF⟩)
 refine qT 6 U (aw (cJ call196 (ry _ _ _ _ ba known hl) U (λv1 h1 hle1 hp1=>?_)))
 obtain⟨rk1,rfl,mo1⟩:=hp1
 refine ao (aw (cJ call195 (zk h1 (dp l ba known) rk1 office mo1 (by have:=uP l ba known;omega)) U (λv2 h2 hle2 hp2=>?_)))
 obtain⟨_,rfl,mo2⟩:=hp2
 refine aw (cJ call194 (tV h2 (jq (dp l ba known) office) v2 mo2 (by have h1:=uP l ba known;have h2:=CL (dp l ba known) office;omega)) U (λv3 h3 hle3 hp3=>?_))
 obtain⟨rb1,rc1,rfl,sl1⟩:=hp3
 refine qO 3 U ?_
 have hs7:dg l office ba known=((gp (jq (dp l ba known) office)),0):=hs5
 exact nretH [.slice rb1 ((gp (jq (dp l ba known) office)).length) rc1,I 0] (hs7▸⟨rb1,rc1,U,sl1⟩)
theorem oh(h:HF)(q:aD)(mq:gK)(p:Policy)(gG:eU)(ba:Int)(hq:aD.ok h q mq)(hp:kN h p gG)(hsm:smR q.Register)(hszp:p.Offices.length<=2000000):jY prog 85 [.agg (aD.cells q mq).toArray,.agg (kD p gG).toArray,I ba] h (λv h'=>∃(rb0:Option Addr)(rc0:Nat),v=.slice rb0 (aG q p ba).length rc0/\SlC (Rp.sl S1) h' rb0 rc0 (aG q p ba)):=by
 refine sT func85 U ntmps85 U λX hM hX hF=>?_
 have hs0:=@rfl _ (aG q p ba)
 refine sr (ct (λb1=>ct (λb2=>qL 10 [0] U ?_)))
 let z2:Nat×Obj:=(b1,O (aD.cells q mq) 79)
 let z3:Nat×Obj:=(b2,O (kD p gG) 94)
 refine lp2 p.Offices (λi w=>[(2,I ba),(3,Q b1),(6,.slice w.2.1 w.1.length w.2.2.1),(12,I (p.Offices.length:Int)),(13,I (i:Int))]) (λw=>w.2.2.2.2) (λw=>[z3,z2]++(w.2.2.2.1)) (λi w=>dA (Rp.sl S1) 147 w.2.2.2.2 w.1 w.2.1 w.2.2.1 w.2.2.2.1/\w.1.length<=0+i/\kK h w.2.2.2.2) (λs1 i w=>(aG.L1 q ba (aG.K1)) s1 i w.1) ([],none,0,[],h) hp.Offices.1.1 hs0 ⟨dA.nil,lo,lf⟩ ?_ ?_
 .rintro i1 ⟨nn,Ba,AZ,CP,hh1⟩ fB hs1 ⟨vz,E5,hl1⟩ e
  try dsimp only at vz E5 hl1
  refine qT 5 U (fW (Rp.tb SJ) ([z3,z2]) CP ([]) ap hM vz (λh3 hle3 sl3=>?_))
  have hs2:aG q p ba=nn:=hs1
  exact nretH [.slice Ba nn.length AZ] ⟨Ba,AZ,congrArg (λr:(List (List Holder))=>(.slice Ba r.length AZ:Value)) hs2.symm,(by rw[hs2];exact sl3)⟩
 rintro i1 ⟨nn,Ba,AZ,CP,hh1⟩ y1 rz1 hd1 du bo eA gD hs3 ⟨vz,E5,hl1⟩ hx1 ag1 e
 try dsimp only at vz E5 hl1
 refine sr (tO du U (qL 20 [1,1] U (aw (cJ call124 (sx _ _ _ _ (i1:Int) ba q.known (hq.Register.Appoints.mono Se hl1) hsm.2.1) U (λv2 h4 hle4 hp2=>?_)))))
 obtain⟨rb2,rc2,rfl,sl4⟩:=hp2
 refine qO 9 U (aw (bB (cells:=[.slice rb2 (((dg q.Register.Appoints (i1:Int) ba q.known).1).length) rc2]) F9 ty147 zc147 U U kr (λb4=>?_)))
 let z1:Nat×Obj:=(b4,O [.slice rb2 (((dg q.Register.Appoints (i1:Int) ba q.known).1).length) rc2] 147)
 exact aw (eo (Rp.Lm SJ) ([z1,z3,z2]) ([]) (λG=>[z1,z3,z2]++G) ap (λ_=>ap) F9 ty147 zc147 U bytes147 (vz.mono (Rp.tb SJ) hle4) U U (fd 0 U (cE (R:=(Rp.sl S1)) ((dg q.Register.Appoints (i1:Int) ba q.known).1) U ⟨rb2,rc2,U,sl4⟩)) lo lo (λob2 oc2 G2 gr2=>qO 4 U (oi i1 U (qO 2 U (bj (L':=[z3,z2]++G2) js (ag1 ((nn++[(dg q.Register.Appoints (i1:Int) ba q.known).1]),ob2,oc2,G2,h4) hs3 ⟨gr2,lo,(hl1.t hle4)⟩))))))
theorem pB(h:HF)(q:aD)(mq:gK)(who:List Int)(gF:Option Addr)(gE:Nat)(ba:Int)(hq:aD.ok h q mq)(hwho:SlC zC h gF gE who)(hsm:smR q.Register)(hov:okV q.Register.Versions)(hod:(0<=q.doc.At/\q.doc.At<=1099511627776)/\0<=q.doc.Kind)(hsw:who.length<=2000000)(hk:Kinds h):Ret prog 33 [.agg (aD.cells q mq).toArray,.slice gF who.length gE,I ba] h (.bool (bF q who ba)):=by
 refine sT func33 U ntmps33 U λX hM hX hF=>?_
 have hs0:=@rfl _ (bF q who ba)
 have hjl:=EF q ba
 have hvl:=hsm.vers.len
 obtain⟨hod,hdk⟩:=hod
 refine sr (ct (λb1=>ct (λb2=>qL 11 [0,1] U (cn 6 [25,26,27,28,29,30,31] 25 31 (decide (q.doc.Until<=ba)) U (λc1 hk1=>?_) (λe=>?_)))))
 .exact qL 6 [0,1] U (hk1 _ U)
 refine aH (ae hs0 U (λc2 hs1=>?_) (λc2 hs2=>?_))
 .exact sr (an (nretP [.bool false] (cs hs1)))
 refine qT 3 U (aP 1 U hM (λh1 hle1 hb1=>aP 0 U hM (λh2 hle2 hb2=>aw (dS U U (qO 5 U (aw (Ph call37 (nW h2 who gF gE (hwho.mono zH (hle1.t hle2)) (by first|assumption|omega)) U (λob1 oc1 G1 gr1=>ao (aw (my (v:=.slice ob1 (ce who (λcj=>bQ cj q ba)).length oc1) ([]) G1 ([]) call82 (tU h2 who ob1 oc1 G1 (λcj=>bQ cj q ba) (.func (.func 80) #[] #[Q b1,Q b2]) gr1 (λh' cj hle=>im call80 (ui h' cj q mq ⟨b1,0,none⟩ ba ⟨b2,0,none⟩  ((hq.mono (hle1.t hle2)).mono hle) (((bI hb1).mono hle2).mono hle) ((bI hb2).mono hle) hsm)) (by first|assumption|omega)) ap U (λG2 gr2=>gS (L':=G2) ap (ox zH ([]) G2 ([]) ap hM gr2 (λh3 hle3 sl1=>qO 8 U (dl ty79 ((bI hb1).mono (hle2.t hle3)) U U (de ty3 ((bI hb2).mono hle3) U (aw (cJ call83 (oT _ _ _ ba (hq.mono ((hle1.t hle2).t hle3)) ob (hk.mono ((hle1.t hle2).t hle3))) U (λv1 h4 hle4 hp1=>?_))))))))))))))))))
 obtain⟨rb1,rc1,rfl,sl2⟩:=hp1
 refine qL 13 [] U ?_
 refine lp2 ((aB q ba).1) (λi w=>[(3,Q b1),(5,Q b2),(8,.slice ob1 ((ce who (λcj=>bQ cj q ba)).length) oc1),(9,.slice w.2.1 w.1.length w.2.2.1),(11,I ((aB q ba).2)),(43,.slice rb1 (((aB q ba).1).length) rc1),(44,I (((aB q ba).1).length:Int)),(45,I (i:Int))]) (λw=>w.2.2.2.2) (λw=>w.2.2.2.1) (λi w=>dA T0 4 w.2.2.2.2 w.1 w.2.1 w.2.2.1 w.2.2.2.1/\w.1.length<=0+i/\kK h4 w.2.2.2.2) (λs1 i w=>(bF.L1 q who ba (bF.K1 q ba)) s1 w.1) ([],none,0,[],h4) sl2.1.1 hs2 ⟨dA.nil,lo,lf⟩ ?_ ?_
 .rintro i1 ⟨zU,P5,P4,On,hh1⟩ fB hs4 ⟨GP,Om,hl1⟩ e
  try dsimp only at GP Om hl1
  refine qT 4 U (ox Rp.rS ([]) On ([]) ap hM GP (λh5 hle5 sl3=>ai call75 (rX _ ((aB q ba).2) _ _ _ sl3 ob) U (qO 10 U (bD 3 [103,104,105,106] 103 106 ((fP ((aB q ba).2) zU).2==0) U (λc3 hk2=>?_) (λe=>?_)))))
  .exact ao (qO 2 U (hk2 _ U))
  exact an (nretP [.bool ((fP ((aB q ba).2) zU).1&&((fP ((aB q ba).2) zU).2==0))] (cs hs4))
 rintro i1 ⟨zU,P5,P4,On,hh1⟩ y1 rz1 hd1 du bo eA gD hs6 ⟨GP,Om,hl1⟩ hx1 ag1 e
 try dsimp only at GP Om hl1
 obtain⟨v_,hv_,hve_⟩:=zx (fS hd1)
 have hsp:=hsm.vers.2 v_ hv_
 rw[hve_]at hsp
 have hvt:=hov.2 v_ hv_
 rw[hve_]at hvt
 have hofl:=hsp.2.2.2.1
 refine sr (tO du U (qO 8 U (aw (iR M2 ty94 (sl2.mono Policy.av hl1).1 bo U U U (λ_ _ _ e=>e) (λq3 r3 A3 ok3=>dl ty94 A3 U U (aU zc94 (λb4=>aR 0 ty94 U U U U U U (gS (L':=[(b4,O (kD y1 r3) 94)]++(On)) U (qL 5 [] U (ky (j:=9) ty3 ((bI hb1).mono (((hle2.t hle3).t hle4).t hl1)) U U (qO 3 U ?_)))))))))))
 refine nU [(3,Q b1),(5,Q b2),(8,.slice ob1 ((ce who (λcj=>bQ cj q ba)).length) oc1),(9,.slice P5 zU.length P4),(11,I ((aB q ba).2)),(13,Q b4),(14,I q.doc.Kind),(15,.bool (decide (q.doc.Kind<(y1.Rules.length:Int))&&decide ((q.doc.At+(nthI y1.Rules q.doc.Kind).Think)<=ba))),(43,.slice rb1 (((aB q ba).1).length) rc1),(44,I (((aB q ba).1).length:Int)),(45,I (i1:Int))] (λe=>?_) (λhk3=>?_)
 rotate_left
 .refine eQ ([(b4,O (kD y1 r3) 94)]) mixed kr jn (λeF _=>?_)
  refine qB [0,1] U (tf 2 U U (rj 0 ty92 U U U) (tf 3 U U (λ_ _ _=>Gq tQ U) (qA [4,5] U ?_)))
  refine dt 57 U (λc4=>?_) (λc4=>?_)
  .have c4p:=of_decide_eq_true c4
   refine tf 6 U U (rh ty3 ((bI hb2).mono ((hle3.t hle4).t hl1)) U) (qB [7,8] U (tf 9 U U (rH 8 ty3 ((bI hb1).mono (((hle2.t hle3).t hle4).t hl1)) U U) (qB [10] U (tf 11 U U (rj 0 ty92 U U U) (tm 12 U ?_)))))
   have ho2:0<=(q.doc.Kind:Int)/\(q.doc.Kind:Int)<((y1.Rules).length:Int):=ob
   refine km 13 eF jn tQ ty91 ok3.Rules.1 ho2 (dy ho2) U U U U kr (λq4 cs4 A4 ln4 rr4=>?_)
   obtain⟨r4,rfl,ok4⟩:=rr4
   exact tf 14 U U (λ_ _ _=>tA PE U) (tf 15 U U (rH 2 ty3 A4 U U) (tf 16 U U (λ_ _ _=>ny (v':=I (q.doc.At+(nthI y1.Rules q.doc.Kind).Think)) U (jc (by first|omega|(have hth:=hvt.2 _ (lm ob);omega)))) (qR 17 3 U (aN kr (hk3 _ ⟨U,U,U,U,U,U,U,(cb (show decide ((q.doc.At+(nthI y1.Rules q.doc.Kind).Think)<=ba)=(decide (q.doc.Kind<(y1.Rules.length:Int))&&decide ((q.doc.At+(nthI y1.Rules q.doc.Kind).Think)<=ba))from by rw[c4]<;>rfl)),U,U,U,trivial⟩)))))
  have c4p:=of_decide_eq_false c4
  exact tk 6 U U (qR 7 13 U (aN kr (hk3 _ ⟨U,U,U,U,U,U,U,(cb (show false=(decide (q.doc.Kind<(y1.Rules.length:Int))&&decide ((q.doc.At+(nthI y1.Rules q.doc.Kind).Think)<=ba))from by rw[c4]<;>rfl)),U,U,U,trivial⟩)))
 refine qT 5 U (ae hs6 U (λc5 hs7=>?_) (λc5 hs8=>?_))
 .refine dJ ?_
  let z1:Nat×Obj:=(b4,O (kD y1 r3) 94)
  refine eQ ([z1]) mixed kr jn (λnh _=>?_)
  refine tf 0 U U (λ_ _ hj=>jZ ty94 U (hj.nth (i:=0) U) U) (qD 1 3 U (tf 4 U U (rH 10 ty3 ((bI hb1).mono (((hle2.t hle3).t hle4).t hl1)) U U) (tf 5 U U (λ_ _ hj=>kU ty79 (((bI hb1).mono (((hle2.t hle3).t hle4).t hl1)).mono hj.1) U U) (tf 6 U U (λ_ _ hj=>jZ ty94 U (hj.nth (i:=0) U) U) (tf 7 U U (rh ty3 ((bI hb2).mono ((hle3.t hle4).t hl1)) U) (tm 9 U (tn 8 U (cJ call85 (oh _ _ _ _ _ ba (hq.mono ((((hle1.t hle2).t hle3).t hle4).t hl1)) ok3 ob ob) U (λv2 h6 hle6 hp2=>?_)))))))))
  obtain⟨rb2,rc2,rfl,sl4⟩:=hp2
  refine⟨⟨hle6,λ_ hp=>List.Sublist.subset js hp⟩,nr (K2:=[z1]) hle6 (λ_ hp=>hp) (tn 10 U (fg call84 (su _ _ _ q.doc.Kind q.doc.Value _ _ _ _ _ _ (ok3.mono hle6) sl4 (sl1.mono zH ((hle4.t hl1).t hle6)) ob (wP hsm.2.1 _ _) (Nat.le_trans (MH _ _) hsw) (hk.mono (((((hle1.t hle2).t hle3).t hle4).t hl1).t hle6))) U (⟨jn,(qR 11 5 U (aN kr (qT 3 U (bD 3 [87,88,89,90] 87 90 ((bU y1 q.doc.Kind q.doc.Value (aG q y1 ba) (ce who (λcj=>bQ cj q ba))).2==0) U (λc6 hk4=>?_) (λe=>?_)))))⟩)))⟩
  .exact ao (qO 2 U (hk4 _ U))
  refine qO 5 U (aw (bB (cells:=[.bool ((bU y1 q.doc.Kind q.doc.Value (aG q y1 ba) (ce who (λcj=>bQ cj q ba))).1&&((bU y1 q.doc.Kind q.doc.Value (aG q y1 ba) (ce who (λcj=>bQ cj q ba))).2==0))]) yD ty4 zc4 U U kr (λb5=>aw (eo Rp.Cg ([(b5,O [.bool ((bU y1 q.doc.Kind q.doc.Value (aG q y1 ba) (ce who (λcj=>bQ cj q ba))).1&&((bU y1 q.doc.Kind q.doc.Value (aG q y1 ba) (ce who (λcj=>bQ cj q ba))).2==0))] 4),z1]) ([]) (λG=>[(b5,O [.bool ((bU y1 q.doc.Kind q.doc.Value (aG q y1 ba) (ce who (λcj=>bQ cj q ba))).1&&((bU y1 q.doc.Kind q.doc.Value (aG q y1 ba) (ce who (λcj=>bQ cj q ba))).2==0))] 4),z1]++G) ap (λ_=>ap) yD ty4 zc4 U bytes4 (GP.mono Rp.rS hle6) U U (fd 0 U (cE ((bU y1 q.doc.Kind q.doc.Value (aG q y1 ba) (ce who (λcj=>bQ cj q ba))).1&&((bU y1 q.doc.Kind q.doc.Value (aG q y1 ba) (ce who (λcj=>bQ cj q ba))).2==0)) U U)) lo lo (λob2 oc2 G3 gr3=>qO 4 U (iq (v':=I (((i1+1):Nat):Int)) U (Ab (by first|omega|(have hth:=hvt.2 _ (lm ob);omega))) (qO 2 U ?_)))))))
  exact bj (L':=G3) js (ag1 ((zU++[((bU y1 q.doc.Kind q.doc.Value (aG q y1 ba) (ce who (λcj=>bQ cj q ba))).1&&((bU y1 q.doc.Kind q.doc.Value (aG q y1 ba) (ce who (λcj=>bQ cj q ba))).2==0))]),ob2,oc2,G3,h6) hs7 ⟨gr3,lo,(hl1.t hle6)⟩)
 exact aQ (qT 3 U (aw (bB (cells:=[.bool (decide (q.doc.Kind<(y1.Rules.length:Int))&&decide ((q.doc.At+(nthI y1.Rules q.doc.Kind).Think)<=ba))]) yD ty4 zc4 U U kr (λb6=>aw (eo Rp.Cg ([(b6,O [.bool (decide (q.doc.Kind<(y1.Rules.length:Int))&&decide ((q.doc.At+(nthI y1.Rules q.doc.Kind).Think)<=ba))] 4),(b4,O (kD y1 r3) 94)]) ([]) (λG=>[(b6,O [.bool (decide (q.doc.Kind<(y1.Rules.length:Int))&&decide ((q.doc.At+(nthI y1.Rules q.doc.Kind).Think)<=ba))] 4),(b4,O (kD y1 r3) 94)]++G) ap (λ_=>ap) yD ty4 zc4 U bytes4 GP U U (fd 0 U (cE (decide (q.doc.Kind<(y1.Rules.length:Int))&&decide ((q.doc.At+(nthI y1.Rules q.doc.Kind).Think)<=ba)) U U)) lo lo (λob3 oc3 G4 gr4=>qO 4 U (iq (v':=I (((i1+1):Nat):Int)) U (Ab (by first|omega|(have hth:=hvt.2 _ (lm ob);omega))) (qO 2 U (bj (L':=G4) js (ag1 ((zU++[(decide (q.doc.Kind<(y1.Rules.length:Int))&&decide ((q.doc.At+(nthI y1.Rules q.doc.Kind).Think)<=ba))]),ob3,oc3,G4,hh1) hs8 ⟨gr4,lo,hl1⟩))))))))))
end
end Go.Sg
