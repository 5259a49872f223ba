import Derived.Test.YtpplkjhgggjaoaaGreatDoorW8
/- A part of the proof of JudgeExactly. -/
set_option linter.unusedVariables false
set_option linter.unusedSimpArgs false
set_option maxRecDepth 100000
open List renaming length_cons→zA,length_append→jA,mem_cons_of_mem→vA,not_mem_nil→kA,mem_cons_self→zB,length_nil→jB,toArray→vB,mem_cons→kB,mem_singleton→kC,append_assoc→qE,mem_of_getElem?→xE,nil_append→jG,mem_append→qH,perm_append_comm→jJ,map_cons→xK,mem_map_of_mem→vP,nodup_cons→xR,foldl_cons→aA1
open Go.Sg.Rp renaming int→qC,aO→vG,bool→aAT,iK→aBI
open Go.Value renaming int→xC,bool→aAB
open Go.IntKind renaming wrap→vC
open Go.Sg.SlC renaming nil→vE
open Go.Sg.HF renaming le_trans→zF,le→jM,le_refl→qP
open Nat renaming le_refl→xG,zero_le→jL,lt_or_ge→jP
open Go.Sg.Document renaming aj→zH,cells→xN,rp→vR,ok→aAu
open Go.Sg.Budget renaming cells→zK,rp→aAk,mk→aAW,aj→aBu
open Go.Sg.Version renaming aj→vM,rp→qQ,cells→aAz
open Option.some renaming inj→vT
open Go.Sg.Holder renaming cells→aAo,aj→aAV,rp→aBt
open Go.Sg.Use renaming cells→aAx,rp→aCo
open Go.Sg.Stp renaming mono→aB8

namespace Go.Sg
open Go.Proofs Go.Proofs.Tryz
set_option maxHeartbeats 2000000
theorem pU(h:HF)(l:List Version)(eP:Option Addr)(eO:Nat)(old:Bool)(hl:SlC qQ h eP eO l):j1 prog 170 [.slice eP l.length eO,.bool old] h (λv h'=>∃(rb0:Option Addr)(rc0:Nat),v=.slice rb0 (iI l old).length rc0/\SlC qQ h' rb0 rc0 (iI l old)):=by
 refine sT func170 U ntmps170 U λX hM hX hF=>?_
 have hs0:iI l old=iI l old:=rfl
 refine qT 9 U ?_
 have hs1:iI l old=l:=hs0
 exact nretH [.slice eP l.length eO] ⟨eP,eO,congrArg (λr:List Version=>(.slice eP r.length eO:Value)) hs1.symm,(by rw[hs1];exact hl)⟩
theorem wC(h:HF)(l:List Version)(eP:Option Addr)(eO:Nat)(old:Bool)(hl:SlC qQ h eP eO l)(hne:0<l.length):j1 prog 171 [.slice eP l.length eO,.bool old] h (λv h'=>∃(rb0:Option Addr)(rc0:Nat),v=.slice rb0 (ii l old).length rc0/\SlC qQ h' rb0 rc0 (ii l old)):=by
 refine sT func171 U ntmps171 U λX hM hX hF=>?_
 have hs0:ii l old=ii l old:=rfl
 refine qT 10 U (ae hs0 U (λc1 hs1=>?_) (λc1 hs2=>?_))
 .refine qT 4 U ?_
  have hs3:ii l old=[]:=hs1
  exact nretH [.slice none 0 0] ⟨none,0,congrArg (λr:List Version=>(.slice none r.length 0:Value)) hs3.symm,(by rw[hs3];exact vE)⟩
 refine qT 4 U (aC (NU yz ty105 hl.1 hl.2 ob U U U (λsb1 sc1 sl1=>an ?_)))
 have hs4:ii l old=(l.take ((1:Int)).toNat):=hs2
 exact nretH [.slice sb1 ((l.take ((1:Int)).toNat).length) sc1] ⟨sb1,sc1,congrArg (λr:List Version=>(.slice sb1 r.length sc1:Value)) hs4.symm,(by rw[hs4];exact sl1)⟩
theorem wB(h:HF)(l:List Version)(eP:Option Addr)(eO:Nat)(old:Bool)(hl:SlC qQ h eP eO l)(hne:0<l.length):j1 prog 172 [.slice eP l.length eO,.bool old] h (λv h'=>∃(rb0:Option Addr)(rc0:Nat),v=.slice rb0 (iH l old).length rc0/\SlC qQ h' rb0 rc0 (iH l old)):=by
 refine sT func172 U ntmps172 U λX hM hX hF=>?_
 have hs0:iH l old=iH l old:=rfl
 have hbl:=hl.1.1
 refine qK 9 [] U (iQ (v':=I ((l.length:Int)-1)) U (jv ob) (aC (NW yz ty105 hl.1 hl.2 ob U U U (λsb1 sc1 sl1=>an ?_))))
 have hs1:iH l old=(l.drop ((((l.length:Int)-1):Int)).toNat):=hs0
 exact nretH [.slice sb1 ((l.drop ((((l.length:Int)-1):Int)).toNat).length) sc1] ⟨sb1,sc1,congrArg (λr:List Version=>(.slice sb1 r.length sc1:Value)) hs1.symm,(by rw[hs1];exact sl1)⟩
theorem rT(h:HF)   : j1 prog 87 [] h (λv h'=>∃(rk0:Nat),v=.map (some rk0)/\s7 (xC .i64) VFn h' rk0 (ky)):=by
 refine sT func87 U ntmps87 U λX hM hX hF=>?_
 have hs0:ky=ky:=rfl
 refine qT 10 U (aC (nC (λb1=>aC (wN 0 (k:=1) (x:=(Value.func (.func 171) #[] #[])) Ix (fC m6) U (ja.nil (enc:=(xC .i64)) (V:=VFn) (h:=h)) U U U (λmo1 hm1=>aC (wN 0 (k:=2) (x:=(Value.func (.func 172) #[] #[])) Ix (fC m6) U hm1 U U U (λmo2 hm2=>av (aC (wN 0 (k:=3) (x:=(Value.func (.func 170) #[] #[])) Ix (fC m6) U hm2 U U U (λmo3 hm3=>av (aC (wN 0 (k:=4) (x:=(Value.func (.func 170) #[] #[])) Ix (fC m6) U hm3 U U U (λmo4 hm4=>qO 3 U (eR 0 U hM (λh1 hle1 hb1=>?_)))))))))))))))
 have mc1:s7 (xC .i64) VFn h1 b1 (mput (mput (mput (mput ([]) 1 (Value.func (.func 171) #[] #[])) 2 (Value.func (.func 172) #[] #[])) 3 (Value.func (.func 170) #[] #[])) 4 (Value.func (.func 170) #[] #[])):=⟨_,hb1,hm4.mono VFn.mono hle1⟩
 have hs1:ky=(mput (mput (mput (mput ([]) 1 (Value.func (.func 171) #[] #[])) 2 (Value.func (.func 172) #[] #[])) 3 (Value.func (.func 170) #[] #[])) 4 (Value.func (.func 170) #[] #[])):=hs0
 exact nretH [.map (some b1)] ⟨b1,congrArg (λr:(List (Int×Value))=>(.map (some b1):Value)) hs1.symm,(by rw[hs1];exact mc1)⟩
theorem Js(mode:Int)(l:List Version)(old:Bool):(judgesP mode l old).length<=l.length:=by
 unfold judgesP iI ii iH
 cases mode==1<;>cases mode==2<;>cases old<;>simp<;>omega
theorem Jq(h:HF)(mode:Int)(hm:1<=mode/\mode<=4)(l:List Version)(eP:Option Addr)(eO:Nat)(old:Bool)(hl:SlC qQ h eP eO l)(hne:0<l.length):
  Qi prog (mgetD ky mode Value.nilFunc) [.slice eP l.length eO,.bool old] h (λv h'=>∃(rb0:Option Addr)(rc0:Nat),v=.slice rb0 (judgesP mode l old).length rc0/\SlC qQ h' rb0 rc0 (judgesP mode l old)):=by
 have:mode=1\/mode=2\/mode=3\/mode=4:=by omega
 rcases this with rfl|rfl|rfl|rfl
 .exact m8 (cap:=[]) (args:=[.slice eP l.length eO,.bool old]) call171 (wC h l eP eO old hl hne)
 .exact m8 (cap:=[]) (args:=[.slice eP l.length eO,.bool old]) call172 (wB h l eP eO old hl hne)
 .exact m8 (cap:=[]) (args:=[.slice eP l.length eO,.bool old]) call170 (pU h l eP eO old hl)
 exact m8 (cap:=[]) (args:=[.slice eP l.length eO,.bool old]) call170 (pU h l eP eO old hl)
theorem rU(h:HF)(l:List Version)(eP:Option Addr)(eO:Nat)(begun:Int)(bp:Int)(known:Int)(hl:SlC qQ h eP eO l)(hsm:smV l)(hk:Kinds h):j1 prog 22 [.slice eP l.length eO,I begun,I bp,I known] h (λv h'=>∃(rb0:Option Addr)(rc0:Nat),v=.tuple #[.slice rb0 ((aD l begun bp known).1).length rc0,I ((aD l begun bp known).2.1),I ((aD l begun bp known).2.2)]/\SlC qC h' rb0 rc0 ((aD l begun bp known).1)):=by
 refine cJ Iw U ntmps22 U λX hM hX=>?_
 have hs0:aD l begun bp known=aD l begun bp known:=rfl
 have hsl:=hsm.len
 refine sr (cy (λb1=>cy (λb2=>qO 8 U (ai call69 (qg _ _ _ _ hl ob hk) U (qO 7 U (ae hs0 U (λc1 hs1=>?_) (λc1 hs2=>?_)))))))
 .refine qT 7 U ?_
  have hs3:aD l begun bp known=([],0,(bH l)):=hs1
  exact jx [.slice none 0 0,I 0,I (bH l)] Iw U rd ⟨none,0,congrArg (λr:(List Int×Int×Int)=>(.tuple #[.slice none r.1.length 0,I r.2.1,I r.2.2]:Value)) hs3.symm,(by rw[hs3];exact vE)⟩
 refine qK 5 [1] U (ai call85 (ol h begun) U (qO 2 U (bV 4 [25,26,27,28,29] 25 29 (!(gB bp)) U (λc2 hk1=>?_) (λe=>?_))))
 .exact qL 1 [0] U (ai call85 (ol h bp) U (qO 2 U (hk1 _ U)))
 refine av (bV 4 [30,31,32,33,34] 30 34 (!(gB known)) U (λc3 hk2=>?_) (λe=>?_))
 .exact av (ai call85 (ol h known) U (qO 2 U (hk2 _ U)))
 refine av (bV 4 [35,36,37,38,39] 35 39 (decide (bp<begun)) U (λc4 hk3=>?_) (λe=>?_))
 .exact qL 4 [1,0] U (hk3 _ U)
 refine aJ (ae hs2 U (λc5 hs4=>?_) (λc5 hs5=>?_))
 .refine qT 6 U ?_
  have hs6:aD l begun bp known=([],0,1):=hs4
  exact jx [.slice none 0 0,I 0,I 1] Iw U rd ⟨none,0,congrArg (λr:(List Int×Int×Int)=>(.tuple #[.slice none r.1.length 0,I r.2.1,I r.2.2]:Value)) hs6.symm,(by rw[hs6];exact vE)⟩
 refine qT 3 U (ba zc26 (λb3=>qO 3 U (ba zc4 (λb4=>cT 0 ty4 U U U U U U (qL 7 [3] U (aC (cS call86 (yy _ _ _ _ begun known hl ob) U (λv1 h1 hle1 hp1=>?_))))))))
 obtain⟨_,rfl,mo1⟩:=hp1
 refine qO 2 U (et (cn (L':=([(b4,O [.bool false] 4),(b3,O [.slice none 0 0] 26),(b2,O [I bp] 3),(b1,O [I begun] 3)])++markB []) ap ?_))
 refine My (it:=v1) (xs:=(fL l begun known)) (ι:=Bool×List Version×Option Addr×Nat×LH×HF) [] (λi=>i.2.2.2.2.2) (λi=>[(b4,O [.bool i.1] 4),(b3,O [.slice i.2.2.1 i.2.1.length i.2.2.2.1] 26),(b2,O [I bp] 3),(b1,O [I begun] 3)]++(i.2.2.2.2.1)) (λs i=>aD l begun bp known=((aD.L1 begun bp (aD.K1)) s i.1 i.2.1)/\dG qQ 105 i.2.2.2.2.2 i.2.1 i.2.2.1 i.2.2.2.1 i.2.2.2.2.1/\jM h1 i.2.2.2.2.2/\(∀x∈i.2.1,x∈l)/\(∀q∈s,q.2∈l)/\i.2.1.length+s.length<=l.length) (λ_=>False) 0 (λ_ _ _=>False) (false,[],none,0,[],h1) Iw U mo1 U yK (λ_ _ _ _ _ hq=>hq) U (show[(b4,O [.bool false] 4),(b3,O [.slice none 0 0] 26),(b2,O [I bp] 3),(b1,O [I begun] 3)]=_ from U) ⟨hs5,dG.nil,lf,(λx hx=>(kA hx).elim),xl,(by have:=C1 l begun known;simpa using this)⟩ ?_ ?_ ?_ ?_
 .rintro l1 dm1 lp1 y1 rz1 vs1 ⟨dC,ck,lg,ld,lh,hh1⟩ hr1 X hFR1 ⟨hs7,mK,hl1,u1_0,u1_1,u1_2⟩ hl01 hlr1 hv1 hX hXM hlp1 nx1 rt1 ex1 pn1
  try dsimp only at mK hl1 u1_0 u1_1 u1_2 hlr1
  obtain⟨rr1_0,rfl,ok1_0⟩:=hv1
  simp only[zA]at u1_2
  let z2:Nat×Obj:=(b3,O [.slice lg ck.length ld] 26)
  let z6:Nat×Obj:=(dm1,.deferred (some []))
  refine cn (L':=[(l1,.loop lp1),z6,(b4,O [.bool dC] 4),z2,(b2,O [I bp] 3),(b1,O [I begun] 3)]++(lh++(markB []))) ap (qT 5 U (ba zc105 (λb6=>aQ 0 ty105 U U U U U U (il (L':=[(b6,O (aAz y1.2 rr1_0) 105),(l1,.loop lp1),z6,(b4,O [.bool dC] 4),z2,(b2,O [I bp] 3),(b1,O [I begun] 3)]++(lh++(markB []))) U (aJ (jy 1 U hlp1 (qK 8 [5] U (ae hs7 U (λc7 hs8=>?_) (λc7 hs9=>?_)))))))))
  .have c7p:=of_decide_eq_true c7
   exact bz (L':=[(l1,.loop { lp1 with state:=.busy }),z6,(b4,O [.bool dC] 4),z2,(b2,O [I bp] 3),(b1,O [I begun] 3)]++(lh++(markB []))) js (cn (L':=rdH l1 dm1 lp1 (([(b4,O [.bool dC] 4),z2,(b2,O [I bp] 3),(b1,O [I begun] 3)]++(lh))++markB [])) ap (ex1 (dC,ck,lg,ld,lh,hr1) _ _ _ ⟨hs8,(mK.mono vM hlr1),(hl1.t hlr1),u1_0,(λq hq=>(kA hq).elim),(by simp only[jB,zA]at *;omega)⟩ lf U))
  have c7p:=of_decide_eq_false c7
  refine qK 5 [3] U (bV 4 [50,51,52,53,54] 50 54 (y1.1==begun) U (λc8 hk4=>?_) (λe=>?_))
  .exact qL 4 [6] U (hk4 _ U)
  refine cT 3 ty4 U U U U U U (qL 3 [4] U (cK 0 ty105 U U U (aC (bK (cells:=[I y1.2.No,I y1.2.At,I y1.2.Known,.string y1.2.Policy.Name,.slice rr1_0.Policy.i8 y1.2.Policy.Kinds.length rr1_0.Policy.i7,.slice rr1_0.Policy.gq y1.2.Policy.Offices.length rr1_0.Policy.gp,.slice rr1_0.Policy.nO y1.2.Policy.Rules.length rr1_0.Policy.nN,I y1.2.Policy.Change.Kind,I y1.2.Policy.Change.N,I y1.2.Policy.Change.No,.string y1.2.Policy.Change.Name,.slice rr1_0.Policy.Change.lX y1.2.Policy.Change.L.length rr1_0.Policy.Change.mm,I y1.2.Policy.Mode]) yz ty105 zc105 U U kr (λb7=>?_)))))
  let z1:Nat×Obj:=(b7,O [I y1.2.No,I y1.2.At,I y1.2.Known,.string y1.2.Policy.Name,.slice rr1_0.Policy.i8 y1.2.Policy.Kinds.length rr1_0.Policy.i7,.slice rr1_0.Policy.gq y1.2.Policy.Offices.length rr1_0.Policy.gp,.slice rr1_0.Policy.nO y1.2.Policy.Rules.length rr1_0.Policy.nN,I y1.2.Policy.Change.Kind,I y1.2.Policy.Change.N,I y1.2.Policy.Change.No,.string y1.2.Policy.Change.Name,.slice rr1_0.Policy.Change.lX y1.2.Policy.Change.L.length rr1_0.Policy.Change.mm,I y1.2.Policy.Mode] 105)
  let z4:Nat×Obj:=(b4,O [.bool (dC||(y1.1==begun))] 4)
  let z5:Nat×Obj:=(l1,.loop { lp1 with state:=.busy })
  let z7:Nat×Obj:=(b6,O (aAz y1.2 rr1_0) 105)
  refine aC (dK Version.eQ ([z1,z7,z5,z6,z4,z2,(b2,O [I bp] 3),(b1,O [I begun] 3)]) (markB []) (λG=>[z1,z7,z5,z6,z4,z2,(b2,O [I bp] 3),(b1,O [I begun] 3)]++(markB []++G)) ap (λ_=>ap) yz ty105 zc105 U bytes105 (mK.mono vM hlr1) U U (fd 0 U (cE (R:=qQ) (y1.2) U ⟨rr1_0,U,ok1_0⟩)) lo lo (λob1 oc1 G1 gr1=>yd (rP ([z1,z7,z5,z6,z4,z2,(b2,O [I bp] 3),(b1,O [I begun] 3)]) G1 (markB [])) (cT 5 ty26 U U U U U U (qO 2 U ?_))))
  let z9:Nat×Obj:=(b3,O [.slice ob1 ((ck++[y1.2]).length) oc1] 26)
  exact bz (L':=[z5,z6,z4,z9,(b2,O [I bp] 3),(b1,O [I begun] 3)]++(G1++(markB []))) js (cn (L':=rdH l1 dm1 lp1 (([z4,z9,(b2,O [I bp] 3),(b1,O [I begun] 3)]++G1)++markB [])) ap (nx1 ((dC||(y1.1==begun)),(ck++[y1.2]),ob1,oc1,G1,hr1) _ _ ⟨hs9,gr1,(hl1.t hlr1),(λx hx=>(qH.1 hx).elim (u1_0 x) (λhx=>by rw[kC.1 hx];exact u1_1 y1 (zB ..))),(λq hq=>u1_1 q (vA _ hq)),(by simp only[jA,zA,jB]at *;omega)⟩ lf))
 .rintro dm1 ⟨dC,ck,lg,ld,lh,hh1⟩ hn1 ⟨hs10,mK,hl1,u1_0,u1_1,u1_2⟩ hln1 hl01
  try dsimp only at mK hl1 u1_0 u1_1 u1_2 hln1
  let z3:Nat×Obj:=(b3,O [.slice lg ck.length ld] 26)
  refine cn (L':=[(b4,O [.bool dC] 4),z3,(b2,O [I bp] 3),(b1,O [I begun] 3)]++(lh++(markB (dm1::[])))) ap (qK 7 [1] U (ae hs10 U (λc9 hs11=>?_) (λc9 hs12=>?_)))
  .refine qT 6 U ?_
   have hs13:aD l begun bp known=([],0,0):=hs11
   exact cn (L':=([(b4,O [.bool dC] 4),z3,(b2,O [I bp] 3),(b1,O [I begun] 3)]++(lh))++markB (dm1::[])) ap (pV (dm1::[]) [.slice none 0 0,I 0,I 0] Iw U rd ⟨none,0,congrArg (λr:(List Int×Int×Int)=>(.tuple #[.slice none r.1.length 0,I r.2.1,I r.2.2]:Value)) hs13.symm,(by rw[hs13];exact vE)⟩)
  refine qK 6 [1,1] U (iQ (v':=I ((ck.length:Int)-1)) U (jv ob) (m7 vM ([(b4,O [.bool dC] 4),z3,(b2,O [I bp] 3),(b1,O [I begun] 3)]) lh (markB (dm1::[])) ap hM (mK.mono vM hln1) (λh2 hle2 sl1=>?_)))
  have ho1:0<=(((ck.length:Int)-1):Int)/\(((ck.length:Int)-1):Int)<((ck).length:Int):=ob
  refine aC (si yz ty105 sl1.1 ho1 (cN ho1) U U U (λ_ _ _ e=>e) (λq1 r1 A1 ok1=>qL 2 [] U (jb (j:=12) ty3 A1 U U (qO 4 U (eM ([(b4,O [.bool dC] 4),z3,(b2,O [I bp] 3),(b1,O [I begun] 3)]) mixed kr jn (λem _=>tm 1 U (tf 3 U U (rj 1 ty26 U U U) (tf 4 U U (rj 0 ty4 U U U) (tm 7 U (tn 0 U (cS call87 (rT h2) U (λv2 h3 hle3 hp2=>?_))))))))))))
  obtain⟨rk2,rfl,mo2⟩:=hp2
  refine⟨jl hle3,tu hle3 (tn 2 U ?_)⟩
  obtain⟨o1,hb1,hm1⟩:=mo2
  refine nD (k:=(nthI ck ((ck.length:Int)-1)).Policy.Mode) Ix (fC m6) hb1 hm1 (e8 zv152) (show VFn _ (.nilFunc) Value.nilFunc from U) U U (λv3 hv1=>?_)
  obtain rfl:=hv1
  refine⟨jn,tn 5 U (N4 (Jq h3 ((nthI ck ((ck.length:Int)-1)).Policy.Mode) (((qw l).1 (by simpa using c1)).mode (u1_0 _ (nZ ho1))) ck lg ld dC (sl1.mono vM hle3) ob) U U (λv4 h4 hle4 hp3=>?_))⟩
  obtain⟨rb1,rc1,rfl,sl2⟩:=hp3
  have hjl:=Js ((nthI ck ((ck.length:Int)-1)).Policy.Mode) ck dC
  refine⟨jl hle4,tu hle4 (tf 6 U U (λ_ _ _=>I2 yz U) (aV kr ?_))⟩
  refine lp2 (judgesP ((nthI ck ((ck.length:Int)-1)).Policy.Mode) ck dC) (λi w=>[(8,.slice w.2.1 w.1.length w.2.2.1),(9,I ((nthI ck ((ck.length:Int)-1)).Policy.Mode)),(75,.slice rb1 ((judgesP ((nthI ck ((ck.length:Int)-1)).Policy.Mode) ck dC).length) rc1),(76,I (((judgesP ((nthI ck ((ck.length:Int)-1)).Policy.Mode) ck dC).length:Nat):Int)),(77,I (i:Int))]) (λ_=>h4) (λw=>[(b4,O [.bool dC] 4),z3,(b2,O [I bp] 3),(b1,O [I begun] 3)]++(w.2.2.2++(markB (dm1::[])))) (λi w=>dG qC 3 h4 w.1 w.2.1 w.2.2.1 w.2.2.2/\w.1.length<=0+i) (λs2 i w=>(aD.L2 (aD.K2 ck)) s2 w.1) ([],none,0,[]) sl2.1.1 hs12 ⟨dG.nil,lo⟩ ?_ ?_
  .rintro i2 ⟨kZ,oH,oG,nS⟩ fp hs14 ⟨pd,Ff⟩ e
   try dsimp only at pd Ff
   refine qT 3 U (aC (nd ([(b4,O [.bool dC] 4),z3,(b2,O [I bp] 3),(b1,O [I begun] 3)]) nS (markB (dm1::[])) Nq (mw h4 kZ oH oG nS pd (by first|assumption|omega|(simp only[jA,zA,jB] ;omega))) ap U (λG4 gr4=>qO 9 U (fF vG ([(b4,O [.bool dC] 4),z3,(b2,O [I bp] 3),(b1,O [I begun] 3)]) G4 (markB (dm1::[])) ap hM gr4 (λh6 hle6 sl4=>?_)))))
   have hs15:aD l begun bp known=((sortI kZ),(nthI ck ((ck.length:Int)-1)).Policy.Mode,0):=hs14
   exact cn (L':=([(b4,O [.bool dC] 4),z3,(b2,O [I bp] 3),(b1,O [I begun] 3)])++markB (dm1::[])) ap (pV (dm1::[]) [.slice oH kZ.length oG,I ((nthI ck ((ck.length:Int)-1)).Policy.Mode),I 0] Iw U rd ⟨oH,oG,(by rw[hs15];simp[retVal,iw]),(by rw[hs15];exact sl4)⟩)
  rintro i2 ⟨kZ,oH,oG,nS⟩ y2 rz2 hd2 xm sH E2 KH hs16 ⟨pd,Ff⟩ hx2 ag1 e
  try dsimp only at pd Ff
  refine sr (tO xm U (qO 8 U (aC (iR yz ty105 sl2.1 sH U U U (λ_ _ _ e=>e) (λq3 r3 A3 ok3=>dz ty105 A3 U U (ba zc105 (λb10=>aQ 0 ty105 U U U U U U (il (L':=[(b10,O (aAz y2 r3) 105),(b4,O [.bool dC] 4),z3,(b2,O [I bp] 3),(b1,O [I begun] 3)]++(nS++(markB (dm1::[])))) U ?_))))))))
  let z8:Nat×Obj:=(b10,O (aAz y2 r3) 105)
  exact qL 5 [0] U (aC (bK (cells:=[I y2.No]) dY ty3 zc3 U U kr (λb11=>aC (dK aBI ([(b11,O [I y2.No] 3),z8,(b4,O [.bool dC] 4),z3,(b2,O [I bp] 3),(b1,O [I begun] 3)]) (markB (dm1::[])) (λG=>[(b11,O [I y2.No] 3),z8,(b4,O [.bool dC] 4),z3,(b2,O [I bp] 3),(b1,O [I begun] 3)]++(markB (dm1::[])++G)) ap (λ_=>ap) dY ty3 zc3 U bytes3 pd U U (fd 0 U (cE (y2.No) U U)) lo lo (λob3 oc3 G5 gr5=>yd (rP ([(b11,O [I y2.No] 3),z8,(b4,O [.bool dC] 4),z3,(b2,O [I bp] 3),(b1,O [I begun] 3)]) G5 (markB (dm1::[]))) (qO 4 U (oi i2 U (qO 2 U (bz (L':=[(b4,O [.bool dC] 4),z3,(b2,O [I bp] 3),(b1,O [I begun] 3)]++(G5++(markB (dm1::[])))) js (ag1 ((kZ++[y2.No]),ob3,oc3,G5) hs16 ⟨gr5,lo⟩))))))))))
 .exact xf
 exact xf
theorem As(h:HF)(mode:Int)(permits:List Bool)(oE:Option Addr)(oD:Nat)(hpermits:SlC aAT h oE oD permits):Ret prog 190 [I mode,.slice oE permits.length oD] h (I (jw mode permits)):=by
 refine sT func190 U ntmps190 U λX hM hX hF=>?_
 have hs0:jw mode permits=jw mode permits:=rfl
 refine qT 7 U (aC (cS call87 (rT h) U (λv1 h1 hle1 hp1=>?_)))
 obtain⟨rk1,rfl,mo1⟩:=hp1
 refine av ?_
 obtain⟨o1,hb1,hm1⟩:=mo1
 refine aC (tb (k:=mode) Ix (fC m6) hb1 hm1 (e8 zv152) (show VFn _ (.nilFunc) Value.nilFunc from U) U U (λv2 hv1=>?_))
 obtain rfl:=hv1
 refine qO 11 U (ae hs0 U (λc1 hs1=>?_) (λc1 hs2=>?_))
 .exact sr (an (nretP [I 270] (ci hs1)))
 refine qK 8 [] U (ae hs2 U (λc2 hs4=>?_) (λc2 hs5=>?_))
 .have c2p:=of_decide_eq_true c2
  exact sr (an (nretP [I 1] (ci hs4)))
 have c2p:=of_decide_eq_false c2
 exact aN (qT 4 U (nretP [I 0] (ci hs5)))
theorem tT(h:HF)(s:List Bool)(sk:Option Addr)(sj:Nat)(f:(Bool->Bool))(f_v:Value)(hs:SlC aAT h sk sj s)(hf:∀(h':HF)(dF:Bool),jM h h'->um prog f_v [.bool dF] h' [] (.bool (f dF))):Ret prog 287 [.slice sk s.length sj,f_v] h (I (fg s f)):=by
 refine sT func287 U ntmps287 U λX hM hX hF=>?_
 have hs0:fg s f=fg s f:=rfl
 refine qK 11 [] U ?_
 refine lp0 s (λi=>[(0,.slice sk s.length sj),(1,f_v),(7,I (s.length:Int)),(8,I (i:Int))]) ([]) (λs1 i=>(fg.L1 f (fg.K1)) s1 i) hs.1.1 hs0 ?_ ?_
 .rintro i1 fp hs1 e
  exact sr (an (nretP [I (-1)] (ci hs1)))
 rintro i1 y1 rz1 hd1 dj aY er gr hs3 hx1 ag1 e
 refine sr (tO dj U (qO 16 U (aC (iF (λy=>[.bool y]) rW ty4 hs.1 aY U U U (λq2 A2=>dh ty4 A2 U (aC (lT (v:=.bool (f y1)) [] (List.nil_sublist _) (hf h y1 lf) U U (aJ (ae hs3 U (λc2 hs4=>?_) (λc2 hs5=>?_))))))))))
 .exact sr (qO 3 U (nretP [I (i1:Int)] (ci hs4)))
 exact aN (qT 2 U (oi i1 U (qO 2 U (ag1 hs5))))
theorem px(h:HF)(l:List Bool)(eP:Option Addr)(eO:Nat)(ok:(Bool->Bool))(ok_v:Value)(hl:SlC aAT h eP eO l)(hok:∀(h':HF)(dF:Bool),jM h h'->um prog ok_v [.bool dF] h' [] (.bool (ok dF))):Ret prog 191 [.slice eP l.length eO,ok_v] h (I (cQ l ok)):=by
 refine sT func191 U ntmps191 U λX hM hX hF=>?_
 have hs0:cQ l ok=cQ l ok:=rfl
 exact sr (qO 6 U (ai call287 (tT _ _ _ _ ok ok_v hl hok) U (an (nretP [I (fg l ok)] (ci hs0)))))
theorem wE(h:HF)(Dj:Bool)  : Ret prog 192 [.bool Dj] h (.bool (eK Dj)):=by
 refine sT func192 U ntmps192 U λX hM hX hF=>?_
 have hs0:eK Dj=eK Dj:=rfl
 exact sr (qO 7 U (nretP [.bool Dj] (cs hs0)))
theorem wD(h:HF)(Dj:Bool)  : Ret prog 193 [.bool Dj] h (.bool (fM Dj)):=by
 refine sT func193 U ntmps193 U λX hM hX hF=>?_
 have hs0:fM Dj=fM Dj:=rfl
 exact sr (qO 8 U (nretP [.bool (!Dj)] (cs hs0)))
theorem zj(h:HF)(mode:Int)(permits:List Bool)(oE:Option Addr)(oD:Nat)(hpermits:SlC aAT h oE oD permits)(hsz0:permits.length<=2000000):j1 prog 98 [I mode,.slice oE permits.length oD] h (λv h'=>∃(rb0:Option Addr)(rc0:Nat),v=.tuple #[.slice rb0 ((bG mode permits).1).length rc0,.bool ((bG mode permits).2.1),I ((bG mode permits).2.2)]/\SlC qC h' rb0 rc0 ((bG mode permits).1)):=by
 refine sT func98 U ntmps98 U λX hM hX hF=>?_
 have hs0:bG mode permits=bG mode permits:=rfl
 refine qT 11 U (ai call190 (As _ mode _ _ _ hpermits) U (qO 7 U (ae hs0 U (λc1 hs1=>?_) (λc1 hs2=>?_))))
 .refine qT 7 U ?_
  have hs3:bG mode permits=([],false,(jw mode permits)):=hs1
  exact nretH [.slice none 0 0,.bool false,I (jw mode permits)] ⟨none,0,congrArg (λr:(List Int×Bool×Int)=>(.tuple #[.slice none r.1.length 0,.bool r.2.1,I r.2.2]:Value)) hs3.symm,(by rw[hs3];exact vE)⟩
 refine qT 4 U (ai call191 (px _ _ _ _ eK (.func (.func 192) #[] #[]) hpermits (λh' dF hle=>iJ call192 (wE h' dF))) U (qO 5 U (ai call191 (px _ _ _ _ fM (.func (.func 193) #[] #[]) hpermits (λh' dF hle=>iJ call193 (wD h' dF))) U (qO 9 U (bj 3 [23,24,25,26] 23 26 (decide (0<=(cQ permits eK))) U (λc2 hk1=>?_) (λe=>?_))))))
 .exact av (qO 2 U (hk1 _ U))
 refine an (ae hs2 U (λc3 hs4=>?_) (λc3 hs5=>?_))
 .refine qT 3 U (aC (bK (cells:=[I (cQ permits eK)]) dY ty3 zc3 U U kr (λb1=>qO 4 U (eR 0 U hM (λh1 hle1 hb1=>?_)))))
  have sl1:SlC qC h1 (some ⟨b1,0,none⟩) 1 ([(cQ permits eK)]):=bI.slB0 (T:=3) (fz:=(0,0)) ((show bI qC h [I (cQ permits eK)] ([(cQ permits eK)])from⟨[I (cQ permits eK)],[],rfl,rfl,rfl,rfl⟩).mono vG hle1) hb1
  have hs6:bG mode permits=([(cQ permits eK)],true,0):=hs4
  exact nretH [.slice (some ⟨b1,0,none⟩) 1 1,.bool true,I 0] ⟨(some ⟨b1,0,none⟩),1,congrArg (λr:(List Int×Bool×Int)=>(.tuple #[.slice (some ⟨b1,0,none⟩) r.1.length 1,.bool r.2.1,I r.2.2]:Value)) hs6.symm,(by rw[hs6];exact sl1)⟩
 refine qT 5 U (bj 3 [32,33,34,35] 32 35 (decide (0<=(cQ permits fM))) U (λc4 hk2=>?_) (λe=>?_))
 .exact av (qO 2 U (hk2 _ U))
 refine an (ae hs5 U (λc5 hs7=>?_) (λc5 hs8=>?_))
 .refine qT 3 U (aC (bK (cells:=[I (cQ permits fM)]) dY ty3 zc3 U U kr (λb2=>qO 4 U (eR 0 U hM (λh2 hle2 hb2=>?_)))))
  have sl2:SlC qC h2 (some ⟨b2,0,none⟩) 1 ([(cQ permits fM)]):=bI.slB0 (T:=3) (fz:=(0,0)) ((show bI qC h [I (cQ permits fM)] ([(cQ permits fM)])from⟨[I (cQ permits fM)],[],rfl,rfl,rfl,rfl⟩).mono vG hle2) hb2
  have hs9:bG mode permits=([(cQ permits fM)],false,0):=hs7
  exact nretH [.slice (some ⟨b2,0,none⟩) 1 1,.bool false,I 0] ⟨(some ⟨b2,0,none⟩),1,congrArg (λr:(List Int×Bool×Int)=>(.tuple #[.slice (some ⟨b2,0,none⟩) r.1.length 1,.bool r.2.1,I r.2.2]:Value)) hs9.symm,(by rw[hs9];exact sl2)⟩
 refine qT 6 U (ae hs8 U (λc6 hs10=>?_) (λc6 hs11=>?_))
 .refine qK 13 [] U ?_
  refine lp2 permits (λi w=>[(4,.slice w.2.1 w.1.length w.2.2.1),(5,.bool (decide (0<=(cQ permits eK)))),(55,I (permits.length:Int)),(56,I (i:Int))]) (λ_=>h) (λw=>w.2.2.2) (λi w=>dG qC 3 h w.1 w.2.1 w.2.2.1 w.2.2.2/\w.1.length<=0+i) (λs1 i w=>(bG.L1 (bG.K1 permits)) s1 i w.1) ([],none,0,[]) hpermits.1.1 hs10 ⟨dG.nil,lo⟩ ?_ ?_
  .rintro i1 ⟨Gk,L8,L7,Qe⟩ fp hs12 ⟨JJ,OL⟩ e
   try dsimp only at JJ OL
   refine qT 8 U (fF vG ([]) Qe ([]) ap hM JJ (λh4 hle4 sl4=>?_))
   have hs13:bG mode permits=(Gk,decide (0<=(cQ permits eK)),0):=hs12
   exact nretH [.slice L8 Gk.length L7,.bool (decide (0<=(cQ permits eK))),I 0] ⟨L8,L7,congrArg (λr:(List Int×Bool×Int)=>(.tuple #[.slice L8 r.1.length L7,.bool r.2.1,I r.2.2]:Value)) hs13.symm,(by rw[hs13];exact sl4)⟩
  rintro i1 ⟨Gk,L8,L7,Qe⟩ y1 rz1 hd1 dj aY er gr hs14 ⟨JJ,OL⟩ hx1 ag1 e
  try dsimp only at JJ OL
  exact sr (tO dj U (qO 14 U (aC (bK (cells:=[I (i1:Int)]) dY ty3 zc3 U U kr (λb4=>aC (dK aBI ([(b4,O [I (i1:Int)] 3)]) ([]) (λG=>[(b4,O [I (i1:Int)] 3)]++G) ap (λ_=>ap) dY ty3 zc3 U bytes3 JJ U U (fd 0 U (cE (i1:Int) U U)) lo lo (λob2 oc2 G2 gr2=>qO 4 U (oi i1 U (qO 2 U (bz (L':=G2) js (ag1 ((Gk++[(i1:Int)]),ob2,oc2,G2) hs14 ⟨gr2,lo⟩)))))))))))
 refine qT 6 U (ae hs11 U (λc7 hs15=>?_) (λc7 hs16=>?_))
 .refine qK 5 [] U (bj 4 [49,50,51,52,53] 49 53 (nthI permits 0) U (λc8 hk3=>?_) (λe=>?_))
  .refine av ?_
   have ho1:0<=(0:Int)/\(0:Int)<((permits).length:Int):=ob
   exact aC (na (enc:=λy=>[.bool y]) ei rW ty4 hpermits.1 ho1 (cN ho1) U U U (λq1 A1=>dh ty4 A1 U (eN U (hk3 _ U))))
  refine qL 10 [] U ?_
  refine lp2 permits (λi w=>[(4,.slice w.2.1 w.1.length w.2.2.1),(5,.bool (((permits.length:Int)==1)&&(nthI permits 0))),(55,I (permits.length:Int)),(56,I (i:Int))]) (λ_=>h) (λw=>w.2.2.2) (λi w=>dG qC 3 h w.1 w.2.1 w.2.2.1 w.2.2.2/\w.1.length<=0+i) (λs2 i w=>(bG.L2 (bG.K2 permits)) s2 i w.1) ([],none,0,[]) hpermits.1.1 hs15 ⟨dG.nil,lo⟩ ?_ ?_
  .rintro i2 ⟨Gj,LY,LX,Qc⟩ xn hs17 ⟨JD,OF⟩ e
   try dsimp only at JD OF
   refine qT 8 U (fF vG ([]) Qc ([]) ap hM JD (λh6 hle6 sl6=>?_))
   have hs18:bG mode permits=(Gj,(((permits.length:Int)==1)&&(nthI permits 0)),0):=hs17
   exact nretH [.slice LY Gj.length LX,.bool (((permits.length:Int)==1)&&(nthI permits 0)),I 0] ⟨LY,LX,congrArg (λr:(List Int×Bool×Int)=>(.tuple #[.slice LY r.1.length LX,.bool r.2.1,I r.2.2]:Value)) hs18.symm,(by rw[hs18];exact sl6)⟩
  rintro i2 ⟨Gj,LY,LX,Qc⟩ y2 rz2 hd2 xm sH E2 KH hs19 ⟨JD,OF⟩ hx2 ag2 e
  try dsimp only at JD OF
  exact sr (tO xm U (qO 14 U (aC (bK (cells:=[I (i2:Int)]) dY ty3 zc3 U U kr (λb6=>aC (dK aBI ([(b6,O [I (i2:Int)] 3)]) ([]) (λG=>[(b6,O [I (i2:Int)] 3)]++G) ap (λ_=>ap) dY ty3 zc3 U bytes3 JD U U (fd 0 U (cE (i2:Int) U U)) lo lo (λob4 oc4 G4 gr4=>qO 4 U (oi i2 U (qO 2 U (bz (L':=G4) js (ag2 ((Gj++[(i2:Int)]),ob4,oc4,G4) hs19 ⟨gr4,lo⟩)))))))))))
 refine qK 9 [] U ?_
 refine lp2 permits (λi w=>[(4,.slice w.2.1 w.1.length w.2.2.1),(5,.bool false),(55,I (permits.length:Int)),(56,I (i:Int))]) (λ_=>h) (λw=>w.2.2.2) (λi w=>dG qC 3 h w.1 w.2.1 w.2.2.1 w.2.2.2/\w.1.length<=0+i) (λs3 i w=>(bG.L3 (bG.K3)) s3 i w.1) ([],none,0,[]) hpermits.1.1 hs16 ⟨dG.nil,lo⟩ ?_ ?_
 .rintro i3 ⟨Gi,LV,LU,Qb⟩ E3 hs20 ⟨JA,OE⟩ e
  try dsimp only at JA OE
  refine qT 8 U (fF vG ([]) Qb ([]) ap hM JA (λh8 hle8 sl8=>?_))
  have hs21:bG mode permits=(Gi,false,0):=hs20
  exact nretH [.slice LV Gi.length LU,.bool false,I 0] ⟨LV,LU,congrArg (λr:(List Int×Bool×Int)=>(.tuple #[.slice LV r.1.length LU,.bool r.2.1,I r.2.2]:Value)) hs21.symm,(by rw[hs21];exact sl8)⟩
 rintro i3 ⟨Gi,LV,LU,Qb⟩ y3 rz3 hd3 Cl C6 C5 PJ hs22 ⟨JA,OE⟩ hx3 ag3 e
 try dsimp only at JA OE
 exact sr (tO Cl U (qO 14 U (aC (bK (cells:=[I (i3:Int)]) dY ty3 zc3 U U kr (λb8=>aC (dK aBI ([(b8,O [I (i3:Int)] 3)]) ([]) (λG=>[(b8,O [I (i3:Int)] 3)]++G) ap (λ_=>ap) dY ty3 zc3 U bytes3 JA U U (fd 0 U (cE (i3:Int) U U)) lo lo (λob6 oc6 G6 gr6=>qO 4 U (oi i3 U (qO 2 U (bz (L':=G6) js (ag3 ((Gi++[(i3:Int)]),ob6,oc6,G6) hs22 ⟨gr6,lo⟩)))))))))))
theorem rV(h:HF)(mode:Int)(permits:List Bool)(oE:Option Addr)(oD:Nat)(hpermits:SlC aAT h oE oD permits)(hsz0:permits.length<=2000000):Ret prog 26 [I mode,.slice oE permits.length oD] h (.tuple #[.bool ((gC mode permits).1),I ((gC mode permits).2)]):=by
 refine sT func26 U ntmps26 U λX hM hX hF=>?_
 have hs0:gC mode permits=gC mode permits:=rfl
 refine qT 9 U (aC (cS call98 (zj _ mode _ _ _ hpermits ob) U (λv1 h1 hle1 hp1=>?_)))
 obtain⟨rb1,rc1,rfl,sl1⟩:=hp1
 refine qO 14 U ?_
 have hs1:gC mode permits=((bG mode permits).2.1,(bG mode permits).2.2):=hs0
 exact nretP [.bool ((bG mode permits).2.1),I ((bG mode permits).2.2)] (congrArg (λr:(Bool×Int)=>(.tuple #[.bool r.1,I r.2]:Value)) hs1.symm)
theorem DF(h:HF)(u:List Use)(qU:Option Addr)(qI:Nat)(hu:SlC aCo h qU qI u):Ret prog 99 [.slice qU u.length qI] h (.bool (gl u)):=by
 refine sT func99 U ntmps99 U λX hM hX hF=>?_
 have hs0:gl u=gl u:=rfl
 refine qT 6 U (aC (nC (λb1=>qL 9 [] U ?_)))
 refine lp2 u (λi w=>[(3,.map (some b1)),(7,.slice qU u.length qI),(8,I (u.length:Int)),(9,I (i:Int))]) (λ_=>h) (λw=>[(b1,w.2)]) (λi w=>ja (xC .i64) nz h w.2 w.1/\w.1.length<=0+i) (λs1 i w=>(gl.L1 (gl.K1)) s1 w.1) ([],.map #[] 0) hu.1.1 hs0 ⟨(ja.nil (enc:=(xC .i64)) (V:=nz) (h:=h)),lc⟩ ?_ ?_
 .rintro i1 ⟨bC,ie⟩ fp hs1 ⟨fI,nv⟩ e
  exact sr (an (nretP [.bool true] (cs hs1)))
 rintro i1 ⟨bC,ie⟩ y1 rz1 hd1 dj aY er gr hs3 ⟨fI,nv⟩ hx1 ag1 e
 refine sr (tO dj U (qO 8 U (aC (iF aAx ur ty111 hu.1 aY U U U (λq2 A2=>dz ty111 A2 U U (ba zc111 (λb4=>aQ 0 ty111 U U U U U U (qL 7 [0] U (aC (oN 1 (k:=y1.Doc) Gz (fC m6) U fI (e8 zv4) (show nz _ (.bool false) false from U) U U (λv2 hv2=>?_)))))))))))
 obtain rfl:=hv2
 refine av (bV 6 [17,18,19,20,21,22,23] 17 23 (!(aR 0 4095 ([y1.Doc]))) U (λc1 hk1=>?_) (λe=>?_))
 .refine qL 2 [0] U (aC (bK (cells:=[I y1.Doc]) dY ty3 zc3 U U kr (λb5=>aX 0 U hM (λh2 hle2 hb2=>?_))))
  have sl2:SlC qC h2 (some ⟨b5,0,none⟩) 1 ([y1.Doc]):=bI.slB0 (T:=3) (fz:=(0,0)) ((show bI qC h [I y1.Doc] ([y1.Doc])from⟨[I y1.Doc],[],rfl,rfl,rfl,rfl⟩).mono vG hle2) hb2
  exact ai wh (dT _ 0 4095 _ _ _ sl2) U (qO 2 U (kh (h:=h) hle2 hX lf (hk1 _ U)))
 refine av (bV 6 [24,25,26,27,28,29,30] 24 30 (!(aR 0 15 ([y1.Kind]))) U (λc2 hk2=>?_) (λe=>?_))
 .refine qL 2 [0] U (aC (bK (cells:=[I y1.Kind]) dY ty3 zc3 U U kr (λb6=>aX 0 U hM (λh3 hle3 hb3=>?_))))
  have sl3:SlC qC h3 (some ⟨b6,0,none⟩) 1 ([y1.Kind]):=bI.slB0 (T:=3) (fz:=(0,0)) ((show bI qC h [I y1.Kind] ([y1.Kind])from⟨[I y1.Kind],[],rfl,rfl,rfl,rfl⟩).mono vG hle3) hb3
  exact ai wh (dT _ 0 15 _ _ _ sl3) U (qO 2 U (kh (h:=h) hle3 hX lf (hk2 _ U)))
 refine av (bV 6 [31,32,33,34,35,36,37] 31 37 (!(aR 0 1099511627776 ([y1.Value]))) U (λc3 hk3=>?_) (λe=>?_))
 .refine qL 2 [0] U (aC (bK (cells:=[I y1.Value]) dY ty3 zc3 U U kr (λb7=>aX 0 U hM (λh4 hle4 hb4=>?_))))
  have sl4:SlC qC h4 (some ⟨b7,0,none⟩) 1 ([y1.Value]):=bI.slB0 (T:=3) (fz:=(0,0)) ((show bI qC h [I y1.Value] ([y1.Value])from⟨[I y1.Value],[],rfl,rfl,rfl,rfl⟩).mono vG hle4) hb4
  exact ai wh (dT _ 0 1099511627776 _ _ _ sl4) U (qO 2 U (kh (h:=h) hle4 hX lf (hk3 _ U)))
 refine av (bV 8 [38,39,40,41,42,43,44,45,46] 38 46 (!(aR 0 1099511627775 ([y1.At,y1.Known]))) U (λc4 hk4=>?_) (λe=>?_))
 .refine qL 4 [0,0] U (aC (bK (cells:=[I y1.At,I y1.Known]) dY ty3 zc3 U U kr (λb8=>aX 0 U hM (λh5 hle5 hb5=>?_))))
  have sl5:SlC qC h5 (some ⟨b8,0,none⟩) 2 ([y1.At,y1.Known]):=bI.slB0 (T:=3) (fz:=(0,0)) ((show bI qC h [I y1.At,I y1.Known] ([y1.At,y1.Known])from⟨[I y1.At],[I y1.Known],rfl,rfl,rfl,⟨[I y1.Known],[],rfl,rfl,rfl,rfl⟩⟩).mono vG hle5) hb5
  exact ai wh (dT _ 0 1099511627775 _ _ _ sl5) U (qO 2 U (kh (h:=h) hle5 hX lf (hk4 _ U)))
 refine aJ (ae hs3 U (λc5 hs4=>?_) (λc5 hs5=>?_))
 .exact sr (an (nretP [.bool false] (cs hs4)))
 exact qK 5 [0] U (aC (kb 1 (k:=y1.Doc) (x:=true) Gz (fC m6) U fI U U U (λmo1 hm1=>qO 3 U (oi i1 U (qO 2 U (bz (L':=[(b1,mo1)]) js (ag1 ((mput bC y1.Doc true),mo1) hs5 ⟨hm1,(by have:=mI bC y1.Doc true;first|omega|(simp only[jB,zA]at *;omega))⟩)))))))
theorem yM(h:HF)(l:List Budget)(eP:Option Addr)(eO:Nat)(kind:Int)(bp:Int)(known:Int)(hl:SlC aAk h eP eO l)(hsz0:l.length<=2000000):j1 prog 101 [.slice eP l.length eO,I kind,I bp,I known] h (λv h'=>∃(rb0:Option Addr)(rc0:Nat),v=.slice rb0 (bU l kind bp known).length rc0/\SlC aAk h' rb0 rc0 (bU l kind bp known)):=by
 refine sT func101 U ntmps101 U λX hM hX hF=>?_
 have hs0:bU l kind bp known=bU l kind bp known:=rfl
 refine qT 6 U (aC (nC (λb1=>qL 9 [] U ?_)))
 refine lp2 l (λi w=>[(0,.slice eP l.length eO),(1,I kind),(2,I bp),(3,I known),(8,.slice none 0 0),(9,.map (some b1)),(18,.slice eP l.length eO),(19,I (l.length:Int)),(20,I (i:Int))]) (λ_=>h) (λw=>[(b1,w.2)]) (λi w=>ja gN.enc (iT aAk) h w.2 w.1/\w.1.length<=0+i) (λs1 i w=>(bU.L1 kind bp known (bU.K1 l)) s1 w.1) ([],.map #[] 0) hl.1.1 hs0 ⟨(ja.nil (enc:=gN.enc) (V:=(iT aAk)) (h:=h)),lc⟩ ?_ ?_
 .rintro i1 ⟨bC,ie⟩ fp hs1 ⟨fI,nv⟩ e
  try dsimp only at fI nv
  refine qK 7 [] U ?_
  refine lp2 l (λi w=>[(8,.slice w.2.1 w.1.length w.2.2.1),(9,.map (some b1)),(69,.slice eP l.length eO),(70,I (l.length:Int)),(71,I (i:Int))]) (λ_=>h) (λw=>[(b1,ie)]++(w.2.2.2)) (λi w=>dG aAk 101 h w.1 w.2.1 w.2.2.1 w.2.2.2/\w.1.length<=0+i) (λs2 i w=>(bU.L2 bC (bU.K2)) s2 w.1) ([],none,0,[]) hl.1.1 hs1 ⟨dG.nil,lo⟩ ?_ ?_
  .rintro i2 ⟨kZ,oH,oG,nS⟩ xn hs2 ⟨pd,Ff⟩ e
   try dsimp only at pd Ff
   refine qT 5 U (fF aBu ([(b1,ie)]) nS ([]) ap hM pd (λh1 hle1 sl1=>?_))
   have hs3:bU l kind bp known=kZ:=hs2
   exact nretH [.slice oH kZ.length oG] ⟨oH,oG,congrArg (λr:List Budget=>(.slice oH r.length oG:Value)) hs3.symm,(by rw[hs3];exact sl1)⟩
  rintro i2 ⟨kZ,oH,oG,nS⟩ y2 rz2 hd2 xm sH E2 KH hs4 ⟨pd,Ff⟩ hx2 ag1 e
  try dsimp only at pd Ff
  refine sr (tO xm U (qO 8 U (aC (iF zK uo ty101 hl.1 sH U U U (λq3 A3=>dz ty101 A3 U U (ba zc101 (λb4=>aQ 0 ty101 U U U U U U (il (L':=[(b4,O (zK y2) 101),(b1,ie)]++(nS)) U (qO 2 U ?_)))))))))
  refine oo [(8,.slice oH kZ.length oG),(9,.map (some b1)),(16,Q b4),(69,.slice eP l.length eO),(70,I (l.length:Int)),(71,I (i2:Int)),(88,.bool ((!y2.Gone)&&(decide ((mgetD bC (gN.mk y2.Kind y2.Period) (aAW 0 0 0 0 0 0 0 false))=y2))))] (λe=>?_) (λhk1=>?_)
  rotate_left
  .let z2:Nat×Obj:=(b4,O (zK y2) 101)
   refine eM ([z2,(b1,ie)]) mixed kr jn (λem _=>?_)
   refine qB [0] U (tf 1 U U (rj 0 ty4 U U U) (qA [2,3] U ?_))
   refine du 78 U (λc1=>?_) (λc1=>?_)
   .refine qB [4,5] U (tf 6 U U (rj 0 ty3 U U U) (qB [7] U (tf 8 U U (rj 0 ty3 U U U) (tf 11 U U (λ_ _ hj=>jO ty101 U (hj.nth (i:=0) U) U) (tn 9 U (fN (cells:=[I y2.Kind,I y2.Period]) (places:=[(0,1),(1,1)]) Ll zc267 kr kr (⟨jn,tn 10 U (oN 1 (k:=(gN.mk y2.Kind y2.Period)) underlying265 xa U fI (e8 zv101) (show(iT aAk) _ (.agg (vB [I 0,I 0,I 0,I 0,I 0,I 0,I 0,.bool false])) (aAW 0 0 0 0 0 0 0 false)from⟨_,U,U⟩) U U (λv2 hv2=>?_))⟩)))))))
    obtain⟨_,rfl,rfl⟩:=hv2
    exact⟨jn,(tf 12 U U (λ_ _ _=>Ly (KU (mgetD bC (gN.mk y2.Kind y2.Period) (aAW 0 0 0 0 0 0 0 false)) y2) eqg101 U U) (qA [13] U (aV kr (hk1 _ ⟨U,U,U,U,U,U,(cb (show(decide ((mgetD bC (gN.mk y2.Kind y2.Period) (aAW 0 0 0 0 0 0 0 false))=y2))=((!y2.Gone)&&(decide ((mgetD bC (gN.mk y2.Kind y2.Period) (aAW 0 0 0 0 0 0 0 false))=y2)))from by rw[c1]<;>rfl)),trivial⟩))))⟩
   exact tk 4 U U (qR 5 9 U (aV kr (hk1 _ ⟨U,U,U,U,U,U,(cb (show false=((!y2.Gone)&&(decide ((mgetD bC (gN.mk y2.Kind y2.Period) (aAW 0 0 0 0 0 0 0 false))=y2)))from by rw[c1]<;>rfl)),trivial⟩)))
  refine ae hs4 U (λc2 hs5=>?_) (λc2 hs6=>?_)
  .refine qT 2 U (cK 0 ty101 U U U (aC (bK (cells:=[I y2.No,I y2.At,I y2.Known,I y2.Kind,I y2.Period,I y2.Count,I y2.Value,.bool y2.Gone]) uo ty101 zc101 U U kr (λb5=>?_))))
   let z1:Nat×Obj:=(b5,O [I y2.No,I y2.At,I y2.Known,I y2.Kind,I y2.Period,I y2.Count,I y2.Value,.bool y2.Gone] 101)
   exact aC (dK Budget.eQ ([z1,(b4,O (zK y2) 101),(b1,ie)]) ([]) (λG=>[z1,(b4,O (zK y2) 101),(b1,ie)]++G) ap (λ_=>ap) uo ty101 zc101 U bytes101 pd U U (fd 0 U (cE y2 U U)) lo lo (λob1 oc1 G1 gr1=>qO 4 U (oi i2 U (qO 2 U (bz (L':=[(b1,ie)]++G1) js (ag1 ((kZ++[y2]),ob1,oc1,G1) hs5 ⟨gr1,lo⟩))))))
  exact aN (qT 2 U (oi i2 U (qO 2 U (bz (L':=[(b1,ie)]++(nS)) js (ag1 (kZ,oH,oG,nS) hs6 ⟨pd,lo⟩)))))
 rintro i1 ⟨bC,ie⟩ y1 rz1 hd1 dj aY er gr hs7 ⟨fI,nv⟩ hx1 ag2 e
 try dsimp only at fI nv
 refine sr (tO dj U (qO 8 U (aC (iF zK uo ty101 hl.1 aY U U U (λq4 A4=>dz ty101 A4 U U (ba zc101 (λb6=>aQ 0 ty101 U U U U U U (qL 9 [0] U (bV 5 [28,29,30,31,32,33] 28 33 (decide (known<y1.Known)) U (λc3 hk2=>?_) (λe=>?_))))))))))
 .exact qL 5 [0] U (hk2 _ U)
 refine av (bV 10 [34,35,36,37,38,39,40,41,42,43,44] 34 44 ((y1.Kind != (-1))&&(y1.Kind != kind)) U (λc4 hk3=>?_) (λe=>?_))
 .refine qL 4 [0] U (bj 5 [38,39,40,41,42,43] 38 43 (y1.Kind != kind) U (λc5 hk4=>?_) (λe=>?_))
  .exact qL 5 [0] U (hk4 _ U)
  exact eN U (hk3 _ U)
 refine aJ (ae hs7 U (λc6 hs8=>?_) (λc6 hs9=>?_))
 .exact lI U (bE (oi i1 U (qO 2 U (bz (L':=[(b1,ie)]) js (ag2 (bC,ie) hs8 ⟨fI,lc⟩)))))
 refine qK 7 [0,0] U (aC (fN (cells:=[I y1.Kind,I y1.Period]) (places:=[(0,1),(1,1)]) Ll zc267 kr kr (ba zc267 (λb7=>aQ 0 ty267 U U U U U U (qO 4 U (cK 0 ty267 U U U (aC (lv 2 (k:=(gN.mk y1.Kind y1.Period)) underlying265 xa U fI (e8 zv101) (show(iT aAk) _ (.agg (vB [I 0,I 0,I 0,I 0,I 0,I 0,I 0,.bool false])) (aAW 0 0 0 0 0 0 0 false)from⟨_,U,U⟩) U U (λv3 hv3=>?_)))))))))
 obtain⟨_,rfl,rfl⟩:=hv3
 refine qO 3 U (ba zc101 (λb8=>aQ 0 ty101 U U U U U U (qO 7 U (bV 6 [58,59,60,61,62,63,64] 58 64 (decide ((mgetD bC (gN.mk y1.Kind y1.Period) (aAW 0 0 0 0 0 0 0 false)).At<=y1.At)) U (λc7 hk5=>?_) (λe=>?_)))))
 .exact qL 6 [0,2] U (hk5 _ U)
 refine aJ (ae hs9 U (λc8 hs10=>?_) (λc8 hs11=>?_))
 .exact bE (av (cK 1 ty267 U U U (cK 2 ty101 U U U (aC (kb 3 (k:=(gN.mk y1.Kind y1.Period)) (x:=y1) underlying265 xa U fI U U ⟨_,U,U⟩ (λmo1 hm1=>qO 3 U (oi i1 U (qO 2 U (bz (L':=[(b1,mo1)]) js (ag2 ((mput bC (gN.mk y1.Kind y1.Period) y1),mo1) hs10 ⟨hm1,(by have:=mI bC (gN.mk y1.Kind y1.Period) y1;first|omega|(simp only[jB,zA]at *;omega))⟩))))))))))
 exact aN (qT 2 U (oi i1 U (qO 2 U (bz (L':=[(b1,ie)]) js (ag2 (bC,ie) hs11 ⟨fI,lc⟩)))))
theorem BD(h:HF)(u:List Use)(qU:Option Addr)(qI:Nat)(u_q:Addr)(known:Int)(known_q:Addr)(bg:Budget)(bg_q:Addr)(at_:Int)(at__q:Addr)(hu:SlC aCo h qU qI u)(au:At h u_q [.slice qU u.length qI])(aknown:At h known_q [I known])(abg:At h bg_q (zK bg))(aat_:At h at__q [I at_])(hbp:bg.Period≠0):Itr prog (.func (.func 195) #[] (vB [.pointer (some u_q),.pointer (some known_q),.pointer (some bg_q),.pointer (some at__q)])) ym (ct u known bg at_) h:=by
 refine sE call195 ?_
 intro yf ya yb C Sp Pn h1 A hle m1 m2 m3 hC hy
 refine jg Au U ntmps195 U λX hXM hX=>?_
 have hs0:ct u known bg at_=[]++ct u known bg at_:=rfl
 refine sr (dh ty32 (au.mono hle) U (qL 3 [] U ?_))
 refine lp2 u (λi w=>[(0,.func yf ya yb),(2,.pointer (some known_q)),(3,.pointer (some bg_q)),(4,.pointer (some at__q)),(8,.slice qU u.length qI),(9,I (u.length:Int)),(10,I (i:Int))]) (λw=>w.2.2) (λw=>w.2.1) (λi w=>C w.1 w.2.2 w.2.1/\jM h1 w.2.2) (λs1 i w=>w.1++(ct.L1 known bg at_ (ct.K1)) s1) ([],A,h1) ((hu.mono Use.aj hle).1.1) hs0 ⟨hC,lf⟩ ?_ ?_
 .rintro i1 ⟨dn1,A1_,hh1⟩ fp hs1 ⟨hC1_,hl1⟩ e
  refine et ?_
  have hs2:ct u known bg at_=dn1:=hs1.trans (List.append_nil _)
  exact sF [] (A:=A1_) Au U (List.Sublist.refl _) (.inl (hs2▸hC1_))
 rintro i1 ⟨dn1,A1_,hh1⟩ y1 rz1 hd1 dj aY er gr hs3 ⟨hC1_,hl1⟩ hx1 ag1 e
 refine sr (tO dj U (qO 8 U (aC (iF aAx ur ty111 (hu.mono Use.aj (hle.t hl1)).1 aY U U U (λq2 A2=>dz ty111 A2 U U (ba zc111 (λb2=>aQ 0 ty111 U U U U U U (il (L':=[(b2,O (aAx y1) 111)]++(A1_)) U (qO 2 U ?_)))))))))
 let z1:Nat×Obj:=(b2,O (aAx y1) 111)
 refine eM ([z1]) mixed kr jn (λem _=>?_)
 refine qB [0] U (tf 1 U U (rj 0 ty3 U U U) (tf 2 U U (rh ty3 (aknown.mono (hle.t hl1)) U) (qA [3,4] U ?_)))
 refine du 18 U (λc1=>?_) (λc1=>?_)
 .have c1p:=of_decide_eq_true c1
  refine qB [5] U (tf 6 U U (rH 3 ty3 (abg.mono (hle.t hl1)) U U) (qA [7,8] U ?_))
  refine du 22 U (λc2=>?_) (λc2=>?_)
  .refine qD 9 9 U (tf 18 U U (rj 0 ty3 U U U) (qB [19] U (tf 20 U U (rH 4 ty3 (abg.mono (hle.t hl1)) U U) (tf 21 U U (λ_ _ _=>CO U U ob) (tf 22 U U (rh ty3 (aat_.mono (hle.t hl1)) U) (qB [23] U (tf 24 U U (rH 4 ty3 (abg.mono (hle.t hl1)) U U) (tf 25 U U (λ_ _ _=>CO U U ob) (qA [26] U (tf 27 U U (λ_ _ _=>nI U (cb (show((vC .i64 (y1.At.tdiv bg.Period))==(vC .i64 (at_.tdiv bg.Period)))=((decide (y1.Known<=known)&&((bg.Kind==(-1))||(bg.Kind==y1.Kind)))&&((vC .i64 (y1.At.tdiv bg.Period))==(vC .i64 (at_.tdiv bg.Period))))from by first|(rw[c1];rw[c2];rfl)|(rw[c2];rfl)|simp[c1,c2]))) (tm 28 U ?_)))))))))))
   refine du 42 U (λc3=>?_) (λc3=>?_)
   .have ct1:=c3
    have hs4:=hs3.trans (congrArg (dn1++·) (bt ct1))
    refine qB [29,30] U (tf 31 U U (rj 0 ty3 U U U) ?_)
    have hx1:ct u known bg at_=dn1++(y1.Value::(ct.L1 known bg at_ (ct.K1) rz1)):=hs4
    refine tn 32 U (kp ([z1]) A1_ ap (hy dn1 y1.Value _ _ _ _ hx1 hl1 hC1_ U) U U (λh2 A3 hle1 hC1=>?_) (λh3 A4 hle2 hS1=>?_) (λch1 h4 A5 hle3 hP1 e=>gH (mP [] (A:=A5) Au (List.sublist_append_right _ _) hP1)))
    .have hs5:ct u known bg at_=(dn1++[y1.Value])++((ct.L1 known bg at_ (ct.K1) rz1)):=hx1.trans ap
     exact⟨⟨hle1,λ_ hp=>List.Sublist.subset js hp⟩,nQ (K2:=[z1]) hle1 (λ_ hp=>hp) (qA [33,34] U (aV kr (qT 4 U (oi i1 U (qO 2 U (bz (L':=A3) js (ag1 ((dn1++[y1.Value]),A3,h2) hs5 ⟨hC1,(hl1.t hle1)⟩)))))))⟩
    exact⟨⟨hle2,λ_ hp=>List.Sublist.subset js hp⟩,nQ (K2:=[z1]) hle2 (λ_ hp=>hp) (qA [33,34] U (aV kr (lu U (et (mF [] (A:=A4) Au U js (.inr hS1))))))⟩
   have ct2:=c3
   have hs6:=hs3.trans (congrArg (dn1++·) (bf ct2))
   exact tk 29 U U (qR 30 5 U (aV kr (qT 4 U (oi i1 U (qO 2 U (bz (L':=A1_) js (ag1 (dn1,A1_,hh1) hs6 ⟨hC1_,hl1⟩)))))))
  refine qB [9] U (tf 10 U U (rH 3 ty3 (abg.mono (hle.t hl1)) U U) (qB [11] U (tf 12 U U (rj 0 ty3 U U U) (qR 13 4 U ?_))))
  refine du 30 U (λc4=>?_) (λc4=>?_)
  .refine qB [17] U (tf 18 U U (rj 0 ty3 U U U) (qB [19] U (tf 20 U U (rH 4 ty3 (abg.mono (hle.t hl1)) U U) (tf 21 U U (λ_ _ _=>CO U U ob) (tf 22 U U (rh ty3 (aat_.mono (hle.t hl1)) U) (qB [23] U (tf 24 U U (rH 4 ty3 (abg.mono (hle.t hl1)) U U) (tf 25 U U (λ_ _ _=>CO U U ob) (qA [26] U (tf 27 U U (λ_ _ _=>nI U (cb (show((vC .i64 (y1.At.tdiv bg.Period))==(vC .i64 (at_.tdiv bg.Period)))=((decide (y1.Known<=known)&&((bg.Kind==(-1))||(bg.Kind==y1.Kind)))&&((vC .i64 (y1.At.tdiv bg.Period))==(vC .i64 (at_.tdiv bg.Period))))from by first|(rw[c1];rw[c2];rw[c4];rfl)|(rw[c4];rfl)|simp[c1,c2,c4]))) (tm 28 U ?_)))))))))))
   refine du 42 U (λc5=>?_) (λc5=>?_)
   .have ct3:=c5
    have hs7:=hs3.trans (congrArg (dn1++·) (bt ct3))
    refine qB [29,30] U (tf 31 U U (rj 0 ty3 U U U) ?_)
    have hx2:ct u known bg at_=dn1++(y1.Value::(ct.L1 known bg at_ (ct.K1) rz1)):=hs7
    refine tn 32 U (kp ([z1]) A1_ ap (hy dn1 y1.Value _ _ _ _ hx2 hl1 hC1_ U) U U (λh5 A6 hle4 hC2=>?_) (λh6 A7 hle5 hS2=>?_) (λch2 h7 A8 hle6 hP2 e=>gH (mP [] (A:=A8) Au (List.sublist_append_right _ _) hP2)))
    .have hs8:ct u known bg at_=(dn1++[y1.Value])++((ct.L1 known bg at_ (ct.K1) rz1)):=hx2.trans ap
     exact⟨⟨hle4,λ_ hp=>List.Sublist.subset js hp⟩,nQ (K2:=[z1]) hle4 (λ_ hp=>hp) (qA [33,34] U (aV kr (qT 4 U (oi i1 U (qO 2 U (bz (L':=A6) js (ag1 ((dn1++[y1.Value]),A6,h5) hs8 ⟨hC2,(hl1.t hle4)⟩)))))))⟩
    exact⟨⟨hle5,λ_ hp=>List.Sublist.subset js hp⟩,nQ (K2:=[z1]) hle5 (λ_ hp=>hp) (qA [33,34] U (aV kr (lu U (et (mF [] (A:=A7) Au U js (.inr hS2))))))⟩
   have ct4:=c5
   have hs9:=hs3.trans (congrArg (dn1++·) (bf ct4))
   exact tk 29 U U (qR 30 5 U (aV kr (qT 4 U (oi i1 U (qO 2 U (bz (L':=A1_) js (ag1 (dn1,A1_,hh1) hs9 ⟨hC1_,hl1⟩)))))))
  refine qR 17 10 U (tf 27 U U (λ_ _ _=>nI U (cb (show false=((decide (y1.Known<=known)&&((bg.Kind==(-1))||(bg.Kind==y1.Kind)))&&((vC .i64 (y1.At.tdiv bg.Period))==(vC .i64 (at_.tdiv bg.Period))))from by first|(rw[c1];rw[c2];rw[c4];rfl)|(rw[c4];rfl)|simp[c1,c2,c4]))) (tm 28 U ?_))
  refine du 42 U (λc6=>?_) (λc6=>?_)
  .have ct5:=c6
   have hs10:=hs3.trans (congrArg (dn1++·) (bt ct5))
   refine qB [29,30] U (tf 31 U U (rj 0 ty3 U U U) ?_)
   have hx3:ct u known bg at_=dn1++(y1.Value::(ct.L1 known bg at_ (ct.K1) rz1)):=hs10
   refine tn 32 U (kp ([z1]) A1_ ap (hy dn1 y1.Value _ _ _ _ hx3 hl1 hC1_ U) U U (λh8 A9 hle7 hC3=>?_) (λh9 A10 hle8 hS3=>?_) (λch3 h10 A11 hle9 hP3 e=>gH (mP [] (A:=A11) Au (List.sublist_append_right _ _) hP3)))
   .have hs11:ct u known bg at_=(dn1++[y1.Value])++((ct.L1 known bg at_ (ct.K1) rz1)):=hx3.trans ap
    exact⟨⟨hle7,λ_ hp=>List.Sublist.subset js hp⟩,nQ (K2:=[z1]) hle7 (λ_ hp=>hp) (qA [33,34] U (aV kr (qT 4 U (oi i1 U (qO 2 U (bz (L':=A9) js (ag1 ((dn1++[y1.Value]),A9,h8) hs11 ⟨hC3,(hl1.t hle7)⟩)))))))⟩
   exact⟨⟨hle8,λ_ hp=>List.Sublist.subset js hp⟩,nQ (K2:=[z1]) hle8 (λ_ hp=>hp) (qA [33,34] U (aV kr (lu U (et (mF [] (A:=A10) Au U js (.inr hS3))))))⟩
  have ct6:=c6
  have hs12:=hs3.trans (congrArg (dn1++·) (bf ct6))
  exact tk 29 U U (qR 30 5 U (aV kr (qT 4 U (oi i1 U (qO 2 U (bz (L':=A1_) js (ag1 (dn1,A1_,hh1) hs12 ⟨hC1_,hl1⟩)))))))
 have c1p:=of_decide_eq_false c1
 refine qR 5 22 U (tf 27 U U (λ_ _ _=>nI U (cb (show false=((decide (y1.Known<=known)&&((bg.Kind==(-1))||(bg.Kind==y1.Kind)))&&((vC .i64 (y1.At.tdiv bg.Period))==(vC .i64 (at_.tdiv bg.Period))))from by first|(rw[c1];rfl)|(rw[c1];rfl)|simp[c1]))) (tm 28 U ?_))
 refine du 42 U (λc7=>?_) (λc7=>?_)
 .have ct7:=c7
  have hs13:=hs3.trans (congrArg (dn1++·) (bt ct7))
  refine qB [29,30] U (tf 31 U U (rj 0 ty3 U U U) ?_)
  have hx4:ct u known bg at_=dn1++(y1.Value::(ct.L1 known bg at_ (ct.K1) rz1)):=hs13
  refine tn 32 U (kp ([z1]) A1_ ap (hy dn1 y1.Value _ _ _ _ hx4 hl1 hC1_ U) U U (λh11 A12 hle10 hC4=>?_) (λh12 A13 hle11 hS4=>?_) (λch4 h13 A14 hle12 hP4 e=>gH (mP [] (A:=A14) Au (List.sublist_append_right _ _) hP4)))
  .have hs14:ct u known bg at_=(dn1++[y1.Value])++((ct.L1 known bg at_ (ct.K1) rz1)):=hx4.trans ap
   exact⟨⟨hle10,λ_ hp=>List.Sublist.subset js hp⟩,nQ (K2:=[z1]) hle10 (λ_ hp=>hp) (qA [33,34] U (aV kr (qT 4 U (oi i1 U (qO 2 U (bz (L':=A12) js (ag1 ((dn1++[y1.Value]),A12,h11) hs14 ⟨hC4,(hl1.t hle10)⟩)))))))⟩
  exact⟨⟨hle11,λ_ hp=>List.Sublist.subset js hp⟩,nQ (K2:=[z1]) hle11 (λ_ hp=>hp) (qA [33,34] U (aV kr (lu U (et (mF [] (A:=A13) Au U js (.inr hS4))))))⟩
 have ct8:=c7
 have hs15:=hs3.trans (congrArg (dn1++·) (bf ct8))
 exact tk 29 U U (qR 30 5 U (aV kr (qT 4 U (oi i1 U (qO 2 U (bz (L':=A1_) js (ag1 (dn1,A1_,hh1) hs15 ⟨hC1_,hl1⟩)))))))
theorem DG(h:HF)(Dj:Budget)(u:List Use)(qU:Option Addr)(qI:Nat)(bp:Int)(known:Int)(hu:SlC aCo h qU qI u)(hbp:Dj.Period≠0):j1 prog 102 [.agg (zK Dj).toArray,.slice qU u.length qI,I bp,I known] h (λv h'=>∃(rv0:Value),v=rv0/\Itr prog rv0 ym (nL Dj u bp known) h'):=by
 refine sT func102 U ntmps102 U λX hM hX hF=>?_
 have hs0:nL Dj u bp known=nL Dj u bp known:=rfl
 refine sr (cy (λb1=>cy (λb2=>cy (λb3=>cy (λb4=>qO 4 U (aX 2 U hM (λh1 hle1 hb1=>aX 0 U hM (λh2 hle2 hb2=>aX 1 U hM (λh3 hle3 hb3=>aX 0 U hM (λh4 hle4 hb4=>aC (eG U U (an ?_))))))))))))
 have hs1:nL Dj u bp known=(ct u known Dj bp):=hs0
 exact nretH [.func (.func 195) #[] #[Q b2,Q b4,Q b1,Q b3]] ⟨(.func (.func 195) #[] #[Q b2,Q b4,Q b1,Q b3]),congrArg (λr:List Int=>((.func (.func 195) #[] #[Q b2,Q b4,Q b1,Q b3]):Value)) hs1.symm,(by rw[hs1];exact(BD h4 u qU qI ⟨b2,0,none⟩ known ⟨b4,0,none⟩ Dj ⟨b1,0,none⟩ bp ⟨b3,0,none⟩ (hu.mono Use.aj (((hle1.t hle2).t hle3).t hle4)) ((cA hb1).mono ((hle2.t hle3).t hle4)) ((cA hb2).mono (hle3.t hle4)) ((cA hb3).mono hle4) (cA hb4) ob))⟩
theorem oh(h:HF)(l:List Budget)(eP:Option Addr)(eO:Nat)(u:List Use)(qU:Option Addr)(qI:Nat)(kind:Int)(value:Int)(aK:Int)(known:Int)(hl:SlC aAk h eP eO l)(hu:SlC aCo h qU qI u)(hsz:l.length<=2000000):Ret prog 27 [.slice eP l.length eO,.slice qU u.length qI,I kind,I value,I aK,I known] h (.tuple #[I ((bD l u kind value aK known).1),.bool ((bD l u kind value aK known).2.1),I ((bD l u kind value aK known).2.2)]):=by
 refine cJ DV U ntmps27 U λX hM hX=>?_
 have hs0:bD l u kind value aK known=bD l u kind value aK known:=rfl
 refine qT 10 U (ai call68 (uI _ _ _ _ hl) U (qO 7 U (ae hs0 U (λc1 hs1=>?_) (λc1 hs2=>?_))))
 .refine qT 7 U ?_
  have hs3:bD l u kind value aK known=(0,false,(cw l)):=hs1
  exact s8 [I 0,.bool false,I (cw l)] DV U hX rd (congrArg (λr:(Int×Bool×Int)=>(.tuple #[I r.1,.bool r.2.1,I r.2.2]:Value)) hs3.symm)
 refine qK 8 [] U (ae hs2 U (λc2 hs4=>?_) (λc2 hs5=>?_))
 .have c2p:=of_decide_eq_true c2
  refine qT 6 U ?_
  have hs6:bD l u kind value aK known=(0,false,2):=hs4
  exact s8 [I 0,.bool false,I 2] DV U hX rd (congrArg (λr:(Int×Bool×Int)=>(.tuple #[I r.1,.bool r.2.1,I r.2.2]:Value)) hs6.symm)
 have c2p:=of_decide_eq_false c2
 refine qT 5 U (ai call99 (DF _ _ _ _ hu) U (qO 2 U (ae hs5 U (λc3 hs7=>?_) (λc3 hs8=>?_))))
 .refine qT 6 U ?_
  have hs9:bD l u kind value aK known=(0,false,180):=hs7
  exact s8 [I 0,.bool false,I 180] DV U hX rd (congrArg (λr:(Int×Bool×Int)=>(.tuple #[I r.1,.bool r.2.1,I r.2.2]:Value)) hs9.symm)
 refine qT 5 U (aC (bK (cells:=[I kind]) dY ty3 zc3 U U kr (λb1=>aX 0 U hM (λh1 hle1 hb1=>?_))))
 have sl1:SlC qC h1 (some ⟨b1,0,none⟩) 1 ([kind]):=bI.slB0 (T:=3) (fz:=(0,0)) ((show bI qC h [I kind] ([kind])from⟨[I kind],[],rfl,rfl,rfl,rfl⟩).mono vG hle1) hb1
 refine ai wh (dT _ 0 15 _ _ _ sl1) U (qO 2 U (bV 5 [36,37,38,39,40,41] 36 41 (!(aR 0 1099511627776 ([value]))) U (λc4 hk1=>?_) (λe=>?_)))
 .refine av (aC (bK (cells:=[I value]) dY ty3 zc3 U U kr (λb2=>aX 0 U hM (λh2 hle2 hb2=>?_))))
  have sl2:SlC qC h2 (some ⟨b2,0,none⟩) 1 ([value]):=bI.slB0 (T:=3) (fz:=(0,0)) ((show bI qC h1 [I value] ([value])from⟨[I value],[],rfl,rfl,rfl,rfl⟩).mono vG hle2) hb2
  exact ai wh (dT _ 0 1099511627776 _ _ _ sl2) U (qO 2 U (kh (h:=h1) hle2 hX hle1 (hk1 _ U)))
 refine av (bV 6 [42,43,44,45,46,47,48] 42 48 (!(aR 0 1099511627775 ([aK,known]))) U (λc5 hk2=>?_) (λe=>?_))
 .refine qO 2 U (aC (bK (cells:=[I aK,I known]) dY ty3 zc3 U U kr (λb3=>aX 0 U hM (λh3 hle3 hb3=>?_))))
  have sl3:SlC qC h3 (some ⟨b3,0,none⟩) 2 ([aK,known]):=bI.slB0 (T:=3) (fz:=(0,0)) ((show bI qC h1 [I aK,I known] ([aK,known])from⟨[I aK],[I known],rfl,rfl,rfl,⟨[I known],[],rfl,rfl,rfl,rfl⟩⟩).mono vG hle3) hb3
  exact ai wh (dT _ 0 1099511627775 _ _ _ sl3) U (qO 2 U (kh (h:=h1) hle3 hX hle1 (hk2 _ U)))
 refine aJ (ae hs8 U (λc6 hs10=>?_) (λc6 hs11=>?_))
 .refine qT 6 U ?_
  have hs12:bD l u kind value aK known=(0,false,1):=hs10
  exact s8 [I 0,.bool false,I 1] DV U hX rd (congrArg (λr:(Int×Bool×Int)=>(.tuple #[I r.1,.bool r.2.1,I r.2.2]:Value)) hs12.symm)
 refine qT 8 U (aC (cS call101 (yM _ _ _ _ kind aK known (hl.mono aBu hle1) ob) U (λv1 h4 hle4 hp1=>?_)))
 obtain⟨rb1,rc1,rfl,sl4⟩:=hp1
 refine qL 3 [] U (et (cn (L':=markB []) ap ?_))
 refine rZ (ι:=Nat×List Nat×HF) (λi=>[]) (λi=>marks i.2.1) (λi=>i.2.2) (λi=>markB i.2.1) (λi=>i.1<=(bU l kind aK known).length/\bD l u kind value aK known=((bD.K1))/\jM h4 i.2.2) ?_ (λhx1=>?_)
 .rintro⟨i1,rs1,hh1⟩ ⟨fp,hs13,hl1⟩ e
  refine qT 6 U ?_
  have hs14:bD l u kind value aK known=((-1),true,0):=hs13
  exact cn (L':=([])++markB rs1) ap (rY rs1 [I (-1),.bool true,I 0] DV U hX rd (congrArg (λr:(Int×Bool×Int)=>(.tuple #[I r.1,.bool r.2.1,I r.2.2]:Value)) hs14.symm))
 refine wH (ι:=Nat×List Nat×HF×List Budget) (λi=>[(1,.slice qU u.length qI),(3,I value),(4,I aK),(5,I known),(53,.slice rb1 ((bU l kind aK known).length) rc1),(54,I ((bU l kind aK known).length:Int)),(55,I (i.1:Int))]) (λi=>marks i.2.1) (λi=>i.2.2.1) (λi=>markB i.2.1) (λi=>(bU l kind aK known).drop i.1=i.2.2.2/\i.1<=(bU l kind aK known).length/\bD l u kind value aK known=((bD.L1 u value aK known (bD.K1)) i.2.2.2)/\jM h4 i.2.2.1) (λi=>i.2.2.2.length) (0,[],h4,(bU l kind aK known)) U rd sw ⟨U,jL _,hs11,lf⟩ ?_
 rintro⟨i1,rs1,hh1,s1⟩ ⟨hd1,fp,hs15,hl1⟩ ag1 e
 rcases s1 with _|⟨y1,rz1⟩
 .have ga:=mR hd1
  exact sr (fO ga U (qO 4 U (hx1 (i1,rs1,hh1) _ ⟨fp,hs15,hl1⟩ trivial)))
 have dj:=sQ hd1
 have aY:=rg hd1
 have er:=io hd1
 have gr:=sl4.1.1
 refine sr (tO dj U (qO 8 U (aC (iF zK uo ty101 (sl4.mono aBu hl1).1 aY U U U (λq2 A2=>dz ty101 A2 U U (ba zc101 (λb7=>aQ 0 ty101 U U U U U U (qO 4 U (ba zc3 (λb8=>ba zc3 (λb9=>cT 1 ty3 U U U U U U (cT 0 ty3 U U U U U U (qO 4 U (cK 2 ty101 U U U (qO 3 U (aC (cS call102 (DG _ y1 _ _ _ aK known (hu.mono Use.aj ((hle1.t hle4).t hl1)) (IW (by simpa using c1) (fX hd1))) U (λv3 h6 hle6 hp3=>?_))))))))))))))))))
 obtain⟨_,rfl,mo2⟩:=hp3
 refine qO 2 U ?_
 let z1:Nat×Obj:=(b7,O (zK y1) 101)
 refine cn (L':=([(b9,O [I value] 3),(b8,O [I 1] 3),z1])++markB rs1) ap ?_
 refine j3 (it:=v3) (xs:=(nL y1 u aK known)) (ι:=Int×Int×HF) rs1 (λi=>i.2.2) (λi=>[(b9,O [I i.1] 3),(b8,O [I i.2.1] 3),z1]) (λs i=>bD l u kind value aK known=((bD.L3 (λzg3_b9_0 zg3_b8_0=>(bif(decide (y1.Count<zg3_b8_0)||decide (y1.Value<zg3_b9_0))then(y1.No,false,0)else(bD.L1 u value aK known (bD.K1) rz1)))) s i.1 i.2.1)/\jM h6 i.2.2) (λ_=>False) (λ_=>False) 0 (λ_ _ _=>False) (value,1,h6) DV U mo2 U CW (λ_ _ _ _ _ hq=>hq) U (show[(b9,O [I value] 3),(b8,O [I 1] 3),z1]=_ from U) ⟨hs15,lf⟩ ?_ ?_ ?_ ?_ ?_
 .rintro l3 dm3 lp3 y3 rz3 vs3 ⟨vh,yo,hh3⟩ hr3 X hFR3 ⟨hs17,hl3⟩ hl03 hlr3 hv3 hX hXM hlp3 nx3 rt3 ex3 pn3
  obtain rfl:=hv3
  exact cn (L':=[(l3,.loop lp3),(dm3,.deferred (some [])),(b9,O [I vh] 3),(b8,O [I yo] 3),z1]++(markB rs1)) ap (qT 3 U (jy 0 U hlp3 (qK 5 [3] U (cT 3 ty3 U U U U U U (qL 5 [2] U (cT 2 ty3 U U U U U U (qO 2 U (cn (L':=rdH l3 dm3 lp3 (([(b9,O [I (vC .i64 (vh+y3))] 3),(b8,O [I (vC .i64 (yo+1))] 3),z1])++markB rs1)) ap (nx3 ((vC .i64 (vh+y3)),(vC .i64 (yo+1)),hr3) _ _ ⟨hs17,(hl3.t hlr3)⟩ lf)))))))))
 .rintro dm3 ⟨vh,yo,hh3⟩ hn3 ⟨hs18,hl3⟩ hln3 hl03
  refine cn (L':=[(b9,O [I vh] 3),(b8,O [I yo] 3),z1]++(markB (dm3::rs1))) ap (qK 8 [1,2] U (bV 5 [75,76,77,78,79,80] 75 80 (decide (y1.Value<vh)) U (λc7 hk3=>?_) (λe=>?_)))
  .exact qL 5 [0,2] U (hk3 _ U)
  refine aJ (ae hs18 U (λc8 hs19=>?_) (λc8 hs20=>?_))
  .refine qK 8 [2] U ?_
   have hs21:bD l u kind value aK known=(y1.No,false,0):=hs19
   exact cn (L':=([(b9,O [I vh] 3),(b8,O [I yo] 3),z1])++markB (dm3::rs1)) ap (rY (dm3::rs1) [I y1.No,.bool false,I 0] DV U hX rd (congrArg (λr:(Int×Bool×Int)=>(.tuple #[I r.1,.bool r.2.1,I r.2.2]:Value)) hs21.symm))
  exact aN (qT 2 U (oi i1 U (qO 2 U (bz (L':=markB (dm3::rs1)) js (ag1 ((i1+1),(dm3::rs1),hn3,rz1) _ (Nat.lt_succ_self _) ⟨kx hd1,io hd1,hs20,(((hl1.t hle6).t hl3).t hln3)⟩ rd)))))
 .exact xf
 .exact xf
 exact xf
theorem uE(h:HF)(t:Int)  : Ret prog 214 [I t] h (.bool (gL t)):=by
 refine sT func214 U ntmps214 U λX hM hX hF=>?_
 have hs0:gL t=gL t:=rfl
 refine qT 9 U (bj 4 [5,6,7,8,9] 5 9 (!(fJ t)) U (λc1 hk1=>?_) (λe=>?_))
 .exact av (ai Nx (m4 h t) U (qO 2 U (hk1 _ U)))
 exact an (nretP [.bool ((t != (-1))&&(!(fJ t)))] (cs hs0))
theorem pC(h:HF)(l:List Document)(eP:Option Addr)(eO:Nat)(signed:List Int)(bZ:Option Addr)(bY:Nat)(hl:SlC vR h eP eO l)(hsigned:SlC qC h bZ bY signed):Ret prog 124 [.slice eP l.length eO,.slice bZ signed.length bY] h (.bool (cg l signed)):=by
 refine sT func124 U ntmps124 U λX hM hX hF=>?_
 have hs0:cg l signed=cg l signed:=rfl
 refine qK 16 [] U (bj 5 [11,12,13,14,15,16] 11 16 (!(cC signed gL)) U (λc1 hk1=>?_) (λe=>?_))
 .exact av (av (ai IB (hY _ _ _ _ gL (.func (.func 214) #[] #[]) hsigned (λh' dF hle=>iJ call214 (uE h' dF))) U (qO 2 U (hk1 _ U))))
 exact an (nretP [.bool (((signed.length:Int)==(l.length:Int))&&(!(cC signed gL)))] (cs hs0))
theorem AB(h:HF)(x:List Int)(Qk:Option Addr)(P3:Nat)(hx:SlC qC h Qk P3 x)(hne:0<x.length):Ret prog 217 [.slice Qk x.length P3] h (I (fZ x)):=by
 refine sT func217 U ntmps217 U λX hM hX hF=>?_
 have hs0:fZ x=fZ x:=rfl
 refine qK 11 [] U (j8 U (λc1=>?_) (λc1=>?_))
 .exact absurd c1 (by simp only[decide_eq_true_eq,Bool.not_eq_true,decide_eq_false_iff_not];omega)
 have c1p:=of_decide_eq_false c1
 refine qT 4 U ?_
 have ho1:0<=(0:Int)/\(0:Int)<((x).length:Int):=ob
 refine aC (na (enc:=λy=>[I y]) ei dY ty3 hx.1 ho1 (cN ho1) U U U (λq1 A1=>dh ty3 A1 U (qO 7 U ?_)))
 refine iL (ι:=Nat×Int) (λi=>[(3,I i.2)]) (λi=>h) (λi=>[]) (λi=>i.1<=x.length/\fZ x=((fZ.K1) i.2)) ?_ (λhx1=>?_)
 .rintro⟨i1,iB⟩ ⟨fp,hs1⟩ e
  exact sr (qO 3 U (nretP [I iB] (ci hs1)))
 refine kg (ι:=Nat×Int×List Int) (λi=>[(0,.slice Qk x.length P3),(3,I i.2.1),(4,I (i.1:Int))]) (λi=>h) (λi=>[]) (λi=>x.drop i.1=i.2.2/\i.1<=x.length/\fZ x=((fZ.L1 (fZ.K1)) i.2.2 i.2.1)) (λi=>i.2.2.length) (1,(nthI x 0),(x.drop 1)) rd sw ⟨U,ob,hs0⟩ ?_
 rintro⟨i1,iB,s1⟩ ⟨hd1,fp,hs3⟩ ag1 e
 rcases s1 with _|⟨y1,rz1⟩
 .have ga:=mR hd1
  exact qK 6 [] U (fO ga U (qO 3 U (hx1 (i1,iB) _ ⟨fp,hs3⟩ rd)))
 have dj:=sQ hd1
 have aY:=rg hd1
 have er:=io hd1
 have gr:=hx.1.1
 exact qK 6 [] U (tO dj U (qO 9 U (aC (iF (λy=>[I y]) dY ty3 hx.1 aY U U U (λq3 A3=>dh ty3 A3 U (aC (fw (P6 U U) (qO 5 U (oi i1 U (an (ag1 ((i1+1),(min iB y1),rz1) _ (Nat.lt_succ_self _) ⟨kx hd1,io hd1,hs3⟩ rd)))))))))))
theorem mj(h:HF)(p:ft)(gS:sV)(p_q:Addr)(nK:Int)(bp:Int)(hp:ft.ok h p gS)(ap_z:At h p_q (ft.cells p gS))(hi:0<=nK/\nK<(p.shelf.docs.length:Int))(hlen:p.done.length=p.shelf.docs.length/\p.lacks.length=p.shelf.docs.length):Ret prog 127 [.pointer (some p_q),I nK,I bp] h (.tuple #[I ((cH p nK bp).1),I ((cH p nK bp).2)]):=by
 refine sT func127 U ntmps127 U λX hM hX hF=>?_
 have hs0:cH p nK bp=cH p nK bp:=rfl
 refine qT 8 U (aC (fw (fW U) (qL 2 [] U (dh ty27 ap_z U (av ?_)))))
 have ho1:0<=(nK:Int)/\(nK:Int)<((p.shelf.docs).length:Int):=ob
 refine aC (si nA ty51 hp.shelf.docs.1 ho1 (cN ho1) U U U (λ_ _ _ e=>e) (λq1 r1 A1 ok1=>dz ty51 A1 U U (ba zc51 (λb1=>aQ 0 ty51 U U U U U U (qO 6 U (aC (fw (fW U) (qL 1 [] U (jb (j:=3) ty57 ap_z U U (av ?_))))))))))
 have ho2:0<=(nK:Int)/\(nK:Int)<((p.done).length:Int):=ob
 refine aC (na (enc:=λy=>[.bool y]) ei rW ty4 hp.done.1 ho2 (cN ho2) U U U (λq2 A2=>dh ty4 A2 U (qO 3 U (ae hs0 U (λc1 hs1=>?_) (λc1 hs2=>?_)))))
 .refine qT 5 U ?_
  have hs3:cH p nK bp=(1,(-1)):=hs1
  exact nretP [I 1,I (-1)] (congrArg (λr:(Int×Int)=>(.tuple #[I r.1,I r.2]:Value)) hs3.symm)
 refine qT 3 U (aC (fw (fW U) (qL 1 [] U (jb (j:=4) ty31 ap_z U U (av ?_)))))
 have ho3:0<=(nK:Int)/\(nK:Int)<((p.lacks).length:Int):=ob
 refine aC (na (enc:=λy=>[I y]) ei dY ty3 hp.lacks.1 ho3 (cN ho3) U U U (λq3 A3=>dh ty3 A3 U (qO 3 U (ae hs2 U (λc2 hs4=>?_) (λc2 hs5=>?_)))))
 .have c2p:=of_decide_eq_true c2
  refine el (eM ([(b1,O (xN (nthI p.shelf.docs nK) r1) 51)]) mixed kr jn (λem _=>tm 0 U (tf 1 U U (λ_ _ _=>fW U) (qB [2] U (tf 3 U U (rH 4 ty31 ap_z U U) (tm 4 U ?_))))))
  have ho4:0<=(nK:Int)/\(nK:Int)<((p.lacks).length:Int):=ob
  refine eS 5 (enc:=λy=>[I y]) em jn ei dY ty3 hp.lacks.1 ho4 (cN ho4) U U U U kr (λq4 A4=>tf 6 U U (rh ty3 A4 U) (qA [7,8] U (aV kr ?_)))
  have hs6:cH p nK bp=(4,(nthI p.lacks nK)):=hs4
  exact nretP [I 4,I (nthI p.lacks nK)] (congrArg (λr:(Int×Int)=>(.tuple #[I r.1,I r.2]:Value)) hs6.symm)
 have c2p:=of_decide_eq_false c2
 refine el ?_
 let z1:Nat×Obj:=(b1,O (xN (nthI p.shelf.docs nK) r1) 51)
 refine eM ([z1]) mixed kr jn (λmq _=>?_)
 refine tm 0 U (tf 1 U U (λ_ _ _=>fW U) (qB [2] U (tf 3 U U (rH 5 ty236 ap_z U U) (qB [4] U (tf 5 U U (rj 0 ty3 U U U) (tn 6 U ?_))))))
 obtain⟨o1,hb1,hm1⟩:=hp.revoked
 refine nD (k:=(nthI p.shelf.docs nK).No) Iv (fC m6) hb1 hm1 (e8 zv31) (show(VSl qC) _ (.slice none 0 0) []from⟨none,0,U,vE⟩) U U (λv1 hv1=>?_)
 obtain⟨rb1,rc1,rfl,sl1⟩:=hv1
 refine⟨jn,(tf 7 U U (λ_ _ _=>I2 dY U) (qA [8,9] U (aV kr (ae hs5 U (λc3 hs7=>?_) (λc3 hs8=>?_)))))⟩
 .have c3p:=of_decide_eq_true c3
  refine el (eM ([z1]) mixed kr jn (λJw _=>tm 0 U (tf 1 U U (λ_ _ _=>fW U) (qB [2] U (tf 3 U U (rH 5 ty236 ap_z U U) (qB [4] U (tf 5 U U (rj 0 ty3 U U U) (tn 6 U ?_))))))))
  obtain⟨o2,hb2,hm2⟩:=hp.revoked
  refine nD (k:=(nthI p.shelf.docs nK).No) Iv (fC m6) hb2 hm2 (e8 zv31) (show(VSl qC) _ (.slice none 0 0) []from⟨none,0,U,vE⟩) U U (λv2 hv2=>?_)
  obtain⟨rb2,rc2,rfl,sl2⟩:=hv2
  refine⟨jn,(tn 7 U (fe call217 (AB _ _ _ _ sl2 ob) U (⟨jn,(qA [8,9] U (aV kr ?_))⟩)))⟩
  have hs9:cH p nK bp=(5,(fZ (mgetD p.revoked ((nthI p.shelf.docs nK).No) []))):=hs7
  exact nretP [I 5,I (fZ (mgetD p.revoked ((nthI p.shelf.docs nK).No) []))] (congrArg (λr:(Int×Int)=>(.tuple #[I r.1,I r.2]:Value)) hs9.symm)
 have c3p:=of_decide_eq_false c3
 refine qK 8 [0] U (ae hs8 U (λc4 hs10=>?_) (λc4 hs11=>?_))
 .have c4p:=of_decide_eq_true c4
  refine qT 5 U ?_
  have hs12:cH p nK bp=(2,(-1)):=hs10
  exact nretP [I 2,I (-1)] (congrArg (λr:(Int×Int)=>(.tuple #[I r.1,I r.2]:Value)) hs12.symm)
 have c4p:=of_decide_eq_false c4
 refine qK 8 [0] U (ae hs11 U (λc5 hs13=>?_) (λc5 hs14=>?_))
 .have c5p:=of_decide_eq_true c5
  refine qT 5 U ?_
  have hs15:cH p nK bp=(3,(-1)):=hs13
  exact nretP [I 3,I (-1)] (congrArg (λr:(Int×Int)=>(.tuple #[I r.1,I r.2]:Value)) hs15.symm)
 have c5p:=of_decide_eq_false c5
 refine qT 7 U ?_
 have hs16:cH p nK bp=(0,(-1)):=hs14
 exact nretP [I 0,I (-1)] (congrArg (λr:(Int×Int)=>(.tuple #[I r.1,I r.2]:Value)) hs16.symm)
theorem yn(cmp:Int->Int->Int):∀(j:Nat)(xs:List Int),(insIn cmp j xs).length=xs.length
 |0,xs=>rfl
 |j+1,xs=>by
  simp only[insIn,Bool.cond_eq_ite]
  split
  .rw[yn cmp j];simp
  rfl
theorem Ci(cmp:Int->Int->Int):∀(j:Nat)(xs:List Int),j<xs.length->∀x∈insIn cmp j xs,x∈xs
 |0,xs,_,x,hx=>hx
 |j+1,xs,hj,x,hx=>by
  simp only[insIn,Bool.cond_eq_ite]at hx
  split at hx
  .have h1:=Ci cmp j _ (by simp;omega) x hx
   rcases List.mem_or_eq_of_mem_set h1 with h1|rfl
   .rcases List.mem_or_eq_of_mem_set h1 with h1|rfl
    .exact h1
    simp[List.getD_eq_getElem?_getD,show j<xs.length by omega]
   simp[List.getD_eq_getElem?_getD,show j+1<xs.length by omega]
  exact hx
theorem EY(cmp:Int->Int->Int):∀(m i:Nat)(xs:List Int),(insOut cmp m i xs).length=xs.length
 |0,_,_=>rfl
 |m+1,i,xs=>by simp only[insOut];rw[EY cmp m,yn]
theorem D9(xs:List Int)(cmp:Int->Int->Int):(fu xs cmp).length=xs.length:=EY _ _ _ _
theorem AA(j:Nat)(hj:j<9223372036854775807):xC .i64 (IntKind.i64.wrap (((j+1:Nat):Int)-1))=I (j:Int):=by
 rw[jv ob];congr 1;omega
theorem oq(h:HF)(xs:List Int)(b:Option Addr)(c:Nat)(G:LH)(cmp:Int->Int->Int)(cmp_v:Value)(hG:dG qC 3 h xs b c G)(hcmp:∀(h':HF)(dF DT:Int),jM h h'->dF∈xs->DT∈xs->um prog cmp_v [I dF,I DT] h' [] (I (cmp dF DT)))(hsz:xs.length<=2000000):
  od prog 364 [.slice b xs.length c,I 0,I (xs.length:Int),cmp_v].toArray h G (λr h' G'=>h'=h/\r=.returned (.tuple #[])/\dG qC 3 h (fu xs cmp) b c G'):=by
 refine cJ func364 U ntmps364 U λX hM hX=>qT 3 U (iQ (v':=I ((1:Nat):Int)) U U (an ?_))
 refine iL (ι:=List Int×LH) (λi=>[]) (λi=>h) (λi=>i.2) (λi=>i.1=fu xs cmp/\dG qC 3 h i.1 b c i.2) ?_ (λhx=>?_)
 .rintro⟨ys,G'⟩ ⟨hs,hG'⟩ e
  dsimp only at hs hG'
  exact wI func364 (λa _ w _=>mb U a w) (λw hw=>hw.lower) ⟨hX,U,hs▸hG'⟩
 refine kg (ι:=Nat×List Int×LH) (λi=>[(0,.slice b xs.length c),(1,I 0),(2,I (xs.length:Int)),(3,cmp_v),(8,I (i.1:Int))]) (λi=>h) (λi=>i.2.2)
  (λi=>insOut cmp (xs.length-i.1) i.1 i.2.1=fu xs cmp/\1<=i.1/\i.2.1.length=xs.length/\(∀x∈i.2.1,x∈xs)/\dG qC 3 h i.2.1 b c i.2.2) (λi=>xs.length-i.1) (1,xs,G) rd (λw hw=>hw) ⟨rfl,xG _,rfl,λ_ hx=>hx,hG⟩ ?_
 rintro⟨i,ys,G1⟩ ⟨hs,hi1,hyl,hym,hG1⟩ ag e
 dsimp only at hs hi1 hyl hym hG1
 rcases jP i xs.length with hi|hi
 .refine qT 5 U (tO (decide_eq_true ob) U (qO 10 U ?_))
  refine iL (ι:=List Int×LH) (λq=>[(0,.slice b xs.length c),(1,I 0),(2,I (xs.length:Int)),(3,cmp_v),(8,I (i:Int))]) (λq=>h) (λq=>q.2) (λq=>q.1=insIn cmp i ys/\dG qC 3 h q.1 b c q.2) ?_ (λhy=>?_)
  .rintro⟨zs,G2⟩ ⟨hz,hG2⟩ e2
   dsimp only at hz hG2
   subst hz
   refine qT 3 U (oi i U (an (ag (i+1,insIn cmp i ys,G2) _ (by show xs.length-(i+1)<xs.length-i;omega) ⟨?_,by show 1<=i+1;omega,by show(insIn cmp i ys).length=xs.length;rw[yn];exact hyl,λx hx=>hym x (Ci cmp i ys ob x hx),hG2⟩ rd)))
   show insOut cmp (xs.length-(i+1)) (i+1) (insIn cmp i ys)=_
   rw[←hs,show xs.length-i=(xs.length-(i+1))+1 from by omega];rfl
  refine kg (ι:=Nat×List Int×LH) (λq=>[(0,.slice b xs.length c),(1,I 0),(2,I (xs.length:Int)),(3,cmp_v),(8,I (i:Int)),(9,I (q.1:Int))]) (λq=>h) (λq=>q.2.2)
   (λq=>insIn cmp q.1 q.2.1=insIn cmp i ys/\q.1<=i/\q.2.1.length=xs.length/\(∀x∈q.2.1,x∈xs)/\dG qC 3 h q.2.1 b c q.2.2) (λq=>q.1) (i,ys,G1) rd (λw hw=>hw) ⟨rfl,xG _,hyl,hym,hG1⟩ ?_
  rintro⟨j,zs,G2⟩ ⟨hz,hji,hzl,hzm,hG2⟩ ag2 e2
  dsimp only at hz hji hzl hzm hG2
  have J0:∀{L:LH},Jst h [] h L:=Bb (List.nil_sublist _)
  obtain⟨bk,hbk⟩:=hG2.yq ob
  have JG:Jst h G2 h G2:=Bb (List.Sublist.refl _)
  refine qT 2 U (eM G2 mixed kr JG (λhsep _=>i9 0 hsep JG U U kr U (λ_ _ _=>mE) (i9 1 hsep JG U U kr U (λ_ _ _=>mE) ?_)))
  rcases j with _|j
  .exact i9 2 hsep JG U U kr U (λ_ _ _=>nl (v':=.bool false) U (cb (decide_eq_false ob))) (i9 3 hsep JG U U kr U (λ_ _ _=>mE) (mt 4 hsep JG U U kr U (mt 5 hsep JG U U kr U (mt 6 hsep JG U U kr U (mt 7 hsep JG U U kr U (mt 8 hsep JG U U kr U (mt 9 hsep JG U U kr U (mt 10 hsep JG U U kr U (mt 11 hsep JG U U kr U (mt 12 hsep JG U U kr U (mt 13 hsep JG U U kr U (mt 14 hsep JG U U kr U (mt 15 hsep JG U U kr U (i9 16 hsep JG U U kr U (λ_ _ _=>Kw U) (aV kr (qT 2 U (hy (zs,G2) _ ⟨hz,hG2⟩ rd)))))))))))))))))
  have hj1:zs[j+1]? = some (zs.getD (j+1) 0):=by simp[List.getD_eq_getElem?_getD,show j+1<zs.length by omega]
  have hj0:zs[j]? = some (zs.getD j 0):=by simp[List.getD_eq_getElem?_getD,show j<zs.length by omega]
  have hjn:(((j+1:Nat):Int)).toNat=j+1:=by omega
  have hjn0:((j:Int)).toNat=j:=by omega
  refine i9 2 hsep JG U U kr U (λ_ _ _=>nl (v':=.bool true) U (cb (decide_eq_true ob))) (i9 3 hsep JG U U kr U (λ_ _ _=>mE) (i9 4 hsep JG U U kr U (λ_ _ _=>mE) (i9 5 hsep JG U U kr U (λ_ _ _=>mE) (i9 6 hsep JG U U kr U (λ_ _ _=>mE) (i9 7 hsep JG U U kr U (λ_ _ _=>ou (R:=qC) (xs:=zs) (z:=((j+1:Nat):Int)) dY ty3 hbk ob U hzl.symm U) (i9 8 hsep JG U U kr U (λ_ _ hj=>EG (R:=qC) (off:=0) (i:=j+1) ty3 hG2 hbk hj1 (λcs_z hcs=>by rw[show cs_z=[I (zs.getD (j+1) 0)]from hcs];rfl) (by rfl) (λp hp=>hj.2 p hp)) (i9 9 hsep JG U U kr U (λ_ _ _=>mE) (i9 10 hsep JG U U kr U (λ_ _ _=>mE) (i9 11 hsep JG U U kr U (λ_ _ _=>nl (v':=I (j:Int)) U (AA j ob)) (i9 12 hsep JG U U kr U (λ_ _ _=>ou (R:=qC) (xs:=zs) (z:=(j:Int)) dY ty3 hbk ob U hzl.symm U) (i9 13 hsep JG U U kr U (λ_ _ hj=>EG (R:=qC) (off:=0) (i:=j) ty3 hG2 hbk hj0 (λcs_z hcs=>by rw[show cs_z=[I (zs.getD j 0)]from hcs];rfl) (by rfl) (λp hp=>hj.2 p hp)) (tn 14 U (lT (v:=I (cmp (zs.getD (j+1) 0) (zs.getD j 0))) [] (List.nil_sublist _) (hcmp h (zs.getD (j+1) 0) (zs.getD j 0) lf (hzm _ (xE hj1)) (hzm _ (xE hj0))) U U ⟨JG,i9 15 hsep JG U U kr U (λ_ _ _=>Oc U) (i9 16 hsep JG U U kr U (λ_ _ _=>Kw U) (aV kr (j8 U (λhc=>aN ?_) (λhc=>?_))))⟩)))))))))))))
  .refine qT 2 U (eM [] mixed kr J0 (λmq _=>i9 0 mq J0 U U kr U (λ_ _ _=>mE) (i9 1 mq J0 U U kr U (λ_ _ _=>mE) (i9 5 mq J0 U U kr U (λ_ _ _=>mE) (i9 6 mq J0 U U kr U (λ_ _ _=>mE) (i9 2 mq J0 U U kr U (λ_ _ _=>mE) (i9 3 mq J0 U U kr U (λ_ _ _=>mE) (i9 4 mq J0 U U kr U (λ_ _ _=>nl (v':=I (j:Int)) U (AA j ob)) (i9 7 mq J0 U U kr U (λ_ _ _=>nl (v':=I (j:Int)) U (AA j ob)) (i9 8 mq J0 U U kr U (λ_ _ _=>ou (R:=qC) (xs:=zs) (z:=(j:Int)) dY ty3 hbk ob U hzl.symm U) (i9 10 mq J0 U U kr U (λ_ _ _=>mE) (i9 11 mq J0 U U kr U (λ_ _ _=>mE) (i9 12 mq J0 U U kr U (λ_ _ _=>ou (R:=qC) (xs:=zs) (z:=((j+1:Nat):Int)) dY ty3 hbk ob U hzl.symm U) ?_)))))))))))))
   refine nT 9 13 kr U U
    (fw (EG (R:=qC) (off:=0) (i:=j) ty3 hG2 hbk hj0 (λcs_z hcs=>by rw[show cs_z=[I (zs.getD j 0)]from hcs];rfl) (by rfl) (λp hp=>hp)) ⟨J0,tn 13 rfl (fw (EG (R:=qC) (off:=0) (i:=j+1) ty3 hG2 hbk hj1 (λcs_z hcs=>by rw[show cs_z=[I (zs.getD (j+1) 0)]from hcs];rfl) (by rfl) (λp hp=>hp)) ⟨J0,?_⟩)⟩)
    (fw (EG (R:=qC) (off:=0) (i:=j+1) ty3 hG2 hbk hj1 (λcs_z hcs=>by rw[show cs_z=[I (zs.getD (j+1) 0)]from hcs];rfl) (by rfl) (λp hp=>hp)) ⟨J0,tn 9 rfl (fw (EG (R:=qC) (off:=0) (i:=j) ty3 hG2 hbk hj0 (λcs_z hcs=>by rw[show cs_z=[I (zs.getD j 0)]from hcs];rfl) (by rfl) (λp hp=>hp)) ⟨J0,?_⟩)⟩)
   all_goals
    refine i9 14 mq J0 U U kr U (λ_ _ _=>ou (R:=qC) (xs:=zs) (z:=((j+1:Nat):Int)) dY ty3 hbk ob U hzl.symm U) (tn 15 U (AI (R:=qC) (i:=j+1) (off:=0) (u:=zs.getD (j+1) 0) (u':=zs.getD j 0) (v:=I (zs.getD j 0)) [] G2 [] ty3 U hG2 (by simp) hbk hj1 (by decide) (λcs_z hcs=>by rw[show cs_z=[I (zs.getD (j+1) 0)]from hcs];rfl) (by rfl) U U (λG3 hG3=>⟨J0,?_⟩)))
    rw[jG,List.append_nil]
    refine i9 16 mq J0 U U kr U (λ_ _ _=>ou (R:=qC) (xs:=zs) (z:=(j:Int)) dY ty3 hbk ob U hzl.symm U) ?_
    have hj0':(zs.set (j+1) (zs.getD j 0))[j]? = some (zs.getD j 0):=by rw[List.getElem?_set_ne ob];exact hj0
    refine tn 17 U (AI (R:=qC) (i:=j) (off:=0) (u:=zs.getD j 0) (u':=zs.getD (j+1) 0) (v:=I (zs.getD (j+1) 0)) [] G3 [] ty3 U hG3 (by simp) hbk hj0' (by decide) (λcs_z hcs=>by rw[show cs_z=[I (zs.getD j 0)]from hcs];rfl) (by rfl) U U (λG4 hG4=>⟨J0,?_⟩))
    rw[jG,List.append_nil]
    refine aV kr (qT 3 U (iQ (v':=I (j:Int)) U (AA j ob) (an (ag2 (j,(zs.set (j+1) (zs.getD j 0)).set j (zs.getD (j+1) 0),G4) _ (Nat.lt_succ_self _) ⟨?_,by show j<=i;omega,by show((zs.set (j+1) (zs.getD j 0)).set j (zs.getD (j+1) 0)).length=xs.length;simpa using hzl,λx hx=>(List.mem_or_eq_of_mem_set hx).elim (λhx=>(List.mem_or_eq_of_mem_set hx).elim (hzm x) (λhx=>hx▸hzm _ (xE hj0))) (λhx=>hx▸hzm _ (xE hj1)),hG4⟩ rd))))
    show insIn cmp j ((zs.set (j+1) (zs.getD j 0)).set j (zs.getD (j+1) 0))=insIn cmp i ys
    rw[←hz];simp only[insIn,hc,cond_true]
  refine lI U (hy (zs,G2) _ ⟨?_,hG2⟩ rd)
  show zs=insIn cmp i ys
  rw[←hz];simp only[insIn,hc,cond_false]
 refine qT 5 U (fO (decide_eq_false ob) U (qO 3 U (hx (ys,G1) _ ⟨?_,hG1⟩ trivial)))
 show ys=_
 rw[←hs,show xs.length-i=0 from by omega];rfl
theorem rx(h:HF)(xs:List Int)(b:Option Addr)(c:Nat)(G:LH)(cmp:Int->Int->Int)(cmp_v:Value)(hG:dG qC 3 h xs b c G)(hcmp:∀(h':HF)(dF DT:Int),jM h h'->dF∈xs->DT∈xs->um prog cmp_v [I dF,I DT] h' [] (I (cmp dF DT)))(hsz:xs.length<20):
  od prog 332 [.slice b xs.length c,I (xs.length:Int),cmp_v].toArray h G (λr h' G'=>h'=h/\r=.returned (.tuple #[])/\dG qC 3 h (fu xs cmp) b c G'):=by
 refine cJ func332 U ntmps332 U λX hM hX=>qT 12 U (D0 (qT 5 U (fO (decide_eq_false ob) U (qO 9 U (aC (nd [] G [] call364 (oq h xs b c G cmp cmp_v hG hcmp ob) (by simp) U (λG2 hG2=>?_)))))))
 rw[jG,List.append_nil]
 exact aJ (lZ (D0 (qT 5 U (fO (decide_eq_false ob) U (qO 3 U (wI func332 (λa _ w _=>mb U a w) (λw hw=>hw.lower) ⟨hX,U,hG2⟩))))))
theorem qX(h:HF)(xs:List Int)(b:Option Addr)(c:Nat)(G:LH)(cmp:Int->Int->Int)(cmp_v:Value)(hG:dG qC 3 h xs b c G)(hcmp:∀(h':HF)(dF DT:Int),jM h h'->dF∈xs->DT∈xs->um prog cmp_v [I dF,I DT] h' [] (I (cmp dF DT)))(hsz:xs.length<20):
  od prog 290 [.slice b xs.length c,cmp_v].toArray h G (λr h' G'=>h'=h/\r=.returned (.tuple #[])/\dG qC 3 h (fu xs cmp) b c G'):=by
 refine cJ func290 U ntmps290 U λX hM hX=>qK 5 [] U (aC (nd [] G [] call332 (rx h xs b c G cmp cmp_v hG hcmp hsz) (by simp) U (λG2 hG2=>?_)))
 rw[jG,List.append_nil]
 exact aJ (wI func290 (λa _ w _=>mb U a w) (λw hw=>hw.lower) ⟨hX,U,hG2⟩)
theorem Ai(h:HF)(x:Int)(y:Int)  : Ret prog 118 [I x,I y] h (I (cmp_Compare_int x y)):=by
 refine sT func118 U ntmps118 U λX hM hX hF=>?_
 have hs0:cmp_Compare_int x y=cmp_Compare_int x y:=rfl
 refine qT 7 U (ai call211 (uG h x) U (qO 5 U (ai call211 (uG h y) U (qO 7 U (ae hs0 U (λc1 hs1=>?_) (λc1 hs2=>?_))))))
 .refine qT 5 U (ae hs1 U (λc2 hs3=>?_) (λc2 hs4=>?_))
  .exact sr (an (nretP [I 0] (ci hs3)))
  exact aN (qT 4 U (nretP [I (-1)] (ci hs4)))
 refine qT 6 U (ae hs2 U (λc3 hs7=>?_) (λc3 hs8=>?_))
 .exact sr (an (nretP [I 1] (ci hs7)))
 refine qT 8 U (ae hs8 U (λc4 hs10=>?_) (λc4 hs11=>?_))
 .have c4p:=of_decide_eq_true c4
  exact sr (an (nretP [I (-1)] (ci hs10)))
 have c4p:=of_decide_eq_false c4
 refine qT 8 U (ae hs11 U (λc5 hs13=>?_) (λc5 hs14=>?_))
 .have c5p:=of_decide_eq_true c5
  exact sr (an (nretP [I 1] (ci hs13)))
 have c5p:=of_decide_eq_false c5
 exact aN (qT 4 U (nretP [I 0] (ci hs14)))
theorem rf(h:HF)(a:Int)(j0:Int)(p:pt)(gS:Mu)(p_p:Addr)(p_q:Addr)(hp:pt.ok h p gS)(pp:At h p_p (pt.cells p gS))(ap_z:At h p_q [.pointer (some p_p)])(ha:0<=a/\a<(p.signed.length:Int))(hb:0<=j0/\j0<(p.signed.length:Int)):Ret prog 291 [I a,I j0,.pointer (some p_q)] h (I (iv a j0 p)):=by
 refine sT func291 U ntmps291 U λX hM hX hF=>?_
 have hs0:iv a j0 p=iv a j0 p:=rfl
 refine qT 5 U (eM ([]) mixed kr jn (λem _=>tf 0 U U (rh ty211 ap_z U) (tf 1 U U (λ_ _ _=>fW U) (qB [2] U (tf 3 U U (rH 2 ty31 pp U U) (tm 4 U ?_))))))
 have ho1:0<=(a:Int)/\(a:Int)<((p.signed).length:Int):=ob
 refine eS 5 (enc:=λy=>[I y]) em jn ei dY ty3 hp.signed.1 ho1 (cN ho1) U U U U kr (λq1 A1=>tf 6 U U (rh ty3 A1 U) (tf 7 U U (rh ty211 ap_z U) (tf 8 U U (λ_ _ _=>fW U) (qB [9] U (tf 10 U U (rH 2 ty31 pp U U) (tm 11 U ?_))))))
 have ho2:0<=(j0:Int)/\(j0:Int)<((p.signed).length:Int):=ob
 exact eS 12 (enc:=λy=>[I y]) em jn ei dY ty3 hp.signed.1 ho2 (cN ho2) U U U U kr (λq2 A2=>tf 13 U U (rh ty3 A2 U) (tn 14 U (fe call118 (Ai h (nthI p.signed a) (nthI p.signed j0)) U (⟨jn,(qA [15] U (aV kr (nretP [I (cmp_Compare_int (nthI p.signed a) (nthI p.signed j0))] (ci hs0))))⟩))))
theorem uR(h:HF)(v0:List Int)(tQ:Option Addr)(tP:Nat)(v0_q:Addr)(hv0:SlC qC h tQ tP v0)(av0:At h v0_q [.slice tQ v0.length tP]):Itr prog (.func (.func 333) #[] (vB [.pointer (some v0_q)])) ym (di v0) h:=by
 refine sE call333 ?_
 intro yf ya yb C Sp Pn h1 A hle m1 m2 m3 hC hy
 refine jg Nl U ntmps333 U λX hXM hX=>?_
 have hs0:di v0=[]++di v0:=rfl
 refine sr (dh ty31 (av0.mono hle) U (qL 3 [] U ?_))
 refine lp2 v0 (λi w=>[(0,.func yf ya yb),(5,.slice tQ v0.length tP),(6,I (v0.length:Int)),(7,I (i:Int))]) (λw=>w.2.2) (λw=>w.2.1) (λi w=>C w.1 w.2.2 w.2.1/\jM h1 w.2.2) (λs1 i w=>w.1++(di.L1 (di.K1)) s1) ([],A,h1) ((hv0.mono vG hle).1.1) hs0 ⟨hC,lf⟩ ?_ ?_
 .rintro i1 ⟨dn1,A1_,hh1⟩ fp hs1 ⟨hC1_,hl1⟩ e
  refine et ?_
  have hs2:di v0=dn1:=hs1.trans (List.append_nil _)
  exact sF [] (A:=A1_) Nl U (List.Sublist.refl _) (.inl (hs2▸hC1_))
 rintro i1 ⟨dn1,A1_,hh1⟩ y1 rz1 hd1 dj aY er gr hs3 ⟨hC1_,hl1⟩ hx1 ag1 e
 refine sr (tO dj U (qO 8 U (aC (iF (λy=>[I y]) dY ty3 (hv0.mono vG (hle.t hl1)).1 aY U U U (λq2 A5=>dh ty3 A5 U (qO 6 U ?_))))))
 have hx2:di v0=dn1++(y1::(di.L1 (di.K1) rz1)):=hs3
 refine aC (kp ([]) A1_ ap (hy dn1 y1 _ _ _ _ hx2 hl1 hC1_ U) U U (λh5 A6 hle4 hC2=>?_) (λh6 A7 hle5 hS2=>?_) (λch2 h7 A8 hle6 hP2 e=>gH (mP [] (A:=A8) Nl (List.sublist_append_right _ _) hP2)))
 .have hs4:di v0=(dn1++[y1])++((di.L1 (di.K1) rz1)):=hx2.trans ap
  exact mU U (qO 5 U (oi i1 U (qO 2 U (ag1 ((dn1++[y1]),A6,h5) hs4 ⟨hC2,(hl1.t hle4)⟩))))
 exact mU U (qO 2 U (et (mF [] (A:=A7) Nl U (List.Sublist.refl _) (.inr hS2))))
theorem wM(h:HF)(s:List Int)(sk:Option Addr)(sj:Nat)(hs:SlC qC h sk sj s):j1 prog 292 [.slice sk s.length sj] h (λv h'=>∃(rv0:Value),v=rv0/\Itr prog rv0 ym (jz s) h'):=by
 refine sT func292 U ntmps292 U λX hM hX hF=>?_
 have hs0:jz s=jz s:=rfl
 refine sr (cy (λb1=>qO 4 U (aX 0 U hM (λh1 hle1 hb1=>aC (eG U U (an ?_))))))
 have hs1:jz s=(di s):=hs0
 exact nretH [.func (.func 333) #[] #[Q b1]] ⟨(.func (.func 333) #[] #[Q b1]),congrArg (λr:List Int=>((.func (.func 333) #[] #[Q b1]):Value)) hs1.symm,(by rw[hs1];exact(uR h1 s sk sj ⟨b1,0,none⟩ (hs.mono vG hle1) (cA hb1)))⟩
theorem sP(h:HF)(p:pt)(gS:Mu)(p_q:Addr)(ig:Int)(hp:pt.ok h p gS)(ap_z:At h p_q (pt.cells p gS))(hsg:p.signed.length<20):j1 prog 215 [.pointer (some p_q),I ig] h (λv h'=>∃(rv0:Value),v=rv0/\Itr prog rv0 ym (bP p ig) h'):=by
 refine sT func215 U ntmps215 U λX hM hX hF=>?_
 have hs0:bP p ig=bP p ig:=rfl
 refine sr (cy (λb1=>qL 10 [0] U (aC (fw (fW U) (qL 1 [] U (jb (j:=2) ty31 ap_z U U (qL 3 [] U ?_)))))))
 let z1:Nat×Obj:=(b1,O [.pointer (some p_q)] 211)
 refine lp2 p.signed (λi w=>[(1,I ig),(2,Q b1),(5,.slice w.2.1 w.1.length w.2.2.1),(11,.slice gS.bZ p.signed.length gS.bY),(12,I (p.signed.length:Int)),(13,I (i:Int))]) (λ_=>h) (λw=>[z1]++(w.2.2.2)) (λi w=>dG qC 3 h w.1 w.2.1 w.2.2.1 w.2.2.2/\w.1.length<=0+i/\(∀x∈w.1,0<=x/\x<(p.signed.length:Int))) (λs1 i w=>(bP.L1 ig (bP.K1 p)) s1 i w.1) ([],none,0,[]) hp.signed.1.1 hs0 ⟨dG.nil,lo,(λx hx=>(kA hx).elim)⟩ ?_ ?_
 .rintro i1 ⟨eW,vZ,vY,LZ⟩ fp hs1 ⟨qs,Fl,u1_0⟩ e
  try dsimp only at qs Fl u1_0
  refine qT 3 U (aX 0 U hM (λh1 hle1 hb1=>aC (eG U U (aC (nd ([]) LZ ([]) call290 (qX h1 eW vZ vY LZ (λdF DT=>iv dF DT p) (.func (.func 291) #[] #[Q b1]) (qs.mono vG hle1) (λh' dF DT hle Ot Rk=>iJ call291 (rf h' dF DT p gS p_q ⟨b1,0,none⟩  ((hp.mono hle1).mono hle) ((ap_z.mono hle1).mono hle) ((cA hb1).mono hle) (u1_0 _ Ot) (u1_0 _ Rk))) (by first|assumption|omega)) ap U (λG1 gr1=>il (L':=G1) ap (qO 4 U (m7 vG ([]) G1 ([]) ap hM gr1 (λh2 hle2 sl1=>aC (cS call292 (wM _ _ _ _ sl1) (by first|rfl|(simp only[D9,iw];rfl)) (λv1 h3 hle3 hp1=>?_)))))))))))
  obtain⟨_,rfl,mo1⟩:=hp1
  refine an ?_
  have hs2:bP p ig=(jz (fu eW (λdF DT=>iv dF DT p))):=hs1
  exact nretH [v1] ⟨v1,congrArg (λr:List Int=>(v1:Value)) hs2.symm,(by rw[hs2];exact mo1)⟩
 rintro i1 ⟨eW,vZ,vY,LZ⟩ y1 rz1 hd1 dj aY er gr hs3 ⟨qs,Fl,u1_0⟩ hx1 ag1 e
 try dsimp only at qs Fl u1_0
 refine sr (tO dj U (qO 9 U (aC (iF (λy=>[I y]) dY ty3 hp.signed.1 aY U U U (λq2 A2=>dh ty3 A2 U (qO 8 U (bj 4 [20,21,22,23,24] 20 24 (decide (y1<=ig)) U (λc1 hk1=>?_) (λe=>?_))))))))
 .exact av (qO 3 U (hk1 _ U))
 refine aJ (ae hs3 U (λc2 hs4=>?_) (λc2 hs5=>?_))
 .exact bE (qO 2 U (aC (bK (cells:=[I (i1:Int)]) dY ty3 zc3 U U kr (λb2=>aC (dK aBI ([(b2,O [I (i1:Int)] 3),z1]) ([]) (λG=>[(b2,O [I (i1:Int)] 3),z1]++G) ap (λ_=>ap) dY ty3 zc3 U bytes3 qs U U (fd 0 U (cE (i1:Int) U U)) lo lo (λob1 oc1 G2 gr2=>qO 4 U (oi i1 U (qO 2 U (bz (L':=[z1]++G2) js (ag1 ((eW++[(i1:Int)]),ob1,oc1,G2) hs4 ⟨gr2,lo,(by first|assumption|exact λx hx=>(qH.1 hx).elim (u1_0 x) (λhx=>by rw[kC.1 hx];omega))⟩))))))))))
 exact aN (qT 2 U (oi i1 U (qO 2 U (ag1 (eW,vZ,vY,LZ) hs5 ⟨qs,lo,(by first|assumption|exact λx hx=>(qH.1 hx).elim (u1_0 x) (λhx=>by rw[kC.1 hx];omega))⟩))))
theorem tX(h:HF)(v0:List Int)(tQ:Option Addr)(tP:Nat)(v0_q:Addr)(hv0:SlC qC h tQ tP v0)(av0:At h v0_q [.slice tQ v0.length tP]):Itr prog (.func (.func 293) #[] (vB [.pointer (some v0_q)])) xj (iD v0) h:=by
 refine sE call293 ?_
 intro yf ya yb C Sp Pn h1 A hle m1 m2 m3 hC hy
 refine jg Nk U ntmps293 U λX hXM hX=>?_
 have hbd:=hv0.1.1
 refine sr (dh ty31 (av0.mono hle) U (qL 1 [] U (iQ (v':=I ((v0.length:Int)-1)) U (jv ob) (qO 3 U ?_))))
 refine kg (ι:=Nat×List (Int×Int)×LH×HF) (λi=>[(0,.func yf ya yb),(1,.pointer (some v0_q)),(3,I ((i.1:Int)-1))]) (λi=>i.2.2.2) (λi=>i.2.2.1)
  (λi=>iD v0=i.2.1++backL v0 i.1/\i.1<=v0.length/\C i.2.1 i.2.2.2 i.2.2.1/\jM h1 i.2.2.2) (λi=>i.1) (v0.length,[],A,h1) rd (λw hw=>hw) ⟨rfl,xG _,hC,qP _⟩ ?_
 rintro⟨m,dn,A1,hh⟩ ⟨hs,hm,hC1,hl1⟩ ag e
 dsimp only at hs hm hC1 hl1
 rcases m with _|m
 .exact el (qT 3 U (fO (decide_eq_false ob) U (qO 3 U (et (sF [] (A:=A1) Nk U (List.Sublist.refl _) (.inl ((show iD v0=dn from hs.trans (List.append_nil _))▸hC1)))))))
 have e1:(((m+1:Nat):Int)-1)=(m:Int):=by omega
 rw[e1]
 have ho:0<=(m:Int)/\(m:Int)<(v0.length:Int):=by omega
 refine qT 4 U (tO (decide_eq_true ob) U (qO 9 U (dh ty31 (av0.mono (hle.t hl1)) U (av (aC (na (enc:=λy=>[I y]) ei dY ty3 (hv0.mono vG (hle.t hl1)).1 ho (cN ho) U U U (λq2 A5=>dh ty3 A5 U ?_)))))))
 have hx:iD v0=dn++(((m:Int),nthI v0 (m:Int))::backL v0 m):=hs
 refine aC (kp ([]) A1 U (hy dn ((m:Int),nthI v0 (m:Int)) _ _ _ _ hx hl1 hC1 U) U U (λh5 A6 hle4 hC2=>?_) (λh6 A7 hle5 hS2=>?_) (λch2 h7 A8 hle6 hP2 e=>gH (mP [] (A:=A8) Nk (List.sublist_append_right _ _) hP2)))
 .have hs4:iD v0=(dn++[((m:Int),nthI v0 (m:Int))])++backL v0 m:=hx.trans ap
  exact mU U (qO 6 U (iQ (v':=I ((m:Int)-1)) U (jv ob) (an (ag (m,dn++[((m:Int),nthI v0 (m:Int))],A6,h5) _ (Nat.lt_succ_self _) ⟨hs4,by show m<=v0.length;omega,hC2,zF hl1 hle4⟩ rd))))
 exact mU U (qO 2 U (et (mF [] (A:=A7) Nk U (List.Sublist.refl _) (.inr hS2))))
theorem uS(h:HF)(s:List Int)(sk:Option Addr)(sj:Nat)(hs:SlC qC h sk sj s):j1 prog 216 [.slice sk s.length sj] h (λv h'=>∃(rv0:Value),v=rv0/\Itr prog rv0 xj (iV s) h'):=by
 refine sT func216 U ntmps216 U λX hM hX hF=>?_
 have hs0:iV s=iV s:=rfl
 refine sr (cy (λb1=>qO 4 U (aX 0 U hM (λh1 hle1 hb1=>aC (eG U U (an ?_))))))
 have hs1:iV s=(iD s):=hs0
 exact nretH [.func (.func 293) #[] #[Q b1]] ⟨(.func (.func 293) #[] #[Q b1]),congrArg (λr:(List (Int×Int))=>((.func (.func 293) #[] #[Q b1]):Value)) hs1.symm,(by rw[hs1];exact(tX h1 s sk sj ⟨b1,0,none⟩ (hs.mono vG hle1) (cA hb1)))⟩
theorem Kf(s:List Int):jz s=s:=by
  show di.L1 di.K1 s=s
  induction s with
  |nil=>rfl
  |cons y s ih=>simp only[di.L1,ih]
theorem EX(cmp:Int->Int->Int):∀(m i:Nat)(xs:List Int),m=0\/i+m<=xs.length->∀x∈insOut cmp m i xs,x∈xs
  |0,_,_,_,x,hx=>hx
  |m+1,i,xs,h,x,hx=>by
    simp only[insOut]at hx
    exact Ci cmp i xs ob x (EX cmp m (i+1) _ (by rw[yn];omega) x hx)
theorem Km(xs:List Int)(cmp:Int->Int->Int):∀x∈fu xs cmp,x∈xs:=EX _ _ _ _ ob
theorem Eb(p:ft)(bp:Int):∀(s:List Int)(i:Nat)(g:List Int),(∀x∈g,0<=x/\x<(i:Int))->g.length<=i ->
  (∀x∈bP.L1 bp (bP.K1 p) s i g,0<=x/\x<((i+s.length:Nat):Int))/\(bP.L1 bp (bP.K1 p) s i g).length<=i+s.length:=by
 intro s
 induction s with
 |nil=>
  intro i g hg hl
  simp only[bP.L1,bP.K1,Kf,jB,Nat.add_zero,D9]
  exact⟨λx hx=>hg x (Km _ _ x hx),hl⟩
 |cons y s ih=>
  intro i g hg hl
  have e1:i+(y::s).length=(i+1)+s.length:=by simp only[zA];omega
  rw[e1]
  simp only[bP.L1,Bool.cond_eq_ite]
  split
  .refine ih (i+1) _ (λx hx=>?_) lo
   rcases qH.1 hx with hx|hx
   .have:=hg x hx;omega
   rw[kC.1 hx];omega
  exact ih (i+1) g (λx hx=>by have:=hg x hx;omega) ob
theorem IR(p:ft)(bp:Int):∀x∈bP p bp,0<=x/\x<(p.signed.length:Int):=by
  have:=(Eb p bp p.signed 0 [] (λ_ h=>(kA h).elim) (xG _)).1
  simpa[bP]using this
theorem IQ(p:ft)(bp:Int):(bP p bp).length<=p.signed.length:=by
  have:=(Eb p bp p.signed 0 [] (λ_ h=>(kA h).elim) (xG _)).2
  simpa[bP]using this
theorem V3i.mono:zh V3i:=λ_ _ _ _ _ e=>e
theorem FRi.mono{h h':HF}(hl:h.le h'):∀{m:List (Int×Option Addr×Nat×Nat)}{f:List (Int×List Int)}{G:LH},FRi h m f G->FRi h' m f G
  |[],[],_,e=>e
  |(_,_)::_,(_,_)::_,_,⟨a,b,G1,G2,c,d,t⟩=>⟨a,b,G1,G2,c,d.mono vG hl,FRi.mono hl t⟩
  |[],(_,_)::_,_,x=>x.elim
  |(_,_)::_,[],_,x=>x.elim
theorem FRi.get{h:HF}(k:Int):∀{m:List (Int×Option Addr×Nat×Nat)}{f:List (Int×List Int)}{G:LH},FRi h m f G ->
  ∃b c G1 G2,mgetD m k (none,0,0)=(b,(mgetD f k []).length,c)/\dG qC 3 h (mgetD f k []) b c G1/\G.Perm (G1++G2) /\
   ∀b' c' xs' G1',dG qC 3 h xs' b' c' G1'->∃G',FRi h (mput m k (b',xs'.length,c')) (mput f k xs') G'/\G'.Perm (G1'++G2)
 |[],[],G,e=>by
  subst e
  refine⟨none,0,[],[],U,dG.nil,List.Perm.refl _,λb' c' xs' G1' hG=>⟨G1',⟨U,U,G1',[],by simp,hG,U⟩,by simp⟩⟩
 |(k0,x)::m,(k',xs)::f,G,⟨e,hn,G1,G2,hG,hg,t⟩=>by
  subst e hG
  by_cases hk:k=k0
  .subst hk
   refine⟨x.1,x.2.2,G1,G2,?_,?_,List.Perm.refl _,λb' c' xs' G1' hG'=>⟨G1'++G2,?_,List.Perm.refl _⟩⟩
   .simp[mgetD,mget?,←hn]
   .simpa[mgetD,mget?]using hg
   simp only[mput,if_true]
   exact⟨U,U,G1',G2,U,hG',t⟩
  obtain⟨b,c,H1,H2,h1,h2,h3,h4⟩:=FRi.get k t
  refine⟨b,c,H1,G1++H2,?_,?_,?_,λb' c' xs' G1' hG'=>?_⟩
  .simpa[mgetD,mget?,hk]using h1
  .simpa[mgetD,mget?,hk]using h2
  .refine(List.Perm.append_left G1 h3).trans ?_
   rw[←qE,←qE];exact List.Perm.append_right H2 jJ
  obtain⟨G',g1,g2⟩:=h4 b' c' xs' G1' hG'
  refine⟨G1++G',?_,?_⟩
  .simp only[mput,hk,if_false]
   exact⟨U,hn,G1,G',U,hg,g1⟩
  refine(List.Perm.append_left G1 g2).trans ?_
  rw[←qE,←qE];exact List.Perm.append_right H2 jJ
 |[],(_,_)::_,_,x=>x.elim
 |(_,_)::_,[],_,x=>x.elim
theorem FRi.keys{h:HF}:∀{m:List (Int×Option Addr×Nat×Nat)}{f:List (Int×List Int)}{G:LH},FRi h m f G->m.map (·.1)=f.map (·.1)
  |[],[],_,_=>rfl
  |(_,_)::_,(_,_)::_,_,⟨a,_,_,_,_,_,t⟩=>by simp[a,FRi.keys t]
  |[],(_,_)::_,_,x=>x.elim
  |(_,_)::_,[],_,x=>x.elim
theorem FRi.mem{h:HF}:∀{m:List (Int×Option Addr×Nat×Nat)}{f:List (Int×List Int)}{G:LH},FRi h m f G->(m.map (·.1)).Nodup->∀p∈m,p.2.2.1=(mgetD f p.1 []).length/\∃G1,(∀q∈G1,q∈G)/\dG qC 3 h (mgetD f p.1 []) p.2.1 p.2.2.2 G1
 |[],[],_,_,_,_,hp=>(kA hp).elim
 |(k,x)::m,(k',xs)::f,G,⟨e,hn,G1,G2,hG,hg,t⟩,hnd,p,hp=>by
  subst e hG
  rw[xK,xR]at hnd
  rcases kB.1 hp with rfl|hp
  .exact⟨by simp[mgetD,mget?,hn],G1,λq hq=>List.mem_append_left _ hq,by simpa[mgetD,mget?]using hg⟩
  have hne:¬p.1=k:=λe=>hnd.1 (by have h9:=vP (f:=(·.1)) hp;rw[e]at h9;exact h9)
  obtain⟨h1,H,h2,h3⟩:=FRi.mem t hnd.2 p hp
  exact⟨by simpa[mgetD,mget?,hne]using h1,H,λq hq=>List.mem_append_right _ (h2 q hq),by simpa[mgetD,mget?,hne]using h3⟩
 |[],(_,_)::_,_,x,_,_,_=>x.elim
 |(_,_)::_,[],_,x,_,_,_=>x.elim
theorem Ha{α : Type}:∀{f:List (Int×α)}(z:α),(f.map (·.1)).Nodup->f=f.map λp=>(p.1,mgetD f p.1 z)
 |[],_,_=>rfl
 |(k,x)::f,z,hn=>by
  rw[xK,xR]at hn
  rw[xK]
  congr 1
  .simp[mgetD,mget?]
  have ih:=Ha z hn.2
  conv=>lhs;rw[ih]
  apply List.map_congr_left
  intro p hp
  have hne:¬p.1=k:=λe=>hn.1 (by have h9:=vP (f:=(·.1)) hp;rw[e]at h9;exact h9)
  simp[mgetD,mget?,hne]
theorem Hw{h:HF}{h2:HF}(g:Int->List Int):∀{es:List MapEntry}{m:List (Int×Option Addr×Nat×Nat)},oK (xC .i64) V3i h es m ->
    (∀p∈m,p.2.2.1=(g p.1).length/\SlC qC h2 p.2.1 p.2.2.2 (g p.1))->oK (xC .i64) (VSl qC) h2 es (m.map λp=>(p.1,g p.1))
  |[],[],_,_=>trivial
  |e::es,(k,x)::m,⟨a,b,c⟩,hg=>by
    obtain⟨h1,h3⟩:=hg (k,x) (zB ..)
    refine⟨a,⟨x.1,x.2.2,?_,h3⟩,Hw g c λp hp=>hg p (vA _ hp)⟩
    rw[show e.val=.slice x.1 x.2.1 x.2.2 from b,h1]
  |[],_::_,x,_=>x.elim
  |_::_,[],x,_=>x.elim
theorem FRi.frozen{h h2:HF}{o:Obj}{m:List (Int×Option Addr×Nat×Nat)}{f:List (Int×List Int)}{G:LH}(hm:ja (xC .i64) V3i h o m)(hf:FRi h m f G)(hl:h.le h2)(hG:∀p∈G,h2 p.1=some p.2):
  ja (xC .i64) (VSl qC) h2 o f:=by
 have hnd:=hm.nodup
 have hk:=hf.keys
 obtain⟨m',hp,hn,es,c,rfl,hE,h1,h3⟩:=hm
 have hmem:=hf.mem hnd
 have hfe:=Ha (f:=f) [] (hk▸hnd)
 have hfm:f=m.map λp=>(p.1,mgetD f p.1 []):=by
  have e1:(f.map λp=>(p.1,mgetD f p.1 []))=(f.map (·.1)).map λk=>(k,mgetD f k []):=by rw[List.map_map];rfl
  have e2:(m.map λp=>(p.1,mgetD f p.1 []))=(m.map (·.1)).map λk=>(k,mgetD f k []):=by rw[List.map_map];rfl
  rw[e2,hk,←e1];exact hfe
 refine⟨m'.map λp=>(p.1,mgetD f p.1 []),?_,?_,es,c,U,Hw (λk=>mgetD f k []) hE λp hp'=>?_,h1,h3⟩
 .have hpm:=hp.map λp=>(p.1,mgetD f p.1 ([]:List Int))
  rw[←hfm]at hpm;exact hpm
 .rw[List.map_map];exact hn
 obtain⟨h5,G1,h6,h7⟩:=hmem p (hp.mem_iff.1 hp')
 exact⟨h5,h7.frozen vG hl λq hq=>hG q (h6 q hq)⟩
section
variable {b0:Frame} {n:Nat} {ops:Array Oper} {F:List Frame->(Machine->Prop)->Prop} {ds:List Deferred} {X:Cx} {e:Env} {h h':HF} {L:LH} {l:List Document} {lb:Option Addr} {lc_z:Nat} {sg:List Int} {sb:Option Addr} {sc:Nat} {at_:Int} {q4:Addr} {a b c d f g t:Bool} {ty:TypeId} {pos:String} {af:Array Edge}
theorem Ri(hl:SlC vR h lb lc_z l)(hI:PlI h l lb lc_z sg sb sc at_ q4 false b c d f g t e h' L):
    Stp prog b0 n ops F ds X ⟨some 17,.call ⟨.value (.func 150),#[.tmp 16],#[27]⟩,ty,pos,af,none⟩ e h' L (λe2 h2 L2=>Jst h [] h2 L2/\PlI h l lb lc_z sg sb sc at_ q4 true b c d f g t e2 h2 L2):=by
  obtain⟨hv,hle,⟨k2,k4,k16,k18,k20,k23⟩,sq,b5,b8,b9,b12,b11,x1,x5,x8,x9,x12,x10,x11,hL⟩:=hI
  cases g<;>cases t<;>simp at hv
  refine cS call150 (pD h' l lb lc_z (hl.mono zH hle)) (congrArg (λx=>[x]) k16) (λv h2 hl2 hp=>?_)
  obtain⟨r2,rfl,ok2⟩:=hp
  exact⟨⟨zF hle hl2,λ_ hp=>(kA hp).elim⟩,U,zF hle hl2,⟨k2,k4,k16,k18,k20,k23⟩,r2,b5,b8,b9,b12,b11,λ_=>⟨U,ok2⟩,x5,x8,x9,x12,λh=>(by cases h),λh=>(by cases h),hL⟩
theorem Rh(hn:l.length<20)(hI:PlI h l lb lc_z sg sb sc at_ q4 a false c d f g t e h' L):
    Stp prog b0 n ops F ds X ⟨some 21,.makeSlice 57 (.tmp 20) (.tmp 20),ty,pos,af,none⟩ e h' L (λe2 h2 L2=>Jst h [] h2 L2/\PlI h l lb lc_z sg sb sc at_ q4 a true c d f g t e2 h2 L2):=by
  obtain⟨hv,hle,⟨k2,k4,k16,k18,k20,k23⟩,sq,b5,b8,b9,b12,b11,x1,x5,x8,x9,x12,x10,x11,hL⟩:=hI
  cases g<;>cases t<;>simp at hv
  refine GL rW zc4 ty4 bytes4 k20 k20 ob ob (λbk=>?_)
  exact⟨⟨hle,λ_ hp=>(kA hp).elim⟩,U,hle,⟨k2,k4,k16,k18,k20,k23⟩,sq,bk,b8,b9,b12,b11,x1,λ_=>U,x8,x9,x12,λh=>(by cases h),λh=>(by cases h),
    (List.Perm.cons _ hL).trans (pmid (pmid (pmid (pmid (List.Perm.refl _)))))⟩
theorem Rg(hn:l.length<20)(hI:PlI h l lb lc_z sg sb sc at_ q4 a b false d f g t e h' L):
    Stp prog b0 n ops F ds X ⟨some 24,.makeSlice 31 (.tmp 23) (.tmp 23),ty,pos,af,none⟩ e h' L (λe2 h2 L2=>Jst h [] h2 L2/\PlI h l lb lc_z sg sb sc at_ q4 a b true d f g t e2 h2 L2):=by
  obtain⟨hv,hle,⟨k2,k4,k16,k18,k20,k23⟩,sq,b5,b8,b9,b12,b11,x1,x5,x8,x9,x12,x10,x11,hL⟩:=hI
  cases g<;>cases t<;>simp at hv
  refine GL dY zc3 ty3 bytes3 k23 k23 ob ob (λbk=>?_)
  exact⟨⟨hle,λ_ hp=>(kA hp).elim⟩,U,hle,⟨k2,k4,k16,k18,k20,k23⟩,sq,b5,bk,b9,b12,b11,x1,x5,λ_=>U,x9,x12,λh=>(by cases h),λh=>(by cases h),
    (List.Perm.cons _ hL).trans (pmid (pmid (pmid (List.Perm.refl _))))⟩
theorem Rf(hI:PlI h l lb lc_z sg sb sc at_ q4 a b c false f g t e h' L):
    Stp prog b0 n ops F ds X ⟨some 25,.makeMap 236 none,ty,pos,af,none⟩ e h' L (λe2 h2 L2=>Jst h [] h2 L2/\PlI h l lb lc_z sg sb sc at_ q4 a b c true f g t e2 h2 L2):=by
  obtain⟨hv,hle,⟨k2,k4,k16,k18,k20,k23⟩,sq,b5,b8,b9,b12,b11,x1,x5,x8,x9,x12,x10,x11,hL⟩:=hI
  cases g<;>cases t<;>simp at hv
  refine nC (λbk=>?_)
  exact⟨⟨hle,λ_ hp=>(kA hp).elim⟩,U,hle,⟨k2,k4,k16,k18,k20,k23⟩,sq,b5,b8,bk,b12,b11,x1,x5,x8,λ_=>U,x12,λh=>(by cases h),λh=>(by cases h),
    (List.Perm.cons _ hL).trans (pmid (pmid (List.Perm.refl _)))⟩
theorem QW(hI:PlI h l lb lc_z sg sb sc at_ q4 a b c d false g t e h' L):
    Stp prog b0 n ops F ds X ⟨some 7,.alloc 211,ty,pos,af,none⟩ e h' L (λe2 h2 L2=>Jst h [] h2 L2/\PlI h l lb lc_z sg sb sc at_ q4 a b c d true g t e2 h2 L2):=by
  obtain⟨hv,hle,⟨k2,k4,k16,k18,k20,k23⟩,sq,b5,b8,b9,b12,b11,x1,x5,x8,x9,x12,x10,x11,hL⟩:=hI
  refine AL zc211 (λbk=>?_)
  exact⟨⟨hle,λ_ hp=>(kA hp).elim⟩,hv,hle,⟨k2,k4,k16,k18,k20,k23⟩,sq,b5,b8,b9,bk,b11,x1,x5,x8,x9,λ_=>U,x10,x11,
    (List.Perm.cons _ hL).trans (pmid (List.Perm.refl _))⟩
theorem QY(ha:(a&&b&&c&&d)=true)(hI:PlI h l lb lc_z sg sb sc at_ q4 a b c d f false t e h' L):
    Stp prog b0 n ops F ds X ⟨some 26,.build 238 #[(0,.tmp 17),(1,.tmp 18),(2,.tmp 21),(3,.tmp 24),(4,.tmp 25)],ty,pos,af,none⟩ e h' L (λe2 h2 L2=>Jst h [] h2 L2/\PlI h l lb lc_z sg sb sc at_ q4 a b c d f true t e2 h2 L2):=by
  obtain⟨hv,hle,⟨k2,k4,k16,k18,k20,k23⟩,sq,b5,b8,b9,b12,b11,x1,x5,x8,x9,x12,x10,x11,hL⟩:=hI
  cases a<;>cases b<;>cases c<;>cases d<;>simp at ha
  cases t<;>simp at hv
  obtain⟨x1,o1⟩:=x1 rfl
  replace x5:=x5 rfl
  replace x8:=x8 rfl
  replace x9:=x9 rfl
  refine HB [(17,_),(18,_),(21,_),(24,_),(25,_)] ⟨x1,k18,x5,x8,x9,trivial⟩ ?_
  have hc:ft.cells (playP l sg) (playR l.length sq sb sc b5 b8 b9)=[.slice sq.FD (aB l).docs.length sq.FC,.map (some sq.Ka),.slice sb sg.length sc,.slice (some ⟨b5,0,none⟩) l.length l.length,.slice (some ⟨b8,0,none⟩) l.length l.length,.map (some b9)]:=by simp[ft.cells,playP,playR]
  exact fN (cells:=[.slice sq.FD (aB l).docs.length sq.FC,.map (some sq.Ka),.slice sb sg.length sc,.slice (some ⟨b5,0,none⟩) l.length l.length,.slice (some ⟨b8,0,none⟩) l.length l.length,.map (some b9)]) (places:=[(0,2),(2,1),(3,1),(4,1),(5,1)]) underlying238 zc238 kr kr (⟨⟨hle,λ_ hp=>(kA hp).elim⟩,U,hle,⟨k2,k4,k16,U,k20,k23⟩,sq,b5,b8,b9,b12,b11,λ_=>⟨U,o1⟩,λ_=>U,λ_=>U,λ_=>U,x12,λ_=>(congrArg (λz:List Value=>Value.agg z.toArray) hc).symm,λh=>(by cases h),hL⟩)
theorem QX(hI:PlI h l lb lc_z sg sb sc at_ q4 a b c d f true false e h' L):
    Stp prog b0 n ops F ds X ⟨some 27,.box 238 (.tmp 26),ty,pos,af,none⟩ e h' L (λe2 h2 L2=>Jst h [] h2 L2/\PlI h l lb lc_z sg sb sc at_ q4 a b c d f true true e2 h2 L2):=by
  obtain⟨hv,hle,⟨k2,k4,k16,k18,k20,k23⟩,sq,b5,b8,b9,b12,b11,x1,x5,x8,x9,x12,x10,x11,hL⟩:=hI
  replace x10:=x10 rfl
  refine HB [(26,_)] ⟨x10,trivial⟩ (QU (λbk=>?_))
  exact⟨⟨hle,λ_ hp=>(kA hp).elim⟩,hv,hle,⟨k2,k4,k16,k18,k20,k23⟩,sq,b5,b8,b9,b12,bk,x1,x5,x8,x9,x12,λ_=>U,λ_=>U,List.Perm.cons _ hL⟩
end
theorem PA{i:Nat}{a b c d f g t:Bool}(h:i∈plN a b c d f g t):(i=1/\a=false)\/(i=5/\b=false)\/(i=8/\c=false)\/(i=9/\d=false)\/(i=10/\(a&&b&&c&&d)=true/\g=false)\/(i=11/\g=true/\t=false)\/(i=12/\f=false)\/(a=true/\b=true/\c=true/\d=true/\f=true/\g=true/\t=true):=by
 simp only[plN,qH]at h
 rcases h with h|h|h|h|h|h|h|h
 .cases a with
  |true=>simp at h
  |false=>simp at h;exact .inl ⟨h,rfl⟩
 .cases b with
  |true=>simp at h
  |false=>simp at h;exact .inr (.inl ⟨h,rfl⟩)
 .cases c with
  |true=>simp at h
  |false=>simp at h;exact .inr (.inr (.inl ⟨h,rfl⟩))
 .cases d with
  |true=>simp at h
  |false=>simp at h;exact .inr (.inr (.inr (.inl ⟨h,rfl⟩)))
 .cases g with
  |true=>simp at h
  |false=>
   cases hh:(a&&b&&c&&d)with
   |false=>rw[hh]at h;simp at h
   |true=>rw[hh]at h;simp at h;exact .inr (.inr (.inr (.inr (.inl ⟨h,rfl,rfl⟩))))
 .cases g with
  |false=>simp at h
  |true=>
   cases t with
   |true=>simp at h
   |false=>simp at h;exact .inr (.inr (.inr (.inr (.inr (.inl ⟨h,rfl,rfl⟩)))))
 .cases f with
  |true=>simp at h
  |false=>simp at h;exact .inr (.inr (.inr (.inr (.inr (.inr (.inl ⟨h,rfl⟩))))))
 cases a<;>cases b<;>cases c<;>cases d<;>cases f<;>cases g<;>cases t<;>simp at h
 exact .inr (.inr (.inr (.inr (.inr (.inr (.inr ⟨U,U,U,U,U,U,U⟩))))))
theorem Og{a b c d f g t:Bool}(h:plM a b c d f g t=0):a=true/\b=true/\c=true/\d=true/\f=true/\g=true/\t=true:=by
  cases a<;>cases b<;>cases c<;>cases d<;>cases f<;>cases g<;>cases t<;>simp[plM]at h<;>simp
structure we(h:HF)(n b5 b8 br:Nat)(P:ft)(om:Obj)(m3:List (Int×Option Addr×Nat×Nat))(Gf:LH):Prop where
  done:P.done.length=n
  lacks:P.lacks.length=n
  map:ja (xC .i64) V3i h om m3
  rev:FRi h m3 P.revoked Gf
theorem we.mono{h h':HF}{n b5 b8 br:Nat}{P:ft}{om:Obj}{m3:List (Int×Option Addr×Nat×Nat)}{Gf:LH}(o:we h n b5 b8 br P om m3 Gf)(hl:h.le h'):we h' n b5 b8 br P om m3 Gf:=
  ⟨o.done,o.lacks,o.map.mono V3i.mono hl,o.rev.mono hl⟩
theorem Dh(h:HF):∀xs:List Bool,bI aAT h (xs.map aAB) xs
  |[]=>rfl
  |x::xs=>⟨[.bool x],xs.map aAB,rfl,rfl,rfl,Dh h xs⟩
theorem CX(h:HF):∀xs:List Int,bI qC h (xs.map (xC .i64)) xs
  |[]=>rfl
  |x::xs=>⟨[I x],xs.map (xC .i64),rfl,rfl,rfl,CX h xs⟩
theorem we.lent{h h1:HF}{n b5 b8 br:Nat}{P:ft}{om:Obj}{m3:List (Int×Option Addr×Nat×Nat)}{Gf:LH}{sq:nP}{sb:Option Addr}{sc:Nat}(o:we h n b5 b8 br P om m3 Gf)(hn:n<20)(hs:gM.ok h P.shelf sq)(hg:SlC qC h sb sc P.signed)(hl:h.le h1)(hL:∀p∈plB b5 b8 br P om Gf,h1 p.1=some p.2):ft.ok h1 P (playR n sq sb sc b5 b8 br):=by
  have h5:=hL (b5,.cells (P.done.map aAB).toArray 4 (0,0)) (by simp[plB])
  have h8:=hL (b8,.cells (P.lacks.map (xC .i64)).toArray 3 (0,0)) (by simp[plB])
  have hr:=hL (br,om) (by simp[plB])
  have hd:=o.done
  have hk:=o.lacks
  exact⟨hs.mono hl,hg.mono vG hl,bI.slB0 (Dh h1 _) h5 ob (by rw[hd];exact xG _),bI.slB0 (CX h1 _) h8 ob (by rw[hk];exact xG _),
    ⟨om,hr,FRi.frozen o.map o.rev hl (λp hp=>hL p (by simp[plB,hp]))⟩⟩
theorem F9(l:List Document):(aB l).docs=l:=by
  have:∀(s:List Document)(i:Nat)(g:List (Int×Int)),(aB.L1 (aB.K1 l) s i g).docs=l:=by
    intro s
    induction s with
    |nil=>intro i g;rfl
    |cons y s ih=>intro i g;exact ih _ _
  exact this _ _ _
theorem Ja(l:List Document)(hl:0<l.length)(k:Int):0<=mgetD (aB l).at_ k 0/\mgetD (aB l).at_ k 0<(l.length:Int):=by
  have key:∀(s:List Document)(i:Nat)(g:List (Int×Int)),i+s.length=l.length->(∀p∈g,0<=p.2/\p.2<(l.length:Int))->∀p∈(aB.L1 (aB.K1 l) s i g).at_,0<=p.2/\p.2<(l.length:Int):=by
    intro s
    induction s with
    |nil=>intro i g _ hg;exact hg
    |cons y s ih=>
      intro i g hi hg
      simp only[zA]at hi
      exact ih (i+1) _ ob (uy (P:=λx:Int=>0<=x/\x<(l.length:Int)) _ hg ob)
  exact yk (P:=λx:Int=>0<=x/\x<(l.length:Int)) k (key l 0 [] (by simp) (λ_ h=>(kA h).elim)) ob
theorem zo{α : Type}(f:α->Value)(xs:List α)(k:Nat)(y:α):splice (xs.map f) (k*1) [f y]=(xs.set k y).map f:=by
  simp[splice,ma,List.map_set]
theorem EH{l:List Document}{sg:List Int}{P:ft}{r:sV}(h1:P.shelf=aB l)(h2:P.signed=sg)(h3:P.done.length=l.length)(h4:P.lacks.length=l.length):ft.cells P r=ft.cells (playP l sg) r:=by
  simp[ft.cells,playP,h1,h2,h3,h4]
theorem w5(sg:List Int)(i:Int)(no:Int)(P:ft):(playLack sg i P no).shelf=P.shelf/\(playLack sg i P no).signed=P.signed/\(playLack sg i P no).done=P.done/\(playLack sg i P no).lacks.length=P.lacks.length/\(playLack sg i P no).revoked=P.revoked:=by
  unfold playLack
  cases(cH P (mgetD P.shelf.at_ no 0) (nthI sg i)).1 != 0<;>simp
theorem AO{d:Document}{Q_z:ft}{y:Int}{P:List (Int×List Int)}{i:Nat}(h:∀k,(mgetD Q_z.revoked k []).length<=(mgetD P k []).length+i):∀k,(mgetD (playRevoke d Q_z y).revoked k []).length<=(mgetD P k []).length+(i+1):=λk=>by
 show(mgetD (mput Q_z.revoked y (mgetD Q_z.revoked y []++[d.No])) k []).length<=_
 rw[zU]
 split
 .next hk=>subst hk;have:=h k;simp only[jA,zA,jB];omega
 have:=h k;omega
theorem rn(h:HF)(l:List Document)(eP:Option Addr)(eO:Nat)(signed:List Int)(bZ:Option Addr)(bY:Nat)(bp:Int)(hl:SlC vR h eP eO l)(hsigned:SlC qC h bZ bY signed)(hck:bh l=0)(hsg:signed.length=l.length)(hln:l.length<20):
  j1 prog 126 [.slice eP l.length eO,.slice bZ signed.length bY,I bp] h (λv h'=>∃(rq0:Addr)(rr0:sV),v=.pointer (some rq0)/\ft.ok h' (cv l signed bp) rr0/\At h' rq0 (ft.cells (cv l signed bp) rr0)):=by
 refine cJ func126 U ntmps126 U λX hM hX=>?_
 refine sr (cy (λb4=>an ?_))
 refine eR 0 U hM (λh1 l1 f4=>?_)
 have a4:=cA f4
 show TT _ _ _ _ _ _ _ _ h1 []
 refine el (eM [] mixed kr jn (λhsep _=>?_))
 refine tm 0 U (tf 2 U U (rh ty31 a4 U) (tm 3 U (tf 4 U U (λ_ _ _=>I2 nA U) (tm 6 U (tf 7 U U (λ_ _ _=>I2 nA U) ?_)))))
 refine Qn (σ:=Bool×Bool×Bool×Bool×Bool×Bool×Bool) 1 (λs e2 h2 L2=>PlI h1 l eP eO signed bZ bY bp ⟨b4,0,none⟩ s.1 s.2.1 s.2.2.1 s.2.2.2.1 s.2.2.2.2.1 s.2.2.2.2.2.1 s.2.2.2.2.2.2 e2 h2 L2)
  (λs=>plM s.1 s.2.1 s.2.2.1 s.2.2.2.1 s.2.2.2.2.1 s.2.2.2.2.2.1 s.2.2.2.2.2.2) (λs=>plD s.1 s.2.1 s.2.2.1 s.2.2.2.1 s.2.2.2.2.1 s.2.2.2.2.2.1 s.2.2.2.2.2.2) ?_ ?_ 7 (false,false,false,false,false,false,false) _ _ _ rfl
  ⟨rfl,qP _,⟨rfl,rfl,rfl,rfl,rfl,rfl⟩,⟨none,0,0⟩,0,0,0,0,0,λh=>(by cases h),λh=>(by cases h),λh=>(by cases h),λh=>(by cases h),λh=>(by cases h),λh=>(by cases h),λh=>(by cases h),List.Perm.refl _⟩
 .rintro⟨a,b,c,d,f,g,t⟩ e2 h2 L2 hI hμ
  obtain⟨e1,e2',e3,e4,e5,e6,e7⟩:=Og hμ
  dsimp only at e1 e2' e3 e4 e5 e6 e7
  subst e1 e2' e3 e4 e5 e6 e7
  obtain⟨_,hle,⟨k2,k4,_,_,_,_⟩,sr0,b5,b8,br,b12,b11,x1,_,_,_,x12,_,x11,hL⟩:=hI
  obtain⟨_,oks⟩:=x1 rfl
  have k7:=x12 rfl
  have k27:=x11 rfl
  clear x1 x12 x11
  dsimp only at k7 k27 oks hL k2 k4
  have J2:∀{L:LH},Jst h1 [] h2 L:=⟨hle,λ_ hp=>(kA hp).elim⟩
  refine tn 13 U (Ef hL (HB [(7,Q b12),(27,Q b11)] ⟨k7,k27,trivial⟩ (ku 1 (off:=0) (vs:=[Q b11]) ty211 U U U U (by rfl) U ⟨J2,aV kr (Ql [(2,I bp),(4,Q b4),(7,Q b12)] ⟨k2,k4,U,trivial⟩ (eR 1 U hM (λh3 l3 f12=>eR 0 U hM (λh4 l4 f11=>?_))))⟩)))
  have A7:=(cA f12).mono l4
  have A11:=cA f11
  have l24:h2.le h4:=zF l3 l4
  have l04:h.le h4:=zF l1 (zF hle l24)
  replace oks:=oks.mono l24
  replace a4:=a4.mono (zF hle l24)
  clear f12 f11 l3 l4 J2 hL k2 k4 k7 k27
  refine lH (L':=plB b5 b8 br (playP l signed) (.map #[] 0) []) (by
   have h9:plB b5 b8 br (playP l signed) (.map #[] 0) []=[(b5,.cells (List.replicate l.length (.bool false)).toArray 4 (0,0)),(b8,.cells (List.replicate l.length (I 0)).toArray 3 (0,0)),(br,.map #[] 0)]:=by simp[plB,playP,List.map_replicate]
   rw[h9]
   exact List.reverse_perm [(b5,O (List.replicate l.length (.bool false)) 4),(b8,.cells (List.replicate l.length (I 0)).toArray 3 (0,0)),(br,.map #[] 0)]) ?_
  have hl4:=hl.mono zH l04
  have hs4:=hsigned.mono vG l04
  refine qT 3 U (dh ty211 A7 U (av (aC (cS call215 (sP h4 (playP l signed) (playR l.length sr0 bZ bY b5 b8 br) ⟨b11,0,none⟩ bp ⟨hs4⟩ A11 (by show signed.length<20;omega)) U (λv5 h5 l5 hp=>?_)))))
  obtain⟨rv,rfl,hit⟩:=hp
  refine qO 2 U (et ?_)
  have hord:=IR (playP l signed) bp
  have hordl:=IQ (playP l signed) bp
  have hsl:(playP l signed).signed.length=l.length:=hsg
  replace a4:=a4.mono l5
  replace A7:=A7.mono l5
  replace A11:=A11.mono l5
  replace hl4:=hl4.mono zH l5
  replace hs4:=hs4.mono vG l5
  replace oks:=oks.mono l5
  have hdr:=Hn hck
  refine j3 (it:=v5) (xs:=bP (playP l signed) bp) (ι:=ft×Obj×List (Int×Option Addr×Nat×Nat)×LH×HF) [] (λi=>i.2.2.2.2) (λi=>plB b5 b8 br i.1 i.2.1 i.2.2.2.1)
   (λrest i=>rest.foldl playStep i.1=cv l signed bp/\i.1.shelf=aB l/\i.1.signed=signed/\we i.2.2.2.2 l.length b5 b8 br i.1 i.2.1 i.2.2.1 i.2.2.2.1/\h5.le i.2.2.2.2/\(∀x∈rest,0<=x/\x<(l.length:Int))/\(∀k,(mgetD i.1.revoked k []).length+16*rest.length<=320))
   (λ_=>False) (λ_=>False) 0 (λ_ _ _=>False) (playP l signed,.map #[] 0,[],[],h5) func126 rfl hit rfl CW (λ_ _ _ _ _ hq=>hq) rfl rfl
   ⟨rfl,rfl,rfl,⟨by simp[playP],by simp[playP],ja.nil,rfl⟩,qP _,λx hx=>hsl▸hord x hx,λk=>by show 0+16*_<=320;omega⟩ ?_ ?_ (λ_ _ _ hF=>hF.elim) (λ_ _ _ hF=>hF.elim) (λ_ _ _ _ hF=>hF.elim)
  .rintro Rd r1 lp1 x rest vs1 ⟨P,om,m3,Gf,hh⟩ h7 X' FR ⟨hfold,hsh,hsgd,hown,h5h,hin,hcnt⟩ h57 hh7 hv hX' hXM hlp nx rt ex pn
   dsimp only at hfold hsh hsgd hown h5h hin hcnt hh7
   obtain rfl:=hv
   have hPl:P.signed.length=l.length:=by rw[hsgd];exact hsg
   have hD:=F9 l
   have hx0:=hin x (zB ..)
   have hx:0<=x/\x<((aB l).docs.length:Int):=by rw[hD];exact hx0
   have hxn:x.toNat<l.length:=by omega
   replace hown:=hown.mono hh7
   have oks7:=oks.mono h57
   have A7':=A7.mono h57
   have A11':=A11.mono h57
   have a4':=a4.mono h57
   have hs7:=hs4.mono vG h57
   have hpd:=hown.done
   have hpl:=hown.lacks
   clear hh7
   refine bE (ba zc3 (λbi=>cT 0 ty3 U U U U U U (aJ ?_)))
   let zi:Nat×Obj:=(bi,O [I x] 3)
   let zl:Nat×Obj:=(Rd,.loop { lp1 with state:=.busy })
   let zr:Nat×Obj:=(r1,.deferred (some []))
   refine jy 1 U hlp (lZ (cn (L':=[zi,zl,zr]++plB b5 b8 br P om Gf) (show[zi,zl,zr]++(plB b5 b8 br P om Gf++markB [])=_ from by simp[markB]) (el (eM [zi] mixed kr jn (λhs4 _=>?_)))))
   refine tf 0 U U (rh ty211 A7' U) (tf 1 U U (λ_ _ _=>fW U) (qB [2,3] U (tf 4 U U (rh ty27 A11' U) (tf 5 U U (rj 0 ty3 U U U) (jt 6 hs4 jn nA ty51 oks7.docs.1 hx (cN hx) U U U U kr (λq1 cs1 B1 ln1 rr1=>?_))))))
   obtain⟨dr,rfl,okd⟩:=rr1
   refine tf 7 U U (λ_ _ hj=>lM ty51 (B1.mono hj.1) U U) (tn 8 U (AL zc51 (λbd=>⟨jn,(tn 9 U (sf 0 ty51 U U U U U U ⟨jn,aV kr ?_⟩))⟩)))
   generalize hdd:nthI (aB l).docs x=d at okd B1
   let zd:Nat×Obj:=(bd,O (xN d dr) 51)
   have hdP:nthI P.shelf.docs x=d:=by rw[hsh];exact hdd
   have hdl:d∈l:=by have h9:=nZ hx;rw[hdd,hD]at h9;exact h9
   have hgd:=hdr d hdl
   show TT _ _ _ _ _ _ _ _ h7 ([zd,zi,zl,zr]++plB b5 b8 br P om Gf)
   refine el (eM [zd,zi] mixed kr jn (λhs5 _=>?_))
   refine tf 0 U U (rh ty211 A7' U) (tf 1 U U (λ_ _ _=>fW U) (qB [2] U (tf 3 U U (rH 4 ty31 A11' U U) (tf 4 U U (rj 1 ty3 U U U) (tf 5 U U (λ_ _ _=>ou (R:=qC) (xs:=P.lacks) (bk:=b8) (z:=x) dY ty3 U ob U (by simp[playP,hpl]) U) (tn 6 U (ku 5 (off:=x.toNat*1) (vs:=[I (-1)]) ty3 U U U U (Nat.ble_eq_true_of_le (by simp only[List.length_map,zA,jB];omega)) U ⟨jn,aV kr (cn (L':=[zd,zi,zl,zr]++plB b5 b8 br { P with lacks:=P.lacks.set x.toNat (-1) } om Gf) (by rw[zo (xC .i64)];rfl) ?_)⟩)))))))
   have own1:we h7 l.length b5 b8 br { P with lacks:=P.lacks.set x.toNat (-1) } om m3 Gf:=⟨hpd,by simpa using hpl,hown.map,hown.rev⟩
   refine qT 3 U (jY Ib U (nW 0 ty31 U U U (aC (cS call216 (uS h7 d.Needs _ _ okd.Needs) U (λv8 h8 l8 hp8=>?_)))))
   obtain⟨rv8,rfl,hit8⟩:=hp8
   refine qO 2 U ?_
   refine Mx (it:=v8) (xs:=iV d.Needs) 2 U (λdone h' L'=>h8.le h'/\we h' l.length b5 b8 br (done.foldl (λq(z:Int×Int)=>playLack P.signed x q z.2) { P with lacks:=P.lacks.set x.toNat (-1) }) om m3 Gf/\L'=[zd,zi,zl,zr]++plB b5 b8 br (done.foldl (λq(z:Int×Int)=>playLack P.signed x q z.2) { P with lacks:=P.lacks.set x.toNat (-1) }) om Gf)
    rfl hit8 rfl Dz (λ_ _ _ _ hl⟨a,b,c⟩=>⟨zF a hl,b.mono hl,c⟩) ⟨qP _,own1.mono l8,rfl⟩ ?_ ?_
   .rintro l2 lp2 done z rest2 vs2 h9 L9 X9 hxs h89 ⟨h89',own2,rfl⟩ hv2 hlp2 hX9 hXM9
    obtain rfl:=hv2
    obtain⟨Pm,hPm⟩:∃Pm,Pm=done.foldl (λq(z:Int×Int)=>playLack P.signed x q z.2) { P with lacks:=P.lacks.set x.toNat (-1) }:=⟨_,rfl⟩
    have hPs:Pm.shelf=aB l/\Pm.signed=signed:=by
     rw[hPm]
     have:∀(s:List (Int×Int))(QD:ft),QD.shelf=aB l/\QD.signed=signed->(s.foldl (λq(z:Int×Int)=>playLack P.signed x q z.2) QD).shelf=aB l/\(s.foldl (λq(z:Int×Int)=>playLack P.signed x q z.2) QD).signed=signed:=by
      intro s
      induction s with
      |nil=>intro QD h;exact h
      |cons y s ih=>intro QD h;obtain⟨a1,a2,_⟩:=w5 P.signed x y.2 QD;exact ih _ ⟨a1.trans h.1,a2.trans h.2⟩
     exact this _ _ ⟨hsh,hsgd⟩
    rw[←hPm]at own2
    have l79:h7.le h9:=zF l8 h89
    have A79:=A7'.mono l79
    have B79:=A11'.mono l79
    refine qT 3 U (jy 0 U hlp2 (lZ ?_))
    rw[←hPm]
    refine cn (L':=[(l2,.loop { lp2 with state:=.busy }),zd,zi,zl,zr]++plB b5 b8 br Pm om Gf) U (el (eM [zi] mixed kr jn (λhs8 _=>?_)))
    refine tf 0 U U (rh ty211 A79 U) (tf 1 U U (rh ty211 A79 U) (tf 2 U U (λ_ _ _=>fW U) (qB [3,4] U (tf 5 U U (rH 1 ty190 B79 U U) (tm 6 U (tf 8 U U (rh ty31 (a4'.mono l79) U) (tf 9 U U (rj 0 ty3 U U U) ?_)))))))
    have hxs:0<=x/\x<(signed.length:Int):=by omega
    refine eS 10 (enc:=λy=>[I y]) hs8 jn (λ_ _ _ e=>e) dY ty3 (hs7.mono vG l79).1 hxs (cN hxs) U U U U kr (λq3 B3=>?_)
    refine tf 11 U U (rh ty3 B3 U) ?_
    obtain⟨mo,hmb,hmm⟩:=(oks7.mono l79).at_
    refine tn 7 U (nD (k:=z.2) Av (fC m6) hmb hmm (e8 zv3) (show vm _ (I 0) 0 from U) U U (λv hv=>?_))
    obtain rfl:=hv
    refine⟨jn,?_⟩
    have hat:=Ja l ob z.2
    refine tn 12 U (N3 (v:=.tuple #[I (cH Pm (mgetD (aB l).at_ z.2 0) (nthI signed x)).1,I (cH Pm (mgetD (aB l).at_ z.2 0) (nthI signed x)).2]) call127 (λhz lz hall=>mj hz Pm (playR l.length sr0 bZ bY b5 b8 br) ⟨b11,0,none⟩ (mgetD (aB l).at_ z.2 0) (nthI signed x)
     (own2.lent hln (hPs.1▸oks7.mono l79) (hPs.2▸hs7.mono vG l79) lz (λp hp=>hall p (by simp only[qH,kB];exact .inr hp))) (by rw[EH hPs.1 hPs.2 own2.done own2.lacks];exact(A11'.mono l79).mono lz) (by rw[hPs.1,hD];exact hat) (by rw[hPs.1,hD];exact⟨own2.done,own2.lacks⟩)) rfl ⟨jn,?_⟩)
    refine qR 13 5 U (aV kr (qT 5 U ?_))
    have hlk:playLack P.signed x Pm z.2=bif(cH Pm (mgetD (aB l).at_ z.2 0) (nthI signed x)).1 != 0 then { Pm with lacks:=Pm.lacks.set x.toNat z.2 }else Pm:=by
     unfold playLack;rw[hPs.1,hsgd]
    have hnx:(done++[z]).foldl (λq(z:Int×Int)=>playLack P.signed x q z.2) { P with lacks:=P.lacks.set x.toNat (-1) }=playLack P.signed x Pm z.2:=by rw[List.foldl_append,hPm];rfl
    refine j8 U (λc1=>?_) (λc1=>qT 2 U ?_)
    .refine eM [zi] mixed kr jn (λhs9 _=>?_)
     refine tf 0 U U (rh ty211 A79 U) (tf 1 U U (λ_ _ _=>fW U) (qB [2] U (tf 3 U U (rH 4 ty31 B79 U U) (tf 4 U U (rj 0 ty3 U U U) (tm 5 U ?_)))))
     have hml:=own2.lacks
     refine tf 6 U U (λ_ _ _=>ou (R:=qC) (xs:=Pm.lacks) (bk:=b8) (z:=x) dY ty3 U ob U (by simp[playP,hml]) U) (tn 7 U (ku 6 (off:=x.toNat*1) (vs:=[I z.2]) ty3 U U U U (Nat.ble_eq_true_of_le (by simp only[List.length_map,zA,jB];omega)) U ⟨jn,aV kr (eF ?_)⟩))
     rw[c1,cond_true]at hlk
     refine cn (L':=(l2,.loop { lp2 with state:=.busy })::([zd,zi,zl,zr]++plB b5 b8 br { Pm with lacks:=Pm.lacks.set x.toNat z.2 } om Gf)) (by rw[zo (xC .i64)];rfl) ?_
     refine Lx U ⟨h89',?_,?_⟩
     .rw[hnx,hlk];exact⟨own2.done,by simpa using hml,own2.map,own2.rev⟩
     rw[hnx,hlk]
    rw[c1,cond_false]at hlk
    refine Lx U ⟨h89',?_,?_⟩
    .rw[hnx,hlk];exact own2
    rw[hnx,hlk];rfl
   rintro h9 L9 h89 ⟨h89',own2,rfl⟩
   obtain⟨Pm,hPm⟩:∃Pm,Pm=(iV d.Needs).foldl (λq(z:Int×Int)=>playLack P.signed x q z.2) { P with lacks:=P.lacks.set x.toNat (-1) }:=⟨_,rfl⟩
   rw[←hPm]at own2
   rw[←hPm]
   have hPs:Pm.shelf=aB l/\Pm.signed=signed/\Pm.revoked=P.revoked:=by
    rw[hPm]
    have:∀(s:List (Int×Int))(QD:ft),QD.shelf=aB l/\QD.signed=signed/\QD.revoked=P.revoked->(s.foldl (λq(z:Int×Int)=>playLack P.signed x q z.2) QD).shelf=aB l/\(s.foldl (λq(z:Int×Int)=>playLack P.signed x q z.2) QD).signed=signed/\(s.foldl (λq(z:Int×Int)=>playLack P.signed x q z.2) QD).revoked=P.revoked:=by
     intro s
     induction s with
     |nil=>intro QD h;exact h
     |cons y s ih=>intro QD h;obtain⟨a1,a2,_,_,a5⟩:=w5 P.signed x y.2 QD;exact ih _ ⟨a1.trans h.1,a2.trans h.2.1,a5.trans h.2.2⟩
    exact this _ _ ⟨hsh,hsgd,U⟩
   have hmid:playMid P x=Pm:=by unfold playMid;rw[hdP];exact hPm.symm
   have hstep:playStep P x=bif decide (nthI Pm.lacks x<0)then d.Revokes.foldl (playRevoke d) (playDone Pm x)else playDone Pm x:=by
    unfold playStep;rw[hmid,hdP]
   have l79:h7.le h9:=zF l8 h89
   have A79:=A7'.mono l79
   have B79:=A11'.mono l79
   have hmd:=own2.done
   have hml:=own2.lacks
   refine qT 2 U (eM [zd,zi] mixed kr jn (λhs11 _=>?_))
   refine tf 0 U U (rh ty211 A79 U) (tf 1 U U (λ_ _ _=>fW U) (qB [2] U (tf 3 U U (rH 3 ty57 B79 U U) (tf 4 U U (rj 1 ty3 U U U) (tf 5 U U (λ_ _ _=>ou (R:=aAT) (xs:=Pm.done) (bk:=b5) (z:=x) rW ty4 U ob U (by simp[playP,hmd]) U) (tn 6 U (ku 4 (off:=x.toNat*1) (vs:=[.bool true]) ty4 U U U U (Nat.ble_eq_true_of_le (by simp only[List.length_map,zA,jB];omega)) U ⟨jn,aV kr (cn (L':=[zd,zi,zl,zr]++plB b5 b8 br (playDone Pm x) om Gf) (by rw[zo aAB];rfl) ?_)⟩)))))))
   have own3:we h9 l.length b5 b8 br (playDone Pm x) om m3 Gf:=⟨by simpa[playDone]using hmd,hml,own2.map,own2.rev⟩
   have JB:∀{A:LH},Jst h9 [zi,(b8,.cells (Pm.lacks.map (xC .i64)).toArray 3 (0,0))] h9 ([zd,zi,zl,zr]++plB b5 b8 br (playDone Pm x) om A):=⟨qP _,λp hp=>by
    simp only[kB,kA,or_false]at hp
    rcases hp with rfl|rfl<;>simp[plB,playDone]⟩
   refine el (eM [zi,(b8,.cells (Pm.lacks.map (xC .i64)).toArray 3 (0,0))] mixed kr JB (λhs12 _=>?_))
   refine i9 0 hs12 JB U U kr U (rh ty211 A79 U) (i9 1 hs12 JB U U kr U (λ_ _ _=>fW U) (i9 2 hs12 JB U U kr U (λ_ _ _=>tx OS U) (i9 3 hs12 JB U U kr U (rH 4 ty31 B79 U U) (i9 4 hs12 JB U U kr U (rj 0 ty3 U U U) (i9 5 hs12 JB U U kr U (λ_ _ _=>ou (R:=qC) (xs:=Pm.lacks) (bk:=b8) (z:=x) dY ty3 U ob U (by simp[playP,hml]) U) ?_)))))
   have hlx:(Pm.lacks.map (xC .i64))[x.toNat*1]? = some (I (nthI Pm.lacks x)):=by
    rw[Nat.mul_one,List.getElem?_map,cN ob];rfl
   refine i9 6 hs12 JB U U kr U (λ_ _ hj=>zw ty3 U (hj.nth (i:=1) U) (by rw[im];exact hlx)) (i9 7 hs12 JB U U kr U (λ_ _ _=>Oc U) (aV kr ?_))
   have hin':∀y∈rest,0<=y/\y<(l.length:Int):=λy hy=>hin y (vA _ hy)
   have h59:h5.le h9:=zF h57 l79
   refine j8 U (λc1=>?_) (λc1=>qT 2 U ?_)
   .rw[c1,cond_true]at hstep
    have hrl:=hgd.revokes.2
    refine sr (jY PR U (nW 0 ty31 U U U (LG dY U (qO 2 U ?_))))
    have hfin:∀(QD:ft)(oQ:Obj)(mQ:List (Int×Option Addr×Nat×Nat))(GQ:LH)(e':Env),QD=d.Revokes.foldl (playRevoke d) (playDone Pm x)->we h9 l.length b5 b8 br QD oQ mQ GQ->QD.shelf=aB l->QD.signed=signed->(∀k,(mgetD QD.revoked k []).length<=(mgetD P.revoked k []).length+d.Revokes.length) ->
      TT prog (roundFrame Rd 126) 114 [.inBlock 1] FR e' [] X' h9 ([zd,zi,zl,zr]++plB b5 b8 br QD oQ GQ):=by
     intro QD oQ mQ GQ e' hQ ownQ hQs hQg hQc
     refine eF (bz (L':=[zl,zr]++plB b5 b8 br QD oQ GQ) js (cn (L':=rdH Rd r1 lp1 (plB b5 b8 br QD oQ GQ++markB [])) (by simp[markB,rdH,zl,zr]) ?_))
     refine nx (QD,oQ,mQ,GQ,h9) _ _ ⟨?_,hQs,hQg,ownQ,h59,hin',λk=>?_⟩ lf
     .rw[←hfold,aA1,hstep,hQ]
     have h1':=hcnt k
     have h2':=hQc k
     simp only[zA]at h1'
     show(mgetD QD.revoked k []).length+16*rest.length<=320
     omega
    refine iL (ι:=ft×Obj×List (Int×Option Addr×Nat×Nat)×LH) (λi=>[]) (λi=>h9) (λi=>[zd,zi,zl,zr]++plB b5 b8 br i.1 i.2.1 i.2.2.2)
     (λi=>i.1=d.Revokes.foldl (playRevoke d) (playDone Pm x)/\we h9 l.length b5 b8 br i.1 i.2.1 i.2.2.1 i.2.2.2/\i.1.shelf=aB l/\i.1.signed=signed/\∀k,(mgetD i.1.revoked k []).length<=(mgetD P.revoked k []).length+d.Revokes.length) ?_ (λhx4=>?_)
    .rintro⟨QD,oQ,mQ,GQ⟩ ⟨q1,q2,q3,q4,q5⟩ e4
     exact hfin QD oQ mQ GQ _ q1 q2 q3 q4 q5
    refine kg (ι:=Nat×ft×Obj×List (Int×Option Addr×Nat×Nat)×LH) (λi=>[(7,Q b12),(9,Q bd),(91,.slice dr.pN d.Revokes.length dr.pM),(92,I (d.Revokes.length:Int)),(93,I (i.1:Int))]) (λi=>h9)
     (λi=>[zd,zi,zl,zr]++plB b5 b8 br i.2.1 i.2.2.1 i.2.2.2.2)
     (λi=>(d.Revokes.drop i.1).foldl (playRevoke d) i.2.1=d.Revokes.foldl (playRevoke d) (playDone Pm x)/\i.1<=d.Revokes.length/\we h9 l.length b5 b8 br i.2.1 i.2.2.1 i.2.2.2.1 i.2.2.2.2/\i.2.1.shelf=aB l/\i.2.1.signed=signed/\∀k,(mgetD i.2.1.revoked k []).length<=(mgetD P.revoked k []).length+i.1)
     (λi=>d.Revokes.length-i.1) (0,playDone Pm x,om,m3,Gf) rd (λw hw=>hw) ⟨rfl,jL _,own3,hPs.1,hPs.2.1,λk=>by show(mgetD Pm.revoked k []).length<=_;rw[hPs.2.2];omega⟩ ?_
    rintro⟨i,QD,oQ,mQ,GQ⟩ ⟨hfQ,hiQ,ownQ,hQs,hQg,hQc⟩ ag e5
    dsimp only at hfQ hiQ ownQ hQs hQg hQc
    show TT _ _ _ _ _ (upds e5 [(7,Q b12),(9,Q bd),(91,.slice dr.pN d.Revokes.length dr.pM),(92,I (d.Revokes.length:Int)),(93,I (i:Int))]) _ _ h9 ([zd,zi,zl,zr]++plB b5 b8 br QD oQ GQ)
    rcases jP i d.Revokes.length with hi|hi
    .have hgi:d.Revokes[i]? = some d.Revokes[i]:=List.getElem?_eq_getElem hi
     obtain⟨y,hy⟩:∃y,d.Revokes[i]=y:=⟨_,rfl⟩
     rw[hy]at hgi
     have hdrop:d.Revokes.drop i=y::d.Revokes.drop (i+1):=by rw[List.drop_eq_getElem_cons hi,hy]
     rw[hdrop,aA1]at hfQ
     obtain⟨gb,gc,G1,G2,hget,hgrow,hperm,hput⟩:=ownQ.rev.get y
     have hcy:=hQc y
     have hcP:=hcnt y
     refine sr (tO (decide_eq_true ob) U (qO 8 U (aC (na (enc:=λy=>[I y]) (λ_ _ _ e=>e) dY ty3 (okd.Revokes.mono vG l79).1 (nthZ hgi) (fq hgi) U U U (λq6 B6=>?_)))))
     refine dh ty3 B6 U (an (eM [zd] mixed kr jn (λhs16 _=>?_)))
     refine tf 0 U U (rh ty211 A79 U) (tf 1 U U (λ_ _ _=>fW U) (qB [2] U (tf 3 U U (rH 5 ty236 B79 U U) (tm 4 U (tf 5 U U (rh ty211 A79 U) (tf 6 U U (λ_ _ _=>fW U) (qB [7] U (tf 8 U U (rH 5 ty236 B79 U U) (qB [9,11] U (tf 12 U U (rj 0 ty3 U U U) ?_))))))))))
     refine nT 10 13 kr U U ?_ ?_
     .refine oN 6 (k:=y) Iv (fC m6) U ownQ.map (e8 zv31) (show V3i _ (.slice none 0 0) (none,0,0)from U) U U (λv hv=>?_)
      rw[hget]at hv
      obtain rfl:=hv
      refine⟨jn,(tn 13 U (bK (cells:=[I d.No]) dY ty3 zc3 U U kr (λbn=>⟨jn,?_⟩)))⟩
      let zn:Nat×Obj:=(bn,O [I d.No] 3)
      let z5:Nat×Obj:=(b5,O (QD.done.map aAB) 4)
      refine tn 14 U (Ef (List.Perm.append_left ([zn,zd,zi,zl,zr,z5,(b8,.cells (QD.lacks.map (xC .i64)).toArray 3 (0,0)),(br,oQ)]:LH) hperm) (dK aBI [zn,zd,zi,zl,zr,z5,(b8,.cells (QD.lacks.map (xC .i64)).toArray 3 (0,0)),(br,oQ)] G2 (λG=>[zn,zd,zi,zl,zr,z5,(b8,.cells (QD.lacks.map (xC .i64)).toArray 3 (0,0)),(br,oQ)]++(G2++G)) U (λ_=>U) dY ty3 zc3 U bytes3 hgrow U U (fd 0 U (show bI qC h9 [I d.No] [d.No]from⟨[I d.No],[],U,U,U,U⟩)) (by simp only[zA,jB]at *;omega) (by simp only[zA,jB]at *;omega) (λgb' gc' G1' hG'=>⟨jn,?_⟩)))
      refine tn 15 U (kb 7 (k:=y) (x:=(gb',(mgetD QD.revoked y []++[d.No]).length,gc')) Iv (fC m6) U ownQ.map U U U (λoR hmR=>⟨jn,aV kr ?_⟩))
      obtain⟨G',hfr',hp'⟩:=hput gb' gc' _ G1' hG'
      refine qT 2 U (oi i U (qO 2 U (cn (L':=[zn,zd,zi,zl,zr,z5,(b8,.cells (QD.lacks.map (λv=>xC .i64 v)).toArray 3 (0,0)),(br,oR)]++(G2++G1')) U ?_)))
      exact lH (L':=zn::([zd,zi,zl,zr]++plB b5 b8 br (playRevoke d QD y) oR G')) (List.Perm.append_left [_,_,_,_,_,_,_,_] (List.perm_append_comm.trans hp'.symm)) (bz (L':=[zd,zi,zl,zr]++plB b5 b8 br (playRevoke d QD y) oR G') js (ag (i+1,playRevoke d QD y,oR,mput mQ y (gb',(mgetD QD.revoked y []++[d.No]).length,gc'),G') _ (by show d.Revokes.length-(i+1)<d.Revokes.length-i;omega) ⟨hfQ,hi,⟨ownQ.done,ownQ.lacks,hmR,hfr'⟩,hQs,hQg,AO hQc⟩ rd))
     refine bK (cells:=[I d.No]) dY ty3 zc3 U U kr (λbn=>⟨jn,?_⟩)
     let zn:Nat×Obj:=(bn,O [I d.No] 3)
     let z5:Nat×Obj:=(b5,O (QD.done.map aAB) 4)
     refine tn 10 U (oN 7 (k:=y) Iv (fC m6) U ownQ.map (e8 zv31) (show V3i _ (.slice none 0 0) (none,0,0)from U) U U (λv hv=>?_))
     rw[hget]at hv
     obtain rfl:=hv
     refine⟨jn,(tn 14 U (Ef (List.Perm.append_left ([zn,zd,zi,zl,zr,z5,(b8,.cells (QD.lacks.map (xC .i64)).toArray 3 (0,0)),(br,oQ)]:LH) hperm) (dK aBI [zn,zd,zi,zl,zr,z5,(b8,.cells (QD.lacks.map (xC .i64)).toArray 3 (0,0)),(br,oQ)] G2 (λG=>[zn,zd,zi,zl,zr,z5,(b8,.cells (QD.lacks.map (xC .i64)).toArray 3 (0,0)),(br,oQ)]++(G2++G)) U (λ_=>U) dY ty3 zc3 U bytes3 hgrow U U (fd 0 U (show bI qC h9 [I d.No] [d.No]from⟨[I d.No],[],U,U,U,U⟩)) (by simp only[zA,jB]at *;omega) (by simp only[zA,jB]at *;omega) (λgb' gc' G1' hG'=>⟨jn,?_⟩))))⟩
     refine tn 15 U (kb 7 (k:=y) (x:=(gb',(mgetD QD.revoked y []++[d.No]).length,gc')) Iv (fC m6) U ownQ.map U U U (λoR hmR=>⟨jn,aV kr ?_⟩))
     obtain⟨G',hfr',hp'⟩:=hput gb' gc' _ G1' hG'
     refine qT 2 U (oi i U (qO 2 U (cn (L':=[zn,zd,zi,zl,zr,z5,(b8,.cells (QD.lacks.map (λv=>xC .i64 v)).toArray 3 (0,0)),(br,oR)]++(G2++G1')) U ?_)))
     exact lH (L':=zn::([zd,zi,zl,zr]++plB b5 b8 br (playRevoke d QD y) oR G')) (List.Perm.append_left [_,_,_,_,_,_,_,_] (List.perm_append_comm.trans hp'.symm)) (bz (L':=[zd,zi,zl,zr]++plB b5 b8 br (playRevoke d QD y) oR G') js (ag (i+1,playRevoke d QD y,oR,mput mQ y (gb',(mgetD QD.revoked y []++[d.No]).length,gc'),G') _ (by show d.Revokes.length-(i+1)<d.Revokes.length-i;omega) ⟨hfQ,hi,⟨ownQ.done,ownQ.lacks,hmR,hfr'⟩,hQs,hQg,AO hQc⟩ rd))
    refine sr (fO (decide_eq_false ob) U (qO 4 U ?_))
    have hie:i=d.Revokes.length:=by omega
    refine hx4 (QD,oQ,mQ,GQ) _ ⟨?_,ownQ,hQs,hQg,λk=>?_⟩ trivial
    .rw[hie,List.drop_length]at hfQ;exact hfQ
    have:=hQc k;show(mgetD QD.revoked k []).length<=_;omega
   rw[c1,cond_false]at hstep
   refine bz (L':=[zl,zr]++plB b5 b8 br (playDone Pm x) om Gf) js (cn (L':=rdH Rd r1 lp1 (plB b5 b8 br (playDone Pm x) om Gf++markB [])) (by simp[markB,rdH,zl,zr]) ?_)
   refine nx (playDone Pm x,om,m3,Gf,h9) _ _ ⟨?_,hPs.1,hPs.2.1,own3,h59,hin',λk=>?_⟩ lf
   .rw[←hfold,aA1,hstep]
   have:=hcnt k
   simp only[zA]at this
   show(mgetD Pm.revoked k []).length+16*rest.length<=320
   rw[hPs.2.2];omega
  rintro r1 ⟨P,om,m3,Gf,hh⟩ h7 ⟨hfold,hsh,hsgd,hown,h5h,hin,hcnt⟩ hh7 h57
  dsimp only at hfold hsh hsgd hown h5h hin hcnt hh7
  replace hown:=hown.mono hh7
  have hPl:P.signed.length=l.length:=by rw[hsgd];exact hsg
  refine qT 3 U (dh ty211 (A7.mono h57) U (an (D1 [] (plB b5 b8 br P om Gf) (markB [r1]) U hM (λh8 l8 hG=>?_))))
  have hP:P=cv l signed bp:=hfold
  have okP:=hown.lent (sq:=sr0) (sb:=bZ) (sc:=bY) hln (hsh▸oks.mono h57) (hsgd▸hs4.mono vG h57) l8 hG
  exact pV [r1] [Q b11] func126 U rd ⟨⟨b11,0,none⟩,playR l.length sr0 bZ bY b5 b8 br,U,hP▸okP,by
   rw[←hP,EH hsh hsgd hown.done hown.lacks];exact A11.mono (zF h57 l8)⟩
 rintro⟨a,b,c,d,f,g,t⟩ e2 h2 L2 hI hμ
 dsimp only at hI hμ ⊢
 have hv:=hI.1
 refine Pr (plN a b c d f g t) ?_ ?_ (λi hi o ho=>?_)
 .clear hI hμ
  revert hv
  cases a<;>cases b<;>cases c<;>cases d<;>cases f<;>cases g<;>cases t<;>intro hv<;>first|exact absurd hv (by decide)|kernel_rfl
 .clear hI
  revert hv hμ
  cases a<;>cases b<;>cases c<;>cases d<;>cases f<;>cases g<;>cases t<;>intro hμ hv<;>first|exact absurd hv (by decide)|exact absurd rfl hμ|decide
 rcases PA hi with⟨rfl,rfl⟩|⟨rfl,rfl⟩|⟨rfl,rfl⟩|⟨rfl,rfl⟩|⟨rfl,ha,rfl⟩|⟨rfl,rfl,rfl⟩|⟨rfl,rfl⟩|⟨rfl,rfl,rfl,rfl,rfl,rfl,rfl⟩
 .obtain rfl:=vT (show some _=some o from ho)
  exact aB8 (λ_ _ _ q=>⟨q.1,(true,b,c,d,f,g,t),by simp only[plM,cond_true,cond_false];omega,pmid (pmid (pmid (pmid (pmid (pmid (List.Perm.refl _)))))),q.2⟩) (Ri (hl.mono zH l1) hI)
 .obtain rfl:=vT (show some _=some o from ho)
  exact aB8 (λ_ _ _ q=>⟨q.1,(a,true,c,d,f,g,t),by simp only[plM,cond_true,cond_false];omega,pmid (pmid (pmid (pmid (pmid (List.Perm.refl _))))),q.2⟩) (Rh hln hI)
 .obtain rfl:=vT (show some _=some o from ho)
  exact aB8 (λ_ _ _ q=>⟨q.1,(a,b,true,d,f,g,t),by simp only[plM,cond_true,cond_false];omega,pmid (pmid (pmid (pmid (List.Perm.refl _)))),q.2⟩) (Rg hln hI)
 .obtain rfl:=vT (show some _=some o from ho)
  exact aB8 (λ_ _ _ q=>⟨q.1,(a,b,c,true,f,g,t),by simp only[plM,cond_true,cond_false];omega,pmid (pmid (pmid (List.Perm.refl _))),q.2⟩) (Rf hI)
 .obtain rfl:=vT (show some _=some o from ho)
  exact aB8 (λ_ _ _ q=>⟨q.1,(a,b,c,d,f,true,t),by simp only[plM,cond_true,cond_false];omega,pmid (List.Perm.refl _),q.2⟩) (QY ha hI)
 .obtain rfl:=vT (show some _=some o from ho)
  exact aB8 (λ_ _ _ q=>⟨q.1,(a,b,c,d,f,true,true),by simp only[plM,cond_true,cond_false],List.Perm.refl _,q.2⟩) (QX hI)
 .obtain rfl:=vT (show some _=some o from ho)
  exact aB8 (λ_ _ _ q=>⟨q.1,(a,b,c,d,true,g,t),by simp only[plM,cond_true,cond_false];omega,pmid (pmid (List.Perm.refl _)),q.2⟩) (QW hI)
 exact absurd U hμ
theorem ny(h:HF)(l:List Document)(eP:Option Addr)(eO:Nat)(signed:List Int)(bZ:Option Addr)(bY:Nat)(bp:Int)(hl:SlC vR h eP eO l)(hsigned:SlC qC h bZ bY signed)(hln:l.length<20):j1 prog 52 [.slice eP l.length eO,.slice bZ signed.length bY,I bp] h (λv h'=>∃(rb0:Option Addr)(rc0:Nat),v=.tuple #[.slice rb0 ((aZ l signed bp).1).length rc0,I ((aZ l signed bp).2)]/\SlC qC h' rb0 rc0 ((aZ l signed bp).1)):=by
 refine sT func52 U ntmps52 U λX hM hX hF=>?_
 have hs0:aZ l signed bp=aZ l signed bp:=rfl
 refine qT 9 U (ai call70 (oA _ _ _ _ hl) U (qO 7 U (ae hs0 U (λc1 hs1=>?_) (λc1 hs2=>?_))))
 .refine qT 6 U ?_
  have hs3:aZ l signed bp=([],(bh l)):=hs1
  exact nretH [.slice none 0 0,I (bh l)] ⟨none,0,congrArg (λr:(List Int×Int)=>(.tuple #[.slice none r.1.length 0,I r.2]:Value)) hs3.symm,(by rw[hs3];exact vE)⟩
 refine qT 6 U (ai call124 (pC _ _ _ _ _ _ _ hl hsigned) U (qO 2 U (bV 4 [23,24,25,26,27] 23 27 (!(fJ bp)) U (λc2 hk1=>?_) (λe=>?_))))
 .exact av (ai Nx (m4 h bp) U (qO 2 U (hk1 _ U)))
 refine aJ (ae hs2 U (λc3 hs4=>?_) (λc3 hs5=>?_))
 .refine qT 5 U ?_
  have hs6:aZ l signed bp=([],1):=hs4
  exact nretH [.slice none 0 0,I 1] ⟨none,0,congrArg (λr:(List Int×Int)=>(.tuple #[.slice none r.1.length 0,I r.2]:Value)) hs6.symm,(by rw[hs6];exact vE)⟩
 refine qT 6 U (aC (cS call126 (rn _ _ _ _ _ _ _ bp hl hsigned (by simpa using c1) (AD ob) hln) U (λv1 h1 hle1 hp1=>?_)))
 obtain⟨q1,rr1,rfl,ok1,A1⟩:=hp1
 refine qL 9 [] U ?_
 refine lp2 l (λi w=>[(2,I bp),(6,.slice w.2.1 w.1.length w.2.2.1),(9,.pointer (some q1)),(32,.slice eP l.length eO),(33,I (l.length:Int)),(34,I (i:Int))]) (λ_=>h1) (λw=>w.2.2.2) (λi w=>dG qC 3 h1 w.1 w.2.1 w.2.2.1 w.2.2.2/\w.1.length<=0+i) (λs1 i w=>(aZ.L1 l signed bp (aZ.K1)) s1 i w.1) ([],none,0,[]) ((hl.mono zH hle1).1.1) hs5 ⟨dG.nil,lo⟩ ?_ ?_
 .rintro i1 ⟨re,JH,JF,JI⟩ fp hs7 ⟨He,OK⟩ e
  try dsimp only at He OK
  refine qT 6 U (fF vG ([]) JI ([]) ap hM He (λh3 hle3 sl2=>?_))
  have hs8:aZ l signed bp=(re,0):=hs7
  exact nretH [.slice JH re.length JF,I 0] ⟨JH,JF,congrArg (λr:(List Int×Int)=>(.tuple #[.slice JH r.1.length JF,I r.2]:Value)) hs8.symm,(by rw[hs8];exact sl2)⟩
 rintro i1 ⟨re,JH,JF,JI⟩ y1 rz1 hd1 dj aY er gr hs9 ⟨He,OK⟩ hx1 ag1 e
 try dsimp only at He OK
 refine sr (tO dj U (qO 9 U (aC (iR nA ty51 (hl.mono zH hle1).1 aY U U U (λ_ _ _ e=>e) (λq3 r2 A3 ok3=>dz ty51 A3 U U (ba zc51 (λb3=>gj (aQ 0 ty51 U U U U U U (il (L':=[(b3,O (xN y1 r2) 51)]++(JI)) U (qO 6 U (ai call127 (mj h1 (cv l signed bp) rr1 q1 (i1:Int) bp ok1 A1 (by first|exact GV ob|(rw[tA];omega)) (CR _ _ _)) U (qO 11 U (ae hs9 U (λc5 hs10=>?_) (λc5 hs11=>?_))))))))))))))
 .exact qK 4 [0] U (aC (bK (cells:=[I y1.No]) dY ty3 zc3 U U kr (λb4=>aC (dK aBI ([(b4,O [I y1.No] 3),(b3,O (xN y1 r2) 51)]) ([]) (λG=>[(b4,O [I y1.No] 3),(b3,O (xN y1 r2) 51)]++G) ap (λ_=>ap) dY ty3 zc3 U bytes3 He U U (fd 0 U (cE (y1.No) U U)) lo lo (λob2 oc2 G2 gr2=>qO 4 U (oi i1 U (qO 2 U (bz (L':=G2) js (ag1 ((re++[y1.No]),ob2,oc2,G2) hs10 ⟨gr2,lo⟩)))))))))
 exact aN (qT 2 U (oi i1 U (qO 2 U (bz (L':=JI) js (ag1 (re,JH,JF,JI) hs11 ⟨He,lo⟩)))))
theorem uA(h:HF)(d:Document)(DE:ke)(v0:bN)(Nc:j2)(v0_q:Addr)(hd:aAu h d DE)(hv0:bN.ok h v0 Nc)(av0:At h v0_q (bN.cells v0 Nc)):Ret prog 130 [.agg (xN d DE).toArray,.pointer (some v0_q)] h (.bool (bS d v0)):=by
 refine sT func130 U ntmps130 U λX hM hX hF=>?_
 have hs0:bS d v0=bS d v0:=rfl
 exact sr (cy (λb1=>qL 8 [0] U (jb (j:=7) ty3 av0 U U (qO 3 U (nretP [.bool (d.No==v0.doc.No)] (cs hs0))))))
theorem pu(h:HF)(s:List Document)(sk:Option Addr)(sj:Nat)(f:(Document->Bool))(f_v:Value)(hs:SlC vR h sk sj s)(hf:∀(h':HF)(dF:Document)(yN:ke),jM h h'->dF∈s->aAu h' dF yN->um prog f_v [.agg (xN dF yN).toArray] h' [] (.bool (f dF))):Ret prog 218 [.slice sk s.length sj,f_v] h (.bool (fU s f)):=by
 refine sT func218 U ntmps218 U λX hM hX hF=>?_
 have hs0:fU s f=fU s f:=rfl
 exact sr (qO 6 U (ai call128 (kI _ _ _ _ f f_v hs hf) U (qO 3 U (nretP [.bool (decide (0<=(ad s f)))] (cs hs0)))))
theorem uF(h:HF)(l:List Document)(eP:Option Addr)(eO:Nat)(signed:List Int)(bZ:Option Addr)(bY:Nat)(no:Int)(dl:Int)(hl:SlC vR h eP eO l)(hsigned:SlC qC h bZ bY signed)(hln:l.length<20):Ret prog 84 [.slice eP l.length eO,.slice bZ signed.length bY,I no,I dl] h (.tuple #[I ((cU l signed no dl).1),I ((cU l signed no dl).2.1),I ((cU l signed no dl).2.2)]):=by
 refine sT func84 U ntmps84 U λX hM hX hF=>?_
 have hs0:cU l signed no dl=cU l signed no dl:=rfl
 refine qT 10 U (ai call70 (oA _ _ _ _ hl) U (qO 7 U (ae hs0 U (λc1 hs1=>?_) (λc1 hs2=>?_))))
 .refine qT 7 U ?_
  have hs3:cU l signed no dl=(0,0,(bh l)):=hs1
  exact nretP [I 0,I 0,I (bh l)] (congrArg (λr:(Int×Int×Int)=>(.tuple #[I r.1,I r.2.1,I r.2.2]:Value)) hs3.symm)
 refine qT 6 U (ai call124 (pC _ _ _ _ _ _ _ hl hsigned) U (qO 2 U (bV 4 [24,25,26,27,28] 24 28 (!(fJ dl)) U (λc2 hk1=>?_) (λe=>?_))))
 .exact av (ai Nx (m4 h dl) U (qO 2 U (hk1 _ U)))
 refine aJ (ae hs2 U (λc3 hs4=>?_) (λc3 hs5=>?_))
 .refine qT 6 U ?_
  have hs6:cU l signed no dl=(0,0,1):=hs4
  exact nretP [I 0,I 0,I 1] (congrArg (λr:(Int×Int×Int)=>(.tuple #[I r.1,I r.2.1,I r.2.2]:Value)) hs6.symm)
 refine qT 6 U (aC (cS call126 (rn _ _ _ _ _ _ _ dl hl hsigned (by simpa using c1) (AD ob) hln) U (λv1 h1 hle1 hp1=>?_)))
 obtain⟨q1,rr1,rfl,ok1,A1⟩:=hp1
 refine qO 5 U (aC (fw (fW U) (qL 2 [] U (jb (j:=1) ty190 A1 U U (av ?_)))))
 obtain⟨o1,hb1,hm1⟩:=ok1.shelf.at_
 refine aC (tb (k:=no) Av (fC m6) hb1 hm1 (e8 zv3) (show vm _ (I 0) 0 from U) U U (λv2 hv1=>?_))
 obtain rfl:=hv1
 refine qO 12 U (ae hs5 U (λc4 hs7=>?_) (λc4 hs8=>?_))
 .refine qT 6 U ?_
  have hs9:cU l signed no dl=(0,0,1):=hs7
  exact nretP [I 0,I 0,I 1] (congrArg (λr:(Int×Int×Int)=>(.tuple #[I r.1,I r.2.1,I r.2.2]:Value)) hs9.symm)
 refine qT 6 U (ai call127 (mj h1 (cv l signed dl) rr1 q1 (mgetD ((cv l signed dl).shelf.at_) no 0) dl ok1 A1 (by first|exact GV ob|(rw[tA];omega)) (CR _ _ _)) U (qO 14 U ?_))
 have hs10:cU l signed no dl=((cH (cv l signed dl) (mgetD ((cv l signed dl).shelf.at_) no 0) dl).1,(cH (cv l signed dl) (mgetD ((cv l signed dl).shelf.at_) no 0) dl).2,0):=hs8
 exact nretP [I ((cH (cv l signed dl) (mgetD ((cv l signed dl).shelf.at_) no 0) dl).1),I ((cH (cv l signed dl) (mgetD ((cv l signed dl).shelf.at_) no 0) dl).2),I 0] (congrArg (λr:(Int×Int×Int)=>(.tuple #[I r.1,I r.2.1,I r.2.2]:Value)) hs10.symm)
theorem yB(h:HF)(s:List Int)(sk:Option Addr)(sj:Nat)(v:Int)(hs:SlC qC h sk sj s):Ret prog 221 [.slice sk s.length sj,I v] h (I (eZ s v)):=by
 refine sT func221 U ntmps221 U λX hM hX hF=>?_
 have hs0:eZ s v=eZ s v:=rfl
 refine qK 11 [] U ?_
 refine lp0 s (λi=>[(0,.slice sk s.length sj),(1,I v),(7,I (s.length:Int)),(8,I (i:Int))]) ([]) (λs1 i=>(eZ.L1 v (eZ.K1)) s1 i) hs.1.1 hs0 ?_ ?_
 .rintro i1 fp hs1 e
  exact sr (an (nretP [I (-1)] (ci hs1)))
 rintro i1 y1 rz1 hd1 dj aY er gr hs3 hx1 ag1 e
 refine sr (tO dj U (qO 16 U (aC (iF (λy=>[I y]) dY ty3 hs.1 aY U U U (λq2 A2=>dh ty3 A2 U (qO 2 U (ae hs3 U (λc2 hs4=>?_) (λc2 hs5=>?_))))))))
 .exact sr (qO 3 U (nretP [I (i1:Int)] (ci hs4)))
 exact aN (qT 2 U (oi i1 U (qO 2 U (ag1 hs5))))
theorem oM(h:HF)(s:List Int)(sk:Option Addr)(sj:Nat)(v:Int)(hs:SlC qC h sk sj s):Ret prog 134 [.slice sk s.length sj,I v] h (.bool (gu s v)):=by
 refine sT func134 U ntmps134 U λX hM hX hF=>?_
 have hs0:gu s v=gu s v:=rfl
 exact sr (qO 6 U (ai call221 (yB _ _ _ _ v hs) U (qO 3 U (nretP [.bool (decide (0<=(eZ s v)))] (cs hs0)))))
theorem uh(h:HF)(d:Document)(DE:ke)(c:bN)(oa:j2)(c_q:Addr)(signed:List Int)(bZ:Option Addr)(bY:Nat)(signed_q:Addr)(hd:aAu h d DE)(hc:bN.ok h c oa)(ac:At h c_q (bN.cells c oa))(hsigned:SlC qC h bZ bY signed)(asigned:At h signed_q [.slice bZ signed.length bY])(hsm:smR c.Register)(hco:iU c)(hln:c.Register.Docs.length<20)(hsg:cg c.Register.Docs signed=true)(hdm:d∈c.Register.Docs):Ret prog 219 [.agg (xN d DE).toArray,.pointer (some c_q),.pointer (some signed_q)] h (.bool (gY d c signed)):=by
 refine sT func219 U ntmps219 U λX hM hX hF=>?_
 have hs0:gY d c signed=gY d c signed:=rfl
 refine sr (cy (λb1=>qL 9 [0] U (jb (j:=7) ty3 ac U U (ai call134 (oM _ _ _ _ c.doc.No hd.Revokes) U (qO 2 U (ae hs0 U (λc1 hs1=>?_) (λc1 hs2=>?_)))))))
 .exact sr (an (nretP [.bool false] (cs hs1)))
 refine qK 5 [] U (jb (j:=5) ty27 ac U U (dh ty31 asigned U (qL 3 [0] U (jb (j:=48) ty3 ac U U (ai call84 (uF _ _ _ _ _ _ _ d.No c.at_ hc.Register.Docs hsigned ob) U (qO 11 U (aC (nY uq (ij h ((cU c.Register.Docs signed d.No c.at_).2.2)) (lV (M2 hco hsg hdm)) U (qO 6 U (bj 3 [32,33,34,35] 32 35 ((cU c.Register.Docs signed d.No c.at_).1 != 4) U (λc2 hk1=>?_) (λe=>?_)))))))))))
 .exact av (qO 2 U (hk1 _ U))
 exact an (nretP [.bool (((cU c.Register.Docs signed d.No c.at_).1 != 1)&&((cU c.Register.Docs signed d.No c.at_).1 != 4))] (cs hs2))
theorem oW(h:HF)(c:bN)(oa:j2)(signed:List Int)(bZ:Option Addr)(bY:Nat)(hc:bN.ok h c oa)(hsigned:SlC qC h bZ bY signed)(hsm:smR c.Register)(hco:iU c)(hln:c.Register.Docs.length<20)(hsg:cg c.Register.Docs signed=true):Ret prog 131 [.agg (bN.cells c oa).toArray,.slice bZ signed.length bY] h (.bool (eh c signed)):=by
 refine sT func131 U ntmps131 U λX hM hX hF=>?_
 have hs0:eh c signed=eh c signed:=rfl
 exact sr (cy (λb1=>cy (λb2=>qL 7 [1] U (aX 1 U hM (λh1 hle1 hb1=>aX 0 U hM (λh2 hle2 hb2=>aC (eG U U (ai call218 (pu _ _ _ _ (λdF=>gY dF c signed) (.func (.func 219) #[] #[Q b1,Q b2]) (hc.Register.Docs.mono zH (hle1.t hle2)) (λh' dF yN hle Ot a0_o=>iJ call219 (uh h' dF yN c oa ⟨b1,0,none⟩ signed bZ bY ⟨b2,0,none⟩ a0_o ((hc.mono (hle1.t hle2)).mono hle) (((cA hb1).mono hle2).mono hle) ((hsigned.mono vG (hle1.t hle2)).mono vG hle) ((cA hb2).mono hle) hsm hco ob hsg Ot))) U (an (nretP [.bool (fU c.Register.Docs (λdF=>gY dF c signed))] (cs hs0)))))))))))
theorem wo(h:HF)(c:bN)(oa:j2)(signed:List Int)(bZ:Option Addr)(bY:Nat)(hc:bN.ok h c oa)(hsigned:SlC qC h bZ bY signed)(hsm:smR c.Register)(hco:iU c)(hln:c.Register.Docs.length<20)(hsg:cg c.Register.Docs signed=true):Ret prog 55 [.agg (bN.cells c oa).toArray,.slice bZ signed.length bY] h (.bool (eI c signed)):=by
 refine sT func55 U ntmps55 U λX hM hX hF=>?_
 have hs0:eI c signed=eI c signed:=rfl
 refine sr (cy (λb1=>qL 7 [0] U (aX 0 U hM (λh1 hle1 hb1=>aC (eG U U (ai call128 (kI _ _ _ _ (λdF=>bS dF c) (.func (.func 130) #[] #[Q b1]) (hc.Register.Docs.mono zH hle1) (λh' dF yN hle Ot a0_o=>iJ call130 (uA h' dF yN c oa ⟨b1,0,none⟩ a0_o ((hc.mono hle1).mono hle) ((cA hb1).mono hle)))) U (qO 3 U ?_)))))))
 refine oo [(4,.bool (((decide (c.at_<c.doc.At)||decide (c.doc.Until<=c.at_))||(decide (0<=(nthI signed (ad c.Register.Docs (λdF=>bS dF c))))&&decide ((nthI signed (ad c.Register.Docs (λdF=>bS dF c)))<=c.at_)))||(eh c signed)))] (λe=>?_) (λhk1=>?_)
 rotate_left
 .refine eM ([]) mixed kr jn (λem _=>?_)
  refine qB [0] U (tf 1 U U (rH 48 ty3 (cA hb1) U U) (qB [2,3] U (tf 4 U U (rH 8 ty3 (cA hb1) U U) (qA [5,6] U ?_))))
  refine du 17 U (λc1=>?_) (λc1=>?_)
  .have c1p:=of_decide_eq_true c1
   exact tk 7 U U (qR 8 28 U (aV kr (hk1 _ ⟨(cb (show true=(((decide (c.at_<c.doc.At)||decide (c.doc.Until<=c.at_))||(decide (0<=(nthI signed (ad c.Register.Docs (λdF=>bS dF c))))&&decide ((nthI signed (ad c.Register.Docs (λdF=>bS dF c)))<=c.at_)))||(eh c signed))from by rw[c1]<;>rfl)),trivial⟩)))
  have c1p:=of_decide_eq_false c1
  refine qB [7] U (tf 8 U U (rH 48 ty3 (cA hb1) U U) (qB [9,10] U (tf 11 U U (rH 12 ty3 (cA hb1) U U) (qR 12 3 U ?_))))
  refine du 25 U (λc2=>?_) (λc2=>?_)
  .have c2p:=of_decide_eq_true c2
   exact tk 15 U U (qR 16 20 U (aV kr (hk1 _ ⟨(cb (show true=(((decide (c.at_<c.doc.At)||decide (c.doc.Until<=c.at_))||(decide (0<=(nthI signed (ad c.Register.Docs (λdF=>bS dF c))))&&decide ((nthI signed (ad c.Register.Docs (λdF=>bS dF c)))<=c.at_)))||(eh c signed))from by rw[c1,c2]<;>rfl)),trivial⟩)))
  have c2p:=of_decide_eq_false c2
  refine qA [15,16] U ?_
  have ho1:0<=((ad c.Register.Docs (λdF=>bS dF c)):Int)/\((ad c.Register.Docs (λdF=>bS dF c)):Int)<((signed).length:Int):=(Ho hco hsg)
  refine eS 17 (enc:=λy=>[I y]) em jn ei dY ty3 (hsigned.mono vG hle1).1 ho1 (cN ho1) U U U U kr (λq1 A1=>tf 18 U U (rh ty3 A1 U) (qA [19,20] U ?_))
  refine du 31 U (λc3=>?_) (λc3=>?_)
  .have c3p:=of_decide_eq_true c3
   refine qA [21,22] U ?_
   have ho2:0<=((ad c.Register.Docs (λdF=>bS dF c)):Int)/\((ad c.Register.Docs (λdF=>bS dF c)):Int)<((signed).length:Int):=(Ho hco hsg)
   refine eS 23 (enc:=λy=>[I y]) em jn ei dY ty3 (hsigned.mono vG hle1).1 ho2 (cN ho2) U U U U kr (λq2 A2=>tf 24 U U (rh ty3 A2 U) (qB [25] U (tf 26 U U (rH 48 ty3 (cA hb1) U U) (qR 27 4 U ?_))))
   refine du 41 U (λc4=>?_) (λc4=>?_)
   .have c4p:=of_decide_eq_true c4
    exact tk 31 U U (qR 32 4 U (aV kr (hk1 _ ⟨(cb (show true=(((decide (c.at_<c.doc.At)||decide (c.doc.Until<=c.at_))||(decide (0<=(nthI signed (ad c.Register.Docs (λdF=>bS dF c))))&&decide ((nthI signed (ad c.Register.Docs (λdF=>bS dF c)))<=c.at_)))||(eh c signed))from by rw[c1,c2,c3,c4]<;>rfl)),trivial⟩)))
   have c4p:=of_decide_eq_false c4
   exact tf 31 U U (λ_ _ hj=>lM ty123 ((cA hb1).mono hj.1) U U) (tm 32 U (tn 33 U (fe call131 (oW _ _ _ _ _ _ (hc.mono hle1) (hsigned.mono vG hle1) ob ob ob ob) U (⟨jn,(qA [34,35] U (aV kr (hk1 _ ⟨(cb (show(eh c signed)=(((decide (c.at_<c.doc.At)||decide (c.doc.Until<=c.at_))||(decide (0<=(nthI signed (ad c.Register.Docs (λdF=>bS dF c))))&&decide ((nthI signed (ad c.Register.Docs (λdF=>bS dF c)))<=c.at_)))||(eh c signed))from by rw[c1,c2,c3,c4]<;>rfl)),trivial⟩)))⟩))))
  have c3p:=of_decide_eq_false c3
  exact tk 21 U U (qR 22 9 U (tf 31 U U (λ_ _ hj=>lM ty123 ((cA hb1).mono hj.1) U U) (tm 32 U (tn 33 U (fe call131 (oW _ _ _ _ _ _ (hc.mono hle1) (hsigned.mono vG hle1) ob ob ob ob) U (⟨jn,(qA [34,35] U (aV kr (hk1 _ ⟨(cb (show(eh c signed)=(((decide (c.at_<c.doc.At)||decide (c.doc.Until<=c.at_))||(decide (0<=(nthI signed (ad c.Register.Docs (λdF=>bS dF c))))&&decide ((nthI signed (ad c.Register.Docs (λdF=>bS dF c)))<=c.at_)))||(eh c signed))from by rw[c1,c2,c3]<;>rfl)),trivial⟩)))⟩))))))
 exact nretP [.bool (((decide (c.at_<c.doc.At)||decide (c.doc.Until<=c.at_))||(decide (0<=(nthI signed (ad c.Register.Docs (λdF=>bS dF c))))&&decide ((nthI signed (ad c.Register.Docs (λdF=>bS dF c)))<=c.at_)))||(eh c signed))] (cs hs0)
theorem Cf(h:HF)(c:bN)(oa:j2)(c_q:Addr)(signed:List Int)(bZ:Option Addr)(bY:Nat)(signed_q:Addr)(hc:bN.ok h c oa)(ac:At h c_q (bN.cells c oa))(hsigned:SlC qC h bZ bY signed)(asigned:At h signed_q [.slice bZ signed.length bY])(hsm:smR c.Register)(hco:iU c)(hln:c.Register.Docs.length<20)(hsg:cg c.Register.Docs signed=true):Ret prog 54 [.pointer (some c_q),.pointer (some signed_q)] h (.bool (uk c signed)):=by
 refine sT func54 U ntmps54 U λX hM hX hF=>?_
 have hs0:uk c signed=uk c signed:=rfl
 exact sr (qO 4 U (dz ty123 ac U U (dh ty31 asigned U (ai call55 (wo _ _ _ _ _ _ hc hsigned ob ob ob ob) U (an (nretP [.bool (eI c signed)] (cs hs0)))))))
theorem u9(h:HF)(ep:Int)(v0:List Int)(tQ:Option Addr)(tP:Nat)(v0_q:Addr)(hv0:SlC qC h tQ tP v0)(av0:At h v0_q [.slice tQ v0.length tP]):Ret prog 133 [I ep,.pointer (some v0_q)] h (.bool (j5 ep v0)):=by
 refine sT func133 U ntmps133 U λX hM hX hF=>?_
 have hs0:j5 ep v0=j5 ep v0:=rfl
 exact sr (qO 4 U (dh ty31 av0 U (av (ai call134 (oM _ _ _ _ ep hv0) U (qO 3 U (nretP [.bool (!(gu v0 ep))] (cs hs0)))))))
theorem xi(h:HF)(c:bN)(oa:j2)(signed:List Int)(bZ:Option Addr)(bY:Nat)(hc:bN.ok h c oa)(hsigned:SlC qC h bZ bY signed)(hsm:smR c.Register)(hco:iU c)(hln:c.Register.Docs.length<20)(hsg:cg c.Register.Docs signed=true):Ret prog 57 [.agg (bN.cells c oa).toArray,.slice bZ signed.length bY] h (.bool (fA c signed)):=by
 refine sT func57 U ntmps57 U λX hM hX hF=>?_
 have hs0:fA c signed=fA c signed:=rfl
 refine sr (cy (λb1=>qL 10 [0,0] U (aC (cS call52 (ny _ _ _ _ _ _ _ c.at_ hc.Register.Docs hsigned ob) U (λv1 h1 hle1 hp1=>?_)))))
 obtain⟨rb1,rc1,rfl,sl1⟩:=hp1
 exact av (qO 2 U (ba zc31 (λb2=>cT 0 ty31 U U U U U U (qO 5 U (aC (nY uq (ij h1 ((aZ c.Register.Docs signed c.at_).2)) (lV (zc hco hsg)) U (qL 6 [1] U (aX 0 U hM (λh2 hle2 hb1=>aC (eG U U (ai IB (hY _ _ _ _ (λdF=>j5 dF ((aZ c.Register.Docs signed c.at_).1)) (.func (.func 133) #[] #[Q b2]) (hc.doc.Needs.mono vG (hle1.t hle2)) (λh' dF hle=>iJ call133 (u9 h' dF ((aZ c.Register.Docs signed c.at_).1) rb1 rc1 ⟨b2,0,none⟩  ((sl1.mono vG hle2).mono vG hle) ((cA hb1).mono hle)))) U (an (nretP [.bool (cC c.doc.Needs (λdF=>j5 dF ((aZ c.Register.Docs signed c.at_).1)))] (cs hs0))))))))))))))
theorem Ce(h:HF)(c:bN)(oa:j2)(c_q:Addr)(signed:List Int)(bZ:Option Addr)(bY:Nat)(signed_q:Addr)(hc:bN.ok h c oa)(ac:At h c_q (bN.cells c oa))(hsigned:SlC qC h bZ bY signed)(asigned:At h signed_q [.slice bZ signed.length bY])(hsm:smR c.Register)(hco:iU c)(hln:c.Register.Docs.length<20)(hsg:cg c.Register.Docs signed=true):Ret prog 56 [.pointer (some c_q),.pointer (some signed_q)] h (.bool (uj c signed)):=by
 refine sT func56 U ntmps56 U λX hM hX hF=>?_
 have hs0:uj c signed=uj c signed:=rfl
 exact sr (qO 4 U (dz ty123 ac U U (dh ty31 asigned U (ai call57 (xi _ _ _ _ _ _ hc hsigned ob ob ob ob) U (an (nretP [.bool (fA c signed)] (cs hs0)))))))
theorem sd(h:HF)(seq:List Holder)(seq_v:Value)(hseq:Itr prog seq_v ox seq h)(hsz:seq.length<=2000000):j1 prog 176 [.slice none 0 0,seq_v] h (λv h'=>∃(rb0:Option Addr)(rc0:Nat),v=.slice rb0 (cm seq).length rc0/\SlC aBt h' rb0 rc0 (cm seq)):=by
 refine cJ func176 U ntmps176 U λX hM hX=>?_
 have hs0:cm seq=cm seq:=rfl
 refine sr (cy (λb1=>qO 8 U (et (cn (L':=([(b1,O [.slice none 0 0] 68)])++markB []) ap ?_))))
 refine j3 (it:=seq_v) (xs:=seq) (ι:=(List Holder)×Option Addr×Nat×LH×HF) [] (λi=>i.2.2.2.2) (λi=>[(b1,O [.slice i.2.1 i.1.length i.2.2.1] 68)]++(i.2.2.2.1)) (λs i=>cm seq=((cm.L1 (cm.K1)) s i.1)/\dG aBt 158 i.2.2.2.2 i.1 i.2.1 i.2.2.1 i.2.2.2.1/\jM h i.2.2.2.2/\i.1.length+s.length<=seq.length) (λ_=>False) (λ_=>False) 0 (λ_ _ _=>False) ([],none,0,[],h) func176 U hseq U sC (λ_ _ _ _ _ hq=>hq) U (show[(b1,O [.slice none 0 0] 68)]=_ from U) ⟨hs0,dG.nil,lf,(by simp)⟩ ?_ ?_ ?_ ?_ ?_
 .rintro l1 dm1 lp1 y1 rz1 vs1 ⟨bC,mi,mg,nw,hh1⟩ hr1 X hFR1 ⟨hs1,fI,hl1,u1_0⟩ hl01 hlr1 hv1 hX hXM hlp1 nx1 rt1 ex1 pn1
  obtain rfl:=hv1
  simp only[zA]at u1_0
  let z1:Nat×Obj:=(b1,O [.slice mi bC.length mg] 68)
  let z3:Nat×Obj:=(dm1,.deferred (some []))
  refine cn (L':=[(l1,.loop lp1),z3,z1]++(nw++(markB []))) ap (bE (ba zc158 (λb4=>aQ 0 ty158 U U U U U U (il (L':=[(b4,O (aAo y1) 158),(l1,.loop lp1),z3,z1]++(nw++(markB []))) U ?_))))
  let z4:Nat×Obj:=(l1,.loop { lp1 with state:=.busy })
  let z5:Nat×Obj:=(b4,O (aAo y1) 158)
  refine aJ (jy 1 U hlp1 (qK 3 [3] U (cK 0 ty158 U U U (aC (bK (cells:=[I y1.Person,I y1.Weight]) Nj ty158 zc158 U U kr (λb5=>aC (dK Holder.eQ ([(b5,O [I y1.Person,I y1.Weight] 158),z5,z4,z3,z1]) (markB []) (λG=>[(b5,O [I y1.Person,I y1.Weight] 158),z5,z4,z3,z1]++(markB []++G)) ap (λ_=>ap) Nj ty158 zc158 U bytes158 (fI.mono aAV hlr1) U U (fd 0 U (cE y1 U U)) lo lo (λob2 oc2 G2 gr2=>yd (rP ([(b5,O [I y1.Person,I y1.Weight] 158),z5,z4,z3,z1]) G2 (markB [])) (cT 4 ty68 U U U U U U (qO 2 U ?_))))))))))
  let z6:Nat×Obj:=(b1,O [.slice ob2 ((bC++[y1]).length) oc2] 68)
  exact bz (L':=[z4,z3,z6]++(G2++(markB []))) js (cn (L':=rdH l1 dm1 lp1 (([z6]++G2)++markB [])) ap (nx1 ((bC++[y1]),ob2,oc2,G2,hr1) _ _ ⟨hs1,gr2,(hl1.t hlr1),(by simp only[jA,zA,jB]at *;omega)⟩ lf))
 .rintro dm1 ⟨bC,mi,mg,nw,hh1⟩ hn1 ⟨hs2,fI,hl1,u1_0⟩ hln1 hl01
  let z2:Nat×Obj:=(b1,O [.slice mi bC.length mg] 68)
  refine cn (L':=[z2]++(nw++(markB (dm1::[])))) ap (qK 6 [0] U (fF aAV ([z2]) nw (markB (dm1::[])) ap hM (fI.mono aAV hln1) (λh2 hle2 sl2=>?_)))
  have hs3:cm seq=bC:=hs2
  exact cn (L':=([z2])++markB (dm1::[])) ap (pV (dm1::[]) [.slice mi bC.length mg] func176 U rd ⟨mi,mg,congrArg (λr:List Holder=>(.slice mi r.length mg:Value)) hs3.symm,(by rw[hs3];exact sl2)⟩)
 .exact xf
 .exact xf
 exact xf
theorem tU(h:HF)(seq:List Holder)(seq_v:Value)(hseq:Itr prog seq_v ox seq h)(hsz:seq.length<=2000000):j1 prog 91 [seq_v] h (λv h'=>∃(rb0:Option Addr)(rc0:Nat),v=.slice rb0 (fT seq).length rc0/\SlC aBt h' rb0 rc0 (fT seq)):=by
 refine sT func91 U ntmps91 U λX hM hX hF=>?_
 have hs0:fT seq=fT seq:=rfl
 refine qT 7 U (aC (cS call176 (sd h seq seq_v hseq ob) U (λv1 h1 hle1 hp1=>?_)))
 obtain⟨rb1,rc1,rfl,sl1⟩:=hp1
 refine an ?_
 have hs1:fT seq=(cm seq):=hs0
 exact nretH [.slice rb1 ((cm seq).length) rc1] ⟨rb1,rc1,congrArg (λr:List Holder=>(.slice rb1 r.length rc1:Value)) hs1.symm,(by rw[hs1];exact sl1)⟩
end Go.Sg
