import Derived.Lib.Overlaps
import Derived.Test.YtknehchipcogdaaGreatDoorW9
/- A part of the proof of MissingCame. -/
set_option linter.unusedVariables false
set_option linter.unusedSimpArgs false
set_option maxRecDepth 100000
open List renaming length_cons→xA,not_mem_nil→jA,length_append→vA,mem_cons_self→xB,length_nil→jB,mem_cons_of_mem→qC,append_assoc→zC,mem_singleton→xC,range→zD,mem_of_getElem?→xD,nil_append→vD,perm_append_comm→jF,cons_append→jJ
open Go.Sg.HF renaming le_trans→kA,le→jL
open Go.Sg.Rp renaming int→vB,bU→kM,bool→Yy,j4→ZO
open Go.Value renaming int→jC
open Go.IntKind renaming wrap→vC,bits→Z8,signed→aAH
open Go.Sg.Register renaming cells→qD,ok→vL
open Nat renaming le_refl→xE,zero_le→jH,lt_or_ge→zK,add_zero→Zu
open Go.Obj renaming cells→zH
open Go.Addr renaming add→xP
open Array renaming ext'→zR
open Go.Sg.Budget renaming rp→xS,cells→vS
open Go.World renaming cell?→Ze
open Go.Sg.Use renaming rp→Zz

namespace Go.Sg
section
open Go.Proofs Go.Proofs.Tryz
set_option maxHeartbeats 2000000
theorem If(h co eP)(m5:vL h co eP)(hsm:smR co):Ret prog 12 [.agg (qD co eP).toArray] h (I (nj co)):=by
 refine sVv func12 ntmps12 ?_
 generalize hz:(nj co)=z
 have hsv:=hsm.vers
 have hsq:=hsm;unfold smR at hsq
 exact W
instance kC12:Ct 12:=⟨_,call12,@If⟩
theorem Mz(h co eP no)(m5:vL h co eP):Ret prog 41 [.agg (qD co eP).toArray,I no] h (I (eC co no)):=by
 refine sVv func41 ntmps41 ?_
 generalize hz:(eC co no)=z
 have HA:=h0 [1,2] 5 (λs1 i=>(eC.L1 no (eC.K1)) s1 i)
 exact W
instance kC41:Ct 41:=⟨_,call41,@Mz⟩
theorem DX(h l fm fj signed bK bJ)(hl:SlC av.rp h fm fj l)(gL:SlC vB h bK bJ signed):Ret prog 186 [.slice fm l.length fj,.slice bK signed.length bJ] h (.bool (eO l signed)):=by
 refine sVv func186 ntmps186 ?_
 generalize hz:(eO l signed)=z
 have HA:=h0 [0,1] 5 (λs1 i=>(eO.L1 (eO.K1 l signed)) s1)
 exact W
instance kC186:Ct 186:=⟨_,call186,@DX⟩
theorem MC(h l fm fj Ff)(hl:SlC vB h fm fj l):Ret prog 355 [.slice fm l.length fj,I Ff] h (.bool (jg l Ff)):=by
 refine sVv func355 ntmps355 ?_
 generalize hz:(jg l Ff)=z
 have HA:=h0 [0,1] 5 (λs1 i=>(jg.L1 Ff (jg.K1)) s1)
 exact W
instance kC355:Ct 355:=⟨_,call355,@MC⟩
theorem AP(h l fm fj done JC JA effective Gk Gj MZ cL)(hl:SlC av.rp h fm fj l)(hdone:SlC vB h JC JA done)(heffective:SlC Yy h Gk Gj effective)(hdn:∀x∈done,0<=x/\x<(l.length:Int))(hef:effective.length=l.length):Ret prog 290 [.slice fm l.length fj,.slice JC done.length JA,.slice Gk effective.length Gj,I MZ,I cL] h (.tuple #[I ((gm l done effective MZ cL).1),I ((gm l done effective MZ cL).2)]):=by
 refine sVv func290 ntmps290 ?_
 generalize hz:(gm l done effective MZ cL)=z
 have q4:=λ(a:(!(jg done MZ))=false)=>Up hdn hef a
 have q5:=λ(a:(!(jg done MZ))=false)=>Up hdn rfl a
 have HA:=h0 [0,1,2,3,4] 12 (λs1 i=>(gm.L1 l done effective MZ (gm.K1 l MZ cL)) s1 i)
 exact W
theorem AQ(h signed bK bJ lx)(gL:SlC vB h bK bJ signed)(hsn:signed.length<=2000000):jv prog 291 [.slice bK signed.length bJ,I lx] h (λv h'=>∃(rb0:Option Addr)(rc0:Nat),v=.slice rb0 (bQ signed lx).length rc0/\SlC vB h' rb0 rc0 (bQ signed lx)):=by
 refine sT func291 U ntmps291 U λX hM hX hF=>?_
 have hs0:=@rfl _ (bQ signed lx)
 refine qT 6 U (aM (sM fa ty3 (λb1=>qO 7 U (gM 0 U hM (λh1 hle1 hb1=>?_)))))
 have sl1:SlC vB h1 (zAD b1) 0 ([]):=dC.slB0 (T:=3) (fz:=(0,0)) ((show dC vB h [] ([])from rfl).mono kM hle1) hb1
 refine lp2 signed (λi w=>[(0,.slice bK signed.length bJ),(1,I lx),(5,.slice w.2.1 w.1.length w.2.2.1),(6,I (i:Int))]) (λw=>w.2.2.2) (λw=>[]) (λi w=>SlC vB w.2.2.2 w.2.1 w.2.2.1 w.1/\w.1.length<=i/\jL h1 w.2.2.2/\(∀x∈w.1,0<=x/\x<(signed.length:Int))) (λs1 i w=>(bQ.L1 signed lx (bQ.K1)) s1 i w.1) ([],(zAD b1),0,h1) ((gL.mono kM hle1).1.1) hs0 ⟨sl1,(by first|omega|(simp only[vA,xA,jB];omega)|(simp only[vA,xA,jB,List.length_take,List.length_drop];first|omega|(dsimp only;omega))),lf,(λx hx=>(jA hx).elim)⟩ ?_ ?_ ?_
 .rintro i1 ⟨fW,Aa,zZ,hh1⟩ m4 hs1 ⟨tQ,Jo,hl1,u1_0⟩ e
  try dsimp only at tQ Jo hl1 u1_0
  refine qT 5 U ?_
  have hs2:bQ signed lx=fW:=hs1
  exact nretH [.slice Aa fW.length zZ] ⟨Aa,zZ,congrArg (λr:List Int=>(.slice Aa r.length zZ:Value)) hs2.symm,(by rw[hs2];exact tQ)⟩
 .rintro i1 ⟨fW,Aa,zZ,hh1⟩ y1 rz1 hd1 mN kl oD yD hs3 ⟨tQ,Jo,hl1,u1_0⟩ hx1 ag1 e
  try dsimp only at tQ Jo hl1 u1_0
  refine qK 6 [] U (tO mN U (qO 10 U (aM (iF (λy=>[I y]) fa ty3 (gL.mono kM (hle1.t hl1)).1 kl U U U (λq3 A3=>fV ty3 A3 U (qO 2 U (nH 7 [20,21,22,23,24,25,26,27] 20 27 (decide (lx<y1)) U (λc1 hk1=>?_) (λe=>?_))))))))
  .exact cN (cN (aM (iF (λy=>[I y]) fa ty3 (gL.mono kM (hle1.t hl1)).1 kl U U U (λq4 A4=>fV ty3 A4 U (qO 3 U (hk1 _ U))))))
  refine bM (cQ hs3 U (λc2 hs4=>?_) (λc2 hs5=>?_))
  .exact jZ U (qT 2 U (oi i1 U (an (ag1 (fW,Aa,zZ,hh1) hs4 ⟨tQ,(by first|omega|(simp only[vA,xA,jB];omega)|(simp only[vA,xA,jB,List.length_take,List.length_drop];first|omega|(dsimp only;omega))),hl1,(by first|assumption|exact D2 u1_0 ob)⟩))))
  refine qK 8 [] U ?_
  refine fZ (ι:=Nat) (λi=>[(0,.slice bK signed.length bJ),(1,I lx),(5,.slice Aa fW.length zZ),(6,I (i1:Int)),(7,I (((fW.length-i):Nat):Int))]) (λi=>hh1) (λi=>[]) (λi=>i<=(zD fW.length).length/\bQ signed lx=((λzi3=>(bQ.L1 signed lx (bQ.K1) rz1 (i1+1) (((fW.take (((((fW.length-zi3):Nat):Int):Int)).toNat)++[(i1:Int)])++(fW.drop (((((fW.length-zi3):Nat):Int):Int)).toNat)))) i)) ?_ (λhx3=>?_)
  .rintro i3 ⟨Ed,hs6⟩ e
   try dsimp only at Ed
   refine fQ ([]) mixed kr jn (λlA _=>?_)
   refine qA [1,2] U (K9 3 lA jn fa ty3 tQ.1 tQ.2 ob U U U U kr (λsb3 sc3 sl5=>qA [5,8,9] U (R4 10 lA jn fa ty3 tQ.1 tQ.2 ob U U U U kr (λsb4 sc4 sl6=>?_))))
   refine nq 0 6 kr U U ?_ ?_ 
   .refine sM fa ty3 (λb4=>⟨jn,?_⟩)
    refine nq 4 6 kr U U ?_ ?_ 
    .refine fd ZO ([]) ([]) (λG=>G) ap (λ_=>ap) fa ty3 zc3 U bytes3 (cI.lit (show dC vB hh1 [] ([])from U) U) U U (lH sl5.1) lo lo (λob4 oc4 G4 gr4=>⟨jn,(tn 6 U (bW (cells:=[I (i1:Int)]) fa ty3 zc3 U U kr (λb5=>?_)))⟩)
     let z3:Nat×Obj:=(b5,O [I (i1:Int)] 3)
     exact⟨jn,(tn 7 U (fd ZO ([z3]) ([]) (λG=>[z3]++G) ap (λ_=>ap) fa ty3 zc3 U bytes3 gr4 U U (iM 0 U (cE (i1:Int) U U)) lo lo (λob5 oc5 G5 gr5=>⟨jn,(tn 11 U (fd ZO ([z3]) ([]) (λG=>[z3]++G) ap (λ_=>ap) fa ty3 zc3 U bytes3 gr5 U U (lH sl6.1) lo lo (λob6 oc6 G6 gr6=>⟨jn,(qA [12] U (dO kr (qT 3 U (oi i1 U (an (ib kM ([z3]) G6 ([]) ap hM gr6 (λh3 hle3 sl7=>dE (L':=[]) js (ag1 ((((fW.take (((((fW.length-i3):Nat):Int):Int)).toNat)++[(i1:Int)])++(fW.drop (((((fW.length-i3):Nat):Int):Int)).toNat)),ob6,oc6,h3) hs6 ⟨sl7,(by first|omega|(simp only[vA,xA,jB];omega)|(simp only[vA,xA,jB,List.length_take,List.length_drop];first|omega|(dsimp only;omega))),(hl1.t hle3),(by first|assumption|exact D2 u1_0 ob)⟩))))))))⟩)))⟩)))⟩
    refine bW (cells:=[I (i1:Int)]) fa ty3 zc3 U U kr (λb6=>⟨jn,(tn 4 U ?_)⟩)
    let z1:Nat×Obj:=(b6,O [I (i1:Int)] 3)
    exact fd ZO ([z1]) ([]) (λG=>[z1]++G) ap (λ_=>ap) fa ty3 zc3 U bytes3 (cI.lit (show dC vB hh1 [] ([])from U) U) U U (lH sl5.1) lo lo (λob7 oc7 G7 gr7=>⟨jn,(tn 7 U (fd ZO ([z1]) ([]) (λG=>[z1]++G) ap (λ_=>ap) fa ty3 zc3 U bytes3 gr7 U U (iM 0 U (cE (i1:Int) U U)) lo lo (λob8 oc8 G8 gr8=>⟨jn,(tn 11 U (fd ZO ([z1]) ([]) (λG=>[z1]++G) ap (λ_=>ap) fa ty3 zc3 U bytes3 gr8 U U (lH sl6.1) lo lo (λob9 oc9 G9 gr9=>⟨jn,(qA [12] U (dO kr (qT 3 U (oi i1 U (an (ib kM ([z1]) G9 ([]) ap hM gr9 (λh4 hle4 sl8=>dE (L':=[]) js (ag1 ((((fW.take (((((fW.length-i3):Nat):Int):Int)).toNat)++[(i1:Int)])++(fW.drop (((((fW.length-i3):Nat):Int):Int)).toNat)),ob9,oc9,h4) hs6 ⟨sl8,(by first|omega|(simp only[vA,xA,jB];omega)|(simp only[vA,xA,jB,List.length_take,List.length_drop];first|omega|(dsimp only;omega))),(hl1.t hle4),(by first|assumption|exact D2 u1_0 ob)⟩))))))))⟩)))⟩)))⟩)
   refine bW (cells:=[I (i1:Int)]) fa ty3 zc3 U U kr (λb7=>⟨jn,(tn 0 U ?_)⟩)
   let z2:Nat×Obj:=(b7,O [I (i1:Int)] 3)
   exact sM fa ty3 (λb8=>⟨jn,(tn 4 U (fd ZO ([]) ([z2]) (λG=>[z2]++G) ap (λ_=>ap) fa ty3 zc3 U bytes3 (cI.lit (show dC vB hh1 [] ([])from U) U) U U (lH sl5.1) lo lo (λob10 oc10 G10 gr10=>⟨jn,(tn 7 U (fd ZO ([z2]) ([]) (λG=>[z2]++G) ap (λ_=>ap) fa ty3 zc3 U bytes3 gr10 U U (iM 0 U (cE (i1:Int) U U)) lo lo (λob11 oc11 G11 gr11=>⟨jn,(tn 11 U (fd ZO ([z2]) ([]) (λG=>[z2]++G) ap (λ_=>ap) fa ty3 zc3 U bytes3 gr11 U U (lH sl6.1) lo lo (λob12 oc12 G12 gr12=>⟨jn,(qA [12] U (dO kr (qT 3 U (oi i1 U (an (ib kM ([z2]) G12 ([]) ap hM gr12 (λh5 hle5 sl9=>dE (L':=[]) js (ag1 ((((fW.take (((((fW.length-i3):Nat):Int):Int)).toNat)++[(i1:Int)])++(fW.drop (((((fW.length-i3):Nat):Int):Int)).toNat)),ob12,oc12,h5) hs6 ⟨sl9,(by first|omega|(simp only[vA,xA,jB];omega)|(simp only[vA,xA,jB,List.length_take,List.length_drop];first|omega|(dsimp only;omega))),(hl1.t hle5),(by first|assumption|exact D2 u1_0 ob)⟩))))))))⟩)))⟩)))⟩)))⟩)
  refine i9 (ι:=Nat×List Nat) (λi=>[(0,.slice bK signed.length bJ),(1,I lx),(5,.slice Aa fW.length zZ),(6,I (i1:Int)),(7,I (((fW.length-i.1):Nat):Int))]) (λi=>hh1) (λi=>[]) (λi=>(zD fW.length).drop i.1=i.2/\i.1<=(zD fW.length).length/\bQ signed lx=((bQ.L3 signed y1 fW (λzi3=>(bQ.L1 signed lx (bQ.K1) rz1 (i1+1) (((fW.take (((((fW.length-zi3):Nat):Int):Int)).toNat)++[(i1:Int)])++(fW.drop (((((fW.length-zi3):Nat):Int):Int)).toNat))))) i.2 i.1)) (λi=>i.2.length) (0,(zD fW.length)) ⟨U,U,U,U,(congrArg (jC .i64) (show(fW.length:Int)=(((fW.length-0):Nat):Int)from by omega)),trivial⟩ sw ⟨U,jH _,hs5⟩ ?_
  rintro⟨i3,s3⟩ ⟨hd3,M1,hs7⟩ ag2 e
  try dsimp only at hd3 M1
  rcases s3 with _|⟨y3,rz3⟩
  .have W1:decide (0<(((fW.length-i3):Nat):Int))=false:=decide_eq_false (by have q_:=of_decide_eq_false (oW hd3);rw[List.length_range]at q_;omega)
   exact dZ (dZ (fQ ([]) mixed kr jn (λpc _=>tm 0 U (tf 1 U U (λ_ _ _=>AR (v':=.bool false) U (cb W1)) (qR 2 15 U (dO kr (qT 2 U (hx3 i3 _ ⟨M1,hs7⟩ rd))))))))
  have Qa:decide (0<(((fW.length-i3):Nat):Int))=true:=decide_eq_true (by have q_:=iy hd3;rw[List.length_range]at q_;omega)
  have OY:i3<fW.length:=by simpa using iy hd3
  refine qT 2 U (fQ ([]) mixed kr jn (λOX _=>tm 0 U (tf 1 U U (λ_ _ _=>AR (v':=.bool true) U (cb Qa)) (qR 2 4 U (tf 6 U U (λ_ _ _=>AR (v':=I (((fW.length-(i3+1)):Nat):Int)) U (Nf OY ob)) ?_)))))
  have ho3:0<=((((fW.length-(i3+1)):Nat):Int):Int)/\((((fW.length-(i3+1)):Nat):Int):Int)<((fW).length:Int):=ob
  refine pk 7 (enc:=λy=>[I y]) OX jn ei fa ty3 tQ.1 ho3 (eH ho3) U U U U kr (λq8 A8=>tf 8 U U (rh ty3 A8 U) ?_)
  have ho4:0<=((nthI fW (((fW.length-(i3+1)):Nat):Int)):Int)/\((nthI fW (((fW.length-(i3+1)):Nat):Int)):Int)<((signed).length:Int):=(by first|omega|exact VD u1_0 ob _)
  refine pk 9 (enc:=λy=>[I y]) OX jn ei fa ty3 (gL.mono kM (hle1.t hl1)).1 ho4 (eH ho4) U U U U kr (λq9 A9=>tf 10 U U (rh ty3 A9 U) (qA [11,12] U (pk 13 (enc:=λy=>[I y]) OX jn ei fa ty3 (gL.mono kM (hle1.t hl1)).1 (nthZ kl) (kz kl) U U U U kr (λq10 A10=>tf 14 U U (rh ty3 A10 U) (qA [15,16] U (dO kr (cQ hs7 U (λc4 hs9=>?_) (λc4 hs10=>?_))))))))
  .have c4p:=of_decide_eq_true c4
   exact iL (qT 3 U (gE (v':=I (((fW.length-(i3+1)):Nat):Int)) U (Nf OY ob) (qO 3 U (ag2 ((i3+1),rz3) _ (Nat.lt_succ_self _) ⟨ll hd3,iy hd3,hs9⟩ rd))))
  have c4p:=of_decide_eq_false c4
  exact jZ U (hx3 i3 _ ⟨M1,hs10⟩ rd)
 rintro i1 ⟨fW,Aa,zZ,hh1⟩ hd1 uQ hx e
 exact qK 6 [] U (fO uQ U (qO 3 U (hx _ rd)))
theorem Iw(h l fm fj signed bK bJ bD)(hl:SlC av.rp h fm fj l)(gL:SlC vB h bK bJ signed)(hsg:signed.length=l.length)(hsn:signed.length<=2000000)(hnd:∀d∈l,d.e9.length<=16):jv prog 289 [.slice fm l.length fj,.slice bK signed.length bJ,I bD] h (λv h'=>∃(rb0:Option Addr)(rc0:Nat),v=.slice rb0 (bR l signed bD).length rc0/\SlC vB h' rb0 rc0 (bR l signed bD)):=by
 refine sT func289 U ntmps289 U λX hM hX hF=>?_
 have hs0:=@rfl _ (bR l signed bD)
 refine qT 8 U (aM (cW call291 (AQ _ _ _ _ bD gL ob) U (λv1 h1 hle1 hp1=>?_)))
 obtain⟨rb1,rc1,rfl,sl1⟩:=hp1
 refine qL 6 [] U (aM (HX (R:=Yy) (x0:=false) (m:=l.length) (λG=>G) U U (λ_=>ap) Hs zc4 ty4 bytes4 U U ob ob (λb1 G1 gr1=>qO 4 U (aM (sM fa ty3 (λb2=>qO 7 U ?_))))))
 obtain⟨G6,gr6,ge1⟩:∃G:LH,cI vB 3 h1 ([]) (zAD b2) 0 G/\[(b2,O [] 3)]=G:=⟨_,cI.lit (show dC vB h1 [] ([])from rfl) rfl,rfl⟩
 refine dV (L':=([])++([(b2,O [] 3)]++G1)) ap ?_
 rw[ge1]
 refine jw (List.Perm.append_left _ jF) (dV (L':=G1++G6) ap ?_)
 refine lp4 l (λi w=>[(0,.slice fm l.length fj),(1,.slice bK signed.length bJ),(7,.slice rb1 ((bQ signed bD).length) rc1),(8,.slice (zAD b1) ((List.replicate l.length false).length) l.length),(9,.slice w.2.1 w.1.length w.2.2.1),(10,I (i:Int))]) (λ_=>h1) (λw=>G1++(w.2.2.2)) (λi w=>cI vB 3 h1 w.1 w.2.1 w.2.2.1 w.2.2.2/\w.1.length<=0+i/\w.1.length=i) (λi w=>cI vB 3 h1 w.1 w.2.1 w.2.2.1 w.2.2.2/\w.1.length<=0+i/\w.1.length=l.length) (λi g hi h=>⟨h.1,h.2.1,h.2.2.trans hi⟩) (λs1 i w=>(bR.L1 (bR.K1 l signed bD)) s1 w.1) ([],(zAD b2),0,G6) ((hl.mono av.aK hle1).1.1) hs0 ⟨gr6,lo,U⟩ ?_ ?_ ?_
 .rintro i1 ⟨uR,UB,UA,UC⟩ m4 hs1 ⟨O1,Uz,u1_0⟩ e
  try dsimp only at O1 Uz u1_0
  refine qT 5 U ?_
  refine lp2 (bQ signed bD) (λi w=>[(0,.slice fm l.length fj),(1,.slice bK signed.length bJ),(7,.slice rb1 ((bQ signed bD).length) rc1),(8,.slice w.2.1 w.1.length w.2.2.1),(9,.slice w.2.2.2.2.2.1 w.2.2.2.2.1.length w.2.2.2.2.2.2.1),(11,I (i:Int))]) (λ_=>h1) (λw=>w.2.2.2.1++(w.2.2.2.2.2.2.2)) (λi w=>cI Yy 4 h1 w.1 w.2.1 w.2.2.1 w.2.2.2.1/\cI vB 3 h1 w.2.2.2.2.1 w.2.2.2.2.2.1 w.2.2.2.2.2.2.1 w.2.2.2.2.2.2.2/\w.1.length=l.length/\w.2.2.2.2.1.length=l.length) (λs2 i w=>(bR.L2 l signed bD (bR.K2)) s2 i w.1 w.2.2.2.2.1) ((List.replicate l.length false),(zAD b1),l.length,G1,uR,UB,UA,UC) sl1.1.1 hs1 ⟨gr1,O1,List.length_replicate,ob⟩ ?_ ?_ ?_
  .rintro i2 ⟨nr,yG,yF,uw,Jg,LC,LB,Ru⟩ Ed hs2 ⟨zY,O0,u2_0,u2_1⟩ e
   try dsimp only at zY O0 u2_0 u2_1
   refine qT 5 U (ib kM (uw) Ru ([]) ap hM O0 (λh2 hle2 sl8=>dV (L':=uw) ap ?_))
   have hs3:bR l signed bD=Jg:=hs2
   exact nretH [.slice LC Jg.length LB] ⟨LC,LB,congrArg (λr:List Int=>(.slice LC r.length LB:Value)) hs3.symm,(by rw[hs3];exact sl8)⟩
  .rintro i2 ⟨nr,yG,yF,uw,Jg,LC,LB,Ru⟩ y2 rz2 hd2 Ar uv I2 Qc hs4 ⟨zY,O0,u2_0,u2_1⟩ hx2 ag1 e
   try dsimp only at zY O0 u2_0 u2_1
   have hnl:=D6 (P:=λd:av=>d.e9.length<=16) hnd (jH _) y2
   refine qK 6 [] U (tO Ar U (qO 9 U (aM (iF (λy=>[I y]) fa ty3 sl1.1 uv U U U (λq35 A35=>fV ty3 A35 U (qO 7 U ?_))))))
   have ho40:0<=(y2:Int)/\(y2:Int)<((l).length:Int):=(by first|omega|(have hq:=vi signed bD _ (eM hd2);omega))
   refine aM (E0 EU ty54 (hl.mono av.aK hle1).1 ho40 (eH ho40) U U U (λ_ _ _ e=>e) (λq36 r15 A36 ok15=>qL 1 [] U (nv (j:=8) ty31 A36 U U (qL 1 [] U (gE (v':=I ((((nthI l y2).e9.length:Nat):Int)-1)) U (kW ob) (an ?_))))))
   refine fZ (ι:=Nat×List Int×Option Addr×Nat×LH) (λi=>[(0,.slice fm l.length fj),(1,.slice bK signed.length bJ),(7,.slice rb1 ((bQ signed bD).length) rc1),(8,.slice yG nr.length yF),(9,.slice i.2.2.1 i.2.1.length i.2.2.2.1),(11,I (i2:Int)),(12,I y2)]) (λi=>h1) (λi=>uw++(i.2.2.2.2)) (λi=>i.1<=(zD ((nthI l y2).e9.length)).length/\bR l signed bD=((λzg4_9=>(bR.L2 l signed bD (bR.K2) rz2 (i2+1) (nr.set (y2:Int).toNat (decide ((nthI zg4_9 y2)<0))) zg4_9)) i.2.1)/\cI vB 3 h1 i.2.1 i.2.2.1 i.2.2.2.1 i.2.2.2.2/\i.2.1.length=l.length) ?_ (λhx4=>?_)
   .rintro⟨i4,wO,Ja,I9,Eg⟩ ⟨M1,hs5,CP,u4_0⟩ e
    try dsimp only at M1 CP u4_0
    refine qT 5 U ?_
    have ho49:0<=(y2:Int)/\(y2:Int)<((wO).length:Int):=ob
    have hgz:=cI.yJ CP (by omega)
    obtain⟨bk10,hbk10⟩:=hgz
    refine aM (em (oa (R:=vB) (xs:=wO) fa ty3 hbk10 ho49 U U U) (aM (em (FW (R:=vB) (i:=(y2:Int).toNat) (off:=0) ty3 CP hbk10 (eH ho49) (λcs_z hcs=>by rw[show cs_z=[I (nthI wO y2)]from hcs];rfl) U mh) (Ra U ?_))))
    have ho50:0<=(y2:Int)/\(y2:Int)<((nr).length:Int):=ob
    have hgz:=cI.yJ zY (by omega)
    obtain⟨bk11,hbk11⟩:=hgz
    exact aM (em (oa (R:=Yy) (xs:=nr) Hs ty4 hbk11 ho50 U U U) (aM (vv (R:=Yy) (i:=(y2:Int).toNat) (off:=0) (u:=(nthI nr y2)) (u':=decide ((nthI wO y2)<0)) (v:=.bool (decide ((nthI wO y2)<0))) ([]) uw (Eg) ty4 U zY ap hbk11 (eH ho50) (by decide) (λcs_z hcs=>by rw[show cs_z=[.bool (nthI nr y2)]from hcs];rfl) U U U (λG12 gr12=>kX (L':=G12++(Eg)) (by first|rfl|simp only[List.length_set,zC,jJ,vD,List.append_nil]) (We 8 (.slice yG ((nr.set (y2:Int).toNat (decide ((nthI wO y2)<0))).length) yF) (congrArg (λn_=>Value.slice yG n_ yF) (List.length_set ..).symm) (qO 4 U (oi i2 U (an (ag1 ((nr.set (y2:Int).toNat (decide ((nthI wO y2)<0))),yG,yF,G12,wO,Ja,I9,Eg) hs5 ⟨gr12,CP,(by first|assumption|(rw[List.length_set];assumption)),(by first|assumption|(rw[List.length_set];assumption))⟩)))))))))
   refine i9 (ι:=Nat×List Int×Option Addr×Nat×LH×List Nat) (λi=>[(0,.slice fm l.length fj),(1,.slice bK signed.length bJ),(7,.slice rb1 ((bQ signed bD).length) rc1),(8,.slice yG nr.length yF),(9,.slice i.2.2.1 i.2.1.length i.2.2.2.1),(11,I (i2:Int)),(12,I y2),(13,I ((((((nthI l y2).e9.length)-i.1):Nat):Int)-1))]) (λi=>h1) (λi=>uw++(i.2.2.2.2.1)) (λi=>(zD ((nthI l y2).e9.length)).drop i.1=i.2.2.2.2.2/\i.1<=(zD ((nthI l y2).e9.length)).length/\bR l signed bD=((bR.L4 l signed bD i2 y2 nr (λzg4_9=>(bR.L2 l signed bD (bR.K2) rz2 (i2+1) (nr.set (y2:Int).toNat (decide ((nthI zg4_9 y2)<0))) zg4_9))) i.2.2.2.2.2 i.1 i.2.1)/\cI vB 3 h1 i.2.1 i.2.2.1 i.2.2.2.1 i.2.2.2.2.1/\i.2.1.length=l.length) (λi=>i.2.2.2.2.2.length) (0,Jg,LC,LB,Ru,(zD ((nthI l y2).e9.length))) ⟨U,U,U,U,U,U,U,(congrArg (jC .i64) (show((((nthI l y2).e9.length:Nat):Int)-1)=((((((nthI l y2).e9.length)-0):Nat):Int)-1)from by omega)),trivial⟩ sw ⟨U,jH _,hs4,O0,ob⟩ ?_
   rintro⟨i4,wO,Ja,I9,Eg,s4⟩ ⟨hd4,Qb,hs6,CP,u4_0⟩ ag2 e
   try dsimp only at hd4 Qb CP u4_0
   rcases s4 with _|⟨y4,rz4⟩
   .have W0:decide (0<=((((((nthI l y2).e9.length)-i4):Nat):Int)-1))=false:=decide_eq_false (by have q_:=of_decide_eq_false (oW hd4);rw[List.length_range]at q_;omega)
    exact dZ (qT 3 U (fO W0 U (qO 3 U (hx4 (i4,wO,Ja,I9,Eg) _ ⟨Qb,hs6,CP,u4_0⟩ rd))))
   have Uk:decide (0<=((((((nthI l y2).e9.length)-i4):Nat):Int)-1))=true:=decide_eq_true (by have q_:=iy hd4;rw[List.length_range]at q_;omega)
   have LA:i4<((nthI l y2).e9.length):=by simpa using iy hd4
   refine qT 4 U (tO Uk U (qO 6 U (fQ (uw++(Eg)) mixed kr jn (λlA _=>qR 0 3 U (K9 3 lA jn fa ty3 sl1.1 sl1.2 ob U U U U kr (λsb8 sc8 sl10=>qR 4 4 U ?_))))))
   have ho51:0<=(y2:Int)/\(y2:Int)<((l).length:Int):=(by first|omega|(have hq:=vi signed bD _ (eM hd2);omega))
   refine sZ 8 lA jn EU ty54 (hl.mono av.aK hle1).1 ho51 (eH ho51) U U U U kr (λq42 cs18 A42 ln18 rr18=>?_)
   obtain⟨r18,rfl,ok18⟩:=rr18
   refine qB [9] U (tf 10 U U (rH 8 ty31 A42 U U) (tm 11 U ?_))
   have ho52:0<=(((((((nthI l y2).e9.length)-i4):Nat):Int)-1):Int)/\(((((((nthI l y2).e9.length)-i4):Nat):Int)-1):Int)<(((nthI l y2).e9).length:Int):=ob
   refine pk 12 (enc:=λy=>[I y]) lA jn ei fa ty3 ok18.e9.1 ho52 (eH ho52) U U U U kr (λq43 A43=>tf 13 U U (rh ty3 A43 U) (qA [15,16] U ?_))
   have ho53:0<=(y2:Int)/\(y2:Int)<((signed).length:Int):=(by first|omega|(have hq:=vi signed bD _ (eM hd2);omega))
   refine pk 17 (enc:=λy=>[I y]) lA jn ei fa ty3 (gL.mono kM hle1).1 ho53 (eH ho53) U U U U kr (λq44 A44=>tf 18 U U (rh ty3 A44 U) (tn 14 U (jq call195 (CI _ _ _ _ (nthI ((nthI l y2).e9) ((((((nthI l y2).e9.length)-i4):Nat):Int)-1)) (hl.mono av.aK hle1)) U (⟨jn,tn 19 U (DN ([]) uw (Eg) call290 Rp.sV zY ap (λhq1 hqle1 hqsl=>AP hq1 l fm fj ((bQ signed bD).take (((i2:Int):Int)).toNat) sb8 sc8 nr yG yF (gx l (nthI ((nthI l y2).e9) ((((((nthI l y2).e9.length)-i4):Nat):Int)-1))) (nthI signed y2) (hl.mono av.aK (hle1.t hqle1)) (sl10.mono kM hqle1) hqsl (λx hx=>by have hq:=vi signed bD x (List.mem_of_mem_take hx);omega) ob) U (⟨jn,(qR 20 5 U (dO kr (qT 5 U (cQ hs6 U (λc15 hs8=>?_) (λc15 hs9=>?_)))))⟩))⟩))))
   .refine qT 5 U ?_
    have ho54:0<=(y2:Int)/\(y2:Int)<((l).length:Int):=(by first|omega|(have hq:=vi signed bD _ (eM hd2);omega))
    refine aM (E0 EU ty54 (hl.mono av.aK hle1).1 ho54 (eH ho54) U U U (λ_ _ _ e=>e) (λq45 r19 A45 ok19=>qL 1 [] U (nv (j:=8) ty31 A45 U U (cN ?_))))
    have ho55:0<=(((((((nthI l y2).e9.length)-i4):Nat):Int)-1):Int)/\(((((((nthI l y2).e9.length)-i4):Nat):Int)-1):Int)<(((nthI l y2).e9).length:Int):=ob
    refine aM (vy (enc:=λy=>[I y]) ei fa ty3 ok19.e9.1 ho55 (eH ho55) U U U (λq46 A46=>fV ty3 A46 U ?_))
    have ho56:0<=(y2:Int)/\(y2:Int)<((wO).length:Int):=ob
    have hgz:=cI.yJ CP (by omega)
    obtain⟨bk12,hbk12⟩:=hgz
    exact aM (em (oa (R:=vB) (xs:=wO) fa ty3 hbk12 ho56 U U U) (aM (vv (R:=vB) (i:=(y2:Int).toNat) (off:=0) (u:=(nthI wO y2)) (u':=(nthI ((nthI l y2).e9) ((((((nthI l y2).e9.length)-i4):Nat):Int)-1))) (v:=I (nthI ((nthI l y2).e9) ((((((nthI l y2).e9.length)-i4):Nat):Int)-1))) (uw) Eg ([]) ty3 U CP ap hbk12 (eH ho56) (by decide) (λcs_z hcs=>by rw[show cs_z=[I (nthI wO y2)]from hcs];rfl) U U U (λG13 gr13=>kX (L':=uw++G13) (by first|rfl|simp only[List.length_set,zC,jJ,vD,List.append_nil]) (We 9 (.slice Ja ((wO.set (y2:Int).toNat (nthI ((nthI l y2).e9) ((((((nthI l y2).e9.length)-i4):Nat):Int)-1))).length) I9) (congrArg (λn_=>Value.slice Ja n_ I9) (List.length_set ..).symm) (qO 4 U (gE (v':=I ((((((nthI l y2).e9.length)-(i4+1)):Nat):Int)-1)) U (RJ LA ob) (an (ag2 ((i4+1),(wO.set (y2:Int).toNat (nthI ((nthI l y2).e9) ((((((nthI l y2).e9.length)-i4):Nat):Int)-1))),Ja,I9,G13,rz4) _ (Nat.lt_succ_self _) ⟨ll hd4,iy hd4,hs8,gr13,(by first|assumption|(rw[List.length_set];assumption))⟩ rd)))))))))
   exact iL (qT 3 U (gE (v':=I ((((((nthI l y2).e9.length)-(i4+1)):Nat):Int)-1)) U (RJ LA ob) (an (ag2 ((i4+1),wO,Ja,I9,Eg,rz4) _ (Nat.lt_succ_self _) ⟨ll hd4,iy hd4,hs9,CP,(by first|assumption|(rw[List.length_set];assumption))⟩ rd))))
  rintro i2 ⟨nr,yG,yF,uw,Jg,LC,LB,Ru⟩ hd2 Un hx e
  exact qK 6 [] U (fO Un U (qO 3 U (hx _ rd)))
 .rintro i1 ⟨uR,UB,UA,UC⟩ y1 rz1 hd1 mN kl oD yD hs10 ⟨O1,Uz,u1_0⟩ hx1 ag3 e
  try dsimp only at O1 Uz u1_0
  exact qK 6 [] U (tO mN U (qO 7 U (aM (bW (cells:=[I (-1)]) fa ty3 zc3 U U kr (λb4=>aM (fd ZO ([(b4,O [I (-1)] 3)]++G1) ([]) (λG=>[(b4,O [I (-1)] 3)]++(G1++G)) ap (λ_=>ap) fa ty3 zc3 U bytes3 O1 U U (iM 0 U (cE (-1) U U)) lo lo (λob2 oc2 G14 gr14=>qO 5 U (oi i1 U (an (dE (L':=G1++G14) js (ag3 ((uR++[(-1)]),ob2,oc2,G14) hs10 ⟨gr14,lo,lo⟩)))))))))))
 rintro i1 ⟨uR,UB,UA,UC⟩ hd1 uQ hx e
 exact qK 6 [] U (fO uQ U (qO 3 U (hx _ rd)))
theorem Iu(h l fm fj signed bK bJ)(Ec:Int)(dU)(hl:SlC av.rp h fm fj l)(gL:SlC vB h bK bJ signed)(hsg:signed.length=l.length)(hsn:signed.length<=2000000)(hnd:∀d∈l,d.e9.length<=16)(hi:0<=Ec/\Ec<(l.length:Int)):Ret prog 188 [.slice fm l.length fj,.slice bK signed.length bJ,I Ec,I dU] h (.tuple #[I ((kv l signed Ec dU).1),I ((kv l signed Ec dU).2)]):=by
 refine sT func188 U ntmps188 U λX hM hX hF=>?_
 have hs0:=@rfl _ (kv l signed Ec dU)
 have hll:=SR l signed dU hsg
 refine qT 10 U (aM (cW call289 (Iw _ _ _ _ _ _ _ dU hl gL ob ob ob) U (λv1 h1 hle1 hp1=>?_)))
 obtain⟨rb1,rc1,rfl,sl1⟩:=hp1
 refine qO 4 U (aM (sM Hs ty4 (λb1=>qO 7 U ?_)))
 obtain⟨G2,gr2,ge1⟩:∃G:LH,cI Yy 4 h1 ([]) (zAD b1) 0 G/\[(b1,O [] 4)]=G:=⟨_,cI.lit (show dC Yy h1 [] ([])from rfl) rfl,rfl⟩
 refine dV (L':=([])++([(b1,O [] 4)]++([]))) ap ?_
 rw[ge1]
 refine jw (List.Perm.append_left _ jF) (dV (L':=G2) ap ?_)
 refine lp4 l (λi w=>[(0,.slice fm l.length fj),(1,.slice bK signed.length bJ),(2,I Ec),(3,I dU),(10,.slice rb1 ((bR l signed dU).length) rc1),(11,.slice w.2.1 w.1.length w.2.2.1),(12,I (i:Int))]) (λ_=>h1) (λw=>w.2.2.2) (λi w=>cI Yy 4 h1 w.1 w.2.1 w.2.2.1 w.2.2.2/\w.1.length<=0+i/\w.1.length=i) (λi w=>cI Yy 4 h1 w.1 w.2.1 w.2.2.1 w.2.2.2/\w.1.length<=0+i/\w.1.length=l.length) (λi g hi h=>⟨h.1,h.2.1,h.2.2.trans hi⟩) (λs1 i w=>(kv.L1 l signed dU (kv.K1 l signed Ec dU)) s1 i w.1) ([],(zAD b1),0,G2) ((hl.mono av.aK hle1).1.1) hs0 ⟨gr2,lo,U⟩ ?_ ?_ ?_
 .rintro i1 ⟨oI,UG,UF,Qm⟩ m4 hs1 ⟨Jq,Ql,u1_0⟩ e
  try dsimp only at Jq Ql u1_0
  refine qT 5 U (aM (cW call291 (AQ _ _ _ _ dU (gL.mono kM hle1) ob) U (λv3 h4 hle4 hp3=>?_)))
  obtain⟨rb3,rc3,rfl,sl4⟩:=hp3
  refine qO 3 U (sL Rp.sV ([]) Qm ([]) ap hM (Jq.mono Rp.sV hle4) (λh5 hle5 sl5=>dP call290 (AP _ _ _ _ _ _ _ _ _ _ Ec dU (hl.mono av.aK ((hle1.t hle4).t hle5)) (sl4.mono kM hle5) sl5 (λx hx=>by have hq:=vi signed dU x hx;omega) ob) U (qO 12 U (cQ hs1 U (λc2 hs2=>?_) (λc2 hs3=>?_)))))
  .refine qT 3 U ?_
   have ho3:0<=(Ec:Int)/\(Ec:Int)<(((bR l signed dU)).length:Int):=ob
   refine aM (vy (enc:=λy=>[I y]) ei fa ty3 (sl1.mono kM (hle4.t hle5)).1 ho3 (eH ho3) U U U (λq3 A3=>fV ty3 A3 U (qO 9 U ?_)))
   have hs4:kv l signed Ec dU=((gm l (bQ signed dU) oI Ec dU).1,(nthI (bR l signed dU) Ec)):=hs2
   exact nretP [I ((gm l (bQ signed dU) oI Ec dU).1),I (nthI (bR l signed dU) Ec)] (hs4▸U)
  refine qT 8 U ?_
  have hs5:kv l signed Ec dU=((gm l (bQ signed dU) oI Ec dU).1,(gm l (bQ signed dU) oI Ec dU).2):=hs3
  exact nretP [I ((gm l (bQ signed dU) oI Ec dU).1),I ((gm l (bQ signed dU) oI Ec dU).2)] (hs5▸U)
 .rintro i1 ⟨oI,UG,UF,Qm⟩ y1 rz1 hd1 mN kl oD yD hs6 ⟨Jq,Ql,u1_0⟩ hx1 ag1 e
  try dsimp only at Jq Ql u1_0
  refine qK 6 [] U (tO mN U (qO 9 U ?_))
  have ho4:0<=((i1:Int):Int)/\((i1:Int):Int)<(((bR l signed dU)).length:Int):=ob
  refine aM (vy (enc:=λy=>[I y]) ei fa ty3 sl1.1 ho4 (eH ho4) U U U (λq4 A4=>fV ty3 A4 U (Ra U (aM (bW (cells:=[.bool (decide ((nthI (bR l signed dU) (i1:Int))<0))]) Hs ty4 zc4 U U kr (λb3=>?_))))))
  let z1:Nat×Obj:=(b3,O [.bool (decide ((nthI (bR l signed dU) (i1:Int))<0))] 4)
  exact aM (fd Rp.FB ([z1]) ([]) (λG=>[z1]++G) ap (λ_=>ap) Hs ty4 zc4 U bytes4 Jq U U (iM 0 U (cE (decide ((nthI (bR l signed dU) (i1:Int))<0)) U U)) lo lo (λob2 oc2 G3 gr3=>qO 5 U (oi i1 U (an (dE (L':=G3) js (ag1 ((oI++[decide ((nthI (bR l signed dU) (i1:Int))<0)]),ob2,oc2,G3) hs6 ⟨gr3,lo,lo⟩))))))
 rintro i1 ⟨oI,UG,UF,Qm⟩ hd1 uQ hx e
 exact qK 6 [] U (fO uQ U (qO 3 U (hx _ rd)))
instance kC188:Ct 188:=⟨_,call188,@Iu⟩
theorem E5(h l fm fj signed bK bJ bD)(hl:SlC av.rp h fm fj l)(gL:SlC vB h bK bJ signed)(hsn:l.length<=2000000):jv prog 113 [.slice fm l.length fj,.slice bK signed.length bJ,I bD] h (λv h'=>∃(rb0:Option Addr)(rc0:Nat),v=.tuple #[.slice rb0 ((ia l signed bD).1).length rc0,I ((ia l signed bD).2)]/\SlC vB h' rb0 rc0 ((ia l signed bD).1)):=by
 refine sVv func113 ntmps113 ?_
 generalize hz:(ia l signed bD)=z
 have gk:=trivial
 have q0:=@EN
 have q1:=@Pk
 have HA:=hG [0,1,2] 10 9 vB 3 (λs1 i w=>(ia.L1 l signed bD (ia.K1)) s1 i w)
 exact W
instance kC113:Ct 113:=⟨_,call113,@E5⟩
theorem Kl(h gj)  : Ret prog 190 [I gj] h (.bool (vW gj)):=by
 refine sVv func190 ntmps190 ?_
 generalize hz:(vW gj)=z
 exact W
instance kC190:Ct 190:=⟨_,call190,@Kl⟩
theorem Km(h u qm ql)(hu:SlC Zz h qm ql u):Ret prog 189 [.slice qm u.length ql] h (.bool (gi u)):=by
 refine sVv func189 ntmps189 ?_
 generalize hz:(gi u)=z
 have HA:=h0 [0] 3 (λs1 i=>(gi.L1 u (gi.K1)) s1 i)
 have HB:=λ{y1}{rz1}{i1}=>h0 [0,3] 4 (λs1 i=>((gi.L3 u y1 ((gi.L1 u (gi.K1) rz1 (i1+1)))) s1 i))
 exact W
instance kC189:Ct 189:=⟨_,call189,@Km⟩
theorem GG(h)(x:Budget)(lx ah)  : Ret prog 356 [.agg (vS x).toArray,I lx,I ah] h (.bool (jr x lx ah)):=by
 refine sVv func356 ntmps356 ?_
 generalize hz:(jr x lx ah)=z
 exact W
instance kC356:Ct 356:=⟨_,call356,@GG⟩
theorem GE(h l fm fj)(tg:Int)(bD ah)(hl:SlC xS h fm fj l)(hi:0<=tg/\tg<(l.length:Int)):Ret prog 292 [.slice fm l.length fj,I tg,I bD,I ah] h (.bool (il l tg bD ah)):=by
 refine sVv func292 ntmps292 ?_
 generalize hz:(il l tg bD ah)=z
 have HA:=h0 [0,2,3,9] 10 (λs1 i=>(il.L1 l tg bD ah (il.K1)) s1)
 exact W
instance kC292:Ct 292:=⟨_,call292,@GE⟩
theorem DW(h l fm fj Ff bD ah)(hl:SlC xS h fm fj l)(hsz0:l.length<=2000000):jv prog 193 [.slice fm l.length fj,I Ff,I bD,I ah] h (λv h'=>∃(rb0:Option Addr)(rc0:Nat),v=.slice rb0 (ec l Ff bD ah).length rc0/\SlC xS h' rb0 rc0 (ec l Ff bD ah)):=by
 refine sVv func193 ntmps193 ?_
 generalize hz:(ec l Ff bD ah)=z
 have HA:=hG [0,1,2,3] 10 9 xS 81 (λs1 i w=>(ec.L1 l Ff bD ah (ec.K1)) s1 i w)
 exact W
instance kC193:Ct 193:=⟨_,call193,@DW⟩
theorem Kk(h)(x:Budget)(u qm ql value dU ah)(hu:SlC Zz h qm ql u)(hxp:x.lC≠0):Ret prog 194 [.agg (vS x).toArray,.slice qm u.length ql,I value,I dU,I ah] h (.bool (mX x u value dU ah)):=by
 refine sVv func194 ntmps194 ?_
 generalize hz:(mX x u value dU ah)=z
 have HA:=lM [1,3,4,5] 13 (.mA (λv=>[(11,I v)]) (.mA (λv=>[(12,I v)]) .mE)) (λs1 i w=>(mX.L1 x dU ah (mX.K1 x)) s1 w.1 w.2.1)
 exact W
instance kC194:Ct 194:=⟨_,call194,@Kk⟩
theorem Kn(h l fm fj u qm ql Wl value cL ah)(hl:SlC xS h fm fj l)(hu:SlC Zz h qm ql u)(hsz:l.length<=2000000):Ret prog 114 [.slice fm l.length fj,.slice qm u.length ql,I Wl,I value,I cL,I ah] h (.tuple #[I ((kt l u Wl value cL ah).1),.bool ((kt l u Wl value cL ah).2.1),I ((kt l u Wl value cL ah).2.2)]):=by
 refine sVv func114 ntmps114 ?_
 generalize hz:(kt l u Wl value cL ah)=z
 have q0:=@MB
 have HA:=h0 [1,3,4,5,16] 17 (λs1 i=>(kt.L1 u value cL ah (kt.K1)) s1)
 exact W
instance kC114:Ct 114:=⟨_,call114,@Kn⟩
end
variable {E ty:TypeId}{G:LH}{P:Program}{X:Cx}{a:Bool}{base:Option Addr}{bk cap i m sz uy:Nat}{h:HF}{kn:IntKind}{w:World}{x y:Operand}{zs:List Go.Value}{α:Type}{R:Rp α}{xs:List α}
section
theorem Sd{t t':TypeId}{n1 n2 c1 c2 off off2 bk2:Nat}{cl vs:List Value}(hT:P.underlying t=some (.slice E))(hS:tySz P E=some (sz,a))(hb:w.heap[bk]? = some (.cells cl.toArray E (0,0)))(hv:vs.length=Nat.min n2 n1*sz)(hr:∀j v,vs[j]? = some v->w.cell? ⟨bk2,off2+j,none⟩=some v)(dN:off+vs.length<=cl.length)(h1:∀v∈vs,one v=true):
  (Builtin.copy_ #[t,t'] ty #[.slice (some ⟨bk,off,none⟩) n1 c1,.slice (some ⟨bk2,off2,none⟩) n2 c2]).run P w=.ok (.int .i64 ((Nat.min n2 n1:Nat):Int)) { w with heap:=w.heap.setIfInBounds bk (.cells (splice cl off vs).toArray E (0,0)) }:=by
 have hf:=run_firstCells_some (P:=P) w sz (Nat.min n2 n1) ⟨bk2,off2,none⟩ n2 c2 vs hv (λj v hj=>by
  have:(⟨bk2,off2,none⟩:Addr).add j=⟨bk2,off2+j,none⟩:=by
   by_cases e:j=0
   .subst e;simp[xP]
   .simp[xP,e]
  rw[this];exact hr j v hj)
 have hst:=km (P:=P) off vs 0 cl w hb (by simpa using dN) h1
 rw[Zu]at hst
 have hz:=eW hS w
 simp[Builtin.copy_,run_underlying hT,Builtin.lenOf,hz,hf,hst,goInt]
section
variable {P:Program} {b:Frame} {n:Nat} {ops:Array Oper} {F:List Frame->(Machine->Prop)->Prop} {e:Env} {ds:List Deferred} {X:Cx} {h:HF} {L:LH} {K:Env->HF->LH->Prop}
variable {d:Option Nat} {ty:TypeId} {pos:String} {af:Array Edge} {g:Option (Nat×Bool)}
theorem Ms(i j:Nat){t t' E2:TypeId}{n1 n2 c1 c2 off off2 bk2:Nat}{cl cl2 vs:List Value}(hT:P.underlying t=some (.slice E))(hS:tySz P E=some (sz,a))(hL:nth L i=some (bk,.cells cl.toArray E (0,0)))(hx:e.ev x=.slice (some ⟨bk,off,none⟩) n1 c1)(hL2:nth L j=some (bk2,.cells cl2.toArray E2 (0,0)))(hy:e.ev y=.slice (some ⟨bk2,off2,none⟩) n2 c2)(hv:vs.length=Nat.min n2 n1*sz)(hr:∀q v,vs[q]? = some v->cl2[off2+q]? = some v)(dN:off+vs.length<=cl.length)(h1:∀v∈vs,one v=true)(t2:K (pute e d (.int .i64 ((Nat.min n2 n1:Nat):Int))) h (setNth L i (bk,.cells (splice cl off vs).toArray E (0,0))))(hg:guardB ops e ⟨d,.call ⟨.builtin .copy,#[x,y],#[t,t']⟩,ty,pos,af,g⟩=true:=by rfl):Stp P b n ops F ds X ⟨d,.call ⟨.builtin .copy,#[x,y],#[t,t']⟩,ty,pos,af,g⟩ e h L K:=
 gZ hg λw hw=>by
  have hb:w.heap[bk]? = some (.cells cl.toArray E (0,0)):=by
   have h2:=hL
   rw[hZ]at h2
   exact hw.own _ (xD h2)
  have hru:=Sd (P:=P) (t':=t') (ty:=ty) (c1:=c1) (c2:=c2) (off2:=off2) hT hS hb hv (λq v hq=>hw.cell hL2 (by rw[hZ];exact hr q v hq)) dN h1
  refine⟨_,_,h,_,?_,hw.write hL _,t2⟩
  simp only[execOp,resolve,invoke,builtin]
  simp[hx,hy,hru]
theorem WE(i j:Nat){f:FuncId}{tS tR:TypeId}{ass:Array Operand}{ats:Array TypeId}{n1 n2 c1 c2 off1 off2 b1 b2 T1 T2:Nat}{cl1 cl2:List Value}(hc:∀args w,(callFunc f args).run P w=((Extern.SlicesOverlaps.overlaps #[tS,tS] #[tR] args).run P w).andThen λv w'=>.ok (.value v) w')(hT:P.underlying tS=some (.slice E))(hS:tySz P E=some (sz,a))(hvs:ass.toList.map e.ev=[.slice (some ⟨b1,off1,none⟩) n1 c1,.slice (some ⟨b2,off2,none⟩) n2 c2])(hL1:nth L i=some (b1,.cells cl1.toArray T1 (0,0)))(hL2:nth L j=some (b2,.cells cl2.toArray T2 (0,0)))(hij:i≠j)(hl2:cl2.length≠0)(t2:K (pute e d (.bool false)) h L)(hg:guardB ops e ⟨d,.call ⟨.value (.func f),ass,ats⟩,ty,pos,af,g⟩=true:=by rfl):Stp P b n ops F ds X ⟨d,.call ⟨.value (.func f),ass,ats⟩,ty,pos,af,g⟩ e h L K:=
 gZ hg λw hw=>by
  have hb1:w.heap[b1]? = some (.cells cl1.toArray T1 (0,0)):=by
   have h2:=hL1
   rw[hZ]at h2
   exact hw.own _ (xD h2)
  have hb2:w.heap[b2]? = some (.cells cl2.toArray T2 (0,0)):=by
   have h2:=hL2
   rw[hZ]at h2
   exact hw.own _ (xD h2)
  have hne:b1≠b2:=λhbb=>hij (by
   have h1:=hL1
   have h2:=hL2
   rw[hZ]at h1 h2
   have hd:=List.pairwise_iff_getElem.1 hw.dis
   obtain⟨hi,ei⟩:=List.getElem?_eq_some_iff.1 h1
   obtain⟨hj,ej⟩:=List.getElem?_eq_some_iff.1 h2
   rcases Nat.lt_trichotomy i j with hlt|heq|hlt
   .grind
   .exact heq
   .exact(hd j i (by simpa using hj) (by simpa using hi) hlt (by simp[ei,ej,hbb])).elim)
  have hru:=Lib.run_overlaps_apart (P:=P) w tS tR E hT sz (λw=>eW hS w) ⟨b1,off1,none⟩ ⟨b2,off2,none⟩ n1 c1 n2 c2 hne T1 T2 cl1.length cl2.length
   (by simp[World.shape?,hb1]) (by simp[World.shape?,hb2]) hl2 (by simp[World.frozen?,hb1]) (by simp[World.frozen?,hb1])
  refine⟨.bool false,w,h,_,?_,hw,t2⟩
  have harr:ass.map e.ev=#[.slice (some ⟨b1,off1,none⟩) n1 c1,.slice (some ⟨b2,off2,none⟩) n2 c2]:=zR (by simp[hvs])
  simp only[execOp,resolve,Env.ev,Deferred.ofValue,invoke,harr,Sem.run_bind,Sem.run_pure,Result.andThen_ok]
  rw[hc,show ∀z:Array Value,(#[]++z++#[]:Array Value)=z from λz=>by simp,hru];rfl
theorem E7{t:TypeId}{hi:Operand}{n:Nat}(hT:P.underlying t=some (.slice E))(hS:tySz P E=some (sz,a))(hx:e.ev x=.slice (some ⟨bk,0,none⟩) n cap)(hhi:e.ev hi=.int .i64 (m:Nat))(hm:m<=cap):
  ∀w,St X h L w->(execOp e.ev ⟨d,.slice t x none (some hi) none,ty,pos,af,g⟩).run P w=.ok (.value (.slice (some ⟨bk,0,none⟩) m cap)) w:=λw hw=>by
 simp[execOp,Instr.sliceAt,Instr.slice,Instr.sliceBounds,Instr.sliceBound,hx,hhi,asIntOf,run_underlying hT,eW hS,hm,xP]
theorem PU{t:TypeId}{lo:Operand}{n:Nat}(hT:P.underlying t=some (.slice E))(hS:tySz P E=some (sz,a))(hx:e.ev x=.slice base n cap)(hlo:e.ev lo=.int .i64 (i:Nat))(hi:i<=n):
  ∃v,∀w,St X h L w->(execOp e.ev ⟨d,.slice t x (some lo) none none,ty,pos,af,g⟩).run P w=.ok (.value v) w:=by
 by_cases h2:cap=i
 .exact⟨_,λw hw=>by simp[execOp,Instr.sliceAt,Instr.slice,Instr.sliceBounds,Instr.sliceBound,hx,hlo,asIntOf,run_underlying hT,eW hS,h2,hi];rfl⟩
 .exact⟨_,λw hw=>by simp[execOp,Instr.sliceAt,Instr.slice,Instr.sliceBounds,Instr.sliceBound,hx,hlo,asIntOf,run_underlying hT,eW hS,h2,hi];rfl⟩
theorem PL{t:TypeId}{lo:Operand}{n1:Nat}(hT:P.underlying t=some (.slice E))(hS:tySz P E=some (sz,a))(hx:e.ev x=.slice base n1 cap)(hlo:e.ev lo=.int .i64 (i:Nat))(hi:i<=n1)(t':∀v,K (pute e d v) h L)(hg:guardB ops e ⟨d,.slice t x (some lo) none none,ty,pos,af,g⟩=true:=by rfl):Stp P b n ops F ds X ⟨d,.slice t x (some lo) none none,ty,pos,af,g⟩ e h L K:=by
 obtain⟨v,hv⟩:=PU (P:=P) (X:=X) (h:=h) (L:=L) (d:=d) (ty:=ty) (pos:=pos) (af:=af) (g:=g) hT hS hx hlo hi
 exact em (v:=v) hv (t' v) hg
theorem AD{todo:List Item}(sl:List (Nat×Value))(hr:fy e sl)(t:∀e',TT P b n todo F (upds e' sl) ds X h L):TT P b n todo F e ds X h L:=by rw[←hr.upds];exact t e
theorem Od{t:TypeId}{c:Nat}(hT:P.underlying t=some (.slice E))(hx:e.ev x=.slice base m c):
  ∀w,St X h L w->(execOp e.ev ⟨d,.call ⟨.builtin .cap,#[x],#[t]⟩,ty,pos,af,g⟩).run P w=.ok (.value (.int .i64 (c:Nat))) w:=
 λw _=>by simp[execOp,resolve,invoke,builtin,Builtin.cap_,hx,run_underlying hT,goInt]
theorem Vs{t u:TypeId}{n c:Nat}(hT:P.underlying t=some (.slice E))(hx:e.ev x=.slice base n cap)(hy:e.ev y=.slice none m c):
  ∀w,St X h L w->(execOp e.ev ⟨d,.binOp .eql t x y u,ty,pos,af,g⟩).run P w=.ok (.value (.bool base.isNone)) w:=λw hw=>by
 have he:(Op.equal t (.slice base n cap) (.slice none m c)).run P w=.ok base.isNone w:=by
  rw[Op.equal,Op.maxDepth,show(10000:Nat)=9999+1 from rfl,Op.equalIn]
  cases base<;>simp[run_underlying hT]
 simp[execOp,hx,hy,eqGuard,binOp,he]
theorem E8{s t:TypeId}{S:TypeDesc}{kk k2:IntKind}{m m':Int}(hS:P.underlying s=some S)(hT:P.underlying t=some (.int k2))(hx:e.ev x=.int kk m)(hm:vC k2 m=m'):
  ∀w,St X h L w->(execOp e.ev ⟨d,.convert s t x,ty,pos,af,g⟩).run P w=.ok (.value (.int k2 m')) w:=λw hw=>by
 simp[execOp,convert,run_underlying hS,run_underlying hT,hx,Conv.intToInt,hm]
theorem PX{t u:TypeId}(hx:e.ev x=.int .u64 (m:Nat))(hy:e.ev y=.int .u64 1):
  ∀w,St X h L w->(execOp e.ev ⟨d,.binOp .shr t x y u,ty,pos,af,g⟩).run P w=.ok (.value (.int .u64 ((m/2:Nat):Int))) w:=λw hw=>by
 have:min 1 64=1:=rfl
 simp[execOp,hx,hy,eqGuard,binOp,Op.shift,Z8,this,Int.fdiv_eq_ediv_of_nonneg]
end
theorem N4(A Q:LH){t tn:TypeId}{k:Nat}(hw:St X h (A++(G++Q)) w)(hT:P.underlying t=some (.slice E))(hN:P.underlying tn=some (.int kn))(hS:tySz P E=some (R.sz,a))(hz:zeroC P E=some zs)(hzl:zs.length=R.sz)(hpos:0<R.sz)(hby:bytesOf P E=some uy)(hG:cI R E h xs base cap G)(hk:0<k)(hno:cap<xs.length+k)(hb:(xs.length+k)*uy<=140737488355328)(hb2:xs.length+k<=9223372036854775807):
  ∃bk cl sp cap' w',(Builtin.append_ #[t,tn] ty #[.slice base xs.length cap,.int kn k]).run P w=.ok (.slice (some ⟨bk,0,none⟩) (xs.length+k) cap') w'/\dC R h cl xs/\(cl++sp).length=cap'*R.sz/\xs.length+k<=cap' /\
   St X h ((bk,.cells (cl++sp).toArray E (0,0))::(A++(G++Q))) w':=by
 obtain⟨i,hi,hby'⟩:∃i,P.info? E=some i/\i.bytes=uy:=by
  unfold bytesOf at hby
  cases hi:P.info? E with
  |none=>simp[hi]at hby
  |some i=>exact⟨i,rfl,by simpa[hi]using hby⟩
 have hsz:i.size=R.sz:=by
  have:=eW hS w
  simpa[sizeOf,typeInfo,hi]using this
 obtain⟨z,hzz,hzc⟩:∃z,i.zero=some z/\z.cells=zs.toArray:=by
  unfold zeroC at hz
  cases hzz:i.zero with
  |none=>simp[hi,hzz]at hz
  |some z=>exact⟨z,rfl,by simp[hi,hzz]at hz;rw[mR,hz]⟩
 have hwd:St X h (A++(G++Q)) w.drew:=hw.drew _
 obtain⟨cl0,hc0,hf0⟩:∃cl0,dC R h cl0 xs/\(Builtin.firstCells R.sz xs.length (.slice base xs.length cap)).run P w.drew=.ok cl0.toArray w.drew:=by
  rcases hG with⟨rfl,rfl,rfl,rfl⟩|⟨bk,cl0,sp,rfl,hc0,hlen,dN,_,rfl⟩
  .exact⟨[],rfl,by simp[Builtin.firstCells]⟩
  .refine⟨cl0,hc0,run_firstCells_some _ _ _ _ _ _ _ hc0.len λj v hj=>?_⟩
   have hown:w.drew.heap[bk]? = some (.cells (cl0++sp).toArray E (0,0)):=hwd.own (bk,_) (by simp)
   have hlt:=(List.getElem?_eq_some_iff.1 hj).1
   rw[oJ]
   simp only[Ze,hown]
   simp[List.getElem?_append_left hlt,hj]
 have hfit:Builtin.nextslicecap (xs.length+k) cap*i.bytes<=281474976710656:=growslice_fits hno (by rw[hby'];exact hb)
 have h48':¬(281474976710656<Builtin.nextslicecap (xs.length+k) cap*i.bytes):=by omega
 have h63':¬(9223372036854775807<((xs.length:Int)+(k:Int))):=by omega
 have hroom:¬(xs.length+k<=cap):=by omega
 have hge:=grownCap_ge w (xs.length+k) cap E
 have hn:k≠0:=by omega
 have hwr:IntKind.i64.wrap (k:Int)=k:=by rw[IntKind.wrap_i64];omega
 have h48i:¬(281474976710656<(k:Int)*(i.bytes:Int)):=by
  rw[←Int.natCast_mul,hby']
  have:k*uy<=(xs.length+k)*uy:=Nat.mul_le_mul_right _ (by omega)
  omega
 have hneg:¬((k:Int)<0):=by omega
 have hns:¬(k*i.size=0):=Nat.mul_ne_zero hn (by omega)
 let nc:=grownCap w (xs.length+k) cap E
 let rest:=(Builtin.zeroCells z.cells k++Builtin.zeroCells z.cells (nc-(xs.length+k))).toList
 refine⟨w.heap.size,cl0,rest,nc,w.drew.alloc (.cells (cl0++rest).toArray E),?_,hc0,?_,hge,hwd.alloc (.cells (cl0++rest).toArray E (0,0))⟩
 .rw[←hsz]at hf0
  simp[Builtin.append_,run_underlying hT,run_underlying hN,asInt,asIntOf,hwr,hneg,h48i,hns,sizeOf,typeInfo,zeroValue,hi,hzz,hroom,h63',h48',Question.forced,hf0,newRow,grownCap,nc,rest]
  congr 2
  apply zR
  simp
 .have h1:rest.length=k*R.sz+(nc-(xs.length+k))*R.sz:=by
   simp[rest,Builtin.zeroCells,hzc,hzl]
  simp only[vA,h1,hc0.len,←Nat.add_mul]
  congr 1
  omega
section
variable {P:Program} {b:Frame} {n:Nat} {ops:Array Oper} {F:List Frame->(Machine->Prop)->Prop} {e:Env} {ds:List Deferred} {X:Cx} {h:HF} {L:LH} {K:Env->HF->LH->Prop}
variable {d:Option Nat} {ty:TypeId} {pos:String} {af:Array Edge} {g:Option (Nat×Bool)}
theorem E3(A G Q:LH){t tn:TypeId}{s:Operand}{k:Nat}(hL:L=A++(G++Q))(hT:P.underlying t=some (.slice E))(hN:P.underlying tn=some (.int kn))(hS:tySz P E=some (R.sz,a))(hz:zeroC P E=some zs)(hzl:zs.length=R.sz)(hpos:0<R.sz)(hby:bytesOf P E=some uy)(hG:cI R E h xs base cap G)(hx:e.ev s=.slice base m cap)(hm:m=xs.length)(hy:e.ev y=.int kn (k:Nat))(hk:0<k)(hno:cap<xs.length+k)(hb:(xs.length+k)*uy<=140737488355328)(hb2:xs.length+k<=9223372036854775807)(t':∀bk cl sp cap',dC R h cl xs->(cl++sp).length=cap'*R.sz->xs.length+k<=cap'->K (pute e d (.slice (some ⟨bk,0,none⟩) (xs.length+k) cap')) h ((bk,.cells (cl++sp).toArray E (0,0))::L))(hgd:guardB ops e ⟨d,.call ⟨.builtin .append,#[s,y],#[t,tn]⟩,ty,pos,af,g⟩=true:=by rfl):Stp P b n ops F ds X ⟨d,.call ⟨.builtin .append,#[s,y],#[t,tn]⟩,ty,pos,af,g⟩ e h L K:=
 gZ hgd λw hw=>by
  subst hL hm
  obtain⟨bk,cl,sp,cap',w',hr,h1,h2,h3,hst⟩:=N4 (P:=P) (ty:=ty) A Q hw hT hN hS hz hzl hpos hby hG hk hno hb hb2
  refine⟨_,w',h,_,?_,hst,t' _ _ _ _ h1 h2 h3⟩
  simp[execOp,resolve,invoke,builtin,hx,hy,hr]
end
end
variable {K:Env->HF->LH->Prop}{af:Array Edge}{d:Option Nat}{g:Option (Nat×Bool)}{l:List Oper}{ops:Array Oper}{pos:String}
section
theorem N5(hg:R.Good)(A Q:LH){t:TypeId}{ys:List α}{x:Value}(hw:St X h (A++(G++Q)) w)(hT:P.underlying t=some (.slice E))(hS:tySz P E=some (R.sz,a))(hz:zeroC P E=some zs)(hzl:zs.length=R.sz)(hby:bytesOf P E=some uy)(hG:cI R E h xs base cap G)(hsrc:Src R h (A++(G++Q)) x ys)(hb:(xs.length+ys.length)*uy<=140737488355328)(hb2:xs.length+ys.length<=9223372036854775807):
  ∃base' cap' G' w',(Builtin.append_ #[t,t] ty #[.slice base xs.length cap,x]).run P w=.ok (.slice base' (xs++ys).length cap') w'/\cI R E h (xs++ys) base' cap' G'/\St X h (A++(G'++Q)) w'/\∀p∈G',(∃q∈G,q.1=p.1)\/w.heap.size<=p.1:=by
 obtain⟨i,hi,hby'⟩:∃i,P.info? E=some i/\i.bytes=uy:=by
  unfold bytesOf at hby
  cases hi:P.info? E with
  |none=>simp[hi]at hby
  |some i=>exact⟨i,rfl,by simpa[hi]using hby⟩
 have hsz:i.size=R.sz:=by
  have:=eW hS w
  simpa[sizeOf,typeInfo,hi]using this
 obtain⟨z,hzz,hzc⟩:∃z,i.zero=some z/\z.cells=zs.toArray:=by
  unfold zeroC at hz
  cases hzz:i.zero with
  |none=>simp[hi,hzz]at hz
  |some z=>exact⟨z,rfl,by simp[hi,hzz]at hz;rw[mR,hz]⟩
 have hnewlen:(xs++ys).length=xs.length+ys.length:=by simp
 obtain⟨cl,bs,c,hx,hc,hf⟩:=vf (P:=P) hsrc hw
 by_cases hroom:xs.length+ys.length<=cap
 ·
  rcases hG with⟨rfl,rfl,rfl,rfl⟩|⟨bk,cl0,sp,rfl,hc0,hlen,dN,_,rfl⟩
  .have hy:ys=[]:=List.eq_nil_of_length_eq_zero (by simpa using hroom)
   subst hy
   cases hc
   refine⟨none,0,[],w,?_,cI.nil,by simpa using hw,λ_ hp=>(jA hp).elim⟩
   subst hx
   rw[←hsz]at hf
   simp[Builtin.append_,run_underlying hT,sizeOf,typeInfo,hi,Builtin.lenOf,hf]at hf ⊢
  .have hlcl:=hc.len
   have hl0:=hc0.len
   have hfit:cl.length<=sp.length:=by
    simp only[vA]at hlen
    have:(xs.length+ys.length)*R.sz<=cap*R.sz:=Nat.mul_le_mul_right _ hroom
    rw[Nat.add_mul]at this
    omega
   have hown:w.heap[bk]? = some (.cells (cl0++sp).toArray E (0,0)):=hw.own (bk,_) (by simp)
   have hst:=km (P:=P) (T:=E) (xs.length*R.sz) cl 0 (cl0++sp) w hown (by simp;omega) (by simpa using hc.Np hg)
   simp only[Zu]at hst
   have hwr:=hw.write (i:=A.length) (b:=bk) (o:=.cells (cl0++sp).toArray E (0,0)) (by simpa using Hi A _ Q) (.cells (splice (cl0++sp) (xs.length*R.sz) cl).toArray E (0,0))
   refine⟨some ⟨bk,0,none⟩,cap,[(bk,.cells (splice (cl0++sp) (xs.length*R.sz) cl).toArray E (0,0))],{ w with heap:=w.heap.setIfInBounds bk (.cells (splice (cl0++sp) (xs.length*R.sz) cl).toArray E (0,0)) },?_,?_,?_,λp hp=>.inl ⟨_,xC.2 rfl,by rw[xC.1 hp]⟩⟩
   .subst hx
    rw[←hsz]at hf hst ⊢
    simp[Builtin.append_,run_underlying hT,sizeOf,typeInfo,hi,Builtin.lenOf,hf,hroom,oJ,hst]
   .have hsp:=oK cl cl0 sp hfit
    rw[hl0]at hsp
    refine .inr ⟨bk,cl0++cl,sp.drop cl.length,rfl,dC.app hc hc0,?_,by simpa using hroom,by simpa using hb2,?_⟩
    .simp only[vA,List.length_drop]at hlen ⊢;omega
    .rw[hsp];simp
   .have:=CX A (bk,zH (cl0++sp).toArray E (0,0)) (bk,.cells (splice (cl0++sp) (xs.length*R.sz) cl).toArray E (0,0)) Q
    simp only[jJ,vD]at hwr ⊢
    rw[this]at hwr
    exact hwr
 ·
  have hcap:cap<xs.length+ys.length:=by omega
  have hwd:St X h (A++(G++Q)) w.drew:=hw.drew _
  obtain⟨cl0,hc0,hf0⟩:∃cl0,dC R h cl0 xs/\(Builtin.firstCells R.sz xs.length (.slice base xs.length cap)).run P w.drew=.ok cl0.toArray w.drew:=by
   rcases hG with⟨rfl,rfl,rfl,rfl⟩|⟨bk,cl0,sp,rfl,hc0,hlen,dN,_,rfl⟩
   .exact⟨[],rfl,by simp[Builtin.firstCells]⟩
   .refine⟨cl0,hc0,run_firstCells_some _ _ _ _ _ _ _ hc0.len λj v hj=>?_⟩
    have hown:w.drew.heap[bk]? = some (.cells (cl0++sp).toArray E (0,0)):=hwd.own (bk,_) (by simp)
    have hlt:=(List.getElem?_eq_some_iff.1 hj).1
    rw[oJ]
    simp only[Ze,hown]
    simp[List.getElem?_append_left hlt,hj]
  obtain⟨cl',_,_,hx',hc',hf'⟩:=vf (P:=P) hsrc hwd
  have hfit:Builtin.nextslicecap (xs.length+ys.length) cap*i.bytes<=281474976710656:=growslice_fits hcap (by rw[hby'];exact hb)
  have h48':¬(281474976710656<Builtin.nextslicecap (xs.length+ys.length) cap*i.bytes):=by omega
  have h63':¬(9223372036854775807<((xs.length:Int)+(ys.length:Int))):=by omega
  have hge:=grownCap_ge w (xs.length+ys.length) cap E
  let nc:=grownCap w (xs.length+ys.length) cap E
  let rest:=(Builtin.zeroCells z.cells (nc-(xs.length+ys.length))).toList
  refine⟨some ⟨w.heap.size,0,none⟩,nc,[(w.heap.size,.cells ((cl0++cl')++rest).toArray E (0,0))],w.drew.alloc (.cells ((cl0++cl')++rest).toArray E),?_,?_,?_,λp hp=>.inr (by rw[xC.1 hp];exact xE _)⟩
  .subst hx
   rw[←hsz]at hf0 hf'
   simp[Builtin.append_,run_underlying hT,sizeOf,typeInfo,zeroValue,hi,hzz,Builtin.lenOf,hroom,h63',h48',Question.forced,hf0,hf',newRow,grownCap,nc,rest]
   congr 2
   apply zR
   simp
  .refine .inr ⟨w.heap.size,cl0++cl',rest,rfl,dC.app hc' hc0,?_,by rw[hnewlen];exact hge,by rw[hnewlen];exact hb2,rfl⟩
   have:rest.length=(nc-(xs.length+ys.length))*R.sz:=by
    simp[rest,Builtin.zeroCells,hzc,hzl]
   simp only[vA,this,hc0.len,hc'.len,←Nat.add_mul]
   congr 1
   omega
  .have h1:=hwd.alloc (.cells ((cl0++cl')++rest).toArray E (0,0))
   have hsub:((w.heap.size,zH ((cl0++cl')++rest).toArray E (0,0))::(A++Q)).Sublist ((w.heap.size,zH ((cl0++cl')++rest).toArray E (0,0))::(A++(G++Q))):=
    .cons_cons _ ((List.Sublist.refl A).append (List.sublist_append_right G Q))
   have h2:=h1.sub hsub
   exact h2.perm (List.perm_middle.symm)
section
variable {P:Program} {b:Frame} {n:Nat} {k:List Item} {F:List Frame->(Machine->Prop)->Prop} {e:Env} {ds:List Deferred} {X:Cx} {h:HF} {L:LH}
def Nw(X:Cx)(G:LH):Prop:=∀p∈G,p.1∉X.M
theorem PH(hg:R.Good){t:TypeId}{s:Operand}{ys:List α}{Q:LH}{d:Nat}(hXM:∀b∈X.M,b<X.w0.heap.size)(hN:Nw X G)(hp:L.Perm (G++Q))(hT:P.underlying t=some (.slice E))(hS:tySz P E=some (R.sz,a))(hz:zeroC P E=some zs)(hzl:zs.length=R.sz)(hby:bytesOf P E=some uy)(hG:cI R E h xs base cap G)(hx:e.ev s=.slice base m cap)(hm:m=xs.length)(hsrc:Src R h (G++Q) (e.ev y) ys)(hb:(xs.length+ys.length)*uy<=140737488355328)(hb2:xs.length+ys.length<=9223372036854775807)(t':∀base' cap' G',cI R E h (xs++ys) base' cap' G'->Nw X G'->TO P b n ops l k F (upd e d (.slice base' (xs++ys).length cap')) ds X h (G'++Q))(hd:Nat.blt d n=true:=by rfl)(hgd:guardB ops e ⟨some d,.call ⟨.builtin .append,#[s,y],#[t,t]⟩,ty,pos,af,g⟩=true:=by rfl):TO P b n ops (⟨some d,.call ⟨.builtin .append,#[s,y],#[t,t]⟩,ty,pos,af,g⟩::l) k F e ds X h L:=
 uC hp (aM (gZ hgd λw hw=>by
  subst hm
  obtain⟨base',cap',G',w',hr,hG',hst,hnew⟩:=N5 (P:=P) (ty:=ty) hg [] Q hw hT hS hz hzl hby hG hsrc hb hb2
  refine⟨_,w',h,_,?_,hst,t' _ _ _ hG' (λp hp hM=>?_)⟩
  .simp[execOp,resolve,invoke,builtin,hx,hr]
  .rcases hnew p hp with⟨q,hq,e1⟩|h1
   .exact hN q hq (e1▸hM)
   .have:=hXM _ hM;have:=hw.size;omega) rfl hd)
theorem PN{t:TypeId}(hXM:∀b∈X.M,b<X.w0.heap.size)(hT:P.underlying t=some (.slice E))(hS:tySz P E=some (sz,a))(t':∀bk,bk∉X.M->K (pute e d (.slice (some ⟨bk,0,none⟩) 0 0)) h ((bk,.cells [].toArray E (0,0))::L))(hg:guardB ops e ⟨d,.buildSlice t 0 #[],ty,pos,af,g⟩=true:=by rfl):Stp P b n ops F ds X ⟨d,.buildSlice t 0 #[],ty,pos,af,g⟩ e h L K:=
 gZ hg λw hw=>by
  refine⟨_,_,h,_,?_,hw.alloc _,t' _ (λhm=>by have:=hXM _ hm;have:=hw.size;omega)⟩
  have h0:(Array.range 0).map (λ_:Nat=>(default:Value))=#[]:=by apply Array.eq_empty_of_size_eq_zero;simp
  simp[execOp,Instr.buildSlice,run_underlying hT,eW hS,Instr.fill,newRow,h0]
theorem Sb{o:Oper}(i:Nat){ob:Obj}(hi:nth L i=some (bk,ob))(hM:bk∉X.M)(t:∀h2,h.le h2->h2 bk=some ob->Stp P b n ops F ds X o e h2 (dropNth L i) K)(hg:guardB ops e o=true:=by rfl):Stp P b n ops F ds X o e h L K:=by
 unfold Stp
 rw[if_pos hg]
 intro w hw
 have h1:=hw.perm (ou L i _ hi)
 have:=t _ (HF.zg (h1.free (bk,ob) (by simp))) (HF.tW _ _ _)
 unfold Stp at this
 rw[if_pos hg]at this
 exact this w (h1.freeze hM)
theorem St.freezeNw{w:World}:∀{G Q:LH}{h:HF},Nw X G->St X h (G++Q) w->St X (h.addAll G) Q w/\h.le (h.addAll G)/\∀p∈G,(h.addAll G) p.1=some p.2
 |[],_,h,_,s=>⟨s,HF.le_refl _,λ_ hp=>(jA hp).elim⟩
 |(b,o)::G,Q,h,hN,s=>by
  have h1:=s.freeze (hN _ (xB ..))
  obtain⟨a,c,d⟩:=St.freezeNw (λp hp=>hN p (qC _ hp)) h1
  have dN:h.le (h.add b o):=HF.zg (s.free (b,o) (by simp))
  refine⟨a,kA dN c,λp hp=>?_⟩
  rcases List.mem_cons.1 hp with rfl|hp
  .exact c _ _ (HF.tW _ _ _)
  .exact d p hp
theorem NM{Q:LH}(hm:R.Mono)(hp:L.Perm (G++Q))(hN:Nw X G)(hG:cI R E h xs base cap G)(t:∀h2,h.le h2->SlC R h2 base cap xs->TO P b n ops l k F e ds X h2 Q):TO P b n ops l k F e ds X h L:=λw hw=>by
 obtain⟨a,c,d⟩:=St.freezeNw hN (hw.perm hp)
 exact t _ c (hG.frozen hm c d) w a
end
end
variable {v:Go.Value}
section
open Go.Proofs Go.Proofs.Tryz
theorem IC{e:Env}{L:LH}{t:TypeId}{hi:Operand}(hT:P.underlying t=some (.slice E))(hS:tySz P E=some (sz,a))(hx:e.ev x=.slice none 0 0)(hhi:e.ev hi=.int .i64 ((0:Nat):Int)):
  ∀w,St X h L w->(execOp e.ev ⟨d,.slice t x none (some hi) none,ty,pos,af,g⟩).run P w=.ok (.value (.slice none 0 0)) w:=λw hw=>by
 simp[execOp,Instr.sliceAt,Instr.slice,Instr.sliceBounds,Instr.sliceBound,hx,hhi,asIntOf,run_underlying hT,eW hS]
def sumL{α : Type}:List (List α)->Nat->Nat
 |[],g=>g
 |y::r,g=>sumL r (g+y.length)
theorem Mi{α : Type}:∀(ls:List (List α))(g m:Nat),(∀y∈ls,y.length<=m)->sumL ls g<=g+ls.length*m
 |[],g,m,_=>by simp[sumL]
 |y::r,g,m,h=>by
  have h1:=Mi r (g+y.length) m (λz hz=>h z (qC _ hz))
  have h2:=h y (xB ..)
  simp only[sumL,xA,Nat.add_mul,Nat.one_mul];omega
theorem EX{α : Type}:∀(ls:List (List α))(g:Nat),sumL ls g=g+ls.flatten.length
 |[],g=>by simp[sumL]
 |y::r,g=>by rw[sumL,EX r];simp;omega
theorem Jz{l r:List α}{y:α}(h:l.drop i=y::r):y∈l:=List.mem_of_mem_drop (h▸xB .. : y∈l.drop i)
theorem K8{ls r:List (List α)}{y:List α}(h:ls.drop i=y::r):(ls.take i).flatten.length+y.length<=ls.flatten.length:=by
 have:=congrArg (λl=>(List.flatten l).length) (List.take_append_drop i ls)
 grind
theorem u64w(h:m<=9223372036854775807):vC .u64 (m:Int)=m:=by grind [vC,aAH,Z8]
theorem i64w(h:m<=9223372036854775807):vC .i64 (m:Int)=m:=by
 have:=kW (z:=(m:Int)) ob
 injection this
def OS(x:List Int)(h:HF)(vs:List Value):Prop:=∃b c,vs=[.slice b x.length c]/\SlC vB h b c x
theorem wrapU(h:m<=9223372036854775807):vC .u64 (m:Int)=m:=by grind [vC,aAH,Z8]
def FnC(h:HF)(v:Value)(f:List Int->Bool):Prop:=(∃fn fi ca,v=.func fn fi ca)/\∀(h':HF)(w:List Int)(wb:Option Addr)(wc:Nat),h.le h'->SlC vB h' wb wc w->w.length<=1000000->ra prog v [.slice wb w.length wc] h' [] (.bool (f w))
theorem FnC.mono{h':HF}{f:List Int->Bool}(a:FnC h v f)(hl:h.le h'):FnC h' v f:=⟨a.1,λh2 w wb wc l=>a.2 h2 w wb wc (kA hl l)⟩
def rpFn:Rp (List Int->Bool):=⟨1,λh cs f=>∃v,cs=[v]/\FnC h v f⟩
theorem Lg:rpFn.Good:=⟨λ_ _ _ _ hl⟨v,a,b⟩=>⟨v,a,b.mono hl⟩,λ_ _ _⟨v,a,b⟩=>by obtain⟨_,_,_,rfl⟩:=b.1;subst a;rfl,Nat.one_pos⟩
instance:RpG rpFn:=⟨Lg⟩
def QOk(h:HF)(v:Value)(q:QP)(e:Int):Prop:=∃(fb:Option Addr)(fc:Nat)(nb:Option Addr)(nc:Nat)(ob:Option Addr)(oc:Nat)(dv:Value),v=.tuple #[.agg #[.bool q.closed,.slice fb q.free.length fc,.slice nb q.needs.length nc,.slice ob q.over.length oc,dv],I e]/\one dv=true /\
 SlC vB h fb fc q.free/\SlC vB h nb nc q.needs/\SlC vB h ob oc q.over/\(e=0->FnC h dv q.decides)
theorem nthMem{L:LH}{p:Nat×Obj}(h:nth L i=some p):p∈L:=by rw[hZ]at h;exact xD h
def MOk(h:HF)(v:Value)(M:List eQ×Bool×Int):Prop:=∃(lb:Option Addr)(lc:Nat),v=.tuple #[.slice lb M.1.length lc,.bool M.2.1,I M.2.2]/\SlC eQ.rp h lb lc M.1
def FnI(h:HF)(v:Value)(f:Int->Bool):Prop:=(∃fn fi ca,v=.func fn fi ca)/\∀(h':HF)(n:Int),h.le h'->ra prog v [I n] h' [] (.bool (f n))
theorem FnI.mono{h':HF}{f:Int->Bool}(a:FnI h v f)(hl:h.le h'):FnI h' v f:=⟨a.1,λh2 n l=>a.2 h2 n (kA hl l)⟩
theorem O9{κ α : Type}{enc:κ->Value}{V:HF->Value->α->Prop}{h:HF}:∀{es:List MapEntry}{m:List (κ×α)}{i:Nat}{en:MapEntry},sy enc V h es m->es[i]? = some en->∃p,m[i]? = some p/\en.key=enc p.1/\V h en.val p.2
 |e::es,(k,v)::m,0,en,hE,hi=>by simp at hi;subst hi;exact⟨(k,v),rfl,hE.1,hE.2.1⟩
 |e::es,(k,v)::m,i+1,en,hE,hi=>O9 (m:=m) hE.2.2 (by simpa using hi)
 |[],[],i,en,_,hi=>by simp at hi
 |_::_,[],i,en,hE,_=>hE.elim
 |[],_::_,i,en,hE,_=>hE.elim
theorem Cq(h:HF)(s:List Int)(qy:Option Addr)(pZ:Nat)(hs:SlC vB h qy pZ s)(hsz:s.length<=2000000):SO prog 79 [.slice qy s.length pZ] h vB 3 s:=by
 intro w hp
 by_cases hne:s=[]
 .subst hne
  cases qy with
  |none=>
   refine(jW (Tryz.slices_Clone_int_nil 0 pZ w) (λw' hw=>by cases hw.1)).mono ?_
   rintro e w' ⟨rfl,rfl⟩
   exact⟨h,[],St.start hp,rfl,none,0,rfl,cI.nil⟩
  |some a=>
   refine(jW (Tryz.slices_Clone_int_zero a pZ w) (λw' hw=>by obtain⟨_,e,_⟩:=hw;cases e)).mono ?_
   rintro e w' ⟨v,rfl,ho,_,hb⟩
   exact Lt (xs:=[]) hp hb ho
 .obtain⟨g,off,rfl,hc⟩:=Rk hs.1 hne
  refine(jW (Tryz.slices_Clone_int g off s.length pZ s w (xE _) (by omega) (hc w hp)) (λw' hw=>by obtain⟨_,e,_⟩:=hw;cases e)).mono ?_
  rintro e w' ⟨v,rfl,ho,_,hb⟩
  rw[List.take_length]at ho
  exact Lt hp hb ho
end
section
open Go.Proofs Go.Proofs.Tryz
set_option maxHeartbeats 2000000
theorem Gv(h gj)  : Ret prog 115 [I gj] h (.bool (rK gj)):=by
 refine sVv func115 ntmps115 ?_
 generalize hz:(rK gj)=z
 exact W
instance kC115:Ct 115:=⟨_,call115,@Gv⟩
theorem Ie(h co eP signed bK bJ u qm ql aP cL ah)(m5:vL h co eP)(gL:SlC vB h bK bJ signed)(hu:SlC Zz h qm ql u)(hsm:smR co):Ret prog 40 [.agg (qD co eP).toArray,.slice bK signed.length bJ,.slice qm u.length ql,I aP,I cL,I ah] h (I (pt co signed u aP cL ah)):=by
 refine sVv func40 ntmps40 ?_
 generalize hz:(pt co signed u aP cL ah)=z
 have hsq:=hsm;unfold smR at hsq
 exact W
instance kC40:Ct 40:=⟨_,call40,@Ie⟩
theorem pW(h l fm fj)(t:Int)(cmp:av->Int->Int)(cmp_v)(k:Nat)(hl:SlC av.rp h fm fj l)(hcmp:∀(h':HF)(fh:av)(r_:lv)(CE:Int),jL h h'->av.ok h' fh r_->ra prog cmp_v [.agg (av.cells fh r_).toArray,I CE] h' [] (I (cmp fh CE)))(hk:k<=l.length)(hlo:∀i y,i<k->l[i]? = some y->cmp y t<0)(hhi:∀i y,k<=i->l[i]? = some y->¬cmp y t<0)(hsz:l.length<=2000000):
  Ret prog 143 [.slice fm l.length fj,I t,cmp_v] h (retVal [I (k:Nat),.bool ((l[k]?).any λy=>cmp y t==0)]):=by
 refine sT func143 U ntmps143 U λX hM hX hF=>qK 18 [] U ?_
 refine fZ (ι:=Unit) (λ_=>[(0,.slice fm l.length fj),(1,I t),(2,cmp_v),(8,I (l.length:Int)),(9,I (k:Int))]) (λ_=>h) (λ_=>[]) (λ_=>True) ?_ (λhx=>?_)
 .rintro⟨⟩ _ e
  refine qT 5 U ?_
  rcases zK k l.length with hlt|hge
  .have hget:l[k]? = some l[k]:=List.getElem?_eq_getElem hlt
   refine tO (decide_eq_true ob) U (qO 4 U (aM (iR EU ty54 hl.1 hget U U U (λ_ _ _ e=>e) (λq r_ A ok_=>gV ty54 A U U (cN (aM (kj (v:=I (cmp l[k] t)) [] (List.nil_sublist _) (hcmp h l[k] _ t lf ok_) U U (gE (v':=.bool (cmp l[k] t==0)) U U (sP (s:=true) U (qO 3 U (nretP [I (k:Int),.bool (cmp l[k] t==0)] ?_)))))))))))
   rw[hget];rfl
  have hget:l[k]? = none:=List.getElem?_eq_none hge
  refine fO (decide_eq_false ob) U (qO 9 U (sP (s:=false) U (qO 3 U (nretP [I (k:Int),.bool false] ?_))))
  rw[hget];rfl
 refine i9 (ι:=Nat×Nat) (λi=>[(0,.slice fm l.length fj),(1,I t),(2,cmp_v),(8,I (l.length:Int)),(9,I (i.1:Int)),(10,I (i.2:Int))]) (λi=>h) (λi=>[]) (λi=>i.1<=k/\k<=i.2/\i.2<=l.length) (λi=>i.2-i.1) (0,l.length) rd (λw hw=>hw) ⟨jH _,hk,xE _⟩ ?_
 rintro⟨i,j⟩ ⟨hik,hkj,hjl⟩ ag e
 dsimp only at hik hkj hjl
 rcases zK i j with hij|hij
 .refine qT 5 U (tO (decide_eq_true ob) U (qO 8 U (gE (v':=I ((i+j:Nat):Int)) U (by rw[kW ob];rfl) (aM (em (E8 (m':=((i+j:Nat):Int)) nz NH U (u64w ob)) (aM (em (PX (m:=i+j) U U) (aM (em (E8 (m':=(((i+j)/2:Nat):Int)) NH nz U (i64w ob)) ?_)))))))))
  obtain⟨q,hq⟩:∃q,(i+j)/2=q:=⟨_,rfl⟩
  rw[hq]
  have hqj:q<j:=by omega
  have hget:l[q]? = some l[q]:=List.getElem?_eq_getElem ob
  refine qO 7 U (aM (iR EU ty54 hl.1 hget U U U (λ_ _ _ e=>e) (λq' r_ A ok_=>gV ty54 A U U (cN (aM (kj (v:=I (cmp l[q] t)) [] (List.nil_sublist _) (hcmp h l[q] _ t lf ok_) U U ?_))))))
  by_cases hc:cmp l[q] t<0
  .have hqk:q<k:=by
    rcases zK q k with h1|h1
    .exact h1
    exact(hhi q _ h1 hget hc).elim
   exact tO (decide_eq_true hc) U (qO 4 U (oi q U (qO 3 U (ag (q+1,j) _ (by show j-(q+1)<j-i;omega) ⟨hqk,hkj,hjl⟩ rd))))
  have hqk:k<=q:=by
   rcases zK q k with h1|h1
   .exact(hc (hlo q _ h1 hget)).elim
   exact h1
  exact fO (decide_eq_false hc) U (qO 7 U (ag (i,q) _ (by show q-i<j-i;omega) ⟨hik,hqk,by show q<=l.length;omega⟩ rd))
 have hki:i=k:=by omega
 subst hki
 exact dZ (qT 4 U (fO (decide_eq_false ob) U (qO 3 U (hx () _ trivial rd))))
theorem qw(h l fm fj)(t:Int)(cmp:aD->Int->Int)(cmp_v)(k:Nat)(hl:SlC aD.rp h fm fj l)(hcmp:∀(h':HF)(fh:aD)(r_:nP)(CE:Int),jL h h'->aD.ok h' fh r_->ra prog cmp_v [.agg (aD.cells fh r_).toArray,I CE] h' [] (I (cmp fh CE)))(hk:k<=l.length)(hlo:∀i y,i<k->l[i]? = some y->cmp y t<0)(hhi:∀i y,k<=i->l[i]? = some y->¬cmp y t<0)(hsz:l.length<=2000000):
  Ret prog 238 [.slice fm l.length fj,I t,cmp_v] h (retVal [I (k:Nat),.bool ((l[k]?).any λy=>cmp y t==0)]):=by
 refine sT func238 U ntmps238 U λX hM hX hF=>qK 18 [] U ?_
 refine fZ (ι:=Unit) (λ_=>[(0,.slice fm l.length fj),(1,I t),(2,cmp_v),(8,I (l.length:Int)),(9,I (k:Int))]) (λ_=>h) (λ_=>[]) (λ_=>True) ?_ (λhx=>?_)
 .rintro⟨⟩ _ e
  refine qT 5 U ?_
  rcases zK k l.length with hlt|hge
  .have hget:l[k]? = some l[k]:=List.getElem?_eq_getElem hlt
   refine tO (decide_eq_true ob) U (qO 4 U (aM (iR Ht ty63 hl.1 hget U U U (λ_ _ _ e=>e) (λq r_ A ok_=>gV ty63 A U U (cN (aM (kj (v:=I (cmp l[k] t)) [] (List.nil_sublist _) (hcmp h l[k] _ t lf ok_) U U (gE (v':=.bool (cmp l[k] t==0)) U U (sP (s:=true) U (qO 3 U (nretP [I (k:Int),.bool (cmp l[k] t==0)] ?_)))))))))))
   rw[hget];rfl
  have hget:l[k]? = none:=List.getElem?_eq_none hge
  refine fO (decide_eq_false ob) U (qO 9 U (sP (s:=false) U (qO 3 U (nretP [I (k:Int),.bool false] ?_))))
  rw[hget];rfl
 refine i9 (ι:=Nat×Nat) (λi=>[(0,.slice fm l.length fj),(1,I t),(2,cmp_v),(8,I (l.length:Int)),(9,I (i.1:Int)),(10,I (i.2:Int))]) (λi=>h) (λi=>[]) (λi=>i.1<=k/\k<=i.2/\i.2<=l.length) (λi=>i.2-i.1) (0,l.length) rd (λw hw=>hw) ⟨jH _,hk,xE _⟩ ?_
 rintro⟨i,j⟩ ⟨hik,hkj,hjl⟩ ag e
 dsimp only at hik hkj hjl
 rcases zK i j with hij|hij
 .refine qT 5 U (tO (decide_eq_true ob) U (qO 8 U (gE (v':=I ((i+j:Nat):Int)) U (by rw[kW ob];rfl) (aM (em (E8 (m':=((i+j:Nat):Int)) nz NH U (u64w ob)) (aM (em (PX (m:=i+j) U U) (aM (em (E8 (m':=(((i+j)/2:Nat):Int)) NH nz U (i64w ob)) ?_)))))))))
  obtain⟨q,hq⟩:∃q,(i+j)/2=q:=⟨_,rfl⟩
  rw[hq]
  have hqj:q<j:=by omega
  have hget:l[q]? = some l[q]:=List.getElem?_eq_getElem ob
  refine qO 7 U (aM (iR Ht ty63 hl.1 hget U U U (λ_ _ _ e=>e) (λq' r_ A ok_=>gV ty63 A U U (cN (aM (kj (v:=I (cmp l[q] t)) [] (List.nil_sublist _) (hcmp h l[q] _ t lf ok_) U U ?_))))))
  by_cases hc:cmp l[q] t<0
  .have hqk:q<k:=by
    rcases zK q k with h1|h1
    .exact h1
    exact(hhi q _ h1 hget hc).elim
   exact tO (decide_eq_true hc) U (qO 4 U (oi q U (qO 3 U (ag (q+1,j) _ (by show j-(q+1)<j-i;omega) ⟨hqk,hkj,hjl⟩ rd))))
  have hqk:k<=q:=by
   rcases zK q k with h1|h1
   .exact(hc (hlo q _ h1 hget)).elim
   exact h1
  exact fO (decide_eq_false hc) U (qO 7 U (ag (i,q) _ (by show q-i<j-i;omega) ⟨hik,hqk,by show q<=l.length;omega⟩ rd))
 have hki:i=k:=by omega
 subst hki
 exact dZ (qT 4 U (fO (decide_eq_false ob) U (qO 3 U (hx () _ trivial rd))))
theorem Fi(h d BH no)(hd:av.ok h d BH):Ret prog 144 [.agg (av.cells d BH).toArray,I no] h (I (xu d no)):=by
 refine sVv func144 ntmps144 ?_
 generalize hz:(xu d no)=z
 exact W
theorem D8(h r tB r_q at_ at__q ah known_q d BH d_q)(hr:vL h r tB)(ar:At h r_q (qD r tB))(aat_:At h at__q [I at_])(aknown:At h known_q [I ah])(hd:av.ok h d BH)(ad:At h d_q (av.cells d BH))(hsm:smR r):Itr prog (.func (.func 235) #[] (List.toArray [.pointer (some r_q),.pointer (some at__q),.pointer (some known_q),.pointer (some d_q)])) te (aO r at_ ah d) h:=by
 refine sR call235 ?_
 intro yf ya yb C Sp Pn h1 A dN m1 m2 m3 hC hy
 refine mP S5 U ntmps235 U λX hXM hX=>?_
 have hs0:aO r at_ ah d=[]++aO r at_ ah d:=rfl
 refine qT 4 U ?_
 refine fZ (ι:=Nat×List Int×LH×HF) (λi=>[]) (λi=>i.2.2.2) (λi=>i.2.2.1) (λi=>i.1<=(zD 64).length/\aO r at_ ah d=i.2.1++((aO.K1))/\C i.2.1 i.2.2.2 i.2.2.1/\jL h1 i.2.2.2) ?_ (λhx1=>?_)
 .rintro⟨i1,dn1,A1_,hh1⟩ ⟨m4,hs1,hC1_,hl1⟩ e
  refine ij ?_
  have hs2:aO r at_ ah d=dn1:=hs1.trans (List.append_nil _)
  exact Bo [] (A:=A1_) S5 U (List.Sublist.refl _) (.inl (hs2▸hC1_))
 refine i9 (ι:=Nat×List Int×LH×HF×List Nat) (λi=>[(0,.func yf ya yb),(1,.pointer (some r_q)),(2,.pointer (some at__q)),(3,.pointer (some known_q)),(4,.pointer (some d_q)),(16,I (i.1:Int))]) (λi=>i.2.2.2.1) (λi=>i.2.2.1) (λi=>(zD 64).drop i.1=i.2.2.2.2/\i.1<=(zD 64).length/\aO r at_ ah d=i.2.1++((aO.L1 r at_ ah d (aO.K1)) i.2.2.2.2 i.1)/\C i.2.1 i.2.2.2.1 i.2.2.1/\jL h1 i.2.2.2.1) (λi=>i.2.2.2.2.length) (0,[],A,h1,(zD 64)) rd sw ⟨U,jH _,hs0,hC,lf⟩ ?_
 rintro⟨i1,dn1,A1_,hh1,s1⟩ ⟨hd1,m4,hs3,hC1_,hl1⟩ ag1 e
 rcases s1 with _|⟨y1,rz1⟩
 .have uQ:decide ((i1:Int)<64)=false:=by simpa using oW hd1
  exact sr (fO uQ U (qO 4 U (hx1 (i1,dn1,A1_,hh1) _ ⟨m4,hs3,hC1_,hl1⟩ trivial)))
 have mN:decide ((i1:Int)<64)=true:=by simpa using wp hd1
 have oD:i1<64:=by simpa using iy hd1
 refine sr (tO mN U (qO 20 U ?_))
 refine fZ (ι:=Nat×Bool) (λi=>[(0,.func yf ya yb),(1,.pointer (some r_q)),(2,.pointer (some at__q)),(3,.pointer (some known_q)),(4,.pointer (some d_q)),(6,I (i1:Int)),(7,.bool i.2),(16,I (i1:Int))]) (λi=>hh1) (λi=>A1_) (λi=>i.1<=(zD 32).length/\aO r at_ ah d=dn1++((λzg3_7=>(bif(!zg3_7)then(aO.L1 r at_ ah d (aO.K1) rz1 (i1+1))else(bif(!((dc r.dt (i1:Int) d.ju at_ ah).2.1))then((i1:Int)::(aO.L1 r at_ ah d (aO.K1) rz1 (i1+1)))else(aO.L1 r at_ ah d (aO.K1) rz1 (i1+1))))) i.2)) ?_ (λhx3=>?_)
 .rintro⟨i3,Ei⟩ ⟨Ed,hs5⟩ e
  refine qT 6 U (ld U (λc3=>?_) (λc3=>?_))
  .have hs6:=hs5.trans (congrArg (dn1++·) (bt c3))
   exact jZ U (bS (oi i1 U (qO 2 U (ag1 ((i1+1),dn1,A1_,hh1,rz1) _ (Nat.lt_succ_self _) ⟨ll hd1,iy hd1,hs6,hC1_,hl1⟩ rd))))
  have hs7:=hs5.trans (congrArg (dn1++·) (bf c3))
  refine qK 4 [] U (nv (j:=2) ty24 (ar.mono (dN.t hl1)) U U (qL 2 [] U (nv (j:=6) ty31 (ad.mono (dN.t hl1)) U U (fV ty3 (aat_.mono (dN.t hl1)) U (fV ty3 (aknown.mono (dN.t hl1)) U (aM (cW call237 (sE _ _ _ _ (i1:Int) _ _ _ at_ ah (hr.dt.mono aG.aK (dN.t hl1)) (hd.ju.mono kM (dN.t hl1)) hsm.2.2.2.1) U (λv1 h2 hle1 hp1=>?_))))))))
  obtain⟨rb1,rc1,rfl,sl1⟩:=hp1
  refine qO 13 U (vo 55 U (λc4=>?_) (λc4=>?_))
  .have hs8:=hs7.trans (congrArg (dn1++·) (bt c4))
   refine qO 2 U ?_
   have hx1:aO r at_ ah d=dn1++((i1:Int)::(aO.L1 r at_ ah d (aO.K1) rz1 (i1+1))):=hs8
   refine aM (qn ([]) A1_ ap (hy dn1 (i1:Int) _ _ _ _ hx1 (hl1.t hle1) (m1 _ _ _ _ hle1 hC1_) U) U U (λh3 A1 hle2 hC1=>?_) (λh4 A2 hle3 hS1=>?_) (λch1 h5 A3 hle4 hP1 e=>mz (xO [] (A:=A3) S5 (List.sublist_append_right _ _) hP1)))
   .have hs9:aO r at_ ah d=(dn1++[(i1:Int)])++((aO.L1 r at_ ah d (aO.K1) rz1 (i1+1))):=hx1.trans ap
    exact qf U (qO 6 U (oi i1 U (qO 2 U (ag1 ((i1+1),(dn1++[(i1:Int)]),A1,h3,rz1) _ (Nat.lt_succ_self _) ⟨ll hd1,iy hd1,hs9,hC1,((hl1.t hle1).t hle2)⟩ rd))))
   exact qf U (qO 3 U (ij (xI [] (A:=A2) S5 U (List.Sublist.refl _) (.inr hS1))))
  have hs10:=hs7.trans (congrArg (dn1++·) (bf c4))
  exact kq (qO 8 U (oi i1 U (qO 2 U (ag1 ((i1+1),dn1,A1_,h2,rz1) _ (Nat.lt_succ_self _) ⟨ll hd1,iy hd1,hs10,(m1 _ _ _ _ hle1 hC1_),(hl1.t hle1)⟩ rd))))
 refine i9 (ι:=Nat×Bool×List Nat) (λi=>[(0,.func yf ya yb),(1,.pointer (some r_q)),(2,.pointer (some at__q)),(3,.pointer (some known_q)),(4,.pointer (some d_q)),(6,I (i1:Int)),(7,.bool i.2.1),(16,I (i1:Int)),(19,I (i.1:Int))]) (λi=>hh1) (λi=>A1_) (λi=>(zD 32).drop i.1=i.2.2/\i.1<=(zD 32).length/\aO r at_ ah d=dn1++((aO.L3 r at_ ah i1 (λzg3_7=>(bif(!zg3_7)then(aO.L1 r at_ ah d (aO.K1) rz1 (i1+1))else(bif(!((dc r.dt (i1:Int) d.ju at_ ah).2.1))then((i1:Int)::(aO.L1 r at_ ah d (aO.K1) rz1 (i1+1)))else(aO.L1 r at_ ah d (aO.K1) rz1 (i1+1)))))) i.2.2 i.1 i.2.1)) (λi=>i.2.2.length) (0,false,(zD 32)) rd sw ⟨U,jH _,hs3⟩ ?_
 rintro⟨i3,Ei,s3⟩ ⟨hd3,M1,hs11⟩ ag2 e
 rcases s3 with _|⟨y3,rz3⟩
 .have W1:decide ((i3:Int)<32)=false:=by simpa using oW hd3
  exact sr (fO W1 U (qO 4 U (hx3 (i3,Ei) _ ⟨M1,hs11⟩ rd)))
 have Qa:decide ((i3:Int)<32)=true:=by simpa using wp hd3
 have OY:i3<32:=by simpa using iy hd3
 refine sr (tO Qa U (qL 14 [] U (fV ty22 (ar.mono (dN.t hl1)) U (qO 2 U (fV ty3 (aat_.mono (dN.t hl1)) U (fV ty3 (aknown.mono (dN.t hl1)) U (dP call236 (yt _ _ _ _ (i3:Int) (i1:Int) at_ ah (hr.da.mono aQ.aK (dN.t hl1))) U (qO 13 U (nH 2 [35,36,37] 35 37 ((ew r.da (i3:Int) (i1:Int) at_ ah).2.2.1) U (λc5 hk1=>?_) (λe=>?_))))))))))
 .exact cN (sP U (hk1 _ U))
 exact an (qT 2 U (oi i3 U (qO 2 U (ag2 ((i3+1),(Ei||(ew r.da (i3:Int) (i1:Int) at_ ah).2.2.1),rz3) _ (Nat.lt_succ_self _) ⟨ll hd3,iy hd3,hs11⟩ rd))))
instance kI235:CtI 235:=⟨_,@D8⟩
theorem GP(h co eP d BH bD ah)(m5:vL h co eP)(hd:av.ok h d BH)(hsm:smR co):jv prog 146 [.agg (qD co eP).toArray,.agg (av.cells d BH).toArray,I bD,I ah] h (λv h'=>∃(rv0:Value),v=rv0/\Itr prog rv0 te (gy co d bD ah) h'):=by
 refine sVv func146 ntmps146 ?_
 generalize hz:(gy co d bD ah)=z
 have hsq:=hsm;unfold smR at hsq
 exact W
theorem CD(h l fm fj kind bD ah)(hl:SlC xS h fm fj l)(hsz0:l.length<=2000000):jv prog 147 [.slice fm l.length fj,I kind,I bD,I ah] h (λv h'=>∃(rb0:Option Addr)(rc0:Nat),v=.tuple #[.slice rb0 ((ek l kind bD ah).1).length rc0,I ((ek l kind bD ah).2)]/\SlC xS h' rb0 rc0 ((ek l kind bD ah).1)):=by
 refine sVv func147 ntmps147 ?_
 generalize hz:(ek l kind bD ah)=z
 exact W
theorem Da(h x gU no)(hx:aD.ok h x gU):Ret prog 239 [.agg (aD.cells x gU).toArray,I no] h (I (uf x no)):=by
 refine sVv func239 ntmps239 ?_
 generalize hz:(uf x no)=z
 exact W
end
end Go.Sg
