import Derived.Test.YtafbfagbjekhhaaGreatDoorW2
/- A part of the proof of MissingNothing. -/
set_option linter.unusedVariables false
set_option linter.unusedSimpArgs false
set_option maxRecDepth 100000
open List renaming length_cons→zA,length_append→vA,not_mem_nil→kA,length_nil→zB,toArray→xB,mem_cons_self→kB,mem_singleton→xC,mem_cons_of_mem→jC,range→qE,mem_cons→zE,nil_append→zF,mem_append→zG,map_cons→vH,mem_map→zM,nodup_cons→zR,getElem?_map→kV,mem_filter→xW,foldl_cons→Wb,getElem?_of_mem→Wl
open Go.IntKind renaming wrap→vB
open Go.Value renaming int→qC,func→jQ
open Bool renaming and_eq_true→zC,or_eq_true→kD,not_eq_true'→qF,eq_iff_iff→jJ,false_eq_true→We
open Nat renaming le_refl→vE,zero_le→xH,le_trans→qM
open Go.Sg.OSeat renaming mk→vT
open Go.Sg.Budget renaming mk→Wt

namespace Go.Sg
variable {aV ah b dJ e k th:Int}{c u:Bool}{d:ao}{f:Unit->Except Int Unit}{l:List ao}{m:List (Int×Bool)}{p:aw}{q:List iv}{s:ByteArray}{signed:List Int}{st:List aF}{w:iv}{x:Except Int Unit}{α:Type}
def nf(UR:Int):(Except Int Unit):=(bif(UR != 0)then(Except.error UR)else(Except.ok ()))
def cQ.K1  : Int:=(-1)
def cQ.L1(f:(Int->Bool))(k:Int):List Int->Nat->Int
 |[],i1=>(k)
 |y1::rz1,i1=>(bif(f y1)then(i1:Int)else(cQ.L1 f k rz1 (i1+1)))
def cQ(s:List Int)(f:(Int->Bool)):Int:=((cQ.L1 f (cQ.K1)) s 0)
def et(s:List Int)(f:(Int->Bool)):Bool:=decide (0<=(cQ s f))
def kX(gp:Int)(v0:Int):Bool:=(decide (gp<0)||decide (v0<gp))
def fD(most:Int)(l:List Int):Bool:=(!(et l (λef=>kX ef most)))
def kO(x:ay):Bool:=(((((fD 1048576 ([x.No]))&&(fD 1099511627775 ([x.At,x.dU])))&&(fD 4095 ([x.Doc])))&&(fD 63 ([x.By,x.For])))&&(fD 31 ([x.ep])))
def cf.K1(lB:Int):Int:=0
def cf.L1(k:Int->Int):List ay->Int->Int
 |[],lB=>(k lB)
 |y1::rz1,lB=>(bif((!(kO y1))||decide (y1.No<=lB))then 280 else(cf.L1  k rz1 y1.No))
def cf(l:List ay):Int:=(bif(decide (4096<(l.length:Int)))then 2 else((cf.L1 (cf.K1)) l (-1)))
def hO(gp:Int)(low:Int)(high:Int):Bool:=(decide (low<=gp)&&decide (gp<=high))
def iQ(gp:Int):Bool:=(hO gp 0 31)
def ka(gp:Int):Bool:=(hO gp 0 63)
def fy(gp:Int):Bool:=(hO gp 0 1099511627775)
def pH(x:aK):Bool:=(bif x.mG then((((((hO x.No 0 1048576)&&(fy x.At))&&(fy x.dU))&&(iQ x.ep))&&(ka x.cZ))&&(hO x.j3 0 0))else((((((hO x.No 0 1048576)&&(fy x.At))&&(fy x.dU))&&(iQ x.ep))&&(ka x.cZ))&&(hO x.j3 1 64)))
def dz.K1(lB:Int):Int:=0
def dz.L1(k:Int->Int):List aK->Int->Int
 |[],lB=>(k lB)
 |y1::rz1,lB=>(bif((!(pH y1))||decide (y1.No<=lB))then 150 else(dz.L1  k rz1 y1.No))
def dz(l:List aK):Int:=(bif(decide (4096<(l.length:Int)))then 2 else((dz.L1 (dz.K1)) l (-1)))
def eP(gp:Int)(low:Int)(high:Int):Bool:=(decide (low<=gp)&&decide (gp<=high))
def kI(gp:Int):Bool:=(eP gp 0 1099511627775)
def jI(gp:Int):Bool:=(eP gp 0 63)
def oZ(x:bz):Bool:=(bif((((((((!(eP x.No 0 1048576))||(!(kI x.At)))||(!(kI x.dU)))||(!(jI x.From)))||(!(jI x.To)))||(x.From==x.To))||(!(eP x.ep 0 31)))||(!(eP x.Kind (-1) 15)))then false else(bif x.mG then((x.mT==0)&&(x.NN==0))else((decide (x.At<x.mT)&&decide (x.mT<=1099511627776))&&(eP x.NN 0 1099511627776))))
def dS.K1(lB:Int):Int:=0
def dS.L1(k:Int->Int):List bz->Int->Int
 |[],lB=>(k lB)
 |y1::rz1,lB=>(bif((!(oZ y1))||decide (y1.No<=lB))then 160 else(dS.L1  k rz1 y1.No))
def dS(l:List bz):Int:=(bif(decide (4096<(l.length:Int)))then 2 else((dS.L1 (dS.K1)) l (-1)))
def fh(gp:Int)(dJ:Int):Bool:=(decide (0<=gp)&&decide (gp<dJ))
def og(x:aF):Bool:=(bif x.Of then((((((fh x.No 1048577)&&(fh x.At 1099511627776))&&(fh x.dU 1099511627776))&&(fh x.iw 1048577))&&(fh x.cZ 1048577))&&(x.cZ != x.iw))else(((((fh x.No 1048577)&&(fh x.At 1099511627776))&&(fh x.dU 1099511627776))&&(fh x.iw 1048577))&&(fh x.cZ 64)))
def dj.K1(lB:Int):Int:=0
def dj.L1(k:Int->Int):List aF->Int->Int
 |[],lB=>(k lB)
 |y1::rz1,lB=>(bif((!(og y1))||decide (y1.No<=lB))then 290 else(dj.L1  k rz1 y1.No))
def dj(l:List aF):Int:=(bif(decide (4096<(l.length:Int)))then 2 else((dj.L1 (dj.K1)) l (-1)))
def lE(gp:Int)(v0:Int)(v1:Int):Bool:=(decide (gp<v0)||decide (v1<gp))
def ce(least:Int)(most:Int)(l:List Int):Bool:=(!(et l (λef=>lE ef least most)))
def lY(x:Budget):Bool:=(bif x.mG then((((((ce 0 1048576 ([x.No]))&&(ce 0 1099511627775 ([x.At,x.dU])))&&(ce (-1) 15 ([x.Kind])))&&(ce 1 1099511627776 ([x.eK])))&&(ce 0 0 ([x.Count])))&&(ce 0 0 ([x.Value])))else((((((ce 0 1048576 ([x.No]))&&(ce 0 1099511627775 ([x.At,x.dU])))&&(ce (-1) 15 ([x.Kind])))&&(ce 1 1099511627776 ([x.eK])))&&(ce 0 1048576 ([x.Count])))&&(ce 0 1099511627776 ([x.Value]))))
def bI.K1(lB:Int):Int:=0
def bI.L1(k:Int->Int):List Budget->Int->Int
 |[],lB=>(k lB)
 |y1::rz1,lB=>(bif((!(lY y1))||decide (y1.No<=lB))then 180 else(bI.L1  k rz1 y1.No))
def bI(l:List Budget):Int:=(bif(decide (4096<(l.length:Int)))then 2 else((bI.L1 (bI.K1)) l (-1)))
def bo(gp:Int)(low:Int)(high:Int):Bool:=(decide (low<=gp)&&decide (gp<=high))
def aT.L2(k:List gr):List gr->List gr
 |[]=>k
 |y2::rz2=>(y2::(aT.L2 k rz2))
def aT.L3(k:List gr):List gr->List gr
 |[]=>k
 |y3::rz3=>(y3::(aT.L3 k rz3))
def aT.K1  : List gr:=[]
def aT.L1(rec:aj->Int->List gr)(depth:Int)(k:List gr):List aj->List gr
 |[]=>(k)
 |y1::rz1=>((aT.L3 ((aT.L1 rec depth k rz1))) (rec y1 (depth+1)))
def aT.F(rec:aj->Int->List gr)(x:aj)(depth:Int):List gr:=((gr.mk (aj.mk x.Kind x.N x.No x.Name x.L) depth)::((aT.L1 rec depth (aT.K1)) x.L))
def aT.go:Nat->aj->Int->List gr
 |0=>λ_ _=>[]
 |m+1=>aT.F (aT.go m)
def bx(x:aj)(depth:Int):List gr:=aT.go x.dep x depth
def fu(ok:Bool)(UQ:Int):(Except Int Unit):=(bif(!ok)then(Except.error UQ)else(Except.ok ()))
def aE.K1(p:aw)(Sy:List aj):List aj:=(Sy++[p.aQ])
def aE.L1(k:List aj->List aj):List ft->List aj->List aj
 |[],Sy=>(k Sy)
 |y1::rz1,Sy=>(aE.L1  k rz1 (Sy++[y1.aj]))
def aE(p:aw):List aj:=((aE.L1 (aE.K1 p)) p.di ([]))
def cH.L2(k:Int->(Except Int Unit)):List gr->Int->(Except Int Unit)
 |[],Gd=>k Gd
 |y2::rz2,Gd=>(exi (fu (decide ((vB .i64 (Gd+1))<=256)&&decide (y2.depth<=16)) 2) (λ_=>(cH.L2 k rz2 (vB .i64 (Gd+1)))))
def cH.L3(k:Int->(Except Int Unit)):List gr->Int->(Except Int Unit)
 |[],Gc=>k Gc
 |y3::rz3,Gc=>(exi (fu (decide ((vB .i64 (Gc+1))<=256)&&decide (y3.depth<=16)) 2) (λ_=>(cH.L3 k rz3 (vB .i64 (Gc+1)))))
def cH.K1  : (Except Int Unit):=(Except.ok ())
def cH.L1(k:(Except Int Unit)):List aj->(Except Int Unit)
 |[]=>(k)
 |y1::rz1=>((cH.L3 (λzg3_b3_0=>(cH.L1  k rz1))) (bx y1 1) 0)
def cH(p:aw):(Except Int Unit):=(exi (fu ((decide ((p.aB.length:Int)<=32)&&decide ((p.dQ.length:Int)<=16))&&decide ((p.di.length:Int)<=16)) 2) (λ_=>((cH.L1 (cH.K1)) (aE p))))
def dx(x:aj):Bool:=((x.Kind==1)||(x.Kind==2))
def lU(s:ByteArray)(c:Int):Int:=(idxByte s c)
def strings_IndexByte(s:ByteArray)(c:Int):Int:=(lU s c)
def lT(c:Int):Int:=(bif((decide (97<=c)&&decide (c<=122))||(decide (65<=c)&&decide (c<=90)))then 2 else(bif(decide (48<=c)&&decide (c<=57))then 3 else(bif(c==95)then 5 else(bif((((c==32)||(c==9))||(c==10))||(c==13))then 1 else(bif(decide (0<=(strings_IndexByte (⟨#[123,125,40,41,59,44,61,58,46,60,62,33,43,45,42,47]⟩:ByteArray) c)))then 4 else 0)))))
def dW.K1  : Bool:=true
def dW.L1(s:ByteArray)(k:Bool):List Nat->Nat->Bool
 |[],i1=>(k)
 |y1::rz1,i1=>(bif((((lT ((s.data.getD ((i1:Int):Int).toNat 0).toNat:Int)) != 2)&&((lT ((s.data.getD ((i1:Int):Int).toNat 0).toNat:Int)) != 3))&&((lT ((s.data.getD ((i1:Int):Int).toNat 0).toNat:Int)) != 5))then false else(dW.L1 s k rz1 (i1+1)))
def dW(s:ByteArray):Bool:=(bif(((s.toList==(⟨#[]⟩:ByteArray).toList)||decide (32<(s.size:Int)))||((lT ((s.data.getD (0:Int).toNat 0).toNat:Int)) != 2))then false else((dW.L1 s (dW.K1)) (qE s.size) 0))
def ea(s:ByteArray):Bool:=(bif(s.toList==(⟨#[112,111,108,105,99,121]⟩:ByteArray).toList)then(bif(s.toList==(⟨#[112,111,108,105,99,121]⟩:ByteArray).toList)then false else(dW s))else(bif(s.toList==(⟨#[109,111,100,101]⟩:ByteArray).toList)then(bif(s.toList==(⟨#[109,111,100,101]⟩:ByteArray).toList)then false else(dW s))else(bif(s.toList==(⟨#[111,108,100]⟩:ByteArray).toList)then(bif(s.toList==(⟨#[111,108,100]⟩:ByteArray).toList)then false else(dW s))else(bif(s.toList==(⟨#[110,101,119]⟩:ByteArray).toList)then(bif(s.toList==(⟨#[110,101,119]⟩:ByteArray).toList)then false else(dW s))else(bif(s.toList==(⟨#[98,111,116,104]⟩:ByteArray).toList)then(bif(s.toList==(⟨#[98,111,116,104]⟩:ByteArray).toList)then false else(dW s))else(bif(s.toList==(⟨#[101,105,116,104,101,114]⟩:ByteArray).toList)then(bif(s.toList==(⟨#[101,105,116,104,101,114]⟩:ByteArray).toList)then false else(dW s))else(bif(s.toList==(⟨#[111,102,102,105,99,101]⟩:ByteArray).toList)then(bif(s.toList==(⟨#[111,102,102,105,99,101]⟩:ByteArray).toList)then false else(dW s))else(bif(s.toList==(⟨#[107,105,110,100]⟩:ByteArray).toList)then(bif(s.toList==(⟨#[107,105,110,100]⟩:ByteArray).toList)then false else(dW s))else(bif(s.toList==(⟨#[114,117,108,101]⟩:ByteArray).toList)then(bif(s.toList==(⟨#[114,117,108,101]⟩:ByteArray).toList)then false else(dW s))else(bif(s.toList==(⟨#[116,104,105,110,107]⟩:ByteArray).toList)then(bif(s.toList==(⟨#[116,104,105,110,107]⟩:ByteArray).toList)then false else(dW s))else(bif(s.toList==(⟨#[99,104,97,110,103,101]⟩:ByteArray).toList)then(bif(s.toList==(⟨#[99,104,97,110,103,101]⟩:ByteArray).toList)then false else(dW s))else(bif(s.toList==(⟨#[115,111,109,101]⟩:ByteArray).toList)then(bif(s.toList==(⟨#[115,111,109,101]⟩:ByteArray).toList)then false else(dW s))else(bif(s.toList==(⟨#[119,101,105,103,104,116]⟩:ByteArray).toList)then(bif(s.toList==(⟨#[119,101,105,103,104,116]⟩:ByteArray).toList)then false else(dW s))else(bif(s.toList==(⟨#[111,102]⟩:ByteArray).toList)then(bif(s.toList==(⟨#[111,102]⟩:ByteArray).toList)then false else(dW s))else(bif(s.toList==(⟨#[117,112,116,111]⟩:ByteArray).toList)then(bif(s.toList==(⟨#[117,112,116,111]⟩:ByteArray).toList)then false else(dW s))else(bif(s.toList==(⟨#[101,108,115,101]⟩:ByteArray).toList)then false else(dW s)))))))))))))))))
def bC.K1  : Int:=(-1)
def bC.L1(v:ByteArray)(k:Int):List ByteArray->Nat->Int
 |[],i1=>(k)
 |y1::rz1,i1=>(bif(v.toList==y1.toList)then(i1:Int)else(bC.L1 v k rz1 (i1+1)))
def bC(s:List ByteArray)(v:ByteArray):Int:=((bC.L1 v (bC.K1)) s 0)
def bN.K1  : Bool:=true
def bN.L1(l:List ByteArray)(ok:(ByteArray->Bool))(k:Bool):List ByteArray->Nat->Bool
 |[],i1=>(k)
 |y1::rz1,i1=>(bif((!(ok y1))||((bC l y1) != (i1:Int)))then false else(bN.L1 l ok k rz1 (i1+1)))
def bN(l:List ByteArray)(ok:(ByteArray->Bool)):Bool:=((bN.L1 l ok (bN.K1)) l 0)
def dg(s:List ByteArray)(v:ByteArray):Bool:=decide (0<=(bC s v))
def cI.L2(p:aw)(k:(Except Int Unit)):List gr->(Except Int Unit)
 |[]=>k
 |y2::rz2=>(exi (fu ((!(dx y2.x))||(dg p.aB y2.x.Name)) 201) (λ_=>(cI.L2 p k rz2)))
def cI.L3(p:aw)(k:(Except Int Unit)):List gr->(Except Int Unit)
 |[]=>k
 |y3::rz3=>(exi (fu ((!(dx y3.x))||(dg p.aB y3.x.Name)) 201) (λ_=>(cI.L3 p k rz3)))
def cI.K1  : (Except Int Unit):=(Except.ok ())
def cI.L1(p:aw)(k:(Except Int Unit)):List aj->(Except Int Unit)
 |[]=>(k)
 |y1::rz1=>((cI.L3 p ((cI.L1 p k rz1))) (bx y1 1))
def cI(p:aw):(Except Int Unit):=(exi (fu (((ea p.Name)&&(bN p.aB ea))&&(bN p.dQ ea)) 201) (λ_=>((cI.L1 p (cI.K1)) (aE p))))
def rZ(x0:aj):Bool:=false
def lS(x:aj):Bool:=((x.N==0)&&((x.L.length:Int)==0))
def lR(x:aj):Bool:=((bo x.N 1 4096)&&((x.L.length:Int)==0))
def lQ(x:aj):Bool:=(((x.Name.toList==(⟨#[]⟩:ByteArray).toList)&&(bo (x.L.length:Int) 1 16))&&(bo x.N 1 (x.L.length:Int)))
def lg(x:aj):Bool:=(((x.Name.toList==(⟨#[]⟩:ByteArray).toList)&&((x.L.length:Int)==2))&&(bo x.N 0 1099511627776))
def kindsP(i:Int)(x:aj):Bool:=if i=0 then rZ x else if i=1 then lS x else if i=2 then lR x else if i=3 then lQ x else lg x
def bE.L3(p:aw)(k:(Except Int Unit)):List gr->(Except Int Unit)
 |[]=>k
 |y3::rz3=>(exi (fu ((bo y3.x.Kind 1 4)&&(kindsP y3.x.Kind y3.x)) 200) (λ_=>(exi (fu (decide (0<(vB .i64 (((aE p).length:Int)-1)))||(y3.x.Kind != 4)) 200) (λ_=>(bE.L3 p k rz3)))))
def bE.L4(p:aw)(i2:Nat)(k:(Except Int Unit)):List gr->(Except Int Unit)
 |[]=>k
 |y4::rz4=>(exi (fu ((bo y4.x.Kind 1 4)&&(kindsP y4.x.Kind y4.x)) 200) (λ_=>(exi (fu (decide ((i2:Int)<(vB .i64 (((aE p).length:Int)-1)))||(y4.x.Kind != 4)) 200) (λ_=>(bE.L4 p i2 k rz4)))))
def bE.K2  : (Except Int Unit):=(Except.ok ())
def bE.L2(p:aw)(k:(Except Int Unit)):List aj->Nat->(Except Int Unit)
 |[],i2=>(k)
 |y2::rz2,i2=>((bE.L4 p i2 ((bE.L2 p k rz2 (i2+1)))) (bx y2 1))
def bE.K1(p:aw):(Except Int Unit):=((bE.L2 p (bE.K2)) (aE p) 0)
def bE.L1(p:aw)(k:(Except Int Unit)):List ft->Nat->(Except Int Unit)
 |[],i1=>(k)
 |y1::rz1,i1=>(exi (fu ((y1.Kind.toList==(nthI p.dQ (i1:Int)).toList)&&(bo y1.iK 0 1099511627775)) 200) (λ_=>(bE.L1 p k rz1 (i1+1))))
def bE(p:aw):(Except Int Unit):=(exi (fu ((decide (0<(p.dQ.length:Int))&&((p.di.length:Int)==(p.dQ.length:Int)))&&(bo p.Mode 1 4)) 200) (λ_=>((bE.L1 p (bE.K1 p)) p.di 0)))
def e9(p:aw):(Except Int Unit):=(exi (cH p) (λ_=>(exi (cI p) (λ_=>(exi (bE p) (λ_=>(Except.ok ())))))))
def aA.K1(aC:List ByteArray)(x:aj)(nX:List aj):aj:=(aj.mk x.Kind x.N (bC aC x.Name) x.Name nX)
def aA.L1(rec:List ByteArray->aj->aj)(aC:List ByteArray)(k:List aj->aj):List aj->List aj->aj
 |[],nX=>(k nX)
 |y1::rz1,nX=>(aA.L1 rec aC k rz1 (nX++[(rec aC y1)]))
def aA.K2(x:aj)(nW:List aj):aj:=(aj.mk x.Kind x.N 0 x.Name nW)
def aA.L2(rec:List ByteArray->aj->aj)(aC:List ByteArray)(k:List aj->aj):List aj->List aj->aj
 |[],nW=>(k nW)
 |y2::rz2,nW=>(aA.L2 rec aC k rz2 (nW++[(rec aC y2)]))
def aA.F(rec:List ByteArray->aj->aj)(aC:List ByteArray)(x:aj):aj:=(bif(dx (aj.mk x.Kind x.N 0 x.Name x.L))then((aA.L1 rec aC (aA.K1 aC x)) x.L ([]))else((aA.L2 rec aC (aA.K2 x)) x.L ([])))
def aA.go:Nat->List ByteArray->aj->aj
 |0=>λ_ _=>default
 |m+1=>aA.F (aA.go m)
def aA(aC:List ByteArray)(x:aj):aj:=aA.go x.dep aC x
def ew.K1(p:aw)(oL:List ft):(aw×Int):=((aw.mk p.Name p.dQ p.aB oL (aj.mk ((aA p.aB p.aQ).Kind) ((aA p.aB p.aQ).N) ((aA p.aB p.aQ).No) ((aA p.aB p.aQ).Name) ((aA p.aB p.aQ).L)) p.Mode),0)
def ew.L1(p:aw)(k:List ft->(aw×Int)):List ft->Nat->List ft->(aw×Int)
 |[],i1,oL=>(k oL)
 |y1::rz1,i1,oL=>(ew.L1 p k rz1 (i1+1) (oL++[(ft.mk y1.Kind (i1:Int) y1.iK (aj.mk ((aA p.aB y1.aj).Kind) ((aA p.aB y1.aj).N) ((aA p.aB y1.aj).No) ((aA p.aB y1.aj).Name) ((aA p.aB y1.aj).L)))]))
def ew(p:aw):(aw×Int):=(bif((attR (e9 p)) != 0)then((aw.mk (⟨#[]⟩:ByteArray) ([]) ([]) ([]) (aj.mk 0 0 0 (⟨#[]⟩:ByteArray) ([])) 0),(attR (e9 p)))else((ew.L1 p (ew.K1 p)) p.di 0 ([])))
def ck.K1  : Bool:=true
def ck.L1(aC:List ByteArray)(k:Bool):List gr->Bool
 |[]=>k
 |y1::rz1=>(bif(dx y1.x)then(bif(y1.x.No != (bC aC y1.x.Name))then false else(ck.L1 aC k rz1))else(bif(y1.x.No != 0)then false else(ck.L1 aC k rz1)))
def ck(aC:List ByteArray)(x:aj):Bool:=((ck.L1 aC (ck.K1)) (bx x 1))
def dt.K1(p:aw):Int:=(bif(!(ck p.aB p.aQ))then 200 else 0)
def dt.L1(p:aw)(k:Int):List ft->Nat->Int
 |[],i1=>(k)
 |y1::rz1,i1=>(bif((y1.Bf != (i1:Int))||(!(ck p.aB y1.aj)))then 200 else(dt.L1 p k rz1 (i1+1)))
def dt(p:aw):Int:=(bif((ew p).2 != 0)then(ew p).2 else((dt.L1 p (dt.K1 p)) p.di 0))
def bQ.K1(lB:Int):Int:=0
def bQ.L1(k:Int->Int):List aD->Int->Int
 |[],lB=>(k lB)
 |y1::rz1,lB=>(bif((((!(bo y1.No (vB .i64 (lB+1)) 1048576))||(!(bo y1.At 0 1099511627775)))||(!(bo y1.dU 0 1099511627775)))||((dt y1.aw) != 0))then 200 else(bQ.L1  k rz1 y1.No))
def bQ(l:List aD):Int:=(bif(decide (256<(l.length:Int)))then 2 else((bQ.L1 (bQ.K1)) l (-1)))
def aJ.K1(l:List ao)(cg:List (Int×Int)):ie:=(ie.mk l cg)
def aJ.L1(k:(List (Int×Int))->ie):List ao->Nat->(List (Int×Int))->ie
 |[],i1,cg=>(k cg)
 |y1::rz1,i1,cg=>(aJ.L1  k rz1 (i1+1) (mput cg y1.No (i1:Int)))
def aJ(l:List ao):ie:=((aJ.L1 (aJ.K1 l)) l 0 ([]))
def jk(t:Int):Bool:=(decide (0<=t)&&decide (t<1099511627776))
def fj.K1(l:List Int)(eZ:Int):Bool:=decide ((l.length:Int)<=16)
def fj.L1(dJ:Int)(k:Int->Bool):List Int->Int->Bool
 |[],eZ=>(k eZ)
 |y1::rz1,eZ=>(bif(decide (y1<=eZ)||decide (dJ<=y1))then false else(fj.L1 dJ k rz1 y1))
def fj(l:List Int)(dJ:Int):Bool:=((fj.L1 dJ (fj.K1 l)) l (-1))
def mp(d:ao):Bool:=((((((((((((decide (0<=d.No)&&decide (d.No<4096))&&(jk d.At))&&decide (0<=d.Kind))&&decide (d.Kind<16))&&decide (0<=d.Value))&&decide (d.Value<=1099511627776))&&decide (0<=d.From))&&decide (d.From<d.mT))&&decide (d.mT<=1099511627776))&&(fj d.kU 1048577))&&(fj d.eX d.No))&&(fj d.fm d.No))
def iJ(no:Int)(v0:ie):Bool:=(!(mhas v0.at_ no))
def kl(s:ie)(d:ao):Bool:=((!(et d.eX (λef=>iJ ef s)))&&(!(et d.fm (λef=>iJ ef s))))
def bh.K1  : Int:=0
def bh.L1(l:List ao)(k:Int):List ao->Nat->Int
 |[],i1=>(k)
 |y1::rz1,i1=>(bif(((!(mp y1))||(decide (0<(i1:Int))&&decide (y1.No<=(nthI l ((i1:Int)-1)).No)))||(!(kl (aJ l) y1)))then 170 else(bh.L1 l k rz1 (i1+1)))
def bh(l:List ao):Int:=(bif(decide (4096<(l.length:Int)))then 2 else((bh.L1 l (bh.K1)) l 0))
def dY.K1  : Int:=0
def dY.L1(cK:Register)(k:Int):List Nat->Nat->Int
 |[],i1=>(k)
 |y1::rz1,i1=>(bif((nthI ([(dz cK.dD),(dS cK.fR),(dj cK.ej),(bI cK.dN),(bQ cK.Versions),(bh cK.cj),(cf cK.dy)]) (i1:Int)) != 0)then 300 else(dY.L1 cK k rz1 (i1+1)))
def dY(cK:Register):Int:=((dY.L1 cK (dY.K1)) (qE 7) 0)
def ma(t:Int):Bool:=((t != (-1))&&(!(jk t)))
def cC(l:List ao)(signed:List Int):Bool:=(((signed.length:Int)==(l.length:Int))&&(!(et signed ma)))
def gZ.K1(lB:Int):Int:=lB
def gZ.L1(k:Int->Int):List Int->Int->Int
 |[],lB=>(k lB)
 |y1::rz1,lB=>(gZ.L1  k rz1 (min lB y1))
def gZ(x:List Int):Int:=((gZ.L1 (gZ.K1)) (x.drop 1) (nthI x 0))
def cX(p:e8)(sF:Int)(bq:Int):(Int×Int):=(bif(!(nthI p.done sF))then(1,(-1))else(bif(decide (0<=(nthI p.lacks sF)))then(4,(nthI p.lacks sF))else(bif(decide (0<(((mgetD p.revoked ((nthI p.shelf.docs sF).No) []).length:Nat):Int)))then(5,(gZ (mgetD p.revoked ((nthI p.shelf.docs sF).No) [])))else(bif(decide (bq<(nthI p.shelf.docs sF).From))then(2,(-1))else(bif(decide ((nthI p.shelf.docs sF).mT<=bq))then(3,(-1))else(0,(-1)))))))
def insIn(cmp:Int->Int->Int):Nat->List Int->List Int
 |0,xs=>xs
 |j+1,xs=>bif decide (cmp (xs.getD (j+1) 0) (xs.getD j 0)<0)then insIn cmp j ((xs.set (j+1) (xs.getD j 0)).set j (xs.getD (j+1) 0))else xs
def insOut(cmp:Int->Int->Int):Nat->Nat->List Int->List Int
 |0,_,xs=>xs
 |m+1,i,xs=>insOut cmp m (i+1) (insIn cmp i xs)
def fH(xs:List Int)(cmp:Int->Int->Int):List Int:=insOut cmp (xs.length-1) 1 xs
def cmp_isNaN_int(x:Int):Bool:=(x != x)
def cmp_Compare_int(x:Int)(y:Int):Int:=(bif(cmp_isNaN_int x)then(bif(cmp_isNaN_int y)then 0 else(-1))else(bif(cmp_isNaN_int y)then 1 else(bif(decide (x<y))then(-1)else(bif(decide (y<x))then 1 else 0))))
def kj(a:Int)(mP:Int)(p:tH):Int:=(cmp_Compare_int (nthI p.signed a) (nthI p.signed mP))
def dq.K1  : List Int:=[]
def dq.L1(k:List Int):List Int->List Int
 |[]=>(k)
 |y1::rz1=>(y1::(dq.L1  k rz1))
def dq(v0:List Int):List Int:=((dq.L1 (dq.K1)) v0)
def m4(s:List Int):List Int:=(dq s)
def bX.K1(p:tH)(eZ:List Int):List Int:=(m4 (fH eZ (λef Ec=>kj ef Ec p)))
def bX.L1(lq:Int)(k:List Int->List Int):List Int->Nat->List Int->List Int
 |[],i1,eZ=>(k eZ)
 |y1::rz1,i1,eZ=>(bif(decide (0<=y1)&&decide (y1<=lq))then(bX.L1 lq k rz1 (i1+1) (eZ++[(i1:Int)]))else(bX.L1 lq k rz1 (i1+1) eZ))
def bX(p:tH)(lq:Int):List Int:=((bX.L1 lq (bX.K1 p)) p.signed 0 ([]))
def backL(s:List Int):Nat->List (Int×Int)
 |0=>[]
 |m+1=>((m:Int),nthI s (m:Int))::backL s m
def ku(v0:List Int):List (Int×Int):=backL v0 v0.length
def mr(s:List Int):(List (Int×Int)):=(ku s)
abbrev FRi:=FRg Rp.int 3
def playP(l:List ao)(sg:List Int):e8:=⟨aJ l,sg,List.replicate l.length false,List.replicate l.length 0,[]⟩
def playR(n:Nat)(sq:rJ)(sb:Option Addr)(sc:Nat)(b5 b8 b9:Nat):vv:=⟨sq,sb,sc,some ⟨b5,0,none⟩,n,some ⟨b8,0,none⟩,n,b9⟩
def plL(b c d f t:Bool)(B5 B8 B9 B12 B11:Nat×Obj):LH:=
 (bif t then[B11]else[])++((bif f then[B12]else[])++((bif d then[B9]else[])++((bif c then[B8]else[])++(bif b then[B5]else[]))))
def plD(a b c d f g t:Bool):List Nat:=
 (bif t then[11]else[])++((bif g then[10]else[])++((bif f then[12]else[])++((bif d then[9]else[])++((bif c then[8]else[])++((bif b then[5]else[])++((bif a then[1]else[])++[7,6,4,3,2,0]))))))
def plM(a b c d f g t:Bool):Nat:=(bif a then 0 else 1)+(bif b then 0 else 1)+(bif c then 0 else 1)+(bif d then 0 else 1)+(bif f then 0 else 1)+(bif g then 0 else 1)+(bif t then 0 else 1)
def PlI(h:HF)(l:List ao)(lb:Option Addr)(lc:Nat)(sg:List Int)(sb:Option Addr)(sc:Nat)(at_:Int)(q4:Addr)(a b c d f g t:Bool)(e:Env)(h':HF)(L:LH):Prop:=
 ((!g||(a&&b&&c&&d))&&(!t||g))=true/\h.le h'/\(e 2=.int .i64 at_/\e 4=.pointer (some q4)/\e 16=.slice lb l.length lc/\e 18=.slice sb sg.length sc/\e 20=.int .i64 (l.length:Int)/\e 23=.int .i64 (l.length:Int)) /\
 ∃(sq:rJ)(b5 b8 b9 b12 b11:Nat),(a=true->e 17=.agg (ie.cells (aJ l) sq).toArray/\ie.ok h' (aJ l) sq)/\(b=true->e 21=.slice (some ⟨b5,0,none⟩) l.length l.length) /\
  (c=true->e 24=.slice (some ⟨b8,0,none⟩) l.length l.length)/\(d=true->e 25=.map (some b9))/\(f=true->e 7=.pointer (some ⟨b12,0,none⟩))/\(g=true->e 26=.agg (e8.cells (playP l sg) (playR l.length sq sb sc b5 b8 b9)).toArray)/\(t=true->e 27=.pointer (some ⟨b11,0,none⟩)) /\
  L.Perm (plL b c d f t (b5,.cells (List.replicate l.length (.bool false)).toArray 4 (0,0)) (b8,.cells (List.replicate l.length (.int .i64 0)).toArray 3 (0,0)) (b9,.map #[] 0) (b12,.cells (xB [.pointer none]) 150 (0,0)) (b11,.cells (e8.cells (playP l sg) (playR l.length sq sb sc b5 b8 b9)).toArray 215 (0,0)))
def plN(a b c d f g t:Bool):List Nat:=
 (bif a then[]else[1])++((bif b then[]else[5])++((bif c then[]else[8])++((bif d then[]else[9])++((bif a&&b&&c&&d&&!g then[10]else[])++((bif g&&!t then[11]else[])++((bif f then[]else[12])++(bif a&&b&&c&&d&&f&&g&&t then[13]else[])))))))
def playLack(sg:List Int)(i:Int)(p:e8)(no:Int):e8:=bif(cX p (mgetD p.shelf.at_ no 0) (nthI sg i)).1 != 0 then { p with lacks:=p.lacks.set i.toNat no }else p
def playRevoke(d:ao)(p:e8)(no:Int):e8:={ p with revoked:=mput p.revoked no (mgetD p.revoked no []++[d.No]) }
def playMid(p:e8)(i:Int):e8:=(mr (nthI p.shelf.docs i).fm).foldl (λq x=>playLack p.signed i q x.2) { p with lacks:=p.lacks.set i.toNat (-1) }
def playDone(p:e8)(i:Int):e8:={ p with done:=p.done.set i.toNat true }
def playStep(p:e8)(i:Int):e8:=
 bif decide (nthI (playMid p i).lacks i<0)then(nthI p.shelf.docs i).eX.foldl (playRevoke (nthI p.shelf.docs i)) (playDone (playMid p i) i)else playDone (playMid p i) i
def cD(l:List ao)(signed:List Int)(at_:Int):e8:=(bX (playP l signed) at_).foldl playStep (playP l signed)
structure yX(h:HF)(n b5 b8 br:Nat)(P:e8)(om:Obj)(m3:List (Int×Option Addr×Nat×Nat))(Gf:LH):Prop where
 done:P.done.length=n
 lacks:P.lacks.length=n
 map:kY (qC .i64) V3 h om m3
 rev:FRi h m3 P.revoked Gf
def plB(b5 b8 br:Nat)(P:e8)(om:Obj)(Gf:LH):LH:=
 [(b5,.cells (P.done.map Value.bool).toArray 4 (0,0)),(b8,.cells (P.lacks.map (qC .i64)).toArray 3 (0,0)),(br,om)]++Gf
def bA.K1(un:List Int):(List Int×Int):=(un,0)
def bA.L1(l:List ao)(signed:List Int)(bq:Int)(k:List Int->(List Int×Int)):List ao->Nat->List Int->(List Int×Int)
 |[],i1,un=>(k un)
 |y1::rz1,i1,un=>(bif((cX (cD l signed bq) (i1:Int) bq).1==0)then(bA.L1 l signed bq k rz1 (i1+1) (un++[y1.No]))else(bA.L1 l signed bq k rz1 (i1+1) un))
def bA(l:List ao)(signed:List Int)(bq:Int):(List Int×Int):=(bif((bh l) != 0)then([],(bh l))else(bif((!(cC l signed))||(!(jk bq)))then([],1)else((bA.L1 l signed bq (bA.K1)) l 0 ([]))))
def ia.K1(aZ:List (Int×Bool)):Bool:=true
def ia.L1(k:(List (Int×Bool))->Bool):List Use->(List (Int×Bool))->Bool
 |[],aZ=>(k aZ)
 |y1::rz1,aZ=>(bif(((((mgetD aZ y1.Doc false)||(!(ce 0 4095 ([y1.Doc]))))||(!(ce 0 15 ([y1.Kind]))))||(!(ce 0 1099511627776 ([y1.Value]))))||(!(ce 0 1099511627775 ([y1.At,y1.dU]))))then false else(ia.L1  k rz1 (mput aZ y1.Doc true)))
def ia(u:List Use):Bool:=((ia.L1 (ia.K1)) u ([]))
def aO.K2(mv:List Budget):List Budget:=mv
def aO.L2(aZ:List (fB×Budget))(k:List Budget->List Budget):List Budget->List Budget->List Budget
 |[],mv=>(k mv)
 |y2::rz2,mv=>(bif((!y2.mG)&&(decide ((mgetD aZ (fB.mk y2.Kind y2.eK) (Wt 0 0 0 0 0 0 0 false))=y2)))then(aO.L2 aZ k rz2 (mv++[y2]))else(aO.L2 aZ k rz2 mv))
def aO.K1(l:List Budget)(aZ:List (fB×Budget)):List Budget:=((aO.L2 aZ (aO.K2)) l ([]))
def aO.L1(kind:Int)(bq:Int)(ah:Int)(k:(List (fB×Budget))->List Budget):List Budget->(List (fB×Budget))->List Budget
 |[],aZ=>(k aZ)
 |y1::rz1,aZ=>(bif((decide (bq<y1.At)||decide (ah<y1.dU))||((y1.Kind != (-1))&&(y1.Kind != kind)))then(aO.L1 kind bq ah k rz1 aZ)else(bif((!(mhas aZ (fB.mk y1.Kind y1.eK)))||decide ((mgetD aZ (fB.mk y1.Kind y1.eK) (Wt 0 0 0 0 0 0 0 false)).At<=y1.At))then(aO.L1 kind bq ah k rz1 (mput aZ (fB.mk y1.Kind y1.eK) y1))else(aO.L1 kind bq ah k rz1 aZ)))
def aO(l:List Budget)(kind:Int)(bq:Int)(ah:Int):List Budget:=((aO.L1 kind bq ah (aO.K1 l)) l ([]))
def eb.K1  : List Int:=[]
def eb.L1(ah:Int)(bg:Budget)(at_:Int)(k:List Int):List Use->List Int
 |[]=>(k)
 |y1::rz1=>(bif((decide (y1.dU<=ah)&&((bg.Kind==(-1))||(bg.Kind==y1.Kind)))&&((vB .i64 (y1.At.tdiv bg.eK))==(vB .i64 (at_.tdiv bg.eK))))then(y1.Value::(eb.L1 ah bg at_ k rz1))else(eb.L1 ah bg at_ k rz1))
def eb(u:List Use)(ah:Int)(bg:Budget)(at_:Int):List Int:=((eb.L1 ah bg at_ (eb.K1)) u)
def rF(LI:Budget)(u:List Use)(bq:Int)(ah:Int):List Int:=(eb u ah LI bq)
def aN.L2(k:Int->Int->(Int×Bool×Int)):List Int->Int->Int->(Int×Bool×Int)
 |[],Lm,Ln=>k Lm Ln
 |y2::rz2,Lm,Ln=>(aN.L2 k rz2 (vB .i64 (Lm+y2)) (vB .i64 (Ln+1)))
def aN.L3(k:Int->Int->(Int×Bool×Int)):List Int->Int->Int->(Int×Bool×Int)
 |[],sG,Ll=>k sG Ll
 |y3::rz3,sG,Ll=>(aN.L3 k rz3 (vB .i64 (sG+y3)) (vB .i64 (Ll+1)))
def aN.K1  : (Int×Bool×Int):=((-1),true,0)
def aN.L1(u:List Use)(value:Int)(cB:Int)(ah:Int)(k:(Int×Bool×Int)):List Budget->(Int×Bool×Int)
 |[]=>(k)
 |y1::rz1=>((aN.L3 (λzg3_b6_0 zg3_b5_0=>(bif(decide (y1.Count<zg3_b5_0)||decide (y1.Value<zg3_b6_0))then(y1.No,false,0)else(aN.L1 u value cB ah k rz1)))) (rF y1 u cB ah) value 1)
def aN(l:List Budget)(u:List Use)(kind:Int)(value:Int)(cB:Int)(ah:Int):(Int×Bool×Int):=(bif((bI l) != 0)then(0,false,(bI l))else(bif(decide (4096<(u.length:Int)))then(0,false,2)else(bif(!(ia u))then(0,false,180)else(bif(((!(ce 0 15 ([kind])))||(!(ce 0 1099511627776 ([value]))))||(!(ce 0 1099511627775 ([cB,ah]))))then(0,false,1)else((aN.L1 u value cB ah (aN.K1)) (aO l kind cB ah))))))
def ai.K1  : Int:=(-1)
def ai.L1(f:(ao->Bool))(k:Int):List ao->Nat->Int
 |[],i1=>(k)
 |y1::rz1,i1=>(bif(f y1)then(i1:Int)else(ai.L1 f k rz1 (i1+1)))
def ai(s:List ao)(f:(ao->Bool)):Int:=((ai.L1 f (ai.K1)) s 0)
def bL(d:ao)(v0:Int):Bool:=(d.No==v0)
def nT(cK:Register)(ba:Int)(bq:Int)(ah:Int):(Except Int bU):=(bif((decide ((ai cK.cj (λef=>bL ef ba))<0)||decide ((min bq ah)<0))||decide (1099511627776<=(max bq ah)))then(Except.error 1)else(Except.ok (bU.mk cK (nthI cK.cj (ai cK.cj (λef=>bL ef ba))) bq ah)))
def cA(d:ao)(v0:bU):Bool:=(d.No==v0.ba.No)
def kx(s:List ao)(f:(ao->Bool)):Bool:=decide (0<=(ai s f))
def jp.K1  : Int:=(-1)
def jp.L1(v:Int)(k:Int):List Int->Nat->Int
 |[],i1=>(k)
 |y1::rz1,i1=>(bif(v==y1)then(i1:Int)else(jp.L1 v k rz1 (i1+1)))
def jp(s:List Int)(v:Int):Int:=((jp.L1 v (jp.K1)) s 0)
def fS(s:List Int)(v:Int):Bool:=decide (0<=(jp s v))
def gL(l:List ao)(signed:List Int)(no:Int)(dw:Int):(Int×Int×Int):=(bif((bh l) != 0)then(0,0,(bh l))else(bif((!(cC l signed))||(!(jk dw)))then(0,0,1)else(bif(!(mhas ((cD l signed dw).shelf.at_) no))then(0,0,1)else((cX (cD l signed dw) (mgetD ((cD l signed dw).shelf.at_) no 0) dw).1,(cX (cD l signed dw) (mgetD ((cD l signed dw).shelf.at_) no 0) dw).2,0))))
def lO(d:ao)(c:bU)(signed:List Int):Bool:=(bif(!(fS d.eX c.ba.No))then false else(((gL c.Register.cj signed d.No c.at_).1 != 1)&&((gL c.Register.cj signed d.No c.at_).1 != 4)))
def fV(c:bU)(signed:List Int):Bool:=(kx c.Register.cj (λef=>lO ef c signed))
def hY(c:bU)(signed:List Int):Bool:=(((decide (c.at_<c.ba.At)||decide (c.ba.mT<=c.at_))||(decide (0<=(nthI signed (ai c.Register.cj (λef=>cA ef c))))&&decide ((nthI signed (ai c.Register.cj (λef=>cA ef c)))<=c.at_)))||(fV c signed))
def BX(c:bU)(signed:List Int):Bool:=(hY c signed)
def mu(gp:Int)(v0:List Int):Bool:=(!(fS v0 gp))
def iZ(c:bU)(signed:List Int):Bool:=(et c.ba.fm (λef=>mu ef ((bA c.Register.cj signed c.at_).1)))
def BW(c:bU)(signed:List Int):Bool:=(iZ c signed)
def fE(gp:Int):Bool:=(decide (0<=gp)&&decide (gp<1099511627776))
def dE.K1(aZ:List Int):List Int:=aZ
def dE.L1(k:List Int->List Int):List Int->List Int->List Int
 |[],aZ=>k aZ
 |y1::rz1,aZ=>(dE.L1 k rz1 (aZ++[y1]))
def dE(seq:List Int):List Int:=((dE.L1 (dE.K1)) seq ([]))
def eD(seq:List Int):List Int:=(dE seq)
def bV.K2  : (List (Int×aD)):=[]
def bV.L2(aZ:List (Int×aD))(k:List (Int×aD)):List Int->(List (Int×aD))
 |[]=>(k)
 |y2::rz2=>((y2,(mgetD aZ y2 (aD.mk 0 0 0 (aw.mk (⟨#[]⟩:ByteArray) [] [] [] (aj.mk 0 0 0 (⟨#[]⟩:ByteArray) []) 0))))::(bV.L2 aZ k rz2))
def bV.K1(un:Int)(aZ:List (Int×aD)):(List (Int×aD)):=((bV.L2 aZ (bV.K2)) (sortI (aZ.map Prod.fst)))
def bV.L1(ah:Int)(fq:Int)(k:Int->(List (Int×aD))->(List (Int×aD))):List aD->Int->(List (Int×aD))->(List (Int×aD))
 |[],un,aZ=>(k un aZ)
 |y1::rz1,un,aZ=>(bif(decide (ah<y1.dU))then(bV.L1 ah fq k rz1 un aZ)else(bif(decide (y1.At<=fq))then(bif(decide (y1.At<un))then(bV.L1 ah fq k rz1 un aZ)else(bV.L1 ah fq k rz1 y1.At (mput aZ fq y1)))else(bV.L1 ah fq k rz1 un (mput aZ y1.At y1))))
def bV(l:List aD)(ah:Int)(fq:Int):(List (Int×aD)):=((bV.L1 ah fq (bV.K1)) l (-1) ([]))
def io(l:List aD)(eF:Int)(ah:Int):(List (Int×aD)):=(bV l ah eF)
def lr(l:List aD)(old:Bool):List aD:=l
def jv(l:List aD)(old:Bool):List aD:=(bif(!old)then[]else(l.take ((1:Int)).toNat))
def kt(l:List aD)(old:Bool):List aD:=(l.drop ((((l.length:Int)-1):Int)).toNat)
def mV  : (List (Int×Value)):=(mput (mput (mput (mput ([]) 1 (jQ (.func 199) #[] #[])) 2 (jQ (.func 200) #[] #[])) 3 (jQ (.func 198) #[] #[])) 4 (jQ (.func 198) #[] #[]))
def judgesP(mode:Int)(l:List aD)(old:Bool):List aD:=bif mode==1 then jv l old else bif mode==2 then kt l old else lr l old
def aM.K2(bF:List aD)(mv:List Int):(List Int×Int×Int):=((sortI mv),(nthI bF ((bF.length:Int)-1)).aw.Mode,0)
def aM.L2(k:List Int->(List Int×Int×Int)):List aD->List Int->(List Int×Int×Int)
 |[],mv=>(k mv)
 |y2::rz2,mv=>(aM.L2  k rz2 (mv++[y2.No]))
def aM.K1(eR:Bool)(bF:List aD):(List Int×Int×Int):=(bif((bF.length:Int)==0)then([],0,0)else((aM.L2 (aM.K2 bF)) (judgesP ((nthI bF ((bF.length:Int)-1)).aw.Mode) bF eR) ([])))
def aM.L1(dT:Int)(bq:Int)(k:Bool->List aD->(List Int×Int×Int)):List (Int×aD)->Bool->List aD->(List Int×Int×Int)
 |[],eR,bF=>k eR bF
 |y1::rz1,eR,bF=>(bif(decide (bq<y1.1))then(k eR bF)else(aM.L1 dT bq k rz1 (eR||(y1.1==dT)) (bF++[y1.2])))
def aM(l:List aD)(dT:Int)(bq:Int)(ah:Int):(List Int×Int×Int):=(bif((bQ l) != 0)then([],0,(bQ l))else(bif((((!(fE dT))||(!(fE bq)))||(!(fE ah)))||decide (bq<dT))then([],0,1)else((aM.L1 dT bq (aM.K1)) (io l dT ah) false ([]))))
def mI(mode:Int)(permits:List Bool):Int:=(bif(!(mhas mV mode))then 270 else(bif(decide (256<(permits.length:Int)))then 1 else 0))
def gi.K1  : Int:=(-1)
def gi.L1(f:(Bool->Bool))(k:Int):List Bool->Nat->Int
 |[],i1=>(k)
 |y1::rz1,i1=>(bif(f y1)then(i1:Int)else(gi.L1 f k rz1 (i1+1)))
def gi(s:List Bool)(f:(Bool->Bool)):Int:=((gi.L1 f (gi.K1)) s 0)
def jU(l:List Bool)(ok:(Bool->Bool)):Int:=(gi l ok)
def mX(LI:Bool):Bool:=LI
def oA(LI:Bool):Bool:=(!LI)
def cJ.K1(permits:List Bool)(BL:List Int):(List Int×Bool×Int):=(BL,decide (0<=(jU permits mX)),0)
def cJ.L1(k:List Int->(List Int×Bool×Int)):List Bool->Nat->List Int->(List Int×Bool×Int)
 |[],i1,BL=>(k BL)
 |y1::rz1,i1,BL=>(cJ.L1  k rz1 (i1+1) (BL++[(i1:Int)]))
def cJ.K2(permits:List Bool)(Sr:List Int):(List Int×Bool×Int):=(Sr,(((permits.length:Int)==1)&&(nthI permits 0)),0)
def cJ.L2(k:List Int->(List Int×Bool×Int)):List Bool->Nat->List Int->(List Int×Bool×Int)
 |[],i2,Sr=>(k Sr)
 |y2::rz2,i2,Sr=>(cJ.L2  k rz2 (i2+1) (Sr++[(i2:Int)]))
def cJ.K3(Sq:List Int):(List Int×Bool×Int):=(Sq,false,0)
def cJ.L3(k:List Int->(List Int×Bool×Int)):List Bool->Nat->List Int->(List Int×Bool×Int)
 |[],i3,Sq=>(k Sq)
 |y3::rz3,i3,Sq=>(cJ.L3  k rz3 (i3+1) (Sq++[(i3:Int)]))
def cJ(mode:Int)(permits:List Bool):(List Int×Bool×Int):=(bif((mI mode permits) != 0)then([],false,(mI mode permits))else(bif((mode==4)&&decide (0<=(jU permits mX)))then([(jU permits mX)],true,0)else(bif((mode==3)&&decide (0<=(jU permits oA)))then([(jU permits oA)],false,0)else(bif(mode==3)then((cJ.L1 (cJ.K1 permits)) permits 0 ([]))else(bif(mode != 4)then((cJ.L2 (cJ.K2 permits)) permits 0 ([]))else((cJ.L3 (cJ.K3)) permits 0 ([])))))))
def gU(mode:Int)(permits:List Bool):(Bool×Int):=((cJ mode permits).2.1,(cJ mode permits).2.2)
def bw.K1  : Int:=(-1)
def bw.L1(f:(aD->Bool))(k:Int):List aD->Nat->Int
 |[],i1=>(k)
 |y1::rz1,i1=>(bif(f y1)then(i1:Int)else(bw.L1 f k rz1 (i1+1)))
def bw(s:List aD)(f:(aD->Bool)):Int:=((bw.L1 f (bw.K1)) s 0)
def eQ(v:aD)(v0:Int):Bool:=(v.No==v0)
def fP(c:bU)(no:Int):(Except Int aw):=(bif(decide ((bw c.Register.Versions (λef=>eQ ef no))<0))then(Except.error 1)else(Except.ok ((nthI c.Register.Versions (bw c.Register.Versions (λef=>eQ ef no))).aw)))
def ji(x:aK)(v0:Int)(v1:Int):(OSeat×Bool):=((vT x.ep x.cZ),(decide (x.At<=v0)&&decide (x.dU<=v1)))
def dc.K1(aZ:List (OSeat×aK)):(List (OSeat×aK)):=aZ
def dc.L1(key:(aK->OSeat×Bool))(later:(aK->aK->Bool))(k:(List (OSeat×aK))->(List (OSeat×aK))):List aK->(List (OSeat×aK))->(List (OSeat×aK))
 |[],aZ=>(k aZ)
 |y1::rz1,aZ=>(bif((key y1).2&&((!(mhas aZ ((key y1).1)))||(!(later (mgetD aZ ((key y1).1) (aK.mk 0 0 0 0 0 0 false)) y1))))then(dc.L1 key later k rz1 (mput aZ ((key y1).1) y1))else(dc.L1 key later k rz1 aZ))
def dc(l:List aK)(key:(aK->OSeat×Bool))(later:(aK->aK->Bool)):(List (OSeat×aK)):=((dc.L1 key later (dc.K1)) l ([]))
def jh(a:aK)(mP:aK):Bool:=decide (mP.At<a.At)
def dI(l:List aK)(lq:Int)(ah:Int):(List (OSeat×aK)):=(dc l (λef=>ji ef lq ah) jh)
def eO(l:List aK)(aV:Int)(bS:Int)(dw:Int)(ah:Int):(Int×Int×Bool×Int):=(bif((dz l) != 0)then(0,0,false,(dz l))else(bif((((!(iQ aV))||(!(ka bS)))||(!(fy dw)))||(!(fy ah)))then(0,0,false,1)else(bif((!(mhas (dI l dw ah) (vT aV bS)))||(mgetD (dI l dw ah) (vT aV bS) (aK.mk 0 0 0 0 0 0 false)).mG)then(0,0,false,0)else((mgetD (dI l dw ah) (vT aV bS) (aK.mk 0 0 0 0 0 0 false)).No,(mgetD (dI l dw ah) (vT aV bS) (aK.mk 0 0 0 0 0 0 false)).j3,true,0))))
def cW.K1  : Int:=(-1)
def cW.L1(f:(ay->Bool))(k:Int):List ay->Nat->Int
 |[],i1=>(k)
 |y1::rz1,i1=>(bif(f y1)then(i1:Int)else(cW.L1 f k rz1 (i1+1)))
def cW(s:List ay)(f:(ay->Bool)):Int:=((cW.L1 f (cW.K1)) s 0)
def fW(s:List ay)(del:ay->Bool):List ay:=s.filter λx=>!(del x)
def cd.K1  : List ay:=[]
def cd.L1(v1:Int)(v2:Int)(v3:Int)(k:List ay):List ay->List ay
 |[]=>(k)
 |y1::rz1=>(bif(((y1.Doc==v1)&&decide (y1.At<=v2))&&decide (y1.dU<=v3))then(y1::(cd.L1 v1 v2 v3 k rz1))else(cd.L1 v1 v2 v3 k rz1))
def cd(v0:List ay)(v1:Int)(v2:Int)(v3:Int):List ay:=((cd.L1 v1 v2 v3 (cd.K1)) v0)
def fQ(l:List ay)(ba:Int)(bq:Int)(ah:Int):List ay:=(cd l ba bq ah)
def cS(x:ay):fC:=(fC.mk x.Doc x.By x.For x.ep)
def aP.K2(oK:List ay):List ay:=oK
def aP.L2(cg:List (fC×ay))(k:List ay->List ay):List ay->List ay->List ay
 |[],oK=>k oK
 |y2::rz2,oK=>(bif((!y2.mG)&&(decide ((mgetD cg (cS y2) (ay.mk 0 0 0 0 0 0 0 false))=y2)))then(aP.L2 cg k rz2 (oK++[y2]))else(aP.L2 cg k rz2 oK))
def aP.K1(l:List ay)(ba:Int)(bq:Int)(ah:Int)(cg:List (fC×ay)):List ay:=((aP.L2 cg (aP.K2)) (fQ l ba bq ah) ([]))
def aP.L1(k:(List (fC×ay))->List ay):List ay->(List (fC×ay))->List ay
 |[],cg=>k cg
 |y1::rz1,cg=>(bif((!(mhas cg (cS y1)))||decide ((mgetD cg (cS y1) (ay.mk 0 0 0 0 0 0 0 false)).At<=y1.At))then(aP.L1 k rz1 (mput cg (cS y1) y1))else(aP.L1 k rz1 cg))
def aP(l:List ay)(ba:Int)(bq:Int)(ah:Int):List ay:=((aP.L1 (aP.K1 l ba bq ah)) (fQ l ba bq ah) ([]))
def j1(y:ay)(dT:Int)(at_:Int)(think:Int):Bool:=(decide (y.At<dT)||decide ((vB .i64 (at_-y.At))<think))
def da(l:List ay)(ba:Int)(dT:Int)(think:Int)(cB:Int)(ah:Int):(List ay×Int):=(bif((cf l) != 0)then([],(cf l))else(bif((!(fD 4095 ([ba])))||(!(fD 1099511627775 ([dT,think,cB,ah]))))then([],1)else((fW (aP l ba cB ah) (λef=>j1 ef dT cB think)),0)))
def na(l:List bz)(eF:Int)(to:Int)(q:cL):Int:=(bif((dS l) != 0)then(dS l)else(bif(((((((!(jI eF))||(!(jI to)))||(!(eP q.aV 0 31)))||(!(eP q.kind 0 15)))||(!(eP q.value 0 1099511627776)))||(!(kI q.at_)))||(!(kI q.ah)))then 1 else 0))
def dB.K1(aZ:List bz):List bz:=aZ
def dB.L1(k:List bz->List bz):List bz->List bz->List bz
 |[],aZ=>k aZ
 |y1::rz1,aZ=>(dB.L1 k rz1 (aZ++[y1]))
def dB(seq:List bz):List bz:=((dB.L1 (dB.K1)) seq ([]))
def dA(seq:List bz):List bz:=(dB seq)
def gM(q:cL)(x:bz):Bool:=(decide (x.At<=q.at_)&&decide (x.dU<=q.ah))
def iz(q:cL)(x:bz):Bool:=(((((!x.mG)&&decide (q.at_<x.mT))&&(x.ep==q.aV))&&((x.Kind==(-1))||(x.Kind==q.kind)))&&decide (q.value<=x.NN))
def aL.K1  : List bz:=[]
def aL.L1(v1:List (ec×bz))(v2:(bz->Bool))(v3:cL)(k:List bz):List bz->List bz
 |[]=>(k)
 |y1::rz1=>(bif(((decide ((mgetD v1 (ec.mk y1.From y1.To y1.ep y1.Kind) (bz.mk 0 0 0 0 0 0 0 0 0 false))=y1))&&(v2 y1))&&(iz v3 y1))then(y1::(aL.L1 v1 v2 v3 k rz1))else(aL.L1 v1 v2 v3 k rz1))
def aL(v0:List bz)(v1:List (ec×bz))(v2:(bz->Bool))(v3:cL):List bz:=((aL.L1 v1 v2 v3 (aL.K1)) v0)
def aY.K1(q:cL)(l:List bz)(eR:List (ec×bz)):List bz:=(aL l eR (gM q) q)
def aY.L1(q:cL)(k:(List (ec×bz))->List bz):List bz->(List (ec×bz))->List bz
 |[],eR=>(k eR)
 |y1::rz1,eR=>(bif((gM q y1)&&((!(mhas eR (ec.mk y1.From y1.To y1.ep y1.Kind)))||decide ((mgetD eR (ec.mk y1.From y1.To y1.ep y1.Kind) (bz.mk 0 0 0 0 0 0 0 0 0 false)).At<=y1.At)))then(aY.L1 q k rz1 (mput eR (ec.mk y1.From y1.To y1.ep y1.Kind) y1))else(aY.L1 q k rz1 eR))
def aY(q:cL)(l:List bz):List bz:=((aY.L1 q (aY.K1 q l)) l ([]))
def aS.L2(k:(List (Int×Int))->(List Int×Bool×Int)):List bz->(List (Int×Int))->(List Int×Bool×Int)
 |[],yB=>(k yB)
 |y2::rz2,yB=>(bif(((mhas yB y2.To)&&((mgetD yB y2.To 0)==0))&&(!(mhas yB y2.From)))then(aS.L2  k rz2 (mput yB y2.From 1))else(aS.L2  k rz2 yB))
def aS.L3(i1:Nat)(k:(List (Int×Int))->(List Int×Bool×Int)):List bz->(List (Int×Int))->(List Int×Bool×Int)
 |[],oJ=>(k oJ)
 |y3::rz3,oJ=>(bif(((mhas oJ y3.To)&&((mgetD oJ y3.To 0)==(i1:Int)))&&(!(mhas oJ y3.From)))then(aS.L3 i1 k rz3 (mput oJ y3.From (((i1+1):Nat):Int)))else(aS.L3 i1 k rz3 oJ))
def aS.L6(eF:Int)(cg:List (Int×Int))(i4:Nat)(k:List Int->Int->(List Int×Bool×Int)):List bz->List Int->Int->(List Int×Bool×Int)
 |[],DE,Fh=>(k DE Fh)
 |y6::rz6,DE,Fh=>(bif(((y6.From==Fh)&&(mhas cg y6.To))&&((mgetD cg y6.To 0)==((((((mgetD cg eF 0)).toNat)-(i4+1)):Nat):Int)))then(k (DE++[y6.No]) y6.To)else(aS.L6 eF cg i4 k rz6 DE Fh))
def aS.K4(AL:List Int)(Fi:Int):(List Int×Bool×Int):=(AL,true,0)
def aS.L4(l:List bz)(eF:Int)(aV:Int)(kind:Int)(value:Int)(mb:Int)(ah:Int)(cg:List (Int×Int))(k:List Int->Int->(List Int×Bool×Int)):List Nat->Nat->List Int->Int->(List Int×Bool×Int)
 |[],i4,AL,Fi=>(k AL Fi)
 |y4::rz4,i4,AL,Fi=>((aS.L6 eF cg i4 (λzg6_16 zg6_31=>(aS.L4 l eF aV kind value mb ah cg k rz4 (i4+1) zg6_16 zg6_31))) (dA (aY (cL.mk aV kind value mb ah) l)) AL Fi)
def aS.K1(l:List bz)(eF:Int)(aV:Int)(kind:Int)(value:Int)(mb:Int)(ah:Int)(cg:List (Int×Int)):(List Int×Bool×Int):=(bif(!(mhas cg eF))then([],false,0)else((aS.L4 l eF aV kind value mb ah cg (aS.K4)) (qE (((mgetD cg eF 0)).toNat)) 0 ([]) eF))
def aS.L1(l:List bz)(aV:Int)(kind:Int)(value:Int)(mb:Int)(ah:Int)(k:(List (Int×Int))->(List Int×Bool×Int)):List Nat->Nat->(List (Int×Int))->(List Int×Bool×Int)
 |[],i1,cg=>(k cg)
 |y1::rz1,i1,cg=>((aS.L3 i1 (λzg3_b2_0=>(aS.L1 l aV kind value mb ah k rz1 (i1+1) zg3_b2_0))) (dA (aY (cL.mk aV kind value mb ah) l)) cg)
def aS(l:List bz)(eF:Int)(to:Int)(aV:Int)(kind:Int)(value:Int)(mb:Int)(ah:Int):(List Int×Bool×Int):=(bif((na l eF to (cL.mk aV kind value mb ah)) != 0)then([],false,(na l eF to (cL.mk aV kind value mb ah)))else((aS.L1 l aV kind value mb ah (aS.K1 l eF aV kind value mb ah)) (qE 8) 0 (mput ([]) to 0)))
def dp.K1(bS:Int)(er:List Int)(dw:Int)(ah:Int)(rD:Int):Int:=(bif((((!(fh bS 64))||decide (16<(er.length:Int)))||(!(fh dw 1099511627776)))||(!(fh ah 1099511627776)))then 1 else 0)
def dp.L1(k:Int->Int):List Int->Int->Int
 |[],rD=>(k rD)
 |y1::rz1,rD=>(bif(decide (y1<=rD)||decide (1048576<y1))then 1 else(dp.L1  k rz1 y1))
def dp(l:List aF)(bS:Int)(er:List Int)(dw:Int)(ah:Int):Int:=(bif((dj l) != 0)then(dj l)else((dp.L1 (dp.K1 bS er dw ah)) er (-1)))
def bZ.K1  : List aF:=[]
def bZ.L1(v1:List (dX×aF))(k:List aF):List aF->List aF
 |[]=>(k)
 |y1::rz1=>(bif((!y1.mG)&&(decide ((mgetD v1 (dX.mk y1.cZ y1.iw y1.Of) (aF.mk 0 0 0 0 0 false false))=y1)))then(y1::(bZ.L1 v1 k rz1))else(bZ.L1 v1 k rz1))
def bZ(v0:List aF)(v1:List (dX×aF)):List aF:=((bZ.L1 v1 (bZ.K1)) v0)
def df.K1(l:List aF)(cg:List (dX×aF)):List aF:=(bZ l cg)
def df.L1(lq:Int)(ah:Int)(k:(List (dX×aF))->List aF):List aF->(List (dX×aF))->List aF
 |[],cg=>(k cg)
 |y1::rz1,cg=>(bif(decide (lq<y1.At)||decide (ah<y1.dU))then(df.L1 lq ah k rz1 cg)else(bif((!(mhas cg (dX.mk y1.cZ y1.iw y1.Of)))||decide ((mgetD cg (dX.mk y1.cZ y1.iw y1.Of) (aF.mk 0 0 0 0 0 false false)).At<=y1.At))then(df.L1 lq ah k rz1 (mput cg (dX.mk y1.cZ y1.iw y1.Of) y1))else(df.L1 lq ah k rz1 cg)))
def df(l:List aF)(lq:Int)(ah:Int):List aF:=((df.L1 lq ah (df.K1 l)) l ([]))
def conPut(w:iv)(m:List (Int×Bool))(q:List iv):List (Int×Bool)×List iv:=bif mgetD m w.to false then(m,q)else(mput m w.to true,q++[w])
def conFill(bS:Int):List aF->List (Int×List aF)->List (Int×Bool)->List iv->List (Int×List aF)×List (Int×Bool)×List iv
 |[],f,m,q=>(f,m,q)
 |x::l,f,m,q=>bif x.Of then conFill bS l (mput f x.cZ (mgetD f x.cZ []++[x])) m q
  else bif x.cZ==bS then conFill bS l f (conPut ⟨[x.No],x.iw⟩ m q).1 (conPut ⟨[x.No],x.iw⟩ m q).2 else conFill bS l f m q
def conStep(path:List Int):List aF->List (Int×Bool)->List iv->List (Int×Bool)×List iv
 |[],m,q=>(m,q)
 |x::l,m,q=>conStep path l (conPut ⟨path++[x.No],x.iw⟩ m q).1 (conPut ⟨path++[x.No],x.iw⟩ m q).2
def conLoop(er:List Int)(f:List (Int×List aF)):Nat->List (Int×Bool)->List iv->List Int×Bool
 |0,_,_=>([],false)
 |_+1,_,[]=>([],false)
 |n+1,m,w::q=>bif er.contains w.to then(w.path,true)else bif(w.path.length:Int)==8 then conLoop er f n m q
  else conLoop er f n (conStep w.path (mgetD f w.to []) m q).1 (conStep w.path (mgetD f w.to []) m q).2
def conFind(l:List aF)(bS:Int)(er:List Int)(st:List aF):List Int×Bool:=
 conLoop er (conFill bS st [] [] []).1 (l.length+1) (conFill bS st [] [] []).2.1 (conFill bS st [] [] []).2.2
def dV(l:List aF)(bS:Int)(er:List Int)(dw:Int)(ah:Int):List Int×Bool×Int:=
 bif dp l bS er dw ah != 0 then([],false,dp l bS er dw ah)
 else((conFind l bS er (df l dw ah)).1,(conFind l bS er (df l dw ah)).2,0)
def xU(h:HF):List Value->List iv->Prop
 |[],[]=>True
 |v::vs,w::ws=>(∃r,v=.agg (iv.cells w r).toArray/\iv.ok h w r)/\xU h vs ws
 |_,_=>False
abbrev FR:=FRg aF.rp 207
def xX(st:List aF)(m:List (Int×Bool))(q:List iv):Prop:=(∀p∈m,p.2=true/\p.1∈st.map (·.iw))/\q.length<=m.length/\∀w∈q,w.path.length<=8
def P3(st:List aF)(f:List (Int×List aF)):Prop:=∀k,∀x∈mgetD f k [],x∈st
def j0(c:bU)(bS:Int):Bool:=(dV c.Register.ej bS c.ba.kU c.at_ c.ah).2.1
def cR.K1  : List ay:=[]
def cR.L1(c:bU)(k:List ay):List ay->List ay
 |[]=>(k)
 |y1::rz1=>(bif((((eO c.Register.dD y1.ep y1.For c.at_ c.ah).2.2.1&&(aS c.Register.fR y1.For y1.By y1.ep c.ba.Kind c.ba.Value c.at_ c.ah).2.1)&&(!(j0 c y1.For)))&&(!(j0 c y1.By)))then(y1::(cR.L1 c k rz1))else(cR.L1 c k rz1))
def cR(c:bU)(p:aw):List ay:=(bif(decide ((p.dQ.length:Int)<=c.ba.Kind))then[]else((cR.L1 c (cR.K1)) ((da c.Register.dy c.ba.No c.ba.At ((nthI p.di c.ba.Kind).iK) c.at_ c.ah).1)))
def gN(c:bU)(p:aw):List ay:=(cR c p)
def de.K1(bF:List Int):List Int:=(slices_Compact_int (sortI bF))
def de.L1(k:List Int->List Int):List ay->List Int->List Int
 |[],bF=>k bF
 |y1::rz1,bF=>(de.L1 k rz1 (bF++[y1.For]))
def de(c:bU)(p:aw):List Int:=((de.L1 (de.K1)) (gN c p) ([]))
def cT.K1(aZ:List cq):List cq:=aZ
def cT.L1(k:List cq->List cq):List cq->List cq->List cq
 |[],aZ=>k aZ
 |y1::rz1,aZ=>(cT.L1 k rz1 (aZ++[y1]))
def cT(seq:List cq):List cq:=((cT.L1 (cT.K1)) seq ([]))
def iE(seq:List cq):List cq:=(cT seq)
def fp.K1(aZ:List OSeat):List OSeat:=aZ
def fp.L1(k:List OSeat->List OSeat):List OSeat->List OSeat->List OSeat
 |[],aZ=>k aZ
 |y1::rz1,aZ=>(fp.L1 k rz1 (aZ++[y1]))
def fp(seq:List OSeat):List OSeat:=((fp.L1 (fp.K1)) seq ([]))
def cy.K1  : List cq:=[]
def cy.L1(m:List (OSeat×aK))(aV:Int)(k:List cq):List OSeat->List cq
 |[]=>(k)
 |y1::rz1=>(bif((y1.aV==aV)&&(!((mgetD m y1 (aK.mk 0 0 0 0 0 0 false)).mG)))then((cq.mk ((mgetD m y1 (aK.mk 0 0 0 0 0 0 false)).cZ) ((mgetD m y1 (aK.mk 0 0 0 0 0 0 false)).j3))::(cy.L1 m aV k rz1))else(cy.L1 m aV k rz1))
def cy(m:List (OSeat×aK))(aV:Int):List cq:=((cy.L1 m aV (cy.K1)) (seatS (m.map Prod.fst)))
def kz(m:List (OSeat×aK))(aV:Int):List cq:=(cy m aV)
def eW(l:List aK)(aV:Int)(bq:Int)(ah:Int):(List cq×Int):=(bif((dz l) != 0)then([],(dz l))else(bif(((!(iQ aV))||(!(fy bq)))||(!(fy ah)))then([],1)else((iE (kz (dI l bq ah) aV)),0)))
def fd.K1(lB:Int):Bool:=true
def fd.L1(k:Int->Bool):List Int->Int->Bool
 |[],lB=>(k lB)
 |y1::rz1,lB=>(bif(decide (y1<=lB)||decide (64<=y1))then false else(fd.L1  k rz1 y1))
def fd(lm:List Int):Bool:=((fd.L1 (fd.K1)) lm (-1))
def eU.L2(k:List Int->Bool):List cq->List Int->Bool
 |[],Ou=>(k Ou)
 |y2::rz2,Ou=>(bif(decide (y2.j3<1)||decide (64<y2.j3))then false else(eU.L2  k rz2 (Ou++[y2.cZ])))
def eU.L3(k:List Int->Bool):List cq->List Int->Bool
 |[],DH=>(k DH)
 |y3::rz3,DH=>(bif(decide (y3.j3<1)||decide (64<y3.j3))then false else(eU.L3  k rz3 (DH++[y3.cZ])))
def eU.K1(dh:List (List cq))(aC:Int):Bool:=((dh.length:Int)==aC)
def eU.L1(k:Bool):List (List cq)->Bool
 |[]=>(k)
 |y1::rz1=>((eU.L3 (λzg3_7=>(bif(!(fd zg3_7))then false else(eU.L1  k rz1)))) y1 ([]))
def eU(dh:List (List cq))(aC:Int):Bool:=((eU.L1 (eU.K1 dh aC)) dh)
def cM.K1  : List cq:=[]
def cM.L1(q:bB)(k:List cq):List cq->List cq
 |[]=>(k)
 |y1::rz1=>(bif((slices_BinarySearch_int q.lm y1.cZ).2)then(y1::(cM.L1 q k rz1))else(cM.L1 q k rz1))
def cM(q:bB)(aV:Int):List cq:=((cM.L1 q (cM.K1)) (nthI q.dh aV))
def j9(q:bB)(aV:Int):List cq:=(cM q aV)
def eI.K1(bF:Bool):Bool:=false
def eI.L1(k:Bool->Bool):List cq->Bool->Bool
 |[],bF=>k bF
 |y1::rz1,bF=>true
def eI(q:bB)(x:aj):Bool:=((eI.L1 (eI.K1)) (j9 q x.No) false)
def ey.K1(x:aj)(bF:Int):Bool:=decide (x.N<=bF)
def ey.L1(k:Int->Bool):List cq->Int->Bool
 |[],bF=>k bF
 |y1::rz1,bF=>(ey.L1 k rz1 (vB .i64 (bF+y1.j3)))
def ey(q:bB)(x:aj):Bool:=((ey.L1 (ey.K1 x)) (j9 q x.No) 0)
def fU.K1(x:aj)(eZ:Int):Bool:=decide (x.N<=eZ)
def fU.L1(rec:bB->aj->Bool)(q:bB)(k:Int->Bool):List aj->Int->Bool
 |[],eZ=>(k eZ)
 |y1::rz1,eZ=>(bif(rec q y1)then(fU.L1 rec q k rz1 (vB .i64 (eZ+1)))else(fU.L1 rec q k rz1 eZ))
def fU.F(rec:bB->aj->Bool)(q:bB)(x:aj):Bool:=((fU.L1 rec q (fU.K1 x)) x.L 0)
def mO.F(rec:bB->aj->Bool)(q:bB)(x:aj):Bool:=(bif(decide (q.value<=x.N))then(rec q (nthI x.L 0))else(rec q (nthI x.L 1)))
def fulQ(rec:bB->aj->Bool)(q:bB)(x:aj):Bool:=if x.Kind=1 then eI q x else if x.Kind=2 then ey q x else if x.Kind=3 then fU.F rec q x else mO.F rec q x
def eA.F(rec:bB->aj->Bool)(q:bB)(x:aj):Bool:=(fulQ rec q x)
def eA.go:Nat->bB->aj->Bool
 |0=>λ_ _=>default
 |m+1=>eA.F (eA.go m)
def eA(q:bB)(x:aj):Bool:=eA.go x.dep q x
def gm(p:aw)(kind:Int)(value:Int)(dh:List (List cq))(lm:List Int):(Bool×Int):=(bif((dt p) != 0)then(false,(dt p))else(bif(((decide (kind<0)||decide ((p.dQ.length:Int)<=kind))||decide (value<0))||decide (1099511627776<value))then(false,1)else(bif(!(eU dh (p.aB.length:Int)))then(false,210)else(bif(!(fd lm))then(false,1)else((eA (bB.mk value dh lm) ((nthI p.di kind).aj)),0)))))
def dG.K1(c:bU)(p:aw)(lm:List Int)(FX:List (List cq)):Bool:=((gm p c.ba.Kind c.ba.Value FX lm).1&&((gm p c.ba.Kind c.ba.Value FX lm).2==0))
def dG.L1(c:bU)(k:(List (List cq))->Bool):List ByteArray->Nat->(List (List cq))->Bool
 |[],i1,FX=>(k FX)
 |y1::rz1,i1,FX=>(dG.L1 c k rz1 (i1+1) (FX++[(eW c.Register.dD (i1:Int) c.at_ c.ah).1]))
def dG(c:bU)(p:aw)(lm:List Int):Bool:=((dG.L1 c (dG.K1 c p lm)) p.aB 0 ([]))
def fI(cK:Register)(ba:Int)(version:Int)(dw:Int)(ah:Int):List Int×Int:=
 bif dY cK != 0 then([],dY cK)else match nT cK ba dw ah with
  |.error e=>([],e)
  |.ok c=>match fP c version with
   |.error e=>([],e)
   |.ok p=>(de c p,0)
def askJ(c:bU):List Int×Int×Int:=aM c.Register.Versions c.ba.At c.at_ c.ah
def askP(c:bU)(no:Int):aw:=exD (fP c no)
def askWho(c:bU)(no:Int):List Int:=de c (askP c no)
def askAns(c:bU)(no:Int):Bool:=dG c (askP c no) (askWho c no)
def askAll(c:bU):List Int:=slices_Compact_int (sortI ((askJ c).1.flatMap (askWho c)))
def gq(c:bU):Bool:=bif(askJ c).2.1==0 then false else(gU (askJ c).2.1 ((askJ c).1.map (askAns c))).1
abbrev verO(s0 b0:Int)(vb:Option Addr)(vn vc:Nat)(wb:Option Addr)(wn wc:Nat):Obj:=.cells (xB [.int .i64 s0,.int .i64 b0,.slice vb vn vc,.slice wb wn wc]) 40 (0,0)
def judgeRoom(c:bU)(r:Register)(u:List Use)(at_ ah:Int):Int×Bool×Int:=aN r.dN u c.ba.Kind c.ba.Value at_ ah
def judgeC(c:bU)(r:Register)(signed:List Int)(u:List Use)(at_ ah:Int):fA:=
 bif hY c signed then⟨1,-1,[],[]⟩else bif iZ c signed then⟨2,-1,[],[]⟩else bif !(gq c)then⟨3,-1,(askJ c).1,askAll c⟩else
 bif !(judgeRoom c r u at_ ah).2.1 then⟨4,(judgeRoom c r u at_ ah).1,(askJ c).1,askAll c⟩else⟨0,-1,(askJ c).1,askAll c⟩
def bj(cK:Register)(signed:List Int)(u:List Use)(ba:Int)(cB:Int)(ah:Int):fA×Int:=
 bif dY cK != 0 then(⟨0,0,[],[]⟩,dY cK)else
 bif(bA cK.cj signed 0).2 != 0 then(⟨0,0,[],[]⟩,(bA cK.cj signed 0).2)else
 bif(aN cK.dN u 0 0 0 0).2.2 != 0 then(⟨0,0,[],[]⟩,(aN cK.dN u 0 0 0 0).2.2)else
 match nT cK ba cB ah with
  |.error e=>(⟨0,0,[],[]⟩,e)
  |.ok c=>(judgeC c cK signed u cB ah,0)
def wR(d:ao)(no:Int):Int:=(cmp_Compare_int d.No no)
def aW.L2(r:Register)(at_:Int)(ah:Int)(k:Bool->List Int):List Nat->Nat->Bool->List Int
 |[],i2,Ou=>(k Ou)
 |y2::rz2,i2,Ou=>(aW.L2 r at_ ah k rz2 (i2+1) (Ou||(eO r.dD (i2:Int) 0 at_ ah).2.2.1))
def aW.L3(r:Register)(at_:Int)(ah:Int)(i1:Nat)(k:Bool->List Int):List Nat->Nat->Bool->List Int
 |[],i3,DH=>(k DH)
 |y3::rz3,i3,DH=>(aW.L3 r at_ ah i1 k rz3 (i3+1) (DH||(eO r.dD (i3:Int) (i1:Int) at_ ah).2.2.1))
def aW.K1  : List Int:=[]
def aW.L1(r:Register)(at_:Int)(ah:Int)(d:ao)(k:List Int):List Nat->Nat->List Int
 |[],i1=>(k)
 |y1::rz1,i1=>((aW.L3 r at_ ah i1 (λzg3_7=>(bif(!zg3_7)then(aW.L1 r at_ ah d k rz1 (i1+1))else(bif(!((dV r.ej (i1:Int) d.kU at_ ah).2.1))then((i1:Int)::(aW.L1 r at_ ah d k rz1 (i1+1)))else(aW.L1 r at_ ah d k rz1 (i1+1)))))) (qE 32) 0 false)
def aW(r:Register)(at_:Int)(ah:Int)(d:ao):List Int:=((aW.L1 r at_ ah d (aW.K1)) (qE 64) 0)
def hZ(cK:Register)(d:ao)(bq:Int)(ah:Int):List Int:=(aW cK bq ah d)
def dK(l:List Budget)(kind:Int)(bq:Int)(ah:Int):(List Budget×Int):=(bif((bI l) != 0)then([],(bI l))else(bif((!(ce 0 15 ([kind])))||(!(ce 0 1099511627775 ([bq,ah]))))then([],1)else((aO l kind bq ah),0)))
def tC(x:aD)(no:Int):Int:=(cmp_Compare_int x.No no)
def pO(w lm:List Int)(p:aw)(d:ao)(dh:List (List cq)):Bool:=
 (gm p d.Kind d.Value dh (slices_Compact_int (sortI (lm++w)))).1&&((gm p d.Kind d.Value dh (slices_Compact_int (sortI (lm++w)))).2==0)
def gY(r:Register)(at_ ah:Int)(j:Nat):List cq:=(eW r.dD (j:Int) at_ ah).1
def j6(r:Register)(d:ao)(no at_ ah:Int)(w:List Int):Bool:=
 pO w (fI r d.No no at_ ah).1 (nthI r.Versions (bsPos aD.No r.Versions no)).aw d ((qE (nthI r.Versions (bsPos aD.No r.Versions no)).aw.aB.length).map (gY r at_ ah))
def ot(w:List Int)(e:Int)(vs:List (List Int->Bool))(mode:Int):Bool:=bif e != 0 then false else((gU mode (vs.map λf=>f w)).1&&((gU mode (vs.map λf=>f w)).2==0))
def gI(r:Register)(ba:Int):ao:=nthI r.cj (bsPos ao.No r.cj ba)
def iX(force:List Int):List Int->List Int->List Int
 |[],g=>g
 |y::s,g=>iX force s (bif !(fS force y)then g++[y]else g)
def ir(u:List Use)(d:ao)(at_ ah:Int):List Budget->List Int->List Int
 |[],g=>g
 |b::s,g=>ir u d at_ ah s (bif !((aN [b] u d.Kind d.Value at_ ah).2.1)then g++[b.No]else g)
def jq(r:Register)(signed:List Int)(u:List Use)(ba at_ ah:Int)(d:ao):QP:=
  ⟨(bj r signed u ba at_ ah).1.State==1,eD (hZ r d at_ ah),iX (bA r.cj signed at_).1 d.fm [],ir u d at_ ah (dK r.dN d.Kind at_ ah).1 [],
   λw=>ot w (aM r.Versions d.At at_ ah).2.2 ((aM r.Versions d.At at_ ah).1.map λno=>j6 r d no at_ ah) (aM r.Versions d.At at_ ah).2.1⟩
def iI(r:Register)(signed:List Int)(u:List Use)(ba at_ ah:Int):QP×Int:=
 bif(bj r signed u ba at_ ah).2 != 0 then(⟨false,[],[],[],λ_=>false⟩,(bj r signed u ba at_ ah).2)else(jq r signed u ba at_ ah (gI r ba),0)
structure vw(r:Register)(ba at_ ah:Int):Prop where
 docs:r.cj.Pairwise λa b=>a.No<b.No
 din:bsPos ao.No r.cj ba<r.cj.length
 vers:r.Versions.Pairwise λa b=>a.No<b.No
 vin:∀no∈(aM r.Versions (gI r ba).At at_ ah).1,bsPos aD.No r.Versions no<r.Versions.length/\(nthI r.Versions (bsPos aD.No r.Versions no)).aw.aB.length<=1000/\(fI r (gI r ba).No no at_ ah).1.length<=1000000
 vlen:(aM r.Versions (gI r ba).At at_ ah).1.length<=1000000
 flen:(hZ r (gI r ba) at_ ah).length<=1000000
 nlen:(gI r ba).fm.length<=1000000
 slen:(dK r.dN (gI r ba).Kind at_ ah).1.length<=1000000
def bu.K1(BL:List eC):List eC:=BL
def bu.L1(kind:Int)(k:List eC->List eC):List Int->List eC->List eC
 |[],BL=>(k BL)
 |y1::rz1,BL=>(bu.L1 kind k rz1 (BL++[(eC.mk kind y1)]))
def bu(kind:Int)(l:List Int):List eC:=((bu.L1 kind (bu.K1)) l ([]))
def jZ(q:QP)(w:List Int):List eC:=bu 1 w++bu 2 q.needs++bu 3 q.over
def mD(ba:Int)(q:QP)(e:Int):List eC×Bool×Int:=
 bif e != 0 then([],false,e)else bif decide (12<(q.free.length:Int))then([],false,2)else bif q.closed then(bu 4 [ba],false,0)else
  match(iM q.free).find? q.decides with
  |some w=>(jZ q w,true,0)
  |none=>([],false,0)
def aR(r:Register)(signed:List Int)(u:List Use)(ba at_ ah:Int):List eC×Bool×Int:=mD ba (iI r signed u ba at_ ah).1 (iI r signed u ba at_ ah).2
def iW.K1  : Int:=(-1)
def iW.L1(v:eC)(k:Int):List eC->Nat->Int
 |[],i1=>(k)
 |y1::rz1,i1=>(bif(decide (v=y1))then(i1:Int)else(iW.L1 v k rz1 (i1+1)))
def iW(s:List eC)(v:eC):Int:=((iW.L1 v (iW.K1)) s 0)
def m5(s:List eC)(v:eC):Bool:=decide (0<=(iW s v))
def fN(gp:Int)(v0:List eC)(v1:Int):Bool:=(m5 v0 (eC.mk v1 gp))
def pm(gp:Int)(v0:(Int->Bool)):Bool:=(!(v0 gp))
def gj(s:List Int)(del:Int->Bool):List Int:=s.filter λx=>!(del x)
def lh(p:Int)(v0:(Int->Bool)):Bool:=(!(v0 p))
def lH(l:List eC)(k:Int)(list:List Int):Bool:=et list (λn=>pm n (λn=>fN n l k))
def ou(q:QP)(e:Int)(l:List eC):Bool×Int:=
 bif(e != 0||q.closed)then(false,e)else bif(lH l 2 q.needs||lH l 3 q.over)then(false,0)else(q.decides (gj q.free (λp=>lh p (λn=>fN n l 1))),0)
def ny(r:Register)(signed:List Int)(u:List Use)(ba at_ ah:Int)(l:List eC):Bool×Int:=ou (iI r signed u ba at_ ah).1 (iI r signed u ba at_ ah).2 l
def DB(kind:Int)(Ew:Int):eC:=(eC.mk kind Ew)
def dF.K1(eZ:Int):Int:=eZ
def dF.L1(rec:aj->Int->Int)(dJ:Int)(k:Int->Int):List aj->Int->Int
 |[],eZ=>(k eZ)
 |y1::rz1,eZ=>(bif(decide (eZ<=dJ))then(dF.L1 rec dJ k rz1 (vB .i64 (eZ+(rec y1 (vB .i64 (dJ-eZ))))))else(k eZ))
def dF.F(rec:aj->Int->Int)(x:aj)(dJ:Int):Int:=((dF.L1 rec dJ (dF.K1)) x.L 1)
def dF.go:Nat->aj->Int->Int
 |0=>λ_ _=>default
 |m+1=>dF.F (dF.go m)
def dF(x:aj)(dJ:Int):Int:=dF.go x.dep x dJ
def bR.K1(lB:Int):Int:=(vB .i64 (lB+1))
def bR.L1(rec:aj->Int)(k:Int->Int):List aj->Int->Int
 |[],lB=>(k lB)
 |y1::rz1,lB=>(bR.L1 rec k rz1 (max lB (rec y1)))
def bR.F(rec:aj->Int)(x:aj):Int:=((bR.L1 rec (bR.K1)) x.L 0)
def bR.go:Nat->aj->Int
 |0=>λ_=>default
 |m+1=>bR.F (bR.go m)
def bR(x:aj):Int:=bR.go x.dep x
def lZ(x:aj):Bool:=(decide (256<(dF x 256))||decide (16<(bR x)))
def fw.K1  : Bool:=false
def fw.L1(k:Bool):List ft->Bool
 |[]=>(k)
 |y1::rz1=>(bif(lZ y1.aj)then true else(fw.L1  k rz1))
def fw(p:aw):Bool:=(bif(((decide (32<(p.aB.length:Int))||decide (16<(p.dQ.length:Int)))||decide (16<(p.di.length:Int)))||(lZ p.aQ))then true else((fw.L1 (fw.K1)) p.di))
def nP(c:Int):Bool:=((decide (97<=c)&&decide (c<=122))||(decide (65<=c)&&decide (c<=90)))
def uj(c:Int):Bool:=(decide (48<=c)&&decide (c<=57))
def uX(c:Int):Bool:=(((nP c)||(uj c))||(c==95))
def jY.K1  : Bool:=true
def jY.L1(s:ByteArray)(k:Bool):List Nat->Nat->Bool
 |[],i1=>(k)
 |y1::rz1,i1=>(bif(!(uX ((s.data.getD ((i1:Int):Int).toNat 0).toNat:Int)))then false else(jY.L1 s k rz1 (i1+1)))
def jY(s:ByteArray):Bool:=(bif((decide ((s.size:Int)<1)||decide (32<(s.size:Int)))||(!(nP ((s.data.getD (0:Int).toNat 0).toNat:Int))))then false else((jY.L1 s (jY.K1)) (qE s.size) 0))
def uT(s:ByteArray):Bool:=(bif(s.toList==(⟨#[112,111,108,105,99,121]⟩:ByteArray).toList)then(bif(s.toList==(⟨#[112,111,108,105,99,121]⟩:ByteArray).toList)then true else false)else(bif(s.toList==(⟨#[109,111,100,101]⟩:ByteArray).toList)then(bif(s.toList==(⟨#[109,111,100,101]⟩:ByteArray).toList)then true else false)else(bif(s.toList==(⟨#[111,108,100]⟩:ByteArray).toList)then(bif(s.toList==(⟨#[111,108,100]⟩:ByteArray).toList)then true else false)else(bif(s.toList==(⟨#[110,101,119]⟩:ByteArray).toList)then(bif(s.toList==(⟨#[110,101,119]⟩:ByteArray).toList)then true else false)else(bif(s.toList==(⟨#[98,111,116,104]⟩:ByteArray).toList)then(bif(s.toList==(⟨#[98,111,116,104]⟩:ByteArray).toList)then true else false)else(bif(s.toList==(⟨#[101,105,116,104,101,114]⟩:ByteArray).toList)then(bif(s.toList==(⟨#[101,105,116,104,101,114]⟩:ByteArray).toList)then true else false)else(bif(s.toList==(⟨#[111,102,102,105,99,101]⟩:ByteArray).toList)then(bif(s.toList==(⟨#[111,102,102,105,99,101]⟩:ByteArray).toList)then true else false)else(bif(s.toList==(⟨#[107,105,110,100]⟩:ByteArray).toList)then(bif(s.toList==(⟨#[107,105,110,100]⟩:ByteArray).toList)then true else false)else(bif(s.toList==(⟨#[114,117,108,101]⟩:ByteArray).toList)then(bif(s.toList==(⟨#[114,117,108,101]⟩:ByteArray).toList)then true else false)else(bif(s.toList==(⟨#[116,104,105,110,107]⟩:ByteArray).toList)then(bif(s.toList==(⟨#[116,104,105,110,107]⟩:ByteArray).toList)then true else false)else(bif(s.toList==(⟨#[99,104,97,110,103,101]⟩:ByteArray).toList)then(bif(s.toList==(⟨#[99,104,97,110,103,101]⟩:ByteArray).toList)then true else false)else(bif(s.toList==(⟨#[115,111,109,101]⟩:ByteArray).toList)then(bif(s.toList==(⟨#[115,111,109,101]⟩:ByteArray).toList)then true else false)else(bif(s.toList==(⟨#[119,101,105,103,104,116]⟩:ByteArray).toList)then(bif(s.toList==(⟨#[119,101,105,103,104,116]⟩:ByteArray).toList)then true else false)else(bif(s.toList==(⟨#[111,102]⟩:ByteArray).toList)then(bif(s.toList==(⟨#[111,102]⟩:ByteArray).toList)then true else false)else(bif(s.toList==(⟨#[117,112,116,111]⟩:ByteArray).toList)then(bif(s.toList==(⟨#[117,112,116,111]⟩:ByteArray).toList)then true else false)else(bif(s.toList==(⟨#[101,108,115,101]⟩:ByteArray).toList)then true else false))))))))))))))))
def oS(s:ByteArray):Bool:=((jY s)&&(!(uT s)))
def fK.K1  : Int:=(-1)
def fK.L1(s:ByteArray)(k:Int):List ByteArray->Nat->Int
 |[],i1=>(k)
 |y1::rz1,i1=>(bif(y1.toList==s.toList)then(i1:Int)else(fK.L1 s k rz1 (i1+1)))
def fK(l:List ByteArray)(s:ByteArray):Int:=((fK.L1 s (fK.K1)) l 0)
def fx.K1  : Bool:=true
def fx.L1(l:List ByteArray)(k:Bool):List ByteArray->Nat->Bool
 |[],i1=>(k)
 |y1::rz1,i1=>(bif((!(oS y1))||((fK l y1) != (i1:Int)))then false else(fx.L1 l k rz1 (i1+1)))
def fx(l:List ByteArray):Bool:=((fx.L1 l (fx.K1)) l 0)
def cx.K1  : Bool:=true
def cx.L1(rec:List ByteArray->aj->Bool)(aC:List ByteArray)(k:Bool):List aj->Bool
 |[]=>(k)
 |y1::rz1=>(bif(!(rec aC y1))then false else(cx.L1 rec aC k rz1))
def cx.F(rec:List ByteArray->aj->Bool)(aC:List ByteArray)(x:aj):Bool:=(bif(((x.Kind==1)||(x.Kind==2))&&decide ((fK aC x.Name)<0))then false else((cx.L1 rec aC (cx.K1)) x.L))
def cx.go:Nat->List ByteArray->aj->Bool
 |0=>λ_ _=>default
 |m+1=>cx.F (cx.go m)
def cx(aC:List ByteArray)(x:aj):Bool:=cx.go x.dep aC x
def iH.K1(p:aw):Bool:=(cx p.aB p.aQ)
def iH.L1(p:aw)(k:Bool):List ft->Bool
 |[]=>(k)
 |y1::rz1=>(bif(!(cx p.aB y1.aj))then false else(iH.L1 p k rz1))
def iH(p:aw):Bool:=(bif(((!(oS p.Name))||(!(fx p.aB)))||(!(fx p.dQ)))then false else((iH.L1 p (iH.K1 p)) p.di))
def aU.K1(x:aj)(upto:Bool):Bool:=(bif(x.Kind==1)then((x.N==0)&&((x.L.length:Int)==0))else(bif(x.Kind==2)then((decide (1<=x.N)&&decide (x.N<=4096))&&((x.L.length:Int)==0))else(bif(x.Kind==3)then(((((x.Name.toList==(⟨#[]⟩:ByteArray).toList)&&decide (1<=(x.L.length:Int)))&&decide ((x.L.length:Int)<=16))&&decide (1<=x.N))&&decide (x.N<=(x.L.length:Int)))else(bif(x.Kind==4)then((((upto&&(x.Name.toList==(⟨#[]⟩:ByteArray).toList))&&((x.L.length:Int)==2))&&decide (0<=x.N))&&decide (x.N<=1099511627776))else false))))
def aU.L1(rec:aj->Bool->Bool)(upto:Bool)(k:Bool):List aj->Bool
 |[]=>(k)
 |y1::rz1=>(bif(!(rec y1 upto))then false else(aU.L1 rec upto k rz1))
def aU.F(rec:aj->Bool->Bool)(x:aj)(upto:Bool):Bool:=((aU.L1 rec upto (aU.K1 x upto)) x.L)
def aU.go:Nat->aj->Bool->Bool
 |0=>λ_ _=>default
 |m+1=>aU.F (aU.go m)
def aU(x:aj)(upto:Bool):Bool:=aU.go x.dep x upto
def gC.K1(p:aw):Bool:=(aU p.aQ false)
def gC.L1(p:aw)(k:Bool):List ft->Nat->Bool
 |[],i1=>(k)
 |y1::rz1,i1=>(bif((((!(y1.Kind.toList==(nthI p.dQ (i1:Int)).toList))||decide (y1.iK<0))||decide (1099511627776<=y1.iK))||(!(aU y1.aj true)))then false else(gC.L1 p k rz1 (i1+1)))
def gC(p:aw):Bool:=(bif(((decide ((p.dQ.length:Int)<1)||((p.di.length:Int) != (p.dQ.length:Int)))||decide (p.Mode<1))||decide (4<p.Mode))then false else((gC.L1 p (gC.K1 p)) p.di 0))
def av.K1(aC:List ByteArray)(x:aj)(nk:List aj):aj:=(aj.mk x.Kind x.N (fK aC x.Name) x.Name nk)
def av.L1(rec:List ByteArray->aj->aj)(aC:List ByteArray)(k:List aj->aj):List aj->List aj->aj
 |[],nk=>(k nk)
 |y1::rz1,nk=>(av.L1 rec aC k rz1 (nk++[(rec aC y1)]))
def av.K2(x:aj)(nj:List aj):aj:=(aj.mk x.Kind x.N 0 x.Name nj)
def av.L2(rec:List ByteArray->aj->aj)(aC:List ByteArray)(k:List aj->aj):List aj->List aj->aj
 |[],nj=>(k nj)
 |y2::rz2,nj=>(av.L2 rec aC k rz2 (nj++[(rec aC y2)]))
def av.F(rec:List ByteArray->aj->aj)(aC:List ByteArray)(x:aj):aj:=(bif((x.Kind==1)||(x.Kind==2))then((av.L1 rec aC (av.K1 aC x)) x.L ([]))else((av.L2 rec aC (av.K2 x)) x.L ([])))
def av.go:Nat->List ByteArray->aj->aj
 |0=>λ_ _=>default
 |m+1=>av.F (av.go m)
def av(aC:List ByteArray)(x:aj):aj:=av.go x.dep aC x
def eh.K1(p:aw)(nl:List ft):(aw×Int):=((aw.mk p.Name p.dQ p.aB nl (aj.mk ((av p.aB p.aQ).Kind) ((av p.aB p.aQ).N) ((av p.aB p.aQ).No) ((av p.aB p.aQ).Name) ((av p.aB p.aQ).L)) p.Mode),0)
def eh.L1(p:aw)(k:List ft->(aw×Int)):List ft->Nat->List ft->(aw×Int)
 |[],i1,nl=>(k nl)
 |y1::rz1,i1,nl=>(eh.L1 p k rz1 (i1+1) (nl++[(ft.mk y1.Kind (i1:Int) y1.iK (aj.mk ((av p.aB y1.aj).Kind) ((av p.aB y1.aj).N) ((av p.aB y1.aj).No) ((av p.aB y1.aj).Name) ((av p.aB y1.aj).L)))]))
def eh(p:aw):(aw×Int):=(bif(fw p)then((aw.mk (⟨#[]⟩:ByteArray) ([]) ([]) ([]) (aj.mk 0 0 0 (⟨#[]⟩:ByteArray) ([])) 0),2)else(bif(!(iH p))then((aw.mk (⟨#[]⟩:ByteArray) ([]) ([]) ([]) (aj.mk 0 0 0 (⟨#[]⟩:ByteArray) ([])) 0),201)else(bif(!(gC p))then((aw.mk (⟨#[]⟩:ByteArray) ([]) ([]) ([]) (aj.mk 0 0 0 (⟨#[]⟩:ByteArray) ([])) 0),200)else((eh.L1 p (eh.K1 p)) p.di 0 ([])))))
abbrev lsz0:ByteArray:=⟨#[104,111,117,115,101]⟩
abbrev lsz1:ByteArray:=⟨#[108,101,116,116,101,114]⟩
abbrev lsz2:ByteArray:=⟨#[98,111,97,114,100]⟩
abbrev lszx:aj:=aj.mk 2 2 0 lsz2 ([])
abbrev lszp:aw:=aw.mk lsz0 ([lsz1]) ([lsz2]) ([(ft.mk lsz1 0 0 lszx)]) lszx 2
abbrev lszq:aw:=(eh lszp).1
def cG.K2(lL:List aK)(nV:List ay):Register:=(Register.mk lL ([]) ([]) ([]) ([(aD.mk 0 0 0 lszq)]) ([(ao.mk 5 0 0 0 0 1099511627776 ([]) ([]) ([]) (λ_=>0))]) nV)
def cG.L2(k:List ay->Register):List Int->Nat->List ay->Register
 |[],i2,nV=>(k nV)
 |y2::rz2,i2,nV=>(cG.L2  k rz2 (i2+1) (nV++[(ay.mk (i2:Int) 0 0 5 y2 y2 0 false)]))
def cG.K1(lm:List Int)(lL:List aK):Register:=((cG.L2 (cG.K2 lL)) lm 0 ([]))
def cG.L1(k:List aK->Register):List Nat->Nat->List aK->Register
 |[],i1,lL=>(k lL)
 |y1::rz1,i1,lL=>(cG.L1  k rz1 (i1+1) (lL++[(aK.mk (i1:Int) 0 0 0 (((i1+1):Nat):Int) 1 false)]))
def cG(lm:List Int):Register:=((cG.L1 (cG.K1 lm)) (qE 3) 0 ([]))
def ju.K1  : Bool:=true
def ju.L1(mP:List eC)(k:Bool):List eC->Nat->Bool
 |[],i1=>(k)
 |y1::rz1,i1=>(bif(!(decide (y1=(nthI mP (i1:Int)))))then false else(ju.L1 mP k rz1 (i1+1)))
def ju(a:List eC)(mP:List eC):Bool:=(bif((a.length:Int) != (mP.length:Int))then false else((ju.L1 mP (ju.K1)) a 0))
def ve(cK:Register)(signed:Int)(want:List eC):Bool:=((((aR cK ([signed]) ([]) 5 9 9).2.2==0)&&((aR cK ([signed]) ([]) 5 9 9).2.1==decide (signed<0)))&&(ju ((aR cK ([signed]) ([]) 5 9 9).1) want))
def CD:Bool:=true
def ib.K1(eZ:Int):Int:=eZ
def ib.L1(rec:aj->Int->Int)(dJ:Int)(k:Int->Int):List aj->Int->Int
 |[],eZ=>(k eZ)
 |y1::rz1,eZ=>(bif(decide (eZ<=dJ))then(ib.L1 rec dJ k rz1 (vB .i64 (eZ+(rec y1 (vB .i64 (dJ-eZ))))))else(k eZ))
def ib.F(rec:aj->Int->Int)(x:aj)(dJ:Int):Int:=((ib.L1 rec dJ (ib.K1)) x.L 1)
def ib.go:Nat->aj->Int->Int
 |0=>λ_ _=>default
 |m+1=>ib.F (ib.go m)
def ib(x:aj)(dJ:Int):Int:=ib.go x.dep x dJ
def eH.L2(k:Bool):List ft->Bool
 |[]=>(k)
 |y2::rz2=>(bif(decide (40<(ib y2.aj 40)))then false else(eH.L2  k rz2))
def eH.L3(k:Bool):List ft->Bool
 |[]=>(k)
 |y3::rz3=>(bif(decide (40<(ib y3.aj 40)))then false else(eH.L3  k rz3))
def eH.K1  : Bool:=true
def eH.L1(k:Bool):List aD->Bool
 |[]=>(k)
 |y1::rz1=>(bif(((decide (20<(y1.aw.dQ.length:Int))||decide (40<(y1.aw.aB.length:Int)))||decide (20<(y1.aw.di.length:Int)))||decide (40<(ib y1.aw.aQ 40)))then false else((eH.L3 ((eH.L1  k rz1))) y1.aw.di))
def eH(l:List aD):Bool:=(bif(decide (5<(l.length:Int)))then false else((eH.L1 (eH.K1)) l))
def mC.K1  : Bool:=true
def mC.L1(k:Bool):List ao->Bool
 |[]=>(k)
 |y1::rz1=>(bif((decide (20<(y1.kU.length:Int))||decide (20<(y1.eX.length:Int)))||decide (20<(y1.fm.length:Int)))then false else(mC.L1  k rz1))
def mC(cK:Register):Bool:=(bif((((((decide (30<(cK.dD.length:Int))||decide (12<(cK.fR.length:Int)))||decide (12<(cK.ej.length:Int)))||decide (12<(cK.dN.length:Int)))||decide (8<(cK.cj.length:Int)))||decide (24<(cK.dy.length:Int)))||(!(eH cK.Versions)))then false else((mC.L1 (mC.K1)) cK.cj))
def lG.K1  : Bool:=true
def lG.L1(k:Bool):List aK->Bool
 |[]=>(k)
 |y1::rz1=>(bif(decide (5<y1.cZ))then false else(lG.L1  k rz1))
def lG(cK:Register)(signed:List Int)(u:List Use):Bool:=(bif(((!(mC cK))||decide (20<(signed.length:Int)))||decide (30<(u.length:Int)))then false else((lG.L1 (lG.K1)) cK.dD))
def uW(gp:Int):Bool:=(decide (0<=gp)&&decide (gp<1099511627776))
def ui(gp:Int):Bool:=(decide (0<=gp)&&decide (gp<32))
def uh(gp:Int):Bool:=(decide (0<=gp)&&decide (gp<64))
def nH(x:aK):Bool:=(bif(((((decide (x.No<0)||decide (1048576<x.No))||(!(uW x.At)))||(!(uW x.dU)))||(!(ui x.ep)))||(!(uh x.cZ)))then false else(bif x.mG then(x.j3==0)else(decide (1<=x.j3)&&decide (x.j3<=64))))
def jr.K1  : Int:=0
def jr.L1(l:List aK)(k:Int):List aK->Nat->Int
 |[],i1=>(k)
 |y1::rz1,i1=>(bif((!(nH y1))||(decide (0<(i1:Int))&&decide (y1.No<=(nthI l ((i1:Int)-1)).No)))then 150 else(jr.L1 l k rz1 (i1+1)))
def jr(l:List aK):Int:=(bif(decide (4096<(l.length:Int)))then 2 else((jr.L1 l (jr.K1)) l 0))
def lX(gp:Int)(low:Int)(high:Int):Bool:=(decide (low<=gp)&&decide (gp<=high))
def uV(gp:Int):Bool:=(lX gp 0 1099511627775)
def qZ(gp:Int):Bool:=(lX gp 0 63)
def nF(x:bz):Bool:=(bif((((((!(lX x.No 0 1048576))||(!(uV x.At)))||(!(uV x.dU)))||(!(qZ x.From)))||(!(qZ x.To)))||(x.From==x.To))then false else(bif((!(lX x.ep 0 31))||(!(lX x.Kind (-1) 15)))then false else(bif x.mG then((x.mT==0)&&(x.NN==0))else((decide (x.At<x.mT)&&decide (x.mT<=1099511627776))&&(lX x.NN 0 1099511627776)))))
def je.K1  : Int:=0
def je.L1(l:List bz)(k:Int):List bz->Nat->Int
 |[],i1=>(k)
 |y1::rz1,i1=>(bif((!(nF y1))||(decide (0<(i1:Int))&&decide (y1.No<=(nthI l ((i1:Int)-1)).No)))then 160 else(je.L1 l k rz1 (i1+1)))
def je(l:List bz):Int:=(bif(decide (4096<(l.length:Int)))then 2 else((je.L1 l (je.K1)) l 0))
def uR(t:Int):Bool:=(decide (0<=t)&&decide (t<1099511627776))
def sO(gp:Int):Bool:=(decide (0<=gp)&&decide (gp<=1048576))
def ug(gp:Int):Bool:=(decide (0<=gp)&&decide (gp<64))
def nC(x:aF):Bool:=(bif((((decide (x.No<0)||decide (1048576<x.No))||(!(uR x.At)))||(!(uR x.dU)))||(!(sO x.iw)))then false else(bif x.Of then((sO x.cZ)&&(x.cZ != x.iw))else(ug x.cZ)))
def ja.K1  : Int:=0
def ja.L1(l:List aF)(k:Int):List aF->Nat->Int
 |[],i1=>(k)
 |y1::rz1,i1=>(bif((!(nC y1))||(decide (0<(i1:Int))&&decide (y1.No<=(nthI l ((i1:Int)-1)).No)))then 290 else(ja.L1 l k rz1 (i1+1)))
def ja(l:List aF):Int:=(bif(decide (4096<(l.length:Int)))then 2 else((ja.L1 l (ja.K1)) l 0))
def jx(gp:Int)(least:Int)(most:Int):Bool:=(decide (least<=gp)&&decide (gp<=most))
def ky(gp:Int):Bool:=(decide (0<=gp)&&decide (gp<1099511627776))
def nE(x:Budget):Bool:=(bif(((((!(jx x.No 0 1048576))||(!(ky x.At)))||(!(ky x.dU)))||(!(jx x.Kind (-1) 15)))||(!(jx x.eK 1 1099511627776)))then false else(bif x.mG then((x.Count==0)&&(x.Value==0))else((jx x.Count 0 1048576)&&(jx x.Value 0 1099511627776))))
def fY.K1  : Int:=0
def fY.L1(l:List Budget)(k:Int):List Budget->Nat->Int
 |[],i1=>(k)
 |y1::rz1,i1=>(bif((!(nE y1))||(decide (0<(i1:Int))&&decide (y1.No<=(nthI l ((i1:Int)-1)).No)))then 180 else(fY.L1 l k rz1 (i1+1)))
def fY(l:List Budget):Int:=(bif(decide (4096<(l.length:Int)))then 2 else((fY.L1 l (fY.K1)) l 0))
def fX(gp:Int):Bool:=(decide (0<=gp)&&decide (gp<1099511627776))
def fT.K1  : Bool:=true
def fT.L1(mP:List ByteArray)(k:Bool):List ByteArray->Nat->Bool
 |[],i1=>(k)
 |y1::rz1,i1=>(bif(!(y1.toList==(nthI mP (i1:Int)).toList))then false else(fT.L1 mP k rz1 (i1+1)))
def fT(a:List ByteArray)(mP:List ByteArray):Bool:=(bif((a.length:Int) != (mP.length:Int))then false else((fT.L1 mP (fT.K1)) a 0))
def bK.K1  : Bool:=true
def bK.L1(rec:aj->aj->Bool)(mP:aj)(k:Bool):List aj->Nat->Bool
 |[],i1=>(k)
 |y1::rz1,i1=>(bif(!(rec y1 (nthI mP.L (i1:Int))))then false else(bK.L1 rec mP k rz1 (i1+1)))
def bK.F(rec:aj->aj->Bool)(a:aj)(mP:aj):Bool:=(bif(((((a.Kind != mP.Kind)||(a.N != mP.N))||(a.No != mP.No))||(!(a.Name.toList==mP.Name.toList)))||((a.L.length:Int) != (mP.L.length:Int)))then false else((bK.L1 rec mP (bK.K1)) a.L 0))
def bK.go:Nat->aj->aj->Bool
 |0=>λ_ _=>default
 |m+1=>bK.F (bK.go m)
def bK(a:aj)(mP:aj):Bool:=bK.go a.dep a mP
def jg.K1  : Bool:=true
def jg.L1(mP:aw)(k:Bool):List ft->Nat->Bool
 |[],i1=>(k)
 |y1::rz1,i1=>(bif((((!(y1.Kind.toList==(nthI mP.di (i1:Int)).Kind.toList))||(y1.Bf != (nthI mP.di (i1:Int)).Bf))||(y1.iK != (nthI mP.di (i1:Int)).iK))||(!(bK y1.aj ((nthI mP.di (i1:Int)).aj))))then false else(jg.L1 mP k rz1 (i1+1)))
def jg(a:aw)(mP:aw):Bool:=(bif((((((!(a.Name.toList==mP.Name.toList))||(a.Mode != mP.Mode))||(!(fT a.aB mP.aB)))||(!(fT a.dQ mP.dQ)))||((a.di.length:Int) != (mP.di.length:Int)))||(!(bK a.aQ mP.aQ)))then false else((jg.L1 mP (jg.K1)) a.di 0))
def ic(p:aw):Int:=(bif((eh p).2 != 0)then(eh p).2 else(bif(!(jg ((eh p).1) p))then 200 else 0))
def dZ.K1  : Int:=0
def dZ.L1(l:List aD)(k:Int):List aD->Nat->Int
 |[],i1=>(k)
 |y1::rz1,i1=>(bif(((((decide (y1.No<0)||decide (1048576<y1.No))||(decide (0<(i1:Int))&&decide (y1.No<=(nthI l ((i1:Int)-1)).No)))||(!(fX y1.At)))||(!(fX y1.dU)))||((ic y1.aw) != 0))then 200 else(dZ.L1 l k rz1 (i1+1)))
def dZ(l:List aD):Int:=(bif(decide (256<(l.length:Int)))then 2 else((dZ.L1 l (dZ.K1)) l 0))
def oT(t:Int):Bool:=(decide (0<=t)&&decide (t<1099511627776))
def ga.K1(l:List Int):Bool:=decide ((l.length:Int)<=16)
def ga.L1(l:List Int)(dJ:Int)(k:Bool):List Int->Nat->Bool
 |[],i1=>(k)
 |y1::rz1,i1=>(bif((decide (y1<0)||decide (dJ<=y1))||(decide (0<(i1:Int))&&decide (y1<=(nthI l ((i1:Int)-1)))))then false else(ga.L1 l dJ k rz1 (i1+1)))
def ga(l:List Int)(dJ:Int):Bool:=((ga.L1 l dJ (ga.K1 l)) l 0)
def m7(d:ao):Bool:=(bif((((((decide (d.No<0)||decide (4096<=d.No))||(!(oT d.At)))||decide (d.Kind<0))||decide (16<=d.Kind))||decide (d.Value<0))||decide (1099511627776<d.Value))then false else(((((decide (0<=d.From)&&decide (d.From<d.mT))&&decide (d.mT<=1099511627776))&&(ga d.kU 1048577))&&(ga d.eX d.No))&&(ga d.fm d.No)))
def gF.K1  : Int:=(-1)
def gF.L1(no:Int)(k:Int):List ao->Nat->Int
 |[],i1=>(k)
 |y1::rz1,i1=>(bif(y1.No==no)then(i1:Int)else(gF.L1 no k rz1 (i1+1)))
def gF(l:List ao)(no:Int):Int:=((gF.L1 no (gF.K1)) l 0)
def fZ.K1  : Bool:=true
def fZ.L1(l:List ao)(k:Bool):List Int->Bool
 |[]=>(k)
 |y1::rz1=>(bif(decide ((gF l y1)<0))then false else(fZ.L1 l k rz1))
def fZ(l:List ao)(nos:List Int):Bool:=((fZ.L1 l (fZ.K1)) nos)
def ek.K1  : Int:=0
def ek.L1(l:List ao)(k:Int):List ao->Nat->Int
 |[],i1=>(k)
 |y1::rz1,i1=>(bif((((!(m7 y1))||(decide (0<(i1:Int))&&decide (y1.No<=(nthI l ((i1:Int)-1)).No)))||(!(fZ l y1.eX)))||(!(fZ l y1.fm)))then 170 else(ek.L1 l k rz1 (i1+1)))
def ek(l:List ao):Int:=(bif(decide (4096<(l.length:Int)))then 2 else((ek.L1 l (ek.K1)) l 0))
def lW(gp:Int)(most:Int):Bool:=(decide (0<=gp)&&decide (gp<=most))
def uS(gp:Int):Bool:=(lW gp 1099511627775)
def Bl(gp:Int):Bool:=(lW gp 4095)
def nD(x:ay):Bool:=(bif((((!(lW x.No 1048576))||(!(uS x.At)))||(!(uS x.dU)))||(!(Bl x.Doc)))then false else(((lW x.By 63)&&(lW x.For 63))&&(lW x.ep 31)))
def jd.K1  : Int:=0
def jd.L1(l:List ay)(k:Int):List ay->Nat->Int
 |[],i1=>(k)
 |y1::rz1,i1=>(bif((!(nD y1))||(decide (0<(i1:Int))&&decide (y1.No<=(nthI l ((i1:Int)-1)).No)))then 280 else(jd.L1 l k rz1 (i1+1)))
def jd(l:List ay):Int:=(bif(decide (4096<(l.length:Int)))then 2 else((jd.L1 l (jd.K1)) l 0))
def nB(cK:Register):Int:=(bif(((((jr cK.dD) != 0)||((je cK.fR) != 0))||((ja cK.ej) != 0))||((fY cK.dN) != 0))then 300 else(bif((((dZ cK.Versions) != 0)||((ek cK.cj) != 0))||((jd cK.dy) != 0))then 300 else 0))
def fa.K1(l:List ao)(signed:List Int):Bool:=((signed.length:Int)==(l.length:Int))
def fa.L1(k:Bool):List Int->Bool
 |[]=>(k)
 |y1::rz1=>(bif((y1 != (-1))&&(!(oT y1)))then false else(fa.L1  k rz1))
def fa(l:List ao)(signed:List Int):Bool:=((fa.L1 (fa.K1 l signed)) signed)
def gy.K1  : Bool:=false
def gy.L1(Ew:Int)(k:Bool):List Int->Bool
 |[]=>(k)
 |y1::rz1=>(bif(y1==Ew)then true else(gy.L1 Ew k rz1))
def gy(l:List Int)(Ew:Int):Bool:=((gy.L1 Ew (gy.K1)) l)
def eV.K1(l:List ao)(xZ:Int)(cB:Int):(Int×Int):=(bif(decide (cB<(nthI l xZ).From))then(2,(-1))else(bif(decide ((nthI l xZ).mT<=cB))then(3,(-1))else(0,(-1))))
def eV.L1(l:List ao)(done:List Int)(effective:List Bool)(xZ:Int)(k:(Int×Int)):List ao->Nat->(Int×Int)
 |[],i1=>(k)
 |y1::rz1,i1=>(bif(((gy done (i1:Int))&&(nthI effective (i1:Int)))&&(gy y1.eX ((nthI l xZ).No)))then(5,y1.No)else(eV.L1 l done effective xZ k rz1 (i1+1)))
def eV(l:List ao)(done:List Int)(effective:List Bool)(xZ:Int)(cB:Int):(Int×Int):=(bif(!(gy done xZ))then(1,(-1))else(bif(!(nthI effective xZ))then(4,(-1))else((eV.L1 l done effective xZ (eV.K1 l xZ cB)) l 0)))
def cn.L2(signed:List Int)(k:List Int):List Nat->Nat->List Int
 |[],i2=>(k)
 |y2::rz2,i2=>(bif(decide ((nthI signed 0)<(nthI signed (nthI ([]) (((0-(i2+1)):Nat):Int)))))then(cn.L2 signed k rz2 (i2+1))else(k))
def cn.L3(signed:List Int)(y1:Int)(eZ:List Int)(k:Nat->List Int):List Nat->Nat->List Int
 |[],i3=>(k (i3))
 |y3::rz3,i3=>(bif(decide (y1<(nthI signed (nthI eZ (((eZ.length-(i3+1)):Nat):Int)))))then(cn.L3 signed y1 eZ k rz3 (i3+1))else(k (i3)))
def cn.K1(eZ:List Int):List Int:=eZ
def cn.L1(signed:List Int)(lq:Int)(k:List Int->List Int):List Int->Nat->List Int->List Int
 |[],i1,eZ=>(k eZ)
 |y1::rz1,i1,eZ=>(bif(decide (y1<0)||decide (lq<y1))then(cn.L1 signed lq k rz1 (i1+1) eZ)else((cn.L3 signed y1 eZ (λzi3=>(cn.L1 signed lq k rz1 (i1+1) (((eZ.take (((((eZ.length-zi3):Nat):Int):Int)).toNat)++[(i1:Int)])++(eZ.drop (((((eZ.length-zi3):Nat):Int):Int)).toNat))))) (qE eZ.length) 0))
def cn(signed:List Int)(lq:Int):List Int:=((cn.L1 signed lq (cn.K1)) signed 0 ([]))
def co.L3(l:List ao)(signed:List Int)(bq:Int)(k:List Int->List Int):List Nat->Nat->List Int->List Int
 |[],i3,TB=>(k TB)
 |y3::rz3,i3,TB=>(bif((eV l ((cn signed bq).take ((0:Int)).toNat) (List.replicate l.length false) (gF l (nthI ((nthI l (nthI (cn signed bq) 0)).fm) ((((((nthI l (nthI (cn signed bq) 0)).fm.length)-i3):Nat):Int)-1))) (nthI signed (nthI (cn signed bq) 0))).1 != 0)then(co.L3 l signed bq k rz3 (i3+1) (TB.set ((nthI (cn signed bq) 0):Int).toNat (nthI ((nthI l (nthI (cn signed bq) 0)).fm) ((((((nthI l (nthI (cn signed bq) 0)).fm.length)-i3):Nat):Int)-1))))else(co.L3 l signed bq k rz3 (i3+1) TB))
def co.L4(l:List ao)(signed:List Int)(bq:Int)(i2:Nat)(y2:Int)(mv:List Bool)(k:List Int->List Int):List Nat->Nat->List Int->List Int
 |[],i4,vI=>(k vI)
 |y4::rz4,i4,vI=>(bif((eV l ((cn signed bq).take (((i2:Int):Int)).toNat) mv (gF l (nthI ((nthI l y2).fm) ((((((nthI l y2).fm.length)-i4):Nat):Int)-1))) (nthI signed y2)).1 != 0)then(co.L4 l signed bq i2 y2 mv k rz4 (i4+1) (vI.set (y2:Int).toNat (nthI ((nthI l y2).fm) ((((((nthI l y2).fm.length)-i4):Nat):Int)-1))))else(co.L4 l signed bq i2 y2 mv k rz4 (i4+1) vI))
def co.K2(mv:List Bool)(H9:List Int):List Int:=H9
def co.L2(l:List ao)(signed:List Int)(bq:Int)(k:List Bool->List Int->List Int):List Int->Nat->List Bool->List Int->List Int
 |[],i2,mv,H9=>(k mv H9)
 |y2::rz2,i2,mv,H9=>((co.L4 l signed bq i2 y2 mv (λzg4_9=>(co.L2 l signed bq k rz2 (i2+1) (mv.set (y2:Int).toNat (decide ((nthI zg4_9 y2)<0))) zg4_9))) (qE ((nthI l y2).fm.length)) 0 H9)
def co.K1(l:List ao)(signed:List Int)(bq:Int)(pW:List Int):List Int:=((co.L2 l signed bq (co.K2)) (cn signed bq) 0 (List.replicate l.length false) pW)
def co.L1(k:List Int->List Int):List ao->List Int->List Int
 |[],pW=>(k pW)
 |y1::rz1,pW=>(co.L1  k rz1 (pW++[(-1)]))
def co(l:List ao)(signed:List Int)(bq:Int):List Int:=((co.L1 (co.K1 l signed bq)) l ([]))
def ld.K1(l:List ao)(signed:List Int)(DD:Int)(dw:Int)(mA:List Bool):(Int×Int):=(bif((eV l (cn signed dw) mA DD dw).1==4)then((eV l (cn signed dw) mA DD dw).1,(nthI (co l signed dw) DD))else((eV l (cn signed dw) mA DD dw).1,(eV l (cn signed dw) mA DD dw).2))
def ld.L1(l:List ao)(signed:List Int)(dw:Int)(k:List Bool->(Int×Int)):List ao->Nat->List Bool->(Int×Int)
 |[],i1,mA=>(k mA)
 |y1::rz1,i1,mA=>(ld.L1 l signed dw k rz1 (i1+1) (mA++[decide ((nthI (co l signed dw) (i1:Int))<0)]))
def ld(l:List ao)(signed:List Int)(DD:Int)(dw:Int):(Int×Int):=((ld.L1 l signed dw (ld.K1 l signed DD dw)) l 0 ([]))
def fG.K1(pW:List Int):(List Int×Int):=(pW,0)
def fG.L1(l:List ao)(signed:List Int)(bq:Int)(k:List Int->(List Int×Int)):List ao->Nat->List Int->(List Int×Int)
 |[],i1,pW=>(k pW)
 |y1::rz1,i1,pW=>(bif((ld l signed (i1:Int) bq).1==0)then(fG.L1 l signed bq k rz1 (i1+1) (pW++[y1.No]))else(fG.L1 l signed bq k rz1 (i1+1) pW))
def fG(l:List ao)(signed:List Int)(bq:Int):(List Int×Int):=(bif((ek l) != 0)then([],(ek l))else(bif((!(fa l signed))||(!(oT bq)))then([],1)else((fG.L1 l signed bq (fG.K1)) l 0 ([]))))
def uU(gp:Int):Bool:=(decide (0<=gp)&&decide (gp<16))
def gE.L2(u:List Use)(k:Bool):List Nat->Nat->Bool
 |[],i2=>(k)
 |y2::rz2,i2=>(bif((nthI u (i2:Int)).Doc==(nthI u 0).Doc)then false else(gE.L2 u k rz2 (i2+1)))
def gE.L3(u:List Use)(y1:Use)(k:Bool):List Nat->Nat->Bool
 |[],i3=>(k)
 |y3::rz3,i3=>(bif((nthI u (i3:Int)).Doc==y1.Doc)then false else(gE.L3 u y1 k rz3 (i3+1)))
def gE.K1  : Bool:=true
def gE.L1(u:List Use)(k:Bool):List Use->Nat->Bool
 |[],i1=>(k)
 |y1::rz1,i1=>(bif(((((!(jx y1.Doc 0 4095))||(!(uU y1.Kind)))||(!(jx y1.Value 0 1099511627776)))||(!(ky y1.At)))||(!(ky y1.dU)))then false else((gE.L3 u y1 ((gE.L1 u k rz1 (i1+1)))) (qE i1) 0))
def gE(u:List Use):Bool:=((gE.L1 u (gE.K1)) u 0)
def jy(x:Budget)(lq:Int)(ah:Int):Bool:=(decide (x.At<=lq)&&decide (x.dU<=ah))
def iq.K1  : Bool:=true
def iq.L1(l:List Budget)(sF:Int)(bq:Int)(ah:Int)(k:Bool):List Budget->Bool
 |[]=>(k)
 |y1::rz1=>(bif((((y1.Kind==(nthI l sF).Kind)&&(y1.eK==(nthI l sF).eK))&&(jy y1 bq ah))&&(decide ((nthI l sF).At<y1.At)||((y1.At==(nthI l sF).At)&&decide ((nthI l sF).No<y1.No))))then false else(iq.L1 l sF bq ah k rz1))
def iq(l:List Budget)(sF:Int)(bq:Int)(ah:Int):Bool:=(bif((nthI l sF).mG||(!(jy (nthI l sF) bq ah)))then false else((iq.L1 l sF bq ah (iq.K1)) l))
def dH.K1(pW:List Budget):List Budget:=pW
def dH.L1(l:List Budget)(Ew:Int)(bq:Int)(ah:Int)(k:List Budget->List Budget):List Budget->Nat->List Budget->List Budget
 |[],i1,pW=>(k pW)
 |y1::rz1,i1,pW=>(bif(((y1.Kind==(-1))||(y1.Kind==Ew))&&(iq l (i1:Int) bq ah))then(dH.L1 l Ew bq ah k rz1 (i1+1) (pW++[y1]))else(dH.L1 l Ew bq ah k rz1 (i1+1) pW))
def dH(l:List Budget)(Ew:Int)(bq:Int)(ah:Int):List Budget:=((dH.L1 l Ew bq ah (dH.K1)) l 0 ([]))
def mM.K1(x:Budget)(mA:Int)(rD:Int):Bool:=(decide (x.Count<=mA)||decide (x.Value<rD))
def mM.L1(x:Budget)(dw:Int)(ah:Int)(k:Int->Int->Bool):List Use->Int->Int->Bool
 |[],mA,rD=>(k mA rD)
 |y1::rz1,mA,rD=>(bif((decide (y1.dU<=ah)&&((x.Kind==(-1))||(x.Kind==y1.Kind)))&&((vB .i64 (y1.At.tdiv x.eK))==(vB .i64 (dw.tdiv x.eK))))then(mM.L1 x dw ah k rz1 (vB .i64 (mA+1)) (vB .i64 (rD+y1.Value)))else(mM.L1 x dw ah k rz1 mA rD))
def mM(x:Budget)(u:List Use)(value:Int)(dw:Int)(ah:Int):Bool:=((mM.L1 x dw ah (mM.K1 x)) u 0 value)
def ii.K1  : (Int×Bool×Int):=((-1),true,0)
def ii.L1(u:List Use)(value:Int)(cB:Int)(ah:Int)(k:(Int×Bool×Int)):List Budget->(Int×Bool×Int)
 |[]=>(k)
 |y1::rz1=>(bif(mM y1 u value cB ah)then(y1.No,false,0)else(ii.L1 u value cB ah k rz1))
def ii(l:List Budget)(u:List Use)(LG:Int)(value:Int)(cB:Int)(ah:Int):(Int×Bool×Int):=(bif((fY l) != 0)then(0,false,(fY l))else(bif(decide (4096<(u.length:Int)))then(0,false,2)else(bif(!(gE u))then(0,false,180)else(bif((((!(uU LG))||(!(jx value 0 1099511627776)))||(!(ky cB)))||(!(ky ah)))then(0,false,1)else((ii.L1 u value cB ah (ii.K1)) (dH l LG cB ah))))))
def eS.K1  : Int:=(-1)
def eS.L1(no:Int)(k:Int):List ao->Nat->Int
 |[],i1=>(k)
 |y1::rz1,i1=>(bif(y1.No==no)then(i1:Int)else(eS.L1 no k rz1 (i1+1)))
def eS(cK:Register)(no:Int):Int:=((eS.L1 no (eS.K1)) cK.cj 0)
def nO(gp:Int):Bool:=(decide (0<=gp)&&decide (gp<1099511627776))
def oP(cK:Register)(signed:List Int)(u:List Use)(ba:Int)(cB:Int)(ah:Int):Int:=(bif((nB cK) != 0)then 300 else(bif((fG cK.cj signed 0).2 != 0)then(fG cK.cj signed 0).2 else(bif((ii cK.dN u 0 0 0 0).2.2 != 0)then(ii cK.dN u 0 0 0 0).2.2 else(bif((decide ((eS cK ba)<0)||(!(nO cB)))||(!(nO ah)))then 1 else 0))))
def li(cK:Register)(signed:List Int)(u:List Use)(ba:Int)(cB:Int)(ah:Int):Bool:=((lG cK signed u)&&((oP cK signed u ba cB ah)==0))
theorem wrap64{z:Int}(h:-9223372036854775808<=z/\z<=9223372036854775807):IntKind.i64.wrap z=z:=by
 have:=lI h;injection this
theorem aj.eta(x:aj):aj.mk x.Kind x.N x.No x.Name x.L=x:=by cases x;rfl
theorem aj.ind{P:aj->Prop}(h:∀x,(∀y∈x.L,P y)->P x)(x:aj):P x:=by
 have key:∀n(x:aj),x.dep<=n->P x:=by
  intro n
  induction n with
  |zero=>intro x hx;have:=aj.nd x;omega
  |succ n ih=>intro x hx;exact h x λy hy=>ih y (by have:=aj.lD hy;omega)
 exact key _ x (vE _)
theorem MF(k:List gr):∀l,aT.L3 k l=l++k
 |[]=>rfl
 |y::l=>by simp[aT.L3,MF k l]
theorem MG(rec:aj->Int->List gr)(d:Int):∀l,aT.L1 rec d [] l=l.flatMap (λy=>rec y (d+1))
 |[]=>rfl
 |y::l=>by simp[aT.L1,MF,MG rec d l]
theorem KX(rec:aj->Int->List gr)(x:aj)(d:Int):aT.F rec x d=⟨x,d⟩::x.L.flatMap (λy=>rec y (d+1)):=by
 simp[aT.F,aT.K1,MG,aj.eta]
theorem CK{α β : Type}{f g:α->List β}:∀{l:List α},(∀y∈l,f y=g y)->l.flatMap f=l.flatMap g
 |[],_=>rfl
 |y::l,h=>by
  rw[List.flatMap_cons,List.flatMap_cons,h y (kB ..),CK λz hz=>h z (jC _ hz)]
theorem ME(m:Nat):∀(x:aj)(d:Int),x.dep<=m->aT.go m x d=bx x d:=by
 induction m using Nat.strongRecOn with
 |_ m ih=>
  intro x d hx
  unfold bx
  have hp:=aj.nd x
  obtain⟨m',rfl⟩:∃m',m=m'+1:=⟨m-1,by omega⟩
  obtain⟨n,hn⟩:∃n,x.dep=n+1:=⟨x.dep-1,by omega⟩
  rw[hn]
  show aT.F (aT.go m') x d=aT.F (aT.go n) x d
  rw[KX,KX]
  congr 1
  refine CK λy hy=>?_
  have:=aj.lD hy
  grind
theorem oU(x:aj)(d:Int):bx x d=⟨x,d⟩::x.L.flatMap (λy=>bx y (d+1)):=by
 have hp:=aj.nd x
 obtain⟨n,hn⟩:∃n,x.dep=n+1:=⟨x.dep-1,by omega⟩
 rw[←ME x.dep x d (vE _),hn]
 show aT.F (aT.go n) x d=_
 rw[KX]
 congr 1
 exact CK λy hy=>ME n y _ (by have:=aj.lD hy;omega)
theorem J4(Q:aj->Prop)(x:aj):∀d d',(∀z∈bx x d,Q z.x)->∀z∈bx x d',Q z.x:=by
 refine aj.ind (P:=λx=>∀d d',(∀z∈bx x d,Q z.x)->∀z∈bx x d',Q z.x) ?_ x
 intro x ih d d' h z hz
 rw[oU]at h hz
 rcases zE.1 hz with rfl|hz
 .exact h ⟨x,d⟩ (kB ..)
 .obtain⟨y,hy,hz⟩:=List.mem_flatMap.1 hz
  exact ih y hy (d+1) (d'+1) (λz' hz'=>h z' (jC _ (List.mem_flatMap.2 ⟨y,hy,hz'⟩))) z hz
theorem sB(Q:aj->Prop)(x:aj)(d:Int):(∀z∈bx x d,Q z.x)↔Q x/\∀y∈x.L,∀z∈bx y d,Q z.x:=by
 constructor
 .intro h
  rw[oU]at h
  exact⟨h ⟨x,d⟩ (kB ..),λy hy=>J4 Q y (d+1) d λz hz=>h z (jC _ (List.mem_flatMap.2 ⟨y,hy,hz⟩))⟩
 .rintro⟨h1,h2⟩ z hz
  rw[oU]at hz
  rcases zE.1 hz with rfl|hz
  .exact h1
  .obtain⟨y,hy,hz⟩:=List.mem_flatMap.1 hz
   exact J4 Q y d (d+1) (h2 y hy) z hz
def NZ(x:Except Int Unit):Prop:=∀e,x=.error e->e≠0
theorem NZ.ok:NZ (.ok ()):=λ_ h=>by cases h
theorem NZ.must(he:e≠0):NZ (fu c e):=λe' h=>by
 grind [fu]
theorem NZ.exi(hx:NZ x)(hf:NZ (f ())):NZ (Sg.exi x f):=by
 cases x with
 |ok u=>exact hf
 |error e=>exact λe' h=>hx e' h
theorem Kt(h:NZ x):attR x=0↔x=.ok ():=by
 cases x with
 |ok u=>simp[attR]
 |error e=>simp only[attR,reduceCtorEq,iff_false];exact h e rfl
theorem sC:exi (fu c e) f=.ok ()↔c=true/\f ()=.ok ():=by grind [fu,exi]
theorem Nm(p:aw):∀(l:List ft)(g:List aj),aE.L1 (aE.K1 p) l g=g++(l.map (·.aj)++[p.aQ])
 |[],g=>by simp[aE.L1,aE.K1]
 |y::l,g=>by simp[aE.L1,Nm p l]
theorem ow(p:aw):aE p=p.di.map (·.aj)++[p.aQ]:=by
 unfold aE;rw[Nm];simp
theorem Mh(k:Int->Except Int Unit)(hk:∀a b,k a=k b):∀(l:List gr)(g:Int),0<=g->g<=256->(cH.L3 k l g=.ok ()↔(g+l.length<=256/\∀z∈l,z.depth<=16)/\k 0=.ok ())
 |[],g,h0,h1=>by simp only[cH.L3,hk g 0,zB,kA];simp;omega
 |y::l,g,h0,h1=>by
  simp only[cH.L3,sC,zC,decide_eq_true_eq,wrap64 (z:=g+1) (by omega),zA,zE]
  by_cases h:g+1<=256
  .rw[Mh k hk l (g+1) (by omega) h]
   grind
  .grind
theorem Mi:∀(l:List aj),cH.L1 (.ok ()) l=.ok ()↔∀x∈l,(bx x 1).length<=256/\∀z∈bx x 1,z.depth<=16
 |[]=>by simp[cH.L1]
 |y::l=>by
  simp only[cH.L1]
  rw[Mh _ (λ_ _=>rfl) _ 0 (by omega) (by omega),Mi l]
  grind
theorem C8(p:aw):cH p=.ok ()↔(p.aB.length<=32/\p.dQ.length<=16/\p.di.length<=16)/\∀x∈aE p,(bx x 1).length<=256/\∀z∈bx x 1,z.depth<=16:=by
 unfold cH cH.K1
 rw[sC,Mi]
 grind
theorem RC(p:aw):NZ (cH p):=by
 have h3:∀(k:Int->Except Int Unit),(∀a,NZ (k a))->∀l g,NZ (cH.L3 k l g):=by
  intro k hk l
  induction l with
  |nil=>exact λg=>hk g
  |cons y l ih=>exact λg=>NZ.exi (NZ.must (by omega)) (ih _)
 have h1:∀l,NZ (cH.L1 (.ok ()) l):=by
  intro l
  induction l with
  |nil=>exact NZ.ok
  |cons y l ih=>exact h3 _ (λ_=>ih) _ _
 exact NZ.exi (NZ.must (by omega)) (h1 _)
theorem ML(p:aw)(k:Except Int Unit):∀l,cI.L3 p k l=.ok ()↔(∀z∈l,((!(dx z.x))||dg p.aB z.x.Name)=true)/\k=.ok ()
 |[]=>by simp[cI.L3]
 |y::l=>by simp only[cI.L3,sC,ML p k l,zE,forall_eq_or_imp,and_assoc]
theorem MM(p:aw):∀l,cI.L1 p (.ok ()) l=.ok ()↔∀x∈l,∀z∈bx x 1,((!(dx z.x))||dg p.aB z.x.Name)=true
 |[]=>by simp[cI.L1]
 |y::l=>by simp only[cI.L1,ML,MM p l,zE,forall_eq_or_imp]
theorem HH(p:aw):cI p=.ok ()↔(ea p.Name=true/\bN p.aB ea=true/\bN p.dQ ea=true)/\∀x∈aE p,∀z∈bx x 1,((!(dx z.x))||dg p.aB z.x.Name)=true:=by
 unfold cI cI.K1
 rw[sC,MM]
 simp only[zC,and_assoc]
theorem R4(p:aw):NZ (cI p):=by
 have h3:∀(k:Except Int Unit),NZ k->∀l,NZ (cI.L3 p k l):=by
  intro k hk l
  induction l with
  |nil=>exact hk
  |cons y l ih=>exact NZ.exi (NZ.must (by omega)) ih
 have h1:∀l,NZ (cI.L1 p (.ok ()) l):=by
  intro l
  induction l with
  |nil=>exact NZ.ok
  |cons y l ih=>exact h3 _ ih _
 exact NZ.exi (NZ.must (by omega)) (h1 _)
theorem PP(p:aw)(i:Nat)(k:Except Int Unit):∀l,bE.L4 p i k l=.ok ()↔(∀z∈l,(bo z.x.Kind 1 4&&kindsP z.x.Kind z.x)=true/\(decide ((i:Int)<IntKind.i64.wrap (((aE p).length:Int)-1))||(z.x.Kind != 4))=true)/\k=.ok ()
 |[]=>by simp[bE.L4]
 |y::l=>by simp only[bE.L4,sC,PP p i k l,zE,forall_eq_or_imp,and_assoc]
theorem Ge(p:aw):∀l i,bE.L2 p (.ok ()) l i=.ok ()↔∀j x,l[j]? = some x->∀z∈bx x 1,(bo z.x.Kind 1 4&&kindsP z.x.Kind z.x)=true/\(decide (((i+j:Nat):Int)<IntKind.i64.wrap (((aE p).length:Int)-1))||(z.x.Kind != 4))=true
 |[],i=>by simp[bE.L2]
 |y::l,i=>by
  simp only[bE.L2]
  rw[PP,Ge p l (i+1)]
  constructor
  .grind
  .intro h
   refine⟨λz hz=>h 0 y rfl z hz,λj x hj z hz=>?_⟩
   have:=h (j+1) x (by simpa using hj) z hz
   grind
theorem DT(p:aw)(k:Except Int Unit):∀l i,bE.L1 p k l i=.ok ()↔(∀j r,l[j]? = some r->((r.Kind.toList==(nthI p.dQ (((i+j:Nat):Int))).toList)&&bo r.iK 0 1099511627775)=true)/\k=.ok ()
 |[],i=>by simp[bE.L1]
 |y::l,i=>by
  simp only[bE.L1]
  rw[sC,DT p k l (i+1)]
  constructor
  .grind
  .rintro⟨h,h3⟩
   refine⟨h 0 y rfl,λj r hj=>?_,h3⟩
   have:=h (j+1) r (by simpa using hj)
   grind
theorem TE(p:aw):NZ (bE p):=by
 have h4:∀i(k:Except Int Unit),NZ k->∀l,NZ (bE.L4 p i k l):=by
  intro i k hk l
  induction l with
  |nil=>exact hk
  |cons y l ih=>exact NZ.exi (NZ.must (by omega)) (NZ.exi (NZ.must (by omega)) ih)
 have h2:∀l i,NZ (bE.L2 p (.ok ()) l i):=by
  intro l
  induction l with
  |nil=>exact λ_=>NZ.ok
  |cons y l ih=>exact λi=>h4 i _ (ih _) _
 have h1:∀l i,NZ (bE.L1 p (bE.K1 p) l i):=by
  intro l
  induction l with
  |nil=>exact λ_=>h2 _ _
  |cons y l ih=>exact λi=>NZ.exi (NZ.must (by omega)) (ih _)
 exact NZ.exi (NZ.must (by omega)) (h1 _ _)
theorem E0(p:aw):NZ (e9 p):=
 NZ.exi (RC p) (NZ.exi (R4 p) (NZ.exi (TE p) NZ.ok))
theorem Ox:exi x f=.ok ()↔x=.ok ()/\f ()=.ok ():=by
 cases x with
 |ok u=>simp[exi]
 |error e=>simp[exi]
theorem vX(p:aw):e9 p=.ok ()↔cH p=.ok ()/\cI p=.ok ()/\bE p=.ok ():=by grind [e9,Ox]
theorem MA(p:aw):(ew p).2=attR (e9 p):=by
 have hL:∀l i g,(ew.L1 p (ew.K1 p) l i g).2=0:=by
  intro l
  induction l with
  |nil=>exact λ_ _=>rfl
  |cons y l ih=>exact λi g=>ih _ _
 grind [ew,attR]
theorem ND(p:aw)(k:Int):∀l i,dt.L1 p k l i=0↔(∀j r,l[j]? = some r->r.Bf=((i+j:Nat):Int)/\ck p.aB r.aj=true)/\k=0
 |[],i=>by simp[dt.L1]
 |y::l,i=>by
  simp only[dt.L1,Bool.cond_eq_ite]
  split
  .grind
  .next h=>
   simp only[kD,bne_iff_ne,qF,not_or,Decidable.not_not,Bool.not_eq_false]at h
   rw[ND p k l (i+1)]
   constructor
   .grind
   .rintro⟨h1,h2⟩
    refine⟨λj r hj=>?_,h2⟩
    have:=h1 (j+1) r (by simpa using hj)
    grind
theorem D4(p:aw):dt p=0↔e9 p=.ok ()/\(∀(j:Nat)r,p.di[j]? = some r->r.Bf=(j:Int)/\ck p.aB r.aj=true)/\ck p.aB p.aQ=true:=by
 unfold dt
 rw[MA]
 by_cases h:attR (e9 p)=0
 .have h2:=(Kt (E0 p)).1 h
  have hk:dt.K1 p=0↔ck p.aB p.aQ=true:=by
   grind [dt.K1]
  rw[show(attR (e9 p) != 0)=false from by simpa using h,cond_false,ND,hk]
  simp only[Nat.zero_add,h2,true_and]
 .grind [Kt,E0,attR]
theorem SV{x:Bool}:(bif c then false else x)=true↔c=false/\x=true:=by cases c<;>simp
theorem sN(off:List ByteArray):∀l,ck.L1 off true l=true↔∀z∈l,z.x.No=(bif dx z.x then bC off z.x.Name else 0)
 |[]=>by simp[ck.L1]
 |y::l=>by
  simp only[ck.L1,zE,forall_eq_or_imp]
  cases dx y.x with
  |true=>
   rw[cond_true,cond_true,SV,sN off l];simp
  |false=>
   rw[cond_false,cond_false,SV,sN off l];simp
theorem M6(v:ByteArray):∀(l:List ByteArray)(i:Nat),bC.L1 v (-1) l i=-1\/((i:Int)<=bC.L1 v (-1) l i/\bC.L1 v (-1) l i<((i+l.length:Nat):Int))
 |[],i=>.inl rfl
 |y::l,i=>by
  simp only[bC.L1,Bool.cond_eq_ite,zA]
  split
  .right;omega
  .rcases M6 v l (i+1)with h|h
   .exact .inl h
   .right;omega
theorem Sd(l:List ByteArray)(v:ByteArray):bC l v<(l.length:Int):=by grind [bC,bC.K1,M6]
theorem Bt(hc:dt p=0):p.di.length=p.dQ.length/\p.aB.length<=32/\(∀x∈aE p,OkX (p.aB.length:Int) x):=by
 obtain⟨h1,h2,h3⟩:=(D4 p).1 hc
 obtain⟨hs,hn,hf⟩:=(vX p).1 h1
 have hf':=hf
 unfold bE at hf
 rw[sC,DT]at hf
 simp only[zC,decide_eq_true_eq,beq_iff_eq]at hf
 obtain⟨⟨⟨_,hlen⟩,hmode⟩,hrules,hK⟩:=hf
 unfold bE.K1 bE.K2 at hK
 rw[Ge]at hK
 obtain⟨⟨ho,_,_⟩,_⟩:=(C8 p).1 hs
 obtain⟨_,hnm⟩:=(HH p).1 hn
 refine⟨by omega,ho,λx hx=>?_⟩
 have hres:∀z∈bx x 1,z.x.No=(bif dx z.x then bC p.aB z.x.Name else 0):=by
  have hr:ck p.aB x=true:=by
   rw[ow]at hx
   rcases zG.1 hx with hx|hx
   .obtain⟨r,hr,rfl⟩:=zM.1 hx
    obtain⟨j,hj⟩:=Wl hr
    exact(h2 j r hj).2
   .rw[xC.1 hx];exact h3
  all_goals grind [ck,ck.K1,sN]
 obtain⟨j,hj⟩:=Wl hx
 have hfm:=λz hz=>(hK j x hj z hz).1
 have hnx:=hnm x hx
 clear hK hnm hj
 let Q:aj->Prop:=λx=>(1<=x.Kind/\x.Kind<=4)/\(x.Kind<=2->0<=x.No/\x.No<(p.aB.length:Int))/\(x.Kind=4->x.L.length=2)
 have all:∀z∈bx x 1,(λx:aj=>(1<=x.Kind/\x.Kind<=4)/\(x.Kind<=2->0<=x.No/\x.No<(p.aB.length:Int))/\(x.Kind=4->x.L.length=2)) z.x:=by
  intro z hz
  have a:=hfm z hz
  have b:=hnx z hz
  have c:=hres z hz
  simp only[zC,bo,decide_eq_true_eq]at a
  refine⟨a.1,λhk=>?_,λhk=>?_⟩
  .have hnamed:dx z.x=true:=by
    have:z.x.Kind=1\/z.x.Kind=2:=by omega
    rcases this with e|e<;>simp[dx,e]
   simp only[hnamed,Bool.not_true,Bool.false_or,cond_true]at b c
   have hge:0<=bC p.aB z.x.Name:=by
    have h9:=b
    simp only[dg,decide_eq_true_eq,ge_iff_le]at h9
    exact h9
   have:=Sd p.aB z.x.Name
   omega
  .have h9:=a.2
   rw[hk]at h9
   simp only[kindsP]at h9
   simp[lg]at h9
   omega
 clear hfm hnx hres hx
 revert all
 refine aj.ind (P:=λx=>(∀z∈bx x 1,Q z.x)->OkX (p.aB.length:Int) x) ?_ x
 intro x ih all
 rw[sB Q]at all
 obtain⟨⟨a,b,c⟩,d⟩:=all
 exact OkX.mk x a b c λy hy=>ih y hy (d y hy)
theorem IF(hc:dt p=0):(1<=p.Mode/\p.Mode<=4)/\p.di.length<=16/\∀r∈p.di,0<=r.iK/\r.iK<=1099511627775:=by
 obtain⟨h1,_,_⟩:=(D4 p).1 hc
 obtain⟨hs,_,hf⟩:=(vX p).1 h1
 unfold bE at hf
 rw[sC,DT]at hf
 simp only[zC,bo,decide_eq_true_eq]at hf
 obtain⟨⟨⟨_,_⟩,hmode⟩,hrules,_⟩:=hf
 obtain⟨⟨_,_,hr⟩,_⟩:=(C8 p).1 hs
 refine⟨hmode,hr,λr hr=>?_⟩
 obtain⟨j,hj⟩:=Wl hr
 exact(hrules j r hj).2
theorem Ir{r:ft}(h:r∈p.di):r.aj∈aE p:=by grind [ow]
theorem J3:∀(l:List Int)(g:Int),fd.L1 fd.K1 l g=true↔(∀x∈l,g<x/\x<64)/\l.Pairwise (·<·)
 |[],g=>by simp[fd.L1,fd.K1]
 |y::l,g=>by
  simp only[fd.L1,Bool.cond_eq_ite,kD,decide_eq_true_eq]
  split
  .next h=>
   constructor
   .intro h';cases h'
   .rintro⟨h1,_⟩;have:=h1 y (kB ..);omega
  .next h=>
   rw[J3 l y,List.pairwise_cons]
   simp only[zE,forall_eq_or_imp]
   constructor
   .rintro⟨h1,h2⟩
    exact⟨⟨by omega,λx hx=>by have:=h1 x hx;omega⟩,λx hx=>(h1 x hx).1,h2⟩
   .rintro⟨⟨h1,h2⟩,h3,h4⟩
    exact⟨λx hx=>⟨h3 x hx,(h2 x hx).2⟩,h4⟩
theorem Qr(l:List Int):fd l=true↔(∀x∈l,0<=x/\x<64)/\l.Pairwise (·<·):=by grind [fd,J3]
theorem I8{l:List Int}(h:fd l=true):l.Pairwise (·<=·):=((Qr l).1 h).2.imp (λh=>Int.le_of_lt h)
theorem Ql{hs:List (List cq)}{n:Int}(h:eU hs n=true):(hs.length:Int)=n:=by
 have h3:∀(k:List Int->Bool)(l:List cq)(g:List Int),eU.L3 k l g=true->∃g',k g'=true:=by
  intro k l
  induction l with
  |nil=>exact λg h=>⟨g,h⟩
  |cons y l ih=>
   intro g h
   simp only[eU.L3,Bool.cond_eq_ite]at h
   split at h
   .cases h
   .exact ih _ h
 have h1:∀(k:Bool)(l:List (List cq)),eU.L1 k l=true->k=true:=by
  intro k l
  induction l with
  |nil=>exact λh=>h
  |cons y l ih=>
   intro h
   obtain⟨g',hg⟩:=h3 _ _ _ h
   simp only[Bool.cond_eq_ite]at hg
   split at hg
   .cases hg
   .exact ih hg
 have:=h1 _ _ h
 simpa[eU.K1]using this
theorem Fu:∀(l:List aD)(g:Int),-1<=g->g<=1048576->(bQ.L1 bQ.K1 l g=0 ↔
  (∀v∈l,(0<=v.At/\v.At<=1099511627775)/\(0<=v.dU/\v.dU<=1099511627775)/\v.No<=1048576/\dt v.aw=0)/\(∀v∈l,g<v.No)/\l.Pairwise (λa b=>a.No<b.No))
 |[],g,_,_=>by simp[bQ.L1,bQ.K1]
 |y::l,g,h0,h1=>by
  simp only[bQ.L1,wrap64 (z:=g+1) (by omega),bo]
  by_cases hy:((0<=y.At/\y.At<=1099511627775)/\(0<=y.dU/\y.dU<=1099511627775)/\y.No<=1048576/\dt y.aw=0)/\g<y.No
  .obtain⟨⟨⟨a,a'⟩,⟨b,b'⟩,c,d⟩,e⟩:=hy
   have hc:(!(decide (g+1<=y.No)&&decide (y.No<=1048576))||!(decide (0<=y.At)&&decide (y.At<=1099511627775))||!(decide (0<=y.dU)&&decide (y.dU<=1099511627775))||dt y.aw != 0)=false:=by
    simp[a,a',b,b',c,d];omega
   rw[hc,cond_false,Fu l y.No (by omega) c,List.pairwise_cons]
   grind
  .grind
structure Fy(l:List aD):Prop where
 len:l.length<=256
 each:∀v∈l,(0<=v.At/\v.At<=1099511627775)/\(0<=v.dU/\v.dU<=1099511627775)/\(0<=v.No/\v.No<=1048576)/\dt v.aw=0
 inc:l.Pairwise (λa b=>a.No<b.No)
theorem tj(l:List aD):bQ l=0↔Fy l:=by
 unfold bQ
 by_cases hl:l.length<=256
 .rw[show decide (256<(l.length:Int))=false from decide_eq_false (by omega),cond_false,Fu l (-1) (by omega) (by omega)]
  constructor
  .rintro⟨h1,h2,h3⟩;exact⟨hl,λv hv=>by have a:=h1 v hv;have b:=h2 v hv;exact⟨a.1,a.2.1,⟨by omega,a.2.2.1⟩,a.2.2.2⟩,h3⟩
  .rintro⟨_,h1,h3⟩;exact⟨λv hv=>by have:=h1 v hv;exact⟨this.1,this.2.1,by omega,this.2.2.2⟩,λv hv=>by have:=h1 v hv;omega,h3⟩
 .rw[show decide (256<(l.length:Int))=true from decide_eq_true (by omega),cond_true]
  exact⟨λh=>by omega,λh=>absurd h.len hl⟩
theorem Fy.mode{l:List aD}(g:Fy l){v:aD}(hv:v∈l):1<=v.aw.Mode/\v.aw.Mode<=4:=(IF (g.each v hv).2.2.2).1
theorem ov{κ α : Type}[DecidableEq κ](k:κ)(v:α):∀(m:List (κ×α))(x:κ),mget? (mput m k v) x=if x=k then some v else mget? m x
 |[],x=>by simp[mput,mget?]
 |(k',v')::m,x=>by
  simp only[mput]
  by_cases e:k=k'
  .subst e;by_cases e2:x=k<;>simp[mget?,e2]
  .simp only[e,if_false,mget?,ov k v m x]
   grind
theorem E7{κ α : Type}[DecidableEq κ]{x:κ}:∀{m:List (κ×α)},x∈m.map (·.1)->∃v,mget? m x=some v/\(x,v)∈m
 |(k,v)::m,h=>by
  by_cases e:x=k
  .subst e;exact⟨v,by simp[mget?],by simp⟩
  .simp only[vH,zE,e,false_or]at h
   obtain⟨u,h1,h2⟩:=E7 h
   exact⟨u,by simp[mget?,e,h1],jC _ h2⟩
theorem Ex{κ α : Type}[DecidableEq κ]{k:κ}{v:α}{q:κ×α}:∀{m:List (κ×α)},q∈mput m k v->q=(k,v)\/q∈m
 |[],h=>by simp[mput]at h;exact .inl h
 |(k',v')::m,h=>by
  simp only[mput]at h
  split at h
  .grind
  .rcases zE.1 h with h|h
   .exact .inr (h▸kB ..)
   .rcases Ex h with h|h
    all_goals grind
theorem HQ(g:List (Int×aD)):∀l,bV.L2 g [] l=l.map λy=>(y,mgetD g y (aD.mk 0 0 0 (aw.mk (⟨#[]⟩:ByteArray) [] [] [] (aj.mk 0 0 0 (⟨#[]⟩:ByteArray) []) 0)))
 |[]=>rfl
 |y::l=>by simp[bV.L2,HQ g l]
def inForceM(ah fq:Int):List aD->Int->List (Int×aD)->List (Int×aD)
 |[],_,m=>m
 |y::l,b,m=>bif decide (ah<y.dU)then inForceM ah fq l b m else bif decide (y.At<=fq)then(bif decide (y.At<b)then inForceM ah fq l b m else inForceM ah fq l y.At (mput m fq y))else inForceM ah fq l b (mput m y.At y)
theorem HR(ah fq:Int)(k:Int->List (Int×aD)->List (Int×aD))(hk:∀a b m,k a m=k b m):∀l b m,bV.L1 ah fq k l b m=k 0 (inForceM ah fq l b m)
 |[],b,m=>hk _ _ _
 |y::l,b,m=>by
  simp only[bV.L1,inForceM,HR ah fq k hk l]
  grind
theorem CH(l:List aD)(fq ah:Int):io l fq ah=(sortI ((inForceM ah fq l (-1) []).map Prod.fst)).map λy=>(y,mgetD (inForceM ah fq l (-1) []) y (aD.mk 0 0 0 (aw.mk (⟨#[]⟩:ByteArray) [] [] [] (aj.mk 0 0 0 (⟨#[]⟩:ByteArray) []) 0))):=by
 unfold io bV
 rw[HR _ _ _ (λ_ _ _=>rfl)]
 exact HQ _ _
theorem rl(ah fq:Int)(P:Int×aD->Prop):∀(l:List aD)b m,(∀y∈l,y.At<=fq->P (fq,y))->(∀y∈l,fq<y.At->P (y.At,y))->(∀q∈m,P q)->∀q∈inForceM ah fq l b m,P q
 |[],_,_,_,_,hm=>hm
 |y::l,b,m,h1,h2,hm=>by
  have h1':=λz hz=>h1 z (jC _ hz)
  have h2':=λz hz=>h2 z (jC _ hz)
  simp only[inForceM,Bool.cond_eq_ite,decide_eq_true_eq]
  split
  .exact rl ah fq P l b m h1' h2' hm
  .split
   .next ha=>
    split
    .exact rl ah fq P l b m h1' h2' hm
    .refine rl ah fq P l _ _ h1' h2' (λq hq=>?_)
     grind [Ex]
   .next ha=>
    refine rl ah fq P l _ _ h1' h2' (λq hq=>?_)
    grind [Ex]
theorem Fd{l:List aD}{fq:Int}(P:Int×aD->Prop)(h1:∀y∈l,y.At<=fq->P (fq,y))(h2:∀y∈l,fq<y.At->P (y.At,y)):∀q∈io l fq ah,P q:=by
 intro q hq
 rw[CH]at hq
 obtain⟨y,hy,rfl⟩:=zM.1 hq
 have hy':=(nL _).mem_iff.1 hy
 obtain⟨v,e,hv⟩:=E7 hy'
 have:mgetD (inForceM ah fq l (-1) []) y (aD.mk 0 0 0 (aw.mk (⟨#[]⟩:ByteArray) [] [] [] (aj.mk 0 0 0 (⟨#[]⟩:ByteArray) []) 0))=v:=by simp[mgetD,e]
 simp only[this]
 exact rl ah fq P l (-1) [] h1 h2 (λq hq=>(kA hq).elim) _ hv
theorem AJ{l:List aD}{fq:Int}:∀q∈io l fq ah,q.2∈l:=
 Fd (λq=>q.2∈l) (λy hy _=>hy) (λy hy _=>hy)
theorem um(ah fq:Int):∀(l:List aD)b m,(inForceM ah fq l b m).length<=m.length+l.length
 |[],_,_=>vE _
 |y::l,b,m=>by
  have a1:=um ah fq l b m
  have a2:=um ah fq l y.At (mput m fq y)
  have a3:=um ah fq l b (mput m y.At y)
  have b2:=nw m fq y
  have b3:=nw m y.At y
  simp only[inForceM,Bool.cond_eq_ite,zA]
  grind
theorem Fc(l:List aD)(fq ah:Int):(io l fq ah).length<=l.length:=by grind [CH,iL,um]
theorem Db:∀{a b:List OSeat},a.Pairwise (λx y=>x.bS<y.bS)->b.Pairwise (λx y=>x.bS<y.bS)->a.Perm b->a=b
 |[],b,_,_,p=>(List.Perm.nil_eq p)
 |x::a,[],_,_,p=>absurd p.length_eq (by simp)
 |x::a,y::b,ha,hb,p=>by
  have hx:x=y:=by
   have h1:x∈y::b:=p.mem_iff.1 (kB ..)
   have h2:y∈x::a:=p.mem_iff.2 (kB ..)
   rw[List.pairwise_cons]at ha hb
   grind
  subst hx
  rw[List.pairwise_cons]at ha hb
  rw[Db ha.2 hb.2 (List.Perm.cons_inv p)]
theorem Dc{l:List OSeat}(hn:l.Nodup)(hs:l.Pairwise (λx y=>x.bS<=y.bS)):(l.filter (λy=>y.aV==aV)).Pairwise (λx y=>x.bS<y.bS):=by
 induction l with
 |nil=>exact List.Pairwise.nil
 |cons x l ih=>
  rw[zR]at hn
  rw[List.pairwise_cons]at hs
  rw[List.filter_cons]
  split
  .next h=>
   rw[List.pairwise_cons]
   refine⟨λy hy=>?_,ih hn.2 hs.2⟩
   obtain⟨hy1,hy2⟩:=xW.1 hy
   have h1:=hs.1 y hy1
   rcases Int.lt_or_eq_of_le h1 with h2|h2
   .exact h2
   .exfalso
    have:x=y:=by
     cases x;cases y
     simp at h hy2 h2
     simp[h,hy2,h2]
    exact hn.1 (this▸hy1)
  .exact ih hn.2 hs.2
theorem yz(m:List (OSeat×aK))(aV:Int):∀l,cy.L1 m aV [] l=(l.filter λy=>y.aV==aV).filterMap λy=>bif(mgetD m y (aK.mk 0 0 0 0 0 0 false)).mG then none else some (cq.mk (mgetD m y (aK.mk 0 0 0 0 0 0 false)).cZ (mgetD m y (aK.mk 0 0 0 0 0 0 false)).j3)
 |[]=>rfl
 |y::l=>by
  simp only[cy.L1,yz m aV l,List.filter_cons]
  grind
theorem Jh{m:List (OSeat×aK)}{ys:List OSeat}(hn:(m.map (·.1)).Nodup)(hp:ys.Perm (m.map Prod.fst))(hs:ys.Pairwise (λx y=>x.bS<=y.bS)):
  cy m aV=[]++((cy.L1 m aV cy.K1) ys):=by
 unfold cy cy.K1
 rw[zF,yz,yz]
 have h1:(seatS (m.map Prod.fst)).Nodup:=(yj _).nodup_iff.2 hn
 have h2:ys.Nodup:=hp.nodup_iff.2 hn
 rw[Db (Dc h1 (Dd _)) (Dc h2 hs) (((yj _).trans hp.symm).filter _)]
theorem AC(key:aK->OSeat×Bool)(later:aK->aK->Bool):∀(l:List aK)m,(dc.L1 key later dc.K1 l m).length<=m.length+l.length
 |[],m=>by simp[dc.L1,dc.K1]
 |y::l,m=>by
  have a:=AC key later l m
  have b:=AC key later l (mput m (key y).1 y)
  have c:=nw m (key y).1 y
  simp only[dc.L1,Bool.cond_eq_ite,zA]
  split<;>omega
theorem yg(l:List aK)(a b:Int):(dI l a b).length<=l.length:=by
 have:=AC (λef=>ji ef a b) jh l []
 simpa[dI,dc]using this
theorem Nz(l:List cq):iE l=l:=by
 have:∀(l g:List cq),cT.L1 cT.K1 l g=g++l:=by
  intro l
  induction l with
  |nil=>intro g;simp[cT.L1,cT.K1]
  |cons y l ih=>intro g;simp[cT.L1,ih]
 simp[iE,cT,this]
theorem Ff(m:List (OSeat×aK))(aV:Int):(kz m aV).length<=m.length:=by
 unfold kz cy cy.K1
 rw[yz]
 have h1:=List.length_filterMap_le (λy=>bif(mgetD m y (aK.mk 0 0 0 0 0 0 false)).mG then none else some (cq.mk (mgetD m y (aK.mk 0 0 0 0 0 0 false)).cZ (mgetD m y (aK.mk 0 0 0 0 0 0 false)).j3)) ((seatS (m.map Prod.fst)).filter λy=>y.aV==aV)
 have h2:=List.length_filter_le (λy:OSeat=>y.aV==aV) (seatS (m.map Prod.fst))
 have h3:=(yj (m.map Prod.fst)).length_eq
 rw[List.length_map]at h3
 omega
theorem Fx(l:List aK)(aV a b:Int):(eW l aV a b).1.length<=l.length:=by grind [eW,Nz,Ff,yg]
theorem lN(r:Register):dY r=0↔dz r.dD=0/\dS r.fR=0/\dj r.ej=0/\bI r.dN=0/\bQ r.Versions=0/\bh r.cj=0/\cf r.dy=0:=by
 have e:dY r=(bif dz r.dD != 0 then 300 else bif dS r.fR != 0 then 300 else bif dj r.ej != 0 then 300 else bif bI r.dN != 0 then 300 else bif bQ r.Versions != 0 then 300 else bif bh r.cj != 0 then 300 else bif cf r.dy != 0 then 300 else 0):=rfl
 rw[e]
 have key:∀(a x:Int),(bif a != 0 then 300 else x)=0↔a=0/\x=0:=by
  grind
 simp only[key,and_true]
theorem Pw(dJ:Int)(k:Int->Bool):∀(l:List Int)(g:Int),fj.L1 dJ k l g=true↔((∀x∈l,g<x/\x<dJ)/\l.Pairwise (·<·))/\∃g',(l=[]/\g'=g\/l.getLast? = some g')/\k g'=true
 |[],g=>by simp[fj.L1]
 |y::l,g=>by
  simp only[fj.L1,Bool.cond_eq_ite,kD,decide_eq_true_eq]
  split
  .next h=>
   constructor
   .intro h';cases h'
   .rintro⟨⟨h1,_⟩,_⟩;have:=h1 y (kB ..);omega
  .next h=>
   rw[Pw dJ k l y,List.pairwise_cons]
   grind
theorem Gb(l:List Int)(dJ:Int):fj l dJ=true↔((∀x∈l,0<=x/\x<dJ)/\l.Pairwise (·<·))/\l.length<=16:=by
 unfold fj
 rw[Pw]
 constructor
 .rintro⟨⟨h1,h2⟩,g',_,h3⟩
  refine⟨⟨λx hx=>by have:=h1 x hx;omega,h2⟩,?_⟩
  simp only[fj.K1,decide_eq_true_eq]at h3
  omega
 .rintro⟨⟨h1,h2⟩,h3⟩
  refine⟨⟨λx hx=>by have:=h1 x hx;omega,h2⟩,?_⟩
  cases l with
  |nil=>exact⟨_,.inl ⟨rfl,rfl⟩,by simp[fj.K1]⟩
  |cons y l=>
   refine⟨(y::l).getLast (by simp),.inr (List.getLast?_eq_some_getLast _),?_⟩
   simp only[fj.K1,decide_eq_true_eq]
   omega
structure P4(d:ao):Prop where
 no:0<=d.No/\d.No<4096
 at_:0<=d.At/\d.At<1099511627776
 kind:0<=d.Kind/\d.Kind<16
 value:0<=d.Value/\d.Value<=1099511627776
 fq:0<=d.From/\d.From<d.mT
 Vq:d.mT<=1099511627776
 er:((∀x∈d.kU,0<=x/\x<1048577)/\d.kU.Pairwise (·<·))/\d.kU.length<=16
 revokes:((∀x∈d.eX,0<=x/\x<d.No)/\d.eX.Pairwise (·<·))/\d.eX.length<=16
 needs:((∀x∈d.fm,0<=x/\x<d.No)/\d.fm.Pairwise (·<·))/\d.fm.length<=16
theorem Mx(d:ao):mp d=true↔P4 d:=by
 unfold mp jk
 simp only[zC,decide_eq_true_eq,Gb]
 constructor
 .rintro⟨⟨⟨⟨⟨⟨⟨⟨⟨⟨⟨⟨a,b⟩,c,d⟩,e⟩,f⟩,g⟩,h⟩,i⟩,j⟩,k⟩,l⟩,m⟩,n⟩
  exact⟨⟨a,b⟩,⟨c,d⟩,⟨e,f⟩,⟨g,h⟩,⟨i,j⟩,k,l,m,n⟩
 .rintro⟨⟨a,b⟩,⟨c,d⟩,⟨e,f⟩,⟨g,h⟩,⟨i,j⟩,k,l,m,n⟩
  grind
theorem Ix(l0:List ao):∀(l:List ao)(i:Nat),bh.L1 l0 0 l i=0->∀d∈l,mp d=true
 |[],_,_,_,hd=>(kA hd).elim
 |y::l,i,h,d,hd=>by
  simp only[bh.L1,Bool.cond_eq_ite]at h
  split at h
  .omega
  .next hc=>
   simp only[kD,not_or,qF,Bool.not_eq_false]at hc
   rcases zE.1 hd with rfl|hd
   .exact hc.1.1
   .exact Ix l0 l (i+1) h d hd
theorem Km(h:bh l=0):∀d∈l,P4 d:=by
 unfold bh bh.K1 at h
 rw[Bool.cond_eq_ite]at h
 split at h
 .omega
 .exact λd hd=>(Mx d).1 (Ix l l 0 h d hd)
theorem HS(f:ao->Bool):∀(l:List ao)(i:Nat),(ai.L1 f ai.K1 l i=-1/\∀x∈l,f x=false) \/
  ∃a y b,l=a++y::b/\ai.L1 f ai.K1 l i=((i+a.length:Nat):Int)/\f y=true/\∀x∈a,f x=false
 |[],i=>.inl ⟨rfl,λ_ h=>(kA h).elim⟩
 |y::l,i=>by
  simp only[ai.L1]
  cases hy:f y with
  |true=>exact .inr ⟨[],y,l,rfl,by simp,hy,λ_ h=>(kA h).elim⟩
  |false=>
   rcases HS f l (i+1)with⟨h1,h2⟩|⟨a,z,b,rfl,h2,h3,h4⟩
   all_goals grind
theorem Oj(mode:Int)(l:List aD)(old:Bool):(judgesP mode l old).length<=l.length:=by grind [judgesP,lr,jv,kt]
theorem EQ(k:List Int->List Int×Int×Int):∀(l:List aD)(g:List Int),aM.L2 k l g=k (g++l.map (·.No))
 |[],g=>by simp[aM.L2]
 |y::l,g=>by simp[aM.L2,EQ k l]
theorem Kw(dT at_:Int)(P:List Int×Int×Int->Prop)(n:Nat)(k:Bool->List aD->List Int×Int×Int)(hk:∀b g,g.length<=n->P (k b g)):∀(l:List (Int×aD))b g,g.length+l.length<=n->P (aM.L1 dT at_ k l b g)
 |[],b,g,h=>by simpa[aM.L1]using hk b g (by simpa using h)
 |y::l,b,g,h=>by
  simp only[aM.L1]
  simp only[zA]at h
  cases decide (at_<y.1)
  .exact Kw dT at_ P n k hk l _ _ (by simp;omega)
  .exact hk _ _ (by omega)
theorem CX(l:List aD)(dT at_ ah:Int):(aM l dT at_ ah).1.length<=l.length:=by
 unfold aM
 cases(bQ l != 0)
 .cases(((!(fE dT))||(!(fE at_)))||(!(fE ah)))||decide (at_<dT)
  .simp only[cond_false]
   refine Kw dT at_ (λr=>r.1.length<=l.length) l.length _ ?_ _ _ _ (by have:=Fc l dT ah;simpa using this)
   intro b g hg
   unfold aM.K1
   cases((g.length:Int)==0)
   .simp only[cond_false,EQ,aM.K2,zF,iL,List.length_map]
    exact qM (Oj _ _ _) hg
   .simp
  .simp
 .simp
theorem Pj(no:Int):∀(l:List ao)(i:Nat),0<=eS.L1 no eS.K1 l i->∃(j:Nat)(d:ao),l[j]? = some d/\d.No=no/\eS.L1 no eS.K1 l i=((i+j:Nat):Int)
 |[],i,h=>by simp[eS.L1,eS.K1]at h
 |y::l,i,h=>by
  simp only[eS.L1,Bool.cond_eq_ite,beq_iff_eq]at h ⊢
  split
  .next e=>exact⟨0,y,rfl,e,rfl⟩
  .next e=>
   rw[if_neg e]at h
   obtain⟨j,d,h1,h2,h3⟩:=Pj no l (i+1) h
   exact⟨j+1,d,by simpa using h1,h2,by rw[h3];congr 1;omega⟩
theorem Tr{r:Register}{no:Int}(h:0<=eS r no):eS r no<(r.cj.length:Int)/\nthI r.cj (eS r no)∈r.cj/\(nthI r.cj (eS r no)).No=no:=by
 obtain⟨j,d,h1,h2,h3⟩:=Pj no r.cj 0 h
 rw[Nat.zero_add]at h3
 have hl:=(List.getElem?_eq_some_iff.1 h1).1
 have e:eS r no=(j:Int):=h3
 have hb:0<=eS r no/\eS r no<(r.cj.length:Int):=by omega
 have hg:=dC hb
 grind
theorem SU(L:List ao):∀(l:List ao)(i:Nat),ek.L1 L ek.K1 l i=0->∀d∈l,m7 d=true
 |[],_,_=>λ_ h=>(kA h).elim
 |y::l,i,h=>by
  simp only[ek.L1,Bool.cond_eq_ite,kD,not_or]at h
  split at h
  .simp at h
  .next hc=>
   intro d hd
   rcases zE.1 hd with rfl|hd
   .grind
   .exact SU L l (i+1) h d hd
theorem NB{r:Register}(h:nB r=0):jr r.dD=0/\je r.fR=0/\ja r.ej=0/\fY r.dN=0/\dZ r.Versions=0/\ek r.cj=0/\jd r.dy=0:=by
 simp only[nB,Bool.cond_eq_ite,kD,bne_iff_ne]at h
 grind
theorem ST(h:ek l=0):l.length<=4096/\∀d∈l,m7 d=true:=by
 simp only[ek,Bool.cond_eq_ite,decide_eq_true_eq]at h
 grind [SU]
theorem JI{l:List Int}(h:l.Pairwise (·<=·))(hn:l.Nodup):l.Pairwise (·<·):=by
 induction l with
 |nil=>exact List.Pairwise.nil
 |cons x l ih=>
  rw[List.pairwise_cons]at h ⊢
  grind
section chk
variable {α : Type} [Inhabited α]
def refChk(R:α->Bool)(no:α->Int)(c:Int)(L:List α):List α->Nat->Int
 |[],_=>0
 |y::l,i=>bif(!(R y))||(decide (0<(i:Int))&&decide (no y<=no (nthI L ((i:Int)-1))))then c else refChk R no c L l (i+1)
def prgChk(R:α->Bool)(no:α->Int)(c:Int):List α->Int->Int
 |[],_=>0
 |y::l,g=>bif(!(R y))||decide (no y<=g)then c else prgChk R no c l (no y)
theorem NA(R:α->Bool)(no:α->Int)(c:Int)(L:List α):∀(l pre:List α)(x:α),L=(pre++[x])++l->refChk R no c L l (pre.length+1)=prgChk R no c l (no x)
 |[],_,_,_=>rfl
 |y::l,pre,x,h=>by
  have hx:nthI L (((pre.length+1:Nat):Int)-1)=x:=by
   have hb:0<=(((pre.length+1:Nat):Int)-1)/\(((pre.length+1:Nat):Int)-1)<(L.length:Int):=by rw[h];simp;omega
   have hg:=dC hb
   grind
  have hd:decide (0<((pre.length+1:Nat):Int))=true:=by rw[decide_eq_true_eq];omega
  have ih:=NA R no c L l (pre++[x]) y (by rw[h];simp)
  rw[vA,zA,zB,Nat.zero_add]at ih
  simp only[refChk,prgChk,hx,hd,Bool.true_and,ih]
theorem IE(R:α->Bool)(no:α->Int)(c:Int)(hR:∀y,R y=true->0<=no y)(l:List α):refChk R no c l l 0=prgChk R no c l (-1):=by
 cases l with
 |nil=>rfl
 |cons y l=>
  have ih:=NA R no c (y::l) l [] y rfl
  simp only[zB,Nat.zero_add]at ih
  simp only[refChk,prgChk,Nat.zero_add,ih]
  grind
end chk
theorem E5(l:List aK):dz l=jr l:=by
 have hR:∀x,pH x=nH x:=λx=>by
  rw[jJ]
  simp only[pH,nH,Bool.cond_eq_ite]
  cases x.mG<;>simp only[if_true,if_false,We,zC,kD,qF,decide_eq_true_eq,decide_eq_false_iff_not,beq_iff_eq,hO,fy,iQ,ka,uW,ui,uh,Bool.and_eq_false_iff]
   <;> (split<;>simp only[We,iff_false,decide_eq_true_eq,zC,beq_iff_eq]<;>omega)
 have h1:∀(L l:List aK)i,jr.L1 L jr.K1 l i=refChk nH (·.No) 150 L l i:=by
  intro L l
  induction l with
  |nil=>intro i;rfl
  |cons y l ih=>intro i;simp only[jr.L1,refChk,ih]
 have h2:∀(l:List aK)g,dz.L1 dz.K1 l g=prgChk nH (·.No) 150 l g:=by
  intro l
  induction l with
  |nil=>intro g;rfl
  |cons y l ih=>intro g;simp only[dz.L1,prgChk,ih,hR]
 unfold dz jr
 rw[h1,h2,IE]
 intro y hy
 simp only[nH,Bool.cond_eq_ite]at hy
 grind
theorem DZ(l:List bz):dS l=je l:=by
 have hR:∀x,oZ x=nF x:=λx=>by
  rw[jJ]
  simp only[oZ,nF,Bool.cond_eq_ite,eP,kI,jI,lX,uV,qZ]
  grind
 have h1:∀(L l:List bz)i,je.L1 L je.K1 l i=refChk nF (·.No) 160 L l i:=by
  intro L l
  induction l with
  |nil=>intro i;rfl
  |cons y l ih=>intro i;simp only[je.L1,refChk,ih]
 have h2:∀(l:List bz)g,dS.L1 dS.K1 l g=prgChk nF (·.No) 160 l g:=by
  intro l
  induction l with
  |nil=>intro g;rfl
  |cons y l ih=>intro g;simp only[dS.L1,prgChk,ih,hR]
 unfold dS je
 rw[h1,h2,IE]
 intro y hy
 simp only[nF,Bool.cond_eq_ite]at hy
 split at hy
 .cases hy
 .next h=>simp only[kD,not_or,decide_eq_true_eq,lX,qF,Bool.and_eq_false_iff,decide_eq_false_iff_not]at h;omega
theorem BY(l:List aF):dj l=ja l:=by
 have hR:∀x,og x=nC x:=λx=>by
  rw[jJ]
  simp only[og,nC,Bool.cond_eq_ite,fh,uR,sO,ug]
  grind
 have h1:∀(L l:List aF)i,ja.L1 L ja.K1 l i=refChk nC (·.No) 290 L l i:=by
  intro L l
  induction l with
  |nil=>intro i;rfl
  |cons y l ih=>intro i;simp only[ja.L1,refChk,ih]
 have h2:∀(l:List aF)g,dj.L1 dj.K1 l g=prgChk nC (·.No) 290 l g:=by
  intro l
  induction l with
  |nil=>intro g;rfl
  |cons y l ih=>intro g;simp only[dj.L1,prgChk,ih,hR]
 unfold dj ja
 rw[h1,h2,IE]
 intro y hy
 simp only[nC,Bool.cond_eq_ite]at hy
 grind
theorem Fe(f:Int->Bool):∀(l:List Int)(i:Nat),decide (0<=cQ.L1 f cQ.K1 l i)=l.any f
 |[],i=>by simp[cQ.L1,cQ.K1]
 |y::l,i=>by
  have ih:=Fe f l (i+1)
  simp only[cQ.L1,List.any_cons]
  grind
theorem containsF(l:List Int)(f:Int->Bool):et l f=l.any f:=Fe f l 0
theorem Bc(l:List Budget):bI l=fY l:=by
 have hR:∀x,lY x=nE x:=λx=>by
  rw[jJ]
  simp only[lY,nE,Bool.cond_eq_ite,ce,containsF,lE,List.any_cons,List.any_nil,Bool.or_false,jx,ky]
  grind
 have h1:∀(L l:List Budget)i,fY.L1 L fY.K1 l i=refChk nE (·.No) 180 L l i:=by
  intro L l
  induction l with
  |nil=>intro i;rfl
  |cons y l ih=>intro i;simp only[fY.L1,refChk,ih]
 have h2:∀(l:List Budget)g,bI.L1 bI.K1 l g=prgChk nE (·.No) 180 l g:=by
  intro l
  induction l with
  |nil=>intro g;rfl
  |cons y l ih=>intro g;simp only[bI.L1,prgChk,ih,hR]
 unfold bI fY
 rw[h1,h2,IE]
 intro y hy
 simp only[nE,Bool.cond_eq_ite]at hy
 split at hy
 .cases hy
 .next h=>simp only[kD,not_or,decide_eq_true_eq,jx,qF,Bool.and_eq_false_iff,decide_eq_false_iff_not]at h;omega
theorem Cc(l:List ay):cf l=jd l:=by
 have hR:∀x,kO x=nD x:=λx=>by
  rw[jJ]
  simp only[kO,nD,Bool.cond_eq_ite,fD,containsF,kX,List.any_cons,List.any_nil,Bool.or_false,lW,uS,Bl]
  grind
 have h1:∀(L l:List ay)i,jd.L1 L jd.K1 l i=refChk nD (·.No) 280 L l i:=by
  intro L l
  induction l with
  |nil=>intro i;rfl
  |cons y l ih=>intro i;simp only[jd.L1,refChk,ih]
 have h2:∀(l:List ay)g,cf.L1 cf.K1 l g=prgChk nD (·.No) 280 l g:=by
  intro l
  induction l with
  |nil=>intro g;rfl
  |cons y l ih=>intro g;simp only[cf.L1,prgChk,ih,hR]
 unfold cf jd
 rw[h1,h2,IE]
 intro y hy
 simp only[nD,Bool.cond_eq_ite]at hy
 split at hy
 .cases hy
 .next h=>simp only[kD,not_or,decide_eq_true_eq,lW,qF,Bool.and_eq_false_iff,decide_eq_false_iff_not]at h;omega
def refLs(B:Int->Bool)(L:List Int)(k:Bool):List Int->Nat->Bool
 |[],_=>k
 |y::l,i=>bif(B y)||(decide (0<(i:Int))&&decide (y<=nthI L ((i:Int)-1)))then false else refLs B L k l (i+1)
theorem GR(B:Int->Bool)(L:List Int)(k:Bool):∀(l pre:List Int)(x:Int),L=(pre++[x])++l->refLs B L k l (pre.length+1)=true->((∀y∈l,B y=false)/\k=true)/\(x::l).Pairwise (·<·)
 |[],_,_,_,h=>⟨⟨λ_ h=>(kA h).elim,h⟩,by simp⟩
 |y::l,pre,x,h,hr=>by
  have hx:nthI L (((pre.length+1:Nat):Int)-1)=x:=by
   have hb:0<=(((pre.length+1:Nat):Int)-1)/\(((pre.length+1:Nat):Int)-1)<(L.length:Int):=by rw[h];simp;omega
   have hg:=dC hb
   grind
  simp only[refLs,hx,Bool.cond_eq_ite]at hr
  split at hr
  .cases hr
  .next hc=>
   simp only[kD,zC,decide_eq_true_eq,not_or]at hc
   have ih:=GR B L k l (pre++[x]) y (by rw[h];simp)
   rw[vA,zA,zB,Nat.zero_add]at ih
   grind
theorem RN{B:Int->Bool}{k:Bool}{l:List Int}(h:refLs B l k l 0=true):((∀y∈l,B y=false)/\k=true)/\l.Pairwise (·<·):=by
 cases l with
 |nil=>exact⟨⟨λ_ h=>(kA h).elim,h⟩,List.Pairwise.nil⟩
 |cons y l=>
  simp only[refLs,Bool.cond_eq_ite]at h
  split at h
  .cases h
  .next hc=>
   simp only[kD,not_or]at hc
   obtain⟨⟨i1,i2⟩,i3⟩:=GR B (y::l) k l [] y rfl h
   grind
theorem GN{l:List Int}(h:ga l dJ=true):((∀x∈l,0<=x/\x<dJ)/\l.Pairwise (·<·))/\l.length<=16:=by
 have e:∀(L l:List Int)i,ga.L1 L dJ (ga.K1 L) l i=refLs (λy=>decide (y<0)||decide (dJ<=y)) L (ga.K1 L) l i:=by
  intro L l
  induction l with
  |nil=>intro i;rfl
  |cons y l ih=>intro i;simp only[ga.L1,refLs,ih]
 unfold ga at h
 rw[e]at h
 obtain⟨⟨h1,h2⟩,h3⟩:=RN h
 refine⟨⟨λx hx=>?_,h3⟩,?_⟩
 .grind
 .simp only[ga.K1,decide_eq_true_eq]at h2;omega
theorem EX(h:m7 d=true):P4 d:=by
 simp only[m7,Bool.cond_eq_ite]at h
 split at h
 .cases h
 .next hc=>
  simp only[kD,not_or,decide_eq_true_eq,oT,qF,Bool.and_eq_false_iff,decide_eq_false_iff_not]at hc
  simp only[zC,decide_eq_true_eq]at h
  obtain⟨⟨⟨⟨⟨h1,h2⟩,h3⟩,h4⟩,h5⟩,h6⟩:=h
  exact⟨by omega,by omega,by omega,by omega,⟨h1,h2⟩,h3,GN h4,GN h5,GN h6⟩
theorem Da(L:List ao):∀(l:List ao)(i:Nat)(m:List (Int×Int)),(aJ.L1 (aJ.K1 L) l i m).docs=L/\∀x,mhas (aJ.L1 (aJ.K1 L) l i m).at_ x=(mhas m x||l.any λd=>d.No==x)
 |[],i,m=>⟨rfl,λx=>by simp[aJ.L1,aJ.K1]⟩
 |y::l,i,m=>by
  obtain⟨h1,h2⟩:=Da L l (i+1) (mput m y.No (i:Int))
  refine⟨h1,λx=>?_⟩
  show mhas (aJ.L1 (aJ.K1 L) l (i+1) (mput m y.No (i:Int))).at_ x=_
  grind [mhas,mput,ov]
theorem Fl(no:Int):∀(l:List ao)(i:Nat),0<=gF.L1 no gF.K1 l i->(l.any λd=>d.No==no)=true
 |[],i,h=>by simp[gF.L1,gF.K1]at h
 |y::l,i,h=>by
  simp only[gF.L1,Bool.cond_eq_ite]at h
  rw[List.any_cons]
  by_cases e:(y.No==no)=true
  .rw[e];rfl
  .rw[if_neg e]at h
   rw[Fl no l (i+1) h,Bool.or_true]
theorem JE(L:List ao):∀nos:List Int,fZ.L1 L fZ.K1 nos=true->∀x∈nos,(L.any λd=>d.No==x)=true
 |[],_=>λ_ h=>(kA h).elim
 |y::nos,h=>by
  simp only[fZ.L1,Bool.cond_eq_ite,decide_eq_true_eq]at h
  split at h
  .cases h
  .next hc=>
   intro x hx
   rcases zE.1 hx with rfl|hx
   .grind [gF,Fl]
   .exact JE L nos h x hx
theorem UN{L:List ao}(h1:fZ L d.eX=true)(h2:fZ L d.fm=true):kl (aJ L) d=true:=by
 have hs:=(Da L L 0 []).2
 have key:∀nos,fZ L nos=true->et nos (λef=>iJ ef (aJ L))=false:=by
  intro nos hn
  rw[containsF,List.any_eq_false]
  intro x hx
  unfold iJ
  have:=JE L nos hn x hx
  have e:mhas (aJ L).at_ x=true:=by
   show mhas (aJ.L1 (aJ.K1 L) L 0 []).at_ x=true
   rw[hs x,this,Bool.or_true]
  rw[e];simp
 grind [kl]
theorem Jj(h:ek l=0):bh l=0:=by
 have L:∀(L l:List ao)(i:Nat),ek.L1 L ek.K1 l i=0->bh.L1 L bh.K1 l i=0:=by
  intro L l
  induction l with
  |nil=>intros;rfl
  |cons y l ih=>
   intro i h
   simp only[ek.L1,Bool.cond_eq_ite]at h
   split at h
   .omega
   .next hc=>
    simp only[kD,not_or,qF,Bool.not_eq_false,Bool.not_eq_true]at hc
    obtain⟨⟨⟨c1,c2⟩,c3⟩,c4⟩:=hc
    simp only[bh.L1,(Mx y).2 (EX c1),c2,UN c3 c4,Bool.not_true,Bool.or_false,cond_false]
    exact ih (i+1) h
 grind [ek,bh]
theorem M3(mode:Int)(l:List aD)(old:Bool):(judgesP mode l old).Sublist l:=by grind [judgesP,lr,jv,kt,List.take_sublist,List.drop_sublist]
theorem IK(dT at_:Int)(k:Bool->List aD->List Int×Int×Int):∀(l:List (Int×aD))b g,∃(pre:List (Int×aD))(b':Bool),pre.Sublist l/\aM.L1 dT at_ k l b g=k b' (g++pre.map (·.2))
 |[],b,g=>⟨[],b,List.Sublist.refl _,by simp[aM.L1]⟩
 |y::l,b,g=>by
  simp only[aM.L1]
  cases decide (at_<y.1)
  .obtain⟨pre,b',h1,h2⟩:=IK dT at_ k l (b||(y.1==dT)) (g++[y.2])
   exact⟨y::pre,b',h1.cons_cons _,by rw[cond_false,h2];simp⟩
  .exact⟨[],b,List.nil_sublist _,by simp⟩
theorem PB{l:List aD}(h:l.Pairwise (λa b=>a.No<b.No)){a b:aD}(ha:a∈l)(hb:b∈l)(e:a.No=b.No):a=b:=by
 induction l with
 |nil=>cases ha
 |cons x l ih=>
  obtain⟨h1,h2⟩:=List.pairwise_cons.1 h
  grind
theorem oW(ah fq:Int):∀(l:List aD)b m,(m.map (·.1)).Nodup->((inForceM ah fq l b m).map (·.1)).Nodup
 |[],b,m,h=>h
 |y::l,b,m,h=>by
  simp only[inForceM,Bool.cond_eq_ite]
  split
  .exact oW ah fq l _ _ h
  .split
   .split
    .exact oW ah fq l _ _ h
    .exact oW ah fq l _ _ (se _ _ h)
   .exact oW ah fq l _ _ (se _ _ h)
theorem Lh(l:List aD)(fq ah:Int):(io l fq ah).Pairwise (λp q=>p.1<q.1):=by grind [CH,JI,pd,nL,oW]
theorem M7{l:List aD}(g:Fy l)(fq ah:Int):(io l fq ah).Pairwise (λp q=>p.2.No≠q.2.No):=by
 have hP:=Fd (l:=l) (fq:=fq) (ah:=ah) (λp=>((p.2.At<=fq/\p.1=fq)\/(fq<p.2.At/\p.1=p.2.At))/\p.2∈l) (λy hy h=>⟨.inl ⟨h,rfl⟩,hy⟩) (λy hy h=>⟨.inr ⟨h,rfl⟩,hy⟩)
 refine(Lh l fq ah).imp_of_mem λ{p q}hp hq hlt e=>?_
 have h1:=hP p hp
 have h2:=hP q hq
 have h3:=PB g.inc h1.2 h2.2 e
 rw[h3]at h1
 omega
structure Jdg(l:List aD)(J:List Int×Int×Int):Prop where
 err:J.2.2=0
 rise:J.1.Pairwise (·<·)
 mem:∀x∈J.1,∃v∈l,v.No=x
 mode:J.1≠[]->1<=J.2.1/\J.2.1<=4
 mode2:J.2.1≠0->1<=J.2.1/\J.2.1<=4
theorem Bw{l:List aD}(g:Fy l){dT at_:Int}(hb:0<=dT/\dT<1099511627776)(ht:0<=at_/\at_<1099511627776)(hk:0<=ah/\ah<1099511627776)(db:dT<=at_):Jdg l (aM l dT at_ ah):=by
 have h0:bQ l=0:=(tj l).2 g
 have h1:∀x:Int,0<=x/\x<1099511627776->fE x=true:=λx hx=>by simp[fE,hx]
 have h2:decide (at_<dT)=false:=by simp;omega
 unfold aM
 rw[h0,h1 _ hb,h1 _ ht,h1 _ hk,h2]
 simp only[bne_self_eq_false,cond_false,Bool.not_true,Bool.or_false]
 obtain⟨pre,b',hs,e⟩:=IK dT at_ aM.K1 (io l dT ah) false []
 rw[e,zF]
 unfold aM.K1
 cases hc:(((pre.map (·.2)).length:Int)==0)with
 |true=>exact⟨rfl,List.Pairwise.nil,λx hx=>(kA hx).elim,λh=>absurd rfl h,λh=>absurd rfl h⟩
 |false=>
  simp only[cond_false,EQ,aM.K2,zF]
  have hpre:pre.length≠0:=by simpa using hc
  have hsub:=M3 ((nthI (pre.map (·.2)) (((pre.map (·.2)).length:Int)-1)).aw.Mode) (pre.map (·.2)) b'
  have hnd:(pre.map (·.2)).Pairwise (λa b=>a.No≠b.No):=by
   grind [M7]
  have hmode:1<=(nthI (pre.map (·.2)) (((pre.map (·.2)).length:Int)-1)).aw.Mode/\(nthI (pre.map (·.2)) (((pre.map (·.2)).length:Int)-1)).aw.Mode<=4:=by
   have hm:nthI (pre.map (·.2)) (((pre.map (·.2)).length:Int)-1)∈pre.map (·.2):=pI (by rw[List.length_map];omega)
   obtain⟨p,hp,hpe⟩:=zM.1 hm
   have:=g.mode (AJ p (hs.subset hp))
   rw[hpe]at this
   exact this
  refine⟨rfl,JI (pd _) ((nL _).nodup_iff.2 ?_),λx hx=>?_,λ_=>hmode,λ_=>hmode⟩
  .grind
  .have hx2:=(nL _).mem_iff.1 hx
   obtain⟨v,hv,rfl⟩:=zM.1 hx2
   obtain⟨p,hp,rfl⟩:=zM.1 (hsub.subset hv)
   grind [AJ]
theorem IN(mode:Int):(gU mode []).1=false:=by
 unfold gU cJ
 have h1:∀f,jU [] f=-1:=λ_=>rfl
 have h2:decide (0<=(-1:Int))=false:=rfl
 rw[h1,h1,h2]
 cases(mI mode [] != 0)<;>cases(mode==4)<;>cases(mode==3)<;>cases(mode != 4)<;>rfl
theorem Iq_{mode:Int}(hm:1<=mode/\mode<=4){l:List Bool}(hl:l.length<=256):(gU mode l).2=0:=by
 have hc:mI mode l=0:=by
  have h1:mhas mV mode=true:=by
   have:mode=1\/mode=2\/mode=3\/mode=4:=by omega
   rcases this with rfl|rfl|rfl|rfl<;>rfl
  grind [mI]
 have k1:∀(k:List Int->List Int×Bool×Int),(∀g,(k g).2.2=0)->∀(s:List Bool)i g,(cJ.L1 k s i g).2.2=0:=by
  intro k hk s
  induction s with
  |nil=>intro i g;exact hk g
  |cons y s ih=>intro i g;exact ih _ _
 have k2:∀(k:List Int->List Int×Bool×Int),(∀g,(k g).2.2=0)->∀(s:List Bool)i g,(cJ.L2 k s i g).2.2=0:=by
  intro k hk s
  induction s with
  |nil=>intro i g;exact hk g
  |cons y s ih=>intro i g;exact ih _ _
 have k3:∀(k:List Int->List Int×Bool×Int),(∀g,(k g).2.2=0)->∀(s:List Bool)i g,(cJ.L3 k s i g).2.2=0:=by
  intro k hk s
  induction s with
  |nil=>intro i g;exact hk g
  |cons y s ih=>intro i g;exact ih _ _
 show(cJ mode l).2.2=0
 unfold cJ
 rw[hc]
 simp only[bne_self_eq_false,cond_false,Bool.cond_eq_ite]
 repeat' split
 all_goals first
  |rfl
  |exact k1 _ (λ_=>rfl) _ _ _
  |exact k2 _ (λ_=>rfl) _ _ _
  |exact k3 _ (λ_=>rfl) _ _ _
theorem NO{l:List aK}(hc:dz l=0){o t:Int}(ho:0<=o/\o<32)(ht:0<=t/\t<1099511627776)(hk:0<=ah/\ah<1099511627776):(eW l o t ah).2=0:=by
 have h1:∀x:Int,0<=x/\x<1099511627776->fy x=true:=λx hx=>by simp only[fy,hO,zC,decide_eq_true_eq];omega
 have h2:iQ o=true:=by simp only[iQ,hO,zC,decide_eq_true_eq];omega
 grind [eW]
theorem yV(k:Int->Int)(hk:∀g,k g=0):∀(l:List Int)(g:Int),(∀x∈l,g<x/\x<=1048576)->l.Pairwise (·<·)->dp.L1 k l g=0
 |[],g,_,_=>hk g
 |y::l,g,h,hp=>by
  have h1:=h y (kB ..)
  have e:(decide (y<=g)||decide (1048576<y))=false:=by simp;omega
  simp only[dp.L1,e,cond_false]
  exact yV k hk l y (λx hx=>⟨(List.pairwise_cons.1 hp).1 x hx,(h x (jC _ hx)).2⟩) (List.pairwise_cons.1 hp).2
theorem LF{l:List aF}(hc:dj l=0){p t:Int}{ps:List Int}(hp:0<=p/\p<64)(hps:((∀x∈ps,0<=x/\x<1048577)/\ps.Pairwise (·<·))/\ps.length<=16)(ht:0<=t/\t<1099511627776)(hk:0<=ah/\ah<1099511627776):(dV l p ps t ah).2.2=0:=by grind [dp,dp.K1,dV,fh,yV]
theorem EI{β : Type}(F:(aj->β)->aj->β)(go:Nat->aj->β)(h:∀m,go (m+1)=F (go m))(hF:∀f g x,(∀y∈x.L,f y=g y)->F f x=F g x)(x:aj):go x.dep x=F (λy=>go y.dep y) x:=by
 have key:∀x:aj,∀m,x.dep<=m->go m x=go x.dep x:=by
  refine λx=>aj.ind (P:=λx=>∀m,x.dep<=m->go m x=go x.dep x) ?_ x
  intro x ih m hm
  have hp:=aj.nd x
  obtain⟨m',rfl⟩:∃m',m=m'+1:=⟨m-1,by omega⟩
  obtain⟨n,hn⟩:∃n,x.dep=n+1:=⟨x.dep-1,by omega⟩
  rw[hn,h,h]
  refine hF _ _ _ λy hy=>?_
  have:=aj.lD hy
  grind
 have hp:=aj.nd x
 obtain⟨n,hn⟩:∃n,x.dep=n+1:=⟨x.dep-1,by omega⟩
 rw[hn,h]
 refine hF _ _ _ λy hy=>?_
 have:=aj.lD hy
 exact key y n (by omega)
theorem S1(x:aj):bR x=bR.F bR x:=by
 refine EI bR.F bR.go (λm=>rfl) (λf g x h=>?_) x
 unfold bR.F
 have:∀(k:Int->Int)(l:List aj)a,(∀y∈l,f y=g y)->bR.L1 f k l a=bR.L1 g k l a:=by
  intro k l
  induction l with
  |nil=>intros;rfl
  |cons y l ih=>intro a hl;simp only[bR.L1,hl y (kB ..)];exact ih _ λz hz=>hl z (jC _ hz)
 exact this _ _ _ h
theorem depthL(l:List aj):∀(a:Int),a<=bR.L1 bR (λg=>g) l a/\(∀y∈l,bR y<=bR.L1 bR (λg=>g) l a)/\∀M:Int,a<=M->(∀y∈l,bR y<=M)->bR.L1 bR (λg=>g) l a<=M:=by
 induction l with
 |nil=>intro a;exact⟨Int.le_refl _,λ_ h=>(kA h).elim,λM h _=>h⟩
 |cons y l ih=>
  grind [bR.L1]
theorem depthK(l:List aj):∀(a:Int),bR.L1 bR bR.K1 l a=IntKind.i64.wrap (bR.L1 bR (λg=>g) l a+1):=by
 induction l with
 |nil=>intro a;rfl
 |cons y l ih=>intro a;exact ih _
theorem Nt(x:aj):x.dep<=1500000->(1<=bR x/\bR x<=x.dep)/\bR x=bR.L1 bR (λg=>g) x.L 0+1:=by
 refine aj.ind (P:=λx=>x.dep<=1500000->(1<=bR x/\bR x<=x.dep)/\bR x=bR.L1 bR (λg=>g) x.L 0+1) ?_ x
 intro x ih hx
 obtain⟨i1,i2,i3⟩:=depthL x.L 0
 have hp:=aj.nd x
 have h3:=i3 ((x.dep:Int)-1) (by omega) λy hy=>by
  have h4:=aj.lD hy
  have:=(ih y hy (by omega)).1.2
  omega
 grind [bR.F,S1,depthK,wrap64]
theorem Ns(x:aj):x.dep<=1500000->∀(d D:Int),bR x<=D->∀z∈bx x d,z.depth<=d+D-1:=by
 refine aj.ind (P:=λx=>x.dep<=1500000->∀(d D:Int),bR x<=D->∀z∈bx x d,z.depth<=d+D-1) ?_ x
 intro x ih hx d D hD z hz
 obtain⟨h1,h2⟩:=Nt x hx
 rw[oU]at hz
 rcases zE.1 hz with rfl|hz
 .show d<=d+D-1;omega
 .obtain⟨y,hy,hz⟩:=List.mem_flatMap.1 hz
  have h4:=aj.lD hy
  have h5:=(depthL x.L 0).2.1 y hy
  have:=ih y hy (by omega) (d+1) (D-1) (by omega) z hz
  omega
theorem SY(x:aj):dF x=dF.F dF x:=by
 refine EI dF.F dF.go (λm=>rfl) (λf g x h=>?_) x
 funext dJ
 unfold dF.F
 have:∀(k:Int->Int)(l:List aj)a,(∀y∈l,f y=g y)->dF.L1 f dJ k l a=dF.L1 g dJ k l a:=by
  intro k l
  induction l with
  |nil=>intros;rfl
  |cons y l ih=>
   grind [dF.L1]
 exact this _ _ _ h
def cnt(x:aj):Nat:=(bx x 1).length
theorem Vk(x:aj):∀d,(bx x d).length=cnt x:=by
 refine aj.ind (P:=λx=>∀d,(bx x d).length=cnt x) ?_ x
 intro x ih d
 unfold cnt
 rw[oU,oU x 1,zA,zA,List.length_flatMap,List.length_flatMap]
 congr 2
 apply List.map_congr_left
 intro y hy
 rw[ih y hy,ih y hy]
theorem SQ(x:aj):cnt x=1+(x.L.map cnt).sum:=by
 conv=>lhs;unfold cnt
 rw[oU,zA,List.length_flatMap,Nat.add_comm]
 congr 2
 apply List.map_congr_left
 intro y hy
 exact Vk y _
theorem Kv(x:aj):∀dJ:Int,0<=dJ->dJ<=256->dF x dJ=min (cnt x:Int) (dJ+1):=by
 refine aj.ind (P:=λx=>∀dJ:Int,0<=dJ->dJ<=256->dF x dJ=min (cnt x:Int) (dJ+1)) ?_ x
 intro x ih dJ h0 h1
 rw[SY,SQ]
 unfold dF.F
 have key:∀(l:List aj)(a:Int),(∀y∈l,y∈x.L)->1<=a->a<=dJ+1->dF.L1 dF dJ dF.K1 l a=min (a+((l.map cnt).sum:Nat)) (dJ+1):=by
  intro l
  induction l with
  |nil=>intro a _ _ ha;simp only[dF.L1,dF.K1,List.map_nil,List.sum_nil];omega
  |cons y l ih2=>
   intro a hl h2 h3
   simp only[dF.L1,Bool.cond_eq_ite,decide_eq_true_eq,vH,List.sum_cons]
   grind [dF.K1,wrap64,cnt,SQ]
 grind
theorem MZ{x:aj}(hx:x.dep<=1500000)(h:lZ x=false):(bx x 1).length<=256/\∀z∈bx x 1,z.depth<=16:=by
 simp only[lZ,Bool.or_eq_false_iff,decide_eq_false_iff_not]at h
 have h1:=Kv x 256 (by decide) (by decide)
 have h2:=Ns x hx 1 16 (by omega)
 grind [cnt]
theorem ET(s:ByteArray):∀(m i:Nat)(r:List UInt8),s.size-i=m->(ByteArray.toList.loop s i r).length=r.length+m
 |0,i,r,h=>by rw[ByteArray.toList.loop];rw[if_neg (by omega)];simp
 |m+1,i,r,h=>by
  rw[ByteArray.toList.loop,if_pos (by omega),ET s m (i+1) _ (by omega),zA]
  omega
theorem ye(s:ByteArray):s.toList.length=s.size:=by
 have:=ET s s.size 0 [] (by omega)
 simpa[ByteArray.toList]using this
theorem TV(c:Bool)(a b d:α):(bif c then(bif c then a else b)else d)=bif c then a else d:=by cases c<;>rfl
theorem UV(c x:Bool):(bif c then false else x)=(!c&&x):=by cases c<;>rfl
theorem UU(c x:Bool):(bif c then true else x)=(c||x):=by cases c<;>simp
theorem Kh(s:ByteArray):ea s=(dW s&&!(uT s)):=by
 unfold ea uT
 simp only[TV]
 simp only[UV,UU,Bool.not_or,Bool.or_false]
 ac_rfl
theorem D3(c:Int):(lT c != 2)=!(nP c):=by grind [lT,nP]
theorem OF(c:Int):(((lT c != 2)&&(lT c != 3))&&(lT c != 5))=!(uX c):=by grind [lT,uX,nP,uj]
theorem K8(s:ByteArray):∀(l:List Nat)(i:Nat),dW.L1 s dW.K1 l i=jY.L1 s jY.K1 l i
 |[],i=>rfl
 |y::l,i=>by simp only[dW.L1,jY.L1,OF,K8 s l]
theorem Pl(h:jY s=true):dW s=true:=by
 unfold jY at h
 unfold dW
 rw[D3,K8]
 rw[Bool.cond_eq_ite]at h ⊢
 split at h
 .cases h
 .next hc=>
  simp only[kD,not_or,decide_eq_true_eq]at hc
  obtain⟨⟨h1,h2⟩,h3⟩:=hc
  have e:(s.toList==(⟨#[]⟩:ByteArray).toList)=false:=by
   rw[Bool.eq_false_iff]
   intro he
   have he:=eq_of_beq he
   have h9:=ye s
   rw[he,ye]at h9
   have:(⟨#[]⟩:ByteArray).size=0:=rfl
   omega
  grind
theorem PM(h:oS s=true):ea s=true:=by
 simp only[oS,zC]at h
 rw[Kh,Pl h.1,h.2];rfl
theorem JS(s:ByteArray):∀(l:List ByteArray)(i:Nat),fK.L1 s fK.K1 l i=bC.L1 s bC.K1 l i
 |[],i=>rfl
 |y::l,i=>by
  have:(y.toList==s.toList)=(s.toList==y.toList):=by rw[jJ,beq_iff_eq,beq_iff_eq];exact eq_comm
  simp only[fK.L1,bC.L1,this,JS s l]
theorem rindex(l:List ByteArray)(s:ByteArray):fK l s=bC l s:=JS s l 0
theorem Fq{l:List ByteArray}(h:fx l=true):bN l ea=true:=by
 have key:∀(L l:List ByteArray)(i:Nat),fx.L1 L fx.K1 l i=true->bN.L1 L ea bN.K1 l i=true:=by
  intro L l
  induction l with
  |nil=>intros;rfl
  |cons y l ih=>
   intro i h
   simp only[fx.L1,Bool.cond_eq_ite]at h
   split at h
   .cases h
   .next hc=>
    simp only[kD,not_or,qF,Bool.not_eq_false,Bool.not_eq_true]at hc
    simp only[bN.L1,PM hc.1,←rindex,hc.2,Bool.not_true,Bool.or_self,cond_false]
    exact ih _ h
 exact key l l 0 h
theorem wk(off:List ByteArray){f g:List ByteArray->aj->Bool}(k:Bool):∀(l:List aj),(∀y∈l,f off y=g off y)->cx.L1 f off k l=cx.L1 g off k l
 |[],_=>rfl
 |y::l,h=>by simp only[cx.L1,h y (kB ..),wk off k l λz hz=>h z (jC _ hz)]
theorem MO(off:List ByteArray)(x:aj):cx off x=cx.F cx off x:=by
 have:=EI (λf x=>cx.F (λ_ y=>f y) off x) (λm x=>cx.go m off x) (λm=>?_) (λf g x h=>?_) x
 .refine Eq.trans this ?_
  show cx.F _ off x=_
  unfold cx.F
  rw[wk off (f:=λ_ y=>cx.go y.dep off y) (g:=cx) _ x.L λy hy=>rfl]
 .funext x
  show cx.F (cx.go m) off x=cx.F _ off x
  grind [cx.F,wk]
 .grind [cx.F,wk]
theorem J9(off:List ByteArray):∀(l:List aj),cx.L1 cx off cx.K1 l=true->∀y∈l,cx off y=true
 |[],_=>λ_ h=>(kA h).elim
 |y::l,h=>by
  simp only[cx.L1,Bool.cond_eq_ite]at h
  split at h
  .cases h
  .next hc=>
   intro z hz
   rcases zE.1 hz with rfl|hz
   .simpa using hc
   .exact J9 off l h z hz
theorem MN(off:List ByteArray)(x:aj):cx off x=true->∀d,∀z∈bx x d,((!(dx z.x))||dg off z.x.Name)=true:=by
 refine aj.ind (P:=λx=>cx off x=true->∀d,∀z∈bx x d,((!(dx z.x))||dg off z.x.Name)=true) ?_ x
 intro x ih h d z hz
 rw[MO]at h
 unfold cx.F at h
 rw[Bool.cond_eq_ite]at h
 split at h
 .cases h
 .next hc=>
  rw[oU]at hz
  rcases zE.1 hz with rfl|hz
  .show((!(dx x))||dg off x.Name)=true
   unfold dg dx
   rw[rindex]at hc
   grind
  .grind [J9]
theorem uo(u:Bool){f g:aj->Bool->Bool}(k:Bool):∀(l:List aj),(∀y∈l,f y u=g y u)->aU.L1 f u k l=aU.L1 g u k l
 |[],_=>rfl
 |y::l,h=>by simp only[aU.L1,h y (kB ..),uo u k l λz hz=>h z (jC _ hz)]
theorem Kj(x:aj)(u:Bool):aU x u=aU.F aU x u:=by
 have:=EI (λf x=>aU.F (λy _=>f y) x u) (λm x=>aU.go m x u) (λm=>?_) (λf g x h=>?_) x
 .refine Eq.trans this ?_
  show aU.F _ x u=_
  unfold aU.F
  rw[uo u (f:=λy _=>aU.go y.dep y u) (g:=aU) _ x.L λy hy=>rfl]
 .funext x
  show aU.F (aU.go m) x u=aU.F _ x u
  grind [aU.F,uo]
 .grind [aU.F,uo]
theorem Im(u k:Bool):∀(l:List aj),aU.L1 aU u k l=true->(∀y∈l,aU y u=true)/\k=true
 |[],h=>⟨λ_ h=>(kA h).elim,h⟩
 |y::l,h=>by
  simp only[aU.L1,Bool.cond_eq_ite]at h
  split at h
  .cases h
  .next hc=>
   obtain⟨h1,h2⟩:=Im u k l h
   grind
theorem QE{x:aj}(h:aU.K1 x u=true):(bo x.Kind 1 4&&kindsP x.Kind x)=true/\(u=false->x.Kind≠4):=by
 unfold aU.K1 at h
 simp only[Bool.cond_eq_ite,beq_iff_eq]at h
 split at h
 .next e=>
  rw[e]
  refine⟨?_,λ_=>by decide⟩
  show(_&&lS x)=true
  unfold lS
  rw[h];rfl
 .split at h
  .next e=>
   rw[e]
   refine⟨?_,λ_=>by decide⟩
   show(_&&lR x)=true
   grind [lR,bo]
  .split at h
   .next e=>
    rw[e]
    refine⟨?_,λ_=>by decide⟩
    show(_&&lQ x)=true
    unfold lQ bo
    grind
   .split at h
    .next e=>
     rw[e]
     simp only[zC]at h
     refine⟨?_,λhu=>by rw[hu]at h;simp at h⟩
     show(_&&lg x)=true
     unfold lg bo
     grind
    .cases h
theorem Ki(u:Bool)(x:aj):aU x u=true->∀d,∀z∈bx x d,(bo z.x.Kind 1 4&&kindsP z.x.Kind z.x)=true/\(u=false->z.x.Kind≠4):=by
 refine aj.ind (P:=λx=>aU x u=true->∀d,∀z∈bx x d,(bo z.x.Kind 1 4&&kindsP z.x.Kind z.x)=true/\(u=false->z.x.Kind≠4)) ?_ x
 intro x ih h d z hz
 rw[Kj]at h
 obtain⟨h1,h2⟩:=Im u _ x.L h
 grind [oU,QE]
theorem rl1(rec:List ByteArray->aj->aj)(off:List ByteArray)(k:List aj->aj):∀(l g:List aj),av.L1 rec off k l g=k (g++l.map (rec off))
 |[],g=>by simp[av.L1]
 |y::l,g=>by simp[av.L1,rl1 rec off k l]
theorem rl2(rec:List ByteArray->aj->aj)(off:List ByteArray)(k:List aj->aj):∀(l g:List aj),av.L2 rec off k l g=k (g++l.map (rec off))
 |[],g=>by simp[av.L2]
 |y::l,g=>by simp[av.L2,rl2 rec off k l]
def rno(off:List ByteArray)(x:aj):Int:=bif dx x then bC off x.Name else 0
theorem N3(rec:List ByteArray->aj->aj)(off:List ByteArray)(x:aj):av.F rec off x=aj.mk x.Kind x.N (rno off x) x.Name (x.L.map (rec off)):=by
 unfold av.F rno dx
 cases((x.Kind==1)||(x.Kind==2))
 .rw[cond_false,rl2];rfl
 .grind [av.K1,rl1,rindex]
theorem EZ(off:List ByteArray)(x:aj):av off x=aj.mk x.Kind x.N (rno off x) x.Name (x.L.map (av off)):=by
 have:=EI (λf x=>aj.mk x.Kind x.N (rno off x) x.Name (x.L.map f)) (λm x=>av.go m off x) (λm=>?_) (λf g x h=>?_) x
 .exact this
 .funext x
  show av.F (av.go m) off x=_
  rw[N3]
 .show aj.mk _ _ _ _ _=aj.mk _ _ _ _ _
  rw[List.map_congr_left h]
theorem GC(b:aj){f g:aj->aj->Bool}(k:Bool):∀(l:List aj)(i:Nat),(∀y∈l,f y=g y)->bK.L1 f b k l i=bK.L1 g b k l i
 |[],_,_=>rfl
 |y::l,i,h=>by simp only[bK.L1,h y (kB ..),GC b k l (i+1) λz hz=>h z (jC _ hz)]
theorem Pd(x:aj):bK x=bK.F bK x:=by
 refine EI bK.F bK.go (λm=>rfl) (λf g x h=>?_) x
 grind [bK.F,GC]
theorem Pe(b:aj):∀(l:List aj)(i:Nat),bK.L1 bK b bK.K1 l i=true->∀(j:Nat)(y:aj),l[j]? = some y->bK y (nthI b.L ((i+j:Nat):Int))=true
 |[],_,_,j,y,hj=>by simp at hj
 |z::l,i,h,j,y,hj=>by
  simp only[bK.L1,Bool.cond_eq_ite]at h
  split at h
  .cases h
  .next hc=>
   cases j with
   |zero=>simp at hj;subst hj;simpa using hc
   |succ j=>have:=Pe b l (i+1) h j y (by simpa using hj);rw[show i+(j+1)=i+1+j from by omega];exact this
theorem Th(off:List ByteArray)(x:aj):bK (av off x) x=true->∀d,∀z∈bx x d,z.x.No=rno off z.x:=by
 refine aj.ind (P:=λx=>bK (av off x) x=true->∀d,∀z∈bx x d,z.x.No=rno off z.x) ?_ x
 intro x ih h d z hz
 rw[Pd,EZ]at h
 unfold bK.F at h
 rw[Bool.cond_eq_ite]at h
 split at h
 .cases h
 .next hc=>
  simp only[kD,not_or,bne_iff_ne,ne_eq,Classical.not_not]at hc
  have hno:rno off x=x.No:=hc.1.1.2
  rw[oU]at hz
  rcases zE.1 hz with rfl|hz
  .exact hno.symm
  .obtain⟨y,hy,hz⟩:=List.mem_flatMap.1 hz
   obtain⟨j,hj⟩:=Wl hy
   have h2:=Pe x _ 0 h j (av off y) (by show(List.map (av off) x.L)[j]? = _;rw[kV,hj];rfl)
   have hlt:=(List.getElem?_eq_some_iff.1 hj).1
   have hg:=dC (xs:=x.L) (z:=((0+j:Nat):Int)) (by omega)
   grind
theorem EY{off:List ByteArray}{x:aj}(h:bK (av off x) x=true):ck off x=true:=by
 unfold ck ck.K1
 rw[sN]
 exact Th off x h 1
def rrules(off:List ByteArray):List ft->Nat->List ft
 |[],_=>[]
 |y::l,i=>ft.mk y.Kind (i:Int) y.iK (av off y.aj)::rrules off l (i+1)
theorem GL(off:List ByteArray):∀(l:List ft)(i j:Nat)(y:ft),l[j]? = some y->(rrules off l i)[j]? = some (ft.mk y.Kind ((i+j:Nat):Int) y.iK (av off y.aj))
 |[],_,j,y,h=>by simp at h
 |z::l,i,0,y,h=>by simp at h;subst h;rfl
 |z::l,i,j+1,y,h=>by
  have:=GL off l (i+1) j y (by simpa using h)
  rw[show i+(j+1)=i+1+j from by omega]
  exact this
theorem CV(p:aw):∀(l:List ft)(i:Nat)(g:List ft),eh.L1 p (eh.K1 p) l i g=(aw.mk p.Name p.dQ p.aB (g++rrules p.aB l i) (av p.aB p.aQ) p.Mode,0)
 |[],i,g=>by
  simp only[eh.L1,eh.K1,rrules,List.append_nil,aj.eta]
 |y::l,i,g=>by
  simp only[eh.L1,CV p l,rrules,aj.eta,List.append_assoc,List.singleton_append]
theorem P0(b:aw):∀(l:List ft)(i:Nat),jg.L1 b jg.K1 l i=true->∀(j:Nat)(y:ft),l[j]? = some y->y.Bf=(nthI b.di ((i+j:Nat):Int)).Bf/\bK y.aj (nthI b.di ((i+j:Nat):Int)).aj=true
 |[],_,_,j,y,hj=>by simp at hj
 |z::l,i,h,j,y,hj=>by
  simp only[jg.L1,Bool.cond_eq_ite]at h
  split at h
  .cases h
  .next hc=>
   simp only[kD,not_or,bne_iff_ne,ne_eq,Classical.not_not,qF,Bool.not_eq_false]at hc
   cases j with
   |zero=>simp at hj;subst hj;exact⟨hc.1.1.2,hc.2⟩
   |succ j=>have:=P0 b l (i+1) h j y (by simpa using hj);rw[show i+(j+1)=i+1+j from by omega];exact this
theorem J8(p:aw)(k:Bool):∀(l:List ft),iH.L1 p k l=true->(∀r∈l,cx p.aB r.aj=true)/\k=true
 |[],h=>⟨λ_ h=>(kA h).elim,h⟩
 |y::l,h=>by
  simp only[iH.L1,Bool.cond_eq_ite]at h
  split at h
  .cases h
  .next hc=>
   obtain⟨h1,h2⟩:=J8 p k l h
   grind
theorem M0(k:Bool):∀(l:List ft),fw.L1 k l=false->∀r∈l,lZ r.aj=false
 |[],_=>λ_ h=>(kA h).elim
 |y::l,h=>by
  simp only[fw.L1,Bool.cond_eq_ite]at h
  split at h
  .cases h
  .next hc=>
   intro z hz
   rcases zE.1 hz with rfl|hz
   .simpa using hc
   .exact M0 k l h z hz
theorem In(p:aw)(k:Bool):∀(l:List ft)(i:Nat),gC.L1 p k l i=true->(∀(j:Nat)r,l[j]? = some r->((r.Kind.toList==(nthI p.dQ (((i+j:Nat):Int))).toList)=true/\0<=r.iK/\r.iK<1099511627776)/\aU r.aj true=true)/\k=true
 |[],i,h=>⟨λj r hj=>by simp at hj,h⟩
 |y::l,i,h=>by
  simp only[gC.L1,Bool.cond_eq_ite]at h
  split at h
  .cases h
  .next hc=>
   simp only[kD,not_or,decide_eq_true_eq,qF,Bool.not_eq_false]at hc
   obtain⟨h1,h2⟩:=In p k l (i+1) h
   grind
theorem SR(hs:smP p)(h:ic p=0):dt p=0:=by
 unfold ic at h
 rw[Bool.cond_eq_ite]at h
 split at h
 .next hc=>exact absurd h (by simpa using hc)
 .next hR=>
  rw[Bool.cond_eq_ite]at h
  split at h
  .omega
  .next hS=>
   simp only[qF,Bool.not_eq_false]at hS
   unfold eh at hR hS
   cases hl:fw p with
   |true=>rw[hl]at hR;simp at hR
   |false=>
    rw[hl]at hR hS
    cases hn:iH p with
    |false=>rw[hn]at hR;simp at hR
    |true=>
     rw[hn]at hR hS
     cases hf:gC p with
     |false=>rw[hf]at hR;simp at hR
     |true=>
      rw[hf]at hS
      simp only[Bool.not_true,cond_false,CV,zF]at hS
      clear hR h
      unfold fw at hl
      rw[Bool.cond_eq_ite]at hl
      split at hl
      .cases hl
      .next h1=>
       simp only[kD,not_or,decide_eq_true_eq,Bool.not_eq_true]at h1
       have h2:=M0 _ _ hl
       unfold iH at hn
       rw[Bool.cond_eq_ite]at hn
       split at hn
       .cases hn
       .next h3=>
        simp only[kD,not_or,qF,Bool.not_eq_false]at h3
        obtain⟨h4,h5⟩:=J8 p _ _ hn
        unfold gC at hf
        rw[Bool.cond_eq_ite]at hf
        split at hf
        .cases hf
        .next h6=>
         simp only[kD,not_or,decide_eq_true_eq,bne_iff_ne,ne_eq,Classical.not_not]at h6
         obtain⟨h7,h8⟩:=In p _ _ 0 hf
         unfold jg at hS
         rw[Bool.cond_eq_ite]at hS
         split at hS
         .cases hS
         .next h9=>
          simp only[kD,not_or,qF,Bool.not_eq_false]at h9
          have h10:=P0 p _ 0 hS
          have hexp:∀x,x∈aE p->(∃r∈p.di,r.aj=x)\/x=p.aQ:=by
           intro x hx
           rw[ow]at hx
           simp only[zG,zM,xC]at hx
           exact hx
          rw[D4,vX,C8,HH]
          refine⟨⟨⟨⟨by omega,by omega,by omega⟩,λx hx=>?_⟩,⟨⟨PM h3.1.1,Fq h3.1.2,Fq h3.2⟩,λx hx=>?_⟩,?_⟩,λj r hj=>?_,EY h9.2⟩
          .rcases hexp x hx with⟨r,hr,rfl⟩|rfl
           .exact MZ (hs.2.1 r hr) (h2 r hr)
           .exact MZ hs.2.2.1 h1.2
          .rcases hexp x hx with⟨r,hr,rfl⟩|rfl
           .exact MN p.aB _ (h4 r hr) 1
           .exact MN p.aB _ h5 1
          .unfold bE bE.K1 bE.K2
           rw[sC,DT,Ge]
           refine⟨?_,λj r hj=>?_,λj x hj z hz=>?_⟩
           .simp only[zC,decide_eq_true_eq,beq_iff_eq,bo]
            exact⟨⟨by omega,h6.1.1.2⟩,by omega,by omega⟩
           .have:=(h7 j r hj).1
            simp only[zC,decide_eq_true_eq,bo]
            exact⟨this.1,this.2.1,by omega⟩
           .have hlen:(aE p).length=p.di.length+1:=by rw[ow];simp
            rw[ow]at hj
            rcases Nat.lt_or_ge j p.di.length with hjl|hjl
            .grind [Ki,wrap64]
            .rw[List.getElem?_append_right (by simpa using hjl)]at hj
             have hj2:=xC.1 (List.mem_of_getElem? hj)
             subst hj2
             obtain⟨k1,k2⟩:=Ki false _ h8 1 z hz
             refine⟨k1,?_⟩
             have:(z.x.Kind != 4)=true:=by simpa using k2 rfl
             rw[this,Bool.or_true]
          .have h11:=h10 j _ (GL p.aB p.di 0 j r hj)
           have hlt:=(List.getElem?_eq_some_iff.1 hj).1
           have hg:=dC (xs:=p.di) (z:=((0+j:Nat):Int)) (by omega)
           rw[show(((0+j:Nat):Int)).toNat=j from by omega,hj]at hg
           rw[←Option.some.inj hg]at h11
           dsimp only at h11
           exact⟨by rw[←h11.1];simp,EY h11.2⟩
def SZ(v:aD):Prop:=(0<=v.No/\v.No<=1048576)/\(0<=v.At/\v.At<1099511627776)/\(0<=v.dU/\v.dU<1099511627776)/\ic v.aw=0
theorem PV{L:List aD}{y:aD}{l:List aD}{i:Nat}(h:dZ.L1 L dZ.K1 (y::l) i=0):SZ y/\(0<i->(nthI L ((i:Int)-1)).No<y.No)/\dZ.L1 L dZ.K1 l (i+1)=0:=by
 simp only[dZ.L1,Bool.cond_eq_ite]at h
 split at h
 .omega
 .next hc=>
  simp only[kD,not_or,decide_eq_true_eq,zC,qF,Bool.not_eq_false,bne_iff_ne,ne_eq,Classical.not_not,fX]at hc
  obtain⟨⟨⟨⟨h1,h2⟩,h3⟩,h4⟩,h5⟩:=hc
  exact⟨⟨by omega,h3,h4,h5⟩,λhi=>by omega,h⟩
theorem PW(L:List aD):∀(l pre:List aD)(x:aD),L=(pre++[x])++l->dZ.L1 L dZ.K1 l (pre.length+1)=0->(∀y∈l,SZ y)/\(x::l).Pairwise (λa b=>a.No<b.No)
 |[],_,_,_,_=>⟨λ_ h=>(kA h).elim,by simp⟩
 |y::l,pre,x,h,hr=>by
  have hx:nthI L (((pre.length+1:Nat):Int)-1)=x:=by
   have hb:0<=(((pre.length+1:Nat):Int)-1)/\(((pre.length+1:Nat):Int)-1)<(L.length:Int):=by rw[h];simp;omega
   have hg:=dC hb
   grind
  obtain⟨h1,h2,h3⟩:=PV hr
  have h2:=h2 (by omega)
  rw[hx]at h2
  have ih:=PW L l (pre++[x]) y (by rw[h];simp)
  grind
theorem NE{l:List aD}(hs:smV l)(h:dZ l=0):bQ l=0:=by
 rw[tj]
 unfold dZ at h
 rw[Bool.cond_eq_ite]at h
 split at h
 .omega
 .next hl=>
  simp only[decide_eq_true_eq]at hl
  have key:(∀y∈l,SZ y)/\l.Pairwise (λa b=>a.No<b.No):=by
   cases l with
   |nil=>exact⟨λ_ h=>(kA h).elim,List.Pairwise.nil⟩
   |cons y l=>
    obtain⟨h1,_,h3⟩:=PV h
    obtain⟨i1,i2⟩:=PW (y::l) l [] y rfl h3
    grind
  refine⟨by omega,λv hv=>?_,key.2⟩
  have:=key.1 v hv
  obtain⟨h1,h2,h3,h4⟩:=this
  exact⟨by omega,by omega,h1,SR (hs.2 v hv) h4⟩
theorem xg{α : Type}{R:α->Bool}{no:α->Int}{c:Int}(hc:c≠0):∀(l:List α)(g:Int),prgChk R no c l g=0↔(∀y∈l,R y=true/\g<no y)/\l.Pairwise (λa b=>no a<no b)
 |[],g=>by simp[prgChk]
 |y::l,g=>by
  have ih:=xg hc l (no y) (R:=R) (no:=no)
  simp only[prgChk,Bool.cond_eq_ite,kD,qF,decide_eq_true_eq]
  split
  .grind
  .next h=>
   rw[ih]
   simp only[not_or,Bool.not_eq_false,Int.not_le]at h
   constructor
   .rintro⟨h1,h2⟩
    refine⟨λz hz=>?_,List.pairwise_cons.2 ⟨λz hz=>(h1 z hz).2,h2⟩⟩
    grind
   .rintro⟨h1,h2⟩
    obtain⟨p1,p2⟩:=List.pairwise_cons.1 h2
    grind
theorem Oa{R:α->Bool}{no:α->Int}{c:Int}(hc:c≠0){l m:List α}{g:Int}(hs:m.Sublist l)(h:prgChk R no c l g=0):prgChk R no c m g=0:=by grind [xg]
theorem ni(h:e=0):exOk (nf e):=by subst h;trivial
structure jo(c:bU):Prop where
 chk:dY c.Register=0
 ba:c.ba∈c.Register.cj
 time:0<=c.at_/\c.at_<1099511627776
 know:0<=c.ah/\c.ah<1099511627776
theorem jo.good{c:bU}(h:jo c):P4 c.ba:=Km ((lN _).1 h.chk).2.2.2.2.2.1 _ h.ba
theorem jo.vers{c:bU}(h:jo c):Fy c.Register.Versions:=(tj _).1 ((lN _).1 h.chk).2.2.2.2.1
theorem jo.kind{c:bU}(h:jo c):0<=c.ba.Kind/\c.ba.Kind<16:=h.good.kind
theorem approvalsP(l:List ay)(g:Int):cf.L1 cf.K1 l g=prgChk kO (·.No) 280 l g:=by
 induction l generalizing g with
 |nil=>rfl
 |cons y l ih=>simp only[cf.L1,prgChk,ih]
theorem CU{l:List ay}(h:cf l=0):∀x∈l,kO x=true:=by grind [cf,approvalsP,xg]
theorem NL{x:ay}(h:kO x=true):(0<=x.Doc/\x.Doc<4096)/\(0<=x.By/\x.By<64)/\(0<=x.For/\x.For<64)/\(0<=x.ep/\x.ep<32)/\(0<=x.At/\x.At<1099511627776):=by
 simp only[kO,fD,containsF,kX,List.any_cons,List.any_nil,Bool.or_false,zC,qF,Bool.or_eq_false_iff,decide_eq_false_iff_not]at h
 omega
theorem budgetsP(l:List Budget)(g:Int):bI.L1 bI.K1 l g=prgChk lY (·.No) 180 l g:=by
 induction l generalizing g with
 |nil=>rfl
 |cons y l ih=>simp only[bI.L1,prgChk,ih]
theorem so{l:List Budget}(h:bI l=0):∀x∈l,lY x=true:=by grind [bI,budgetsP,xg]
theorem wY{x:Budget}(h:lY x=true):x.eK≠0:=by
 simp only[lY,ce,containsF,lE,List.any_cons,List.any_nil,Bool.or_false,Bool.cond_eq_ite]at h
 grind
theorem Jo{l:List Budget}{kind t:Int}{x:Budget}(h:x∈aO l kind t ah):x∈l:=by
 have h2:∀(g:List (fB×Budget))(s acc:List Budget),x∈aO.L2 g aO.K2 s acc->x∈acc\/x∈s:=by
  intro g s
  induction s with
  |nil=>intro acc h;exact .inl h
  |cons y s ih=>
   intro acc h
   simp only[aO.L2,Bool.cond_eq_ite]at h
   grind
 have h1:∀(s:List Budget)(g:List (fB×Budget)),x∈aO.L1 kind t ah (aO.K1 l) s g->x∈l:=by
  intro s
  induction s with
  |nil=>intro g h;rcases h2 g l [] h with h|h;exact(kA h).elim;exact h
  |cons y s ih=>intro g h;simp only[aO.L1,Bool.cond_eq_ite]at h;(repeat' split at h)<;>exact ih _ h
 exact h1 _ _ h
theorem Mv{l:List Budget}{kind t:Int}{x:Budget}(h:bI l=0)(hx:x∈aO l kind t ah):x.eK≠0:=wY (so h x (Jo hx))
theorem Js{l:List ay}{ba t:Int}{x:ay}(h:x∈aP l ba t ah):x∈l:=by
 have hc:∀(s:List ay),x∈cd.L1 ba t ah cd.K1 s->x∈s:=by
  intro s
  induction s with
  |nil=>intro h;exact(kA h).elim
  |cons y s ih=>
   intro h
   simp only[cd.L1,Bool.cond_eq_ite]at h
   all_goals grind
 have h2:∀(g:List (fC×ay))(s acc:List ay),x∈aP.L2 g aP.K2 s acc->x∈acc\/x∈s:=by
  intro g s
  induction s with
  |nil=>intro acc h;exact .inl h
  |cons y s ih=>
   intro acc h
   simp only[aP.L2,Bool.cond_eq_ite]at h
   split at h
   all_goals grind
 have h1:∀(s:List ay)(g:List (fC×ay)),x∈aP.L1 (aP.K1 l ba t ah) s g->x∈l:=by
  intro s
  induction s with
  |nil=>
   intro g h
   rcases h2 g (fQ l ba t ah) [] h with h|h
   .exact(kA h).elim
   .exact hc _ h
  |cons y s ih=>intro g h;simp only[aP.L1,Bool.cond_eq_ite]at h;split at h<;>exact ih _ h
 exact h1 _ _ h
theorem Lw{l:List ay}{ba t:Int}{x:ay}(h:x∈(da l ba b th t ah).1):x∈l:=by
 unfold da at h
 simp only[Bool.cond_eq_ite]at h
 split at h
 .exact(kA h).elim
 .split at h
  .exact(kA h).elim
  .exact Js (xW.1 h).1
section
variable {c:bU} (h:jo c)
include h
theorem OD{p:Int}(hp:0<=p/\p<64):(dV c.Register.ej p c.ba.kU c.at_ c.ah).2.2=0:=
 LF ((lN _).1 h.chk).2.2.1 hp h.good.er h.time h.know
theorem AZ(hpr:p.di.length=p.dQ.length/\∀y∈p.di,0<=y.iK/\y.iK<=1099511627775)(hk:0<=c.ba.Kind/\c.ba.Kind<(p.di.length:Int)):
  (da c.Register.dy c.ba.No c.ba.At (nthI p.di c.ba.Kind).iK c.at_ c.ah).2=0:=by
 have hth:=hpr.2 _ (pI hk)
 have h1:=h.good.no
 have h2:=h.good.at_
 have h3:=h.time
 have h4:=h.know
 have e1:fD 4095 [c.ba.No]=true:=by
  simp only[fD,containsF,kX,List.any_cons,List.any_nil,Bool.or_false,qF,Bool.or_eq_false_iff,decide_eq_false_iff_not];omega
 have e2:fD 1099511627775 [c.ba.At,(nthI p.di c.ba.Kind).iK,c.at_,c.ah]=true:=by
  simp only[fD,containsF,kX,List.any_cons,List.any_nil,Bool.or_false,qF,Bool.or_eq_false_iff,decide_eq_false_iff_not];omega
 unfold da
 rw[((lN _).1 h.chk).2.2.2.2.2.2,e1,e2];rfl
theorem yE{d t:Int}{x:ay}(hx:x∈(da c.Register.dy d b th t ah).1):(0<=x.Doc/\x.Doc<4096)/\(0<=x.By/\x.By<64)/\(0<=x.For/\x.For<64)/\(0<=x.ep/\x.ep<32)/\(0<=x.At/\x.At<1099511627776):=
 NL (CU ((lN _).1 h.chk).2.2.2.2.2.2 x (Lw hx))
theorem Ko{d t:Int}{x:ay}(hx:x∈(da c.Register.dy d b th t ah).1):0<=x.For/\x.For<64:=(yE h hx).2.2.1
theorem Nv{d t:Int}{x:ay}(hx:x∈(da c.Register.dy d b th t ah).1):0<=x.By/\x.By<64:=(yE h hx).2.1
theorem AY{d t:Int}{x:ay}(hx:x∈(da c.Register.dy d b th t ah).1):(eO c.Register.dD x.ep x.For c.at_ c.ah).2.2.2=0:=by
 obtain⟨_,_,h2,h3,_⟩:=yE h hx
 have h4:=h.time
 have h5:=h.know
 have e1:iQ x.ep=true:=by simp only[iQ,hO,zC,decide_eq_true_eq];omega
 have e2:ka x.For=true:=by simp only[ka,hO,zC,decide_eq_true_eq];omega
 have e3:∀z:Int,0<=z/\z<1099511627776->fy z=true:=λz hz=>by simp only[fy,hO,zC,decide_eq_true_eq];omega
 unfold eO
 rw[((lN _).1 h.chk).1,e1,e2,e3 _ h4,e3 _ h5]
 simp only[bne_self_eq_false,cond_false,Bool.not_true,Bool.or_false]
 cases(!(mhas (dI c.Register.dD c.at_ c.ah) (vT x.ep x.For))||(mgetD (dI c.Register.dD c.at_ c.ah) (vT x.ep x.For) (aK.mk 0 0 0 0 0 0 false)).mG)<;>rfl
omit h in
theorem NF{l:List bz}{a o v t n:Int}{g:List (Int×Int)}:(aS.K1 l a o k v t n g).2.2=0:=by
 unfold aS.K1
 cases(!(mhas g a))with
 |true=>rfl
 |false=>
  rw[cond_false]
  have:∀(s:List Nat)(i:Nat)(p:List Int)(q:Int),(aS.L4 l a o k v t n g aS.K4 s i p q).2.2=0:=by
   intro s
   induction s with
   |nil=>intro i p q;rfl
   |cons y s ih=>
    intro i p q
    simp only[aS.L4]
    have:∀(L:List bz)(p:List Int)(q:Int),(aS.L6 a g i (λzg6_16 zg6_31=>aS.L4 l a o k v t n g aS.K4 s (i+1) zg6_16 zg6_31) L p q).2.2=0:=by
     intro L
     induction L with
     |nil=>intro p q;exact ih _ _ _
     |cons z L ihL=>intro p q;simp only[aS.L6,Bool.cond_eq_ite];split;exact ih _ _ _;exact ihL _ _
    exact this _ _ _
  exact this _ _ _ _
omit h in
theorem QK{l:List bz}{a o v t n:Int}(h0:na l a b (cL.mk o k v t n)=0):(aS l a b o k v t n).2.2=0:=by
 unfold aS
 rw[h0]
 simp only[bne_self_eq_false,cond_false]
 have:∀(s:List Nat)(i:Nat)(g:List (Int×Int)),(aS.L1 l o k v t n (aS.K1 l a o k v t n) s i g).2.2=0:=by
  intro s
  induction s with
  |nil=>intro i g;exact NF
  |cons y s ih=>
   intro i g
   simp only[aS.L1]
   have:∀(L:List bz)(g:List (Int×Int)),(aS.L3 i (λzg3_b2_0=>aS.L1 l o k v t n (aS.K1 l a o k v t n) s (i+1) zg3_b2_0) L g).2.2=0:=by
    intro L
    induction L with
    |nil=>intro g;exact ih _ _
    |cons z L ihL=>intro g;simp only[aS.L3,Bool.cond_eq_ite];split<;>exact ihL _
   exact this _ _
 exact this _ _ _
theorem Ba{d t:Int}{x:ay}(hx:x∈(da c.Register.dy d b th t ah).1):
  (aS c.Register.fR x.For x.By x.ep c.ba.Kind c.ba.Value c.at_ c.ah).2.2=0:=by
 obtain⟨_,h1,h2,h3,_⟩:=yE h hx
 have h4:=h.time
 have h5:=h.know
 have h6:=h.kind
 have h7:=h.good.value
 refine QK ?_
 have e2:∀z:Int,0<=z/\z<64->jI z=true:=λz hz=>by simp only[jI,eP,zC,decide_eq_true_eq];omega
 have e3:∀z:Int,0<=z/\z<1099511627776->kI z=true:=λz hz=>by simp only[kI,eP,zC,decide_eq_true_eq];omega
 have e4:eP x.ep 0 31=true:=by simp only[eP,zC,decide_eq_true_eq];omega
 have e5:eP c.ba.Kind 0 15=true:=by simp only[eP,zC,decide_eq_true_eq];omega
 have e6:eP c.ba.Value 0 1099511627776=true:=by simp only[eP,zC,decide_eq_true_eq];omega
 unfold na
 rw[((lN _).1 h.chk).2.1,e2 _ h1,e2 _ h2,e3 _ h4,e3 _ h5,e4,e5,e6];rfl
end
theorem C9{b:Bool}(h:((!cC l signed)||b)=false):signed.length=l.length:=by
 simp only[cC,Bool.or_eq_false_iff,Bool.not_eq_false',zC,beq_iff_eq]at h
 have:=h.1.1
 omega
def playSame(P Q:e8):Prop:=Q.shelf=P.shelf/\Q.signed=P.signed/\Q.done.length=P.done.length/\Q.lacks.length=P.lacks.length
theorem playSame.refl(P:e8):playSame P P:=⟨rfl,rfl,rfl,rfl⟩
theorem playSame.trans{P Q R:e8}(h:playSame P Q)(k:playSame Q R):playSame P R:=⟨k.1.trans h.1,k.2.1.trans h.2.1,k.2.2.1.trans h.2.2.1,k.2.2.2.trans h.2.2.2⟩
theorem re{β : Type}(f:e8->β->e8)(hf:∀P x,playSame P (f P x)):∀(l:List β)(P:e8),playSame P (l.foldl f P)
 |[],P=>.refl P
 |x::l,P=>(hf P x).trans (re f hf l _)
theorem I5(sg:List Int)(i:Int)(P:e8)(no:Int):playSame P (playLack sg i P no):=by
 unfold playLack
 cases(cX P (mgetD P.shelf.at_ no 0) (nthI sg i)).1 != 0
 .exact .refl P
 .exact⟨rfl,rfl,rfl,by simp⟩
theorem KW(P:e8)(i:Int):playSame P (playMid P i):=by
 refine playSame.trans (Q:={ P with lacks:=P.lacks.set i.toNat (-1) }) ⟨rfl,rfl,rfl,by simp⟩ ?_
 exact re _ (λQ x=>I5 _ _ _ _) _ _
theorem I6(P:e8)(i:Int):playSame P (playDone P i):=⟨rfl,rfl,by simp[playDone],rfl⟩
theorem FO(d:ao)(P:e8)(no:Int):playSame P (playRevoke d P no):=⟨rfl,rfl,rfl,rfl⟩
theorem I4(P:e8)(i:Int):playSame P (playStep P i):=by
 have h:=(KW P i).trans (I6 (playMid P i) i)
 unfold playStep
 cases decide (nthI (playMid P i).lacks i<0)
 .exact h
 .exact h.trans (re _ (λQ x=>FO _ _ _) _ _)
theorem E3(l:List ao)(signed:List Int)(t:Int):playSame (playP l signed) (cD l signed t):=re _ I4 _ _
theorem yq(l:List ao)(signed:List Int)(t:Int):(cD l signed t).shelf=aJ l:=(E3 l signed t).1
theorem wi(l:List ao)(signed:List Int)(t:Int):(cD l signed t).shelf.docs=l:=by
 rw[yq]
 have:∀(s:List ao)(i:Nat)(g:List (Int×Int)),(aJ.L1 (aJ.K1 l) s i g).docs=l:=by
  intro s
  induction s with
  |nil=>intro i g;rfl
  |cons y s ih=>intro i g;exact ih _ _
 exact this _ _ _
theorem E4(l:List ao)(signed:List Int)(t:Int):(cD l signed t).done.length=(cD l signed t).shelf.docs.length/\(cD l signed t).lacks.length=(cD l signed t).shelf.docs.length:=by
 have h:=E3 l signed t
 rw[wi]
 exact⟨h.2.2.1.trans (by simp[playP]),h.2.2.2.trans (by simp[playP])⟩
theorem J1{t:Int}{no:Int}(h:(!(mhas (cD l signed t).shelf.at_ no))=false):
  0<=mgetD (cD l signed t).shelf.at_ no 0/\mgetD (cD l signed t).shelf.at_ no 0<((cD l signed t).shelf.docs.length:Int):=by
 rw[wi]
 rw[yq]at h ⊢
 have hl:0<l.length:=by
  cases l with
  |nil=>exact Bool.noConfusion (show true=false from h)
  |cons=>simp
 have key:∀(s:List ao)(i:Nat)(g:List (Int×Int)),i+s.length=l.length->(∀p∈g,0<=p.2/\p.2<(l.length:Int))->∀p∈(aJ.L1 (aJ.K1 l) s i g).at_,0<=p.2/\p.2<(l.length:Int):=by
  intro s
  induction s with
  |nil=>intro i g _ hg;exact hg
  |cons y s ih=>
   intro i g hi hg
   simp only[zA]at hi
   exact ih (i+1) _ (by omega) (As (P:=λx:Int=>0<=x/\x<(l.length:Int)) _ hg (by omega))
 exact Bo (P:=λx:Int=>0<=x/\x<(l.length:Int)) no (key l 0 [] (by simp) (λ_ h=>(kA h).elim)) (by omega)
structure VV(q q':bB):Prop where
 value:q'.value=q.value
 dh:q'.dh=q.dh
 lm:∀l∈q.dh,∀y∈l,y.cZ∈q.lm->y.cZ∈q'.lm
 wt:∀l∈q.dh,∀y∈l,1<=y.j3/\y.j3<=64
 len:∀l∈q.dh,l.length<=2000000
theorem Pk[Inhabited α]{P:α->Prop}{l:List α}(h:∀y∈l,P y)(hd:P default)(z:Int):P (nthI l z):=by
 by_cases hz:z.toNat<l.length
 .have:nthI l z=l[z.toNat]:=by simp[nthI,List.getD_eq_getElem?_getD,hz]
  rw[this];exact h _ (List.getElem_mem _)
 .have:nthI l z=default:=by simp[nthI,List.getD_eq_getElem?_getD,hz]
  rw[this];exact hd
theorem KF(l:List aF)(a b:Int):∃p:aF->Bool,df l a b=l.filter p:=by
 have h1:∀v(l:List aF),bZ.L1 v [] l=l.filter λy=>(!y.mG)&&decide (mgetD v (dX.mk y.cZ y.iw y.Of) (aF.mk 0 0 0 0 0 false false)=y):=by
  intro v l
  induction l with
  |nil=>rfl
  |cons y l ih=>
   simp only[bZ.L1,List.filter_cons,ih]
   grind
 have h2:∀(k:List (dX×aF)->List aF)(l:List aF)m,∃m',df.L1 a b k l m=k m':=by
  intro k l
  induction l with
  |nil=>exact λm=>⟨m,rfl⟩
  |cons y l ih=>
   intro m
   simp only[df.L1,Bool.cond_eq_ite]
   split
   .exact ih _
   .split
    .exact ih _
    .exact ih _
 obtain⟨m',e⟩:=h2 (df.K1 l) l []
 exact⟨_,by unfold df;rw[e];exact h1 m' l⟩
theorem Mc(l:List aF)(a b:Int):(df l a b).length<=l.length:=by
 obtain⟨p,e⟩:=KF l a b
 rw[e];exact List.length_filter_le _ _
theorem HJ{α : Type}{k:Int}{v:α}:∀{m:List (Int×α)},k∉m.map (·.1)->(mput m k v).length=m.length+1/\∀p∈mput m k v,p=(k,v)\/p∈m
 |[],_=>by simp[mput]
 |(k',v')::m,hk=>by
  simp only[vH,zE,not_or]at hk
  obtain⟨h1,h2⟩:=HJ (v:=v) hk.2
  simp only[mput,hk.1,if_false,zA,h1,zE,true_and]
  grind
theorem Ld(hg:xX st m q)(h:mgetD m k false=false):k∉m.map (·.1):=by
 intro hk
 obtain⟨⟨k',v⟩,hp,rfl⟩:=zM.1 hk
 have:∀{m:List (Int×Bool)},(∀p∈m,p.2=true)->k'∈m.map (·.1)->mgetD m k' false=true:=by
  intro m
  induction m with
  |nil=>intro _ h;simp at h
  |cons p m ih=>
   intro ha hm
   obtain⟨a,b⟩:=p
   by_cases e:k'=a
   .have:=ha (a,b) (kB ..)
    simp only at this
    simp[mgetD,mget?,e,this]
   .simp only[vH,zE,e,false_or]at hm
    have:=ih (λp hp=>ha p (jC _ hp)) hm
    simpa[mgetD,mget?,e]using this
 rw[this (λp hp=>(hg.1 p hp).1) hk]at h
 cases h
theorem wu(hg:xX st m q)(hw:w.to∈st.map (·.iw))(h8:w.path.length<=8):xX st (conPut w m q).1 (conPut w m q).2:=by
 unfold conPut
 cases h:mgetD m w.to false with
 |true=>exact hg
 |false=>
  obtain⟨h1,h2⟩:=HJ (v:=true) (Ld hg h)
  refine⟨λp hp=>?_,?_,λw' hw'=>?_⟩
  .rcases h2 p hp with rfl|hp
   .exact⟨rfl,hw⟩
   .exact hg.1 p hp
  .show(q++[w]).length<=(mput m w.to true).length
   rw[h1,vA];have:=hg.2.1;simp;omega
  .rcases zG.1 (show w'∈q++[w]from hw')with hw'|hw'
   .exact hg.2.2 w' hw'
   .rw[xC.1 hw'];exact h8
theorem Bb{cap:Nat}(hg:xX st m q)(hn:(m.map (·.1)).Nodup)(hk:k∈st.map (·.iw))(hc:st.length<=cap)(h:mgetD m k false=false):q.length<cap:=by
 have h1:=Ld hg h
 have h2:(k::m.map (·.1)).length<=(st.map (·.iw)).length:=Ev (zR.2 ⟨h1,hn⟩) (λx hx=>by
  rcases zE.1 hx with rfl|hx
  .exact hk
  .obtain⟨p,hp,rfl⟩:=zM.1 hx;exact(hg.1 p hp).2)
 simp only[zA,List.length_map]at h2
 have:=hg.2.1
 omega
theorem R9(hg:xX st m q)(hn:(m.map (·.1)).Nodup):m.length<=st.length:=by
 have:=Ev (b:=st.map (·.iw)) hn (λx hx=>by obtain⟨p,hp,rfl⟩:=zM.1 hx;exact(hg.1 p hp).2)
 simpa using this
theorem Lx(hn:(m.map (·.1)).Nodup):((conPut w m q).1.map (·.1)).Nodup:=by grind [conPut,mgetD,se]
theorem Nx{N:Nat}(hg:xX st m q)(hn:(m.map (·.1)).Nodup)(hw:w.to∈st.map (·.iw))(hN:st.length<=N):
  (conPut w m q).2.length+(N-(conPut w m q).1.length)<=q.length+(N-m.length):=by
 unfold conPut
 cases h:mgetD m w.to false with
 |true=>simp
 |false=>
  obtain⟨h1,_⟩:=HJ (v:=true) (Ld hg h)
  have h2:xX st (mput m w.to true) []:=by
   have:=wu (w:=⟨[],w.to⟩) (q:=[]) (st:=st) (m:=m) ⟨hg.1,xH _,λ_ h=>(kA h).elim⟩ hw (by simp)
   simp only[conPut,h,cond_false]at this
   exact⟨this.1,xH _,λ_ h=>(kA h).elim⟩
  have h3:=R9 h2 (se w.to true hn)
  grind
theorem CC(m:List (Int×α))(k j:Int)(v z:α):mgetD (mput m k v) j z=if j=k then v else mgetD m j z:=by
 induction m with
 |nil=>by_cases h:j=k<;>simp[mput,mgetD,mget?,h]
 |cons p m ih=>
  obtain⟨a,b⟩:=p
  by_cases h:k=a
  .subst h
   by_cases h2:j=k<;>simp[mput,mgetD,mget?,h2]
  .by_cases h2:j=a
   .subst h2
    have:¬j=k:=λe=>h e.symm
    simp[mput,h,mgetD,mget?,this]
   .simp only[mgetD]at ih ⊢
    simp only[mput,h,if_false,mget?,h2]
    exact ih
theorem P3.put{f:List (Int×List aF)}(hf:P3 st f){x:aF}(hx:x∈st):P3 st (mput f k (mgetD f k []++[x])):=by
 intro j y hy
 rw[CC]at hy
 split at hy
 .rcases zG.1 hy with hy|hy
  .exact hf k y hy
  .rw[xC.1 hy];exact hx
 .exact hf j y hy
theorem Bm(A B:List α)(x y:α):(A++x::y::B).Perm (y::x::(A++B)):=
 List.perm_middle.trans ((List.Perm.cons x List.perm_middle).trans (List.Perm.swap y x _))
theorem D2{st:List aF}{path:List Int}{N:Nat}(hN:st.length<=N)(h8:path.length+1<=8):∀{xs:List aF}{m:List (Int×Bool)}{q:List iv},(∀x∈xs,x∈st)->xX st m q->(m.map (·.1)).Nodup ->
  (conStep path xs m q).2.length+(N-(conStep path xs m q).1.length)<=q.length+(N-m.length)
 |[],m,q,_,_,_=>vE _
 |x::xs,m,q,hx,hg,hn=>by
  have hp:(iv.mk (path++[x.No]) x.iw).to∈st.map (·.iw):=List.mem_map_of_mem (hx x (kB ..))
  have h1:=Nx (w:=⟨path++[x.No],x.iw⟩) hg hn hp hN
  have h2:=D2 (path:=path) hN h8 (xs:=xs) (λy hy=>hx y (jC _ hy)) (wu hg hp (by simpa using h8)) (Lx hn)
  simp only[conStep]
  exact qM h2 h1
theorem Dj:∀{a b:List Int},a.Pairwise (·<·)->b.Pairwise (·<·)->(∀x∈a,x∈b)->a.Sublist b
 |[],b,_,_,_=>List.nil_sublist _
 |x::a,[],_,_,h=>absurd (h x (kB ..)) kA
 |x::a,y::b,ha,hb,h=>by
  obtain⟨a1,a2⟩:=List.pairwise_cons.1 ha
  obtain⟨b1,b2⟩:=List.pairwise_cons.1 hb
  by_cases e:x=y
  .subst e
   refine(Dj a2 b2 λz hz=>?_).cons_cons _
   grind
  .refine(Dj ha b2 λz hz=>?_).cons _
   rcases zE.1 (h z hz)with g|g
   .have hy:y<x:=by
     rcases zE.1 (h x (kB ..))with g2|g2
     .exact absurd g2 e
     .exact b1 x g2
    grind
   .exact g
def lastA(t ah:Int)(s:OSeat)(acc:Option aK)(y:aK):Option aK:=
 bif(decide (y.At<=t)&&decide (y.dU<=ah))&&((y.ep==s.aV)&&(y.cZ==s.bS))then(match acc with
  |none=>some y
  |some a=>bif decide (a.At<=y.At)then some y else some a)else acc
theorem M1(t ah:Int)(s:OSeat):∀(l:List aK)(m:List (OSeat×aK)),mget? (dc.L1 (λef=>ji ef t ah) jh dc.K1 l m) s=l.foldl (lastA t ah s) (mget? m s)
 |[],m=>rfl
 |y::l,m=>by
  have ih:=M1 t ah s l
  simp only[dc.L1,Wb]
  rw[Bool.cond_eq_ite]
  have hkey:(ji y t ah).1=vT y.ep y.cZ:=rfl
  have hcnt:(ji y t ah).2=(decide (y.At<=t)&&decide (y.dU<=ah)):=rfl
  rw[hkey,hcnt]
  by_cases hs:s=vT y.ep y.cZ
  .subst hs
   have e1:((y.ep==(vT y.ep y.cZ).aV)&&(y.cZ==(vT y.ep y.cZ).bS))=true:=by simp
   cases hc:(decide (y.At<=t)&&decide (y.dU<=ah))with
   |false=>
    rw[if_neg (by simp),ih]
    congr 1
    simp only[lastA,hc,Bool.false_and,cond_false]
   |true=>
    cases hm:mget? m (vT y.ep y.cZ)with
    |none=>
     have h1:mhas m (vT y.ep y.cZ)=false:=by unfold mhas;rw[hm];rfl
     rw[h1,if_pos (by simp),ih,ov,if_pos rfl]
     congr 1
     simp only[lastA,hc,e1,Bool.and_true,cond_true]
    |some a=>
     have h1:mhas m (vT y.ep y.cZ)=true:=by unfold mhas;rw[hm];rfl
     have h2:mgetD m (vT y.ep y.cZ) (aK.mk 0 0 0 0 0 0 false)=a:=by unfold mgetD;rw[hm];rfl
     rw[h1,h2]
     by_cases ha:a.At<=y.At
     .have h3:jh a y=false:=by simp[jh];omega
      rw[h3,if_pos (by simp),ih,ov,if_pos rfl]
      congr 1
      have:decide (a.At<=y.At)=true:=by simpa using ha
      simp only[lastA,hc,e1,Bool.and_true,cond_true,this]
     .have h3:jh a y=true:=by simp[jh];omega
      rw[h3,if_neg (by simp),ih,hm]
      congr 1
      have:decide (a.At<=y.At)=false:=by simpa using ha
      simp only[lastA,hc,e1,Bool.and_true,cond_true,this,cond_false]
  .have e1:((y.ep==s.aV)&&(y.cZ==s.bS))=false:=by
    rw[Bool.eq_false_iff]
    intro h
    simp only[zC,beq_iff_eq]at h
    exact hs (by cases s;simp only at h;rw[h.1,h.2])
   have e2:lastA t ah s (mget? m s) y=mget? m s:=by simp only[lastA,e1,Bool.and_false,cond_false]
   grind [ov]
def lastV(t ah:Int)(acc:Option aD)(y:aD):Option aD:=
 bif decide (y.At<=t)&&decide (y.dU<=ah)then(match acc with
  |none=>some y
  |some a=>bif decide (a.At<=y.At)then some y else some a)else acc
def FV(t ah:Int)(l:List aD):Option aD:=l.foldl (lastV t ah) none
structure VZ(f ah:Int)(pre:List aD)(b:Int)(m:List (Int×aD)):Prop where
 at_:∀a,FV f ah pre=some a->b=a.At
 no:FV f ah pre=none->b=-1
 beg:mget? m f=FV f ah pre
 has:∀t,f<t->(t∈m.map (·.1)↔∃y∈pre,y.At=t/\y.dU<=ah)
 get:∀t,f<t->t∈m.map (·.1)->∃v,mget? m t=some v/\FV t ah pre=some v/\v.At=t
 low:∀t,t∈m.map (·.1)->f<=t
theorem Tw(s:ByteArray):jY s=dW s:=by
 rw[jJ]
 refine⟨Pl,λh=>?_⟩
 unfold dW at h
 unfold jY
 rw[D3,K8]at h
 rw[Bool.cond_eq_ite]at h ⊢
 split at h
 .cases h
 .next hc=>
  simp only[kD,not_or,decide_eq_true_eq,Bool.not_eq_true]at hc
  obtain⟨⟨h1,h2⟩,h3⟩:=hc
  have hs:¬((s.size:Int)<1):=λhlt=>by
   have h9:=ye s
   have:s.toList=[]:=List.length_eq_zero_iff.1 (by omega)
   rw[this]at h1
   have e2:(⟨#[]⟩:ByteArray).toList=[]:=by
    have:=ye (⟨#[]⟩:ByteArray)
    exact List.length_eq_zero_iff.1 this
   rw[e2]at h1;simp at h1
  grind
theorem PN(s:ByteArray):oS s=ea s:=by
 rw[Kh];unfold oS;rw[Tw]
theorem Fs(l:List ByteArray):fx l=bN l ea:=by
 have key:∀(L l:List ByteArray)(i:Nat),fx.L1 L fx.K1 l i=bN.L1 L ea bN.K1 l i:=by
  intro L l
  induction l with
  |nil=>intros;rfl
  |cons y l ih=>intro i;simp only[fx.L1,bN.L1,PN,rindex,ih]
 exact key l l 0
theorem HI(off:List ByteArray)(x:aj):(∀z∈bx x 1,((!(dx z.x))||dg off z.x.Name)=true)->cx off x=true:=by
 refine aj.ind (P:=λx=>(∀z∈bx x 1,((!(dx z.x))||dg off z.x.Name)=true)->cx off x=true) ?_ x
 intro x ih h
 have h:=(sB (λy=>((!(dx y))||dg off y.Name)=true) x 1).1 h
 rw[MO]
 unfold cx.F
 have hx:=h.1
 unfold dx dg at hx
 rw[Bool.cond_eq_ite,if_neg]
 .have:∀l:List aj,(∀y∈l,cx off y=true)->cx.L1 cx off cx.K1 l=true:=by
   intro l
   induction l with
   |nil=>intro _;rfl
   |cons y l ih2=>
    intro hl
    simp only[cx.L1,hl y (kB ..),Bool.not_true,cond_false]
    grind
  grind
 .rw[rindex]
  grind
theorem Io{x:aj}(h:(bo x.Kind 1 4&&kindsP x.Kind x)=true)(h4:u=false->x.Kind≠4):aU.K1 x u=true:=by
 simp only[zC]at h
 have hb:1<=x.Kind/\x.Kind<=4:=by have:=h.1;simpa[bo]using this
 have hc:x.Kind=1\/x.Kind=2\/x.Kind=3\/x.Kind=4:=by omega
 have h2:=h.2
 unfold aU.K1
 rcases hc with e|e|e|e
 .rw[e]at h2 ⊢
  have h2:lS x=true:=h2
  grind [lS]
 .rw[e]at h2 ⊢
  have h2:lR x=true:=h2
  grind [lR,bo]
 .rw[e]at h2 ⊢
  have h2:lQ x=true:=h2
  unfold lQ bo at h2
  grind
 .have hu:u=true:=by
   grind
  subst hu
  rw[e]at h2 ⊢
  have h2:lg x=true:=h2
  unfold lg bo at h2
  grind
theorem Fk(u:Bool)(x:aj):(∀z∈bx x 1,(bo z.x.Kind 1 4&&kindsP z.x.Kind z.x)=true/\(u=false->z.x.Kind≠4))->aU x u=true:=by
 refine aj.ind (P:=λx=>(∀z∈bx x 1,(bo z.x.Kind 1 4&&kindsP z.x.Kind z.x)=true/\(u=false->z.x.Kind≠4))->aU x u=true) ?_ x
 intro x ih h
 have h:=(sB (λy=>(bo y.Kind 1 4&&kindsP y.Kind y)=true/\(u=false->y.Kind≠4)) x 1).1 h
 rw[Kj]
 unfold aU.F
 have:∀(k:Bool)(l:List aj),(∀y∈l,aU y u=true)->aU.L1 aU u k l=k:=by
  intro k l
  induction l with
  |nil=>intro _;rfl
  |cons y l ih2=>
   intro hl
   simp only[aU.L1,hl y (kB ..),Bool.not_true,cond_false]
   grind
 grind [Io]
theorem QG(l:List aj):∀a:Int,bR.L1 bR (λg=>g) l a=a\/∃y∈l,bR.L1 bR (λg=>g) l a=bR y:=by
 induction l with
 |nil=>intro a;exact .inl rfl
 |cons y l ih=>
  grind [bR.L1]
theorem IA(x:aj):x.dep<=1500000->∀d:Int,∃z∈bx x d,z.depth=d+bR x-1:=by
 refine aj.ind (P:=λx=>x.dep<=1500000->∀d:Int,∃z∈bx x d,z.depth=d+bR x-1) ?_ x
 intro x ih hx d
 have hd:=(Nt x hx).2
 rw[oU]
 rcases QG x.L 0 with h|⟨y,hy,h⟩
 .exact⟨⟨x,d⟩,kB ..,by rw[hd,h];show d=d+(0+1)-1;omega⟩
 .have hlt:=aj.lD hy
  obtain⟨z,hz,e⟩:=ih y hy (by omega) (d+1)
  grind
theorem Oh{x:aj}(hx:x.dep<=1500000)(h1:(bx x 1).length<=256)(h2:∀z∈bx x 1,z.depth<=16):lZ x=false:=by
 unfold lZ
 rw[Kv x 256 (by decide) (by decide)]
 obtain⟨z,hz,e⟩:=IA x hx 1
 grind [Bool.or_eq_false_iff,decide_eq_false_iff_not,cnt]
theorem Qe(off:List ByteArray)(x:aj):(∀z∈bx x 1,z.x.No=rno off z.x)->bK (av off x) x=true:=by
 refine aj.ind (P:=λx=>(∀z∈bx x 1,z.x.No=rno off z.x)->bK (av off x) x=true) ?_ x
 intro x ih h
 have h:=(sB (λy=>y.No=rno off y) x 1).1 h
 rw[Pd,EZ]
 unfold bK.F
 have e:(((((x.Kind != x.Kind)||(x.N != x.N))||(rno off x != x.No))||(!(x.Name.toList==x.Name.toList)))||(((x.L.map (av off)).length:Int) != (x.L.length:Int)))=false:=by simp[h.1]
 show(bif(((((x.Kind != x.Kind)||(x.N != x.N))||(rno off x != x.No))||(!(x.Name.toList==x.Name.toList)))||(((x.L.map (av off)).length:Int) != (x.L.length:Int)))then false else bK.L1 bK x bK.K1 (x.L.map (av off)) 0)=true
 rw[e,cond_false]
 have:∀(l pre:List aj),x.L=pre++l->bK.L1 bK x bK.K1 (l.map (av off)) pre.length=true:=by
  intro l
  induction l with
  |nil=>intro _ _;rfl
  |cons y l ih2=>
   intro pre hp
   have hy:nthI x.L (pre.length:Int)=y:=oV (by rw[hp];simp)
   have hm:y∈x.L:=by rw[hp];simp
   have:=ih2 (pre++[y]) (by rw[hp];simp)
   rw[vA,zA,zB,Nat.zero_add]at this
   simp only[vH,bK.L1,hy,ih y hm (h.2 y hm),Bool.not_true,cond_false]
   exact this
 exact this x.L [] rfl
theorem NV(l:List ByteArray):fT l l=true:=by
 have:∀(s pre:List ByteArray),l=pre++s->fT.L1 l fT.K1 s pre.length=true:=by
  intro s
  induction s with
  |nil=>intro _ _;rfl
  |cons y s ih=>
   intro pre hp
   have hy:nthI l (pre.length:Int)=y:=oV (by rw[hp];simp)
   have:=ih (pre++[y]) (by rw[hp];simp)
   rw[vA,zA,zB,Nat.zero_add]at this
   simp only[fT.L1,hy,beq_self_eq_true,Bool.not_true,cond_false]
   exact this
 unfold fT
 rw[bne_self_eq_false,cond_false]
 exact this l [] rfl
theorem GK(off:List ByteArray):∀(l:List ft)(i:Nat),(rrules off l i).length=l.length
 |[],_=>rfl
 |y::l,i=>by simp only[rrules,zA,GK off l]
theorem OG(hs:smP p)(h:dt p=0):ic p=0:=by
 obtain⟨h1,h2,h3⟩:=(D4 p).1 h
 obtain⟨s1,s2,s3⟩:=(vX p).1 h1
 obtain⟨⟨a1,a2,a3⟩,a4⟩:=(C8 p).1 s1
 obtain⟨⟨n1,n2,n3⟩,n4⟩:=(HH p).1 s2
 unfold bE bE.K1 bE.K2 at s3
 rw[sC,DT,Ge]at s3
 obtain⟨f1,f2,f3⟩:=s3
 simp only[zC,decide_eq_true_eq,beq_iff_eq,bo]at f1
 have hlen:(aE p).length=p.di.length+1:=by rw[ow];simp
 have hrule:∀r∈p.di,r.aj∈aE p:=λr hr=>Ir hr
 have hch:p.aQ∈aE p:=by rw[ow];simp
 have hdep:∀x∈aE p,x.dep<=1500000:=λx hx=>by
  rw[ow]at hx
  simp only[zG,zM,xC]at hx
  rcases hx with⟨r,hr,rfl⟩|rfl
  .exact hs.2.1 r hr
  .exact hs.2.2.1
 have hlarge:∀x∈aE p,lZ x=false:=λx hx=>Oh (hdep x hx) (a4 x hx).1 (a4 x hx).2
 have hT:fw p=false:=by
  unfold fw
  rw[Bool.cond_eq_ite,if_neg]
  .have:∀l:List ft,(∀r∈l,lZ r.aj=false)->fw.L1 fw.K1 l=false:=by
    intro l
    induction l with
    |nil=>intro _;rfl
    |cons y l ih=>
     intro hl
     simp only[fw.L1,hl y (kB ..),cond_false]
     exact ih λz hz=>hl z (jC _ hz)
   exact this p.di λr hr=>hlarge _ (hrule r hr)
  .simp only[kD,decide_eq_true_eq,not_or,hlarge _ hch,We,not_false_eq_true,and_true]
   omega
 have hN:iH p=true:=by
  unfold iH
  rw[PN,Fs,Fs,n1,n2,n3]
  simp only[Bool.not_true,Bool.or_self,cond_false]
  have:∀(k:Bool)(l:List ft),(∀r∈l,cx p.aB r.aj=true)->iH.L1 p k l=k:=by
   intro k l
   induction l with
   |nil=>intro _;rfl
   |cons y l ih=>
    intro hl
    simp only[iH.L1,hl y (kB ..),Bool.not_true,cond_false]
    exact ih λz hz=>hl z (jC _ hz)
  rw[this _ p.di λr hr=>HI p.aB _ (n4 _ (hrule r hr))]
  exact HI p.aB _ (n4 _ hch)
 have hget:∀(j:Nat)(r:ft),p.di[j]? = some r->(aE p)[j]? = some r.aj:=λj r hj=>by
  have hlt:=(List.getElem?_eq_some_iff.1 hj).1
  rw[ow,List.getElem?_append_left (by simpa using hlt),kV,hj];rfl
 have hgetc:(aE p)[p.di.length]? = some p.aQ:=by
  rw[ow,List.getElem?_append_right (by simp)];simp
 have hFm:gC p=true:=by
  unfold gC
  rw[Bool.cond_eq_ite,if_neg]
  .have:∀(l pre:List ft),p.di=pre++l->gC.L1 p (gC.K1 p) l pre.length=true:=by
    intro l
    induction l with
    |nil=>
     intro pre _
     refine Fk false _ λz hz=>?_
     obtain⟨q1,q2⟩:=f3 _ _ hgetc z hz
     refine⟨q1,λ_ he=>?_⟩
     rw[hlen,wrap64 (by omega),Nat.zero_add]at q2
     have e1:decide ((p.di.length:Int)<((p.di.length+1:Nat):Int)-1)=false:=decide_eq_false (by omega)
     rw[e1,Bool.false_or,he]at q2
     simp at q2
    |cons y l ih=>
     intro pre hp
     have hj:p.di[pre.length]? = some y:=by rw[hp];simp
     have q:=f2 pre.length y hj
     rw[Nat.zero_add]at q
     simp only[zC,bo,decide_eq_true_eq]at q
     have hfe:aU y.aj true=true:=Fk true _ λz hz=>⟨(f3 _ _ (hget _ _ hj) z hz).1,λhh=>by cases hh⟩
     have d1:decide (y.iK<0)=false:=by simp;omega
     have d2:decide (1099511627776<=y.iK)=false:=by simp;omega
     have:=ih (pre++[y]) (by rw[hp];simp)
     rw[vA,zA,zB,Nat.zero_add]at this
     simp only[gC.L1,q.1,d1,d2,hfe,Bool.not_true,Bool.or_self,cond_false]
     exact this
   exact this p.di [] rfl
  .simp only[kD,decide_eq_true_eq,bne_iff_ne,not_or,ne_eq,Decidable.not_not]
   omega
 have hRes:eh p=(aw.mk p.Name p.dQ p.aB (rrules p.aB p.di 0) (av p.aB p.aQ) p.Mode,0):=by
  unfold eh
  rw[hT,hN,hFm]
  simp only[cond_false,Bool.not_true]
  rw[CV,zF]
 have hsame:∀x,ck p.aB x=true->bK (av p.aB x) x=true:=λx hx=>by
  refine Qe p.aB x ?_
  unfold ck ck.K1 at hx
  exact(sN p.aB _).1 hx
 have hSame:jg (aw.mk p.Name p.dQ p.aB (rrules p.aB p.di 0) (av p.aB p.aQ) p.Mode) p=true:=by
  unfold jg
  rw[Bool.cond_eq_ite,if_neg]
  .have:∀(l pre:List ft),p.di=pre++l->jg.L1 p jg.K1 (rrules p.aB l pre.length) pre.length=true:=by
    intro l
    induction l with
    |nil=>intro _ _;rfl
    |cons y l ih=>
     intro pre hp
     have hy:nthI p.di (pre.length:Int)=y:=oV (by rw[hp];simp)
     have hj:p.di[pre.length]? = some y:=by rw[hp];simp
     obtain⟨g1,g2⟩:=h2 pre.length y hj
     have:=ih (pre++[y]) (by rw[hp];simp)
     rw[vA,zA,zB,Nat.zero_add]at this
     simp only[rrules,jg.L1,hy,hsame _ g2,g1,beq_self_eq_true,bne_self_eq_false,Bool.not_true,Bool.or_self,cond_false]
     exact this
   exact this p.di [] rfl
  .grind [rrules,NV,GK]
 unfold ic
 rw[hRes]
 dsimp only
 rw[hSame];rfl
theorem Jm{l:List aD}(hs:smV l)(h:bQ l=0):dZ l=0:=by
 have g:=(tj l).1 h
 have hlen:=g.len
 unfold dZ
 rw[Bool.cond_eq_ite,if_neg (by simp;omega)]
 have:∀(s pre:List aD),l=pre++s->dZ.L1 l dZ.K1 s pre.length=0:=by
  intro s
  induction s with
  |nil=>intro _ _;rfl
  |cons y s ih=>
   intro pre hp
   have hy:y∈l:=by rw[hp];simp
   obtain⟨q1,q2,q3,q4⟩:=g.each y hy
   have hlast:(decide (0<(pre.length:Int))&&decide (y.No<=(nthI l ((pre.length:Int)-1)).No))=false:=by
    rcases List.eq_nil_or_concat pre with rfl|⟨a,x,e⟩
    .rfl
    .rw[List.concat_eq_append]at e
     subst e
     have hx:nthI l (((a++[x]).length:Int)-1)=x:=by
      rw[show(((a++[x]).length:Int)-1)=(a.length:Int)from by simp]
      exact oV (by rw[hp];simp)
     have hi:=g.inc
     grind
   have:=ih (pre++[y]) (by rw[hp];simp)
   rw[vA,zA,zB,Nat.zero_add]at this
   simp only[dZ.L1,Bool.cond_eq_ite]
   rw[if_neg]
   .exact this
   .have hck:=OG (hs.2 y hy) q4
    simp only[kD,not_or,decide_eq_true_eq,zC,qF,Bool.not_eq_false,bne_iff_ne,ne_eq,Classical.not_not,fX,hck,and_true]
    grind
 exact this l [] rfl
theorem GS{B:Int->Bool}{k:Bool}{L:List Int}(hB:∀y∈L,B y=false)(hL:L.Pairwise (·<·))(hk:k=true):∀(l pre:List Int),L=pre++l->refLs B L k l pre.length=true
 |[],_,_=>hk
 |y::l,pre,h=>by
  have hlast:(decide (0<(pre.length:Int))&&decide (y<=nthI L ((pre.length:Int)-1)))=false:=by
   rcases List.eq_nil_or_concat pre with rfl|⟨a,x,e⟩
   .rfl
   .rw[List.concat_eq_append]at e
    subst e
    have hx:nthI L (((a++[x]).length:Int)-1)=x:=by
     rw[show(((a++[x]).length:Int)-1)=(a.length:Int)from by simp]
     exact oV (by rw[h];simp)
    grind
  have ih:=GS hB hL hk l (pre++[y]) (by rw[h];simp)
  rw[vA,zA,zB,Nat.zero_add]at ih
  have hy:y∈L:=by rw[h];simp
  simp only[refLs,hB y hy,hlast,Bool.or_self,cond_false]
  exact ih
theorem Co{l:List Int}(h:((∀x∈l,0<=x/\x<dJ)/\l.Pairwise (·<·))/\l.length<=16):ga l dJ=true:=by
 have e:∀(L l:List Int)i,ga.L1 L dJ (ga.K1 L) l i=refLs (λy=>decide (y<0)||decide (dJ<=y)) L (ga.K1 L) l i:=by
  intro L l
  induction l with
  |nil=>intro i;rfl
  |cons y l ih=>intro i;simp only[ga.L1,refLs,ih]
 unfold ga
 rw[e]
 refine GS (λy hy=>?_) h.1.2 ?_ l [] rfl
 all_goals grind [ga.K1,Bool.or_eq_false_iff,decide_eq_false_iff_not]
theorem Kk(no:Int):∀(l:List ao)(i:Nat),(l.any λd=>d.No==no)=true->0<=gF.L1 no gF.K1 l i
 |[],i,h=>by cases h
 |y::l,i,h=>by
  simp only[gF.L1,Bool.cond_eq_ite]
  split
  .omega
  .next hc=>
   rw[List.any_cons,Bool.eq_false_iff.2 hc,Bool.false_or]at h
   exact Kk no l (i+1) h
theorem Gu(L:List ao):∀nos:List Int,(∀x∈nos,(L.any λd=>d.No==x)=true)->fZ.L1 L fZ.K1 nos=true
 |[],_=>rfl
 |y::nos,h=>by
  have h1:=Kk y L 0 (h y (kB ..))
  have:decide (gF L y<0)=false:=by unfold gF;simp;omega
  simp only[fZ.L1,this,cond_false]
  exact Gu L nos λx hx=>h x (jC _ hx)
theorem Sk{L:List ao}(h:kl (aJ L) d=true):fZ L d.eX=true/\fZ L d.fm=true:=by
 have hs:=(Da L L 0 []).2
 have key:∀nos:List Int,et nos (λef=>iJ ef (aJ L))=false->fZ L nos=true:=by
  intro nos hn
  rw[containsF,List.any_eq_false]at hn
  refine Gu L nos λx hx=>?_
  have h1:=hn x hx
  unfold iJ at h1
  have e:mhas (aJ L).at_ x=(mhas [] x||L.any λd=>d.No==x):=hs x
  rw[e]at h1
  simpa[mhas,mget?]using h1
 unfold kl at h
 grind
theorem Iw(h:bh l=0):ek l=0:=by
 have L:∀(L l:List ao)(i:Nat),bh.L1 L bh.K1 l i=0->ek.L1 L ek.K1 l i=0:=by
  intro L l
  induction l with
  |nil=>intros;rfl
  |cons y l ih=>
   intro i h
   simp only[bh.L1,Bool.cond_eq_ite]at h
   split at h
   .omega
   .next hc=>
    simp only[kD,not_or,qF,Bool.not_eq_false,Bool.not_eq_true]at hc
    obtain⟨⟨c1,c2⟩,c3⟩:=hc
    obtain⟨t1,t2⟩:=Sk c3
    have hR:m7 y=true:=by
     simp only[mp,zC,decide_eq_true_eq,jk]at c1
     obtain⟨⟨⟨⟨⟨⟨⟨⟨⟨⟨⟨⟨p1,p2⟩,p3⟩,p4⟩,p5⟩,p6⟩,p7⟩,p8⟩,p9⟩,p10⟩,p11⟩,p12⟩,p13⟩:=c1
     unfold m7
     rw[Bool.cond_eq_ite,if_neg]
     .rw[Co ((Gb _ _).1 p11),Co ((Gb _ _).1 p12),Co ((Gb _ _).1 p13)]
      grind
     .simp only[oT,kD,decide_eq_true_eq,qF,Bool.and_eq_false_iff,decide_eq_false_iff_not,not_or]
      omega
    simp only[ek.L1,hR,c2,t1,t2,Bool.not_true,Bool.or_false,Bool.or_self,cond_false]
    exact ih (i+1) h
 grind [bh,ek]
theorem judge30{r:Register}(hs:smR r):dY r=0↔nB r=0:=by
 constructor
 .intro h
  obtain⟨d1,d2,d3,d4,d5,d6,d7⟩:=(lN r).1 h
  simp only[nB,(E5 r.dD).symm.trans d1,(DZ r.fR).symm.trans d2,(BY r.ej).symm.trans d3,(Bc r.dN).symm.trans d4,Jm hs.vers d5,Iw d6,(Cc r.dy).symm.trans d7]
  rfl
 .intro h
  obtain⟨c1,c2,c3,c4,c5,c6,c7⟩:=NB h
  exact(lN r).2 ⟨(E5 r.dD).trans c1,(DZ _).trans c2,(BY r.ej).trans c3,(Bc _).trans c4,NE hs.vers c5,Jj c6,(Cc _).trans c7⟩
theorem R3{α : Type}{f:α->Int}:∀{l:List α},l.Pairwise (λa b=>f a<f b)->∀{a b:α},a∈l->b∈l->f a=f b->a=b
 |[],_,_,_,ha,_,_=>(kA ha).elim
 |y::l,h,a,b,ha,hb,e=>by
  rw[List.pairwise_cons]at h
  rcases zE.1 ha with e1|ha2
  .grind
  .rcases zE.1 hb with e2|hb2
   .have:=h.1 a ha2;rw[e2]at e;omega
   .exact R3 h.2 ha2 hb2 e
def sKey(y:aF):dX:=dX.mk y.cZ y.iw y.Of
def sCnt(t ah:Int)(y:aF):Prop:=y.At<=t/\y.dU<=ah
def sOver(z w:aF):Prop:=z.At<w.At\/(w.At=z.At/\z.No<w.No)
structure VU(t ah:Int)(pre:List aF)(m:List (dX×aF)):Prop where
 some:∀k z,mget? m k=some z->z∈pre/\sKey z=k/\sCnt t ah z/\∀w∈pre,sKey w=k->sCnt t ah w->¬sOver z w
 none:∀k,mget? m k=none->∀w∈pre,sKey w=k->¬sCnt t ah w
structure ChL(l:List Int):Prop where
 inc:l.Pairwise (·<·)
 zero:∃l',l=0::l'
 tm:∀x∈l,0<=x/\x<1099511627776
theorem Qk{a b:List Int}(ha:a.Pairwise (·<·))(hb:b.Pairwise (·<·))(h:∀x,x∈a↔x∈b):a=b:=
 (Dj ha hb λx hx=>(h x).1 hx).eq_of_length_le (Dj hb ha λx hx=>(h x).2 hx).length_le
theorem Qc(l:List ao)(hd:d∈l):mhas (aJ l).at_ d.No=true:=by
 have:=(Da l l 0 []).2 d.No
 show mhas (aJ.L1 (aJ.K1 l) l 0 []).at_ d.No=true
 grind
theorem Kl{t:Int}(h:0<=t/\t<1099511627776):jk t=true:=by
 simp only[jk,zC,decide_eq_true_eq];exact h
theorem Fb{t:Int}(hc:bh l=0)(hs:cC l signed=true)(ht:0<=t/\t<1099511627776):(bA l signed t).2=0:=by
 unfold bA
 rw[hc,hs,Kl ht]
 simp only[bne_self_eq_false,cond_false,Bool.not_true,Bool.or_false]
 have:∀(s:List ao)(i:Nat)(g:List Int),(bA.L1 l signed t bA.K1 s i g).2=0:=by
  intro s
  induction s with
  |nil=>intro i g;rfl
  |cons y s ih=>intro i g;simp only[bA.L1,Bool.cond_eq_ite];split<;>exact ih _ _
 exact this _ _ _
theorem S2{t:Int}(hc:bh l=0)(hs:cC l signed=true)(ht:0<=t/\t<1099511627776)(hd:d∈l):(gL l signed d.No t).2.2=0:=by grind [gL,Kl,yq,Qc]
theorem Tz{f:ao->Bool}(hd:d∈l)(hf:f d=true):0<=ai l f/\ai l f<(l.length:Int):=by grind [ai,vA,zA,HS]
theorem RD(h:cC l signed=true):signed.length=l.length:=by
 simp only[cC,zC,beq_iff_eq]at h
 have:=h.1
 omega
section
variable {c:bU} (h:jo c)
include h
theorem jo.docs:bh c.Register.cj=0:=((lN _).1 h.chk).2.2.2.2.2.1
theorem Jk(hs:cC c.Register.cj signed=true):(bA c.Register.cj signed c.at_).2=0:=Fb h.docs hs h.time
theorem QH(hs:cC c.Register.cj signed=true)(hd:d∈c.Register.cj):(gL c.Register.cj signed d.No c.at_).2.2=0:=S2 h.docs hs h.time hd
theorem Kn(hs:cC c.Register.cj signed=true):0<=ai c.Register.cj (λef=>cA ef c)/\ai c.Register.cj (λef=>cA ef c)<(signed.length:Int):=by
 rw[RD hs]
 exact Tz h.ba (by simp[cA])
end
theorem IB:∀(xs out:List Int),out.Pairwise (·<·)->(∀a∈out,∀y∈xs,a<=y)->xs.Pairwise (·<=·) ->
  (xs.foldl compStep out).Pairwise (·<·)/\∀z,z∈xs.foldl compStep out↔z∈out\/z∈xs
 |[],out,h1,_,_=>⟨h1,λz=>by simp⟩
 |x::xs,out,h1,h2,h3=>by
  rw[List.pairwise_cons]at h3
  simp only[Wb]
  by_cases hx:out.getLast? = some x
  .have e:compStep out x=out:=by simp[compStep,hx]
   rw[e]
   obtain⟨a,b⟩:=IB xs out h1 (λa ha y hy=>h2 a ha y (jC _ hy)) h3.2
   grind
  .have e:compStep out x=out++[x]:=by simp[compStep,hx]
   rw[e]
   have hlt:∀a∈out,a<x:=by
    intro a ha
    have db:=h2 a ha x (kB ..)
    rcases Int.lt_or_eq_of_le db with h|h
    .exact h
    .exfalso
     subst h
     obtain⟨pre,post,hp⟩:=List.append_of_mem ha
     cases post with
     |nil=>exact hx (by rw[hp];simp)
     |cons p post=>
      rw[hp,List.pairwise_append]at h1
      have h4:=(List.pairwise_cons.1 h1.2.1).1 p (kB ..)
      have h5:=h2 p (by rw[hp];simp) a (kB ..)
      omega
   obtain⟨a,b⟩:=IB xs (out++[x]) (by
     rw[List.pairwise_append]
     exact⟨h1,List.pairwise_singleton _ _,λa ha y hy=>by rw[xC.1 hy];exact hlt a ha⟩) (λa ha y hy=>by
     rcases zG.1 ha with ha|ha
     .grind
     .rw[xC.1 ha];exact h3.1 y hy) h3.2
   grind
def setI(xs:List Int):List Int:=compI (sortI xs)
theorem Pc(xs:List Int):(setI xs).Pairwise (·<·)/\∀z,z∈setI xs↔z∈xs:=by
 obtain⟨a,b⟩:=IB (sortI xs) [] List.Pairwise.nil (λ_ h=>(kA h).elim) (pd xs)
 refine⟨a,λz=>(b z).trans ?_⟩
 rw[(nL xs).mem_iff]
 simp
theorem Qd{a xs:List Int}(h:a.Pairwise (·<·))(hm:∀z,z∈a↔z∈xs):a=setI xs:=by grind [Qk,Pc]
end Go.Sg
