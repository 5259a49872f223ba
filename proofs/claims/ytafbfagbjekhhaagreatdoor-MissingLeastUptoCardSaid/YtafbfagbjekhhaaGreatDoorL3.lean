import Derived.Test.YtafbfagbjekhhaaGreatDoorL2
/- A part of the proof of MissingLeast. -/
set_option linter.unusedVariables false
set_option linter.unusedSimpArgs false
set_option maxRecDepth 100000
open List renaming length_cons→zA,length_append→jA,not_mem_nil→kA,length_nil→zB,toArray→xB,mem_cons_self→vB,mem_cons_of_mem→xC,mem_singleton→jC,range→vD,mem_cons→kD,nil_append→vF,map_cons→kG,mem_append→qH,mem_map→qJ,nodup_cons→jR,getElem?_map→zW,mem_filter→WM,getElem?_of_mem→WW
open Go.IntKind renaming wrap→kB
open Bool renaming and_eq_true→qC,or_eq_true→zE,not_eq_true'→xF,eq_iff_iff→zM,false_eq_true→Xb
open Go.Value renaming int→zC,func→kQ
open Nat renaming le_refl→kE,zero_le→zH,le_trans→kL
open Go.Sg.Lack renaming mk→vT
open Go.Sg.OSeat renaming mk→xV
open Go.Sg.Budget renaming mk→Xo

namespace Go.Sg
variable {aT ah b e k n th:Int}{c u:Bool}{f:Unit->Except Int Unit}{hs:List (List bW)}{l:List aE}{m:List (Int×Bool)}{p:aw}{q:List iE}{s:ByteArray}{signed:List Int}{st:List aG}{w:iE}{x:Except Int Unit}{α:Type}
def nm(Vo:Int):(Except Int Unit):=(bif(Vo != 0)then(Except.error Vo)else(Except.ok ()))
def cQ.K1  : Int:=(-1)
def cQ.L1(f:(Int->Bool))(k:Int):List Int->Nat->Int
 |[],i1=>(k)
 |y1::rz1,i1=>(bif(f y1)then(i1:Int)else(cQ.L1 f k rz1 (i1+1)))
def cQ(s:List Int)(f:(Int->Bool)):Int:=((cQ.L1 f (cQ.K1)) s 0)
def eF(s:List Int)(f:(Int->Bool)):Bool:=decide (0<=(cQ s f))
def lk(gF:Int)(v0:Int):Bool:=(decide (gF<0)||decide (v0<gF))
def fM(most:Int)(l:List Int):Bool:=(!(eF l (λel=>lk el most)))
def lg(x:ay):Bool:=(((((fM 1048576 ([x.No]))&&(fM 1099511627775 ([x.At,x.dY])))&&(fM 4095 ([x.Doc])))&&(fM 63 ([x.By,x.For])))&&(fM 31 ([x.eD])))
def cj.K1(lG:Int):Int:=0
def cj.L1(k:Int->Int):List ay->Int->Int
 |[],lG=>(k lG)
 |y1::rz1,lG=>(bif((!(lg y1))||decide (y1.No<=lG))then 280 else(cj.L1  k rz1 y1.No))
def cj(l:List ay):Int:=(bif(decide (4096<(l.length:Int)))then 2 else((cj.L1 (cj.K1)) l (-1)))
def ij(gF:Int)(low:Int)(high:Int):Bool:=(decide (low<=gF)&&decide (gF<=high))
def i7(gF:Int):Bool:=(ij gF 0 31)
def kd(gF:Int):Bool:=(ij gF 0 63)
def fJ(gF:Int):Bool:=(ij gF 0 1099511627775)
def pO(x:aK):Bool:=(bif x.nj then((((((ij x.No 0 1048576)&&(fJ x.At))&&(fJ x.dY))&&(i7 x.eD))&&(kd x.cM))&&(ij x.gj 0 0))else((((((ij x.No 0 1048576)&&(fJ x.At))&&(fJ x.dY))&&(i7 x.eD))&&(kd x.cM))&&(ij x.gj 1 64)))
def dD.K1(lG:Int):Int:=0
def dD.L1(k:Int->Int):List aK->Int->Int
 |[],lG=>(k lG)
 |y1::rz1,lG=>(bif((!(pO y1))||decide (y1.No<=lG))then 150 else(dD.L1  k rz1 y1.No))
def dD(l:List aK):Int:=(bif(decide (4096<(l.length:Int)))then 2 else((dD.L1 (dD.K1)) l (-1)))
def eS(gF:Int)(low:Int)(high:Int):Bool:=(decide (low<=gF)&&decide (gF<=high))
def ld(gF:Int):Bool:=(eS gF 0 1099511627775)
def j0(gF:Int):Bool:=(eS gF 0 63)
def ph(x:bA):Bool:=(bif((((((((!(eS x.No 0 1048576))||(!(ld x.At)))||(!(ld x.dY)))||(!(j0 x.From)))||(!(j0 x.To)))||(x.From==x.To))||(!(eS x.eD 0 31)))||(!(eS x.Kind (-1) 15)))then false else(bif x.nj then((x.mX==0)&&(x.Ob==0))else((decide (x.At<x.mX)&&decide (x.mX<=1099511627776))&&(eS x.Ob 0 1099511627776))))
def dT.K1(lG:Int):Int:=0
def dT.L1(k:Int->Int):List bA->Int->Int
 |[],lG=>(k lG)
 |y1::rz1,lG=>(bif((!(ph y1))||decide (y1.No<=lG))then 160 else(dT.L1  k rz1 y1.No))
def dT(l:List bA):Int:=(bif(decide (4096<(l.length:Int)))then 2 else((dT.L1 (dT.K1)) l (-1)))
def fw(gF:Int)(dL:Int):Bool:=(decide (0<=gF)&&decide (gF<dL))
def oy(x:aG):Bool:=(bif x.Of then((((((fw x.No 1048577)&&(fw x.At 1099511627776))&&(fw x.dY 1099511627776))&&(fw x.iH 1048577))&&(fw x.cM 1048577))&&(x.cM != x.iH))else(((((fw x.No 1048577)&&(fw x.At 1099511627776))&&(fw x.dY 1099511627776))&&(fw x.iH 1048577))&&(fw x.cM 64)))
def du.K1(lG:Int):Int:=0
def du.L1(k:Int->Int):List aG->Int->Int
 |[],lG=>(k lG)
 |y1::rz1,lG=>(bif((!(oy y1))||decide (y1.No<=lG))then 290 else(du.L1  k rz1 y1.No))
def du(l:List aG):Int:=(bif(decide (4096<(l.length:Int)))then 2 else((du.L1 (du.K1)) l (-1)))
def lI(gF:Int)(v0:Int)(v1:Int):Bool:=(decide (gF<v0)||decide (v1<gF))
def cg(least:Int)(most:Int)(l:List Int):Bool:=(!(eF l (λel=>lI el least most)))
def mf(x:Budget):Bool:=(bif x.nj then((((((cg 0 1048576 ([x.No]))&&(cg 0 1099511627775 ([x.At,x.dY])))&&(cg (-1) 15 ([x.Kind])))&&(cg 1 1099511627776 ([x.e8])))&&(cg 0 0 ([x.Count])))&&(cg 0 0 ([x.Value])))else((((((cg 0 1048576 ([x.No]))&&(cg 0 1099511627775 ([x.At,x.dY])))&&(cg (-1) 15 ([x.Kind])))&&(cg 1 1099511627776 ([x.e8])))&&(cg 0 1048576 ([x.Count])))&&(cg 0 1099511627776 ([x.Value]))))
def bX.K1(lG:Int):Int:=0
def bX.L1(k:Int->Int):List Budget->Int->Int
 |[],lG=>(k lG)
 |y1::rz1,lG=>(bif((!(mf y1))||decide (y1.No<=lG))then 180 else(bX.L1  k rz1 y1.No))
def bX(l:List Budget):Int:=(bif(decide (4096<(l.length:Int)))then 2 else((bX.L1 (bX.K1)) l (-1)))
def bh(gF:Int)(low:Int)(high:Int):Bool:=(decide (low<=gF)&&decide (gF<=high))
def aQ.L2(k:List gG):List gG->List gG
 |[]=>k
 |y2::rz2=>(y2::(aQ.L2 k rz2))
def aQ.L3(k:List gG):List gG->List gG
 |[]=>k
 |y3::rz3=>(y3::(aQ.L3 k rz3))
def aQ.K1  : List gG:=[]
def aQ.L1(rec:aj->Int->List gG)(depth:Int)(k:List gG):List aj->List gG
 |[]=>(k)
 |y1::rz1=>((aQ.L3 ((aQ.L1 rec depth k rz1))) (rec y1 (depth+1)))
def aQ.F(rec:aj->Int->List gG)(x:aj)(depth:Int):List gG:=((gG.mk (aj.mk x.Kind x.N x.No x.Name x.L) depth)::((aQ.L1 rec depth (aQ.K1)) x.L))
def aQ.go:Nat->aj->Int->List gG
 |0=>λ_ _=>[]
 |m+1=>aQ.F (aQ.go m)
def bz(x:aj)(depth:Int):List gG:=aQ.go x.dep x depth
def fD(ok:Bool)(Vn:Int):(Except Int Unit):=(bif(!ok)then(Except.error Vn)else(Except.ok ()))
def aF.K1(p:aw)(SU:List aj):List aj:=(SU++[p.aO])
def aF.L1(k:List aj->List aj):List fC->List aj->List aj
 |[],SU=>(k SU)
 |y1::rz1,SU=>(aF.L1  k rz1 (SU++[y1.aj]))
def aF(p:aw):List aj:=((aF.L1 (aF.K1 p)) p.dp ([]))
def cI.L2(k:Int->(Except Int Unit)):List gG->Int->(Except Int Unit)
 |[],Gv=>k Gv
 |y2::rz2,Gv=>(exi (fD (decide ((kB .i64 (Gv+1))<=256)&&decide (y2.depth<=16)) 2) (λ_=>(cI.L2 k rz2 (kB .i64 (Gv+1)))))
def cI.L3(k:Int->(Except Int Unit)):List gG->Int->(Except Int Unit)
 |[],Gu=>k Gu
 |y3::rz3,Gu=>(exi (fD (decide ((kB .i64 (Gu+1))<=256)&&decide (y3.depth<=16)) 2) (λ_=>(cI.L3 k rz3 (kB .i64 (Gu+1)))))
def cI.K1  : (Except Int Unit):=(Except.ok ())
def cI.L1(k:(Except Int Unit)):List aj->(Except Int Unit)
 |[]=>(k)
 |y1::rz1=>((cI.L3 (λzg3_b3_0=>(cI.L1  k rz1))) (bz y1 1) 0)
def cI(p:aw):(Except Int Unit):=(exi (fD ((decide ((p.aA.length:Int)<=32)&&decide ((p.dN.length:Int)<=16))&&decide ((p.dp.length:Int)<=16)) 2) (λ_=>((cI.L1 (cI.K1)) (aF p))))
def dB(x:aj):Bool:=((x.Kind==1)||(x.Kind==2))
def lY(s:ByteArray)(c:Int):Int:=(idxByte s c)
def strings_IndexByte(s:ByteArray)(c:Int):Int:=(lY s c)
def lX(c:Int):Int:=(bif((decide (97<=c)&&decide (c<=122))||(decide (65<=c)&&decide (c<=90)))then 2 else(bif(decide (48<=c)&&decide (c<=57))then 3 else(bif(c==95)then 5 else(bif((((c==32)||(c==9))||(c==10))||(c==13))then 1 else(bif(decide (0<=(strings_IndexByte (⟨#[123,125,40,41,59,44,61,58,46,60,62,33,43,45,42,47]⟩:ByteArray) c)))then 4 else 0)))))
def dX.K1  : Bool:=true
def dX.L1(s:ByteArray)(k:Bool):List Nat->Nat->Bool
 |[],i1=>(k)
 |y1::rz1,i1=>(bif((((lX ((s.data.getD ((i1:Int):Int).toNat 0).toNat:Int)) != 2)&&((lX ((s.data.getD ((i1:Int):Int).toNat 0).toNat:Int)) != 3))&&((lX ((s.data.getD ((i1:Int):Int).toNat 0).toNat:Int)) != 5))then false else(dX.L1 s k rz1 (i1+1)))
def dX(s:ByteArray):Bool:=(bif(((s.toList==(⟨#[]⟩:ByteArray).toList)||decide (32<(s.size:Int)))||((lX ((s.data.getD (0:Int).toNat 0).toNat:Int)) != 2))then false else((dX.L1 s (dX.K1)) (vD s.size) 0))
def ec(s:ByteArray):Bool:=(bif(s.toList==(⟨#[112,111,108,105,99,121]⟩:ByteArray).toList)then(bif(s.toList==(⟨#[112,111,108,105,99,121]⟩:ByteArray).toList)then false else(dX s))else(bif(s.toList==(⟨#[109,111,100,101]⟩:ByteArray).toList)then(bif(s.toList==(⟨#[109,111,100,101]⟩:ByteArray).toList)then false else(dX s))else(bif(s.toList==(⟨#[111,108,100]⟩:ByteArray).toList)then(bif(s.toList==(⟨#[111,108,100]⟩:ByteArray).toList)then false else(dX s))else(bif(s.toList==(⟨#[110,101,119]⟩:ByteArray).toList)then(bif(s.toList==(⟨#[110,101,119]⟩:ByteArray).toList)then false else(dX s))else(bif(s.toList==(⟨#[98,111,116,104]⟩:ByteArray).toList)then(bif(s.toList==(⟨#[98,111,116,104]⟩:ByteArray).toList)then false else(dX s))else(bif(s.toList==(⟨#[101,105,116,104,101,114]⟩:ByteArray).toList)then(bif(s.toList==(⟨#[101,105,116,104,101,114]⟩:ByteArray).toList)then false else(dX s))else(bif(s.toList==(⟨#[111,102,102,105,99,101]⟩:ByteArray).toList)then(bif(s.toList==(⟨#[111,102,102,105,99,101]⟩:ByteArray).toList)then false else(dX s))else(bif(s.toList==(⟨#[107,105,110,100]⟩:ByteArray).toList)then(bif(s.toList==(⟨#[107,105,110,100]⟩:ByteArray).toList)then false else(dX s))else(bif(s.toList==(⟨#[114,117,108,101]⟩:ByteArray).toList)then(bif(s.toList==(⟨#[114,117,108,101]⟩:ByteArray).toList)then false else(dX s))else(bif(s.toList==(⟨#[116,104,105,110,107]⟩:ByteArray).toList)then(bif(s.toList==(⟨#[116,104,105,110,107]⟩:ByteArray).toList)then false else(dX s))else(bif(s.toList==(⟨#[99,104,97,110,103,101]⟩:ByteArray).toList)then(bif(s.toList==(⟨#[99,104,97,110,103,101]⟩:ByteArray).toList)then false else(dX s))else(bif(s.toList==(⟨#[115,111,109,101]⟩:ByteArray).toList)then(bif(s.toList==(⟨#[115,111,109,101]⟩:ByteArray).toList)then false else(dX s))else(bif(s.toList==(⟨#[119,101,105,103,104,116]⟩:ByteArray).toList)then(bif(s.toList==(⟨#[119,101,105,103,104,116]⟩:ByteArray).toList)then false else(dX s))else(bif(s.toList==(⟨#[111,102]⟩:ByteArray).toList)then(bif(s.toList==(⟨#[111,102]⟩:ByteArray).toList)then false else(dX s))else(bif(s.toList==(⟨#[117,112,116,111]⟩:ByteArray).toList)then(bif(s.toList==(⟨#[117,112,116,111]⟩:ByteArray).toList)then false else(dX s))else(bif(s.toList==(⟨#[101,108,115,101]⟩:ByteArray).toList)then false else(dX s)))))))))))))))))
def bB.K1  : Int:=(-1)
def bB.L1(v:ByteArray)(k:Int):List ByteArray->Nat->Int
 |[],i1=>(k)
 |y1::rz1,i1=>(bif(v.toList==y1.toList)then(i1:Int)else(bB.L1 v k rz1 (i1+1)))
def bB(s:List ByteArray)(v:ByteArray):Int:=((bB.L1 v (bB.K1)) s 0)
def bQ.K1  : Bool:=true
def bQ.L1(l:List ByteArray)(ok:(ByteArray->Bool))(k:Bool):List ByteArray->Nat->Bool
 |[],i1=>(k)
 |y1::rz1,i1=>(bif((!(ok y1))||((bB l y1) != (i1:Int)))then false else(bQ.L1 l ok k rz1 (i1+1)))
def bQ(l:List ByteArray)(ok:(ByteArray->Bool)):Bool:=((bQ.L1 l ok (bQ.K1)) l 0)
def dq(s:List ByteArray)(v:ByteArray):Bool:=decide (0<=(bB s v))
def cJ.L2(p:aw)(k:(Except Int Unit)):List gG->(Except Int Unit)
 |[]=>k
 |y2::rz2=>(exi (fD ((!(dB y2.x))||(dq p.aA y2.x.Name)) 201) (λ_=>(cJ.L2 p k rz2)))
def cJ.L3(p:aw)(k:(Except Int Unit)):List gG->(Except Int Unit)
 |[]=>k
 |y3::rz3=>(exi (fD ((!(dB y3.x))||(dq p.aA y3.x.Name)) 201) (λ_=>(cJ.L3 p k rz3)))
def cJ.K1  : (Except Int Unit):=(Except.ok ())
def cJ.L1(p:aw)(k:(Except Int Unit)):List aj->(Except Int Unit)
 |[]=>(k)
 |y1::rz1=>((cJ.L3 p ((cJ.L1 p k rz1))) (bz y1 1))
def cJ(p:aw):(Except Int Unit):=(exi (fD (((ec p.Name)&&(bQ p.aA ec))&&(bQ p.dN ec)) 201) (λ_=>((cJ.L1 p (cJ.K1)) (aF p))))
def sd(x0:aj):Bool:=false
def lV(x:aj):Bool:=((x.N==0)&&((x.L.length:Int)==0))
def lU(x:aj):Bool:=((bh x.N 1 4096)&&((x.L.length:Int)==0))
def lT(x:aj):Bool:=(((x.Name.toList==(⟨#[]⟩:ByteArray).toList)&&(bh (x.L.length:Int) 1 16))&&(bh x.N 1 (x.L.length:Int)))
def lm(x:aj):Bool:=(((x.Name.toList==(⟨#[]⟩:ByteArray).toList)&&((x.L.length:Int)==2))&&(bh x.N 0 1099511627776))
def kindsP(i:Int)(x:aj):Bool:=if i=0 then sd x else if i=1 then lV x else if i=2 then lU x else if i=3 then lT x else lm x
def bC.L3(p:aw)(k:(Except Int Unit)):List gG->(Except Int Unit)
 |[]=>k
 |y3::rz3=>(exi (fD ((bh y3.x.Kind 1 4)&&(kindsP y3.x.Kind y3.x)) 200) (λ_=>(exi (fD (decide (0<(kB .i64 (((aF p).length:Int)-1)))||(y3.x.Kind != 4)) 200) (λ_=>(bC.L3 p k rz3)))))
def bC.L4(p:aw)(i2:Nat)(k:(Except Int Unit)):List gG->(Except Int Unit)
 |[]=>k
 |y4::rz4=>(exi (fD ((bh y4.x.Kind 1 4)&&(kindsP y4.x.Kind y4.x)) 200) (λ_=>(exi (fD (decide ((i2:Int)<(kB .i64 (((aF p).length:Int)-1)))||(y4.x.Kind != 4)) 200) (λ_=>(bC.L4 p i2 k rz4)))))
def bC.K2  : (Except Int Unit):=(Except.ok ())
def bC.L2(p:aw)(k:(Except Int Unit)):List aj->Nat->(Except Int Unit)
 |[],i2=>(k)
 |y2::rz2,i2=>((bC.L4 p i2 ((bC.L2 p k rz2 (i2+1)))) (bz y2 1))
def bC.K1(p:aw):(Except Int Unit):=((bC.L2 p (bC.K2)) (aF p) 0)
def bC.L1(p:aw)(k:(Except Int Unit)):List fC->Nat->(Except Int Unit)
 |[],i1=>(k)
 |y1::rz1,i1=>(exi (fD ((y1.Kind.toList==(nthI p.dN (i1:Int)).toList)&&(bh y1.iV 0 1099511627775)) 200) (λ_=>(bC.L1 p k rz1 (i1+1))))
def bC(p:aw):(Except Int Unit):=(exi (fD ((decide (0<(p.dN.length:Int))&&((p.dp.length:Int)==(p.dN.length:Int)))&&(bh p.Mode 1 4)) 200) (λ_=>((bC.L1 p (bC.K1 p)) p.dp 0)))
def fj(p:aw):(Except Int Unit):=(exi (cI p) (λ_=>(exi (cJ p) (λ_=>(exi (bC p) (λ_=>(Except.ok ())))))))
def aB.K1(aC:List ByteArray)(x:aj)(od:List aj):aj:=(aj.mk x.Kind x.N (bB aC x.Name) x.Name od)
def aB.L1(rec:List ByteArray->aj->aj)(aC:List ByteArray)(k:List aj->aj):List aj->List aj->aj
 |[],od=>(k od)
 |y1::rz1,od=>(aB.L1 rec aC k rz1 (od++[(rec aC y1)]))
def aB.K2(x:aj)(oa:List aj):aj:=(aj.mk x.Kind x.N 0 x.Name oa)
def aB.L2(rec:List ByteArray->aj->aj)(aC:List ByteArray)(k:List aj->aj):List aj->List aj->aj
 |[],oa=>(k oa)
 |y2::rz2,oa=>(aB.L2 rec aC k rz2 (oa++[(rec aC y2)]))
def aB.F(rec:List ByteArray->aj->aj)(aC:List ByteArray)(x:aj):aj:=(bif(dB (aj.mk x.Kind x.N 0 x.Name x.L))then((aB.L1 rec aC (aB.K1 aC x)) x.L ([]))else((aB.L2 rec aC (aB.K2 x)) x.L ([])))
def aB.go:Nat->List ByteArray->aj->aj
 |0=>λ_ _=>default
 |m+1=>aB.F (aB.go m)
def aB(aC:List ByteArray)(x:aj):aj:=aB.go x.dep aC x
def eH.K1(p:aw)(oT:List fC):(aw×Int):=((aw.mk p.Name p.dN p.aA oT (aj.mk ((aB p.aA p.aO).Kind) ((aB p.aA p.aO).N) ((aB p.aA p.aO).No) ((aB p.aA p.aO).Name) ((aB p.aA p.aO).L)) p.Mode),0)
def eH.L1(p:aw)(k:List fC->(aw×Int)):List fC->Nat->List fC->(aw×Int)
 |[],i1,oT=>(k oT)
 |y1::rz1,i1,oT=>(eH.L1 p k rz1 (i1+1) (oT++[(fC.mk y1.Kind (i1:Int) y1.iV (aj.mk ((aB p.aA y1.aj).Kind) ((aB p.aA y1.aj).N) ((aB p.aA y1.aj).No) ((aB p.aA y1.aj).Name) ((aB p.aA y1.aj).L)))]))
def eH(p:aw):(aw×Int):=(bif((attR (fj p)) != 0)then((aw.mk (⟨#[]⟩:ByteArray) ([]) ([]) ([]) (aj.mk 0 0 0 (⟨#[]⟩:ByteArray) ([])) 0),(attR (fj p)))else((eH.L1 p (eH.K1 p)) p.dp 0 ([])))
def cm.K1  : Bool:=true
def cm.L1(aC:List ByteArray)(k:Bool):List gG->Bool
 |[]=>k
 |y1::rz1=>(bif(dB y1.x)then(bif(y1.x.No != (bB aC y1.x.Name))then false else(cm.L1 aC k rz1))else(bif(y1.x.No != 0)then false else(cm.L1 aC k rz1)))
def cm(aC:List ByteArray)(x:aj):Bool:=((cm.L1 aC (cm.K1)) (bz x 1))
def dh.K1(p:aw):Int:=(bif(!(cm p.aA p.aO))then 200 else 0)
def dh.L1(p:aw)(k:Int):List fC->Nat->Int
 |[],i1=>(k)
 |y1::rz1,i1=>(bif((y1.Bl != (i1:Int))||(!(cm p.aA y1.aj)))then 200 else(dh.L1 p k rz1 (i1+1)))
def dh(p:aw):Int:=(bif((eH p).2 != 0)then(eH p).2 else((dh.L1 p (dh.K1 p)) p.dp 0))
def bR.K1(lG:Int):Int:=0
def bR.L1(k:Int->Int):List aE->Int->Int
 |[],lG=>(k lG)
 |y1::rz1,lG=>(bif((((!(bh y1.No (kB .i64 (lG+1)) 1048576))||(!(bh y1.At 0 1099511627775)))||(!(bh y1.dY 0 1099511627775)))||((dh y1.aw) != 0))then 200 else(bR.L1  k rz1 y1.No))
def bR(l:List aE):Int:=(bif(decide (256<(l.length:Int)))then 2 else((bR.L1 (bR.K1)) l (-1)))
def aJ.K1(l:List ao)(ck:List (Int×Int)):iq:=(iq.mk l ck)
def aJ.L1(k:(List (Int×Int))->iq):List ao->Nat->(List (Int×Int))->iq
 |[],i1,ck=>(k ck)
 |y1::rz1,i1,ck=>(aJ.L1  k rz1 (i1+1) (mput ck y1.No (i1:Int)))
def aJ(l:List ao):iq:=((aJ.L1 (aJ.K1 l)) l 0 ([]))
def jt(t:Int):Bool:=(decide (0<=t)&&decide (t<1099511627776))
def fx.K1(l:List Int)(fg:Int):Bool:=decide ((l.length:Int)<=16)
def fx.L1(dL:Int)(k:Int->Bool):List Int->Int->Bool
 |[],fg=>(k fg)
 |y1::rz1,fg=>(bif(decide (y1<=fg)||decide (dL<=y1))then false else(fx.L1 dL k rz1 y1))
def fx(l:List Int)(dL:Int):Bool:=((fx.L1 dL (fx.K1 l)) l (-1))
def mB(d:ao):Bool:=((((((((((((decide (0<=d.No)&&decide (d.No<4096))&&(jt d.At))&&decide (0<=d.Kind))&&decide (d.Kind<16))&&decide (0<=d.Value))&&decide (d.Value<=1099511627776))&&decide (0<=d.From))&&decide (d.From<d.mX))&&decide (d.mX<=1099511627776))&&(fx d.lh 1048577))&&(fx d.fe d.No))&&(fx d.fp d.No))
def iU(no:Int)(v0:iq):Bool:=(!(mhas v0.at_ no))
def kt(s:iq)(d:ao):Bool:=((!(eF d.fe (λel=>iU el s)))&&(!(eF d.fp (λel=>iU el s))))
def aZ.K1  : Int:=0
def aZ.L1(l:List ao)(k:Int):List ao->Nat->Int
 |[],i1=>(k)
 |y1::rz1,i1=>(bif(((!(mB y1))||(decide (0<(i1:Int))&&decide (y1.No<=(nthI l ((i1:Int)-1)).No)))||(!(kt (aJ l) y1)))then 170 else(aZ.L1 l k rz1 (i1+1)))
def aZ(l:List ao):Int:=(bif(decide (4096<(l.length:Int)))then 2 else((aZ.L1 l (aZ.K1)) l 0))
def dM.K1  : Int:=0
def dM.L1(cK:Register)(k:Int):List Nat->Nat->Int
 |[],i1=>(k)
 |y1::rz1,i1=>(bif((nthI ([(dD cK.dF),(dT cK.ga),(du cK.er),(bX cK.dH),(bR cK.Versions),(aZ cK.cd),(cj cK.dC)]) (i1:Int)) != 0)then 300 else(dM.L1 cK k rz1 (i1+1)))
def dM(cK:Register):Int:=((dM.L1 cK (dM.K1)) (vD 7) 0)
def mj(t:Int):Bool:=((t != (-1))&&(!(jt t)))
def cD(l:List ao)(signed:List Int):Bool:=(((signed.length:Int)==(l.length:Int))&&(!(eF signed mj)))
def ii.K1(lG:Int):Int:=lG
def ii.L1(k:Int->Int):List Int->Int->Int
 |[],lG=>(k lG)
 |y1::rz1,lG=>(ii.L1  k rz1 (min lG y1))
def ii(x:List Int):Int:=((ii.L1 (ii.K1)) (x.drop 1) (nthI x 0))
def cZ(p:fh)(sD:Int)(bq:Int):(Int×Int):=(bif(!(nthI p.done sD))then(1,(-1))else(bif(decide (0<=(nthI p.lacks sD)))then(4,(nthI p.lacks sD))else(bif(decide (0<(((mgetD p.revoked ((nthI p.shelf.docs sD).No) []).length:Nat):Int)))then(5,(ii (mgetD p.revoked ((nthI p.shelf.docs sD).No) [])))else(bif(decide (bq<(nthI p.shelf.docs sD).From))then(2,(-1))else(bif(decide ((nthI p.shelf.docs sD).mX<=bq))then(3,(-1))else(0,(-1)))))))
def insIn(cmp:Int->Int->Int):Nat->List Int->List Int
 |0,xs=>xs
 |j+1,xs=>bif decide (cmp (xs.getD (j+1) 0) (xs.getD j 0)<0)then insIn cmp j ((xs.set (j+1) (xs.getD j 0)).set j (xs.getD (j+1) 0))else xs
def insOut(cmp:Int->Int->Int):Nat->Nat->List Int->List Int
 |0,_,xs=>xs
 |m+1,i,xs=>insOut cmp m (i+1) (insIn cmp i xs)
def fS(xs:List Int)(cmp:Int->Int->Int):List Int:=insOut cmp (xs.length-1) 1 xs
def cmp_isNaN_int(x:Int):Bool:=(x != x)
def cmp_Compare_int(x:Int)(y:Int):Int:=(bif(cmp_isNaN_int x)then(bif(cmp_isNaN_int y)then 0 else(-1))else(bif(cmp_isNaN_int y)then 1 else(bif(decide (x<y))then(-1)else(bif(decide (y<x))then 1 else 0))))
def kl(a:Int)(ky:Int)(p:tG):Int:=(cmp_Compare_int (nthI p.signed a) (nthI p.signed ky))
def dx.K1  : List Int:=[]
def dx.L1(k:List Int):List Int->List Int
 |[]=>(k)
 |y1::rz1=>(y1::(dx.L1  k rz1))
def dx(v0:List Int):List Int:=((dx.L1 (dx.K1)) v0)
def m8(s:List Int):List Int:=(dx s)
def bY.K1(p:tG)(fg:List Int):List Int:=(m8 (fS fg (λel Eo=>kl el Eo p)))
def bY.L1(lu:Int)(k:List Int->List Int):List Int->Nat->List Int->List Int
 |[],i1,fg=>(k fg)
 |y1::rz1,i1,fg=>(bif(decide (0<=y1)&&decide (y1<=lu))then(bY.L1 lu k rz1 (i1+1) (fg++[(i1:Int)]))else(bY.L1 lu k rz1 (i1+1) fg))
def bY(p:tG)(lu:Int):List Int:=((bY.L1 lu (bY.K1 p)) p.signed 0 ([]))
def backL(s:List Int):Nat->List (Int×Int)
 |0=>[]
 |m+1=>((m:Int),nthI s (m:Int))::backL s m
def kz(v0:List Int):List (Int×Int):=backL v0 v0.length
def mD(s:List Int):(List (Int×Int)):=(kz s)
abbrev FRi:=FRg Rp.int 3
def playP(l:List ao)(sg:List Int):fh:=⟨aJ l,sg,List.replicate l.length false,List.replicate l.length 0,[]⟩
def playR(n:Nat)(sq:rM)(sb:Option Addr)(sc:Nat)(b5 b8 b9:Nat):vO:=⟨sq,sb,sc,some ⟨b5,0,none⟩,n,some ⟨b8,0,none⟩,n,b9⟩
def plL(b c d f t:Bool)(B5 B8 B9 B12 B11:Nat×Obj):LH:=
 (bif t then[B11]else[])++((bif f then[B12]else[])++((bif d then[B9]else[])++((bif c then[B8]else[])++(bif b then[B5]else[]))))
def plD(a b c d f g t:Bool):List Nat:=
 (bif t then[11]else[])++((bif g then[10]else[])++((bif f then[12]else[])++((bif d then[9]else[])++((bif c then[8]else[])++((bif b then[5]else[])++((bif a then[1]else[])++[7,6,4,3,2,0]))))))
def plM(a b c d f g t:Bool):Nat:=(bif a then 0 else 1)+(bif b then 0 else 1)+(bif c then 0 else 1)+(bif d then 0 else 1)+(bif f then 0 else 1)+(bif g then 0 else 1)+(bif t then 0 else 1)
def PlI(h:HF)(l:List ao)(lb:Option Addr)(lc:Nat)(sg:List Int)(sb:Option Addr)(sc:Nat)(at_:Int)(q4:Addr)(a b c d f g t:Bool)(e:Env)(h':HF)(L:LH):Prop:=
 ((!g||(a&&b&&c&&d))&&(!t||g))=true/\h.le h'/\(e 2=.int .i64 at_/\e 4=.pointer (some q4)/\e 16=.slice lb l.length lc/\e 18=.slice sb sg.length sc/\e 20=.int .i64 (l.length:Int)/\e 23=.int .i64 (l.length:Int)) /\
 ∃(sq:rM)(b5 b8 b9 b12 b11:Nat),(a=true->e 17=.agg (iq.cells (aJ l) sq).toArray/\iq.ok h' (aJ l) sq)/\(b=true->e 21=.slice (some ⟨b5,0,none⟩) l.length l.length) /\
  (c=true->e 24=.slice (some ⟨b8,0,none⟩) l.length l.length)/\(d=true->e 25=.map (some b9))/\(f=true->e 7=.pointer (some ⟨b12,0,none⟩))/\(g=true->e 26=.agg (fh.cells (playP l sg) (playR l.length sq sb sc b5 b8 b9)).toArray)/\(t=true->e 27=.pointer (some ⟨b11,0,none⟩)) /\
  L.Perm (plL b c d f t (b5,.cells (List.replicate l.length (.bool false)).toArray 4 (0,0)) (b8,.cells (List.replicate l.length (.int .i64 0)).toArray 3 (0,0)) (b9,.map #[] 0) (b12,.cells (xB [.pointer none]) 150 (0,0)) (b11,.cells (fh.cells (playP l sg) (playR l.length sq sb sc b5 b8 b9)).toArray 215 (0,0)))
def plN(a b c d f g t:Bool):List Nat:=
 (bif a then[]else[1])++((bif b then[]else[5])++((bif c then[]else[8])++((bif d then[]else[9])++((bif a&&b&&c&&d&&!g then[10]else[])++((bif g&&!t then[11]else[])++((bif f then[]else[12])++(bif a&&b&&c&&d&&f&&g&&t then[13]else[])))))))
def playLack(sg:List Int)(i:Int)(p:fh)(no:Int):fh:=bif(cZ p (mgetD p.shelf.at_ no 0) (nthI sg i)).1 != 0 then { p with lacks:=p.lacks.set i.toNat no }else p
def playRevoke(d:ao)(p:fh)(no:Int):fh:={ p with revoked:=mput p.revoked no (mgetD p.revoked no []++[d.No]) }
def playMid(p:fh)(i:Int):fh:=(mD (nthI p.shelf.docs i).fp).foldl (λq x=>playLack p.signed i q x.2) { p with lacks:=p.lacks.set i.toNat (-1) }
def playDone(p:fh)(i:Int):fh:={ p with done:=p.done.set i.toNat true }
def playStep(p:fh)(i:Int):fh:=
 bif decide (nthI (playMid p i).lacks i<0)then(nthI p.shelf.docs i).fe.foldl (playRevoke (nthI p.shelf.docs i)) (playDone (playMid p i) i)else playDone (playMid p i) i
def cG(l:List ao)(signed:List Int)(at_:Int):fh:=(bY (playP l signed) at_).foldl playStep (playP l signed)
structure zg(h:HF)(n b5 b8 br:Nat)(P:fh)(om:Obj)(m3:List (Int×Option Addr×Nat×Nat))(Gf:LH):Prop where
 done:P.done.length=n
 lacks:P.lacks.length=n
 map:lr (zC .i64) V3 h om m3
 rev:FRi h m3 P.revoked Gf
def plB(b5 b8 br:Nat)(P:fh)(om:Obj)(Gf:LH):LH:=
 [(b5,.cells (P.done.map Value.bool).toArray 4 (0,0)),(b8,.cells (P.lacks.map (zC .i64)).toArray 3 (0,0)),(br,om)]++Gf
def bD.K1(uo:List Int):(List Int×Int):=(uo,0)
def bD.L1(l:List ao)(signed:List Int)(bq:Int)(k:List Int->(List Int×Int)):List ao->Nat->List Int->(List Int×Int)
 |[],i1,uo=>(k uo)
 |y1::rz1,i1,uo=>(bif((cZ (cG l signed bq) (i1:Int) bq).1==0)then(bD.L1 l signed bq k rz1 (i1+1) (uo++[y1.No]))else(bD.L1 l signed bq k rz1 (i1+1) uo))
def bD(l:List ao)(signed:List Int)(bq:Int):(List Int×Int):=(bif((aZ l) != 0)then([],(aZ l))else(bif((!(cD l signed))||(!(jt bq)))then([],1)else((bD.L1 l signed bq (bD.K1)) l 0 ([]))))
def iC.K1(aX:List (Int×Bool)):Bool:=true
def iC.L1(k:(List (Int×Bool))->Bool):List Use->(List (Int×Bool))->Bool
 |[],aX=>(k aX)
 |y1::rz1,aX=>(bif(((((mgetD aX y1.Doc false)||(!(cg 0 4095 ([y1.Doc]))))||(!(cg 0 15 ([y1.Kind]))))||(!(cg 0 1099511627776 ([y1.Value]))))||(!(cg 0 1099511627775 ([y1.At,y1.dY]))))then false else(iC.L1  k rz1 (mput aX y1.Doc true)))
def iC(u:List Use):Bool:=((iC.L1 (iC.K1)) u ([]))
def ba.K2(mG:List Budget):List Budget:=mG
def ba.L2(aX:List (gl×Budget))(k:List Budget->List Budget):List Budget->List Budget->List Budget
 |[],mG=>(k mG)
 |y2::rz2,mG=>(bif((!y2.nj)&&(decide ((mgetD aX (gl.mk y2.Kind y2.e8) (Xo 0 0 0 0 0 0 0 false))=y2)))then(ba.L2 aX k rz2 (mG++[y2]))else(ba.L2 aX k rz2 mG))
def ba.K1(l:List Budget)(aX:List (gl×Budget)):List Budget:=((ba.L2 aX (ba.K2)) l ([]))
def ba.L1(kind:Int)(bq:Int)(ah:Int)(k:(List (gl×Budget))->List Budget):List Budget->(List (gl×Budget))->List Budget
 |[],aX=>(k aX)
 |y1::rz1,aX=>(bif((decide (bq<y1.At)||decide (ah<y1.dY))||((y1.Kind != (-1))&&(y1.Kind != kind)))then(ba.L1 kind bq ah k rz1 aX)else(bif((!(mhas aX (gl.mk y1.Kind y1.e8)))||decide ((mgetD aX (gl.mk y1.Kind y1.e8) (Xo 0 0 0 0 0 0 0 false)).At<=y1.At))then(ba.L1 kind bq ah k rz1 (mput aX (gl.mk y1.Kind y1.e8) y1))else(ba.L1 kind bq ah k rz1 aX)))
def ba(l:List Budget)(kind:Int)(bq:Int)(ah:Int):List Budget:=((ba.L1 kind bq ah (ba.K1 l)) l ([]))
def ej.K1  : List Int:=[]
def ej.L1(ah:Int)(bg:Budget)(at_:Int)(k:List Int):List Use->List Int
 |[]=>(k)
 |y1::rz1=>(bif((decide (y1.dY<=ah)&&((bg.Kind==(-1))||(bg.Kind==y1.Kind)))&&((kB .i64 (y1.At.tdiv bg.e8))==(kB .i64 (at_.tdiv bg.e8))))then(y1.Value::(ej.L1 ah bg at_ k rz1))else(ej.L1 ah bg at_ k rz1))
def ej(u:List Use)(ah:Int)(bg:Budget)(at_:Int):List Int:=((ej.L1 ah bg at_ (ej.K1)) u)
def ut(Ma:Budget)(u:List Use)(bq:Int)(ah:Int):List Int:=(ej u ah Ma bq)
def bM.L2(k:Int->Int->(Int×Bool×Int)):List Int->Int->Int->(Int×Bool×Int)
 |[],LG,LI=>k LG LI
 |y2::rz2,LG,LI=>(bM.L2 k rz2 (kB .i64 (LG+y2)) (kB .i64 (LI+1)))
def bM.L3(k:Int->Int->(Int×Bool×Int)):List Int->Int->Int->(Int×Bool×Int)
 |[],sE,LF=>k sE LF
 |y3::rz3,sE,LF=>(bM.L3 k rz3 (kB .i64 (sE+y3)) (kB .i64 (LF+1)))
def bM.K1  : (Int×Bool×Int):=((-1),true,0)
def bM.L1(u:List Use)(value:Int)(cy:Int)(ah:Int)(k:(Int×Bool×Int)):List Budget->(Int×Bool×Int)
 |[]=>(k)
 |y1::rz1=>((bM.L3 (λzg3_b6_0 zg3_b5_0=>(bif(decide (y1.Count<zg3_b5_0)||decide (y1.Value<zg3_b6_0))then(y1.No,false,0)else(bM.L1 u value cy ah k rz1)))) (ut y1 u cy ah) value 1)
def bM(l:List Budget)(u:List Use)(kind:Int)(value:Int)(cy:Int)(ah:Int):(Int×Bool×Int):=(bif((bX l) != 0)then(0,false,(bX l))else(bif(decide (4096<(u.length:Int)))then(0,false,2)else(bif(!(iC u))then(0,false,180)else(bif(((!(cg 0 15 ([kind])))||(!(cg 0 1099511627776 ([value]))))||(!(cg 0 1099511627775 ([cy,ah]))))then(0,false,1)else((bM.L1 u value cy ah (bM.K1)) (ba l kind cy ah))))))
def ai.K1  : Int:=(-1)
def ai.L1(f:(ao->Bool))(k:Int):List ao->Nat->Int
 |[],i1=>(k)
 |y1::rz1,i1=>(bif(f y1)then(i1:Int)else(ai.L1 f k rz1 (i1+1)))
def ai(s:List ao)(f:(ao->Bool)):Int:=((ai.L1 f (ai.K1)) s 0)
def bI(d:ao)(v0:Int):Bool:=(d.No==v0)
def n0(cK:Register)(aV:Int)(bq:Int)(ah:Int):(Except Int bU):=(bif((decide ((ai cK.cd (λel=>bI el aV))<0)||decide ((min bq ah)<0))||decide (1099511627776<=(max bq ah)))then(Except.error 1)else(Except.ok (bU.mk cK (nthI cK.cd (ai cK.cd (λel=>bI el aV))) bq ah)))
def cA(d:ao)(v0:bU):Bool:=(d.No==v0.aV.No)
def kX(s:List ao)(f:(ao->Bool)):Bool:=decide (0<=(ai s f))
def jx.K1  : Int:=(-1)
def jx.L1(v:Int)(k:Int):List Int->Nat->Int
 |[],i1=>(k)
 |y1::rz1,i1=>(bif(v==y1)then(i1:Int)else(jx.L1 v k rz1 (i1+1)))
def jx(s:List Int)(v:Int):Int:=((jx.L1 v (jx.K1)) s 0)
def gH(s:List Int)(v:Int):Bool:=decide (0<=(jx s v))
def gZ(l:List ao)(signed:List Int)(no:Int)(dA:Int):(Int×Int×Int):=(bif((aZ l) != 0)then(0,0,(aZ l))else(bif((!(cD l signed))||(!(jt dA)))then(0,0,1)else(bif(!(mhas ((cG l signed dA).shelf.at_) no))then(0,0,1)else((cZ (cG l signed dA) (mgetD ((cG l signed dA).shelf.at_) no 0) dA).1,(cZ (cG l signed dA) (mgetD ((cG l signed dA).shelf.at_) no 0) dA).2,0))))
def lR(d:ao)(c:bU)(signed:List Int):Bool:=(bif(!(gH d.fe c.aV.No))then false else(((gZ c.Register.cd signed d.No c.at_).1 != 1)&&((gZ c.Register.cd signed d.No c.at_).1 != 4)))
def gh(c:bU)(signed:List Int):Bool:=(kX c.Register.cd (λel=>lR el c signed))
def fK(c:bU)(signed:List Int):Bool:=(((decide (c.at_<c.aV.At)||decide (c.aV.mX<=c.at_))||(decide (0<=(nthI signed (ai c.Register.cd (λel=>cA el c))))&&decide ((nthI signed (ai c.Register.cd (λel=>cA el c)))<=c.at_)))||(gh c signed))
def Ce(c:bU)(signed:List Int):Bool:=(fK c signed)
def mE(gF:Int)(v0:List Int):Bool:=(!(gH v0 gF))
def jY(c:bU)(signed:List Int):Bool:=(eF c.aV.fp (λel=>mE el ((bD c.Register.cd signed c.at_).1)))
def Cd(c:bU)(signed:List Int):Bool:=(jY c signed)
def fP(gF:Int):Bool:=(decide (0<=gF)&&decide (gF<1099511627776))
def dI.K1(aX:List Int):List Int:=aX
def dI.L1(k:List Int->List Int):List Int->List Int->List Int
 |[],aX=>k aX
 |y1::rz1,aX=>(dI.L1 k rz1 (aX++[y1]))
def dI(seq:List Int):List Int:=((dI.L1 (dI.K1)) seq ([]))
def ew(seq:List Int):List Int:=(dI seq)
def bV.K2  : (List (Int×aE)):=[]
def bV.L2(aX:List (Int×aE))(k:List (Int×aE)):List Int->(List (Int×aE))
 |[]=>(k)
 |y2::rz2=>((y2,(mgetD aX y2 (aE.mk 0 0 0 (aw.mk (⟨#[]⟩:ByteArray) [] [] [] (aj.mk 0 0 0 (⟨#[]⟩:ByteArray) []) 0))))::(bV.L2 aX k rz2))
def bV.K1(uo:Int)(aX:List (Int×aE)):(List (Int×aE)):=((bV.L2 aX (bV.K2)) (sortI (aX.map Prod.fst)))
def bV.L1(ah:Int)(fB:Int)(k:Int->(List (Int×aE))->(List (Int×aE))):List aE->Int->(List (Int×aE))->(List (Int×aE))
 |[],uo,aX=>(k uo aX)
 |y1::rz1,uo,aX=>(bif(decide (ah<y1.dY))then(bV.L1 ah fB k rz1 uo aX)else(bif(decide (y1.At<=fB))then(bif(decide (y1.At<uo))then(bV.L1 ah fB k rz1 uo aX)else(bV.L1 ah fB k rz1 y1.At (mput aX fB y1)))else(bV.L1 ah fB k rz1 uo (mput aX y1.At y1))))
def bV(l:List aE)(ah:Int)(fB:Int):(List (Int×aE)):=((bV.L1 ah fB (bV.K1)) l (-1) ([]))
def iy(l:List aE)(eK:Int)(ah:Int):(List (Int×aE)):=(bV l ah eK)
def lx(l:List aE)(old:Bool):List aE:=l
def jO(l:List aE)(old:Bool):List aE:=(bif(!old)then[]else(l.take ((1:Int)).toNat))
def kv(l:List aE)(old:Bool):List aE:=(l.drop ((((l.length:Int)-1):Int)).toNat)
def mZ  : (List (Int×Value)):=(mput (mput (mput (mput ([]) 1 (kQ (.func 199) #[] #[])) 2 (kQ (.func 200) #[] #[])) 3 (kQ (.func 198) #[] #[])) 4 (kQ (.func 198) #[] #[]))
def judgesP(mode:Int)(l:List aE)(old:Bool):List aE:=bif mode==1 then jO l old else bif mode==2 then kv l old else lx l old
def aM.K2(cB:List aE)(mG:List Int):(List Int×Int×Int):=((sortI mG),(nthI cB ((cB.length:Int)-1)).aw.Mode,0)
def aM.L2(k:List Int->(List Int×Int×Int)):List aE->List Int->(List Int×Int×Int)
 |[],mG=>(k mG)
 |y2::rz2,mG=>(aM.L2  k rz2 (mG++[y2.No]))
def aM.K1(eX:Bool)(cB:List aE):(List Int×Int×Int):=(bif((cB.length:Int)==0)then([],0,0)else((aM.L2 (aM.K2 cB)) (judgesP ((nthI cB ((cB.length:Int)-1)).aw.Mode) cB eX) ([])))
def aM.L1(dU:Int)(bq:Int)(k:Bool->List aE->(List Int×Int×Int)):List (Int×aE)->Bool->List aE->(List Int×Int×Int)
 |[],eX,cB=>k eX cB
 |y1::rz1,eX,cB=>(bif(decide (bq<y1.1))then(k eX cB)else(aM.L1 dU bq k rz1 (eX||(y1.1==dU)) (cB++[y1.2])))
def aM(l:List aE)(dU:Int)(bq:Int)(ah:Int):(List Int×Int×Int):=(bif((bR l) != 0)then([],0,(bR l))else(bif((((!(fP dU))||(!(fP bq)))||(!(fP ah)))||decide (bq<dU))then([],0,1)else((aM.L1 dU bq (aM.K1)) (iy l dU ah) false ([]))))
def iX(mode:Int)(permits:List Bool):Int:=(bif(!(mhas mZ mode))then 270 else(bif(decide (256<(permits.length:Int)))then 1 else 0))
def eZ.K1  : Int:=(-1)
def eZ.L1(f:(Bool->Bool))(k:Int):List Bool->Nat->Int
 |[],i1=>(k)
 |y1::rz1,i1=>(bif(f y1)then(i1:Int)else(eZ.L1 f k rz1 (i1+1)))
def eZ(s:List Bool)(f:(Bool->Bool)):Int:=((eZ.L1 f (eZ.K1)) s 0)
def iI(l:List Bool)(ok:(Bool->Bool)):Int:=(eZ l ok)
def mp(Ma:Bool):Bool:=Ma
def m5(Ma:Bool):Bool:=(!Ma)
def bK.K1(permits:List Bool)(BT:List Int):(List Int×Bool×Int):=(BT,decide (0<=(iI permits mp)),0)
def bK.L1(k:List Int->(List Int×Bool×Int)):List Bool->Nat->List Int->(List Int×Bool×Int)
 |[],i1,BT=>(k BT)
 |y1::rz1,i1,BT=>(bK.L1  k rz1 (i1+1) (BT++[(i1:Int)]))
def bK.K2(permits:List Bool)(SP:List Int):(List Int×Bool×Int):=(SP,(((permits.length:Int)==1)&&(nthI permits 0)),0)
def bK.L2(k:List Int->(List Int×Bool×Int)):List Bool->Nat->List Int->(List Int×Bool×Int)
 |[],i2,SP=>(k SP)
 |y2::rz2,i2,SP=>(bK.L2  k rz2 (i2+1) (SP++[(i2:Int)]))
def bK.K3(SO:List Int):(List Int×Bool×Int):=(SO,false,0)
def bK.L3(k:List Int->(List Int×Bool×Int)):List Bool->Nat->List Int->(List Int×Bool×Int)
 |[],i3,SO=>(k SO)
 |y3::rz3,i3,SO=>(bK.L3  k rz3 (i3+1) (SO++[(i3:Int)]))
def bK(mode:Int)(permits:List Bool):(List Int×Bool×Int):=(bif((iX mode permits) != 0)then([],false,(iX mode permits))else(bif((mode==4)&&decide (0<=(iI permits mp)))then([(iI permits mp)],true,0)else(bif((mode==3)&&decide (0<=(iI permits m5)))then([(iI permits m5)],false,0)else(bif(mode==3)then((bK.L1 (bK.K1 permits)) permits 0 ([]))else(bif(mode != 4)then((bK.L2 (bK.K2 permits)) permits 0 ([]))else((bK.L3 (bK.K3)) permits 0 ([])))))))
def gf(mode:Int)(permits:List Bool):(Bool×Int):=((bK mode permits).2.1,(bK mode permits).2.2)
def bx.K1  : Int:=(-1)
def bx.L1(f:(aE->Bool))(k:Int):List aE->Nat->Int
 |[],i1=>(k)
 |y1::rz1,i1=>(bif(f y1)then(i1:Int)else(bx.L1 f k rz1 (i1+1)))
def bx(s:List aE)(f:(aE->Bool)):Int:=((bx.L1 f (bx.K1)) s 0)
def eW(v:aE)(v0:Int):Bool:=(v.No==v0)
def fX(c:bU)(no:Int):(Except Int aw):=(bif(decide ((bx c.Register.Versions (λel=>eW el no))<0))then(Except.error 1)else(Except.ok ((nthI c.Register.Versions (bx c.Register.Versions (λel=>eW el no))).aw)))
def jq(x:aK)(v0:Int)(v1:Int):(OSeat×Bool):=((xV x.eD x.cM),(decide (x.At<=v0)&&decide (x.dY<=v1)))
def df.K1(aX:List (OSeat×aK)):(List (OSeat×aK)):=aX
def df.L1(key:(aK->OSeat×Bool))(later:(aK->aK->Bool))(k:(List (OSeat×aK))->(List (OSeat×aK))):List aK->(List (OSeat×aK))->(List (OSeat×aK))
 |[],aX=>(k aX)
 |y1::rz1,aX=>(bif((key y1).2&&((!(mhas aX ((key y1).1)))||(!(later (mgetD aX ((key y1).1) (aK.mk 0 0 0 0 0 0 false)) y1))))then(df.L1 key later k rz1 (mput aX ((key y1).1) y1))else(df.L1 key later k rz1 aX))
def df(l:List aK)(key:(aK->OSeat×Bool))(later:(aK->aK->Bool)):(List (OSeat×aK)):=((df.L1 key later (df.K1)) l ([]))
def jp(a:aK)(ky:aK):Bool:=decide (ky.At<a.At)
def dK(l:List aK)(lu:Int)(ah:Int):(List (OSeat×aK)):=(df l (λel=>jq el lu ah) jp)
def eQ(l:List aK)(aT:Int)(bT:Int)(dA:Int)(ah:Int):(Int×Int×Bool×Int):=(bif((dD l) != 0)then(0,0,false,(dD l))else(bif((((!(i7 aT))||(!(kd bT)))||(!(fJ dA)))||(!(fJ ah)))then(0,0,false,1)else(bif((!(mhas (dK l dA ah) (xV aT bT)))||(mgetD (dK l dA ah) (xV aT bT) (aK.mk 0 0 0 0 0 0 false)).nj)then(0,0,false,0)else((mgetD (dK l dA ah) (xV aT bT) (aK.mk 0 0 0 0 0 0 false)).No,(mgetD (dK l dA ah) (xV aT bT) (aK.mk 0 0 0 0 0 0 false)).gj,true,0))))
def cY.K1  : Int:=(-1)
def cY.L1(f:(ay->Bool))(k:Int):List ay->Nat->Int
 |[],i1=>(k)
 |y1::rz1,i1=>(bif(f y1)then(i1:Int)else(cY.L1 f k rz1 (i1+1)))
def cY(s:List ay)(f:(ay->Bool)):Int:=((cY.L1 f (cY.K1)) s 0)
def gm(s:List ay)(del:ay->Bool):List ay:=s.filter λx=>!(del x)
def cf.K1  : List ay:=[]
def cf.L1(v1:Int)(v2:Int)(v3:Int)(k:List ay):List ay->List ay
 |[]=>(k)
 |y1::rz1=>(bif(((y1.Doc==v1)&&decide (y1.At<=v2))&&decide (y1.dY<=v3))then(y1::(cf.L1 v1 v2 v3 k rz1))else(cf.L1 v1 v2 v3 k rz1))
def cf(v0:List ay)(v1:Int)(v2:Int)(v3:Int):List ay:=((cf.L1 v1 v2 v3 (cf.K1)) v0)
def fZ(l:List ay)(aV:Int)(bq:Int)(ah:Int):List ay:=(cf l aV bq ah)
def cT(x:ay):fL:=(fL.mk x.Doc x.By x.For x.eD)
def aN.K2(oS:List ay):List ay:=oS
def aN.L2(ck:List (fL×ay))(k:List ay->List ay):List ay->List ay->List ay
 |[],oS=>k oS
 |y2::rz2,oS=>(bif((!y2.nj)&&(decide ((mgetD ck (cT y2) (ay.mk 0 0 0 0 0 0 0 false))=y2)))then(aN.L2 ck k rz2 (oS++[y2]))else(aN.L2 ck k rz2 oS))
def aN.K1(l:List ay)(aV:Int)(bq:Int)(ah:Int)(ck:List (fL×ay)):List ay:=((aN.L2 ck (aN.K2)) (fZ l aV bq ah) ([]))
def aN.L1(k:(List (fL×ay))->List ay):List ay->(List (fL×ay))->List ay
 |[],ck=>k ck
 |y1::rz1,ck=>(bif((!(mhas ck (cT y1)))||decide ((mgetD ck (cT y1) (ay.mk 0 0 0 0 0 0 0 false)).At<=y1.At))then(aN.L1 k rz1 (mput ck (cT y1) y1))else(aN.L1 k rz1 ck))
def aN(l:List ay)(aV:Int)(bq:Int)(ah:Int):List ay:=((aN.L1 (aN.K1 l aV bq ah)) (fZ l aV bq ah) ([]))
def j5(y:ay)(dU:Int)(at_:Int)(think:Int):Bool:=(decide (y.At<dU)||decide ((kB .i64 (at_-y.At))<think))
def db(l:List ay)(aV:Int)(dU:Int)(think:Int)(cy:Int)(ah:Int):(List ay×Int):=(bif((cj l) != 0)then([],(cj l))else(bif((!(fM 4095 ([aV])))||(!(fM 1099511627775 ([dU,think,cy,ah]))))then([],1)else((gm (aN l aV cy ah) (λel=>j5 el dU cy think)),0)))
def nh(l:List bA)(eK:Int)(to:Int)(q:cL):Int:=(bif((dT l) != 0)then(dT l)else(bif(((((((!(j0 eK))||(!(j0 to)))||(!(eS q.aT 0 31)))||(!(eS q.kind 0 15)))||(!(eS q.value 0 1099511627776)))||(!(ld q.at_)))||(!(ld q.ah)))then 1 else 0))
def dG.K1(aX:List bA):List bA:=aX
def dG.L1(k:List bA->List bA):List bA->List bA->List bA
 |[],aX=>k aX
 |y1::rz1,aX=>(dG.L1 k rz1 (aX++[y1]))
def dG(seq:List bA):List bA:=((dG.L1 (dG.K1)) seq ([]))
def dE(seq:List bA):List bA:=(dG seq)
def hO(q:cL)(x:bA):Bool:=(decide (x.At<=q.at_)&&decide (x.dY<=q.ah))
def iK(q:cL)(x:bA):Bool:=(((((!x.nj)&&decide (q.at_<x.mX))&&(x.eD==q.aT))&&((x.Kind==(-1))||(x.Kind==q.kind)))&&decide (q.value<=x.Ob))
def aL.K1  : List bA:=[]
def aL.L1(v1:List (ek×bA))(v2:(bA->Bool))(v3:cL)(k:List bA):List bA->List bA
 |[]=>(k)
 |y1::rz1=>(bif(((decide ((mgetD v1 (ek.mk y1.From y1.To y1.eD y1.Kind) (bA.mk 0 0 0 0 0 0 0 0 0 false))=y1))&&(v2 y1))&&(iK v3 y1))then(y1::(aL.L1 v1 v2 v3 k rz1))else(aL.L1 v1 v2 v3 k rz1))
def aL(v0:List bA)(v1:List (ek×bA))(v2:(bA->Bool))(v3:cL):List bA:=((aL.L1 v1 v2 v3 (aL.K1)) v0)
def aW.K1(q:cL)(l:List bA)(eX:List (ek×bA)):List bA:=(aL l eX (hO q) q)
def aW.L1(q:cL)(k:(List (ek×bA))->List bA):List bA->(List (ek×bA))->List bA
 |[],eX=>(k eX)
 |y1::rz1,eX=>(bif((hO q y1)&&((!(mhas eX (ek.mk y1.From y1.To y1.eD y1.Kind)))||decide ((mgetD eX (ek.mk y1.From y1.To y1.eD y1.Kind) (bA.mk 0 0 0 0 0 0 0 0 0 false)).At<=y1.At)))then(aW.L1 q k rz1 (mput eX (ek.mk y1.From y1.To y1.eD y1.Kind) y1))else(aW.L1 q k rz1 eX))
def aW(q:cL)(l:List bA):List bA:=((aW.L1 q (aW.K1 q l)) l ([]))
def aP.L2(k:(List (Int×Int))->(List Int×Bool×Int)):List bA->(List (Int×Int))->(List Int×Bool×Int)
 |[],yJ=>(k yJ)
 |y2::rz2,yJ=>(bif(((mhas yJ y2.To)&&((mgetD yJ y2.To 0)==0))&&(!(mhas yJ y2.From)))then(aP.L2  k rz2 (mput yJ y2.From 1))else(aP.L2  k rz2 yJ))
def aP.L3(i1:Nat)(k:(List (Int×Int))->(List Int×Bool×Int)):List bA->(List (Int×Int))->(List Int×Bool×Int)
 |[],oP=>(k oP)
 |y3::rz3,oP=>(bif(((mhas oP y3.To)&&((mgetD oP y3.To 0)==(i1:Int)))&&(!(mhas oP y3.From)))then(aP.L3 i1 k rz3 (mput oP y3.From (((i1+1):Nat):Int)))else(aP.L3 i1 k rz3 oP))
def aP.L6(eK:Int)(ck:List (Int×Int))(i4:Nat)(k:List Int->Int->(List Int×Bool×Int)):List bA->List Int->Int->(List Int×Bool×Int)
 |[],DQ,Fw=>(k DQ Fw)
 |y6::rz6,DQ,Fw=>(bif(((y6.From==Fw)&&(mhas ck y6.To))&&((mgetD ck y6.To 0)==((((((mgetD ck eK 0)).toNat)-(i4+1)):Nat):Int)))then(k (DQ++[y6.No]) y6.To)else(aP.L6 eK ck i4 k rz6 DQ Fw))
def aP.K4(AT:List Int)(Fx:Int):(List Int×Bool×Int):=(AT,true,0)
def aP.L4(l:List bA)(eK:Int)(aT:Int)(kind:Int)(value:Int)(mn:Int)(ah:Int)(ck:List (Int×Int))(k:List Int->Int->(List Int×Bool×Int)):List Nat->Nat->List Int->Int->(List Int×Bool×Int)
 |[],i4,AT,Fx=>(k AT Fx)
 |y4::rz4,i4,AT,Fx=>((aP.L6 eK ck i4 (λzg6_16 zg6_31=>(aP.L4 l eK aT kind value mn ah ck k rz4 (i4+1) zg6_16 zg6_31))) (dE (aW (cL.mk aT kind value mn ah) l)) AT Fx)
def aP.K1(l:List bA)(eK:Int)(aT:Int)(kind:Int)(value:Int)(mn:Int)(ah:Int)(ck:List (Int×Int)):(List Int×Bool×Int):=(bif(!(mhas ck eK))then([],false,0)else((aP.L4 l eK aT kind value mn ah ck (aP.K4)) (vD (((mgetD ck eK 0)).toNat)) 0 ([]) eK))
def aP.L1(l:List bA)(aT:Int)(kind:Int)(value:Int)(mn:Int)(ah:Int)(k:(List (Int×Int))->(List Int×Bool×Int)):List Nat->Nat->(List (Int×Int))->(List Int×Bool×Int)
 |[],i1,ck=>(k ck)
 |y1::rz1,i1,ck=>((aP.L3 i1 (λzg3_b2_0=>(aP.L1 l aT kind value mn ah k rz1 (i1+1) zg3_b2_0))) (dE (aW (cL.mk aT kind value mn ah) l)) ck)
def aP(l:List bA)(eK:Int)(to:Int)(aT:Int)(kind:Int)(value:Int)(mn:Int)(ah:Int):(List Int×Bool×Int):=(bif((nh l eK to (cL.mk aT kind value mn ah)) != 0)then([],false,(nh l eK to (cL.mk aT kind value mn ah)))else((aP.L1 l aT kind value mn ah (aP.K1 l eK aT kind value mn ah)) (vD 8) 0 (mput ([]) to 0)))
def dw.K1(bT:Int)(eE:List Int)(dA:Int)(ah:Int)(rG:Int):Int:=(bif((((!(fw bT 64))||decide (16<(eE.length:Int)))||(!(fw dA 1099511627776)))||(!(fw ah 1099511627776)))then 1 else 0)
def dw.L1(k:Int->Int):List Int->Int->Int
 |[],rG=>(k rG)
 |y1::rz1,rG=>(bif(decide (y1<=rG)||decide (1048576<y1))then 1 else(dw.L1  k rz1 y1))
def dw(l:List aG)(bT:Int)(eE:List Int)(dA:Int)(ah:Int):Int:=(bif((du l) != 0)then(du l)else((dw.L1 (dw.K1 bT eE dA ah)) eE (-1)))
def ce.K1  : List aG:=[]
def ce.L1(v1:List (dZ×aG))(k:List aG):List aG->List aG
 |[]=>(k)
 |y1::rz1=>(bif((!y1.nj)&&(decide ((mgetD v1 (dZ.mk y1.cM y1.iH y1.Of) (aG.mk 0 0 0 0 0 false false))=y1)))then(y1::(ce.L1 v1 k rz1))else(ce.L1 v1 k rz1))
def ce(v0:List aG)(v1:List (dZ×aG)):List aG:=((ce.L1 v1 (ce.K1)) v0)
def dl.K1(l:List aG)(ck:List (dZ×aG)):List aG:=(ce l ck)
def dl.L1(lu:Int)(ah:Int)(k:(List (dZ×aG))->List aG):List aG->(List (dZ×aG))->List aG
 |[],ck=>(k ck)
 |y1::rz1,ck=>(bif(decide (lu<y1.At)||decide (ah<y1.dY))then(dl.L1 lu ah k rz1 ck)else(bif((!(mhas ck (dZ.mk y1.cM y1.iH y1.Of)))||decide ((mgetD ck (dZ.mk y1.cM y1.iH y1.Of) (aG.mk 0 0 0 0 0 false false)).At<=y1.At))then(dl.L1 lu ah k rz1 (mput ck (dZ.mk y1.cM y1.iH y1.Of) y1))else(dl.L1 lu ah k rz1 ck)))
def dl(l:List aG)(lu:Int)(ah:Int):List aG:=((dl.L1 lu ah (dl.K1 l)) l ([]))
def conPut(w:iE)(m:List (Int×Bool))(q:List iE):List (Int×Bool)×List iE:=bif mgetD m w.to false then(m,q)else(mput m w.to true,q++[w])
def conFill(bT:Int):List aG->List (Int×List aG)->List (Int×Bool)->List iE->List (Int×List aG)×List (Int×Bool)×List iE
 |[],f,m,q=>(f,m,q)
 |x::l,f,m,q=>bif x.Of then conFill bT l (mput f x.cM (mgetD f x.cM []++[x])) m q
  else bif x.cM==bT then conFill bT l f (conPut ⟨[x.No],x.iH⟩ m q).1 (conPut ⟨[x.No],x.iH⟩ m q).2 else conFill bT l f m q
def conStep(path:List Int):List aG->List (Int×Bool)->List iE->List (Int×Bool)×List iE
 |[],m,q=>(m,q)
 |x::l,m,q=>conStep path l (conPut ⟨path++[x.No],x.iH⟩ m q).1 (conPut ⟨path++[x.No],x.iH⟩ m q).2
def conLoop(eE:List Int)(f:List (Int×List aG)):Nat->List (Int×Bool)->List iE->List Int×Bool
 |0,_,_=>([],false)
 |_+1,_,[]=>([],false)
 |n+1,m,w::q=>bif eE.contains w.to then(w.path,true)else bif(w.path.length:Int)==8 then conLoop eE f n m q
  else conLoop eE f n (conStep w.path (mgetD f w.to []) m q).1 (conStep w.path (mgetD f w.to []) m q).2
def conFind(l:List aG)(bT:Int)(eE:List Int)(st:List aG):List Int×Bool:=
 conLoop eE (conFill bT st [] [] []).1 (l.length+1) (conFill bT st [] [] []).2.1 (conFill bT st [] [] []).2.2
def dV(l:List aG)(bT:Int)(eE:List Int)(dA:Int)(ah:Int):List Int×Bool×Int:=
 bif dw l bT eE dA ah != 0 then([],false,dw l bT eE dA ah)
 else((conFind l bT eE (dl l dA ah)).1,(conFind l bT eE (dl l dA ah)).2,0)
def yj(h:HF):List Value->List iE->Prop
 |[],[]=>True
 |v::vs,w::ws=>(∃r,v=.agg (iE.cells w r).toArray/\iE.ok h w r)/\yj h vs ws
 |_,_=>False
abbrev FR:=FRg aG.rp 207
def yl(st:List aG)(m:List (Int×Bool))(q:List iE):Prop:=(∀p∈m,p.2=true/\p.1∈st.map (·.iH))/\q.length<=m.length/\∀w∈q,w.path.length<=8
def Qw(st:List aG)(f:List (Int×List aG)):Prop:=∀k,∀x∈mgetD f k [],x∈st
def j4(c:bU)(bT:Int):Bool:=(dV c.Register.er bT c.aV.lh c.at_ c.ah).2.1
def cR.K1  : List ay:=[]
def cR.L1(c:bU)(k:List ay):List ay->List ay
 |[]=>(k)
 |y1::rz1=>(bif((((eQ c.Register.dF y1.eD y1.For c.at_ c.ah).2.2.1&&(aP c.Register.ga y1.For y1.By y1.eD c.aV.Kind c.aV.Value c.at_ c.ah).2.1)&&(!(j4 c y1.For)))&&(!(j4 c y1.By)))then(y1::(cR.L1 c k rz1))else(cR.L1 c k rz1))
def cR(c:bU)(p:aw):List ay:=(bif(decide ((p.dN.length:Int)<=c.aV.Kind))then[]else((cR.L1 c (cR.K1)) ((db c.Register.dC c.aV.No c.aV.At ((nthI p.dp c.aV.Kind).iV) c.at_ c.ah).1)))
def hY(c:bU)(p:aw):List ay:=(cR c p)
def dj.K1(cB:List Int):List Int:=(slices_Compact_int (sortI cB))
def dj.L1(k:List Int->List Int):List ay->List Int->List Int
 |[],cB=>k cB
 |y1::rz1,cB=>(dj.L1 k rz1 (cB++[y1.For]))
def dj(c:bU)(p:aw):List Int:=((dj.L1 (dj.K1)) (hY c p) ([]))
def cU.K1(aX:List bW):List bW:=aX
def cU.L1(k:List bW->List bW):List bW->List bW->List bW
 |[],aX=>k aX
 |y1::rz1,aX=>(cU.L1 k rz1 (aX++[y1]))
def cU(seq:List bW):List bW:=((cU.L1 (cU.K1)) seq ([]))
def iQ(seq:List bW):List bW:=(cU seq)
def fA.K1(aX:List OSeat):List OSeat:=aX
def fA.L1(k:List OSeat->List OSeat):List OSeat->List OSeat->List OSeat
 |[],aX=>k aX
 |y1::rz1,aX=>(fA.L1 k rz1 (aX++[y1]))
def fA(seq:List OSeat):List OSeat:=((fA.L1 (fA.K1)) seq ([]))
def cw.K1  : List bW:=[]
def cw.L1(m:List (OSeat×aK))(aT:Int)(k:List bW):List OSeat->List bW
 |[]=>(k)
 |y1::rz1=>(bif((y1.aT==aT)&&(!((mgetD m y1 (aK.mk 0 0 0 0 0 0 false)).nj)))then((bW.mk ((mgetD m y1 (aK.mk 0 0 0 0 0 0 false)).cM) ((mgetD m y1 (aK.mk 0 0 0 0 0 0 false)).gj))::(cw.L1 m aT k rz1))else(cw.L1 m aT k rz1))
def cw(m:List (OSeat×aK))(aT:Int):List bW:=((cw.L1 m aT (cw.K1)) (seatS (m.map Prod.fst)))
def kZ(m:List (OSeat×aK))(aT:Int):List bW:=(cw m aT)
def fd(l:List aK)(aT:Int)(bq:Int)(ah:Int):(List bW×Int):=(bif((dD l) != 0)then([],(dD l))else(bif(((!(i7 aT))||(!(fJ bq)))||(!(fJ ah)))then([],1)else((iQ (kZ (dK l bq ah) aT)),0)))
def ef.K1(lG:Int):Bool:=true
def ef.L1(k:Int->Bool):List Int->Int->Bool
 |[],lG=>(k lG)
 |y1::rz1,lG=>(bif(decide (y1<=lG)||decide (64<=y1))then false else(ef.L1  k rz1 y1))
def ef(kU:List Int):Bool:=((ef.L1 (ef.K1)) kU (-1))
def dW.L2(k:List Int->Bool):List bW->List Int->Bool
 |[],OU=>(k OU)
 |y2::rz2,OU=>(bif(decide (y2.gj<1)||decide (64<y2.gj))then false else(dW.L2  k rz2 (OU++[y2.cM])))
def dW.L3(k:List Int->Bool):List bW->List Int->Bool
 |[],DT=>(k DT)
 |y3::rz3,DT=>(bif(decide (y3.gj<1)||decide (64<y3.gj))then false else(dW.L3  k rz3 (DT++[y3.cM])))
def dW.K1(da:List (List bW))(aC:Int):Bool:=((da.length:Int)==aC)
def dW.L1(k:Bool):List (List bW)->Bool
 |[]=>(k)
 |y1::rz1=>((dW.L3 (λzg3_7=>(bif(!(ef zg3_7))then false else(dW.L1  k rz1)))) y1 ([]))
def dW(da:List (List bW))(aC:Int):Bool:=((dW.L1 (dW.K1 da aC)) da)
def cC.K1  : List bW:=[]
def cC.L1(q:bj)(k:List bW):List bW->List bW
 |[]=>(k)
 |y1::rz1=>(bif((slices_BinarySearch_int q.kU y1.cM).2)then(y1::(cC.L1 q k rz1))else(cC.L1 q k rz1))
def cC(q:bj)(aT:Int):List bW:=((cC.L1 q (cC.K1)) (nthI q.da aT))
def eM(q:bj)(aT:Int):List bW:=(cC q aT)
def ey.K1(cB:Bool):Bool:=false
def ey.L1(k:Bool->Bool):List bW->Bool->Bool
 |[],cB=>k cB
 |y1::rz1,cB=>true
def ey(q:bj)(x:aj):Bool:=((ey.L1 (ey.K1)) (eM q x.No) false)
def dc.K1(x:aj)(cB:Int):Bool:=decide (x.N<=cB)
def dc.L1(k:Int->Bool):List bW->Int->Bool
 |[],cB=>k cB
 |y1::rz1,cB=>(dc.L1 k rz1 (kB .i64 (cB+y1.gj)))
def dc(q:bj)(x:aj):Bool:=((dc.L1 (dc.K1 x)) (eM q x.No) 0)
def eu.K1(x:aj)(fg:Int):Bool:=decide (x.N<=fg)
def eu.L1(rec:bj->aj->Bool)(q:bj)(k:Int->Bool):List aj->Int->Bool
 |[],fg=>(k fg)
 |y1::rz1,fg=>(bif(rec q y1)then(eu.L1 rec q k rz1 (kB .i64 (fg+1)))else(eu.L1 rec q k rz1 fg))
def eu.F(rec:bj->aj->Bool)(q:bj)(x:aj):Bool:=((eu.L1 rec q (eu.K1 x)) x.L 0)
def lP.F(rec:bj->aj->Bool)(q:bj)(x:aj):Bool:=(bif(decide (q.value<=x.N))then(rec q (nthI x.L 0))else(rec q (nthI x.L 1)))
def fulQ(rec:bj->aj->Bool)(q:bj)(x:aj):Bool:=if x.Kind=1 then ey q x else if x.Kind=2 then dc q x else if x.Kind=3 then eu.F rec q x else lP.F rec q x
def cV.F(rec:bj->aj->Bool)(q:bj)(x:aj):Bool:=(fulQ rec q x)
def cV.go:Nat->bj->aj->Bool
 |0=>λ_ _=>default
 |m+1=>cV.F (cV.go m)
def cV(q:bj)(x:aj):Bool:=cV.go x.dep q x
def eh(p:aw)(kind:Int)(value:Int)(da:List (List bW))(kU:List Int):(Bool×Int):=(bif((dh p) != 0)then(false,(dh p))else(bif(((decide (kind<0)||decide ((p.dN.length:Int)<=kind))||decide (value<0))||decide (1099511627776<value))then(false,1)else(bif(!(dW da (p.aA.length:Int)))then(false,210)else(bif(!(ef kU))then(false,1)else((cV (bj.mk value da kU) ((nthI p.dp kind).aj)),0)))))
def dt.K1(c:bU)(p:aw)(kU:List Int)(Gc:List (List bW)):Bool:=((eh p c.aV.Kind c.aV.Value Gc kU).1&&((eh p c.aV.Kind c.aV.Value Gc kU).2==0))
def dt.L1(c:bU)(k:(List (List bW))->Bool):List ByteArray->Nat->(List (List bW))->Bool
 |[],i1,Gc=>(k Gc)
 |y1::rz1,i1,Gc=>(dt.L1 c k rz1 (i1+1) (Gc++[(fd c.Register.dF (i1:Int) c.at_ c.ah).1]))
def dt(c:bU)(p:aw)(kU:List Int):Bool:=((dt.L1 c (dt.K1 c p kU)) p.aA 0 ([]))
def fT(cK:Register)(aV:Int)(version:Int)(dA:Int)(ah:Int):List Int×Int:=
 bif dM cK != 0 then([],dM cK)else match n0 cK aV dA ah with
  |.error e=>([],e)
  |.ok c=>match fX c version with
   |.error e=>([],e)
   |.ok p=>(dj c p,0)
def askJ(c:bU):List Int×Int×Int:=aM c.Register.Versions c.aV.At c.at_ c.ah
def askP(c:bU)(no:Int):aw:=exD (fX c no)
def askWho(c:bU)(no:Int):List Int:=dj c (askP c no)
def askAns(c:bU)(no:Int):Bool:=dt c (askP c no) (askWho c no)
def askAll(c:bU):List Int:=slices_Compact_int (sortI ((askJ c).1.flatMap (askWho c)))
def iz(c:bU):Bool:=bif(askJ c).2.1==0 then false else(gf (askJ c).2.1 ((askJ c).1.map (askAns c))).1
abbrev verO(s0 b0:Int)(vb:Option Addr)(vn vc:Nat)(wb:Option Addr)(wn wc:Nat):Obj:=.cells (xB [.int .i64 s0,.int .i64 b0,.slice vb vn vc,.slice wb wn wc]) 40 (0,0)
def judgeRoom(c:bU)(r:Register)(u:List Use)(at_ ah:Int):Int×Bool×Int:=bM r.dH u c.aV.Kind c.aV.Value at_ ah
def judgeC(c:bU)(r:Register)(signed:List Int)(u:List Use)(at_ ah:Int):fN:=
 bif fK c signed then⟨1,-1,[],[]⟩else bif jY c signed then⟨2,-1,[],[]⟩else bif !(iz c)then⟨3,-1,(askJ c).1,askAll c⟩else
 bif !(judgeRoom c r u at_ ah).2.1 then⟨4,(judgeRoom c r u at_ ah).1,(askJ c).1,askAll c⟩else⟨0,-1,(askJ c).1,askAll c⟩
def bF(cK:Register)(signed:List Int)(u:List Use)(aV:Int)(cy:Int)(ah:Int):fN×Int:=
 bif dM cK != 0 then(⟨0,0,[],[]⟩,dM cK)else
 bif(bD cK.cd signed 0).2 != 0 then(⟨0,0,[],[]⟩,(bD cK.cd signed 0).2)else
 bif(bM cK.dH u 0 0 0 0).2.2 != 0 then(⟨0,0,[],[]⟩,(bM cK.dH u 0 0 0 0).2.2)else
 match n0 cK aV cy ah with
  |.error e=>(⟨0,0,[],[]⟩,e)
  |.ok c=>(judgeC c cK signed u cy ah,0)
def w6(d:ao)(no:Int):Int:=(cmp_Compare_int d.No no)
def aU.L2(r:Register)(at_:Int)(ah:Int)(k:Bool->List Int):List Nat->Nat->Bool->List Int
 |[],i2,OU=>(k OU)
 |y2::rz2,i2,OU=>(aU.L2 r at_ ah k rz2 (i2+1) (OU||(eQ r.dF (i2:Int) 0 at_ ah).2.2.1))
def aU.L3(r:Register)(at_:Int)(ah:Int)(i1:Nat)(k:Bool->List Int):List Nat->Nat->Bool->List Int
 |[],i3,DT=>(k DT)
 |y3::rz3,i3,DT=>(aU.L3 r at_ ah i1 k rz3 (i3+1) (DT||(eQ r.dF (i3:Int) (i1:Int) at_ ah).2.2.1))
def aU.K1  : List Int:=[]
def aU.L1(r:Register)(at_:Int)(ah:Int)(d:ao)(k:List Int):List Nat->Nat->List Int
 |[],i1=>(k)
 |y1::rz1,i1=>((aU.L3 r at_ ah i1 (λzg3_7=>(bif(!zg3_7)then(aU.L1 r at_ ah d k rz1 (i1+1))else(bif(!((dV r.er (i1:Int) d.lh at_ ah).2.1))then((i1:Int)::(aU.L1 r at_ ah d k rz1 (i1+1)))else(aU.L1 r at_ ah d k rz1 (i1+1)))))) (vD 32) 0 false)
def aU(r:Register)(at_:Int)(ah:Int)(d:ao):List Int:=((aU.L1 r at_ ah d (aU.K1)) (vD 64) 0)
def gC(cK:Register)(d:ao)(bq:Int)(ah:Int):List Int:=(aU cK bq ah d)
def ep(l:List Budget)(kind:Int)(bq:Int)(ah:Int):(List Budget×Int):=(bif((bX l) != 0)then([],(bX l))else(bif((!(cg 0 15 ([kind])))||(!(cg 0 1099511627775 ([bq,ah]))))then([],1)else((ba l kind bq ah),0)))
def tB(x:aE)(no:Int):Int:=(cmp_Compare_int x.No no)
def pU(w kU:List Int)(p:aw)(d:ao)(da:List (List bW)):Bool:=
 (eh p d.Kind d.Value da (slices_Compact_int (sortI (kU++w)))).1&&((eh p d.Kind d.Value da (slices_Compact_int (sortI (kU++w)))).2==0)
def ig(r:Register)(at_ ah:Int)(j:Nat):List bW:=(fd r.dF (j:Int) at_ ah).1
def j8(r:Register)(d:ao)(no at_ ah:Int)(w:List Int):Bool:=
 pU w (fT r d.No no at_ ah).1 (nthI r.Versions (bsPos aE.No r.Versions no)).aw d ((vD (nthI r.Versions (bsPos aE.No r.Versions no)).aw.aA.length).map (ig r at_ ah))
def oE(w:List Int)(e:Int)(vs:List (List Int->Bool))(mode:Int):Bool:=bif e != 0 then false else((gf mode (vs.map λf=>f w)).1&&((gf mode (vs.map λf=>f w)).2==0))
def fq(r:Register)(aV:Int):ao:=nthI r.cd (bsPos ao.No r.cd aV)
def je(force:List Int):List Int->List Int->List Int
 |[],g=>g
 |y::s,g=>je force s (bif !(gH force y)then g++[y]else g)
def jX(u:List Use)(d:ao)(at_ ah:Int):List Budget->List Int->List Int
 |[],g=>g
 |b::s,g=>jX u d at_ ah s (bif !((bM [b] u d.Kind d.Value at_ ah).2.1)then g++[b.No]else g)
def iN(r:Register)(signed:List Int)(u:List Use)(aV at_ ah:Int)(d:ao):QP:=
  ⟨(bF r signed u aV at_ ah).1.State==1,ew (gC r d at_ ah),je (bD r.cd signed at_).1 d.fp [],jX u d at_ ah (ep r.dH d.Kind at_ ah).1 [],
   λw=>oE w (aM r.Versions d.At at_ ah).2.2 ((aM r.Versions d.At at_ ah).1.map λno=>j8 r d no at_ ah) (aM r.Versions d.At at_ ah).2.1⟩
def io(r:Register)(signed:List Int)(u:List Use)(aV at_ ah:Int):QP×Int:=
 bif(bF r signed u aV at_ ah).2 != 0 then(⟨false,[],[],[],λ_=>false⟩,(bF r signed u aV at_ ah).2)else(iN r signed u aV at_ ah (fq r aV),0)
structure vU(r:Register)(aV at_ ah:Int):Prop where
 docs:r.cd.Pairwise λa b=>a.No<b.No
 din:bsPos ao.No r.cd aV<r.cd.length
 vers:r.Versions.Pairwise λa b=>a.No<b.No
 vin:∀no∈(aM r.Versions (fq r aV).At at_ ah).1,bsPos aE.No r.Versions no<r.Versions.length/\(nthI r.Versions (bsPos aE.No r.Versions no)).aw.aA.length<=1000/\(fT r (fq r aV).No no at_ ah).1.length<=1000000
 vlen:(aM r.Versions (fq r aV).At at_ ah).1.length<=1000000
 flen:(gC r (fq r aV) at_ ah).length<=1000000
 nlen:(fq r aV).fp.length<=1000000
 slen:(ep r.dH (fq r aV).Kind at_ ah).1.length<=1000000
def bu.K1(BT:List Lack):List Lack:=BT
def bu.L1(kind:Int)(k:List Lack->List Lack):List Int->List Lack->List Lack
 |[],BT=>(k BT)
 |y1::rz1,BT=>(bu.L1 kind k rz1 (BT++[(vT kind y1)]))
def bu(kind:Int)(l:List Int):List Lack:=((bu.L1 kind (bu.K1)) l ([]))
def eV(q:QP)(w:List Int):List Lack:=bu 1 w++bu 2 q.needs++bu 3 q.over
def lW(aV:Int)(q:QP)(e:Int):List Lack×Bool×Int:=
 bif e != 0 then([],false,e)else bif decide (12<(q.free.length:Int))then([],false,2)else bif q.closed then(bu 4 [aV],false,0)else
  match(iB q.free).find? q.decides with
  |some w=>(eV q w,true,0)
  |none=>([],false,0)
def aY(r:Register)(signed:List Int)(u:List Use)(aV at_ ah:Int):List Lack×Bool×Int:=lW aV (io r signed u aV at_ ah).1 (io r signed u aV at_ ah).2
def fF.K1  : Int:=(-1)
def fF.L1(v:Lack)(k:Int):List Lack->Nat->Int
 |[],i1=>(k)
 |y1::rz1,i1=>(bif(decide (v=y1))then(i1:Int)else(fF.L1 v k rz1 (i1+1)))
def fF(s:List Lack)(v:Lack):Int:=((fF.L1 v (fF.K1)) s 0)
def mg(s:List Lack)(v:Lack):Bool:=decide (0<=(fF s v))
def eT(gF:Int)(v0:List Lack)(v1:Int):Bool:=(mg v0 (vT v1 gF))
def nC(gF:Int)(v0:(Int->Bool)):Bool:=(!(v0 gF))
def fy(s:List Int)(del:Int->Bool):List Int:=s.filter λx=>!(del x)
def jy(p:Int)(v0:(Int->Bool)):Bool:=(!(v0 p))
def kw(l:List Lack)(k:Int)(list:List Int):Bool:=eF list (λn=>nC n (λn=>eT n l k))
def mt(q:QP)(e:Int)(l:List Lack):Bool×Int:=
 bif(e != 0||q.closed)then(false,e)else bif(kw l 2 q.needs||kw l 3 q.over)then(false,0)else(q.decides (fy q.free (λp=>jy p (λn=>eT n l 1))),0)
def dS(r:Register)(signed:List Int)(u:List Use)(aV at_ ah:Int)(l:List Lack):Bool×Int:=mt (io r signed u aV at_ ah).1 (io r signed u aV at_ ah).2 l
def DL(kind:Int)(EH:Int):Lack:=(vT kind EH)
def dJ.K1(fg:Int):Int:=fg
def dJ.L1(rec:aj->Int->Int)(dL:Int)(k:Int->Int):List aj->Int->Int
 |[],fg=>(k fg)
 |y1::rz1,fg=>(bif(decide (fg<=dL))then(dJ.L1 rec dL k rz1 (kB .i64 (fg+(rec y1 (kB .i64 (dL-fg))))))else(k fg))
def dJ.F(rec:aj->Int->Int)(x:aj)(dL:Int):Int:=((dJ.L1 rec dL (dJ.K1)) x.L 1)
def dJ.go:Nat->aj->Int->Int
 |0=>λ_ _=>default
 |m+1=>dJ.F (dJ.go m)
def dJ(x:aj)(dL:Int):Int:=dJ.go x.dep x dL
def bS.K1(lG:Int):Int:=(kB .i64 (lG+1))
def bS.L1(rec:aj->Int)(k:Int->Int):List aj->Int->Int
 |[],lG=>(k lG)
 |y1::rz1,lG=>(bS.L1 rec k rz1 (max lG (rec y1)))
def bS.F(rec:aj->Int)(x:aj):Int:=((bS.L1 rec (bS.K1)) x.L 0)
def bS.go:Nat->aj->Int
 |0=>λ_=>default
 |m+1=>bS.F (bS.go m)
def bS(x:aj):Int:=bS.go x.dep x
def mi(x:aj):Bool:=(decide (256<(dJ x 256))||decide (16<(bS x)))
def fG.K1  : Bool:=false
def fG.L1(k:Bool):List fC->Bool
 |[]=>(k)
 |y1::rz1=>(bif(mi y1.aj)then true else(fG.L1  k rz1))
def fG(p:aw):Bool:=(bif(((decide (32<(p.aA.length:Int))||decide (16<(p.dN.length:Int)))||decide (16<(p.dp.length:Int)))||(mi p.aO))then true else((fG.L1 (fG.K1)) p.dp))
def nW(c:Int):Bool:=((decide (97<=c)&&decide (c<=122))||(decide (65<=c)&&decide (c<=90)))
def uk(c:Int):Bool:=(decide (48<=c)&&decide (c<=57))
def vf(c:Int):Bool:=(((nW c)||(uk c))||(c==95))
def j3.K1  : Bool:=true
def j3.L1(s:ByteArray)(k:Bool):List Nat->Nat->Bool
 |[],i1=>(k)
 |y1::rz1,i1=>(bif(!(vf ((s.data.getD ((i1:Int):Int).toNat 0).toNat:Int)))then false else(j3.L1 s k rz1 (i1+1)))
def j3(s:ByteArray):Bool:=(bif((decide ((s.size:Int)<1)||decide (32<(s.size:Int)))||(!(nW ((s.data.getD (0:Int).toNat 0).toNat:Int))))then false else((j3.L1 s (j3.K1)) (vD s.size) 0))
def uZ(s:ByteArray):Bool:=(bif(s.toList==(⟨#[112,111,108,105,99,121]⟩:ByteArray).toList)then(bif(s.toList==(⟨#[112,111,108,105,99,121]⟩:ByteArray).toList)then true else false)else(bif(s.toList==(⟨#[109,111,100,101]⟩:ByteArray).toList)then(bif(s.toList==(⟨#[109,111,100,101]⟩:ByteArray).toList)then true else false)else(bif(s.toList==(⟨#[111,108,100]⟩:ByteArray).toList)then(bif(s.toList==(⟨#[111,108,100]⟩:ByteArray).toList)then true else false)else(bif(s.toList==(⟨#[110,101,119]⟩:ByteArray).toList)then(bif(s.toList==(⟨#[110,101,119]⟩:ByteArray).toList)then true else false)else(bif(s.toList==(⟨#[98,111,116,104]⟩:ByteArray).toList)then(bif(s.toList==(⟨#[98,111,116,104]⟩:ByteArray).toList)then true else false)else(bif(s.toList==(⟨#[101,105,116,104,101,114]⟩:ByteArray).toList)then(bif(s.toList==(⟨#[101,105,116,104,101,114]⟩:ByteArray).toList)then true else false)else(bif(s.toList==(⟨#[111,102,102,105,99,101]⟩:ByteArray).toList)then(bif(s.toList==(⟨#[111,102,102,105,99,101]⟩:ByteArray).toList)then true else false)else(bif(s.toList==(⟨#[107,105,110,100]⟩:ByteArray).toList)then(bif(s.toList==(⟨#[107,105,110,100]⟩:ByteArray).toList)then true else false)else(bif(s.toList==(⟨#[114,117,108,101]⟩:ByteArray).toList)then(bif(s.toList==(⟨#[114,117,108,101]⟩:ByteArray).toList)then true else false)else(bif(s.toList==(⟨#[116,104,105,110,107]⟩:ByteArray).toList)then(bif(s.toList==(⟨#[116,104,105,110,107]⟩:ByteArray).toList)then true else false)else(bif(s.toList==(⟨#[99,104,97,110,103,101]⟩:ByteArray).toList)then(bif(s.toList==(⟨#[99,104,97,110,103,101]⟩:ByteArray).toList)then true else false)else(bif(s.toList==(⟨#[115,111,109,101]⟩:ByteArray).toList)then(bif(s.toList==(⟨#[115,111,109,101]⟩:ByteArray).toList)then true else false)else(bif(s.toList==(⟨#[119,101,105,103,104,116]⟩:ByteArray).toList)then(bif(s.toList==(⟨#[119,101,105,103,104,116]⟩:ByteArray).toList)then true else false)else(bif(s.toList==(⟨#[111,102]⟩:ByteArray).toList)then(bif(s.toList==(⟨#[111,102]⟩:ByteArray).toList)then true else false)else(bif(s.toList==(⟨#[117,112,116,111]⟩:ByteArray).toList)then(bif(s.toList==(⟨#[117,112,116,111]⟩:ByteArray).toList)then true else false)else(bif(s.toList==(⟨#[101,108,115,101]⟩:ByteArray).toList)then true else false))))))))))))))))
def oZ(s:ByteArray):Bool:=((j3 s)&&(!(uZ s)))
def fU.K1  : Int:=(-1)
def fU.L1(s:ByteArray)(k:Int):List ByteArray->Nat->Int
 |[],i1=>(k)
 |y1::rz1,i1=>(bif(y1.toList==s.toList)then(i1:Int)else(fU.L1 s k rz1 (i1+1)))
def fU(l:List ByteArray)(s:ByteArray):Int:=((fU.L1 s (fU.K1)) l 0)
def fH.K1  : Bool:=true
def fH.L1(l:List ByteArray)(k:Bool):List ByteArray->Nat->Bool
 |[],i1=>(k)
 |y1::rz1,i1=>(bif((!(oZ y1))||((fU l y1) != (i1:Int)))then false else(fH.L1 l k rz1 (i1+1)))
def fH(l:List ByteArray):Bool:=((fH.L1 l (fH.K1)) l 0)
def cv.K1  : Bool:=true
def cv.L1(rec:List ByteArray->aj->Bool)(aC:List ByteArray)(k:Bool):List aj->Bool
 |[]=>(k)
 |y1::rz1=>(bif(!(rec aC y1))then false else(cv.L1 rec aC k rz1))
def cv.F(rec:List ByteArray->aj->Bool)(aC:List ByteArray)(x:aj):Bool:=(bif(((x.Kind==1)||(x.Kind==2))&&decide ((fU aC x.Name)<0))then false else((cv.L1 rec aC (cv.K1)) x.L))
def cv.go:Nat->List ByteArray->aj->Bool
 |0=>λ_ _=>default
 |m+1=>cv.F (cv.go m)
def cv(aC:List ByteArray)(x:aj):Bool:=cv.go x.dep aC x
def iS.K1(p:aw):Bool:=(cv p.aA p.aO)
def iS.L1(p:aw)(k:Bool):List fC->Bool
 |[]=>(k)
 |y1::rz1=>(bif(!(cv p.aA y1.aj))then false else(iS.L1 p k rz1))
def iS(p:aw):Bool:=(bif(((!(oZ p.Name))||(!(fH p.aA)))||(!(fH p.dN)))then false else((iS.L1 p (iS.K1 p)) p.dp))
def aR.K1(x:aj)(upto:Bool):Bool:=(bif(x.Kind==1)then((x.N==0)&&((x.L.length:Int)==0))else(bif(x.Kind==2)then((decide (1<=x.N)&&decide (x.N<=4096))&&((x.L.length:Int)==0))else(bif(x.Kind==3)then(((((x.Name.toList==(⟨#[]⟩:ByteArray).toList)&&decide (1<=(x.L.length:Int)))&&decide ((x.L.length:Int)<=16))&&decide (1<=x.N))&&decide (x.N<=(x.L.length:Int)))else(bif(x.Kind==4)then((((upto&&(x.Name.toList==(⟨#[]⟩:ByteArray).toList))&&((x.L.length:Int)==2))&&decide (0<=x.N))&&decide (x.N<=1099511627776))else false))))
def aR.L1(rec:aj->Bool->Bool)(upto:Bool)(k:Bool):List aj->Bool
 |[]=>(k)
 |y1::rz1=>(bif(!(rec y1 upto))then false else(aR.L1 rec upto k rz1))
def aR.F(rec:aj->Bool->Bool)(x:aj)(upto:Bool):Bool:=((aR.L1 rec upto (aR.K1 x upto)) x.L)
def aR.go:Nat->aj->Bool->Bool
 |0=>λ_ _=>default
 |m+1=>aR.F (aR.go m)
def aR(x:aj)(upto:Bool):Bool:=aR.go x.dep x upto
def gN.K1(p:aw):Bool:=(aR p.aO false)
def gN.L1(p:aw)(k:Bool):List fC->Nat->Bool
 |[],i1=>(k)
 |y1::rz1,i1=>(bif((((!(y1.Kind.toList==(nthI p.dN (i1:Int)).toList))||decide (y1.iV<0))||decide (1099511627776<=y1.iV))||(!(aR y1.aj true)))then false else(gN.L1 p k rz1 (i1+1)))
def gN(p:aw):Bool:=(bif(((decide ((p.dN.length:Int)<1)||((p.dp.length:Int) != (p.dN.length:Int)))||decide (p.Mode<1))||decide (4<p.Mode))then false else((gN.L1 p (gN.K1 p)) p.dp 0))
def av.K1(aC:List ByteArray)(x:aj)(ns:List aj):aj:=(aj.mk x.Kind x.N (fU aC x.Name) x.Name ns)
def av.L1(rec:List ByteArray->aj->aj)(aC:List ByteArray)(k:List aj->aj):List aj->List aj->aj
 |[],ns=>(k ns)
 |y1::rz1,ns=>(av.L1 rec aC k rz1 (ns++[(rec aC y1)]))
def av.K2(x:aj)(nr:List aj):aj:=(aj.mk x.Kind x.N 0 x.Name nr)
def av.L2(rec:List ByteArray->aj->aj)(aC:List ByteArray)(k:List aj->aj):List aj->List aj->aj
 |[],nr=>(k nr)
 |y2::rz2,nr=>(av.L2 rec aC k rz2 (nr++[(rec aC y2)]))
def av.F(rec:List ByteArray->aj->aj)(aC:List ByteArray)(x:aj):aj:=(bif((x.Kind==1)||(x.Kind==2))then((av.L1 rec aC (av.K1 aC x)) x.L ([]))else((av.L2 rec aC (av.K2 x)) x.L ([])))
def av.go:Nat->List ByteArray->aj->aj
 |0=>λ_ _=>default
 |m+1=>av.F (av.go m)
def av(aC:List ByteArray)(x:aj):aj:=av.go x.dep aC x
def eo.K1(p:aw)(nt:List fC):(aw×Int):=((aw.mk p.Name p.dN p.aA nt (aj.mk ((av p.aA p.aO).Kind) ((av p.aA p.aO).N) ((av p.aA p.aO).No) ((av p.aA p.aO).Name) ((av p.aA p.aO).L)) p.Mode),0)
def eo.L1(p:aw)(k:List fC->(aw×Int)):List fC->Nat->List fC->(aw×Int)
 |[],i1,nt=>(k nt)
 |y1::rz1,i1,nt=>(eo.L1 p k rz1 (i1+1) (nt++[(fC.mk y1.Kind (i1:Int) y1.iV (aj.mk ((av p.aA y1.aj).Kind) ((av p.aA y1.aj).N) ((av p.aA y1.aj).No) ((av p.aA y1.aj).Name) ((av p.aA y1.aj).L)))]))
def eo(p:aw):(aw×Int):=(bif(fG p)then((aw.mk (⟨#[]⟩:ByteArray) ([]) ([]) ([]) (aj.mk 0 0 0 (⟨#[]⟩:ByteArray) ([])) 0),2)else(bif(!(iS p))then((aw.mk (⟨#[]⟩:ByteArray) ([]) ([]) ([]) (aj.mk 0 0 0 (⟨#[]⟩:ByteArray) ([])) 0),201)else(bif(!(gN p))then((aw.mk (⟨#[]⟩:ByteArray) ([]) ([]) ([]) (aj.mk 0 0 0 (⟨#[]⟩:ByteArray) ([])) 0),200)else((eo.L1 p (eo.K1 p)) p.dp 0 ([])))))
abbrev lsz0:ByteArray:=⟨#[104,111,117,115,101]⟩
abbrev lsz1:ByteArray:=⟨#[108,101,116,116,101,114]⟩
abbrev lsz2:ByteArray:=⟨#[98,111,97,114,100]⟩
abbrev lszx:aj:=aj.mk 2 2 0 lsz2 ([])
abbrev lszp:aw:=aw.mk lsz0 ([lsz1]) ([lsz2]) ([(fC.mk lsz1 0 0 lszx)]) lszx 2
abbrev lszq:aw:=(eo lszp).1
def cH.K2(lN:List aK)(n9:List ay):Register:=(Register.mk lN ([]) ([]) ([]) ([(aE.mk 0 0 0 lszq)]) ([(ao.mk 5 0 0 0 0 1099511627776 ([]) ([]) ([]) (λ_=>0))]) n9)
def cH.L2(k:List ay->Register):List Int->Nat->List ay->Register
 |[],i2,n9=>(k n9)
 |y2::rz2,i2,n9=>(cH.L2  k rz2 (i2+1) (n9++[(ay.mk (i2:Int) 0 0 5 y2 y2 0 false)]))
def cH.K1(kU:List Int)(lN:List aK):Register:=((cH.L2 (cH.K2 lN)) kU 0 ([]))
def cH.L1(k:List aK->Register):List Nat->Nat->List aK->Register
 |[],i1,lN=>(k lN)
 |y1::rz1,i1,lN=>(cH.L1  k rz1 (i1+1) (lN++[(aK.mk (i1:Int) 0 0 0 (((i1+1):Nat):Int) 1 false)]))
def cH(kU:List Int):Register:=((cH.L1 (cH.K1 kU)) (vD 3) 0 ([]))
def my.K1  : Bool:=true
def my.L1(ky:List Lack)(k:Bool):List Lack->Nat->Bool
 |[],i1=>(k)
 |y1::rz1,i1=>(bif(!(decide (y1=(nthI ky (i1:Int)))))then false else(my.L1 ky k rz1 (i1+1)))
def my(a:List Lack)(ky:List Lack):Bool:=(bif((a.length:Int) != (ky.length:Int))then false else((my.L1 ky (my.K1)) a 0))
def vl(cK:Register)(signed:Int)(want:List Lack):Bool:=((((aY cK ([signed]) ([]) 5 9 9).2.2==0)&&((aY cK ([signed]) ([]) 5 9 9).2.1==decide (signed<0)))&&(my ((aY cK ([signed]) ([]) 5 9 9).1) want))
def CO:Bool:=true
def il.K1(fg:Int):Int:=fg
def il.L1(rec:aj->Int->Int)(dL:Int)(k:Int->Int):List aj->Int->Int
 |[],fg=>(k fg)
 |y1::rz1,fg=>(bif(decide (fg<=dL))then(il.L1 rec dL k rz1 (kB .i64 (fg+(rec y1 (kB .i64 (dL-fg))))))else(k fg))
def il.F(rec:aj->Int->Int)(x:aj)(dL:Int):Int:=((il.L1 rec dL (il.K1)) x.L 1)
def il.go:Nat->aj->Int->Int
 |0=>λ_ _=>default
 |m+1=>il.F (il.go m)
def il(x:aj)(dL:Int):Int:=il.go x.dep x dL
def eL.L2(k:Bool):List fC->Bool
 |[]=>(k)
 |y2::rz2=>(bif(decide (40<(il y2.aj 40)))then false else(eL.L2  k rz2))
def eL.L3(k:Bool):List fC->Bool
 |[]=>(k)
 |y3::rz3=>(bif(decide (40<(il y3.aj 40)))then false else(eL.L3  k rz3))
def eL.K1  : Bool:=true
def eL.L1(k:Bool):List aE->Bool
 |[]=>(k)
 |y1::rz1=>(bif(((decide (20<(y1.aw.dN.length:Int))||decide (40<(y1.aw.aA.length:Int)))||decide (20<(y1.aw.dp.length:Int)))||decide (40<(il y1.aw.aO 40)))then false else((eL.L3 ((eL.L1  k rz1))) y1.aw.dp))
def eL(l:List aE):Bool:=(bif(decide (5<(l.length:Int)))then false else((eL.L1 (eL.K1)) l))
def mr.K1  : Bool:=true
def mr.L1(k:Bool):List ao->Bool
 |[]=>(k)
 |y1::rz1=>(bif((decide (20<(y1.lh.length:Int))||decide (20<(y1.fe.length:Int)))||decide (20<(y1.fp.length:Int)))then false else(mr.L1  k rz1))
def mr(cK:Register):Bool:=(bif((((((decide (30<(cK.dF.length:Int))||decide (12<(cK.ga.length:Int)))||decide (12<(cK.er.length:Int)))||decide (12<(cK.dH.length:Int)))||decide (8<(cK.cd.length:Int)))||decide (24<(cK.dC.length:Int)))||(!(eL cK.Versions)))then false else((mr.L1 (mr.K1)) cK.cd))
def lK.K1  : Bool:=true
def lK.L1(k:Bool):List aK->Bool
 |[]=>(k)
 |y1::rz1=>(bif(decide (5<y1.cM))then false else(lK.L1  k rz1))
def lK(cK:Register)(signed:List Int)(u:List Use):Bool:=(bif(((!(mr cK))||decide (20<(signed.length:Int)))||decide (30<(u.length:Int)))then false else((lK.L1 (lK.K1)) cK.dF))
def ve(gF:Int):Bool:=(decide (0<=gF)&&decide (gF<1099511627776))
def uj(gF:Int):Bool:=(decide (0<=gF)&&decide (gF<32))
def ui(gF:Int):Bool:=(decide (0<=gF)&&decide (gF<64))
def nO(x:aK):Bool:=(bif(((((decide (x.No<0)||decide (1048576<x.No))||(!(ve x.At)))||(!(ve x.dY)))||(!(uj x.eD)))||(!(ui x.cM)))then false else(bif x.nj then(x.gj==0)else(decide (1<=x.gj)&&decide (x.gj<=64))))
def jz.K1  : Int:=0
def jz.L1(l:List aK)(k:Int):List aK->Nat->Int
 |[],i1=>(k)
 |y1::rz1,i1=>(bif((!(nO y1))||(decide (0<(i1:Int))&&decide (y1.No<=(nthI l ((i1:Int)-1)).No)))then 150 else(jz.L1 l k rz1 (i1+1)))
def jz(l:List aK):Int:=(bif(decide (4096<(l.length:Int)))then 2 else((jz.L1 l (jz.K1)) l 0))
def me(gF:Int)(low:Int)(high:Int):Bool:=(decide (low<=gF)&&decide (gF<=high))
def u9(gF:Int):Bool:=(me gF 0 1099511627775)
def rg(gF:Int):Bool:=(me gF 0 63)
def nN(x:bA):Bool:=(bif((((((!(me x.No 0 1048576))||(!(u9 x.At)))||(!(u9 x.dY)))||(!(rg x.From)))||(!(rg x.To)))||(x.From==x.To))then false else(bif((!(me x.eD 0 31))||(!(me x.Kind (-1) 15)))then false else(bif x.nj then((x.mX==0)&&(x.Ob==0))else((decide (x.At<x.mX)&&decide (x.mX<=1099511627776))&&(me x.Ob 0 1099511627776)))))
def jk.K1  : Int:=0
def jk.L1(l:List bA)(k:Int):List bA->Nat->Int
 |[],i1=>(k)
 |y1::rz1,i1=>(bif((!(nN y1))||(decide (0<(i1:Int))&&decide (y1.No<=(nthI l ((i1:Int)-1)).No)))then 160 else(jk.L1 l k rz1 (i1+1)))
def jk(l:List bA):Int:=(bif(decide (4096<(l.length:Int)))then 2 else((jk.L1 l (jk.K1)) l 0))
def uX(t:Int):Bool:=(decide (0<=t)&&decide (t<1099511627776))
def sM(gF:Int):Bool:=(decide (0<=gF)&&decide (gF<=1048576))
def ug(gF:Int):Bool:=(decide (0<=gF)&&decide (gF<64))
def nK(x:aG):Bool:=(bif((((decide (x.No<0)||decide (1048576<x.No))||(!(uX x.At)))||(!(uX x.dY)))||(!(sM x.iH)))then false else(bif x.Of then((sM x.cM)&&(x.cM != x.iH))else(ug x.cM)))
def ji.K1  : Int:=0
def ji.L1(l:List aG)(k:Int):List aG->Nat->Int
 |[],i1=>(k)
 |y1::rz1,i1=>(bif((!(nK y1))||(decide (0<(i1:Int))&&decide (y1.No<=(nthI l ((i1:Int)-1)).No)))then 290 else(ji.L1 l k rz1 (i1+1)))
def ji(l:List aG):Int:=(bif(decide (4096<(l.length:Int)))then 2 else((ji.L1 l (ji.K1)) l 0))
def jU(gF:Int)(least:Int)(most:Int):Bool:=(decide (least<=gF)&&decide (gF<=most))
def kY(gF:Int):Bool:=(decide (0<=gF)&&decide (gF<1099511627776))
def nM(x:Budget):Bool:=(bif(((((!(jU x.No 0 1048576))||(!(kY x.At)))||(!(kY x.dY)))||(!(jU x.Kind (-1) 15)))||(!(jU x.e8 1 1099511627776)))then false else(bif x.nj then((x.Count==0)&&(x.Value==0))else((jU x.Count 0 1048576)&&(jU x.Value 0 1099511627776))))
def gq.K1  : Int:=0
def gq.L1(l:List Budget)(k:Int):List Budget->Nat->Int
 |[],i1=>(k)
 |y1::rz1,i1=>(bif((!(nM y1))||(decide (0<(i1:Int))&&decide (y1.No<=(nthI l ((i1:Int)-1)).No)))then 180 else(gq.L1 l k rz1 (i1+1)))
def gq(l:List Budget):Int:=(bif(decide (4096<(l.length:Int)))then 2 else((gq.L1 l (gq.K1)) l 0))
def gp(gF:Int):Bool:=(decide (0<=gF)&&decide (gF<1099511627776))
def gg.K1  : Bool:=true
def gg.L1(ky:List ByteArray)(k:Bool):List ByteArray->Nat->Bool
 |[],i1=>(k)
 |y1::rz1,i1=>(bif(!(y1.toList==(nthI ky (i1:Int)).toList))then false else(gg.L1 ky k rz1 (i1+1)))
def gg(a:List ByteArray)(ky:List ByteArray):Bool:=(bif((a.length:Int) != (ky.length:Int))then false else((gg.L1 ky (gg.K1)) a 0))
def bG.K1  : Bool:=true
def bG.L1(rec:aj->aj->Bool)(ky:aj)(k:Bool):List aj->Nat->Bool
 |[],i1=>(k)
 |y1::rz1,i1=>(bif(!(rec y1 (nthI ky.L (i1:Int))))then false else(bG.L1 rec ky k rz1 (i1+1)))
def bG.F(rec:aj->aj->Bool)(a:aj)(ky:aj):Bool:=(bif(((((a.Kind != ky.Kind)||(a.N != ky.N))||(a.No != ky.No))||(!(a.Name.toList==ky.Name.toList)))||((a.L.length:Int) != (ky.L.length:Int)))then false else((bG.L1 rec ky (bG.K1)) a.L 0))
def bG.go:Nat->aj->aj->Bool
 |0=>λ_ _=>default
 |m+1=>bG.F (bG.go m)
def bG(a:aj)(ky:aj):Bool:=bG.go a.dep a ky
def jo.K1  : Bool:=true
def jo.L1(ky:aw)(k:Bool):List fC->Nat->Bool
 |[],i1=>(k)
 |y1::rz1,i1=>(bif((((!(y1.Kind.toList==(nthI ky.dp (i1:Int)).Kind.toList))||(y1.Bl != (nthI ky.dp (i1:Int)).Bl))||(y1.iV != (nthI ky.dp (i1:Int)).iV))||(!(bG y1.aj ((nthI ky.dp (i1:Int)).aj))))then false else(jo.L1 ky k rz1 (i1+1)))
def jo(a:aw)(ky:aw):Bool:=(bif((((((!(a.Name.toList==ky.Name.toList))||(a.Mode != ky.Mode))||(!(gg a.aA ky.aA)))||(!(gg a.dN ky.dN)))||((a.dp.length:Int) != (ky.dp.length:Int)))||(!(bG a.aO ky.aO)))then false else((jo.L1 ky (jo.K1)) a.dp 0))
def im(p:aw):Int:=(bif((eo p).2 != 0)then(eo p).2 else(bif(!(jo ((eo p).1) p))then 200 else 0))
def eb.K1  : Int:=0
def eb.L1(l:List aE)(k:Int):List aE->Nat->Int
 |[],i1=>(k)
 |y1::rz1,i1=>(bif(((((decide (y1.No<0)||decide (1048576<y1.No))||(decide (0<(i1:Int))&&decide (y1.No<=(nthI l ((i1:Int)-1)).No)))||(!(gp y1.At)))||(!(gp y1.dY)))||((im y1.aw) != 0))then 200 else(eb.L1 l k rz1 (i1+1)))
def eb(l:List aE):Int:=(bif(decide (256<(l.length:Int)))then 2 else((eb.L1 l (eb.K1)) l 0))
def o9(t:Int):Bool:=(decide (0<=t)&&decide (t<1099511627776))
def gu.K1(l:List Int):Bool:=decide ((l.length:Int)<=16)
def gu.L1(l:List Int)(dL:Int)(k:Bool):List Int->Nat->Bool
 |[],i1=>(k)
 |y1::rz1,i1=>(bif((decide (y1<0)||decide (dL<=y1))||(decide (0<(i1:Int))&&decide (y1<=(nthI l ((i1:Int)-1)))))then false else(gu.L1 l dL k rz1 (i1+1)))
def gu(l:List Int)(dL:Int):Bool:=((gu.L1 l dL (gu.K1 l)) l 0)
def na(d:ao):Bool:=(bif((((((decide (d.No<0)||decide (4096<=d.No))||(!(o9 d.At)))||decide (d.Kind<0))||decide (16<=d.Kind))||decide (d.Value<0))||decide (1099511627776<d.Value))then false else(((((decide (0<=d.From)&&decide (d.From<d.mX))&&decide (d.mX<=1099511627776))&&(gu d.lh 1048577))&&(gu d.fe d.No))&&(gu d.fp d.No)))
def gQ.K1  : Int:=(-1)
def gQ.L1(no:Int)(k:Int):List ao->Nat->Int
 |[],i1=>(k)
 |y1::rz1,i1=>(bif(y1.No==no)then(i1:Int)else(gQ.L1 no k rz1 (i1+1)))
def gQ(l:List ao)(no:Int):Int:=((gQ.L1 no (gQ.K1)) l 0)
def gr.K1  : Bool:=true
def gr.L1(l:List ao)(k:Bool):List Int->Bool
 |[]=>(k)
 |y1::rz1=>(bif(decide ((gQ l y1)<0))then false else(gr.L1 l k rz1))
def gr(l:List ao)(nos:List Int):Bool:=((gr.L1 l (gr.K1)) nos)
def et.K1  : Int:=0
def et.L1(l:List ao)(k:Int):List ao->Nat->Int
 |[],i1=>(k)
 |y1::rz1,i1=>(bif((((!(na y1))||(decide (0<(i1:Int))&&decide (y1.No<=(nthI l ((i1:Int)-1)).No)))||(!(gr l y1.fe)))||(!(gr l y1.fp)))then 170 else(et.L1 l k rz1 (i1+1)))
def et(l:List ao):Int:=(bif(decide (4096<(l.length:Int)))then 2 else((et.L1 l (et.K1)) l 0))
def ma(gF:Int)(most:Int):Bool:=(decide (0<=gF)&&decide (gF<=most))
def uY(gF:Int):Bool:=(ma gF 1099511627775)
def Bs(gF:Int):Bool:=(ma gF 4095)
def nL(x:ay):Bool:=(bif((((!(ma x.No 1048576))||(!(uY x.At)))||(!(uY x.dY)))||(!(Bs x.Doc)))then false else(((ma x.By 63)&&(ma x.For 63))&&(ma x.eD 31)))
def jj.K1  : Int:=0
def jj.L1(l:List ay)(k:Int):List ay->Nat->Int
 |[],i1=>(k)
 |y1::rz1,i1=>(bif((!(nL y1))||(decide (0<(i1:Int))&&decide (y1.No<=(nthI l ((i1:Int)-1)).No)))then 280 else(jj.L1 l k rz1 (i1+1)))
def jj(l:List ay):Int:=(bif(decide (4096<(l.length:Int)))then 2 else((jj.L1 l (jj.K1)) l 0))
def nJ(cK:Register):Int:=(bif(((((jz cK.dF) != 0)||((jk cK.ga) != 0))||((ji cK.er) != 0))||((gq cK.dH) != 0))then 300 else(bif((((eb cK.Versions) != 0)||((et cK.cd) != 0))||((jj cK.dC) != 0))then 300 else 0))
def fu.K1(l:List ao)(signed:List Int):Bool:=((signed.length:Int)==(l.length:Int))
def fu.L1(k:Bool):List Int->Bool
 |[]=>(k)
 |y1::rz1=>(bif((y1 != (-1))&&(!(o9 y1)))then false else(fu.L1  k rz1))
def fu(l:List ao)(signed:List Int):Bool:=((fu.L1 (fu.K1 l signed)) signed)
def gL.K1  : Bool:=false
def gL.L1(EH:Int)(k:Bool):List Int->Bool
 |[]=>(k)
 |y1::rz1=>(bif(y1==EH)then true else(gL.L1 EH k rz1))
def gL(l:List Int)(EH:Int):Bool:=((gL.L1 EH (gL.K1)) l)
def e9.K1(l:List ao)(yn:Int)(cy:Int):(Int×Int):=(bif(decide (cy<(nthI l yn).From))then(2,(-1))else(bif(decide ((nthI l yn).mX<=cy))then(3,(-1))else(0,(-1))))
def e9.L1(l:List ao)(done:List Int)(effective:List Bool)(yn:Int)(k:(Int×Int)):List ao->Nat->(Int×Int)
 |[],i1=>(k)
 |y1::rz1,i1=>(bif(((gL done (i1:Int))&&(nthI effective (i1:Int)))&&(gL y1.fe ((nthI l yn).No)))then(5,y1.No)else(e9.L1 l done effective yn k rz1 (i1+1)))
def e9(l:List ao)(done:List Int)(effective:List Bool)(yn:Int)(cy:Int):(Int×Int):=(bif(!(gL done yn))then(1,(-1))else(bif(!(nthI effective yn))then(4,(-1))else((e9.L1 l done effective yn (e9.K1 l yn cy)) l 0)))
def cq.L2(signed:List Int)(k:List Int):List Nat->Nat->List Int
 |[],i2=>(k)
 |y2::rz2,i2=>(bif(decide ((nthI signed 0)<(nthI signed (nthI ([]) (((0-(i2+1)):Nat):Int)))))then(cq.L2 signed k rz2 (i2+1))else(k))
def cq.L3(signed:List Int)(y1:Int)(fg:List Int)(k:Nat->List Int):List Nat->Nat->List Int
 |[],i3=>(k (i3))
 |y3::rz3,i3=>(bif(decide (y1<(nthI signed (nthI fg (((fg.length-(i3+1)):Nat):Int)))))then(cq.L3 signed y1 fg k rz3 (i3+1))else(k (i3)))
def cq.K1(fg:List Int):List Int:=fg
def cq.L1(signed:List Int)(lu:Int)(k:List Int->List Int):List Int->Nat->List Int->List Int
 |[],i1,fg=>(k fg)
 |y1::rz1,i1,fg=>(bif(decide (y1<0)||decide (lu<y1))then(cq.L1 signed lu k rz1 (i1+1) fg)else((cq.L3 signed y1 fg (λzi3=>(cq.L1 signed lu k rz1 (i1+1) (((fg.take (((((fg.length-zi3):Nat):Int):Int)).toNat)++[(i1:Int)])++(fg.drop (((((fg.length-zi3):Nat):Int):Int)).toNat))))) (vD fg.length) 0))
def cq(signed:List Int)(lu:Int):List Int:=((cq.L1 signed lu (cq.K1)) signed 0 ([]))
def ct.L3(l:List ao)(signed:List Int)(bq:Int)(k:List Int->List Int):List Nat->Nat->List Int->List Int
 |[],i3,Ud=>(k Ud)
 |y3::rz3,i3,Ud=>(bif((e9 l ((cq signed bq).take ((0:Int)).toNat) (List.replicate l.length false) (gQ l (nthI ((nthI l (nthI (cq signed bq) 0)).fp) ((((((nthI l (nthI (cq signed bq) 0)).fp.length)-i3):Nat):Int)-1))) (nthI signed (nthI (cq signed bq) 0))).1 != 0)then(ct.L3 l signed bq k rz3 (i3+1) (Ud.set ((nthI (cq signed bq) 0):Int).toNat (nthI ((nthI l (nthI (cq signed bq) 0)).fp) ((((((nthI l (nthI (cq signed bq) 0)).fp.length)-i3):Nat):Int)-1))))else(ct.L3 l signed bq k rz3 (i3+1) Ud))
def ct.L4(l:List ao)(signed:List Int)(bq:Int)(i2:Nat)(y2:Int)(mG:List Bool)(k:List Int->List Int):List Nat->Nat->List Int->List Int
 |[],i4,vZ=>(k vZ)
 |y4::rz4,i4,vZ=>(bif((e9 l ((cq signed bq).take (((i2:Int):Int)).toNat) mG (gQ l (nthI ((nthI l y2).fp) ((((((nthI l y2).fp.length)-i4):Nat):Int)-1))) (nthI signed y2)).1 != 0)then(ct.L4 l signed bq i2 y2 mG k rz4 (i4+1) (vZ.set (y2:Int).toNat (nthI ((nthI l y2).fp) ((((((nthI l y2).fp.length)-i4):Nat):Int)-1))))else(ct.L4 l signed bq i2 y2 mG k rz4 (i4+1) vZ))
def ct.K2(mG:List Bool)(In:List Int):List Int:=In
def ct.L2(l:List ao)(signed:List Int)(bq:Int)(k:List Bool->List Int->List Int):List Int->Nat->List Bool->List Int->List Int
 |[],i2,mG,In=>(k mG In)
 |y2::rz2,i2,mG,In=>((ct.L4 l signed bq i2 y2 mG (λzg4_9=>(ct.L2 l signed bq k rz2 (i2+1) (mG.set (y2:Int).toNat (decide ((nthI zg4_9 y2)<0))) zg4_9))) (vD ((nthI l y2).fp.length)) 0 In)
def ct.K1(l:List ao)(signed:List Int)(bq:Int)(qf:List Int):List Int:=((ct.L2 l signed bq (ct.K2)) (cq signed bq) 0 (List.replicate l.length false) qf)
def ct.L1(k:List Int->List Int):List ao->List Int->List Int
 |[],qf=>(k qf)
 |y1::rz1,qf=>(ct.L1  k rz1 (qf++[(-1)]))
def ct(l:List ao)(signed:List Int)(bq:Int):List Int:=((ct.L1 (ct.K1 l signed bq)) l ([]))
def ll.K1(l:List ao)(signed:List Int)(DO:Int)(dA:Int)(mL:List Bool):(Int×Int):=(bif((e9 l (cq signed dA) mL DO dA).1==4)then((e9 l (cq signed dA) mL DO dA).1,(nthI (ct l signed dA) DO))else((e9 l (cq signed dA) mL DO dA).1,(e9 l (cq signed dA) mL DO dA).2))
def ll.L1(l:List ao)(signed:List Int)(dA:Int)(k:List Bool->(Int×Int)):List ao->Nat->List Bool->(Int×Int)
 |[],i1,mL=>(k mL)
 |y1::rz1,i1,mL=>(ll.L1 l signed dA k rz1 (i1+1) (mL++[decide ((nthI (ct l signed dA) (i1:Int))<0)]))
def ll(l:List ao)(signed:List Int)(DO:Int)(dA:Int):(Int×Int):=((ll.L1 l signed dA (ll.K1 l signed DO dA)) l 0 ([]))
def fR.K1(qf:List Int):(List Int×Int):=(qf,0)
def fR.L1(l:List ao)(signed:List Int)(bq:Int)(k:List Int->(List Int×Int)):List ao->Nat->List Int->(List Int×Int)
 |[],i1,qf=>(k qf)
 |y1::rz1,i1,qf=>(bif((ll l signed (i1:Int) bq).1==0)then(fR.L1 l signed bq k rz1 (i1+1) (qf++[y1.No]))else(fR.L1 l signed bq k rz1 (i1+1) qf))
def fR(l:List ao)(signed:List Int)(bq:Int):(List Int×Int):=(bif((et l) != 0)then([],(et l))else(bif((!(fu l signed))||(!(o9 bq)))then([],1)else((fR.L1 l signed bq (fR.K1)) l 0 ([]))))
def u0(gF:Int):Bool:=(decide (0<=gF)&&decide (gF<16))
def gP.L2(u:List Use)(k:Bool):List Nat->Nat->Bool
 |[],i2=>(k)
 |y2::rz2,i2=>(bif((nthI u (i2:Int)).Doc==(nthI u 0).Doc)then false else(gP.L2 u k rz2 (i2+1)))
def gP.L3(u:List Use)(y1:Use)(k:Bool):List Nat->Nat->Bool
 |[],i3=>(k)
 |y3::rz3,i3=>(bif((nthI u (i3:Int)).Doc==y1.Doc)then false else(gP.L3 u y1 k rz3 (i3+1)))
def gP.K1  : Bool:=true
def gP.L1(u:List Use)(k:Bool):List Use->Nat->Bool
 |[],i1=>(k)
 |y1::rz1,i1=>(bif(((((!(jU y1.Doc 0 4095))||(!(u0 y1.Kind)))||(!(jU y1.Value 0 1099511627776)))||(!(kY y1.At)))||(!(kY y1.dY)))then false else((gP.L3 u y1 ((gP.L1 u k rz1 (i1+1)))) (vD i1) 0))
def gP(u:List Use):Bool:=((gP.L1 u (gP.K1)) u 0)
def uh(x:Budget)(lu:Int)(ah:Int):Bool:=(decide (x.At<=lu)&&decide (x.dY<=ah))
def mb.K1  : Bool:=true
def mb.L1(l:List Budget)(sD:Int)(bq:Int)(ah:Int)(k:Bool):List Budget->Bool
 |[]=>(k)
 |y1::rz1=>(bif((((y1.Kind==(nthI l sD).Kind)&&(y1.e8==(nthI l sD).e8))&&(uh y1 bq ah))&&(decide ((nthI l sD).At<y1.At)||((y1.At==(nthI l sD).At)&&decide ((nthI l sD).No<y1.No))))then false else(mb.L1 l sD bq ah k rz1))
def mb(l:List Budget)(sD:Int)(bq:Int)(ah:Int):Bool:=(bif((nthI l sD).nj||(!(uh (nthI l sD) bq ah)))then false else((mb.L1 l sD bq ah (mb.K1)) l))
def fI.K1(qf:List Budget):List Budget:=qf
def fI.L1(l:List Budget)(EH:Int)(bq:Int)(ah:Int)(k:List Budget->List Budget):List Budget->Nat->List Budget->List Budget
 |[],i1,qf=>(k qf)
 |y1::rz1,i1,qf=>(bif(((y1.Kind==(-1))||(y1.Kind==EH))&&(mb l (i1:Int) bq ah))then(fI.L1 l EH bq ah k rz1 (i1+1) (qf++[y1]))else(fI.L1 l EH bq ah k rz1 (i1+1) qf))
def fI(l:List Budget)(EH:Int)(bq:Int)(ah:Int):List Budget:=((fI.L1 l EH bq ah (fI.K1)) l 0 ([]))
def mU.K1(x:Budget)(mL:Int)(rG:Int):Bool:=(decide (x.Count<=mL)||decide (x.Value<rG))
def mU.L1(x:Budget)(dA:Int)(ah:Int)(k:Int->Int->Bool):List Use->Int->Int->Bool
 |[],mL,rG=>(k mL rG)
 |y1::rz1,mL,rG=>(bif((decide (y1.dY<=ah)&&((x.Kind==(-1))||(x.Kind==y1.Kind)))&&((kB .i64 (y1.At.tdiv x.e8))==(kB .i64 (dA.tdiv x.e8))))then(mU.L1 x dA ah k rz1 (kB .i64 (mL+1)) (kB .i64 (rG+y1.Value)))else(mU.L1 x dA ah k rz1 mL rG))
def mU(x:Budget)(u:List Use)(value:Int)(dA:Int)(ah:Int):Bool:=((mU.L1 x dA ah (mU.K1 x)) u 0 value)
def iv.K1  : (Int×Bool×Int):=((-1),true,0)
def iv.L1(u:List Use)(value:Int)(cy:Int)(ah:Int)(k:(Int×Bool×Int)):List Budget->(Int×Bool×Int)
 |[]=>(k)
 |y1::rz1=>(bif(mU y1 u value cy ah)then(y1.No,false,0)else(iv.L1 u value cy ah k rz1))
def iv(l:List Budget)(u:List Use)(L8:Int)(value:Int)(cy:Int)(ah:Int):(Int×Bool×Int):=(bif((gq l) != 0)then(0,false,(gq l))else(bif(decide (4096<(u.length:Int)))then(0,false,2)else(bif(!(gP u))then(0,false,180)else(bif((((!(u0 L8))||(!(jU value 0 1099511627776)))||(!(kY cy)))||(!(kY ah)))then(0,false,1)else((iv.L1 u value cy ah (iv.K1)) (fI l L8 cy ah))))))
def eR.K1  : Int:=(-1)
def eR.L1(no:Int)(k:Int):List ao->Nat->Int
 |[],i1=>(k)
 |y1::rz1,i1=>(bif(y1.No==no)then(i1:Int)else(eR.L1 no k rz1 (i1+1)))
def eR(cK:Register)(no:Int):Int:=((eR.L1 no (eR.K1)) cK.cd 0)
def nV(gF:Int):Bool:=(decide (0<=gF)&&decide (gF<1099511627776))
def oY(cK:Register)(signed:List Int)(u:List Use)(aV:Int)(cy:Int)(ah:Int):Int:=(bif((nJ cK) != 0)then 300 else(bif((fR cK.cd signed 0).2 != 0)then(fR cK.cd signed 0).2 else(bif((iv cK.dH u 0 0 0 0).2.2 != 0)then(iv cK.dH u 0 0 0 0).2.2 else(bif((decide ((eR cK aV)<0)||(!(nV cy)))||(!(nV ah)))then 1 else 0))))
def gV(cK:Register)(signed:List Int)(u:List Use)(aV:Int)(cy:Int)(ah:Int):Bool:=((lK cK signed u)&&((oY cK signed u aV cy ah)==0))
def fa.K1  : Bool:=false
def fa.L1(ky:List Lack)(k:Bool):List Lack->Nat->Bool
 |[],i1=>(k)
 |y1::rz1,i1=>(bif(!(decide (y1=(nthI ky (i1:Int)))))then(decide (y1.Kind<(nthI ky (i1:Int)).Kind)||((y1.Kind==(nthI ky (i1:Int)).Kind)&&decide (y1.N<(nthI ky (i1:Int)).N)))else(fa.L1 ky k rz1 (i1+1)))
def fa(a:List Lack)(ky:List Lack):Bool:=(bif((a.length:Int) != (ky.length:Int))then decide ((a.length:Int)<(ky.length:Int))else((fa.L1 ky (fa.K1)) a 0))
def em.K1  : Bool:=true
def em.L1(l:List Lack)(k:Bool):List Lack->Nat->Bool
 |[],i1=>(k)
 |y1::rz1,i1=>(bif(!(fa ([(nthI l ((i1:Int)-1))]) ([y1])))then false else(em.L1 l k rz1 (i1+1)))
def em(l:List Lack):Bool:=((em.L1 l (em.K1)) (l.drop 1) 1)
theorem wrap64{z:Int}(h:-9223372036854775808<=z/\z<=9223372036854775807):IntKind.i64.wrap z=z:=by
 have:=lv h;injection this
theorem aj.eta(x:aj):aj.mk x.Kind x.N x.No x.Name x.L=x:=by cases x;rfl
theorem aj.ind{P:aj->Prop}(h:∀x,(∀y∈x.L,P y)->P x)(x:aj):P x:=by
 have key:∀n(x:aj),x.dep<=n->P x:=by
  intro n
  induction n with
  |zero=>intro x hx;have:=aj.ni x;omega
  |succ n ih=>intro x hx;exact h x λy hy=>ih y (by have:=aj.lj hy;omega)
 exact key _ x (kE _)
theorem MZ(k:List gG):∀l,aQ.L3 k l=l++k
 |[]=>rfl
 |y::l=>by simp[aQ.L3,MZ k l]
theorem M0(rec:aj->Int->List gG)(d:Int):∀l,aQ.L1 rec d [] l=l.flatMap (λy=>rec y (d+1))
 |[]=>rfl
 |y::l=>by simp[aQ.L1,MZ,M0 rec d l]
theorem Lj(rec:aj->Int->List gG)(x:aj)(d:Int):aQ.F rec x d=⟨x,d⟩::x.L.flatMap (λy=>rec y (d+1)):=by
 simp[aQ.F,aQ.K1,M0,aj.eta]
theorem CV{α β : Type}{f g:α->List β}:∀{l:List α},(∀y∈l,f y=g y)->l.flatMap f=l.flatMap g
 |[],_=>rfl
 |y::l,h=>by
  rw[List.flatMap_cons,List.flatMap_cons,h y (vB ..),CV λz hz=>h z (xC _ hz)]
theorem MY(m:Nat):∀(x:aj)(d:Int),x.dep<=m->aQ.go m x d=bz x d:=by
 induction m using Nat.strongRecOn with
 |_ m ih=>
  intro x d hx
  unfold bz
  have hp:=aj.ni x
  obtain⟨m',rfl⟩:∃m',m=m'+1:=⟨m-1,by omega⟩
  obtain⟨n,hn⟩:∃n,x.dep=n+1:=⟨x.dep-1,by omega⟩
  rw[hn]
  show aQ.F (aQ.go m') x d=aQ.F (aQ.go n) x d
  rw[Lj,Lj]
  congr 1
  refine CV λy hy=>?_
  have:=aj.lj hy
  grind
theorem pb(x:aj)(d:Int):bz x d=⟨x,d⟩::x.L.flatMap (λy=>bz y (d+1)):=by
 have hp:=aj.ni x
 obtain⟨n,hn⟩:∃n,x.dep=n+1:=⟨x.dep-1,by omega⟩
 rw[←MY x.dep x d (kE _),hn]
 show aQ.F (aQ.go n) x d=_
 rw[Lj]
 congr 1
 exact CV λy hy=>MY n y _ (by have:=aj.lj hy;omega)
theorem Kk(Q:aj->Prop)(x:aj):∀d d',(∀z∈bz x d,Q z.x)->∀z∈bz x d',Q z.x:=by
 refine aj.ind (P:=λx=>∀d d',(∀z∈bz x d,Q z.x)->∀z∈bz x d',Q z.x) ?_ x
 intro x ih d d' h z hz
 rw[pb]at h hz
 rcases kD.1 hz with rfl|hz
 .exact h ⟨x,d⟩ (vB ..)
 .obtain⟨y,hy,hz⟩:=List.mem_flatMap.1 hz
  exact ih y hy (d+1) (d'+1) (λz' hz'=>h z' (xC _ (List.mem_flatMap.2 ⟨y,hy,hz'⟩))) z hz
theorem sy(Q:aj->Prop)(x:aj)(d:Int):(∀z∈bz x d,Q z.x)↔Q x/\∀y∈x.L,∀z∈bz y d,Q z.x:=by
 constructor
 .intro h
  rw[pb]at h
  exact⟨h ⟨x,d⟩ (vB ..),λy hy=>Kk Q y (d+1) d λz hz=>h z (xC _ (List.mem_flatMap.2 ⟨y,hy,hz⟩))⟩
 .rintro⟨h1,h2⟩ z hz
  rw[pb]at hz
  rcases kD.1 hz with rfl|hz
  .exact h1
  .obtain⟨y,hy,hz⟩:=List.mem_flatMap.1 hz
   exact Kk Q y d (d+1) (h2 y hy) z hz
def NZ(x:Except Int Unit):Prop:=∀e,x=.error e->e≠0
theorem NZ.ok:NZ (.ok ()):=λ_ h=>by cases h
theorem NZ.must(he:e≠0):NZ (fD c e):=λe' h=>by
 grind [fD]
theorem NZ.exi(hx:NZ x)(hf:NZ (f ())):NZ (Sg.exi x f):=by
 cases x with
 |ok u=>exact hf
 |error e=>exact λe' h=>hx e' h
theorem KH(h:NZ x):attR x=0↔x=.ok ():=by
 cases x with
 |ok u=>simp[attR]
 |error e=>simp only[attR,reduceCtorEq,iff_false];exact h e rfl
theorem sA:exi (fD c e) f=.ok ()↔c=true/\f ()=.ok ():=by grind [fD,exi]
theorem NN(p:aw):∀(l:List fC)(g:List aj),aF.L1 (aF.K1 p) l g=g++(l.map (·.aj)++[p.aO])
 |[],g=>by simp[aF.L1,aF.K1]
 |y::l,g=>by simp[aF.L1,NN p l]
theorem oF(p:aw):aF p=p.dp.map (·.aj)++[p.aO]:=by
 unfold aF;rw[NN];simp
theorem MB(k:Int->Except Int Unit)(hk:∀a b,k a=k b):∀(l:List gG)(g:Int),0<=g->g<=256->(cI.L3 k l g=.ok ()↔(g+l.length<=256/\∀z∈l,z.depth<=16)/\k 0=.ok ())
 |[],g,h0,h1=>by simp only[cI.L3,hk g 0,zB,kA];simp;omega
 |y::l,g,h0,h1=>by
  simp only[cI.L3,sA,qC,decide_eq_true_eq,wrap64 (z:=g+1) (by omega),zA,kD]
  by_cases h:g+1<=256
  .rw[MB k hk l (g+1) (by omega) h]
   grind
  .grind
theorem MC:∀(l:List aj),cI.L1 (.ok ()) l=.ok ()↔∀x∈l,(bz x 1).length<=256/\∀z∈bz x 1,z.depth<=16
 |[]=>by simp[cI.L1]
 |y::l=>by
  simp only[cI.L1]
  rw[MB _ (λ_ _=>rfl) _ 0 (by omega) (by omega),MC l]
  grind
theorem Di(p:aw):cI p=.ok ()↔(p.aA.length<=32/\p.dN.length<=16/\p.dp.length<=16)/\∀x∈aF p,(bz x 1).length<=256/\∀z∈bz x 1,z.depth<=16:=by
 unfold cI cI.K1
 rw[sA,MC]
 grind
theorem R0(p:aw):NZ (cI p):=by
 have h3:∀(k:Int->Except Int Unit),(∀a,NZ (k a))->∀l g,NZ (cI.L3 k l g):=by
  intro k hk l
  induction l with
  |nil=>exact λg=>hk g
  |cons y l ih=>exact λg=>NZ.exi (NZ.must (by omega)) (ih _)
 have h1:∀l,NZ (cI.L1 (.ok ()) l):=by
  intro l
  induction l with
  |nil=>exact NZ.ok
  |cons y l ih=>exact h3 _ (λ_=>ih) _ _
 exact NZ.exi (NZ.must (by omega)) (h1 _)
theorem M6(p:aw)(k:Except Int Unit):∀l,cJ.L3 p k l=.ok ()↔(∀z∈l,((!(dB z.x))||dq p.aA z.x.Name)=true)/\k=.ok ()
 |[]=>by simp[cJ.L3]
 |y::l=>by simp only[cJ.L3,sA,M6 p k l,kD,forall_eq_or_imp,and_assoc]
theorem M7(p:aw):∀l,cJ.L1 p (.ok ()) l=.ok ()↔∀x∈l,∀z∈bz x 1,((!(dB z.x))||dq p.aA z.x.Name)=true
 |[]=>by simp[cJ.L1]
 |y::l=>by simp only[cJ.L1,M6,M7 p l,kD,forall_eq_or_imp]
theorem HS(p:aw):cJ p=.ok ()↔(ec p.Name=true/\bQ p.aA ec=true/\bQ p.dN ec=true)/\∀x∈aF p,∀z∈bz x 1,((!(dB z.x))||dq p.aA z.x.Name)=true:=by
 unfold cJ cJ.K1
 rw[sA,M7]
 simp only[qC,and_assoc]
theorem Sv(p:aw):NZ (cJ p):=by
 have h3:∀(k:Except Int Unit),NZ k->∀l,NZ (cJ.L3 p k l):=by
  intro k hk l
  induction l with
  |nil=>exact hk
  |cons y l ih=>exact NZ.exi (NZ.must (by omega)) ih
 have h1:∀l,NZ (cJ.L1 p (.ok ()) l):=by
  intro l
  induction l with
  |nil=>exact NZ.ok
  |cons y l ih=>exact h3 _ ih _
 exact NZ.exi (NZ.must (by omega)) (h1 _)
theorem Qg(p:aw)(i:Nat)(k:Except Int Unit):∀l,bC.L4 p i k l=.ok ()↔(∀z∈l,(bh z.x.Kind 1 4&&kindsP z.x.Kind z.x)=true/\(decide ((i:Int)<IntKind.i64.wrap (((aF p).length:Int)-1))||(z.x.Kind != 4))=true)/\k=.ok ()
 |[]=>by simp[bC.L4]
 |y::l=>by simp only[bC.L4,sA,Qg p i k l,kD,forall_eq_or_imp,and_assoc]
theorem Gx(p:aw):∀l i,bC.L2 p (.ok ()) l i=.ok ()↔∀j x,l[j]? = some x->∀z∈bz x 1,(bh z.x.Kind 1 4&&kindsP z.x.Kind z.x)=true/\(decide (((i+j:Nat):Int)<IntKind.i64.wrap (((aF p).length:Int)-1))||(z.x.Kind != 4))=true
 |[],i=>by simp[bC.L2]
 |y::l,i=>by
  simp only[bC.L2]
  rw[Qg,Gx p l (i+1)]
  constructor
  .grind
  .intro h
   refine⟨λz hz=>h 0 y rfl z hz,λj x hj z hz=>?_⟩
   have:=h (j+1) x (by simpa using hj) z hz
   grind
theorem D6(p:aw)(k:Except Int Unit):∀l i,bC.L1 p k l i=.ok ()↔(∀j r,l[j]? = some r->((r.Kind.toList==(nthI p.dN (((i+j:Nat):Int))).toList)&&bh r.iV 0 1099511627775)=true)/\k=.ok ()
 |[],i=>by simp[bC.L1]
 |y::l,i=>by
  simp only[bC.L1]
  rw[sA,D6 p k l (i+1)]
  constructor
  .grind
  .rintro⟨h,h3⟩
   refine⟨h 0 y rfl,λj r hj=>?_,h3⟩
   have:=h (j+1) r (by simpa using hj)
   grind
theorem Uf(p:aw):NZ (bC p):=by
 have h4:∀i(k:Except Int Unit),NZ k->∀l,NZ (bC.L4 p i k l):=by
  intro i k hk l
  induction l with
  |nil=>exact hk
  |cons y l ih=>exact NZ.exi (NZ.must (by omega)) (NZ.exi (NZ.must (by omega)) ih)
 have h2:∀l i,NZ (bC.L2 p (.ok ()) l i):=by
  intro l
  induction l with
  |nil=>exact λ_=>NZ.ok
  |cons y l ih=>exact λi=>h4 i _ (ih _) _
 have h1:∀l i,NZ (bC.L1 p (bC.K1 p) l i):=by
  intro l
  induction l with
  |nil=>exact λ_=>h2 _ _
  |cons y l ih=>exact λi=>NZ.exi (NZ.must (by omega)) (ih _)
 exact NZ.exi (NZ.must (by omega)) (h1 _ _)
theorem Fe(p:aw):NZ (fj p):=
 NZ.exi (R0 p) (NZ.exi (Sv p) (NZ.exi (Uf p) NZ.ok))
theorem OX:exi x f=.ok ()↔x=.ok ()/\f ()=.ok ():=by
 cases x with
 |ok u=>simp[exi]
 |error e=>simp[exi]
theorem wg(p:aw):fj p=.ok ()↔cI p=.ok ()/\cJ p=.ok ()/\bC p=.ok ():=by grind [fj,OX]
theorem MS(p:aw):(eH p).2=attR (fj p):=by
 have hL:∀l i g,(eH.L1 p (eH.K1 p) l i g).2=0:=by
  intro l
  induction l with
  |nil=>exact λ_ _=>rfl
  |cons y l ih=>exact λi g=>ih _ _
 grind [eH,attR]
theorem N2(p:aw)(k:Int):∀l i,dh.L1 p k l i=0↔(∀j r,l[j]? = some r->r.Bl=((i+j:Nat):Int)/\cm p.aA r.aj=true)/\k=0
 |[],i=>by simp[dh.L1]
 |y::l,i=>by
  simp only[dh.L1,Bool.cond_eq_ite]
  split
  .grind
  .next h=>
   simp only[zE,bne_iff_ne,xF,not_or,Decidable.not_not,Bool.not_eq_false]at h
   rw[N2 p k l (i+1)]
   constructor
   .grind
   .rintro⟨h1,h2⟩
    refine⟨λj r hj=>?_,h2⟩
    have:=h1 (j+1) r (by simpa using hj)
    grind
theorem Eh(p:aw):dh p=0↔fj p=.ok ()/\(∀(j:Nat)r,p.dp[j]? = some r->r.Bl=(j:Int)/\cm p.aA r.aj=true)/\cm p.aA p.aO=true:=by
 unfold dh
 rw[MS]
 by_cases h:attR (fj p)=0
 .have h2:=(KH (Fe p)).1 h
  have hk:dh.K1 p=0↔cm p.aA p.aO=true:=by
   grind [dh.K1]
  rw[show(attR (fj p) != 0)=false from by simpa using h,cond_false,N2,hk]
  simp only[Nat.zero_add,h2,true_and]
 .grind [KH,Fe,attR]
theorem Tk{x:Bool}:(bif c then false else x)=true↔c=false/\x=true:=by cases c<;>simp
theorem sL(off:List ByteArray):∀l,cm.L1 off true l=true↔∀z∈l,z.x.No=(bif dB z.x then bB off z.x.Name else 0)
 |[]=>by simp[cm.L1]
 |y::l=>by
  simp only[cm.L1,kD,forall_eq_or_imp]
  cases dB y.x with
  |true=>
   rw[cond_true,cond_true,Tk,sL off l];simp
  |false=>
   rw[cond_false,cond_false,Tk,sL off l];simp
theorem Nv(v:ByteArray):∀(l:List ByteArray)(i:Nat),bB.L1 v (-1) l i=-1\/((i:Int)<=bB.L1 v (-1) l i/\bB.L1 v (-1) l i<((i+l.length:Nat):Int))
 |[],i=>.inl rfl
 |y::l,i=>by
  simp only[bB.L1,Bool.cond_eq_ite,zA]
  split
  .right;omega
  .rcases Nv v l (i+1)with h|h
   .exact .inl h
   .right;omega
theorem SE(l:List ByteArray)(v:ByteArray):bB l v<(l.length:Int):=by grind [bB,bB.K1,Nv]
theorem BC(hc:dh p=0):p.dp.length=p.dN.length/\p.aA.length<=32/\(∀x∈aF p,OkX (p.aA.length:Int) x):=by
 obtain⟨h1,h2,h3⟩:=(Eh p).1 hc
 obtain⟨hs,hn,hf⟩:=(wg p).1 h1
 have hf':=hf
 unfold bC at hf
 rw[sA,D6]at hf
 simp only[qC,decide_eq_true_eq,beq_iff_eq]at hf
 obtain⟨⟨⟨_,hlen⟩,hmode⟩,hrules,hK⟩:=hf
 unfold bC.K1 bC.K2 at hK
 rw[Gx]at hK
 obtain⟨⟨ho,_,_⟩,_⟩:=(Di p).1 hs
 obtain⟨_,hnm⟩:=(HS p).1 hn
 refine⟨by omega,ho,λx hx=>?_⟩
 have hres:∀z∈bz x 1,z.x.No=(bif dB z.x then bB p.aA z.x.Name else 0):=by
  have hr:cm p.aA x=true:=by
   rw[oF]at hx
   rcases qH.1 hx with hx|hx
   .obtain⟨r,hr,rfl⟩:=qJ.1 hx
    obtain⟨j,hj⟩:=WW hr
    exact(h2 j r hj).2
   .rw[jC.1 hx];exact h3
  all_goals grind [cm,cm.K1,sL]
 obtain⟨j,hj⟩:=WW hx
 have hfm:=λz hz=>(hK j x hj z hz).1
 have hnx:=hnm x hx
 clear hK hnm hj
 let Q:aj->Prop:=λx=>(1<=x.Kind/\x.Kind<=4)/\(x.Kind<=2->0<=x.No/\x.No<(p.aA.length:Int))/\(x.Kind=4->x.L.length=2)
 have all:∀z∈bz x 1,(λx:aj=>(1<=x.Kind/\x.Kind<=4)/\(x.Kind<=2->0<=x.No/\x.No<(p.aA.length:Int))/\(x.Kind=4->x.L.length=2)) z.x:=by
  intro z hz
  have a:=hfm z hz
  have b:=hnx z hz
  have c:=hres z hz
  simp only[qC,bh,decide_eq_true_eq]at a
  refine⟨a.1,λhk=>?_,λhk=>?_⟩
  .have hnamed:dB z.x=true:=by
    have:z.x.Kind=1\/z.x.Kind=2:=by omega
    rcases this with e|e<;>simp[dB,e]
   simp only[hnamed,Bool.not_true,Bool.false_or,cond_true]at b c
   have hge:0<=bB p.aA z.x.Name:=by
    have h9:=b
    simp only[dq,decide_eq_true_eq,ge_iff_le]at h9
    exact h9
   have:=SE p.aA z.x.Name
   omega
  .have h9:=a.2
   rw[hk]at h9
   simp only[kindsP]at h9
   simp[lm]at h9
   omega
 clear hfm hnx hres hx
 revert all
 refine aj.ind (P:=λx=>(∀z∈bz x 1,Q z.x)->OkX (p.aA.length:Int) x) ?_ x
 intro x ih all
 rw[sy Q]at all
 obtain⟨⟨a,b,c⟩,d⟩:=all
 exact OkX.mk x a b c λy hy=>ih y hy (d y hy)
theorem IS(hc:dh p=0):(1<=p.Mode/\p.Mode<=4)/\p.dp.length<=16/\∀r∈p.dp,0<=r.iV/\r.iV<=1099511627775:=by
 obtain⟨h1,_,_⟩:=(Eh p).1 hc
 obtain⟨hs,_,hf⟩:=(wg p).1 h1
 unfold bC at hf
 rw[sA,D6]at hf
 simp only[qC,bh,decide_eq_true_eq]at hf
 obtain⟨⟨⟨_,_⟩,hmode⟩,hrules,_⟩:=hf
 obtain⟨⟨_,_,hr⟩,_⟩:=(Di p).1 hs
 refine⟨hmode,hr,λr hr=>?_⟩
 obtain⟨j,hj⟩:=WW hr
 exact(hrules j r hj).2
theorem IE{r:fC}(h:r∈p.dp):r.aj∈aF p:=by grind [oF]
theorem Kj:∀(l:List Int)(g:Int),ef.L1 ef.K1 l g=true↔(∀x∈l,g<x/\x<64)/\l.Pairwise (·<·)
 |[],g=>by simp[ef.L1,ef.K1]
 |y::l,g=>by
  simp only[ef.L1,Bool.cond_eq_ite,zE,decide_eq_true_eq]
  split
  .next h=>
   constructor
   .intro h';cases h'
   .rintro⟨h1,_⟩;have:=h1 y (vB ..);omega
  .next h=>
   rw[Kj l y,List.pairwise_cons]
   simp only[kD,forall_eq_or_imp]
   constructor
   .rintro⟨h1,h2⟩
    exact⟨⟨by omega,λx hx=>by have:=h1 x hx;omega⟩,λx hx=>(h1 x hx).1,h2⟩
   .rintro⟨⟨h1,h2⟩,h3,h4⟩
    exact⟨λx hx=>⟨h3 x hx,(h2 x hx).2⟩,h4⟩
theorem Kh(l:List Int):ef l=true↔(∀x∈l,0<=x/\x<64)/\l.Pairwise (·<·):=by grind [ef,Kj]
theorem Jp{l:List Int}(h:ef l=true):l.Pairwise (·<=·):=((Kh l).1 h).2.imp (λh=>Int.le_of_lt h)
theorem QL(h:dW hs n=true):(hs.length:Int)=n:=by
 have h3:∀(k:List Int->Bool)(l:List bW)(g:List Int),dW.L3 k l g=true->∃g',k g'=true:=by
  intro k l
  induction l with
  |nil=>exact λg h=>⟨g,h⟩
  |cons y l ih=>
   intro g h
   simp only[dW.L3,Bool.cond_eq_ite]at h
   split at h
   .cases h
   .exact ih _ h
 have h1:∀(k:Bool)(l:List (List bW)),dW.L1 k l=true->k=true:=by
  intro k l
  induction l with
  |nil=>exact λh=>h
  |cons y l ih=>
   intro h
   obtain⟨g',hg⟩:=h3 _ _ _ h
   simp only[Bool.cond_eq_ite]at hg
   split at hg
   .cases hg
   .exact ih hg
 have:=h1 _ _ h
 simpa[dW.K1]using this
theorem FI:∀(l:List aE)(g:Int),-1<=g->g<=1048576->(bR.L1 bR.K1 l g=0 ↔
  (∀v∈l,(0<=v.At/\v.At<=1099511627775)/\(0<=v.dY/\v.dY<=1099511627775)/\v.No<=1048576/\dh v.aw=0)/\(∀v∈l,g<v.No)/\l.Pairwise (λa b=>a.No<b.No))
 |[],g,_,_=>by simp[bR.L1,bR.K1]
 |y::l,g,h0,h1=>by
  simp only[bR.L1,wrap64 (z:=g+1) (by omega),bh]
  by_cases hy:((0<=y.At/\y.At<=1099511627775)/\(0<=y.dY/\y.dY<=1099511627775)/\y.No<=1048576/\dh y.aw=0)/\g<y.No
  .obtain⟨⟨⟨a,a'⟩,⟨b,b'⟩,c,d⟩,e⟩:=hy
   have hc:(!(decide (g+1<=y.No)&&decide (y.No<=1048576))||!(decide (0<=y.At)&&decide (y.At<=1099511627775))||!(decide (0<=y.dY)&&decide (y.dY<=1099511627775))||dh y.aw != 0)=false:=by
    simp[a,a',b,b',c,d];omega
   rw[hc,cond_false,FI l y.No (by omega) c,List.pairwise_cons]
   grind
  .grind
structure FM(l:List aE):Prop where
 len:l.length<=256
 each:∀v∈l,(0<=v.At/\v.At<=1099511627775)/\(0<=v.dY/\v.dY<=1099511627775)/\(0<=v.No/\v.No<=1048576)/\dh v.aw=0
 inc:l.Pairwise (λa b=>a.No<b.No)
theorem te(l:List aE):bR l=0↔FM l:=by
 unfold bR
 by_cases hl:l.length<=256
 .rw[show decide (256<(l.length:Int))=false from decide_eq_false (by omega),cond_false,FI l (-1) (by omega) (by omega)]
  constructor
  .rintro⟨h1,h2,h3⟩;exact⟨hl,λv hv=>by have a:=h1 v hv;have b:=h2 v hv;exact⟨a.1,a.2.1,⟨by omega,a.2.2.1⟩,a.2.2.2⟩,h3⟩
  .rintro⟨_,h1,h3⟩;exact⟨λv hv=>by have:=h1 v hv;exact⟨this.1,this.2.1,by omega,this.2.2.2⟩,λv hv=>by have:=h1 v hv;omega,h3⟩
 .rw[show decide (256<(l.length:Int))=true from decide_eq_true (by omega),cond_true]
  exact⟨λh=>by omega,λh=>absurd h.len hl⟩
theorem FM.mode(g:FM l){v:aE}(hv:v∈l):1<=v.aw.Mode/\v.aw.Mode<=4:=(IS (g.each v hv).2.2.2).1
theorem uC{κ α : Type}[DecidableEq κ](k:κ)(v:α):∀(m:List (κ×α))(x:κ),mget? (mput m k v) x=if x=k then some v else mget? m x
 |[],x=>by simp[mput,mget?]
 |(k',v')::m,x=>by
  simp only[mput]
  by_cases e:k=k'
  .subst e;by_cases e2:x=k<;>simp[mget?,e2]
  .simp only[e,if_false,mget?,uC k v m x]
   grind
theorem Fl{κ α : Type}[DecidableEq κ]{x:κ}:∀{m:List (κ×α)},x∈m.map (·.1)->∃v,mget? m x=some v/\(x,v)∈m
 |(k,v)::m,h=>by
  by_cases e:x=k
  .subst e;exact⟨v,by simp[mget?],by simp⟩
  .simp only[kG,kD,e,false_or]at h
   obtain⟨u,h1,h2⟩:=Fl h
   exact⟨u,by simp[mget?,e,h1],xC _ h2⟩
theorem EI{κ α : Type}[DecidableEq κ]{k:κ}{v:α}{q:κ×α}:∀{m:List (κ×α)},q∈mput m k v->q=(k,v)\/q∈m
 |[],h=>by simp[mput]at h;exact .inl h
 |(k',v')::m,h=>by
  simp only[mput]at h
  split at h
  .grind
  .rcases kD.1 h with h|h
   .exact .inr (h▸vB ..)
   .rcases EI h with h|h
    all_goals grind
theorem H7(g:List (Int×aE)):∀l,bV.L2 g [] l=l.map λy=>(y,mgetD g y (aE.mk 0 0 0 (aw.mk (⟨#[]⟩:ByteArray) [] [] [] (aj.mk 0 0 0 (⟨#[]⟩:ByteArray) []) 0)))
 |[]=>rfl
 |y::l=>by simp[bV.L2,H7 g l]
def inForceM(ah fB:Int):List aE->Int->List (Int×aE)->List (Int×aE)
 |[],_,m=>m
 |y::l,b,m=>bif decide (ah<y.dY)then inForceM ah fB l b m else bif decide (y.At<=fB)then(bif decide (y.At<b)then inForceM ah fB l b m else inForceM ah fB l y.At (mput m fB y))else inForceM ah fB l b (mput m y.At y)
theorem H8(ah fB:Int)(k:Int->List (Int×aE)->List (Int×aE))(hk:∀a b m,k a m=k b m):∀l b m,bV.L1 ah fB k l b m=k 0 (inForceM ah fB l b m)
 |[],b,m=>hk _ _ _
 |y::l,b,m=>by
  simp only[bV.L1,inForceM,H8 ah fB k hk l]
  grind
theorem CR(l:List aE)(fB ah:Int):iy l fB ah=(sortI ((inForceM ah fB l (-1) []).map Prod.fst)).map λy=>(y,mgetD (inForceM ah fB l (-1) []) y (aE.mk 0 0 0 (aw.mk (⟨#[]⟩:ByteArray) [] [] [] (aj.mk 0 0 0 (⟨#[]⟩:ByteArray) []) 0))):=by
 unfold iy bV
 rw[H8 _ _ _ (λ_ _ _=>rfl)]
 exact H7 _ _
theorem ru(ah fB:Int)(P:Int×aE->Prop):∀(l:List aE)b m,(∀y∈l,y.At<=fB->P (fB,y))->(∀y∈l,fB<y.At->P (y.At,y))->(∀q∈m,P q)->∀q∈inForceM ah fB l b m,P q
 |[],_,_,_,_,hm=>hm
 |y::l,b,m,h1,h2,hm=>by
  have h1':=λz hz=>h1 z (xC _ hz)
  have h2':=λz hz=>h2 z (xC _ hz)
  simp only[inForceM,Bool.cond_eq_ite,decide_eq_true_eq]
  split
  .exact ru ah fB P l b m h1' h2' hm
  .split
   .next ha=>
    split
    .exact ru ah fB P l b m h1' h2' hm
    .refine ru ah fB P l _ _ h1' h2' (λq hq=>?_)
     grind [EI]
   .next ha=>
    refine ru ah fB P l _ _ h1' h2' (λq hq=>?_)
    grind [EI]
theorem Ft{fB:Int}(P:Int×aE->Prop)(h1:∀y∈l,y.At<=fB->P (fB,y))(h2:∀y∈l,fB<y.At->P (y.At,y)):∀q∈iy l fB ah,P q:=by
 intro q hq
 rw[CR]at hq
 obtain⟨y,hy,rfl⟩:=qJ.1 hq
 have hy':=(nS _).mem_iff.1 hy
 obtain⟨v,e,hv⟩:=Fl hy'
 have:mgetD (inForceM ah fB l (-1) []) y (aE.mk 0 0 0 (aw.mk (⟨#[]⟩:ByteArray) [] [] [] (aj.mk 0 0 0 (⟨#[]⟩:ByteArray) []) 0))=v:=by simp[mgetD,e]
 simp only[this]
 exact ru ah fB P l (-1) [] h1 h2 (λq hq=>(kA hq).elim) _ hv
theorem AR{fB:Int}:∀q∈iy l fB ah,q.2∈l:=
 Ft (λq=>q.2∈l) (λy hy _=>hy) (λy hy _=>hy)
theorem un(ah fB:Int):∀(l:List aE)b m,(inForceM ah fB l b m).length<=m.length+l.length
 |[],_,_=>kE _
 |y::l,b,m=>by
  have a1:=un ah fB l b m
  have a2:=un ah fB l y.At (mput m fB y)
  have a3:=un ah fB l b (mput m y.At y)
  have b2:=ox m fB y
  have b3:=ox m y.At y
  simp only[inForceM,Bool.cond_eq_ite,zA]
  grind
theorem Fs(l:List aE)(fB ah:Int):(iy l fB ah).length<=l.length:=by grind [CR,iW,un]
theorem Dl:∀{a b:List OSeat},a.Pairwise (λx y=>x.bT<y.bT)->b.Pairwise (λx y=>x.bT<y.bT)->a.Perm b->a=b
 |[],b,_,_,p=>(List.Perm.nil_eq p)
 |x::a,[],_,_,p=>absurd p.length_eq (by simp)
 |x::a,y::b,ha,hb,p=>by
  have hx:x=y:=by
   have h1:x∈y::b:=p.mem_iff.1 (vB ..)
   have h2:y∈x::a:=p.mem_iff.2 (vB ..)
   rw[List.pairwise_cons]at ha hb
   grind
  subst hx
  rw[List.pairwise_cons]at ha hb
  rw[Dl ha.2 hb.2 (List.Perm.cons_inv p)]
theorem Dm{l:List OSeat}(hn:l.Nodup)(hs:l.Pairwise (λx y=>x.bT<=y.bT)):(l.filter (λy=>y.aT==aT)).Pairwise (λx y=>x.bT<y.bT):=by
 induction l with
 |nil=>exact List.Pairwise.nil
 |cons x l ih=>
  rw[jR]at hn
  rw[List.pairwise_cons]at hs
  rw[List.filter_cons]
  split
  .next h=>
   rw[List.pairwise_cons]
   refine⟨λy hy=>?_,ih hn.2 hs.2⟩
   obtain⟨hy1,hy2⟩:=WM.1 hy
   have h1:=hs.1 y hy1
   rcases Int.lt_or_eq_of_le h1 with h2|h2
   .exact h2
   .exfalso
    have:x=y:=by
     cases x;cases y
     simp at h hy2 h2
     simp[h,hy2,h2]
    exact hn.1 (this▸hy1)
  .exact ih hn.2 hs.2
theorem yH(m:List (OSeat×aK))(aT:Int):∀l,cw.L1 m aT [] l=(l.filter λy=>y.aT==aT).filterMap λy=>bif(mgetD m y (aK.mk 0 0 0 0 0 0 false)).nj then none else some (bW.mk (mgetD m y (aK.mk 0 0 0 0 0 0 false)).cM (mgetD m y (aK.mk 0 0 0 0 0 0 false)).gj)
 |[]=>rfl
 |y::l=>by
  simp only[cw.L1,yH m aT l,List.filter_cons]
  grind
theorem Jy{m:List (OSeat×aK)}{ys:List OSeat}(hn:(m.map (·.1)).Nodup)(hp:ys.Perm (m.map Prod.fst))(hs:ys.Pairwise (λx y=>x.bT<=y.bT)):
  cw m aT=[]++((cw.L1 m aT cw.K1) ys):=by
 unfold cw cw.K1
 rw[vF,yH,yH]
 have h1:(seatS (m.map Prod.fst)).Nodup:=(yu _).nodup_iff.2 hn
 have h2:ys.Nodup:=hp.nodup_iff.2 hn
 rw[Dl (Dm h1 (Dn _)) (Dm h2 hs) (((yu _).trans hp.symm).filter _)]
theorem AL(key:aK->OSeat×Bool)(later:aK->aK->Bool):∀(l:List aK)m,(df.L1 key later df.K1 l m).length<=m.length+l.length
 |[],m=>by simp[df.L1,df.K1]
 |y::l,m=>by
  have a:=AL key later l m
  have b:=AL key later l (mput m (key y).1 y)
  have c:=ox m (key y).1 y
  simp only[df.L1,Bool.cond_eq_ite,zA]
  split<;>omega
theorem yq(l:List aK)(a b:Int):(dK l a b).length<=l.length:=by
 have:=AL (λel=>jq el a b) jp l []
 simpa[dK,df]using this
theorem NX(l:List bW):iQ l=l:=by
 have:∀(l g:List bW),cU.L1 cU.K1 l g=g++l:=by
  intro l
  induction l with
  |nil=>intro g;simp[cU.L1,cU.K1]
  |cons y l ih=>intro g;simp[cU.L1,ih]
 simp[iQ,cU,this]
theorem Fv(m:List (OSeat×aK))(aT:Int):(kZ m aT).length<=m.length:=by
 unfold kZ cw cw.K1
 rw[yH]
 have h1:=List.length_filterMap_le (λy=>bif(mgetD m y (aK.mk 0 0 0 0 0 0 false)).nj then none else some (bW.mk (mgetD m y (aK.mk 0 0 0 0 0 0 false)).cM (mgetD m y (aK.mk 0 0 0 0 0 0 false)).gj)) ((seatS (m.map Prod.fst)).filter λy=>y.aT==aT)
 have h2:=List.length_filter_le (λy:OSeat=>y.aT==aT) (seatS (m.map Prod.fst))
 have h3:=(yu (m.map Prod.fst)).length_eq
 rw[List.length_map]at h3
 omega
theorem Bm(l:List aK)(aT a b:Int):(fd l aT a b).1.length<=l.length:=by grind [fd,NX,Fv,yq]
theorem lF(r:Register):dM r=0↔dD r.dF=0/\dT r.ga=0/\du r.er=0/\bX r.dH=0/\bR r.Versions=0/\aZ r.cd=0/\cj r.dC=0:=by
 have e:dM r=(bif dD r.dF != 0 then 300 else bif dT r.ga != 0 then 300 else bif du r.er != 0 then 300 else bif bX r.dH != 0 then 300 else bif bR r.Versions != 0 then 300 else bif aZ r.cd != 0 then 300 else bif cj r.dC != 0 then 300 else 0):=rfl
 rw[e]
 have key:∀(a x:Int),(bif a != 0 then 300 else x)=0↔a=0/\x=0:=by
  grind
 simp only[key,and_true]
theorem PX(dL:Int)(k:Int->Bool):∀(l:List Int)(g:Int),fx.L1 dL k l g=true↔((∀x∈l,g<x/\x<dL)/\l.Pairwise (·<·))/\∃g',(l=[]/\g'=g\/l.getLast? = some g')/\k g'=true
 |[],g=>by simp[fx.L1]
 |y::l,g=>by
  simp only[fx.L1,Bool.cond_eq_ite,zE,decide_eq_true_eq]
  split
  .next h=>
   constructor
   .intro h';cases h'
   .rintro⟨⟨h1,_⟩,_⟩;have:=h1 y (vB ..);omega
  .next h=>
   rw[PX dL k l y,List.pairwise_cons]
   grind
theorem Gs(l:List Int)(dL:Int):fx l dL=true↔((∀x∈l,0<=x/\x<dL)/\l.Pairwise (·<·))/\l.length<=16:=by
 unfold fx
 rw[PX]
 constructor
 .rintro⟨⟨h1,h2⟩,g',_,h3⟩
  refine⟨⟨λx hx=>by have:=h1 x hx;omega,h2⟩,?_⟩
  simp only[fx.K1,decide_eq_true_eq]at h3
  omega
 .rintro⟨⟨h1,h2⟩,h3⟩
  refine⟨⟨λx hx=>by have:=h1 x hx;omega,h2⟩,?_⟩
  cases l with
  |nil=>exact⟨_,.inl ⟨rfl,rfl⟩,by simp[fx.K1]⟩
  |cons y l=>
   refine⟨(y::l).getLast (by simp),.inr (List.getLast?_eq_some_getLast _),?_⟩
   simp only[fx.K1,decide_eq_true_eq]
   omega
structure Qx(d:ao):Prop where
 no:0<=d.No/\d.No<4096
 at_:0<=d.At/\d.At<1099511627776
 kind:0<=d.Kind/\d.Kind<16
 value:0<=d.Value/\d.Value<=1099511627776
 fB:0<=d.From/\d.From<d.mX
 VV:d.mX<=1099511627776
 eE:((∀x∈d.lh,0<=x/\x<1048577)/\d.lh.Pairwise (·<·))/\d.lh.length<=16
 revokes:((∀x∈d.fe,0<=x/\x<d.No)/\d.fe.Pairwise (·<·))/\d.fe.length<=16
 needs:((∀x∈d.fp,0<=x/\x<d.No)/\d.fp.Pairwise (·<·))/\d.fp.length<=16
theorem MQ(d:ao):mB d=true↔Qx d:=by
 unfold mB jt
 simp only[qC,decide_eq_true_eq,Gs]
 constructor
 .rintro⟨⟨⟨⟨⟨⟨⟨⟨⟨⟨⟨⟨a,b⟩,c,d⟩,e⟩,f⟩,g⟩,h⟩,i⟩,j⟩,k⟩,l⟩,m⟩,n⟩
  exact⟨⟨a,b⟩,⟨c,d⟩,⟨e,f⟩,⟨g,h⟩,⟨i,j⟩,k,l,m,n⟩
 .rintro⟨⟨a,b⟩,⟨c,d⟩,⟨e,f⟩,⟨g,h⟩,⟨i,j⟩,k,l,m,n⟩
  grind
theorem IK(l0:List ao):∀(l:List ao)(i:Nat),aZ.L1 l0 0 l i=0->∀d∈l,mB d=true
 |[],_,_,_,hd=>(kA hd).elim
 |y::l,i,h,d,hd=>by
  simp only[aZ.L1,Bool.cond_eq_ite]at h
  split at h
  .omega
  .next hc=>
   simp only[zE,not_or,xF,Bool.not_eq_false]at hc
   rcases kD.1 hd with rfl|hd
   .exact hc.1.1
   .exact IK l0 l (i+1) h d hd
theorem EZ{l:List ao}(h:aZ l=0):∀d∈l,Qx d:=by
 unfold aZ aZ.K1 at h
 rw[Bool.cond_eq_ite]at h
 split at h
 .omega
 .exact λd hd=>(MQ d).1 (IK l l 0 h d hd)
theorem H9(f:ao->Bool):∀(l:List ao)(i:Nat),(ai.L1 f ai.K1 l i=-1/\∀x∈l,f x=false) \/
  ∃a y b,l=a++y::b/\ai.L1 f ai.K1 l i=((i+a.length:Nat):Int)/\f y=true/\∀x∈a,f x=false
 |[],i=>.inl ⟨rfl,λ_ h=>(kA h).elim⟩
 |y::l,i=>by
  simp only[ai.L1]
  cases hy:f y with
  |true=>exact .inr ⟨[],y,l,rfl,by simp,hy,λ_ h=>(kA h).elim⟩
  |false=>
   rcases H9 f l (i+1)with⟨h1,h2⟩|⟨a,z,b,rfl,h2,h3,h4⟩
   all_goals grind
theorem OL(mode:Int)(l:List aE)(old:Bool):(judgesP mode l old).length<=l.length:=by grind [judgesP,lx,jO,kv]
theorem E3(k:List Int->List Int×Int×Int):∀(l:List aE)(g:List Int),aM.L2 k l g=k (g++l.map (·.No))
 |[],g=>by simp[aM.L2]
 |y::l,g=>by simp[aM.L2,E3 k l]
theorem KK(dU at_:Int)(P:List Int×Int×Int->Prop)(n:Nat)(k:Bool->List aE->List Int×Int×Int)(hk:∀b g,g.length<=n->P (k b g)):∀(l:List (Int×aE))b g,g.length+l.length<=n->P (aM.L1 dU at_ k l b g)
 |[],b,g,h=>by simpa[aM.L1]using hk b g (by simpa using h)
 |y::l,b,g,h=>by
  simp only[aM.L1]
  simp only[zA]at h
  cases decide (at_<y.1)
  .exact KK dU at_ P n k hk l _ _ (by simp;omega)
  .exact hk _ _ (by omega)
theorem C8(l:List aE)(dU at_ ah:Int):(aM l dU at_ ah).1.length<=l.length:=by
 unfold aM
 cases(bR l != 0)
 .cases(((!(fP dU))||(!(fP at_)))||(!(fP ah)))||decide (at_<dU)
  .simp only[cond_false]
   refine KK dU at_ (λr=>r.1.length<=l.length) l.length _ ?_ _ _ _ (by have:=Fs l dU ah;simpa using this)
   intro b g hg
   unfold aM.K1
   cases((g.length:Int)==0)
   .simp only[cond_false,E3,aM.K2,vF,iW,List.length_map]
    exact kL (OL _ _ _) hg
   .simp
  .simp
 .simp
theorem PL(no:Int):∀(l:List ao)(i:Nat),0<=eR.L1 no eR.K1 l i->∃(j:Nat)(d:ao),l[j]? = some d/\d.No=no/\eR.L1 no eR.K1 l i=((i+j:Nat):Int)
 |[],i,h=>by simp[eR.L1,eR.K1]at h
 |y::l,i,h=>by
  simp only[eR.L1,Bool.cond_eq_ite,beq_iff_eq]at h ⊢
  split
  .next e=>exact⟨0,y,rfl,e,rfl⟩
  .next e=>
   rw[if_neg e]at h
   obtain⟨j,d,h1,h2,h3⟩:=PL no l (i+1) h
   exact⟨j+1,d,by simpa using h1,h2,by rw[h3];congr 1;omega⟩
theorem T3{r:Register}{no:Int}(h:0<=eR r no):eR r no<(r.cd.length:Int)/\nthI r.cd (eR r no)∈r.cd/\(nthI r.cd (eR r no)).No=no:=by
 obtain⟨j,d,h1,h2,h3⟩:=PL no r.cd 0 h
 rw[Nat.zero_add]at h3
 have hl:=(List.getElem?_eq_some_iff.1 h1).1
 have e:eR r no=(j:Int):=h3
 have hb:0<=eR r no/\eR r no<(r.cd.length:Int):=by omega
 have hg:=di hb
 grind
theorem Th(L:List ao):∀(l:List ao)(i:Nat),et.L1 L et.K1 l i=0->∀d∈l,na d=true
 |[],_,_=>λ_ h=>(kA h).elim
 |y::l,i,h=>by
  simp only[et.L1,Bool.cond_eq_ite,zE,not_or]at h
  split at h
  .simp at h
  .next hc=>
   intro d hd
   rcases kD.1 hd with rfl|hd
   .grind
   .exact Th L l (i+1) h d hd
theorem N0{r:Register}(h:nJ r=0):jz r.dF=0/\jk r.ga=0/\ji r.er=0/\gq r.dH=0/\eb r.Versions=0/\et r.cd=0/\jj r.dC=0:=by
 simp only[nJ,Bool.cond_eq_ite,zE,bne_iff_ne]at h
 grind
theorem Tg{l:List ao}(h:et l=0):l.length<=4096/\∀d∈l,na d=true:=by
 simp only[et,Bool.cond_eq_ite,decide_eq_true_eq]at h
 grind [Th]
theorem J3{l:List Int}(h:l.Pairwise (·<=·))(hn:l.Nodup):l.Pairwise (·<·):=by
 induction l with
 |nil=>exact List.Pairwise.nil
 |cons x l ih=>
  rw[List.pairwise_cons]at h ⊢
  grind
section chk
variable {α : Type} [Inhabited α]
def refChk(R:α->Bool)(no:α->Int)(c:Int)(L:List α):List α->Nat->Int
 |[],_=>0
 |y::l,i=>bif(!(R y))||(decide (0<(i:Int))&&decide (no y<=no (nthI L ((i:Int)-1))))then c else refChk R no c L l (i+1)
def prgChk(R:α->Bool)(no:α->Int)(c:Int):List α->Int->Int
 |[],_=>0
 |y::l,g=>bif(!(R y))||decide (no y<=g)then c else prgChk R no c l (no y)
theorem NY(R:α->Bool)(no:α->Int)(c:Int)(L:List α):∀(l pre:List α)(x:α),L=(pre++[x])++l->refChk R no c L l (pre.length+1)=prgChk R no c l (no x)
 |[],_,_,_=>rfl
 |y::l,pre,x,h=>by
  have hx:nthI L (((pre.length+1:Nat):Int)-1)=x:=by
   have hb:0<=(((pre.length+1:Nat):Int)-1)/\(((pre.length+1:Nat):Int)-1)<(L.length:Int):=by rw[h];simp;omega
   have hg:=di hb
   grind
  have hd:decide (0<((pre.length+1:Nat):Int))=true:=by rw[decide_eq_true_eq];omega
  have ih:=NY R no c L l (pre++[x]) y (by rw[h];simp)
  rw[jA,zA,zB,Nat.zero_add]at ih
  simp only[refChk,prgChk,hx,hd,Bool.true_and,ih]
theorem IR(R:α->Bool)(no:α->Int)(c:Int)(hR:∀y,R y=true->0<=no y)(l:List α):refChk R no c l l 0=prgChk R no c l (-1):=by
 cases l with
 |nil=>rfl
 |cons y l=>
  have ih:=NY R no c (y::l) l [] y rfl
  simp only[zB,Nat.zero_add]at ih
  simp only[refChk,prgChk,Nat.zero_add,ih]
  grind
end chk
theorem Fj(l:List aK):dD l=jz l:=by
 have hR:∀x,pO x=nO x:=λx=>by
  rw[zM]
  simp only[pO,nO,Bool.cond_eq_ite]
  cases x.nj<;>simp only[if_true,if_false,Xb,qC,zE,xF,decide_eq_true_eq,decide_eq_false_iff_not,beq_iff_eq,ij,fJ,i7,kd,ve,uj,ui,Bool.and_eq_false_iff]
   <;> (split<;>simp only[Xb,iff_false,decide_eq_true_eq,qC,beq_iff_eq]<;>omega)
 have h1:∀(L l:List aK)i,jz.L1 L jz.K1 l i=refChk nO (·.No) 150 L l i:=by
  intro L l
  induction l with
  |nil=>intro i;rfl
  |cons y l ih=>intro i;simp only[jz.L1,refChk,ih]
 have h2:∀(l:List aK)g,dD.L1 dD.K1 l g=prgChk nO (·.No) 150 l g:=by
  intro l
  induction l with
  |nil=>intro g;rfl
  |cons y l ih=>intro g;simp only[dD.L1,prgChk,ih,hR]
 unfold dD jz
 rw[h1,h2,IR]
 intro y hy
 simp only[nO,Bool.cond_eq_ite]at hy
 grind
theorem Ec(l:List bA):dT l=jk l:=by
 have hR:∀x,ph x=nN x:=λx=>by
  rw[zM]
  simp only[ph,nN,Bool.cond_eq_ite,eS,ld,j0,me,u9,rg]
  grind
 have h1:∀(L l:List bA)i,jk.L1 L jk.K1 l i=refChk nN (·.No) 160 L l i:=by
  intro L l
  induction l with
  |nil=>intro i;rfl
  |cons y l ih=>intro i;simp only[jk.L1,refChk,ih]
 have h2:∀(l:List bA)g,dT.L1 dT.K1 l g=prgChk nN (·.No) 160 l g:=by
  intro l
  induction l with
  |nil=>intro g;rfl
  |cons y l ih=>intro g;simp only[dT.L1,prgChk,ih,hR]
 unfold dT jk
 rw[h1,h2,IR]
 intro y hy
 simp only[nN,Bool.cond_eq_ite]at hy
 split at hy
 .cases hy
 .next h=>simp only[zE,not_or,decide_eq_true_eq,me,xF,Bool.and_eq_false_iff,decide_eq_false_iff_not]at h;omega
theorem Cf(l:List aG):du l=ji l:=by
 have hR:∀x,oy x=nK x:=λx=>by
  rw[zM]
  simp only[oy,nK,Bool.cond_eq_ite,fw,uX,sM,ug]
  grind
 have h1:∀(L l:List aG)i,ji.L1 L ji.K1 l i=refChk nK (·.No) 290 L l i:=by
  intro L l
  induction l with
  |nil=>intro i;rfl
  |cons y l ih=>intro i;simp only[ji.L1,refChk,ih]
 have h2:∀(l:List aG)g,du.L1 du.K1 l g=prgChk nK (·.No) 290 l g:=by
  intro l
  induction l with
  |nil=>intro g;rfl
  |cons y l ih=>intro g;simp only[du.L1,prgChk,ih,hR]
 unfold du ji
 rw[h1,h2,IR]
 intro y hy
 simp only[nK,Bool.cond_eq_ite]at hy
 grind
theorem Fu(f:Int->Bool):∀(l:List Int)(i:Nat),decide (0<=cQ.L1 f cQ.K1 l i)=l.any f
 |[],i=>by simp[cQ.L1,cQ.K1]
 |y::l,i=>by
  have ih:=Fu f l (i+1)
  simp only[cQ.L1,List.any_cons]
  grind
theorem containsF(l:List Int)(f:Int->Bool):eF l f=l.any f:=Fu f l 0
theorem Bj(l:List Budget):bX l=gq l:=by
 have hR:∀x,mf x=nM x:=λx=>by
  rw[zM]
  simp only[mf,nM,Bool.cond_eq_ite,cg,containsF,lI,List.any_cons,List.any_nil,Bool.or_false,jU,kY]
  grind
 have h1:∀(L l:List Budget)i,gq.L1 L gq.K1 l i=refChk nM (·.No) 180 L l i:=by
  intro L l
  induction l with
  |nil=>intro i;rfl
  |cons y l ih=>intro i;simp only[gq.L1,refChk,ih]
 have h2:∀(l:List Budget)g,bX.L1 bX.K1 l g=prgChk nM (·.No) 180 l g:=by
  intro l
  induction l with
  |nil=>intro g;rfl
  |cons y l ih=>intro g;simp only[bX.L1,prgChk,ih,hR]
 unfold bX gq
 rw[h1,h2,IR]
 intro y hy
 simp only[nM,Bool.cond_eq_ite]at hy
 split at hy
 .cases hy
 .next h=>simp only[zE,not_or,decide_eq_true_eq,jU,xF,Bool.and_eq_false_iff,decide_eq_false_iff_not]at h;omega
theorem Cn(l:List ay):cj l=jj l:=by
 have hR:∀x,lg x=nL x:=λx=>by
  rw[zM]
  simp only[lg,nL,Bool.cond_eq_ite,fM,containsF,lk,List.any_cons,List.any_nil,Bool.or_false,ma,uY,Bs]
  grind
 have h1:∀(L l:List ay)i,jj.L1 L jj.K1 l i=refChk nL (·.No) 280 L l i:=by
  intro L l
  induction l with
  |nil=>intro i;rfl
  |cons y l ih=>intro i;simp only[jj.L1,refChk,ih]
 have h2:∀(l:List ay)g,cj.L1 cj.K1 l g=prgChk nL (·.No) 280 l g:=by
  intro l
  induction l with
  |nil=>intro g;rfl
  |cons y l ih=>intro g;simp only[cj.L1,prgChk,ih,hR]
 unfold cj jj
 rw[h1,h2,IR]
 intro y hy
 simp only[nL,Bool.cond_eq_ite]at hy
 split at hy
 .cases hy
 .next h=>simp only[zE,not_or,decide_eq_true_eq,ma,xF,Bool.and_eq_false_iff,decide_eq_false_iff_not]at h;omega
def refLs(B:Int->Bool)(L:List Int)(k:Bool):List Int->Nat->Bool
 |[],_=>k
 |y::l,i=>bif(B y)||(decide (0<(i:Int))&&decide (y<=nthI L ((i:Int)-1)))then false else refLs B L k l (i+1)
theorem Hf(B:Int->Bool)(L:List Int)(k:Bool):∀(l pre:List Int)(x:Int),L=(pre++[x])++l->refLs B L k l (pre.length+1)=true->((∀y∈l,B y=false)/\k=true)/\(x::l).Pairwise (·<·)
 |[],_,_,_,h=>⟨⟨λ_ h=>(kA h).elim,h⟩,by simp⟩
 |y::l,pre,x,h,hr=>by
  have hx:nthI L (((pre.length+1:Nat):Int)-1)=x:=by
   have hb:0<=(((pre.length+1:Nat):Int)-1)/\(((pre.length+1:Nat):Int)-1)<(L.length:Int):=by rw[h];simp;omega
   have hg:=di hb
   grind
  simp only[refLs,hx,Bool.cond_eq_ite]at hr
  split at hr
  .cases hr
  .next hc=>
   simp only[zE,qC,decide_eq_true_eq,not_or]at hc
   have ih:=Hf B L k l (pre++[x]) y (by rw[h];simp)
   rw[jA,zA,zB,Nat.zero_add]at ih
   grind
theorem Sc{B:Int->Bool}{k:Bool}{l:List Int}(h:refLs B l k l 0=true):((∀y∈l,B y=false)/\k=true)/\l.Pairwise (·<·):=by
 cases l with
 |nil=>exact⟨⟨λ_ h=>(kA h).elim,h⟩,List.Pairwise.nil⟩
 |cons y l=>
  simp only[refLs,Bool.cond_eq_ite]at h
  split at h
  .cases h
  .next hc=>
   simp only[zE,not_or]at hc
   obtain⟨⟨i1,i2⟩,i3⟩:=Hf B (y::l) k l [] y rfl h
   grind
theorem He{l:List Int}{dL:Int}(h:gu l dL=true):((∀x∈l,0<=x/\x<dL)/\l.Pairwise (·<·))/\l.length<=16:=by
 have e:∀(L l:List Int)i,gu.L1 L dL (gu.K1 L) l i=refLs (λy=>decide (y<0)||decide (dL<=y)) L (gu.K1 L) l i:=by
  intro L l
  induction l with
  |nil=>intro i;rfl
  |cons y l ih=>intro i;simp only[gu.L1,refLs,ih]
 unfold gu at h
 rw[e]at h
 obtain⟨⟨h1,h2⟩,h3⟩:=Sc h
 refine⟨⟨λx hx=>?_,h3⟩,?_⟩
 .grind
 .simp only[gu.K1,decide_eq_true_eq]at h2;omega
theorem Fa{d:ao}(h:na d=true):Qx d:=by
 simp only[na,Bool.cond_eq_ite]at h
 split at h
 .cases h
 .next hc=>
  simp only[zE,not_or,decide_eq_true_eq,o9,xF,Bool.and_eq_false_iff,decide_eq_false_iff_not]at hc
  simp only[qC,decide_eq_true_eq]at h
  obtain⟨⟨⟨⟨⟨h1,h2⟩,h3⟩,h4⟩,h5⟩,h6⟩:=h
  exact⟨by omega,by omega,by omega,by omega,⟨h1,h2⟩,h3,He h4,He h5,He h6⟩
theorem Dk(L:List ao):∀(l:List ao)(i:Nat)(m:List (Int×Int)),(aJ.L1 (aJ.K1 L) l i m).docs=L/\∀x,mhas (aJ.L1 (aJ.K1 L) l i m).at_ x=(mhas m x||l.any λd=>d.No==x)
 |[],i,m=>⟨rfl,λx=>by simp[aJ.L1,aJ.K1]⟩
 |y::l,i,m=>by
  obtain⟨h1,h2⟩:=Dk L l (i+1) (mput m y.No (i:Int))
  refine⟨h1,λx=>?_⟩
  show mhas (aJ.L1 (aJ.K1 L) l (i+1) (mput m y.No (i:Int))).at_ x=_
  grind [mhas,mput,uC]
theorem FB(no:Int):∀(l:List ao)(i:Nat),0<=gQ.L1 no gQ.K1 l i->(l.any λd=>d.No==no)=true
 |[],i,h=>by simp[gQ.L1,gQ.K1]at h
 |y::l,i,h=>by
  simp only[gQ.L1,Bool.cond_eq_ite]at h
  rw[List.any_cons]
  by_cases e:(y.No==no)=true
  .rw[e];rfl
  .rw[if_neg e]at h
   rw[FB no l (i+1) h,Bool.or_true]
theorem JY(L:List ao):∀nos:List Int,gr.L1 L gr.K1 nos=true->∀x∈nos,(L.any λd=>d.No==x)=true
 |[],_=>λ_ h=>(kA h).elim
 |y::nos,h=>by
  simp only[gr.L1,Bool.cond_eq_ite,decide_eq_true_eq]at h
  split at h
  .cases h
  .next hc=>
   intro x hx
   rcases kD.1 hx with rfl|hx
   .grind [gQ,FB]
   .exact JY L nos h x hx
theorem Vl{L:List ao}{d:ao}(h1:gr L d.fe=true)(h2:gr L d.fp=true):kt (aJ L) d=true:=by
 have hs:=(Dk L L 0 []).2
 have key:∀nos,gr L nos=true->eF nos (λel=>iU el (aJ L))=false:=by
  intro nos hn
  rw[containsF,List.any_eq_false]
  intro x hx
  unfold iU
  have:=JY L nos hn x hx
  have e:mhas (aJ L).at_ x=true:=by
   show mhas (aJ.L1 (aJ.K1 L) L 0 []).at_ x=true
   rw[hs x,this,Bool.or_true]
  rw[e];simp
 grind [kt]
theorem Jz{l:List ao}(h:et l=0):aZ l=0:=by
 have L:∀(L l:List ao)(i:Nat),et.L1 L et.K1 l i=0->aZ.L1 L aZ.K1 l i=0:=by
  intro L l
  induction l with
  |nil=>intros;rfl
  |cons y l ih=>
   intro i h
   simp only[et.L1,Bool.cond_eq_ite]at h
   split at h
   .omega
   .next hc=>
    simp only[zE,not_or,xF,Bool.not_eq_false,Bool.not_eq_true]at hc
    obtain⟨⟨⟨c1,c2⟩,c3⟩,c4⟩:=hc
    simp only[aZ.L1,(MQ y).2 (Fa c1),c2,Vl c3 c4,Bool.not_true,Bool.or_false,cond_false]
    exact ih (i+1) h
 grind [et,aZ]
theorem Ns(mode:Int)(l:List aE)(old:Bool):(judgesP mode l old).Sublist l:=by grind [judgesP,lx,jO,kv,List.take_sublist,List.drop_sublist]
theorem I1(dU at_:Int)(k:Bool->List aE->List Int×Int×Int):∀(l:List (Int×aE))b g,∃(pre:List (Int×aE))(b':Bool),pre.Sublist l/\aM.L1 dU at_ k l b g=k b' (g++pre.map (·.2))
 |[],b,g=>⟨[],b,List.Sublist.refl _,by simp[aM.L1]⟩
 |y::l,b,g=>by
  simp only[aM.L1]
  cases decide (at_<y.1)
  .obtain⟨pre,b',h1,h2⟩:=I1 dU at_ k l (b||(y.1==dU)) (g++[y.2])
   exact⟨y::pre,b',h1.cons_cons _,by rw[cond_false,h2];simp⟩
  .exact⟨[],b,List.nil_sublist _,by simp⟩
theorem P2(h:l.Pairwise (λa b=>a.No<b.No)){a b:aE}(ha:a∈l)(hb:b∈l)(e:a.No=b.No):a=b:=by
 induction l with
 |nil=>cases ha
 |cons x l ih=>
  obtain⟨h1,h2⟩:=List.pairwise_cons.1 h
  grind
theorem pc(ah fB:Int):∀(l:List aE)b m,(m.map (·.1)).Nodup->((inForceM ah fB l b m).map (·.1)).Nodup
 |[],b,m,h=>h
 |y::l,b,m,h=>by
  simp only[inForceM,Bool.cond_eq_ite]
  split
  .exact pc ah fB l _ _ h
  .split
   .split
    .exact pc ah fB l _ _ h
    .exact pc ah fB l _ _ (sf _ _ h)
   .exact pc ah fB l _ _ (sf _ _ h)
theorem LB(l:List aE)(fB ah:Int):(iy l fB ah).Pairwise (λp q=>p.1<q.1):=by grind [CR,J3,pm,nS,pc]
theorem Nx(g:FM l)(fB ah:Int):(iy l fB ah).Pairwise (λp q=>p.2.No≠q.2.No):=by
 have hP:=Ft (l:=l) (fB:=fB) (ah:=ah) (λp=>((p.2.At<=fB/\p.1=fB)\/(fB<p.2.At/\p.1=p.2.At))/\p.2∈l) (λy hy h=>⟨.inl ⟨h,rfl⟩,hy⟩) (λy hy h=>⟨.inr ⟨h,rfl⟩,hy⟩)
 refine(LB l fB ah).imp_of_mem λ{p q}hp hq hlt e=>?_
 have h1:=hP p hp
 have h2:=hP q hq
 have h3:=P2 g.inc h1.2 h2.2 e
 rw[h3]at h1
 omega
structure Jdg(l:List aE)(J:List Int×Int×Int):Prop where
 err:J.2.2=0
 rise:J.1.Pairwise (·<·)
 mem:∀x∈J.1,∃v∈l,v.No=x
 mode:J.1≠[]->1<=J.2.1/\J.2.1<=4
 mode2:J.2.1≠0->1<=J.2.1/\J.2.1<=4
theorem BF(g:FM l){dU at_:Int}(hb:0<=dU/\dU<1099511627776)(ht:0<=at_/\at_<1099511627776)(hk:0<=ah/\ah<1099511627776)(de:dU<=at_):Jdg l (aM l dU at_ ah):=by
 have h0:bR l=0:=(te l).2 g
 have h1:∀x:Int,0<=x/\x<1099511627776->fP x=true:=λx hx=>by simp[fP,hx]
 have h2:decide (at_<dU)=false:=by simp;omega
 unfold aM
 rw[h0,h1 _ hb,h1 _ ht,h1 _ hk,h2]
 simp only[bne_self_eq_false,cond_false,Bool.not_true,Bool.or_false]
 obtain⟨pre,b',hs,e⟩:=I1 dU at_ aM.K1 (iy l dU ah) false []
 rw[e,vF]
 unfold aM.K1
 cases hc:(((pre.map (·.2)).length:Int)==0)with
 |true=>exact⟨rfl,List.Pairwise.nil,λx hx=>(kA hx).elim,λh=>absurd rfl h,λh=>absurd rfl h⟩
 |false=>
  simp only[cond_false,E3,aM.K2,vF]
  have hpre:pre.length≠0:=by simpa using hc
  have hsub:=Ns ((nthI (pre.map (·.2)) (((pre.map (·.2)).length:Int)-1)).aw.Mode) (pre.map (·.2)) b'
  have hnd:(pre.map (·.2)).Pairwise (λa b=>a.No≠b.No):=by
   grind [Nx]
  have hmode:1<=(nthI (pre.map (·.2)) (((pre.map (·.2)).length:Int)-1)).aw.Mode/\(nthI (pre.map (·.2)) (((pre.map (·.2)).length:Int)-1)).aw.Mode<=4:=by
   have hm:nthI (pre.map (·.2)) (((pre.map (·.2)).length:Int)-1)∈pre.map (·.2):=ow (by rw[List.length_map];omega)
   obtain⟨p,hp,hpe⟩:=qJ.1 hm
   have:=g.mode (AR p (hs.subset hp))
   rw[hpe]at this
   exact this
  refine⟨rfl,J3 (pm _) ((nS _).nodup_iff.2 ?_),λx hx=>?_,λ_=>hmode,λ_=>hmode⟩
  .grind
  .have hx2:=(nS _).mem_iff.1 hx
   obtain⟨v,hv,rfl⟩:=qJ.1 hx2
   obtain⟨p,hp,rfl⟩:=qJ.1 (hsub.subset hv)
   grind [AR]
theorem Pa(mode:Int):(gf mode []).1=false:=by
 unfold gf bK
 have h1:∀f,iI [] f=-1:=λ_=>rfl
 have h2:decide (0<=(-1:Int))=false:=rfl
 rw[h1,h1,h2]
 cases(iX mode [] != 0)<;>cases(mode==4)<;>cases(mode==3)<;>cases(mode != 4)<;>rfl
theorem I4{mode:Int}(hm:1<=mode/\mode<=4){l:List Bool}(hl:l.length<=256):(gf mode l).2=0:=by
 have hc:iX mode l=0:=by
  have h1:mhas mZ mode=true:=by
   have:mode=1\/mode=2\/mode=3\/mode=4:=by omega
   rcases this with rfl|rfl|rfl|rfl<;>rfl
  grind [iX]
 have k1:∀(k:List Int->List Int×Bool×Int),(∀g,(k g).2.2=0)->∀(s:List Bool)i g,(bK.L1 k s i g).2.2=0:=by
  intro k hk s
  induction s with
  |nil=>intro i g;exact hk g
  |cons y s ih=>intro i g;exact ih _ _
 have k2:∀(k:List Int->List Int×Bool×Int),(∀g,(k g).2.2=0)->∀(s:List Bool)i g,(bK.L2 k s i g).2.2=0:=by
  intro k hk s
  induction s with
  |nil=>intro i g;exact hk g
  |cons y s ih=>intro i g;exact ih _ _
 have k3:∀(k:List Int->List Int×Bool×Int),(∀g,(k g).2.2=0)->∀(s:List Bool)i g,(bK.L3 k s i g).2.2=0:=by
  intro k hk s
  induction s with
  |nil=>intro i g;exact hk g
  |cons y s ih=>intro i g;exact ih _ _
 show(bK mode l).2.2=0
 unfold bK
 rw[hc]
 simp only[bne_self_eq_false,cond_false,Bool.cond_eq_ite]
 repeat' split
 all_goals first
  |rfl
  |exact k1 _ (λ_=>rfl) _ _ _
  |exact k2 _ (λ_=>rfl) _ _ _
  |exact k3 _ (λ_=>rfl) _ _ _
theorem Oc{l:List aK}(hc:dD l=0){o t:Int}(ho:0<=o/\o<32)(ht:0<=t/\t<1099511627776)(hk:0<=ah/\ah<1099511627776):(fd l o t ah).2=0:=by
 have h1:∀x:Int,0<=x/\x<1099511627776->fJ x=true:=λx hx=>by simp only[fJ,ij,qC,decide_eq_true_eq];omega
 have h2:i7 o=true:=by simp only[i7,ij,qC,decide_eq_true_eq];omega
 grind [fd]
theorem ze(k:Int->Int)(hk:∀g,k g=0):∀(l:List Int)(g:Int),(∀x∈l,g<x/\x<=1048576)->l.Pairwise (·<·)->dw.L1 k l g=0
 |[],g,_,_=>hk g
 |y::l,g,h,hp=>by
  have h1:=h y (vB ..)
  have e:(decide (y<=g)||decide (1048576<y))=false:=by simp;omega
  simp only[dw.L1,e,cond_false]
  exact ze k hk l y (λx hx=>⟨(List.pairwise_cons.1 hp).1 x hx,(h x (xC _ hx)).2⟩) (List.pairwise_cons.1 hp).2
theorem L7{l:List aG}(hc:du l=0){p t:Int}{ps:List Int}(hp:0<=p/\p<64)(hps:((∀x∈ps,0<=x/\x<1048577)/\ps.Pairwise (·<·))/\ps.length<=16)(ht:0<=t/\t<1099511627776)(hk:0<=ah/\ah<1099511627776):(dV l p ps t ah).2.2=0:=by grind [dw,dw.K1,dV,fw,ze]
theorem EU{β : Type}(F:(aj->β)->aj->β)(go:Nat->aj->β)(h:∀m,go (m+1)=F (go m))(hF:∀f g x,(∀y∈x.L,f y=g y)->F f x=F g x)(x:aj):go x.dep x=F (λy=>go y.dep y) x:=by
 have key:∀x:aj,∀m,x.dep<=m->go m x=go x.dep x:=by
  refine λx=>aj.ind (P:=λx=>∀m,x.dep<=m->go m x=go x.dep x) ?_ x
  intro x ih m hm
  have hp:=aj.ni x
  obtain⟨m',rfl⟩:∃m',m=m'+1:=⟨m-1,by omega⟩
  obtain⟨n,hn⟩:∃n,x.dep=n+1:=⟨x.dep-1,by omega⟩
  rw[hn,h,h]
  refine hF _ _ _ λy hy=>?_
  have:=aj.lj hy
  grind
 have hp:=aj.ni x
 obtain⟨n,hn⟩:∃n,x.dep=n+1:=⟨x.dep-1,by omega⟩
 rw[hn,h]
 refine hF _ _ _ λy hy=>?_
 have:=aj.lj hy
 exact key y n (by omega)
theorem Tu(x:aj):bS x=bS.F bS x:=by
 refine EU bS.F bS.go (λm=>rfl) (λf g x h=>?_) x
 unfold bS.F
 have:∀(k:Int->Int)(l:List aj)a,(∀y∈l,f y=g y)->bS.L1 f k l a=bS.L1 g k l a:=by
  intro k l
  induction l with
  |nil=>intros;rfl
  |cons y l ih=>intro a hl;simp only[bS.L1,hl y (vB ..)];exact ih _ λz hz=>hl z (xC _ hz)
 exact this _ _ _ h
theorem depthL(l:List aj):∀(a:Int),a<=bS.L1 bS (λg=>g) l a/\(∀y∈l,bS y<=bS.L1 bS (λg=>g) l a)/\∀M:Int,a<=M->(∀y∈l,bS y<=M)->bS.L1 bS (λg=>g) l a<=M:=by
 induction l with
 |nil=>intro a;exact⟨Int.le_refl _,λ_ h=>(kA h).elim,λM h _=>h⟩
 |cons y l ih=>
  grind [bS.L1]
theorem depthK(l:List aj):∀(a:Int),bS.L1 bS bS.K1 l a=IntKind.i64.wrap (bS.L1 bS (λg=>g) l a+1):=by
 induction l with
 |nil=>intro a;rfl
 |cons y l ih=>intro a;exact ih _
theorem NT(x:aj):x.dep<=1500000->(1<=bS x/\bS x<=x.dep)/\bS x=bS.L1 bS (λg=>g) x.L 0+1:=by
 refine aj.ind (P:=λx=>x.dep<=1500000->(1<=bS x/\bS x<=x.dep)/\bS x=bS.L1 bS (λg=>g) x.L 0+1) ?_ x
 intro x ih hx
 obtain⟨i1,i2,i3⟩:=depthL x.L 0
 have hp:=aj.ni x
 have h3:=i3 ((x.dep:Int)-1) (by omega) λy hy=>by
  have h4:=aj.lj hy
  have:=(ih y hy (by omega)).1.2
  omega
 grind [bS.F,Tu,depthK,wrap64]
theorem NS(x:aj):x.dep<=1500000->∀(d D:Int),bS x<=D->∀z∈bz x d,z.depth<=d+D-1:=by
 refine aj.ind (P:=λx=>x.dep<=1500000->∀(d D:Int),bS x<=D->∀z∈bz x d,z.depth<=d+D-1) ?_ x
 intro x ih hx d D hD z hz
 obtain⟨h1,h2⟩:=NT x hx
 rw[pb]at hz
 rcases kD.1 hz with rfl|hz
 .show d<=d+D-1;omega
 .obtain⟨y,hy,hz⟩:=List.mem_flatMap.1 hz
  have h4:=aj.lj hy
  have h5:=(depthL x.L 0).2.1 y hy
  have:=ih y hy (by omega) (d+1) (D-1) (by omega) z hz
  omega
theorem Tq(x:aj):dJ x=dJ.F dJ x:=by
 refine EU dJ.F dJ.go (λm=>rfl) (λf g x h=>?_) x
 funext dL
 unfold dJ.F
 have:∀(k:Int->Int)(l:List aj)a,(∀y∈l,f y=g y)->dJ.L1 f dL k l a=dJ.L1 g dL k l a:=by
  intro k l
  induction l with
  |nil=>intros;rfl
  |cons y l ih=>
   grind [dJ.L1]
 exact this _ _ _ h
def cnt(x:aj):Nat:=(bz x 1).length
theorem VP(x:aj):∀d,(bz x d).length=cnt x:=by
 refine aj.ind (P:=λx=>∀d,(bz x d).length=cnt x) ?_ x
 intro x ih d
 unfold cnt
 rw[pb,pb x 1,zA,zA,List.length_flatMap,List.length_flatMap]
 congr 2
 apply List.map_congr_left
 intro y hy
 rw[ih y hy,ih y hy]
theorem Td(x:aj):cnt x=1+(x.L.map cnt).sum:=by
 conv=>lhs;unfold cnt
 rw[pb,zA,List.length_flatMap,Nat.add_comm]
 congr 2
 apply List.map_congr_left
 intro y hy
 exact VP y _
theorem KJ(x:aj):∀dL:Int,0<=dL->dL<=256->dJ x dL=min (cnt x:Int) (dL+1):=by
 refine aj.ind (P:=λx=>∀dL:Int,0<=dL->dL<=256->dJ x dL=min (cnt x:Int) (dL+1)) ?_ x
 intro x ih dL h0 h1
 rw[Tq,Td]
 unfold dJ.F
 have key:∀(l:List aj)(a:Int),(∀y∈l,y∈x.L)->1<=a->a<=dL+1->dJ.L1 dJ dL dJ.K1 l a=min (a+((l.map cnt).sum:Nat)) (dL+1):=by
  intro l
  induction l with
  |nil=>intro a _ _ ha;simp only[dJ.L1,dJ.K1,List.map_nil,List.sum_nil];omega
  |cons y l ih2=>
   intro a hl h2 h3
   simp only[dJ.L1,Bool.cond_eq_ite,decide_eq_true_eq,kG,List.sum_cons]
   grind [dJ.K1,wrap64,cnt,Td]
 grind
theorem Nn{x:aj}(hx:x.dep<=1500000)(h:mi x=false):(bz x 1).length<=256/\∀z∈bz x 1,z.depth<=16:=by
 simp only[mi,Bool.or_eq_false_iff,decide_eq_false_iff_not]at h
 have h1:=KJ x 256 (by decide) (by decide)
 have h2:=NS x hx 1 16 (by omega)
 grind [cnt]
theorem E6(s:ByteArray):∀(m i:Nat)(r:List UInt8),s.size-i=m->(ByteArray.toList.loop s i r).length=r.length+m
 |0,i,r,h=>by rw[ByteArray.toList.loop];rw[if_neg (by omega)];simp
 |m+1,i,r,h=>by
  rw[ByteArray.toList.loop,if_pos (by omega),E6 s m (i+1) _ (by omega),zA]
  omega
theorem yp(s:ByteArray):s.toList.length=s.size:=by
 have:=E6 s s.size 0 [] (by omega)
 simpa[ByteArray.toList]using this
theorem Uu(c:Bool)(a b d:α):(bif c then(bif c then a else b)else d)=bif c then a else d:=by cases c<;>rfl
theorem Vs(c x:Bool):(bif c then false else x)=(!c&&x):=by cases c<;>rfl
theorem Vr(c x:Bool):(bif c then true else x)=(c||x):=by cases c<;>simp
theorem Kw(s:ByteArray):ec s=(dX s&&!(uZ s)):=by
 unfold ec uZ
 simp only[Uu]
 simp only[Vs,Vr,Bool.not_or,Bool.or_false]
 ac_rfl
theorem Eg(c:Int):(lX c != 2)=!(nW c):=by grind [lX,nW]
theorem O6(c:Int):(((lX c != 2)&&(lX c != 3))&&(lX c != 5))=!(vf c):=by grind [lX,vf,nW,uk]
theorem Ls(s:ByteArray):∀(l:List Nat)(i:Nat),dX.L1 s dX.K1 l i=j3.L1 s j3.K1 l i
 |[],i=>rfl
 |y::l,i=>by simp only[dX.L1,j3.L1,O6,Ls s l]
theorem PO(h:j3 s=true):dX s=true:=by
 unfold j3 at h
 unfold dX
 rw[Eg,Ls]
 rw[Bool.cond_eq_ite]at h ⊢
 split at h
 .cases h
 .next hc=>
  simp only[zE,not_or,decide_eq_true_eq]at hc
  obtain⟨⟨h1,h2⟩,h3⟩:=hc
  have e:(s.toList==(⟨#[]⟩:ByteArray).toList)=false:=by
   rw[Bool.eq_false_iff]
   intro he
   have he:=eq_of_beq he
   have h9:=yp s
   rw[he,yp]at h9
   have:(⟨#[]⟩:ByteArray).size=0:=rfl
   omega
  grind
theorem Qd(h:oZ s=true):ec s=true:=by
 simp only[oZ,qC]at h
 rw[Kw,PO h.1,h.2];rfl
theorem Kb(s:ByteArray):∀(l:List ByteArray)(i:Nat),fU.L1 s fU.K1 l i=bB.L1 s bB.K1 l i
 |[],i=>rfl
 |y::l,i=>by
  have:(y.toList==s.toList)=(s.toList==y.toList):=by rw[zM,beq_iff_eq,beq_iff_eq];exact eq_comm
  simp only[fU.L1,bB.L1,this,Kb s l]
theorem rindex(l:List ByteArray)(s:ByteArray):fU l s=bB l s:=Kb s l 0
theorem FG{l:List ByteArray}(h:fH l=true):bQ l ec=true:=by
 have key:∀(L l:List ByteArray)(i:Nat),fH.L1 L fH.K1 l i=true->bQ.L1 L ec bQ.K1 l i=true:=by
  intro L l
  induction l with
  |nil=>intros;rfl
  |cons y l ih=>
   intro i h
   simp only[fH.L1,Bool.cond_eq_ite]at h
   split at h
   .cases h
   .next hc=>
    simp only[zE,not_or,xF,Bool.not_eq_false,Bool.not_eq_true]at hc
    simp only[bQ.L1,Qd hc.1,←rindex,hc.2,Bool.not_true,Bool.or_self,cond_false]
    exact ih _ h
 exact key l l 0 h
theorem wu(off:List ByteArray){f g:List ByteArray->aj->Bool}(k:Bool):∀(l:List aj),(∀y∈l,f off y=g off y)->cv.L1 f off k l=cv.L1 g off k l
 |[],_=>rfl
 |y::l,h=>by simp only[cv.L1,h y (vB ..),wu off k l λz hz=>h z (xC _ hz)]
theorem M9(off:List ByteArray)(x:aj):cv off x=cv.F cv off x:=by
 have:=EU (λf x=>cv.F (λ_ y=>f y) off x) (λm x=>cv.go m off x) (λm=>?_) (λf g x h=>?_) x
 .refine Eq.trans this ?_
  show cv.F _ off x=_
  unfold cv.F
  rw[wu off (f:=λ_ y=>cv.go y.dep off y) (g:=cv) _ x.L λy hy=>rfl]
 .funext x
  show cv.F (cv.go m) off x=cv.F _ off x
  grind [cv.F,wu]
 .grind [cv.F,wu]
theorem Kp(off:List ByteArray):∀(l:List aj),cv.L1 cv off cv.K1 l=true->∀y∈l,cv off y=true
 |[],_=>λ_ h=>(kA h).elim
 |y::l,h=>by
  simp only[cv.L1,Bool.cond_eq_ite]at h
  split at h
  .cases h
  .next hc=>
   intro z hz
   rcases kD.1 hz with rfl|hz
   .simpa using hc
   .exact Kp off l h z hz
theorem M8(off:List ByteArray)(x:aj):cv off x=true->∀d,∀z∈bz x d,((!(dB z.x))||dq off z.x.Name)=true:=by
 refine aj.ind (P:=λx=>cv off x=true->∀d,∀z∈bz x d,((!(dB z.x))||dq off z.x.Name)=true) ?_ x
 intro x ih h d z hz
 rw[M9]at h
 unfold cv.F at h
 rw[Bool.cond_eq_ite]at h
 split at h
 .cases h
 .next hc=>
  rw[pb]at hz
  rcases kD.1 hz with rfl|hz
  .show((!(dB x))||dq off x.Name)=true
   unfold dq dB
   rw[rindex]at hc
   grind
  .grind [Kp]
theorem uq(u:Bool){f g:aj->Bool->Bool}(k:Bool):∀(l:List aj),(∀y∈l,f y u=g y u)->aR.L1 f u k l=aR.L1 g u k l
 |[],_=>rfl
 |y::l,h=>by simp only[aR.L1,h y (vB ..),uq u k l λz hz=>h z (xC _ hz)]
theorem Ky(x:aj)(u:Bool):aR x u=aR.F aR x u:=by
 have:=EU (λf x=>aR.F (λy _=>f y) x u) (λm x=>aR.go m x u) (λm=>?_) (λf g x h=>?_) x
 .refine Eq.trans this ?_
  show aR.F _ x u=_
  unfold aR.F
  rw[uq u (f:=λy _=>aR.go y.dep y u) (g:=aR) _ x.L λy hy=>rfl]
 .funext x
  show aR.F (aR.go m) x u=aR.F _ x u
  grind [aR.F,uq]
 .grind [aR.F,uq]
theorem Iz(u k:Bool):∀(l:List aj),aR.L1 aR u k l=true->(∀y∈l,aR y u=true)/\k=true
 |[],h=>⟨λ_ h=>(kA h).elim,h⟩
 |y::l,h=>by
  simp only[aR.L1,Bool.cond_eq_ite]at h
  split at h
  .cases h
  .next hc=>
   obtain⟨h1,h2⟩:=Iz u k l h
   grind
theorem Q2{x:aj}(h:aR.K1 x u=true):(bh x.Kind 1 4&&kindsP x.Kind x)=true/\(u=false->x.Kind≠4):=by
 unfold aR.K1 at h
 simp only[Bool.cond_eq_ite,beq_iff_eq]at h
 split at h
 .next e=>
  rw[e]
  refine⟨?_,λ_=>by decide⟩
  show(_&&lV x)=true
  unfold lV
  rw[h];rfl
 .split at h
  .next e=>
   rw[e]
   refine⟨?_,λ_=>by decide⟩
   show(_&&lU x)=true
   grind [lU,bh]
  .split at h
   .next e=>
    rw[e]
    refine⟨?_,λ_=>by decide⟩
    show(_&&lT x)=true
    unfold lT bh
    grind
   .split at h
    .next e=>
     rw[e]
     simp only[qC]at h
     refine⟨?_,λhu=>by rw[hu]at h;simp at h⟩
     show(_&&lm x)=true
     unfold lm bh
     grind
    .cases h
theorem Kx(u:Bool)(x:aj):aR x u=true->∀d,∀z∈bz x d,(bh z.x.Kind 1 4&&kindsP z.x.Kind z.x)=true/\(u=false->z.x.Kind≠4):=by
 refine aj.ind (P:=λx=>aR x u=true->∀d,∀z∈bz x d,(bh z.x.Kind 1 4&&kindsP z.x.Kind z.x)=true/\(u=false->z.x.Kind≠4)) ?_ x
 intro x ih h d z hz
 rw[Ky]at h
 obtain⟨h1,h2⟩:=Iz u _ x.L h
 grind [pb,Q2]
theorem rl1(rec:List ByteArray->aj->aj)(off:List ByteArray)(k:List aj->aj):∀(l g:List aj),av.L1 rec off k l g=k (g++l.map (rec off))
 |[],g=>by simp[av.L1]
 |y::l,g=>by simp[av.L1,rl1 rec off k l]
theorem rl2(rec:List ByteArray->aj->aj)(off:List ByteArray)(k:List aj->aj):∀(l g:List aj),av.L2 rec off k l g=k (g++l.map (rec off))
 |[],g=>by simp[av.L2]
 |y::l,g=>by simp[av.L2,rl2 rec off k l]
def rno(off:List ByteArray)(x:aj):Int:=bif dB x then bB off x.Name else 0
theorem Ot(rec:List ByteArray->aj->aj)(off:List ByteArray)(x:aj):av.F rec off x=aj.mk x.Kind x.N (rno off x) x.Name (x.L.map (rec off)):=by
 unfold av.F rno dB
 cases((x.Kind==1)||(x.Kind==2))
 .rw[cond_false,rl2];rfl
 .grind [av.K1,rl1,rindex]
theorem Fd(off:List ByteArray)(x:aj):av off x=aj.mk x.Kind x.N (rno off x) x.Name (x.L.map (av off)):=by
 have:=EU (λf x=>aj.mk x.Kind x.N (rno off x) x.Name (x.L.map f)) (λm x=>av.go m off x) (λm=>?_) (λf g x h=>?_) x
 .exact this
 .funext x
  show av.F (av.go m) off x=_
  rw[Ot]
 .show aj.mk _ _ _ _ _=aj.mk _ _ _ _ _
  rw[List.map_congr_left h]
theorem GU(b:aj){f g:aj->aj->Bool}(k:Bool):∀(l:List aj)(i:Nat),(∀y∈l,f y=g y)->bG.L1 f b k l i=bG.L1 g b k l i
 |[],_,_=>rfl
 |y::l,i,h=>by simp only[bG.L1,h y (vB ..),GU b k l (i+1) λz hz=>h z (xC _ hz)]
theorem PF(x:aj):bG x=bG.F bG x:=by
 refine EU bG.F bG.go (λm=>rfl) (λf g x h=>?_) x
 grind [bG.F,GU]
theorem PG(b:aj):∀(l:List aj)(i:Nat),bG.L1 bG b bG.K1 l i=true->∀(j:Nat)(y:aj),l[j]? = some y->bG y (nthI b.L ((i+j:Nat):Int))=true
 |[],_,_,j,y,hj=>by simp at hj
 |z::l,i,h,j,y,hj=>by
  simp only[bG.L1,Bool.cond_eq_ite]at h
  split at h
  .cases h
  .next hc=>
   cases j with
   |zero=>simp at hj;subst hj;simpa using hc
   |succ j=>have:=PG b l (i+1) h j y (by simpa using hj);rw[show i+(j+1)=i+1+j from by omega];exact this
theorem TS(off:List ByteArray)(x:aj):bG (av off x) x=true->∀d,∀z∈bz x d,z.x.No=rno off z.x:=by
 refine aj.ind (P:=λx=>bG (av off x) x=true->∀d,∀z∈bz x d,z.x.No=rno off z.x) ?_ x
 intro x ih h d z hz
 rw[PF,Fd]at h
 unfold bG.F at h
 rw[Bool.cond_eq_ite]at h
 split at h
 .cases h
 .next hc=>
  simp only[zE,not_or,bne_iff_ne,ne_eq,Classical.not_not]at hc
  have hno:rno off x=x.No:=hc.1.1.2
  rw[pb]at hz
  rcases kD.1 hz with rfl|hz
  .exact hno.symm
  .obtain⟨y,hy,hz⟩:=List.mem_flatMap.1 hz
   obtain⟨j,hj⟩:=WW hy
   have h2:=PG x _ 0 h j (av off y) (by show(List.map (av off) x.L)[j]? = _;rw[zW,hj];rfl)
   have hlt:=(List.getElem?_eq_some_iff.1 hj).1
   have hg:=di (xs:=x.L) (z:=((0+j:Nat):Int)) (by omega)
   grind
theorem Fc{off:List ByteArray}{x:aj}(h:bG (av off x) x=true):cm off x=true:=by
 unfold cm cm.K1
 rw[sL]
 exact TS off x h 1
def rrules(off:List ByteArray):List fC->Nat->List fC
 |[],_=>[]
 |y::l,i=>fC.mk y.Kind (i:Int) y.iV (av off y.aj)::rrules off l (i+1)
theorem Hd(off:List ByteArray):∀(l:List fC)(i j:Nat)(y:fC),l[j]? = some y->(rrules off l i)[j]? = some (fC.mk y.Kind ((i+j:Nat):Int) y.iV (av off y.aj))
 |[],_,j,y,h=>by simp at h
 |z::l,i,0,y,h=>by simp at h;subst h;rfl
 |z::l,i,j+1,y,h=>by
  have:=Hd off l (i+1) j y (by simpa using h)
  rw[show i+(j+1)=i+1+j from by omega]
  exact this
theorem C6(p:aw):∀(l:List fC)(i:Nat)(g:List fC),eo.L1 p (eo.K1 p) l i g=(aw.mk p.Name p.dN p.aA (g++rrules p.aA l i) (av p.aA p.aO) p.Mode,0)
 |[],i,g=>by
  simp only[eo.L1,eo.K1,rrules,List.append_nil,aj.eta]
 |y::l,i,g=>by
  simp only[eo.L1,C6 p l,rrules,aj.eta,List.append_assoc,List.singleton_append]
theorem Qu(b:aw):∀(l:List fC)(i:Nat),jo.L1 b jo.K1 l i=true->∀(j:Nat)(y:fC),l[j]? = some y->y.Bl=(nthI b.dp ((i+j:Nat):Int)).Bl/\bG y.aj (nthI b.dp ((i+j:Nat):Int)).aj=true
 |[],_,_,j,y,hj=>by simp at hj
 |z::l,i,h,j,y,hj=>by
  simp only[jo.L1,Bool.cond_eq_ite]at h
  split at h
  .cases h
  .next hc=>
   simp only[zE,not_or,bne_iff_ne,ne_eq,Classical.not_not,xF,Bool.not_eq_false]at hc
   cases j with
   |zero=>simp at hj;subst hj;exact⟨hc.1.1.2,hc.2⟩
   |succ j=>have:=Qu b l (i+1) h j y (by simpa using hj);rw[show i+(j+1)=i+1+j from by omega];exact this
theorem Ko(p:aw)(k:Bool):∀(l:List fC),iS.L1 p k l=true->(∀r∈l,cv p.aA r.aj=true)/\k=true
 |[],h=>⟨λ_ h=>(kA h).elim,h⟩
 |y::l,h=>by
  simp only[iS.L1,Bool.cond_eq_ite]at h
  split at h
  .cases h
  .next hc=>
   obtain⟨h1,h2⟩:=Ko p k l h
   grind
theorem Np(k:Bool):∀(l:List fC),fG.L1 k l=false->∀r∈l,mi r.aj=false
 |[],_=>λ_ h=>(kA h).elim
 |y::l,h=>by
  simp only[fG.L1,Bool.cond_eq_ite]at h
  split at h
  .cases h
  .next hc=>
   intro z hz
   rcases kD.1 hz with rfl|hz
   .simpa using hc
   .exact Np k l h z hz
theorem IA(p:aw)(k:Bool):∀(l:List fC)(i:Nat),gN.L1 p k l i=true->(∀(j:Nat)r,l[j]? = some r->((r.Kind.toList==(nthI p.dN (((i+j:Nat):Int))).toList)=true/\0<=r.iV/\r.iV<1099511627776)/\aR r.aj true=true)/\k=true
 |[],i,h=>⟨λj r hj=>by simp at hj,h⟩
 |y::l,i,h=>by
  simp only[gN.L1,Bool.cond_eq_ite]at h
  split at h
  .cases h
  .next hc=>
   simp only[zE,not_or,decide_eq_true_eq,xF,Bool.not_eq_false]at hc
   obtain⟨h1,h2⟩:=IA p k l (i+1) h
   grind
theorem Te(hs:smP p)(h:im p=0):dh p=0:=by
 unfold im at h
 rw[Bool.cond_eq_ite]at h
 split at h
 .next hc=>exact absurd h (by simpa using hc)
 .next hR=>
  rw[Bool.cond_eq_ite]at h
  split at h
  .omega
  .next hS=>
   simp only[xF,Bool.not_eq_false]at hS
   unfold eo at hR hS
   cases hl:fG p with
   |true=>rw[hl]at hR;simp at hR
   |false=>
    rw[hl]at hR hS
    cases hn:iS p with
    |false=>rw[hn]at hR;simp at hR
    |true=>
     rw[hn]at hR hS
     cases hf:gN p with
     |false=>rw[hf]at hR;simp at hR
     |true=>
      rw[hf]at hS
      simp only[Bool.not_true,cond_false,C6,vF]at hS
      clear hR h
      unfold fG at hl
      rw[Bool.cond_eq_ite]at hl
      split at hl
      .cases hl
      .next h1=>
       simp only[zE,not_or,decide_eq_true_eq,Bool.not_eq_true]at h1
       have h2:=Np _ _ hl
       unfold iS at hn
       rw[Bool.cond_eq_ite]at hn
       split at hn
       .cases hn
       .next h3=>
        simp only[zE,not_or,xF,Bool.not_eq_false]at h3
        obtain⟨h4,h5⟩:=Ko p _ _ hn
        unfold gN at hf
        rw[Bool.cond_eq_ite]at hf
        split at hf
        .cases hf
        .next h6=>
         simp only[zE,not_or,decide_eq_true_eq,bne_iff_ne,ne_eq,Classical.not_not]at h6
         obtain⟨h7,h8⟩:=IA p _ _ 0 hf
         unfold jo at hS
         rw[Bool.cond_eq_ite]at hS
         split at hS
         .cases hS
         .next h9=>
          simp only[zE,not_or,xF,Bool.not_eq_false]at h9
          have h10:=Qu p _ 0 hS
          have hexp:∀x,x∈aF p->(∃r∈p.dp,r.aj=x)\/x=p.aO:=by
           intro x hx
           rw[oF]at hx
           simp only[qH,qJ,jC]at hx
           exact hx
          rw[Eh,wg,Di,HS]
          refine⟨⟨⟨⟨by omega,by omega,by omega⟩,λx hx=>?_⟩,⟨⟨Qd h3.1.1,FG h3.1.2,FG h3.2⟩,λx hx=>?_⟩,?_⟩,λj r hj=>?_,Fc h9.2⟩
          .rcases hexp x hx with⟨r,hr,rfl⟩|rfl
           .exact Nn (hs.2.1 r hr) (h2 r hr)
           .exact Nn hs.2.2.1 h1.2
          .rcases hexp x hx with⟨r,hr,rfl⟩|rfl
           .exact M8 p.aA _ (h4 r hr) 1
           .exact M8 p.aA _ h5 1
          .unfold bC bC.K1 bC.K2
           rw[sA,D6,Gx]
           refine⟨?_,λj r hj=>?_,λj x hj z hz=>?_⟩
           .simp only[qC,decide_eq_true_eq,beq_iff_eq,bh]
            exact⟨⟨by omega,h6.1.1.2⟩,by omega,by omega⟩
           .have:=(h7 j r hj).1
            simp only[qC,decide_eq_true_eq,bh]
            exact⟨this.1,this.2.1,by omega⟩
           .have hlen:(aF p).length=p.dp.length+1:=by rw[oF];simp
            rw[oF]at hj
            rcases Nat.lt_or_ge j p.dp.length with hjl|hjl
            .grind [Kx,wrap64]
            .rw[List.getElem?_append_right (by simpa using hjl)]at hj
             have hj2:=jC.1 (List.mem_of_getElem? hj)
             subst hj2
             obtain⟨k1,k2⟩:=Kx false _ h8 1 z hz
             refine⟨k1,?_⟩
             have:(z.x.Kind != 4)=true:=by simpa using k2 rfl
             rw[this,Bool.or_true]
          .have h11:=h10 j _ (Hd p.aA p.dp 0 j r hj)
           have hlt:=(List.getElem?_eq_some_iff.1 hj).1
           have hg:=di (xs:=p.dp) (z:=((0+j:Nat):Int)) (by omega)
           rw[show(((0+j:Nat):Int)).toNat=j from by omega,hj]at hg
           rw[←Option.some.inj hg]at h11
           dsimp only at h11
           exact⟨by rw[←h11.1];simp,Fc h11.2⟩
def Tr(v:aE):Prop:=(0<=v.No/\v.No<=1048576)/\(0<=v.At/\v.At<1099511627776)/\(0<=v.dY/\v.dY<1099511627776)/\im v.aw=0
theorem Qm{L:List aE}{y:aE}{i:Nat}(h:eb.L1 L eb.K1 (y::l) i=0):Tr y/\(0<i->(nthI L ((i:Int)-1)).No<y.No)/\eb.L1 L eb.K1 l (i+1)=0:=by
 simp only[eb.L1,Bool.cond_eq_ite]at h
 split at h
 .omega
 .next hc=>
  simp only[zE,not_or,decide_eq_true_eq,qC,xF,Bool.not_eq_false,bne_iff_ne,ne_eq,Classical.not_not,gp]at hc
  obtain⟨⟨⟨⟨h1,h2⟩,h3⟩,h4⟩,h5⟩:=hc
  exact⟨⟨by omega,h3,h4,h5⟩,λhi=>by omega,h⟩
theorem Qn(L:List aE):∀(l pre:List aE)(x:aE),L=(pre++[x])++l->eb.L1 L eb.K1 l (pre.length+1)=0->(∀y∈l,Tr y)/\(x::l).Pairwise (λa b=>a.No<b.No)
 |[],_,_,_,_=>⟨λ_ h=>(kA h).elim,by simp⟩
 |y::l,pre,x,h,hr=>by
  have hx:nthI L (((pre.length+1:Nat):Int)-1)=x:=by
   have hb:0<=(((pre.length+1:Nat):Int)-1)/\(((pre.length+1:Nat):Int)-1)<(L.length:Int):=by rw[h];simp;omega
   have hg:=di hb
   grind
  obtain⟨h1,h2,h3⟩:=Qm hr
  have h2:=h2 (by omega)
  rw[hx]at h2
  have ih:=Qn L l (pre++[x]) y (by rw[h];simp)
  grind
theorem N3(hs:smV l)(h:eb l=0):bR l=0:=by
 rw[te]
 unfold eb at h
 rw[Bool.cond_eq_ite]at h
 split at h
 .omega
 .next hl=>
  simp only[decide_eq_true_eq]at hl
  have key:(∀y∈l,Tr y)/\l.Pairwise (λa b=>a.No<b.No):=by
   cases l with
   |nil=>exact⟨λ_ h=>(kA h).elim,List.Pairwise.nil⟩
   |cons y l=>
    obtain⟨h1,_,h3⟩:=Qm h
    obtain⟨i1,i2⟩:=Qn (y::l) l [] y rfl h3
    grind
  refine⟨by omega,λv hv=>?_,key.2⟩
  have:=key.1 v hv
  obtain⟨h1,h2,h3,h4⟩:=this
  exact⟨by omega,by omega,h1,Te (hs.2 v hv) h4⟩
theorem Bt{α : Type}{R:α->Bool}{no:α->Int}{c:Int}(hc:c≠0):∀(l:List α)(g:Int),prgChk R no c l g=0↔(∀y∈l,R y=true/\g<no y)/\l.Pairwise (λa b=>no a<no b)
 |[],g=>by simp[prgChk]
 |y::l,g=>by
  have ih:=Bt hc l (no y) (R:=R) (no:=no)
  simp only[prgChk,Bool.cond_eq_ite,zE,xF,decide_eq_true_eq]
  split
  .grind
  .next h=>
   rw[ih]
   simp only[not_or,Bool.not_eq_false,Int.not_le]at h
   constructor
   .rintro⟨h1,h2⟩
    refine⟨λz hz=>?_,List.pairwise_cons.2 ⟨λz hz=>(h1 z hz).2,h2⟩⟩
    grind
   .rintro⟨h1,h2⟩
    obtain⟨p1,p2⟩:=List.pairwise_cons.1 h2
    grind
theorem nq(h:e=0):exOk (nm e):=by subst h;trivial
structure jw(c:bU):Prop where
 chk:dM c.Register=0
 aV:c.aV∈c.Register.cd
 time:0<=c.at_/\c.at_<1099511627776
 know:0<=c.ah/\c.ah<1099511627776
theorem jw.good{c:bU}(h:jw c):Qx c.aV:=EZ ((lF _).1 h.chk).2.2.2.2.2.1 _ h.aV
theorem jw.vers{c:bU}(h:jw c):FM c.Register.Versions:=(te _).1 ((lF _).1 h.chk).2.2.2.2.1
theorem jw.kind{c:bU}(h:jw c):0<=c.aV.Kind/\c.aV.Kind<16:=h.good.kind
theorem approvalsP(l:List ay)(g:Int):cj.L1 cj.K1 l g=prgChk lg (·.No) 280 l g:=by
 induction l generalizing g with
 |nil=>rfl
 |cons y l ih=>simp only[cj.L1,prgChk,ih]
theorem C5{l:List ay}(h:cj l=0):∀x∈l,lg x=true:=by grind [cj,approvalsP,Bt]
theorem N9{x:ay}(h:lg x=true):(0<=x.Doc/\x.Doc<4096)/\(0<=x.By/\x.By<64)/\(0<=x.For/\x.For<64)/\(0<=x.eD/\x.eD<32)/\(0<=x.At/\x.At<1099511627776):=by
 simp only[lg,fM,containsF,lk,List.any_cons,List.any_nil,Bool.or_false,qC,xF,Bool.or_eq_false_iff,decide_eq_false_iff_not]at h
 omega
theorem budgetsP(l:List Budget)(g:Int):bX.L1 bX.K1 l g=prgChk mf (·.No) 180 l g:=by
 induction l generalizing g with
 |nil=>rfl
 |cons y l ih=>simp only[bX.L1,prgChk,ih]
theorem ye{l:List Budget}(h:bX l=0):∀x∈l,mf x=true:=by grind [bX,budgetsP,Bt]
theorem Ci{x:Budget}(h:mf x=true):x.e8≠0:=by
 simp only[mf,cg,containsF,lI,List.any_cons,List.any_nil,Bool.or_false,Bool.cond_eq_ite]at h
 grind
theorem JE{l:List Budget}{kind t:Int}{x:Budget}(h:x∈ba l kind t ah):x∈l:=by
 have h2:∀(g:List (gl×Budget))(s acc:List Budget),x∈ba.L2 g ba.K2 s acc->x∈acc\/x∈s:=by
  intro g s
  induction s with
  |nil=>intro acc h;exact .inl h
  |cons y s ih=>
   intro acc h
   simp only[ba.L2,Bool.cond_eq_ite]at h
   grind
 have h1:∀(s:List Budget)(g:List (gl×Budget)),x∈ba.L1 kind t ah (ba.K1 l) s g->x∈l:=by
  intro s
  induction s with
  |nil=>intro g h;rcases h2 g l [] h with h|h;exact(kA h).elim;exact h
  |cons y s ih=>intro g h;simp only[ba.L1,Bool.cond_eq_ite]at h;(repeat' split at h)<;>exact ih _ h
 exact h1 _ _ h
theorem MP{l:List Budget}{kind t:Int}{x:Budget}(h:bX l=0)(hx:x∈ba l kind t ah):x.e8≠0:=Ci (ye h x (JE hx))
theorem JJ{l:List ay}{aV t:Int}{x:ay}(h:x∈aN l aV t ah):x∈l:=by
 have hc:∀(s:List ay),x∈cf.L1 aV t ah cf.K1 s->x∈s:=by
  intro s
  induction s with
  |nil=>intro h;exact(kA h).elim
  |cons y s ih=>
   intro h
   simp only[cf.L1,Bool.cond_eq_ite]at h
   all_goals grind
 have h2:∀(g:List (fL×ay))(s acc:List ay),x∈aN.L2 g aN.K2 s acc->x∈acc\/x∈s:=by
  intro g s
  induction s with
  |nil=>intro acc h;exact .inl h
  |cons y s ih=>
   intro acc h
   simp only[aN.L2,Bool.cond_eq_ite]at h
   split at h
   all_goals grind
 have h1:∀(s:List ay)(g:List (fL×ay)),x∈aN.L1 (aN.K1 l aV t ah) s g->x∈l:=by
  intro s
  induction s with
  |nil=>
   intro g h
   rcases h2 g (fZ l aV t ah) [] h with h|h
   .exact(kA h).elim
   .exact hc _ h
  |cons y s ih=>intro g h;simp only[aN.L1,Bool.cond_eq_ite]at h;split at h<;>exact ih _ h
 exact h1 _ _ h
theorem LS{l:List ay}{aV t:Int}{x:ay}(h:x∈(db l aV b th t ah).1):x∈l:=by
 unfold db at h
 simp only[Bool.cond_eq_ite]at h
 split at h
 .exact(kA h).elim
 .split at h
  .exact(kA h).elim
  .exact JJ (WM.1 h).1
section
variable {c:bU} (h:jw c)
include h
theorem O4{p:Int}(hp:0<=p/\p<64):(dV c.Register.er p c.aV.lh c.at_ c.ah).2.2=0:=
 L7 ((lF _).1 h.chk).2.2.1 hp h.good.eE h.time h.know
theorem Bg(hpr:p.dp.length=p.dN.length/\∀y∈p.dp,0<=y.iV/\y.iV<=1099511627775)(hk:0<=c.aV.Kind/\c.aV.Kind<(p.dp.length:Int)):
  (db c.Register.dC c.aV.No c.aV.At (nthI p.dp c.aV.Kind).iV c.at_ c.ah).2=0:=by
 have hth:=hpr.2 _ (ow hk)
 have h1:=h.good.no
 have h2:=h.good.at_
 have h3:=h.time
 have h4:=h.know
 have e1:fM 4095 [c.aV.No]=true:=by
  simp only[fM,containsF,lk,List.any_cons,List.any_nil,Bool.or_false,xF,Bool.or_eq_false_iff,decide_eq_false_iff_not];omega
 have e2:fM 1099511627775 [c.aV.At,(nthI p.dp c.aV.Kind).iV,c.at_,c.ah]=true:=by
  simp only[fM,containsF,lk,List.any_cons,List.any_nil,Bool.or_false,xF,Bool.or_eq_false_iff,decide_eq_false_iff_not];omega
 unfold db
 rw[((lF _).1 h.chk).2.2.2.2.2.2,e1,e2];rfl
theorem yL{d t:Int}{x:ay}(hx:x∈(db c.Register.dC d b th t ah).1):(0<=x.Doc/\x.Doc<4096)/\(0<=x.By/\x.By<64)/\(0<=x.For/\x.For<64)/\(0<=x.eD/\x.eD<32)/\(0<=x.At/\x.At<1099511627776):=
 N9 (C5 ((lF _).1 h.chk).2.2.2.2.2.2 x (LS hx))
theorem KD{d t:Int}{x:ay}(hx:x∈(db c.Register.dC d b th t ah).1):0<=x.For/\x.For<64:=(yL h hx).2.2.1
theorem NU{d t:Int}{x:ay}(hx:x∈(db c.Register.dC d b th t ah).1):0<=x.By/\x.By<64:=(yL h hx).2.1
theorem Bf{d t:Int}{x:ay}(hx:x∈(db c.Register.dC d b th t ah).1):(eQ c.Register.dF x.eD x.For c.at_ c.ah).2.2.2=0:=by
 obtain⟨_,_,h2,h3,_⟩:=yL h hx
 have h4:=h.time
 have h5:=h.know
 have e1:i7 x.eD=true:=by simp only[i7,ij,qC,decide_eq_true_eq];omega
 have e2:kd x.For=true:=by simp only[kd,ij,qC,decide_eq_true_eq];omega
 have e3:∀z:Int,0<=z/\z<1099511627776->fJ z=true:=λz hz=>by simp only[fJ,ij,qC,decide_eq_true_eq];omega
 unfold eQ
 rw[((lF _).1 h.chk).1,e1,e2,e3 _ h4,e3 _ h5]
 simp only[bne_self_eq_false,cond_false,Bool.not_true,Bool.or_false]
 cases(!(mhas (dK c.Register.dF c.at_ c.ah) (xV x.eD x.For))||(mgetD (dK c.Register.dF c.at_ c.ah) (xV x.eD x.For) (aK.mk 0 0 0 0 0 0 false)).nj)<;>rfl
omit h in
theorem N4{l:List bA}{a o v t:Int}{g:List (Int×Int)}:(aP.K1 l a o k v t n g).2.2=0:=by
 unfold aP.K1
 cases(!(mhas g a))with
 |true=>rfl
 |false=>
  rw[cond_false]
  have:∀(s:List Nat)(i:Nat)(p:List Int)(q:Int),(aP.L4 l a o k v t n g aP.K4 s i p q).2.2=0:=by
   intro s
   induction s with
   |nil=>intro i p q;rfl
   |cons y s ih=>
    intro i p q
    simp only[aP.L4]
    have:∀(L:List bA)(p:List Int)(q:Int),(aP.L6 a g i (λzg6_16 zg6_31=>aP.L4 l a o k v t n g aP.K4 s (i+1) zg6_16 zg6_31) L p q).2.2=0:=by
     intro L
     induction L with
     |nil=>intro p q;exact ih _ _ _
     |cons z L ihL=>intro p q;simp only[aP.L6,Bool.cond_eq_ite];split;exact ih _ _ _;exact ihL _ _
    exact this _ _ _
  exact this _ _ _ _
omit h in
theorem Q8{l:List bA}{a o v t:Int}(h0:nh l a b (cL.mk o k v t n)=0):(aP l a b o k v t n).2.2=0:=by
 unfold aP
 rw[h0]
 simp only[bne_self_eq_false,cond_false]
 have:∀(s:List Nat)(i:Nat)(g:List (Int×Int)),(aP.L1 l o k v t n (aP.K1 l a o k v t n) s i g).2.2=0:=by
  intro s
  induction s with
  |nil=>intro i g;exact N4
  |cons y s ih=>
   intro i g
   simp only[aP.L1]
   have:∀(L:List bA)(g:List (Int×Int)),(aP.L3 i (λzg3_b2_0=>aP.L1 l o k v t n (aP.K1 l a o k v t n) s (i+1) zg3_b2_0) L g).2.2=0:=by
    intro L
    induction L with
    |nil=>intro g;exact ih _ _
    |cons z L ihL=>intro g;simp only[aP.L3,Bool.cond_eq_ite];split<;>exact ihL _
   exact this _ _
 exact this _ _ _
theorem Bh{d t:Int}{x:ay}(hx:x∈(db c.Register.dC d b th t ah).1):
  (aP c.Register.ga x.For x.By x.eD c.aV.Kind c.aV.Value c.at_ c.ah).2.2=0:=by
 obtain⟨_,h1,h2,h3,_⟩:=yL h hx
 have h4:=h.time
 have h5:=h.know
 have h6:=h.kind
 have h7:=h.good.value
 refine Q8 ?_
 have e2:∀z:Int,0<=z/\z<64->j0 z=true:=λz hz=>by simp only[j0,eS,qC,decide_eq_true_eq];omega
 have e3:∀z:Int,0<=z/\z<1099511627776->ld z=true:=λz hz=>by simp only[ld,eS,qC,decide_eq_true_eq];omega
 have e4:eS x.eD 0 31=true:=by simp only[eS,qC,decide_eq_true_eq];omega
 have e5:eS c.aV.Kind 0 15=true:=by simp only[eS,qC,decide_eq_true_eq];omega
 have e6:eS c.aV.Value 0 1099511627776=true:=by simp only[eS,qC,decide_eq_true_eq];omega
 unfold nh
 rw[((lF _).1 h.chk).2.1,e2 _ h1,e2 _ h2,e3 _ h4,e3 _ h5,e4,e5,e6];rfl
end
theorem Dj{l:List ao}{b:Bool}(h:((!cD l signed)||b)=false):signed.length=l.length:=by
 simp only[cD,Bool.or_eq_false_iff,Bool.not_eq_false',qC,beq_iff_eq]at h
 have:=h.1.1
 omega
def playSame(P Q:fh):Prop:=Q.shelf=P.shelf/\Q.signed=P.signed/\Q.done.length=P.done.length/\Q.lacks.length=P.lacks.length
theorem playSame.refl(P:fh):playSame P P:=⟨rfl,rfl,rfl,rfl⟩
theorem playSame.trans{P Q R:fh}(h:playSame P Q)(k:playSame Q R):playSame P R:=⟨k.1.trans h.1,k.2.1.trans h.2.1,k.2.2.1.trans h.2.2.1,k.2.2.2.trans h.2.2.2⟩
theorem rk{β : Type}(f:fh->β->fh)(hf:∀P x,playSame P (f P x)):∀(l:List β)(P:fh),playSame P (l.foldl f P)
 |[],P=>.refl P
 |x::l,P=>(hf P x).trans (rk f hf l _)
theorem Jm(sg:List Int)(i:Int)(P:fh)(no:Int):playSame P (playLack sg i P no):=by
 unfold playLack
 cases(cZ P (mgetD P.shelf.at_ no 0) (nthI sg i)).1 != 0
 .exact .refl P
 .exact⟨rfl,rfl,rfl,by simp⟩
theorem Li(P:fh)(i:Int):playSame P (playMid P i):=by
 refine playSame.trans (Q:={ P with lacks:=P.lacks.set i.toNat (-1) }) ⟨rfl,rfl,rfl,by simp⟩ ?_
 exact rk _ (λQ x=>Jm _ _ _ _) _ _
theorem Jn(P:fh)(i:Int):playSame P (playDone P i):=⟨rfl,rfl,by simp[playDone],rfl⟩
theorem F4(d:ao)(P:fh)(no:Int):playSame P (playRevoke d P no):=⟨rfl,rfl,rfl,rfl⟩
theorem Jl(P:fh)(i:Int):playSame P (playStep P i):=by
 have h:=(Li P i).trans (Jn (playMid P i) i)
 unfold playStep
 cases decide (nthI (playMid P i).lacks i<0)
 .exact h
 .exact h.trans (rk _ (λQ x=>F4 _ _ _) _ _)
theorem Fh(l:List ao)(signed:List Int)(t:Int):playSame (playP l signed) (cG l signed t):=rk _ Jl _ _
theorem yz(l:List ao)(signed:List Int)(t:Int):(cG l signed t).shelf=aJ l:=(Fh l signed t).1
theorem wp(l:List ao)(signed:List Int)(t:Int):(cG l signed t).shelf.docs=l:=by
 rw[yz]
 have:∀(s:List ao)(i:Nat)(g:List (Int×Int)),(aJ.L1 (aJ.K1 l) s i g).docs=l:=by
  intro s
  induction s with
  |nil=>intro i g;rfl
  |cons y s ih=>intro i g;exact ih _ _
 exact this _ _ _
theorem Fi(l:List ao)(signed:List Int)(t:Int):(cG l signed t).done.length=(cG l signed t).shelf.docs.length/\(cG l signed t).lacks.length=(cG l signed t).shelf.docs.length:=by
 have h:=Fh l signed t
 rw[wp]
 exact⟨h.2.2.1.trans (by simp[playP]),h.2.2.2.trans (by simp[playP])⟩
theorem Kg{l:List ao}{t:Int}{no:Int}(h:(!(mhas (cG l signed t).shelf.at_ no))=false):
  0<=mgetD (cG l signed t).shelf.at_ no 0/\mgetD (cG l signed t).shelf.at_ no 0<((cG l signed t).shelf.docs.length:Int):=by
 rw[wp]
 rw[yz]at h ⊢
 have hl:0<l.length:=by
  cases l with
  |nil=>exact Bool.noConfusion (show true=false from h)
  |cons=>simp
 have key:∀(s:List ao)(i:Nat)(g:List (Int×Int)),i+s.length=l.length->(∀p∈g,0<=p.2/\p.2<(l.length:Int))->∀p∈(aJ.L1 (aJ.K1 l) s i g).at_,0<=p.2/\p.2<(l.length:Int):=by
  intro s
  induction s with
  |nil=>intro i g _ hg;exact hg
  |cons y s ih=>
   intro i g hi hg
   simp only[zA]at hi
   exact ih (i+1) _ (by omega) (AD (P:=λx:Int=>0<=x/\x<(l.length:Int)) _ hg (by omega))
 exact Bw (P:=λx:Int=>0<=x/\x<(l.length:Int)) no (key l 0 [] (by simp) (λ_ h=>(kA h).elim)) (by omega)
theorem rightH(h:dW hs n=true):∀l∈hs,∀y∈l,1<=y.gj/\y.gj<=64:=by
 have h3:∀(k:List Int->Bool)(l:List bW)(g:List Int),dW.L3 k l g=true->(∀y∈l,1<=y.gj/\y.gj<=64)/\∃g',k g'=true:=by
  intro k l
  induction l with
  |nil=>exact λg h=>⟨λ_ h=>(kA h).elim,g,h⟩
  |cons y l ih=>
   intro g h
   simp only[dW.L3,Bool.cond_eq_ite]at h
   split at h
   .cases h
   .next hc=>
    simp only[zE,decide_eq_true_eq,not_or]at hc
    obtain⟨h1,h2⟩:=ih _ h
    refine⟨λz hz=>?_,h2⟩
    rcases kD.1 hz with rfl|hz
    .omega
    .exact h1 z hz
 have h1:∀(k:Bool)(l:List (List bW)),dW.L1 k l=true->∀m∈l,∀y∈m,1<=y.gj/\y.gj<=64:=by
  intro k l
  induction l with
  |nil=>exact λ_ _ h=>(kA h).elim
  |cons y l ih=>
   intro h m hm
   obtain⟨h4,g',hg⟩:=h3 _ _ _ h
   simp only[Bool.cond_eq_ite]at hg
   split at hg
   .cases hg
   .rcases kD.1 hm with rfl|hm
    .exact h4
    .exact ih hg m hm
 exact h1 _ hs h
theorem IX(q:bj)(o:Int):eM q o=(nthI q.da o).filter λy=>q.kU.contains y.cM:=by
 have:∀l:List bW,cC.L1 q [] l=l.filter λy=>q.kU.contains y.cM:=by
  intro l
  induction l with
  |nil=>rfl
  |cons y l ih=>
   simp only[cC.L1,slices_BinarySearch_int,List.filter_cons,ih]
   cases q.kU.contains y.cM<;>rfl
 exact this _
theorem FE{α : Type}{p p':α->Bool}:∀{l:List α},(∀x∈l,p x=true->p' x=true)->(l.filter p).Sublist (l.filter p')
 |[],_=>List.Sublist.refl _
 |x::l,h=>by
  have ih:=FE (l:=l) λy hy=>h y (xC _ hy)
  have hx:=h x (vB ..)
  rw[List.filter_cons,List.filter_cons]
  cases h1:p x with
  |true=>rw[hx h1];exact ih.cons_cons _
  |false=>
   cases p' x with
   |true=>exact ih.cons _
   |false=>exact ih
structure Ts(q q':bj):Prop where
 value:q'.value=q.value
 da:q'.da=q.da
 kU:∀l∈q.da,∀y∈l,y.cM∈q.kU->y.cM∈q'.kU
 wt:∀l∈q.da,∀y∈l,1<=y.gj/\y.gj<=64
 len:∀l∈q.da,l.length<=2000000
theorem DF[Inhabited α]{P:α->Prop}{l:List α}(h:∀y∈l,P y)(hd:P default)(z:Int):P (nthI l z):=by
 by_cases hz:z.toNat<l.length
 .have:nthI l z=l[z.toNat]:=by simp[nthI,List.getD_eq_getElem?_getD,hz]
  rw[this];exact h _ (List.getElem_mem _)
 .have:nthI l z=default:=by simp[nthI,List.getD_eq_getElem?_getD,hz]
  rw[this];exact hd
theorem IW{q q':bj}(h:Ts q q')(o:Int):(eM q o).Sublist (eM q' o):=by
 rw[IX,IX,h.da]
 have hw:∀y∈nthI q.da o,y.cM∈q.kU->y.cM∈q'.kU:=DF (P:=λl:List bW=>∀y∈l,y.cM∈q.kU->y.cM∈q'.kU) h.kU (λ_ h=>(kA h).elim) o
 exact FE λy hy1 hy=>by simp only[List.contains_iff_mem]at hy ⊢;exact hw y hy1 hy
theorem Tn{q q':bj}(h:Ts q q')(o:Int):(∀y∈eM q' o,1<=y.gj/\y.gj<=64)/\(eM q' o).length<=2000000:=by
 rw[IX,h.da]
 have h1:(∀y∈nthI q.da o,1<=y.gj/\y.gj<=64)/\(nthI q.da o).length<=2000000:=DF (P:=λl:List bW=>(∀y∈l,1<=y.gj/\y.gj<=64)/\l.length<=2000000) (λl hl=>⟨h.wt l hl,h.len l hl⟩) ⟨(λ_ h=>(kA h).elim),zH _⟩ o
 exact⟨λy hy=>h1.1 y (WM.1 hy).1,kL (List.length_filter_le _ _) h1.2⟩
def wsum(l:List bW):Int:=(l.map (·.gj)).sum
theorem KL:∀{l m:List bW},l.Sublist m->(∀y∈m,1<=y.gj/\y.gj<=64)->wsum l<=wsum m
 |_,_,.slnil,_=>Int.le_refl _
 |_,_,.cons (l₂:=m) y hs,h=>by
  have ih:=KL hs λz hz=>h z (xC _ hz)
  have:=h y (vB ..)
  simp only[wsum,kG,List.sum_cons]at ih ⊢;omega
 |_,_,.cons_cons (l₂:=m) y hs,h=>by
  have ih:=KL hs λz hz=>h z (xC _ hz)
  simp only[wsum,kG,List.sum_cons]at ih ⊢;omega
theorem Ep(k:Int->Bool):∀(l:List bW)(g:Int),0<=g->g+64*l.length<=1000000000000->(∀y∈l,1<=y.gj/\y.gj<=64)->dc.L1 k l g=k (g+wsum l)
 |[],g,_,_,_=>by simp[dc.L1,wsum]
 |y::l,g,h0,hb,h=>by
  have hy:=h y (vB ..)
  rw[zA]at hb
  have e:kB .i64 (g+y.gj)=g+y.gj:=wrap64 (by omega)
  simp only[dc.L1,e]
  rw[Ep k l _ (by omega) (by omega) λz hz=>h z (xC _ hz)]
  simp only[wsum,kG,List.sum_cons]
  rw[Int.add_assoc]
theorem Ss(rec:bj->aj->Bool)(q:bj)(k:Int->Bool):∀(l:List aj)(g:Int),0<=g->g+l.length<=1000000000000->eu.L1 rec q k l g=k (g+(l.countP (rec q):Nat))
 |[],g,_,_=>by simp[eu.L1]
 |y::l,g,h0,hb=>by
  rw[zA]at hb
  have e:kB .i64 (g+1)=g+1:=wrap64 (by omega)
  simp only[eu.L1,e]
  rw[Ss rec q k l g h0 (by omega),Ss rec q k l (g+1) (by omega) (by omega),List.countP_cons]
  cases rec q y
  .simp
  .simp only[cond_true,if_true];congr 1;omega
theorem Fz{q q':bj}(h:Ts q q'):∀(m:Nat)(x:aj),x.dep<=2000000->cV.go m q x=true->cV.go m q' x=true
 |0,x,_,hx=>hx
 |m+1,x,hd,hx=>by
  have ih:=Fz h m
  simp only[cV.go,cV.F,fulQ]at hx ⊢
  split
  .next hk=>
   rw[if_pos hk]at hx
   unfold ey at hx ⊢
   have hs:=IW h x.No
   cases e:eM q x.No with
   |nil=>rw[e]at hx;cases hx
   |cons y l=>
    rw[e]at hs
    cases e2:eM q' x.No with
    |nil=>rw[e2]at hs;cases hs
    |cons z l=>rfl
  .next hk=>
   rw[if_neg hk]at hx
   split
   .next hk2=>
    rw[if_pos hk2]at hx
    unfold dc at hx ⊢
    obtain⟨w1,w2⟩:=Tn h x.No
    have hs:=IW h x.No
    have hl:=hs.length_le
    rw[Ep _ _ _ (Int.le_refl _) (by omega) λy hy=>w1 y (hs.subset hy)]at hx
    rw[Ep _ _ _ (Int.le_refl _) (by omega) w1]
    have:=KL hs w1
    simp only[dc.K1,decide_eq_true_eq]at hx ⊢
    omega
   .next hk2=>
    rw[if_neg hk2]at hx
    split
    .next hk3=>
     rw[if_pos hk3]at hx
     unfold eu.F at hx ⊢
     have hl:=aj.OI x
     rw[Ss _ _ _ _ _ (Int.le_refl _) (by omega)]at hx ⊢
     have:x.L.countP (cV.go m q)<=x.L.countP (cV.go m q'):=List.countP_mono_left λy hy hh=>ih y (by have:=aj.lj hy;omega) hh
     simp only[eu.K1,decide_eq_true_eq]at hx ⊢
     omega
    .next hk3=>
     rw[if_neg hk3]at hx
     unfold lP.F at hx ⊢
     have hsm:∀z,(nthI x.L z).dep<=2000000:=DF (P:=λy:aj=>y.dep<=2000000) (λy hy=>by have:=aj.lj hy;omega) (by decide)
     rw[h.value]
     rw[Bool.cond_eq_ite]at hx ⊢
     split
     .next hc=>rw[if_pos hc]at hx;exact ih _ (hsm _) hx
     .next hc=>rw[if_neg hc]at hx;exact ih _ (hsm _) hx
theorem LY{kind value:Int}{w w':List Int}(hp:smP p)(hl:∀l∈hs,l.length<=2000000)(hw:∀l∈hs,∀y∈l,y.cM∈w->y.cM∈w')(hw':ef w'=true)(hk:kind<(p.dp.length:Int))(h:((eh p kind value hs w).1&&((eh p kind value hs w).2==0))=true):((eh p kind value hs w').1&&((eh p kind value hs w').2==0))=true:=by
 unfold eh at h ⊢
 cases hc:(dh p != 0)with
 |true=>rw[hc]at h;simp at h
 |false=>
  rw[hc]at h
  simp only[cond_false]at h ⊢
  cases ha:(((decide (kind<0)||decide ((p.dN.length:Int)<=kind))||decide (value<0))||decide (1099511627776<value))with
  |true=>rw[ha]at h;simp at h
  |false=>
   rw[ha]at h
   simp only[cond_false]at h ⊢
   cases hr:dW hs (p.aA.length:Int)with
   |false=>rw[hr]at h;simp at h
   |true=>
    rw[hr]at h
    simp only[Bool.not_true,cond_false]at h ⊢
    cases hq:ef w with
    |false=>rw[hq]at h;simp at h
    |true=>
     rw[hq]at h
     rw[hw']
     simp only[Bool.not_true,cond_false,beq_self_eq_true,Bool.and_true]at h ⊢
     simp only[Bool.or_eq_false_iff,decide_eq_false_iff_not]at ha
     have hx:(nthI p.dp kind).aj.dep<=2000000:=kL (hp.2.1 _ (ow (by omega))) (by omega)
     exact Fz (q:=⟨value,hs,w⟩) (q':=⟨value,hs,w'⟩) ⟨rfl,rfl,hw,rightH hr,hl⟩ _ _ hx h
theorem EX(f:Bool->Bool):∀(l:List Bool)(i:Nat),decide (0<=eZ.L1 f eZ.K1 l i)=l.any f
 |[],i=>rfl
 |y::l,i=>by
  have ih:=EX f l (i+1)
  simp only[eZ.L1,List.any_cons,Bool.cond_eq_ite]
  grind
def decV(mode:Int)(l:List Bool):Bool:=bif mode==4 then l.any id else bif mode==3 then l.any id&&!(l.any λb=>!b)else((l.length:Int)==1)&&nthI l 0
theorem Rg(mode:Int)(l:List Bool):gf mode l=bif iX mode l != 0 then(false,iX mode l)else(decV mode l,0):=by
 have y1:decide (0<=iI l mp)=l.any id:=EX _ l 0
 have y2:decide (0<=iI l m5)=l.any λb=>!b:=EX _ l 0
 have L1:∀(s:List Bool)i g,(bK.L1 (bK.K1 l) s i g).2=(l.any id,0):=by
  intro s
  induction s with
  |nil=>intro i g;simp only[bK.L1,bK.K1,y1]
  |cons y s ih=>intro i g;exact ih _ _
 have L2:∀(s:List Bool)i g,(bK.L2 (bK.K2 l) s i g).2=(((l.length:Int)==1)&&nthI l 0,0):=by
  intro s
  induction s with
  |nil=>intro i g;rfl
  |cons y s ih=>intro i g;exact ih _ _
 have L3:∀(s:List Bool)i g,(bK.L3 bK.K3 s i g).2=(false,0):=by
  intro s
  induction s with
  |nil=>intro i g;rfl
  |cons y s ih=>intro i g;exact ih _ _
 have e:gf mode l=(bK mode l).2:=rfl
 rw[e]
 unfold bK decV
 grind
theorem Q6{f g:α->Bool}(mode:Int){l:List α}(h:∀x∈l,f x=true->g x=true)(hd:decV mode (l.map f)=true):decV mode (l.map g)=true:=by
 have hany:(l.map f).any id=true->(l.map g).any id=true:=by
  grind
 have hno:((l.map f).any λb=>!b)=false->((l.map g).any λb=>!b)=false:=by
  grind
 unfold decV at hd ⊢
 rw[Bool.cond_eq_ite]at hd ⊢
 split
 .grind
 .next h4=>
  rw[if_neg h4,Bool.cond_eq_ite]at hd
  rw[Bool.cond_eq_ite]
  split
  .grind
  .next h3=>
   rw[if_neg h3]at hd
   match l,h,hd with
   |[],_,hd=>exact hd
   |[x],h,hd=>
    have hx:f x=true:=hd
    grind
   |x::y::l,_,hd=>
    grind
theorem KU(l:List aG)(a b:Int):∃p:aG->Bool,dl l a b=l.filter p:=by
 have h1:∀v(l:List aG),ce.L1 v [] l=l.filter λy=>(!y.nj)&&decide (mgetD v (dZ.mk y.cM y.iH y.Of) (aG.mk 0 0 0 0 0 false false)=y):=by
  intro v l
  induction l with
  |nil=>rfl
  |cons y l ih=>
   simp only[ce.L1,List.filter_cons,ih]
   grind
 have h2:∀(k:List (dZ×aG)->List aG)(l:List aG)m,∃m',dl.L1 a b k l m=k m':=by
  intro k l
  induction l with
  |nil=>exact λm=>⟨m,rfl⟩
  |cons y l ih=>
   intro m
   simp only[dl.L1,Bool.cond_eq_ite]
   split
   .exact ih _
   .split
    .exact ih _
    .exact ih _
 obtain⟨m',e⟩:=h2 (dl.K1 l) l []
 exact⟨_,by unfold dl;rw[e];exact h1 m' l⟩
theorem Mw(l:List aG)(a b:Int):(dl l a b).length<=l.length:=by
 obtain⟨p,e⟩:=KU l a b
 rw[e];exact List.length_filter_le _ _
theorem HU{α : Type}{k:Int}{v:α}:∀{m:List (Int×α)},k∉m.map (·.1)->(mput m k v).length=m.length+1/\∀p∈mput m k v,p=(k,v)\/p∈m
 |[],_=>by simp[mput]
 |(k',v')::m,hk=>by
  simp only[kG,kD,not_or]at hk
  obtain⟨h1,h2⟩:=HU (v:=v) hk.2
  simp only[mput,hk.1,if_false,zA,h1,kD,true_and]
  grind
theorem Lx(hg:yl st m q)(h:mgetD m k false=false):k∉m.map (·.1):=by
 intro hk
 obtain⟨⟨k',v⟩,hp,rfl⟩:=qJ.1 hk
 have:∀{m:List (Int×Bool)},(∀p∈m,p.2=true)->k'∈m.map (·.1)->mgetD m k' false=true:=by
  intro m
  induction m with
  |nil=>intro _ h;simp at h
  |cons p m ih=>
   intro ha hm
   obtain⟨a,b⟩:=p
   by_cases e:k'=a
   .have:=ha (a,b) (vB ..)
    simp only at this
    simp[mgetD,mget?,e,this]
   .simp only[kG,kD,e,false_or]at hm
    have:=ih (λp hp=>ha p (xC _ hp)) hm
    simpa[mgetD,mget?,e]using this
 rw[this (λp hp=>(hg.1 p hp).1) hk]at h
 cases h
theorem wD(hg:yl st m q)(hw:w.to∈st.map (·.iH))(h8:w.path.length<=8):yl st (conPut w m q).1 (conPut w m q).2:=by
 unfold conPut
 cases h:mgetD m w.to false with
 |true=>exact hg
 |false=>
  obtain⟨h1,h2⟩:=HU (v:=true) (Lx hg h)
  refine⟨λp hp=>?_,?_,λw' hw'=>?_⟩
  .rcases h2 p hp with rfl|hp
   .exact⟨rfl,hw⟩
   .exact hg.1 p hp
  .show(q++[w]).length<=(mput m w.to true).length
   rw[h1,jA];have:=hg.2.1;simp;omega
  .rcases qH.1 (show w'∈q++[w]from hw')with hw'|hw'
   .exact hg.2.2 w' hw'
   .rw[jC.1 hw'];exact h8
theorem Bi{cap:Nat}(hg:yl st m q)(hn:(m.map (·.1)).Nodup)(hk:k∈st.map (·.iH))(hc:st.length<=cap)(h:mgetD m k false=false):q.length<cap:=by
 have h1:=Lx hg h
 have h2:(k::m.map (·.1)).length<=(st.map (·.iH)).length:=EG (jR.2 ⟨h1,hn⟩) (λx hx=>by
  rcases kD.1 hx with rfl|hx
  .exact hk
  .obtain⟨p,hp,rfl⟩:=qJ.1 hx;exact(hg.1 p hp).2)
 simp only[zA,List.length_map]at h2
 have:=hg.2.1
 omega
theorem SB(hg:yl st m q)(hn:(m.map (·.1)).Nodup):m.length<=st.length:=by
 have:=EG (b:=st.map (·.iH)) hn (λx hx=>by obtain⟨p,hp,rfl⟩:=qJ.1 hx;exact(hg.1 p hp).2)
 simpa using this
theorem LT(hn:(m.map (·.1)).Nodup):((conPut w m q).1.map (·.1)).Nodup:=by grind [conPut,mgetD,sf]
theorem NV{N:Nat}(hg:yl st m q)(hn:(m.map (·.1)).Nodup)(hw:w.to∈st.map (·.iH))(hN:st.length<=N):
  (conPut w m q).2.length+(N-(conPut w m q).1.length)<=q.length+(N-m.length):=by
 unfold conPut
 cases h:mgetD m w.to false with
 |true=>simp
 |false=>
  obtain⟨h1,_⟩:=HU (v:=true) (Lx hg h)
  have h2:yl st (mput m w.to true) []:=by
   have:=wD (w:=⟨[],w.to⟩) (q:=[]) (st:=st) (m:=m) ⟨hg.1,zH _,λ_ h=>(kA h).elim⟩ hw (by simp)
   simp only[conPut,h,cond_false]at this
   exact⟨this.1,zH _,λ_ h=>(kA h).elim⟩
  have h3:=SB h2 (sf w.to true hn)
  grind
theorem CN(m:List (Int×α))(k j:Int)(v z:α):mgetD (mput m k v) j z=if j=k then v else mgetD m j z:=by
 induction m with
 |nil=>by_cases h:j=k<;>simp[mput,mgetD,mget?,h]
 |cons p m ih=>
  obtain⟨a,b⟩:=p
  by_cases h:k=a
  .subst h
   by_cases h2:j=k<;>simp[mput,mgetD,mget?,h2]
  .by_cases h2:j=a
   .subst h2
    have:¬j=k:=λe=>h e.symm
    simp[mput,h,mgetD,mget?,this]
   .simp only[mgetD]at ih ⊢
    simp only[mput,h,if_false,mget?,h2]
    exact ih
theorem Qw.put{f:List (Int×List aG)}(hf:Qw st f){x:aG}(hx:x∈st):Qw st (mput f k (mgetD f k []++[x])):=by
 intro j y hy
 rw[CN]at hy
 split at hy
 .rcases qH.1 hy with hy|hy
  .exact hf k y hy
  .rw[jC.1 hy];exact hx
 .exact hf j y hy
theorem Bu(A B:List α)(x y:α):(A++x::y::B).Perm (y::x::(A++B)):=
 List.perm_middle.trans ((List.Perm.cons x List.perm_middle).trans (List.Perm.swap y x _))
theorem Ef{st:List aG}{path:List Int}{N:Nat}(hN:st.length<=N)(h8:path.length+1<=8):∀{xs:List aG}{m:List (Int×Bool)}{q:List iE},(∀x∈xs,x∈st)->yl st m q->(m.map (·.1)).Nodup ->
  (conStep path xs m q).2.length+(N-(conStep path xs m q).1.length)<=q.length+(N-m.length)
 |[],m,q,_,_,_=>kE _
 |x::xs,m,q,hx,hg,hn=>by
  have hp:(iE.mk (path++[x.No]) x.iH).to∈st.map (·.iH):=List.mem_map_of_mem (hx x (vB ..))
  have h1:=NV (w:=⟨path++[x.No],x.iH⟩) hg hn hp hN
  have h2:=Ef (path:=path) hN h8 (xs:=xs) (λy hy=>hx y (xC _ hy)) (wD hg hp (by simpa using h8)) (LT hn)
  simp only[conStep]
  exact kL h2 h1
def lastA(t ah:Int)(s:OSeat)(acc:Option aK)(y:aK):Option aK:=
 bif(decide (y.At<=t)&&decide (y.dY<=ah))&&((y.eD==s.aT)&&(y.cM==s.bT))then(match acc with
  |none=>some y
  |some a=>bif decide (a.At<=y.At)then some y else some a)else acc
theorem Nq(t ah:Int)(s:OSeat):∀(l:List aK)(m:List (OSeat×aK)),mget? (df.L1 (λel=>jq el t ah) jp df.K1 l m) s=l.foldl (lastA t ah s) (mget? m s)
 |[],m=>rfl
 |y::l,m=>by
  have ih:=Nq t ah s l
  simp only[df.L1,List.foldl_cons]
  rw[Bool.cond_eq_ite]
  have hkey:(jq y t ah).1=xV y.eD y.cM:=rfl
  have hcnt:(jq y t ah).2=(decide (y.At<=t)&&decide (y.dY<=ah)):=rfl
  rw[hkey,hcnt]
  by_cases hs:s=xV y.eD y.cM
  .subst hs
   have e1:((y.eD==(xV y.eD y.cM).aT)&&(y.cM==(xV y.eD y.cM).bT))=true:=by simp
   cases hc:(decide (y.At<=t)&&decide (y.dY<=ah))with
   |false=>
    rw[if_neg (by simp),ih]
    congr 1
    simp only[lastA,hc,Bool.false_and,cond_false]
   |true=>
    cases hm:mget? m (xV y.eD y.cM)with
    |none=>
     have h1:mhas m (xV y.eD y.cM)=false:=by unfold mhas;rw[hm];rfl
     rw[h1,if_pos (by simp),ih,uC,if_pos rfl]
     congr 1
     simp only[lastA,hc,e1,Bool.and_true,cond_true]
    |some a=>
     have h1:mhas m (xV y.eD y.cM)=true:=by unfold mhas;rw[hm];rfl
     have h2:mgetD m (xV y.eD y.cM) (aK.mk 0 0 0 0 0 0 false)=a:=by unfold mgetD;rw[hm];rfl
     rw[h1,h2]
     by_cases ha:a.At<=y.At
     .have h3:jp a y=false:=by simp[jp];omega
      rw[h3,if_pos (by simp),ih,uC,if_pos rfl]
      congr 1
      have:decide (a.At<=y.At)=true:=by simpa using ha
      simp only[lastA,hc,e1,Bool.and_true,cond_true,this]
     .have h3:jp a y=true:=by simp[jp];omega
      rw[h3,if_neg (by simp),ih,hm]
      congr 1
      have:decide (a.At<=y.At)=false:=by simpa using ha
      simp only[lastA,hc,e1,Bool.and_true,cond_true,this,cond_false]
  .have e1:((y.eD==s.aT)&&(y.cM==s.bT))=false:=by
    rw[Bool.eq_false_iff]
    intro h
    simp only[qC,beq_iff_eq]at h
    exact hs (by cases s;simp only at h;rw[h.1,h.2])
   have e2:lastA t ah s (mget? m s) y=mget? m s:=by simp only[lastA,e1,Bool.and_false,cond_false]
   grind [uC]
def lastV(t ah:Int)(acc:Option aE)(y:aE):Option aE:=
 bif decide (y.At<=t)&&decide (y.dY<=ah)then(match acc with
  |none=>some y
  |some a=>bif decide (a.At<=y.At)then some y else some a)else acc
def FV(t ah:Int)(l:List aE):Option aE:=l.foldl (lastV t ah) none
structure Wv(f ah:Int)(pre:List aE)(b:Int)(m:List (Int×aE)):Prop where
 at_:∀a,FV f ah pre=some a->b=a.At
 no:FV f ah pre=none->b=-1
 beg:mget? m f=FV f ah pre
 has:∀t,f<t->(t∈m.map (·.1)↔∃y∈pre,y.At=t/\y.dY<=ah)
 get:∀t,f<t->t∈m.map (·.1)->∃v,mget? m t=some v/\FV t ah pre=some v/\v.At=t
 low:∀t,t∈m.map (·.1)->f<=t
theorem T9(s:ByteArray):j3 s=dX s:=by
 rw[zM]
 refine⟨PO,λh=>?_⟩
 unfold dX at h
 unfold j3
 rw[Eg,Ls]at h
 rw[Bool.cond_eq_ite]at h ⊢
 split at h
 .cases h
 .next hc=>
  simp only[zE,not_or,decide_eq_true_eq,Bool.not_eq_true]at hc
  obtain⟨⟨h1,h2⟩,h3⟩:=hc
  have hs:¬((s.size:Int)<1):=λhlt=>by
   have h9:=yp s
   have:s.toList=[]:=List.length_eq_zero_iff.1 (by omega)
   rw[this]at h1
   have e2:(⟨#[]⟩:ByteArray).toList=[]:=by
    have:=yp (⟨#[]⟩:ByteArray)
    exact List.length_eq_zero_iff.1 this
   rw[e2]at h1;simp at h1
  grind
theorem Qe(s:ByteArray):oZ s=ec s:=by
 rw[Kw];unfold oZ;rw[T9]
theorem FH(l:List ByteArray):fH l=bQ l ec:=by
 have key:∀(L l:List ByteArray)(i:Nat),fH.L1 L fH.K1 l i=bQ.L1 L ec bQ.K1 l i:=by
  intro L l
  induction l with
  |nil=>intros;rfl
  |cons y l ih=>intro i;simp only[fH.L1,bQ.L1,Qe,rindex,ih]
 exact key l l 0
theorem HT(off:List ByteArray)(x:aj):(∀z∈bz x 1,((!(dB z.x))||dq off z.x.Name)=true)->cv off x=true:=by
 refine aj.ind (P:=λx=>(∀z∈bz x 1,((!(dB z.x))||dq off z.x.Name)=true)->cv off x=true) ?_ x
 intro x ih h
 have h:=(sy (λy=>((!(dB y))||dq off y.Name)=true) x 1).1 h
 rw[M9]
 unfold cv.F
 have hx:=h.1
 unfold dB dq at hx
 rw[Bool.cond_eq_ite,if_neg]
 .have:∀l:List aj,(∀y∈l,cv off y=true)->cv.L1 cv off cv.K1 l=true:=by
   intro l
   induction l with
   |nil=>intro _;rfl
   |cons y l ih2=>
    intro hl
    simp only[cv.L1,hl y (vB ..),Bool.not_true,cond_false]
    grind
  grind
 .rw[rindex]
  grind
theorem IB{x:aj}(h:(bh x.Kind 1 4&&kindsP x.Kind x)=true)(h4:u=false->x.Kind≠4):aR.K1 x u=true:=by
 simp only[qC]at h
 have hb:1<=x.Kind/\x.Kind<=4:=by have:=h.1;simpa[bh]using this
 have hc:x.Kind=1\/x.Kind=2\/x.Kind=3\/x.Kind=4:=by omega
 have h2:=h.2
 unfold aR.K1
 rcases hc with e|e|e|e
 .rw[e]at h2 ⊢
  have h2:lV x=true:=h2
  grind [lV]
 .rw[e]at h2 ⊢
  have h2:lU x=true:=h2
  grind [lU,bh]
 .rw[e]at h2 ⊢
  have h2:lT x=true:=h2
  unfold lT bh at h2
  grind
 .have hu:u=true:=by
   grind
  subst hu
  rw[e]at h2 ⊢
  have h2:lm x=true:=h2
  unfold lm bh at h2
  grind
theorem FA(u:Bool)(x:aj):(∀z∈bz x 1,(bh z.x.Kind 1 4&&kindsP z.x.Kind z.x)=true/\(u=false->z.x.Kind≠4))->aR x u=true:=by
 refine aj.ind (P:=λx=>(∀z∈bz x 1,(bh z.x.Kind 1 4&&kindsP z.x.Kind z.x)=true/\(u=false->z.x.Kind≠4))->aR x u=true) ?_ x
 intro x ih h
 have h:=(sy (λy=>(bh y.Kind 1 4&&kindsP y.Kind y)=true/\(u=false->y.Kind≠4)) x 1).1 h
 rw[Ky]
 unfold aR.F
 have:∀(k:Bool)(l:List aj),(∀y∈l,aR y u=true)->aR.L1 aR u k l=k:=by
  intro k l
  induction l with
  |nil=>intro _;rfl
  |cons y l ih2=>
   intro hl
   simp only[aR.L1,hl y (vB ..),Bool.not_true,cond_false]
   grind
 grind [IB]
theorem Q5(l:List aj):∀a:Int,bS.L1 bS (λg=>g) l a=a\/∃y∈l,bS.L1 bS (λg=>g) l a=bS y:=by
 induction l with
 |nil=>intro a;exact .inl rfl
 |cons y l ih=>
  grind [bS.L1]
theorem IN(x:aj):x.dep<=1500000->∀d:Int,∃z∈bz x d,z.depth=d+bS x-1:=by
 refine aj.ind (P:=λx=>x.dep<=1500000->∀d:Int,∃z∈bz x d,z.depth=d+bS x-1) ?_ x
 intro x ih hx d
 have hd:=(NT x hx).2
 rw[pb]
 rcases Q5 x.L 0 with h|⟨y,hy,h⟩
 .exact⟨⟨x,d⟩,vB ..,by rw[hd,h];show d=d+(0+1)-1;omega⟩
 .have hlt:=aj.lj hy
  obtain⟨z,hz,e⟩:=ih y hy (by omega) (d+1)
  grind
theorem OJ{x:aj}(hx:x.dep<=1500000)(h1:(bz x 1).length<=256)(h2:∀z∈bz x 1,z.depth<=16):mi x=false:=by
 unfold mi
 rw[KJ x 256 (by decide) (by decide)]
 obtain⟨z,hz,e⟩:=IN x hx 1
 grind [Bool.or_eq_false_iff,decide_eq_false_iff_not,cnt]
theorem QH(off:List ByteArray)(x:aj):(∀z∈bz x 1,z.x.No=rno off z.x)->bG (av off x) x=true:=by
 refine aj.ind (P:=λx=>(∀z∈bz x 1,z.x.No=rno off z.x)->bG (av off x) x=true) ?_ x
 intro x ih h
 have h:=(sy (λy=>y.No=rno off y) x 1).1 h
 rw[PF,Fd]
 unfold bG.F
 have e:(((((x.Kind != x.Kind)||(x.N != x.N))||(rno off x != x.No))||(!(x.Name.toList==x.Name.toList)))||(((x.L.map (av off)).length:Int) != (x.L.length:Int)))=false:=by simp[h.1]
 show(bif(((((x.Kind != x.Kind)||(x.N != x.N))||(rno off x != x.No))||(!(x.Name.toList==x.Name.toList)))||(((x.L.map (av off)).length:Int) != (x.L.length:Int)))then false else bG.L1 bG x bG.K1 (x.L.map (av off)) 0)=true
 rw[e,cond_false]
 have:∀(l pre:List aj),x.L=pre++l->bG.L1 bG x bG.K1 (l.map (av off)) pre.length=true:=by
  intro l
  induction l with
  |nil=>intro _ _;rfl
  |cons y l ih2=>
   intro pre hp
   have hy:nthI x.L (pre.length:Int)=y:=ou (by rw[hp];simp)
   have hm:y∈x.L:=by rw[hp];simp
   have:=ih2 (pre++[y]) (by rw[hp];simp)
   rw[jA,zA,zB,Nat.zero_add]at this
   simp only[kG,bG.L1,hy,ih y hm (h.2 y hm),Bool.not_true,cond_false]
   exact this
 exact this x.L [] rfl
theorem Oj(l:List ByteArray):gg l l=true:=by
 have:∀(s pre:List ByteArray),l=pre++s->gg.L1 l gg.K1 s pre.length=true:=by
  intro s
  induction s with
  |nil=>intro _ _;rfl
  |cons y s ih=>
   intro pre hp
   have hy:nthI l (pre.length:Int)=y:=ou (by rw[hp];simp)
   have:=ih (pre++[y]) (by rw[hp];simp)
   rw[jA,zA,zB,Nat.zero_add]at this
   simp only[gg.L1,hy,beq_self_eq_true,Bool.not_true,cond_false]
   exact this
 unfold gg
 rw[bne_self_eq_false,cond_false]
 exact this l [] rfl
theorem Hc(off:List ByteArray):∀(l:List fC)(i:Nat),(rrules off l i).length=l.length
 |[],_=>rfl
 |y::l,i=>by simp only[rrules,zA,Hc off l]
theorem O7(hs:smP p)(h:dh p=0):im p=0:=by
 obtain⟨h1,h2,h3⟩:=(Eh p).1 h
 obtain⟨s1,s2,s3⟩:=(wg p).1 h1
 obtain⟨⟨a1,a2,a3⟩,a4⟩:=(Di p).1 s1
 obtain⟨⟨n1,n2,n3⟩,n4⟩:=(HS p).1 s2
 unfold bC bC.K1 bC.K2 at s3
 rw[sA,D6,Gx]at s3
 obtain⟨f1,f2,f3⟩:=s3
 simp only[qC,decide_eq_true_eq,beq_iff_eq,bh]at f1
 have hlen:(aF p).length=p.dp.length+1:=by rw[oF];simp
 have hrule:∀r∈p.dp,r.aj∈aF p:=λr hr=>IE hr
 have hch:p.aO∈aF p:=by rw[oF];simp
 have hdep:∀x∈aF p,x.dep<=1500000:=λx hx=>by
  rw[oF]at hx
  simp only[qH,qJ,jC]at hx
  rcases hx with⟨r,hr,rfl⟩|rfl
  .exact hs.2.1 r hr
  .exact hs.2.2.1
 have hlarge:∀x∈aF p,mi x=false:=λx hx=>OJ (hdep x hx) (a4 x hx).1 (a4 x hx).2
 have hT:fG p=false:=by
  unfold fG
  rw[Bool.cond_eq_ite,if_neg]
  .have:∀l:List fC,(∀r∈l,mi r.aj=false)->fG.L1 fG.K1 l=false:=by
    intro l
    induction l with
    |nil=>intro _;rfl
    |cons y l ih=>
     intro hl
     simp only[fG.L1,hl y (vB ..),cond_false]
     exact ih λz hz=>hl z (xC _ hz)
   exact this p.dp λr hr=>hlarge _ (hrule r hr)
  .simp only[zE,decide_eq_true_eq,not_or,hlarge _ hch,Xb,not_false_eq_true,and_true]
   omega
 have hN:iS p=true:=by
  unfold iS
  rw[Qe,FH,FH,n1,n2,n3]
  simp only[Bool.not_true,Bool.or_self,cond_false]
  have:∀(k:Bool)(l:List fC),(∀r∈l,cv p.aA r.aj=true)->iS.L1 p k l=k:=by
   intro k l
   induction l with
   |nil=>intro _;rfl
   |cons y l ih=>
    intro hl
    simp only[iS.L1,hl y (vB ..),Bool.not_true,cond_false]
    exact ih λz hz=>hl z (xC _ hz)
  rw[this _ p.dp λr hr=>HT p.aA _ (n4 _ (hrule r hr))]
  exact HT p.aA _ (n4 _ hch)
 have hget:∀(j:Nat)(r:fC),p.dp[j]? = some r->(aF p)[j]? = some r.aj:=λj r hj=>by
  have hlt:=(List.getElem?_eq_some_iff.1 hj).1
  rw[oF,List.getElem?_append_left (by simpa using hlt),zW,hj];rfl
 have hgetc:(aF p)[p.dp.length]? = some p.aO:=by
  rw[oF,List.getElem?_append_right (by simp)];simp
 have hFm:gN p=true:=by
  unfold gN
  rw[Bool.cond_eq_ite,if_neg]
  .have:∀(l pre:List fC),p.dp=pre++l->gN.L1 p (gN.K1 p) l pre.length=true:=by
    intro l
    induction l with
    |nil=>
     intro pre _
     refine FA false _ λz hz=>?_
     obtain⟨q1,q2⟩:=f3 _ _ hgetc z hz
     refine⟨q1,λ_ he=>?_⟩
     rw[hlen,wrap64 (by omega),Nat.zero_add]at q2
     have e1:decide ((p.dp.length:Int)<((p.dp.length+1:Nat):Int)-1)=false:=decide_eq_false (by omega)
     rw[e1,Bool.false_or,he]at q2
     simp at q2
    |cons y l ih=>
     intro pre hp
     have hj:p.dp[pre.length]? = some y:=by rw[hp];simp
     have q:=f2 pre.length y hj
     rw[Nat.zero_add]at q
     simp only[qC,bh,decide_eq_true_eq]at q
     have hfe:aR y.aj true=true:=FA true _ λz hz=>⟨(f3 _ _ (hget _ _ hj) z hz).1,λhh=>by cases hh⟩
     have d1:decide (y.iV<0)=false:=by simp;omega
     have d2:decide (1099511627776<=y.iV)=false:=by simp;omega
     have:=ih (pre++[y]) (by rw[hp];simp)
     rw[jA,zA,zB,Nat.zero_add]at this
     simp only[gN.L1,q.1,d1,d2,hfe,Bool.not_true,Bool.or_self,cond_false]
     exact this
   exact this p.dp [] rfl
  .simp only[zE,decide_eq_true_eq,bne_iff_ne,not_or,ne_eq,Decidable.not_not]
   omega
 have hRes:eo p=(aw.mk p.Name p.dN p.aA (rrules p.aA p.dp 0) (av p.aA p.aO) p.Mode,0):=by
  unfold eo
  rw[hT,hN,hFm]
  simp only[cond_false,Bool.not_true]
  rw[C6,vF]
 have hsame:∀x,cm p.aA x=true->bG (av p.aA x) x=true:=λx hx=>by
  refine QH p.aA x ?_
  unfold cm cm.K1 at hx
  exact(sL p.aA _).1 hx
 have hSame:jo (aw.mk p.Name p.dN p.aA (rrules p.aA p.dp 0) (av p.aA p.aO) p.Mode) p=true:=by
  unfold jo
  rw[Bool.cond_eq_ite,if_neg]
  .have:∀(l pre:List fC),p.dp=pre++l->jo.L1 p jo.K1 (rrules p.aA l pre.length) pre.length=true:=by
    intro l
    induction l with
    |nil=>intro _ _;rfl
    |cons y l ih=>
     intro pre hp
     have hy:nthI p.dp (pre.length:Int)=y:=ou (by rw[hp];simp)
     have hj:p.dp[pre.length]? = some y:=by rw[hp];simp
     obtain⟨g1,g2⟩:=h2 pre.length y hj
     have:=ih (pre++[y]) (by rw[hp];simp)
     rw[jA,zA,zB,Nat.zero_add]at this
     simp only[rrules,jo.L1,hy,hsame _ g2,g1,beq_self_eq_true,bne_self_eq_false,Bool.not_true,Bool.or_self,cond_false]
     exact this
   exact this p.dp [] rfl
  .grind [rrules,Oj,Hc]
 unfold im
 rw[hRes]
 dsimp only
 rw[hSame];rfl
theorem JD(hs:smV l)(h:bR l=0):eb l=0:=by
 have g:=(te l).1 h
 have hlen:=g.len
 unfold eb
 rw[Bool.cond_eq_ite,if_neg (by simp;omega)]
 have:∀(s pre:List aE),l=pre++s->eb.L1 l eb.K1 s pre.length=0:=by
  intro s
  induction s with
  |nil=>intro _ _;rfl
  |cons y s ih=>
   intro pre hp
   have hy:y∈l:=by rw[hp];simp
   obtain⟨q1,q2,q3,q4⟩:=g.each y hy
   have hlast:(decide (0<(pre.length:Int))&&decide (y.No<=(nthI l ((pre.length:Int)-1)).No))=false:=by
    rcases List.eq_nil_or_concat pre with rfl|⟨a,x,e⟩
    .rfl
    .rw[List.concat_eq_append]at e
     subst e
     have hx:nthI l (((a++[x]).length:Int)-1)=x:=by
      rw[show(((a++[x]).length:Int)-1)=(a.length:Int)from by simp]
      exact ou (by rw[hp];simp)
     have hi:=g.inc
     grind
   have:=ih (pre++[y]) (by rw[hp];simp)
   rw[jA,zA,zB,Nat.zero_add]at this
   simp only[eb.L1,Bool.cond_eq_ite]
   rw[if_neg]
   .exact this
   .have hck:=O7 (hs.2 y hy) q4
    simp only[zE,not_or,decide_eq_true_eq,qC,xF,Bool.not_eq_false,bne_iff_ne,ne_eq,Classical.not_not,gp,hck,and_true]
    grind
 exact this l [] rfl
end Go.Sg
