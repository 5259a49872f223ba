import Derived.KernelRfl
import Derived.Test.YtknehchipcogdaaGreatDoorJ2
/- A part of the proof of JudgeSpec. -/
set_option linter.unusedVariables false
set_option linter.unusedSimpArgs false
set_option maxRecDepth 100000
open List renaming length_cons→xA,not_mem_nil→vA,length_append→kA,mem_cons_self→zB,length_nil→xB,toArray→vB,mem_singleton→kB,mem_cons_of_mem→qC,mem_cons→vC,nil_append→qD,mem_append→qE,range→xF,map_cons→jG,mem_map→qM,mem_filter→qN,nodup_cons→jQ,getElem?_of_mem→YB
open Bool renaming and_eq_true→jA,or_eq_true→xC,not_eq_true'→vD,eq_iff_iff→jF,false_eq_true→kT
open Go.Value renaming int→jC,func→zQ
open Go.IntKind renaming wrap→jD
open Nat renaming le_refl→zE,zero_le→kJ,le_trans→zN
open Go.Sg.Register renaming mk→kM
open Go.Sg.OSeat renaming mk→Yg
open Go.Sg.Budget renaming mk→YM

namespace Go.Sg
variable {aI ad b e k n th:Int}{c:Bool}{f:Unit->Except Int Unit}{hs:List (List aV)}{l:List aC}{m:List (Int×Bool)}{p:aw}{q:List iX}{s:ByteArray}{st:List av}{w:iX}{x:Except Int Unit}{α:Type}
def fq(ir:Int)(low:Int)(high:Int):Bool:=(decide (low<=ir)&&decide (ir<=high))
def fQ(ir:Int):Bool:=(fq ir 0 1099511627775)
def gl(ir:Int):Bool:=(fq ir 0 31)
def ji(ir:Int):Bool:=(fq ir 0 63)
def nV(x:aA):Bool:=(bif x.mU then((((((fq x.No 0 1048576)&&(fQ x.At))&&(fQ x.eH))&&(gl x.dQ))&&(ji x.bw))&&(fq x.fD 0 0))else((((((fq x.No 0 1048576)&&(fQ x.At))&&(fQ x.eH))&&(gl x.dQ))&&(ji x.bw))&&(fq x.fD 1 64)))
def du.K1(m8:Int):Int:=0
def du.L1(k:Int->Int):List aA->Int->Int
 |[],m8=>(k m8)
 |y1::rz1,m8=>(bif((!(nV y1))||decide (y1.No<=m8))then 150 else(du.L1  k rz1 y1.No))
def du(l:List aA):Int:=(bif(decide (4096<(l.length:Int)))then 2 else((du.L1 (du.K1)) l (-1)))
def dB(ir:Int)(low:Int)(high:Int):Bool:=(decide (low<=ir)&&decide (ir<=high))
def j4(ir:Int):Bool:=(dB ir 0 1099511627775)
def iW(ir:Int):Bool:=(dB ir 0 63)
def oz(x:aE):Bool:=(bif((((((((!(dB x.No 0 1048576))||(!(j4 x.At)))||(!(j4 x.eH)))||(!(iW x.From)))||(!(iW x.To)))||(x.From==x.To))||(!(dB x.dQ 0 31)))||(!(dB x.Kind (-1) 15)))then false else(bif x.mU then((x.nS==0)&&(x.N5==0))else((decide (x.At<x.nS)&&decide (x.nS<=1099511627776))&&(dB x.N5 0 1099511627776))))
def dG.K1(m8:Int):Int:=0
def dG.L1(k:Int->Int):List aE->Int->Int
 |[],m8=>(k m8)
 |y1::rz1,m8=>(bif((!(oz y1))||decide (y1.No<=m8))then 160 else(dG.L1  k rz1 y1.No))
def dG(l:List aE):Int:=(bif(decide (4096<(l.length:Int)))then 2 else((dG.L1 (dG.K1)) l (-1)))
def dS(ir:Int)(ew:Int):Bool:=(decide (0<=ir)&&decide (ir<ew))
def nG(x:av):Bool:=(bif x.Of then((((((dS x.No 1048577)&&(dS x.At 1099511627776))&&(dS x.eH 1099511627776))&&(dS x.eG 1048577))&&(dS x.bw 1048577))&&(x.bw != x.eG))else(((((dS x.No 1048577)&&(dS x.At 1099511627776))&&(dS x.eH 1099511627776))&&(dS x.eG 1048577))&&(dS x.bw 64)))
def cK.K1(m8:Int):Int:=0
def cK.L1(k:Int->Int):List av->Int->Int
 |[],m8=>(k m8)
 |y1::rz1,m8=>(bif((!(nG y1))||decide (y1.No<=m8))then 290 else(cK.L1  k rz1 y1.No))
def cK(l:List av):Int:=(bif(decide (4096<(l.length:Int)))then 2 else((cK.L1 (cK.K1)) l (-1)))
def eU.K1  : Int:=(-1)
def eU.L1(f:(Int->Bool))(k:Int):List Int->Nat->Int
 |[],i1=>(k)
 |y1::rz1,i1=>(bif(f y1)then(i1:Int)else(eU.L1 f k rz1 (i1+1)))
def eU(s:List Int)(f:(Int->Bool)):Int:=((eU.L1 f (eU.K1)) s 0)
def fB(s:List Int)(f:(Int->Bool)):Bool:=decide (0<=(eU s f))
def lV(ir:Int)(v0:Int)(v1:Int):Bool:=(decide (ir<v0)||decide (v1<ir))
def ct(least:Int)(most:Int)(l:List Int):Bool:=(!(fB l (λfX=>lV fX least most)))
def mP(x:Budget):Bool:=(bif x.mU then((((((ct 0 1048576 ([x.No]))&&(ct 0 1099511627775 ([x.At,x.eH])))&&(ct (-1) 15 ([x.Kind])))&&(ct 1 1099511627776 ([x.mH])))&&(ct 0 0 ([x.Count])))&&(ct 0 0 ([x.Value])))else((((((ct 0 1048576 ([x.No]))&&(ct 0 1099511627775 ([x.At,x.eH])))&&(ct (-1) 15 ([x.Kind])))&&(ct 1 1099511627776 ([x.mH])))&&(ct 0 1048576 ([x.Count])))&&(ct 0 1099511627776 ([x.Value]))))
def bY.K1(m8:Int):Int:=0
def bY.L1(k:Int->Int):List Budget->Int->Int
 |[],m8=>(k m8)
 |y1::rz1,m8=>(bif((!(mP y1))||decide (y1.No<=m8))then 180 else(bY.L1  k rz1 y1.No))
def bY(l:List Budget):Int:=(bif(decide (4096<(l.length:Int)))then 2 else((bY.L1 (bY.K1)) l (-1)))
def aY(ir:Int)(low:Int)(high:Int):Bool:=(decide (low<=ir)&&decide (ir<=high))
def aM.L2(k:List hZ):List hZ->List hZ
 |[]=>k
 |y2::rz2=>(y2::(aM.L2 k rz2))
def aM.L3(k:List hZ):List hZ->List hZ
 |[]=>k
 |y3::rz3=>(y3::(aM.L3 k rz3))
def aM.K1  : List hZ:=[]
def aM.L1(rec:ai->Int->List hZ)(depth:Int)(k:List hZ):List ai->List hZ
 |[]=>(k)
 |y1::rz1=>((aM.L3 ((aM.L1 rec depth k rz1))) (rec y1 (depth+1)))
def aM.F(rec:ai->Int->List hZ)(x:ai)(depth:Int):List hZ:=((hZ.mk (ai.mk x.Kind x.N x.No x.Name x.L) depth)::((aM.L1 rec depth (aM.K1)) x.L))
def aM.go:Nat->ai->Int->List hZ
 |0=>λ_ _=>[]
 |m+1=>aM.F (aM.go m)
def bB(x:ai)(depth:Int):List hZ:=aM.go x.dep x depth
def fW(ok:Bool)(Xf:Int):(Except Int Unit):=(bif(!ok)then(Except.error Xf)else(Except.ok ()))
def aH.K1(p:aw)(US:List ai):List ai:=(US++[p.aP])
def aH.L1(k:List ai->List ai):List fI->List ai->List ai
 |[],US=>(k US)
 |y1::rz1,US=>(aH.L1  k rz1 (US++[y1.ai]))
def aH(p:aw):List ai:=((aH.L1 (aH.K1 p)) p.dt ([]))
def dv.L2(k:Int->(Except Int Unit)):List hZ->Int->(Except Int Unit)
 |[],Hs=>k Hs
 |y2::rz2,Hs=>(exi (fW (decide ((jD .i64 (Hs+1))<=256)&&decide (y2.depth<=16)) 2) (λ_=>(dv.L2 k rz2 (jD .i64 (Hs+1)))))
def dv.L3(k:Int->(Except Int Unit)):List hZ->Int->(Except Int Unit)
 |[],Hr=>k Hr
 |y3::rz3,Hr=>(exi (fW (decide ((jD .i64 (Hr+1))<=256)&&decide (y3.depth<=16)) 2) (λ_=>(dv.L3 k rz3 (jD .i64 (Hr+1)))))
def dv.K1  : (Except Int Unit):=(Except.ok ())
def dv.L1(k:(Except Int Unit)):List ai->(Except Int Unit)
 |[]=>(k)
 |y1::rz1=>((dv.L3 (λzg3_b3_0=>(dv.L1  k rz1))) (bB y1 1) 0)
def dv(p:aw):(Except Int Unit):=(exi (fW ((decide ((p.aD.length:Int)<=32)&&decide ((p.ey.length:Int)<=16))&&decide ((p.dt.length:Int)<=16)) 2) (λ_=>((dv.L1 (dv.K1)) (aH p))))
def dR(x:ai):Bool:=((x.Kind==1)||(x.Kind==2))
def mz(s:ByteArray)(c:Int):Int:=(idxByte s c)
def strings_IndexByte(s:ByteArray)(c:Int):Int:=(mz s c)
def nF(c:Int):Int:=(bif((decide (97<=c)&&decide (c<=122))||(decide (65<=c)&&decide (c<=90)))then 2 else(bif(decide (48<=c)&&decide (c<=57))then 3 else(bif(c==95)then 5 else(bif((((c==32)||(c==9))||(c==10))||(c==13))then 1 else(bif(decide (0<=(strings_IndexByte (⟨#[123,125,40,41,59,44,61,58,46,60,62,33,43,45,42,47]⟩:ByteArray) c)))then 4 else 0)))))
def hY.K1  : Bool:=true
def hY.L1(s:ByteArray)(k:Bool):List Nat->Nat->Bool
 |[],i1=>(k)
 |y1::rz1,i1=>(bif((((nF ((s.data.getD ((i1:Int):Int).toNat 0).toNat:Int)) != 2)&&((nF ((s.data.getD ((i1:Int):Int).toNat 0).toNat:Int)) != 3))&&((nF ((s.data.getD ((i1:Int):Int).toNat 0).toNat:Int)) != 5))then false else(hY.L1 s k rz1 (i1+1)))
def hY(s:ByteArray):Bool:=(bif(((s.toList==(⟨#[]⟩:ByteArray).toList)||decide (32<(s.size:Int)))||((nF ((s.data.getD (0:Int).toNat 0).toNat:Int)) != 2))then false else((hY.L1 s (hY.K1)) (xF s.size) 0))
def gy(s:ByteArray):Bool:=(bif(s.toList==(⟨#[112,111,108,105,99,121]⟩:ByteArray).toList)then(bif(s.toList==(⟨#[112,111,108,105,99,121]⟩:ByteArray).toList)then false else(hY s))else(bif(s.toList==(⟨#[109,111,100,101]⟩:ByteArray).toList)then(bif(s.toList==(⟨#[109,111,100,101]⟩:ByteArray).toList)then false else(hY s))else(bif(s.toList==(⟨#[111,108,100]⟩:ByteArray).toList)then(bif(s.toList==(⟨#[111,108,100]⟩:ByteArray).toList)then false else(hY s))else(bif(s.toList==(⟨#[110,101,119]⟩:ByteArray).toList)then(bif(s.toList==(⟨#[110,101,119]⟩:ByteArray).toList)then false else(hY s))else(bif(s.toList==(⟨#[98,111,116,104]⟩:ByteArray).toList)then(bif(s.toList==(⟨#[98,111,116,104]⟩:ByteArray).toList)then false else(hY s))else(bif(s.toList==(⟨#[101,105,116,104,101,114]⟩:ByteArray).toList)then(bif(s.toList==(⟨#[101,105,116,104,101,114]⟩:ByteArray).toList)then false else(hY s))else(bif(s.toList==(⟨#[111,102,102,105,99,101]⟩:ByteArray).toList)then(bif(s.toList==(⟨#[111,102,102,105,99,101]⟩:ByteArray).toList)then false else(hY s))else(bif(s.toList==(⟨#[107,105,110,100]⟩:ByteArray).toList)then(bif(s.toList==(⟨#[107,105,110,100]⟩:ByteArray).toList)then false else(hY s))else(bif(s.toList==(⟨#[114,117,108,101]⟩:ByteArray).toList)then(bif(s.toList==(⟨#[114,117,108,101]⟩:ByteArray).toList)then false else(hY s))else(bif(s.toList==(⟨#[116,104,105,110,107]⟩:ByteArray).toList)then(bif(s.toList==(⟨#[116,104,105,110,107]⟩:ByteArray).toList)then false else(hY s))else(bif(s.toList==(⟨#[99,104,97,110,103,101]⟩:ByteArray).toList)then(bif(s.toList==(⟨#[99,104,97,110,103,101]⟩:ByteArray).toList)then false else(hY s))else(bif(s.toList==(⟨#[115,111,109,101]⟩:ByteArray).toList)then(bif(s.toList==(⟨#[115,111,109,101]⟩:ByteArray).toList)then false else(hY s))else(bif(s.toList==(⟨#[119,101,105,103,104,116]⟩:ByteArray).toList)then(bif(s.toList==(⟨#[119,101,105,103,104,116]⟩:ByteArray).toList)then false else(hY s))else(bif(s.toList==(⟨#[111,102]⟩:ByteArray).toList)then(bif(s.toList==(⟨#[111,102]⟩:ByteArray).toList)then false else(hY s))else(bif(s.toList==(⟨#[117,112,116,111]⟩:ByteArray).toList)then(bif(s.toList==(⟨#[117,112,116,111]⟩:ByteArray).toList)then false else(hY s))else(bif(s.toList==(⟨#[101,108,115,101]⟩:ByteArray).toList)then false else(hY s)))))))))))))))))
def bp.K1  : Int:=(-1)
def bp.L1(v:ByteArray)(k:Int):List ByteArray->Nat->Int
 |[],i1=>(k)
 |y1::rz1,i1=>(bif(v.toList==y1.toList)then(i1:Int)else(bp.L1 v k rz1 (i1+1)))
def bp(s:List ByteArray)(v:ByteArray):Int:=((bp.L1 v (bp.K1)) s 0)
def cA.K1  : Bool:=true
def cA.L1(l:List ByteArray)(ok:(ByteArray->Bool))(k:Bool):List ByteArray->Nat->Bool
 |[],i1=>(k)
 |y1::rz1,i1=>(bif((!(ok y1))||((bp l y1) != (i1:Int)))then false else(cA.L1 l ok k rz1 (i1+1)))
def cA(l:List ByteArray)(ok:(ByteArray->Bool)):Bool:=((cA.L1 l ok (cA.K1)) l 0)
def dZ(s:List ByteArray)(v:ByteArray):Bool:=decide (0<=(bp s v))
def dw.L2(p:aw)(k:(Except Int Unit)):List hZ->(Except Int Unit)
 |[]=>k
 |y2::rz2=>(exi (fW ((!(dR y2.x))||(dZ p.aD y2.x.Name)) 201) (λ_=>(dw.L2 p k rz2)))
def dw.L3(p:aw)(k:(Except Int Unit)):List hZ->(Except Int Unit)
 |[]=>k
 |y3::rz3=>(exi (fW ((!(dR y3.x))||(dZ p.aD y3.x.Name)) 201) (λ_=>(dw.L3 p k rz3)))
def dw.K1  : (Except Int Unit):=(Except.ok ())
def dw.L1(p:aw)(k:(Except Int Unit)):List ai->(Except Int Unit)
 |[]=>(k)
 |y1::rz1=>((dw.L3 p ((dw.L1 p k rz1))) (bB y1 1))
def dw(p:aw):(Except Int Unit):=(exi (fW (((gy p.Name)&&(cA p.aD gy))&&(cA p.ey gy)) 201) (λ_=>((dw.L1 p (dw.K1)) (aH p))))
def sQ(x0:ai):Bool:=false
def mw(x:ai):Bool:=((x.N==0)&&((x.L.length:Int)==0))
def mv(x:ai):Bool:=((aY x.N 1 4096)&&((x.L.length:Int)==0))
def mu(x:ai):Bool:=(((x.Name.toList==(⟨#[]⟩:ByteArray).toList)&&(aY (x.L.length:Int) 1 16))&&(aY x.N 1 (x.L.length:Int)))
def lF(x:ai):Bool:=(((x.Name.toList==(⟨#[]⟩:ByteArray).toList)&&((x.L.length:Int)==2))&&(aY x.N 0 1099511627776))
def kindsP(i:Int)(x:ai):Bool:=if i=0 then sQ x else if i=1 then mw x else if i=2 then mv x else if i=3 then mu x else lF x
def bq.L3(p:aw)(k:(Except Int Unit)):List hZ->(Except Int Unit)
 |[]=>k
 |y3::rz3=>(exi (fW ((aY y3.x.Kind 1 4)&&(kindsP y3.x.Kind y3.x)) 200) (λ_=>(exi (fW (decide (0<(jD .i64 (((aH p).length:Int)-1)))||(y3.x.Kind != 4)) 200) (λ_=>(bq.L3 p k rz3)))))
def bq.L4(p:aw)(i2:Nat)(k:(Except Int Unit)):List hZ->(Except Int Unit)
 |[]=>k
 |y4::rz4=>(exi (fW ((aY y4.x.Kind 1 4)&&(kindsP y4.x.Kind y4.x)) 200) (λ_=>(exi (fW (decide ((i2:Int)<(jD .i64 (((aH p).length:Int)-1)))||(y4.x.Kind != 4)) 200) (λ_=>(bq.L4 p i2 k rz4)))))
def bq.K2  : (Except Int Unit):=(Except.ok ())
def bq.L2(p:aw)(k:(Except Int Unit)):List ai->Nat->(Except Int Unit)
 |[],i2=>(k)
 |y2::rz2,i2=>((bq.L4 p i2 ((bq.L2 p k rz2 (i2+1)))) (bB y2 1))
def bq.K1(p:aw):(Except Int Unit):=((bq.L2 p (bq.K2)) (aH p) 0)
def bq.L1(p:aw)(k:(Except Int Unit)):List fI->Nat->(Except Int Unit)
 |[],i1=>(k)
 |y1::rz1,i1=>(exi (fW ((y1.Kind.toList==(nthI p.ey (i1:Int)).toList)&&(aY y1.iJ 0 1099511627775)) 200) (λ_=>(bq.L1 p k rz1 (i1+1))))
def bq(p:aw):(Except Int Unit):=(exi (fW ((decide (0<(p.ey.length:Int))&&((p.dt.length:Int)==(p.ey.length:Int)))&&(aY p.Mode 1 4)) 200) (λ_=>((bq.L1 p (bq.K1 p)) p.dt 0)))
def fx(p:aw):(Except Int Unit):=(exi (dv p) (λ_=>(exi (dw p) (λ_=>(exi (bq p) (λ_=>(Except.ok ())))))))
def ay.K1(aF:List ByteArray)(x:ai)(pg:List ai):ai:=(ai.mk x.Kind x.N (bp aF x.Name) x.Name pg)
def ay.L1(rec:List ByteArray->ai->ai)(aF:List ByteArray)(k:List ai->ai):List ai->List ai->ai
 |[],pg=>(k pg)
 |y1::rz1,pg=>(ay.L1 rec aF k rz1 (pg++[(rec aF y1)]))
def ay.K2(x:ai)(pd:List ai):ai:=(ai.mk x.Kind x.N 0 x.Name pd)
def ay.L2(rec:List ByteArray->ai->ai)(aF:List ByteArray)(k:List ai->ai):List ai->List ai->ai
 |[],pd=>(k pd)
 |y2::rz2,pd=>(ay.L2 rec aF k rz2 (pd++[(rec aF y2)]))
def ay.F(rec:List ByteArray->ai->ai)(aF:List ByteArray)(x:ai):ai:=(bif(dR (ai.mk x.Kind x.N 0 x.Name x.L))then((ay.L1 rec aF (ay.K1 aF x)) x.L ([]))else((ay.L2 rec aF (ay.K2 x)) x.L ([])))
def ay.go:Nat->List ByteArray->ai->ai
 |0=>λ_ _=>default
 |m+1=>ay.F (ay.go m)
def ay(aF:List ByteArray)(x:ai):ai:=ay.go x.dep aF x
def e8.K1(p:aw)(pL:List fI):(aw×Int):=((aw.mk p.Name p.ey p.aD pL (ai.mk ((ay p.aD p.aP).Kind) ((ay p.aD p.aP).N) ((ay p.aD p.aP).No) ((ay p.aD p.aP).Name) ((ay p.aD p.aP).L)) p.Mode),0)
def e8.L1(p:aw)(k:List fI->(aw×Int)):List fI->Nat->List fI->(aw×Int)
 |[],i1,pL=>(k pL)
 |y1::rz1,i1,pL=>(e8.L1 p k rz1 (i1+1) (pL++[(fI.mk y1.Kind (i1:Int) y1.iJ (ai.mk ((ay p.aD y1.ai).Kind) ((ay p.aD y1.ai).N) ((ay p.aD y1.ai).No) ((ay p.aD y1.ai).Name) ((ay p.aD y1.ai).L)))]))
def e8(p:aw):(aw×Int):=(bif((attR (fx p)) != 0)then((aw.mk (⟨#[]⟩:ByteArray) ([]) ([]) ([]) (ai.mk 0 0 0 (⟨#[]⟩:ByteArray) ([])) 0),(attR (fx p)))else((e8.L1 p (e8.K1 p)) p.dt 0 ([])))
def cW.K1  : Bool:=true
def cW.L1(aF:List ByteArray)(k:Bool):List hZ->Bool
 |[]=>k
 |y1::rz1=>(bif(dR y1.x)then(bif(y1.x.No != (bp aF y1.x.Name))then false else(cW.L1 aF k rz1))else(bif(y1.x.No != 0)then false else(cW.L1 aF k rz1)))
def cW(aF:List ByteArray)(x:ai):Bool:=((cW.L1 aF (cW.K1)) (bB x 1))
def dF.K1(p:aw):Int:=(bif(!(cW p.aD p.aP))then 200 else 0)
def dF.L1(p:aw)(k:Int):List fI->Nat->Int
 |[],i1=>(k)
 |y1::rz1,i1=>(bif((y1.BC != (i1:Int))||(!(cW p.aD y1.ai)))then 200 else(dF.L1 p k rz1 (i1+1)))
def dF(p:aw):Int:=(bif((e8 p).2 != 0)then(e8 p).2 else((dF.L1 p (dF.K1 p)) p.dt 0))
def bE.K1(m8:Int):Int:=0
def bE.L1(k:Int->Int):List aC->Int->Int
 |[],m8=>(k m8)
 |y1::rz1,m8=>(bif((((!(aY y1.No (jD .i64 (m8+1)) 1048576))||(!(aY y1.At 0 1099511627775)))||(!(aY y1.eH 0 1099511627775)))||((dF y1.aw) != 0))then 200 else(bE.L1  k rz1 y1.No))
def bE(l:List aC):Int:=(bif(decide (256<(l.length:Int)))then 2 else((bE.L1 (bE.K1)) l (-1)))
def aG.K1(l:List aj)(df:List (Int×Int)):jo:=(jo.mk l df)
def aG.L1(k:(List (Int×Int))->jo):List aj->Nat->(List (Int×Int))->jo
 |[],i1,df=>(k df)
 |y1::rz1,i1,df=>(aG.L1  k rz1 (i1+1) (mput df y1.No (i1:Int)))
def aG(l:List aj):jo:=((aG.L1 (aG.K1 l)) l 0 ([]))
def j3(t:Int):Bool:=(decide (0<=t)&&decide (t<1099511627776))
def fC.K1(l:List Int)(gL:Int):Bool:=decide ((l.length:Int)<=16)
def fC.L1(ew:Int)(k:Int->Bool):List Int->Int->Bool
 |[],gL=>(k gL)
 |y1::rz1,gL=>(bif(decide (y1<=gL)||decide (ew<=y1))then false else(fC.L1 ew k rz1 y1))
def fC(l:List Int)(ew:Int):Bool:=((fC.L1 ew (fC.K1 l)) l (-1))
def m9(d:aj):Bool:=((((((((((((decide (0<=d.No)&&decide (d.No<4096))&&(j3 d.At))&&decide (0<=d.Kind))&&decide (d.Kind<16))&&decide (0<=d.Value))&&decide (d.Value<=1099511627776))&&decide (0<=d.From))&&decide (d.From<d.nS))&&decide (d.nS<=1099511627776))&&(fC d.nz 1048577))&&(fC d.eX d.No))&&(fC d.eQ d.No))
def je(no:Int)(v0:jo):Bool:=(!(mhas v0.at_ no))
def ld(s:jo)(d:aj):Bool:=((!(fB d.eX (λfX=>je fX s)))&&(!(fB d.eQ (λfX=>je fX s))))
def aR.K1  : Int:=0
def aR.L1(l:List aj)(k:Int):List aj->Nat->Int
 |[],i1=>(k)
 |y1::rz1,i1=>(bif(((!(m9 y1))||(decide (0<(i1:Int))&&decide (y1.No<=(nthI l ((i1:Int)-1)).No)))||(!(ld (aG l) y1)))then 170 else(aR.L1 l k rz1 (i1+1)))
def aR(l:List aj):Int:=(bif(decide (4096<(l.length:Int)))then 2 else((aR.L1 l (aR.K1)) l 0))
def jZ(ir:Int)(v0:Int):Bool:=(decide (ir<0)||decide (v0<ir))
def eN(most:Int)(l:List Int):Bool:=(!(fB l (λfX=>jZ fX most)))
def lA(x:ae):Bool:=(((((eN 1048576 ([x.No]))&&(eN 1099511627775 ([x.At,x.eH])))&&(eN 4095 ([x.Doc])))&&(eN 63 ([x.By,x.For])))&&(eN 31 ([x.dQ])))
def bN.K1(m8:Int):Int:=0
def bN.L1(k:Int->Int):List ae->Int->Int
 |[],m8=>(k m8)
 |y1::rz1,m8=>(bif((!(lA y1))||decide (y1.No<=m8))then 280 else(bN.L1  k rz1 y1.No))
def bN(l:List ae):Int:=(bif(decide (4096<(l.length:Int)))then 2 else((bN.L1 (bN.K1)) l (-1)))
def cQ.K1  : Int:=0
def cQ.L1(bK:Register)(k:Int):List Nat->Nat->Int
 |[],i1=>(k)
 |y1::rz1,i1=>(bif((nthI ([(du bK.fj),(dG bK.dY),(cK bK.gu),(bY bK.fF),(bE bK.Versions),(aR bK.cj),(bN bK.bS)]) (i1:Int)) != 0)then 300 else(cQ.L1 bK k rz1 (i1+1)))
def cQ(bK:Register):Int:=((cQ.L1 bK (cQ.K1)) (xF 7) 0)
def my(W0:Int):(Except Int Unit):=(bif(W0 != 0)then(Except.error W0)else(Except.ok ()))
def ah.K1  : Int:=(-1)
def ah.L1(f:(aj->Bool))(k:Int):List aj->Nat->Int
 |[],i1=>(k)
 |y1::rz1,i1=>(bif(f y1)then(i1:Int)else(ah.L1 f k rz1 (i1+1)))
def ah(s:List aj)(f:(aj->Bool)):Int:=((ah.L1 f (ah.K1)) s 0)
def bz(d:aj)(v0:Int):Bool:=(d.No==v0)
def nr(bK:Register)(bD:Int)(aT:Int)(ad:Int):(Except Int bZ):=(bif((decide ((ah bK.cj (λfX=>bz fX bD))<0)||decide ((min aT ad)<0))||decide (1099511627776<=(max aT ad)))then(Except.error 1)else(Except.ok (bZ.mk bK (nthI bK.cj (ah bK.cj (λfX=>bz fX bD))) aT ad)))
def cmp_isNaN_int(x:Int):Bool:=(x != x)
def jW(x:aA)(v0:Int)(v1:Int):(OSeat×Bool):=((Yg x.dQ x.bw),(decide (x.At<=v0)&&decide (x.eH<=v1)))
def cY.K1(cU:List (OSeat×aA)):(List (OSeat×aA)):=cU
def cY.L1(key:(aA->OSeat×Bool))(later:(aA->aA->Bool))(k:(List (OSeat×aA))->(List (OSeat×aA))):List aA->(List (OSeat×aA))->(List (OSeat×aA))
 |[],cU=>(k cU)
 |y1::rz1,cU=>(bif((key y1).2&&((!(mhas cU ((key y1).1)))||(!(later (mgetD cU ((key y1).1) (aA.mk 0 0 0 0 0 0 false)) y1))))then(cY.L1 key later k rz1 (mput cU ((key y1).1) y1))else(cY.L1 key later k rz1 cU))
def cY(l:List aA)(key:(aA->OSeat×Bool))(later:(aA->aA->Bool)):(List (OSeat×aA)):=((cY.L1 key later (cY.K1)) l ([]))
def jU(a:aA)(mR:aA):Bool:=decide (mR.At<a.At)
def gj(l:List aA)(eB:Int)(ad:Int):(List (OSeat×aA)):=(cY l (λfX=>jW fX eB ad) jU)
def jq(l:List aA)(aI:Int)(bu:Int)(aU:Int)(ad:Int):(Int×Int×Bool×Int):=(bif((du l) != 0)then(0,0,false,(du l))else(bif((((!(gl aI))||(!(ji bu)))||(!(fQ aU)))||(!(fQ ad)))then(0,0,false,1)else(bif((!(mhas (gj l aU ad) (Yg aI bu)))||(mgetD (gj l aU ad) (Yg aI bu) (aA.mk 0 0 0 0 0 0 false)).mU)then(0,0,false,0)else((mgetD (gj l aU ad) (Yg aI bu) (aA.mk 0 0 0 0 0 0 false)).No,(mgetD (gj l aU ad) (Yg aI bu) (aA.mk 0 0 0 0 0 0 false)).fD,true,0))))
def dp.K1  : Int:=(-1)
def dp.L1(f:(ae->Bool))(k:Int):List ae->Nat->Int
 |[],i1=>(k)
 |y1::rz1,i1=>(bif(f y1)then(i1:Int)else(dp.L1 f k rz1 (i1+1)))
def dp(s:List ae)(f:(ae->Bool)):Int:=((dp.L1 f (dp.K1)) s 0)
def fL(s:List ae)(del:ae->Bool):List ae:=s.filter λx=>!(del x)
def de.K1  : List ae:=[]
def de.L1(v1:Int)(v2:Int)(v3:Int)(k:List ae):List ae->List ae
 |[]=>(k)
 |y1::rz1=>(bif(((y1.Doc==v1)&&decide (y1.At<=v2))&&decide (y1.eH<=v3))then(y1::(de.L1 v1 v2 v3 k rz1))else(de.L1 v1 v2 v3 k rz1))
def de(v0:List ae)(v1:Int)(v2:Int)(v3:Int):List ae:=((de.L1 v1 v2 v3 (de.K1)) v0)
def fS(l:List ae)(bD:Int)(aT:Int)(ad:Int):List ae:=(de l bD aT ad)
def bF(x:ae):eY:=(eY.mk x.Doc x.By x.For x.dQ)
def aK.K2(pK:List ae):List ae:=pK
def aK.L2(df:List (eY×ae))(k:List ae->List ae):List ae->List ae->List ae
 |[],pK=>k pK
 |y2::rz2,pK=>(bif((!y2.mU)&&(decide ((mgetD df (bF y2) (ae.mk 0 0 0 0 0 0 0 false))=y2)))then(aK.L2 df k rz2 (pK++[y2]))else(aK.L2 df k rz2 pK))
def aK.K1(l:List ae)(bD:Int)(aT:Int)(ad:Int)(df:List (eY×ae)):List ae:=((aK.L2 df (aK.K2)) (fS l bD aT ad) ([]))
def aK.L1(k:(List (eY×ae))->List ae):List ae->(List (eY×ae))->List ae
 |[],df=>k df
 |y1::rz1,df=>(bif((!(mhas df (bF y1)))||decide ((mgetD df (bF y1) (ae.mk 0 0 0 0 0 0 0 false)).At<=y1.At))then(aK.L1 k rz1 (mput df (bF y1) y1))else(aK.L1 k rz1 df))
def aK(l:List ae)(bD:Int)(aT:Int)(ad:Int):List ae:=((aK.L1 (aK.K1 l bD aT ad)) (fS l bD aT ad) ([]))
def kz(y:ae)(aW:Int)(at_:Int)(think:Int):Bool:=(decide (y.At<aW)||decide ((jD .i64 (at_-y.At))<think))
def cC(l:List ae)(bD:Int)(aW:Int)(think:Int)(dh:Int)(ad:Int):(List ae×Int):=(bif((bN l) != 0)then([],(bN l))else(bif((!(eN 4095 ([bD])))||(!(eN 1099511627775 ([aW,think,dh,ad]))))then([],1)else((fL (aK l bD dh ad) (λfX=>kz fX aW dh think)),0)))
def ly(l:List aE)(cV:Int)(to:Int)(q:bL):Int:=(bif((dG l) != 0)then(dG l)else(bif(((((((!(iW cV))||(!(iW to)))||(!(dB q.aI 0 31)))||(!(dB q.kind 0 15)))||(!(dB q.value 0 1099511627776)))||(!(j4 q.at_)))||(!(j4 q.ad)))then 1 else 0))
def dj.K1(cU:List aE):List aE:=cU
def dj.L1(k:List aE->List aE):List aE->List aE->List aE
 |[],cU=>k cU
 |y1::rz1,cU=>(dj.L1 k rz1 (cU++[y1]))
def dj(seq:List aE):List aE:=((dj.L1 (dj.K1)) seq ([]))
def dx(seq:List aE):List aE:=(dj seq)
def dC(q:bL)(x:aE):Bool:=(decide (x.At<=q.at_)&&decide (x.eH<=q.ad))
def i7(q:bL)(x:aE):Bool:=(((((!x.mU)&&decide (q.at_<x.nS))&&(x.dQ==q.aI))&&((x.Kind==(-1))||(x.Kind==q.kind)))&&decide (q.value<=x.N5))
def bX.K1  : List aE:=[]
def bX.L1(v1:List (ea×aE))(v2:(aE->Bool))(v3:bL)(k:List aE):List aE->List aE
 |[]=>(k)
 |y1::rz1=>(bif(((decide ((mgetD v1 (ea.mk y1.From y1.To y1.dQ y1.Kind) (aE.mk 0 0 0 0 0 0 0 0 0 false))=y1))&&(v2 y1))&&(i7 v3 y1))then(y1::(bX.L1 v1 v2 v3 k rz1))else(bX.L1 v1 v2 v3 k rz1))
def bX(v0:List aE)(v1:List (ea×aE))(v2:(aE->Bool))(v3:bL):List aE:=((bX.L1 v1 v2 v3 (bX.K1)) v0)
def aL.K1(q:bL)(l:List aE)(fh:List (ea×aE)):List aE:=(bX l fh (dC q) q)
def aL.L1(q:bL)(k:(List (ea×aE))->List aE):List aE->(List (ea×aE))->List aE
 |[],fh=>(k fh)
 |y1::rz1,fh=>(bif((dC q y1)&&((!(mhas fh (ea.mk y1.From y1.To y1.dQ y1.Kind)))||decide ((mgetD fh (ea.mk y1.From y1.To y1.dQ y1.Kind) (aE.mk 0 0 0 0 0 0 0 0 0 false)).At<=y1.At)))then(aL.L1 q k rz1 (mput fh (ea.mk y1.From y1.To y1.dQ y1.Kind) y1))else(aL.L1 q k rz1 fh))
def aL(q:bL)(l:List aE):List aE:=((aL.L1 q (aL.K1 q l)) l ([]))
def aJ.L2(k:(List (Int×Int))->(List Int×Bool×Int)):List aE->(List (Int×Int))->(List Int×Bool×Int)
 |[],yU=>(k yU)
 |y2::rz2,yU=>(bif(((mhas yU y2.To)&&((mgetD yU y2.To 0)==0))&&(!(mhas yU y2.From)))then(aJ.L2  k rz2 (mput yU y2.From 1))else(aJ.L2  k rz2 yU))
def aJ.L3(i1:Nat)(k:(List (Int×Int))->(List Int×Bool×Int)):List aE->(List (Int×Int))->(List Int×Bool×Int)
 |[],pJ=>(k pJ)
 |y3::rz3,pJ=>(bif(((mhas pJ y3.To)&&((mgetD pJ y3.To 0)==(i1:Int)))&&(!(mhas pJ y3.From)))then(aJ.L3 i1 k rz3 (mput pJ y3.From (((i1+1):Nat):Int)))else(aJ.L3 i1 k rz3 pJ))
def aJ.L6(cV:Int)(df:List (Int×Int))(i4:Nat)(k:List Int->Int->(List Int×Bool×Int)):List aE->List Int->Int->(List Int×Bool×Int)
 |[],D8,F6=>(k D8 F6)
 |y6::rz6,D8,F6=>(bif(((y6.From==F6)&&(mhas df y6.To))&&((mgetD df y6.To 0)==((((((mgetD df cV 0)).toNat)-(i4+1)):Nat):Int)))then(k (D8++[y6.No]) y6.To)else(aJ.L6 cV df i4 k rz6 D8 F6))
def aJ.K4(Bg:List Int)(F7:Int):(List Int×Bool×Int):=(Bg,true,0)
def aJ.L4(l:List aE)(cV:Int)(aI:Int)(kind:Int)(value:Int)(i9:Int)(ad:Int)(df:List (Int×Int))(k:List Int->Int->(List Int×Bool×Int)):List Nat->Nat->List Int->Int->(List Int×Bool×Int)
 |[],i4,Bg,F7=>(k Bg F7)
 |y4::rz4,i4,Bg,F7=>((aJ.L6 cV df i4 (λzg6_16 zg6_31=>(aJ.L4 l cV aI kind value i9 ad df k rz4 (i4+1) zg6_16 zg6_31))) (dx (aL (bL.mk aI kind value i9 ad) l)) Bg F7)
def aJ.K1(l:List aE)(cV:Int)(aI:Int)(kind:Int)(value:Int)(i9:Int)(ad:Int)(df:List (Int×Int)):(List Int×Bool×Int):=(bif(!(mhas df cV))then([],false,0)else((aJ.L4 l cV aI kind value i9 ad df (aJ.K4)) (xF (((mgetD df cV 0)).toNat)) 0 ([]) cV))
def aJ.L1(l:List aE)(aI:Int)(kind:Int)(value:Int)(i9:Int)(ad:Int)(k:(List (Int×Int))->(List Int×Bool×Int)):List Nat->Nat->(List (Int×Int))->(List Int×Bool×Int)
 |[],i1,df=>(k df)
 |y1::rz1,i1,df=>((aJ.L3 i1 (λzg3_b2_0=>(aJ.L1 l aI kind value i9 ad k rz1 (i1+1) zg3_b2_0))) (dx (aL (bL.mk aI kind value i9 ad) l)) df)
def aJ(l:List aE)(cV:Int)(to:Int)(aI:Int)(kind:Int)(value:Int)(i9:Int)(ad:Int):(List Int×Bool×Int):=(bif((ly l cV to (bL.mk aI kind value i9 ad)) != 0)then([],false,(ly l cV to (bL.mk aI kind value i9 ad)))else((aJ.L1 l aI kind value i9 ad (aJ.K1 l cV aI kind value i9 ad)) (xF 8) 0 (mput ([]) to 0)))
def cG.K1(bu:Int)(bQ:List Int)(aU:Int)(ad:Int)(Bq:Int):Int:=(bif((((!(dS bu 64))||decide (16<(bQ.length:Int)))||(!(dS aU 1099511627776)))||(!(dS ad 1099511627776)))then 1 else 0)
def cG.L1(k:Int->Int):List Int->Int->Int
 |[],Bq=>(k Bq)
 |y1::rz1,Bq=>(bif(decide (y1<=Bq)||decide (1048576<y1))then 1 else(cG.L1  k rz1 y1))
def cG(l:List av)(bu:Int)(bQ:List Int)(aU:Int)(ad:Int):Int:=(bif((cK l) != 0)then(cK l)else((cG.L1 (cG.K1 bu bQ aU ad)) bQ (-1)))
def em.K1  : List av:=[]
def em.L1(v1:List (dX×av))(k:List av):List av->List av
 |[]=>(k)
 |y1::rz1=>(bif((!y1.mU)&&(decide ((mgetD v1 (dX.mk y1.bw y1.eG y1.Of) (av.mk 0 0 0 0 0 false false))=y1)))then(y1::(em.L1 v1 k rz1))else(em.L1 v1 k rz1))
def em(v0:List av)(v1:List (dX×av)):List av:=((em.L1 v1 (em.K1)) v0)
def cH.K1(l:List av)(df:List (dX×av)):List av:=(em l df)
def cH.L1(eB:Int)(ad:Int)(k:(List (dX×av))->List av):List av->(List (dX×av))->List av
 |[],df=>(k df)
 |y1::rz1,df=>(bif(decide (eB<y1.At)||decide (ad<y1.eH))then(cH.L1 eB ad k rz1 df)else(bif((!(mhas df (dX.mk y1.bw y1.eG y1.Of)))||decide ((mgetD df (dX.mk y1.bw y1.eG y1.Of) (av.mk 0 0 0 0 0 false false)).At<=y1.At))then(cH.L1 eB ad k rz1 (mput df (dX.mk y1.bw y1.eG y1.Of) y1))else(cH.L1 eB ad k rz1 df)))
def cH(l:List av)(eB:Int)(ad:Int):List av:=((cH.L1 eB ad (cH.K1 l)) l ([]))
def conPut(w:iX)(m:List (Int×Bool))(q:List iX):List (Int×Bool)×List iX:=bif mgetD m w.to false then(m,q)else(mput m w.to true,q++[w])
def conFill(bu:Int):List av->List (Int×List av)->List (Int×Bool)->List iX->List (Int×List av)×List (Int×Bool)×List iX
 |[],f,m,q=>(f,m,q)
 |x::l,f,m,q=>bif x.Of then conFill bu l (mput f x.bw (mgetD f x.bw []++[x])) m q
  else bif x.bw==bu then conFill bu l f (conPut ⟨[x.No],x.eG⟩ m q).1 (conPut ⟨[x.No],x.eG⟩ m q).2 else conFill bu l f m q
def conStep(path:List Int):List av->List (Int×Bool)->List iX->List (Int×Bool)×List iX
 |[],m,q=>(m,q)
 |x::l,m,q=>conStep path l (conPut ⟨path++[x.No],x.eG⟩ m q).1 (conPut ⟨path++[x.No],x.eG⟩ m q).2
def conLoop(bQ:List Int)(f:List (Int×List av)):Nat->List (Int×Bool)->List iX->List Int×Bool
 |0,_,_=>([],false)
 |_+1,_,[]=>([],false)
 |n+1,m,w::q=>bif bQ.contains w.to then(w.path,true)else bif(w.path.length:Int)==8 then conLoop bQ f n m q
  else conLoop bQ f n (conStep w.path (mgetD f w.to []) m q).1 (conStep w.path (mgetD f w.to []) m q).2
def conFind(l:List av)(bu:Int)(bQ:List Int)(st:List av):List Int×Bool:=
 conLoop bQ (conFill bu st [] [] []).1 (l.length+1) (conFill bu st [] [] []).2.1 (conFill bu st [] [] []).2.2
def fy(l:List av)(bu:Int)(bQ:List Int)(aU:Int)(ad:Int):List Int×Bool×Int:=
 bif cG l bu bQ aU ad != 0 then([],false,cG l bu bQ aU ad)
 else((conFind l bu bQ (cH l aU ad)).1,(conFind l bu bQ (cH l aU ad)).2,0)
def yo(h:HF):List Value->List iX->Prop
 |[],[]=>True
 |v::vs,w::ws=>(∃r,v=.agg (iX.cells w r).toArray/\iX.ok h w r)/\yo h vs ws
 |_,_=>False
abbrev FR:=FRg av.rp 78
def yq(st:List av)(m:List (Int×Bool))(q:List iX):Prop:=(∀p∈m,p.2=true/\p.1∈st.map (·.eG))/\q.length<=m.length/\∀w∈q,w.path.length<=8
def Sq(st:List av)(f:List (Int×List av)):Prop:=∀k,∀x∈mgetD f k [],x∈st
def jY(c:bZ)(bu:Int):Bool:=(fy c.Register.gu bu c.bD.nz c.at_ c.ad).2.1
def dl.K1  : List ae:=[]
def dl.L1(c:bZ)(k:List ae):List ae->List ae
 |[]=>(k)
 |y1::rz1=>(bif((((jq c.Register.fj y1.dQ y1.For c.at_ c.ad).2.2.1&&(aJ c.Register.dY y1.For y1.By y1.dQ c.bD.Kind c.bD.Value c.at_ c.ad).2.1)&&(!(jY c y1.For)))&&(!(jY c y1.By)))then(y1::(dl.L1 c k rz1))else(dl.L1 c k rz1))
def dl(c:bZ)(p:aw):List ae:=(bif(decide ((p.ey.length:Int)<=c.bD.Kind))then[]else((dl.L1 c (dl.K1)) ((cC c.Register.bS c.bD.No c.bD.At ((nthI p.dt c.bD.Kind).iJ) c.at_ c.ad).1)))
def j8(c:bZ)(p:aw):List ae:=(dl c p)
def cZ.K1(cT:List Int):List Int:=(slices_Compact_int (sortI cT))
def cZ.L1(k:List Int->List Int):List ae->List Int->List Int
 |[],cT=>k cT
 |y1::rz1,cT=>(cZ.L1 k rz1 (cT++[y1.For]))
def cZ(c:bZ)(p:aw):List Int:=((cZ.L1 (cZ.K1)) (j8 c p) ([]))
def bM.K1  : Int:=(-1)
def bM.L1(f:(aC->Bool))(k:Int):List aC->Nat->Int
 |[],i1=>(k)
 |y1::rz1,i1=>(bif(f y1)then(i1:Int)else(bM.L1 f k rz1 (i1+1)))
def bM(s:List aC)(f:(aC->Bool)):Int:=((bM.L1 f (bM.K1)) s 0)
def ju(v:aC)(v0:Int):Bool:=(v.No==v0)
def gm(c:bZ)(no:Int):(Except Int aw):=(bif(decide ((bM c.Register.Versions (λfX=>ju fX no))<0))then(Except.error 1)else(Except.ok ((nthI c.Register.Versions (bM c.Register.Versions (λfX=>ju fX no))).aw)))
def iB(bK:Register)(bD:Int)(version:Int)(aU:Int)(ad:Int):List Int×Int:=
 bif cQ bK != 0 then([],cQ bK)else match nr bK bD aU ad with
  |.error e=>([],e)
  |.ok c=>match gm c version with
   |.error e=>([],e)
   |.ok p=>(cZ c p,0)
def lG(t:Int):Bool:=((t != (-1))&&(!(j3 t)))
def bT(l:List aj)(signed:List Int):Bool:=(((signed.length:Int)==(l.length:Int))&&(!(fB signed lG)))
def iu.K1(m8:Int):Int:=m8
def iu.L1(k:Int->Int):List Int->Int->Int
 |[],m8=>(k m8)
 |y1::rz1,m8=>(iu.L1  k rz1 (min m8 y1))
def iu(x:List Int):Int:=((iu.L1 (iu.K1)) (x.drop 1) (nthI x 0))
def cu(p:ff)(tc:Int)(aT:Int):(Int×Int):=(bif(!(nthI p.done tc))then(1,(-1))else(bif(decide (0<=(nthI p.lacks tc)))then(4,(nthI p.lacks tc))else(bif(decide (0<(((mgetD p.revoked ((nthI p.shelf.docs tc).No) []).length:Nat):Int)))then(5,(iu (mgetD p.revoked ((nthI p.shelf.docs tc).No) [])))else(bif(decide (aT<(nthI p.shelf.docs tc).From))then(2,(-1))else(bif(decide ((nthI p.shelf.docs tc).nS<=aT))then(3,(-1))else(0,(-1)))))))
def insIn(cmp:Int->Int->Int):Nat->List Int->List Int
 |0,xs=>xs
 |j+1,xs=>bif decide (cmp (xs.getD (j+1) 0) (xs.getD j 0)<0)then insIn cmp j ((xs.set (j+1) (xs.getD j 0)).set j (xs.getD (j+1) 0))else xs
def insOut(cmp:Int->Int->Int):Nat->Nat->List Int->List Int
 |0,_,xs=>xs
 |m+1,i,xs=>insOut cmp m (i+1) (insIn cmp i xs)
def fa(xs:List Int)(cmp:Int->Int->Int):List Int:=insOut cmp (xs.length-1) 1 xs
def cmp_Compare_int(x:Int)(y:Int):Int:=(bif(cmp_isNaN_int x)then(bif(cmp_isNaN_int y)then 0 else(-1))else(bif(cmp_isNaN_int y)then 1 else(bif(decide (x<y))then(-1)else(bif(decide (y<x))then 1 else 0))))
def jw(a:Int)(mR:Int)(p:ud):Int:=(cmp_Compare_int (nthI p.signed a) (nthI p.signed mR))
def eR.K1  : List Int:=[]
def eR.L1(k:List Int):List Int->List Int
 |[]=>(k)
 |y1::rz1=>(y1::(eR.L1  k rz1))
def eR(v0:List Int):List Int:=((eR.L1 (eR.K1)) v0)
def lN(s:List Int):List Int:=(eR s)
def bj.K1(p:ud)(gL:List Int):List Int:=(lN (fa gL (λfX Ko=>jw fX Ko p)))
def bj.L1(eB:Int)(k:List Int->List Int):List Int->Nat->List Int->List Int
 |[],i1,gL=>(k gL)
 |y1::rz1,i1,gL=>(bif(decide (0<=y1)&&decide (y1<=eB))then(bj.L1 eB k rz1 (i1+1) (gL++[(i1:Int)]))else(bj.L1 eB k rz1 (i1+1) gL))
def bj(p:ud)(eB:Int):List Int:=((bj.L1 eB (bj.K1 p)) p.signed 0 ([]))
def backL(s:List Int):Nat->List (Int×Int)
 |0=>[]
 |m+1=>((m:Int),nthI s (m:Int))::backL s m
def lm(v0:List Int):List (Int×Int):=backL v0 v0.length
def j9(s:List Int):(List (Int×Int)):=(lm s)
abbrev FRi:=FRg Rp.int 3
def playP(l:List aj)(sg:List Int):ff:=⟨aG l,sg,List.replicate l.length false,List.replicate l.length 0,[]⟩
def playR(n:Nat)(sq:pO)(sb:Option Addr)(sc:Nat)(b5 b8 b9:Nat):sX:=⟨sq,sb,sc,some ⟨b5,0,none⟩,n,some ⟨b8,0,none⟩,n,b9⟩
def plL(b c d f t:Bool)(B5 B8 B9 B12 B11:Nat×Obj):LH:=
 (bif t then[B11]else[])++((bif f then[B12]else[])++((bif d then[B9]else[])++((bif c then[B8]else[])++(bif b then[B5]else[]))))
def plD(a b c d f g t:Bool):List Nat:=
 (bif t then[11]else[])++((bif g then[10]else[])++((bif f then[12]else[])++((bif d then[9]else[])++((bif c then[8]else[])++((bif b then[5]else[])++((bif a then[1]else[])++[7,6,4,3,2,0]))))))
def plM(a b c d f g t:Bool):Nat:=(bif a then 0 else 1)+(bif b then 0 else 1)+(bif c then 0 else 1)+(bif d then 0 else 1)+(bif f then 0 else 1)+(bif g then 0 else 1)+(bif t then 0 else 1)
def PlI(h:HF)(l:List aj)(lb:Option Addr)(lc:Nat)(sg:List Int)(sb:Option Addr)(sc:Nat)(at_:Int)(q4:Addr)(a b c d f g t:Bool)(e:Env)(h':HF)(L:LH):Prop:=
 ((!g||(a&&b&&c&&d))&&(!t||g))=true/\h.le h'/\(e 2=.int .i64 at_/\e 4=.pointer (some q4)/\e 16=.slice lb l.length lc/\e 18=.slice sb sg.length sc/\e 20=.int .i64 (l.length:Int)/\e 23=.int .i64 (l.length:Int)) /\
 ∃(sq:pO)(b5 b8 b9 b12 b11:Nat),(a=true->e 17=.agg (jo.cells (aG l) sq).toArray/\jo.ok h' (aG l) sq)/\(b=true->e 21=.slice (some ⟨b5,0,none⟩) l.length l.length) /\
  (c=true->e 24=.slice (some ⟨b8,0,none⟩) l.length l.length)/\(d=true->e 25=.map (some b9))/\(f=true->e 7=.pointer (some ⟨b12,0,none⟩))/\(g=true->e 26=.agg (ff.cells (playP l sg) (playR l.length sq sb sc b5 b8 b9)).toArray)/\(t=true->e 27=.pointer (some ⟨b11,0,none⟩)) /\
  L.Perm (plL b c d f t (b5,.cells (List.replicate l.length (.bool false)).toArray 4 (0,0)) (b8,.cells (List.replicate l.length (.int .i64 0)).toArray 3 (0,0)) (b9,.map #[] 0) (b12,.cells (vB [.pointer none]) 153 (0,0)) (b11,.cells (ff.cells (playP l sg) (playR l.length sq sb sc b5 b8 b9)).toArray 218 (0,0)))
def plN(a b c d f g t:Bool):List Nat:=
 (bif a then[]else[1])++((bif b then[]else[5])++((bif c then[]else[8])++((bif d then[]else[9])++((bif a&&b&&c&&d&&!g then[10]else[])++((bif g&&!t then[11]else[])++((bif f then[]else[12])++(bif a&&b&&c&&d&&f&&g&&t then[13]else[])))))))
def playLack(sg:List Int)(i:Int)(p:ff)(no:Int):ff:=bif(cu p (mgetD p.shelf.at_ no 0) (nthI sg i)).1 != 0 then { p with lacks:=p.lacks.set i.toNat no }else p
def playRevoke(d:aj)(p:ff)(no:Int):ff:={ p with revoked:=mput p.revoked no (mgetD p.revoked no []++[d.No]) }
def playMid(p:ff)(i:Int):ff:=(j9 (nthI p.shelf.docs i).eQ).foldl (λq x=>playLack p.signed i q x.2) { p with lacks:=p.lacks.set i.toNat (-1) }
def playDone(p:ff)(i:Int):ff:={ p with done:=p.done.set i.toNat true }
def playStep(p:ff)(i:Int):ff:=
 bif decide (nthI (playMid p i).lacks i<0)then(nthI p.shelf.docs i).eX.foldl (playRevoke (nthI p.shelf.docs i)) (playDone (playMid p i) i)else playDone (playMid p i) i
def co(l:List aj)(signed:List Int)(at_:Int):ff:=(bj (playP l signed) at_).foldl playStep (playP l signed)
structure zY(h:HF)(n b5 b8 br:Nat)(P:ff)(om:Obj)(m3:List (Int×Option Addr×Nat×Nat))(Gf:LH):Prop where
 done:P.done.length=n
 lacks:P.lacks.length=n
 map:lB (jC .i64) V3 h om m3
 rev:FRi h m3 P.revoked Gf
def plB(b5 b8 br:Nat)(P:ff)(om:Obj)(Gf:LH):LH:=
 [(b5,.cells (P.done.map Value.bool).toArray 4 (0,0)),(b8,.cells (P.lacks.map (jC .i64)).toArray 3 (0,0)),(br,om)]++Gf
def bR.K1(Ak:List Int):(List Int×Int):=(Ak,0)
def bR.L1(l:List aj)(signed:List Int)(aT:Int)(k:List Int->(List Int×Int)):List aj->Nat->List Int->(List Int×Int)
 |[],i1,Ak=>(k Ak)
 |y1::rz1,i1,Ak=>(bif((cu (co l signed aT) (i1:Int) aT).1==0)then(bR.L1 l signed aT k rz1 (i1+1) (Ak++[y1.No]))else(bR.L1 l signed aT k rz1 (i1+1) Ak))
def bR(l:List aj)(signed:List Int)(aT:Int):(List Int×Int):=(bif((aR l) != 0)then([],(aR l))else(bif((!(bT l signed))||(!(j3 aT)))then([],1)else((bR.L1 l signed aT (bR.K1)) l 0 ([]))))
def fE.K1(cU:List (Int×Bool)):Bool:=true
def fE.L1(k:(List (Int×Bool))->Bool):List Use->(List (Int×Bool))->Bool
 |[],cU=>(k cU)
 |y1::rz1,cU=>(bif(((((mgetD cU y1.Doc false)||(!(ct 0 4095 ([y1.Doc]))))||(!(ct 0 15 ([y1.Kind]))))||(!(ct 0 1099511627776 ([y1.Value]))))||(!(ct 0 1099511627775 ([y1.At,y1.eH]))))then false else(fE.L1  k rz1 (mput cU y1.Doc true)))
def fE(u:List Use):Bool:=((fE.L1 (fE.K1)) u ([]))
def aZ.K2(nX:List Budget):List Budget:=nX
def aZ.L2(cU:List (ig×Budget))(k:List Budget->List Budget):List Budget->List Budget->List Budget
 |[],nX=>(k nX)
 |y2::rz2,nX=>(bif((!y2.mU)&&(decide ((mgetD cU (ig.mk y2.Kind y2.mH) (YM 0 0 0 0 0 0 0 false))=y2)))then(aZ.L2 cU k rz2 (nX++[y2]))else(aZ.L2 cU k rz2 nX))
def aZ.K1(l:List Budget)(cU:List (ig×Budget)):List Budget:=((aZ.L2 cU (aZ.K2)) l ([]))
def aZ.L1(kind:Int)(aT:Int)(ad:Int)(k:(List (ig×Budget))->List Budget):List Budget->(List (ig×Budget))->List Budget
 |[],cU=>(k cU)
 |y1::rz1,cU=>(bif((decide (aT<y1.At)||decide (ad<y1.eH))||((y1.Kind != (-1))&&(y1.Kind != kind)))then(aZ.L1 kind aT ad k rz1 cU)else(bif((!(mhas cU (ig.mk y1.Kind y1.mH)))||decide ((mgetD cU (ig.mk y1.Kind y1.mH) (YM 0 0 0 0 0 0 0 false)).At<=y1.At))then(aZ.L1 kind aT ad k rz1 (mput cU (ig.mk y1.Kind y1.mH) y1))else(aZ.L1 kind aT ad k rz1 cU)))
def aZ(l:List Budget)(kind:Int)(aT:Int)(ad:Int):List Budget:=((aZ.L1 kind aT ad (aZ.K1 l)) l ([]))
def eD.K1  : List Int:=[]
def eD.L1(ad:Int)(bg:Budget)(at_:Int)(k:List Int):List Use->List Int
 |[]=>(k)
 |y1::rz1=>(bif((decide (y1.eH<=ad)&&((bg.Kind==(-1))||(bg.Kind==y1.Kind)))&&((jD .i64 (y1.At.tdiv bg.mH))==(jD .i64 (at_.tdiv bg.mH))))then(y1.Value::(eD.L1 ad bg at_ k rz1))else(eD.L1 ad bg at_ k rz1))
def eD(u:List Use)(ad:Int)(bg:Budget)(at_:Int):List Int:=((eD.L1 ad bg at_ (eD.K1)) u)
def qp(Oa:Budget)(u:List Use)(aT:Int)(ad:Int):List Int:=(eD u ad Oa aT)
def bo.L2(k:Int->Int->(Int×Bool×Int)):List Int->Int->Int->(Int×Bool×Int)
 |[],NL,NM=>k NL NM
 |y2::rz2,NL,NM=>(bo.L2 k rz2 (jD .i64 (NL+y2)) (jD .i64 (NM+1)))
def bo.L3(k:Int->Int->(Int×Bool×Int)):List Int->Int->Int->(Int×Bool×Int)
 |[],NI,NJ=>k NI NJ
 |y3::rz3,NI,NJ=>(bo.L3 k rz3 (jD .i64 (NI+y3)) (jD .i64 (NJ+1)))
def bo.K1  : (Int×Bool×Int):=((-1),true,0)
def bo.L1(u:List Use)(value:Int)(dh:Int)(ad:Int)(k:(Int×Bool×Int)):List Budget->(Int×Bool×Int)
 |[]=>(k)
 |y1::rz1=>((bo.L3 (λzg3_b6_0 zg3_b5_0=>(bif(decide (y1.Count<zg3_b5_0)||decide (y1.Value<zg3_b6_0))then(y1.No,false,0)else(bo.L1 u value dh ad k rz1)))) (qp y1 u dh ad) value 1)
def bo(l:List Budget)(u:List Use)(kind:Int)(value:Int)(dh:Int)(ad:Int):(Int×Bool×Int):=(bif((bY l) != 0)then(0,false,(bY l))else(bif(decide (4096<(u.length:Int)))then(0,false,2)else(bif(!(fE u))then(0,false,180)else(bif(((!(ct 0 15 ([kind])))||(!(ct 0 1099511627776 ([value]))))||(!(ct 0 1099511627775 ([dh,ad]))))then(0,false,1)else((bo.L1 u value dh ad (bo.K1)) (aZ l kind dh ad))))))
def iV(d:aj)(v0:bZ):Bool:=(d.No==v0.bD.No)
def j1(s:List aj)(f:(aj->Bool)):Bool:=decide (0<=(ah s f))
def gi.K1  : Int:=(-1)
def gi.L1(v:Int)(k:Int):List Int->Nat->Int
 |[],i1=>(k)
 |y1::rz1,i1=>(bif(v==y1)then(i1:Int)else(gi.L1 v k rz1 (i1+1)))
def gi(s:List Int)(v:Int):Int:=((gi.L1 v (gi.K1)) s 0)
def kY(s:List Int)(v:Int):Bool:=decide (0<=(gi s v))
def i5(l:List aj)(signed:List Int)(no:Int)(aU:Int):(Int×Int×Int):=(bif((aR l) != 0)then(0,0,(aR l))else(bif((!(bT l signed))||(!(j3 aU)))then(0,0,1)else(bif(!(mhas ((co l signed aU).shelf.at_) no))then(0,0,1)else((cu (co l signed aU) (mgetD ((co l signed aU).shelf.at_) no 0) aU).1,(cu (co l signed aU) (mgetD ((co l signed aU).shelf.at_) no 0) aU).2,0))))
def nw(d:aj)(c:bZ)(signed:List Int):Bool:=(bif(!(kY d.eX c.bD.No))then false else(((i5 c.Register.cj signed d.No c.at_).1 != 1)&&((i5 c.Register.cj signed d.No c.at_).1 != 4)))
def ng(c:bZ)(signed:List Int):Bool:=(j1 c.Register.cj (λfX=>nw fX c signed))
def iy(c:bZ)(signed:List Int):Bool:=(((decide (c.at_<c.bD.At)||decide (c.bD.nS<=c.at_))||(decide (0<=(nthI signed (ah c.Register.cj (λfX=>iV fX c))))&&decide ((nthI signed (ah c.Register.cj (λfX=>iV fX c)))<=c.at_)))||(ng c signed))
def CD(c:bZ)(signed:List Int):Bool:=(iy c signed)
def n9(ir:Int)(v0:List Int):Bool:=(!(kY v0 ir))
def ki(c:bZ)(signed:List Int):Bool:=(fB c.bD.eQ (λfX=>n9 fX ((bR c.Register.cj signed c.at_).1)))
def CC(c:bZ)(signed:List Int):Bool:=(ki c signed)
def io(ir:Int):Bool:=(decide (0<=ir)&&decide (ir<1099511627776))
def mW.K1(cU:List Int):List Int:=cU
def mW.L1(k:List Int->List Int):List Int->List Int->List Int
 |[],cU=>k cU
 |y1::rz1,cU=>(mW.L1 k rz1 (cU++[y1]))
def mW(seq:List Int):List Int:=((mW.L1 (mW.K1)) seq ([]))
def bO.K2  : (List (Int×aC)):=[]
def bO.L2(cU:List (Int×aC))(k:List (Int×aC)):List Int->(List (Int×aC))
 |[]=>(k)
 |y2::rz2=>((y2,(mgetD cU y2 (aC.mk 0 0 0 (aw.mk (⟨#[]⟩:ByteArray) [] [] [] (ai.mk 0 0 0 (⟨#[]⟩:ByteArray) []) 0))))::(bO.L2 cU k rz2))
def bO.K1(Ak:Int)(cU:List (Int×aC)):(List (Int×aC)):=((bO.L2 cU (bO.K2)) (sortI (cU.map Prod.fst)))
def bO.L1(ad:Int)(fH:Int)(k:Int->(List (Int×aC))->(List (Int×aC))):List aC->Int->(List (Int×aC))->(List (Int×aC))
 |[],Ak,cU=>(k Ak cU)
 |y1::rz1,Ak,cU=>(bif(decide (ad<y1.eH))then(bO.L1 ad fH k rz1 Ak cU)else(bif(decide (y1.At<=fH))then(bif(decide (y1.At<Ak))then(bO.L1 ad fH k rz1 Ak cU)else(bO.L1 ad fH k rz1 y1.At (mput cU fH y1)))else(bO.L1 ad fH k rz1 Ak (mput cU y1.At y1))))
def bO(l:List aC)(ad:Int)(fH:Int):(List (Int×aC)):=((bO.L1 ad fH (bO.K1)) l (-1) ([]))
def gh(l:List aC)(cV:Int)(ad:Int):(List (Int×aC)):=(bO l ad cV)
def kc(l:List aC)(old:Bool):List aC:=l
def kb(l:List aC)(old:Bool):List aC:=(bif(!old)then[]else(l.take ((1:Int)).toNat))
def jp(l:List aC)(old:Bool):List aC:=(l.drop ((((l.length:Int)-1):Int)).toNat)
def lx  : (List (Int×Value)):=(mput (mput (mput (mput ([]) 1 (zQ (.func 266) #[] #[])) 2 (zQ (.func 267) #[] #[])) 3 (zQ (.func 265) #[] #[])) 4 (zQ (.func 265) #[] #[]))
def judgesP(mode:Int)(l:List aC)(old:Bool):List aC:=bif mode==1 then kb l old else bif mode==2 then jp l old else kc l old
def aN.K2(cT:List aC)(nX:List Int):(List Int×Int×Int):=((sortI nX),(nthI cT ((cT.length:Int)-1)).aw.Mode,0)
def aN.L2(k:List Int->(List Int×Int×Int)):List aC->List Int->(List Int×Int×Int)
 |[],nX=>(k nX)
 |y2::rz2,nX=>(aN.L2  k rz2 (nX++[y2.No]))
def aN.K1(fh:Bool)(cT:List aC):(List Int×Int×Int):=(bif((cT.length:Int)==0)then([],0,0)else((aN.L2 (aN.K2 cT)) (judgesP ((nthI cT ((cT.length:Int)-1)).aw.Mode) cT fh) ([])))
def aN.L1(aW:Int)(aT:Int)(k:Bool->List aC->(List Int×Int×Int)):List (Int×aC)->Bool->List aC->(List Int×Int×Int)
 |[],fh,cT=>k fh cT
 |y1::rz1,fh,cT=>(bif(decide (aT<y1.1))then(k fh cT)else(aN.L1 aW aT k rz1 (fh||(y1.1==aW)) (cT++[y1.2])))
def aN(l:List aC)(aW:Int)(aT:Int)(ad:Int):(List Int×Int×Int):=(bif((bE l) != 0)then([],0,(bE l))else(bif((((!(io aW))||(!(io aT)))||(!(io ad)))||decide (aT<aW))then([],0,1)else((aN.L1 aW aT (aN.K1)) (gh l aW ad) false ([]))))
def dz.K1(cU:List aV):List aV:=cU
def dz.L1(k:List aV->List aV):List aV->List aV->List aV
 |[],cU=>k cU
 |y1::rz1,cU=>(dz.L1 k rz1 (cU++[y1]))
def dz(seq:List aV):List aV:=((dz.L1 (dz.K1)) seq ([]))
def ll(seq:List aV):List aV:=(dz seq)
def mg.K1(cU:List OSeat):List OSeat:=cU
def mg.L1(k:List OSeat->List OSeat):List OSeat->List OSeat->List OSeat
 |[],cU=>k cU
 |y1::rz1,cU=>(mg.L1 k rz1 (cU++[y1]))
def mg(seq:List OSeat):List OSeat:=((mg.L1 (mg.K1)) seq ([]))
def cm.K1  : List aV:=[]
def cm.L1(m:List (OSeat×aA))(aI:Int)(k:List aV):List OSeat->List aV
 |[]=>(k)
 |y1::rz1=>(bif((y1.aI==aI)&&(!((mgetD m y1 (aA.mk 0 0 0 0 0 0 false)).mU)))then((aV.mk ((mgetD m y1 (aA.mk 0 0 0 0 0 0 false)).bw) ((mgetD m y1 (aA.mk 0 0 0 0 0 0 false)).fD))::(cm.L1 m aI k rz1))else(cm.L1 m aI k rz1))
def cm(m:List (OSeat×aA))(aI:Int):List aV:=((cm.L1 m aI (cm.K1)) (seatS (m.map Prod.fst)))
def nE(m:List (OSeat×aA))(aI:Int):List aV:=(cm m aI)
def jh(l:List aA)(aI:Int)(aT:Int)(ad:Int):(List aV×Int):=(bif((du l) != 0)then([],(du l))else(bif(((!(gl aI))||(!(fQ aT)))||(!(fQ ad)))then([],1)else((ll (nE (gj l aT ad) aI)),0)))
def dL.K1(m8:Int):Bool:=true
def dL.L1(k:Int->Bool):List Int->Int->Bool
 |[],m8=>(k m8)
 |y1::rz1,m8=>(bif(decide (y1<=m8)||decide (64<=y1))then false else(dL.L1  k rz1 y1))
def dL(gv:List Int):Bool:=((dL.L1 (dL.K1)) gv (-1))
def dg.L2(k:List Int->Bool):List aV->List Int->Bool
 |[],QO=>(k QO)
 |y2::rz2,QO=>(bif(decide (y2.fD<1)||decide (64<y2.fD))then false else(dg.L2  k rz2 (QO++[y2.bw])))
def dg.L3(k:List Int->Bool):List aV->List Int->Bool
 |[],K7=>(k K7)
 |y3::rz3,K7=>(bif(decide (y3.fD<1)||decide (64<y3.fD))then false else(dg.L3  k rz3 (K7++[y3.bw])))
def dg.K1(bh:List (List aV))(aF:Int):Bool:=((bh.length:Int)==aF)
def dg.L1(k:Bool):List (List aV)->Bool
 |[]=>(k)
 |y1::rz1=>((dg.L3 (λzg3_7=>(bif(!(dL zg3_7))then false else(dg.L1  k rz1)))) y1 ([]))
def dg(bh:List (List aV))(aF:Int):Bool:=((dg.L1 (dg.K1 bh aF)) bh)
def eF.K1  : List aV:=[]
def eF.L1(q:ba)(k:List aV):List aV->List aV
 |[]=>(k)
 |y1::rz1=>(bif((slices_BinarySearch_int q.gv y1.bw).2)then(y1::(eF.L1 q k rz1))else(eF.L1 q k rz1))
def eF(q:ba)(aI:Int):List aV:=((eF.L1 q (eF.K1)) (nthI q.bh aI))
def kX(q:ba)(aI:Int):List aV:=(eF q aI)
def fp.K1(cT:Bool):Bool:=false
def fp.L1(k:Bool->Bool):List aV->Bool->Bool
 |[],cT=>k cT
 |y1::rz1,cT=>true
def fp(q:ba)(x:ai):Bool:=((fp.L1 (fp.K1)) (kX q x.No) false)
def dA.K1(x:ai)(cT:Int):Bool:=decide (x.N<=cT)
def dA.L1(k:Int->Bool):List aV->Int->Bool
 |[],cT=>k cT
 |y1::rz1,cT=>(dA.L1 k rz1 (jD .i64 (cT+y1.fD)))
def dA(q:ba)(x:ai):Bool:=((dA.L1 (dA.K1 x)) (kX q x.No) 0)
def eS.K1(x:ai)(gL:Int):Bool:=decide (x.N<=gL)
def eS.L1(rec:ba->ai->Bool)(q:ba)(k:Int->Bool):List ai->Int->Bool
 |[],gL=>(k gL)
 |y1::rz1,gL=>(bif(rec q y1)then(eS.L1 rec q k rz1 (jD .i64 (gL+1)))else(eS.L1 rec q k rz1 gL))
def eS.F(rec:ba->ai->Bool)(q:ba)(x:ai):Bool:=((eS.L1 rec q (eS.K1 x)) x.L 0)
def ml.F(rec:ba->ai->Bool)(q:ba)(x:ai):Bool:=(bif(decide (q.value<=x.N))then(rec q (nthI x.L 0))else(rec q (nthI x.L 1)))
def fulQ(rec:ba->ai->Bool)(q:ba)(x:ai):Bool:=if x.Kind=1 then fp q x else if x.Kind=2 then dA q x else if x.Kind=3 then eS.F rec q x else ml.F rec q x
def dM.F(rec:ba->ai->Bool)(q:ba)(x:ai):Bool:=(fulQ rec q x)
def dM.go:Nat->ba->ai->Bool
 |0=>λ_ _=>default
 |m+1=>dM.F (dM.go m)
def dM(q:ba)(x:ai):Bool:=dM.go x.dep q x
def me(p:aw)(kind:Int)(value:Int)(bh:List (List aV))(gv:List Int):(Bool×Int):=(bif((dF p) != 0)then(false,(dF p))else(bif(((decide (kind<0)||decide ((p.ey.length:Int)<=kind))||decide (value<0))||decide (1099511627776<value))then(false,1)else(bif(!(dg bh (p.aD.length:Int)))then(false,210)else(bif(!(dL gv))then(false,1)else((dM (ba.mk value bh gv) ((nthI p.dt kind).ai)),0)))))
def eo.K1(c:bZ)(p:aw)(gv:List Int)(ph:List (List aV)):Bool:=((me p c.bD.Kind c.bD.Value ph gv).1&&((me p c.bD.Kind c.bD.Value ph gv).2==0))
def eo.L1(c:bZ)(k:(List (List aV))->Bool):List ByteArray->Nat->(List (List aV))->Bool
 |[],i1,ph=>(k ph)
 |y1::rz1,i1,ph=>(eo.L1 c k rz1 (i1+1) (ph++[(jh c.Register.fj (i1:Int) c.at_ c.ad).1]))
def eo(c:bZ)(p:aw)(gv:List Int):Bool:=((eo.L1 c (eo.K1 c p gv)) p.aD 0 ([]))
def lq(mode:Int)(permits:List Bool):Int:=(bif(!(mhas lx mode))then 270 else(bif(decide (256<(permits.length:Int)))then 1 else 0))
def fo.K1  : Int:=(-1)
def fo.L1(f:(Bool->Bool))(k:Int):List Bool->Nat->Int
 |[],i1=>(k)
 |y1::rz1,i1=>(bif(f y1)then(i1:Int)else(fo.L1 f k rz1 (i1+1)))
def fo(s:List Bool)(f:(Bool->Bool)):Int:=((fo.L1 f (fo.K1)) s 0)
def jx(l:List Bool)(ok:(Bool->Bool)):Int:=(fo l ok)
def m4(Oa:Bool):Bool:=Oa
def nH(Oa:Bool):Bool:=(!Oa)
def bH.K1(permits:List Bool)(UR:List Int):(List Int×Bool×Int):=(UR,decide (0<=(jx permits m4)),0)
def bH.L1(k:List Int->(List Int×Bool×Int)):List Bool->Nat->List Int->(List Int×Bool×Int)
 |[],i1,UR=>(k UR)
 |y1::rz1,i1,UR=>(bH.L1  k rz1 (i1+1) (UR++[(i1:Int)]))
def bH.K2(permits:List Bool)(UK:List Int):(List Int×Bool×Int):=(UK,(((permits.length:Int)==1)&&(nthI permits 0)),0)
def bH.L2(k:List Int->(List Int×Bool×Int)):List Bool->Nat->List Int->(List Int×Bool×Int)
 |[],i2,UK=>(k UK)
 |y2::rz2,i2,UK=>(bH.L2  k rz2 (i2+1) (UK++[(i2:Int)]))
def bH.K3(UI:List Int):(List Int×Bool×Int):=(UI,false,0)
def bH.L3(k:List Int->(List Int×Bool×Int)):List Bool->Nat->List Int->(List Int×Bool×Int)
 |[],i3,UI=>(k UI)
 |y3::rz3,i3,UI=>(bH.L3  k rz3 (i3+1) (UI++[(i3:Int)]))
def bH(mode:Int)(permits:List Bool):(List Int×Bool×Int):=(bif((lq mode permits) != 0)then([],false,(lq mode permits))else(bif((mode==4)&&decide (0<=(jx permits m4)))then([(jx permits m4)],true,0)else(bif((mode==3)&&decide (0<=(jx permits nH)))then([(jx permits nH)],false,0)else(bif(mode==3)then((bH.L1 (bH.K1 permits)) permits 0 ([]))else(bif(mode != 4)then((bH.L2 (bH.K2 permits)) permits 0 ([]))else((bH.L3 (bH.K3)) permits 0 ([])))))))
def ip(mode:Int)(permits:List Bool):(Bool×Int):=((bH mode permits).2.1,(bH mode permits).2.2)
def askJ(c:bZ):List Int×Int×Int:=aN c.Register.Versions c.bD.At c.at_ c.ad
def askP(c:bZ)(no:Int):aw:=exD (gm c no)
def askWho(c:bZ)(no:Int):List Int:=cZ c (askP c no)
def askAns(c:bZ)(no:Int):Bool:=eo c (askP c no) (askWho c no)
def askAll(c:bZ):List Int:=slices_Compact_int (sortI ((askJ c).1.flatMap (askWho c)))
def gB(c:bZ):Bool:=bif(askJ c).2.1==0 then false else(ip (askJ c).2.1 ((askJ c).1.map (askAns c))).1
abbrev verO(s0 b0:Int)(vb:Option Addr)(vn vc:Nat)(wb:Option Addr)(wn wc:Nat):Obj:=.cells (vB [.int .i64 s0,.int .i64 b0,.slice vb vn vc,.slice wb wn wc]) 36 (0,0)
def judgeRoom(c:bZ)(r:Register)(u:List Use)(at_ ad:Int):Int×Bool×Int:=bo r.fF u c.bD.Kind c.bD.Value at_ ad
def judgeC(c:bZ)(r:Register)(signed:List Int)(u:List Use)(at_ ad:Int):dT:=
 bif iy c signed then⟨1,-1,[],[]⟩else bif ki c signed then⟨2,-1,[],[]⟩else bif !(gB c)then⟨3,-1,(askJ c).1,askAll c⟩else
 bif !(judgeRoom c r u at_ ad).2.1 then⟨4,(judgeRoom c r u at_ ad).1,(askJ c).1,askAll c⟩else⟨0,-1,(askJ c).1,askAll c⟩
def da(bK:Register)(signed:List Int)(u:List Use)(bD:Int)(dh:Int)(ad:Int):dT×Int:=
 bif cQ bK != 0 then(⟨0,0,[],[]⟩,cQ bK)else
 bif(bR bK.cj signed 0).2 != 0 then(⟨0,0,[],[]⟩,(bR bK.cj signed 0).2)else
 bif(bo bK.fF u 0 0 0 0).2.2 != 0 then(⟨0,0,[],[]⟩,(bo bK.fF u 0 0 0 0).2.2)else
 match nr bK bD dh ad with
  |.error e=>(⟨0,0,[],[]⟩,e)
  |.ok c=>(judgeC c bK signed u dh ad,0)
def cL  : aw:=(aw.mk (⟨#[98,111,97,114,100]⟩:ByteArray) ([(⟨#[99,111,110,116,114,97,99,116]⟩:ByteArray)]) ([(⟨#[100,105,114,101,99,116,111,114]⟩:ByteArray)]) ([(fI.mk (⟨#[99,111,110,116,114,97,99,116]⟩:ByteArray) 0 3 (ai.mk 1 0 0 (⟨#[100,105,114,101,99,116,111,114]⟩:ByteArray) ([])))]) (ai.mk 1 0 0 (⟨#[100,105,114,101,99,116,111,114]⟩:ByteArray) ([])) 2)
def aQ  : Register:=(kM ([(aA.mk 0 0 0 0 2 1 false)]) ([(aE.mk 0 0 0 40 2 5 0 (-1) 100 false)]) ([]) ([]) ([(aC.mk 1 0 0 cL)]) ([(aj.mk 7 1 0 60 0 50 ([9]) ([]) ([]) (λ_=>0))]) ([(ae.mk 3 4 6 7 5 2 0 false)]))
def iv.K1  : Bool:=true
def iv.L1(mR:List Int)(k:Bool):List Int->Nat->Bool
 |[],i1=>(k)
 |y1::rz1,i1=>(bif(y1 != (nthI mR (i1:Int)))then false else(iv.L1 mR k rz1 (i1+1)))
def iv(a:List Int)(mR:List Int):Bool:=(bif((a.length:Int) != (mR.length:Int))then false else((iv.L1 mR (iv.K1)) a 0))
def Pr(bK:Register)(eB:Int)(state:Int):Bool:=(((da bK ([(-1)]) ([]) 7 eB 100).2==0)&&(((da bK ([(-1)]) ([]) 7 eB 100).1).State==state))
def yO  : Bool:=true
def iD.K1(gL:Int):Int:=gL
def iD.L1(rec:ai->Int->Int)(ew:Int)(k:Int->Int):List ai->Int->Int
 |[],gL=>(k gL)
 |y1::rz1,gL=>(bif(decide (gL<=ew))then(iD.L1 rec ew k rz1 (jD .i64 (gL+(rec y1 (jD .i64 (ew-gL))))))else(k gL))
def iD.F(rec:ai->Int->Int)(x:ai)(ew:Int):Int:=((iD.L1 rec ew (iD.K1)) x.L 1)
def iD.go:Nat->ai->Int->Int
 |0=>λ_ _=>default
 |m+1=>iD.F (iD.go m)
def iD(x:ai)(ew:Int):Int:=iD.go x.dep x ew
def eW.L2(k:Bool):List fI->Bool
 |[]=>(k)
 |y2::rz2=>(bif(decide (40<(iD y2.ai 40)))then false else(eW.L2  k rz2))
def eW.L3(k:Bool):List fI->Bool
 |[]=>(k)
 |y3::rz3=>(bif(decide (40<(iD y3.ai 40)))then false else(eW.L3  k rz3))
def eW.K1  : Bool:=true
def eW.L1(k:Bool):List aC->Bool
 |[]=>(k)
 |y1::rz1=>(bif(((decide (20<(y1.aw.ey.length:Int))||decide (40<(y1.aw.aD.length:Int)))||decide (20<(y1.aw.dt.length:Int)))||decide (40<(iD y1.aw.aP 40)))then false else((eW.L3 ((eW.L1  k rz1))) y1.aw.dt))
def eW(l:List aC):Bool:=(bif(decide (5<(l.length:Int)))then false else((eW.L1 (eW.K1)) l))
def mq.K1  : Bool:=true
def mq.L1(k:Bool):List aj->Bool
 |[]=>(k)
 |y1::rz1=>(bif((decide (20<(y1.nz.length:Int))||decide (20<(y1.eX.length:Int)))||decide (20<(y1.eQ.length:Int)))then false else(mq.L1  k rz1))
def mq(bK:Register):Bool:=(bif((((((decide (30<(bK.fj.length:Int))||decide (12<(bK.dY.length:Int)))||decide (12<(bK.gu.length:Int)))||decide (12<(bK.fF.length:Int)))||decide (8<(bK.cj.length:Int)))||decide (24<(bK.bS.length:Int)))||(!(eW bK.Versions)))then false else((mq.L1 (mq.K1)) bK.cj))
def mt(ir:Int):Bool:=(decide (0<=ir)&&decide (ir<1099511627776))
def mO(ir:Int):Bool:=(decide (0<=ir)&&decide (ir<32))
def oZ(ir:Int):Bool:=(decide (0<=ir)&&decide (ir<64))
def oF(x:aA):Bool:=(bif(((((decide (x.No<0)||decide (1048576<x.No))||(!(mt x.At)))||(!(mt x.eH)))||(!(mO x.dQ)))||(!(oZ x.bw)))then false else(bif x.mU then(x.fD==0)else(decide (1<=x.fD)&&decide (x.fD<=64))))
def iH.K1  : Int:=0
def iH.L1(l:List aA)(k:Int):List aA->Nat->Int
 |[],i1=>(k)
 |y1::rz1,i1=>(bif((!(oF y1))||(decide (0<(i1:Int))&&decide (y1.No<=(nthI l ((i1:Int)-1)).No)))then 150 else(iH.L1 l k rz1 (i1+1)))
def iH(l:List aA):Int:=(bif(decide (4096<(l.length:Int)))then 2 else((iH.L1 l (iH.K1)) l 0))
def gE(ir:Int)(low:Int)(high:Int):Bool:=(decide (low<=ir)&&decide (ir<=high))
def oX(ir:Int):Bool:=(gE ir 0 1099511627775)
def nk(ir:Int):Bool:=(gE ir 0 63)
def oE(x:aE):Bool:=(bif((((((!(gE x.No 0 1048576))||(!(oX x.At)))||(!(oX x.eH)))||(!(nk x.From)))||(!(nk x.To)))||(x.From==x.To))then false else(bif((!(gE x.dQ 0 31))||(!(gE x.Kind (-1) 15)))then false else(bif x.mU then((x.nS==0)&&(x.N5==0))else((decide (x.At<x.nS)&&decide (x.nS<=1099511627776))&&(gE x.N5 0 1099511627776)))))
def jd.K1  : Int:=0
def jd.L1(l:List aE)(k:Int):List aE->Nat->Int
 |[],i1=>(k)
 |y1::rz1,i1=>(bif((!(oE y1))||(decide (0<(i1:Int))&&decide (y1.No<=(nthI l ((i1:Int)-1)).No)))then 160 else(jd.L1 l k rz1 (i1+1)))
def jd(l:List aE):Int:=(bif(decide (4096<(l.length:Int)))then 2 else((jd.L1 l (jd.K1)) l 0))
def oU(t:Int):Bool:=(decide (0<=t)&&decide (t<1099511627776))
def nM(ir:Int):Bool:=(decide (0<=ir)&&decide (ir<=1048576))
def qj(ir:Int):Bool:=(decide (0<=ir)&&decide (ir<64))
def oB(x:av):Bool:=(bif((((decide (x.No<0)||decide (1048576<x.No))||(!(oU x.At)))||(!(oU x.eH)))||(!(nM x.eG)))then false else(bif x.Of then((nM x.bw)&&(x.bw != x.eG))else(qj x.bw)))
def iS.K1  : Int:=0
def iS.L1(l:List av)(k:Int):List av->Nat->Int
 |[],i1=>(k)
 |y1::rz1,i1=>(bif((!(oB y1))||(decide (0<(i1:Int))&&decide (y1.No<=(nthI l ((i1:Int)-1)).No)))then 290 else(iS.L1 l k rz1 (i1+1)))
def iS(l:List av):Int:=(bif(decide (4096<(l.length:Int)))then 2 else((iS.L1 l (iS.K1)) l 0))
def ie(ir:Int)(least:Int)(most:Int):Bool:=(decide (least<=ir)&&decide (ir<=most))
def jg(ir:Int):Bool:=(decide (0<=ir)&&decide (ir<1099511627776))
def oD(x:Budget):Bool:=(bif(((((!(ie x.No 0 1048576))||(!(jg x.At)))||(!(jg x.eH)))||(!(ie x.Kind (-1) 15)))||(!(ie x.mH 1 1099511627776)))then false else(bif x.mU then((x.Count==0)&&(x.Value==0))else((ie x.Count 0 1048576)&&(ie x.Value 0 1099511627776))))
def iE.K1  : Int:=0
def iE.L1(l:List Budget)(k:Int):List Budget->Nat->Int
 |[],i1=>(k)
 |y1::rz1,i1=>(bif((!(oD y1))||(decide (0<(i1:Int))&&decide (y1.No<=(nthI l ((i1:Int)-1)).No)))then 180 else(iE.L1 l k rz1 (i1+1)))
def iE(l:List Budget):Int:=(bif(decide (4096<(l.length:Int)))then 2 else((iE.L1 l (iE.K1)) l 0))
def nq(ir:Int):Bool:=(decide (0<=ir)&&decide (ir<1099511627776))
def dW.K1(gL:Int):Int:=gL
def dW.L1(rec:ai->Int->Int)(ew:Int)(k:Int->Int):List ai->Int->Int
 |[],gL=>(k gL)
 |y1::rz1,gL=>(bif(decide (gL<=ew))then(dW.L1 rec ew k rz1 (jD .i64 (gL+(rec y1 (jD .i64 (ew-gL))))))else(k gL))
def dW.F(rec:ai->Int->Int)(x:ai)(ew:Int):Int:=((dW.L1 rec ew (dW.K1)) x.L 1)
def dW.go:Nat->ai->Int->Int
 |0=>λ_ _=>default
 |m+1=>dW.F (dW.go m)
def dW(x:ai)(ew:Int):Int:=dW.go x.dep x ew
def bI.K1(m8:Int):Int:=(jD .i64 (m8+1))
def bI.L1(rec:ai->Int)(k:Int->Int):List ai->Int->Int
 |[],m8=>(k m8)
 |y1::rz1,m8=>(bI.L1 rec k rz1 (max m8 (rec y1)))
def bI.F(rec:ai->Int)(x:ai):Int:=((bI.L1 rec (bI.K1)) x.L 0)
def bI.go:Nat->ai->Int
 |0=>λ_=>default
 |m+1=>bI.F (bI.go m)
def bI(x:ai):Int:=bI.go x.dep x
def mX(x:ai):Bool:=(decide (256<(dW x 256))||decide (16<(bI x)))
def fN.K1  : Bool:=false
def fN.L1(k:Bool):List fI->Bool
 |[]=>(k)
 |y1::rz1=>(bif(mX y1.ai)then true else(fN.L1  k rz1))
def fN(p:aw):Bool:=(bif(((decide (32<(p.aD.length:Int))||decide (16<(p.ey.length:Int)))||decide (16<(p.dt.length:Int)))||(mX p.aP))then true else((fN.L1 (fN.K1)) p.dt))
def o9(c:Int):Bool:=((decide (97<=c)&&decide (c<=122))||(decide (65<=c)&&decide (c<=90)))
def uA(c:Int):Bool:=(decide (48<=c)&&decide (c<=57))
def vl(c:Int):Bool:=(((o9 c)||(uA c))||(c==95))
def kx.K1  : Bool:=true
def kx.L1(s:ByteArray)(k:Bool):List Nat->Nat->Bool
 |[],i1=>(k)
 |y1::rz1,i1=>(bif(!(vl ((s.data.getD ((i1:Int):Int).toNat 0).toNat:Int)))then false else(kx.L1 s k rz1 (i1+1)))
def kx(s:ByteArray):Bool:=(bif((decide ((s.size:Int)<1)||decide (32<(s.size:Int)))||(!(o9 ((s.data.getD (0:Int).toNat 0).toNat:Int))))then false else((kx.L1 s (kx.K1)) (xF s.size) 0))
def vj(s:ByteArray):Bool:=(bif(s.toList==(⟨#[112,111,108,105,99,121]⟩:ByteArray).toList)then(bif(s.toList==(⟨#[112,111,108,105,99,121]⟩:ByteArray).toList)then true else false)else(bif(s.toList==(⟨#[109,111,100,101]⟩:ByteArray).toList)then(bif(s.toList==(⟨#[109,111,100,101]⟩:ByteArray).toList)then true else false)else(bif(s.toList==(⟨#[111,108,100]⟩:ByteArray).toList)then(bif(s.toList==(⟨#[111,108,100]⟩:ByteArray).toList)then true else false)else(bif(s.toList==(⟨#[110,101,119]⟩:ByteArray).toList)then(bif(s.toList==(⟨#[110,101,119]⟩:ByteArray).toList)then true else false)else(bif(s.toList==(⟨#[98,111,116,104]⟩:ByteArray).toList)then(bif(s.toList==(⟨#[98,111,116,104]⟩:ByteArray).toList)then true else false)else(bif(s.toList==(⟨#[101,105,116,104,101,114]⟩:ByteArray).toList)then(bif(s.toList==(⟨#[101,105,116,104,101,114]⟩:ByteArray).toList)then true else false)else(bif(s.toList==(⟨#[111,102,102,105,99,101]⟩:ByteArray).toList)then(bif(s.toList==(⟨#[111,102,102,105,99,101]⟩:ByteArray).toList)then true else false)else(bif(s.toList==(⟨#[107,105,110,100]⟩:ByteArray).toList)then(bif(s.toList==(⟨#[107,105,110,100]⟩:ByteArray).toList)then true else false)else(bif(s.toList==(⟨#[114,117,108,101]⟩:ByteArray).toList)then(bif(s.toList==(⟨#[114,117,108,101]⟩:ByteArray).toList)then true else false)else(bif(s.toList==(⟨#[116,104,105,110,107]⟩:ByteArray).toList)then(bif(s.toList==(⟨#[116,104,105,110,107]⟩:ByteArray).toList)then true else false)else(bif(s.toList==(⟨#[99,104,97,110,103,101]⟩:ByteArray).toList)then(bif(s.toList==(⟨#[99,104,97,110,103,101]⟩:ByteArray).toList)then true else false)else(bif(s.toList==(⟨#[115,111,109,101]⟩:ByteArray).toList)then(bif(s.toList==(⟨#[115,111,109,101]⟩:ByteArray).toList)then true else false)else(bif(s.toList==(⟨#[119,101,105,103,104,116]⟩:ByteArray).toList)then(bif(s.toList==(⟨#[119,101,105,103,104,116]⟩:ByteArray).toList)then true else false)else(bif(s.toList==(⟨#[111,102]⟩:ByteArray).toList)then(bif(s.toList==(⟨#[111,102]⟩:ByteArray).toList)then true else false)else(bif(s.toList==(⟨#[117,112,116,111]⟩:ByteArray).toList)then(bif(s.toList==(⟨#[117,112,116,111]⟩:ByteArray).toList)then true else false)else(bif(s.toList==(⟨#[101,108,115,101]⟩:ByteArray).toList)then true else false))))))))))))))))
def pV(s:ByteArray):Bool:=((kx s)&&(!(vj s)))
def gf.K1  : Int:=(-1)
def gf.L1(s:ByteArray)(k:Int):List ByteArray->Nat->Int
 |[],i1=>(k)
 |y1::rz1,i1=>(bif(y1.toList==s.toList)then(i1:Int)else(gf.L1 s k rz1 (i1+1)))
def gf(l:List ByteArray)(s:ByteArray):Int:=((gf.L1 s (gf.K1)) l 0)
def fP.K1  : Bool:=true
def fP.L1(l:List ByteArray)(k:Bool):List ByteArray->Nat->Bool
 |[],i1=>(k)
 |y1::rz1,i1=>(bif((!(pV y1))||((gf l y1) != (i1:Int)))then false else(fP.L1 l k rz1 (i1+1)))
def fP(l:List ByteArray):Bool:=((fP.L1 l (fP.K1)) l 0)
def cq.K1  : Bool:=true
def cq.L1(rec:List ByteArray->ai->Bool)(aF:List ByteArray)(k:Bool):List ai->Bool
 |[]=>(k)
 |y1::rz1=>(bif(!(rec aF y1))then false else(cq.L1 rec aF k rz1))
def cq.F(rec:List ByteArray->ai->Bool)(aF:List ByteArray)(x:ai):Bool:=(bif(((x.Kind==1)||(x.Kind==2))&&decide ((gf aF x.Name)<0))then false else((cq.L1 rec aF (cq.K1)) x.L))
def cq.go:Nat->List ByteArray->ai->Bool
 |0=>λ_ _=>default
 |m+1=>cq.F (cq.go m)
def cq(aF:List ByteArray)(x:ai):Bool:=cq.go x.dep aF x
def jc.K1(p:aw):Bool:=(cq p.aD p.aP)
def jc.L1(p:aw)(k:Bool):List fI->Bool
 |[]=>(k)
 |y1::rz1=>(bif(!(cq p.aD y1.ai))then false else(jc.L1 p k rz1))
def jc(p:aw):Bool:=(bif(((!(pV p.Name))||(!(fP p.aD)))||(!(fP p.ey)))then false else((jc.L1 p (jc.K1 p)) p.dt))
def aO.K1(x:ai)(upto:Bool):Bool:=(bif(x.Kind==1)then((x.N==0)&&((x.L.length:Int)==0))else(bif(x.Kind==2)then((decide (1<=x.N)&&decide (x.N<=4096))&&((x.L.length:Int)==0))else(bif(x.Kind==3)then(((((x.Name.toList==(⟨#[]⟩:ByteArray).toList)&&decide (1<=(x.L.length:Int)))&&decide ((x.L.length:Int)<=16))&&decide (1<=x.N))&&decide (x.N<=(x.L.length:Int)))else(bif(x.Kind==4)then((((upto&&(x.Name.toList==(⟨#[]⟩:ByteArray).toList))&&((x.L.length:Int)==2))&&decide (0<=x.N))&&decide (x.N<=1099511627776))else false))))
def aO.L1(rec:ai->Bool->Bool)(upto:Bool)(k:Bool):List ai->Bool
 |[]=>(k)
 |y1::rz1=>(bif(!(rec y1 upto))then false else(aO.L1 rec upto k rz1))
def aO.F(rec:ai->Bool->Bool)(x:ai)(upto:Bool):Bool:=((aO.L1 rec upto (aO.K1 x upto)) x.L)
def aO.go:Nat->ai->Bool->Bool
 |0=>λ_ _=>default
 |m+1=>aO.F (aO.go m)
def aO(x:ai)(upto:Bool):Bool:=aO.go x.dep x upto
def ic.K1(p:aw):Bool:=(aO p.aP false)
def ic.L1(p:aw)(k:Bool):List fI->Nat->Bool
 |[],i1=>(k)
 |y1::rz1,i1=>(bif((((!(y1.Kind.toList==(nthI p.ey (i1:Int)).toList))||decide (y1.iJ<0))||decide (1099511627776<=y1.iJ))||(!(aO y1.ai true)))then false else(ic.L1 p k rz1 (i1+1)))
def ic(p:aw):Bool:=(bif(((decide ((p.ey.length:Int)<1)||((p.dt.length:Int) != (p.ey.length:Int)))||decide (p.Mode<1))||decide (4<p.Mode))then false else((ic.L1 p (ic.K1 p)) p.dt 0))
def ao.K1(aF:List ByteArray)(x:ai)(od:List ai):ai:=(ai.mk x.Kind x.N (gf aF x.Name) x.Name od)
def ao.L1(rec:List ByteArray->ai->ai)(aF:List ByteArray)(k:List ai->ai):List ai->List ai->ai
 |[],od=>(k od)
 |y1::rz1,od=>(ao.L1 rec aF k rz1 (od++[(rec aF y1)]))
def ao.K2(x:ai)(oa:List ai):ai:=(ai.mk x.Kind x.N 0 x.Name oa)
def ao.L2(rec:List ByteArray->ai->ai)(aF:List ByteArray)(k:List ai->ai):List ai->List ai->ai
 |[],oa=>(k oa)
 |y2::rz2,oa=>(ao.L2 rec aF k rz2 (oa++[(rec aF y2)]))
def ao.F(rec:List ByteArray->ai->ai)(aF:List ByteArray)(x:ai):ai:=(bif((x.Kind==1)||(x.Kind==2))then((ao.L1 rec aF (ao.K1 aF x)) x.L ([]))else((ao.L2 rec aF (ao.K2 x)) x.L ([])))
def ao.go:Nat->List ByteArray->ai->ai
 |0=>λ_ _=>default
 |m+1=>ao.F (ao.go m)
def ao(aF:List ByteArray)(x:ai):ai:=ao.go x.dep aF x
def eM.K1(p:aw)(oe:List fI):(aw×Int):=((aw.mk p.Name p.ey p.aD oe (ai.mk ((ao p.aD p.aP).Kind) ((ao p.aD p.aP).N) ((ao p.aD p.aP).No) ((ao p.aD p.aP).Name) ((ao p.aD p.aP).L)) p.Mode),0)
def eM.L1(p:aw)(k:List fI->(aw×Int)):List fI->Nat->List fI->(aw×Int)
 |[],i1,oe=>(k oe)
 |y1::rz1,i1,oe=>(eM.L1 p k rz1 (i1+1) (oe++[(fI.mk y1.Kind (i1:Int) y1.iJ (ai.mk ((ao p.aD y1.ai).Kind) ((ao p.aD y1.ai).N) ((ao p.aD y1.ai).No) ((ao p.aD y1.ai).Name) ((ao p.aD y1.ai).L)))]))
def eM(p:aw):(aw×Int):=(bif(fN p)then((aw.mk (⟨#[]⟩:ByteArray) ([]) ([]) ([]) (ai.mk 0 0 0 (⟨#[]⟩:ByteArray) ([])) 0),2)else(bif(!(jc p))then((aw.mk (⟨#[]⟩:ByteArray) ([]) ([]) ([]) (ai.mk 0 0 0 (⟨#[]⟩:ByteArray) ([])) 0),201)else(bif(!(ic p))then((aw.mk (⟨#[]⟩:ByteArray) ([]) ([]) ([]) (ai.mk 0 0 0 (⟨#[]⟩:ByteArray) ([])) 0),200)else((eM.L1 p (eM.K1 p)) p.dt 0 ([])))))
def gx.K1  : Bool:=true
def gx.L1(mR:List ByteArray)(k:Bool):List ByteArray->Nat->Bool
 |[],i1=>(k)
 |y1::rz1,i1=>(bif(!(y1.toList==(nthI mR (i1:Int)).toList))then false else(gx.L1 mR k rz1 (i1+1)))
def gx(a:List ByteArray)(mR:List ByteArray):Bool:=(bif((a.length:Int) != (mR.length:Int))then false else((gx.L1 mR (gx.K1)) a 0))
def bA.K1  : Bool:=true
def bA.L1(rec:ai->ai->Bool)(mR:ai)(k:Bool):List ai->Nat->Bool
 |[],i1=>(k)
 |y1::rz1,i1=>(bif(!(rec y1 (nthI mR.L (i1:Int))))then false else(bA.L1 rec mR k rz1 (i1+1)))
def bA.F(rec:ai->ai->Bool)(a:ai)(mR:ai):Bool:=(bif(((((a.Kind != mR.Kind)||(a.N != mR.N))||(a.No != mR.No))||(!(a.Name.toList==mR.Name.toList)))||((a.L.length:Int) != (mR.L.length:Int)))then false else((bA.L1 rec mR (bA.K1)) a.L 0))
def bA.go:Nat->ai->ai->Bool
 |0=>λ_ _=>default
 |m+1=>bA.F (bA.go m)
def bA(a:ai)(mR:ai):Bool:=bA.go a.dep a mR
def jO.K1  : Bool:=true
def jO.L1(mR:aw)(k:Bool):List fI->Nat->Bool
 |[],i1=>(k)
 |y1::rz1,i1=>(bif((((!(y1.Kind.toList==(nthI mR.dt (i1:Int)).Kind.toList))||(y1.BC != (nthI mR.dt (i1:Int)).BC))||(y1.iJ != (nthI mR.dt (i1:Int)).iJ))||(!(bA y1.ai ((nthI mR.dt (i1:Int)).ai))))then false else(jO.L1 mR k rz1 (i1+1)))
def jO(a:aw)(mR:aw):Bool:=(bif((((((!(a.Name.toList==mR.Name.toList))||(a.Mode != mR.Mode))||(!(gx a.aD mR.aD)))||(!(gx a.ey mR.ey)))||((a.dt.length:Int) != (mR.dt.length:Int)))||(!(bA a.aP mR.aP)))then false else((jO.L1 mR (jO.K1)) a.dt 0))
def ma(p:aw):Int:=(bif((eM p).2 != 0)then(eM p).2 else(bif(!(jO ((eM p).1) p))then 200 else 0))
def dE.K1  : Int:=0
def dE.L1(l:List aC)(k:Int):List aC->Nat->Int
 |[],i1=>(k)
 |y1::rz1,i1=>(bif(((((decide (y1.No<0)||decide (1048576<y1.No))||(decide (0<(i1:Int))&&decide (y1.No<=(nthI l ((i1:Int)-1)).No)))||(!(nq y1.At)))||(!(nq y1.eH)))||((ma y1.aw) != 0))then 200 else(dE.L1 l k rz1 (i1+1)))
def dE(l:List aC):Int:=(bif(decide (256<(l.length:Int)))then 2 else((dE.L1 l (dE.K1)) l 0))
def mr(t:Int):Bool:=(decide (0<=t)&&decide (t<1099511627776))
def gI.K1(l:List Int):Bool:=decide ((l.length:Int)<=16)
def gI.L1(l:List Int)(ew:Int)(k:Bool):List Int->Nat->Bool
 |[],i1=>(k)
 |y1::rz1,i1=>(bif((decide (y1<0)||decide (ew<=y1))||(decide (0<(i1:Int))&&decide (y1<=(nthI l ((i1:Int)-1)))))then false else(gI.L1 l ew k rz1 (i1+1)))
def gI(l:List Int)(ew:Int):Bool:=((gI.L1 l ew (gI.K1 l)) l 0)
def nO(d:aj):Bool:=(bif((((((decide (d.No<0)||decide (4096<=d.No))||(!(mr d.At)))||decide (d.Kind<0))||decide (16<=d.Kind))||decide (d.Value<0))||decide (1099511627776<d.Value))then false else(((((decide (0<=d.From)&&decide (d.From<d.nS))&&decide (d.nS<=1099511627776))&&(gI d.nz 1048577))&&(gI d.eX d.No))&&(gI d.eQ d.No)))
def cD.K1  : Int:=(-1)
def cD.L1(no:Int)(k:Int):List aj->Nat->Int
 |[],i1=>(k)
 |y1::rz1,i1=>(bif(y1.No==no)then(i1:Int)else(cD.L1 no k rz1 (i1+1)))
def cD(l:List aj)(no:Int):Int:=((cD.L1 no (cD.K1)) l 0)
def gg.K1  : Bool:=true
def gg.L1(l:List aj)(k:Bool):List Int->Bool
 |[]=>(k)
 |y1::rz1=>(bif(decide ((cD l y1)<0))then false else(gg.L1 l k rz1))
def gg(l:List aj)(nos:List Int):Bool:=((gg.L1 l (gg.K1)) nos)
def dH.K1  : Int:=0
def dH.L1(l:List aj)(k:Int):List aj->Nat->Int
 |[],i1=>(k)
 |y1::rz1,i1=>(bif((((!(nO y1))||(decide (0<(i1:Int))&&decide (y1.No<=(nthI l ((i1:Int)-1)).No)))||(!(gg l y1.eX)))||(!(gg l y1.eQ)))then 170 else(dH.L1 l k rz1 (i1+1)))
def dH(l:List aj):Int:=(bif(decide (4096<(l.length:Int)))then 2 else((dH.L1 l (dH.K1)) l 0))
def kU(ir:Int)(most:Int):Bool:=(decide (0<=ir)&&decide (ir<=most))
def iO(ir:Int):Bool:=(kU ir 1099511627775)
def pA(ir:Int):Bool:=(kU ir 4095)
def oC(x:ae):Bool:=(bif((((!(kU x.No 1048576))||(!(iO x.At)))||(!(iO x.eH)))||(!(pA x.Doc)))then false else(((kU x.By 63)&&(kU x.For 63))&&(kU x.dQ 31)))
def gV.K1  : Int:=0
def gV.L1(l:List ae)(k:Int):List ae->Nat->Int
 |[],i1=>(k)
 |y1::rz1,i1=>(bif((!(oC y1))||(decide (0<(i1:Int))&&decide (y1.No<=(nthI l ((i1:Int)-1)).No)))then 280 else(gV.L1 l k rz1 (i1+1)))
def gV(l:List ae):Int:=(bif(decide (4096<(l.length:Int)))then 2 else((gV.L1 l (gV.K1)) l 0))
def ij(bK:Register):Int:=(bif(((((iH bK.fj) != 0)||((jd bK.dY) != 0))||((iS bK.gu) != 0))||((iE bK.fF) != 0))then 300 else(bif((((dE bK.Versions) != 0)||((dH bK.cj) != 0))||((gV bK.bS) != 0))then 300 else 0))
def cI.K1  : Int:=(-1)
def cI.L1(no:Int)(k:Int):List aj->Nat->Int
 |[],i1=>(k)
 |y1::rz1,i1=>(bif(y1.No==no)then(i1:Int)else(cI.L1 no k rz1 (i1+1)))
def cI(bK:Register)(no:Int):Int:=((cI.L1 no (cI.K1)) bK.cj 0)
def dq.K1(l:List aj)(signed:List Int):Bool:=((signed.length:Int)==(l.length:Int))
def dq.L1(k:Bool):List Int->Bool
 |[]=>(k)
 |y1::rz1=>(bif((y1 != (-1))&&(!(mr y1)))then false else(dq.L1  k rz1))
def dq(l:List aj)(signed:List Int):Bool:=((dq.L1 (dq.K1 l signed)) signed)
def eV.K1  : Bool:=false
def eV.L1(nA:Int)(k:Bool):List Int->Bool
 |[]=>(k)
 |y1::rz1=>(bif(y1==nA)then true else(eV.L1 nA k rz1))
def eV(l:List Int)(nA:Int):Bool:=((eV.L1 nA (eV.K1)) l)
def fg.K1(l:List aj)(ND:Int)(dh:Int):(Int×Int):=(bif(decide (dh<(nthI l ND).From))then(2,(-1))else(bif(decide ((nthI l ND).nS<=dh))then(3,(-1))else(0,(-1))))
def fg.L1(l:List aj)(done:List Int)(effective:List Bool)(ND:Int)(k:(Int×Int)):List aj->Nat->(Int×Int)
 |[],i1=>(k)
 |y1::rz1,i1=>(bif(((eV done (i1:Int))&&(nthI effective (i1:Int)))&&(eV y1.eX ((nthI l ND).No)))then(5,y1.No)else(fg.L1 l done effective ND k rz1 (i1+1)))
def fg(l:List aj)(done:List Int)(effective:List Bool)(ND:Int)(dh:Int):(Int×Int):=(bif(!(eV done ND))then(1,(-1))else(bif(!(nthI effective ND))then(4,(-1))else((fg.L1 l done effective ND (fg.K1 l ND dh)) l 0)))
def aX.L2(signed:List Int)(k:List Int):List Nat->Nat->List Int
 |[],i2=>(k)
 |y2::rz2,i2=>(bif(decide ((nthI signed 0)<(nthI signed (nthI ([]) (((0-(i2+1)):Nat):Int)))))then(aX.L2 signed k rz2 (i2+1))else(k))
def aX.L3(signed:List Int)(y1:Int)(gL:List Int)(k:Nat->List Int):List Nat->Nat->List Int
 |[],i3=>(k (i3))
 |y3::rz3,i3=>(bif(decide (y1<(nthI signed (nthI gL (((gL.length-(i3+1)):Nat):Int)))))then(aX.L3 signed y1 gL k rz3 (i3+1))else(k (i3)))
def aX.K1(gL:List Int):List Int:=gL
def aX.L1(signed:List Int)(eB:Int)(k:List Int->List Int):List Int->Nat->List Int->List Int
 |[],i1,gL=>(k gL)
 |y1::rz1,i1,gL=>(bif(decide (y1<0)||decide (eB<y1))then(aX.L1 signed eB k rz1 (i1+1) gL)else((aX.L3 signed y1 gL (λzi3=>(aX.L1 signed eB k rz1 (i1+1) (((gL.take (((((gL.length-zi3):Nat):Int):Int)).toNat)++[(i1:Int)])++(gL.drop (((((gL.length-zi3):Nat):Int):Int)).toNat))))) (xF gL.length) 0))
def aX(signed:List Int)(eB:Int):List Int:=((aX.L1 signed eB (aX.K1)) signed 0 ([]))
def bx.L3(l:List aj)(signed:List Int)(aT:Int)(k:List Int->List Int):List Nat->Nat->List Int->List Int
 |[],i3,vx=>(k vx)
 |y3::rz3,i3,vx=>(bif((fg l ((aX signed aT).take ((0:Int)).toNat) (List.replicate l.length false) (cD l (nthI ((nthI l (nthI (aX signed aT) 0)).eQ) ((((((nthI l (nthI (aX signed aT) 0)).eQ.length)-i3):Nat):Int)-1))) (nthI signed (nthI (aX signed aT) 0))).1 != 0)then(bx.L3 l signed aT k rz3 (i3+1) (vx.set ((nthI (aX signed aT) 0):Int).toNat (nthI ((nthI l (nthI (aX signed aT) 0)).eQ) ((((((nthI l (nthI (aX signed aT) 0)).eQ.length)-i3):Nat):Int)-1))))else(bx.L3 l signed aT k rz3 (i3+1) vx))
def bx.L4(l:List aj)(signed:List Int)(aT:Int)(i2:Nat)(y2:Int)(nX:List Bool)(k:List Int->List Int):List Nat->Nat->List Int->List Int
 |[],i4,sa=>(k sa)
 |y4::rz4,i4,sa=>(bif((fg l ((aX signed aT).take (((i2:Int):Int)).toNat) nX (cD l (nthI ((nthI l y2).eQ) ((((((nthI l y2).eQ.length)-i4):Nat):Int)-1))) (nthI signed y2)).1 != 0)then(bx.L4 l signed aT i2 y2 nX k rz4 (i4+1) (sa.set (y2:Int).toNat (nthI ((nthI l y2).eQ) ((((((nthI l y2).eQ.length)-i4):Nat):Int)-1))))else(bx.L4 l signed aT i2 y2 nX k rz4 (i4+1) sa))
def bx.K2(nX:List Bool)(ri:List Int):List Int:=ri
def bx.L2(l:List aj)(signed:List Int)(aT:Int)(k:List Bool->List Int->List Int):List Int->Nat->List Bool->List Int->List Int
 |[],i2,nX,ri=>(k nX ri)
 |y2::rz2,i2,nX,ri=>((bx.L4 l signed aT i2 y2 nX (λzg4_9=>(bx.L2 l signed aT k rz2 (i2+1) (nX.set (y2:Int).toNat (decide ((nthI zg4_9 y2)<0))) zg4_9))) (xF ((nthI l y2).eQ.length)) 0 ri)
def bx.K1(l:List aj)(signed:List Int)(aT:Int)(pw:List Int):List Int:=((bx.L2 l signed aT (bx.K2)) (aX signed aT) 0 (List.replicate l.length false) pw)
def bx.L1(k:List Int->List Int):List aj->List Int->List Int
 |[],pw=>(k pw)
 |y1::rz1,pw=>(bx.L1  k rz1 (pw++[(-1)]))
def bx(l:List aj)(signed:List Int)(aT:Int):List Int:=((bx.L1 (bx.K1 l signed aT)) l ([]))
def il.K1(l:List aj)(signed:List Int)(wj:Int)(aU:Int)(gZ:List Bool):(Int×Int):=(bif((fg l (aX signed aU) gZ wj aU).1==4)then((fg l (aX signed aU) gZ wj aU).1,(nthI (bx l signed aU) wj))else((fg l (aX signed aU) gZ wj aU).1,(fg l (aX signed aU) gZ wj aU).2))
def il.L1(l:List aj)(signed:List Int)(aU:Int)(k:List Bool->(Int×Int)):List aj->Nat->List Bool->(Int×Int)
 |[],i1,gZ=>(k gZ)
 |y1::rz1,i1,gZ=>(il.L1 l signed aU k rz1 (i1+1) (gZ++[decide ((nthI (bx l signed aU) (i1:Int))<0)]))
def il(l:List aj)(signed:List Int)(wj:Int)(aU:Int):(Int×Int):=((il.L1 l signed aU (il.K1 l signed wj aU)) l 0 ([]))
def ej.K1(pw:List Int):(List Int×Int):=(pw,0)
def ej.L1(l:List aj)(signed:List Int)(aT:Int)(k:List Int->(List Int×Int)):List aj->Nat->List Int->(List Int×Int)
 |[],i1,pw=>(k pw)
 |y1::rz1,i1,pw=>(bif((il l signed (i1:Int) aT).1==0)then(ej.L1 l signed aT k rz1 (i1+1) (pw++[y1.No]))else(ej.L1 l signed aT k rz1 (i1+1) pw))
def ej(l:List aj)(signed:List Int)(aT:Int):(List Int×Int):=(bif((dH l) != 0)then([],(dH l))else(bif((!(dq l signed))||(!(mr aT)))then([],1)else((ej.L1 l signed aT (ej.K1)) l 0 ([]))))
def oW(ir:Int):Bool:=(decide (0<=ir)&&decide (ir<16))
def eZ.L2(u:List Use)(k:Bool):List Nat->Nat->Bool
 |[],i2=>(k)
 |y2::rz2,i2=>(bif((nthI u (i2:Int)).Doc==(nthI u 0).Doc)then false else(eZ.L2 u k rz2 (i2+1)))
def eZ.L3(u:List Use)(y1:Use)(k:Bool):List Nat->Nat->Bool
 |[],i3=>(k)
 |y3::rz3,i3=>(bif((nthI u (i3:Int)).Doc==y1.Doc)then false else(eZ.L3 u y1 k rz3 (i3+1)))
def eZ.K1  : Bool:=true
def eZ.L1(u:List Use)(k:Bool):List Use->Nat->Bool
 |[],i1=>(k)
 |y1::rz1,i1=>(bif(((((!(ie y1.Doc 0 4095))||(!(oW y1.Kind)))||(!(ie y1.Value 0 1099511627776)))||(!(jg y1.At)))||(!(jg y1.eH)))then false else((eZ.L3 u y1 ((eZ.L1 u k rz1 (i1+1)))) (xF i1) 0))
def eZ(u:List Use):Bool:=((eZ.L1 u (eZ.K1)) u 0)
def kW(x:Budget)(eB:Int)(ad:Int):Bool:=(decide (x.At<=eB)&&decide (x.eH<=ad))
def iT.K1  : Bool:=true
def iT.L1(l:List Budget)(tc:Int)(aT:Int)(ad:Int)(k:Bool):List Budget->Bool
 |[]=>(k)
 |y1::rz1=>(bif((((y1.Kind==(nthI l tc).Kind)&&(y1.mH==(nthI l tc).mH))&&(kW y1 aT ad))&&(decide ((nthI l tc).At<y1.At)||((y1.At==(nthI l tc).At)&&decide ((nthI l tc).No<y1.No))))then false else(iT.L1 l tc aT ad k rz1))
def iT(l:List Budget)(tc:Int)(aT:Int)(ad:Int):Bool:=(bif((nthI l tc).mU||(!(kW (nthI l tc) aT ad)))then false else((iT.L1 l tc aT ad (iT.K1)) l))
def eK.K1(pw:List Budget):List Budget:=pw
def eK.L1(l:List Budget)(nA:Int)(aT:Int)(ad:Int)(k:List Budget->List Budget):List Budget->Nat->List Budget->List Budget
 |[],i1,pw=>(k pw)
 |y1::rz1,i1,pw=>(bif(((y1.Kind==(-1))||(y1.Kind==nA))&&(iT l (i1:Int) aT ad))then(eK.L1 l nA aT ad k rz1 (i1+1) (pw++[y1]))else(eK.L1 l nA aT ad k rz1 (i1+1) pw))
def eK(l:List Budget)(nA:Int)(aT:Int)(ad:Int):List Budget:=((eK.L1 l nA aT ad (eK.K1)) l 0 ([]))
def kZ.K1(x:Budget)(gZ:Int)(Bq:Int):Bool:=(decide (x.Count<=gZ)||decide (x.Value<Bq))
def kZ.L1(x:Budget)(aU:Int)(ad:Int)(k:Int->Int->Bool):List Use->Int->Int->Bool
 |[],gZ,Bq=>(k gZ Bq)
 |y1::rz1,gZ,Bq=>(bif((decide (y1.eH<=ad)&&((x.Kind==(-1))||(x.Kind==y1.Kind)))&&((jD .i64 (y1.At.tdiv x.mH))==(jD .i64 (aU.tdiv x.mH))))then(kZ.L1 x aU ad k rz1 (jD .i64 (gZ+1)) (jD .i64 (Bq+y1.Value)))else(kZ.L1 x aU ad k rz1 gZ Bq))
def kZ(x:Budget)(u:List Use)(value:Int)(aU:Int)(ad:Int):Bool:=((kZ.L1 x aU ad (kZ.K1 x)) u 0 value)
def gH.K1  : (Int×Bool×Int):=((-1),true,0)
def gH.L1(u:List Use)(value:Int)(dh:Int)(ad:Int)(k:(Int×Bool×Int)):List Budget->(Int×Bool×Int)
 |[]=>(k)
 |y1::rz1=>(bif(kZ y1 u value dh ad)then(y1.No,false,0)else(gH.L1 u value dh ad k rz1))
def gH(l:List Budget)(u:List Use)(Wn:Int)(value:Int)(dh:Int)(ad:Int):(Int×Bool×Int):=(bif((iE l) != 0)then(0,false,(iE l))else(bif(decide (4096<(u.length:Int)))then(0,false,2)else(bif(!(eZ u))then(0,false,180)else(bif((((!(oW Wn))||(!(ie value 0 1099511627776)))||(!(jg dh)))||(!(jg ad)))then(0,false,1)else((gH.L1 u value dh ad (gH.K1)) (eK l Wn dh ad))))))
def nL(ir:Int):Bool:=(decide (0<=ir)&&decide (ir<1099511627776))
def jb(bK:Register)(signed:List Int)(u:List Use)(bD:Int)(dh:Int)(ad:Int):Int:=(bif((ij bK) != 0)then 300 else(bif((ej bK.cj signed 0).2 != 0)then(ej bK.cj signed 0).2 else(bif((gH bK.fF u 0 0 0 0).2.2 != 0)then(gH bK.fF u 0 0 0 0).2.2 else(bif((decide ((cI bK bD)<0)||(!(nL dh)))||(!(nL ad)))then 1 else 0))))
def pB(l:List aj)(signed:List Int)(no:Int)(aU:Int):(Int×Int×Int):=(bif((dH l) != 0)then(0,0,(dH l))else(bif(((!(dq l signed))||decide ((cD l no)<0))||(!(mr aU)))then(0,0,1)else((il l signed (cD l no) aU).1,(il l signed (cD l no) aU).2,0)))
def lD.K1  : Bool:=false
def lD.L1(nA:Int)(k:Bool):List Int->Bool
 |[]=>(k)
 |y1::rz1=>(bif(y1==nA)then true else(lD.L1 nA k rz1))
def lD(l:List Int)(nA:Int):Bool:=((lD.L1 nA (lD.K1)) l)
def fM.K1  : Bool:=false
def fM.L1(bK:Register)(signed:List Int)(wj:Int)(aU:Int)(k:Bool):List aj->Bool
 |[]=>(k)
 |y1::rz1=>(bif(((lD y1.eX ((nthI bK.cj wj).No))&&((pB bK.cj signed y1.No aU).1 != 1))&&((pB bK.cj signed y1.No aU).1 != 4))then true else(fM.L1 bK signed wj aU k rz1))
def fM(bK:Register)(signed:List Int)(wj:Int)(aU:Int):Bool:=(bif((decide (aU<(nthI bK.cj wj).At)||decide ((nthI bK.cj wj).nS<=aU))||(decide (0<=(nthI signed wj))&&decide ((nthI signed wj)<=aU)))then true else((fM.L1 bK signed wj aU (fM.K1)) bK.cj))
def ka.K1  : Bool:=true
def ka.L1(bK:Register)(signed:List Int)(aU:Int)(k:Bool):List Int->Bool
 |[]=>(k)
 |y1::rz1=>(bif(!(lD ((ej bK.cj signed aU).1) y1))then false else(ka.L1 bK signed aU k rz1))
def ka(bK:Register)(signed:List Int)(d:aj)(aU:Int):Bool:=((ka.L1 bK signed aU (ka.K1)) d.eQ)
def cn.K1(ph:Int):Int:=ph
def cn.L1(l:List aC)(eB:Int)(ad:Int)(k:Int->Int):List aC->Nat->Int->Int
 |[],i1,ph=>(k ph)
 |y1::rz1,i1,ph=>(bif((decide (y1.At<=eB)&&decide (y1.eH<=ad))&&(decide (ph<0)||decide ((nthI l ph).At<=y1.At)))then(cn.L1 l eB ad k rz1 (i1+1) (i1:Int))else(cn.L1 l eB ad k rz1 (i1+1) ph))
def cn(l:List aC)(eB:Int)(ad:Int):Int:=((cn.L1 l eB ad (cn.K1)) l 0 (-1))
def gG.K1(l:List Int)(nA:Int)(i1:Nat):List Int:=(bif(decide ((i1:Int)<(l.length:Int))&&((nthI l (i1:Int))==nA))then l else(((l.take (((i1:Int):Int)).toNat)++[nA])++(l.drop (((i1:Int):Int)).toNat)))
def gG.L1(nA:Int)(k:Nat->List Int):List Int->Nat->List Int
 |[],i1=>(k (i1))
 |y1::rz1,i1=>(bif(decide (y1<nA))then(gG.L1 nA k rz1 (i1+1))else(k (i1)))
def gG(l:List Int)(nA:Int):List Int:=((gG.L1 nA (gG.K1 l nA)) l 0)
def dk.K1(pw:List Int):List Int:=pw
def dk.L1(l:List aC)(aW:Int)(aT:Int)(ad:Int)(k:List Int->List Int):List aC->List Int->List Int
 |[],pw=>(k pw)
 |y1::rz1,pw=>(bif((decide (aW<y1.At)&&decide (y1.At<=aT))&&decide (0<=(cn l y1.At ad)))then(dk.L1 l aW aT ad k rz1 (gG pw ((nthI l (cn l y1.At ad)).No)))else(dk.L1 l aW aT ad k rz1 pw))
def dk.K2(ri:List Int):List Int:=ri
def dk.L2(l:List aC)(aW:Int)(aT:Int)(ad:Int)(k:List Int->List Int):List aC->List Int->List Int
 |[],ri=>(k ri)
 |y2::rz2,ri=>(bif((decide (aW<y2.At)&&decide (y2.At<=aT))&&decide (0<=(cn l y2.At ad)))then(dk.L2 l aW aT ad k rz2 (gG ri ((nthI l (cn l y2.At ad)).No)))else(dk.L2 l aW aT ad k rz2 ri))
def dk(l:List aC)(aW:Int)(aT:Int)(ad:Int):List Int:=(bif(decide (0<=(cn l aW ad)))then((dk.L1 l aW aT ad (dk.K1)) l (gG ([]) ((nthI l (cn l aW ad)).No)))else((dk.L2 l aW aT ad (dk.K2)) l ([])))
def fY(l:List aC)(aW:Int)(aT:Int)(ad:Int):(List Int×Int×Int):=(bif((dE l) != 0)then([],0,(dE l))else(bif((((!(nq aW))||(!(nq aT)))||(!(nq ad)))||decide (aT<aW))then([],0,1)else(bif(decide ((cn l aT ad)<0))then([],0,0)else(bif((nthI l (cn l aT ad)).aw.Mode==1)then(bif(decide ((cn l aW ad)<0))then([],(nthI l (cn l aT ad)).aw.Mode,0)else([(nthI l (cn l aW ad)).No],(nthI l (cn l aT ad)).aw.Mode,0))else(bif((nthI l (cn l aT ad)).aw.Mode==2)then([(nthI l (cn l aT ad)).No],(nthI l (cn l aT ad)).aw.Mode,0)else((dk l aW aT ad),(nthI l (cn l aT ad)).aw.Mode,0))))))
def cR.K1  : Int:=(-1)
def cR.L1(no:Int)(k:Int):List aC->Nat->Int
 |[],i1=>(k)
 |y1::rz1,i1=>(bif(y1.No==no)then(i1:Int)else(cR.L1 no k rz1 (i1+1)))
def cR(bK:Register)(no:Int):Int:=((cR.L1 no (cR.K1)) bK.Versions 0)
def fu.K1(l:List Int)(nA:Int)(i1:Nat):List Int:=(bif(decide ((i1:Int)<(l.length:Int))&&((nthI l (i1:Int))==nA))then l else(((l.take (((i1:Int):Int)).toNat)++[nA])++(l.drop (((i1:Int):Int)).toNat)))
def fu.L1(nA:Int)(k:Nat->List Int):List Int->Nat->List Int
 |[],i1=>(k (i1))
 |y1::rz1,i1=>(bif(decide (y1<nA))then(fu.L1 nA k rz1 (i1+1))else(k (i1)))
def fu(l:List Int)(nA:Int):List Int:=((fu.L1 nA (fu.K1 l nA)) l 0)
def mN(x:ae)(eB:Int)(ad:Int):Bool:=(decide (x.At<=eB)&&decide (x.eH<=ad))
def ry(x:ae)(y:ae):Bool:=((((x.Doc==y.Doc)&&(x.By==y.By))&&(x.For==y.For))&&(x.dQ==y.dQ))
def rx(x:ae)(y:ae):Bool:=(decide (y.At<x.At)||((x.At==y.At)&&decide (y.No<x.No)))
def gR.K1  : Bool:=true
def gR.L1(x:ae)(aT:Int)(ad:Int)(k:Bool):List ae->Bool
 |[]=>(k)
 |y1::rz1=>(bif(((mN y1 aT ad)&&(ry y1 x))&&(rx y1 x))then false else(gR.L1 x aT ad k rz1))
def gR(l:List ae)(x:ae)(aT:Int)(ad:Int):Bool:=(bif(x.mU||(!(mN x aT ad)))then false else((gR.L1 x aT ad (gR.K1)) l))
def eC.K1(gZ:List ae):(List ae×Int):=(gZ,0)
def eC.L1(l:List ae)(bD:Int)(aT:Int)(ad:Int)(k:List ae->(List ae×Int)):List ae->List ae->(List ae×Int)
 |[],gZ=>(k gZ)
 |y1::rz1,gZ=>(bif((y1.Doc==bD)&&(gR l y1 aT ad))then(eC.L1 l bD aT ad k rz1 (gZ++[y1]))else(eC.L1 l bD aT ad k rz1 gZ))
def eC(l:List ae)(bD:Int)(aT:Int)(ad:Int):(List ae×Int):=(bif((gV l) != 0)then([],(gV l))else(bif(((!(pA bD))||(!(iO aT)))||(!(iO ad)))then([],1)else((eC.L1 l bD aT ad (eC.K1)) l ([]))))
def fd.K1(Me:List ae):(List ae×Int):=(Me,0)
def fd.L1(aW:Int)(think:Int)(dh:Int)(k:List ae->(List ae×Int)):List ae->List ae->(List ae×Int)
 |[],Me=>(k Me)
 |y1::rz1,Me=>(bif(decide (aW<=y1.At)&&decide ((y1.At+think)<=dh))then(fd.L1 aW think dh k rz1 (Me++[y1]))else(fd.L1 aW think dh k rz1 Me))
def fd(l:List ae)(bD:Int)(aW:Int)(think:Int)(dh:Int)(ad:Int):(List ae×Int):=(bif((gV l) != 0)then([],(gV l))else(bif(((((!(pA bD))||(!(iO aW)))||(!(iO think)))||(!(iO dh)))||(!(iO ad)))then([],1)else((fd.L1 aW think dh (fd.K1)) ((eC l bD dh ad).1) ([]))))
def uz(x:aA)(eB:Int)(ad:Int):Bool:=(decide (x.At<=eB)&&decide (x.eH<=ad))
def dI.K1(gZ:Int):Int:=gZ
def dI.L1(l:List aA)(aI:Int)(bu:Int)(aU:Int)(ad:Int)(k:Int->Int):List aA->Nat->Int->Int
 |[],i1,gZ=>(k gZ)
 |y1::rz1,i1,gZ=>(bif((((y1.dQ==aI)&&(y1.bw==bu))&&(uz y1 aU ad))&&(decide (gZ<0)||decide ((nthI l gZ).At<=y1.At)))then(dI.L1 l aI bu aU ad k rz1 (i1+1) (i1:Int))else(dI.L1 l aI bu aU ad k rz1 (i1+1) gZ))
def dI(l:List aA)(aI:Int)(bu:Int)(aU:Int)(ad:Int):Int:=((dI.L1 l aI bu aU ad (dI.K1)) l 0 (-1))
def oG(l:List aA)(aI:Int)(bu:Int)(aU:Int)(ad:Int):(Int×Int×Bool×Int):=(bif((iH l) != 0)then(0,0,false,(iH l))else(bif((((!(mO aI))||(!(oZ bu)))||(!(mt aU)))||(!(mt ad)))then(0,0,false,1)else(bif(decide ((dI l aI bu aU ad)<0)||(nthI l (dI l aI bu aU ad)).mU)then(0,0,false,0)else((nthI l (dI l aI bu aU ad)).No,(nthI l (dI l aI bu aU ad)).fD,true,0))))
def nP(l:List aE)(cV:Int)(to:Int)(aI:Int)(kind:Int)(value:Int)(i9:Int)(ad:Int):Int:=(bif((jd l) != 0)then(jd l)else(bif(((((((!(nk cV))||(!(nk to)))||(!(gE aI 0 31)))||(!(gE kind 0 15)))||(!(gE value 0 1099511627776)))||(!(oX i9)))||(!(oX ad)))then 1 else 0))
def iU(x:aE)(eB:Int)(ad:Int):Bool:=(decide (x.At<=eB)&&decide (x.eH<=ad))
def mb(x:aE)(y:aE):Bool:=((((x.From==y.From)&&(x.To==y.To))&&(x.dQ==y.dQ))&&(x.Kind==y.Kind))
def cN.L2(l:List aE)(eB:Int)(ad:Int)(k:Bool->List aE):List aE->Bool->List aE
 |[],ri=>(k ri)
 |y2::rz2,ri=>(bif ri then(bif(((iU y2 eB ad)&&(mb (nthI l 0) y2))&&(decide ((nthI l 0).At<y2.At)||((y2.At==(nthI l 0).At)&&decide ((nthI l 0).No<y2.No))))then(cN.L2 l eB ad k rz2 false)else(cN.L2 l eB ad k rz2 ri))else(k ri))
def cN.L3(eB:Int)(ad:Int)(y1:aE)(k:Bool->List aE):List aE->Bool->List aE
 |[],vx=>(k vx)
 |y3::rz3,vx=>(bif vx then(bif(((iU y3 eB ad)&&(mb y1 y3))&&(decide (y1.At<y3.At)||((y3.At==y1.At)&&decide (y1.No<y3.No))))then(cN.L3 eB ad y1 k rz3 false)else(cN.L3 eB ad y1 k rz3 vx))else(k vx))
def cN.K1(ph:List aE):List aE:=ph
def cN.L1(l:List aE)(eB:Int)(ad:Int)(k:List aE->List aE):List aE->List aE->List aE
 |[],ph=>(k ph)
 |y1::rz1,ph=>((cN.L3 eB ad y1 (λzg3_9=>(bif zg3_9 then(cN.L1 l eB ad k rz1 (ph++[y1]))else(cN.L1 l eB ad k rz1 ph)))) l (((iU y1 eB ad)&&(!y1.mU))&&decide (eB<y1.nS)))
def cN(l:List aE)(eB:Int)(ad:Int):List aE:=((cN.L1 l eB ad (cN.K1)) l ([]))
def oY(x:aE)(aI:Int)(kind:Int)(value:Int):Bool:=(((x.dQ==aI)&&((x.Kind==(-1))||(x.Kind==kind)))&&decide (value<=x.N5))
def eL.K1(Mf:List aE):List aE:=Mf
def eL.L1(aI:Int)(kind:Int)(value:Int)(k:List aE->List aE):List aE->List aE->List aE
 |[],Mf=>(k Mf)
 |y1::rz1,Mf=>(bif(oY y1 aI kind value)then(eL.L1 aI kind value k rz1 (Mf++[y1]))else(eL.L1 aI kind value k rz1 Mf))
def eL(l:List aE)(aI:Int)(kind:Int)(value:Int)(dh:Int)(ad:Int):List aE:=((eL.L1 aI kind value (eL.K1)) (cN l dh ad) ([]))
def lZ.K1  : Bool:=false
def lZ.L1(nA:Int)(k:Bool):List Int->Bool
 |[]=>(k)
 |y1::rz1=>(bif(y1==nA)then true else(lZ.L1 nA k rz1))
def lZ(l:List Int)(nA:Int):Bool:=((lZ.L1 nA (lZ.K1)) l)
def cX.K1  : (List Int×Bool):=([],false)
def cX.L1(rec:List aE->List Int->Int->Int->(List Int×Bool))(l:List aE)(people:List Int)(to:Int)(many:Int)(k:(List Int×Bool)):List aE->(List Int×Bool)
 |[]=>(k)
 |y1::rz1=>(bif((y1.From != (nthI people ((people.length:Int)-1)))||(lZ people y1.To))then(cX.L1 rec l people to many k rz1)else(bif((rec l (people++[y1.To]) to (many-1)).2)then(([y1.No]++(rec l (people++[y1.To]) to (many-1)).1),true)else(cX.L1 rec l people to many k rz1)))
def cX.F(rec:List aE->List Int->Int->Int->(List Int×Bool))(l:List aE)(people:List Int)(to:Int)(many:Int):(List Int×Bool):=(bif(many==0)then([],((nthI people ((people.length:Int)-1))==to))else((cX.L1 rec l people to many (cX.K1)) l))
def cX.go:Nat->List aE->List Int->Int->Int->(List Int×Bool)
 |0=>λ_ _ _ _=>default
 |m+1=>cX.F (cX.go m)
def cX(l:List aE)(people:List Int)(to:Int)(many:Int):(List Int×Bool):=cX.go (many.toNat+1) l people to many
def fJ.K1  : (List Int×Bool×Int):=([],false,0)
def fJ.L1(l:List aE)(cV:Int)(to:Int)(aI:Int)(kind:Int)(value:Int)(i9:Int)(ad:Int)(k:(List Int×Bool×Int)):List Nat->Nat->(List Int×Bool×Int)
 |[],i1=>(k)
 |y1::rz1,i1=>(bif((cX (eL l aI kind value i9 ad) ([cV]) to (i1:Int)).2)then((cX (eL l aI kind value i9 ad) ([cV]) to (i1:Int)).1,true,0)else(fJ.L1 l cV to aI kind value i9 ad k rz1 (i1+1)))
def fJ(l:List aE)(cV:Int)(to:Int)(aI:Int)(kind:Int)(value:Int)(i9:Int)(ad:Int):(List Int×Bool×Int):=(bif((nP l cV to aI kind value i9 ad) != 0)then([],false,(nP l cV to aI kind value i9 ad))else((fJ.L1 l cV to aI kind value i9 ad (fJ.K1)) (xF 9) 0))
def gC.K1(l:List Int):Bool:=decide ((l.length:Int)<=16)
def gC.L1(l:List Int)(k:Bool):List Int->Nat->Bool
 |[],i1=>(k)
 |y1::rz1,i1=>(bif((!(nM y1))||(decide (0<(i1:Int))&&decide (y1<=(nthI l ((i1:Int)-1)))))then false else(gC.L1 l k rz1 (i1+1)))
def gC(l:List Int):Bool:=((gC.L1 l (gC.K1 l)) l 0)
def lg(l:List av)(gv:Int)(bQ:List Int)(aU:Int)(ad:Int):Int:=(bif((iS l) != 0)then(iS l)else(bif((((!(qj gv))||(!(gC bQ)))||(!(oU aU)))||(!(oU ad)))then 1 else 0))
def nN(x:av)(eB:Int)(ad:Int):Bool:=(decide (x.At<=eB)&&decide (x.eH<=ad))
def tv(a:av)(mR:av):Bool:=(((a.bw==mR.bw)&&(a.eG==mR.eG))&&(a.Of==mR.Of))
def ib.K1  : Bool:=true
def ib.L1(x:av)(aT:Int)(ad:Int)(k:Bool):List av->Bool
 |[]=>(k)
 |y1::rz1=>(bif(((tv y1 x)&&(nN y1 aT ad))&&(decide (x.At<y1.At)||((y1.At==x.At)&&decide (x.No<y1.No))))then false else(ib.L1 x aT ad k rz1))
def ib(l:List av)(x:av)(aT:Int)(ad:Int):Bool:=(bif(x.mU||(!(nN x aT ad)))then false else((ib.L1 x aT ad (ib.K1)) l))
def dD.K1(ph:List av):List av:=ph
def dD.L1(l:List av)(eB:Int)(ad:Int)(k:List av->List av):List av->List av->List av
 |[],ph=>(k ph)
 |y1::rz1,ph=>(bif(ib l y1 eB ad)then(dD.L1 l eB ad k rz1 (ph++[y1]))else(dD.L1 l eB ad k rz1 ph))
def dD(l:List av)(eB:Int)(ad:Int):List av:=((dD.L1 l eB ad (dD.K1)) l ([]))
def rwPut(l:List fw)(x:fw):List fw:=bif l.any (λw=>w.To==x.To)then l else l++[x]
def m5.K1  : Bool:=false
def m5.L1(nA:Int)(k:Bool):List Int->Bool
 |[]=>(k)
 |y1::rz1=>(bif(y1==nA)then true else(m5.L1 nA k rz1))
def m5(l:List Int)(nA:Int):Bool:=((m5.L1 nA (m5.K1)) l)
def bJ.L3(i2:Nat)(k:List fw->(List Int×Bool×Int)):List av->List fw->(List Int×Bool×Int)
 |[],iN=>(k iN)
 |y3::rz3,iN=>(bif(y3.Of&&(y3.bw==(nthI iN (i2:Int)).To))then(bJ.L3 i2 k rz3 (rwPut iN (fw.mk ((nthI iN (i2:Int)).mn++[y3.No]) y3.eG)))else(bJ.L3 i2 k rz3 iN))
def bJ.K2(i2:Nat)(nR:List fw):(List Int×Bool×Int):=([],false,0)
def bJ.L2(l:List av)(bQ:List Int)(aU:Int)(ad:Int)(k:Nat->List fw->(List Int×Bool×Int)):Nat->Nat->List fw->(List Int×Bool×Int)
 |0,i2,nR=>k i2 nR
 |rz2+1,i2,nR=>(bif decide ((i2:Int)<(nR.length:Int))then(bif(m5 bQ ((nthI nR (i2:Int)).To))then((nthI nR (i2:Int)).mn,true,0)else(bif((((nthI nR (i2:Int)).mn.length:Nat):Int)==8)then(bJ.L2 l bQ aU ad k rz2 (i2+1) nR)else((bJ.L3 i2 (λzg3_15=>(bJ.L2 l bQ aU ad k rz2 (i2+1) zg3_15))) (dD l aU ad) nR)))else k i2 nR)
def bJ.K1(l:List av)(bQ:List Int)(aU:Int)(ad:Int)(pM:List fw):(List Int×Bool×Int):=((bJ.L2 l bQ aU ad (bJ.K2)) (l.length+1) 0 pM)
def bJ.L1(gv:Int)(k:List fw->(List Int×Bool×Int)):List av->List fw->(List Int×Bool×Int)
 |[],pM=>(k pM)
 |y1::rz1,pM=>(bif((!y1.Of)&&(y1.bw==gv))then(bJ.L1 gv k rz1 (rwPut pM (fw.mk ([y1.No]) y1.eG)))else(bJ.L1 gv k rz1 pM))
def bJ(l:List av)(gv:Int)(bQ:List Int)(aU:Int)(ad:Int):(List Int×Bool×Int):=(bif((lg l gv bQ aU ad) != 0)then([],false,(lg l gv bQ aU ad))else((bJ.L1 gv (bJ.K1 l bQ aU ad)) (dD l aU ad) ([])))
def vh(bK:Register)(bu:Int)(d:aj)(aU:Int)(ad:Int):Bool:=(!((bJ bK.gu bu d.nz aU ad).2.1))
def pU(bK:Register)(x:ae)(d:aj)(aU:Int)(ad:Int):Bool:=((((oG bK.fj x.dQ x.For aU ad).2.2.1&&(fJ bK.dY x.For x.By x.dQ d.Kind d.Value aU ad).2.1)&&(vh bK x.For d aU ad))&&(vh bK x.By d aU ad))
def eJ.K1(gZ:List Int):List Int:=gZ
def eJ.L1(bK:Register)(d:aj)(aU:Int)(ad:Int)(k:List Int->List Int):List ae->List Int->List Int
 |[],gZ=>(k gZ)
 |y1::rz1,gZ=>(bif(pU bK y1 d aU ad)then(eJ.L1 bK d aU ad k rz1 (fu gZ y1.For))else(eJ.L1 bK d aU ad k rz1 gZ))
def eJ(bK:Register)(d:aj)(p:aw)(aU:Int)(ad:Int):List Int:=(bif(decide ((p.ey.length:Int)<=d.Kind))then[]else((eJ.L1 bK d aU ad (eJ.K1)) ((fd bK.bS d.No d.At ((nthI p.dt d.Kind).iJ) aU ad).1) ([])))
def dP.K1(gZ:List aV):(List aV×Int):=(gZ,0)
def dP.L1(l:List aA)(aI:Int)(aT:Int)(ad:Int)(k:List aV->(List aV×Int)):List Nat->Nat->List aV->(List aV×Int)
 |[],i1,gZ=>(k gZ)
 |y1::rz1,i1,gZ=>(bif(decide (0<=(dI l aI (i1:Int) aT ad))&&(!((nthI l (dI l aI (i1:Int) aT ad)).mU)))then(dP.L1 l aI aT ad k rz1 (i1+1) (gZ++[(aV.mk (i1:Int) ((nthI l (dI l aI (i1:Int) aT ad)).fD))]))else(dP.L1 l aI aT ad k rz1 (i1+1) gZ))
def dP(l:List aA)(aI:Int)(aT:Int)(ad:Int):(List aV×Int):=(bif((iH l) != 0)then([],(iH l))else(bif(((!(mO aI))||(!(mt aT)))||(!(mt ad)))then([],1)else((dP.L1 l aI aT ad (dP.K1)) (xF 64) 0 ([]))))
def eh.L2(bh:List (List aV))(k:Bool):List aV->Nat->Bool
 |[],i2=>(k)
 |y2::rz2,i2=>(bif((((decide (y2.bw<0)||decide (64<=y2.bw))||decide (y2.fD<1))||decide (64<y2.fD))||(decide (0<(i2:Int))&&decide (y2.bw<=(nthI (nthI bh 0) ((i2:Int)-1)).bw)))then false else(eh.L2 bh k rz2 (i2+1)))
def eh.L3(y1:List aV)(k:Bool):List aV->Nat->Bool
 |[],i3=>(k)
 |y3::rz3,i3=>(bif((((decide (y3.bw<0)||decide (64<=y3.bw))||decide (y3.fD<1))||decide (64<y3.fD))||(decide (0<(i3:Int))&&decide (y3.bw<=(nthI y1 ((i3:Int)-1)).bw)))then false else(eh.L3 y1 k rz3 (i3+1)))
def eh.K1  : Bool:=true
def eh.L1(k:Bool):List (List aV)->Bool
 |[]=>(k)
 |y1::rz1=>((eh.L3 y1 ((eh.L1  k rz1))) y1 0)
def eh(bh:List (List aV))(aF:Int):Bool:=(bif((bh.length:Int) != aF)then false else((eh.L1 (eh.K1)) bh))
def fZ.K1  : Bool:=true
def fZ.L1(gv:List Int)(k:Bool):List Int->Nat->Bool
 |[],i1=>(k)
 |y1::rz1,i1=>(bif((decide (y1<0)||decide (64<=y1))||(decide (0<(i1:Int))&&decide (y1<=(nthI gv ((i1:Int)-1)))))then false else(fZ.L1 gv k rz1 (i1+1)))
def fZ(gv:List Int):Bool:=((fZ.L1 gv (fZ.K1)) gv 0)
def lY.K1  : Bool:=false
def lY.L1(nA:Int)(k:Bool):List Int->Bool
 |[]=>(k)
 |y1::rz1=>(bif(y1==nA)then true else(lY.L1 nA k rz1))
def lY(gv:List Int)(nA:Int):Bool:=((lY.L1 nA (lY.K1)) gv)
def bC.K1(x:ai)(pw:Int):Bool:=((x.Kind==2)&&decide (x.N<=pw))
def bC.L1(gv:List Int)(k:Int->Bool):List aV->Int->Bool
 |[],pw=>(k pw)
 |y1::rz1,pw=>(bif((lY gv y1.bw)&&true)then true else(bif(lY gv y1.bw)then(bC.L1 gv k rz1 (jD .i64 (pw+y1.fD)))else(bC.L1 gv k rz1 pw)))
def bC.K2(x:ai)(ri:Int):Bool:=decide (x.N<=ri)
def bC.L2(rec:ai->Int->(List (List aV))->List Int->Bool)(value:Int)(bh:List (List aV))(gv:List Int)(k:Int->Bool):List ai->Int->Bool
 |[],ri=>(k ri)
 |y2::rz2,ri=>(bif(rec y2 value bh gv)then(bC.L2 rec value bh gv k rz2 (jD .i64 (ri+1)))else(bC.L2 rec value bh gv k rz2 ri))
def bC.K3(x:ai)(vx:Int):Bool:=decide (x.N<=vx)
def bC.L3(gv:List Int)(k:Int->Bool):List aV->Int->Bool
 |[],vx=>(k vx)
 |y3::rz3,vx=>(bif((lY gv y3.bw)&&false)then true else(bif(lY gv y3.bw)then(bC.L3 gv k rz3 (jD .i64 (vx+y3.fD)))else(bC.L3 gv k rz3 vx)))
def bC.K4(x:ai)(sa:Int):Bool:=decide (x.N<=sa)
def bC.L4(rec:ai->Int->(List (List aV))->List Int->Bool)(value:Int)(bh:List (List aV))(gv:List Int)(k:Int->Bool):List ai->Int->Bool
 |[],sa=>(k sa)
 |y4::rz4,sa=>(bif(rec y4 value bh gv)then(bC.L4 rec value bh gv k rz4 (jD .i64 (sa+1)))else(bC.L4 rec value bh gv k rz4 sa))
def bC.F(rec:ai->Int->(List (List aV))->List Int->Bool)(x:ai)(value:Int)(bh:List (List aV))(gv:List Int):Bool:=(bif(x.Kind==1)then(bif(x.Kind==1)then((bC.L1 gv (bC.K1 x)) (nthI bh x.No) 0)else(bif(x.Kind==3)then((bC.L2 rec value bh gv (bC.K2 x)) x.L 0)else(bif(decide (value<=x.N))then(rec (nthI x.L 0) value bh gv)else(rec (nthI x.L 1) value bh gv))))else(bif(x.Kind==2)then((bC.L3 gv (bC.K3 x)) (nthI bh x.No) 0)else(bif(x.Kind==3)then((bC.L4 rec value bh gv (bC.K4 x)) x.L 0)else(bif(decide (value<=x.N))then(rec (nthI x.L 0) value bh gv)else(rec (nthI x.L 1) value bh gv)))))
def bC.go:Nat->ai->Int->(List (List aV))->List Int->Bool
 |0=>λ_ _ _ _=>default
 |m+1=>bC.F (bC.go m)
def bC(x:ai)(value:Int)(bh:List (List aV))(gv:List Int):Bool:=bC.go x.dep x value bh gv
def lr(p:aw)(kind:Int)(value:Int)(bh:List (List aV))(gv:List Int):(Bool×Int):=(bif((ma p) != 0)then(false,(ma p))else(bif(((decide (kind<0)||decide ((p.ey.length:Int)<=kind))||decide (value<0))||decide (1099511627776<value))then(false,1)else(bif(!(eh bh (p.aD.length:Int)))then(false,210)else(bif(!(fZ gv))then(false,1)else((bC ((nthI p.dt kind).ai) value bh gv),0)))))
def fV.K1(bK:Register)(d:aj)(p:aw)(aU:Int)(ad:Int)(gZ:List (List aV)):Bool:=((lr p d.Kind d.Value gZ (eJ bK d p aU ad)).1&&((lr p d.Kind d.Value gZ (eJ bK d p aU ad)).2==0))
def fV.L1(bK:Register)(aU:Int)(ad:Int)(k:(List (List aV))->Bool):List ByteArray->Nat->(List (List aV))->Bool
 |[],i1,gZ=>(k gZ)
 |y1::rz1,i1,gZ=>(fV.L1 bK aU ad k rz1 (i1+1) (gZ++[(dP bK.fj (i1:Int) aU ad).1]))
def fV(bK:Register)(d:aj)(p:aw)(aU:Int)(ad:Int):Bool:=((fV.L1 bK aU ad (fV.K1 bK d p aU ad)) p.aD 0 ([]))
def rA(mode:Int)(permits:List Bool):Int:=(bif(decide (mode<1)||decide (4<mode))then 270 else(bif(decide (256<(permits.length:Int)))then 1 else 0))
def gY.K1  : Int:=(-1)
def gY.L1(so:Bool)(k:Int):List Bool->Nat->Int
 |[],i1=>(k)
 |y1::rz1,i1=>(bif(y1==so)then(i1:Int)else(gY.L1 so k rz1 (i1+1)))
def gY(permits:List Bool)(so:Bool):Int:=((gY.L1 so (gY.K1)) permits 0)
def rR(mode:Int)(permits:List Bool):Bool:=(bif(mode==3)then(decide (0<(permits.length:Int))&&decide ((gY permits false)<0))else(bif(mode==4)then decide (0<=(gY permits true))else(((permits.length:Int)==1)&&(nthI permits 0))))
def oV(mode:Int)(permits:List Bool):(Bool×Int):=(bif((rA mode permits) != 0)then(false,(rA mode permits))else((rR mode permits),0))
def eE.L2(k:List Int->dT):List Int->List Int->dT
 |[],NN=>(k NN)
 |y2::rz2,NN=>(eE.L2  k rz2 (fu NN y2))
def eE.L3(k:List Int->dT):List Int->List Int->dT
 |[],NK=>(k NK)
 |y3::rz3,NK=>(eE.L3  k rz3 (fu NK y3))
def eE.K1(bK:Register)(u:List Use)(d:aj)(aU:Int)(ad:Int)(pM:List Bool)(yV:List Int):dT:=(bif((!((oV ((fY bK.Versions d.At aU ad).2.1) pM).1))||((oV ((fY bK.Versions d.At aU ad).2.1) pM).2 != 0))then(dT.mk 3 (-1) ((fY bK.Versions d.At aU ad).1) yV)else(bif(!((gH bK.fF u d.Kind d.Value aU ad).2.1))then(dT.mk 4 ((gH bK.fF u d.Kind d.Value aU ad).1) ((fY bK.Versions d.At aU ad).1) yV)else(dT.mk 0 (-1) ((fY bK.Versions d.At aU ad).1) yV)))
def eE.L1(bK:Register)(d:aj)(aU:Int)(ad:Int)(k:List Bool->List Int->dT):List Int->List Bool->List Int->dT
 |[],pM,yV=>(k pM yV)
 |y1::rz1,pM,yV=>((eE.L3 (λzg3_b4_3=>(eE.L1 bK d aU ad k rz1 (pM++[(fV bK d ((nthI bK.Versions (cR bK y1)).aw) aU ad)]) zg3_b4_3))) (eJ bK d ((nthI bK.Versions (cR bK y1)).aw) aU ad) yV)
def eE(bK:Register)(u:List Use)(d:aj)(aU:Int)(ad:Int):dT:=((eE.L1 bK d aU ad (eE.K1 bK u d aU ad)) ((fY bK.Versions d.At aU ad).1) ([]) ([]))
def ii(bK:Register)(signed:List Int)(u:List Use)(bD:Int)(dh:Int)(ad:Int):(dT×Int):=(bif((jb bK signed u bD dh ad) != 0)then((dT.mk 0 0 ([]) ([])),(jb bK signed u bD dh ad))else(bif(fM bK signed (cI bK bD) dh)then((dT.mk 1 (-1) ([]) ([])),0)else(bif(!(ka bK signed (nthI bK.cj (cI bK bD)) dh))then((dT.mk 2 (-1) ([]) ([])),0)else((eE bK u (nthI bK.cj (cI bK bD)) dh ad),0))))
def oS(a:dT)(mR:dT):Bool:=((((a.State==mR.State)&&(a.Budget==mR.Budget))&&(iv a.Versions mR.Versions))&&(iv a.Who mR.Who))
def jm.L2(r:Register)(at_:Int)(ad:Int)(k:Bool->List Int):List Nat->Nat->Bool->List Int
 |[],i2,QO=>(k QO)
 |y2::rz2,i2,QO=>(jm.L2 r at_ ad k rz2 (i2+1) (QO||(jq r.fj (i2:Int) 0 at_ ad).2.2.1))
def jm.L3(r:Register)(at_:Int)(ad:Int)(i1:Nat)(k:Bool->List Int):List Nat->Nat->Bool->List Int
 |[],i3,K7=>(k K7)
 |y3::rz3,i3,K7=>(jm.L3 r at_ ad i1 k rz3 (i3+1) (K7||(jq r.fj (i3:Int) (i1:Int) at_ ad).2.2.1))
def jm.K1  : List Int:=[]
def jm.L1(r:Register)(at_:Int)(ad:Int)(d:aj)(k:List Int):List Nat->Nat->List Int
 |[],i1=>(k)
 |y1::rz1,i1=>((jm.L3 r at_ ad i1 (λzg3_7=>(bif(!zg3_7)then(jm.L1 r at_ ad d k rz1 (i1+1))else(bif(!((fy r.gu (i1:Int) d.nz at_ ad).2.1))then((i1:Int)::(jm.L1 r at_ ad d k rz1 (i1+1)))else(jm.L1 r at_ ad d k rz1 (i1+1)))))) (xF 32) 0 false)
def jm(r:Register)(at_:Int)(ad:Int)(d:aj):List Int:=((jm.L1 r at_ ad d (jm.K1)) (xF 64) 0)
def Ny(bK:Register)(d:aj)(aT:Int)(ad:Int):List Int:=(jm bK aT ad d)
def Fu(l:List Budget)(kind:Int)(aT:Int)(ad:Int):(List Budget×Int):=(bif((bY l) != 0)then([],(bY l))else(bif((!(ct 0 15 ([kind])))||(!(ct 0 1099511627775 ([aT,ad]))))then([],1)else((aZ l kind aT ad),0)))
def pD(r:Register)(bD:Int):aj:=nthI r.cj (bsPos aj.No r.cj bD)
structure XP(r:Register)(bD at_ ad:Int):Prop where
 docs:r.cj.Pairwise λa b=>a.No<b.No
 din:bsPos aj.No r.cj bD<r.cj.length
 vers:r.Versions.Pairwise λa b=>a.No<b.No
 vin:∀no∈(aN r.Versions (pD r bD).At at_ ad).1,bsPos aC.No r.Versions no<r.Versions.length/\(nthI r.Versions (bsPos aC.No r.Versions no)).aw.aD.length<=1000/\(iB r (pD r bD).No no at_ ad).1.length<=1000000
 vlen:(aN r.Versions (pD r bD).At at_ ad).1.length<=1000000
 flen:(Ny r (pD r bD) at_ ad).length<=1000000
 nlen:(pD r bD).eQ.length<=1000000
 slen:(Fu r.fF (pD r bD).Kind at_ ad).1.length<=1000000
theorem wrap64{z:Int}(h:-9223372036854775808<=z/\z<=9223372036854775807):IntKind.i64.wrap z=z:=by
 have:=nv h;injection this
theorem ai.eta(x:ai):ai.mk x.Kind x.N x.No x.Name x.L=x:=by cases x;rfl
theorem ai.ind{P:ai->Prop}(h:∀x,(∀y∈x.L,P y)->P x)(x:ai):P x:=by
 have key:∀n(x:ai),x.dep<=n->P x:=by
  intro n
  induction n with
  |zero=>intro x hx;have:=ai.ny x;omega
  |succ n ih=>intro x hx;exact h x λy hy=>ih y (by have:=ai.lI hy;omega)
 exact key _ x (zE _)
theorem OZ(k:List hZ):∀l,aM.L3 k l=l++k
 |[]=>rfl
 |y::l=>by simp[aM.L3,OZ k l]
theorem O0(rec:ai->Int->List hZ)(d:Int):∀l,aM.L1 rec d [] l=l.flatMap (λy=>rec y (d+1))
 |[]=>rfl
 |y::l=>by simp[aM.L1,OZ,O0 rec d l]
theorem Ni(rec:ai->Int->List hZ)(x:ai)(d:Int):aM.F rec x d=⟨x,d⟩::x.L.flatMap (λy=>rec y (d+1)):=by
 simp[aM.F,aM.K1,O0,ai.eta]
theorem Dd{α β : Type}{f g:α->List β}:∀{l:List α},(∀y∈l,f y=g y)->l.flatMap f=l.flatMap g
 |[],_=>rfl
 |y::l,h=>by
  rw[List.flatMap_cons,List.flatMap_cons,h y (zB ..),Dd λz hz=>h z (qC _ hz)]
theorem OY(m:Nat):∀(x:ai)(d:Int),x.dep<=m->aM.go m x d=bB x d:=by
 induction m using Nat.strongRecOn with
 |_ m ih=>
  intro x d hx
  unfold bB
  have hp:=ai.ny x
  obtain⟨m',rfl⟩:∃m',m=m'+1:=⟨m-1,by omega⟩
  obtain⟨n,hn⟩:∃n,x.dep=n+1:=⟨x.dep-1,by omega⟩
  rw[hn]
  show aM.F (aM.go m') x d=aM.F (aM.go n) x d
  rw[Ni,Ni]
  congr 1
  refine Dd λy hy=>?_
  have:=ai.lI hy
  grind
theorem pW(x:ai)(d:Int):bB x d=⟨x,d⟩::x.L.flatMap (λy=>bB y (d+1)):=by
 have hp:=ai.ny x
 obtain⟨n,hn⟩:∃n,x.dep=n+1:=⟨x.dep-1,by omega⟩
 rw[←OY x.dep x d (zE _),hn]
 show aM.F (aM.go n) x d=_
 rw[Ni]
 congr 1
 exact Dd λy hy=>OY n y _ (by have:=ai.lI hy;omega)
theorem LP(Q:ai->Prop)(x:ai):∀d d',(∀z∈bB x d,Q z.x)->∀z∈bB x d',Q z.x:=by
 refine ai.ind (P:=λx=>∀d d',(∀z∈bB x d,Q z.x)->∀z∈bB x d',Q z.x) ?_ x
 intro x ih d d' h z hz
 rw[pW]at h hz
 rcases vC.1 hz with rfl|hz
 .exact h ⟨x,d⟩ (zB ..)
 .obtain⟨y,hy,hz⟩:=List.mem_flatMap.1 hz
  exact ih y hy (d+1) (d'+1) (λz' hz'=>h z' (qC _ (List.mem_flatMap.2 ⟨y,hy,hz'⟩))) z hz
theorem s7(Q:ai->Prop)(x:ai)(d:Int):(∀z∈bB x d,Q z.x)↔Q x/\∀y∈x.L,∀z∈bB y d,Q z.x:=by
 constructor
 .intro h
  rw[pW]at h
  exact⟨h ⟨x,d⟩ (zB ..),λy hy=>LP Q y (d+1) d λz hz=>h z (qC _ (List.mem_flatMap.2 ⟨y,hy,hz⟩))⟩
 .rintro⟨h1,h2⟩ z hz
  rw[pW]at hz
  rcases vC.1 hz with rfl|hz
  .exact h1
  .obtain⟨y,hy,hz⟩:=List.mem_flatMap.1 hz
   exact LP Q y d (d+1) (h2 y hy) z hz
def NZ(x:Except Int Unit):Prop:=∀e,x=.error e->e≠0
theorem NZ.ok:NZ (.ok ()):=λ_ h=>by cases h
theorem NZ.must(he:e≠0):NZ (fW c e):=λe' h=>by
 grind [fW]
theorem NZ.exi(hx:NZ x)(hf:NZ (f ())):NZ (Sg.exi x f):=by
 cases x with
 |ok u=>exact hf
 |error e=>exact λe' h=>hx e' h
theorem Mu(h:NZ x):attR x=0↔x=.ok ():=by
 cases x with
 |ok u=>simp[attR]
 |error e=>simp only[attR,reduceCtorEq,iff_false];exact h e rfl
theorem s8:exi (fW c e) f=.ok ()↔c=true/\f ()=.ok ():=by grind [fW,exi]
theorem PQ(p:aw):∀(l:List fI)(g:List ai),aH.L1 (aH.K1 p) l g=g++(l.map (·.ai)++[p.aP])
 |[],g=>by simp[aH.L1,aH.K1]
 |y::l,g=>by simp[aH.L1,PQ p l]
theorem ox(p:aw):aH p=p.dt.map (·.ai)++[p.aP]:=by
 unfold aH;rw[PQ];simp
theorem OH(k:Int->Except Int Unit)(hk:∀a b,k a=k b):∀(l:List hZ)(g:Int),0<=g->g<=256->(dv.L3 k l g=.ok ()↔(g+l.length<=256/\∀z∈l,z.depth<=16)/\k 0=.ok ())
 |[],g,h0,h1=>by simp only[dv.L3,hk g 0,xB,vA];simp;omega
 |y::l,g,h0,h1=>by
  simp only[dv.L3,s8,jA,decide_eq_true_eq,wrap64 (z:=g+1) (by omega),xA,vC]
  by_cases h:g+1<=256
  .rw[OH k hk l (g+1) (by omega) h]
   grind
  .grind
theorem OI:∀(l:List ai),dv.L1 (.ok ()) l=.ok ()↔∀x∈l,(bB x 1).length<=256/\∀z∈bB x 1,z.depth<=16
 |[]=>by simp[dv.L1]
 |y::l=>by
  simp only[dv.L1]
  rw[OH _ (λ_ _=>rfl) _ 0 (by omega) (by omega),OI l]
  grind
theorem DA(p:aw):dv p=.ok ()↔(p.aD.length<=32/\p.ey.length<=16/\p.dt.length<=16)/\∀x∈aH p,(bB x 1).length<=256/\∀z∈bB x 1,z.depth<=16:=by
 unfold dv dv.K1
 rw[s8,OI]
 grind
theorem TV(p:aw):NZ (dv p):=by
 have h3:∀(k:Int->Except Int Unit),(∀a,NZ (k a))->∀l g,NZ (dv.L3 k l g):=by
  intro k hk l
  induction l with
  |nil=>exact λg=>hk g
  |cons y l ih=>exact λg=>NZ.exi (NZ.must (by omega)) (ih _)
 have h1:∀l,NZ (dv.L1 (.ok ()) l):=by
  intro l
  induction l with
  |nil=>exact NZ.ok
  |cons y l ih=>exact h3 _ (λ_=>ih) _ _
 exact NZ.exi (NZ.must (by omega)) (h1 _)
theorem O7(p:aw)(k:Except Int Unit):∀l,dw.L3 p k l=.ok ()↔(∀z∈l,((!(dR z.x))||dZ p.aD z.x.Name)=true)/\k=.ok ()
 |[]=>by simp[dw.L3]
 |y::l=>by simp only[dw.L3,s8,O7 p k l,vC,forall_eq_or_imp,and_assoc]
theorem O8(p:aw):∀l,dw.L1 p (.ok ()) l=.ok ()↔∀x∈l,∀z∈bB x 1,((!(dR z.x))||dZ p.aD z.x.Name)=true
 |[]=>by simp[dw.L1]
 |y::l=>by simp only[dw.L1,O7,O8 p l,vC,forall_eq_or_imp]
theorem I9(p:aw):dw p=.ok ()↔(gy p.Name=true/\cA p.aD gy=true/\cA p.ey gy=true)/\∀x∈aH p,∀z∈bB x 1,((!(dR z.x))||dZ p.aD z.x.Name)=true:=by
 unfold dw dw.K1
 rw[s8,O8]
 simp only[jA,and_assoc]
theorem Us(p:aw):NZ (dw p):=by
 have h3:∀(k:Except Int Unit),NZ k->∀l,NZ (dw.L3 p k l):=by
  intro k hk l
  induction l with
  |nil=>exact hk
  |cons y l ih=>exact NZ.exi (NZ.must (by omega)) ih
 have h1:∀l,NZ (dw.L1 p (.ok ()) l):=by
  intro l
  induction l with
  |nil=>exact NZ.ok
  |cons y l ih=>exact h3 _ ih _
 exact NZ.exi (NZ.must (by omega)) (h1 _)
theorem R5(p:aw)(i:Nat)(k:Except Int Unit):∀l,bq.L4 p i k l=.ok ()↔(∀z∈l,(aY z.x.Kind 1 4&&kindsP z.x.Kind z.x)=true/\(decide ((i:Int)<IntKind.i64.wrap (((aH p).length:Int)-1))||(z.x.Kind != 4))=true)/\k=.ok ()
 |[]=>by simp[bq.L4]
 |y::l=>by simp only[bq.L4,s8,R5 p i k l,vC,forall_eq_or_imp,and_assoc]
theorem Ht(p:aw):∀l i,bq.L2 p (.ok ()) l i=.ok ()↔∀j x,l[j]? = some x->∀z∈bB x 1,(aY z.x.Kind 1 4&&kindsP z.x.Kind z.x)=true/\(decide (((i+j:Nat):Int)<IntKind.i64.wrap (((aH p).length:Int)-1))||(z.x.Kind != 4))=true
 |[],i=>by simp[bq.L2]
 |y::l,i=>by
  simp only[bq.L2]
  rw[R5,Ht p l (i+1)]
  constructor
  .grind
  .intro h
   refine⟨λz hz=>h 0 y rfl z hz,λj x hj z hz=>?_⟩
   have:=h (j+1) x (by simpa using hj) z hz
   grind
theorem Ej(p:aw)(k:Except Int Unit):∀l i,bq.L1 p k l i=.ok ()↔(∀j r,l[j]? = some r->((r.Kind.toList==(nthI p.ey (((i+j:Nat):Int))).toList)&&aY r.iJ 0 1099511627775)=true)/\k=.ok ()
 |[],i=>by simp[bq.L1]
 |y::l,i=>by
  simp only[bq.L1]
  rw[s8,Ej p k l (i+1)]
  constructor
  .grind
  .rintro⟨h,h3⟩
   refine⟨h 0 y rfl,λj r hj=>?_,h3⟩
   have:=h (j+1) r (by simpa using hj)
   grind
theorem VQ(p:aw):NZ (bq p):=by
 have h4:∀i(k:Except Int Unit),NZ k->∀l,NZ (bq.L4 p i k l):=by
  intro i k hk l
  induction l with
  |nil=>exact hk
  |cons y l ih=>exact NZ.exi (NZ.must (by omega)) (NZ.exi (NZ.must (by omega)) ih)
 have h2:∀l i,NZ (bq.L2 p (.ok ()) l i):=by
  intro l
  induction l with
  |nil=>exact λ_=>NZ.ok
  |cons y l ih=>exact λi=>h4 i _ (ih _) _
 have h1:∀l i,NZ (bq.L1 p (bq.K1 p) l i):=by
  intro l
  induction l with
  |nil=>exact λ_=>h2 _ _
  |cons y l ih=>exact λi=>NZ.exi (NZ.must (by omega)) (ih _)
 exact NZ.exi (NZ.must (by omega)) (h1 _ _)
theorem FN(p:aw):NZ (fx p):=
 NZ.exi (TV p) (NZ.exi (Us p) (NZ.exi (VQ p) NZ.ok))
theorem QR:exi x f=.ok ()↔x=.ok ()/\f ()=.ok ():=by
 cases x with
 |ok u=>simp[exi]
 |error e=>simp[exi]
theorem wp(p:aw):fx p=.ok ()↔dv p=.ok ()/\dw p=.ok ()/\bq p=.ok ():=by grind [fx,QR]
theorem OV(p:aw):(e8 p).2=attR (fx p):=by
 have hL:∀l i g,(e8.L1 p (e8.K1 p) l i g).2=0:=by
  intro l
  induction l with
  |nil=>exact λ_ _=>rfl
  |cons y l ih=>exact λi g=>ih _ _
 grind [e8,attR]
theorem P2(p:aw)(k:Int):∀l i,dF.L1 p k l i=0↔(∀j r,l[j]? = some r->r.BC=((i+j:Nat):Int)/\cW p.aD r.ai=true)/\k=0
 |[],i=>by simp[dF.L1]
 |y::l,i=>by
  simp only[dF.L1,Bool.cond_eq_ite]
  split
  .grind
  .next h=>
   simp only[xC,bne_iff_ne,vD,not_or,Decidable.not_not,Bool.not_eq_false]at h
   rw[P2 p k l (i+1)]
   constructor
   .grind
   .rintro⟨h1,h2⟩
    refine⟨λj r hj=>?_,h2⟩
    have:=h1 (j+1) r (by simpa using hj)
    grind
theorem Ev(p:aw):dF p=0↔fx p=.ok ()/\(∀(j:Nat)r,p.dt[j]? = some r->r.BC=(j:Int)/\cW p.aD r.ai=true)/\cW p.aD p.aP=true:=by
 unfold dF
 rw[OV]
 by_cases h:attR (fx p)=0
 .have h2:=(Mu (FN p)).1 h
  have hk:dF.K1 p=0↔cW p.aD p.aP=true:=by
   grind [dF.K1]
  rw[show(attR (fx p) != 0)=false from by simpa using h,cond_false,P2,hk]
  simp only[Nat.zero_add,h2,true_and]
 .grind [Mu,FN,attR]
theorem U9{x:Bool}:(bif c then false else x)=true↔c=false/\x=true:=by cases c<;>simp
theorem tr(off:List ByteArray):∀l,cW.L1 off true l=true↔∀z∈l,z.x.No=(bif dR z.x then bp off z.x.Name else 0)
 |[]=>by simp[cW.L1]
 |y::l=>by
  simp only[cW.L1,vC,forall_eq_or_imp]
  cases dR y.x with
  |true=>
   rw[cond_true,cond_true,U9,tr off l];simp
  |false=>
   rw[cond_false,cond_false,U9,tr off l];simp
theorem PD(v:ByteArray):∀(l:List ByteArray)(i:Nat),bp.L1 v (-1) l i=-1\/((i:Int)<=bp.L1 v (-1) l i/\bp.L1 v (-1) l i<((i+l.length:Nat):Int))
 |[],i=>.inl rfl
 |y::l,i=>by
  simp only[bp.L1,Bool.cond_eq_ite,xA]
  split
  .right;omega
  .rcases PD v l (i+1)with h|h
   .exact .inl h
   .right;omega
theorem Uy(l:List ByteArray)(v:ByteArray):bp l v<(l.length:Int):=by grind [bp,bp.K1,PD]
theorem sS(hc:dF p=0):p.dt.length=p.ey.length/\p.aD.length<=32/\(∀x∈aH p,OkX (p.aD.length:Int) x):=by
 obtain⟨h1,h2,h3⟩:=(Ev p).1 hc
 obtain⟨hs,hn,hf⟩:=(wp p).1 h1
 have hf':=hf
 unfold bq at hf
 rw[s8,Ej]at hf
 simp only[jA,decide_eq_true_eq,beq_iff_eq]at hf
 obtain⟨⟨⟨_,hlen⟩,hmode⟩,hrules,hK⟩:=hf
 unfold bq.K1 bq.K2 at hK
 rw[Ht]at hK
 obtain⟨⟨ho,_,_⟩,_⟩:=(DA p).1 hs
 obtain⟨_,hnm⟩:=(I9 p).1 hn
 refine⟨by omega,ho,λx hx=>?_⟩
 have hres:∀z∈bB x 1,z.x.No=(bif dR z.x then bp p.aD z.x.Name else 0):=by
  have hr:cW p.aD x=true:=by
   rw[ox]at hx
   rcases qE.1 hx with hx|hx
   .obtain⟨r,hr,rfl⟩:=qM.1 hx
    obtain⟨j,hj⟩:=YB hr
    exact(h2 j r hj).2
   .rw[kB.1 hx];exact h3
  all_goals grind [cW,cW.K1,tr]
 obtain⟨j,hj⟩:=YB hx
 have hfm:=λz hz=>(hK j x hj z hz).1
 have hnx:=hnm x hx
 clear hK hnm hj
 let Q:ai->Prop:=λx=>(1<=x.Kind/\x.Kind<=4)/\(x.Kind<=2->0<=x.No/\x.No<(p.aD.length:Int))/\(x.Kind=4->x.L.length=2)
 have all:∀z∈bB x 1,(λx:ai=>(1<=x.Kind/\x.Kind<=4)/\(x.Kind<=2->0<=x.No/\x.No<(p.aD.length:Int))/\(x.Kind=4->x.L.length=2)) z.x:=by
  intro z hz
  have a:=hfm z hz
  have b:=hnx z hz
  have c:=hres z hz
  simp only[jA,aY,decide_eq_true_eq]at a
  refine⟨a.1,λhk=>?_,λhk=>?_⟩
  .have hnamed:dR z.x=true:=by
    have:z.x.Kind=1\/z.x.Kind=2:=by omega
    rcases this with e|e<;>simp[dR,e]
   simp only[hnamed,Bool.not_true,Bool.false_or,cond_true]at b c
   have hge:0<=bp p.aD z.x.Name:=by
    have h9:=b
    simp only[dZ,decide_eq_true_eq,ge_iff_le]at h9
    exact h9
   have:=Uy p.aD z.x.Name
   omega
  .have h9:=a.2
   rw[hk]at h9
   simp only[kindsP]at h9
   simp[lF]at h9
   omega
 clear hfm hnx hres hx
 revert all
 refine ai.ind (P:=λx=>(∀z∈bB x 1,Q z.x)->OkX (p.aD.length:Int) x) ?_ x
 intro x ih all
 rw[s7 Q]at all
 obtain⟨⟨a,b,c⟩,d⟩:=all
 exact OkX.mk x a b c λy hy=>ih y hy (d y hy)
theorem Kd(hc:dF p=0):(1<=p.Mode/\p.Mode<=4)/\p.dt.length<=16/\∀r∈p.dt,0<=r.iJ/\r.iJ<=1099511627775:=by
 obtain⟨h1,_,_⟩:=(Ev p).1 hc
 obtain⟨hs,_,hf⟩:=(wp p).1 h1
 unfold bq at hf
 rw[s8,Ej]at hf
 simp only[jA,aY,decide_eq_true_eq]at hf
 obtain⟨⟨⟨_,_⟩,hmode⟩,hrules,_⟩:=hf
 obtain⟨⟨_,_,hr⟩,_⟩:=(DA p).1 hs
 refine⟨hmode,hr,λr hr=>?_⟩
 obtain⟨j,hj⟩:=YB hr
 exact(hrules j r hj).2
theorem De{r:fI}(h:r∈p.dt):r.ai∈aH p:=by grind [ox]
theorem LN:∀(l:List Int)(g:Int),dL.L1 dL.K1 l g=true↔(∀x∈l,g<x/\x<64)/\l.Pairwise (·<·)
 |[],g=>by simp[dL.L1,dL.K1]
 |y::l,g=>by
  simp only[dL.L1,Bool.cond_eq_ite,xC,decide_eq_true_eq]
  split
  .next h=>
   constructor
   .intro h';cases h'
   .rintro⟨h1,_⟩;have:=h1 y (zB ..);omega
  .next h=>
   rw[LN l y,List.pairwise_cons]
   simp only[vC,forall_eq_or_imp]
   constructor
   .rintro⟨h1,h2⟩
    exact⟨⟨by omega,λx hx=>by have:=h1 x hx;omega⟩,λx hx=>(h1 x hx).1,h2⟩
   .rintro⟨⟨h1,h2⟩,h3,h4⟩
    exact⟨λx hx=>⟨h3 x hx,(h2 x hx).2⟩,h4⟩
theorem LK(l:List Int):dL l=true↔(∀x∈l,0<=x/\x<64)/\l.Pairwise (·<·):=by grind [dL,LN]
theorem KR{l:List Int}(h:dL l=true):l.Pairwise (·<=·):=((LK l).1 h).2.imp (λh=>Int.le_of_lt h)
theorem LE(h:dg hs n=true):(hs.length:Int)=n:=by
 have h3:∀(k:List Int->Bool)(l:List aV)(g:List Int),dg.L3 k l g=true->∃g',k g'=true:=by
  intro k l
  induction l with
  |nil=>exact λg h=>⟨g,h⟩
  |cons y l ih=>
   intro g h
   simp only[dg.L3,Bool.cond_eq_ite]at h
   split at h
   .cases h
   .exact ih _ h
 have h1:∀(k:Bool)(l:List (List aV)),dg.L1 k l=true->k=true:=by
  intro k l
  induction l with
  |nil=>exact λh=>h
  |cons y l ih=>
   intro h
   obtain⟨g',hg⟩:=h3 _ _ _ h
   simp only[Bool.cond_eq_ite]at hg
   split at hg
   .cases hg
   .exact ih hg
 have:=h1 _ _ h
 simpa[dg.K1]using this
theorem Gq:∀(l:List aC)(g:Int),-1<=g->g<=1048576->(bE.L1 bE.K1 l g=0 ↔
  (∀v∈l,(0<=v.At/\v.At<=1099511627775)/\(0<=v.eH/\v.eH<=1099511627775)/\v.No<=1048576/\dF v.aw=0)/\(∀v∈l,g<v.No)/\l.Pairwise (λa b=>a.No<b.No))
 |[],g,_,_=>by simp[bE.L1,bE.K1]
 |y::l,g,h0,h1=>by
  simp only[bE.L1,wrap64 (z:=g+1) (by omega),aY]
  by_cases hy:((0<=y.At/\y.At<=1099511627775)/\(0<=y.eH/\y.eH<=1099511627775)/\y.No<=1048576/\dF y.aw=0)/\g<y.No
  .obtain⟨⟨⟨a,a'⟩,⟨b,b'⟩,c,d⟩,e⟩:=hy
   have hc:(!(decide (g+1<=y.No)&&decide (y.No<=1048576))||!(decide (0<=y.At)&&decide (y.At<=1099511627775))||!(decide (0<=y.eH)&&decide (y.eH<=1099511627775))||dF y.aw != 0)=false:=by
    simp[a,a',b,b',c,d];omega
   rw[hc,cond_false,Gq l y.No (by omega) c,List.pairwise_cons]
   grind
  .grind
structure Kl(l:List aC):Prop where
 len:l.length<=256
 each:∀v∈l,(0<=v.At/\v.At<=1099511627775)/\(0<=v.eH/\v.eH<=1099511627775)/\(0<=v.No/\v.No<=1048576)/\dF v.aw=0
 inc:l.Pairwise (λa b=>a.No<b.No)
theorem rI(l:List aC):bE l=0↔Kl l:=by
 unfold bE
 by_cases hl:l.length<=256
 .rw[show decide (256<(l.length:Int))=false from decide_eq_false (by omega),cond_false,Gq l (-1) (by omega) (by omega)]
  constructor
  .rintro⟨h1,h2,h3⟩;exact⟨hl,λv hv=>by have a:=h1 v hv;have b:=h2 v hv;exact⟨a.1,a.2.1,⟨by omega,a.2.2.1⟩,a.2.2.2⟩,h3⟩
  .rintro⟨_,h1,h3⟩;exact⟨λv hv=>by have:=h1 v hv;exact⟨this.1,this.2.1,by omega,this.2.2.2⟩,λv hv=>by have:=h1 v hv;omega,h3⟩
 .rw[show decide (256<(l.length:Int))=true from decide_eq_true (by omega),cond_true]
  exact⟨λh=>by omega,λh=>absurd h.len hl⟩
theorem Kl.mode(g:Kl l){v:aC}(hv:v∈l):1<=v.aw.Mode/\v.aw.Mode<=4:=(Kd (g.each v hv).2.2.2).1
theorem i8{κ α : Type}[DecidableEq κ](k:κ)(v:α):∀(m:List (κ×α))(x:κ),mget? (mput m k v) x=if x=k then some v else mget? m x
 |[],x=>by simp[mput,mget?]
 |(k',v')::m,x=>by
  simp only[mput]
  by_cases e:k=k'
  .subst e;by_cases e2:x=k<;>simp[mget?,e2]
  .simp only[e,if_false,mget?,i8 k v m x]
   grind
theorem rF{κ α : Type}[DecidableEq κ]{x:κ}:∀{m:List (κ×α)},x∈m.map (·.1)->∃v,mget? m x=some v/\(x,v)∈m
 |(k,v)::m,h=>by
  by_cases e:x=k
  .subst e;exact⟨v,by simp[mget?],by simp⟩
  .simp only[jG,vC,e,false_or]at h
   obtain⟨u,h1,h2⟩:=rF h
   exact⟨u,by simp[mget?,e,h1],qC _ h2⟩
theorem E5{κ α : Type}[DecidableEq κ]{k:κ}{v:α}{q:κ×α}:∀{m:List (κ×α)},q∈mput m k v->q=(k,v)\/q∈m
 |[],h=>by simp[mput]at h;exact .inl h
 |(k',v')::m,h=>by
  simp only[mput]at h
  split at h
  .grind
  .rcases vC.1 h with h|h
   .exact .inr (h▸zB ..)
   .rcases E5 h with h|h
    all_goals grind
theorem Jm(g:List (Int×aC)):∀l,bO.L2 g [] l=l.map λy=>(y,mgetD g y (aC.mk 0 0 0 (aw.mk (⟨#[]⟩:ByteArray) [] [] [] (ai.mk 0 0 0 (⟨#[]⟩:ByteArray) []) 0)))
 |[]=>rfl
 |y::l=>by simp[bO.L2,Jm g l]
def inForceM(ad fH:Int):List aC->Int->List (Int×aC)->List (Int×aC)
 |[],_,m=>m
 |y::l,b,m=>bif decide (ad<y.eH)then inForceM ad fH l b m else bif decide (y.At<=fH)then(bif decide (y.At<b)then inForceM ad fH l b m else inForceM ad fH l y.At (mput m fH y))else inForceM ad fH l b (mput m y.At y)
theorem Jn(ad fH:Int)(k:Int->List (Int×aC)->List (Int×aC))(hk:∀a b m,k a m=k b m):∀l b m,bO.L1 ad fH k l b m=k 0 (inForceM ad fH l b m)
 |[],b,m=>hk _ _ _
 |y::l,b,m=>by
  simp only[bO.L1,inForceM,Jn ad fH k hk l]
  grind
theorem yS(l:List aC)(fH ad:Int):gh l fH ad=(sortI ((inForceM ad fH l (-1) []).map Prod.fst)).map λy=>(y,mgetD (inForceM ad fH l (-1) []) y (aC.mk 0 0 0 (aw.mk (⟨#[]⟩:ByteArray) [] [] [] (ai.mk 0 0 0 (⟨#[]⟩:ByteArray) []) 0))):=by
 unfold gh bO
 rw[Jn _ _ _ (λ_ _ _=>rfl)]
 exact Jm _ _
theorem rY(ad fH:Int)(P:Int×aC->Prop):∀(l:List aC)b m,(∀y∈l,y.At<=fH->P (fH,y))->(∀y∈l,fH<y.At->P (y.At,y))->(∀q∈m,P q)->∀q∈inForceM ad fH l b m,P q
 |[],_,_,_,_,hm=>hm
 |y::l,b,m,h1,h2,hm=>by
  have h1':=λz hz=>h1 z (qC _ hz)
  have h2':=λz hz=>h2 z (qC _ hz)
  simp only[inForceM,Bool.cond_eq_ite,decide_eq_true_eq]
  split
  .exact rY ad fH P l b m h1' h2' hm
  .split
   .next ha=>
    split
    .exact rY ad fH P l b m h1' h2' hm
    .refine rY ad fH P l _ _ h1' h2' (λq hq=>?_)
     grind [E5]
   .next ha=>
    refine rY ad fH P l _ _ h1' h2' (λq hq=>?_)
    grind [E5]
theorem F2{fH:Int}(P:Int×aC->Prop)(h1:∀y∈l,y.At<=fH->P (fH,y))(h2:∀y∈l,fH<y.At->P (y.At,y)):∀q∈gh l fH ad,P q:=by
 intro q hq
 rw[yS]at hq
 obtain⟨y,hy,rfl⟩:=qM.1 hq
 have hy':=(m7 _).mem_iff.1 hy
 obtain⟨v,e,hv⟩:=rF hy'
 have:mgetD (inForceM ad fH l (-1) []) y (aC.mk 0 0 0 (aw.mk (⟨#[]⟩:ByteArray) [] [] [] (ai.mk 0 0 0 (⟨#[]⟩:ByteArray) []) 0))=v:=by simp[mgetD,e]
 simp only[this]
 exact rY ad fH P l (-1) [] h1 h2 (λq hq=>(vA hq).elim) _ hv
theorem Bf{fH:Int}:∀q∈gh l fH ad,q.2∈l:=
 F2 (λq=>q.2∈l) (λy hy _=>hy) (λy hy _=>hy)
theorem uF(ad fH:Int):∀(l:List aC)b m,(inForceM ad fH l b m).length<=m.length+l.length
 |[],_,_=>zE _
 |y::l,b,m=>by
  have a1:=uF ad fH l b m
  have a2:=uF ad fH l y.At (mput m fH y)
  have a3:=uF ad fH l b (mput m y.At y)
  have b2:=rV m fH y
  have b3:=rV m y.At y
  simp only[inForceM,Bool.cond_eq_ite,xA]
  grind
theorem F1(l:List aC)(fH ad:Int):(gh l fH ad).length<=l.length:=by grind [yS,kO,uF]
theorem DD:∀{a b:List OSeat},a.Pairwise (λx y=>x.bu<y.bu)->b.Pairwise (λx y=>x.bu<y.bu)->a.Perm b->a=b
 |[],b,_,_,p=>(List.Perm.nil_eq p)
 |x::a,[],_,_,p=>absurd p.length_eq (by simp)
 |x::a,y::b,ha,hb,p=>by
  have hx:x=y:=by
   have h1:x∈y::b:=p.mem_iff.1 (zB ..)
   have h2:y∈x::a:=p.mem_iff.2 (zB ..)
   rw[List.pairwise_cons]at ha hb
   grind
  subst hx
  rw[List.pairwise_cons]at ha hb
  rw[DD ha.2 hb.2 (List.Perm.cons_inv p)]
theorem yB{l:List OSeat}(hn:l.Nodup)(hs:l.Pairwise (λx y=>x.bu<=y.bu)):(l.filter (λy=>y.aI==aI)).Pairwise (λx y=>x.bu<y.bu):=by
 induction l with
 |nil=>exact List.Pairwise.nil
 |cons x l ih=>
  rw[jQ]at hn
  rw[List.pairwise_cons]at hs
  rw[List.filter_cons]
  split
  .next h=>
   rw[List.pairwise_cons]
   refine⟨λy hy=>?_,ih hn.2 hs.2⟩
   obtain⟨hy1,hy2⟩:=qN.1 hy
   have h1:=hs.1 y hy1
   rcases Int.lt_or_eq_of_le h1 with h2|h2
   .exact h2
   .exfalso
    have:x=y:=by
     cases x;cases y
     simp at h hy2 h2
     simp[h,hy2,h2]
    exact hn.1 (this▸hy1)
  .exact ih hn.2 hs.2
theorem vw(m:List (OSeat×aA))(aI:Int):∀l,cm.L1 m aI [] l=(l.filter λy=>y.aI==aI).filterMap λy=>bif(mgetD m y (aA.mk 0 0 0 0 0 0 false)).mU then none else some (aV.mk (mgetD m y (aA.mk 0 0 0 0 0 0 false)).bw (mgetD m y (aA.mk 0 0 0 0 0 0 false)).fD)
 |[]=>rfl
 |y::l=>by
  simp only[cm.L1,vw m aI l,List.filter_cons]
  grind
theorem K5{m:List (OSeat×aA)}{ys:List OSeat}(hn:(m.map (·.1)).Nodup)(hp:ys.Perm (m.map Prod.fst))(hs:ys.Pairwise (λx y=>x.bu<=y.bu)):
  cm m aI=[]++((cm.L1 m aI cm.K1) ys):=by
 unfold cm cm.K1
 rw[qD,vw,vw]
 have h1:(seatS (m.map Prod.fst)).Nodup:=(pR _).nodup_iff.2 hn
 have h2:ys.Nodup:=hp.nodup_iff.2 hn
 rw[DD (yB h1 (yC _)) (yB h2 hs) (((pR _).trans hp.symm).filter _)]
theorem AX(key:aA->OSeat×Bool)(later:aA->aA->Bool):∀(l:List aA)m,(cY.L1 key later cY.K1 l m).length<=m.length+l.length
 |[],m=>by simp[cY.L1,cY.K1]
 |y::l,m=>by
  have a:=AX key later l m
  have b:=AX key later l (mput m (key y).1 y)
  have c:=rV m (key y).1 y
  simp only[cY.L1,Bool.cond_eq_ite,xA]
  split<;>omega
theorem Dy(l:List aA)(a b:Int):(gj l a b).length<=l.length:=by
 have:=AX (λfX=>jW fX a b) jU l []
 simpa[gj,cY]using this
theorem Gm(l:List aV):ll l=l:=by
 have:∀(l g:List aV),dz.L1 dz.K1 l g=g++l:=by
  intro l
  induction l with
  |nil=>intro g;simp[dz.L1,dz.K1]
  |cons y l ih=>intro g;simp[dz.L1,ih]
 simp[ll,dz,this]
theorem F5(m:List (OSeat×aA))(aI:Int):(nE m aI).length<=m.length:=by
 unfold nE cm cm.K1
 rw[vw]
 have h1:=List.length_filterMap_le (λy=>bif(mgetD m y (aA.mk 0 0 0 0 0 0 false)).mU then none else some (aV.mk (mgetD m y (aA.mk 0 0 0 0 0 0 false)).bw (mgetD m y (aA.mk 0 0 0 0 0 0 false)).fD)) ((seatS (m.map Prod.fst)).filter λy=>y.aI==aI)
 have h2:=List.length_filter_le (λy:OSeat=>y.aI==aI) (seatS (m.map Prod.fst))
 have h3:=(pR (m.map Prod.fst)).length_eq
 rw[List.length_map]at h3
 omega
theorem BD(l:List aA)(aI a b:Int):(jh l aI a b).1.length<=l.length:=by grind [jh,Gm,F5,Dy]
theorem kh(r:Register):cQ r=0↔du r.fj=0/\dG r.dY=0/\cK r.gu=0/\bY r.fF=0/\bE r.Versions=0/\aR r.cj=0/\bN r.bS=0:=by
 have e:cQ r=(bif du r.fj != 0 then 300 else bif dG r.dY != 0 then 300 else bif cK r.gu != 0 then 300 else bif bY r.fF != 0 then 300 else bif bE r.Versions != 0 then 300 else bif aR r.cj != 0 then 300 else bif bN r.bS != 0 then 300 else 0):=rfl
 rw[e]
 have key:∀(a x:Int),(bif a != 0 then 300 else x)=0↔a=0/\x=0:=by
  grind
 simp only[key,and_true]
theorem RU(ew:Int)(k:Int->Bool):∀(l:List Int)(g:Int),fC.L1 ew k l g=true↔((∀x∈l,g<x/\x<ew)/\l.Pairwise (·<·))/\∃g',(l=[]/\g'=g\/l.getLast? = some g')/\k g'=true
 |[],g=>by simp[fC.L1]
 |y::l,g=>by
  simp only[fC.L1,Bool.cond_eq_ite,xC,decide_eq_true_eq]
  split
  .next h=>
   constructor
   .intro h';cases h'
   .rintro⟨⟨h1,_⟩,_⟩;have:=h1 y (zB ..);omega
  .next h=>
   rw[RU ew k l y,List.pairwise_cons]
   grind
theorem Hq(l:List Int)(ew:Int):fC l ew=true↔((∀x∈l,0<=x/\x<ew)/\l.Pairwise (·<·))/\l.length<=16:=by
 unfold fC
 rw[RU]
 constructor
 .rintro⟨⟨h1,h2⟩,g',_,h3⟩
  refine⟨⟨λx hx=>by have:=h1 x hx;omega,h2⟩,?_⟩
  simp only[fC.K1,decide_eq_true_eq]at h3
  omega
 .rintro⟨⟨h1,h2⟩,h3⟩
  refine⟨⟨λx hx=>by have:=h1 x hx;omega,h2⟩,?_⟩
  cases l with
  |nil=>exact⟨_,.inl ⟨rfl,rfl⟩,by simp[fC.K1]⟩
  |cons y l=>
   refine⟨(y::l).getLast (by simp),.inr (List.getLast?_eq_some_getLast _),?_⟩
   simp only[fC.K1,decide_eq_true_eq]
   omega
structure Sr(d:aj):Prop where
 no:0<=d.No/\d.No<4096
 at_:0<=d.At/\d.At<1099511627776
 kind:0<=d.Kind/\d.Kind<16
 value:0<=d.Value/\d.Value<=1099511627776
 fH:0<=d.From/\d.From<d.nS
 Xp:d.nS<=1099511627776
 bQ:((∀x∈d.nz,0<=x/\x<1048577)/\d.nz.Pairwise (·<·))/\d.nz.length<=16
 revokes:((∀x∈d.eX,0<=x/\x<d.No)/\d.eX.Pairwise (·<·))/\d.eX.length<=16
 needs:((∀x∈d.eQ,0<=x/\x<d.No)/\d.eQ.Pairwise (·<·))/\d.eQ.length<=16
theorem OT(d:aj):m9 d=true↔Sr d:=by
 unfold m9 j3
 simp only[jA,decide_eq_true_eq,Hq]
 constructor
 .rintro⟨⟨⟨⟨⟨⟨⟨⟨⟨⟨⟨⟨a,b⟩,c,d⟩,e⟩,f⟩,g⟩,h⟩,i⟩,j⟩,k⟩,l⟩,m⟩,n⟩
  exact⟨⟨a,b⟩,⟨c,d⟩,⟨e,f⟩,⟨g,h⟩,⟨i,j⟩,k,l,m,n⟩
 .rintro⟨⟨a,b⟩,⟨c,d⟩,⟨e,f⟩,⟨g,h⟩,⟨i,j⟩,k,l,m,n⟩
  grind
theorem J4(l0:List aj):∀(l:List aj)(i:Nat),aR.L1 l0 0 l i=0->∀d∈l,m9 d=true
 |[],_,_,_,hd=>(vA hd).elim
 |y::l,i,h,d,hd=>by
  simp only[aR.L1,Bool.cond_eq_ite]at h
  split at h
  .omega
  .next hc=>
   simp only[xC,not_or,vD,Bool.not_eq_false]at hc
   rcases vC.1 hd with rfl|hd
   .exact hc.1.1
   .exact J4 l0 l (i+1) h d hd
theorem Fp{l:List aj}(h:aR l=0):∀d∈l,Sr d:=by
 unfold aR aR.K1 at h
 rw[Bool.cond_eq_ite]at h
 split at h
 .omega
 .exact λd hd=>(OT d).1 (J4 l l 0 h d hd)
theorem D7(f:aj->Bool):∀(l:List aj)(i:Nat),(ah.L1 f ah.K1 l i=-1/\∀x∈l,f x=false) \/
  ∃a y b,l=a++y::b/\ah.L1 f ah.K1 l i=((i+a.length:Nat):Int)/\f y=true/\∀x∈a,f x=false
 |[],i=>.inl ⟨rfl,λ_ h=>(vA h).elim⟩
 |y::l,i=>by
  simp only[ah.L1]
  cases hy:f y with
  |true=>exact .inr ⟨[],y,l,rfl,by simp,hy,λ_ h=>(vA h).elim⟩
  |false=>
   rcases D7 f l (i+1)with⟨h1,h2⟩|⟨a,z,b,rfl,h2,h3,h4⟩
   all_goals grind
theorem QH(mode:Int)(l:List aC)(old:Bool):(judgesP mode l old).length<=l.length:=by grind [judgesP,kc,kb,jp]
theorem Ca(k:List Int->List Int×Int×Int):∀(l:List aC)(g:List Int),aN.L2 k l g=k (g++l.map (·.No))
 |[],g=>by simp[aN.L2]
 |y::l,g=>by simp[aN.L2,Ca k l]
theorem MA(aW at_:Int)(P:List Int×Int×Int->Prop)(n:Nat)(k:Bool->List aC->List Int×Int×Int)(hk:∀b g,g.length<=n->P (k b g)):∀(l:List (Int×aC))b g,g.length+l.length<=n->P (aN.L1 aW at_ k l b g)
 |[],b,g,h=>by simpa[aN.L1]using hk b g (by simpa using h)
 |y::l,b,g,h=>by
  simp only[aN.L1]
  simp only[xA]at h
  cases decide (at_<y.1)
  .exact MA aW at_ P n k hk l _ _ (by simp;omega)
  .exact hk _ _ (by omega)
theorem Kj(l:List aC)(aW at_ ad:Int):(aN l aW at_ ad).1.length<=l.length:=by
 unfold aN
 cases(bE l != 0)
 .cases(((!(io aW))||(!(io at_)))||(!(io ad)))||decide (at_<aW)
  .simp only[cond_false]
   refine MA aW at_ (λr=>r.1.length<=l.length) l.length _ ?_ _ _ _ (by have:=F1 l aW ad;simpa using this)
   intro b g hg
   unfold aN.K1
   cases((g.length:Int)==0)
   .simp only[cond_false,Ca,aN.K2,qD,kO,List.length_map]
    exact zN (QH _ _ _) hg
   .simp
  .simp
 .simp
theorem oK:smR (kM [] [] [] [] [] [] []):=by simp[smR,smV]
theorem w5{P:Program}{f:FuncId}{args:List Value}{h:HF}{v v':Value}(t:Ret P f args h v)(e:v=v'):Ret P f args h v':=e▸t
structure XD(r:Register)(bD:Int)(gv l:List Int):Prop where
 times:∀x∈l,0<=x/\x<1099511627776
 check:ij r=0
 doc0:0<=cI r bD
 people:fZ gv=true
theorem RH(no:Int):∀(l:List aj)(i:Nat),0<=cI.L1 no cI.K1 l i->∃(j:Nat)(d:aj),l[j]? = some d/\d.No=no/\cI.L1 no cI.K1 l i=((i+j:Nat):Int)
 |[],i,h=>by simp[cI.L1,cI.K1]at h
 |y::l,i,h=>by
  simp only[cI.L1,Bool.cond_eq_ite,beq_iff_eq]at h ⊢
  split
  .next e=>exact⟨0,y,rfl,e,rfl⟩
  .next e=>
   rw[if_neg e]at h
   obtain⟨j,d,h1,h2,h3⟩:=RH no l (i+1) h
   exact⟨j+1,d,by simpa using h1,h2,by rw[h3];congr 1;omega⟩
theorem RG{r:Register}{no:Int}(h:0<=cI r no):cI r no<(r.cj.length:Int)/\nthI r.cj (cI r no)∈r.cj/\(nthI r.cj (cI r no)).No=no:=by
 obtain⟨j,d,h1,h2,h3⟩:=RH no r.cj 0 h
 rw[Nat.zero_add]at h3
 have hl:=(List.getElem?_eq_some_iff.1 h1).1
 have e:cI r no=(j:Int):=h3
 have hb:0<=cI r no/\cI r no<(r.cj.length:Int):=by omega
 have hg:=eu hb
 grind
theorem U6(L:List aj):∀(l:List aj)(i:Nat),dH.L1 L dH.K1 l i=0->∀d∈l,nO d=true
 |[],_,_=>λ_ h=>(vA h).elim
 |y::l,i,h=>by
  simp only[dH.L1,Bool.cond_eq_ite,xC,not_or]at h
  split at h
  .simp at h
  .next hc=>
   intro d hd
   rcases vC.1 hd with rfl|hd
   .grind
   .exact U6 L l (i+1) h d hd
theorem P1{r:Register}(h:ij r=0):iH r.fj=0/\jd r.dY=0/\iS r.gu=0/\iE r.fF=0/\dE r.Versions=0/\dH r.cj=0/\gV r.bS=0:=by
 simp only[ij,Bool.cond_eq_ite,xC,bne_iff_ne]at h
 grind
theorem U5{l:List aj}(h:dH l=0):l.length<=4096/\∀d∈l,nO d=true:=by
 simp only[dH,Bool.cond_eq_ite,decide_eq_true_eq]at h
 grind [U6]
theorem EJ{l:List Int}(h:l.Pairwise (·<=·))(hn:l.Nodup):l.Pairwise (·<·):=by
 induction l with
 |nil=>exact List.Pairwise.nil
 |cons x l ih=>
  rw[List.pairwise_cons]at h ⊢
  grind
section chk
variable {α : Type} [Inhabited α]
def refChk(R:α->Bool)(no:α->Int)(c:Int)(L:List α):List α->Nat->Int
 |[],_=>0
 |y::l,i=>bif(!(R y))||(decide (0<(i:Int))&&decide (no y<=no (nthI L ((i:Int)-1))))then c else refChk R no c L l (i+1)
def prgChk(R:α->Bool)(no:α->Int)(c:Int):List α->Int->Int
 |[],_=>0
 |y::l,g=>bif(!(R y))||decide (no y<=g)then c else prgChk R no c l (no y)
theorem P0(R:α->Bool)(no:α->Int)(c:Int)(L:List α):∀(l pre:List α)(x:α),L=(pre++[x])++l->refChk R no c L l (pre.length+1)=prgChk R no c l (no x)
 |[],_,_,_=>rfl
 |y::l,pre,x,h=>by
  have hx:nthI L (((pre.length+1:Nat):Int)-1)=x:=by
   have hb:0<=(((pre.length+1:Nat):Int)-1)/\(((pre.length+1:Nat):Int)-1)<(L.length:Int):=by rw[h];simp;omega
   have hg:=eu hb
   grind
  have hd:decide (0<((pre.length+1:Nat):Int))=true:=by rw[decide_eq_true_eq];omega
  have ih:=P0 R no c L l (pre++[x]) y (by rw[h];simp)
  rw[kA,xA,xB,Nat.zero_add]at ih
  simp only[refChk,prgChk,hx,hd,Bool.true_and,ih]
theorem Kc(R:α->Bool)(no:α->Int)(c:Int)(hR:∀y,R y=true->0<=no y)(l:List α):refChk R no c l l 0=prgChk R no c l (-1):=by
 cases l with
 |nil=>rfl
 |cons y l=>
  have ih:=P0 R no c (y::l) l [] y rfl
  simp only[xB,Nat.zero_add]at ih
  simp only[refChk,prgChk,Nat.zero_add,ih]
  grind
end chk
theorem wD(l:List aA):du l=iH l:=by
 have hR:∀x,nV x=oF x:=λx=>by
  rw[jF]
  simp only[nV,oF,Bool.cond_eq_ite]
  cases x.mU<;>simp only[if_true,if_false,kT,jA,xC,vD,decide_eq_true_eq,decide_eq_false_iff_not,beq_iff_eq,fq,fQ,gl,ji,mt,mO,oZ,Bool.and_eq_false_iff]
   <;> (split<;>simp only[kT,iff_false,decide_eq_true_eq,jA,beq_iff_eq]<;>omega)
 have h1:∀(L l:List aA)i,iH.L1 L iH.K1 l i=refChk oF (·.No) 150 L l i:=by
  intro L l
  induction l with
  |nil=>intro i;rfl
  |cons y l ih=>intro i;simp only[iH.L1,refChk,ih]
 have h2:∀(l:List aA)g,du.L1 du.K1 l g=prgChk oF (·.No) 150 l g:=by
  intro l
  induction l with
  |nil=>intro g;rfl
  |cons y l ih=>intro g;simp only[du.L1,prgChk,ih,hR]
 unfold du iH
 rw[h1,h2,Kc]
 intro y hy
 simp only[oF,Bool.cond_eq_ite]at hy
 grind
theorem yX(l:List aE):dG l=jd l:=by
 have hR:∀x,oz x=oE x:=λx=>by
  rw[jF]
  simp only[oz,oE,Bool.cond_eq_ite,dB,j4,iW,gE,oX,nk]
  grind
 have h1:∀(L l:List aE)i,jd.L1 L jd.K1 l i=refChk oE (·.No) 160 L l i:=by
  intro L l
  induction l with
  |nil=>intro i;rfl
  |cons y l ih=>intro i;simp only[jd.L1,refChk,ih]
 have h2:∀(l:List aE)g,dG.L1 dG.K1 l g=prgChk oE (·.No) 160 l g:=by
  intro l
  induction l with
  |nil=>intro g;rfl
  |cons y l ih=>intro g;simp only[dG.L1,prgChk,ih,hR]
 unfold dG jd
 rw[h1,h2,Kc]
 intro y hy
 simp only[oE,Bool.cond_eq_ite]at hy
 split at hy
 .cases hy
 .next h=>simp only[xC,not_or,decide_eq_true_eq,gE,vD,Bool.and_eq_false_iff,decide_eq_false_iff_not]at h;omega
theorem tb(l:List av):cK l=iS l:=by
 have hR:∀x,nG x=oB x:=λx=>by
  rw[jF]
  simp only[nG,oB,Bool.cond_eq_ite,dS,oU,nM,qj]
  grind
 have h1:∀(L l:List av)i,iS.L1 L iS.K1 l i=refChk oB (·.No) 290 L l i:=by
  intro L l
  induction l with
  |nil=>intro i;rfl
  |cons y l ih=>intro i;simp only[iS.L1,refChk,ih]
 have h2:∀(l:List av)g,cK.L1 cK.K1 l g=prgChk oB (·.No) 290 l g:=by
  intro l
  induction l with
  |nil=>intro g;rfl
  |cons y l ih=>intro g;simp only[cK.L1,prgChk,ih,hR]
 unfold cK iS
 rw[h1,h2,Kc]
 intro y hy
 simp only[oB,Bool.cond_eq_ite]at hy
 grind
theorem F3(f:Int->Bool):∀(l:List Int)(i:Nat),decide (0<=eU.L1 f eU.K1 l i)=l.any f
 |[],i=>by simp[eU.L1,eU.K1]
 |y::l,i=>by
  have ih:=F3 f l (i+1)
  simp only[eU.L1,List.any_cons]
  grind
theorem containsF(l:List Int)(f:Int->Bool):fB l f=l.any f:=F3 f l 0
theorem tP(l:List Budget):bY l=iE l:=by
 have hR:∀x,mP x=oD x:=λx=>by
  rw[jF]
  simp only[mP,oD,Bool.cond_eq_ite,ct,containsF,lV,List.any_cons,List.any_nil,Bool.or_false,ie,jg]
  grind
 have h1:∀(L l:List Budget)i,iE.L1 L iE.K1 l i=refChk oD (·.No) 180 L l i:=by
  intro L l
  induction l with
  |nil=>intro i;rfl
  |cons y l ih=>intro i;simp only[iE.L1,refChk,ih]
 have h2:∀(l:List Budget)g,bY.L1 bY.K1 l g=prgChk oD (·.No) 180 l g:=by
  intro l
  induction l with
  |nil=>intro g;rfl
  |cons y l ih=>intro g;simp only[bY.L1,prgChk,ih,hR]
 unfold bY iE
 rw[h1,h2,Kc]
 intro y hy
 simp only[oD,Bool.cond_eq_ite]at hy
 split at hy
 .cases hy
 .next h=>simp only[xC,not_or,decide_eq_true_eq,ie,vD,Bool.and_eq_false_iff,decide_eq_false_iff_not]at h;omega
theorem td(l:List ae):bN l=gV l:=by
 have hR:∀x,lA x=oC x:=λx=>by
  rw[jF]
  simp only[lA,oC,Bool.cond_eq_ite,eN,containsF,jZ,List.any_cons,List.any_nil,Bool.or_false,kU,iO,pA]
  grind
 have h1:∀(L l:List ae)i,gV.L1 L gV.K1 l i=refChk oC (·.No) 280 L l i:=by
  intro L l
  induction l with
  |nil=>intro i;rfl
  |cons y l ih=>intro i;simp only[gV.L1,refChk,ih]
 have h2:∀(l:List ae)g,bN.L1 bN.K1 l g=prgChk oC (·.No) 280 l g:=by
  intro l
  induction l with
  |nil=>intro g;rfl
  |cons y l ih=>intro g;simp only[bN.L1,prgChk,ih,hR]
 unfold bN gV
 rw[h1,h2,Kc]
 intro y hy
 simp only[oC,Bool.cond_eq_ite]at hy
 split at hy
 .cases hy
 .next h=>simp only[xC,not_or,decide_eq_true_eq,kU,vD,Bool.and_eq_false_iff,decide_eq_false_iff_not]at h;omega
def refLs(B:Int->Bool)(L:List Int)(k:Bool):List Int->Nat->Bool
 |[],_=>k
 |y::l,i=>bif(B y)||(decide (0<(i:Int))&&decide (y<=nthI L ((i:Int)-1)))then false else refLs B L k l (i+1)
theorem In(B:Int->Bool)(L:List Int)(k:Bool):∀(l pre:List Int)(x:Int),L=(pre++[x])++l->refLs B L k l (pre.length+1)=true->((∀y∈l,B y=false)/\k=true)/\(x::l).Pairwise (·<·)
 |[],_,_,_,h=>⟨⟨λ_ h=>(vA h).elim,h⟩,by simp⟩
 |y::l,pre,x,h,hr=>by
  have hx:nthI L (((pre.length+1:Nat):Int)-1)=x:=by
   have hb:0<=(((pre.length+1:Nat):Int)-1)/\(((pre.length+1:Nat):Int)-1)<(L.length:Int):=by rw[h];simp;omega
   have hg:=eu hb
   grind
  simp only[refLs,hx,Bool.cond_eq_ite]at hr
  split at hr
  .cases hr
  .next hc=>
   simp only[xC,jA,decide_eq_true_eq,not_or]at hc
   have ih:=In B L k l (pre++[x]) y (by rw[h];simp)
   rw[kA,xA,xB,Nat.zero_add]at ih
   grind
theorem Im{B:Int->Bool}{k:Bool}{l:List Int}(h:refLs B l k l 0=true):((∀y∈l,B y=false)/\k=true)/\l.Pairwise (·<·):=by
 cases l with
 |nil=>exact⟨⟨λ_ h=>(vA h).elim,h⟩,List.Pairwise.nil⟩
 |cons y l=>
  simp only[refLs,Bool.cond_eq_ite]at h
  split at h
  .cases h
  .next hc=>
   simp only[xC,not_or]at hc
   obtain⟨⟨i1,i2⟩,i3⟩:=In B (y::l) k l [] y rfl h
   grind
theorem Il{l:List Int}{ew:Int}(h:gI l ew=true):((∀x∈l,0<=x/\x<ew)/\l.Pairwise (·<·))/\l.length<=16:=by
 have e:∀(L l:List Int)i,gI.L1 L ew (gI.K1 L) l i=refLs (λy=>decide (y<0)||decide (ew<=y)) L (gI.K1 L) l i:=by
  intro L l
  induction l with
  |nil=>intro i;rfl
  |cons y l ih=>intro i;simp only[gI.L1,refLs,ih]
 unfold gI at h
 rw[e]at h
 obtain⟨⟨h1,h2⟩,h3⟩:=Im h
 refine⟨⟨λx hx=>?_,h3⟩,?_⟩
 .grind
 .simp only[gI.K1,decide_eq_true_eq]at h2;omega
theorem Qq{l:List Int}(h:fZ l=true):(∀x∈l,0<=x/\x<64)/\l.Pairwise (·<·):=by
 have e:∀(L l:List Int)i,fZ.L1 L fZ.K1 l i=refLs (λy=>decide (y<0)||decide (64<=y)) L true l i:=by
  intro L l
  induction l with
  |nil=>intro i;rfl
  |cons y l ih=>intro i;simp only[fZ.L1,refLs,ih]
 grind [fZ,Bool.or_eq_false_iff,decide_eq_false_iff_not,Im]
theorem FJ{d:aj}(h:nO d=true):Sr d:=by
 simp only[nO,Bool.cond_eq_ite]at h
 split at h
 .cases h
 .next hc=>
  simp only[xC,not_or,decide_eq_true_eq,mr,vD,Bool.and_eq_false_iff,decide_eq_false_iff_not]at hc
  simp only[jA,decide_eq_true_eq]at h
  obtain⟨⟨⟨⟨⟨h1,h2⟩,h3⟩,h4⟩,h5⟩,h6⟩:=h
  exact⟨by omega,by omega,by omega,by omega,⟨h1,h2⟩,h3,Il h4,Il h5,Il h6⟩
theorem xx(L:List aj):∀(l:List aj)(i:Nat)(m:List (Int×Int)),(aG.L1 (aG.K1 L) l i m).docs=L/\∀x,mhas (aG.L1 (aG.K1 L) l i m).at_ x=(mhas m x||l.any λd=>d.No==x)
 |[],i,m=>⟨rfl,λx=>by simp[aG.L1,aG.K1]⟩
 |y::l,i,m=>by
  obtain⟨h1,h2⟩:=xx L l (i+1) (mput m y.No (i:Int))
  refine⟨h1,λx=>?_⟩
  show mhas (aG.L1 (aG.K1 L) l (i+1) (mput m y.No (i:Int))).at_ x=_
  grind [mhas,mput,i8]
theorem Gc(no:Int):∀(l:List aj)(i:Nat),0<=cD.L1 no cD.K1 l i->(l.any λd=>d.No==no)=true
 |[],i,h=>by simp[cD.L1,cD.K1]at h
 |y::l,i,h=>by
  simp only[cD.L1,Bool.cond_eq_ite]at h
  rw[List.any_cons]
  by_cases e:(y.No==no)=true
  .rw[e];rfl
  .rw[if_neg e]at h
   rw[Gc no l (i+1) h,Bool.or_true]
theorem EG(L:List aj):∀nos:List Int,gg.L1 L gg.K1 nos=true->∀x∈nos,(L.any λd=>d.No==x)=true
 |[],_=>λ_ h=>(vA h).elim
 |y::nos,h=>by
  simp only[gg.L1,Bool.cond_eq_ite,decide_eq_true_eq]at h
  split at h
  .cases h
  .next hc=>
   intro x hx
   rcases vC.1 hx with rfl|hx
   .grind [cD,Gc]
   .exact EG L nos h x hx
theorem WP{L:List aj}{d:aj}(h1:gg L d.eX=true)(h2:gg L d.eQ=true):ld (aG L) d=true:=by
 have hs:=(xx L L 0 []).2
 have key:∀nos,gg L nos=true->fB nos (λfX=>je fX (aG L))=false:=by
  intro nos hn
  rw[containsF,List.any_eq_false]
  intro x hx
  unfold je
  have:=EG L nos hn x hx
  have e:mhas (aG L).at_ x=true:=by
   show mhas (aG.L1 (aG.K1 L) L 0 []).at_ x=true
   rw[hs x,this,Bool.or_true]
  rw[e];simp
 grind [ld]
theorem K8{l:List aj}(h:dH l=0):aR l=0:=by
 have L:∀(L l:List aj)(i:Nat),dH.L1 L dH.K1 l i=0->aR.L1 L aR.K1 l i=0:=by
  intro L l
  induction l with
  |nil=>intros;rfl
  |cons y l ih=>
   intro i h
   simp only[dH.L1,Bool.cond_eq_ite]at h
   split at h
   .omega
   .next hc=>
    simp only[xC,not_or,vD,Bool.not_eq_false,Bool.not_eq_true]at hc
    obtain⟨⟨⟨c1,c2⟩,c3⟩,c4⟩:=hc
    simp only[aR.L1,(OT y).2 (FJ c1),c2,WP c3 c4,Bool.not_true,Bool.or_false,cond_false]
    exact ih (i+1) h
 grind [dH,aR]
theorem L5(x:Int):∀(l:List Int)(i:Nat),(0<=gi.L1 x gi.K1 l i)↔x∈l
 |[],i=>by simp[gi.L1,gi.K1]
 |y::l,i=>by
  have ih:=L5 x l (i+1)
  simp only[gi.L1,Bool.cond_eq_ite,beq_iff_eq,vC]
  grind
theorem N1(l:List Int)(x:Int):kY l x=true↔x∈l:=by
 unfold kY
 rw[decide_eq_true_eq]
 exact L5 x l 0
theorem Py(mode:Int)(l:List aC)(old:Bool):(judgesP mode l old).Sublist l:=by grind [judgesP,kc,kb,jp,List.take_sublist,List.drop_sublist]
theorem Ki(aW at_:Int)(k:Bool->List aC->List Int×Int×Int):∀(l:List (Int×aC))b g,∃(pre:List (Int×aC))(b':Bool),pre.Sublist l/\aN.L1 aW at_ k l b g=k b' (g++pre.map (·.2))
 |[],b,g=>⟨[],b,List.Sublist.refl _,by simp[aN.L1]⟩
 |y::l,b,g=>by
  simp only[aN.L1]
  cases decide (at_<y.1)
  .obtain⟨pre,b',h1,h2⟩:=Ki aW at_ k l (b||(y.1==aW)) (g++[y.2])
   exact⟨y::pre,b',h1.cons_cons _,by rw[cond_false,h2];simp⟩
  .exact⟨[],b,List.nil_sublist _,by simp⟩
theorem VN(h:l.Pairwise (λa b=>a.No<b.No)){a b:aC}(ha:a∈l)(hb:b∈l)(e:a.No=b.No):a=b:=by
 induction l with
 |nil=>cases ha
 |cons x l ih=>
  obtain⟨h1,h2⟩:=List.pairwise_cons.1 h
  grind
theorem ov(ad fH:Int):∀(l:List aC)b m,(m.map (·.1)).Nodup->((inForceM ad fH l b m).map (·.1)).Nodup
 |[],b,m,h=>h
 |y::l,b,m,h=>by
  simp only[inForceM,Bool.cond_eq_ite]
  split
  .exact ov ad fH l _ _ h
  .split
   .split
    .exact ov ad fH l _ _ h
    .exact ov ad fH l _ _ (rf _ _ h)
   .exact ov ad fH l _ _ (rf _ _ h)
theorem D6(l:List aC)(fH ad:Int):(gh l fH ad).Pairwise (λp q=>p.1<q.1):=by grind [yS,EJ,oJ,m7,ov]
theorem PE(g:Kl l)(fH ad:Int):(gh l fH ad).Pairwise (λp q=>p.2.No≠q.2.No):=by
 have hP:=F2 (l:=l) (fH:=fH) (ad:=ad) (λp=>((p.2.At<=fH/\p.1=fH)\/(fH<p.2.At/\p.1=p.2.At))/\p.2∈l) (λy hy h=>⟨.inl ⟨h,rfl⟩,hy⟩) (λy hy h=>⟨.inr ⟨h,rfl⟩,hy⟩)
 refine(D6 l fH ad).imp_of_mem λ{p q}hp hq hlt e=>?_
 have h1:=hP p hp
 have h2:=hP q hq
 have h3:=VN g.inc h1.2 h2.2 e
 rw[h3]at h1
 omega
structure Jdg(l:List aC)(J:List Int×Int×Int):Prop where
 err:J.2.2=0
 rise:J.1.Pairwise (·<·)
 mem:∀x∈J.1,∃v∈l,v.No=x
 mode:J.1≠[]->1<=J.2.1/\J.2.1<=4
 mode2:J.2.1≠0->1<=J.2.1/\J.2.1<=4
theorem BZ(g:Kl l){aW at_:Int}(hb:0<=aW/\aW<1099511627776)(ht:0<=at_/\at_<1099511627776)(hk:0<=ad/\ad<1099511627776)(eT:aW<=at_):Jdg l (aN l aW at_ ad):=by
 have h0:bE l=0:=(rI l).2 g
 have h1:∀x:Int,0<=x/\x<1099511627776->io x=true:=λx hx=>by simp[io,hx]
 have h2:decide (at_<aW)=false:=by simp;omega
 unfold aN
 rw[h0,h1 _ hb,h1 _ ht,h1 _ hk,h2]
 simp only[bne_self_eq_false,cond_false,Bool.not_true,Bool.or_false]
 obtain⟨pre,b',hs,e⟩:=Ki aW at_ aN.K1 (gh l aW ad) false []
 rw[e,qD]
 unfold aN.K1
 cases hc:(((pre.map (·.2)).length:Int)==0)with
 |true=>exact⟨rfl,List.Pairwise.nil,λx hx=>(vA hx).elim,λh=>absurd rfl h,λh=>absurd rfl h⟩
 |false=>
  simp only[cond_false,Ca,aN.K2,qD]
  have hpre:pre.length≠0:=by simpa using hc
  have hsub:=Py ((nthI (pre.map (·.2)) (((pre.map (·.2)).length:Int)-1)).aw.Mode) (pre.map (·.2)) b'
  have hnd:(pre.map (·.2)).Pairwise (λa b=>a.No≠b.No):=by
   grind [PE]
  have hmode:1<=(nthI (pre.map (·.2)) (((pre.map (·.2)).length:Int)-1)).aw.Mode/\(nthI (pre.map (·.2)) (((pre.map (·.2)).length:Int)-1)).aw.Mode<=4:=by
   have hm:nthI (pre.map (·.2)) (((pre.map (·.2)).length:Int)-1)∈pre.map (·.2):=lu (by rw[List.length_map];omega)
   obtain⟨p,hp,hpe⟩:=qM.1 hm
   have:=g.mode (Bf p (hs.subset hp))
   rw[hpe]at this
   exact this
  refine⟨rfl,EJ (oJ _) ((m7 _).nodup_iff.2 ?_),λx hx=>?_,λ_=>hmode,λ_=>hmode⟩
  .grind
  .have hx2:=(m7 _).mem_iff.1 hx
   obtain⟨v,hv,rfl⟩:=qM.1 hx2
   obtain⟨p,hp,rfl⟩:=qM.1 (hsub.subset hv)
   grind [Bf]
theorem Q4{mode:Int}(hm:1<=mode/\mode<=4){l:List Bool}(hl:l.length<=256):(ip mode l).2=0:=by
 have hc:lq mode l=0:=by
  have h1:mhas lx mode=true:=by
   have:mode=1\/mode=2\/mode=3\/mode=4:=by omega
   rcases this with rfl|rfl|rfl|rfl<;>rfl
  grind [lq]
 have k1:∀(k:List Int->List Int×Bool×Int),(∀g,(k g).2.2=0)->∀(s:List Bool)i g,(bH.L1 k s i g).2.2=0:=by
  intro k hk s
  induction s with
  |nil=>intro i g;exact hk g
  |cons y s ih=>intro i g;exact ih _ _
 have k2:∀(k:List Int->List Int×Bool×Int),(∀g,(k g).2.2=0)->∀(s:List Bool)i g,(bH.L2 k s i g).2.2=0:=by
  intro k hk s
  induction s with
  |nil=>intro i g;exact hk g
  |cons y s ih=>intro i g;exact ih _ _
 have k3:∀(k:List Int->List Int×Bool×Int),(∀g,(k g).2.2=0)->∀(s:List Bool)i g,(bH.L3 k s i g).2.2=0:=by
  intro k hk s
  induction s with
  |nil=>intro i g;exact hk g
  |cons y s ih=>intro i g;exact ih _ _
 show(bH mode l).2.2=0
 unfold bH
 rw[hc]
 simp only[bne_self_eq_false,cond_false,Bool.cond_eq_ite]
 repeat' split
 all_goals first
  |rfl
  |exact k1 _ (λ_=>rfl) _ _ _
  |exact k2 _ (λ_=>rfl) _ _ _
  |exact k3 _ (λ_=>rfl) _ _ _
theorem Gu{l:List aA}(hc:du l=0){o t ad:Int}(ho:0<=o/\o<32)(ht:0<=t/\t<1099511627776)(hk:0<=ad/\ad<1099511627776):(jh l o t ad).2=0:=by
 have h1:∀x:Int,0<=x/\x<1099511627776->fQ x=true:=λx hx=>by simp only[fQ,fq,jA,decide_eq_true_eq];omega
 have h2:gl o=true:=by simp only[gl,fq,jA,decide_eq_true_eq];omega
 grind [jh]
theorem zI(k:Int->Int)(hk:∀g,k g=0):∀(l:List Int)(g:Int),(∀x∈l,g<x/\x<=1048576)->l.Pairwise (·<·)->cG.L1 k l g=0
 |[],g,_,_=>hk g
 |y::l,g,h,hp=>by
  have h1:=h y (zB ..)
  have e:(decide (y<=g)||decide (1048576<y))=false:=by simp;omega
  simp only[cG.L1,e,cond_false]
  exact zI k hk l y (λx hx=>⟨(List.pairwise_cons.1 hp).1 x hx,(h x (qC _ hx)).2⟩) (List.pairwise_cons.1 hp).2
theorem N9{l:List av}(hc:cK l=0){p t:Int}{ps:List Int}(hp:0<=p/\p<64)(hps:((∀x∈ps,0<=x/\x<1048577)/\ps.Pairwise (·<·))/\ps.length<=16)(ht:0<=t/\t<1099511627776)(hk:0<=ad/\ad<1099511627776):(fy l p ps t ad).2.2=0:=by grind [cG,cG.K1,fy,dS,zI]
theorem Fg{β : Type}(F:(ai->β)->ai->β)(go:Nat->ai->β)(h:∀m,go (m+1)=F (go m))(hF:∀f g x,(∀y∈x.L,f y=g y)->F f x=F g x)(x:ai):go x.dep x=F (λy=>go y.dep y) x:=by
 have key:∀x:ai,∀m,x.dep<=m->go m x=go x.dep x:=by
  refine λx=>ai.ind (P:=λx=>∀m,x.dep<=m->go m x=go x.dep x) ?_ x
  intro x ih m hm
  have hp:=ai.ny x
  obtain⟨m',rfl⟩:∃m',m=m'+1:=⟨m-1,by omega⟩
  obtain⟨n,hn⟩:∃n,x.dep=n+1:=⟨x.dep-1,by omega⟩
  rw[hn,h,h]
  refine hF _ _ _ λy hy=>?_
  have:=ai.lI hy
  grind
 have hp:=ai.ny x
 obtain⟨n,hn⟩:∃n,x.dep=n+1:=⟨x.dep-1,by omega⟩
 rw[hn,h]
 refine hF _ _ _ λy hy=>?_
 have:=ai.lI hy
 exact key y n (by omega)
theorem Vf(x:ai):bI x=bI.F bI x:=by
 refine Fg bI.F bI.go (λm=>rfl) (λf g x h=>?_) x
 unfold bI.F
 have:∀(k:Int->Int)(l:List ai)a,(∀y∈l,f y=g y)->bI.L1 f k l a=bI.L1 g k l a:=by
  intro k l
  induction l with
  |nil=>intros;rfl
  |cons y l ih=>intro a hl;simp only[bI.L1,hl y (zB ..)];exact ih _ λz hz=>hl z (qC _ hz)
 exact this _ _ _ h
theorem depthL(l:List ai):∀(a:Int),a<=bI.L1 bI (λg=>g) l a/\(∀y∈l,bI y<=bI.L1 bI (λg=>g) l a)/\∀M:Int,a<=M->(∀y∈l,bI y<=M)->bI.L1 bI (λg=>g) l a<=M:=by
 induction l with
 |nil=>intro a;exact⟨Int.le_refl _,λ_ h=>(vA h).elim,λM h _=>h⟩
 |cons y l ih=>
  grind [bI.L1]
theorem depthK(l:List ai):∀(a:Int),bI.L1 bI bI.K1 l a=IntKind.i64.wrap (bI.L1 bI (λg=>g) l a+1):=by
 induction l with
 |nil=>intro a;rfl
 |cons y l ih=>intro a;exact ih _
theorem PU(x:ai):x.dep<=1500000->(1<=bI x/\bI x<=x.dep)/\bI x=bI.L1 bI (λg=>g) x.L 0+1:=by
 refine ai.ind (P:=λx=>x.dep<=1500000->(1<=bI x/\bI x<=x.dep)/\bI x=bI.L1 bI (λg=>g) x.L 0+1) ?_ x
 intro x ih hx
 obtain⟨i1,i2,i3⟩:=depthL x.L 0
 have hp:=ai.ny x
 have h3:=i3 ((x.dep:Int)-1) (by omega) λy hy=>by
  have h4:=ai.lI hy
  have:=(ih y hy (by omega)).1.2
  omega
 grind [bI.F,Vf,depthK,wrap64]
theorem PT(x:ai):x.dep<=1500000->∀(d D:Int),bI x<=D->∀z∈bB x d,z.depth<=d+D-1:=by
 refine ai.ind (P:=λx=>x.dep<=1500000->∀(d D:Int),bI x<=D->∀z∈bB x d,z.depth<=d+D-1) ?_ x
 intro x ih hx d D hD z hz
 obtain⟨h1,h2⟩:=PU x hx
 rw[pW]at hz
 rcases vC.1 hz with rfl|hz
 .show d<=d+D-1;omega
 .obtain⟨y,hy,hz⟩:=List.mem_flatMap.1 hz
  have h4:=ai.lI hy
  have h5:=(depthL x.L 0).2.1 y hy
  have:=ih y hy (by omega) (d+1) (D-1) (by omega) z hz
  omega
theorem Vd(x:ai):dW x=dW.F dW x:=by
 refine Fg dW.F dW.go (λm=>rfl) (λf g x h=>?_) x
 funext ew
 unfold dW.F
 have:∀(k:Int->Int)(l:List ai)a,(∀y∈l,f y=g y)->dW.L1 f ew k l a=dW.L1 g ew k l a:=by
  intro k l
  induction l with
  |nil=>intros;rfl
  |cons y l ih=>
   grind [dW.L1]
 exact this _ _ _ h
def cnt(x:ai):Nat:=(bB x 1).length
theorem Xg(x:ai):∀d,(bB x d).length=cnt x:=by
 refine ai.ind (P:=λx=>∀d,(bB x d).length=cnt x) ?_ x
 intro x ih d
 unfold cnt
 rw[pW,pW x 1,xA,xA,List.length_flatMap,List.length_flatMap]
 congr 2
 apply List.map_congr_left
 intro y hy
 rw[ih y hy,ih y hy]
theorem U3(x:ai):cnt x=1+(x.L.map cnt).sum:=by
 conv=>lhs;unfold cnt
 rw[pW,xA,List.length_flatMap,Nat.add_comm]
 congr 2
 apply List.map_congr_left
 intro y hy
 exact Xg y _
theorem Mz(x:ai):∀ew:Int,0<=ew->ew<=256->dW x ew=min (cnt x:Int) (ew+1):=by
 refine ai.ind (P:=λx=>∀ew:Int,0<=ew->ew<=256->dW x ew=min (cnt x:Int) (ew+1)) ?_ x
 intro x ih ew h0 h1
 rw[Vd,U3]
 unfold dW.F
 have key:∀(l:List ai)(a:Int),(∀y∈l,y∈x.L)->1<=a->a<=ew+1->dW.L1 dW ew dW.K1 l a=min (a+((l.map cnt).sum:Nat)) (ew+1):=by
  intro l
  induction l with
  |nil=>intro a _ _ ha;simp only[dW.L1,dW.K1,List.map_nil,List.sum_nil];omega
  |cons y l ih2=>
   intro a hl h2 h3
   simp only[dW.L1,Bool.cond_eq_ite,decide_eq_true_eq,jG,List.sum_cons]
   grind [dW.K1,wrap64,cnt,U3]
 grind
theorem Ps{x:ai}(hx:x.dep<=1500000)(h:mX x=false):(bB x 1).length<=256/\∀z∈bB x 1,z.depth<=16:=by
 simp only[mX,Bool.or_eq_false_iff,decide_eq_false_iff_not]at h
 have h1:=Mz x 256 (by decide) (by decide)
 have h2:=PT x hx 1 16 (by omega)
 grind [cnt]
theorem FC(s:ByteArray):∀(m i:Nat)(r:List UInt8),s.size-i=m->(ByteArray.toList.loop s i r).length=r.length+m
 |0,i,r,h=>by rw[ByteArray.toList.loop];rw[if_neg (by omega)];simp
 |m+1,i,r,h=>by
  rw[ByteArray.toList.loop,if_pos (by omega),FC s m (i+1) _ (by omega),xA]
  omega
theorem yx(s:ByteArray):s.toList.length=s.size:=by
 have:=FC s s.size 0 [] (by omega)
 simpa[ByteArray.toList]using this
theorem V8(c:Bool)(a b d:α):(bif c then(bif c then a else b)else d)=bif c then a else d:=by cases c<;>rfl
theorem WX(c x:Bool):(bif c then false else x)=(!c&&x):=by cases c<;>rfl
theorem WW(c x:Bool):(bif c then true else x)=(c||x):=by cases c<;>simp
theorem Mg(s:ByteArray):gy s=(hY s&&!(vj s)):=by
 unfold gy vj
 simp only[V8]
 simp only[WX,WW,Bool.not_or,Bool.or_false]
 ac_rfl
theorem Eu(c:Int):(nF c != 2)=!(o9 c):=by grind [nF,o9]
theorem Q0(c:Int):(((nF c != 2)&&(nF c != 3))&&(nF c != 5))=!(vl c):=by grind [nF,vl,o9,uA]
theorem Nr(s:ByteArray):∀(l:List Nat)(i:Nat),hY.L1 s hY.K1 l i=kx.L1 s kx.K1 l i
 |[],i=>rfl
 |y::l,i=>by simp only[hY.L1,kx.L1,Q0,Nr s l]
theorem RN(h:kx s=true):hY s=true:=by
 unfold kx at h
 unfold hY
 rw[Eu,Nr]
 rw[Bool.cond_eq_ite]at h ⊢
 split at h
 .cases h
 .next hc=>
  simp only[xC,not_or,decide_eq_true_eq]at hc
  obtain⟨⟨h1,h2⟩,h3⟩:=hc
  have e:(s.toList==(⟨#[]⟩:ByteArray).toList)=false:=by
   rw[Bool.eq_false_iff]
   intro he
   have he:=eq_of_beq he
   have h9:=yx s
   rw[he,yx]at h9
   have:(⟨#[]⟩:ByteArray).size=0:=rfl
   omega
  grind
theorem R3(h:pV s=true):gy s=true:=by
 simp only[pV,jA]at h
 rw[Mg,RN h.1,h.2];rfl
theorem LD(s:ByteArray):∀(l:List ByteArray)(i:Nat),gf.L1 s gf.K1 l i=bp.L1 s bp.K1 l i
 |[],i=>rfl
 |y::l,i=>by
  have:(y.toList==s.toList)=(s.toList==y.toList):=by rw[jF,beq_iff_eq,beq_iff_eq];exact eq_comm
  simp only[gf.L1,bp.L1,this,LD s l]
theorem rindex(l:List ByteArray)(s:ByteArray):gf l s=bp l s:=LD s l 0
theorem Gi{l:List ByteArray}(h:fP l=true):cA l gy=true:=by
 have key:∀(L l:List ByteArray)(i:Nat),fP.L1 L fP.K1 l i=true->cA.L1 L gy cA.K1 l i=true:=by
  intro L l
  induction l with
  |nil=>intros;rfl
  |cons y l ih=>
   intro i h
   simp only[fP.L1,Bool.cond_eq_ite]at h
   split at h
   .cases h
   .next hc=>
    simp only[xC,not_or,vD,Bool.not_eq_false,Bool.not_eq_true]at hc
    simp only[cA.L1,R3 hc.1,←rindex,hc.2,Bool.not_true,Bool.or_self,cond_false]
    exact ih _ h
 exact key l l 0 h
theorem wE(off:List ByteArray){f g:List ByteArray->ai->Bool}(k:Bool):∀(l:List ai),(∀y∈l,f off y=g off y)->cq.L1 f off k l=cq.L1 g off k l
 |[],_=>rfl
 |y::l,h=>by simp only[cq.L1,h y (zB ..),wE off k l λz hz=>h z (qC _ hz)]
theorem Pa(off:List ByteArray)(x:ai):cq off x=cq.F cq off x:=by
 have:=Fg (λf x=>cq.F (λ_ y=>f y) off x) (λm x=>cq.go m off x) (λm=>?_) (λf g x h=>?_) x
 .refine Eq.trans this ?_
  show cq.F _ off x=_
  unfold cq.F
  rw[wE off (f:=λ_ y=>cq.go y.dep off y) (g:=cq) _ x.L λy hy=>rfl]
 .funext x
  show cq.F (cq.go m) off x=cq.F _ off x
  grind [cq.F,wE]
 .grind [cq.F,wE]
theorem LS(off:List ByteArray):∀(l:List ai),cq.L1 cq off cq.K1 l=true->∀y∈l,cq off y=true
 |[],_=>λ_ h=>(vA h).elim
 |y::l,h=>by
  simp only[cq.L1,Bool.cond_eq_ite]at h
  split at h
  .cases h
  .next hc=>
   intro z hz
   rcases vC.1 hz with rfl|hz
   .simpa using hc
   .exact LS off l h z hz
theorem O9(off:List ByteArray)(x:ai):cq off x=true->∀d,∀z∈bB x d,((!(dR z.x))||dZ off z.x.Name)=true:=by
 refine ai.ind (P:=λx=>cq off x=true->∀d,∀z∈bB x d,((!(dR z.x))||dZ off z.x.Name)=true) ?_ x
 intro x ih h d z hz
 rw[Pa]at h
 unfold cq.F at h
 rw[Bool.cond_eq_ite]at h
 split at h
 .cases h
 .next hc=>
  rw[pW]at hz
  rcases vC.1 hz with rfl|hz
  .show((!(dR x))||dZ off x.Name)=true
   unfold dZ dR
   rw[rindex]at hc
   grind
  .grind [LS]
theorem uG(u:Bool){f g:ai->Bool->Bool}(k:Bool):∀(l:List ai),(∀y∈l,f y u=g y u)->aO.L1 f u k l=aO.L1 g u k l
 |[],_=>rfl
 |y::l,h=>by simp only[aO.L1,h y (zB ..),uG u k l λz hz=>h z (qC _ hz)]
theorem Mi(x:ai)(u:Bool):aO x u=aO.F aO x u:=by
 have:=Fg (λf x=>aO.F (λy _=>f y) x u) (λm x=>aO.go m x u) (λm=>?_) (λf g x h=>?_) x
 .refine Eq.trans this ?_
  show aO.F _ x u=_
  unfold aO.F
  rw[uG u (f:=λy _=>aO.go y.dep y u) (g:=aO) _ x.L λy hy=>rfl]
 .funext x
  show aO.F (aO.go m) x u=aO.F _ x u
  grind [aO.F,uG]
 .grind [aO.F,uG]
theorem JN(u k:Bool):∀(l:List ai),aO.L1 aO u k l=true->(∀y∈l,aO y u=true)/\k=true
 |[],h=>⟨λ_ h=>(vA h).elim,h⟩
 |y::l,h=>by
  simp only[aO.L1,Bool.cond_eq_ite]at h
  split at h
  .cases h
  .next hc=>
   obtain⟨h1,h2⟩:=JN u k l h
   grind
theorem SW{x:ai}{u:Bool}(h:aO.K1 x u=true):(aY x.Kind 1 4&&kindsP x.Kind x)=true/\(u=false->x.Kind≠4):=by
 unfold aO.K1 at h
 simp only[Bool.cond_eq_ite,beq_iff_eq]at h
 split at h
 .next e=>
  rw[e]
  refine⟨?_,λ_=>by decide⟩
  show(_&&mw x)=true
  unfold mw
  rw[h];rfl
 .split at h
  .next e=>
   rw[e]
   refine⟨?_,λ_=>by decide⟩
   show(_&&mv x)=true
   grind [mv,aY]
  .split at h
   .next e=>
    rw[e]
    refine⟨?_,λ_=>by decide⟩
    show(_&&mu x)=true
    unfold mu aY
    grind
   .split at h
    .next e=>
     rw[e]
     simp only[jA]at h
     refine⟨?_,λhu=>by rw[hu]at h;simp at h⟩
     show(_&&lF x)=true
     unfold lF aY
     grind
    .cases h
theorem Mh(u:Bool)(x:ai):aO x u=true->∀d,∀z∈bB x d,(aY z.x.Kind 1 4&&kindsP z.x.Kind z.x)=true/\(u=false->z.x.Kind≠4):=by
 refine ai.ind (P:=λx=>aO x u=true->∀d,∀z∈bB x d,(aY z.x.Kind 1 4&&kindsP z.x.Kind z.x)=true/\(u=false->z.x.Kind≠4)) ?_ x
 intro x ih h d z hz
 rw[Mi]at h
 obtain⟨h1,h2⟩:=JN u _ x.L h
 grind [pW,SW]
theorem rl1(rec:List ByteArray->ai->ai)(off:List ByteArray)(k:List ai->ai):∀(l g:List ai),ao.L1 rec off k l g=k (g++l.map (rec off))
 |[],g=>by simp[ao.L1]
 |y::l,g=>by simp[ao.L1,rl1 rec off k l]
theorem rl2(rec:List ByteArray->ai->ai)(off:List ByteArray)(k:List ai->ai):∀(l g:List ai),ao.L2 rec off k l g=k (g++l.map (rec off))
 |[],g=>by simp[ao.L2]
 |y::l,g=>by simp[ao.L2,rl2 rec off k l]
def rno(off:List ByteArray)(x:ai):Int:=bif dR x then bp off x.Name else 0
theorem Qt(rec:List ByteArray->ai->ai)(off:List ByteArray)(x:ai):ao.F rec off x=ai.mk x.Kind x.N (rno off x) x.Name (x.L.map (rec off)):=by
 unfold ao.F rno dR
 cases((x.Kind==1)||(x.Kind==2))
 .rw[cond_false,rl2];rfl
 .grind [ao.K1,rl1,rindex]
theorem FM(off:List ByteArray)(x:ai):ao off x=ai.mk x.Kind x.N (rno off x) x.Name (x.L.map (ao off)):=by
 have:=Fg (λf x=>ai.mk x.Kind x.N (rno off x) x.Name (x.L.map f)) (λm x=>ao.go m off x) (λm=>?_) (λf g x h=>?_) x
 .exact this
 .funext x
  show ao.F (ao.go m) off x=_
  rw[Qt]
 .show ai.mk _ _ _ _ _=ai.mk _ _ _ _ _
  rw[List.map_congr_left h]
theorem Id(b:ai){f g:ai->ai->Bool}(k:Bool):∀(l:List ai)(i:Nat),(∀y∈l,f y=g y)->bA.L1 f b k l i=bA.L1 g b k l i
 |[],_,_=>rfl
 |y::l,i,h=>by simp only[bA.L1,h y (zB ..),Id b k l (i+1) λz hz=>h z (qC _ hz)]
theorem Rv(x:ai):bA x=bA.F bA x:=by
 refine Fg bA.F bA.go (λm=>rfl) (λf g x h=>?_) x
 grind [bA.F,Id]
theorem Rw(b:ai):∀(l:List ai)(i:Nat),bA.L1 bA b bA.K1 l i=true->∀(j:Nat)(y:ai),l[j]? = some y->bA y (nthI b.L ((i+j:Nat):Int))=true
 |[],_,_,j,y,hj=>by simp at hj
 |z::l,i,h,j,y,hj=>by
  simp only[bA.L1,Bool.cond_eq_ite]at h
  split at h
  .cases h
  .next hc=>
   cases j with
   |zero=>simp at hj;subst hj;simpa using hc
   |succ j=>have:=Rw b l (i+1) h j y (by simpa using hj);rw[show i+(j+1)=i+1+j from by omega];exact this
theorem Vs(off:List ByteArray)(x:ai):bA (ao off x) x=true->∀d,∀z∈bB x d,z.x.No=rno off z.x:=by
 refine ai.ind (P:=λx=>bA (ao off x) x=true->∀d,∀z∈bB x d,z.x.No=rno off z.x) ?_ x
 intro x ih h d z hz
 rw[Rv,FM]at h
 unfold bA.F at h
 rw[Bool.cond_eq_ite]at h
 split at h
 .cases h
 .next hc=>
  simp only[xC,not_or,bne_iff_ne,ne_eq,Classical.not_not]at hc
  have hno:rno off x=x.No:=hc.1.1.2
  rw[pW]at hz
  rcases vC.1 hz with rfl|hz
  .exact hno.symm
  .obtain⟨y,hy,hz⟩:=List.mem_flatMap.1 hz
   obtain⟨j,hj⟩:=YB hy
   have h2:=Rw x _ 0 h j (ao off y) (by show(List.map (ao off) x.L)[j]? = _;rw[List.getElem?_map,hj];rfl)
   have hlt:=(List.getElem?_eq_some_iff.1 hj).1
   have hg:=eu (xs:=x.L) (z:=((0+j:Nat):Int)) (by omega)
   grind
theorem FL{off:List ByteArray}{x:ai}(h:bA (ao off x) x=true):cW off x=true:=by
 unfold cW cW.K1
 rw[tr]
 exact Vs off x h 1
def rrules(off:List ByteArray):List fI->Nat->List fI
 |[],_=>[]
 |y::l,i=>fI.mk y.Kind (i:Int) y.iJ (ao off y.ai)::rrules off l (i+1)
theorem Ik(off:List ByteArray):∀(l:List fI)(i j:Nat)(y:fI),l[j]? = some y->(rrules off l i)[j]? = some (fI.mk y.Kind ((i+j:Nat):Int) y.iJ (ao off y.ai))
 |[],_,j,y,h=>by simp at h
 |z::l,i,0,y,h=>by simp at h;subst h;rfl
 |z::l,i,j+1,y,h=>by
  have:=Ik off l (i+1) j y (by simpa using h)
  rw[show i+(j+1)=i+1+j from by omega]
  exact this
theorem Dl(p:aw):∀(l:List fI)(i:Nat)(g:List fI),eM.L1 p (eM.K1 p) l i g=(aw.mk p.Name p.ey p.aD (g++rrules p.aD l i) (ao p.aD p.aP) p.Mode,0)
 |[],i,g=>by
  simp only[eM.L1,eM.K1,rrules,List.append_nil,ai.eta]
 |y::l,i,g=>by
  simp only[eM.L1,Dl p l,rrules,ai.eta,List.append_assoc,List.singleton_append]
theorem Sn(b:aw):∀(l:List fI)(i:Nat),jO.L1 b jO.K1 l i=true->∀(j:Nat)(y:fI),l[j]? = some y->y.BC=(nthI b.dt ((i+j:Nat):Int)).BC/\bA y.ai (nthI b.dt ((i+j:Nat):Int)).ai=true
 |[],_,_,j,y,hj=>by simp at hj
 |z::l,i,h,j,y,hj=>by
  simp only[jO.L1,Bool.cond_eq_ite]at h
  split at h
  .cases h
  .next hc=>
   simp only[xC,not_or,bne_iff_ne,ne_eq,Classical.not_not,vD,Bool.not_eq_false]at hc
   cases j with
   |zero=>simp at hj;subst hj;exact⟨hc.1.1.2,hc.2⟩
   |succ j=>have:=Sn b l (i+1) h j y (by simpa using hj);rw[show i+(j+1)=i+1+j from by omega];exact this
theorem LR(p:aw)(k:Bool):∀(l:List fI),jc.L1 p k l=true->(∀r∈l,cq p.aD r.ai=true)/\k=true
 |[],h=>⟨λ_ h=>(vA h).elim,h⟩
 |y::l,h=>by
  simp only[jc.L1,Bool.cond_eq_ite]at h
  split at h
  .cases h
  .next hc=>
   obtain⟨h1,h2⟩:=LR p k l h
   grind
theorem Pt(k:Bool):∀(l:List fI),fN.L1 k l=false->∀r∈l,mX r.ai=false
 |[],_=>λ_ h=>(vA h).elim
 |y::l,h=>by
  simp only[fN.L1,Bool.cond_eq_ite]at h
  split at h
  .cases h
  .next hc=>
   intro z hz
   rcases vC.1 hz with rfl|hz
   .simpa using hc
   .exact Pt k l h z hz
theorem JO(p:aw)(k:Bool):∀(l:List fI)(i:Nat),ic.L1 p k l i=true->(∀(j:Nat)r,l[j]? = some r->((r.Kind.toList==(nthI p.ey (((i+j:Nat):Int))).toList)=true/\0<=r.iJ/\r.iJ<1099511627776)/\aO r.ai true=true)/\k=true
 |[],i,h=>⟨λj r hj=>by simp at hj,h⟩
 |y::l,i,h=>by
  simp only[ic.L1,Bool.cond_eq_ite]at h
  split at h
  .cases h
  .next hc=>
   simp only[xC,not_or,decide_eq_true_eq,vD,Bool.not_eq_false]at hc
   obtain⟨h1,h2⟩:=JO p k l (i+1) h
   grind
theorem Ew(hs:smP p)(h:ma p=0):dF p=0:=by
 unfold ma at h
 rw[Bool.cond_eq_ite]at h
 split at h
 .next hc=>exact absurd h (by simpa using hc)
 .next hR=>
  rw[Bool.cond_eq_ite]at h
  split at h
  .omega
  .next hS=>
   simp only[vD,Bool.not_eq_false]at hS
   unfold eM at hR hS
   cases hl:fN p with
   |true=>rw[hl]at hR;simp at hR
   |false=>
    rw[hl]at hR hS
    cases hn:jc p with
    |false=>rw[hn]at hR;simp at hR
    |true=>
     rw[hn]at hR hS
     cases hf:ic p with
     |false=>rw[hf]at hR;simp at hR
     |true=>
      rw[hf]at hS
      simp only[Bool.not_true,cond_false,Dl,qD]at hS
      clear hR h
      unfold fN at hl
      rw[Bool.cond_eq_ite]at hl
      split at hl
      .cases hl
      .next h1=>
       simp only[xC,not_or,decide_eq_true_eq,Bool.not_eq_true]at h1
       have h2:=Pt _ _ hl
       unfold jc at hn
       rw[Bool.cond_eq_ite]at hn
       split at hn
       .cases hn
       .next h3=>
        simp only[xC,not_or,vD,Bool.not_eq_false]at h3
        obtain⟨h4,h5⟩:=LR p _ _ hn
        unfold ic at hf
        rw[Bool.cond_eq_ite]at hf
        split at hf
        .cases hf
        .next h6=>
         simp only[xC,not_or,decide_eq_true_eq,bne_iff_ne,ne_eq,Classical.not_not]at h6
         obtain⟨h7,h8⟩:=JO p _ _ 0 hf
         unfold jO at hS
         rw[Bool.cond_eq_ite]at hS
         split at hS
         .cases hS
         .next h9=>
          simp only[xC,not_or,vD,Bool.not_eq_false]at h9
          have h10:=Sn p _ 0 hS
          have hexp:∀x,x∈aH p->(∃r∈p.dt,r.ai=x)\/x=p.aP:=by
           intro x hx
           rw[ox]at hx
           simp only[qE,qM,kB]at hx
           exact hx
          rw[Ev,wp,DA,I9]
          refine⟨⟨⟨⟨by omega,by omega,by omega⟩,λx hx=>?_⟩,⟨⟨R3 h3.1.1,Gi h3.1.2,Gi h3.2⟩,λx hx=>?_⟩,?_⟩,λj r hj=>?_,FL h9.2⟩
          .rcases hexp x hx with⟨r,hr,rfl⟩|rfl
           .exact Ps (hs.2.1 r hr) (h2 r hr)
           .exact Ps hs.2.2.1 h1.2
          .rcases hexp x hx with⟨r,hr,rfl⟩|rfl
           .exact O9 p.aD _ (h4 r hr) 1
           .exact O9 p.aD _ h5 1
          .unfold bq bq.K1 bq.K2
           rw[s8,Ej,Ht]
           refine⟨?_,λj r hj=>?_,λj x hj z hz=>?_⟩
           .simp only[jA,decide_eq_true_eq,beq_iff_eq,aY]
            exact⟨⟨by omega,h6.1.1.2⟩,by omega,by omega⟩
           .have:=(h7 j r hj).1
            simp only[jA,decide_eq_true_eq,aY]
            exact⟨this.1,this.2.1,by omega⟩
           .have hlen:(aH p).length=p.dt.length+1:=by rw[ox];simp
            rw[ox]at hj
            rcases Nat.lt_or_ge j p.dt.length with hjl|hjl
            .grind [Mh,wrap64]
            .rw[List.getElem?_append_right (by simpa using hjl)]at hj
             have hj2:=kB.1 (List.mem_of_getElem? hj)
             subst hj2
             obtain⟨k1,k2⟩:=Mh false _ h8 1 z hz
             refine⟨k1,?_⟩
             have:(z.x.Kind != 4)=true:=by simpa using k2 rfl
             rw[this,Bool.or_true]
          .have h11:=h10 j _ (Ik p.aD p.dt 0 j r hj)
           have hlt:=(List.getElem?_eq_some_iff.1 hj).1
           have hg:=eu (xs:=p.dt) (z:=((0+j:Nat):Int)) (by omega)
           rw[show(((0+j:Nat):Int)).toNat=j from by omega,hj]at hg
           rw[←Option.some.inj hg]at h11
           dsimp only at h11
           exact⟨by rw[←h11.1];simp,FL h11.2⟩
def Ve(v:aC):Prop:=(0<=v.No/\v.No<=1048576)/\(0<=v.At/\v.At<1099511627776)/\(0<=v.eH/\v.eH<1099511627776)/\ma v.aw=0
theorem Sf{L:List aC}{y:aC}{i:Nat}(h:dE.L1 L dE.K1 (y::l) i=0):Ve y/\(0<i->(nthI L ((i:Int)-1)).No<y.No)/\dE.L1 L dE.K1 l (i+1)=0:=by
 simp only[dE.L1,Bool.cond_eq_ite]at h
 split at h
 .omega
 .next hc=>
  simp only[xC,not_or,decide_eq_true_eq,jA,vD,Bool.not_eq_false,bne_iff_ne,ne_eq,Classical.not_not,nq]at hc
  obtain⟨⟨⟨⟨h1,h2⟩,h3⟩,h4⟩,h5⟩:=hc
  exact⟨⟨by omega,h3,h4,h5⟩,λhi=>by omega,h⟩
theorem Sh(L:List aC):∀(l pre:List aC)(x:aC),L=(pre++[x])++l->dE.L1 L dE.K1 l (pre.length+1)=0->(∀y∈l,Ve y)/\(x::l).Pairwise (λa b=>a.No<b.No)
 |[],_,_,_,_=>⟨λ_ h=>(vA h).elim,by simp⟩
 |y::l,pre,x,h,hr=>by
  have hx:nthI L (((pre.length+1:Nat):Int)-1)=x:=by
   have hb:0<=(((pre.length+1:Nat):Int)-1)/\(((pre.length+1:Nat):Int)-1)<(L.length:Int):=by rw[h];simp;omega
   have hg:=eu hb
   grind
  obtain⟨h1,h2,h3⟩:=Sf hr
  have h2:=h2 (by omega)
  rw[hx]at h2
  have ih:=Sh L l (pre++[x]) y (by rw[h];simp)
  grind
theorem P3(hs:smV l)(h:dE l=0):bE l=0:=by
 rw[rI]
 unfold dE at h
 rw[Bool.cond_eq_ite]at h
 split at h
 .omega
 .next hl=>
  simp only[decide_eq_true_eq]at hl
  have key:(∀y∈l,Ve y)/\l.Pairwise (λa b=>a.No<b.No):=by
   cases l with
   |nil=>exact⟨λ_ h=>(vA h).elim,List.Pairwise.nil⟩
   |cons y l=>
    obtain⟨h1,_,h3⟩:=Sf h
    obtain⟨i1,i2⟩:=Sh (y::l) l [] y rfl h3
    grind
  refine⟨by omega,λv hv=>?_,key.2⟩
  have:=key.1 v hv
  obtain⟨h1,h2,h3,h4⟩:=this
  exact⟨by omega,by omega,h1,Ew (hs.2 v hv) h4⟩
theorem rB{α : Type}{R:α->Bool}{no:α->Int}{c:Int}(hc:c≠0):∀(l:List α)(g:Int),prgChk R no c l g=0↔(∀y∈l,R y=true/\g<no y)/\l.Pairwise (λa b=>no a<no b)
 |[],g=>by simp[prgChk]
 |y::l,g=>by
  have ih:=rB hc l (no y) (R:=R) (no:=no)
  simp only[prgChk,Bool.cond_eq_ite,xC,vD,decide_eq_true_eq]
  split
  .grind
  .next h=>
   rw[ih]
   simp only[not_or,Bool.not_eq_false,Int.not_le]at h
   constructor
   .rintro⟨h1,h2⟩
    refine⟨λz hz=>?_,List.pairwise_cons.2 ⟨λz hz=>(h1 z hz).2,h2⟩⟩
    grind
   .rintro⟨h1,h2⟩
    obtain⟨p1,p2⟩:=List.pairwise_cons.1 h2
    grind
theorem officesP(l:List aA)(g:Int):du.L1 du.K1 l g=prgChk nV (·.No) 150 l g:=by
 induction l generalizing g with
 |nil=>rfl
 |cons y l ih=>simp only[du.L1,prgChk,ih]
theorem interestsP(l:List av)(g:Int):cK.L1 cK.K1 l g=prgChk nG (·.No) 290 l g:=by
 induction l generalizing g with
 |nil=>rfl
 |cons y l ih=>simp only[cK.L1,prgChk,ih]
def stMap(t ad:Int):List av->List (dX×av)->List (dX×av)
 |[],m=>m
 |y::l,m=>bif(decide (t<y.At)||decide (ad<y.eH))then stMap t ad l m else bif((!(mhas m (dX.mk y.bw y.eG y.Of)))||decide ((mgetD m (dX.mk y.bw y.eG y.Of) (av.mk 0 0 0 0 0 false false)).At<=y.At))then stMap t ad l (mput m (dX.mk y.bw y.eG y.Of) y)else stMap t ad l m
theorem FD(t ad:Int)(k:List (dX×av)->List av):∀(l:List av)m,cH.L1 t ad k l m=k (stMap t ad l m)
 |[],m=>rfl
 |y::l,m=>by
  simp only[cH.L1,stMap,FD t ad k l]
  grind
theorem xr(v:List (dX×av)):∀l:List av,em.L1 v [] l=l.filter λy=>(!y.mU)&&decide (mgetD v (dX.mk y.bw y.eG y.Of) (av.mk 0 0 0 0 0 false false)=y)
 |[]=>rfl
 |y::l=>by
  simp only[em.L1,List.filter_cons,xr v l]
  grind
theorem qI(h:e=0):exOk (my e):=by subst h;trivial
structure kj(c:bZ):Prop where
 chk:cQ c.Register=0
 bD:c.bD∈c.Register.cj
 time:0<=c.at_/\c.at_<1099511627776
 know:0<=c.ad/\c.ad<1099511627776
theorem kj.good{c:bZ}(h:kj c):Sr c.bD:=Fp ((kh _).1 h.chk).2.2.2.2.2.1 _ h.bD
theorem kj.vers{c:bZ}(h:kj c):Kl c.Register.Versions:=(rI _).1 ((kh _).1 h.chk).2.2.2.2.1
theorem kj.kind{c:bZ}(h:kj c):0<=c.bD.Kind/\c.bD.Kind<16:=h.good.kind
theorem approvalsP(l:List ae)(g:Int):bN.L1 bN.K1 l g=prgChk lA (·.No) 280 l g:=by
 induction l generalizing g with
 |nil=>rfl
 |cons y l ih=>simp only[bN.L1,prgChk,ih]
theorem rq{l:List ae}(h:bN l=0):∀x∈l,lA x=true:=by grind [bN,approvalsP,rB]
theorem BB{x:ae}(h:lA x=true):(0<=x.Doc/\x.Doc<4096)/\(0<=x.By/\x.By<64)/\(0<=x.For/\x.For<64)/\(0<=x.dQ/\x.dQ<32)/\(0<=x.At/\x.At<1099511627776):=by
 simp only[lA,eN,containsF,jZ,List.any_cons,List.any_nil,Bool.or_false,jA,vD,Bool.or_eq_false_iff,decide_eq_false_iff_not]at h
 omega
theorem budgetsP(l:List Budget)(g:Int):bY.L1 bY.K1 l g=prgChk mP (·.No) 180 l g:=by
 induction l generalizing g with
 |nil=>rfl
 |cons y l ih=>simp only[bY.L1,prgChk,ih]
theorem sU{l:List Budget}(h:bY l=0):∀x∈l,mP x=true:=by grind [bY,budgetsP,rB]
theorem xj{x:Budget}(h:mP x=true):x.mH≠0:=by
 simp only[mP,ct,containsF,lV,List.any_cons,List.any_nil,Bool.or_false,Bool.cond_eq_ite]at h
 grind
theorem Lb{l:List Budget}{kind t:Int}{x:Budget}(h:x∈aZ l kind t ad):x∈l:=by
 have h2:∀(g:List (ig×Budget))(s acc:List Budget),x∈aZ.L2 g aZ.K2 s acc->x∈acc\/x∈s:=by
  intro g s
  induction s with
  |nil=>intro acc h;exact .inl h
  |cons y s ih=>
   intro acc h
   simp only[aZ.L2,Bool.cond_eq_ite]at h
   grind
 have h1:∀(s:List Budget)(g:List (ig×Budget)),x∈aZ.L1 kind t ad (aZ.K1 l) s g->x∈l:=by
  intro s
  induction s with
  |nil=>intro g h;rcases h2 g l [] h with h|h;exact(vA h).elim;exact h
  |cons y s ih=>intro g h;simp only[aZ.L1,Bool.cond_eq_ite]at h;(repeat' split at h)<;>exact ih _ h
 exact h1 _ _ h
theorem OS{l:List Budget}{kind t:Int}{x:Budget}(h:bY l=0)(hx:x∈aZ l kind t ad):x.mH≠0:=xj (sU h x (Lb hx))
theorem CI{l:List ae}{bD t:Int}{x:ae}(h:x∈aK l bD t ad):x∈l:=by
 have hc:∀(s:List ae),x∈de.L1 bD t ad de.K1 s->x∈s:=by
  intro s
  induction s with
  |nil=>intro h;exact(vA h).elim
  |cons y s ih=>
   intro h
   simp only[de.L1,Bool.cond_eq_ite]at h
   all_goals grind
 have h2:∀(g:List (eY×ae))(s acc:List ae),x∈aK.L2 g aK.K2 s acc->x∈acc\/x∈s:=by
  intro g s
  induction s with
  |nil=>intro acc h;exact .inl h
  |cons y s ih=>
   intro acc h
   simp only[aK.L2,Bool.cond_eq_ite]at h
   split at h
   all_goals grind
 have h1:∀(s:List ae)(g:List (eY×ae)),x∈aK.L1 (aK.K1 l bD t ad) s g->x∈l:=by
  intro s
  induction s with
  |nil=>
   intro g h
   rcases h2 g (fS l bD t ad) [] h with h|h
   .exact(vA h).elim
   .exact hc _ h
  |cons y s ih=>intro g h;simp only[aK.L1,Bool.cond_eq_ite]at h;split at h<;>exact ih _ h
 exact h1 _ _ h
theorem N0{l:List ae}{bD t:Int}{x:ae}(h:x∈(cC l bD b th t ad).1):x∈l:=by
 unfold cC at h
 simp only[Bool.cond_eq_ite]at h
 split at h
 .exact(vA h).elim
 .split at h
  .exact(vA h).elim
  .exact CI (qN.1 h).1
section
variable {c:bZ} (h:kj c)
include h
theorem QX{p:Int}(hp:0<=p/\p<64):(fy c.Register.gu p c.bD.nz c.at_ c.ad).2.2=0:=
 N9 ((kh _).1 h.chk).2.2.1 hp h.good.bQ h.time h.know
theorem Bv(hpr:p.dt.length=p.ey.length/\∀y∈p.dt,0<=y.iJ/\y.iJ<=1099511627775)(hk:0<=c.bD.Kind/\c.bD.Kind<(p.dt.length:Int)):
  (cC c.Register.bS c.bD.No c.bD.At (nthI p.dt c.bD.Kind).iJ c.at_ c.ad).2=0:=by
 have hth:=hpr.2 _ (lu hk)
 have h1:=h.good.no
 have h2:=h.good.at_
 have h3:=h.time
 have h4:=h.know
 have e1:eN 4095 [c.bD.No]=true:=by
  simp only[eN,containsF,jZ,List.any_cons,List.any_nil,Bool.or_false,vD,Bool.or_eq_false_iff,decide_eq_false_iff_not];omega
 have e2:eN 1099511627775 [c.bD.At,(nthI p.dt c.bD.Kind).iJ,c.at_,c.ad]=true:=by
  simp only[eN,containsF,jZ,List.any_cons,List.any_nil,Bool.or_false,vD,Bool.or_eq_false_iff,decide_eq_false_iff_not];omega
 unfold cC
 rw[((kh _).1 h.chk).2.2.2.2.2.2,e1,e2];rfl
theorem wa{d t:Int}{x:ae}(hx:x∈(cC c.Register.bS d b th t ad).1):(0<=x.Doc/\x.Doc<4096)/\(0<=x.By/\x.By<64)/\(0<=x.For/\x.For<64)/\(0<=x.dQ/\x.dQ<32)/\(0<=x.At/\x.At<1099511627776):=
 BB (rq ((kh _).1 h.chk).2.2.2.2.2.2 x (N0 hx))
theorem Mq{d t:Int}{x:ae}(hx:x∈(cC c.Register.bS d b th t ad).1):0<=x.For/\x.For<64:=(wa h hx).2.2.1
theorem PV{d t:Int}{x:ae}(hx:x∈(cC c.Register.bS d b th t ad).1):0<=x.By/\x.By<64:=(wa h hx).2.1
theorem Bu{d t:Int}{x:ae}(hx:x∈(cC c.Register.bS d b th t ad).1):(jq c.Register.fj x.dQ x.For c.at_ c.ad).2.2.2=0:=by
 obtain⟨_,_,h2,h3,_⟩:=wa h hx
 have h4:=h.time
 have h5:=h.know
 have e1:gl x.dQ=true:=by simp only[gl,fq,jA,decide_eq_true_eq];omega
 have e2:ji x.For=true:=by simp only[ji,fq,jA,decide_eq_true_eq];omega
 have e3:∀z:Int,0<=z/\z<1099511627776->fQ z=true:=λz hz=>by simp only[fQ,fq,jA,decide_eq_true_eq];omega
 unfold jq
 rw[((kh _).1 h.chk).1,e1,e2,e3 _ h4,e3 _ h5]
 simp only[bne_self_eq_false,cond_false,Bool.not_true,Bool.or_false]
 cases(!(mhas (gj c.Register.fj c.at_ c.ad) (Yg x.dQ x.For))||(mgetD (gj c.Register.fj c.at_ c.ad) (Yg x.dQ x.For) (aA.mk 0 0 0 0 0 0 false)).mU)<;>rfl
omit h in
theorem P4{l:List aE}{a o v t:Int}{g:List (Int×Int)}:(aJ.K1 l a o k v t n g).2.2=0:=by
 unfold aJ.K1
 cases(!(mhas g a))with
 |true=>rfl
 |false=>
  rw[cond_false]
  have:∀(s:List Nat)(i:Nat)(p:List Int)(q:Int),(aJ.L4 l a o k v t n g aJ.K4 s i p q).2.2=0:=by
   intro s
   induction s with
   |nil=>intro i p q;rfl
   |cons y s ih=>
    intro i p q
    simp only[aJ.L4]
    have:∀(L:List aE)(p:List Int)(q:Int),(aJ.L6 a g i (λzg6_16 zg6_31=>aJ.L4 l a o k v t n g aJ.K4 s (i+1) zg6_16 zg6_31) L p q).2.2=0:=by
     intro L
     induction L with
     |nil=>intro p q;exact ih _ _ _
     |cons z L ihL=>intro p q;simp only[aJ.L6,Bool.cond_eq_ite];split;exact ih _ _ _;exact ihL _ _
    exact this _ _ _
  exact this _ _ _ _
omit h in
theorem S7{l:List aE}{a o v t:Int}(h0:ly l a b (bL.mk o k v t n)=0):(aJ l a b o k v t n).2.2=0:=by
 unfold aJ
 rw[h0]
 simp only[bne_self_eq_false,cond_false]
 have:∀(s:List Nat)(i:Nat)(g:List (Int×Int)),(aJ.L1 l o k v t n (aJ.K1 l a o k v t n) s i g).2.2=0:=by
  intro s
  induction s with
  |nil=>intro i g;exact P4
  |cons y s ih=>
   intro i g
   simp only[aJ.L1]
   have:∀(L:List aE)(g:List (Int×Int)),(aJ.L3 i (λzg3_b2_0=>aJ.L1 l o k v t n (aJ.K1 l a o k v t n) s (i+1) zg3_b2_0) L g).2.2=0:=by
    intro L
    induction L with
    |nil=>intro g;exact ih _ _
    |cons z L ihL=>intro g;simp only[aJ.L3,Bool.cond_eq_ite];split<;>exact ihL _
   exact this _ _
 exact this _ _ _
theorem Bw{d t:Int}{x:ae}(hx:x∈(cC c.Register.bS d b th t ad).1):
  (aJ c.Register.dY x.For x.By x.dQ c.bD.Kind c.bD.Value c.at_ c.ad).2.2=0:=by
 obtain⟨_,h1,h2,h3,_⟩:=wa h hx
 have h4:=h.time
 have h5:=h.know
 have h6:=h.kind
 have h7:=h.good.value
 refine S7 ?_
 have e2:∀z:Int,0<=z/\z<64->iW z=true:=λz hz=>by simp only[iW,dB,jA,decide_eq_true_eq];omega
 have e3:∀z:Int,0<=z/\z<1099511627776->j4 z=true:=λz hz=>by simp only[j4,dB,jA,decide_eq_true_eq];omega
 have e4:dB x.dQ 0 31=true:=by simp only[dB,jA,decide_eq_true_eq];omega
 have e5:dB c.bD.Kind 0 15=true:=by simp only[dB,jA,decide_eq_true_eq];omega
 have e6:dB c.bD.Value 0 1099511627776=true:=by simp only[dB,jA,decide_eq_true_eq];omega
 unfold ly
 rw[((kh _).1 h.chk).2.1,e2 _ h1,e2 _ h2,e3 _ h4,e3 _ h5,e4,e5,e6];rfl
end
theorem DB{l:List aj}{signed:List Int}{b:Bool}(h:((!bT l signed)||b)=false):signed.length=l.length:=by
 simp only[bT,Bool.or_eq_false_iff,Bool.not_eq_false',jA,beq_iff_eq]at h
 have:=h.1.1
 omega
def playSame(P Q:ff):Prop:=Q.shelf=P.shelf/\Q.signed=P.signed/\Q.done.length=P.done.length/\Q.lacks.length=P.lacks.length
theorem playSame.refl(P:ff):playSame P P:=⟨rfl,rfl,rfl,rfl⟩
theorem playSame.trans{P Q R:ff}(h:playSame P Q)(k:playSame Q R):playSame P R:=⟨k.1.trans h.1,k.2.1.trans h.2.1,k.2.2.1.trans h.2.2.1,k.2.2.2.trans h.2.2.2⟩
theorem rU{β : Type}(f:ff->β->ff)(hf:∀P x,playSame P (f P x)):∀(l:List β)(P:ff),playSame P (l.foldl f P)
 |[],P=>.refl P
 |x::l,P=>(hf P x).trans (rU f hf l _)
theorem KP(sg:List Int)(i:Int)(P:ff)(no:Int):playSame P (playLack sg i P no):=by
 unfold playLack
 cases(cu P (mgetD P.shelf.at_ no 0) (nthI sg i)).1 != 0
 .exact .refl P
 .exact⟨rfl,rfl,rfl,by simp⟩
theorem Nh(P:ff)(i:Int):playSame P (playMid P i):=by
 refine playSame.trans (Q:={ P with lacks:=P.lacks.set i.toNat (-1) }) ⟨rfl,rfl,rfl,by simp⟩ ?_
 exact rU _ (λQ x=>KP _ _ _ _) _ _
theorem KQ(P:ff)(i:Int):playSame P (playDone P i):=⟨rfl,rfl,by simp[playDone],rfl⟩
theorem Hc(d:aj)(P:ff)(no:Int):playSame P (playRevoke d P no):=⟨rfl,rfl,rfl,rfl⟩
theorem KO(P:ff)(i:Int):playSame P (playStep P i):=by
 have h:=(Nh P i).trans (KQ (playMid P i) i)
 unfold playStep
 cases decide (nthI (playMid P i).lacks i<0)
 .exact h
 .exact h.trans (rU _ (λQ x=>Hc _ _ _) _ _)
theorem FQ(l:List aj)(signed:List Int)(t:Int):playSame (playP l signed) (co l signed t):=rU _ KO _ _
theorem uC(l:List aj)(signed:List Int)(t:Int):(co l signed t).shelf=aG l:=(FQ l signed t).1
theorem tC(l:List aj)(signed:List Int)(t:Int):(co l signed t).shelf.docs=l:=by
 rw[uC]
 have:∀(s:List aj)(i:Nat)(g:List (Int×Int)),(aG.L1 (aG.K1 l) s i g).docs=l:=by
  intro s
  induction s with
  |nil=>intro i g;rfl
  |cons y s ih=>intro i g;exact ih _ _
 exact this _ _ _
theorem FS(l:List aj)(signed:List Int)(t:Int):(co l signed t).done.length=(co l signed t).shelf.docs.length/\(co l signed t).lacks.length=(co l signed t).shelf.docs.length:=by
 have h:=FQ l signed t
 rw[tC]
 exact⟨h.2.2.1.trans (by simp[playP]),h.2.2.2.trans (by simp[playP])⟩
theorem LJ{l:List aj}{signed:List Int}{t:Int}{no:Int}(h:(!(mhas (co l signed t).shelf.at_ no))=false):
  0<=mgetD (co l signed t).shelf.at_ no 0/\mgetD (co l signed t).shelf.at_ no 0<((co l signed t).shelf.docs.length:Int):=by
 rw[tC]
 rw[uC]at h ⊢
 have hl:0<l.length:=by
  cases l with
  |nil=>exact Bool.noConfusion (show true=false from h)
  |cons=>simp
 have key:∀(s:List aj)(i:Nat)(g:List (Int×Int)),i+s.length=l.length->(∀p∈g,0<=p.2/\p.2<(l.length:Int))->∀p∈(aG.L1 (aG.K1 l) s i g).at_,0<=p.2/\p.2<(l.length:Int):=by
  intro s
  induction s with
  |nil=>intro i g _ hg;exact hg
  |cons y s ih=>
   intro i g hi hg
   simp only[xA]at hi
   exact ih (i+1) _ (by omega) (AS (P:=λx:Int=>0<=x/\x<(l.length:Int)) _ hg (by omega))
 exact BP (P:=λx:Int=>0<=x/\x<(l.length:Int)) no (key l 0 [] (by simp) (λ_ h=>(vA h).elim)) (by omega)
theorem rightH(h:dg hs n=true):∀l∈hs,∀y∈l,1<=y.fD/\y.fD<=64:=by
 have h3:∀(k:List Int->Bool)(l:List aV)(g:List Int),dg.L3 k l g=true->(∀y∈l,1<=y.fD/\y.fD<=64)/\∃g',k g'=true:=by
  intro k l
  induction l with
  |nil=>exact λg h=>⟨λ_ h=>(vA h).elim,g,h⟩
  |cons y l ih=>
   intro g h
   simp only[dg.L3,Bool.cond_eq_ite]at h
   split at h
   .cases h
   .next hc=>
    simp only[xC,decide_eq_true_eq,not_or]at hc
    obtain⟨h1,h2⟩:=ih _ h
    refine⟨λz hz=>?_,h2⟩
    rcases vC.1 hz with rfl|hz
    .omega
    .exact h1 z hz
 have h1:∀(k:Bool)(l:List (List aV)),dg.L1 k l=true->∀m∈l,∀y∈m,1<=y.fD/\y.fD<=64:=by
  intro k l
  induction l with
  |nil=>exact λ_ _ h=>(vA h).elim
  |cons y l ih=>
   intro h m hm
   obtain⟨h4,g',hg⟩:=h3 _ _ _ h
   simp only[Bool.cond_eq_ite]at hg
   split at hg
   .cases hg
   .rcases vC.1 hm with rfl|hm
    .exact h4
    .exact ih hg m hm
 exact h1 _ hs h
theorem Qa(q:ba)(o:Int):kX q o=(nthI q.bh o).filter λy=>q.gv.contains y.bw:=by
 have:∀l:List aV,eF.L1 q [] l=l.filter λy=>q.gv.contains y.bw:=by
  intro l
  induction l with
  |nil=>rfl
  |cons y l ih=>
   simp only[eF.L1,slices_BinarySearch_int,List.filter_cons,ih]
   cases q.gv.contains y.bw<;>rfl
 exact this _
structure XO(q q':ba):Prop where
 value:q'.value=q.value
 bh:q'.bh=q.bh
 gv:∀l∈q.bh,∀y∈l,y.bw∈q.gv->y.bw∈q'.gv
 wt:∀l∈q.bh,∀y∈l,1<=y.fD/\y.fD<=64
 len:∀l∈q.bh,l.length<=2000000
theorem Nq[Inhabited α]{P:α->Prop}{l:List α}(h:∀y∈l,P y)(hd:P default)(z:Int):P (nthI l z):=by
 by_cases hz:z.toNat<l.length
 .have:nthI l z=l[z.toNat]:=by simp[nthI,List.getD_eq_getElem?_getD,hz]
  rw[this];exact h _ (List.getElem_mem _)
 .have:nthI l z=default:=by simp[nthI,List.getD_eq_getElem?_getD,hz]
  rw[this];exact hd
def wsum(l:List aV):Int:=(l.map (·.fD)).sum
theorem Lh(k:Int->Bool):∀(l:List aV)(g:Int),0<=g->g+64*l.length<=1000000000000->(∀y∈l,1<=y.fD/\y.fD<=64)->dA.L1 k l g=k (g+wsum l)
 |[],g,_,_,_=>by simp[dA.L1,wsum]
 |y::l,g,h0,hb,h=>by
  have hy:=h y (zB ..)
  rw[xA]at hb
  have e:jD .i64 (g+y.fD)=g+y.fD:=wrap64 (by omega)
  simp only[dA.L1,e]
  rw[Lh k l _ (by omega) (by omega) λz hz=>h z (qC _ hz)]
  simp only[wsum,jG,List.sum_cons]
  rw[Int.add_assoc]
theorem Up(rec:ba->ai->Bool)(q:ba)(k:Int->Bool):∀(l:List ai)(g:Int),0<=g->g+l.length<=1000000000000->eS.L1 rec q k l g=k (g+(l.countP (rec q):Nat))
 |[],g,_,_=>by simp[eS.L1]
 |y::l,g,h0,hb=>by
  rw[xA]at hb
  have e:jD .i64 (g+1)=g+1:=wrap64 (by omega)
  simp only[eS.L1,e]
  rw[Up rec q k l g h0 (by omega),Up rec q k l (g+1) (by omega) (by omega),List.countP_cons]
  cases rec q y
  .simp
  .simp only[cond_true,if_true];congr 1;omega
theorem Fm(f:Bool->Bool):∀(l:List Bool)(i:Nat),decide (0<=fo.L1 f fo.K1 l i)=l.any f
 |[],i=>rfl
 |y::l,i=>by
  have ih:=Fm f l (i+1)
  simp only[fo.L1,List.any_cons,Bool.cond_eq_ite]
  grind
def decV(mode:Int)(l:List Bool):Bool:=bif mode==4 then l.any id else bif mode==3 then l.any id&&!(l.any λb=>!b)else((l.length:Int)==1)&&nthI l 0
theorem MC(mode:Int)(l:List Bool):ip mode l=bif lq mode l != 0 then(false,lq mode l)else(decV mode l,0):=by
 have y1:decide (0<=jx l m4)=l.any id:=Fm _ l 0
 have y2:decide (0<=jx l nH)=l.any λb=>!b:=Fm _ l 0
 have L1:∀(s:List Bool)i g,(bH.L1 (bH.K1 l) s i g).2=(l.any id,0):=by
  intro s
  induction s with
  |nil=>intro i g;simp only[bH.L1,bH.K1,y1]
  |cons y s ih=>intro i g;exact ih _ _
 have L2:∀(s:List Bool)i g,(bH.L2 (bH.K2 l) s i g).2=(((l.length:Int)==1)&&nthI l 0,0):=by
  intro s
  induction s with
  |nil=>intro i g;rfl
  |cons y s ih=>intro i g;exact ih _ _
 have L3:∀(s:List Bool)i g,(bH.L3 bH.K3 s i g).2=(false,0):=by
  intro s
  induction s with
  |nil=>intro i g;rfl
  |cons y s ih=>intro i g;exact ih _ _
 have e:ip mode l=(bH mode l).2:=rfl
 rw[e]
 unfold bH decV
 grind
theorem MP(l:List av)(a b:Int):∃p:av->Bool,cH l a b=l.filter p:=by
 have h1:∀v(l:List av),em.L1 v [] l=l.filter λy=>(!y.mU)&&decide (mgetD v (dX.mk y.bw y.eG y.Of) (av.mk 0 0 0 0 0 false false)=y):=by
  intro v l
  induction l with
  |nil=>rfl
  |cons y l ih=>
   simp only[em.L1,List.filter_cons,ih]
   grind
 have h2:∀(k:List (dX×av)->List av)(l:List av)m,∃m',cH.L1 a b k l m=k m':=by
  intro k l
  induction l with
  |nil=>exact λm=>⟨m,rfl⟩
  |cons y l ih=>
   intro m
   simp only[cH.L1,Bool.cond_eq_ite]
   split
   .exact ih _
   .split
    .exact ih _
    .exact ih _
 obtain⟨m',e⟩:=h2 (cH.K1 l) l []
 exact⟨_,by unfold cH;rw[e];exact h1 m' l⟩
theorem OA(l:List av)(a b:Int):(cH l a b).length<=l.length:=by
 obtain⟨p,e⟩:=MP l a b
 rw[e];exact List.length_filter_le _ _
theorem Jb{α : Type}{k:Int}{v:α}:∀{m:List (Int×α)},k∉m.map (·.1)->(mput m k v).length=m.length+1/\∀p∈mput m k v,p=(k,v)\/p∈m
 |[],_=>by simp[mput]
 |(k',v')::m,hk=>by
  simp only[jG,vC,not_or]at hk
  obtain⟨h1,h2⟩:=Jb (v:=v) hk.2
  simp only[mput,hk.1,if_false,xA,h1,vC,true_and]
  grind
theorem Nz(hg:yq st m q)(h:mgetD m k false=false):k∉m.map (·.1):=by
 intro hk
 obtain⟨⟨k',v⟩,hp,rfl⟩:=qM.1 hk
 have:∀{m:List (Int×Bool)},(∀p∈m,p.2=true)->k'∈m.map (·.1)->mgetD m k' false=true:=by
  intro m
  induction m with
  |nil=>intro _ h;simp at h
  |cons p m ih=>
   intro ha hm
   obtain⟨a,b⟩:=p
   by_cases e:k'=a
   .have:=ha (a,b) (zB ..)
    simp only at this
    simp[mgetD,mget?,e,this]
   .simp only[jG,vC,e,false_or]at hm
    have:=ih (λp hp=>ha p (qC _ hp)) hm
    simpa[mgetD,mget?,e]using this
 rw[this (λp hp=>(hg.1 p hp).1) hk]at h
 cases h
theorem wI(hg:yq st m q)(hw:w.to∈st.map (·.eG))(h8:w.path.length<=8):yq st (conPut w m q).1 (conPut w m q).2:=by
 unfold conPut
 cases h:mgetD m w.to false with
 |true=>exact hg
 |false=>
  obtain⟨h1,h2⟩:=Jb (v:=true) (Nz hg h)
  refine⟨λp hp=>?_,?_,λw' hw'=>?_⟩
  .rcases h2 p hp with rfl|hp
   .exact⟨rfl,hw⟩
   .exact hg.1 p hp
  .show(q++[w]).length<=(mput m w.to true).length
   rw[h1,kA];have:=hg.2.1;simp;omega
  .rcases qE.1 (show w'∈q++[w]from hw')with hw'|hw'
   .exact hg.2.2 w' hw'
   .rw[kB.1 hw'];exact h8
theorem Bx{cap:Nat}(hg:yq st m q)(hn:(m.map (·.1)).Nodup)(hk:k∈st.map (·.eG))(hc:st.length<=cap)(h:mgetD m k false=false):q.length<cap:=by
 have h1:=Nz hg h
 have h2:(k::m.map (·.1)).length<=(st.map (·.eG)).length:=BO (jQ.2 ⟨h1,hn⟩) (λx hx=>by
  rcases vC.1 hx with rfl|hx
  .exact hk
  .obtain⟨p,hp,rfl⟩:=qM.1 hx;exact(hg.1 p hp).2)
 simp only[xA,List.length_map]at h2
 have:=hg.2.1
 omega
theorem Uu(hg:yq st m q)(hn:(m.map (·.1)).Nodup):m.length<=st.length:=by
 have:=BO (b:=st.map (·.eG)) hn (λx hx=>by obtain⟨p,hp,rfl⟩:=qM.1 hx;exact(hg.1 p hp).2)
 simpa using this
theorem N2(hn:(m.map (·.1)).Nodup):((conPut w m q).1.map (·.1)).Nodup:=by grind [conPut,mgetD,rf]
theorem PW{N:Nat}(hg:yq st m q)(hn:(m.map (·.1)).Nodup)(hw:w.to∈st.map (·.eG))(hN:st.length<=N):
  (conPut w m q).2.length+(N-(conPut w m q).1.length)<=q.length+(N-m.length):=by
 unfold conPut
 cases h:mgetD m w.to false with
 |true=>simp
 |false=>
  obtain⟨h1,_⟩:=Jb (v:=true) (Nz hg h)
  have h2:yq st (mput m w.to true) []:=by
   have:=wI (w:=⟨[],w.to⟩) (q:=[]) (st:=st) (m:=m) ⟨hg.1,kJ _,λ_ h=>(vA h).elim⟩ hw (by simp)
   simp only[conPut,h,cond_false]at this
   exact⟨this.1,kJ _,λ_ h=>(vA h).elim⟩
  have h3:=Uu h2 (rf w.to true hn)
  grind
theorem vq(m:List (Int×α))(k j:Int)(v z:α):mgetD (mput m k v) j z=if j=k then v else mgetD m j z:=by
 induction m with
 |nil=>by_cases h:j=k<;>simp[mput,mgetD,mget?,h]
 |cons p m ih=>
  obtain⟨a,b⟩:=p
  by_cases h:k=a
  .subst h
   by_cases h2:j=k<;>simp[mput,mgetD,mget?,h2]
  .by_cases h2:j=a
   .subst h2
    have:¬j=k:=λe=>h e.symm
    simp[mput,h,mgetD,mget?,this]
   .simp only[mgetD]at ih ⊢
    simp only[mput,h,if_false,mget?,h2]
    exact ih
theorem Sq.put{f:List (Int×List av)}(hf:Sq st f){x:av}(hx:x∈st):Sq st (mput f k (mgetD f k []++[x])):=by
 intro j y hy
 rw[vq]at hy
 split at hy
 .rcases qE.1 hy with hy|hy
  .exact hf k y hy
  .rw[kB.1 hy];exact hx
 .exact hf j y hy
theorem BL(A B:List α)(x y:α):(A++x::y::B).Perm (y::x::(A++B)):=
 List.perm_middle.trans ((List.Perm.cons x List.perm_middle).trans (List.Perm.swap y x _))
theorem Et{st:List av}{path:List Int}{N:Nat}(hN:st.length<=N)(h8:path.length+1<=8):∀{xs:List av}{m:List (Int×Bool)}{q:List iX},(∀x∈xs,x∈st)->yq st m q->(m.map (·.1)).Nodup ->
  (conStep path xs m q).2.length+(N-(conStep path xs m q).1.length)<=q.length+(N-m.length)
 |[],m,q,_,_,_=>zE _
 |x::xs,m,q,hx,hg,hn=>by
  have hp:(iX.mk (path++[x.No]) x.eG).to∈st.map (·.eG):=List.mem_map_of_mem (hx x (zB ..))
  have h1:=PW (w:=⟨path++[x.No],x.eG⟩) hg hn hp hN
  have h2:=Et (path:=path) hN h8 (xs:=xs) (λy hy=>hx y (qC _ hy)) (wI hg hp (by simpa using h8)) (N2 hn)
  simp only[conStep]
  exact zN h2 h1
theorem DI:∀{a b:List Int},a.Pairwise (·<·)->b.Pairwise (·<·)->(∀x∈a,x∈b)->a.Sublist b
 |[],b,_,_,_=>List.nil_sublist _
 |x::a,[],_,_,h=>absurd (h x (zB ..)) vA
 |x::a,y::b,ha,hb,h=>by
  obtain⟨a1,a2⟩:=List.pairwise_cons.1 ha
  obtain⟨b1,b2⟩:=List.pairwise_cons.1 hb
  by_cases e:x=y
  .subst e
   refine(DI a2 b2 λz hz=>?_).cons_cons _
   grind
  .refine(DI ha b2 λz hz=>?_).cons _
   rcases vC.1 (h z hz)with g|g
   .have hy:y<x:=by
     rcases vC.1 (h x (zB ..))with g2|g2
     .exact absurd g2 e
     .exact b1 x g2
    grind
   .exact g
theorem Cw(l:List Int)(n:Int):(gG l n).length<=l.length+1:=by
 have key:∀(s:List Int)(i:Nat),(gG.L1 n (gG.K1 l n) s i).length<=l.length+1:=by
  have hk:∀i,(gG.K1 l n i).length<=l.length+1:=by
   grind [gG.K1,kA,List.length_take,List.length_drop,xA,xB]
  intro s
  induction s with
  |nil=>exact hk
  |cons y s ih=>
   intro i
   simp only[gG.L1,Bool.cond_eq_ite]
   split
   .exact ih _
   .exact hk _
 exact key l 0
theorem Nb(l:List aA)(a b c:Int):(dP l a b c).1.length<=64:=by
 have k1:∀(s:List Nat)(i:Nat)(g:List aV),(dP.L1 l a b c dP.K1 s i g).1.length<=g.length+s.length:=by
  intro s
  induction s with
  |nil=>intro i g;simp[dP.L1,dP.K1]
  |cons y s ih=>
   intro i g
   simp only[dP.L1,Bool.cond_eq_ite,xA]
   grind
 unfold dP
 grind
end Go.Sg
