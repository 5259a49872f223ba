import Derived.KernelRfl
import Derived.Test.YtpplkjhgggjaoaaGreatDoorW2
/- A part of the proof of JudgeMore. -/
set_option linter.unusedVariables false
set_option linter.unusedSimpArgs false
set_option maxRecDepth 100000
open List renaming length_cons→xA,length_append→jA,not_mem_nil→kA,mem_cons_of_mem→xB,mem_cons_self→jB,length_nil→vB,toArray→kB,mem_cons→qC,mem_singleton→xC,mem_append→kF,nil_append→xG,range→qH,map_cons→kH,mem_map→kM,nodup_cons→xR,mem_filter→kS,getElem?_map→R9,getElem?_of_mem→Tn
open Bool renaming and_eq_true→zB,or_eq_true→xD,not_eq_true'→qE,eq_iff_iff→vM,false_eq_true→R1
open Go.IntKind renaming wrap→jC
open Go.Sg.Appoint renaming mk→kD
open Nat renaming le_refl→jG,le_trans→vT
open Go.Sg.Expr renaming mk→vG,iS→R3,lP→Th
open Go.Sg.Register renaming mk→zK
open Go.Sg.Policy renaming mk→kN
open Go.Sg.Approval renaming mk→qW
open Option.some renaming inj→R4
open Go.Sg.Interest renaming mk→SD
open Go.Sg.Version renaming mk→S0
open Go.Sg.Budget renaming mk→S7
open Go.Sg.Deputy renaming mk→Td
open Go.Sg.Rule renaming mk→Ti
open Go.Sg.OSeat renaming mk→Tj
open Go.Sg.Holder renaming mk→UT

namespace Go.Sg
variable {b e known n office th:Int}{c:Bool}{f:Unit->Except Int Unit}{hs:List (List Holder)}{s:ByteArray}{signed:List Int}{x:Approval}{α:Type}
def dX(eE:Int)(low:Int)(high:Int):Bool:=(decide (low<=eE)&&decide (eE<=high))
def fg(eE:Int):Bool:=(dX eE 0 31)
def dq(eE:Int):Bool:=(dX eE 0 1099511627775)
def fY(eE:Int):Bool:=(dX eE 0 63)
def nU(x:Appoint):Bool:=(bif x.Gone then((((((dX x.No 0 1048576)&&(dq x.At))&&(dq x.Known))&&(fg x.Office))&&(fY x.Person))&&(dX x.Weight 0 0))else((((((dX x.No 0 1048576)&&(dq x.At))&&(dq x.Known))&&(fg x.Office))&&(fY x.Person))&&(dX x.Weight 1 64)))
def dg.K1(iu:Int):Int:=0
def dg.L1(k:Int->Int):List Appoint->Int->Int
 |[],iu=>(k iu)
 |y1::rz1,iu=>(bif((!(nU y1))||decide (y1.No<=iu))then 150 else(dg.L1  k rz1 y1.No))
def dg(l:List Appoint):Int:=(bif(decide (4096<(l.length:Int)))then 2 else((dg.L1 (dg.K1)) l (-1)))
def cY(eE:Int)(low:Int)(high:Int):Bool:=(decide (low<=eE)&&decide (eE<=high))
def fZ(eE:Int):Bool:=(cY eE 0 63)
def gx(eE:Int):Bool:=(cY eE 0 1099511627775)
def nt(x:Deputy):Bool:=(bif((((((((!(cY x.No 0 1048576))||(!(gx x.At)))||(!(gx x.Known)))||(!(fZ x.From)))||(!(fZ x.To)))||(x.From==x.To))||(!(cY x.Office 0 31)))||(!(cY x.Kind (-1) 15)))then false else(bif x.Gone then((x.Until==0)&&(x.Most==0))else((decide (x.At<x.Until)&&decide (x.Until<=1099511627776))&&(cY x.Most 0 1099511627776))))
def dB.K1(iu:Int):Int:=0
def dB.L1(k:Int->Int):List Deputy->Int->Int
 |[],iu=>(k iu)
 |y1::rz1,iu=>(bif((!(nt y1))||decide (y1.No<=iu))then 160 else(dB.L1  k rz1 y1.No))
def dB(l:List Deputy):Int:=(bif(decide (4096<(l.length:Int)))then 2 else((dB.L1 (dB.K1)) l (-1)))
def bH(eE:Int)(limit:Int):Bool:=(decide (0<=eE)&&decide (eE<limit))
def mI(x:Interest):Bool:=(bif x.Of then((((((bH x.No 1048577)&&(bH x.At 1099511627776))&&(bH x.Known 1099511627776))&&(bH x.Party 1048577))&&(bH x.Person 1048577))&&(x.Person != x.Party))else(((((bH x.No 1048577)&&(bH x.At 1099511627776))&&(bH x.Known 1099511627776))&&(bH x.Party 1048577))&&(bH x.Person 64)))
def cX.K1(iu:Int):Int:=0
def cX.L1(k:Int->Int):List Interest->Int->Int
 |[],iu=>(k iu)
 |y1::rz1,iu=>(bif((!(mI y1))||decide (y1.No<=iu))then 290 else(cX.L1  k rz1 y1.No))
def cX(l:List Interest):Int:=(bif(decide (4096<(l.length:Int)))then 2 else((cX.L1 (cX.K1)) l (-1)))
def dR.K1  : Int:=(-1)
def dR.L1(f:(Int->Bool))(k:Int):List Int->Nat->Int
 |[],i1=>(k)
 |y1::rz1,i1=>(bif(f y1)then(i1:Int)else(dR.L1 f k rz1 (i1+1)))
def dR(s:List Int)(f:(Int->Bool)):Int:=((dR.L1 f (dR.K1)) s 0)
def cH(s:List Int)(f:(Int->Bool)):Bool:=decide (0<=(dR s f))
def iE(eE:Int)(v0:Int)(v1:Int):Bool:=(decide (eE<v0)||decide (v1<eE))
def aN(least:Int)(most:Int)(l:List Int):Bool:=(!(cH l (λdC=>iE dC least most)))
def kh(x:Budget):Bool:=(bif x.Gone then((((((aN 0 1048576 ([x.No]))&&(aN 0 1099511627775 ([x.At,x.Known])))&&(aN (-1) 15 ([x.Kind])))&&(aN 1 1099511627776 ([x.Period])))&&(aN 0 0 ([x.Count])))&&(aN 0 0 ([x.Value])))else((((((aN 0 1048576 ([x.No]))&&(aN 0 1099511627775 ([x.At,x.Known])))&&(aN (-1) 15 ([x.Kind])))&&(aN 1 1099511627776 ([x.Period])))&&(aN 0 1048576 ([x.Count])))&&(aN 0 1099511627776 ([x.Value]))))
def cu.K1(iu:Int):Int:=0
def cu.L1(k:Int->Int):List Budget->Int->Int
 |[],iu=>(k iu)
 |y1::rz1,iu=>(bif((!(kh y1))||decide (y1.No<=iu))then 180 else(cu.L1  k rz1 y1.No))
def cu(l:List Budget):Int:=(bif(decide (4096<(l.length:Int)))then 2 else((cu.L1 (cu.K1)) l (-1)))
def aH.L2(k:List gq):List gq->List gq
 |[]=>k
 |y2::rz2=>(y2::(aH.L2 k rz2))
def aH.L3(k:List gq):List gq->List gq
 |[]=>k
 |y3::rz3=>(y3::(aH.L3 k rz3))
def aH.K1  : List gq:=[]
def aH.L1(rec:Expr->Int->List gq)(depth:Int)(k:List gq):List Expr->List gq
 |[]=>(k)
 |y1::rz1=>((aH.L3 ((aH.L1 rec depth k rz1))) (rec y1 (depth+1)))
def aH.F(rec:Expr->Int->List gq)(x:Expr)(depth:Int):List gq:=((gq.mk (vG x.Kind x.N x.No x.Name x.L) depth)::((aH.L1 rec depth (aH.K1)) x.L))
def aH.go:Nat->Expr->Int->List gq
 |0=>λ_ _=>[]
 |m+1=>aH.F (aH.go m)
def bj(x:Expr)(depth:Int):List gq:=aH.go x.dep x depth
def eW(ok:Bool)(Q7:Int):(Except Int Unit):=(bif(!ok)then(Except.error Q7)else(Except.ok ()))
def aw.K1(p:Policy)(GB:List Expr):List Expr:=(GB++[p.Change])
def aw.L1(k:List Expr->List Expr):List Rule->List Expr->List Expr
 |[],GB=>(k GB)
 |y1::rz1,GB=>(aw.L1  k rz1 (GB++[y1.Expr]))
def aw(p:Policy):List Expr:=((aw.L1 (aw.K1 p)) p.Rules ([]))
def cq.L2(k:Int->(Except Int Unit)):List gq->Int->(Except Int Unit)
 |[],D1=>k D1
 |y2::rz2,D1=>(exi (eW (decide ((jC .i64 (D1+1))<=256)&&decide (y2.depth<=16)) 2) (λ_=>(cq.L2 k rz2 (jC .i64 (D1+1)))))
def cq.L3(k:Int->(Except Int Unit)):List gq->Int->(Except Int Unit)
 |[],D0=>k D0
 |y3::rz3,D0=>(exi (eW (decide ((jC .i64 (D0+1))<=256)&&decide (y3.depth<=16)) 2) (λ_=>(cq.L3 k rz3 (jC .i64 (D0+1)))))
def cq.K1  : (Except Int Unit):=(Except.ok ())
def cq.L1(k:(Except Int Unit)):List Expr->(Except Int Unit)
 |[]=>(k)
 |y1::rz1=>((cq.L3 (λzg3_b3_0=>(cq.L1  k rz1))) (bj y1 1) 0)
def cq(p:Policy):(Except Int Unit):=(exi (eW ((decide ((p.Offices.length:Int)<=32)&&decide ((p.Kinds.length:Int)<=16))&&decide ((p.Rules.length:Int)<=16)) 2) (λ_=>((cq.L1 (cq.K1)) (aw p))))
def dk(x:Expr):Bool:=((x.Kind==1)||(x.Kind==2))
def iN(s:ByteArray)(c:Int):Int:=(idxByte s c)
def strings_IndexByte(s:ByteArray)(c:Int):Int:=(iN s c)
def kc(c:Int):Int:=(bif((decide (97<=c)&&decide (c<=122))||(decide (65<=c)&&decide (c<=90)))then 2 else(bif(decide (48<=c)&&decide (c<=57))then 3 else(bif(c==95)then 5 else(bif((((c==32)||(c==9))||(c==10))||(c==13))then 1 else(bif(decide (0<=(strings_IndexByte (⟨#[123,125,40,41,59,44,61,58,46,60,62,33,43,45,42,47]⟩:ByteArray) c)))then 4 else 0)))))
def dJ.K1  : Bool:=true
def dJ.L1(s:ByteArray)(k:Bool):List Nat->Nat->Bool
 |[],i1=>(k)
 |y1::rz1,i1=>(bif((((kc ((s.data.getD ((i1:Int):Int).toNat 0).toNat:Int)) != 2)&&((kc ((s.data.getD ((i1:Int):Int).toNat 0).toNat:Int)) != 3))&&((kc ((s.data.getD ((i1:Int):Int).toNat 0).toNat:Int)) != 5))then false else(dJ.L1 s k rz1 (i1+1)))
def dJ(s:ByteArray):Bool:=(bif(((s.toList==(⟨#[]⟩:ByteArray).toList)||decide (32<(s.size:Int)))||((kc ((s.data.getD (0:Int).toNat 0).toNat:Int)) != 2))then false else((dJ.L1 s (dJ.K1)) (qH s.size) 0))
def dN(s:ByteArray):Bool:=(bif(s.toList==(⟨#[112,111,108,105,99,121]⟩:ByteArray).toList)then(bif(s.toList==(⟨#[112,111,108,105,99,121]⟩:ByteArray).toList)then false else(dJ s))else(bif(s.toList==(⟨#[109,111,100,101]⟩:ByteArray).toList)then(bif(s.toList==(⟨#[109,111,100,101]⟩:ByteArray).toList)then false else(dJ s))else(bif(s.toList==(⟨#[111,108,100]⟩:ByteArray).toList)then(bif(s.toList==(⟨#[111,108,100]⟩:ByteArray).toList)then false else(dJ s))else(bif(s.toList==(⟨#[110,101,119]⟩:ByteArray).toList)then(bif(s.toList==(⟨#[110,101,119]⟩:ByteArray).toList)then false else(dJ s))else(bif(s.toList==(⟨#[98,111,116,104]⟩:ByteArray).toList)then(bif(s.toList==(⟨#[98,111,116,104]⟩:ByteArray).toList)then false else(dJ s))else(bif(s.toList==(⟨#[101,105,116,104,101,114]⟩:ByteArray).toList)then(bif(s.toList==(⟨#[101,105,116,104,101,114]⟩:ByteArray).toList)then false else(dJ s))else(bif(s.toList==(⟨#[111,102,102,105,99,101]⟩:ByteArray).toList)then(bif(s.toList==(⟨#[111,102,102,105,99,101]⟩:ByteArray).toList)then false else(dJ s))else(bif(s.toList==(⟨#[107,105,110,100]⟩:ByteArray).toList)then(bif(s.toList==(⟨#[107,105,110,100]⟩:ByteArray).toList)then false else(dJ s))else(bif(s.toList==(⟨#[114,117,108,101]⟩:ByteArray).toList)then(bif(s.toList==(⟨#[114,117,108,101]⟩:ByteArray).toList)then false else(dJ s))else(bif(s.toList==(⟨#[116,104,105,110,107]⟩:ByteArray).toList)then(bif(s.toList==(⟨#[116,104,105,110,107]⟩:ByteArray).toList)then false else(dJ s))else(bif(s.toList==(⟨#[99,104,97,110,103,101]⟩:ByteArray).toList)then(bif(s.toList==(⟨#[99,104,97,110,103,101]⟩:ByteArray).toList)then false else(dJ s))else(bif(s.toList==(⟨#[115,111,109,101]⟩:ByteArray).toList)then(bif(s.toList==(⟨#[115,111,109,101]⟩:ByteArray).toList)then false else(dJ s))else(bif(s.toList==(⟨#[119,101,105,103,104,116]⟩:ByteArray).toList)then(bif(s.toList==(⟨#[119,101,105,103,104,116]⟩:ByteArray).toList)then false else(dJ s))else(bif(s.toList==(⟨#[111,102]⟩:ByteArray).toList)then(bif(s.toList==(⟨#[111,102]⟩:ByteArray).toList)then false else(dJ s))else(bif(s.toList==(⟨#[117,112,116,111]⟩:ByteArray).toList)then(bif(s.toList==(⟨#[117,112,116,111]⟩:ByteArray).toList)then false else(dJ s))else(bif(s.toList==(⟨#[101,108,115,101]⟩:ByteArray).toList)then false else(dJ s)))))))))))))))))
def aP.K1  : Int:=(-1)
def aP.L1(v:ByteArray)(k:Int):List ByteArray->Nat->Int
 |[],i1=>(k)
 |y1::rz1,i1=>(bif(v.toList==y1.toList)then(i1:Int)else(aP.L1 v k rz1 (i1+1)))
def aP(s:List ByteArray)(v:ByteArray):Int:=((aP.L1 v (aP.K1)) s 0)
def bD.K1  : Bool:=true
def bD.L1(l:List ByteArray)(ok:(ByteArray->Bool))(k:Bool):List ByteArray->Nat->Bool
 |[],i1=>(k)
 |y1::rz1,i1=>(bif((!(ok y1))||((aP l y1) != (i1:Int)))then false else(bD.L1 l ok k rz1 (i1+1)))
def bD(l:List ByteArray)(ok:(ByteArray->Bool)):Bool:=((bD.L1 l ok (bD.K1)) l 0)
def da(s:List ByteArray)(v:ByteArray):Bool:=decide (0<=(aP s v))
def ct.L2(p:Policy)(k:(Except Int Unit)):List gq->(Except Int Unit)
 |[]=>k
 |y2::rz2=>(exi (eW ((!(dk y2.x))||(da p.Offices y2.x.Name)) 201) (λ_=>(ct.L2 p k rz2)))
def ct.L3(p:Policy)(k:(Except Int Unit)):List gq->(Except Int Unit)
 |[]=>k
 |y3::rz3=>(exi (eW ((!(dk y3.x))||(da p.Offices y3.x.Name)) 201) (λ_=>(ct.L3 p k rz3)))
def ct.K1  : (Except Int Unit):=(Except.ok ())
def ct.L1(p:Policy)(k:(Except Int Unit)):List Expr->(Except Int Unit)
 |[]=>(k)
 |y1::rz1=>((ct.L3 p ((ct.L1 p k rz1))) (bj y1 1))
def ct(p:Policy):(Except Int Unit):=(exi (eW (((dN p.Name)&&(bD p.Offices dN))&&(bD p.Kinds dN)) 201) (λ_=>((ct.L1 p (ct.K1)) (aw p))))
def aK(eE:Int)(low:Int)(high:Int):Bool:=(decide (low<=eE)&&decide (eE<=high))
def pS(x0:Expr):Bool:=false
def ka(x:Expr):Bool:=((x.N==0)&&((x.L.length:Int)==0))
def j9(x:Expr):Bool:=((aK x.N 1 4096)&&((x.L.length:Int)==0))
def j8(x:Expr):Bool:=(((x.Name.toList==(⟨#[]⟩:ByteArray).toList)&&(aK (x.L.length:Int) 1 16))&&(aK x.N 1 (x.L.length:Int)))
def jd(x:Expr):Bool:=(((x.Name.toList==(⟨#[]⟩:ByteArray).toList)&&((x.L.length:Int)==2))&&(aK x.N 0 1099511627776))
def kindsP(i:Int)(x:Expr):Bool:=if i=0 then pS x else if i=1 then ka x else if i=2 then j9 x else if i=3 then j8 x else jd x
def bq.L3(p:Policy)(k:(Except Int Unit)):List gq->(Except Int Unit)
 |[]=>k
 |y3::rz3=>(exi (eW ((aK y3.x.Kind 1 4)&&(kindsP y3.x.Kind y3.x)) 200) (λ_=>(exi (eW (decide (0<(jC .i64 (((aw p).length:Int)-1)))||(y3.x.Kind != 4)) 200) (λ_=>(bq.L3 p k rz3)))))
def bq.L4(p:Policy)(i2:Nat)(k:(Except Int Unit)):List gq->(Except Int Unit)
 |[]=>k
 |y4::rz4=>(exi (eW ((aK y4.x.Kind 1 4)&&(kindsP y4.x.Kind y4.x)) 200) (λ_=>(exi (eW (decide ((i2:Int)<(jC .i64 (((aw p).length:Int)-1)))||(y4.x.Kind != 4)) 200) (λ_=>(bq.L4 p i2 k rz4)))))
def bq.K2  : (Except Int Unit):=(Except.ok ())
def bq.L2(p:Policy)(k:(Except Int Unit)):List Expr->Nat->(Except Int Unit)
 |[],i2=>(k)
 |y2::rz2,i2=>((bq.L4 p i2 ((bq.L2 p k rz2 (i2+1)))) (bj y2 1))
def bq.K1(p:Policy):(Except Int Unit):=((bq.L2 p (bq.K2)) (aw p) 0)
def bq.L1(p:Policy)(k:(Except Int Unit)):List Rule->Nat->(Except Int Unit)
 |[],i1=>(k)
 |y1::rz1,i1=>(exi (eW ((y1.Kind.toList==(nthI p.Kinds (i1:Int)).toList)&&(aK y1.Think 0 1099511627775)) 200) (λ_=>(bq.L1 p k rz1 (i1+1))))
def bq(p:Policy):(Except Int Unit):=(exi (eW ((decide (0<(p.Kinds.length:Int))&&((p.Rules.length:Int)==(p.Kinds.length:Int)))&&(aK p.Mode 1 4)) 200) (λ_=>((bq.L1 p (bq.K1 p)) p.Rules 0)))
def dy(p:Policy):(Except Int Unit):=(exi (cq p) (λ_=>(exi (ct p) (λ_=>(exi (bq p) (λ_=>(Except.ok ())))))))
def ao.K1(offices:List ByteArray)(x:Expr)(lj:List Expr):Expr:=(vG x.Kind x.N (aP offices x.Name) x.Name lj)
def ao.L1(rec:List ByteArray->Expr->Expr)(offices:List ByteArray)(k:List Expr->Expr):List Expr->List Expr->Expr
 |[],lj=>(k lj)
 |y1::rz1,lj=>(ao.L1 rec offices k rz1 (lj++[(rec offices y1)]))
def ao.K2(x:Expr)(li:List Expr):Expr:=(vG x.Kind x.N 0 x.Name li)
def ao.L2(rec:List ByteArray->Expr->Expr)(offices:List ByteArray)(k:List Expr->Expr):List Expr->List Expr->Expr
 |[],li=>(k li)
 |y2::rz2,li=>(ao.L2 rec offices k rz2 (li++[(rec offices y2)]))
def ao.F(rec:List ByteArray->Expr->Expr)(offices:List ByteArray)(x:Expr):Expr:=(bif(dk (vG x.Kind x.N 0 x.Name x.L))then((ao.L1 rec offices (ao.K1 offices x)) x.L ([]))else((ao.L2 rec offices (ao.K2 x)) x.L ([])))
def ao.go:Nat->List ByteArray->Expr->Expr
 |0=>λ_ _=>default
 |m+1=>ao.F (ao.go m)
def ao(offices:List ByteArray)(x:Expr):Expr:=ao.go x.dep offices x
def eh.K1(p:Policy)(mY:List Rule):(Policy×Int):=((kN p.Name p.Kinds p.Offices mY (vG ((ao p.Offices p.Change).Kind) ((ao p.Offices p.Change).N) ((ao p.Offices p.Change).No) ((ao p.Offices p.Change).Name) ((ao p.Offices p.Change).L)) p.Mode),0)
def eh.L1(p:Policy)(k:List Rule->(Policy×Int)):List Rule->Nat->List Rule->(Policy×Int)
 |[],i1,mY=>(k mY)
 |y1::rz1,i1,mY=>(eh.L1 p k rz1 (i1+1) (mY++[(Ti y1.Kind (i1:Int) y1.Think (vG ((ao p.Offices y1.Expr).Kind) ((ao p.Offices y1.Expr).N) ((ao p.Offices y1.Expr).No) ((ao p.Offices y1.Expr).Name) ((ao p.Offices y1.Expr).L)))]))
def eh(p:Policy):(Policy×Int):=(bif((attR (dy p)) != 0)then((kN (⟨#[]⟩:ByteArray) ([]) ([]) ([]) (vG 0 0 0 (⟨#[]⟩:ByteArray) ([])) 0),(attR (dy p)))else((eh.L1 p (eh.K1 p)) p.Rules 0 ([])))
def bO.K1  : Bool:=true
def bO.L1(offices:List ByteArray)(k:Bool):List gq->Bool
 |[]=>k
 |y1::rz1=>(bif(dk y1.x)then(bif(y1.x.No != (aP offices y1.x.Name))then false else(bO.L1 offices k rz1))else(bif(y1.x.No != 0)then false else(bO.L1 offices k rz1)))
def bO(offices:List ByteArray)(x:Expr):Bool:=((bO.L1 offices (bO.K1)) (bj x 1))
def cQ.K1(p:Policy):Int:=(bif(!(bO p.Offices p.Change))then 200 else 0)
def cQ.L1(p:Policy)(k:Int):List Rule->Nat->Int
 |[],i1=>(k)
 |y1::rz1,i1=>(bif((y1.KindNo != (i1:Int))||(!(bO p.Offices y1.Expr)))then 200 else(cQ.L1 p k rz1 (i1+1)))
def cQ(p:Policy):Int:=(bif((eh p).2 != 0)then(eh p).2 else((cQ.L1 p (cQ.K1 p)) p.Rules 0))
def bF.K1(iu:Int):Int:=0
def bF.L1(k:Int->Int):List Version->Int->Int
 |[],iu=>(k iu)
 |y1::rz1,iu=>(bif((((!(aK y1.No (jC .i64 (iu+1)) 1048576))||(!(aK y1.At 0 1099511627775)))||(!(aK y1.Known 0 1099511627775)))||((cQ y1.Policy) != 0))then 200 else(bF.L1  k rz1 y1.No))
def bF(l:List Version):Int:=(bif(decide (256<(l.length:Int)))then 2 else((bF.L1 (bF.K1)) l (-1)))
def ay.K1(l:List Document)(bL:List (Int×Int)):gG:=(gG.mk l bL)
def ay.L1(k:(List (Int×Int))->gG):List Document->Nat->(List (Int×Int))->gG
 |[],i1,bL=>(k bL)
 |y1::rz1,i1,bL=>(ay.L1  k rz1 (i1+1) (mput bL y1.No (i1:Int)))
def ay(l:List Document):gG:=((ay.L1 (ay.K1 l)) l 0 ([]))
def fM(t:Int):Bool:=(decide (0<=t)&&decide (t<1099511627776))
def dF.K1(l:List Int)(eO:Int):Bool:=decide ((l.length:Int)<=16)
def dF.L1(limit:Int)(k:Int->Bool):List Int->Int->Bool
 |[],eO=>(k eO)
 |y1::rz1,eO=>(bif(decide (y1<=eO)||decide (limit<=y1))then false else(dF.L1 limit k rz1 y1))
def dF(l:List Int)(limit:Int):Bool:=((dF.L1 limit (dF.K1 l)) l (-1))
def gS(d:Document):Bool:=((((((((((((decide (0<=d.No)&&decide (d.No<4096))&&(fM d.At))&&decide (0<=d.Kind))&&decide (d.Kind<16))&&decide (0<=d.Value))&&decide (d.Value<=1099511627776))&&decide (0<=d.From))&&decide (d.From<d.Until))&&decide (d.Until<=1099511627776))&&(dF d.Parties 1048577))&&(dF d.Revokes d.No))&&(dF d.Needs d.No))
def eH(no:Int)(v0:gG):Bool:=(!(mhas v0.at_ no))
def eV(s:gG)(d:Document):Bool:=((!(cH d.Revokes (λdC=>eH dC s)))&&(!(cH d.Needs (λdC=>eH dC s))))
def aU.K1  : Int:=0
def aU.L1(l:List Document)(k:Int):List Document->Nat->Int
 |[],i1=>(k)
 |y1::rz1,i1=>(bif(((!(gS y1))||(decide (0<(i1:Int))&&decide (y1.No<=(nthI l ((i1:Int)-1)).No)))||(!(eV (ay l) y1)))then 170 else(aU.L1 l k rz1 (i1+1)))
def aU(l:List Document):Int:=(bif(decide (4096<(l.length:Int)))then 2 else((aU.L1 l (aU.K1)) l 0))
def gh(eE:Int)(v0:Int):Bool:=(decide (eE<0)||decide (v0<eE))
def cy(most:Int)(l:List Int):Bool:=(!(cH l (λdC=>gh dC most)))
def fC(x:Approval):Bool:=(((((cy 1048576 ([x.No]))&&(cy 1099511627775 ([x.At,x.Known])))&&(cy 4095 ([x.Doc])))&&(cy 63 ([x.By,x.For])))&&(cy 31 ([x.Office])))
def aX.K1(iu:Int):Int:=0
def aX.L1(k:Int->Int):List Approval->Int->Int
 |[],iu=>(k iu)
 |y1::rz1,iu=>(bif((!(fC y1))||decide (y1.No<=iu))then 280 else(aX.L1  k rz1 y1.No))
def aX(l:List Approval):Int:=(bif(decide (4096<(l.length:Int)))then 2 else((aX.L1 (aX.K1)) l (-1)))
def dD.K1  : Int:=0
def dD.L1(bN:Register)(k:Int):List Nat->Nat->Int
 |[],i1=>(k)
 |y1::rz1,i1=>(bif((nthI ([(dg bN.Appoints),(dB bN.Deputies),(cX bN.Interests),(cu bN.Budgets),(bF bN.Versions),(aU bN.Docs),(aX bN.Approvals)]) (i1:Int)) != 0)then 300 else(dD.L1 bN k rz1 (i1+1)))
def dD(bN:Register):Int:=((dD.L1 bN (dD.K1)) (qH 7) 0)
def lW(Q8:Int):(Except Int Unit):=(bif(Q8 != 0)then(Except.error Q8)else(Except.ok ()))
def ad.K1  : Int:=(-1)
def ad.L1(f:(Document->Bool))(k:Int):List Document->Nat->Int
 |[],i1=>(k)
 |y1::rz1,i1=>(bif(f y1)then(i1:Int)else(ad.L1 f k rz1 (i1+1)))
def ad(s:List Document)(f:(Document->Bool)):Int:=((ad.L1 f (ad.K1)) s 0)
def bA(d:Document)(v0:Int):Bool:=(d.No==v0)
def lV(bN:Register)(doc:Int)(ba:Int)(known:Int):(Except Int bI):=(bif((decide ((ad bN.Docs (λdC=>bA dC doc))<0)||decide ((min ba known)<0))||decide (1099511627776<=(max ba known)))then(Except.error 1)else(Except.ok (bI.mk bN (nthI bN.Docs (ad bN.Docs (λdC=>bA dC doc))) ba known)))
def cmp_isNaN_int(x:Int):Bool:=(x != x)
def cK.K1  : Int:=(-1)
def cK.L1(f:(Approval->Bool))(k:Int):List Approval->Nat->Int
 |[],i1=>(k)
 |y1::rz1,i1=>(bif(f y1)then(i1:Int)else(cK.L1 f k rz1 (i1+1)))
def cK(s:List Approval)(f:(Approval->Bool)):Int:=((cK.L1 f (cK.K1)) s 0)
def e9(s:List Approval)(del:Approval->Bool):List Approval:=s.filter λx=>!(del x)
def bx.K1  : List Approval:=[]
def bx.L1(v1:Int)(v2:Int)(v3:Int)(k:List Approval):List Approval->List Approval
 |[]=>(k)
 |y1::rz1=>(bif(((y1.Doc==v1)&&decide (y1.At<=v2))&&decide (y1.Known<=v3))then(y1::(bx.L1 v1 v2 v3 k rz1))else(bx.L1 v1 v2 v3 k rz1))
def bx(v0:List Approval)(v1:Int)(v2:Int)(v3:Int):List Approval:=((bx.L1 v1 v2 v3 (bx.K1)) v0)
def eC(l:List Approval)(doc:Int)(ba:Int)(known:Int):List Approval:=(bx l doc ba known)
def aE(x:Approval):eu:=(eu.mk x.Doc x.By x.For x.Office)
def aB.K2(mX:List Approval):List Approval:=mX
def aB.L2(bL:List (eu×Approval))(k:List Approval->List Approval):List Approval->List Approval->List Approval
 |[],mX=>k mX
 |y2::rz2,mX=>(bif((!y2.Gone)&&(decide ((mgetD bL (aE y2) (qW 0 0 0 0 0 0 0 false))=y2)))then(aB.L2 bL k rz2 (mX++[y2]))else(aB.L2 bL k rz2 mX))
def aB.K1(l:List Approval)(doc:Int)(ba:Int)(known:Int)(bL:List (eu×Approval)):List Approval:=((aB.L2 bL (aB.K2)) (eC l doc ba known) ([]))
def aB.L1(k:(List (eu×Approval))->List Approval):List Approval->(List (eu×Approval))->List Approval
 |[],bL=>k bL
 |y1::rz1,bL=>(bif((!(mhas bL (aE y1)))||decide ((mgetD bL (aE y1) (qW 0 0 0 0 0 0 0 false)).At<=y1.At))then(aB.L1 k rz1 (mput bL (aE y1) y1))else(aB.L1 k rz1 bL))
def aB(l:List Approval)(doc:Int)(ba:Int)(known:Int):List Approval:=((aB.L1 (aB.K1 l doc ba known)) (eC l doc ba known) ([]))
def iK(y:Approval)(begun:Int)(at_:Int)(think:Int):Bool:=(decide (y.At<begun)||decide ((jC .i64 (at_-y.At))<think))
def cm(l:List Approval)(doc:Int)(begun:Int)(think:Int)(cD:Int)(known:Int):(List Approval×Int):=(bif((aX l) != 0)then([],(aX l))else(bif((!(cy 4095 ([doc])))||(!(cy 1099511627775 ([begun,think,cD,known]))))then([],1)else((e9 (aB l doc cD known) (λdC=>iK dC begun cD think)),0)))
def iI(x:Appoint)(v0:Int)(v1:Int):(OSeat×Bool):=((Tj x.Office x.Person),(decide (x.At<=v0)&&decide (x.Known<=v1)))
def dp.K1(bu:List (OSeat×Appoint)):(List (OSeat×Appoint)):=bu
def dp.L1(key:(Appoint->OSeat×Bool))(later:(Appoint->Appoint->Bool))(k:(List (OSeat×Appoint))->(List (OSeat×Appoint))):List Appoint->(List (OSeat×Appoint))->(List (OSeat×Appoint))
 |[],bu=>(k bu)
 |y1::rz1,bu=>(bif((key y1).2&&((!(mhas bu ((key y1).1)))||(!(later (mgetD bu ((key y1).1) (kD 0 0 0 0 0 0 false)) y1))))then(dp.L1 key later k rz1 (mput bu ((key y1).1) y1))else(dp.L1 key later k rz1 bu))
def dp(l:List Appoint)(key:(Appoint->OSeat×Bool))(later:(Appoint->Appoint->Bool)):(List (OSeat×Appoint)):=((dp.L1 key later (dp.K1)) l ([]))
def kb(a:Appoint)(j6:Appoint):Bool:=decide (j6.At<a.At)
def dw(l:List Appoint)(il:Int)(known:Int):(List (OSeat×Appoint)):=(dp l (λdC=>iI dC il known) kb)
def hO(l:List Appoint)(office:Int)(person:Int)(di:Int)(known:Int):(Int×Int×Bool×Int):=(bif((dg l) != 0)then(0,0,false,(dg l))else(bif((((!(fg office))||(!(fY person)))||(!(dq di)))||(!(dq known)))then(0,0,false,1)else(bif((!(mhas (dw l di known) (Tj office person)))||(mgetD (dw l di known) (Tj office person) (kD 0 0 0 0 0 0 false)).Gone)then(0,0,false,0)else((mgetD (dw l di known) (Tj office person) (kD 0 0 0 0 0 0 false)).No,(mgetD (dw l di known) (Tj office person) (kD 0 0 0 0 0 0 false)).Weight,true,0))))
def lO(l:List Deputy)(dU:Int)(to:Int)(q:cG):Int:=(bif((dB l) != 0)then(dB l)else(bif(((((((!(fZ dU))||(!(fZ to)))||(!(cY q.office 0 31)))||(!(cY q.kind 0 15)))||(!(cY q.value 0 1099511627776)))||(!(gx q.at_)))||(!(gx q.known)))then 1 else 0))
def cS.K1(bu:List Deputy):List Deputy:=bu
def cS.L1(k:List Deputy->List Deputy):List Deputy->List Deputy->List Deputy
 |[],bu=>k bu
 |y1::rz1,bu=>(cS.L1 k rz1 (bu++[y1]))
def cS(seq:List Deputy):List Deputy:=((cS.L1 (cS.K1)) seq ([]))
def de(seq:List Deputy):List Deputy:=(cS seq)
def fW(q:cG)(x:Deputy):Bool:=(decide (x.At<=q.at_)&&decide (x.Known<=q.known))
def gL(q:cG)(x:Deputy):Bool:=(((((!x.Gone)&&decide (q.at_<x.Until))&&(x.Office==q.office))&&((x.Kind==(-1))||(x.Kind==q.kind)))&&decide (q.value<=x.Most))
def aD.K1  : List Deputy:=[]
def aD.L1(v1:List (dZ×Deputy))(v2:(Deputy->Bool))(v3:cG)(k:List Deputy):List Deputy->List Deputy
 |[]=>(k)
 |y1::rz1=>(bif(((decide ((mgetD v1 (dZ.mk y1.From y1.To y1.Office y1.Kind) (Td 0 0 0 0 0 0 0 0 0 false))=y1))&&(v2 y1))&&(gL v3 y1))then(y1::(aD.L1 v1 v2 v3 k rz1))else(aD.L1 v1 v2 v3 k rz1))
def aD(v0:List Deputy)(v1:List (dZ×Deputy))(v2:(Deputy->Bool))(v3:cG):List Deputy:=((aD.L1 v1 v2 v3 (aD.K1)) v0)
def aR.K1(q:cG)(l:List Deputy)(eG:List (dZ×Deputy)):List Deputy:=(aD l eG (fW q) q)
def aR.L1(q:cG)(k:(List (dZ×Deputy))->List Deputy):List Deputy->(List (dZ×Deputy))->List Deputy
 |[],eG=>(k eG)
 |y1::rz1,eG=>(bif((fW q y1)&&((!(mhas eG (dZ.mk y1.From y1.To y1.Office y1.Kind)))||decide ((mgetD eG (dZ.mk y1.From y1.To y1.Office y1.Kind) (Td 0 0 0 0 0 0 0 0 0 false)).At<=y1.At)))then(aR.L1 q k rz1 (mput eG (dZ.mk y1.From y1.To y1.Office y1.Kind) y1))else(aR.L1 q k rz1 eG))
def aR(q:cG)(l:List Deputy):List Deputy:=((aR.L1 q (aR.K1 q l)) l ([]))
def aG.L2(k:(List (Int×Int))->(List Int×Bool×Int)):List Deputy->(List (Int×Int))->(List Int×Bool×Int)
 |[],vt=>(k vt)
 |y2::rz2,vt=>(bif(((mhas vt y2.To)&&((mgetD vt y2.To 0)==0))&&(!(mhas vt y2.From)))then(aG.L2  k rz2 (mput vt y2.From 1))else(aG.L2  k rz2 vt))
def aG.L3(i1:Nat)(k:(List (Int×Int))->(List Int×Bool×Int)):List Deputy->(List (Int×Int))->(List Int×Bool×Int)
 |[],mW=>(k mW)
 |y3::rz3,mW=>(bif(((mhas mW y3.To)&&((mgetD mW y3.To 0)==(i1:Int)))&&(!(mhas mW y3.From)))then(aG.L3 i1 k rz3 (mput mW y3.From (((i1+1):Nat):Int)))else(aG.L3 i1 k rz3 mW))
def aG.L6(dU:Int)(bL:List (Int×Int))(i4:Nat)(k:List Int->Int->(List Int×Bool×Int)):List Deputy->List Int->Int->(List Int×Bool×Int)
 |[],Bj,De=>(k Bj De)
 |y6::rz6,Bj,De=>(bif(((y6.From==De)&&(mhas bL y6.To))&&((mgetD bL y6.To 0)==((((((mgetD bL dU 0)).toNat)-(i4+1)):Nat):Int)))then(k (Bj++[y6.No]) y6.To)else(aG.L6 dU bL i4 k rz6 Bj De))
def aG.K4(xz:List Int)(Df:Int):(List Int×Bool×Int):=(xz,true,0)
def aG.L4(l:List Deputy)(dU:Int)(office:Int)(kind:Int)(value:Int)(kl:Int)(known:Int)(bL:List (Int×Int))(k:List Int->Int->(List Int×Bool×Int)):List Nat->Nat->List Int->Int->(List Int×Bool×Int)
 |[],i4,xz,Df=>(k xz Df)
 |y4::rz4,i4,xz,Df=>((aG.L6 dU bL i4 (λzg6_16 zg6_31=>(aG.L4 l dU office kind value kl known bL k rz4 (i4+1) zg6_16 zg6_31))) (de (aR (cG.mk office kind value kl known) l)) xz Df)
def aG.K1(l:List Deputy)(dU:Int)(office:Int)(kind:Int)(value:Int)(kl:Int)(known:Int)(bL:List (Int×Int)):(List Int×Bool×Int):=(bif(!(mhas bL dU))then([],false,0)else((aG.L4 l dU office kind value kl known bL (aG.K4)) (qH (((mgetD bL dU 0)).toNat)) 0 ([]) dU))
def aG.L1(l:List Deputy)(office:Int)(kind:Int)(value:Int)(kl:Int)(known:Int)(k:(List (Int×Int))->(List Int×Bool×Int)):List Nat->Nat->(List (Int×Int))->(List Int×Bool×Int)
 |[],i1,bL=>(k bL)
 |y1::rz1,i1,bL=>((aG.L3 i1 (λzg3_b2_0=>(aG.L1 l office kind value kl known k rz1 (i1+1) zg3_b2_0))) (de (aR (cG.mk office kind value kl known) l)) bL)
def aG(l:List Deputy)(dU:Int)(to:Int)(office:Int)(kind:Int)(value:Int)(kl:Int)(known:Int):(List Int×Bool×Int):=(bif((lO l dU to (cG.mk office kind value kl known)) != 0)then([],false,(lO l dU to (cG.mk office kind value kl known)))else((aG.L1 l office kind value kl known (aG.K1 l dU office kind value kl known)) (qH 8) 0 (mput ([]) to 0)))
def cW.K1(person:Int)(parties:List Int)(di:Int)(known:Int)(nX:Int):Int:=(bif((((!(bH person 64))||decide (16<(parties.length:Int)))||(!(bH di 1099511627776)))||(!(bH known 1099511627776)))then 1 else 0)
def cW.L1(k:Int->Int):List Int->Int->Int
 |[],nX=>(k nX)
 |y1::rz1,nX=>(bif(decide (y1<=nX)||decide (1048576<y1))then 1 else(cW.L1  k rz1 y1))
def cW(l:List Interest)(person:Int)(parties:List Int)(di:Int)(known:Int):Int:=(bif((cX l) != 0)then(cX l)else((cW.L1 (cW.K1 person parties di known)) parties (-1)))
def bR.K1  : List Interest:=[]
def bR.L1(v1:List (dP×Interest))(k:List Interest):List Interest->List Interest
 |[]=>(k)
 |y1::rz1=>(bif((!y1.Gone)&&(decide ((mgetD v1 (dP.mk y1.Person y1.Party y1.Of) (SD 0 0 0 0 0 false false))=y1)))then(y1::(bR.L1 v1 k rz1))else(bR.L1 v1 k rz1))
def bR(v0:List Interest)(v1:List (dP×Interest)):List Interest:=((bR.L1 v1 (bR.K1)) v0)
def cZ.K1(l:List Interest)(bL:List (dP×Interest)):List Interest:=(bR l bL)
def cZ.L1(il:Int)(known:Int)(k:(List (dP×Interest))->List Interest):List Interest->(List (dP×Interest))->List Interest
 |[],bL=>(k bL)
 |y1::rz1,bL=>(bif(decide (il<y1.At)||decide (known<y1.Known))then(cZ.L1 il known k rz1 bL)else(bif((!(mhas bL (dP.mk y1.Person y1.Party y1.Of)))||decide ((mgetD bL (dP.mk y1.Person y1.Party y1.Of) (SD 0 0 0 0 0 false false)).At<=y1.At))then(cZ.L1 il known k rz1 (mput bL (dP.mk y1.Person y1.Party y1.Of) y1))else(cZ.L1 il known k rz1 bL)))
def cZ(l:List Interest)(il:Int)(known:Int):List Interest:=((cZ.L1 il known (cZ.K1 l)) l ([]))
def conPut(w:gN)(m:List (Int×Bool))(q:List gN):List (Int×Bool)×List gN:=bif mgetD m w.to false then(m,q)else(mput m w.to true,q++[w])
def conFill(person:Int):List Interest->List (Int×List Interest)->List (Int×Bool)->List gN->List (Int×List Interest)×List (Int×Bool)×List gN
 |[],f,m,q=>(f,m,q)
 |x::l,f,m,q=>bif x.Of then conFill person l (mput f x.Person (mgetD f x.Person []++[x])) m q
  else bif x.Person==person then conFill person l f (conPut ⟨[x.No],x.Party⟩ m q).1 (conPut ⟨[x.No],x.Party⟩ m q).2 else conFill person l f m q
def conStep(path:List Int):List Interest->List (Int×Bool)->List gN->List (Int×Bool)×List gN
 |[],m,q=>(m,q)
 |x::l,m,q=>conStep path l (conPut ⟨path++[x.No],x.Party⟩ m q).1 (conPut ⟨path++[x.No],x.Party⟩ m q).2
def conLoop(parties:List Int)(f:List (Int×List Interest)):Nat->List (Int×Bool)->List gN->List Int×Bool
 |0,_,_=>([],false)
 |_+1,_,[]=>([],false)
 |n+1,m,w::q=>bif parties.contains w.to then(w.path,true)else bif(w.path.length:Int)==8 then conLoop parties f n m q
  else conLoop parties f n (conStep w.path (mgetD f w.to []) m q).1 (conStep w.path (mgetD f w.to []) m q).2
def conFind(l:List Interest)(person:Int)(parties:List Int)(st:List Interest):List Int×Bool:=
 conLoop parties (conFill person st [] [] []).1 (l.length+1) (conFill person st [] [] []).2.1 (conFill person st [] [] []).2.2
def ff(l:List Interest)(person:Int)(parties:List Int)(di:Int)(known:Int):List Int×Bool×Int:=
 bif cW l person parties di known != 0 then([],false,cW l person parties di known)
 else((conFind l person parties (cZ l di known)).1,(conFind l person parties (cZ l di known)).2,0)
def uS(h:HF):List Value->List gN->Prop
 |[],[]=>True
 |v::vs,w::ws=>(∃r,v=.agg (gN.cells w r).toArray/\gN.ok h w r)/\uS h vs ws
 |_,_=>False
def V3(_:HF)(v:Value)(x:Option Addr×Nat×Nat):Prop:=v=.slice x.1 x.2.1 x.2.2
def FR(h:HF):List (Int×Option Addr×Nat×Nat)->List (Int×List Interest)->LH->Prop
 |[],[],G=>G=[]
 |(k,x)::m,(k',xs)::f,G=>k=k'/\x.2.1=xs.length/\∃G1 G2,G=G1++G2/\du Interest.rp 97 h xs x.1 x.2.2 G1/\FR h m f G2
 |_,_,_=>False
def uT(st:List Interest)(m:List (Int×Bool))(q:List gN):Prop:=(∀p∈m,p.2=true/\p.1∈st.map (·.Party))/\q.length<=m.length/\∀w∈q,w.path.length<=8
def ME(st:List Interest)(f:List (Int×List Interest)):Prop:=∀k,∀x∈mgetD f k [],x∈st
def iJ(c:bI)(person:Int):Bool:=(ff c.Register.Interests person c.doc.Parties c.at_ c.known).2.1
def cC.K1  : List Approval:=[]
def cC.L1(c:bI)(k:List Approval):List Approval->List Approval
 |[]=>(k)
 |y1::rz1=>(bif((((hO c.Register.Appoints y1.Office y1.For c.at_ c.known).2.2.1&&(aG c.Register.Deputies y1.For y1.By y1.Office c.doc.Kind c.doc.Value c.at_ c.known).2.1)&&(!(iJ c y1.For)))&&(!(iJ c y1.By)))then(y1::(cC.L1 c k rz1))else(cC.L1 c k rz1))
def cC(c:bI)(p:Policy):List Approval:=(bif(decide ((p.Kinds.length:Int)<=c.doc.Kind))then[]else((cC.L1 c (cC.K1)) ((cm c.Register.Approvals c.doc.No c.doc.At ((nthI p.Rules c.doc.Kind).Think) c.at_ c.known).1)))
def fK(c:bI)(p:Policy):List Approval:=(cC c p)
def bB.K1(cf:List Int):List Int:=(slices_Compact_int (sortI cf))
def bB.L1(k:List Int->List Int):List Approval->List Int->List Int
 |[],cf=>k cf
 |y1::rz1,cf=>(bB.L1 k rz1 (cf++[y1.For]))
def bB(c:bI)(p:Policy):List Int:=((bB.L1 (bB.K1)) (fK c p) ([]))
def aZ.K1  : Int:=(-1)
def aZ.L1(f:(Version->Bool))(k:Int):List Version->Nat->Int
 |[],i1=>(k)
 |y1::rz1,i1=>(bif(f y1)then(i1:Int)else(aZ.L1 f k rz1 (i1+1)))
def aZ(s:List Version)(f:(Version->Bool)):Int:=((aZ.L1 f (aZ.K1)) s 0)
def eF(v:Version)(v0:Int):Bool:=(v.No==v0)
def fe(c:bI)(no:Int):(Except Int Policy):=(bif(decide ((aZ c.Register.Versions (λdC=>eF dC no))<0))then(Except.error 1)else(Except.ok ((nthI c.Register.Versions (aZ c.Register.Versions (λdC=>eF dC no))).Policy)))
def gE(bN:Register)(doc:Int)(version:Int)(di:Int)(known:Int):List Int×Int:=
 bif dD bN != 0 then([],dD bN)else match lV bN doc di known with
  |.error e=>([],e)
  |.ok c=>match fe c version with
   |.error e=>([],e)
   |.ok p=>(bB c p,0)
def gR(eE:Int):Bool:=(decide (0<=eE)&&decide (eE<1099511627776))
def bG.K2  : (List (Int×Version)):=[]
def bG.L2(bu:List (Int×Version))(k:List (Int×Version)):List Int->(List (Int×Version))
 |[]=>(k)
 |y2::rz2=>((y2,(mgetD bu y2 (S0 0 0 0 (kN (⟨#[]⟩:ByteArray) [] [] [] (vG 0 0 0 (⟨#[]⟩:ByteArray) []) 0))))::(bG.L2 bu k rz2))
def bG.K1(rC:Int)(bu:List (Int×Version)):(List (Int×Version)):=((bG.L2 bu (bG.K2)) (sortI (bu.map Prod.fst)))
def bG.L1(known:Int)(eU:Int)(k:Int->(List (Int×Version))->(List (Int×Version))):List Version->Int->(List (Int×Version))->(List (Int×Version))
 |[],rC,bu=>(k rC bu)
 |y1::rz1,rC,bu=>(bif(decide (known<y1.Known))then(bG.L1 known eU k rz1 rC bu)else(bif(decide (y1.At<=eU))then(bif(decide (y1.At<rC))then(bG.L1 known eU k rz1 rC bu)else(bG.L1 known eU k rz1 y1.At (mput bu eU y1)))else(bG.L1 known eU k rz1 rC (mput bu y1.At y1))))
def bG(l:List Version)(known:Int)(eU:Int):(List (Int×Version)):=((bG.L1 known eU (bG.K1)) l (-1) ([]))
def fX(l:List Version)(dU:Int)(known:Int):(List (Int×Version)):=(bG l known dU)
def iV(l:List Version)(old:Bool):List Version:=l
def iB(l:List Version)(old:Bool):List Version:=(bif(!old)then[]else(l.take ((1:Int)).toNat))
def iU(l:List Version)(old:Bool):List Version:=(l.drop ((((l.length:Int)-1):Int)).toNat)
def lD  : (List (Int×Value)):=(mput (mput (mput (mput ([]) 1 (Value.func (.func 171) #[] #[])) 2 (Value.func (.func 172) #[] #[])) 3 (Value.func (.func 170) #[] #[])) 4 (Value.func (.func 170) #[] #[]))
def judgesP(mode:Int)(l:List Version)(old:Bool):List Version:=bif mode==1 then iB l old else bif mode==2 then iU l old else iV l old
def bw.K2(cf:List Version)(kW:List Int):(List Int×Int×Int):=((sortI kW),(nthI cf ((cf.length:Int)-1)).Policy.Mode,0)
def bw.L2(k:List Int->(List Int×Int×Int)):List Version->List Int->(List Int×Int×Int)
 |[],kW=>(k kW)
 |y2::rz2,kW=>(bw.L2  k rz2 (kW++[y2.No]))
def bw.K1(eG:Bool)(cf:List Version):(List Int×Int×Int):=(bif((cf.length:Int)==0)then([],0,0)else((bw.L2 (bw.K2 cf)) (judgesP ((nthI cf ((cf.length:Int)-1)).Policy.Mode) cf eG) ([])))
def bw.L1(begun:Int)(ba:Int)(k:Bool->List Version->(List Int×Int×Int)):List (Int×Version)->Bool->List Version->(List Int×Int×Int)
 |[],eG,cf=>k eG cf
 |y1::rz1,eG,cf=>(bif(decide (ba<y1.1))then(k eG cf)else(bw.L1 begun ba k rz1 (eG||(y1.1==begun)) (cf++[y1.2])))
def bw(l:List Version)(begun:Int)(ba:Int)(known:Int):(List Int×Int×Int):=(bif((bF l) != 0)then([],0,(bF l))else(bif((((!(gR begun))||(!(gR ba)))||(!(gR known)))||decide (ba<begun))then([],0,1)else((bw.L1 begun ba (bw.K1)) (fX l begun known) false ([]))))
def ga(mode:Int)(permits:List Bool):Int:=(bif(!(mhas lD mode))then 270 else(bif(decide (256<(permits.length:Int)))then 1 else 0))
def em.K1  : Int:=(-1)
def em.L1(f:(Bool->Bool))(k:Int):List Bool->Nat->Int
 |[],i1=>(k)
 |y1::rz1,i1=>(bif(f y1)then(i1:Int)else(em.L1 f k rz1 (i1+1)))
def em(s:List Bool)(f:(Bool->Bool)):Int:=((em.L1 f (em.K1)) s 0)
def cA(l:List Bool)(ok:(Bool->Bool)):Int:=(em l ok)
def eD(FZ:Bool):Bool:=FZ
def fH(FZ:Bool):Bool:=(!FZ)
def aV.K1(permits:List Bool)(GA:List Int):(List Int×Bool×Int):=(GA,decide (0<=(cA permits eD)),0)
def aV.L1(k:List Int->(List Int×Bool×Int)):List Bool->Nat->List Int->(List Int×Bool×Int)
 |[],i1,GA=>(k GA)
 |y1::rz1,i1,GA=>(aV.L1  k rz1 (i1+1) (GA++[(i1:Int)]))
def aV.K2(permits:List Bool)(Gz:List Int):(List Int×Bool×Int):=(Gz,(((permits.length:Int)==1)&&(nthI permits 0)),0)
def aV.L2(k:List Int->(List Int×Bool×Int)):List Bool->Nat->List Int->(List Int×Bool×Int)
 |[],i2,Gz=>(k Gz)
 |y2::rz2,i2,Gz=>(aV.L2  k rz2 (i2+1) (Gz++[(i2:Int)]))
def aV.K3(Gy:List Int):(List Int×Bool×Int):=(Gy,false,0)
def aV.L3(k:List Int->(List Int×Bool×Int)):List Bool->Nat->List Int->(List Int×Bool×Int)
 |[],i3,Gy=>(k Gy)
 |y3::rz3,i3,Gy=>(aV.L3  k rz3 (i3+1) (Gy++[(i3:Int)]))
def aV(mode:Int)(permits:List Bool):(List Int×Bool×Int):=(bif((ga mode permits) != 0)then([],false,(ga mode permits))else(bif((mode==4)&&decide (0<=(cA permits eD)))then([(cA permits eD)],true,0)else(bif((mode==3)&&decide (0<=(cA permits fH)))then([(cA permits fH)],false,0)else(bif(mode==3)then((aV.L1 (aV.K1 permits)) permits 0 ([]))else(bif(mode != 4)then((aV.L2 (aV.K2 permits)) permits 0 ([]))else((aV.L3 (aV.K3)) permits 0 ([])))))))
def iL(mode:Int)(permits:List Bool):(Bool×Int):=((aV mode permits).2.1,(aV mode permits).2.2)
def gF.K1(bu:List (Int×Bool)):Bool:=true
def gF.L1(k:(List (Int×Bool))->Bool):List Use->(List (Int×Bool))->Bool
 |[],bu=>(k bu)
 |y1::rz1,bu=>(bif(((((mgetD bu y1.Doc false)||(!(aN 0 4095 ([y1.Doc]))))||(!(aN 0 15 ([y1.Kind]))))||(!(aN 0 1099511627776 ([y1.Value]))))||(!(aN 0 1099511627775 ([y1.At,y1.Known]))))then false else(gF.L1  k rz1 (mput bu y1.Doc true)))
def gF(u:List Use):Bool:=((gF.L1 (gF.K1)) u ([]))
def bS.K2(kW:List Budget):List Budget:=kW
def bS.L2(bu:List (gH×Budget))(k:List Budget->List Budget):List Budget->List Budget->List Budget
 |[],kW=>(k kW)
 |y2::rz2,kW=>(bif((!y2.Gone)&&(decide ((mgetD bu (gH.mk y2.Kind y2.Period) (S7 0 0 0 0 0 0 0 false))=y2)))then(bS.L2 bu k rz2 (kW++[y2]))else(bS.L2 bu k rz2 kW))
def bS.K1(l:List Budget)(bu:List (gH×Budget)):List Budget:=((bS.L2 bu (bS.K2)) l ([]))
def bS.L1(kind:Int)(ba:Int)(known:Int)(k:(List (gH×Budget))->List Budget):List Budget->(List (gH×Budget))->List Budget
 |[],bu=>(k bu)
 |y1::rz1,bu=>(bif((decide (ba<y1.At)||decide (known<y1.Known))||((y1.Kind != (-1))&&(y1.Kind != kind)))then(bS.L1 kind ba known k rz1 bu)else(bif((!(mhas bu (gH.mk y1.Kind y1.Period)))||decide ((mgetD bu (gH.mk y1.Kind y1.Period) (S7 0 0 0 0 0 0 0 false)).At<=y1.At))then(bS.L1 kind ba known k rz1 (mput bu (gH.mk y1.Kind y1.Period) y1))else(bS.L1 kind ba known k rz1 bu)))
def bS(l:List Budget)(kind:Int)(ba:Int)(known:Int):List Budget:=((bS.L1 kind ba known (bS.K1 l)) l ([]))
def ck.K1  : List Int:=[]
def ck.L1(known:Int)(bg:Budget)(at_:Int)(k:List Int):List Use->List Int
 |[]=>(k)
 |y1::rz1=>(bif((decide (y1.Known<=known)&&((bg.Kind==(-1))||(bg.Kind==y1.Kind)))&&((jC .i64 (y1.At.tdiv bg.Period))==(jC .i64 (at_.tdiv bg.Period))))then(y1.Value::(ck.L1 known bg at_ k rz1))else(ck.L1 known bg at_ k rz1))
def ck(u:List Use)(known:Int)(bg:Budget)(at_:Int):List Int:=((ck.L1 known bg at_ (ck.K1)) u)
def px(FZ:Budget)(u:List Use)(ba:Int)(known:Int):List Int:=(ck u known FZ ba)
def bM.L2(k:Int->Int->(Int×Bool×Int)):List Int->Int->Int->(Int×Bool×Int)
 |[],In,Io=>k In Io
 |y2::rz2,In,Io=>(bM.L2 k rz2 (jC .i64 (In+y2)) (jC .i64 (Io+1)))
def bM.L3(k:Int->Int->(Int×Bool×Int)):List Int->Int->Int->(Int×Bool×Int)
 |[],qi,Im=>k qi Im
 |y3::rz3,qi,Im=>(bM.L3 k rz3 (jC .i64 (qi+y3)) (jC .i64 (Im+1)))
def bM.K1  : (Int×Bool×Int):=((-1),true,0)
def bM.L1(u:List Use)(value:Int)(cD:Int)(known:Int)(k:(Int×Bool×Int)):List Budget->(Int×Bool×Int)
 |[]=>(k)
 |y1::rz1=>((bM.L3 (λzg3_b6_0 zg3_b5_0=>(bif(decide (y1.Count<zg3_b5_0)||decide (y1.Value<zg3_b6_0))then(y1.No,false,0)else(bM.L1 u value cD known k rz1)))) (px y1 u cD known) value 1)
def bM(l:List Budget)(u:List Use)(kind:Int)(value:Int)(cD:Int)(known:Int):(Int×Bool×Int):=(bif((cu l) != 0)then(0,false,(cu l))else(bif(decide (4096<(u.length:Int)))then(0,false,2)else(bif(!(gF u))then(0,false,180)else(bif(((!(aN 0 15 ([kind])))||(!(aN 0 1099511627776 ([value]))))||(!(aN 0 1099511627775 ([cD,known]))))then(0,false,1)else((bM.L1 u value cD known (bM.K1)) (bS l kind cD known))))))
def ig(t:Int):Bool:=((t != (-1))&&(!(fM t)))
def cj(l:List Document)(signed:List Int):Bool:=(((signed.length:Int)==(l.length:Int))&&(!(cH signed ig)))
def gd.K1(iu:Int):Int:=iu
def gd.L1(k:Int->Int):List Int->Int->Int
 |[],iu=>(k iu)
 |y1::rz1,iu=>(gd.L1  k rz1 (min iu y1))
def gd(x:List Int):Int:=((gd.L1 (gd.K1)) (x.drop 1) (nthI x 0))
def cL(p:ft)(nO:Int)(ba:Int):(Int×Int):=(bif(!(nthI p.done nO))then(1,(-1))else(bif(decide (0<=(nthI p.lacks nO)))then(4,(nthI p.lacks nO))else(bif(decide (0<(((mgetD p.revoked ((nthI p.shelf.docs nO).No) []).length:Nat):Int)))then(5,(gd (mgetD p.revoked ((nthI p.shelf.docs nO).No) [])))else(bif(decide (ba<(nthI p.shelf.docs nO).From))then(2,(-1))else(bif(decide ((nthI p.shelf.docs nO).Until<=ba))then(3,(-1))else(0,(-1)))))))
def insIn(cmp:Int->Int->Int):Nat->List Int->List Int
 |0,xs=>xs
 |j+1,xs=>bif decide (cmp (xs.getD (j+1) 0) (xs.getD j 0)<0)then insIn cmp j ((xs.set (j+1) (xs.getD j 0)).set j (xs.getD (j+1) 0))else xs
def insOut(cmp:Int->Int->Int):Nat->Nat->List Int->List Int
 |0,_,xs=>xs
 |m+1,i,xs=>insOut cmp m (i+1) (insIn cmp i xs)
def fu(xs:List Int)(cmp:Int->Int->Int):List Int:=insOut cmp (xs.length-1) 1 xs
def cmp_Compare_int(x:Int)(y:Int):Int:=(bif(cmp_isNaN_int x)then(bif(cmp_isNaN_int y)then 0 else(-1))else(bif(cmp_isNaN_int y)then 1 else(bif(decide (x<y))then(-1)else(bif(decide (y<x))then 1 else 0))))
def iQ(a:Int)(j6:Int)(p:pC):Int:=(cmp_Compare_int (nthI p.signed a) (nthI p.signed j6))
def cU.K1  : List Int:=[]
def cU.L1(k:List Int):List Int->List Int
 |[]=>(k)
 |y1::rz1=>(y1::(cU.L1  k rz1))
def cU(v0:List Int):List Int:=((cU.L1 (cU.K1)) v0)
def km(s:List Int):List Int:=(cU s)
def bP.K1(p:pC)(eO:List Int):List Int:=(km (fu eO (λdC BP=>iQ dC BP p)))
def bP.L1(il:Int)(k:List Int->List Int):List Int->Nat->List Int->List Int
 |[],i1,eO=>(k eO)
 |y1::rz1,i1,eO=>(bif(decide (0<=y1)&&decide (y1<=il))then(bP.L1 il k rz1 (i1+1) (eO++[(i1:Int)]))else(bP.L1 il k rz1 (i1+1) eO))
def bP(p:pC)(il:Int):List Int:=((bP.L1 il (bP.K1 p)) p.signed 0 ([]))
def backL(s:List Int):Nat->List (Int×Int)
 |0=>[]
 |m+1=>((m:Int),nthI s (m:Int))::backL s m
def iz(v0:List Int):List (Int×Int):=backL v0 v0.length
def jx(s:List Int):(List (Int×Int)):=(iz s)
def V3i(_:HF)(v:Value)(x:Option Addr×Nat×Nat):Prop:=v=.slice x.1 x.2.1 x.2.2
def FRi(h:HF):List (Int×Option Addr×Nat×Nat)->List (Int×List Int)->LH->Prop
 |[],[],G=>G=[]
 |(k,x)::m,(k',xs)::f,G=>k=k'/\x.2.1=xs.length/\∃G1 G2,G=G1++G2/\du Rp.int 3 h xs x.1 x.2.2 G1/\FRi h m f G2
 |_,_,_=>False
def playP(l:List Document)(sg:List Int):ft:=⟨ay l,sg,List.replicate l.length false,List.replicate l.length 0,[]⟩
def playR(n:Nat)(sq:nG)(sb:Option Addr)(sc:Nat)(b5 b8 b9:Nat):tg:=⟨sq,sb,sc,some ⟨b5,0,none⟩,n,some ⟨b8,0,none⟩,n,b9⟩
def plL(b c d f t:Bool)(B5 B8 B9 B12 B11:Nat×Obj):LH:=
 (bif t then[B11]else[])++((bif f then[B12]else[])++((bif d then[B9]else[])++((bif c then[B8]else[])++(bif b then[B5]else[]))))
def plD(a b c d f g t:Bool):List Nat:=
 (bif t then[11]else[])++((bif g then[10]else[])++((bif f then[12]else[])++((bif d then[9]else[])++((bif c then[8]else[])++((bif b then[5]else[])++((bif a then[1]else[])++[7,6,4,3,2,0]))))))
def plM(a b c d f g t:Bool):Nat:=(bif a then 0 else 1)+(bif b then 0 else 1)+(bif c then 0 else 1)+(bif d then 0 else 1)+(bif f then 0 else 1)+(bif g then 0 else 1)+(bif t then 0 else 1)
def PlI(h:HF)(l:List Document)(lb:Option Addr)(lc:Nat)(sg:List Int)(sb:Option Addr)(sc:Nat)(at_:Int)(q4:Addr)(a b c d f g t:Bool)(e:Env)(h':HF)(L:LH):Prop:=
 ((!g||(a&&b&&c&&d))&&(!t||g))=true/\h.le h'/\(e 2=.int .i64 at_/\e 4=.pointer (some q4)/\e 16=.slice lb l.length lc/\e 18=.slice sb sg.length sc/\e 20=.int .i64 (l.length:Int)/\e 23=.int .i64 (l.length:Int)) /\
 ∃(sq:nG)(b5 b8 b9 b12 b11:Nat),(a=true->e 17=.agg (gG.cells (ay l) sq).toArray/\gG.ok h' (ay l) sq)/\(b=true->e 21=.slice (some ⟨b5,0,none⟩) l.length l.length) /\
  (c=true->e 24=.slice (some ⟨b8,0,none⟩) l.length l.length)/\(d=true->e 25=.map (some b9))/\(f=true->e 7=.pointer (some ⟨b12,0,none⟩))/\(g=true->e 26=.agg (ft.cells (playP l sg) (playR l.length sq sb sc b5 b8 b9)).toArray)/\(t=true->e 27=.pointer (some ⟨b11,0,none⟩)) /\
  L.Perm (plL b c d f t (b5,.cells (List.replicate l.length (.bool false)).toArray 4 (0,0)) (b8,.cells (List.replicate l.length (.int .i64 0)).toArray 3 (0,0)) (b9,.map #[] 0) (b12,.cells (kB [.pointer none]) 211 (0,0)) (b11,.cells (ft.cells (playP l sg) (playR l.length sq sb sc b5 b8 b9)).toArray 238 (0,0)))
def plN(a b c d f g t:Bool):List Nat:=
 (bif a then[]else[1])++((bif b then[]else[5])++((bif c then[]else[8])++((bif d then[]else[9])++((bif a&&b&&c&&d&&!g then[10]else[])++((bif g&&!t then[11]else[])++((bif f then[]else[12])++(bif a&&b&&c&&d&&f&&g&&t then[13]else[])))))))
def playLack(sg:List Int)(i:Int)(p:ft)(no:Int):ft:=bif(cL p (mgetD p.shelf.at_ no 0) (nthI sg i)).1 != 0 then { p with lacks:=p.lacks.set i.toNat no }else p
def playRevoke(d:Document)(p:ft)(no:Int):ft:={ p with revoked:=mput p.revoked no (mgetD p.revoked no []++[d.No]) }
def playMid(p:ft)(i:Int):ft:=(jx (nthI p.shelf.docs i).Needs).foldl (λq x=>playLack p.signed i q x.2) { p with lacks:=p.lacks.set i.toNat (-1) }
def playDone(p:ft)(i:Int):ft:={ p with done:=p.done.set i.toNat true }
def playStep(p:ft)(i:Int):ft:=
 bif decide (nthI (playMid p i).lacks i<0)then(nthI p.shelf.docs i).Revokes.foldl (playRevoke (nthI p.shelf.docs i)) (playDone (playMid p i) i)else playDone (playMid p i) i
def co(l:List Document)(signed:List Int)(at_:Int):ft:=(bP (playP l signed) at_).foldl playStep (playP l signed)
def plB(b5 b8 br:Nat)(P:ft)(om:Obj)(Gf:LH):LH:=
 [(b5,.cells (P.done.map Value.bool).toArray 4 (0,0)),(b8,.cells (P.lacks.map (Value.int .i64)).toArray 3 (0,0)),(br,om)]++Gf
def bQ.K1(rC:List Int):(List Int×Int):=(rC,0)
def bQ.L1(l:List Document)(signed:List Int)(ba:Int)(k:List Int->(List Int×Int)):List Document->Nat->List Int->(List Int×Int)
 |[],i1,rC=>(k rC)
 |y1::rz1,i1,rC=>(bif((cL (co l signed ba) (i1:Int) ba).1==0)then(bQ.L1 l signed ba k rz1 (i1+1) (rC++[y1.No]))else(bQ.L1 l signed ba k rz1 (i1+1) rC))
def bQ(l:List Document)(signed:List Int)(ba:Int):(List Int×Int):=(bif((aU l) != 0)then([],(aU l))else(bif((!(cj l signed))||(!(fM ba)))then([],1)else((bQ.L1 l signed ba (bQ.K1)) l 0 ([]))))
def ce(d:Document)(v0:bI):Bool:=(d.No==v0.doc.No)
def i7(s:List Document)(f:(Document->Bool)):Bool:=decide (0<=(ad s f))
def fV(l:List Document)(signed:List Int)(no:Int)(di:Int):(Int×Int×Int):=(bif((aU l) != 0)then(0,0,(aU l))else(bif((!(cj l signed))||(!(fM di)))then(0,0,1)else(bif(!(mhas ((co l signed di).shelf.at_) no))then(0,0,1)else((cL (co l signed di) (mgetD ((co l signed di).shelf.at_) no 0) di).1,(cL (co l signed di) (mgetD ((co l signed di).shelf.at_) no 0) di).2,0))))
def gU.K1  : Int:=(-1)
def gU.L1(v:Int)(k:Int):List Int->Nat->Int
 |[],i1=>(k)
 |y1::rz1,i1=>(bif(v==y1)then(i1:Int)else(gU.L1 v k rz1 (i1+1)))
def gU(s:List Int)(v:Int):Int:=((gU.L1 v (gU.K1)) s 0)
def kI(s:List Int)(v:Int):Bool:=decide (0<=(gU s v))
def j5(d:Document)(c:bI)(signed:List Int):Bool:=(bif(!(kI d.Revokes c.doc.No))then false else(((fV c.Register.Docs signed d.No c.at_).1 != 1)&&((fV c.Register.Docs signed d.No c.at_).1 != 4)))
def fB(c:bI)(signed:List Int):Bool:=(i7 c.Register.Docs (λdC=>j5 dC c signed))
def fy(c:bI)(signed:List Int):Bool:=(((decide (c.at_<c.doc.At)||decide (c.doc.Until<=c.at_))||(decide (0<=(nthI signed (ad c.Register.Docs (λdC=>ce dC c))))&&decide ((nthI signed (ad c.Register.Docs (λdC=>ce dC c)))<=c.at_)))||(fB c signed))
def zf(c:bI)(signed:List Int):Bool:=(fy c signed)
def kU(eE:Int)(v0:List Int):Bool:=(!(kI v0 eE))
def gD(c:bI)(signed:List Int):Bool:=(cH c.doc.Needs (λdC=>kU dC ((bQ c.Register.Docs signed c.at_).1)))
def ze(c:bI)(signed:List Int):Bool:=(gD c signed)
def cn.K1(bu:List Holder):List Holder:=bu
def cn.L1(k:List Holder->List Holder):List Holder->List Holder->List Holder
 |[],bu=>k bu
 |y1::rz1,bu=>(cn.L1 k rz1 (bu++[y1]))
def cn(seq:List Holder):List Holder:=((cn.L1 (cn.K1)) seq ([]))
def gi(seq:List Holder):List Holder:=(cn seq)
def bX.K1  : List Holder:=[]
def bX.L1(m:List (OSeat×Appoint))(office:Int)(k:List Holder):List OSeat->List Holder
 |[]=>(k)
 |y1::rz1=>(bif((y1.office==office)&&(!((mgetD m y1 (kD 0 0 0 0 0 0 false)).Gone)))then((UT ((mgetD m y1 (kD 0 0 0 0 0 0 false)).Person) ((mgetD m y1 (kD 0 0 0 0 0 0 false)).Weight))::(bX.L1 m office k rz1))else(bX.L1 m office k rz1))
def bX(m:List (OSeat×Appoint))(office:Int):List Holder:=((bX.L1 m office (bX.K1)) (seatS (m.map Prod.fst)))
def i8(m:List (OSeat×Appoint))(office:Int):List Holder:=(bX m office)
def eQ(l:List Appoint)(office:Int)(ba:Int)(known:Int):(List Holder×Int):=(bif((dg l) != 0)then([],(dg l))else(bif(((!(fg office))||(!(dq ba)))||(!(dq known)))then([],1)else((gi (i8 (dw l ba known) office)),0)))
def el.K1(iu:Int):Bool:=true
def el.L1(k:Int->Bool):List Int->Int->Bool
 |[],iu=>(k iu)
 |y1::rz1,iu=>(bif(decide (y1<=iu)||decide (64<=y1))then false else(el.L1  k rz1 y1))
def el(who:List Int):Bool:=((el.L1 (el.K1)) who (-1))
def dI.L2(k:List Int->Bool):List Holder->List Int->Bool
 |[],Q4=>(k Q4)
 |y2::rz2,Q4=>(bif(decide (y2.Weight<1)||decide (64<y2.Weight))then false else(dI.L2  k rz2 (Q4++[y2.Person])))
def dI.L3(k:List Int->Bool):List Holder->List Int->Bool
 |[],Na=>(k Na)
 |y3::rz3,Na=>(bif(decide (y3.Weight<1)||decide (64<y3.Weight))then false else(dI.L3  k rz3 (Na++[y3.Person])))
def dI.K1(holders:List (List Holder))(offices:Int):Bool:=((holders.length:Int)==offices)
def dI.L1(k:Bool):List (List Holder)->Bool
 |[]=>(k)
 |y1::rz1=>((dI.L3 (λzg3_7=>(bif(!(el zg3_7))then false else(dI.L1  k rz1)))) y1 ([]))
def dI(holders:List (List Holder))(offices:Int):Bool:=((dI.L1 (dI.K1 holders offices)) holders)
def bU.K1  : List Holder:=[]
def bU.L1(q:aW)(k:List Holder):List Holder->List Holder
 |[]=>(k)
 |y1::rz1=>(bif((slices_BinarySearch_int q.who y1.Person).2)then(y1::(bU.L1 q k rz1))else(bU.L1 q k rz1))
def bU(q:aW)(office:Int):List Holder:=((bU.L1 q (bU.K1)) (nthI q.holders office))
def dW(q:aW)(office:Int):List Holder:=(bU q office)
def dT.K1(cf:Bool):Bool:=false
def dT.L1(k:Bool->Bool):List Holder->Bool->Bool
 |[],cf=>k cf
 |y1::rz1,cf=>true
def dT(q:aW)(x:Expr):Bool:=((dT.L1 (dT.K1)) (dW q x.No) false)
def cT.K1(x:Expr)(cf:Int):Bool:=decide (x.N<=cf)
def cT.L1(k:Int->Bool):List Holder->Int->Bool
 |[],cf=>k cf
 |y1::rz1,cf=>(cT.L1 k rz1 (jC .i64 (cf+y1.Weight)))
def cT(q:aW)(x:Expr):Bool:=((cT.L1 (cT.K1 x)) (dW q x.No) 0)
def dS.K1(x:Expr)(eO:Int):Bool:=decide (x.N<=eO)
def dS.L1(rec:aW->Expr->Bool)(q:aW)(k:Int->Bool):List Expr->Int->Bool
 |[],eO=>(k eO)
 |y1::rz1,eO=>(bif(rec q y1)then(dS.L1 rec q k rz1 (jC .i64 (eO+1)))else(dS.L1 rec q k rz1 eO))
def dS.F(rec:aW->Expr->Bool)(q:aW)(x:Expr):Bool:=((dS.L1 rec q (dS.K1 x)) x.L 0)
def j4.F(rec:aW->Expr->Bool)(q:aW)(x:Expr):Bool:=(bif(decide (q.value<=x.N))then(rec q (nthI x.L 0))else(rec q (nthI x.L 1)))
def fulQ(rec:aW->Expr->Bool)(q:aW)(x:Expr):Bool:=if x.Kind=1 then dT q x else if x.Kind=2 then cT q x else if x.Kind=3 then dS.F rec q x else j4.F rec q x
def cI.F(rec:aW->Expr->Bool)(q:aW)(x:Expr):Bool:=(fulQ rec q x)
def cI.go:Nat->aW->Expr->Bool
 |0=>λ_ _=>default
 |m+1=>cI.F (cI.go m)
def cI(q:aW)(x:Expr):Bool:=cI.go x.dep q x
def dx(p:Policy)(kind:Int)(value:Int)(holders:List (List Holder))(who:List Int):(Bool×Int):=(bif((cQ p) != 0)then(false,(cQ p))else(bif(((decide (kind<0)||decide ((p.Kinds.length:Int)<=kind))||decide (value<0))||decide (1099511627776<value))then(false,1)else(bif(!(dI holders (p.Offices.length:Int)))then(false,210)else(bif(!(el who))then(false,1)else((cI (aW.mk value holders who) ((nthI p.Rules kind).Expr)),0)))))
def dG.K1(c:bI)(p:Policy)(who:List Int)(DJ:List (List Holder)):Bool:=((dx p c.doc.Kind c.doc.Value DJ who).1&&((dx p c.doc.Kind c.doc.Value DJ who).2==0))
def dG.L1(c:bI)(k:(List (List Holder))->Bool):List ByteArray->Nat->(List (List Holder))->Bool
 |[],i1,DJ=>(k DJ)
 |y1::rz1,i1,DJ=>(dG.L1 c k rz1 (i1+1) (DJ++[(eQ c.Register.Appoints (i1:Int) c.at_ c.known).1]))
def dG(c:bI)(p:Policy)(who:List Int):Bool:=((dG.L1 c (dG.K1 c p who)) p.Offices 0 ([]))
def askJ(c:bI):List Int×Int×Int:=bw c.Register.Versions c.doc.At c.at_ c.known
def askP(c:bI)(no:Int):Policy:=exD (fe c no)
def askWho(c:bI)(no:Int):List Int:=bB c (askP c no)
def askAns(c:bI)(no:Int):Bool:=dG c (askP c no) (askWho c no)
def askAll(c:bI):List Int:=slices_Compact_int (sortI ((askJ c).1.flatMap (askWho c)))
def fj(c:bI):Bool:=bif(askJ c).2.1==0 then false else(iL (askJ c).2.1 ((askJ c).1.map (askAns c))).1
abbrev verO(s0 b0:Int)(vb:Option Addr)(vn vc:Nat)(wb:Option Addr)(wn wc:Nat):Obj:=.cells (kB [.int .i64 s0,.int .i64 b0,.slice vb vn vc,.slice wb wn wc]) 36 (0,0)
def judgeRoom(c:bI)(r:Register)(u:List Use)(at_ known:Int):Int×Bool×Int:=bM r.Budgets u c.doc.Kind c.doc.Value at_ known
def judgeC(c:bI)(r:Register)(signed:List Int)(u:List Use)(at_ known:Int):gj:=
 bif fy c signed then⟨1,-1,[],[]⟩else bif gD c signed then⟨2,-1,[],[]⟩else bif !(fj c)then⟨3,-1,(askJ c).1,askAll c⟩else
 bif !(judgeRoom c r u at_ known).2.1 then⟨4,(judgeRoom c r u at_ known).1,(askJ c).1,askAll c⟩else⟨0,-1,(askJ c).1,askAll c⟩
def bJ(bN:Register)(signed:List Int)(u:List Use)(doc:Int)(cD:Int)(known:Int):gj×Int:=
 bif dD bN != 0 then(⟨0,0,[],[]⟩,dD bN)else
 bif(bQ bN.Docs signed 0).2 != 0 then(⟨0,0,[],[]⟩,(bQ bN.Docs signed 0).2)else
 bif(bM bN.Budgets u 0 0 0 0).2.2 != 0 then(⟨0,0,[],[]⟩,(bM bN.Budgets u 0 0 0 0).2.2)else
 match lV bN doc cD known with
  |.error e=>(⟨0,0,[],[]⟩,e)
  |.ok c=>(judgeC c bN signed u cD known,0)
def gf.K1  : Bool:=true
def gf.L1(j6:List Int)(k:Bool):List Int->Nat->Bool
 |[],i1=>(k)
 |y1::rz1,i1=>(bif(y1 != (nthI j6 (i1:Int)))then false else(gf.L1 j6 k rz1 (i1+1)))
def gf(a:List Int)(j6:List Int):Bool:=(bif((a.length:Int) != (j6.length:Int))then false else((gf.L1 j6 (gf.K1)) a 0))
def cw  : Policy:=(kN (⟨#[98,111,97,114,100]⟩:ByteArray) ([(⟨#[99,111,110,116,114,97,99,116]⟩:ByteArray)]) ([(⟨#[100,105,114,101,99,116,111,114]⟩:ByteArray)]) ([(Ti (⟨#[99,111,110,116,114,97,99,116]⟩:ByteArray) 0 3 (vG 1 0 0 (⟨#[100,105,114,101,99,116,111,114]⟩:ByteArray) ([])))]) (vG 1 0 0 (⟨#[100,105,114,101,99,116,111,114]⟩:ByteArray) ([])) 2)
def aL  : Register:=(zK ([(kD 0 0 0 0 2 1 false)]) ([(Td 0 0 0 40 2 5 0 (-1) 100 false)]) ([]) ([]) ([(S0 1 0 0 cw)]) ([(Document.mk 7 1 0 60 0 50 ([9]) ([]) ([]) (λ_=>0))]) ([(qW 3 4 6 7 5 2 0 false)]))
def JO(bN:Register)(il:Int)(state:Int):Bool:=(((bJ bN ([(-1)]) ([]) 7 il 100).2==0)&&(((bJ bN ([(-1)]) ([]) 7 il 100).1).State==state))
def vl  : Bool:=true
def fU.K1(eO:Int):Int:=eO
def fU.L1(rec:Expr->Int->Int)(limit:Int)(k:Int->Int):List Expr->Int->Int
 |[],eO=>(k eO)
 |y1::rz1,eO=>(bif(decide (eO<=limit))then(fU.L1 rec limit k rz1 (jC .i64 (eO+(rec y1 (jC .i64 (limit-eO))))))else(k eO))
def fU.F(rec:Expr->Int->Int)(x:Expr)(limit:Int):Int:=((fU.L1 rec limit (fU.K1)) x.L 1)
def fU.go:Nat->Expr->Int->Int
 |0=>λ_ _=>default
 |m+1=>fU.F (fU.go m)
def fU(x:Expr)(limit:Int):Int:=fU.go x.dep x limit
def dV.L2(k:Bool):List Rule->Bool
 |[]=>(k)
 |y2::rz2=>(bif(decide (40<(fU y2.Expr 40)))then false else(dV.L2  k rz2))
def dV.L3(k:Bool):List Rule->Bool
 |[]=>(k)
 |y3::rz3=>(bif(decide (40<(fU y3.Expr 40)))then false else(dV.L3  k rz3))
def dV.K1  : Bool:=true
def dV.L1(k:Bool):List Version->Bool
 |[]=>(k)
 |y1::rz1=>(bif(((decide (20<(y1.Policy.Kinds.length:Int))||decide (40<(y1.Policy.Offices.length:Int)))||decide (20<(y1.Policy.Rules.length:Int)))||decide (40<(fU y1.Policy.Change 40)))then false else((dV.L3 ((dV.L1  k rz1))) y1.Policy.Rules))
def dV(l:List Version):Bool:=(bif(decide (5<(l.length:Int)))then false else((dV.L1 (dV.K1)) l))
def lF.K1  : Bool:=true
def lF.L1(k:Bool):List Document->Bool
 |[]=>(k)
 |y1::rz1=>(bif((decide (20<(y1.Parties.length:Int))||decide (20<(y1.Revokes.length:Int)))||decide (20<(y1.Needs.length:Int)))then false else(lF.L1  k rz1))
def lF(bN:Register):Bool:=(bif((((((decide (30<(bN.Appoints.length:Int))||decide (12<(bN.Deputies.length:Int)))||decide (12<(bN.Interests.length:Int)))||decide (12<(bN.Budgets.length:Int)))||decide (8<(bN.Docs.length:Int)))||decide (24<(bN.Approvals.length:Int)))||(!(dV bN.Versions)))then false else((lF.L1 (lF.K1)) bN.Docs))
def fo.K1  : Int:=(-1)
def fo.L1(no:Int)(k:Int):List Document->Nat->Int
 |[],i1=>(k)
 |y1::rz1,i1=>(bif(y1.No==no)then(i1:Int)else(fo.L1 no k rz1 (i1+1)))
def fo(bN:Register)(no:Int):Int:=((fo.L1 no (fo.K1)) bN.Docs 0)
def oo(eE:Int):Bool:=(decide (0<=eE)&&decide (eE<1099511627776))
def oY(eE:Int):Bool:=(decide (0<=eE)&&decide (eE<32))
def oX(eE:Int):Bool:=(decide (0<=eE)&&decide (eE<64))
def jX(x:Appoint):Bool:=(bif(((((decide (x.No<0)||decide (1048576<x.No))||(!(oo x.At)))||(!(oo x.Known)))||(!(oY x.Office)))||(!(oX x.Person)))then false else(bif x.Gone then(x.Weight==0)else(decide (1<=x.Weight)&&decide (x.Weight<=64))))
def iw.K1  : Int:=0
def iw.L1(l:List Appoint)(k:Int):List Appoint->Nat->Int
 |[],i1=>(k)
 |y1::rz1,i1=>(bif((!(jX y1))||(decide (0<(i1:Int))&&decide (y1.No<=(nthI l ((i1:Int)-1)).No)))then 150 else(iw.L1 l k rz1 (i1+1)))
def iw(l:List Appoint):Int:=(bif(decide (4096<(l.length:Int)))then 2 else((iw.L1 l (iw.K1)) l 0))
def ij(eE:Int)(low:Int)(high:Int):Bool:=(decide (low<=eE)&&decide (eE<=high))
def ol(eE:Int):Bool:=(ij eE 0 1099511627775)
def mD(eE:Int):Bool:=(ij eE 0 63)
def jW(x:Deputy):Bool:=(bif((((((!(ij x.No 0 1048576))||(!(ol x.At)))||(!(ol x.Known)))||(!(mD x.From)))||(!(mD x.To)))||(x.From==x.To))then false else(bif((!(ij x.Office 0 31))||(!(ij x.Kind (-1) 15)))then false else(bif x.Gone then((x.Until==0)&&(x.Most==0))else((decide (x.At<x.Until)&&decide (x.Until<=1099511627776))&&(ij x.Most 0 1099511627776)))))
def ie.K1  : Int:=0
def ie.L1(l:List Deputy)(k:Int):List Deputy->Nat->Int
 |[],i1=>(k)
 |y1::rz1,i1=>(bif((!(jW y1))||(decide (0<(i1:Int))&&decide (y1.No<=(nthI l ((i1:Int)-1)).No)))then 160 else(ie.L1 l k rz1 (i1+1)))
def ie(l:List Deputy):Int:=(bif(decide (4096<(l.length:Int)))then 2 else((ie.L1 l (ie.K1)) l 0))
def oe(t:Int):Bool:=(decide (0<=t)&&decide (t<1099511627776))
def na(eE:Int):Bool:=(decide (0<=eE)&&decide (eE<=1048576))
def oU(eE:Int):Bool:=(decide (0<=eE)&&decide (eE<64))
def jy(x:Interest):Bool:=(bif((((decide (x.No<0)||decide (1048576<x.No))||(!(oe x.At)))||(!(oe x.Known)))||(!(na x.Party)))then false else(bif x.Of then((na x.Person)&&(x.Person != x.Party))else(oU x.Person)))
def ib.K1  : Int:=0
def ib.L1(l:List Interest)(k:Int):List Interest->Nat->Int
 |[],i1=>(k)
 |y1::rz1,i1=>(bif((!(jy y1))||(decide (0<(i1:Int))&&decide (y1.No<=(nthI l ((i1:Int)-1)).No)))then 290 else(ib.L1 l k rz1 (i1+1)))
def ib(l:List Interest):Int:=(bif(decide (4096<(l.length:Int)))then 2 else((ib.L1 l (ib.K1)) l 0))
def fJ(eE:Int)(least:Int)(most:Int):Bool:=(decide (least<=eE)&&decide (eE<=most))
def gP(eE:Int):Bool:=(decide (0<=eE)&&decide (eE<1099511627776))
def jU(x:Budget):Bool:=(bif(((((!(fJ x.No 0 1048576))||(!(gP x.At)))||(!(gP x.Known)))||(!(fJ x.Kind (-1) 15)))||(!(fJ x.Period 1 1099511627776)))then false else(bif x.Gone then((x.Count==0)&&(x.Value==0))else((fJ x.Count 0 1048576)&&(fJ x.Value 0 1099511627776))))
def fE.K1  : Int:=0
def fE.L1(l:List Budget)(k:Int):List Budget->Nat->Int
 |[],i1=>(k)
 |y1::rz1,i1=>(bif((!(jU y1))||(decide (0<(i1:Int))&&decide (y1.No<=(nthI l ((i1:Int)-1)).No)))then 180 else(fE.L1 l k rz1 (i1+1)))
def fE(l:List Budget):Int:=(bif(decide (4096<(l.length:Int)))then 2 else((fE.L1 l (fE.K1)) l 0))
def fD(eE:Int):Bool:=(decide (0<=eE)&&decide (eE<1099511627776))
def dv.K1(eO:Int):Int:=eO
def dv.L1(rec:Expr->Int->Int)(limit:Int)(k:Int->Int):List Expr->Int->Int
 |[],eO=>(k eO)
 |y1::rz1,eO=>(bif(decide (eO<=limit))then(dv.L1 rec limit k rz1 (jC .i64 (eO+(rec y1 (jC .i64 (limit-eO))))))else(k eO))
def dv.F(rec:Expr->Int->Int)(x:Expr)(limit:Int):Int:=((dv.L1 rec limit (dv.K1)) x.L 1)
def dv.go:Nat->Expr->Int->Int
 |0=>λ_ _=>default
 |m+1=>dv.F (dv.go m)
def dv(x:Expr)(limit:Int):Int:=dv.go x.dep x limit
def aY.K1(iu:Int):Int:=(jC .i64 (iu+1))
def aY.L1(rec:Expr->Int)(k:Int->Int):List Expr->Int->Int
 |[],iu=>(k iu)
 |y1::rz1,iu=>(aY.L1 rec k rz1 (max iu (rec y1)))
def aY.F(rec:Expr->Int)(x:Expr):Int:=((aY.L1 rec (aY.K1)) x.L 0)
def aY.go:Nat->Expr->Int
 |0=>λ_=>default
 |m+1=>aY.F (aY.go m)
def aY(x:Expr):Int:=aY.go x.dep x
def jI(x:Expr):Bool:=(decide (256<(dv x 256))||decide (16<(aY x)))
def fa.K1  : Bool:=false
def fa.L1(k:Bool):List Rule->Bool
 |[]=>(k)
 |y1::rz1=>(bif(jI y1.Expr)then true else(fa.L1  k rz1))
def fa(p:Policy):Bool:=(bif(((decide (32<(p.Offices.length:Int))||decide (16<(p.Kinds.length:Int)))||decide (16<(p.Rules.length:Int)))||(jI p.Change))then true else((fa.L1 (fa.K1)) p.Rules))
def lh(c:Int):Bool:=((decide (97<=c)&&decide (c<=122))||(decide (65<=c)&&decide (c<=90)))
def nB(c:Int):Bool:=(decide (48<=c)&&decide (c<=57))
def sM(c:Int):Bool:=(((lh c)||(nB c))||(c==95))
def gI.K1  : Bool:=true
def gI.L1(s:ByteArray)(k:Bool):List Nat->Nat->Bool
 |[],i1=>(k)
 |y1::rz1,i1=>(bif(!(sM ((s.data.getD ((i1:Int):Int).toNat 0).toNat:Int)))then false else(gI.L1 s k rz1 (i1+1)))
def gI(s:ByteArray):Bool:=(bif((decide ((s.size:Int)<1)||decide (32<(s.size:Int)))||(!(lh ((s.data.getD (0:Int).toNat 0).toNat:Int))))then false else((gI.L1 s (gI.K1)) (qH s.size) 0))
def oh(s:ByteArray):Bool:=(bif(s.toList==(⟨#[112,111,108,105,99,121]⟩:ByteArray).toList)then(bif(s.toList==(⟨#[112,111,108,105,99,121]⟩:ByteArray).toList)then true else false)else(bif(s.toList==(⟨#[109,111,100,101]⟩:ByteArray).toList)then(bif(s.toList==(⟨#[109,111,100,101]⟩:ByteArray).toList)then true else false)else(bif(s.toList==(⟨#[111,108,100]⟩:ByteArray).toList)then(bif(s.toList==(⟨#[111,108,100]⟩:ByteArray).toList)then true else false)else(bif(s.toList==(⟨#[110,101,119]⟩:ByteArray).toList)then(bif(s.toList==(⟨#[110,101,119]⟩:ByteArray).toList)then true else false)else(bif(s.toList==(⟨#[98,111,116,104]⟩:ByteArray).toList)then(bif(s.toList==(⟨#[98,111,116,104]⟩:ByteArray).toList)then true else false)else(bif(s.toList==(⟨#[101,105,116,104,101,114]⟩:ByteArray).toList)then(bif(s.toList==(⟨#[101,105,116,104,101,114]⟩:ByteArray).toList)then true else false)else(bif(s.toList==(⟨#[111,102,102,105,99,101]⟩:ByteArray).toList)then(bif(s.toList==(⟨#[111,102,102,105,99,101]⟩:ByteArray).toList)then true else false)else(bif(s.toList==(⟨#[107,105,110,100]⟩:ByteArray).toList)then(bif(s.toList==(⟨#[107,105,110,100]⟩:ByteArray).toList)then true else false)else(bif(s.toList==(⟨#[114,117,108,101]⟩:ByteArray).toList)then(bif(s.toList==(⟨#[114,117,108,101]⟩:ByteArray).toList)then true else false)else(bif(s.toList==(⟨#[116,104,105,110,107]⟩:ByteArray).toList)then(bif(s.toList==(⟨#[116,104,105,110,107]⟩:ByteArray).toList)then true else false)else(bif(s.toList==(⟨#[99,104,97,110,103,101]⟩:ByteArray).toList)then(bif(s.toList==(⟨#[99,104,97,110,103,101]⟩:ByteArray).toList)then true else false)else(bif(s.toList==(⟨#[115,111,109,101]⟩:ByteArray).toList)then(bif(s.toList==(⟨#[115,111,109,101]⟩:ByteArray).toList)then true else false)else(bif(s.toList==(⟨#[119,101,105,103,104,116]⟩:ByteArray).toList)then(bif(s.toList==(⟨#[119,101,105,103,104,116]⟩:ByteArray).toList)then true else false)else(bif(s.toList==(⟨#[111,102]⟩:ByteArray).toList)then(bif(s.toList==(⟨#[111,102]⟩:ByteArray).toList)then true else false)else(bif(s.toList==(⟨#[117,112,116,111]⟩:ByteArray).toList)then(bif(s.toList==(⟨#[117,112,116,111]⟩:ByteArray).toList)then true else false)else(bif(s.toList==(⟨#[101,108,115,101]⟩:ByteArray).toList)then true else false))))))))))))))))
def nd(s:ByteArray):Bool:=((gI s)&&(!(oh s)))
def et.K1  : Int:=(-1)
def et.L1(s:ByteArray)(k:Int):List ByteArray->Nat->Int
 |[],i1=>(k)
 |y1::rz1,i1=>(bif(y1.toList==s.toList)then(i1:Int)else(et.L1 s k rz1 (i1+1)))
def et(l:List ByteArray)(s:ByteArray):Int:=((et.L1 s (et.K1)) l 0)
def eK.K1  : Bool:=true
def eK.L1(l:List ByteArray)(k:Bool):List ByteArray->Nat->Bool
 |[],i1=>(k)
 |y1::rz1,i1=>(bif((!(nd y1))||((et l y1) != (i1:Int)))then false else(eK.L1 l k rz1 (i1+1)))
def eK(l:List ByteArray):Bool:=((eK.L1 l (eK.K1)) l 0)
def bK.K1  : Bool:=true
def bK.L1(rec:List ByteArray->Expr->Bool)(offices:List ByteArray)(k:Bool):List Expr->Bool
 |[]=>(k)
 |y1::rz1=>(bif(!(rec offices y1))then false else(bK.L1 rec offices k rz1))
def bK.F(rec:List ByteArray->Expr->Bool)(offices:List ByteArray)(x:Expr):Bool:=(bif(((x.Kind==1)||(x.Kind==2))&&decide ((et offices x.Name)<0))then false else((bK.L1 rec offices (bK.K1)) x.L))
def bK.go:Nat->List ByteArray->Expr->Bool
 |0=>λ_ _=>default
 |m+1=>bK.F (bK.go m)
def bK(offices:List ByteArray)(x:Expr):Bool:=bK.go x.dep offices x
def gO.K1(p:Policy):Bool:=(bK p.Offices p.Change)
def gO.L1(p:Policy)(k:Bool):List Rule->Bool
 |[]=>(k)
 |y1::rz1=>(bif(!(bK p.Offices y1.Expr))then false else(gO.L1 p k rz1))
def gO(p:Policy):Bool:=(bif(((!(nd p.Name))||(!(eK p.Offices)))||(!(eK p.Kinds)))then false else((gO.L1 p (gO.K1 p)) p.Rules))
def aC.K1(x:Expr)(upto:Bool):Bool:=(bif(x.Kind==1)then((x.N==0)&&((x.L.length:Int)==0))else(bif(x.Kind==2)then((decide (1<=x.N)&&decide (x.N<=4096))&&((x.L.length:Int)==0))else(bif(x.Kind==3)then(((((x.Name.toList==(⟨#[]⟩:ByteArray).toList)&&decide (1<=(x.L.length:Int)))&&decide ((x.L.length:Int)<=16))&&decide (1<=x.N))&&decide (x.N<=(x.L.length:Int)))else(bif(x.Kind==4)then((((upto&&(x.Name.toList==(⟨#[]⟩:ByteArray).toList))&&((x.L.length:Int)==2))&&decide (0<=x.N))&&decide (x.N<=1099511627776))else false))))
def aC.L1(rec:Expr->Bool->Bool)(upto:Bool)(k:Bool):List Expr->Bool
 |[]=>(k)
 |y1::rz1=>(bif(!(rec y1 upto))then false else(aC.L1 rec upto k rz1))
def aC.F(rec:Expr->Bool->Bool)(x:Expr)(upto:Bool):Bool:=((aC.L1 rec upto (aC.K1 x upto)) x.L)
def aC.go:Nat->Expr->Bool->Bool
 |0=>λ_ _=>default
 |m+1=>aC.F (aC.go m)
def aC(x:Expr)(upto:Bool):Bool:=aC.go x.dep x upto
def fQ.K1(p:Policy):Bool:=(aC p.Change false)
def fQ.L1(p:Policy)(k:Bool):List Rule->Nat->Bool
 |[],i1=>(k)
 |y1::rz1,i1=>(bif((((!(y1.Kind.toList==(nthI p.Kinds (i1:Int)).toList))||decide (y1.Think<0))||decide (1099511627776<=y1.Think))||(!(aC y1.Expr true)))then false else(fQ.L1 p k rz1 (i1+1)))
def fQ(p:Policy):Bool:=(bif(((decide ((p.Kinds.length:Int)<1)||((p.Rules.length:Int) != (p.Kinds.length:Int)))||decide (p.Mode<1))||decide (4<p.Mode))then false else((fQ.L1 p (fQ.K1 p)) p.Rules 0))
def ah.K1(offices:List ByteArray)(x:Expr)(j2:List Expr):Expr:=(vG x.Kind x.N (et offices x.Name) x.Name j2)
def ah.L1(rec:List ByteArray->Expr->Expr)(offices:List ByteArray)(k:List Expr->Expr):List Expr->List Expr->Expr
 |[],j2=>(k j2)
 |y1::rz1,j2=>(ah.L1 rec offices k rz1 (j2++[(rec offices y1)]))
def ah.K2(x:Expr)(j1:List Expr):Expr:=(vG x.Kind x.N 0 x.Name j1)
def ah.L2(rec:List ByteArray->Expr->Expr)(offices:List ByteArray)(k:List Expr->Expr):List Expr->List Expr->Expr
 |[],j1=>(k j1)
 |y2::rz2,j1=>(ah.L2 rec offices k rz2 (j1++[(rec offices y2)]))
def ah.F(rec:List ByteArray->Expr->Expr)(offices:List ByteArray)(x:Expr):Expr:=(bif((x.Kind==1)||(x.Kind==2))then((ah.L1 rec offices (ah.K1 offices x)) x.L ([]))else((ah.L2 rec offices (ah.K2 x)) x.L ([])))
def ah.go:Nat->List ByteArray->Expr->Expr
 |0=>λ_ _=>default
 |m+1=>ah.F (ah.go m)
def ah(offices:List ByteArray)(x:Expr):Expr:=ah.go x.dep offices x
def dQ.K1(p:Policy)(ma:List Rule):(Policy×Int):=((kN p.Name p.Kinds p.Offices ma (vG ((ah p.Offices p.Change).Kind) ((ah p.Offices p.Change).N) ((ah p.Offices p.Change).No) ((ah p.Offices p.Change).Name) ((ah p.Offices p.Change).L)) p.Mode),0)
def dQ.L1(p:Policy)(k:List Rule->(Policy×Int)):List Rule->Nat->List Rule->(Policy×Int)
 |[],i1,ma=>(k ma)
 |y1::rz1,i1,ma=>(dQ.L1 p k rz1 (i1+1) (ma++[(Ti y1.Kind (i1:Int) y1.Think (vG ((ah p.Offices y1.Expr).Kind) ((ah p.Offices y1.Expr).N) ((ah p.Offices y1.Expr).No) ((ah p.Offices y1.Expr).Name) ((ah p.Offices y1.Expr).L)))]))
def dQ(p:Policy):(Policy×Int):=(bif(fa p)then((kN (⟨#[]⟩:ByteArray) ([]) ([]) ([]) (vG 0 0 0 (⟨#[]⟩:ByteArray) ([])) 0),2)else(bif(!(gO p))then((kN (⟨#[]⟩:ByteArray) ([]) ([]) ([]) (vG 0 0 0 (⟨#[]⟩:ByteArray) ([])) 0),201)else(bif(!(fQ p))then((kN (⟨#[]⟩:ByteArray) ([]) ([]) ([]) (vG 0 0 0 (⟨#[]⟩:ByteArray) ([])) 0),200)else((dQ.L1 p (dQ.K1 p)) p.Rules 0 ([])))))
def ey.K1  : Bool:=true
def ey.L1(j6:List ByteArray)(k:Bool):List ByteArray->Nat->Bool
 |[],i1=>(k)
 |y1::rz1,i1=>(bif(!(y1.toList==(nthI j6 (i1:Int)).toList))then false else(ey.L1 j6 k rz1 (i1+1)))
def ey(a:List ByteArray)(j6:List ByteArray):Bool:=(bif((a.length:Int) != (j6.length:Int))then false else((ey.L1 j6 (ey.K1)) a 0))
def bh.K1  : Bool:=true
def bh.L1(rec:Expr->Expr->Bool)(j6:Expr)(k:Bool):List Expr->Nat->Bool
 |[],i1=>(k)
 |y1::rz1,i1=>(bif(!(rec y1 (nthI j6.L (i1:Int))))then false else(bh.L1 rec j6 k rz1 (i1+1)))
def bh.F(rec:Expr->Expr->Bool)(a:Expr)(j6:Expr):Bool:=(bif(((((a.Kind != j6.Kind)||(a.N != j6.N))||(a.No != j6.No))||(!(a.Name.toList==j6.Name.toList)))||((a.L.length:Int) != (j6.L.length:Int)))then false else((bh.L1 rec j6 (bh.K1)) a.L 0))
def bh.go:Nat->Expr->Expr->Bool
 |0=>λ_ _=>default
 |m+1=>bh.F (bh.go m)
def bh(a:Expr)(j6:Expr):Bool:=bh.go a.dep a j6
def ii.K1  : Bool:=true
def ii.L1(j6:Policy)(k:Bool):List Rule->Nat->Bool
 |[],i1=>(k)
 |y1::rz1,i1=>(bif((((!(y1.Kind.toList==(nthI j6.Rules (i1:Int)).Kind.toList))||(y1.KindNo != (nthI j6.Rules (i1:Int)).KindNo))||(y1.Think != (nthI j6.Rules (i1:Int)).Think))||(!(bh y1.Expr ((nthI j6.Rules (i1:Int)).Expr))))then false else(ii.L1 j6 k rz1 (i1+1)))
def ii(a:Policy)(j6:Policy):Bool:=(bif((((((!(a.Name.toList==j6.Name.toList))||(a.Mode != j6.Mode))||(!(ey a.Offices j6.Offices)))||(!(ey a.Kinds j6.Kinds)))||((a.Rules.length:Int) != (j6.Rules.length:Int)))||(!(bh a.Change j6.Change)))then false else((ii.L1 j6 (ii.K1)) a.Rules 0))
def gk(p:Policy):Int:=(bif((dQ p).2 != 0)then(dQ p).2 else(bif(!(ii ((dQ p).1) p))then 200 else 0))
def dM.K1  : Int:=0
def dM.L1(l:List Version)(k:Int):List Version->Nat->Int
 |[],i1=>(k)
 |y1::rz1,i1=>(bif(((((decide (y1.No<0)||decide (1048576<y1.No))||(decide (0<(i1:Int))&&decide (y1.No<=(nthI l ((i1:Int)-1)).No)))||(!(fD y1.At)))||(!(fD y1.Known)))||((gk y1.Policy) != 0))then 200 else(dM.L1 l k rz1 (i1+1)))
def dM(l:List Version):Int:=(bif(decide (256<(l.length:Int)))then 2 else((dM.L1 l (dM.K1)) l 0))
def lT(t:Int):Bool:=(decide (0<=t)&&decide (t<1099511627776))
def eL.K1(l:List Int):Bool:=decide ((l.length:Int)<=16)
def eL.L1(l:List Int)(limit:Int)(k:Bool):List Int->Nat->Bool
 |[],i1=>(k)
 |y1::rz1,i1=>(bif((decide (y1<0)||decide (limit<=y1))||(decide (0<(i1:Int))&&decide (y1<=(nthI l ((i1:Int)-1)))))then false else(eL.L1 l limit k rz1 (i1+1)))
def eL(l:List Int)(limit:Int):Bool:=((eL.L1 l limit (eL.K1 l)) l 0)
def iv(d:Document):Bool:=(bif((((((decide (d.No<0)||decide (4096<=d.No))||(!(lT d.At)))||decide (d.Kind<0))||decide (16<=d.Kind))||decide (d.Value<0))||decide (1099511627776<d.Value))then false else(((((decide (0<=d.From)&&decide (d.From<d.Until))&&decide (d.Until<=1099511627776))&&(eL d.Parties 1048577))&&(eL d.Revokes d.No))&&(eL d.Needs d.No)))
def fR.K1  : Int:=(-1)
def fR.L1(no:Int)(k:Int):List Document->Nat->Int
 |[],i1=>(k)
 |y1::rz1,i1=>(bif(y1.No==no)then(i1:Int)else(fR.L1 no k rz1 (i1+1)))
def fR(l:List Document)(no:Int):Int:=((fR.L1 no (fR.K1)) l 0)
def dl.K1  : Bool:=true
def dl.L1(l:List Document)(k:Bool):List Int->Bool
 |[]=>(k)
 |y1::rz1=>(bif(decide ((fR l y1)<0))then false else(dl.L1 l k rz1))
def dl(l:List Document)(nos:List Int):Bool:=((dl.L1 l (dl.K1)) nos)
def dL.K1  : Int:=0
def dL.L1(l:List Document)(k:Int):List Document->Nat->Int
 |[],i1=>(k)
 |y1::rz1,i1=>(bif((((!(iv y1))||(decide (0<(i1:Int))&&decide (y1.No<=(nthI l ((i1:Int)-1)).No)))||(!(dl l y1.Revokes)))||(!(dl l y1.Needs)))then 170 else(dL.L1 l k rz1 (i1+1)))
def dL(l:List Document):Int:=(bif(decide (4096<(l.length:Int)))then 2 else((dL.L1 l (dL.K1)) l 0))
def gB(eE:Int)(most:Int):Bool:=(decide (0<=eE)&&decide (eE<=most))
def og(eE:Int):Bool:=(gB eE 1099511627775)
def uC(eE:Int):Bool:=(gB eE 4095)
def jz(x:Approval):Bool:=(bif((((!(gB x.No 1048576))||(!(og x.At)))||(!(og x.Known)))||(!(uC x.Doc)))then false else(((gB x.By 63)&&(gB x.For 63))&&(gB x.Office 31)))
def ic.K1  : Int:=0
def ic.L1(l:List Approval)(k:Int):List Approval->Nat->Int
 |[],i1=>(k)
 |y1::rz1,i1=>(bif((!(jz y1))||(decide (0<(i1:Int))&&decide (y1.No<=(nthI l ((i1:Int)-1)).No)))then 280 else(ic.L1 l k rz1 (i1+1)))
def ic(l:List Approval):Int:=(bif(decide (4096<(l.length:Int)))then 2 else((ic.L1 l (ic.K1)) l 0))
def lk(bN:Register):Int:=(bif(((((iw bN.Appoints) != 0)||((ie bN.Deputies) != 0))||((ib bN.Interests) != 0))||((fE bN.Budgets) != 0))then 300 else(bif((((dM bN.Versions) != 0)||((dL bN.Docs) != 0))||((ic bN.Approvals) != 0))then 300 else 0))
def mC(eE:Int):Bool:=(decide (0<=eE)&&decide (eE<1099511627776))
def eM.K1(l:List Document)(signed:List Int):Bool:=((signed.length:Int)==(l.length:Int))
def eM.L1(k:Bool):List Int->Bool
 |[]=>(k)
 |y1::rz1=>(bif((y1 != (-1))&&(!(lT y1)))then false else(eM.L1  k rz1))
def eM(l:List Document)(signed:List Int):Bool:=((eM.L1 (eM.K1 l signed)) signed)
def fP.K1  : Bool:=false
def fP.L1(DF:Int)(k:Bool):List Int->Bool
 |[]=>(k)
 |y1::rz1=>(bif(y1==DF)then true else(fP.L1 DF k rz1))
def fP(l:List Int)(DF:Int):Bool:=((fP.L1 DF (fP.K1)) l)
def eP.K1(l:List Document)(uV:Int)(cD:Int):(Int×Int):=(bif(decide (cD<(nthI l uV).From))then(2,(-1))else(bif(decide ((nthI l uV).Until<=cD))then(3,(-1))else(0,(-1))))
def eP.L1(l:List Document)(done:List Int)(effective:List Bool)(uV:Int)(k:(Int×Int)):List Document->Nat->(Int×Int)
 |[],i1=>(k)
 |y1::rz1,i1=>(bif(((fP done (i1:Int))&&(nthI effective (i1:Int)))&&(fP y1.Revokes ((nthI l uV).No)))then(5,y1.No)else(eP.L1 l done effective uV k rz1 (i1+1)))
def eP(l:List Document)(done:List Int)(effective:List Bool)(uV:Int)(cD:Int):(Int×Int):=(bif(!(fP done uV))then(1,(-1))else(bif(!(nthI effective uV))then(4,(-1))else((eP.L1 l done effective uV (eP.K1 l uV cD)) l 0)))
def bV.L2(signed:List Int)(k:List Int):List Nat->Nat->List Int
 |[],i2=>(k)
 |y2::rz2,i2=>(bif(decide ((nthI signed 0)<(nthI signed (nthI ([]) (((0-(i2+1)):Nat):Int)))))then(bV.L2 signed k rz2 (i2+1))else(k))
def bV.L3(signed:List Int)(y1:Int)(eO:List Int)(k:Nat->List Int):List Nat->Nat->List Int
 |[],i3=>(k (i3))
 |y3::rz3,i3=>(bif(decide (y1<(nthI signed (nthI eO (((eO.length-(i3+1)):Nat):Int)))))then(bV.L3 signed y1 eO k rz3 (i3+1))else(k (i3)))
def bV.K1(eO:List Int):List Int:=eO
def bV.L1(signed:List Int)(il:Int)(k:List Int->List Int):List Int->Nat->List Int->List Int
 |[],i1,eO=>(k eO)
 |y1::rz1,i1,eO=>(bif(decide (y1<0)||decide (il<y1))then(bV.L1 signed il k rz1 (i1+1) eO)else((bV.L3 signed y1 eO (λzi3=>(bV.L1 signed il k rz1 (i1+1) (((eO.take (((((eO.length-zi3):Nat):Int):Int)).toNat)++[(i1:Int)])++(eO.drop (((((eO.length-zi3):Nat):Int):Int)).toNat))))) (qH eO.length) 0))
def bV(signed:List Int)(il:Int):List Int:=((bV.L1 signed il (bV.K1)) signed 0 ([]))
def bW.L3(l:List Document)(signed:List Int)(ba:Int)(k:List Int->List Int):List Nat->Nat->List Int->List Int
 |[],i3,P6=>(k P6)
 |y3::rz3,i3,P6=>(bif((eP l ((bV signed ba).take ((0:Int)).toNat) (List.replicate l.length false) (fR l (nthI ((nthI l (nthI (bV signed ba) 0)).Needs) ((((((nthI l (nthI (bV signed ba) 0)).Needs.length)-i3):Nat):Int)-1))) (nthI signed (nthI (bV signed ba) 0))).1 != 0)then(bW.L3 l signed ba k rz3 (i3+1) (P6.set ((nthI (bV signed ba) 0):Int).toNat (nthI ((nthI l (nthI (bV signed ba) 0)).Needs) ((((((nthI l (nthI (bV signed ba) 0)).Needs.length)-i3):Nat):Int)-1))))else(bW.L3 l signed ba k rz3 (i3+1) P6))
def bW.L4(l:List Document)(signed:List Int)(ba:Int)(i2:Nat)(y2:Int)(kW:List Bool)(k:List Int->List Int):List Nat->Nat->List Int->List Int
 |[],i4,tr=>(k tr)
 |y4::rz4,i4,tr=>(bif((eP l ((bV signed ba).take (((i2:Int):Int)).toNat) kW (fR l (nthI ((nthI l y2).Needs) ((((((nthI l y2).Needs.length)-i4):Nat):Int)-1))) (nthI signed y2)).1 != 0)then(bW.L4 l signed ba i2 y2 kW k rz4 (i4+1) (tr.set (y2:Int).toNat (nthI ((nthI l y2).Needs) ((((((nthI l y2).Needs.length)-i4):Nat):Int)-1))))else(bW.L4 l signed ba i2 y2 kW k rz4 (i4+1) tr))
def bW.K2(kW:List Bool)(Ft:List Int):List Int:=Ft
def bW.L2(l:List Document)(signed:List Int)(ba:Int)(k:List Bool->List Int->List Int):List Int->Nat->List Bool->List Int->List Int
 |[],i2,kW,Ft=>(k kW Ft)
 |y2::rz2,i2,kW,Ft=>((bW.L4 l signed ba i2 y2 kW (λzg4_9=>(bW.L2 l signed ba k rz2 (i2+1) (kW.set (y2:Int).toNat (decide ((nthI zg4_9 y2)<0))) zg4_9))) (qH ((nthI l y2).Needs.length)) 0 Ft)
def bW.K1(l:List Document)(signed:List Int)(ba:Int)(mK:List Int):List Int:=((bW.L2 l signed ba (bW.K2)) (bV signed ba) 0 (List.replicate l.length false) mK)
def bW.L1(k:List Int->List Int):List Document->List Int->List Int
 |[],mK=>(k mK)
 |y1::rz1,mK=>(bW.L1  k rz1 (mK++[(-1)]))
def bW(l:List Document)(signed:List Int)(ba:Int):List Int:=((bW.L1 (bW.K1 l signed ba)) l ([]))
def jc.K1(l:List Document)(signed:List Int)(Bi:Int)(di:Int)(ll:List Bool):(Int×Int):=(bif((eP l (bV signed di) ll Bi di).1==4)then((eP l (bV signed di) ll Bi di).1,(nthI (bW l signed di) Bi))else((eP l (bV signed di) ll Bi di).1,(eP l (bV signed di) ll Bi di).2))
def jc.L1(l:List Document)(signed:List Int)(di:Int)(k:List Bool->(Int×Int)):List Document->Nat->List Bool->(Int×Int)
 |[],i1,ll=>(k ll)
 |y1::rz1,i1,ll=>(jc.L1 l signed di k rz1 (i1+1) (ll++[decide ((nthI (bW l signed di) (i1:Int))<0)]))
def jc(l:List Document)(signed:List Int)(Bi:Int)(di:Int):(Int×Int):=((jc.L1 l signed di (jc.K1 l signed Bi di)) l 0 ([]))
def fp.K1(mK:List Int):(List Int×Int):=(mK,0)
def fp.L1(l:List Document)(signed:List Int)(ba:Int)(k:List Int->(List Int×Int)):List Document->Nat->List Int->(List Int×Int)
 |[],i1,mK=>(k mK)
 |y1::rz1,i1,mK=>(bif((jc l signed (i1:Int) ba).1==0)then(fp.L1 l signed ba k rz1 (i1+1) (mK++[y1.No]))else(fp.L1 l signed ba k rz1 (i1+1) mK))
def fp(l:List Document)(signed:List Int)(ba:Int):(List Int×Int):=(bif((dL l) != 0)then([],(dL l))else(bif((!(eM l signed))||(!(lT ba)))then([],1)else((fp.L1 l signed ba (fp.K1)) l 0 ([]))))
def pQ(eE:Int):Bool:=(decide (0<=eE)&&decide (eE<16))
def fd.L2(u:List Use)(k:Bool):List Nat->Nat->Bool
 |[],i2=>(k)
 |y2::rz2,i2=>(bif((nthI u (i2:Int)).Doc==(nthI u 0).Doc)then false else(fd.L2 u k rz2 (i2+1)))
def fd.L3(u:List Use)(y1:Use)(k:Bool):List Nat->Nat->Bool
 |[],i3=>(k)
 |y3::rz3,i3=>(bif((nthI u (i3:Int)).Doc==y1.Doc)then false else(fd.L3 u y1 k rz3 (i3+1)))
def fd.K1  : Bool:=true
def fd.L1(u:List Use)(k:Bool):List Use->Nat->Bool
 |[],i1=>(k)
 |y1::rz1,i1=>(bif(((((!(fJ y1.Doc 0 4095))||(!(pQ y1.Kind)))||(!(fJ y1.Value 0 1099511627776)))||(!(gP y1.At)))||(!(gP y1.Known)))then false else((fd.L3 u y1 ((fd.L1 u k rz1 (i1+1)))) (qH i1) 0))
def fd(u:List Use):Bool:=((fd.L1 u (fd.K1)) u 0)
def nA(x:Budget)(il:Int)(known:Int):Bool:=(decide (x.At<=il)&&decide (x.Known<=known))
def jk.K1  : Bool:=true
def jk.L1(l:List Budget)(nO:Int)(ba:Int)(known:Int)(k:Bool):List Budget->Bool
 |[]=>(k)
 |y1::rz1=>(bif((((y1.Kind==(nthI l nO).Kind)&&(y1.Period==(nthI l nO).Period))&&(nA y1 ba known))&&(decide ((nthI l nO).At<y1.At)||((y1.At==(nthI l nO).At)&&decide ((nthI l nO).No<y1.No))))then false else(jk.L1 l nO ba known k rz1))
def jk(l:List Budget)(nO:Int)(ba:Int)(known:Int):Bool:=(bif((nthI l nO).Gone||(!(nA (nthI l nO) ba known)))then false else((jk.L1 l nO ba known (jk.K1)) l))
def eY.K1(mK:List Budget):List Budget:=mK
def eY.L1(l:List Budget)(DF:Int)(ba:Int)(known:Int)(k:List Budget->List Budget):List Budget->Nat->List Budget->List Budget
 |[],i1,mK=>(k mK)
 |y1::rz1,i1,mK=>(bif(((y1.Kind==(-1))||(y1.Kind==DF))&&(jk l (i1:Int) ba known))then(eY.L1 l DF ba known k rz1 (i1+1) (mK++[y1]))else(eY.L1 l DF ba known k rz1 (i1+1) mK))
def eY(l:List Budget)(DF:Int)(ba:Int)(known:Int):List Budget:=((eY.L1 l DF ba known (eY.K1)) l 0 ([]))
def lx.K1(x:Budget)(ll:Int)(nX:Int):Bool:=(decide (x.Count<=ll)||decide (x.Value<nX))
def lx.L1(x:Budget)(di:Int)(known:Int)(k:Int->Int->Bool):List Use->Int->Int->Bool
 |[],ll,nX=>(k ll nX)
 |y1::rz1,ll,nX=>(bif((decide (y1.Known<=known)&&((x.Kind==(-1))||(x.Kind==y1.Kind)))&&((jC .i64 (y1.At.tdiv x.Period))==(jC .i64 (di.tdiv x.Period))))then(lx.L1 x di known k rz1 (jC .i64 (ll+1)) (jC .i64 (nX+y1.Value)))else(lx.L1 x di known k rz1 ll nX))
def lx(x:Budget)(u:List Use)(value:Int)(di:Int)(known:Int):Bool:=((lx.L1 x di known (lx.K1 x)) u 0 value)
def gr.K1  : (Int×Bool×Int):=((-1),true,0)
def gr.L1(u:List Use)(value:Int)(cD:Int)(known:Int)(k:(Int×Bool×Int)):List Budget->(Int×Bool×Int)
 |[]=>(k)
 |y1::rz1=>(bif(lx y1 u value cD known)then(y1.No,false,0)else(gr.L1 u value cD known k rz1))
def gr(l:List Budget)(u:List Use)(IC:Int)(value:Int)(cD:Int)(known:Int):(Int×Bool×Int):=(bif((fE l) != 0)then(0,false,(fE l))else(bif(decide (4096<(u.length:Int)))then(0,false,2)else(bif(!(fd u))then(0,false,180)else(bif((((!(pQ IC))||(!(fJ value 0 1099511627776)))||(!(gP cD)))||(!(gP known)))then(0,false,1)else((gr.L1 u value cD known (gr.K1)) (eY l IC cD known))))))
def oD(bN:Register)(signed:List Int)(u:List Use)(doc:Int)(cD:Int)(known:Int):Int:=(bif((lk bN) != 0)then 300 else(bif((fp bN.Docs signed 0).2 != 0)then(fp bN.Docs signed 0).2 else(bif((gr bN.Budgets u 0 0 0 0).2.2 != 0)then(gr bN.Budgets u 0 0 0 0).2.2 else(bif((decide ((fo bN doc)<0)||(!(mC cD)))||(!(mC known)))then 1 else 0))))
def lg(x:Approval)(il:Int)(known:Int):Bool:=(decide (x.At<=il)&&decide (x.Known<=known))
def qt(x:Approval)(y:Approval):Bool:=((((x.Doc==y.Doc)&&(x.By==y.By))&&(x.For==y.For))&&(x.Office==y.Office))
def tD(x:Approval)(y:Approval):Bool:=(decide (y.At<x.At)||((x.At==y.At)&&decide (y.No<x.No)))
def iC.K1  : Bool:=true
def iC.L1(x:Approval)(ba:Int)(known:Int)(k:Bool):List Approval->Bool
 |[]=>(k)
 |y1::rz1=>(bif(((lg y1 ba known)&&(qt y1 x))&&(tD y1 x))then false else(iC.L1 x ba known k rz1))
def iC(l:List Approval)(x:Approval)(ba:Int)(known:Int):Bool:=(bif(x.Gone||(!(lg x ba known)))then false else((iC.L1 x ba known (iC.K1)) l))
def rwPut(l:List rn)(x:rn):List rn:=bif l.any (λw=>w.To==x.To)then l else l++[x]
def nz.K1  : Bool:=true
def nz.L1(who:List Int)(k:Bool):List Int->Nat->Bool
 |[],i1=>(k)
 |y1::rz1,i1=>(bif((decide (y1<0)||decide (64<=y1))||(decide (0<(i1:Int))&&decide (y1<=(nthI who ((i1:Int)-1)))))then false else(nz.L1 who k rz1 (i1+1)))
def nz(who:List Int):Bool:=((nz.L1 who (nz.K1)) who 0)
def ki(bN:Register)(signed:List Int)(u:List Use)(doc:Int)(cD:Int)(known:Int):Bool:=((((lF bN)&&decide ((signed.length:Int)<=40))&&decide ((u.length:Int)<=30))&&((oD bN signed u doc cD known)==0))
def lM.K1  : (Policy×Bool):=((kN (⟨#[]⟩:ByteArray) ([]) ([]) ([]) (vG 0 0 0 (⟨#[]⟩:ByteArray) ([])) 0),false)
def lM.L1(no:Int)(k:(Policy×Bool)):List Version->(Policy×Bool)
 |[]=>(k)
 |y1::rz1=>(bif(y1.No==no)then(y1.Policy,true)else(lM.L1 no k rz1))
def lM(bN:Register)(no:Int):(Policy×Bool):=((lM.L1 no (lM.K1)) bN.Versions)
def ip(a:Approval)(no:Int):Int:=(cmp_Compare_int a.No no)
def bY(l:List Approval)(x:Approval):List Approval×Int:=bif aX l != 0 then([],aX l)else bif !(fC x)then([],280)else bif l.any (λy=>y.No==x.No)then([],151)else bif(l.length:Int)==4096 then([],2)else(l.takeWhile (λy=>decide (y.No<x.No))++x::l.dropWhile (λy=>decide (y.No<x.No)),0)
def cz.K3(bN:Register)(signed:List Int)(u:List Use)(doc:Int)(cD:Int)(known:Int)(x:Approval):Bool:=(gf (((bJ bN signed u doc cD known).1).Versions) (((bJ (zK bN.Appoints bN.Deputies bN.Interests bN.Budgets bN.Versions bN.Docs ((bY bN.Approvals x).1)) signed u doc cD known).1).Versions))
def cz.L3(nD:List (Int×Bool))(k:Bool):List Int->Bool
 |[]=>(k)
 |y3::rz3=>(bif(!(mgetD nD y3 false))then false else(cz.L3 nD k rz3))
def cz.K2(bN:Register)(signed:List Int)(u:List Use)(doc:Int)(cD:Int)(known:Int)(x:Approval)(nD:List (Int×Bool)):Bool:=((cz.L3 nD (cz.K3 bN signed u doc cD known x)) (((bJ bN signed u doc cD known).1).Who))
def cz.L2(k:(List (Int×Bool))->Bool):List Int->(List (Int×Bool))->Bool
 |[],nD=>(k nD)
 |y2::rz2,nD=>(cz.L2  k rz2 (mput nD y2 true))
def cz.K1(bN:Register)(signed:List Int)(u:List Use)(doc:Int)(cD:Int)(known:Int)(x:Approval):Bool:=(bif((bY bN.Approvals x).2 != 0)then true else(bif(((((bJ bN signed u doc cD known).2 != 0)||((bJ (zK bN.Appoints bN.Deputies bN.Interests bN.Budgets bN.Versions bN.Docs ((bY bN.Approvals x).1)) signed u doc cD known).2 != 0))||((((bJ bN signed u doc cD known).1).State==0)&&(((bJ (zK bN.Appoints bN.Deputies bN.Interests bN.Budgets bN.Versions bN.Docs ((bY bN.Approvals x).1)) signed u doc cD known).1).State != 0)))||((((bJ bN signed u doc cD known).1).State==4)&&(((bJ (zK bN.Appoints bN.Deputies bN.Interests bN.Budgets bN.Versions bN.Docs ((bY bN.Approvals x).1)) signed u doc cD known).1).State != 4)))then false else((cz.L2 (cz.K2 bN signed u doc cD known x)) (((bJ (zK bN.Appoints bN.Deputies bN.Interests bN.Budgets bN.Versions bN.Docs ((bY bN.Approvals x).1)) signed u doc cD known).1).Who) ([]))))
def cz.L1(x:Approval)(k:Bool):List Approval->Bool
 |[]=>(k)
 |y1::rz1=>(bif((((y1.Doc==x.Doc)&&(y1.By==x.By))&&(y1.For==x.For))&&(y1.Office==x.Office))then true else(cz.L1 x k rz1))
def cz(bN:Register)(signed:List Int)(u:List Use)(doc:Int)(cD:Int)(known:Int)(x:Approval):Bool:=(bif(!vl)then false else(bif((!(ki bN signed u doc cD known))||x.Gone)then true else((cz.L1 x (cz.K1 bN signed u doc cD known x)) bN.Approvals)))
theorem wrap64{z:Int}(h:-9223372036854775808<=z/\z<=9223372036854775807):IntKind.i64.wrap z=z:=by
 have:=jh h;injection this
theorem Expr.eta(x:Expr):vG x.Kind x.N x.No x.Name x.L=x:=by cases x;rfl
theorem Expr.ind{P:Expr->Prop}(h:∀x,(∀y∈x.L,P y)->P x)(x:Expr):P x:=by
 have key:∀n(x:Expr),x.dep<=n->P x:=by
  intro n
  induction n with
  |zero=>intro x hx;have:=Th x;omega
  |succ n ih=>intro x hx;exact h x λy hy=>ih y (by have:=R3 hy;omega)
 exact key _ x (jG _)
theorem Jt(k:List gq):∀l,aH.L3 k l=l++k
 |[]=>rfl
 |y::l=>by simp[aH.L3,Jt k l]
theorem Ju(rec:Expr->Int->List gq)(d:Int):∀l,aH.L1 rec d [] l=l.flatMap (λy=>rec y (d+1))
 |[]=>rfl
 |y::l=>by simp[aH.L1,Jt,Ju rec d l]
theorem H9(rec:Expr->Int->List gq)(x:Expr)(d:Int):aH.F rec x d=⟨x,d⟩::x.L.flatMap (λy=>rec y (d+1)):=by
 simp[aH.F,aH.K1,Ju,Expr.eta]
theorem Ao{α β : Type}{f g:α->List β}:∀{l:List α},(∀y∈l,f y=g y)->l.flatMap f=l.flatMap g
 |[],_=>rfl
 |y::l,h=>by
  rw[List.flatMap_cons,List.flatMap_cons,h y (jB ..),Ao λz hz=>h z (xB _ hz)]
theorem Js(m:Nat):∀(x:Expr)(d:Int),x.dep<=m->aH.go m x d=bj x d:=by
 induction m using Nat.strongRecOn with
 |_ m ih=>
  intro x d hx
  unfold bj
  have hp:=Th x
  obtain⟨m',rfl⟩:∃m',m=m'+1:=⟨m-1,by omega⟩
  obtain⟨n,hn⟩:∃n,x.dep=n+1:=⟨x.dep-1,by omega⟩
  rw[hn]
  show aH.F (aH.go m') x d=aH.F (aH.go n) x d
  rw[H9,H9]
  congr 1
  refine Ao λy hy=>?_
  have:=R3 hy
  rw[ih m' (by omega) y _ (by omega),ih n (by omega) y _ (by omega)]
theorem nh(x:Expr)(d:Int):bj x d=⟨x,d⟩::x.L.flatMap (λy=>bj y (d+1)):=by
 have hp:=Th x
 obtain⟨n,hn⟩:∃n,x.dep=n+1:=⟨x.dep-1,by omega⟩
 rw[←Js x.dep x d (jG _),hn]
 show aH.F (aH.go n) x d=_
 rw[H9]
 congr 1
 exact Ao λy hy=>Js n y _ (by have:=R3 hy;omega)
theorem Hk(Q:Expr->Prop)(x:Expr):∀d d',(∀z∈bj x d,Q z.x)->∀z∈bj x d',Q z.x:=by
 refine Expr.ind (P:=λx=>∀d d',(∀z∈bj x d,Q z.x)->∀z∈bj x d',Q z.x) ?_ x
 intro x ih d d' h z hz
 rw[nh]at h hz
 rcases qC.1 hz with rfl|hz
 .exact h ⟨x,d⟩ (jB ..)
 .obtain⟨y,hy,hz⟩:=List.mem_flatMap.1 hz
  exact ih y hy (d+1) (d'+1) (λz' hz'=>h z' (xB _ (List.mem_flatMap.2 ⟨y,hy,hz'⟩))) z hz
theorem qf(Q:Expr->Prop)(x:Expr)(d:Int):(∀z∈bj x d,Q z.x)↔Q x/\∀y∈x.L,∀z∈bj y d,Q z.x:=by
 constructor
 .intro h
  rw[nh]at h
  exact⟨h ⟨x,d⟩ (jB ..),λy hy=>Hk Q y (d+1) d λz hz=>h z (xB _ (List.mem_flatMap.2 ⟨y,hy,hz⟩))⟩
 .rintro⟨h1,h2⟩ z hz
  rw[nh]at hz
  rcases qC.1 hz with rfl|hz
  .exact h1
  .obtain⟨y,hy,hz⟩:=List.mem_flatMap.1 hz
   exact Hk Q y d (d+1) (h2 y hy) z hz
def NZ(x:Except Int Unit):Prop:=∀e,x=.error e->e≠0
theorem NZ.ok:NZ (.ok ()):=λ_ h=>by cases h
theorem NZ.must(he:e≠0):NZ (eW c e):=λe' h=>by
 cases c with
 |true=>simp[eW]at h
 |false=>simp[eW]at h;omega
theorem NZ.exi{x:Except Int Unit}(hx:NZ x)(hf:NZ (f ())):NZ (Sg.exi x f):=by
 cases x with
 |ok u=>exact hf
 |error e=>exact λe' h=>hx e' h
theorem HD{x:Except Int Unit}(h:NZ x):attR x=0↔x=.ok ():=by
 cases x with
 |ok u=>simp[attR]
 |error e=>simp only[attR,reduceCtorEq,iff_false];exact h e rfl
theorem qg:exi (eW c e) f=.ok ()↔c=true/\f ()=.ok ():=by
 cases c<;>simp[eW,exi]
theorem Kf(p:Policy):∀(l:List Rule)(g:List Expr),aw.L1 (aw.K1 p) l g=g++(l.map (·.Expr)++[p.Change])
 |[],g=>by simp[aw.L1,aw.K1]
 |y::l,g=>by simp[aw.L1,Kf p l]
theorem mM(p:Policy):aw p=p.Rules.map (·.Expr)++[p.Change]:=by
 unfold aw;rw[Kf];simp
theorem I5(k:Int->Except Int Unit)(hk:∀a b,k a=k b):∀(l:List gq)(g:Int),0<=g->g<=256->(cq.L3 k l g=.ok ()↔(g+l.length<=256/\∀z∈l,z.depth<=16)/\k 0=.ok ())
 |[],g,h0,h1=>by simp only[cq.L3,hk g 0,vB,kA];simp;omega
 |y::l,g,h0,h1=>by
  simp only[cq.L3,qg,zB,decide_eq_true_eq,wrap64 (z:=g+1) (by omega),xA,qC]
  by_cases h:g+1<=256
  .rw[I5 k hk l (g+1) (by omega) h]
   constructor
   .rintro⟨⟨_,h3⟩,⟨h4,h5⟩,h6⟩
    refine⟨⟨by omega,λz hz=>?_⟩,h6⟩
    rcases hz with rfl|hz
    .exact h3
    .exact h5 z hz
   .rintro⟨⟨h4,h5⟩,h6⟩
    exact⟨⟨h,h5 y (.inl rfl)⟩,⟨by omega,λz hz=>h5 z (.inr hz)⟩,h6⟩
  .constructor
   .rintro⟨⟨h3,_⟩,_⟩;exact absurd h3 h
   .rintro⟨⟨h4,_⟩,_⟩;omega
theorem I6:∀(l:List Expr),cq.L1 (.ok ()) l=.ok ()↔∀x∈l,(bj x 1).length<=256/\∀z∈bj x 1,z.depth<=16
 |[]=>by simp[cq.L1]
 |y::l=>by
  simp only[cq.L1]
  rw[I5 _ (λ_ _=>rfl) _ 0 (by omega) (by omega),I6 l]
  simp only[qC,forall_eq_or_imp]
  constructor
  .rintro⟨⟨a,b⟩,c⟩;exact⟨⟨by omega,b⟩,c⟩
  .rintro⟨⟨a,b⟩,c⟩;exact⟨⟨by omega,b⟩,c⟩
theorem AI(p:Policy):cq p=.ok ()↔(p.Offices.length<=32/\p.Kinds.length<=16/\p.Rules.length<=16)/\∀x∈aw p,(bj x 1).length<=256/\∀z∈bj x 1,z.depth<=16:=by
 unfold cq cq.K1
 rw[qg,I6]
 simp only[zB,decide_eq_true_eq]
 constructor
 .rintro⟨⟨⟨a,b⟩,c⟩,d⟩;exact⟨⟨by omega,by omega,by omega⟩,d⟩
 .rintro⟨⟨a,b,c⟩,d⟩;exact⟨⟨⟨by omega,by omega⟩,by omega⟩,d⟩
theorem N3(p:Policy):NZ (cq p):=by
 have h3:∀(k:Int->Except Int Unit),(∀a,NZ (k a))->∀l g,NZ (cq.L3 k l g):=by
  intro k hk l
  induction l with
  |nil=>exact λg=>hk g
  |cons y l ih=>exact λg=>NZ.exi (NZ.must (by omega)) (ih _)
 have h1:∀l,NZ (cq.L1 (.ok ()) l):=by
  intro l
  induction l with
  |nil=>exact NZ.ok
  |cons y l ih=>exact h3 _ (λ_=>ih) _ _
 exact NZ.exi (NZ.must (by omega)) (h1 _)
theorem Jz(p:Policy)(k:Except Int Unit):∀l,ct.L3 p k l=.ok ()↔(∀z∈l,((!(dk z.x))||da p.Offices z.x.Name)=true)/\k=.ok ()
 |[]=>by simp[ct.L3]
 |y::l=>by simp only[ct.L3,qg,Jz p k l,qC,forall_eq_or_imp,and_assoc]
theorem JA(p:Policy):∀l,ct.L1 p (.ok ()) l=.ok ()↔∀x∈l,∀z∈bj x 1,((!(dk z.x))||da p.Offices z.x.Name)=true
 |[]=>by simp[ct.L1]
 |y::l=>by simp only[ct.L1,Jz,JA p l,qC,forall_eq_or_imp]
theorem E0(p:Policy):ct p=.ok ()↔(dN p.Name=true/\bD p.Offices dN=true/\bD p.Kinds dN=true)/\∀x∈aw p,∀z∈bj x 1,((!(dk z.x))||da p.Offices z.x.Name)=true:=by
 unfold ct ct.K1
 rw[qg,JA]
 simp only[zB,and_assoc]
theorem Oy(p:Policy):NZ (ct p):=by
 have h3:∀(k:Except Int Unit),NZ k->∀l,NZ (ct.L3 p k l):=by
  intro k hk l
  induction l with
  |nil=>exact hk
  |cons y l ih=>exact NZ.exi (NZ.must (by omega)) ih
 have h1:∀l,NZ (ct.L1 p (.ok ()) l):=by
  intro l
  induction l with
  |nil=>exact NZ.ok
  |cons y l ih=>exact h3 _ ih _
 exact NZ.exi (NZ.must (by omega)) (h1 _)
theorem Mo(p:Policy)(i:Nat)(k:Except Int Unit):∀l,bq.L4 p i k l=.ok ()↔(∀z∈l,(aK z.x.Kind 1 4&&kindsP z.x.Kind z.x)=true/\(decide ((i:Int)<IntKind.i64.wrap (((aw p).length:Int)-1))||(z.x.Kind != 4))=true)/\k=.ok ()
 |[]=>by simp[bq.L4]
 |y::l=>by simp only[bq.L4,qg,Mo p i k l,qC,forall_eq_or_imp,and_assoc]
theorem D2(p:Policy):∀l i,bq.L2 p (.ok ()) l i=.ok ()↔∀j x,l[j]? = some x->∀z∈bj x 1,(aK z.x.Kind 1 4&&kindsP z.x.Kind z.x)=true/\(decide (((i+j:Nat):Int)<IntKind.i64.wrap (((aw p).length:Int)-1))||(z.x.Kind != 4))=true
 |[],i=>by simp[bq.L2]
 |y::l,i=>by
  simp only[bq.L2]
  rw[Mo,D2 p l (i+1)]
  constructor
  .rintro⟨h1,h2⟩ j x hj z hz
   cases j with
   |zero=>simp at hj;subst hj;exact h1 z hz
   |succ j=>have:=h2 j x (by simpa using hj) z hz;rw[show i+(j+1)=i+1+j from by omega];exact this
  .intro h
   refine⟨λz hz=>h 0 y rfl z hz,λj x hj z hz=>?_⟩
   have:=h (j+1) x (by simpa using hj) z hz
   rw[show i+(j+1)=i+1+j from by omega]at this;exact this
theorem Bu(p:Policy)(k:Except Int Unit):∀l i,bq.L1 p k l i=.ok ()↔(∀j r,l[j]? = some r->((r.Kind.toList==(nthI p.Kinds (((i+j:Nat):Int))).toList)&&aK r.Think 0 1099511627775)=true)/\k=.ok ()
 |[],i=>by simp[bq.L1]
 |y::l,i=>by
  simp only[bq.L1]
  rw[qg,Bu p k l (i+1)]
  constructor
  .rintro⟨h1,h2,h3⟩
   refine⟨λj r hj=>?_,h3⟩
   cases j with
   |zero=>simp at hj;subst hj;exact h1
   |succ j=>have:=h2 j r (by simpa using hj);rw[show i+(j+1)=i+1+j from by omega];exact this
  .rintro⟨h,h3⟩
   refine⟨h 0 y rfl,λj r hj=>?_,h3⟩
   have:=h (j+1) r (by simpa using hj)
   rw[show i+(j+1)=i+1+j from by omega]at this;exact this
theorem P8(p:Policy):NZ (bq p):=by
 have h4:∀i(k:Except Int Unit),NZ k->∀l,NZ (bq.L4 p i k l):=by
  intro i k hk l
  induction l with
  |nil=>exact hk
  |cons y l ih=>exact NZ.exi (NZ.must (by omega)) (NZ.exi (NZ.must (by omega)) ih)
 have h2:∀l i,NZ (bq.L2 p (.ok ()) l i):=by
  intro l
  induction l with
  |nil=>exact λ_=>NZ.ok
  |cons y l ih=>exact λi=>h4 i _ (ih _) _
 have h1:∀l i,NZ (bq.L1 p (bq.K1 p) l i):=by
  intro l
  induction l with
  |nil=>exact λ_=>h2 _ _
  |cons y l ih=>exact λi=>NZ.exi (NZ.must (by omega)) (ih _)
 exact NZ.exi (NZ.must (by omega)) (h1 _ _)
theorem CR(p:Policy):NZ (dy p):=
 NZ.exi (N3 p) (NZ.exi (Oy p) (NZ.exi (P8 p) NZ.ok))
theorem Ap{x:Except Int Unit}:exi x f=.ok ()↔x=.ok ()/\f ()=.ok ():=by
 cases x with
 |ok u=>simp[exi]
 |error e=>simp[exi]
theorem tA(p:Policy):dy p=.ok ()↔cq p=.ok ()/\ct p=.ok ()/\bq p=.ok ():=by
 unfold dy
 rw[Ap,Ap,Ap]
 simp
theorem Jl(p:Policy):(eh p).2=attR (dy p):=by
 have hL:∀l i g,(eh.L1 p (eh.K1 p) l i g).2=0:=by
  intro l
  induction l with
  |nil=>exact λ_ _=>rfl
  |cons y l ih=>exact λi g=>ih _ _
 unfold eh
 by_cases h:attR (dy p)=0
 .simp[h,hL]
 .rw[show(attR (dy p) != 0)=true from by simpa using h];rfl
theorem Kt(p:Policy)(k:Int):∀l i,cQ.L1 p k l i=0↔(∀j r,l[j]? = some r->r.KindNo=((i+j:Nat):Int)/\bO p.Offices r.Expr=true)/\k=0
 |[],i=>by simp[cQ.L1]
 |y::l,i=>by
  simp only[cQ.L1,Bool.cond_eq_ite]
  split
  .next h=>
   simp only[xD,bne_iff_ne,qE]at h
   constructor
   .intro h';omega
   .rintro⟨h1,_⟩
    have:=h1 0 y rfl
    simp only[Nat.add_zero]at this
    rcases h with h|h
    .exact absurd this.1 h
    .rw[this.2]at h;cases h
  .next h=>
   simp only[xD,bne_iff_ne,qE,not_or,Decidable.not_not,Bool.not_eq_false]at h
   rw[Kt p k l (i+1)]
   constructor
   .rintro⟨h1,h2⟩
    refine⟨λj r hj=>?_,h2⟩
    cases j with
    |zero=>simp at hj;subst hj;exact h
    |succ j=>have:=h1 j r (by simpa using hj);rw[show i+(j+1)=i+1+j from by omega];exact this
   .rintro⟨h1,h2⟩
    refine⟨λj r hj=>?_,h2⟩
    have:=h1 (j+1) r (by simpa using hj)
    rw[show i+(j+1)=i+1+j from by omega]at this;exact this
theorem BI(p:Policy):cQ p=0↔dy p=.ok ()/\(∀(j:Nat)r,p.Rules[j]? = some r->r.KindNo=(j:Int)/\bO p.Offices r.Expr=true)/\bO p.Offices p.Change=true:=by
 unfold cQ
 rw[Jl]
 by_cases h:attR (dy p)=0
 .have h2:=(HD (CR p)).1 h
  have hk:cQ.K1 p=0↔bO p.Offices p.Change=true:=by
   unfold cQ.K1
   cases bO p.Offices p.Change<;>simp
  rw[show(attR (dy p) != 0)=false from by simpa using h,cond_false,Kt,hk]
  simp only[Nat.zero_add,h2,true_and]
 .have h2:¬dy p=.ok ():=λe=>h ((HD (CR p)).2 e)
  rw[show(attR (dy p) != 0)=true from by simpa using h,cond_true]
  simp[h,h2]
theorem Pl{x:Bool}:(bif c then false else x)=true↔c=false/\x=true:=by cases c<;>simp
theorem qs(off:List ByteArray):∀l,bO.L1 off true l=true↔∀z∈l,z.x.No=(bif dk z.x then aP off z.x.Name else 0)
 |[]=>by simp[bO.L1]
 |y::l=>by
  simp only[bO.L1,qC,forall_eq_or_imp]
  cases dk y.x with
  |true=>
   rw[cond_true,cond_true,Pl,qs off l];simp
  |false=>
   rw[cond_false,cond_false,Pl,qs off l];simp
theorem JV(v:ByteArray):∀(l:List ByteArray)(i:Nat),aP.L1 v (-1) l i=-1\/((i:Int)<=aP.L1 v (-1) l i/\aP.L1 v (-1) l i<((i+l.length:Nat):Int))
 |[],i=>.inl rfl
 |y::l,i=>by
  simp only[aP.L1,Bool.cond_eq_ite,xA]
  split
  .right;omega
  .rcases JV v l (i+1)with h|h
   .exact .inl h
   .right;omega
theorem OC(l:List ByteArray)(v:ByteArray):aP l v<(l.length:Int):=by
 have:=JV v l 0
 unfold aP aP.K1
 omega
theorem yz{p:Policy}(hc:cQ p=0):p.Rules.length=p.Kinds.length/\p.Offices.length<=32/\(∀x∈aw p,OkX (p.Offices.length:Int) x):=by
 obtain⟨h1,h2,h3⟩:=(BI p).1 hc
 obtain⟨hs,hn,hf⟩:=(tA p).1 h1
 have hf':=hf
 unfold bq at hf
 rw[qg,Bu]at hf
 simp only[zB,decide_eq_true_eq,beq_iff_eq]at hf
 obtain⟨⟨⟨_,hlen⟩,hmode⟩,hrules,hK⟩:=hf
 unfold bq.K1 bq.K2 at hK
 rw[D2]at hK
 obtain⟨⟨ho,_,_⟩,_⟩:=(AI p).1 hs
 obtain⟨_,hnm⟩:=(E0 p).1 hn
 refine⟨by omega,ho,λx hx=>?_⟩
 have hres:∀z∈bj x 1,z.x.No=(bif dk z.x then aP p.Offices z.x.Name else 0):=by
  have hr:bO p.Offices x=true:=by
   rw[mM]at hx
   rcases kF.1 hx with hx|hx
   .obtain⟨r,hr,rfl⟩:=kM.1 hx
    obtain⟨j,hj⟩:=Tn hr
    exact(h2 j r hj).2
   .rw[xC.1 hx];exact h3
  unfold bO bO.K1 at hr
  exact(qs _ _).1 hr
 obtain⟨j,hj⟩:=Tn hx
 have hfm:=λz hz=>(hK j x hj z hz).1
 have hnx:=hnm x hx
 clear hK hnm hj
 let Q:Expr->Prop:=λx=>(1<=x.Kind/\x.Kind<=4)/\(x.Kind<=2->0<=x.No/\x.No<(p.Offices.length:Int))/\(x.Kind=4->x.L.length=2)
 have all:∀z∈bj x 1,(λx:Expr=>(1<=x.Kind/\x.Kind<=4)/\(x.Kind<=2->0<=x.No/\x.No<(p.Offices.length:Int))/\(x.Kind=4->x.L.length=2)) z.x:=by
  intro z hz
  have a:=hfm z hz
  have b:=hnx z hz
  have c:=hres z hz
  simp only[zB,aK,decide_eq_true_eq]at a
  refine⟨a.1,λhk=>?_,λhk=>?_⟩
  .have hnamed:dk z.x=true:=by
    have:z.x.Kind=1\/z.x.Kind=2:=by omega
    rcases this with e|e<;>simp[dk,e]
   simp only[hnamed,Bool.not_true,Bool.false_or,cond_true]at b c
   have hge:0<=aP p.Offices z.x.Name:=by
    have h9:=b
    simp only[da,decide_eq_true_eq,ge_iff_le]at h9
    exact h9
   have:=OC p.Offices z.x.Name
   omega
  .have h9:=a.2
   rw[hk]at h9
   simp only[kindsP]at h9
   simp[jd]at h9
   omega
 clear hfm hnx hres hx
 revert all
 refine Expr.ind (P:=λx=>(∀z∈bj x 1,Q z.x)->OkX (p.Offices.length:Int) x) ?_ x
 intro x ih all
 rw[qf Q]at all
 obtain⟨⟨a,b,c⟩,d⟩:=all
 exact OkX.mk x a b c λy hy=>ih y hy (d y hy)
theorem FU{p:Policy}(hc:cQ p=0):(1<=p.Mode/\p.Mode<=4)/\p.Rules.length<=16/\∀r∈p.Rules,0<=r.Think/\r.Think<=1099511627775:=by
 obtain⟨h1,_,_⟩:=(BI p).1 hc
 obtain⟨hs,_,hf⟩:=(tA p).1 h1
 unfold bq at hf
 rw[qg,Bu]at hf
 simp only[zB,aK,decide_eq_true_eq]at hf
 obtain⟨⟨⟨_,_⟩,hmode⟩,hrules,_⟩:=hf
 obtain⟨⟨_,_,hr⟩,_⟩:=(AI p).1 hs
 refine⟨hmode,hr,λr hr=>?_⟩
 obtain⟨j,hj⟩:=Tn hr
 exact(hrules j r hj).2
theorem FI{p:Policy}{r:Rule}(h:r∈p.Rules):r.Expr∈aw p:=by
 rw[mM];exact List.mem_append_left _ (List.mem_map_of_mem h)
theorem Hj:∀(l:List Int)(g:Int),el.L1 el.K1 l g=true↔(∀x∈l,g<x/\x<64)/\l.Pairwise (·<·)
 |[],g=>by simp[el.L1,el.K1]
 |y::l,g=>by
  simp only[el.L1,Bool.cond_eq_ite,xD,decide_eq_true_eq]
  split
  .next h=>
   constructor
   .intro h';cases h'
   .rintro⟨h1,_⟩;have:=h1 y (jB ..);omega
  .next h=>
   rw[Hj l y,List.pairwise_cons]
   simp only[qC,forall_eq_or_imp]
   constructor
   .rintro⟨h1,h2⟩
    exact⟨⟨by omega,λx hx=>by have:=h1 x hx;omega⟩,λx hx=>(h1 x hx).1,h2⟩
   .rintro⟨⟨h1,h2⟩,h3,h4⟩
    exact⟨λx hx=>⟨h3 x hx,(h2 x hx).2⟩,h4⟩
theorem Hi(l:List Int):el l=true↔(∀x∈l,0<=x/\x<64)/\l.Pairwise (·<·):=by
 unfold el
 rw[Hj]
 constructor
 .rintro⟨h1,h2⟩;exact⟨λx hx=>by have:=h1 x hx;omega,h2⟩
 .rintro⟨h1,h2⟩;exact⟨λx hx=>by have:=h1 x hx;omega,h2⟩
theorem Gq{l:List Int}(h:el l=true):l.Pairwise (·<=·):=((Hi l).1 h).2.imp (λh=>Int.le_of_lt h)
theorem MW(h:dI hs n=true):(hs.length:Int)=n:=by
 have h3:∀(k:List Int->Bool)(l:List Holder)(g:List Int),dI.L3 k l g=true->∃g',k g'=true:=by
  intro k l
  induction l with
  |nil=>exact λg h=>⟨g,h⟩
  |cons y l ih=>
   intro g h
   simp only[dI.L3,Bool.cond_eq_ite]at h
   split at h
   .cases h
   .exact ih _ h
 have h1:∀(k:Bool)(l:List (List Holder)),dI.L1 k l=true->k=true:=by
  intro k l
  induction l with
  |nil=>exact λh=>h
  |cons y l ih=>
   intro h
   obtain⟨g',hg⟩:=h3 _ _ _ h
   simp only[Bool.cond_eq_ite]at hg
   split at hg
   .cases hg
   .exact ih hg
 have:=h1 _ _ h
 simpa[dI.K1]using this
theorem Dn:∀(l:List Version)(g:Int),-1<=g->g<=1048576->(bF.L1 bF.K1 l g=0 ↔
  (∀v∈l,(0<=v.At/\v.At<=1099511627775)/\(0<=v.Known/\v.Known<=1099511627775)/\v.No<=1048576/\cQ v.Policy=0)/\(∀v∈l,g<v.No)/\l.Pairwise (λa b=>a.No<b.No))
 |[],g,_,_=>by simp[bF.L1,bF.K1]
 |y::l,g,h0,h1=>by
  simp only[bF.L1,wrap64 (z:=g+1) (by omega),aK]
  by_cases hy:((0<=y.At/\y.At<=1099511627775)/\(0<=y.Known/\y.Known<=1099511627775)/\y.No<=1048576/\cQ y.Policy=0)/\g<y.No
  .obtain⟨⟨⟨a,a'⟩,⟨b,b'⟩,c,d⟩,e⟩:=hy
   have hc:(!(decide (g+1<=y.No)&&decide (y.No<=1048576))||!(decide (0<=y.At)&&decide (y.At<=1099511627775))||!(decide (0<=y.Known)&&decide (y.Known<=1099511627775))||cQ y.Policy != 0)=false:=by
    simp[a,a',b,b',c,d];omega
   rw[hc,cond_false,Dn l y.No (by omega) c,List.pairwise_cons]
   simp only[qC,forall_eq_or_imp]
   constructor
   .rintro⟨h2,h3,h4⟩
    exact⟨⟨⟨⟨a,a'⟩,⟨b,b'⟩,c,d⟩,h2⟩,⟨e,λv hv=>by have:=h3 v hv;omega⟩,h3,h4⟩
   .rintro⟨⟨_,h2⟩,_,h3,h4⟩;exact⟨h2,h3,h4⟩
  .have hc:(!(decide (g+1<=y.No)&&decide (y.No<=1048576))||!(decide (0<=y.At)&&decide (y.At<=1099511627775))||!(decide (0<=y.Known)&&decide (y.Known<=1099511627775))||cQ y.Policy != 0)=true:=by
    apply Classical.byContradiction
    intro hn
    apply hy
    simp only[Bool.not_eq_true,Bool.or_eq_false_iff,Bool.not_eq_false',zB,decide_eq_true_eq,bne_eq_false_iff_eq]at hn
    obtain⟨⟨⟨a,b⟩,c⟩,d⟩:=hn
    exact⟨⟨b,c,a.2,d⟩,by omega⟩
   rw[hc,cond_true]
   constructor
   .intro h;omega
   .rintro⟨h2,h3,_⟩
    exact absurd ⟨h2 y (jB ..),h3 y (jB ..)⟩ hy
structure HK(l:List Version):Prop where
 len:l.length<=256
 each:∀v∈l,(0<=v.At/\v.At<=1099511627775)/\(0<=v.Known/\v.Known<=1099511627775)/\(0<=v.No/\v.No<=1048576)/\cQ v.Policy=0
 inc:l.Pairwise (λa b=>a.No<b.No)
theorem rl(l:List Version):bF l=0↔HK l:=by
 unfold bF
 by_cases hl:l.length<=256
 .rw[show decide (256<(l.length:Int))=false from decide_eq_false (by omega),cond_false,Dn l (-1) (by omega) (by omega)]
  constructor
  .rintro⟨h1,h2,h3⟩;exact⟨hl,λv hv=>by have a:=h1 v hv;have b:=h2 v hv;exact⟨a.1,a.2.1,⟨by omega,a.2.2.1⟩,a.2.2.2⟩,h3⟩
  .rintro⟨_,h1,h3⟩;exact⟨λv hv=>by have:=h1 v hv;exact⟨this.1,this.2.1,by omega,this.2.2.2⟩,λv hv=>by have:=h1 v hv;omega,h3⟩
 .rw[show decide (256<(l.length:Int))=true from decide_eq_true (by omega),cond_true]
  exact⟨λh=>by omega,λh=>absurd h.len hl⟩
theorem HK.mode{l:List Version}(g:HK l){v:Version}(hv:v∈l):1<=v.Policy.Mode/\v.Policy.Mode<=4:=(FU (g.each v hv).2.2.2).1
theorem uG{κ α : Type}[DecidableEq κ](k:κ)(v:α):∀(m:List (κ×α))(x:κ),mget? (mput m k v) x=if x=k then some v else mget? m x
 |[],x=>by simp[mput,mget?]
 |(k',v')::m,x=>by
  simp only[mput]
  by_cases e:k=k'
  .subst e;by_cases e2:x=k<;>simp[mget?,e2]
  .simp only[e,if_false,mget?,uG k v m x]
   by_cases e2:x=k'
   .subst e2;simp[Ne.symm e]
   .simp[e2]
theorem C1{κ α : Type}[DecidableEq κ]{x:κ}:∀{m:List (κ×α)},x∈m.map (·.1)->∃v,mget? m x=some v/\(x,v)∈m
 |(k,v)::m,h=>by
  by_cases e:x=k
  .subst e;exact⟨v,by simp[mget?],by simp⟩
  .simp only[kH,qC,e,false_or]at h
   obtain⟨u,h1,h2⟩:=C1 h
   exact⟨u,by simp[mget?,e,h1],xB _ h2⟩
theorem Cg{κ α : Type}[DecidableEq κ]{k:κ}{v:α}{q:κ×α}:∀{m:List (κ×α)},q∈mput m k v->q=(k,v)\/q∈m
 |[],h=>by simp[mput]at h;exact .inl h
 |(k',v')::m,h=>by
  simp only[mput]at h
  split at h
  .rcases qC.1 h with h|h
   .exact .inl h
   .exact .inr (xB _ h)
  .rcases qC.1 h with h|h
   .exact .inr (h▸jB ..)
   .rcases Cg h with h|h
    .exact .inl h
    .exact .inr (xB _ h)
theorem Fe(g:List (Int×Version)):∀l,bG.L2 g [] l=l.map λy=>(y,mgetD g y (S0 0 0 0 (kN (⟨#[]⟩:ByteArray) [] [] [] (vG 0 0 0 (⟨#[]⟩:ByteArray) []) 0)))
 |[]=>rfl
 |y::l=>by simp[bG.L2,Fe g l]
def inForceM(known eU:Int):List Version->Int->List (Int×Version)->List (Int×Version)
 |[],_,m=>m
 |y::l,b,m=>bif decide (known<y.Known)then inForceM known eU l b m else bif decide (y.At<=eU)then(bif decide (y.At<b)then inForceM known eU l b m else inForceM known eU l y.At (mput m eU y))else inForceM known eU l b (mput m y.At y)
theorem Ff(known eU:Int)(k:Int->List (Int×Version)->List (Int×Version))(hk:∀a b m,k a m=k b m):∀l b m,bG.L1 known eU k l b m=k 0 (inForceM known eU l b m)
 |[],b,m=>hk _ _ _
 |y::l,b,m=>by
  simp only[bG.L1,inForceM,Ff known eU k hk l]
  cases decide (known<y.Known)<;>cases decide (y.At<=eU)<;>cases decide (y.At<b)<;>rfl
theorem Al(l:List Version)(eU known:Int):fX l eU known=(sortI ((inForceM known eU l (-1) []).map Prod.fst)).map λy=>(y,mgetD (inForceM known eU l (-1) []) y (S0 0 0 0 (kN (⟨#[]⟩:ByteArray) [] [] [] (vG 0 0 0 (⟨#[]⟩:ByteArray) []) 0))):=by
 unfold fX bG
 rw[Ff _ _ _ (λ_ _ _=>rfl)]
 exact Fe _ _
theorem ph(known eU:Int)(P:Int×Version->Prop):∀(l:List Version)b m,(∀y∈l,y.At<=eU->P (eU,y))->(∀y∈l,eU<y.At->P (y.At,y))->(∀q∈m,P q)->∀q∈inForceM known eU l b m,P q
 |[],_,_,_,_,hm=>hm
 |y::l,b,m,h1,h2,hm=>by
  have h1':=λz hz=>h1 z (xB _ hz)
  have h2':=λz hz=>h2 z (xB _ hz)
  simp only[inForceM,Bool.cond_eq_ite,decide_eq_true_eq]
  split
  .exact ph known eU P l b m h1' h2' hm
  .split
   .next ha=>
    split
    .exact ph known eU P l b m h1' h2' hm
    .refine ph known eU P l _ _ h1' h2' (λq hq=>?_)
     rcases Cg hq with rfl|hq
     .exact h1 y (jB ..) ha
     .exact hm q hq
   .next ha=>
    refine ph known eU P l _ _ h1' h2' (λq hq=>?_)
    rcases Cg hq with rfl|hq
    .exact h2 y (jB ..) (by omega)
    .exact hm q hq
theorem C8{l:List Version}{eU:Int}(P:Int×Version->Prop)(h1:∀y∈l,y.At<=eU->P (eU,y))(h2:∀y∈l,eU<y.At->P (y.At,y)):∀q∈fX l eU known,P q:=by
 intro q hq
 rw[Al]at hq
 obtain⟨y,hy,rfl⟩:=kM.1 hq
 have hy':=(lS _).mem_iff.1 hy
 obtain⟨v,e,hv⟩:=C1 hy'
 have:mgetD (inForceM known eU l (-1) []) y (S0 0 0 0 (kN (⟨#[]⟩:ByteArray) [] [] [] (vG 0 0 0 (⟨#[]⟩:ByteArray) []) 0))=v:=by simp[mgetD,e]
 simp only[this]
 exact ph known eU P l (-1) [] h1 h2 (λq hq=>(kA hq).elim) _ hv
theorem xy{l:List Version}{eU:Int}:∀q∈fX l eU known,q.2∈l:=
 C8 (λq=>q.2∈l) (λy hy _=>hy) (λy hy _=>hy)
theorem rX(known eU:Int):∀(l:List Version)b m,(inForceM known eU l b m).length<=m.length+l.length
 |[],_,_=>jG _
 |y::l,b,m=>by
  have a1:=rX known eU l b m
  have a2:=rX known eU l y.At (mput m eU y)
  have a3:=rX known eU l b (mput m y.At y)
  have b2:=mj m eU y
  have b3:=mj m y.At y
  simp only[inForceM,Bool.cond_eq_ite,xA]
  split
  .omega
  .split
   .split<;>omega
   .omega
theorem C7(l:List Version)(eU known:Int):(fX l eU known).length<=l.length:=by
 rw[Al,List.length_map,iM,List.length_map]
 have:=rX known eU l (-1) []
 simpa using this
theorem AL:∀{a b:List OSeat},a.Pairwise (λx y=>x.person<y.person)->b.Pairwise (λx y=>x.person<y.person)->a.Perm b->a=b
 |[],b,_,_,p=>(List.Perm.nil_eq p)
 |x::a,[],_,_,p=>absurd p.length_eq (by simp)
 |x::a,y::b,ha,hb,p=>by
  have hx:x=y:=by
   have h1:x∈y::b:=p.mem_iff.1 (jB ..)
   have h2:y∈x::a:=p.mem_iff.2 (jB ..)
   rw[List.pairwise_cons]at ha hb
   rcases qC.1 h1 with e|h1
   .exact e
   .rcases qC.1 h2 with e|h2
    .exact e.symm
    .have:=ha.1 y h2;have:=hb.1 x h1;omega
  subst hx
  rw[List.pairwise_cons]at ha hb
  rw[AL ha.2 hb.2 (List.Perm.cons_inv p)]
theorem AM{l:List OSeat}(hn:l.Nodup)(hs:l.Pairwise (λx y=>x.person<=y.person)):(l.filter (λy=>y.office==office)).Pairwise (λx y=>x.person<y.person):=by
 induction l with
 |nil=>exact List.Pairwise.nil
 |cons x l ih=>
  rw[xR]at hn
  rw[List.pairwise_cons]at hs
  rw[List.filter_cons]
  split
  .next h=>
   rw[List.pairwise_cons]
   refine⟨λy hy=>?_,ih hn.2 hs.2⟩
   obtain⟨hy1,hy2⟩:=kS.1 hy
   have h1:=hs.1 y hy1
   rcases Int.lt_or_eq_of_le h1 with h2|h2
   .exact h2
   .exfalso
    have:x=y:=by
     cases x;cases y
     simp at h hy2 h2
     simp[h,hy2,h2]
    exact hn.1 (this▸hy1)
  .exact ih hn.2 hs.2
theorem vp(m:List (OSeat×Appoint))(office:Int):∀l,bX.L1 m office [] l=(l.filter λy=>y.office==office).filterMap λy=>bif(mgetD m y (kD 0 0 0 0 0 0 false)).Gone then none else some (UT (mgetD m y (kD 0 0 0 0 0 0 false)).Person (mgetD m y (kD 0 0 0 0 0 0 false)).Weight)
 |[]=>rfl
 |y::l=>by
  simp only[bX.L1,vp m office l,List.filter_cons]
  cases h1:y.office==office<;>cases h2:(mgetD m y (kD 0 0 0 0 0 0 false)).Gone<;>simp[h2]
theorem Gv{m:List (OSeat×Appoint)}{ys:List OSeat}(hn:(m.map (·.1)).Nodup)(hp:ys.Perm (m.map Prod.fst))(hs:ys.Pairwise (λx y=>x.person<=y.person)):
  bX m office=[]++((bX.L1 m office bX.K1) ys):=by
 unfold bX bX.K1
 rw[xG,vp,vp]
 have h1:(seatS (m.map Prod.fst)).Nodup:=(u9 _).nodup_iff.2 hn
 have h2:ys.Nodup:=hp.nodup_iff.2 hn
 rw[AL (AM h1 (AN _)) (AM h2 hs) (((u9 _).trans hp.symm).filter _)]
theorem xq(key:Appoint->OSeat×Bool)(later:Appoint->Appoint->Bool):∀(l:List Appoint)m,(dp.L1 key later dp.K1 l m).length<=m.length+l.length
 |[],m=>by simp[dp.L1,dp.K1]
 |y::l,m=>by
  have a:=xq key later l m
  have b:=xq key later l (mput m (key y).1 y)
  have c:=mj m (key y).1 y
  simp only[dp.L1,Bool.cond_eq_ite,xA]
  split<;>omega
theorem uY(l:List Appoint)(a b:Int):(dw l a b).length<=l.length:=by
 have:=xq (λdC=>iI dC a b) kb l []
 simpa[dw,dp]using this
theorem Ko(l:List Holder):gi l=l:=by
 have:∀(l g:List Holder),cn.L1 cn.K1 l g=g++l:=by
  intro l
  induction l with
  |nil=>intro g;simp[cn.L1,cn.K1]
  |cons y l ih=>intro g;simp[cn.L1,ih]
 simp[gi,cn,this]
theorem Da(m:List (OSeat×Appoint))(office:Int):(i8 m office).length<=m.length:=by
 unfold i8 bX bX.K1
 rw[vp]
 have h1:=List.length_filterMap_le (λy=>bif(mgetD m y (kD 0 0 0 0 0 0 false)).Gone then none else some (UT (mgetD m y (kD 0 0 0 0 0 0 false)).Person (mgetD m y (kD 0 0 0 0 0 0 false)).Weight)) ((seatS (m.map Prod.fst)).filter λy=>y.office==office)
 have h2:=List.length_filter_le (λy:OSeat=>y.office==office) (seatS (m.map Prod.fst))
 have h3:=(u9 (m.map Prod.fst)).length_eq
 rw[List.length_map]at h3
 omega
theorem Dt(l:List Appoint)(office a b:Int):(eQ l office a b).1.length<=l.length:=by
 unfold eQ
 rw[Ko]
 have h1:=Da (dw l a b) office
 have h2:=uY l a b
 cases(dg l != 0)<;>cases((!(fg office))||(!(dq a))||(!(dq b)))<;>simp<;>omega
theorem kO(r:Register):dD r=0↔dg r.Appoints=0/\dB r.Deputies=0/\cX r.Interests=0/\cu r.Budgets=0/\bF r.Versions=0/\aU r.Docs=0/\aX r.Approvals=0:=by
 have e:dD r=(bif dg r.Appoints != 0 then 300 else bif dB r.Deputies != 0 then 300 else bif cX r.Interests != 0 then 300 else bif cu r.Budgets != 0 then 300 else bif bF r.Versions != 0 then 300 else bif aU r.Docs != 0 then 300 else bif aX r.Approvals != 0 then 300 else 0):=rfl
 rw[e]
 have key:∀(a x:Int),(bif a != 0 then 300 else x)=0↔a=0/\x=0:=by
  intro a x
  by_cases h:a=0
  .simp[h]
  .have:(a != 0)=true:=by simpa using h
   rw[this];simp[h]
 simp only[key,and_true]
theorem Me(limit:Int)(k:Int->Bool):∀(l:List Int)(g:Int),dF.L1 limit k l g=true↔((∀x∈l,g<x/\x<limit)/\l.Pairwise (·<·))/\∃g',(l=[]/\g'=g\/l.getLast? = some g')/\k g'=true
 |[],g=>by simp[dF.L1]
 |y::l,g=>by
  simp only[dF.L1,Bool.cond_eq_ite,xD,decide_eq_true_eq]
  split
  .next h=>
   constructor
   .intro h';cases h'
   .rintro⟨⟨h1,_⟩,_⟩;have:=h1 y (jB ..);omega
  .next h=>
   rw[Me limit k l y,List.pairwise_cons]
   simp only[qC,forall_eq_or_imp]
   constructor
   .rintro⟨⟨h1,h2⟩,g',h3,h4⟩
    refine⟨⟨⟨by omega,λx hx=>by have:=h1 x hx;omega⟩,λx hx=>(h1 x hx).1,h2⟩,g',?_,h4⟩
    rcases h3 with⟨rfl,rfl⟩|h3
    .simp
    .right;cases l with
     |nil=>simp at h3
     |cons z l=>simpa using h3
   .rintro⟨⟨⟨h1,h2⟩,h3,h4⟩,g',h5,h6⟩
    refine⟨⟨λx hx=>⟨h3 x hx,(h2 x hx).2⟩,h4⟩,g',?_,h6⟩
    rcases h5 with⟨h5,_⟩|h5
    .cases h5
    .cases l with
     |nil=>left;simp at h5;exact⟨rfl,h5.symm⟩
     |cons z l=>right;simpa using h5
theorem DY(l:List Int)(limit:Int):dF l limit=true↔((∀x∈l,0<=x/\x<limit)/\l.Pairwise (·<·))/\l.length<=16:=by
 unfold dF
 rw[Me]
 constructor
 .rintro⟨⟨h1,h2⟩,g',_,h3⟩
  refine⟨⟨λx hx=>by have:=h1 x hx;omega,h2⟩,?_⟩
  simp only[dF.K1,decide_eq_true_eq]at h3
  omega
 .rintro⟨⟨h1,h2⟩,h3⟩
  refine⟨⟨λx hx=>by have:=h1 x hx;omega,h2⟩,?_⟩
  cases l with
  |nil=>exact⟨_,.inl ⟨rfl,rfl⟩,by simp[dF.K1]⟩
  |cons y l=>
   refine⟨(y::l).getLast (by simp),.inr (List.getLast?_eq_some_getLast _),?_⟩
   simp only[dF.K1,decide_eq_true_eq]
   omega
structure MF(d:Document):Prop where
 no:0<=d.No/\d.No<4096
 at_:0<=d.At/\d.At<1099511627776
 kind:0<=d.Kind/\d.Kind<16
 value:0<=d.Value/\d.Value<=1099511627776
 eU:0<=d.From/\d.From<d.Until
 RC:d.Until<=1099511627776
 parties:((∀x∈d.Parties,0<=x/\x<1048577)/\d.Parties.Pairwise (·<·))/\d.Parties.length<=16
 revokes:((∀x∈d.Revokes,0<=x/\x<d.No)/\d.Revokes.Pairwise (·<·))/\d.Revokes.length<=16
 needs:((∀x∈d.Needs,0<=x/\x<d.No)/\d.Needs.Pairwise (·<·))/\d.Needs.length<=16
theorem Ji(d:Document):gS d=true↔MF d:=by
 unfold gS fM
 simp only[zB,decide_eq_true_eq,DY]
 constructor
 .rintro⟨⟨⟨⟨⟨⟨⟨⟨⟨⟨⟨⟨a,b⟩,c,d⟩,e⟩,f⟩,g⟩,h⟩,i⟩,j⟩,k⟩,l⟩,m⟩,n⟩
  exact⟨⟨a,b⟩,⟨c,d⟩,⟨e,f⟩,⟨g,h⟩,⟨i,j⟩,k,l,m,n⟩
 .rintro⟨⟨a,b⟩,⟨c,d⟩,⟨e,f⟩,⟨g,h⟩,⟨i,j⟩,k,l,m,n⟩
  exact⟨⟨⟨⟨⟨⟨⟨⟨⟨⟨⟨⟨a,b⟩,c,d⟩,e⟩,f⟩,g⟩,h⟩,i⟩,j⟩,k⟩,l⟩,m⟩,n⟩
theorem FM(l0:List Document):∀(l:List Document)(i:Nat),aU.L1 l0 0 l i=0->∀d∈l,gS d=true
 |[],_,_,_,hd=>(kA hd).elim
 |y::l,i,h,d,hd=>by
  simp only[aU.L1,Bool.cond_eq_ite]at h
  split at h
  .omega
  .next hc=>
   simp only[xD,not_or,qE,Bool.not_eq_false]at hc
   rcases qC.1 hd with rfl|hd
   .exact hc.1.1
   .exact FM l0 l (i+1) h d hd
theorem Hy{l:List Document}(h:aU l=0):∀d∈l,MF d:=by
 unfold aU aU.K1 at h
 rw[Bool.cond_eq_ite]at h
 split at h
 .omega
 .exact λd hd=>(Ji d).1 (FM l l 0 h d hd)
theorem Fg(f:Document->Bool):∀(l:List Document)(i:Nat),(ad.L1 f ad.K1 l i=-1/\∀x∈l,f x=false) \/
  ∃a y b,l=a++y::b/\ad.L1 f ad.K1 l i=((i+a.length:Nat):Int)/\f y=true/\∀x∈a,f x=false
 |[],i=>.inl ⟨rfl,λ_ h=>(kA h).elim⟩
 |y::l,i=>by
  simp only[ad.L1]
  cases hy:f y with
  |true=>exact .inr ⟨[],y,l,rfl,by simp,hy,λ_ h=>(kA h).elim⟩
  |false=>
   rcases Fg f l (i+1)with⟨h1,h2⟩|⟨a,z,b,rfl,h2,h3,h4⟩
   .exact .inl ⟨h1,λx hx=>by rcases qC.1 hx with rfl|hx;exact hy;exact h2 x hx⟩
   .refine .inr ⟨y::a,z,b,rfl,?_,h3,λx hx=>by rcases qC.1 hx with rfl|hx;exact hy;exact h4 x hx⟩
    rw[cond_false,h2];simp only[xA];congr 1;omega
theorem Lg(mode:Int)(l:List Version)(old:Bool):(judgesP mode l old).length<=l.length:=by
 unfold judgesP iV iB iU
 cases mode==1<;>cases mode==2<;>cases old<;>simp<;>omega
theorem CB(k:List Int->List Int×Int×Int):∀(l:List Version)(g:List Int),bw.L2 k l g=k (g++l.map (·.No))
 |[],g=>by simp[bw.L2]
 |y::l,g=>by simp[bw.L2,CB k l]
theorem HJ(begun at_:Int)(P:List Int×Int×Int->Prop)(n:Nat)(k:Bool->List Version->List Int×Int×Int)(hk:∀b g,g.length<=n->P (k b g)):∀(l:List (Int×Version))b g,g.length+l.length<=n->P (bw.L1 begun at_ k l b g)
 |[],b,g,h=>by simpa[bw.L1]using hk b g (by simpa using h)
 |y::l,b,g,h=>by
  simp only[bw.L1]
  simp only[xA]at h
  cases decide (at_<y.1)
  .exact HJ begun at_ P n k hk l _ _ (by simp;omega)
  .exact hk _ _ (by omega)
theorem Lz(l:List Version)(begun at_ known:Int):(bw l begun at_ known).1.length<=l.length:=by
 unfold bw
 cases(bF l != 0)
 .cases(((!(gR begun))||(!(gR at_)))||(!(gR known)))||decide (at_<begun)
  .simp only[cond_false]
   refine HJ begun at_ (λr=>r.1.length<=l.length) l.length _ ?_ _ _ _ (by have:=C7 l begun known;simpa using this)
   intro b g hg
   unfold bw.K1
   cases((g.length:Int)==0)
   .simp only[cond_false,CB,bw.K2,xG,iM,List.length_map]
    exact vT (Lg _ _ _) hg
   .simp
  .simp
 .simp
theorem my:smR (zK [] [] [] [] [] [] []):=by simp[smR,smV]
theorem ul{P:Program}{f:FuncId}{args:List Value}{h:HF}{v v':Value}(t:Ret P f args h v)(e:v=v'):Ret P f args h v':=e▸t
structure RK(r:Register)(doc:Int)(who l:List Int):Prop where
 times:∀x∈l,0<=x/\x<1099511627776
 check:lk r=0
 doc0:0<=fo r doc
 people:nz who=true
theorem Pk(L:List Document):∀(l:List Document)(i:Nat),dL.L1 L dL.K1 l i=0->∀d∈l,iv d=true
 |[],_,_=>λ_ h=>(kA h).elim
 |y::l,i,h=>by
  simp only[dL.L1,Bool.cond_eq_ite,xD,not_or]at h
  split at h
  .simp at h
  .next hc=>
   intro d hd
   rcases qC.1 hd with rfl|hd
   .simp only[not_or]at hc;simpa using hc.1.1.1
   .exact Pk L l (i+1) h d hd
theorem Kr{r:Register}(h:lk r=0):iw r.Appoints=0/\ie r.Deputies=0/\ib r.Interests=0/\fE r.Budgets=0/\dM r.Versions=0/\dL r.Docs=0/\ic r.Approvals=0:=by
 simp only[lk,Bool.cond_eq_ite,xD,bne_iff_ne]at h
 split at h
 .simp at h
 .next h1=>
  split at h
  .simp at h
  .next h2=>
   simp only[not_or,Classical.not_not]at h1 h2
   exact⟨h1.1.1.1,h1.1.1.2,h1.1.2,h1.2,h2.1.1,h2.1.2,h2.2⟩
theorem Pj{l:List Document}(h:dL l=0):l.length<=4096/\∀d∈l,iv d=true:=by
 simp only[dL,Bool.cond_eq_ite,decide_eq_true_eq]at h
 split at h
 .simp at h
 .next h1=>exact⟨by omega,Pk l l 0 h⟩
theorem GZ{l:List Int}(h:l.Pairwise (·<=·))(hn:l.Nodup):l.Pairwise (·<·):=by
 induction l with
 |nil=>exact List.Pairwise.nil
 |cons x l ih=>
  rw[List.pairwise_cons]at h ⊢
  rw[xR]at hn
  exact⟨λy hy=>by have:=h.1 y hy;have:x≠y:=λe=>hn.1 (e▸hy);omega,ih h.2 hn.2⟩
section chk
variable {α : Type} [Inhabited α]
def refChk(R:α->Bool)(no:α->Int)(c:Int)(L:List α):List α->Nat->Int
 |[],_=>0
 |y::l,i=>bif(!(R y))||(decide (0<(i:Int))&&decide (no y<=no (nthI L ((i:Int)-1))))then c else refChk R no c L l (i+1)
def prgChk(R:α->Bool)(no:α->Int)(c:Int):List α->Int->Int
 |[],_=>0
 |y::l,g=>bif(!(R y))||decide (no y<=g)then c else prgChk R no c l (no y)
theorem Kq(R:α->Bool)(no:α->Int)(c:Int)(L:List α):∀(l pre:List α)(x:α),L=(pre++[x])++l->refChk R no c L l (pre.length+1)=prgChk R no c l (no x)
 |[],_,_,_=>rfl
 |y::l,pre,x,h=>by
  have hx:nthI L (((pre.length+1:Nat):Int)-1)=x:=by
   have hb:0<=(((pre.length+1:Nat):Int)-1)/\(((pre.length+1:Nat):Int)-1)<(L.length:Int):=by rw[h];simp;omega
   have hg:=cV hb
   rw[show((((pre.length+1:Nat):Int)-1)).toNat=pre.length from by omega,h]at hg
   rw[h];simpa using hg.symm
  have hd:decide (0<((pre.length+1:Nat):Int))=true:=by rw[decide_eq_true_eq];omega
  have ih:=Kq R no c L l (pre++[x]) y (by rw[h];simp)
  rw[jA,xA,vB,Nat.zero_add]at ih
  simp only[refChk,prgChk,hx,hd,Bool.true_and,ih]
theorem FT(R:α->Bool)(no:α->Int)(c:Int)(hR:∀y,R y=true->0<=no y)(l:List α):refChk R no c l l 0=prgChk R no c l (-1):=by
 cases l with
 |nil=>rfl
 |cons y l=>
  have ih:=Kq R no c (y::l) l [] y rfl
  simp only[vB,Nat.zero_add]at ih
  simp only[refChk,prgChk,Nat.zero_add,ih]
  cases hr:R y with
  |false=>rfl
  |true=>
   have:decide (no y<=-1)=false:=by have:=hR y hr;simp;omega
   rw[this];rfl
end chk
theorem C0(l:List Appoint):dg l=iw l:=by
 have hR:∀x,nU x=jX x:=λx=>by
  rw[vM]
  simp only[nU,jX,Bool.cond_eq_ite]
  cases x.Gone<;>simp only[if_true,if_false,R1,zB,xD,qE,decide_eq_true_eq,decide_eq_false_iff_not,beq_iff_eq,dX,dq,fg,fY,oo,oY,oX,Bool.and_eq_false_iff]
   <;> (split<;>simp only[R1,iff_false,decide_eq_true_eq,zB,beq_iff_eq]<;>omega)
 have h1:∀(L l:List Appoint)i,iw.L1 L iw.K1 l i=refChk jX (·.No) 150 L l i:=by
  intro L l
  induction l with
  |nil=>intro i;rfl
  |cons y l ih=>intro i;simp only[iw.L1,refChk,ih]
 have h2:∀(l:List Appoint)g,dg.L1 dg.K1 l g=prgChk jX (·.No) 150 l g:=by
  intro l
  induction l with
  |nil=>intro g;rfl
  |cons y l ih=>intro g;simp only[dg.L1,prgChk,ih,hR]
 unfold dg iw
 rw[h1,h2,FT]
 intro y hy
 simp only[jX,Bool.cond_eq_ite]at hy
 split at hy
 .cases hy
 .next h=>simp only[xD,not_or,decide_eq_true_eq]at h;omega
theorem BC(l:List Deputy):dB l=ie l:=by
 have hR:∀x,nt x=jW x:=λx=>by
  rw[vM]
  simp only[nt,jW,Bool.cond_eq_ite,cY,gx,fZ,ij,ol,mD]
  generalize (!(decide (0<=x.No)&&decide (x.No<=1048576))||!(decide (0<=x.At)&&decide (x.At<=1099511627775))||!(decide (0<=x.Known)&&decide (x.Known<=1099511627775))||!(decide (0<=x.From)&&decide (x.From<=63))||!(decide (0<=x.To)&&decide (x.To<=63))||x.From==x.To)=A
  cases A<;>simp
 have h1:∀(L l:List Deputy)i,ie.L1 L ie.K1 l i=refChk jW (·.No) 160 L l i:=by
  intro L l
  induction l with
  |nil=>intro i;rfl
  |cons y l ih=>intro i;simp only[ie.L1,refChk,ih]
 have h2:∀(l:List Deputy)g,dB.L1 dB.K1 l g=prgChk jW (·.No) 160 l g:=by
  intro l
  induction l with
  |nil=>intro g;rfl
  |cons y l ih=>intro g;simp only[dB.L1,prgChk,ih,hR]
 unfold dB ie
 rw[h1,h2,FT]
 intro y hy
 simp only[jW,Bool.cond_eq_ite]at hy
 split at hy
 .cases hy
 .next h=>simp only[xD,not_or,decide_eq_true_eq,ij,qE,Bool.and_eq_false_iff,decide_eq_false_iff_not]at h;omega
theorem zg(l:List Interest):cX l=ib l:=by
 have hR:∀x,mI x=jy x:=λx=>by
  rw[vM]
  simp only[mI,jy,Bool.cond_eq_ite,bH,oe,na,oU]
  cases x.Of<;>simp only[if_true,if_false,R1,zB,xD,qE,decide_eq_true_eq,decide_eq_false_iff_not,bne_iff_ne,Bool.and_eq_false_iff]
   <;> (split<;>simp only[R1,iff_false,decide_eq_true_eq,zB,bne_iff_ne]<;>omega)
 have h1:∀(L l:List Interest)i,ib.L1 L ib.K1 l i=refChk jy (·.No) 290 L l i:=by
  intro L l
  induction l with
  |nil=>intro i;rfl
  |cons y l ih=>intro i;simp only[ib.L1,refChk,ih]
 have h2:∀(l:List Interest)g,cX.L1 cX.K1 l g=prgChk jy (·.No) 290 l g:=by
  intro l
  induction l with
  |nil=>intro g;rfl
  |cons y l ih=>intro g;simp only[cX.L1,prgChk,ih,hR]
 unfold cX ib
 rw[h1,h2,FT]
 intro y hy
 simp only[jy,Bool.cond_eq_ite]at hy
 split at hy
 .cases hy
 .next h=>simp only[xD,not_or,decide_eq_true_eq]at h;omega
theorem C9(f:Int->Bool):∀(l:List Int)(i:Nat),decide (0<=dR.L1 f dR.K1 l i)=l.any f
 |[],i=>by simp[dR.L1,dR.K1]
 |y::l,i=>by
  have ih:=C9 f l (i+1)
  simp only[dR.L1,List.any_cons]
  by_cases hf:f y=true
  .simp[hf]
  .simp only[Bool.not_eq_true]at hf
   simp only[hf,cond_false,Bool.false_or]
   exact ih
theorem containsF(l:List Int)(f:Int->Bool):cH l f=l.any f:=C9 f l 0
theorem yh(l:List Budget):cu l=fE l:=by
 have hR:∀x,kh x=jU x:=λx=>by
  rw[vM]
  simp only[kh,jU,Bool.cond_eq_ite,aN,containsF,iE,List.any_cons,List.any_nil,Bool.or_false,fJ,gP]
  cases x.Gone<;>simp only[if_true,if_false,R1,zB,xD,qE,decide_eq_true_eq,decide_eq_false_iff_not,beq_iff_eq,Bool.and_eq_false_iff,Bool.or_eq_false_iff]
   <;> (split<;>simp only[R1,iff_false,decide_eq_true_eq,zB,beq_iff_eq]<;>omega)
 have h1:∀(L l:List Budget)i,fE.L1 L fE.K1 l i=refChk jU (·.No) 180 L l i:=by
  intro L l
  induction l with
  |nil=>intro i;rfl
  |cons y l ih=>intro i;simp only[fE.L1,refChk,ih]
 have h2:∀(l:List Budget)g,cu.L1 cu.K1 l g=prgChk jU (·.No) 180 l g:=by
  intro l
  induction l with
  |nil=>intro g;rfl
  |cons y l ih=>intro g;simp only[cu.L1,prgChk,ih,hR]
 unfold cu fE
 rw[h1,h2,FT]
 intro y hy
 simp only[jU,Bool.cond_eq_ite]at hy
 split at hy
 .cases hy
 .next h=>simp only[xD,not_or,decide_eq_true_eq,fJ,qE,Bool.and_eq_false_iff,decide_eq_false_iff_not]at h;omega
theorem zo(l:List Approval):aX l=ic l:=by
 have hR:∀x,fC x=jz x:=λx=>by
  rw[vM]
  simp only[fC,jz,Bool.cond_eq_ite,cy,containsF,gh,List.any_cons,List.any_nil,Bool.or_false,gB,og,uC]
  simp only[zB,xD,qE,decide_eq_true_eq,decide_eq_false_iff_not,Bool.and_eq_false_iff,Bool.or_eq_false_iff]
  split<;>simp only[R1,iff_false,decide_eq_true_eq,zB]<;>omega
 have h1:∀(L l:List Approval)i,ic.L1 L ic.K1 l i=refChk jz (·.No) 280 L l i:=by
  intro L l
  induction l with
  |nil=>intro i;rfl
  |cons y l ih=>intro i;simp only[ic.L1,refChk,ih]
 have h2:∀(l:List Approval)g,aX.L1 aX.K1 l g=prgChk jz (·.No) 280 l g:=by
  intro l
  induction l with
  |nil=>intro g;rfl
  |cons y l ih=>intro g;simp only[aX.L1,prgChk,ih,hR]
 unfold aX ic
 rw[h1,h2,FT]
 intro y hy
 simp only[jz,Bool.cond_eq_ite]at hy
 split at hy
 .cases hy
 .next h=>simp only[xD,not_or,decide_eq_true_eq,gB,qE,Bool.and_eq_false_iff,decide_eq_false_iff_not]at h;omega
def refLs(B:Int->Bool)(L:List Int)(k:Bool):List Int->Nat->Bool
 |[],_=>k
 |y::l,i=>bif(B y)||(decide (0<(i:Int))&&decide (y<=nthI L ((i:Int)-1)))then false else refLs B L k l (i+1)
theorem Ez(B:Int->Bool)(L:List Int)(k:Bool):∀(l pre:List Int)(x:Int),L=(pre++[x])++l->refLs B L k l (pre.length+1)=true->((∀y∈l,B y=false)/\k=true)/\(x::l).Pairwise (·<·)
 |[],_,_,_,h=>⟨⟨λ_ h=>(kA h).elim,h⟩,by simp⟩
 |y::l,pre,x,h,hr=>by
  have hx:nthI L (((pre.length+1:Nat):Int)-1)=x:=by
   have hb:0<=(((pre.length+1:Nat):Int)-1)/\(((pre.length+1:Nat):Int)-1)<(L.length:Int):=by rw[h];simp;omega
   have hg:=cV hb
   rw[show((((pre.length+1:Nat):Int)-1)).toNat=pre.length from by omega,h]at hg
   rw[h];simpa using hg.symm
  simp only[refLs,hx,Bool.cond_eq_ite]at hr
  split at hr
  .cases hr
  .next hc=>
   simp only[xD,zB,decide_eq_true_eq,not_or]at hc
   have ih:=Ez B L k l (pre++[x]) y (by rw[h];simp)
   rw[jA,xA,vB,Nat.zero_add]at ih
   obtain⟨⟨i1,i2⟩,i3⟩:=ih hr
   have hxy:x<y:=by omega
   refine⟨⟨λz hz=>?_,i2⟩,List.pairwise_cons.2 ⟨λz hz=>?_,i3⟩⟩
   .rcases qC.1 hz with rfl|hz
    .simpa using hc.1
    .exact i1 z hz
   .rcases qC.1 hz with rfl|hz
    .exact hxy
    .have:=(List.pairwise_cons.1 i3).1 z hz;omega
theorem Oj{B:Int->Bool}{k:Bool}{l:List Int}(h:refLs B l k l 0=true):((∀y∈l,B y=false)/\k=true)/\l.Pairwise (·<·):=by
 cases l with
 |nil=>exact⟨⟨λ_ h=>(kA h).elim,h⟩,List.Pairwise.nil⟩
 |cons y l=>
  simp only[refLs,Bool.cond_eq_ite]at h
  split at h
  .cases h
  .next hc=>
   simp only[xD,not_or]at hc
   obtain⟨⟨i1,i2⟩,i3⟩:=Ez B (y::l) k l [] y rfl h
   refine⟨⟨λz hz=>?_,i2⟩,i3⟩
   rcases qC.1 hz with rfl|hz
   .simpa using hc.1
   .exact i1 z hz
theorem Ey{l:List Int}{limit:Int}(h:eL l limit=true):((∀x∈l,0<=x/\x<limit)/\l.Pairwise (·<·))/\l.length<=16:=by
 have e:∀(L l:List Int)i,eL.L1 L limit (eL.K1 L) l i=refLs (λy=>decide (y<0)||decide (limit<=y)) L (eL.K1 L) l i:=by
  intro L l
  induction l with
  |nil=>intro i;rfl
  |cons y l ih=>intro i;simp only[eL.L1,refLs,ih]
 unfold eL at h
 rw[e]at h
 obtain⟨⟨h1,h2⟩,h3⟩:=Oj h
 refine⟨⟨λx hx=>?_,h3⟩,?_⟩
 .have:=h1 x hx;simp only[Bool.or_eq_false_iff,decide_eq_false_iff_not]at this;omega
 .simp only[eL.K1,decide_eq_true_eq]at h2;omega
theorem CN{d:Document}(h:iv d=true):MF d:=by
 simp only[iv,Bool.cond_eq_ite]at h
 split at h
 .cases h
 .next hc=>
  simp only[xD,not_or,decide_eq_true_eq,lT,qE,Bool.and_eq_false_iff,decide_eq_false_iff_not]at hc
  simp only[zB,decide_eq_true_eq]at h
  obtain⟨⟨⟨⟨⟨h1,h2⟩,h3⟩,h4⟩,h5⟩,h6⟩:=h
  exact⟨by omega,by omega,by omega,by omega,⟨h1,h2⟩,h3,Ey h4,Ey h5,Ey h6⟩
theorem AK(L:List Document):∀(l:List Document)(i:Nat)(m:List (Int×Int)),(ay.L1 (ay.K1 L) l i m).docs=L/\∀x,mhas (ay.L1 (ay.K1 L) l i m).at_ x=(mhas m x||l.any λd=>d.No==x)
 |[],i,m=>⟨rfl,λx=>by simp[ay.L1,ay.K1]⟩
 |y::l,i,m=>by
  obtain⟨h1,h2⟩:=AK L l (i+1) (mput m y.No (i:Int))
  refine⟨h1,λx=>?_⟩
  show mhas (ay.L1 (ay.K1 L) l (i+1) (mput m y.No (i:Int))).at_ x=_
  rw[h2 x,List.any_cons]
  have:mhas (mput m y.No (i:Int)) x=(mhas m x||y.No==x):=by
   unfold mhas
   rw[uG]
   by_cases e:x=y.No
   .subst e;simp
   .rw[if_neg e]
    have:(y.No==x)=false:=by simp;exact λh=>e h.symm
    rw[this,Bool.or_false]
  rw[this,Bool.or_assoc]
theorem Di(no:Int):∀(l:List Document)(i:Nat),0<=fR.L1 no fR.K1 l i->(l.any λd=>d.No==no)=true
 |[],i,h=>by simp[fR.L1,fR.K1]at h
 |y::l,i,h=>by
  simp only[fR.L1,Bool.cond_eq_ite]at h
  rw[List.any_cons]
  by_cases e:(y.No==no)=true
  .rw[e];rfl
  .rw[if_neg e]at h
   rw[Di no l (i+1) h,Bool.or_true]
theorem GX(L:List Document):∀nos:List Int,dl.L1 L dl.K1 nos=true->∀x∈nos,(L.any λd=>d.No==x)=true
 |[],_=>λ_ h=>(kA h).elim
 |y::nos,h=>by
  simp only[dl.L1,Bool.cond_eq_ite,decide_eq_true_eq]at h
  split at h
  .cases h
  .next hc=>
   intro x hx
   rcases qC.1 hx with rfl|hx
   .exact Di x L 0 (by unfold fR at hc;omega)
   .exact GX L nos h x hx
theorem Q3{L:List Document}{d:Document}(h1:dl L d.Revokes=true)(h2:dl L d.Needs=true):eV (ay L) d=true:=by
 have hs:=(AK L L 0 []).2
 have key:∀nos,dl L nos=true->cH nos (λdC=>eH dC (ay L))=false:=by
  intro nos hn
  rw[containsF,List.any_eq_false]
  intro x hx
  unfold eH
  have:=GX L nos hn x hx
  have e:mhas (ay L).at_ x=true:=by
   show mhas (ay.L1 (ay.K1 L) L 0 []).at_ x=true
   rw[hs x,this,Bool.or_true]
  rw[e];simp
 unfold eV
 rw[key _ h1,key _ h2];rfl
theorem GC{l:List Document}(h:dL l=0):aU l=0:=by
 have L:∀(L l:List Document)(i:Nat),dL.L1 L dL.K1 l i=0->aU.L1 L aU.K1 l i=0:=by
  intro L l
  induction l with
  |nil=>intros;rfl
  |cons y l ih=>
   intro i h
   simp only[dL.L1,Bool.cond_eq_ite]at h
   split at h
   .omega
   .next hc=>
    simp only[xD,not_or,qE,Bool.not_eq_false,Bool.not_eq_true]at hc
    obtain⟨⟨⟨c1,c2⟩,c3⟩,c4⟩:=hc
    simp only[aU.L1,(Ji y).2 (CN c1),c2,Q3 c3 c4,Bool.not_true,Bool.or_false,cond_false]
    exact ih (i+1) h
 unfold dL at h
 unfold aU
 rw[Bool.cond_eq_ite]at h ⊢
 split at h
 .omega
 .next hc=>rw[if_neg hc];exact L l l 0 h
theorem JT(mode:Int)(l:List Version)(old:Bool):(judgesP mode l old).Sublist l:=by
 unfold judgesP iV iB iU
 cases mode==1<;>cases mode==2<;>cases old<;>simp[List.take_sublist,List.drop_sublist]
theorem F7(begun at_:Int)(k:Bool->List Version->List Int×Int×Int):∀(l:List (Int×Version))b g,∃(pre:List (Int×Version))(b':Bool),pre.Sublist l/\bw.L1 begun at_ k l b g=k b' (g++pre.map (·.2))
 |[],b,g=>⟨[],b,List.Sublist.refl _,by simp[bw.L1]⟩
 |y::l,b,g=>by
  simp only[bw.L1]
  cases decide (at_<y.1)
  .obtain⟨pre,b',h1,h2⟩:=F7 begun at_ k l (b||(y.1==begun)) (g++[y.2])
   exact⟨y::pre,b',h1.cons_cons _,by rw[cond_false,h2];simp⟩
  .exact⟨[],b,List.nil_sublist _,by simp⟩
theorem P2{l:List Version}(h:l.Pairwise (λa b=>a.No<b.No)){a b:Version}(ha:a∈l)(hb:b∈l)(e:a.No=b.No):a=b:=by
 induction l with
 |nil=>cases ha
 |cons x l ih=>
  obtain⟨h1,h2⟩:=List.pairwise_cons.1 h
  rcases qC.1 ha with ea|ha'<;>rcases qC.1 hb with eb|hb'
  .rw[ea,eb]
  .have:=h1 b hb';rw[ea]at e;omega
  .have:=h1 a ha';rw[eb]at e;omega
  .exact ih h2 ha' hb'
theorem nk(known eU:Int):∀(l:List Version)b m,(m.map (·.1)).Nodup->((inForceM known eU l b m).map (·.1)).Nodup
 |[],b,m,h=>h
 |y::l,b,m,h=>by
  simp only[inForceM,Bool.cond_eq_ite]
  split
  .exact nk known eU l _ _ h
  .split
   .split
    .exact nk known eU l _ _ h
    .exact nk known eU l _ _ (pU _ _ h)
   .exact nk known eU l _ _ (pU _ _ h)
theorem Ik(l:List Version)(eU known:Int):(fX l eU known).Pairwise (λp q=>p.1<q.1):=by
 rw[Al,List.pairwise_map]
 exact GZ (mw _) ((lS _).nodup_iff.2 (nk known eU l (-1) [] List.nodup_nil))
theorem JW{l:List Version}(g:HK l)(eU known:Int):(fX l eU known).Pairwise (λp q=>p.2.No≠q.2.No):=by
 have hP:=C8 (l:=l) (eU:=eU) (known:=known) (λp=>((p.2.At<=eU/\p.1=eU)\/(eU<p.2.At/\p.1=p.2.At))/\p.2∈l) (λy hy h=>⟨.inl ⟨h,rfl⟩,hy⟩) (λy hy h=>⟨.inr ⟨h,rfl⟩,hy⟩)
 refine(Ik l eU known).imp_of_mem λ{p q}hp hq hlt e=>?_
 have h1:=hP p hp
 have h2:=hP q hq
 have h3:=P2 g.inc h1.2 h2.2 e
 rw[h3]at h1
 omega
structure Jdg(l:List Version)(J:List Int×Int×Int):Prop where
 err:J.2.2=0
 rise:J.1.Pairwise (·<·)
 mem:∀x∈J.1,∃v∈l,v.No=x
 mode:J.1≠[]->1<=J.2.1/\J.2.1<=4
 mode2:J.2.1≠0->1<=J.2.1/\J.2.1<=4
theorem HI{l:List Version}(g:HK l){begun at_:Int}(hb:0<=begun/\begun<1099511627776)(ht:0<=at_/\at_<1099511627776)(hk:0<=known/\known<1099511627776)(hle:begun<=at_):Jdg l (bw l begun at_ known):=by
 have h0:bF l=0:=(rl l).2 g
 have h1:∀x:Int,0<=x/\x<1099511627776->gR x=true:=λx hx=>by simp[gR,hx]
 have h2:decide (at_<begun)=false:=by simp;omega
 unfold bw
 rw[h0,h1 _ hb,h1 _ ht,h1 _ hk,h2]
 simp only[bne_self_eq_false,cond_false,Bool.not_true,Bool.or_false]
 obtain⟨pre,b',hs,e⟩:=F7 begun at_ bw.K1 (fX l begun known) false []
 rw[e,xG]
 unfold bw.K1
 cases hc:(((pre.map (·.2)).length:Int)==0)with
 |true=>exact⟨rfl,List.Pairwise.nil,λx hx=>(kA hx).elim,λh=>absurd rfl h,λh=>absurd rfl h⟩
 |false=>
  simp only[cond_false,CB,bw.K2,xG]
  have hpre:pre.length≠0:=by simpa using hc
  have hsub:=JT ((nthI (pre.map (·.2)) (((pre.map (·.2)).length:Int)-1)).Policy.Mode) (pre.map (·.2)) b'
  have hnd:(pre.map (·.2)).Pairwise (λa b=>a.No≠b.No):=by
   rw[List.pairwise_map]
   exact(JW g begun known).sublist hs
  have hmode:1<=(nthI (pre.map (·.2)) (((pre.map (·.2)).length:Int)-1)).Policy.Mode/\(nthI (pre.map (·.2)) (((pre.map (·.2)).length:Int)-1)).Policy.Mode<=4:=by
   have hm:nthI (pre.map (·.2)) (((pre.map (·.2)).length:Int)-1)∈pre.map (·.2):=ni (by rw[List.length_map];omega)
   obtain⟨p,hp,hpe⟩:=kM.1 hm
   have:=g.mode (xy p (hs.subset hp))
   rw[hpe]at this
   exact this
  refine⟨rfl,GZ (mw _) ((lS _).nodup_iff.2 ?_),λx hx=>?_,λ_=>hmode,λ_=>hmode⟩
  .show List.Pairwise _ _
   rw[List.pairwise_map]
   exact hnd.sublist hsub
  .have hx2:=(lS _).mem_iff.1 hx
   obtain⟨v,hv,rfl⟩:=kM.1 hx2
   obtain⟨p,hp,rfl⟩:=kM.1 (hsub.subset hv)
   exact⟨p.2,xy p (hs.subset hp),rfl⟩
theorem LA{mode:Int}(hm:1<=mode/\mode<=4){l:List Bool}(hl:l.length<=256):(iL mode l).2=0:=by
 have hc:ga mode l=0:=by
  have h1:mhas lD mode=true:=by
   have:mode=1\/mode=2\/mode=3\/mode=4:=by omega
   rcases this with rfl|rfl|rfl|rfl<;>rfl
  unfold ga
  rw[h1,show decide (256<(l.length:Int))=false from decide_eq_false (by omega)]
  rfl
 have k1:∀(k:List Int->List Int×Bool×Int),(∀g,(k g).2.2=0)->∀(s:List Bool)i g,(aV.L1 k s i g).2.2=0:=by
  intro k hk s
  induction s with
  |nil=>intro i g;exact hk g
  |cons y s ih=>intro i g;exact ih _ _
 have k2:∀(k:List Int->List Int×Bool×Int),(∀g,(k g).2.2=0)->∀(s:List Bool)i g,(aV.L2 k s i g).2.2=0:=by
  intro k hk s
  induction s with
  |nil=>intro i g;exact hk g
  |cons y s ih=>intro i g;exact ih _ _
 have k3:∀(k:List Int->List Int×Bool×Int),(∀g,(k g).2.2=0)->∀(s:List Bool)i g,(aV.L3 k s i g).2.2=0:=by
  intro k hk s
  induction s with
  |nil=>intro i g;exact hk g
  |cons y s ih=>intro i g;exact ih _ _
 show(aV mode l).2.2=0
 unfold aV
 rw[hc]
 simp only[bne_self_eq_false,cond_false,Bool.cond_eq_ite]
 repeat' split
 all_goals first
  |rfl
  |exact k1 _ (λ_=>rfl) _ _ _
  |exact k2 _ (λ_=>rfl) _ _ _
  |exact k3 _ (λ_=>rfl) _ _ _
theorem KI{l:List Appoint}(hc:dg l=0){o t:Int}(ho:0<=o/\o<32)(ht:0<=t/\t<1099511627776)(hk:0<=known/\known<1099511627776):(eQ l o t known).2=0:=by
 have h1:∀x:Int,0<=x/\x<1099511627776->dq x=true:=λx hx=>by simp only[dq,dX,zB,decide_eq_true_eq];omega
 have h2:fg o=true:=by simp only[fg,dX,zB,decide_eq_true_eq];omega
 unfold eQ
 rw[hc,h1 t ht,h1 known hk,h2]
 rfl
theorem wk(k:Int->Int)(hk:∀g,k g=0):∀(l:List Int)(g:Int),(∀x∈l,g<x/\x<=1048576)->l.Pairwise (·<·)->cW.L1 k l g=0
 |[],g,_,_=>hk g
 |y::l,g,h,hp=>by
  have h1:=h y (jB ..)
  have e:(decide (y<=g)||decide (1048576<y))=false:=by simp;omega
  simp only[cW.L1,e,cond_false]
  exact wk k hk l y (λx hx=>⟨(List.pairwise_cons.1 hp).1 x hx,(h x (xB _ hx)).2⟩) (List.pairwise_cons.1 hp).2
theorem IB{l:List Interest}(hc:cX l=0){p t:Int}{ps:List Int}(hp:0<=p/\p<64)(hps:((∀x∈ps,0<=x/\x<1048577)/\ps.Pairwise (·<·))/\ps.length<=16)(ht:0<=t/\t<1099511627776)(hk:0<=known/\known<1099511627776):(ff l p ps t known).2.2=0:=by
 have e:cW l p ps t known=0:=by
  unfold cW
  rw[hc]
  refine wk _ (λg=>?_) ps (-1) (λx hx=>by have:=hps.1.1 x hx;omega) hps.1.2
  unfold cW.K1
  have h1:bH p 64=true:=by simp[bH,hp]
  have h2:bH t 1099511627776=true:=by simp[bH,ht]
  have h3:bH known 1099511627776=true:=by simp[bH,hk]
  have h4:decide (16<(ps.length:Int))=false:=by simp;omega
  rw[h1,h2,h3,h4];rfl
 unfold ff
 rw[e];rfl
theorem Cs{β : Type}(F:(Expr->β)->Expr->β)(go:Nat->Expr->β)(h:∀m,go (m+1)=F (go m))(hF:∀f g x,(∀y∈x.L,f y=g y)->F f x=F g x)(x:Expr):go x.dep x=F (λy=>go y.dep y) x:=by
 have key:∀x:Expr,∀m,x.dep<=m->go m x=go x.dep x:=by
  refine λx=>Expr.ind (P:=λx=>∀m,x.dep<=m->go m x=go x.dep x) ?_ x
  intro x ih m hm
  have hp:=Th x
  obtain⟨m',rfl⟩:∃m',m=m'+1:=⟨m-1,by omega⟩
  obtain⟨n,hn⟩:∃n,x.dep=n+1:=⟨x.dep-1,by omega⟩
  rw[hn,h,h]
  refine hF _ _ _ λy hy=>?_
  have:=R3 hy
  rw[ih y hy m' (by omega),ih y hy n (by omega)]
 have hp:=Th x
 obtain⟨n,hn⟩:∃n,x.dep=n+1:=⟨x.dep-1,by omega⟩
 rw[hn,h]
 refine hF _ _ _ λy hy=>?_
 have:=R3 hy
 exact key y n (by omega)
theorem Py(x:Expr):aY x=aY.F aY x:=by
 refine Cs aY.F aY.go (λm=>rfl) (λf g x h=>?_) x
 unfold aY.F
 have:∀(k:Int->Int)(l:List Expr)a,(∀y∈l,f y=g y)->aY.L1 f k l a=aY.L1 g k l a:=by
  intro k l
  induction l with
  |nil=>intros;rfl
  |cons y l ih=>intro a hl;simp only[aY.L1,hl y (jB ..)];exact ih _ λz hz=>hl z (xB _ hz)
 exact this _ _ _ h
theorem depthL(l:List Expr):∀(a:Int),a<=aY.L1 aY (λg=>g) l a/\(∀y∈l,aY y<=aY.L1 aY (λg=>g) l a)/\∀M:Int,a<=M->(∀y∈l,aY y<=M)->aY.L1 aY (λg=>g) l a<=M:=by
 induction l with
 |nil=>intro a;exact⟨Int.le_refl _,λ_ h=>(kA h).elim,λM h _=>h⟩
 |cons y l ih=>
  intro a
  obtain⟨i1,i2,i3⟩:=ih (max a (aY y))
  simp only[aY.L1]
  refine⟨by omega,λw hw=>?_,λM h1 h2=>i3 M (by have:=h2 y (jB ..);omega) λw hw=>h2 w (xB _ hw)⟩
  rcases qC.1 hw with rfl|hw
  .omega
  .exact i2 w hw
theorem depthK(l:List Expr):∀(a:Int),aY.L1 aY aY.K1 l a=IntKind.i64.wrap (aY.L1 aY (λg=>g) l a+1):=by
 induction l with
 |nil=>intro a;rfl
 |cons y l ih=>intro a;exact ih _
theorem Kj(x:Expr):x.dep<=1500000->(1<=aY x/\aY x<=x.dep)/\aY x=aY.L1 aY (λg=>g) x.L 0+1:=by
 refine Expr.ind (P:=λx=>x.dep<=1500000->(1<=aY x/\aY x<=x.dep)/\aY x=aY.L1 aY (λg=>g) x.L 0+1) ?_ x
 intro x ih hx
 obtain⟨i1,i2,i3⟩:=depthL x.L 0
 have hp:=Th x
 have h3:=i3 ((x.dep:Int)-1) (by omega) λy hy=>by
  have h4:=R3 hy
  have:=(ih y hy (by omega)).1.2
  omega
 have e:aY x=aY.L1 aY (λg=>g) x.L 0+1:=by
  rw[Py]
  unfold aY.F
  rw[depthK,wrap64 (by omega)]
 exact⟨by omega,e⟩
theorem Ki(x:Expr):x.dep<=1500000->∀(d D:Int),aY x<=D->∀z∈bj x d,z.depth<=d+D-1:=by
 refine Expr.ind (P:=λx=>x.dep<=1500000->∀(d D:Int),aY x<=D->∀z∈bj x d,z.depth<=d+D-1) ?_ x
 intro x ih hx d D hD z hz
 obtain⟨h1,h2⟩:=Kj x hx
 rw[nh]at hz
 rcases qC.1 hz with rfl|hz
 .show d<=d+D-1;omega
 .obtain⟨y,hy,hz⟩:=List.mem_flatMap.1 hz
  have h4:=R3 hy
  have h5:=(depthL x.L 0).2.1 y hy
  have:=ih y hy (by omega) (d+1) (D-1) (by omega) z hz
  omega
theorem Pu(x:Expr):dv x=dv.F dv x:=by
 refine Cs dv.F dv.go (λm=>rfl) (λf g x h=>?_) x
 funext limit
 unfold dv.F
 have:∀(k:Int->Int)(l:List Expr)a,(∀y∈l,f y=g y)->dv.L1 f limit k l a=dv.L1 g limit k l a:=by
  intro k l
  induction l with
  |nil=>intros;rfl
  |cons y l ih=>
   intro a hl
   simp only[dv.L1,hl y (jB ..)]
   rw[ih _ λz hz=>hl z (xB _ hz)]
 exact this _ _ _ h
def cnt(x:Expr):Nat:=(bj x 1).length
theorem Rw(x:Expr):∀d,(bj x d).length=cnt x:=by
 refine Expr.ind (P:=λx=>∀d,(bj x d).length=cnt x) ?_ x
 intro x ih d
 unfold cnt
 rw[nh,nh x 1,xA,xA,List.length_flatMap,List.length_flatMap]
 congr 2
 apply List.map_congr_left
 intro y hy
 rw[ih y hy,ih y hy]
theorem Pg(x:Expr):cnt x=1+(x.L.map cnt).sum:=by
 conv=>lhs;unfold cnt
 rw[nh,xA,List.length_flatMap,Nat.add_comm]
 congr 2
 apply List.map_congr_left
 intro y hy
 exact Rw y _
theorem HH(x:Expr):∀limit:Int,0<=limit->limit<=256->dv x limit=min (cnt x:Int) (limit+1):=by
 refine Expr.ind (P:=λx=>∀limit:Int,0<=limit->limit<=256->dv x limit=min (cnt x:Int) (limit+1)) ?_ x
 intro x ih limit h0 h1
 rw[Pu,Pg]
 unfold dv.F
 have key:∀(l:List Expr)(a:Int),(∀y∈l,y∈x.L)->1<=a->a<=limit+1->dv.L1 dv limit dv.K1 l a=min (a+((l.map cnt).sum:Nat)) (limit+1):=by
  intro l
  induction l with
  |nil=>intro a _ _ ha;simp only[dv.L1,dv.K1,List.map_nil,List.sum_nil];omega
  |cons y l ih2=>
   intro a hl h2 h3
   simp only[dv.L1,Bool.cond_eq_ite,decide_eq_true_eq,kH,List.sum_cons]
   by_cases ha:a<=limit
   .rw[if_pos ha,wrap64 (z:=limit-a) (by omega),ih y (hl y (jB ..)) (limit-a) (by omega) (by omega)]
    have hc:1<=cnt y:=by rw[Pg];omega
    rw[wrap64 (by omega),ih2 _ (λz hz=>hl z (xB _ hz)) (by omega) (by omega)]
    omega
   .rw[if_neg ha]
    simp only[dv.K1]
    omega
 rw[key x.L 1 (λy hy=>hy) (by omega) (by omega)]
 omega
theorem JP{x:Expr}(hx:x.dep<=1500000)(h:jI x=false):(bj x 1).length<=256/\∀z∈bj x 1,z.depth<=16:=by
 simp only[jI,Bool.or_eq_false_iff,decide_eq_false_iff_not]at h
 have h1:=HH x 256 (by decide) (by decide)
 have h2:=Ki x hx 1 16 (by omega)
 refine⟨?_,λz hz=>by have:=h2 z hz;omega⟩
 show cnt x<=256
 omega
theorem CJ(s:ByteArray):∀(m i:Nat)(r:List UInt8),s.size-i=m->(ByteArray.toList.loop s i r).length=r.length+m
 |0,i,r,h=>by rw[ByteArray.toList.loop];rw[if_neg (by omega)];simp
 |m+1,i,r,h=>by
  rw[ByteArray.toList.loop,if_pos (by omega),CJ s m (i+1) _ (by omega),xA]
  omega
theorem uX(s:ByteArray):s.toList.length=s.size:=by
 have:=CJ s s.size 0 [] (by omega)
 simpa[ByteArray.toList]using this
theorem Qm(c:Bool)(a b d:α):(bif c then(bif c then a else b)else d)=bif c then a else d:=by cases c<;>rfl
theorem Rb(c x:Bool):(bif c then false else x)=(!c&&x):=by cases c<;>rfl
theorem Ra(c x:Bool):(bif c then true else x)=(c||x):=by cases c<;>simp
theorem Ht(s:ByteArray):dN s=(dJ s&&!(oh s)):=by
 unfold dN oh
 simp only[Qm]
 simp only[Rb,Ra,Bool.not_or,Bool.or_false]
 ac_rfl
theorem BH(c:Int):(kc c != 2)=!(lh c):=by
 unfold kc lh
 cases((decide (97<=c)&&decide (c<=122))||(decide (65<=c)&&decide (c<=90)))<;>cases(decide (48<=c)&&decide (c<=57))<;>cases(c==95)<;>cases((((c==32)||(c==9))||(c==10))||(c==13))<;>cases(decide (0<=(strings_IndexByte (⟨#[123,125,40,41,59,44,61,58,46,60,62,33,43,45,42,47]⟩:ByteArray) c)))<;>rfl
theorem Lu(c:Int):(((kc c != 2)&&(kc c != 3))&&(kc c != 5))=!(sM c):=by
 unfold kc sM lh nB
 cases((decide (97<=c)&&decide (c<=122))||(decide (65<=c)&&decide (c<=90)))<;>cases(decide (48<=c)&&decide (c<=57))<;>cases(c==95)<;>cases((((c==32)||(c==9))||(c==10))||(c==13))<;>cases(decide (0<=(strings_IndexByte (⟨#[123,125,40,41,59,44,61,58,46,60,62,33,43,45,42,47]⟩:ByteArray) c)))<;>rfl
theorem Ig(s:ByteArray):∀(l:List Nat)(i:Nat),dJ.L1 s dJ.K1 l i=gI.L1 s gI.K1 l i
 |[],i=>rfl
 |y::l,i=>by simp only[dJ.L1,gI.L1,Lu,Ig s l]
theorem Mc(h:gI s=true):dJ s=true:=by
 unfold gI at h
 unfold dJ
 rw[BH,Ig]
 rw[Bool.cond_eq_ite]at h ⊢
 split at h
 .cases h
 .next hc=>
  simp only[xD,not_or,decide_eq_true_eq]at hc
  obtain⟨⟨h1,h2⟩,h3⟩:=hc
  have e:(s.toList==(⟨#[]⟩:ByteArray).toList)=false:=by
   rw[Bool.eq_false_iff]
   intro he
   have he:=eq_of_beq he
   have h9:=uX s
   rw[he,uX]at h9
   have:(⟨#[]⟩:ByteArray).size=0:=rfl
   omega
  rw[e,if_neg]
  .exact h
  .simp only[Bool.false_or,xD,not_or,decide_eq_true_eq]
   exact⟨h2,h3⟩
theorem Mm(h:nd s=true):dN s=true:=by
 simp only[nd,zB]at h
 rw[Ht,Mc h.1,h.2];rfl
theorem Hd(s:ByteArray):∀(l:List ByteArray)(i:Nat),et.L1 s et.K1 l i=aP.L1 s aP.K1 l i
 |[],i=>rfl
 |y::l,i=>by
  have:(y.toList==s.toList)=(s.toList==y.toList):=by rw[vM,beq_iff_eq,beq_iff_eq];exact eq_comm
  simp only[et.L1,aP.L1,this,Hd s l]
theorem rindex(l:List ByteArray)(s:ByteArray):et l s=aP l s:=Hd s l 0
theorem Dl{l:List ByteArray}(h:eK l=true):bD l dN=true:=by
 have key:∀(L l:List ByteArray)(i:Nat),eK.L1 L eK.K1 l i=true->bD.L1 L dN bD.K1 l i=true:=by
  intro L l
  induction l with
  |nil=>intros;rfl
  |cons y l ih=>
   intro i h
   simp only[eK.L1,Bool.cond_eq_ite]at h
   split at h
   .cases h
   .next hc=>
    simp only[xD,not_or,qE,Bool.not_eq_false,Bool.not_eq_true]at hc
    simp only[bD.L1,Mm hc.1,←rindex,hc.2,Bool.not_true,Bool.or_self,cond_false]
    exact ih _ h
 exact key l l 0 h
theorem tT(off:List ByteArray){f g:List ByteArray->Expr->Bool}(k:Bool):∀(l:List Expr),(∀y∈l,f off y=g off y)->bK.L1 f off k l=bK.L1 g off k l
 |[],_=>rfl
 |y::l,h=>by simp only[bK.L1,h y (jB ..),tT off k l λz hz=>h z (xB _ hz)]
theorem JD(off:List ByteArray)(x:Expr):bK off x=bK.F bK off x:=by
 have:=Cs (λf x=>bK.F (λ_ y=>f y) off x) (λm x=>bK.go m off x) (λm=>?_) (λf g x h=>?_) x
 .refine Eq.trans this ?_
  show bK.F _ off x=_
  unfold bK.F
  rw[tT off (f:=λ_ y=>bK.go y.dep off y) (g:=bK) _ x.L λy hy=>rfl]
 .funext x
  show bK.F (bK.go m) off x=bK.F _ off x
  unfold bK.F
  rw[tT off (f:=bK.go m) (g:=λ_ y=>bK.go m off y) _ x.L λy hy=>rfl]
 .show bK.F _ off x=bK.F _ off x
  unfold bK.F
  rw[tT off (f:=λ_ y=>f y) (g:=λ_ y=>g y) _ x.L h]
theorem Hn(off:List ByteArray):∀(l:List Expr),bK.L1 bK off bK.K1 l=true->∀y∈l,bK off y=true
 |[],_=>λ_ h=>(kA h).elim
 |y::l,h=>by
  simp only[bK.L1,Bool.cond_eq_ite]at h
  split at h
  .cases h
  .next hc=>
   intro z hz
   rcases qC.1 hz with rfl|hz
   .simpa using hc
   .exact Hn off l h z hz
theorem JC(off:List ByteArray)(x:Expr):bK off x=true->∀d,∀z∈bj x d,((!(dk z.x))||da off z.x.Name)=true:=by
 refine Expr.ind (P:=λx=>bK off x=true->∀d,∀z∈bj x d,((!(dk z.x))||da off z.x.Name)=true) ?_ x
 intro x ih h d z hz
 rw[JD]at h
 unfold bK.F at h
 rw[Bool.cond_eq_ite]at h
 split at h
 .cases h
 .next hc=>
  rw[nh]at hz
  rcases qC.1 hz with rfl|hz
  .show((!(dk x))||da off x.Name)=true
   unfold da dk
   rw[rindex]at hc
   by_cases h2:aP off x.Name<0
   .have:decide (aP off x.Name<0)=true:=by simpa using h2
    rw[this,Bool.and_true]at hc
    simp only[Bool.not_eq_true]at hc
    rw[hc];rfl
   .have:decide (0<=aP off x.Name)=true:=by simp;omega
    rw[this,Bool.or_true]
  .obtain⟨y,hy,hz⟩:=List.mem_flatMap.1 hz
   exact ih y hy (Hn off x.L h y hy) (d+1) z hz
theorem rY(u:Bool){f g:Expr->Bool->Bool}(k:Bool):∀(l:List Expr),(∀y∈l,f y u=g y u)->aC.L1 f u k l=aC.L1 g u k l
 |[],_=>rfl
 |y::l,h=>by simp only[aC.L1,h y (jB ..),rY u k l λz hz=>h z (xB _ hz)]
theorem Hv(x:Expr)(u:Bool):aC x u=aC.F aC x u:=by
 have:=Cs (λf x=>aC.F (λy _=>f y) x u) (λm x=>aC.go m x u) (λm=>?_) (λf g x h=>?_) x
 .refine Eq.trans this ?_
  show aC.F _ x u=_
  unfold aC.F
  rw[rY u (f:=λy _=>aC.go y.dep y u) (g:=aC) _ x.L λy hy=>rfl]
 .funext x
  show aC.F (aC.go m) x u=aC.F _ x u
  unfold aC.F
  rw[rY u (f:=aC.go m) (g:=λy _=>aC.go m y u) _ x.L λy hy=>rfl]
 .show aC.F _ x u=aC.F _ x u
  unfold aC.F
  rw[rY u (f:=λy _=>f y) (g:=λy _=>g y) _ x.L h]
theorem FD(u k:Bool):∀(l:List Expr),aC.L1 aC u k l=true->(∀y∈l,aC y u=true)/\k=true
 |[],h=>⟨λ_ h=>(kA h).elim,h⟩
 |y::l,h=>by
  simp only[aC.L1,Bool.cond_eq_ite]at h
  split at h
  .cases h
  .next hc=>
   obtain⟨h1,h2⟩:=FD u k l h
   refine⟨λz hz=>?_,h2⟩
   rcases qC.1 hz with rfl|hz
   .simpa using hc
   .exact h1 z hz
theorem Nc{x:Expr}{u:Bool}(h:aC.K1 x u=true):(aK x.Kind 1 4&&kindsP x.Kind x)=true/\(u=false->x.Kind≠4):=by
 unfold aC.K1 at h
 simp only[Bool.cond_eq_ite,beq_iff_eq]at h
 split at h
 .next e=>
  rw[e]
  refine⟨?_,λ_=>by decide⟩
  show(_&&ka x)=true
  unfold ka
  rw[h];rfl
 .split at h
  .next e=>
   rw[e]
   refine⟨?_,λ_=>by decide⟩
   show(_&&j9 x)=true
   unfold j9 aK
   rw[h];rfl
  .split at h
   .next e=>
    rw[e]
    refine⟨?_,λ_=>by decide⟩
    show(_&&j8 x)=true
    unfold j8 aK
    simp only[zB]at h ⊢
    exact⟨⟨rfl,rfl⟩,⟨h.1.1.1.1,h.1.1.1.2,h.1.1.2⟩,h.1.2,h.2⟩
   .split at h
    .next e=>
     rw[e]
     simp only[zB]at h
     refine⟨?_,λhu=>by rw[hu]at h;simp at h⟩
     show(_&&jd x)=true
     unfold jd aK
     simp only[zB]
     exact⟨⟨rfl,rfl⟩,⟨h.1.1.1.2,h.1.1.2⟩,h.1.2,h.2⟩
    .cases h
theorem Hu(u:Bool)(x:Expr):aC x u=true->∀d,∀z∈bj x d,(aK z.x.Kind 1 4&&kindsP z.x.Kind z.x)=true/\(u=false->z.x.Kind≠4):=by
 refine Expr.ind (P:=λx=>aC x u=true->∀d,∀z∈bj x d,(aK z.x.Kind 1 4&&kindsP z.x.Kind z.x)=true/\(u=false->z.x.Kind≠4)) ?_ x
 intro x ih h d z hz
 rw[Hv]at h
 obtain⟨h1,h2⟩:=FD u _ x.L h
 rw[nh]at hz
 rcases qC.1 hz with rfl|hz
 .exact Nc h2
 .obtain⟨y,hy,hz⟩:=List.mem_flatMap.1 hz
  exact ih y hy (h1 y hy) (d+1) z hz
theorem rl1(rec:List ByteArray->Expr->Expr)(off:List ByteArray)(k:List Expr->Expr):∀(l g:List Expr),ah.L1 rec off k l g=k (g++l.map (rec off))
 |[],g=>by simp[ah.L1]
 |y::l,g=>by simp[ah.L1,rl1 rec off k l]
theorem rl2(rec:List ByteArray->Expr->Expr)(off:List ByteArray)(k:List Expr->Expr):∀(l g:List Expr),ah.L2 rec off k l g=k (g++l.map (rec off))
 |[],g=>by simp[ah.L2]
 |y::l,g=>by simp[ah.L2,rl2 rec off k l]
def rno(off:List ByteArray)(x:Expr):Int:=bif dk x then aP off x.Name else 0
theorem K0(rec:List ByteArray->Expr->Expr)(off:List ByteArray)(x:Expr):ah.F rec off x=vG x.Kind x.N (rno off x) x.Name (x.L.map (rec off)):=by
 unfold ah.F rno dk
 cases((x.Kind==1)||(x.Kind==2))
 .rw[cond_false,rl2];rfl
 .rw[cond_true,rl1];unfold ah.K1;rw[rindex];rfl
theorem CQ(off:List ByteArray)(x:Expr):ah off x=vG x.Kind x.N (rno off x) x.Name (x.L.map (ah off)):=by
 have:=Cs (λf x=>vG x.Kind x.N (rno off x) x.Name (x.L.map f)) (λm x=>ah.go m off x) (λm=>?_) (λf g x h=>?_) x
 .exact this
 .funext x
  show ah.F (ah.go m) off x=_
  rw[K0]
 .show vG _ _ _ _ _=vG _ _ _ _ _
  rw[List.map_congr_left h]
theorem Er(b:Expr){f g:Expr->Expr->Bool}(k:Bool):∀(l:List Expr)(i:Nat),(∀y∈l,f y=g y)->bh.L1 f b k l i=bh.L1 g b k l i
 |[],_,_=>rfl
 |y::l,i,h=>by simp only[bh.L1,h y (jB ..),Er b k l (i+1) λz hz=>h z (xB _ hz)]
theorem LV(x:Expr):bh x=bh.F bh x:=by
 refine Cs bh.F bh.go (λm=>rfl) (λf g x h=>?_) x
 funext b
 unfold bh.F
 rw[Er b _ x.L 0 h]
theorem LW(b:Expr):∀(l:List Expr)(i:Nat),bh.L1 bh b bh.K1 l i=true->∀(j:Nat)(y:Expr),l[j]? = some y->bh y (nthI b.L ((i+j:Nat):Int))=true
 |[],_,_,j,y,hj=>by simp at hj
 |z::l,i,h,j,y,hj=>by
  simp only[bh.L1,Bool.cond_eq_ite]at h
  split at h
  .cases h
  .next hc=>
   cases j with
   |zero=>simp at hj;subst hj;simpa using hc
   |succ j=>have:=LW b l (i+1) h j y (by simpa using hj);rw[show i+(j+1)=i+1+j from by omega];exact this
theorem PM(off:List ByteArray)(x:Expr):bh (ah off x) x=true->∀d,∀z∈bj x d,z.x.No=rno off z.x:=by
 refine Expr.ind (P:=λx=>bh (ah off x) x=true->∀d,∀z∈bj x d,z.x.No=rno off z.x) ?_ x
 intro x ih h d z hz
 rw[LV,CQ]at h
 unfold bh.F at h
 rw[Bool.cond_eq_ite]at h
 split at h
 .cases h
 .next hc=>
  simp only[xD,not_or,bne_iff_ne,ne_eq,Classical.not_not]at hc
  have hno:rno off x=x.No:=hc.1.1.2
  rw[nh]at hz
  rcases qC.1 hz with rfl|hz
  .exact hno.symm
  .obtain⟨y,hy,hz⟩:=List.mem_flatMap.1 hz
   obtain⟨j,hj⟩:=Tn hy
   have h2:=LW x _ 0 h j (ah off y) (by show(List.map (ah off) x.L)[j]? = _;rw[R9,hj];rfl)
   have hlt:=(List.getElem?_eq_some_iff.1 hj).1
   have hg:=cV (xs:=x.L) (z:=((0+j:Nat):Int)) (by omega)
   rw[show(((0+j:Nat):Int)).toNat=j from by omega,hj]at hg
   rw[←R4 hg]at h2
   exact ih y hy h2 (d+1) z hz
theorem CP{off:List ByteArray}{x:Expr}(h:bh (ah off x) x=true):bO off x=true:=by
 unfold bO bO.K1
 rw[qs]
 exact PM off x h 1
def rrules(off:List ByteArray):List Rule->Nat->List Rule
 |[],_=>[]
 |y::l,i=>Ti y.Kind (i:Int) y.Think (ah off y.Expr)::rrules off l (i+1)
theorem Ex(off:List ByteArray):∀(l:List Rule)(i j:Nat)(y:Rule),l[j]? = some y->(rrules off l i)[j]? = some (Ti y.Kind ((i+j:Nat):Int) y.Think (ah off y.Expr))
 |[],_,j,y,h=>by simp at h
 |z::l,i,0,y,h=>by simp at h;subst h;rfl
 |z::l,i,j+1,y,h=>by
  have:=Ex off l (i+1) j y (by simpa using h)
  rw[show i+(j+1)=i+1+j from by omega]
  exact this
theorem Aw(p:Policy):∀(l:List Rule)(i:Nat)(g:List Rule),dQ.L1 p (dQ.K1 p) l i g=(kN p.Name p.Kinds p.Offices (g++rrules p.Offices l i) (ah p.Offices p.Change) p.Mode,0)
 |[],i,g=>by
  simp only[dQ.L1,dQ.K1,rrules,List.append_nil,Expr.eta]
 |y::l,i,g=>by
  simp only[dQ.L1,Aw p l,rrules,Expr.eta,List.append_assoc,List.singleton_append]
theorem MB(b:Policy):∀(l:List Rule)(i:Nat),ii.L1 b ii.K1 l i=true->∀(j:Nat)(y:Rule),l[j]? = some y->y.KindNo=(nthI b.Rules ((i+j:Nat):Int)).KindNo/\bh y.Expr (nthI b.Rules ((i+j:Nat):Int)).Expr=true
 |[],_,_,j,y,hj=>by simp at hj
 |z::l,i,h,j,y,hj=>by
  simp only[ii.L1,Bool.cond_eq_ite]at h
  split at h
  .cases h
  .next hc=>
   simp only[xD,not_or,bne_iff_ne,ne_eq,Classical.not_not,qE,Bool.not_eq_false]at hc
   cases j with
   |zero=>simp at hj;subst hj;exact⟨hc.1.1.2,hc.2⟩
   |succ j=>have:=MB b l (i+1) h j y (by simpa using hj);rw[show i+(j+1)=i+1+j from by omega];exact this
theorem Hm(p:Policy)(k:Bool):∀(l:List Rule),gO.L1 p k l=true->(∀r∈l,bK p.Offices r.Expr=true)/\k=true
 |[],h=>⟨λ_ h=>(kA h).elim,h⟩
 |y::l,h=>by
  simp only[gO.L1,Bool.cond_eq_ite]at h
  split at h
  .cases h
  .next hc=>
   obtain⟨h1,h2⟩:=Hm p k l h
   refine⟨λz hz=>?_,h2⟩
   rcases qC.1 hz with rfl|hz
   .simpa using hc
   .exact h1 z hz
theorem JQ(k:Bool):∀(l:List Rule),fa.L1 k l=false->∀r∈l,jI r.Expr=false
 |[],_=>λ_ h=>(kA h).elim
 |y::l,h=>by
  simp only[fa.L1,Bool.cond_eq_ite]at h
  split at h
  .cases h
  .next hc=>
   intro z hz
   rcases qC.1 hz with rfl|hz
   .simpa using hc
   .exact JQ k l h z hz
theorem FE(p:Policy)(k:Bool):∀(l:List Rule)(i:Nat),fQ.L1 p k l i=true->(∀(j:Nat)r,l[j]? = some r->((r.Kind.toList==(nthI p.Kinds (((i+j:Nat):Int))).toList)=true/\0<=r.Think/\r.Think<1099511627776)/\aC r.Expr true=true)/\k=true
 |[],i,h=>⟨λj r hj=>by simp at hj,h⟩
 |y::l,i,h=>by
  simp only[fQ.L1,Bool.cond_eq_ite]at h
  split at h
  .cases h
  .next hc=>
   simp only[xD,not_or,decide_eq_true_eq,qE,Bool.not_eq_false]at hc
   obtain⟨h1,h2⟩:=FE p k l (i+1) h
   refine⟨λj r hj=>?_,h2⟩
   cases j with
   |zero=>simp at hj;subst hj;exact⟨⟨hc.1.1.1,by omega,by omega⟩,hc.2⟩
   |succ j=>have:=h1 j r (by simpa using hj);rw[show i+(j+1)=i+1+j from by omega];exact this
theorem Ph{p:Policy}(hs:smP p)(h:gk p=0):cQ p=0:=by
 unfold gk at h
 rw[Bool.cond_eq_ite]at h
 split at h
 .next hc=>exact absurd h (by simpa using hc)
 .next hR=>
  rw[Bool.cond_eq_ite]at h
  split at h
  .omega
  .next hS=>
   simp only[qE,Bool.not_eq_false]at hS
   unfold dQ at hR hS
   cases hl:fa p with
   |true=>rw[hl]at hR;simp at hR
   |false=>
    rw[hl]at hR hS
    cases hn:gO p with
    |false=>rw[hn]at hR;simp at hR
    |true=>
     rw[hn]at hR hS
     cases hf:fQ p with
     |false=>rw[hf]at hR;simp at hR
     |true=>
      rw[hf]at hS
      simp only[Bool.not_true,cond_false,Aw,xG]at hS
      clear hR h
      unfold fa at hl
      rw[Bool.cond_eq_ite]at hl
      split at hl
      .cases hl
      .next h1=>
       simp only[xD,not_or,decide_eq_true_eq,Bool.not_eq_true]at h1
       have h2:=JQ _ _ hl
       unfold gO at hn
       rw[Bool.cond_eq_ite]at hn
       split at hn
       .cases hn
       .next h3=>
        simp only[xD,not_or,qE,Bool.not_eq_false]at h3
        obtain⟨h4,h5⟩:=Hm p _ _ hn
        unfold fQ at hf
        rw[Bool.cond_eq_ite]at hf
        split at hf
        .cases hf
        .next h6=>
         simp only[xD,not_or,decide_eq_true_eq,bne_iff_ne,ne_eq,Classical.not_not]at h6
         obtain⟨h7,h8⟩:=FE p _ _ 0 hf
         unfold ii at hS
         rw[Bool.cond_eq_ite]at hS
         split at hS
         .cases hS
         .next h9=>
          simp only[xD,not_or,qE,Bool.not_eq_false]at h9
          have h10:=MB p _ 0 hS
          have hexp:∀x,x∈aw p->(∃r∈p.Rules,r.Expr=x)\/x=p.Change:=by
           intro x hx
           rw[mM]at hx
           simp only[kF,kM,xC]at hx
           exact hx
          rw[BI,tA,AI,E0]
          refine⟨⟨⟨⟨by omega,by omega,by omega⟩,λx hx=>?_⟩,⟨⟨Mm h3.1.1,Dl h3.1.2,Dl h3.2⟩,λx hx=>?_⟩,?_⟩,λj r hj=>?_,CP h9.2⟩
          .rcases hexp x hx with⟨r,hr,rfl⟩|rfl
           .exact JP (hs.2.1 r hr) (h2 r hr)
           .exact JP hs.2.2.1 h1.2
          .rcases hexp x hx with⟨r,hr,rfl⟩|rfl
           .exact JC p.Offices _ (h4 r hr) 1
           .exact JC p.Offices _ h5 1
          .unfold bq bq.K1 bq.K2
           rw[qg,Bu,D2]
           refine⟨?_,λj r hj=>?_,λj x hj z hz=>?_⟩
           .simp only[zB,decide_eq_true_eq,beq_iff_eq,aK]
            exact⟨⟨by omega,h6.1.1.2⟩,by omega,by omega⟩
           .have:=(h7 j r hj).1
            simp only[zB,decide_eq_true_eq,aK]
            exact⟨this.1,this.2.1,by omega⟩
           .have hlen:(aw p).length=p.Rules.length+1:=by rw[mM];simp
            rw[mM]at hj
            rcases Nat.lt_or_ge j p.Rules.length with hjl|hjl
            .rw[List.getElem?_append_left (by simpa using hjl),R9]at hj
             obtain⟨r,hr,rfl⟩:=Option.map_eq_some_iff.1 hj
             refine⟨(Hu true _ (h7 j r hr).2 1 z hz).1,?_⟩
             rw[hlen,wrap64 (by omega)]
             have:decide (((0+j:Nat):Int)<((p.Rules.length+1:Nat):Int)-1)=true:=by rw[decide_eq_true_eq];omega
             rw[this];rfl
            .rw[List.getElem?_append_right (by simpa using hjl)]at hj
             have hj2:=xC.1 (List.mem_of_getElem? hj)
             subst hj2
             obtain⟨k1,k2⟩:=Hu false _ h8 1 z hz
             refine⟨k1,?_⟩
             have:(z.x.Kind != 4)=true:=by simpa using k2 rfl
             rw[this,Bool.or_true]
          .have h11:=h10 j _ (Ex p.Offices p.Rules 0 j r hj)
           have hlt:=(List.getElem?_eq_some_iff.1 hj).1
           have hg:=cV (xs:=p.Rules) (z:=((0+j:Nat):Int)) (by omega)
           rw[show(((0+j:Nat):Int)).toNat=j from by omega,hj]at hg
           rw[←R4 hg]at h11
           dsimp only at h11
           exact⟨by rw[←h11.1];simp,CP h11.2⟩
def Pv(v:Version):Prop:=(0<=v.No/\v.No<=1048576)/\(0<=v.At/\v.At<1099511627776)/\(0<=v.Known/\v.Known<1099511627776)/\gk v.Policy=0
theorem Mu{L:List Version}{y:Version}{l:List Version}{i:Nat}(h:dM.L1 L dM.K1 (y::l) i=0):Pv y/\(0<i->(nthI L ((i:Int)-1)).No<y.No)/\dM.L1 L dM.K1 l (i+1)=0:=by
 simp only[dM.L1,Bool.cond_eq_ite]at h
 split at h
 .omega
 .next hc=>
  simp only[xD,not_or,decide_eq_true_eq,zB,qE,Bool.not_eq_false,bne_iff_ne,ne_eq,Classical.not_not,fD]at hc
  obtain⟨⟨⟨⟨h1,h2⟩,h3⟩,h4⟩,h5⟩:=hc
  exact⟨⟨by omega,h3,h4,h5⟩,λhi=>by omega,h⟩
theorem Mv(L:List Version):∀(l pre:List Version)(x:Version),L=(pre++[x])++l->dM.L1 L dM.K1 l (pre.length+1)=0->(∀y∈l,Pv y)/\(x::l).Pairwise (λa b=>a.No<b.No)
 |[],_,_,_,_=>⟨λ_ h=>(kA h).elim,by simp⟩
 |y::l,pre,x,h,hr=>by
  have hx:nthI L (((pre.length+1:Nat):Int)-1)=x:=by
   have hb:0<=(((pre.length+1:Nat):Int)-1)/\(((pre.length+1:Nat):Int)-1)<(L.length:Int):=by rw[h];simp;omega
   have hg:=cV hb
   rw[show((((pre.length+1:Nat):Int)-1)).toNat=pre.length from by omega,h]at hg
   rw[h];simpa using hg.symm
  obtain⟨h1,h2,h3⟩:=Mu hr
  have h2:=h2 (by omega)
  rw[hx]at h2
  have ih:=Mv L l (pre++[x]) y (by rw[h];simp)
  rw[jA,xA,vB,Nat.zero_add]at ih
  obtain⟨i1,i2⟩:=ih h3
  refine⟨λz hz=>?_,List.pairwise_cons.2 ⟨λz hz=>?_,i2⟩⟩
  .rcases qC.1 hz with rfl|hz
   .exact h1
   .exact i1 z hz
  .rcases qC.1 hz with rfl|hz
   .exact h2
   .have:=(List.pairwise_cons.1 i2).1 z hz;omega
theorem Ku{l:List Version}(hs:smV l)(h:dM l=0):bF l=0:=by
 rw[rl]
 unfold dM at h
 rw[Bool.cond_eq_ite]at h
 split at h
 .omega
 .next hl=>
  simp only[decide_eq_true_eq]at hl
  have key:(∀y∈l,Pv y)/\l.Pairwise (λa b=>a.No<b.No):=by
   cases l with
   |nil=>exact⟨λ_ h=>(kA h).elim,List.Pairwise.nil⟩
   |cons y l=>
    obtain⟨h1,_,h3⟩:=Mu h
    obtain⟨i1,i2⟩:=Mv (y::l) l [] y rfl h3
    refine⟨λz hz=>?_,i2⟩
    rcases qC.1 hz with rfl|hz
    .exact h1
    .exact i1 z hz
  refine⟨by omega,λv hv=>?_,key.2⟩
  have:=key.1 v hv
  obtain⟨h1,h2,h3,h4⟩:=this
  exact⟨by omega,by omega,h1,Ph (hs.2 v hv) h4⟩
theorem pR{α : Type}{R:α->Bool}{no:α->Int}{c:Int}(hc:c≠0):∀(l:List α)(g:Int),prgChk R no c l g=0↔(∀y∈l,R y=true/\g<no y)/\l.Pairwise (λa b=>no a<no b)
 |[],g=>by simp[prgChk]
 |y::l,g=>by
  have ih:=pR hc l (no y) (R:=R) (no:=no)
  simp only[prgChk,Bool.cond_eq_ite,xD,qE,decide_eq_true_eq]
  split
  .next h=>simp only[hc,false_iff];rintro⟨h1,_⟩;have:=h1 y (jB ..);rcases h with h|h<;>simp_all;omega
  .next h=>
   rw[ih]
   simp only[not_or,Bool.not_eq_false,Int.not_le]at h
   constructor
   .rintro⟨h1,h2⟩
    refine⟨λz hz=>?_,List.pairwise_cons.2 ⟨λz hz=>(h1 z hz).2,h2⟩⟩
    rcases qC.1 hz with rfl|hz
    .exact h
    .have:=h1 z hz;exact⟨this.1,by omega⟩
   .rintro⟨h1,h2⟩
    obtain⟨p1,p2⟩:=List.pairwise_cons.1 h2
    exact⟨λz hz=>⟨(h1 z (xB _ hz)).1,p1 z hz⟩,p2⟩
theorem lZ(h:e=0):exOk (lW e):=by subst h;trivial
structure iH(c:bI):Prop where
 chk:dD c.Register=0
 doc:c.doc∈c.Register.Docs
 time:0<=c.at_/\c.at_<1099511627776
 know:0<=c.known/\c.known<1099511627776
theorem iH.good{c:bI}(h:iH c):MF c.doc:=Hy ((kO _).1 h.chk).2.2.2.2.2.1 _ h.doc
theorem iH.vers{c:bI}(h:iH c):HK c.Register.Versions:=(rl _).1 ((kO _).1 h.chk).2.2.2.2.1
theorem iH.kind{c:bI}(h:iH c):0<=c.doc.Kind/\c.doc.Kind<16:=h.good.kind
theorem approvalsP(l:List Approval)(g:Int):aX.L1 aX.K1 l g=prgChk fC (·.No) 280 l g:=by
 induction l generalizing g with
 |nil=>rfl
 |cons y l ih=>simp only[aX.L1,prgChk,ih]
theorem Au{l:List Approval}(h:aX l=0):∀x∈l,fC x=true:=by
 unfold aX at h
 rw[approvalsP]at h
 cases hd:decide (4096<(l.length:Int))with
 |true=>rw[hd]at h;simp at h
 |false=>rw[hd,cond_false,pR (by decide)]at h;exact λx hx=>(h.1 x hx).1
theorem KB(h:fC x=true):(0<=x.Doc/\x.Doc<4096)/\(0<=x.By/\x.By<64)/\(0<=x.For/\x.For<64)/\(0<=x.Office/\x.Office<32)/\(0<=x.At/\x.At<1099511627776):=by
 simp only[fC,cy,containsF,gh,List.any_cons,List.any_nil,Bool.or_false,zB,qE,Bool.or_eq_false_iff,decide_eq_false_iff_not]at h
 omega
theorem budgetsP(l:List Budget)(g:Int):cu.L1 cu.K1 l g=prgChk kh (·.No) 180 l g:=by
 induction l generalizing g with
 |nil=>rfl
 |cons y l ih=>simp only[cu.L1,prgChk,ih]
theorem uO{l:List Budget}(h:cu l=0):∀x∈l,kh x=true:=by
 unfold cu at h
 rw[budgetsP]at h
 cases hd:decide (4096<(l.length:Int))with
 |true=>rw[hd]at h;simp at h
 |false=>rw[hd,cond_false,pR (by decide)]at h;exact λx hx=>(h.1 x hx).1
theorem zk{x:Budget}(h:kh x=true):x.Period≠0:=by
 simp only[kh,aN,containsF,iE,List.any_cons,List.any_nil,Bool.or_false,Bool.cond_eq_ite]at h
 split at h<;>simp only[zB,qE,Bool.or_eq_false_iff,decide_eq_false_iff_not]at h<;>omega
theorem GG{l:List Budget}{kind t:Int}{x:Budget}(h:x∈bS l kind t known):x∈l:=by
 have h2:∀(g:List (gH×Budget))(s acc:List Budget),x∈bS.L2 g bS.K2 s acc->x∈acc\/x∈s:=by
  intro g s
  induction s with
  |nil=>intro acc h;exact .inl h
  |cons y s ih=>
   intro acc h
   simp only[bS.L2,Bool.cond_eq_ite]at h
   split at h
   .rcases ih _ h with h|h
    .rcases kF.1 h with h|h
     .exact .inl h
     .exact .inr (qC.2 (.inl (xC.1 h)))
    .exact .inr (xB _ h)
   .rcases ih _ h with h|h
    .exact .inl h
    .exact .inr (xB _ h)
 have h1:∀(s:List Budget)(g:List (gH×Budget)),x∈bS.L1 kind t known (bS.K1 l) s g->x∈l:=by
  intro s
  induction s with
  |nil=>intro g h;rcases h2 g l [] h with h|h;exact(kA h).elim;exact h
  |cons y s ih=>intro g h;simp only[bS.L1,Bool.cond_eq_ite]at h;(repeat' split at h)<;>exact ih _ h
 exact h1 _ _ h
theorem Jh{l:List Budget}{kind t:Int}{x:Budget}(h:cu l=0)(hx:x∈bS l kind t known):x.Period≠0:=zk (uO h x (GG hx))
theorem GJ{l:List Approval}{doc t:Int}(h:x∈aB l doc t known):x∈l:=by
 have hc:∀(s:List Approval),x∈bx.L1 doc t known bx.K1 s->x∈s:=by
  intro s
  induction s with
  |nil=>intro h;exact(kA h).elim
  |cons y s ih=>
   intro h
   simp only[bx.L1,Bool.cond_eq_ite]at h
   split at h
   .rcases qC.1 h with rfl|h
    .exact jB ..
    .exact xB _ (ih h)
   .exact xB _ (ih h)
 have h2:∀(g:List (eu×Approval))(s acc:List Approval),x∈aB.L2 g aB.K2 s acc->x∈acc\/x∈s:=by
  intro g s
  induction s with
  |nil=>intro acc h;exact .inl h
  |cons y s ih=>
   intro acc h
   simp only[aB.L2,Bool.cond_eq_ite]at h
   split at h
   .rcases ih _ h with h|h
    .rcases kF.1 h with h|h
     .exact .inl h
     .exact .inr (qC.2 (.inl (xC.1 h)))
    .exact .inr (xB _ h)
   .rcases ih _ h with h|h
    .exact .inl h
    .exact .inr (xB _ h)
 have h1:∀(s:List Approval)(g:List (eu×Approval)),x∈aB.L1 (aB.K1 l doc t known) s g->x∈l:=by
  intro s
  induction s with
  |nil=>
   intro g h
   rcases h2 g (eC l doc t known) [] h with h|h
   .exact(kA h).elim
   .exact hc _ h
  |cons y s ih=>intro g h;simp only[aB.L1,Bool.cond_eq_ite]at h;split at h<;>exact ih _ h
 exact h1 _ _ h
theorem Iw{l:List Approval}{doc t:Int}(h:x∈(cm l doc b th t known).1):x∈l:=by
 unfold cm at h
 simp only[Bool.cond_eq_ite]at h
 split at h
 .exact(kA h).elim
 .split at h
  .exact(kA h).elim
  .exact GJ (kS.1 h).1
section
variable {c:bI} (h:iH c)
include h
theorem Ls{p:Int}(hp:0<=p/\p<64):(ff c.Register.Interests p c.doc.Parties c.at_ c.known).2.2=0:=
 IB ((kO _).1 h.chk).2.2.1 hp h.good.parties h.time h.know
theorem yd{p:Policy}(hpr:p.Rules.length=p.Kinds.length/\∀y∈p.Rules,0<=y.Think/\y.Think<=1099511627775)(hk:0<=c.doc.Kind/\c.doc.Kind<(p.Rules.length:Int)):
  (cm c.Register.Approvals c.doc.No c.doc.At (nthI p.Rules c.doc.Kind).Think c.at_ c.known).2=0:=by
 have hth:=hpr.2 _ (ni hk)
 have h1:=h.good.no
 have h2:=h.good.at_
 have h3:=h.time
 have h4:=h.know
 have e1:cy 4095 [c.doc.No]=true:=by
  simp only[cy,containsF,gh,List.any_cons,List.any_nil,Bool.or_false,qE,Bool.or_eq_false_iff,decide_eq_false_iff_not];omega
 have e2:cy 1099511627775 [c.doc.At,(nthI p.Rules c.doc.Kind).Think,c.at_,c.known]=true:=by
  simp only[cy,containsF,gh,List.any_cons,List.any_nil,Bool.or_false,qE,Bool.or_eq_false_iff,decide_eq_false_iff_not];omega
 unfold cm
 rw[((kO _).1 h.chk).2.2.2.2.2.2,e1,e2];rfl
theorem vv{d t:Int}(hx:x∈(cm c.Register.Approvals d b th t known).1):(0<=x.Doc/\x.Doc<4096)/\(0<=x.By/\x.By<64)/\(0<=x.For/\x.For<64)/\(0<=x.Office/\x.Office<32)/\(0<=x.At/\x.At<1099511627776):=
 KB (Au ((kO _).1 h.chk).2.2.2.2.2.2 x (Iw hx))
theorem HA{d t:Int}(hx:x∈(cm c.Register.Approvals d b th t known).1):0<=x.For/\x.For<64:=(vv h hx).2.2.1
theorem Kl{d t:Int}(hx:x∈(cm c.Register.Approvals d b th t known).1):0<=x.By/\x.By<64:=(vv h hx).2.1
theorem yc{d t:Int}(hx:x∈(cm c.Register.Approvals d b th t known).1):(hO c.Register.Appoints x.Office x.For c.at_ c.known).2.2.2=0:=by
 obtain⟨_,_,h2,h3,_⟩:=vv h hx
 have h4:=h.time
 have h5:=h.know
 have e1:fg x.Office=true:=by simp only[fg,dX,zB,decide_eq_true_eq];omega
 have e2:fY x.For=true:=by simp only[fY,dX,zB,decide_eq_true_eq];omega
 have e3:∀z:Int,0<=z/\z<1099511627776->dq z=true:=λz hz=>by simp only[dq,dX,zB,decide_eq_true_eq];omega
 unfold hO
 rw[((kO _).1 h.chk).1,e1,e2,e3 _ h4,e3 _ h5]
 simp only[bne_self_eq_false,cond_false,Bool.not_true,Bool.or_false]
 cases(!(mhas (dw c.Register.Appoints c.at_ c.known) (Tj x.Office x.For))||(mgetD (dw c.Register.Appoints c.at_ c.known) (Tj x.Office x.For) (kD 0 0 0 0 0 0 false)).Gone)<;>rfl
omit h in
theorem Kv{l:List Deputy}{a o k v t:Int}{g:List (Int×Int)}:(aG.K1 l a o k v t n g).2.2=0:=by
 unfold aG.K1
 cases(!(mhas g a))with
 |true=>rfl
 |false=>
  rw[cond_false]
  have:∀(s:List Nat)(i:Nat)(p:List Int)(q:Int),(aG.L4 l a o k v t n g aG.K4 s i p q).2.2=0:=by
   intro s
   induction s with
   |nil=>intro i p q;rfl
   |cons y s ih=>
    intro i p q
    simp only[aG.L4]
    have:∀(L:List Deputy)(p:List Int)(q:Int),(aG.L6 a g i (λzg6_16 zg6_31=>aG.L4 l a o k v t n g aG.K4 s (i+1) zg6_16 zg6_31) L p q).2.2=0:=by
     intro L
     induction L with
     |nil=>intro p q;exact ih _ _ _
     |cons z L ihL=>intro p q;simp only[aG.L6,Bool.cond_eq_ite];split;exact ih _ _ _;exact ihL _ _
    exact this _ _ _
  exact this _ _ _ _
omit h in
theorem Ni{l:List Deputy}{a o k v t:Int}(h0:lO l a b (cG.mk o k v t n)=0):(aG l a b o k v t n).2.2=0:=by
 unfold aG
 rw[h0]
 simp only[bne_self_eq_false,cond_false]
 have:∀(s:List Nat)(i:Nat)(g:List (Int×Int)),(aG.L1 l o k v t n (aG.K1 l a o k v t n) s i g).2.2=0:=by
  intro s
  induction s with
  |nil=>intro i g;exact Kv
  |cons y s ih=>
   intro i g
   simp only[aG.L1]
   have:∀(L:List Deputy)(g:List (Int×Int)),(aG.L3 i (λzg3_b2_0=>aG.L1 l o k v t n (aG.K1 l a o k v t n) s (i+1) zg3_b2_0) L g).2.2=0:=by
    intro L
    induction L with
    |nil=>intro g;exact ih _ _
    |cons z L ihL=>intro g;simp only[aG.L3,Bool.cond_eq_ite];split<;>exact ihL _
   exact this _ _
 exact this _ _ _
theorem ye{d t:Int}(hx:x∈(cm c.Register.Approvals d b th t known).1):
  (aG c.Register.Deputies x.For x.By x.Office c.doc.Kind c.doc.Value c.at_ c.known).2.2=0:=by
 obtain⟨_,h1,h2,h3,_⟩:=vv h hx
 have h4:=h.time
 have h5:=h.know
 have h6:=h.kind
 have h7:=h.good.value
 refine Ni ?_
 have e2:∀z:Int,0<=z/\z<64->fZ z=true:=λz hz=>by simp only[fZ,cY,zB,decide_eq_true_eq];omega
 have e3:∀z:Int,0<=z/\z<1099511627776->gx z=true:=λz hz=>by simp only[gx,cY,zB,decide_eq_true_eq];omega
 have e4:cY x.Office 0 31=true:=by simp only[cY,zB,decide_eq_true_eq];omega
 have e5:cY c.doc.Kind 0 15=true:=by simp only[cY,zB,decide_eq_true_eq];omega
 have e6:cY c.doc.Value 0 1099511627776=true:=by simp only[cY,zB,decide_eq_true_eq];omega
 unfold lO
 rw[((kO _).1 h.chk).2.1,e2 _ h1,e2 _ h2,e3 _ h4,e3 _ h5,e4,e5,e6];rfl
end
theorem AJ{l:List Document}{b:Bool}(h:((!cj l signed)||b)=false):signed.length=l.length:=by
 simp only[cj,Bool.or_eq_false_iff,Bool.not_eq_false',zB,beq_iff_eq]at h
 have:=h.1.1
 omega
def playSame(P Q:ft):Prop:=Q.shelf=P.shelf/\Q.signed=P.signed/\Q.done.length=P.done.length/\Q.lacks.length=P.lacks.length
theorem playSame.refl(P:ft):playSame P P:=⟨rfl,rfl,rfl,rfl⟩
theorem playSame.trans{P Q R:ft}(h:playSame P Q)(k:playSame Q R):playSame P R:=⟨k.1.trans h.1,k.2.1.trans h.2.1,k.2.2.1.trans h.2.2.1,k.2.2.2.trans h.2.2.2⟩
theorem o9{β : Type}(f:ft->β->ft)(hf:∀P x,playSame P (f P x)):∀(l:List β)(P:ft),playSame P (l.foldl f P)
 |[],P=>.refl P
 |x::l,P=>(hf P x).trans (o9 f hf l _)
theorem Gn(sg:List Int)(i:Int)(P:ft)(no:Int):playSame P (playLack sg i P no):=by
 unfold playLack
 cases(cL P (mgetD P.shelf.at_ no 0) (nthI sg i)).1 != 0
 .exact .refl P
 .exact⟨rfl,rfl,rfl,by simp⟩
theorem H8(P:ft)(i:Int):playSame P (playMid P i):=by
 refine playSame.trans (Q:={ P with lacks:=P.lacks.set i.toNat (-1) }) ⟨rfl,rfl,rfl,by simp⟩ ?_
 exact o9 _ (λQ x=>Gn _ _ _ _) _ _
theorem Gp(P:ft)(i:Int):playSame P (playDone P i):=⟨rfl,rfl,by simp[playDone],rfl⟩
theorem DE(d:Document)(P:ft)(no:Int):playSame P (playRevoke d P no):=⟨rfl,rfl,rfl,rfl⟩
theorem Gm(P:ft)(i:Int):playSame P (playStep P i):=by
 have h:=(H8 P i).trans (Gp (playMid P i) i)
 unfold playStep
 cases decide (nthI (playMid P i).lacks i<0)
 .exact h
 .exact h.trans (o9 _ (λQ x=>DE _ _ _) _ _)
theorem CV(l:List Document)(signed:List Int)(t:Int):playSame (playP l signed) (co l signed t):=o9 _ Gm _ _
theorem vg(l:List Document)(signed:List Int)(t:Int):(co l signed t).shelf=ay l:=(CV l signed t).1
theorem tN(l:List Document)(signed:List Int)(t:Int):(co l signed t).shelf.docs=l:=by
 rw[vg]
 have:∀(s:List Document)(i:Nat)(g:List (Int×Int)),(ay.L1 (ay.K1 l) s i g).docs=l:=by
  intro s
  induction s with
  |nil=>intro i g;rfl
  |cons y s ih=>intro i g;exact ih _ _
 exact this _ _ _
theorem CW(l:List Document)(signed:List Int)(t:Int):(co l signed t).done.length=(co l signed t).shelf.docs.length/\(co l signed t).lacks.length=(co l signed t).shelf.docs.length:=by
 have h:=CV l signed t
 rw[tN]
 exact⟨h.2.2.1.trans (by simp[playP]),h.2.2.2.trans (by simp[playP])⟩
theorem Hh{l:List Document}{t:Int}{no:Int}(h:(!(mhas (co l signed t).shelf.at_ no))=false):
  0<=mgetD (co l signed t).shelf.at_ no 0/\mgetD (co l signed t).shelf.at_ no 0<((co l signed t).shelf.docs.length:Int):=by
 rw[tN]
 rw[vg]at h ⊢
 have hl:0<l.length:=by
  cases l with
  |nil=>exact Bool.noConfusion (show true=false from h)
  |cons=>simp
 have key:∀(s:List Document)(i:Nat)(g:List (Int×Int)),i+s.length=l.length->(∀p∈g,0<=p.2/\p.2<(l.length:Int))->∀p∈(ay.L1 (ay.K1 l) s i g).at_,0<=p.2/\p.2<(l.length:Int):=by
  intro s
  induction s with
  |nil=>intro i g _ hg;exact hg
  |cons y s ih=>
   intro i g hi hg
   simp only[xA]at hi
   exact ih (i+1) _ (by omega) (xj (P:=λx:Int=>0<=x/\x<(l.length:Int)) _ hg (by omega))
 exact yu (P:=λx:Int=>0<=x/\x<(l.length:Int)) no (key l 0 [] (by simp) (λ_ h=>(kA h).elim)) (by omega)
theorem rightH(h:dI hs n=true):∀l∈hs,∀y∈l,1<=y.Weight/\y.Weight<=64:=by
 have h3:∀(k:List Int->Bool)(l:List Holder)(g:List Int),dI.L3 k l g=true->(∀y∈l,1<=y.Weight/\y.Weight<=64)/\∃g',k g'=true:=by
  intro k l
  induction l with
  |nil=>exact λg h=>⟨λ_ h=>(kA h).elim,g,h⟩
  |cons y l ih=>
   intro g h
   simp only[dI.L3,Bool.cond_eq_ite]at h
   split at h
   .cases h
   .next hc=>
    simp only[xD,decide_eq_true_eq,not_or]at hc
    obtain⟨h1,h2⟩:=ih _ h
    refine⟨λz hz=>?_,h2⟩
    rcases qC.1 hz with rfl|hz
    .omega
    .exact h1 z hz
 have h1:∀(k:Bool)(l:List (List Holder)),dI.L1 k l=true->∀m∈l,∀y∈m,1<=y.Weight/\y.Weight<=64:=by
  intro k l
  induction l with
  |nil=>exact λ_ _ h=>(kA h).elim
  |cons y l ih=>
   intro h m hm
   obtain⟨h4,g',hg⟩:=h3 _ _ _ h
   simp only[Bool.cond_eq_ite]at hg
   split at hg
   .cases hg
   .rcases qC.1 hm with rfl|hm
    .exact h4
    .exact ih hg m hm
 exact h1 _ hs h
theorem F2(q:aW)(o:Int):dW q o=(nthI q.holders o).filter λy=>q.who.contains y.Person:=by
 have:∀l:List Holder,bU.L1 q [] l=l.filter λy=>q.who.contains y.Person:=by
  intro l
  induction l with
  |nil=>rfl
  |cons y l ih=>
   simp only[bU.L1,slices_BinarySearch_int,List.filter_cons,ih]
   cases q.who.contains y.Person<;>rfl
 exact this _
theorem Dk{α : Type}{p p':α->Bool}:∀{l:List α},(∀x∈l,p x=true->p' x=true)->(l.filter p).Sublist (l.filter p')
 |[],_=>List.Sublist.refl _
 |x::l,h=>by
  have ih:=Dk (l:=l) λy hy=>h y (xB _ hy)
  have hx:=h x (jB ..)
  rw[List.filter_cons,List.filter_cons]
  cases h1:p x with
  |true=>rw[hx h1];exact ih.cons_cons _
  |false=>
   cases p' x with
   |true=>exact ih.cons _
   |false=>exact ih
structure Pw(q q':aW):Prop where
 value:q'.value=q.value
 holders:q'.holders=q.holders
 who:∀l∈q.holders,∀y∈l,y.Person∈q.who->y.Person∈q'.who
 wt:∀l∈q.holders,∀y∈l,1<=y.Weight/\y.Weight<=64
 len:∀l∈q.holders,l.length<=2000000
theorem Bf[Inhabited α]{P:α->Prop}{l:List α}(h:∀y∈l,P y)(hd:P default)(z:Int):P (nthI l z):=by
 by_cases hz:z.toNat<l.length
 .have:nthI l z=l[z.toNat]:=by simp[nthI,List.getD_eq_getElem?_getD,hz]
  rw[this];exact h _ (List.getElem_mem _)
 .have:nthI l z=default:=by simp[nthI,List.getD_eq_getElem?_getD,hz]
  rw[this];exact hd
theorem F1{q q':aW}(h:Pw q q')(o:Int):(dW q o).Sublist (dW q' o):=by
 rw[F2,F2,h.holders]
 have hw:∀y∈nthI q.holders o,y.Person∈q.who->y.Person∈q'.who:=Bf (P:=λl:List Holder=>∀y∈l,y.Person∈q.who->y.Person∈q'.who) h.who (λ_ h=>(kA h).elim) o
 exact Dk λy hy1 hy=>by simp only[List.contains_iff_mem]at hy ⊢;exact hw y hy1 hy
theorem Pp{q q':aW}(h:Pw q q')(o:Int):(∀y∈dW q' o,1<=y.Weight/\y.Weight<=64)/\(dW q' o).length<=2000000:=by
 rw[F2,h.holders]
 have h1:(∀y∈nthI q.holders o,1<=y.Weight/\y.Weight<=64)/\(nthI q.holders o).length<=2000000:=Bf (P:=λl:List Holder=>(∀y∈l,1<=y.Weight/\y.Weight<=64)/\l.length<=2000000) (λl hl=>⟨h.wt l hl,h.len l hl⟩) ⟨(λ_ h=>(kA h).elim),Nat.zero_le _⟩ o
 exact⟨λy hy=>h1.1 y (kS.1 hy).1,vT (List.length_filter_le _ _) h1.2⟩
def wsum(l:List Holder):Int:=(l.map (·.Weight)).sum
theorem HN:∀{l m:List Holder},l.Sublist m->(∀y∈m,1<=y.Weight/\y.Weight<=64)->wsum l<=wsum m
 |_,_,.slnil,_=>Int.le_refl _
 |_,_,.cons (l₂:=m) y hs,h=>by
  have ih:=HN hs λz hz=>h z (xB _ hz)
  have:=h y (jB ..)
  simp only[wsum,kH,List.sum_cons]at ih ⊢;omega
 |_,_,.cons_cons (l₂:=m) y hs,h=>by
  have ih:=HN hs λz hz=>h z (xB _ hz)
  simp only[wsum,kH,List.sum_cons]at ih ⊢;omega
theorem BS(k:Int->Bool):∀(l:List Holder)(g:Int),0<=g->g+64*l.length<=1000000000000->(∀y∈l,1<=y.Weight/\y.Weight<=64)->cT.L1 k l g=k (g+wsum l)
 |[],g,_,_,_=>by simp[cT.L1,wsum]
 |y::l,g,h0,hb,h=>by
  have hy:=h y (jB ..)
  rw[xA]at hb
  have e:jC .i64 (g+y.Weight)=g+y.Weight:=wrap64 (by omega)
  simp only[cT.L1,e]
  rw[BS k l _ (by omega) (by omega) λz hz=>h z (xB _ hz)]
  simp only[wsum,kH,List.sum_cons]
  rw[Int.add_assoc]
theorem Ou(rec:aW->Expr->Bool)(q:aW)(k:Int->Bool):∀(l:List Expr)(g:Int),0<=g->g+l.length<=1000000000000->dS.L1 rec q k l g=k (g+(l.countP (rec q):Nat))
 |[],g,_,_=>by simp[dS.L1]
 |y::l,g,h0,hb=>by
  rw[xA]at hb
  have e:jC .i64 (g+1)=g+1:=wrap64 (by omega)
  simp only[dS.L1,e]
  rw[Ou rec q k l g h0 (by omega),Ou rec q k l (g+1) (by omega) (by omega),List.countP_cons]
  cases rec q y
  .simp
  .simp only[cond_true,if_true];congr 1;omega
theorem Dg{q q':aW}(h:Pw q q'):∀(m:Nat)(x:Expr),x.dep<=2000000->cI.go m q x=true->cI.go m q' x=true
 |0,x,_,hx=>hx
 |m+1,x,hd,hx=>by
  have ih:=Dg h m
  simp only[cI.go,cI.F,fulQ]at hx ⊢
  split
  .next hk=>
   rw[if_pos hk]at hx
   unfold dT at hx ⊢
   have hs:=F1 h x.No
   cases e:dW q x.No with
   |nil=>rw[e]at hx;cases hx
   |cons y l=>
    rw[e]at hs
    cases e2:dW q' x.No with
    |nil=>rw[e2]at hs;cases hs
    |cons z l=>rfl
  .next hk=>
   rw[if_neg hk]at hx
   split
   .next hk2=>
    rw[if_pos hk2]at hx
    unfold cT at hx ⊢
    obtain⟨w1,w2⟩:=Pp h x.No
    have hs:=F1 h x.No
    have hl:=hs.length_le
    rw[BS _ _ _ (Int.le_refl _) (by omega) λy hy=>w1 y (hs.subset hy)]at hx
    rw[BS _ _ _ (Int.le_refl _) (by omega) w1]
    have:=HN hs w1
    simp only[cT.K1,decide_eq_true_eq]at hx ⊢
    omega
   .next hk2=>
    rw[if_neg hk2]at hx
    split
    .next hk3=>
     rw[if_pos hk3]at hx
     unfold dS.F at hx ⊢
     have hl:=Expr.Lc x
     rw[Ou _ _ _ _ _ (Int.le_refl _) (by omega)]at hx ⊢
     have:x.L.countP (cI.go m q)<=x.L.countP (cI.go m q'):=List.countP_mono_left λy hy hh=>ih y (by have:=R3 hy;omega) hh
     simp only[dS.K1,decide_eq_true_eq]at hx ⊢
     omega
    .next hk3=>
     rw[if_neg hk3]at hx
     unfold j4.F at hx ⊢
     have hsm:∀z,(nthI x.L z).dep<=2000000:=Bf (P:=λy:Expr=>y.dep<=2000000) (λy hy=>by have:=R3 hy;omega) (by decide)
     rw[h.value]
     rw[Bool.cond_eq_ite]at hx ⊢
     split
     .next hc=>rw[if_pos hc]at hx;exact ih _ (hsm _) hx
     .next hc=>rw[if_neg hc]at hx;exact ih _ (hsm _) hx
theorem IA{p:Policy}{kind value:Int}{w w':List Int}(hp:smP p)(hl:∀l∈hs,l.length<=2000000)(hw:∀l∈hs,∀y∈l,y.Person∈w->y.Person∈w')(hw':el w'=true)(hk:kind<(p.Rules.length:Int))(h:((dx p kind value hs w).1&&((dx p kind value hs w).2==0))=true):((dx p kind value hs w').1&&((dx p kind value hs w').2==0))=true:=by
 unfold dx at h ⊢
 cases hc:(cQ p != 0)with
 |true=>rw[hc]at h;simp at h
 |false=>
  rw[hc]at h
  simp only[cond_false]at h ⊢
  cases ha:(((decide (kind<0)||decide ((p.Kinds.length:Int)<=kind))||decide (value<0))||decide (1099511627776<value))with
  |true=>rw[ha]at h;simp at h
  |false=>
   rw[ha]at h
   simp only[cond_false]at h ⊢
   cases hr:dI hs (p.Offices.length:Int)with
   |false=>rw[hr]at h;simp at h
   |true=>
    rw[hr]at h
    simp only[Bool.not_true,cond_false]at h ⊢
    cases hq:el w with
    |false=>rw[hq]at h;simp at h
    |true=>
     rw[hq]at h
     rw[hw']
     simp only[Bool.not_true,cond_false,beq_self_eq_true,Bool.and_true]at h ⊢
     simp only[Bool.or_eq_false_iff,decide_eq_false_iff_not]at ha
     have hx:(nthI p.Rules kind).Expr.dep<=2000000:=vT (hp.2.1 _ (ni (by omega))) (by omega)
     exact Dg (q:=⟨value,hs,w⟩) (q':=⟨value,hs,w'⟩) ⟨rfl,rfl,hw,rightH hr,hl⟩ _ _ hx h
theorem Cv(f:Bool->Bool):∀(l:List Bool)(i:Nat),decide (0<=em.L1 f em.K1 l i)=l.any f
 |[],i=>rfl
 |y::l,i=>by
  have ih:=Cv f l (i+1)
  simp only[em.L1,List.any_cons,Bool.cond_eq_ite]
  split
  .next h=>rw[h];simp
  .next h=>rw[ih];simp[h]
def decV(mode:Int)(l:List Bool):Bool:=bif mode==4 then l.any id else bif mode==3 then l.any id&&!(l.any λb=>!b)else((l.length:Int)==1)&&nthI l 0
theorem HM(mode:Int)(l:List Bool):iL mode l=bif ga mode l != 0 then(false,ga mode l)else(decV mode l,0):=by
 have y1:decide (0<=cA l eD)=l.any id:=Cv _ l 0
 have y2:decide (0<=cA l fH)=l.any λb=>!b:=Cv _ l 0
 have L1:∀(s:List Bool)i g,(aV.L1 (aV.K1 l) s i g).2=(l.any id,0):=by
  intro s
  induction s with
  |nil=>intro i g;simp only[aV.L1,aV.K1,y1]
  |cons y s ih=>intro i g;exact ih _ _
 have L2:∀(s:List Bool)i g,(aV.L2 (aV.K2 l) s i g).2=(((l.length:Int)==1)&&nthI l 0,0):=by
  intro s
  induction s with
  |nil=>intro i g;rfl
  |cons y s ih=>intro i g;exact ih _ _
 have L3:∀(s:List Bool)i g,(aV.L3 aV.K3 s i g).2=(false,0):=by
  intro s
  induction s with
  |nil=>intro i g;rfl
  |cons y s ih=>intro i g;exact ih _ _
 have e:iL mode l=(aV mode l).2:=rfl
 rw[e]
 unfold aV decV
 rw[y1,y2]
 cases(ga mode l != 0)with
 |true=>rfl
 |false=>
  simp only[cond_false]
  by_cases h4:mode=4
  .subst h4
   cases h:l.any id with
   |true=>rfl
   |false=>
    have:((4:Int)==3)=false:=rfl
    simp only[beq_self_eq_true,Bool.and_false,cond_false,this,Bool.false_and,bne_self_eq_false,L3,cond_true]
  .have e4:(mode==4)=false:=by simpa using h4
   have n4:(mode != 4)=true:=by simpa using h4
   rw[e4,n4]
   simp only[Bool.false_and,cond_false,cond_true]
   by_cases h3:mode=3
   .subst h3
    cases h:l.any λb=>!b with
    |true=>simp
    |false=>simp only[beq_self_eq_true,Bool.and_false,cond_false,L1,cond_true,Bool.not_false,Bool.and_true]
   .have e3:(mode==3)=false:=by simpa using h3
    rw[e3]
    simp only[Bool.false_and,cond_false,L2]
theorem Ng{f g:α->Bool}(mode:Int){l:List α}(h:∀x∈l,f x=true->g x=true)(hd:decV mode (l.map f)=true):decV mode (l.map g)=true:=by
 have hany:(l.map f).any id=true->(l.map g).any id=true:=by
  simp only[List.any_map,List.any_eq_true,Function.comp,id]
  rintro⟨x,hx,hf⟩;exact⟨x,hx,h x hx hf⟩
 have hno:((l.map f).any λb=>!b)=false->((l.map g).any λb=>!b)=false:=by
  simp only[List.any_map,List.any_eq_false,Function.comp,qE,Bool.not_eq_false]
  exact λhf x hx=>h x hx (hf x hx)
 unfold decV at hd ⊢
 rw[Bool.cond_eq_ite]at hd ⊢
 split
 .next h4=>rw[if_pos h4]at hd;exact hany hd
 .next h4=>
  rw[if_neg h4,Bool.cond_eq_ite]at hd
  rw[Bool.cond_eq_ite]
  split
  .next h3=>
   rw[if_pos h3,zB,qE]at hd
   rw[zB,qE]
   exact⟨hany hd.1,hno hd.2⟩
  .next h3=>
   rw[if_neg h3]at hd
   match l,h,hd with
   |[],_,hd=>exact hd
   |[x],h,hd=>
    have hx:f x=true:=hd
    have:=h x (jB ..) hx
    show(true&&g x)=true
    rw[this];rfl
   |x::y::l,_,hd=>
    simp only[kH,xA,zB,beq_iff_eq]at hd
    omega
end Go.Sg
