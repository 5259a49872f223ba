import Derived.KernelRfl
import Derived.Test.YtpplkjhgggjaoaaGreatDoorW3
/- A part of the proof of JudgeExactly. -/
set_option linter.unusedVariables false
set_option linter.unusedSimpArgs false
set_option maxRecDepth 100000
open List renaming length_cons→zA,length_append→jA,mem_cons_of_mem→vA,not_mem_nil→kA,mem_cons_self→zB,length_nil→jB,toArray→vB,mem_cons→kB,nil_append→jG,range→kG,mem_map→jQ,nodup_cons→xR,getElem?_of_mem→aBl
open Bool renaming and_eq_true→xB,or_eq_true→xD,not_eq_true'→zE,eq_iff_iff→qN,false_eq_true→xV
open Go.Sg.Appoint renaming mk→jC
open Go.IntKind renaming wrap→vC
open Go.Sg.Expr renaming mk→qG,jf→aAe,lO→aBe
open Nat renaming le_refl→xG
open Go.Sg.Register renaming mk→xJ
open Go.Sg.Policy renaming mk→xM
open Option.some renaming inj→vT
open Go.Sg.Approval renaming mk→qV
open Go.Sg.Interest renaming mk→aAv
open Go.Sg.Budget renaming mk→aAW
open Go.Sg.Version renaming mk→aAZ
open Go.Sg.Deputy renaming mk→aBc
open Go.Sg.Rule renaming mk→aBf
open Go.Sg.OSeat renaming mk→aBg
open Go.Sg.Holder renaming mk→aCG

namespace Go.Sg
def dZ(ep:Int)(low:Int)(high:Int):Bool:=(decide (low<=ep)&&decide (ep<=high))
def fa(ep:Int):Bool:=(dZ ep 0 31)
def dv(ep:Int):Bool:=(dZ ep 0 1099511627775)
def fR(ep:Int):Bool:=(dZ ep 0 63)
def mM(x:Appoint):Bool:=(bif x.Gone then((((((dZ x.No 0 1048576)&&(dv x.At))&&(dv x.Known))&&(fa x.Office))&&(fR x.Person))&&(dZ x.Weight 0 0))else((((((dZ x.No 0 1048576)&&(dv x.At))&&(dv x.Known))&&(fa x.Office))&&(fR x.Person))&&(dZ x.Weight 1 64)))
def dg.K1(iB:Int):Int:=0
def dg.L1(k:Int->Int):List Appoint->Int->Int
 |[],iB=>(k iB)
 |y1::rz1,iB=>(bif((!(mM y1))||decide (y1.No<=iB))then 150 else(dg.L1  k rz1 y1.No))
def dg(l:List Appoint):Int:=(bif(decide (4096<(l.length:Int)))then 2 else((dg.L1 (dg.K1)) l (-1)))
def cY(ep:Int)(low:Int)(high:Int):Bool:=(decide (low<=ep)&&decide (ep<=high))
def fS(ep:Int):Bool:=(cY ep 0 63)
def gh(ep:Int):Bool:=(cY ep 0 1099511627775)
def ml(x:Deputy):Bool:=(bif((((((((!(cY x.No 0 1048576))||(!(gh x.At)))||(!(gh x.Known)))||(!(fS x.From)))||(!(fS x.To)))||(x.From==x.To))||(!(cY x.Office 0 31)))||(!(cY x.Kind (-1) 15)))then false else(bif x.Gone then((x.Until==0)&&(x.Most==0))else((decide (x.At<x.Until)&&decide (x.Until<=1099511627776))&&(cY x.Most 0 1099511627776))))
def dB.K1(iB:Int):Int:=0
def dB.L1(k:Int->Int):List Deputy->Int->Int
 |[],iB=>(k iB)
 |y1::rz1,iB=>(bif((!(ml y1))||decide (y1.No<=iB))then 160 else(dB.L1  k rz1 y1.No))
def dB(l:List Deputy):Int:=(bif(decide (4096<(l.length:Int)))then 2 else((dB.L1 (dB.K1)) l (-1)))
def bJ(ep:Int)(limit:Int):Bool:=(decide (0<=ep)&&decide (ep<limit))
def lG(x:Interest):Bool:=(bif x.Of then((((((bJ x.No 1048577)&&(bJ x.At 1099511627776))&&(bJ x.Known 1099511627776))&&(bJ x.Party 1048577))&&(bJ x.Person 1048577))&&(x.Person != x.Party))else(((((bJ x.No 1048577)&&(bJ x.At 1099511627776))&&(bJ x.Known 1099511627776))&&(bJ x.Party 1048577))&&(bJ x.Person 64)))
def cX.K1(iB:Int):Int:=0
def cX.L1(k:Int->Int):List Interest->Int->Int
 |[],iB=>(k iB)
 |y1::rz1,iB=>(bif((!(lG y1))||decide (y1.No<=iB))then 290 else(cX.L1  k rz1 y1.No))
def cX(l:List Interest):Int:=(bif(decide (4096<(l.length:Int)))then 2 else((cX.L1 (cX.K1)) l (-1)))
def dN.K1  : Int:=(-1)
def dN.L1(f:(Int->Bool))(k:Int):List Int->Nat->Int
 |[],i1=>(k)
 |y1::rz1,i1=>(bif(f y1)then(i1:Int)else(dN.L1 f k rz1 (i1+1)))
def dN(s:List Int)(f:(Int->Bool)):Int:=((dN.L1 f (dN.K1)) s 0)
def cC(s:List Int)(f:(Int->Bool)):Bool:=decide (0<=(dN s f))
def ik(ep:Int)(v0:Int)(v1:Int):Bool:=(decide (ep<v0)||decide (v1<ep))
def aR(least:Int)(most:Int)(l:List Int):Bool:=(!(cC l (λdF=>ik dF least most)))
def ju(x:Budget):Bool:=(bif x.Gone then((((((aR 0 1048576 ([x.No]))&&(aR 0 1099511627775 ([x.At,x.Known])))&&(aR (-1) 15 ([x.Kind])))&&(aR 1 1099511627776 ([x.Period])))&&(aR 0 0 ([x.Count])))&&(aR 0 0 ([x.Value])))else((((((aR 0 1048576 ([x.No]))&&(aR 0 1099511627775 ([x.At,x.Known])))&&(aR (-1) 15 ([x.Kind])))&&(aR 1 1099511627776 ([x.Period])))&&(aR 0 1048576 ([x.Count])))&&(aR 0 1099511627776 ([x.Value]))))
def cw.K1(iB:Int):Int:=0
def cw.L1(k:Int->Int):List Budget->Int->Int
 |[],iB=>(k iB)
 |y1::rz1,iB=>(bif((!(ju y1))||decide (y1.No<=iB))then 180 else(cw.L1  k rz1 y1.No))
def cw(l:List Budget):Int:=(bif(decide (4096<(l.length:Int)))then 2 else((cw.L1 (cw.K1)) l (-1)))
def aM.L2(k:List gx):List gx->List gx
 |[]=>k
 |y2::rz2=>(y2::(aM.L2 k rz2))
def aM.L3(k:List gx):List gx->List gx
 |[]=>k
 |y3::rz3=>(y3::(aM.L3 k rz3))
def aM.K1  : List gx:=[]
def aM.L1(rec:Expr->Int->List gx)(depth:Int)(k:List gx):List Expr->List gx
 |[]=>(k)
 |y1::rz1=>((aM.L3 ((aM.L1 rec depth k rz1))) (rec y1 (depth+1)))
def aM.F(rec:Expr->Int->List gx)(x:Expr)(depth:Int):List gx:=((gx.mk (qG x.Kind x.N x.No x.Name x.L) depth)::((aM.L1 rec depth (aM.K1)) x.L))
def aM.go:Nat->Expr->Int->List gx
 |0=>λ_ _=>[]
 |m+1=>aM.F (aM.go m)
def bx(x:Expr)(depth:Int):List gx:=aM.go x.dep x depth
def eU(ok:Bool)(Qg:Int):(Except Int Unit):=(bif(!ok)then(Except.error Qg)else(Except.ok ()))
def ay.K1(p:Policy)(Gl:List Expr):List Expr:=(Gl++[p.Change])
def ay.L1(k:List Expr->List Expr):List Rule->List Expr->List Expr
 |[],Gl=>(k Gl)
 |y1::rz1,Gl=>(ay.L1  k rz1 (Gl++[y1.Expr]))
def ay(p:Policy):List Expr:=((ay.L1 (ay.K1 p)) p.Rules ([]))
def co.L2(k:Int->(Except Int Unit)):List gx->Int->(Except Int Unit)
 |[],DR=>k DR
 |y2::rz2,DR=>(exi (eU (decide ((vC .i64 (DR+1))<=256)&&decide (y2.depth<=16)) 2) (λ_=>(co.L2 k rz2 (vC .i64 (DR+1)))))
def co.L3(k:Int->(Except Int Unit)):List gx->Int->(Except Int Unit)
 |[],DQ=>k DQ
 |y3::rz3,DQ=>(exi (eU (decide ((vC .i64 (DQ+1))<=256)&&decide (y3.depth<=16)) 2) (λ_=>(co.L3 k rz3 (vC .i64 (DQ+1)))))
def co.K1  : (Except Int Unit):=(Except.ok ())
def co.L1(k:(Except Int Unit)):List Expr->(Except Int Unit)
 |[]=>(k)
 |y1::rz1=>((co.L3 (λzg3_b3_0=>(co.L1  k rz1))) (bx y1 1) 0)
def co(p:Policy):(Except Int Unit):=(exi (eU ((decide ((p.Offices.length:Int)<=32)&&decide ((p.Kinds.length:Int)<=16))&&decide ((p.Rules.length:Int)<=16)) 2) (λ_=>((co.L1 (co.K1)) (ay p))))
def dp(x:Expr):Bool:=((x.Kind==1)||(x.Kind==2))
def ic(s:ByteArray)(c:Int):Int:=(idxByte s c)
def strings_IndexByte(s:ByteArray)(c:Int):Int:=(ic s c)
def j4(c:Int):Int:=(bif((decide (97<=c)&&decide (c<=122))||(decide (65<=c)&&decide (c<=90)))then 2 else(bif(decide (48<=c)&&decide (c<=57))then 3 else(bif(c==95)then 5 else(bif((((c==32)||(c==9))||(c==10))||(c==13))then 1 else(bif(decide (0<=(strings_IndexByte (⟨#[123,125,40,41,59,44,61,58,46,60,62,33,43,45,42,47]⟩:ByteArray) c)))then 4 else 0)))))
def dQ.K1  : Bool:=true
def dQ.L1(s:ByteArray)(k:Bool):List Nat->Nat->Bool
 |[],i1=>(k)
 |y1::rz1,i1=>(bif((((j4 ((s.data.getD ((i1:Int):Int).toNat 0).toNat:Int)) != 2)&&((j4 ((s.data.getD ((i1:Int):Int).toNat 0).toNat:Int)) != 3))&&((j4 ((s.data.getD ((i1:Int):Int).toNat 0).toNat:Int)) != 5))then false else(dQ.L1 s k rz1 (i1+1)))
def dQ(s:ByteArray):Bool:=(bif(((s.toList==(⟨#[]⟩:ByteArray).toList)||decide (32<(s.size:Int)))||((j4 ((s.data.getD (0:Int).toNat 0).toNat:Int)) != 2))then false else((dQ.L1 s (dQ.K1)) (kG s.size) 0))
def dM(s:ByteArray):Bool:=(bif(s.toList==(⟨#[112,111,108,105,99,121]⟩:ByteArray).toList)then(bif(s.toList==(⟨#[112,111,108,105,99,121]⟩:ByteArray).toList)then false else(dQ s))else(bif(s.toList==(⟨#[109,111,100,101]⟩:ByteArray).toList)then(bif(s.toList==(⟨#[109,111,100,101]⟩:ByteArray).toList)then false else(dQ s))else(bif(s.toList==(⟨#[111,108,100]⟩:ByteArray).toList)then(bif(s.toList==(⟨#[111,108,100]⟩:ByteArray).toList)then false else(dQ s))else(bif(s.toList==(⟨#[110,101,119]⟩:ByteArray).toList)then(bif(s.toList==(⟨#[110,101,119]⟩:ByteArray).toList)then false else(dQ s))else(bif(s.toList==(⟨#[98,111,116,104]⟩:ByteArray).toList)then(bif(s.toList==(⟨#[98,111,116,104]⟩:ByteArray).toList)then false else(dQ s))else(bif(s.toList==(⟨#[101,105,116,104,101,114]⟩:ByteArray).toList)then(bif(s.toList==(⟨#[101,105,116,104,101,114]⟩:ByteArray).toList)then false else(dQ s))else(bif(s.toList==(⟨#[111,102,102,105,99,101]⟩:ByteArray).toList)then(bif(s.toList==(⟨#[111,102,102,105,99,101]⟩:ByteArray).toList)then false else(dQ s))else(bif(s.toList==(⟨#[107,105,110,100]⟩:ByteArray).toList)then(bif(s.toList==(⟨#[107,105,110,100]⟩:ByteArray).toList)then false else(dQ s))else(bif(s.toList==(⟨#[114,117,108,101]⟩:ByteArray).toList)then(bif(s.toList==(⟨#[114,117,108,101]⟩:ByteArray).toList)then false else(dQ s))else(bif(s.toList==(⟨#[116,104,105,110,107]⟩:ByteArray).toList)then(bif(s.toList==(⟨#[116,104,105,110,107]⟩:ByteArray).toList)then false else(dQ s))else(bif(s.toList==(⟨#[99,104,97,110,103,101]⟩:ByteArray).toList)then(bif(s.toList==(⟨#[99,104,97,110,103,101]⟩:ByteArray).toList)then false else(dQ s))else(bif(s.toList==(⟨#[115,111,109,101]⟩:ByteArray).toList)then(bif(s.toList==(⟨#[115,111,109,101]⟩:ByteArray).toList)then false else(dQ s))else(bif(s.toList==(⟨#[119,101,105,103,104,116]⟩:ByteArray).toList)then(bif(s.toList==(⟨#[119,101,105,103,104,116]⟩:ByteArray).toList)then false else(dQ s))else(bif(s.toList==(⟨#[111,102]⟩:ByteArray).toList)then(bif(s.toList==(⟨#[111,102]⟩:ByteArray).toList)then false else(dQ s))else(bif(s.toList==(⟨#[117,112,116,111]⟩:ByteArray).toList)then(bif(s.toList==(⟨#[117,112,116,111]⟩:ByteArray).toList)then false else(dQ s))else(bif(s.toList==(⟨#[101,108,115,101]⟩:ByteArray).toList)then false else(dQ s)))))))))))))))))
def aW.K1  : Int:=(-1)
def aW.L1(v:ByteArray)(k:Int):List ByteArray->Nat->Int
 |[],i1=>(k)
 |y1::rz1,i1=>(bif(v.toList==y1.toList)then(i1:Int)else(aW.L1 v k rz1 (i1+1)))
def aW(s:List ByteArray)(v:ByteArray):Int:=((aW.L1 v (aW.K1)) s 0)
def bF.K1  : Bool:=true
def bF.L1(l:List ByteArray)(ok:(ByteArray->Bool))(k:Bool):List ByteArray->Nat->Bool
 |[],i1=>(k)
 |y1::rz1,i1=>(bif((!(ok y1))||((aW l y1) != (i1:Int)))then false else(bF.L1 l ok k rz1 (i1+1)))
def bF(l:List ByteArray)(ok:(ByteArray->Bool)):Bool:=((bF.L1 l ok (bF.K1)) l 0)
def cZ(s:List ByteArray)(v:ByteArray):Bool:=decide (0<=(aW s v))
def cq.L2(p:Policy)(k:(Except Int Unit)):List gx->(Except Int Unit)
 |[]=>k
 |y2::rz2=>(exi (eU ((!(dp y2.x))||(cZ p.Offices y2.x.Name)) 201) (λ_=>(cq.L2 p k rz2)))
def cq.L3(p:Policy)(k:(Except Int Unit)):List gx->(Except Int Unit)
 |[]=>k
 |y3::rz3=>(exi (eU ((!(dp y3.x))||(cZ p.Offices y3.x.Name)) 201) (λ_=>(cq.L3 p k rz3)))
def cq.K1  : (Except Int Unit):=(Except.ok ())
def cq.L1(p:Policy)(k:(Except Int Unit)):List Expr->(Except Int Unit)
 |[]=>(k)
 |y1::rz1=>((cq.L3 p ((cq.L1 p k rz1))) (bx y1 1))
def cq(p:Policy):(Except Int Unit):=(exi (eU (((dM p.Name)&&(bF p.Offices dM))&&(bF p.Kinds dM)) 201) (λ_=>((cq.L1 p (cq.K1)) (ay p))))
def aP(ep:Int)(low:Int)(high:Int):Bool:=(decide (low<=ep)&&decide (ep<=high))
def nJ(x0:Expr):Bool:=false
def jr(x:Expr):Bool:=((x.N==0)&&((x.L.length:Int)==0))
def jq(x:Expr):Bool:=((aP x.N 1 4096)&&((x.L.length:Int)==0))
def jp(x:Expr):Bool:=(((x.Name.toList==(⟨#[]⟩:ByteArray).toList)&&(aP (x.L.length:Int) 1 16))&&(aP x.N 1 (x.L.length:Int)))
def iP(x:Expr):Bool:=(((x.Name.toList==(⟨#[]⟩:ByteArray).toList)&&((x.L.length:Int)==2))&&(aP x.N 0 1099511627776))
def kindsP(i:Int)(x:Expr):Bool:=if i=0 then nJ x else if i=1 then jr x else if i=2 then jq x else if i=3 then jp x else iP x
def bw.L3(p:Policy)(k:(Except Int Unit)):List gx->(Except Int Unit)
 |[]=>k
 |y3::rz3=>(exi (eU ((aP y3.x.Kind 1 4)&&(kindsP y3.x.Kind y3.x)) 200) (λ_=>(exi (eU (decide (0<(vC .i64 (((ay p).length:Int)-1)))||(y3.x.Kind != 4)) 200) (λ_=>(bw.L3 p k rz3)))))
def bw.L4(p:Policy)(i2:Nat)(k:(Except Int Unit)):List gx->(Except Int Unit)
 |[]=>k
 |y4::rz4=>(exi (eU ((aP y4.x.Kind 1 4)&&(kindsP y4.x.Kind y4.x)) 200) (λ_=>(exi (eU (decide ((i2:Int)<(vC .i64 (((ay p).length:Int)-1)))||(y4.x.Kind != 4)) 200) (λ_=>(bw.L4 p i2 k rz4)))))
def bw.K2  : (Except Int Unit):=(Except.ok ())
def bw.L2(p:Policy)(k:(Except Int Unit)):List Expr->Nat->(Except Int Unit)
 |[],i2=>(k)
 |y2::rz2,i2=>((bw.L4 p i2 ((bw.L2 p k rz2 (i2+1)))) (bx y2 1))
def bw.K1(p:Policy):(Except Int Unit):=((bw.L2 p (bw.K2)) (ay p) 0)
def bw.L1(p:Policy)(k:(Except Int Unit)):List Rule->Nat->(Except Int Unit)
 |[],i1=>(k)
 |y1::rz1,i1=>(exi (eU ((y1.Kind.toList==(nthI p.Kinds (i1:Int)).toList)&&(aP y1.Think 0 1099511627775)) 200) (λ_=>(bw.L1 p k rz1 (i1+1))))
def bw(p:Policy):(Except Int Unit):=(exi (eU ((decide (0<(p.Kinds.length:Int))&&((p.Rules.length:Int)==(p.Kinds.length:Int)))&&(aP p.Mode 1 4)) 200) (λ_=>((bw.L1 p (bw.K1 p)) p.Rules 0)))
def dA(p:Policy):(Except Int Unit):=(exi (co p) (λ_=>(exi (cq p) (λ_=>(exi (bw p) (λ_=>(Except.ok ())))))))
def ao.K1(offices:List ByteArray)(x:Expr)(lk:List Expr):Expr:=(qG x.Kind x.N (aW offices x.Name) x.Name lk)
def ao.L1(rec:List ByteArray->Expr->Expr)(offices:List ByteArray)(k:List Expr->Expr):List Expr->List Expr->Expr
 |[],lk=>(k lk)
 |y1::rz1,lk=>(ao.L1 rec offices k rz1 (lk++[(rec offices y1)]))
def ao.K2(x:Expr)(lj:List Expr):Expr:=(qG x.Kind x.N 0 x.Name lj)
def ao.L2(rec:List ByteArray->Expr->Expr)(offices:List ByteArray)(k:List Expr->Expr):List Expr->List Expr->Expr
 |[],lj=>(k lj)
 |y2::rz2,lj=>(ao.L2 rec offices k rz2 (lj++[(rec offices y2)]))
def ao.F(rec:List ByteArray->Expr->Expr)(offices:List ByteArray)(x:Expr):Expr:=(bif(dp (qG x.Kind x.N 0 x.Name x.L))then((ao.L1 rec offices (ao.K1 offices x)) x.L ([]))else((ao.L2 rec offices (ao.K2 x)) x.L ([])))
def ao.go:Nat->List ByteArray->Expr->Expr
 |0=>λ_ _=>default
 |m+1=>ao.F (ao.go m)
def ao(offices:List ByteArray)(x:Expr):Expr:=ao.go x.dep offices x
def ef.K1(p:Policy)(mY:List Rule):(Policy×Int):=((xM p.Name p.Kinds p.Offices mY (qG ((ao p.Offices p.Change).Kind) ((ao p.Offices p.Change).N) ((ao p.Offices p.Change).No) ((ao p.Offices p.Change).Name) ((ao p.Offices p.Change).L)) p.Mode),0)
def ef.L1(p:Policy)(k:List Rule->(Policy×Int)):List Rule->Nat->List Rule->(Policy×Int)
 |[],i1,mY=>(k mY)
 |y1::rz1,i1,mY=>(ef.L1 p k rz1 (i1+1) (mY++[(aBf y1.Kind (i1:Int) y1.Think (qG ((ao p.Offices y1.Expr).Kind) ((ao p.Offices y1.Expr).N) ((ao p.Offices y1.Expr).No) ((ao p.Offices y1.Expr).Name) ((ao p.Offices y1.Expr).L)))]))
def ef(p:Policy):(Policy×Int):=(bif((attR (dA p)) != 0)then((xM (⟨#[]⟩:ByteArray) ([]) ([]) ([]) (qG 0 0 0 (⟨#[]⟩:ByteArray) ([])) 0),(attR (dA p)))else((ef.L1 p (ef.K1 p)) p.Rules 0 ([])))
def bR.K1  : Bool:=true
def bR.L1(offices:List ByteArray)(k:Bool):List gx->Bool
 |[]=>k
 |y1::rz1=>(bif(dp y1.x)then(bif(y1.x.No != (aW offices y1.x.Name))then false else(bR.L1 offices k rz1))else(bif(y1.x.No != 0)then false else(bR.L1 offices k rz1)))
def bR(offices:List ByteArray)(x:Expr):Bool:=((bR.L1 offices (bR.K1)) (bx x 1))
def df.K1(p:Policy):Int:=(bif(!(bR p.Offices p.Change))then 200 else 0)
def df.L1(p:Policy)(k:Int):List Rule->Nat->Int
 |[],i1=>(k)
 |y1::rz1,i1=>(bif((y1.KindNo != (i1:Int))||(!(bR p.Offices y1.Expr)))then 200 else(df.L1 p k rz1 (i1+1)))
def df(p:Policy):Int:=(bif((ef p).2 != 0)then(ef p).2 else((df.L1 p (df.K1 p)) p.Rules 0))
def bH.K1(iB:Int):Int:=0
def bH.L1(k:Int->Int):List Version->Int->Int
 |[],iB=>(k iB)
 |y1::rz1,iB=>(bif((((!(aP y1.No (vC .i64 (iB+1)) 1048576))||(!(aP y1.At 0 1099511627775)))||(!(aP y1.Known 0 1099511627775)))||((df y1.Policy) != 0))then 200 else(bH.L1  k rz1 y1.No))
def bH(l:List Version):Int:=(bif(decide (256<(l.length:Int)))then 2 else((bH.L1 (bH.K1)) l (-1)))
def aB.K1(l:List Document)(bM:List (Int×Int)):gM:=(gM.mk l bM)
def aB.L1(k:(List (Int×Int))->gM):List Document->Nat->(List (Int×Int))->gM
 |[],i1,bM=>(k bM)
 |y1::rz1,i1,bM=>(aB.L1  k rz1 (i1+1) (mput bM y1.No (i1:Int)))
def aB(l:List Document):gM:=((aB.L1 (aB.K1 l)) l 0 ([]))
def fJ(t:Int):Bool:=(decide (0<=t)&&decide (t<1099511627776))
def dJ.K1(l:List Int)(eW:Int):Bool:=decide ((l.length:Int)<=16)
def dJ.L1(limit:Int)(k:Int->Bool):List Int->Int->Bool
 |[],eW=>(k eW)
 |y1::rz1,eW=>(bif(decide (y1<=eW)||decide (limit<=y1))then false else(dJ.L1 limit k rz1 y1))
def dJ(l:List Int)(limit:Int):Bool:=((dJ.L1 limit (dJ.K1 l)) l (-1))
def gG(d:Document):Bool:=((((((((((((decide (0<=d.No)&&decide (d.No<4096))&&(fJ d.At))&&decide (0<=d.Kind))&&decide (d.Kind<16))&&decide (0<=d.Value))&&decide (d.Value<=1099511627776))&&decide (0<=d.From))&&decide (d.From<d.Until))&&decide (d.Until<=1099511627776))&&(dJ d.Parties 1048577))&&(dJ d.Revokes d.No))&&(dJ d.Needs d.No))
def ey(no:Int)(v0:gM):Bool:=(!(mhas v0.at_ no))
def eJ(s:gM)(d:Document):Bool:=((!(cC d.Revokes (λdF=>ey dF s)))&&(!(cC d.Needs (λdF=>ey dF s))))
def bh.K1  : Int:=0
def bh.L1(l:List Document)(k:Int):List Document->Nat->Int
 |[],i1=>(k)
 |y1::rz1,i1=>(bif(((!(gG y1))||(decide (0<(i1:Int))&&decide (y1.No<=(nthI l ((i1:Int)-1)).No)))||(!(eJ (aB l) y1)))then 170 else(bh.L1 l k rz1 (i1+1)))
def bh(l:List Document):Int:=(bif(decide (4096<(l.length:Int)))then 2 else((bh.L1 l (bh.K1)) l 0))
def gR(ep:Int)(v0:Int):Bool:=(decide (ep<0)||decide (v0<ep))
def dt(most:Int)(l:List Int):Bool:=(!(cC l (λdF=>gR dF most)))
def iO(x:Approval):Bool:=(((((dt 1048576 ([x.No]))&&(dt 1099511627775 ([x.At,x.Known])))&&(dt 4095 ([x.Doc])))&&(dt 63 ([x.By,x.For])))&&(dt 31 ([x.Office])))
def bX.K1(iB:Int):Int:=0
def bX.L1(k:Int->Int):List Approval->Int->Int
 |[],iB=>(k iB)
 |y1::rz1,iB=>(bif((!(iO y1))||decide (y1.No<=iB))then 280 else(bX.L1  k rz1 y1.No))
def bX(l:List Approval):Int:=(bif(decide (4096<(l.length:Int)))then 2 else((bX.L1 (bX.K1)) l (-1)))
def dR.K1  : Int:=0
def dR.L1(aL:Register)(k:Int):List Nat->Nat->Int
 |[],i1=>(k)
 |y1::rz1,i1=>(bif((nthI ([(dg aL.Appoints),(dB aL.Deputies),(cX aL.Interests),(cw aL.Budgets),(bH aL.Versions),(bh aL.Docs),(bX aL.Approvals)]) (i1:Int)) != 0)then 300 else(dR.L1 aL k rz1 (i1+1)))
def dR(aL:Register):Int:=((dR.L1 aL (dR.K1)) (kG 7) 0)
def lA(Qh:Int):(Except Int Unit):=(bif(Qh != 0)then(Except.error Qh)else(Except.ok ()))
def ad.K1  : Int:=(-1)
def ad.L1(f:(Document->Bool))(k:Int):List Document->Nat->Int
 |[],i1=>(k)
 |y1::rz1,i1=>(bif(f y1)then(i1:Int)else(ad.L1 f k rz1 (i1+1)))
def ad(s:List Document)(f:(Document->Bool)):Int:=((ad.L1 f (ad.K1)) s 0)
def bB(d:Document)(v0:Int):Bool:=(d.No==v0)
def kW(aL:Register)(doc:Int)(bp:Int)(known:Int):(Except Int bN):=(bif((decide ((ad aL.Docs (λdF=>bB dF doc))<0)||decide ((min bp known)<0))||decide (1099511627776<=(max bp known)))then(Except.error 1)else(Except.ok (bN.mk aL (nthI aL.Docs (ad aL.Docs (λdF=>bB dF doc))) bp known)))
def cmp_isNaN_int(x:Int):Bool:=(x != x)
def cD.K1  : Int:=(-1)
def cD.L1(f:(Approval->Bool))(k:Int):List Approval->Nat->Int
 |[],i1=>(k)
 |y1::rz1,i1=>(bif(f y1)then(i1:Int)else(cD.L1 f k rz1 (i1+1)))
def cD(s:List Approval)(f:(Approval->Bool)):Int:=((cD.L1 f (cD.K1)) s 0)
def fG(s:List Approval)(del:Approval->Bool):List Approval:=s.filter λx=>!(del x)
def bT.K1  : List Approval:=[]
def bT.L1(v1:Int)(v2:Int)(v3:Int)(k:List Approval):List Approval->List Approval
 |[]=>(k)
 |y1::rz1=>(bif(((y1.Doc==v1)&&decide (y1.At<=v2))&&decide (y1.Known<=v3))then(y1::(bT.L1 v1 v2 v3 k rz1))else(bT.L1 v1 v2 v3 k rz1))
def bT(v0:List Approval)(v1:Int)(v2:Int)(v3:Int):List Approval:=((bT.L1 v1 v2 v3 (bT.K1)) v0)
def eX(l:List Approval)(doc:Int)(bp:Int)(known:Int):List Approval:=(bT l doc bp known)
def cf(x:Approval):fh:=(fh.mk x.Doc x.By x.For x.Office)
def aI.K2(mX:List Approval):List Approval:=mX
def aI.L2(bM:List (fh×Approval))(k:List Approval->List Approval):List Approval->List Approval->List Approval
 |[],mX=>k mX
 |y2::rz2,mX=>(bif((!y2.Gone)&&(decide ((mgetD bM (cf y2) (qV 0 0 0 0 0 0 0 false))=y2)))then(aI.L2 bM k rz2 (mX++[y2]))else(aI.L2 bM k rz2 mX))
def aI.K1(l:List Approval)(doc:Int)(bp:Int)(known:Int)(bM:List (fh×Approval)):List Approval:=((aI.L2 bM (aI.K2)) (eX l doc bp known) ([]))
def aI.L1(k:(List (fh×Approval))->List Approval):List Approval->(List (fh×Approval))->List Approval
 |[],bM=>k bM
 |y1::rz1,bM=>(bif((!(mhas bM (cf y1)))||decide ((mgetD bM (cf y1) (qV 0 0 0 0 0 0 0 false)).At<=y1.At))then(aI.L1 k rz1 (mput bM (cf y1) y1))else(aI.L1 k rz1 bM))
def aI(l:List Approval)(doc:Int)(bp:Int)(known:Int):List Approval:=((aI.L1 (aI.K1 l doc bp known)) (eX l doc bp known) ([]))
def iu(y:Approval)(begun:Int)(at_:Int)(think:Int):Bool:=(decide (y.At<begun)||decide ((vC .i64 (at_-y.At))<think))
def cR(l:List Approval)(doc:Int)(begun:Int)(think:Int)(aK:Int)(known:Int):(List Approval×Int):=(bif((bX l) != 0)then([],(bX l))else(bif((!(dt 4095 ([doc])))||(!(dt 1099511627775 ([begun,think,aK,known]))))then([],1)else((fG (aI l doc aK known) (λdF=>iu dF begun aK think)),0)))
def iy(x:Appoint)(v0:Int)(v1:Int):(OSeat×Bool):=((aBg x.Office x.Person),(decide (x.At<=v0)&&decide (x.Known<=v1)))
def dq.K1(bC:List (OSeat×Appoint)):(List (OSeat×Appoint)):=bC
def dq.L1(key:(Appoint->OSeat×Bool))(later:(Appoint->Appoint->Bool))(k:(List (OSeat×Appoint))->(List (OSeat×Appoint))):List Appoint->(List (OSeat×Appoint))->(List (OSeat×Appoint))
 |[],bC=>(k bC)
 |y1::rz1,bC=>(bif((key y1).2&&((!(mhas bC ((key y1).1)))||(!(later (mgetD bC ((key y1).1) (jC 0 0 0 0 0 0 false)) y1))))then(dq.L1 key later k rz1 (mput bC ((key y1).1) y1))else(dq.L1 key later k rz1 bC))
def dq(l:List Appoint)(key:(Appoint->OSeat×Bool))(later:(Appoint->Appoint->Bool)):(List (OSeat×Appoint)):=((dq.L1 key later (dq.K1)) l ([]))
def je(a:Appoint)(j0:Appoint):Bool:=decide (j0.At<a.At)
def dx(l:List Appoint)(ig:Int)(known:Int):(List (OSeat×Appoint)):=(dq l (λdF=>iy dF ig known) je)
def gP(l:List Appoint)(office:Int)(person:Int)(dl:Int)(known:Int):(Int×Int×Bool×Int):=(bif((dg l) != 0)then(0,0,false,(dg l))else(bif((((!(fa office))||(!(fR person)))||(!(dv dl)))||(!(dv known)))then(0,0,false,1)else(bif((!(mhas (dx l dl known) (aBg office person)))||(mgetD (dx l dl known) (aBg office person) (jC 0 0 0 0 0 0 false)).Gone)then(0,0,false,0)else((mgetD (dx l dl known) (aBg office person) (jC 0 0 0 0 0 0 false)).No,(mgetD (dx l dl known) (aBg office person) (jC 0 0 0 0 0 0 false)).Weight,true,0))))
def ll(l:List Deputy)(dL:Int)(to:Int)(q:cI):Int:=(bif((dB l) != 0)then(dB l)else(bif(((((((!(fS dL))||(!(fS to)))||(!(cY q.office 0 31)))||(!(cY q.kind 0 15)))||(!(cY q.value 0 1099511627776)))||(!(gh q.at_)))||(!(gh q.known)))then 1 else 0))
def cM.K1(bC:List Deputy):List Deputy:=bC
def cM.L1(k:List Deputy->List Deputy):List Deputy->List Deputy->List Deputy
 |[],bC=>k bC
 |y1::rz1,bC=>(cM.L1 k rz1 (bC++[y1]))
def cM(seq:List Deputy):List Deputy:=((cM.L1 (cM.K1)) seq ([]))
def de(seq:List Deputy):List Deputy:=(cM seq)
def fE(q:cI)(x:Deputy):Bool:=(decide (x.At<=q.at_)&&decide (x.Known<=q.known))
def gg(q:cI)(x:Deputy):Bool:=(((((!x.Gone)&&decide (q.at_<x.Until))&&(x.Office==q.office))&&((x.Kind==(-1))||(x.Kind==q.kind)))&&decide (q.value<=x.Most))
def aF.K1  : List Deputy:=[]
def aF.L1(v1:List (eo×Deputy))(v2:(Deputy->Bool))(v3:cI)(k:List Deputy):List Deputy->List Deputy
 |[]=>(k)
 |y1::rz1=>(bif(((decide ((mgetD v1 (eo.mk y1.From y1.To y1.Office y1.Kind) (aBc 0 0 0 0 0 0 0 0 0 false))=y1))&&(v2 y1))&&(gg v3 y1))then(y1::(aF.L1 v1 v2 v3 k rz1))else(aF.L1 v1 v2 v3 k rz1))
def aF(v0:List Deputy)(v1:List (eo×Deputy))(v2:(Deputy->Bool))(v3:cI):List Deputy:=((aF.L1 v1 v2 v3 (aF.K1)) v0)
def aU.K1(q:cI)(l:List Deputy)(dC:List (eo×Deputy)):List Deputy:=(aF l dC (fE q) q)
def aU.L1(q:cI)(k:(List (eo×Deputy))->List Deputy):List Deputy->(List (eo×Deputy))->List Deputy
 |[],dC=>(k dC)
 |y1::rz1,dC=>(bif((fE q y1)&&((!(mhas dC (eo.mk y1.From y1.To y1.Office y1.Kind)))||decide ((mgetD dC (eo.mk y1.From y1.To y1.Office y1.Kind) (aBc 0 0 0 0 0 0 0 0 0 false)).At<=y1.At)))then(aU.L1 q k rz1 (mput dC (eo.mk y1.From y1.To y1.Office y1.Kind) y1))else(aU.L1 q k rz1 dC))
def aU(q:cI)(l:List Deputy):List Deputy:=((aU.L1 q (aU.K1 q l)) l ([]))
def aH.L2(k:(List (Int×Int))->(List Int×Bool×Int)):List Deputy->(List (Int×Int))->(List Int×Bool×Int)
 |[],vi=>(k vi)
 |y2::rz2,vi=>(bif(((mhas vi y2.To)&&((mgetD vi y2.To 0)==0))&&(!(mhas vi y2.From)))then(aH.L2  k rz2 (mput vi y2.From 1))else(aH.L2  k rz2 vi))
def aH.L3(i1:Nat)(k:(List (Int×Int))->(List Int×Bool×Int)):List Deputy->(List (Int×Int))->(List Int×Bool×Int)
 |[],mW=>(k mW)
 |y3::rz3,mW=>(bif(((mhas mW y3.To)&&((mgetD mW y3.To 0)==(i1:Int)))&&(!(mhas mW y3.From)))then(aH.L3 i1 k rz3 (mput mW y3.From (((i1+1):Nat):Int)))else(aH.L3 i1 k rz3 mW))
def aH.L5(dL:Int)(bM:List (Int×Int))(k:List Int->Int->(List Int×Bool×Int)):List Deputy->List Int->Int->(List Int×Bool×Int)
 |[],LT,LS=>(k LT LS)
 |y5::rz5,LT,LS=>(bif(((y5.From==LS)&&(mhas bM y5.To))&&((mgetD bM y5.To 0)==((mgetD bM dL 0)-1)))then(k (LT++[y5.No]) y5.To)else(aH.L5 dL bM k rz5 LT LS))
def aH.L6(dL:Int)(bM:List (Int×Int))(i4:Nat)(k:List Int->Int->(List Int×Bool×Int)):List Deputy->List Int->Int->(List Int×Bool×Int)
 |[],Bd,C7=>(k Bd C7)
 |y6::rz6,Bd,C7=>(bif(((y6.From==C7)&&(mhas bM y6.To))&&((mgetD bM y6.To 0)==((((((mgetD bM dL 0)).toNat)-(i4+1)):Nat):Int)))then(k (Bd++[y6.No]) y6.To)else(aH.L6 dL bM i4 k rz6 Bd C7))
def aH.K4(xq:List Int)(C9:Int):(List Int×Bool×Int):=(xq,true,0)
def aH.L4(l:List Deputy)(dL:Int)(office:Int)(kind:Int)(value:Int)(km:Int)(known:Int)(bM:List (Int×Int))(k:List Int->Int->(List Int×Bool×Int)):List Nat->Nat->List Int->Int->(List Int×Bool×Int)
 |[],i4,xq,C9=>(k xq C9)
 |y4::rz4,i4,xq,C9=>((aH.L6 dL bM i4 (λzg6_16 zg6_31=>(aH.L4 l dL office kind value km known bM k rz4 (i4+1) zg6_16 zg6_31))) (de (aU (cI.mk office kind value km known) l)) xq C9)
def aH.K1(l:List Deputy)(dL:Int)(office:Int)(kind:Int)(value:Int)(km:Int)(known:Int)(bM:List (Int×Int)):(List Int×Bool×Int):=(bif(!(mhas bM dL))then([],false,0)else((aH.L4 l dL office kind value km known bM (aH.K4)) (kG (((mgetD bM dL 0)).toNat)) 0 ([]) dL))
def aH.L1(l:List Deputy)(office:Int)(kind:Int)(value:Int)(km:Int)(known:Int)(k:(List (Int×Int))->(List Int×Bool×Int)):List Nat->Nat->(List (Int×Int))->(List Int×Bool×Int)
 |[],i1,bM=>(k bM)
 |y1::rz1,i1,bM=>((aH.L3 i1 (λzg3_b2_0=>(aH.L1 l office kind value km known k rz1 (i1+1) zg3_b2_0))) (de (aU (cI.mk office kind value km known) l)) bM)
def aH(l:List Deputy)(dL:Int)(to:Int)(office:Int)(kind:Int)(value:Int)(km:Int)(known:Int):(List Int×Bool×Int):=(bif((ll l dL to (cI.mk office kind value km known)) != 0)then([],false,(ll l dL to (cI.mk office kind value km known)))else((aH.L1 l office kind value km known (aH.K1 l dL office kind value km known)) (kG 8) 0 (mput ([]) to 0)))
def cV.K1(person:Int)(parties:List Int)(dl:Int)(known:Int)(n8:Int):Int:=(bif((((!(bJ person 64))||decide (16<(parties.length:Int)))||(!(bJ dl 1099511627776)))||(!(bJ known 1099511627776)))then 1 else 0)
def cV.L1(k:Int->Int):List Int->Int->Int
 |[],n8=>(k n8)
 |y1::rz1,n8=>(bif(decide (y1<=n8)||decide (1048576<y1))then 1 else(cV.L1  k rz1 y1))
def cV(l:List Interest)(person:Int)(parties:List Int)(dl:Int)(known:Int):Int:=(bif((cX l) != 0)then(cX l)else((cV.L1 (cV.K1 person parties dl known)) parties (-1)))
def bW.K1  : List Interest:=[]
def bW.L1(v1:List (ed×Interest))(k:List Interest):List Interest->List Interest
 |[]=>(k)
 |y1::rz1=>(bif((!y1.Gone)&&(decide ((mgetD v1 (ed.mk y1.Person y1.Party y1.Of) (aAv 0 0 0 0 0 false false))=y1)))then(y1::(bW.L1 v1 k rz1))else(bW.L1 v1 k rz1))
def bW(v0:List Interest)(v1:List (ed×Interest)):List Interest:=((bW.L1 v1 (bW.K1)) v0)
def da.K1(l:List Interest)(bM:List (ed×Interest)):List Interest:=(bW l bM)
def da.L1(ig:Int)(known:Int)(k:(List (ed×Interest))->List Interest):List Interest->(List (ed×Interest))->List Interest
 |[],bM=>(k bM)
 |y1::rz1,bM=>(bif(decide (ig<y1.At)||decide (known<y1.Known))then(da.L1 ig known k rz1 bM)else(bif((!(mhas bM (ed.mk y1.Person y1.Party y1.Of)))||decide ((mgetD bM (ed.mk y1.Person y1.Party y1.Of) (aAv 0 0 0 0 0 false false)).At<=y1.At))then(da.L1 ig known k rz1 (mput bM (ed.mk y1.Person y1.Party y1.Of) y1))else(da.L1 ig known k rz1 bM)))
def da(l:List Interest)(ig:Int)(known:Int):List Interest:=((da.L1 ig known (da.K1 l)) l ([]))
def conPut(w:gT)(m:List (Int×Bool))(q:List gT):List (Int×Bool)×List gT:=bif mgetD m w.to false then(m,q)else(mput m w.to true,q++[w])
def conFill(person:Int):List Interest->List (Int×List Interest)->List (Int×Bool)->List gT->List (Int×List Interest)×List (Int×Bool)×List gT
 |[],f,m,q=>(f,m,q)
 |x::l,f,m,q=>bif x.Of then conFill person l (mput f x.Person (mgetD f x.Person []++[x])) m q
  else bif x.Person==person then conFill person l f (conPut ⟨[x.No],x.Party⟩ m q).1 (conPut ⟨[x.No],x.Party⟩ m q).2 else conFill person l f m q
def conStep(path:List Int):List Interest->List (Int×Bool)->List gT->List (Int×Bool)×List gT
 |[],m,q=>(m,q)
 |x::l,m,q=>conStep path l (conPut ⟨path++[x.No],x.Party⟩ m q).1 (conPut ⟨path++[x.No],x.Party⟩ m q).2
def conLoop(parties:List Int)(f:List (Int×List Interest)):Nat->List (Int×Bool)->List gT->List Int×Bool
 |0,_,_=>([],false)
 |_+1,_,[]=>([],false)
 |n+1,m,w::q=>bif parties.contains w.to then(w.path,true)else bif(w.path.length:Int)==8 then conLoop parties f n m q
  else conLoop parties f n (conStep w.path (mgetD f w.to []) m q).1 (conStep w.path (mgetD f w.to []) m q).2
def conFind(l:List Interest)(person:Int)(parties:List Int)(st:List Interest):List Int×Bool:=
 conLoop parties (conFill person st [] [] []).1 (l.length+1) (conFill person st [] [] []).2.1 (conFill person st [] [] []).2.2
def fm(l:List Interest)(person:Int)(parties:List Int)(dl:Int)(known:Int):List Int×Bool×Int:=
 bif cV l person parties dl known != 0 then([],false,cV l person parties dl known)
 else((conFind l person parties (da l dl known)).1,(conFind l person parties (da l dl known)).2,0)
def uL(h:HF):List Value->List gT->Prop
 |[],[]=>True
 |v::vs,w::ws=>(∃r,v=.agg (gT.cells w r).toArray/\gT.ok h w r)/\uL h vs ws
 |_,_=>False
def V3(_:HF)(v:Value)(x:Option Addr×Nat×Nat):Prop:=v=.slice x.1 x.2.1 x.2.2
def FR(h:HF):List (Int×Option Addr×Nat×Nat)->List (Int×List Interest)->LH->Prop
 |[],[],G=>G=[]
 |(k,x)::m,(k',xs)::f,G=>k=k'/\x.2.1=xs.length/\∃G1 G2,G=G1++G2/\dG Interest.rp 97 h xs x.1 x.2.2 G1/\FR h m f G2
 |_,_,_=>False
def uM(st:List Interest)(m:List (Int×Bool))(q:List gT):Prop:=(∀p∈m,p.2=true/\p.1∈st.map (·.Party))/\q.length<=m.length/\∀w∈q,w.path.length<=8
def Ms(st:List Interest)(f:List (Int×List Interest)):Prop:=∀k,∀x∈mgetD f k [],x∈st
def iz(c:bN)(person:Int):Bool:=(fm c.Register.Interests person c.doc.Parties c.at_ c.known).2.1
def cG.K1  : List Approval:=[]
def cG.L1(c:bN)(k:List Approval):List Approval->List Approval
 |[]=>(k)
 |y1::rz1=>(bif((((gP c.Register.Appoints y1.Office y1.For c.at_ c.known).2.2.1&&(aH c.Register.Deputies y1.For y1.By y1.Office c.doc.Kind c.doc.Value c.at_ c.known).2.1)&&(!(iz c y1.For)))&&(!(iz c y1.By)))then(y1::(cG.L1 c k rz1))else(cG.L1 c k rz1))
def cG(c:bN)(p:Policy):List Approval:=(bif(decide ((p.Kinds.length:Int)<=c.doc.Kind))then[]else((cG.L1 c (cG.K1)) ((cR c.Register.Approvals c.doc.No c.doc.At ((nthI p.Rules c.doc.Kind).Think) c.at_ c.known).1)))
def gF(c:bN)(p:Policy):List Approval:=(cG c p)
def dk.K1(ck:List Int):List Int:=(slices_Compact_int (sortI ck))
def dk.L1(k:List Int->List Int):List Approval->List Int->List Int
 |[],ck=>k ck
 |y1::rz1,ck=>(dk.L1 k rz1 (ck++[y1.For]))
def dk(c:bN)(p:Policy):List Int:=((dk.L1 (dk.K1)) (gF c p) ([]))
def aS.K1  : Int:=(-1)
def aS.L1(f:(Version->Bool))(k:Int):List Version->Nat->Int
 |[],i1=>(k)
 |y1::rz1,i1=>(bif(f y1)then(i1:Int)else(aS.L1 f k rz1 (i1+1)))
def aS(s:List Version)(f:(Version->Bool)):Int:=((aS.L1 f (aS.K1)) s 0)
def dE(v:Version)(v0:Int):Bool:=(v.No==v0)
def dS(c:bN)(no:Int):(Except Int Policy):=(bif(decide ((aS c.Register.Versions (λdF=>dE dF no))<0))then(Except.error 1)else(Except.ok ((nthI c.Register.Versions (aS c.Register.Versions (λdF=>dE dF no))).Policy)))
def cz(aL:Register)(doc:Int)(version:Int)(dl:Int)(known:Int):List Int×Int:=
 bif dR aL != 0 then([],dR aL)else match kW aL doc dl known with
  |.error e=>([],e)
  |.ok c=>match dS c version with
   |.error e=>([],e)
   |.ok p=>(dk c p,0)
def gB(ep:Int):Bool:=(decide (0<=ep)&&decide (ep<1099511627776))
def bL.K2  : (List (Int×Version)):=[]
def bL.L2(bC:List (Int×Version))(k:List (Int×Version)):List Int->(List (Int×Version))
 |[]=>(k)
 |y2::rz2=>((y2,(mgetD bC y2 (aAZ 0 0 0 (xM (⟨#[]⟩:ByteArray) [] [] [] (qG 0 0 0 (⟨#[]⟩:ByteArray) []) 0))))::(bL.L2 bC k rz2))
def bL.K1(re:Int)(bC:List (Int×Version)):(List (Int×Version)):=((bL.L2 bC (bL.K2)) (sortI (bC.map Prod.fst)))
def bL.L1(known:Int)(eY:Int)(k:Int->(List (Int×Version))->(List (Int×Version))):List Version->Int->(List (Int×Version))->(List (Int×Version))
 |[],re,bC=>(k re bC)
 |y1::rz1,re,bC=>(bif(decide (known<y1.Known))then(bL.L1 known eY k rz1 re bC)else(bif(decide (y1.At<=eY))then(bif(decide (y1.At<re))then(bL.L1 known eY k rz1 re bC)else(bL.L1 known eY k rz1 y1.At (mput bC eY y1)))else(bL.L1 known eY k rz1 re (mput bC y1.At y1))))
def bL(l:List Version)(known:Int)(eY:Int):(List (Int×Version)):=((bL.L1 known eY (bL.K1)) l (-1) ([]))
def fL(l:List Version)(dL:Int)(known:Int):(List (Int×Version)):=(bL l known dL)
def iI(l:List Version)(old:Bool):List Version:=l
def ii(l:List Version)(old:Bool):List Version:=(bif(!old)then[]else(l.take ((1:Int)).toNat))
def iH(l:List Version)(old:Bool):List Version:=(l.drop ((((l.length:Int)-1):Int)).toNat)
def ky  : (List (Int×Value)):=(mput (mput (mput (mput ([]) 1 (Value.func (.func 171) #[] #[])) 2 (Value.func (.func 172) #[] #[])) 3 (Value.func (.func 170) #[] #[])) 4 (Value.func (.func 170) #[] #[]))
def judgesP(mode:Int)(l:List Version)(old:Bool):List Version:=bif mode==1 then ii l old else bif mode==2 then iH l old else iI l old
def aD.K2(ck:List Version)(kZ:List Int):(List Int×Int×Int):=((sortI kZ),(nthI ck ((ck.length:Int)-1)).Policy.Mode,0)
def aD.L2(k:List Int->(List Int×Int×Int)):List Version->List Int->(List Int×Int×Int)
 |[],kZ=>(k kZ)
 |y2::rz2,kZ=>(aD.L2  k rz2 (kZ++[y2.No]))
def aD.K1(dC:Bool)(ck:List Version):(List Int×Int×Int):=(bif((ck.length:Int)==0)then([],0,0)else((aD.L2 (aD.K2 ck)) (judgesP ((nthI ck ((ck.length:Int)-1)).Policy.Mode) ck dC) ([])))
def aD.L1(begun:Int)(bp:Int)(k:Bool->List Version->(List Int×Int×Int)):List (Int×Version)->Bool->List Version->(List Int×Int×Int)
 |[],dC,ck=>k dC ck
 |y1::rz1,dC,ck=>(bif(decide (bp<y1.1))then(k dC ck)else(aD.L1 begun bp k rz1 (dC||(y1.1==begun)) (ck++[y1.2])))
def aD(l:List Version)(begun:Int)(bp:Int)(known:Int):(List Int×Int×Int):=(bif((bH l) != 0)then([],0,(bH l))else(bif((((!(gB begun))||(!(gB bp)))||(!(gB known)))||decide (bp<begun))then([],0,1)else((aD.L1 begun bp (aD.K1)) (fL l begun known) false ([]))))
def jw(mode:Int)(permits:List Bool):Int:=(bif(!(mhas ky mode))then 270 else(bif(decide (256<(permits.length:Int)))then 1 else 0))
def fg.K1  : Int:=(-1)
def fg.L1(f:(Bool->Bool))(k:Int):List Bool->Nat->Int
 |[],i1=>(k)
 |y1::rz1,i1=>(bif(f y1)then(i1:Int)else(fg.L1 f k rz1 (i1+1)))
def fg(s:List Bool)(f:(Bool->Bool)):Int:=((fg.L1 f (fg.K1)) s 0)
def cQ(l:List Bool)(ok:(Bool->Bool)):Int:=(fg l ok)
def eK(Dj:Bool):Bool:=Dj
def fM(Dj:Bool):Bool:=(!Dj)
def bG.K1(permits:List Bool)(Gk:List Int):(List Int×Bool×Int):=(Gk,decide (0<=(cQ permits eK)),0)
def bG.L1(k:List Int->(List Int×Bool×Int)):List Bool->Nat->List Int->(List Int×Bool×Int)
 |[],i1,Gk=>(k Gk)
 |y1::rz1,i1,Gk=>(bG.L1  k rz1 (i1+1) (Gk++[(i1:Int)]))
def bG.K2(permits:List Bool)(Gj:List Int):(List Int×Bool×Int):=(Gj,(((permits.length:Int)==1)&&(nthI permits 0)),0)
def bG.L2(k:List Int->(List Int×Bool×Int)):List Bool->Nat->List Int->(List Int×Bool×Int)
 |[],i2,Gj=>(k Gj)
 |y2::rz2,i2,Gj=>(bG.L2  k rz2 (i2+1) (Gj++[(i2:Int)]))
def bG.K3(Gi:List Int):(List Int×Bool×Int):=(Gi,false,0)
def bG.L3(k:List Int->(List Int×Bool×Int)):List Bool->Nat->List Int->(List Int×Bool×Int)
 |[],i3,Gi=>(k Gi)
 |y3::rz3,i3,Gi=>(bG.L3  k rz3 (i3+1) (Gi++[(i3:Int)]))
def bG(mode:Int)(permits:List Bool):(List Int×Bool×Int):=(bif((jw mode permits) != 0)then([],false,(jw mode permits))else(bif((mode==4)&&decide (0<=(cQ permits eK)))then([(cQ permits eK)],true,0)else(bif((mode==3)&&decide (0<=(cQ permits fM)))then([(cQ permits fM)],false,0)else(bif(mode==3)then((bG.L1 (bG.K1 permits)) permits 0 ([]))else(bif(mode != 4)then((bG.L2 (bG.K2 permits)) permits 0 ([]))else((bG.L3 (bG.K3)) permits 0 ([])))))))
def gC(mode:Int)(permits:List Bool):(Bool×Int):=((bG mode permits).2.1,(bG mode permits).2.2)
def gl.K1(bC:List (Int×Bool)):Bool:=true
def gl.L1(k:(List (Int×Bool))->Bool):List Use->(List (Int×Bool))->Bool
 |[],bC=>(k bC)
 |y1::rz1,bC=>(bif(((((mgetD bC y1.Doc false)||(!(aR 0 4095 ([y1.Doc]))))||(!(aR 0 15 ([y1.Kind]))))||(!(aR 0 1099511627776 ([y1.Value]))))||(!(aR 0 1099511627775 ([y1.At,y1.Known]))))then false else(gl.L1  k rz1 (mput bC y1.Doc true)))
def gl(u:List Use):Bool:=((gl.L1 (gl.K1)) u ([]))
def bU.K2(kZ:List Budget):List Budget:=kZ
def bU.L2(bC:List (gN×Budget))(k:List Budget->List Budget):List Budget->List Budget->List Budget
 |[],kZ=>(k kZ)
 |y2::rz2,kZ=>(bif((!y2.Gone)&&(decide ((mgetD bC (gN.mk y2.Kind y2.Period) (aAW 0 0 0 0 0 0 0 false))=y2)))then(bU.L2 bC k rz2 (kZ++[y2]))else(bU.L2 bC k rz2 kZ))
def bU.K1(l:List Budget)(bC:List (gN×Budget)):List Budget:=((bU.L2 bC (bU.K2)) l ([]))
def bU.L1(kind:Int)(bp:Int)(known:Int)(k:(List (gN×Budget))->List Budget):List Budget->(List (gN×Budget))->List Budget
 |[],bC=>(k bC)
 |y1::rz1,bC=>(bif((decide (bp<y1.At)||decide (known<y1.Known))||((y1.Kind != (-1))&&(y1.Kind != kind)))then(bU.L1 kind bp known k rz1 bC)else(bif((!(mhas bC (gN.mk y1.Kind y1.Period)))||decide ((mgetD bC (gN.mk y1.Kind y1.Period) (aAW 0 0 0 0 0 0 0 false)).At<=y1.At))then(bU.L1 kind bp known k rz1 (mput bC (gN.mk y1.Kind y1.Period) y1))else(bU.L1 kind bp known k rz1 bC)))
def bU(l:List Budget)(kind:Int)(bp:Int)(known:Int):List Budget:=((bU.L1 kind bp known (bU.K1 l)) l ([]))
def ct.K1  : List Int:=[]
def ct.L1(known:Int)(bg:Budget)(at_:Int)(k:List Int):List Use->List Int
 |[]=>(k)
 |y1::rz1=>(bif((decide (y1.Known<=known)&&((bg.Kind==(-1))||(bg.Kind==y1.Kind)))&&((vC .i64 (y1.At.tdiv bg.Period))==(vC .i64 (at_.tdiv bg.Period))))then(y1.Value::(ct.L1 known bg at_ k rz1))else(ct.L1 known bg at_ k rz1))
def ct(u:List Use)(known:Int)(bg:Budget)(at_:Int):List Int:=((ct.L1 known bg at_ (ct.K1)) u)
def nL(Dj:Budget)(u:List Use)(bp:Int)(known:Int):List Int:=(ct u known Dj bp)
def bD.L2(k:Int->Int->(Int×Bool×Int)):List Int->Int->Int->(Int×Bool×Int)
 |[],H9,Ia=>k H9 Ia
 |y2::rz2,H9,Ia=>(bD.L2 k rz2 (vC .i64 (H9+y2)) (vC .i64 (Ia+1)))
def bD.L3(k:Int->Int->(Int×Bool×Int)):List Int->Int->Int->(Int×Bool×Int)
 |[],pS,H7=>k pS H7
 |y3::rz3,pS,H7=>(bD.L3 k rz3 (vC .i64 (pS+y3)) (vC .i64 (H7+1)))
def bD.K1  : (Int×Bool×Int):=((-1),true,0)
def bD.L1(u:List Use)(value:Int)(aK:Int)(known:Int)(k:(Int×Bool×Int)):List Budget->(Int×Bool×Int)
 |[]=>(k)
 |y1::rz1=>((bD.L3 (λzg3_b6_0 zg3_b5_0=>(bif(decide (y1.Count<zg3_b5_0)||decide (y1.Value<zg3_b6_0))then(y1.No,false,0)else(bD.L1 u value aK known k rz1)))) (nL y1 u aK known) value 1)
def bD(l:List Budget)(u:List Use)(kind:Int)(value:Int)(aK:Int)(known:Int):(Int×Bool×Int):=(bif((cw l) != 0)then(0,false,(cw l))else(bif(decide (4096<(u.length:Int)))then(0,false,2)else(bif(!(gl u))then(0,false,180)else(bif(((!(aR 0 15 ([kind])))||(!(aR 0 1099511627776 ([value]))))||(!(aR 0 1099511627775 ([aK,known]))))then(0,false,1)else((bD.L1 u value aK known (bD.K1)) (bU l kind aK known))))))
def gL(t:Int):Bool:=((t != (-1))&&(!(fJ t)))
def cg(l:List Document)(signed:List Int):Bool:=(((signed.length:Int)==(l.length:Int))&&(!(cC signed gL)))
def fZ.K1(iB:Int):Int:=iB
def fZ.L1(k:Int->Int):List Int->Int->Int
 |[],iB=>(k iB)
 |y1::rz1,iB=>(fZ.L1  k rz1 (min iB y1))
def fZ(x:List Int):Int:=((fZ.L1 (fZ.K1)) (x.drop 1) (nthI x 0))
def cH(p:ft)(nK:Int)(bp:Int):(Int×Int):=(bif(!(nthI p.done nK))then(1,(-1))else(bif(decide (0<=(nthI p.lacks nK)))then(4,(nthI p.lacks nK))else(bif(decide (0<(((mgetD p.revoked ((nthI p.shelf.docs nK).No) []).length:Nat):Int)))then(5,(fZ (mgetD p.revoked ((nthI p.shelf.docs nK).No) [])))else(bif(decide (bp<(nthI p.shelf.docs nK).From))then(2,(-1))else(bif(decide ((nthI p.shelf.docs nK).Until<=bp))then(3,(-1))else(0,(-1)))))))
def insIn(cmp:Int->Int->Int):Nat->List Int->List Int
 |0,xs=>xs
 |j+1,xs=>bif decide (cmp (xs.getD (j+1) 0) (xs.getD j 0)<0)then insIn cmp j ((xs.set (j+1) (xs.getD j 0)).set j (xs.getD (j+1) 0))else xs
def insOut(cmp:Int->Int->Int):Nat->Nat->List Int->List Int
 |0,_,xs=>xs
 |m+1,i,xs=>insOut cmp m (i+1) (insIn cmp i xs)
def fu(xs:List Int)(cmp:Int->Int->Int):List Int:=insOut cmp (xs.length-1) 1 xs
def cmp_Compare_int(x:Int)(y:Int):Int:=(bif(cmp_isNaN_int x)then(bif(cmp_isNaN_int y)then 0 else(-1))else(bif(cmp_isNaN_int y)then 1 else(bif(decide (x<y))then(-1)else(bif(decide (y<x))then 1 else 0))))
def iv(a:Int)(j0:Int)(p:pt):Int:=(cmp_Compare_int (nthI p.signed a) (nthI p.signed j0))
def di.K1  : List Int:=[]
def di.L1(k:List Int):List Int->List Int
 |[]=>(k)
 |y1::rz1=>(y1::(di.L1  k rz1))
def di(v0:List Int):List Int:=((di.L1 (di.K1)) v0)
def jz(s:List Int):List Int:=(di s)
def bP.K1(p:pt)(eW:List Int):List Int:=(jz (fu eW (λdF DT=>iv dF DT p)))
def bP.L1(ig:Int)(k:List Int->List Int):List Int->Nat->List Int->List Int
 |[],i1,eW=>(k eW)
 |y1::rz1,i1,eW=>(bif(decide (0<=y1)&&decide (y1<=ig))then(bP.L1 ig k rz1 (i1+1) (eW++[(i1:Int)]))else(bP.L1 ig k rz1 (i1+1) eW))
def bP(p:pt)(ig:Int):List Int:=((bP.L1 ig (bP.K1 p)) p.signed 0 ([]))
def backL(s:List Int):Nat->List (Int×Int)
 |0=>[]
 |m+1=>((m:Int),nthI s (m:Int))::backL s m
def iD(v0:List Int):List (Int×Int):=backL v0 v0.length
def iV(s:List Int):(List (Int×Int)):=(iD s)
def V3i(_:HF)(v:Value)(x:Option Addr×Nat×Nat):Prop:=v=.slice x.1 x.2.1 x.2.2
def FRi(h:HF):List (Int×Option Addr×Nat×Nat)->List (Int×List Int)->LH->Prop
 |[],[],G=>G=[]
 |(k,x)::m,(k',xs)::f,G=>k=k'/\x.2.1=xs.length/\∃G1 G2,G=G1++G2/\dG Rp.int 3 h xs x.1 x.2.2 G1/\FRi h m f G2
 |_,_,_=>False
def playP(l:List Document)(sg:List Int):ft:=⟨aB l,sg,List.replicate l.length false,List.replicate l.length 0,[]⟩
def playR(n:Nat)(sq:nP)(sb:Option Addr)(sc:Nat)(b5 b8 b9:Nat):sV:=⟨sq,sb,sc,some ⟨b5,0,none⟩,n,some ⟨b8,0,none⟩,n,b9⟩
def plL(b c d f t:Bool)(B5 B8 B9 B12 B11:Nat×Obj):LH:=
 (bif t then[B11]else[])++((bif f then[B12]else[])++((bif d then[B9]else[])++((bif c then[B8]else[])++(bif b then[B5]else[]))))
def plD(a b c d f g t:Bool):List Nat:=
 (bif t then[11]else[])++((bif g then[10]else[])++((bif f then[12]else[])++((bif d then[9]else[])++((bif c then[8]else[])++((bif b then[5]else[])++((bif a then[1]else[])++[7,6,4,3,2,0]))))))
def plM(a b c d f g t:Bool):Nat:=(bif a then 0 else 1)+(bif b then 0 else 1)+(bif c then 0 else 1)+(bif d then 0 else 1)+(bif f then 0 else 1)+(bif g then 0 else 1)+(bif t then 0 else 1)
def PlI(h:HF)(l:List Document)(lb:Option Addr)(lc:Nat)(sg:List Int)(sb:Option Addr)(sc:Nat)(at_:Int)(q4:Addr)(a b c d f g t:Bool)(e:Env)(h':HF)(L:LH):Prop:=
 ((!g||(a&&b&&c&&d))&&(!t||g))=true/\h.le h'/\(e 2=.int .i64 at_/\e 4=.pointer (some q4)/\e 16=.slice lb l.length lc/\e 18=.slice sb sg.length sc/\e 20=.int .i64 (l.length:Int)/\e 23=.int .i64 (l.length:Int)) /\
 ∃(sq:nP)(b5 b8 b9 b12 b11:Nat),(a=true->e 17=.agg (gM.cells (aB l) sq).toArray/\gM.ok h' (aB l) sq)/\(b=true->e 21=.slice (some ⟨b5,0,none⟩) l.length l.length) /\
  (c=true->e 24=.slice (some ⟨b8,0,none⟩) l.length l.length)/\(d=true->e 25=.map (some b9))/\(f=true->e 7=.pointer (some ⟨b12,0,none⟩))/\(g=true->e 26=.agg (ft.cells (playP l sg) (playR l.length sq sb sc b5 b8 b9)).toArray)/\(t=true->e 27=.pointer (some ⟨b11,0,none⟩)) /\
  L.Perm (plL b c d f t (b5,.cells (List.replicate l.length (.bool false)).toArray 4 (0,0)) (b8,.cells (List.replicate l.length (.int .i64 0)).toArray 3 (0,0)) (b9,.map #[] 0) (b12,.cells (vB [.pointer none]) 211 (0,0)) (b11,.cells (ft.cells (playP l sg) (playR l.length sq sb sc b5 b8 b9)).toArray 238 (0,0)))
def plN(a b c d f g t:Bool):List Nat:=
 (bif a then[]else[1])++((bif b then[]else[5])++((bif c then[]else[8])++((bif d then[]else[9])++((bif a&&b&&c&&d&&!g then[10]else[])++((bif g&&!t then[11]else[])++((bif f then[]else[12])++(bif a&&b&&c&&d&&f&&g&&t then[13]else[])))))))
def playLack(sg:List Int)(i:Int)(p:ft)(no:Int):ft:=bif(cH p (mgetD p.shelf.at_ no 0) (nthI sg i)).1 != 0 then { p with lacks:=p.lacks.set i.toNat no }else p
def playRevoke(d:Document)(p:ft)(no:Int):ft:={ p with revoked:=mput p.revoked no (mgetD p.revoked no []++[d.No]) }
def playMid(p:ft)(i:Int):ft:=(iV (nthI p.shelf.docs i).Needs).foldl (λq x=>playLack p.signed i q x.2) { p with lacks:=p.lacks.set i.toNat (-1) }
def playDone(p:ft)(i:Int):ft:={ p with done:=p.done.set i.toNat true }
def playStep(p:ft)(i:Int):ft:=
 bif decide (nthI (playMid p i).lacks i<0)then(nthI p.shelf.docs i).Revokes.foldl (playRevoke (nthI p.shelf.docs i)) (playDone (playMid p i) i)else playDone (playMid p i) i
def cv(l:List Document)(signed:List Int)(at_:Int):ft:=(bP (playP l signed) at_).foldl playStep (playP l signed)
def plB(b5 b8 br:Nat)(P:ft)(om:Obj)(Gf:LH):LH:=
 [(b5,.cells (P.done.map Value.bool).toArray 4 (0,0)),(b8,.cells (P.lacks.map (Value.int .i64)).toArray 3 (0,0)),(br,om)]++Gf
def aZ.K1(re:List Int):(List Int×Int):=(re,0)
def aZ.L1(l:List Document)(signed:List Int)(bp:Int)(k:List Int->(List Int×Int)):List Document->Nat->List Int->(List Int×Int)
 |[],i1,re=>(k re)
 |y1::rz1,i1,re=>(bif((cH (cv l signed bp) (i1:Int) bp).1==0)then(aZ.L1 l signed bp k rz1 (i1+1) (re++[y1.No]))else(aZ.L1 l signed bp k rz1 (i1+1) re))
def aZ(l:List Document)(signed:List Int)(bp:Int):(List Int×Int):=(bif((bh l) != 0)then([],(bh l))else(bif((!(cg l signed))||(!(fJ bp)))then([],1)else((aZ.L1 l signed bp (aZ.K1)) l 0 ([]))))
def bS(d:Document)(v0:bN):Bool:=(d.No==v0.doc.No)
def fU(s:List Document)(f:(Document->Bool)):Bool:=decide (0<=(ad s f))
def cU(l:List Document)(signed:List Int)(no:Int)(dl:Int):(Int×Int×Int):=(bif((bh l) != 0)then(0,0,(bh l))else(bif((!(cg l signed))||(!(fJ dl)))then(0,0,1)else(bif(!(mhas ((cv l signed dl).shelf.at_) no))then(0,0,1)else((cH (cv l signed dl) (mgetD ((cv l signed dl).shelf.at_) no 0) dl).1,(cH (cv l signed dl) (mgetD ((cv l signed dl).shelf.at_) no 0) dl).2,0))))
def eZ.K1  : Int:=(-1)
def eZ.L1(v:Int)(k:Int):List Int->Nat->Int
 |[],i1=>(k)
 |y1::rz1,i1=>(bif(v==y1)then(i1:Int)else(eZ.L1 v k rz1 (i1+1)))
def eZ(s:List Int)(v:Int):Int:=((eZ.L1 v (eZ.K1)) s 0)
def gu(s:List Int)(v:Int):Bool:=decide (0<=(eZ s v))
def gY(d:Document)(c:bN)(signed:List Int):Bool:=(bif(!(gu d.Revokes c.doc.No))then false else(((cU c.Register.Docs signed d.No c.at_).1 != 1)&&((cU c.Register.Docs signed d.No c.at_).1 != 4)))
def eh(c:bN)(signed:List Int):Bool:=(fU c.Register.Docs (λdF=>gY dF c signed))
def eI(c:bN)(signed:List Int):Bool:=(((decide (c.at_<c.doc.At)||decide (c.doc.Until<=c.at_))||(decide (0<=(nthI signed (ad c.Register.Docs (λdF=>bS dF c))))&&decide ((nthI signed (ad c.Register.Docs (λdF=>bS dF c)))<=c.at_)))||(eh c signed))
def uk(c:bN)(signed:List Int):Bool:=(eI c signed)
def j5(ep:Int)(v0:List Int):Bool:=(!(gu v0 ep))
def fA(c:bN)(signed:List Int):Bool:=(cC c.doc.Needs (λdF=>j5 dF ((aZ c.Register.Docs signed c.at_).1)))
def uj(c:bN)(signed:List Int):Bool:=(fA c signed)
def cm.K1(bC:List Holder):List Holder:=bC
def cm.L1(k:List Holder->List Holder):List Holder->List Holder->List Holder
 |[],bC=>k bC
 |y1::rz1,bC=>(cm.L1 k rz1 (bC++[y1]))
def cm(seq:List Holder):List Holder:=((cm.L1 (cm.K1)) seq ([]))
def fT(seq:List Holder):List Holder:=(cm seq)
def cj.K1  : List Holder:=[]
def cj.L1(m:List (OSeat×Appoint))(office:Int)(k:List Holder):List OSeat->List Holder
 |[]=>(k)
 |y1::rz1=>(bif((y1.office==office)&&(!((mgetD m y1 (jC 0 0 0 0 0 0 false)).Gone)))then((aCG ((mgetD m y1 (jC 0 0 0 0 0 0 false)).Person) ((mgetD m y1 (jC 0 0 0 0 0 0 false)).Weight))::(cj.L1 m office k rz1))else(cj.L1 m office k rz1))
def cj(m:List (OSeat×Appoint))(office:Int):List Holder:=((cj.L1 m office (cj.K1)) (seatS (m.map Prod.fst)))
def iN(m:List (OSeat×Appoint))(office:Int):List Holder:=(cj m office)
def cW(l:List Appoint)(office:Int)(bp:Int)(known:Int):(List Holder×Int):=(bif((dg l) != 0)then([],(dg l))else(bif(((!(fa office))||(!(dv bp)))||(!(dv known)))then([],1)else((fT (iN (dx l bp known) office)),0)))
def eV.K1(iB:Int):Bool:=true
def eV.L1(k:Int->Bool):List Int->Int->Bool
 |[],iB=>(k iB)
 |y1::rz1,iB=>(bif(decide (y1<=iB)||decide (64<=y1))then false else(eV.L1  k rz1 y1))
def eV(who:List Int):Bool:=((eV.L1 (eV.K1)) who (-1))
def eD.L2(k:List Int->Bool):List Holder->List Int->Bool
 |[],QK=>(k QK)
 |y2::rz2,QK=>(bif(decide (y2.Weight<1)||decide (64<y2.Weight))then false else(eD.L2  k rz2 (QK++[y2.Person])))
def eD.L3(k:List Int->Bool):List Holder->List Int->Bool
 |[],MV=>(k MV)
 |y3::rz3,MV=>(bif(decide (y3.Weight<1)||decide (64<y3.Weight))then false else(eD.L3  k rz3 (MV++[y3.Person])))
def eD.K1(holders:List (List Holder))(offices:Int):Bool:=((holders.length:Int)==offices)
def eD.L1(k:Bool):List (List Holder)->Bool
 |[]=>(k)
 |y1::rz1=>((eD.L3 (λzg3_7=>(bif(!(eV zg3_7))then false else(eD.L1  k rz1)))) y1 ([]))
def eD(holders:List (List Holder))(offices:Int):Bool:=((eD.L1 (eD.K1 holders offices)) holders)
def cu.K1  : List Holder:=[]
def cu.L1(q:bo)(k:List Holder):List Holder->List Holder
 |[]=>(k)
 |y1::rz1=>(bif((slices_BinarySearch_int q.who y1.Person).2)then(y1::(cu.L1 q k rz1))else(cu.L1 q k rz1))
def cu(q:bo)(office:Int):List Holder:=((cu.L1 q (cu.K1)) (nthI q.holders office))
def gK(q:bo)(office:Int):List Holder:=(cu q office)
def ej.K1(ck:Bool):Bool:=false
def ej.L1(k:Bool->Bool):List Holder->Bool->Bool
 |[],ck=>k ck
 |y1::rz1,ck=>true
def ej(q:bo)(x:Expr):Bool:=((ej.L1 (ej.K1)) (gK q x.No) false)
def dW.K1(x:Expr)(ck:Int):Bool:=decide (x.N<=ck)
def dW.L1(k:Int->Bool):List Holder->Int->Bool
 |[],ck=>k ck
 |y1::rz1,ck=>(dW.L1 k rz1 (vC .i64 (ck+y1.Weight)))
def dW(q:bo)(x:Expr):Bool:=((dW.L1 (dW.K1 x)) (gK q x.No) 0)
def fo.K1(x:Expr)(eW:Int):Bool:=decide (x.N<=eW)
def fo.L1(rec:bo->Expr->Bool)(q:bo)(k:Int->Bool):List Expr->Int->Bool
 |[],eW=>(k eW)
 |y1::rz1,eW=>(bif(rec q y1)then(fo.L1 rec q k rz1 (vC .i64 (eW+1)))else(fo.L1 rec q k rz1 eW))
def fo.F(rec:bo->Expr->Bool)(q:bo)(x:Expr):Bool:=((fo.L1 rec q (fo.K1 x)) x.L 0)
def kc.F(rec:bo->Expr->Bool)(q:bo)(x:Expr):Bool:=(bif(decide (q.value<=x.N))then(rec q (nthI x.L 0))else(rec q (nthI x.L 1)))
def fulQ(rec:bo->Expr->Bool)(q:bo)(x:Expr):Bool:=if x.Kind=1 then ej q x else if x.Kind=2 then dW q x else if x.Kind=3 then fo.F rec q x else kc.F rec q x
def dX.F(rec:bo->Expr->Bool)(q:bo)(x:Expr):Bool:=(fulQ rec q x)
def dX.go:Nat->bo->Expr->Bool
 |0=>λ_ _=>default
 |m+1=>dX.F (dX.go m)
def dX(q:bo)(x:Expr):Bool:=dX.go x.dep q x
def cB(p:Policy)(kind:Int)(value:Int)(holders:List (List Holder))(who:List Int):(Bool×Int):=(bif((df p) != 0)then(false,(df p))else(bif(((decide (kind<0)||decide ((p.Kinds.length:Int)<=kind))||decide (value<0))||decide (1099511627776<value))then(false,1)else(bif(!(eD holders (p.Offices.length:Int)))then(false,210)else(bif(!(eV who))then(false,1)else((dX (bo.mk value holders who) ((nthI p.Rules kind).Expr)),0)))))
def ek.K1(c:bN)(p:Policy)(who:List Int)(DB:List (List Holder)):Bool:=((cB p c.doc.Kind c.doc.Value DB who).1&&((cB p c.doc.Kind c.doc.Value DB who).2==0))
def ek.L1(c:bN)(k:(List (List Holder))->Bool):List ByteArray->Nat->(List (List Holder))->Bool
 |[],i1,DB=>(k DB)
 |y1::rz1,i1,DB=>(ek.L1 c k rz1 (i1+1) (DB++[(cW c.Register.Appoints (i1:Int) c.at_ c.known).1]))
def ek(c:bN)(p:Policy)(who:List Int):Bool:=((ek.L1 c (ek.K1 c p who)) p.Offices 0 ([]))
def askJ(c:bN):List Int×Int×Int:=aD c.Register.Versions c.doc.At c.at_ c.known
def askP(c:bN)(no:Int):Policy:=exD (dS c no)
def askWho(c:bN)(no:Int):List Int:=dk c (askP c no)
def askAns(c:bN)(no:Int):Bool:=ek c (askP c no) (askWho c no)
def askAll(c:bN):List Int:=slices_Compact_int (sortI ((askJ c).1.flatMap (askWho c)))
def eE(c:bN):Bool:=bif(askJ c).2.1==0 then false else(gC (askJ c).2.1 ((askJ c).1.map (askAns c))).1
abbrev verO(s0 b0:Int)(vb:Option Addr)(vn vc:Nat)(wb:Option Addr)(wn wc:Nat):Obj:=.cells (vB [.int .i64 s0,.int .i64 b0,.slice vb vn vc,.slice wb wn wc]) 36 (0,0)
def judgeRoom(c:bN)(r:Register)(u:List Use)(at_ known:Int):Int×Bool×Int:=bD r.Budgets u c.doc.Kind c.doc.Value at_ known
def judgeC(c:bN)(r:Register)(signed:List Int)(u:List Use)(at_ known:Int):gy:=
 bif eI c signed then⟨1,-1,[],[]⟩else bif fA c signed then⟨2,-1,[],[]⟩else bif !(eE c)then⟨3,-1,(askJ c).1,askAll c⟩else
 bif !(judgeRoom c r u at_ known).2.1 then⟨4,(judgeRoom c r u at_ known).1,(askJ c).1,askAll c⟩else⟨0,-1,(askJ c).1,askAll c⟩
def aG(aL:Register)(signed:List Int)(u:List Use)(doc:Int)(aK:Int)(known:Int):gy×Int:=
 bif dR aL != 0 then(⟨0,0,[],[]⟩,dR aL)else
 bif(aZ aL.Docs signed 0).2 != 0 then(⟨0,0,[],[]⟩,(aZ aL.Docs signed 0).2)else
 bif(bD aL.Budgets u 0 0 0 0).2.2 != 0 then(⟨0,0,[],[]⟩,(bD aL.Budgets u 0 0 0 0).2.2)else
 match kW aL doc aK known with
  |.error e=>(⟨0,0,[],[]⟩,e)
  |.ok c=>(judgeC c aL signed u aK known,0)
def fH.K1  : Bool:=true
def fH.L1(j0:List Int)(k:Bool):List Int->Nat->Bool
 |[],i1=>(k)
 |y1::rz1,i1=>(bif(y1 != (nthI j0 (i1:Int)))then false else(fH.L1 j0 k rz1 (i1+1)))
def fH(a:List Int)(j0:List Int):Bool:=(bif((a.length:Int) != (j0.length:Int))then false else((fH.L1 j0 (fH.K1)) a 0))
def cx  : Policy:=(xM (⟨#[98,111,97,114,100]⟩:ByteArray) ([(⟨#[99,111,110,116,114,97,99,116]⟩:ByteArray)]) ([(⟨#[100,105,114,101,99,116,111,114]⟩:ByteArray)]) ([(aBf (⟨#[99,111,110,116,114,97,99,116]⟩:ByteArray) 0 3 (qG 1 0 0 (⟨#[100,105,114,101,99,116,111,114]⟩:ByteArray) ([])))]) (qG 1 0 0 (⟨#[100,105,114,101,99,116,111,114]⟩:ByteArray) ([])) 2)
def aw  : Register:=(xJ ([(jC 0 0 0 0 2 1 false)]) ([(aBc 0 0 0 40 2 5 0 (-1) 100 false)]) ([]) ([]) ([(aAZ 1 0 0 cx)]) ([(Document.mk 7 1 0 60 0 50 ([9]) ([]) ([]) (λ_=>0))]) ([(qV 3 4 6 7 5 2 0 false)]))
def EU(aL:Register)(ig:Int)(state:Int):Bool:=(((aG aL ([(-1)]) ([]) 7 ig 100).2==0)&&(((aG aL ([(-1)]) ([]) 7 ig 100).1).State==state))
def sB  : Bool:=true
def fY.K1(eW:Int):Int:=eW
def fY.L1(rec:Expr->Int->Int)(limit:Int)(k:Int->Int):List Expr->Int->Int
 |[],eW=>(k eW)
 |y1::rz1,eW=>(bif(decide (eW<=limit))then(fY.L1 rec limit k rz1 (vC .i64 (eW+(rec y1 (vC .i64 (limit-eW))))))else(k eW))
def fY.F(rec:Expr->Int->Int)(x:Expr)(limit:Int):Int:=((fY.L1 rec limit (fY.K1)) x.L 1)
def fY.go:Nat->Expr->Int->Int
 |0=>λ_ _=>default
 |m+1=>fY.F (fY.go m)
def fY(x:Expr)(limit:Int):Int:=fY.go x.dep x limit
def dV.L2(k:Bool):List Rule->Bool
 |[]=>(k)
 |y2::rz2=>(bif(decide (40<(fY y2.Expr 40)))then false else(dV.L2  k rz2))
def dV.L3(k:Bool):List Rule->Bool
 |[]=>(k)
 |y3::rz3=>(bif(decide (40<(fY y3.Expr 40)))then false else(dV.L3  k rz3))
def dV.K1  : Bool:=true
def dV.L1(k:Bool):List Version->Bool
 |[]=>(k)
 |y1::rz1=>(bif(((decide (20<(y1.Policy.Kinds.length:Int))||decide (40<(y1.Policy.Offices.length:Int)))||decide (20<(y1.Policy.Rules.length:Int)))||decide (40<(fY y1.Policy.Change 40)))then false else((dV.L3 ((dV.L1  k rz1))) y1.Policy.Rules))
def dV(l:List Version):Bool:=(bif(decide (5<(l.length:Int)))then false else((dV.L1 (dV.K1)) l))
def lq.K1  : Bool:=true
def lq.L1(k:Bool):List Document->Bool
 |[]=>(k)
 |y1::rz1=>(bif((decide (20<(y1.Parties.length:Int))||decide (20<(y1.Revokes.length:Int)))||decide (20<(y1.Needs.length:Int)))then false else(lq.L1  k rz1))
def lq(aL:Register):Bool:=(bif((((((decide (30<(aL.Appoints.length:Int))||decide (12<(aL.Deputies.length:Int)))||decide (12<(aL.Interests.length:Int)))||decide (12<(aL.Budgets.length:Int)))||decide (8<(aL.Docs.length:Int)))||decide (24<(aL.Approvals.length:Int)))||(!(dV aL.Versions)))then false else((lq.L1 (lq.K1)) aL.Docs))
def aA.K1  : Int:=(-1)
def aA.L1(no:Int)(k:Int):List Document->Nat->Int
 |[],i1=>(k)
 |y1::rz1,i1=>(bif(y1.No==no)then(i1:Int)else(aA.L1 no k rz1 (i1+1)))
def aA(aL:Register)(no:Int):Int:=((aA.L1 no (aA.K1)) aL.Docs 0)
def nk(ep:Int):Bool:=(decide (0<=ep)&&decide (ep<1099511627776))
def nH(ep:Int):Bool:=(decide (0<=ep)&&decide (ep<32))
def nG(ep:Int):Bool:=(decide (0<=ep)&&decide (ep<64))
def jo(x:Appoint):Bool:=(bif(((((decide (x.No<0)||decide (1048576<x.No))||(!(nk x.At)))||(!(nk x.Known)))||(!(nH x.Office)))||(!(nG x.Person)))then false else(bif x.Gone then(x.Weight==0)else(decide (1<=x.Weight)&&decide (x.Weight<=64))))
def ir.K1  : Int:=0
def ir.L1(l:List Appoint)(k:Int):List Appoint->Nat->Int
 |[],i1=>(k)
 |y1::rz1,i1=>(bif((!(jo y1))||(decide (0<(i1:Int))&&decide (y1.No<=(nthI l ((i1:Int)-1)).No)))then 150 else(ir.L1 l k rz1 (i1+1)))
def ir(l:List Appoint):Int:=(bif(decide (4096<(l.length:Int)))then 2 else((ir.L1 l (ir.K1)) l 0))
def gZ(ep:Int)(low:Int)(high:Int):Bool:=(decide (low<=ep)&&decide (ep<=high))
def nj(ep:Int):Bool:=(gZ ep 0 1099511627775)
def lL(ep:Int):Bool:=(gZ ep 0 63)
def jm(x:Deputy):Bool:=(bif((((((!(gZ x.No 0 1048576))||(!(nj x.At)))||(!(nj x.Known)))||(!(lL x.From)))||(!(lL x.To)))||(x.From==x.To))then false else(bif((!(gZ x.Office 0 31))||(!(gZ x.Kind (-1) 15)))then false else(bif x.Gone then((x.Until==0)&&(x.Most==0))else((decide (x.At<x.Until)&&decide (x.Until<=1099511627776))&&(gZ x.Most 0 1099511627776)))))
def gX.K1  : Int:=0
def gX.L1(l:List Deputy)(k:Int):List Deputy->Nat->Int
 |[],i1=>(k)
 |y1::rz1,i1=>(bif((!(jm y1))||(decide (0<(i1:Int))&&decide (y1.No<=(nthI l ((i1:Int)-1)).No)))then 160 else(gX.L1 l k rz1 (i1+1)))
def gX(l:List Deputy):Int:=(bif(decide (4096<(l.length:Int)))then 2 else((gX.L1 l (gX.K1)) l 0))
def ng(t:Int):Bool:=(decide (0<=t)&&decide (t<1099511627776))
def mn(ep:Int):Bool:=(decide (0<=ep)&&decide (ep<=1048576))
def nE(ep:Int):Bool:=(decide (0<=ep)&&decide (ep<64))
def jh(x:Interest):Bool:=(bif((((decide (x.No<0)||decide (1048576<x.No))||(!(ng x.At)))||(!(ng x.Known)))||(!(mn x.Party)))then false else(bif x.Of then((mn x.Person)&&(x.Person != x.Party))else(nE x.Person)))
def gU.K1  : Int:=0
def gU.L1(l:List Interest)(k:Int):List Interest->Nat->Int
 |[],i1=>(k)
 |y1::rz1,i1=>(bif((!(jh y1))||(decide (0<(i1:Int))&&decide (y1.No<=(nthI l ((i1:Int)-1)).No)))then 290 else(gU.L1 l k rz1 (i1+1)))
def gU(l:List Interest):Int:=(bif(decide (4096<(l.length:Int)))then 2 else((gU.L1 l (gU.K1)) l 0))
def fD(ep:Int)(least:Int)(most:Int):Bool:=(decide (least<=ep)&&decide (ep<=most))
def gJ(ep:Int):Bool:=(decide (0<=ep)&&decide (ep<1099511627776))
def jk(x:Budget):Bool:=(bif(((((!(fD x.No 0 1048576))||(!(gJ x.At)))||(!(gJ x.Known)))||(!(fD x.Kind (-1) 15)))||(!(fD x.Period 1 1099511627776)))then false else(bif x.Gone then((x.Count==0)&&(x.Value==0))else((fD x.Count 0 1048576)&&(fD x.Value 0 1099511627776))))
def fy.K1  : Int:=0
def fy.L1(l:List Budget)(k:Int):List Budget->Nat->Int
 |[],i1=>(k)
 |y1::rz1,i1=>(bif((!(jk y1))||(decide (0<(i1:Int))&&decide (y1.No<=(nthI l ((i1:Int)-1)).No)))then 180 else(fy.L1 l k rz1 (i1+1)))
def fy(l:List Budget):Int:=(bif(decide (4096<(l.length:Int)))then 2 else((fy.L1 l (fy.K1)) l 0))
def fB(ep:Int):Bool:=(decide (0<=ep)&&decide (ep<1099511627776))
def dy.K1(eW:Int):Int:=eW
def dy.L1(rec:Expr->Int->Int)(limit:Int)(k:Int->Int):List Expr->Int->Int
 |[],eW=>(k eW)
 |y1::rz1,eW=>(bif(decide (eW<=limit))then(dy.L1 rec limit k rz1 (vC .i64 (eW+(rec y1 (vC .i64 (limit-eW))))))else(k eW))
def dy.F(rec:Expr->Int->Int)(x:Expr)(limit:Int):Int:=((dy.L1 rec limit (dy.K1)) x.L 1)
def dy.go:Nat->Expr->Int->Int
 |0=>λ_ _=>default
 |m+1=>dy.F (dy.go m)
def dy(x:Expr)(limit:Int):Int:=dy.go x.dep x limit
def bu.K1(iB:Int):Int:=(vC .i64 (iB+1))
def bu.L1(rec:Expr->Int)(k:Int->Int):List Expr->Int->Int
 |[],iB=>(k iB)
 |y1::rz1,iB=>(bu.L1 rec k rz1 (max iB (rec y1)))
def bu.F(rec:Expr->Int)(x:Expr):Int:=((bu.L1 rec (bu.K1)) x.L 0)
def bu.go:Nat->Expr->Int
 |0=>λ_=>default
 |m+1=>bu.F (bu.go m)
def bu(x:Expr):Int:=bu.go x.dep x
def jj(x:Expr):Bool:=(decide (256<(dy x 256))||decide (16<(bu x)))
def e9.K1  : Bool:=false
def e9.L1(k:Bool):List Rule->Bool
 |[]=>(k)
 |y1::rz1=>(bif(jj y1.Expr)then true else(e9.L1  k rz1))
def e9(p:Policy):Bool:=(bif(((decide (32<(p.Offices.length:Int))||decide (16<(p.Kinds.length:Int)))||decide (16<(p.Rules.length:Int)))||(jj p.Change))then true else((e9.L1 (e9.K1)) p.Rules))
def ki(c:Int):Bool:=((decide (97<=c)&&decide (c<=122))||(decide (65<=c)&&decide (c<=90)))
def mD(c:Int):Bool:=(decide (48<=c)&&decide (c<=57))
def pJ(c:Int):Bool:=(((ki c)||(mD c))||(c==95))
def gz.K1  : Bool:=true
def gz.L1(s:ByteArray)(k:Bool):List Nat->Nat->Bool
 |[],i1=>(k)
 |y1::rz1,i1=>(bif(!(pJ ((s.data.getD ((i1:Int):Int).toNat 0).toNat:Int)))then false else(gz.L1 s k rz1 (i1+1)))
def gz(s:ByteArray):Bool:=(bif((decide ((s.size:Int)<1)||decide (32<(s.size:Int)))||(!(ki ((s.data.getD (0:Int).toNat 0).toNat:Int))))then false else((gz.L1 s (gz.K1)) (kG s.size) 0))
def ni(s:ByteArray):Bool:=(bif(s.toList==(⟨#[112,111,108,105,99,121]⟩:ByteArray).toList)then(bif(s.toList==(⟨#[112,111,108,105,99,121]⟩:ByteArray).toList)then true else false)else(bif(s.toList==(⟨#[109,111,100,101]⟩:ByteArray).toList)then(bif(s.toList==(⟨#[109,111,100,101]⟩:ByteArray).toList)then true else false)else(bif(s.toList==(⟨#[111,108,100]⟩:ByteArray).toList)then(bif(s.toList==(⟨#[111,108,100]⟩:ByteArray).toList)then true else false)else(bif(s.toList==(⟨#[110,101,119]⟩:ByteArray).toList)then(bif(s.toList==(⟨#[110,101,119]⟩:ByteArray).toList)then true else false)else(bif(s.toList==(⟨#[98,111,116,104]⟩:ByteArray).toList)then(bif(s.toList==(⟨#[98,111,116,104]⟩:ByteArray).toList)then true else false)else(bif(s.toList==(⟨#[101,105,116,104,101,114]⟩:ByteArray).toList)then(bif(s.toList==(⟨#[101,105,116,104,101,114]⟩:ByteArray).toList)then true else false)else(bif(s.toList==(⟨#[111,102,102,105,99,101]⟩:ByteArray).toList)then(bif(s.toList==(⟨#[111,102,102,105,99,101]⟩:ByteArray).toList)then true else false)else(bif(s.toList==(⟨#[107,105,110,100]⟩:ByteArray).toList)then(bif(s.toList==(⟨#[107,105,110,100]⟩:ByteArray).toList)then true else false)else(bif(s.toList==(⟨#[114,117,108,101]⟩:ByteArray).toList)then(bif(s.toList==(⟨#[114,117,108,101]⟩:ByteArray).toList)then true else false)else(bif(s.toList==(⟨#[116,104,105,110,107]⟩:ByteArray).toList)then(bif(s.toList==(⟨#[116,104,105,110,107]⟩:ByteArray).toList)then true else false)else(bif(s.toList==(⟨#[99,104,97,110,103,101]⟩:ByteArray).toList)then(bif(s.toList==(⟨#[99,104,97,110,103,101]⟩:ByteArray).toList)then true else false)else(bif(s.toList==(⟨#[115,111,109,101]⟩:ByteArray).toList)then(bif(s.toList==(⟨#[115,111,109,101]⟩:ByteArray).toList)then true else false)else(bif(s.toList==(⟨#[119,101,105,103,104,116]⟩:ByteArray).toList)then(bif(s.toList==(⟨#[119,101,105,103,104,116]⟩:ByteArray).toList)then true else false)else(bif(s.toList==(⟨#[111,102]⟩:ByteArray).toList)then(bif(s.toList==(⟨#[111,102]⟩:ByteArray).toList)then true else false)else(bif(s.toList==(⟨#[117,112,116,111]⟩:ByteArray).toList)then(bif(s.toList==(⟨#[117,112,116,111]⟩:ByteArray).toList)then true else false)else(bif(s.toList==(⟨#[101,108,115,101]⟩:ByteArray).toList)then true else false))))))))))))))))
def mB(s:ByteArray):Bool:=((gz s)&&(!(ni s)))
def eu.K1  : Int:=(-1)
def eu.L1(s:ByteArray)(k:Int):List ByteArray->Nat->Int
 |[],i1=>(k)
 |y1::rz1,i1=>(bif(y1.toList==s.toList)then(i1:Int)else(eu.L1 s k rz1 (i1+1)))
def eu(l:List ByteArray)(s:ByteArray):Int:=((eu.L1 s (eu.K1)) l 0)
def eB.K1  : Bool:=true
def eB.L1(l:List ByteArray)(k:Bool):List ByteArray->Nat->Bool
 |[],i1=>(k)
 |y1::rz1,i1=>(bif((!(mB y1))||((eu l y1) != (i1:Int)))then false else(eB.L1 l k rz1 (i1+1)))
def eB(l:List ByteArray):Bool:=((eB.L1 l (eB.K1)) l 0)
def bO.K1  : Bool:=true
def bO.L1(rec:List ByteArray->Expr->Bool)(offices:List ByteArray)(k:Bool):List Expr->Bool
 |[]=>(k)
 |y1::rz1=>(bif(!(rec offices y1))then false else(bO.L1 rec offices k rz1))
def bO.F(rec:List ByteArray->Expr->Bool)(offices:List ByteArray)(x:Expr):Bool:=(bif(((x.Kind==1)||(x.Kind==2))&&decide ((eu offices x.Name)<0))then false else((bO.L1 rec offices (bO.K1)) x.L))
def bO.go:Nat->List ByteArray->Expr->Bool
 |0=>λ_ _=>default
 |m+1=>bO.F (bO.go m)
def bO(offices:List ByteArray)(x:Expr):Bool:=bO.go x.dep offices x
def gI.K1(p:Policy):Bool:=(bO p.Offices p.Change)
def gI.L1(p:Policy)(k:Bool):List Rule->Bool
 |[]=>(k)
 |y1::rz1=>(bif(!(bO p.Offices y1.Expr))then false else(gI.L1 p k rz1))
def gI(p:Policy):Bool:=(bif(((!(mB p.Name))||(!(eB p.Offices)))||(!(eB p.Kinds)))then false else((gI.L1 p (gI.K1 p)) p.Rules))
def aE.K1(x:Expr)(upto:Bool):Bool:=(bif(x.Kind==1)then((x.N==0)&&((x.L.length:Int)==0))else(bif(x.Kind==2)then((decide (1<=x.N)&&decide (x.N<=4096))&&((x.L.length:Int)==0))else(bif(x.Kind==3)then(((((x.Name.toList==(⟨#[]⟩:ByteArray).toList)&&decide (1<=(x.L.length:Int)))&&decide ((x.L.length:Int)<=16))&&decide (1<=x.N))&&decide (x.N<=(x.L.length:Int)))else(bif(x.Kind==4)then((((upto&&(x.Name.toList==(⟨#[]⟩:ByteArray).toList))&&((x.L.length:Int)==2))&&decide (0<=x.N))&&decide (x.N<=1099511627776))else false))))
def aE.L1(rec:Expr->Bool->Bool)(upto:Bool)(k:Bool):List Expr->Bool
 |[]=>(k)
 |y1::rz1=>(bif(!(rec y1 upto))then false else(aE.L1 rec upto k rz1))
def aE.F(rec:Expr->Bool->Bool)(x:Expr)(upto:Bool):Bool:=((aE.L1 rec upto (aE.K1 x upto)) x.L)
def aE.go:Nat->Expr->Bool->Bool
 |0=>λ_ _=>default
 |m+1=>aE.F (aE.go m)
def aE(x:Expr)(upto:Bool):Bool:=aE.go x.dep x upto
def fP.K1(p:Policy):Bool:=(aE p.Change false)
def fP.L1(p:Policy)(k:Bool):List Rule->Nat->Bool
 |[],i1=>(k)
 |y1::rz1,i1=>(bif((((!(y1.Kind.toList==(nthI p.Kinds (i1:Int)).toList))||decide (y1.Think<0))||decide (1099511627776<=y1.Think))||(!(aE y1.Expr true)))then false else(fP.L1 p k rz1 (i1+1)))
def fP(p:Policy):Bool:=(bif(((decide ((p.Kinds.length:Int)<1)||((p.Rules.length:Int) != (p.Kinds.length:Int)))||decide (p.Mode<1))||decide (4<p.Mode))then false else((fP.L1 p (fP.K1 p)) p.Rules 0))
def ah.K1(offices:List ByteArray)(x:Expr)(ka:List Expr):Expr:=(qG x.Kind x.N (eu offices x.Name) x.Name ka)
def ah.L1(rec:List ByteArray->Expr->Expr)(offices:List ByteArray)(k:List Expr->Expr):List Expr->List Expr->Expr
 |[],ka=>(k ka)
 |y1::rz1,ka=>(ah.L1 rec offices k rz1 (ka++[(rec offices y1)]))
def ah.K2(x:Expr)(j9:List Expr):Expr:=(qG x.Kind x.N 0 x.Name j9)
def ah.L2(rec:List ByteArray->Expr->Expr)(offices:List ByteArray)(k:List Expr->Expr):List Expr->List Expr->Expr
 |[],j9=>(k j9)
 |y2::rz2,j9=>(ah.L2 rec offices k rz2 (j9++[(rec offices y2)]))
def ah.F(rec:List ByteArray->Expr->Expr)(offices:List ByteArray)(x:Expr):Expr:=(bif((x.Kind==1)||(x.Kind==2))then((ah.L1 rec offices (ah.K1 offices x)) x.L ([]))else((ah.L2 rec offices (ah.K2 x)) x.L ([])))
def ah.go:Nat->List ByteArray->Expr->Expr
 |0=>λ_ _=>default
 |m+1=>ah.F (ah.go m)
def ah(offices:List ByteArray)(x:Expr):Expr:=ah.go x.dep offices x
def dU.K1(p:Policy)(lW:List Rule):(Policy×Int):=((xM p.Name p.Kinds p.Offices lW (qG ((ah p.Offices p.Change).Kind) ((ah p.Offices p.Change).N) ((ah p.Offices p.Change).No) ((ah p.Offices p.Change).Name) ((ah p.Offices p.Change).L)) p.Mode),0)
def dU.L1(p:Policy)(k:List Rule->(Policy×Int)):List Rule->Nat->List Rule->(Policy×Int)
 |[],i1,lW=>(k lW)
 |y1::rz1,i1,lW=>(dU.L1 p k rz1 (i1+1) (lW++[(aBf y1.Kind (i1:Int) y1.Think (qG ((ah p.Offices y1.Expr).Kind) ((ah p.Offices y1.Expr).N) ((ah p.Offices y1.Expr).No) ((ah p.Offices y1.Expr).Name) ((ah p.Offices y1.Expr).L)))]))
def dU(p:Policy):(Policy×Int):=(bif(e9 p)then((xM (⟨#[]⟩:ByteArray) ([]) ([]) ([]) (qG 0 0 0 (⟨#[]⟩:ByteArray) ([])) 0),2)else(bif(!(gI p))then((xM (⟨#[]⟩:ByteArray) ([]) ([]) ([]) (qG 0 0 0 (⟨#[]⟩:ByteArray) ([])) 0),201)else(bif(!(fP p))then((xM (⟨#[]⟩:ByteArray) ([]) ([]) ([]) (qG 0 0 0 (⟨#[]⟩:ByteArray) ([])) 0),200)else((dU.L1 p (dU.K1 p)) p.Rules 0 ([])))))
def ew.K1  : Bool:=true
def ew.L1(j0:List ByteArray)(k:Bool):List ByteArray->Nat->Bool
 |[],i1=>(k)
 |y1::rz1,i1=>(bif(!(y1.toList==(nthI j0 (i1:Int)).toList))then false else(ew.L1 j0 k rz1 (i1+1)))
def ew(a:List ByteArray)(j0:List ByteArray):Bool:=(bif((a.length:Int) != (j0.length:Int))then false else((ew.L1 j0 (ew.K1)) a 0))
def bq.K1  : Bool:=true
def bq.L1(rec:Expr->Expr->Bool)(j0:Expr)(k:Bool):List Expr->Nat->Bool
 |[],i1=>(k)
 |y1::rz1,i1=>(bif(!(rec y1 (nthI j0.L (i1:Int))))then false else(bq.L1 rec j0 k rz1 (i1+1)))
def bq.F(rec:Expr->Expr->Bool)(a:Expr)(j0:Expr):Bool:=(bif(((((a.Kind != j0.Kind)||(a.N != j0.N))||(a.No != j0.No))||(!(a.Name.toList==j0.Name.toList)))||((a.L.length:Int) != (j0.L.length:Int)))then false else((bq.L1 rec j0 (bq.K1)) a.L 0))
def bq.go:Nat->Expr->Expr->Bool
 |0=>λ_ _=>default
 |m+1=>bq.F (bq.go m)
def bq(a:Expr)(j0:Expr):Bool:=bq.go a.dep a j0
def hZ.K1  : Bool:=true
def hZ.L1(j0:Policy)(k:Bool):List Rule->Nat->Bool
 |[],i1=>(k)
 |y1::rz1,i1=>(bif((((!(y1.Kind.toList==(nthI j0.Rules (i1:Int)).Kind.toList))||(y1.KindNo != (nthI j0.Rules (i1:Int)).KindNo))||(y1.Think != (nthI j0.Rules (i1:Int)).Think))||(!(bq y1.Expr ((nthI j0.Rules (i1:Int)).Expr))))then false else(hZ.L1 j0 k rz1 (i1+1)))
def hZ(a:Policy)(j0:Policy):Bool:=(bif((((((!(a.Name.toList==j0.Name.toList))||(a.Mode != j0.Mode))||(!(ew a.Offices j0.Offices)))||(!(ew a.Kinds j0.Kinds)))||((a.Rules.length:Int) != (j0.Rules.length:Int)))||(!(bq a.Change j0.Change)))then false else((hZ.L1 j0 (hZ.K1)) a.Rules 0))
def gf(p:Policy):Int:=(bif((dU p).2 != 0)then(dU p).2 else(bif(!(hZ ((dU p).1) p))then 200 else 0))
def dO.K1  : Int:=0
def dO.L1(l:List Version)(k:Int):List Version->Nat->Int
 |[],i1=>(k)
 |y1::rz1,i1=>(bif(((((decide (y1.No<0)||decide (1048576<y1.No))||(decide (0<(i1:Int))&&decide (y1.No<=(nthI l ((i1:Int)-1)).No)))||(!(fB y1.At)))||(!(fB y1.Known)))||((gf y1.Policy) != 0))then 200 else(dO.L1 l k rz1 (i1+1)))
def dO(l:List Version):Int:=(bif(decide (256<(l.length:Int)))then 2 else((dO.L1 l (dO.K1)) l 0))
def lx(t:Int):Bool:=(decide (0<=t)&&decide (t<1099511627776))
def eH.K1(l:List Int):Bool:=decide ((l.length:Int)<=16)
def eH.L1(l:List Int)(limit:Int)(k:Bool):List Int->Nat->Bool
 |[],i1=>(k)
 |y1::rz1,i1=>(bif((decide (y1<0)||decide (limit<=y1))||(decide (0<(i1:Int))&&decide (y1<=(nthI l ((i1:Int)-1)))))then false else(eH.L1 l limit k rz1 (i1+1)))
def eH(l:List Int)(limit:Int):Bool:=((eH.L1 l limit (eH.K1 l)) l 0)
def iq(d:Document):Bool:=(bif((((((decide (d.No<0)||decide (4096<=d.No))||(!(lx d.At)))||decide (d.Kind<0))||decide (16<=d.Kind))||decide (d.Value<0))||decide (1099511627776<d.Value))then false else(((((decide (0<=d.From)&&decide (d.From<d.Until))&&decide (d.Until<=1099511627776))&&(eH d.Parties 1048577))&&(eH d.Revokes d.No))&&(eH d.Needs d.No)))
def fV.K1  : Int:=(-1)
def fV.L1(no:Int)(k:Int):List Document->Nat->Int
 |[],i1=>(k)
 |y1::rz1,i1=>(bif(y1.No==no)then(i1:Int)else(fV.L1 no k rz1 (i1+1)))
def fV(l:List Document)(no:Int):Int:=((fV.L1 no (fV.K1)) l 0)
def dw.K1  : Bool:=true
def dw.L1(l:List Document)(k:Bool):List Int->Bool
 |[]=>(k)
 |y1::rz1=>(bif(decide ((fV l y1)<0))then false else(dw.L1 l k rz1))
def dw(l:List Document)(nos:List Int):Bool:=((dw.L1 l (dw.K1)) nos)
def dP.K1  : Int:=0
def dP.L1(l:List Document)(k:Int):List Document->Nat->Int
 |[],i1=>(k)
 |y1::rz1,i1=>(bif((((!(iq y1))||(decide (0<(i1:Int))&&decide (y1.No<=(nthI l ((i1:Int)-1)).No)))||(!(dw l y1.Revokes)))||(!(dw l y1.Needs)))then 170 else(dP.L1 l k rz1 (i1+1)))
def dP(l:List Document):Int:=(bif(decide (4096<(l.length:Int)))then 2 else((dP.L1 l (dP.K1)) l 0))
def gk(ep:Int)(most:Int):Bool:=(decide (0<=ep)&&decide (ep<=most))
def nh(ep:Int):Bool:=(gk ep 1099511627775)
def rO(ep:Int):Bool:=(gk ep 4095)
def ji(x:Approval):Bool:=(bif((((!(gk x.No 1048576))||(!(nh x.At)))||(!(nh x.Known)))||(!(rO x.Doc)))then false else(((gk x.By 63)&&(gk x.For 63))&&(gk x.Office 31)))
def gV.K1  : Int:=0
def gV.L1(l:List Approval)(k:Int):List Approval->Nat->Int
 |[],i1=>(k)
 |y1::rz1,i1=>(bif((!(ji y1))||(decide (0<(i1:Int))&&decide (y1.No<=(nthI l ((i1:Int)-1)).No)))then 280 else(gV.L1 l k rz1 (i1+1)))
def gV(l:List Approval):Int:=(bif(decide (4096<(l.length:Int)))then 2 else((gV.L1 l (gV.K1)) l 0))
def kk(aL:Register):Int:=(bif(((((ir aL.Appoints) != 0)||((gX aL.Deputies) != 0))||((gU aL.Interests) != 0))||((fy aL.Budgets) != 0))then 300 else(bif((((dO aL.Versions) != 0)||((dP aL.Docs) != 0))||((gV aL.Approvals) != 0))then 300 else 0))
def lK(ep:Int):Bool:=(decide (0<=ep)&&decide (ep<1099511627776))
def eC.K1(l:List Document)(signed:List Int):Bool:=((signed.length:Int)==(l.length:Int))
def eC.L1(k:Bool):List Int->Bool
 |[]=>(k)
 |y1::rz1=>(bif((y1 != (-1))&&(!(lx y1)))then false else(eC.L1  k rz1))
def eC(l:List Document)(signed:List Int):Bool:=((eC.L1 (eC.K1 l signed)) signed)
def fQ.K1  : Bool:=false
def fQ.L1(BY:Int)(k:Bool):List Int->Bool
 |[]=>(k)
 |y1::rz1=>(bif(y1==BY)then true else(fQ.L1 BY k rz1))
def fQ(l:List Int)(BY:Int):Bool:=((fQ.L1 BY (fQ.K1)) l)
def eL.K1(l:List Document)(og:Int)(aK:Int):(Int×Int):=(bif(decide (aK<(nthI l og).From))then(2,(-1))else(bif(decide ((nthI l og).Until<=aK))then(3,(-1))else(0,(-1))))
def eL.L1(l:List Document)(done:List Int)(effective:List Bool)(og:Int)(k:(Int×Int)):List Document->Nat->(Int×Int)
 |[],i1=>(k)
 |y1::rz1,i1=>(bif(((fQ done (i1:Int))&&(nthI effective (i1:Int)))&&(fQ y1.Revokes ((nthI l og).No)))then(5,y1.No)else(eL.L1 l done effective og k rz1 (i1+1)))
def eL(l:List Document)(done:List Int)(effective:List Bool)(og:Int)(aK:Int):(Int×Int):=(bif(!(fQ done og))then(1,(-1))else(bif(!(nthI effective og))then(4,(-1))else((eL.L1 l done effective og (eL.K1 l og aK)) l 0)))
def cd.L2(signed:List Int)(k:List Int):List Nat->Nat->List Int
 |[],i2=>(k)
 |y2::rz2,i2=>(bif(decide ((nthI signed 0)<(nthI signed (nthI ([]) (((0-(i2+1)):Nat):Int)))))then(cd.L2 signed k rz2 (i2+1))else(k))
def cd.L3(signed:List Int)(y1:Int)(eW:List Int)(k:Nat->List Int):List Nat->Nat->List Int
 |[],i3=>(k (i3))
 |y3::rz3,i3=>(bif(decide (y1<(nthI signed (nthI eW (((eW.length-(i3+1)):Nat):Int)))))then(cd.L3 signed y1 eW k rz3 (i3+1))else(k (i3)))
def cd.K1(eW:List Int):List Int:=eW
def cd.L1(signed:List Int)(ig:Int)(k:List Int->List Int):List Int->Nat->List Int->List Int
 |[],i1,eW=>(k eW)
 |y1::rz1,i1,eW=>(bif(decide (y1<0)||decide (ig<y1))then(cd.L1 signed ig k rz1 (i1+1) eW)else((cd.L3 signed y1 eW (λzi3=>(cd.L1 signed ig k rz1 (i1+1) (((eW.take (((((eW.length-zi3):Nat):Int):Int)).toNat)++[(i1:Int)])++(eW.drop (((((eW.length-zi3):Nat):Int):Int)).toNat))))) (kG eW.length) 0))
def cd(signed:List Int)(ig:Int):List Int:=((cd.L1 signed ig (cd.K1)) signed 0 ([]))
def ce.L3(l:List Document)(signed:List Int)(bp:Int)(k:List Int->List Int):List Nat->Nat->List Int->List Int
 |[],i3,PK=>(k PK)
 |y3::rz3,i3,PK=>(bif((eL l ((cd signed bp).take ((0:Int)).toNat) (List.replicate l.length false) (fV l (nthI ((nthI l (nthI (cd signed bp) 0)).Needs) ((((((nthI l (nthI (cd signed bp) 0)).Needs.length)-i3):Nat):Int)-1))) (nthI signed (nthI (cd signed bp) 0))).1 != 0)then(ce.L3 l signed bp k rz3 (i3+1) (PK.set ((nthI (cd signed bp) 0):Int).toNat (nthI ((nthI l (nthI (cd signed bp) 0)).Needs) ((((((nthI l (nthI (cd signed bp) 0)).Needs.length)-i3):Nat):Int)-1))))else(ce.L3 l signed bp k rz3 (i3+1) PK))
def ce.L4(l:List Document)(signed:List Int)(bp:Int)(i2:Nat)(y2:Int)(kZ:List Bool)(k:List Int->List Int):List Nat->Nat->List Int->List Int
 |[],i4,sZ=>(k sZ)
 |y4::rz4,i4,sZ=>(bif((eL l ((cd signed bp).take (((i2:Int):Int)).toNat) kZ (fV l (nthI ((nthI l y2).Needs) ((((((nthI l y2).Needs.length)-i4):Nat):Int)-1))) (nthI signed y2)).1 != 0)then(ce.L4 l signed bp i2 y2 kZ k rz4 (i4+1) (sZ.set (y2:Int).toNat (nthI ((nthI l y2).Needs) ((((((nthI l y2).Needs.length)-i4):Nat):Int)-1))))else(ce.L4 l signed bp i2 y2 kZ k rz4 (i4+1) sZ))
def ce.K2(kZ:List Bool)(Fe:List Int):List Int:=Fe
def ce.L2(l:List Document)(signed:List Int)(bp:Int)(k:List Bool->List Int->List Int):List Int->Nat->List Bool->List Int->List Int
 |[],i2,kZ,Fe=>(k kZ Fe)
 |y2::rz2,i2,kZ,Fe=>((ce.L4 l signed bp i2 y2 kZ (λzg4_9=>(ce.L2 l signed bp k rz2 (i2+1) (kZ.set (y2:Int).toNat (decide ((nthI zg4_9 y2)<0))) zg4_9))) (kG ((nthI l y2).Needs.length)) 0 Fe)
def ce.K1(l:List Document)(signed:List Int)(bp:Int)(mL:List Int):List Int:=((ce.L2 l signed bp (ce.K2)) (cd signed bp) 0 (List.replicate l.length false) mL)
def ce.L1(k:List Int->List Int):List Document->List Int->List Int
 |[],mL=>(k mL)
 |y1::rz1,mL=>(ce.L1  k rz1 (mL++[(-1)]))
def ce(l:List Document)(signed:List Int)(bp:Int):List Int:=((ce.L1 (ce.K1 l signed bp)) l ([]))
def iY.K1(l:List Document)(signed:List Int)(Ap:Int)(dl:Int)(lm:List Bool):(Int×Int):=(bif((eL l (cd signed dl) lm Ap dl).1==4)then((eL l (cd signed dl) lm Ap dl).1,(nthI (ce l signed dl) Ap))else((eL l (cd signed dl) lm Ap dl).1,(eL l (cd signed dl) lm Ap dl).2))
def iY.L1(l:List Document)(signed:List Int)(dl:Int)(k:List Bool->(Int×Int)):List Document->Nat->List Bool->(Int×Int)
 |[],i1,lm=>(k lm)
 |y1::rz1,i1,lm=>(iY.L1 l signed dl k rz1 (i1+1) (lm++[decide ((nthI (ce l signed dl) (i1:Int))<0)]))
def iY(l:List Document)(signed:List Int)(Ap:Int)(dl:Int):(Int×Int):=((iY.L1 l signed dl (iY.K1 l signed Ap dl)) l 0 ([]))
def fj.K1(mL:List Int):(List Int×Int):=(mL,0)
def fj.L1(l:List Document)(signed:List Int)(bp:Int)(k:List Int->(List Int×Int)):List Document->Nat->List Int->(List Int×Int)
 |[],i1,mL=>(k mL)
 |y1::rz1,i1,mL=>(bif((iY l signed (i1:Int) bp).1==0)then(fj.L1 l signed bp k rz1 (i1+1) (mL++[y1.No]))else(fj.L1 l signed bp k rz1 (i1+1) mL))
def fj(l:List Document)(signed:List Int)(bp:Int):(List Int×Int):=(bif((dP l) != 0)then([],(dP l))else(bif((!(eC l signed))||(!(lx bp)))then([],1)else((fj.L1 l signed bp (fj.K1)) l 0 ([]))))
def ot(ep:Int):Bool:=(decide (0<=ep)&&decide (ep<16))
def ff.L2(u:List Use)(k:Bool):List Nat->Nat->Bool
 |[],i2=>(k)
 |y2::rz2,i2=>(bif((nthI u (i2:Int)).Doc==(nthI u 0).Doc)then false else(ff.L2 u k rz2 (i2+1)))
def ff.L3(u:List Use)(y1:Use)(k:Bool):List Nat->Nat->Bool
 |[],i3=>(k)
 |y3::rz3,i3=>(bif((nthI u (i3:Int)).Doc==y1.Doc)then false else(ff.L3 u y1 k rz3 (i3+1)))
def ff.K1  : Bool:=true
def ff.L1(u:List Use)(k:Bool):List Use->Nat->Bool
 |[],i1=>(k)
 |y1::rz1,i1=>(bif(((((!(fD y1.Doc 0 4095))||(!(ot y1.Kind)))||(!(fD y1.Value 0 1099511627776)))||(!(gJ y1.At)))||(!(gJ y1.Known)))then false else((ff.L3 u y1 ((ff.L1 u k rz1 (i1+1)))) (kG i1) 0))
def ff(u:List Use):Bool:=((ff.L1 u (ff.K1)) u 0)
def mC(x:Budget)(ig:Int)(known:Int):Bool:=(decide (x.At<=ig)&&decide (x.Known<=known))
def jc.K1  : Bool:=true
def jc.L1(l:List Budget)(nK:Int)(bp:Int)(known:Int)(k:Bool):List Budget->Bool
 |[]=>(k)
 |y1::rz1=>(bif((((y1.Kind==(nthI l nK).Kind)&&(y1.Period==(nthI l nK).Period))&&(mC y1 bp known))&&(decide ((nthI l nK).At<y1.At)||((y1.At==(nthI l nK).At)&&decide ((nthI l nK).No<y1.No))))then false else(jc.L1 l nK bp known k rz1))
def jc(l:List Budget)(nK:Int)(bp:Int)(known:Int):Bool:=(bif((nthI l nK).Gone||(!(mC (nthI l nK) bp known)))then false else((jc.L1 l nK bp known (jc.K1)) l))
def eT.K1(mL:List Budget):List Budget:=mL
def eT.L1(l:List Budget)(BY:Int)(bp:Int)(known:Int)(k:List Budget->List Budget):List Budget->Nat->List Budget->List Budget
 |[],i1,mL=>(k mL)
 |y1::rz1,i1,mL=>(bif(((y1.Kind==(-1))||(y1.Kind==BY))&&(jc l (i1:Int) bp known))then(eT.L1 l BY bp known k rz1 (i1+1) (mL++[y1]))else(eT.L1 l BY bp known k rz1 (i1+1) mL))
def eT(l:List Budget)(BY:Int)(bp:Int)(known:Int):List Budget:=((eT.L1 l BY bp known (eT.K1)) l 0 ([]))
def kO.K1(x:Budget)(lm:Int)(n8:Int):Bool:=(decide (x.Count<=lm)||decide (x.Value<n8))
def kO.L1(x:Budget)(dl:Int)(known:Int)(k:Int->Int->Bool):List Use->Int->Int->Bool
 |[],lm,n8=>(k lm n8)
 |y1::rz1,lm,n8=>(bif((decide (y1.Known<=known)&&((x.Kind==(-1))||(x.Kind==y1.Kind)))&&((vC .i64 (y1.At.tdiv x.Period))==(vC .i64 (dl.tdiv x.Period))))then(kO.L1 x dl known k rz1 (vC .i64 (lm+1)) (vC .i64 (n8+y1.Value)))else(kO.L1 x dl known k rz1 lm n8))
def kO(x:Budget)(u:List Use)(value:Int)(dl:Int)(known:Int):Bool:=((kO.L1 x dl known (kO.K1 x)) u 0 value)
def gi.K1  : (Int×Bool×Int):=((-1),true,0)
def gi.L1(u:List Use)(value:Int)(aK:Int)(known:Int)(k:(Int×Bool×Int)):List Budget->(Int×Bool×Int)
 |[]=>(k)
 |y1::rz1=>(bif(kO y1 u value aK known)then(y1.No,false,0)else(gi.L1 u value aK known k rz1))
def gi(l:List Budget)(u:List Use)(HZ:Int)(value:Int)(aK:Int)(known:Int):(Int×Bool×Int):=(bif((fy l) != 0)then(0,false,(fy l))else(bif(decide (4096<(u.length:Int)))then(0,false,2)else(bif(!(ff u))then(0,false,180)else(bif((((!(ot HZ))||(!(fD value 0 1099511627776)))||(!(gJ aK)))||(!(gJ known)))then(0,false,1)else((gi.L1 u value aK known (gi.K1)) (eT l HZ aK known))))))
def nf(aL:Register)(signed:List Int)(u:List Use)(doc:Int)(aK:Int)(known:Int):Int:=(bif((kk aL) != 0)then 300 else(bif((fj aL.Docs signed 0).2 != 0)then(fj aL.Docs signed 0).2 else(bif((gi aL.Budgets u 0 0 0 0).2.2 != 0)then(gi aL.Budgets u 0 0 0 0).2.2 else(bif((decide ((aA aL doc)<0)||(!(lK aK)))||(!(lK known)))then 1 else 0))))
def nF.K1  : Bool:=true
def nF.L1(who:List Int)(k:Bool):List Int->Nat->Bool
 |[],i1=>(k)
 |y1::rz1,i1=>(bif((decide (y1<0)||decide (64<=y1))||(decide (0<(i1:Int))&&decide (y1<=(nthI who ((i1:Int)-1)))))then false else(nF.L1 who k rz1 (i1+1)))
def nF(who:List Int):Bool:=((nF.L1 who (nF.K1)) who 0)
def gm(aL:Register)(signed:List Int)(u:List Use)(doc:Int)(aK:Int)(known:Int):Bool:=((((lq aL)&&decide ((signed.length:Int)<=40))&&decide ((u.length:Int)<=30))&&((nf aL signed u doc aK known)==0))
def bQ.L2(aL:Register)(signed:List Int)(d:Document)(aK:Int)(k:Bool->(Bool×Bool×Bool)):List Int->Bool->(Bool×Bool×Bool)
 |[],OH=>(k OH)
 |y2::rz2,OH=>(bif(((y2==d.No)&&((cU aL.Docs signed ((nthI aL.Docs 0).No) aK).1 != 1))&&((cU aL.Docs signed ((nthI aL.Docs 0).No) aK).1 != 4))then(bQ.L2 aL signed d aK k rz2 false)else(bQ.L2 aL signed d aK k rz2 OH))
def bQ.L3(aL:Register)(signed:List Int)(d:Document)(aK:Int)(y1:Document)(k:Bool->(Bool×Bool×Bool)):List Int->Bool->(Bool×Bool×Bool)
 |[],Fb=>(k Fb)
 |y3::rz3,Fb=>(bif(((y3==d.No)&&((cU aL.Docs signed y1.No aK).1 != 1))&&((cU aL.Docs signed y1.No aK).1 != 4))then(bQ.L3 aL signed d aK y1 k rz3 false)else(bQ.L3 aL signed d aK y1 k rz3 Fb))
def bQ.L5(d:Document)(k:Bool->(Bool×Bool×Bool)):List Int->Bool->(Bool×Bool×Bool)
 |[],OA=>(k OA)
 |y5::rz5,OA=>(bQ.L5 d k rz5 (OA||(y5==(nthI d.Needs 0))))
def bQ.L6(y4:Int)(k:Bool->(Bool×Bool×Bool)):List Int->Bool->(Bool×Bool×Bool)
 |[],C8=>(k C8)
 |y6::rz6,C8=>(bQ.L6 y4 k rz6 (C8||(y6==y4)))
def bQ.K4(aL:Register)(signed:List Int)(aK:Int)(rm:Bool)(vX:Bool):(Bool×Bool×Bool):=(rm,vX,((aZ aL.Docs signed aK).2==0))
def bQ.L4(aL:Register)(signed:List Int)(aK:Int)(k:Bool->(Bool×Bool×Bool)):List Int->Bool->(Bool×Bool×Bool)
 |[],vX=>(k vX)
 |y4::rz4,vX=>((bQ.L6 y4 (λzg6_24=>(bQ.L4 aL signed aK k rz4 (vX&&zg6_24)))) ((aZ aL.Docs signed aK).1) false)
def bQ.K1(aL:Register)(signed:List Int)(d:Document)(aK:Int)(rm:Bool):(Bool×Bool×Bool):=((bQ.L4 aL signed aK (bQ.K4 aL signed aK rm)) d.Needs true)
def bQ.L1(aL:Register)(signed:List Int)(d:Document)(aK:Int)(k:Bool->(Bool×Bool×Bool)):List Document->Bool->(Bool×Bool×Bool)
 |[],rm=>(k rm)
 |y1::rz1,rm=>(bif((cU aL.Docs signed y1.No aK).2.2 != 0)then(false,false,false)else((bQ.L3 aL signed d aK y1 (λzg3_10=>(bQ.L1 aL signed d aK k rz1 zg3_10))) y1.Revokes rm))
def bQ(aL:Register)(signed:List Int)(d:Document)(og:Int)(aK:Int):(Bool×Bool×Bool):=((bQ.L1 aL signed d aK (bQ.K1 aL signed d aK)) aL.Docs ((decide (d.At<=aK)&&decide (aK<d.Until))&&(decide ((nthI signed og)<0)||decide (aK<(nthI signed og)))))
def bA.K1  : (Policy×Bool):=((xM (⟨#[]⟩:ByteArray) ([]) ([]) ([]) (qG 0 0 0 (⟨#[]⟩:ByteArray) ([])) 0),false)
def bA.L1(no:Int)(k:(Policy×Bool)):List Version->(Policy×Bool)
 |[]=>(k)
 |y1::rz1=>(bif(y1.No==no)then(y1.Policy,true)else(bA.L1 no k rz1))
def bA(aL:Register)(no:Int):(Policy×Bool):=((bA.L1 no (bA.K1)) aL.Versions)
def aT.L3(k:(List (Int×Bool))->Bool):List Int->(List (Int×Bool))->Bool
 |[],H8=>(k H8)
 |y3::rz3,H8=>(aT.L3  k rz3 (mput H8 y3 true))
def aT.L2(aL:Register)(aK:Int)(known:Int)(k:(List (List Holder))->Bool):List ByteArray->Nat->(List (List Holder))->Bool
 |[],i2,OG=>(k OG)
 |y2::rz2,i2,OG=>(bif((cW aL.Appoints (i2:Int) aK known).2 != 0)then false else(aT.L2 aL aK known k rz2 (i2+1) (OG++[(cW aL.Appoints (i2:Int) aK known).1])))
def aT.L5(k:(List (Int×Bool))->Bool):List Int->(List (Int×Bool))->Bool
 |[],vg=>(k vg)
 |y5::rz5,vg=>(aT.L5  k rz5 (mput vg y5 true))
def aT.L4(aL:Register)(aK:Int)(known:Int)(k:(List (List Holder))->Bool):List ByteArray->Nat->(List (List Holder))->Bool
 |[],i4,pb=>(k pb)
 |y4::rz4,i4,pb=>(bif((cW aL.Appoints (i4:Int) aK known).2 != 0)then false else(aT.L4 aL aK known k rz4 (i4+1) (pb++[(cW aL.Appoints (i4:Int) aK known).1])))
def aT.K6(aL:Register)(signed:List Int)(u:List Use)(doc:Int)(aK:Int)(known:Int)(qt:List Bool):Bool:=(bif((aD aL.Versions ((nthI aL.Docs (aA aL doc)).At) aK known).2.1 != 0)then(bif((gC ((aD aL.Versions ((nthI aL.Docs (aA aL doc)).At) aK known).2.1) qt).2 != 0)then false else(bif((bD aL.Budgets u ((nthI aL.Docs (aA aL doc)).Kind) ((nthI aL.Docs (aA aL doc)).Value) aK known).2.2 != 0)then false else(bif(!((gC ((aD aL.Versions ((nthI aL.Docs (aA aL doc)).At) aK known).2.1) qt).1))then((((aG aL signed u doc aK known).1).State==3)&&(((aG aL signed u doc aK known).1).Budget==(-1)))else(bif(!((bD aL.Budgets u ((nthI aL.Docs (aA aL doc)).Kind) ((nthI aL.Docs (aA aL doc)).Value) aK known).2.1))then((((aG aL signed u doc aK known).1).State==4)&&(((aG aL signed u doc aK known).1).Budget==(bD aL.Budgets u ((nthI aL.Docs (aA aL doc)).Kind) ((nthI aL.Docs (aA aL doc)).Value) aK known).1))else((((aG aL signed u doc aK known).1).State==0)&&(((aG aL signed u doc aK known).1).Budget==(-1)))))))else(bif((bD aL.Budgets u ((nthI aL.Docs (aA aL doc)).Kind) ((nthI aL.Docs (aA aL doc)).Value) aK known).2.2 != 0)then false else((((aG aL signed u doc aK known).1).State==3)&&(((aG aL signed u doc aK known).1).Budget==(-1)))))
def aT.L6(aL:Register)(signed:List Int)(u:List Use)(doc:Int)(aK:Int)(known:Int)(dC:List (Int×Bool))(k:Bool):List Int->Nat->Bool
 |[],i6=>(k)
 |y6::rz6,i6=>(bif((!(mgetD dC y6 false))||(decide (0<(i6:Int))&&decide (y6<=(nthI (((aG aL signed u doc aK known).1).Who) ((i6:Int)-1)))))then false else(aT.L6 aL signed u doc aK known dC k rz6 (i6+1)))
def aT.K1(aL:Register)(signed:List Int)(u:List Use)(doc:Int)(aK:Int)(known:Int)(qt:List Bool)(dC:List (Int×Bool)):Bool:=(bif((dC.length:Int) != ((((aG aL signed u doc aK known).1).Who.length:Nat):Int))then false else((aT.L6 aL signed u doc aK known dC (aT.K6 aL signed u doc aK known qt)) (((aG aL signed u doc aK known).1).Who) 0))
def aT.L1(aL:Register)(doc:Int)(aK:Int)(known:Int)(k:List Bool->(List (Int×Bool))->Bool):List Int->List Bool->(List (Int×Bool))->Bool
 |[],qt,dC=>(k qt dC)
 |y1::rz1,qt,dC=>(bif((!((bA aL y1).2))||((cz aL doc y1 aK known).2 != 0))then false else((aT.L4 aL aK known (λzg4_32=>((aT.L5 (λzg5_b4_0=>(aT.L1 aL doc aK known k rz1 (qt++[((cB ((bA aL y1).1) ((nthI aL.Docs (aA aL doc)).Kind) ((nthI aL.Docs (aA aL doc)).Value) zg4_32 ((cz aL doc y1 aK known).1)).1&&((cB ((bA aL y1).1) ((nthI aL.Docs (aA aL doc)).Kind) ((nthI aL.Docs (aA aL doc)).Value) zg4_32 ((cz aL doc y1 aK known).1)).2==0))]) zg5_b4_0))) ((cz aL doc y1 aK known).1) dC))) (((bA aL y1).1).Offices) 0 ([])))
def aT(aL:Register)(signed:List Int)(u:List Use)(doc:Int)(aK:Int)(known:Int):Bool:=(bif(!sB)then false else(bif(!(gm aL signed u doc aK known))then true else(bif(((aG aL signed u doc aK known).2 != 0)||(!((bQ aL signed (nthI aL.Docs (aA aL doc)) (aA aL doc) aK).2.2)))then false else(bif((!((bQ aL signed (nthI aL.Docs (aA aL doc)) (aA aL doc) aK).1))||(!((bQ aL signed (nthI aL.Docs (aA aL doc)) (aA aL doc) aK).2.1)))then(bif(!((bQ aL signed (nthI aL.Docs (aA aL doc)) (aA aL doc) aK).1))then(((((aG aL signed u doc aK known).1).State==1)&&((((((aG aL signed u doc aK known).1).Versions.length:Nat):Int)+((((aG aL signed u doc aK known).1).Who.length:Nat):Int))==0))&&(((aG aL signed u doc aK known).1).Budget==(-1)))else(((((aG aL signed u doc aK known).1).State==2)&&((((((aG aL signed u doc aK known).1).Versions.length:Nat):Int)+((((aG aL signed u doc aK known).1).Who.length:Nat):Int))==0))&&(((aG aL signed u doc aK known).1).Budget==(-1))))else(bif(((aD aL.Versions ((nthI aL.Docs (aA aL doc)).At) aK known).2.2 != 0)||(!(fH ((aD aL.Versions ((nthI aL.Docs (aA aL doc)).At) aK known).1) (((aG aL signed u doc aK known).1).Versions))))then false else((aT.L1 aL doc aK known (aT.K1 aL signed u doc aK known)) ((aD aL.Versions ((nthI aL.Docs (aA aL doc)).At) aK known).1) ([]) ([])))))))
theorem wrap64{z:Int}(h:-9223372036854775808<=z/\z<=9223372036854775807):IntKind.i64.wrap z=z:=by
 have:=jv h;injection this
theorem Expr.eta(x:Expr):qG x.Kind x.N x.No x.Name x.L=x:=by cases x;rfl
theorem Expr.ind{P:Expr->Prop}(h:∀x,(∀y∈x.L,P y)->P x)(x:Expr):P x:=by
 have key:∀n(x:Expr),x.dep<=n->P x:=by
  intro n
  induction n with
  |zero=>intro x hx;have:=aBe x;omega
  |succ n ih=>intro x hx;exact h x λy hy=>ih y (by have:=aAe hy;omega)
 exact key _ x (xG _)
theorem I5(k:List gx):∀l,aM.L3 k l=l++k
 |[]=>rfl
 |y::l=>by simp[aM.L3,I5 k l]
theorem I6(rec:Expr->Int->List gx)(d:Int):∀l,aM.L1 rec d [] l=l.flatMap (λy=>rec y (d+1))
 |[]=>rfl
 |y::l=>by simp[aM.L1,I5,I6 rec d l]
theorem HO(rec:Expr->Int->List gx)(x:Expr)(d:Int):aM.F rec x d=⟨x,d⟩::x.L.flatMap (λy=>rec y (d+1)):=by
 simp[aM.F,aM.K1,I6,Expr.eta]
theorem Ad{α β : Type}{f g:α->List β}:∀{l:List α},(∀y∈l,f y=g y)->l.flatMap f=l.flatMap g
 |[],_=>rfl
 |y::l,h=>by
  rw[List.flatMap_cons,List.flatMap_cons,h y (zB ..),Ad λz hz=>h z (vA _ hz)]
theorem I4(m:Nat):∀(x:Expr)(d:Int),x.dep<=m->aM.go m x d=bx x d:=by
 induction m using Nat.strongRecOn with
 |_ m ih=>
  intro x d hx
  unfold bx
  have hp:=aBe x
  obtain⟨m',rfl⟩:∃m',m=m'+1:=⟨m-1,by omega⟩
  obtain⟨n,hn⟩:∃n,x.dep=n+1:=⟨x.dep-1,by omega⟩
  rw[hn]
  show aM.F (aM.go m') x d=aM.F (aM.go n) x d
  rw[HO,HO]
  congr 1
  refine Ad λy hy=>?_
  have:=aAe hy
  rw[ih m' (by omega) y _ (by omega),ih n (by omega) y _ (by omega)]
theorem nm(x:Expr)(d:Int):bx x d=⟨x,d⟩::x.L.flatMap (λy=>bx y (d+1)):=by
 have hp:=aBe x
 obtain⟨n,hn⟩:∃n,x.dep=n+1:=⟨x.dep-1,by omega⟩
 rw[←I4 x.dep x d (xG _),hn]
 show aM.F (aM.go n) x d=_
 rw[HO]
 congr 1
 exact Ad λy hy=>I4 n y _ (by have:=aAe hy;omega)
theorem GX(Q:Expr->Prop)(x:Expr):∀d d',(∀z∈bx x d,Q z.x)->∀z∈bx x d',Q z.x:=by
 refine Expr.ind (P:=λx=>∀d d',(∀z∈bx x d,Q z.x)->∀z∈bx x d',Q z.x) ?_ x
 intro x ih d d' h z hz
 rw[nm]at h hz
 rcases kB.1 hz with rfl|hz
 .exact h ⟨x,d⟩ (zB ..)
 .obtain⟨y,hy,hz⟩:=List.mem_flatMap.1 hz
  exact ih y hy (d+1) (d'+1) (λz' hz'=>h z' (vA _ (List.mem_flatMap.2 ⟨y,hy,hz'⟩))) z hz
theorem pP(Q:Expr->Prop)(x:Expr)(d:Int):(∀z∈bx x d,Q z.x)↔Q x/\∀y∈x.L,∀z∈bx y d,Q z.x:=by
 constructor
 .intro h
  rw[nm]at h
  exact⟨h ⟨x,d⟩ (zB ..),λy hy=>GX Q y (d+1) d λz hz=>h z (vA _ (List.mem_flatMap.2 ⟨y,hy,hz⟩))⟩
 .rintro⟨h1,h2⟩ z hz
  rw[nm]at hz
  rcases kB.1 hz with rfl|hz
  .exact h1
  .obtain⟨y,hy,hz⟩:=List.mem_flatMap.1 hz
   exact GX Q y d (d+1) (h2 y hy) z hz
def NZ(x:Except Int Unit):Prop:=∀e,x=.error e->e≠0
theorem NZ.ok:NZ (.ok ()):=λ_ h=>by cases h
theorem NZ.must{c:Bool}{e:Int}(he:e≠0):NZ (eU c e):=λe' h=>by
 cases c with
 |true=>simp[eU]at h
 |false=>simp[eU]at h;omega
theorem NZ.exi{x:Except Int Unit}{f:Unit->Except Int Unit}(hx:NZ x)(hf:NZ (f ())):NZ (Sg.exi x f):=by
 cases x with
 |ok u=>exact hf
 |error e=>exact λe' h=>hx e' h
theorem Hq{x:Except Int Unit}(h:NZ x):attR x=0↔x=.ok ():=by
 cases x with
 |ok u=>simp[attR]
 |error e=>simp only[attR,reduceCtorEq,iff_false];exact h e rfl
theorem pQ{c:Bool}{e:Int}{f:Unit->Except Int Unit}:exi (eU c e) f=.ok ()↔c=true/\f ()=.ok ():=by
 cases c<;>simp[eU,exi]
theorem JN(p:Policy):∀(l:List Rule)(g:List Expr),ay.L1 (ay.K1 p) l g=g++(l.map (·.Expr)++[p.Change])
 |[],g=>by simp[ay.L1,ay.K1]
 |y::l,g=>by simp[ay.L1,JN p l]
theorem mN(p:Policy):ay p=p.Rules.map (·.Expr)++[p.Change]:=by
 unfold ay;rw[JN];simp
theorem IN(k:Int->Except Int Unit)(hk:∀a b,k a=k b):∀(l:List gx)(g:Int),0<=g->g<=256->(co.L3 k l g=.ok ()↔(g+l.length<=256/\∀z∈l,z.depth<=16)/\k 0=.ok ())
 |[],g,h0,h1=>by simp only[co.L3,hk g 0,jB,kA];simp;omega
 |y::l,g,h0,h1=>by
  simp only[co.L3,pQ,xB,decide_eq_true_eq,wrap64 (z:=g+1) (by omega),zA,kB]
  by_cases h:g+1<=256
  .rw[IN k hk l (g+1) (by omega) h]
   constructor
   .rintro⟨⟨_,h3⟩,⟨h4,h5⟩,h6⟩
    refine⟨⟨by omega,λz hz=>?_⟩,h6⟩
    rcases hz with rfl|hz
    .exact h3
    .exact h5 z hz
   .rintro⟨⟨h4,h5⟩,h6⟩
    exact⟨⟨h,h5 y (.inl rfl)⟩,⟨by omega,λz hz=>h5 z (.inr hz)⟩,h6⟩
  .constructor
   .rintro⟨⟨h3,_⟩,_⟩;exact absurd h3 h
   .rintro⟨⟨h4,_⟩,_⟩;omega
theorem Iq_:∀(l:List Expr),co.L1 (.ok ()) l=.ok ()↔∀x∈l,(bx x 1).length<=256/\∀z∈bx x 1,z.depth<=16
 |[]=>by simp[co.L1]
 |y::l=>by
  simp only[co.L1]
  rw[IN _ (λ_ _=>rfl) _ 0 (by omega) (by omega),Iq_ l]
  simp only[kB,forall_eq_or_imp]
  constructor
  .rintro⟨⟨a,b⟩,c⟩;exact⟨⟨by omega,b⟩,c⟩
  .rintro⟨⟨a,b⟩,c⟩;exact⟨⟨by omega,b⟩,c⟩
theorem AC(p:Policy):co p=.ok ()↔(p.Offices.length<=32/\p.Kinds.length<=16/\p.Rules.length<=16)/\∀x∈ay p,(bx x 1).length<=256/\∀z∈bx x 1,z.depth<=16:=by
 unfold co co.K1
 rw[pQ,Iq_]
 simp only[xB,decide_eq_true_eq]
 constructor
 .rintro⟨⟨⟨a,b⟩,c⟩,d⟩;exact⟨⟨by omega,by omega,by omega⟩,d⟩
 .rintro⟨⟨a,b,c⟩,d⟩;exact⟨⟨⟨by omega,by omega⟩,by omega⟩,d⟩
theorem NQ(p:Policy):NZ (co p):=by
 have h3:∀(k:Int->Except Int Unit),(∀a,NZ (k a))->∀l g,NZ (co.L3 k l g):=by
  intro k hk l
  induction l with
  |nil=>exact λg=>hk g
  |cons y l ih=>exact λg=>NZ.exi (NZ.must (by omega)) (ih _)
 have h1:∀l,NZ (co.L1 (.ok ()) l):=by
  intro l
  induction l with
  |nil=>exact NZ.ok
  |cons y l ih=>exact h3 _ (λ_=>ih) _ _
 exact NZ.exi (NZ.must (by omega)) (h1 _)
theorem Jb(p:Policy)(k:Except Int Unit):∀l,cq.L3 p k l=.ok ()↔(∀z∈l,((!(dp z.x))||cZ p.Offices z.x.Name)=true)/\k=.ok ()
 |[]=>by simp[cq.L3]
 |y::l=>by simp only[cq.L3,pQ,Jb p k l,kB,forall_eq_or_imp,and_assoc]
theorem Jc(p:Policy):∀l,cq.L1 p (.ok ()) l=.ok ()↔∀x∈l,∀z∈bx x 1,((!(dp z.x))||cZ p.Offices z.x.Name)=true
 |[]=>by simp[cq.L1]
 |y::l=>by simp only[cq.L1,Jb,Jc p l,kB,forall_eq_or_imp]
theorem EL(p:Policy):cq p=.ok ()↔(dM p.Name=true/\bF p.Offices dM=true/\bF p.Kinds dM=true)/\∀x∈ay p,∀z∈bx x 1,((!(dp z.x))||cZ p.Offices z.x.Name)=true:=by
 unfold cq cq.K1
 rw[pQ,Jc]
 simp only[xB,and_assoc]
theorem Ok(p:Policy):NZ (cq p):=by
 have h3:∀(k:Except Int Unit),NZ k->∀l,NZ (cq.L3 p k l):=by
  intro k hk l
  induction l with
  |nil=>exact hk
  |cons y l ih=>exact NZ.exi (NZ.must (by omega)) ih
 have h1:∀l,NZ (cq.L1 p (.ok ()) l):=by
  intro l
  induction l with
  |nil=>exact NZ.ok
  |cons y l ih=>exact h3 _ ih _
 exact NZ.exi (NZ.must (by omega)) (h1 _)
theorem Mc(p:Policy)(i:Nat)(k:Except Int Unit):∀l,bw.L4 p i k l=.ok ()↔(∀z∈l,(aP z.x.Kind 1 4&&kindsP z.x.Kind z.x)=true/\(decide ((i:Int)<IntKind.i64.wrap (((ay p).length:Int)-1))||(z.x.Kind != 4))=true)/\k=.ok ()
 |[]=>by simp[bw.L4]
 |y::l=>by simp only[bw.L4,pQ,Mc p i k l,kB,forall_eq_or_imp,and_assoc]
theorem DS(p:Policy):∀l i,bw.L2 p (.ok ()) l i=.ok ()↔∀j x,l[j]? = some x->∀z∈bx x 1,(aP z.x.Kind 1 4&&kindsP z.x.Kind z.x)=true/\(decide (((i+j:Nat):Int)<IntKind.i64.wrap (((ay p).length:Int)-1))||(z.x.Kind != 4))=true
 |[],i=>by simp[bw.L2]
 |y::l,i=>by
  simp only[bw.L2]
  rw[Mc,DS p l (i+1)]
  constructor
  .rintro⟨h1,h2⟩ j x hj z hz
   cases j with
   |zero=>simp at hj;subst hj;exact h1 z hz
   |succ j=>have:=h2 j x (by simpa using hj) z hz;rw[show i+(j+1)=i+1+j from by omega];exact this
  .intro h
   refine⟨λz hz=>h 0 y rfl z hz,λj x hj z hz=>?_⟩
   have:=h (j+1) x (by simpa using hj) z hz
   rw[show i+(j+1)=i+1+j from by omega]at this;exact this
theorem Bo(p:Policy)(k:Except Int Unit):∀l i,bw.L1 p k l i=.ok ()↔(∀j r,l[j]? = some r->((r.Kind.toList==(nthI p.Kinds (((i+j:Nat):Int))).toList)&&aP r.Think 0 1099511627775)=true)/\k=.ok ()
 |[],i=>by simp[bw.L1]
 |y::l,i=>by
  simp only[bw.L1]
  rw[pQ,Bo p k l (i+1)]
  constructor
  .rintro⟨h1,h2,h3⟩
   refine⟨λj r hj=>?_,h3⟩
   cases j with
   |zero=>simp at hj;subst hj;exact h1
   |succ j=>have:=h2 j r (by simpa using hj);rw[show i+(j+1)=i+1+j from by omega];exact this
  .rintro⟨h,h3⟩
   refine⟨h 0 y rfl,λj r hj=>?_,h3⟩
   have:=h (j+1) r (by simpa using hj)
   rw[show i+(j+1)=i+1+j from by omega]at this;exact this
theorem PM(p:Policy):NZ (bw p):=by
 have h4:∀i(k:Except Int Unit),NZ k->∀l,NZ (bw.L4 p i k l):=by
  intro i k hk l
  induction l with
  |nil=>exact hk
  |cons y l ih=>exact NZ.exi (NZ.must (by omega)) (NZ.exi (NZ.must (by omega)) ih)
 have h2:∀l i,NZ (bw.L2 p (.ok ()) l i):=by
  intro l
  induction l with
  |nil=>exact λ_=>NZ.ok
  |cons y l ih=>exact λi=>h4 i _ (ih _) _
 have h1:∀l i,NZ (bw.L1 p (bw.K1 p) l i):=by
  intro l
  induction l with
  |nil=>exact λ_=>h2 _ _
  |cons y l ih=>exact λi=>NZ.exi (NZ.must (by omega)) (ih _)
 exact NZ.exi (NZ.must (by omega)) (h1 _ _)
theorem CN(p:Policy):NZ (dA p):=
 NZ.exi (NQ p) (NZ.exi (Ok p) (NZ.exi (PM p) NZ.ok))
theorem Ae{x:Except Int Unit}{f:Unit->Except Int Unit}:exi x f=.ok ()↔x=.ok ()/\f ()=.ok ():=by
 cases x with
 |ok u=>simp[exi]
 |error e=>simp[exi]
theorem td(p:Policy):dA p=.ok ()↔co p=.ok ()/\cq p=.ok ()/\bw p=.ok ():=by
 unfold dA
 rw[Ae,Ae,Ae]
 simp
theorem I0(p:Policy):(ef p).2=attR (dA p):=by
 have hL:∀l i g,(ef.L1 p (ef.K1 p) l i g).2=0:=by
  intro l
  induction l with
  |nil=>exact λ_ _=>rfl
  |cons y l ih=>exact λi g=>ih _ _
 unfold ef
 by_cases h:attR (dA p)=0
 .simp[h,hL]
 .rw[show(attR (dA p) != 0)=true from by simpa using h];rfl
theorem J5(p:Policy)(k:Int):∀l i,df.L1 p k l i=0↔(∀j r,l[j]? = some r->r.KindNo=((i+j:Nat):Int)/\bR p.Offices r.Expr=true)/\k=0
 |[],i=>by simp[df.L1]
 |y::l,i=>by
  simp only[df.L1,Bool.cond_eq_ite]
  split
  .next h=>
   simp only[xD,bne_iff_ne,zE]at h
   constructor
   .intro h';omega
   .rintro⟨h1,_⟩
    have:=h1 0 y rfl
    simp only[Nat.add_zero]at this
    rcases h with h|h
    .exact absurd this.1 h
    .rw[this.2]at h;cases h
  .next h=>
   simp only[xD,bne_iff_ne,zE,not_or,Decidable.not_not,Bool.not_eq_false]at h
   rw[J5 p k l (i+1)]
   constructor
   .rintro⟨h1,h2⟩
    refine⟨λj r hj=>?_,h2⟩
    cases j with
    |zero=>simp at hj;subst hj;exact h
    |succ j=>have:=h1 j r (by simpa using hj);rw[show i+(j+1)=i+1+j from by omega];exact this
   .rintro⟨h1,h2⟩
    refine⟨λj r hj=>?_,h2⟩
    have:=h1 (j+1) r (by simpa using hj)
    rw[show i+(j+1)=i+1+j from by omega]at this;exact this
theorem BC(p:Policy):df p=0↔dA p=.ok ()/\(∀(j:Nat)r,p.Rules[j]? = some r->r.KindNo=(j:Int)/\bR p.Offices r.Expr=true)/\bR p.Offices p.Change=true:=by
 unfold df
 rw[I0]
 by_cases h:attR (dA p)=0
 .have h2:=(Hq (CN p)).1 h
  have hk:df.K1 p=0↔bR p.Offices p.Change=true:=by
   unfold df.K1
   cases bR p.Offices p.Change<;>simp
  rw[show(attR (dA p) != 0)=false from by simpa using h,cond_false,J5,hk]
  simp only[Nat.zero_add,h2,true_and]
 .have h2:¬dA p=.ok ():=λe=>h ((Hq (CN p)).2 e)
  rw[show(attR (dA p) != 0)=true from by simpa using h,cond_true]
  simp[h,h2]
theorem O8{c x:Bool}:(bif c then false else x)=true↔c=false/\x=true:=by cases c<;>simp
theorem pY(off:List ByteArray):∀l,bR.L1 off true l=true↔∀z∈l,z.x.No=(bif dp z.x then aW off z.x.Name else 0)
 |[]=>by simp[bR.L1]
 |y::l=>by
  simp only[bR.L1,kB,forall_eq_or_imp]
  cases dp y.x with
  |true=>
   rw[cond_true,cond_true,O8,pY off l];simp
  |false=>
   rw[cond_false,cond_false,O8,pY off l];simp
theorem Jt(v:ByteArray):∀(l:List ByteArray)(i:Nat),aW.L1 v (-1) l i=-1\/((i:Int)<=aW.L1 v (-1) l i/\aW.L1 v (-1) l i<((i+l.length:Nat):Int))
 |[],i=>.inl rfl
 |y::l,i=>by
  simp only[aW.L1,Bool.cond_eq_ite,zA]
  split
  .right;omega
  .rcases Jt v l (i+1)with h|h
   .exact .inl h
   .right;omega
theorem Oo(l:List ByteArray)(v:ByteArray):aW l v<(l.length:Int):=by
 have:=Jt v l 0
 unfold aW aW.K1
 omega
theorem yp{p:Policy}(hc:df p=0):p.Rules.length=p.Kinds.length/\p.Offices.length<=32/\(∀x∈ay p,OkX (p.Offices.length:Int) x):=by
 obtain⟨h1,h2,h3⟩:=(BC p).1 hc
 obtain⟨hs,hn,hf⟩:=(td p).1 h1
 have hf':=hf
 unfold bw at hf
 rw[pQ,Bo]at hf
 simp only[xB,decide_eq_true_eq,beq_iff_eq]at hf
 obtain⟨⟨⟨_,hlen⟩,hmode⟩,hrules,hK⟩:=hf
 unfold bw.K1 bw.K2 at hK
 rw[DS]at hK
 obtain⟨⟨ho,_,_⟩,_⟩:=(AC p).1 hs
 obtain⟨_,hnm⟩:=(EL p).1 hn
 refine⟨by omega,ho,λx hx=>?_⟩
 have hres:∀z∈bx x 1,z.x.No=(bif dp z.x then aW p.Offices z.x.Name else 0):=by
  have hr:bR p.Offices x=true:=by
   rw[mN]at hx
   rcases List.mem_append.1 hx with hx|hx
   .obtain⟨r,hr,rfl⟩:=jQ.1 hx
    obtain⟨j,hj⟩:=aBl hr
    exact(h2 j r hj).2
   .rw[List.mem_singleton.1 hx];exact h3
  unfold bR bR.K1 at hr
  exact(pY _ _).1 hr
 obtain⟨j,hj⟩:=aBl hx
 have hfm:=λz hz=>(hK j x hj z hz).1
 have hnx:=hnm x hx
 clear hK hnm hj
 let Q:Expr->Prop:=λx=>(1<=x.Kind/\x.Kind<=4)/\(x.Kind<=2->0<=x.No/\x.No<(p.Offices.length:Int))/\(x.Kind=4->x.L.length=2)
 have all:∀z∈bx x 1,(λx:Expr=>(1<=x.Kind/\x.Kind<=4)/\(x.Kind<=2->0<=x.No/\x.No<(p.Offices.length:Int))/\(x.Kind=4->x.L.length=2)) z.x:=by
  intro z hz
  have a:=hfm z hz
  have b:=hnx z hz
  have c:=hres z hz
  simp only[xB,aP,decide_eq_true_eq]at a
  refine⟨a.1,λhk=>?_,λhk=>?_⟩
  .have hnamed:dp z.x=true:=by
    have:z.x.Kind=1\/z.x.Kind=2:=by omega
    rcases this with e|e<;>simp[dp,e]
   simp only[hnamed,Bool.not_true,Bool.false_or,cond_true]at b c
   have hge:0<=aW p.Offices z.x.Name:=by
    have h9:=b
    simp only[cZ,decide_eq_true_eq,ge_iff_le]at h9
    exact h9
   have:=Oo p.Offices z.x.Name
   omega
  .have h9:=a.2
   rw[hk]at h9
   simp only[kindsP]at h9
   simp[iP]at h9
   omega
 clear hfm hnx hres hx
 revert all
 refine Expr.ind (P:=λx=>(∀z∈bx x 1,Q z.x)->OkX (p.Offices.length:Int) x) ?_ x
 intro x ih all
 rw[pP Q]at all
 obtain⟨⟨a,b,c⟩,d⟩:=all
 exact OkX.mk x a b c λy hy=>ih y hy (d y hy)
theorem FK{p:Policy}(hc:df p=0):(1<=p.Mode/\p.Mode<=4)/\p.Rules.length<=16/\∀r∈p.Rules,0<=r.Think/\r.Think<=1099511627775:=by
 obtain⟨h1,_,_⟩:=(BC p).1 hc
 obtain⟨hs,_,hf⟩:=(td p).1 h1
 unfold bw at hf
 rw[pQ,Bo]at hf
 simp only[xB,aP,decide_eq_true_eq]at hf
 obtain⟨⟨⟨_,_⟩,hmode⟩,hrules,_⟩:=hf
 obtain⟨⟨_,_,hr⟩,_⟩:=(AC p).1 hs
 refine⟨hmode,hr,λr hr=>?_⟩
 obtain⟨j,hj⟩:=aBl hr
 exact(hrules j r hj).2
theorem Fx{p:Policy}{r:Rule}(h:r∈p.Rules):r.Expr∈ay p:=by
 rw[mN];exact List.mem_append_left _ (List.mem_map_of_mem h)
theorem GW:∀(l:List Int)(g:Int),eV.L1 eV.K1 l g=true↔(∀x∈l,g<x/\x<64)/\l.Pairwise (·<·)
 |[],g=>by simp[eV.L1,eV.K1]
 |y::l,g=>by
  simp only[eV.L1,Bool.cond_eq_ite,xD,decide_eq_true_eq]
  split
  .next h=>
   constructor
   .intro h';cases h'
   .rintro⟨h1,_⟩;have:=h1 y (zB ..);omega
  .next h=>
   rw[GW l y,List.pairwise_cons]
   simp only[kB,forall_eq_or_imp]
   constructor
   .rintro⟨h1,h2⟩
    exact⟨⟨by omega,λx hx=>by have:=h1 x hx;omega⟩,λx hx=>(h1 x hx).1,h2⟩
   .rintro⟨⟨h1,h2⟩,h3,h4⟩
    exact⟨λx hx=>⟨h3 x hx,(h2 x hx).2⟩,h4⟩
theorem MM(l:List Int):eV l=true↔(∀x∈l,0<=x/\x<64)/\l.Pairwise (·<·):=by
 unfold eV
 rw[GW]
 constructor
 .rintro⟨h1,h2⟩;exact⟨λx hx=>by have:=h1 x hx;omega,h2⟩
 .rintro⟨h1,h2⟩;exact⟨λx hx=>by have:=h1 x hx;omega,h2⟩
theorem F8{l:List Int}(h:eV l=true):l.Pairwise (·<=·):=((MM l).1 h).2.imp (λh=>Int.le_of_lt h)
theorem MI{hs:List (List Holder)}{n:Int}(h:eD hs n=true):(hs.length:Int)=n:=by
 have h3:∀(k:List Int->Bool)(l:List Holder)(g:List Int),eD.L3 k l g=true->∃g',k g'=true:=by
  intro k l
  induction l with
  |nil=>exact λg h=>⟨g,h⟩
  |cons y l ih=>
   intro g h
   simp only[eD.L3,Bool.cond_eq_ite]at h
   split at h
   .cases h
   .exact ih _ h
 have h1:∀(k:Bool)(l:List (List Holder)),eD.L1 k l=true->k=true:=by
  intro k l
  induction l with
  |nil=>exact λh=>h
  |cons y l ih=>
   intro h
   obtain⟨g',hg⟩:=h3 _ _ _ h
   simp only[Bool.cond_eq_ite]at hg
   split at hg
   .cases hg
   .exact ih hg
 have:=h1 _ _ h
 simpa[eD.K1]using this
theorem Df:∀(l:List Version)(g:Int),-1<=g->g<=1048576->(bH.L1 bH.K1 l g=0 ↔
  (∀v∈l,(0<=v.At/\v.At<=1099511627775)/\(0<=v.Known/\v.Known<=1099511627775)/\v.No<=1048576/\df v.Policy=0)/\(∀v∈l,g<v.No)/\l.Pairwise (λa b=>a.No<b.No))
 |[],g,_,_=>by simp[bH.L1,bH.K1]
 |y::l,g,h0,h1=>by
  simp only[bH.L1,wrap64 (z:=g+1) (by omega),aP]
  by_cases hy:((0<=y.At/\y.At<=1099511627775)/\(0<=y.Known/\y.Known<=1099511627775)/\y.No<=1048576/\df y.Policy=0)/\g<y.No
  .obtain⟨⟨⟨a,a'⟩,⟨b,b'⟩,c,d⟩,e⟩:=hy
   have hc:(!(decide (g+1<=y.No)&&decide (y.No<=1048576))||!(decide (0<=y.At)&&decide (y.At<=1099511627775))||!(decide (0<=y.Known)&&decide (y.Known<=1099511627775))||df y.Policy != 0)=false:=by
    simp[a,a',b,b',c,d];omega
   rw[hc,cond_false,Df l y.No (by omega) c,List.pairwise_cons]
   simp only[kB,forall_eq_or_imp]
   constructor
   .rintro⟨h2,h3,h4⟩
    exact⟨⟨⟨⟨a,a'⟩,⟨b,b'⟩,c,d⟩,h2⟩,⟨e,λv hv=>by have:=h3 v hv;omega⟩,h3,h4⟩
   .rintro⟨⟨_,h2⟩,_,h3,h4⟩;exact⟨h2,h3,h4⟩
  .have hc:(!(decide (g+1<=y.No)&&decide (y.No<=1048576))||!(decide (0<=y.At)&&decide (y.At<=1099511627775))||!(decide (0<=y.Known)&&decide (y.Known<=1099511627775))||df y.Policy != 0)=true:=by
    apply Classical.byContradiction
    intro hn
    apply hy
    simp only[Bool.not_eq_true,Bool.or_eq_false_iff,Bool.not_eq_false',xB,decide_eq_true_eq,bne_eq_false_iff_eq]at hn
    obtain⟨⟨⟨a,b⟩,c⟩,d⟩:=hn
    exact⟨⟨b,c,a.2,d⟩,by omega⟩
   rw[hc,cond_true]
   constructor
   .intro h;omega
   .rintro⟨h2,h3,_⟩
    exact absurd ⟨h2 y (zB ..),h3 y (zB ..)⟩ hy
structure Hv(l:List Version):Prop where
 len:l.length<=256
 each:∀v∈l,(0<=v.At/\v.At<=1099511627775)/\(0<=v.Known/\v.Known<=1099511627775)/\(0<=v.No/\v.No<=1048576)/\df v.Policy=0
 inc:l.Pairwise (λa b=>a.No<b.No)
theorem qw(l:List Version):bH l=0↔Hv l:=by
 unfold bH
 by_cases hl:l.length<=256
 .rw[show decide (256<(l.length:Int))=false from decide_eq_false (by omega),cond_false,Df l (-1) (by omega) (by omega)]
  constructor
  .rintro⟨h1,h2,h3⟩;exact⟨hl,λv hv=>by have a:=h1 v hv;have b:=h2 v hv;exact⟨a.1,a.2.1,⟨by omega,a.2.2.1⟩,a.2.2.2⟩,h3⟩
  .rintro⟨_,h1,h3⟩;exact⟨λv hv=>by have:=h1 v hv;exact⟨this.1,this.2.1,by omega,this.2.2.2⟩,λv hv=>by have:=h1 v hv;omega,h3⟩
 .rw[show decide (256<(l.length:Int))=true from decide_eq_true (by omega),cond_true]
  exact⟨λh=>by omega,λh=>absurd h.len hl⟩
theorem Hv.mode{l:List Version}(g:Hv l){v:Version}(hv:v∈l):1<=v.Policy.Mode/\v.Policy.Mode<=4:=(FK (g.each v hv).2.2.2).1
theorem Cb{κ α : Type}[DecidableEq κ](k:κ)(v:α):∀(m:List (κ×α))(x:κ),mget? (mput m k v) x=if x=k then some v else mget? m x
 |[],x=>by simp[mput,mget?]
 |(k',v')::m,x=>by
  simp only[mput]
  by_cases e:k=k'
  .subst e;by_cases e2:x=k<;>simp[mget?,e2]
  .simp only[e,if_false,mget?,Cb k v m x]
   by_cases e2:x=k'
   .subst e2;simp[Ne.symm e]
   .simp[e2]
theorem xd{κ α : Type}[DecidableEq κ]{x:κ}:∀{m:List (κ×α)},x∈m.map (·.1)->∃v,mget? m x=some v/\(x,v)∈m
 |(k,v)::m,h=>by
  by_cases e:x=k
  .subst e;exact⟨v,by simp[mget?],by simp⟩
  .simp only[List.map_cons,kB,e,false_or]at h
   obtain⟨u,h1,h2⟩:=xd h
   exact⟨u,by simp[mget?,e,h1],vA _ h2⟩
theorem BZ{κ α : Type}[DecidableEq κ]{k:κ}{v:α}{q:κ×α}:∀{m:List (κ×α)},q∈mput m k v->q=(k,v)\/q∈m
 |[],h=>by simp[mput]at h;exact .inl h
 |(k',v')::m,h=>by
  simp only[mput]at h
  split at h
  .rcases kB.1 h with h|h
   .exact .inl h
   .exact .inr (vA _ h)
  .rcases kB.1 h with h|h
   .exact .inr (h▸zB ..)
   .rcases BZ h with h|h
    .exact .inl h
    .exact .inr (vA _ h)
theorem EZ(g:List (Int×Version)):∀l,bL.L2 g [] l=l.map λy=>(y,mgetD g y (aAZ 0 0 0 (xM (⟨#[]⟩:ByteArray) [] [] [] (qG 0 0 0 (⟨#[]⟩:ByteArray) []) 0)))
 |[]=>rfl
 |y::l=>by simp[bL.L2,EZ g l]
def inForceM(known eY:Int):List Version->Int->List (Int×Version)->List (Int×Version)
 |[],_,m=>m
 |y::l,b,m=>bif decide (known<y.Known)then inForceM known eY l b m else bif decide (y.At<=eY)then(bif decide (y.At<b)then inForceM known eY l b m else inForceM known eY l y.At (mput m eY y))else inForceM known eY l b (mput m y.At y)
theorem E0(known eY:Int)(k:Int->List (Int×Version)->List (Int×Version))(hk:∀a b m,k a m=k b m):∀l b m,bL.L1 known eY k l b m=k 0 (inForceM known eY l b m)
 |[],b,m=>hk _ _ _
 |y::l,b,m=>by
  simp only[bL.L1,inForceM,E0 known eY k hk l]
  cases decide (known<y.Known)<;>cases decide (y.At<=eY)<;>cases decide (y.At<b)<;>rfl
theorem Ab(l:List Version)(eY known:Int):fL l eY known=(sortI ((inForceM known eY l (-1) []).map Prod.fst)).map λy=>(y,mgetD (inForceM known eY l (-1) []) y (aAZ 0 0 0 (xM (⟨#[]⟩:ByteArray) [] [] [] (qG 0 0 0 (⟨#[]⟩:ByteArray) []) 0))):=by
 unfold fL bL
 rw[E0 _ _ _ (λ_ _ _=>rfl)]
 exact EZ _ _
theorem o9(known eY:Int)(P:Int×Version->Prop):∀(l:List Version)b m,(∀y∈l,y.At<=eY->P (eY,y))->(∀y∈l,eY<y.At->P (y.At,y))->(∀q∈m,P q)->∀q∈inForceM known eY l b m,P q
 |[],_,_,_,_,hm=>hm
 |y::l,b,m,h1,h2,hm=>by
  have h1':=λz hz=>h1 z (vA _ hz)
  have h2':=λz hz=>h2 z (vA _ hz)
  simp only[inForceM,Bool.cond_eq_ite,decide_eq_true_eq]
  split
  .exact o9 known eY P l b m h1' h2' hm
  .split
   .next ha=>
    split
    .exact o9 known eY P l b m h1' h2' hm
    .refine o9 known eY P l _ _ h1' h2' (λq hq=>?_)
     rcases BZ hq with rfl|hq
     .exact h1 y (zB ..) ha
     .exact hm q hq
   .next ha=>
    refine o9 known eY P l _ _ h1' h2' (λq hq=>?_)
    rcases BZ hq with rfl|hq
    .exact h2 y (zB ..) (by omega)
    .exact hm q hq
theorem C2{l:List Version}{eY known:Int}(P:Int×Version->Prop)(h1:∀y∈l,y.At<=eY->P (eY,y))(h2:∀y∈l,eY<y.At->P (y.At,y)):∀q∈fL l eY known,P q:=by
 intro q hq
 rw[Ab]at hq
 obtain⟨y,hy,rfl⟩:=jQ.1 hq
 have hy':=(kz _).mem_iff.1 hy
 obtain⟨v,e,hv⟩:=xd hy'
 have:mgetD (inForceM known eY l (-1) []) y (aAZ 0 0 0 (xM (⟨#[]⟩:ByteArray) [] [] [] (qG 0 0 0 (⟨#[]⟩:ByteArray) []) 0))=v:=by simp[mgetD,e]
 simp only[this]
 exact o9 known eY P l (-1) [] h1 h2 (λq hq=>(kA hq).elim) _ hv
theorem xl{l:List Version}{eY known:Int}:∀q∈fL l eY known,q.2∈l:=
 C2 (λq=>q.2∈l) (λy hy _=>hy) (λy hy _=>hy)
theorem rF(known eY:Int):∀(l:List Version)b m,(inForceM known eY l b m).length<=m.length+l.length
 |[],_,_=>xG _
 |y::l,b,m=>by
  have a1:=rF known eY l b m
  have a2:=rF known eY l y.At (mput m eY y)
  have a3:=rF known eY l b (mput m y.At y)
  have b2:=mI m eY y
  have b3:=mI m y.At y
  simp only[inForceM,Bool.cond_eq_ite,zA]
  split
  .omega
  .split
   .split<;>omega
   .omega
theorem C1(l:List Version)(eY known:Int):(fL l eY known).length<=l.length:=by
 rw[Ab,List.length_map,iw,List.length_map]
 have:=rF known eY l (-1) []
 simpa using this
theorem AF:∀{a b:List OSeat},a.Pairwise (λx y=>x.person<y.person)->b.Pairwise (λx y=>x.person<y.person)->a.Perm b->a=b
 |[],b,_,_,p=>(List.Perm.nil_eq p)
 |x::a,[],_,_,p=>absurd p.length_eq (by simp)
 |x::a,y::b,ha,hb,p=>by
  have hx:x=y:=by
   have h1:x∈y::b:=p.mem_iff.1 (zB ..)
   have h2:y∈x::a:=p.mem_iff.2 (zB ..)
   rw[List.pairwise_cons]at ha hb
   rcases kB.1 h1 with e|h1
   .exact e
   .rcases kB.1 h2 with e|h2
    .exact e.symm
    .have:=ha.1 y h2;have:=hb.1 x h1;omega
  subst hx
  rw[List.pairwise_cons]at ha hb
  rw[AF ha.2 hb.2 (List.Perm.cons_inv p)]
theorem AG{office:Int}{l:List OSeat}(hn:l.Nodup)(hs:l.Pairwise (λx y=>x.person<=y.person)):(l.filter (λy=>y.office==office)).Pairwise (λx y=>x.person<y.person):=by
 induction l with
 |nil=>exact List.Pairwise.nil
 |cons x l ih=>
  rw[xR]at hn
  rw[List.pairwise_cons]at hs
  rw[List.filter_cons]
  split
  .next h=>
   rw[List.pairwise_cons]
   refine⟨λy hy=>?_,ih hn.2 hs.2⟩
   obtain⟨hy1,hy2⟩:=List.mem_filter.1 hy
   have h1:=hs.1 y hy1
   rcases Int.lt_or_eq_of_le h1 with h2|h2
   .exact h2
   .exfalso
    have:x=y:=by
     cases x;cases y
     simp at h hy2 h2
     simp[h,hy2,h2]
    exact hn.1 (this▸hy1)
  .exact ih hn.2 hs.2
theorem vf(m:List (OSeat×Appoint))(office:Int):∀l,cj.L1 m office [] l=(l.filter λy=>y.office==office).filterMap λy=>bif(mgetD m y (jC 0 0 0 0 0 0 false)).Gone then none else some (aCG (mgetD m y (jC 0 0 0 0 0 0 false)).Person (mgetD m y (jC 0 0 0 0 0 0 false)).Weight)
 |[]=>rfl
 |y::l=>by
  simp only[cj.L1,vf m office l,List.filter_cons]
  cases h1:y.office==office<;>cases h2:(mgetD m y (jC 0 0 0 0 0 0 false)).Gone<;>simp[h2]
theorem Gh{m:List (OSeat×Appoint)}{office:Int}{ys:List OSeat}(hn:(m.map (·.1)).Nodup)(hp:ys.Perm (m.map Prod.fst))(hs:ys.Pairwise (λx y=>x.person<=y.person)):
  cj m office=[]++((cj.L1 m office cj.K1) ys):=by
 unfold cj cj.K1
 rw[jG,vf,vf]
 have h1:(seatS (m.map Prod.fst)).Nodup:=(uT _).nodup_iff.2 hn
 have h2:ys.Nodup:=hp.nodup_iff.2 hn
 rw[AF (AG h1 (AH _)) (AG h2 hs) (((uT _).trans hp.symm).filter _)]
theorem xh(key:Appoint->OSeat×Bool)(later:Appoint->Appoint->Bool):∀(l:List Appoint)m,(dq.L1 key later dq.K1 l m).length<=m.length+l.length
 |[],m=>by simp[dq.L1,dq.K1]
 |y::l,m=>by
  have a:=xh key later l m
  have b:=xh key later l (mput m (key y).1 y)
  have c:=mI m (key y).1 y
  simp only[dq.L1,Bool.cond_eq_ite,zA]
  split<;>omega
theorem uQ(l:List Appoint)(a b:Int):(dx l a b).length<=l.length:=by
 have:=xh (λdF=>iy dF a b) je l []
 simpa[dx,dq]using this
theorem JZ(l:List Holder):fT l=l:=by
 have:∀(l g:List Holder),cm.L1 cm.K1 l g=g++l:=by
  intro l
  induction l with
  |nil=>intro g;simp[cm.L1,cm.K1]
  |cons y l ih=>intro g;simp[cm.L1,ih]
 simp[fT,cm,this]
theorem C4(m:List (OSeat×Appoint))(office:Int):(iN m office).length<=m.length:=by
 unfold iN cj cj.K1
 rw[vf]
 have h1:=List.length_filterMap_le (λy=>bif(mgetD m y (jC 0 0 0 0 0 0 false)).Gone then none else some (aCG (mgetD m y (jC 0 0 0 0 0 0 false)).Person (mgetD m y (jC 0 0 0 0 0 0 false)).Weight)) ((seatS (m.map Prod.fst)).filter λy=>y.office==office)
 have h2:=List.length_filter_le (λy:OSeat=>y.office==office) (seatS (m.map Prod.fst))
 have h3:=(uT (m.map Prod.fst)).length_eq
 rw[List.length_map]at h3
 omega
theorem Dk(l:List Appoint)(office a b:Int):(cW l office a b).1.length<=l.length:=by
 unfold cW
 rw[JZ]
 have h1:=C4 (dx l a b) office
 have h2:=uQ l a b
 cases(dg l != 0)<;>cases((!(fa office))||(!(dv a))||(!(dv b)))<;>simp<;>omega
theorem ly(r:Register):dR r=0↔dg r.Appoints=0/\dB r.Deputies=0/\cX r.Interests=0/\cw r.Budgets=0/\bH r.Versions=0/\bh r.Docs=0/\bX r.Approvals=0:=by
 have e:dR r=(bif dg r.Appoints != 0 then 300 else bif dB r.Deputies != 0 then 300 else bif cX r.Interests != 0 then 300 else bif cw r.Budgets != 0 then 300 else bif bH r.Versions != 0 then 300 else bif bh r.Docs != 0 then 300 else bif bX r.Approvals != 0 then 300 else 0):=rfl
 rw[e]
 have key:∀(a x:Int),(bif a != 0 then 300 else x)=0↔a=0/\x=0:=by
  intro a x
  by_cases h:a=0
  .simp[h]
  .have:(a != 0)=true:=by simpa using h
   rw[this];simp[h]
 simp only[key,and_true]
theorem LN(limit:Int)(k:Int->Bool):∀(l:List Int)(g:Int),dJ.L1 limit k l g=true↔((∀x∈l,g<x/\x<limit)/\l.Pairwise (·<·))/\∃g',(l=[]/\g'=g\/l.getLast? = some g')/\k g'=true
 |[],g=>by simp[dJ.L1]
 |y::l,g=>by
  simp only[dJ.L1,Bool.cond_eq_ite,xD,decide_eq_true_eq]
  split
  .next h=>
   constructor
   .intro h';cases h'
   .rintro⟨⟨h1,_⟩,_⟩;have:=h1 y (zB ..);omega
  .next h=>
   rw[LN limit k l y,List.pairwise_cons]
   simp only[kB,forall_eq_or_imp]
   constructor
   .rintro⟨⟨h1,h2⟩,g',h3,h4⟩
    refine⟨⟨⟨by omega,λx hx=>by have:=h1 x hx;omega⟩,λx hx=>(h1 x hx).1,h2⟩,g',?_,h4⟩
    rcases h3 with⟨rfl,rfl⟩|h3
    .simp
    .right;cases l with
     |nil=>simp at h3
     |cons z l=>simpa using h3
   .rintro⟨⟨⟨h1,h2⟩,h3,h4⟩,g',h5,h6⟩
    refine⟨⟨λx hx=>⟨h3 x hx,(h2 x hx).2⟩,h4⟩,g',?_,h6⟩
    rcases h5 with⟨h5,_⟩|h5
    .cases h5
    .cases l with
     |nil=>left;simp at h5;exact⟨rfl,h5.symm⟩
     |cons z l=>right;simpa using h5
theorem DP(l:List Int)(limit:Int):dJ l limit=true↔((∀x∈l,0<=x/\x<limit)/\l.Pairwise (·<·))/\l.length<=16:=by
 unfold dJ
 rw[LN]
 constructor
 .rintro⟨⟨h1,h2⟩,g',_,h3⟩
  refine⟨⟨λx hx=>by have:=h1 x hx;omega,h2⟩,?_⟩
  simp only[dJ.K1,decide_eq_true_eq]at h3
  omega
 .rintro⟨⟨h1,h2⟩,h3⟩
  refine⟨⟨λx hx=>by have:=h1 x hx;omega,h2⟩,?_⟩
  cases l with
  |nil=>exact⟨_,.inl ⟨rfl,rfl⟩,by simp[dJ.K1]⟩
  |cons y l=>
   refine⟨(y::l).getLast (by simp),.inr (List.getLast?_eq_some_getLast _),?_⟩
   simp only[dJ.K1,decide_eq_true_eq]
   omega
structure Mt(d:Document):Prop where
 no:0<=d.No/\d.No<4096
 at_:0<=d.At/\d.At<1099511627776
 kind:0<=d.Kind/\d.Kind<16
 value:0<=d.Value/\d.Value<=1099511627776
 eY:0<=d.From/\d.From<d.Until
 Re:d.Until<=1099511627776
 parties:((∀x∈d.Parties,0<=x/\x<1048577)/\d.Parties.Pairwise (·<·))/\d.Parties.length<=16
 revokes:((∀x∈d.Revokes,0<=x/\x<d.No)/\d.Revokes.Pairwise (·<·))/\d.Revokes.length<=16
 needs:((∀x∈d.Needs,0<=x/\x<d.No)/\d.Needs.Pairwise (·<·))/\d.Needs.length<=16
theorem IY(d:Document):gG d=true↔Mt d:=by
 unfold gG fJ
 simp only[xB,decide_eq_true_eq,DP]
 constructor
 .rintro⟨⟨⟨⟨⟨⟨⟨⟨⟨⟨⟨⟨a,b⟩,c,d⟩,e⟩,f⟩,g⟩,h⟩,i⟩,j⟩,k⟩,l⟩,m⟩,n⟩
  exact⟨⟨a,b⟩,⟨c,d⟩,⟨e,f⟩,⟨g,h⟩,⟨i,j⟩,k,l,m,n⟩
 .rintro⟨⟨a,b⟩,⟨c,d⟩,⟨e,f⟩,⟨g,h⟩,⟨i,j⟩,k,l,m,n⟩
  exact⟨⟨⟨⟨⟨⟨⟨⟨⟨⟨⟨⟨a,b⟩,c,d⟩,e⟩,f⟩,g⟩,h⟩,i⟩,j⟩,k⟩,l⟩,m⟩,n⟩
theorem FB(l0:List Document):∀(l:List Document)(i:Nat),bh.L1 l0 0 l i=0->∀d∈l,gG d=true
 |[],_,_,_,hd=>(kA hd).elim
 |y::l,i,h,d,hd=>by
  simp only[bh.L1,Bool.cond_eq_ite]at h
  split at h
  .omega
  .next hc=>
   simp only[xD,not_or,zE,Bool.not_eq_false]at hc
   rcases kB.1 hd with rfl|hd
   .exact hc.1.1
   .exact FB l0 l (i+1) h d hd
theorem Hn{l:List Document}(h:bh l=0):∀d∈l,Mt d:=by
 unfold bh bh.K1 at h
 rw[Bool.cond_eq_ite]at h
 split at h
 .omega
 .exact λd hd=>(IY d).1 (FB l l 0 h d hd)
theorem Bc(f:Document->Bool):∀(l:List Document)(i:Nat),(ad.L1 f ad.K1 l i=-1/\∀x∈l,f x=false) \/
  ∃a y b,l=a++y::b/\ad.L1 f ad.K1 l i=((i+a.length:Nat):Int)/\f y=true/\∀x∈a,f x=false
 |[],i=>.inl ⟨rfl,λ_ h=>(kA h).elim⟩
 |y::l,i=>by
  simp only[ad.L1]
  cases hy:f y with
  |true=>exact .inr ⟨[],y,l,rfl,by simp,hy,λ_ h=>(kA h).elim⟩
  |false=>
   rcases Bc f l (i+1)with⟨h1,h2⟩|⟨a,z,b,rfl,h2,h3,h4⟩
   .exact .inl ⟨h1,λx hx=>by rcases kB.1 hx with rfl|hx;exact hy;exact h2 x hx⟩
   .refine .inr ⟨y::a,z,b,rfl,?_,h3,λx hx=>by rcases kB.1 hx with rfl|hx;exact hy;exact h4 x hx⟩
    rw[cond_false,h2];simp only[zA];congr 1;omega
theorem KD(mode:Int)(l:List Version)(old:Bool):(judgesP mode l old).length<=l.length:=by
 unfold judgesP iI ii iH
 cases mode==1<;>cases mode==2<;>cases old<;>simp<;>omega
theorem Cv(k:List Int->List Int×Int×Int):∀(l:List Version)(g:List Int),aD.L2 k l g=k (g++l.map (·.No))
 |[],g=>by simp[aD.L2]
 |y::l,g=>by simp[aD.L2,Cv k l]
theorem Hu(begun at_:Int)(P:List Int×Int×Int->Prop)(n:Nat)(k:Bool->List Version->List Int×Int×Int)(hk:∀b g,g.length<=n->P (k b g)):∀(l:List (Int×Version))b g,g.length+l.length<=n->P (aD.L1 begun at_ k l b g)
 |[],b,g,h=>by simpa[aD.L1]using hk b g (by simpa using h)
 |y::l,b,g,h=>by
  simp only[aD.L1]
  simp only[zA]at h
  cases decide (at_<y.1)
  .exact Hu begun at_ P n k hk l _ _ (by simp;omega)
  .exact hk _ _ (by omega)
theorem Ao(l:List Version)(begun at_ known:Int):(aD l begun at_ known).1.length<=l.length:=by
 unfold aD
 cases(bH l != 0)
 .cases(((!(gB begun))||(!(gB at_)))||(!(gB known)))||decide (at_<begun)
  .simp only[cond_false]
   refine Hu begun at_ (λr=>r.1.length<=l.length) l.length _ ?_ _ _ _ (by have:=C1 l begun known;simpa using this)
   intro b g hg
   unfold aD.K1
   cases((g.length:Int)==0)
   .simp only[cond_false,Cv,aD.K2,jG,iw,List.length_map]
    exact Nat.le_trans (KD _ _ _) hg
   .simp
  .simp
 .simp
theorem mv:smR (xJ [] [] [] [] [] [] []):=by simp[smR,smV]
theorem tZ{P:Program}{f:FuncId}{args:List Value}{h:HF}{v v':Value}(t:Ret P f args h v)(e:v=v'):Ret P f args h v':=e▸t
structure Rn(r:Register)(doc:Int)(who l:List Int):Prop where
 times:∀x∈l,0<=x/\x<1099511627776
 check:kk r=0
 doc0:0<=aA r doc
 people:nF who=true
theorem LB(no:Int):∀(l:List Document)(i:Nat),0<=aA.L1 no aA.K1 l i->∃(j:Nat)(d:Document),l[j]? = some d/\d.No=no/\aA.L1 no aA.K1 l i=((i+j:Nat):Int)
 |[],i,h=>by simp[aA.L1,aA.K1]at h
 |y::l,i,h=>by
  simp only[aA.L1,Bool.cond_eq_ite,beq_iff_eq]at h ⊢
  split
  .next e=>exact⟨0,y,rfl,e,rfl⟩
  .next e=>
   rw[if_neg e]at h
   obtain⟨j,d,h1,h2,h3⟩:=LB no l (i+1) h
   exact⟨j+1,d,by simpa using h1,h2,by rw[h3];congr 1;omega⟩
theorem LA{r:Register}{no:Int}(h:0<=aA r no):aA r no<(r.Docs.length:Int)/\nthI r.Docs (aA r no)∈r.Docs/\(nthI r.Docs (aA r no)).No=no:=by
 obtain⟨j,d,h1,h2,h3⟩:=LB no r.Docs 0 h
 rw[Nat.zero_add]at h3
 have hl:=(List.getElem?_eq_some_iff.1 h1).1
 have e:aA r no=(j:Int):=h3
 have hb:0<=aA r no/\aA r no<(r.Docs.length:Int):=by omega
 have hg:=cN hb
 rw[show(aA r no).toNat=j from by omega,h1]at hg
 have hd:=vT hg
 exact⟨hb.2,nZ hb,by rw[←hd];exact h2⟩
theorem O7(L:List Document):∀(l:List Document)(i:Nat),dP.L1 L dP.K1 l i=0->∀d∈l,iq d=true
 |[],_,_=>λ_ h=>(kA h).elim
 |y::l,i,h=>by
  simp only[dP.L1,Bool.cond_eq_ite,xD,not_or]at h
  split at h
  .simp at h
  .next hc=>
   intro d hd
   rcases kB.1 hd with rfl|hd
   .simp only[not_or]at hc;simpa using hc.1.1.1
   .exact O7 L l (i+1) h d hd
theorem J3{r:Register}(h:kk r=0):ir r.Appoints=0/\gX r.Deputies=0/\gU r.Interests=0/\fy r.Budgets=0/\dO r.Versions=0/\dP r.Docs=0/\gV r.Approvals=0:=by
 simp only[kk,Bool.cond_eq_ite,xD,bne_iff_ne]at h
 split at h
 .simp at h
 .next h1=>
  split at h
  .simp at h
  .next h2=>
   simp only[not_or,Classical.not_not]at h1 h2
   exact⟨h1.1.1.1,h1.1.1.2,h1.1.2,h1.2,h2.1.1,h2.1.2,h2.2⟩
theorem O6{l:List Document}(h:dP l=0):l.length<=4096/\∀d∈l,iq d=true:=by
 simp only[dP,Bool.cond_eq_ite,decide_eq_true_eq]at h
 split at h
 .simp at h
 .next h1=>exact⟨by omega,O7 l l 0 h⟩
theorem Hj{α : Type}(g:α->Int):∀(l:List α)(m:List (Int×Bool))(x:Int),x∈(l.foldl (λm y=>mput m (g y) true) m).map (·.1)↔x∈m.map (·.1)\/∃y∈l,x=g y
 |[],m,x=>by simp
 |y::l,m,x=>by
  rw[List.foldl_cons,Hj g l,Ca]
  simp only[kB,exists_eq_or_imp]
  constructor
  .rintro((h|h)|h)
   .exact .inr (.inl h)
   .exact .inl h
   .exact .inr (.inr h)
  .rintro(h|h|h)
   .exact .inl (.inr h)
   .exact .inl (.inl h)
   .exact .inr h
theorem Ft{α : Type}(g:α->Int):∀(l:List α)(m:List (Int×Bool)),(m.map (·.1)).Nodup->((l.foldl (λm y=>mput m (g y) true) m).map (·.1)).Nodup
 |[],m,h=>h
 |y::l,m,h=>Ft g l _ (ow _ _ h)
theorem BL{l:List Int}(h:l.Pairwise (·<=·))(hn:l.Nodup):l.Pairwise (·<·):=by
 induction l with
 |nil=>exact List.Pairwise.nil
 |cons x l ih=>
  rw[List.pairwise_cons]at h ⊢
  rw[xR]at hn
  exact⟨λy hy=>by have:=h.1 y hy;have:x≠y:=λe=>hn.1 (e▸hy);omega,ih h.2 hn.2⟩
section chk
variable {α : Type} [Inhabited α]
def refChk(R:α->Bool)(no:α->Int)(c:Int)(L:List α):List α->Nat->Int
 |[],_=>0
 |y::l,i=>bif(!(R y))||(decide (0<(i:Int))&&decide (no y<=no (nthI L ((i:Int)-1))))then c else refChk R no c L l (i+1)
def prgChk(R:α->Bool)(no:α->Int)(c:Int):List α->Int->Int
 |[],_=>0
 |y::l,g=>bif(!(R y))||decide (no y<=g)then c else prgChk R no c l (no y)
theorem J1(R:α->Bool)(no:α->Int)(c:Int)(L:List α):∀(l pre:List α)(x:α),L=(pre++[x])++l->refChk R no c L l (pre.length+1)=prgChk R no c l (no x)
 |[],_,_,_=>rfl
 |y::l,pre,x,h=>by
  have hx:nthI L (((pre.length+1:Nat):Int)-1)=x:=by
   have hb:0<=(((pre.length+1:Nat):Int)-1)/\(((pre.length+1:Nat):Int)-1)<(L.length:Int):=by rw[h];simp;omega
   have hg:=cN hb
   rw[show((((pre.length+1:Nat):Int)-1)).toNat=pre.length from by omega,h]at hg
   rw[h];simpa using hg.symm
  have hd:decide (0<((pre.length+1:Nat):Int))=true:=by rw[decide_eq_true_eq];omega
  have ih:=J1 R no c L l (pre++[x]) y (by rw[h];simp)
  rw[jA,zA,jB,Nat.zero_add]at ih
  simp only[refChk,prgChk,hx,hd,Bool.true_and,ih]
theorem FJ(R:α->Bool)(no:α->Int)(c:Int)(hR:∀y,R y=true->0<=no y)(l:List α):refChk R no c l l 0=prgChk R no c l (-1):=by
 cases l with
 |nil=>rfl
 |cons y l=>
  have ih:=J1 R no c (y::l) l [] y rfl
  simp only[jB,Nat.zero_add]at ih
  simp only[refChk,prgChk,Nat.zero_add,ih]
  cases hr:R y with
  |false=>rfl
  |true=>
   have:decide (no y<=-1)=false:=by have:=hR y hr;simp;omega
   rw[this];rfl
end chk
theorem CU(l:List Appoint):dg l=ir l:=by
 have hR:∀x,mM x=jo x:=λx=>by
  rw[qN]
  simp only[mM,jo,Bool.cond_eq_ite]
  cases x.Gone<;>simp only[if_true,if_false,xV,xB,xD,zE,decide_eq_true_eq,decide_eq_false_iff_not,beq_iff_eq,dZ,dv,fa,fR,nk,nH,nG,Bool.and_eq_false_iff]
   <;> (split<;>simp only[xV,iff_false,decide_eq_true_eq,xB,beq_iff_eq]<;>omega)
 have h1:∀(L l:List Appoint)i,ir.L1 L ir.K1 l i=refChk jo (·.No) 150 L l i:=by
  intro L l
  induction l with
  |nil=>intro i;rfl
  |cons y l ih=>intro i;simp only[ir.L1,refChk,ih]
 have h2:∀(l:List Appoint)g,dg.L1 dg.K1 l g=prgChk jo (·.No) 150 l g:=by
  intro l
  induction l with
  |nil=>intro g;rfl
  |cons y l ih=>intro g;simp only[dg.L1,prgChk,ih,hR]
 unfold dg ir
 rw[h1,h2,FJ]
 intro y hy
 simp only[jo,Bool.cond_eq_ite]at hy
 split at hy
 .cases hy
 .next h=>simp only[xD,not_or,decide_eq_true_eq]at h;omega
theorem Bv(l:List Deputy):dB l=gX l:=by
 have hR:∀x,ml x=jm x:=λx=>by
  rw[qN]
  simp only[ml,jm,Bool.cond_eq_ite,cY,gh,fS,gZ,nj,lL]
  generalize (!(decide (0<=x.No)&&decide (x.No<=1048576))||!(decide (0<=x.At)&&decide (x.At<=1099511627775))||!(decide (0<=x.Known)&&decide (x.Known<=1099511627775))||!(decide (0<=x.From)&&decide (x.From<=63))||!(decide (0<=x.To)&&decide (x.To<=63))||x.From==x.To)=A
  cases A<;>simp
 have h1:∀(L l:List Deputy)i,gX.L1 L gX.K1 l i=refChk jm (·.No) 160 L l i:=by
  intro L l
  induction l with
  |nil=>intro i;rfl
  |cons y l ih=>intro i;simp only[gX.L1,refChk,ih]
 have h2:∀(l:List Deputy)g,dB.L1 dB.K1 l g=prgChk jm (·.No) 160 l g:=by
  intro l
  induction l with
  |nil=>intro g;rfl
  |cons y l ih=>intro g;simp only[dB.L1,prgChk,ih,hR]
 unfold dB gX
 rw[h1,h2,FJ]
 intro y hy
 simp only[jm,Bool.cond_eq_ite]at hy
 split at hy
 .cases hy
 .next h=>simp only[xD,not_or,decide_eq_true_eq,gZ,zE,Bool.and_eq_false_iff,decide_eq_false_iff_not]at h;omega
theorem yZ(l:List Interest):cX l=gU l:=by
 have hR:∀x,lG x=jh x:=λx=>by
  rw[qN]
  simp only[lG,jh,Bool.cond_eq_ite,bJ,ng,mn,nE]
  cases x.Of<;>simp only[if_true,if_false,xV,xB,xD,zE,decide_eq_true_eq,decide_eq_false_iff_not,bne_iff_ne,Bool.and_eq_false_iff]
   <;> (split<;>simp only[xV,iff_false,decide_eq_true_eq,xB,bne_iff_ne]<;>omega)
 have h1:∀(L l:List Interest)i,gU.L1 L gU.K1 l i=refChk jh (·.No) 290 L l i:=by
  intro L l
  induction l with
  |nil=>intro i;rfl
  |cons y l ih=>intro i;simp only[gU.L1,refChk,ih]
 have h2:∀(l:List Interest)g,cX.L1 cX.K1 l g=prgChk jh (·.No) 290 l g:=by
  intro l
  induction l with
  |nil=>intro g;rfl
  |cons y l ih=>intro g;simp only[cX.L1,prgChk,ih,hR]
 unfold cX gU
 rw[h1,h2,FJ]
 intro y hy
 simp only[jh,Bool.cond_eq_ite]at hy
 split at hy
 .cases hy
 .next h=>simp only[xD,not_or,decide_eq_true_eq]at h;omega
theorem C3(f:Int->Bool):∀(l:List Int)(i:Nat),decide (0<=dN.L1 f dN.K1 l i)=l.any f
 |[],i=>by simp[dN.L1,dN.K1]
 |y::l,i=>by
  have ih:=C3 f l (i+1)
  simp only[dN.L1,List.any_cons]
  by_cases hf:f y=true
  .simp[hf]
  .simp only[Bool.not_eq_true]at hf
   simp only[hf,cond_false,Bool.false_or]
   exact ih
theorem containsF(l:List Int)(f:Int->Bool):cC l f=l.any f:=C3 f l 0
theorem xU(l:List Budget):cw l=fy l:=by
 have hR:∀x,ju x=jk x:=λx=>by
  rw[qN]
  simp only[ju,jk,Bool.cond_eq_ite,aR,containsF,ik,List.any_cons,List.any_nil,Bool.or_false,fD,gJ]
  cases x.Gone<;>simp only[if_true,if_false,xV,xB,xD,zE,decide_eq_true_eq,decide_eq_false_iff_not,beq_iff_eq,Bool.and_eq_false_iff,Bool.or_eq_false_iff]
   <;> (split<;>simp only[xV,iff_false,decide_eq_true_eq,xB,beq_iff_eq]<;>omega)
 have h1:∀(L l:List Budget)i,fy.L1 L fy.K1 l i=refChk jk (·.No) 180 L l i:=by
  intro L l
  induction l with
  |nil=>intro i;rfl
  |cons y l ih=>intro i;simp only[fy.L1,refChk,ih]
 have h2:∀(l:List Budget)g,cw.L1 cw.K1 l g=prgChk jk (·.No) 180 l g:=by
  intro l
  induction l with
  |nil=>intro g;rfl
  |cons y l ih=>intro g;simp only[cw.L1,prgChk,ih,hR]
 unfold cw fy
 rw[h1,h2,FJ]
 intro y hy
 simp only[jk,Bool.cond_eq_ite]at hy
 split at hy
 .cases hy
 .next h=>simp only[xD,not_or,decide_eq_true_eq,fD,zE,Bool.and_eq_false_iff,decide_eq_false_iff_not]at h;omega
theorem zg(l:List Approval):bX l=gV l:=by
 have hR:∀x,iO x=ji x:=λx=>by
  rw[qN]
  simp only[iO,ji,Bool.cond_eq_ite,dt,containsF,gR,List.any_cons,List.any_nil,Bool.or_false,gk,nh,rO]
  simp only[xB,xD,zE,decide_eq_true_eq,decide_eq_false_iff_not,Bool.and_eq_false_iff,Bool.or_eq_false_iff]
  split<;>simp only[xV,iff_false,decide_eq_true_eq,xB]<;>omega
 have h1:∀(L l:List Approval)i,gV.L1 L gV.K1 l i=refChk ji (·.No) 280 L l i:=by
  intro L l
  induction l with
  |nil=>intro i;rfl
  |cons y l ih=>intro i;simp only[gV.L1,refChk,ih]
 have h2:∀(l:List Approval)g,bX.L1 bX.K1 l g=prgChk ji (·.No) 280 l g:=by
  intro l
  induction l with
  |nil=>intro g;rfl
  |cons y l ih=>intro g;simp only[bX.L1,prgChk,ih,hR]
 unfold bX gV
 rw[h1,h2,FJ]
 intro y hy
 simp only[ji,Bool.cond_eq_ite]at hy
 split at hy
 .cases hy
 .next h=>simp only[xD,not_or,decide_eq_true_eq,gk,zE,Bool.and_eq_false_iff,decide_eq_false_iff_not]at h;omega
def refLs(B:Int->Bool)(L:List Int)(k:Bool):List Int->Nat->Bool
 |[],_=>k
 |y::l,i=>bif(B y)||(decide (0<(i:Int))&&decide (y<=nthI L ((i:Int)-1)))then false else refLs B L k l (i+1)
theorem Em(B:Int->Bool)(L:List Int)(k:Bool):∀(l pre:List Int)(x:Int),L=(pre++[x])++l->refLs B L k l (pre.length+1)=true->((∀y∈l,B y=false)/\k=true)/\(x::l).Pairwise (·<·)
 |[],_,_,_,h=>⟨⟨λ_ h=>(kA h).elim,h⟩,by simp⟩
 |y::l,pre,x,h,hr=>by
  have hx:nthI L (((pre.length+1:Nat):Int)-1)=x:=by
   have hb:0<=(((pre.length+1:Nat):Int)-1)/\(((pre.length+1:Nat):Int)-1)<(L.length:Int):=by rw[h];simp;omega
   have hg:=cN hb
   rw[show((((pre.length+1:Nat):Int)-1)).toNat=pre.length from by omega,h]at hg
   rw[h];simpa using hg.symm
  simp only[refLs,hx,Bool.cond_eq_ite]at hr
  split at hr
  .cases hr
  .next hc=>
   simp only[xD,xB,decide_eq_true_eq,not_or]at hc
   have ih:=Em B L k l (pre++[x]) y (by rw[h];simp)
   rw[jA,zA,jB,Nat.zero_add]at ih
   obtain⟨⟨i1,i2⟩,i3⟩:=ih hr
   have hxy:x<y:=by omega
   refine⟨⟨λz hz=>?_,i2⟩,List.pairwise_cons.2 ⟨λz hz=>?_,i3⟩⟩
   .rcases kB.1 hz with rfl|hz
    .simpa using hc.1
    .exact i1 z hz
   .rcases kB.1 hz with rfl|hz
    .exact hxy
    .have:=(List.pairwise_cons.1 i3).1 z hz;omega
theorem N7{B:Int->Bool}{k:Bool}{l:List Int}(h:refLs B l k l 0=true):((∀y∈l,B y=false)/\k=true)/\l.Pairwise (·<·):=by
 cases l with
 |nil=>exact⟨⟨λ_ h=>(kA h).elim,h⟩,List.Pairwise.nil⟩
 |cons y l=>
  simp only[refLs,Bool.cond_eq_ite]at h
  split at h
  .cases h
  .next hc=>
   simp only[xD,not_or]at hc
   obtain⟨⟨i1,i2⟩,i3⟩:=Em B (y::l) k l [] y rfl h
   refine⟨⟨λz hz=>?_,i2⟩,i3⟩
   rcases kB.1 hz with rfl|hz
   .simpa using hc.1
   .exact i1 z hz
theorem El{l:List Int}{limit:Int}(h:eH l limit=true):((∀x∈l,0<=x/\x<limit)/\l.Pairwise (·<·))/\l.length<=16:=by
 have e:∀(L l:List Int)i,eH.L1 L limit (eH.K1 L) l i=refLs (λy=>decide (y<0)||decide (limit<=y)) L (eH.K1 L) l i:=by
  intro L l
  induction l with
  |nil=>intro i;rfl
  |cons y l ih=>intro i;simp only[eH.L1,refLs,ih]
 unfold eH at h
 rw[e]at h
 obtain⟨⟨h1,h2⟩,h3⟩:=N7 h
 refine⟨⟨λx hx=>?_,h3⟩,?_⟩
 .have:=h1 x hx;simp only[Bool.or_eq_false_iff,decide_eq_false_iff_not]at this;omega
 .simp only[eH.K1,decide_eq_true_eq]at h2;omega
theorem CJ{d:Document}(h:iq d=true):Mt d:=by
 simp only[iq,Bool.cond_eq_ite]at h
 split at h
 .cases h
 .next hc=>
  simp only[xD,not_or,decide_eq_true_eq,lx,zE,Bool.and_eq_false_iff,decide_eq_false_iff_not]at hc
  simp only[xB,decide_eq_true_eq]at h
  obtain⟨⟨⟨⟨⟨h1,h2⟩,h3⟩,h4⟩,h5⟩,h6⟩:=h
  exact⟨by omega,by omega,by omega,by omega,⟨h1,h2⟩,h3,El h4,El h5,El h6⟩
theorem AE(L:List Document):∀(l:List Document)(i:Nat)(m:List (Int×Int)),(aB.L1 (aB.K1 L) l i m).docs=L/\∀x,mhas (aB.L1 (aB.K1 L) l i m).at_ x=(mhas m x||l.any λd=>d.No==x)
 |[],i,m=>⟨rfl,λx=>by simp[aB.L1,aB.K1]⟩
 |y::l,i,m=>by
  obtain⟨h1,h2⟩:=AE L l (i+1) (mput m y.No (i:Int))
  refine⟨h1,λx=>?_⟩
  show mhas (aB.L1 (aB.K1 L) l (i+1) (mput m y.No (i:Int))).at_ x=_
  rw[h2 x,List.any_cons]
  have:mhas (mput m y.No (i:Int)) x=(mhas m x||y.No==x):=by
   unfold mhas
   rw[Cb]
   by_cases e:x=y.No
   .subst e;simp
   .rw[if_neg e]
    have:(y.No==x)=false:=by simp;exact λh=>e h.symm
    rw[this,Bool.or_false]
  rw[this,Bool.or_assoc]
theorem Db(no:Int):∀(l:List Document)(i:Nat),0<=fV.L1 no fV.K1 l i->(l.any λd=>d.No==no)=true
 |[],i,h=>by simp[fV.L1,fV.K1]at h
 |y::l,i,h=>by
  simp only[fV.L1,Bool.cond_eq_ite]at h
  rw[List.any_cons]
  by_cases e:(y.No==no)=true
  .rw[e];rfl
  .rw[if_neg e]at h
   rw[Db no l (i+1) h,Bool.or_true]
theorem GH(L:List Document):∀nos:List Int,dw.L1 L dw.K1 nos=true->∀x∈nos,(L.any λd=>d.No==x)=true
 |[],_=>λ_ h=>(kA h).elim
 |y::nos,h=>by
  simp only[dw.L1,Bool.cond_eq_ite,decide_eq_true_eq]at h
  split at h
  .cases h
  .next hc=>
   intro x hx
   rcases kB.1 hx with rfl|hx
   .exact Db x L 0 (by unfold fV at hc;omega)
   .exact GH L nos h x hx
theorem QH{L:List Document}{d:Document}(h1:dw L d.Revokes=true)(h2:dw L d.Needs=true):eJ (aB L) d=true:=by
 have hs:=(AE L L 0 []).2
 have key:∀nos,dw L nos=true->cC nos (λdF=>ey dF (aB L))=false:=by
  intro nos hn
  rw[containsF,List.any_eq_false]
  intro x hx
  unfold ey
  have:=GH L nos hn x hx
  have e:mhas (aB L).at_ x=true:=by
   show mhas (aB.L1 (aB.K1 L) L 0 []).at_ x=true
   rw[hs x,this,Bool.or_true]
  rw[e];simp
 unfold eJ
 rw[key _ h1,key _ h2];rfl
theorem Gm{l:List Document}(h:dP l=0):bh l=0:=by
 have L:∀(L l:List Document)(i:Nat),dP.L1 L dP.K1 l i=0->bh.L1 L bh.K1 l i=0:=by
  intro L l
  induction l with
  |nil=>intros;rfl
  |cons y l ih=>
   intro i h
   simp only[dP.L1,Bool.cond_eq_ite]at h
   split at h
   .omega
   .next hc=>
    simp only[xD,not_or,zE,Bool.not_eq_false,Bool.not_eq_true]at hc
    obtain⟨⟨⟨c1,c2⟩,c3⟩,c4⟩:=hc
    simp only[bh.L1,(IY y).2 (CJ c1),c2,QH c3 c4,Bool.not_true,Bool.or_false,cond_false]
    exact ih (i+1) h
 unfold dP at h
 unfold bh
 rw[Bool.cond_eq_ite]at h ⊢
 split at h
 .omega
 .next hc=>rw[if_neg hc];exact L l l 0 h
theorem Hb(x:Int):∀(l:List Int)(i:Nat),(0<=eZ.L1 x eZ.K1 l i)↔x∈l
 |[],i=>by simp[eZ.L1,eZ.K1]
 |y::l,i=>by
  have ih:=Hb x l (i+1)
  simp only[eZ.L1,Bool.cond_eq_ite,beq_iff_eq,kB]
  by_cases e:x=y
  .rw[if_pos e];simp[e]
  .rw[if_neg e,ih];simp[e]
theorem Ij(l:List Int)(x:Int):gu l x=true↔x∈l:=by
 unfold gu
 rw[decide_eq_true_eq]
 exact Hb x l 0
theorem Jr(mode:Int)(l:List Version)(old:Bool):(judgesP mode l old).Sublist l:=by
 unfold judgesP iI ii iH
 cases mode==1<;>cases mode==2<;>cases old<;>simp[List.take_sublist,List.drop_sublist]
theorem FQ(begun at_:Int)(k:Bool->List Version->List Int×Int×Int):∀(l:List (Int×Version))b g,∃(pre:List (Int×Version))(b':Bool),pre.Sublist l/\aD.L1 begun at_ k l b g=k b' (g++pre.map (·.2))
 |[],b,g=>⟨[],b,List.Sublist.refl _,by simp[aD.L1]⟩
 |y::l,b,g=>by
  simp only[aD.L1]
  cases decide (at_<y.1)
  .obtain⟨pre,b',h1,h2⟩:=FQ begun at_ k l (b||(y.1==begun)) (g++[y.2])
   exact⟨y::pre,b',h1.cons_cons _,by rw[cond_false,h2];simp⟩
  .exact⟨[],b,List.nil_sublist _,by simp⟩
theorem PH{l:List Version}(h:l.Pairwise (λa b=>a.No<b.No)){a b:Version}(ha:a∈l)(hb:b∈l)(e:a.No=b.No):a=b:=by
 induction l with
 |nil=>cases ha
 |cons x l ih=>
  obtain⟨h1,h2⟩:=List.pairwise_cons.1 h
  rcases kB.1 ha with ea|ha'<;>rcases kB.1 hb with eb|hb'
  .rw[ea,eb]
  .have:=h1 b hb';rw[ea]at e;omega
  .have:=h1 a ha';rw[eb]at e;omega
  .exact ih h2 ha' hb'
theorem nq(known eY:Int):∀(l:List Version)b m,(m.map (·.1)).Nodup->((inForceM known eY l b m).map (·.1)).Nodup
 |[],b,m,h=>h
 |y::l,b,m,h=>by
  simp only[inForceM,Bool.cond_eq_ite]
  split
  .exact nq known eY l _ _ h
  .split
   .split
    .exact nq known eY l _ _ h
    .exact nq known eY l _ _ (ow _ _ h)
   .exact nq known eY l _ _ (ow _ _ h)
theorem H5(l:List Version)(eY known:Int):(fL l eY known).Pairwise (λp q=>p.1<q.1):=by
 rw[Ab,List.pairwise_map]
 exact BL (lJ _) ((kz _).nodup_iff.2 (nq known eY l (-1) [] List.nodup_nil))
theorem Ju{l:List Version}(g:Hv l)(eY known:Int):(fL l eY known).Pairwise (λp q=>p.2.No≠q.2.No):=by
 have hP:=C2 (l:=l) (eY:=eY) (known:=known) (λp=>((p.2.At<=eY/\p.1=eY)\/(eY<p.2.At/\p.1=p.2.At))/\p.2∈l) (λy hy h=>⟨.inl ⟨h,rfl⟩,hy⟩) (λy hy h=>⟨.inr ⟨h,rfl⟩,hy⟩)
 refine(H5 l eY known).imp_of_mem λ{p q}hp hq hlt e=>?_
 have h1:=hP p hp
 have h2:=hP q hq
 have h3:=PH g.inc h1.2 h2.2 e
 rw[h3]at h1
 omega
structure Jdg(l:List Version)(J:List Int×Int×Int):Prop where
 err:J.2.2=0
 rise:J.1.Pairwise (·<·)
 mem:∀x∈J.1,∃v∈l,v.No=x
 mode:J.1≠[]->1<=J.2.1/\J.2.1<=4
 mode2:J.2.1≠0->1<=J.2.1/\J.2.1<=4
theorem Ht{l:List Version}(g:Hv l){begun at_ known:Int}(hb:0<=begun/\begun<1099511627776)(ht:0<=at_/\at_<1099511627776)(hk:0<=known/\known<1099511627776)(hle:begun<=at_):Jdg l (aD l begun at_ known):=by
 have h0:bH l=0:=(qw l).2 g
 have h1:∀x:Int,0<=x/\x<1099511627776->gB x=true:=λx hx=>by simp[gB,hx]
 have h2:decide (at_<begun)=false:=by simp;omega
 unfold aD
 rw[h0,h1 _ hb,h1 _ ht,h1 _ hk,h2]
 simp only[bne_self_eq_false,cond_false,Bool.not_true,Bool.or_false]
 obtain⟨pre,b',hs,e⟩:=FQ begun at_ aD.K1 (fL l begun known) false []
 rw[e,jG]
 unfold aD.K1
 cases hc:(((pre.map (·.2)).length:Int)==0)with
 |true=>exact⟨rfl,List.Pairwise.nil,λx hx=>(kA hx).elim,λh=>absurd rfl h,λh=>absurd rfl h⟩
 |false=>
  simp only[cond_false,Cv,aD.K2,jG]
  have hpre:pre.length≠0:=by simpa using hc
  have hsub:=Jr ((nthI (pre.map (·.2)) (((pre.map (·.2)).length:Int)-1)).Policy.Mode) (pre.map (·.2)) b'
  have hnd:(pre.map (·.2)).Pairwise (λa b=>a.No≠b.No):=by
   rw[List.pairwise_map]
   exact(Ju g begun known).sublist hs
  have hmode:1<=(nthI (pre.map (·.2)) (((pre.map (·.2)).length:Int)-1)).Policy.Mode/\(nthI (pre.map (·.2)) (((pre.map (·.2)).length:Int)-1)).Policy.Mode<=4:=by
   have hm:nthI (pre.map (·.2)) (((pre.map (·.2)).length:Int)-1)∈pre.map (·.2):=nZ (by rw[List.length_map];omega)
   obtain⟨p,hp,hpe⟩:=jQ.1 hm
   have:=g.mode (xl p (hs.subset hp))
   rw[hpe]at this
   exact this
  refine⟨rfl,BL (lJ _) ((kz _).nodup_iff.2 ?_),λx hx=>?_,λ_=>hmode,λ_=>hmode⟩
  .show List.Pairwise _ _
   rw[List.pairwise_map]
   exact hnd.sublist hsub
  .have hx2:=(kz _).mem_iff.1 hx
   obtain⟨v,hv,rfl⟩:=jQ.1 hx2
   obtain⟨p,hp,rfl⟩:=jQ.1 (hsub.subset hv)
   exact⟨p.2,xl p (hs.subset hp),rfl⟩
theorem FU{mode:Int}(hm:1<=mode/\mode<=4){l:List Bool}(hl:l.length<=256):(gC mode l).2=0:=by
 have hc:jw mode l=0:=by
  have h1:mhas ky mode=true:=by
   have:mode=1\/mode=2\/mode=3\/mode=4:=by omega
   rcases this with rfl|rfl|rfl|rfl<;>rfl
  unfold jw
  rw[h1,show decide (256<(l.length:Int))=false from decide_eq_false (by omega)]
  rfl
 have k1:∀(k:List Int->List Int×Bool×Int),(∀g,(k g).2.2=0)->∀(s:List Bool)i g,(bG.L1 k s i g).2.2=0:=by
  intro k hk s
  induction s with
  |nil=>intro i g;exact hk g
  |cons y s ih=>intro i g;exact ih _ _
 have k2:∀(k:List Int->List Int×Bool×Int),(∀g,(k g).2.2=0)->∀(s:List Bool)i g,(bG.L2 k s i g).2.2=0:=by
  intro k hk s
  induction s with
  |nil=>intro i g;exact hk g
  |cons y s ih=>intro i g;exact ih _ _
 have k3:∀(k:List Int->List Int×Bool×Int),(∀g,(k g).2.2=0)->∀(s:List Bool)i g,(bG.L3 k s i g).2.2=0:=by
  intro k hk s
  induction s with
  |nil=>intro i g;exact hk g
  |cons y s ih=>intro i g;exact ih _ _
 show(bG mode l).2.2=0
 unfold bG
 rw[hc]
 simp only[bne_self_eq_false,cond_false,Bool.cond_eq_ite]
 repeat' split
 all_goals first
  |rfl
  |exact k1 _ (λ_=>rfl) _ _ _
  |exact k2 _ (λ_=>rfl) _ _ _
  |exact k3 _ (λ_=>rfl) _ _ _
end Go.Sg
