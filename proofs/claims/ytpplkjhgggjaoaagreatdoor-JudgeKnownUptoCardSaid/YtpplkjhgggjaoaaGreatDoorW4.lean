import Derived.KernelRfl
import Derived.Test.YtpplkjhgggjaoaaGreatDoorW3
/- A part of the proof of JudgeKnown. -/
set_option linter.unusedVariables false
set_option linter.unusedSimpArgs false
set_option maxRecDepth 100000
open List renaming length_cons→xA,length_append→jA,mem_cons_of_mem→vA,not_mem_nil→kA,mem_cons_self→zB,toArray→jB,length_nil→vB,mem_cons→qC,nil_append→zG,range→qH,mem_map→jQ,nodup_cons→kR,getElem?_of_mem→aBo
open Bool renaming and_eq_true→xB,or_eq_true→xD,not_eq_true'→qE,false_eq_true→jL,eq_iff_iff→jP
open Go.Sg.Appoint renaming mk→jC
open Go.IntKind renaming wrap→vC
open Nat renaming le_refl→kF
open Go.Sg.Expr renaming mk→xG,jU→aAn,mj→aBh
open Go.Sg.Register renaming mk→jG
open Go.Sg.Policy renaming mk→kN
open Go.Sg.Interest renaming mk→zV
open Go.Sg.Approval renaming mk→xW
open Go.Sg.Budget renaming mk→aAz
open Go.Sg.Version renaming mk→aA1
open Go.Sg.Deputy renaming mk→aBe
open Go.Sg.Rule renaming mk→aBi
open Go.Sg.OSeat renaming mk→aBj
open Go.Sg.Holder renaming mk→aCF

namespace Go.Sg
def dY(er:Int)(low:Int)(high:Int):Bool:=(decide (low<=er)&&decide (er<=high))
def fj(er:Int):Bool:=(dY er 0 31)
def dz(er:Int):Bool:=(dY er 0 1099511627775)
def fY(er:Int):Bool:=(dY er 0 63)
def mn(x:Appoint):Bool:=(bif x.Gone then((((((dY x.No 0 1048576)&&(dz x.At))&&(dz x.Known))&&(fj x.Office))&&(fY x.Person))&&(dY x.Weight 0 0))else((((((dY x.No 0 1048576)&&(dz x.At))&&(dz x.Known))&&(fj x.Office))&&(fY x.Person))&&(dY x.Weight 1 64)))
def cw.K1(iQ:Int):Int:=0
def cw.L1(k:Int->Int):List Appoint->Int->Int
 |[],iQ=>(k iQ)
 |y1::rz1,iQ=>(bif((!(mn y1))||decide (y1.No<=iQ))then 150 else(cw.L1  k rz1 y1.No))
def cw(l:List Appoint):Int:=(bif(decide (4096<(l.length:Int)))then 2 else((cw.L1 (cw.K1)) l (-1)))
def dg(er:Int)(low:Int)(high:Int):Bool:=(decide (low<=er)&&decide (er<=high))
def ga(er:Int):Bool:=(dg er 0 63)
def gE(er:Int):Bool:=(dg er 0 1099511627775)
def lT(x:Deputy):Bool:=(bif((((((((!(dg x.No 0 1048576))||(!(gE x.At)))||(!(gE x.Known)))||(!(ga x.From)))||(!(ga x.To)))||(x.From==x.To))||(!(dg x.Office 0 31)))||(!(dg x.Kind (-1) 15)))then false else(bif x.Gone then((x.Until==0)&&(x.Most==0))else((decide (x.At<x.Until)&&decide (x.Until<=1099511627776))&&(dg x.Most 0 1099511627776))))
def cS.K1(iQ:Int):Int:=0
def cS.L1(k:Int->Int):List Deputy->Int->Int
 |[],iQ=>(k iQ)
 |y1::rz1,iQ=>(bif((!(lT y1))||decide (y1.No<=iQ))then 160 else(cS.L1  k rz1 y1.No))
def cS(l:List Deputy):Int:=(bif(decide (4096<(l.length:Int)))then 2 else((cS.L1 (cS.K1)) l (-1)))
def bJ(er:Int)(limit:Int):Bool:=(decide (0<=er)&&decide (er<limit))
def lA(x:Interest):Bool:=(bif x.Of then((((((bJ x.No 1048577)&&(bJ x.At 1099511627776))&&(bJ x.Known 1099511627776))&&(bJ x.Party 1048577))&&(bJ x.Person 1048577))&&(x.Person != x.Party))else(((((bJ x.No 1048577)&&(bJ x.At 1099511627776))&&(bJ x.Known 1099511627776))&&(bJ x.Party 1048577))&&(bJ x.Person 64)))
def cq.K1(iQ:Int):Int:=0
def cq.L1(k:Int->Int):List Interest->Int->Int
 |[],iQ=>(k iQ)
 |y1::rz1,iQ=>(bif((!(lA y1))||decide (y1.No<=iQ))then 290 else(cq.L1  k rz1 y1.No))
def cq(l:List Interest):Int:=(bif(decide (4096<(l.length:Int)))then 2 else((cq.L1 (cq.K1)) l (-1)))
def dM.K1  : Int:=(-1)
def dM.L1(f:(Int->Bool))(k:Int):List Int->Nat->Int
 |[],i1=>(k)
 |y1::rz1,i1=>(bif(f y1)then(i1:Int)else(dM.L1 f k rz1 (i1+1)))
def dM(s:List Int)(f:(Int->Bool)):Int:=((dM.L1 f (dM.K1)) s 0)
def cB(s:List Int)(f:(Int->Bool)):Bool:=decide (0<=(dM s f))
def iA(er:Int)(v0:Int)(v1:Int):Bool:=(decide (er<v0)||decide (v1<er))
def aO(least:Int)(most:Int)(l:List Int):Bool:=(!(cB l (λdl=>iA dl least most)))
def ka(x:Budget):Bool:=(bif x.Gone then((((((aO 0 1048576 ([x.No]))&&(aO 0 1099511627775 ([x.At,x.Known])))&&(aO (-1) 15 ([x.Kind])))&&(aO 1 1099511627776 ([x.Period])))&&(aO 0 0 ([x.Count])))&&(aO 0 0 ([x.Value])))else((((((aO 0 1048576 ([x.No]))&&(aO 0 1099511627775 ([x.At,x.Known])))&&(aO (-1) 15 ([x.Kind])))&&(aO 1 1099511627776 ([x.Period])))&&(aO 0 1048576 ([x.Count])))&&(aO 0 1099511627776 ([x.Value]))))
def bT.K1(iQ:Int):Int:=0
def bT.L1(k:Int->Int):List Budget->Int->Int
 |[],iQ=>(k iQ)
 |y1::rz1,iQ=>(bif((!(ka y1))||decide (y1.No<=iQ))then 180 else(bT.L1  k rz1 y1.No))
def bT(l:List Budget):Int:=(bif(decide (4096<(l.length:Int)))then 2 else((bT.L1 (bT.K1)) l (-1)))
def aK.L2(k:List gL):List gL->List gL
 |[]=>k
 |y2::rz2=>(y2::(aK.L2 k rz2))
def aK.L3(k:List gL):List gL->List gL
 |[]=>k
 |y3::rz3=>(y3::(aK.L3 k rz3))
def aK.K1  : List gL:=[]
def aK.L1(rec:Expr->Int->List gL)(depth:Int)(k:List gL):List Expr->List gL
 |[]=>(k)
 |y1::rz1=>((aK.L3 ((aK.L1 rec depth k rz1))) (rec y1 (depth+1)))
def aK.F(rec:Expr->Int->List gL)(x:Expr)(depth:Int):List gL:=((gL.mk (xG x.Kind x.N x.No x.Name x.L) depth)::((aK.L1 rec depth (aK.K1)) x.L))
def aK.go:Nat->Expr->Int->List gL
 |0=>λ_ _=>[]
 |m+1=>aK.F (aK.go m)
def bu(x:Expr)(depth:Int):List gL:=aK.go x.dep x depth
def eZ(ok:Bool)(Q5:Int):(Except Int Unit):=(bif(!ok)then(Except.error Q5)else(Except.ok ()))
def ay.K1(p:Policy)(Hm:List Expr):List Expr:=(Hm++[p.Change])
def ay.L1(k:List Expr->List Expr):List Rule->List Expr->List Expr
 |[],Hm=>(k Hm)
 |y1::rz1,Hm=>(ay.L1  k rz1 (Hm++[y1.Expr]))
def ay(p:Policy):List Expr:=((ay.L1 (ay.K1 p)) p.Rules ([]))
def cx.L2(k:Int->(Except Int Unit)):List gL->Int->(Except Int Unit)
 |[],EB=>k EB
 |y2::rz2,EB=>(exi (eZ (decide ((vC .i64 (EB+1))<=256)&&decide (y2.depth<=16)) 2) (λ_=>(cx.L2 k rz2 (vC .i64 (EB+1)))))
def cx.L3(k:Int->(Except Int Unit)):List gL->Int->(Except Int Unit)
 |[],EA=>k EA
 |y3::rz3,EA=>(exi (eZ (decide ((vC .i64 (EA+1))<=256)&&decide (y3.depth<=16)) 2) (λ_=>(cx.L3 k rz3 (vC .i64 (EA+1)))))
def cx.K1  : (Except Int Unit):=(Except.ok ())
def cx.L1(k:(Except Int Unit)):List Expr->(Except Int Unit)
 |[]=>(k)
 |y1::rz1=>((cx.L3 (λzg3_b3_0=>(cx.L1  k rz1))) (bu y1 1) 0)
def cx(p:Policy):(Except Int Unit):=(exi (eZ ((decide ((p.Offices.length:Int)<=32)&&decide ((p.Kinds.length:Int)<=16))&&decide ((p.Rules.length:Int)<=16)) 2) (λ_=>((cx.L1 (cx.K1)) (ay p))))
def du(x:Expr):Bool:=((x.Kind==1)||(x.Kind==2))
def ir(s:ByteArray)(c:Int):Int:=(idxByte s c)
def strings_IndexByte(s:ByteArray)(c:Int):Int:=(ir s c)
def kt(c:Int):Int:=(bif((decide (97<=c)&&decide (c<=122))||(decide (65<=c)&&decide (c<=90)))then 2 else(bif(decide (48<=c)&&decide (c<=57))then 3 else(bif(c==95)then 5 else(bif((((c==32)||(c==9))||(c==10))||(c==13))then 1 else(bif(decide (0<=(strings_IndexByte (⟨#[123,125,40,41,59,44,61,58,46,60,62,33,43,45,42,47]⟩:ByteArray) c)))then 4 else 0)))))
def dP.K1  : Bool:=true
def dP.L1(s:ByteArray)(k:Bool):List Nat->Nat->Bool
 |[],i1=>(k)
 |y1::rz1,i1=>(bif((((kt ((s.data.getD ((i1:Int):Int).toNat 0).toNat:Int)) != 2)&&((kt ((s.data.getD ((i1:Int):Int).toNat 0).toNat:Int)) != 3))&&((kt ((s.data.getD ((i1:Int):Int).toNat 0).toNat:Int)) != 5))then false else(dP.L1 s k rz1 (i1+1)))
def dP(s:ByteArray):Bool:=(bif(((s.toList==(⟨#[]⟩:ByteArray).toList)||decide (32<(s.size:Int)))||((kt ((s.data.getD (0:Int).toNat 0).toNat:Int)) != 2))then false else((dP.L1 s (dP.K1)) (qH s.size) 0))
def dL(s:ByteArray):Bool:=(bif(s.toList==(⟨#[112,111,108,105,99,121]⟩:ByteArray).toList)then(bif(s.toList==(⟨#[112,111,108,105,99,121]⟩:ByteArray).toList)then false else(dP s))else(bif(s.toList==(⟨#[109,111,100,101]⟩:ByteArray).toList)then(bif(s.toList==(⟨#[109,111,100,101]⟩:ByteArray).toList)then false else(dP s))else(bif(s.toList==(⟨#[111,108,100]⟩:ByteArray).toList)then(bif(s.toList==(⟨#[111,108,100]⟩:ByteArray).toList)then false else(dP s))else(bif(s.toList==(⟨#[110,101,119]⟩:ByteArray).toList)then(bif(s.toList==(⟨#[110,101,119]⟩:ByteArray).toList)then false else(dP s))else(bif(s.toList==(⟨#[98,111,116,104]⟩:ByteArray).toList)then(bif(s.toList==(⟨#[98,111,116,104]⟩:ByteArray).toList)then false else(dP s))else(bif(s.toList==(⟨#[101,105,116,104,101,114]⟩:ByteArray).toList)then(bif(s.toList==(⟨#[101,105,116,104,101,114]⟩:ByteArray).toList)then false else(dP s))else(bif(s.toList==(⟨#[111,102,102,105,99,101]⟩:ByteArray).toList)then(bif(s.toList==(⟨#[111,102,102,105,99,101]⟩:ByteArray).toList)then false else(dP s))else(bif(s.toList==(⟨#[107,105,110,100]⟩:ByteArray).toList)then(bif(s.toList==(⟨#[107,105,110,100]⟩:ByteArray).toList)then false else(dP s))else(bif(s.toList==(⟨#[114,117,108,101]⟩:ByteArray).toList)then(bif(s.toList==(⟨#[114,117,108,101]⟩:ByteArray).toList)then false else(dP s))else(bif(s.toList==(⟨#[116,104,105,110,107]⟩:ByteArray).toList)then(bif(s.toList==(⟨#[116,104,105,110,107]⟩:ByteArray).toList)then false else(dP s))else(bif(s.toList==(⟨#[99,104,97,110,103,101]⟩:ByteArray).toList)then(bif(s.toList==(⟨#[99,104,97,110,103,101]⟩:ByteArray).toList)then false else(dP s))else(bif(s.toList==(⟨#[115,111,109,101]⟩:ByteArray).toList)then(bif(s.toList==(⟨#[115,111,109,101]⟩:ByteArray).toList)then false else(dP s))else(bif(s.toList==(⟨#[119,101,105,103,104,116]⟩:ByteArray).toList)then(bif(s.toList==(⟨#[119,101,105,103,104,116]⟩:ByteArray).toList)then false else(dP s))else(bif(s.toList==(⟨#[111,102]⟩:ByteArray).toList)then(bif(s.toList==(⟨#[111,102]⟩:ByteArray).toList)then false else(dP s))else(bif(s.toList==(⟨#[117,112,116,111]⟩:ByteArray).toList)then(bif(s.toList==(⟨#[117,112,116,111]⟩:ByteArray).toList)then false else(dP s))else(bif(s.toList==(⟨#[101,108,115,101]⟩:ByteArray).toList)then false else(dP s)))))))))))))))))
def aR.K1  : Int:=(-1)
def aR.L1(v:ByteArray)(k:Int):List ByteArray->Nat->Int
 |[],i1=>(k)
 |y1::rz1,i1=>(bif(v.toList==y1.toList)then(i1:Int)else(aR.L1 v k rz1 (i1+1)))
def aR(s:List ByteArray)(v:ByteArray):Int:=((aR.L1 v (aR.K1)) s 0)
def bF.K1  : Bool:=true
def bF.L1(l:List ByteArray)(ok:(ByteArray->Bool))(k:Bool):List ByteArray->Nat->Bool
 |[],i1=>(k)
 |y1::rz1,i1=>(bif((!(ok y1))||((aR l y1) != (i1:Int)))then false else(bF.L1 l ok k rz1 (i1+1)))
def bF(l:List ByteArray)(ok:(ByteArray->Bool)):Bool:=((bF.L1 l ok (bF.K1)) l 0)
def di(s:List ByteArray)(v:ByteArray):Bool:=decide (0<=(aR s v))
def cy.L2(p:Policy)(k:(Except Int Unit)):List gL->(Except Int Unit)
 |[]=>k
 |y2::rz2=>(exi (eZ ((!(du y2.x))||(di p.Offices y2.x.Name)) 201) (λ_=>(cy.L2 p k rz2)))
def cy.L3(p:Policy)(k:(Except Int Unit)):List gL->(Except Int Unit)
 |[]=>k
 |y3::rz3=>(exi (eZ ((!(du y3.x))||(di p.Offices y3.x.Name)) 201) (λ_=>(cy.L3 p k rz3)))
def cy.K1  : (Except Int Unit):=(Except.ok ())
def cy.L1(p:Policy)(k:(Except Int Unit)):List Expr->(Except Int Unit)
 |[]=>(k)
 |y1::rz1=>((cy.L3 p ((cy.L1 p k rz1))) (bu y1 1))
def cy(p:Policy):(Except Int Unit):=(exi (eZ (((dL p.Name)&&(bF p.Offices dL))&&(bF p.Kinds dL)) 201) (λ_=>((cy.L1 p (cy.K1)) (ay p))))
def aN(er:Int)(low:Int)(high:Int):Bool:=(decide (low<=er)&&decide (er<=high))
def nY(x0:Expr):Bool:=false
def j7(x:Expr):Bool:=((x.N==0)&&((x.L.length:Int)==0))
def j6(x:Expr):Bool:=((aN x.N 1 4096)&&((x.L.length:Int)==0))
def j5(x:Expr):Bool:=(((x.Name.toList==(⟨#[]⟩:ByteArray).toList)&&(aN (x.L.length:Int) 1 16))&&(aN x.N 1 (x.L.length:Int)))
def jd(x:Expr):Bool:=(((x.Name.toList==(⟨#[]⟩:ByteArray).toList)&&((x.L.length:Int)==2))&&(aN x.N 0 1099511627776))
def kindsP(i:Int)(x:Expr):Bool:=if i=0 then nY x else if i=1 then j7 x else if i=2 then j6 x else if i=3 then j5 x else jd x
def bq.L3(p:Policy)(k:(Except Int Unit)):List gL->(Except Int Unit)
 |[]=>k
 |y3::rz3=>(exi (eZ ((aN y3.x.Kind 1 4)&&(kindsP y3.x.Kind y3.x)) 200) (λ_=>(exi (eZ (decide (0<(vC .i64 (((ay p).length:Int)-1)))||(y3.x.Kind != 4)) 200) (λ_=>(bq.L3 p k rz3)))))
def bq.L4(p:Policy)(i2:Nat)(k:(Except Int Unit)):List gL->(Except Int Unit)
 |[]=>k
 |y4::rz4=>(exi (eZ ((aN y4.x.Kind 1 4)&&(kindsP y4.x.Kind y4.x)) 200) (λ_=>(exi (eZ (decide ((i2:Int)<(vC .i64 (((ay p).length:Int)-1)))||(y4.x.Kind != 4)) 200) (λ_=>(bq.L4 p i2 k rz4)))))
def bq.K2  : (Except Int Unit):=(Except.ok ())
def bq.L2(p:Policy)(k:(Except Int Unit)):List Expr->Nat->(Except Int Unit)
 |[],i2=>(k)
 |y2::rz2,i2=>((bq.L4 p i2 ((bq.L2 p k rz2 (i2+1)))) (bu y2 1))
def bq.K1(p:Policy):(Except Int Unit):=((bq.L2 p (bq.K2)) (ay p) 0)
def bq.L1(p:Policy)(k:(Except Int Unit)):List Rule->Nat->(Except Int Unit)
 |[],i1=>(k)
 |y1::rz1,i1=>(exi (eZ ((y1.Kind.toList==(nthI p.Kinds (i1:Int)).toList)&&(aN y1.Think 0 1099511627775)) 200) (λ_=>(bq.L1 p k rz1 (i1+1))))
def bq(p:Policy):(Except Int Unit):=(exi (eZ ((decide (0<(p.Kinds.length:Int))&&((p.Rules.length:Int)==(p.Kinds.length:Int)))&&(aN p.Mode 1 4)) 200) (λ_=>((bq.L1 p (bq.K1 p)) p.Rules 0)))
def dE(p:Policy):(Except Int Unit):=(exi (cx p) (λ_=>(exi (cy p) (λ_=>(exi (bq p) (λ_=>(Except.ok ())))))))
def ao.K1(offices:List ByteArray)(x:Expr)(lH:List Expr):Expr:=(xG x.Kind x.N (aR offices x.Name) x.Name lH)
def ao.L1(rec:List ByteArray->Expr->Expr)(offices:List ByteArray)(k:List Expr->Expr):List Expr->List Expr->Expr
 |[],lH=>(k lH)
 |y1::rz1,lH=>(ao.L1 rec offices k rz1 (lH++[(rec offices y1)]))
def ao.K2(x:Expr)(lG:List Expr):Expr:=(xG x.Kind x.N 0 x.Name lG)
def ao.L2(rec:List ByteArray->Expr->Expr)(offices:List ByteArray)(k:List Expr->Expr):List Expr->List Expr->Expr
 |[],lG=>(k lG)
 |y2::rz2,lG=>(ao.L2 rec offices k rz2 (lG++[(rec offices y2)]))
def ao.F(rec:List ByteArray->Expr->Expr)(offices:List ByteArray)(x:Expr):Expr:=(bif(du (xG x.Kind x.N 0 x.Name x.L))then((ao.L1 rec offices (ao.K1 offices x)) x.L ([]))else((ao.L2 rec offices (ao.K2 x)) x.L ([])))
def ao.go:Nat->List ByteArray->Expr->Expr
 |0=>λ_ _=>default
 |m+1=>ao.F (ao.go m)
def ao(offices:List ByteArray)(x:Expr):Expr:=ao.go x.dep offices x
def ef.K1(p:Policy)(nq:List Rule):(Policy×Int):=((kN p.Name p.Kinds p.Offices nq (xG ((ao p.Offices p.Change).Kind) ((ao p.Offices p.Change).N) ((ao p.Offices p.Change).No) ((ao p.Offices p.Change).Name) ((ao p.Offices p.Change).L)) p.Mode),0)
def ef.L1(p:Policy)(k:List Rule->(Policy×Int)):List Rule->Nat->List Rule->(Policy×Int)
 |[],i1,nq=>(k nq)
 |y1::rz1,i1,nq=>(ef.L1 p k rz1 (i1+1) (nq++[(aBi y1.Kind (i1:Int) y1.Think (xG ((ao p.Offices y1.Expr).Kind) ((ao p.Offices y1.Expr).N) ((ao p.Offices y1.Expr).No) ((ao p.Offices y1.Expr).Name) ((ao p.Offices y1.Expr).L)))]))
def ef(p:Policy):(Policy×Int):=(bif((attR (dE p)) != 0)then((kN (⟨#[]⟩:ByteArray) ([]) ([]) ([]) (xG 0 0 0 (⟨#[]⟩:ByteArray) ([])) 0),(attR (dE p)))else((ef.L1 p (ef.K1 p)) p.Rules 0 ([])))
def bR.K1  : Bool:=true
def bR.L1(offices:List ByteArray)(k:Bool):List gL->Bool
 |[]=>k
 |y1::rz1=>(bif(du y1.x)then(bif(y1.x.No != (aR offices y1.x.Name))then false else(bR.L1 offices k rz1))else(bif(y1.x.No != 0)then false else(bR.L1 offices k rz1)))
def bR(offices:List ByteArray)(x:Expr):Bool:=((bR.L1 offices (bR.K1)) (bu x 1))
def dk.K1(p:Policy):Int:=(bif(!(bR p.Offices p.Change))then 200 else 0)
def dk.L1(p:Policy)(k:Int):List Rule->Nat->Int
 |[],i1=>(k)
 |y1::rz1,i1=>(bif((y1.KindNo != (i1:Int))||(!(bR p.Offices y1.Expr)))then 200 else(dk.L1 p k rz1 (i1+1)))
def dk(p:Policy):Int:=(bif((ef p).2 != 0)then(ef p).2 else((dk.L1 p (dk.K1 p)) p.Rules 0))
def bw.K1(iQ:Int):Int:=0
def bw.L1(k:Int->Int):List Version->Int->Int
 |[],iQ=>(k iQ)
 |y1::rz1,iQ=>(bif((((!(aN y1.No (vC .i64 (iQ+1)) 1048576))||(!(aN y1.At 0 1099511627775)))||(!(aN y1.Known 0 1099511627775)))||((dk y1.Policy) != 0))then 200 else(bw.L1  k rz1 y1.No))
def bw(l:List Version):Int:=(bif(decide (256<(l.length:Int)))then 2 else((bw.L1 (bw.K1)) l (-1)))
def aA.K1(l:List Document)(bV:List (Int×Int)):hY:=(hY.mk l bV)
def aA.L1(k:(List (Int×Int))->hY):List Document->Nat->(List (Int×Int))->hY
 |[],i1,bV=>(k bV)
 |y1::rz1,i1,bV=>(aA.L1  k rz1 (i1+1) (mput bV y1.No (i1:Int)))
def aA(l:List Document):hY:=((aA.L1 (aA.K1 l)) l 0 ([]))
def fS(t:Int):Bool:=(decide (0<=t)&&decide (t<1099511627776))
def dJ.K1(l:List Int)(fa:Int):Bool:=decide ((l.length:Int)<=16)
def dJ.L1(limit:Int)(k:Int->Bool):List Int->Int->Bool
 |[],fa=>(k fa)
 |y1::rz1,fa=>(bif(decide (y1<=fa)||decide (limit<=y1))then false else(dJ.L1 limit k rz1 y1))
def dJ(l:List Int)(limit:Int):Bool:=((dJ.L1 limit (dJ.K1 l)) l (-1))
def gT(d:Document):Bool:=((((((((((((decide (0<=d.No)&&decide (d.No<4096))&&(fS d.At))&&decide (0<=d.Kind))&&decide (d.Kind<16))&&decide (0<=d.Value))&&decide (d.Value<=1099511627776))&&decide (0<=d.From))&&decide (d.From<d.Until))&&decide (d.Until<=1099511627776))&&(dJ d.Parties 1048577))&&(dJ d.Revokes d.No))&&(dJ d.Needs d.No))
def eG(no:Int)(v0:hY):Bool:=(!(mhas v0.at_ no))
def eO(s:hY)(d:Document):Bool:=((!(cB d.Revokes (λdl=>eG dl s)))&&(!(cB d.Needs (λdl=>eG dl s))))
def aV.K1  : Int:=0
def aV.L1(l:List Document)(k:Int):List Document->Nat->Int
 |[],i1=>(k)
 |y1::rz1,i1=>(bif(((!(gT y1))||(decide (0<(i1:Int))&&decide (y1.No<=(nthI l ((i1:Int)-1)).No)))||(!(eO (aA l) y1)))then 170 else(aV.L1 l k rz1 (i1+1)))
def aV(l:List Document):Int:=(bif(decide (4096<(l.length:Int)))then 2 else((aV.L1 l (aV.K1)) l 0))
def ic(er:Int)(v0:Int):Bool:=(decide (er<0)||decide (v0<er))
def dv(most:Int)(l:List Int):Bool:=(!(cB l (λdl=>ic dl most)))
def jb(x:Approval):Bool:=(((((dv 1048576 ([x.No]))&&(dv 1099511627775 ([x.At,x.Known])))&&(dv 4095 ([x.Doc])))&&(dv 63 ([x.By,x.For])))&&(dv 31 ([x.Office])))
def bK.K1(iQ:Int):Int:=0
def bK.L1(k:Int->Int):List Approval->Int->Int
 |[],iQ=>(k iQ)
 |y1::rz1,iQ=>(bif((!(jb y1))||decide (y1.No<=iQ))then 280 else(bK.L1  k rz1 y1.No))
def bK(l:List Approval):Int:=(bif(decide (4096<(l.length:Int)))then 2 else((bK.L1 (bK.K1)) l (-1)))
def dX.K1  : Int:=0
def dX.L1(cH:Register)(k:Int):List Nat->Nat->Int
 |[],i1=>(k)
 |y1::rz1,i1=>(bif((nthI ([(cw cH.Appoints),(cS cH.Deputies),(cq cH.Interests),(bT cH.Budgets),(bw cH.Versions),(aV cH.Docs),(bK cH.Approvals)]) (i1:Int)) != 0)then 300 else(dX.L1 cH k rz1 (i1+1)))
def dX(cH:Register):Int:=((dX.L1 cH (dX.K1)) (qH 7) 0)
def lQ(Q6:Int):(Except Int Unit):=(bif(Q6 != 0)then(Except.error Q6)else(Except.ok ()))
def ad.K1  : Int:=(-1)
def ad.L1(f:(Document->Bool))(k:Int):List Document->Nat->Int
 |[],i1=>(k)
 |y1::rz1,i1=>(bif(f y1)then(i1:Int)else(ad.L1 f k rz1 (i1+1)))
def ad(s:List Document)(f:(Document->Bool)):Int:=((ad.L1 f (ad.K1)) s 0)
def bC(d:Document)(v0:Int):Bool:=(d.No==v0)
def lP(cH:Register)(doc:Int)(aH:Int)(known:Int):(Except Int bU):=(bif((decide ((ad cH.Docs (λdl=>bC dl doc))<0)||decide ((min aH known)<0))||decide (1099511627776<=(max aH known)))then(Except.error 1)else(Except.ok (bU.mk cH (nthI cH.Docs (ad cH.Docs (λdl=>bC dl doc))) aH known)))
def cmp_isNaN_int(x:Int):Bool:=(x != x)
def cQ.K1  : Int:=(-1)
def cQ.L1(f:(Approval->Bool))(k:Int):List Approval->Nat->Int
 |[],i1=>(k)
 |y1::rz1,i1=>(bif(f y1)then(i1:Int)else(cQ.L1 f k rz1 (i1+1)))
def cQ(s:List Approval)(f:(Approval->Bool)):Int:=((cQ.L1 f (cQ.K1)) s 0)
def fQ(s:List Approval)(del:Approval->Bool):List Approval:=s.filter λx=>!(del x)
def bo.K1  : List Approval:=[]
def bo.L1(v1:Int)(v2:Int)(v3:Int)(k:List Approval):List Approval->List Approval
 |[]=>(k)
 |y1::rz1=>(bif(((y1.Doc==v1)&&decide (y1.At<=v2))&&decide (y1.Known<=v3))then(y1::(bo.L1 v1 v2 v3 k rz1))else(bo.L1 v1 v2 v3 k rz1))
def bo(v0:List Approval)(v1:Int)(v2:Int)(v3:Int):List Approval:=((bo.L1 v1 v2 v3 (bo.K1)) v0)
def eD(l:List Approval)(doc:Int)(aH:Int)(known:Int):List Approval:=(bo l doc aH known)
def cd(x:Approval):fu:=(fu.mk x.Doc x.By x.For x.Office)
def aG.K2(np:List Approval):List Approval:=np
def aG.L2(bV:List (fu×Approval))(k:List Approval->List Approval):List Approval->List Approval->List Approval
 |[],np=>k np
 |y2::rz2,np=>(bif((!y2.Gone)&&(decide ((mgetD bV (cd y2) (xW 0 0 0 0 0 0 0 false))=y2)))then(aG.L2 bV k rz2 (np++[y2]))else(aG.L2 bV k rz2 np))
def aG.K1(l:List Approval)(doc:Int)(aH:Int)(known:Int)(bV:List (fu×Approval)):List Approval:=((aG.L2 bV (aG.K2)) (eD l doc aH known) ([]))
def aG.L1(k:(List (fu×Approval))->List Approval):List Approval->(List (fu×Approval))->List Approval
 |[],bV=>k bV
 |y1::rz1,bV=>(bif((!(mhas bV (cd y1)))||decide ((mgetD bV (cd y1) (xW 0 0 0 0 0 0 0 false)).At<=y1.At))then(aG.L1 k rz1 (mput bV (cd y1) y1))else(aG.L1 k rz1 bV))
def aG(l:List Approval)(doc:Int)(aH:Int)(known:Int):List Approval:=((aG.L1 (aG.K1 l doc aH known)) (eD l doc aH known) ([]))
def iJ(y:Approval)(begun:Int)(at_:Int)(think:Int):Bool:=(decide (y.At<begun)||decide ((vC .i64 (at_-y.At))<think))
def cA(l:List Approval)(doc:Int)(begun:Int)(think:Int)(cX:Int)(known:Int):(List Approval×Int):=(bif((bK l) != 0)then([],(bK l))else(bif((!(dv 4095 ([doc])))||(!(dv 1099511627775 ([begun,think,cX,known]))))then([],1)else((fQ (aG l doc cX known) (λdl=>iJ dl begun cX think)),0)))
def gi(x:Appoint)(v0:Int)(v1:Int):(OSeat×Bool):=((aBj x.Office x.Person),(decide (x.At<=v0)&&decide (x.Known<=v1)))
def cJ.K1(bD:List (OSeat×Appoint)):(List (OSeat×Appoint)):=bD
def cJ.L1(key:(Appoint->OSeat×Bool))(later:(Appoint->Appoint->Bool))(k:(List (OSeat×Appoint))->(List (OSeat×Appoint))):List Appoint->(List (OSeat×Appoint))->(List (OSeat×Appoint))
 |[],bD=>(k bD)
 |y1::rz1,bD=>(bif((key y1).2&&((!(mhas bD ((key y1).1)))||(!(later (mgetD bD ((key y1).1) (jC 0 0 0 0 0 0 false)) y1))))then(cJ.L1 key later k rz1 (mput bD ((key y1).1) y1))else(cJ.L1 key later k rz1 bD))
def cJ(l:List Appoint)(key:(Appoint->OSeat×Bool))(later:(Appoint->Appoint->Bool)):(List (OSeat×Appoint)):=((cJ.L1 key later (cJ.K1)) l ([]))
def jI(a:Appoint)(jh:Appoint):Bool:=decide (jh.At<a.At)
def cW(l:List Appoint)(iw:Int)(known:Int):(List (OSeat×Appoint)):=(cJ l (λdl=>gi dl iw known) jI)
def gf(l:List Appoint)(office:Int)(person:Int)(dt:Int)(known:Int):(Int×Int×Bool×Int):=(bif((cw l) != 0)then(0,0,false,(cw l))else(bif((((!(fj office))||(!(fY person)))||(!(dz dt)))||(!(dz known)))then(0,0,false,1)else(bif((!(mhas (cW l dt known) (aBj office person)))||(mgetD (cW l dt known) (aBj office person) (jC 0 0 0 0 0 0 false)).Gone)then(0,0,false,0)else((mgetD (cW l dt known) (aBj office person) (jC 0 0 0 0 0 0 false)).No,(mgetD (cW l dt known) (aBj office person) (jC 0 0 0 0 0 0 false)).Weight,true,0))))
def jy(l:List Deputy)(dT:Int)(to:Int)(q:cD):Int:=(bif((cS l) != 0)then(cS l)else(bif(((((((!(ga dT))||(!(ga to)))||(!(dg q.office 0 31)))||(!(dg q.kind 0 15)))||(!(dg q.value 0 1099511627776)))||(!(gE q.at_)))||(!(gE q.known)))then 1 else 0))
def cV.K1(bD:List Deputy):List Deputy:=bD
def cV.L1(k:List Deputy->List Deputy):List Deputy->List Deputy->List Deputy
 |[],bD=>k bD
 |y1::rz1,bD=>(cV.L1 k rz1 (bD++[y1]))
def cV(seq:List Deputy):List Deputy:=((cV.L1 (cV.K1)) seq ([]))
def dj(seq:List Deputy):List Deputy:=(cV seq)
def eh(q:cD)(x:Deputy):Bool:=(decide (x.At<=q.at_)&&decide (x.Known<=q.known))
def gz(q:cD)(x:Deputy):Bool:=(((((!x.Gone)&&decide (q.at_<x.Until))&&(x.Office==q.office))&&((x.Kind==(-1))||(x.Kind==q.kind)))&&decide (q.value<=x.Most))
def aC.K1  : List Deputy:=[]
def aC.L1(v1:List (dS×Deputy))(v2:(Deputy->Bool))(v3:cD)(k:List Deputy):List Deputy->List Deputy
 |[]=>(k)
 |y1::rz1=>(bif(((decide ((mgetD v1 (dS.mk y1.From y1.To y1.Office y1.Kind) (aBe 0 0 0 0 0 0 0 0 0 false))=y1))&&(v2 y1))&&(gz v3 y1))then(y1::(aC.L1 v1 v2 v3 k rz1))else(aC.L1 v1 v2 v3 k rz1))
def aC(v0:List Deputy)(v1:List (dS×Deputy))(v2:(Deputy->Bool))(v3:cD):List Deputy:=((aC.L1 v1 v2 v3 (aC.K1)) v0)
def aD.K1(q:cD)(l:List Deputy)(eR:List (dS×Deputy)):List Deputy:=(aC l eR (eh q) q)
def aD.L1(q:cD)(k:(List (dS×Deputy))->List Deputy):List Deputy->(List (dS×Deputy))->List Deputy
 |[],eR=>(k eR)
 |y1::rz1,eR=>(bif((eh q y1)&&((!(mhas eR (dS.mk y1.From y1.To y1.Office y1.Kind)))||decide ((mgetD eR (dS.mk y1.From y1.To y1.Office y1.Kind) (aBe 0 0 0 0 0 0 0 0 0 false)).At<=y1.At)))then(aD.L1 q k rz1 (mput eR (dS.mk y1.From y1.To y1.Office y1.Kind) y1))else(aD.L1 q k rz1 eR))
def aD(q:cD)(l:List Deputy):List Deputy:=((aD.L1 q (aD.K1 q l)) l ([]))
def aE.L2(k:(List (Int×Int))->(List Int×Bool×Int)):List Deputy->(List (Int×Int))->(List Int×Bool×Int)
 |[],vW=>(k vW)
 |y2::rz2,vW=>(bif(((mhas vW y2.To)&&((mgetD vW y2.To 0)==0))&&(!(mhas vW y2.From)))then(aE.L2  k rz2 (mput vW y2.From 1))else(aE.L2  k rz2 vW))
def aE.L3(i1:Nat)(k:(List (Int×Int))->(List Int×Bool×Int)):List Deputy->(List (Int×Int))->(List Int×Bool×Int)
 |[],nn=>(k nn)
 |y3::rz3,nn=>(bif(((mhas nn y3.To)&&((mgetD nn y3.To 0)==(i1:Int)))&&(!(mhas nn y3.From)))then(aE.L3 i1 k rz3 (mput nn y3.From (((i1+1):Nat):Int)))else(aE.L3 i1 k rz3 nn))
def aE.L6(dT:Int)(bV:List (Int×Int))(i4:Nat)(k:List Int->Int->(List Int×Bool×Int)):List Deputy->List Int->Int->(List Int×Bool×Int)
 |[],BZ,DR=>(k BZ DR)
 |y6::rz6,BZ,DR=>(bif(((y6.From==DR)&&(mhas bV y6.To))&&((mgetD bV y6.To 0)==((((((mgetD bV dT 0)).toNat)-(i4+1)):Nat):Int)))then(k (BZ++[y6.No]) y6.To)else(aE.L6 dT bV i4 k rz6 BZ DR))
def aE.K4(yy:List Int)(DS:Int):(List Int×Bool×Int):=(yy,true,0)
def aE.L4(l:List Deputy)(dT:Int)(office:Int)(kind:Int)(value:Int)(li:Int)(known:Int)(bV:List (Int×Int))(k:List Int->Int->(List Int×Bool×Int)):List Nat->Nat->List Int->Int->(List Int×Bool×Int)
 |[],i4,yy,DS=>(k yy DS)
 |y4::rz4,i4,yy,DS=>((aE.L6 dT bV i4 (λzg6_16 zg6_31=>(aE.L4 l dT office kind value li known bV k rz4 (i4+1) zg6_16 zg6_31))) (dj (aD (cD.mk office kind value li known) l)) yy DS)
def aE.K1(l:List Deputy)(dT:Int)(office:Int)(kind:Int)(value:Int)(li:Int)(known:Int)(bV:List (Int×Int)):(List Int×Bool×Int):=(bif(!(mhas bV dT))then([],false,0)else((aE.L4 l dT office kind value li known bV (aE.K4)) (qH (((mgetD bV dT 0)).toNat)) 0 ([]) dT))
def aE.L1(l:List Deputy)(office:Int)(kind:Int)(value:Int)(li:Int)(known:Int)(k:(List (Int×Int))->(List Int×Bool×Int)):List Nat->Nat->(List (Int×Int))->(List Int×Bool×Int)
 |[],i1,bV=>(k bV)
 |y1::rz1,i1,bV=>((aE.L3 i1 (λzg3_b2_0=>(aE.L1 l office kind value li known k rz1 (i1+1) zg3_b2_0))) (dj (aD (cD.mk office kind value li known) l)) bV)
def aE(l:List Deputy)(dT:Int)(to:Int)(office:Int)(kind:Int)(value:Int)(li:Int)(known:Int):(List Int×Bool×Int):=(bif((jy l dT to (cD.mk office kind value li known)) != 0)then([],false,(jy l dT to (cD.mk office kind value li known)))else((aE.L1 l office kind value li known (aE.K1 l dT office kind value li known)) (qH 8) 0 (mput ([]) to 0)))
def cK.K1(person:Int)(parties:List Int)(dt:Int)(known:Int)(ow:Int):Int:=(bif((((!(bJ person 64))||decide (16<(parties.length:Int)))||(!(bJ dt 1099511627776)))||(!(bJ known 1099511627776)))then 1 else 0)
def cK.L1(k:Int->Int):List Int->Int->Int
 |[],ow=>(k ow)
 |y1::rz1,ow=>(bif(decide (y1<=ow)||decide (1048576<y1))then 1 else(cK.L1  k rz1 y1))
def cK(l:List Interest)(person:Int)(parties:List Int)(dt:Int)(known:Int):Int:=(bif((cq l) != 0)then(cq l)else((cK.L1 (cK.K1 person parties dt known)) parties (-1)))
def bG.K1  : List Interest:=[]
def bG.L1(v1:List (dp×Interest))(k:List Interest):List Interest->List Interest
 |[]=>(k)
 |y1::rz1=>(bif((!y1.Gone)&&(decide ((mgetD v1 (dp.mk y1.Person y1.Party y1.Of) (zV 0 0 0 0 0 false false))=y1)))then(y1::(bG.L1 v1 k rz1))else(bG.L1 v1 k rz1))
def bG(v0:List Interest)(v1:List (dp×Interest)):List Interest:=((bG.L1 v1 (bG.K1)) v0)
def bQ.K1(l:List Interest)(bV:List (dp×Interest)):List Interest:=(bG l bV)
def bQ.L1(iw:Int)(known:Int)(k:(List (dp×Interest))->List Interest):List Interest->(List (dp×Interest))->List Interest
 |[],bV=>(k bV)
 |y1::rz1,bV=>(bif(decide (iw<y1.At)||decide (known<y1.Known))then(bQ.L1 iw known k rz1 bV)else(bif((!(mhas bV (dp.mk y1.Person y1.Party y1.Of)))||decide ((mgetD bV (dp.mk y1.Person y1.Party y1.Of) (zV 0 0 0 0 0 false false)).At<=y1.At))then(bQ.L1 iw known k rz1 (mput bV (dp.mk y1.Person y1.Party y1.Of) y1))else(bQ.L1 iw known k rz1 bV)))
def bQ(l:List Interest)(iw:Int)(known:Int):List Interest:=((bQ.L1 iw known (bQ.K1 l)) l ([]))
def conPut(w:gU)(m:List (Int×Bool))(q:List gU):List (Int×Bool)×List gU:=bif mgetD m w.to false then(m,q)else(mput m w.to true,q++[w])
def conFill(person:Int):List Interest->List (Int×List Interest)->List (Int×Bool)->List gU->List (Int×List Interest)×List (Int×Bool)×List gU
 |[],f,m,q=>(f,m,q)
 |x::l,f,m,q=>bif x.Of then conFill person l (mput f x.Person (mgetD f x.Person []++[x])) m q
  else bif x.Person==person then conFill person l f (conPut ⟨[x.No],x.Party⟩ m q).1 (conPut ⟨[x.No],x.Party⟩ m q).2 else conFill person l f m q
def conStep(path:List Int):List Interest->List (Int×Bool)->List gU->List (Int×Bool)×List gU
 |[],m,q=>(m,q)
 |x::l,m,q=>conStep path l (conPut ⟨path++[x.No],x.Party⟩ m q).1 (conPut ⟨path++[x.No],x.Party⟩ m q).2
def conLoop(parties:List Int)(f:List (Int×List Interest)):Nat->List (Int×Bool)->List gU->List Int×Bool
 |0,_,_=>([],false)
 |_+1,_,[]=>([],false)
 |n+1,m,w::q=>bif parties.contains w.to then(w.path,true)else bif(w.path.length:Int)==8 then conLoop parties f n m q
  else conLoop parties f n (conStep w.path (mgetD f w.to []) m q).1 (conStep w.path (mgetD f w.to []) m q).2
def conFind(l:List Interest)(person:Int)(parties:List Int)(st:List Interest):List Int×Bool:=
 conLoop parties (conFill person st [] [] []).1 (l.length+1) (conFill person st [] [] []).2.1 (conFill person st [] [] []).2.2
def eC(l:List Interest)(person:Int)(parties:List Int)(dt:Int)(known:Int):List Int×Bool×Int:=
 bif cK l person parties dt known != 0 then([],false,cK l person parties dt known)
 else((conFind l person parties (bQ l dt known)).1,(conFind l person parties (bQ l dt known)).2,0)
def ve(h:HF):List Value->List gU->Prop
 |[],[]=>True
 |v::vs,w::ws=>(∃r,v=.agg (gU.cells w r).toArray/\gU.ok h w r)/\ve h vs ws
 |_,_=>False
def V3(_:HF)(v:Value)(x:Option Addr×Nat×Nat):Prop:=v=.slice x.1 x.2.1 x.2.2
def FR(h:HF):List (Int×Option Addr×Nat×Nat)->List (Int×List Interest)->LH->Prop
 |[],[],G=>G=[]
 |(k,x)::m,(k',xs)::f,G=>k=k'/\x.2.1=xs.length/\∃G1 G2,G=G1++G2/\dC Interest.rp 97 h xs x.1 x.2.2 G1/\FR h m f G2
 |_,_,_=>False
def pL(st:List Interest)(m:List (Int×Bool))(q:List gU):Prop:=(∀p∈m,p.2=true/\p.1∈st.map (·.Party))/\q.length<=m.length/\∀w∈q,w.path.length<=8
def GK(st:List Interest)(f:List (Int×List Interest)):Prop:=∀k,∀x∈mgetD f k [],x∈st
def ia(c:bU)(person:Int):Bool:=(eC c.Register.Interests person c.doc.Parties c.at_ c.known).2.1
def cR.K1  : List Approval:=[]
def cR.L1(c:bU)(k:List Approval):List Approval->List Approval
 |[]=>(k)
 |y1::rz1=>(bif((((gf c.Register.Appoints y1.Office y1.For c.at_ c.known).2.2.1&&(aE c.Register.Deputies y1.For y1.By y1.Office c.doc.Kind c.doc.Value c.at_ c.known).2.1)&&(!(ia c y1.For)))&&(!(ia c y1.By)))then(y1::(cR.L1 c k rz1))else(cR.L1 c k rz1))
def cR(c:bU)(p:Policy):List Approval:=(bif(decide ((p.Kinds.length:Int)<=c.doc.Kind))then[]else((cR.L1 c (cR.K1)) ((cA c.Register.Approvals c.doc.No c.doc.At ((nthI p.Rules c.doc.Kind).Think) c.at_ c.known).1)))
def gS(c:bU)(p:Policy):List Approval:=(cR c p)
def da.K1(ct:List Int):List Int:=(slices_Compact_int (sortI ct))
def da.L1(k:List Int->List Int):List Approval->List Int->List Int
 |[],ct=>k ct
 |y1::rz1,ct=>(da.L1 k rz1 (ct++[y1.For]))
def da(c:bU)(p:Policy):List Int:=((da.L1 (da.K1)) (gS c p) ([]))
def aY.K1  : Int:=(-1)
def aY.L1(f:(Version->Bool))(k:Int):List Version->Nat->Int
 |[],i1=>(k)
 |y1::rz1,i1=>(bif(f y1)then(i1:Int)else(aY.L1 f k rz1 (i1+1)))
def aY(s:List Version)(f:(Version->Bool)):Int:=((aY.L1 f (aY.K1)) s 0)
def eB(v:Version)(v0:Int):Bool:=(v.No==v0)
def eN(c:bU)(no:Int):(Except Int Policy):=(bif(decide ((aY c.Register.Versions (λdl=>eB dl no))<0))then(Except.error 1)else(Except.ok ((nthI c.Register.Versions (aY c.Register.Versions (λdl=>eB dl no))).Policy)))
def iN(cH:Register)(doc:Int)(version:Int)(dt:Int)(known:Int):List Int×Int:=
 bif dX cH != 0 then([],dX cH)else match lP cH doc dt known with
  |.error e=>([],e)
  |.ok c=>match eN c version with
   |.error e=>([],e)
   |.ok p=>(da c p,0)
def gO(er:Int):Bool:=(decide (0<=er)&&decide (er<1099511627776))
def bL.K2  : (List (Int×Version)):=[]
def bL.L2(bD:List (Int×Version))(k:List (Int×Version)):List Int->(List (Int×Version))
 |[]=>(k)
 |y2::rz2=>((y2,(mgetD bD y2 (aA1 0 0 0 (kN (⟨#[]⟩:ByteArray) [] [] [] (xG 0 0 0 (⟨#[]⟩:ByteArray) []) 0))))::(bL.L2 bD k rz2))
def bL.K1(fI:Int)(bD:List (Int×Version)):(List (Int×Version)):=((bL.L2 bD (bL.K2)) (sortI (bD.map Prod.fst)))
def bL.L1(known:Int)(eV:Int)(k:Int->(List (Int×Version))->(List (Int×Version))):List Version->Int->(List (Int×Version))->(List (Int×Version))
 |[],fI,bD=>(k fI bD)
 |y1::rz1,fI,bD=>(bif(decide (known<y1.Known))then(bL.L1 known eV k rz1 fI bD)else(bif(decide (y1.At<=eV))then(bif(decide (y1.At<fI))then(bL.L1 known eV k rz1 fI bD)else(bL.L1 known eV k rz1 y1.At (mput bD eV y1)))else(bL.L1 known eV k rz1 fI (mput bD y1.At y1))))
def bL(l:List Version)(known:Int)(eV:Int):(List (Int×Version)):=((bL.L1 known eV (bL.K1)) l (-1) ([]))
def fF(l:List Version)(dT:Int)(known:Int):(List (Int×Version)):=(bL l known dT)
def iW(l:List Version)(old:Bool):List Version:=l
def iy(l:List Version)(old:Bool):List Version:=(bif(!old)then[]else(l.take ((1:Int)).toNat))
def iV(l:List Version)(old:Bool):List Version:=(l.drop ((((l.length:Int)-1):Int)).toNat)
def lu  : (List (Int×Value)):=(mput (mput (mput (mput ([]) 1 (Value.func (.func 171) #[] #[])) 2 (Value.func (.func 172) #[] #[])) 3 (Value.func (.func 170) #[] #[])) 4 (Value.func (.func 170) #[] #[]))
def judgesP(mode:Int)(l:List Version)(old:Bool):List Version:=bif mode==1 then iy l old else bif mode==2 then iV l old else iW l old
def ba.K2(ct:List Version)(lB:List Int):(List Int×Int×Int):=((sortI lB),(nthI ct ((ct.length:Int)-1)).Policy.Mode,0)
def ba.L2(k:List Int->(List Int×Int×Int)):List Version->List Int->(List Int×Int×Int)
 |[],lB=>(k lB)
 |y2::rz2,lB=>(ba.L2  k rz2 (lB++[y2.No]))
def ba.K1(eR:Bool)(ct:List Version):(List Int×Int×Int):=(bif((ct.length:Int)==0)then([],0,0)else((ba.L2 (ba.K2 ct)) (judgesP ((nthI ct ((ct.length:Int)-1)).Policy.Mode) ct eR) ([])))
def ba.L1(begun:Int)(aH:Int)(k:Bool->List Version->(List Int×Int×Int)):List (Int×Version)->Bool->List Version->(List Int×Int×Int)
 |[],eR,ct=>k eR ct
 |y1::rz1,eR,ct=>(bif(decide (aH<y1.1))then(k eR ct)else(ba.L1 begun aH k rz1 (eR||(y1.1==begun)) (ct++[y1.2])))
def ba(l:List Version)(begun:Int)(aH:Int)(known:Int):(List Int×Int×Int):=(bif((bw l) != 0)then([],0,(bw l))else(bif((((!(gO begun))||(!(gO aH)))||(!(gO known)))||decide (aH<begun))then([],0,1)else((ba.L1 begun aH (ba.K1)) (fF l begun known) false ([]))))
def kb(mode:Int)(permits:List Bool):Int:=(bif(!(mhas lu mode))then 270 else(bif(decide (256<(permits.length:Int)))then 1 else 0))
def fq.K1  : Int:=(-1)
def fq.L1(f:(Bool->Bool))(k:Int):List Bool->Nat->Int
 |[],i1=>(k)
 |y1::rz1,i1=>(bif(f y1)then(i1:Int)else(fq.L1 f k rz1 (i1+1)))
def fq(s:List Bool)(f:(Bool->Bool)):Int:=((fq.L1 f (fq.K1)) s 0)
def cY(l:List Bool)(ok:(Bool->Bool)):Int:=(fq l ok)
def eP(D3:Bool):Bool:=D3
def fU(D3:Bool):Bool:=(!D3)
def bH.K1(permits:List Bool)(Hl:List Int):(List Int×Bool×Int):=(Hl,decide (0<=(cY permits eP)),0)
def bH.L1(k:List Int->(List Int×Bool×Int)):List Bool->Nat->List Int->(List Int×Bool×Int)
 |[],i1,Hl=>(k Hl)
 |y1::rz1,i1,Hl=>(bH.L1  k rz1 (i1+1) (Hl++[(i1:Int)]))
def bH.K2(permits:List Bool)(Hk:List Int):(List Int×Bool×Int):=(Hk,(((permits.length:Int)==1)&&(nthI permits 0)),0)
def bH.L2(k:List Int->(List Int×Bool×Int)):List Bool->Nat->List Int->(List Int×Bool×Int)
 |[],i2,Hk=>(k Hk)
 |y2::rz2,i2,Hk=>(bH.L2  k rz2 (i2+1) (Hk++[(i2:Int)]))
def bH.K3(Hj:List Int):(List Int×Bool×Int):=(Hj,false,0)
def bH.L3(k:List Int->(List Int×Bool×Int)):List Bool->Nat->List Int->(List Int×Bool×Int)
 |[],i3,Hj=>(k Hj)
 |y3::rz3,i3,Hj=>(bH.L3  k rz3 (i3+1) (Hj++[(i3:Int)]))
def bH(mode:Int)(permits:List Bool):(List Int×Bool×Int):=(bif((kb mode permits) != 0)then([],false,(kb mode permits))else(bif((mode==4)&&decide (0<=(cY permits eP)))then([(cY permits eP)],true,0)else(bif((mode==3)&&decide (0<=(cY permits fU)))then([(cY permits fU)],false,0)else(bif(mode==3)then((bH.L1 (bH.K1 permits)) permits 0 ([]))else(bif(mode != 4)then((bH.L2 (bH.K2 permits)) permits 0 ([]))else((bH.L3 (bH.K3)) permits 0 ([])))))))
def jw(mode:Int)(permits:List Bool):(Bool×Int):=((bH mode permits).2.1,(bH mode permits).2.2)
def ed.K1(bD:List (Int×Bool)):Bool:=true
def ed.L1(k:(List (Int×Bool))->Bool):List Use->(List (Int×Bool))->Bool
 |[],bD=>(k bD)
 |y1::rz1,bD=>(bif(((((mgetD bD y1.Doc false)||(!(aO 0 4095 ([y1.Doc]))))||(!(aO 0 15 ([y1.Kind]))))||(!(aO 0 1099511627776 ([y1.Value]))))||(!(aO 0 1099511627775 ([y1.At,y1.Known]))))then false else(ed.L1  k rz1 (mput bD y1.Doc true)))
def ed(u:List Use):Bool:=((ed.L1 (ed.K1)) u ([]))
def aW.K2(lB:List Budget):List Budget:=lB
def aW.L2(bD:List (fN×Budget))(k:List Budget->List Budget):List Budget->List Budget->List Budget
 |[],lB=>(k lB)
 |y2::rz2,lB=>(bif((!y2.Gone)&&(decide ((mgetD bD (fN.mk y2.Kind y2.Period) (aAz 0 0 0 0 0 0 0 false))=y2)))then(aW.L2 bD k rz2 (lB++[y2]))else(aW.L2 bD k rz2 lB))
def aW.K1(l:List Budget)(bD:List (fN×Budget)):List Budget:=((aW.L2 bD (aW.K2)) l ([]))
def aW.L1(kind:Int)(aH:Int)(known:Int)(k:(List (fN×Budget))->List Budget):List Budget->(List (fN×Budget))->List Budget
 |[],bD=>(k bD)
 |y1::rz1,bD=>(bif((decide (aH<y1.At)||decide (known<y1.Known))||((y1.Kind != (-1))&&(y1.Kind != kind)))then(aW.L1 kind aH known k rz1 bD)else(bif((!(mhas bD (fN.mk y1.Kind y1.Period)))||decide ((mgetD bD (fN.mk y1.Kind y1.Period) (aAz 0 0 0 0 0 0 0 false)).At<=y1.At))then(aW.L1 kind aH known k rz1 (mput bD (fN.mk y1.Kind y1.Period) y1))else(aW.L1 kind aH known k rz1 bD)))
def aW(l:List Budget)(kind:Int)(aH:Int)(known:Int):List Budget:=((aW.L1 kind aH known (aW.K1 l)) l ([]))
def bS.K1  : List Int:=[]
def bS.L1(known:Int)(bg:Budget)(at_:Int)(k:List Int):List Use->List Int
 |[]=>(k)
 |y1::rz1=>(bif((decide (y1.Known<=known)&&((bg.Kind==(-1))||(bg.Kind==y1.Kind)))&&((vC .i64 (y1.At.tdiv bg.Period))==(vC .i64 (at_.tdiv bg.Period))))then(y1.Value::(bS.L1 known bg at_ k rz1))else(bS.L1 known bg at_ k rz1))
def bS(u:List Use)(known:Int)(bg:Budget)(at_:Int):List Int:=((bS.L1 known bg at_ (bS.K1)) u)
def ml(D3:Budget)(u:List Use)(aH:Int)(known:Int):List Int:=(bS u known D3 aH)
def bp.L2(k:Int->Int->(Int×Bool×Int)):List Int->Int->Int->(Int×Bool×Int)
 |[],I5,I6=>k I5 I6
 |y2::rz2,I5,I6=>(bp.L2 k rz2 (vC .i64 (I5+y2)) (vC .i64 (I6+1)))
def bp.L3(k:Int->Int->(Int×Bool×Int)):List Int->Int->Int->(Int×Bool×Int)
 |[],qs,I4=>k qs I4
 |y3::rz3,qs,I4=>(bp.L3 k rz3 (vC .i64 (qs+y3)) (vC .i64 (I4+1)))
def bp.K1  : (Int×Bool×Int):=((-1),true,0)
def bp.L1(u:List Use)(value:Int)(cX:Int)(known:Int)(k:(Int×Bool×Int)):List Budget->(Int×Bool×Int)
 |[]=>(k)
 |y1::rz1=>((bp.L3 (λzg3_b6_0 zg3_b5_0=>(bif(decide (y1.Count<zg3_b5_0)||decide (y1.Value<zg3_b6_0))then(y1.No,false,0)else(bp.L1 u value cX known k rz1)))) (ml y1 u cX known) value 1)
def bp(l:List Budget)(u:List Use)(kind:Int)(value:Int)(cX:Int)(known:Int):(Int×Bool×Int):=(bif((bT l) != 0)then(0,false,(bT l))else(bif(decide (4096<(u.length:Int)))then(0,false,2)else(bif(!(ed u))then(0,false,180)else(bif(((!(aO 0 15 ([kind])))||(!(aO 0 1099511627776 ([value]))))||(!(aO 0 1099511627775 ([cX,known]))))then(0,false,1)else((bp.L1 u value cX known (bp.K1)) (aW l kind cX known))))))
def hO(t:Int):Bool:=((t != (-1))&&(!(fS t)))
def bM(l:List Document)(signed:List Int):Bool:=(((signed.length:Int)==(l.length:Int))&&(!(cB signed hO)))
def gm.K1(iQ:Int):Int:=iQ
def gm.L1(k:Int->Int):List Int->Int->Int
 |[],iQ=>(k iQ)
 |y1::rz1,iQ=>(gm.L1  k rz1 (min iQ y1))
def gm(x:List Int):Int:=((gm.L1 (gm.K1)) (x.drop 1) (nthI x 0))
def cg(p:eS)(n0:Int)(aH:Int):(Int×Int):=(bif(!(nthI p.done n0))then(1,(-1))else(bif(decide (0<=(nthI p.lacks n0)))then(4,(nthI p.lacks n0))else(bif(decide (0<(((mgetD p.revoked ((nthI p.shelf.docs n0).No) []).length:Nat):Int)))then(5,(gm (mgetD p.revoked ((nthI p.shelf.docs n0).No) [])))else(bif(decide (aH<(nthI p.shelf.docs n0).From))then(2,(-1))else(bif(decide ((nthI p.shelf.docs n0).Until<=aH))then(3,(-1))else(0,(-1)))))))
def insIn(cmp:Int->Int->Int):Nat->List Int->List Int
 |0,xs=>xs
 |j+1,xs=>bif decide (cmp (xs.getD (j+1) 0) (xs.getD j 0)<0)then insIn cmp j ((xs.set (j+1) (xs.getD j 0)).set j (xs.getD (j+1) 0))else xs
def insOut(cmp:Int->Int->Int):Nat->Nat->List Int->List Int
 |0,_,xs=>xs
 |m+1,i,xs=>insOut cmp m (i+1) (insIn cmp i xs)
def dF(xs:List Int)(cmp:Int->Int->Int):List Int:=insOut cmp (xs.length-1) 1 xs
def cmp_Compare_int(x:Int)(y:Int):Int:=(bif(cmp_isNaN_int x)then(bif(cmp_isNaN_int y)then 0 else(-1))else(bif(cmp_isNaN_int y)then 1 else(bif(decide (x<y))then(-1)else(bif(decide (y<x))then 1 else 0))))
def iL(a:Int)(jh:Int)(p:pN):Int:=(cmp_Compare_int (nthI p.signed a) (nthI p.signed jh))
def cN.K1  : List Int:=[]
def cN.L1(k:List Int):List Int->List Int
 |[]=>(k)
 |y1::rz1=>(y1::(cN.L1  k rz1))
def cN(v0:List Int):List Int:=((cN.L1 (cN.K1)) v0)
def jo(s:List Int):List Int:=(cN s)
def aM.K1(p:pN)(fa:List Int):List Int:=(jo (dF fa (λdl ED=>iL dl ED p)))
def aM.L1(iw:Int)(k:List Int->List Int):List Int->Nat->List Int->List Int
 |[],i1,fa=>(k fa)
 |y1::rz1,i1,fa=>(bif(decide (0<=y1)&&decide (y1<=iw))then(aM.L1 iw k rz1 (i1+1) (fa++[(i1:Int)]))else(aM.L1 iw k rz1 (i1+1) fa))
def aM(p:pN)(iw:Int):List Int:=((aM.L1 iw (aM.K1 p)) p.signed 0 ([]))
def backL(s:List Int):Nat->List (Int×Int)
 |0=>[]
 |m+1=>((m:Int),nthI s (m:Int))::backL s m
def iT(v0:List Int):List (Int×Int):=backL v0 v0.length
def jj(s:List Int):(List (Int×Int)):=(iT s)
def V3i(_:HF)(v:Value)(x:Option Addr×Nat×Nat):Prop:=v=.slice x.1 x.2.1 x.2.2
def FRi(h:HF):List (Int×Option Addr×Nat×Nat)->List (Int×List Int)->LH->Prop
 |[],[],G=>G=[]
 |(k,x)::m,(k',xs)::f,G=>k=k'/\x.2.1=xs.length/\∃G1 G2,G=G1++G2/\dC Rp.int 3 h xs x.1 x.2.2 G1/\FRi h m f G2
 |_,_,_=>False
def playP(l:List Document)(sg:List Int):eS:=⟨aA l,sg,List.replicate l.length false,List.replicate l.length 0,[]⟩
def playR(n:Nat)(sq:n8)(sb:Option Addr)(sc:Nat)(b5 b8 b9:Nat):tr:=⟨sq,sb,sc,some ⟨b5,0,none⟩,n,some ⟨b8,0,none⟩,n,b9⟩
def plL(b c d f t:Bool)(B5 B8 B9 B12 B11:Nat×Obj):LH:=
 (bif t then[B11]else[])++((bif f then[B12]else[])++((bif d then[B9]else[])++((bif c then[B8]else[])++(bif b then[B5]else[]))))
def plD(a b c d f g t:Bool):List Nat:=
 (bif t then[11]else[])++((bif g then[10]else[])++((bif f then[12]else[])++((bif d then[9]else[])++((bif c then[8]else[])++((bif b then[5]else[])++((bif a then[1]else[])++[7,6,4,3,2,0]))))))
def plM(a b c d f g t:Bool):Nat:=(bif a then 0 else 1)+(bif b then 0 else 1)+(bif c then 0 else 1)+(bif d then 0 else 1)+(bif f then 0 else 1)+(bif g then 0 else 1)+(bif t then 0 else 1)
def PlI(h:HF)(l:List Document)(lb:Option Addr)(lc:Nat)(sg:List Int)(sb:Option Addr)(sc:Nat)(at_:Int)(q4:Addr)(a b c d f g t:Bool)(e:Env)(h':HF)(L:LH):Prop:=
 ((!g||(a&&b&&c&&d))&&(!t||g))=true/\h.le h'/\(e 2=.int .i64 at_/\e 4=.pointer (some q4)/\e 16=.slice lb l.length lc/\e 18=.slice sb sg.length sc/\e 20=.int .i64 (l.length:Int)/\e 23=.int .i64 (l.length:Int)) /\
 ∃(sq:n8)(b5 b8 b9 b12 b11:Nat),(a=true->e 17=.agg (hY.cells (aA l) sq).toArray/\hY.ok h' (aA l) sq)/\(b=true->e 21=.slice (some ⟨b5,0,none⟩) l.length l.length) /\
  (c=true->e 24=.slice (some ⟨b8,0,none⟩) l.length l.length)/\(d=true->e 25=.map (some b9))/\(f=true->e 7=.pointer (some ⟨b12,0,none⟩))/\(g=true->e 26=.agg (eS.cells (playP l sg) (playR l.length sq sb sc b5 b8 b9)).toArray)/\(t=true->e 27=.pointer (some ⟨b11,0,none⟩)) /\
  L.Perm (plL b c d f t (b5,.cells (List.replicate l.length (.bool false)).toArray 4 (0,0)) (b8,.cells (List.replicate l.length (.int .i64 0)).toArray 3 (0,0)) (b9,.map #[] 0) (b12,.cells (jB [.pointer none]) 211 (0,0)) (b11,.cells (eS.cells (playP l sg) (playR l.length sq sb sc b5 b8 b9)).toArray 238 (0,0)))
def plN(a b c d f g t:Bool):List Nat:=
 (bif a then[]else[1])++((bif b then[]else[5])++((bif c then[]else[8])++((bif d then[]else[9])++((bif a&&b&&c&&d&&!g then[10]else[])++((bif g&&!t then[11]else[])++((bif f then[]else[12])++(bif a&&b&&c&&d&&f&&g&&t then[13]else[])))))))
def playLack(sg:List Int)(i:Int)(p:eS)(no:Int):eS:=bif(cg p (mgetD p.shelf.at_ no 0) (nthI sg i)).1 != 0 then { p with lacks:=p.lacks.set i.toNat no }else p
def playRevoke(d:Document)(p:eS)(no:Int):eS:={ p with revoked:=mput p.revoked no (mgetD p.revoked no []++[d.No]) }
def playMid(p:eS)(i:Int):eS:=(jj (nthI p.shelf.docs i).Needs).foldl (λq x=>playLack p.signed i q x.2) { p with lacks:=p.lacks.set i.toNat (-1) }
def playDone(p:eS)(i:Int):eS:={ p with done:=p.done.set i.toNat true }
def playStep(p:eS)(i:Int):eS:=
 bif decide (nthI (playMid p i).lacks i<0)then(nthI p.shelf.docs i).Revokes.foldl (playRevoke (nthI p.shelf.docs i)) (playDone (playMid p i) i)else playDone (playMid p i) i
def cf(l:List Document)(signed:List Int)(at_:Int):eS:=(aM (playP l signed) at_).foldl playStep (playP l signed)
def plB(b5 b8 br:Nat)(P:eS)(om:Obj)(Gf:LH):LH:=
 [(b5,.cells (P.done.map Value.bool).toArray 4 (0,0)),(b8,.cells (P.lacks.map (Value.int .i64)).toArray 3 (0,0)),(br,om)]++Gf
def bz.K1(fI:List Int):(List Int×Int):=(fI,0)
def bz.L1(l:List Document)(signed:List Int)(aH:Int)(k:List Int->(List Int×Int)):List Document->Nat->List Int->(List Int×Int)
 |[],i1,fI=>(k fI)
 |y1::rz1,i1,fI=>(bif((cg (cf l signed aH) (i1:Int) aH).1==0)then(bz.L1 l signed aH k rz1 (i1+1) (fI++[y1.No]))else(bz.L1 l signed aH k rz1 (i1+1) fI))
def bz(l:List Document)(signed:List Int)(aH:Int):(List Int×Int):=(bif((aV l) != 0)then([],(aV l))else(bif((!(bM l signed))||(!(fS aH)))then([],1)else((bz.L1 l signed aH (bz.K1)) l 0 ([]))))
def bx(d:Document)(v0:bU):Bool:=(d.No==v0.doc.No)
def iP(s:List Document)(f:(Document->Bool)):Bool:=decide (0<=(ad s f))
def e9(l:List Document)(signed:List Int)(no:Int)(dt:Int):(Int×Int×Int):=(bif((aV l) != 0)then(0,0,(aV l))else(bif((!(bM l signed))||(!(fS dt)))then(0,0,1)else(bif(!(mhas ((cf l signed dt).shelf.at_) no))then(0,0,1)else((cg (cf l signed dt) (mgetD ((cf l signed dt).shelf.at_) no 0) dt).1,(cg (cf l signed dt) (mgetD ((cf l signed dt).shelf.at_) no 0) dt).2,0))))
def gQ.K1  : Int:=(-1)
def gQ.L1(v:Int)(k:Int):List Int->Nat->Int
 |[],i1=>(k)
 |y1::rz1,i1=>(bif(v==y1)then(i1:Int)else(gQ.L1 v k rz1 (i1+1)))
def gQ(s:List Int)(v:Int):Int:=((gQ.L1 v (gQ.K1)) s 0)
def ji(s:List Int)(v:Int):Bool:=decide (0<=(gQ s v))
def gI(d:Document)(c:bU)(signed:List Int):Bool:=(bif(!(ji d.Revokes c.doc.No))then false else(((e9 c.Register.Docs signed d.No c.at_).1 != 1)&&((e9 c.Register.Docs signed d.No c.at_).1 != 4)))
def ey(c:bU)(signed:List Int):Bool:=(iP c.Register.Docs (λdl=>gI dl c signed))
def ff(c:bU)(signed:List Int):Bool:=(((decide (c.at_<c.doc.At)||decide (c.doc.Until<=c.at_))||(decide (0<=(nthI signed (ad c.Register.Docs (λdl=>bx dl c))))&&decide ((nthI signed (ad c.Register.Docs (λdl=>bx dl c)))<=c.at_)))||(ey c signed))
def uB(c:bU)(signed:List Int):Bool:=(ff c signed)
def jk(er:Int)(v0:List Int):Bool:=(!(ji v0 er))
def gD(c:bU)(signed:List Int):Bool:=(cB c.doc.Needs (λdl=>jk dl ((bz c.Register.Docs signed c.at_).1)))
def uA(c:bU)(signed:List Int):Bool:=(gD c signed)
def cu.K1(bD:List Holder):List Holder:=bD
def cu.L1(k:List Holder->List Holder):List Holder->List Holder->List Holder
 |[],bD=>k bD
 |y1::rz1,bD=>(cu.L1 k rz1 (bD++[y1]))
def cu(seq:List Holder):List Holder:=((cu.L1 (cu.K1)) seq ([]))
def gd(seq:List Holder):List Holder:=(cu seq)
def co.K1  : List Holder:=[]
def co.L1(m:List (OSeat×Appoint))(office:Int)(k:List Holder):List OSeat->List Holder
 |[]=>(k)
 |y1::rz1=>(bif((y1.office==office)&&(!((mgetD m y1 (jC 0 0 0 0 0 0 false)).Gone)))then((aCF ((mgetD m y1 (jC 0 0 0 0 0 0 false)).Person) ((mgetD m y1 (jC 0 0 0 0 0 0 false)).Weight))::(co.L1 m office k rz1))else(co.L1 m office k rz1))
def co(m:List (OSeat×Appoint))(office:Int):List Holder:=((co.L1 m office (co.K1)) (seatS (m.map Prod.fst)))
def ja(m:List (OSeat×Appoint))(office:Int):List Holder:=(co m office)
def ep(l:List Appoint)(office:Int)(aH:Int)(known:Int):(List Holder×Int):=(bif((cw l) != 0)then([],(cw l))else(bif(((!(fj office))||(!(dz aH)))||(!(dz known)))then([],1)else((gd (ja (cW l aH known) office)),0)))
def e8.K1(iQ:Int):Bool:=true
def e8.L1(k:Int->Bool):List Int->Int->Bool
 |[],iQ=>(k iQ)
 |y1::rz1,iQ=>(bif(decide (y1<=iQ)||decide (64<=y1))then false else(e8.L1  k rz1 y1))
def e8(who:List Int):Bool:=((e8.L1 (e8.K1)) who (-1))
def eJ.L2(k:List Int->Bool):List Holder->List Int->Bool
 |[],Rz=>(k Rz)
 |y2::rz2,Rz=>(bif(decide (y2.Weight<1)||decide (64<y2.Weight))then false else(eJ.L2  k rz2 (Rz++[y2.Person])))
def eJ.L3(k:List Int->Bool):List Holder->List Int->Bool
 |[],NR=>(k NR)
 |y3::rz3,NR=>(bif(decide (y3.Weight<1)||decide (64<y3.Weight))then false else(eJ.L3  k rz3 (NR++[y3.Person])))
def eJ.K1(holders:List (List Holder))(offices:Int):Bool:=((holders.length:Int)==offices)
def eJ.L1(k:Bool):List (List Holder)->Bool
 |[]=>(k)
 |y1::rz1=>((eJ.L3 (λzg3_7=>(bif(!(e8 zg3_7))then false else(eJ.L1  k rz1)))) y1 ([]))
def eJ(holders:List (List Holder))(offices:Int):Bool:=((eJ.L1 (eJ.K1 holders offices)) holders)
def cC.K1  : List Holder:=[]
def cC.L1(q:aZ)(k:List Holder):List Holder->List Holder
 |[]=>(k)
 |y1::rz1=>(bif((slices_BinarySearch_int q.who y1.Person).2)then(y1::(cC.L1 q k rz1))else(cC.L1 q k rz1))
def cC(q:aZ)(office:Int):List Holder:=((cC.L1 q (cC.K1)) (nthI q.holders office))
def gZ(q:aZ)(office:Int):List Holder:=(cC q office)
def ek.K1(ct:Bool):Bool:=false
def ek.L1(k:Bool->Bool):List Holder->Bool->Bool
 |[],ct=>k ct
 |y1::rz1,ct=>true
def ek(q:aZ)(x:Expr):Bool:=((ek.L1 (ek.K1)) (gZ q x.No) false)
def dV.K1(x:Expr)(ct:Int):Bool:=decide (x.N<=ct)
def dV.L1(k:Int->Bool):List Holder->Int->Bool
 |[],ct=>k ct
 |y1::rz1,ct=>(dV.L1 k rz1 (vC .i64 (ct+y1.Weight)))
def dV(q:aZ)(x:Expr):Bool:=((dV.L1 (dV.K1 x)) (gZ q x.No) 0)
def fG.K1(x:Expr)(fa:Int):Bool:=decide (x.N<=fa)
def fG.L1(rec:aZ->Expr->Bool)(q:aZ)(k:Int->Bool):List Expr->Int->Bool
 |[],fa=>(k fa)
 |y1::rz1,fa=>(bif(rec q y1)then(fG.L1 rec q k rz1 (vC .i64 (fa+1)))else(fG.L1 rec q k rz1 fa))
def fG.F(rec:aZ->Expr->Bool)(q:aZ)(x:Expr):Bool:=((fG.L1 rec q (fG.K1 x)) x.L 0)
def kU.F(rec:aZ->Expr->Bool)(q:aZ)(x:Expr):Bool:=(bif(decide (q.value<=x.N))then(rec q (nthI x.L 0))else(rec q (nthI x.L 1)))
def fulQ(rec:aZ->Expr->Bool)(q:aZ)(x:Expr):Bool:=if x.Kind=1 then ek q x else if x.Kind=2 then dV q x else if x.Kind=3 then fG.F rec q x else kU.F rec q x
def dW.F(rec:aZ->Expr->Bool)(q:aZ)(x:Expr):Bool:=(fulQ rec q x)
def dW.go:Nat->aZ->Expr->Bool
 |0=>λ_ _=>default
 |m+1=>dW.F (dW.go m)
def dW(q:aZ)(x:Expr):Bool:=dW.go x.dep q x
def gC(p:Policy)(kind:Int)(value:Int)(holders:List (List Holder))(who:List Int):(Bool×Int):=(bif((dk p) != 0)then(false,(dk p))else(bif(((decide (kind<0)||decide ((p.Kinds.length:Int)<=kind))||decide (value<0))||decide (1099511627776<value))then(false,1)else(bif(!(eJ holders (p.Offices.length:Int)))then(false,210)else(bif(!(e8 who))then(false,1)else((dW (aZ.mk value holders who) ((nthI p.Rules kind).Expr)),0)))))
def dG.K1(c:bU)(p:Policy)(who:List Int)(Ej:List (List Holder)):Bool:=((gC p c.doc.Kind c.doc.Value Ej who).1&&((gC p c.doc.Kind c.doc.Value Ej who).2==0))
def dG.L1(c:bU)(k:(List (List Holder))->Bool):List ByteArray->Nat->(List (List Holder))->Bool
 |[],i1,Ej=>(k Ej)
 |y1::rz1,i1,Ej=>(dG.L1 c k rz1 (i1+1) (Ej++[(ep c.Register.Appoints (i1:Int) c.at_ c.known).1]))
def dG(c:bU)(p:Policy)(who:List Int):Bool:=((dG.L1 c (dG.K1 c p who)) p.Offices 0 ([]))
def askJ(c:bU):List Int×Int×Int:=ba c.Register.Versions c.doc.At c.at_ c.known
def askP(c:bU)(no:Int):Policy:=exD (eN c no)
def askWho(c:bU)(no:Int):List Int:=da c (askP c no)
def askAns(c:bU)(no:Int):Bool:=dG c (askP c no) (askWho c no)
def askAll(c:bU):List Int:=slices_Compact_int (sortI ((askJ c).1.flatMap (askWho c)))
def gk(c:bU):Bool:=bif(askJ c).2.1==0 then false else(jw (askJ c).2.1 ((askJ c).1.map (askAns c))).1
abbrev verO(s0 b0:Int)(vb:Option Addr)(vn vc:Nat)(wb:Option Addr)(wn wc:Nat):Obj:=.cells (jB [.int .i64 s0,.int .i64 b0,.slice vb vn vc,.slice wb wn wc]) 36 (0,0)
def judgeRoom(c:bU)(r:Register)(u:List Use)(at_ known:Int):Int×Bool×Int:=bp r.Budgets u c.doc.Kind c.doc.Value at_ known
def judgeC(c:bU)(r:Register)(signed:List Int)(u:List Use)(at_ known:Int):fJ:=
 bif ff c signed then⟨1,-1,[],[]⟩else bif gD c signed then⟨2,-1,[],[]⟩else bif !(gk c)then⟨3,-1,(askJ c).1,askAll c⟩else
 bif !(judgeRoom c r u at_ known).2.1 then⟨4,(judgeRoom c r u at_ known).1,(askJ c).1,askAll c⟩else⟨0,-1,(askJ c).1,askAll c⟩
def cU(cH:Register)(signed:List Int)(u:List Use)(doc:Int)(cX:Int)(known:Int):fJ×Int:=
 bif dX cH != 0 then(⟨0,0,[],[]⟩,dX cH)else
 bif(bz cH.Docs signed 0).2 != 0 then(⟨0,0,[],[]⟩,(bz cH.Docs signed 0).2)else
 bif(bp cH.Budgets u 0 0 0 0).2.2 != 0 then(⟨0,0,[],[]⟩,(bp cH.Budgets u 0 0 0 0).2.2)else
 match lP cH doc cX known with
  |.error e=>(⟨0,0,[],[]⟩,e)
  |.ok c=>(judgeC c cH signed u cX known,0)
def fg.K1  : Bool:=true
def fg.L1(jh:List Int)(k:Bool):List Int->Nat->Bool
 |[],i1=>(k)
 |y1::rz1,i1=>(bif(y1 != (nthI jh (i1:Int)))then false else(fg.L1 jh k rz1 (i1+1)))
def fg(a:List Int)(jh:List Int):Bool:=(bif((a.length:Int) != (jh.length:Int))then false else((fg.L1 jh (fg.K1)) a 0))
def cG  : Policy:=(kN (⟨#[98,111,97,114,100]⟩:ByteArray) ([(⟨#[99,111,110,116,114,97,99,116]⟩:ByteArray)]) ([(⟨#[100,105,114,101,99,116,111,114]⟩:ByteArray)]) ([(aBi (⟨#[99,111,110,116,114,97,99,116]⟩:ByteArray) 0 3 (xG 1 0 0 (⟨#[100,105,114,101,99,116,111,114]⟩:ByteArray) ([])))]) (xG 1 0 0 (⟨#[100,105,114,101,99,116,111,114]⟩:ByteArray) ([])) 2)
def aw  : Register:=(jG ([(jC 0 0 0 0 2 1 false)]) ([(aBe 0 0 0 40 2 5 0 (-1) 100 false)]) ([]) ([]) ([(aA1 1 0 0 cG)]) ([(Document.mk 7 1 0 60 0 50 ([9]) ([]) ([]) (λ_=>0))]) ([(xW 3 4 6 7 5 2 0 false)]))
def FM(cH:Register)(iw:Int)(state:Int):Bool:=(((cU cH ([(-1)]) ([]) 7 iw 100).2==0)&&(((cU cH ([(-1)]) ([]) 7 iw 100).1).State==state))
def sR  : Bool:=true
def gl.K1(fa:Int):Int:=fa
def gl.L1(rec:Expr->Int->Int)(limit:Int)(k:Int->Int):List Expr->Int->Int
 |[],fa=>(k fa)
 |y1::rz1,fa=>(bif(decide (fa<=limit))then(gl.L1 rec limit k rz1 (vC .i64 (fa+(rec y1 (vC .i64 (limit-fa))))))else(k fa))
def gl.F(rec:Expr->Int->Int)(x:Expr)(limit:Int):Int:=((gl.L1 rec limit (gl.K1)) x.L 1)
def gl.go:Nat->Expr->Int->Int
 |0=>λ_ _=>default
 |m+1=>gl.F (gl.go m)
def gl(x:Expr)(limit:Int):Int:=gl.go x.dep x limit
def dU.L2(k:Bool):List Rule->Bool
 |[]=>(k)
 |y2::rz2=>(bif(decide (40<(gl y2.Expr 40)))then false else(dU.L2  k rz2))
def dU.L3(k:Bool):List Rule->Bool
 |[]=>(k)
 |y3::rz3=>(bif(decide (40<(gl y3.Expr 40)))then false else(dU.L3  k rz3))
def dU.K1  : Bool:=true
def dU.L1(k:Bool):List Version->Bool
 |[]=>(k)
 |y1::rz1=>(bif(((decide (20<(y1.Policy.Kinds.length:Int))||decide (40<(y1.Policy.Offices.length:Int)))||decide (20<(y1.Policy.Rules.length:Int)))||decide (40<(gl y1.Policy.Change 40)))then false else((dU.L3 ((dU.L1  k rz1))) y1.Policy.Rules))
def dU(l:List Version):Bool:=(bif(decide (5<(l.length:Int)))then false else((dU.L1 (dU.K1)) l))
def lJ.K1  : Bool:=true
def lJ.L1(k:Bool):List Document->Bool
 |[]=>(k)
 |y1::rz1=>(bif((decide (20<(y1.Parties.length:Int))||decide (20<(y1.Revokes.length:Int)))||decide (20<(y1.Needs.length:Int)))then false else(lJ.L1  k rz1))
def lJ(cH:Register):Bool:=(bif((((((decide (30<(cH.Appoints.length:Int))||decide (12<(cH.Deputies.length:Int)))||decide (12<(cH.Interests.length:Int)))||decide (12<(cH.Budgets.length:Int)))||decide (8<(cH.Docs.length:Int)))||decide (24<(cH.Approvals.length:Int)))||(!(dU cH.Versions)))then false else((lJ.L1 (lJ.K1)) cH.Docs))
def iK.K1  : Int:=(-1)
def iK.L1(no:Int)(k:Int):List Document->Nat->Int
 |[],i1=>(k)
 |y1::rz1,i1=>(bif(y1.No==no)then(i1:Int)else(iK.L1 no k rz1 (i1+1)))
def iK(cH:Register)(no:Int):Int:=((iK.L1 no (iK.K1)) cH.Docs 0)
def nD(er:Int):Bool:=(decide (0<=er)&&decide (er<1099511627776))
def nW(er:Int):Bool:=(decide (0<=er)&&decide (er<32))
def nV(er:Int):Bool:=(decide (0<=er)&&decide (er<64))
def j4(x:Appoint):Bool:=(bif(((((decide (x.No<0)||decide (1048576<x.No))||(!(nD x.At)))||(!(nD x.Known)))||(!(nW x.Office)))||(!(nV x.Person)))then false else(bif x.Gone then(x.Weight==0)else(decide (1<=x.Weight)&&decide (x.Weight<=64))))
def iH.K1  : Int:=0
def iH.L1(l:List Appoint)(k:Int):List Appoint->Nat->Int
 |[],i1=>(k)
 |y1::rz1,i1=>(bif((!(j4 y1))||(decide (0<(i1:Int))&&decide (y1.No<=(nthI l ((i1:Int)-1)).No)))then 150 else(iH.L1 l k rz1 (i1+1)))
def iH(l:List Appoint):Int:=(bif(decide (4096<(l.length:Int)))then 2 else((iH.L1 l (iH.K1)) l 0))
def ik(er:Int)(low:Int)(high:Int):Bool:=(decide (low<=er)&&decide (er<=high))
def nC(er:Int):Bool:=(ik er 0 1099511627775)
def mf(er:Int):Bool:=(ik er 0 63)
def j3(x:Deputy):Bool:=(bif((((((!(ik x.No 0 1048576))||(!(nC x.At)))||(!(nC x.Known)))||(!(mf x.From)))||(!(mf x.To)))||(x.From==x.To))then false else(bif((!(ik x.Office 0 31))||(!(ik x.Kind (-1) 15)))then false else(bif x.Gone then((x.Until==0)&&(x.Most==0))else((decide (x.At<x.Until)&&decide (x.Until<=1099511627776))&&(ik x.Most 0 1099511627776)))))
def ij.K1  : Int:=0
def ij.L1(l:List Deputy)(k:Int):List Deputy->Nat->Int
 |[],i1=>(k)
 |y1::rz1,i1=>(bif((!(j3 y1))||(decide (0<(i1:Int))&&decide (y1.No<=(nthI l ((i1:Int)-1)).No)))then 160 else(ij.L1 l k rz1 (i1+1)))
def ij(l:List Deputy):Int:=(bif(decide (4096<(l.length:Int)))then 2 else((ij.L1 l (ij.K1)) l 0))
def nz(t:Int):Bool:=(decide (0<=t)&&decide (t<1099511627776))
def mI(er:Int):Bool:=(decide (0<=er)&&decide (er<=1048576))
def nT(er:Int):Bool:=(decide (0<=er)&&decide (er<64))
def jX(x:Interest):Bool:=(bif((((decide (x.No<0)||decide (1048576<x.No))||(!(nz x.At)))||(!(nz x.Known)))||(!(mI x.Party)))then false else(bif x.Of then((mI x.Person)&&(x.Person != x.Party))else(nT x.Person)))
def ig.K1  : Int:=0
def ig.L1(l:List Interest)(k:Int):List Interest->Nat->Int
 |[],i1=>(k)
 |y1::rz1,i1=>(bif((!(jX y1))||(decide (0<(i1:Int))&&decide (y1.No<=(nthI l ((i1:Int)-1)).No)))then 290 else(ig.L1 l k rz1 (i1+1)))
def ig(l:List Interest):Int:=(bif(decide (4096<(l.length:Int)))then 2 else((ig.L1 l (ig.K1)) l 0))
def fP(er:Int)(least:Int)(most:Int):Bool:=(decide (least<=er)&&decide (er<=most))
def gY(er:Int):Bool:=(decide (0<=er)&&decide (er<1099511627776))
def j0(x:Budget):Bool:=(bif(((((!(fP x.No 0 1048576))||(!(gY x.At)))||(!(gY x.Known)))||(!(fP x.Kind (-1) 15)))||(!(fP x.Period 1 1099511627776)))then false else(bif x.Gone then((x.Count==0)&&(x.Value==0))else((fP x.Count 0 1048576)&&(fP x.Value 0 1099511627776))))
def fL.K1  : Int:=0
def fL.L1(l:List Budget)(k:Int):List Budget->Nat->Int
 |[],i1=>(k)
 |y1::rz1,i1=>(bif((!(j0 y1))||(decide (0<(i1:Int))&&decide (y1.No<=(nthI l ((i1:Int)-1)).No)))then 180 else(fL.L1 l k rz1 (i1+1)))
def fL(l:List Budget):Int:=(bif(decide (4096<(l.length:Int)))then 2 else((fL.L1 l (fL.K1)) l 0))
def fM(er:Int):Bool:=(decide (0<=er)&&decide (er<1099511627776))
def dD.K1(fa:Int):Int:=fa
def dD.L1(rec:Expr->Int->Int)(limit:Int)(k:Int->Int):List Expr->Int->Int
 |[],fa=>(k fa)
 |y1::rz1,fa=>(bif(decide (fa<=limit))then(dD.L1 rec limit k rz1 (vC .i64 (fa+(rec y1 (vC .i64 (limit-fa))))))else(k fa))
def dD.F(rec:Expr->Int->Int)(x:Expr)(limit:Int):Int:=((dD.L1 rec limit (dD.K1)) x.L 1)
def dD.go:Nat->Expr->Int->Int
 |0=>λ_ _=>default
 |m+1=>dD.F (dD.go m)
def dD(x:Expr)(limit:Int):Int:=dD.go x.dep x limit
def bj.K1(iQ:Int):Int:=(vC .i64 (iQ+1))
def bj.L1(rec:Expr->Int)(k:Int->Int):List Expr->Int->Int
 |[],iQ=>(k iQ)
 |y1::rz1,iQ=>(bj.L1 rec k rz1 (max iQ (rec y1)))
def bj.F(rec:Expr->Int)(x:Expr):Int:=((bj.L1 rec (bj.K1)) x.L 0)
def bj.go:Nat->Expr->Int
 |0=>λ_=>default
 |m+1=>bj.F (bj.go m)
def bj(x:Expr):Int:=bj.go x.dep x
def jZ(x:Expr):Bool:=(decide (256<(dD x 256))||decide (16<(bj x)))
def fh.K1  : Bool:=false
def fh.L1(k:Bool):List Rule->Bool
 |[]=>(k)
 |y1::rz1=>(bif(jZ y1.Expr)then true else(fh.L1  k rz1))
def fh(p:Policy):Bool:=(bif(((decide (32<(p.Offices.length:Int))||decide (16<(p.Kinds.length:Int)))||decide (16<(p.Rules.length:Int)))||(jZ p.Change))then true else((fh.L1 (fh.K1)) p.Rules))
def ld(c:Int):Bool:=((decide (97<=c)&&decide (c<=122))||(decide (65<=c)&&decide (c<=90)))
def mY(c:Int):Bool:=(decide (48<=c)&&decide (c<=57))
def qg(c:Int):Bool:=(((ld c)||(mY c))||(c==95))
def gN.K1  : Bool:=true
def gN.L1(s:ByteArray)(k:Bool):List Nat->Nat->Bool
 |[],i1=>(k)
 |y1::rz1,i1=>(bif(!(qg ((s.data.getD ((i1:Int):Int).toNat 0).toNat:Int)))then false else(gN.L1 s k rz1 (i1+1)))
def gN(s:ByteArray):Bool:=(bif((decide ((s.size:Int)<1)||decide (32<(s.size:Int)))||(!(ld ((s.data.getD (0:Int).toNat 0).toNat:Int))))then false else((gN.L1 s (gN.K1)) (qH s.size) 0))
def nB(s:ByteArray):Bool:=(bif(s.toList==(⟨#[112,111,108,105,99,121]⟩:ByteArray).toList)then(bif(s.toList==(⟨#[112,111,108,105,99,121]⟩:ByteArray).toList)then true else false)else(bif(s.toList==(⟨#[109,111,100,101]⟩:ByteArray).toList)then(bif(s.toList==(⟨#[109,111,100,101]⟩:ByteArray).toList)then true else false)else(bif(s.toList==(⟨#[111,108,100]⟩:ByteArray).toList)then(bif(s.toList==(⟨#[111,108,100]⟩:ByteArray).toList)then true else false)else(bif(s.toList==(⟨#[110,101,119]⟩:ByteArray).toList)then(bif(s.toList==(⟨#[110,101,119]⟩:ByteArray).toList)then true else false)else(bif(s.toList==(⟨#[98,111,116,104]⟩:ByteArray).toList)then(bif(s.toList==(⟨#[98,111,116,104]⟩:ByteArray).toList)then true else false)else(bif(s.toList==(⟨#[101,105,116,104,101,114]⟩:ByteArray).toList)then(bif(s.toList==(⟨#[101,105,116,104,101,114]⟩:ByteArray).toList)then true else false)else(bif(s.toList==(⟨#[111,102,102,105,99,101]⟩:ByteArray).toList)then(bif(s.toList==(⟨#[111,102,102,105,99,101]⟩:ByteArray).toList)then true else false)else(bif(s.toList==(⟨#[107,105,110,100]⟩:ByteArray).toList)then(bif(s.toList==(⟨#[107,105,110,100]⟩:ByteArray).toList)then true else false)else(bif(s.toList==(⟨#[114,117,108,101]⟩:ByteArray).toList)then(bif(s.toList==(⟨#[114,117,108,101]⟩:ByteArray).toList)then true else false)else(bif(s.toList==(⟨#[116,104,105,110,107]⟩:ByteArray).toList)then(bif(s.toList==(⟨#[116,104,105,110,107]⟩:ByteArray).toList)then true else false)else(bif(s.toList==(⟨#[99,104,97,110,103,101]⟩:ByteArray).toList)then(bif(s.toList==(⟨#[99,104,97,110,103,101]⟩:ByteArray).toList)then true else false)else(bif(s.toList==(⟨#[115,111,109,101]⟩:ByteArray).toList)then(bif(s.toList==(⟨#[115,111,109,101]⟩:ByteArray).toList)then true else false)else(bif(s.toList==(⟨#[119,101,105,103,104,116]⟩:ByteArray).toList)then(bif(s.toList==(⟨#[119,101,105,103,104,116]⟩:ByteArray).toList)then true else false)else(bif(s.toList==(⟨#[111,102]⟩:ByteArray).toList)then(bif(s.toList==(⟨#[111,102]⟩:ByteArray).toList)then true else false)else(bif(s.toList==(⟨#[117,112,116,111]⟩:ByteArray).toList)then(bif(s.toList==(⟨#[117,112,116,111]⟩:ByteArray).toList)then true else false)else(bif(s.toList==(⟨#[101,108,115,101]⟩:ByteArray).toList)then true else false))))))))))))))))
def mW(s:ByteArray):Bool:=((gN s)&&(!(nB s)))
def eA.K1  : Int:=(-1)
def eA.L1(s:ByteArray)(k:Int):List ByteArray->Nat->Int
 |[],i1=>(k)
 |y1::rz1,i1=>(bif(y1.toList==s.toList)then(i1:Int)else(eA.L1 s k rz1 (i1+1)))
def eA(l:List ByteArray)(s:ByteArray):Int:=((eA.L1 s (eA.K1)) l 0)
def eH.K1  : Bool:=true
def eH.L1(l:List ByteArray)(k:Bool):List ByteArray->Nat->Bool
 |[],i1=>(k)
 |y1::rz1,i1=>(bif((!(mW y1))||((eA l y1) != (i1:Int)))then false else(eH.L1 l k rz1 (i1+1)))
def eH(l:List ByteArray):Bool:=((eH.L1 l (eH.K1)) l 0)
def bP.K1  : Bool:=true
def bP.L1(rec:List ByteArray->Expr->Bool)(offices:List ByteArray)(k:Bool):List Expr->Bool
 |[]=>(k)
 |y1::rz1=>(bif(!(rec offices y1))then false else(bP.L1 rec offices k rz1))
def bP.F(rec:List ByteArray->Expr->Bool)(offices:List ByteArray)(x:Expr):Bool:=(bif(((x.Kind==1)||(x.Kind==2))&&decide ((eA offices x.Name)<0))then false else((bP.L1 rec offices (bP.K1)) x.L))
def bP.go:Nat->List ByteArray->Expr->Bool
 |0=>λ_ _=>default
 |m+1=>bP.F (bP.go m)
def bP(offices:List ByteArray)(x:Expr):Bool:=bP.go x.dep offices x
def gX.K1(p:Policy):Bool:=(bP p.Offices p.Change)
def gX.L1(p:Policy)(k:Bool):List Rule->Bool
 |[]=>(k)
 |y1::rz1=>(bif(!(bP p.Offices y1.Expr))then false else(gX.L1 p k rz1))
def gX(p:Policy):Bool:=(bif(((!(mW p.Name))||(!(eH p.Offices)))||(!(eH p.Kinds)))then false else((gX.L1 p (gX.K1 p)) p.Rules))
def aF.K1(x:Expr)(upto:Bool):Bool:=(bif(x.Kind==1)then((x.N==0)&&((x.L.length:Int)==0))else(bif(x.Kind==2)then((decide (1<=x.N)&&decide (x.N<=4096))&&((x.L.length:Int)==0))else(bif(x.Kind==3)then(((((x.Name.toList==(⟨#[]⟩:ByteArray).toList)&&decide (1<=(x.L.length:Int)))&&decide ((x.L.length:Int)<=16))&&decide (1<=x.N))&&decide (x.N<=(x.L.length:Int)))else(bif(x.Kind==4)then((((upto&&(x.Name.toList==(⟨#[]⟩:ByteArray).toList))&&((x.L.length:Int)==2))&&decide (0<=x.N))&&decide (x.N<=1099511627776))else false))))
def aF.L1(rec:Expr->Bool->Bool)(upto:Bool)(k:Bool):List Expr->Bool
 |[]=>(k)
 |y1::rz1=>(bif(!(rec y1 upto))then false else(aF.L1 rec upto k rz1))
def aF.F(rec:Expr->Bool->Bool)(x:Expr)(upto:Bool):Bool:=((aF.L1 rec upto (aF.K1 x upto)) x.L)
def aF.go:Nat->Expr->Bool->Bool
 |0=>λ_ _=>default
 |m+1=>aF.F (aF.go m)
def aF(x:Expr)(upto:Bool):Bool:=aF.go x.dep x upto
def fW.K1(p:Policy):Bool:=(aF p.Change false)
def fW.L1(p:Policy)(k:Bool):List Rule->Nat->Bool
 |[],i1=>(k)
 |y1::rz1,i1=>(bif((((!(y1.Kind.toList==(nthI p.Kinds (i1:Int)).toList))||decide (y1.Think<0))||decide (1099511627776<=y1.Think))||(!(aF y1.Expr true)))then false else(fW.L1 p k rz1 (i1+1)))
def fW(p:Policy):Bool:=(bif(((decide ((p.Kinds.length:Int)<1)||((p.Rules.length:Int) != (p.Kinds.length:Int)))||decide (p.Mode<1))||decide (4<p.Mode))then false else((fW.L1 p (fW.K1 p)) p.Rules 0))
def ah.K1(offices:List ByteArray)(x:Expr)(kI:List Expr):Expr:=(xG x.Kind x.N (eA offices x.Name) x.Name kI)
def ah.L1(rec:List ByteArray->Expr->Expr)(offices:List ByteArray)(k:List Expr->Expr):List Expr->List Expr->Expr
 |[],kI=>(k kI)
 |y1::rz1,kI=>(ah.L1 rec offices k rz1 (kI++[(rec offices y1)]))
def ah.K2(x:Expr)(kz:List Expr):Expr:=(xG x.Kind x.N 0 x.Name kz)
def ah.L2(rec:List ByteArray->Expr->Expr)(offices:List ByteArray)(k:List Expr->Expr):List Expr->List Expr->Expr
 |[],kz=>(k kz)
 |y2::rz2,kz=>(ah.L2 rec offices k rz2 (kz++[(rec offices y2)]))
def ah.F(rec:List ByteArray->Expr->Expr)(offices:List ByteArray)(x:Expr):Expr:=(bif((x.Kind==1)||(x.Kind==2))then((ah.L1 rec offices (ah.K1 offices x)) x.L ([]))else((ah.L2 rec offices (ah.K2 x)) x.L ([])))
def ah.go:Nat->List ByteArray->Expr->Expr
 |0=>λ_ _=>default
 |m+1=>ah.F (ah.go m)
def ah(offices:List ByteArray)(x:Expr):Expr:=ah.go x.dep offices x
def dR.K1(p:Policy)(my:List Rule):(Policy×Int):=((kN p.Name p.Kinds p.Offices my (xG ((ah p.Offices p.Change).Kind) ((ah p.Offices p.Change).N) ((ah p.Offices p.Change).No) ((ah p.Offices p.Change).Name) ((ah p.Offices p.Change).L)) p.Mode),0)
def dR.L1(p:Policy)(k:List Rule->(Policy×Int)):List Rule->Nat->List Rule->(Policy×Int)
 |[],i1,my=>(k my)
 |y1::rz1,i1,my=>(dR.L1 p k rz1 (i1+1) (my++[(aBi y1.Kind (i1:Int) y1.Think (xG ((ah p.Offices y1.Expr).Kind) ((ah p.Offices y1.Expr).N) ((ah p.Offices y1.Expr).No) ((ah p.Offices y1.Expr).Name) ((ah p.Offices y1.Expr).L)))]))
def dR(p:Policy):(Policy×Int):=(bif(fh p)then((kN (⟨#[]⟩:ByteArray) ([]) ([]) ([]) (xG 0 0 0 (⟨#[]⟩:ByteArray) ([])) 0),2)else(bif(!(gX p))then((kN (⟨#[]⟩:ByteArray) ([]) ([]) ([]) (xG 0 0 0 (⟨#[]⟩:ByteArray) ([])) 0),201)else(bif(!(fW p))then((kN (⟨#[]⟩:ByteArray) ([]) ([]) ([]) (xG 0 0 0 (⟨#[]⟩:ByteArray) ([])) 0),200)else((dR.L1 p (dR.K1 p)) p.Rules 0 ([])))))
def eE.K1  : Bool:=true
def eE.L1(jh:List ByteArray)(k:Bool):List ByteArray->Nat->Bool
 |[],i1=>(k)
 |y1::rz1,i1=>(bif(!(y1.toList==(nthI jh (i1:Int)).toList))then false else(eE.L1 jh k rz1 (i1+1)))
def eE(a:List ByteArray)(jh:List ByteArray):Bool:=(bif((a.length:Int) != (jh.length:Int))then false else((eE.L1 jh (eE.K1)) a 0))
def bh.K1  : Bool:=true
def bh.L1(rec:Expr->Expr->Bool)(jh:Expr)(k:Bool):List Expr->Nat->Bool
 |[],i1=>(k)
 |y1::rz1,i1=>(bif(!(rec y1 (nthI jh.L (i1:Int))))then false else(bh.L1 rec jh k rz1 (i1+1)))
def bh.F(rec:Expr->Expr->Bool)(a:Expr)(jh:Expr):Bool:=(bif(((((a.Kind != jh.Kind)||(a.N != jh.N))||(a.No != jh.No))||(!(a.Name.toList==jh.Name.toList)))||((a.L.length:Int) != (jh.L.length:Int)))then false else((bh.L1 rec jh (bh.K1)) a.L 0))
def bh.go:Nat->Expr->Expr->Bool
 |0=>λ_ _=>default
 |m+1=>bh.F (bh.go m)
def bh(a:Expr)(jh:Expr):Bool:=bh.go a.dep a jh
def io.K1  : Bool:=true
def io.L1(jh:Policy)(k:Bool):List Rule->Nat->Bool
 |[],i1=>(k)
 |y1::rz1,i1=>(bif((((!(y1.Kind.toList==(nthI jh.Rules (i1:Int)).Kind.toList))||(y1.KindNo != (nthI jh.Rules (i1:Int)).KindNo))||(y1.Think != (nthI jh.Rules (i1:Int)).Think))||(!(bh y1.Expr ((nthI jh.Rules (i1:Int)).Expr))))then false else(io.L1 jh k rz1 (i1+1)))
def io(a:Policy)(jh:Policy):Bool:=(bif((((((!(a.Name.toList==jh.Name.toList))||(a.Mode != jh.Mode))||(!(eE a.Offices jh.Offices)))||(!(eE a.Kinds jh.Kinds)))||((a.Rules.length:Int) != (jh.Rules.length:Int)))||(!(bh a.Change jh.Change)))then false else((io.L1 jh (io.K1)) a.Rules 0))
def gx(p:Policy):Int:=(bif((dR p).2 != 0)then(dR p).2 else(bif(!(io ((dR p).1) p))then 200 else 0))
def dN.K1  : Int:=0
def dN.L1(l:List Version)(k:Int):List Version->Nat->Int
 |[],i1=>(k)
 |y1::rz1,i1=>(bif(((((decide (y1.No<0)||decide (1048576<y1.No))||(decide (0<(i1:Int))&&decide (y1.No<=(nthI l ((i1:Int)-1)).No)))||(!(fM y1.At)))||(!(fM y1.Known)))||((gx y1.Policy) != 0))then 200 else(dN.L1 l k rz1 (i1+1)))
def dN(l:List Version):Int:=(bif(decide (256<(l.length:Int)))then 2 else((dN.L1 l (dN.K1)) l 0))
def lO(t:Int):Bool:=(decide (0<=t)&&decide (t<1099511627776))
def eM.K1(l:List Int):Bool:=decide ((l.length:Int)<=16)
def eM.L1(l:List Int)(limit:Int)(k:Bool):List Int->Nat->Bool
 |[],i1=>(k)
 |y1::rz1,i1=>(bif((decide (y1<0)||decide (limit<=y1))||(decide (0<(i1:Int))&&decide (y1<=(nthI l ((i1:Int)-1)))))then false else(eM.L1 l limit k rz1 (i1+1)))
def eM(l:List Int)(limit:Int):Bool:=((eM.L1 l limit (eM.K1 l)) l 0)
def iE(d:Document):Bool:=(bif((((((decide (d.No<0)||decide (4096<=d.No))||(!(lO d.At)))||decide (d.Kind<0))||decide (16<=d.Kind))||decide (d.Value<0))||decide (1099511627776<d.Value))then false else(((((decide (0<=d.From)&&decide (d.From<d.Until))&&decide (d.Until<=1099511627776))&&(eM d.Parties 1048577))&&(eM d.Revokes d.No))&&(eM d.Needs d.No)))
def gg.K1  : Int:=(-1)
def gg.L1(no:Int)(k:Int):List Document->Nat->Int
 |[],i1=>(k)
 |y1::rz1,i1=>(bif(y1.No==no)then(i1:Int)else(gg.L1 no k rz1 (i1+1)))
def gg(l:List Document)(no:Int):Int:=((gg.L1 no (gg.K1)) l 0)
def dA.K1  : Bool:=true
def dA.L1(l:List Document)(k:Bool):List Int->Bool
 |[]=>(k)
 |y1::rz1=>(bif(decide ((gg l y1)<0))then false else(dA.L1 l k rz1))
def dA(l:List Document)(nos:List Int):Bool:=((dA.L1 l (dA.K1)) nos)
def dO.K1  : Int:=0
def dO.L1(l:List Document)(k:Int):List Document->Nat->Int
 |[],i1=>(k)
 |y1::rz1,i1=>(bif((((!(iE y1))||(decide (0<(i1:Int))&&decide (y1.No<=(nthI l ((i1:Int)-1)).No)))||(!(dA l y1.Revokes)))||(!(dA l y1.Needs)))then 170 else(dO.L1 l k rz1 (i1+1)))
def dO(l:List Document):Int:=(bif(decide (4096<(l.length:Int)))then 2 else((dO.L1 l (dO.K1)) l 0))
def gH(er:Int)(most:Int):Bool:=(decide (0<=er)&&decide (er<=most))
def nA(er:Int):Bool:=(gH er 1099511627775)
def si(er:Int):Bool:=(gH er 4095)
def jY(x:Approval):Bool:=(bif((((!(gH x.No 1048576))||(!(nA x.At)))||(!(nA x.Known)))||(!(si x.Doc)))then false else(((gH x.By 63)&&(gH x.For 63))&&(gH x.Office 31)))
def ii.K1  : Int:=0
def ii.L1(l:List Approval)(k:Int):List Approval->Nat->Int
 |[],i1=>(k)
 |y1::rz1,i1=>(bif((!(jY y1))||(decide (0<(i1:Int))&&decide (y1.No<=(nthI l ((i1:Int)-1)).No)))then 280 else(ii.L1 l k rz1 (i1+1)))
def ii(l:List Approval):Int:=(bif(decide (4096<(l.length:Int)))then 2 else((ii.L1 l (ii.K1)) l 0))
def lh(cH:Register):Int:=(bif(((((iH cH.Appoints) != 0)||((ij cH.Deputies) != 0))||((ig cH.Interests) != 0))||((fL cH.Budgets) != 0))then 300 else(bif((((dN cH.Versions) != 0)||((dO cH.Docs) != 0))||((ii cH.Approvals) != 0))then 300 else 0))
def me(er:Int):Bool:=(decide (0<=er)&&decide (er<1099511627776))
def eI.K1(l:List Document)(signed:List Int):Bool:=((signed.length:Int)==(l.length:Int))
def eI.L1(k:Bool):List Int->Bool
 |[]=>(k)
 |y1::rz1=>(bif((y1 != (-1))&&(!(lO y1)))then false else(eI.L1  k rz1))
def eI(l:List Document)(signed:List Int):Bool:=((eI.L1 (eI.K1 l signed)) signed)
def fX.K1  : Bool:=false
def fX.L1(C0:Int)(k:Bool):List Int->Bool
 |[]=>(k)
 |y1::rz1=>(bif(y1==C0)then true else(fX.L1 C0 k rz1))
def fX(l:List Int)(C0:Int):Bool:=((fX.L1 C0 (fX.K1)) l)
def eQ.K1(l:List Document)(uU:Int)(cX:Int):(Int×Int):=(bif(decide (cX<(nthI l uU).From))then(2,(-1))else(bif(decide ((nthI l uU).Until<=cX))then(3,(-1))else(0,(-1))))
def eQ.L1(l:List Document)(done:List Int)(effective:List Bool)(uU:Int)(k:(Int×Int)):List Document->Nat->(Int×Int)
 |[],i1=>(k)
 |y1::rz1,i1=>(bif(((fX done (i1:Int))&&(nthI effective (i1:Int)))&&(fX y1.Revokes ((nthI l uU).No)))then(5,y1.No)else(eQ.L1 l done effective uU k rz1 (i1+1)))
def eQ(l:List Document)(done:List Int)(effective:List Bool)(uU:Int)(cX:Int):(Int×Int):=(bif(!(fX done uU))then(1,(-1))else(bif(!(nthI effective uU))then(4,(-1))else((eQ.L1 l done effective uU (eQ.K1 l uU cX)) l 0)))
def bY.L2(signed:List Int)(k:List Int):List Nat->Nat->List Int
 |[],i2=>(k)
 |y2::rz2,i2=>(bif(decide ((nthI signed 0)<(nthI signed (nthI ([]) (((0-(i2+1)):Nat):Int)))))then(bY.L2 signed k rz2 (i2+1))else(k))
def bY.L3(signed:List Int)(y1:Int)(fa:List Int)(k:Nat->List Int):List Nat->Nat->List Int
 |[],i3=>(k (i3))
 |y3::rz3,i3=>(bif(decide (y1<(nthI signed (nthI fa (((fa.length-(i3+1)):Nat):Int)))))then(bY.L3 signed y1 fa k rz3 (i3+1))else(k (i3)))
def bY.K1(fa:List Int):List Int:=fa
def bY.L1(signed:List Int)(iw:Int)(k:List Int->List Int):List Int->Nat->List Int->List Int
 |[],i1,fa=>(k fa)
 |y1::rz1,i1,fa=>(bif(decide (y1<0)||decide (iw<y1))then(bY.L1 signed iw k rz1 (i1+1) fa)else((bY.L3 signed y1 fa (λzi3=>(bY.L1 signed iw k rz1 (i1+1) (((fa.take (((((fa.length-zi3):Nat):Int):Int)).toNat)++[(i1:Int)])++(fa.drop (((((fa.length-zi3):Nat):Int):Int)).toNat))))) (qH fa.length) 0))
def bY(signed:List Int)(iw:Int):List Int:=((bY.L1 signed iw (bY.K1)) signed 0 ([]))
def bZ.L3(l:List Document)(signed:List Int)(aH:Int)(k:List Int->List Int):List Nat->Nat->List Int->List Int
 |[],i3,Qy=>(k Qy)
 |y3::rz3,i3,Qy=>(bif((eQ l ((bY signed aH).take ((0:Int)).toNat) (List.replicate l.length false) (gg l (nthI ((nthI l (nthI (bY signed aH) 0)).Needs) ((((((nthI l (nthI (bY signed aH) 0)).Needs.length)-i3):Nat):Int)-1))) (nthI signed (nthI (bY signed aH) 0))).1 != 0)then(bZ.L3 l signed aH k rz3 (i3+1) (Qy.set ((nthI (bY signed aH) 0):Int).toNat (nthI ((nthI l (nthI (bY signed aH) 0)).Needs) ((((((nthI l (nthI (bY signed aH) 0)).Needs.length)-i3):Nat):Int)-1))))else(bZ.L3 l signed aH k rz3 (i3+1) Qy))
def bZ.L4(l:List Document)(signed:List Int)(aH:Int)(i2:Nat)(y2:Int)(lB:List Bool)(k:List Int->List Int):List Nat->Nat->List Int->List Int
 |[],i4,tz=>(k tz)
 |y4::rz4,i4,tz=>(bif((eQ l ((bY signed aH).take (((i2:Int):Int)).toNat) lB (gg l (nthI ((nthI l y2).Needs) ((((((nthI l y2).Needs.length)-i4):Nat):Int)-1))) (nthI signed y2)).1 != 0)then(bZ.L4 l signed aH i2 y2 lB k rz4 (i4+1) (tz.set (y2:Int).toNat (nthI ((nthI l y2).Needs) ((((((nthI l y2).Needs.length)-i4):Nat):Int)-1))))else(bZ.L4 l signed aH i2 y2 lB k rz4 (i4+1) tz))
def bZ.K2(lB:List Bool)(F7:List Int):List Int:=F7
def bZ.L2(l:List Document)(signed:List Int)(aH:Int)(k:List Bool->List Int->List Int):List Int->Nat->List Bool->List Int->List Int
 |[],i2,lB,F7=>(k lB F7)
 |y2::rz2,i2,lB,F7=>((bZ.L4 l signed aH i2 y2 lB (λzg4_9=>(bZ.L2 l signed aH k rz2 (i2+1) (lB.set (y2:Int).toNat (decide ((nthI zg4_9 y2)<0))) zg4_9))) (qH ((nthI l y2).Needs.length)) 0 F7)
def bZ.K1(l:List Document)(signed:List Int)(aH:Int)(nd:List Int):List Int:=((bZ.L2 l signed aH (bZ.K2)) (bY signed aH) 0 (List.replicate l.length false) nd)
def bZ.L1(k:List Int->List Int):List Document->List Int->List Int
 |[],nd=>(k nd)
 |y1::rz1,nd=>(bZ.L1  k rz1 (nd++[(-1)]))
def bZ(l:List Document)(signed:List Int)(aH:Int):List Int:=((bZ.L1 (bZ.K1 l signed aH)) l ([]))
def jp.K1(l:List Document)(signed:List Int)(Bm:Int)(dt:Int)(lI:List Bool):(Int×Int):=(bif((eQ l (bY signed dt) lI Bm dt).1==4)then((eQ l (bY signed dt) lI Bm dt).1,(nthI (bZ l signed dt) Bm))else((eQ l (bY signed dt) lI Bm dt).1,(eQ l (bY signed dt) lI Bm dt).2))
def jp.L1(l:List Document)(signed:List Int)(dt:Int)(k:List Bool->(Int×Int)):List Document->Nat->List Bool->(Int×Int)
 |[],i1,lI=>(k lI)
 |y1::rz1,i1,lI=>(jp.L1 l signed dt k rz1 (i1+1) (lI++[decide ((nthI (bZ l signed dt) (i1:Int))<0)]))
def jp(l:List Document)(signed:List Int)(Bm:Int)(dt:Int):(Int×Int):=((jp.L1 l signed dt (jp.K1 l signed Bm dt)) l 0 ([]))
def fx.K1(nd:List Int):(List Int×Int):=(nd,0)
def fx.L1(l:List Document)(signed:List Int)(aH:Int)(k:List Int->(List Int×Int)):List Document->Nat->List Int->(List Int×Int)
 |[],i1,nd=>(k nd)
 |y1::rz1,i1,nd=>(bif((jp l signed (i1:Int) aH).1==0)then(fx.L1 l signed aH k rz1 (i1+1) (nd++[y1.No]))else(fx.L1 l signed aH k rz1 (i1+1) nd))
def fx(l:List Document)(signed:List Int)(aH:Int):(List Int×Int):=(bif((dO l) != 0)then([],(dO l))else(bif((!(eI l signed))||(!(lO aH)))then([],1)else((fx.L1 l signed aH (fx.K1)) l 0 ([]))))
def oI(er:Int):Bool:=(decide (0<=er)&&decide (er<16))
def fp.L2(u:List Use)(k:Bool):List Nat->Nat->Bool
 |[],i2=>(k)
 |y2::rz2,i2=>(bif((nthI u (i2:Int)).Doc==(nthI u 0).Doc)then false else(fp.L2 u k rz2 (i2+1)))
def fp.L3(u:List Use)(y1:Use)(k:Bool):List Nat->Nat->Bool
 |[],i3=>(k)
 |y3::rz3,i3=>(bif((nthI u (i3:Int)).Doc==y1.Doc)then false else(fp.L3 u y1 k rz3 (i3+1)))
def fp.K1  : Bool:=true
def fp.L1(u:List Use)(k:Bool):List Use->Nat->Bool
 |[],i1=>(k)
 |y1::rz1,i1=>(bif(((((!(fP y1.Doc 0 4095))||(!(oI y1.Kind)))||(!(fP y1.Value 0 1099511627776)))||(!(gY y1.At)))||(!(gY y1.Known)))then false else((fp.L3 u y1 ((fp.L1 u k rz1 (i1+1)))) (qH i1) 0))
def fp(u:List Use):Bool:=((fp.L1 u (fp.K1)) u 0)
def mX(x:Budget)(iw:Int)(known:Int):Bool:=(decide (x.At<=iw)&&decide (x.Known<=known))
def jx.K1  : Bool:=true
def jx.L1(l:List Budget)(n0:Int)(aH:Int)(known:Int)(k:Bool):List Budget->Bool
 |[]=>(k)
 |y1::rz1=>(bif((((y1.Kind==(nthI l n0).Kind)&&(y1.Period==(nthI l n0).Period))&&(mX y1 aH known))&&(decide ((nthI l n0).At<y1.At)||((y1.At==(nthI l n0).At)&&decide ((nthI l n0).No<y1.No))))then false else(jx.L1 l n0 aH known k rz1))
def jx(l:List Budget)(n0:Int)(aH:Int)(known:Int):Bool:=(bif((nthI l n0).Gone||(!(mX (nthI l n0) aH known)))then false else((jx.L1 l n0 aH known (jx.K1)) l))
def eY.K1(nd:List Budget):List Budget:=nd
def eY.L1(l:List Budget)(C0:Int)(aH:Int)(known:Int)(k:List Budget->List Budget):List Budget->Nat->List Budget->List Budget
 |[],i1,nd=>(k nd)
 |y1::rz1,i1,nd=>(bif(((y1.Kind==(-1))||(y1.Kind==C0))&&(jx l (i1:Int) aH known))then(eY.L1 l C0 aH known k rz1 (i1+1) (nd++[y1]))else(eY.L1 l C0 aH known k rz1 (i1+1) nd))
def eY(l:List Budget)(C0:Int)(aH:Int)(known:Int):List Budget:=((eY.L1 l C0 aH known (eY.K1)) l 0 ([]))
def lx.K1(x:Budget)(lI:Int)(ow:Int):Bool:=(decide (x.Count<=lI)||decide (x.Value<ow))
def lx.L1(x:Budget)(dt:Int)(known:Int)(k:Int->Int->Bool):List Use->Int->Int->Bool
 |[],lI,ow=>(k lI ow)
 |y1::rz1,lI,ow=>(bif((decide (y1.Known<=known)&&((x.Kind==(-1))||(x.Kind==y1.Kind)))&&((vC .i64 (y1.At.tdiv x.Period))==(vC .i64 (dt.tdiv x.Period))))then(lx.L1 x dt known k rz1 (vC .i64 (lI+1)) (vC .i64 (ow+y1.Value)))else(lx.L1 x dt known k rz1 lI ow))
def lx(x:Budget)(u:List Use)(value:Int)(dt:Int)(known:Int):Bool:=((lx.L1 x dt known (lx.K1 x)) u 0 value)
def gF.K1  : (Int×Bool×Int):=((-1),true,0)
def gF.L1(u:List Use)(value:Int)(cX:Int)(known:Int)(k:(Int×Bool×Int)):List Budget->(Int×Bool×Int)
 |[]=>(k)
 |y1::rz1=>(bif(lx y1 u value cX known)then(y1.No,false,0)else(gF.L1 u value cX known k rz1))
def gF(l:List Budget)(u:List Use)(IW:Int)(value:Int)(cX:Int)(known:Int):(Int×Bool×Int):=(bif((fL l) != 0)then(0,false,(fL l))else(bif(decide (4096<(u.length:Int)))then(0,false,2)else(bif(!(fp u))then(0,false,180)else(bif((((!(oI IW))||(!(fP value 0 1099511627776)))||(!(gY cX)))||(!(gY known)))then(0,false,1)else((gF.L1 u value cX known (gF.K1)) (eY l IW cX known))))))
def ny(cH:Register)(signed:List Int)(u:List Use)(doc:Int)(cX:Int)(known:Int):Int:=(bif((lh cH) != 0)then 300 else(bif((fx cH.Docs signed 0).2 != 0)then(fx cH.Docs signed 0).2 else(bif((gF cH.Budgets u 0 0 0 0).2.2 != 0)then(gF cH.Budgets u 0 0 0 0).2.2 else(bif((decide ((iK cH doc)<0)||(!(me cX)))||(!(me known)))then 1 else 0))))
def nU.K1  : Bool:=true
def nU.L1(who:List Int)(k:Bool):List Int->Nat->Bool
 |[],i1=>(k)
 |y1::rz1,i1=>(bif((decide (y1<0)||decide (64<=y1))||(decide (0<(i1:Int))&&decide (y1<=(nthI who ((i1:Int)-1)))))then false else(nU.L1 who k rz1 (i1+1)))
def nU(who:List Int):Bool:=((nU.L1 who (nU.K1)) who 0)
def oH(a:fJ)(jh:fJ):Bool:=((((a.State==jh.State)&&(a.Budget==jh.Budget))&&(fg a.Versions jh.Versions))&&(fg a.Who jh.Who))
def kv(cH:Register)(signed:List Int)(u:List Use)(doc:Int)(cX:Int)(known:Int):Bool:=((((lJ cH)&&decide ((signed.length:Int)<=40))&&decide ((u.length:Int)<=30))&&((ny cH signed u doc cX known)==0))
def nZ.K1  : (Policy×Bool):=((kN (⟨#[]⟩:ByteArray) ([]) ([]) ([]) (xG 0 0 0 (⟨#[]⟩:ByteArray) ([])) 0),false)
def nZ.L1(no:Int)(k:(Policy×Bool)):List Version->(Policy×Bool)
 |[]=>(k)
 |y1::rz1=>(bif(y1.No==no)then(y1.Policy,true)else(nZ.L1 no k rz1))
def nZ(cH:Register)(no:Int):(Policy×Bool):=((nZ.L1 no (nZ.K1)) cH.Versions)
def bX.K1(fI:List Appoint):List Appoint:=fI
def bX.L1(known:(Appoint->Int))(aH:Int)(k:List Appoint->List Appoint):List Appoint->List Appoint->List Appoint
 |[],fI=>(k fI)
 |y1::rz1,fI=>(bif(decide ((known y1)<=aH))then(bX.L1 known aH k rz1 (fI++[y1]))else(bX.L1 known aH k rz1 fI))
def bX(l:List Appoint)(known:(Appoint->Int))(aH:Int):List Appoint:=((bX.L1 known aH (bX.K1)) l ([]))
def fE(y:Appoint):Int:=y.Known
def cm.K1(fI:List Deputy):List Deputy:=fI
def cm.L1(known:(Deputy->Int))(aH:Int)(k:List Deputy->List Deputy):List Deputy->List Deputy->List Deputy
 |[],fI=>(k fI)
 |y1::rz1,fI=>(bif(decide ((known y1)<=aH))then(cm.L1 known aH k rz1 (fI++[y1]))else(cm.L1 known aH k rz1 fI))
def cm(l:List Deputy)(known:(Deputy->Int))(aH:Int):List Deputy:=((cm.L1 known aH (cm.K1)) l ([]))
def fD(y:Deputy):Int:=y.Known
def bN.K1(fI:List Interest):List Interest:=fI
def bN.L1(known:(Interest->Int))(aH:Int)(k:List Interest->List Interest):List Interest->List Interest->List Interest
 |[],fI=>(k fI)
 |y1::rz1,fI=>(bif(decide ((known y1)<=aH))then(bN.L1 known aH k rz1 (fI++[y1]))else(bN.L1 known aH k rz1 fI))
def bN(l:List Interest)(known:(Interest->Int))(aH:Int):List Interest:=((bN.L1 known aH (bN.K1)) l ([]))
def fC(y:Interest):Int:=y.Known
def cn.K1(fI:List Budget):List Budget:=fI
def cn.L1(known:(Budget->Int))(aH:Int)(k:List Budget->List Budget):List Budget->List Budget->List Budget
 |[],fI=>(k fI)
 |y1::rz1,fI=>(bif(decide ((known y1)<=aH))then(cn.L1 known aH k rz1 (fI++[y1]))else(cn.L1 known aH k rz1 fI))
def cn(l:List Budget)(known:(Budget->Int))(aH:Int):List Budget:=((cn.L1 known aH (cn.K1)) l ([]))
def fB(y:Budget):Int:=y.Known
def bW.K1(fI:List Version):List Version:=fI
def bW.L1(known:(Version->Int))(aH:Int)(k:List Version->List Version):List Version->List Version->List Version
 |[],fI=>(k fI)
 |y1::rz1,fI=>(bif(decide ((known y1)<=aH))then(bW.L1 known aH k rz1 (fI++[y1]))else(bW.L1 known aH k rz1 fI))
def bW(l:List Version)(known:(Version->Int))(aH:Int):List Version:=((bW.L1 known aH (bW.K1)) l ([]))
def fA(y:Version):Int:=y.Known
def bO.K1(fI:List Approval):List Approval:=fI
def bO.L1(known:(Approval->Int))(aH:Int)(k:List Approval->List Approval):List Approval->List Approval->List Approval
 |[],fI=>(k fI)
 |y1::rz1,fI=>(bif(decide ((known y1)<=aH))then(bO.L1 known aH k rz1 (fI++[y1]))else(bO.L1 known aH k rz1 fI))
def bO(l:List Approval)(known:(Approval->Int))(aH:Int):List Approval:=((bO.L1 known aH (bO.K1)) l ([]))
def fy(y:Approval):Int:=y.Known
def dw.K1(fI:List Use):List Use:=fI
def dw.L1(known:(Use->Int))(aH:Int)(k:List Use->List Use):List Use->List Use->List Use
 |[],fI=>(k fI)
 |y1::rz1,fI=>(bif(decide ((known y1)<=aH))then(dw.L1 known aH k rz1 (fI++[y1]))else(dw.L1 known aH k rz1 fI))
def dw(l:List Use)(known:(Use->Int))(aH:Int):List Use:=((dw.L1 known aH (dw.K1)) l ([]))
def gj(y:Use):Int:=y.Known
def fm.K1(cH:Register)(signed:List Int)(u:List Use)(doc:Int)(cX:Int)(known:Int)(td:List Int):Bool:=((((cU cH signed u doc cX known).2==0)&&((cU (jG (bX cH.Appoints fE known) (cm cH.Deputies fD known) (bN cH.Interests fC known) (cn cH.Budgets fB known) (bW cH.Versions fA known) cH.Docs (bO cH.Approvals fy known)) td (dw u gj known) doc cX known).2==0))&&(oH ((cU cH signed u doc cX known).1) ((cU (jG (bX cH.Appoints fE known) (cm cH.Deputies fD known) (bN cH.Interests fC known) (cn cH.Budgets fB known) (bW cH.Versions fA known) cH.Docs (bO cH.Approvals fy known)) td (dw u gj known) doc cX known).1)))
def fm.L1(cX:Int)(k:List Int->Bool):List Int->List Int->Bool
 |[],td=>(k td)
 |y1::rz1,td=>(bif(decide (cX<y1))then(fm.L1 cX k rz1 (td++[(-1)]))else(fm.L1 cX k rz1 (td++[y1])))
def fm(cH:Register)(signed:List Int)(u:List Use)(doc:Int)(cX:Int)(known:Int):Bool:=(bif(!sR)then false else(bif(!(kv cH signed u doc cX known))then true else((fm.L1 cX (fm.K1 cH signed u doc cX known)) signed ([]))))
theorem wrap64{z:Int}(h:-9223372036854775808<=z/\z<=9223372036854775807):IntKind.i64.wrap z=z:=by
 have:=lk h;injection this
theorem Expr.eta(x:Expr):xG x.Kind x.N x.No x.Name x.L=x:=by cases x;rfl
theorem Expr.ind{P:Expr->Prop}(h:∀x,(∀y∈x.L,P y)->P x)(x:Expr):P x:=by
 have key:∀n(x:Expr),x.dep<=n->P x:=by
  intro n
  induction n with
  |zero=>intro x hx;have:=aBh x;omega
  |succ n ih=>intro x hx;exact h x λy hy=>ih y (by have:=aAn hy;omega)
 exact key _ x (kF _)
theorem Kd(k:List gL):∀l,aK.L3 k l=l++k
 |[]=>rfl
 |y::l=>by simp[aK.L3,Kd k l]
theorem Ke(rec:Expr->Int->List gL)(d:Int):∀l,aK.L1 rec d [] l=l.flatMap (λy=>rec y (d+1))
 |[]=>rfl
 |y::l=>by simp[aK.L1,Kd,Ke rec d l]
theorem Iq_(rec:Expr->Int->List gL)(x:Expr)(d:Int):aK.F rec x d=⟨x,d⟩::x.L.flatMap (λy=>rec y (d+1)):=by
 simp[aK.F,aK.K1,Ke,Expr.eta]
theorem Bb{α β : Type}{f g:α->List β}:∀{l:List α},(∀y∈l,f y=g y)->l.flatMap f=l.flatMap g
 |[],_=>rfl
 |y::l,h=>by
  rw[List.flatMap_cons,List.flatMap_cons,h y (zB ..),Bb λz hz=>h z (vA _ hz)]
theorem Kc(m:Nat):∀(x:Expr)(d:Int),x.dep<=m->aK.go m x d=bu x d:=by
 induction m using Nat.strongRecOn with
 |_ m ih=>
  intro x d hx
  unfold bu
  have hp:=aBh x
  obtain⟨m',rfl⟩:∃m',m=m'+1:=⟨m-1,by omega⟩
  obtain⟨n,hn⟩:∃n,x.dep=n+1:=⟨x.dep-1,by omega⟩
  rw[hn]
  show aK.F (aK.go m') x d=aK.F (aK.go n) x d
  rw[Iq_,Iq_]
  congr 1
  refine Bb λy hy=>?_
  have:=aAn hy
  rw[ih m' (by omega) y _ (by omega),ih n (by omega) y _ (by omega)]
theorem nF(x:Expr)(d:Int):bu x d=⟨x,d⟩::x.L.flatMap (λy=>bu y (d+1)):=by
 have hp:=aBh x
 obtain⟨n,hn⟩:∃n,x.dep=n+1:=⟨x.dep-1,by omega⟩
 rw[←Kc x.dep x d (kF _),hn]
 show aK.F (aK.go n) x d=_
 rw[Iq_]
 congr 1
 exact Bb λy hy=>Kc n y _ (by have:=aAn hy;omega)
theorem H0(Q:Expr->Prop)(x:Expr):∀d d',(∀z∈bu x d,Q z.x)->∀z∈bu x d',Q z.x:=by
 refine Expr.ind (P:=λx=>∀d d',(∀z∈bu x d,Q z.x)->∀z∈bu x d',Q z.x) ?_ x
 intro x ih d d' h z hz
 rw[nF]at h hz
 rcases qC.1 hz with rfl|hz
 .exact h ⟨x,d⟩ (zB ..)
 .obtain⟨y,hy,hz⟩:=List.mem_flatMap.1 hz
  exact ih y hy (d+1) (d'+1) (λz' hz'=>h z' (vA _ (List.mem_flatMap.2 ⟨y,hy,hz'⟩))) z hz
theorem qn(Q:Expr->Prop)(x:Expr)(d:Int):(∀z∈bu x d,Q z.x)↔Q x/\∀y∈x.L,∀z∈bu y d,Q z.x:=by
 constructor
 .intro h
  rw[nF]at h
  exact⟨h ⟨x,d⟩ (zB ..),λy hy=>H0 Q y (d+1) d λz hz=>h z (vA _ (List.mem_flatMap.2 ⟨y,hy,hz⟩))⟩
 .rintro⟨h1,h2⟩ z hz
  rw[nF]at hz
  rcases qC.1 hz with rfl|hz
  .exact h1
  .obtain⟨y,hy,hz⟩:=List.mem_flatMap.1 hz
   exact H0 Q y d (d+1) (h2 y hy) z hz
def NZ(x:Except Int Unit):Prop:=∀e,x=.error e->e≠0
theorem NZ.ok:NZ (.ok ()):=λ_ h=>by cases h
theorem NZ.must{c:Bool}{e:Int}(he:e≠0):NZ (eZ c e):=λe' h=>by
 cases c with
 |true=>simp[eZ]at h
 |false=>simp[eZ]at h;omega
theorem NZ.exi{x:Except Int Unit}{f:Unit->Except Int Unit}(hx:NZ x)(hf:NZ (f ())):NZ (Sg.exi x f):=by
 cases x with
 |ok u=>exact hf
 |error e=>exact λe' h=>hx e' h
theorem Il{x:Except Int Unit}(h:NZ x):attR x=0↔x=.ok ():=by
 cases x with
 |ok u=>simp[attR]
 |error e=>simp only[attR,reduceCtorEq,iff_false];exact h e rfl
theorem qo{c:Bool}{e:Int}{f:Unit->Except Int Unit}:exi (eZ c e) f=.ok ()↔c=true/\f ()=.ok ():=by
 cases c<;>simp[eZ,exi]
theorem KR(p:Policy):∀(l:List Rule)(g:List Expr),ay.L1 (ay.K1 p) l g=g++(l.map (·.Expr)++[p.Change])
 |[],g=>by simp[ay.L1,ay.K1]
 |y::l,g=>by simp[ay.L1,KR p l]
theorem nf(p:Policy):ay p=p.Rules.map (·.Expr)++[p.Change]:=by
 unfold ay;rw[KR];simp
theorem JP(k:Int->Except Int Unit)(hk:∀a b,k a=k b):∀(l:List gL)(g:Int),0<=g->g<=256->(cx.L3 k l g=.ok ()↔(g+l.length<=256/\∀z∈l,z.depth<=16)/\k 0=.ok ())
 |[],g,h0,h1=>by simp only[cx.L3,hk g 0,vB,kA];simp;omega
 |y::l,g,h0,h1=>by
  simp only[cx.L3,qo,xB,decide_eq_true_eq,wrap64 (z:=g+1) (by omega),xA,qC]
  by_cases h:g+1<=256
  .rw[JP k hk l (g+1) (by omega) h]
   constructor
   .rintro⟨⟨_,h3⟩,⟨h4,h5⟩,h6⟩
    refine⟨⟨by omega,λz hz=>?_⟩,h6⟩
    rcases hz with rfl|hz
    .exact h3
    .exact h5 z hz
   .rintro⟨⟨h4,h5⟩,h6⟩
    exact⟨⟨h,h5 y (.inl rfl)⟩,⟨by omega,λz hz=>h5 z (.inr hz)⟩,h6⟩
  .constructor
   .rintro⟨⟨h3,_⟩,_⟩;exact absurd h3 h
   .rintro⟨⟨h4,_⟩,_⟩;omega
theorem JQ:∀(l:List Expr),cx.L1 (.ok ()) l=.ok ()↔∀x∈l,(bu x 1).length<=256/\∀z∈bu x 1,z.depth<=16
 |[]=>by simp[cx.L1]
 |y::l=>by
  simp only[cx.L1]
  rw[JP _ (λ_ _=>rfl) _ 0 (by omega) (by omega),JQ l]
  simp only[qC,forall_eq_or_imp]
  constructor
  .rintro⟨⟨a,b⟩,c⟩;exact⟨⟨by omega,b⟩,c⟩
  .rintro⟨⟨a,b⟩,c⟩;exact⟨⟨by omega,b⟩,c⟩
theorem Bz(p:Policy):cx p=.ok ()↔(p.Offices.length<=32/\p.Kinds.length<=16/\p.Rules.length<=16)/\∀x∈ay p,(bu x 1).length<=256/\∀z∈bu x 1,z.depth<=16:=by
 unfold cx cx.K1
 rw[qo,JQ]
 simp only[xB,decide_eq_true_eq]
 constructor
 .rintro⟨⟨⟨a,b⟩,c⟩,d⟩;exact⟨⟨by omega,by omega,by omega⟩,d⟩
 .rintro⟨⟨a,b,c⟩,d⟩;exact⟨⟨⟨by omega,by omega⟩,by omega⟩,d⟩
theorem OQ(p:Policy):NZ (cx p):=by
 have h3:∀(k:Int->Except Int Unit),(∀a,NZ (k a))->∀l g,NZ (cx.L3 k l g):=by
  intro k hk l
  induction l with
  |nil=>exact λg=>hk g
  |cons y l ih=>exact λg=>NZ.exi (NZ.must (by omega)) (ih _)
 have h1:∀l,NZ (cx.L1 (.ok ()) l):=by
  intro l
  induction l with
  |nil=>exact NZ.ok
  |cons y l ih=>exact h3 _ (λ_=>ih) _ _
 exact NZ.exi (NZ.must (by omega)) (h1 _)
theorem Kj(p:Policy)(k:Except Int Unit):∀l,cy.L3 p k l=.ok ()↔(∀z∈l,((!(du z.x))||di p.Offices z.x.Name)=true)/\k=.ok ()
 |[]=>by simp[cy.L3]
 |y::l=>by simp only[cy.L3,qo,Kj p k l,qC,forall_eq_or_imp,and_assoc]
theorem Kk(p:Policy):∀l,cy.L1 p (.ok ()) l=.ok ()↔∀x∈l,∀z∈bu x 1,((!(du z.x))||di p.Offices z.x.Name)=true
 |[]=>by simp[cy.L1]
 |y::l=>by simp only[cy.L1,Kj,Kk p l,qC,forall_eq_or_imp]
theorem FD(p:Policy):cy p=.ok ()↔(dL p.Name=true/\bF p.Offices dL=true/\bF p.Kinds dL=true)/\∀x∈ay p,∀z∈bu x 1,((!(du z.x))||di p.Offices z.x.Name)=true:=by
 unfold cy cy.K1
 rw[qo,Kk]
 simp only[xB,and_assoc]
theorem Pi(p:Policy):NZ (cy p):=by
 have h3:∀(k:Except Int Unit),NZ k->∀l,NZ (cy.L3 p k l):=by
  intro k hk l
  induction l with
  |nil=>exact hk
  |cons y l ih=>exact NZ.exi (NZ.must (by omega)) ih
 have h1:∀l,NZ (cy.L1 p (.ok ()) l):=by
  intro l
  induction l with
  |nil=>exact NZ.ok
  |cons y l ih=>exact h3 _ ih _
 exact NZ.exi (NZ.must (by omega)) (h1 _)
theorem M6(p:Policy)(i:Nat)(k:Except Int Unit):∀l,bq.L4 p i k l=.ok ()↔(∀z∈l,(aN z.x.Kind 1 4&&kindsP z.x.Kind z.x)=true/\(decide ((i:Int)<IntKind.i64.wrap (((ay p).length:Int)-1))||(z.x.Kind != 4))=true)/\k=.ok ()
 |[]=>by simp[bq.L4]
 |y::l=>by simp only[bq.L4,qo,M6 p i k l,qC,forall_eq_or_imp,and_assoc]
theorem EC(p:Policy):∀l i,bq.L2 p (.ok ()) l i=.ok ()↔∀j x,l[j]? = some x->∀z∈bu x 1,(aN z.x.Kind 1 4&&kindsP z.x.Kind z.x)=true/\(decide (((i+j:Nat):Int)<IntKind.i64.wrap (((ay p).length:Int)-1))||(z.x.Kind != 4))=true
 |[],i=>by simp[bq.L2]
 |y::l,i=>by
  simp only[bq.L2]
  rw[M6,EC p l (i+1)]
  constructor
  .rintro⟨h1,h2⟩ j x hj z hz
   cases j with
   |zero=>simp at hj;subst hj;exact h1 z hz
   |succ j=>have:=h2 j x (by simpa using hj) z hz;rw[show i+(j+1)=i+1+j from by omega];exact this
  .intro h
   refine⟨λz hz=>h 0 y rfl z hz,λj x hj z hz=>?_⟩
   have:=h (j+1) x (by simpa using hj) z hz
   rw[show i+(j+1)=i+1+j from by omega]at this;exact this
theorem Ck(p:Policy)(k:Except Int Unit):∀l i,bq.L1 p k l i=.ok ()↔(∀j r,l[j]? = some r->((r.Kind.toList==(nthI p.Kinds (((i+j:Nat):Int))).toList)&&aN r.Think 0 1099511627775)=true)/\k=.ok ()
 |[],i=>by simp[bq.L1]
 |y::l,i=>by
  simp only[bq.L1]
  rw[qo,Ck p k l (i+1)]
  constructor
  .rintro⟨h1,h2,h3⟩
   refine⟨λj r hj=>?_,h3⟩
   cases j with
   |zero=>simp at hj;subst hj;exact h1
   |succ j=>have:=h2 j r (by simpa using hj);rw[show i+(j+1)=i+1+j from by omega];exact this
  .rintro⟨h,h3⟩
   refine⟨h 0 y rfl,λj r hj=>?_,h3⟩
   have:=h (j+1) r (by simpa using hj)
   rw[show i+(j+1)=i+1+j from by omega]at this;exact this
theorem QA(p:Policy):NZ (bq p):=by
 have h4:∀i(k:Except Int Unit),NZ k->∀l,NZ (bq.L4 p i k l):=by
  intro i k hk l
  induction l with
  |nil=>exact hk
  |cons y l ih=>exact NZ.exi (NZ.must (by omega)) (NZ.exi (NZ.must (by omega)) ih)
 have h2:∀l i,NZ (bq.L2 p (.ok ()) l i):=by
  intro l
  induction l with
  |nil=>exact λ_=>NZ.ok
  |cons y l ih=>exact λi=>h4 i _ (ih _) _
 have h1:∀l i,NZ (bq.L1 p (bq.K1 p) l i):=by
  intro l
  induction l with
  |nil=>exact λ_=>h2 _ _
  |cons y l ih=>exact λi=>NZ.exi (NZ.must (by omega)) (ih _)
 exact NZ.exi (NZ.must (by omega)) (h1 _ _)
theorem Dy(p:Policy):NZ (dE p):=
 NZ.exi (OQ p) (NZ.exi (Pi p) (NZ.exi (QA p) NZ.ok))
theorem Bc{x:Except Int Unit}{f:Unit->Except Int Unit}:exi x f=.ok ()↔x=.ok ()/\f ()=.ok ():=by
 cases x with
 |ok u=>simp[exi]
 |error e=>simp[exi]
theorem tH(p:Policy):dE p=.ok ()↔cx p=.ok ()/\cy p=.ok ()/\bq p=.ok ():=by
 unfold dE
 rw[Bc,Bc,Bc]
 simp
theorem J8(p:Policy):(ef p).2=attR (dE p):=by
 have hL:∀l i g,(ef.L1 p (ef.K1 p) l i g).2=0:=by
  intro l
  induction l with
  |nil=>exact λ_ _=>rfl
  |cons y l ih=>exact λi g=>ih _ _
 unfold ef
 by_cases h:attR (dE p)=0
 .simp[h,hL]
 .rw[show(attR (dE p) != 0)=true from by simpa using h];rfl
theorem K8(p:Policy)(k:Int):∀l i,dk.L1 p k l i=0↔(∀j r,l[j]? = some r->r.KindNo=((i+j:Nat):Int)/\bR p.Offices r.Expr=true)/\k=0
 |[],i=>by simp[dk.L1]
 |y::l,i=>by
  simp only[dk.L1,Bool.cond_eq_ite]
  split
  .next h=>
   simp only[xD,bne_iff_ne,qE]at h
   constructor
   .intro h';omega
   .rintro⟨h1,_⟩
    have:=h1 0 y rfl
    simp only[Nat.add_zero]at this
    rcases h with h|h
    .exact absurd this.1 h
    .rw[this.2]at h;cases h
  .next h=>
   simp only[xD,bne_iff_ne,qE,not_or,Decidable.not_not,Bool.not_eq_false]at h
   rw[K8 p k l (i+1)]
   constructor
   .rintro⟨h1,h2⟩
    refine⟨λj r hj=>?_,h2⟩
    cases j with
    |zero=>simp at hj;subst hj;exact h
    |succ j=>have:=h1 j r (by simpa using hj);rw[show i+(j+1)=i+1+j from by omega];exact this
   .rintro⟨h1,h2⟩
    refine⟨λj r hj=>?_,h2⟩
    have:=h1 (j+1) r (by simpa using hj)
    rw[show i+(j+1)=i+1+j from by omega]at this;exact this
theorem CB(p:Policy):dk p=0↔dE p=.ok ()/\(∀(j:Nat)r,p.Rules[j]? = some r->r.KindNo=(j:Int)/\bR p.Offices r.Expr=true)/\bR p.Offices p.Change=true:=by
 unfold dk
 rw[J8]
 by_cases h:attR (dE p)=0
 .have h2:=(Il (Dy p)).1 h
  have hk:dk.K1 p=0↔bR p.Offices p.Change=true:=by
   unfold dk.K1
   cases bR p.Offices p.Change<;>simp
  rw[show(attR (dE p) != 0)=false from by simpa using h,cond_false,K8,hk]
  simp only[Nat.zero_add,h2,true_and]
 .have h2:¬dE p=.ok ():=λe=>h ((Il (Dy p)).2 e)
  rw[show(attR (dE p) != 0)=true from by simpa using h,cond_true]
  simp[h,h2]
theorem PY{c x:Bool}:(bif c then false else x)=true↔c=false/\x=true:=by cases c<;>simp
theorem qU(off:List ByteArray):∀l,bR.L1 off true l=true↔∀z∈l,z.x.No=(bif du z.x then aR off z.x.Name else 0)
 |[]=>by simp[bR.L1]
 |y::l=>by
  simp only[bR.L1,qC,forall_eq_or_imp]
  cases du y.x with
  |true=>
   rw[cond_true,cond_true,PY,qU off l];simp
  |false=>
   rw[cond_false,cond_false,PY,qU off l];simp
theorem KD(v:ByteArray):∀(l:List ByteArray)(i:Nat),aR.L1 v (-1) l i=-1\/((i:Int)<=aR.L1 v (-1) l i/\aR.L1 v (-1) l i<((i+l.length:Nat):Int))
 |[],i=>.inl rfl
 |y::l,i=>by
  simp only[aR.L1,Bool.cond_eq_ite,xA]
  split
  .right;omega
  .rcases KD v l (i+1)with h|h
   .exact .inl h
   .right;omega
theorem Pp(l:List ByteArray)(v:ByteArray):aR l v<(l.length:Int):=by
 have:=KD v l 0
 unfold aR aR.K1
 omega
theorem zg{p:Policy}(hc:dk p=0):p.Rules.length=p.Kinds.length/\p.Offices.length<=32/\(∀x∈ay p,OkX (p.Offices.length:Int) x):=by
 obtain⟨h1,h2,h3⟩:=(CB p).1 hc
 obtain⟨hs,hn,hf⟩:=(tH p).1 h1
 have hf':=hf
 unfold bq at hf
 rw[qo,Ck]at hf
 simp only[xB,decide_eq_true_eq,beq_iff_eq]at hf
 obtain⟨⟨⟨_,hlen⟩,hmode⟩,hrules,hK⟩:=hf
 unfold bq.K1 bq.K2 at hK
 rw[EC]at hK
 obtain⟨⟨ho,_,_⟩,_⟩:=(Bz p).1 hs
 obtain⟨_,hnm⟩:=(FD p).1 hn
 refine⟨by omega,ho,λx hx=>?_⟩
 have hres:∀z∈bu x 1,z.x.No=(bif du z.x then aR p.Offices z.x.Name else 0):=by
  have hr:bR p.Offices x=true:=by
   rw[nf]at hx
   rcases List.mem_append.1 hx with hx|hx
   .obtain⟨r,hr,rfl⟩:=jQ.1 hx
    obtain⟨j,hj⟩:=aBo hr
    exact(h2 j r hj).2
   .rw[List.mem_singleton.1 hx];exact h3
  unfold bR bR.K1 at hr
  exact(qU _ _).1 hr
 obtain⟨j,hj⟩:=aBo hx
 have hfm:=λz hz=>(hK j x hj z hz).1
 have hnx:=hnm x hx
 clear hK hnm hj
 let Q:Expr->Prop:=λx=>(1<=x.Kind/\x.Kind<=4)/\(x.Kind<=2->0<=x.No/\x.No<(p.Offices.length:Int))/\(x.Kind=4->x.L.length=2)
 have all:∀z∈bu x 1,(λx:Expr=>(1<=x.Kind/\x.Kind<=4)/\(x.Kind<=2->0<=x.No/\x.No<(p.Offices.length:Int))/\(x.Kind=4->x.L.length=2)) z.x:=by
  intro z hz
  have a:=hfm z hz
  have b:=hnx z hz
  have c:=hres z hz
  simp only[xB,aN,decide_eq_true_eq]at a
  refine⟨a.1,λhk=>?_,λhk=>?_⟩
  .have hnamed:du z.x=true:=by
    have:z.x.Kind=1\/z.x.Kind=2:=by omega
    rcases this with e|e<;>simp[du,e]
   simp only[hnamed,Bool.not_true,Bool.false_or,cond_true]at b c
   have hge:0<=aR p.Offices z.x.Name:=by
    have h9:=b
    simp only[di,decide_eq_true_eq,ge_iff_le]at h9
    exact h9
   have:=Pp p.Offices z.x.Name
   omega
  .have h9:=a.2
   rw[hk]at h9
   simp only[kindsP]at h9
   simp[jd]at h9
   omega
 clear hfm hnx hres hx
 revert all
 refine Expr.ind (P:=λx=>(∀z∈bu x 1,Q z.x)->OkX (p.Offices.length:Int) x) ?_ x
 intro x ih all
 rw[qn Q]at all
 obtain⟨⟨a,b,c⟩,d⟩:=all
 exact OkX.mk x a b c λy hy=>ih y hy (d y hy)
theorem GC{p:Policy}(hc:dk p=0):(1<=p.Mode/\p.Mode<=4)/\p.Rules.length<=16/\∀r∈p.Rules,0<=r.Think/\r.Think<=1099511627775:=by
 obtain⟨h1,_,_⟩:=(CB p).1 hc
 obtain⟨hs,_,hf⟩:=(tH p).1 h1
 unfold bq at hf
 rw[qo,Ck]at hf
 simp only[xB,aN,decide_eq_true_eq]at hf
 obtain⟨⟨⟨_,_⟩,hmode⟩,hrules,_⟩:=hf
 obtain⟨⟨_,_,hr⟩,_⟩:=(Bz p).1 hs
 refine⟨hmode,hr,λr hr=>?_⟩
 obtain⟨j,hj⟩:=aBo hr
 exact(hrules j r hj).2
theorem Gq{p:Policy}{r:Rule}(h:r∈p.Rules):r.Expr∈ay p:=by
 rw[nf];exact List.mem_append_left _ (List.mem_map_of_mem h)
theorem HZ:∀(l:List Int)(g:Int),e8.L1 e8.K1 l g=true↔(∀x∈l,g<x/\x<64)/\l.Pairwise (·<·)
 |[],g=>by simp[e8.L1,e8.K1]
 |y::l,g=>by
  simp only[e8.L1,Bool.cond_eq_ite,xD,decide_eq_true_eq]
  split
  .next h=>
   constructor
   .intro h';cases h'
   .rintro⟨h1,_⟩;have:=h1 y (zB ..);omega
  .next h=>
   rw[HZ l y,List.pairwise_cons]
   simp only[qC,forall_eq_or_imp]
   constructor
   .rintro⟨h1,h2⟩
    exact⟨⟨by omega,λx hx=>by have:=h1 x hx;omega⟩,λx hx=>(h1 x hx).1,h2⟩
   .rintro⟨⟨h1,h2⟩,h3,h4⟩
    exact⟨λx hx=>⟨h3 x hx,(h2 x hx).2⟩,h4⟩
theorem NF(l:List Int):e8 l=true↔(∀x∈l,0<=x/\x<64)/\l.Pairwise (·<·):=by
 unfold e8
 rw[HZ]
 constructor
 .rintro⟨h1,h2⟩;exact⟨λx hx=>by have:=h1 x hx;omega,h2⟩
 .rintro⟨h1,h2⟩;exact⟨λx hx=>by have:=h1 x hx;omega,h2⟩
theorem Hc{l:List Int}(h:e8 l=true):l.Pairwise (·<=·):=((NF l).1 h).2.imp (λh=>Int.le_of_lt h)
theorem NB{hs:List (List Holder)}{n:Int}(h:eJ hs n=true):(hs.length:Int)=n:=by
 have h3:∀(k:List Int->Bool)(l:List Holder)(g:List Int),eJ.L3 k l g=true->∃g',k g'=true:=by
  intro k l
  induction l with
  |nil=>exact λg h=>⟨g,h⟩
  |cons y l ih=>
   intro g h
   simp only[eJ.L3,Bool.cond_eq_ite]at h
   split at h
   .cases h
   .exact ih _ h
 have h1:∀(k:Bool)(l:List (List Holder)),eJ.L1 k l=true->k=true:=by
  intro k l
  induction l with
  |nil=>exact λh=>h
  |cons y l ih=>
   intro h
   obtain⟨g',hg⟩:=h3 _ _ _ h
   simp only[Bool.cond_eq_ite]at hg
   split at hg
   .cases hg
   .exact ih hg
 have:=h1 _ _ h
 simpa[eJ.K1]using this
theorem DZ:∀(l:List Version)(g:Int),-1<=g->g<=1048576->(bw.L1 bw.K1 l g=0 ↔
  (∀v∈l,(0<=v.At/\v.At<=1099511627775)/\(0<=v.Known/\v.Known<=1099511627775)/\v.No<=1048576/\dk v.Policy=0)/\(∀v∈l,g<v.No)/\l.Pairwise (λa b=>a.No<b.No))
 |[],g,_,_=>by simp[bw.L1,bw.K1]
 |y::l,g,h0,h1=>by
  simp only[bw.L1,wrap64 (z:=g+1) (by omega),aN]
  by_cases hy:((0<=y.At/\y.At<=1099511627775)/\(0<=y.Known/\y.Known<=1099511627775)/\y.No<=1048576/\dk y.Policy=0)/\g<y.No
  .obtain⟨⟨⟨a,a'⟩,⟨b,b'⟩,c,d⟩,e⟩:=hy
   have hc:(!(decide (g+1<=y.No)&&decide (y.No<=1048576))||!(decide (0<=y.At)&&decide (y.At<=1099511627775))||!(decide (0<=y.Known)&&decide (y.Known<=1099511627775))||dk y.Policy != 0)=false:=by
    simp[a,a',b,b',c,d];omega
   rw[hc,cond_false,DZ l y.No (by omega) c,List.pairwise_cons]
   simp only[qC,forall_eq_or_imp]
   constructor
   .rintro⟨h2,h3,h4⟩
    exact⟨⟨⟨⟨a,a'⟩,⟨b,b'⟩,c,d⟩,h2⟩,⟨e,λv hv=>by have:=h3 v hv;omega⟩,h3,h4⟩
   .rintro⟨⟨_,h2⟩,_,h3,h4⟩;exact⟨h2,h3,h4⟩
  .have hc:(!(decide (g+1<=y.No)&&decide (y.No<=1048576))||!(decide (0<=y.At)&&decide (y.At<=1099511627775))||!(decide (0<=y.Known)&&decide (y.Known<=1099511627775))||dk y.Policy != 0)=true:=by
    apply Classical.byContradiction
    intro hn
    apply hy
    simp only[Bool.not_eq_true,Bool.or_eq_false_iff,Bool.not_eq_false',xB,decide_eq_true_eq,bne_eq_false_iff_eq]at hn
    obtain⟨⟨⟨a,b⟩,c⟩,d⟩:=hn
    exact⟨⟨b,c,a.2,d⟩,by omega⟩
   rw[hc,cond_true]
   constructor
   .intro h;omega
   .rintro⟨h2,h3,_⟩
    exact absurd ⟨h2 y (zB ..),h3 y (zB ..)⟩ hy
structure Is(l:List Version):Prop where
 len:l.length<=256
 each:∀v∈l,(0<=v.At/\v.At<=1099511627775)/\(0<=v.Known/\v.Known<=1099511627775)/\(0<=v.No/\v.No<=1048576)/\dk v.Policy=0
 inc:l.Pairwise (λa b=>a.No<b.No)
theorem mL(l:List Version):bw l=0↔Is l:=by
 unfold bw
 by_cases hl:l.length<=256
 .rw[show decide (256<(l.length:Int))=false from decide_eq_false (by omega),cond_false,DZ l (-1) (by omega) (by omega)]
  constructor
  .rintro⟨h1,h2,h3⟩;exact⟨hl,λv hv=>by have a:=h1 v hv;have b:=h2 v hv;exact⟨a.1,a.2.1,⟨by omega,a.2.2.1⟩,a.2.2.2⟩,h3⟩
  .rintro⟨_,h1,h3⟩;exact⟨λv hv=>by have:=h1 v hv;exact⟨this.1,this.2.1,by omega,this.2.2.2⟩,λv hv=>by have:=h1 v hv;omega,h3⟩
 .rw[show decide (256<(l.length:Int))=true from decide_eq_true (by omega),cond_true]
  exact⟨λh=>by omega,λh=>absurd h.len hl⟩
theorem Is.mode{l:List Version}(g:Is l){v:Version}(hv:v∈l):1<=v.Policy.Mode/\v.Policy.Mode<=4:=(GC (g.each v hv).2.2.2).1
theorem uN{κ α : Type}[DecidableEq κ](k:κ)(v:α):∀(m:List (κ×α))(x:κ),mget? (mput m k v) x=if x=k then some v else mget? m x
 |[],x=>by simp[mput,mget?]
 |(k',v')::m,x=>by
  simp only[mput]
  by_cases e:k=k'
  .subst e;by_cases e2:x=k<;>simp[mget?,e2]
  .simp only[e,if_false,mget?,uN k v m x]
   by_cases e2:x=k'
   .subst e2;simp[Ne.symm e]
   .simp[e2]
theorem DF{κ α : Type}[DecidableEq κ]{x:κ}:∀{m:List (κ×α)},x∈m.map (·.1)->∃v,mget? m x=some v/\(x,v)∈m
 |(k,v)::m,h=>by
  by_cases e:x=k
  .subst e;exact⟨v,by simp[mget?],by simp⟩
  .simp only[List.map_cons,qC,e,false_or]at h
   obtain⟨u,h1,h2⟩:=DF h
   exact⟨u,by simp[mget?,e,h1],vA _ h2⟩
theorem uM{κ α : Type}[DecidableEq κ]{k:κ}{v:α}{q:κ×α}:∀{m:List (κ×α)},q∈mput m k v->q=(k,v)\/q∈m
 |[],h=>by simp[mput]at h;exact .inl h
 |(k',v')::m,h=>by
  simp only[mput]at h
  split at h
  .rcases qC.1 h with h|h
   .exact .inl h
   .exact .inr (vA _ h)
  .rcases qC.1 h with h|h
   .exact .inr (h▸zB ..)
   .rcases uM h with h|h
    .exact .inl h
    .exact .inr (vA _ h)
theorem FT(g:List (Int×Version)):∀l,bL.L2 g [] l=l.map λy=>(y,mgetD g y (aA1 0 0 0 (kN (⟨#[]⟩:ByteArray) [] [] [] (xG 0 0 0 (⟨#[]⟩:ByteArray) []) 0)))
 |[]=>rfl
 |y::l=>by simp[bL.L2,FT g l]
def inForceM(known eV:Int):List Version->Int->List (Int×Version)->List (Int×Version)
 |[],_,m=>m
 |y::l,b,m=>bif decide (known<y.Known)then inForceM known eV l b m else bif decide (y.At<=eV)then(bif decide (y.At<b)then inForceM known eV l b m else inForceM known eV l y.At (mput m eV y))else inForceM known eV l b (mput m y.At y)
theorem FU(known eV:Int)(k:Int->List (Int×Version)->List (Int×Version))(hk:∀a b m,k a m=k b m):∀l b m,bL.L1 known eV k l b m=k 0 (inForceM known eV l b m)
 |[],b,m=>hk _ _ _
 |y::l,b,m=>by
  simp only[bL.L1,inForceM,FU known eV k hk l]
  cases decide (known<y.Known)<;>cases decide (y.At<=eV)<;>cases decide (y.At<b)<;>rfl
theorem sY(l:List Version)(eV known:Int):fF l eV known=(sortI ((inForceM known eV l (-1) []).map Prod.fst)).map λy=>(y,mgetD (inForceM known eV l (-1) []) y (aA1 0 0 0 (kN (⟨#[]⟩:ByteArray) [] [] [] (xG 0 0 0 (⟨#[]⟩:ByteArray) []) 0))):=by
 unfold fF bL
 rw[FU _ _ _ (λ_ _ _=>rfl)]
 exact FT _ _
theorem py(known eV:Int)(P:Int×Version->Prop):∀(l:List Version)b m,(∀y∈l,y.At<=eV->P (eV,y))->(∀y∈l,eV<y.At->P (y.At,y))->(∀q∈m,P q)->∀q∈inForceM known eV l b m,P q
 |[],_,_,_,_,hm=>hm
 |y::l,b,m,h1,h2,hm=>by
  have h1':=λz hz=>h1 z (vA _ hz)
  have h2':=λz hz=>h2 z (vA _ hz)
  simp only[inForceM,Bool.cond_eq_ite,decide_eq_true_eq]
  split
  .exact py known eV P l b m h1' h2' hm
  .split
   .next ha=>
    split
    .exact py known eV P l b m h1' h2' hm
    .refine py known eV P l _ _ h1' h2' (λq hq=>?_)
     rcases uM hq with rfl|hq
     .exact h1 y (zB ..) ha
     .exact hm q hq
   .next ha=>
    refine py known eV P l _ _ h1' h2' (λq hq=>?_)
    rcases uM hq with rfl|hq
    .exact h2 y (zB ..) (by omega)
    .exact hm q hq
theorem DO{l:List Version}{eV known:Int}(P:Int×Version->Prop)(h1:∀y∈l,y.At<=eV->P (eV,y))(h2:∀y∈l,eV<y.At->P (y.At,y)):∀q∈fF l eV known,P q:=by
 intro q hq
 rw[sY]at hq
 obtain⟨y,hy,rfl⟩:=jQ.1 hq
 have hy':=(mP _).mem_iff.1 hy
 obtain⟨v,e,hv⟩:=DF hy'
 have:mgetD (inForceM known eV l (-1) []) y (aA1 0 0 0 (kN (⟨#[]⟩:ByteArray) [] [] [] (xG 0 0 0 (⟨#[]⟩:ByteArray) []) 0))=v:=by simp[mgetD,e]
 simp only[this]
 exact py known eV P l (-1) [] h1 h2 (λq hq=>(kA hq).elim) _ hv
theorem yv{l:List Version}{eV known:Int}:∀q∈fF l eV known,q.2∈l:=
 DO (λq=>q.2∈l) (λy hy _=>hy) (λy hy _=>hy)
theorem rX(known eV:Int):∀(l:List Version)b m,(inForceM known eV l b m).length<=m.length+l.length
 |[],_,_=>kF _
 |y::l,b,m=>by
  have a1:=rX known eV l b m
  have a2:=rX known eV l y.At (mput m eV y)
  have a3:=rX known eV l b (mput m y.At y)
  have b2:=m9 m eV y
  have b3:=m9 m y.At y
  simp only[inForceM,Bool.cond_eq_ite,xA]
  split
  .omega
  .split
   .split<;>omega
   .omega
theorem DN(l:List Version)(eV known:Int):(fF l eV known).length<=l.length:=by
 rw[sY,List.length_map,jc,List.length_map]
 have:=rX known eV l (-1) []
 simpa using this
theorem BC:∀{a b:List OSeat},a.Pairwise (λx y=>x.person<y.person)->b.Pairwise (λx y=>x.person<y.person)->a.Perm b->a=b
 |[],b,_,_,p=>(List.Perm.nil_eq p)
 |x::a,[],_,_,p=>absurd p.length_eq (by simp)
 |x::a,y::b,ha,hb,p=>by
  have hx:x=y:=by
   have h1:x∈y::b:=p.mem_iff.1 (zB ..)
   have h2:y∈x::a:=p.mem_iff.2 (zB ..)
   rw[List.pairwise_cons]at ha hb
   rcases qC.1 h1 with e|h1
   .exact e
   .rcases qC.1 h2 with e|h2
    .exact e.symm
    .have:=ha.1 y h2;have:=hb.1 x h1;omega
  subst hx
  rw[List.pairwise_cons]at ha hb
  rw[BC ha.2 hb.2 (List.Perm.cons_inv p)]
theorem BD{office:Int}{l:List OSeat}(hn:l.Nodup)(hs:l.Pairwise (λx y=>x.person<=y.person)):(l.filter (λy=>y.office==office)).Pairwise (λx y=>x.person<y.person):=by
 induction l with
 |nil=>exact List.Pairwise.nil
 |cons x l ih=>
  rw[kR]at hn
  rw[List.pairwise_cons]at hs
  rw[List.filter_cons]
  split
  .next h=>
   rw[List.pairwise_cons]
   refine⟨λy hy=>?_,ih hn.2 hs.2⟩
   obtain⟨hy1,hy2⟩:=List.mem_filter.1 hy
   have h1:=hs.1 y hy1
   rcases Int.lt_or_eq_of_le h1 with h2|h2
   .exact h2
   .exfalso
    have:x=y:=by
     cases x;cases y
     simp at h hy2 h2
     simp[h,hy2,h2]
    exact hn.1 (this▸hy1)
  .exact ih hn.2 hs.2
theorem vI(m:List (OSeat×Appoint))(office:Int):∀l,co.L1 m office [] l=(l.filter λy=>y.office==office).filterMap λy=>bif(mgetD m y (jC 0 0 0 0 0 0 false)).Gone then none else some (aCF (mgetD m y (jC 0 0 0 0 0 0 false)).Person (mgetD m y (jC 0 0 0 0 0 0 false)).Weight)
 |[]=>rfl
 |y::l=>by
  simp only[co.L1,vI m office l,List.filter_cons]
  cases h1:y.office==office<;>cases h2:(mgetD m y (jC 0 0 0 0 0 0 false)).Gone<;>simp[h2]
theorem Hi{m:List (OSeat×Appoint)}{office:Int}{ys:List OSeat}(hn:(m.map (·.1)).Nodup)(hp:ys.Perm (m.map Prod.fst))(hs:ys.Pairwise (λx y=>x.person<=y.person)):
  co m office=[]++((co.L1 m office co.K1) ys):=by
 unfold co co.K1
 rw[zG,vI,vI]
 have h1:(seatS (m.map Prod.fst)).Nodup:=(vo _).nodup_iff.2 hn
 have h2:ys.Nodup:=hp.nodup_iff.2 hn
 rw[BC (BD h1 (BE _)) (BD h2 hs) (((vo _).trans hp.symm).filter _)]
theorem yp(key:Appoint->OSeat×Bool)(later:Appoint->Appoint->Bool):∀(l:List Appoint)m,(cJ.L1 key later cJ.K1 l m).length<=m.length+l.length
 |[],m=>by simp[cJ.L1,cJ.K1]
 |y::l,m=>by
  have a:=yp key later l m
  have b:=yp key later l (mput m (key y).1 y)
  have c:=m9 m (key y).1 y
  simp only[cJ.L1,Bool.cond_eq_ite,xA]
  split<;>omega
theorem vj(l:List Appoint)(a b:Int):(cW l a b).length<=l.length:=by
 have:=yp (λdl=>gi dl a b) jI l []
 simpa[cW,cJ]using this
theorem K0(l:List Holder):gd l=l:=by
 have:∀(l g:List Holder),cu.L1 cu.K1 l g=g++l:=by
  intro l
  induction l with
  |nil=>intro g;simp[cu.L1,cu.K1]
  |cons y l ih=>intro g;simp[cu.L1,ih]
 simp[gd,cu,this]
theorem DQ(m:List (OSeat×Appoint))(office:Int):(ja m office).length<=m.length:=by
 unfold ja co co.K1
 rw[vI]
 have h1:=List.length_filterMap_le (λy=>bif(mgetD m y (jC 0 0 0 0 0 0 false)).Gone then none else some (aCF (mgetD m y (jC 0 0 0 0 0 0 false)).Person (mgetD m y (jC 0 0 0 0 0 0 false)).Weight)) ((seatS (m.map Prod.fst)).filter λy=>y.office==office)
 have h2:=List.length_filter_le (λy:OSeat=>y.office==office) (seatS (m.map Prod.fst))
 have h3:=(vo (m.map Prod.fst)).length_eq
 rw[List.length_map]at h3
 omega
theorem Lk(l:List Appoint)(office a b:Int):(ep l office a b).1.length<=l.length:=by
 unfold ep
 rw[K0]
 have h1:=DQ (cW l a b) office
 have h2:=vj l a b
 cases(cw l != 0)<;>cases((!(fj office))||(!(dz a))||(!(dz b)))<;>simp<;>omega
theorem jg(r:Register):dX r=0↔cw r.Appoints=0/\cS r.Deputies=0/\cq r.Interests=0/\bT r.Budgets=0/\bw r.Versions=0/\aV r.Docs=0/\bK r.Approvals=0:=by
 have e:dX r=(bif cw r.Appoints != 0 then 300 else bif cS r.Deputies != 0 then 300 else bif cq r.Interests != 0 then 300 else bif bT r.Budgets != 0 then 300 else bif bw r.Versions != 0 then 300 else bif aV r.Docs != 0 then 300 else bif bK r.Approvals != 0 then 300 else 0):=rfl
 rw[e]
 have key:∀(a x:Int),(bif a != 0 then 300 else x)=0↔a=0/\x=0:=by
  intro a x
  by_cases h:a=0
  .simp[h]
  .have:(a != 0)=true:=by simpa using h
   rw[this];simp[h]
 simp only[key,and_true]
theorem MQ(limit:Int)(k:Int->Bool):∀(l:List Int)(g:Int),dJ.L1 limit k l g=true↔((∀x∈l,g<x/\x<limit)/\l.Pairwise (·<·))/\∃g',(l=[]/\g'=g\/l.getLast? = some g')/\k g'=true
 |[],g=>by simp[dJ.L1]
 |y::l,g=>by
  simp only[dJ.L1,Bool.cond_eq_ite,xD,decide_eq_true_eq]
  split
  .next h=>
   constructor
   .intro h';cases h'
   .rintro⟨⟨h1,_⟩,_⟩;have:=h1 y (zB ..);omega
  .next h=>
   rw[MQ limit k l y,List.pairwise_cons]
   simp only[qC,forall_eq_or_imp]
   constructor
   .rintro⟨⟨h1,h2⟩,g',h3,h4⟩
    refine⟨⟨⟨by omega,λx hx=>by have:=h1 x hx;omega⟩,λx hx=>(h1 x hx).1,h2⟩,g',?_,h4⟩
    rcases h3 with⟨rfl,rfl⟩|h3
    .simp
    .right;cases l with
     |nil=>simp at h3
     |cons z l=>simpa using h3
   .rintro⟨⟨⟨h1,h2⟩,h3,h4⟩,g',h5,h6⟩
    refine⟨⟨λx hx=>⟨h3 x hx,(h2 x hx).2⟩,h4⟩,g',?_,h6⟩
    rcases h5 with⟨h5,_⟩|h5
    .cases h5
    .cases l with
     |nil=>left;simp at h5;exact⟨rfl,h5.symm⟩
     |cons z l=>right;simpa using h5
theorem Ey(l:List Int)(limit:Int):dJ l limit=true↔((∀x∈l,0<=x/\x<limit)/\l.Pairwise (·<·))/\l.length<=16:=by
 unfold dJ
 rw[MQ]
 constructor
 .rintro⟨⟨h1,h2⟩,g',_,h3⟩
  refine⟨⟨λx hx=>by have:=h1 x hx;omega,h2⟩,?_⟩
  simp only[dJ.K1,decide_eq_true_eq]at h3
  omega
 .rintro⟨⟨h1,h2⟩,h3⟩
  refine⟨⟨λx hx=>by have:=h1 x hx;omega,h2⟩,?_⟩
  cases l with
  |nil=>exact⟨_,.inl ⟨rfl,rfl⟩,by simp[dJ.K1]⟩
  |cons y l=>
   refine⟨(y::l).getLast (by simp),.inr (List.getLast?_eq_some_getLast _),?_⟩
   simp only[dJ.K1,decide_eq_true_eq]
   omega
structure Nm(d:Document):Prop where
 no:0<=d.No/\d.No<4096
 at_:0<=d.At/\d.At<1099511627776
 kind:0<=d.Kind/\d.Kind<16
 value:0<=d.Value/\d.Value<=1099511627776
 eV:0<=d.From/\d.From<d.Until
 R6:d.Until<=1099511627776
 parties:((∀x∈d.Parties,0<=x/\x<1048577)/\d.Parties.Pairwise (·<·))/\d.Parties.length<=16
 revokes:((∀x∈d.Revokes,0<=x/\x<d.No)/\d.Revokes.Pairwise (·<·))/\d.Revokes.length<=16
 needs:((∀x∈d.Needs,0<=x/\x<d.No)/\d.Needs.Pairwise (·<·))/\d.Needs.length<=16
theorem J5(d:Document):gT d=true↔Nm d:=by
 unfold gT fS
 simp only[xB,decide_eq_true_eq,Ey]
 constructor
 .rintro⟨⟨⟨⟨⟨⟨⟨⟨⟨⟨⟨⟨a,b⟩,c,d⟩,e⟩,f⟩,g⟩,h⟩,i⟩,j⟩,k⟩,l⟩,m⟩,n⟩
  exact⟨⟨a,b⟩,⟨c,d⟩,⟨e,f⟩,⟨g,h⟩,⟨i,j⟩,k,l,m,n⟩
 .rintro⟨⟨a,b⟩,⟨c,d⟩,⟨e,f⟩,⟨g,h⟩,⟨i,j⟩,k,l,m,n⟩
  exact⟨⟨⟨⟨⟨⟨⟨⟨⟨⟨⟨⟨a,b⟩,c,d⟩,e⟩,f⟩,g⟩,h⟩,i⟩,j⟩,k⟩,l⟩,m⟩,n⟩
theorem Gu(l0:List Document):∀(l:List Document)(i:Nat),aV.L1 l0 0 l i=0->∀d∈l,gT d=true
 |[],_,_,_,hd=>(kA hd).elim
 |y::l,i,h,d,hd=>by
  simp only[aV.L1,Bool.cond_eq_ite]at h
  split at h
  .omega
  .next hc=>
   simp only[xD,not_or,qE,Bool.not_eq_false]at hc
   rcases qC.1 hd with rfl|hd
   .exact hc.1.1
   .exact Gu l0 l (i+1) h d hd
theorem Ig{l:List Document}(h:aV l=0):∀d∈l,Nm d:=by
 unfold aV aV.K1 at h
 rw[Bool.cond_eq_ite]at h
 split at h
 .omega
 .exact λd hd=>(J5 d).1 (Gu l l 0 h d hd)
theorem FW(f:Document->Bool):∀(l:List Document)(i:Nat),(ad.L1 f ad.K1 l i=-1/\∀x∈l,f x=false) \/
  ∃a y b,l=a++y::b/\ad.L1 f ad.K1 l i=((i+a.length:Nat):Int)/\f y=true/\∀x∈a,f x=false
 |[],i=>.inl ⟨rfl,λ_ h=>(kA h).elim⟩
 |y::l,i=>by
  simp only[ad.L1]
  cases hy:f y with
  |true=>exact .inr ⟨[],y,l,rfl,by simp,hy,λ_ h=>(kA h).elim⟩
  |false=>
   rcases FW f l (i+1)with⟨h1,h2⟩|⟨a,z,b,rfl,h2,h3,h4⟩
   .exact .inl ⟨h1,λx hx=>by rcases qC.1 hx with rfl|hx;exact hy;exact h2 x hx⟩
   .refine .inr ⟨y::a,z,b,rfl,?_,h3,λx hx=>by rcases qC.1 hx with rfl|hx;exact hy;exact h4 x hx⟩
    rw[cond_false,h2];simp only[xA];congr 1;omega
theorem LN(mode:Int)(l:List Version)(old:Bool):(judgesP mode l old).length<=l.length:=by
 unfold judgesP iW iy iV
 cases mode==1<;>cases mode==2<;>cases old<;>simp<;>omega
theorem Dj(k:List Int->List Int×Int×Int):∀(l:List Version)(g:List Int),ba.L2 k l g=k (g++l.map (·.No))
 |[],g=>by simp[ba.L2]
 |y::l,g=>by simp[ba.L2,Dj k l]
theorem Ir(begun at_:Int)(P:List Int×Int×Int->Prop)(n:Nat)(k:Bool->List Version->List Int×Int×Int)(hk:∀b g,g.length<=n->P (k b g)):∀(l:List (Int×Version))b g,g.length+l.length<=n->P (ba.L1 begun at_ k l b g)
 |[],b,g,h=>by simpa[ba.L1]using hk b g (by simpa using h)
 |y::l,b,g,h=>by
  simp only[ba.L1]
  simp only[xA]at h
  cases decide (at_<y.1)
  .exact Ir begun at_ P n k hk l _ _ (by simp;omega)
  .exact hk _ _ (by omega)
theorem Mh(l:List Version)(begun at_ known:Int):(ba l begun at_ known).1.length<=l.length:=by
 unfold ba
 cases(bw l != 0)
 .cases(((!(gO begun))||(!(gO at_)))||(!(gO known)))||decide (at_<begun)
  .simp only[cond_false]
   refine Ir begun at_ (λr=>r.1.length<=l.length) l.length _ ?_ _ _ _ (by have:=DN l begun known;simpa using this)
   intro b g hg
   unfold ba.K1
   cases((g.length:Int)==0)
   .simp only[cond_false,Dj,ba.K2,zG,jc,List.length_map]
    exact Nat.le_trans (LN _ _ _) hg
   .simp
  .simp
 .simp
theorem mR:smR (jG [] [] [] [] [] [] []):=by simp[smR,smV]
theorem us{P:Program}{f:FuncId}{args:List Value}{h:HF}{v v':Value}(t:Ret P f args h v)(e:v=v'):Ret P f args h v':=e▸t
structure Se(r:Register)(doc:Int)(who l:List Int):Prop where
 times:∀x∈l,0<=x/\x<1099511627776
 check:lh r=0
 doc0:0<=iK r doc
 people:nU who=true
theorem PX(L:List Document):∀(l:List Document)(i:Nat),dO.L1 L dO.K1 l i=0->∀d∈l,iE d=true
 |[],_,_=>λ_ h=>(kA h).elim
 |y::l,i,h=>by
  simp only[dO.L1,Bool.cond_eq_ite,xD,not_or]at h
  split at h
  .simp at h
  .next hc=>
   intro d hd
   rcases qC.1 hd with rfl|hd
   .simp only[not_or]at hc;simpa using hc.1.1.1
   .exact PX L l (i+1) h d hd
theorem K6{r:Register}(h:lh r=0):iH r.Appoints=0/\ij r.Deputies=0/\ig r.Interests=0/\fL r.Budgets=0/\dN r.Versions=0/\dO r.Docs=0/\ii r.Approvals=0:=by
 simp only[lh,Bool.cond_eq_ite,xD,bne_iff_ne]at h
 split at h
 .simp at h
 .next h1=>
  split at h
  .simp at h
  .next h2=>
   simp only[not_or,Classical.not_not]at h1 h2
   exact⟨h1.1.1.1,h1.1.1.2,h1.1.2,h1.2,h2.1.1,h2.1.2,h2.2⟩
theorem PW{l:List Document}(h:dO l=0):l.length<=4096/\∀d∈l,iE d=true:=by
 simp only[dO,Bool.cond_eq_ite,decide_eq_true_eq]at h
 split at h
 .simp at h
 .next h1=>exact⟨by omega,PX l l 0 h⟩
theorem HN{l:List Int}(h:l.Pairwise (·<=·))(hn:l.Nodup):l.Pairwise (·<·):=by
 induction l with
 |nil=>exact List.Pairwise.nil
 |cons x l ih=>
  rw[List.pairwise_cons]at h ⊢
  rw[kR]at hn
  exact⟨λy hy=>by have:=h.1 y hy;have:x≠y:=λe=>hn.1 (e▸hy);omega,ih h.2 hn.2⟩
section chk
variable {α : Type} [Inhabited α]
def refChk(R:α->Bool)(no:α->Int)(c:Int)(L:List α):List α->Nat->Int
 |[],_=>0
 |y::l,i=>bif(!(R y))||(decide (0<(i:Int))&&decide (no y<=no (nthI L ((i:Int)-1))))then c else refChk R no c L l (i+1)
def prgChk(R:α->Bool)(no:α->Int)(c:Int):List α->Int->Int
 |[],_=>0
 |y::l,g=>bif(!(R y))||decide (no y<=g)then c else prgChk R no c l (no y)
theorem K5(R:α->Bool)(no:α->Int)(c:Int)(L:List α):∀(l pre:List α)(x:α),L=(pre++[x])++l->refChk R no c L l (pre.length+1)=prgChk R no c l (no x)
 |[],_,_,_=>rfl
 |y::l,pre,x,h=>by
  have hx:nthI L (((pre.length+1:Nat):Int)-1)=x:=by
   have hb:0<=(((pre.length+1:Nat):Int)-1)/\(((pre.length+1:Nat):Int)-1)<(L.length:Int):=by rw[h];simp;omega
   have hg:=dh hb
   rw[show((((pre.length+1:Nat):Int)-1)).toNat=pre.length from by omega,h]at hg
   rw[h];simpa using hg.symm
  have hd:decide (0<((pre.length+1:Nat):Int))=true:=by rw[decide_eq_true_eq];omega
  have ih:=K5 R no c L l (pre++[x]) y (by rw[h];simp)
  rw[jA,xA,vB,Nat.zero_add]at ih
  simp only[refChk,prgChk,hx,hd,Bool.true_and,ih]
theorem GB(R:α->Bool)(no:α->Int)(c:Int)(hR:∀y,R y=true->0<=no y)(l:List α):refChk R no c l l 0=prgChk R no c l (-1):=by
 cases l with
 |nil=>rfl
 |cons y l=>
  have ih:=K5 R no c (y::l) l [] y rfl
  simp only[vB,Nat.zero_add]at ih
  simp only[refChk,prgChk,Nat.zero_add,ih]
  cases hr:R y with
  |false=>rfl
  |true=>
   have:decide (no y<=-1)=false:=by have:=hR y hr;simp;omega
   rw[this];rfl
end chk
theorem DE(l:List Appoint):cw l=iH l:=by
 have hR:∀x,mn x=j4 x:=λx=>by
  rw[jP]
  simp only[mn,j4,Bool.cond_eq_ite]
  cases x.Gone<;>simp only[if_true,if_false,jL,xB,xD,qE,decide_eq_true_eq,decide_eq_false_iff_not,beq_iff_eq,dY,dz,fj,fY,nD,nW,nV,Bool.and_eq_false_iff]
   <;> (split<;>simp only[jL,iff_false,decide_eq_true_eq,xB,beq_iff_eq]<;>omega)
 have h1:∀(L l:List Appoint)i,iH.L1 L iH.K1 l i=refChk j4 (·.No) 150 L l i:=by
  intro L l
  induction l with
  |nil=>intro i;rfl
  |cons y l ih=>intro i;simp only[iH.L1,refChk,ih]
 have h2:∀(l:List Appoint)g,cw.L1 cw.K1 l g=prgChk j4 (·.No) 150 l g:=by
  intro l
  induction l with
  |nil=>intro g;rfl
  |cons y l ih=>intro g;simp only[cw.L1,prgChk,ih,hR]
 unfold cw iH
 rw[h1,h2,GB]
 intro y hy
 simp only[j4,Bool.cond_eq_ite]at hy
 split at hy
 .cases hy
 .next h=>simp only[xD,not_or,decide_eq_true_eq]at h;omega
theorem Cu(l:List Deputy):cS l=ij l:=by
 have hR:∀x,lT x=j3 x:=λx=>by
  rw[jP]
  simp only[lT,j3,Bool.cond_eq_ite,dg,gE,ga,ik,nC,mf]
  generalize (!(decide (0<=x.No)&&decide (x.No<=1048576))||!(decide (0<=x.At)&&decide (x.At<=1099511627775))||!(decide (0<=x.Known)&&decide (x.Known<=1099511627775))||!(decide (0<=x.From)&&decide (x.From<=63))||!(decide (0<=x.To)&&decide (x.To<=63))||x.From==x.To)=A
  cases A<;>simp
 have h1:∀(L l:List Deputy)i,ij.L1 L ij.K1 l i=refChk j3 (·.No) 160 L l i:=by
  intro L l
  induction l with
  |nil=>intro i;rfl
  |cons y l ih=>intro i;simp only[ij.L1,refChk,ih]
 have h2:∀(l:List Deputy)g,cS.L1 cS.K1 l g=prgChk j3 (·.No) 160 l g:=by
  intro l
  induction l with
  |nil=>intro g;rfl
  |cons y l ih=>intro g;simp only[cS.L1,prgChk,ih,hR]
 unfold cS ij
 rw[h1,h2,GB]
 intro y hy
 simp only[j3,Bool.cond_eq_ite]at hy
 split at hy
 .cases hy
 .next h=>simp only[xD,not_or,decide_eq_true_eq,ik,qE,Bool.and_eq_false_iff,decide_eq_false_iff_not]at h;omega
theorem An(l:List Interest):cq l=ig l:=by
 have hR:∀x,lA x=jX x:=λx=>by
  rw[jP]
  simp only[lA,jX,Bool.cond_eq_ite,bJ,nz,mI,nT]
  cases x.Of<;>simp only[if_true,if_false,jL,xB,xD,qE,decide_eq_true_eq,decide_eq_false_iff_not,bne_iff_ne,Bool.and_eq_false_iff]
   <;> (split<;>simp only[jL,iff_false,decide_eq_true_eq,xB,bne_iff_ne]<;>omega)
 have h1:∀(L l:List Interest)i,ig.L1 L ig.K1 l i=refChk jX (·.No) 290 L l i:=by
  intro L l
  induction l with
  |nil=>intro i;rfl
  |cons y l ih=>intro i;simp only[ig.L1,refChk,ih]
 have h2:∀(l:List Interest)g,cq.L1 cq.K1 l g=prgChk jX (·.No) 290 l g:=by
  intro l
  induction l with
  |nil=>intro g;rfl
  |cons y l ih=>intro g;simp only[cq.L1,prgChk,ih,hR]
 unfold cq ig
 rw[h1,h2,GB]
 intro y hy
 simp only[jX,Bool.cond_eq_ite]at hy
 split at hy
 .cases hy
 .next h=>simp only[xD,not_or,decide_eq_true_eq]at h;omega
theorem DP(f:Int->Bool):∀(l:List Int)(i:Nat),decide (0<=dM.L1 f dM.K1 l i)=l.any f
 |[],i=>by simp[dM.L1,dM.K1]
 |y::l,i=>by
  have ih:=DP f l (i+1)
  simp only[dM.L1,List.any_cons]
  by_cases hf:f y=true
  .simp[hf]
  .simp only[Bool.not_eq_true]at hf
   simp only[hf,cond_false,Bool.false_or]
   exact ih
theorem containsF(l:List Int)(f:Int->Bool):cB l f=l.any f:=DP f l 0
theorem yL(l:List Budget):bT l=fL l:=by
 have hR:∀x,ka x=j0 x:=λx=>by
  rw[jP]
  simp only[ka,j0,Bool.cond_eq_ite,aO,containsF,iA,List.any_cons,List.any_nil,Bool.or_false,fP,gY]
  cases x.Gone<;>simp only[if_true,if_false,jL,xB,xD,qE,decide_eq_true_eq,decide_eq_false_iff_not,beq_iff_eq,Bool.and_eq_false_iff,Bool.or_eq_false_iff]
   <;> (split<;>simp only[jL,iff_false,decide_eq_true_eq,xB,beq_iff_eq]<;>omega)
 have h1:∀(L l:List Budget)i,fL.L1 L fL.K1 l i=refChk j0 (·.No) 180 L l i:=by
  intro L l
  induction l with
  |nil=>intro i;rfl
  |cons y l ih=>intro i;simp only[fL.L1,refChk,ih]
 have h2:∀(l:List Budget)g,bT.L1 bT.K1 l g=prgChk j0 (·.No) 180 l g:=by
  intro l
  induction l with
  |nil=>intro g;rfl
  |cons y l ih=>intro g;simp only[bT.L1,prgChk,ih,hR]
 unfold bT fL
 rw[h1,h2,GB]
 intro y hy
 simp only[j0,Bool.cond_eq_ite]at hy
 split at hy
 .cases hy
 .next h=>simp only[xD,not_or,decide_eq_true_eq,fP,qE,Bool.and_eq_false_iff,decide_eq_false_iff_not]at h;omega
theorem Aw(l:List Approval):bK l=ii l:=by
 have hR:∀x,jb x=jY x:=λx=>by
  rw[jP]
  simp only[jb,jY,Bool.cond_eq_ite,dv,containsF,ic,List.any_cons,List.any_nil,Bool.or_false,gH,nA,si]
  simp only[xB,xD,qE,decide_eq_true_eq,decide_eq_false_iff_not,Bool.and_eq_false_iff,Bool.or_eq_false_iff]
  split<;>simp only[jL,iff_false,decide_eq_true_eq,xB]<;>omega
 have h1:∀(L l:List Approval)i,ii.L1 L ii.K1 l i=refChk jY (·.No) 280 L l i:=by
  intro L l
  induction l with
  |nil=>intro i;rfl
  |cons y l ih=>intro i;simp only[ii.L1,refChk,ih]
 have h2:∀(l:List Approval)g,bK.L1 bK.K1 l g=prgChk jY (·.No) 280 l g:=by
  intro l
  induction l with
  |nil=>intro g;rfl
  |cons y l ih=>intro g;simp only[bK.L1,prgChk,ih,hR]
 unfold bK ii
 rw[h1,h2,GB]
 intro y hy
 simp only[jY,Bool.cond_eq_ite]at hy
 split at hy
 .cases hy
 .next h=>simp only[xD,not_or,decide_eq_true_eq,gH,qE,Bool.and_eq_false_iff,decide_eq_false_iff_not]at h;omega
def refLs(B:Int->Bool)(L:List Int)(k:Bool):List Int->Nat->Bool
 |[],_=>k
 |y::l,i=>bif(B y)||(decide (0<(i:Int))&&decide (y<=nthI L ((i:Int)-1)))then false else refLs B L k l (i+1)
theorem Fb(B:Int->Bool)(L:List Int)(k:Bool):∀(l pre:List Int)(x:Int),L=(pre++[x])++l->refLs B L k l (pre.length+1)=true->((∀y∈l,B y=false)/\k=true)/\(x::l).Pairwise (·<·)
 |[],_,_,_,h=>⟨⟨λ_ h=>(kA h).elim,h⟩,by simp⟩
 |y::l,pre,x,h,hr=>by
  have hx:nthI L (((pre.length+1:Nat):Int)-1)=x:=by
   have hb:0<=(((pre.length+1:Nat):Int)-1)/\(((pre.length+1:Nat):Int)-1)<(L.length:Int):=by rw[h];simp;omega
   have hg:=dh hb
   rw[show((((pre.length+1:Nat):Int)-1)).toNat=pre.length from by omega,h]at hg
   rw[h];simpa using hg.symm
  simp only[refLs,hx,Bool.cond_eq_ite]at hr
  split at hr
  .cases hr
  .next hc=>
   simp only[xD,xB,decide_eq_true_eq,not_or]at hc
   have ih:=Fb B L k l (pre++[x]) y (by rw[h];simp)
   rw[jA,xA,vB,Nat.zero_add]at ih
   obtain⟨⟨i1,i2⟩,i3⟩:=ih hr
   have hxy:x<y:=by omega
   refine⟨⟨λz hz=>?_,i2⟩,List.pairwise_cons.2 ⟨λz hz=>?_,i3⟩⟩
   .rcases qC.1 hz with rfl|hz
    .simpa using hc.1
    .exact i1 z hz
   .rcases qC.1 hz with rfl|hz
    .exact hxy
    .have:=(List.pairwise_cons.1 i3).1 z hz;omega
theorem O6{B:Int->Bool}{k:Bool}{l:List Int}(h:refLs B l k l 0=true):((∀y∈l,B y=false)/\k=true)/\l.Pairwise (·<·):=by
 cases l with
 |nil=>exact⟨⟨λ_ h=>(kA h).elim,h⟩,List.Pairwise.nil⟩
 |cons y l=>
  simp only[refLs,Bool.cond_eq_ite]at h
  split at h
  .cases h
  .next hc=>
   simp only[xD,not_or]at hc
   obtain⟨⟨i1,i2⟩,i3⟩:=Fb B (y::l) k l [] y rfl h
   refine⟨⟨λz hz=>?_,i2⟩,i3⟩
   rcases qC.1 hz with rfl|hz
   .simpa using hc.1
   .exact i1 z hz
theorem Fa{l:List Int}{limit:Int}(h:eM l limit=true):((∀x∈l,0<=x/\x<limit)/\l.Pairwise (·<·))/\l.length<=16:=by
 have e:∀(L l:List Int)i,eM.L1 L limit (eM.K1 L) l i=refLs (λy=>decide (y<0)||decide (limit<=y)) L (eM.K1 L) l i:=by
  intro L l
  induction l with
  |nil=>intro i;rfl
  |cons y l ih=>intro i;simp only[eM.L1,refLs,ih]
 unfold eM at h
 rw[e]at h
 obtain⟨⟨h1,h2⟩,h3⟩:=O6 h
 refine⟨⟨λx hx=>?_,h3⟩,?_⟩
 .have:=h1 x hx;simp only[Bool.or_eq_false_iff,decide_eq_false_iff_not]at this;omega
 .simp only[eM.K1,decide_eq_true_eq]at h2;omega
theorem Dv{d:Document}(h:iE d=true):Nm d:=by
 simp only[iE,Bool.cond_eq_ite]at h
 split at h
 .cases h
 .next hc=>
  simp only[xD,not_or,decide_eq_true_eq,lO,qE,Bool.and_eq_false_iff,decide_eq_false_iff_not]at hc
  simp only[xB,decide_eq_true_eq]at h
  obtain⟨⟨⟨⟨⟨h1,h2⟩,h3⟩,h4⟩,h5⟩,h6⟩:=h
  exact⟨by omega,by omega,by omega,by omega,⟨h1,h2⟩,h3,Fa h4,Fa h5,Fa h6⟩
theorem BB(L:List Document):∀(l:List Document)(i:Nat)(m:List (Int×Int)),(aA.L1 (aA.K1 L) l i m).docs=L/\∀x,mhas (aA.L1 (aA.K1 L) l i m).at_ x=(mhas m x||l.any λd=>d.No==x)
 |[],i,m=>⟨rfl,λx=>by simp[aA.L1,aA.K1]⟩
 |y::l,i,m=>by
  obtain⟨h1,h2⟩:=BB L l (i+1) (mput m y.No (i:Int))
  refine⟨h1,λx=>?_⟩
  show mhas (aA.L1 (aA.K1 L) l (i+1) (mput m y.No (i:Int))).at_ x=_
  rw[h2 x,List.any_cons]
  have:mhas (mput m y.No (i:Int)) x=(mhas m x||y.No==x):=by
   unfold mhas
   rw[uN]
   by_cases e:x=y.No
   .subst e;simp
   .rw[if_neg e]
    have:(y.No==x)=false:=by simp;exact λh=>e h.symm
    rw[this,Bool.or_false]
  rw[this,Bool.or_assoc]
theorem DU(no:Int):∀(l:List Document)(i:Nat),0<=gg.L1 no gg.K1 l i->(l.any λd=>d.No==no)=true
 |[],i,h=>by simp[gg.L1,gg.K1]at h
 |y::l,i,h=>by
  simp only[gg.L1,Bool.cond_eq_ite]at h
  rw[List.any_cons]
  by_cases e:(y.No==no)=true
  .rw[e];rfl
  .rw[if_neg e]at h
   rw[DU no l (i+1) h,Bool.or_true]
theorem HL(L:List Document):∀nos:List Int,dA.L1 L dA.K1 nos=true->∀x∈nos,(L.any λd=>d.No==x)=true
 |[],_=>λ_ h=>(kA h).elim
 |y::nos,h=>by
  simp only[dA.L1,Bool.cond_eq_ite,decide_eq_true_eq]at h
  split at h
  .cases h
  .next hc=>
   intro x hx
   rcases qC.1 hx with rfl|hx
   .exact DU x L 0 (by unfold gg at hc;omega)
   .exact HL L nos h x hx
theorem Ry{L:List Document}{d:Document}(h1:dA L d.Revokes=true)(h2:dA L d.Needs=true):eO (aA L) d=true:=by
 have hs:=(BB L L 0 []).2
 have key:∀nos,dA L nos=true->cB nos (λdl=>eG dl (aA L))=false:=by
  intro nos hn
  rw[containsF,List.any_eq_false]
  intro x hx
  unfold eG
  have:=HL L nos hn x hx
  have e:mhas (aA L).at_ x=true:=by
   show mhas (aA.L1 (aA.K1 L) L 0 []).at_ x=true
   rw[hs x,this,Bool.or_true]
  rw[e];simp
 unfold eO
 rw[key _ h1,key _ h2];rfl
theorem Hn{l:List Document}(h:dO l=0):aV l=0:=by
 have L:∀(L l:List Document)(i:Nat),dO.L1 L dO.K1 l i=0->aV.L1 L aV.K1 l i=0:=by
  intro L l
  induction l with
  |nil=>intros;rfl
  |cons y l ih=>
   intro i h
   simp only[dO.L1,Bool.cond_eq_ite]at h
   split at h
   .omega
   .next hc=>
    simp only[xD,not_or,qE,Bool.not_eq_false,Bool.not_eq_true]at hc
    obtain⟨⟨⟨c1,c2⟩,c3⟩,c4⟩:=hc
    simp only[aV.L1,(J5 y).2 (Dv c1),c2,Ry c3 c4,Bool.not_true,Bool.or_false,cond_false]
    exact ih (i+1) h
 unfold dO at h
 unfold aV
 rw[Bool.cond_eq_ite]at h ⊢
 split at h
 .omega
 .next hc=>rw[if_neg hc];exact L l l 0 h
theorem KB(mode:Int)(l:List Version)(old:Bool):(judgesP mode l old).Sublist l:=by
 unfold judgesP iW iy iV
 cases mode==1<;>cases mode==2<;>cases old<;>simp[List.take_sublist,List.drop_sublist]
theorem GI(begun at_:Int)(k:Bool->List Version->List Int×Int×Int):∀(l:List (Int×Version))b g,∃(pre:List (Int×Version))(b':Bool),pre.Sublist l/\ba.L1 begun at_ k l b g=k b' (g++pre.map (·.2))
 |[],b,g=>⟨[],b,List.Sublist.refl _,by simp[ba.L1]⟩
 |y::l,b,g=>by
  simp only[ba.L1]
  cases decide (at_<y.1)
  .obtain⟨pre,b',h1,h2⟩:=GI begun at_ k l (b||(y.1==begun)) (g++[y.2])
   exact⟨y::pre,b',h1.cons_cons _,by rw[cond_false,h2];simp⟩
  .exact⟨[],b,List.nil_sublist _,by simp⟩
theorem MU{l:List Version}(h:l.Pairwise (λa b=>a.No<b.No)){a b:Version}(ha:a∈l)(hb:b∈l)(e:a.No=b.No):a=b:=by
 induction l with
 |nil=>cases ha
 |cons x l ih=>
  obtain⟨h1,h2⟩:=List.pairwise_cons.1 h
  rcases qC.1 ha with ea|ha'<;>rcases qC.1 hb with eb|hb'
  .rw[ea,eb]
  .have:=h1 b hb';rw[ea]at e;omega
  .have:=h1 a ha';rw[eb]at e;omega
  .exact ih h2 ha' hb'
theorem nH(known eV:Int):∀(l:List Version)b m,(m.map (·.1)).Nodup->((inForceM known eV l b m).map (·.1)).Nodup
 |[],b,m,h=>h
 |y::l,b,m,h=>by
  simp only[inForceM,Bool.cond_eq_ite]
  split
  .exact nH known eV l _ _ h
  .split
   .split
    .exact nH known eV l _ _ h
    .exact nH known eV l _ _ (qi _ _ h)
   .exact nH known eV l _ _ (qi _ _ h)
theorem I1(l:List Version)(eV known:Int):(fF l eV known).Pairwise (λp q=>p.1<q.1):=by
 rw[sY,List.pairwise_map]
 exact HN (nR _) ((mP _).nodup_iff.2 (nH known eV l (-1) [] List.nodup_nil))
theorem KE{l:List Version}(g:Is l)(eV known:Int):(fF l eV known).Pairwise (λp q=>p.2.No≠q.2.No):=by
 have hP:=DO (l:=l) (eV:=eV) (known:=known) (λp=>((p.2.At<=eV/\p.1=eV)\/(eV<p.2.At/\p.1=p.2.At))/\p.2∈l) (λy hy h=>⟨.inl ⟨h,rfl⟩,hy⟩) (λy hy h=>⟨.inr ⟨h,rfl⟩,hy⟩)
 refine(I1 l eV known).imp_of_mem λ{p q}hp hq hlt e=>?_
 have h1:=hP p hp
 have h2:=hP q hq
 have h3:=MU g.inc h1.2 h2.2 e
 rw[h3]at h1
 omega
structure Jdg(l:List Version)(J:List Int×Int×Int):Prop where
 err:J.2.2=0
 rise:J.1.Pairwise (·<·)
 mem:∀x∈J.1,∃v∈l,v.No=x
 mode:J.1≠[]->1<=J.2.1/\J.2.1<=4
 mode2:J.2.1≠0->1<=J.2.1/\J.2.1<=4
theorem Iq{l:List Version}(g:Is l){begun at_ known:Int}(hb:0<=begun/\begun<1099511627776)(ht:0<=at_/\at_<1099511627776)(hk:0<=known/\known<1099511627776)(hle:begun<=at_):Jdg l (ba l begun at_ known):=by
 have h0:bw l=0:=(mL l).2 g
 have h1:∀x:Int,0<=x/\x<1099511627776->gO x=true:=λx hx=>by simp[gO,hx]
 have h2:decide (at_<begun)=false:=by simp;omega
 unfold ba
 rw[h0,h1 _ hb,h1 _ ht,h1 _ hk,h2]
 simp only[bne_self_eq_false,cond_false,Bool.not_true,Bool.or_false]
 obtain⟨pre,b',hs,e⟩:=GI begun at_ ba.K1 (fF l begun known) false []
 rw[e,zG]
 unfold ba.K1
 cases hc:(((pre.map (·.2)).length:Int)==0)with
 |true=>exact⟨rfl,List.Pairwise.nil,λx hx=>(kA hx).elim,λh=>absurd rfl h,λh=>absurd rfl h⟩
 |false=>
  simp only[cond_false,Dj,ba.K2,zG]
  have hpre:pre.length≠0:=by simpa using hc
  have hsub:=KB ((nthI (pre.map (·.2)) (((pre.map (·.2)).length:Int)-1)).Policy.Mode) (pre.map (·.2)) b'
  have hnd:(pre.map (·.2)).Pairwise (λa b=>a.No≠b.No):=by
   rw[List.pairwise_map]
   exact(KE g begun known).sublist hs
  have hmode:1<=(nthI (pre.map (·.2)) (((pre.map (·.2)).length:Int)-1)).Policy.Mode/\(nthI (pre.map (·.2)) (((pre.map (·.2)).length:Int)-1)).Policy.Mode<=4:=by
   have hm:nthI (pre.map (·.2)) (((pre.map (·.2)).length:Int)-1)∈pre.map (·.2):=pq (by rw[List.length_map];omega)
   obtain⟨p,hp,hpe⟩:=jQ.1 hm
   have:=g.mode (yv p (hs.subset hp))
   rw[hpe]at this
   exact this
  refine⟨rfl,HN (nR _) ((mP _).nodup_iff.2 ?_),λx hx=>?_,λ_=>hmode,λ_=>hmode⟩
  .show List.Pairwise _ _
   rw[List.pairwise_map]
   exact hnd.sublist hsub
  .have hx2:=(mP _).mem_iff.1 hx
   obtain⟨v,hv,rfl⟩:=jQ.1 hx2
   obtain⟨p,hp,rfl⟩:=jQ.1 (hsub.subset hv)
   exact⟨p.2,yv p (hs.subset hp),rfl⟩
theorem Mi{mode:Int}(hm:1<=mode/\mode<=4){l:List Bool}(hl:l.length<=256):(jw mode l).2=0:=by
 have hc:kb mode l=0:=by
  have h1:mhas lu mode=true:=by
   have:mode=1\/mode=2\/mode=3\/mode=4:=by omega
   rcases this with rfl|rfl|rfl|rfl<;>rfl
  unfold kb
  rw[h1,show decide (256<(l.length:Int))=false from decide_eq_false (by omega)]
  rfl
 have k1:∀(k:List Int->List Int×Bool×Int),(∀g,(k g).2.2=0)->∀(s:List Bool)i g,(bH.L1 k s i g).2.2=0:=by
  intro k hk s
  induction s with
  |nil=>intro i g;exact hk g
  |cons y s ih=>intro i g;exact ih _ _
 have k2:∀(k:List Int->List Int×Bool×Int),(∀g,(k g).2.2=0)->∀(s:List Bool)i g,(bH.L2 k s i g).2.2=0:=by
  intro k hk s
  induction s with
  |nil=>intro i g;exact hk g
  |cons y s ih=>intro i g;exact ih _ _
 have k3:∀(k:List Int->List Int×Bool×Int),(∀g,(k g).2.2=0)->∀(s:List Bool)i g,(bH.L3 k s i g).2.2=0:=by
  intro k hk s
  induction s with
  |nil=>intro i g;exact hk g
  |cons y s ih=>intro i g;exact ih _ _
 show(bH mode l).2.2=0
 unfold bH
 rw[hc]
 simp only[bne_self_eq_false,cond_false,Bool.cond_eq_ite]
 repeat' split
 all_goals first
  |rfl
  |exact k1 _ (λ_=>rfl) _ _ _
  |exact k2 _ (λ_=>rfl) _ _ _
  |exact k3 _ (λ_=>rfl) _ _ _
theorem Ll{l:List Appoint}(hc:cw l=0){o t known:Int}(ho:0<=o/\o<32)(ht:0<=t/\t<1099511627776)(hk:0<=known/\known<1099511627776):(ep l o t known).2=0:=by
 have h1:∀x:Int,0<=x/\x<1099511627776->dz x=true:=λx hx=>by simp only[dz,dY,xB,decide_eq_true_eq];omega
 have h2:fj o=true:=by simp only[fj,dY,xB,decide_eq_true_eq];omega
 unfold ep
 rw[hc,h1 t ht,h1 known hk,h2]
 rfl
theorem wC(k:Int->Int)(hk:∀g,k g=0):∀(l:List Int)(g:Int),(∀x∈l,g<x/\x<=1048576)->l.Pairwise (·<·)->cK.L1 k l g=0
 |[],g,_,_=>hk g
 |y::l,g,h,hp=>by
  have h1:=h y (zB ..)
  have e:(decide (y<=g)||decide (1048576<y))=false:=by simp;omega
  simp only[cK.L1,e,cond_false]
  exact wC k hk l y (λx hx=>⟨(List.pairwise_cons.1 hp).1 x hx,(h x (vA _ hx)).2⟩) (List.pairwise_cons.1 hp).2
theorem Jk{l:List Interest}(hc:cq l=0){p t known:Int}{ps:List Int}(hp:0<=p/\p<64)(hps:((∀x∈ps,0<=x/\x<1048577)/\ps.Pairwise (·<·))/\ps.length<=16)(ht:0<=t/\t<1099511627776)(hk:0<=known/\known<1099511627776):(eC l p ps t known).2.2=0:=by
 have e:cK l p ps t known=0:=by
  unfold cK
  rw[hc]
  refine wC _ (λg=>?_) ps (-1) (λx hx=>by have:=hps.1.1 x hx;omega) hps.1.2
  unfold cK.K1
  have h1:bJ p 64=true:=by simp[bJ,hp]
  have h2:bJ t 1099511627776=true:=by simp[bJ,ht]
  have h3:bJ known 1099511627776=true:=by simp[bJ,hk]
  have h4:decide (16<(ps.length:Int))=false:=by simp;omega
  rw[h1,h2,h3,h4];rfl
 unfold eC
 rw[e];rfl
end Go.Sg
