import Derived.KernelRfl
import Derived.Test.YtpplkjhgggjaoaaGreatDoorW2
/- A part of the proof of JudgePeopleSpec. -/
set_option linter.unusedVariables false
set_option linter.unusedSimpArgs false
set_option maxRecDepth 100000
open List renaming length_cons→xA,not_mem_nil→vA,mem_cons_of_mem→kA,mem_cons_self→zB,length_append→xB,mem_cons→jB,toArray→vB,mem_singleton→qC,length_nil→jC,mem_append→jE,nil_append→kF,map_cons→jJ,range→zK,mem_map→zN,mem_map_of_mem→vN,nodup_cons→xR,getElem?_map→Sv,mem_filter→S9,getElem?_of_mem→TJ
open Bool renaming and_eq_true→jA,or_eq_true→kC,not_eq_true'→kD,eq_iff_iff→jK,false_eq_true→jT
open Go.Sg.Appoint renaming mk→jD
open Go.IntKind renaming wrap→qE
open Nat renaming le_refl→vG,zero_le→qM,le_trans→xS
open Go.Sg.Expr renaming mk→qH,jx→Sz,mw→TC
open Go.Sg.Policy renaming mk→zP
open Go.Sg.Register renaming mk→qS
open Go.Sg.Approval renaming mk→kT
open Option.some renaming inj→qV
open Go.Sg.Interest renaming mk→qW
open Go.Sg.OSeat renaming mk→SQ
open Go.Sg.Version renaming mk→Tk
open Go.Sg.Deputy renaming mk→Tt
open Go.Sg.Budget renaming mk→Tu
open Go.Sg.Rule renaming mk→TE
open Go.Sg.Holder renaming mk→U7

namespace Go.Sg
variable {b e k known office th:Int}{c:Bool}{f:Unit->Except Int Unit}{m:List (Int×Bool)}{q:List gZ}{s:ByteArray}{signed:List Int}{st:List Interest}{w:gZ}{x:Approval}{α:Type}
def dI(eW:Int)(low:Int)(high:Int):Bool:=(decide (low<=eW)&&decide (eW<=high))
def eN(eW:Int):Bool:=(dI eW 0 31)
def di(eW:Int):Bool:=(dI eW 0 1099511627775)
def fE(eW:Int):Bool:=(dI eW 0 63)
def oG(x:Appoint):Bool:=(bif x.Gone then((((((dI x.No 0 1048576)&&(di x.At))&&(di x.Known))&&(eN x.Office))&&(fE x.Person))&&(dI x.Weight 0 0))else((((((dI x.No 0 1048576)&&(di x.At))&&(di x.Known))&&(eN x.Office))&&(fE x.Person))&&(dI x.Weight 1 64)))
def df.K1(iC:Int):Int:=0
def df.L1(k:Int->Int):List Appoint->Int->Int
 |[],iC=>(k iC)
 |y1::rz1,iC=>(bif((!(oG y1))||decide (y1.No<=iC))then 150 else(df.L1  k rz1 y1.No))
def df(l:List Appoint):Int:=(bif(decide (4096<(l.length:Int)))then 2 else((df.L1 (df.K1)) l (-1)))
def bV(eW:Int)(low:Int)(high:Int):Bool:=(decide (low<=eW)&&decide (eW<=high))
def fD(eW:Int):Bool:=(bV eW 0 63)
def fX(eW:Int):Bool:=(bV eW 0 1099511627775)
def mZ(x:Deputy):Bool:=(bif((((((((!(bV x.No 0 1048576))||(!(fX x.At)))||(!(fX x.Known)))||(!(fD x.From)))||(!(fD x.To)))||(x.From==x.To))||(!(bV x.Office 0 31)))||(!(bV x.Kind (-1) 15)))then false else(bif x.Gone then((x.Until==0)&&(x.Most==0))else((decide (x.At<x.Until)&&decide (x.Until<=1099511627776))&&(bV x.Most 0 1099511627776))))
def dk.K1(iC:Int):Int:=0
def dk.L1(k:Int->Int):List Deputy->Int->Int
 |[],iC=>(k iC)
 |y1::rz1,iC=>(bif((!(mZ y1))||decide (y1.No<=iC))then 160 else(dk.L1  k rz1 y1.No))
def dk(l:List Deputy):Int:=(bif(decide (4096<(l.length:Int)))then 2 else((dk.L1 (dk.K1)) l (-1)))
def aW(eW:Int)(limit:Int):Bool:=(decide (0<=eW)&&decide (eW<limit))
def mn(x:Interest):Bool:=(bif x.Of then((((((aW x.No 1048577)&&(aW x.At 1099511627776))&&(aW x.Known 1099511627776))&&(aW x.Party 1048577))&&(aW x.Person 1048577))&&(x.Person != x.Party))else(((((aW x.No 1048577)&&(aW x.At 1099511627776))&&(aW x.Known 1099511627776))&&(aW x.Party 1048577))&&(aW x.Person 64)))
def cm.K1(iC:Int):Int:=0
def cm.L1(k:Int->Int):List Interest->Int->Int
 |[],iC=>(k iC)
 |y1::rz1,iC=>(bif((!(mn y1))||decide (y1.No<=iC))then 290 else(cm.L1  k rz1 y1.No))
def cm(l:List Interest):Int:=(bif(decide (4096<(l.length:Int)))then 2 else((cm.L1 (cm.K1)) l (-1)))
def dW.K1  : Int:=(-1)
def dW.L1(f:(Int->Bool))(k:Int):List Int->Nat->Int
 |[],i1=>(k)
 |y1::rz1,i1=>(bif(f y1)then(i1:Int)else(dW.L1 f k rz1 (i1+1)))
def dW(s:List Int)(f:(Int->Bool)):Int:=((dW.L1 f (dW.K1)) s 0)
def cI(s:List Int)(f:(Int->Bool)):Bool:=decide (0<=(dW s f))
def iN(eW:Int)(v0:Int)(v1:Int):Bool:=(decide (eW<v0)||decide (v1<eW))
def aQ(least:Int)(most:Int)(l:List Int):Bool:=(!(cI l (λdE=>iN dE least most)))
def li(x:Budget):Bool:=(bif x.Gone then((((((aQ 0 1048576 ([x.No]))&&(aQ 0 1099511627775 ([x.At,x.Known])))&&(aQ (-1) 15 ([x.Kind])))&&(aQ 1 1099511627776 ([x.Period])))&&(aQ 0 0 ([x.Count])))&&(aQ 0 0 ([x.Value])))else((((((aQ 0 1048576 ([x.No]))&&(aQ 0 1099511627775 ([x.At,x.Known])))&&(aQ (-1) 15 ([x.Kind])))&&(aQ 1 1099511627776 ([x.Period])))&&(aQ 0 1048576 ([x.Count])))&&(aQ 0 1099511627776 ([x.Value]))))
def cG.K1(iC:Int):Int:=0
def cG.L1(k:Int->Int):List Budget->Int->Int
 |[],iC=>(k iC)
 |y1::rz1,iC=>(bif((!(li y1))||decide (y1.No<=iC))then 180 else(cG.L1  k rz1 y1.No))
def cG(l:List Budget):Int:=(bif(decide (4096<(l.length:Int)))then 2 else((cG.L1 (cG.K1)) l (-1)))
def aK.L2(k:List gH):List gH->List gH
 |[]=>k
 |y2::rz2=>(y2::(aK.L2 k rz2))
def aK.L3(k:List gH):List gH->List gH
 |[]=>k
 |y3::rz3=>(y3::(aK.L3 k rz3))
def aK.K1  : List gH:=[]
def aK.L1(rec:Expr->Int->List gH)(depth:Int)(k:List gH):List Expr->List gH
 |[]=>(k)
 |y1::rz1=>((aK.L3 ((aK.L1 rec depth k rz1))) (rec y1 (depth+1)))
def aK.F(rec:Expr->Int->List gH)(x:Expr)(depth:Int):List gH:=((gH.mk (qH x.Kind x.N x.No x.Name x.L) depth)::((aK.L1 rec depth (aK.K1)) x.L))
def aK.go:Nat->Expr->Int->List gH
 |0=>λ_ _=>[]
 |m+1=>aK.F (aK.go m)
def bp(x:Expr)(depth:Int):List gH:=aK.go x.dep x depth
def fe(ok:Bool)(Rw:Int):(Except Int Unit):=(bif(!ok)then(Except.error Rw)else(Except.ok ()))
def aw.K1(p:Policy)(GP:List Expr):List Expr:=(GP++[p.Change])
def aw.L1(k:List Expr->List Expr):List Rule->List Expr->List Expr
 |[],GP=>(k GP)
 |y1::rz1,GP=>(aw.L1  k rz1 (GP++[y1.Expr]))
def aw(p:Policy):List Expr:=((aw.L1 (aw.K1 p)) p.Rules ([]))
def cw.L2(k:Int->(Except Int Unit)):List gH->Int->(Except Int Unit)
 |[],Ed=>k Ed
 |y2::rz2,Ed=>(exi (fe (decide ((qE .i64 (Ed+1))<=256)&&decide (y2.depth<=16)) 2) (λ_=>(cw.L2 k rz2 (qE .i64 (Ed+1)))))
def cw.L3(k:Int->(Except Int Unit)):List gH->Int->(Except Int Unit)
 |[],Ec=>k Ec
 |y3::rz3,Ec=>(exi (fe (decide ((qE .i64 (Ec+1))<=256)&&decide (y3.depth<=16)) 2) (λ_=>(cw.L3 k rz3 (qE .i64 (Ec+1)))))
def cw.K1  : (Except Int Unit):=(Except.ok ())
def cw.L1(k:(Except Int Unit)):List Expr->(Except Int Unit)
 |[]=>(k)
 |y1::rz1=>((cw.L3 (λzg3_b3_0=>(cw.L1  k rz1))) (bp y1 1) 0)
def cw(p:Policy):(Except Int Unit):=(exi (fe ((decide ((p.Offices.length:Int)<=32)&&decide ((p.Kinds.length:Int)<=16))&&decide ((p.Rules.length:Int)<=16)) 2) (λ_=>((cw.L1 (cw.K1)) (aw p))))
def dw(x:Expr):Bool:=((x.Kind==1)||(x.Kind==2))
def iW(s:ByteArray)(c:Int):Int:=(idxByte s c)
def strings_IndexByte(s:ByteArray)(c:Int):Int:=(iW s c)
def kZ(c:Int):Int:=(bif((decide (97<=c)&&decide (c<=122))||(decide (65<=c)&&decide (c<=90)))then 2 else(bif(decide (48<=c)&&decide (c<=57))then 3 else(bif(c==95)then 5 else(bif((((c==32)||(c==9))||(c==10))||(c==13))then 1 else(bif(decide (0<=(strings_IndexByte (⟨#[123,125,40,41,59,44,61,58,46,60,62,33,43,45,42,47]⟩:ByteArray) c)))then 4 else 0)))))
def dO.K1  : Bool:=true
def dO.L1(s:ByteArray)(k:Bool):List Nat->Nat->Bool
 |[],i1=>(k)
 |y1::rz1,i1=>(bif((((kZ ((s.data.getD ((i1:Int):Int).toNat 0).toNat:Int)) != 2)&&((kZ ((s.data.getD ((i1:Int):Int).toNat 0).toNat:Int)) != 3))&&((kZ ((s.data.getD ((i1:Int):Int).toNat 0).toNat:Int)) != 5))then false else(dO.L1 s k rz1 (i1+1)))
def dO(s:ByteArray):Bool:=(bif(((s.toList==(⟨#[]⟩:ByteArray).toList)||decide (32<(s.size:Int)))||((kZ ((s.data.getD (0:Int).toNat 0).toNat:Int)) != 2))then false else((dO.L1 s (dO.K1)) (zK s.size) 0))
def dR(s:ByteArray):Bool:=(bif(s.toList==(⟨#[112,111,108,105,99,121]⟩:ByteArray).toList)then(bif(s.toList==(⟨#[112,111,108,105,99,121]⟩:ByteArray).toList)then false else(dO s))else(bif(s.toList==(⟨#[109,111,100,101]⟩:ByteArray).toList)then(bif(s.toList==(⟨#[109,111,100,101]⟩:ByteArray).toList)then false else(dO s))else(bif(s.toList==(⟨#[111,108,100]⟩:ByteArray).toList)then(bif(s.toList==(⟨#[111,108,100]⟩:ByteArray).toList)then false else(dO s))else(bif(s.toList==(⟨#[110,101,119]⟩:ByteArray).toList)then(bif(s.toList==(⟨#[110,101,119]⟩:ByteArray).toList)then false else(dO s))else(bif(s.toList==(⟨#[98,111,116,104]⟩:ByteArray).toList)then(bif(s.toList==(⟨#[98,111,116,104]⟩:ByteArray).toList)then false else(dO s))else(bif(s.toList==(⟨#[101,105,116,104,101,114]⟩:ByteArray).toList)then(bif(s.toList==(⟨#[101,105,116,104,101,114]⟩:ByteArray).toList)then false else(dO s))else(bif(s.toList==(⟨#[111,102,102,105,99,101]⟩:ByteArray).toList)then(bif(s.toList==(⟨#[111,102,102,105,99,101]⟩:ByteArray).toList)then false else(dO s))else(bif(s.toList==(⟨#[107,105,110,100]⟩:ByteArray).toList)then(bif(s.toList==(⟨#[107,105,110,100]⟩:ByteArray).toList)then false else(dO s))else(bif(s.toList==(⟨#[114,117,108,101]⟩:ByteArray).toList)then(bif(s.toList==(⟨#[114,117,108,101]⟩:ByteArray).toList)then false else(dO s))else(bif(s.toList==(⟨#[116,104,105,110,107]⟩:ByteArray).toList)then(bif(s.toList==(⟨#[116,104,105,110,107]⟩:ByteArray).toList)then false else(dO s))else(bif(s.toList==(⟨#[99,104,97,110,103,101]⟩:ByteArray).toList)then(bif(s.toList==(⟨#[99,104,97,110,103,101]⟩:ByteArray).toList)then false else(dO s))else(bif(s.toList==(⟨#[115,111,109,101]⟩:ByteArray).toList)then(bif(s.toList==(⟨#[115,111,109,101]⟩:ByteArray).toList)then false else(dO s))else(bif(s.toList==(⟨#[119,101,105,103,104,116]⟩:ByteArray).toList)then(bif(s.toList==(⟨#[119,101,105,103,104,116]⟩:ByteArray).toList)then false else(dO s))else(bif(s.toList==(⟨#[111,102]⟩:ByteArray).toList)then(bif(s.toList==(⟨#[111,102]⟩:ByteArray).toList)then false else(dO s))else(bif(s.toList==(⟨#[117,112,116,111]⟩:ByteArray).toList)then(bif(s.toList==(⟨#[117,112,116,111]⟩:ByteArray).toList)then false else(dO s))else(bif(s.toList==(⟨#[101,108,115,101]⟩:ByteArray).toList)then false else(dO s)))))))))))))))))
def aP.K1  : Int:=(-1)
def aP.L1(v:ByteArray)(k:Int):List ByteArray->Nat->Int
 |[],i1=>(k)
 |y1::rz1,i1=>(bif(v.toList==y1.toList)then(i1:Int)else(aP.L1 v k rz1 (i1+1)))
def aP(s:List ByteArray)(v:ByteArray):Int:=((aP.L1 v (aP.K1)) s 0)
def bF.K1  : Bool:=true
def bF.L1(l:List ByteArray)(ok:(ByteArray->Bool))(k:Bool):List ByteArray->Nat->Bool
 |[],i1=>(k)
 |y1::rz1,i1=>(bif((!(ok y1))||((aP l y1) != (i1:Int)))then false else(bF.L1 l ok k rz1 (i1+1)))
def bF(l:List ByteArray)(ok:(ByteArray->Bool)):Bool:=((bF.L1 l ok (bF.K1)) l 0)
def dl(s:List ByteArray)(v:ByteArray):Bool:=decide (0<=(aP s v))
def cx.L2(p:Policy)(k:(Except Int Unit)):List gH->(Except Int Unit)
 |[]=>k
 |y2::rz2=>(exi (fe ((!(dw y2.x))||(dl p.Offices y2.x.Name)) 201) (λ_=>(cx.L2 p k rz2)))
def cx.L3(p:Policy)(k:(Except Int Unit)):List gH->(Except Int Unit)
 |[]=>k
 |y3::rz3=>(exi (fe ((!(dw y3.x))||(dl p.Offices y3.x.Name)) 201) (λ_=>(cx.L3 p k rz3)))
def cx.K1  : (Except Int Unit):=(Except.ok ())
def cx.L1(p:Policy)(k:(Except Int Unit)):List Expr->(Except Int Unit)
 |[]=>(k)
 |y1::rz1=>((cx.L3 p ((cx.L1 p k rz1))) (bp y1 1))
def cx(p:Policy):(Except Int Unit):=(exi (fe (((dR p.Name)&&(bF p.Offices dR))&&(bF p.Kinds dR)) 201) (λ_=>((cx.L1 p (cx.K1)) (aw p))))
def aM(eW:Int)(low:Int)(high:Int):Bool:=(decide (low<=eW)&&decide (eW<=high))
def qg(x0:Expr):Bool:=false
def kY(x:Expr):Bool:=((x.N==0)&&((x.L.length:Int)==0))
def kX(x:Expr):Bool:=((aM x.N 1 4096)&&((x.L.length:Int)==0))
def kW(x:Expr):Bool:=(((x.Name.toList==(⟨#[]⟩:ByteArray).toList)&&(aM (x.L.length:Int) 1 16))&&(aM x.N 1 (x.L.length:Int)))
def jU(x:Expr):Bool:=(((x.Name.toList==(⟨#[]⟩:ByteArray).toList)&&((x.L.length:Int)==2))&&(aM x.N 0 1099511627776))
def kindsP(i:Int)(x:Expr):Bool:=if i=0 then qg x else if i=1 then kY x else if i=2 then kX x else if i=3 then kW x else jU x
def bq.L3(p:Policy)(k:(Except Int Unit)):List gH->(Except Int Unit)
 |[]=>k
 |y3::rz3=>(exi (fe ((aM y3.x.Kind 1 4)&&(kindsP y3.x.Kind y3.x)) 200) (λ_=>(exi (fe (decide (0<(qE .i64 (((aw p).length:Int)-1)))||(y3.x.Kind != 4)) 200) (λ_=>(bq.L3 p k rz3)))))
def bq.L4(p:Policy)(i2:Nat)(k:(Except Int Unit)):List gH->(Except Int Unit)
 |[]=>k
 |y4::rz4=>(exi (fe ((aM y4.x.Kind 1 4)&&(kindsP y4.x.Kind y4.x)) 200) (λ_=>(exi (fe (decide ((i2:Int)<(qE .i64 (((aw p).length:Int)-1)))||(y4.x.Kind != 4)) 200) (λ_=>(bq.L4 p i2 k rz4)))))
def bq.K2  : (Except Int Unit):=(Except.ok ())
def bq.L2(p:Policy)(k:(Except Int Unit)):List Expr->Nat->(Except Int Unit)
 |[],i2=>(k)
 |y2::rz2,i2=>((bq.L4 p i2 ((bq.L2 p k rz2 (i2+1)))) (bp y2 1))
def bq.K1(p:Policy):(Except Int Unit):=((bq.L2 p (bq.K2)) (aw p) 0)
def bq.L1(p:Policy)(k:(Except Int Unit)):List Rule->Nat->(Except Int Unit)
 |[],i1=>(k)
 |y1::rz1,i1=>(exi (fe ((y1.Kind.toList==(nthI p.Kinds (i1:Int)).toList)&&(aM y1.Think 0 1099511627775)) 200) (λ_=>(bq.L1 p k rz1 (i1+1))))
def bq(p:Policy):(Except Int Unit):=(exi (fe ((decide (0<(p.Kinds.length:Int))&&((p.Rules.length:Int)==(p.Kinds.length:Int)))&&(aM p.Mode 1 4)) 200) (λ_=>((bq.L1 p (bq.K1 p)) p.Rules 0)))
def dH(p:Policy):(Except Int Unit):=(exi (cw p) (λ_=>(exi (cx p) (λ_=>(exi (bq p) (λ_=>(Except.ok ())))))))
def ao.K1(offices:List ByteArray)(x:Expr)(lS:List Expr):Expr:=(qH x.Kind x.N (aP offices x.Name) x.Name lS)
def ao.L1(rec:List ByteArray->Expr->Expr)(offices:List ByteArray)(k:List Expr->Expr):List Expr->List Expr->Expr
 |[],lS=>(k lS)
 |y1::rz1,lS=>(ao.L1 rec offices k rz1 (lS++[(rec offices y1)]))
def ao.K2(x:Expr)(lR:List Expr):Expr:=(qH x.Kind x.N 0 x.Name lR)
def ao.L2(rec:List ByteArray->Expr->Expr)(offices:List ByteArray)(k:List Expr->Expr):List Expr->List Expr->Expr
 |[],lR=>(k lR)
 |y2::rz2,lR=>(ao.L2 rec offices k rz2 (lR++[(rec offices y2)]))
def ao.F(rec:List ByteArray->Expr->Expr)(offices:List ByteArray)(x:Expr):Expr:=(bif(dw (qH x.Kind x.N 0 x.Name x.L))then((ao.L1 rec offices (ao.K1 offices x)) x.L ([]))else((ao.L2 rec offices (ao.K2 x)) x.L ([])))
def ao.go:Nat->List ByteArray->Expr->Expr
 |0=>λ_ _=>default
 |m+1=>ao.F (ao.go m)
def ao(offices:List ByteArray)(x:Expr):Expr:=ao.go x.dep offices x
def ek.K1(p:Policy)(nK:List Rule):(Policy×Int):=((zP p.Name p.Kinds p.Offices nK (qH ((ao p.Offices p.Change).Kind) ((ao p.Offices p.Change).N) ((ao p.Offices p.Change).No) ((ao p.Offices p.Change).Name) ((ao p.Offices p.Change).L)) p.Mode),0)
def ek.L1(p:Policy)(k:List Rule->(Policy×Int)):List Rule->Nat->List Rule->(Policy×Int)
 |[],i1,nK=>(k nK)
 |y1::rz1,i1,nK=>(ek.L1 p k rz1 (i1+1) (nK++[(TE y1.Kind (i1:Int) y1.Think (qH ((ao p.Offices y1.Expr).Kind) ((ao p.Offices y1.Expr).N) ((ao p.Offices y1.Expr).No) ((ao p.Offices y1.Expr).Name) ((ao p.Offices y1.Expr).L)))]))
def ek(p:Policy):(Policy×Int):=(bif((attR (dH p)) != 0)then((zP (⟨#[]⟩:ByteArray) ([]) ([]) ([]) (qH 0 0 0 (⟨#[]⟩:ByteArray) ([])) 0),(attR (dH p)))else((ek.L1 p (ek.K1 p)) p.Rules 0 ([])))
def bO.K1  : Bool:=true
def bO.L1(offices:List ByteArray)(k:Bool):List gH->Bool
 |[]=>k
 |y1::rz1=>(bif(dw y1.x)then(bif(y1.x.No != (aP offices y1.x.Name))then false else(bO.L1 offices k rz1))else(bif(y1.x.No != 0)then false else(bO.L1 offices k rz1)))
def bO(offices:List ByteArray)(x:Expr):Bool:=((bO.L1 offices (bO.K1)) (bp x 1))
def dh.K1(p:Policy):Int:=(bif(!(bO p.Offices p.Change))then 200 else 0)
def dh.L1(p:Policy)(k:Int):List Rule->Nat->Int
 |[],i1=>(k)
 |y1::rz1,i1=>(bif((y1.KindNo != (i1:Int))||(!(bO p.Offices y1.Expr)))then 200 else(dh.L1 p k rz1 (i1+1)))
def dh(p:Policy):Int:=(bif((ek p).2 != 0)then(ek p).2 else((dh.L1 p (dh.K1 p)) p.Rules 0))
def bG.K1(iC:Int):Int:=0
def bG.L1(k:Int->Int):List Version->Int->Int
 |[],iC=>(k iC)
 |y1::rz1,iC=>(bif((((!(aM y1.No (qE .i64 (iC+1)) 1048576))||(!(aM y1.At 0 1099511627775)))||(!(aM y1.Known 0 1099511627775)))||((dh y1.Policy) != 0))then 200 else(bG.L1  k rz1 y1.No))
def bG(l:List Version):Int:=(bif(decide (256<(l.length:Int)))then 2 else((bG.L1 (bG.K1)) l (-1)))
def ay.K1(l:List Document)(bN:List (Int×Int)):gN:=(gN.mk l bN)
def ay.L1(k:(List (Int×Int))->gN):List Document->Nat->(List (Int×Int))->gN
 |[],i1,bN=>(k bN)
 |y1::rz1,i1,bN=>(ay.L1  k rz1 (i1+1) (mput bN y1.No (i1:Int)))
def ay(l:List Document):gN:=((ay.L1 (ay.K1 l)) l 0 ([]))
def ga(t:Int):Bool:=(decide (0<=t)&&decide (t<1099511627776))
def dM.K1(l:List Int)(jm:Int):Bool:=decide ((l.length:Int)<=16)
def dM.L1(limit:Int)(k:Int->Bool):List Int->Int->Bool
 |[],jm=>(k jm)
 |y1::rz1,jm=>(bif(decide (y1<=jm)||decide (limit<=y1))then false else(dM.L1 limit k rz1 y1))
def dM(l:List Int)(limit:Int):Bool:=((dM.L1 limit (dM.K1 l)) l (-1))
def ib(d:Document):Bool:=((((((((((((decide (0<=d.No)&&decide (d.No<4096))&&(ga d.At))&&decide (0<=d.Kind))&&decide (d.Kind<16))&&decide (0<=d.Value))&&decide (d.Value<=1099511627776))&&decide (0<=d.From))&&decide (d.From<d.Until))&&decide (d.Until<=1099511627776))&&(dM d.Parties 1048577))&&(dM d.Revokes d.No))&&(dM d.Needs d.No))
def eO(no:Int)(v0:gN):Bool:=(!(mhas v0.at_ no))
def fd(s:gN)(d:Document):Bool:=((!(cI d.Revokes (λdE=>eO dE s)))&&(!(cI d.Needs (λdE=>eO dE s))))
def aT.K1  : Int:=0
def aT.L1(l:List Document)(k:Int):List Document->Nat->Int
 |[],i1=>(k)
 |y1::rz1,i1=>(bif(((!(ib y1))||(decide (0<(i1:Int))&&decide (y1.No<=(nthI l ((i1:Int)-1)).No)))||(!(fd (ay l) y1)))then 170 else(aT.L1 l k rz1 (i1+1)))
def aT(l:List Document):Int:=(bif(decide (4096<(l.length:Int)))then 2 else((aT.L1 l (aT.K1)) l 0))
def gv(eW:Int)(v0:Int):Bool:=(decide (eW<0)||decide (v0<eW))
def cJ(most:Int)(l:List Int):Bool:=(!(cI l (λdE=>gv dE most)))
def ju(x:Approval):Bool:=(((((cJ 1048576 ([x.No]))&&(cJ 1099511627775 ([x.At,x.Known])))&&(cJ 4095 ([x.Doc])))&&(cJ 63 ([x.By,x.For])))&&(cJ 31 ([x.Office])))
def bJ.K1(iC:Int):Int:=0
def bJ.L1(k:Int->Int):List Approval->Int->Int
 |[],iC=>(k iC)
 |y1::rz1,iC=>(bif((!(ju y1))||decide (y1.No<=iC))then 280 else(bJ.L1  k rz1 y1.No))
def bJ(l:List Approval):Int:=(bif(decide (4096<(l.length:Int)))then 2 else((bJ.L1 (bJ.K1)) l (-1)))
def dC.K1  : Int:=0
def dC.L1(cv:Register)(k:Int):List Nat->Nat->Int
 |[],i1=>(k)
 |y1::rz1,i1=>(bif((nthI ([(df cv.Appoints),(dk cv.Deputies),(cm cv.Interests),(cG cv.Budgets),(bG cv.Versions),(aT cv.Docs),(bJ cv.Approvals)]) (i1:Int)) != 0)then 300 else(dC.L1 cv k rz1 (i1+1)))
def dC(cv:Register):Int:=((dC.L1 cv (dC.K1)) (zK 7) 0)
def mB(Rx:Int):(Except Int Unit):=(bif(Rx != 0)then(Except.error Rx)else(Except.ok ()))
def ad.K1  : Int:=(-1)
def ad.L1(f:(Document->Bool))(k:Int):List Document->Nat->Int
 |[],i1=>(k)
 |y1::rz1,i1=>(bif(f y1)then(i1:Int)else(ad.L1 f k rz1 (i1+1)))
def ad(s:List Document)(f:(Document->Bool)):Int:=((ad.L1 f (ad.K1)) s 0)
def bu(d:Document)(v0:Int):Bool:=(d.No==v0)
def ma(cv:Register)(doc:Int)(bI:Int)(known:Int):(Except Int bK):=(bif((decide ((ad cv.Docs (λdE=>bu dE doc))<0)||decide ((min bI known)<0))||decide (1099511627776<=(max bI known)))then(Except.error 1)else(Except.ok (bK.mk cv (nthI cv.Docs (ad cv.Docs (λdE=>bu dE doc))) bI known)))
def cmp_isNaN_int(x:Int):Bool:=(x != x)
def cL.K1  : Int:=(-1)
def cL.L1(f:(Approval->Bool))(k:Int):List Approval->Nat->Int
 |[],i1=>(k)
 |y1::rz1,i1=>(bif(f y1)then(i1:Int)else(cL.L1 f k rz1 (i1+1)))
def cL(s:List Approval)(f:(Approval->Bool)):Int:=((cL.L1 f (cL.K1)) s 0)
def fu(s:List Approval)(del:Approval->Bool):List Approval:=s.filter λx=>!(del x)
def bB.K1  : List Approval:=[]
def bB.L1(v1:Int)(v2:Int)(v3:Int)(k:List Approval):List Approval->List Approval
 |[]=>(k)
 |y1::rz1=>(bif(((y1.Doc==v1)&&decide (y1.At<=v2))&&decide (y1.Known<=v3))then(y1::(bB.L1 v1 v2 v3 k rz1))else(bB.L1 v1 v2 v3 k rz1))
def bB(v0:List Approval)(v1:Int)(v2:Int)(v3:Int):List Approval:=((bB.L1 v1 v2 v3 (bB.K1)) v0)
def eZ(l:List Approval)(doc:Int)(bI:Int)(known:Int):List Approval:=(bB l doc bI known)
def aZ(x:Approval):eG:=(eG.mk x.Doc x.By x.For x.Office)
def aD.K2(nJ:List Approval):List Approval:=nJ
def aD.L2(bN:List (eG×Approval))(k:List Approval->List Approval):List Approval->List Approval->List Approval
 |[],nJ=>k nJ
 |y2::rz2,nJ=>(bif((!y2.Gone)&&(decide ((mgetD bN (aZ y2) (kT 0 0 0 0 0 0 0 false))=y2)))then(aD.L2 bN k rz2 (nJ++[y2]))else(aD.L2 bN k rz2 nJ))
def aD.K1(l:List Approval)(doc:Int)(bI:Int)(known:Int)(bN:List (eG×Approval)):List Approval:=((aD.L2 bN (aD.K2)) (eZ l doc bI known) ([]))
def aD.L1(k:(List (eG×Approval))->List Approval):List Approval->(List (eG×Approval))->List Approval
 |[],bN=>k bN
 |y1::rz1,bN=>(bif((!(mhas bN (aZ y1)))||decide ((mgetD bN (aZ y1) (kT 0 0 0 0 0 0 0 false)).At<=y1.At))then(aD.L1 k rz1 (mput bN (aZ y1) y1))else(aD.L1 k rz1 bN))
def aD(l:List Approval)(doc:Int)(bI:Int)(known:Int):List Approval:=((aD.L1 (aD.K1 l doc bI known)) (eZ l doc bI known) ([]))
def iS(y:Approval)(begun:Int)(at_:Int)(think:Int):Bool:=(decide (y.At<begun)||decide ((qE .i64 (at_-y.At))<think))
def cj(l:List Approval)(doc:Int)(begun:Int)(think:Int)(eB:Int)(known:Int):(List Approval×Int):=(bif((bJ l) != 0)then([],(bJ l))else(bif((!(cJ 4095 ([doc])))||(!(cJ 1099511627775 ([begun,think,eB,known]))))then([],1)else((fu (aD l doc eB known) (λdE=>iS dE begun eB think)),0)))
def gr(x:Appoint)(v0:Int)(v1:Int):(OSeat×Bool):=((SQ x.Office x.Person),(decide (x.At<=v0)&&decide (x.Known<=v1)))
def cM.K1(bx:List (OSeat×Appoint)):(List (OSeat×Appoint)):=bx
def cM.L1(key:(Appoint->OSeat×Bool))(later:(Appoint->Appoint->Bool))(k:(List (OSeat×Appoint))->(List (OSeat×Appoint))):List Appoint->(List (OSeat×Appoint))->(List (OSeat×Appoint))
 |[],bx=>(k bx)
 |y1::rz1,bx=>(bif((key y1).2&&((!(mhas bx ((key y1).1)))||(!(later (mgetD bx ((key y1).1) (jD 0 0 0 0 0 0 false)) y1))))then(cM.L1 key later k rz1 (mput bx ((key y1).1) y1))else(cM.L1 key later k rz1 bx))
def cM(l:List Appoint)(key:(Appoint->OSeat×Bool))(later:(Appoint->Appoint->Bool)):(List (OSeat×Appoint)):=((cM.L1 key later (cM.K1)) l ([]))
def gq(a:Appoint)(jy:Appoint):Bool:=decide (jy.At<a.At)
def dx(l:List Appoint)(eU:Int)(known:Int):(List (OSeat×Appoint)):=(cM l (λdE=>gr dE eU known) gq)
def gF(l:List Appoint)(office:Int)(person:Int)(bw:Int)(known:Int):(Int×Int×Bool×Int):=(bif((df l) != 0)then(0,0,false,(df l))else(bif((((!(eN office))||(!(fE person)))||(!(di bw)))||(!(di known)))then(0,0,false,1)else(bif((!(mhas (dx l bw known) (SQ office person)))||(mgetD (dx l bw known) (SQ office person) (jD 0 0 0 0 0 0 false)).Gone)then(0,0,false,0)else((mgetD (dx l bw known) (SQ office person) (jD 0 0 0 0 0 0 false)).No,(mgetD (dx l bw known) (SQ office person) (jD 0 0 0 0 0 0 false)).Weight,true,0))))
def jt(l:List Deputy)(cu:Int)(to:Int)(q:bR):Int:=(bif((dk l) != 0)then(dk l)else(bif(((((((!(fD cu))||(!(fD to)))||(!(bV q.office 0 31)))||(!(bV q.kind 0 15)))||(!(bV q.value 0 1099511627776)))||(!(fX q.at_)))||(!(fX q.known)))then 1 else 0))
def bT.K1(bx:List Deputy):List Deputy:=bx
def bT.L1(k:List Deputy->List Deputy):List Deputy->List Deputy->List Deputy
 |[],bx=>k bx
 |y1::rz1,bx=>(bT.L1 k rz1 (bx++[y1]))
def bT(seq:List Deputy):List Deputy:=((bT.L1 (bT.K1)) seq ([]))
def cX(seq:List Deputy):List Deputy:=(bT seq)
def du(q:bR)(x:Deputy):Bool:=(decide (x.At<=q.at_)&&decide (x.Known<=q.known))
def er(q:bR)(x:Deputy):Bool:=(((((!x.Gone)&&decide (q.at_<x.Until))&&(x.Office==q.office))&&((x.Kind==(-1))||(x.Kind==q.kind)))&&decide (q.value<=x.Most))
def aB.K1  : List Deputy:=[]
def aB.L1(v1:List (dL×Deputy))(v2:(Deputy->Bool))(v3:bR)(k:List Deputy):List Deputy->List Deputy
 |[]=>(k)
 |y1::rz1=>(bif(((decide ((mgetD v1 (dL.mk y1.From y1.To y1.Office y1.Kind) (Tt 0 0 0 0 0 0 0 0 0 false))=y1))&&(v2 y1))&&(er v3 y1))then(y1::(aB.L1 v1 v2 v3 k rz1))else(aB.L1 v1 v2 v3 k rz1))
def aB(v0:List Deputy)(v1:List (dL×Deputy))(v2:(Deputy->Bool))(v3:bR):List Deputy:=((aB.L1 v1 v2 v3 (aB.K1)) v0)
def aF.K1(q:bR)(l:List Deputy)(eM:List (dL×Deputy)):List Deputy:=(aB l eM (du q) q)
def aF.L1(q:bR)(k:(List (dL×Deputy))->List Deputy):List Deputy->(List (dL×Deputy))->List Deputy
 |[],eM=>(k eM)
 |y1::rz1,eM=>(bif((du q y1)&&((!(mhas eM (dL.mk y1.From y1.To y1.Office y1.Kind)))||decide ((mgetD eM (dL.mk y1.From y1.To y1.Office y1.Kind) (Tt 0 0 0 0 0 0 0 0 0 false)).At<=y1.At)))then(aF.L1 q k rz1 (mput eM (dL.mk y1.From y1.To y1.Office y1.Kind) y1))else(aF.L1 q k rz1 eM))
def aF(q:bR)(l:List Deputy):List Deputy:=((aF.L1 q (aF.K1 q l)) l ([]))
def aC.L2(k:(List (Int×Int))->(List Int×Bool×Int)):List Deputy->(List (Int×Int))->(List Int×Bool×Int)
 |[],wi=>(k wi)
 |y2::rz2,wi=>(bif(((mhas wi y2.To)&&((mgetD wi y2.To 0)==0))&&(!(mhas wi y2.From)))then(aC.L2  k rz2 (mput wi y2.From 1))else(aC.L2  k rz2 wi))
def aC.L3(i1:Nat)(k:(List (Int×Int))->(List Int×Bool×Int)):List Deputy->(List (Int×Int))->(List Int×Bool×Int)
 |[],nI=>(k nI)
 |y3::rz3,nI=>(bif(((mhas nI y3.To)&&((mgetD nI y3.To 0)==(i1:Int)))&&(!(mhas nI y3.From)))then(aC.L3 i1 k rz3 (mput nI y3.From (((i1+1):Nat):Int)))else(aC.L3 i1 k rz3 nI))
def aC.L6(cu:Int)(bN:List (Int×Int))(i4:Nat)(k:List Int->Int->(List Int×Bool×Int)):List Deputy->List Int->Int->(List Int×Bool×Int)
 |[],BB,Ds=>(k BB Ds)
 |y6::rz6,BB,Ds=>(bif(((y6.From==Ds)&&(mhas bN y6.To))&&((mgetD bN y6.To 0)==((((((mgetD bN cu 0)).toNat)-(i4+1)):Nat):Int)))then(k (BB++[y6.No]) y6.To)else(aC.L6 cu bN i4 k rz6 BB Ds))
def aC.K4(yp:List Int)(Dt:Int):(List Int×Bool×Int):=(yp,true,0)
def aC.L4(l:List Deputy)(cu:Int)(office:Int)(kind:Int)(value:Int)(gP:Int)(known:Int)(bN:List (Int×Int))(k:List Int->Int->(List Int×Bool×Int)):List Nat->Nat->List Int->Int->(List Int×Bool×Int)
 |[],i4,yp,Dt=>(k yp Dt)
 |y4::rz4,i4,yp,Dt=>((aC.L6 cu bN i4 (λzg6_16 zg6_31=>(aC.L4 l cu office kind value gP known bN k rz4 (i4+1) zg6_16 zg6_31))) (cX (aF (bR.mk office kind value gP known) l)) yp Dt)
def aC.K1(l:List Deputy)(cu:Int)(office:Int)(kind:Int)(value:Int)(gP:Int)(known:Int)(bN:List (Int×Int)):(List Int×Bool×Int):=(bif(!(mhas bN cu))then([],false,0)else((aC.L4 l cu office kind value gP known bN (aC.K4)) (zK (((mgetD bN cu 0)).toNat)) 0 ([]) cu))
def aC.L1(l:List Deputy)(office:Int)(kind:Int)(value:Int)(gP:Int)(known:Int)(k:(List (Int×Int))->(List Int×Bool×Int)):List Nat->Nat->(List (Int×Int))->(List Int×Bool×Int)
 |[],i1,bN=>(k bN)
 |y1::rz1,i1,bN=>((aC.L3 i1 (λzg3_b2_0=>(aC.L1 l office kind value gP known k rz1 (i1+1) zg3_b2_0))) (cX (aF (bR.mk office kind value gP known) l)) bN)
def aC(l:List Deputy)(cu:Int)(to:Int)(office:Int)(kind:Int)(value:Int)(gP:Int)(known:Int):(List Int×Bool×Int):=(bif((jt l cu to (bR.mk office kind value gP known)) != 0)then([],false,(jt l cu to (bR.mk office kind value gP known)))else((aC.L1 l office kind value gP known (aC.K1 l cu office kind value gP known)) (zK 8) 0 (mput ([]) to 0)))
def cf.K1(person:Int)(parties:List Int)(bw:Int)(known:Int)(HI:Int):Int:=(bif((((!(aW person 64))||decide (16<(parties.length:Int)))||(!(aW bw 1099511627776)))||(!(aW known 1099511627776)))then 1 else 0)
def cf.L1(k:Int->Int):List Int->Int->Int
 |[],HI=>(k HI)
 |y1::rz1,HI=>(bif(decide (y1<=HI)||decide (1048576<y1))then 1 else(cf.L1  k rz1 y1))
def cf(l:List Interest)(person:Int)(parties:List Int)(bw:Int)(known:Int):Int:=(bif((cm l) != 0)then(cm l)else((cf.L1 (cf.K1 person parties bw known)) parties (-1)))
def bA.K1  : List Interest:=[]
def bA.L1(v1:List (cS×Interest))(k:List Interest):List Interest->List Interest
 |[]=>(k)
 |y1::rz1=>(bif((!y1.Gone)&&(decide ((mgetD v1 (cS.mk y1.Person y1.Party y1.Of) (qW 0 0 0 0 0 false false))=y1)))then(y1::(bA.L1 v1 k rz1))else(bA.L1 v1 k rz1))
def bA(v0:List Interest)(v1:List (cS×Interest)):List Interest:=((bA.L1 v1 (bA.K1)) v0)
def ce.K1(l:List Interest)(bN:List (cS×Interest)):List Interest:=(bA l bN)
def ce.L1(eU:Int)(known:Int)(k:(List (cS×Interest))->List Interest):List Interest->(List (cS×Interest))->List Interest
 |[],bN=>(k bN)
 |y1::rz1,bN=>(bif(decide (eU<y1.At)||decide (known<y1.Known))then(ce.L1 eU known k rz1 bN)else(bif((!(mhas bN (cS.mk y1.Person y1.Party y1.Of)))||decide ((mgetD bN (cS.mk y1.Person y1.Party y1.Of) (qW 0 0 0 0 0 false false)).At<=y1.At))then(ce.L1 eU known k rz1 (mput bN (cS.mk y1.Person y1.Party y1.Of) y1))else(ce.L1 eU known k rz1 bN)))
def ce(l:List Interest)(eU:Int)(known:Int):List Interest:=((ce.L1 eU known (ce.K1 l)) l ([]))
def conPut(w:gZ)(m:List (Int×Bool))(q:List gZ):List (Int×Bool)×List gZ:=bif mgetD m w.to false then(m,q)else(mput m w.to true,q++[w])
def conFill(person:Int):List Interest->List (Int×List Interest)->List (Int×Bool)->List gZ->List (Int×List Interest)×List (Int×Bool)×List gZ
 |[],f,m,q=>(f,m,q)
 |x::l,f,m,q=>bif x.Of then conFill person l (mput f x.Person (mgetD f x.Person []++[x])) m q
  else bif x.Person==person then conFill person l f (conPut ⟨[x.No],x.Party⟩ m q).1 (conPut ⟨[x.No],x.Party⟩ m q).2 else conFill person l f m q
def conStep(path:List Int):List Interest->List (Int×Bool)->List gZ->List (Int×Bool)×List gZ
 |[],m,q=>(m,q)
 |x::l,m,q=>conStep path l (conPut ⟨path++[x.No],x.Party⟩ m q).1 (conPut ⟨path++[x.No],x.Party⟩ m q).2
def conLoop(parties:List Int)(f:List (Int×List Interest)):Nat->List (Int×Bool)->List gZ->List Int×Bool
 |0,_,_=>([],false)
 |_+1,_,[]=>([],false)
 |n+1,m,w::q=>bif parties.contains w.to then(w.path,true)else bif(w.path.length:Int)==8 then conLoop parties f n m q
  else conLoop parties f n (conStep w.path (mgetD f w.to []) m q).1 (conStep w.path (mgetD f w.to []) m q).2
def conFind(l:List Interest)(person:Int)(parties:List Int)(st:List Interest):List Int×Bool:=
 conLoop parties (conFill person st [] [] []).1 (l.length+1) (conFill person st [] [] []).2.1 (conFill person st [] [] []).2.2
def eJ(l:List Interest)(person:Int)(parties:List Int)(bw:Int)(known:Int):List Int×Bool×Int:=
 bif cf l person parties bw known != 0 then([],false,cf l person parties bw known)
 else((conFind l person parties (ce l bw known)).1,(conFind l person parties (ce l bw known)).2,0)
def vm(h:HF):List Value->List gZ->Prop
 |[],[]=>True
 |v::vs,w::ws=>(∃r,v=.agg (gZ.cells w r).toArray/\gZ.ok h w r)/\vm h vs ws
 |_,_=>False
def V3(_:HF)(v:Value)(x:Option Addr×Nat×Nat):Prop:=v=.slice x.1 x.2.1 x.2.2
def FR(h:HF):List (Int×Option Addr×Nat×Nat)->List (Int×List Interest)->LH->Prop
 |[],[],G=>G=[]
 |(k,x)::m,(k',xs)::f,G=>k=k'/\x.2.1=xs.length/\∃G1 G2,G=G1++G2/\cZ Interest.rp 97 h xs x.1 x.2.2 G1/\FR h m f G2
 |_,_,_=>False
def vo(st:List Interest)(m:List (Int×Bool))(q:List gZ):Prop:=(∀p∈m,p.2=true/\p.1∈st.map (·.Party))/\q.length<=m.length/\∀w∈q,w.path.length<=8
def Na(st:List Interest)(f:List (Int×List Interest)):Prop:=∀k,∀x∈mgetD f k [],x∈st
def iA(c:bK)(person:Int):Bool:=(eJ c.Register.Interests person c.doc.Parties c.at_ c.known).2.1
def cD.K1  : List Approval:=[]
def cD.L1(c:bK)(k:List Approval):List Approval->List Approval
 |[]=>(k)
 |y1::rz1=>(bif((((gF c.Register.Appoints y1.Office y1.For c.at_ c.known).2.2.1&&(aC c.Register.Deputies y1.For y1.By y1.Office c.doc.Kind c.doc.Value c.at_ c.known).2.1)&&(!(iA c y1.For)))&&(!(iA c y1.By)))then(y1::(cD.L1 c k rz1))else(cD.L1 c k rz1))
def cD(c:bK)(p:Policy):List Approval:=(bif(decide ((p.Kinds.length:Int)<=c.doc.Kind))then[]else((cD.L1 c (cD.K1)) ((cj c.Register.Approvals c.doc.No c.doc.At ((nthI p.Rules c.doc.Kind).Think) c.at_ c.known).1)))
def il(c:bK)(p:Policy):List Approval:=(cD c p)
def dj.K1(bZ:List Int):List Int:=(slices_Compact_int (sortI bZ))
def dj.L1(k:List Int->List Int):List Approval->List Int->List Int
 |[],bZ=>k bZ
 |y1::rz1,bZ=>(dj.L1 k rz1 (bZ++[y1.For]))
def dj(c:bK)(p:Policy):List Int:=((dj.L1 (dj.K1)) (il c p) ([]))
def bj.K1  : Int:=(-1)
def bj.L1(f:(Version->Bool))(k:Int):List Version->Nat->Int
 |[],i1=>(k)
 |y1::rz1,i1=>(bif(f y1)then(i1:Int)else(bj.L1 f k rz1 (i1+1)))
def bj(s:List Version)(f:(Version->Bool)):Int:=((bj.L1 f (bj.K1)) s 0)
def eK(v:Version)(v0:Int):Bool:=(v.No==v0)
def fx(c:bK)(no:Int):(Except Int Policy):=(bif(decide ((bj c.Register.Versions (λdE=>eK dE no))<0))then(Except.error 1)else(Except.ok ((nthI c.Register.Versions (bj c.Register.Versions (λdE=>eK dE no))).Policy)))
def fh(cv:Register)(doc:Int)(version:Int)(bw:Int)(known:Int):List Int×Int:=
 bif dC cv != 0 then([],dC cv)else match ma cv doc bw known with
  |.error e=>([],e)
  |.ok c=>match fx c version with
   |.error e=>([],e)
   |.ok p=>(dj c p,0)
def hZ(eW:Int):Bool:=(decide (0<=eW)&&decide (eW<1099511627776))
def bH.K2  : (List (Int×Version)):=[]
def bH.L2(bx:List (Int×Version))(k:List (Int×Version)):List Int->(List (Int×Version))
 |[]=>(k)
 |y2::rz2=>((y2,(mgetD bx y2 (Tk 0 0 0 (zP (⟨#[]⟩:ByteArray) [] [] [] (qH 0 0 0 (⟨#[]⟩:ByteArray) []) 0))))::(bH.L2 bx k rz2))
def bH.K1(rT:Int)(bx:List (Int×Version)):(List (Int×Version)):=((bH.L2 bx (bH.K2)) (sortI (bx.map Prod.fst)))
def bH.L1(known:Int)(fa:Int)(k:Int->(List (Int×Version))->(List (Int×Version))):List Version->Int->(List (Int×Version))->(List (Int×Version))
 |[],rT,bx=>(k rT bx)
 |y1::rz1,rT,bx=>(bif(decide (known<y1.Known))then(bH.L1 known fa k rz1 rT bx)else(bif(decide (y1.At<=fa))then(bif(decide (y1.At<rT))then(bH.L1 known fa k rz1 rT bx)else(bH.L1 known fa k rz1 y1.At (mput bx fa y1)))else(bH.L1 known fa k rz1 rT (mput bx y1.At y1))))
def bH(l:List Version)(known:Int)(fa:Int):(List (Int×Version)):=((bH.L1 known fa (bH.K1)) l (-1) ([]))
def gi(l:List Version)(cu:Int)(known:Int):(List (Int×Version)):=(bH l known cu)
def jd(l:List Version)(old:Bool):List Version:=l
def iI(l:List Version)(old:Bool):List Version:=(bif(!old)then[]else(l.take ((1:Int)).toNat))
def jc(l:List Version)(old:Bool):List Version:=(l.drop ((((l.length:Int)-1):Int)).toNat)
def ml  : (List (Int×Value)):=(mput (mput (mput (mput ([]) 1 (Value.func (.func 171) #[] #[])) 2 (Value.func (.func 172) #[] #[])) 3 (Value.func (.func 170) #[] #[])) 4 (Value.func (.func 170) #[] #[]))
def judgesP(mode:Int)(l:List Version)(old:Bool):List Version:=bif mode==1 then iI l old else bif mode==2 then jc l old else jd l old
def bz.K2(bZ:List Version)(rR:List Int):(List Int×Int×Int):=((sortI rR),(nthI bZ ((bZ.length:Int)-1)).Policy.Mode,0)
def bz.L2(k:List Int->(List Int×Int×Int)):List Version->List Int->(List Int×Int×Int)
 |[],rR=>(k rR)
 |y2::rz2,rR=>(bz.L2  k rz2 (rR++[y2.No]))
def bz.K1(eM:Bool)(bZ:List Version):(List Int×Int×Int):=(bif((bZ.length:Int)==0)then([],0,0)else((bz.L2 (bz.K2 bZ)) (judgesP ((nthI bZ ((bZ.length:Int)-1)).Policy.Mode) bZ eM) ([])))
def bz.L1(begun:Int)(bI:Int)(k:Bool->List Version->(List Int×Int×Int)):List (Int×Version)->Bool->List Version->(List Int×Int×Int)
 |[],eM,bZ=>k eM bZ
 |y1::rz1,eM,bZ=>(bif(decide (bI<y1.1))then(k eM bZ)else(bz.L1 begun bI k rz1 (eM||(y1.1==begun)) (bZ++[y1.2])))
def bz(l:List Version)(begun:Int)(bI:Int)(known:Int):(List Int×Int×Int):=(bif((bG l) != 0)then([],0,(bG l))else(bif((((!(hZ begun))||(!(hZ bI)))||(!(hZ known)))||decide (bI<begun))then([],0,1)else((bz.L1 begun bI (bz.K1)) (gi l begun known) false ([]))))
def lj(mode:Int)(permits:List Bool):Int:=(bif(!(mhas ml mode))then 270 else(bif(decide (256<(permits.length:Int)))then 1 else 0))
def fC.K1  : Int:=(-1)
def fC.L1(f:(Bool->Bool))(k:Int):List Bool->Nat->Int
 |[],i1=>(k)
 |y1::rz1,i1=>(bif(f y1)then(i1:Int)else(fC.L1 f k rz1 (i1+1)))
def fC(s:List Bool)(f:(Bool->Bool)):Int:=((fC.L1 f (fC.K1)) s 0)
def cV(l:List Bool)(ok:(Bool->Bool)):Int:=(fC l ok)
def e8(Gk:Bool):Bool:=Gk
def gk(Gk:Bool):Bool:=(!Gk)
def bE.K1(permits:List Bool)(GO:List Int):(List Int×Bool×Int):=(GO,decide (0<=(cV permits e8)),0)
def bE.L1(k:List Int->(List Int×Bool×Int)):List Bool->Nat->List Int->(List Int×Bool×Int)
 |[],i1,GO=>(k GO)
 |y1::rz1,i1,GO=>(bE.L1  k rz1 (i1+1) (GO++[(i1:Int)]))
def bE.K2(permits:List Bool)(GN:List Int):(List Int×Bool×Int):=(GN,(((permits.length:Int)==1)&&(nthI permits 0)),0)
def bE.L2(k:List Int->(List Int×Bool×Int)):List Bool->Nat->List Int->(List Int×Bool×Int)
 |[],i2,GN=>(k GN)
 |y2::rz2,i2,GN=>(bE.L2  k rz2 (i2+1) (GN++[(i2:Int)]))
def bE.K3(GM:List Int):(List Int×Bool×Int):=(GM,false,0)
def bE.L3(k:List Int->(List Int×Bool×Int)):List Bool->Nat->List Int->(List Int×Bool×Int)
 |[],i3,GM=>(k GM)
 |y3::rz3,i3,GM=>(bE.L3  k rz3 (i3+1) (GM++[(i3:Int)]))
def bE(mode:Int)(permits:List Bool):(List Int×Bool×Int):=(bif((lj mode permits) != 0)then([],false,(lj mode permits))else(bif((mode==4)&&decide (0<=(cV permits e8)))then([(cV permits e8)],true,0)else(bif((mode==3)&&decide (0<=(cV permits gk)))then([(cV permits gk)],false,0)else(bif(mode==3)then((bE.L1 (bE.K1 permits)) permits 0 ([]))else(bif(mode != 4)then((bE.L2 (bE.K2 permits)) permits 0 ([]))else((bE.L3 (bE.K3)) permits 0 ([])))))))
def ki(mode:Int)(permits:List Bool):(Bool×Int):=((bE mode permits).2.1,(bE mode permits).2.2)
def kb.K1(bx:List (Int×Bool)):Bool:=true
def kb.L1(k:(List (Int×Bool))->Bool):List Use->(List (Int×Bool))->Bool
 |[],bx=>(k bx)
 |y1::rz1,bx=>(bif(((((mgetD bx y1.Doc false)||(!(aQ 0 4095 ([y1.Doc]))))||(!(aQ 0 15 ([y1.Kind]))))||(!(aQ 0 1099511627776 ([y1.Value]))))||(!(aQ 0 1099511627775 ([y1.At,y1.Known]))))then false else(kb.L1  k rz1 (mput bx y1.Doc true)))
def kb(u:List Use):Bool:=((kb.L1 (kb.K1)) u ([]))
def bQ.K2(rR:List Budget):List Budget:=rR
def bQ.L2(bx:List (gO×Budget))(k:List Budget->List Budget):List Budget->List Budget->List Budget
 |[],rR=>(k rR)
 |y2::rz2,rR=>(bif((!y2.Gone)&&(decide ((mgetD bx (gO.mk y2.Kind y2.Period) (Tu 0 0 0 0 0 0 0 false))=y2)))then(bQ.L2 bx k rz2 (rR++[y2]))else(bQ.L2 bx k rz2 rR))
def bQ.K1(l:List Budget)(bx:List (gO×Budget)):List Budget:=((bQ.L2 bx (bQ.K2)) l ([]))
def bQ.L1(kind:Int)(bI:Int)(known:Int)(k:(List (gO×Budget))->List Budget):List Budget->(List (gO×Budget))->List Budget
 |[],bx=>(k bx)
 |y1::rz1,bx=>(bif((decide (bI<y1.At)||decide (known<y1.Known))||((y1.Kind != (-1))&&(y1.Kind != kind)))then(bQ.L1 kind bI known k rz1 bx)else(bif((!(mhas bx (gO.mk y1.Kind y1.Period)))||decide ((mgetD bx (gO.mk y1.Kind y1.Period) (Tu 0 0 0 0 0 0 0 false)).At<=y1.At))then(bQ.L1 kind bI known k rz1 (mput bx (gO.mk y1.Kind y1.Period) y1))else(bQ.L1 kind bI known k rz1 bx)))
def bQ(l:List Budget)(kind:Int)(bI:Int)(known:Int):List Budget:=((bQ.L1 kind bI known (bQ.K1 l)) l ([]))
def cn.K1  : List Int:=[]
def cn.L1(known:Int)(bg:Budget)(at_:Int)(k:List Int):List Use->List Int
 |[]=>(k)
 |y1::rz1=>(bif((decide (y1.Known<=known)&&((bg.Kind==(-1))||(bg.Kind==y1.Kind)))&&((qE .i64 (y1.At.tdiv bg.Period))==(qE .i64 (at_.tdiv bg.Period))))then(y1.Value::(cn.L1 known bg at_ k rz1))else(cn.L1 known bg at_ k rz1))
def cn(u:List Use)(known:Int)(bg:Budget)(at_:Int):List Int:=((cn.L1 known bg at_ (cn.K1)) u)
def pK(Gk:Budget)(u:List Use)(bI:Int)(known:Int):List Int:=(cn u known Gk bI)
def bX.L2(k:Int->Int->(Int×Bool×Int)):List Int->Int->Int->(Int×Bool×Int)
 |[],IG,IH=>k IG IH
 |y2::rz2,IG,IH=>(bX.L2 k rz2 (qE .i64 (IG+y2)) (qE .i64 (IH+1)))
def bX.L3(k:Int->Int->(Int×Bool×Int)):List Int->Int->Int->(Int×Bool×Int)
 |[],qX,IF=>k qX IF
 |y3::rz3,qX,IF=>(bX.L3 k rz3 (qE .i64 (qX+y3)) (qE .i64 (IF+1)))
def bX.K1  : (Int×Bool×Int):=((-1),true,0)
def bX.L1(u:List Use)(value:Int)(eB:Int)(known:Int)(k:(Int×Bool×Int)):List Budget->(Int×Bool×Int)
 |[]=>(k)
 |y1::rz1=>((bX.L3 (λzg3_b6_0 zg3_b5_0=>(bif(decide (y1.Count<zg3_b5_0)||decide (y1.Value<zg3_b6_0))then(y1.No,false,0)else(bX.L1 u value eB known k rz1)))) (pK y1 u eB known) value 1)
def bX(l:List Budget)(u:List Use)(kind:Int)(value:Int)(eB:Int)(known:Int):(Int×Bool×Int):=(bif((cG l) != 0)then(0,false,(cG l))else(bif(decide (4096<(u.length:Int)))then(0,false,2)else(bif(!(kb u))then(0,false,180)else(bif(((!(aQ 0 15 ([kind])))||(!(aQ 0 1099511627776 ([value]))))||(!(aQ 0 1099511627775 ([eB,known]))))then(0,false,1)else((bX.L1 u value eB known (bX.K1)) (bQ l kind eB known))))))
def jW(t:Int):Bool:=((t != (-1))&&(!(ga t)))
def cW(l:List Document)(signed:List Int):Bool:=(((signed.length:Int)==(l.length:Int))&&(!(cI signed jW)))
def gm.K1(iC:Int):Int:=iC
def gm.L1(k:Int->Int):List Int->Int->Int
 |[],iC=>(k iC)
 |y1::rz1,iC=>(gm.L1  k rz1 (min iC y1))
def gm(x:List Int):Int:=((gm.L1 (gm.K1)) (x.drop 1) (nthI x 0))
def cQ(p:fA)(w6:Int)(bI:Int):(Int×Int):=(bif(!(nthI p.done w6))then(1,(-1))else(bif(decide (0<=(nthI p.lacks w6)))then(4,(nthI p.lacks w6))else(bif(decide (0<(((mgetD p.revoked ((nthI p.shelf.docs w6).No) []).length:Nat):Int)))then(5,(gm (mgetD p.revoked ((nthI p.shelf.docs w6).No) [])))else(bif(decide (bI<(nthI p.shelf.docs w6).From))then(2,(-1))else(bif(decide ((nthI p.shelf.docs w6).Until<=bI))then(3,(-1))else(0,(-1)))))))
def insIn(cmp:Int->Int->Int):Nat->List Int->List Int
 |0,xs=>xs
 |j+1,xs=>bif decide (cmp (xs.getD (j+1) 0) (xs.getD j 0)<0)then insIn cmp j ((xs.set (j+1) (xs.getD j 0)).set j (xs.getD (j+1) 0))else xs
def insOut(cmp:Int->Int->Int):Nat->Nat->List Int->List Int
 |0,_,xs=>xs
 |m+1,i,xs=>insOut cmp m (i+1) (insIn cmp i xs)
def fB(xs:List Int)(cmp:Int->Int->Int):List Int:=insOut cmp (xs.length-1) 1 xs
def cmp_Compare_int(x:Int)(y:Int):Int:=(bif(cmp_isNaN_int x)then(bif(cmp_isNaN_int y)then 0 else(-1))else(bif(cmp_isNaN_int y)then 1 else(bif(decide (x<y))then(-1)else(bif(decide (y<x))then 1 else 0))))
def i8(a:Int)(jy:Int)(p:pO):Int:=(cmp_Compare_int (nthI p.signed a) (nthI p.signed jy))
def da.K1  : List Int:=[]
def da.L1(k:List Int):List Int->List Int
 |[]=>(k)
 |y1::rz1=>(y1::(da.L1  k rz1))
def da(v0:List Int):List Int:=((da.L1 (da.K1)) v0)
def lu(s:List Int):List Int:=(da s)
def bP.K1(p:pO)(jm:List Int):List Int:=(lu (fB jm (λdE Ef=>i8 dE Ef p)))
def bP.L1(eU:Int)(k:List Int->List Int):List Int->Nat->List Int->List Int
 |[],i1,jm=>(k jm)
 |y1::rz1,i1,jm=>(bif(decide (0<=y1)&&decide (y1<=eU))then(bP.L1 eU k rz1 (i1+1) (jm++[(i1:Int)]))else(bP.L1 eU k rz1 (i1+1) jm))
def bP(p:pO)(eU:Int):List Int:=((bP.L1 eU (bP.K1 p)) p.signed 0 ([]))
def backL(s:List Int):Nat->List (Int×Int)
 |0=>[]
 |m+1=>((m:Int),nthI s (m:Int))::backL s m
def iE(v0:List Int):List (Int×Int):=backL v0 v0.length
def kg(s:List Int):(List (Int×Int)):=(iE s)
def V3i(_:HF)(v:Value)(x:Option Addr×Nat×Nat):Prop:=v=.slice x.1 x.2.1 x.2.2
def FRi(h:HF):List (Int×Option Addr×Nat×Nat)->List (Int×List Int)->LH->Prop
 |[],[],G=>G=[]
 |(k,x)::m,(k',xs)::f,G=>k=k'/\x.2.1=xs.length/\∃G1 G2,G=G1++G2/\cZ Rp.int 3 h xs x.1 x.2.2 G1/\FRi h m f G2
 |_,_,_=>False
def playP(l:List Document)(sg:List Int):fA:=⟨ay l,sg,List.replicate l.length false,List.replicate l.length 0,[]⟩
def playR(n:Nat)(sq:ou)(sb:Option Addr)(sc:Nat)(b5 b8 b9:Nat):tL:=⟨sq,sb,sc,some ⟨b5,0,none⟩,n,some ⟨b8,0,none⟩,n,b9⟩
def plL(b c d f t:Bool)(B5 B8 B9 B12 B11:Nat×Obj):LH:=
 (bif t then[B11]else[])++((bif f then[B12]else[])++((bif d then[B9]else[])++((bif c then[B8]else[])++(bif b then[B5]else[]))))
def plD(a b c d f g t:Bool):List Nat:=
 (bif t then[11]else[])++((bif g then[10]else[])++((bif f then[12]else[])++((bif d then[9]else[])++((bif c then[8]else[])++((bif b then[5]else[])++((bif a then[1]else[])++[7,6,4,3,2,0]))))))
def plM(a b c d f g t:Bool):Nat:=(bif a then 0 else 1)+(bif b then 0 else 1)+(bif c then 0 else 1)+(bif d then 0 else 1)+(bif f then 0 else 1)+(bif g then 0 else 1)+(bif t then 0 else 1)
def PlI(h:HF)(l:List Document)(lb:Option Addr)(lc:Nat)(sg:List Int)(sb:Option Addr)(sc:Nat)(at_:Int)(q4:Addr)(a b c d f g t:Bool)(e:Env)(h':HF)(L:LH):Prop:=
 ((!g||(a&&b&&c&&d))&&(!t||g))=true/\h.le h'/\(e 2=.int .i64 at_/\e 4=.pointer (some q4)/\e 16=.slice lb l.length lc/\e 18=.slice sb sg.length sc/\e 20=.int .i64 (l.length:Int)/\e 23=.int .i64 (l.length:Int)) /\
 ∃(sq:ou)(b5 b8 b9 b12 b11:Nat),(a=true->e 17=.agg (gN.cells (ay l) sq).toArray/\gN.ok h' (ay l) sq)/\(b=true->e 21=.slice (some ⟨b5,0,none⟩) l.length l.length) /\
  (c=true->e 24=.slice (some ⟨b8,0,none⟩) l.length l.length)/\(d=true->e 25=.map (some b9))/\(f=true->e 7=.pointer (some ⟨b12,0,none⟩))/\(g=true->e 26=.agg (fA.cells (playP l sg) (playR l.length sq sb sc b5 b8 b9)).toArray)/\(t=true->e 27=.pointer (some ⟨b11,0,none⟩)) /\
  L.Perm (plL b c d f t (b5,.cells (List.replicate l.length (.bool false)).toArray 4 (0,0)) (b8,.cells (List.replicate l.length (.int .i64 0)).toArray 3 (0,0)) (b9,.map #[] 0) (b12,.cells (vB [.pointer none]) 211 (0,0)) (b11,.cells (fA.cells (playP l sg) (playR l.length sq sb sc b5 b8 b9)).toArray 238 (0,0)))
def plN(a b c d f g t:Bool):List Nat:=
 (bif a then[]else[1])++((bif b then[]else[5])++((bif c then[]else[8])++((bif d then[]else[9])++((bif a&&b&&c&&d&&!g then[10]else[])++((bif g&&!t then[11]else[])++((bif f then[]else[12])++(bif a&&b&&c&&d&&f&&g&&t then[13]else[])))))))
def playLack(sg:List Int)(i:Int)(p:fA)(no:Int):fA:=bif(cQ p (mgetD p.shelf.at_ no 0) (nthI sg i)).1 != 0 then { p with lacks:=p.lacks.set i.toNat no }else p
def playRevoke(d:Document)(p:fA)(no:Int):fA:={ p with revoked:=mput p.revoked no (mgetD p.revoked no []++[d.No]) }
def playMid(p:fA)(i:Int):fA:=(kg (nthI p.shelf.docs i).Needs).foldl (λq x=>playLack p.signed i q x.2) { p with lacks:=p.lacks.set i.toNat (-1) }
def playDone(p:fA)(i:Int):fA:={ p with done:=p.done.set i.toNat true }
def playStep(p:fA)(i:Int):fA:=
 bif decide (nthI (playMid p i).lacks i<0)then(nthI p.shelf.docs i).Revokes.foldl (playRevoke (nthI p.shelf.docs i)) (playDone (playMid p i) i)else playDone (playMid p i) i
def ct(l:List Document)(signed:List Int)(at_:Int):fA:=(bP (playP l signed) at_).foldl playStep (playP l signed)
def plB(b5 b8 br:Nat)(P:fA)(om:Obj)(Gf:LH):LH:=
 [(b5,.cells (P.done.map Value.bool).toArray 4 (0,0)),(b8,.cells (P.lacks.map (Value.int .i64)).toArray 3 (0,0)),(br,om)]++Gf
def cg.K1(rT:List Int):(List Int×Int):=(rT,0)
def cg.L1(l:List Document)(signed:List Int)(bI:Int)(k:List Int->(List Int×Int)):List Document->Nat->List Int->(List Int×Int)
 |[],i1,rT=>(k rT)
 |y1::rz1,i1,rT=>(bif((cQ (ct l signed bI) (i1:Int) bI).1==0)then(cg.L1 l signed bI k rz1 (i1+1) (rT++[y1.No]))else(cg.L1 l signed bI k rz1 (i1+1) rT))
def cg(l:List Document)(signed:List Int)(bI:Int):(List Int×Int):=(bif((aT l) != 0)then([],(aT l))else(bif((!(cW l signed))||(!(ga bI)))then([],1)else((cg.L1 l signed bI (cg.K1)) l 0 ([]))))
def bY(d:Document)(v0:bK):Bool:=(d.No==v0.doc.No)
def jo(s:List Document)(f:(Document->Bool)):Bool:=decide (0<=(ad s f))
def gh(l:List Document)(signed:List Int)(no:Int)(bw:Int):(Int×Int×Int):=(bif((aT l) != 0)then(0,0,(aT l))else(bif((!(cW l signed))||(!(ga bw)))then(0,0,1)else(bif(!(mhas ((ct l signed bw).shelf.at_) no))then(0,0,1)else((cQ (ct l signed bw) (mgetD ((ct l signed bw).shelf.at_) no 0) bw).1,(cQ (ct l signed bw) (mgetD ((ct l signed bw).shelf.at_) no 0) bw).2,0))))
def ic.K1  : Int:=(-1)
def ic.L1(v:Int)(k:Int):List Int->Nat->Int
 |[],i1=>(k)
 |y1::rz1,i1=>(bif(v==y1)then(i1:Int)else(ic.L1 v k rz1 (i1+1)))
def ic(s:List Int)(v:Int):Int:=((ic.L1 v (ic.K1)) s 0)
def lF(s:List Int)(v:Int):Bool:=decide (0<=(ic s v))
def kx(d:Document)(c:bK)(signed:List Int):Bool:=(bif(!(lF d.Revokes c.doc.No))then false else(((gh c.Register.Docs signed d.No c.at_).1 != 1)&&((gh c.Register.Docs signed d.No c.at_).1 != 4)))
def fI(c:bK)(signed:List Int):Bool:=(jo c.Register.Docs (λdE=>kx dE c signed))
def gU(c:bK)(signed:List Int):Bool:=(((decide (c.at_<c.doc.At)||decide (c.doc.Until<=c.at_))||(decide (0<=(nthI signed (ad c.Register.Docs (λdE=>bY dE c))))&&decide ((nthI signed (ad c.Register.Docs (λdE=>bY dE c)))<=c.at_)))||(fI c signed))
def Aa(c:bK)(signed:List Int):Bool:=(gU c signed)
def lH(eW:Int)(v0:List Int):Bool:=(!(lF v0 eW))
def jh(c:bK)(signed:List Int):Bool:=(cI c.doc.Needs (λdE=>lH dE ((cg c.Register.Docs signed c.at_).1)))
def zZ(c:bK)(signed:List Int):Bool:=(jh c signed)
def co.K1(bx:List Holder):List Holder:=bx
def co.L1(k:List Holder->List Holder):List Holder->List Holder->List Holder
 |[],bx=>k bx
 |y1::rz1,bx=>(co.L1 k rz1 (bx++[y1]))
def co(seq:List Holder):List Holder:=((co.L1 (co.K1)) seq ([]))
def gx(seq:List Holder):List Holder:=(co seq)
def bU.K1  : List Holder:=[]
def bU.L1(m:List (OSeat×Appoint))(office:Int)(k:List Holder):List OSeat->List Holder
 |[]=>(k)
 |y1::rz1=>(bif((y1.office==office)&&(!((mgetD m y1 (jD 0 0 0 0 0 0 false)).Gone)))then((U7 ((mgetD m y1 (jD 0 0 0 0 0 0 false)).Person) ((mgetD m y1 (jD 0 0 0 0 0 0 false)).Weight))::(bU.L1 m office k rz1))else(bU.L1 m office k rz1))
def bU(m:List (OSeat×Appoint))(office:Int):List Holder:=((bU.L1 m office (bU.K1)) (seatS (m.map Prod.fst)))
def jr(m:List (OSeat×Appoint))(office:Int):List Holder:=(bU m office)
def fo(l:List Appoint)(office:Int)(bI:Int)(known:Int):(List Holder×Int):=(bif((df l) != 0)then([],(df l))else(bif(((!(eN office))||(!(di bI)))||(!(di known)))then([],1)else((gx (jr (dx l bI known) office)),0)))
def fg.K1(iC:Int):Bool:=true
def fg.L1(k:Int->Bool):List Int->Int->Bool
 |[],iC=>(k iC)
 |y1::rz1,iC=>(bif(decide (y1<=iC)||decide (64<=y1))then false else(fg.L1  k rz1 y1))
def fg(who:List Int):Bool:=((fg.L1 (fg.K1)) who (-1))
def eT.L2(k:List Int->Bool):List Holder->List Int->Bool
 |[],Ru=>(k Ru)
 |y2::rz2,Ru=>(bif(decide (y2.Weight<1)||decide (64<y2.Weight))then false else(eT.L2  k rz2 (Ru++[y2.Person])))
def eT.L3(k:List Int->Bool):List Holder->List Int->Bool
 |[],NM=>(k NM)
 |y3::rz3,NM=>(bif(decide (y3.Weight<1)||decide (64<y3.Weight))then false else(eT.L3  k rz3 (NM++[y3.Person])))
def eT.K1(holders:List (List Holder))(offices:Int):Bool:=((holders.length:Int)==offices)
def eT.L1(k:Bool):List (List Holder)->Bool
 |[]=>(k)
 |y1::rz1=>((eT.L3 (λzg3_7=>(bif(!(fg zg3_7))then false else(eT.L1  k rz1)))) y1 ([]))
def eT(holders:List (List Holder))(offices:Int):Bool:=((eT.L1 (eT.K1 holders offices)) holders)
def cq.K1  : List Holder:=[]
def cq.L1(q:aX)(k:List Holder):List Holder->List Holder
 |[]=>(k)
 |y1::rz1=>(bif((slices_BinarySearch_int q.who y1.Person).2)then(y1::(cq.L1 q k rz1))else(cq.L1 q k rz1))
def cq(q:aX)(office:Int):List Holder:=((cq.L1 q (cq.K1)) (nthI q.holders office))
def iz(q:aX)(office:Int):List Holder:=(cq q office)
def eu.K1(bZ:Bool):Bool:=false
def eu.L1(k:Bool->Bool):List Holder->Bool->Bool
 |[],bZ=>k bZ
 |y1::rz1,bZ=>true
def eu(q:aX)(x:Expr):Bool:=((eu.L1 (eu.K1)) (iz q x.No) false)
def el.K1(x:Expr)(bZ:Int):Bool:=decide (x.N<=bZ)
def el.L1(k:Int->Bool):List Holder->Int->Bool
 |[],bZ=>k bZ
 |y1::rz1,bZ=>(el.L1 k rz1 (qE .i64 (bZ+y1.Weight)))
def el(q:aX)(x:Expr):Bool:=((el.L1 (el.K1 x)) (iz q x.No) 0)
def fH.K1(x:Expr)(jm:Int):Bool:=decide (x.N<=jm)
def fH.L1(rec:aX->Expr->Bool)(q:aX)(k:Int->Bool):List Expr->Int->Bool
 |[],jm=>(k jm)
 |y1::rz1,jm=>(bif(rec q y1)then(fH.L1 rec q k rz1 (qE .i64 (jm+1)))else(fH.L1 rec q k rz1 jm))
def fH.F(rec:aX->Expr->Bool)(q:aX)(x:Expr):Bool:=((fH.L1 rec q (fH.K1 x)) x.L 0)
def mf.F(rec:aX->Expr->Bool)(q:aX)(x:Expr):Bool:=(bif(decide (q.value<=x.N))then(rec q (nthI x.L 0))else(rec q (nthI x.L 1)))
def fulQ(rec:aX->Expr->Bool)(q:aX)(x:Expr):Bool:=if x.Kind=1 then eu q x else if x.Kind=2 then el q x else if x.Kind=3 then fH.F rec q x else mf.F rec q x
def em.F(rec:aX->Expr->Bool)(q:aX)(x:Expr):Bool:=(fulQ rec q x)
def em.go:Nat->aX->Expr->Bool
 |0=>λ_ _=>default
 |m+1=>em.F (em.go m)
def em(q:aX)(x:Expr):Bool:=em.go x.dep q x
def gI(p:Policy)(kind:Int)(value:Int)(holders:List (List Holder))(who:List Int):(Bool×Int):=(bif((dh p) != 0)then(false,(dh p))else(bif(((decide (kind<0)||decide ((p.Kinds.length:Int)<=kind))||decide (value<0))||decide (1099511627776<value))then(false,1)else(bif(!(eT holders (p.Offices.length:Int)))then(false,210)else(bif(!(fg who))then(false,1)else((em (aX.mk value holders who) ((nthI p.Rules kind).Expr)),0)))))
def fV.K1(c:bK)(p:Policy)(who:List Int)(mu:List (List Holder)):Bool:=((gI p c.doc.Kind c.doc.Value mu who).1&&((gI p c.doc.Kind c.doc.Value mu who).2==0))
def fV.L1(c:bK)(k:(List (List Holder))->Bool):List ByteArray->Nat->(List (List Holder))->Bool
 |[],i1,mu=>(k mu)
 |y1::rz1,i1,mu=>(fV.L1 c k rz1 (i1+1) (mu++[(fo c.Register.Appoints (i1:Int) c.at_ c.known).1]))
def fV(c:bK)(p:Policy)(who:List Int):Bool:=((fV.L1 c (fV.K1 c p who)) p.Offices 0 ([]))
def askJ(c:bK):List Int×Int×Int:=bz c.Register.Versions c.doc.At c.at_ c.known
def askP(c:bK)(no:Int):Policy:=exD (fx c no)
def askWho(c:bK)(no:Int):List Int:=dj c (askP c no)
def askAns(c:bK)(no:Int):Bool:=fV c (askP c no) (askWho c no)
def askAll(c:bK):List Int:=slices_Compact_int (sortI ((askJ c).1.flatMap (askWho c)))
def ia(c:bK):Bool:=bif(askJ c).2.1==0 then false else(ki (askJ c).2.1 ((askJ c).1.map (askAns c))).1
abbrev verO(s0 b0:Int)(vb:Option Addr)(vn vc:Nat)(wb:Option Addr)(wn wc:Nat):Obj:=.cells (vB [.int .i64 s0,.int .i64 b0,.slice vb vn vc,.slice wb wn wc]) 36 (0,0)
def judgeRoom(c:bK)(r:Register)(u:List Use)(at_ known:Int):Int×Bool×Int:=bX r.Budgets u c.doc.Kind c.doc.Value at_ known
def judgeC(c:bK)(r:Register)(signed:List Int)(u:List Use)(at_ known:Int):gM:=
 bif gU c signed then⟨1,-1,[],[]⟩else bif jh c signed then⟨2,-1,[],[]⟩else bif !(ia c)then⟨3,-1,(askJ c).1,askAll c⟩else
 bif !(judgeRoom c r u at_ known).2.1 then⟨4,(judgeRoom c r u at_ known).1,(askJ c).1,askAll c⟩else⟨0,-1,(askJ c).1,askAll c⟩
def eL(cv:Register)(signed:List Int)(u:List Use)(doc:Int)(eB:Int)(known:Int):gM×Int:=
 bif dC cv != 0 then(⟨0,0,[],[]⟩,dC cv)else
 bif(cg cv.Docs signed 0).2 != 0 then(⟨0,0,[],[]⟩,(cg cv.Docs signed 0).2)else
 bif(bX cv.Budgets u 0 0 0 0).2.2 != 0 then(⟨0,0,[],[]⟩,(bX cv.Budgets u 0 0 0 0).2.2)else
 match ma cv doc eB known with
  |.error e=>(⟨0,0,[],[]⟩,e)
  |.ok c=>(judgeC c cv signed u eB known,0)
def gp.K1  : Bool:=true
def gp.L1(jy:List Int)(k:Bool):List Int->Nat->Bool
 |[],i1=>(k)
 |y1::rz1,i1=>(bif(y1 != (nthI jy (i1:Int)))then false else(gp.L1 jy k rz1 (i1+1)))
def gp(a:List Int)(jy:List Int):Bool:=(bif((a.length:Int) != (jy.length:Int))then false else((gp.L1 jy (gp.K1)) a 0))
def cy  : Policy:=(zP (⟨#[98,111,97,114,100]⟩:ByteArray) ([(⟨#[99,111,110,116,114,97,99,116]⟩:ByteArray)]) ([(⟨#[100,105,114,101,99,116,111,114]⟩:ByteArray)]) ([(TE (⟨#[99,111,110,116,114,97,99,116]⟩:ByteArray) 0 3 (qH 1 0 0 (⟨#[100,105,114,101,99,116,111,114]⟩:ByteArray) ([])))]) (qH 1 0 0 (⟨#[100,105,114,101,99,116,111,114]⟩:ByteArray) ([])) 2)
def aN  : Register:=(qS ([(jD 0 0 0 0 2 1 false)]) ([(Tt 0 0 0 40 2 5 0 (-1) 100 false)]) ([]) ([]) ([(Tk 1 0 0 cy)]) ([(Document.mk 7 1 0 60 0 50 ([9]) ([]) ([]) (λ_=>0))]) ([(kT 3 4 6 7 5 2 0 false)]))
def Kg(cv:Register)(eU:Int)(state:Int):Bool:=(((eL cv ([(-1)]) ([]) 7 eU 100).2==0)&&(((eL cv ([(-1)]) ([]) 7 eU 100).1).State==state))
def wa  : Bool:=true
def gf.K1(jm:Int):Int:=jm
def gf.L1(rec:Expr->Int->Int)(limit:Int)(k:Int->Int):List Expr->Int->Int
 |[],jm=>(k jm)
 |y1::rz1,jm=>(bif(decide (jm<=limit))then(gf.L1 rec limit k rz1 (qE .i64 (jm+(rec y1 (qE .i64 (limit-jm))))))else(k jm))
def gf.F(rec:Expr->Int->Int)(x:Expr)(limit:Int):Int:=((gf.L1 rec limit (gf.K1)) x.L 1)
def gf.go:Nat->Expr->Int->Int
 |0=>λ_ _=>default
 |m+1=>gf.F (gf.go m)
def gf(x:Expr)(limit:Int):Int:=gf.go x.dep x limit
def dZ.L2(k:Bool):List Rule->Bool
 |[]=>(k)
 |y2::rz2=>(bif(decide (40<(gf y2.Expr 40)))then false else(dZ.L2  k rz2))
def dZ.L3(k:Bool):List Rule->Bool
 |[]=>(k)
 |y3::rz3=>(bif(decide (40<(gf y3.Expr 40)))then false else(dZ.L3  k rz3))
def dZ.K1  : Bool:=true
def dZ.L1(k:Bool):List Version->Bool
 |[]=>(k)
 |y1::rz1=>(bif(((decide (20<(y1.Policy.Kinds.length:Int))||decide (40<(y1.Policy.Offices.length:Int)))||decide (20<(y1.Policy.Rules.length:Int)))||decide (40<(gf y1.Policy.Change 40)))then false else((dZ.L3 ((dZ.L1  k rz1))) y1.Policy.Rules))
def dZ(l:List Version):Bool:=(bif(decide (5<(l.length:Int)))then false else((dZ.L1 (dZ.K1)) l))
def mR.K1  : Bool:=true
def mR.L1(k:Bool):List Document->Bool
 |[]=>(k)
 |y1::rz1=>(bif((decide (20<(y1.Parties.length:Int))||decide (20<(y1.Revokes.length:Int)))||decide (20<(y1.Needs.length:Int)))then false else(mR.L1  k rz1))
def mR(cv:Register):Bool:=(bif((((((decide (30<(cv.Appoints.length:Int))||decide (12<(cv.Deputies.length:Int)))||decide (12<(cv.Interests.length:Int)))||decide (12<(cv.Budgets.length:Int)))||decide (8<(cv.Docs.length:Int)))||decide (24<(cv.Approvals.length:Int)))||(!(dZ cv.Versions)))then false else((mR.L1 (mR.K1)) cv.Docs))
def dp.K1  : Int:=(-1)
def dp.L1(no:Int)(k:Int):List Document->Nat->Int
 |[],i1=>(k)
 |y1::rz1,i1=>(bif(y1.No==no)then(i1:Int)else(dp.L1 no k rz1 (i1+1)))
def dp(cv:Register)(no:Int):Int:=((dp.L1 no (dp.K1)) cv.Docs 0)
def kU(eW:Int):Bool:=(decide (0<=eW)&&decide (eW<1099511627776))
def mq(eW:Int):Bool:=(decide (0<=eW)&&decide (eW<32))
def lP(eW:Int):Bool:=(decide (0<=eW)&&decide (eW<64))
def ku(x:Appoint):Bool:=(bif(((((decide (x.No<0)||decide (1048576<x.No))||(!(kU x.At)))||(!(kU x.Known)))||(!(mq x.Office)))||(!(lP x.Person)))then false else(bif x.Gone then(x.Weight==0)else(decide (1<=x.Weight)&&decide (x.Weight<=64))))
def gC.K1  : Int:=0
def gC.L1(l:List Appoint)(k:Int):List Appoint->Nat->Int
 |[],i1=>(k)
 |y1::rz1,i1=>(bif((!(ku y1))||(decide (0<(i1:Int))&&decide (y1.No<=(nthI l ((i1:Int)-1)).No)))then 150 else(gC.L1 l k rz1 (i1+1)))
def gC(l:List Appoint):Int:=(bif(decide (4096<(l.length:Int)))then 2 else((gC.L1 l (gC.K1)) l 0))
def ef(eW:Int)(low:Int)(high:Int):Bool:=(decide (low<=eW)&&decide (eW<=high))
def kO(eW:Int):Bool:=(ef eW 0 1099511627775)
def jq(eW:Int):Bool:=(ef eW 0 63)
def kt(x:Deputy):Bool:=(bif((((((!(ef x.No 0 1048576))||(!(kO x.At)))||(!(kO x.Known)))||(!(jq x.From)))||(!(jq x.To)))||(x.From==x.To))then false else(bif((!(ef x.Office 0 31))||(!(ef x.Kind (-1) 15)))then false else(bif x.Gone then((x.Until==0)&&(x.Most==0))else((decide (x.At<x.Until)&&decide (x.Until<=1099511627776))&&(ef x.Most 0 1099511627776)))))
def gB.K1  : Int:=0
def gB.L1(l:List Deputy)(k:Int):List Deputy->Nat->Int
 |[],i1=>(k)
 |y1::rz1,i1=>(bif((!(kt y1))||(decide (0<(i1:Int))&&decide (y1.No<=(nthI l ((i1:Int)-1)).No)))then 160 else(gB.L1 l k rz1 (i1+1)))
def gB(l:List Deputy):Int:=(bif(decide (4096<(l.length:Int)))then 2 else((gB.L1 l (gB.K1)) l 0))
def kz(t:Int):Bool:=(decide (0<=t)&&decide (t<1099511627776))
def iQ(eW:Int):Bool:=(decide (0<=eW)&&decide (eW<=1048576))
def nk(eW:Int):Bool:=(decide (0<=eW)&&decide (eW<64))
def kk(x:Interest):Bool:=(bif((((decide (x.No<0)||decide (1048576<x.No))||(!(kz x.At)))||(!(kz x.Known)))||(!(iQ x.Party)))then false else(bif x.Of then((iQ x.Person)&&(x.Person != x.Party))else(nk x.Person)))
def gg.K1  : Int:=0
def gg.L1(l:List Interest)(k:Int):List Interest->Nat->Int
 |[],i1=>(k)
 |y1::rz1,i1=>(bif((!(kk y1))||(decide (0<(i1:Int))&&decide (y1.No<=(nthI l ((i1:Int)-1)).No)))then 290 else(gg.L1 l k rz1 (i1+1)))
def gg(l:List Interest):Int:=(bif(decide (4096<(l.length:Int)))then 2 else((gg.L1 l (gg.K1)) l 0))
def iM(eW:Int)(least:Int)(most:Int):Bool:=(decide (least<=eW)&&decide (eW<=most))
def nl(eW:Int):Bool:=(decide (0<=eW)&&decide (eW<1099511627776))
def kn(x:Budget):Bool:=(bif(((((!(iM x.No 0 1048576))||(!(nl x.At)))||(!(nl x.Known)))||(!(iM x.Kind (-1) 15)))||(!(iM x.Period 1 1099511627776)))then false else(bif x.Gone then((x.Count==0)&&(x.Value==0))else((iM x.Count 0 1048576)&&(iM x.Value 0 1099511627776))))
def iu.K1  : Int:=0
def iu.L1(l:List Budget)(k:Int):List Budget->Nat->Int
 |[],i1=>(k)
 |y1::rz1,i1=>(bif((!(kn y1))||(decide (0<(i1:Int))&&decide (y1.No<=(nthI l ((i1:Int)-1)).No)))then 180 else(iu.L1 l k rz1 (i1+1)))
def iu(l:List Budget):Int:=(bif(decide (4096<(l.length:Int)))then 2 else((iu.L1 l (iu.K1)) l 0))
def fN(eW:Int):Bool:=(decide (0<=eW)&&decide (eW<1099511627776))
def dB.K1(jm:Int):Int:=jm
def dB.L1(rec:Expr->Int->Int)(limit:Int)(k:Int->Int):List Expr->Int->Int
 |[],jm=>(k jm)
 |y1::rz1,jm=>(bif(decide (jm<=limit))then(dB.L1 rec limit k rz1 (qE .i64 (jm+(rec y1 (qE .i64 (limit-jm))))))else(k jm))
def dB.F(rec:Expr->Int->Int)(x:Expr)(limit:Int):Int:=((dB.L1 rec limit (dB.K1)) x.L 1)
def dB.go:Nat->Expr->Int->Int
 |0=>λ_ _=>default
 |m+1=>dB.F (dB.go m)
def dB(x:Expr)(limit:Int):Int:=dB.go x.dep x limit
def bh.K1(iC:Int):Int:=(qE .i64 (iC+1))
def bh.L1(rec:Expr->Int)(k:Int->Int):List Expr->Int->Int
 |[],iC=>(k iC)
 |y1::rz1,iC=>(bh.L1 rec k rz1 (max iC (rec y1)))
def bh.F(rec:Expr->Int)(x:Expr):Int:=((bh.L1 rec (bh.K1)) x.L 0)
def bh.go:Nat->Expr->Int
 |0=>λ_=>default
 |m+1=>bh.F (bh.go m)
def bh(x:Expr):Int:=bh.go x.dep x
def km(x:Expr):Bool:=(decide (256<(dB x 256))||decide (16<(bh x)))
def fw.K1  : Bool:=false
def fw.L1(k:Bool):List Rule->Bool
 |[]=>(k)
 |y1::rz1=>(bif(km y1.Expr)then true else(fw.L1  k rz1))
def fw(p:Policy):Bool:=(bif(((decide (32<(p.Offices.length:Int))||decide (16<(p.Kinds.length:Int)))||decide (16<(p.Rules.length:Int)))||(km p.Change))then true else((fw.L1 (fw.K1)) p.Rules))
def lQ(c:Int):Bool:=((decide (97<=c)&&decide (c<=122))||(decide (65<=c)&&decide (c<=90)))
def og(c:Int):Bool:=(decide (48<=c)&&decide (c<=57))
def tb(c:Int):Bool:=(((lQ c)||(og c))||(c==95))
def gS.K1  : Bool:=true
def gS.L1(s:ByteArray)(k:Bool):List Nat->Nat->Bool
 |[],i1=>(k)
 |y1::rz1,i1=>(bif(!(tb ((s.data.getD ((i1:Int):Int).toNat 0).toNat:Int)))then false else(gS.L1 s k rz1 (i1+1)))
def gS(s:ByteArray):Bool:=(bif((decide ((s.size:Int)<1)||decide (32<(s.size:Int)))||(!(lQ ((s.data.getD (0:Int).toNat 0).toNat:Int))))then false else((gS.L1 s (gS.K1)) (zK s.size) 0))
def oS(s:ByteArray):Bool:=(bif(s.toList==(⟨#[112,111,108,105,99,121]⟩:ByteArray).toList)then(bif(s.toList==(⟨#[112,111,108,105,99,121]⟩:ByteArray).toList)then true else false)else(bif(s.toList==(⟨#[109,111,100,101]⟩:ByteArray).toList)then(bif(s.toList==(⟨#[109,111,100,101]⟩:ByteArray).toList)then true else false)else(bif(s.toList==(⟨#[111,108,100]⟩:ByteArray).toList)then(bif(s.toList==(⟨#[111,108,100]⟩:ByteArray).toList)then true else false)else(bif(s.toList==(⟨#[110,101,119]⟩:ByteArray).toList)then(bif(s.toList==(⟨#[110,101,119]⟩:ByteArray).toList)then true else false)else(bif(s.toList==(⟨#[98,111,116,104]⟩:ByteArray).toList)then(bif(s.toList==(⟨#[98,111,116,104]⟩:ByteArray).toList)then true else false)else(bif(s.toList==(⟨#[101,105,116,104,101,114]⟩:ByteArray).toList)then(bif(s.toList==(⟨#[101,105,116,104,101,114]⟩:ByteArray).toList)then true else false)else(bif(s.toList==(⟨#[111,102,102,105,99,101]⟩:ByteArray).toList)then(bif(s.toList==(⟨#[111,102,102,105,99,101]⟩:ByteArray).toList)then true else false)else(bif(s.toList==(⟨#[107,105,110,100]⟩:ByteArray).toList)then(bif(s.toList==(⟨#[107,105,110,100]⟩:ByteArray).toList)then true else false)else(bif(s.toList==(⟨#[114,117,108,101]⟩:ByteArray).toList)then(bif(s.toList==(⟨#[114,117,108,101]⟩:ByteArray).toList)then true else false)else(bif(s.toList==(⟨#[116,104,105,110,107]⟩:ByteArray).toList)then(bif(s.toList==(⟨#[116,104,105,110,107]⟩:ByteArray).toList)then true else false)else(bif(s.toList==(⟨#[99,104,97,110,103,101]⟩:ByteArray).toList)then(bif(s.toList==(⟨#[99,104,97,110,103,101]⟩:ByteArray).toList)then true else false)else(bif(s.toList==(⟨#[115,111,109,101]⟩:ByteArray).toList)then(bif(s.toList==(⟨#[115,111,109,101]⟩:ByteArray).toList)then true else false)else(bif(s.toList==(⟨#[119,101,105,103,104,116]⟩:ByteArray).toList)then(bif(s.toList==(⟨#[119,101,105,103,104,116]⟩:ByteArray).toList)then true else false)else(bif(s.toList==(⟨#[111,102]⟩:ByteArray).toList)then(bif(s.toList==(⟨#[111,102]⟩:ByteArray).toList)then true else false)else(bif(s.toList==(⟨#[117,112,116,111]⟩:ByteArray).toList)then(bif(s.toList==(⟨#[117,112,116,111]⟩:ByteArray).toList)then true else false)else(bif(s.toList==(⟨#[101,108,115,101]⟩:ByteArray).toList)then true else false))))))))))))))))
def nS(s:ByteArray):Bool:=((gS s)&&(!(oS s)))
def eD.K1  : Int:=(-1)
def eD.L1(s:ByteArray)(k:Int):List ByteArray->Nat->Int
 |[],i1=>(k)
 |y1::rz1,i1=>(bif(y1.toList==s.toList)then(i1:Int)else(eD.L1 s k rz1 (i1+1)))
def eD(l:List ByteArray)(s:ByteArray):Int:=((eD.L1 s (eD.K1)) l 0)
def eR.K1  : Bool:=true
def eR.L1(l:List ByteArray)(k:Bool):List ByteArray->Nat->Bool
 |[],i1=>(k)
 |y1::rz1,i1=>(bif((!(nS y1))||((eD l y1) != (i1:Int)))then false else(eR.L1 l k rz1 (i1+1)))
def eR(l:List ByteArray):Bool:=((eR.L1 l (eR.K1)) l 0)
def bM.K1  : Bool:=true
def bM.L1(rec:List ByteArray->Expr->Bool)(offices:List ByteArray)(k:Bool):List Expr->Bool
 |[]=>(k)
 |y1::rz1=>(bif(!(rec offices y1))then false else(bM.L1 rec offices k rz1))
def bM.F(rec:List ByteArray->Expr->Bool)(offices:List ByteArray)(x:Expr):Bool:=(bif(((x.Kind==1)||(x.Kind==2))&&decide ((eD offices x.Name)<0))then false else((bM.L1 rec offices (bM.K1)) x.L))
def bM.go:Nat->List ByteArray->Expr->Bool
 |0=>λ_ _=>default
 |m+1=>bM.F (bM.go m)
def bM(offices:List ByteArray)(x:Expr):Bool:=bM.go x.dep offices x
def hO.K1(p:Policy):Bool:=(bM p.Offices p.Change)
def hO.L1(p:Policy)(k:Bool):List Rule->Bool
 |[]=>(k)
 |y1::rz1=>(bif(!(bM p.Offices y1.Expr))then false else(hO.L1 p k rz1))
def hO(p:Policy):Bool:=(bif(((!(nS p.Name))||(!(eR p.Offices)))||(!(eR p.Kinds)))then false else((hO.L1 p (hO.K1 p)) p.Rules))
def aE.K1(x:Expr)(upto:Bool):Bool:=(bif(x.Kind==1)then((x.N==0)&&((x.L.length:Int)==0))else(bif(x.Kind==2)then((decide (1<=x.N)&&decide (x.N<=4096))&&((x.L.length:Int)==0))else(bif(x.Kind==3)then(((((x.Name.toList==(⟨#[]⟩:ByteArray).toList)&&decide (1<=(x.L.length:Int)))&&decide ((x.L.length:Int)<=16))&&decide (1<=x.N))&&decide (x.N<=(x.L.length:Int)))else(bif(x.Kind==4)then((((upto&&(x.Name.toList==(⟨#[]⟩:ByteArray).toList))&&((x.L.length:Int)==2))&&decide (0<=x.N))&&decide (x.N<=1099511627776))else false))))
def aE.L1(rec:Expr->Bool->Bool)(upto:Bool)(k:Bool):List Expr->Bool
 |[]=>(k)
 |y1::rz1=>(bif(!(rec y1 upto))then false else(aE.L1 rec upto k rz1))
def aE.F(rec:Expr->Bool->Bool)(x:Expr)(upto:Bool):Bool:=((aE.L1 rec upto (aE.K1 x upto)) x.L)
def aE.go:Nat->Expr->Bool->Bool
 |0=>λ_ _=>default
 |m+1=>aE.F (aE.go m)
def aE(x:Expr)(upto:Bool):Bool:=aE.go x.dep x upto
def gd.K1(p:Policy):Bool:=(aE p.Change false)
def gd.L1(p:Policy)(k:Bool):List Rule->Nat->Bool
 |[],i1=>(k)
 |y1::rz1,i1=>(bif((((!(y1.Kind.toList==(nthI p.Kinds (i1:Int)).toList))||decide (y1.Think<0))||decide (1099511627776<=y1.Think))||(!(aE y1.Expr true)))then false else(gd.L1 p k rz1 (i1+1)))
def gd(p:Policy):Bool:=(bif(((decide ((p.Kinds.length:Int)<1)||((p.Rules.length:Int) != (p.Kinds.length:Int)))||decide (p.Mode<1))||decide (4<p.Mode))then false else((gd.L1 p (gd.K1 p)) p.Rules 0))
def ah.K1(offices:List ByteArray)(x:Expr)(kw:List Expr):Expr:=(qH x.Kind x.N (eD offices x.Name) x.Name kw)
def ah.L1(rec:List ByteArray->Expr->Expr)(offices:List ByteArray)(k:List Expr->Expr):List Expr->List Expr->Expr
 |[],kw=>(k kw)
 |y1::rz1,kw=>(ah.L1 rec offices k rz1 (kw++[(rec offices y1)]))
def ah.K2(x:Expr)(kv:List Expr):Expr:=(qH x.Kind x.N 0 x.Name kv)
def ah.L2(rec:List ByteArray->Expr->Expr)(offices:List ByteArray)(k:List Expr->Expr):List Expr->List Expr->Expr
 |[],kv=>(k kv)
 |y2::rz2,kv=>(ah.L2 rec offices k rz2 (kv++[(rec offices y2)]))
def ah.F(rec:List ByteArray->Expr->Expr)(offices:List ByteArray)(x:Expr):Expr:=(bif((x.Kind==1)||(x.Kind==2))then((ah.L1 rec offices (ah.K1 offices x)) x.L ([]))else((ah.L2 rec offices (ah.K2 x)) x.L ([])))
def ah.go:Nat->List ByteArray->Expr->Expr
 |0=>λ_ _=>default
 |m+1=>ah.F (ah.go m)
def ah(offices:List ByteArray)(x:Expr):Expr:=ah.go x.dep offices x
def dV.K1(p:Policy)(mJ:List Rule):(Policy×Int):=((zP p.Name p.Kinds p.Offices mJ (qH ((ah p.Offices p.Change).Kind) ((ah p.Offices p.Change).N) ((ah p.Offices p.Change).No) ((ah p.Offices p.Change).Name) ((ah p.Offices p.Change).L)) p.Mode),0)
def dV.L1(p:Policy)(k:List Rule->(Policy×Int)):List Rule->Nat->List Rule->(Policy×Int)
 |[],i1,mJ=>(k mJ)
 |y1::rz1,i1,mJ=>(dV.L1 p k rz1 (i1+1) (mJ++[(TE y1.Kind (i1:Int) y1.Think (qH ((ah p.Offices y1.Expr).Kind) ((ah p.Offices y1.Expr).N) ((ah p.Offices y1.Expr).No) ((ah p.Offices y1.Expr).Name) ((ah p.Offices y1.Expr).L)))]))
def dV(p:Policy):(Policy×Int):=(bif(fw p)then((zP (⟨#[]⟩:ByteArray) ([]) ([]) ([]) (qH 0 0 0 (⟨#[]⟩:ByteArray) ([])) 0),2)else(bif(!(hO p))then((zP (⟨#[]⟩:ByteArray) ([]) ([]) ([]) (qH 0 0 0 (⟨#[]⟩:ByteArray) ([])) 0),201)else(bif(!(gd p))then((zP (⟨#[]⟩:ByteArray) ([]) ([]) ([]) (qH 0 0 0 (⟨#[]⟩:ByteArray) ([])) 0),200)else((dV.L1 p (dV.K1 p)) p.Rules 0 ([])))))
def eH.K1  : Bool:=true
def eH.L1(jy:List ByteArray)(k:Bool):List ByteArray->Nat->Bool
 |[],i1=>(k)
 |y1::rz1,i1=>(bif(!(y1.toList==(nthI jy (i1:Int)).toList))then false else(eH.L1 jy k rz1 (i1+1)))
def eH(a:List ByteArray)(jy:List ByteArray):Bool:=(bif((a.length:Int) != (jy.length:Int))then false else((eH.L1 jy (eH.K1)) a 0))
def bo.K1  : Bool:=true
def bo.L1(rec:Expr->Expr->Bool)(jy:Expr)(k:Bool):List Expr->Nat->Bool
 |[],i1=>(k)
 |y1::rz1,i1=>(bif(!(rec y1 (nthI jy.L (i1:Int))))then false else(bo.L1 rec jy k rz1 (i1+1)))
def bo.F(rec:Expr->Expr->Bool)(a:Expr)(jy:Expr):Bool:=(bif(((((a.Kind != jy.Kind)||(a.N != jy.N))||(a.No != jy.No))||(!(a.Name.toList==jy.Name.toList)))||((a.L.length:Int) != (jy.L.length:Int)))then false else((bo.L1 rec jy (bo.K1)) a.L 0))
def bo.go:Nat->Expr->Expr->Bool
 |0=>λ_ _=>default
 |m+1=>bo.F (bo.go m)
def bo(a:Expr)(jy:Expr):Bool:=bo.go a.dep a jy
def iy.K1  : Bool:=true
def iy.L1(jy:Policy)(k:Bool):List Rule->Nat->Bool
 |[],i1=>(k)
 |y1::rz1,i1=>(bif((((!(y1.Kind.toList==(nthI jy.Rules (i1:Int)).Kind.toList))||(y1.KindNo != (nthI jy.Rules (i1:Int)).KindNo))||(y1.Think != (nthI jy.Rules (i1:Int)).Think))||(!(bo y1.Expr ((nthI jy.Rules (i1:Int)).Expr))))then false else(iy.L1 jy k rz1 (i1+1)))
def iy(a:Policy)(jy:Policy):Bool:=(bif((((((!(a.Name.toList==jy.Name.toList))||(a.Mode != jy.Mode))||(!(eH a.Offices jy.Offices)))||(!(eH a.Kinds jy.Kinds)))||((a.Rules.length:Int) != (jy.Rules.length:Int)))||(!(bo a.Change jy.Change)))then false else((iy.L1 jy (iy.K1)) a.Rules 0))
def gz(p:Policy):Int:=(bif((dV p).2 != 0)then(dV p).2 else(bif(!(iy ((dV p).1) p))then 200 else 0))
def dP.K1  : Int:=0
def dP.L1(l:List Version)(k:Int):List Version->Nat->Int
 |[],i1=>(k)
 |y1::rz1,i1=>(bif(((((decide (y1.No<0)||decide (1048576<y1.No))||(decide (0<(i1:Int))&&decide (y1.No<=(nthI l ((i1:Int)-1)).No)))||(!(fN y1.At)))||(!(fN y1.Known)))||((gz y1.Policy) != 0))then 200 else(dP.L1 l k rz1 (i1+1)))
def dP(l:List Version):Int:=(bif(decide (256<(l.length:Int)))then 2 else((dP.L1 l (dP.K1)) l 0))
def qf(t:Int):Bool:=(decide (0<=t)&&decide (t<1099511627776))
def eS.K1(l:List Int):Bool:=decide ((l.length:Int)<=16)
def eS.L1(l:List Int)(limit:Int)(k:Bool):List Int->Nat->Bool
 |[],i1=>(k)
 |y1::rz1,i1=>(bif((decide (y1<0)||decide (limit<=y1))||(decide (0<(i1:Int))&&decide (y1<=(nthI l ((i1:Int)-1)))))then false else(eS.L1 l limit k rz1 (i1+1)))
def eS(l:List Int)(limit:Int):Bool:=((eS.L1 l limit (eS.K1 l)) l 0)
def jf(d:Document):Bool:=(bif((((((decide (d.No<0)||decide (4096<=d.No))||(!(qf d.At)))||decide (d.Kind<0))||decide (16<=d.Kind))||decide (d.Value<0))||decide (1099511627776<d.Value))then false else(((((decide (0<=d.From)&&decide (d.From<d.Until))&&decide (d.Until<=1099511627776))&&(eS d.Parties 1048577))&&(eS d.Revokes d.No))&&(eS d.Needs d.No)))
def gR.K1  : Int:=(-1)
def gR.L1(no:Int)(k:Int):List Document->Nat->Int
 |[],i1=>(k)
 |y1::rz1,i1=>(bif(y1.No==no)then(i1:Int)else(gR.L1 no k rz1 (i1+1)))
def gR(l:List Document)(no:Int):Int:=((gR.L1 no (gR.K1)) l 0)
def dA.K1  : Bool:=true
def dA.L1(l:List Document)(k:Bool):List Int->Bool
 |[]=>(k)
 |y1::rz1=>(bif(decide ((gR l y1)<0))then false else(dA.L1 l k rz1))
def dA(l:List Document)(nos:List Int):Bool:=((dA.L1 l (dA.K1)) nos)
def fZ.K1  : Int:=0
def fZ.L1(l:List Document)(k:Int):List Document->Nat->Int
 |[],i1=>(k)
 |y1::rz1,i1=>(bif((((!(jf y1))||(decide (0<(i1:Int))&&decide (y1.No<=(nthI l ((i1:Int)-1)).No)))||(!(dA l y1.Revokes)))||(!(dA l y1.Needs)))then 170 else(fZ.L1 l k rz1 (i1+1)))
def fZ(l:List Document):Int:=(bif(decide (4096<(l.length:Int)))then 2 else((fZ.L1 l (fZ.K1)) l 0))
def fT(eW:Int)(most:Int):Bool:=(decide (0<=eW)&&decide (eW<=most))
def fM(eW:Int):Bool:=(fT eW 1099511627775)
def ny(eW:Int):Bool:=(fT eW 4095)
def kl(x:Approval):Bool:=(bif((((!(fT x.No 1048576))||(!(fM x.At)))||(!(fM x.Known)))||(!(ny x.Doc)))then false else(((fT x.By 63)&&(fT x.For 63))&&(fT x.Office 31)))
def ff.K1  : Int:=0
def ff.L1(l:List Approval)(k:Int):List Approval->Nat->Int
 |[],i1=>(k)
 |y1::rz1,i1=>(bif((!(kl y1))||(decide (0<(i1:Int))&&decide (y1.No<=(nthI l ((i1:Int)-1)).No)))then 280 else(ff.L1 l k rz1 (i1+1)))
def ff(l:List Approval):Int:=(bif(decide (4096<(l.length:Int)))then 2 else((ff.L1 l (ff.K1)) l 0))
def kj(cv:Register):Int:=(bif(((((gC cv.Appoints) != 0)||((gB cv.Deputies) != 0))||((gg cv.Interests) != 0))||((iu cv.Budgets) != 0))then 300 else(bif((((dP cv.Versions) != 0)||((fZ cv.Docs) != 0))||((ff cv.Approvals) != 0))then 300 else 0))
def hU(eW:Int):Bool:=(decide (0<=eW)&&decide (eW<1099511627776))
def cT.K1  : Int:=(-1)
def cT.L1(no:Int)(k:Int):List Version->Nat->Int
 |[],i1=>(k)
 |y1::rz1,i1=>(bif(y1.No==no)then(i1:Int)else(cT.L1 no k rz1 (i1+1)))
def cT(cv:Register)(no:Int):Int:=((cT.L1 no (cT.K1)) cv.Versions 0)
def fR.K1(l:List Int)(nH:Int)(i1:Nat):List Int:=(bif(decide ((i1:Int)<(l.length:Int))&&((nthI l (i1:Int))==nH))then l else(((l.take (((i1:Int):Int)).toNat)++[nH])++(l.drop (((i1:Int):Int)).toNat)))
def fR.L1(nH:Int)(k:Nat->List Int):List Int->Nat->List Int
 |[],i1=>(k (i1))
 |y1::rz1,i1=>(bif(decide (y1<nH))then(fR.L1 nH k rz1 (i1+1))else(k (i1)))
def fR(l:List Int)(nH:Int):List Int:=((fR.L1 nH (fR.K1 l nH)) l 0)
def iw(x:Approval)(eU:Int)(known:Int):Bool:=(decide (x.At<=eU)&&decide (x.Known<=known))
def lU(x:Approval)(y:Approval):Bool:=((((x.Doc==y.Doc)&&(x.By==y.By))&&(x.For==y.For))&&(x.Office==y.Office))
def lq(x:Approval)(y:Approval):Bool:=(decide (y.At<x.At)||((x.At==y.At)&&decide (y.No<x.No)))
def fK.K1  : Bool:=true
def fK.L1(x:Approval)(bI:Int)(known:Int)(k:Bool):List Approval->Bool
 |[]=>(k)
 |y1::rz1=>(bif(((iw y1 bI known)&&(lU y1 x))&&(lq y1 x))then false else(fK.L1 x bI known k rz1))
def fK(l:List Approval)(x:Approval)(bI:Int)(known:Int):Bool:=(bif(x.Gone||(!(iw x bI known)))then false else((fK.L1 x bI known (fK.K1)) l))
def dz.K1(gY:List Approval):(List Approval×Int):=(gY,0)
def dz.L1(l:List Approval)(doc:Int)(bI:Int)(known:Int)(k:List Approval->(List Approval×Int)):List Approval->List Approval->(List Approval×Int)
 |[],gY=>(k gY)
 |y1::rz1,gY=>(bif((y1.Doc==doc)&&(fK l y1 bI known))then(dz.L1 l doc bI known k rz1 (gY++[y1]))else(dz.L1 l doc bI known k rz1 gY))
def dz(l:List Approval)(doc:Int)(bI:Int)(known:Int):(List Approval×Int):=(bif((ff l) != 0)then([],(ff l))else(bif(((!(ny doc))||(!(fM bI)))||(!(fM known)))then([],1)else((dz.L1 l doc bI known (dz.K1)) l ([]))))
def dF.K1(u9:List Approval):(List Approval×Int):=(u9,0)
def dF.L1(begun:Int)(think:Int)(eB:Int)(k:List Approval->(List Approval×Int)):List Approval->List Approval->(List Approval×Int)
 |[],u9=>(k u9)
 |y1::rz1,u9=>(bif(decide (begun<=y1.At)&&decide ((y1.At+think)<=eB))then(dF.L1 begun think eB k rz1 (u9++[y1]))else(dF.L1 begun think eB k rz1 u9))
def dF(l:List Approval)(doc:Int)(begun:Int)(think:Int)(eB:Int)(known:Int):(List Approval×Int):=(bif((ff l) != 0)then([],(ff l))else(bif(((((!(ny doc))||(!(fM begun)))||(!(fM think)))||(!(fM eB)))||(!(fM known)))then([],1)else((dF.L1 begun think eB (dF.K1)) ((dz l doc eB known).1) ([]))))
def lh(x:Appoint)(eU:Int)(known:Int):Bool:=(decide (x.At<=eU)&&decide (x.Known<=known))
def dG.K1(gY:Int):Int:=gY
def dG.L1(l:List Appoint)(office:Int)(person:Int)(bw:Int)(known:Int)(k:Int->Int):List Appoint->Nat->Int->Int
 |[],i1,gY=>(k gY)
 |y1::rz1,i1,gY=>(bif((((y1.Office==office)&&(y1.Person==person))&&(lh y1 bw known))&&(decide (gY<0)||decide ((nthI l gY).At<=y1.At)))then(dG.L1 l office person bw known k rz1 (i1+1) (i1:Int))else(dG.L1 l office person bw known k rz1 (i1+1) gY))
def dG(l:List Appoint)(office:Int)(person:Int)(bw:Int)(known:Int):Int:=((dG.L1 l office person bw known (dG.K1)) l 0 (-1))
def jO(l:List Appoint)(office:Int)(person:Int)(bw:Int)(known:Int):(Int×Int×Bool×Int):=(bif((gC l) != 0)then(0,0,false,(gC l))else(bif((((!(mq office))||(!(lP person)))||(!(kU bw)))||(!(kU known)))then(0,0,false,1)else(bif(decide ((dG l office person bw known)<0)||(nthI l (dG l office person bw known)).Gone)then(0,0,false,0)else((nthI l (dG l office person bw known)).No,(nthI l (dG l office person bw known)).Weight,true,0))))
def mp(l:List Deputy)(cu:Int)(to:Int)(office:Int)(kind:Int)(value:Int)(gP:Int)(known:Int):Int:=(bif((gB l) != 0)then(gB l)else(bif(((((((!(jq cu))||(!(jq to)))||(!(ef office 0 31)))||(!(ef kind 0 15)))||(!(ef value 0 1099511627776)))||(!(kO gP)))||(!(kO known)))then 1 else 0))
def gL(x:Deputy)(eU:Int)(known:Int):Bool:=(decide (x.At<=eU)&&decide (x.Known<=known))
def kp(x:Deputy)(y:Deputy):Bool:=((((x.From==y.From)&&(x.To==y.To))&&(x.Office==y.Office))&&(x.Kind==y.Kind))
def ck.L2(l:List Deputy)(eU:Int)(known:Int)(k:Bool->List Deputy):List Deputy->Bool->List Deputy
 |[],Ps=>(k Ps)
 |y2::rz2,Ps=>(bif Ps then(bif(((gL y2 eU known)&&(kp (nthI l 0) y2))&&(decide ((nthI l 0).At<y2.At)||((y2.At==(nthI l 0).At)&&decide ((nthI l 0).No<y2.No))))then(ck.L2 l eU known k rz2 false)else(ck.L2 l eU known k rz2 Ps))else(k Ps))
def ck.L3(eU:Int)(known:Int)(y1:Deputy)(k:Bool->List Deputy):List Deputy->Bool->List Deputy
 |[],FE=>(k FE)
 |y3::rz3,FE=>(bif FE then(bif(((gL y3 eU known)&&(kp y1 y3))&&(decide (y1.At<y3.At)||((y3.At==y1.At)&&decide (y1.No<y3.No))))then(ck.L3 eU known y1 k rz3 false)else(ck.L3 eU known y1 k rz3 FE))else(k FE))
def ck.K1(mu:List Deputy):List Deputy:=mu
def ck.L1(l:List Deputy)(eU:Int)(known:Int)(k:List Deputy->List Deputy):List Deputy->List Deputy->List Deputy
 |[],mu=>(k mu)
 |y1::rz1,mu=>((ck.L3 eU known y1 (λzg3_9=>(bif zg3_9 then(ck.L1 l eU known k rz1 (mu++[y1]))else(ck.L1 l eU known k rz1 mu)))) l (((gL y1 eU known)&&(!y1.Gone))&&decide (eU<y1.Until)))
def ck(l:List Deputy)(eU:Int)(known:Int):List Deputy:=((ck.L1 l eU known (ck.K1)) l ([]))
def nm(x:Deputy)(office:Int)(kind:Int)(value:Int):Bool:=(((x.Office==office)&&((x.Kind==(-1))||(x.Kind==kind)))&&decide (value<=x.Most))
def dQ.K1(vf:List Deputy):List Deputy:=vf
def dQ.L1(office:Int)(kind:Int)(value:Int)(k:List Deputy->List Deputy):List Deputy->List Deputy->List Deputy
 |[],vf=>(k vf)
 |y1::rz1,vf=>(bif(nm y1 office kind value)then(dQ.L1 office kind value k rz1 (vf++[y1]))else(dQ.L1 office kind value k rz1 vf))
def dQ(l:List Deputy)(office:Int)(kind:Int)(value:Int)(eB:Int)(known:Int):List Deputy:=((dQ.L1 office kind value (dQ.K1)) (ck l eB known) ([]))
def kh.K1  : Bool:=false
def kh.L1(nH:Int)(k:Bool):List Int->Bool
 |[]=>(k)
 |y1::rz1=>(bif(y1==nH)then true else(kh.L1 nH k rz1))
def kh(l:List Int)(nH:Int):Bool:=((kh.L1 nH (kh.K1)) l)
def cA.K1  : (List Int×Bool):=([],false)
def cA.L1(rec:List Deputy->List Int->Int->Int->(List Int×Bool))(l:List Deputy)(people:List Int)(to:Int)(many:Int)(k:(List Int×Bool)):List Deputy->(List Int×Bool)
 |[]=>(k)
 |y1::rz1=>(bif((y1.From != (nthI people ((people.length:Int)-1)))||(kh people y1.To))then(cA.L1 rec l people to many k rz1)else(bif((rec l (people++[y1.To]) to (many-1)).2)then(([y1.No]++(rec l (people++[y1.To]) to (many-1)).1),true)else(cA.L1 rec l people to many k rz1)))
def cA.F(rec:List Deputy->List Int->Int->Int->(List Int×Bool))(l:List Deputy)(people:List Int)(to:Int)(many:Int):(List Int×Bool):=(bif(many==0)then([],((nthI people ((people.length:Int)-1))==to))else((cA.L1 rec l people to many (cA.K1)) l))
def cA.go:Nat->List Deputy->List Int->Int->Int->(List Int×Bool)
 |0=>λ_ _ _ _=>default
 |m+1=>cA.F (cA.go m)
def cA(l:List Deputy)(people:List Int)(to:Int)(many:Int):(List Int×Bool):=cA.go (many.toNat+1) l people to many
def eV.K1  : (List Int×Bool×Int):=([],false,0)
def eV.L1(l:List Deputy)(cu:Int)(to:Int)(office:Int)(kind:Int)(value:Int)(gP:Int)(known:Int)(k:(List Int×Bool×Int)):List Nat->Nat->(List Int×Bool×Int)
 |[],i1=>(k)
 |y1::rz1,i1=>(bif((cA (dQ l office kind value gP known) ([cu]) to (i1:Int)).2)then((cA (dQ l office kind value gP known) ([cu]) to (i1:Int)).1,true,0)else(eV.L1 l cu to office kind value gP known k rz1 (i1+1)))
def eV(l:List Deputy)(cu:Int)(to:Int)(office:Int)(kind:Int)(value:Int)(gP:Int)(known:Int):(List Int×Bool×Int):=(bif((mp l cu to office kind value gP known) != 0)then([],false,(mp l cu to office kind value gP known))else((eV.L1 l cu to office kind value gP known (eV.K1)) (zK 9) 0))
def fy.K1(l:List Int):Bool:=decide ((l.length:Int)<=16)
def fy.L1(l:List Int)(k:Bool):List Int->Nat->Bool
 |[],i1=>(k)
 |y1::rz1,i1=>(bif((!(iQ y1))||(decide (0<(i1:Int))&&decide (y1<=(nthI l ((i1:Int)-1)))))then false else(fy.L1 l k rz1 (i1+1)))
def fy(l:List Int):Bool:=((fy.L1 l (fy.K1 l)) l 0)
def je(l:List Interest)(who:Int)(parties:List Int)(bw:Int)(known:Int):Int:=(bif((gg l) != 0)then(gg l)else(bif((((!(nk who))||(!(fy parties)))||(!(kz bw)))||(!(kz known)))then 1 else 0))
def iv(x:Interest)(eU:Int)(known:Int):Bool:=(decide (x.At<=eU)&&decide (x.Known<=known))
def lm(a:Interest)(jy:Interest):Bool:=(((a.Person==jy.Person)&&(a.Party==jy.Party))&&(a.Of==jy.Of))
def fS.K1  : Bool:=true
def fS.L1(x:Interest)(bI:Int)(known:Int)(k:Bool):List Interest->Bool
 |[]=>(k)
 |y1::rz1=>(bif(((lm y1 x)&&(iv y1 bI known))&&(decide (x.At<y1.At)||((y1.At==x.At)&&decide (x.No<y1.No))))then false else(fS.L1 x bI known k rz1))
def fS(l:List Interest)(x:Interest)(bI:Int)(known:Int):Bool:=(bif(x.Gone||(!(iv x bI known)))then false else((fS.L1 x bI known (fS.K1)) l))
def dg.K1(mu:List Interest):List Interest:=mu
def dg.L1(l:List Interest)(eU:Int)(known:Int)(k:List Interest->List Interest):List Interest->List Interest->List Interest
 |[],mu=>(k mu)
 |y1::rz1,mu=>(bif(fS l y1 eU known)then(dg.L1 l eU known k rz1 (mu++[y1]))else(dg.L1 l eU known k rz1 mu))
def dg(l:List Interest)(eU:Int)(known:Int):List Interest:=((dg.L1 l eU known (dg.K1)) l ([]))
def rwPut(l:List eF)(x:eF):List eF:=bif l.any (λw=>w.To==x.To)then l else l++[x]
def kI.K1  : Bool:=false
def kI.L1(nH:Int)(k:Bool):List Int->Bool
 |[]=>(k)
 |y1::rz1=>(bif(y1==nH)then true else(kI.L1 nH k rz1))
def kI(l:List Int)(nH:Int):Bool:=((kI.L1 nH (kI.K1)) l)
def bD.L3(i2:Nat)(k:List eF->(List Int×Bool×Int)):List Interest->List eF->(List Int×Bool×Int)
 |[],fG=>(k fG)
 |y3::rz3,fG=>(bif(y3.Of&&(y3.Person==(nthI fG (i2:Int)).To))then(bD.L3 i2 k rz3 (rwPut fG (eF.mk ((nthI fG (i2:Int)).jb++[y3.No]) y3.Party)))else(bD.L3 i2 k rz3 fG))
def bD.K2(i2:Nat)(mt:List eF):(List Int×Bool×Int):=([],false,0)
def bD.L2(l:List Interest)(parties:List Int)(bw:Int)(known:Int)(k:Nat->List eF->(List Int×Bool×Int)):Nat->Nat->List eF->(List Int×Bool×Int)
 |0,i2,mt=>k i2 mt
 |rz2+1,i2,mt=>(bif decide ((i2:Int)<(mt.length:Int))then(bif(kI parties ((nthI mt (i2:Int)).To))then((nthI mt (i2:Int)).jb,true,0)else(bif((((nthI mt (i2:Int)).jb.length:Nat):Int)==8)then(bD.L2 l parties bw known k rz2 (i2+1) mt)else((bD.L3 i2 (λzg3_15=>(bD.L2 l parties bw known k rz2 (i2+1) zg3_15))) (dg l bw known) mt)))else k i2 mt)
def bD.K1(l:List Interest)(parties:List Int)(bw:Int)(known:Int)(ve:List eF):(List Int×Bool×Int):=((bD.L2 l parties bw known (bD.K2)) (l.length+1) 0 ve)
def bD.L1(who:Int)(k:List eF->(List Int×Bool×Int)):List Interest->List eF->(List Int×Bool×Int)
 |[],ve=>(k ve)
 |y1::rz1,ve=>(bif((!y1.Of)&&(y1.Person==who))then(bD.L1 who k rz1 (rwPut ve (eF.mk ([y1.No]) y1.Party)))else(bD.L1 who k rz1 ve))
def bD(l:List Interest)(who:Int)(parties:List Int)(bw:Int)(known:Int):(List Int×Bool×Int):=(bif((je l who parties bw known) != 0)then([],false,(je l who parties bw known))else((bD.L1 who (bD.K1 l parties bw known)) (dg l bw known) ([])))
def nj(cv:Register)(person:Int)(d:Document)(bw:Int)(known:Int):Bool:=(!((bD cv.Interests person d.Parties bw known).2.1))
def nR(cv:Register)(x:Approval)(d:Document)(bw:Int)(known:Int):Bool:=((((jO cv.Appoints x.Office x.For bw known).2.2.1&&(eV cv.Deputies x.For x.By x.Office d.Kind d.Value bw known).2.1)&&(nj cv x.For d bw known))&&(nj cv x.By d bw known))
def fJ.K1(gY:List Int):List Int:=gY
def fJ.L1(cv:Register)(d:Document)(bw:Int)(known:Int)(k:List Int->List Int):List Approval->List Int->List Int
 |[],gY=>(k gY)
 |y1::rz1,gY=>(bif(nR cv y1 d bw known)then(fJ.L1 cv d bw known k rz1 (fR gY y1.For))else(fJ.L1 cv d bw known k rz1 gY))
def fJ(cv:Register)(d:Document)(p:Policy)(bw:Int)(known:Int):List Int:=(bif(decide ((p.Kinds.length:Int)<=d.Kind))then[]else((fJ.L1 cv d bw known (fJ.K1)) ((dF cv.Approvals d.No d.At ((nthI p.Rules d.Kind).Think) bw known).1) ([])))
def oe.K1  : Bool:=true
def oe.L1(who:List Int)(k:Bool):List Int->Nat->Bool
 |[],i1=>(k)
 |y1::rz1,i1=>(bif((decide (y1<0)||decide (64<=y1))||(decide (0<(i1:Int))&&decide (y1<=(nthI who ((i1:Int)-1)))))then false else(oe.L1 who k rz1 (i1+1)))
def oe(who:List Int):Bool:=((oe.L1 who (oe.K1)) who 0)
def iL(cv:Register)(doc:Int)(no:Int)(bw:Int)(known:Int):(List Int×Int):=(bif((kj cv) != 0)then([],300)else(bif(((decide ((dp cv doc)<0)||decide ((cT cv no)<0))||(!(hU bw)))||(!(hU known)))then([],1)else((fJ cv (nthI cv.Docs (dp cv doc)) ((nthI cv.Versions (cT cv no)).Policy) bw known),0)))
def mg(cv:Register)(doc:Int)(version:Int)(bw:Int)(known:Int):Bool:=(bif(!wa)then false else(bif(!(mR cv))then true else((gp ((fh cv doc version bw known).1) ((iL cv doc version bw known).1))&&((fh cv doc version bw known).2==(iL cv doc version bw known).2))))
def mr.K1  : (Policy×Bool):=((zP (⟨#[]⟩:ByteArray) ([]) ([]) ([]) (qH 0 0 0 (⟨#[]⟩:ByteArray) ([])) 0),false)
def mr.L1(no:Int)(k:(Policy×Bool)):List Version->(Policy×Bool)
 |[]=>(k)
 |y1::rz1=>(bif(y1.No==no)then(y1.Policy,true)else(mr.L1 no k rz1))
def mr(cv:Register)(no:Int):(Policy×Bool):=((mr.L1 no (mr.K1)) cv.Versions)
theorem wrap64{z:Int}(h:-9223372036854775808<=z/\z<=9223372036854775807):IntKind.i64.wrap z=z:=by
 have:=j0 h;injection this
theorem Expr.eta(x:Expr):qH x.Kind x.N x.No x.Name x.L=x:=by cases x;rfl
theorem Expr.ind{P:Expr->Prop}(h:∀x,(∀y∈x.L,P y)->P x)(x:Expr):P x:=by
 have key:∀n(x:Expr),x.dep<=n->P x:=by
  intro n
  induction n with
  |zero=>intro x hx;have:=TC x;omega
  |succ n ih=>intro x hx;exact h x λy hy=>ih y (by have:=Sz hy;omega)
 exact key _ x (vG _)
theorem JU(k:List gH):∀l,aK.L3 k l=l++k
 |[]=>rfl
 |y::l=>by simp[aK.L3,JU k l]
theorem JV(rec:Expr->Int->List gH)(d:Int):∀l,aK.L1 rec d [] l=l.flatMap (λy=>rec y (d+1))
 |[]=>rfl
 |y::l=>by simp[aK.L1,JU,JV rec d l]
theorem Is(rec:Expr->Int->List gH)(x:Expr)(d:Int):aK.F rec x d=⟨x,d⟩::x.L.flatMap (λy=>rec y (d+1)):=by
 simp[aK.F,aK.K1,JV,Expr.eta]
theorem AI{α β : Type}{f g:α->List β}:∀{l:List α},(∀y∈l,f y=g y)->l.flatMap f=l.flatMap g
 |[],_=>rfl
 |y::l,h=>by
  rw[List.flatMap_cons,List.flatMap_cons,h y (zB ..),AI λz hz=>h z (kA _ hz)]
theorem JT(m:Nat):∀(x:Expr)(d:Int),x.dep<=m->aK.go m x d=bp x d:=by
 induction m using Nat.strongRecOn with
 |_ m ih=>
  intro x d hx
  unfold bp
  have hp:=TC x
  obtain⟨m',rfl⟩:∃m',m=m'+1:=⟨m-1,by omega⟩
  obtain⟨n,hn⟩:∃n,x.dep=n+1:=⟨x.dep-1,by omega⟩
  rw[hn]
  show aK.F (aK.go m') x d=aK.F (aK.go n) x d
  rw[Is,Is]
  congr 1
  refine AI λy hy=>?_
  have:=Sz hy
  rw[ih m' (by omega) y _ (by omega),ih n (by omega) y _ (by omega)]
theorem nT(x:Expr)(d:Int):bp x d=⟨x,d⟩::x.L.flatMap (λy=>bp y (d+1)):=by
 have hp:=TC x
 obtain⟨n,hn⟩:∃n,x.dep=n+1:=⟨x.dep-1,by omega⟩
 rw[←JT x.dep x d (vG _),hn]
 show aK.F (aK.go n) x d=_
 rw[Is]
 congr 1
 exact AI λy hy=>JT n y _ (by have:=Sz hy;omega)
theorem Hy(Q:Expr->Prop)(x:Expr):∀d d',(∀z∈bp x d,Q z.x)->∀z∈bp x d',Q z.x:=by
 refine Expr.ind (P:=λx=>∀d d',(∀z∈bp x d,Q z.x)->∀z∈bp x d',Q z.x) ?_ x
 intro x ih d d' h z hz
 rw[nT]at h hz
 rcases jB.1 hz with rfl|hz
 .exact h ⟨x,d⟩ (zB ..)
 .obtain⟨y,hy,hz⟩:=List.mem_flatMap.1 hz
  exact ih y hy (d+1) (d'+1) (λz' hz'=>h z' (kA _ (List.mem_flatMap.2 ⟨y,hy,hz'⟩))) z hz
theorem qy(Q:Expr->Prop)(x:Expr)(d:Int):(∀z∈bp x d,Q z.x)↔Q x/\∀y∈x.L,∀z∈bp y d,Q z.x:=by
 constructor
 .intro h
  rw[nT]at h
  exact⟨h ⟨x,d⟩ (zB ..),λy hy=>Hy Q y (d+1) d λz hz=>h z (kA _ (List.mem_flatMap.2 ⟨y,hy,hz⟩))⟩
 .rintro⟨h1,h2⟩ z hz
  rw[nT]at hz
  rcases jB.1 hz with rfl|hz
  .exact h1
  .obtain⟨y,hy,hz⟩:=List.mem_flatMap.1 hz
   exact Hy Q y d (d+1) (h2 y hy) z hz
def NZ(x:Except Int Unit):Prop:=∀e,x=.error e->e≠0
theorem NZ.ok:NZ (.ok ()):=λ_ h=>by cases h
theorem NZ.must(he:e≠0):NZ (fe c e):=λe' h=>by
 cases c with
 |true=>simp[fe]at h
 |false=>simp[fe]at h;omega
theorem NZ.exi{x:Except Int Unit}(hx:NZ x)(hf:NZ (f ())):NZ (Sg.exi x f):=by
 cases x with
 |ok u=>exact hf
 |error e=>exact λe' h=>hx e' h
theorem HW{x:Except Int Unit}(h:NZ x):attR x=0↔x=.ok ():=by
 cases x with
 |ok u=>simp[attR]
 |error e=>simp only[attR,reduceCtorEq,iff_false];exact h e rfl
theorem qz:exi (fe c e) f=.ok ()↔c=true/\f ()=.ok ():=by
 cases c<;>simp[fe,exi]
theorem KC(p:Policy):∀(l:List Rule)(g:List Expr),aw.L1 (aw.K1 p) l g=g++(l.map (·.Expr)++[p.Change])
 |[],g=>by simp[aw.L1,aw.K1]
 |y::l,g=>by simp[aw.L1,KC p l]
theorem nz(p:Policy):aw p=p.Rules.map (·.Expr)++[p.Change]:=by
 unfold aw;rw[KC];simp
theorem Ju(k:Int->Except Int Unit)(hk:∀a b,k a=k b):∀(l:List gH)(g:Int),0<=g->g<=256->(cw.L3 k l g=.ok ()↔(g+l.length<=256/\∀z∈l,z.depth<=16)/\k 0=.ok ())
 |[],g,h0,h1=>by simp only[cw.L3,hk g 0,jC,vA];simp;omega
 |y::l,g,h0,h1=>by
  simp only[cw.L3,qz,jA,decide_eq_true_eq,wrap64 (z:=g+1) (by omega),xA,jB]
  by_cases h:g+1<=256
  .rw[Ju k hk l (g+1) (by omega) h]
   constructor
   .rintro⟨⟨_,h3⟩,⟨h4,h5⟩,h6⟩
    refine⟨⟨by omega,λz hz=>?_⟩,h6⟩
    rcases hz with rfl|hz
    .exact h3
    .exact h5 z hz
   .rintro⟨⟨h4,h5⟩,h6⟩
    exact⟨⟨h,h5 y (.inl rfl)⟩,⟨by omega,λz hz=>h5 z (.inr hz)⟩,h6⟩
  .constructor
   .rintro⟨⟨h3,_⟩,_⟩;exact absurd h3 h
   .rintro⟨⟨h4,_⟩,_⟩;omega
theorem Jv:∀(l:List Expr),cw.L1 (.ok ()) l=.ok ()↔∀x∈l,(bp x 1).length<=256/\∀z∈bp x 1,z.depth<=16
 |[]=>by simp[cw.L1]
 |y::l=>by
  simp only[cw.L1]
  rw[Ju _ (λ_ _=>rfl) _ 0 (by omega) (by omega),Jv l]
  simp only[jB,forall_eq_or_imp]
  constructor
  .rintro⟨⟨a,b⟩,c⟩;exact⟨⟨by omega,b⟩,c⟩
  .rintro⟨⟨a,b⟩,c⟩;exact⟨⟨by omega,b⟩,c⟩
theorem Ba(p:Policy):cw p=.ok ()↔(p.Offices.length<=32/\p.Kinds.length<=16/\p.Rules.length<=16)/\∀x∈aw p,(bp x 1).length<=256/\∀z∈bp x 1,z.depth<=16:=by
 unfold cw cw.K1
 rw[qz,Jv]
 simp only[jA,decide_eq_true_eq]
 constructor
 .rintro⟨⟨⟨a,b⟩,c⟩,d⟩;exact⟨⟨by omega,by omega,by omega⟩,d⟩
 .rintro⟨⟨a,b,c⟩,d⟩;exact⟨⟨⟨by omega,by omega⟩,by omega⟩,d⟩
theorem OM(p:Policy):NZ (cw p):=by
 have h3:∀(k:Int->Except Int Unit),(∀a,NZ (k a))->∀l g,NZ (cw.L3 k l g):=by
  intro k hk l
  induction l with
  |nil=>exact λg=>hk g
  |cons y l ih=>exact λg=>NZ.exi (NZ.must (by omega)) (ih _)
 have h1:∀l,NZ (cw.L1 (.ok ()) l):=by
  intro l
  induction l with
  |nil=>exact NZ.ok
  |cons y l ih=>exact h3 _ (λ_=>ih) _ _
 exact NZ.exi (NZ.must (by omega)) (h1 _)
theorem J3(p:Policy)(k:Except Int Unit):∀l,cx.L3 p k l=.ok ()↔(∀z∈l,((!(dw z.x))||dl p.Offices z.x.Name)=true)/\k=.ok ()
 |[]=>by simp[cx.L3]
 |y::l=>by simp only[cx.L3,qz,J3 p k l,jB,forall_eq_or_imp,and_assoc]
theorem J4(p:Policy):∀l,cx.L1 p (.ok ()) l=.ok ()↔∀x∈l,∀z∈bp x 1,((!(dw z.x))||dl p.Offices z.x.Name)=true
 |[]=>by simp[cx.L1]
 |y::l=>by simp only[cx.L1,J3,J4 p l,jB,forall_eq_or_imp]
theorem Fh(p:Policy):cx p=.ok ()↔(dR p.Name=true/\bF p.Offices dR=true/\bF p.Kinds dR=true)/\∀x∈aw p,∀z∈bp x 1,((!(dw z.x))||dl p.Offices z.x.Name)=true:=by
 unfold cx cx.K1
 rw[qz,J4]
 simp only[jA,and_assoc]
theorem O9(p:Policy):NZ (cx p):=by
 have h3:∀(k:Except Int Unit),NZ k->∀l,NZ (cx.L3 p k l):=by
  intro k hk l
  induction l with
  |nil=>exact hk
  |cons y l ih=>exact NZ.exi (NZ.must (by omega)) ih
 have h1:∀l,NZ (cx.L1 p (.ok ()) l):=by
  intro l
  induction l with
  |nil=>exact NZ.ok
  |cons y l ih=>exact h3 _ ih _
 exact NZ.exi (NZ.must (by omega)) (h1 _)
theorem MS(p:Policy)(i:Nat)(k:Except Int Unit):∀l,bq.L4 p i k l=.ok ()↔(∀z∈l,(aM z.x.Kind 1 4&&kindsP z.x.Kind z.x)=true/\(decide ((i:Int)<IntKind.i64.wrap (((aw p).length:Int)-1))||(z.x.Kind != 4))=true)/\k=.ok ()
 |[]=>by simp[bq.L4]
 |y::l=>by simp only[bq.L4,qz,MS p i k l,jB,forall_eq_or_imp,and_assoc]
theorem Ee(p:Policy):∀l i,bq.L2 p (.ok ()) l i=.ok ()↔∀j x,l[j]? = some x->∀z∈bp x 1,(aM z.x.Kind 1 4&&kindsP z.x.Kind z.x)=true/\(decide (((i+j:Nat):Int)<IntKind.i64.wrap (((aw p).length:Int)-1))||(z.x.Kind != 4))=true
 |[],i=>by simp[bq.L2]
 |y::l,i=>by
  simp only[bq.L2]
  rw[MS,Ee p l (i+1)]
  constructor
  .rintro⟨h1,h2⟩ j x hj z hz
   cases j with
   |zero=>simp at hj;subst hj;exact h1 z hz
   |succ j=>have:=h2 j x (by simpa using hj) z hz;rw[show i+(j+1)=i+1+j from by omega];exact this
  .intro h
   refine⟨λz hz=>h 0 y rfl z hz,λj x hj z hz=>?_⟩
   have:=h (j+1) x (by simpa using hj) z hz
   rw[show i+(j+1)=i+1+j from by omega]at this;exact this
theorem BL(p:Policy)(k:Except Int Unit):∀l i,bq.L1 p k l i=.ok ()↔(∀j r,l[j]? = some r->((r.Kind.toList==(nthI p.Kinds (((i+j:Nat):Int))).toList)&&aM r.Think 0 1099511627775)=true)/\k=.ok ()
 |[],i=>by simp[bq.L1]
 |y::l,i=>by
  simp only[bq.L1]
  rw[qz,BL p k l (i+1)]
  constructor
  .rintro⟨h1,h2,h3⟩
   refine⟨λj r hj=>?_,h3⟩
   cases j with
   |zero=>simp at hj;subst hj;exact h1
   |succ j=>have:=h2 j r (by simpa using hj);rw[show i+(j+1)=i+1+j from by omega];exact this
  .rintro⟨h,h3⟩
   refine⟨h 0 y rfl,λj r hj=>?_,h3⟩
   have:=h (j+1) r (by simpa using hj)
   rw[show i+(j+1)=i+1+j from by omega]at this;exact this
theorem QC(p:Policy):NZ (bq p):=by
 have h4:∀i(k:Except Int Unit),NZ k->∀l,NZ (bq.L4 p i k l):=by
  intro i k hk l
  induction l with
  |nil=>exact hk
  |cons y l ih=>exact NZ.exi (NZ.must (by omega)) (NZ.exi (NZ.must (by omega)) ih)
 have h2:∀l i,NZ (bq.L2 p (.ok ()) l i):=by
  intro l
  induction l with
  |nil=>exact λ_=>NZ.ok
  |cons y l ih=>exact λi=>h4 i _ (ih _) _
 have h1:∀l i,NZ (bq.L1 p (bq.K1 p) l i):=by
  intro l
  induction l with
  |nil=>exact λ_=>h2 _ _
  |cons y l ih=>exact λi=>NZ.exi (NZ.must (by omega)) (ih _)
 exact NZ.exi (NZ.must (by omega)) (h1 _ _)
theorem Dc(p:Policy):NZ (dH p):=
 NZ.exi (OM p) (NZ.exi (O9 p) (NZ.exi (QC p) NZ.ok))
theorem AJ{x:Except Int Unit}:exi x f=.ok ()↔x=.ok ()/\f ()=.ok ():=by
 cases x with
 |ok u=>simp[exi]
 |error e=>simp[exi]
theorem tU(p:Policy):dH p=.ok ()↔cw p=.ok ()/\cx p=.ok ()/\bq p=.ok ():=by
 unfold dH
 rw[AJ,AJ,AJ]
 simp
theorem JN(p:Policy):(ek p).2=attR (dH p):=by
 have hL:∀l i g,(ek.L1 p (ek.K1 p) l i g).2=0:=by
  intro l
  induction l with
  |nil=>exact λ_ _=>rfl
  |cons y l ih=>exact λi g=>ih _ _
 unfold ek
 by_cases h:attR (dH p)=0
 .simp[h,hL]
 .rw[show(attR (dH p) != 0)=true from by simpa using h];rfl
theorem KN(p:Policy)(k:Int):∀l i,dh.L1 p k l i=0↔(∀j r,l[j]? = some r->r.KindNo=((i+j:Nat):Int)/\bO p.Offices r.Expr=true)/\k=0
 |[],i=>by simp[dh.L1]
 |y::l,i=>by
  simp only[dh.L1,Bool.cond_eq_ite]
  split
  .next h=>
   simp only[kC,bne_iff_ne,kD]at h
   constructor
   .intro h';omega
   .rintro⟨h1,_⟩
    have:=h1 0 y rfl
    simp only[Nat.add_zero]at this
    rcases h with h|h
    .exact absurd this.1 h
    .rw[this.2]at h;cases h
  .next h=>
   simp only[kC,bne_iff_ne,kD,not_or,Decidable.not_not,Bool.not_eq_false]at h
   rw[KN p k l (i+1)]
   constructor
   .rintro⟨h1,h2⟩
    refine⟨λj r hj=>?_,h2⟩
    cases j with
    |zero=>simp at hj;subst hj;exact h
    |succ j=>have:=h1 j r (by simpa using hj);rw[show i+(j+1)=i+1+j from by omega];exact this
   .rintro⟨h1,h2⟩
    refine⟨λj r hj=>?_,h2⟩
    have:=h1 (j+1) r (by simpa using hj)
    rw[show i+(j+1)=i+1+j from by omega]at this;exact this
theorem BX(p:Policy):dh p=0↔dH p=.ok ()/\(∀(j:Nat)r,p.Rules[j]? = some r->r.KindNo=(j:Int)/\bO p.Offices r.Expr=true)/\bO p.Offices p.Change=true:=by
 unfold dh
 rw[JN]
 by_cases h:attR (dH p)=0
 .have h2:=(HW (Dc p)).1 h
  have hk:dh.K1 p=0↔bO p.Offices p.Change=true:=by
   unfold dh.K1
   cases bO p.Offices p.Change<;>simp
  rw[show(attR (dH p) != 0)=false from by simpa using h,cond_false,KN,hk]
  simp only[Nat.zero_add,h2,true_and]
 .have h2:¬dH p=.ok ():=λe=>h ((HW (Dc p)).2 e)
  rw[show(attR (dH p) != 0)=true from by simpa using h,cond_true]
  simp[h,h2]
theorem PZ{x:Bool}:(bif c then false else x)=true↔c=false/\x=true:=by cases c<;>simp
theorem rk(off:List ByteArray):∀l,bO.L1 off true l=true↔∀z∈l,z.x.No=(bif dw z.x then aP off z.x.Name else 0)
 |[]=>by simp[bO.L1]
 |y::l=>by
  simp only[bO.L1,jB,forall_eq_or_imp]
  cases dw y.x with
  |true=>
   rw[cond_true,cond_true,PZ,rk off l];simp
  |false=>
   rw[cond_false,cond_false,PZ,rk off l];simp
theorem Ko(v:ByteArray):∀(l:List ByteArray)(i:Nat),aP.L1 v (-1) l i=-1\/((i:Int)<=aP.L1 v (-1) l i/\aP.L1 v (-1) l i<((i+l.length:Nat):Int))
 |[],i=>.inl rfl
 |y::l,i=>by
  simp only[aP.L1,Bool.cond_eq_ite,xA]
  split
  .right;omega
  .rcases Ko v l (i+1)with h|h
   .exact .inl h
   .right;omega
theorem Pd(l:List ByteArray)(v:ByteArray):aP l v<(l.length:Int):=by
 have:=Ko v l 0
 unfold aP aP.K1
 omega
theorem yW{p:Policy}(hc:dh p=0):p.Rules.length=p.Kinds.length/\p.Offices.length<=32/\(∀x∈aw p,OkX (p.Offices.length:Int) x):=by
 obtain⟨h1,h2,h3⟩:=(BX p).1 hc
 obtain⟨hs,hn,hf⟩:=(tU p).1 h1
 have hf':=hf
 unfold bq at hf
 rw[qz,BL]at hf
 simp only[jA,decide_eq_true_eq,beq_iff_eq]at hf
 obtain⟨⟨⟨_,hlen⟩,hmode⟩,hrules,hK⟩:=hf
 unfold bq.K1 bq.K2 at hK
 rw[Ee]at hK
 obtain⟨⟨ho,_,_⟩,_⟩:=(Ba p).1 hs
 obtain⟨_,hnm⟩:=(Fh p).1 hn
 refine⟨by omega,ho,λx hx=>?_⟩
 have hres:∀z∈bp x 1,z.x.No=(bif dw z.x then aP p.Offices z.x.Name else 0):=by
  have hr:bO p.Offices x=true:=by
   rw[nz]at hx
   rcases jE.1 hx with hx|hx
   .obtain⟨r,hr,rfl⟩:=zN.1 hx
    obtain⟨j,hj⟩:=TJ hr
    exact(h2 j r hj).2
   .rw[qC.1 hx];exact h3
  unfold bO bO.K1 at hr
  exact(rk _ _).1 hr
 obtain⟨j,hj⟩:=TJ hx
 have hfm:=λz hz=>(hK j x hj z hz).1
 have hnx:=hnm x hx
 clear hK hnm hj
 let Q:Expr->Prop:=λx=>(1<=x.Kind/\x.Kind<=4)/\(x.Kind<=2->0<=x.No/\x.No<(p.Offices.length:Int))/\(x.Kind=4->x.L.length=2)
 have all:∀z∈bp x 1,(λx:Expr=>(1<=x.Kind/\x.Kind<=4)/\(x.Kind<=2->0<=x.No/\x.No<(p.Offices.length:Int))/\(x.Kind=4->x.L.length=2)) z.x:=by
  intro z hz
  have a:=hfm z hz
  have b:=hnx z hz
  have c:=hres z hz
  simp only[jA,aM,decide_eq_true_eq]at a
  refine⟨a.1,λhk=>?_,λhk=>?_⟩
  .have hnamed:dw z.x=true:=by
    have:z.x.Kind=1\/z.x.Kind=2:=by omega
    rcases this with e|e<;>simp[dw,e]
   simp only[hnamed,Bool.not_true,Bool.false_or,cond_true]at b c
   have hge:0<=aP p.Offices z.x.Name:=by
    have h9:=b
    simp only[dl,decide_eq_true_eq,ge_iff_le]at h9
    exact h9
   have:=Pd p.Offices z.x.Name
   omega
  .have h9:=a.2
   rw[hk]at h9
   simp only[kindsP]at h9
   simp[jU]at h9
   omega
 clear hfm hnx hres hx
 revert all
 refine Expr.ind (P:=λx=>(∀z∈bp x 1,Q z.x)->OkX (p.Offices.length:Int) x) ?_ x
 intro x ih all
 rw[qy Q]at all
 obtain⟨⟨a,b,c⟩,d⟩:=all
 exact OkX.mk x a b c λy hy=>ih y hy (d y hy)
theorem Ge{p:Policy}(hc:dh p=0):(1<=p.Mode/\p.Mode<=4)/\p.Rules.length<=16/\∀r∈p.Rules,0<=r.Think/\r.Think<=1099511627775:=by
 obtain⟨h1,_,_⟩:=(BX p).1 hc
 obtain⟨hs,_,hf⟩:=(tU p).1 h1
 unfold bq at hf
 rw[qz,BL]at hf
 simp only[jA,aM,decide_eq_true_eq]at hf
 obtain⟨⟨⟨_,_⟩,hmode⟩,hrules,_⟩:=hf
 obtain⟨⟨_,_,hr⟩,_⟩:=(Ba p).1 hs
 refine⟨hmode,hr,λr hr=>?_⟩
 obtain⟨j,hj⟩:=TJ hr
 exact(hrules j r hj).2
theorem F1{p:Policy}{r:Rule}(h:r∈p.Rules):r.Expr∈aw p:=by
 rw[nz];exact List.mem_append_left _ (vN h)
theorem Hw:∀(l:List Int)(g:Int),fg.L1 fg.K1 l g=true↔(∀x∈l,g<x/\x<64)/\l.Pairwise (·<·)
 |[],g=>by simp[fg.L1,fg.K1]
 |y::l,g=>by
  simp only[fg.L1,Bool.cond_eq_ite,kC,decide_eq_true_eq]
  split
  .next h=>
   constructor
   .intro h';cases h'
   .rintro⟨h1,_⟩;have:=h1 y (zB ..);omega
  .next h=>
   rw[Hw l y,List.pairwise_cons]
   simp only[jB,forall_eq_or_imp]
   constructor
   .rintro⟨h1,h2⟩
    exact⟨⟨by omega,λx hx=>by have:=h1 x hx;omega⟩,λx hx=>(h1 x hx).1,h2⟩
   .rintro⟨⟨h1,h2⟩,h3,h4⟩
    exact⟨λx hx=>⟨h3 x hx,(h2 x hx).2⟩,h4⟩
theorem NA(l:List Int):fg l=true↔(∀x∈l,0<=x/\x<64)/\l.Pairwise (·<·):=by
 unfold fg
 rw[Hw]
 constructor
 .rintro⟨h1,h2⟩;exact⟨λx hx=>by have:=h1 x hx;omega,h2⟩
 .rintro⟨h1,h2⟩;exact⟨λx hx=>by have:=h1 x hx;omega,h2⟩
theorem GE{l:List Int}(h:fg l=true):l.Pairwise (·<=·):=((NA l).1 h).2.imp (λh=>Int.le_of_lt h)
theorem Nv{hs:List (List Holder)}{n:Int}(h:eT hs n=true):(hs.length:Int)=n:=by
 have h3:∀(k:List Int->Bool)(l:List Holder)(g:List Int),eT.L3 k l g=true->∃g',k g'=true:=by
  intro k l
  induction l with
  |nil=>exact λg h=>⟨g,h⟩
  |cons y l ih=>
   intro g h
   simp only[eT.L3,Bool.cond_eq_ite]at h
   split at h
   .cases h
   .exact ih _ h
 have h1:∀(k:Bool)(l:List (List Holder)),eT.L1 k l=true->k=true:=by
  intro k l
  induction l with
  |nil=>exact λh=>h
  |cons y l ih=>
   intro h
   obtain⟨g',hg⟩:=h3 _ _ _ h
   simp only[Bool.cond_eq_ite]at hg
   split at hg
   .cases hg
   .exact ih hg
 have:=h1 _ _ h
 simpa[eT.K1]using this
theorem DB:∀(l:List Version)(g:Int),-1<=g->g<=1048576->(bG.L1 bG.K1 l g=0 ↔
  (∀v∈l,(0<=v.At/\v.At<=1099511627775)/\(0<=v.Known/\v.Known<=1099511627775)/\v.No<=1048576/\dh v.Policy=0)/\(∀v∈l,g<v.No)/\l.Pairwise (λa b=>a.No<b.No))
 |[],g,_,_=>by simp[bG.L1,bG.K1]
 |y::l,g,h0,h1=>by
  simp only[bG.L1,wrap64 (z:=g+1) (by omega),aM]
  by_cases hy:((0<=y.At/\y.At<=1099511627775)/\(0<=y.Known/\y.Known<=1099511627775)/\y.No<=1048576/\dh y.Policy=0)/\g<y.No
  .obtain⟨⟨⟨a,a'⟩,⟨b,b'⟩,c,d⟩,e⟩:=hy
   have hc:(!(decide (g+1<=y.No)&&decide (y.No<=1048576))||!(decide (0<=y.At)&&decide (y.At<=1099511627775))||!(decide (0<=y.Known)&&decide (y.Known<=1099511627775))||dh y.Policy != 0)=false:=by
    simp[a,a',b,b',c,d];omega
   rw[hc,cond_false,DB l y.No (by omega) c,List.pairwise_cons]
   simp only[jB,forall_eq_or_imp]
   constructor
   .rintro⟨h2,h3,h4⟩
    exact⟨⟨⟨⟨a,a'⟩,⟨b,b'⟩,c,d⟩,h2⟩,⟨e,λv hv=>by have:=h3 v hv;omega⟩,h3,h4⟩
   .rintro⟨⟨_,h2⟩,_,h3,h4⟩;exact⟨h2,h3,h4⟩
  .have hc:(!(decide (g+1<=y.No)&&decide (y.No<=1048576))||!(decide (0<=y.At)&&decide (y.At<=1099511627775))||!(decide (0<=y.Known)&&decide (y.Known<=1099511627775))||dh y.Policy != 0)=true:=by
    apply Classical.byContradiction
    intro hn
    apply hy
    simp only[Bool.not_eq_true,Bool.or_eq_false_iff,Bool.not_eq_false',jA,decide_eq_true_eq,bne_eq_false_iff_eq]at hn
    obtain⟨⟨⟨a,b⟩,c⟩,d⟩:=hn
    exact⟨⟨b,c,a.2,d⟩,by omega⟩
   rw[hc,cond_true]
   constructor
   .intro h;omega
   .rintro⟨h2,h3,_⟩
    exact absurd ⟨h2 y (zB ..),h3 y (zB ..)⟩ hy
structure H5(l:List Version):Prop where
 len:l.length<=256
 each:∀v∈l,(0<=v.At/\v.At<=1099511627775)/\(0<=v.Known/\v.Known<=1099511627775)/\(0<=v.No/\v.No<=1048576)/\dh v.Policy=0
 inc:l.Pairwise (λa b=>a.No<b.No)
theorem rJ(l:List Version):bG l=0↔H5 l:=by
 unfold bG
 by_cases hl:l.length<=256
 .rw[show decide (256<(l.length:Int))=false from decide_eq_false (by omega),cond_false,DB l (-1) (by omega) (by omega)]
  constructor
  .rintro⟨h1,h2,h3⟩;exact⟨hl,λv hv=>by have a:=h1 v hv;have b:=h2 v hv;exact⟨a.1,a.2.1,⟨by omega,a.2.2.1⟩,a.2.2.2⟩,h3⟩
  .rintro⟨_,h1,h3⟩;exact⟨λv hv=>by have:=h1 v hv;exact⟨this.1,this.2.1,by omega,this.2.2.2⟩,λv hv=>by have:=h1 v hv;omega,h3⟩
 .rw[show decide (256<(l.length:Int))=true from decide_eq_true (by omega),cond_true]
  exact⟨λh=>by omega,λh=>absurd h.len hl⟩
theorem H5.mode{l:List Version}(g:H5 l){v:Version}(hv:v∈l):1<=v.Policy.Mode/\v.Policy.Mode<=4:=(Ge (g.each v hv).2.2.2).1
theorem lA{κ α : Type}[DecidableEq κ](k:κ)(v:α):∀(m:List (κ×α))(x:κ),mget? (mput m k v) x=if x=k then some v else mget? m x
 |[],x=>by simp[mput,mget?]
 |(k',v')::m,x=>by
  simp only[mput]
  by_cases e:k=k'
  .subst e;by_cases e2:x=k<;>simp[mget?,e2]
  .simp only[e,if_false,mget?,lA k v m x]
   by_cases e2:x=k'
   .subst e2;simp[Ne.symm e]
   .simp[e2]
theorem Di{κ α : Type}[DecidableEq κ]{x:κ}:∀{m:List (κ×α)},x∈m.map (·.1)->∃v,mget? m x=some v/\(x,v)∈m
 |(k,v)::m,h=>by
  by_cases e:x=k
  .subst e;exact⟨v,by simp[mget?],by simp⟩
  .simp only[jJ,jB,e,false_or]at h
   obtain⟨u,h1,h2⟩:=Di h
   exact⟨u,by simp[mget?,e,h1],kA _ h2⟩
theorem Ct{κ α : Type}[DecidableEq κ]{k:κ}{v:α}{q:κ×α}:∀{m:List (κ×α)},q∈mput m k v->q=(k,v)\/q∈m
 |[],h=>by simp[mput]at h;exact .inl h
 |(k',v')::m,h=>by
  simp only[mput]at h
  split at h
  .rcases jB.1 h with h|h
   .exact .inl h
   .exact .inr (kA _ h)
  .rcases jB.1 h with h|h
   .exact .inr (h▸zB ..)
   .rcases Ct h with h|h
    .exact .inl h
    .exact .inr (kA _ h)
theorem Fv(g:List (Int×Version)):∀l,bH.L2 g [] l=l.map λy=>(y,mgetD g y (Tk 0 0 0 (zP (⟨#[]⟩:ByteArray) [] [] [] (qH 0 0 0 (⟨#[]⟩:ByteArray) []) 0)))
 |[]=>rfl
 |y::l=>by simp[bH.L2,Fv g l]
def inForceM(known fa:Int):List Version->Int->List (Int×Version)->List (Int×Version)
 |[],_,m=>m
 |y::l,b,m=>bif decide (known<y.Known)then inForceM known fa l b m else bif decide (y.At<=fa)then(bif decide (y.At<b)then inForceM known fa l b m else inForceM known fa l y.At (mput m fa y))else inForceM known fa l b (mput m y.At y)
theorem Fw(known fa:Int)(k:Int->List (Int×Version)->List (Int×Version))(hk:∀a b m,k a m=k b m):∀l b m,bH.L1 known fa k l b m=k 0 (inForceM known fa l b m)
 |[],b,m=>hk _ _ _
 |y::l,b,m=>by
  simp only[bH.L1,inForceM,Fw known fa k hk l]
  cases decide (known<y.Known)<;>cases decide (y.At<=fa)<;>cases decide (y.At<b)<;>rfl
theorem AF(l:List Version)(fa known:Int):gi l fa known=(sortI ((inForceM known fa l (-1) []).map Prod.fst)).map λy=>(y,mgetD (inForceM known fa l (-1) []) y (Tk 0 0 0 (zP (⟨#[]⟩:ByteArray) [] [] [] (qH 0 0 0 (⟨#[]⟩:ByteArray) []) 0))):=by
 unfold gi bH
 rw[Fw _ _ _ (λ_ _ _=>rfl)]
 exact Fv _ _
theorem pC(known fa:Int)(P:Int×Version->Prop):∀(l:List Version)b m,(∀y∈l,y.At<=fa->P (fa,y))->(∀y∈l,fa<y.At->P (y.At,y))->(∀q∈m,P q)->∀q∈inForceM known fa l b m,P q
 |[],_,_,_,_,hm=>hm
 |y::l,b,m,h1,h2,hm=>by
  have h1':=λz hz=>h1 z (kA _ hz)
  have h2':=λz hz=>h2 z (kA _ hz)
  simp only[inForceM,Bool.cond_eq_ite,decide_eq_true_eq]
  split
  .exact pC known fa P l b m h1' h2' hm
  .split
   .next ha=>
    split
    .exact pC known fa P l b m h1' h2' hm
    .refine pC known fa P l _ _ h1' h2' (λq hq=>?_)
     rcases Ct hq with rfl|hq
     .exact h1 y (zB ..) ha
     .exact hm q hq
   .next ha=>
    refine pC known fa P l _ _ h1' h2' (λq hq=>?_)
    rcases Ct hq with rfl|hq
    .exact h2 y (zB ..) (by omega)
    .exact hm q hq
theorem Dp{l:List Version}{fa:Int}(P:Int×Version->Prop)(h1:∀y∈l,y.At<=fa->P (fa,y))(h2:∀y∈l,fa<y.At->P (y.At,y)):∀q∈gi l fa known,P q:=by
 intro q hq
 rw[AF]at hq
 obtain⟨y,hy,rfl⟩:=zN.1 hq
 have hy':=(my _).mem_iff.1 hy
 obtain⟨v,e,hv⟩:=Di hy'
 have:mgetD (inForceM known fa l (-1) []) y (Tk 0 0 0 (zP (⟨#[]⟩:ByteArray) [] [] [] (qH 0 0 0 (⟨#[]⟩:ByteArray) []) 0))=v:=by simp[mgetD,e]
 simp only[this]
 exact pC known fa P l (-1) [] h1 h2 (λq hq=>(vA hq).elim) _ hv
theorem yo{l:List Version}{fa:Int}:∀q∈gi l fa known,q.2∈l:=
 Dp (λq=>q.2∈l) (λy hy _=>hy) (λy hy _=>hy)
theorem sx(known fa:Int):∀(l:List Version)b m,(inForceM known fa l b m).length<=m.length+l.length
 |[],_,_=>vG _
 |y::l,b,m=>by
  have a1:=sx known fa l b m
  have a2:=sx known fa l y.At (mput m fa y)
  have a3:=sx known fa l b (mput m y.At y)
  have b2:=nu m fa y
  have b3:=nu m y.At y
  simp only[inForceM,Bool.cond_eq_ite,xA]
  split
  .omega
  .split
   .split<;>omega
   .omega
theorem Do(l:List Version)(fa known:Int):(gi l fa known).length<=l.length:=by
 rw[AF,List.length_map,iV,List.length_map]
 have:=sx known fa l (-1) []
 simpa using this
theorem Bd:∀{a b:List OSeat},a.Pairwise (λx y=>x.person<y.person)->b.Pairwise (λx y=>x.person<y.person)->a.Perm b->a=b
 |[],b,_,_,p=>(List.Perm.nil_eq p)
 |x::a,[],_,_,p=>absurd p.length_eq (by simp)
 |x::a,y::b,ha,hb,p=>by
  have hx:x=y:=by
   have h1:x∈y::b:=p.mem_iff.1 (zB ..)
   have h2:y∈x::a:=p.mem_iff.2 (zB ..)
   rw[List.pairwise_cons]at ha hb
   rcases jB.1 h1 with e|h1
   .exact e
   .rcases jB.1 h2 with e|h2
    .exact e.symm
    .have:=ha.1 y h2;have:=hb.1 x h1;omega
  subst hx
  rw[List.pairwise_cons]at ha hb
  rw[Bd ha.2 hb.2 (List.Perm.cons_inv p)]
theorem Be{l:List OSeat}(hn:l.Nodup)(hs:l.Pairwise (λx y=>x.person<=y.person)):(l.filter (λy=>y.office==office)).Pairwise (λx y=>x.person<y.person):=by
 induction l with
 |nil=>exact List.Pairwise.nil
 |cons x l ih=>
  rw[xR]at hn
  rw[List.pairwise_cons]at hs
  rw[List.filter_cons]
  split
  .next h=>
   rw[List.pairwise_cons]
   refine⟨λy hy=>?_,ih hn.2 hs.2⟩
   obtain⟨hy1,hy2⟩:=S9.1 hy
   have h1:=hs.1 y hy1
   rcases Int.lt_or_eq_of_le h1 with h2|h2
   .exact h2
   .exfalso
    have:x=y:=by
     cases x;cases y
     simp at h hy2 h2
     simp[h,hy2,h2]
    exact hn.1 (this▸hy1)
  .exact ih hn.2 hs.2
theorem wg(m:List (OSeat×Appoint))(office:Int):∀l,bU.L1 m office [] l=(l.filter λy=>y.office==office).filterMap λy=>bif(mgetD m y (jD 0 0 0 0 0 0 false)).Gone then none else some (U7 (mgetD m y (jD 0 0 0 0 0 0 false)).Person (mgetD m y (jD 0 0 0 0 0 0 false)).Weight)
 |[]=>rfl
 |y::l=>by
  simp only[bU.L1,wg m office l,List.filter_cons]
  cases h1:y.office==office<;>cases h2:(mgetD m y (jD 0 0 0 0 0 0 false)).Gone<;>simp[h2]
theorem GL{m:List (OSeat×Appoint)}{ys:List OSeat}(hn:(m.map (·.1)).Nodup)(hp:ys.Perm (m.map Prod.fst))(hs:ys.Pairwise (λx y=>x.person<=y.person)):
  bU m office=[]++((bU.L1 m office bU.K1) ys):=by
 unfold bU bU.K1
 rw[kF,wg,wg]
 have h1:(seatS (m.map Prod.fst)).Nodup:=(vx _).nodup_iff.2 hn
 have h2:ys.Nodup:=hp.nodup_iff.2 hn
 rw[Bd (Be h1 (Bf _)) (Be h2 hs) (((vx _).trans hp.symm).filter _)]
theorem yk(key:Appoint->OSeat×Bool)(later:Appoint->Appoint->Bool):∀(l:List Appoint)m,(cM.L1 key later cM.K1 l m).length<=m.length+l.length
 |[],m=>by simp[cM.L1,cM.K1]
 |y::l,m=>by
  have a:=yk key later l m
  have b:=yk key later l (mput m (key y).1 y)
  have c:=nu m (key y).1 y
  simp only[cM.L1,Bool.cond_eq_ite,xA]
  split<;>omega
theorem vu(l:List Appoint)(a b:Int):(dx l a b).length<=l.length:=by
 have:=yk (λdE=>gr dE a b) gq l []
 simpa[dx,cM]using this
theorem KJ(l:List Holder):gx l=l:=by
 have:∀(l g:List Holder),co.L1 co.K1 l g=g++l:=by
  intro l
  induction l with
  |nil=>intro g;simp[co.L1,co.K1]
  |cons y l ih=>intro g;simp[co.L1,ih]
 simp[gx,co,this]
theorem Dr(m:List (OSeat×Appoint))(office:Int):(jr m office).length<=m.length:=by
 unfold jr bU bU.K1
 rw[wg]
 have h1:=List.length_filterMap_le (λy=>bif(mgetD m y (jD 0 0 0 0 0 0 false)).Gone then none else some (U7 (mgetD m y (jD 0 0 0 0 0 0 false)).Person (mgetD m y (jD 0 0 0 0 0 0 false)).Weight)) ((seatS (m.map Prod.fst)).filter λy=>y.office==office)
 have h2:=List.length_filter_le (λy:OSeat=>y.office==office) (seatS (m.map Prod.fst))
 have h3:=(vx (m.map Prod.fst)).length_eq
 rw[List.length_map]at h3
 omega
theorem KV(l:List Appoint)(office a b:Int):(fo l office a b).1.length<=l.length:=by
 unfold fo
 rw[KJ]
 have h1:=Dr (dx l a b) office
 have h2:=vu l a b
 cases(df l != 0)<;>cases((!(eN office))||(!(di a))||(!(di b)))<;>simp<;>omega
theorem mb(r:Register):dC r=0↔df r.Appoints=0/\dk r.Deputies=0/\cm r.Interests=0/\cG r.Budgets=0/\bG r.Versions=0/\aT r.Docs=0/\bJ r.Approvals=0:=by
 have e:dC r=(bif df r.Appoints != 0 then 300 else bif dk r.Deputies != 0 then 300 else bif cm r.Interests != 0 then 300 else bif cG r.Budgets != 0 then 300 else bif bG r.Versions != 0 then 300 else bif aT r.Docs != 0 then 300 else bif bJ r.Approvals != 0 then 300 else 0):=rfl
 rw[e]
 have key:∀(a x:Int),(bif a != 0 then 300 else x)=0↔a=0/\x=0:=by
  intro a x
  by_cases h:a=0
  .simp[h]
  .have:(a != 0)=true:=by simpa using h
   rw[this];simp[h]
 simp only[key,and_true]
theorem MI(limit:Int)(k:Int->Bool):∀(l:List Int)(g:Int),dM.L1 limit k l g=true↔((∀x∈l,g<x/\x<limit)/\l.Pairwise (·<·))/\∃g',(l=[]/\g'=g\/l.getLast? = some g')/\k g'=true
 |[],g=>by simp[dM.L1]
 |y::l,g=>by
  simp only[dM.L1,Bool.cond_eq_ite,kC,decide_eq_true_eq]
  split
  .next h=>
   constructor
   .intro h';cases h'
   .rintro⟨⟨h1,_⟩,_⟩;have:=h1 y (zB ..);omega
  .next h=>
   rw[MI limit k l y,List.pairwise_cons]
   simp only[jB,forall_eq_or_imp]
   constructor
   .rintro⟨⟨h1,h2⟩,g',h3,h4⟩
    refine⟨⟨⟨by omega,λx hx=>by have:=h1 x hx;omega⟩,λx hx=>(h1 x hx).1,h2⟩,g',?_,h4⟩
    rcases h3 with⟨rfl,rfl⟩|h3
    .simp
    .right;cases l with
     |nil=>simp at h3
     |cons z l=>simpa using h3
   .rintro⟨⟨⟨h1,h2⟩,h3,h4⟩,g',h5,h6⟩
    refine⟨⟨λx hx=>⟨h3 x hx,(h2 x hx).2⟩,h4⟩,g',?_,h6⟩
    rcases h5 with⟨h5,_⟩|h5
    .cases h5
    .cases l with
     |nil=>left;simp at h5;exact⟨rfl,h5.symm⟩
     |cons z l=>right;simpa using h5
theorem Eb(l:List Int)(limit:Int):dM l limit=true↔((∀x∈l,0<=x/\x<limit)/\l.Pairwise (·<·))/\l.length<=16:=by
 unfold dM
 rw[MI]
 constructor
 .rintro⟨⟨h1,h2⟩,g',_,h3⟩
  refine⟨⟨λx hx=>by have:=h1 x hx;omega,h2⟩,?_⟩
  simp only[dM.K1,decide_eq_true_eq]at h3
  omega
 .rintro⟨⟨h1,h2⟩,h3⟩
  refine⟨⟨λx hx=>by have:=h1 x hx;omega,h2⟩,?_⟩
  cases l with
  |nil=>exact⟨_,.inl ⟨rfl,rfl⟩,by simp[dM.K1]⟩
  |cons y l=>
   refine⟨(y::l).getLast (by simp),.inr (List.getLast?_eq_some_getLast _),?_⟩
   simp only[dM.K1,decide_eq_true_eq]
   omega
structure Nb(d:Document):Prop where
 no:0<=d.No/\d.No<4096
 at_:0<=d.At/\d.At<1099511627776
 kind:0<=d.Kind/\d.Kind<16
 value:0<=d.Value/\d.Value<=1099511627776
 fa:0<=d.From/\d.From<d.Until
 RX:d.Until<=1099511627776
 parties:((∀x∈d.Parties,0<=x/\x<1048577)/\d.Parties.Pairwise (·<·))/\d.Parties.length<=16
 revokes:((∀x∈d.Revokes,0<=x/\x<d.No)/\d.Revokes.Pairwise (·<·))/\d.Revokes.length<=16
 needs:((∀x∈d.Needs,0<=x/\x<d.No)/\d.Needs.Pairwise (·<·))/\d.Needs.length<=16
theorem JL(d:Document):ib d=true↔Nb d:=by
 unfold ib ga
 simp only[jA,decide_eq_true_eq,Eb]
 constructor
 .rintro⟨⟨⟨⟨⟨⟨⟨⟨⟨⟨⟨⟨a,b⟩,c,d⟩,e⟩,f⟩,g⟩,h⟩,i⟩,j⟩,k⟩,l⟩,m⟩,n⟩
  exact⟨⟨a,b⟩,⟨c,d⟩,⟨e,f⟩,⟨g,h⟩,⟨i,j⟩,k,l,m,n⟩
 .rintro⟨⟨a,b⟩,⟨c,d⟩,⟨e,f⟩,⟨g,h⟩,⟨i,j⟩,k,l,m,n⟩
  exact⟨⟨⟨⟨⟨⟨⟨⟨⟨⟨⟨⟨a,b⟩,c,d⟩,e⟩,f⟩,g⟩,h⟩,i⟩,j⟩,k⟩,l⟩,m⟩,n⟩
theorem F5(l0:List Document):∀(l:List Document)(i:Nat),aT.L1 l0 0 l i=0->∀d∈l,ib d=true
 |[],_,_,_,hd=>(vA hd).elim
 |y::l,i,h,d,hd=>by
  simp only[aT.L1,Bool.cond_eq_ite]at h
  split at h
  .omega
  .next hc=>
   simp only[kC,not_or,kD,Bool.not_eq_false]at hc
   rcases jB.1 hd with rfl|hd
   .exact hc.1.1
   .exact F5 l0 l (i+1) h d hd
theorem HQ{l:List Document}(h:aT l=0):∀d∈l,Nb d:=by
 unfold aT aT.K1 at h
 rw[Bool.cond_eq_ite]at h
 split at h
 .omega
 .exact λd hd=>(JL d).1 (F5 l l 0 h d hd)
theorem Fx(f:Document->Bool):∀(l:List Document)(i:Nat),(ad.L1 f ad.K1 l i=-1/\∀x∈l,f x=false) \/
  ∃a y b,l=a++y::b/\ad.L1 f ad.K1 l i=((i+a.length:Nat):Int)/\f y=true/\∀x∈a,f x=false
 |[],i=>.inl ⟨rfl,λ_ h=>(vA h).elim⟩
 |y::l,i=>by
  simp only[ad.L1]
  cases hy:f y with
  |true=>exact .inr ⟨[],y,l,rfl,by simp,hy,λ_ h=>(vA h).elim⟩
  |false=>
   rcases Fx f l (i+1)with⟨h1,h2⟩|⟨a,z,b,rfl,h2,h3,h4⟩
   .exact .inl ⟨h1,λx hx=>by rcases jB.1 hx with rfl|hx;exact hy;exact h2 x hx⟩
   .refine .inr ⟨y::a,z,b,rfl,?_,h3,λx hx=>by rcases jB.1 hx with rfl|hx;exact hy;exact h4 x hx⟩
    rw[cond_false,h2];simp only[xA];congr 1;omega
theorem Lz(mode:Int)(l:List Version)(old:Bool):(judgesP mode l old).length<=l.length:=by
 unfold judgesP jd iI jc
 cases mode==1<;>cases mode==2<;>cases old<;>simp<;>omega
theorem CW(k:List Int->List Int×Int×Int):∀(l:List Version)(g:List Int),bz.L2 k l g=k (g++l.map (·.No))
 |[],g=>by simp[bz.L2]
 |y::l,g=>by simp[bz.L2,CW k l]
theorem H4(begun at_:Int)(P:List Int×Int×Int->Prop)(n:Nat)(k:Bool->List Version->List Int×Int×Int)(hk:∀b g,g.length<=n->P (k b g)):∀(l:List (Int×Version))b g,g.length+l.length<=n->P (bz.L1 begun at_ k l b g)
 |[],b,g,h=>by simpa[bz.L1]using hk b g (by simpa using h)
 |y::l,b,g,h=>by
  simp only[bz.L1]
  simp only[xA]at h
  cases decide (at_<y.1)
  .exact H4 begun at_ P n k hk l _ _ (by simp;omega)
  .exact hk _ _ (by omega)
theorem LW(l:List Version)(begun at_ known:Int):(bz l begun at_ known).1.length<=l.length:=by
 unfold bz
 cases(bG l != 0)
 .cases(((!(hZ begun))||(!(hZ at_)))||(!(hZ known)))||decide (at_<begun)
  .simp only[cond_false]
   refine H4 begun at_ (λr=>r.1.length<=l.length) l.length _ ?_ _ _ _ (by have:=Do l begun known;simpa using this)
   intro b g hg
   unfold bz.K1
   cases((g.length:Int)==0)
   .simp only[cond_false,CW,bz.K2,kF,iV,List.length_map]
    exact xS (Lz _ _ _) hg
   .simp
  .simp
 .simp
theorem nd:smR (qS [] [] [] [] [] [] []):=by simp[smR,smV]
theorem uD{P:Program}{f:FuncId}{args:List Value}{h:HF}{v v':Value}(t:Ret P f args h v)(e:v=v'):Ret P f args h v':=e▸t
structure R8(r:Register)(doc:Int)(who l:List Int):Prop where
 times:∀x∈l,0<=x/\x<1099511627776
 check:kj r=0
 doc0:0<=dp r doc
 people:oe who=true
theorem MD(no:Int):∀(l:List Document)(i:Nat),0<=dp.L1 no dp.K1 l i->∃(j:Nat)(d:Document),l[j]? = some d/\d.No=no/\dp.L1 no dp.K1 l i=((i+j:Nat):Int)
 |[],i,h=>by simp[dp.L1,dp.K1]at h
 |y::l,i,h=>by
  simp only[dp.L1,Bool.cond_eq_ite,beq_iff_eq]at h ⊢
  split
  .next e=>exact⟨0,y,rfl,e,rfl⟩
  .next e=>
   rw[if_neg e]at h
   obtain⟨j,d,h1,h2,h3⟩:=MD no l (i+1) h
   exact⟨j+1,d,by simpa using h1,h2,by rw[h3];congr 1;omega⟩
theorem Qp{r:Register}{no:Int}(h:0<=dp r no):dp r no<(r.Docs.length:Int)/\nthI r.Docs (dp r no)∈r.Docs/\(nthI r.Docs (dp r no)).No=no:=by
 obtain⟨j,d,h1,h2,h3⟩:=MD no r.Docs 0 h
 rw[Nat.zero_add]at h3
 have hl:=(List.getElem?_eq_some_iff.1 h1).1
 have e:dp r no=(j:Int):=h3
 have hb:0<=dp r no/\dp r no<(r.Docs.length:Int):=by omega
 have hg:=de hb
 rw[show(dp r no).toNat=j from by omega,h1]at hg
 have hd:=qV hg
 exact⟨hb.2,nt hb,by rw[←hd];exact h2⟩
theorem KM{r:Register}(h:kj r=0):gC r.Appoints=0/\gB r.Deputies=0/\gg r.Interests=0/\iu r.Budgets=0/\dP r.Versions=0/\fZ r.Docs=0/\ff r.Approvals=0:=by
 simp only[kj,Bool.cond_eq_ite,kC,bne_iff_ne]at h
 split at h
 .simp at h
 .next h1=>
  split at h
  .simp at h
  .next h2=>
   simp only[not_or,Classical.not_not]at h1 h2
   exact⟨h1.1.1.1,h1.1.1.2,h1.1.2,h1.2,h2.1.1,h2.1.2,h2.2⟩
theorem Hk{l:List Int}(h:l.Pairwise (·<=·))(hn:l.Nodup):l.Pairwise (·<·):=by
 induction l with
 |nil=>exact List.Pairwise.nil
 |cons x l ih=>
  rw[List.pairwise_cons]at h ⊢
  rw[xR]at hn
  exact⟨λy hy=>by have:=h.1 y hy;have:x≠y:=λe=>hn.1 (e▸hy);omega,ih h.2 hn.2⟩
section chk
variable {α : Type} [Inhabited α]
def refChk(R:α->Bool)(no:α->Int)(c:Int)(L:List α):List α->Nat->Int
 |[],_=>0
 |y::l,i=>bif(!(R y))||(decide (0<(i:Int))&&decide (no y<=no (nthI L ((i:Int)-1))))then c else refChk R no c L l (i+1)
def prgChk(R:α->Bool)(no:α->Int)(c:Int):List α->Int->Int
 |[],_=>0
 |y::l,g=>bif(!(R y))||decide (no y<=g)then c else prgChk R no c l (no y)
theorem KL(R:α->Bool)(no:α->Int)(c:Int)(L:List α):∀(l pre:List α)(x:α),L=(pre++[x])++l->refChk R no c L l (pre.length+1)=prgChk R no c l (no x)
 |[],_,_,_=>rfl
 |y::l,pre,x,h=>by
  have hx:nthI L (((pre.length+1:Nat):Int)-1)=x:=by
   have hb:0<=(((pre.length+1:Nat):Int)-1)/\(((pre.length+1:Nat):Int)-1)<(L.length:Int):=by rw[h];simp;omega
   have hg:=de hb
   rw[show((((pre.length+1:Nat):Int)-1)).toNat=pre.length from by omega,h]at hg
   rw[h];simpa using hg.symm
  have hd:decide (0<((pre.length+1:Nat):Int))=true:=by rw[decide_eq_true_eq];omega
  have ih:=KL R no c L l (pre++[x]) y (by rw[h];simp)
  rw[xB,xA,jC,Nat.zero_add]at ih
  simp only[refChk,prgChk,hx,hd,Bool.true_and,ih]
theorem Gd(R:α->Bool)(no:α->Int)(c:Int)(hR:∀y,R y=true->0<=no y)(l:List α):refChk R no c l l 0=prgChk R no c l (-1):=by
 cases l with
 |nil=>rfl
 |cons y l=>
  have ih:=KL R no c (y::l) l [] y rfl
  simp only[jC,Nat.zero_add]at ih
  simp only[refChk,prgChk,Nat.zero_add,ih]
  cases hr:R y with
  |false=>rfl
  |true=>
   have:decide (no y<=-1)=false:=by have:=hR y hr;simp;omega
   rw[this];rfl
end chk
theorem yc(l:List Appoint):df l=gC l:=by
 have hR:∀x,oG x=ku x:=λx=>by
  rw[jK]
  simp only[oG,ku,Bool.cond_eq_ite]
  cases x.Gone<;>simp only[if_true,if_false,jT,jA,kC,kD,decide_eq_true_eq,decide_eq_false_iff_not,beq_iff_eq,dI,di,eN,fE,kU,mq,lP,Bool.and_eq_false_iff]
   <;> (split<;>simp only[jT,iff_false,decide_eq_true_eq,jA,beq_iff_eq]<;>omega)
 have h1:∀(L l:List Appoint)i,gC.L1 L gC.K1 l i=refChk ku (·.No) 150 L l i:=by
  intro L l
  induction l with
  |nil=>intro i;rfl
  |cons y l ih=>intro i;simp only[gC.L1,refChk,ih]
 have h2:∀(l:List Appoint)g,df.L1 df.K1 l g=prgChk ku (·.No) 150 l g:=by
  intro l
  induction l with
  |nil=>intro g;rfl
  |cons y l ih=>intro g;simp only[df.L1,prgChk,ih,hR]
 unfold df gC
 rw[h1,h2,Gd]
 intro y hy
 simp only[ku,Bool.cond_eq_ite]at hy
 split at hy
 .cases hy
 .next h=>simp only[kC,not_or,decide_eq_true_eq]at h;omega
theorem wj(l:List Deputy):dk l=gB l:=by
 have hR:∀x,mZ x=kt x:=λx=>by
  rw[jK]
  simp only[mZ,kt,Bool.cond_eq_ite,bV,fX,fD,ef,kO,jq]
  generalize (!(decide (0<=x.No)&&decide (x.No<=1048576))||!(decide (0<=x.At)&&decide (x.At<=1099511627775))||!(decide (0<=x.Known)&&decide (x.Known<=1099511627775))||!(decide (0<=x.From)&&decide (x.From<=63))||!(decide (0<=x.To)&&decide (x.To<=63))||x.From==x.To)=A
  cases A<;>simp
 have h1:∀(L l:List Deputy)i,gB.L1 L gB.K1 l i=refChk kt (·.No) 160 L l i:=by
  intro L l
  induction l with
  |nil=>intro i;rfl
  |cons y l ih=>intro i;simp only[gB.L1,refChk,ih]
 have h2:∀(l:List Deputy)g,dk.L1 dk.K1 l g=prgChk kt (·.No) 160 l g:=by
  intro l
  induction l with
  |nil=>intro g;rfl
  |cons y l ih=>intro g;simp only[dk.L1,prgChk,ih,hR]
 unfold dk gB
 rw[h1,h2,Gd]
 intro y hy
 simp only[kt,Bool.cond_eq_ite]at hy
 split at hy
 .cases hy
 .next h=>simp only[kC,not_or,decide_eq_true_eq,ef,kD,Bool.and_eq_false_iff,decide_eq_false_iff_not]at h;omega
theorem qU(l:List Interest):cm l=gg l:=by
 have hR:∀x,mn x=kk x:=λx=>by
  rw[jK]
  simp only[mn,kk,Bool.cond_eq_ite,aW,kz,iQ,nk]
  cases x.Of<;>simp only[if_true,if_false,jT,jA,kC,kD,decide_eq_true_eq,decide_eq_false_iff_not,bne_iff_ne,Bool.and_eq_false_iff]
   <;> (split<;>simp only[jT,iff_false,decide_eq_true_eq,jA,bne_iff_ne]<;>omega)
 have h1:∀(L l:List Interest)i,gg.L1 L gg.K1 l i=refChk kk (·.No) 290 L l i:=by
  intro L l
  induction l with
  |nil=>intro i;rfl
  |cons y l ih=>intro i;simp only[gg.L1,refChk,ih]
 have h2:∀(l:List Interest)g,cm.L1 cm.K1 l g=prgChk kk (·.No) 290 l g:=by
  intro l
  induction l with
  |nil=>intro g;rfl
  |cons y l ih=>intro g;simp only[cm.L1,prgChk,ih,hR]
 unfold cm gg
 rw[h1,h2,Gd]
 intro y hy
 simp only[kk,Bool.cond_eq_ite]at hy
 split at hy
 .cases hy
 .next h=>simp only[kC,not_or,decide_eq_true_eq]at h;omega
theorem Dq(f:Int->Bool):∀(l:List Int)(i:Nat),decide (0<=dW.L1 f dW.K1 l i)=l.any f
 |[],i=>by simp[dW.L1,dW.K1]
 |y::l,i=>by
  have ih:=Dq f l (i+1)
  simp only[dW.L1,List.any_cons]
  by_cases hf:f y=true
  .simp[hf]
  .simp only[Bool.not_eq_true]at hf
   simp only[hf,cond_false,Bool.false_or]
   exact ih
theorem containsF(l:List Int)(f:Int->Bool):cI l f=l.any f:=Dq f l 0
theorem DE(l:List Budget):cG l=iu l:=by
 have hR:∀x,li x=kn x:=λx=>by
  rw[jK]
  simp only[li,kn,Bool.cond_eq_ite,aQ,containsF,iN,List.any_cons,List.any_nil,Bool.or_false,iM,nl]
  cases x.Gone<;>simp only[if_true,if_false,jT,jA,kC,kD,decide_eq_true_eq,decide_eq_false_iff_not,beq_iff_eq,Bool.and_eq_false_iff,Bool.or_eq_false_iff]
   <;> (split<;>simp only[jT,iff_false,decide_eq_true_eq,jA,beq_iff_eq]<;>omega)
 have h1:∀(L l:List Budget)i,iu.L1 L iu.K1 l i=refChk kn (·.No) 180 L l i:=by
  intro L l
  induction l with
  |nil=>intro i;rfl
  |cons y l ih=>intro i;simp only[iu.L1,refChk,ih]
 have h2:∀(l:List Budget)g,cG.L1 cG.K1 l g=prgChk kn (·.No) 180 l g:=by
  intro l
  induction l with
  |nil=>intro g;rfl
  |cons y l ih=>intro g;simp only[cG.L1,prgChk,ih,hR]
 unfold cG iu
 rw[h1,h2,Gd]
 intro y hy
 simp only[kn,Bool.cond_eq_ite]at hy
 split at hy
 .cases hy
 .next h=>simp only[kC,not_or,decide_eq_true_eq,iM,kD,Bool.and_eq_false_iff,decide_eq_false_iff_not]at h;omega
theorem qY(l:List Approval):bJ l=ff l:=by
 have hR:∀x,ju x=kl x:=λx=>by
  rw[jK]
  simp only[ju,kl,Bool.cond_eq_ite,cJ,containsF,gv,List.any_cons,List.any_nil,Bool.or_false,fT,fM,ny]
  simp only[jA,kC,kD,decide_eq_true_eq,decide_eq_false_iff_not,Bool.and_eq_false_iff,Bool.or_eq_false_iff]
  split<;>simp only[jT,iff_false,decide_eq_true_eq,jA]<;>omega
 have h1:∀(L l:List Approval)i,ff.L1 L ff.K1 l i=refChk kl (·.No) 280 L l i:=by
  intro L l
  induction l with
  |nil=>intro i;rfl
  |cons y l ih=>intro i;simp only[ff.L1,refChk,ih]
 have h2:∀(l:List Approval)g,bJ.L1 bJ.K1 l g=prgChk kl (·.No) 280 l g:=by
  intro l
  induction l with
  |nil=>intro g;rfl
  |cons y l ih=>intro g;simp only[bJ.L1,prgChk,ih,hR]
 unfold bJ ff
 rw[h1,h2,Gd]
 intro y hy
 simp only[kl,Bool.cond_eq_ite]at hy
 split at hy
 .cases hy
 .next h=>simp only[kC,not_or,decide_eq_true_eq,fT,kD,Bool.and_eq_false_iff,decide_eq_false_iff_not]at h;omega
def refLs(B:Int->Bool)(L:List Int)(k:Bool):List Int->Nat->Bool
 |[],_=>k
 |y::l,i=>bif(B y)||(decide (0<(i:Int))&&decide (y<=nthI L ((i:Int)-1)))then false else refLs B L k l (i+1)
theorem EO(B:Int->Bool)(L:List Int)(k:Bool):∀(l pre:List Int)(x:Int),L=(pre++[x])++l->refLs B L k l (pre.length+1)=true->((∀y∈l,B y=false)/\k=true)/\(x::l).Pairwise (·<·)
 |[],_,_,_,h=>⟨⟨λ_ h=>(vA h).elim,h⟩,by simp⟩
 |y::l,pre,x,h,hr=>by
  have hx:nthI L (((pre.length+1:Nat):Int)-1)=x:=by
   have hb:0<=(((pre.length+1:Nat):Int)-1)/\(((pre.length+1:Nat):Int)-1)<(L.length:Int):=by rw[h];simp;omega
   have hg:=de hb
   rw[show((((pre.length+1:Nat):Int)-1)).toNat=pre.length from by omega,h]at hg
   rw[h];simpa using hg.symm
  simp only[refLs,hx,Bool.cond_eq_ite]at hr
  split at hr
  .cases hr
  .next hc=>
   simp only[kC,jA,decide_eq_true_eq,not_or]at hc
   have ih:=EO B L k l (pre++[x]) y (by rw[h];simp)
   rw[xB,xA,jC,Nat.zero_add]at ih
   obtain⟨⟨i1,i2⟩,i3⟩:=ih hr
   have hxy:x<y:=by omega
   refine⟨⟨λz hz=>?_,i2⟩,List.pairwise_cons.2 ⟨λz hz=>?_,i3⟩⟩
   .rcases jB.1 hz with rfl|hz
    .simpa using hc.1
    .exact i1 z hz
   .rcases jB.1 hz with rfl|hz
    .exact hxy
    .have:=(List.pairwise_cons.1 i3).1 z hz;omega
theorem JO{B:Int->Bool}{k:Bool}{l:List Int}(h:refLs B l k l 0=true):((∀y∈l,B y=false)/\k=true)/\l.Pairwise (·<·):=by
 cases l with
 |nil=>exact⟨⟨λ_ h=>(vA h).elim,h⟩,List.Pairwise.nil⟩
 |cons y l=>
  simp only[refLs,Bool.cond_eq_ite]at h
  split at h
  .cases h
  .next hc=>
   simp only[kC,not_or]at hc
   obtain⟨⟨i1,i2⟩,i3⟩:=EO B (y::l) k l [] y rfl h
   refine⟨⟨λz hz=>?_,i2⟩,i3⟩
   rcases jB.1 hz with rfl|hz
   .simpa using hc.1
   .exact i1 z hz
theorem EN{l:List Int}{limit:Int}(h:eS l limit=true):((∀x∈l,0<=x/\x<limit)/\l.Pairwise (·<·))/\l.length<=16:=by
 have e:∀(L l:List Int)i,eS.L1 L limit (eS.K1 L) l i=refLs (λy=>decide (y<0)||decide (limit<=y)) L (eS.K1 L) l i:=by
  intro L l
  induction l with
  |nil=>intro i;rfl
  |cons y l ih=>intro i;simp only[eS.L1,refLs,ih]
 unfold eS at h
 rw[e]at h
 obtain⟨⟨h1,h2⟩,h3⟩:=JO h
 refine⟨⟨λx hx=>?_,h3⟩,?_⟩
 .have:=h1 x hx;simp only[Bool.or_eq_false_iff,decide_eq_false_iff_not]at this;omega
 .simp only[eS.K1,decide_eq_true_eq]at h2;omega
theorem JJ{d:Document}(h:jf d=true):Nb d:=by
 simp only[jf,Bool.cond_eq_ite]at h
 split at h
 .cases h
 .next hc=>
  simp only[kC,not_or,decide_eq_true_eq,qf,kD,Bool.and_eq_false_iff,decide_eq_false_iff_not]at hc
  simp only[jA,decide_eq_true_eq]at h
  obtain⟨⟨⟨⟨⟨h1,h2⟩,h3⟩,h4⟩,h5⟩,h6⟩:=h
  exact⟨by omega,by omega,by omega,by omega,⟨h1,h2⟩,h3,EN h4,EN h5,EN h6⟩
theorem Bc(L:List Document):∀(l:List Document)(i:Nat)(m:List (Int×Int)),(ay.L1 (ay.K1 L) l i m).docs=L/\∀x,mhas (ay.L1 (ay.K1 L) l i m).at_ x=(mhas m x||l.any λd=>d.No==x)
 |[],i,m=>⟨rfl,λx=>by simp[ay.L1,ay.K1]⟩
 |y::l,i,m=>by
  obtain⟨h1,h2⟩:=Bc L l (i+1) (mput m y.No (i:Int))
  refine⟨h1,λx=>?_⟩
  show mhas (ay.L1 (ay.K1 L) l (i+1) (mput m y.No (i:Int))).at_ x=_
  rw[h2 x,List.any_cons]
  have:mhas (mput m y.No (i:Int)) x=(mhas m x||y.No==x):=by
   unfold mhas
   rw[lA]
   by_cases e:x=y.No
   .subst e;simp
   .rw[if_neg e]
    have:(y.No==x)=false:=by simp;exact λh=>e h.symm
    rw[this,Bool.or_false]
  rw[this,Bool.or_assoc]
theorem Dv(no:Int):∀(l:List Document)(i:Nat),0<=gR.L1 no gR.K1 l i->(l.any λd=>d.No==no)=true
 |[],i,h=>by simp[gR.L1,gR.K1]at h
 |y::l,i,h=>by
  simp only[gR.L1,Bool.cond_eq_ite]at h
  rw[List.any_cons]
  by_cases e:(y.No==no)=true
  .rw[e];rfl
  .rw[if_neg e]at h
   rw[Dv no l (i+1) h,Bool.or_true]
theorem Hj(L:List Document):∀nos:List Int,dA.L1 L dA.K1 nos=true->∀x∈nos,(L.any λd=>d.No==x)=true
 |[],_=>λ_ h=>(vA h).elim
 |y::nos,h=>by
  simp only[dA.L1,Bool.cond_eq_ite,decide_eq_true_eq]at h
  split at h
  .cases h
  .next hc=>
   intro x hx
   rcases jB.1 hx with rfl|hx
   .exact Dv x L 0 (by unfold gR at hc;omega)
   .exact Hj L nos h x hx
theorem Rt{L:List Document}{d:Document}(h1:dA L d.Revokes=true)(h2:dA L d.Needs=true):fd (ay L) d=true:=by
 have hs:=(Bc L L 0 []).2
 have key:∀nos,dA L nos=true->cI nos (λdE=>eO dE (ay L))=false:=by
  intro nos hn
  rw[containsF,List.any_eq_false]
  intro x hx
  unfold eO
  have:=Hj L nos hn x hx
  have e:mhas (ay L).at_ x=true:=by
   show mhas (ay.L1 (ay.K1 L) L 0 []).at_ x=true
   rw[hs x,this,Bool.or_true]
  rw[e];simp
 unfold fd
 rw[key _ h1,key _ h2];rfl
theorem GR{l:List Document}(h:fZ l=0):aT l=0:=by
 have L:∀(L l:List Document)(i:Nat),fZ.L1 L fZ.K1 l i=0->aT.L1 L aT.K1 l i=0:=by
  intro L l
  induction l with
  |nil=>intros;rfl
  |cons y l ih=>
   intro i h
   simp only[fZ.L1,Bool.cond_eq_ite]at h
   split at h
   .omega
   .next hc=>
    simp only[kC,not_or,kD,Bool.not_eq_false,Bool.not_eq_true]at hc
    obtain⟨⟨⟨c1,c2⟩,c3⟩,c4⟩:=hc
    simp only[aT.L1,(JL y).2 (JJ c1),c2,Rt c3 c4,Bool.not_true,Bool.or_false,cond_false]
    exact ih (i+1) h
 unfold fZ at h
 unfold aT
 rw[Bool.cond_eq_ite]at h ⊢
 split at h
 .omega
 .next hc=>rw[if_neg hc];exact L l l 0 h
theorem Kl(mode:Int)(l:List Version)(old:Bool):(judgesP mode l old).Sublist l:=by
 unfold judgesP jd iI jc
 cases mode==1<;>cases mode==2<;>cases old<;>simp[List.take_sublist,List.drop_sublist]
theorem Gl(begun at_:Int)(k:Bool->List Version->List Int×Int×Int):∀(l:List (Int×Version))b g,∃(pre:List (Int×Version))(b':Bool),pre.Sublist l/\bz.L1 begun at_ k l b g=k b' (g++pre.map (·.2))
 |[],b,g=>⟨[],b,List.Sublist.refl _,by simp[bz.L1]⟩
 |y::l,b,g=>by
  simp only[bz.L1]
  cases decide (at_<y.1)
  .obtain⟨pre,b',h1,h2⟩:=Gl begun at_ k l (b||(y.1==begun)) (g++[y.2])
   exact⟨y::pre,b',h1.cons_cons _,by rw[cond_false,h2];simp⟩
  .exact⟨[],b,List.nil_sublist _,by simp⟩
theorem Qz{l:List Version}(h:l.Pairwise (λa b=>a.No<b.No)){a b:Version}(ha:a∈l)(hb:b∈l)(e:a.No=b.No):a=b:=by
 induction l with
 |nil=>cases ha
 |cons x l ih=>
  obtain⟨h1,h2⟩:=List.pairwise_cons.1 h
  rcases jB.1 ha with ea|ha'<;>rcases jB.1 hb with eb|hb'
  .rw[ea,eb]
  .have:=h1 b hb';rw[ea]at e;omega
  .have:=h1 a ha';rw[eb]at e;omega
  .exact ih h2 ha' hb'
theorem nW(known fa:Int):∀(l:List Version)b m,(m.map (·.1)).Nodup->((inForceM known fa l b m).map (·.1)).Nodup
 |[],b,m,h=>h
 |y::l,b,m,h=>by
  simp only[inForceM,Bool.cond_eq_ite]
  split
  .exact nW known fa l _ _ h
  .split
   .split
    .exact nW known fa l _ _ h
    .exact nW known fa l _ _ (qi _ _ h)
   .exact nW known fa l _ _ (qi _ _ h)
theorem IC(l:List Version)(fa known:Int):(gi l fa known).Pairwise (λp q=>p.1<q.1):=by
 rw[AF,List.pairwise_map]
 exact Hk (na _) ((my _).nodup_iff.2 (nW known fa l (-1) [] List.nodup_nil))
theorem Kp{l:List Version}(g:H5 l)(fa known:Int):(gi l fa known).Pairwise (λp q=>p.2.No≠q.2.No):=by
 have hP:=Dp (l:=l) (fa:=fa) (known:=known) (λp=>((p.2.At<=fa/\p.1=fa)\/(fa<p.2.At/\p.1=p.2.At))/\p.2∈l) (λy hy h=>⟨.inl ⟨h,rfl⟩,hy⟩) (λy hy h=>⟨.inr ⟨h,rfl⟩,hy⟩)
 refine(IC l fa known).imp_of_mem λ{p q}hp hq hlt e=>?_
 have h1:=hP p hp
 have h2:=hP q hq
 have h3:=Qz g.inc h1.2 h2.2 e
 rw[h3]at h1
 omega
structure Jdg(l:List Version)(J:List Int×Int×Int):Prop where
 err:J.2.2=0
 rise:J.1.Pairwise (·<·)
 mem:∀x∈J.1,∃v∈l,v.No=x
 mode:J.1≠[]->1<=J.2.1/\J.2.1<=4
 mode2:J.2.1≠0->1<=J.2.1/\J.2.1<=4
theorem N2{l:List Version}(g:H5 l){begun at_:Int}(hb:0<=begun/\begun<1099511627776)(ht:0<=at_/\at_<1099511627776)(hk:0<=known/\known<1099511627776)(hle:begun<=at_):Jdg l (bz l begun at_ known):=by
 have h0:bG l=0:=(rJ l).2 g
 have h1:∀x:Int,0<=x/\x<1099511627776->hZ x=true:=λx hx=>by simp[hZ,hx]
 have h2:decide (at_<begun)=false:=by simp;omega
 unfold bz
 rw[h0,h1 _ hb,h1 _ ht,h1 _ hk,h2]
 simp only[bne_self_eq_false,cond_false,Bool.not_true,Bool.or_false]
 obtain⟨pre,b',hs,e⟩:=Gl begun at_ bz.K1 (gi l begun known) false []
 rw[e,kF]
 unfold bz.K1
 cases hc:(((pre.map (·.2)).length:Int)==0)with
 |true=>exact⟨rfl,List.Pairwise.nil,λx hx=>(vA hx).elim,λh=>absurd rfl h,λh=>absurd rfl h⟩
 |false=>
  simp only[cond_false,CW,bz.K2,kF]
  have hpre:pre.length≠0:=by simpa using hc
  have hsub:=Kl ((nthI (pre.map (·.2)) (((pre.map (·.2)).length:Int)-1)).Policy.Mode) (pre.map (·.2)) b'
  have hnd:(pre.map (·.2)).Pairwise (λa b=>a.No≠b.No):=by
   rw[List.pairwise_map]
   exact(Kp g begun known).sublist hs
  have hmode:1<=(nthI (pre.map (·.2)) (((pre.map (·.2)).length:Int)-1)).Policy.Mode/\(nthI (pre.map (·.2)) (((pre.map (·.2)).length:Int)-1)).Policy.Mode<=4:=by
   have hm:nthI (pre.map (·.2)) (((pre.map (·.2)).length:Int)-1)∈pre.map (·.2):=nt (by rw[List.length_map];omega)
   obtain⟨p,hp,hpe⟩:=zN.1 hm
   have:=g.mode (yo p (hs.subset hp))
   rw[hpe]at this
   exact this
  refine⟨rfl,Hk (na _) ((my _).nodup_iff.2 ?_),λx hx=>?_,λ_=>hmode,λ_=>hmode⟩
  .show List.Pairwise _ _
   rw[List.pairwise_map]
   exact hnd.sublist hsub
  .have hx2:=(my _).mem_iff.1 hx
   obtain⟨v,hv,rfl⟩:=zN.1 hx2
   obtain⟨p,hp,rfl⟩:=zN.1 (hsub.subset hv)
   exact⟨p.2,yo p (hs.subset hp),rfl⟩
theorem LX{mode:Int}(hm:1<=mode/\mode<=4){l:List Bool}(hl:l.length<=256):(ki mode l).2=0:=by
 have hc:lj mode l=0:=by
  have h1:mhas ml mode=true:=by
   have:mode=1\/mode=2\/mode=3\/mode=4:=by omega
   rcases this with rfl|rfl|rfl|rfl<;>rfl
  unfold lj
  rw[h1,show decide (256<(l.length:Int))=false from decide_eq_false (by omega)]
  rfl
 have k1:∀(k:List Int->List Int×Bool×Int),(∀g,(k g).2.2=0)->∀(s:List Bool)i g,(bE.L1 k s i g).2.2=0:=by
  intro k hk s
  induction s with
  |nil=>intro i g;exact hk g
  |cons y s ih=>intro i g;exact ih _ _
 have k2:∀(k:List Int->List Int×Bool×Int),(∀g,(k g).2.2=0)->∀(s:List Bool)i g,(bE.L2 k s i g).2.2=0:=by
  intro k hk s
  induction s with
  |nil=>intro i g;exact hk g
  |cons y s ih=>intro i g;exact ih _ _
 have k3:∀(k:List Int->List Int×Bool×Int),(∀g,(k g).2.2=0)->∀(s:List Bool)i g,(bE.L3 k s i g).2.2=0:=by
  intro k hk s
  induction s with
  |nil=>intro i g;exact hk g
  |cons y s ih=>intro i g;exact ih _ _
 show(bE mode l).2.2=0
 unfold bE
 rw[hc]
 simp only[bne_self_eq_false,cond_false,Bool.cond_eq_ite]
 repeat' split
 all_goals first
  |rfl
  |exact k1 _ (λ_=>rfl) _ _ _
  |exact k2 _ (λ_=>rfl) _ _ _
  |exact k3 _ (λ_=>rfl) _ _ _
theorem KW{l:List Appoint}(hc:df l=0){o t:Int}(ho:0<=o/\o<32)(ht:0<=t/\t<1099511627776)(hk:0<=known/\known<1099511627776):(fo l o t known).2=0:=by
 have h1:∀x:Int,0<=x/\x<1099511627776->di x=true:=λx hx=>by simp only[di,dI,jA,decide_eq_true_eq];omega
 have h2:eN o=true:=by simp only[eN,dI,jA,decide_eq_true_eq];omega
 unfold fo
 rw[hc,h1 t ht,h1 known hk,h2]
 rfl
theorem wK(k:Int->Int)(hk:∀g,k g=0):∀(l:List Int)(g:Int),(∀x∈l,g<x/\x<=1048576)->l.Pairwise (·<·)->cf.L1 k l g=0
 |[],g,_,_=>hk g
 |y::l,g,h,hp=>by
  have h1:=h y (zB ..)
  have e:(decide (y<=g)||decide (1048576<y))=false:=by simp;omega
  simp only[cf.L1,e,cond_false]
  exact wK k hk l y (λx hx=>⟨(List.pairwise_cons.1 hp).1 x hx,(h x (kA _ hx)).2⟩) (List.pairwise_cons.1 hp).2
theorem I0{l:List Interest}(hc:cm l=0){p t:Int}{ps:List Int}(hp:0<=p/\p<64)(hps:((∀x∈ps,0<=x/\x<1048577)/\ps.Pairwise (·<·))/\ps.length<=16)(ht:0<=t/\t<1099511627776)(hk:0<=known/\known<1099511627776):(eJ l p ps t known).2.2=0:=by
 have e:cf l p ps t known=0:=by
  unfold cf
  rw[hc]
  refine wK _ (λg=>?_) ps (-1) (λx hx=>by have:=hps.1.1 x hx;omega) hps.1.2
  unfold cf.K1
  have h1:aW p 64=true:=by simp[aW,hp]
  have h2:aW t 1099511627776=true:=by simp[aW,ht]
  have h3:aW known 1099511627776=true:=by simp[aW,hk]
  have h4:decide (16<(ps.length:Int))=false:=by simp;omega
  rw[h1,h2,h3,h4];rfl
 unfold eJ
 rw[e];rfl
theorem CH{β : Type}(F:(Expr->β)->Expr->β)(go:Nat->Expr->β)(h:∀m,go (m+1)=F (go m))(hF:∀f g x,(∀y∈x.L,f y=g y)->F f x=F g x)(x:Expr):go x.dep x=F (λy=>go y.dep y) x:=by
 have key:∀x:Expr,∀m,x.dep<=m->go m x=go x.dep x:=by
  refine λx=>Expr.ind (P:=λx=>∀m,x.dep<=m->go m x=go x.dep x) ?_ x
  intro x ih m hm
  have hp:=TC x
  obtain⟨m',rfl⟩:∃m',m=m'+1:=⟨m-1,by omega⟩
  obtain⟨n,hn⟩:∃n,x.dep=n+1:=⟨x.dep-1,by omega⟩
  rw[hn,h,h]
  refine hF _ _ _ λy hy=>?_
  have:=Sz hy
  rw[ih y hy m' (by omega),ih y hy n (by omega)]
 have hp:=TC x
 obtain⟨n,hn⟩:∃n,x.dep=n+1:=⟨x.dep-1,by omega⟩
 rw[hn,h]
 refine hF _ _ _ λy hy=>?_
 have:=Sz hy
 exact key y n (by omega)
theorem P5(x:Expr):bh x=bh.F bh x:=by
 refine CH bh.F bh.go (λm=>rfl) (λf g x h=>?_) x
 unfold bh.F
 have:∀(k:Int->Int)(l:List Expr)a,(∀y∈l,f y=g y)->bh.L1 f k l a=bh.L1 g k l a:=by
  intro k l
  induction l with
  |nil=>intros;rfl
  |cons y l ih=>intro a hl;simp only[bh.L1,hl y (zB ..)];exact ih _ λz hz=>hl z (kA _ hz)
 exact this _ _ _ h
theorem depthL(l:List Expr):∀(a:Int),a<=bh.L1 bh (λg=>g) l a/\(∀y∈l,bh y<=bh.L1 bh (λg=>g) l a)/\∀M:Int,a<=M->(∀y∈l,bh y<=M)->bh.L1 bh (λg=>g) l a<=M:=by
 induction l with
 |nil=>intro a;exact⟨Int.le_refl _,λ_ h=>(vA h).elim,λM h _=>h⟩
 |cons y l ih=>
  intro a
  obtain⟨i1,i2,i3⟩:=ih (max a (bh y))
  simp only[bh.L1]
  refine⟨by omega,λw hw=>?_,λM h1 h2=>i3 M (by have:=h2 y (zB ..);omega) λw hw=>h2 w (kA _ hw)⟩
  rcases jB.1 hw with rfl|hw
  .omega
  .exact i2 w hw
theorem depthK(l:List Expr):∀(a:Int),bh.L1 bh bh.K1 l a=IntKind.i64.wrap (bh.L1 bh (λg=>g) l a+1):=by
 induction l with
 |nil=>intro a;rfl
 |cons y l ih=>intro a;exact ih _
theorem KF(x:Expr):x.dep<=1500000->(1<=bh x/\bh x<=x.dep)/\bh x=bh.L1 bh (λg=>g) x.L 0+1:=by
 refine Expr.ind (P:=λx=>x.dep<=1500000->(1<=bh x/\bh x<=x.dep)/\bh x=bh.L1 bh (λg=>g) x.L 0+1) ?_ x
 intro x ih hx
 obtain⟨i1,i2,i3⟩:=depthL x.L 0
 have hp:=TC x
 have h3:=i3 ((x.dep:Int)-1) (by omega) λy hy=>by
  have h4:=Sz hy
  have:=(ih y hy (by omega)).1.2
  omega
 have e:bh x=bh.L1 bh (λg=>g) x.L 0+1:=by
  rw[P5]
  unfold bh.F
  rw[depthK,wrap64 (by omega)]
 exact⟨by omega,e⟩
theorem KE(x:Expr):x.dep<=1500000->∀(d D:Int),bh x<=D->∀z∈bp x d,z.depth<=d+D-1:=by
 refine Expr.ind (P:=λx=>x.dep<=1500000->∀(d D:Int),bh x<=D->∀z∈bp x d,z.depth<=d+D-1) ?_ x
 intro x ih hx d D hD z hz
 obtain⟨h1,h2⟩:=KF x hx
 rw[nT]at hz
 rcases jB.1 hz with rfl|hz
 .show d<=d+D-1;omega
 .obtain⟨y,hy,hz⟩:=List.mem_flatMap.1 hz
  have h4:=Sz hy
  have h5:=(depthL x.L 0).2.1 y hy
  have:=ih y hy (by omega) (d+1) (D-1) (by omega) z hz
  omega
theorem P2(x:Expr):dB x=dB.F dB x:=by
 refine CH dB.F dB.go (λm=>rfl) (λf g x h=>?_) x
 funext limit
 unfold dB.F
 have:∀(k:Int->Int)(l:List Expr)a,(∀y∈l,f y=g y)->dB.L1 f limit k l a=dB.L1 g limit k l a:=by
  intro k l
  induction l with
  |nil=>intros;rfl
  |cons y l ih=>
   intro a hl
   simp only[dB.L1,hl y (zB ..)]
   rw[ih _ λz hz=>hl z (kA _ hz)]
 exact this _ _ _ h
def cnt(x:Expr):Nat:=(bp x 1).length
theorem RR(x:Expr):∀d,(bp x d).length=cnt x:=by
 refine Expr.ind (P:=λx=>∀d,(bp x d).length=cnt x) ?_ x
 intro x ih d
 unfold cnt
 rw[nT,nT x 1,xA,xA,List.length_flatMap,List.length_flatMap]
 congr 2
 apply List.map_congr_left
 intro y hy
 rw[ih y hy,ih y hy]
theorem PV(x:Expr):cnt x=1+(x.L.map cnt).sum:=by
 conv=>lhs;unfold cnt
 rw[nT,xA,List.length_flatMap,Nat.add_comm]
 congr 2
 apply List.map_congr_left
 intro y hy
 exact RR y _
theorem H3(x:Expr):∀limit:Int,0<=limit->limit<=256->dB x limit=min (cnt x:Int) (limit+1):=by
 refine Expr.ind (P:=λx=>∀limit:Int,0<=limit->limit<=256->dB x limit=min (cnt x:Int) (limit+1)) ?_ x
 intro x ih limit h0 h1
 rw[P2,PV]
 unfold dB.F
 have key:∀(l:List Expr)(a:Int),(∀y∈l,y∈x.L)->1<=a->a<=limit+1->dB.L1 dB limit dB.K1 l a=min (a+((l.map cnt).sum:Nat)) (limit+1):=by
  intro l
  induction l with
  |nil=>intro a _ _ ha;simp only[dB.L1,dB.K1,List.map_nil,List.sum_nil];omega
  |cons y l ih2=>
   intro a hl h2 h3
   simp only[dB.L1,Bool.cond_eq_ite,decide_eq_true_eq,jJ,List.sum_cons]
   by_cases ha:a<=limit
   .rw[if_pos ha,wrap64 (z:=limit-a) (by omega),ih y (hl y (zB ..)) (limit-a) (by omega) (by omega)]
    have hc:1<=cnt y:=by rw[PV];omega
    rw[wrap64 (by omega),ih2 _ (λz hz=>hl z (kA _ hz)) (by omega) (by omega)]
    omega
   .rw[if_neg ha]
    simp only[dB.K1]
    omega
 rw[key x.L 1 (λy hy=>hy) (by omega) (by omega)]
 omega
theorem Kh{x:Expr}(hx:x.dep<=1500000)(h:km x=false):(bp x 1).length<=256/\∀z∈bp x 1,z.depth<=16:=by
 simp only[km,Bool.or_eq_false_iff,decide_eq_false_iff_not]at h
 have h1:=H3 x 256 (by decide) (by decide)
 have h2:=KE x hx 1 16 (by omega)
 refine⟨?_,λz hz=>by have:=h2 z hz;omega⟩
 show cnt x<=256
 omega
theorem C5(s:ByteArray):∀(m i:Nat)(r:List UInt8),s.size-i=m->(ByteArray.toList.loop s i r).length=r.length+m
 |0,i,r,h=>by rw[ByteArray.toList.loop];rw[if_neg (by omega)];simp
 |m+1,i,r,h=>by
  rw[ByteArray.toList.loop,if_pos (by omega),C5 s m (i+1) _ (by omega),xA]
  omega
theorem vt(s:ByteArray):s.toList.length=s.size:=by
 have:=C5 s s.size 0 [] (by omega)
 simpa[ByteArray.toList]using this
theorem QQ(c:Bool)(a b d:α):(bif c then(bif c then a else b)else d)=bif c then a else d:=by cases c<;>rfl
theorem RA(c x:Bool):(bif c then false else x)=(!c&&x):=by cases c<;>rfl
theorem Rz(c x:Bool):(bif c then true else x)=(c||x):=by cases c<;>simp
theorem HJ(s:ByteArray):dR s=(dO s&&!(oS s)):=by
 unfold dR oS
 simp only[QQ]
 simp only[RA,Rz,Bool.not_or,Bool.or_false]
 ac_rfl
theorem BW(c:Int):(kZ c != 2)=!(lQ c):=by
 unfold kZ lQ
 cases((decide (97<=c)&&decide (c<=122))||(decide (65<=c)&&decide (c<=90)))<;>cases(decide (48<=c)&&decide (c<=57))<;>cases(c==95)<;>cases((((c==32)||(c==9))||(c==10))||(c==13))<;>cases(decide (0<=(strings_IndexByte (⟨#[123,125,40,41,59,44,61,58,46,60,62,33,43,45,42,47]⟩:ByteArray) c)))<;>rfl
theorem LS(c:Int):(((kZ c != 2)&&(kZ c != 3))&&(kZ c != 5))=!(tb c):=by
 unfold kZ tb lQ og
 cases((decide (97<=c)&&decide (c<=122))||(decide (65<=c)&&decide (c<=90)))<;>cases(decide (48<=c)&&decide (c<=57))<;>cases(c==95)<;>cases((((c==32)||(c==9))||(c==10))||(c==13))<;>cases(decide (0<=(strings_IndexByte (⟨#[123,125,40,41,59,44,61,58,46,60,62,33,43,45,42,47]⟩:ByteArray) c)))<;>rfl
theorem Iy(s:ByteArray):∀(l:List Nat)(i:Nat),dO.L1 s dO.K1 l i=gS.L1 s gS.K1 l i
 |[],i=>rfl
 |y::l,i=>by simp only[dO.L1,gS.L1,LS,Iy s l]
theorem MH(h:gS s=true):dO s=true:=by
 unfold gS at h
 unfold dO
 rw[BW,Iy]
 rw[Bool.cond_eq_ite]at h ⊢
 split at h
 .cases h
 .next hc=>
  simp only[kC,not_or,decide_eq_true_eq]at hc
  obtain⟨⟨h1,h2⟩,h3⟩:=hc
  have e:(s.toList==(⟨#[]⟩:ByteArray).toList)=false:=by
   rw[Bool.eq_false_iff]
   intro he
   have he:=eq_of_beq he
   have h9:=vt s
   rw[he,vt]at h9
   have:(⟨#[]⟩:ByteArray).size=0:=rfl
   omega
  rw[e,if_neg]
  .exact h
  .simp only[Bool.false_or,kC,not_or,decide_eq_true_eq]
   exact⟨h2,h3⟩
theorem MQ(h:nS s=true):dR s=true:=by
 simp only[nS,jA]at h
 rw[HJ,MH h.1,h.2];rfl
theorem Hr(s:ByteArray):∀(l:List ByteArray)(i:Nat),eD.L1 s eD.K1 l i=aP.L1 s aP.K1 l i
 |[],i=>rfl
 |y::l,i=>by
  have:(y.toList==s.toList)=(s.toList==y.toList):=by rw[jK,beq_iff_eq,beq_iff_eq];exact eq_comm
  simp only[eD.L1,aP.L1,this,Hr s l]
theorem rindex(l:List ByteArray)(s:ByteArray):eD l s=aP l s:=Hr s l 0
theorem Dx{l:List ByteArray}(h:eR l=true):bF l dR=true:=by
 have key:∀(L l:List ByteArray)(i:Nat),eR.L1 L eR.K1 l i=true->bF.L1 L dR bF.K1 l i=true:=by
  intro L l
  induction l with
  |nil=>intros;rfl
  |cons y l ih=>
   intro i h
   simp only[eR.L1,Bool.cond_eq_ite]at h
   split at h
   .cases h
   .next hc=>
    simp only[kC,not_or,kD,Bool.not_eq_false,Bool.not_eq_true]at hc
    simp only[bF.L1,MQ hc.1,←rindex,hc.2,Bool.not_true,Bool.or_self,cond_false]
    exact ih _ h
 exact key l l 0 h
theorem uk(off:List ByteArray){f g:List ByteArray->Expr->Bool}(k:Bool):∀(l:List Expr),(∀y∈l,f off y=g off y)->bM.L1 f off k l=bM.L1 g off k l
 |[],_=>rfl
 |y::l,h=>by simp only[bM.L1,h y (zB ..),uk off k l λz hz=>h z (kA _ hz)]
theorem J6(off:List ByteArray)(x:Expr):bM off x=bM.F bM off x:=by
 have:=CH (λf x=>bM.F (λ_ y=>f y) off x) (λm x=>bM.go m off x) (λm=>?_) (λf g x h=>?_) x
 .refine Eq.trans this ?_
  show bM.F _ off x=_
  unfold bM.F
  rw[uk off (f:=λ_ y=>bM.go y.dep off y) (g:=bM) _ x.L λy hy=>rfl]
 .funext x
  show bM.F (bM.go m) off x=bM.F _ off x
  unfold bM.F
  rw[uk off (f:=bM.go m) (g:=λ_ y=>bM.go m off y) _ x.L λy hy=>rfl]
 .show bM.F _ off x=bM.F _ off x
  unfold bM.F
  rw[uk off (f:=λ_ y=>f y) (g:=λ_ y=>g y) _ x.L h]
theorem HB(off:List ByteArray):∀(l:List Expr),bM.L1 bM off bM.K1 l=true->∀y∈l,bM off y=true
 |[],_=>λ_ h=>(vA h).elim
 |y::l,h=>by
  simp only[bM.L1,Bool.cond_eq_ite]at h
  split at h
  .cases h
  .next hc=>
   intro z hz
   rcases jB.1 hz with rfl|hz
   .simpa using hc
   .exact HB off l h z hz
theorem J5(off:List ByteArray)(x:Expr):bM off x=true->∀d,∀z∈bp x d,((!(dw z.x))||dl off z.x.Name)=true:=by
 refine Expr.ind (P:=λx=>bM off x=true->∀d,∀z∈bp x d,((!(dw z.x))||dl off z.x.Name)=true) ?_ x
 intro x ih h d z hz
 rw[J6]at h
 unfold bM.F at h
 rw[Bool.cond_eq_ite]at h
 split at h
 .cases h
 .next hc=>
  rw[nT]at hz
  rcases jB.1 hz with rfl|hz
  .show((!(dw x))||dl off x.Name)=true
   unfold dl dw
   rw[rindex]at hc
   by_cases h2:aP off x.Name<0
   .have:decide (aP off x.Name<0)=true:=by simpa using h2
    rw[this,Bool.and_true]at hc
    simp only[Bool.not_eq_true]at hc
    rw[hc];rfl
   .have:decide (0<=aP off x.Name)=true:=by simp;omega
    rw[this,Bool.or_true]
  .obtain⟨y,hy,hz⟩:=List.mem_flatMap.1 hz
   exact ih y hy (HB off x.L h y hy) (d+1) z hz
theorem sy(u:Bool){f g:Expr->Bool->Bool}(k:Bool):∀(l:List Expr),(∀y∈l,f y u=g y u)->aE.L1 f u k l=aE.L1 g u k l
 |[],_=>rfl
 |y::l,h=>by simp only[aE.L1,h y (zB ..),sy u k l λz hz=>h z (kA _ hz)]
theorem HL(x:Expr)(u:Bool):aE x u=aE.F aE x u:=by
 have:=CH (λf x=>aE.F (λy _=>f y) x u) (λm x=>aE.go m x u) (λm=>?_) (λf g x h=>?_) x
 .refine Eq.trans this ?_
  show aE.F _ x u=_
  unfold aE.F
  rw[sy u (f:=λy _=>aE.go y.dep y u) (g:=aE) _ x.L λy hy=>rfl]
 .funext x
  show aE.F (aE.go m) x u=aE.F _ x u
  unfold aE.F
  rw[sy u (f:=aE.go m) (g:=λy _=>aE.go m y u) _ x.L λy hy=>rfl]
 .show aE.F _ x u=aE.F _ x u
  unfold aE.F
  rw[sy u (f:=λy _=>f y) (g:=λy _=>g y) _ x.L h]
theorem FT(u k:Bool):∀(l:List Expr),aE.L1 aE u k l=true->(∀y∈l,aE y u=true)/\k=true
 |[],h=>⟨λ_ h=>(vA h).elim,h⟩
 |y::l,h=>by
  simp only[aE.L1,Bool.cond_eq_ite]at h
  split at h
  .cases h
  .next hc=>
   obtain⟨h1,h2⟩:=FT u k l h
   refine⟨λz hz=>?_,h2⟩
   rcases jB.1 hz with rfl|hz
   .simpa using hc
   .exact h1 z hz
theorem NO{x:Expr}{u:Bool}(h:aE.K1 x u=true):(aM x.Kind 1 4&&kindsP x.Kind x)=true/\(u=false->x.Kind≠4):=by
 unfold aE.K1 at h
 simp only[Bool.cond_eq_ite,beq_iff_eq]at h
 split at h
 .next e=>
  rw[e]
  refine⟨?_,λ_=>by decide⟩
  show(_&&kY x)=true
  unfold kY
  rw[h];rfl
 .split at h
  .next e=>
   rw[e]
   refine⟨?_,λ_=>by decide⟩
   show(_&&kX x)=true
   unfold kX aM
   rw[h];rfl
  .split at h
   .next e=>
    rw[e]
    refine⟨?_,λ_=>by decide⟩
    show(_&&kW x)=true
    unfold kW aM
    simp only[jA]at h ⊢
    exact⟨⟨rfl,rfl⟩,⟨h.1.1.1.1,h.1.1.1.2,h.1.1.2⟩,h.1.2,h.2⟩
   .split at h
    .next e=>
     rw[e]
     simp only[jA]at h
     refine⟨?_,λhu=>by rw[hu]at h;simp at h⟩
     show(_&&jU x)=true
     unfold jU aM
     simp only[jA]
     exact⟨⟨rfl,rfl⟩,⟨h.1.1.1.2,h.1.1.2⟩,h.1.2,h.2⟩
    .cases h
theorem HK(u:Bool)(x:Expr):aE x u=true->∀d,∀z∈bp x d,(aM z.x.Kind 1 4&&kindsP z.x.Kind z.x)=true/\(u=false->z.x.Kind≠4):=by
 refine Expr.ind (P:=λx=>aE x u=true->∀d,∀z∈bp x d,(aM z.x.Kind 1 4&&kindsP z.x.Kind z.x)=true/\(u=false->z.x.Kind≠4)) ?_ x
 intro x ih h d z hz
 rw[HL]at h
 obtain⟨h1,h2⟩:=FT u _ x.L h
 rw[nT]at hz
 rcases jB.1 hz with rfl|hz
 .exact NO h2
 .obtain⟨y,hy,hz⟩:=List.mem_flatMap.1 hz
  exact ih y hy (h1 y hy) (d+1) z hz
theorem rl1(rec:List ByteArray->Expr->Expr)(off:List ByteArray)(k:List Expr->Expr):∀(l g:List Expr),ah.L1 rec off k l g=k (g++l.map (rec off))
 |[],g=>by simp[ah.L1]
 |y::l,g=>by simp[ah.L1,rl1 rec off k l]
theorem rl2(rec:List ByteArray->Expr->Expr)(off:List ByteArray)(k:List Expr->Expr):∀(l g:List Expr),ah.L2 rec off k l g=k (g++l.map (rec off))
 |[],g=>by simp[ah.L2]
 |y::l,g=>by simp[ah.L2,rl2 rec off k l]
def rno(off:List ByteArray)(x:Expr):Int:=bif dw x then aP off x.Name else 0
theorem Lm(rec:List ByteArray->Expr->Expr)(off:List ByteArray)(x:Expr):ah.F rec off x=qH x.Kind x.N (rno off x) x.Name (x.L.map (rec off)):=by
 unfold ah.F rno dw
 cases((x.Kind==1)||(x.Kind==2))
 .rw[cond_false,rl2];rfl
 .rw[cond_true,rl1];unfold ah.K1;rw[rindex];rfl
theorem Db(off:List ByteArray)(x:Expr):ah off x=qH x.Kind x.N (rno off x) x.Name (x.L.map (ah off)):=by
 have:=CH (λf x=>qH x.Kind x.N (rno off x) x.Name (x.L.map f)) (λm x=>ah.go m off x) (λm=>?_) (λf g x h=>?_) x
 .exact this
 .funext x
  show ah.F (ah.go m) off x=_
  rw[Lm]
 .show qH _ _ _ _ _=qH _ _ _ _ _
  rw[List.map_congr_left h]
theorem EG(b:Expr){f g:Expr->Expr->Bool}(k:Bool):∀(l:List Expr)(i:Nat),(∀y∈l,f y=g y)->bo.L1 f b k l i=bo.L1 g b k l i
 |[],_,_=>rfl
 |y::l,i,h=>by simp only[bo.L1,h y (zB ..),EG b k l (i+1) λz hz=>h z (kA _ hz)]
theorem Mt(x:Expr):bo x=bo.F bo x:=by
 refine CH bo.F bo.go (λm=>rfl) (λf g x h=>?_) x
 funext b
 unfold bo.F
 rw[EG b _ x.L 0 h]
theorem Mu(b:Expr):∀(l:List Expr)(i:Nat),bo.L1 bo b bo.K1 l i=true->∀(j:Nat)(y:Expr),l[j]? = some y->bo y (nthI b.L ((i+j:Nat):Int))=true
 |[],_,_,j,y,hj=>by simp at hj
 |z::l,i,h,j,y,hj=>by
  simp only[bo.L1,Bool.cond_eq_ite]at h
  split at h
  .cases h
  .next hc=>
   cases j with
   |zero=>simp at hj;subst hj;simpa using hc
   |succ j=>have:=Mu b l (i+1) h j y (by simpa using hj);rw[show i+(j+1)=i+1+j from by omega];exact this
theorem Qi(off:List ByteArray)(x:Expr):bo (ah off x) x=true->∀d,∀z∈bp x d,z.x.No=rno off z.x:=by
 refine Expr.ind (P:=λx=>bo (ah off x) x=true->∀d,∀z∈bp x d,z.x.No=rno off z.x) ?_ x
 intro x ih h d z hz
 rw[Mt,Db]at h
 unfold bo.F at h
 rw[Bool.cond_eq_ite]at h
 split at h
 .cases h
 .next hc=>
  simp only[kC,not_or,bne_iff_ne,ne_eq,Classical.not_not]at hc
  have hno:rno off x=x.No:=hc.1.1.2
  rw[nT]at hz
  rcases jB.1 hz with rfl|hz
  .exact hno.symm
  .obtain⟨y,hy,hz⟩:=List.mem_flatMap.1 hz
   obtain⟨j,hj⟩:=TJ hy
   have h2:=Mu x _ 0 h j (ah off y) (by show(List.map (ah off) x.L)[j]? = _;rw[Sv,hj];rfl)
   have hlt:=(List.getElem?_eq_some_iff.1 hj).1
   have hg:=de (xs:=x.L) (z:=((0+j:Nat):Int)) (by omega)
   rw[show(((0+j:Nat):Int)).toNat=j from by omega,hj]at hg
   rw[←qV hg]at h2
   exact ih y hy h2 (d+1) z hz
theorem Da{off:List ByteArray}{x:Expr}(h:bo (ah off x) x=true):bO off x=true:=by
 unfold bO bO.K1
 rw[rk]
 exact Qi off x h 1
def rrules(off:List ByteArray):List Rule->Nat->List Rule
 |[],_=>[]
 |y::l,i=>TE y.Kind (i:Int) y.Think (ah off y.Expr)::rrules off l (i+1)
theorem EM(off:List ByteArray):∀(l:List Rule)(i j:Nat)(y:Rule),l[j]? = some y->(rrules off l i)[j]? = some (TE y.Kind ((i+j:Nat):Int) y.Think (ah off y.Expr))
 |[],_,j,y,h=>by simp at h
 |z::l,i,0,y,h=>by simp at h;subst h;rfl
 |z::l,i,j+1,y,h=>by
  have:=EM off l (i+1) j y (by simpa using h)
  rw[show i+(j+1)=i+1+j from by omega]
  exact this
theorem AO(p:Policy):∀(l:List Rule)(i:Nat)(g:List Rule),dV.L1 p (dV.K1 p) l i g=(zP p.Name p.Kinds p.Offices (g++rrules p.Offices l i) (ah p.Offices p.Change) p.Mode,0)
 |[],i,g=>by
  simp only[dV.L1,dV.K1,rrules,List.append_nil,Expr.eta]
 |y::l,i,g=>by
  simp only[dV.L1,AO p l,rrules,Expr.eta,List.append_assoc,List.singleton_append]
theorem M6(b:Policy):∀(l:List Rule)(i:Nat),iy.L1 b iy.K1 l i=true->∀(j:Nat)(y:Rule),l[j]? = some y->y.KindNo=(nthI b.Rules ((i+j:Nat):Int)).KindNo/\bo y.Expr (nthI b.Rules ((i+j:Nat):Int)).Expr=true
 |[],_,_,j,y,hj=>by simp at hj
 |z::l,i,h,j,y,hj=>by
  simp only[iy.L1,Bool.cond_eq_ite]at h
  split at h
  .cases h
  .next hc=>
   simp only[kC,not_or,bne_iff_ne,ne_eq,Classical.not_not,kD,Bool.not_eq_false]at hc
   cases j with
   |zero=>simp at hj;subst hj;exact⟨hc.1.1.2,hc.2⟩
   |succ j=>have:=M6 b l (i+1) h j y (by simpa using hj);rw[show i+(j+1)=i+1+j from by omega];exact this
theorem HA(p:Policy)(k:Bool):∀(l:List Rule),hO.L1 p k l=true->(∀r∈l,bM p.Offices r.Expr=true)/\k=true
 |[],h=>⟨λ_ h=>(vA h).elim,h⟩
 |y::l,h=>by
  simp only[hO.L1,Bool.cond_eq_ite]at h
  split at h
  .cases h
  .next hc=>
   obtain⟨h1,h2⟩:=HA p k l h
   refine⟨λz hz=>?_,h2⟩
   rcases jB.1 hz with rfl|hz
   .simpa using hc
   .exact h1 z hz
theorem Ki(k:Bool):∀(l:List Rule),fw.L1 k l=false->∀r∈l,km r.Expr=false
 |[],_=>λ_ h=>(vA h).elim
 |y::l,h=>by
  simp only[fw.L1,Bool.cond_eq_ite]at h
  split at h
  .cases h
  .next hc=>
   intro z hz
   rcases jB.1 hz with rfl|hz
   .simpa using hc
   .exact Ki k l h z hz
theorem FU(p:Policy)(k:Bool):∀(l:List Rule)(i:Nat),gd.L1 p k l i=true->(∀(j:Nat)r,l[j]? = some r->((r.Kind.toList==(nthI p.Kinds (((i+j:Nat):Int))).toList)=true/\0<=r.Think/\r.Think<1099511627776)/\aE r.Expr true=true)/\k=true
 |[],i,h=>⟨λj r hj=>by simp at hj,h⟩
 |y::l,i,h=>by
  simp only[gd.L1,Bool.cond_eq_ite]at h
  split at h
  .cases h
  .next hc=>
   simp only[kC,not_or,decide_eq_true_eq,kD,Bool.not_eq_false]at hc
   obtain⟨h1,h2⟩:=FU p k l (i+1) h
   refine⟨λj r hj=>?_,h2⟩
   cases j with
   |zero=>simp at hj;subst hj;exact⟨⟨hc.1.1.1,by omega,by omega⟩,hc.2⟩
   |succ j=>have:=h1 j r (by simpa using hj);rw[show i+(j+1)=i+1+j from by omega];exact this
theorem PX{p:Policy}(hs:smP p)(h:gz p=0):dh p=0:=by
 unfold gz at h
 rw[Bool.cond_eq_ite]at h
 split at h
 .next hc=>exact absurd h (by simpa using hc)
 .next hR=>
  rw[Bool.cond_eq_ite]at h
  split at h
  .omega
  .next hS=>
   simp only[kD,Bool.not_eq_false]at hS
   unfold dV at hR hS
   cases hl:fw p with
   |true=>rw[hl]at hR;simp at hR
   |false=>
    rw[hl]at hR hS
    cases hn:hO p with
    |false=>rw[hn]at hR;simp at hR
    |true=>
     rw[hn]at hR hS
     cases hf:gd p with
     |false=>rw[hf]at hR;simp at hR
     |true=>
      rw[hf]at hS
      simp only[Bool.not_true,cond_false,AO,kF]at hS
      clear hR h
      unfold fw at hl
      rw[Bool.cond_eq_ite]at hl
      split at hl
      .cases hl
      .next h1=>
       simp only[kC,not_or,decide_eq_true_eq,Bool.not_eq_true]at h1
       have h2:=Ki _ _ hl
       unfold hO at hn
       rw[Bool.cond_eq_ite]at hn
       split at hn
       .cases hn
       .next h3=>
        simp only[kC,not_or,kD,Bool.not_eq_false]at h3
        obtain⟨h4,h5⟩:=HA p _ _ hn
        unfold gd at hf
        rw[Bool.cond_eq_ite]at hf
        split at hf
        .cases hf
        .next h6=>
         simp only[kC,not_or,decide_eq_true_eq,bne_iff_ne,ne_eq,Classical.not_not]at h6
         obtain⟨h7,h8⟩:=FU p _ _ 0 hf
         unfold iy at hS
         rw[Bool.cond_eq_ite]at hS
         split at hS
         .cases hS
         .next h9=>
          simp only[kC,not_or,kD,Bool.not_eq_false]at h9
          have h10:=M6 p _ 0 hS
          have hexp:∀x,x∈aw p->(∃r∈p.Rules,r.Expr=x)\/x=p.Change:=by
           intro x hx
           rw[nz]at hx
           simp only[jE,zN,qC]at hx
           exact hx
          rw[BX,tU,Ba,Fh]
          refine⟨⟨⟨⟨by omega,by omega,by omega⟩,λx hx=>?_⟩,⟨⟨MQ h3.1.1,Dx h3.1.2,Dx h3.2⟩,λx hx=>?_⟩,?_⟩,λj r hj=>?_,Da h9.2⟩
          .rcases hexp x hx with⟨r,hr,rfl⟩|rfl
           .exact Kh (hs.2.1 r hr) (h2 r hr)
           .exact Kh hs.2.2.1 h1.2
          .rcases hexp x hx with⟨r,hr,rfl⟩|rfl
           .exact J5 p.Offices _ (h4 r hr) 1
           .exact J5 p.Offices _ h5 1
          .unfold bq bq.K1 bq.K2
           rw[qz,BL,Ee]
           refine⟨?_,λj r hj=>?_,λj x hj z hz=>?_⟩
           .simp only[jA,decide_eq_true_eq,beq_iff_eq,aM]
            exact⟨⟨by omega,h6.1.1.2⟩,by omega,by omega⟩
           .have:=(h7 j r hj).1
            simp only[jA,decide_eq_true_eq,aM]
            exact⟨this.1,this.2.1,by omega⟩
           .have hlen:(aw p).length=p.Rules.length+1:=by rw[nz];simp
            rw[nz]at hj
            rcases Nat.lt_or_ge j p.Rules.length with hjl|hjl
            .rw[List.getElem?_append_left (by simpa using hjl),Sv]at hj
             obtain⟨r,hr,rfl⟩:=Option.map_eq_some_iff.1 hj
             refine⟨(HK true _ (h7 j r hr).2 1 z hz).1,?_⟩
             rw[hlen,wrap64 (by omega)]
             have:decide (((0+j:Nat):Int)<((p.Rules.length+1:Nat):Int)-1)=true:=by rw[decide_eq_true_eq];omega
             rw[this];rfl
            .rw[List.getElem?_append_right (by simpa using hjl)]at hj
             have hj2:=qC.1 (List.mem_of_getElem? hj)
             subst hj2
             obtain⟨k1,k2⟩:=HK false _ h8 1 z hz
             refine⟨k1,?_⟩
             have:(z.x.Kind != 4)=true:=by simpa using k2 rfl
             rw[this,Bool.or_true]
          .have h11:=h10 j _ (EM p.Offices p.Rules 0 j r hj)
           have hlt:=(List.getElem?_eq_some_iff.1 hj).1
           have hg:=de (xs:=p.Rules) (z:=((0+j:Nat):Int)) (by omega)
           rw[show(((0+j:Nat):Int)).toNat=j from by omega,hj]at hg
           rw[←qV hg]at h11
           dsimp only at h11
           exact⟨by rw[←h11.1];simp,Da h11.2⟩
def P3(v:Version):Prop:=(0<=v.No/\v.No<=1048576)/\(0<=v.At/\v.At<1099511627776)/\(0<=v.Known/\v.Known<1099511627776)/\gz v.Policy=0
theorem M0{L:List Version}{y:Version}{l:List Version}{i:Nat}(h:dP.L1 L dP.K1 (y::l) i=0):P3 y/\(0<i->(nthI L ((i:Int)-1)).No<y.No)/\dP.L1 L dP.K1 l (i+1)=0:=by
 simp only[dP.L1,Bool.cond_eq_ite]at h
 split at h
 .omega
 .next hc=>
  simp only[kC,not_or,decide_eq_true_eq,jA,kD,Bool.not_eq_false,bne_iff_ne,ne_eq,Classical.not_not,fN]at hc
  obtain⟨⟨⟨⟨h1,h2⟩,h3⟩,h4⟩,h5⟩:=hc
  exact⟨⟨by omega,h3,h4,h5⟩,λhi=>by omega,h⟩
theorem M1(L:List Version):∀(l pre:List Version)(x:Version),L=(pre++[x])++l->dP.L1 L dP.K1 l (pre.length+1)=0->(∀y∈l,P3 y)/\(x::l).Pairwise (λa b=>a.No<b.No)
 |[],_,_,_,_=>⟨λ_ h=>(vA h).elim,by simp⟩
 |y::l,pre,x,h,hr=>by
  have hx:nthI L (((pre.length+1:Nat):Int)-1)=x:=by
   have hb:0<=(((pre.length+1:Nat):Int)-1)/\(((pre.length+1:Nat):Int)-1)<(L.length:Int):=by rw[h];simp;omega
   have hg:=de hb
   rw[show((((pre.length+1:Nat):Int)-1)).toNat=pre.length from by omega,h]at hg
   rw[h];simpa using hg.symm
  obtain⟨h1,h2,h3⟩:=M0 hr
  have h2:=h2 (by omega)
  rw[hx]at h2
  have ih:=M1 L l (pre++[x]) y (by rw[h];simp)
  rw[xB,xA,jC,Nat.zero_add]at ih
  obtain⟨i1,i2⟩:=ih h3
  refine⟨λz hz=>?_,List.pairwise_cons.2 ⟨λz hz=>?_,i2⟩⟩
  .rcases jB.1 hz with rfl|hz
   .exact h1
   .exact i1 z hz
  .rcases jB.1 hz with rfl|hz
   .exact h2
   .have:=(List.pairwise_cons.1 i2).1 z hz;omega
theorem KO{l:List Version}(hs:smV l)(h:dP l=0):bG l=0:=by
 rw[rJ]
 unfold dP at h
 rw[Bool.cond_eq_ite]at h
 split at h
 .omega
 .next hl=>
  simp only[decide_eq_true_eq]at hl
  have key:(∀y∈l,P3 y)/\l.Pairwise (λa b=>a.No<b.No):=by
   cases l with
   |nil=>exact⟨λ_ h=>(vA h).elim,List.Pairwise.nil⟩
   |cons y l=>
    obtain⟨h1,_,h3⟩:=M0 h
    obtain⟨i1,i2⟩:=M1 (y::l) l [] y rfl h3
    refine⟨λz hz=>?_,i2⟩
    rcases jB.1 hz with rfl|hz
    .exact h1
    .exact i1 z hz
  refine⟨by omega,λv hv=>?_,key.2⟩
  have:=key.1 v hv
  obtain⟨h1,h2,h3,h4⟩:=this
  exact⟨by omega,by omega,h1,PX (hs.2 v hv) h4⟩
theorem sG{α : Type}{R:α->Bool}{no:α->Int}{c:Int}(hc:c≠0):∀(l:List α)(g:Int),prgChk R no c l g=0↔(∀y∈l,R y=true/\g<no y)/\l.Pairwise (λa b=>no a<no b)
 |[],g=>by simp[prgChk]
 |y::l,g=>by
  have ih:=sG hc l (no y) (R:=R) (no:=no)
  simp only[prgChk,Bool.cond_eq_ite,kC,kD,decide_eq_true_eq]
  split
  .next h=>simp only[hc,false_iff];rintro⟨h1,_⟩;have:=h1 y (zB ..);rcases h with h|h<;>simp_all;omega
  .next h=>
   rw[ih]
   simp only[not_or,Bool.not_eq_false,Int.not_le]at h
   constructor
   .rintro⟨h1,h2⟩
    refine⟨λz hz=>?_,List.pairwise_cons.2 ⟨λz hz=>(h1 z hz).2,h2⟩⟩
    rcases jB.1 hz with rfl|hz
    .exact h
    .have:=h1 z hz;exact⟨this.1,by omega⟩
   .rintro⟨h1,h2⟩
    obtain⟨p1,p2⟩:=List.pairwise_cons.1 h2
    exact⟨λz hz=>⟨(h1 z (kA _ hz)).1,p1 z hz⟩,p2⟩
theorem interestsP(l:List Interest)(g:Int):cm.L1 cm.K1 l g=prgChk mn (·.No) 290 l g:=by
 induction l generalizing g with
 |nil=>rfl
 |cons y l ih=>simp only[cm.L1,prgChk,ih]
def stMap(t known:Int):List Interest->List (cS×Interest)->List (cS×Interest)
 |[],m=>m
 |y::l,m=>bif(decide (t<y.At)||decide (known<y.Known))then stMap t known l m else bif((!(mhas m (cS.mk y.Person y.Party y.Of)))||decide ((mgetD m (cS.mk y.Person y.Party y.Of) (qW 0 0 0 0 0 false false)).At<=y.At))then stMap t known l (mput m (cS.mk y.Person y.Party y.Of) y)else stMap t known l m
theorem C6(t known:Int)(k:List (cS×Interest)->List Interest):∀(l:List Interest)m,ce.L1 t known k l m=k (stMap t known l m)
 |[],m=>rfl
 |y::l,m=>by
  simp only[ce.L1,stMap,C6 t known k l]
  cases(decide (t<y.At)||decide (known<y.Known))<;>cases((!(mhas m (cS.mk y.Person y.Party y.Of)))||decide ((mgetD m (cS.mk y.Person y.Party y.Of) (qW 0 0 0 0 0 false false)).At<=y.At))<;>rfl
theorem uO(v:List (cS×Interest)):∀l:List Interest,bA.L1 v [] l=l.filter λy=>(!y.Gone)&&decide (mgetD v (cS.mk y.Person y.Party y.Of) (qW 0 0 0 0 0 false false)=y)
 |[]=>rfl
 |y::l=>by
  simp only[bA.L1,List.filter_cons,uO v l]
  cases((!y.Gone)&&decide (mgetD v (cS.mk y.Person y.Party y.Of) (qW 0 0 0 0 0 false false)=y))<;>rfl
theorem mI(h:e=0):exOk (mB e):=by subst h;trivial
structure i5(c:bK):Prop where
 chk:dC c.Register=0
 doc:c.doc∈c.Register.Docs
 time:0<=c.at_/\c.at_<1099511627776
 know:0<=c.known/\c.known<1099511627776
theorem i5.good{c:bK}(h:i5 c):Nb c.doc:=HQ ((mb _).1 h.chk).2.2.2.2.2.1 _ h.doc
theorem i5.vers{c:bK}(h:i5 c):H5 c.Register.Versions:=(rJ _).1 ((mb _).1 h.chk).2.2.2.2.1
theorem i5.kind{c:bK}(h:i5 c):0<=c.doc.Kind/\c.doc.Kind<16:=h.good.kind
theorem approvalsP(l:List Approval)(g:Int):bJ.L1 bJ.K1 l g=prgChk ju (·.No) 280 l g:=by
 induction l generalizing g with
 |nil=>rfl
 |cons y l ih=>simp only[bJ.L1,prgChk,ih]
theorem oZ{l:List Approval}(h:bJ l=0):∀x∈l,ju x=true:=by
 unfold bJ at h
 rw[approvalsP]at h
 cases hd:decide (4096<(l.length:Int))with
 |true=>rw[hd]at h;simp at h
 |false=>rw[hd,cond_false,sG (by decide)]at h;exact λx hx=>(h.1 x hx).1
theorem yE(h:ju x=true):(0<=x.Doc/\x.Doc<4096)/\(0<=x.By/\x.By<64)/\(0<=x.For/\x.For<64)/\(0<=x.Office/\x.Office<32)/\(0<=x.At/\x.At<1099511627776):=by
 simp only[ju,cJ,containsF,gv,List.any_cons,List.any_nil,Bool.or_false,jA,kD,Bool.or_eq_false_iff,decide_eq_false_iff_not]at h
 omega
theorem budgetsP(l:List Budget)(g:Int):cG.L1 cG.K1 l g=prgChk li (·.No) 180 l g:=by
 induction l generalizing g with
 |nil=>rfl
 |cons y l ih=>simp only[cG.L1,prgChk,ih]
theorem CU{l:List Budget}(h:cG l=0):∀x∈l,li x=true:=by
 unfold cG at h
 rw[budgetsP]at h
 cases hd:decide (4096<(l.length:Int))with
 |true=>rw[hd]at h;simp at h
 |false=>rw[hd,cond_false,sG (by decide)]at h;exact λx hx=>(h.1 x hx).1
theorem GV{x:Budget}(h:li x=true):x.Period≠0:=by
 simp only[li,aQ,containsF,iN,List.any_cons,List.any_nil,Bool.or_false,Bool.cond_eq_ite]at h
 split at h<;>simp only[jA,kD,Bool.or_eq_false_iff,decide_eq_false_iff_not]at h<;>omega
theorem GW{l:List Budget}{kind t:Int}{x:Budget}(h:x∈bQ l kind t known):x∈l:=by
 have h2:∀(g:List (gO×Budget))(s acc:List Budget),x∈bQ.L2 g bQ.K2 s acc->x∈acc\/x∈s:=by
  intro g s
  induction s with
  |nil=>intro acc h;exact .inl h
  |cons y s ih=>
   intro acc h
   simp only[bQ.L2,Bool.cond_eq_ite]at h
   split at h
   .rcases ih _ h with h|h
    .rcases jE.1 h with h|h
     .exact .inl h
     .exact .inr (jB.2 (.inl (qC.1 h)))
    .exact .inr (kA _ h)
   .rcases ih _ h with h|h
    .exact .inl h
    .exact .inr (kA _ h)
 have h1:∀(s:List Budget)(g:List (gO×Budget)),x∈bQ.L1 kind t known (bQ.K1 l) s g->x∈l:=by
  intro s
  induction s with
  |nil=>intro g h;rcases h2 g l [] h with h|h;exact(vA h).elim;exact h
  |cons y s ih=>intro g h;simp only[bQ.L1,Bool.cond_eq_ite]at h;(repeat' split at h)<;>exact ih _ h
 exact h1 _ _ h
theorem JK{l:List Budget}{kind t:Int}{x:Budget}(h:cG l=0)(hx:x∈bQ l kind t known):x.Period≠0:=GV (CU h x (GW hx))
theorem Ae{l:List Approval}{doc t:Int}(h:x∈aD l doc t known):x∈l:=by
 have hc:∀(s:List Approval),x∈bB.L1 doc t known bB.K1 s->x∈s:=by
  intro s
  induction s with
  |nil=>intro h;exact(vA h).elim
  |cons y s ih=>
   intro h
   simp only[bB.L1,Bool.cond_eq_ite]at h
   split at h
   .rcases jB.1 h with rfl|h
    .exact zB ..
    .exact kA _ (ih h)
   .exact kA _ (ih h)
 have h2:∀(g:List (eG×Approval))(s acc:List Approval),x∈aD.L2 g aD.K2 s acc->x∈acc\/x∈s:=by
  intro g s
  induction s with
  |nil=>intro acc h;exact .inl h
  |cons y s ih=>
   intro acc h
   simp only[aD.L2,Bool.cond_eq_ite]at h
   split at h
   .rcases ih _ h with h|h
    .rcases jE.1 h with h|h
     .exact .inl h
     .exact .inr (jB.2 (.inl (qC.1 h)))
    .exact .inr (kA _ h)
   .rcases ih _ h with h|h
    .exact .inl h
    .exact .inr (kA _ h)
 have h1:∀(s:List Approval)(g:List (eG×Approval)),x∈aD.L1 (aD.K1 l doc t known) s g->x∈l:=by
  intro s
  induction s with
  |nil=>
   intro g h
   rcases h2 g (eZ l doc t known) [] h with h|h
   .exact(vA h).elim
   .exact hc _ h
  |cons y s ih=>intro g h;simp only[aD.L1,Bool.cond_eq_ite]at h;split at h<;>exact ih _ h
 exact h1 _ _ h
theorem IU{l:List Approval}{doc t:Int}(h:x∈(cj l doc b th t known).1):x∈l:=by
 unfold cj at h
 simp only[Bool.cond_eq_ite]at h
 split at h
 .exact(vA h).elim
 .split at h
  .exact(vA h).elim
  .exact Ae (S9.1 h).1
section
variable {c:bK} (h:i5 c)
include h
theorem LQ{p:Int}(hp:0<=p/\p<64):(eJ c.Register.Interests p c.doc.Parties c.at_ c.known).2.2=0:=
 I0 ((mb _).1 h.chk).2.2.1 hp h.good.parties h.time h.know
theorem yA{p:Policy}(hpr:p.Rules.length=p.Kinds.length/\∀y∈p.Rules,0<=y.Think/\y.Think<=1099511627775)(hk:0<=c.doc.Kind/\c.doc.Kind<(p.Rules.length:Int)):
  (cj c.Register.Approvals c.doc.No c.doc.At (nthI p.Rules c.doc.Kind).Think c.at_ c.known).2=0:=by
 have hth:=hpr.2 _ (nt hk)
 have h1:=h.good.no
 have h2:=h.good.at_
 have h3:=h.time
 have h4:=h.know
 have e1:cJ 4095 [c.doc.No]=true:=by
  simp only[cJ,containsF,gv,List.any_cons,List.any_nil,Bool.or_false,kD,Bool.or_eq_false_iff,decide_eq_false_iff_not];omega
 have e2:cJ 1099511627775 [c.doc.At,(nthI p.Rules c.doc.Kind).Think,c.at_,c.known]=true:=by
  simp only[cJ,containsF,gv,List.any_cons,List.any_nil,Bool.or_false,kD,Bool.or_eq_false_iff,decide_eq_false_iff_not];omega
 unfold cj
 rw[((mb _).1 h.chk).2.2.2.2.2.2,e1,e2];rfl
theorem tH{d t:Int}(hx:x∈(cj c.Register.Approvals d b th t known).1):(0<=x.Doc/\x.Doc<4096)/\(0<=x.By/\x.By<64)/\(0<=x.For/\x.For<64)/\(0<=x.Office/\x.Office<32)/\(0<=x.At/\x.At<1099511627776):=
 yE (oZ ((mb _).1 h.chk).2.2.2.2.2.2 x (IU hx))
theorem HT{d t:Int}(hx:x∈(cj c.Register.Approvals d b th t known).1):0<=x.For/\x.For<64:=(tH h hx).2.2.1
theorem KG{d t:Int}(hx:x∈(cj c.Register.Approvals d b th t known).1):0<=x.By/\x.By<64:=(tH h hx).2.1
theorem yz{d t:Int}(hx:x∈(cj c.Register.Approvals d b th t known).1):(gF c.Register.Appoints x.Office x.For c.at_ c.known).2.2.2=0:=by
 obtain⟨_,_,h2,h3,_⟩:=tH h hx
 have h4:=h.time
 have h5:=h.know
 have e1:eN x.Office=true:=by simp only[eN,dI,jA,decide_eq_true_eq];omega
 have e2:fE x.For=true:=by simp only[fE,dI,jA,decide_eq_true_eq];omega
 have e3:∀z:Int,0<=z/\z<1099511627776->di z=true:=λz hz=>by simp only[di,dI,jA,decide_eq_true_eq];omega
 unfold gF
 rw[((mb _).1 h.chk).1,e1,e2,e3 _ h4,e3 _ h5]
 simp only[bne_self_eq_false,cond_false,Bool.not_true,Bool.or_false]
 cases(!(mhas (dx c.Register.Appoints c.at_ c.known) (SQ x.Office x.For))||(mgetD (dx c.Register.Appoints c.at_ c.known) (SQ x.Office x.For) (jD 0 0 0 0 0 0 false)).Gone)<;>rfl
omit h in
theorem KP{l:List Deputy}{a o v t n:Int}{g:List (Int×Int)}:(aC.K1 l a o k v t n g).2.2=0:=by
 unfold aC.K1
 cases(!(mhas g a))with
 |true=>rfl
 |false=>
  rw[cond_false]
  have:∀(s:List Nat)(i:Nat)(p:List Int)(q:Int),(aC.L4 l a o k v t n g aC.K4 s i p q).2.2=0:=by
   intro s
   induction s with
   |nil=>intro i p q;rfl
   |cons y s ih=>
    intro i p q
    simp only[aC.L4]
    have:∀(L:List Deputy)(p:List Int)(q:Int),(aC.L6 a g i (λzg6_16 zg6_31=>aC.L4 l a o k v t n g aC.K4 s (i+1) zg6_16 zg6_31) L p q).2.2=0:=by
     intro L
     induction L with
     |nil=>intro p q;exact ih _ _ _
     |cons z L ihL=>intro p q;simp only[aC.L6,Bool.cond_eq_ite];split;exact ih _ _ _;exact ihL _ _
    exact this _ _ _
  exact this _ _ _ _
omit h in
theorem NV{l:List Deputy}{a o v t n:Int}(h0:jt l a b (bR.mk o k v t n)=0):(aC l a b o k v t n).2.2=0:=by
 unfold aC
 rw[h0]
 simp only[bne_self_eq_false,cond_false]
 have:∀(s:List Nat)(i:Nat)(g:List (Int×Int)),(aC.L1 l o k v t n (aC.K1 l a o k v t n) s i g).2.2=0:=by
  intro s
  induction s with
  |nil=>intro i g;exact KP
  |cons y s ih=>
   intro i g
   simp only[aC.L1]
   have:∀(L:List Deputy)(g:List (Int×Int)),(aC.L3 i (λzg3_b2_0=>aC.L1 l o k v t n (aC.K1 l a o k v t n) s (i+1) zg3_b2_0) L g).2.2=0:=by
    intro L
    induction L with
    |nil=>intro g;exact ih _ _
    |cons z L ihL=>intro g;simp only[aC.L3,Bool.cond_eq_ite];split<;>exact ihL _
   exact this _ _
 exact this _ _ _
theorem yB{d t:Int}(hx:x∈(cj c.Register.Approvals d b th t known).1):
  (aC c.Register.Deputies x.For x.By x.Office c.doc.Kind c.doc.Value c.at_ c.known).2.2=0:=by
 obtain⟨_,h1,h2,h3,_⟩:=tH h hx
 have h4:=h.time
 have h5:=h.know
 have h6:=h.kind
 have h7:=h.good.value
 refine NV ?_
 have e2:∀z:Int,0<=z/\z<64->fD z=true:=λz hz=>by simp only[fD,bV,jA,decide_eq_true_eq];omega
 have e3:∀z:Int,0<=z/\z<1099511627776->fX z=true:=λz hz=>by simp only[fX,bV,jA,decide_eq_true_eq];omega
 have e4:bV x.Office 0 31=true:=by simp only[bV,jA,decide_eq_true_eq];omega
 have e5:bV c.doc.Kind 0 15=true:=by simp only[bV,jA,decide_eq_true_eq];omega
 have e6:bV c.doc.Value 0 1099511627776=true:=by simp only[bV,jA,decide_eq_true_eq];omega
 unfold jt
 rw[((mb _).1 h.chk).2.1,e2 _ h1,e2 _ h2,e3 _ h4,e3 _ h5,e4,e5,e6];rfl
end
theorem Bb{l:List Document}{b:Bool}(h:((!cW l signed)||b)=false):signed.length=l.length:=by
 simp only[cW,Bool.or_eq_false_iff,Bool.not_eq_false',jA,beq_iff_eq]at h
 have:=h.1.1
 omega
def playSame(P Q:fA):Prop:=Q.shelf=P.shelf/\Q.signed=P.signed/\Q.done.length=P.done.length/\Q.lacks.length=P.lacks.length
theorem playSame.refl(P:fA):playSame P P:=⟨rfl,rfl,rfl,rfl⟩
theorem playSame.trans{P Q R:fA}(h:playSame P Q)(k:playSame Q R):playSame P R:=⟨k.1.trans h.1,k.2.1.trans h.2.1,k.2.2.1.trans h.2.2.1,k.2.2.2.trans h.2.2.2⟩
theorem px{β : Type}(f:fA->β->fA)(hf:∀P x,playSame P (f P x)):∀(l:List β)(P:fA),playSame P (l.foldl f P)
 |[],P=>.refl P
 |x::l,P=>(hf P x).trans (px f hf l _)
theorem GC(sg:List Int)(i:Int)(P:fA)(no:Int):playSame P (playLack sg i P no):=by
 unfold playLack
 cases(cQ P (mgetD P.shelf.at_ no 0) (nthI sg i)).1 != 0
 .exact .refl P
 .exact⟨rfl,rfl,rfl,by simp⟩
theorem Ir(P:fA)(i:Int):playSame P (playMid P i):=by
 refine playSame.trans (Q:={ P with lacks:=P.lacks.set i.toNat (-1) }) ⟨rfl,rfl,rfl,by simp⟩ ?_
 exact px _ (λQ x=>GC _ _ _ _) _ _
theorem GD(P:fA)(i:Int):playSame P (playDone P i):=⟨rfl,rfl,by simp[playDone],rfl⟩
theorem DT(d:Document)(P:fA)(no:Int):playSame P (playRevoke d P no):=⟨rfl,rfl,rfl,rfl⟩
theorem GB(P:fA)(i:Int):playSame P (playStep P i):=by
 have h:=(Ir P i).trans (GD (playMid P i) i)
 unfold playStep
 cases decide (nthI (playMid P i).lacks i<0)
 .exact h
 .exact h.trans (px _ (λQ x=>DT _ _ _) _ _)
theorem De(l:List Document)(signed:List Int)(t:Int):playSame (playP l signed) (ct l signed t):=px _ GB _ _
theorem vW(l:List Document)(signed:List Int)(t:Int):(ct l signed t).shelf=ay l:=(De l signed t).1
theorem uh(l:List Document)(signed:List Int)(t:Int):(ct l signed t).shelf.docs=l:=by
 rw[vW]
 have:∀(s:List Document)(i:Nat)(g:List (Int×Int)),(ay.L1 (ay.K1 l) s i g).docs=l:=by
  intro s
  induction s with
  |nil=>intro i g;rfl
  |cons y s ih=>intro i g;exact ih _ _
 exact this _ _ _
theorem Df(l:List Document)(signed:List Int)(t:Int):(ct l signed t).done.length=(ct l signed t).shelf.docs.length/\(ct l signed t).lacks.length=(ct l signed t).shelf.docs.length:=by
 have h:=De l signed t
 rw[uh]
 exact⟨h.2.2.1.trans (by simp[playP]),h.2.2.2.trans (by simp[playP])⟩
theorem Hu{l:List Document}{t:Int}{no:Int}(h:(!(mhas (ct l signed t).shelf.at_ no))=false):
  0<=mgetD (ct l signed t).shelf.at_ no 0/\mgetD (ct l signed t).shelf.at_ no 0<((ct l signed t).shelf.docs.length:Int):=by
 rw[uh]
 rw[vW]at h ⊢
 have hl:0<l.length:=by
  cases l with
  |nil=>exact Bool.noConfusion (show true=false from h)
  |cons=>simp
 have key:∀(s:List Document)(i:Nat)(g:List (Int×Int)),i+s.length=l.length->(∀p∈g,0<=p.2/\p.2<(l.length:Int))->∀p∈(ay.L1 (ay.K1 l) s i g).at_,0<=p.2/\p.2<(l.length:Int):=by
  intro s
  induction s with
  |nil=>intro i g _ hg;exact hg
  |cons y s ih=>
   intro i g hi hg
   simp only[xA]at hi
   exact ih (i+1) _ (by omega) (yd (P:=λx:Int=>0<=x/\x<(l.length:Int)) _ hg (by omega))
 exact yR (P:=λx:Int=>0<=x/\x<(l.length:Int)) no (key l 0 [] (by simp) (λ_ h=>(vA h).elim)) (by omega)
structure Sj(q q':aX):Prop where
 value:q'.value=q.value
 holders:q'.holders=q.holders
 who:∀l∈q.holders,∀y∈l,y.Person∈q.who->y.Person∈q'.who
 wt:∀l∈q.holders,∀y∈l,1<=y.Weight/\y.Weight<=64
 len:∀l∈q.holders,l.length<=2000000
theorem Ie(l:List Interest)(a b:Int):∃p:Interest->Bool,ce l a b=l.filter p:=by
 have h1:∀v(l:List Interest),bA.L1 v [] l=l.filter λy=>(!y.Gone)&&decide (mgetD v (cS.mk y.Person y.Party y.Of) (qW 0 0 0 0 0 false false)=y):=by
  intro v l
  induction l with
  |nil=>rfl
  |cons y l ih=>
   simp only[bA.L1,List.filter_cons,ih]
   cases((!y.Gone)&&decide (mgetD v (cS.mk y.Person y.Party y.Of) (qW 0 0 0 0 0 false false)=y))<;>rfl
 have h2:∀(k:List (cS×Interest)->List Interest)(l:List Interest)m,∃m',ce.L1 a b k l m=k m':=by
  intro k l
  induction l with
  |nil=>exact λm=>⟨m,rfl⟩
  |cons y l ih=>
   intro m
   simp only[ce.L1,Bool.cond_eq_ite]
   split
   .exact ih _
   .split
    .exact ih _
    .exact ih _
 obtain⟨m',e⟩:=h2 (ce.K1 l) l []
 exact⟨_,by unfold ce;rw[e];exact h1 m' l⟩
theorem Jn(l:List Interest)(a b:Int):(ce l a b).length<=l.length:=by
 obtain⟨p,e⟩:=Ie l a b
 rw[e];exact List.length_filter_le _ _
theorem Fj{α : Type}{k:Int}{v:α}:∀{m:List (Int×α)},k∉m.map (·.1)->(mput m k v).length=m.length+1/\∀p∈mput m k v,p=(k,v)\/p∈m
 |[],_=>by simp[mput]
 |(k',v')::m,hk=>by
  simp only[jJ,jB,not_or]at hk
  obtain⟨h1,h2⟩:=Fj (v:=v) hk.2
  simp only[mput,hk.1,if_false,xA,h1,jB,true_and]
  rintro p (rfl|hp)
  .exact .inr (.inl rfl)
  .rcases h2 p hp with h|h
   .exact .inl h
   .exact .inr (.inr h)
theorem Iz(hg:vo st m q)(h:mgetD m k false=false):k∉m.map (·.1):=by
 intro hk
 obtain⟨⟨k',v⟩,hp,rfl⟩:=zN.1 hk
 have:∀{m:List (Int×Bool)},(∀p∈m,p.2=true)->k'∈m.map (·.1)->mgetD m k' false=true:=by
  intro m
  induction m with
  |nil=>intro _ h;simp at h
  |cons p m ih=>
   intro ha hm
   obtain⟨a,b⟩:=p
   by_cases e:k'=a
   .have:=ha (a,b) (zB ..)
    simp only at this
    simp[mgetD,mget?,e,this]
   .simp only[jJ,jB,e,false_or]at hm
    have:=ih (λp hp=>ha p (kA _ hp)) hm
    simpa[mgetD,mget?,e]using this
 rw[this (λp hp=>(hg.1 p hp).1) hk]at h
 cases h
theorem un(hg:vo st m q)(hw:w.to∈st.map (·.Party))(h8:w.path.length<=8):vo st (conPut w m q).1 (conPut w m q).2:=by
 unfold conPut
 cases h:mgetD m w.to false with
 |true=>exact hg
 |false=>
  obtain⟨h1,h2⟩:=Fj (v:=true) (Iz hg h)
  refine⟨λp hp=>?_,?_,λw' hw'=>?_⟩
  .rcases h2 p hp with rfl|hp
   .exact⟨rfl,hw⟩
   .exact hg.1 p hp
  .show(q++[w]).length<=(mput m w.to true).length
   rw[h1,xB];have:=hg.2.1;simp;omega
  .rcases jE.1 (show w'∈q++[w]from hw')with hw'|hw'
   .exact hg.2.2 w' hw'
   .rw[qC.1 hw'];exact h8
theorem yC{cap:Nat}(hg:vo st m q)(hn:(m.map (·.1)).Nodup)(hk:k∈st.map (·.Party))(hc:st.length<=cap)(h:mgetD m k false=false):q.length<cap:=by
 have h1:=Iz hg h
 have h2:(k::m.map (·.1)).length<=(st.map (·.Party)).length:=yQ (xR.2 ⟨h1,hn⟩) (λx hx=>by
  rcases jB.1 hx with rfl|hx
  .exact hk
  .obtain⟨p,hp,rfl⟩:=zN.1 hx;exact(hg.1 p hp).2)
 simp only[xA,List.length_map]at h2
 have:=hg.2.1
 omega
theorem Pa(hg:vo st m q)(hn:(m.map (·.1)).Nodup):m.length<=st.length:=by
 have:=yQ (b:=st.map (·.Party)) hn (λx hx=>by obtain⟨p,hp,rfl⟩:=zN.1 hx;exact(hg.1 p hp).2)
 simpa using this
theorem IV(hn:(m.map (·.1)).Nodup):((conPut w m q).1.map (·.1)).Nodup:=by
 unfold conPut
 cases mgetD m w.to false with
 |true=>exact hn
 |false=>exact qi _ _ hn
theorem KH{N:Nat}(hg:vo st m q)(hn:(m.map (·.1)).Nodup)(hw:w.to∈st.map (·.Party))(hN:st.length<=N):
  (conPut w m q).2.length+(N-(conPut w m q).1.length)<=q.length+(N-m.length):=by
 unfold conPut
 cases h:mgetD m w.to false with
 |true=>simp
 |false=>
  obtain⟨h1,_⟩:=Fj (v:=true) (Iz hg h)
  have h2:vo st (mput m w.to true) []:=by
   have:=un (w:=⟨[],w.to⟩) (q:=[]) (st:=st) (m:=m) ⟨hg.1,qM _,λ_ h=>(vA h).elim⟩ hw (by simp)
   simp only[conPut,h,cond_false]at this
   exact⟨this.1,qM _,λ_ h=>(vA h).elim⟩
  have h3:=Pa h2 (qi w.to true hn)
  show(q++[w]).length+(N-(mput m w.to true).length)<=_
  rw[h1]at h3
  rw[h1,xB]
  simp;omega
theorem tg(m:List (Int×α))(k j:Int)(v z:α):mgetD (mput m k v) j z=if j=k then v else mgetD m j z:=by
 induction m with
 |nil=>by_cases h:j=k<;>simp[mput,mgetD,mget?,h]
 |cons p m ih=>
  obtain⟨a,b⟩:=p
  by_cases h:k=a
  .subst h
   by_cases h2:j=k<;>simp[mput,mgetD,mget?,h2]
  .by_cases h2:j=a
   .subst h2
    have:¬j=k:=λe=>h e.symm
    simp[mput,h,mgetD,mget?,this]
   .simp only[mgetD]at ih ⊢
    simp only[mput,h,if_false,mget?,h2]
    exact ih
theorem Na.put{f:List (Int×List Interest)}(hf:Na st f){x:Interest}(hx:x∈st):Na st (mput f k (mgetD f k []++[x])):=by
 intro j y hy
 rw[tg]at hy
 split at hy
 .rcases jE.1 hy with hy|hy
  .exact hf k y hy
  .rw[qC.1 hy];exact hx
 .exact hf j y hy
theorem yO(A B:List α)(x y:α):(A++x::y::B).Perm (y::x::(A++B)):=
 List.perm_middle.trans ((List.Perm.cons x List.perm_middle).trans (List.Perm.swap y x _))
theorem BV{st:List Interest}{path:List Int}{N:Nat}(hN:st.length<=N)(h8:path.length+1<=8):∀{xs:List Interest}{m:List (Int×Bool)}{q:List gZ},(∀x∈xs,x∈st)->vo st m q->(m.map (·.1)).Nodup ->
  (conStep path xs m q).2.length+(N-(conStep path xs m q).1.length)<=q.length+(N-m.length)
 |[],m,q,_,_,_=>vG _
 |x::xs,m,q,hx,hg,hn=>by
  have hp:(gZ.mk (path++[x.No]) x.Party).to∈st.map (·.Party):=vN (hx x (zB ..))
  have h1:=KH (w:=⟨path++[x.No],x.Party⟩) hg hn hp hN
  have h2:=BV (path:=path) hN h8 (xs:=xs) (λy hy=>hx y (kA _ hy)) (un hg hp (by simpa using h8)) (IV hn)
  simp only[conStep]
  exact xS h2 h1
theorem Bk:∀{a b:List Int},a.Pairwise (·<·)->b.Pairwise (·<·)->(∀x∈a,x∈b)->a.Sublist b
 |[],b,_,_,_=>List.nil_sublist _
 |x::a,[],_,_,h=>absurd (h x (zB ..)) vA
 |x::a,y::b,ha,hb,h=>by
  obtain⟨a1,a2⟩:=List.pairwise_cons.1 ha
  obtain⟨b1,b2⟩:=List.pairwise_cons.1 hb
  by_cases e:x=y
  .subst e
   refine(Bk a2 b2 λz hz=>?_).cons_cons _
   rcases jB.1 (h z (kA _ hz))with g|g
   .have:=a1 z hz;omega
   .exact g
  .refine(Bk ha b2 λz hz=>?_).cons _
   rcases jB.1 (h z hz)with g|g
   .have hy:y<x:=by
     rcases jB.1 (h x (zB ..))with g2|g2
     .exact absurd g2 e
     .exact b1 x g2
    rcases jB.1 hz with g3|g3
    .omega
    .have:=a1 z g3;omega
   .exact g
end Go.Sg
