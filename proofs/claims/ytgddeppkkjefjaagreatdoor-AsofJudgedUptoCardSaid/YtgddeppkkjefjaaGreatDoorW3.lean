import Derived.KernelRfl
import Derived.Test.YtgddeppkkjefjaaGreatDoorW2
/- A part of the proof of AsofJudged. -/
set_option linter.unusedVariables false
set_option linter.unusedSimpArgs false
set_option maxRecDepth 100000
open List renaming length_cons→zA,not_mem_nil→jA,mem_cons_of_mem→vA,length_append→kA,mem_cons_self→zB,length_nil→vB,toArray→kB,mem_cons→qC,mem_singleton→xC,append_assoc→qE,nil_append→zG,map_cons→kG,mem_append→xH,range→jJ,mem_map→kJ,nodup_cons→xN,nodup_nil→kQ,getElem?_map→xV,mem_filter→RP,getElem?_of_mem→SI,map_nil→T8,singleton_append→Ue
open Bool renaming and_eq_true→jB,not_eq_true'→kC,or_eq_true→xD,eq_iff_iff→vN,false_eq_true→R0
open Go.IntKind renaming wrap→zE
open Go.Sg.Appoint renaming mk→kF
open Nat renaming le_refl→xG,le_trans→jP,add_zero→Tb
open Go.Sg.Expr renaming mk→vG,iW→kV,depL→S3,me→S5,dep→T2
open Go.Sg.Policy renaming mk→qM
open Go.Sg.Register renaming mk→qQ
open Option.some renaming inj→xT
open Go.Sg.Span renaming mk→qW
open Go.Sg.Interest renaming mk→zW
open Go.Sg.Approval renaming mk→R9
open Go.Sg.Version renaming mk→Sv
open Go.Sg.Rule renaming mk→SE
open Go.Sg.Document renaming mk→SR
open Go.Sg.OSeat renaming mk→S7
open Go.Sg.Budget renaming mk→TI
open Go.Sg.Deputy renaming mk→TJ
open Go.Sg.Holder renaming mk→UA

namespace Go.Sg
variable {c:Bool}{doc known office u:Int}{f:Unit->Except Int Unit}{ps:List Int}{q:aD}{s:ByteArray}{x:Except Int Unit}
def dT(eS:Int)(low:Int)(high:Int):Bool:=(decide (low<=eS)&&decide (eS<=high))
def cZ(eS:Int):Bool:=(dT eS 0 1099511627775)
def fo(eS:Int):Bool:=(dT eS 0 31)
def gh(eS:Int):Bool:=(dT eS 0 63)
def oa(x:Appoint):Bool:=(bif x.Gone then((((((dT x.No 0 1048576)&&(cZ x.At))&&(cZ x.Known))&&(fo x.Office))&&(gh x.Person))&&(dT x.Weight 0 0))else((((((dT x.No 0 1048576)&&(cZ x.At))&&(cZ x.Known))&&(fo x.Office))&&(gh x.Person))&&(dT x.Weight 1 64)))
def dq.K1(gZ:Int):Int:=0
def dq.L1(k:Int->Int):List Appoint->Int->Int
 |[],gZ=>(k gZ)
 |y1::rz1,gZ=>(bif((!(oa y1))||decide (y1.No<=gZ))then 150 else(dq.L1  k rz1 y1.No))
def dq(l:List Appoint):Int:=(bif(decide (4096<(l.length:Int)))then 2 else((dq.L1 (dq.K1)) l (-1)))
def di(eS:Int)(low:Int)(high:Int):Bool:=(decide (low<=eS)&&decide (eS<=high))
def gu(eS:Int):Bool:=(di eS 0 1099511627775)
def gi(eS:Int):Bool:=(di eS 0 63)
def nJ(x:Deputy):Bool:=(bif((((((((!(di x.No 0 1048576))||(!(gu x.At)))||(!(gu x.Known)))||(!(gi x.From)))||(!(gi x.To)))||(x.From==x.To))||(!(di x.Office 0 31)))||(!(di x.Kind (-1) 15)))then false else(bif x.Gone then((x.Until==0)&&(x.Most==0))else((decide (x.At<x.Until)&&decide (x.Until<=1099511627776))&&(di x.Most 0 1099511627776))))
def dH.K1(gZ:Int):Int:=0
def dH.L1(k:Int->Int):List Deputy->Int->Int
 |[],gZ=>(k gZ)
 |y1::rz1,gZ=>(bif((!(nJ y1))||decide (y1.No<=gZ))then 160 else(dH.L1  k rz1 y1.No))
def dH(l:List Deputy):Int:=(bif(decide (4096<(l.length:Int)))then 2 else((dH.L1 (dH.K1)) l (-1)))
def bA(eS:Int)(limit:Int):Bool:=(decide (0<=eS)&&decide (eS<limit))
def m5(x:Interest):Bool:=(bif x.Of then((((((bA x.No 1048577)&&(bA x.At 1099511627776))&&(bA x.Known 1099511627776))&&(bA x.Party 1048577))&&(bA x.Person 1048577))&&(x.Person != x.Party))else(((((bA x.No 1048577)&&(bA x.At 1099511627776))&&(bA x.Known 1099511627776))&&(bA x.Party 1048577))&&(bA x.Person 64)))
def dh.K1(gZ:Int):Int:=0
def dh.L1(k:Int->Int):List Interest->Int->Int
 |[],gZ=>(k gZ)
 |y1::rz1,gZ=>(bif((!(m5 y1))||decide (y1.No<=gZ))then 290 else(dh.L1  k rz1 y1.No))
def dh(l:List Interest):Int:=(bif(decide (4096<(l.length:Int)))then 2 else((dh.L1 (dh.K1)) l (-1)))
def cK.K1  : Int:=(-1)
def cK.L1(f:(Int->Bool))(k:Int):List Int->Nat->Int
 |[],i1=>(k)
 |y1::rz1,i1=>(bif(f y1)then(i1:Int)else(cK.L1 f k rz1 (i1+1)))
def cK(s:List Int)(f:(Int->Bool)):Int:=((cK.L1 f (cK.K1)) s 0)
def da(s:List Int)(f:(Int->Bool)):Bool:=decide (0<=(cK s f))
def iL(eS:Int)(v0:Int)(v1:Int):Bool:=(decide (eS<v0)||decide (v1<eS))
def aW(least:Int)(most:Int)(l:List Int):Bool:=(!(da l (λcj=>iL cj least most)))
def kX(x:Budget):Bool:=(bif x.Gone then((((((aW 0 1048576 ([x.No]))&&(aW 0 1099511627775 ([x.At,x.Known])))&&(aW (-1) 15 ([x.Kind])))&&(aW 1 1099511627776 ([x.Period])))&&(aW 0 0 ([x.Count])))&&(aW 0 0 ([x.Value])))else((((((aW 0 1048576 ([x.No]))&&(aW 0 1099511627775 ([x.At,x.Known])))&&(aW (-1) 15 ([x.Kind])))&&(aW 1 1099511627776 ([x.Period])))&&(aW 0 1048576 ([x.Count])))&&(aW 0 1099511627776 ([x.Value]))))
def cR.K1(gZ:Int):Int:=0
def cR.L1(k:Int->Int):List Budget->Int->Int
 |[],gZ=>(k gZ)
 |y1::rz1,gZ=>(bif((!(kX y1))||decide (y1.No<=gZ))then 180 else(cR.L1  k rz1 y1.No))
def cR(l:List Budget):Int:=(bif(decide (4096<(l.length:Int)))then 2 else((cR.L1 (cR.K1)) l (-1)))
def bh(eS:Int)(low:Int)(high:Int):Bool:=(decide (low<=eS)&&decide (eS<=high))
def aL.L2(k:List gq):List gq->List gq
 |[]=>k
 |y2::rz2=>(y2::(aL.L2 k rz2))
def aL.L3(k:List gq):List gq->List gq
 |[]=>k
 |y3::rz3=>(y3::(aL.L3 k rz3))
def aL.K1  : List gq:=[]
def aL.L1(rec:Expr->Int->List gq)(depth:Int)(k:List gq):List Expr->List gq
 |[]=>(k)
 |y1::rz1=>((aL.L3 ((aL.L1 rec depth k rz1))) (rec y1 (depth+1)))
def aL.F(rec:Expr->Int->List gq)(x:Expr)(depth:Int):List gq:=((gq.mk (vG x.Kind x.N x.No x.Name x.L) depth)::((aL.L1 rec depth (aL.K1)) x.L))
def aL.go:Nat->Expr->Int->List gq
 |0=>λ_ _=>[]
 |m+1=>aL.F (aL.go m)
def bM(x:Expr)(depth:Int):List gq:=aL.go x.dep x depth
def eZ(ok:Bool)(QL:Int):(Except Int Unit):=(bif(!ok)then(Except.error QL)else(Except.ok ()))
def aA.K1(p:Policy)(FS:List Expr):List Expr:=(FS++[p.Change])
def aA.L1(k:List Expr->List Expr):List Rule->List Expr->List Expr
 |[],FS=>(k FS)
 |y1::rz1,FS=>(aA.L1  k rz1 (FS++[y1.Expr]))
def aA(p:Policy):List Expr:=((aA.L1 (aA.K1 p)) p.Rules ([]))
def cG.L2(k:Int->(Except Int Unit)):List gq->Int->(Except Int Unit)
 |[],DB=>k DB
 |y2::rz2,DB=>(exi (eZ (decide ((zE .i64 (DB+1))<=256)&&decide (y2.depth<=16)) 2) (λ_=>(cG.L2 k rz2 (zE .i64 (DB+1)))))
def cG.L3(k:Int->(Except Int Unit)):List gq->Int->(Except Int Unit)
 |[],DA=>k DA
 |y3::rz3,DA=>(exi (eZ (decide ((zE .i64 (DA+1))<=256)&&decide (y3.depth<=16)) 2) (λ_=>(cG.L3 k rz3 (zE .i64 (DA+1)))))
def cG.K1  : (Except Int Unit):=(Except.ok ())
def cG.L1(k:(Except Int Unit)):List Expr->(Except Int Unit)
 |[]=>(k)
 |y1::rz1=>((cG.L3 (λzg3_b3_0=>(cG.L1  k rz1))) (bM y1 1) 0)
def cG(p:Policy):(Except Int Unit):=(exi (eZ ((decide ((p.Offices.length:Int)<=32)&&decide ((p.Kinds.length:Int)<=16))&&decide ((p.Rules.length:Int)<=16)) 2) (λ_=>((cG.L1 (cG.K1)) (aA p))))
def dU(x:Expr):Bool:=((x.Kind==1)||(x.Kind==2))
def iV(s:ByteArray)(c:Int):Int:=(idxByte s c)
def strings_IndexByte(s:ByteArray)(c:Int):Int:=(iV s c)
def kx(c:Int):Int:=(bif((decide (97<=c)&&decide (c<=122))||(decide (65<=c)&&decide (c<=90)))then 2 else(bif(decide (48<=c)&&decide (c<=57))then 3 else(bif(c==95)then 5 else(bif((((c==32)||(c==9))||(c==10))||(c==13))then 1 else(bif(decide (0<=(strings_IndexByte (⟨#[123,125,40,41,59,44,61,58,46,60,62,33,43,45,42,47]⟩:ByteArray) c)))then 4 else 0)))))
def dX.K1  : Bool:=true
def dX.L1(s:ByteArray)(k:Bool):List Nat->Nat->Bool
 |[],i1=>(k)
 |y1::rz1,i1=>(bif((((kx ((s.data.getD ((i1:Int):Int).toNat 0).toNat:Int)) != 2)&&((kx ((s.data.getD ((i1:Int):Int).toNat 0).toNat:Int)) != 3))&&((kx ((s.data.getD ((i1:Int):Int).toNat 0).toNat:Int)) != 5))then false else(dX.L1 s k rz1 (i1+1)))
def dX(s:ByteArray):Bool:=(bif(((s.toList==(⟨#[]⟩:ByteArray).toList)||decide (32<(s.size:Int)))||((kx ((s.data.getD (0:Int).toNat 0).toNat:Int)) != 2))then false else((dX.L1 s (dX.K1)) (jJ s.size) 0))
def eE(s:ByteArray):Bool:=(bif(s.toList==(⟨#[112,111,108,105,99,121]⟩:ByteArray).toList)then(bif(s.toList==(⟨#[112,111,108,105,99,121]⟩:ByteArray).toList)then false else(dX s))else(bif(s.toList==(⟨#[109,111,100,101]⟩:ByteArray).toList)then(bif(s.toList==(⟨#[109,111,100,101]⟩:ByteArray).toList)then false else(dX s))else(bif(s.toList==(⟨#[111,108,100]⟩:ByteArray).toList)then(bif(s.toList==(⟨#[111,108,100]⟩:ByteArray).toList)then false else(dX s))else(bif(s.toList==(⟨#[110,101,119]⟩:ByteArray).toList)then(bif(s.toList==(⟨#[110,101,119]⟩:ByteArray).toList)then false else(dX s))else(bif(s.toList==(⟨#[98,111,116,104]⟩:ByteArray).toList)then(bif(s.toList==(⟨#[98,111,116,104]⟩:ByteArray).toList)then false else(dX s))else(bif(s.toList==(⟨#[101,105,116,104,101,114]⟩:ByteArray).toList)then(bif(s.toList==(⟨#[101,105,116,104,101,114]⟩:ByteArray).toList)then false else(dX s))else(bif(s.toList==(⟨#[111,102,102,105,99,101]⟩:ByteArray).toList)then(bif(s.toList==(⟨#[111,102,102,105,99,101]⟩:ByteArray).toList)then false else(dX s))else(bif(s.toList==(⟨#[107,105,110,100]⟩:ByteArray).toList)then(bif(s.toList==(⟨#[107,105,110,100]⟩:ByteArray).toList)then false else(dX s))else(bif(s.toList==(⟨#[114,117,108,101]⟩:ByteArray).toList)then(bif(s.toList==(⟨#[114,117,108,101]⟩:ByteArray).toList)then false else(dX s))else(bif(s.toList==(⟨#[116,104,105,110,107]⟩:ByteArray).toList)then(bif(s.toList==(⟨#[116,104,105,110,107]⟩:ByteArray).toList)then false else(dX s))else(bif(s.toList==(⟨#[99,104,97,110,103,101]⟩:ByteArray).toList)then(bif(s.toList==(⟨#[99,104,97,110,103,101]⟩:ByteArray).toList)then false else(dX s))else(bif(s.toList==(⟨#[115,111,109,101]⟩:ByteArray).toList)then(bif(s.toList==(⟨#[115,111,109,101]⟩:ByteArray).toList)then false else(dX s))else(bif(s.toList==(⟨#[119,101,105,103,104,116]⟩:ByteArray).toList)then(bif(s.toList==(⟨#[119,101,105,103,104,116]⟩:ByteArray).toList)then false else(dX s))else(bif(s.toList==(⟨#[111,102]⟩:ByteArray).toList)then(bif(s.toList==(⟨#[111,102]⟩:ByteArray).toList)then false else(dX s))else(bif(s.toList==(⟨#[117,112,116,111]⟩:ByteArray).toList)then(bif(s.toList==(⟨#[117,112,116,111]⟩:ByteArray).toList)then false else(dX s))else(bif(s.toList==(⟨#[101,108,115,101]⟩:ByteArray).toList)then false else(dX s)))))))))))))))))
def aT.K1  : Int:=(-1)
def aT.L1(v:ByteArray)(k:Int):List ByteArray->Nat->Int
 |[],i1=>(k)
 |y1::rz1,i1=>(bif(v.toList==y1.toList)then(i1:Int)else(aT.L1 v k rz1 (i1+1)))
def aT(s:List ByteArray)(v:ByteArray):Int:=((aT.L1 v (aT.K1)) s 0)
def cm.K1  : Bool:=true
def cm.L1(l:List ByteArray)(ok:(ByteArray->Bool))(k:Bool):List ByteArray->Nat->Bool
 |[],i1=>(k)
 |y1::rz1,i1=>(bif((!(ok y1))||((aT l y1) != (i1:Int)))then false else(cm.L1 l ok k rz1 (i1+1)))
def cm(l:List ByteArray)(ok:(ByteArray->Bool)):Bool:=((cm.L1 l ok (cm.K1)) l 0)
def dY(s:List ByteArray)(v:ByteArray):Bool:=decide (0<=(aT s v))
def cH.L2(p:Policy)(k:(Except Int Unit)):List gq->(Except Int Unit)
 |[]=>k
 |y2::rz2=>(exi (eZ ((!(dU y2.x))||(dY p.Offices y2.x.Name)) 201) (λ_=>(cH.L2 p k rz2)))
def cH.L3(p:Policy)(k:(Except Int Unit)):List gq->(Except Int Unit)
 |[]=>k
 |y3::rz3=>(exi (eZ ((!(dU y3.x))||(dY p.Offices y3.x.Name)) 201) (λ_=>(cH.L3 p k rz3)))
def cH.K1  : (Except Int Unit):=(Except.ok ())
def cH.L1(p:Policy)(k:(Except Int Unit)):List Expr->(Except Int Unit)
 |[]=>(k)
 |y1::rz1=>((cH.L3 p ((cH.L1 p k rz1))) (bM y1 1))
def cH(p:Policy):(Except Int Unit):=(exi (eZ (((eE p.Name)&&(cm p.Offices eE))&&(cm p.Kinds eE)) 201) (λ_=>((cH.L1 p (cH.K1)) (aA p))))
def pW(x0:Expr):Bool:=false
def mz(x:Expr):Bool:=((x.N==0)&&((x.L.length:Int)==0))
def lD(x:Expr):Bool:=((bh x.N 1 4096)&&((x.L.length:Int)==0))
def lC(x:Expr):Bool:=(((x.Name.toList==(⟨#[]⟩:ByteArray).toList)&&(bh (x.L.length:Int) 1 16))&&(bh x.N 1 (x.L.length:Int)))
def lB(x:Expr):Bool:=(((x.Name.toList==(⟨#[]⟩:ByteArray).toList)&&((x.L.length:Int)==2))&&(bh x.N 0 1099511627776))
def kindsP(i:Int)(x:Expr):Bool:=if i=0 then pW x else if i=1 then mz x else if i=2 then lD x else if i=3 then lC x else lB x
def bx.L3(p:Policy)(k:(Except Int Unit)):List gq->(Except Int Unit)
 |[]=>k
 |y3::rz3=>(exi (eZ ((bh y3.x.Kind 1 4)&&(kindsP y3.x.Kind y3.x)) 200) (λ_=>(exi (eZ (decide (0<(zE .i64 (((aA p).length:Int)-1)))||(y3.x.Kind != 4)) 200) (λ_=>(bx.L3 p k rz3)))))
def bx.L4(p:Policy)(i2:Nat)(k:(Except Int Unit)):List gq->(Except Int Unit)
 |[]=>k
 |y4::rz4=>(exi (eZ ((bh y4.x.Kind 1 4)&&(kindsP y4.x.Kind y4.x)) 200) (λ_=>(exi (eZ (decide ((i2:Int)<(zE .i64 (((aA p).length:Int)-1)))||(y4.x.Kind != 4)) 200) (λ_=>(bx.L4 p i2 k rz4)))))
def bx.K2  : (Except Int Unit):=(Except.ok ())
def bx.L2(p:Policy)(k:(Except Int Unit)):List Expr->Nat->(Except Int Unit)
 |[],i2=>(k)
 |y2::rz2,i2=>((bx.L4 p i2 ((bx.L2 p k rz2 (i2+1)))) (bM y2 1))
def bx.K1(p:Policy):(Except Int Unit):=((bx.L2 p (bx.K2)) (aA p) 0)
def bx.L1(p:Policy)(k:(Except Int Unit)):List Rule->Nat->(Except Int Unit)
 |[],i1=>(k)
 |y1::rz1,i1=>(exi (eZ ((y1.Kind.toList==(nthI p.Kinds (i1:Int)).toList)&&(bh y1.Think 0 1099511627775)) 200) (λ_=>(bx.L1 p k rz1 (i1+1))))
def bx(p:Policy):(Except Int Unit):=(exi (eZ ((decide (0<(p.Kinds.length:Int))&&((p.Rules.length:Int)==(p.Kinds.length:Int)))&&(bh p.Mode 1 4)) 200) (λ_=>((bx.L1 p (bx.K1 p)) p.Rules 0)))
def dD(p:Policy):(Except Int Unit):=(exi (cG p) (λ_=>(exi (cH p) (λ_=>(exi (bx p) (λ_=>(Except.ok ())))))))
def aj.K1(offices:List ByteArray)(x:Expr)(lx:List Expr):Expr:=(vG x.Kind x.N (aT offices x.Name) x.Name lx)
def aj.L1(rec:List ByteArray->Expr->Expr)(offices:List ByteArray)(k:List Expr->Expr):List Expr->List Expr->Expr
 |[],lx=>(k lx)
 |y1::rz1,lx=>(aj.L1 rec offices k rz1 (lx++[(rec offices y1)]))
def aj.K2(x:Expr)(lv:List Expr):Expr:=(vG x.Kind x.N 0 x.Name lv)
def aj.L2(rec:List ByteArray->Expr->Expr)(offices:List ByteArray)(k:List Expr->Expr):List Expr->List Expr->Expr
 |[],lv=>(k lv)
 |y2::rz2,lv=>(aj.L2 rec offices k rz2 (lv++[(rec offices y2)]))
def aj.F(rec:List ByteArray->Expr->Expr)(offices:List ByteArray)(x:Expr):Expr:=(bif(dU (vG x.Kind x.N 0 x.Name x.L))then((aj.L1 rec offices (aj.K1 offices x)) x.L ([]))else((aj.L2 rec offices (aj.K2 x)) x.L ([])))
def aj.go:Nat->List ByteArray->Expr->Expr
 |0=>λ_ _=>default
 |m+1=>aj.F (aj.go m)
def aj(offices:List ByteArray)(x:Expr):Expr:=aj.go x.dep offices x
def ep.K1(p:Policy)(nj:List Rule):(Policy×Int):=((qM p.Name p.Kinds p.Offices nj (vG ((aj p.Offices p.Change).Kind) ((aj p.Offices p.Change).N) ((aj p.Offices p.Change).No) ((aj p.Offices p.Change).Name) ((aj p.Offices p.Change).L)) p.Mode),0)
def ep.L1(p:Policy)(k:List Rule->(Policy×Int)):List Rule->Nat->List Rule->(Policy×Int)
 |[],i1,nj=>(k nj)
 |y1::rz1,i1,nj=>(ep.L1 p k rz1 (i1+1) (nj++[(SE y1.Kind (i1:Int) y1.Think (vG ((aj p.Offices y1.Expr).Kind) ((aj p.Offices y1.Expr).N) ((aj p.Offices y1.Expr).No) ((aj p.Offices y1.Expr).Name) ((aj p.Offices y1.Expr).L)))]))
def ep(p:Policy):(Policy×Int):=(bif((attR (dD p)) != 0)then((qM (⟨#[]⟩:ByteArray) ([]) ([]) ([]) (vG 0 0 0 (⟨#[]⟩:ByteArray) ([])) 0),(attR (dD p)))else((ep.L1 p (ep.K1 p)) p.Rules 0 ([])))
def co.K1  : Bool:=true
def co.L1(offices:List ByteArray)(k:Bool):List gq->Bool
 |[]=>k
 |y1::rz1=>(bif(dU y1.x)then(bif(y1.x.No != (aT offices y1.x.Name))then false else(co.L1 offices k rz1))else(bif(y1.x.No != 0)then false else(co.L1 offices k rz1)))
def co(offices:List ByteArray)(x:Expr):Bool:=((co.L1 offices (co.K1)) (bM x 1))
def cT.K1(p:Policy):Int:=(bif(!(co p.Offices p.Change))then 200 else 0)
def cT.L1(p:Policy)(k:Int):List Rule->Nat->Int
 |[],i1=>(k)
 |y1::rz1,i1=>(bif((y1.KindNo != (i1:Int))||(!(co p.Offices y1.Expr)))then 200 else(cT.L1 p k rz1 (i1+1)))
def cT(p:Policy):Int:=(bif((ep p).2 != 0)then(ep p).2 else((cT.L1 p (cT.K1 p)) p.Rules 0))
def bJ.K1(gZ:Int):Int:=0
def bJ.L1(k:Int->Int):List Version->Int->Int
 |[],gZ=>(k gZ)
 |y1::rz1,gZ=>(bif((((!(bh y1.No (zE .i64 (gZ+1)) 1048576))||(!(bh y1.At 0 1099511627775)))||(!(bh y1.Known 0 1099511627775)))||((cT y1.Policy) != 0))then 200 else(bJ.L1  k rz1 y1.No))
def bJ(l:List Version):Int:=(bif(decide (256<(l.length:Int)))then 2 else((bJ.L1 (bJ.K1)) l (-1)))
def ay.K1(l:List Document)(aZ:List (Int×Int)):gB:=(gB.mk l aZ)
def ay.L1(k:(List (Int×Int))->gB):List Document->Nat->(List (Int×Int))->gB
 |[],i1,aZ=>(k aZ)
 |y1::rz1,i1,aZ=>(ay.L1  k rz1 (i1+1) (mput aZ y1.No (i1:Int)))
def ay(l:List Document):gB:=((ay.L1 (ay.K1 l)) l 0 ([]))
def gm(t:Int):Bool:=(decide (0<=t)&&decide (t<1099511627776))
def dK.K1(l:List Int)(jm:Int):Bool:=decide ((l.length:Int)<=16)
def dK.L1(limit:Int)(k:Int->Bool):List Int->Int->Bool
 |[],jm=>(k jm)
 |y1::rz1,jm=>(bif(decide (y1<=jm)||decide (limit<=y1))then false else(dK.L1 limit k rz1 y1))
def dK(l:List Int)(limit:Int):Bool:=((dK.L1 limit (dK.K1 l)) l (-1))
def iy(d:Document):Bool:=((((((((((((decide (0<=d.No)&&decide (d.No<4096))&&(gm d.At))&&decide (0<=d.Kind))&&decide (d.Kind<16))&&decide (0<=d.Value))&&decide (d.Value<=1099511627776))&&decide (0<=d.From))&&decide (d.From<d.Until))&&decide (d.Until<=1099511627776))&&(dK d.Parties 1048577))&&(dK d.Revokes d.No))&&(dK d.Needs d.No))
def fA(no:Int)(v0:gB):Bool:=(!(mhas v0.at_ no))
def fH(s:gB)(d:Document):Bool:=((!(da d.Revokes (λcj=>fA cj s)))&&(!(da d.Needs (λcj=>fA cj s))))
def bz.K1  : Int:=0
def bz.L1(l:List Document)(k:Int):List Document->Nat->Int
 |[],i1=>(k)
 |y1::rz1,i1=>(bif(((!(iy y1))||(decide (0<(i1:Int))&&decide (y1.No<=(nthI l ((i1:Int)-1)).No)))||(!(fH (ay l) y1)))then 170 else(bz.L1 l k rz1 (i1+1)))
def bz(l:List Document):Int:=(bif(decide (4096<(l.length:Int)))then 2 else((bz.L1 l (bz.K1)) l 0))
def iu(eS:Int)(v0:Int):Bool:=(decide (eS<0)||decide (v0<eS))
def dw(most:Int)(l:List Int):Bool:=(!(da l (λcj=>iu cj most)))
def jr(x:Approval):Bool:=(((((dw 1048576 ([x.No]))&&(dw 1099511627775 ([x.At,x.Known])))&&(dw 4095 ([x.Doc])))&&(dw 63 ([x.By,x.For])))&&(dw 31 ([x.Office])))
def bX.K1(gZ:Int):Int:=0
def bX.L1(k:Int->Int):List Approval->Int->Int
 |[],gZ=>(k gZ)
 |y1::rz1,gZ=>(bif((!(jr y1))||decide (y1.No<=gZ))then 280 else(bX.L1  k rz1 y1.No))
def bX(l:List Approval):Int:=(bif(decide (4096<(l.length:Int)))then 2 else((bX.L1 (bX.K1)) l (-1)))
def et.K1  : Int:=0
def et.L1(bG:Register)(k:Int):List Nat->Nat->Int
 |[],i1=>(k)
 |y1::rz1,i1=>(bif((nthI ([(dq bG.Appoints),(dH bG.Deputies),(dh bG.Interests),(cR bG.Budgets),(bJ bG.Versions),(bz bG.Docs),(bX bG.Approvals)]) (i1:Int)) != 0)then 300 else(et.L1 bG k rz1 (i1+1)))
def et(bG:Register):Int:=((et.L1 bG (et.K1)) (jJ 7) 0)
def mH(t:Int):Bool:=(decide (0<=t)&&decide (t<1099511627776))
def ad.K1  : Int:=(-1)
def ad.L1(f:(Document->Bool))(k:Int):List Document->Nat->Int
 |[],i1=>(k)
 |y1::rz1,i1=>(bif(f y1)then(i1:Int)else(ad.L1 f k rz1 (i1+1)))
def ad(s:List Document)(f:(Document->Bool)):Int:=((ad.L1 f (ad.K1)) s 0)
def cv(d:Document)(v0:Int):Bool:=(d.No==v0)
def dx(bG:Register)(doc:Int)(known:Int):(aD×Bool):=(bif(decide ((ad bG.Docs (λcj=>cv cj doc))<0)||(!(mH known)))then((aD.mk (qQ ([]) ([]) ([]) ([]) ([]) ([]) ([])) (SR 0 0 0 0 0 0 ([]) ([]) ([]) (λ_=>0)) 0),false)else((aD.mk bG (nthI bG.Docs (ad bG.Docs (λcj=>cv cj doc))) known),true))
def iQ.K1(gZ:Int):Bool:=true
def iQ.L1(k:Int->Bool):List Int->Int->Bool
 |[],gZ=>(k gZ)
 |y1::rz1,gZ=>(bif(decide (y1<=gZ)||decide (64<=y1))then false else(iQ.L1  k rz1 y1))
def iQ(who:List Int):Bool:=((iQ.L1 (iQ.K1)) who (-1))
def cmp_isNaN_int(x:Int):Bool:=(x != x)
def aS.K1  : List Span:=[]
def aS.L1(l:List Int)(k:List Span):List Int->Nat->List Span
 |[],i1=>(k)
 |y1::rz1,i1=>(bif(decide ((((i1+1):Nat):Int)<(l.length:Int)))then(bif(decide (y1<(min 1099511627776 (nthI l (((i1+1):Nat):Int)))))then((qW y1 (min 1099511627776 (nthI l (((i1+1):Nat):Int))))::(aS.L1 l k rz1 (i1+1)))else(aS.L1 l k rz1 (i1+1)))else(bif(decide (y1<1099511627776))then((qW y1 1099511627776)::(aS.L1 l k rz1 (i1+1)))else(aS.L1 l k rz1 (i1+1))))
def aS(l:List Int):List Span:=((aS.L1 l (aS.K1)) l 0)
def aE.L4(q:aD)(k:(List (Int×Bool))->List Span):List Rule->(List (Int×Bool))->List Span
 |[],vg=>(k vg)
 |y4::rz4,vg=>(aE.L4 q k rz4 (mput vg (q.doc.At+y4.Think) true))
def aE.L5(q:aD)(k:(List (Int×Bool))->List Span):List Rule->(List (Int×Bool))->List Span
 |[],lZ=>(k lZ)
 |y5::rz5,lZ=>(aE.L5 q k rz5 (mput lZ (q.doc.At+y5.Think) true))
def aE.K3(gz:List (Int×Bool)):List Span:=(aS (sortI (gz.map Prod.fst)))
def aE.L3(q:aD)(k:(List (Int×Bool))->List Span):List Version->(List (Int×Bool))->List Span
 |[],gz=>(k gz)
 |y3::rz3,gz=>((aE.L5 q (λzg5_b2_0=>(aE.L3 q k rz3 zg5_b2_0))) y3.Policy.Rules (mput gz y3.At true))
def aE.K2(q:aD)(j8:List (Int×Bool)):List Span:=((aE.L3 q (aE.K3)) q.Register.Versions j8)
def aE.L2(k:(List (Int×Bool))->List Span):List Interest->(List (Int×Bool))->List Span
 |[],j8=>(k j8)
 |y2::rz2,j8=>(aE.L2  k rz2 (mput j8 y2.At true))
def aE.K1(q:aD)(aZ:List (Int×Bool)):List Span:=((aE.L2 (aE.K2 q)) q.Register.Interests aZ)
def aE.L1(k:(List (Int×Bool))->List Span):List Appoint->(List (Int×Bool))->List Span
 |[],aZ=>(k aZ)
 |y1::rz1,aZ=>(aE.L1  k rz1 (mput aZ y1.At true))
def aE(q:aD):List Span:=((aE.L1 (aE.K1 q)) q.Register.Appoints (mput (mput (mput ([]) 0 true) q.doc.At true) q.doc.Until true))
def je(l:List Version)(old:Bool):List Version:=l
def iI(l:List Version)(old:Bool):List Version:=(bif(!old)then[]else(l.take ((1:Int)).toNat))
def jd(l:List Version)(old:Bool):List Version:=(l.drop ((((l.length:Int)-1):Int)).toNat)
def lQ  : (List (Int×Value)):=(mput (mput (mput (mput ([]) 1 (Value.func (.func 187) #[] #[])) 2 (Value.func (.func 188) #[] #[])) 3 (Value.func (.func 186) #[] #[])) 4 (Value.func (.func 186) #[] #[]))
def judgesP(mode:Int)(l:List Version)(old:Bool):List Version:=bif mode==1 then iI l old else bif mode==2 then jd l old else je l old
def gj(mode:Int)(permits:List Bool):Int:=(bif(!(mhas lQ mode))then 270 else(bif(decide (256<(permits.length:Int)))then 1 else 0))
def ey.K1  : Int:=(-1)
def ey.L1(f:(Bool->Bool))(k:Int):List Bool->Nat->Int
 |[],i1=>(k)
 |y1::rz1,i1=>(bif(f y1)then(i1:Int)else(ey.L1 f k rz1 (i1+1)))
def ey(s:List Bool)(f:(Bool->Bool)):Int:=((ey.L1 f (ey.K1)) s 0)
def cM(l:List Bool)(ok:(Bool->Bool)):Int:=(ey l ok)
def eI(Fm:Bool):Bool:=Fm
def fM(Fm:Bool):Bool:=(!Fm)
def aX.K1(permits:List Bool)(sN:List Int):(List Int×Bool×Int):=(sN,decide (0<=(cM permits eI)),0)
def aX.L1(k:List Int->(List Int×Bool×Int)):List Bool->Nat->List Int->(List Int×Bool×Int)
 |[],i1,sN=>(k sN)
 |y1::rz1,i1,sN=>(aX.L1  k rz1 (i1+1) (sN++[(i1:Int)]))
def aX.K2(permits:List Bool)(FQ:List Int):(List Int×Bool×Int):=(FQ,(((permits.length:Int)==1)&&(nthI permits 0)),0)
def aX.L2(k:List Int->(List Int×Bool×Int)):List Bool->Nat->List Int->(List Int×Bool×Int)
 |[],i2,FQ=>(k FQ)
 |y2::rz2,i2,FQ=>(aX.L2  k rz2 (i2+1) (FQ++[(i2:Int)]))
def aX.K3(FP:List Int):(List Int×Bool×Int):=(FP,false,0)
def aX.L3(k:List Int->(List Int×Bool×Int)):List Bool->Nat->List Int->(List Int×Bool×Int)
 |[],i3,FP=>(k FP)
 |y3::rz3,i3,FP=>(aX.L3  k rz3 (i3+1) (FP++[(i3:Int)]))
def aX(mode:Int)(permits:List Bool):(List Int×Bool×Int):=(bif((gj mode permits) != 0)then([],false,(gj mode permits))else(bif((mode==4)&&decide (0<=(cM permits eI)))then([(cM permits eI)],true,0)else(bif((mode==3)&&decide (0<=(cM permits fM)))then([(cM permits fM)],false,0)else(bif(mode==3)then((aX.L1 (aX.K1 permits)) permits 0 ([]))else(bif(mode != 4)then((aX.L2 (aX.K2 permits)) permits 0 ([]))else((aX.L3 (aX.K3)) permits 0 ([])))))))
def fP(mode:Int)(permits:List Bool):(Bool×Int):=((aX mode permits).2.1,(aX mode permits).2.2)
def cq.K1(person:Int)(parties:List Int)(fa:Int)(known:Int)(GS:Int):Int:=(bif((((!(bA person 64))||decide (16<(parties.length:Int)))||(!(bA fa 1099511627776)))||(!(bA known 1099511627776)))then 1 else 0)
def cq.L1(k:Int->Int):List Int->Int->Int
 |[],GS=>(k GS)
 |y1::rz1,GS=>(bif(decide (y1<=GS)||decide (1048576<y1))then 1 else(cq.L1  k rz1 y1))
def cq(l:List Interest)(person:Int)(parties:List Int)(fa:Int)(known:Int):Int:=(bif((dh l) != 0)then(dh l)else((cq.L1 (cq.K1 person parties fa known)) parties (-1)))
def bT.K1  : List Interest:=[]
def bT.L1(v1:List (dL×Interest))(k:List Interest):List Interest->List Interest
 |[]=>(k)
 |y1::rz1=>(bif((!y1.Gone)&&(decide ((mgetD v1 (dL.mk y1.Person y1.Party y1.Of) (zW 0 0 0 0 0 false false))=y1)))then(y1::(bT.L1 v1 k rz1))else(bT.L1 v1 k rz1))
def bT(v0:List Interest)(v1:List (dL×Interest)):List Interest:=((bT.L1 v1 (bT.K1)) v0)
def cx.K1(l:List Interest)(aZ:List (dL×Interest)):List Interest:=(bT l aZ)
def cx.L1(jU:Int)(known:Int)(k:(List (dL×Interest))->List Interest):List Interest->(List (dL×Interest))->List Interest
 |[],aZ=>(k aZ)
 |y1::rz1,aZ=>(bif(decide (jU<y1.At)||decide (known<y1.Known))then(cx.L1 jU known k rz1 aZ)else(bif((!(mhas aZ (dL.mk y1.Person y1.Party y1.Of)))||decide ((mgetD aZ (dL.mk y1.Person y1.Party y1.Of) (zW 0 0 0 0 0 false false)).At<=y1.At))then(cx.L1 jU known k rz1 (mput aZ (dL.mk y1.Person y1.Party y1.Of) y1))else(cx.L1 jU known k rz1 aZ)))
def cx(l:List Interest)(jU:Int)(known:Int):List Interest:=((cx.L1 jU known (cx.K1 l)) l ([]))
def conPut(w:gN)(m:List (Int×Bool))(q:List gN):List (Int×Bool)×List gN:=bif mgetD m w.to false then(m,q)else(mput m w.to true,q++[w])
def conFill(person:Int):List Interest->List (Int×List Interest)->List (Int×Bool)->List gN->List (Int×List Interest)×List (Int×Bool)×List gN
 |[],f,m,q=>(f,m,q)
 |x::l,f,m,q=>bif x.Of then conFill person l (mput f x.Person (mgetD f x.Person []++[x])) m q
  else bif x.Person==person then conFill person l f (conPut ⟨[x.No],x.Party⟩ m q).1 (conPut ⟨[x.No],x.Party⟩ m q).2 else conFill person l f m q
def conStep(path:List Int):List Interest->List (Int×Bool)->List gN->List (Int×Bool)×List gN
 |[],m,q=>(m,q)
 |x::l,m,q=>conStep path l (conPut ⟨path++[x.No],x.Party⟩ m q).1 (conPut ⟨path++[x.No],x.Party⟩ m q).2
def conLoop(parties:List Int)(f:List (Int×List Interest)):Nat->List (Int×Bool)->List gN->List Int×Bool
 |0,_,_=>([],false)
 |_+1,_,[]=>([],false)
 |n+1,m,w::q=>bif parties.contains w.to then(w.path,true)else bif(w.path.length:Int)==8 then conLoop parties f n m q
  else conLoop parties f n (conStep w.path (mgetD f w.to []) m q).1 (conStep w.path (mgetD f w.to []) m q).2
def conFind(l:List Interest)(person:Int)(parties:List Int)(st:List Interest):List Int×Bool:=
 conLoop parties (conFill person st [] [] []).1 (l.length+1) (conFill person st [] [] []).2.1 (conFill person st [] [] []).2.2
def cQ(l:List Interest)(person:Int)(parties:List Int)(fa:Int)(known:Int):List Int×Bool×Int:=
 bif cq l person parties fa known != 0 then([],false,cq l person parties fa known)
 else((conFind l person parties (cx l fa known)).1,(conFind l person parties (cx l fa known)).2,0)
def uI(h:HF):List Value->List gN->Prop
 |[],[]=>True
 |v::vs,w::ws=>(∃r,v=.agg (gN.cells w r).toArray/\gN.ok h w r)/\uI h vs ws
 |_,_=>False
def V3(_:HF)(v:Value)(x:Option Addr×Nat×Nat):Prop:=v=.slice x.1 x.2.1 x.2.2
def FR(h:HF):List (Int×Option Addr×Nat×Nat)->List (Int×List Interest)->LH->Prop
 |[],[],G=>G=[]
 |(k,x)::m,(k',xs)::f,G=>k=k'/\x.2.1=xs.length/\∃G1 G2,G=G1++G2/\dA Interest.rp 54 h xs x.1 x.2.2 G1/\FR h m f G2
 |_,_,_=>False
def uK(st:List Interest)(m:List (Int×Bool))(q:List gN):Prop:=(∀p∈m,p.2=true/\p.1∈st.map (·.Party))/\q.length<=m.length/\∀w∈q,w.path.length<=8
def L8(st:List Interest)(f:List (Int×List Interest)):Prop:=∀k,∀x∈mgetD f k [],x∈st
def bQ(eS:Int)(q:aD)(at_:Int):Bool:=(((cQ q.Register.Interests eS q.doc.Parties at_ q.known).2.2 != 0)||(cQ q.Register.Interests eS q.doc.Parties at_ q.known).2.1)
def ce(s:List Int)(del:Int->Bool):List Int:=s.filter λx=>!(del x)
def fm.K1  : Int:=(-1)
def fm.L1(v:Int)(k:Int):List Int->Nat->Int
 |[],i1=>(k)
 |y1::rz1,i1=>(bif(v==y1)then(i1:Int)else(fm.L1 v k rz1 (i1+1)))
def fm(s:List Int)(v:Int):Int:=((fm.L1 v (fm.K1)) s 0)
def eH(s:List Int)(v:Int):Bool:=decide (0<=(fm s v))
def fN(eS:Int):Bool:=(decide (0<=eS)&&decide (eS<1099511627776))
def bH.K2  : (List (Int×Version)):=[]
def bH.L2(bC:List (Int×Version))(k:List (Int×Version)):List Int->(List (Int×Version))
 |[]=>(k)
 |y2::rz2=>((y2,(mgetD bC y2 (Sv 0 0 0 (qM (⟨#[]⟩:ByteArray) [] [] [] (vG 0 0 0 (⟨#[]⟩:ByteArray) []) 0))))::(bH.L2 bC k rz2))
def bH.K1(nn:Int)(bC:List (Int×Version)):(List (Int×Version)):=((bH.L2 bC (bH.K2)) (sortI (bC.map Prod.fst)))
def bH.L1(known:Int)(eW:Int)(k:Int->(List (Int×Version))->(List (Int×Version))):List Version->Int->(List (Int×Version))->(List (Int×Version))
 |[],nn,bC=>(k nn bC)
 |y1::rz1,nn,bC=>(bif(decide (known<y1.Known))then(bH.L1 known eW k rz1 nn bC)else(bif(decide (y1.At<=eW))then(bif(decide (y1.At<nn))then(bH.L1 known eW k rz1 nn bC)else(bH.L1 known eW k rz1 y1.At (mput bC eW y1)))else(bH.L1 known eW k rz1 nn (mput bC y1.At y1))))
def bH(l:List Version)(known:Int)(eW:Int):(List (Int×Version)):=((bH.L1 known eW (bH.K1)) l (-1) ([]))
def gg(l:List Version)(dR:Int)(known:Int):(List (Int×Version)):=(bH l known dR)
def aK.K2(aF:List Version)(rn:List Int):(List Int×Int×Int):=((sortI rn),(nthI aF ((aF.length:Int)-1)).Policy.Mode,0)
def aK.L2(k:List Int->(List Int×Int×Int)):List Version->List Int->(List Int×Int×Int)
 |[],rn=>(k rn)
 |y2::rz2,rn=>(aK.L2  k rz2 (rn++[y2.No]))
def aK.K1(eL:Bool)(aF:List Version):(List Int×Int×Int):=(bif((aF.length:Int)==0)then([],0,0)else((aK.L2 (aK.K2 aF)) (judgesP ((nthI aF ((aF.length:Int)-1)).Policy.Mode) aF eL) ([])))
def aK.L1(begun:Int)(ba:Int)(k:Bool->List Version->(List Int×Int×Int)):List (Int×Version)->Bool->List Version->(List Int×Int×Int)
 |[],eL,aF=>k eL aF
 |y1::rz1,eL,aF=>(bif(decide (ba<y1.1))then(k eL aF)else(aK.L1 begun ba k rz1 (eL||(y1.1==begun)) (aF++[y1.2])))
def aK(l:List Version)(begun:Int)(ba:Int)(known:Int):(List Int×Int×Int):=(bif((bJ l) != 0)then([],0,(bJ l))else(bif((((!(fN begun))||(!(fN ba)))||(!(fN known)))||decide (ba<begun))then([],0,1)else((aK.L1 begun ba (aK.K1)) (gg l begun known) false ([]))))
def aB.K1(q:aD)(jU:Int)(sN:List Policy):(List Policy×Int):=(sN,(aK q.Register.Versions q.doc.At jU q.known).2.1)
def aB.L1(q:aD)(jU:Int)(k:List Policy->(List Policy×Int)):List Version->List Policy->(List Policy×Int)
 |[],sN=>(k sN)
 |y1::rz1,sN=>(bif(eH ((aK q.Register.Versions q.doc.At jU q.known).1) y1.No)then(aB.L1 q jU k rz1 (sN++[y1.Policy]))else(aB.L1 q jU k rz1 sN))
def aB(q:aD)(jU:Int):(List Policy×Int):=(bif((aK q.Register.Versions q.doc.At jU q.known).2.2 != 0)then([],0)else((aB.L1 q jU (aB.K1 q jU)) q.Register.Versions ([])))
def er.K1(gZ:Int):Bool:=true
def er.L1(k:Int->Bool):List Int->Int->Bool
 |[],gZ=>(k gZ)
 |y1::rz1,gZ=>(bif(decide (y1<=gZ)||decide (64<=y1))then false else(er.L1  k rz1 y1))
def er(who:List Int):Bool:=((er.L1 (er.K1)) who (-1))
def dI.L2(k:List Int->Bool):List Holder->List Int->Bool
 |[],QJ=>(k QJ)
 |y2::rz2,QJ=>(bif(decide (y2.Weight<1)||decide (64<y2.Weight))then false else(dI.L2  k rz2 (QJ++[y2.Person])))
def dI.L3(k:List Int->Bool):List Holder->List Int->Bool
 |[],MB=>(k MB)
 |y3::rz3,MB=>(bif(decide (y3.Weight<1)||decide (64<y3.Weight))then false else(dI.L3  k rz3 (MB++[y3.Person])))
def dI.K1(holders:List (List Holder))(offices:Int):Bool:=((holders.length:Int)==offices)
def dI.L1(k:Bool):List (List Holder)->Bool
 |[]=>(k)
 |y1::rz1=>((dI.L3 (λzg3_7=>(bif(!(er zg3_7))then false else(dI.L1  k rz1)))) y1 ([]))
def dI(holders:List (List Holder))(offices:Int):Bool:=((dI.L1 (dI.K1 holders offices)) holders)
def bY.K1  : List Holder:=[]
def bY.L1(q:aY)(k:List Holder):List Holder->List Holder
 |[]=>(k)
 |y1::rz1=>(bif((slices_BinarySearch_int q.who y1.Person).2)then(y1::(bY.L1 q k rz1))else(bY.L1 q k rz1))
def bY(q:aY)(office:Int):List Holder:=((bY.L1 q (bY.K1)) (nthI q.holders office))
def dO(q:aY)(office:Int):List Holder:=(bY q office)
def dM.K1(aF:Bool):Bool:=false
def dM.L1(k:Bool->Bool):List Holder->Bool->Bool
 |[],aF=>k aF
 |y1::rz1,aF=>true
def dM(q:aY)(x:Expr):Bool:=((dM.L1 (dM.K1)) (dO q x.No) false)
def cz.K1(x:Expr)(aF:Int):Bool:=decide (x.N<=aF)
def cz.L1(k:Int->Bool):List Holder->Int->Bool
 |[],aF=>k aF
 |y1::rz1,aF=>(cz.L1 k rz1 (zE .i64 (aF+y1.Weight)))
def cz(q:aY)(x:Expr):Bool:=((cz.L1 (cz.K1 x)) (dO q x.No) 0)
def dC.K1(x:Expr)(jm:Int):Bool:=decide (x.N<=jm)
def dC.L1(rec:aY->Expr->Bool)(q:aY)(k:Int->Bool):List Expr->Int->Bool
 |[],jm=>(k jm)
 |y1::rz1,jm=>(bif(rec q y1)then(dC.L1 rec q k rz1 (zE .i64 (jm+1)))else(dC.L1 rec q k rz1 jm))
def dC.F(rec:aY->Expr->Bool)(q:aY)(x:Expr):Bool:=((dC.L1 rec q (dC.K1 x)) x.L 0)
def jj.F(rec:aY->Expr->Bool)(q:aY)(x:Expr):Bool:=(bif(decide (q.value<=x.N))then(rec q (nthI x.L 0))else(rec q (nthI x.L 1)))
def fulQ(rec:aY->Expr->Bool)(q:aY)(x:Expr):Bool:=if x.Kind=1 then dM q x else if x.Kind=2 then cz q x else if x.Kind=3 then dC.F rec q x else jj.F rec q x
def bR.F(rec:aY->Expr->Bool)(q:aY)(x:Expr):Bool:=(fulQ rec q x)
def bR.go:Nat->aY->Expr->Bool
 |0=>λ_ _=>default
 |m+1=>bR.F (bR.go m)
def bR(q:aY)(x:Expr):Bool:=bR.go x.dep q x
def bU(p:Policy)(kind:Int)(value:Int)(holders:List (List Holder))(who:List Int):(Bool×Int):=(bif((cT p) != 0)then(false,(cT p))else(bif(((decide (kind<0)||decide ((p.Kinds.length:Int)<=kind))||decide (value<0))||decide (1099511627776<value))then(false,1)else(bif(!(dI holders (p.Offices.length:Int)))then(false,210)else(bif(!(er who))then(false,1)else((bR (aY.mk value holders who) ((nthI p.Rules kind).Expr)),0)))))
def cy.K1(bC:List Holder):List Holder:=bC
def cy.L1(k:List Holder->List Holder):List Holder->List Holder->List Holder
 |[],bC=>k bC
 |y1::rz1,bC=>(cy.L1 k rz1 (bC++[y1]))
def cy(seq:List Holder):List Holder:=((cy.L1 (cy.K1)) seq ([]))
def gp(seq:List Holder):List Holder:=(cy seq)
def cmp_Compare_int(x:Int)(y:Int):Int:=(bif(cmp_isNaN_int x)then(bif(cmp_isNaN_int y)then 0 else(-1))else(bif(cmp_isNaN_int y)then 1 else(bif(decide (x<y))then(-1)else(bif(decide (y<x))then 1 else 0))))
def cd.K1  : List Holder:=[]
def cd.L1(m:List (OSeat×Appoint))(office:Int)(k:List Holder):List OSeat->List Holder
 |[]=>(k)
 |y1::rz1=>(bif((y1.office==office)&&(!((mgetD m y1 (kF 0 0 0 0 0 0 false)).Gone)))then((UA ((mgetD m y1 (kF 0 0 0 0 0 0 false)).Person) ((mgetD m y1 (kF 0 0 0 0 0 0 false)).Weight))::(cd.L1 m office k rz1))else(cd.L1 m office k rz1))
def cd(m:List (OSeat×Appoint))(office:Int):List Holder:=((cd.L1 m office (cd.K1)) (seatS (m.map Prod.fst)))
def jq(m:List (OSeat×Appoint))(office:Int):List Holder:=(cd m office)
def fC(x:Appoint)(v0:Int)(v1:Int):(OSeat×Bool):=((S7 x.Office x.Person),(decide (x.At<=v0)&&decide (x.Known<=v1)))
def cW.K1(bC:List (OSeat×Appoint)):(List (OSeat×Appoint)):=bC
def cW.L1(key:(Appoint->OSeat×Bool))(later:(Appoint->Appoint->Bool))(k:(List (OSeat×Appoint))->(List (OSeat×Appoint))):List Appoint->(List (OSeat×Appoint))->(List (OSeat×Appoint))
 |[],bC=>(k bC)
 |y1::rz1,bC=>(bif((key y1).2&&((!(mhas bC ((key y1).1)))||(!(later (mgetD bC ((key y1).1) (kF 0 0 0 0 0 0 false)) y1))))then(cW.L1 key later k rz1 (mput bC ((key y1).1) y1))else(cW.L1 key later k rz1 bC))
def cW(l:List Appoint)(key:(Appoint->OSeat×Bool))(later:(Appoint->Appoint->Bool)):(List (OSeat×Appoint)):=((cW.L1 key later (cW.K1)) l ([]))
def kw(a:Appoint)(ku:Appoint):Bool:=decide (ku.At<a.At)
def dp(l:List Appoint)(jU:Int)(known:Int):(List (OSeat×Appoint)):=(cW l (λcj=>fC cj jU known) kw)
def dg(l:List Appoint)(office:Int)(ba:Int)(known:Int):(List Holder×Int):=(bif((dq l) != 0)then([],(dq l))else(bif(((!(fo office))||(!(cZ ba)))||(!(cZ known)))then([],1)else((gp (jq (dp l ba known) office)),0)))
def aG.K1(nn:List (List Holder)):(List (List Holder)):=nn
def aG.L1(q:aD)(ba:Int)(k:(List (List Holder))->(List (List Holder))):List ByteArray->Nat->(List (List Holder))->(List (List Holder))
 |[],i1,nn=>(k nn)
 |y1::rz1,i1,nn=>(aG.L1 q ba k rz1 (i1+1) (nn++[(dg q.Register.Appoints (i1:Int) ba q.known).1]))
def aG(q:aD)(p:Policy)(ba:Int):(List (List Holder)):=((aG.L1 q ba (aG.K1)) p.Offices 0 ([]))
def bF.K1(q:aD)(ba:Int)(zU:List Bool):Bool:=((fP ((aB q ba).2) zU).1&&((fP ((aB q ba).2) zU).2==0))
def bF.L1(q:aD)(who:List Int)(ba:Int)(k:List Bool->Bool):List Policy->List Bool->Bool
 |[],zU=>(k zU)
 |y1::rz1,zU=>(bif(decide (q.doc.Kind<(y1.Rules.length:Int))&&decide ((q.doc.At+(nthI y1.Rules q.doc.Kind).Think)<=ba))then(bF.L1 q who ba k rz1 (zU++[((bU y1 q.doc.Kind q.doc.Value (aG q y1 ba) (ce who (λcj=>bQ cj q ba))).1&&((bU y1 q.doc.Kind q.doc.Value (aG q y1 ba) (ce who (λcj=>bQ cj q ba))).2==0))]))else(bF.L1 q who ba k rz1 (zU++[(decide (q.doc.Kind<(y1.Rules.length:Int))&&decide ((q.doc.At+(nthI y1.Rules q.doc.Kind).Think)<=ba))])))
def bF(q:aD)(who:List Int)(ba:Int):Bool:=(bif(decide (ba<q.doc.At)||decide (q.doc.Until<=ba))then false else((bF.L1 q who ba (bF.K1 q ba)) ((aB q ba).1) ([])))
def eu.K1(aF:List Span):(List Span×Int):=(aF,0)
def eu.L1(bG:Register)(doc:Int)(who:List Int)(known:Int)(k:List Span->(List Span×Int)):List Span->List Span->(List Span×Int)
 |[],aF=>k aF
 |y1::rz1,aF=>(bif(!(bF ((dx bG doc known).1) who y1.From))then(eu.L1 bG doc who known k rz1 aF)else(bif(decide (0<(aF.length:Int))&&((nthI aF ((aF.length:Int)-1)).Until==y1.From))then(eu.L1 bG doc who known k rz1 (aF.set (((aF.length:Int)-1):Int).toNat (qW (nthI aF ((aF.length:Int)-1)).From y1.Until)))else(eu.L1 bG doc who known k rz1 (aF++[y1]))))
def eu(bG:Register)(doc:Int)(who:List Int)(known:Int):(List Span×Int):=(bif((et bG) != 0)then([],300)else(bif((!((dx bG doc known).2))||(!(iQ who)))then([],1)else((eu.L1 bG doc who known (eu.K1)) (aE ((dx bG doc known).1)) ([]))))
def bN  : Register:=(qQ ([(kF 1 0 0 0 1 1 false),(kF 2 0 0 0 2 1 false),(kF 3 20 30 0 3 1 false)]) ([]) ([]) ([]) ([(Sv 7 0 0 (qM (⟨#[112]⟩:ByteArray) ([(⟨#[107]⟩:ByteArray)]) ([(⟨#[104,101,97,100]⟩:ByteArray)]) ([(SE (⟨#[107]⟩:ByteArray) 0 5 (vG 2 2 0 (⟨#[104,101,97,100]⟩:ByteArray) ([])))]) (vG 2 2 0 (⟨#[104,101,97,100]⟩:ByteArray) ([])) 2))]) ([(SR 4 10 0 0 0 100 ([6]) ([]) ([]) (λ_=>0))]) ([]))
def bp.L3(k:(List (Int×Bool))->List Int):List Holder->(List (Int×Bool))->List Int
 |[],gz=>(k gz)
 |y3::rz3,gz=>(bp.L3  k rz3 (mput gz y3.Person true))
def bp.L4(k:(List (Int×Bool))->List Int):List Holder->(List (Int×Bool))->List Int
 |[],vg=>(k vg)
 |y4::rz4,vg=>(bp.L4  k rz4 (mput vg y4.Person true))
def bp.L2(k:(List (Int×Bool))->List Int):List (List Holder)->(List (Int×Bool))->List Int
 |[],j8=>(k j8)
 |y2::rz2,j8=>((bp.L4 (λzg4_b2_0=>(bp.L2  k rz2 zg4_b2_0))) y2 j8)
def bp.L6(k:(List (Int×Bool))->List Int):List Holder->(List (Int×Bool))->List Int
 |[],HO=>(k HO)
 |y6::rz6,HO=>(bp.L6  k rz6 (mput HO y6.Person true))
def bp.L7(k:(List (Int×Bool))->List Int):List Holder->(List (Int×Bool))->List Int
 |[],tI=>(k tI)
 |y7::rz7,tI=>(bp.L7  k rz7 (mput tI y7.Person true))
def bp.L5(k:(List (Int×Bool))->List Int):List (List Holder)->(List (Int×Bool))->List Int
 |[],lZ=>(k lZ)
 |y5::rz5,lZ=>((bp.L7 (λzg7_b2_0=>(bp.L5  k rz5 zg7_b2_0))) y5 lZ)
def bp.K1(person:Int)(aZ:List (Int×Bool)):List Int:=(sortI ((mdel aZ person).map Prod.fst))
def bp.L1(q:aD)(ba:Int)(k:(List (Int×Bool))->List Int):List Policy->(List (Int×Bool))->List Int
 |[],aZ=>(k aZ)
 |y1::rz1,aZ=>((bp.L5 (λzg5_b2_0=>(bp.L1 q ba k rz1 zg5_b2_0))) (aG q y1 ba) aZ)
def bp(q:aD)(person:Int)(ba:Int):List Int:=(bif(decide (ba<q.doc.At))then[]else((bp.L1 q ba (bp.K1 person)) ((aB q ba).1) ([])))
def tryP(c:List Int->Bool)(help:List Int):Nat->Nat->List Int->Option (List Int)
 |0,_,ws=>bif c ws then some ws else none
 |m+1,fr,ws=>(List.range' fr (help.length-m-fr)).findSome? λi=>tryP c help m (i+1) (ws++[nthI help (i:Int)])
def needC(q:aD)(person at_:Int)(ws:List Int):Bool:=bF q (sortI (ws++[person])) at_
def needLoop(c:List Int->Bool)(help:List Int):Option (List Int):=(List.range' 0 (help.length+1)).findSome? λmany=>tryP c help many 0 []
def iS(bG:Register)(doc:Int)(person:Int)(fa:Int)(known:Int):List Int×Bool×Int:=
 bif(et bG) != 0 then([],false,300)
 else bif((((!((dx bG doc known).2))||decide (person<0))||decide (64<=person))||(!(mH fa)))then([],false,1)
 else bif decide (12<((bp (dx bG doc known).1 person fa).length:Int))then([],false,2)
 else match needLoop (needC (dx bG doc known).1 person fa) (bp (dx bG doc known).1 person fa)with
  |some l=>(l,true,0)
  |none=>([],false,0)
def gR.K1  : Bool:=true
def gR.L1(ku:List Span)(k:Bool):List Span->Nat->Bool
 |[],i1=>(k)
 |y1::rz1,i1=>(bif(!(decide (y1=(nthI ku (i1:Int)))))then false else(gR.L1 ku k rz1 (i1+1)))
def gR(a:List Span)(ku:List Span):Bool:=(bif((a.length:Int) != (ku.length:Int))then false else((gR.L1 ku (gR.K1)) a 0))
def CD(bG:Register)(known:Int)(who:List Int)(want:List Span):Bool:=(((eu bG 4 who known).2==0)&&(gR ((eu bG 4 who known).1) want))
def u0  : Bool:=true
def fh(eS:Int):Bool:=(decide (0<=eS)&&decide (eS<1099511627776))
def fY.K1(jm:Int):Int:=jm
def fY.L1(rec:Expr->Int->Int)(limit:Int)(k:Int->Int):List Expr->Int->Int
 |[],jm=>(k jm)
 |y1::rz1,jm=>(bif(decide (jm<=limit))then(fY.L1 rec limit k rz1 (zE .i64 (jm+(rec y1 (zE .i64 (limit-jm))))))else(k jm))
def fY.F(rec:Expr->Int->Int)(x:Expr)(limit:Int):Int:=((fY.L1 rec limit (fY.K1)) x.L 1)
def fY.go:Nat->Expr->Int->Int
 |0=>λ_ _=>default
 |m+1=>fY.F (fY.go m)
def fY(x:Expr)(limit:Int):Int:=fY.go x.dep x limit
def el.L2(k:Bool):List Rule->Bool
 |[]=>(k)
 |y2::rz2=>(bif(decide (40<(fY y2.Expr 40)))then false else(el.L2  k rz2))
def el.L3(k:Bool):List Rule->Bool
 |[]=>(k)
 |y3::rz3=>(bif(decide (40<(fY y3.Expr 40)))then false else(el.L3  k rz3))
def el.K1  : Bool:=true
def el.L1(k:Bool):List Version->Bool
 |[]=>(k)
 |y1::rz1=>(bif(((decide (20<(y1.Policy.Kinds.length:Int))||decide (40<(y1.Policy.Offices.length:Int)))||decide (20<(y1.Policy.Rules.length:Int)))||decide (40<(fY y1.Policy.Change 40)))then false else((el.L3 ((el.L1  k rz1))) y1.Policy.Rules))
def el(l:List Version):Bool:=(bif(decide (5<(l.length:Int)))then false else((el.L1 (el.K1)) l))
def lS.K1  : Bool:=true
def lS.L1(k:Bool):List Document->Bool
 |[]=>(k)
 |y1::rz1=>(bif((decide (20<(y1.Parties.length:Int))||decide (20<(y1.Revokes.length:Int)))||decide (20<(y1.Needs.length:Int)))then false else(lS.L1  k rz1))
def lS(bG:Register):Bool:=(bif((((((decide (30<(bG.Appoints.length:Int))||decide (12<(bG.Deputies.length:Int)))||decide (12<(bG.Interests.length:Int)))||decide (12<(bG.Budgets.length:Int)))||decide (8<(bG.Docs.length:Int)))||decide (24<(bG.Approvals.length:Int)))||(!(el bG.Versions)))then false else((lS.L1 (lS.K1)) bG.Docs))
def nw(eS:Int):Bool:=(decide (0<=eS)&&decide (eS<1099511627776))
def pg(eS:Int):Bool:=(decide (0<=eS)&&decide (eS<32))
def pf(eS:Int):Bool:=(decide (0<=eS)&&decide (eS<64))
def jI(x:Appoint):Bool:=(bif(((((decide (x.No<0)||decide (1048576<x.No))||(!(nw x.At)))||(!(nw x.Known)))||(!(pg x.Office)))||(!(pf x.Person)))then false else(bif x.Gone then(x.Weight==0)else(decide (1<=x.Weight)&&decide (x.Weight<=64))))
def fZ.K1  : Int:=0
def fZ.L1(l:List Appoint)(k:Int):List Appoint->Nat->Int
 |[],i1=>(k)
 |y1::rz1,i1=>(bif((!(jI y1))||(decide (0<(i1:Int))&&decide (y1.No<=(nthI l ((i1:Int)-1)).No)))then 150 else(fZ.L1 l k rz1 (i1+1)))
def fZ(l:List Appoint):Int:=(bif(decide (4096<(l.length:Int)))then 2 else((fZ.L1 l (fZ.K1)) l 0))
def io(eS:Int)(low:Int)(high:Int):Bool:=(decide (low<=eS)&&decide (eS<=high))
def oC(eS:Int):Bool:=(io eS 0 1099511627775)
def mU(eS:Int):Bool:=(io eS 0 63)
def kj(x:Deputy):Bool:=(bif((((((!(io x.No 0 1048576))||(!(oC x.At)))||(!(oC x.Known)))||(!(mU x.From)))||(!(mU x.To)))||(x.From==x.To))then false else(bif((!(io x.Office 0 31))||(!(io x.Kind (-1) 15)))then false else(bif x.Gone then((x.Until==0)&&(x.Most==0))else((decide (x.At<x.Until)&&decide (x.Until<=1099511627776))&&(io x.Most 0 1099511627776)))))
def ij.K1  : Int:=0
def ij.L1(l:List Deputy)(k:Int):List Deputy->Nat->Int
 |[],i1=>(k)
 |y1::rz1,i1=>(bif((!(kj y1))||(decide (0<(i1:Int))&&decide (y1.No<=(nthI l ((i1:Int)-1)).No)))then 160 else(ij.L1 l k rz1 (i1+1)))
def ij(l:List Deputy):Int:=(bif(decide (4096<(l.length:Int)))then 2 else((ij.L1 l (ij.K1)) l 0))
def nv(t:Int):Bool:=(decide (0<=t)&&decide (t<1099511627776))
def nu(eS:Int):Bool:=(decide (0<=eS)&&decide (eS<=1048576))
def pb(eS:Int):Bool:=(decide (0<=eS)&&decide (eS<64))
def jz(x:Interest):Bool:=(bif((((decide (x.No<0)||decide (1048576<x.No))||(!(nv x.At)))||(!(nv x.Known)))||(!(nu x.Party)))then false else(bif x.Of then((nu x.Person)&&(x.Person != x.Party))else(pb x.Person)))
def fT.K1  : Int:=0
def fT.L1(l:List Interest)(k:Int):List Interest->Nat->Int
 |[],i1=>(k)
 |y1::rz1,i1=>(bif((!(jz y1))||(decide (0<(i1:Int))&&decide (y1.No<=(nthI l ((i1:Int)-1)).No)))then 290 else(fT.L1 l k rz1 (i1+1)))
def fT(l:List Interest):Int:=(bif(decide (4096<(l.length:Int)))then 2 else((fT.L1 l (fT.K1)) l 0))
def iK(eS:Int)(least:Int)(most:Int):Bool:=(decide (least<=eS)&&decide (eS<=most))
def mT(eS:Int):Bool:=(decide (0<=eS)&&decide (eS<1099511627776))
def kh(x:Budget):Bool:=(bif(((((!(iK x.No 0 1048576))||(!(mT x.At)))||(!(mT x.Known)))||(!(iK x.Kind (-1) 15)))||(!(iK x.Period 1 1099511627776)))then false else(bif x.Gone then((x.Count==0)&&(x.Value==0))else((iK x.Count 0 1048576)&&(iK x.Value 0 1099511627776))))
def ig.K1  : Int:=0
def ig.L1(l:List Budget)(k:Int):List Budget->Nat->Int
 |[],i1=>(k)
 |y1::rz1,i1=>(bif((!(kh y1))||(decide (0<(i1:Int))&&decide (y1.No<=(nthI l ((i1:Int)-1)).No)))then 180 else(ig.L1 l k rz1 (i1+1)))
def ig(l:List Budget):Int:=(bif(decide (4096<(l.length:Int)))then 2 else((ig.L1 l (ig.K1)) l 0))
def dz.K1(jm:Int):Int:=jm
def dz.L1(rec:Expr->Int->Int)(limit:Int)(k:Int->Int):List Expr->Int->Int
 |[],jm=>(k jm)
 |y1::rz1,jm=>(bif(decide (jm<=limit))then(dz.L1 rec limit k rz1 (zE .i64 (jm+(rec y1 (zE .i64 (limit-jm))))))else(k jm))
def dz.F(rec:Expr->Int->Int)(x:Expr)(limit:Int):Int:=((dz.L1 rec limit (dz.K1)) x.L 1)
def dz.go:Nat->Expr->Int->Int
 |0=>λ_ _=>default
 |m+1=>dz.F (dz.go m)
def dz(x:Expr)(limit:Int):Int:=dz.go x.dep x limit
def bK.K1(gZ:Int):Int:=(zE .i64 (gZ+1))
def bK.L1(rec:Expr->Int)(k:Int->Int):List Expr->Int->Int
 |[],gZ=>(k gZ)
 |y1::rz1,gZ=>(bK.L1 rec k rz1 (max gZ (rec y1)))
def bK.F(rec:Expr->Int)(x:Expr):Int:=((bK.L1 rec (bK.K1)) x.L 0)
def bK.go:Nat->Expr->Int
 |0=>λ_=>default
 |m+1=>bK.F (bK.go m)
def bK(x:Expr):Int:=bK.go x.dep x
def mL(x:Expr):Bool:=(decide (256<(dz x 256))||decide (16<(bK x)))
def gx.K1  : Bool:=false
def gx.L1(k:Bool):List Rule->Bool
 |[]=>(k)
 |y1::rz1=>(bif(mL y1.Expr)then true else(gx.L1  k rz1))
def gx(p:Policy):Bool:=(bif(((decide (32<(p.Offices.length:Int))||decide (16<(p.Kinds.length:Int)))||decide (16<(p.Rules.length:Int)))||(mL p.Change))then true else((gx.L1 (gx.K1)) p.Rules))
def lu(c:Int):Bool:=((decide (97<=c)&&decide (c<=122))||(decide (65<=c)&&decide (c<=90)))
def nP(c:Int):Bool:=(decide (48<=c)&&decide (c<=57))
def sn(c:Int):Bool:=(((lu c)||(nP c))||(c==95))
def ip.K1  : Bool:=true
def ip.L1(s:ByteArray)(k:Bool):List Nat->Nat->Bool
 |[],i1=>(k)
 |y1::rz1,i1=>(bif(!(sn ((s.data.getD ((i1:Int):Int).toNat 0).toNat:Int)))then false else(ip.L1 s k rz1 (i1+1)))
def ip(s:ByteArray):Bool:=(bif((decide ((s.size:Int)<1)||decide (32<(s.size:Int)))||(!(lu ((s.data.getD (0:Int).toNat 0).toNat:Int))))then false else((ip.L1 s (ip.K1)) (jJ s.size) 0))
def oB(s:ByteArray):Bool:=(bif(s.toList==(⟨#[112,111,108,105,99,121]⟩:ByteArray).toList)then(bif(s.toList==(⟨#[112,111,108,105,99,121]⟩:ByteArray).toList)then true else false)else(bif(s.toList==(⟨#[109,111,100,101]⟩:ByteArray).toList)then(bif(s.toList==(⟨#[109,111,100,101]⟩:ByteArray).toList)then true else false)else(bif(s.toList==(⟨#[111,108,100]⟩:ByteArray).toList)then(bif(s.toList==(⟨#[111,108,100]⟩:ByteArray).toList)then true else false)else(bif(s.toList==(⟨#[110,101,119]⟩:ByteArray).toList)then(bif(s.toList==(⟨#[110,101,119]⟩:ByteArray).toList)then true else false)else(bif(s.toList==(⟨#[98,111,116,104]⟩:ByteArray).toList)then(bif(s.toList==(⟨#[98,111,116,104]⟩:ByteArray).toList)then true else false)else(bif(s.toList==(⟨#[101,105,116,104,101,114]⟩:ByteArray).toList)then(bif(s.toList==(⟨#[101,105,116,104,101,114]⟩:ByteArray).toList)then true else false)else(bif(s.toList==(⟨#[111,102,102,105,99,101]⟩:ByteArray).toList)then(bif(s.toList==(⟨#[111,102,102,105,99,101]⟩:ByteArray).toList)then true else false)else(bif(s.toList==(⟨#[107,105,110,100]⟩:ByteArray).toList)then(bif(s.toList==(⟨#[107,105,110,100]⟩:ByteArray).toList)then true else false)else(bif(s.toList==(⟨#[114,117,108,101]⟩:ByteArray).toList)then(bif(s.toList==(⟨#[114,117,108,101]⟩:ByteArray).toList)then true else false)else(bif(s.toList==(⟨#[116,104,105,110,107]⟩:ByteArray).toList)then(bif(s.toList==(⟨#[116,104,105,110,107]⟩:ByteArray).toList)then true else false)else(bif(s.toList==(⟨#[99,104,97,110,103,101]⟩:ByteArray).toList)then(bif(s.toList==(⟨#[99,104,97,110,103,101]⟩:ByteArray).toList)then true else false)else(bif(s.toList==(⟨#[115,111,109,101]⟩:ByteArray).toList)then(bif(s.toList==(⟨#[115,111,109,101]⟩:ByteArray).toList)then true else false)else(bif(s.toList==(⟨#[119,101,105,103,104,116]⟩:ByteArray).toList)then(bif(s.toList==(⟨#[119,101,105,103,104,116]⟩:ByteArray).toList)then true else false)else(bif(s.toList==(⟨#[111,102]⟩:ByteArray).toList)then(bif(s.toList==(⟨#[111,102]⟩:ByteArray).toList)then true else false)else(bif(s.toList==(⟨#[117,112,116,111]⟩:ByteArray).toList)then(bif(s.toList==(⟨#[117,112,116,111]⟩:ByteArray).toList)then true else false)else(bif(s.toList==(⟨#[101,108,115,101]⟩:ByteArray).toList)then true else false))))))))))))))))
def pV(s:ByteArray):Bool:=((ip s)&&(!(oB s)))
def eC.K1  : Int:=(-1)
def eC.L1(s:ByteArray)(k:Int):List ByteArray->Nat->Int
 |[],i1=>(k)
 |y1::rz1,i1=>(bif(y1.toList==s.toList)then(i1:Int)else(eC.L1 s k rz1 (i1+1)))
def eC(l:List ByteArray)(s:ByteArray):Int:=((eC.L1 s (eC.K1)) l 0)
def fJ.K1  : Bool:=true
def fJ.L1(l:List ByteArray)(k:Bool):List ByteArray->Nat->Bool
 |[],i1=>(k)
 |y1::rz1,i1=>(bif((!(pV y1))||((eC l y1) != (i1:Int)))then false else(fJ.L1 l k rz1 (i1+1)))
def fJ(l:List ByteArray):Bool:=((fJ.L1 l (fJ.K1)) l 0)
def cC.K1  : Bool:=true
def cC.L1(rec:List ByteArray->Expr->Bool)(offices:List ByteArray)(k:Bool):List Expr->Bool
 |[]=>(k)
 |y1::rz1=>(bif(!(rec offices y1))then false else(cC.L1 rec offices k rz1))
def cC.F(rec:List ByteArray->Expr->Bool)(offices:List ByteArray)(x:Expr):Bool:=(bif(((x.Kind==1)||(x.Kind==2))&&decide ((eC offices x.Name)<0))then false else((cC.L1 rec offices (cC.K1)) x.L))
def cC.go:Nat->List ByteArray->Expr->Bool
 |0=>λ_ _=>default
 |m+1=>cC.F (cC.go m)
def cC(offices:List ByteArray)(x:Expr):Bool:=cC.go x.dep offices x
def jg.K1(p:Policy):Bool:=(cC p.Offices p.Change)
def jg.L1(p:Policy)(k:Bool):List Rule->Bool
 |[]=>(k)
 |y1::rz1=>(bif(!(cC p.Offices y1.Expr))then false else(jg.L1 p k rz1))
def jg(p:Policy):Bool:=(bif(((!(pV p.Name))||(!(fJ p.Offices)))||(!(fJ p.Kinds)))then false else((jg.L1 p (jg.K1 p)) p.Rules))
def aM.K1(x:Expr)(upto:Bool):Bool:=(bif(x.Kind==1)then((x.N==0)&&((x.L.length:Int)==0))else(bif(x.Kind==2)then((decide (1<=x.N)&&decide (x.N<=4096))&&((x.L.length:Int)==0))else(bif(x.Kind==3)then(((((x.Name.toList==(⟨#[]⟩:ByteArray).toList)&&decide (1<=(x.L.length:Int)))&&decide ((x.L.length:Int)<=16))&&decide (1<=x.N))&&decide (x.N<=(x.L.length:Int)))else(bif(x.Kind==4)then((((upto&&(x.Name.toList==(⟨#[]⟩:ByteArray).toList))&&((x.L.length:Int)==2))&&decide (0<=x.N))&&decide (x.N<=1099511627776))else false))))
def aM.L1(rec:Expr->Bool->Bool)(upto:Bool)(k:Bool):List Expr->Bool
 |[]=>(k)
 |y1::rz1=>(bif(!(rec y1 upto))then false else(aM.L1 rec upto k rz1))
def aM.F(rec:Expr->Bool->Bool)(x:Expr)(upto:Bool):Bool:=((aM.L1 rec upto (aM.K1 x upto)) x.L)
def aM.go:Nat->Expr->Bool->Bool
 |0=>λ_ _=>default
 |m+1=>aM.F (aM.go m)
def aM(x:Expr)(upto:Bool):Bool:=aM.go x.dep x upto
def iJ.K1(p:Policy):Bool:=(aM p.Change false)
def iJ.L1(p:Policy)(k:Bool):List Rule->Nat->Bool
 |[],i1=>(k)
 |y1::rz1,i1=>(bif((((!(y1.Kind.toList==(nthI p.Kinds (i1:Int)).toList))||decide (y1.Think<0))||decide (1099511627776<=y1.Think))||(!(aM y1.Expr true)))then false else(iJ.L1 p k rz1 (i1+1)))
def iJ(p:Policy):Bool:=(bif(((decide ((p.Kinds.length:Int)<1)||((p.Rules.length:Int) != (p.Kinds.length:Int)))||decide (p.Mode<1))||decide (4<p.Mode))then false else((iJ.L1 p (iJ.K1 p)) p.Rules 0))
def ah.K1(offices:List ByteArray)(x:Expr)(kp:List Expr):Expr:=(vG x.Kind x.N (eC offices x.Name) x.Name kp)
def ah.L1(rec:List ByteArray->Expr->Expr)(offices:List ByteArray)(k:List Expr->Expr):List Expr->List Expr->Expr
 |[],kp=>(k kp)
 |y1::rz1,kp=>(ah.L1 rec offices k rz1 (kp++[(rec offices y1)]))
def ah.K2(x:Expr)(kn:List Expr):Expr:=(vG x.Kind x.N 0 x.Name kn)
def ah.L2(rec:List ByteArray->Expr->Expr)(offices:List ByteArray)(k:List Expr->Expr):List Expr->List Expr->Expr
 |[],kn=>(k kn)
 |y2::rz2,kn=>(ah.L2 rec offices k rz2 (kn++[(rec offices y2)]))
def ah.F(rec:List ByteArray->Expr->Expr)(offices:List ByteArray)(x:Expr):Expr:=(bif((x.Kind==1)||(x.Kind==2))then((ah.L1 rec offices (ah.K1 offices x)) x.L ([]))else((ah.L2 rec offices (ah.K2 x)) x.L ([])))
def ah.go:Nat->List ByteArray->Expr->Expr
 |0=>λ_ _=>default
 |m+1=>ah.F (ah.go m)
def ah(offices:List ByteArray)(x:Expr):Expr:=ah.go x.dep offices x
def ew.K1(p:Policy)(mv:List Rule):(Policy×Int):=((qM p.Name p.Kinds p.Offices mv (vG ((ah p.Offices p.Change).Kind) ((ah p.Offices p.Change).N) ((ah p.Offices p.Change).No) ((ah p.Offices p.Change).Name) ((ah p.Offices p.Change).L)) p.Mode),0)
def ew.L1(p:Policy)(k:List Rule->(Policy×Int)):List Rule->Nat->List Rule->(Policy×Int)
 |[],i1,mv=>(k mv)
 |y1::rz1,i1,mv=>(ew.L1 p k rz1 (i1+1) (mv++[(SE y1.Kind (i1:Int) y1.Think (vG ((ah p.Offices y1.Expr).Kind) ((ah p.Offices y1.Expr).N) ((ah p.Offices y1.Expr).No) ((ah p.Offices y1.Expr).Name) ((ah p.Offices y1.Expr).L)))]))
def ew(p:Policy):(Policy×Int):=(bif(gx p)then((qM (⟨#[]⟩:ByteArray) ([]) ([]) ([]) (vG 0 0 0 (⟨#[]⟩:ByteArray) ([])) 0),2)else(bif(!(jg p))then((qM (⟨#[]⟩:ByteArray) ([]) ([]) ([]) (vG 0 0 0 (⟨#[]⟩:ByteArray) ([])) 0),201)else(bif(!(iJ p))then((qM (⟨#[]⟩:ByteArray) ([]) ([]) ([]) (vG 0 0 0 (⟨#[]⟩:ByteArray) ([])) 0),200)else((ew.L1 p (ew.K1 p)) p.Rules 0 ([])))))
def gr.K1  : Bool:=true
def gr.L1(ku:List ByteArray)(k:Bool):List ByteArray->Nat->Bool
 |[],i1=>(k)
 |y1::rz1,i1=>(bif(!(y1.toList==(nthI ku (i1:Int)).toList))then false else(gr.L1 ku k rz1 (i1+1)))
def gr(a:List ByteArray)(ku:List ByteArray):Bool:=(bif((a.length:Int) != (ku.length:Int))then false else((gr.L1 ku (gr.K1)) a 0))
def cg.K1  : Bool:=true
def cg.L1(rec:Expr->Expr->Bool)(ku:Expr)(k:Bool):List Expr->Nat->Bool
 |[],i1=>(k)
 |y1::rz1,i1=>(bif(!(rec y1 (nthI ku.L (i1:Int))))then false else(cg.L1 rec ku k rz1 (i1+1)))
def cg.F(rec:Expr->Expr->Bool)(a:Expr)(ku:Expr):Bool:=(bif(((((a.Kind != ku.Kind)||(a.N != ku.N))||(a.No != ku.No))||(!(a.Name.toList==ku.Name.toList)))||((a.L.length:Int) != (ku.L.length:Int)))then false else((cg.L1 rec ku (cg.K1)) a.L 0))
def cg.go:Nat->Expr->Expr->Bool
 |0=>λ_ _=>default
 |m+1=>cg.F (cg.go m)
def cg(a:Expr)(ku:Expr):Bool:=cg.go a.dep a ku
def j3.K1  : Bool:=true
def j3.L1(ku:Policy)(k:Bool):List Rule->Nat->Bool
 |[],i1=>(k)
 |y1::rz1,i1=>(bif((((!(y1.Kind.toList==(nthI ku.Rules (i1:Int)).Kind.toList))||(y1.KindNo != (nthI ku.Rules (i1:Int)).KindNo))||(y1.Think != (nthI ku.Rules (i1:Int)).Think))||(!(cg y1.Expr ((nthI ku.Rules (i1:Int)).Expr))))then false else(j3.L1 ku k rz1 (i1+1)))
def j3(a:Policy)(ku:Policy):Bool:=(bif((((((!(a.Name.toList==ku.Name.toList))||(a.Mode != ku.Mode))||(!(gr a.Offices ku.Offices)))||(!(gr a.Kinds ku.Kinds)))||((a.Rules.length:Int) != (ku.Rules.length:Int)))||(!(cg a.Change ku.Change)))then false else((j3.L1 ku (j3.K1)) a.Rules 0))
def gO(p:Policy):Int:=(bif((ew p).2 != 0)then(ew p).2 else(bif(!(j3 ((ew p).1) p))then 200 else 0))
def e9.K1  : Int:=0
def e9.L1(l:List Version)(k:Int):List Version->Nat->Int
 |[],i1=>(k)
 |y1::rz1,i1=>(bif(((((decide (y1.No<0)||decide (1048576<y1.No))||(decide (0<(i1:Int))&&decide (y1.No<=(nthI l ((i1:Int)-1)).No)))||(!(fh y1.At)))||(!(fh y1.Known)))||((gO y1.Policy) != 0))then 200 else(e9.L1 l k rz1 (i1+1)))
def e9(l:List Version):Int:=(bif(decide (256<(l.length:Int)))then 2 else((e9.L1 l (e9.K1)) l 0))
def sk(t:Int):Bool:=(decide (0<=t)&&decide (t<1099511627776))
def fQ.K1(l:List Int):Bool:=decide ((l.length:Int)<=16)
def fQ.L1(l:List Int)(limit:Int)(k:Bool):List Int->Nat->Bool
 |[],i1=>(k)
 |y1::rz1,i1=>(bif((decide (y1<0)||decide (limit<=y1))||(decide (0<(i1:Int))&&decide (y1<=(nthI l ((i1:Int)-1)))))then false else(fQ.L1 l limit k rz1 (i1+1)))
def fQ(l:List Int)(limit:Int):Bool:=((fQ.L1 l limit (fQ.K1 l)) l 0)
def ki(d:Document):Bool:=(bif((((((decide (d.No<0)||decide (4096<=d.No))||(!(sk d.At)))||decide (d.Kind<0))||decide (16<=d.Kind))||decide (d.Value<0))||decide (1099511627776<d.Value))then false else(((((decide (0<=d.From)&&decide (d.From<d.Until))&&decide (d.Until<=1099511627776))&&(fQ d.Parties 1048577))&&(fQ d.Revokes d.No))&&(fQ d.Needs d.No)))
def ja.K1  : Int:=(-1)
def ja.L1(no:Int)(k:Int):List Document->Nat->Int
 |[],i1=>(k)
 |y1::rz1,i1=>(bif(y1.No==no)then(i1:Int)else(ja.L1 no k rz1 (i1+1)))
def ja(l:List Document)(no:Int):Int:=((ja.L1 no (ja.K1)) l 0)
def dV.K1  : Bool:=true
def dV.L1(l:List Document)(k:Bool):List Int->Bool
 |[]=>(k)
 |y1::rz1=>(bif(decide ((ja l y1)<0))then false else(dV.L1 l k rz1))
def dV(l:List Document)(nos:List Int):Bool:=((dV.L1 l (dV.K1)) nos)
def ii.K1  : Int:=0
def ii.L1(l:List Document)(k:Int):List Document->Nat->Int
 |[],i1=>(k)
 |y1::rz1,i1=>(bif((((!(ki y1))||(decide (0<(i1:Int))&&decide (y1.No<=(nthI l ((i1:Int)-1)).No)))||(!(dV l y1.Revokes)))||(!(dV l y1.Needs)))then 170 else(ii.L1 l k rz1 (i1+1)))
def ii(l:List Document):Int:=(bif(decide (4096<(l.length:Int)))then 2 else((ii.L1 l (ii.K1)) l 0))
def gv(eS:Int)(most:Int):Bool:=(decide (0<=eS)&&decide (eS<=most))
def oA(eS:Int):Bool:=(gv eS 1099511627775)
def uq(eS:Int):Bool:=(gv eS 4095)
def kg(x:Approval):Bool:=(bif((((!(gv x.No 1048576))||(!(oA x.At)))||(!(oA x.Known)))||(!(uq x.Doc)))then false else(((gv x.By 63)&&(gv x.For 63))&&(gv x.Office 31)))
def ie.K1  : Int:=0
def ie.L1(l:List Approval)(k:Int):List Approval->Nat->Int
 |[],i1=>(k)
 |y1::rz1,i1=>(bif((!(kg y1))||(decide (0<(i1:Int))&&decide (y1.No<=(nthI l ((i1:Int)-1)).No)))then 280 else(ie.L1 l k rz1 (i1+1)))
def ie(l:List Approval):Int:=(bif(decide (4096<(l.length:Int)))then 2 else((ie.L1 l (ie.K1)) l 0))
def mK(bG:Register):Int:=(bif(((((fZ bG.Appoints) != 0)||((ij bG.Deputies) != 0))||((fT bG.Interests) != 0))||((ig bG.Budgets) != 0))then 300 else(bif((((e9 bG.Versions) != 0)||((ii bG.Docs) != 0))||((ie bG.Approvals) != 0))then 300 else 0))
def dc.K1  : Int:=(-1)
def dc.L1(no:Int)(k:Int):List Document->Nat->Int
 |[],i1=>(k)
 |y1::rz1,i1=>(bif(y1.No==no)then(i1:Int)else(dc.L1 no k rz1 (i1+1)))
def dc(bG:Register)(no:Int):Int:=((dc.L1 no (dc.K1)) bG.Docs 0)
def iU.K1  : Bool:=true
def iU.L1(who:List Int)(k:Bool):List Int->Nat->Bool
 |[],i1=>(k)
 |y1::rz1,i1=>(bif((decide (y1<0)||decide (64<=y1))||(decide (0<(i1:Int))&&decide (y1<=(nthI who ((i1:Int)-1)))))then false else(iU.L1 who k rz1 (i1+1)))
def iU(who:List Int):Bool:=((iU.L1 who (iU.K1)) who 0)
def ga.K1(bG:Register)(doc:Int)(who:List Int):Bool:=((((lS bG)&&((mK bG)==0))&&decide (0<=(dc bG doc)))&&(iU who))
def ga.L1(k:Bool):List Int->Bool
 |[]=>(k)
 |y1::rz1=>(bif(!(fh y1))then false else(ga.L1  k rz1))
def ga(bG:Register)(doc:Int)(who:List Int)(l:List Int):Bool:=((ga.L1 (ga.K1 bG doc who)) l)
def nz(QM:Int):(Except Int Unit):=(bif(QM != 0)then(Except.error QM)else(Except.ok ()))
def jO(t:Int):Bool:=((t != (-1))&&(!(gm t)))
def dv(l:List Document)(signed:List Int):Bool:=(((signed.length:Int)==(l.length:Int))&&(!(da signed jO)))
def gl.K1(gZ:Int):Int:=gZ
def gl.L1(k:Int->Int):List Int->Int->Int
 |[],gZ=>(k gZ)
 |y1::rz1,gZ=>(gl.L1  k rz1 (min gZ y1))
def gl(x:List Int):Int:=((gl.L1 (gl.K1)) (x.drop 1) (nthI x 0))
def cX(p:fx)(wu:Int)(ba:Int):(Int×Int):=(bif(!(nthI p.done wu))then(1,(-1))else(bif(decide (0<=(nthI p.lacks wu)))then(4,(nthI p.lacks wu))else(bif(decide (0<(((mgetD p.revoked ((nthI p.shelf.docs wu).No) []).length:Nat):Int)))then(5,(gl (mgetD p.revoked ((nthI p.shelf.docs wu).No) [])))else(bif(decide (ba<(nthI p.shelf.docs wu).From))then(2,(-1))else(bif(decide ((nthI p.shelf.docs wu).Until<=ba))then(3,(-1))else(0,(-1)))))))
def insIn(cmp:Int->Int->Int):Nat->List Int->List Int
 |0,xs=>xs
 |j+1,xs=>bif decide (cmp (xs.getD (j+1) 0) (xs.getD j 0)<0)then insIn cmp j ((xs.set (j+1) (xs.getD j 0)).set j (xs.getD (j+1) 0))else xs
def insOut(cmp:Int->Int->Int):Nat->Nat->List Int->List Int
 |0,_,xs=>xs
 |m+1,i,xs=>insOut cmp m (i+1) (insIn cmp i xs)
def fy(xs:List Int)(cmp:Int->Int->Int):List Int:=insOut cmp (xs.length-1) 1 xs
def i8(a:Int)(ku:Int)(p:pG):Int:=(cmp_Compare_int (nthI p.signed a) (nthI p.signed ku))
def df.K1  : List Int:=[]
def df.L1(k:List Int):List Int->List Int
 |[]=>(k)
 |y1::rz1=>(y1::(df.L1  k rz1))
def df(v0:List Int):List Int:=((df.L1 (df.K1)) v0)
def lg(s:List Int):List Int:=(df s)
def bS.K1(p:pG)(jm:List Int):List Int:=(lg (fy jm (λcj DF=>i8 cj DF p)))
def bS.L1(jU:Int)(k:List Int->List Int):List Int->Nat->List Int->List Int
 |[],i1,jm=>(k jm)
 |y1::rz1,i1,jm=>(bif(decide (0<=y1)&&decide (y1<=jU))then(bS.L1 jU k rz1 (i1+1) (jm++[(i1:Int)]))else(bS.L1 jU k rz1 (i1+1) jm))
def bS(p:pG)(jU:Int):List Int:=((bS.L1 jU (bS.K1 p)) p.signed 0 ([]))
def backL(s:List Int):Nat->List (Int×Int)
 |0=>[]
 |m+1=>((m:Int),nthI s (m:Int))::backL s m
def iE(v0:List Int):List (Int×Int):=backL v0 v0.length
def ke(s:List Int):(List (Int×Int)):=(iE s)
def V3i(_:HF)(v:Value)(x:Option Addr×Nat×Nat):Prop:=v=.slice x.1 x.2.1 x.2.2
def FRi(h:HF):List (Int×Option Addr×Nat×Nat)->List (Int×List Int)->LH->Prop
 |[],[],G=>G=[]
 |(k,x)::m,(k',xs)::f,G=>k=k'/\x.2.1=xs.length/\∃G1 G2,G=G1++G2/\dA Rp.int 3 h xs x.1 x.2.2 G1/\FRi h m f G2
 |_,_,_=>False
def playP(l:List Document)(sg:List Int):fx:=⟨ay l,sg,List.replicate l.length false,List.replicate l.length 0,[]⟩
def playR(n:Nat)(sq:nS)(sb:Option Addr)(sc:Nat)(b5 b8 b9:Nat):sV:=⟨sq,sb,sc,some ⟨b5,0,none⟩,n,some ⟨b8,0,none⟩,n,b9⟩
def plL(b c d f t:Bool)(B5 B8 B9 B12 B11:Nat×Obj):LH:=
 (bif t then[B11]else[])++((bif f then[B12]else[])++((bif d then[B9]else[])++((bif c then[B8]else[])++(bif b then[B5]else[]))))
def plD(a b c d f g t:Bool):List Nat:=
 (bif t then[11]else[])++((bif g then[10]else[])++((bif f then[12]else[])++((bif d then[9]else[])++((bif c then[8]else[])++((bif b then[5]else[])++((bif a then[1]else[])++[7,6,4,3,2,0]))))))
def plM(a b c d f g t:Bool):Nat:=(bif a then 0 else 1)+(bif b then 0 else 1)+(bif c then 0 else 1)+(bif d then 0 else 1)+(bif f then 0 else 1)+(bif g then 0 else 1)+(bif t then 0 else 1)
def PlI(h:HF)(l:List Document)(lb:Option Addr)(lc:Nat)(sg:List Int)(sb:Option Addr)(sc:Nat)(at_:Int)(q4:Addr)(a b c d f g t:Bool)(e:Env)(h':HF)(L:LH):Prop:=
 ((!g||(a&&b&&c&&d))&&(!t||g))=true/\h.le h'/\(e 2=.int .i64 at_/\e 4=.pointer (some q4)/\e 16=.slice lb l.length lc/\e 18=.slice sb sg.length sc/\e 20=.int .i64 (l.length:Int)/\e 23=.int .i64 (l.length:Int)) /\
 ∃(sq:nS)(b5 b8 b9 b12 b11:Nat),(a=true->e 17=.agg (gB.cells (ay l) sq).toArray/\gB.ok h' (ay l) sq)/\(b=true->e 21=.slice (some ⟨b5,0,none⟩) l.length l.length) /\
  (c=true->e 24=.slice (some ⟨b8,0,none⟩) l.length l.length)/\(d=true->e 25=.map (some b9))/\(f=true->e 7=.pointer (some ⟨b12,0,none⟩))/\(g=true->e 26=.agg (fx.cells (playP l sg) (playR l.length sq sb sc b5 b8 b9)).toArray)/\(t=true->e 27=.pointer (some ⟨b11,0,none⟩)) /\
  L.Perm (plL b c d f t (b5,.cells (List.replicate l.length (.bool false)).toArray 4 (0,0)) (b8,.cells (List.replicate l.length (.int .i64 0)).toArray 3 (0,0)) (b9,.map #[] 0) (b12,.cells (kB [.pointer none]) 112 (0,0)) (b11,.cells (fx.cells (playP l sg) (playR l.length sq sb sc b5 b8 b9)).toArray 171 (0,0)))
def plN(a b c d f g t:Bool):List Nat:=
 (bif a then[]else[1])++((bif b then[]else[5])++((bif c then[]else[8])++((bif d then[]else[9])++((bif a&&b&&c&&d&&!g then[10]else[])++((bif g&&!t then[11]else[])++((bif f then[]else[12])++(bif a&&b&&c&&d&&f&&g&&t then[13]else[])))))))
def playLack(sg:List Int)(i:Int)(p:fx)(no:Int):fx:=bif(cX p (mgetD p.shelf.at_ no 0) (nthI sg i)).1 != 0 then { p with lacks:=p.lacks.set i.toNat no }else p
def playRevoke(d:Document)(p:fx)(no:Int):fx:={ p with revoked:=mput p.revoked no (mgetD p.revoked no []++[d.No]) }
def playMid(p:fx)(i:Int):fx:=(ke (nthI p.shelf.docs i).Needs).foldl (λq x=>playLack p.signed i q x.2) { p with lacks:=p.lacks.set i.toNat (-1) }
def playDone(p:fx)(i:Int):fx:={ p with done:=p.done.set i.toNat true }
def playStep(p:fx)(i:Int):fx:=
 bif decide (nthI (playMid p i).lacks i<0)then(nthI p.shelf.docs i).Revokes.foldl (playRevoke (nthI p.shelf.docs i)) (playDone (playMid p i) i)else playDone (playMid p i) i
def cA(l:List Document)(signed:List Int)(at_:Int):fx:=(bS (playP l signed) at_).foldl playStep (playP l signed)
def plB(b5 b8 br:Nat)(P:fx)(om:Obj)(Gf:LH):LH:=
 [(b5,.cells (P.done.map Value.bool).toArray 4 (0,0)),(b8,.cells (P.lacks.map (Value.int .i64)).toArray 3 (0,0)),(br,om)]++Gf
def bW.K1(nn:List Int):(List Int×Int):=(nn,0)
def bW.L1(l:List Document)(signed:List Int)(ba:Int)(k:List Int->(List Int×Int)):List Document->Nat->List Int->(List Int×Int)
 |[],i1,nn=>(k nn)
 |y1::rz1,i1,nn=>(bif((cX (cA l signed ba) (i1:Int) ba).1==0)then(bW.L1 l signed ba k rz1 (i1+1) (nn++[y1.No]))else(bW.L1 l signed ba k rz1 (i1+1) nn))
def bW(l:List Document)(signed:List Int)(ba:Int):(List Int×Int):=(bif((bz l) != 0)then([],(bz l))else(bif((!(dv l signed))||(!(gm ba)))then([],1)else((bW.L1 l signed ba (bW.K1)) l 0 ([]))))
def ka.K1(bC:List (Int×Bool)):Bool:=true
def ka.L1(k:(List (Int×Bool))->Bool):List Use->(List (Int×Bool))->Bool
 |[],bC=>(k bC)
 |y1::rz1,bC=>(bif(((((mgetD bC y1.Doc false)||(!(aW 0 4095 ([y1.Doc]))))||(!(aW 0 15 ([y1.Kind]))))||(!(aW 0 1099511627776 ([y1.Value]))))||(!(aW 0 1099511627775 ([y1.At,y1.Known]))))then false else(ka.L1  k rz1 (mput bC y1.Doc true)))
def ka(u:List Use):Bool:=((ka.L1 (ka.K1)) u ([]))
def bV.K2(rn:List Budget):List Budget:=rn
def bV.L2(bC:List (gC×Budget))(k:List Budget->List Budget):List Budget->List Budget->List Budget
 |[],rn=>(k rn)
 |y2::rz2,rn=>(bif((!y2.Gone)&&(decide ((mgetD bC (gC.mk y2.Kind y2.Period) (TI 0 0 0 0 0 0 0 false))=y2)))then(bV.L2 bC k rz2 (rn++[y2]))else(bV.L2 bC k rz2 rn))
def bV.K1(l:List Budget)(bC:List (gC×Budget)):List Budget:=((bV.L2 bC (bV.K2)) l ([]))
def bV.L1(kind:Int)(ba:Int)(known:Int)(k:(List (gC×Budget))->List Budget):List Budget->(List (gC×Budget))->List Budget
 |[],bC=>(k bC)
 |y1::rz1,bC=>(bif((decide (ba<y1.At)||decide (known<y1.Known))||((y1.Kind != (-1))&&(y1.Kind != kind)))then(bV.L1 kind ba known k rz1 bC)else(bif((!(mhas bC (gC.mk y1.Kind y1.Period)))||decide ((mgetD bC (gC.mk y1.Kind y1.Period) (TI 0 0 0 0 0 0 0 false)).At<=y1.At))then(bV.L1 kind ba known k rz1 (mput bC (gC.mk y1.Kind y1.Period) y1))else(bV.L1 kind ba known k rz1 bC)))
def bV(l:List Budget)(kind:Int)(ba:Int)(known:Int):List Budget:=((bV.L1 kind ba known (bV.K1 l)) l ([]))
def cw.K1  : List Int:=[]
def cw.L1(known:Int)(bg:Budget)(at_:Int)(k:List Int):List Use->List Int
 |[]=>(k)
 |y1::rz1=>(bif((decide (y1.Known<=known)&&((bg.Kind==(-1))||(bg.Kind==y1.Kind)))&&((zE .i64 (y1.At.tdiv bg.Period))==(zE .i64 (at_.tdiv bg.Period))))then(y1.Value::(cw.L1 known bg at_ k rz1))else(cw.L1 known bg at_ k rz1))
def cw(u:List Use)(known:Int)(bg:Budget)(at_:Int):List Int:=((cw.L1 known bg at_ (cw.K1)) u)
def pA(Fm:Budget)(u:List Use)(ba:Int)(known:Int):List Int:=(cw u known Fm ba)
def bZ.L2(k:Int->Int->(Int×Bool×Int)):List Int->Int->Int->(Int×Bool×Int)
 |[],HR,HS=>k HR HS
 |y2::rz2,HR,HS=>(bZ.L2 k rz2 (zE .i64 (HR+y2)) (zE .i64 (HS+1)))
def bZ.L3(k:Int->Int->(Int×Bool×Int)):List Int->Int->Int->(Int×Bool×Int)
 |[],qh,HQ=>k qh HQ
 |y3::rz3,qh,HQ=>(bZ.L3 k rz3 (zE .i64 (qh+y3)) (zE .i64 (HQ+1)))
def bZ.K1  : (Int×Bool×Int):=((-1),true,0)
def bZ.L1(u:List Use)(value:Int)(eR:Int)(known:Int)(k:(Int×Bool×Int)):List Budget->(Int×Bool×Int)
 |[]=>(k)
 |y1::rz1=>((bZ.L3 (λzg3_b6_0 zg3_b5_0=>(bif(decide (y1.Count<zg3_b5_0)||decide (y1.Value<zg3_b6_0))then(y1.No,false,0)else(bZ.L1 u value eR known k rz1)))) (pA y1 u eR known) value 1)
def bZ(l:List Budget)(u:List Use)(kind:Int)(value:Int)(eR:Int)(known:Int):(Int×Bool×Int):=(bif((cR l) != 0)then(0,false,(cR l))else(bif(decide (4096<(u.length:Int)))then(0,false,2)else(bif(!(ka u))then(0,false,180)else(bif(((!(aW 0 15 ([kind])))||(!(aW 0 1099511627776 ([value]))))||(!(aW 0 1099511627775 ([eR,known]))))then(0,false,1)else((bZ.L1 u value eR known (bZ.K1)) (bV l kind eR known))))))
def bE(d:Document)(v0:Int):Bool:=(d.No==v0)
def mW(bG:Register)(doc:Int)(ba:Int)(known:Int):(Except Int bL):=(bif((decide ((ad bG.Docs (λcj=>bE cj doc))<0)||decide ((min ba known)<0))||decide (1099511627776<=(max ba known)))then(Except.error 1)else(Except.ok (bL.mk bG (nthI bG.Docs (ad bG.Docs (λcj=>bE cj doc))) ba known)))
def ck(d:Document)(v0:bL):Bool:=(d.No==v0.doc.No)
def jp(s:List Document)(f:(Document->Bool)):Bool:=decide (0<=(ad s f))
def gd(l:List Document)(signed:List Int)(no:Int)(fa:Int):(Int×Int×Int):=(bif((bz l) != 0)then(0,0,(bz l))else(bif((!(dv l signed))||(!(gm fa)))then(0,0,1)else(bif(!(mhas ((cA l signed fa).shelf.at_) no))then(0,0,1)else((cX (cA l signed fa) (mgetD ((cA l signed fa).shelf.at_) no 0) fa).1,(cX (cA l signed fa) (mgetD ((cA l signed fa).shelf.at_) no 0) fa).2,0))))
def kv(d:Document)(c:bL)(signed:List Int):Bool:=(bif(!(eH d.Revokes c.doc.No))then false else(((gd c.Register.Docs signed d.No c.at_).1 != 1)&&((gd c.Register.Docs signed d.No c.at_).1 != 4)))
def fG(c:bL)(signed:List Int):Bool:=(jp c.Register.Docs (λcj=>kv cj c signed))
def eX(c:bL)(signed:List Int):Bool:=(((decide (c.at_<c.doc.At)||decide (c.doc.Until<=c.at_))||(decide (0<=(nthI signed (ad c.Register.Docs (λcj=>ck cj c))))&&decide ((nthI signed (ad c.Register.Docs (λcj=>ck cj c)))<=c.at_)))||(fG c signed))
def yQ(c:bL)(signed:List Int):Bool:=(eX c signed)
def lr(eS:Int)(v0:List Int):Bool:=(!(eH v0 eS))
def hY(c:bL)(signed:List Int):Bool:=(da c.doc.Needs (λcj=>lr cj ((bW c.Register.Docs signed c.at_).1)))
def yP(c:bL)(signed:List Int):Bool:=(hY c signed)
def bq.K1  : Int:=(-1)
def bq.L1(f:(Version->Bool))(k:Int):List Version->Nat->Int
 |[],i1=>(k)
 |y1::rz1,i1=>(bif(f y1)then(i1:Int)else(bq.L1 f k rz1 (i1+1)))
def bq(s:List Version)(f:(Version->Bool)):Int:=((bq.L1 f (bq.K1)) s 0)
def eK(v:Version)(v0:Int):Bool:=(v.No==v0)
def fE(c:bL)(no:Int):(Except Int Policy):=(bif(decide ((bq c.Register.Versions (λcj=>eK cj no))<0))then(Except.error 1)else(Except.ok ((nthI c.Register.Versions (bq c.Register.Versions (λcj=>eK cj no))).Policy)))
def cV.K1  : Int:=(-1)
def cV.L1(f:(Approval->Bool))(k:Int):List Approval->Nat->Int
 |[],i1=>(k)
 |y1::rz1,i1=>(bif(f y1)then(i1:Int)else(cV.L1 f k rz1 (i1+1)))
def cV(s:List Approval)(f:(Approval->Bool)):Int:=((cV.L1 f (cV.K1)) s 0)
def fI(s:List Approval)(del:Approval->Bool):List Approval:=s.filter λx=>!(del x)
def bO.K1  : List Approval:=[]
def bO.L1(v1:Int)(v2:Int)(v3:Int)(k:List Approval):List Approval->List Approval
 |[]=>(k)
 |y1::rz1=>(bif(((y1.Doc==v1)&&decide (y1.At<=v2))&&decide (y1.Known<=v3))then(y1::(bO.L1 v1 v2 v3 k rz1))else(bO.L1 v1 v2 v3 k rz1))
def bO(v0:List Approval)(v1:Int)(v2:Int)(v3:Int):List Approval:=((bO.L1 v1 v2 v3 (bO.K1)) v0)
def fj(l:List Approval)(doc:Int)(ba:Int)(known:Int):List Approval:=(bO l doc ba known)
def cf(x:Approval):fe:=(fe.mk x.Doc x.By x.For x.Office)
def aJ.K2(ni:List Approval):List Approval:=ni
def aJ.L2(aZ:List (fe×Approval))(k:List Approval->List Approval):List Approval->List Approval->List Approval
 |[],ni=>k ni
 |y2::rz2,ni=>(bif((!y2.Gone)&&(decide ((mgetD aZ (cf y2) (R9 0 0 0 0 0 0 0 false))=y2)))then(aJ.L2 aZ k rz2 (ni++[y2]))else(aJ.L2 aZ k rz2 ni))
def aJ.K1(l:List Approval)(doc:Int)(ba:Int)(known:Int)(aZ:List (fe×Approval)):List Approval:=((aJ.L2 aZ (aJ.K2)) (fj l doc ba known) ([]))
def aJ.L1(k:(List (fe×Approval))->List Approval):List Approval->(List (fe×Approval))->List Approval
 |[],aZ=>k aZ
 |y1::rz1,aZ=>(bif((!(mhas aZ (cf y1)))||decide ((mgetD aZ (cf y1) (R9 0 0 0 0 0 0 0 false)).At<=y1.At))then(aJ.L1 k rz1 (mput aZ (cf y1) y1))else(aJ.L1 k rz1 aZ))
def aJ(l:List Approval)(doc:Int)(ba:Int)(known:Int):List Approval:=((aJ.L1 (aJ.K1 l doc ba known)) (fj l doc ba known) ([]))
def ik(y:Approval)(begun:Int)(at_:Int)(think:Int):Bool:=(decide (y.At<begun)||decide ((zE .i64 (at_-y.At))<think))
def cU(l:List Approval)(doc:Int)(begun:Int)(think:Int)(eR:Int)(known:Int):(List Approval×Int):=(bif((bX l) != 0)then([],(bX l))else(bif((!(dw 4095 ([doc])))||(!(dw 1099511627775 ([begun,think,eR,known]))))then([],1)else((fI (aJ l doc eR known) (λcj=>ik cj begun eR think)),0)))
def hO(l:List Appoint)(office:Int)(person:Int)(fa:Int)(known:Int):(Int×Int×Bool×Int):=(bif((dq l) != 0)then(0,0,false,(dq l))else(bif((((!(fo office))||(!(gh person)))||(!(cZ fa)))||(!(cZ known)))then(0,0,false,1)else(bif((!(mhas (dp l fa known) (S7 office person)))||(mgetD (dp l fa known) (S7 office person) (kF 0 0 0 0 0 0 false)).Gone)then(0,0,false,0)else((mgetD (dp l fa known) (S7 office person) (kF 0 0 0 0 0 0 false)).No,(mgetD (dp l fa known) (S7 office person) (kF 0 0 0 0 0 0 false)).Weight,true,0))))
def md(l:List Deputy)(dR:Int)(to:Int)(q:cS):Int:=(bif((dH l) != 0)then(dH l)else(bif(((((((!(gi dR))||(!(gi to)))||(!(di q.office 0 31)))||(!(di q.kind 0 15)))||(!(di q.value 0 1099511627776)))||(!(gu q.at_)))||(!(gu q.known)))then 1 else 0))
def db.K1(bC:List Deputy):List Deputy:=bC
def db.L1(k:List Deputy->List Deputy):List Deputy->List Deputy->List Deputy
 |[],bC=>k bC
 |y1::rz1,bC=>(db.L1 k rz1 (bC++[y1]))
def db(seq:List Deputy):List Deputy:=((db.L1 (db.K1)) seq ([]))
def dk(seq:List Deputy):List Deputy:=(db seq)
def gf(q:cS)(x:Deputy):Bool:=(decide (x.At<=q.at_)&&decide (x.Known<=q.known))
def gJ(q:cS)(x:Deputy):Bool:=(((((!x.Gone)&&decide (q.at_<x.Until))&&(x.Office==q.office))&&((x.Kind==(-1))||(x.Kind==q.kind)))&&decide (q.value<=x.Most))
def aC.K1  : List Deputy:=[]
def aC.L1(v1:List (em×Deputy))(v2:(Deputy->Bool))(v3:cS)(k:List Deputy):List Deputy->List Deputy
 |[]=>(k)
 |y1::rz1=>(bif(((decide ((mgetD v1 (em.mk y1.From y1.To y1.Office y1.Kind) (TJ 0 0 0 0 0 0 0 0 0 false))=y1))&&(v2 y1))&&(gJ v3 y1))then(y1::(aC.L1 v1 v2 v3 k rz1))else(aC.L1 v1 v2 v3 k rz1))
def aC(v0:List Deputy)(v1:List (em×Deputy))(v2:(Deputy->Bool))(v3:cS):List Deputy:=((aC.L1 v1 v2 v3 (aC.K1)) v0)
def aV.K1(q:cS)(l:List Deputy)(eL:List (em×Deputy)):List Deputy:=(aC l eL (gf q) q)
def aV.L1(q:cS)(k:(List (em×Deputy))->List Deputy):List Deputy->(List (em×Deputy))->List Deputy
 |[],eL=>(k eL)
 |y1::rz1,eL=>(bif((gf q y1)&&((!(mhas eL (em.mk y1.From y1.To y1.Office y1.Kind)))||decide ((mgetD eL (em.mk y1.From y1.To y1.Office y1.Kind) (TJ 0 0 0 0 0 0 0 0 0 false)).At<=y1.At)))then(aV.L1 q k rz1 (mput eL (em.mk y1.From y1.To y1.Office y1.Kind) y1))else(aV.L1 q k rz1 eL))
def aV(q:cS)(l:List Deputy):List Deputy:=((aV.L1 q (aV.K1 q l)) l ([]))
def aI.L2(k:(List (Int×Int))->(List Int×Bool×Int)):List Deputy->(List (Int×Int))->(List Int×Bool×Int)
 |[],j8=>(k j8)
 |y2::rz2,j8=>(bif(((mhas j8 y2.To)&&((mgetD j8 y2.To 0)==0))&&(!(mhas j8 y2.From)))then(aI.L2  k rz2 (mput j8 y2.From 1))else(aI.L2  k rz2 j8))
def aI.L3(i1:Nat)(k:(List (Int×Int))->(List Int×Bool×Int)):List Deputy->(List (Int×Int))->(List Int×Bool×Int)
 |[],gz=>(k gz)
 |y3::rz3,gz=>(bif(((mhas gz y3.To)&&((mgetD gz y3.To 0)==(i1:Int)))&&(!(mhas gz y3.From)))then(aI.L3 i1 k rz3 (mput gz y3.From (((i1+1):Nat):Int)))else(aI.L3 i1 k rz3 gz))
def aI.L5(dR:Int)(aZ:List (Int×Int))(k:List Int->Int->(List Int×Bool×Int)):List Deputy->List Int->Int->(List Int×Bool×Int)
 |[],LG,LF=>(k LG LF)
 |y5::rz5,LG,LF=>(bif(((y5.From==LF)&&(mhas aZ y5.To))&&((mgetD aZ y5.To 0)==((mgetD aZ dR 0)-1)))then(k (LG++[y5.No]) y5.To)else(aI.L5 dR aZ k rz5 LG LF))
def aI.L6(dR:Int)(aZ:List (Int×Int))(i4:Nat)(k:List Int->Int->(List Int×Bool×Int)):List Deputy->List Int->Int->(List Int×Bool×Int)
 |[],AQ,CN=>(k AQ CN)
 |y6::rz6,AQ,CN=>(bif(((y6.From==CN)&&(mhas aZ y6.To))&&((mgetD aZ y6.To 0)==((((((mgetD aZ dR 0)).toNat)-(i4+1)):Nat):Int)))then(k (AQ++[y6.No]) y6.To)else(aI.L6 dR aZ i4 k rz6 AQ CN))
def aI.K4(xi:List Int)(CO:Int):(List Int×Bool×Int):=(xi,true,0)
def aI.L4(l:List Deputy)(dR:Int)(office:Int)(kind:Int)(value:Int)(ld:Int)(known:Int)(aZ:List (Int×Int))(k:List Int->Int->(List Int×Bool×Int)):List Nat->Nat->List Int->Int->(List Int×Bool×Int)
 |[],i4,xi,CO=>(k xi CO)
 |y4::rz4,i4,xi,CO=>((aI.L6 dR aZ i4 (λzg6_16 zg6_31=>(aI.L4 l dR office kind value ld known aZ k rz4 (i4+1) zg6_16 zg6_31))) (dk (aV (cS.mk office kind value ld known) l)) xi CO)
def aI.K1(l:List Deputy)(dR:Int)(office:Int)(kind:Int)(value:Int)(ld:Int)(known:Int)(aZ:List (Int×Int)):(List Int×Bool×Int):=(bif(!(mhas aZ dR))then([],false,0)else((aI.L4 l dR office kind value ld known aZ (aI.K4)) (jJ (((mgetD aZ dR 0)).toNat)) 0 ([]) dR))
def aI.L1(l:List Deputy)(office:Int)(kind:Int)(value:Int)(ld:Int)(known:Int)(k:(List (Int×Int))->(List Int×Bool×Int)):List Nat->Nat->(List (Int×Int))->(List Int×Bool×Int)
 |[],i1,aZ=>(k aZ)
 |y1::rz1,i1,aZ=>((aI.L3 i1 (λzg3_b2_0=>(aI.L1 l office kind value ld known k rz1 (i1+1) zg3_b2_0))) (dk (aV (cS.mk office kind value ld known) l)) aZ)
def aI(l:List Deputy)(dR:Int)(to:Int)(office:Int)(kind:Int)(value:Int)(ld:Int)(known:Int):(List Int×Bool×Int):=(bif((md l dR to (cS.mk office kind value ld known)) != 0)then([],false,(md l dR to (cS.mk office kind value ld known)))else((aI.L1 l office kind value ld known (aI.K1 l dR office kind value ld known)) (jJ 8) 0 (mput ([]) to 0)))
def iO(c:bL)(person:Int):Bool:=(cQ c.Register.Interests person c.doc.Parties c.at_ c.known).2.1
def cN.K1  : List Approval:=[]
def cN.L1(c:bL)(k:List Approval):List Approval->List Approval
 |[]=>(k)
 |y1::rz1=>(bif((((hO c.Register.Appoints y1.Office y1.For c.at_ c.known).2.2.1&&(aI c.Register.Deputies y1.For y1.By y1.Office c.doc.Kind c.doc.Value c.at_ c.known).2.1)&&(!(iO c y1.For)))&&(!(iO c y1.By)))then(y1::(cN.L1 c k rz1))else(cN.L1 c k rz1))
def cN(c:bL)(p:Policy):List Approval:=(bif(decide ((p.Kinds.length:Int)<=c.doc.Kind))then[]else((cN.L1 c (cN.K1)) ((cU c.Register.Approvals c.doc.No c.doc.At ((nthI p.Rules c.doc.Kind).Think) c.at_ c.known).1)))
def gV(c:bL)(p:Policy):List Approval:=(cN c p)
def cL.K1(aF:List Int):List Int:=(slices_Compact_int (sortI aF))
def cL.L1(k:List Int->List Int):List Approval->List Int->List Int
 |[],aF=>k aF
 |y1::rz1,aF=>(cL.L1 k rz1 (aF++[y1.For]))
def cL(c:bL)(p:Policy):List Int:=((cL.L1 (cL.K1)) (gV c p) ([]))
def dN.K1(c:bL)(p:Policy)(who:List Int)(Dm:List (List Holder)):Bool:=((bU p c.doc.Kind c.doc.Value Dm who).1&&((bU p c.doc.Kind c.doc.Value Dm who).2==0))
def dN.L1(c:bL)(k:(List (List Holder))->Bool):List ByteArray->Nat->(List (List Holder))->Bool
 |[],i1,Dm=>(k Dm)
 |y1::rz1,i1,Dm=>(dN.L1 c k rz1 (i1+1) (Dm++[(dg c.Register.Appoints (i1:Int) c.at_ c.known).1]))
def dN(c:bL)(p:Policy)(who:List Int):Bool:=((dN.L1 c (dN.K1 c p who)) p.Offices 0 ([]))
def askJ(c:bL):List Int×Int×Int:=aK c.Register.Versions c.doc.At c.at_ c.known
def askP(c:bL)(no:Int):Policy:=exD (fE c no)
def askWho(c:bL)(no:Int):List Int:=cL c (askP c no)
def askAns(c:bL)(no:Int):Bool:=dN c (askP c no) (askWho c no)
def askAll(c:bL):List Int:=slices_Compact_int (sortI ((askJ c).1.flatMap (askWho c)))
def ft(c:bL):Bool:=bif(askJ c).2.1==0 then false else(fP (askJ c).2.1 ((askJ c).1.map (askAns c))).1
abbrev verO(s0 b0:Int)(vb:Option Addr)(vn vc:Nat)(wb:Option Addr)(wn wc:Nat):Obj:=.cells (kB [.int .i64 s0,.int .i64 b0,.slice vb vn vc,.slice wb wn wc]) 36 (0,0)
def judgeRoom(c:bL)(r:Register)(u:List Use)(at_ known:Int):Int×Bool×Int:=bZ r.Budgets u c.doc.Kind c.doc.Value at_ known
def judgeC(c:bL)(r:Register)(signed:List Int)(u:List Use)(at_ known:Int):iv:=
 bif eX c signed then⟨1,-1,[],[]⟩else bif hY c signed then⟨2,-1,[],[]⟩else bif !(ft c)then⟨3,-1,(askJ c).1,askAll c⟩else
 bif !(judgeRoom c r u at_ known).2.1 then⟨4,(judgeRoom c r u at_ known).1,(askJ c).1,askAll c⟩else⟨0,-1,(askJ c).1,askAll c⟩
def dj(bG:Register)(signed:List Int)(u:List Use)(doc:Int)(eR:Int)(known:Int):iv×Int:=
 bif et bG != 0 then(⟨0,0,[],[]⟩,et bG)else
 bif(bW bG.Docs signed 0).2 != 0 then(⟨0,0,[],[]⟩,(bW bG.Docs signed 0).2)else
 bif(bZ bG.Budgets u 0 0 0 0).2.2 != 0 then(⟨0,0,[],[]⟩,(bZ bG.Budgets u 0 0 0 0).2.2)else
 match mW bG doc eR known with
  |.error e=>(⟨0,0,[],[]⟩,e)
  |.ok c=>(judgeC c bG signed u eR known,0)
def lq.K1  : Bool:=false
def lq.L1(t:Int)(k:Bool):List Span->Bool
 |[]=>(k)
 |y1::rz1=>(bif(decide (y1.From<=t)&&decide (t<y1.Until))then true else(lq.L1 t k rz1))
def lq(s:List Span)(t:Int):Bool:=((lq.L1 t (lq.K1)) s)
def nR(bG:Register)(signed:List Int)(u:List Use)(doc:Int)(eR:Int)(known:Int):Bool:=(bif(!u0)then false else(bif((!(ga bG doc ([]) ([eR,known])))||decide (50<(u.length:Int)))then true else(bif(((dj bG signed u doc eR known).2 != 0)||((((dj bG signed u doc eR known).1).State != 0)&&(((dj bG signed u doc eR known).1).State != 4)))then true else(((eu bG doc (((dj bG signed u doc eR known).1).Who) known).2==0)&&(lq ((eu bG doc (((dj bG signed u doc eR known).1).Who) known).1) eR)))))
theorem wrap64{z:Int}(h:-9223372036854775808<=z/\z<=9223372036854775807):IntKind.i64.wrap z=z:=by
 have:=jc h;injection this
theorem Expr.eta(x:Expr):vG x.Kind x.N x.No x.Name x.L=x:=by cases x;rfl
theorem Expr.ind{P:Expr->Prop}(h:∀x,(∀y∈x.L,P y)->P x)(x:Expr):P x:=by
 have key:∀n(x:Expr),x.dep<=n->P x:=by
  intro n
  induction n with
  |zero=>intro x hx;have:=S5 x;omega
  |succ n ih=>intro x hx;exact h x λy hy=>ih y (by have:=kV hy;omega)
 exact key _ x (xG _)
theorem IS(k:List gq):∀l,aL.L3 k l=l++k
 |[]=>rfl
 |y::l=>by simp[aL.L3,IS k l]
theorem IT(rec:Expr->Int->List gq)(d:Int):∀l,aL.L1 rec d [] l=l.flatMap (λy=>rec y (d+1))
 |[]=>rfl
 |y::l=>by simp[aL.L1,IS,IT rec d l]
theorem Hy(rec:Expr->Int->List gq)(x:Expr)(d:Int):aL.F rec x d=⟨x,d⟩::x.L.flatMap (λy=>rec y (d+1)):=by
 simp[aL.F,aL.K1,IT,Expr.eta]
theorem zY{α β : Type}{f g:α->List β}:∀{l:List α},(∀y∈l,f y=g y)->l.flatMap f=l.flatMap g
 |[],_=>rfl
 |y::l,h=>by
  rw[List.flatMap_cons,List.flatMap_cons,h y (zB ..),zY λz hz=>h z (vA _ hz)]
theorem IR(m:Nat):∀(x:Expr)(d:Int),x.dep<=m->aL.go m x d=bM x d:=by
 induction m using Nat.strongRecOn with
 |_ m ih=>
  intro x d hx
  unfold bM
  have hp:=S5 x
  obtain⟨m',rfl⟩:∃m',m=m'+1:=⟨m-1,by omega⟩
  obtain⟨n,hn⟩:∃n,x.dep=n+1:=⟨x.dep-1,by omega⟩
  rw[hn]
  show aL.F (aL.go m') x d=aL.F (aL.go n) x d
  rw[Hy,Hy]
  congr 1
  refine zY λy hy=>?_
  have:=kV hy
  rw[ih m' (by omega) y _ (by omega),ih n (by omega) y _ (by omega)]
theorem n9(x:Expr)(d:Int):bM x d=⟨x,d⟩::x.L.flatMap (λy=>bM y (d+1)):=by
 have hp:=S5 x
 obtain⟨n,hn⟩:∃n,x.dep=n+1:=⟨x.dep-1,by omega⟩
 rw[←IR x.dep x d (xG _),hn]
 show aL.F (aL.go n) x d=_
 rw[Hy]
 congr 1
 exact zY λy hy=>IR n y _ (by have:=kV hy;omega)
theorem GD(Q:Expr->Prop)(x:Expr):∀d d',(∀z∈bM x d,Q z.x)->∀z∈bM x d',Q z.x:=by
 refine Expr.ind (P:=λx=>∀d d',(∀z∈bM x d,Q z.x)->∀z∈bM x d',Q z.x) ?_ x
 intro x ih d d' h z hz
 rw[n9]at h hz
 rcases qC.1 hz with rfl|hz
 .exact h ⟨x,d⟩ (zB ..)
 .obtain⟨y,hy,hz⟩:=List.mem_flatMap.1 hz
  exact ih y hy (d+1) (d'+1) (λz' hz'=>h z' (vA _ (List.mem_flatMap.2 ⟨y,hy,hz'⟩))) z hz
theorem yN(Q:Expr->Prop)(x:Expr)(d:Int):(∀z∈bM x d,Q z.x)↔Q x/\∀y∈x.L,∀z∈bM y d,Q z.x:=by
 constructor
 .intro h
  rw[n9]at h
  exact⟨h ⟨x,d⟩ (zB ..),λy hy=>GD Q y (d+1) d λz hz=>h z (vA _ (List.mem_flatMap.2 ⟨y,hy,hz⟩))⟩
 .rintro⟨h1,h2⟩ z hz
  rw[n9]at hz
  rcases qC.1 hz with rfl|hz
  .exact h1
  .obtain⟨y,hy,hz⟩:=List.mem_flatMap.1 hz
   exact GD Q y d (d+1) (h2 y hy) z hz
def NZ(x:Except Int Unit):Prop:=∀e,x=.error e->e≠0
theorem NZ.ok:NZ (.ok ()):=λ_ h=>by cases h
theorem NZ.must{e:Int}(he:e≠0):NZ (eZ c e):=λe' h=>by
 cases c with
 |true=>simp[eZ]at h
 |false=>simp[eZ]at h;omega
theorem NZ.exi(hx:NZ x)(hf:NZ (f ())):NZ (Sg.exi x f):=by
 cases x with
 |ok u=>exact hf
 |error e=>exact λe' h=>hx e' h
theorem GZ(h:NZ x):attR x=0↔x=.ok ():=by
 cases x with
 |ok u=>simp[attR]
 |error e=>simp only[attR,reduceCtorEq,iff_false];exact h e rfl
theorem qf{e:Int}:exi (eZ c e) f=.ok ()↔c=true/\f ()=.ok ():=by
 cases c<;>simp[eZ,exi]
theorem Jw(p:Policy):∀(l:List Rule)(g:List Expr),aA.L1 (aA.K1 p) l g=g++(l.map (·.Expr)++[p.Change])
 |[],g=>by simp[aA.L1,aA.K1]
 |y::l,g=>by simp[aA.L1,Jw p l]
theorem rR(p:Policy):aA p=p.Rules.map (·.Expr)++[p.Change]:=by
 unfold aA;rw[Jw];simp
theorem Iz(k:Int->Except Int Unit)(hk:∀a b,k a=k b):∀(l:List gq)(g:Int),0<=g->g<=256->(cG.L3 k l g=.ok ()↔(g+l.length<=256/\∀z∈l,z.depth<=16)/\k 0=.ok ())
 |[],g,h0,h1=>by simp only[cG.L3,hk g 0,vB,jA];simp;omega
 |y::l,g,h0,h1=>by
  simp only[cG.L3,qf,jB,decide_eq_true_eq,wrap64 (z:=g+1) (by omega),zA,qC]
  by_cases h:g+1<=256
  .rw[Iz k hk l (g+1) (by omega) h]
   constructor
   .rintro⟨⟨_,h3⟩,⟨h4,h5⟩,h6⟩
    refine⟨⟨by omega,λz hz=>?_⟩,h6⟩
    rcases hz with rfl|hz
    .exact h3
    .exact h5 z hz
   .rintro⟨⟨h4,h5⟩,h6⟩
    exact⟨⟨h,h5 y (.inl rfl)⟩,⟨by omega,λz hz=>h5 z (.inr hz)⟩,h6⟩
  .constructor
   .rintro⟨⟨h3,_⟩,_⟩;exact absurd h3 h
   .rintro⟨⟨h4,_⟩,_⟩;omega
theorem IA:∀(l:List Expr),cG.L1 (.ok ()) l=.ok ()↔∀x∈l,(bM x 1).length<=256/\∀z∈bM x 1,z.depth<=16
 |[]=>by simp[cG.L1]
 |y::l=>by
  simp only[cG.L1]
  rw[Iz _ (λ_ _=>rfl) _ 0 (by omega) (by omega),IA l]
  simp only[qC,forall_eq_or_imp]
  constructor
  .rintro⟨⟨a,b⟩,c⟩;exact⟨⟨by omega,b⟩,c⟩
  .rintro⟨⟨a,b⟩,c⟩;exact⟨⟨by omega,b⟩,c⟩
theorem DU(p:Policy):cG p=.ok ()↔(p.Offices.length<=32/\p.Kinds.length<=16/\p.Rules.length<=16)/\∀x∈aA p,(bM x 1).length<=256/\∀z∈bM x 1,z.depth<=16:=by
 unfold cG cG.K1
 rw[qf,IA]
 simp only[jB,decide_eq_true_eq]
 constructor
 .rintro⟨⟨⟨a,b⟩,c⟩,d⟩;exact⟨⟨by omega,by omega,by omega⟩,d⟩
 .rintro⟨⟨a,b,c⟩,d⟩;exact⟨⟨⟨by omega,by omega⟩,by omega⟩,d⟩
theorem Nz(p:Policy):NZ (cG p):=by
 have h3:∀(k:Int->Except Int Unit),(∀a,NZ (k a))->∀l g,NZ (cG.L3 k l g):=by
  intro k hk l
  induction l with
  |nil=>exact λg=>hk g
  |cons y l ih=>exact λg=>NZ.exi (NZ.must (by omega)) (ih _)
 have h1:∀l,NZ (cG.L1 (.ok ()) l):=by
  intro l
  induction l with
  |nil=>exact NZ.ok
  |cons y l ih=>exact h3 _ (λ_=>ih) _ _
 exact NZ.exi (NZ.must (by omega)) (h1 _)
theorem IZ(p:Policy)(k:Except Int Unit):∀l,cH.L3 p k l=.ok ()↔(∀z∈l,((!(dU z.x))||dY p.Offices z.x.Name)=true)/\k=.ok ()
 |[]=>by simp[cH.L3]
 |y::l=>by simp only[cH.L3,qf,IZ p k l,qC,forall_eq_or_imp,and_assoc]
theorem I0(p:Policy):∀l,cH.L1 p (.ok ()) l=.ok ()↔∀x∈l,∀z∈bM x 1,((!(dU z.x))||dY p.Offices z.x.Name)=true
 |[]=>by simp[cH.L1]
 |y::l=>by simp only[cH.L1,IZ,I0 p l,qC,forall_eq_or_imp]
theorem IY(p:Policy):cH p=.ok ()↔(eE p.Name=true/\cm p.Offices eE=true/\cm p.Kinds eE=true)/\∀x∈aA p,∀z∈bM x 1,((!(dU z.x))||dY p.Offices z.x.Name)=true:=by
 unfold cH cH.K1
 rw[qf,I0]
 simp only[jB,and_assoc]
theorem N3(p:Policy):NZ (cH p):=by
 have h3:∀(k:Except Int Unit),NZ k->∀l,NZ (cH.L3 p k l):=by
  intro k hk l
  induction l with
  |nil=>exact hk
  |cons y l ih=>exact NZ.exi (NZ.must (by omega)) ih
 have h1:∀l,NZ (cH.L1 p (.ok ()) l):=by
  intro l
  induction l with
  |nil=>exact NZ.ok
  |cons y l ih=>exact h3 _ ih _
 exact NZ.exi (NZ.must (by omega)) (h1 _)
theorem LK(p:Policy)(i:Nat)(k:Except Int Unit):∀l,bx.L4 p i k l=.ok ()↔(∀z∈l,(bh z.x.Kind 1 4&&kindsP z.x.Kind z.x)=true/\(decide ((i:Int)<IntKind.i64.wrap (((aA p).length:Int)-1))||(z.x.Kind != 4))=true)/\k=.ok ()
 |[]=>by simp[bx.L4]
 |y::l=>by simp only[bx.L4,qf,LK p i k l,qC,forall_eq_or_imp,and_assoc]
theorem DC(p:Policy):∀l i,bx.L2 p (.ok ()) l i=.ok ()↔∀j x,l[j]? = some x->∀z∈bM x 1,(bh z.x.Kind 1 4&&kindsP z.x.Kind z.x)=true/\(decide (((i+j:Nat):Int)<IntKind.i64.wrap (((aA p).length:Int)-1))||(z.x.Kind != 4))=true
 |[],i=>by simp[bx.L2]
 |y::l,i=>by
  simp only[bx.L2]
  rw[LK,DC p l (i+1)]
  constructor
  .rintro⟨h1,h2⟩ j x hj z hz
   cases j with
   |zero=>simp at hj;subst hj;exact h1 z hz
   |succ j=>have:=h2 j x (by simpa using hj) z hz;rw[show i+(j+1)=i+1+j from by omega];exact this
  .intro h
   refine⟨λz hz=>h 0 y rfl z hz,λj x hj z hz=>?_⟩
   have:=h (j+1) x (by simpa using hj) z hz
   rw[show i+(j+1)=i+1+j from by omega]at this;exact this
theorem Bb(p:Policy)(k:Except Int Unit):∀l i,bx.L1 p k l i=.ok ()↔(∀j r,l[j]? = some r->((r.Kind.toList==(nthI p.Kinds (((i+j:Nat):Int))).toList)&&bh r.Think 0 1099511627775)=true)/\k=.ok ()
 |[],i=>by simp[bx.L1]
 |y::l,i=>by
  simp only[bx.L1]
  rw[qf,Bb p k l (i+1)]
  constructor
  .rintro⟨h1,h2,h3⟩
   refine⟨λj r hj=>?_,h3⟩
   cases j with
   |zero=>simp at hj;subst hj;exact h1
   |succ j=>have:=h2 j r (by simpa using hj);rw[show i+(j+1)=i+1+j from by omega];exact this
  .rintro⟨h,h3⟩
   refine⟨h 0 y rfl,λj r hj=>?_,h3⟩
   have:=h (j+1) r (by simpa using hj)
   rw[show i+(j+1)=i+1+j from by omega]at this;exact this
theorem PC(p:Policy):NZ (bx p):=by
 have h4:∀i(k:Except Int Unit),NZ k->∀l,NZ (bx.L4 p i k l):=by
  intro i k hk l
  induction l with
  |nil=>exact hk
  |cons y l ih=>exact NZ.exi (NZ.must (by omega)) (NZ.exi (NZ.must (by omega)) ih)
 have h2:∀l i,NZ (bx.L2 p (.ok ()) l i):=by
  intro l
  induction l with
  |nil=>exact λ_=>NZ.ok
  |cons y l ih=>exact λi=>h4 i _ (ih _) _
 have h1:∀l i,NZ (bx.L1 p (bx.K1 p) l i):=by
  intro l
  induction l with
  |nil=>exact λ_=>h2 _ _
  |cons y l ih=>exact λi=>NZ.exi (NZ.must (by omega)) (ih _)
 exact NZ.exi (NZ.must (by omega)) (h1 _ _)
theorem Ct(p:Policy):NZ (dD p):=
 NZ.exi (Nz p) (NZ.exi (N3 p) (NZ.exi (PC p) NZ.ok))
theorem zZ:exi x f=.ok ()↔x=.ok ()/\f ()=.ok ():=by
 cases x with
 |ok u=>simp[exi]
 |error e=>simp[exi]
theorem tg(p:Policy):dD p=.ok ()↔cG p=.ok ()/\cH p=.ok ()/\bx p=.ok ():=by
 unfold dD
 rw[zZ,zZ,zZ]
 simp
theorem IN(p:Policy):(ep p).2=attR (dD p):=by
 have hL:∀l i g,(ep.L1 p (ep.K1 p) l i g).2=0:=by
  intro l
  induction l with
  |nil=>exact λ_ _=>rfl
  |cons y l ih=>exact λi g=>ih _ _
 unfold ep
 by_cases h:attR (dD p)=0
 .simp[h,hL]
 .rw[show(attR (dD p) != 0)=true from by simpa using h];rfl
theorem JI(p:Policy)(k:Int):∀l i,cT.L1 p k l i=0↔(∀j r,l[j]? = some r->r.KindNo=((i+j:Nat):Int)/\co p.Offices r.Expr=true)/\k=0
 |[],i=>by simp[cT.L1]
 |y::l,i=>by
  simp only[cT.L1,Bool.cond_eq_ite]
  split
  .next h=>
   simp only[xD,bne_iff_ne,kC]at h
   constructor
   .intro h';omega
   .rintro⟨h1,_⟩
    have:=h1 0 y rfl
    simp only[Tb]at this
    rcases h with h|h
    .exact absurd this.1 h
    .rw[this.2]at h;cases h
  .next h=>
   simp only[xD,bne_iff_ne,kC,not_or,Decidable.not_not,Bool.not_eq_false]at h
   rw[JI p k l (i+1)]
   constructor
   .rintro⟨h1,h2⟩
    refine⟨λj r hj=>?_,h2⟩
    cases j with
    |zero=>simp at hj;subst hj;exact h
    |succ j=>have:=h1 j r (by simpa using hj);rw[show i+(j+1)=i+1+j from by omega];exact this
   .rintro⟨h1,h2⟩
    refine⟨λj r hj=>?_,h2⟩
    have:=h1 (j+1) r (by simpa using hj)
    rw[show i+(j+1)=i+1+j from by omega]at this;exact this
theorem Bn(p:Policy):cT p=0↔dD p=.ok ()/\(∀(j:Nat)r,p.Rules[j]? = some r->r.KindNo=(j:Int)/\co p.Offices r.Expr=true)/\co p.Offices p.Change=true:=by
 unfold cT
 rw[IN]
 by_cases h:attR (dD p)=0
 .have h2:=(GZ (Ct p)).1 h
  have hk:cT.K1 p=0↔co p.Offices p.Change=true:=by
   unfold cT.K1
   cases co p.Offices p.Change<;>simp
  rw[show(attR (dD p) != 0)=false from by simpa using h,cond_false,JI,hk]
  simp only[Nat.zero_add,h2,true_and]
 .have h2:¬dD p=.ok ():=λe=>h ((GZ (Ct p)).2 e)
  rw[show(attR (dD p) != 0)=true from by simpa using h,cond_true]
  simp[h,h2]
theorem OS{x:Bool}:(bif c then false else x)=true↔c=false/\x=true:=by cases c<;>simp
theorem te(off:List ByteArray):∀l,co.L1 off true l=true↔∀z∈l,z.x.No=(bif dU z.x then aT off z.x.Name else 0)
 |[]=>by simp[co.L1]
 |y::l=>by
  simp only[co.L1,qC,forall_eq_or_imp]
  cases dU y.x with
  |true=>
   rw[cond_true,cond_true,OS,te off l];simp
  |false=>
   rw[cond_false,cond_false,OS,te off l];simp
theorem Jj(v:ByteArray):∀(l:List ByteArray)(i:Nat),aT.L1 v (-1) l i=-1\/((i:Int)<=aT.L1 v (-1) l i/\aT.L1 v (-1) l i<((i+l.length:Nat):Int))
 |[],i=>.inl rfl
 |y::l,i=>by
  simp only[aT.L1,Bool.cond_eq_ite,zA]
  split
  .right;omega
  .rcases Jj v l (i+1)with h|h
   .exact .inl h
   .right;omega
theorem N7(l:List ByteArray)(v:ByteArray):aT l v<(l.length:Int):=by
 have:=Jj v l 0
 unfold aT aT.K1
 omega
theorem uC{p:Policy}(hc:cT p=0):p.Rules.length=p.Kinds.length/\p.Offices.length<=32/\(∀x∈aA p,OkX (p.Offices.length:Int) x):=by
 obtain⟨h1,h2,h3⟩:=(Bn p).1 hc
 obtain⟨hs,hn,hf⟩:=(tg p).1 h1
 have hf':=hf
 unfold bx at hf
 rw[qf,Bb]at hf
 simp only[jB,decide_eq_true_eq,beq_iff_eq]at hf
 obtain⟨⟨⟨_,hlen⟩,hmode⟩,hrules,hK⟩:=hf
 unfold bx.K1 bx.K2 at hK
 rw[DC]at hK
 obtain⟨⟨ho,_,_⟩,_⟩:=(DU p).1 hs
 obtain⟨_,hnm⟩:=(IY p).1 hn
 refine⟨by omega,ho,λx hx=>?_⟩
 have hres:∀z∈bM x 1,z.x.No=(bif dU z.x then aT p.Offices z.x.Name else 0):=by
  have hr:co p.Offices x=true:=by
   rw[rR]at hx
   rcases xH.1 hx with hx|hx
   .obtain⟨r,hr,rfl⟩:=kJ.1 hx
    obtain⟨j,hj⟩:=SI hr
    exact(h2 j r hj).2
   .rw[xC.1 hx];exact h3
  unfold co co.K1 at hr
  exact(te _ _).1 hr
 obtain⟨j,hj⟩:=SI hx
 have hfm:=λz hz=>(hK j x hj z hz).1
 have hnx:=hnm x hx
 clear hK hnm hj
 let Q:Expr->Prop:=λx=>(1<=x.Kind/\x.Kind<=4)/\(x.Kind<=2->0<=x.No/\x.No<(p.Offices.length:Int))/\(x.Kind=4->x.L.length=2)
 have all:∀z∈bM x 1,(λx:Expr=>(1<=x.Kind/\x.Kind<=4)/\(x.Kind<=2->0<=x.No/\x.No<(p.Offices.length:Int))/\(x.Kind=4->x.L.length=2)) z.x:=by
  intro z hz
  have a:=hfm z hz
  have b:=hnx z hz
  have c:=hres z hz
  simp only[jB,bh,decide_eq_true_eq]at a
  refine⟨a.1,λhk=>?_,λhk=>?_⟩
  .have hnamed:dU z.x=true:=by
    have:z.x.Kind=1\/z.x.Kind=2:=by omega
    rcases this with e|e<;>simp[dU,e]
   simp only[hnamed,Bool.not_true,Bool.false_or,cond_true]at b c
   have hge:0<=aT p.Offices z.x.Name:=by
    have h9:=b
    simp only[dY,decide_eq_true_eq,ge_iff_le]at h9
    exact h9
   have:=N7 p.Offices z.x.Name
   omega
  .have h9:=a.2
   rw[hk]at h9
   simp only[kindsP]at h9
   simp[lB]at h9
   omega
 clear hfm hnx hres hx
 revert all
 refine Expr.ind (P:=λx=>(∀z∈bM x 1,Q z.x)->OkX (p.Offices.length:Int) x) ?_ x
 intro x ih all
 rw[yN Q]at all
 obtain⟨⟨a,b,c⟩,d⟩:=all
 exact OkX.mk x a b c λy hy=>ih y hy (d y hy)
theorem vl{p:Policy}(hc:cT p=0):(1<=p.Mode/\p.Mode<=4)/\p.Rules.length<=16/\∀r∈p.Rules,0<=r.Think/\r.Think<=1099511627775:=by
 obtain⟨h1,_,_⟩:=(Bn p).1 hc
 obtain⟨hs,_,hf⟩:=(tg p).1 h1
 unfold bx at hf
 rw[qf,Bb]at hf
 simp only[jB,bh,decide_eq_true_eq]at hf
 obtain⟨⟨⟨_,_⟩,hmode⟩,hrules,_⟩:=hf
 obtain⟨⟨_,_,hr⟩,_⟩:=(DU p).1 hs
 refine⟨hmode,hr,λr hr=>?_⟩
 obtain⟨j,hj⟩:=SI hr
 exact(hrules j r hj).2
theorem KB{p:Policy}{r:Rule}(h:r∈p.Rules):r.Expr∈aA p:=by
 rw[rR];exact List.mem_append_left _ (List.mem_map_of_mem h)
theorem GC:∀(l:List Int)(g:Int),er.L1 er.K1 l g=true↔(∀x∈l,g<x/\x<64)/\l.Pairwise (·<·)
 |[],g=>by simp[er.L1,er.K1]
 |y::l,g=>by
  simp only[er.L1,Bool.cond_eq_ite,xD,decide_eq_true_eq]
  split
  .next h=>
   constructor
   .intro h';cases h'
   .rintro⟨h1,_⟩;have:=h1 y (zB ..);omega
  .next h=>
   rw[GC l y,List.pairwise_cons]
   simp only[qC,forall_eq_or_imp]
   constructor
   .rintro⟨h1,h2⟩
    exact⟨⟨by omega,λx hx=>by have:=h1 x hx;omega⟩,λx hx=>(h1 x hx).1,h2⟩
   .rintro⟨⟨h1,h2⟩,h3,h4⟩
    exact⟨λx hx=>⟨h3 x hx,(h2 x hx).2⟩,h4⟩
theorem GA(l:List Int):er l=true↔(∀x∈l,0<=x/\x<64)/\l.Pairwise (·<·):=by
 unfold er
 rw[GC]
 constructor
 .rintro⟨h1,h2⟩;exact⟨λx hx=>by have:=h1 x hx;omega,h2⟩
 .rintro⟨h1,h2⟩;exact⟨λx hx=>by have:=h1 x hx;omega,h2⟩
theorem FH{l:List Int}(h:er l=true):l.Pairwise (·<=·):=((GA l).1 h).2.imp (λh=>Int.le_of_lt h)
theorem Mn{hs:List (List Holder)}{n:Int}(h:dI hs n=true):(hs.length:Int)=n:=by
 have h3:∀(k:List Int->Bool)(l:List Holder)(g:List Int),dI.L3 k l g=true->∃g',k g'=true:=by
  intro k l
  induction l with
  |nil=>exact λg h=>⟨g,h⟩
  |cons y l ih=>
   intro g h
   simp only[dI.L3,Bool.cond_eq_ite]at h
   split at h
   .cases h
   .exact ih _ h
 have h1:∀(k:Bool)(l:List (List Holder)),dI.L1 k l=true->k=true:=by
  intro k l
  induction l with
  |nil=>exact λh=>h
  |cons y l ih=>
   intro h
   obtain⟨g',hg⟩:=h3 _ _ _ h
   simp only[Bool.cond_eq_ite]at hg
   split at hg
   .cases hg
   .exact ih hg
 have:=h1 _ _ h
 simpa[dI.K1]using this
theorem C0:∀(l:List Version)(g:Int),-1<=g->g<=1048576->(bJ.L1 bJ.K1 l g=0 ↔
  (∀v∈l,(0<=v.At/\v.At<=1099511627775)/\(0<=v.Known/\v.Known<=1099511627775)/\v.No<=1048576/\cT v.Policy=0)/\(∀v∈l,g<v.No)/\l.Pairwise (λa b=>a.No<b.No))
 |[],g,_,_=>by simp[bJ.L1,bJ.K1]
 |y::l,g,h0,h1=>by
  simp only[bJ.L1,wrap64 (z:=g+1) (by omega),bh]
  by_cases hy:((0<=y.At/\y.At<=1099511627775)/\(0<=y.Known/\y.Known<=1099511627775)/\y.No<=1048576/\cT y.Policy=0)/\g<y.No
  .obtain⟨⟨⟨a,a'⟩,⟨b,b'⟩,c,d⟩,e⟩:=hy
   have hc:(!(decide (g+1<=y.No)&&decide (y.No<=1048576))||!(decide (0<=y.At)&&decide (y.At<=1099511627775))||!(decide (0<=y.Known)&&decide (y.Known<=1099511627775))||cT y.Policy != 0)=false:=by
    simp[a,a',b,b',c,d];omega
   rw[hc,cond_false,C0 l y.No (by omega) c,List.pairwise_cons]
   simp only[qC,forall_eq_or_imp]
   constructor
   .rintro⟨h2,h3,h4⟩
    exact⟨⟨⟨⟨a,a'⟩,⟨b,b'⟩,c,d⟩,h2⟩,⟨e,λv hv=>by have:=h3 v hv;omega⟩,h3,h4⟩
   .rintro⟨⟨_,h2⟩,_,h3,h4⟩;exact⟨h2,h3,h4⟩
  .have hc:(!(decide (g+1<=y.No)&&decide (y.No<=1048576))||!(decide (0<=y.At)&&decide (y.At<=1099511627775))||!(decide (0<=y.Known)&&decide (y.Known<=1099511627775))||cT y.Policy != 0)=true:=by
    apply Classical.byContradiction
    intro hn
    apply hy
    simp only[Bool.not_eq_true,Bool.or_eq_false_iff,Bool.not_eq_false',jB,decide_eq_true_eq,bne_eq_false_iff_eq]at hn
    obtain⟨⟨⟨a,b⟩,c⟩,d⟩:=hn
    exact⟨⟨b,c,a.2,d⟩,by omega⟩
   rw[hc,cond_true]
   constructor
   .intro h;omega
   .rintro⟨h2,h3,_⟩
    exact absurd ⟨h2 y (zB ..),h3 y (zB ..)⟩ hy
structure yX(l:List Version):Prop where
 len:l.length<=256
 each:∀v∈l,(0<=v.At/\v.At<=1099511627775)/\(0<=v.Known/\v.Known<=1099511627775)/\(0<=v.No/\v.No<=1048576)/\cT v.Policy=0
 inc:l.Pairwise (λa b=>a.No<b.No)
theorem oS(l:List Version):bJ l=0↔yX l:=by
 unfold bJ
 by_cases hl:l.length<=256
 .rw[show decide (256<(l.length:Int))=false from decide_eq_false (by omega),cond_false,C0 l (-1) (by omega) (by omega)]
  constructor
  .rintro⟨h1,h2,h3⟩;exact⟨hl,λv hv=>by have a:=h1 v hv;have b:=h2 v hv;exact⟨a.1,a.2.1,⟨by omega,a.2.2.1⟩,a.2.2.2⟩,h3⟩
  .rintro⟨_,h1,h3⟩;exact⟨λv hv=>by have:=h1 v hv;exact⟨this.1,this.2.1,by omega,this.2.2.2⟩,λv hv=>by have:=h1 v hv;omega,h3⟩
 .rw[show decide (256<(l.length:Int))=true from decide_eq_true (by omega),cond_true]
  exact⟨λh=>by omega,λh=>absurd h.len hl⟩
theorem yX.mode{l:List Version}(g:yX l){v:Version}(hv:v∈l):1<=v.Policy.Mode/\v.Policy.Mode<=4:=(vl (g.each v hv).2.2.2).1
theorem yX.okV{l:List Version}(g:yX l):okV l:=⟨g.len,λv hv=>⟨⟨(vl (g.each v hv).2.2.2).2.1,(uC (g.each v hv).2.2.2).2.1⟩,(vl (g.each v hv).2.2.2).2.2⟩⟩
theorem GK{κ α : Type}[DecidableEq κ](k:κ)(v:α):∀(m:List (κ×α))(x:κ),mget? (mput m k v) x=if x=k then some v else mget? m x
 |[],x=>by simp[mput,mget?]
 |(k',v')::m,x=>by
  simp only[mput]
  by_cases e:k=k'
  .subst e;by_cases e2:x=k<;>simp[mget?,e2]
  .simp only[e,if_false,mget?,GK k v m x]
   by_cases e2:x=k'
   .subst e2;simp[Ne.symm e]
   .simp[e2]
theorem CC{κ α : Type}[DecidableEq κ]{x:κ}:∀{m:List (κ×α)},x∈m.map (·.1)->∃v,mget? m x=some v/\(x,v)∈m
 |(k,v)::m,h=>by
  by_cases e:x=k
  .subst e;exact⟨v,by simp[mget?],by simp⟩
  .simp only[kG,qC,e,false_or]at h
   obtain⟨u,h1,h2⟩:=CC h
   exact⟨u,by simp[mget?,e,h1],vA _ h2⟩
theorem BR{κ α : Type}[DecidableEq κ]{k:κ}{v:α}{q:κ×α}:∀{m:List (κ×α)},q∈mput m k v->q=(k,v)\/q∈m
 |[],h=>by simp[mput]at h;exact .inl h
 |(k',v')::m,h=>by
  simp only[mput]at h
  split at h
  .rcases qC.1 h with h|h
   .exact .inl h
   .exact .inr (vA _ h)
  .rcases qC.1 h with h|h
   .exact .inr (h▸zB ..)
   .rcases BR h with h|h
    .exact .inl h
    .exact .inr (vA _ h)
theorem EN(g:List (Int×Version)):∀l,bH.L2 g [] l=l.map λy=>(y,mgetD g y (Sv 0 0 0 (qM (⟨#[]⟩:ByteArray) [] [] [] (vG 0 0 0 (⟨#[]⟩:ByteArray) []) 0)))
 |[]=>rfl
 |y::l=>by simp[bH.L2,EN g l]
def inForceM(known eW:Int):List Version->Int->List (Int×Version)->List (Int×Version)
 |[],_,m=>m
 |y::l,b,m=>bif decide (known<y.Known)then inForceM known eW l b m else bif decide (y.At<=eW)then(bif decide (y.At<b)then inForceM known eW l b m else inForceM known eW l y.At (mput m eW y))else inForceM known eW l b (mput m y.At y)
theorem EO(known eW:Int)(k:Int->List (Int×Version)->List (Int×Version))(hk:∀a b m,k a m=k b m):∀l b m,bH.L1 known eW k l b m=k 0 (inForceM known eW l b m)
 |[],b,m=>hk _ _ _
 |y::l,b,m=>by
  simp only[bH.L1,inForceM,EO known eW k hk l]
  cases decide (known<y.Known)<;>cases decide (y.At<=eW)<;>cases decide (y.At<b)<;>rfl
theorem zO(l:List Version)(eW known:Int):gg l eW known=(sortI ((inForceM known eW l (-1) []).map Prod.fst)).map λy=>(y,mgetD (inForceM known eW l (-1) []) y (Sv 0 0 0 (qM (⟨#[]⟩:ByteArray) [] [] [] (vG 0 0 0 (⟨#[]⟩:ByteArray) []) 0))):=by
 unfold gg bH
 rw[EO _ _ _ (λ_ _ _=>rfl)]
 exact EN _ _
theorem po(known eW:Int)(P:Int×Version->Prop):∀(l:List Version)b m,(∀y∈l,y.At<=eW->P (eW,y))->(∀y∈l,eW<y.At->P (y.At,y))->(∀q∈m,P q)->∀q∈inForceM known eW l b m,P q
 |[],_,_,_,_,hm=>hm
 |y::l,b,m,h1,h2,hm=>by
  have h1':=λz hz=>h1 z (vA _ hz)
  have h2':=λz hz=>h2 z (vA _ hz)
  simp only[inForceM,Bool.cond_eq_ite,decide_eq_true_eq]
  split
  .exact po known eW P l b m h1' h2' hm
  .split
   .next ha=>
    split
    .exact po known eW P l b m h1' h2' hm
    .refine po known eW P l _ _ h1' h2' (λq hq=>?_)
     rcases BR hq with rfl|hq
     .exact h1 y (zB ..) ha
     .exact hm q hq
   .next ha=>
    refine po known eW P l _ _ h1' h2' (λq hq=>?_)
    rcases BR hq with rfl|hq
    .exact h2 y (zB ..) (by omega)
    .exact hm q hq
theorem xg{l:List Version}{eW:Int}(P:Int×Version->Prop)(h1:∀y∈l,y.At<=eW->P (eW,y))(h2:∀y∈l,eW<y.At->P (y.At,y)):∀q∈gg l eW known,P q:=by
 intro q hq
 rw[zO]at hq
 obtain⟨y,hy,rfl⟩:=kJ.1 hq
 have hy':=(lG _).mem_iff.1 hy
 obtain⟨v,e,hv⟩:=CC hy'
 have:mgetD (inForceM known eW l (-1) []) y (Sv 0 0 0 (qM (⟨#[]⟩:ByteArray) [] [] [] (vG 0 0 0 (⟨#[]⟩:ByteArray) []) 0))=v:=by simp[mgetD,e]
 simp only[this]
 exact po known eW P l (-1) [] h1 h2 (λq hq=>(jA hq).elim) _ hv
theorem xe{l:List Version}{eW:Int}:∀q∈gg l eW known,q.2∈l:=
 xg (λq=>q.2∈l) (λy hy _=>hy) (λy hy _=>hy)
theorem rK(known eW:Int):∀(l:List Version)b m,(inForceM known eW l b m).length<=m.length+l.length
 |[],_,_=>xG _
 |y::l,b,m=>by
  have a1:=rK known eW l b m
  have a2:=rK known eW l y.At (mput m eW y)
  have a3:=rK known eW l b (mput m y.At y)
  have b2:=gy m eW y
  have b3:=gy m y.At y
  simp only[inForceM,Bool.cond_eq_ite,zA]
  split
  .omega
  .split
   .split<;>omega
   .omega
theorem CJ(l:List Version)(eW known:Int):(gg l eW known).length<=l.length:=by
 rw[zO,List.length_map,gP,List.length_map]
 have:=rK known eW l (-1) []
 simpa using this
theorem Aw:∀{a b:List OSeat},a.Pairwise (λx y=>x.person<y.person)->b.Pairwise (λx y=>x.person<y.person)->a.Perm b->a=b
 |[],b,_,_,p=>(List.Perm.nil_eq p)
 |x::a,[],_,_,p=>absurd p.length_eq (by simp)
 |x::a,y::b,ha,hb,p=>by
  have hx:x=y:=by
   have h1:x∈y::b:=p.mem_iff.1 (zB ..)
   have h2:y∈x::a:=p.mem_iff.2 (zB ..)
   rw[List.pairwise_cons]at ha hb
   rcases qC.1 h1 with e|h1
   .exact e
   .rcases qC.1 h2 with e|h2
    .exact e.symm
    .have:=ha.1 y h2;have:=hb.1 x h1;omega
  subst hx
  rw[List.pairwise_cons]at ha hb
  rw[Aw ha.2 hb.2 (List.Perm.cons_inv p)]
theorem Ay{l:List OSeat}(hn:l.Nodup)(hs:l.Pairwise (λx y=>x.person<=y.person)):(l.filter (λy=>y.office==office)).Pairwise (λx y=>x.person<y.person):=by
 induction l with
 |nil=>exact List.Pairwise.nil
 |cons x l ih=>
  rw[xN]at hn
  rw[List.pairwise_cons]at hs
  rw[List.filter_cons]
  split
  .next h=>
   rw[List.pairwise_cons]
   refine⟨λy hy=>?_,ih hn.2 hs.2⟩
   obtain⟨hy1,hy2⟩:=RP.1 hy
   have h1:=hs.1 y hy1
   rcases Int.lt_or_eq_of_le h1 with h2|h2
   .exact h2
   .exfalso
    have:x=y:=by
     cases x;cases y
     simp at h hy2 h2
     simp[h,hy2,h2]
    exact hn.1 (this▸hy1)
  .exact ih hn.2 hs.2
theorem vf(m:List (OSeat×Appoint))(office:Int):∀l,cd.L1 m office [] l=(l.filter λy=>y.office==office).filterMap λy=>bif(mgetD m y (kF 0 0 0 0 0 0 false)).Gone then none else some (UA (mgetD m y (kF 0 0 0 0 0 0 false)).Person (mgetD m y (kF 0 0 0 0 0 0 false)).Weight)
 |[]=>rfl
 |y::l=>by
  simp only[cd.L1,vf m office l,List.filter_cons]
  cases h1:y.office==office<;>cases h2:(mgetD m y (kF 0 0 0 0 0 0 false)).Gone<;>simp[h2]
theorem FO{m:List (OSeat×Appoint)}{ys:List OSeat}(hn:(m.map (·.1)).Nodup)(hp:ys.Perm (m.map Prod.fst))(hs:ys.Pairwise (λx y=>x.person<=y.person)):
  cd m office=[]++((cd.L1 m office cd.K1) ys):=by
 unfold cd cd.K1
 rw[zG,vf,vf]
 have h1:(seatS (m.map Prod.fst)).Nodup:=(uS _).nodup_iff.2 hn
 have h2:ys.Nodup:=hp.nodup_iff.2 hn
 rw[Aw (Ay h1 (Az _)) (Ay h2 hs) (((uS _).trans hp.symm).filter _)]
theorem w8(key:Appoint->OSeat×Bool)(later:Appoint->Appoint->Bool):∀(l:List Appoint)m,(cW.L1 key later cW.K1 l m).length<=m.length+l.length
 |[],m=>by simp[cW.L1,cW.K1]
 |y::l,m=>by
  have a:=w8 key later l m
  have b:=w8 key later l (mput m (key y).1 y)
  have c:=gy m (key y).1 y
  simp only[cW.L1,Bool.cond_eq_ite,zA]
  split<;>omega
theorem uP(l:List Appoint)(a b:Int):(dp l a b).length<=l.length:=by
 have:=w8 (λcj=>fC cj a b) kw l []
 simpa[dp,cW]using this
theorem JE(l:List Holder):gp l=l:=by
 have:∀(l g:List Holder),cy.L1 cy.K1 l g=g++l:=by
  intro l
  induction l with
  |nil=>intro g;simp[cy.L1,cy.K1]
  |cons y l ih=>intro g;simp[cy.L1,ih]
 simp[gp,cy,this]
theorem CL(m:List (OSeat×Appoint))(office:Int):(jq m office).length<=m.length:=by
 unfold jq cd cd.K1
 rw[vf]
 have h1:=List.length_filterMap_le (λy=>bif(mgetD m y (kF 0 0 0 0 0 0 false)).Gone then none else some (UA (mgetD m y (kF 0 0 0 0 0 0 false)).Person (mgetD m y (kF 0 0 0 0 0 0 false)).Weight)) ((seatS (m.map Prod.fst)).filter λy=>y.office==office)
 have h2:=List.length_filter_le (λy:OSeat=>y.office==office) (seatS (m.map Prod.fst))
 have h3:=(uS (m.map Prod.fst)).length_eq
 rw[List.length_map]at h3
 omega
theorem C7(l:List Appoint)(office a b:Int):(dg l office a b).1.length<=l.length:=by
 unfold dg
 rw[JE]
 have h1:=CL (dp l a b) office
 have h2:=uP l a b
 cases(dq l != 0)<;>cases((!(fo office))||(!(cZ a))||(!(cZ b)))<;>simp<;>omega
theorem rQ(q:aD)(at_:Int):∀(l:List Version)(g:List Policy),aB.L1 q at_ (aB.K1 q at_) l g=(g++(l.filter λv=>eH (aK q.Register.Versions q.doc.At at_ q.known).1 v.No).map (·.Policy),(aK q.Register.Versions q.doc.At at_ q.known).2.1)
 |[],g=>by simp[aB.L1,aB.K1]
 |y::l,g=>by
  simp only[aB.L1,rQ q at_ l,List.filter_cons]
  cases eH (aK q.Register.Versions q.doc.At at_ q.known).1 y.No<;>simp
theorem zx{at_:Int}{p:Policy}(h:p∈(aB q at_).1):∃v∈q.Register.Versions,v.Policy=p:=by
 unfold aB at h
 rw[Bool.cond_eq_ite]at h
 split at h
 .exact(jA h).elim
 .rw[rQ,zG]at h
  obtain⟨v,hv,e⟩:=kJ.1 h
  exact⟨v,(RP.1 hv).1,e⟩
theorem EF(q:aD)(at_:Int):(aB q at_).1.length<=q.Register.Versions.length:=by
 unfold aB
 rw[Bool.cond_eq_ite]
 split
 .exact Nat.zero_le _
 .rw[rQ,zG,List.length_map]
  exact List.length_filter_le _ _
theorem Cv(q:aD)(at_:Int):∀(l:List ByteArray)(i:Nat)(g:List (List Holder)),aG.L1 q at_ aG.K1 l i g=g++(jJ l.length).map λj=>(dg q.Register.Appoints ((i+j:Nat):Int) at_ q.known).1
 |[],i,g=>by simp[aG.L1,aG.K1]
 |y::l,i,g=>by
  simp only[aG.L1,Cv q at_ l,zA,qE]
  congr 1
  rw[List.range_succ_eq_map,kG,List.map_map]
  simp only[Tb,Ue,List.cons.injEq,true_and]
  apply List.map_congr_left
  intro j _
  simp only[Function.comp]
  rw[show i+1+j=i+(j+1)from by omega]
theorem qs(q:aD)(p:Policy)(at_:Int):aG q p at_=(jJ p.Offices.length).map λ(j:Nat)=>(dg q.Register.Appoints (j:Int) at_ q.known).1:=by
 unfold aG
 rw[Cv]
 simp
theorem wP(h:q.Register.Appoints.length<=2000000)(p:Policy)(at_:Int):∀y∈aG q p at_,y.length<=2000000:=by
 intro y hy
 rw[qs]at hy
 obtain⟨j,_,rfl⟩:=kJ.1 hy
 exact jP (C7 _ _ _ _) h
theorem Hu(q:aD)(p:Policy)(at_:Int):(aG q p at_).length=p.Offices.length:=by rw[qs];simp
theorem MH(l:List Int)(p:Int->Bool):(ce l p).length<=l.length:=List.length_filter_le _ _
theorem lY(r:Register):et r=0↔dq r.Appoints=0/\dH r.Deputies=0/\dh r.Interests=0/\cR r.Budgets=0/\bJ r.Versions=0/\bz r.Docs=0/\bX r.Approvals=0:=by
 have e:et r=(bif dq r.Appoints != 0 then 300 else bif dH r.Deputies != 0 then 300 else bif dh r.Interests != 0 then 300 else bif cR r.Budgets != 0 then 300 else bif bJ r.Versions != 0 then 300 else bif bz r.Docs != 0 then 300 else bif bX r.Approvals != 0 then 300 else 0):=rfl
 rw[e]
 have key:∀(a x:Int),(bif a != 0 then 300 else x)=0↔a=0/\x=0:=by
  intro a x
  by_cases h:a=0
  .simp[h]
  .have:(a != 0)=true:=by simpa using h
   rw[this];simp[h]
 simp only[key,and_true]
theorem Ly(limit:Int)(k:Int->Bool):∀(l:List Int)(g:Int),dK.L1 limit k l g=true↔((∀x∈l,g<x/\x<limit)/\l.Pairwise (·<·))/\∃g',(l=[]/\g'=g\/l.getLast? = some g')/\k g'=true
 |[],g=>by simp[dK.L1]
 |y::l,g=>by
  simp only[dK.L1,Bool.cond_eq_ite,xD,decide_eq_true_eq]
  split
  .next h=>
   constructor
   .intro h';cases h'
   .rintro⟨⟨h1,_⟩,_⟩;have:=h1 y (zB ..);omega
  .next h=>
   rw[Ly limit k l y,List.pairwise_cons]
   simp only[qC,forall_eq_or_imp]
   constructor
   .rintro⟨⟨h1,h2⟩,g',h3,h4⟩
    refine⟨⟨⟨by omega,λx hx=>by have:=h1 x hx;omega⟩,λx hx=>(h1 x hx).1,h2⟩,g',?_,h4⟩
    rcases h3 with⟨rfl,rfl⟩|h3
    .simp
    .right;cases l with
     |nil=>simp at h3
     |cons z l=>simpa using h3
   .rintro⟨⟨⟨h1,h2⟩,h3,h4⟩,g',h5,h6⟩
    refine⟨⟨λx hx=>⟨h3 x hx,(h2 x hx).2⟩,h4⟩,g',?_,h6⟩
    rcases h5 with⟨h5,_⟩|h5
    .cases h5
    .cases l with
     |nil=>left;simp at h5;exact⟨rfl,h5.symm⟩
     |cons z l=>right;simpa using h5
theorem Pv(l:List Int)(limit:Int):dK l limit=true↔((∀x∈l,0<=x/\x<limit)/\l.Pairwise (·<·))/\l.length<=16:=by
 unfold dK
 rw[Ly]
 constructor
 .rintro⟨⟨h1,h2⟩,g',_,h3⟩
  refine⟨⟨λx hx=>by have:=h1 x hx;omega,h2⟩,?_⟩
  simp only[dK.K1,decide_eq_true_eq]at h3
  omega
 .rintro⟨⟨h1,h2⟩,h3⟩
  refine⟨⟨λx hx=>by have:=h1 x hx;omega,h2⟩,?_⟩
  cases l with
  |nil=>exact⟨_,.inl ⟨rfl,rfl⟩,by simp[dK.K1]⟩
  |cons y l=>
   refine⟨(y::l).getLast (by simp),.inr (List.getLast?_eq_some_getLast _),?_⟩
   simp only[dK.K1,decide_eq_true_eq]
   omega
structure JW(d:Document):Prop where
 no:0<=d.No/\d.No<4096
 at_:0<=d.At/\d.At<1099511627776
 kind:0<=d.Kind/\d.Kind<16
 value:0<=d.Value/\d.Value<=1099511627776
 eW:0<=d.From/\d.From<d.Until
 Qe:d.Until<=1099511627776
 parties:((∀x∈d.Parties,0<=x/\x<1048577)/\d.Parties.Pairwise (·<·))/\d.Parties.length<=16
 revokes:((∀x∈d.Revokes,0<=x/\x<d.No)/\d.Revokes.Pairwise (·<·))/\d.Revokes.length<=16
 needs:((∀x∈d.Needs,0<=x/\x<d.No)/\d.Needs.Pairwise (·<·))/\d.Needs.length<=16
theorem IK(d:Document):iy d=true↔JW d:=by
 unfold iy gm
 simp only[jB,decide_eq_true_eq,Pv]
 constructor
 .rintro⟨⟨⟨⟨⟨⟨⟨⟨⟨⟨⟨⟨a,b⟩,c,d⟩,e⟩,f⟩,g⟩,h⟩,i⟩,j⟩,k⟩,l⟩,m⟩,n⟩
  exact⟨⟨a,b⟩,⟨c,d⟩,⟨e,f⟩,⟨g,h⟩,⟨i,j⟩,k,l,m,n⟩
 .rintro⟨⟨a,b⟩,⟨c,d⟩,⟨e,f⟩,⟨g,h⟩,⟨i,j⟩,k,l,m,n⟩
  exact⟨⟨⟨⟨⟨⟨⟨⟨⟨⟨⟨⟨a,b⟩,c,d⟩,e⟩,f⟩,g⟩,h⟩,i⟩,j⟩,k⟩,l⟩,m⟩,n⟩
theorem Fd(l0:List Document):∀(l:List Document)(i:Nat),bz.L1 l0 0 l i=0->∀d∈l,iy d=true
 |[],_,_,_,hd=>(jA hd).elim
 |y::l,i,h,d,hd=>by
  simp only[bz.L1,Bool.cond_eq_ite]at h
  split at h
  .omega
  .next hc=>
   simp only[xD,not_or,kC,Bool.not_eq_false]at hc
   rcases qC.1 hd with rfl|hd
   .exact hc.1.1
   .exact Fd l0 l (i+1) h d hd
theorem yk{l:List Document}(h:bz l=0):∀d∈l,JW d:=by
 unfold bz bz.K1 at h
 rw[Bool.cond_eq_ite]at h
 split at h
 .omega
 .exact λd hd=>(IK d).1 (Fd l l 0 h d hd)
theorem AP(f:Document->Bool):∀(l:List Document)(i:Nat),(ad.L1 f ad.K1 l i=-1/\∀x∈l,f x=false) \/
  ∃a y b,l=a++y::b/\ad.L1 f ad.K1 l i=((i+a.length:Nat):Int)/\f y=true/\∀x∈a,f x=false
 |[],i=>.inl ⟨rfl,λ_ h=>(jA h).elim⟩
 |y::l,i=>by
  simp only[ad.L1]
  cases hy:f y with
  |true=>exact .inr ⟨[],y,l,rfl,by simp,hy,λ_ h=>(jA h).elim⟩
  |false=>
   rcases AP f l (i+1)with⟨h1,h2⟩|⟨a,z,b,rfl,h2,h3,h4⟩
   .exact .inl ⟨h1,λx hx=>by rcases qC.1 hx with rfl|hx;exact hy;exact h2 x hx⟩
   .refine .inr ⟨y::a,z,b,rfl,?_,h3,λx hx=>by rcases qC.1 hx with rfl|hx;exact hy;exact h4 x hx⟩
    rw[cond_false,h2];simp only[zA];congr 1;omega
theorem QT{r:Register}(h:(dx r doc known).2=true):(dx r doc known).1.Register=r/\(dx r doc known).1.doc∈r.Docs/\(dx r doc known).1.doc.No=doc/\(dx r doc known).1.known=known/\mH known=true:=by
 unfold dx at h ⊢
 rw[Bool.cond_eq_ite]at h ⊢
 rcases AP (λcj=>cv cj doc) r.Docs 0 with⟨h1,_⟩|⟨a,y,b,h1,h2,h3,_⟩
 .have:ad r.Docs (λcj=>cv cj doc)=-1:=h1
  rw[this]at h
  simp at h
 .have e:ad r.Docs (λcj=>cv cj doc)=(a.length:Int):=by rw[Nat.zero_add]at h2;exact h2
  have hn:nthI r.Docs (a.length:Int)=y:=Ev (by rw[h1];simp)
  rw[e]at h ⊢
  cases ht:mH known with
  |false=>rw[ht]at h;simp at h
  |true=>
   rw[hn]
   have hc:(decide ((a.length:Int)<0)||!true)=false:=by simp
   rw[hc]
   rw[if_neg (by simp)]
   refine⟨by cases r;rfl,?_,?_,rfl,rfl⟩
   .have:y∈r.Docs:=by rw[h1];simp
    cases y;exact this
   .have h4:y.No=doc:=by simpa[cv]using h3
    exact h4
structure Rl(r:Register)(q:aD):Prop where
 reg:q.Register=r
 vers:yX r.Versions
 doc:JW q.doc
theorem asked{r:Register}(hc:et r=0)(h:(dx r doc known).2=true):Rl r (dx r doc known).1:=by
 obtain⟨_,_,_,_,h5,h6,_⟩:=(lY r).1 hc
 obtain⟨h1,h2,_⟩:=QT h
 exact⟨h1,(oS _).1 h5,yk h6 _ h2⟩
theorem Cz(l0:List Int):∀(l:List Int)(i:Nat),(aS.L1 l0 [] l i).length<=l.length
 |[],_=>xG _
 |y::l,i=>by
  have ih:=Cz l0 l (i+1)
  simp only[aS.L1,Bool.cond_eq_ite,zA]
  split<;>split<;>first|omega|(simp only[zA];omega)
def changeR(q:aD)(l:List Rule)(m:List (Int×Bool)):List (Int×Bool):=l.foldl (λm x=>mput m (q.doc.At+x.Think) true) m
def changeV(q:aD)(l:List Version)(m:List (Int×Bool)):List (Int×Bool):=l.foldl (λm v=>changeR q v.Policy.Rules (mput m v.At true)) m
def changeM(q:aD):List (Int×Bool):=
 changeV q q.Register.Versions (q.Register.Interests.foldl (λm x=>mput m x.At true) (q.Register.Appoints.foldl (λm x=>mput m x.At true) (mput (mput (mput [] 0 true) q.doc.At true) q.doc.Until true)))
theorem Gu(q:aD)(k:List (Int×Bool)->List Span):∀l m,aE.L5 q k l m=k (changeR q l m)
 |[],m=>rfl
 |y::l,m=>by simp only[aE.L5,Gu q k l];rfl
theorem Gv(q:aD)(k:List (Int×Bool)->List Span):∀l m,aE.L3 q k l m=k (changeV q l m)
 |[],m=>rfl
 |y::l,m=>by simp only[aE.L3,Gu,Gv q k l];rfl
theorem Gx(k:List (Int×Bool)->List Span):∀l m,aE.L2 k l m=k (l.foldl (λm x=>mput m x.At true) m)
 |[],m=>rfl
 |y::l,m=>by simp only[aE.L2,Gx k l];rfl
theorem Gy(k:List (Int×Bool)->List Span):∀l m,aE.L1 k l m=k (l.foldl (λm x=>mput m x.At true) m)
 |[],m=>rfl
 |y::l,m=>by simp only[aE.L1,Gy k l];rfl
theorem Gt(q:aD):aE q=aS (sortI ((changeM q).map Prod.fst)):=by
 unfold aE
 rw[Gy]
 unfold aE.K1
 rw[Gx]
 unfold aE.K2
 rw[Gv]
 rfl
theorem Bc{α : Type}(f:α->Int):∀(l:List α)(m:List (Int×Bool)),(l.foldl (λm x=>mput m (f x) true) m).length<=m.length+l.length
 |[],m=>xG _
 |y::l,m=>by
  have:=Bc f l (mput m (f y) true)
  have:=gy m (f y) true
  simp only[List.foldl_cons,zA]
  omega
theorem C1(q:aD):∀(l:List Version)(m:List (Int×Bool)),(∀v∈l,v.Policy.Rules.length<=16)->(changeV q l m).length<=m.length+17*l.length
 |[],m,_=>xG _
 |y::l,m,h=>by
  have a:=C1 q l (changeR q y.Policy.Rules (mput m y.At true)) (λv hv=>h v (vA _ hv))
  have b:=Bc (λx:Rule=>q.doc.At+x.Think) y.Policy.Rules (mput m y.At true)
  have c:=gy m y.At true
  have d:=h y (zB ..)
  simp only[changeV,List.foldl_cons,zA]at a ⊢
  simp only[changeR]at a ⊢
  omega
theorem Ms(hsm:smR q.Register)(hov:okV q.Register.Versions):(aE q).length<=5000000:=by
 rw[Gt]
 have h1:=Cz (sortI ((changeM q).map Prod.fst)) (sortI ((changeM q).map Prod.fst)) 0
 rw[gP,List.length_map]at h1
 unfold aS aS.K1
 have h2:=C1 q q.Register.Versions (q.Register.Interests.foldl (λm x=>mput m x.At true) (q.Register.Appoints.foldl (λm x=>mput m x.At true) (mput (mput (mput [] 0 true) q.doc.At true) q.doc.Until true))) (λv hv=>(hov.2 v hv).1.1)
 have h3:=Bc (λx:Interest=>x.At) q.Register.Interests (q.Register.Appoints.foldl (λm x=>mput m x.At true) (mput (mput (mput [] 0 true) q.doc.At true) q.doc.Until true))
 have h4:=Bc (λx:Appoint=>x.At) q.Register.Appoints (mput (mput (mput [] 0 true) q.doc.At true) q.doc.Until true)
 have h5:=gy (mput (mput ([]:List (Int×Bool)) 0 true) q.doc.At true) q.doc.Until true
 have h6:=gy (mput ([]:List (Int×Bool)) 0 true) q.doc.At true
 have h7:=gy ([]:List (Int×Bool)) 0 true
 have h8:=hsm.2.1
 have h9:=hsm.2.2.2.1
 have h10:=hov.1
 simp only[vB]at h7
 change(changeM q).length<=_ at h2
 omega
theorem Ks(mode:Int)(l:List Version)(old:Bool):(judgesP mode l old).length<=l.length:=by
 unfold judgesP je iI jd
 cases mode==1<;>cases mode==2<;>cases old<;>simp<;>omega
theorem Ci(k:List Int->List Int×Int×Int):∀(l:List Version)(g:List Int),aK.L2 k l g=k (g++l.map (·.No))
 |[],g=>by simp[aK.L2]
 |y::l,g=>by simp[aK.L2,Ci k l]
theorem Ha(begun at_:Int)(P:List Int×Int×Int->Prop)(n:Nat)(k:Bool->List Version->List Int×Int×Int)(hk:∀b g,g.length<=n->P (k b g)):∀(l:List (Int×Version))b g,g.length+l.length<=n->P (aK.L1 begun at_ k l b g)
 |[],b,g,h=>by simpa[aK.L1]using hk b g (by simpa using h)
 |y::l,b,g,h=>by
  simp only[aK.L1]
  simp only[zA]at h
  cases decide (at_<y.1)
  .exact Ha begun at_ P n k hk l _ _ (by simp;omega)
  .exact hk _ _ (by omega)
theorem KK(l:List Version)(begun at_ known:Int):(aK l begun at_ known).1.length<=l.length:=by
 unfold aK
 cases(bJ l != 0)
 .cases(((!(fN begun))||(!(fN at_)))||(!(fN known)))||decide (at_<begun)
  .simp only[cond_false]
   refine Ha begun at_ (λr=>r.1.length<=l.length) l.length _ ?_ _ _ _ (by have:=CJ l begun known;simpa using this)
   intro b g hg
   unfold aK.K1
   cases((g.length:Int)==0)
   .simp only[cond_false,Ci,aK.K2,zG,gP,List.length_map]
    exact jP (Ks _ _ _) hg
   .simp
  .simp
 .simp
theorem Mk:u0=true:=by kernel_rfl
theorem Mi:smR bN:=by simp[smR,smV,smP,bN,T2,S3]
theorem Pc:smR (qQ [] [] [] [] [] [] []):=by simp[smR,smV]
theorem Pb:smR (qQ [(kF 0 0 0 0 0 0 false)] [] [] [] [] [] []):=by simp[smR,smV]
theorem Pd(a b:Interest):smR (qQ bN.Appoints bN.Deputies [a,b] bN.Budgets bN.Versions bN.Docs bN.Approvals):=by simp[smR,smV,smP,bN,T2,S3]
theorem Nw:smR (qQ bN.Appoints bN.Deputies bN.Interests bN.Budgets [] bN.Docs bN.Approvals):=by simp[smR,smV,smP,bN,T2,S3]
theorem oy{p:Prop}(h:p:=by first|exact Mi|exact Pc|exact Pb|exact Pd _ _|exact Nw):p:=h
theorem ze{P:Program}{f:FuncId}{args:List Value}{h:HF}{v v':Value}(t:Ret P f args h v)(e:v=v'):Ret P f args h v':=e▸t
theorem D7(k:Bool):∀l:List Int,ga.L1 k l=true↔(∀x∈l,fh x=true)/\k=true
 |[]=>by simp[ga.L1]
 |y::l=>by
  simp only[ga.L1,Bool.cond_eq_ite,qC,forall_eq_or_imp,kC]
  have ih:=D7 k l
  cases fh y<;>simp[ih]
structure QX(r:Register)(doc:Int)(who l:List Int):Prop where
 times:∀x∈l,0<=x/\x<1099511627776
 check:mK r=0
 doc0:0<=dc r doc
 people:iU who=true
theorem Pi{r:Register}{who l:List Int}(h:ga r doc who l=true):QX r doc who l:=by
 unfold ga at h
 obtain⟨h1,h2⟩:=(D7 _ _).1 h
 simp only[ga.K1,jB,beq_iff_eq,decide_eq_true_eq]at h2
 exact⟨λx hx=>by have:=h1 x hx;simpa[fh]using this,h2.1.1.2,h2.1.2,h2.2⟩
theorem Lt(no:Int):∀(l:List Document)(i:Nat),0<=dc.L1 no dc.K1 l i->∃(j:Nat)(d:Document),l[j]? = some d/\d.No=no/\dc.L1 no dc.K1 l i=((i+j:Nat):Int)
 |[],i,h=>by simp[dc.L1,dc.K1]at h
 |y::l,i,h=>by
  simp only[dc.L1,Bool.cond_eq_ite,beq_iff_eq]at h ⊢
  split
  .next e=>exact⟨0,y,rfl,e,rfl⟩
  .next e=>
   rw[if_neg e]at h
   obtain⟨j,d,h1,h2,h3⟩:=Lt no l (i+1) h
   exact⟨j+1,d,by simpa using h1,h2,by rw[h3];congr 1;omega⟩
theorem Pq{r:Register}{no:Int}(h:0<=dc r no):dc r no<(r.Docs.length:Int)/\nthI r.Docs (dc r no)∈r.Docs/\(nthI r.Docs (dc r no)).No=no:=by
 obtain⟨j,d,h1,h2,h3⟩:=Lt no r.Docs 0 h
 rw[Nat.zero_add]at h3
 have hl:=(List.getElem?_eq_some_iff.1 h1).1
 have e:dc r no=(j:Int):=h3
 have hb:0<=dc r no/\dc r no<(r.Docs.length:Int):=by omega
 have hg:=dy hb
 rw[show(dc r no).toNat=j from by omega,h1]at hg
 have hd:=xT hg
 exact⟨hb.2,lm hb,by rw[←hd];exact h2⟩
theorem JH{r:Register}(h:mK r=0):fZ r.Appoints=0/\ij r.Deputies=0/\fT r.Interests=0/\ig r.Budgets=0/\e9 r.Versions=0/\ii r.Docs=0/\ie r.Approvals=0:=by
 simp only[mK,Bool.cond_eq_ite,xD,bne_iff_ne]at h
 split at h
 .simp at h
 .next h1=>
  split at h
  .simp at h
  .next h2=>
   simp only[not_or,Classical.not_not]at h1 h2
   exact⟨h1.1.1.1,h1.1.1.2,h1.1.2,h1.2,h2.1.1,h2.1.2,h2.2⟩
def pcs:List Int->List Span
 |[]=>[]
 |[y]=>bif decide (y<1099511627776)then[⟨y,1099511627776⟩]else[]
 |y::z::l=>bif decide (y<min 1099511627776 z)then⟨y,min 1099511627776 z⟩::pcs (z::l)else pcs (z::l)
theorem NX(L:List Int):∀(l pre:List Int),L=pre++l->aS.L1 L [] l pre.length=pcs l
 |[],_,_=>rfl
 |[y],pre,h=>by
  have hl:L.length=pre.length+1:=by rw[h];simp
  have e:decide ((((pre.length+1):Nat):Int)<(L.length:Int))=false:=by simp;omega
  simp only[aS.L1,e,cond_false,pcs]
 |y::z::l,pre,h=>by
  have hl:L.length=pre.length+(l.length+2):=by rw[h];simp
  have e:decide ((((pre.length+1):Nat):Int)<(L.length:Int))=true:=by simp;omega
  have hz:nthI L (((pre.length+1):Nat):Int)=z:=by
   have hb:0<=(((pre.length+1):Nat):Int)/\(((pre.length+1):Nat):Int)<(L.length:Int):=by omega
   have hg:=dy hb
   rw[show((((pre.length+1):Nat):Int)).toNat=pre.length+1 from by omega,h,List.getElem?_append_right (by omega)]at hg
   simp at hg;rw[h];exact hg.symm
  have ih:=NX L (z::l) (pre++[y]) (by rw[h];simp)
  rw[kA,zA,vB,Nat.zero_add]at ih
  simp only[aS.L1]at ih ⊢
  rw[e,hz]
  simp only[cond_true,pcs]
  rw[ih]
theorem Qt(l:List Int):aS l=pcs l:=NX l l [] rfl
def okS:List Span->Int->Prop
 |[],_=>True
 |x::l,c=>c<x.From/\x.From<x.Until/\x.Until<=1099511627776/\okS l x.Until
def lastU:List Span->Int->Int
 |[],c=>c
 |x::l,_=>lastU l x.Until
theorem AM:∀(a:List Span)(x:Span)(c:Int),okS (a++[x]) c↔okS a c/\lastU a c<x.From/\x.From<x.Until/\x.Until<=1099511627776
 |[],x,c=>by simp[okS,lastU]
 |y::a,x,c=>by
  simp only[List.cons_append,okS,lastU,AM a x y.Until]
  constructor
  .rintro⟨a,b,c,d,e⟩;exact⟨⟨a,b,c,d⟩,e⟩
  .rintro⟨⟨a,b,c,d⟩,e⟩;exact⟨a,b,c,d,e⟩
theorem sA:∀(a:List Span)(x:Span)(c:Int),lastU (a++[x]) c=x.Until
 |[],x,c=>rfl
 |y::a,x,c=>sA a x y.Until
theorem P0(t:Int):∀s:List Span,lq.L1 t lq.K1 s=s.any λx=>decide (x.From<=t)&&decide (t<x.Until)
 |[]=>rfl
 |x::s=>by
  simp only[lq.L1,List.any_cons,P0 t s]
  cases decide (x.From<=t)&&decide (t<x.Until)<;>rfl
def inS(s:List Span)(t:Int):Bool:=s.any λx=>decide (x.From<=t)&&decide (t<x.Until)
theorem EM(a:List Span)(x:Span)(t:Int):inS (a++[x]) t=(inS a t||(decide (x.From<=t)&&decide (t<x.Until))):=by simp[inS]
theorem Kp:∀(a:List Span)(c t:Int),okS a c->lastU a c<=t->c<=lastU a c/\inS a t=false
 |[],c,t,_,_=>⟨Int.le_refl _,rfl⟩
 |x::a,c,t,⟨h1,h2,h3,h4⟩,ht=>by
  obtain⟨k1,k2⟩:=Kp a x.Until t h4 ht
  refine⟨by simp only[lastU];omega,?_⟩
  simp only[lastU]at ht
  have:decide (t<x.Until)=false:=by simp;omega
  simp only[inS,List.any_cons,this,Bool.and_false,Bool.false_or]at k2 ⊢
  exact k2
structure KL(f:Int->Bool)(acc:List Span)(c:Int):Prop where
 ok:okS acc (-1)
 le:lastU acc (-1)<=c
 pos:0<=c
 is:∀t,0<=t->t<c->inS acc t=f t
def stepT(f:Int->Bool)(acc:List Span)(s:Span):List Span:=
 bif !(f s.From)then acc else bif decide (0<(acc.length:Int))&&((nthI acc ((acc.length:Int)-1)).Until==s.From)then acc.set (((acc.length:Int)-1):Int).toNat (qW (nthI acc ((acc.length:Int)-1)).From s.Until)else acc++[s]
theorem KL.step{f:Int->Bool}{acc:List Span}{c:Int}(g:KL f acc c)(hu:c<u)(hE:u<=1099511627776)(hf:∀t,c<=t->t<u->f t=f c):KL f (stepT f acc ⟨c,u⟩) u:=by
 have g3:=g.pos
 have hlow:∀t,c<=t->inS acc t=false:=λt ht=>(Kp acc (-1) t g.ok (Int.le_trans g.le ht)).2
 unfold stepT
 cases hfc:f c with
 |false=>
  refine⟨g.ok,(by show lastU acc (-1)<=u;have:=g.le;omega),by omega,λt h0 ht=>?_⟩
  by_cases h:t<c
  .exact g.is t h0 h
  .rw[hf t (by omega) ht,hfc];exact hlow t (by omega)
 |true=>
  simp only[Bool.not_true,cond_false]
  rcases List.eq_nil_or_concat acc with rfl|⟨a,x,e⟩
  .refine⟨⟨by show(-1:Int)<c;omega,hu,hE,trivial⟩,Int.le_refl _,by omega,λt h0 ht=>?_⟩
   have hn:=g.is
   by_cases h:t<c
   .rw[←g.is t h0 h]
    have:decide (c<=t)=false:=by simp;omega
    show(decide (c<=t)&&decide (t<u)||false)=_
    rw[this];rfl
   .rw[hf t (by omega) ht,hfc]
    have h1:decide (c<=t)=true:=by simp;omega
    have h2:decide (t<u)=true:=by simpa using ht
    show(decide (c<=t)&&decide (t<u)||false)=_
    rw[h1,h2];rfl
  .rw[List.concat_eq_append]at e
   subst e
   have hlen:((a++[x]).length:Int)-1=(a.length:Int):=by simp
   have hx:nthI (a++[x]) (a.length:Int)=x:=by
    have hb:0<=(a.length:Int)/\(a.length:Int)<((a++[x]).length:Int):=by simp;omega
    have hg:=dy hb
    rw[show(a.length:Int).toNat=a.length from by omega]at hg
    simpa using hg.symm
   have hset:(a++[x]).set a.length (qW x.From u)=a++[qW x.From u]:=by simp
   have hpos:decide (0<((a++[x]).length:Int))=true:=by rw[decide_eq_true_eq];rw[kA,zA];omega
   have ok':=(AM a x (-1)).1 g.ok
   have le':=g.le
   rw[sA]at le'
   have inx:∀t,inS a t=false\/t<x.From:=λt=>by
    by_cases h:lastU a (-1)<=t
    .exact .inl (Kp a (-1) t ok'.1 h).2
    .exact .inr (by omega)
   rw[hlen,hx,hpos,show(a.length:Int).toNat=a.length from by omega,hset,Bool.true_and]
   cases he:x.Until==c with
   |true=>
    have he':x.Until=c:=by simpa using he
    refine⟨(AM a _ (-1)).2 ⟨ok'.1,ok'.2.1,by show x.From<u;omega,hE⟩,by rw[show cond true _ _=a++[qW x.From u]from rfl,sA];exact Int.le_refl _,by omega,λt h0 ht=>?_⟩
    show inS (a++[qW x.From u]) t=f t
    rw[EM]
    by_cases h:t<c
    .rw[←g.is t h0 h,EM]
     have h1:decide (t<u)=true:=by simp;omega
     have h2:decide (t<x.Until)=true:=by simp;omega
     show(inS a t||(decide (x.From<=t)&&decide (t<u)))=_
     rw[h1,h2]
    .rw[hf t (by omega) ht,hfc]
     have h1:decide (t<u)=true:=by simpa using ht
     have h2:decide (x.From<=t)=true:=by simp;omega
     show(inS a t||(decide (x.From<=t)&&decide (t<u)))=_
     rw[h1,h2];simp
   |false=>
    have he':x.Until≠c:=by simpa using he
    refine⟨(AM _ _ (-1)).2 ⟨g.ok,by rw[sA];show x.Until<c;omega,hu,hE⟩,by rw[show cond false _ _=(a++[x])++[qW c u]from rfl,sA];exact Int.le_refl _,by omega,λt h0 ht=>?_⟩
    show inS ((a++[x])++[qW c u]) t=f t
    rw[EM]
    by_cases h:t<c
    .rw[←g.is t h0 h]
     have h2:decide (c<=t)=false:=by simp;omega
     show(_||(decide (c<=t)&&decide (t<u)))=_
     rw[h2];simp
    .rw[hf t (by omega) ht,hfc,hlow t (by omega)]
     have h1:decide (t<u)=true:=by simpa using ht
     have h2:decide (c<=t)=true:=by simp;omega
     show(_||(decide (c<=t)&&decide (t<u)))=_
     rw[h1,h2];rfl
theorem Jo{f:Int->Bool}:∀(y:Int)(l:List Int)(acc:List Span),(y::l).Pairwise (·<·)->y<1099511627776->KL f acc y->(∀t u,y<=t->t<=u->(∀z∈l,t<z->u<z)->f u=f t)->KL f ((pcs (y::l)).foldl (stepT f) acc) 1099511627776
 |y,[],acc,hp,hy,g,hf=>by
  have:decide (y<1099511627776)=true:=by simpa using hy
  simp only[pcs,this,cond_true,List.foldl]
  exact g.step hy (Int.le_refl _) λt h1 h2=>hf y t (Int.le_refl _) h1 (λz hz=>(jA hz).elim)
 |y,z::l,acc,hp,hy,g,hf=>by
  obtain⟨hp1,hp2⟩:=List.pairwise_cons.1 hp
  have hyz:=hp1 z (zB ..)
  have hz2:=List.pairwise_cons.1 hp2
  have e:decide (y<min 1099511627776 z)=true:=by simp;omega
  have cst:∀t,y<=t->t<min 1099511627776 z->f t=f y:=λt h1 h2=>hf y t (Int.le_refl _) h1 (λw hw _=>by
   rcases qC.1 hw with rfl|hw
   .omega
   .have:=hz2.1 w hw;omega)
  simp only[pcs,e,cond_true,List.foldl]
  have g2:=g.step (u:=min 1099511627776 z) (by omega) (by omega) cst
  by_cases hzE:z<1099511627776
  .rw[show min 1099511627776 z=z from by omega]at g2 ⊢
   exact Jo z l _ hp2 hzE g2 λt u h1 h2 h3=>hf t u (by omega) h2 (λw hw h4=>by
    rcases qC.1 hw with rfl|hw
    .omega
    .exact h3 w hw h4)
  .rw[show min 1099511627776 z=1099511627776 from by omega]at g2 ⊢
   have hnil:∀(l:List Int)(z:Int),(z::l).Pairwise (·<·)->¬z<1099511627776->pcs (z::l)=[]:=by
    intro l
    induction l with
    |nil=>intro z _ h;simp[pcs,h]
    |cons w l ih=>
     intro z hp h
     have h1:=(List.pairwise_cons.1 hp).1 w (zB ..)
     have e:decide (z<min 1099511627776 w)=false:=by simp;omega
     simp only[pcs,e,cond_false]
     exact ih w (List.pairwise_cons.1 hp).2 (by omega)
   rw[hnil l z hp2 hzE]
   exact g2
theorem Fq(r:Register)(doc:Int)(who:List Int)(known:Int):∀(ps acc:List Span),
  eu.L1 r doc who known eu.K1 ps acc=(ps.foldl (stepT (bF (dx r doc known).1 who)) acc,0)
 |[],acc=>rfl
 |p::ps,acc=>by
  simp only[eu.L1,List.foldl_cons,Fq r doc who known ps]
  unfold stepT
  cases bF (dx r doc known).1 who p.From
  .rfl
  .simp only[Bool.not_true,cond_false]
   cases(decide (0<(acc.length:Int))&&((nthI acc ((acc.length:Int)-1)).Until==p.From))<;>rfl
theorem yj{α : Type}(g:α->Int):∀(l:List α)(m:List (Int×Bool))(x:Int),x∈(l.foldl (λm y=>mput m (g y) true) m).map (·.1)↔x∈m.map (·.1)\/∃y∈l,x=g y
 |[],m,x=>by simp
 |y::l,m,x=>by
  rw[List.foldl_cons,yj g l,pZ]
  simp only[qC,exists_eq_or_imp]
  constructor
  .rintro((h|h)|h)
   .exact .inr (.inl h)
   .exact .inl h
   .exact .inr (.inr h)
  .rintro(h|h|h)
   .exact .inl (.inr h)
   .exact .inl (.inl h)
   .exact .inr h
theorem vi{α : Type}(g:α->Int):∀(l:List α)(m:List (Int×Bool)),(m.map (·.1)).Nodup->((l.foldl (λm y=>mput m (g y) true) m).map (·.1)).Nodup
 |[],m,h=>h
 |y::l,m,h=>vi g l _ (ju _ _ h)
theorem Bo(q:aD):∀(l:List Version)(m:List (Int×Bool))(x:Int),x∈(changeV q l m).map (·.1)↔x∈m.map (·.1)\/∃v∈l,x=v.At\/∃y∈v.Policy.Rules,x=q.doc.At+y.Think
 |[],m,x=>by simp[changeV]
 |v::l,m,x=>by
  show x∈(changeV q l (changeR q v.Policy.Rules (mput m v.At true))).map (·.1)↔_
  rw[Bo q l]
  unfold changeR
  rw[yj,pZ]
  simp only[qC,exists_eq_or_imp]
  constructor
  .rintro(((h|h)|h)|h)
   .exact .inr (.inl (.inl h))
   .exact .inl h
   .exact .inr (.inl (.inr h))
   .exact .inr (.inr h)
  .rintro(h|(h|h)|h)
   .exact .inl (.inl (.inr h))
   .exact .inl (.inl (.inl h))
   .exact .inl (.inr h)
   .exact .inr h
theorem yU(q:aD):∀(l:List Version)(m:List (Int×Bool)),(m.map (·.1)).Nodup->((changeV q l m).map (·.1)).Nodup
 |[],m,h=>h
 |v::l,m,h=>yU q l _ (vi _ _ _ (ju _ _ h))
def Change(q:aD)(x:Int):Prop:=
 x=0\/x=q.doc.At\/x=q.doc.Until\/(∃a∈q.Register.Appoints,x=a.At)\/(∃a∈q.Register.Interests,x=a.At)\/∃v∈q.Register.Versions,x=v.At\/∃y∈v.Policy.Rules,x=q.doc.At+y.Think
theorem JK(q:aD)(x:Int):x∈(changeM q).map (·.1)↔Change q x:=by
 unfold changeM Change
 rw[Bo,yj (λa:Interest=>a.At),yj (λa:Appoint=>a.At),pZ,pZ,pZ]
 simp only[T8,jA,or_false]
 generalize (∃y,y∈q.Register.Appoints/\x=y.At)=A
 generalize (∃y,y∈q.Register.Interests/\x=y.At)=B
 generalize (∃v,v∈q.Register.Versions/\(x=v.At\/∃y,y∈v.Policy.Rules/\x=q.doc.At+y.Think))=C
 constructor
 .rintro((((h|h|h)|h)|h)|h)<;>simp[h]
 .rintro(h|h|h|h|h|h)<;>simp[h]
theorem H7(q:aD):((changeM q).map (·.1)).Nodup:=by
 unfold changeM
 exact yU q _ _ (vi _ _ _ (vi _ _ _ (ju _ _ (ju _ _ (ju _ _ kQ)))))
theorem BE{l:List Int}(h:l.Pairwise (·<=·))(hn:l.Nodup):l.Pairwise (·<·):=by
 induction l with
 |nil=>exact List.Pairwise.nil
 |cons x l ih=>
  rw[List.pairwise_cons]at h ⊢
  rw[xN]at hn
  exact⟨λy hy=>by have:=h.1 y hy;have:x≠y:=λe=>hn.1 (e▸hy);omega,ih h.2 hn.2⟩
theorem Jn{f:Int->Bool}(hpos:∀x,Change q x->0<=x)(hf:∀t u,0<=t->t<=u->(∀z,Change q z->t<z->u<z)->f u=f t):
  KL f ((aE q).foldl (stepT f) []) 1099511627776:=by
 rw[Gt,Qt]
 have hs:=lW ((changeM q).map Prod.fst)
 have hp:=lG ((changeM q).map Prod.fst)
 have hn:(sortI ((changeM q).map Prod.fst)).Nodup:=hp.nodup_iff.2 (H7 q)
 have hm:∀x,x∈sortI ((changeM q).map Prod.fst)↔Change q x:=λx=>(hp.mem_iff).trans (JK q x)
 generalize sortI ((changeM q).map Prod.fst)=pts at *
 cases pts with
 |nil=>exact absurd ((hm 0).2 (.inl rfl)) (by simp)
 |cons y l=>
  have h0:y=0:=by
   have h1:=hpos y ((hm y).1 (zB ..))
   rcases qC.1 ((hm 0).2 (.inl rfl))with h|h
   .exact h.symm
   .have:=(List.pairwise_cons.1 hs).1 0 h;omega
  subst h0
  refine Jo 0 l [] (BE hs hn) (by decide) ⟨trivial,by show(-1:Int)<=0;decide,by decide,λt h1 h2=>by omega⟩ λt u h1 h2 h3=>hf t u h1 h2 λz hz h4=>?_
  rcases qC.1 ((hm z).2 hz)with rfl|hz'
  .omega
  .exact h3 z hz' h4
theorem yG{t u known:Int}(k:List (dL×Interest)->List Interest):∀(l:List Interest)(m:List (dL×Interest)),(∀y∈l,(t<y.At↔u<y.At))->cx.L1 t known k l m=cx.L1 u known k l m
 |[],m,_=>rfl
 |y::l,m,h=>by
  have e:decide (t<y.At)=decide (u<y.At):=by simp[h y (zB ..)]
  have ih:=λm=>yG (known:=known) k l m (λz hz=>h z (vA _ hz))
  simp only[cx.L1,e,ih]
theorem FW{l:List Interest}{p:Int}{t:Int}(ht:0<=t/\t<1099511627776)(hu:0<=u/\u<1099511627776)(h:∀y∈l,(t<y.At↔u<y.At)):cQ l p ps t known=cQ l p ps u known:=by
 have e1:cx l t known=cx l u known:=yG _ l [] h
 have e2:bA t 1099511627776=bA u 1099511627776:=by simp[bA,ht,hu]
 have e3:cq l p ps t known=cq l p ps u known:=by
  unfold cq
  have:cq.K1 p ps t known=cq.K1 p ps u known:=by funext g;unfold cq.K1;rw[e2]
  rw[this]
 unfold cQ
 rw[e1,e3]
theorem GN{t u known:Int}(later:Appoint->Appoint->Bool)(k:List (OSeat×Appoint)->List (OSeat×Appoint)):∀(l:List Appoint)(m:List (OSeat×Appoint)),(∀y∈l,(t<y.At↔u<y.At))->cW.L1 (λcj=>fC cj t known) later k l m=cW.L1 (λcj=>fC cj u known) later k l m
 |[],m,_=>rfl
 |y::l,m,h=>by
  have e:fC y t known=fC y u known:=by
   have h1:=h y (zB ..)
   have:decide (y.At<=t)=decide (y.At<=u):=by
    have:y.At<=t↔y.At<=u:=by omega
    simp[this]
   simp only[fC,this]
  have ih:=λm=>GN (known:=known) later k l m (λz hz=>h z (vA _ hz))
  simp only[cW.L1,e,ih]
theorem Ia{l:List Appoint}{o t:Int}(ht:0<=t/\t<1099511627776)(hu:0<=u/\u<1099511627776)(h:∀y∈l,(t<y.At↔u<y.At)):dg l o t known=dg l o u known:=by
 have e1:dp l t known=dp l u known:=GN _ _ l [] h
 have e2:cZ t=cZ u:=by
  have h1:∀x:Int,0<=x/\x<1099511627776->cZ x=true:=λx hx=>by simp only[cZ,dT,jB,decide_eq_true_eq];omega
  rw[h1 t ht,h1 u hu]
 unfold dg
 rw[e1,e2]
theorem JU{l:List Version}{begun t:Int}(ht:0<=t/\t<1099511627776)(hu:0<=u/\u<1099511627776)(hb:t<begun↔u<begun)(h:∀y∈l,(t<y.At↔u<y.At)):aK l begun t known=aK l begun u known:=by
 have L:∀(k:Bool->List Version->List Int×Int×Int)(ps:List (Int×Version))b g,(∀p∈ps,(t<p.1↔u<p.1))->aK.L1 begun t k ps b g=aK.L1 begun u k ps b g:=by
  intro k ps
  induction ps with
  |nil=>intros;rfl
  |cons p ps ih=>
   intro b g hp
   have e:decide (t<p.1)=decide (u<p.1):=by simp[hp p (zB ..)]
   simp only[aK.L1,e,ih _ _ (λz hz=>hp z (vA _ hz))]
 have e2:fN t=fN u:=by simp[fN,ht,hu]
 have e3:decide (t<begun)=decide (u<begun):=by simp[hb]
 unfold aK
 rw[e2,e3,L _ _ _ _ (xg (λp=>(t<p.1↔u<p.1)) (λy _ _=>hb) (λy hy _=>h y hy))]
theorem H3(who:List Int)(hU:q.doc.Until<=1099511627776)(hk:0<=q.doc.Kind){t:Int}(h0:0<=t)(htu:t<=u)(hs:∀z,Change q z->t<z->u<z):bF q who u=bF q who t:=by
 have hs':∀z,Change q z->(t<z↔u<z):=λz hz=>⟨hs z hz,λh=>by omega⟩
 have hA:=hs' q.doc.At (.inr (.inl rfl))
 have hUn:=hs' q.doc.Until (.inr (.inr (.inl rfl)))
 have hap:∀y∈q.Register.Appoints,(t<y.At↔u<y.At):=λy hy=>hs' _ (.inr (.inr (.inr (.inl ⟨y,hy,rfl⟩))))
 have hin:∀y∈q.Register.Interests,(t<y.At↔u<y.At):=λy hy=>hs' _ (.inr (.inr (.inr (.inr (.inl ⟨y,hy,rfl⟩)))))
 have hve:∀y∈q.Register.Versions,(t<y.At↔u<y.At):=λy hy=>hs' _ (.inr (.inr (.inr (.inr (.inr ⟨y,hy,.inl rfl⟩)))))
 have hru:∀v∈q.Register.Versions,∀y∈v.Policy.Rules,(t<q.doc.At+y.Think↔u<q.doc.At+y.Think):=λv hv y hy=>hs' _ (.inr (.inr (.inr (.inr (.inr ⟨v,hv,.inr ⟨y,hy,rfl⟩⟩)))))
 have hd:(decide (u<q.doc.At)||decide (q.doc.Until<=u))=(decide (t<q.doc.At)||decide (q.doc.Until<=t)):=by
  have h1:decide (u<q.doc.At)=decide (t<q.doc.At):=by simp[hA]
  have h2:decide (q.doc.Until<=u)=decide (q.doc.Until<=t):=by
   have:q.doc.Until<=u↔q.doc.Until<=t:=by omega
   simp[this]
  rw[h1,h2]
 unfold bF
 rw[hd]
 cases hc:(decide (t<q.doc.At)||decide (q.doc.Until<=t))with
 |true=>rfl
 |false=>
  simp only[Bool.or_eq_false_iff,decide_eq_false_iff_not]at hc
  have ht:0<=t/\t<1099511627776:=by omega
  have hu:0<=u/\u<1099511627776:=by omega
  simp only[cond_false]
  have ej:aB q u=aB q t:=by
   have e:=JU (l:=q.Register.Versions) (begun:=q.doc.At) (known:=q.known) ht hu hA hve
   have L:∀(l:List Version)(g:List Policy),aB.L1 q u (aB.K1 q u) l g=aB.L1 q t (aB.K1 q t) l g:=by
    intro l g
    rw[rQ,rQ,e]
   unfold aB
   rw[←e,L]
  have eh:∀p,aG q p u=aG q p t:=λp=>by
   rw[qs,qs]
   exact List.map_congr_left λj _=>by rw[Ia (known:=q.known) (o:=(j:Int)) ht hu hap]
  have ec:(λcj=>bQ cj q u)=(λcj=>bQ cj q t):=by
   funext a
   unfold bQ
   rw[FW (p:=a) (ps:=q.doc.Parties) (known:=q.known) ht hu hin]
  have ek:bF.K1 q u=bF.K1 q t:=by
   funext g
   unfold bF.K1
   rw[ej]
  rw[ej,ek]
  have L:∀(k:List Bool->Bool)(l:List Policy)(g:List Bool),(∀p∈l,∃v∈q.Register.Versions,v.Policy=p)->0<=q.doc.Kind->bF.L1 q who u k l g=bF.L1 q who t k l g:=by
   intro k l
   induction l with
   |nil=>intros;rfl
   |cons p l ih=>
    intro g hl hk
    obtain⟨v,hv,hvp⟩:=hl p (zB ..)
    have e:(decide (q.doc.Kind<(p.Rules.length:Int))&&decide ((q.doc.At+(nthI p.Rules q.doc.Kind).Think)<=u))=(decide (q.doc.Kind<(p.Rules.length:Int))&&decide ((q.doc.At+(nthI p.Rules q.doc.Kind).Think)<=t)):=by
     by_cases hkl:q.doc.Kind<(p.Rules.length:Int)
     .have:=hru v hv (nthI p.Rules q.doc.Kind) (by rw[hvp];exact lm ⟨hk,hkl⟩)
      have h2:(q.doc.At+(nthI p.Rules q.doc.Kind).Think<=u)↔(q.doc.At+(nthI p.Rules q.doc.Kind).Think<=t):=by omega
      simp[h2]
     .simp[hkl]
    simp only[bF.L1,e,eh,ec,ih _ (λz hz=>hl z (vA _ hz)) hk]
  exact L _ _ _ (λp hp=>zx hp) hk
section chk
variable {α : Type} [Inhabited α]
def refChk(R:α->Bool)(no:α->Int)(c:Int)(L:List α):List α->Nat->Int
 |[],_=>0
 |y::l,i=>bif(!(R y))||(decide (0<(i:Int))&&decide (no y<=no (nthI L ((i:Int)-1))))then c else refChk R no c L l (i+1)
def prgChk(R:α->Bool)(no:α->Int)(c:Int):List α->Int->Int
 |[],_=>0
 |y::l,g=>bif(!(R y))||decide (no y<=g)then c else prgChk R no c l (no y)
theorem JF(R:α->Bool)(no:α->Int)(c:Int)(L:List α):∀(l pre:List α)(x:α),L=(pre++[x])++l->refChk R no c L l (pre.length+1)=prgChk R no c l (no x)
 |[],_,_,_=>rfl
 |y::l,pre,x,h=>by
  have hx:nthI L (((pre.length+1:Nat):Int)-1)=x:=by
   have hb:0<=(((pre.length+1:Nat):Int)-1)/\(((pre.length+1:Nat):Int)-1)<(L.length:Int):=by rw[h];simp;omega
   have hg:=dy hb
   rw[show((((pre.length+1:Nat):Int)-1)).toNat=pre.length from by omega,h]at hg
   rw[h];simpa using hg.symm
  have hd:decide (0<((pre.length+1:Nat):Int))=true:=by rw[decide_eq_true_eq];omega
  have ih:=JF R no c L l (pre++[x]) y (by rw[h];simp)
  rw[kA,zA,vB,Nat.zero_add]at ih
  simp only[refChk,prgChk,hx,hd,Bool.true_and,ih]
theorem Fj(R:α->Bool)(no:α->Int)(c:Int)(hR:∀y,R y=true->0<=no y)(l:List α):refChk R no c l l 0=prgChk R no c l (-1):=by
 cases l with
 |nil=>rfl
 |cons y l=>
  have ih:=JF R no c (y::l) l [] y rfl
  simp only[vB,Nat.zero_add]at ih
  simp only[refChk,prgChk,Nat.zero_add,ih]
  cases hr:R y with
  |false=>rfl
  |true=>
   have:decide (no y<=-1)=false:=by have:=hR y hr;simp;omega
   rw[this];rfl
end chk
theorem CA(l:List Appoint):dq l=fZ l:=by
 have hR:∀x,oa x=jI x:=λx=>by
  rw[vN]
  simp only[oa,jI,Bool.cond_eq_ite]
  cases x.Gone<;>simp only[if_true,if_false,R0,jB,xD,kC,decide_eq_true_eq,decide_eq_false_iff_not,beq_iff_eq,dT,cZ,fo,gh,nw,pg,pf,Bool.and_eq_false_iff]
   <;> (split<;>simp only[R0,iff_false,decide_eq_true_eq,jB,beq_iff_eq]<;>omega)
 have h1:∀(L l:List Appoint)i,fZ.L1 L fZ.K1 l i=refChk jI (·.No) 150 L l i:=by
  intro L l
  induction l with
  |nil=>intro i;rfl
  |cons y l ih=>intro i;simp only[fZ.L1,refChk,ih]
 have h2:∀(l:List Appoint)g,dq.L1 dq.K1 l g=prgChk jI (·.No) 150 l g:=by
  intro l
  induction l with
  |nil=>intro g;rfl
  |cons y l ih=>intro g;simp only[dq.L1,prgChk,ih,hR]
 unfold dq fZ
 rw[h1,h2,Fj]
 intro y hy
 simp only[jI,Bool.cond_eq_ite]at hy
 split at hy
 .cases hy
 .next h=>simp only[xD,not_or,decide_eq_true_eq]at h;omega
theorem H0(l:List Deputy):dH l=ij l:=by
 have hR:∀x,nJ x=kj x:=λx=>by
  rw[vN]
  simp only[nJ,kj,Bool.cond_eq_ite,di,gu,gi,io,oC,mU]
  generalize (!(decide (0<=x.No)&&decide (x.No<=1048576))||!(decide (0<=x.At)&&decide (x.At<=1099511627775))||!(decide (0<=x.Known)&&decide (x.Known<=1099511627775))||!(decide (0<=x.From)&&decide (x.From<=63))||!(decide (0<=x.To)&&decide (x.To<=63))||x.From==x.To)=A
  cases A<;>simp
 have h1:∀(L l:List Deputy)i,ij.L1 L ij.K1 l i=refChk kj (·.No) 160 L l i:=by
  intro L l
  induction l with
  |nil=>intro i;rfl
  |cons y l ih=>intro i;simp only[ij.L1,refChk,ih]
 have h2:∀(l:List Deputy)g,dH.L1 dH.K1 l g=prgChk kj (·.No) 160 l g:=by
  intro l
  induction l with
  |nil=>intro g;rfl
  |cons y l ih=>intro g;simp only[dH.L1,prgChk,ih,hR]
 unfold dH ij
 rw[h1,h2,Fj]
 intro y hy
 simp only[kj,Bool.cond_eq_ite]at hy
 split at hy
 .cases hy
 .next h=>simp only[xD,not_or,decide_eq_true_eq,io,kC,Bool.and_eq_false_iff,decide_eq_false_iff_not]at h;omega
theorem yR(l:List Interest):dh l=fT l:=by
 have hR:∀x,m5 x=jz x:=λx=>by
  rw[vN]
  simp only[m5,jz,Bool.cond_eq_ite,bA,nv,nu,pb]
  cases x.Of<;>simp only[if_true,if_false,R0,jB,xD,kC,decide_eq_true_eq,decide_eq_false_iff_not,bne_iff_ne,Bool.and_eq_false_iff]
   <;> (split<;>simp only[R0,iff_false,decide_eq_true_eq,jB,bne_iff_ne]<;>omega)
 have h1:∀(L l:List Interest)i,fT.L1 L fT.K1 l i=refChk jz (·.No) 290 L l i:=by
  intro L l
  induction l with
  |nil=>intro i;rfl
  |cons y l ih=>intro i;simp only[fT.L1,refChk,ih]
 have h2:∀(l:List Interest)g,dh.L1 dh.K1 l g=prgChk jz (·.No) 290 l g:=by
  intro l
  induction l with
  |nil=>intro g;rfl
  |cons y l ih=>intro g;simp only[dh.L1,prgChk,ih,hR]
 unfold dh fT
 rw[h1,h2,Fj]
 intro y hy
 simp only[jz,Bool.cond_eq_ite]at hy
 split at hy
 .cases hy
 .next h=>simp only[xD,not_or,decide_eq_true_eq]at h;omega
theorem CK(f:Int->Bool):∀(l:List Int)(i:Nat),decide (0<=cK.L1 f cK.K1 l i)=l.any f
 |[],i=>by simp[cK.L1,cK.K1]
 |y::l,i=>by
  have ih:=CK f l (i+1)
  simp only[cK.L1,List.any_cons]
  by_cases hf:f y=true
  .simp[hf]
  .simp only[Bool.not_eq_true]at hf
   simp only[hf,cond_false,Bool.false_or]
   exact ih
theorem containsF(l:List Int)(f:Int->Bool):da l f=l.any f:=CK f l 0
theorem JO(l:List Budget):cR l=ig l:=by
 have hR:∀x,kX x=kh x:=λx=>by
  rw[vN]
  simp only[kX,kh,Bool.cond_eq_ite,aW,containsF,iL,List.any_cons,List.any_nil,Bool.or_false,iK,mT]
  cases x.Gone<;>simp only[if_true,if_false,R0,jB,xD,kC,decide_eq_true_eq,decide_eq_false_iff_not,beq_iff_eq,Bool.and_eq_false_iff,Bool.or_eq_false_iff]
   <;> (split<;>simp only[R0,iff_false,decide_eq_true_eq,jB,beq_iff_eq]<;>omega)
 have h1:∀(L l:List Budget)i,ig.L1 L ig.K1 l i=refChk kh (·.No) 180 L l i:=by
  intro L l
  induction l with
  |nil=>intro i;rfl
  |cons y l ih=>intro i;simp only[ig.L1,refChk,ih]
 have h2:∀(l:List Budget)g,cR.L1 cR.K1 l g=prgChk kh (·.No) 180 l g:=by
  intro l
  induction l with
  |nil=>intro g;rfl
  |cons y l ih=>intro g;simp only[cR.L1,prgChk,ih,hR]
 unfold cR ig
 rw[h1,h2,Fj]
 intro y hy
 simp only[kh,Bool.cond_eq_ite]at hy
 split at hy
 .cases hy
 .next h=>simp only[xD,not_or,decide_eq_true_eq,iK,kC,Bool.and_eq_false_iff,decide_eq_false_iff_not]at h;omega
theorem F4(l:List Approval):bX l=ie l:=by
 have hR:∀x,jr x=kg x:=λx=>by
  rw[vN]
  simp only[jr,kg,Bool.cond_eq_ite,dw,containsF,iu,List.any_cons,List.any_nil,Bool.or_false,gv,oA,uq]
  simp only[jB,xD,kC,decide_eq_true_eq,decide_eq_false_iff_not,Bool.and_eq_false_iff,Bool.or_eq_false_iff]
  split<;>simp only[R0,iff_false,decide_eq_true_eq,jB]<;>omega
 have h1:∀(L l:List Approval)i,ie.L1 L ie.K1 l i=refChk kg (·.No) 280 L l i:=by
  intro L l
  induction l with
  |nil=>intro i;rfl
  |cons y l ih=>intro i;simp only[ie.L1,refChk,ih]
 have h2:∀(l:List Approval)g,bX.L1 bX.K1 l g=prgChk kg (·.No) 280 l g:=by
  intro l
  induction l with
  |nil=>intro g;rfl
  |cons y l ih=>intro g;simp only[bX.L1,prgChk,ih,hR]
 unfold bX ie
 rw[h1,h2,Fj]
 intro y hy
 simp only[kg,Bool.cond_eq_ite]at hy
 split at hy
 .cases hy
 .next h=>simp only[xD,not_or,decide_eq_true_eq,gv,kC,Bool.and_eq_false_iff,decide_eq_false_iff_not]at h;omega
def refLs(B:Int->Bool)(L:List Int)(k:Bool):List Int->Nat->Bool
 |[],_=>k
 |y::l,i=>bif(B y)||(decide (0<(i:Int))&&decide (y<=nthI L ((i:Int)-1)))then false else refLs B L k l (i+1)
theorem D8(B:Int->Bool)(L:List Int)(k:Bool):∀(l pre:List Int)(x:Int),L=(pre++[x])++l->refLs B L k l (pre.length+1)=true->((∀y∈l,B y=false)/\k=true)/\(x::l).Pairwise (·<·)
 |[],_,_,_,h=>⟨⟨λ_ h=>(jA h).elim,h⟩,by simp⟩
 |y::l,pre,x,h,hr=>by
  have hx:nthI L (((pre.length+1:Nat):Int)-1)=x:=by
   have hb:0<=(((pre.length+1:Nat):Int)-1)/\(((pre.length+1:Nat):Int)-1)<(L.length:Int):=by rw[h];simp;omega
   have hg:=dy hb
   rw[show((((pre.length+1:Nat):Int)-1)).toNat=pre.length from by omega,h]at hg
   rw[h];simpa using hg.symm
  simp only[refLs,hx,Bool.cond_eq_ite]at hr
  split at hr
  .cases hr
  .next hc=>
   simp only[xD,jB,decide_eq_true_eq,not_or]at hc
   have ih:=D8 B L k l (pre++[x]) y (by rw[h];simp)
   rw[kA,zA,vB,Nat.zero_add]at ih
   obtain⟨⟨i1,i2⟩,i3⟩:=ih hr
   have hxy:x<y:=by omega
   refine⟨⟨λz hz=>?_,i2⟩,List.pairwise_cons.2 ⟨λz hz=>?_,i3⟩⟩
   .rcases qC.1 hz with rfl|hz
    .simpa using hc.1
    .exact i1 z hz
   .rcases qC.1 hz with rfl|hz
    .exact hxy
    .have:=(List.pairwise_cons.1 i3).1 z hz;omega
theorem NP{B:Int->Bool}{k:Bool}{l:List Int}(h:refLs B l k l 0=true):((∀y∈l,B y=false)/\k=true)/\l.Pairwise (·<·):=by
 cases l with
 |nil=>exact⟨⟨λ_ h=>(jA h).elim,h⟩,List.Pairwise.nil⟩
 |cons y l=>
  simp only[refLs,Bool.cond_eq_ite]at h
  split at h
  .cases h
  .next hc=>
   simp only[xD,not_or]at hc
   obtain⟨⟨i1,i2⟩,i3⟩:=D8 B (y::l) k l [] y rfl h
   refine⟨⟨λz hz=>?_,i2⟩,i3⟩
   rcases qC.1 hz with rfl|hz
   .simpa using hc.1
   .exact i1 z hz
theorem D6{l:List Int}{limit:Int}(h:fQ l limit=true):((∀x∈l,0<=x/\x<limit)/\l.Pairwise (·<·))/\l.length<=16:=by
 have e:∀(L l:List Int)i,fQ.L1 L limit (fQ.K1 L) l i=refLs (λy=>decide (y<0)||decide (limit<=y)) L (fQ.K1 L) l i:=by
  intro L l
  induction l with
  |nil=>intro i;rfl
  |cons y l ih=>intro i;simp only[fQ.L1,refLs,ih]
 unfold fQ at h
 rw[e]at h
 obtain⟨⟨h1,h2⟩,h3⟩:=NP h
 refine⟨⟨λx hx=>?_,h3⟩,?_⟩
 .have:=h1 x hx;simp only[Bool.or_eq_false_iff,decide_eq_false_iff_not]at this;omega
 .simp only[fQ.K1,decide_eq_true_eq]at h2;omega
theorem II{d:Document}(h:ki d=true):JW d:=by
 simp only[ki,Bool.cond_eq_ite]at h
 split at h
 .cases h
 .next hc=>
  simp only[xD,not_or,decide_eq_true_eq,sk,kC,Bool.and_eq_false_iff,decide_eq_false_iff_not]at hc
  simp only[jB,decide_eq_true_eq]at h
  obtain⟨⟨⟨⟨⟨h1,h2⟩,h3⟩,h4⟩,h5⟩,h6⟩:=h
  exact⟨by omega,by omega,by omega,by omega,⟨h1,h2⟩,h3,D6 h4,D6 h5,D6 h6⟩
theorem DW(L:List Document):∀(l:List Document)(i:Nat)(m:List (Int×Int)),(ay.L1 (ay.K1 L) l i m).docs=L/\∀x,mhas (ay.L1 (ay.K1 L) l i m).at_ x=(mhas m x||l.any λd=>d.No==x)
 |[],i,m=>⟨rfl,λx=>by simp[ay.L1,ay.K1]⟩
 |y::l,i,m=>by
  obtain⟨h1,h2⟩:=DW L l (i+1) (mput m y.No (i:Int))
  refine⟨h1,λx=>?_⟩
  show mhas (ay.L1 (ay.K1 L) l (i+1) (mput m y.No (i:Int))).at_ x=_
  rw[h2 x,List.any_cons]
  have:mhas (mput m y.No (i:Int)) x=(mhas m x||y.No==x):=by
   unfold mhas
   rw[GK]
   by_cases e:x=y.No
   .subst e;simp
   .rw[if_neg e]
    have:(y.No==x)=false:=by simp;exact λh=>e h.symm
    rw[this,Bool.or_false]
  rw[this,Bool.or_assoc]
theorem CV(no:Int):∀(l:List Document)(i:Nat),0<=ja.L1 no ja.K1 l i->(l.any λd=>d.No==no)=true
 |[],i,h=>by simp[ja.L1,ja.K1]at h
 |y::l,i,h=>by
  simp only[ja.L1,Bool.cond_eq_ite]at h
  rw[List.any_cons]
  by_cases e:(y.No==no)=true
  .rw[e];rfl
  .rw[if_neg e]at h
   rw[CV no l (i+1) h,Bool.or_true]
theorem Gi(L:List Document):∀nos:List Int,dV.L1 L dV.K1 nos=true->∀x∈nos,(L.any λd=>d.No==x)=true
 |[],_=>λ_ h=>(jA h).elim
 |y::nos,h=>by
  simp only[dV.L1,Bool.cond_eq_ite,decide_eq_true_eq]at h
  split at h
  .cases h
  .next hc=>
   intro x hx
   rcases qC.1 hx with rfl|hx
   .exact CV x L 0 (by unfold ja at hc;omega)
   .exact Gi L nos h x hx
theorem QI{L:List Document}{d:Document}(h1:dV L d.Revokes=true)(h2:dV L d.Needs=true):fH (ay L) d=true:=by
 have hs:=(DW L L 0 []).2
 have key:∀nos,dV L nos=true->da nos (λcj=>fA cj (ay L))=false:=by
  intro nos hn
  rw[containsF,List.any_eq_false]
  intro x hx
  unfold fA
  have:=Gi L nos hn x hx
  have e:mhas (ay L).at_ x=true:=by
   show mhas (ay.L1 (ay.K1 L) L 0 []).at_ x=true
   rw[hs x,this,Bool.or_true]
  rw[e];simp
 unfold fH
 rw[key _ h1,key _ h2];rfl
theorem FT{l:List Document}(h:ii l=0):bz l=0:=by
 have L:∀(L l:List Document)(i:Nat),ii.L1 L ii.K1 l i=0->bz.L1 L bz.K1 l i=0:=by
  intro L l
  induction l with
  |nil=>intros;rfl
  |cons y l ih=>
   intro i h
   simp only[ii.L1,Bool.cond_eq_ite]at h
   split at h
   .omega
   .next hc=>
    simp only[xD,not_or,kC,Bool.not_eq_false,Bool.not_eq_true]at hc
    obtain⟨⟨⟨c1,c2⟩,c3⟩,c4⟩:=hc
    simp only[bz.L1,(IK y).2 (II c1),c2,QI c3 c4,Bool.not_true,Bool.or_false,cond_false]
    exact ih (i+1) h
 unfold ii at h
 unfold bz
 rw[Bool.cond_eq_ite]at h ⊢
 split at h
 .omega
 .next hc=>rw[if_neg hc];exact L l l 0 h
theorem askIdx(no:Int):∀(l:List Document)(i:Nat),ad.L1 (λcj=>cv cj no) ad.K1 l i=dc.L1 no dc.K1 l i
 |[],i=>rfl
 |y::l,i=>by
  have ih:=askIdx no l (i+1)
  simp only[ad.L1,dc.L1]
  rw[ih];rfl
theorem QU{r:Register}(h:0<=dc r doc)(hk:0<=known/\known<1099511627776):dx r doc known=(⟨r,nthI r.Docs (dc r doc),known⟩,true):=by
 have e:ad r.Docs (λcj=>cv cj doc)=dc r doc:=askIdx doc r.Docs 0
 unfold dx
 rw[e]
 have h1:decide (dc r doc<0)=false:=by simp;omega
 have h2:mH known=true:=by simp[mH,hk]
 rw[h1,h2]
 rfl
theorem Et:∀(l:List Int)(g:Int),(∀x∈l,g<x/\x<64)->l.Pairwise (·<·)->iQ.L1 iQ.K1 l g=true
 |[],_,_,_=>rfl
 |y::l,g,h,hp=>by
  have h1:=h y (zB ..)
  have e:(decide (y<=g)||decide (64<=y))=false:=by simp;omega
  simp only[iQ.L1,e,cond_false]
  exact Et l y (λx hx=>⟨(List.pairwise_cons.1 hp).1 x hx,(h x (vA _ hx)).2⟩) (List.pairwise_cons.1 hp).2
theorem KJ{l:List Int}(h:(∀x∈l,0<=x/\x<64)/\l.Pairwise (·<·)):iQ l=true:=Et l (-1) (λx hx=>by have:=h.1 x hx;omega) h.2
theorem GO(x:Int):∀(l:List Int)(i:Nat),(0<=fm.L1 x fm.K1 l i)↔x∈l
 |[],i=>by simp[fm.L1,fm.K1]
 |y::l,i=>by
  have ih:=GO x l (i+1)
  simp only[fm.L1,Bool.cond_eq_ite,beq_iff_eq,qC]
  by_cases e:x=y
  .rw[if_pos e];simp[e]
  .rw[if_neg e,ih];simp[e]
theorem Bl(l:List Int)(x:Int):eH l x=true↔x∈l:=by
 unfold eH
 rw[decide_eq_true_eq]
 exact GO x l 0
theorem Jf(mode:Int)(l:List Version)(old:Bool):(judgesP mode l old).Sublist l:=by
 unfold judgesP je iI jd
 cases mode==1<;>cases mode==2<;>cases old<;>simp[List.take_sublist,List.drop_sublist]
theorem Fv(begun at_:Int)(k:Bool->List Version->List Int×Int×Int):∀(l:List (Int×Version))b g,∃(pre:List (Int×Version))(b':Bool),pre.Sublist l/\aK.L1 begun at_ k l b g=k b' (g++pre.map (·.2))
 |[],b,g=>⟨[],b,List.Sublist.refl _,by simp[aK.L1]⟩
 |y::l,b,g=>by
  simp only[aK.L1]
  cases decide (at_<y.1)
  .obtain⟨pre,b',h1,h2⟩:=Fv begun at_ k l (b||(y.1==begun)) (g++[y.2])
   exact⟨y::pre,b',h1.cons_cons _,by rw[cond_false,h2];simp⟩
  .exact⟨[],b,List.nil_sublist _,by simp⟩
theorem LC{l:List Version}(h:l.Pairwise (λa b=>a.No<b.No)){a b:Version}(ha:a∈l)(hb:b∈l)(e:a.No=b.No):a=b:=by
 induction l with
 |nil=>cases ha
 |cons x l ih=>
  obtain⟨h1,h2⟩:=List.pairwise_cons.1 h
  rcases qC.1 ha with ea|ha'<;>rcases qC.1 hb with eb|hb'
  .rw[ea,eb]
  .have:=h1 b hb';rw[ea]at e;omega
  .have:=h1 a ha';rw[eb]at e;omega
  .exact ih h2 ha' hb'
theorem nA(known eW:Int):∀(l:List Version)b m,(m.map (·.1)).Nodup->((inForceM known eW l b m).map (·.1)).Nodup
 |[],b,m,h=>h
 |y::l,b,m,h=>by
  simp only[inForceM,Bool.cond_eq_ite]
  split
  .exact nA known eW l _ _ h
  .split
   .split
    .exact nA known eW l _ _ h
    .exact nA known eW l _ _ (ju _ _ h)
   .exact nA known eW l _ _ (ju _ _ h)
theorem HM(l:List Version)(eW known:Int):(gg l eW known).Pairwise (λp q=>p.1<q.1):=by
 rw[zO,List.pairwise_map]
 exact BE (lW _) ((lG _).nodup_iff.2 (nA known eW l (-1) [] kQ))
theorem Jk{l:List Version}(g:yX l)(eW known:Int):(gg l eW known).Pairwise (λp q=>p.2.No≠q.2.No):=by
 have hP:=xg (l:=l) (eW:=eW) (known:=known) (λp=>((p.2.At<=eW/\p.1=eW)\/(eW<p.2.At/\p.1=p.2.At))/\p.2∈l) (λy hy h=>⟨.inl ⟨h,rfl⟩,hy⟩) (λy hy h=>⟨.inr ⟨h,rfl⟩,hy⟩)
 refine(HM l eW known).imp_of_mem λ{p q}hp hq hlt e=>?_
 have h1:=hP p hp
 have h2:=hP q hq
 have h3:=LC g.inc h1.2 h2.2 e
 rw[h3]at h1
 omega
structure Jdg(l:List Version)(J:List Int×Int×Int):Prop where
 err:J.2.2=0
 rise:J.1.Pairwise (·<·)
 mem:∀x∈J.1,∃v∈l,v.No=x
 mode:J.1≠[]->1<=J.2.1/\J.2.1<=4
 mode2:J.2.1≠0->1<=J.2.1/\J.2.1<=4
theorem G9{l:List Version}(g:yX l){begun at_:Int}(hb:0<=begun/\begun<1099511627776)(ht:0<=at_/\at_<1099511627776)(hk:0<=known/\known<1099511627776)(hle:begun<=at_):Jdg l (aK l begun at_ known):=by
 have h0:bJ l=0:=(oS l).2 g
 have h1:∀x:Int,0<=x/\x<1099511627776->fN x=true:=λx hx=>by simp[fN,hx]
 have h2:decide (at_<begun)=false:=by simp;omega
 unfold aK
 rw[h0,h1 _ hb,h1 _ ht,h1 _ hk,h2]
 simp only[bne_self_eq_false,cond_false,Bool.not_true,Bool.or_false]
 obtain⟨pre,b',hs,e⟩:=Fv begun at_ aK.K1 (gg l begun known) false []
 rw[e,zG]
 unfold aK.K1
 cases hc:(((pre.map (·.2)).length:Int)==0)with
 |true=>exact⟨rfl,List.Pairwise.nil,λx hx=>(jA hx).elim,λh=>absurd rfl h,λh=>absurd rfl h⟩
 |false=>
  simp only[cond_false,Ci,aK.K2,zG]
  have hpre:pre.length≠0:=by simpa using hc
  have hsub:=Jf ((nthI (pre.map (·.2)) (((pre.map (·.2)).length:Int)-1)).Policy.Mode) (pre.map (·.2)) b'
  have hnd:(pre.map (·.2)).Pairwise (λa b=>a.No≠b.No):=by
   rw[List.pairwise_map]
   exact(Jk g begun known).sublist hs
  have hmode:1<=(nthI (pre.map (·.2)) (((pre.map (·.2)).length:Int)-1)).Policy.Mode/\(nthI (pre.map (·.2)) (((pre.map (·.2)).length:Int)-1)).Policy.Mode<=4:=by
   have hm:nthI (pre.map (·.2)) (((pre.map (·.2)).length:Int)-1)∈pre.map (·.2):=lm (by rw[List.length_map];omega)
   obtain⟨p,hp,hpe⟩:=kJ.1 hm
   have:=g.mode (xe p (hs.subset hp))
   rw[hpe]at this
   exact this
  refine⟨rfl,BE (lW _) ((lG _).nodup_iff.2 ?_),λx hx=>?_,λ_=>hmode,λ_=>hmode⟩
  .show List.Pairwise _ _
   rw[List.pairwise_map]
   exact hnd.sublist hsub
  .have hx2:=(lG _).mem_iff.1 hx
   obtain⟨v,hv,rfl⟩:=kJ.1 hx2
   obtain⟨p,hp,rfl⟩:=kJ.1 (hsub.subset hv)
   exact⟨p.2,xe p (hs.subset hp),rfl⟩
theorem KM{mode:Int}(hm:1<=mode/\mode<=4){l:List Bool}(hl:l.length<=256):(fP mode l).2=0:=by
 have hc:gj mode l=0:=by
  have h1:mhas lQ mode=true:=by
   have:mode=1\/mode=2\/mode=3\/mode=4:=by omega
   rcases this with rfl|rfl|rfl|rfl<;>rfl
  unfold gj
  rw[h1,show decide (256<(l.length:Int))=false from decide_eq_false (by omega)]
  rfl
 have k1:∀(k:List Int->List Int×Bool×Int),(∀g,(k g).2.2=0)->∀(s:List Bool)i g,(aX.L1 k s i g).2.2=0:=by
  intro k hk s
  induction s with
  |nil=>intro i g;exact hk g
  |cons y s ih=>intro i g;exact ih _ _
 have k2:∀(k:List Int->List Int×Bool×Int),(∀g,(k g).2.2=0)->∀(s:List Bool)i g,(aX.L2 k s i g).2.2=0:=by
  intro k hk s
  induction s with
  |nil=>intro i g;exact hk g
  |cons y s ih=>intro i g;exact ih _ _
 have k3:∀(k:List Int->List Int×Bool×Int),(∀g,(k g).2.2=0)->∀(s:List Bool)i g,(aX.L3 k s i g).2.2=0:=by
  intro k hk s
  induction s with
  |nil=>intro i g;exact hk g
  |cons y s ih=>intro i g;exact ih _ _
 show(aX mode l).2.2=0
 unfold aX
 rw[hc]
 simp only[bne_self_eq_false,cond_false,Bool.cond_eq_ite]
 repeat' split
 all_goals first
  |rfl
  |exact k1 _ (λ_=>rfl) _ _ _
  |exact k2 _ (λ_=>rfl) _ _ _
  |exact k3 _ (λ_=>rfl) _ _ _
theorem JV{l:List Appoint}(hc:dq l=0){o t:Int}(ho:0<=o/\o<32)(ht:0<=t/\t<1099511627776)(hk:0<=known/\known<1099511627776):(dg l o t known).2=0:=by
 have h1:∀x:Int,0<=x/\x<1099511627776->cZ x=true:=λx hx=>by simp only[cZ,dT,jB,decide_eq_true_eq];omega
 have h2:fo o=true:=by simp only[fo,dT,jB,decide_eq_true_eq];omega
 unfold dg
 rw[hc,h1 t ht,h1 known hk,h2]
 rfl
theorem vO(k:Int->Int)(hk:∀g,k g=0):∀(l:List Int)(g:Int),(∀x∈l,g<x/\x<=1048576)->l.Pairwise (·<·)->cq.L1 k l g=0
 |[],g,_,_=>hk g
 |y::l,g,h,hp=>by
  have h1:=h y (zB ..)
  have e:(decide (y<=g)||decide (1048576<y))=false:=by simp;omega
  simp only[cq.L1,e,cond_false]
  exact vO k hk l y (λx hx=>⟨(List.pairwise_cons.1 hp).1 x hx,(h x (vA _ hx)).2⟩) (List.pairwise_cons.1 hp).2
theorem Ib{l:List Interest}(hc:dh l=0){p t:Int}(hp:0<=p/\p<64)(hps:((∀x∈ps,0<=x/\x<1048577)/\ps.Pairwise (·<·))/\ps.length<=16)(ht:0<=t/\t<1099511627776)(hk:0<=known/\known<1099511627776):(cQ l p ps t known).2.2=0:=by
 have e:cq l p ps t known=0:=by
  unfold cq
  rw[hc]
  refine vO _ (λg=>?_) ps (-1) (λx hx=>by have:=hps.1.1 x hx;omega) hps.1.2
  unfold cq.K1
  have h1:bA p 64=true:=by simp[bA,hp]
  have h2:bA t 1099511627776=true:=by simp[bA,ht]
  have h3:bA known 1099511627776=true:=by simp[bA,hk]
  have h4:decide (16<(ps.length:Int))=false:=by simp;omega
  rw[h1,h2,h3,h4];rfl
 unfold cQ
 rw[e];rfl
def cval(q:aD)(who:List Int)(t:Int)(p:Policy):Bool:=
 bif(decide (q.doc.Kind<(p.Rules.length:Int))&&decide ((q.doc.At+(nthI p.Rules q.doc.Kind).Think)<=t))then((bU p q.doc.Kind q.doc.Value (aG q p t) (ce who (λcj=>bQ cj q t))).1&&((bU p q.doc.Kind q.doc.Value (aG q p t) (ce who (λcj=>bQ cj q t))).2==0))
 else(decide (q.doc.Kind<(p.Rules.length:Int))&&decide ((q.doc.At+(nthI p.Rules q.doc.Kind).Think)<=t))
theorem P8(q:aD)(who:List Int)(t:Int)(k:List Bool->Bool):∀(l:List Policy)(g:List Bool),bF.L1 q who t k l g=k (g++l.map (cval q who t))
 |[],g=>by simp[bF.L1]
 |y::l,g=>by
  have ih:=P8 q who t k l
  simp only[bF.L1,ih,kG]
  unfold cval
  cases(decide (q.doc.Kind<(y.Rules.length:Int))&&decide ((q.doc.At+(nthI y.Rules q.doc.Kind).Think)<=t))<;>simp
theorem OR(L:List Appoint):∀(l:List Appoint)(i:Nat),fZ.L1 L fZ.K1 l i=0->∀d∈l,0<=d.At
 |[],_,_=>λ_ h=>(jA h).elim
 |y::l,i,h=>by
  simp only[fZ.L1,Bool.cond_eq_ite]at h
  split at h
  .omega
  .next hc=>
   simp only[xD,not_or,kC,Bool.not_eq_false]at hc
   intro d hd
   rcases qC.1 hd with rfl|hd
   .have h1:=hc.1
    simp only[jI,Bool.cond_eq_ite]at h1
    split at h1
    .cases h1
    .next h2=>simp only[xD,not_or,kC,Bool.not_eq_false,nw,jB,decide_eq_true_eq]at h2;omega
   .exact OR L l (i+1) h d hd
theorem OQ(L:List Interest):∀(l:List Interest)(i:Nat),fT.L1 L fT.K1 l i=0->∀d∈l,0<=d.At
 |[],_,_=>λ_ h=>(jA h).elim
 |y::l,i,h=>by
  simp only[fT.L1,Bool.cond_eq_ite]at h
  split at h
  .omega
  .next hc=>
   simp only[xD,not_or,kC,Bool.not_eq_false]at hc
   intro d hd
   rcases qC.1 hd with rfl|hd
   .have h1:=hc.1
    simp only[jz,Bool.cond_eq_ite]at h1
    split at h1
    .cases h1
    .next h2=>simp only[xD,not_or,kC,Bool.not_eq_false,nv,jB,decide_eq_true_eq]at h2;omega
   .exact OQ L l (i+1) h d hd
theorem QP{l:List Appoint}(h:fZ l=0):∀d∈l,0<=d.At:=by
 unfold fZ at h
 rw[Bool.cond_eq_ite]at h
 split at h
 .omega
 .exact OR l l 0 h
theorem QO{l:List Interest}(h:fT l=0):∀d∈l,0<=d.At:=by
 unfold fT at h
 rw[Bool.cond_eq_ite]at h
 split at h
 .omega
 .exact OQ l l 0 h
theorem B4{β : Type}(F:(Expr->β)->Expr->β)(go:Nat->Expr->β)(h:∀m,go (m+1)=F (go m))(hF:∀f g x,(∀y∈x.L,f y=g y)->F f x=F g x)(x:Expr):go x.dep x=F (λy=>go y.dep y) x:=by
 have key:∀x:Expr,∀m,x.dep<=m->go m x=go x.dep x:=by
  refine λx=>Expr.ind (P:=λx=>∀m,x.dep<=m->go m x=go x.dep x) ?_ x
  intro x ih m hm
  have hp:=S5 x
  obtain⟨m',rfl⟩:∃m',m=m'+1:=⟨m-1,by omega⟩
  obtain⟨n,hn⟩:∃n,x.dep=n+1:=⟨x.dep-1,by omega⟩
  rw[hn,h,h]
  refine hF _ _ _ λy hy=>?_
  have:=kV hy
  rw[ih y hy m' (by omega),ih y hy n (by omega)]
 have hp:=S5 x
 obtain⟨n,hn⟩:∃n,x.dep=n+1:=⟨x.dep-1,by omega⟩
 rw[hn,h]
 refine hF _ _ _ λy hy=>?_
 have:=kV hy
 exact key y n (by omega)
theorem OZ(x:Expr):bK x=bK.F bK x:=by
 refine B4 bK.F bK.go (λm=>rfl) (λf g x h=>?_) x
 unfold bK.F
 have:∀(k:Int->Int)(l:List Expr)a,(∀y∈l,f y=g y)->bK.L1 f k l a=bK.L1 g k l a:=by
  intro k l
  induction l with
  |nil=>intros;rfl
  |cons y l ih=>intro a hl;simp only[bK.L1,hl y (zB ..)];exact ih _ λz hz=>hl z (vA _ hz)
 exact this _ _ _ h
theorem depthL(l:List Expr):∀(a:Int),a<=bK.L1 bK (λg=>g) l a/\(∀y∈l,bK y<=bK.L1 bK (λg=>g) l a)/\∀M:Int,a<=M->(∀y∈l,bK y<=M)->bK.L1 bK (λg=>g) l a<=M:=by
 induction l with
 |nil=>intro a;exact⟨Int.le_refl _,λ_ h=>(jA h).elim,λM h _=>h⟩
 |cons y l ih=>
  intro a
  obtain⟨i1,i2,i3⟩:=ih (max a (bK y))
  simp only[bK.L1]
  refine⟨by omega,λw hw=>?_,λM h1 h2=>i3 M (by have:=h2 y (zB ..);omega) λw hw=>h2 w (vA _ hw)⟩
  rcases qC.1 hw with rfl|hw
  .omega
  .exact i2 w hw
theorem depthK(l:List Expr):∀(a:Int),bK.L1 bK bK.K1 l a=IntKind.i64.wrap (bK.L1 bK (λg=>g) l a+1):=by
 induction l with
 |nil=>intro a;rfl
 |cons y l ih=>intro a;exact ih _
theorem OH(x:Expr):x.dep<=1500000->(1<=bK x/\bK x<=x.dep)/\bK x=bK.L1 bK (λg=>g) x.L 0+1:=by
 refine Expr.ind (P:=λx=>x.dep<=1500000->(1<=bK x/\bK x<=x.dep)/\bK x=bK.L1 bK (λg=>g) x.L 0+1) ?_ x
 intro x ih hx
 obtain⟨i1,i2,i3⟩:=depthL x.L 0
 have hp:=S5 x
 have h3:=i3 ((x.dep:Int)-1) (by omega) λy hy=>by
  have h4:=kV hy
  have:=(ih y hy (by omega)).1.2
  omega
 have e:bK x=bK.L1 bK (λg=>g) x.L 0+1:=by
  rw[OZ]
  unfold bK.F
  rw[depthK,wrap64 (by omega)]
 exact⟨by omega,e⟩
theorem Jz(x:Expr):x.dep<=1500000->∀(d D:Int),bK x<=D->∀z∈bM x d,z.depth<=d+D-1:=by
 refine Expr.ind (P:=λx=>x.dep<=1500000->∀(d D:Int),bK x<=D->∀z∈bM x d,z.depth<=d+D-1) ?_ x
 intro x ih hx d D hD z hz
 obtain⟨h1,h2⟩:=OH x hx
 rw[n9]at hz
 rcases qC.1 hz with rfl|hz
 .show d<=d+D-1;omega
 .obtain⟨y,hy,hz⟩:=List.mem_flatMap.1 hz
  have h4:=kV hy
  have h5:=(depthL x.L 0).2.1 y hy
  have:=ih y hy (by omega) (d+1) (D-1) (by omega) z hz
  omega
theorem OW(x:Expr):dz x=dz.F dz x:=by
 refine B4 dz.F dz.go (λm=>rfl) (λf g x h=>?_) x
 funext limit
 unfold dz.F
 have:∀(k:Int->Int)(l:List Expr)a,(∀y∈l,f y=g y)->dz.L1 f limit k l a=dz.L1 g limit k l a:=by
  intro k l
  induction l with
  |nil=>intros;rfl
  |cons y l ih=>
   intro a hl
   simp only[dz.L1,hl y (zB ..)]
   rw[ih _ λz hz=>hl z (vA _ hz)]
 exact this _ _ _ h
def cnt(x:Expr):Nat:=(bM x 1).length
theorem Rh(x:Expr):∀d,(bM x d).length=cnt x:=by
 refine Expr.ind (P:=λx=>∀d,(bM x d).length=cnt x) ?_ x
 intro x ih d
 unfold cnt
 rw[n9,n9 x 1,zA,zA,List.length_flatMap,List.length_flatMap]
 congr 2
 apply List.map_congr_left
 intro y hy
 rw[ih y hy,ih y hy]
theorem ON(x:Expr):cnt x=1+(x.L.map cnt).sum:=by
 conv=>lhs;unfold cnt
 rw[n9,zA,List.length_flatMap,Nat.add_comm]
 congr 2
 apply List.map_congr_left
 intro y hy
 exact Rh y _
theorem MR(x:Expr):∀limit:Int,0<=limit->limit<=256->dz x limit=min (cnt x:Int) (limit+1):=by
 refine Expr.ind (P:=λx=>∀limit:Int,0<=limit->limit<=256->dz x limit=min (cnt x:Int) (limit+1)) ?_ x
 intro x ih limit h0 h1
 rw[OW,ON]
 unfold dz.F
 have key:∀(l:List Expr)(a:Int),(∀y∈l,y∈x.L)->1<=a->a<=limit+1->dz.L1 dz limit dz.K1 l a=min (a+((l.map cnt).sum:Nat)) (limit+1):=by
  intro l
  induction l with
  |nil=>intro a _ _ ha;simp only[dz.L1,dz.K1,T8,List.sum_nil];omega
  |cons y l ih2=>
   intro a hl h2 h3
   simp only[dz.L1,Bool.cond_eq_ite,decide_eq_true_eq,kG,List.sum_cons]
   by_cases ha:a<=limit
   .rw[if_pos ha,wrap64 (z:=limit-a) (by omega),ih y (hl y (zB ..)) (limit-a) (by omega) (by omega)]
    have hc:1<=cnt y:=by rw[ON];omega
    rw[wrap64 (by omega),ih2 _ (λz hz=>hl z (vA _ hz)) (by omega) (by omega)]
    omega
   .rw[if_neg ha]
    simp only[dz.K1]
    omega
 rw[key x.L 1 (λy hy=>hy) (by omega) (by omega)]
 omega
theorem Jc{x:Expr}(hx:x.dep<=1500000)(h:mL x=false):(bM x 1).length<=256/\∀z∈bM x 1,z.depth<=16:=by
 simp only[mL,Bool.or_eq_false_iff,decide_eq_false_iff_not]at h
 have h1:=MR x 256 (by decide) (by decide)
 have h2:=Jz x hx 1 16 (by omega)
 refine⟨?_,λz hz=>by have:=h2 z hz;omega⟩
 show cnt x<=256
 omega
theorem Cp(s:ByteArray):∀(m i:Nat)(r:List UInt8),s.size-i=m->(ByteArray.toList.loop s i r).length=r.length+m
 |0,i,r,h=>by rw[ByteArray.toList.loop];rw[if_neg (by omega)];simp
 |m+1,i,r,h=>by
  rw[ByteArray.toList.loop,if_pos (by omega),Cp s m (i+1) _ (by omega),zA]
  omega
theorem DP(s:ByteArray):s.toList.length=s.size:=by
 have:=Cp s s.size 0 [] (by omega)
 simpa[ByteArray.toList]using this
theorem PT{α : Type}(c:Bool)(a b d:α):(bif c then(bif c then a else b)else d)=bif c then a else d:=by cases c<;>rfl
theorem QR(c x:Bool):(bif c then false else x)=(!c&&x):=by cases c<;>rfl
theorem QQ(c x:Bool):(bif c then true else x)=(c||x):=by cases c<;>simp
theorem MD(s:ByteArray):eE s=(dX s&&!(oB s)):=by
 unfold eE oB
 simp only[PT]
 simp only[QR,QQ,Bool.not_or,Bool.or_false]
 ac_rfl
theorem H6(c:Int):(kx c != 2)=!(lu c):=by
 unfold kx lu
 cases((decide (97<=c)&&decide (c<=122))||(decide (65<=c)&&decide (c<=90)))<;>cases(decide (48<=c)&&decide (c<=57))<;>cases(c==95)<;>cases((((c==32)||(c==9))||(c==10))||(c==13))<;>cases(decide (0<=(strings_IndexByte (⟨#[123,125,40,41,59,44,61,58,46,60,62,33,43,45,42,47]⟩:ByteArray) c)))<;>rfl
theorem KG(c:Int):(((kx c != 2)&&(kx c != 3))&&(kx c != 5))=!(sn c):=by
 unfold kx sn lu nP
 cases((decide (97<=c)&&decide (c<=122))||(decide (65<=c)&&decide (c<=90)))<;>cases(decide (48<=c)&&decide (c<=57))<;>cases(c==95)<;>cases((((c==32)||(c==9))||(c==10))||(c==13))<;>cases(decide (0<=(strings_IndexByte (⟨#[123,125,40,41,59,44,61,58,46,60,62,33,43,45,42,47]⟩:ByteArray) c)))<;>rfl
theorem Lx(s:ByteArray):∀(l:List Nat)(i:Nat),dX.L1 s dX.K1 l i=ip.L1 s ip.K1 l i
 |[],i=>rfl
 |y::l,i=>by simp only[dX.L1,ip.L1,KG,Lx s l]
theorem Pu(h:ip s=true):dX s=true:=by
 unfold ip at h
 unfold dX
 rw[H6,Lx]
 rw[Bool.cond_eq_ite]at h ⊢
 split at h
 .cases h
 .next hc=>
  simp only[xD,not_or,decide_eq_true_eq]at hc
  obtain⟨⟨h1,h2⟩,h3⟩:=hc
  have e:(s.toList==(⟨#[]⟩:ByteArray).toList)=false:=by
   rw[Bool.eq_false_iff]
   intro he
   have he:=eq_of_beq he
   have h9:=DP s
   rw[he,DP]at h9
   have:(⟨#[]⟩:ByteArray).size=0:=rfl
   omega
  rw[e,if_neg]
  .exact h
  .simp only[Bool.false_or,xD,not_or,decide_eq_true_eq]
   exact⟨h2,h3⟩
theorem LJ(h:pV s=true):eE s=true:=by
 simp only[pV,jB]at h
 rw[MD,Pu h.1,h.2];rfl
theorem Gn(s:ByteArray):∀(l:List ByteArray)(i:Nat),eC.L1 s eC.K1 l i=aT.L1 s aT.K1 l i
 |[],i=>rfl
 |y::l,i=>by
  have:(y.toList==s.toList)=(s.toList==y.toList):=by rw[vN,beq_iff_eq,beq_iff_eq];exact eq_comm
  simp only[eC.L1,aT.L1,this,Gn s l]
theorem rindex(l:List ByteArray)(s:ByteArray):eC l s=aT l s:=Gn s l 0
theorem CZ{l:List ByteArray}(h:fJ l=true):cm l eE=true:=by
 have key:∀(L l:List ByteArray)(i:Nat),fJ.L1 L fJ.K1 l i=true->cm.L1 L eE cm.K1 l i=true:=by
  intro L l
  induction l with
  |nil=>intros;rfl
  |cons y l ih=>
   intro i h
   simp only[fJ.L1,Bool.cond_eq_ite]at h
   split at h
   .cases h
   .next hc=>
    simp only[xD,not_or,kC,Bool.not_eq_false,Bool.not_eq_true]at hc
    simp only[cm.L1,LJ hc.1,←rindex,hc.2,Bool.not_true,Bool.or_self,cond_false]
    exact ih _ h
 exact key l l 0 h
theorem tG(off:List ByteArray){f g:List ByteArray->Expr->Bool}(k:Bool):∀(l:List Expr),(∀y∈l,f off y=g off y)->cC.L1 f off k l=cC.L1 g off k l
 |[],_=>rfl
 |y::l,h=>by simp only[cC.L1,h y (zB ..),tG off k l λz hz=>h z (vA _ hz)]
theorem N4(off:List ByteArray)(x:Expr):cC off x=cC.F cC off x:=by
 have:=B4 (λf x=>cC.F (λ_ y=>f y) off x) (λm x=>cC.go m off x) (λm=>?_) (λf g x h=>?_) x
 .refine Eq.trans this ?_
  show cC.F _ off x=_
  unfold cC.F
  rw[tG off (f:=λ_ y=>cC.go y.dep off y) (g:=cC) _ x.L λy hy=>rfl]
 .funext x
  show cC.F (cC.go m) off x=cC.F _ off x
  unfold cC.F
  rw[tG off (f:=cC.go m) (g:=λ_ y=>cC.go m off y) _ x.L λy hy=>rfl]
 .show cC.F _ off x=cC.F _ off x
  unfold cC.F
  rw[tG off (f:=λ_ y=>f y) (g:=λ_ y=>g y) _ x.L h]
theorem GH(off:List ByteArray):∀(l:List Expr),cC.L1 cC off cC.K1 l=true->∀y∈l,cC off y=true
 |[],_=>λ_ h=>(jA h).elim
 |y::l,h=>by
  simp only[cC.L1,Bool.cond_eq_ite]at h
  split at h
  .cases h
  .next hc=>
   intro z hz
   rcases qC.1 hz with rfl|hz
   .simpa using hc
   .exact GH off l h z hz
theorem I1(off:List ByteArray)(x:Expr):cC off x=true->∀d,∀z∈bM x d,((!(dU z.x))||dY off z.x.Name)=true:=by
 refine Expr.ind (P:=λx=>cC off x=true->∀d,∀z∈bM x d,((!(dU z.x))||dY off z.x.Name)=true) ?_ x
 intro x ih h d z hz
 rw[N4]at h
 unfold cC.F at h
 rw[Bool.cond_eq_ite]at h
 split at h
 .cases h
 .next hc=>
  rw[n9]at hz
  rcases qC.1 hz with rfl|hz
  .show((!(dU x))||dY off x.Name)=true
   unfold dY dU
   rw[rindex]at hc
   by_cases h2:aT off x.Name<0
   .have:decide (aT off x.Name<0)=true:=by simpa using h2
    rw[this,Bool.and_true]at hc
    simp only[Bool.not_eq_true]at hc
    rw[hc];rfl
   .have:decide (0<=aT off x.Name)=true:=by simp;omega
    rw[this,Bool.or_true]
  .obtain⟨y,hy,hz⟩:=List.mem_flatMap.1 hz
   exact ih y hy (GH off x.L h y hy) (d+1) z hz
theorem rL(u:Bool){f g:Expr->Bool->Bool}(k:Bool):∀(l:List Expr),(∀y∈l,f y u=g y u)->aM.L1 f u k l=aM.L1 g u k l
 |[],_=>rfl
 |y::l,h=>by simp only[aM.L1,h y (zB ..),rL u k l λz hz=>h z (vA _ hz)]
theorem ME(x:Expr)(u:Bool):aM x u=aM.F aM x u:=by
 have:=B4 (λf x=>aM.F (λy _=>f y) x u) (λm x=>aM.go m x u) (λm=>?_) (λf g x h=>?_) x
 .refine Eq.trans this ?_
  show aM.F _ x u=_
  unfold aM.F
  rw[rL u (f:=λy _=>aM.go y.dep y u) (g:=aM) _ x.L λy hy=>rfl]
 .funext x
  show aM.F (aM.go m) x u=aM.F _ x u
  unfold aM.F
  rw[rL u (f:=aM.go m) (g:=λy _=>aM.go m y u) _ x.L λy hy=>rfl]
 .show aM.F _ x u=aM.F _ x u
  unfold aM.F
  rw[rL u (f:=λy _=>f y) (g:=λy _=>g y) _ x.L h]
theorem E7(u k:Bool):∀(l:List Expr),aM.L1 aM u k l=true->(∀y∈l,aM y u=true)/\k=true
 |[],h=>⟨λ_ h=>(jA h).elim,h⟩
 |y::l,h=>by
  simp only[aM.L1,Bool.cond_eq_ite]at h
  split at h
  .cases h
  .next hc=>
   obtain⟨h1,h2⟩:=E7 u k l h
   refine⟨λz hz=>?_,h2⟩
   rcases qC.1 hz with rfl|hz
   .simpa using hc
   .exact h1 z hz
theorem MF{x:Expr}{u:Bool}(h:aM.K1 x u=true):(bh x.Kind 1 4&&kindsP x.Kind x)=true/\(u=false->x.Kind≠4):=by
 unfold aM.K1 at h
 simp only[Bool.cond_eq_ite,beq_iff_eq]at h
 split at h
 .next e=>
  rw[e]
  refine⟨?_,λ_=>by decide⟩
  show(_&&mz x)=true
  unfold mz
  rw[h];rfl
 .split at h
  .next e=>
   rw[e]
   refine⟨?_,λ_=>by decide⟩
   show(_&&lD x)=true
   unfold lD bh
   rw[h];rfl
  .split at h
   .next e=>
    rw[e]
    refine⟨?_,λ_=>by decide⟩
    show(_&&lC x)=true
    unfold lC bh
    simp only[jB]at h ⊢
    exact⟨⟨rfl,rfl⟩,⟨h.1.1.1.1,h.1.1.1.2,h.1.1.2⟩,h.1.2,h.2⟩
   .split at h
    .next e=>
     rw[e]
     simp only[jB]at h
     refine⟨?_,λhu=>by rw[hu]at h;simp at h⟩
     show(_&&lB x)=true
     unfold lB bh
     simp only[jB]
     exact⟨⟨rfl,rfl⟩,⟨h.1.1.1.2,h.1.1.2⟩,h.1.2,h.2⟩
    .cases h
theorem GT(u:Bool)(x:Expr):aM x u=true->∀d,∀z∈bM x d,(bh z.x.Kind 1 4&&kindsP z.x.Kind z.x)=true/\(u=false->z.x.Kind≠4):=by
 refine Expr.ind (P:=λx=>aM x u=true->∀d,∀z∈bM x d,(bh z.x.Kind 1 4&&kindsP z.x.Kind z.x)=true/\(u=false->z.x.Kind≠4)) ?_ x
 intro x ih h d z hz
 rw[ME]at h
 obtain⟨h1,h2⟩:=E7 u _ x.L h
 rw[n9]at hz
 rcases qC.1 hz with rfl|hz
 .exact MF h2
 .obtain⟨y,hy,hz⟩:=List.mem_flatMap.1 hz
  exact ih y hy (h1 y hy) (d+1) z hz
theorem rl1(rec:List ByteArray->Expr->Expr)(off:List ByteArray)(k:List Expr->Expr):∀(l g:List Expr),ah.L1 rec off k l g=k (g++l.map (rec off))
 |[],g=>by simp[ah.L1]
 |y::l,g=>by simp[ah.L1,rl1 rec off k l]
theorem rl2(rec:List ByteArray->Expr->Expr)(off:List ByteArray)(k:List Expr->Expr):∀(l g:List Expr),ah.L2 rec off k l g=k (g++l.map (rec off))
 |[],g=>by simp[ah.L2]
 |y::l,g=>by simp[ah.L2,rl2 rec off k l]
def rno(off:List ByteArray)(x:Expr):Int:=bif dU x then aT off x.Name else 0
theorem Ki(rec:List ByteArray->Expr->Expr)(off:List ByteArray)(x:Expr):ah.F rec off x=vG x.Kind x.N (rno off x) x.Name (x.L.map (rec off)):=by
 unfold ah.F rno dU
 cases((x.Kind==1)||(x.Kind==2))
 .rw[cond_false,rl2];rfl
 .rw[cond_true,rl1];unfold ah.K1;rw[rindex];rfl
theorem IM(off:List ByteArray)(x:Expr):ah off x=vG x.Kind x.N (rno off x) x.Name (x.L.map (ah off)):=by
 have:=B4 (λf x=>vG x.Kind x.N (rno off x) x.Name (x.L.map f)) (λm x=>ah.go m off x) (λm=>?_) (λf g x h=>?_) x
 .exact this
 .funext x
  show ah.F (ah.go m) off x=_
  rw[Ki]
 .show vG _ _ _ _ _=vG _ _ _ _ _
  rw[List.map_congr_left h]
theorem DY(b:Expr){f g:Expr->Expr->Bool}(k:Bool):∀(l:List Expr)(i:Nat),(∀y∈l,f y=g y)->cg.L1 f b k l i=cg.L1 g b k l i
 |[],_,_=>rfl
 |y::l,i,h=>by simp only[cg.L1,h y (zB ..),DY b k l (i+1) λz hz=>h z (vA _ hz)]
theorem Pf(x:Expr):cg x=cg.F cg x:=by
 refine B4 cg.F cg.go (λm=>rfl) (λf g x h=>?_) x
 funext b
 unfold cg.F
 rw[DY b _ x.L 0 h]
theorem Ln(b:Expr):∀(l:List Expr)(i:Nat),cg.L1 cg b cg.K1 l i=true->∀(j:Nat)(y:Expr),l[j]? = some y->cg y (nthI b.L ((i+j:Nat):Int))=true
 |[],_,_,j,y,hj=>by simp at hj
 |z::l,i,h,j,y,hj=>by
  simp only[cg.L1,Bool.cond_eq_ite]at h
  split at h
  .cases h
  .next hc=>
   cases j with
   |zero=>simp at hj;subst hj;simpa using hc
   |succ j=>have:=Ln b l (i+1) h j y (by simpa using hj);rw[show i+(j+1)=i+1+j from by omega];exact this
theorem Pe(off:List ByteArray)(x:Expr):cg (ah off x) x=true->∀d,∀z∈bM x d,z.x.No=rno off z.x:=by
 refine Expr.ind (P:=λx=>cg (ah off x) x=true->∀d,∀z∈bM x d,z.x.No=rno off z.x) ?_ x
 intro x ih h d z hz
 rw[Pf,IM]at h
 unfold cg.F at h
 rw[Bool.cond_eq_ite]at h
 split at h
 .cases h
 .next hc=>
  simp only[xD,not_or,bne_iff_ne,ne_eq,Classical.not_not]at hc
  have hno:rno off x=x.No:=hc.1.1.2
  rw[n9]at hz
  rcases qC.1 hz with rfl|hz
  .exact hno.symm
  .obtain⟨y,hy,hz⟩:=List.mem_flatMap.1 hz
   obtain⟨j,hj⟩:=SI hy
   have h2:=Ln x _ 0 h j (ah off y) (by show(List.map (ah off) x.L)[j]? = _;rw[xV,hj];rfl)
   have hlt:=(List.getElem?_eq_some_iff.1 hj).1
   have hg:=dy (xs:=x.L) (z:=((0+j:Nat):Int)) (by omega)
   rw[show(((0+j:Nat):Int)).toNat=j from by omega,hj]at hg
   rw[←xT hg]at h2
   exact ih y hy h2 (d+1) z hz
theorem Cs{off:List ByteArray}{x:Expr}(h:cg (ah off x) x=true):co off x=true:=by
 unfold co co.K1
 rw[te]
 exact Pe off x h 1
def rrules(off:List ByteArray):List Rule->Nat->List Rule
 |[],_=>[]
 |y::l,i=>SE y.Kind (i:Int) y.Think (ah off y.Expr)::rrules off l (i+1)
theorem D5(off:List ByteArray):∀(l:List Rule)(i j:Nat)(y:Rule),l[j]? = some y->(rrules off l i)[j]? = some (SE y.Kind ((i+j:Nat):Int) y.Think (ah off y.Expr))
 |[],_,j,y,h=>by simp at h
 |z::l,i,0,y,h=>by simp at h;subst h;rfl
 |z::l,i,j+1,y,h=>by
  have:=D5 off l (i+1) j y (by simpa using h)
  rw[show i+(j+1)=i+1+j from by omega]
  exact this
theorem Fs(p:Policy):∀(l:List Rule)(i:Nat)(g:List Rule),ew.L1 p (ew.K1 p) l i g=(qM p.Name p.Kinds p.Offices (g++rrules p.Offices l i) (ah p.Offices p.Change) p.Mode,0)
 |[],i,g=>by
  simp only[ew.L1,ew.K1,rrules,List.append_nil,Expr.eta]
 |y::l,i,g=>by
  simp only[ew.L1,Fs p l,rrules,Expr.eta,qE,Ue]
theorem LX(b:Policy):∀(l:List Rule)(i:Nat),j3.L1 b j3.K1 l i=true->∀(j:Nat)(y:Rule),l[j]? = some y->y.KindNo=(nthI b.Rules ((i+j:Nat):Int)).KindNo/\cg y.Expr (nthI b.Rules ((i+j:Nat):Int)).Expr=true
 |[],_,_,j,y,hj=>by simp at hj
 |z::l,i,h,j,y,hj=>by
  simp only[j3.L1,Bool.cond_eq_ite]at h
  split at h
  .cases h
  .next hc=>
   simp only[xD,not_or,bne_iff_ne,ne_eq,Classical.not_not,kC,Bool.not_eq_false]at hc
   cases j with
   |zero=>simp at hj;subst hj;exact⟨hc.1.1.2,hc.2⟩
   |succ j=>have:=LX b l (i+1) h j y (by simpa using hj);rw[show i+(j+1)=i+1+j from by omega];exact this
theorem GG(p:Policy)(k:Bool):∀(l:List Rule),jg.L1 p k l=true->(∀r∈l,cC p.Offices r.Expr=true)/\k=true
 |[],h=>⟨λ_ h=>(jA h).elim,h⟩
 |y::l,h=>by
  simp only[jg.L1,Bool.cond_eq_ite]at h
  split at h
  .cases h
  .next hc=>
   obtain⟨h1,h2⟩:=GG p k l h
   refine⟨λz hz=>?_,h2⟩
   rcases qC.1 hz with rfl|hz
   .simpa using hc
   .exact h1 z hz
theorem Jd(k:Bool):∀(l:List Rule),gx.L1 k l=false->∀r∈l,mL r.Expr=false
 |[],_=>λ_ h=>(jA h).elim
 |y::l,h=>by
  simp only[gx.L1,Bool.cond_eq_ite]at h
  split at h
  .cases h
  .next hc=>
   intro z hz
   rcases qC.1 hz with rfl|hz
   .simpa using hc
   .exact Jd k l h z hz
theorem E8(p:Policy)(k:Bool):∀(l:List Rule)(i:Nat),iJ.L1 p k l i=true->(∀(j:Nat)r,l[j]? = some r->((r.Kind.toList==(nthI p.Kinds (((i+j:Nat):Int))).toList)=true/\0<=r.Think/\r.Think<1099511627776)/\aM r.Expr true=true)/\k=true
 |[],i,h=>⟨λj r hj=>by simp at hj,h⟩
 |y::l,i,h=>by
  simp only[iJ.L1,Bool.cond_eq_ite]at h
  split at h
  .cases h
  .next hc=>
   simp only[xD,not_or,decide_eq_true_eq,kC,Bool.not_eq_false]at hc
   obtain⟨h1,h2⟩:=E8 p k l (i+1) h
   refine⟨λj r hj=>?_,h2⟩
   cases j with
   |zero=>simp at hj;subst hj;exact⟨⟨hc.1.1.1,by omega,by omega⟩,hc.2⟩
   |succ j=>have:=h1 j r (by simpa using hj);rw[show i+(j+1)=i+1+j from by omega];exact this
theorem OO{p:Policy}(hs:smP p)(h:gO p=0):cT p=0:=by
 unfold gO at h
 rw[Bool.cond_eq_ite]at h
 split at h
 .next hc=>exact absurd h (by simpa using hc)
 .next hR=>
  rw[Bool.cond_eq_ite]at h
  split at h
  .omega
  .next hS=>
   simp only[kC,Bool.not_eq_false]at hS
   unfold ew at hR hS
   cases hl:gx p with
   |true=>rw[hl]at hR;simp at hR
   |false=>
    rw[hl]at hR hS
    cases hn:jg p with
    |false=>rw[hn]at hR;simp at hR
    |true=>
     rw[hn]at hR hS
     cases hf:iJ p with
     |false=>rw[hf]at hR;simp at hR
     |true=>
      rw[hf]at hS
      simp only[Bool.not_true,cond_false,Fs,zG]at hS
      clear hR h
      unfold gx at hl
      rw[Bool.cond_eq_ite]at hl
      split at hl
      .cases hl
      .next h1=>
       simp only[xD,not_or,decide_eq_true_eq,Bool.not_eq_true]at h1
       have h2:=Jd _ _ hl
       unfold jg at hn
       rw[Bool.cond_eq_ite]at hn
       split at hn
       .cases hn
       .next h3=>
        simp only[xD,not_or,kC,Bool.not_eq_false]at h3
        obtain⟨h4,h5⟩:=GG p _ _ hn
        unfold iJ at hf
        rw[Bool.cond_eq_ite]at hf
        split at hf
        .cases hf
        .next h6=>
         simp only[xD,not_or,decide_eq_true_eq,bne_iff_ne,ne_eq,Classical.not_not]at h6
         obtain⟨h7,h8⟩:=E8 p _ _ 0 hf
         unfold j3 at hS
         rw[Bool.cond_eq_ite]at hS
         split at hS
         .cases hS
         .next h9=>
          simp only[xD,not_or,kC,Bool.not_eq_false]at h9
          have h10:=LX p _ 0 hS
          have hexp:∀x,x∈aA p->(∃r∈p.Rules,r.Expr=x)\/x=p.Change:=by
           intro x hx
           rw[rR]at hx
           simp only[xH,kJ,xC]at hx
           exact hx
          rw[Bn,tg,DU,IY]
          refine⟨⟨⟨⟨by omega,by omega,by omega⟩,λx hx=>?_⟩,⟨⟨LJ h3.1.1,CZ h3.1.2,CZ h3.2⟩,λx hx=>?_⟩,?_⟩,λj r hj=>?_,Cs h9.2⟩
          .rcases hexp x hx with⟨r,hr,rfl⟩|rfl
           .exact Jc (hs.2.1 r hr) (h2 r hr)
           .exact Jc hs.2.2.1 h1.2
          .rcases hexp x hx with⟨r,hr,rfl⟩|rfl
           .exact I1 p.Offices _ (h4 r hr) 1
           .exact I1 p.Offices _ h5 1
          .unfold bx bx.K1 bx.K2
           rw[qf,Bb,DC]
           refine⟨?_,λj r hj=>?_,λj x hj z hz=>?_⟩
           .simp only[jB,decide_eq_true_eq,beq_iff_eq,bh]
            exact⟨⟨by omega,h6.1.1.2⟩,by omega,by omega⟩
           .have:=(h7 j r hj).1
            simp only[jB,decide_eq_true_eq,bh]
            exact⟨this.1,this.2.1,by omega⟩
           .have hlen:(aA p).length=p.Rules.length+1:=by rw[rR];simp
            rw[rR]at hj
            rcases Nat.lt_or_ge j p.Rules.length with hjl|hjl
            .rw[List.getElem?_append_left (by simpa using hjl),xV]at hj
             obtain⟨r,hr,rfl⟩:=Option.map_eq_some_iff.1 hj
             refine⟨(GT true _ (h7 j r hr).2 1 z hz).1,?_⟩
             rw[hlen,wrap64 (by omega)]
             have:decide (((0+j:Nat):Int)<((p.Rules.length+1:Nat):Int)-1)=true:=by rw[decide_eq_true_eq];omega
             rw[this];rfl
            .rw[List.getElem?_append_right (by simpa using hjl)]at hj
             have hj2:=xC.1 (List.mem_of_getElem? hj)
             subst hj2
             obtain⟨k1,k2⟩:=GT false _ h8 1 z hz
             refine⟨k1,?_⟩
             have:(z.x.Kind != 4)=true:=by simpa using k2 rfl
             rw[this,Bool.or_true]
          .have h11:=h10 j _ (D5 p.Offices p.Rules 0 j r hj)
           have hlt:=(List.getElem?_eq_some_iff.1 hj).1
           have hg:=dy (xs:=p.Rules) (z:=((0+j:Nat):Int)) (by omega)
           rw[show(((0+j:Nat):Int)).toNat=j from by omega,hj]at hg
           rw[←xT hg]at h11
           dsimp only at h11
           exact⟨by rw[←h11.1];simp,Cs h11.2⟩
def OX(v:Version):Prop:=(0<=v.No/\v.No<=1048576)/\(0<=v.At/\v.At<1099511627776)/\(0<=v.Known/\v.Known<1099511627776)/\gO v.Policy=0
theorem LR{L:List Version}{y:Version}{l:List Version}{i:Nat}(h:e9.L1 L e9.K1 (y::l) i=0):OX y/\(0<i->(nthI L ((i:Int)-1)).No<y.No)/\e9.L1 L e9.K1 l (i+1)=0:=by
 simp only[e9.L1,Bool.cond_eq_ite]at h
 split at h
 .omega
 .next hc=>
  simp only[xD,not_or,decide_eq_true_eq,jB,kC,Bool.not_eq_false,bne_iff_ne,ne_eq,Classical.not_not,fh]at hc
  obtain⟨⟨⟨⟨h1,h2⟩,h3⟩,h4⟩,h5⟩:=hc
  exact⟨⟨by omega,h3,h4,h5⟩,λhi=>by omega,h⟩
theorem LS(L:List Version):∀(l pre:List Version)(x:Version),L=(pre++[x])++l->e9.L1 L e9.K1 l (pre.length+1)=0->(∀y∈l,OX y)/\(x::l).Pairwise (λa b=>a.No<b.No)
 |[],_,_,_,_=>⟨λ_ h=>(jA h).elim,by simp⟩
 |y::l,pre,x,h,hr=>by
  have hx:nthI L (((pre.length+1:Nat):Int)-1)=x:=by
   have hb:0<=(((pre.length+1:Nat):Int)-1)/\(((pre.length+1:Nat):Int)-1)<(L.length:Int):=by rw[h];simp;omega
   have hg:=dy hb
   rw[show((((pre.length+1:Nat):Int)-1)).toNat=pre.length from by omega,h]at hg
   rw[h];simpa using hg.symm
  obtain⟨h1,h2,h3⟩:=LR hr
  have h2:=h2 (by omega)
  rw[hx]at h2
  have ih:=LS L l (pre++[x]) y (by rw[h];simp)
  rw[kA,zA,vB,Nat.zero_add]at ih
  obtain⟨i1,i2⟩:=ih h3
  refine⟨λz hz=>?_,List.pairwise_cons.2 ⟨λz hz=>?_,i2⟩⟩
  .rcases qC.1 hz with rfl|hz
   .exact h1
   .exact i1 z hz
  .rcases qC.1 hz with rfl|hz
   .exact h2
   .have:=(List.pairwise_cons.1 i2).1 z hz;omega
theorem JJ{l:List Version}(hs:smV l)(h:e9 l=0):bJ l=0:=by
 rw[oS]
 unfold e9 at h
 rw[Bool.cond_eq_ite]at h
 split at h
 .omega
 .next hl=>
  simp only[decide_eq_true_eq]at hl
  have key:(∀y∈l,OX y)/\l.Pairwise (λa b=>a.No<b.No):=by
   cases l with
   |nil=>exact⟨λ_ h=>(jA h).elim,List.Pairwise.nil⟩
   |cons y l=>
    obtain⟨h1,_,h3⟩:=LR h
    obtain⟨i1,i2⟩:=LS (y::l) l [] y rfl h3
    refine⟨λz hz=>?_,i2⟩
    rcases qC.1 hz with rfl|hz
    .exact h1
    .exact i1 z hz
  refine⟨by omega,λv hv=>?_,key.2⟩
  have:=key.1 v hv
  obtain⟨h1,h2,h3,h4⟩:=this
  exact⟨by omega,by omega,h1,OO (hs.2 v hv) h4⟩
end Go.Sg
