import Derived.Test.YtknehchipcogdaaGreatDoorW2
/- A part of the proof of MissingCame. -/
set_option linter.unusedVariables false
set_option linter.unusedSimpArgs false
set_option maxRecDepth 100000
open List renaming length_cons→xA,not_mem_nil→jA,length_append→vA,mem_cons_self→xB,length_nil→jB,toArray→kB,mem_cons_of_mem→qC,mem_singleton→xC,mem_cons→kC,range→zD,nil_append→vD,mem_append→kF,map_cons→kG,mem_filter→vH,mem_map→xJ,nodup_cons→xR,getElem?_map→Yv,getElem?_of_mem→YV
open Bool renaming and_eq_true→zB,or_eq_true→kD,not_eq_true'→kE,eq_iff_iff→jK,false_eq_true→YO
open Go.Value renaming int→jC
open Go.IntKind renaming wrap→vC
open Nat renaming le_refl→xE,zero_le→jH,le_trans→kK
open Go.Sg.OSeat renaming mk→YF
open Go.Sg.Budget renaming mk→aAf

namespace Go.Sg
variable {ah b bw e k n th:Int}{c u:Bool}{f:Unit->Except Int Unit}{hs:List (List cm)}{l:List aD}{m:List (Int×Bool)}{p:ay}{q:List iu}{s:ByteArray}{signed:List Int}{st:List aG}{w:iu}{x:Except Int Unit}{α:Type}
def gP(gj:Int)(low:Int)(high:Int):Bool:=(decide (low<=gj)&&decide (gj<=high))
def gQ(gj:Int):Bool:=(gP gj 0 1099511627775)
def iJ(gj:Int):Bool:=(gP gj 0 31)
def ky(gj:Int):Bool:=(gP gj 0 63)
def qb(x:aQ):Bool:=(bif x.nA then((((((gP x.No 0 1048576)&&(gQ x.At))&&(gQ x.fX))&&(iJ x.ea))&&(ky x.dz))&&(gP x.gG 0 0))else((((((gP x.No 0 1048576)&&(gQ x.At))&&(gQ x.fX))&&(iJ x.ea))&&(ky x.dz))&&(gP x.gG 1 64)))
def dX.K1(mv:Int):Int:=0
def dX.L1(k:Int->Int):List aQ->Int->Int
 |[],mv=>(k mv)
 |y1::rz1,mv=>(bif((!(qb y1))||decide (y1.No<=mv))then 150 else(dX.L1  k rz1 y1.No))
def dX(l:List aQ):Int:=(bif(decide (4096<(l.length:Int)))then 2 else((dX.L1 (dX.K1)) l (-1)))
def dw(gj:Int)(low:Int)(high:Int):Bool:=(decide (low<=gj)&&decide (gj<=high))
def i8(gj:Int):Bool:=(dw gj 0 1099511627775)
def ip(gj:Int):Bool:=(dw gj 0 63)
def pD(x:bj):Bool:=(bif((((((((!(dw x.No 0 1048576))||(!(i8 x.At)))||(!(i8 x.fX)))||(!(ip x.From)))||(!(ip x.To)))||(x.From==x.To))||(!(dw x.ea 0 31)))||(!(dw x.Kind (-1) 15)))then false else(bif x.nA then((x.qi==0)&&(x.SQ==0))else((decide (x.At<x.qi)&&decide (x.qi<=1099511627776))&&(dw x.SQ 0 1099511627776))))
def dR.K1(mv:Int):Int:=0
def dR.L1(k:Int->Int):List bj->Int->Int
 |[],mv=>(k mv)
 |y1::rz1,mv=>(bif((!(pD y1))||decide (y1.No<=mv))then 160 else(dR.L1  k rz1 y1.No))
def dR(l:List bj):Int:=(bif(decide (4096<(l.length:Int)))then 2 else((dR.L1 (dR.K1)) l (-1)))
def eX(gj:Int)(dY:Int):Bool:=(decide (0<=gj)&&decide (gj<dY))
def oC(x:aG):Bool:=(bif x.Of then((((((eX x.No 1048577)&&(eX x.At 1099511627776))&&(eX x.fX 1099511627776))&&(eX x.jt 1048577))&&(eX x.dz 1048577))&&(x.dz != x.jt))else(((((eX x.No 1048577)&&(eX x.At 1099511627776))&&(eX x.fX 1099511627776))&&(eX x.jt 1048577))&&(eX x.dz 64)))
def du.K1(mv:Int):Int:=0
def du.L1(k:Int->Int):List aG->Int->Int
 |[],mv=>(k mv)
 |y1::rz1,mv=>(bif((!(oC y1))||decide (y1.No<=mv))then 290 else(du.L1  k rz1 y1.No))
def du(l:List aG):Int:=(bif(decide (4096<(l.length:Int)))then 2 else((du.L1 (du.K1)) l (-1)))
def cK.K1  : Int:=(-1)
def cK.L1(f:(Int->Bool))(k:Int):List Int->Nat->Int
 |[],i1=>(k)
 |y1::rz1,i1=>(bif(f y1)then(i1:Int)else(cK.L1 f k rz1 (i1+1)))
def cK(s:List Int)(f:(Int->Bool)):Int:=((cK.L1 f (cK.K1)) s 0)
def eJ(s:List Int)(f:(Int->Bool)):Bool:=decide (0<=(cK s f))
def lq(gj:Int)(v0:Int)(v1:Int):Bool:=(decide (gj<v0)||decide (v1<gj))
def cC(least:Int)(most:Int)(l:List Int):Bool:=(!(eJ l (λfh=>lq fh least most)))
def lW(x:Budget):Bool:=(bif x.nA then((((((cC 0 1048576 ([x.No]))&&(cC 0 1099511627775 ([x.At,x.fX])))&&(cC (-1) 15 ([x.Kind])))&&(cC 1 1099511627776 ([x.lC])))&&(cC 0 0 ([x.Count])))&&(cC 0 0 ([x.Value])))else((((((cC 0 1048576 ([x.No]))&&(cC 0 1099511627775 ([x.At,x.fX])))&&(cC (-1) 15 ([x.Kind])))&&(cC 1 1099511627776 ([x.lC])))&&(cC 0 1048576 ([x.Count])))&&(cC 0 1099511627776 ([x.Value]))))
def bC.K1(mv:Int):Int:=0
def bC.L1(k:Int->Int):List Budget->Int->Int
 |[],mv=>(k mv)
 |y1::rz1,mv=>(bif((!(lW y1))||decide (y1.No<=mv))then 180 else(bC.L1  k rz1 y1.No))
def bC(l:List Budget):Int:=(bif(decide (4096<(l.length:Int)))then 2 else((bC.L1 (bC.K1)) l (-1)))
def ba(gj:Int)(low:Int)(high:Int):Bool:=(decide (low<=gj)&&decide (gj<=high))
def aT.L2(k:List gu):List gu->List gu
 |[]=>k
 |y2::rz2=>(y2::(aT.L2 k rz2))
def aT.L3(k:List gu):List gu->List gu
 |[]=>k
 |y3::rz3=>(y3::(aT.L3 k rz3))
def aT.K1  : List gu:=[]
def aT.L1(rec:ao->Int->List gu)(depth:Int)(k:List gu):List ao->List gu
 |[]=>(k)
 |y1::rz1=>((aT.L3 ((aT.L1 rec depth k rz1))) (rec y1 (depth+1)))
def aT.F(rec:ao->Int->List gu)(x:ao)(depth:Int):List gu:=((gu.mk (ao.mk x.Kind x.N x.No x.Name x.L) depth)::((aT.L1 rec depth (aT.K1)) x.L))
def aT.go:Nat->ao->Int->List gu
 |0=>λ_ _=>[]
 |m+1=>aT.F (aT.go m)
def bz(x:ao)(depth:Int):List gu:=aT.go x.dep x depth
def fA(ok:Bool)(XB:Int):(Except Int Unit):=(bif(!ok)then(Except.error XB)else(Except.ok ()))
def aJ.K1(p:ay)(UE:List ao):List ao:=(UE++[p.aS])
def aJ.L1(k:List ao->List ao):List fg->List ao->List ao
 |[],UE=>(k UE)
 |y1::rz1,UE=>(aJ.L1  k rz1 (UE++[y1.ao]))
def aJ(p:ay):List ao:=((aJ.L1 (aJ.K1 p)) p.cZ ([]))
def dh.L2(k:Int->(Except Int Unit)):List gu->Int->(Except Int Unit)
 |[],Hl=>k Hl
 |y2::rz2,Hl=>(exi (fA (decide ((vC .i64 (Hl+1))<=256)&&decide (y2.depth<=16)) 2) (λ_=>(dh.L2 k rz2 (vC .i64 (Hl+1)))))
def dh.L3(k:Int->(Except Int Unit)):List gu->Int->(Except Int Unit)
 |[],Hk=>k Hk
 |y3::rz3,Hk=>(exi (fA (decide ((vC .i64 (Hk+1))<=256)&&decide (y3.depth<=16)) 2) (λ_=>(dh.L3 k rz3 (vC .i64 (Hk+1)))))
def dh.K1  : (Except Int Unit):=(Except.ok ())
def dh.L1(k:(Except Int Unit)):List ao->(Except Int Unit)
 |[]=>(k)
 |y1::rz1=>((dh.L3 (λzg3_b3_0=>(dh.L1  k rz1))) (bz y1 1) 0)
def dh(p:ay):(Except Int Unit):=(exi (fA ((decide ((p.aB.length:Int)<=32)&&decide ((p.dM.length:Int)<=16))&&decide ((p.cZ.length:Int)<=16)) 2) (λ_=>((dh.L1 (dh.K1)) (aJ p))))
def dH(x:ao):Bool:=((x.Kind==1)||(x.Kind==2))
def lQ(s:ByteArray)(c:Int):Int:=(idxByte s c)
def strings_IndexByte(s:ByteArray)(c:Int):Int:=(lQ s c)
def m9(c:Int):Int:=(bif((decide (97<=c)&&decide (c<=122))||(decide (65<=c)&&decide (c<=90)))then 2 else(bif(decide (48<=c)&&decide (c<=57))then 3 else(bif(c==95)then 5 else(bif((((c==32)||(c==9))||(c==10))||(c==13))then 1 else(bif(decide (0<=(strings_IndexByte (⟨#[123,125,40,41,59,44,61,58,46,60,62,33,43,45,42,47]⟩:ByteArray) c)))then 4 else 0)))))
def gp.K1  : Bool:=true
def gp.L1(s:ByteArray)(k:Bool):List Nat->Nat->Bool
 |[],i1=>(k)
 |y1::rz1,i1=>(bif((((m9 ((s.data.getD ((i1:Int):Int).toNat 0).toNat:Int)) != 2)&&((m9 ((s.data.getD ((i1:Int):Int).toNat 0).toNat:Int)) != 3))&&((m9 ((s.data.getD ((i1:Int):Int).toNat 0).toNat:Int)) != 5))then false else(gp.L1 s k rz1 (i1+1)))
def gp(s:ByteArray):Bool:=(bif(((s.toList==(⟨#[]⟩:ByteArray).toList)||decide (32<(s.size:Int)))||((m9 ((s.data.getD (0:Int).toNat 0).toNat:Int)) != 2))then false else((gp.L1 s (gp.K1)) (zD s.size) 0))
def fM(s:ByteArray):Bool:=(bif(s.toList==(⟨#[112,111,108,105,99,121]⟩:ByteArray).toList)then(bif(s.toList==(⟨#[112,111,108,105,99,121]⟩:ByteArray).toList)then false else(gp s))else(bif(s.toList==(⟨#[109,111,100,101]⟩:ByteArray).toList)then(bif(s.toList==(⟨#[109,111,100,101]⟩:ByteArray).toList)then false else(gp s))else(bif(s.toList==(⟨#[111,108,100]⟩:ByteArray).toList)then(bif(s.toList==(⟨#[111,108,100]⟩:ByteArray).toList)then false else(gp s))else(bif(s.toList==(⟨#[110,101,119]⟩:ByteArray).toList)then(bif(s.toList==(⟨#[110,101,119]⟩:ByteArray).toList)then false else(gp s))else(bif(s.toList==(⟨#[98,111,116,104]⟩:ByteArray).toList)then(bif(s.toList==(⟨#[98,111,116,104]⟩:ByteArray).toList)then false else(gp s))else(bif(s.toList==(⟨#[101,105,116,104,101,114]⟩:ByteArray).toList)then(bif(s.toList==(⟨#[101,105,116,104,101,114]⟩:ByteArray).toList)then false else(gp s))else(bif(s.toList==(⟨#[111,102,102,105,99,101]⟩:ByteArray).toList)then(bif(s.toList==(⟨#[111,102,102,105,99,101]⟩:ByteArray).toList)then false else(gp s))else(bif(s.toList==(⟨#[107,105,110,100]⟩:ByteArray).toList)then(bif(s.toList==(⟨#[107,105,110,100]⟩:ByteArray).toList)then false else(gp s))else(bif(s.toList==(⟨#[114,117,108,101]⟩:ByteArray).toList)then(bif(s.toList==(⟨#[114,117,108,101]⟩:ByteArray).toList)then false else(gp s))else(bif(s.toList==(⟨#[116,104,105,110,107]⟩:ByteArray).toList)then(bif(s.toList==(⟨#[116,104,105,110,107]⟩:ByteArray).toList)then false else(gp s))else(bif(s.toList==(⟨#[99,104,97,110,103,101]⟩:ByteArray).toList)then(bif(s.toList==(⟨#[99,104,97,110,103,101]⟩:ByteArray).toList)then false else(gp s))else(bif(s.toList==(⟨#[115,111,109,101]⟩:ByteArray).toList)then(bif(s.toList==(⟨#[115,111,109,101]⟩:ByteArray).toList)then false else(gp s))else(bif(s.toList==(⟨#[119,101,105,103,104,116]⟩:ByteArray).toList)then(bif(s.toList==(⟨#[119,101,105,103,104,116]⟩:ByteArray).toList)then false else(gp s))else(bif(s.toList==(⟨#[111,102]⟩:ByteArray).toList)then(bif(s.toList==(⟨#[111,102]⟩:ByteArray).toList)then false else(gp s))else(bif(s.toList==(⟨#[117,112,116,111]⟩:ByteArray).toList)then(bif(s.toList==(⟨#[117,112,116,111]⟩:ByteArray).toList)then false else(gp s))else(bif(s.toList==(⟨#[101,108,115,101]⟩:ByteArray).toList)then false else(gp s)))))))))))))))))
def bq.K1  : Int:=(-1)
def bq.L1(v:ByteArray)(k:Int):List ByteArray->Nat->Int
 |[],i1=>(k)
 |y1::rz1,i1=>(bif(v.toList==y1.toList)then(i1:Int)else(bq.L1 v k rz1 (i1+1)))
def bq(s:List ByteArray)(v:ByteArray):Int:=((bq.L1 v (bq.K1)) s 0)
def bX.K1  : Bool:=true
def bX.L1(l:List ByteArray)(ok:(ByteArray->Bool))(k:Bool):List ByteArray->Nat->Bool
 |[],i1=>(k)
 |y1::rz1,i1=>(bif((!(ok y1))||((bq l y1) != (i1:Int)))then false else(bX.L1 l ok k rz1 (i1+1)))
def bX(l:List ByteArray)(ok:(ByteArray->Bool)):Bool:=((bX.L1 l ok (bX.K1)) l 0)
def dK(s:List ByteArray)(v:ByteArray):Bool:=decide (0<=(bq s v))
def di.L2(p:ay)(k:(Except Int Unit)):List gu->(Except Int Unit)
 |[]=>k
 |y2::rz2=>(exi (fA ((!(dH y2.x))||(dK p.aB y2.x.Name)) 201) (λ_=>(di.L2 p k rz2)))
def di.L3(p:ay)(k:(Except Int Unit)):List gu->(Except Int Unit)
 |[]=>k
 |y3::rz3=>(exi (fA ((!(dH y3.x))||(dK p.aB y3.x.Name)) 201) (λ_=>(di.L3 p k rz3)))
def di.K1  : (Except Int Unit):=(Except.ok ())
def di.L1(p:ay)(k:(Except Int Unit)):List ao->(Except Int Unit)
 |[]=>(k)
 |y1::rz1=>((di.L3 p ((di.L1 p k rz1))) (bz y1 1))
def di(p:ay):(Except Int Unit):=(exi (fA (((fM p.Name)&&(bX p.aB fM))&&(bX p.dM fM)) 201) (λ_=>((di.L1 p (di.K1)) (aJ p))))
def sO(x0:ao):Bool:=false
def lO(x:ao):Bool:=((x.N==0)&&((x.L.length:Int)==0))
def lN(x:ao):Bool:=((ba x.N 1 4096)&&((x.L.length:Int)==0))
def lL(x:ao):Bool:=(((x.Name.toList==(⟨#[]⟩:ByteArray).toList)&&(ba (x.L.length:Int) 1 16))&&(ba x.N 1 (x.L.length:Int)))
def kx(x:ao):Bool:=(((x.Name.toList==(⟨#[]⟩:ByteArray).toList)&&((x.L.length:Int)==2))&&(ba x.N 0 1099511627776))
def kindsP(i:Int)(x:ao):Bool:=if i=0 then sO x else if i=1 then lO x else if i=2 then lN x else if i=3 then lL x else kx x
def bu.L3(p:ay)(k:(Except Int Unit)):List gu->(Except Int Unit)
 |[]=>k
 |y3::rz3=>(exi (fA ((ba y3.x.Kind 1 4)&&(kindsP y3.x.Kind y3.x)) 200) (λ_=>(exi (fA (decide (0<(vC .i64 (((aJ p).length:Int)-1)))||(y3.x.Kind != 4)) 200) (λ_=>(bu.L3 p k rz3)))))
def bu.L4(p:ay)(i2:Nat)(k:(Except Int Unit)):List gu->(Except Int Unit)
 |[]=>k
 |y4::rz4=>(exi (fA ((ba y4.x.Kind 1 4)&&(kindsP y4.x.Kind y4.x)) 200) (λ_=>(exi (fA (decide ((i2:Int)<(vC .i64 (((aJ p).length:Int)-1)))||(y4.x.Kind != 4)) 200) (λ_=>(bu.L4 p i2 k rz4)))))
def bu.K2  : (Except Int Unit):=(Except.ok ())
def bu.L2(p:ay)(k:(Except Int Unit)):List ao->Nat->(Except Int Unit)
 |[],i2=>(k)
 |y2::rz2,i2=>((bu.L4 p i2 ((bu.L2 p k rz2 (i2+1)))) (bz y2 1))
def bu.K1(p:ay):(Except Int Unit):=((bu.L2 p (bu.K2)) (aJ p) 0)
def bu.L1(p:ay)(k:(Except Int Unit)):List fg->Nat->(Except Int Unit)
 |[],i1=>(k)
 |y1::rz1,i1=>(exi (fA ((y1.Kind.toList==(nthI p.dM (i1:Int)).toList)&&(ba y1.gf 0 1099511627775)) 200) (λ_=>(bu.L1 p k rz1 (i1+1))))
def bu(p:ay):(Except Int Unit):=(exi (fA ((decide (0<(p.dM.length:Int))&&((p.cZ.length:Int)==(p.dM.length:Int)))&&(ba p.Mode 1 4)) 200) (λ_=>((bu.L1 p (bu.K1 p)) p.cZ 0)))
def eU(p:ay):(Except Int Unit):=(exi (dh p) (λ_=>(exi (di p) (λ_=>(exi (bu p) (λ_=>(Except.ok ())))))))
def aA.K1(aE:List ByteArray)(x:ao)(ot:List ao):ao:=(ao.mk x.Kind x.N (bq aE x.Name) x.Name ot)
def aA.L1(rec:List ByteArray->ao->ao)(aE:List ByteArray)(k:List ao->ao):List ao->List ao->ao
 |[],ot=>(k ot)
 |y1::rz1,ot=>(aA.L1 rec aE k rz1 (ot++[(rec aE y1)]))
def aA.K2(x:ao)(oq:List ao):ao:=(ao.mk x.Kind x.N 0 x.Name oq)
def aA.L2(rec:List ByteArray->ao->ao)(aE:List ByteArray)(k:List ao->ao):List ao->List ao->ao
 |[],oq=>(k oq)
 |y2::rz2,oq=>(aA.L2 rec aE k rz2 (oq++[(rec aE y2)]))
def aA.F(rec:List ByteArray->ao->ao)(aE:List ByteArray)(x:ao):ao:=(bif(dH (ao.mk x.Kind x.N 0 x.Name x.L))then((aA.L1 rec aE (aA.K1 aE x)) x.L ([]))else((aA.L2 rec aE (aA.K2 x)) x.L ([])))
def aA.go:Nat->List ByteArray->ao->ao
 |0=>λ_ _=>default
 |m+1=>aA.F (aA.go m)
def aA(aE:List ByteArray)(x:ao):ao:=aA.go x.dep aE x
def eG.K1(p:ay)(ph:List fg):(ay×Int):=((ay.mk p.Name p.dM p.aB ph (ao.mk ((aA p.aB p.aS).Kind) ((aA p.aB p.aS).N) ((aA p.aB p.aS).No) ((aA p.aB p.aS).Name) ((aA p.aB p.aS).L)) p.Mode),0)
def eG.L1(p:ay)(k:List fg->(ay×Int)):List fg->Nat->List fg->(ay×Int)
 |[],i1,ph=>(k ph)
 |y1::rz1,i1,ph=>(eG.L1 p k rz1 (i1+1) (ph++[(fg.mk y1.Kind (i1:Int) y1.gf (ao.mk ((aA p.aB y1.ao).Kind) ((aA p.aB y1.ao).N) ((aA p.aB y1.ao).No) ((aA p.aB y1.ao).Name) ((aA p.aB y1.ao).L)))]))
def eG(p:ay):(ay×Int):=(bif((attR (eU p)) != 0)then((ay.mk (⟨#[]⟩:ByteArray) ([]) ([]) ([]) (ao.mk 0 0 0 (⟨#[]⟩:ByteArray) ([])) 0),(attR (eU p)))else((eG.L1 p (eG.K1 p)) p.cZ 0 ([])))
def cJ.K1  : Bool:=true
def cJ.L1(aE:List ByteArray)(k:Bool):List gu->Bool
 |[]=>k
 |y1::rz1=>(bif(dH y1.x)then(bif(y1.x.No != (bq aE y1.x.Name))then false else(cJ.L1 aE k rz1))else(bif(y1.x.No != 0)then false else(cJ.L1 aE k rz1)))
def cJ(aE:List ByteArray)(x:ao):Bool:=((cJ.L1 aE (cJ.K1)) (bz x 1))
def dy.K1(p:ay):Int:=(bif(!(cJ p.aB p.aS))then 200 else 0)
def dy.L1(p:ay)(k:Int):List fg->Nat->Int
 |[],i1=>(k)
 |y1::rz1,i1=>(bif((y1.BQ != (i1:Int))||(!(cJ p.aB y1.ao)))then 200 else(dy.L1 p k rz1 (i1+1)))
def dy(p:ay):Int:=(bif((eG p).2 != 0)then(eG p).2 else((dy.L1 p (dy.K1 p)) p.cZ 0))
def bE.K1(mv:Int):Int:=0
def bE.L1(k:Int->Int):List aD->Int->Int
 |[],mv=>(k mv)
 |y1::rz1,mv=>(bif((((!(ba y1.No (vC .i64 (mv+1)) 1048576))||(!(ba y1.At 0 1099511627775)))||(!(ba y1.fX 0 1099511627775)))||((dy y1.ay) != 0))then 200 else(bE.L1  k rz1 y1.No))
def bE(l:List aD):Int:=(bif(decide (256<(l.length:Int)))then 2 else((bE.L1 (bE.K1)) l (-1)))
def aI.K1(l:List av)(cB:List (Int×Int)):iK:=(iK.mk l cB)
def aI.L1(k:(List (Int×Int))->iK):List av->Nat->(List (Int×Int))->iK
 |[],i1,cB=>(k cB)
 |y1::rz1,i1,cB=>(aI.L1  k rz1 (i1+1) (mput cB y1.No (i1:Int)))
def aI(l:List av):iK:=((aI.L1 (aI.K1 l)) l 0 ([]))
def iZ(t:Int):Bool:=(decide (0<=t)&&decide (t<1099511627776))
def eZ.K1(l:List Int)(fW:Int):Bool:=decide ((l.length:Int)<=16)
def eZ.L1(dY:Int)(k:Int->Bool):List Int->Int->Bool
 |[],fW=>(k fW)
 |y1::rz1,fW=>(bif(decide (y1<=fW)||decide (dY<=y1))then false else(eZ.L1 dY k rz1 y1))
def eZ(l:List Int)(dY:Int):Bool:=((eZ.L1 dY (eZ.K1 l)) l (-1))
def mw(d:av):Bool:=((((((((((((decide (0<=d.No)&&decide (d.No<4096))&&(iZ d.At))&&decide (0<=d.Kind))&&decide (d.Kind<16))&&decide (0<=d.Value))&&decide (d.Value<=1099511627776))&&decide (0<=d.From))&&decide (d.From<d.qi))&&decide (d.qi<=1099511627776))&&(eZ d.ju 1048577))&&(eZ d.fF d.No))&&(eZ d.e9 d.No))
def iD(no:Int)(v0:iK):Bool:=(!(mhas v0.at_ no))
def j6(s:iK)(d:av):Bool:=((!(eJ d.fF (λfh=>iD fh s)))&&(!(eJ d.e9 (λfh=>iD fh s))))
def aY.K1  : Int:=0
def aY.L1(l:List av)(k:Int):List av->Nat->Int
 |[],i1=>(k)
 |y1::rz1,i1=>(bif(((!(mw y1))||(decide (0<(i1:Int))&&decide (y1.No<=(nthI l ((i1:Int)-1)).No)))||(!(j6 (aI l) y1)))then 170 else(aY.L1 l k rz1 (i1+1)))
def aY(l:List av):Int:=(bif(decide (4096<(l.length:Int)))then 2 else((aY.L1 l (aY.K1)) l 0))
def iz(gj:Int)(v0:Int):Bool:=(decide (gj<0)||decide (v0<gj))
def dB(most:Int)(l:List Int):Bool:=(!(eJ l (λfh=>iz fh most)))
def eu(x:ai):Bool:=(((((dB 1048576 ([x.No]))&&(dB 1099511627775 ([x.At,x.fX])))&&(dB 4095 ([x.Doc])))&&(dB 63 ([x.By,x.For])))&&(dB 31 ([x.ea])))
def aX.K1(mv:Int):Int:=0
def aX.L1(k:Int->Int):List ai->Int->Int
 |[],mv=>(k mv)
 |y1::rz1,mv=>(bif((!(eu y1))||decide (y1.No<=mv))then 280 else(aX.L1  k rz1 y1.No))
def aX(l:List ai):Int:=(bif(decide (4096<(l.length:Int)))then 2 else((aX.L1 (aX.K1)) l (-1)))
def dq.K1  : Int:=0
def dq.L1(co:Register)(k:Int):List Nat->Nat->Int
 |[],i1=>(k)
 |y1::rz1,i1=>(bif((nthI ([(dX co.da),(dR co.eI),(du co.dt),(bC co.df),(bE co.Versions),(aY co.bV),(aX co.bO)]) (i1:Int)) != 0)then 300 else(dq.L1 co k rz1 (i1+1)))
def dq(co:Register):Int:=((dq.L1 co (dq.K1)) (zD 7) 0)
def lP(Xd:Int):(Except Int Unit):=(bif(Xd != 0)then(Except.error Xd)else(Except.ok ()))
def aj.K1  : Int:=(-1)
def aj.L1(f:(av->Bool))(k:Int):List av->Nat->Int
 |[],i1=>(k)
 |y1::rz1,i1=>(bif(f y1)then(i1:Int)else(aj.L1 f k rz1 (i1+1)))
def aj(s:List av)(f:(av->Bool)):Int:=((aj.L1 f (aj.K1)) s 0)
def bA(d:av)(v0:Int):Bool:=(d.No==v0)
def oh(co:Register)(aP:Int)(bD:Int)(ah:Int):(Except Int bI):=(bif((decide ((aj co.bV (λfh=>bA fh aP))<0)||decide ((min bD ah)<0))||decide (1099511627776<=(max bD ah)))then(Except.error 1)else(Except.ok (bI.mk co (nthI co.bV (aj co.bV (λfh=>bA fh aP))) bD ah)))
def cmp_isNaN_int(x:Int):Bool:=(x != x)
def iW(x:aQ)(v0:Int)(v1:Int):(OSeat×Bool):=((YF x.ea x.dz),(decide (x.At<=v0)&&decide (x.fX<=v1)))
def dp.K1(cH:List (OSeat×aQ)):(List (OSeat×aQ)):=cH
def dp.L1(key:(aQ->OSeat×Bool))(later:(aQ->aQ->Bool))(k:(List (OSeat×aQ))->(List (OSeat×aQ))):List aQ->(List (OSeat×aQ))->(List (OSeat×aQ))
 |[],cH=>(k cH)
 |y1::rz1,cH=>(bif((key y1).2&&((!(mhas cH ((key y1).1)))||(!(later (mgetD cH ((key y1).1) (aQ.mk 0 0 0 0 0 0 false)) y1))))then(dp.L1 key later k rz1 (mput cH ((key y1).1) y1))else(dp.L1 key later k rz1 cH))
def dp(l:List aQ)(key:(aQ->OSeat×Bool))(later:(aQ->aQ->Bool)):(List (OSeat×aQ)):=((dp.L1 key later (dp.K1)) l ([]))
def iV(a:aQ)(m6:aQ):Bool:=decide (m6.At<a.At)
def ii(l:List aQ)(lx:Int)(ah:Int):(List (OSeat×aQ)):=(dp l (λfh=>iW fh lx ah) iV)
def ew(l:List aQ)(bw:Int)(bY:Int)(dU:Int)(ah:Int):(Int×Int×Bool×Int):=(bif((dX l) != 0)then(0,0,false,(dX l))else(bif((((!(iJ bw))||(!(ky bY)))||(!(gQ dU)))||(!(gQ ah)))then(0,0,false,1)else(bif((!(mhas (ii l dU ah) (YF bw bY)))||(mgetD (ii l dU ah) (YF bw bY) (aQ.mk 0 0 0 0 0 0 false)).nA)then(0,0,false,0)else((mgetD (ii l dU ah) (YF bw bY) (aQ.mk 0 0 0 0 0 0 false)).No,(mgetD (ii l dU ah) (YF bw bY) (aQ.mk 0 0 0 0 0 0 false)).gG,true,0))))
def cX.K1  : Int:=(-1)
def cX.L1(f:(ai->Bool))(k:Int):List ai->Nat->Int
 |[],i1=>(k)
 |y1::rz1,i1=>(bif(f y1)then(i1:Int)else(cX.L1 f k rz1 (i1+1)))
def cX(s:List ai)(f:(ai->Bool)):Int:=((cX.L1 f (cX.K1)) s 0)
def fR(s:List ai)(del:ai->Bool):List ai:=s.filter λx=>!(del x)
def cM.K1  : List ai:=[]
def cM.L1(v1:Int)(v2:Int)(v3:Int)(k:List ai):List ai->List ai
 |[]=>(k)
 |y1::rz1=>(bif(((y1.Doc==v1)&&decide (y1.At<=v2))&&decide (y1.fX<=v3))then(y1::(cM.L1 v1 v2 v3 k rz1))else(cM.L1 v1 v2 v3 k rz1))
def cM(v0:List ai)(v1:Int)(v2:Int)(v3:Int):List ai:=((cM.L1 v1 v2 v3 (cM.K1)) v0)
def eV(l:List ai)(aP:Int)(bD:Int)(ah:Int):List ai:=(cM l aP bD ah)
def aW(x:ai):eE:=(eE.mk x.Doc x.By x.For x.ea)
def aF.K2(pg:List ai):List ai:=pg
def aF.L2(cB:List (eE×ai))(k:List ai->List ai):List ai->List ai->List ai
 |[],pg=>k pg
 |y2::rz2,pg=>(bif((!y2.nA)&&(decide ((mgetD cB (aW y2) (ai.mk 0 0 0 0 0 0 0 false))=y2)))then(aF.L2 cB k rz2 (pg++[y2]))else(aF.L2 cB k rz2 pg))
def aF.K1(l:List ai)(aP:Int)(bD:Int)(ah:Int)(cB:List (eE×ai)):List ai:=((aF.L2 cB (aF.K2)) (eV l aP bD ah) ([]))
def aF.L1(k:(List (eE×ai))->List ai):List ai->(List (eE×ai))->List ai
 |[],cB=>k cB
 |y1::rz1,cB=>(bif((!(mhas cB (aW y1)))||decide ((mgetD cB (aW y1) (ai.mk 0 0 0 0 0 0 0 false)).At<=y1.At))then(aF.L1 k rz1 (mput cB (aW y1) y1))else(aF.L1 k rz1 cB))
def aF(l:List ai)(aP:Int)(bD:Int)(ah:Int):List ai:=((aF.L1 (aF.K1 l aP bD ah)) (eV l aP bD ah) ([]))
def iq(y:ai)(db:Int)(at_:Int)(think:Int):Bool:=(decide (y.At<db)||decide ((vC .i64 (at_-y.At))<think))
def ck(l:List ai)(aP:Int)(db:Int)(think:Int)(cL:Int)(ah:Int):(List ai×Int):=(bif((aX l) != 0)then([],(aX l))else(bif((!(dB 4095 ([aP])))||(!(dB 1099511627775 ([db,think,cL,ah]))))then([],1)else((fR (aF l aP cL ah) (λfh=>iq fh db cL think)),0)))
def lm(l:List bj)(ep:Int)(to:Int)(q:cn):Int:=(bif((dR l) != 0)then(dR l)else(bif(((((((!(ip ep))||(!(ip to)))||(!(dw q.bw 0 31)))||(!(dw q.kind 0 15)))||(!(dw q.value 0 1099511627776)))||(!(i8 q.at_)))||(!(i8 q.ah)))then 1 else 0))
def cR.K1(cH:List bj):List bj:=cH
def cR.L1(k:List bj->List bj):List bj->List bj->List bj
 |[],cH=>k cH
 |y1::rz1,cH=>(cR.L1 k rz1 (cH++[y1]))
def cR(seq:List bj):List bj:=((cR.L1 (cR.K1)) seq ([]))
def dj(seq:List bj):List bj:=(cR seq)
def gC(q:cn)(x:bj):Bool:=(decide (x.At<=q.at_)&&decide (x.fX<=q.ah))
def nt(q:cn)(x:bj):Bool:=(((((!x.nA)&&decide (q.at_<x.qi))&&(x.ea==q.bw))&&((x.Kind==(-1))||(x.Kind==q.kind)))&&decide (q.value<=x.SQ))
def cV.K1  : List bj:=[]
def cV.L1(v1:List (et×bj))(v2:(bj->Bool))(v3:cn)(k:List bj):List bj->List bj
 |[]=>(k)
 |y1::rz1=>(bif(((decide ((mgetD v1 (et.mk y1.From y1.To y1.ea y1.Kind) (bj.mk 0 0 0 0 0 0 0 0 0 false))=y1))&&(v2 y1))&&(nt v3 y1))then(y1::(cV.L1 v1 v2 v3 k rz1))else(cV.L1 v1 v2 v3 k rz1))
def cV(v0:List bj)(v1:List (et×bj))(v2:(bj->Bool))(v3:cn):List bj:=((cV.L1 v1 v2 v3 (cV.K1)) v0)
def aR.K1(q:cn)(l:List bj)(eL:List (et×bj)):List bj:=(cV l eL (gC q) q)
def aR.L1(q:cn)(k:(List (et×bj))->List bj):List bj->(List (et×bj))->List bj
 |[],eL=>(k eL)
 |y1::rz1,eL=>(bif((gC q y1)&&((!(mhas eL (et.mk y1.From y1.To y1.ea y1.Kind)))||decide ((mgetD eL (et.mk y1.From y1.To y1.ea y1.Kind) (bj.mk 0 0 0 0 0 0 0 0 0 false)).At<=y1.At)))then(aR.L1 q k rz1 (mput eL (et.mk y1.From y1.To y1.ea y1.Kind) y1))else(aR.L1 q k rz1 eL))
def aR(q:cn)(l:List bj):List bj:=((aR.L1 q (aR.K1 q l)) l ([]))
def aH.L2(k:(List (Int×Int))->(List Int×Bool×Int)):List bj->(List (Int×Int))->(List Int×Bool×Int)
 |[],zp=>(k zp)
 |y2::rz2,zp=>(bif(((mhas zp y2.To)&&((mgetD zp y2.To 0)==0))&&(!(mhas zp y2.From)))then(aH.L2  k rz2 (mput zp y2.From 1))else(aH.L2  k rz2 zp))
def aH.L3(i1:Nat)(k:(List (Int×Int))->(List Int×Bool×Int)):List bj->(List (Int×Int))->(List Int×Bool×Int)
 |[],pd=>(k pd)
 |y3::rz3,pd=>(bif(((mhas pd y3.To)&&((mgetD pd y3.To 0)==(i1:Int)))&&(!(mhas pd y3.From)))then(aH.L3 i1 k rz3 (mput pd y3.From (((i1+1):Nat):Int)))else(aH.L3 i1 k rz3 pd))
def aH.L5(ep:Int)(cB:List (Int×Int))(k:List Int->Int->(List Int×Bool×Int)):List bj->List Int->Int->(List Int×Bool×Int)
 |[],Rt,Rs=>(k Rt Rs)
 |y5::rz5,Rt,Rs=>(bif(((y5.From==Rs)&&(mhas cB y5.To))&&((mgetD cB y5.To 0)==((mgetD cB ep 0)-1)))then(k (Rt++[y5.No]) y5.To)else(aH.L5 ep cB k rz5 Rt Rs))
def aH.L6(ep:Int)(cB:List (Int×Int))(i4:Nat)(k:List Int->Int->(List Int×Bool×Int)):List bj->List Int->Int->(List Int×Bool×Int)
 |[],Ee,F9=>(k Ee F9)
 |y6::rz6,Ee,F9=>(bif(((y6.From==F9)&&(mhas cB y6.To))&&((mgetD cB y6.To 0)==((((((mgetD cB ep 0)).toNat)-(i4+1)):Nat):Int)))then(k (Ee++[y6.No]) y6.To)else(aH.L6 ep cB i4 k rz6 Ee F9))
def aH.K4(Bt:List Int)(Gb:Int):(List Int×Bool×Int):=(Bt,true,0)
def aH.L4(l:List bj)(ep:Int)(bw:Int)(kind:Int)(value:Int)(mf:Int)(ah:Int)(cB:List (Int×Int))(k:List Int->Int->(List Int×Bool×Int)):List Nat->Nat->List Int->Int->(List Int×Bool×Int)
 |[],i4,Bt,Gb=>(k Bt Gb)
 |y4::rz4,i4,Bt,Gb=>((aH.L6 ep cB i4 (λzg6_16 zg6_31=>(aH.L4 l ep bw kind value mf ah cB k rz4 (i4+1) zg6_16 zg6_31))) (dj (aR (cn.mk bw kind value mf ah) l)) Bt Gb)
def aH.K1(l:List bj)(ep:Int)(bw:Int)(kind:Int)(value:Int)(mf:Int)(ah:Int)(cB:List (Int×Int)):(List Int×Bool×Int):=(bif(!(mhas cB ep))then([],false,0)else((aH.L4 l ep bw kind value mf ah cB (aH.K4)) (zD (((mgetD cB ep 0)).toNat)) 0 ([]) ep))
def aH.L1(l:List bj)(bw:Int)(kind:Int)(value:Int)(mf:Int)(ah:Int)(k:(List (Int×Int))->(List Int×Bool×Int)):List Nat->Nat->(List (Int×Int))->(List Int×Bool×Int)
 |[],i1,cB=>(k cB)
 |y1::rz1,i1,cB=>((aH.L3 i1 (λzg3_b2_0=>(aH.L1 l bw kind value mf ah k rz1 (i1+1) zg3_b2_0))) (dj (aR (cn.mk bw kind value mf ah) l)) cB)
def aH(l:List bj)(ep:Int)(to:Int)(bw:Int)(kind:Int)(value:Int)(mf:Int)(ah:Int):(List Int×Bool×Int):=(bif((lm l ep to (cn.mk bw kind value mf ah)) != 0)then([],false,(lm l ep to (cn.mk bw kind value mf ah)))else((aH.L1 l bw kind value mf ah (aH.K1 l ep bw kind value mf ah)) (zD 8) 0 (mput ([]) to 0)))
def dx.K1(bY:Int)(ey:List Int)(dU:Int)(ah:Int)(BF:Int):Int:=(bif((((!(eX bY 64))||decide (16<(ey.length:Int)))||(!(eX dU 1099511627776)))||(!(eX ah 1099511627776)))then 1 else 0)
def dx.L1(k:Int->Int):List Int->Int->Int
 |[],BF=>(k BF)
 |y1::rz1,BF=>(bif(decide (y1<=BF)||decide (1048576<y1))then 1 else(dx.L1  k rz1 y1))
def dx(l:List aG)(bY:Int)(ey:List Int)(dU:Int)(ah:Int):Int:=(bif((du l) != 0)then(du l)else((dx.L1 (dx.K1 bY ey dU ah)) ey (-1)))
def eY.K1  : List aG:=[]
def eY.L1(v1:List (eR×aG))(k:List aG):List aG->List aG
 |[]=>(k)
 |y1::rz1=>(bif((!y1.nA)&&(decide ((mgetD v1 (eR.mk y1.dz y1.jt y1.Of) (aG.mk 0 0 0 0 0 false false))=y1)))then(y1::(eY.L1 v1 k rz1))else(eY.L1 v1 k rz1))
def eY(v0:List aG)(v1:List (eR×aG)):List aG:=((eY.L1 v1 (eY.K1)) v0)
def dA.K1(l:List aG)(cB:List (eR×aG)):List aG:=(eY l cB)
def dA.L1(lx:Int)(ah:Int)(k:(List (eR×aG))->List aG):List aG->(List (eR×aG))->List aG
 |[],cB=>(k cB)
 |y1::rz1,cB=>(bif(decide (lx<y1.At)||decide (ah<y1.fX))then(dA.L1 lx ah k rz1 cB)else(bif((!(mhas cB (eR.mk y1.dz y1.jt y1.Of)))||decide ((mgetD cB (eR.mk y1.dz y1.jt y1.Of) (aG.mk 0 0 0 0 0 false false)).At<=y1.At))then(dA.L1 lx ah k rz1 (mput cB (eR.mk y1.dz y1.jt y1.Of) y1))else(dA.L1 lx ah k rz1 cB)))
def dA(l:List aG)(lx:Int)(ah:Int):List aG:=((dA.L1 lx ah (dA.K1 l)) l ([]))
def conPut(w:iu)(m:List (Int×Bool))(q:List iu):List (Int×Bool)×List iu:=bif mgetD m w.to false then(m,q)else(mput m w.to true,q++[w])
def conFill(bY:Int):List aG->List (Int×List aG)->List (Int×Bool)->List iu->List (Int×List aG)×List (Int×Bool)×List iu
 |[],f,m,q=>(f,m,q)
 |x::l,f,m,q=>bif x.Of then conFill bY l (mput f x.dz (mgetD f x.dz []++[x])) m q
  else bif x.dz==bY then conFill bY l f (conPut ⟨[x.No],x.jt⟩ m q).1 (conPut ⟨[x.No],x.jt⟩ m q).2 else conFill bY l f m q
def conStep(path:List Int):List aG->List (Int×Bool)->List iu->List (Int×Bool)×List iu
 |[],m,q=>(m,q)
 |x::l,m,q=>conStep path l (conPut ⟨path++[x.No],x.jt⟩ m q).1 (conPut ⟨path++[x.No],x.jt⟩ m q).2
def conLoop(ey:List Int)(f:List (Int×List aG)):Nat->List (Int×Bool)->List iu->List Int×Bool
 |0,_,_=>([],false)
 |_+1,_,[]=>([],false)
 |n+1,m,w::q=>bif ey.contains w.to then(w.path,true)else bif(w.path.length:Int)==8 then conLoop ey f n m q
  else conLoop ey f n (conStep w.path (mgetD f w.to []) m q).1 (conStep w.path (mgetD f w.to []) m q).2
def conFind(l:List aG)(bY:Int)(ey:List Int)(st:List aG):List Int×Bool:=
 conLoop ey (conFill bY st [] [] []).1 (l.length+1) (conFill bY st [] [] []).2.1 (conFill bY st [] [] []).2.2
def dc(l:List aG)(bY:Int)(ey:List Int)(dU:Int)(ah:Int):List Int×Bool×Int:=
 bif dx l bY ey dU ah != 0 then([],false,dx l bY ey dU ah)
 else((conFind l bY ey (dA l dU ah)).1,(conFind l bY ey (dA l dU ah)).2,0)
def yM(h:HF):List Value->List iu->Prop
 |[],[]=>True
 |v::vs,w::ws=>(∃r,v=.agg (iu.cells w r).toArray/\iu.ok h w r)/\yM h vs ws
 |_,_=>False
abbrev FR:=FRg aG.rp 78
def yP(st:List aG)(m:List (Int×Bool))(q:List iu):Prop:=(∀p∈m,p.2=true/\p.1∈st.map (·.jt))/\q.length<=m.length/\∀w∈q,w.path.length<=8
def RZ(st:List aG)(f:List (Int×List aG)):Prop:=∀k,∀x∈mgetD f k [],x∈st
def jO(c:bI)(bY:Int):Bool:=(dc c.Register.dt bY c.aP.ju c.at_ c.ah).2.1
def cU.K1  : List ai:=[]
def cU.L1(c:bI)(k:List ai):List ai->List ai
 |[]=>(k)
 |y1::rz1=>(bif((((ew c.Register.da y1.ea y1.For c.at_ c.ah).2.2.1&&(aH c.Register.eI y1.For y1.By y1.ea c.aP.Kind c.aP.Value c.at_ c.ah).2.1)&&(!(jO c y1.For)))&&(!(jO c y1.By)))then(y1::(cU.L1 c k rz1))else(cU.L1 c k rz1))
def cU(c:bI)(p:ay):List ai:=(bif(decide ((p.dM.length:Int)<=c.aP.Kind))then[]else((cU.L1 c (cU.K1)) ((ck c.Register.bO c.aP.No c.aP.At ((nthI p.cZ c.aP.Kind).gf) c.at_ c.ah).1)))
def gF(c:bI)(p:ay):List ai:=(cU c p)
def cq.K1(cG:List Int):List Int:=(slices_Compact_int (sortI cG))
def cq.L1(k:List Int->List Int):List ai->List Int->List Int
 |[],cG=>k cG
 |y1::rz1,cG=>(cq.L1 k rz1 (cG++[y1.For]))
def cq(c:bI)(p:ay):List Int:=((cq.L1 (cq.K1)) (gF c p) ([]))
def bG.K1  : Int:=(-1)
def bG.L1(f:(aD->Bool))(k:Int):List aD->Nat->Int
 |[],i1=>(k)
 |y1::rz1,i1=>(bif(f y1)then(i1:Int)else(bG.L1 f k rz1 (i1+1)))
def bG(s:List aD)(f:(aD->Bool)):Int:=((bG.L1 f (bG.K1)) s 0)
def iS(v:aD)(v0:Int):Bool:=(v.No==v0)
def fI(c:bI)(no:Int):(Except Int ay):=(bif(decide ((bG c.Register.Versions (λfh=>iS fh no))<0))then(Except.error 1)else(Except.ok ((nthI c.Register.Versions (bG c.Register.Versions (λfh=>iS fh no))).ay)))
def fC(co:Register)(aP:Int)(version:Int)(dU:Int)(ah:Int):List Int×Int:=
 bif dq co != 0 then([],dq co)else match oh co aP dU ah with
  |.error e=>([],e)
  |.ok c=>match fI c version with
   |.error e=>([],e)
   |.ok p=>(cq c p,0)
def me(t:Int):Bool:=((t != (-1))&&(!(iZ t)))
def cj(l:List av)(signed:List Int):Bool:=(((signed.length:Int)==(l.length:Int))&&(!(eJ signed me)))
def gN.K1(mv:Int):Int:=mv
def gN.L1(k:Int->Int):List Int->Int->Int
 |[],mv=>(k mv)
 |y1::rz1,mv=>(gN.L1  k rz1 (min mv y1))
def gN(x:List Int):Int:=((gN.L1 (gN.K1)) (x.drop 1) (nthI x 0))
def cY(p:e8)(tg:Int)(bD:Int):(Int×Int):=(bif(!(nthI p.done tg))then(1,(-1))else(bif(decide (0<=(nthI p.lacks tg)))then(4,(nthI p.lacks tg))else(bif(decide (0<(((mgetD p.revoked ((nthI p.shelf.docs tg).No) []).length:Nat):Int)))then(5,(gN (mgetD p.revoked ((nthI p.shelf.docs tg).No) [])))else(bif(decide (bD<(nthI p.shelf.docs tg).From))then(2,(-1))else(bif(decide ((nthI p.shelf.docs tg).qi<=bD))then(3,(-1))else(0,(-1)))))))
def insIn(cmp:Int->Int->Int):Nat->List Int->List Int
 |0,xs=>xs
 |j+1,xs=>bif decide (cmp (xs.getD (j+1) 0) (xs.getD j 0)<0)then insIn cmp j ((xs.set (j+1) (xs.getD j 0)).set j (xs.getD (j+1) 0))else xs
def insOut(cmp:Int->Int->Int):Nat->Nat->List Int->List Int
 |0,_,xs=>xs
 |m+1,i,xs=>insOut cmp m (i+1) (insIn cmp i xs)
def fB(xs:List Int)(cmp:Int->Int->Int):List Int:=insOut cmp (xs.length-1) 1 xs
def cmp_Compare_int(x:Int)(y:Int):Int:=(bif(cmp_isNaN_int x)then(bif(cmp_isNaN_int y)then 0 else(-1))else(bif(cmp_isNaN_int y)then 1 else(bif(decide (x<y))then(-1)else(bif(decide (y<x))then 1 else 0))))
def j5(a:Int)(m6:Int)(p:uk):Int:=(cmp_Compare_int (nthI p.signed a) (nthI p.signed m6))
def ft.K1  : List Int:=[]
def ft.L1(k:List Int):List Int->List Int
 |[]=>(k)
 |y1::rz1=>(y1::(ft.L1  k rz1))
def ft(v0:List Int):List Int:=((ft.L1 (ft.K1)) v0)
def ng(s:List Int):List Int:=(ft s)
def bL.K1(p:uk)(fW:List Int):List Int:=(ng (fB fW (λfh CE=>j5 fh CE p)))
def bL.L1(lx:Int)(k:List Int->List Int):List Int->Nat->List Int->List Int
 |[],i1,fW=>(k fW)
 |y1::rz1,i1,fW=>(bif(decide (0<=y1)&&decide (y1<=lx))then(bL.L1 lx k rz1 (i1+1) (fW++[(i1:Int)]))else(bL.L1 lx k rz1 (i1+1) fW))
def bL(p:uk)(lx:Int):List Int:=((bL.L1 lx (bL.K1 p)) p.signed 0 ([]))
def backL(s:List Int):Nat->List (Int×Int)
 |0=>[]
 |m+1=>((m:Int),nthI s (m:Int))::backL s m
def ke(v0:List Int):List (Int×Int):=backL v0 v0.length
def mH(s:List Int):(List (Int×Int)):=(ke s)
abbrev FRi:=FRg Rp.int 3
def playP(l:List av)(sg:List Int):e8:=⟨aI l,sg,List.replicate l.length false,List.replicate l.length 0,[]⟩
def playR(n:Nat)(sq:pj)(sb:Option Addr)(sc:Nat)(b5 b8 b9:Nat):sW:=⟨sq,sb,sc,some ⟨b5,0,none⟩,n,some ⟨b8,0,none⟩,n,b9⟩
def plL(b c d f t:Bool)(B5 B8 B9 B12 B11:Nat×Obj):LH:=
 (bif t then[B11]else[])++((bif f then[B12]else[])++((bif d then[B9]else[])++((bif c then[B8]else[])++(bif b then[B5]else[]))))
def plD(a b c d f g t:Bool):List Nat:=
 (bif t then[11]else[])++((bif g then[10]else[])++((bif f then[12]else[])++((bif d then[9]else[])++((bif c then[8]else[])++((bif b then[5]else[])++((bif a then[1]else[])++[7,6,4,3,2,0]))))))
def plM(a b c d f g t:Bool):Nat:=(bif a then 0 else 1)+(bif b then 0 else 1)+(bif c then 0 else 1)+(bif d then 0 else 1)+(bif f then 0 else 1)+(bif g then 0 else 1)+(bif t then 0 else 1)
def PlI(h:HF)(l:List av)(lb:Option Addr)(lc:Nat)(sg:List Int)(sb:Option Addr)(sc:Nat)(at_:Int)(q4:Addr)(a b c d f g t:Bool)(e:Env)(h':HF)(L:LH):Prop:=
 ((!g||(a&&b&&c&&d))&&(!t||g))=true/\h.le h'/\(e 2=.int .i64 at_/\e 4=.pointer (some q4)/\e 16=.slice lb l.length lc/\e 18=.slice sb sg.length sc/\e 20=.int .i64 (l.length:Int)/\e 23=.int .i64 (l.length:Int)) /\
 ∃(sq:pj)(b5 b8 b9 b12 b11:Nat),(a=true->e 17=.agg (iK.cells (aI l) sq).toArray/\iK.ok h' (aI l) sq)/\(b=true->e 21=.slice (some ⟨b5,0,none⟩) l.length l.length) /\
  (c=true->e 24=.slice (some ⟨b8,0,none⟩) l.length l.length)/\(d=true->e 25=.map (some b9))/\(f=true->e 7=.pointer (some ⟨b12,0,none⟩))/\(g=true->e 26=.agg (e8.cells (playP l sg) (playR l.length sq sb sc b5 b8 b9)).toArray)/\(t=true->e 27=.pointer (some ⟨b11,0,none⟩)) /\
  L.Perm (plL b c d f t (b5,.cells (List.replicate l.length (.bool false)).toArray 4 (0,0)) (b8,.cells (List.replicate l.length (.int .i64 0)).toArray 3 (0,0)) (b9,.map #[] 0) (b12,.cells (kB [.pointer none]) 153 (0,0)) (b11,.cells (e8.cells (playP l sg) (playR l.length sq sb sc b5 b8 b9)).toArray 218 (0,0)))
def plN(a b c d f g t:Bool):List Nat:=
 (bif a then[]else[1])++((bif b then[]else[5])++((bif c then[]else[8])++((bif d then[]else[9])++((bif a&&b&&c&&d&&!g then[10]else[])++((bif g&&!t then[11]else[])++((bif f then[]else[12])++(bif a&&b&&c&&d&&f&&g&&t then[13]else[])))))))
def playLack(sg:List Int)(i:Int)(p:e8)(no:Int):e8:=bif(cY p (mgetD p.shelf.at_ no 0) (nthI sg i)).1 != 0 then { p with lacks:=p.lacks.set i.toNat no }else p
def playRevoke(d:av)(p:e8)(no:Int):e8:={ p with revoked:=mput p.revoked no (mgetD p.revoked no []++[d.No]) }
def playMid(p:e8)(i:Int):e8:=(mH (nthI p.shelf.docs i).e9).foldl (λq x=>playLack p.signed i q x.2) { p with lacks:=p.lacks.set i.toNat (-1) }
def playDone(p:e8)(i:Int):e8:={ p with done:=p.done.set i.toNat true }
def playStep(p:e8)(i:Int):e8:=
 bif decide (nthI (playMid p i).lacks i<0)then(nthI p.shelf.docs i).fF.foldl (playRevoke (nthI p.shelf.docs i)) (playDone (playMid p i) i)else playDone (playMid p i) i
def cu(l:List av)(signed:List Int)(at_:Int):e8:=(bL (playP l signed) at_).foldl playStep (playP l signed)
structure Ae(h:HF)(n b5 b8 br:Nat)(P:e8)(om:Obj)(m3:List (Int×Option Addr×Nat×Nat))(Gf:LH):Prop where
 done:P.done.length=n
 lacks:P.lacks.length=n
 map:ki (jC .i64) V3 h om m3
 rev:FRi h m3 P.revoked Gf
def plB(b5 b8 br:Nat)(P:e8)(om:Obj)(Gf:LH):LH:=
 [(b5,.cells (P.done.map Value.bool).toArray 4 (0,0)),(b8,.cells (P.lacks.map (jC .i64)).toArray 3 (0,0)),(br,om)]++Gf
def bp.K1(uS:List Int):(List Int×Int):=(uS,0)
def bp.L1(l:List av)(signed:List Int)(bD:Int)(k:List Int->(List Int×Int)):List av->Nat->List Int->(List Int×Int)
 |[],i1,uS=>(k uS)
 |y1::rz1,i1,uS=>(bif((cY (cu l signed bD) (i1:Int) bD).1==0)then(bp.L1 l signed bD k rz1 (i1+1) (uS++[y1.No]))else(bp.L1 l signed bD k rz1 (i1+1) uS))
def bp(l:List av)(signed:List Int)(bD:Int):(List Int×Int):=(bif((aY l) != 0)then([],(aY l))else(bif((!(cj l signed))||(!(iZ bD)))then([],1)else((bp.L1 l signed bD (bp.K1)) l 0 ([]))))
def gY.K1(cH:List (Int×Bool)):Bool:=true
def gY.L1(k:(List (Int×Bool))->Bool):List Use->(List (Int×Bool))->Bool
 |[],cH=>(k cH)
 |y1::rz1,cH=>(bif(((((mgetD cH y1.Doc false)||(!(cC 0 4095 ([y1.Doc]))))||(!(cC 0 15 ([y1.Kind]))))||(!(cC 0 1099511627776 ([y1.Value]))))||(!(cC 0 1099511627775 ([y1.At,y1.fX]))))then false else(gY.L1  k rz1 (mput cH y1.Doc true)))
def gY(u:List Use):Bool:=((gY.L1 (gY.K1)) u ([]))
def aU.K2(nr:List Budget):List Budget:=nr
def aU.L2(cH:List (gq×Budget))(k:List Budget->List Budget):List Budget->List Budget->List Budget
 |[],nr=>(k nr)
 |y2::rz2,nr=>(bif((!y2.nA)&&(decide ((mgetD cH (gq.mk y2.Kind y2.lC) (aAf 0 0 0 0 0 0 0 false))=y2)))then(aU.L2 cH k rz2 (nr++[y2]))else(aU.L2 cH k rz2 nr))
def aU.K1(l:List Budget)(cH:List (gq×Budget)):List Budget:=((aU.L2 cH (aU.K2)) l ([]))
def aU.L1(kind:Int)(bD:Int)(ah:Int)(k:(List (gq×Budget))->List Budget):List Budget->(List (gq×Budget))->List Budget
 |[],cH=>(k cH)
 |y1::rz1,cH=>(bif((decide (bD<y1.At)||decide (ah<y1.fX))||((y1.Kind != (-1))&&(y1.Kind != kind)))then(aU.L1 kind bD ah k rz1 cH)else(bif((!(mhas cH (gq.mk y1.Kind y1.lC)))||decide ((mgetD cH (gq.mk y1.Kind y1.lC) (aAf 0 0 0 0 0 0 0 false)).At<=y1.At))then(aU.L1 kind bD ah k rz1 (mput cH (gq.mk y1.Kind y1.lC) y1))else(aU.L1 kind bD ah k rz1 cH)))
def aU(l:List Budget)(kind:Int)(bD:Int)(ah:Int):List Budget:=((aU.L1 kind bD ah (aU.K1 l)) l ([]))
def jU.K1  : List Int:=[]
def jU.L1(ah:Int)(bg:Budget)(at_:Int)(k:List Int):List Use->List Int
 |[]=>(k)
 |y1::rz1=>(bif((decide (y1.fX<=ah)&&((bg.Kind==(-1))||(bg.Kind==y1.Kind)))&&((vC .i64 (y1.At.tdiv bg.lC))==(vC .i64 (at_.tdiv bg.lC))))then(y1.Value::(jU.L1 ah bg at_ k rz1))else(jU.L1 ah bg at_ k rz1))
def jU(u:List Use)(ah:Int)(bg:Budget)(at_:Int):List Int:=((jU.L1 ah bg at_ (jU.K1)) u)
def sj(Nt:Budget)(u:List Use)(bD:Int)(ah:Int):List Int:=(jU u ah Nt bD)
def aL.L2(k:Int->Int->(Int×Bool×Int)):List Int->Int->Int->(Int×Bool×Int)
 |[],M6,M7=>k M6 M7
 |y2::rz2,M6,M7=>(aL.L2 k rz2 (vC .i64 (M6+y2)) (vC .i64 (M7+1)))
def aL.L3(k:Int->Int->(Int×Bool×Int)):List Int->Int->Int->(Int×Bool×Int)
 |[],M4,M5=>k M4 M5
 |y3::rz3,M4,M5=>(aL.L3 k rz3 (vC .i64 (M4+y3)) (vC .i64 (M5+1)))
def aL.K1  : (Int×Bool×Int):=((-1),true,0)
def aL.L1(u:List Use)(value:Int)(cL:Int)(ah:Int)(k:(Int×Bool×Int)):List Budget->(Int×Bool×Int)
 |[]=>(k)
 |y1::rz1=>((aL.L3 (λzg3_b6_0 zg3_b5_0=>(bif(decide (y1.Count<zg3_b5_0)||decide (y1.Value<zg3_b6_0))then(y1.No,false,0)else(aL.L1 u value cL ah k rz1)))) (sj y1 u cL ah) value 1)
def aL(l:List Budget)(u:List Use)(kind:Int)(value:Int)(cL:Int)(ah:Int):(Int×Bool×Int):=(bif((bC l) != 0)then(0,false,(bC l))else(bif(decide (4096<(u.length:Int)))then(0,false,2)else(bif(!(gY u))then(0,false,180)else(bif(((!(cC 0 15 ([kind])))||(!(cC 0 1099511627776 ([value]))))||(!(cC 0 1099511627775 ([cL,ah]))))then(0,false,1)else((aL.L1 u value cL ah (aL.K1)) (aU l kind cL ah))))))
def jI(d:av)(v0:bI):Bool:=(d.No==v0.aP.No)
def mq(s:List av)(f:(av->Bool)):Bool:=decide (0<=(aj s f))
def jf.K1  : Int:=(-1)
def jf.L1(v:Int)(k:Int):List Int->Nat->Int
 |[],i1=>(k)
 |y1::rz1,i1=>(bif(v==y1)then(i1:Int)else(jf.L1 v k rz1 (i1+1)))
def jf(s:List Int)(v:Int):Int:=((jf.L1 v (jf.K1)) s 0)
def fu(s:List Int)(v:Int):Bool:=decide (0<=(jf s v))
def ji(l:List av)(signed:List Int)(no:Int)(dU:Int):(Int×Int×Int):=(bif((aY l) != 0)then(0,0,(aY l))else(bif((!(cj l signed))||(!(iZ dU)))then(0,0,1)else(bif(!(mhas ((cu l signed dU).shelf.at_) no))then(0,0,1)else((cY (cu l signed dU) (mgetD ((cu l signed dU).shelf.at_) no 0) dU).1,(cY (cu l signed dU) (mgetD ((cu l signed dU).shelf.at_) no 0) dU).2,0))))
def oV(d:av)(c:bI)(signed:List Int):Bool:=(bif(!(fu d.fF c.aP.No))then false else(((ji c.Register.bV signed d.No c.at_).1 != 1)&&((ji c.Register.bV signed d.No c.at_).1 != 4)))
def pQ(c:bI)(signed:List Int):Bool:=(mq c.Register.bV (λfh=>oV fh c signed))
def fq(c:bI)(signed:List Int):Bool:=(((decide (c.at_<c.aP.At)||decide (c.aP.qi<=c.at_))||(decide (0<=(nthI signed (aj c.Register.bV (λfh=>jI fh c))))&&decide ((nthI signed (aj c.Register.bV (λfh=>jI fh c)))<=c.at_)))||(pQ c signed))
def CM(c:bI)(signed:List Int):Bool:=(fq c signed)
def pR(gj:Int)(v0:List Int):Bool:=(!(fu v0 gj))
def io(c:bI)(signed:List Int):Bool:=(eJ c.aP.e9 (λfh=>pR fh ((bp c.Register.bV signed c.at_).1)))
def CL(c:bI)(signed:List Int):Bool:=(io c signed)
def fx(gj:Int):Bool:=(decide (0<=gj)&&decide (gj<1099511627776))
def el.K1(cH:List Int):List Int:=cH
def el.L1(k:List Int->List Int):List Int->List Int->List Int
 |[],cH=>k cH
 |y1::rz1,cH=>(el.L1 k rz1 (cH++[y1]))
def el(seq:List Int):List Int:=((el.L1 (el.K1)) seq ([]))
def eA(seq:List Int):List Int:=(el seq)
def bH.K2  : (List (Int×aD)):=[]
def bH.L2(cH:List (Int×aD))(k:List (Int×aD)):List Int->(List (Int×aD))
 |[]=>(k)
 |y2::rz2=>((y2,(mgetD cH y2 (aD.mk 0 0 0 (ay.mk (⟨#[]⟩:ByteArray) [] [] [] (ao.mk 0 0 0 (⟨#[]⟩:ByteArray) []) 0))))::(bH.L2 cH k rz2))
def bH.K1(uS:Int)(cH:List (Int×aD)):(List (Int×aD)):=((bH.L2 cH (bH.K2)) (sortI (cH.map Prod.fst)))
def bH.L1(ah:Int)(ff:Int)(k:Int->(List (Int×aD))->(List (Int×aD))):List aD->Int->(List (Int×aD))->(List (Int×aD))
 |[],uS,cH=>(k uS cH)
 |y1::rz1,uS,cH=>(bif(decide (ah<y1.fX))then(bH.L1 ah ff k rz1 uS cH)else(bif(decide (y1.At<=ff))then(bif(decide (y1.At<uS))then(bH.L1 ah ff k rz1 uS cH)else(bH.L1 ah ff k rz1 y1.At (mput cH ff y1)))else(bH.L1 ah ff k rz1 uS (mput cH y1.At y1))))
def bH(l:List aD)(ah:Int)(ff:Int):(List (Int×aD)):=((bH.L1 ah ff (bH.K1)) l (-1) ([]))
def ig(l:List aD)(ep:Int)(ah:Int):(List (Int×aD)):=(bH l ah ep)
def kZ(l:List aD)(old:Bool):List aD:=l
def kY(l:List aD)(old:Bool):List aD:=(bif(!old)then[]else(l.take ((1:Int)).toNat))
def j7(l:List aD)(old:Bool):List aD:=(l.drop ((((l.length:Int)-1):Int)).toNat)
def m7  : (List (Int×Value)):=(mput (mput (mput (mput ([]) 1 (Value.func (.func 266) #[] #[])) 2 (Value.func (.func 267) #[] #[])) 3 (Value.func (.func 265) #[] #[])) 4 (Value.func (.func 265) #[] #[]))
def judgesP(mode:Int)(l:List aD)(old:Bool):List aD:=bif mode==1 then kY l old else bif mode==2 then j7 l old else kZ l old
def aN.K2(cG:List aD)(nr:List Int):(List Int×Int×Int):=((sortI nr),(nthI cG ((cG.length:Int)-1)).ay.Mode,0)
def aN.L2(k:List Int->(List Int×Int×Int)):List aD->List Int->(List Int×Int×Int)
 |[],nr=>(k nr)
 |y2::rz2,nr=>(aN.L2  k rz2 (nr++[y2.No]))
def aN.K1(eL:Bool)(cG:List aD):(List Int×Int×Int):=(bif((cG.length:Int)==0)then([],0,0)else((aN.L2 (aN.K2 cG)) (judgesP ((nthI cG ((cG.length:Int)-1)).ay.Mode) cG eL) ([])))
def aN.L1(db:Int)(bD:Int)(k:Bool->List aD->(List Int×Int×Int)):List (Int×aD)->Bool->List aD->(List Int×Int×Int)
 |[],eL,cG=>k eL cG
 |y1::rz1,eL,cG=>(bif(decide (bD<y1.1))then(k eL cG)else(aN.L1 db bD k rz1 (eL||(y1.1==db)) (cG++[y1.2])))
def aN(l:List aD)(db:Int)(bD:Int)(ah:Int):(List Int×Int×Int):=(bif((bE l) != 0)then([],0,(bE l))else(bif((((!(fx db))||(!(fx bD)))||(!(fx ah)))||decide (bD<db))then([],0,1)else((aN.L1 db bD (aN.K1)) (ig l db ah) false ([]))))
def dl.K1(cH:List cm):List cm:=cH
def dl.L1(k:List cm->List cm):List cm->List cm->List cm
 |[],cH=>k cH
 |y1::rz1,cH=>(dl.L1 k rz1 (cH++[y1]))
def dl(seq:List cm):List cm:=((dl.L1 (dl.K1)) seq ([]))
def ka(seq:List cm):List cm:=(dl seq)
def gh.K1(cH:List OSeat):List OSeat:=cH
def gh.L1(k:List OSeat->List OSeat):List OSeat->List OSeat->List OSeat
 |[],cH=>k cH
 |y1::rz1,cH=>(gh.L1 k rz1 (cH++[y1]))
def gh(seq:List OSeat):List OSeat:=((gh.L1 (gh.K1)) seq ([]))
def bZ.K1  : List cm:=[]
def bZ.L1(m:List (OSeat×aQ))(bw:Int)(k:List cm):List OSeat->List cm
 |[]=>(k)
 |y1::rz1=>(bif((y1.bw==bw)&&(!((mgetD m y1 (aQ.mk 0 0 0 0 0 0 false)).nA)))then((cm.mk ((mgetD m y1 (aQ.mk 0 0 0 0 0 0 false)).dz) ((mgetD m y1 (aQ.mk 0 0 0 0 0 0 false)).gG))::(bZ.L1 m bw k rz1))else(bZ.L1 m bw k rz1))
def bZ(m:List (OSeat×aQ))(bw:Int):List cm:=((bZ.L1 m bw (bZ.K1)) (seatS (m.map Prod.fst)))
def oB(m:List (OSeat×aQ))(bw:Int):List cm:=(bZ m bw)
def iY(l:List aQ)(bw:Int)(bD:Int)(ah:Int):(List cm×Int):=(bif((dX l) != 0)then([],(dX l))else(bif(((!(iJ bw))||(!(gQ bD)))||(!(gQ ah)))then([],1)else((ka (oB (ii l bD ah) bw)),0)))
def dQ.K1(mv:Int):Bool:=true
def dQ.L1(k:Int->Bool):List Int->Int->Bool
 |[],mv=>(k mv)
 |y1::rz1,mv=>(bif(decide (y1<=mv)||decide (64<=y1))then false else(dQ.L1  k rz1 y1))
def dQ(j9:List Int):Bool:=((dQ.L1 (dQ.K1)) j9 (-1))
def dW.L2(k:List Int->Bool):List cm->List Int->Bool
 |[],Qk=>(k Qk)
 |y2::rz2,Qk=>(bif(decide (y2.gG<1)||decide (64<y2.gG))then false else(dW.L2  k rz2 (Qk++[y2.dz])))
def dW.L3(k:List Int->Bool):List cm->List Int->Bool
 |[],Ei=>(k Ei)
 |y3::rz3,Ei=>(bif(decide (y3.gG<1)||decide (64<y3.gG))then false else(dW.L3  k rz3 (Ei++[y3.dz])))
def dW.K1(dg:List (List cm))(aE:Int):Bool:=((dg.length:Int)==aE)
def dW.L1(k:Bool):List (List cm)->Bool
 |[]=>(k)
 |y1::rz1=>((dW.L3 (λzg3_7=>(bif(!(dQ zg3_7))then false else(dW.L1  k rz1)))) y1 ([]))
def dW(dg:List (List cm))(aE:Int):Bool:=((dW.L1 (dW.K1 dg aE)) dg)
def eh.K1  : List cm:=[]
def eh.L1(q:bh)(k:List cm):List cm->List cm
 |[]=>(k)
 |y1::rz1=>(bif((slices_BinarySearch_int q.j9 y1.dz).2)then(y1::(eh.L1 q k rz1))else(eh.L1 q k rz1))
def eh(q:bh)(bw:Int):List cm:=((eh.L1 q (eh.K1)) (nthI q.dg bw))
def eT(q:bh)(bw:Int):List cm:=(eh q bw)
def fD.K1(cG:Bool):Bool:=false
def fD.L1(k:Bool->Bool):List cm->Bool->Bool
 |[],cG=>k cG
 |y1::rz1,cG=>true
def fD(q:bh)(x:ao):Bool:=((fD.L1 (fD.K1)) (eT q x.No) false)
def de.K1(x:ao)(cG:Int):Bool:=decide (x.N<=cG)
def de.L1(k:Int->Bool):List cm->Int->Bool
 |[],cG=>k cG
 |y1::rz1,cG=>(de.L1 k rz1 (vC .i64 (cG+y1.gG)))
def de(q:bh)(x:ao):Bool:=((de.L1 (de.K1 x)) (eT q x.No) 0)
def eo.K1(x:ao)(fW:Int):Bool:=decide (x.N<=fW)
def eo.L1(rec:bh->ao->Bool)(q:bh)(k:Int->Bool):List ao->Int->Bool
 |[],fW=>(k fW)
 |y1::rz1,fW=>(bif(rec q y1)then(eo.L1 rec q k rz1 (vC .i64 (fW+1)))else(eo.L1 rec q k rz1 fW))
def eo.F(rec:bh->ao->Bool)(q:bh)(x:ao):Bool:=((eo.L1 rec q (eo.K1 x)) x.L 0)
def lG.F(rec:bh->ao->Bool)(q:bh)(x:ao):Bool:=(bif(decide (q.value<=x.N))then(rec q (nthI x.L 0))else(rec q (nthI x.L 1)))
def fulQ(rec:bh->ao->Bool)(q:bh)(x:ao):Bool:=if x.Kind=1 then fD q x else if x.Kind=2 then de q x else if x.Kind=3 then eo.F rec q x else lG.F rec q x
def cS.F(rec:bh->ao->Bool)(q:bh)(x:ao):Bool:=(fulQ rec q x)
def cS.go:Nat->bh->ao->Bool
 |0=>λ_ _=>default
 |m+1=>cS.F (cS.go m)
def cS(q:bh)(x:ao):Bool:=cS.go x.dep q x
def eK(p:ay)(kind:Int)(value:Int)(dg:List (List cm))(j9:List Int):(Bool×Int):=(bif((dy p) != 0)then(false,(dy p))else(bif(((decide (kind<0)||decide ((p.dM.length:Int)<=kind))||decide (value<0))||decide (1099511627776<value))then(false,1)else(bif(!(dW dg (p.aB.length:Int)))then(false,210)else(bif(!(dQ j9))then(false,1)else((cS (bh.mk value dg j9) ((nthI p.cZ kind).ao)),0)))))
def cT.K1(c:bI)(p:ay)(j9:List Int)(Sy:List (List cm)):Bool:=((eK p c.aP.Kind c.aP.Value Sy j9).1&&((eK p c.aP.Kind c.aP.Value Sy j9).2==0))
def cT.L1(c:bI)(k:(List (List cm))->Bool):List ByteArray->Nat->(List (List cm))->Bool
 |[],i1,Sy=>(k Sy)
 |y1::rz1,i1,Sy=>(cT.L1 c k rz1 (i1+1) (Sy++[(iY c.Register.da (i1:Int) c.at_ c.ah).1]))
def cT(c:bI)(p:ay)(j9:List Int):Bool:=((cT.L1 c (cT.K1 c p j9)) p.aB 0 ([]))
def fN(mode:Int)(permits:List Bool):Int:=(bif(!(mhas m7 mode))then 270 else(bif(decide (256<(permits.length:Int)))then 1 else 0))
def eN.K1  : Int:=(-1)
def eN.L1(f:(Bool->Bool))(k:Int):List Bool->Nat->Int
 |[],i1=>(k)
 |y1::rz1,i1=>(bif(f y1)then(i1:Int)else(eN.L1 f k rz1 (i1+1)))
def eN(s:List Bool)(f:(Bool->Bool)):Int:=((eN.L1 f (eN.K1)) s 0)
def iv(l:List Bool)(ok:(Bool->Bool)):Int:=(eN l ok)
def mg(Nt:Bool):Bool:=Nt
def na(Nt:Bool):Bool:=(!Nt)
def bB.K1(permits:List Bool)(Jp:List Int):(List Int×Bool×Int):=(Jp,decide (0<=(iv permits mg)),0)
def bB.L1(k:List Int->(List Int×Bool×Int)):List Bool->Nat->List Int->(List Int×Bool×Int)
 |[],i1,Jp=>(k Jp)
 |y1::rz1,i1,Jp=>(bB.L1  k rz1 (i1+1) (Jp++[(i1:Int)]))
def bB.K2(permits:List Bool)(Ux:List Int):(List Int×Bool×Int):=(Ux,(((permits.length:Int)==1)&&(nthI permits 0)),0)
def bB.L2(k:List Int->(List Int×Bool×Int)):List Bool->Nat->List Int->(List Int×Bool×Int)
 |[],i2,Ux=>(k Ux)
 |y2::rz2,i2,Ux=>(bB.L2  k rz2 (i2+1) (Ux++[(i2:Int)]))
def bB.K3(Uv:List Int):(List Int×Bool×Int):=(Uv,false,0)
def bB.L3(k:List Int->(List Int×Bool×Int)):List Bool->Nat->List Int->(List Int×Bool×Int)
 |[],i3,Uv=>(k Uv)
 |y3::rz3,i3,Uv=>(bB.L3  k rz3 (i3+1) (Uv++[(i3:Int)]))
def bB(mode:Int)(permits:List Bool):(List Int×Bool×Int):=(bif((fN mode permits) != 0)then([],false,(fN mode permits))else(bif((mode==4)&&decide (0<=(iv permits mg)))then([(iv permits mg)],true,0)else(bif((mode==3)&&decide (0<=(iv permits na)))then([(iv permits na)],false,0)else(bif(mode==3)then((bB.L1 (bB.K1 permits)) permits 0 ([]))else(bif(mode != 4)then((bB.L2 (bB.K2 permits)) permits 0 ([]))else((bB.L3 (bB.K3)) permits 0 ([])))))))
def fK(mode:Int)(permits:List Bool):(Bool×Int):=((bB mode permits).2.1,(bB mode permits).2.2)
def askJ(c:bI):List Int×Int×Int:=aN c.Register.Versions c.aP.At c.at_ c.ah
def askP(c:bI)(no:Int):ay:=exD (fI c no)
def askWho(c:bI)(no:Int):List Int:=cq c (askP c no)
def askAns(c:bI)(no:Int):Bool:=cT c (askP c no) (askWho c no)
def askAll(c:bI):List Int:=slices_Compact_int (sortI ((askJ c).1.flatMap (askWho c)))
def gl(c:bI):Bool:=bif(askJ c).2.1==0 then false else(fK (askJ c).2.1 ((askJ c).1.map (askAns c))).1
abbrev verO(s0 b0:Int)(vb:Option Addr)(vn vc:Nat)(wb:Option Addr)(wn wc:Nat):Obj:=.cells (kB [.int .i64 s0,.int .i64 b0,.slice vb vn vc,.slice wb wn wc]) 36 (0,0)
def judgeRoom(c:bI)(r:Register)(u:List Use)(at_ ah:Int):Int×Bool×Int:=aL r.df u c.aP.Kind c.aP.Value at_ ah
def judgeC(c:bI)(r:Register)(signed:List Int)(u:List Use)(at_ ah:Int):fw:=
 bif fq c signed then⟨1,-1,[],[]⟩else bif io c signed then⟨2,-1,[],[]⟩else bif !(gl c)then⟨3,-1,(askJ c).1,askAll c⟩else
 bif !(judgeRoom c r u at_ ah).2.1 then⟨4,(judgeRoom c r u at_ ah).1,(askJ c).1,askAll c⟩else⟨0,-1,(askJ c).1,askAll c⟩
def aZ(co:Register)(signed:List Int)(u:List Use)(aP:Int)(cL:Int)(ah:Int):fw×Int:=
 bif dq co != 0 then(⟨0,0,[],[]⟩,dq co)else
 bif(bp co.bV signed 0).2 != 0 then(⟨0,0,[],[]⟩,(bp co.bV signed 0).2)else
 bif(aL co.df u 0 0 0 0).2.2 != 0 then(⟨0,0,[],[]⟩,(aL co.df u 0 0 0 0).2.2)else
 match oh co aP cL ah with
  |.error e=>(⟨0,0,[],[]⟩,e)
  |.ok c=>(judgeC c co signed u cL ah,0)
def hO.K1(fW:Int):Int:=fW
def hO.L1(rec:ao->Int->Int)(dY:Int)(k:Int->Int):List ao->Int->Int
 |[],fW=>(k fW)
 |y1::rz1,fW=>(bif(decide (fW<=dY))then(hO.L1 rec dY k rz1 (vC .i64 (fW+(rec y1 (vC .i64 (dY-fW))))))else(k fW))
def hO.F(rec:ao->Int->Int)(x:ao)(dY:Int):Int:=((hO.L1 rec dY (hO.K1)) x.L 1)
def hO.go:Nat->ao->Int->Int
 |0=>λ_ _=>default
 |m+1=>hO.F (hO.go m)
def hO(x:ao)(dY:Int):Int:=hO.go x.dep x dY
def eD.L2(k:Bool):List fg->Bool
 |[]=>(k)
 |y2::rz2=>(bif(decide (40<(hO y2.ao 40)))then false else(eD.L2  k rz2))
def eD.L3(k:Bool):List fg->Bool
 |[]=>(k)
 |y3::rz3=>(bif(decide (40<(hO y3.ao 40)))then false else(eD.L3  k rz3))
def eD.K1  : Bool:=true
def eD.L1(k:Bool):List aD->Bool
 |[]=>(k)
 |y1::rz1=>(bif(((decide (20<(y1.ay.dM.length:Int))||decide (40<(y1.ay.aB.length:Int)))||decide (20<(y1.ay.cZ.length:Int)))||decide (40<(hO y1.ay.aS 40)))then false else((eD.L3 ((eD.L1  k rz1))) y1.ay.cZ))
def eD(l:List aD):Bool:=(bif(decide (5<(l.length:Int)))then false else((eD.L1 (eD.K1)) l))
def lJ.K1  : Bool:=true
def lJ.L1(k:Bool):List av->Bool
 |[]=>(k)
 |y1::rz1=>(bif((decide (20<(y1.ju.length:Int))||decide (20<(y1.fF.length:Int)))||decide (20<(y1.e9.length:Int)))then false else(lJ.L1  k rz1))
def lJ(co:Register):Bool:=(bif((((((decide (30<(co.da.length:Int))||decide (12<(co.eI.length:Int)))||decide (12<(co.dt.length:Int)))||decide (12<(co.df.length:Int)))||decide (8<(co.bV.length:Int)))||decide (24<(co.bO.length:Int)))||(!(eD co.Versions)))then false else((lJ.L1 (lJ.K1)) co.bV))
def vY(gj:Int):Bool:=(decide (0<=gj)&&decide (gj<1099511627776))
def uJ(gj:Int):Bool:=(decide (0<=gj)&&decide (gj<32))
def uI(gj:Int):Bool:=(decide (0<=gj)&&decide (gj<64))
def nV(x:aQ):Bool:=(bif(((((decide (x.No<0)||decide (1048576<x.No))||(!(vY x.At)))||(!(vY x.fX)))||(!(uJ x.ea)))||(!(uI x.dz)))then false else(bif x.nA then(x.gG==0)else(decide (1<=x.gG)&&decide (x.gG<=64))))
def jo.K1  : Int:=0
def jo.L1(l:List aQ)(k:Int):List aQ->Nat->Int
 |[],i1=>(k)
 |y1::rz1,i1=>(bif((!(nV y1))||(decide (0<(i1:Int))&&decide (y1.No<=(nthI l ((i1:Int)-1)).No)))then 150 else(jo.L1 l k rz1 (i1+1)))
def jo(l:List aQ):Int:=(bif(decide (4096<(l.length:Int)))then 2 else((jo.L1 l (jo.K1)) l 0))
def lV(gj:Int)(low:Int)(high:Int):Bool:=(decide (low<=gj)&&decide (gj<=high))
def vX(gj:Int):Bool:=(lV gj 0 1099511627775)
def rM(gj:Int):Bool:=(lV gj 0 63)
def nU(x:bj):Bool:=(bif((((((!(lV x.No 0 1048576))||(!(vX x.At)))||(!(vX x.fX)))||(!(rM x.From)))||(!(rM x.To)))||(x.From==x.To))then false else(bif((!(lV x.ea 0 31))||(!(lV x.Kind (-1) 15)))then false else(bif x.nA then((x.qi==0)&&(x.SQ==0))else((decide (x.At<x.qi)&&decide (x.qi<=1099511627776))&&(lV x.SQ 0 1099511627776)))))
def jm.K1  : Int:=0
def jm.L1(l:List bj)(k:Int):List bj->Nat->Int
 |[],i1=>(k)
 |y1::rz1,i1=>(bif((!(nU y1))||(decide (0<(i1:Int))&&decide (y1.No<=(nthI l ((i1:Int)-1)).No)))then 160 else(jm.L1 l k rz1 (i1+1)))
def jm(l:List bj):Int:=(bif(decide (4096<(l.length:Int)))then 2 else((jm.L1 l (jm.K1)) l 0))
def vI(t:Int):Bool:=(decide (0<=t)&&decide (t<1099511627776))
def tw(gj:Int):Bool:=(decide (0<=gj)&&decide (gj<=1048576))
def uH(gj:Int):Bool:=(decide (0<=gj)&&decide (gj<64))
def nQ(x:aG):Bool:=(bif((((decide (x.No<0)||decide (1048576<x.No))||(!(vI x.At)))||(!(vI x.fX)))||(!(tw x.jt)))then false else(bif x.Of then((tw x.dz)&&(x.dz != x.jt))else(uH x.dz)))
def jj.K1  : Int:=0
def jj.L1(l:List aG)(k:Int):List aG->Nat->Int
 |[],i1=>(k)
 |y1::rz1,i1=>(bif((!(nQ y1))||(decide (0<(i1:Int))&&decide (y1.No<=(nthI l ((i1:Int)-1)).No)))then 290 else(jj.L1 l k rz1 (i1+1)))
def jj(l:List aG):Int:=(bif(decide (4096<(l.length:Int)))then 2 else((jj.L1 l (jj.K1)) l 0))
def j0(gj:Int)(least:Int)(most:Int):Bool:=(decide (least<=gj)&&decide (gj<=most))
def lU(gj:Int):Bool:=(decide (0<=gj)&&decide (gj<1099511627776))
def nT(x:Budget):Bool:=(bif(((((!(j0 x.No 0 1048576))||(!(lU x.At)))||(!(lU x.fX)))||(!(j0 x.Kind (-1) 15)))||(!(j0 x.lC 1 1099511627776)))then false else(bif x.nA then((x.Count==0)&&(x.Value==0))else((j0 x.Count 0 1048576)&&(j0 x.Value 0 1099511627776))))
def hY.K1  : Int:=0
def hY.L1(l:List Budget)(k:Int):List Budget->Nat->Int
 |[],i1=>(k)
 |y1::rz1,i1=>(bif((!(nT y1))||(decide (0<(i1:Int))&&decide (y1.No<=(nthI l ((i1:Int)-1)).No)))then 180 else(hY.L1 l k rz1 (i1+1)))
def hY(l:List Budget):Int:=(bif(decide (4096<(l.length:Int)))then 2 else((hY.L1 l (hY.K1)) l 0))
def sN(gj:Int):Bool:=(decide (0<=gj)&&decide (gj<1099511627776))
def dI.K1(fW:Int):Int:=fW
def dI.L1(rec:ao->Int->Int)(dY:Int)(k:Int->Int):List ao->Int->Int
 |[],fW=>(k fW)
 |y1::rz1,fW=>(bif(decide (fW<=dY))then(dI.L1 rec dY k rz1 (vC .i64 (fW+(rec y1 (vC .i64 (dY-fW))))))else(k fW))
def dI.F(rec:ao->Int->Int)(x:ao)(dY:Int):Int:=((dI.L1 rec dY (dI.K1)) x.L 1)
def dI.go:Nat->ao->Int->Int
 |0=>λ_ _=>default
 |m+1=>dI.F (dI.go m)
def dI(x:ao)(dY:Int):Int:=dI.go x.dep x dY
def bF.K1(mv:Int):Int:=(vC .i64 (mv+1))
def bF.L1(rec:ao->Int)(k:Int->Int):List ao->Int->Int
 |[],mv=>(k mv)
 |y1::rz1,mv=>(bF.L1 rec k rz1 (max mv (rec y1)))
def bF.F(rec:ao->Int)(x:ao):Int:=((bF.L1 rec (bF.K1)) x.L 0)
def bF.go:Nat->ao->Int
 |0=>λ_=>default
 |m+1=>bF.F (bF.go m)
def bF(x:ao):Int:=bF.go x.dep x
def lZ(x:ao):Bool:=(decide (256<(dI x 256))||decide (16<(bF x)))
def fo.K1  : Bool:=false
def fo.L1(k:Bool):List fg->Bool
 |[]=>(k)
 |y1::rz1=>(bif(lZ y1.ao)then true else(fo.L1  k rz1))
def fo(p:ay):Bool:=(bif(((decide (32<(p.aB.length:Int))||decide (16<(p.dM.length:Int)))||decide (16<(p.cZ.length:Int)))||(lZ p.aS))then true else((fo.L1 (fo.K1)) p.cZ))
def n9(c:Int):Bool:=((decide (97<=c)&&decide (c<=122))||(decide (65<=c)&&decide (c<=90)))
def uK(c:Int):Bool:=(decide (48<=c)&&decide (c<=57))
def vZ(c:Int):Bool:=(((n9 c)||(uK c))||(c==95))
def jz.K1  : Bool:=true
def jz.L1(s:ByteArray)(k:Bool):List Nat->Nat->Bool
 |[],i1=>(k)
 |y1::rz1,i1=>(bif(!(vZ ((s.data.getD ((i1:Int):Int).toNat 0).toNat:Int)))then false else(jz.L1 s k rz1 (i1+1)))
def jz(s:ByteArray):Bool:=(bif((decide ((s.size:Int)<1)||decide (32<(s.size:Int)))||(!(n9 ((s.data.getD (0:Int).toNat 0).toNat:Int))))then false else((jz.L1 s (jz.K1)) (zD s.size) 0))
def vU(s:ByteArray):Bool:=(bif(s.toList==(⟨#[112,111,108,105,99,121]⟩:ByteArray).toList)then(bif(s.toList==(⟨#[112,111,108,105,99,121]⟩:ByteArray).toList)then true else false)else(bif(s.toList==(⟨#[109,111,100,101]⟩:ByteArray).toList)then(bif(s.toList==(⟨#[109,111,100,101]⟩:ByteArray).toList)then true else false)else(bif(s.toList==(⟨#[111,108,100]⟩:ByteArray).toList)then(bif(s.toList==(⟨#[111,108,100]⟩:ByteArray).toList)then true else false)else(bif(s.toList==(⟨#[110,101,119]⟩:ByteArray).toList)then(bif(s.toList==(⟨#[110,101,119]⟩:ByteArray).toList)then true else false)else(bif(s.toList==(⟨#[98,111,116,104]⟩:ByteArray).toList)then(bif(s.toList==(⟨#[98,111,116,104]⟩:ByteArray).toList)then true else false)else(bif(s.toList==(⟨#[101,105,116,104,101,114]⟩:ByteArray).toList)then(bif(s.toList==(⟨#[101,105,116,104,101,114]⟩:ByteArray).toList)then true else false)else(bif(s.toList==(⟨#[111,102,102,105,99,101]⟩:ByteArray).toList)then(bif(s.toList==(⟨#[111,102,102,105,99,101]⟩:ByteArray).toList)then true else false)else(bif(s.toList==(⟨#[107,105,110,100]⟩:ByteArray).toList)then(bif(s.toList==(⟨#[107,105,110,100]⟩:ByteArray).toList)then true else false)else(bif(s.toList==(⟨#[114,117,108,101]⟩:ByteArray).toList)then(bif(s.toList==(⟨#[114,117,108,101]⟩:ByteArray).toList)then true else false)else(bif(s.toList==(⟨#[116,104,105,110,107]⟩:ByteArray).toList)then(bif(s.toList==(⟨#[116,104,105,110,107]⟩:ByteArray).toList)then true else false)else(bif(s.toList==(⟨#[99,104,97,110,103,101]⟩:ByteArray).toList)then(bif(s.toList==(⟨#[99,104,97,110,103,101]⟩:ByteArray).toList)then true else false)else(bif(s.toList==(⟨#[115,111,109,101]⟩:ByteArray).toList)then(bif(s.toList==(⟨#[115,111,109,101]⟩:ByteArray).toList)then true else false)else(bif(s.toList==(⟨#[119,101,105,103,104,116]⟩:ByteArray).toList)then(bif(s.toList==(⟨#[119,101,105,103,104,116]⟩:ByteArray).toList)then true else false)else(bif(s.toList==(⟨#[111,102]⟩:ByteArray).toList)then(bif(s.toList==(⟨#[111,102]⟩:ByteArray).toList)then true else false)else(bif(s.toList==(⟨#[117,112,116,111]⟩:ByteArray).toList)then(bif(s.toList==(⟨#[117,112,116,111]⟩:ByteArray).toList)then true else false)else(bif(s.toList==(⟨#[101,108,115,101]⟩:ByteArray).toList)then true else false))))))))))))))))
def pu(s:ByteArray):Bool:=((jz s)&&(!(vU s)))
def fE.K1  : Int:=(-1)
def fE.L1(s:ByteArray)(k:Int):List ByteArray->Nat->Int
 |[],i1=>(k)
 |y1::rz1,i1=>(bif(y1.toList==s.toList)then(i1:Int)else(fE.L1 s k rz1 (i1+1)))
def fE(l:List ByteArray)(s:ByteArray):Int:=((fE.L1 s (fE.K1)) l 0)
def fp.K1  : Bool:=true
def fp.L1(l:List ByteArray)(k:Bool):List ByteArray->Nat->Bool
 |[],i1=>(k)
 |y1::rz1,i1=>(bif((!(pu y1))||((fE l y1) != (i1:Int)))then false else(fp.L1 l k rz1 (i1+1)))
def fp(l:List ByteArray):Bool:=((fp.L1 l (fp.K1)) l 0)
def bT.K1  : Bool:=true
def bT.L1(rec:List ByteArray->ao->Bool)(aE:List ByteArray)(k:Bool):List ao->Bool
 |[]=>(k)
 |y1::rz1=>(bif(!(rec aE y1))then false else(bT.L1 rec aE k rz1))
def bT.F(rec:List ByteArray->ao->Bool)(aE:List ByteArray)(x:ao):Bool:=(bif(((x.Kind==1)||(x.Kind==2))&&decide ((fE aE x.Name)<0))then false else((bT.L1 rec aE (bT.K1)) x.L))
def bT.go:Nat->List ByteArray->ao->Bool
 |0=>λ_ _=>default
 |m+1=>bT.F (bT.go m)
def bT(aE:List ByteArray)(x:ao):Bool:=bT.go x.dep aE x
def iC.K1(p:ay):Bool:=(bT p.aB p.aS)
def iC.L1(p:ay)(k:Bool):List fg->Bool
 |[]=>(k)
 |y1::rz1=>(bif(!(bT p.aB y1.ao))then false else(iC.L1 p k rz1))
def iC(p:ay):Bool:=(bif(((!(pu p.Name))||(!(fp p.aB)))||(!(fp p.dM)))then false else((iC.L1 p (iC.K1 p)) p.cZ))
def aV.K1(x:ao)(upto:Bool):Bool:=(bif(x.Kind==1)then((x.N==0)&&((x.L.length:Int)==0))else(bif(x.Kind==2)then((decide (1<=x.N)&&decide (x.N<=4096))&&((x.L.length:Int)==0))else(bif(x.Kind==3)then(((((x.Name.toList==(⟨#[]⟩:ByteArray).toList)&&decide (1<=(x.L.length:Int)))&&decide ((x.L.length:Int)<=16))&&decide (1<=x.N))&&decide (x.N<=(x.L.length:Int)))else(bif(x.Kind==4)then((((upto&&(x.Name.toList==(⟨#[]⟩:ByteArray).toList))&&((x.L.length:Int)==2))&&decide (0<=x.N))&&decide (x.N<=1099511627776))else false))))
def aV.L1(rec:ao->Bool->Bool)(upto:Bool)(k:Bool):List ao->Bool
 |[]=>(k)
 |y1::rz1=>(bif(!(rec y1 upto))then false else(aV.L1 rec upto k rz1))
def aV.F(rec:ao->Bool->Bool)(x:ao)(upto:Bool):Bool:=((aV.L1 rec upto (aV.K1 x upto)) x.L)
def aV.go:Nat->ao->Bool->Bool
 |0=>λ_ _=>default
 |m+1=>aV.F (aV.go m)
def aV(x:ao)(upto:Bool):Bool:=aV.go x.dep x upto
def gv.K1(p:ay):Bool:=(aV p.aS false)
def gv.L1(p:ay)(k:Bool):List fg->Nat->Bool
 |[],i1=>(k)
 |y1::rz1,i1=>(bif((((!(y1.Kind.toList==(nthI p.dM (i1:Int)).toList))||decide (y1.gf<0))||decide (1099511627776<=y1.gf))||(!(aV y1.ao true)))then false else(gv.L1 p k rz1 (i1+1)))
def gv(p:ay):Bool:=(bif(((decide ((p.dM.length:Int)<1)||((p.cZ.length:Int) != (p.dM.length:Int)))||decide (p.Mode<1))||decide (4<p.Mode))then false else((gv.L1 p (gv.K1 p)) p.cZ 0))
def aw.K1(aE:List ByteArray)(x:ao)(nD:List ao):ao:=(ao.mk x.Kind x.N (fE aE x.Name) x.Name nD)
def aw.L1(rec:List ByteArray->ao->ao)(aE:List ByteArray)(k:List ao->ao):List ao->List ao->ao
 |[],nD=>(k nD)
 |y1::rz1,nD=>(aw.L1 rec aE k rz1 (nD++[(rec aE y1)]))
def aw.K2(x:ao)(nC:List ao):ao:=(ao.mk x.Kind x.N 0 x.Name nC)
def aw.L2(rec:List ByteArray->ao->ao)(aE:List ByteArray)(k:List ao->ao):List ao->List ao->ao
 |[],nC=>(k nC)
 |y2::rz2,nC=>(aw.L2 rec aE k rz2 (nC++[(rec aE y2)]))
def aw.F(rec:List ByteArray->ao->ao)(aE:List ByteArray)(x:ao):ao:=(bif((x.Kind==1)||(x.Kind==2))then((aw.L1 rec aE (aw.K1 aE x)) x.L ([]))else((aw.L2 rec aE (aw.K2 x)) x.L ([])))
def aw.go:Nat->List ByteArray->ao->ao
 |0=>λ_ _=>default
 |m+1=>aw.F (aw.go m)
def aw(aE:List ByteArray)(x:ao):ao:=aw.go x.dep aE x
def ef.K1(p:ay)(nE:List fg):(ay×Int):=((ay.mk p.Name p.dM p.aB nE (ao.mk ((aw p.aB p.aS).Kind) ((aw p.aB p.aS).N) ((aw p.aB p.aS).No) ((aw p.aB p.aS).Name) ((aw p.aB p.aS).L)) p.Mode),0)
def ef.L1(p:ay)(k:List fg->(ay×Int)):List fg->Nat->List fg->(ay×Int)
 |[],i1,nE=>(k nE)
 |y1::rz1,i1,nE=>(ef.L1 p k rz1 (i1+1) (nE++[(fg.mk y1.Kind (i1:Int) y1.gf (ao.mk ((aw p.aB y1.ao).Kind) ((aw p.aB y1.ao).N) ((aw p.aB y1.ao).No) ((aw p.aB y1.ao).Name) ((aw p.aB y1.ao).L)))]))
def ef(p:ay):(ay×Int):=(bif(fo p)then((ay.mk (⟨#[]⟩:ByteArray) ([]) ([]) ([]) (ao.mk 0 0 0 (⟨#[]⟩:ByteArray) ([])) 0),2)else(bif(!(iC p))then((ay.mk (⟨#[]⟩:ByteArray) ([]) ([]) ([]) (ao.mk 0 0 0 (⟨#[]⟩:ByteArray) ([])) 0),201)else(bif(!(gv p))then((ay.mk (⟨#[]⟩:ByteArray) ([]) ([]) ([]) (ao.mk 0 0 0 (⟨#[]⟩:ByteArray) ([])) 0),200)else((ef.L1 p (ef.K1 p)) p.cZ 0 ([])))))
def fL.K1  : Bool:=true
def fL.L1(m6:List ByteArray)(k:Bool):List ByteArray->Nat->Bool
 |[],i1=>(k)
 |y1::rz1,i1=>(bif(!(y1.toList==(nthI m6 (i1:Int)).toList))then false else(fL.L1 m6 k rz1 (i1+1)))
def fL(a:List ByteArray)(m6:List ByteArray):Bool:=(bif((a.length:Int) != (m6.length:Int))then false else((fL.L1 m6 (fL.K1)) a 0))
def bx.K1  : Bool:=true
def bx.L1(rec:ao->ao->Bool)(m6:ao)(k:Bool):List ao->Nat->Bool
 |[],i1=>(k)
 |y1::rz1,i1=>(bif(!(rec y1 (nthI m6.L (i1:Int))))then false else(bx.L1 rec m6 k rz1 (i1+1)))
def bx.F(rec:ao->ao->Bool)(a:ao)(m6:ao):Bool:=(bif(((((a.Kind != m6.Kind)||(a.N != m6.N))||(a.No != m6.No))||(!(a.Name.toList==m6.Name.toList)))||((a.L.length:Int) != (m6.L.length:Int)))then false else((bx.L1 rec m6 (bx.K1)) a.L 0))
def bx.go:Nat->ao->ao->Bool
 |0=>λ_ _=>default
 |m+1=>bx.F (bx.go m)
def bx(a:ao)(m6:ao):Bool:=bx.go a.dep a m6
def iU.K1  : Bool:=true
def iU.L1(m6:ay)(k:Bool):List fg->Nat->Bool
 |[],i1=>(k)
 |y1::rz1,i1=>(bif((((!(y1.Kind.toList==(nthI m6.cZ (i1:Int)).Kind.toList))||(y1.BQ != (nthI m6.cZ (i1:Int)).BQ))||(y1.gf != (nthI m6.cZ (i1:Int)).gf))||(!(bx y1.ao ((nthI m6.cZ (i1:Int)).ao))))then false else(iU.L1 m6 k rz1 (i1+1)))
def iU(a:ay)(m6:ay):Bool:=(bif((((((!(a.Name.toList==m6.Name.toList))||(a.Mode != m6.Mode))||(!(fL a.aB m6.aB)))||(!(fL a.dM m6.dM)))||((a.cZ.length:Int) != (m6.cZ.length:Int)))||(!(bx a.aS m6.aS)))then false else((iU.L1 m6 (iU.K1)) a.cZ 0))
def nS(p:ay):Int:=(bif((ef p).2 != 0)then(ef p).2 else(bif(!(iU ((ef p).1) p))then 200 else 0))
def eb.K1  : Int:=0
def eb.L1(l:List aD)(k:Int):List aD->Nat->Int
 |[],i1=>(k)
 |y1::rz1,i1=>(bif(((((decide (y1.No<0)||decide (1048576<y1.No))||(decide (0<(i1:Int))&&decide (y1.No<=(nthI l ((i1:Int)-1)).No)))||(!(sN y1.At)))||(!(sN y1.fX)))||((nS y1.ay) != 0))then 200 else(eb.L1 l k rz1 (i1+1)))
def eb(l:List aD):Int:=(bif(decide (256<(l.length:Int)))then 2 else((eb.L1 l (eb.K1)) l 0))
def qz(t:Int):Bool:=(decide (0<=t)&&decide (t<1099511627776))
def fT.K1(l:List Int):Bool:=decide ((l.length:Int)<=16)
def fT.L1(l:List Int)(dY:Int)(k:Bool):List Int->Nat->Bool
 |[],i1=>(k)
 |y1::rz1,i1=>(bif((decide (y1<0)||decide (dY<=y1))||(decide (0<(i1:Int))&&decide (y1<=(nthI l ((i1:Int)-1)))))then false else(fT.L1 l dY k rz1 (i1+1)))
def fT(l:List Int)(dY:Int):Bool:=((fT.L1 l dY (fT.K1 l)) l 0)
def nk(d:av):Bool:=(bif((((((decide (d.No<0)||decide (4096<=d.No))||(!(qz d.At)))||decide (d.Kind<0))||decide (16<=d.Kind))||decide (d.Value<0))||decide (1099511627776<d.Value))then false else(((((decide (0<=d.From)&&decide (d.From<d.qi))&&decide (d.qi<=1099511627776))&&(fT d.ju 1048577))&&(fT d.fF d.No))&&(fT d.e9 d.No)))
def gx.K1  : Int:=(-1)
def gx.L1(no:Int)(k:Int):List av->Nat->Int
 |[],i1=>(k)
 |y1::rz1,i1=>(bif(y1.No==no)then(i1:Int)else(gx.L1 no k rz1 (i1+1)))
def gx(l:List av)(no:Int):Int:=((gx.L1 no (gx.K1)) l 0)
def fS.K1  : Bool:=true
def fS.L1(l:List av)(k:Bool):List Int->Bool
 |[]=>(k)
 |y1::rz1=>(bif(decide ((gx l y1)<0))then false else(fS.L1 l k rz1))
def fS(l:List av)(nos:List Int):Bool:=((fS.L1 l (fS.K1)) nos)
def eB.K1  : Int:=0
def eB.L1(l:List av)(k:Int):List av->Nat->Int
 |[],i1=>(k)
 |y1::rz1,i1=>(bif((((!(nk y1))||(decide (0<(i1:Int))&&decide (y1.No<=(nthI l ((i1:Int)-1)).No)))||(!(fS l y1.fF)))||(!(fS l y1.e9)))then 170 else(eB.L1 l k rz1 (i1+1)))
def eB(l:List av):Int:=(bif(decide (4096<(l.length:Int)))then 2 else((eB.L1 l (eB.K1)) l 0))
def lT(gj:Int)(most:Int):Bool:=(decide (0<=gj)&&decide (gj<=most))
def vO(gj:Int):Bool:=(lT gj 1099511627775)
def BV(gj:Int):Bool:=(lT gj 4095)
def nR(x:ai):Bool:=(bif((((!(lT x.No 1048576))||(!(vO x.At)))||(!(vO x.fX)))||(!(BV x.Doc)))then false else(((lT x.By 63)&&(lT x.For 63))&&(lT x.ea 31)))
def jk.K1  : Int:=0
def jk.L1(l:List ai)(k:Int):List ai->Nat->Int
 |[],i1=>(k)
 |y1::rz1,i1=>(bif((!(nR y1))||(decide (0<(i1:Int))&&decide (y1.No<=(nthI l ((i1:Int)-1)).No)))then 280 else(jk.L1 l k rz1 (i1+1)))
def jk(l:List ai):Int:=(bif(decide (4096<(l.length:Int)))then 2 else((jk.L1 l (jk.K1)) l 0))
def nj(co:Register):Int:=(bif(((((jo co.da) != 0)||((jm co.eI) != 0))||((jj co.dt) != 0))||((hY co.df) != 0))then 300 else(bif((((eb co.Versions) != 0)||((eB co.bV) != 0))||((jk co.bO) != 0))then 300 else 0))
def eC.K1  : Int:=(-1)
def eC.L1(no:Int)(k:Int):List av->Nat->Int
 |[],i1=>(k)
 |y1::rz1,i1=>(bif(y1.No==no)then(i1:Int)else(eC.L1 no k rz1 (i1+1)))
def eC(co:Register)(no:Int):Int:=((eC.L1 no (eC.K1)) co.bV 0)
def eO.K1(l:List av)(signed:List Int):Bool:=((signed.length:Int)==(l.length:Int))
def eO.L1(k:Bool):List Int->Bool
 |[]=>(k)
 |y1::rz1=>(bif((y1 != (-1))&&(!(qz y1)))then false else(eO.L1  k rz1))
def eO(l:List av)(signed:List Int):Bool:=((eO.L1 (eO.K1 l signed)) signed)
def jg.K1  : Bool:=false
def jg.L1(Ff:Int)(k:Bool):List Int->Bool
 |[]=>(k)
 |y1::rz1=>(bif(y1==Ff)then true else(jg.L1 Ff k rz1))
def jg(l:List Int)(Ff:Int):Bool:=((jg.L1 Ff (jg.K1)) l)
def gm.K1(l:List av)(MZ:Int)(cL:Int):(Int×Int):=(bif(decide (cL<(nthI l MZ).From))then(2,(-1))else(bif(decide ((nthI l MZ).qi<=cL))then(3,(-1))else(0,(-1))))
def gm.L1(l:List av)(done:List Int)(effective:List Bool)(MZ:Int)(k:(Int×Int)):List av->Nat->(Int×Int)
 |[],i1=>(k)
 |y1::rz1,i1=>(bif(((jg done (i1:Int))&&(nthI effective (i1:Int)))&&(jg y1.fF ((nthI l MZ).No)))then(5,y1.No)else(gm.L1 l done effective MZ k rz1 (i1+1)))
def gm(l:List av)(done:List Int)(effective:List Bool)(MZ:Int)(cL:Int):(Int×Int):=(bif(!(jg done MZ))then(1,(-1))else(bif(!(nthI effective MZ))then(4,(-1))else((gm.L1 l done effective MZ (gm.K1 l MZ cL)) l 0)))
def bQ.L2(signed:List Int)(k:List Int):List Nat->Nat->List Int
 |[],i2=>(k)
 |y2::rz2,i2=>(bif(decide ((nthI signed 0)<(nthI signed (nthI ([]) (((0-(i2+1)):Nat):Int)))))then(bQ.L2 signed k rz2 (i2+1))else(k))
def bQ.L3(signed:List Int)(y1:Int)(fW:List Int)(k:Nat->List Int):List Nat->Nat->List Int
 |[],i3=>(k (i3))
 |y3::rz3,i3=>(bif(decide (y1<(nthI signed (nthI fW (((fW.length-(i3+1)):Nat):Int)))))then(bQ.L3 signed y1 fW k rz3 (i3+1))else(k (i3)))
def bQ.K1(fW:List Int):List Int:=fW
def bQ.L1(signed:List Int)(lx:Int)(k:List Int->List Int):List Int->Nat->List Int->List Int
 |[],i1,fW=>(k fW)
 |y1::rz1,i1,fW=>(bif(decide (y1<0)||decide (lx<y1))then(bQ.L1 signed lx k rz1 (i1+1) fW)else((bQ.L3 signed y1 fW (λzi3=>(bQ.L1 signed lx k rz1 (i1+1) (((fW.take (((((fW.length-zi3):Nat):Int):Int)).toNat)++[(i1:Int)])++(fW.drop (((((fW.length-zi3):Nat):Int):Int)).toNat))))) (zD fW.length) 0))
def bQ(signed:List Int)(lx:Int):List Int:=((bQ.L1 signed lx (bQ.K1)) signed 0 ([]))
def bR.L3(l:List av)(signed:List Int)(bD:Int)(k:List Int->List Int):List Nat->Nat->List Int->List Int
 |[],i3,VK=>(k VK)
 |y3::rz3,i3,VK=>(bif((gm l ((bQ signed bD).take ((0:Int)).toNat) (List.replicate l.length false) (gx l (nthI ((nthI l (nthI (bQ signed bD) 0)).e9) ((((((nthI l (nthI (bQ signed bD) 0)).e9.length)-i3):Nat):Int)-1))) (nthI signed (nthI (bQ signed bD) 0))).1 != 0)then(bR.L3 l signed bD k rz3 (i3+1) (VK.set ((nthI (bQ signed bD) 0):Int).toNat (nthI ((nthI l (nthI (bQ signed bD) 0)).e9) ((((((nthI l (nthI (bQ signed bD) 0)).e9.length)-i3):Nat):Int)-1))))else(bR.L3 l signed bD k rz3 (i3+1) VK))
def bR.L4(l:List av)(signed:List Int)(bD:Int)(i2:Nat)(y2:Int)(nr:List Bool)(k:List Int->List Int):List Nat->Nat->List Int->List Int
 |[],i4,wO=>(k wO)
 |y4::rz4,i4,wO=>(bif((gm l ((bQ signed bD).take (((i2:Int):Int)).toNat) nr (gx l (nthI ((nthI l y2).e9) ((((((nthI l y2).e9.length)-i4):Nat):Int)-1))) (nthI signed y2)).1 != 0)then(bR.L4 l signed bD i2 y2 nr k rz4 (i4+1) (wO.set (y2:Int).toNat (nthI ((nthI l y2).e9) ((((((nthI l y2).e9.length)-i4):Nat):Int)-1))))else(bR.L4 l signed bD i2 y2 nr k rz4 (i4+1) wO))
def bR.K2(nr:List Bool)(Jg:List Int):List Int:=Jg
def bR.L2(l:List av)(signed:List Int)(bD:Int)(k:List Bool->List Int->List Int):List Int->Nat->List Bool->List Int->List Int
 |[],i2,nr,Jg=>(k nr Jg)
 |y2::rz2,i2,nr,Jg=>((bR.L4 l signed bD i2 y2 nr (λzg4_9=>(bR.L2 l signed bD k rz2 (i2+1) (nr.set (y2:Int).toNat (decide ((nthI zg4_9 y2)<0))) zg4_9))) (zD ((nthI l y2).e9.length)) 0 Jg)
def bR.K1(l:List av)(signed:List Int)(bD:Int)(uR:List Int):List Int:=((bR.L2 l signed bD (bR.K2)) (bQ signed bD) 0 (List.replicate l.length false) uR)
def bR.L1(k:List Int->List Int):List av->List Int->List Int
 |[],uR=>(k uR)
 |y1::rz1,uR=>(bR.L1  k rz1 (uR++[(-1)]))
def bR(l:List av)(signed:List Int)(bD:Int):List Int:=((bR.L1 (bR.K1 l signed bD)) l ([]))
def kv.K1(l:List av)(signed:List Int)(Ec:Int)(dU:Int)(oI:List Bool):(Int×Int):=(bif((gm l (bQ signed dU) oI Ec dU).1==4)then((gm l (bQ signed dU) oI Ec dU).1,(nthI (bR l signed dU) Ec))else((gm l (bQ signed dU) oI Ec dU).1,(gm l (bQ signed dU) oI Ec dU).2))
def kv.L1(l:List av)(signed:List Int)(dU:Int)(k:List Bool->(Int×Int)):List av->Nat->List Bool->(Int×Int)
 |[],i1,oI=>(k oI)
 |y1::rz1,i1,oI=>(kv.L1 l signed dU k rz1 (i1+1) (oI++[decide ((nthI (bR l signed dU) (i1:Int))<0)]))
def kv(l:List av)(signed:List Int)(Ec:Int)(dU:Int):(Int×Int):=((kv.L1 l signed dU (kv.K1 l signed Ec dU)) l 0 ([]))
def ia.K1(uR:List Int):(List Int×Int):=(uR,0)
def ia.L1(l:List av)(signed:List Int)(bD:Int)(k:List Int->(List Int×Int)):List av->Nat->List Int->(List Int×Int)
 |[],i1,uR=>(k uR)
 |y1::rz1,i1,uR=>(bif((kv l signed (i1:Int) bD).1==0)then(ia.L1 l signed bD k rz1 (i1+1) (uR++[y1.No]))else(ia.L1 l signed bD k rz1 (i1+1) uR))
def ia(l:List av)(signed:List Int)(bD:Int):(List Int×Int):=(bif((eB l) != 0)then([],(eB l))else(bif((!(eO l signed))||(!(qz bD)))then([],1)else((ia.L1 l signed bD (ia.K1)) l 0 ([]))))
def vW(gj:Int):Bool:=(decide (0<=gj)&&decide (gj<16))
def gi.L2(u:List Use)(k:Bool):List Nat->Nat->Bool
 |[],i2=>(k)
 |y2::rz2,i2=>(bif((nthI u (i2:Int)).Doc==(nthI u 0).Doc)then false else(gi.L2 u k rz2 (i2+1)))
def gi.L3(u:List Use)(y1:Use)(k:Bool):List Nat->Nat->Bool
 |[],i3=>(k)
 |y3::rz3,i3=>(bif((nthI u (i3:Int)).Doc==y1.Doc)then false else(gi.L3 u y1 k rz3 (i3+1)))
def gi.K1  : Bool:=true
def gi.L1(u:List Use)(k:Bool):List Use->Nat->Bool
 |[],i1=>(k)
 |y1::rz1,i1=>(bif(((((!(j0 y1.Doc 0 4095))||(!(vW y1.Kind)))||(!(j0 y1.Value 0 1099511627776)))||(!(lU y1.At)))||(!(lU y1.fX)))then false else((gi.L3 u y1 ((gi.L1 u k rz1 (i1+1)))) (zD i1) 0))
def gi(u:List Use):Bool:=((gi.L1 u (gi.K1)) u 0)
def jr(x:Budget)(lx:Int)(ah:Int):Bool:=(decide (x.At<=lx)&&decide (x.fX<=ah))
def il.K1  : Bool:=true
def il.L1(l:List Budget)(tg:Int)(bD:Int)(ah:Int)(k:Bool):List Budget->Bool
 |[]=>(k)
 |y1::rz1=>(bif((((y1.Kind==(nthI l tg).Kind)&&(y1.lC==(nthI l tg).lC))&&(jr y1 bD ah))&&(decide ((nthI l tg).At<y1.At)||((y1.At==(nthI l tg).At)&&decide ((nthI l tg).No<y1.No))))then false else(il.L1 l tg bD ah k rz1))
def il(l:List Budget)(tg:Int)(bD:Int)(ah:Int):Bool:=(bif((nthI l tg).nA||(!(jr (nthI l tg) bD ah)))then false else((il.L1 l tg bD ah (il.K1)) l))
def ec.K1(uR:List Budget):List Budget:=uR
def ec.L1(l:List Budget)(Ff:Int)(bD:Int)(ah:Int)(k:List Budget->List Budget):List Budget->Nat->List Budget->List Budget
 |[],i1,uR=>(k uR)
 |y1::rz1,i1,uR=>(bif(((y1.Kind==(-1))||(y1.Kind==Ff))&&(il l (i1:Int) bD ah))then(ec.L1 l Ff bD ah k rz1 (i1+1) (uR++[y1]))else(ec.L1 l Ff bD ah k rz1 (i1+1) uR))
def ec(l:List Budget)(Ff:Int)(bD:Int)(ah:Int):List Budget:=((ec.L1 l Ff bD ah (ec.K1)) l 0 ([]))
def mX.K1(x:Budget)(oI:Int)(BF:Int):Bool:=(decide (x.Count<=oI)||decide (x.Value<BF))
def mX.L1(x:Budget)(dU:Int)(ah:Int)(k:Int->Int->Bool):List Use->Int->Int->Bool
 |[],oI,BF=>(k oI BF)
 |y1::rz1,oI,BF=>(bif((decide (y1.fX<=ah)&&((x.Kind==(-1))||(x.Kind==y1.Kind)))&&((vC .i64 (y1.At.tdiv x.lC))==(vC .i64 (dU.tdiv x.lC))))then(mX.L1 x dU ah k rz1 (vC .i64 (oI+1)) (vC .i64 (BF+y1.Value)))else(mX.L1 x dU ah k rz1 oI BF))
def mX(x:Budget)(u:List Use)(value:Int)(dU:Int)(ah:Int):Bool:=((mX.L1 x dU ah (mX.K1 x)) u 0 value)
def kt.K1  : (Int×Bool×Int):=((-1),true,0)
def kt.L1(u:List Use)(value:Int)(cL:Int)(ah:Int)(k:(Int×Bool×Int)):List Budget->(Int×Bool×Int)
 |[]=>(k)
 |y1::rz1=>(bif(mX y1 u value cL ah)then(y1.No,false,0)else(kt.L1 u value cL ah k rz1))
def kt(l:List Budget)(u:List Use)(Wl:Int)(value:Int)(cL:Int)(ah:Int):(Int×Bool×Int):=(bif((hY l) != 0)then(0,false,(hY l))else(bif(decide (4096<(u.length:Int)))then(0,false,2)else(bif(!(gi u))then(0,false,180)else(bif((((!(vW Wl))||(!(j0 value 0 1099511627776)))||(!(lU cL)))||(!(lU ah)))then(0,false,1)else((kt.L1 u value cL ah (kt.K1)) (ec l Wl cL ah))))))
def rK(gj:Int):Bool:=(decide (0<=gj)&&decide (gj<1099511627776))
def pt(co:Register)(signed:List Int)(u:List Use)(aP:Int)(cL:Int)(ah:Int):Int:=(bif((nj co) != 0)then 300 else(bif((ia co.bV signed 0).2 != 0)then(ia co.bV signed 0).2 else(bif((kt co.df u 0 0 0 0).2.2 != 0)then(kt co.df u 0 0 0 0).2.2 else(bif((decide ((eC co aP)<0)||(!(rK cL)))||(!(rK ah)))then 1 else 0))))
def rwPut(l:List sx)(x:sx):List sx:=bif l.any (λw=>w.To==x.To)then l else l++[x]
def pI.K1  : Bool:=true
def pI.L1(j9:List Int)(k:Bool):List Int->Nat->Bool
 |[],i1=>(k)
 |y1::rz1,i1=>(bif((decide (y1<0)||decide (64<=y1))||(decide (0<(i1:Int))&&decide (y1<=(nthI j9 ((i1:Int)-1)))))then false else(pI.L1 j9 k rz1 (i1+1)))
def pI(j9:List Int):Bool:=((pI.L1 j9 (pI.K1)) j9 0)
def xu(d:av)(no:Int):Int:=(cmp_Compare_int d.No no)
def aO.L2(r:Register)(at_:Int)(ah:Int)(k:Bool->List Int):List Nat->Nat->Bool->List Int
 |[],i2,Qk=>(k Qk)
 |y2::rz2,i2,Qk=>(aO.L2 r at_ ah k rz2 (i2+1) (Qk||(ew r.da (i2:Int) 0 at_ ah).2.2.1))
def aO.L3(r:Register)(at_:Int)(ah:Int)(i1:Nat)(k:Bool->List Int):List Nat->Nat->Bool->List Int
 |[],i3,Ei=>(k Ei)
 |y3::rz3,i3,Ei=>(aO.L3 r at_ ah i1 k rz3 (i3+1) (Ei||(ew r.da (i3:Int) (i1:Int) at_ ah).2.2.1))
def aO.K1  : List Int:=[]
def aO.L1(r:Register)(at_:Int)(ah:Int)(d:av)(k:List Int):List Nat->Nat->List Int
 |[],i1=>(k)
 |y1::rz1,i1=>((aO.L3 r at_ ah i1 (λzg3_7=>(bif(!zg3_7)then(aO.L1 r at_ ah d k rz1 (i1+1))else(bif(!((dc r.dt (i1:Int) d.ju at_ ah).2.1))then((i1:Int)::(aO.L1 r at_ ah d k rz1 (i1+1)))else(aO.L1 r at_ ah d k rz1 (i1+1)))))) (zD 32) 0 false)
def aO(r:Register)(at_:Int)(ah:Int)(d:av):List Int:=((aO.L1 r at_ ah d (aO.K1)) (zD 64) 0)
def gy(co:Register)(d:av)(bD:Int)(ah:Int):List Int:=(aO co bD ah d)
def ek(l:List Budget)(kind:Int)(bD:Int)(ah:Int):(List Budget×Int):=(bif((bC l) != 0)then([],(bC l))else(bif((!(cC 0 15 ([kind])))||(!(cC 0 1099511627775 ([bD,ah]))))then([],1)else((aU l kind bD ah),0)))
def uf(x:aD)(no:Int):Int:=(cmp_Compare_int x.No no)
def qs(w j9:List Int)(p:ay)(d:av)(dg:List (List cm)):Bool:=
 (eK p d.Kind d.Value dg (slices_Compact_int (sortI (j9++w)))).1&&((eK p d.Kind d.Value dg (slices_Compact_int (sortI (j9++w)))).2==0)
def gK(r:Register)(at_ ah:Int)(j:Nat):List cm:=(iY r.da (j:Int) at_ ah).1
def jX(r:Register)(d:av)(no at_ ah:Int)(w:List Int):Bool:=
 qs w (fC r d.No no at_ ah).1 (nthI r.Versions (bsPos aD.No r.Versions no)).ay d ((zD (nthI r.Versions (bsPos aD.No r.Versions no)).ay.aB.length).map (gK r at_ ah))
def oO(w:List Int)(e:Int)(vs:List (List Int->Bool))(mode:Int):Bool:=bif e != 0 then false else((fK mode (vs.map λf=>f w)).1&&((fK mode (vs.map λf=>f w)).2==0))
def gB(r:Register)(aP:Int):av:=nthI r.bV (bsPos av.No r.bV aP)
def jh(force:List Int):List Int->List Int->List Int
 |[],g=>g
 |y::s,g=>jh force s (bif !(fu force y)then g++[y]else g)
def iH(u:List Use)(d:av)(at_ ah:Int):List Budget->List Int->List Int
 |[],g=>g
 |b::s,g=>iH u d at_ ah s (bif !((aL [b] u d.Kind d.Value at_ ah).2.1)then g++[b.No]else g)
def iT(r:Register)(signed:List Int)(u:List Use)(aP at_ ah:Int)(d:av):QP:=
  ⟨(aZ r signed u aP at_ ah).1.State==1,eA (gy r d at_ ah),jh (bp r.bV signed at_).1 d.e9 [],iH u d at_ ah (ek r.df d.Kind at_ ah).1 [],
   λw=>oO w (aN r.Versions d.At at_ ah).2.2 ((aN r.Versions d.At at_ ah).1.map λno=>jX r d no at_ ah) (aN r.Versions d.At at_ ah).2.1⟩
def im(r:Register)(signed:List Int)(u:List Use)(aP at_ ah:Int):QP×Int:=
 bif(aZ r signed u aP at_ ah).2 != 0 then(⟨false,[],[],[],λ_=>false⟩,(aZ r signed u aP at_ ah).2)else(iT r signed u aP at_ ah (gB r aP),0)
structure wE(r:Register)(aP at_ ah:Int):Prop where
 docs:r.bV.Pairwise λa b=>a.No<b.No
 din:bsPos av.No r.bV aP<r.bV.length
 vers:r.Versions.Pairwise λa b=>a.No<b.No
 vin:∀no∈(aN r.Versions (gB r aP).At at_ ah).1,bsPos aD.No r.Versions no<r.Versions.length/\(nthI r.Versions (bsPos aD.No r.Versions no)).ay.aB.length<=1000/\(fC r (gB r aP).No no at_ ah).1.length<=1000000
 vlen:(aN r.Versions (gB r aP).At at_ ah).1.length<=1000000
 flen:(gy r (gB r aP) at_ ah).length<=1000000
 nlen:(gB r aP).e9.length<=1000000
 slen:(ek r.df (gB r aP).Kind at_ ah).1.length<=1000000
def bo.K1(Jp:List eQ):List eQ:=Jp
def bo.L1(kind:Int)(k:List eQ->List eQ):List Int->List eQ->List eQ
 |[],Jp=>(k Jp)
 |y1::rz1,Jp=>(bo.L1 kind k rz1 (Jp++[(eQ.mk kind y1)]))
def bo(kind:Int)(l:List Int):List eQ:=((bo.L1 kind (bo.K1)) l ([]))
def kI(q:QP)(w:List Int):List eQ:=bo 1 w++bo 2 q.needs++bo 3 q.over
def mT(aP:Int)(q:QP)(e:Int):List eQ×Bool×Int:=
 bif e != 0 then([],false,e)else bif decide (12<(q.free.length:Int))then([],false,2)else bif q.closed then(bo 4 [aP],false,0)else
  match(iX q.free).find? q.decides with
  |some w=>(kI q w,true,0)
  |none=>([],false,0)
def bN(r:Register)(signed:List Int)(u:List Use)(aP at_ ah:Int):List eQ×Bool×Int:=mT aP (im r signed u aP at_ ah).1 (im r signed u aP at_ ah).2
def iN.K1  : Int:=(-1)
def iN.L1(v:eQ)(k:Int):List eQ->Nat->Int
 |[],i1=>(k)
 |y1::rz1,i1=>(bif(decide (v=y1))then(i1:Int)else(iN.L1 v k rz1 (i1+1)))
def iN(s:List eQ)(v:eQ):Int:=((iN.L1 v (iN.K1)) s 0)
def nh(s:List eQ)(v:eQ):Bool:=decide (0<=(iN s v))
def fH(gj:Int)(v0:List eQ)(v1:Int):Bool:=(nh v0 (eQ.mk v1 gj))
def pK(gj:Int)(v0:(Int->Bool)):Bool:=(!(v0 gj))
def gg(s:List Int)(del:Int->Bool):List Int:=s.filter λx=>!(del x)
def kO(p:Int)(v0:(Int->Bool)):Bool:=(!(v0 p))
def ly(l:List eQ)(k:Int)(list:List Int):Bool:=eJ list (λn=>pK n (λn=>fH n l k))
def nM(q:QP)(e:Int)(l:List eQ):Bool×Int:=
 bif(e != 0||q.closed)then(false,e)else bif(ly l 2 q.needs||ly l 3 q.over)then(false,0)else(q.decides (gg q.free (λp=>kO p (λn=>fH n l 1))),0)
def ma(r:Register)(signed:List Int)(u:List Use)(aP at_ ah:Int)(l:List eQ):Bool×Int:=nM (im r signed u aP at_ ah).1 (im r signed u aP at_ ah).2 l
def Ea(kind:Int)(Ff:Int):eQ:=(eQ.mk kind Ff)
abbrev lsz0:ByteArray:=⟨#[104,111,117,115,101]⟩
abbrev lsz1:ByteArray:=⟨#[108,101,116,116,101,114]⟩
abbrev lsz2:ByteArray:=⟨#[98,111,97,114,100]⟩
abbrev lszx:ao:=ao.mk 2 2 0 lsz2 ([])
abbrev lszp:ay:=ay.mk lsz0 ([lsz1]) ([lsz2]) ([(fg.mk lsz1 0 0 lszx)]) lszx 2
abbrev lszq:ay:=(ef lszp).1
def cA.K2(lF:List aQ)(oo:List ai):Register:=(Register.mk lF ([]) ([]) ([]) ([(aD.mk 0 0 0 lszq)]) ([(av.mk 5 0 0 0 0 1099511627776 ([]) ([]) ([]) (λ_=>0))]) oo)
def cA.L2(k:List ai->Register):List Int->Nat->List ai->Register
 |[],i2,oo=>(k oo)
 |y2::rz2,i2,oo=>(cA.L2  k rz2 (i2+1) (oo++[(ai.mk (i2:Int) 0 0 5 y2 y2 0 false)]))
def cA.K1(j9:List Int)(lF:List aQ):Register:=((cA.L2 (cA.K2 lF)) j9 0 ([]))
def cA.L1(k:List aQ->Register):List Nat->Nat->List aQ->Register
 |[],i1,lF=>(k lF)
 |y1::rz1,i1,lF=>(cA.L1  k rz1 (i1+1) (lF++[(aQ.mk (i1:Int) 0 0 0 (((i1+1):Nat):Int) 1 false)]))
def cA(j9:List Int):Register:=((cA.L1 (cA.K1 j9)) (zD 3) 0 ([]))
def mr.K1  : Bool:=true
def mr.L1(m6:List eQ)(k:Bool):List eQ->Nat->Bool
 |[],i1=>(k)
 |y1::rz1,i1=>(bif(!(decide (y1=(nthI m6 (i1:Int)))))then false else(mr.L1 m6 k rz1 (i1+1)))
def mr(a:List eQ)(m6:List eQ):Bool:=(bif((a.length:Int) != (m6.length:Int))then false else((mr.L1 m6 (mr.K1)) a 0))
def wg(co:Register)(signed:Int)(want:List eQ):Bool:=((((bN co ([signed]) ([]) 5 9 9).2.2==0)&&((bN co ([signed]) ([]) 5 9 9).2.1==decide (signed<0)))&&(mr ((bN co ([signed]) ([]) 5 9 9).1) want))
def Dd:Bool:=true
def lI.K1  : Bool:=true
def lI.L1(k:Bool):List aQ->Bool
 |[]=>(k)
 |y1::rz1=>(bif(decide (5<y1.dz))then false else(lI.L1  k rz1))
def lI(co:Register)(signed:List Int)(u:List Use):Bool:=(bif(((!(lJ co))||decide (20<(signed.length:Int)))||decide (30<(u.length:Int)))then false else((lI.L1 (lI.K1)) co.da))
def jp(co:Register)(signed:List Int)(u:List Use)(aP:Int)(cL:Int)(ah:Int):Bool:=((lI co signed u)&&((pt co signed u aP cL ah)==0))
def jY(a:ai)(no:Int):Int:=(cmp_Compare_int a.No no)
def dG(l:List ai)(x:ai):List ai×Int:=bif aX l != 0 then([],aX l)else bif !(eu x)then([],280)else bif l.any (λy=>y.No==x.No)then([],151)else bif(l.length:Int)==4096 then([],2)else(l.takeWhile (λy=>decide (y.No<x.No))++x::l.dropWhile (λy=>decide (y.No<x.No)),0)
theorem wrap64{z:Int}(h:-9223372036854775808<=z/\z<=9223372036854775807):IntKind.i64.wrap z=z:=by
 have:=kW h;injection this
theorem ao.eta(x:ao):ao.mk x.Kind x.N x.No x.Name x.L=x:=by cases x;rfl
theorem ao.ind{P:ao->Prop}(h:∀x,(∀y∈x.L,P y)->P x)(x:ao):P x:=by
 have key:∀n(x:ao),x.dep<=n->P x:=by
  intro n
  induction n with
  |zero=>intro x hx;have:=ao.np x;omega
  |succ n ih=>intro x hx;exact h x λy hy=>ih y (by have:=ao.lB hy;omega)
 exact key _ x (xE _)
theorem Om(k:List gu):∀l,aT.L3 k l=l++k
 |[]=>rfl
 |y::l=>by simp[aT.L3,Om k l]
theorem On(rec:ao->Int->List gu)(d:Int):∀l,aT.L1 rec d [] l=l.flatMap (λy=>rec y (d+1))
 |[]=>rfl
 |y::l=>by simp[aT.L1,Om,On rec d l]
theorem MI(rec:ao->Int->List gu)(x:ao)(d:Int):aT.F rec x d=⟨x,d⟩::x.L.flatMap (λy=>rec y (d+1)):=by
 simp[aT.F,aT.K1,On,ao.eta]
theorem Dj{α β : Type}{f g:α->List β}:∀{l:List α},(∀y∈l,f y=g y)->l.flatMap f=l.flatMap g
 |[],_=>rfl
 |y::l,h=>by
  rw[List.flatMap_cons,List.flatMap_cons,h y (xB ..),Dj λz hz=>h z (qC _ hz)]
theorem Ol(m:Nat):∀(x:ao)(d:Int),x.dep<=m->aT.go m x d=bz x d:=by
 induction m using Nat.strongRecOn with
 |_ m ih=>
  intro x d hx
  unfold bz
  have hp:=ao.np x
  obtain⟨m',rfl⟩:∃m',m=m'+1:=⟨m-1,by omega⟩
  obtain⟨n,hn⟩:∃n,x.dep=n+1:=⟨x.dep-1,by omega⟩
  rw[hn]
  show aT.F (aT.go m') x d=aT.F (aT.go n) x d
  rw[MI,MI]
  congr 1
  refine Dj λy hy=>?_
  have:=ao.lB hy
  grind
theorem py(x:ao)(d:Int):bz x d=⟨x,d⟩::x.L.flatMap (λy=>bz y (d+1)):=by
 have hp:=ao.np x
 obtain⟨n,hn⟩:∃n,x.dep=n+1:=⟨x.dep-1,by omega⟩
 rw[←Ol x.dep x d (xE _),hn]
 show aT.F (aT.go n) x d=_
 rw[MI]
 congr 1
 exact Dj λy hy=>Ol n y _ (by have:=ao.lB hy;omega)
theorem Ls(Q:ao->Prop)(x:ao):∀d d',(∀z∈bz x d,Q z.x)->∀z∈bz x d',Q z.x:=by
 refine ao.ind (P:=λx=>∀d d',(∀z∈bz x d,Q z.x)->∀z∈bz x d',Q z.x) ?_ x
 intro x ih d d' h z hz
 rw[py]at h hz
 rcases kC.1 hz with rfl|hz
 .exact h ⟨x,d⟩ (xB ..)
 .obtain⟨y,hy,hz⟩:=List.mem_flatMap.1 hz
  exact ih y hy (d+1) (d'+1) (λz' hz'=>h z' (qC _ (List.mem_flatMap.2 ⟨y,hy,hz'⟩))) z hz
theorem tb(Q:ao->Prop)(x:ao)(d:Int):(∀z∈bz x d,Q z.x)↔Q x/\∀y∈x.L,∀z∈bz y d,Q z.x:=by
 constructor
 .intro h
  rw[py]at h
  exact⟨h ⟨x,d⟩ (xB ..),λy hy=>Ls Q y (d+1) d λz hz=>h z (qC _ (List.mem_flatMap.2 ⟨y,hy,hz⟩))⟩
 .rintro⟨h1,h2⟩ z hz
  rw[py]at hz
  rcases kC.1 hz with rfl|hz
  .exact h1
  .obtain⟨y,hy,hz⟩:=List.mem_flatMap.1 hz
   exact Ls Q y d (d+1) (h2 y hy) z hz
def NZ(x:Except Int Unit):Prop:=∀e,x=.error e->e≠0
theorem NZ.ok:NZ (.ok ()):=λ_ h=>by cases h
theorem NZ.must(he:e≠0):NZ (fA c e):=λe' h=>by
 grind [fA]
theorem NZ.exi(hx:NZ x)(hf:NZ (f ())):NZ (Sg.exi x f):=by
 cases x with
 |ok u=>exact hf
 |error e=>exact λe' h=>hx e' h
theorem LV(h:NZ x):attR x=0↔x=.ok ():=by
 cases x with
 |ok u=>simp[attR]
 |error e=>simp only[attR,reduceCtorEq,iff_false];exact h e rfl
theorem tc:exi (fA c e) f=.ok ()↔c=true/\f ()=.ok ():=by grind [fA,exi]
theorem O6(p:ay):∀(l:List fg)(g:List ao),aJ.L1 (aJ.K1 p) l g=g++(l.map (·.ao)++[p.aS])
 |[],g=>by simp[aJ.L1,aJ.K1]
 |y::l,g=>by simp[aJ.L1,O6 p l]
theorem oS(p:ay):aJ p=p.cZ.map (·.ao)++[p.aS]:=by
 unfold aJ;rw[O6];simp
theorem NV(k:Int->Except Int Unit)(hk:∀a b,k a=k b):∀(l:List gu)(g:Int),0<=g->g<=256->(dh.L3 k l g=.ok ()↔(g+l.length<=256/\∀z∈l,z.depth<=16)/\k 0=.ok ())
 |[],g,h0,h1=>by simp only[dh.L3,hk g 0,jB,jA];simp;omega
 |y::l,g,h0,h1=>by
  simp only[dh.L3,tc,zB,decide_eq_true_eq,wrap64 (z:=g+1) (by omega),xA,kC]
  by_cases h:g+1<=256
  .rw[NV k hk l (g+1) (by omega) h]
   grind
  .grind
theorem NW:∀(l:List ao),dh.L1 (.ok ()) l=.ok ()↔∀x∈l,(bz x 1).length<=256/\∀z∈bz x 1,z.depth<=16
 |[]=>by simp[dh.L1]
 |y::l=>by
  simp only[dh.L1]
  rw[NV _ (λ_ _=>rfl) _ 0 (by omega) (by omega),NW l]
  grind
theorem DG(p:ay):dh p=.ok ()↔(p.aB.length<=32/\p.dM.length<=16/\p.cZ.length<=16)/\∀x∈aJ p,(bz x 1).length<=256/\∀z∈bz x 1,z.depth<=16:=by
 unfold dh dh.K1
 rw[tc,NW]
 grind
theorem Ty(p:ay):NZ (dh p):=by
 have h3:∀(k:Int->Except Int Unit),(∀a,NZ (k a))->∀l g,NZ (dh.L3 k l g):=by
  intro k hk l
  induction l with
  |nil=>exact λg=>hk g
  |cons y l ih=>exact λg=>NZ.exi (NZ.must (by omega)) (ih _)
 have h1:∀l,NZ (dh.L1 (.ok ()) l):=by
  intro l
  induction l with
  |nil=>exact NZ.ok
  |cons y l ih=>exact h3 _ (λ_=>ih) _ _
 exact NZ.exi (NZ.must (by omega)) (h1 _)
theorem Ow(p:ay)(k:Except Int Unit):∀l,di.L3 p k l=.ok ()↔(∀z∈l,((!(dH z.x))||dK p.aB z.x.Name)=true)/\k=.ok ()
 |[]=>by simp[di.L3]
 |y::l=>by simp only[di.L3,tc,Ow p k l,kC,forall_eq_or_imp,and_assoc]
theorem Ox(p:ay):∀l,di.L1 p (.ok ()) l=.ok ()↔∀x∈l,∀z∈bz x 1,((!(dH z.x))||dK p.aB z.x.Name)=true
 |[]=>by simp[di.L1]
 |y::l=>by simp only[di.L1,Ow,Ox p l,kC,forall_eq_or_imp]
theorem IM(p:ay):di p=.ok ()↔(fM p.Name=true/\bX p.aB fM=true/\bX p.dM fM=true)/\∀x∈aJ p,∀z∈bz x 1,((!(dH z.x))||dK p.aB z.x.Name)=true:=by
 unfold di di.K1
 rw[tc,Ox]
 simp only[zB,and_assoc]
theorem T8(p:ay):NZ (di p):=by
 have h3:∀(k:Except Int Unit),NZ k->∀l,NZ (di.L3 p k l):=by
  intro k hk l
  induction l with
  |nil=>exact hk
  |cons y l ih=>exact NZ.exi (NZ.must (by omega)) ih
 have h1:∀l,NZ (di.L1 p (.ok ()) l):=by
  intro l
  induction l with
  |nil=>exact NZ.ok
  |cons y l ih=>exact h3 _ ih _
 exact NZ.exi (NZ.must (by omega)) (h1 _)
theorem RC(p:ay)(i:Nat)(k:Except Int Unit):∀l,bu.L4 p i k l=.ok ()↔(∀z∈l,(ba z.x.Kind 1 4&&kindsP z.x.Kind z.x)=true/\(decide ((i:Int)<IntKind.i64.wrap (((aJ p).length:Int)-1))||(z.x.Kind != 4))=true)/\k=.ok ()
 |[]=>by simp[bu.L4]
 |y::l=>by simp only[bu.L4,tc,RC p i k l,kC,forall_eq_or_imp,and_assoc]
theorem Hm(p:ay):∀l i,bu.L2 p (.ok ()) l i=.ok ()↔∀j x,l[j]? = some x->∀z∈bz x 1,(ba z.x.Kind 1 4&&kindsP z.x.Kind z.x)=true/\(decide (((i+j:Nat):Int)<IntKind.i64.wrap (((aJ p).length:Int)-1))||(z.x.Kind != 4))=true
 |[],i=>by simp[bu.L2]
 |y::l,i=>by
  simp only[bu.L2]
  rw[RC,Hm p l (i+1)]
  constructor
  .grind
  .intro h
   refine⟨λz hz=>h 0 y rfl z hz,λj x hj z hz=>?_⟩
   have:=h (j+1) x (by simpa using hj) z hz
   grind
theorem Ew(p:ay)(k:Except Int Unit):∀l i,bu.L1 p k l i=.ok ()↔(∀j r,l[j]? = some r->((r.Kind.toList==(nthI p.dM (((i+j:Nat):Int))).toList)&&ba r.gf 0 1099511627775)=true)/\k=.ok ()
 |[],i=>by simp[bu.L1]
 |y::l,i=>by
  simp only[bu.L1]
  rw[tc,Ew p k l (i+1)]
  constructor
  .grind
  .rintro⟨h,h3⟩
   refine⟨h 0 y rfl,λj r hj=>?_,h3⟩
   have:=h (j+1) r (by simpa using hj)
   grind
theorem VN(p:ay):NZ (bu p):=by
 have h4:∀i(k:Except Int Unit),NZ k->∀l,NZ (bu.L4 p i k l):=by
  intro i k hk l
  induction l with
  |nil=>exact hk
  |cons y l ih=>exact NZ.exi (NZ.must (by omega)) (NZ.exi (NZ.must (by omega)) ih)
 have h2:∀l i,NZ (bu.L2 p (.ok ()) l i):=by
  intro l
  induction l with
  |nil=>exact λ_=>NZ.ok
  |cons y l ih=>exact λi=>h4 i _ (ih _) _
 have h1:∀l i,NZ (bu.L1 p (bu.K1 p) l i):=by
  intro l
  induction l with
  |nil=>exact λ_=>h2 _ _
  |cons y l ih=>exact λi=>NZ.exi (NZ.must (by omega)) (ih _)
 exact NZ.exi (NZ.must (by omega)) (h1 _ _)
theorem FU(p:ay):NZ (eU p):=
 NZ.exi (Ty p) (NZ.exi (T8 p) (NZ.exi (VN p) NZ.ok))
theorem Qn:exi x f=.ok ()↔x=.ok ()/\f ()=.ok ():=by
 cases x with
 |ok u=>simp[exi]
 |error e=>simp[exi]
theorem wU(p:ay):eU p=.ok ()↔dh p=.ok ()/\di p=.ok ()/\bu p=.ok ():=by grind [eU,Qn]
theorem Ob(p:ay):(eG p).2=attR (eU p):=by
 have hL:∀l i g,(eG.L1 p (eG.K1 p) l i g).2=0:=by
  intro l
  induction l with
  |nil=>exact λ_ _=>rfl
  |cons y l ih=>exact λi g=>ih _ _
 grind [eG,attR]
theorem Pl(p:ay)(k:Int):∀l i,dy.L1 p k l i=0↔(∀j r,l[j]? = some r->r.BQ=((i+j:Nat):Int)/\cJ p.aB r.ao=true)/\k=0
 |[],i=>by simp[dy.L1]
 |y::l,i=>by
  simp only[dy.L1,Bool.cond_eq_ite]
  split
  .grind
  .next h=>
   simp only[kD,bne_iff_ne,kE,not_or,Decidable.not_not,Bool.not_eq_false]at h
   rw[Pl p k l (i+1)]
   constructor
   .grind
   .rintro⟨h1,h2⟩
    refine⟨λj r hj=>?_,h2⟩
    have:=h1 (j+1) r (by simpa using hj)
    grind
theorem EH(p:ay):dy p=0↔eU p=.ok ()/\(∀(j:Nat)r,p.cZ[j]? = some r->r.BQ=(j:Int)/\cJ p.aB r.ao=true)/\cJ p.aB p.aS=true:=by
 unfold dy
 rw[Ob]
 by_cases h:attR (eU p)=0
 .have h2:=(LV (FU p)).1 h
  have hk:dy.K1 p=0↔cJ p.aB p.aS=true:=by
   grind [dy.K1]
  rw[show(attR (eU p) != 0)=false from by simpa using h,cond_false,Pl,hk]
  simp only[Nat.zero_add,h2,true_and]
 .grind [LV,FU,attR]
theorem UX{x:Bool}:(bif c then false else x)=true↔c=false/\x=true:=by cases c<;>simp
theorem tv(off:List ByteArray):∀l,cJ.L1 off true l=true↔∀z∈l,z.x.No=(bif dH z.x then bq off z.x.Name else 0)
 |[]=>by simp[cJ.L1]
 |y::l=>by
  simp only[cJ.L1,kC,forall_eq_or_imp]
  cases dH y.x with
  |true=>
   rw[cond_true,cond_true,UX,tv off l];simp
  |false=>
   rw[cond_false,cond_false,UX,tv off l];simp
theorem OT(v:ByteArray):∀(l:List ByteArray)(i:Nat),bq.L1 v (-1) l i=-1\/((i:Int)<=bq.L1 v (-1) l i/\bq.L1 v (-1) l i<((i+l.length:Nat):Int))
 |[],i=>.inl rfl
 |y::l,i=>by
  simp only[bq.L1,Bool.cond_eq_ite,xA]
  split
  .right;omega
  .rcases OT v l (i+1)with h|h
   .exact .inl h
   .right;omega
theorem Uh(l:List ByteArray)(v:ByteArray):bq l v<(l.length:Int):=by grind [bq,bq.K1,OT]
theorem Ch(hc:dy p=0):p.cZ.length=p.dM.length/\p.aB.length<=32/\(∀x∈aJ p,OkX (p.aB.length:Int) x):=by
 obtain⟨h1,h2,h3⟩:=(EH p).1 hc
 obtain⟨hs,hn,hf⟩:=(wU p).1 h1
 have hf':=hf
 unfold bu at hf
 rw[tc,Ew]at hf
 simp only[zB,decide_eq_true_eq,beq_iff_eq]at hf
 obtain⟨⟨⟨_,hlen⟩,hmode⟩,hrules,hK⟩:=hf
 unfold bu.K1 bu.K2 at hK
 rw[Hm]at hK
 obtain⟨⟨ho,_,_⟩,_⟩:=(DG p).1 hs
 obtain⟨_,hnm⟩:=(IM p).1 hn
 refine⟨by omega,ho,λx hx=>?_⟩
 have hres:∀z∈bz x 1,z.x.No=(bif dH z.x then bq p.aB z.x.Name else 0):=by
  have hr:cJ p.aB x=true:=by
   rw[oS]at hx
   rcases kF.1 hx with hx|hx
   .obtain⟨r,hr,rfl⟩:=xJ.1 hx
    obtain⟨j,hj⟩:=YV hr
    exact(h2 j r hj).2
   .rw[xC.1 hx];exact h3
  all_goals grind [cJ,cJ.K1,tv]
 obtain⟨j,hj⟩:=YV hx
 have hfm:=λz hz=>(hK j x hj z hz).1
 have hnx:=hnm x hx
 clear hK hnm hj
 let Q:ao->Prop:=λx=>(1<=x.Kind/\x.Kind<=4)/\(x.Kind<=2->0<=x.No/\x.No<(p.aB.length:Int))/\(x.Kind=4->x.L.length=2)
 have all:∀z∈bz x 1,(λx:ao=>(1<=x.Kind/\x.Kind<=4)/\(x.Kind<=2->0<=x.No/\x.No<(p.aB.length:Int))/\(x.Kind=4->x.L.length=2)) z.x:=by
  intro z hz
  have a:=hfm z hz
  have b:=hnx z hz
  have c:=hres z hz
  simp only[zB,ba,decide_eq_true_eq]at a
  refine⟨a.1,λhk=>?_,λhk=>?_⟩
  .have hnamed:dH z.x=true:=by
    have:z.x.Kind=1\/z.x.Kind=2:=by omega
    rcases this with e|e<;>simp[dH,e]
   simp only[hnamed,Bool.not_true,Bool.false_or,cond_true]at b c
   have hge:0<=bq p.aB z.x.Name:=by
    have h9:=b
    simp only[dK,decide_eq_true_eq,ge_iff_le]at h9
    exact h9
   have:=Uh p.aB z.x.Name
   omega
  .have h9:=a.2
   rw[hk]at h9
   simp only[kindsP]at h9
   simp[kx]at h9
   omega
 clear hfm hnx hres hx
 revert all
 refine ao.ind (P:=λx=>(∀z∈bz x 1,Q z.x)->OkX (p.aB.length:Int) x) ?_ x
 intro x ih all
 rw[tb Q]at all
 obtain⟨⟨a,b,c⟩,d⟩:=all
 exact OkX.mk x a b c λy hy=>ih y hy (d y hy)
theorem JP(hc:dy p=0):(1<=p.Mode/\p.Mode<=4)/\p.cZ.length<=16/\∀r∈p.cZ,0<=r.gf/\r.gf<=1099511627775:=by
 obtain⟨h1,_,_⟩:=(EH p).1 hc
 obtain⟨hs,_,hf⟩:=(wU p).1 h1
 unfold bu at hf
 rw[tc,Ew]at hf
 simp only[zB,ba,decide_eq_true_eq]at hf
 obtain⟨⟨⟨_,_⟩,hmode⟩,hrules,_⟩:=hf
 obtain⟨⟨_,_,hr⟩,_⟩:=(DG p).1 hs
 refine⟨hmode,hr,λr hr=>?_⟩
 obtain⟨j,hj⟩:=YV hr
 exact(hrules j r hj).2
theorem Jw{r:fg}(h:r∈p.cZ):r.ao∈aJ p:=by grind [oS]
theorem Lq:∀(l:List Int)(g:Int),dQ.L1 dQ.K1 l g=true↔(∀x∈l,g<x/\x<64)/\l.Pairwise (·<·)
 |[],g=>by simp[dQ.L1,dQ.K1]
 |y::l,g=>by
  simp only[dQ.L1,Bool.cond_eq_ite,kD,decide_eq_true_eq]
  split
  .next h=>
   constructor
   .intro h';cases h'
   .rintro⟨h1,_⟩;have:=h1 y (xB ..);omega
  .next h=>
   rw[Lq l y,List.pairwise_cons]
   simp only[kC,forall_eq_or_imp]
   constructor
   .rintro⟨h1,h2⟩
    exact⟨⟨by omega,λx hx=>by have:=h1 x hx;omega⟩,λx hx=>(h1 x hx).1,h2⟩
   .rintro⟨⟨h1,h2⟩,h3,h4⟩
    exact⟨λx hx=>⟨h3 x hx,(h2 x hx).2⟩,h4⟩
theorem Fc(l:List Int):dQ l=true↔(∀x∈l,0<=x/\x<64)/\l.Pairwise (·<·):=by grind [dQ,Lq]
theorem Ky{l:List Int}(h:dQ l=true):l.Pairwise (·<=·):=((Fc l).1 h).2.imp (λh=>Int.le_of_lt h)
theorem Si(h:dW hs n=true):(hs.length:Int)=n:=by
 have h3:∀(k:List Int->Bool)(l:List cm)(g:List Int),dW.L3 k l g=true->∃g',k g'=true:=by
  intro k l
  induction l with
  |nil=>exact λg h=>⟨g,h⟩
  |cons y l ih=>
   intro g h
   simp only[dW.L3,Bool.cond_eq_ite]at h
   split at h
   .cases h
   .exact ih _ h
 have h1:∀(k:Bool)(l:List (List cm)),dW.L1 k l=true->k=true:=by
  intro k l
  induction l with
  |nil=>exact λh=>h
  |cons y l ih=>
   intro h
   obtain⟨g',hg⟩:=h3 _ _ _ h
   simp only[Bool.cond_eq_ite]at hg
   split at hg
   .cases hg
   .exact ih hg
 have:=h1 _ _ h
 simpa[dW.K1]using this
theorem Gp:∀(l:List aD)(g:Int),-1<=g->g<=1048576->(bE.L1 bE.K1 l g=0 ↔
  (∀v∈l,(0<=v.At/\v.At<=1099511627775)/\(0<=v.fX/\v.fX<=1099511627775)/\v.No<=1048576/\dy v.ay=0)/\(∀v∈l,g<v.No)/\l.Pairwise (λa b=>a.No<b.No))
 |[],g,_,_=>by simp[bE.L1,bE.K1]
 |y::l,g,h0,h1=>by
  simp only[bE.L1,wrap64 (z:=g+1) (by omega),ba]
  by_cases hy:((0<=y.At/\y.At<=1099511627775)/\(0<=y.fX/\y.fX<=1099511627775)/\y.No<=1048576/\dy y.ay=0)/\g<y.No
  .obtain⟨⟨⟨a,a'⟩,⟨b,b'⟩,c,d⟩,e⟩:=hy
   have hc:(!(decide (g+1<=y.No)&&decide (y.No<=1048576))||!(decide (0<=y.At)&&decide (y.At<=1099511627775))||!(decide (0<=y.fX)&&decide (y.fX<=1099511627775))||dy y.ay != 0)=false:=by
    simp[a,a',b,b',c,d];omega
   rw[hc,cond_false,Gp l y.No (by omega) c,List.pairwise_cons]
   grind
  .grind
structure Gt(l:List aD):Prop where
 len:l.length<=256
 each:∀v∈l,(0<=v.At/\v.At<=1099511627775)/\(0<=v.fX/\v.fX<=1099511627775)/\(0<=v.No/\v.No<=1048576)/\dy v.ay=0
 inc:l.Pairwise (λa b=>a.No<b.No)
theorem tV(l:List aD):bE l=0↔Gt l:=by
 unfold bE
 by_cases hl:l.length<=256
 .rw[show decide (256<(l.length:Int))=false from decide_eq_false (by omega),cond_false,Gp l (-1) (by omega) (by omega)]
  constructor
  .rintro⟨h1,h2,h3⟩;exact⟨hl,λv hv=>by have a:=h1 v hv;have b:=h2 v hv;exact⟨a.1,a.2.1,⟨by omega,a.2.2.1⟩,a.2.2.2⟩,h3⟩
  .rintro⟨_,h1,h3⟩;exact⟨λv hv=>by have:=h1 v hv;exact⟨this.1,this.2.1,by omega,this.2.2.2⟩,λv hv=>by have:=h1 v hv;omega,h3⟩
 .rw[show decide (256<(l.length:Int))=true from decide_eq_true (by omega),cond_true]
  exact⟨λh=>by omega,λh=>absurd h.len hl⟩
theorem Gt.mode(g:Gt l){v:aD}(hv:v∈l):1<=v.ay.Mode/\v.ay.Mode<=4:=(JP (g.each v hv).2.2.2).1
theorem mi{κ α : Type}[DecidableEq κ](k:κ)(v:α):∀(m:List (κ×α))(x:κ),mget? (mput m k v) x=if x=k then some v else mget? m x
 |[],x=>by simp[mput,mget?]
 |(k',v')::m,x=>by
  simp only[mput]
  by_cases e:k=k'
  .subst e;by_cases e2:x=k<;>simp[mget?,e2]
  .simp only[e,if_false,mget?,mi k v m x]
   grind
theorem F1{κ α : Type}[DecidableEq κ]{x:κ}:∀{m:List (κ×α)},x∈m.map (·.1)->∃v,mget? m x=some v/\(x,v)∈m
 |(k,v)::m,h=>by
  by_cases e:x=k
  .subst e;exact⟨v,by simp[mget?],by simp⟩
  .simp only[kG,kC,e,false_or]at h
   obtain⟨u,h1,h2⟩:=F1 h
   exact⟨u,by simp[mget?,e,h1],qC _ h2⟩
theorem Fg{κ α : Type}[DecidableEq κ]{k:κ}{v:α}{q:κ×α}:∀{m:List (κ×α)},q∈mput m k v->q=(k,v)\/q∈m
 |[],h=>by simp[mput]at h;exact .inl h
 |(k',v')::m,h=>by
  simp only[mput]at h
  split at h
  .grind
  .rcases kC.1 h with h|h
   .exact .inr (h▸xB ..)
   .rcases Fg h with h|h
    all_goals grind
theorem IY(g:List (Int×aD)):∀l,bH.L2 g [] l=l.map λy=>(y,mgetD g y (aD.mk 0 0 0 (ay.mk (⟨#[]⟩:ByteArray) [] [] [] (ao.mk 0 0 0 (⟨#[]⟩:ByteArray) []) 0)))
 |[]=>rfl
 |y::l=>by simp[bH.L2,IY g l]
def inForceM(ah ff:Int):List aD->Int->List (Int×aD)->List (Int×aD)
 |[],_,m=>m
 |y::l,b,m=>bif decide (ah<y.fX)then inForceM ah ff l b m else bif decide (y.At<=ff)then(bif decide (y.At<b)then inForceM ah ff l b m else inForceM ah ff l y.At (mput m ff y))else inForceM ah ff l b (mput m y.At y)
theorem IZ(ah ff:Int)(k:Int->List (Int×aD)->List (Int×aD))(hk:∀a b m,k a m=k b m):∀l b m,bH.L1 ah ff k l b m=k 0 (inForceM ah ff l b m)
 |[],b,m=>hk _ _ _
 |y::l,b,m=>by
  simp only[bH.L1,inForceM,IZ ah ff k hk l]
  grind
theorem Dg(l:List aD)(ff ah:Int):ig l ff ah=(sortI ((inForceM ah ff l (-1) []).map Prod.fst)).map λy=>(y,mgetD (inForceM ah ff l (-1) []) y (aD.mk 0 0 0 (ay.mk (⟨#[]⟩:ByteArray) [] [] [] (ao.mk 0 0 0 (⟨#[]⟩:ByteArray) []) 0))):=by
 unfold ig bH
 rw[IZ _ _ _ (λ_ _ _=>rfl)]
 exact IY _ _
theorem rT(ah ff:Int)(P:Int×aD->Prop):∀(l:List aD)b m,(∀y∈l,y.At<=ff->P (ff,y))->(∀y∈l,ff<y.At->P (y.At,y))->(∀q∈m,P q)->∀q∈inForceM ah ff l b m,P q
 |[],_,_,_,_,hm=>hm
 |y::l,b,m,h1,h2,hm=>by
  have h1':=λz hz=>h1 z (qC _ hz)
  have h2':=λz hz=>h2 z (qC _ hz)
  simp only[inForceM,Bool.cond_eq_ite,decide_eq_true_eq]
  split
  .exact rT ah ff P l b m h1' h2' hm
  .split
   .next ha=>
    split
    .exact rT ah ff P l b m h1' h2' hm
    .refine rT ah ff P l _ _ h1' h2' (λq hq=>?_)
     grind [Fg]
   .next ha=>
    refine rT ah ff P l _ _ h1' h2' (λq hq=>?_)
    grind [Fg]
theorem F6{ff:Int}(P:Int×aD->Prop)(h1:∀y∈l,y.At<=ff->P (ff,y))(h2:∀y∈l,ff<y.At->P (y.At,y)):∀q∈ig l ff ah,P q:=by
 intro q hq
 rw[Dg]at hq
 obtain⟨y,hy,rfl⟩:=xJ.1 hq
 have hy':=(nZ _).mem_iff.1 hy
 obtain⟨v,e,hv⟩:=F1 hy'
 have:mgetD (inForceM ah ff l (-1) []) y (aD.mk 0 0 0 (ay.mk (⟨#[]⟩:ByteArray) [] [] [] (ao.mk 0 0 0 (⟨#[]⟩:ByteArray) []) 0))=v:=by simp[mgetD,e]
 simp only[this]
 exact rT ah ff P l (-1) [] h1 h2 (λq hq=>(jA hq).elim) _ hv
theorem Br{ff:Int}:∀q∈ig l ff ah,q.2∈l:=
 F6 (λq=>q.2∈l) (λy hy _=>hy) (λy hy _=>hy)
theorem uP(ah ff:Int):∀(l:List aD)b m,(inForceM ah ff l b m).length<=m.length+l.length
 |[],_,_=>xE _
 |y::l,b,m=>by
  have a1:=uP ah ff l b m
  have a2:=uP ah ff l y.At (mput m ff y)
  have a3:=uP ah ff l b (mput m y.At y)
  have b2:=rP m ff y
  have b3:=rP m y.At y
  simp only[inForceM,Bool.cond_eq_ite,xA]
  grind
theorem F5(l:List aD)(ff ah:Int):(ig l ff ah).length<=l.length:=by grind [Dg,iE,uP]
theorem DJ:∀{a b:List OSeat},a.Pairwise (λx y=>x.bY<y.bY)->b.Pairwise (λx y=>x.bY<y.bY)->a.Perm b->a=b
 |[],b,_,_,p=>(List.Perm.nil_eq p)
 |x::a,[],_,_,p=>absurd p.length_eq (by simp)
 |x::a,y::b,ha,hb,p=>by
  have hx:x=y:=by
   have h1:x∈y::b:=p.mem_iff.1 (xB ..)
   have h2:y∈x::a:=p.mem_iff.2 (xB ..)
   rw[List.pairwise_cons]at ha hb
   grind
  subst hx
  rw[List.pairwise_cons]at ha hb
  rw[DJ ha.2 hb.2 (List.Perm.cons_inv p)]
theorem DK{l:List OSeat}(hn:l.Nodup)(hs:l.Pairwise (λx y=>x.bY<=y.bY)):(l.filter (λy=>y.bw==bw)).Pairwise (λx y=>x.bY<y.bY):=by
 induction l with
 |nil=>exact List.Pairwise.nil
 |cons x l ih=>
  rw[xR]at hn
  rw[List.pairwise_cons]at hs
  rw[List.filter_cons]
  split
  .next h=>
   rw[List.pairwise_cons]
   refine⟨λy hy=>?_,ih hn.2 hs.2⟩
   obtain⟨hy1,hy2⟩:=vH.1 hy
   have h1:=hs.1 y hy1
   rcases Int.lt_or_eq_of_le h1 with h2|h2
   .exact h2
   .exfalso
    have:x=y:=by
     cases x;cases y
     simp at h hy2 h2
     simp[h,hy2,h2]
    exact hn.1 (this▸hy1)
  .exact ih hn.2 hs.2
theorem zm(m:List (OSeat×aQ))(bw:Int):∀l,bZ.L1 m bw [] l=(l.filter λy=>y.bw==bw).filterMap λy=>bif(mgetD m y (aQ.mk 0 0 0 0 0 0 false)).nA then none else some (cm.mk (mgetD m y (aQ.mk 0 0 0 0 0 0 false)).dz (mgetD m y (aQ.mk 0 0 0 0 0 0 false)).gG)
 |[]=>rfl
 |y::l=>by
  simp only[bZ.L1,zm m bw l,List.filter_cons]
  grind
theorem KG{m:List (OSeat×aQ)}{ys:List OSeat}(hn:(m.map (·.1)).Nodup)(hp:ys.Perm (m.map Prod.fst))(hs:ys.Pairwise (λx y=>x.bY<=y.bY)):
  bZ m bw=[]++((bZ.L1 m bw bZ.K1) ys):=by
 unfold bZ bZ.K1
 rw[vD,zm,zm]
 have h1:(seatS (m.map Prod.fst)).Nodup:=(yY _).nodup_iff.2 hn
 have h2:ys.Nodup:=hp.nodup_iff.2 hn
 rw[DJ (DK h1 (DL _)) (DK h2 hs) (((yY _).trans hp.symm).filter _)]
theorem Bh(key:aQ->OSeat×Bool)(later:aQ->aQ->Bool):∀(l:List aQ)m,(dp.L1 key later dp.K1 l m).length<=m.length+l.length
 |[],m=>by simp[dp.L1,dp.K1]
 |y::l,m=>by
  have a:=Bh key later l m
  have b:=Bh key later l (mput m (key y).1 y)
  have c:=rP m (key y).1 y
  simp only[dp.L1,Bool.cond_eq_ite,xA]
  split<;>omega
theorem DE(l:List aQ)(a b:Int):(ii l a b).length<=l.length:=by
 have:=Bh (λfh=>iW fh a b) iV l []
 simpa[ii,dp]using this
theorem Pg(l:List cm):ka l=l:=by
 have:∀(l g:List cm),dl.L1 dl.K1 l g=g++l:=by
  intro l
  induction l with
  |nil=>intro g;simp[dl.L1,dl.K1]
  |cons y l ih=>intro g;simp[dl.L1,ih]
 simp[ka,dl,this]
theorem F8(m:List (OSeat×aQ))(bw:Int):(oB m bw).length<=m.length:=by
 unfold oB bZ bZ.K1
 rw[zm]
 have h1:=List.length_filterMap_le (λy=>bif(mgetD m y (aQ.mk 0 0 0 0 0 0 false)).nA then none else some (cm.mk (mgetD m y (aQ.mk 0 0 0 0 0 0 false)).dz (mgetD m y (aQ.mk 0 0 0 0 0 0 false)).gG)) ((seatS (m.map Prod.fst)).filter λy=>y.bw==bw)
 have h2:=List.length_filter_le (λy:OSeat=>y.bw==bw) (seatS (m.map Prod.fst))
 have h3:=(yY (m.map Prod.fst)).length_eq
 rw[List.length_map]at h3
 omega
theorem xg(l:List aQ)(bw a b:Int):(iY l bw a b).1.length<=l.length:=by grind [iY,Pg,F8,DE]
theorem iQ(r:Register):dq r=0↔dX r.da=0/\dR r.eI=0/\du r.dt=0/\bC r.df=0/\bE r.Versions=0/\aY r.bV=0/\aX r.bO=0:=by
 have e:dq r=(bif dX r.da != 0 then 300 else bif dR r.eI != 0 then 300 else bif du r.dt != 0 then 300 else bif bC r.df != 0 then 300 else bif bE r.Versions != 0 then 300 else bif aY r.bV != 0 then 300 else bif aX r.bO != 0 then 300 else 0):=rfl
 rw[e]
 have key:∀(a x:Int),(bif a != 0 then 300 else x)=0↔a=0/\x=0:=by
  grind
 simp only[key,and_true]
theorem Rh(dY:Int)(k:Int->Bool):∀(l:List Int)(g:Int),eZ.L1 dY k l g=true↔((∀x∈l,g<x/\x<dY)/\l.Pairwise (·<·))/\∃g',(l=[]/\g'=g\/l.getLast? = some g')/\k g'=true
 |[],g=>by simp[eZ.L1]
 |y::l,g=>by
  simp only[eZ.L1,Bool.cond_eq_ite,kD,decide_eq_true_eq]
  split
  .next h=>
   constructor
   .intro h';cases h'
   .rintro⟨⟨h1,_⟩,_⟩;have:=h1 y (xB ..);omega
  .next h=>
   rw[Rh dY k l y,List.pairwise_cons]
   grind
theorem Hj(l:List Int)(dY:Int):eZ l dY=true↔((∀x∈l,0<=x/\x<dY)/\l.Pairwise (·<·))/\l.length<=16:=by
 unfold eZ
 rw[Rh]
 constructor
 .rintro⟨⟨h1,h2⟩,g',_,h3⟩
  refine⟨⟨λx hx=>by have:=h1 x hx;omega,h2⟩,?_⟩
  simp only[eZ.K1,decide_eq_true_eq]at h3
  omega
 .rintro⟨⟨h1,h2⟩,h3⟩
  refine⟨⟨λx hx=>by have:=h1 x hx;omega,h2⟩,?_⟩
  cases l with
  |nil=>exact⟨_,.inl ⟨rfl,rfl⟩,by simp[eZ.K1]⟩
  |cons y l=>
   refine⟨(y::l).getLast (by simp),.inr (List.getLast?_eq_some_getLast _),?_⟩
   simp only[eZ.K1,decide_eq_true_eq]
   omega
structure R0(d:av):Prop where
 no:0<=d.No/\d.No<4096
 at_:0<=d.At/\d.At<1099511627776
 kind:0<=d.Kind/\d.Kind<16
 value:0<=d.Value/\d.Value<=1099511627776
 ff:0<=d.From/\d.From<d.qi
 XK:d.qi<=1099511627776
 ey:((∀x∈d.ju,0<=x/\x<1048577)/\d.ju.Pairwise (·<·))/\d.ju.length<=16
 revokes:((∀x∈d.fF,0<=x/\x<d.No)/\d.fF.Pairwise (·<·))/\d.fF.length<=16
 needs:((∀x∈d.e9,0<=x/\x<d.No)/\d.e9.Pairwise (·<·))/\d.e9.length<=16
theorem N9(d:av):mw d=true↔R0 d:=by
 unfold mw iZ
 simp only[zB,decide_eq_true_eq,Hj]
 constructor
 .rintro⟨⟨⟨⟨⟨⟨⟨⟨⟨⟨⟨⟨a,b⟩,c,d⟩,e⟩,f⟩,g⟩,h⟩,i⟩,j⟩,k⟩,l⟩,m⟩,n⟩
  exact⟨⟨a,b⟩,⟨c,d⟩,⟨e,f⟩,⟨g,h⟩,⟨i,j⟩,k,l,m,n⟩
 .rintro⟨⟨a,b⟩,⟨c,d⟩,⟨e,f⟩,⟨g,h⟩,⟨i,j⟩,k,l,m,n⟩
  grind
theorem JE(l0:List av):∀(l:List av)(i:Nat),aY.L1 l0 0 l i=0->∀d∈l,mw d=true
 |[],_,_,_,hd=>(jA hd).elim
 |y::l,i,h,d,hd=>by
  simp only[aY.L1,Bool.cond_eq_ite]at h
  split at h
  .omega
  .next hc=>
   simp only[kD,not_or,kE,Bool.not_eq_false]at hc
   rcases kC.1 hd with rfl|hd
   .exact hc.1.1
   .exact JE l0 l (i+1) h d hd
theorem LP{l:List av}(h:aY l=0):∀d∈l,R0 d:=by
 unfold aY aY.K1 at h
 rw[Bool.cond_eq_ite]at h
 split at h
 .omega
 .exact λd hd=>(N9 d).1 (JE l l 0 h d hd)
theorem I0(f:av->Bool):∀(l:List av)(i:Nat),(aj.L1 f aj.K1 l i=-1/\∀x∈l,f x=false) \/
  ∃a y b,l=a++y::b/\aj.L1 f aj.K1 l i=((i+a.length:Nat):Int)/\f y=true/\∀x∈a,f x=false
 |[],i=>.inl ⟨rfl,λ_ h=>(jA h).elim⟩
 |y::l,i=>by
  simp only[aj.L1]
  cases hy:f y with
  |true=>exact .inr ⟨[],y,l,rfl,by simp,hy,λ_ h=>(jA h).elim⟩
  |false=>
   rcases I0 f l (i+1)with⟨h1,h2⟩|⟨a,z,b,rfl,h2,h3,h4⟩
   all_goals grind
theorem P7(mode:Int)(l:List aD)(old:Bool):(judgesP mode l old).length<=l.length:=by grind [judgesP,kZ,kY,j7]
theorem FE(k:List Int->List Int×Int×Int):∀(l:List aD)(g:List Int),aN.L2 k l g=k (g++l.map (·.No))
 |[],g=>by simp[aN.L2]
 |y::l,g=>by simp[aN.L2,FE k l]
theorem LZ(db at_:Int)(P:List Int×Int×Int->Prop)(n:Nat)(k:Bool->List aD->List Int×Int×Int)(hk:∀b g,g.length<=n->P (k b g)):∀(l:List (Int×aD))b g,g.length+l.length<=n->P (aN.L1 db at_ k l b g)
 |[],b,g,h=>by simpa[aN.L1]using hk b g (by simpa using h)
 |y::l,b,g,h=>by
  simp only[aN.L1]
  simp only[xA]at h
  cases decide (at_<y.1)
  .exact LZ db at_ P n k hk l _ _ (by simp;omega)
  .exact hk _ _ (by omega)
theorem Dr(l:List aD)(db at_ ah:Int):(aN l db at_ ah).1.length<=l.length:=by
 unfold aN
 cases(bE l != 0)
 .cases(((!(fx db))||(!(fx at_)))||(!(fx ah)))||decide (at_<db)
  .simp only[cond_false]
   refine LZ db at_ (λr=>r.1.length<=l.length) l.length _ ?_ _ _ _ (by have:=F5 l db ah;simpa using this)
   intro b g hg
   unfold aN.K1
   cases((g.length:Int)==0)
   .simp only[cond_false,FE,aN.K2,vD,iE,List.length_map]
    exact kK (P7 _ _ _) hg
   .simp
  .simp
 .simp
structure Yc(r:Register)(aP:Int)(j9 l:List Int):Prop where
 times:∀x∈l,0<=x/\x<1099511627776
 check:nj r=0
 doc0:0<=eC r aP
 people:pI j9=true
theorem Q9(no:Int):∀(l:List av)(i:Nat),0<=eC.L1 no eC.K1 l i->∃(j:Nat)(d:av),l[j]? = some d/\d.No=no/\eC.L1 no eC.K1 l i=((i+j:Nat):Int)
 |[],i,h=>by simp[eC.L1,eC.K1]at h
 |y::l,i,h=>by
  simp only[eC.L1,Bool.cond_eq_ite,beq_iff_eq]at h ⊢
  split
  .next e=>exact⟨0,y,rfl,e,rfl⟩
  .next e=>
   rw[if_neg e]at h
   obtain⟨j,d,h1,h2,h3⟩:=Q9 no l (i+1) h
   exact⟨j+1,d,by simpa using h1,h2,by rw[h3];congr 1;omega⟩
theorem Vy{r:Register}{no:Int}(h:0<=eC r no):eC r no<(r.bV.length:Int)/\nthI r.bV (eC r no)∈r.bV/\(nthI r.bV (eC r no)).No=no:=by
 obtain⟨j,d,h1,h2,h3⟩:=Q9 no r.bV 0 h
 rw[Nat.zero_add]at h3
 have hl:=(List.getElem?_eq_some_iff.1 h1).1
 have e:eC r no=(j:Int):=h3
 have hb:0<=eC r no/\eC r no<(r.bV.length:Int):=by omega
 have hg:=eH hb
 grind
theorem UW(L:List av):∀(l:List av)(i:Nat),eB.L1 L eB.K1 l i=0->∀d∈l,nk d=true
 |[],_,_=>λ_ h=>(jA h).elim
 |y::l,i,h=>by
  simp only[eB.L1,Bool.cond_eq_ite,kD,not_or]at h
  split at h
  .simp at h
  .next hc=>
   intro d hd
   rcases kC.1 hd with rfl|hd
   .grind
   .exact UW L l (i+1) h d hd
theorem Pj{r:Register}(h:nj r=0):jo r.da=0/\jm r.eI=0/\jj r.dt=0/\hY r.df=0/\eb r.Versions=0/\eB r.bV=0/\jk r.bO=0:=by
 simp only[nj,Bool.cond_eq_ite,kD,bne_iff_ne]at h
 grind
theorem UV{l:List av}(h:eB l=0):l.length<=4096/\∀d∈l,nk d=true:=by
 simp only[eB,Bool.cond_eq_ite,decide_eq_true_eq]at h
 grind [UW]
theorem La{l:List Int}(h:l.Pairwise (·<=·))(hn:l.Nodup):l.Pairwise (·<·):=by
 induction l with
 |nil=>exact List.Pairwise.nil
 |cons x l ih=>
  rw[List.pairwise_cons]at h ⊢
  grind
section chk
variable {α : Type} [Inhabited α]
def refChk(R:α->Bool)(no:α->Int)(c:Int)(L:List α):List α->Nat->Int
 |[],_=>0
 |y::l,i=>bif(!(R y))||(decide (0<(i:Int))&&decide (no y<=no (nthI L ((i:Int)-1))))then c else refChk R no c L l (i+1)
def prgChk(R:α->Bool)(no:α->Int)(c:Int):List α->Int->Int
 |[],_=>0
 |y::l,g=>bif(!(R y))||decide (no y<=g)then c else prgChk R no c l (no y)
theorem Pi(R:α->Bool)(no:α->Int)(c:Int)(L:List α):∀(l pre:List α)(x:α),L=(pre++[x])++l->refChk R no c L l (pre.length+1)=prgChk R no c l (no x)
 |[],_,_,_=>rfl
 |y::l,pre,x,h=>by
  have hx:nthI L (((pre.length+1:Nat):Int)-1)=x:=by
   have hb:0<=(((pre.length+1:Nat):Int)-1)/\(((pre.length+1:Nat):Int)-1)<(L.length:Int):=by rw[h];simp;omega
   have hg:=eH hb
   grind
  have hd:decide (0<((pre.length+1:Nat):Int))=true:=by rw[decide_eq_true_eq];omega
  have ih:=Pi R no c L l (pre++[x]) y (by rw[h];simp)
  rw[vA,xA,jB,Nat.zero_add]at ih
  simp only[refChk,prgChk,hx,hd,Bool.true_and,ih]
theorem JO(R:α->Bool)(no:α->Int)(c:Int)(hR:∀y,R y=true->0<=no y)(l:List α):refChk R no c l l 0=prgChk R no c l (-1):=by
 cases l with
 |nil=>rfl
 |cons y l=>
  have ih:=Pi R no c (y::l) l [] y rfl
  simp only[jB,Nat.zero_add]at ih
  simp only[refChk,prgChk,Nat.zero_add,ih]
  grind
end chk
theorem FZ(l:List aQ):dX l=jo l:=by
 have hR:∀x,qb x=nV x:=λx=>by
  rw[jK]
  simp only[qb,nV,Bool.cond_eq_ite]
  cases x.nA<;>simp only[if_true,if_false,YO,zB,kD,kE,decide_eq_true_eq,decide_eq_false_iff_not,beq_iff_eq,gP,gQ,iJ,ky,vY,uJ,uI,Bool.and_eq_false_iff]
   <;> (split<;>simp only[YO,iff_false,decide_eq_true_eq,zB,beq_iff_eq]<;>omega)
 have h1:∀(L l:List aQ)i,jo.L1 L jo.K1 l i=refChk nV (·.No) 150 L l i:=by
  intro L l
  induction l with
  |nil=>intro i;rfl
  |cons y l ih=>intro i;simp only[jo.L1,refChk,ih]
 have h2:∀(l:List aQ)g,dX.L1 dX.K1 l g=prgChk nV (·.No) 150 l g:=by
  intro l
  induction l with
  |nil=>intro g;rfl
  |cons y l ih=>intro g;simp only[dX.L1,prgChk,ih,hR]
 unfold dX jo
 rw[h1,h2,JO]
 intro y hy
 simp only[nV,Bool.cond_eq_ite]at hy
 grind
theorem EC(l:List bj):dR l=jm l:=by
 have hR:∀x,pD x=nU x:=λx=>by
  rw[jK]
  simp only[pD,nU,Bool.cond_eq_ite,dw,i8,ip,lV,vX,rM]
  grind
 have h1:∀(L l:List bj)i,jm.L1 L jm.K1 l i=refChk nU (·.No) 160 L l i:=by
  intro L l
  induction l with
  |nil=>intro i;rfl
  |cons y l ih=>intro i;simp only[jm.L1,refChk,ih]
 have h2:∀(l:List bj)g,dR.L1 dR.K1 l g=prgChk nU (·.No) 160 l g:=by
  intro l
  induction l with
  |nil=>intro g;rfl
  |cons y l ih=>intro g;simp only[dR.L1,prgChk,ih,hR]
 unfold dR jm
 rw[h1,h2,JO]
 intro y hy
 simp only[nU,Bool.cond_eq_ite]at hy
 split at hy
 .cases hy
 .next h=>simp only[kD,not_or,decide_eq_true_eq,lV,kE,Bool.and_eq_false_iff,decide_eq_false_iff_not]at h;omega
theorem CN(l:List aG):du l=jj l:=by
 have hR:∀x,oC x=nQ x:=λx=>by
  rw[jK]
  simp only[oC,nQ,Bool.cond_eq_ite,eX,vI,tw,uH]
  grind
 have h1:∀(L l:List aG)i,jj.L1 L jj.K1 l i=refChk nQ (·.No) 290 L l i:=by
  intro L l
  induction l with
  |nil=>intro i;rfl
  |cons y l ih=>intro i;simp only[jj.L1,refChk,ih]
 have h2:∀(l:List aG)g,du.L1 du.K1 l g=prgChk nQ (·.No) 290 l g:=by
  intro l
  induction l with
  |nil=>intro g;rfl
  |cons y l ih=>intro g;simp only[du.L1,prgChk,ih,hR]
 unfold du jj
 rw[h1,h2,JO]
 intro y hy
 simp only[nQ,Bool.cond_eq_ite]at hy
 grind
theorem F7(f:Int->Bool):∀(l:List Int)(i:Nat),decide (0<=cK.L1 f cK.K1 l i)=l.any f
 |[],i=>by simp[cK.L1,cK.K1]
 |y::l,i=>by
  have ih:=F7 f l (i+1)
  simp only[cK.L1,List.any_cons]
  grind
theorem containsF(l:List Int)(f:Int->Bool):eJ l f=l.any f:=F7 f l 0
theorem BN(l:List Budget):bC l=hY l:=by
 have hR:∀x,lW x=nT x:=λx=>by
  rw[jK]
  simp only[lW,nT,Bool.cond_eq_ite,cC,containsF,lq,List.any_cons,List.any_nil,Bool.or_false,j0,lU]
  grind
 have h1:∀(L l:List Budget)i,hY.L1 L hY.K1 l i=refChk nT (·.No) 180 L l i:=by
  intro L l
  induction l with
  |nil=>intro i;rfl
  |cons y l ih=>intro i;simp only[hY.L1,refChk,ih]
 have h2:∀(l:List Budget)g,bC.L1 bC.K1 l g=prgChk nT (·.No) 180 l g:=by
  intro l
  induction l with
  |nil=>intro g;rfl
  |cons y l ih=>intro g;simp only[bC.L1,prgChk,ih,hR]
 unfold bC hY
 rw[h1,h2,JO]
 intro y hy
 simp only[nT,Bool.cond_eq_ite]at hy
 split at hy
 .cases hy
 .next h=>simp only[kD,not_or,decide_eq_true_eq,j0,kE,Bool.and_eq_false_iff,decide_eq_false_iff_not]at h;omega
theorem CR(l:List ai):aX l=jk l:=by
 have hR:∀x,eu x=nR x:=λx=>by
  rw[jK]
  simp only[eu,nR,Bool.cond_eq_ite,dB,containsF,iz,List.any_cons,List.any_nil,Bool.or_false,lT,vO,BV]
  grind
 have h1:∀(L l:List ai)i,jk.L1 L jk.K1 l i=refChk nR (·.No) 280 L l i:=by
  intro L l
  induction l with
  |nil=>intro i;rfl
  |cons y l ih=>intro i;simp only[jk.L1,refChk,ih]
 have h2:∀(l:List ai)g,aX.L1 aX.K1 l g=prgChk nR (·.No) 280 l g:=by
  intro l
  induction l with
  |nil=>intro g;rfl
  |cons y l ih=>intro g;simp only[aX.L1,prgChk,ih,hR]
 unfold aX jk
 rw[h1,h2,JO]
 intro y hy
 simp only[nR,Bool.cond_eq_ite]at hy
 split at hy
 .cases hy
 .next h=>simp only[kD,not_or,decide_eq_true_eq,lT,kE,Bool.and_eq_false_iff,decide_eq_false_iff_not]at h;omega
def refLs(B:Int->Bool)(L:List Int)(k:Bool):List Int->Nat->Bool
 |[],_=>k
 |y::l,i=>bif(B y)||(decide (0<(i:Int))&&decide (y<=nthI L ((i:Int)-1)))then false else refLs B L k l (i+1)
theorem Ib(B:Int->Bool)(L:List Int)(k:Bool):∀(l pre:List Int)(x:Int),L=(pre++[x])++l->refLs B L k l (pre.length+1)=true->((∀y∈l,B y=false)/\k=true)/\(x::l).Pairwise (·<·)
 |[],_,_,_,h=>⟨⟨λ_ h=>(jA h).elim,h⟩,by simp⟩
 |y::l,pre,x,h,hr=>by
  have hx:nthI L (((pre.length+1:Nat):Int)-1)=x:=by
   have hb:0<=(((pre.length+1:Nat):Int)-1)/\(((pre.length+1:Nat):Int)-1)<(L.length:Int):=by rw[h];simp;omega
   have hg:=eH hb
   grind
  simp only[refLs,hx,Bool.cond_eq_ite]at hr
  split at hr
  .cases hr
  .next hc=>
   simp only[kD,zB,decide_eq_true_eq,not_or]at hc
   have ih:=Ib B L k l (pre++[x]) y (by rw[h];simp)
   rw[vA,xA,jB,Nat.zero_add]at ih
   grind
theorem TM{B:Int->Bool}{k:Bool}{l:List Int}(h:refLs B l k l 0=true):((∀y∈l,B y=false)/\k=true)/\l.Pairwise (·<·):=by
 cases l with
 |nil=>exact⟨⟨λ_ h=>(jA h).elim,h⟩,List.Pairwise.nil⟩
 |cons y l=>
  simp only[refLs,Bool.cond_eq_ite]at h
  split at h
  .cases h
  .next hc=>
   simp only[kD,not_or]at hc
   obtain⟨⟨i1,i2⟩,i3⟩:=Ib B (y::l) k l [] y rfl h
   grind
theorem H9{l:List Int}{dY:Int}(h:fT l dY=true):((∀x∈l,0<=x/\x<dY)/\l.Pairwise (·<·))/\l.length<=16:=by
 have e:∀(L l:List Int)i,fT.L1 L dY (fT.K1 L) l i=refLs (λy=>decide (y<0)||decide (dY<=y)) L (fT.K1 L) l i:=by
  intro L l
  induction l with
  |nil=>intro i;rfl
  |cons y l ih=>intro i;simp only[fT.L1,refLs,ih]
 unfold fT at h
 rw[e]at h
 obtain⟨⟨h1,h2⟩,h3⟩:=TM h
 refine⟨⟨λx hx=>?_,h3⟩,?_⟩
 .grind
 .simp only[fT.K1,decide_eq_true_eq]at h2;omega
theorem FP{d:av}(h:nk d=true):R0 d:=by
 simp only[nk,Bool.cond_eq_ite]at h
 split at h
 .cases h
 .next hc=>
  simp only[kD,not_or,decide_eq_true_eq,qz,kE,Bool.and_eq_false_iff,decide_eq_false_iff_not]at hc
  simp only[zB,decide_eq_true_eq]at h
  obtain⟨⟨⟨⟨⟨h1,h2⟩,h3⟩,h4⟩,h5⟩,h6⟩:=h
  exact⟨by omega,by omega,by omega,by omega,⟨h1,h2⟩,h3,H9 h4,H9 h5,H9 h6⟩
theorem DI(L:List av):∀(l:List av)(i:Nat)(m:List (Int×Int)),(aI.L1 (aI.K1 L) l i m).docs=L/\∀x,mhas (aI.L1 (aI.K1 L) l i m).at_ x=(mhas m x||l.any λd=>d.No==x)
 |[],i,m=>⟨rfl,λx=>by simp[aI.L1,aI.K1]⟩
 |y::l,i,m=>by
  obtain⟨h1,h2⟩:=DI L l (i+1) (mput m y.No (i:Int))
  refine⟨h1,λx=>?_⟩
  show mhas (aI.L1 (aI.K1 L) l (i+1) (mput m y.No (i:Int))).at_ x=_
  grind [mhas,mput,mi]
theorem Ge(no:Int):∀(l:List av)(i:Nat),0<=gx.L1 no gx.K1 l i->(l.any λd=>d.No==no)=true
 |[],i,h=>by simp[gx.L1,gx.K1]at h
 |y::l,i,h=>by
  simp only[gx.L1,Bool.cond_eq_ite]at h
  rw[List.any_cons]
  by_cases e:(y.No==no)=true
  .rw[e];rfl
  .rw[if_neg e]at h
   rw[Ge no l (i+1) h,Bool.or_true]
theorem K7(L:List av):∀nos:List Int,fS.L1 L fS.K1 nos=true->∀x∈nos,(L.any λd=>d.No==x)=true
 |[],_=>λ_ h=>(jA h).elim
 |y::nos,h=>by
  simp only[fS.L1,Bool.cond_eq_ite,decide_eq_true_eq]at h
  split at h
  .cases h
  .next hc=>
   intro x hx
   rcases kC.1 hx with rfl|hx
   .grind [gx,Ge]
   .exact K7 L nos h x hx
theorem W2{L:List av}{d:av}(h1:fS L d.fF=true)(h2:fS L d.e9=true):j6 (aI L) d=true:=by
 have hs:=(DI L L 0 []).2
 have key:∀nos,fS L nos=true->eJ nos (λfh=>iD fh (aI L))=false:=by
  intro nos hn
  rw[containsF,List.any_eq_false]
  intro x hx
  unfold iD
  have:=K7 L nos hn x hx
  have e:mhas (aI L).at_ x=true:=by
   show mhas (aI.L1 (aI.K1 L) L 0 []).at_ x=true
   rw[hs x,this,Bool.or_true]
  rw[e];simp
 grind [j6]
theorem KH{l:List av}(h:eB l=0):aY l=0:=by
 have L:∀(L l:List av)(i:Nat),eB.L1 L eB.K1 l i=0->aY.L1 L aY.K1 l i=0:=by
  intro L l
  induction l with
  |nil=>intros;rfl
  |cons y l ih=>
   intro i h
   simp only[eB.L1,Bool.cond_eq_ite]at h
   split at h
   .omega
   .next hc=>
    simp only[kD,not_or,kE,Bool.not_eq_false,Bool.not_eq_true]at hc
    obtain⟨⟨⟨c1,c2⟩,c3⟩,c4⟩:=hc
    simp only[aY.L1,(N9 y).2 (FP c1),c2,W2 c3 c4,Bool.not_true,Bool.or_false,cond_false]
    exact ih (i+1) h
 grind [eB,aY]
theorem OQ(mode:Int)(l:List aD)(old:Bool):(judgesP mode l old).Sublist l:=by grind [judgesP,kZ,kY,j7,List.take_sublist,List.drop_sublist]
theorem J6(db at_:Int)(k:Bool->List aD->List Int×Int×Int):∀(l:List (Int×aD))b g,∃(pre:List (Int×aD))(b':Bool),pre.Sublist l/\aN.L1 db at_ k l b g=k b' (g++pre.map (·.2))
 |[],b,g=>⟨[],b,List.Sublist.refl _,by simp[aN.L1]⟩
 |y::l,b,g=>by
  simp only[aN.L1]
  cases decide (at_<y.1)
  .obtain⟨pre,b',h1,h2⟩:=J6 db at_ k l (b||(y.1==db)) (g++[y.2])
   exact⟨y::pre,b',h1.cons_cons _,by rw[cond_false,h2];simp⟩
  .exact⟨[],b,List.nil_sublist _,by simp⟩
theorem Rm(h:l.Pairwise (λa b=>a.No<b.No)){a b:aD}(ha:a∈l)(hb:b∈l)(e:a.No=b.No):a=b:=by
 induction l with
 |nil=>cases ha
 |cons x l ih=>
  obtain⟨h1,h2⟩:=List.pairwise_cons.1 h
  grind
theorem pA(ah ff:Int):∀(l:List aD)b m,(m.map (·.1)).Nodup->((inForceM ah ff l b m).map (·.1)).Nodup
 |[],b,m,h=>h
 |y::l,b,m,h=>by
  simp only[inForceM,Bool.cond_eq_ite]
  split
  .exact pA ah ff l _ _ h
  .split
   .split
    .exact pA ah ff l _ _ h
    .exact pA ah ff l _ _ (sQ _ _ h)
   .exact pA ah ff l _ _ (sQ _ _ h)
theorem MY(l:List aD)(ff ah:Int):(ig l ff ah).Pairwise (λp q=>p.1<q.1):=by grind [Dg,La,pG,nZ,pA]
theorem OU(g:Gt l)(ff ah:Int):(ig l ff ah).Pairwise (λp q=>p.2.No≠q.2.No):=by
 have hP:=F6 (l:=l) (ff:=ff) (ah:=ah) (λp=>((p.2.At<=ff/\p.1=ff)\/(ff<p.2.At/\p.1=p.2.At))/\p.2∈l) (λy hy h=>⟨.inl ⟨h,rfl⟩,hy⟩) (λy hy h=>⟨.inr ⟨h,rfl⟩,hy⟩)
 refine(MY l ff ah).imp_of_mem λ{p q}hp hq hlt e=>?_
 have h1:=hP p hp
 have h2:=hP q hq
 have h3:=Rm g.inc h1.2 h2.2 e
 rw[h3]at h1
 omega
structure Jdg(l:List aD)(J:List Int×Int×Int):Prop where
 err:J.2.2=0
 rise:J.1.Pairwise (·<·)
 mem:∀x∈J.1,∃v∈l,v.No=x
 mode:J.1≠[]->1<=J.2.1/\J.2.1<=4
 mode2:J.2.1≠0->1<=J.2.1/\J.2.1<=4
theorem yO(g:Gt l){db at_:Int}(hb:0<=db/\db<1099511627776)(ht:0<=at_/\at_<1099511627776)(hk:0<=ah/\ah<1099511627776)(dN:db<=at_):Jdg l (aN l db at_ ah):=by
 have h0:bE l=0:=(tV l).2 g
 have h1:∀x:Int,0<=x/\x<1099511627776->fx x=true:=λx hx=>by simp[fx,hx]
 have h2:decide (at_<db)=false:=by simp;omega
 unfold aN
 rw[h0,h1 _ hb,h1 _ ht,h1 _ hk,h2]
 simp only[bne_self_eq_false,cond_false,Bool.not_true,Bool.or_false]
 obtain⟨pre,b',hs,e⟩:=J6 db at_ aN.K1 (ig l db ah) false []
 rw[e,vD]
 unfold aN.K1
 cases hc:(((pre.map (·.2)).length:Int)==0)with
 |true=>exact⟨rfl,List.Pairwise.nil,λx hx=>(jA hx).elim,λh=>absurd rfl h,λh=>absurd rfl h⟩
 |false=>
  simp only[cond_false,FE,aN.K2,vD]
  have hpre:pre.length≠0:=by simpa using hc
  have hsub:=OQ ((nthI (pre.map (·.2)) (((pre.map (·.2)).length:Int)-1)).ay.Mode) (pre.map (·.2)) b'
  have hnd:(pre.map (·.2)).Pairwise (λa b=>a.No≠b.No):=by
   grind [OU]
  have hmode:1<=(nthI (pre.map (·.2)) (((pre.map (·.2)).length:Int)-1)).ay.Mode/\(nthI (pre.map (·.2)) (((pre.map (·.2)).length:Int)-1)).ay.Mode<=4:=by
   have hm:nthI (pre.map (·.2)) (((pre.map (·.2)).length:Int)-1)∈pre.map (·.2):=nm (by rw[List.length_map];omega)
   obtain⟨p,hp,hpe⟩:=xJ.1 hm
   have:=g.mode (Br p (hs.subset hp))
   rw[hpe]at this
   exact this
  refine⟨rfl,La (pG _) ((nZ _).nodup_iff.2 ?_),λx hx=>?_,λ_=>hmode,λ_=>hmode⟩
  .grind
  .have hx2:=(nZ _).mem_iff.1 hx
   obtain⟨v,hv,rfl⟩:=xJ.1 hx2
   obtain⟨p,hp,rfl⟩:=xJ.1 (hsub.subset hv)
   grind [Br]
theorem J9(mode:Int):(fK mode []).1=false:=by
 unfold fK bB
 have h1:∀f,iv [] f=-1:=λ_=>rfl
 have h2:decide (0<=(-1:Int))=false:=rfl
 rw[h1,h1,h2]
 cases(fN mode [] != 0)<;>cases(mode==4)<;>cases(mode==3)<;>cases(mode != 4)<;>rfl
theorem Ka{mode:Int}(hm:1<=mode/\mode<=4){l:List Bool}(hl:l.length<=256):(fK mode l).2=0:=by
 have hc:fN mode l=0:=by
  have h1:mhas m7 mode=true:=by
   have:mode=1\/mode=2\/mode=3\/mode=4:=by omega
   rcases this with rfl|rfl|rfl|rfl<;>rfl
  grind [fN]
 have k1:∀(k:List Int->List Int×Bool×Int),(∀g,(k g).2.2=0)->∀(s:List Bool)i g,(bB.L1 k s i g).2.2=0:=by
  intro k hk s
  induction s with
  |nil=>intro i g;exact hk g
  |cons y s ih=>intro i g;exact ih _ _
 have k2:∀(k:List Int->List Int×Bool×Int),(∀g,(k g).2.2=0)->∀(s:List Bool)i g,(bB.L2 k s i g).2.2=0:=by
  intro k hk s
  induction s with
  |nil=>intro i g;exact hk g
  |cons y s ih=>intro i g;exact ih _ _
 have k3:∀(k:List Int->List Int×Bool×Int),(∀g,(k g).2.2=0)->∀(s:List Bool)i g,(bB.L3 k s i g).2.2=0:=by
  intro k hk s
  induction s with
  |nil=>intro i g;exact hk g
  |cons y s ih=>intro i g;exact ih _ _
 show(bB mode l).2.2=0
 unfold bB
 rw[hc]
 simp only[bne_self_eq_false,cond_false,Bool.cond_eq_ite]
 repeat' split
 all_goals first
  |rfl
  |exact k1 _ (λ_=>rfl) _ _ _
  |exact k2 _ (λ_=>rfl) _ _ _
  |exact k3 _ (λ_=>rfl) _ _ _
theorem Gs{l:List aQ}(hc:dX l=0){o t ah:Int}(ho:0<=o/\o<32)(ht:0<=t/\t<1099511627776)(hk:0<=ah/\ah<1099511627776):(iY l o t ah).2=0:=by
 have h1:∀x:Int,0<=x/\x<1099511627776->gQ x=true:=λx hx=>by simp only[gQ,gP,zB,decide_eq_true_eq];omega
 have h2:iJ o=true:=by simp only[iJ,gP,zB,decide_eq_true_eq];omega
 grind [iY]
theorem Ab(k:Int->Int)(hk:∀g,k g=0):∀(l:List Int)(g:Int),(∀x∈l,g<x/\x<=1048576)->l.Pairwise (·<·)->dx.L1 k l g=0
 |[],g,_,_=>hk g
 |y::l,g,h,hp=>by
  have h1:=h y (xB ..)
  have e:(decide (y<=g)||decide (1048576<y))=false:=by simp;omega
  simp only[dx.L1,e,cond_false]
  exact Ab k hk l y (λx hx=>⟨(List.pairwise_cons.1 hp).1 x hx,(h x (qC _ hx)).2⟩) (List.pairwise_cons.1 hp).2
theorem Ns{l:List aG}(hc:du l=0){p t:Int}{ps:List Int}(hp:0<=p/\p<64)(hps:((∀x∈ps,0<=x/\x<1048577)/\ps.Pairwise (·<·))/\ps.length<=16)(ht:0<=t/\t<1099511627776)(hk:0<=ah/\ah<1099511627776):(dc l p ps t ah).2.2=0:=by grind [dx,dx.K1,dc,eX,Ab]
theorem Ft{β : Type}(F:(ao->β)->ao->β)(go:Nat->ao->β)(h:∀m,go (m+1)=F (go m))(hF:∀f g x,(∀y∈x.L,f y=g y)->F f x=F g x)(x:ao):go x.dep x=F (λy=>go y.dep y) x:=by
 have key:∀x:ao,∀m,x.dep<=m->go m x=go x.dep x:=by
  refine λx=>ao.ind (P:=λx=>∀m,x.dep<=m->go m x=go x.dep x) ?_ x
  intro x ih m hm
  have hp:=ao.np x
  obtain⟨m',rfl⟩:∃m',m=m'+1:=⟨m-1,by omega⟩
  obtain⟨n,hn⟩:∃n,x.dep=n+1:=⟨x.dep-1,by omega⟩
  rw[hn,h,h]
  refine hF _ _ _ λy hy=>?_
  have:=ao.lB hy
  grind
 have hp:=ao.np x
 obtain⟨n,hn⟩:∃n,x.dep=n+1:=⟨x.dep-1,by omega⟩
 rw[hn,h]
 refine hF _ _ _ λy hy=>?_
 have:=ao.lB hy
 exact key y n (by omega)
theorem U8(x:ao):bF x=bF.F bF x:=by
 refine Ft bF.F bF.go (λm=>rfl) (λf g x h=>?_) x
 unfold bF.F
 have:∀(k:Int->Int)(l:List ao)a,(∀y∈l,f y=g y)->bF.L1 f k l a=bF.L1 g k l a:=by
  intro k l
  induction l with
  |nil=>intros;rfl
  |cons y l ih=>intro a hl;simp only[bF.L1,hl y (xB ..)];exact ih _ λz hz=>hl z (qC _ hz)
 exact this _ _ _ h
theorem depthL(l:List ao):∀(a:Int),a<=bF.L1 bF (λg=>g) l a/\(∀y∈l,bF y<=bF.L1 bF (λg=>g) l a)/\∀M:Int,a<=M->(∀y∈l,bF y<=M)->bF.L1 bF (λg=>g) l a<=M:=by
 induction l with
 |nil=>intro a;exact⟨Int.le_refl _,λ_ h=>(jA h).elim,λM h _=>h⟩
 |cons y l ih=>
  grind [bF.L1]
theorem depthK(l:List ao):∀(a:Int),bF.L1 bF bF.K1 l a=IntKind.i64.wrap (bF.L1 bF (λg=>g) l a+1):=by
 induction l with
 |nil=>intro a;rfl
 |cons y l ih=>intro a;exact ih _
theorem Pc(x:ao):x.dep<=1500000->(1<=bF x/\bF x<=x.dep)/\bF x=bF.L1 bF (λg=>g) x.L 0+1:=by
 refine ao.ind (P:=λx=>x.dep<=1500000->(1<=bF x/\bF x<=x.dep)/\bF x=bF.L1 bF (λg=>g) x.L 0+1) ?_ x
 intro x ih hx
 obtain⟨i1,i2,i3⟩:=depthL x.L 0
 have hp:=ao.np x
 have h3:=i3 ((x.dep:Int)-1) (by omega) λy hy=>by
  have h4:=ao.lB hy
  have:=(ih y hy (by omega)).1.2
  omega
 grind [bF.F,U8,depthK,wrap64]
theorem Pb(x:ao):x.dep<=1500000->∀(d D:Int),bF x<=D->∀z∈bz x d,z.depth<=d+D-1:=by
 refine ao.ind (P:=λx=>x.dep<=1500000->∀(d D:Int),bF x<=D->∀z∈bz x d,z.depth<=d+D-1) ?_ x
 intro x ih hx d D hD z hz
 obtain⟨h1,h2⟩:=Pc x hx
 rw[py]at hz
 rcases kC.1 hz with rfl|hz
 .show d<=d+D-1;omega
 .obtain⟨y,hy,hz⟩:=List.mem_flatMap.1 hz
  have h4:=ao.lB hy
  have h5:=(depthL x.L 0).2.1 y hy
  have:=ih y hy (by omega) (d+1) (D-1) (by omega) z hz
  omega
theorem U5(x:ao):dI x=dI.F dI x:=by
 refine Ft dI.F dI.go (λm=>rfl) (λf g x h=>?_) x
 funext dY
 unfold dI.F
 have:∀(k:Int->Int)(l:List ao)a,(∀y∈l,f y=g y)->dI.L1 f dY k l a=dI.L1 g dY k l a:=by
  intro k l
  induction l with
  |nil=>intros;rfl
  |cons y l ih=>
   grind [dI.L1]
 exact this _ _ _ h
def cnt(x:ao):Nat:=(bz x 1).length
theorem XC(x:ao):∀d,(bz x d).length=cnt x:=by
 refine ao.ind (P:=λx=>∀d,(bz x d).length=cnt x) ?_ x
 intro x ih d
 unfold cnt
 rw[py,py x 1,xA,xA,List.length_flatMap,List.length_flatMap]
 congr 2
 apply List.map_congr_left
 intro y hy
 rw[ih y hy,ih y hy]
theorem US(x:ao):cnt x=1+(x.L.map cnt).sum:=by
 conv=>lhs;unfold cnt
 rw[py,xA,List.length_flatMap,Nat.add_comm]
 congr 2
 apply List.map_congr_left
 intro y hy
 exact XC y _
theorem LY(x:ao):∀dY:Int,0<=dY->dY<=256->dI x dY=min (cnt x:Int) (dY+1):=by
 refine ao.ind (P:=λx=>∀dY:Int,0<=dY->dY<=256->dI x dY=min (cnt x:Int) (dY+1)) ?_ x
 intro x ih dY h0 h1
 rw[U5,US]
 unfold dI.F
 have key:∀(l:List ao)(a:Int),(∀y∈l,y∈x.L)->1<=a->a<=dY+1->dI.L1 dI dY dI.K1 l a=min (a+((l.map cnt).sum:Nat)) (dY+1):=by
  intro l
  induction l with
  |nil=>intro a _ _ ha;simp only[dI.L1,dI.K1,List.map_nil,List.sum_nil];omega
  |cons y l ih2=>
   intro a hl h2 h3
   simp only[dI.L1,Bool.cond_eq_ite,decide_eq_true_eq,kG,List.sum_cons]
   grind [dI.K1,wrap64,cnt,US]
 grind
theorem OM{x:ao}(hx:x.dep<=1500000)(h:lZ x=false):(bz x 1).length<=256/\∀z∈bz x 1,z.depth<=16:=by
 simp only[lZ,Bool.or_eq_false_iff,decide_eq_false_iff_not]at h
 have h1:=LY x 256 (by decide) (by decide)
 have h2:=Pb x hx 1 16 (by omega)
 grind [cnt]
theorem FL(s:ByteArray):∀(m i:Nat)(r:List UInt8),s.size-i=m->(ByteArray.toList.loop s i r).length=r.length+m
 |0,i,r,h=>by rw[ByteArray.toList.loop];rw[if_neg (by omega)];simp
 |m+1,i,r,h=>by
  rw[ByteArray.toList.loop,if_pos (by omega),FL s m (i+1) _ (by omega),xA]
  omega
theorem yU(s:ByteArray):s.toList.length=s.size:=by
 have:=FL s s.size 0 [] (by omega)
 simpa[ByteArray.toList]using this
theorem V5(c:Bool)(a b d:α):(bif c then(bif c then a else b)else d)=bif c then a else d:=by cases c<;>rfl
theorem W7(c x:Bool):(bif c then false else x)=(!c&&x):=by cases c<;>rfl
theorem W6(c x:Bool):(bif c then true else x)=(c||x):=by cases c<;>simp
theorem LE(s:ByteArray):fM s=(gp s&&!(vU s)):=by
 unfold fM vU
 simp only[V5]
 simp only[W7,W6,Bool.not_or,Bool.or_false]
 ac_rfl
theorem EG(c:Int):(m9 c != 2)=!(n9 c):=by grind [m9,n9]
theorem Qw(c:Int):(((m9 c != 2)&&(m9 c != 3))&&(m9 c != 5))=!(vZ c):=by grind [m9,vZ,n9,uK]
theorem MN(s:ByteArray):∀(l:List Nat)(i:Nat),gp.L1 s gp.K1 l i=jz.L1 s jz.K1 l i
 |[],i=>rfl
 |y::l,i=>by simp only[gp.L1,jz.L1,Qw,MN s l]
theorem Rb(h:jz s=true):gp s=true:=by
 unfold jz at h
 unfold gp
 rw[EG,MN]
 rw[Bool.cond_eq_ite]at h ⊢
 split at h
 .cases h
 .next hc=>
  simp only[kD,not_or,decide_eq_true_eq]at hc
  obtain⟨⟨h1,h2⟩,h3⟩:=hc
  have e:(s.toList==(⟨#[]⟩:ByteArray).toList)=false:=by
   rw[Bool.eq_false_iff]
   intro he
   have he:=eq_of_beq he
   have h9:=yU s
   rw[he,yU]at h9
   have:(⟨#[]⟩:ByteArray).size=0:=rfl
   omega
  grind
theorem Rz(h:pu s=true):fM s=true:=by
 simp only[pu,zB]at h
 rw[LE,Rb h.1,h.2];rfl
theorem Lj(s:ByteArray):∀(l:List ByteArray)(i:Nat),fE.L1 s fE.K1 l i=bq.L1 s bq.K1 l i
 |[],i=>rfl
 |y::l,i=>by
  have:(y.toList==s.toList)=(s.toList==y.toList):=by rw[jK,beq_iff_eq,beq_iff_eq];exact eq_comm
  simp only[fE.L1,bq.L1,this,Lj s l]
theorem rindex(l:List ByteArray)(s:ByteArray):fE l s=bq l s:=Lj s l 0
theorem Gm{l:List ByteArray}(h:fp l=true):bX l fM=true:=by
 have key:∀(L l:List ByteArray)(i:Nat),fp.L1 L fp.K1 l i=true->bX.L1 L fM bX.K1 l i=true:=by
  intro L l
  induction l with
  |nil=>intros;rfl
  |cons y l ih=>
   intro i h
   simp only[fp.L1,Bool.cond_eq_ite]at h
   split at h
   .cases h
   .next hc=>
    simp only[kD,not_or,kE,Bool.not_eq_false,Bool.not_eq_true]at hc
    simp only[bX.L1,Rz hc.1,←rindex,hc.2,Bool.not_true,Bool.or_self,cond_false]
    exact ih _ h
 exact key l l 0 h
theorem w9(off:List ByteArray){f g:List ByteArray->ao->Bool}(k:Bool):∀(l:List ao),(∀y∈l,f off y=g off y)->bT.L1 f off k l=bT.L1 g off k l
 |[],_=>rfl
 |y::l,h=>by simp only[bT.L1,h y (xB ..),w9 off k l λz hz=>h z (qC _ hz)]
theorem Oz(off:List ByteArray)(x:ao):bT off x=bT.F bT off x:=by
 have:=Ft (λf x=>bT.F (λ_ y=>f y) off x) (λm x=>bT.go m off x) (λm=>?_) (λf g x h=>?_) x
 .refine Eq.trans this ?_
  show bT.F _ off x=_
  unfold bT.F
  rw[w9 off (f:=λ_ y=>bT.go y.dep off y) (g:=bT) _ x.L λy hy=>rfl]
 .funext x
  show bT.F (bT.go m) off x=bT.F _ off x
  grind [bT.F,w9]
 .grind [bT.F,w9]
theorem Lx(off:List ByteArray):∀(l:List ao),bT.L1 bT off bT.K1 l=true->∀y∈l,bT off y=true
 |[],_=>λ_ h=>(jA h).elim
 |y::l,h=>by
  simp only[bT.L1,Bool.cond_eq_ite]at h
  split at h
  .cases h
  .next hc=>
   intro z hz
   rcases kC.1 hz with rfl|hz
   .simpa using hc
   .exact Lx off l h z hz
theorem Oy(off:List ByteArray)(x:ao):bT off x=true->∀d,∀z∈bz x d,((!(dH z.x))||dK off z.x.Name)=true:=by
 refine ao.ind (P:=λx=>bT off x=true->∀d,∀z∈bz x d,((!(dH z.x))||dK off z.x.Name)=true) ?_ x
 intro x ih h d z hz
 rw[Oz]at h
 unfold bT.F at h
 rw[Bool.cond_eq_ite]at h
 split at h
 .cases h
 .next hc=>
  rw[py]at hz
  rcases kC.1 hz with rfl|hz
  .show((!(dH x))||dK off x.Name)=true
   unfold dK dH
   rw[rindex]at hc
   grind
  .grind [Lx]
theorem uT(u:Bool){f g:ao->Bool->Bool}(k:Bool):∀(l:List ao),(∀y∈l,f y u=g y u)->aV.L1 f u k l=aV.L1 g u k l
 |[],_=>rfl
 |y::l,h=>by simp only[aV.L1,h y (xB ..),uT u k l λz hz=>h z (qC _ hz)]
theorem LI(x:ao)(u:Bool):aV x u=aV.F aV x u:=by
 have:=Ft (λf x=>aV.F (λy _=>f y) x u) (λm x=>aV.go m x u) (λm=>?_) (λf g x h=>?_) x
 .refine Eq.trans this ?_
  show aV.F _ x u=_
  unfold aV.F
  rw[uT u (f:=λy _=>aV.go y.dep y u) (g:=aV) _ x.L λy hy=>rfl]
 .funext x
  show aV.F (aV.go m) x u=aV.F _ x u
  grind [aV.F,uT]
 .grind [aV.F,uT]
theorem Js(u k:Bool):∀(l:List ao),aV.L1 aV u k l=true->(∀y∈l,aV y u=true)/\k=true
 |[],h=>⟨λ_ h=>(jA h).elim,h⟩
 |y::l,h=>by
  simp only[aV.L1,Bool.cond_eq_ite]at h
  split at h
  .cases h
  .next hc=>
   obtain⟨h1,h2⟩:=Js u k l h
   grind
theorem SA{x:ao}(h:aV.K1 x u=true):(ba x.Kind 1 4&&kindsP x.Kind x)=true/\(u=false->x.Kind≠4):=by
 unfold aV.K1 at h
 simp only[Bool.cond_eq_ite,beq_iff_eq]at h
 split at h
 .next e=>
  rw[e]
  refine⟨?_,λ_=>by decide⟩
  show(_&&lO x)=true
  unfold lO
  rw[h];rfl
 .split at h
  .next e=>
   rw[e]
   refine⟨?_,λ_=>by decide⟩
   show(_&&lN x)=true
   grind [lN,ba]
  .split at h
   .next e=>
    rw[e]
    refine⟨?_,λ_=>by decide⟩
    show(_&&lL x)=true
    unfold lL ba
    grind
   .split at h
    .next e=>
     rw[e]
     simp only[zB]at h
     refine⟨?_,λhu=>by rw[hu]at h;simp at h⟩
     show(_&&kx x)=true
     unfold kx ba
     grind
    .cases h
theorem LG(u:Bool)(x:ao):aV x u=true->∀d,∀z∈bz x d,(ba z.x.Kind 1 4&&kindsP z.x.Kind z.x)=true/\(u=false->z.x.Kind≠4):=by
 refine ao.ind (P:=λx=>aV x u=true->∀d,∀z∈bz x d,(ba z.x.Kind 1 4&&kindsP z.x.Kind z.x)=true/\(u=false->z.x.Kind≠4)) ?_ x
 intro x ih h d z hz
 rw[LI]at h
 obtain⟨h1,h2⟩:=Js u _ x.L h
 grind [py,SA]
theorem rl1(rec:List ByteArray->ao->ao)(off:List ByteArray)(k:List ao->ao):∀(l g:List ao),aw.L1 rec off k l g=k (g++l.map (rec off))
 |[],g=>by simp[aw.L1]
 |y::l,g=>by simp[aw.L1,rl1 rec off k l]
theorem rl2(rec:List ByteArray->ao->ao)(off:List ByteArray)(k:List ao->ao):∀(l g:List ao),aw.L2 rec off k l g=k (g++l.map (rec off))
 |[],g=>by simp[aw.L2]
 |y::l,g=>by simp[aw.L2,rl2 rec off k l]
def rno(off:List ByteArray)(x:ao):Int:=bif dH x then bq off x.Name else 0
theorem PS(rec:List ByteArray->ao->ao)(off:List ByteArray)(x:ao):aw.F rec off x=ao.mk x.Kind x.N (rno off x) x.Name (x.L.map (rec off)):=by
 unfold aw.F rno dH
 cases((x.Kind==1)||(x.Kind==2))
 .rw[cond_false,rl2];rfl
 .grind [aw.K1,rl1,rindex]
theorem FT(off:List ByteArray)(x:ao):aw off x=ao.mk x.Kind x.N (rno off x) x.Name (x.L.map (aw off)):=by
 have:=Ft (λf x=>ao.mk x.Kind x.N (rno off x) x.Name (x.L.map f)) (λm x=>aw.go m off x) (λm=>?_) (λf g x h=>?_) x
 .exact this
 .funext x
  show aw.F (aw.go m) off x=_
  rw[PS]
 .show ao.mk _ _ _ _ _=ao.mk _ _ _ _ _
  rw[List.map_congr_left h]
theorem HV(b:ao){f g:ao->ao->Bool}(k:Bool):∀(l:List ao)(i:Nat),(∀y∈l,f y=g y)->bx.L1 f b k l i=bx.L1 g b k l i
 |[],_,_=>rfl
 |y::l,i,h=>by simp only[bx.L1,h y (xB ..),HV b k l (i+1) λz hz=>h z (qC _ hz)]
theorem Q2(x:ao):bx x=bx.F bx x:=by
 refine Ft bx.F bx.go (λm=>rfl) (λf g x h=>?_) x
 grind [bx.F,HV]
theorem Q3(b:ao):∀(l:List ao)(i:Nat),bx.L1 bx b bx.K1 l i=true->∀(j:Nat)(y:ao),l[j]? = some y->bx y (nthI b.L ((i+j:Nat):Int))=true
 |[],_,_,j,y,hj=>by simp at hj
 |z::l,i,h,j,y,hj=>by
  simp only[bx.L1,Bool.cond_eq_ite]at h
  split at h
  .cases h
  .next hc=>
   cases j with
   |zero=>simp at hj;subst hj;simpa using hc
   |succ j=>have:=Q3 b l (i+1) h j y (by simpa using hj);rw[show i+(j+1)=i+1+j from by omega];exact this
theorem Vo(off:List ByteArray)(x:ao):bx (aw off x) x=true->∀d,∀z∈bz x d,z.x.No=rno off z.x:=by
 refine ao.ind (P:=λx=>bx (aw off x) x=true->∀d,∀z∈bz x d,z.x.No=rno off z.x) ?_ x
 intro x ih h d z hz
 rw[Q2,FT]at h
 unfold bx.F at h
 rw[Bool.cond_eq_ite]at h
 split at h
 .cases h
 .next hc=>
  simp only[kD,not_or,bne_iff_ne,ne_eq,Classical.not_not]at hc
  have hno:rno off x=x.No:=hc.1.1.2
  rw[py]at hz
  rcases kC.1 hz with rfl|hz
  .exact hno.symm
  .obtain⟨y,hy,hz⟩:=List.mem_flatMap.1 hz
   obtain⟨j,hj⟩:=YV hy
   have h2:=Q3 x _ 0 h j (aw off y) (by show(List.map (aw off) x.L)[j]? = _;rw[Yv,hj];rfl)
   have hlt:=(List.getElem?_eq_some_iff.1 hj).1
   have hg:=eH (xs:=x.L) (z:=((0+j:Nat):Int)) (by omega)
   grind
theorem FS{off:List ByteArray}{x:ao}(h:bx (aw off x) x=true):cJ off x=true:=by
 unfold cJ cJ.K1
 rw[tv]
 exact Vo off x h 1
def rrules(off:List ByteArray):List fg->Nat->List fg
 |[],_=>[]
 |y::l,i=>fg.mk y.Kind (i:Int) y.gf (aw off y.ao)::rrules off l (i+1)
theorem H7(off:List ByteArray):∀(l:List fg)(i j:Nat)(y:fg),l[j]? = some y->(rrules off l i)[j]? = some (fg.mk y.Kind ((i+j:Nat):Int) y.gf (aw off y.ao))
 |[],_,j,y,h=>by simp at h
 |z::l,i,0,y,h=>by simp at h;subst h;rfl
 |z::l,i,j+1,y,h=>by
  have:=H7 off l (i+1) j y (by simpa using h)
  rw[show i+(j+1)=i+1+j from by omega]
  exact this
theorem Dq(p:ay):∀(l:List fg)(i:Nat)(g:List fg),ef.L1 p (ef.K1 p) l i g=(ay.mk p.Name p.dM p.aB (g++rrules p.aB l i) (aw p.aB p.aS) p.Mode,0)
 |[],i,g=>by
  simp only[ef.L1,ef.K1,rrules,List.append_nil,ao.eta]
 |y::l,i,g=>by
  simp only[ef.L1,Dq p l,rrules,ao.eta,List.append_assoc,List.singleton_append]
theorem RV(b:ay):∀(l:List fg)(i:Nat),iU.L1 b iU.K1 l i=true->∀(j:Nat)(y:fg),l[j]? = some y->y.BQ=(nthI b.cZ ((i+j:Nat):Int)).BQ/\bx y.ao (nthI b.cZ ((i+j:Nat):Int)).ao=true
 |[],_,_,j,y,hj=>by simp at hj
 |z::l,i,h,j,y,hj=>by
  simp only[iU.L1,Bool.cond_eq_ite]at h
  split at h
  .cases h
  .next hc=>
   simp only[kD,not_or,bne_iff_ne,ne_eq,Classical.not_not,kE,Bool.not_eq_false]at hc
   cases j with
   |zero=>simp at hj;subst hj;exact⟨hc.1.1.2,hc.2⟩
   |succ j=>have:=RV b l (i+1) h j y (by simpa using hj);rw[show i+(j+1)=i+1+j from by omega];exact this
theorem Lw(p:ay)(k:Bool):∀(l:List fg),iC.L1 p k l=true->(∀r∈l,bT p.aB r.ao=true)/\k=true
 |[],h=>⟨λ_ h=>(jA h).elim,h⟩
 |y::l,h=>by
  simp only[iC.L1,Bool.cond_eq_ite]at h
  split at h
  .cases h
  .next hc=>
   obtain⟨h1,h2⟩:=Lw p k l h
   grind
theorem ON(k:Bool):∀(l:List fg),fo.L1 k l=false->∀r∈l,lZ r.ao=false
 |[],_=>λ_ h=>(jA h).elim
 |y::l,h=>by
  simp only[fo.L1,Bool.cond_eq_ite]at h
  split at h
  .cases h
  .next hc=>
   intro z hz
   rcases kC.1 hz with rfl|hz
   .simpa using hc
   .exact ON k l h z hz
theorem Jt(p:ay)(k:Bool):∀(l:List fg)(i:Nat),gv.L1 p k l i=true->(∀(j:Nat)r,l[j]? = some r->((r.Kind.toList==(nthI p.dM (((i+j:Nat):Int))).toList)=true/\0<=r.gf/\r.gf<1099511627776)/\aV r.ao true=true)/\k=true
 |[],i,h=>⟨λj r hj=>by simp at hj,h⟩
 |y::l,i,h=>by
  simp only[gv.L1,Bool.cond_eq_ite]at h
  split at h
  .cases h
  .next hc=>
   simp only[kD,not_or,decide_eq_true_eq,kE,Bool.not_eq_false]at hc
   obtain⟨h1,h2⟩:=Jt p k l (i+1) h
   grind
theorem UT(hs:smP p)(h:nS p=0):dy p=0:=by
 unfold nS at h
 rw[Bool.cond_eq_ite]at h
 split at h
 .next hc=>exact absurd h (by simpa using hc)
 .next hR=>
  rw[Bool.cond_eq_ite]at h
  split at h
  .omega
  .next hS=>
   simp only[kE,Bool.not_eq_false]at hS
   unfold ef at hR hS
   cases hl:fo p with
   |true=>rw[hl]at hR;simp at hR
   |false=>
    rw[hl]at hR hS
    cases hn:iC p with
    |false=>rw[hn]at hR;simp at hR
    |true=>
     rw[hn]at hR hS
     cases hf:gv p with
     |false=>rw[hf]at hR;simp at hR
     |true=>
      rw[hf]at hS
      simp only[Bool.not_true,cond_false,Dq,vD]at hS
      clear hR h
      unfold fo at hl
      rw[Bool.cond_eq_ite]at hl
      split at hl
      .cases hl
      .next h1=>
       simp only[kD,not_or,decide_eq_true_eq,Bool.not_eq_true]at h1
       have h2:=ON _ _ hl
       unfold iC at hn
       rw[Bool.cond_eq_ite]at hn
       split at hn
       .cases hn
       .next h3=>
        simp only[kD,not_or,kE,Bool.not_eq_false]at h3
        obtain⟨h4,h5⟩:=Lw p _ _ hn
        unfold gv at hf
        rw[Bool.cond_eq_ite]at hf
        split at hf
        .cases hf
        .next h6=>
         simp only[kD,not_or,decide_eq_true_eq,bne_iff_ne,ne_eq,Classical.not_not]at h6
         obtain⟨h7,h8⟩:=Jt p _ _ 0 hf
         unfold iU at hS
         rw[Bool.cond_eq_ite]at hS
         split at hS
         .cases hS
         .next h9=>
          simp only[kD,not_or,kE,Bool.not_eq_false]at h9
          have h10:=RV p _ 0 hS
          have hexp:∀x,x∈aJ p->(∃r∈p.cZ,r.ao=x)\/x=p.aS:=by
           intro x hx
           rw[oS]at hx
           simp only[kF,xJ,xC]at hx
           exact hx
          rw[EH,wU,DG,IM]
          refine⟨⟨⟨⟨by omega,by omega,by omega⟩,λx hx=>?_⟩,⟨⟨Rz h3.1.1,Gm h3.1.2,Gm h3.2⟩,λx hx=>?_⟩,?_⟩,λj r hj=>?_,FS h9.2⟩
          .rcases hexp x hx with⟨r,hr,rfl⟩|rfl
           .exact OM (hs.2.1 r hr) (h2 r hr)
           .exact OM hs.2.2.1 h1.2
          .rcases hexp x hx with⟨r,hr,rfl⟩|rfl
           .exact Oy p.aB _ (h4 r hr) 1
           .exact Oy p.aB _ h5 1
          .unfold bu bu.K1 bu.K2
           rw[tc,Ew,Hm]
           refine⟨?_,λj r hj=>?_,λj x hj z hz=>?_⟩
           .simp only[zB,decide_eq_true_eq,beq_iff_eq,ba]
            exact⟨⟨by omega,h6.1.1.2⟩,by omega,by omega⟩
           .have:=(h7 j r hj).1
            simp only[zB,decide_eq_true_eq,ba]
            exact⟨this.1,this.2.1,by omega⟩
           .have hlen:(aJ p).length=p.cZ.length+1:=by rw[oS];simp
            rw[oS]at hj
            rcases Nat.lt_or_ge j p.cZ.length with hjl|hjl
            .grind [LG,wrap64]
            .rw[List.getElem?_append_right (by simpa using hjl)]at hj
             have hj2:=xC.1 (List.mem_of_getElem? hj)
             subst hj2
             obtain⟨k1,k2⟩:=LG false _ h8 1 z hz
             refine⟨k1,?_⟩
             have:(z.x.Kind != 4)=true:=by simpa using k2 rfl
             rw[this,Bool.or_true]
          .have h11:=h10 j _ (H7 p.aB p.cZ 0 j r hj)
           have hlt:=(List.getElem?_eq_some_iff.1 hj).1
           have hg:=eH (xs:=p.cZ) (z:=((0+j:Nat):Int)) (by omega)
           rw[show(((0+j:Nat):Int)).toNat=j from by omega,hj]at hg
           rw[←Option.some.inj hg]at h11
           dsimp only at h11
           exact⟨by rw[←h11.1];simp,FS h11.2⟩
def U6(v:aD):Prop:=(0<=v.No/\v.No<=1048576)/\(0<=v.At/\v.At<1099511627776)/\(0<=v.fX/\v.fX<1099511627776)/\nS v.ay=0
theorem RK{L:List aD}{y:aD}{i:Nat}(h:eb.L1 L eb.K1 (y::l) i=0):U6 y/\(0<i->(nthI L ((i:Int)-1)).No<y.No)/\eb.L1 L eb.K1 l (i+1)=0:=by
 simp only[eb.L1,Bool.cond_eq_ite]at h
 split at h
 .omega
 .next hc=>
  simp only[kD,not_or,decide_eq_true_eq,zB,kE,Bool.not_eq_false,bne_iff_ne,ne_eq,Classical.not_not,sN]at hc
  obtain⟨⟨⟨⟨h1,h2⟩,h3⟩,h4⟩,h5⟩:=hc
  exact⟨⟨by omega,h3,h4,h5⟩,λhi=>by omega,h⟩
theorem RL(L:List aD):∀(l pre:List aD)(x:aD),L=(pre++[x])++l->eb.L1 L eb.K1 l (pre.length+1)=0->(∀y∈l,U6 y)/\(x::l).Pairwise (λa b=>a.No<b.No)
 |[],_,_,_,_=>⟨λ_ h=>(jA h).elim,by simp⟩
 |y::l,pre,x,h,hr=>by
  have hx:nthI L (((pre.length+1:Nat):Int)-1)=x:=by
   have hb:0<=(((pre.length+1:Nat):Int)-1)/\(((pre.length+1:Nat):Int)-1)<(L.length:Int):=by rw[h];simp;omega
   have hg:=eH hb
   grind
  obtain⟨h1,h2,h3⟩:=RK hr
  have h2:=h2 (by omega)
  rw[hx]at h2
  have ih:=RL L l (pre++[x]) y (by rw[h];simp)
  grind
theorem Po(hs:smV l)(h:eb l=0):bE l=0:=by
 rw[tV]
 unfold eb at h
 rw[Bool.cond_eq_ite]at h
 split at h
 .omega
 .next hl=>
  simp only[decide_eq_true_eq]at hl
  have key:(∀y∈l,U6 y)/\l.Pairwise (λa b=>a.No<b.No):=by
   cases l with
   |nil=>exact⟨λ_ h=>(jA h).elim,List.Pairwise.nil⟩
   |cons y l=>
    obtain⟨h1,_,h3⟩:=RK h
    obtain⟨i1,i2⟩:=RL (y::l) l [] y rfl h3
    grind
  refine⟨by omega,λv hv=>?_,key.2⟩
  have:=key.1 v hv
  obtain⟨h1,h2,h3,h4⟩:=this
  exact⟨by omega,by omega,h1,UT (hs.2 v hv) h4⟩
theorem oL{α : Type}{R:α->Bool}{no:α->Int}{c:Int}(hc:c≠0):∀(l:List α)(g:Int),prgChk R no c l g=0↔(∀y∈l,R y=true/\g<no y)/\l.Pairwise (λa b=>no a<no b)
 |[],g=>by simp[prgChk]
 |y::l,g=>by
  have ih:=oL hc l (no y) (R:=R) (no:=no)
  simp only[prgChk,Bool.cond_eq_ite,kD,kE,decide_eq_true_eq]
  split
  .grind
  .next h=>
   rw[ih]
   simp only[not_or,Bool.not_eq_false,Int.not_le]at h
   constructor
   .rintro⟨h1,h2⟩
    refine⟨λz hz=>?_,List.pairwise_cons.2 ⟨λz hz=>(h1 z hz).2,h2⟩⟩
    grind
   .rintro⟨h1,h2⟩
    obtain⟨p1,p2⟩:=List.pairwise_cons.1 h2
    grind
theorem PY{R:α->Bool}{no:α->Int}{c:Int}(hc:c≠0){l m:List α}{g:Int}(hs:m.Sublist l)(h:prgChk R no c l g=0):prgChk R no c m g=0:=by grind [oL]
theorem qp(h:e=0):exOk (lP e):=by subst h;trivial
structure iI(c:bI):Prop where
 chk:dq c.Register=0
 aP:c.aP∈c.Register.bV
 time:0<=c.at_/\c.at_<1099511627776
 know:0<=c.ah/\c.ah<1099511627776
theorem iI.good{c:bI}(h:iI c):R0 c.aP:=LP ((iQ _).1 h.chk).2.2.2.2.2.1 _ h.aP
theorem iI.vers{c:bI}(h:iI c):Gt c.Register.Versions:=(tV _).1 ((iQ _).1 h.chk).2.2.2.2.1
theorem iI.kind{c:bI}(h:iI c):0<=c.aP.Kind/\c.aP.Kind<16:=h.good.kind
theorem approvalsP(l:List ai)(g:Int):aX.L1 aX.K1 l g=prgChk eu (·.No) 280 l g:=by
 induction l generalizing g with
 |nil=>rfl
 |cons y l ih=>simp only[aX.L1,prgChk,ih]
theorem wA{l:List ai}(h:aX l=0):∀x∈l,eu x=true:=by grind [aX,approvalsP,oL]
theorem Pz{x:ai}(h:eu x=true):(0<=x.Doc/\x.Doc<4096)/\(0<=x.By/\x.By<64)/\(0<=x.For/\x.For<64)/\(0<=x.ea/\x.ea<32)/\(0<=x.At/\x.At<1099511627776):=by
 simp only[eu,dB,containsF,iz,List.any_cons,List.any_nil,Bool.or_false,zB,kE,Bool.or_eq_false_iff,decide_eq_false_iff_not]at h
 omega
theorem budgetsP(l:List Budget)(g:Int):bC.L1 bC.K1 l g=prgChk lW (·.No) 180 l g:=by
 induction l generalizing g with
 |nil=>rfl
 |cons y l ih=>simp only[bC.L1,prgChk,ih]
theorem sS{l:List Budget}(h:bC l=0):∀x∈l,lW x=true:=by grind [bC,budgetsP,oL]
theorem xX{x:Budget}(h:lW x=true):x.lC≠0:=by
 simp only[lW,cC,containsF,lq,List.any_cons,List.any_nil,Bool.or_false,Bool.cond_eq_ite]at h
 grind
theorem KN{l:List Budget}{kind t:Int}{x:Budget}(h:x∈aU l kind t ah):x∈l:=by
 have h2:∀(g:List (gq×Budget))(s acc:List Budget),x∈aU.L2 g aU.K2 s acc->x∈acc\/x∈s:=by
  intro g s
  induction s with
  |nil=>intro acc h;exact .inl h
  |cons y s ih=>
   intro acc h
   simp only[aU.L2,Bool.cond_eq_ite]at h
   grind
 have h1:∀(s:List Budget)(g:List (gq×Budget)),x∈aU.L1 kind t ah (aU.K1 l) s g->x∈l:=by
  intro s
  induction s with
  |nil=>intro g h;rcases h2 g l [] h with h|h;exact(jA h).elim;exact h
  |cons y s ih=>intro g h;simp only[aU.L1,Bool.cond_eq_ite]at h;(repeat' split at h)<;>exact ih _ h
 exact h1 _ _ h
theorem N7{l:List Budget}{kind t:Int}{x:Budget}(h:bC l=0)(hx:x∈aU l kind t ah):x.lC≠0:=xX (sS h x (KN hx))
theorem KQ{l:List ai}{aP t:Int}{x:ai}(h:x∈aF l aP t ah):x∈l:=by
 have hc:∀(s:List ai),x∈cM.L1 aP t ah cM.K1 s->x∈s:=by
  intro s
  induction s with
  |nil=>intro h;exact(jA h).elim
  |cons y s ih=>
   intro h
   simp only[cM.L1,Bool.cond_eq_ite]at h
   all_goals grind
 have h2:∀(g:List (eE×ai))(s acc:List ai),x∈aF.L2 g aF.K2 s acc->x∈acc\/x∈s:=by
  intro g s
  induction s with
  |nil=>intro acc h;exact .inl h
  |cons y s ih=>
   intro acc h
   simp only[aF.L2,Bool.cond_eq_ite]at h
   split at h
   all_goals grind
 have h1:∀(s:List ai)(g:List (eE×ai)),x∈aF.L1 (aF.K1 l aP t ah) s g->x∈l:=by
  intro s
  induction s with
  |nil=>
   intro g h
   rcases h2 g (eV l aP t ah) [] h with h|h
   .exact(jA h).elim
   .exact hc _ h
  |cons y s ih=>intro g h;simp only[aF.L1,Bool.cond_eq_ite]at h;split at h<;>exact ih _ h
 exact h1 _ _ h
theorem Nh{l:List ai}{aP t:Int}{x:ai}(h:x∈(ck l aP b th t ah).1):x∈l:=by
 unfold ck at h
 simp only[Bool.cond_eq_ite]at h
 split at h
 .exact(jA h).elim
 .split at h
  .exact(jA h).elim
  .exact KQ (vH.1 h).1
section
variable {c:bI} (h:iI c)
include h
theorem Qu{p:Int}(hp:0<=p/\p<64):(dc c.Register.dt p c.aP.ju c.at_ c.ah).2.2=0:=
 Ns ((iQ _).1 h.chk).2.2.1 hp h.good.ey h.time h.know
theorem BJ(hpr:p.cZ.length=p.dM.length/\∀y∈p.cZ,0<=y.gf/\y.gf<=1099511627775)(hk:0<=c.aP.Kind/\c.aP.Kind<(p.cZ.length:Int)):
  (ck c.Register.bO c.aP.No c.aP.At (nthI p.cZ c.aP.Kind).gf c.at_ c.ah).2=0:=by
 have hth:=hpr.2 _ (nm hk)
 have h1:=h.good.no
 have h2:=h.good.at_
 have h3:=h.time
 have h4:=h.know
 have e1:dB 4095 [c.aP.No]=true:=by
  simp only[dB,containsF,iz,List.any_cons,List.any_nil,Bool.or_false,kE,Bool.or_eq_false_iff,decide_eq_false_iff_not];omega
 have e2:dB 1099511627775 [c.aP.At,(nthI p.cZ c.aP.Kind).gf,c.at_,c.ah]=true:=by
  simp only[dB,containsF,iz,List.any_cons,List.any_nil,Bool.or_false,kE,Bool.or_eq_false_iff,decide_eq_false_iff_not];omega
 unfold ck
 rw[((iQ _).1 h.chk).2.2.2.2.2.2,e1,e2];rfl
theorem zt{d t:Int}{x:ai}(hx:x∈(ck c.Register.bO d b th t ah).1):(0<=x.Doc/\x.Doc<4096)/\(0<=x.By/\x.By<64)/\(0<=x.For/\x.For<64)/\(0<=x.ea/\x.ea<32)/\(0<=x.At/\x.At<1099511627776):=
 Pz (wA ((iQ _).1 h.chk).2.2.2.2.2.2 x (Nh hx))
theorem LR{d t:Int}{x:ai}(hx:x∈(ck c.Register.bO d b th t ah).1):0<=x.For/\x.For<64:=(zt h hx).2.2.1
theorem Pd{d t:Int}{x:ai}(hx:x∈(ck c.Register.bO d b th t ah).1):0<=x.By/\x.By<64:=(zt h hx).2.1
theorem BI{d t:Int}{x:ai}(hx:x∈(ck c.Register.bO d b th t ah).1):(ew c.Register.da x.ea x.For c.at_ c.ah).2.2.2=0:=by
 obtain⟨_,_,h2,h3,_⟩:=zt h hx
 have h4:=h.time
 have h5:=h.know
 have e1:iJ x.ea=true:=by simp only[iJ,gP,zB,decide_eq_true_eq];omega
 have e2:ky x.For=true:=by simp only[ky,gP,zB,decide_eq_true_eq];omega
 have e3:∀z:Int,0<=z/\z<1099511627776->gQ z=true:=λz hz=>by simp only[gQ,gP,zB,decide_eq_true_eq];omega
 unfold ew
 rw[((iQ _).1 h.chk).1,e1,e2,e3 _ h4,e3 _ h5]
 simp only[bne_self_eq_false,cond_false,Bool.not_true,Bool.or_false]
 cases(!(mhas (ii c.Register.da c.at_ c.ah) (YF x.ea x.For))||(mgetD (ii c.Register.da c.at_ c.ah) (YF x.ea x.For) (aQ.mk 0 0 0 0 0 0 false)).nA)<;>rfl
omit h in
theorem Pp{l:List bj}{a o v t:Int}{g:List (Int×Int)}:(aH.K1 l a o k v t n g).2.2=0:=by
 unfold aH.K1
 cases(!(mhas g a))with
 |true=>rfl
 |false=>
  rw[cond_false]
  have:∀(s:List Nat)(i:Nat)(p:List Int)(q:Int),(aH.L4 l a o k v t n g aH.K4 s i p q).2.2=0:=by
   intro s
   induction s with
   |nil=>intro i p q;rfl
   |cons y s ih=>
    intro i p q
    simp only[aH.L4]
    have:∀(L:List bj)(p:List Int)(q:Int),(aH.L6 a g i (λzg6_16 zg6_31=>aH.L4 l a o k v t n g aH.K4 s (i+1) zg6_16 zg6_31) L p q).2.2=0:=by
     intro L
     induction L with
     |nil=>intro p q;exact ih _ _ _
     |cons z L ihL=>intro p q;simp only[aH.L6,Bool.cond_eq_ite];split;exact ih _ _ _;exact ihL _ _
    exact this _ _ _
  exact this _ _ _ _
omit h in
theorem SI{l:List bj}{a o v t:Int}(h0:lm l a b (cn.mk o k v t n)=0):(aH l a b o k v t n).2.2=0:=by
 unfold aH
 rw[h0]
 simp only[bne_self_eq_false,cond_false]
 have:∀(s:List Nat)(i:Nat)(g:List (Int×Int)),(aH.L1 l o k v t n (aH.K1 l a o k v t n) s i g).2.2=0:=by
  intro s
  induction s with
  |nil=>intro i g;exact Pp
  |cons y s ih=>
   intro i g
   simp only[aH.L1]
   have:∀(L:List bj)(g:List (Int×Int)),(aH.L3 i (λzg3_b2_0=>aH.L1 l o k v t n (aH.K1 l a o k v t n) s (i+1) zg3_b2_0) L g).2.2=0:=by
    intro L
    induction L with
    |nil=>intro g;exact ih _ _
    |cons z L ihL=>intro g;simp only[aH.L3,Bool.cond_eq_ite];split<;>exact ihL _
   exact this _ _
 exact this _ _ _
theorem BK{d t:Int}{x:ai}(hx:x∈(ck c.Register.bO d b th t ah).1):
  (aH c.Register.eI x.For x.By x.ea c.aP.Kind c.aP.Value c.at_ c.ah).2.2=0:=by
 obtain⟨_,h1,h2,h3,_⟩:=zt h hx
 have h4:=h.time
 have h5:=h.know
 have h6:=h.kind
 have h7:=h.good.value
 refine SI ?_
 have e2:∀z:Int,0<=z/\z<64->ip z=true:=λz hz=>by simp only[ip,dw,zB,decide_eq_true_eq];omega
 have e3:∀z:Int,0<=z/\z<1099511627776->i8 z=true:=λz hz=>by simp only[i8,dw,zB,decide_eq_true_eq];omega
 have e4:dw x.ea 0 31=true:=by simp only[dw,zB,decide_eq_true_eq];omega
 have e5:dw c.aP.Kind 0 15=true:=by simp only[dw,zB,decide_eq_true_eq];omega
 have e6:dw c.aP.Value 0 1099511627776=true:=by simp only[dw,zB,decide_eq_true_eq];omega
 unfold lm
 rw[((iQ _).1 h.chk).2.1,e2 _ h1,e2 _ h2,e3 _ h4,e3 _ h5,e4,e5,e6];rfl
end
theorem DH{l:List av}{b:Bool}(h:((!cj l signed)||b)=false):signed.length=l.length:=by
 simp only[cj,Bool.or_eq_false_iff,Bool.not_eq_false',zB,beq_iff_eq]at h
 have:=h.1.1
 omega
def playSame(P Q:e8):Prop:=Q.shelf=P.shelf/\Q.signed=P.signed/\Q.done.length=P.done.length/\Q.lacks.length=P.lacks.length
theorem playSame.refl(P:e8):playSame P P:=⟨rfl,rfl,rfl,rfl⟩
theorem playSame.trans{P Q R:e8}(h:playSame P Q)(k:playSame Q R):playSame P R:=⟨k.1.trans h.1,k.2.1.trans h.2.1,k.2.2.1.trans h.2.2.1,k.2.2.2.trans h.2.2.2⟩
theorem rO{β : Type}(f:e8->β->e8)(hf:∀P x,playSame P (f P x)):∀(l:List β)(P:e8),playSame P (l.foldl f P)
 |[],P=>.refl P
 |x::l,P=>(hf P x).trans (rO f hf l _)
theorem Kw(sg:List Int)(i:Int)(P:e8)(no:Int):playSame P (playLack sg i P no):=by
 unfold playLack
 cases(cY P (mgetD P.shelf.at_ no 0) (nthI sg i)).1 != 0
 .exact .refl P
 .exact⟨rfl,rfl,rfl,by simp⟩
theorem MH(P:e8)(i:Int):playSame P (playMid P i):=by
 refine playSame.trans (Q:={ P with lacks:=P.lacks.set i.toNat (-1) }) ⟨rfl,rfl,rfl,by simp⟩ ?_
 exact rO _ (λQ x=>Kw _ _ _ _) _ _
theorem Kx(P:e8)(i:Int):playSame P (playDone P i):=⟨rfl,rfl,by simp[playDone],rfl⟩
theorem GN(d:av)(P:e8)(no:Int):playSame P (playRevoke d P no):=⟨rfl,rfl,rfl,rfl⟩
theorem Kv(P:e8)(i:Int):playSame P (playStep P i):=by
 have h:=(MH P i).trans (Kx (playMid P i) i)
 unfold playStep
 cases decide (nthI (playMid P i).lacks i<0)
 .exact h
 .exact h.trans (rO _ (λQ x=>GN _ _ _) _ _)
theorem FX(l:List av)(signed:List Int)(t:Int):playSame (playP l signed) (cu l signed t):=rO _ Kv _ _
theorem zb(l:List av)(signed:List Int)(t:Int):(cu l signed t).shelf=aI l:=(FX l signed t).1
theorem w7(l:List av)(signed:List Int)(t:Int):(cu l signed t).shelf.docs=l:=by
 rw[zb]
 have:∀(s:List av)(i:Nat)(g:List (Int×Int)),(aI.L1 (aI.K1 l) s i g).docs=l:=by
  intro s
  induction s with
  |nil=>intro i g;rfl
  |cons y s ih=>intro i g;exact ih _ _
 exact this _ _ _
theorem FY(l:List av)(signed:List Int)(t:Int):(cu l signed t).done.length=(cu l signed t).shelf.docs.length/\(cu l signed t).lacks.length=(cu l signed t).shelf.docs.length:=by
 have h:=FX l signed t
 rw[w7]
 exact⟨h.2.2.1.trans (by simp[playP]),h.2.2.2.trans (by simp[playP])⟩
theorem Lo{l:List av}{t:Int}{no:Int}(h:(!(mhas (cu l signed t).shelf.at_ no))=false):
  0<=mgetD (cu l signed t).shelf.at_ no 0/\mgetD (cu l signed t).shelf.at_ no 0<((cu l signed t).shelf.docs.length:Int):=by
 rw[w7]
 rw[zb]at h ⊢
 have hl:0<l.length:=by
  cases l with
  |nil=>exact Bool.noConfusion (show true=false from h)
  |cons=>simp
 have key:∀(s:List av)(i:Nat)(g:List (Int×Int)),i+s.length=l.length->(∀p∈g,0<=p.2/\p.2<(l.length:Int))->∀p∈(aI.L1 (aI.K1 l) s i g).at_,0<=p.2/\p.2<(l.length:Int):=by
  intro s
  induction s with
  |nil=>intro i g _ hg;exact hg
  |cons y s ih=>
   intro i g hi hg
   simp only[xA]at hi
   exact ih (i+1) _ (by omega) (Ba (P:=λx:Int=>0<=x/\x<(l.length:Int)) _ hg (by omega))
 exact B4 (P:=λx:Int=>0<=x/\x<(l.length:Int)) no (key l 0 [] (by simp) (λ_ h=>(jA h).elim)) (by omega)
theorem rightH(h:dW hs n=true):∀l∈hs,∀y∈l,1<=y.gG/\y.gG<=64:=by
 have h3:∀(k:List Int->Bool)(l:List cm)(g:List Int),dW.L3 k l g=true->(∀y∈l,1<=y.gG/\y.gG<=64)/\∃g',k g'=true:=by
  intro k l
  induction l with
  |nil=>exact λg h=>⟨λ_ h=>(jA h).elim,g,h⟩
  |cons y l ih=>
   intro g h
   simp only[dW.L3,Bool.cond_eq_ite]at h
   split at h
   .cases h
   .next hc=>
    simp only[kD,decide_eq_true_eq,not_or]at hc
    obtain⟨h1,h2⟩:=ih _ h
    refine⟨λz hz=>?_,h2⟩
    rcases kC.1 hz with rfl|hz
    .omega
    .exact h1 z hz
 have h1:∀(k:Bool)(l:List (List cm)),dW.L1 k l=true->∀m∈l,∀y∈m,1<=y.gG/\y.gG<=64:=by
  intro k l
  induction l with
  |nil=>exact λ_ _ h=>(jA h).elim
  |cons y l ih=>
   intro h m hm
   obtain⟨h4,g',hg⟩:=h3 _ _ _ h
   simp only[Bool.cond_eq_ite]at hg
   split at hg
   .cases hg
   .rcases kC.1 hm with rfl|hm
    .exact h4
    .exact ih hg m hm
 exact h1 _ hs h
theorem JY(q:bh)(o:Int):eT q o=(nthI q.dg o).filter λy=>q.j9.contains y.dz:=by
 have:∀l:List cm,eh.L1 q [] l=l.filter λy=>q.j9.contains y.dz:=by
  intro l
  induction l with
  |nil=>rfl
  |cons y l ih=>
   simp only[eh.L1,slices_BinarySearch_int,List.filter_cons,ih]
   cases q.j9.contains y.dz<;>rfl
 exact this _
theorem Gi{α : Type}{p p':α->Bool}:∀{l:List α},(∀x∈l,p x=true->p' x=true)->(l.filter p).Sublist (l.filter p')
 |[],_=>List.Sublist.refl _
 |x::l,h=>by
  have ih:=Gi (l:=l) λy hy=>h y (qC _ hy)
  have hx:=h x (xB ..)
  rw[List.filter_cons,List.filter_cons]
  cases h1:p x with
  |true=>rw[hx h1];exact ih.cons_cons _
  |false=>
   cases p' x with
   |true=>exact ih.cons _
   |false=>exact ih
structure U7(q q':bh):Prop where
 value:q'.value=q.value
 dg:q'.dg=q.dg
 j9:∀l∈q.dg,∀y∈l,y.dz∈q.j9->y.dz∈q'.j9
 wt:∀l∈q.dg,∀y∈l,1<=y.gG/\y.gG<=64
 len:∀l∈q.dg,l.length<=2000000
theorem D6[Inhabited α]{P:α->Prop}{l:List α}(h:∀y∈l,P y)(hd:P default)(z:Int):P (nthI l z):=by
 by_cases hz:z.toNat<l.length
 .have:nthI l z=l[z.toNat]:=by simp[nthI,List.getD_eq_getElem?_getD,hz]
  rw[this];exact h _ (List.getElem_mem _)
 .have:nthI l z=default:=by simp[nthI,List.getD_eq_getElem?_getD,hz]
  rw[this];exact hd
theorem JW{q q':bh}(h:U7 q q')(o:Int):(eT q o).Sublist (eT q' o):=by
 rw[JY,JY,h.dg]
 have hw:∀y∈nthI q.dg o,y.dz∈q.j9->y.dz∈q'.j9:=D6 (P:=λl:List cm=>∀y∈l,y.dz∈q.j9->y.dz∈q'.j9) h.j9 (λ_ h=>(jA h).elim) o
 exact Gi λy hy1 hy=>by simp only[List.contains_iff_mem]at hy ⊢;exact hw y hy1 hy
theorem U1{q q':bh}(h:U7 q q')(o:Int):(∀y∈eT q' o,1<=y.gG/\y.gG<=64)/\(eT q' o).length<=2000000:=by
 rw[JY,h.dg]
 have h1:(∀y∈nthI q.dg o,1<=y.gG/\y.gG<=64)/\(nthI q.dg o).length<=2000000:=D6 (P:=λl:List cm=>(∀y∈l,1<=y.gG/\y.gG<=64)/\l.length<=2000000) (λl hl=>⟨h.wt l hl,h.len l hl⟩) ⟨(λ_ h=>(jA h).elim),jH _⟩ o
 exact⟨λy hy=>h1.1 y (vH.1 hy).1,kK (List.length_filter_le _ _) h1.2⟩
def wsum(l:List cm):Int:=(l.map (·.gG)).sum
theorem Ma:∀{l m:List cm},l.Sublist m->(∀y∈m,1<=y.gG/\y.gG<=64)->wsum l<=wsum m
 |_,_,.slnil,_=>Int.le_refl _
 |_,_,.cons (l₂:=m) y hs,h=>by
  have ih:=Ma hs λz hz=>h z (qC _ hz)
  have:=h y (xB ..)
  simp only[wsum,kG,List.sum_cons]at ih ⊢;omega
 |_,_,.cons_cons (l₂:=m) y hs,h=>by
  have ih:=Ma hs λz hz=>h z (qC _ hz)
  simp only[wsum,kG,List.sum_cons]at ih ⊢;omega
theorem ES(k:Int->Bool):∀(l:List cm)(g:Int),0<=g->g+64*l.length<=1000000000000->(∀y∈l,1<=y.gG/\y.gG<=64)->de.L1 k l g=k (g+wsum l)
 |[],g,_,_,_=>by simp[de.L1,wsum]
 |y::l,g,h0,hb,h=>by
  have hy:=h y (xB ..)
  rw[xA]at hb
  have e:vC .i64 (g+y.gG)=g+y.gG:=wrap64 (by omega)
  simp only[de.L1,e]
  rw[ES k l _ (by omega) (by omega) λz hz=>h z (qC _ hz)]
  simp only[wsum,kG,List.sum_cons]
  rw[Int.add_assoc]
theorem T5(rec:bh->ao->Bool)(q:bh)(k:Int->Bool):∀(l:List ao)(g:Int),0<=g->g+l.length<=1000000000000->eo.L1 rec q k l g=k (g+(l.countP (rec q):Nat))
 |[],g,_,_=>by simp[eo.L1]
 |y::l,g,h0,hb=>by
  rw[xA]at hb
  have e:vC .i64 (g+1)=g+1:=wrap64 (by omega)
  simp only[eo.L1,e]
  rw[T5 rec q k l g h0 (by omega),T5 rec q k l (g+1) (by omega) (by omega),List.countP_cons]
  cases rec q y
  .simp
  .simp only[cond_true,if_true];congr 1;omega
theorem Gc{q q':bh}(h:U7 q q'):∀(m:Nat)(x:ao),x.dep<=2000000->cS.go m q x=true->cS.go m q' x=true
 |0,x,_,hx=>hx
 |m+1,x,hd,hx=>by
  have ih:=Gc h m
  simp only[cS.go,cS.F,fulQ]at hx ⊢
  split
  .next hk=>
   rw[if_pos hk]at hx
   unfold fD at hx ⊢
   have hs:=JW h x.No
   cases e:eT q x.No with
   |nil=>rw[e]at hx;cases hx
   |cons y l=>
    rw[e]at hs
    cases e2:eT q' x.No with
    |nil=>rw[e2]at hs;cases hs
    |cons z l=>rfl
  .next hk=>
   rw[if_neg hk]at hx
   split
   .next hk2=>
    rw[if_pos hk2]at hx
    unfold de at hx ⊢
    obtain⟨w1,w2⟩:=U1 h x.No
    have hs:=JW h x.No
    have hl:=hs.length_le
    rw[ES _ _ _ (Int.le_refl _) (by omega) λy hy=>w1 y (hs.subset hy)]at hx
    rw[ES _ _ _ (Int.le_refl _) (by omega) w1]
    have:=Ma hs w1
    simp only[de.K1,decide_eq_true_eq]at hx ⊢
    omega
   .next hk2=>
    rw[if_neg hk2]at hx
    split
    .next hk3=>
     rw[if_pos hk3]at hx
     unfold eo.F at hx ⊢
     have hl:=ao.P4 x
     rw[T5 _ _ _ _ _ (Int.le_refl _) (by omega)]at hx ⊢
     have:x.L.countP (cS.go m q)<=x.L.countP (cS.go m q'):=List.countP_mono_left λy hy hh=>ih y (by have:=ao.lB hy;omega) hh
     simp only[eo.K1,decide_eq_true_eq]at hx ⊢
     omega
    .next hk3=>
     rw[if_neg hk3]at hx
     unfold lG.F at hx ⊢
     have hsm:∀z,(nthI x.L z).dep<=2000000:=D6 (P:=λy:ao=>y.dep<=2000000) (λy hy=>by have:=ao.lB hy;omega) (by decide)
     rw[h.value]
     rw[Bool.cond_eq_ite]at hx ⊢
     split
     .next hc=>rw[if_pos hc]at hx;exact ih _ (hsm _) hx
     .next hc=>rw[if_neg hc]at hx;exact ih _ (hsm _) hx
theorem Nr{kind value:Int}{w w':List Int}(hp:smP p)(hl:∀l∈hs,l.length<=2000000)(hw:∀l∈hs,∀y∈l,y.dz∈w->y.dz∈w')(hw':dQ w'=true)(hk:kind<(p.cZ.length:Int))(h:((eK p kind value hs w).1&&((eK p kind value hs w).2==0))=true):((eK p kind value hs w').1&&((eK p kind value hs w').2==0))=true:=by
 unfold eK at h ⊢
 cases hc:(dy p != 0)with
 |true=>rw[hc]at h;simp at h
 |false=>
  rw[hc]at h
  simp only[cond_false]at h ⊢
  cases ha:(((decide (kind<0)||decide ((p.dM.length:Int)<=kind))||decide (value<0))||decide (1099511627776<value))with
  |true=>rw[ha]at h;simp at h
  |false=>
   rw[ha]at h
   simp only[cond_false]at h ⊢
   cases hr:dW hs (p.aB.length:Int)with
   |false=>rw[hr]at h;simp at h
   |true=>
    rw[hr]at h
    simp only[Bool.not_true,cond_false]at h ⊢
    cases hq:dQ w with
    |false=>rw[hq]at h;simp at h
    |true=>
     rw[hq]at h
     rw[hw']
     simp only[Bool.not_true,cond_false,beq_self_eq_true,Bool.and_true]at h ⊢
     simp only[Bool.or_eq_false_iff,decide_eq_false_iff_not]at ha
     have hx:(nthI p.cZ kind).ao.dep<=2000000:=kK (hp.2.1 _ (nm (by omega))) (by omega)
     exact Gc (q:=⟨value,hs,w⟩) (q':=⟨value,hs,w'⟩) ⟨rfl,rfl,hw,rightH hr,hl⟩ _ _ hx h
theorem Fw(f:Bool->Bool):∀(l:List Bool)(i:Nat),decide (0<=eN.L1 f eN.K1 l i)=l.any f
 |[],i=>rfl
 |y::l,i=>by
  have ih:=Fw f l (i+1)
  simp only[eN.L1,List.any_cons,Bool.cond_eq_ite]
  grind
def decV(mode:Int)(l:List Bool):Bool:=bif mode==4 then l.any id else bif mode==3 then l.any id&&!(l.any λb=>!b)else((l.length:Int)==1)&&nthI l 0
theorem L8(mode:Int)(l:List Bool):fK mode l=bif fN mode l != 0 then(false,fN mode l)else(decV mode l,0):=by
 have y1:decide (0<=iv l mg)=l.any id:=Fw _ l 0
 have y2:decide (0<=iv l na)=l.any λb=>!b:=Fw _ l 0
 have L1:∀(s:List Bool)i g,(bB.L1 (bB.K1 l) s i g).2=(l.any id,0):=by
  intro s
  induction s with
  |nil=>intro i g;simp only[bB.L1,bB.K1,y1]
  |cons y s ih=>intro i g;exact ih _ _
 have L2:∀(s:List Bool)i g,(bB.L2 (bB.K2 l) s i g).2=(((l.length:Int)==1)&&nthI l 0,0):=by
  intro s
  induction s with
  |nil=>intro i g;rfl
  |cons y s ih=>intro i g;exact ih _ _
 have L3:∀(s:List Bool)i g,(bB.L3 bB.K3 s i g).2=(false,0):=by
  intro s
  induction s with
  |nil=>intro i g;rfl
  |cons y s ih=>intro i g;exact ih _ _
 have e:fK mode l=(bB mode l).2:=rfl
 rw[e]
 unfold bB decV
 grind
theorem LQ{f g:α->Bool}(mode:Int){l:List α}(h:∀x∈l,f x=true->g x=true)(hd:decV mode (l.map f)=true):decV mode (l.map g)=true:=by
 have hany:(l.map f).any id=true->(l.map g).any id=true:=by
  grind
 have hno:((l.map f).any λb=>!b)=false->((l.map g).any λb=>!b)=false:=by
  grind
 unfold decV at hd ⊢
 rw[Bool.cond_eq_ite]at hd ⊢
 split
 .grind
 .next h4=>
  rw[if_neg h4,Bool.cond_eq_ite]at hd
  rw[Bool.cond_eq_ite]
  split
  .grind
  .next h3=>
   rw[if_neg h3]at hd
   match l,h,hd with
   |[],_,hd=>exact hd
   |[x],h,hd=>
    have hx:f x=true:=hd
    grind
   |x::y::l,_,hd=>
    grind
theorem Mk(l:List aG)(a b:Int):∃p:aG->Bool,dA l a b=l.filter p:=by
 have h1:∀v(l:List aG),eY.L1 v [] l=l.filter λy=>(!y.nA)&&decide (mgetD v (eR.mk y.dz y.jt y.Of) (aG.mk 0 0 0 0 0 false false)=y):=by
  intro v l
  induction l with
  |nil=>rfl
  |cons y l ih=>
   simp only[eY.L1,List.filter_cons,ih]
   grind
 have h2:∀(k:List (eR×aG)->List aG)(l:List aG)m,∃m',dA.L1 a b k l m=k m':=by
  intro k l
  induction l with
  |nil=>exact λm=>⟨m,rfl⟩
  |cons y l ih=>
   intro m
   simp only[dA.L1,Bool.cond_eq_ite]
   split
   .exact ih _
   .split
    .exact ih _
    .exact ih _
 obtain⟨m',e⟩:=h2 (dA.K1 l) l []
 exact⟨_,by unfold dA;rw[e];exact h1 m' l⟩
theorem NQ(l:List aG)(a b:Int):(dA l a b).length<=l.length:=by
 obtain⟨p,e⟩:=Mk l a b
 rw[e];exact List.length_filter_le _ _
theorem Iq_{α : Type}{k:Int}{v:α}:∀{m:List (Int×α)},k∉m.map (·.1)->(mput m k v).length=m.length+1/\∀p∈mput m k v,p=(k,v)\/p∈m
 |[],_=>by simp[mput]
 |(k',v')::m,hk=>by
  simp only[kG,kC,not_or]at hk
  obtain⟨h1,h2⟩:=Iq_ (v:=v) hk.2
  simp only[mput,hk.1,if_false,xA,h1,kC,true_and]
  grind
theorem MT(hg:yP st m q)(h:mgetD m k false=false):k∉m.map (·.1):=by
 intro hk
 obtain⟨⟨k',v⟩,hp,rfl⟩:=xJ.1 hk
 have:∀{m:List (Int×Bool)},(∀p∈m,p.2=true)->k'∈m.map (·.1)->mgetD m k' false=true:=by
  intro m
  induction m with
  |nil=>intro _ h;simp at h
  |cons p m ih=>
   intro ha hm
   obtain⟨a,b⟩:=p
   by_cases e:k'=a
   .have:=ha (a,b) (xB ..)
    simp only at this
    simp[mgetD,mget?,e,this]
   .simp only[kG,kC,e,false_or]at hm
    have:=ih (λp hp=>ha p (qC _ hp)) hm
    simpa[mgetD,mget?,e]using this
 rw[this (λp hp=>(hg.1 p hp).1) hk]at h
 cases h
theorem xe(hg:yP st m q)(hw:w.to∈st.map (·.jt))(h8:w.path.length<=8):yP st (conPut w m q).1 (conPut w m q).2:=by
 unfold conPut
 cases h:mgetD m w.to false with
 |true=>exact hg
 |false=>
  obtain⟨h1,h2⟩:=Iq_ (v:=true) (MT hg h)
  refine⟨λp hp=>?_,?_,λw' hw'=>?_⟩
  .rcases h2 p hp with rfl|hp
   .exact⟨rfl,hw⟩
   .exact hg.1 p hp
  .show(q++[w]).length<=(mput m w.to true).length
   rw[h1,vA];have:=hg.2.1;simp;omega
  .rcases kF.1 (show w'∈q++[w]from hw')with hw'|hw'
   .exact hg.2.2 w' hw'
   .rw[xC.1 hw'];exact h8
theorem BL{cap:Nat}(hg:yP st m q)(hn:(m.map (·.1)).Nodup)(hk:k∈st.map (·.jt))(hc:st.length<=cap)(h:mgetD m k false=false):q.length<cap:=by
 have h1:=MT hg h
 have h2:(k::m.map (·.1)).length<=(st.map (·.jt)).length:=BZ (xR.2 ⟨h1,hn⟩) (λx hx=>by
  rcases kC.1 hx with rfl|hx
  .exact hk
  .obtain⟨p,hp,rfl⟩:=xJ.1 hx;exact(hg.1 p hp).2)
 simp only[xA,List.length_map]at h2
 have:=hg.2.1
 omega
theorem Uc(hg:yP st m q)(hn:(m.map (·.1)).Nodup):m.length<=st.length:=by
 have:=BZ (b:=st.map (·.jt)) hn (λx hx=>by obtain⟨p,hp,rfl⟩:=xJ.1 hx;exact(hg.1 p hp).2)
 simpa using this
theorem Ni(hn:(m.map (·.1)).Nodup):((conPut w m q).1.map (·.1)).Nodup:=by grind [conPut,mgetD,sQ]
theorem Pe{N:Nat}(hg:yP st m q)(hn:(m.map (·.1)).Nodup)(hw:w.to∈st.map (·.jt))(hN:st.length<=N):
  (conPut w m q).2.length+(N-(conPut w m q).1.length)<=q.length+(N-m.length):=by
 unfold conPut
 cases h:mgetD m w.to false with
 |true=>simp
 |false=>
  obtain⟨h1,_⟩:=Iq_ (v:=true) (MT hg h)
  have h2:yP st (mput m w.to true) []:=by
   have:=xe (w:=⟨[],w.to⟩) (q:=[]) (st:=st) (m:=m) ⟨hg.1,jH _,λ_ h=>(jA h).elim⟩ hw (by simp)
   simp only[conPut,h,cond_false]at this
   exact⟨this.1,jH _,λ_ h=>(jA h).elim⟩
  have h3:=Uc h2 (sQ w.to true hn)
  grind
theorem Db(m:List (Int×α))(k j:Int)(v z:α):mgetD (mput m k v) j z=if j=k then v else mgetD m j z:=by
 induction m with
 |nil=>by_cases h:j=k<;>simp[mput,mgetD,mget?,h]
 |cons p m ih=>
  obtain⟨a,b⟩:=p
  by_cases h:k=a
  .subst h
   by_cases h2:j=k<;>simp[mput,mgetD,mget?,h2]
  .by_cases h2:j=a
   .subst h2
    have:¬j=k:=λe=>h e.symm
    simp[mput,h,mgetD,mget?,this]
   .simp only[mgetD]at ih ⊢
    simp only[mput,h,if_false,mget?,h2]
    exact ih
theorem RZ.put{f:List (Int×List aG)}(hf:RZ st f){x:aG}(hx:x∈st):RZ st (mput f k (mgetD f k []++[x])):=by
 intro j y hy
 rw[Db]at hy
 split at hy
 .rcases kF.1 hy with hy|hy
  .exact hf k y hy
  .rw[xC.1 hy];exact hx
 .exact hf j y hy
theorem BW(A B:List α)(x y:α):(A++x::y::B).Perm (y::x::(A++B)):=
 List.perm_middle.trans ((List.Perm.cons x List.perm_middle).trans (List.Perm.swap y x _))
theorem EF{st:List aG}{path:List Int}{N:Nat}(hN:st.length<=N)(h8:path.length+1<=8):∀{xs:List aG}{m:List (Int×Bool)}{q:List iu},(∀x∈xs,x∈st)->yP st m q->(m.map (·.1)).Nodup ->
  (conStep path xs m q).2.length+(N-(conStep path xs m q).1.length)<=q.length+(N-m.length)
 |[],m,q,_,_,_=>xE _
 |x::xs,m,q,hx,hg,hn=>by
  have hp:(iu.mk (path++[x.No]) x.jt).to∈st.map (·.jt):=List.mem_map_of_mem (hx x (xB ..))
  have h1:=Pe (w:=⟨path++[x.No],x.jt⟩) hg hn hp hN
  have h2:=EF (path:=path) hN h8 (xs:=xs) (λy hy=>hx y (qC _ hy)) (xe hg hp (by simpa using h8)) (Ni hn)
  simp only[conStep]
  exact kK h2 h1
def lastA(t ah:Int)(s:OSeat)(acc:Option aQ)(y:aQ):Option aQ:=
 bif(decide (y.At<=t)&&decide (y.fX<=ah))&&((y.ea==s.bw)&&(y.dz==s.bY))then(match acc with
  |none=>some y
  |some a=>bif decide (a.At<=y.At)then some y else some a)else acc
theorem OO(t ah:Int)(s:OSeat):∀(l:List aQ)(m:List (OSeat×aQ)),mget? (dp.L1 (λfh=>iW fh t ah) iV dp.K1 l m) s=l.foldl (lastA t ah s) (mget? m s)
 |[],m=>rfl
 |y::l,m=>by
  have ih:=OO t ah s l
  simp only[dp.L1,List.foldl_cons]
  rw[Bool.cond_eq_ite]
  have hkey:(iW y t ah).1=YF y.ea y.dz:=rfl
  have hcnt:(iW y t ah).2=(decide (y.At<=t)&&decide (y.fX<=ah)):=rfl
  rw[hkey,hcnt]
  by_cases hs:s=YF y.ea y.dz
  .subst hs
   have e1:((y.ea==(YF y.ea y.dz).bw)&&(y.dz==(YF y.ea y.dz).bY))=true:=by simp
   cases hc:(decide (y.At<=t)&&decide (y.fX<=ah))with
   |false=>
    rw[if_neg (by simp),ih]
    congr 1
    simp only[lastA,hc,Bool.false_and,cond_false]
   |true=>
    cases hm:mget? m (YF y.ea y.dz)with
    |none=>
     have h1:mhas m (YF y.ea y.dz)=false:=by unfold mhas;rw[hm];rfl
     rw[h1,if_pos (by simp),ih,mi,if_pos rfl]
     congr 1
     simp only[lastA,hc,e1,Bool.and_true,cond_true]
    |some a=>
     have h1:mhas m (YF y.ea y.dz)=true:=by unfold mhas;rw[hm];rfl
     have h2:mgetD m (YF y.ea y.dz) (aQ.mk 0 0 0 0 0 0 false)=a:=by unfold mgetD;rw[hm];rfl
     rw[h1,h2]
     by_cases ha:a.At<=y.At
     .have h3:iV a y=false:=by simp[iV];omega
      rw[h3,if_pos (by simp),ih,mi,if_pos rfl]
      congr 1
      have:decide (a.At<=y.At)=true:=by simpa using ha
      simp only[lastA,hc,e1,Bool.and_true,cond_true,this]
     .have h3:iV a y=true:=by simp[iV];omega
      rw[h3,if_neg (by simp),ih,hm]
      congr 1
      have:decide (a.At<=y.At)=false:=by simpa using ha
      simp only[lastA,hc,e1,Bool.and_true,cond_true,this,cond_false]
  .have e1:((y.ea==s.bw)&&(y.dz==s.bY))=false:=by
    rw[Bool.eq_false_iff]
    intro h
    simp only[zB,beq_iff_eq]at h
    exact hs (by cases s;simp only at h;rw[h.1,h.2])
   have e2:lastA t ah s (mget? m s) y=mget? m s:=by simp only[lastA,e1,Bool.and_false,cond_false]
   grind [mi]
def lastV(t ah:Int)(acc:Option aD)(y:aD):Option aD:=
 bif decide (y.At<=t)&&decide (y.fX<=ah)then(match acc with
  |none=>some y
  |some a=>bif decide (a.At<=y.At)then some y else some a)else acc
def FV(t ah:Int)(l:List aD):Option aD:=l.foldl (lastV t ah) none
structure Yt(f ah:Int)(pre:List aD)(b:Int)(m:List (Int×aD)):Prop where
 at_:∀a,FV f ah pre=some a->b=a.At
 no:FV f ah pre=none->b=-1
 beg:mget? m f=FV f ah pre
 has:∀t,f<t->(t∈m.map (·.1)↔∃y∈pre,y.At=t/\y.fX<=ah)
 get:∀t,f<t->t∈m.map (·.1)->∃v,mget? m t=some v/\FV t ah pre=some v/\v.At=t
 low:∀t,t∈m.map (·.1)->f<=t
theorem VE(s:ByteArray):jz s=gp s:=by
 rw[jK]
 refine⟨Rb,λh=>?_⟩
 unfold gp at h
 unfold jz
 rw[EG,MN]at h
 rw[Bool.cond_eq_ite]at h ⊢
 split at h
 .cases h
 .next hc=>
  simp only[kD,not_or,decide_eq_true_eq,Bool.not_eq_true]at hc
  obtain⟨⟨h1,h2⟩,h3⟩:=hc
  have hs:¬((s.size:Int)<1):=λhlt=>by
   have h9:=yU s
   have:s.toList=[]:=List.length_eq_zero_iff.1 (by omega)
   rw[this]at h1
   have e2:(⟨#[]⟩:ByteArray).toList=[]:=by
    have:=yU (⟨#[]⟩:ByteArray)
    exact List.length_eq_zero_iff.1 this
   rw[e2]at h1;simp at h1
  grind
theorem RA(s:ByteArray):pu s=fM s:=by
 rw[LE];unfold pu;rw[VE]
theorem Gn(l:List ByteArray):fp l=bX l fM:=by
 have key:∀(L l:List ByteArray)(i:Nat),fp.L1 L fp.K1 l i=bX.L1 L fM bX.K1 l i:=by
  intro L l
  induction l with
  |nil=>intros;rfl
  |cons y l ih=>intro i;simp only[fp.L1,bX.L1,RA,rindex,ih]
 exact key l l 0
theorem IN(off:List ByteArray)(x:ao):(∀z∈bz x 1,((!(dH z.x))||dK off z.x.Name)=true)->bT off x=true:=by
 refine ao.ind (P:=λx=>(∀z∈bz x 1,((!(dH z.x))||dK off z.x.Name)=true)->bT off x=true) ?_ x
 intro x ih h
 have h:=(tb (λy=>((!(dH y))||dK off y.Name)=true) x 1).1 h
 rw[Oz]
 unfold bT.F
 have hx:=h.1
 unfold dH dK at hx
 rw[Bool.cond_eq_ite,if_neg]
 .have:∀l:List ao,(∀y∈l,bT off y=true)->bT.L1 bT off bT.K1 l=true:=by
   intro l
   induction l with
   |nil=>intro _;rfl
   |cons y l ih2=>
    intro hl
    simp only[bT.L1,hl y (xB ..),Bool.not_true,cond_false]
    grind
  grind
 .rw[rindex]
  grind
theorem Ju{x:ao}(h:(ba x.Kind 1 4&&kindsP x.Kind x)=true)(h4:u=false->x.Kind≠4):aV.K1 x u=true:=by
 simp only[zB]at h
 have hb:1<=x.Kind/\x.Kind<=4:=by have:=h.1;simpa[ba]using this
 have hc:x.Kind=1\/x.Kind=2\/x.Kind=3\/x.Kind=4:=by omega
 have h2:=h.2
 unfold aV.K1
 rcases hc with e|e|e|e
 .rw[e]at h2 ⊢
  have h2:lO x=true:=h2
  grind [lO]
 .rw[e]at h2 ⊢
  have h2:lN x=true:=h2
  grind [lN,ba]
 .rw[e]at h2 ⊢
  have h2:lL x=true:=h2
  unfold lL ba at h2
  grind
 .have hu:u=true:=by
   grind
  subst hu
  rw[e]at h2 ⊢
  have h2:kx x=true:=h2
  unfold kx ba at h2
  grind
theorem Gd(u:Bool)(x:ao):(∀z∈bz x 1,(ba z.x.Kind 1 4&&kindsP z.x.Kind z.x)=true/\(u=false->z.x.Kind≠4))->aV x u=true:=by
 refine ao.ind (P:=λx=>(∀z∈bz x 1,(ba z.x.Kind 1 4&&kindsP z.x.Kind z.x)=true/\(u=false->z.x.Kind≠4))->aV x u=true) ?_ x
 intro x ih h
 have h:=(tb (λy=>(ba y.Kind 1 4&&kindsP y.Kind y)=true/\(u=false->y.Kind≠4)) x 1).1 h
 rw[LI]
 unfold aV.F
 have:∀(k:Bool)(l:List ao),(∀y∈l,aV y u=true)->aV.L1 aV u k l=k:=by
  intro k l
  induction l with
  |nil=>intro _;rfl
  |cons y l ih2=>
   intro hl
   simp only[aV.L1,hl y (xB ..),Bool.not_true,cond_false]
   grind
 grind [Ju]
theorem SE(l:List ao):∀a:Int,bF.L1 bF (λg=>g) l a=a\/∃y∈l,bF.L1 bF (λg=>g) l a=bF y:=by
 induction l with
 |nil=>intro a;exact .inl rfl
 |cons y l ih=>
  grind [bF.L1]
theorem JJ(x:ao):x.dep<=1500000->∀d:Int,∃z∈bz x d,z.depth=d+bF x-1:=by
 refine ao.ind (P:=λx=>x.dep<=1500000->∀d:Int,∃z∈bz x d,z.depth=d+bF x-1) ?_ x
 intro x ih hx d
 have hd:=(Pc x hx).2
 rw[py]
 rcases SE x.L 0 with h|⟨y,hy,h⟩
 .exact⟨⟨x,d⟩,xB ..,by rw[hd,h];show d=d+(0+1)-1;omega⟩
 .have hlt:=ao.lB hy
  obtain⟨z,hz,e⟩:=ih y hy (by omega) (d+1)
  grind
theorem P5{x:ao}(hx:x.dep<=1500000)(h1:(bz x 1).length<=256)(h2:∀z∈bz x 1,z.depth<=16):lZ x=false:=by
 unfold lZ
 rw[LY x 256 (by decide) (by decide)]
 obtain⟨z,hz,e⟩:=JJ x hx 1
 grind [Bool.or_eq_false_iff,decide_eq_false_iff_not,cnt]
theorem Sa(off:List ByteArray)(x:ao):(∀z∈bz x 1,z.x.No=rno off z.x)->bx (aw off x) x=true:=by
 refine ao.ind (P:=λx=>(∀z∈bz x 1,z.x.No=rno off z.x)->bx (aw off x) x=true) ?_ x
 intro x ih h
 have h:=(tb (λy=>y.No=rno off y) x 1).1 h
 rw[Q2,FT]
 unfold bx.F
 have e:(((((x.Kind != x.Kind)||(x.N != x.N))||(rno off x != x.No))||(!(x.Name.toList==x.Name.toList)))||(((x.L.map (aw off)).length:Int) != (x.L.length:Int)))=false:=by simp[h.1]
 show(bif(((((x.Kind != x.Kind)||(x.N != x.N))||(rno off x != x.No))||(!(x.Name.toList==x.Name.toList)))||(((x.L.map (aw off)).length:Int) != (x.L.length:Int)))then false else bx.L1 bx x bx.K1 (x.L.map (aw off)) 0)=true
 rw[e,cond_false]
 have:∀(l pre:List ao),x.L=pre++l->bx.L1 bx x bx.K1 (l.map (aw off)) pre.length=true:=by
  intro l
  induction l with
  |nil=>intro _ _;rfl
  |cons y l ih2=>
   intro pre hp
   have hy:nthI x.L (pre.length:Int)=y:=pz (by rw[hp];simp)
   have hm:y∈x.L:=by rw[hp];simp
   have:=ih2 (pre++[y]) (by rw[hp];simp)
   rw[vA,xA,jB,Nat.zero_add]at this
   simp only[kG,bx.L1,hy,ih y hm (h.2 y hm),Bool.not_true,cond_false]
   exact this
 exact this x.L [] rfl
theorem PK(l:List ByteArray):fL l l=true:=by
 have:∀(s pre:List ByteArray),l=pre++s->fL.L1 l fL.K1 s pre.length=true:=by
  intro s
  induction s with
  |nil=>intro _ _;rfl
  |cons y s ih=>
   intro pre hp
   have hy:nthI l (pre.length:Int)=y:=pz (by rw[hp];simp)
   have:=ih (pre++[y]) (by rw[hp];simp)
   rw[vA,xA,jB,Nat.zero_add]at this
   simp only[fL.L1,hy,beq_self_eq_true,Bool.not_true,cond_false]
   exact this
 unfold fL
 rw[bne_self_eq_false,cond_false]
 exact this l [] rfl
theorem H6(off:List ByteArray):∀(l:List fg)(i:Nat),(rrules off l i).length=l.length
 |[],_=>rfl
 |y::l,i=>by simp only[rrules,xA,H6 off l]
theorem Qx(hs:smP p)(h:dy p=0):nS p=0:=by
 obtain⟨h1,h2,h3⟩:=(EH p).1 h
 obtain⟨s1,s2,s3⟩:=(wU p).1 h1
 obtain⟨⟨a1,a2,a3⟩,a4⟩:=(DG p).1 s1
 obtain⟨⟨n1,n2,n3⟩,n4⟩:=(IM p).1 s2
 unfold bu bu.K1 bu.K2 at s3
 rw[tc,Ew,Hm]at s3
 obtain⟨f1,f2,f3⟩:=s3
 simp only[zB,decide_eq_true_eq,beq_iff_eq,ba]at f1
 have hlen:(aJ p).length=p.cZ.length+1:=by rw[oS];simp
 have hrule:∀r∈p.cZ,r.ao∈aJ p:=λr hr=>Jw hr
 have hch:p.aS∈aJ p:=by rw[oS];simp
 have hdep:∀x∈aJ p,x.dep<=1500000:=λx hx=>by
  rw[oS]at hx
  simp only[kF,xJ,xC]at hx
  rcases hx with⟨r,hr,rfl⟩|rfl
  .exact hs.2.1 r hr
  .exact hs.2.2.1
 have hlarge:∀x∈aJ p,lZ x=false:=λx hx=>P5 (hdep x hx) (a4 x hx).1 (a4 x hx).2
 have hT:fo p=false:=by
  unfold fo
  rw[Bool.cond_eq_ite,if_neg]
  .have:∀l:List fg,(∀r∈l,lZ r.ao=false)->fo.L1 fo.K1 l=false:=by
    intro l
    induction l with
    |nil=>intro _;rfl
    |cons y l ih=>
     intro hl
     simp only[fo.L1,hl y (xB ..),cond_false]
     exact ih λz hz=>hl z (qC _ hz)
   exact this p.cZ λr hr=>hlarge _ (hrule r hr)
  .simp only[kD,decide_eq_true_eq,not_or,hlarge _ hch,YO,not_false_eq_true,and_true]
   omega
 have hN:iC p=true:=by
  unfold iC
  rw[RA,Gn,Gn,n1,n2,n3]
  simp only[Bool.not_true,Bool.or_self,cond_false]
  have:∀(k:Bool)(l:List fg),(∀r∈l,bT p.aB r.ao=true)->iC.L1 p k l=k:=by
   intro k l
   induction l with
   |nil=>intro _;rfl
   |cons y l ih=>
    intro hl
    simp only[iC.L1,hl y (xB ..),Bool.not_true,cond_false]
    exact ih λz hz=>hl z (qC _ hz)
  rw[this _ p.cZ λr hr=>IN p.aB _ (n4 _ (hrule r hr))]
  exact IN p.aB _ (n4 _ hch)
 have hget:∀(j:Nat)(r:fg),p.cZ[j]? = some r->(aJ p)[j]? = some r.ao:=λj r hj=>by
  have hlt:=(List.getElem?_eq_some_iff.1 hj).1
  rw[oS,List.getElem?_append_left (by simpa using hlt),Yv,hj];rfl
 have hgetc:(aJ p)[p.cZ.length]? = some p.aS:=by
  rw[oS,List.getElem?_append_right (by simp)];simp
 have hFm:gv p=true:=by
  unfold gv
  rw[Bool.cond_eq_ite,if_neg]
  .have:∀(l pre:List fg),p.cZ=pre++l->gv.L1 p (gv.K1 p) l pre.length=true:=by
    intro l
    induction l with
    |nil=>
     intro pre _
     refine Gd false _ λz hz=>?_
     obtain⟨q1,q2⟩:=f3 _ _ hgetc z hz
     refine⟨q1,λ_ he=>?_⟩
     rw[hlen,wrap64 (by omega),Nat.zero_add]at q2
     have e1:decide ((p.cZ.length:Int)<((p.cZ.length+1:Nat):Int)-1)=false:=decide_eq_false (by omega)
     rw[e1,Bool.false_or,he]at q2
     simp at q2
    |cons y l ih=>
     intro pre hp
     have hj:p.cZ[pre.length]? = some y:=by rw[hp];simp
     have q:=f2 pre.length y hj
     rw[Nat.zero_add]at q
     simp only[zB,ba,decide_eq_true_eq]at q
     have hfe:aV y.ao true=true:=Gd true _ λz hz=>⟨(f3 _ _ (hget _ _ hj) z hz).1,λhh=>by cases hh⟩
     have d1:decide (y.gf<0)=false:=by simp;omega
     have d2:decide (1099511627776<=y.gf)=false:=by simp;omega
     have:=ih (pre++[y]) (by rw[hp];simp)
     rw[vA,xA,jB,Nat.zero_add]at this
     simp only[gv.L1,q.1,d1,d2,hfe,Bool.not_true,Bool.or_self,cond_false]
     exact this
   exact this p.cZ [] rfl
  .simp only[kD,decide_eq_true_eq,bne_iff_ne,not_or,ne_eq,Decidable.not_not]
   omega
 have hRes:ef p=(ay.mk p.Name p.dM p.aB (rrules p.aB p.cZ 0) (aw p.aB p.aS) p.Mode,0):=by
  unfold ef
  rw[hT,hN,hFm]
  simp only[cond_false,Bool.not_true]
  rw[Dq,vD]
 have hsame:∀x,cJ p.aB x=true->bx (aw p.aB x) x=true:=λx hx=>by
  refine Sa p.aB x ?_
  unfold cJ cJ.K1 at hx
  exact(tv p.aB _).1 hx
 have hSame:iU (ay.mk p.Name p.dM p.aB (rrules p.aB p.cZ 0) (aw p.aB p.aS) p.Mode) p=true:=by
  unfold iU
  rw[Bool.cond_eq_ite,if_neg]
  .have:∀(l pre:List fg),p.cZ=pre++l->iU.L1 p iU.K1 (rrules p.aB l pre.length) pre.length=true:=by
    intro l
    induction l with
    |nil=>intro _ _;rfl
    |cons y l ih=>
     intro pre hp
     have hy:nthI p.cZ (pre.length:Int)=y:=pz (by rw[hp];simp)
     have hj:p.cZ[pre.length]? = some y:=by rw[hp];simp
     obtain⟨g1,g2⟩:=h2 pre.length y hj
     have:=ih (pre++[y]) (by rw[hp];simp)
     rw[vA,xA,jB,Nat.zero_add]at this
     simp only[rrules,iU.L1,hy,hsame _ g2,g1,beq_self_eq_true,bne_self_eq_false,Bool.not_true,Bool.or_self,cond_false]
     exact this
   exact this p.cZ [] rfl
  .grind [rrules,PK,H6]
 unfold nS
 rw[hRes]
 dsimp only
 rw[hSame];rfl
theorem KL(hs:smV l)(h:bE l=0):eb l=0:=by
 have g:=(tV l).1 h
 have hlen:=g.len
 unfold eb
 rw[Bool.cond_eq_ite,if_neg (by simp;omega)]
 have:∀(s pre:List aD),l=pre++s->eb.L1 l eb.K1 s pre.length=0:=by
  intro s
  induction s with
  |nil=>intro _ _;rfl
  |cons y s ih=>
   intro pre hp
   have hy:y∈l:=by rw[hp];simp
   obtain⟨q1,q2,q3,q4⟩:=g.each y hy
   have hlast:(decide (0<(pre.length:Int))&&decide (y.No<=(nthI l ((pre.length:Int)-1)).No))=false:=by
    rcases List.eq_nil_or_concat pre with rfl|⟨a,x,e⟩
    .rfl
    .rw[List.concat_eq_append]at e
     subst e
     have hx:nthI l (((a++[x]).length:Int)-1)=x:=by
      rw[show(((a++[x]).length:Int)-1)=(a.length:Int)from by simp]
      exact pz (by rw[hp];simp)
     have hi:=g.inc
     grind
   have:=ih (pre++[y]) (by rw[hp];simp)
   rw[vA,xA,jB,Nat.zero_add]at this
   simp only[eb.L1,Bool.cond_eq_ite]
   rw[if_neg]
   .exact this
   .have hck:=Qx (hs.2 y hy) q4
    simp only[kD,not_or,decide_eq_true_eq,zB,kE,Bool.not_eq_false,bne_iff_ne,ne_eq,Classical.not_not,sN,hck,and_true]
    grind
 exact this l [] rfl
end Go.Sg
