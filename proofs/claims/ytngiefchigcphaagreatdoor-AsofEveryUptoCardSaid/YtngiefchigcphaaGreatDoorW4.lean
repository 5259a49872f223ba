import Derived.KernelRfl
import Derived.Test.YtngiefchigcphaaGreatDoorW1
import Derived.Test.YtngiefchigcphaaGreatDoorW2
import Derived.Test.YtngiefchigcphaaGreatDoorW3
/- A part of the proof of the law AsofEvery: where what it reads holds at most 1048576 values and letters, the call returns true and its arguments read as they did. Conditions: that bound, and that the listed table starts as the program lays it. -/
set_option linter.unusedVariables false
set_option linter.unusedSimpArgs false
namespace Go.Sg
set_option linter.unusedVariables false
def cr (dQ:Int) (low:Int) (high:Int):Bool:=(decide (low≤dQ)&&decide (dQ≤high))
def dx (dQ:Int):Bool:=(cr dQ 0 31)
def bI (dQ:Int):Bool:=(cr dQ 0 1099511627775)
def fc (dQ:Int):Bool:=(cr dQ 0 63)
def jw (x:Appoint):Bool:=(bif x.Gone then ((((((cr x.No 0 1048576)&&(bI x.At))&&(bI x.Known))&&(dx x.Office))&&(fc x.Person))&&(cr x.Weight 0 0)) else ((((((cr x.No 0 1048576)&&(bI x.At))&&(bI x.Known))&&(dx x.Office))&&(fc x.Person))&&(cr x.Weight 1 64)))
def cQ.K1  (fP:Int):Int:=0
def cQ.L1  (k:Int→Int):List Appoint→Int→Int
 | [],fP=>(k fP)
 | y1::rz1,fP=>(bif ((!(jw y1))||decide (y1.No≤fP)) then 150 else (cQ.L1  k rz1 y1.No))
def cQ (l:(List Appoint)):Int:=(bif (decide (4096 < ((l.length:Nat):Int))) then 2 else ((cQ.L1 (cQ.K1)) l (-1)))
def cS (dQ:Int) (low:Int) (high:Int):Bool:=(decide (low≤dQ)&&decide (dQ≤high))
def em (dQ:Int):Bool:=(cS dQ 0 1099511627775)
def eB (dQ:Int):Bool:=(cS dQ 0 63)
def jd (x:Deputy):Bool:=(bif ((((((((!(cS x.No 0 1048576))||(!(em x.At)))||(!(em x.Known)))||(!(eB x.From)))||(!(eB x.To)))||(x.From==x.To))||(!(cS x.Office 0 31)))||(!(cS x.Kind (-1) 15))) then false else (bif x.Gone then ((x.Until==0)&&(x.Most==0)) else ((decide (x.At < x.Until)&&decide (x.Until≤1099511627776))&&(cS x.Most 0 1099511627776))))
def df.K1  (fP:Int):Int:=0
def df.L1  (k:Int→Int):List Deputy→Int→Int
 | [],fP=>(k fP)
 | y1::rz1,fP=>(bif ((!(jd y1))||decide (y1.No≤fP)) then 160 else (df.L1  k rz1 y1.No))
def df (l:(List Deputy)):Int:=(bif (decide (4096 < ((l.length:Nat):Int))) then 2 else ((df.L1 (df.K1)) l (-1)))
def aL (dQ:Int) (limit:Int):Bool:=(decide (0≤dQ)&&decide (dQ < limit))
def iK (x:Interest):Bool:=(bif x.Of then ((((((aL x.No 1048577)&&(aL x.At 1099511627776))&&(aL x.Known 1099511627776))&&(aL x.Party 1048577))&&(aL x.Person 1048577))&&(x.Person != x.Party)) else (((((aL x.No 1048577)&&(aL x.At 1099511627776))&&(aL x.Known 1099511627776))&&(aL x.Party 1048577))&&(aL x.Person 64)))
def cv.K1  (fP:Int):Int:=0
def cv.L1  (k:Int→Int):List Interest→Int→Int
 | [],fP=>(k fP)
 | y1::rz1,fP=>(bif ((!(iK y1))||decide (y1.No≤fP)) then 290 else (cv.L1  k rz1 y1.No))
def cv (l:(List Interest)):Int:=(bif (decide (4096 < ((l.length:Nat):Int))) then 2 else ((cv.L1 (cv.K1)) l (-1)))
def bS.K1  : Int:=(-1)
def bS.L1 (f:(Int→Bool)) (k:Int):List Int→Nat→Int
 | [],i1=>(k )
 | y1::rz1,i1=>(bif (f y1) then ((i1:Nat):Int) else (bS.L1 f k rz1 ((i1+1))))
def bS (s:(List Int)) (f:(Int→Bool)):Int:=((bS.L1 f (bS.K1)) s 0)
def cJ (s:(List Int)) (f:(Int→Bool)):Bool:=decide (0≤(bS s f))
def hZ (dQ:Int) (v0:Int) (v1:Int):Bool:=(decide (dQ < v0)||decide (v1 < dQ))
def aM (least:Int) (most:Int) (l:(List Int)):Bool:=(!(cJ l (fun cG=>hZ cG least most)))
def jy (x:Budget):Bool:=(bif x.Gone then ((((((aM 0 1048576 ([x.No]))&&(aM 0 1099511627775 ([x.At,x.Known])))&&(aM (-1) 15 ([x.Kind])))&&(aM 1 1099511627776 ([x.Period])))&&(aM 0 0 ([x.Count])))&&(aM 0 0 ([x.Value]))) else ((((((aM 0 1048576 ([x.No]))&&(aM 0 1099511627775 ([x.At,x.Known])))&&(aM (-1) 15 ([x.Kind])))&&(aM 1 1099511627776 ([x.Period])))&&(aM 0 1048576 ([x.Count])))&&(aM 0 1099511627776 ([x.Value]))))
def dj.K1  (fP:Int):Int:=0
def dj.L1  (k:Int→Int):List Budget→Int→Int
 | [],fP=>(k fP)
 | y1::rz1,fP=>(bif ((!(jy y1))||decide (y1.No≤fP)) then 180 else (dj.L1  k rz1 y1.No))
def dj (l:(List Budget)):Int:=(bif (decide (4096 < ((l.length:Nat):Int))) then 2 else ((dj.L1 (dj.K1)) l (-1)))
def aZ.L2  (k:(List fC)):List fC→(List fC)
 | []=>k
 | y2::rz2=>(y2::(aZ.L2 k rz2 ))
def aZ.L3  (k:(List fC)):List fC→(List fC)
 | []=>k
 | y3::rz3=>(y3::(aZ.L3 k rz3 ))
def aZ.K1  : (List fC):=[]
def aZ.L1 (rec:Expr→Int→List fC) (depth:Int) (k:(List fC)):List Expr→(List fC)
 | []=>(k )
 | y1::rz1=>((aZ.L3 ((aZ.L1 rec depth k rz1 ))) (rec y1 (depth+1)))
def aZ.F (rec:Expr→Int→List fC) (x:Expr) (depth:Int):(List fC):=((fC.mk (Expr.mk x.Kind x.N x.No x.Name x.L) depth)::((aZ.L1 rec depth (aZ.K1)) x.L ))
def aZ.go:Nat→Expr→Int→List fC
 | 0=>fun _ _=>[]
 | m+1=>aZ.F (aZ.go m)
def cg (x:Expr) (depth:Int):List fC:=aZ.go x.dep x depth
def eD (ok:Bool) (Hy:Int):(Except Int Unit):=(bif (!ok) then (Except.error Hy) else (Except.ok ()))
def aF.K1 (p:Policy) (xy:(List Expr)):(List Expr):=(xy++[p.Change])
def aF.L1  (k:(List Expr)→(List Expr)):List Rule→(List Expr)→(List Expr)
 | [],xy=>(k xy)
 | y1::rz1,xy=>(aF.L1  k rz1 (xy++[y1.Expr]))
def aF (p:Policy):(List Expr):=((aF.L1 (aF.K1 p)) p.Rules ([]))
def cx.L2  (k:Int→(Except Int Unit)):List fC→Int→(Except Int Unit)
 | [],vS=>k vS
 | y2::rz2,vS=>(exi (eD (decide ((IntKind.wrap .i64 (vS+1))≤256)&&decide (y2.depth≤16)) 2) (fun _=>(cx.L2 k rz2 (IntKind.wrap .i64 (vS+1)))))
def cx.L3  (k:Int→(Except Int Unit)):List fC→Int→(Except Int Unit)
 | [],vR=>k vR
 | y3::rz3,vR=>(exi (eD (decide ((IntKind.wrap .i64 (vR+1))≤256)&&decide (y3.depth≤16)) 2) (fun _=>(cx.L3 k rz3 (IntKind.wrap .i64 (vR+1)))))
def cx.K1  : (Except Int Unit):=(Except.ok ())
def cx.L1  (k:(Except Int Unit)):List Expr→(Except Int Unit)
 | []=>(k )
 | y1::rz1=>((cx.L3 (fun zg3_b3_0=>(cx.L1  k rz1 ))) (cg y1 1) 0)
def cx (p:Policy):(Except Int Unit):=(exi (eD ((decide (((p.Offices.length:Nat):Int)≤32)&&decide (((p.Kinds.length:Nat):Int)≤16))&&decide (((p.Rules.length:Nat):Int)≤16)) 2) (fun _=>((cx.L1 (cx.K1)) (aF p))))
def da (x:Expr):Bool:=((x.Kind==1)||(x.Kind==2))
def ft (s:ByteArray) (c:Int):Int:=(idxByte s c)
def strings_IndexByte (s:ByteArray) (c:Int):Int:=(ft s c)
def gi (c:Int):Int:=(bif ((decide (97≤c)&&decide (c≤122))||(decide (65≤c)&&decide (c≤90))) then 2 else (bif (decide (48≤c)&&decide (c≤57)) then 3 else (bif (c==95) then 5 else (bif ((((c==32)||(c==9))||(c==10))||(c==13)) then 1 else (bif (decide (0≤(strings_IndexByte (⟨#[123,125,40,41,59,44,61,58,46,60,62,33,43,45,42,47]⟩:ByteArray) c))) then 4 else 0)))))
def cN.K1  : Bool:=true
def cN.L1 (s:ByteArray) (k:Bool):List Nat→Nat→Bool
 | [],i1=>(k )
 | y1::rz1,i1=>(bif ((((gi ((s.data.getD (((i1:Nat):Int):Int).toNat 0).toNat:Int)) != 2)&&((gi ((s.data.getD (((i1:Nat):Int):Int).toNat 0).toNat:Int)) != 3))&&((gi ((s.data.getD (((i1:Nat):Int):Int).toNat 0).toNat:Int)) != 5)) then false else (cN.L1 s k rz1 ((i1+1))))
def cN (s:ByteArray):Bool:=(bif (((s.toList==(⟨#[]⟩:ByteArray).toList)||decide (32 < ((s.size:Nat):Int)))||((gi ((s.data.getD (0:Int).toNat 0).toNat:Int)) != 2)) then false else ((cN.L1 s (cN.K1)) (List.range s.size) 0))
def dc (s:ByteArray):Bool:=(bif (s.toList==(⟨#[112,111,108,105,99,121]⟩:ByteArray).toList) then (bif (s.toList==(⟨#[112,111,108,105,99,121]⟩:ByteArray).toList) then false else (cN s)) else (bif (s.toList==(⟨#[109,111,100,101]⟩:ByteArray).toList) then (bif (s.toList==(⟨#[109,111,100,101]⟩:ByteArray).toList) then false else (cN s)) else (bif (s.toList==(⟨#[111,108,100]⟩:ByteArray).toList) then (bif (s.toList==(⟨#[111,108,100]⟩:ByteArray).toList) then false else (cN s)) else (bif (s.toList==(⟨#[110,101,119]⟩:ByteArray).toList) then (bif (s.toList==(⟨#[110,101,119]⟩:ByteArray).toList) then false else (cN s)) else (bif (s.toList==(⟨#[98,111,116,104]⟩:ByteArray).toList) then (bif (s.toList==(⟨#[98,111,116,104]⟩:ByteArray).toList) then false else (cN s)) else (bif (s.toList==(⟨#[101,105,116,104,101,114]⟩:ByteArray).toList) then (bif (s.toList==(⟨#[101,105,116,104,101,114]⟩:ByteArray).toList) then false else (cN s)) else (bif (s.toList==(⟨#[111,102,102,105,99,101]⟩:ByteArray).toList) then (bif (s.toList==(⟨#[111,102,102,105,99,101]⟩:ByteArray).toList) then false else (cN s)) else (bif (s.toList==(⟨#[107,105,110,100]⟩:ByteArray).toList) then (bif (s.toList==(⟨#[107,105,110,100]⟩:ByteArray).toList) then false else (cN s)) else (bif (s.toList==(⟨#[114,117,108,101]⟩:ByteArray).toList) then (bif (s.toList==(⟨#[114,117,108,101]⟩:ByteArray).toList) then false else (cN s)) else (bif (s.toList==(⟨#[116,104,105,110,107]⟩:ByteArray).toList) then (bif (s.toList==(⟨#[116,104,105,110,107]⟩:ByteArray).toList) then false else (cN s)) else (bif (s.toList==(⟨#[99,104,97,110,103,101]⟩:ByteArray).toList) then (bif (s.toList==(⟨#[99,104,97,110,103,101]⟩:ByteArray).toList) then false else (cN s)) else (bif (s.toList==(⟨#[115,111,109,101]⟩:ByteArray).toList) then (bif (s.toList==(⟨#[115,111,109,101]⟩:ByteArray).toList) then false else (cN s)) else (bif (s.toList==(⟨#[119,101,105,103,104,116]⟩:ByteArray).toList) then (bif (s.toList==(⟨#[119,101,105,103,104,116]⟩:ByteArray).toList) then false else (cN s)) else (bif (s.toList==(⟨#[111,102]⟩:ByteArray).toList) then (bif (s.toList==(⟨#[111,102]⟩:ByteArray).toList) then false else (cN s)) else (bif (s.toList==(⟨#[117,112,116,111]⟩:ByteArray).toList) then (bif (s.toList==(⟨#[117,112,116,111]⟩:ByteArray).toList) then false else (cN s)) else (bif (s.toList==(⟨#[101,108,115,101]⟩:ByteArray).toList) then false else (cN s)))))))))))))))))
def aQ.K1  : Int:=(-1)
def aQ.L1 (v:ByteArray) (k:Int):List ByteArray→Nat→Int
 | [],i1=>(k )
 | y1::rz1,i1=>(bif (v.toList==y1.toList) then ((i1:Nat):Int) else (aQ.L1 v k rz1 ((i1+1))))
def aQ (s:(List ByteArray)) (v:ByteArray):Int:=((aQ.L1 v (aQ.K1)) s 0)
def bE.K1  : Bool:=true
def bE.L1 (l:(List ByteArray)) (ok:(ByteArray→Bool)) (k:Bool):List ByteArray→Nat→Bool
 | [],i1=>(k )
 | y1::rz1,i1=>(bif ((!(ok y1))||((aQ l y1) != ((i1:Nat):Int))) then false else (bE.L1 l ok k rz1 ((i1+1))))
def bE (l:(List ByteArray)) (ok:(ByteArray→Bool)):Bool:=((bE.L1 l ok (bE.K1)) l 0)
def dr (s:(List ByteArray)) (v:ByteArray):Bool:=decide (0≤(aQ s v))
def cy.L2 (p:Policy) (k:(Except Int Unit)):List fC→(Except Int Unit)
 | []=>k
 | y2::rz2=>(exi (eD ((!(da y2.x))||(dr p.Offices y2.x.Name)) 201) (fun _=>(cy.L2 p k rz2 )))
def cy.L3 (p:Policy) (k:(Except Int Unit)):List fC→(Except Int Unit)
 | []=>k
 | y3::rz3=>(exi (eD ((!(da y3.x))||(dr p.Offices y3.x.Name)) 201) (fun _=>(cy.L3 p k rz3 )))
def cy.K1  : (Except Int Unit):=(Except.ok ())
def cy.L1 (p:Policy) (k:(Except Int Unit)):List Expr→(Except Int Unit)
 | []=>(k )
 | y1::rz1=>((cy.L3 p ((cy.L1 p k rz1 ))) (cg y1 1))
def cy (p:Policy):(Except Int Unit):=(exi (eD (((dc p.Name)&&(bE p.Offices dc))&&(bE p.Kinds dc)) 201) (fun _=>((cy.L1 p (cy.K1)) (aF p))))
def aR (dQ:Int) (low:Int) (high:Int):Bool:=(decide (low≤dQ)&&decide (dQ≤high))
def kY (x0:Expr):Bool:=false
def jB (x:Expr):Bool:=((x.N==0)&&(((x.L.length:Nat):Int)==0))
def jA (x:Expr):Bool:=((aR x.N 1 4096)&&(((x.L.length:Nat):Int)==0))
def jz (x:Expr):Bool:=(((x.Name.toList==(⟨#[]⟩:ByteArray).toList)&&(aR ((x.L.length:Nat):Int) 1 16))&&(aR x.N 1 ((x.L.length:Nat):Int)))
def iS (x:Expr):Bool:=(((x.Name.toList==(⟨#[]⟩:ByteArray).toList)&&(((x.L.length:Nat):Int)==2))&&(aR x.N 0 1099511627776))
def kindsP (i:Int) (x:Expr):Bool:=if i=0 then kY x else if i=1 then jB x else if i=2 then jA x else if i=3 then jz x else iS x
def bD.L3 (p:Policy) (k:(Except Int Unit)):List fC→(Except Int Unit)
 | []=>k
 | y3::rz3=>(exi (eD ((aR y3.x.Kind 1 4)&&(kindsP y3.x.Kind y3.x)) 200) (fun _=>(exi (eD (decide (0 < (IntKind.wrap .i64 ((((aF p).length:Nat):Int) - 1)))||(y3.x.Kind != 4)) 200) (fun _=>(bD.L3 p k rz3 )))))
def bD.L4 (p:Policy) (i2:Nat) (k:(Except Int Unit)):List fC→(Except Int Unit)
 | []=>k
 | y4::rz4=>(exi (eD ((aR y4.x.Kind 1 4)&&(kindsP y4.x.Kind y4.x)) 200) (fun _=>(exi (eD (decide (((i2:Nat):Int) < (IntKind.wrap .i64 ((((aF p).length:Nat):Int) - 1)))||(y4.x.Kind != 4)) 200) (fun _=>(bD.L4 p i2 k rz4 )))))
def bD.K2  : (Except Int Unit):=(Except.ok ())
def bD.L2 (p:Policy) (k:(Except Int Unit)):List Expr→Nat→(Except Int Unit)
 | [],i2=>(k )
 | y2::rz2,i2=>((bD.L4 p i2 ((bD.L2 p k rz2 ((i2+1))))) (cg y2 1))
def bD.K1 (p:Policy):(Except Int Unit):=((bD.L2 p (bD.K2)) (aF p) 0)
def bD.L1 (p:Policy) (k:(Except Int Unit)):List Rule→Nat→(Except Int Unit)
 | [],i1=>(k )
 | y1::rz1,i1=>(exi (eD ((y1.Kind.toList==(nthI p.Kinds ((i1:Nat):Int)).toList)&&(aR y1.Think 0 1099511627775)) 200) (fun _=>(bD.L1 p k rz1 ((i1+1)))))
def bD (p:Policy):(Except Int Unit):=(exi (eD ((decide (0 < ((p.Kinds.length:Nat):Int))&&(((p.Rules.length:Nat):Int)==((p.Kinds.length:Nat):Int)))&&(aR p.Mode 1 4)) 200) (fun _=>((bD.L1 p (bD.K1 p)) p.Rules 0)))
def di (p:Policy):(Except Int Unit):=(exi (cx p) (fun _=>(exi (cy p) (fun _=>(exi (bD p) (fun _=>(Except.ok ())))))))
def au.K1 (offices:(List ByteArray)) (x:Expr) (ji:(List Expr)):Expr:=(Expr.mk x.Kind x.N (aQ offices x.Name) x.Name ji)
def au.L1 (rec:(List ByteArray)→Expr→Expr) (offices:(List ByteArray)) (k:(List Expr)→Expr):List Expr→(List Expr)→Expr
 | [],ji=>(k ji)
 | y1::rz1,ji=>(au.L1 rec offices k rz1 (ji++[(rec offices y1)]))
def au.K2 (x:Expr) (jh:(List Expr)):Expr:=(Expr.mk x.Kind x.N 0 x.Name jh)
def au.L2 (rec:(List ByteArray)→Expr→Expr) (offices:(List ByteArray)) (k:(List Expr)→Expr):List Expr→(List Expr)→Expr
 | [],jh=>(k jh)
 | y2::rz2,jh=>(au.L2 rec offices k rz2 (jh++[(rec offices y2)]))
def au.F (rec:(List ByteArray)→Expr→Expr) (offices:(List ByteArray)) (x:Expr):Expr:=(bif (da (Expr.mk x.Kind x.N 0 x.Name x.L)) then ((au.L1 rec offices (au.K1 offices x)) x.L ([])) else ((au.L2 rec offices (au.K2 x)) x.L ([])))
def au.go:Nat→(List ByteArray)→Expr→Expr
 | 0=>fun _ _=>default
 | m+1=>au.F (au.go m)
def au (offices:(List ByteArray)) (x:Expr):Expr:=au.go x.dep offices x
def dl.K1 (p:Policy) (kj:(List Rule)):(Policy×Int):=((Policy.mk p.Name p.Kinds p.Offices kj (Expr.mk ((au p.Offices p.Change).Kind) ((au p.Offices p.Change).N) ((au p.Offices p.Change).No) ((au p.Offices p.Change).Name) ((au p.Offices p.Change).L)) p.Mode),0)
def dl.L1 (p:Policy) (k:(List Rule)→(Policy×Int)):List Rule→Nat→(List Rule)→(Policy×Int)
 | [],i1,kj=>(k kj)
 | y1::rz1,i1,kj=>(dl.L1 p k rz1 ((i1+1)) (kj++[(Rule.mk y1.Kind ((i1:Nat):Int) y1.Think (Expr.mk ((au p.Offices y1.Expr).Kind) ((au p.Offices y1.Expr).N) ((au p.Offices y1.Expr).No) ((au p.Offices y1.Expr).Name) ((au p.Offices y1.Expr).L)))]))
def dl (p:Policy):(Policy×Int):=(bif ((attR (di p)) != 0) then ((Policy.mk (⟨#[]⟩:ByteArray) ([]) ([]) ([]) (Expr.mk 0 0 0 (⟨#[]⟩:ByteArray) ([])) 0),(attR (di p))) else ((dl.L1 p (dl.K1 p)) p.Rules 0 ([])))
def cf.K1  : Bool:=true
def cf.L1 (offices:(List ByteArray)) (k:Bool):List fC→Bool
 | []=>k
 | y1::rz1=>(bif (da y1.x) then (bif (y1.x.No != (aQ offices y1.x.Name)) then false else (cf.L1 offices k rz1 )) else (bif (y1.x.No != 0) then false else (cf.L1 offices k rz1 )))
def cf (offices:(List ByteArray)) (x:Expr):Bool:=((cf.L1 offices (cf.K1)) (cg x 1))
def cC.K1 (p:Policy):Int:=(bif (!(cf p.Offices p.Change)) then 200 else 0)
def cC.L1 (p:Policy) (k:Int):List Rule→Nat→Int
 | [],i1=>(k )
 | y1::rz1,i1=>(bif ((y1.KindNo != ((i1:Nat):Int))||(!(cf p.Offices y1.Expr))) then 200 else (cC.L1 p k rz1 ((i1+1))))
def cC (p:Policy):Int:=(bif ((dl p).2 != 0) then (dl p).2 else ((cC.L1 p (cC.K1 p)) p.Rules 0))
def bz.K1  (fP:Int):Int:=0
def bz.L1  (k:Int→Int):List Version→Int→Int
 | [],fP=>(k fP)
 | y1::rz1,fP=>(bif ((((!(aR y1.No (IntKind.wrap .i64 (fP+1)) 1048576))||(!(aR y1.At 0 1099511627775)))||(!(aR y1.Known 0 1099511627775)))||((cC y1.Policy) != 0)) then 200 else (bz.L1  k rz1 y1.No))
def bz (l:(List Version)):Int:=(bif (decide (256 < ((l.length:Nat):Int))) then 2 else ((bz.L1 (bz.K1)) l (-1)))
def bv.K1 (l:(List Document)) (dt:(List (Int×Int))):gq:=(gq.mk l dt)
def bv.L1  (k:(List (Int×Int))→gq):List Document→Nat→(List (Int×Int))→gq
 | [],i1,dt=>(k dt)
 | y1::rz1,i1,dt=>(bv.L1  k rz1 ((i1+1)) (mput dt y1.No ((i1:Nat):Int)))
def bv (l:(List Document)):gq:=((bv.L1 (bv.K1 l)) l 0 ([]))
def eY (t:Int):Bool:=(decide (0≤t)&&decide (t < 1099511627776))
def cD.K1 (l:(List Int)) (iM:Int):Bool:=decide (((l.length:Nat):Int)≤16)
def cD.L1 (limit:Int) (k:Int→Bool):List Int→Int→Bool
 | [],iM=>(k iM)
 | y1::rz1,iM=>(bif (decide (y1≤iM)||decide (limit≤y1)) then false else (cD.L1 limit k rz1 y1))
def cD (l:(List Int)) (limit:Int):Bool:=((cD.L1 limit (cD.K1 l)) l (-1))
def fF (d:Document):Bool:=((((((((((((decide (0≤d.No)&&decide (d.No < 4096))&&(eY d.At))&&decide (0≤d.Kind))&&decide (d.Kind < 16))&&decide (0≤d.Value))&&decide (d.Value≤1099511627776))&&decide (0≤d.From))&&decide (d.From < d.Until))&&decide (d.Until≤1099511627776))&&(cD d.Parties 1048577))&&(cD d.Revokes d.No))&&(cD d.Needs d.No))
def dU (no:Int) (v0:gq):Bool:=(!(mhas v0.at_ no))
def eu (s:gq) (d:Document):Bool:=((!(cJ d.Revokes (fun cG=>dU cG s)))&&(!(cJ d.Needs (fun cG=>dU cG s))))
def cn.K1  : Int:=0
def cn.L1 (l:(List Document)) (k:Int):List Document→Nat→Int
 | [],i1=>(k )
 | y1::rz1,i1=>(bif (((!(fF y1))||(decide (0 < ((i1:Nat):Int))&&decide (y1.No≤(nthI l (((i1:Nat):Int) - 1)).No)))||(!(eu (bv l) y1))) then 170 else (cn.L1 l k rz1 ((i1+1))))
def cn (l:(List Document)):Int:=(bif (decide (4096 < ((l.length:Nat):Int))) then 2 else ((cn.L1 l (cn.K1)) l 0))
def gR (dQ:Int) (v0:Int):Bool:=(decide (dQ < 0)||decide (v0 < dQ))
def cw (most:Int) (l:(List Int)):Bool:=(!(cJ l (fun cG=>gR cG most)))
def iL (x:Approval):Bool:=(((((cw 1048576 ([x.No]))&&(cw 1099511627775 ([x.At,x.Known])))&&(cw 4095 ([x.Doc])))&&(cw 63 ([x.By,x.For])))&&(cw 31 ([x.Office])))
def cz.K1  (fP:Int):Int:=0
def cz.L1  (k:Int→Int):List Approval→Int→Int
 | [],fP=>(k fP)
 | y1::rz1,fP=>(bif ((!(iL y1))||decide (y1.No≤fP)) then 280 else (cz.L1  k rz1 y1.No))
def cz (l:(List Approval)):Int:=(bif (decide (4096 < ((l.length:Nat):Int))) then 2 else ((cz.L1 (cz.K1)) l (-1)))
def fp.K1  : Int:=0
def fp.L1 (aP:Register) (k:Int):List Nat→Nat→Int
 | [],i1=>(k )
 | y1::rz1,i1=>(bif ((nthI ([(cQ aP.Appoints),(df aP.Deputies),(cv aP.Interests),(dj aP.Budgets),(bz aP.Versions),(cn aP.Docs),(cz aP.Approvals)]) ((i1:Nat):Int)) != 0) then 300 else (fp.L1 aP k rz1 ((i1+1))))
def fp (aP:Register):Int:=((fp.L1 aP (fp.K1)) (List.range 7) 0)
def jC (t:Int):Bool:=(decide (0≤t)&&decide (t < 1099511627776))
def ab.K1  : Int:=(-1)
def ab.L1 (f:(Document→Bool)) (k:Int):List Document→Nat→Int
 | [],i1=>(k )
 | y1::rz1,i1=>(bif (f y1) then ((i1:Nat):Int) else (ab.L1 f k rz1 ((i1+1))))
def ab (s:(List Document)) (f:(Document→Bool)):Int:=((ab.L1 f (ab.K1)) s 0)
def aK (d:Document) (v0:Int):Bool:=(d.No==v0)
def cT (aP:Register) (doc:Int) (known:Int):(aU×Bool):=(bif (decide ((ab aP.Docs (fun cG=>aK cG doc)) < 0)||(!(jC known))) then ((aU.mk (Register.mk ([]) ([]) ([]) ([]) ([]) ([]) ([])) (Document.mk 0 0 0 0 0 0 ([]) ([]) ([]) (fun _=>0)) 0),false) else ((aU.mk (Register.mk aP.Appoints aP.Deputies aP.Interests aP.Budgets aP.Versions aP.Docs aP.Approvals) (Document.mk ((nthI aP.Docs (ab aP.Docs (fun cG=>aK cG doc))).No) ((nthI aP.Docs (ab aP.Docs (fun cG=>aK cG doc))).At) ((nthI aP.Docs (ab aP.Docs (fun cG=>aK cG doc))).Kind) ((nthI aP.Docs (ab aP.Docs (fun cG=>aK cG doc))).Value) ((nthI aP.Docs (ab aP.Docs (fun cG=>aK cG doc))).From) ((nthI aP.Docs (ab aP.Docs (fun cG=>aK cG doc))).Until) ((nthI aP.Docs (ab aP.Docs (fun cG=>aK cG doc))).Parties) ((nthI aP.Docs (ab aP.Docs (fun cG=>aK cG doc))).Revokes) ((nthI aP.Docs (ab aP.Docs (fun cG=>aK cG doc))).Needs) ((nthI aP.Docs (ab aP.Docs (fun cG=>aK cG doc))).Text)) known),true))
def fy.K1  (fP:Int):Bool:=true
def fy.L1  (k:Int→Bool):List Int→Int→Bool
 | [],fP=>(k fP)
 | y1::rz1,fP=>(bif (decide (y1≤fP)||decide (64≤y1)) then false else (fy.L1  k rz1 y1))
def fy (who:(List Int)):Bool:=((fy.L1 (fy.K1)) who (-1))
def cmp_isNaN_int (x:Int):Bool:=(x != x)
def aX.K1  : (List Span):=[]
def aX.L1 (l:(List Int)) (k:(List Span)):List Int→Nat→(List Span)
 | [],i1=>(k )
 | y1::rz1,i1=>(bif (decide ((((i1+1):Nat):Int) < ((l.length:Nat):Int))) then (bif (decide (y1 < (min 1099511627776 (nthI l (((i1+1):Nat):Int))))) then ((Span.mk y1 (min 1099511627776 (nthI l (((i1+1):Nat):Int))))::(aX.L1 l k rz1 ((i1+1)))) else (aX.L1 l k rz1 ((i1+1)))) else (bif (decide (y1 < 1099511627776)) then ((Span.mk y1 1099511627776)::(aX.L1 l k rz1 ((i1+1)))) else (aX.L1 l k rz1 ((i1+1)))))
def aX (l:(List Int)):(List Span):=((aX.L1 l (aX.K1)) l 0)
def aH.L4 (q:aU) (k:(List (Int×Bool))→(List Span)):List Rule→(List (Int×Bool))→(List Span)
 | [],pP=>(k pP)
 | y4::rz4,pP=>(aH.L4 q k rz4 (mput pP (q.doc.At+y4.Think) true))
def aH.L5 (q:aU) (k:(List (Int×Bool))→(List Span)):List Rule→(List (Int×Bool))→(List Span)
 | [],jg=>(k jg)
 | y5::rz5,jg=>(aH.L5 q k rz5 (mput jg (q.doc.At+y5.Think) true))
def aH.K3  (iN:(List (Int×Bool))):(List Span):=(aX (sortI (iN.map Prod.fst)))
def aH.L3 (q:aU) (k:(List (Int×Bool))→(List Span)):List Version→(List (Int×Bool))→(List Span)
 | [],iN=>(k iN)
 | y3::rz3,iN=>((aH.L5 q (fun zg5_b2_0=>(aH.L3 q k rz3 zg5_b2_0))) y3.Policy.Rules (mput iN y3.At true))
def aH.K2 (q:aU) (jQ:(List (Int×Bool))):(List Span):=((aH.L3 q (aH.K3)) q.Register.Versions jQ)
def aH.L2  (k:(List (Int×Bool))→(List Span)):List Interest→(List (Int×Bool))→(List Span)
 | [],jQ=>(k jQ)
 | y2::rz2,jQ=>(aH.L2  k rz2 (mput jQ y2.At true))
def aH.K1 (q:aU) (dt:(List (Int×Bool))):(List Span):=((aH.L2 (aH.K2 q)) q.Register.Interests dt)
def aH.L1  (k:(List (Int×Bool))→(List Span)):List Appoint→(List (Int×Bool))→(List Span)
 | [],dt=>(k dt)
 | y1::rz1,dt=>(aH.L1  k rz1 (mput dt y1.At true))
def aH (q:aU):(List Span):=((aH.L1 (aH.K1 q)) q.Register.Appoints (mput (mput (mput ([]) 0 true) q.doc.At true) q.doc.Until true))
def dw.K1  (fP:Int):Bool:=true
def dw.L1  (k:Int→Bool):List Int→Int→Bool
 | [],fP=>(k fP)
 | y1::rz1,fP=>(bif (decide (y1≤fP)||decide (64≤y1)) then false else (dw.L1  k rz1 y1))
def dw (who:(List Int)):Bool:=((dw.L1 (dw.K1)) who (-1))
def de.L2  (k:(List Int)→Bool):List Holder→(List Int)→Bool
 | [],H4=>(k H4)
 | y2::rz2,H4=>(bif (decide (y2.Weight < 1)||decide (64 < y2.Weight)) then false else (de.L2  k rz2 (H4++[y2.Person])))
def de.L3  (k:(List Int)→Bool):List Holder→(List Int)→Bool
 | [],yp=>(k yp)
 | y3::rz3,yp=>(bif (decide (y3.Weight < 1)||decide (64 < y3.Weight)) then false else (de.L3  k rz3 (yp++[y3.Person])))
def de.K1 (holders:(List (List Holder))) (offices:Int):Bool:=(((holders.length:Nat):Int)==offices)
def de.L1  (k:Bool):List (List Holder)→Bool
 | []=>(k )
 | y1::rz1=>((de.L3 (fun zg3_7=>(bif (!(dw zg3_7)) then false else (de.L1  k rz1 )))) y1 ([]))
def de (holders:(List (List Holder))) (offices:Int):Bool:=((de.L1 (de.K1 holders offices)) holders )
def bZ.K1  : (List Holder):=[]
def bZ.L1 (q:bx) (k:(List Holder)):List Holder→(List Holder)
 | []=>(k )
 | y1::rz1=>(bif ((slices_BinarySearch_int q.who y1.Person).2) then (y1::(bZ.L1 q k rz1 )) else (bZ.L1 q k rz1 ))
def bZ (q:bx) (office:Int):(List Holder):=((bZ.L1 q (bZ.K1)) (nthI q.holders office))
def fH (q:bx) (office:Int):(List Holder):=(bZ q office)
def dT.K1  (aV:Bool):Bool:=false
def dT.L1  (k:Bool→Bool):List Holder→Bool→Bool
 | [],aV=>k aV
 | y1::rz1,aV=>true
def dT (q:bx) (x:Expr):Bool:=((dT.L1 (dT.K1)) (fH q x.No) false)
def dJ.K1 (x:Expr) (aV:Int):Bool:=decide (x.N≤aV)
def dJ.L1  (k:Int→Bool):List Holder→Int→Bool
 | [],aV=>k aV
 | y1::rz1,aV=>(dJ.L1 k rz1 (IntKind.wrap .i64 (aV+y1.Weight)))
def dJ (q:bx) (x:Expr):Bool:=((dJ.L1 (dJ.K1 x)) (fH q x.No) 0)
def ef.K1 (x:Expr) (iM:Int):Bool:=decide (x.N≤iM)
def ef.L1 (rec:bx→Expr→Bool) (q:bx) (k:Int→Bool):List Expr→Int→Bool
 | [],iM=>(k iM)
 | y1::rz1,iM=>(bif (rec q y1) then (ef.L1 rec q k rz1 (IntKind.wrap .i64 (iM+1))) else (ef.L1 rec q k rz1 iM))
def ef.F (rec:bx→Expr→Bool) (q:bx) (x:Expr):Bool:=((ef.L1 rec q (ef.K1 x)) x.L 0)
def iQ.F (rec:bx→Expr→Bool) (q:bx) (x:Expr):Bool:=(bif (decide (q.value≤x.N)) then (rec q (nthI x.L 0)) else (rec q (nthI x.L 1)))
def fulQ (rec:bx→Expr→Bool) (q:bx) (x:Expr):Bool:=if x.Kind=1 then dT q x else if x.Kind=2 then dJ q x else if x.Kind=3 then ef.F rec q x else iQ.F rec q x
def dv.F (rec:bx→Expr→Bool) (q:bx) (x:Expr):Bool:=(fulQ rec q x)
def dv.go:Nat→bx→Expr→Bool
 | 0=>fun _ _=>default
 | m+1=>dv.F (dv.go m)
def dv (q:bx) (x:Expr):Bool:=dv.go x.dep q x
def bi (p:Policy) (kind:Int) (value:Int) (holders:(List (List Holder))) (who:(List Int)):(Bool×Int):=(bif ((cC p) != 0) then (false,(cC p)) else (bif (((decide (kind < 0)||decide (((p.Kinds.length:Nat):Int)≤kind))||decide (value < 0))||decide (1099511627776 < value)) then (false,1) else (bif (!(de holders ((p.Offices.length:Nat):Int))) then (false,210) else (bif (!(dw who)) then (false,1) else ((dv (bx.mk value holders who) ((nthI p.Rules kind).Expr)),0)))))
def gG (l:(List Version)) (old:Bool):(List Version):=l
def f9 (l:(List Version)) (old:Bool):(List Version):=(bif (!old) then [] else (l.take ((1:Int)).toNat))
def gF (l:(List Version)) (old:Bool):(List Version):=(l.drop (((((l.length:Nat):Int) - 1):Int)).toNat)
def jm  : (List (Int×Value)):=(mput (mput (mput (mput ([]) 1 (Value.func (.func 143) #[] #[])) 2 (Value.func (.func 144) #[] #[])) 3 (Value.func (.func 142) #[] #[])) 4 (Value.func (.func 142) #[] #[]))
def judgesP (mode:Int) (l:List Version) (old:Bool):List Version:=bif mode==1 then f9 l old else bif mode==2 then gF l old else gG l old
def gN (mode:Int) (permits:(List Bool)):Int:=(bif (!(mhas jm mode)) then 270 else (bif (decide (256 < ((permits.length:Nat):Int))) then 1 else 0))
def dG.K1  : Int:=(-1)
def dG.L1 (f:(Bool→Bool)) (k:Int):List Bool→Nat→Int
 | [],i1=>(k )
 | y1::rz1,i1=>(bif (f y1) then ((i1:Nat):Int) else (dG.L1 f k rz1 ((i1+1))))
def dG (s:(List Bool)) (f:(Bool→Bool)):Int:=((dG.L1 f (dG.K1)) s 0)
def bR (l:(List Bool)) (ok:(Bool→Bool)):Int:=(dG l ok)
def dz (Dm:Bool):Bool:=Dm
def eM (Dm:Bool):Bool:=(!Dm)
def bo.K1 (permits:(List Bool)) (m9:(List Int)):((List Int)×Bool×Int):=(m9,decide (0≤(bR permits dz)),0)
def bo.L1  (k:(List Int)→((List Int)×Bool×Int)):List Bool→Nat→(List Int)→((List Int)×Bool×Int)
 | [],i1,m9=>(k m9)
 | y1::rz1,i1,m9=>(bo.L1  k rz1 ((i1+1)) (m9++[((i1:Nat):Int)]))
def bo.K2 (permits:(List Bool)) (xl:(List Int)):((List Int)×Bool×Int):=(xl,((((permits.length:Nat):Int)==1)&&(nthI permits 0)),0)
def bo.L2  (k:(List Int)→((List Int)×Bool×Int)):List Bool→Nat→(List Int)→((List Int)×Bool×Int)
 | [],i2,xl=>(k xl)
 | y2::rz2,i2,xl=>(bo.L2  k rz2 ((i2+1)) (xl++[((i2:Nat):Int)]))
def bo.K3  (xg:(List Int)):((List Int)×Bool×Int):=(xg,false,0)
def bo.L3  (k:(List Int)→((List Int)×Bool×Int)):List Bool→Nat→(List Int)→((List Int)×Bool×Int)
 | [],i3,xg=>(k xg)
 | y3::rz3,i3,xg=>(bo.L3  k rz3 ((i3+1)) (xg++[((i3:Nat):Int)]))
def bo (mode:Int) (permits:(List Bool)):((List Int)×Bool×Int):=(bif ((gN mode permits) != 0) then ([],false,(gN mode permits)) else (bif ((mode==4)&&decide (0≤(bR permits dz))) then ([(bR permits dz)],true,0) else (bif ((mode==3)&&decide (0≤(bR permits eM))) then ([(bR permits eM)],false,0) else (bif (mode==3) then ((bo.L1 (bo.K1 permits)) permits 0 ([])) else (bif (mode != 4) then ((bo.L2 (bo.K2 permits)) permits 0 ([])) else ((bo.L3 (bo.K3)) permits 0 ([])))))))
def dC (mode:Int) (permits:(List Bool)):(Bool×Int):=((bo mode permits).2.1,(bo mode permits).2.2)
def bU.K1 (person:Int) (parties:(List Int)) (cM:Int) (known:Int) (vo:Int):Int:=(bif ((((!(aL person 64))||decide (16 < ((parties.length:Nat):Int)))||(!(aL cM 1099511627776)))||(!(aL known 1099511627776))) then 1 else 0)
def bU.L1  (k:Int→Int):List Int→Int→Int
 | [],vo=>(k vo)
 | y1::rz1,vo=>(bif (decide (y1≤vo)||decide (1048576 < y1)) then 1 else (bU.L1  k rz1 y1))
def bU (l:(List Interest)) (person:Int) (parties:(List Int)) (cM:Int) (known:Int):Int:=(bif ((cv l) != 0) then (cv l) else ((bU.L1 (bU.K1 person parties cM known)) parties (-1)))
def bL.K1  : (List Interest):=[]
def bL.L1 (v1:(List (dA×Interest))) (k:(List Interest)):List Interest→(List Interest)
 | []=>(k )
 | y1::rz1=>(bif ((!y1.Gone)&&(decide ((mgetD v1 (dA.mk y1.Person y1.Party y1.Of) (Interest.mk 0 0 0 0 0 false false))=y1))) then (y1::(bL.L1 v1 k rz1 )) else (bL.L1 v1 k rz1 ))
def bL (v0:(List Interest)) (v1:(List (dA×Interest))):(List Interest):=((bL.L1 v1 (bL.K1)) v0 )
def cd.K1 (l:(List Interest)) (dt:(List (dA×Interest))):(List Interest):=(bL l dt)
def cd.L1 (io:Int) (known:Int) (k:(List (dA×Interest))→(List Interest)):List Interest→(List (dA×Interest))→(List Interest)
 | [],dt=>(k dt)
 | y1::rz1,dt=>(bif (decide (io < y1.At)||decide (known < y1.Known)) then (cd.L1 io known k rz1 dt) else (bif ((!(mhas dt (dA.mk y1.Person y1.Party y1.Of)))||decide ((mgetD dt (dA.mk y1.Person y1.Party y1.Of) (Interest.mk 0 0 0 0 0 false false)).At≤y1.At)) then (cd.L1 io known k rz1 (mput dt (dA.mk y1.Person y1.Party y1.Of) y1)) else (cd.L1 io known k rz1 dt)))
def cd (l:(List Interest)) (io:Int) (known:Int):(List Interest):=((cd.L1 io known (cd.K1 l)) l ([]))
def conPut (w:fR) (m:List (Int×Bool)) (q:List fR):List (Int×Bool)×List fR:=bif mgetD m w.to false then (m,q) else (mput m w.to true,q++[w])
def conFill (person:Int):List Interest→List (Int×List Interest)→List (Int×Bool)→List fR→List (Int×List Interest)×List (Int×Bool)×List fR
 | [],f,m,q=>(f,m,q)
 | x::l,f,m,q=>bif x.Of then conFill person l (mput f x.Person (mgetD f x.Person []++[x])) m q
  else bif x.Person==person then conFill person l f (conPut ⟨[x.No],x.Party⟩ m q).1 (conPut ⟨[x.No],x.Party⟩ m q).2 else conFill person l f m q
def conStep (path:List Int):List Interest→List (Int×Bool)→List fR→List (Int×Bool)×List fR
 | [],m,q=>(m,q)
 | x::l,m,q=>conStep path l (conPut ⟨path++[x.No],x.Party⟩ m q).1 (conPut ⟨path++[x.No],x.Party⟩ m q).2
def conLoop (parties:List Int) (f:List (Int×List Interest)):Nat→List (Int×Bool)→List fR→List Int×Bool
 | 0,_,_=>([],false)
 | _+1,_,[]=>([],false)
 | n+1,m,w::q=>bif parties.contains w.to then (w.path,true) else bif ((w.path.length:Nat):Int)==8 then conLoop parties f n m q
  else conLoop parties f n (conStep w.path (mgetD f w.to []) m q).1 (conStep w.path (mgetD f w.to []) m q).2
def conFind (l:List Interest) (person:Int) (parties:List Int) (st:List Interest):List Int×Bool:=
 conLoop parties (conFill person st [] [] []).1 (l.length+1) (conFill person st [] [] []).2.1 (conFill person st [] [] []).2.2
def cL (l:List Interest) (person:Int) (parties:List Int) (cM:Int) (known:Int):List Int×Bool×Int:=
 bif bU l person parties cM known != 0 then ([],false,bU l person parties cM known)
 else ((conFind l person parties (cd l cM known)).1,(conFind l person parties (cd l cM known)).2,0)
def pu (h:HF):List Value→List fR→Prop
 | [],[]=>True
 | v::vs,w::ws=>(∃ r,v=.agg (fR.cells w r).toArray∧fR.ok h w r)∧pu h vs ws
 | _,_=>False
def V3 (_:HF) (v:Value) (x:Option Addr×Nat×Nat):Prop:=v=.slice x.1 x.2.1 x.2.2
def FR (h:HF):List (Int×Option Addr×Nat×Nat)→List (Int×List Interest)→LH→Prop
 | [],[],G=>G=[]
 | (k,x)::m,(k',xs)::f,G=>k=k'∧x.2.1=xs.length∧∃ G1 G2,G=G1++G2∧ep Interest.rp 61 h xs x.1 x.2.2 G1∧FR h m f G2
 | _,_,_=>False
def px (st:List Interest) (m:List (Int×Bool)) (q:List fR):Prop:=(∀ p∈m,p.2=true∧p.1∈st.map (·.Party))∧q.length≤m.length∧∀ w∈q,w.path.length≤8
def Ej (st:List Interest) (f:List (Int×List Interest)):Prop:=∀ k,∀ x∈mgetD f k [],x∈st
def bj (dQ:Int) (q:aU) (at_:Int):Bool:=(((cL q.Register.Interests dQ q.doc.Parties at_ q.known).2.2 != 0)||(cL q.Register.Interests dQ q.doc.Parties at_ q.known).2.1)
def bq (s:List Int) (del:Int→Bool):List Int:=s.filter fun x=>!(del x)
def du (dQ:Int):Bool:=(decide (0≤dQ)&&decide (dQ < 1099511627776))
def bA.K2  : (List (Int×Version)):=[]
def bA.L2 (db:(List (Int×Version))) (k:(List (Int×Version))):List Int→(List (Int×Version))
 | []=>(k )
 | y2::rz2=>((y2,(mgetD db y2 (Version.mk 0 0 0 (Policy.mk (⟨#[]⟩:ByteArray) [] [] [] (Expr.mk 0 0 0 (⟨#[]⟩:ByteArray) []) 0))))::(bA.L2 db k rz2 ))
def bA.K1  (m8:Int) (db:(List (Int×Version))):(List (Int×Version)):=((bA.L2 db (bA.K2)) (sortI (db.map Prod.fst)))
def bA.L1 (known:Int) (eE:Int) (k:Int→(List (Int×Version))→(List (Int×Version))):List Version→Int→(List (Int×Version))→(List (Int×Version))
 | [],m8,db=>(k m8 db)
 | y1::rz1,m8,db=>(bif (decide (known < y1.Known)) then (bA.L1 known eE k rz1 m8 db) else (bif (decide (y1.At≤eE)) then (bif (decide (y1.At < m8)) then (bA.L1 known eE k rz1 m8 db) else (bA.L1 known eE k rz1 y1.At (mput db eE y1))) else (bA.L1 known eE k rz1 m8 (mput db y1.At y1))))
def bA (l:(List Version)) (known:Int) (eE:Int):(List (Int×Version)):=((bA.L1 known eE (bA.K1)) l (-1) ([]))
def fa (l:(List Version)) (pS:Int) (known:Int):(List (Int×Version)):=(bA l known pS)
def aA.K2 (aV:(List Version)) (vK:(List Int)):((List Int)×Int×Int):=((sortI vK),(nthI aV (((aV.length:Nat):Int) - 1)).Policy.Mode,0)
def aA.L2  (k:(List Int)→((List Int)×Int×Int)):List Version→(List Int)→((List Int)×Int×Int)
 | [],vK=>(k vK)
 | y2::rz2,vK=>(aA.L2  k rz2 (vK++[y2.No]))
def aA.K1  (fx:Bool) (aV:(List Version)):((List Int)×Int×Int):=(bif (((aV.length:Nat):Int)==0) then ([],0,0) else ((aA.L2 (aA.K2 aV)) (judgesP ((nthI aV (((aV.length:Nat):Int) - 1)).Policy.Mode) aV fx) ([])))
def aA.L1 (begun:Int) (bQ:Int) (k:Bool→(List Version)→((List Int)×Int×Int)):List (Int×Version)→Bool→(List Version)→((List Int)×Int×Int)
 | [],fx,aV=>k fx aV
 | y1::rz1,fx,aV=>(bif (decide (bQ < y1.1)) then (k fx aV) else (aA.L1 begun bQ k rz1 (fx||(y1.1==begun)) (aV++[y1.2])))
def aA (l:(List Version)) (begun:Int) (bQ:Int) (known:Int):((List Int)×Int×Int):=(bif ((bz l) != 0) then ([],0,(bz l)) else (bif ((((!(du begun))||(!(du bQ)))||(!(du known)))||decide (bQ < begun)) then ([],0,1) else ((aA.L1 begun bQ (aA.K1)) (fa l begun known) false ([]))))
def dN.K1  : Int:=(-1)
def dN.L1 (v:Int) (k:Int):List Int→Nat→Int
 | [],i1=>(k )
 | y1::rz1,i1=>(bif (v==y1) then ((i1:Nat):Int) else (dN.L1 v k rz1 ((i1+1))))
def dN (s:(List Int)) (v:Int):Int:=((dN.L1 v (dN.K1)) s 0)
def et (s:(List Int)) (v:Int):Bool:=decide (0≤(dN s v))
def aC.K1 (q:aU) (io:Int) (m9:(List Policy)):((List Policy)×Int):=(m9,(aA q.Register.Versions q.doc.At io q.known).2.1)
def aC.L1 (q:aU) (io:Int) (k:(List Policy)→((List Policy)×Int)):List Version→(List Policy)→((List Policy)×Int)
 | [],m9=>(k m9)
 | y1::rz1,m9=>(bif (et ((aA q.Register.Versions q.doc.At io q.known).1) y1.No) then (aC.L1 q io k rz1 (m9++[y1.Policy])) else (aC.L1 q io k rz1 m9))
def aC (q:aU) (io:Int):((List Policy)×Int):=(bif ((aA q.Register.Versions q.doc.At io q.known).2.2 != 0) then ([],0) else ((aC.L1 q io (aC.K1 q io)) q.Register.Versions ([])))
def cu.K1  (db:(List Holder)):(List Holder):=db
def cu.L1  (k:(List Holder)→(List Holder)):List Holder→(List Holder)→(List Holder)
 | [],db=>k db
 | y1::rz1,db=>(cu.L1 k rz1 (db++[y1]))
def cu (seq:(List Holder)):(List Holder):=((cu.L1 (cu.K1)) seq ([]))
def fd (seq:(List Holder)):(List Holder):=(cu seq)
def cmp_Compare_int (x:Int) (y:Int):Int:=(bif (cmp_isNaN_int x) then (bif (cmp_isNaN_int y) then 0 else (-1)) else (bif (cmp_isNaN_int y) then 1 else (bif (decide (x < y)) then (-1) else (bif (decide (y < x)) then 1 else 0))))
def bT.K1  : (List Holder):=[]
def bT.L1 (m:(List (OSeat×Appoint))) (office:Int) (k:(List Holder)):List OSeat→(List Holder)
 | []=>(k )
 | y1::rz1=>(bif ((y1.office==office)&&(!((mgetD m y1 (Appoint.mk 0 0 0 0 0 0 false)).Gone))) then ((Holder.mk ((mgetD m y1 (Appoint.mk 0 0 0 0 0 0 false)).Person) ((mgetD m y1 (Appoint.mk 0 0 0 0 0 0 false)).Weight))::(bT.L1 m office k rz1 )) else (bT.L1 m office k rz1 ))
def bT (m:(List (OSeat×Appoint))) (office:Int):(List Holder):=((bT.L1 m office (bT.K1)) (seatS (m.map Prod.fst)))
def gU (m:(List (OSeat×Appoint))) (office:Int):(List Holder):=(bT m office)
def eR (x:Appoint) (v0:Int) (v1:Int):(OSeat×Bool):=((OSeat.mk x.Office x.Person),(decide (x.At≤v0)&&decide (x.Known≤v1)))
def ct.K1  (db:(List (OSeat×Appoint))):(List (OSeat×Appoint)):=db
def ct.L1 (key:(Appoint→OSeat×Bool)) (later:(Appoint→Appoint→Bool)) (k:(List (OSeat×Appoint))→(List (OSeat×Appoint))):List Appoint→(List (OSeat×Appoint))→(List (OSeat×Appoint))
 | [],db=>(k db)
 | y1::rz1,db=>(bif ((key y1).2&&((!(mhas db ((key y1).1)))||(!(later (mgetD db ((key y1).1) (Appoint.mk 0 0 0 0 0 0 false)) y1)))) then (ct.L1 key later k rz1 (mput db ((key y1).1) y1)) else (ct.L1 key later k rz1 db))
def ct (l:(List Appoint)) (key:(Appoint→OSeat×Bool)) (later:(Appoint→Appoint→Bool)):(List (OSeat×Appoint)):=((ct.L1 key later (ct.K1)) l ([]))
def ig (a:Appoint) (gv:Appoint):Bool:=decide (gv.At < a.At)
def e7 (l:(List Appoint)) (io:Int) (known:Int):(List (OSeat×Appoint)):=(ct l (fun cG=>eR cG io known) ig)
def cm (l:(List Appoint)) (office:Int) (bQ:Int) (known:Int):((List Holder)×Int):=(bif ((cQ l) != 0) then ([],(cQ l)) else (bif (((!(dx office))||(!(bI bQ)))||(!(bI known))) then ([],1) else ((fd (gU (e7 l bQ known) office)),0)))
def aD.K1  (m8:(List (List Holder))):(List (List Holder)):=m8
def aD.L1 (q:aU) (bQ:Int) (k:(List (List Holder))→(List (List Holder))):List ByteArray→Nat→(List (List Holder))→(List (List Holder))
 | [],i1,m8=>(k m8)
 | y1::rz1,i1,m8=>(aD.L1 q bQ k rz1 ((i1+1)) (m8++[(cm q.Register.Appoints ((i1:Nat):Int) bQ q.known).1]))
def aD (q:aU) (p:Policy) (bQ:Int):(List (List Holder)):=((aD.L1 q bQ (aD.K1)) p.Offices 0 ([]))
def bu.K1 (q:aU) (bQ:Int) (oQ:(List Bool)):Bool:=((dC ((aC q bQ).2) oQ).1&&((dC ((aC q bQ).2) oQ).2==0))
def bu.L1 (q:aU) (who:(List Int)) (bQ:Int) (k:(List Bool)→Bool):List Policy→(List Bool)→Bool
 | [],oQ=>(k oQ)
 | y1::rz1,oQ=>(bif (decide (q.doc.Kind < ((y1.Rules.length:Nat):Int))&&decide ((q.doc.At+(nthI y1.Rules q.doc.Kind).Think)≤bQ)) then (bu.L1 q who bQ k rz1 (oQ++[((bi y1 q.doc.Kind q.doc.Value (aD q y1 bQ) (bq who (fun cG=>bj cG q bQ))).1&&((bi y1 q.doc.Kind q.doc.Value (aD q y1 bQ) (bq who (fun cG=>bj cG q bQ))).2==0))])) else (bu.L1 q who bQ k rz1 (oQ++[(decide (q.doc.Kind < ((y1.Rules.length:Nat):Int))&&decide ((q.doc.At+(nthI y1.Rules q.doc.Kind).Think)≤bQ))])))
def bu (q:aU) (who:(List Int)) (bQ:Int):Bool:=(bif (decide (bQ < q.doc.At)||decide (q.doc.Until≤bQ)) then false else ((bu.L1 q who bQ (bu.K1 q bQ)) ((aC q bQ).1) ([])))
def bp.K1  (aV:(List Span)):((List Span)×Int):=(aV,0)
def bp.L1 (aP:Register) (doc:Int) (who:(List Int)) (known:Int) (k:(List Span)→((List Span)×Int)):List Span→(List Span)→((List Span)×Int)
 | [],aV=>k aV
 | y1::rz1,aV=>(bif (!(bu ((cT aP doc known).1) who y1.From)) then (bp.L1 aP doc who known k rz1 aV) else (bif (decide (0 < ((aV.length:Nat):Int))&&((nthI aV (((aV.length:Nat):Int) - 1)).Until==y1.From)) then (bp.L1 aP doc who known k rz1 (aV.set ((((aV.length:Nat):Int) - 1):Int).toNat (Span.mk (nthI aV (((aV.length:Nat):Int) - 1)).From y1.Until))) else (bp.L1 aP doc who known k rz1 (aV++[y1]))))
def bp (aP:Register) (doc:Int) (who:(List Int)) (known:Int):((List Span)×Int):=(bif ((fp aP) != 0) then ([],300) else (bif ((!((cT aP doc known).2))||(!(fy who))) then ([],1) else ((bp.L1 aP doc who known (bp.K1)) (aH ((cT aP doc known).1)) ([]))))
def aY.L3  (k:(List (Int×Bool))→(List Int)):List Holder→(List (Int×Bool))→(List Int)
 | [],iN=>(k iN)
 | y3::rz3,iN=>(aY.L3  k rz3 (mput iN y3.Person true))
def aY.L4  (k:(List (Int×Bool))→(List Int)):List Holder→(List (Int×Bool))→(List Int)
 | [],pP=>(k pP)
 | y4::rz4,pP=>(aY.L4  k rz4 (mput pP y4.Person true))
def aY.L2  (k:(List (Int×Bool))→(List Int)):List (List Holder)→(List (Int×Bool))→(List Int)
 | [],jQ=>(k jQ)
 | y2::rz2,jQ=>((aY.L4 (fun zg4_b2_0=>(aY.L2  k rz2 zg4_b2_0))) y2 jQ)
def aY.L7  (k:(List (Int×Bool))→(List Int)):List Holder→(List (Int×Bool))→(List Int)
 | [],nr=>(k nr)
 | y7::rz7,nr=>(aY.L7  k rz7 (mput nr y7.Person true))
def aY.L5  (k:(List (Int×Bool))→(List Int)):List (List Holder)→(List (Int×Bool))→(List Int)
 | [],jg=>(k jg)
 | y5::rz5,jg=>((aY.L7 (fun zg7_b2_0=>(aY.L5  k rz5 zg7_b2_0))) y5 jg)
def aY.K1 (person:Int) (dt:(List (Int×Bool))):(List Int):=(sortI ((mdel dt person).map Prod.fst))
def aY.L1 (q:aU) (bQ:Int) (k:(List (Int×Bool))→(List Int)):List Policy→(List (Int×Bool))→(List Int)
 | [],dt=>(k dt)
 | y1::rz1,dt=>((aY.L5 (fun zg5_b2_0=>(aY.L1 q bQ k rz1 zg5_b2_0))) (aD q y1 bQ) dt)
def aY (q:aU) (person:Int) (bQ:Int):(List Int):=(bif (decide (bQ < q.doc.At)) then [] else ((aY.L1 q bQ (aY.K1 person)) ((aC q bQ).1) ([])))
def tryP (c:List Int→Bool) (help:List Int):Nat→Nat→List Int→Option (List Int)
 | 0,_,ws=>bif c ws then some ws else none
 | m+1,fr,ws=>(List.range' fr (help.length - m - fr)).findSome? fun i=>tryP c help m (i+1) (ws++[nthI help ((i:Nat):Int)])
def needC (q:aU) (person at_:Int) (ws:List Int):Bool:=bu q (sortI (ws++[person])) at_
def needLoop (c:List Int→Bool) (help:List Int):Option (List Int):=(List.range' 0 (help.length+1)).findSome? fun many=>tryP c help many 0 []
def aj (aP:Register) (doc:Int) (person:Int) (cM:Int) (known:Int):List Int×Bool×Int:=
 bif (fp aP) != 0 then ([],false,300)
 else bif ((((!((cT aP doc known).2))||decide (person < 0))||decide (64≤person))||(!(jC cM))) then ([],false,1)
 else bif decide (12 < (((aY (cT aP doc known).1 person cM).length:Nat):Int)) then ([],false,2)
 else match needLoop (needC (cT aP doc known).1 person cM) (aY (cT aP doc known).1 person cM) with
  | some l=>(l,true,0)
  | none=>([],false,0)
def ad  : Register:=(Register.mk ([(Appoint.mk 1 0 0 0 1 1 false),(Appoint.mk 2 0 0 0 2 1 false),(Appoint.mk 3 20 30 0 3 1 false)]) ([]) ([]) ([]) ([(Version.mk 7 0 0 (Policy.mk (⟨#[112]⟩:ByteArray) ([(⟨#[107]⟩:ByteArray)]) ([(⟨#[104,101,97,100]⟩:ByteArray)]) ([(Rule.mk (⟨#[107]⟩:ByteArray) 0 5 (Expr.mk 2 2 0 (⟨#[104,101,97,100]⟩:ByteArray) ([])))]) (Expr.mk 2 2 0 (⟨#[104,101,97,100]⟩:ByteArray) ([])) 2))]) ([(Document.mk 4 10 0 0 0 100 ([6]) ([]) ([]) (fun _=>0))]) ([]))
def eU.K1  : Bool:=true
def eU.L1 (gv:(List Span)) (k:Bool):List Span→Nat→Bool
 | [],i1=>(k )
 | y1::rz1,i1=>(bif (!(decide (y1=(nthI gv ((i1:Nat):Int))))) then false else (eU.L1 gv k rz1 ((i1+1))))
def eU (a:(List Span)) (gv:(List Span)):Bool:=(bif (((a.length:Nat):Int) != ((gv.length:Nat):Int)) then false else ((eU.L1 gv (eU.K1)) a 0))
def dF (aP:Register) (known:Int) (who:(List Int)) (want:(List Span)):Bool:=(((bp aP 4 who known).2==0)&&(eU ((bp aP 4 who known).1) want))
def mD  : Bool:=(bif (((((((((((((bp (Register.mk ([]) ([]) ([]) ([]) ([]) ([]) ([])) 0 ([]) 0).2 != 1)||((aj (Register.mk ([]) ([]) ([]) ([]) ([]) ([]) ([])) 0 0 0 0).2.2 != 1))||((bp (Register.mk ([(Appoint.mk 0 0 0 0 0 0 false)]) ([]) ([]) ([]) ([]) ([]) ([])) 0 ([]) 0).2 != 300))||((bp ad 4 ([2,1]) 0).2 != 1))||((aj ad 4 3 20 30).2.2 != 0))||((aj ad 4 3 20 29).2.2 != 0))||((aj ad 4 1 14 30).2.2 != 0))||((aj ad 4 1 15 30).2.2 != 0))||(!((aj ad 4 3 20 30).2.1)))||(!((aj ad 4 3 20 29).2.1)))||(aj ad 4 1 14 30).2.1)||(!((aj ad 4 1 15 30).2.1))) then false else (bif (((((((((((aj ad 4 3 20 30).1).length:Nat):Int) != 1)||((nthI ((aj ad 4 3 20 30).1) 0) != 1))||(((((aj ad 4 1 15 30).1).length:Nat):Int) != 1))||((nthI ((aj ad 4 1 15 30).1) 0) != 2))||(((((aj ad 4 3 20 29).1).length:Nat):Int) != 2))||((nthI ((aj ad 4 3 20 29).1) 0) != 1))||((nthI ((aj ad 4 3 20 29).1) 1) != 2)) then false else (bif (((((!(dF ad 0 ([1,2]) ([(Span.mk 15 100)])))||(!(dF ad 30 ([1,3]) ([(Span.mk 20 100)]))))||(!(dF ad 29 ([1,3]) ([]))))||(!(dF ad 0 ([9]) ([]))))||(!(dF ad 0 ([]) ([])))) then false else ((dF (Register.mk ad.Appoints ad.Deputies ([(Interest.mk 1 40 0 2 6 false false),(Interest.mk 2 50 0 2 6 false true)]) ad.Budgets ad.Versions ad.Docs ad.Approvals) 0 ([1,2]) ([(Span.mk 15 40),(Span.mk 50 100)]))&&(dF (Register.mk ad.Appoints ad.Deputies ad.Interests ad.Budgets ([]) ad.Docs ad.Approvals) 0 ([1,2]) ([]))))))
def eN.K1  (iM:Int):Int:=iM
def eN.L1 (rec:Expr→Int→Int) (limit:Int) (k:Int→Int):List Expr→Int→Int
 | [],iM=>(k iM)
 | y1::rz1,iM=>(bif (decide (iM≤limit)) then (eN.L1 rec limit k rz1 (IntKind.wrap .i64 (iM+(rec y1 (IntKind.wrap .i64 (limit - iM)))))) else (k iM))
def eN.F (rec:Expr→Int→Int) (x:Expr) (limit:Int):Int:=((eN.L1 rec limit (eN.K1)) x.L 1)
def eN.go:Nat→Expr→Int→Int
 | 0=>fun _ _=>default
 | m+1=>eN.F (eN.go m)
def eN (x:Expr) (limit:Int):Int:=eN.go x.dep x limit
def cH.L2  (k:Bool):List Rule→Bool
 | []=>(k )
 | y2::rz2=>(bif (decide (40 < (eN y2.Expr 40))) then false else (cH.L2  k rz2 ))
def cH.L3  (k:Bool):List Rule→Bool
 | []=>(k )
 | y3::rz3=>(bif (decide (40 < (eN y3.Expr 40))) then false else (cH.L3  k rz3 ))
def cH.K1  : Bool:=true
def cH.L1  (k:Bool):List Version→Bool
 | []=>(k )
 | y1::rz1=>(bif (((decide (20 < ((y1.Policy.Kinds.length:Nat):Int))||decide (40 < ((y1.Policy.Offices.length:Nat):Int)))||decide (20 < ((y1.Policy.Rules.length:Nat):Int)))||decide (40 < (eN y1.Policy.Change 40))) then false else ((cH.L3 ((cH.L1  k rz1 ))) y1.Policy.Rules ))
def cH (l:(List Version)):Bool:=(bif (decide (5 < ((l.length:Nat):Int))) then false else ((cH.L1 (cH.K1)) l ))
def gV.K1  : Bool:=true
def gV.L1  (k:Bool):List Document→Bool
 | []=>(k )
 | y1::rz1=>(bif ((decide (20 < ((y1.Parties.length:Nat):Int))||decide (20 < ((y1.Revokes.length:Nat):Int)))||decide (20 < ((y1.Needs.length:Nat):Int))) then false else (gV.L1  k rz1 ))
def gV (aP:Register):Bool:=(bif ((((((decide (30 < ((aP.Appoints.length:Nat):Int))||decide (12 < ((aP.Deputies.length:Nat):Int)))||decide (12 < ((aP.Interests.length:Nat):Int)))||decide (12 < ((aP.Budgets.length:Nat):Int)))||decide (8 < ((aP.Docs.length:Nat):Int)))||decide (24 < ((aP.Approvals.length:Nat):Int)))||(!(cH aP.Versions))) then false else ((gV.L1 (gV.K1)) aP.Docs ))
def cK.K1  : Int:=(-1)
def cK.L1 (no:Int) (k:Int):List Document→Nat→Int
 | [],i1=>(k )
 | y1::rz1,i1=>(bif (y1.No==no) then ((i1:Nat):Int) else (cK.L1 no k rz1 ((i1+1))))
def cK (aP:Register) (no:Int):Int:=((cK.L1 no (cK.K1)) aP.Docs 0)
def jO (dQ:Int):Bool:=(decide (0≤dQ)&&decide (dQ < 32))
def gY (dQ:Int):Bool:=(decide (0≤dQ)&&decide (dQ < 1099511627776))
def ki (dQ:Int):Bool:=(decide (0≤dQ)&&decide (dQ < 64))
def gQ (x:Appoint):Bool:=(bif (((((decide (x.No < 0)||decide (1048576 < x.No))||(!(gY x.At)))||(!(gY x.Known)))||(!(jO x.Office)))||(!(ki x.Person))) then false else (bif x.Gone then (x.Weight==0) else (decide (1≤x.Weight)&&decide (x.Weight≤64))))
def ey.K1  : Int:=0
def ey.L1 (l:(List Appoint)) (k:Int):List Appoint→Nat→Int
 | [],i1=>(k )
 | y1::rz1,i1=>(bif ((!(gQ y1))||(decide (0 < ((i1:Nat):Int))&&decide (y1.No≤(nthI l (((i1:Nat):Int) - 1)).No))) then 150 else (ey.L1 l k rz1 ((i1+1))))
def ey (l:(List Appoint)):Int:=(bif (decide (4096 < ((l.length:Nat):Int))) then 2 else ((ey.L1 l (ey.K1)) l 0))
def dZ (dQ:Int) (low:Int) (high:Int):Bool:=(decide (low≤dQ)&&decide (dQ≤high))
def gP (dQ:Int):Bool:=(dZ dQ 0 1099511627775)
def gW (dQ:Int):Bool:=(dZ dQ 0 63)
def hY (x:Deputy):Bool:=(bif ((((((!(dZ x.No 0 1048576))||(!(gP x.At)))||(!(gP x.Known)))||(!(gW x.From)))||(!(gW x.To)))||(x.From==x.To)) then false else (bif ((!(dZ x.Office 0 31))||(!(dZ x.Kind (-1) 15))) then false else (bif x.Gone then ((x.Until==0)&&(x.Most==0)) else ((decide (x.At < x.Until)&&decide (x.Until≤1099511627776))&&(dZ x.Most 0 1099511627776)))))
def e6.K1  : Int:=0
def e6.L1 (l:(List Deputy)) (k:Int):List Deputy→Nat→Int
 | [],i1=>(k )
 | y1::rz1,i1=>(bif ((!(hY y1))||(decide (0 < ((i1:Nat):Int))&&decide (y1.No≤(nthI l (((i1:Nat):Int) - 1)).No))) then 160 else (e6.L1 l k rz1 ((i1+1))))
def e6 (l:(List Deputy)):Int:=(bif (decide (4096 < ((l.length:Nat):Int))) then 2 else ((e6.L1 l (e6.K1)) l 0))
def iA (t:Int):Bool:=(decide (0≤t)&&decide (t < 1099511627776))
def i8 (dQ:Int):Bool:=(decide (0≤dQ)&&decide (dQ≤1048576))
def kg (dQ:Int):Bool:=(decide (0≤dQ)&&decide (dQ < 64))
def gO (x:Interest):Bool:=(bif ((((decide (x.No < 0)||decide (1048576 < x.No))||(!(iA x.At)))||(!(iA x.Known)))||(!(i8 x.Party))) then false else (bif x.Of then ((i8 x.Person)&&(x.Person != x.Party)) else (kg x.Person)))
def eH.K1  : Int:=0
def eH.L1 (l:(List Interest)) (k:Int):List Interest→Nat→Int
 | [],i1=>(k )
 | y1::rz1,i1=>(bif ((!(gO y1))||(decide (0 < ((i1:Nat):Int))&&decide (y1.No≤(nthI l (((i1:Nat):Int) - 1)).No))) then 290 else (eH.L1 l k rz1 ((i1+1))))
def eH (l:(List Interest)):Int:=(bif (decide (4096 < ((l.length:Nat):Int))) then 2 else ((eH.L1 l (eH.K1)) l 0))
def ew (dQ:Int) (least:Int) (most:Int):Bool:=(decide (least≤dQ)&&decide (dQ≤most))
def gl (dQ:Int):Bool:=(decide (0≤dQ)&&decide (dQ < 1099511627776))
def hO (x:Budget):Bool:=(bif (((((!(ew x.No 0 1048576))||(!(gl x.At)))||(!(gl x.Known)))||(!(ew x.Kind (-1) 15)))||(!(ew x.Period 1 1099511627776))) then false else (bif x.Gone then ((x.Count==0)&&(x.Value==0)) else ((ew x.Count 0 1048576)&&(ew x.Value 0 1099511627776))))
def fh.K1  : Int:=0
def fh.L1 (l:(List Budget)) (k:Int):List Budget→Nat→Int
 | [],i1=>(k )
 | y1::rz1,i1=>(bif ((!(hO y1))||(decide (0 < ((i1:Nat):Int))&&decide (y1.No≤(nthI l (((i1:Nat):Int) - 1)).No))) then 180 else (fh.L1 l k rz1 ((i1+1))))
def fh (l:(List Budget)):Int:=(bif (decide (4096 < ((l.length:Nat):Int))) then 2 else ((fh.L1 l (fh.K1)) l 0))
def ei (dQ:Int):Bool:=(decide (0≤dQ)&&decide (dQ < 1099511627776))
def cR.K1  (iM:Int):Int:=iM
def cR.L1 (rec:Expr→Int→Int) (limit:Int) (k:Int→Int):List Expr→Int→Int
 | [],iM=>(k iM)
 | y1::rz1,iM=>(bif (decide (iM≤limit)) then (cR.L1 rec limit k rz1 (IntKind.wrap .i64 (iM+(rec y1 (IntKind.wrap .i64 (limit - iM)))))) else (k iM))
def cR.F (rec:Expr→Int→Int) (x:Expr) (limit:Int):Int:=((cR.L1 rec limit (cR.K1)) x.L 1)
def cR.go:Nat→Expr→Int→Int
 | 0=>fun _ _=>default
 | m+1=>cR.F (cR.go m)
def cR (x:Expr) (limit:Int):Int:=cR.go x.dep x limit
def bJ.K1  (fP:Int):Int:=(IntKind.wrap .i64 (fP+1))
def bJ.L1 (rec:Expr→Int) (k:Int→Int):List Expr→Int→Int
 | [],fP=>(k fP)
 | y1::rz1,fP=>(bJ.L1 rec k rz1 (max fP (rec y1)))
def bJ.F (rec:Expr→Int) (x:Expr):Int:=((bJ.L1 rec (bJ.K1)) x.L 0)
def bJ.go:Nat→Expr→Int
 | 0=>fun _=>default
 | m+1=>bJ.F (bJ.go m)
def bJ (x:Expr):Int:=bJ.go x.dep x
def i9 (x:Expr):Bool:=(decide (256 < (cR x 256))||decide (16 < (bJ x)))
def eQ.K1  : Bool:=false
def eQ.L1  (k:Bool):List Rule→Bool
 | []=>(k )
 | y1::rz1=>(bif (i9 y1.Expr) then true else (eQ.L1  k rz1 ))
def eQ (p:Policy):Bool:=(bif (((decide (32 < ((p.Offices.length:Nat):Int))||decide (16 < ((p.Kinds.length:Nat):Int)))||decide (16 < ((p.Rules.length:Nat):Int)))||(i9 p.Change)) then true else ((eQ.L1 (eQ.K1)) p.Rules ))
def gI (c:Int):Bool:=((decide (97≤c)&&decide (c≤122))||(decide (65≤c)&&decide (c≤90)))
def ju (c:Int):Bool:=(decide (48≤c)&&decide (c≤57))
def lI (c:Int):Bool:=(((gI c)||(ju c))||(c==95))
def fE.K1  : Bool:=true
def fE.L1 (s:ByteArray) (k:Bool):List Nat→Nat→Bool
 | [],i1=>(k )
 | y1::rz1,i1=>(bif (!(lI ((s.data.getD (((i1:Nat):Int):Int).toNat 0).toNat:Int))) then false else (fE.L1 s k rz1 ((i1+1))))
def fE (s:ByteArray):Bool:=(bif ((decide (((s.size:Nat):Int) < 1)||decide (32 < ((s.size:Nat):Int)))||(!(gI ((s.data.getD (0:Int).toNat 0).toNat:Int)))) then false else ((fE.L1 s (fE.K1)) (List.range s.size) 0))
def kh (s:ByteArray):Bool:=(bif (s.toList==(⟨#[112,111,108,105,99,121]⟩:ByteArray).toList) then (bif (s.toList==(⟨#[112,111,108,105,99,121]⟩:ByteArray).toList) then true else false) else (bif (s.toList==(⟨#[109,111,100,101]⟩:ByteArray).toList) then (bif (s.toList==(⟨#[109,111,100,101]⟩:ByteArray).toList) then true else false) else (bif (s.toList==(⟨#[111,108,100]⟩:ByteArray).toList) then (bif (s.toList==(⟨#[111,108,100]⟩:ByteArray).toList) then true else false) else (bif (s.toList==(⟨#[110,101,119]⟩:ByteArray).toList) then (bif (s.toList==(⟨#[110,101,119]⟩:ByteArray).toList) then true else false) else (bif (s.toList==(⟨#[98,111,116,104]⟩:ByteArray).toList) then (bif (s.toList==(⟨#[98,111,116,104]⟩:ByteArray).toList) then true else false) else (bif (s.toList==(⟨#[101,105,116,104,101,114]⟩:ByteArray).toList) then (bif (s.toList==(⟨#[101,105,116,104,101,114]⟩:ByteArray).toList) then true else false) else (bif (s.toList==(⟨#[111,102,102,105,99,101]⟩:ByteArray).toList) then (bif (s.toList==(⟨#[111,102,102,105,99,101]⟩:ByteArray).toList) then true else false) else (bif (s.toList==(⟨#[107,105,110,100]⟩:ByteArray).toList) then (bif (s.toList==(⟨#[107,105,110,100]⟩:ByteArray).toList) then true else false) else (bif (s.toList==(⟨#[114,117,108,101]⟩:ByteArray).toList) then (bif (s.toList==(⟨#[114,117,108,101]⟩:ByteArray).toList) then true else false) else (bif (s.toList==(⟨#[116,104,105,110,107]⟩:ByteArray).toList) then (bif (s.toList==(⟨#[116,104,105,110,107]⟩:ByteArray).toList) then true else false) else (bif (s.toList==(⟨#[99,104,97,110,103,101]⟩:ByteArray).toList) then (bif (s.toList==(⟨#[99,104,97,110,103,101]⟩:ByteArray).toList) then true else false) else (bif (s.toList==(⟨#[115,111,109,101]⟩:ByteArray).toList) then (bif (s.toList==(⟨#[115,111,109,101]⟩:ByteArray).toList) then true else false) else (bif (s.toList==(⟨#[119,101,105,103,104,116]⟩:ByteArray).toList) then (bif (s.toList==(⟨#[119,101,105,103,104,116]⟩:ByteArray).toList) then true else false) else (bif (s.toList==(⟨#[111,102]⟩:ByteArray).toList) then (bif (s.toList==(⟨#[111,102]⟩:ByteArray).toList) then true else false) else (bif (s.toList==(⟨#[117,112,116,111]⟩:ByteArray).toList) then (bif (s.toList==(⟨#[117,112,116,111]⟩:ByteArray).toList) then true else false) else (bif (s.toList==(⟨#[101,108,115,101]⟩:ByteArray).toList) then true else false))))))))))))))))
def jo (s:ByteArray):Bool:=((fE s)&&(!(kh s)))
def dk.K1  : Int:=(-1)
def dk.L1 (s:ByteArray) (k:Int):List ByteArray→Nat→Int
 | [],i1=>(k )
 | y1::rz1,i1=>(bif (y1.toList==s.toList) then ((i1:Nat):Int) else (dk.L1 s k rz1 ((i1+1))))
def dk (l:(List ByteArray)) (s:ByteArray):Int:=((dk.L1 s (dk.K1)) l 0)
def dV.K1  : Bool:=true
def dV.L1 (l:(List ByteArray)) (k:Bool):List ByteArray→Nat→Bool
 | [],i1=>(k )
 | y1::rz1,i1=>(bif ((!(jo y1))||((dk l y1) != ((i1:Nat):Int))) then false else (dV.L1 l k rz1 ((i1+1))))
def dV (l:(List ByteArray)):Bool:=((dV.L1 l (dV.K1)) l 0)
def cj.K1  : Bool:=true
def cj.L1 (rec:(List ByteArray)→Expr→Bool) (offices:(List ByteArray)) (k:Bool):List Expr→Bool
 | []=>(k )
 | y1::rz1=>(bif (!(rec offices y1)) then false else (cj.L1 rec offices k rz1 ))
def cj.F (rec:(List ByteArray)→Expr→Bool) (offices:(List ByteArray)) (x:Expr):Bool:=(bif (((x.Kind==1)||(x.Kind==2))&&decide ((dk offices x.Name) < 0)) then false else ((cj.L1 rec offices (cj.K1)) x.L ))
def cj.go:Nat→(List ByteArray)→Expr→Bool
 | 0=>fun _ _=>default
 | m+1=>cj.F (cj.go m)
def cj (offices:(List ByteArray)) (x:Expr):Bool:=cj.go x.dep offices x
def fG.K1 (p:Policy):Bool:=(cj p.Offices p.Change)
def fG.L1 (p:Policy) (k:Bool):List Rule→Bool
 | []=>(k )
 | y1::rz1=>(bif (!(cj p.Offices y1.Expr)) then false else (fG.L1 p k rz1 ))
def fG (p:Policy):Bool:=(bif (((!(jo p.Name))||(!(dV p.Offices)))||(!(dV p.Kinds))) then false else ((fG.L1 p (fG.K1 p)) p.Rules ))
def aS.K1 (x:Expr) (upto:Bool):Bool:=(bif (x.Kind==1) then ((x.N==0)&&(((x.L.length:Nat):Int)==0)) else (bif (x.Kind==2) then ((decide (1≤x.N)&&decide (x.N≤4096))&&(((x.L.length:Nat):Int)==0)) else (bif (x.Kind==3) then (((((x.Name.toList==(⟨#[]⟩:ByteArray).toList)&&decide (1≤((x.L.length:Nat):Int)))&&decide (((x.L.length:Nat):Int)≤16))&&decide (1≤x.N))&&decide (x.N≤((x.L.length:Nat):Int))) else (bif (x.Kind==4) then ((((upto&&(x.Name.toList==(⟨#[]⟩:ByteArray).toList))&&(((x.L.length:Nat):Int)==2))&&decide (0≤x.N))&&decide (x.N≤1099511627776)) else false))))
def aS.L1 (rec:Expr→Bool→Bool) (upto:Bool) (k:Bool):List Expr→Bool
 | []=>(k )
 | y1::rz1=>(bif (!(rec y1 upto)) then false else (aS.L1 rec upto k rz1 ))
def aS.F (rec:Expr→Bool→Bool) (x:Expr) (upto:Bool):Bool:=((aS.L1 rec upto (aS.K1 x upto)) x.L )
def aS.go:Nat→Expr→Bool→Bool
 | 0=>fun _ _=>default
 | m+1=>aS.F (aS.go m)
def aS (x:Expr) (upto:Bool):Bool:=aS.go x.dep x upto
def fj.K1 (p:Policy):Bool:=(aS p.Change false)
def fj.L1 (p:Policy) (k:Bool):List Rule→Nat→Bool
 | [],i1=>(k )
 | y1::rz1,i1=>(bif ((((!(y1.Kind.toList==(nthI p.Kinds ((i1:Nat):Int)).toList))||decide (y1.Think < 0))||decide (1099511627776≤y1.Think))||(!(aS y1.Expr true))) then false else (fj.L1 p k rz1 ((i1+1))))
def fj (p:Policy):Bool:=(bif (((decide (((p.Kinds.length:Nat):Int) < 1)||(((p.Rules.length:Nat):Int) != ((p.Kinds.length:Nat):Int)))||decide (p.Mode < 1))||decide (4 < p.Mode)) then false else ((fj.L1 p (fj.K1 p)) p.Rules 0))
def ak.K1 (offices:(List ByteArray)) (x:Expr) (iP:(List Expr)):Expr:=(Expr.mk x.Kind x.N (dk offices x.Name) x.Name iP)
def ak.L1 (rec:(List ByteArray)→Expr→Expr) (offices:(List ByteArray)) (k:(List Expr)→Expr):List Expr→(List Expr)→Expr
 | [],iP=>(k iP)
 | y1::rz1,iP=>(ak.L1 rec offices k rz1 (iP++[(rec offices y1)]))
def ak.K2 (x:Expr) (iO:(List Expr)):Expr:=(Expr.mk x.Kind x.N 0 x.Name iO)
def ak.L2 (rec:(List ByteArray)→Expr→Expr) (offices:(List ByteArray)) (k:(List Expr)→Expr):List Expr→(List Expr)→Expr
 | [],iO=>(k iO)
 | y2::rz2,iO=>(ak.L2 rec offices k rz2 (iO++[(rec offices y2)]))
def ak.F (rec:(List ByteArray)→Expr→Expr) (offices:(List ByteArray)) (x:Expr):Expr:=(bif ((x.Kind==1)||(x.Kind==2)) then ((ak.L1 rec offices (ak.K1 offices x)) x.L ([])) else ((ak.L2 rec offices (ak.K2 x)) x.L ([])))
def ak.go:Nat→(List ByteArray)→Expr→Expr
 | 0=>fun _ _=>default
 | m+1=>ak.F (ak.go m)
def ak (offices:(List ByteArray)) (x:Expr):Expr:=ak.go x.dep offices x
def dh.K1 (p:Policy) (jZ:(List Rule)):(Policy×Int):=((Policy.mk p.Name p.Kinds p.Offices jZ (Expr.mk ((ak p.Offices p.Change).Kind) ((ak p.Offices p.Change).N) ((ak p.Offices p.Change).No) ((ak p.Offices p.Change).Name) ((ak p.Offices p.Change).L)) p.Mode),0)
def dh.L1 (p:Policy) (k:(List Rule)→(Policy×Int)):List Rule→Nat→(List Rule)→(Policy×Int)
 | [],i1,jZ=>(k jZ)
 | y1::rz1,i1,jZ=>(dh.L1 p k rz1 ((i1+1)) (jZ++[(Rule.mk y1.Kind ((i1:Nat):Int) y1.Think (Expr.mk ((ak p.Offices y1.Expr).Kind) ((ak p.Offices y1.Expr).N) ((ak p.Offices y1.Expr).No) ((ak p.Offices y1.Expr).Name) ((ak p.Offices y1.Expr).L)))]))
def dh (p:Policy):(Policy×Int):=(bif (eQ p) then ((Policy.mk (⟨#[]⟩:ByteArray) ([]) ([]) ([]) (Expr.mk 0 0 0 (⟨#[]⟩:ByteArray) ([])) 0),2) else (bif (!(fG p)) then ((Policy.mk (⟨#[]⟩:ByteArray) ([]) ([]) ([]) (Expr.mk 0 0 0 (⟨#[]⟩:ByteArray) ([])) 0),201) else (bif (!(fj p)) then ((Policy.mk (⟨#[]⟩:ByteArray) ([]) ([]) ([]) (Expr.mk 0 0 0 (⟨#[]⟩:ByteArray) ([])) 0),200) else ((dh.L1 p (dh.K1 p)) p.Rules 0 ([])))))
def dD.K1  : Bool:=true
def dD.L1 (gv:(List ByteArray)) (k:Bool):List ByteArray→Nat→Bool
 | [],i1=>(k )
 | y1::rz1,i1=>(bif (!(y1.toList==(nthI gv ((i1:Nat):Int)).toList)) then false else (dD.L1 gv k rz1 ((i1+1))))
def dD (a:(List ByteArray)) (gv:(List ByteArray)):Bool:=(bif (((a.length:Nat):Int) != ((gv.length:Nat):Int)) then false else ((dD.L1 gv (dD.K1)) a 0))
def bM.K1  : Bool:=true
def bM.L1 (rec:Expr→Expr→Bool) (gv:Expr) (k:Bool):List Expr→Nat→Bool
 | [],i1=>(k )
 | y1::rz1,i1=>(bif (!(rec y1 (nthI gv.L ((i1:Nat):Int)))) then false else (bM.L1 rec gv k rz1 ((i1+1))))
def bM.F (rec:Expr→Expr→Bool) (a:Expr) (gv:Expr):Bool:=(bif (((((a.Kind != gv.Kind)||(a.N != gv.N))||(a.No != gv.No))||(!(a.Name.toList==gv.Name.toList)))||(((a.L.length:Nat):Int) != ((gv.L.length:Nat):Int))) then false else ((bM.L1 rec gv (bM.K1)) a.L 0))
def bM.go:Nat→Expr→Expr→Bool
 | 0=>fun _ _=>default
 | m+1=>bM.F (bM.go m)
def bM (a:Expr) (gv:Expr):Bool:=bM.go a.dep a gv
def gk.K1  : Bool:=true
def gk.L1 (gv:Policy) (k:Bool):List Rule→Nat→Bool
 | [],i1=>(k )
 | y1::rz1,i1=>(bif ((((!(y1.Kind.toList==(nthI gv.Rules ((i1:Nat):Int)).Kind.toList))||(y1.KindNo != (nthI gv.Rules ((i1:Nat):Int)).KindNo))||(y1.Think != (nthI gv.Rules ((i1:Nat):Int)).Think))||(!(bM y1.Expr ((nthI gv.Rules ((i1:Nat):Int)).Expr)))) then false else (gk.L1 gv k rz1 ((i1+1))))
def gk (a:Policy) (gv:Policy):Bool:=(bif ((((((!(a.Name.toList==gv.Name.toList))||(a.Mode != gv.Mode))||(!(dD a.Offices gv.Offices)))||(!(dD a.Kinds gv.Kinds)))||(((a.Rules.length:Nat):Int) != ((gv.Rules.length:Nat):Int)))||(!(bM a.Change gv.Change))) then false else ((gk.L1 gv (gk.K1)) a.Rules 0))
def fo (p:Policy):Int:=(bif ((dh p).2 != 0) then (dh p).2 else (bif (!(gk ((dh p).1) p)) then 200 else 0))
def dp.K1  : Int:=0
def dp.L1 (l:(List Version)) (k:Int):List Version→Nat→Int
 | [],i1=>(k )
 | y1::rz1,i1=>(bif (((((decide (y1.No < 0)||decide (1048576 < y1.No))||(decide (0 < ((i1:Nat):Int))&&decide (y1.No≤(nthI l (((i1:Nat):Int) - 1)).No)))||(!(ei y1.At)))||(!(ei y1.Known)))||((fo y1.Policy) != 0)) then 200 else (dp.L1 l k rz1 ((i1+1))))
def dp (l:(List Version)):Int:=(bif (decide (256 < ((l.length:Nat):Int))) then 2 else ((dp.L1 l (dp.K1)) l 0))
def jp (t:Int):Bool:=(decide (0≤t)&&decide (t < 1099511627776))
def el.K1 (l:(List Int)):Bool:=decide (((l.length:Nat):Int)≤16)
def el.L1 (l:(List Int)) (limit:Int) (k:Bool):List Int→Nat→Bool
 | [],i1=>(k )
 | y1::rz1,i1=>(bif ((decide (y1 < 0)||decide (limit≤y1))||(decide (0 < ((i1:Nat):Int))&&decide (y1≤(nthI l (((i1:Nat):Int) - 1))))) then false else (el.L1 l limit k rz1 ((i1+1))))
def el (l:(List Int)) (limit:Int):Bool:=((el.L1 l limit (el.K1 l)) l 0)
def fS (d:Document):Bool:=(bif ((((((decide (d.No < 0)||decide (4096≤d.No))||(!(jp d.At)))||decide (d.Kind < 0))||decide (16≤d.Kind))||decide (d.Value < 0))||decide (1099511627776 < d.Value)) then false else (((((decide (0≤d.From)&&decide (d.From < d.Until))&&decide (d.Until≤1099511627776))&&(el d.Parties 1048577))&&(el d.Revokes d.No))&&(el d.Needs d.No)))
def fI.K1  : Int:=(-1)
def fI.L1 (no:Int) (k:Int):List Document→Nat→Int
 | [],i1=>(k )
 | y1::rz1,i1=>(bif (y1.No==no) then ((i1:Nat):Int) else (fI.L1 no k rz1 ((i1+1))))
def fI (l:(List Document)) (no:Int):Int:=((fI.L1 no (fI.K1)) l 0)
def cZ.K1  : Bool:=true
def cZ.L1 (l:(List Document)) (k:Bool):List Int→Bool
 | []=>(k )
 | y1::rz1=>(bif (decide ((fI l y1) < 0)) then false else (cZ.L1 l k rz1 ))
def cZ (l:(List Document)) (nos:(List Int)):Bool:=((cZ.L1 l (cZ.K1)) nos )
def eI.K1  : Int:=0
def eI.L1 (l:(List Document)) (k:Int):List Document→Nat→Int
 | [],i1=>(k )
 | y1::rz1,i1=>(bif ((((!(fS y1))||(decide (0 < ((i1:Nat):Int))&&decide (y1.No≤(nthI l (((i1:Nat):Int) - 1)).No)))||(!(cZ l y1.Revokes)))||(!(cZ l y1.Needs))) then 170 else (eI.L1 l k rz1 ((i1+1))))
def eI (l:(List Document)):Int:=(bif (decide (4096 < ((l.length:Nat):Int))) then 2 else ((eI.L1 l (eI.K1)) l 0))
def dK (dQ:Int) (most:Int):Bool:=(decide (0≤dQ)&&decide (dQ≤most))
def iR (dQ:Int):Bool:=(dK dQ 1099511627775)
def mA (dQ:Int):Bool:=(dK dQ 4095)
def gZ (x:Approval):Bool:=(bif ((((!(dK x.No 1048576))||(!(iR x.At)))||(!(iR x.Known)))||(!(mA x.Doc))) then false else (((dK x.By 63)&&(dK x.For 63))&&(dK x.Office 31)))
def fg.K1  : Int:=0
def fg.L1 (l:(List Approval)) (k:Int):List Approval→Nat→Int
 | [],i1=>(k )
 | y1::rz1,i1=>(bif ((!(gZ y1))||(decide (0 < ((i1:Nat):Int))&&decide (y1.No≤(nthI l (((i1:Nat):Int) - 1)).No))) then 280 else (fg.L1 l k rz1 ((i1+1))))
def fg (l:(List Approval)):Int:=(bif (decide (4096 < ((l.length:Nat):Int))) then 2 else ((fg.L1 l (fg.K1)) l 0))
def iJ (aP:Register):Int:=(bif (((((ey aP.Appoints) != 0)||((e6 aP.Deputies) != 0))||((eH aP.Interests) != 0))||((fh aP.Budgets) != 0)) then 300 else (bif ((((dp aP.Versions) != 0)||((eI aP.Docs) != 0))||((fg aP.Approvals) != 0)) then 300 else 0))
def eP.K1  : Bool:=true
def eP.L1 (who:(List Int)) (k:Bool):List Int→Nat→Bool
 | [],i1=>(k )
 | y1::rz1,i1=>(bif ((decide (y1 < 0)||decide (64≤y1))||(decide (0 < ((i1:Nat):Int))&&decide (y1≤(nthI who (((i1:Nat):Int) - 1))))) then false else (eP.L1 who k rz1 ((i1+1))))
def eP (who:(List Int)):Bool:=((eP.L1 who (eP.K1)) who 0)
def aI.K1  : Version:=(Version.mk 0 0 0 (Policy.mk (⟨#[]⟩:ByteArray) ([]) ([]) ([]) (Expr.mk 0 0 0 (⟨#[]⟩:ByteArray) ([])) 0))
def aI.L1 (no:Int) (k:Version):List Version→Version
 | []=>(k )
 | y1::rz1=>(bif (y1.No==no) then y1 else (aI.L1 no k rz1 ))
def aI (aP:Register) (no:Int):Version:=((aI.L1 no (aI.K1)) aP.Versions )
def e8.K1 (aP:Register) (doc:Int) (who:(List Int)):Bool:=((((gV aP)&&((iJ aP)==0))&&decide (0≤(cK aP doc)))&&(eP who))
def e8.L1  (k:Bool):List Int→Bool
 | []=>(k )
 | y1::rz1=>(bif (!(ei y1)) then false else (e8.L1  k rz1 ))
def e8 (aP:Register) (doc:Int) (who:(List Int)) (l:(List Int)):Bool:=((e8.L1 (e8.K1 aP doc who)) l )
def bK.L3 (aP:Register) (cM:Int) (known:Int) (k:(List (List Holder))→(Bool×Bool)):List ByteArray→Nat→(List (List Holder))→(Bool×Bool)
 | [],i3,F4=>(k F4)
 | y3::rz3,i3,F4=>(bif ((cm aP.Appoints ((i3:Nat):Int) cM known).2 != 0) then (false,false) else (bK.L3 aP cM known k rz3 ((i3+1)) (F4++[(cm aP.Appoints ((i3:Nat):Int) cM known).1])))
def bK.L4 (aP:Register) (cM:Int) (known:Int) (k:(List (List Holder))→(Bool×Bool)):List ByteArray→Nat→(List (List Holder))→(Bool×Bool)
 | [],i4,kC=>(k kC)
 | y4::rz4,i4,kC=>(bif ((cm aP.Appoints ((i4:Nat):Int) cM known).2 != 0) then (false,false) else (bK.L4 aP cM known k rz4 ((i4+1)) (kC++[(cm aP.Appoints ((i4:Nat):Int) cM known).1])))
def bK.K2 (aP:Register) (d:Document) (cM:Int) (known:Int) (jG:(List Bool)):(Bool×Bool):=((dC ((aA aP.Versions d.At cM known).2.1) jG).1,((dC ((aA aP.Versions d.At cM known).2.1) jG).2==0))
def bK.L2 (aP:Register) (d:Document) (cM:Int) (known:Int) (ic:(List Int)) (k:(List Bool)→(Bool×Bool)):List Int→(List Bool)→(Bool×Bool)
 | [],jG=>(k jG)
 | y2::rz2,jG=>((bK.L4 aP cM known (fun zg4_25=>(bK.L2 aP d cM known ic k rz2 (jG++[(((((bi ((aI aP y2).Policy) d.Kind d.Value zg4_25 ic).2==0)&&(bi ((aI aP y2).Policy) d.Kind d.Value zg4_25 ic).1)&&decide (d.Kind < ((((aI aP y2).Policy).Rules.length:Nat):Int)))&&decide ((nthI (((aI aP y2).Policy).Rules) d.Kind).Think≤(cM - d.At)))])))) (((aI aP y2).Policy).Offices) 0 ([]))
def bK.K1 (aP:Register) (d:Document) (cM:Int) (known:Int) (ic:(List Int)):(Bool×Bool):=((bK.L2 aP d cM known ic (bK.K2 aP d cM known)) ((aA aP.Versions d.At cM known).1) ([]))
def bK.L1 (aP:Register) (d:Document) (cM:Int) (known:Int) (k:(List Int)→(Bool×Bool)):List Int→(List Int)→(Bool×Bool)
 | [],ic=>(k ic)
 | y1::rz1,ic=>(bif ((cL aP.Interests y1 d.Parties cM known).2.2 != 0) then (false,false) else (bif (!((cL aP.Interests y1 d.Parties cM known).2.1)) then (bK.L1 aP d cM known k rz1 (ic++[y1])) else (bK.L1 aP d cM known k rz1 ic)))
def bK (aP:Register) (d:Document) (who:(List Int)) (cM:Int) (known:Int):(Bool×Bool):=(bif (decide (cM < d.At)||decide (d.Until≤cM)) then (false,true) else (bif (((aA aP.Versions d.At cM known).2.2 != 0)||(((((aA aP.Versions d.At cM known).1).length:Nat):Int)==0)) then (false,((aA aP.Versions d.At cM known).2.2==0)) else ((bK.L1 aP d cM known (bK.K1 aP d cM known)) who ([]))))
def gX.K1  : Bool:=false
def gX.L1 (t:Int) (k:Bool):List Span→Bool
 | []=>(k )
 | y1::rz1=>(bif (decide (y1.From≤t)&&decide (t < y1.Until)) then true else (gX.L1 t k rz1 ))
def gX (s:(List Span)) (t:Int):Bool:=((gX.L1 t (gX.K1)) s )
def eJ.K1 (aP:Register) (doc:Int) (who:(List Int)) (t:Int) (known:Int) (tQ:Int):Bool:=((bK aP (nthI aP.Docs (cK aP doc)) who t known).2&&((bK aP (nthI aP.Docs (cK aP doc)) who t known).1==(gX ((bp aP doc who known).1) t)))
def eJ.L1  (k:Int→Bool):List Span→Int→Bool
 | [],tQ=>(k tQ)
 | y1::rz1,tQ=>(bif ((decide (y1.From≤tQ)||decide (y1.Until≤y1.From))||decide (1099511627776 < y1.Until)) then false else (eJ.L1  k rz1 y1.Until))
def eJ (aP:Register) (doc:Int) (who:(List Int)) (t:Int) (known:Int):Bool:=(bif (!mD) then false else (bif (!(e8 aP doc who ([t,known]))) then true else (bif ((bp aP doc who known).2 != 0) then false else ((eJ.L1 (eJ.K1 aP doc who t known)) ((bp aP doc who known).1) (-1)))))
end Go.Sg
namespace Go.Sg
set_option linter.unusedVariables false
theorem wrap64 {z:Int} (h:-9223372036854775808≤z∧z≤9223372036854775807):IntKind.i64.wrap z=z:=by
 have:=iu h;injection this
theorem Expr.eta (x:Expr):Expr.mk x.Kind x.N x.No x.Name x.L=x:=by cases x;rfl
theorem Expr.ind {P:Expr→Prop} (h:∀ x,(∀ y∈x.L,P y)→P x) (x:Expr):P x:=by
 have key:∀ n (x:Expr),x.dep≤n→P x:=by
  intro n
  induction n with
  | zero=>intro x hx;have:=Expr.jR x;omega
  | succ n ih=>intro x hx;exact h x fun y hy=>ih y (by have:=Expr.iq hy;omega)
 exact key _ x (Nat.le_refl _)
theorem AW (k:List fC):∀ l,aZ.L3 k l=l++k
 | []=>rfl
 | y::l=>by simp [aZ.L3,AW k l]
theorem AX (rec:Expr→Int→List fC) (d:Int):∀ l,aZ.L1 rec d [] l=l.flatMap (fun y=>rec y (d+1))
 | []=>rfl
 | y::l=>by simp [aZ.L1,AW,AX rec d l]
theorem zD (rec:Expr→Int→List fC) (x:Expr) (d:Int):aZ.F rec x d=⟨x,d⟩::x.L.flatMap (fun y=>rec y (d+1)):=by
 simp [aZ.F,aZ.K1,AX,Expr.eta]
theorem sW {α β : Type} {f g:α→List β}:∀ {l:List α},(∀ y∈l,f y=g y)→l.flatMap f=l.flatMap g
 | [],_=>rfl
 | y::l,h=>by
  rw [List.flatMap_cons,List.flatMap_cons,h y (List.mem_cons_self ..),sW fun z hz=>h z (List.mem_cons_of_mem _ hz)]
theorem AV (m:Nat):∀ (x:Expr) (d:Int),x.dep≤m→aZ.go m x d=cg x d:=by
 induction m using Nat.strongRecOn with
 | _ m ih=>
  intro x d hx
  unfold cg
  have hp:=Expr.jR x
  obtain ⟨m',rfl⟩:∃ m',m=m'+1:=⟨m - 1,by omega⟩
  obtain ⟨n,hn⟩:∃ n,x.dep=n+1:=⟨x.dep - 1,by omega⟩
  rw [hn]
  show aZ.F (aZ.go m') x d=aZ.F (aZ.go n) x d
  rw [zD,zD]
  congr 1
  refine sW fun y hy=>?_
  have:=Expr.iq hy
  rw [ih m' (by omega) y _ (by omega),ih n (by omega) y _ (by omega)]
theorem lr (x:Expr) (d:Int):cg x d=⟨x,d⟩::x.L.flatMap (fun y=>cg y (d+1)):=by
 have hp:=Expr.jR x
 obtain ⟨n,hn⟩:∃ n,x.dep=n+1:=⟨x.dep - 1,by omega⟩
 rw [← AV x.dep x d (Nat.le_refl _),hn]
 show aZ.F (aZ.go n) x d=_
 rw [zD]
 congr 1
 exact sW fun y hy=>AV n y _ (by have:=Expr.iq hy;omega)
theorem yT (Q:Expr→Prop) (x:Expr):∀ d d',(∀ z∈cg x d,Q z.x)→∀ z∈cg x d',Q z.x:=by
 refine Expr.ind (P:=fun x=>∀ d d',(∀ z∈cg x d,Q z.x)→∀ z∈cg x d',Q z.x) ?_ x
 intro x ih d d' h z hz
 rw [lr] at h hz
 rcases List.mem_cons.1 hz with rfl | hz
 ·exact h ⟨x,d⟩ (List.mem_cons_self ..)
 ·obtain ⟨y,hy,hz⟩:=List.mem_flatMap.1 hz
  exact ih y hy (d+1) (d'+1) (fun z' hz'=>h z' (List.mem_cons_of_mem _ (List.mem_flatMap.2 ⟨y,hy,hz'⟩))) z hz
theorem yi (Q:Expr→Prop) (x:Expr) (d:Int):(∀ z∈cg x d,Q z.x)↔Q x∧∀ y∈x.L,∀ z∈cg y d,Q z.x:=by
 constructor
 ·intro h
  rw [lr] at h
  exact ⟨h ⟨x,d⟩ (List.mem_cons_self ..),fun y hy=>yT Q y (d+1) d fun z hz=>h z (List.mem_cons_of_mem _ (List.mem_flatMap.2 ⟨y,hy,hz⟩))⟩
 ·rintro ⟨h1,h2⟩ z hz
  rw [lr] at hz
  rcases List.mem_cons.1 hz with rfl | hz
  ·exact h1
  ·obtain ⟨y,hy,hz⟩:=List.mem_flatMap.1 hz
   exact yT Q y d (d+1) (h2 y hy) z hz
def NZ (x:Except Int Unit):Prop:=∀ e,x=.error e→e≠0
theorem NZ.ok:NZ (.ok ()):=fun _ h=>by cases h
theorem NZ.must {c:Bool} {e:Int} (he:e≠0):NZ (eD c e):=fun e' h=>by
 cases c with
 | true=>simp [eD] at h
 | false=>simp [eD] at h;omega
theorem NZ.exi {x:Except Int Unit} {f:Unit→Except Int Unit} (hx:NZ x) (hf:NZ (f ())):NZ (Sg.exi x f):=by
 cases x with
 | ok u=>exact hf
 | error e=>exact fun e' h=>hx e' h
theorem zl {x:Except Int Unit} (h:NZ x):attR x=0↔x=.ok ():=by
 cases x with
 | ok u=>simp [attR]
 | error e=>simp only [attR,reduceCtorEq,iff_false];exact h e rfl
theorem np {c:Bool} {e:Int} {f:Unit→Except Int Unit}:exi (eD c e) f=.ok ()↔c=true∧f ()=.ok ():=by
 cases c <;> simp [eD,exi]
theorem B3 (p:Policy):∀ (l:List Rule) (g:List Expr),aF.L1 (aF.K1 p) l g=g++(l.map (·.Expr)++[p.Change])
 | [],g=>by simp [aF.L1,aF.K1]
 | y::l,g=>by simp [aF.L1,B3 p l]
theorem pq (p:Policy):aF p=p.Rules.map (·.Expr)++[p.Change]:=by
 unfold aF;rw [B3];simp
theorem AC (k:Int→Except Int Unit) (hk:∀ a b,k a=k b):∀ (l:List fC) (g:Int),0≤g→g≤256→(cx.L3 k l g=.ok ()↔(g+l.length≤256∧∀ z∈l,z.depth≤16)∧k 0=.ok ())
 | [],g,h0,h1=>by simp only [cx.L3,hk g 0,List.length_nil,List.not_mem_nil];simp;omega
 | y::l,g,h0,h1=>by
  simp only [cx.L3,np,Bool.and_eq_true,decide_eq_true_eq,wrap64 (z:=g+1) (by omega),List.length_cons,List.mem_cons]
  by_cases h:g+1≤256
  ·rw [AC k hk l (g+1) (by omega) h]
   constructor
   ·rintro ⟨⟨_,h3⟩,⟨h4,h5⟩,h6⟩
    refine ⟨⟨by omega,fun z hz=>?_⟩,h6⟩
    rcases hz with rfl | hz
    ·exact h3
    ·exact h5 z hz
   ·rintro ⟨⟨h4,h5⟩,h6⟩
    exact ⟨⟨h,h5 y (.inl rfl)⟩,⟨by omega,fun z hz=>h5 z (.inr hz)⟩,h6⟩
  ·constructor
   ·rintro ⟨⟨h3,_⟩,_⟩;exact absurd h3 h
   ·rintro ⟨⟨h4,_⟩,_⟩;omega
theorem AD:∀ (l:List Expr),cx.L1 (.ok ()) l=.ok ()↔∀ x∈l,(cg x 1).length≤256∧∀ z∈cg x 1,z.depth≤16
 | []=>by simp [cx.L1]
 | y::l=>by
  simp only [cx.L1]
  rw [AC _ (fun _ _=>rfl) _ 0 (by omega) (by omega),AD l]
  simp only [List.mem_cons,forall_eq_or_imp]
  constructor
  ·rintro ⟨⟨a,b⟩,c⟩;exact ⟨⟨by omega,b⟩,c⟩
  ·rintro ⟨⟨a,b⟩,c⟩;exact ⟨⟨by omega,b⟩,c⟩
theorem wj (p:Policy):cx p=.ok ()↔(p.Offices.length≤32∧p.Kinds.length≤16∧p.Rules.length≤16)∧∀ x∈aF p,(cg x 1).length≤256∧∀ z∈cg x 1,z.depth≤16:=by
 unfold cx cx.K1
 rw [np,AD]
 simp only [Bool.and_eq_true,decide_eq_true_eq]
 constructor
 ·rintro ⟨⟨⟨a,b⟩,c⟩,d⟩;exact ⟨⟨by omega,by omega,by omega⟩,d⟩
 ·rintro ⟨⟨a,b,c⟩,d⟩;exact ⟨⟨⟨by omega,by omega⟩,by omega⟩,d⟩
theorem Ft (p:Policy):NZ (cx p):=by
 have h3:∀ (k:Int→Except Int Unit),(∀ a,NZ (k a))→∀ l g,NZ (cx.L3 k l g):=by
  intro k hk l
  induction l with
  | nil=>exact fun g=>hk g
  | cons y l ih=>exact fun g=>NZ.exi (NZ.must (by omega)) (ih _)
 have h1:∀ l,NZ (cx.L1 (.ok ()) l):=by
  intro l
  induction l with
  | nil=>exact NZ.ok
  | cons y l ih=>exact h3 _ (fun _=>ih) _ _
 exact NZ.exi (NZ.must (by omega)) (h1 _)
theorem Bd (p:Policy) (k:Except Int Unit):∀ l,cy.L3 p k l=.ok ()↔(∀ z∈l,((!(da z.x))||dr p.Offices z.x.Name)=true)∧k=.ok ()
 | []=>by simp [cy.L3]
 | y::l=>by simp only [cy.L3,np,Bd p k l,List.mem_cons,forall_eq_or_imp,and_assoc]
theorem Be (p:Policy):∀ l,cy.L1 p (.ok ()) l=.ok ()↔∀ x∈l,∀ z∈cg x 1,((!(da z.x))||dr p.Offices z.x.Name)=true
 | []=>by simp [cy.L1]
 | y::l=>by simp only [cy.L1,Bd,Be p l,List.mem_cons,forall_eq_or_imp]
theorem Bc (p:Policy):cy p=.ok ()↔(dc p.Name=true∧bE p.Offices dc=true∧bE p.Kinds dc=true)∧∀ x∈aF p,∀ z∈cg x 1,((!(da z.x))||dr p.Offices z.x.Name)=true:=by
 unfold cy cy.K1
 rw [np,Be]
 simp only [Bool.and_eq_true,and_assoc]
theorem FT (p:Policy):NZ (cy p):=by
 have h3:∀ (k:Except Int Unit),NZ k→∀ l,NZ (cy.L3 p k l):=by
  intro k hk l
  induction l with
  | nil=>exact hk
  | cons y l ih=>exact NZ.exi (NZ.must (by omega)) ih
 have h1:∀ l,NZ (cy.L1 p (.ok ()) l):=by
  intro l
  induction l with
  | nil=>exact NZ.ok
  | cons y l ih=>exact h3 _ ih _
 exact NZ.exi (NZ.must (by omega)) (h1 _)
theorem D9 (p:Policy) (i:Nat) (k:Except Int Unit):∀ l,bD.L4 p i k l=.ok ()↔(∀ z∈l,(aR z.x.Kind 1 4&&kindsP z.x.Kind z.x)=true∧(decide ((i:Int) < IntKind.i64.wrap (((aF p).length:Int) - 1))||(z.x.Kind != 4))=true)∧k=.ok ()
 | []=>by simp [bD.L4]
 | y::l=>by simp only [bD.L4,np,D9 p i k l,List.mem_cons,forall_eq_or_imp,and_assoc]
theorem zO (p:Policy):∀ l i,bD.L2 p (.ok ()) l i=.ok ()↔∀ j x,l[j]? = some x→∀ z∈cg x 1,(aR z.x.Kind 1 4&&kindsP z.x.Kind z.x)=true∧(decide (((i+j:Nat):Int) < IntKind.i64.wrap (((aF p).length:Int) - 1))||(z.x.Kind != 4))=true
 | [],i=>by simp [bD.L2]
 | y::l,i=>by
  simp only [bD.L2]
  rw [D9,zO p l (i+1)]
  constructor
  ·rintro ⟨h1,h2⟩ j x hj z hz
   cases j with
   | zero=>simp at hj;subst hj;exact h1 z hz
   | succ j=>have:=h2 j x (by simpa using hj) z hz;rw [show i+(j+1)=i+1+j from by omega];exact this
  ·intro h
   refine ⟨fun z hz=>h 0 y rfl z hz,fun j x hj z hz=>?_⟩
   have:=h (j+1) x (by simpa using hj) z hz
   rw [show i+(j+1)=i+1+j from by omega] at this;exact this
theorem vT (p:Policy) (k:Except Int Unit):∀ l i,bD.L1 p k l i=.ok ()↔(∀ j r,l[j]? = some r→((r.Kind.toList==(nthI p.Kinds (((i+j:Nat):Int))).toList)&&aR r.Think 0 1099511627775)=true)∧k=.ok ()
 | [],i=>by simp [bD.L1]
 | y::l,i=>by
  simp only [bD.L1]
  rw [np,vT p k l (i+1)]
  constructor
  ·rintro ⟨h1,h2,h3⟩
   refine ⟨fun j r hj=>?_,h3⟩
   cases j with
   | zero=>simp at hj;subst hj;exact h1
   | succ j=>have:=h2 j r (by simpa using hj);rw [show i+(j+1)=i+1+j from by omega];exact this
  ·rintro ⟨h,h3⟩
   refine ⟨h 0 y rfl,fun j r hj=>?_,h3⟩
   have:=h (j+1) r (by simpa using hj)
   rw [show i+(j+1)=i+1+j from by omega] at this;exact this
theorem Hk (p:Policy):NZ (bD p):=by
 have h4:∀ i (k:Except Int Unit),NZ k→∀ l,NZ (bD.L4 p i k l):=by
  intro i k hk l
  induction l with
  | nil=>exact hk
  | cons y l ih=>exact NZ.exi (NZ.must (by omega)) (NZ.exi (NZ.must (by omega)) ih)
 have h2:∀ l i,NZ (bD.L2 p (.ok ()) l i):=by
  intro l
  induction l with
  | nil=>exact fun _=>NZ.ok
  | cons y l ih=>exact fun i=>h4 i _ (ih _) _
 have h1:∀ l i,NZ (bD.L1 p (bD.K1 p) l i):=by
  intro l
  induction l with
  | nil=>exact fun _=>h2 _ _
  | cons y l ih=>exact fun i=>NZ.exi (NZ.must (by omega)) (ih _)
 exact NZ.exi (NZ.must (by omega)) (h1 _ _)
theorem vc (p:Policy):NZ (di p):=
 NZ.exi (Ft p) (NZ.exi (FT p) (NZ.exi (Hk p) NZ.ok))
theorem sX {x:Except Int Unit} {f:Unit→Except Int Unit}:exi x f=.ok ()↔x=.ok ()∧f ()=.ok ():=by
 cases x with
 | ok u=>simp [exi]
 | error e=>simp [exi]
theorem qI (p:Policy):di p=.ok ()↔cx p=.ok ()∧cy p=.ok ()∧bD p=.ok ():=by
 unfold di
 rw [sX,sX,sX]
 simp
theorem AR (p:Policy):(dl p).2=attR (di p):=by
 have hL:∀ l i g,(dl.L1 p (dl.K1 p) l i g).2=0:=by
  intro l
  induction l with
  | nil=>exact fun _ _=>rfl
  | cons y l ih=>exact fun i g=>ih _ _
 unfold dl
 by_cases h:attR (di p)=0
 ·simp [h,hL]
 ·rw [show (attR (di p) != 0)=true from by simpa using h];rfl
theorem Ca (p:Policy) (k:Int):∀ l i,cC.L1 p k l i=0↔(∀ j r,l[j]? = some r→r.KindNo=((i+j:Nat):Int)∧cf p.Offices r.Expr=true)∧k=0
 | [],i=>by simp [cC.L1]
 | y::l,i=>by
  simp only [cC.L1,Bool.cond_eq_ite]
  split
  ·next h=>
   simp only [Bool.or_eq_true,bne_iff_ne,Bool.not_eq_true'] at h
   constructor
   ·intro h';omega
   ·rintro ⟨h1,_⟩
    have:=h1 0 y rfl
    simp only [Nat.add_zero] at this
    rcases h with h | h
    ·exact absurd this.1 h
    ·rw [this.2] at h;cases h
  ·next h=>
   simp only [Bool.or_eq_true,bne_iff_ne,Bool.not_eq_true',not_or,Decidable.not_not,Bool.not_eq_false] at h
   rw [Ca p k l (i+1)]
   constructor
   ·rintro ⟨h1,h2⟩
    refine ⟨fun j r hj=>?_,h2⟩
    cases j with
    | zero=>simp at hj;subst hj;exact h
    | succ j=>have:=h1 j r (by simpa using hj);rw [show i+(j+1)=i+1+j from by omega];exact this
   ·rintro ⟨h1,h2⟩
    refine ⟨fun j r hj=>?_,h2⟩
    have:=h1 (j+1) r (by simpa using hj)
    rw [show i+(j+1)=i+1+j from by omega] at this;exact this
theorem xN (p:Policy):cC p=0↔di p=.ok ()∧(∀ (j:Nat) r,p.Rules[j]? = some r→r.KindNo=(j:Int)∧cf p.Offices r.Expr=true)∧cf p.Offices p.Change=true:=by
 unfold cC
 rw [AR]
 by_cases h:attR (di p)=0
 ·have h2:=(zl (vc p)).1 h
  have hk:cC.K1 p=0↔cf p.Offices p.Change=true:=by
   unfold cC.K1
   cases cf p.Offices p.Change <;> simp
  rw [show (attR (di p) != 0)=false from by simpa using h,cond_false,Ca,hk]
  simp only [Nat.zero_add,h2,true_and]
 ·have h2:¬ di p=.ok ():=fun e=>h ((zl (vc p)).2 e)
  rw [show (attR (di p) != 0)=true from by simpa using h,cond_true]
  simp [h,h2]
theorem GC {c x:Bool}:(bif c then false else x)=true↔c=false∧x=true:=by cases c <;> simp
theorem ol (off:List ByteArray):∀ l,cf.L1 off true l=true↔∀ z∈l,z.x.No=(bif da z.x then aQ off z.x.Name else 0)
 | []=>by simp [cf.L1]
 | y::l=>by
  simp only [cf.L1,List.mem_cons,forall_eq_or_imp]
  cases da y.x with
  | true=>
   rw [cond_true,cond_true,GC,ol off l];simp
  | false=>
   rw [cond_false,cond_false,GC,ol off l];simp
theorem Bv (v:ByteArray):∀ (l:List ByteArray) (i:Nat),aQ.L1 v (-1) l i=-1∨((i:Int)≤aQ.L1 v (-1) l i∧aQ.L1 v (-1) l i < ((i+l.length:Nat):Int))
 | [],i=>.inl rfl
 | y::l,i=>by
  simp only [aQ.L1,Bool.cond_eq_ite,List.length_cons]
  split
  ·right;omega
  ·rcases Bv v l (i+1) with h | h
   ·exact .inl h
   ·right;omega
theorem FX (l:List ByteArray) (v:ByteArray):aQ l v < (l.length:Int):=by
 have:=Bv v l 0
 unfold aQ aQ.K1
 omega
theorem uK {p:Policy} (hc:cC p=0):p.Rules.length=p.Kinds.length∧p.Offices.length≤32∧(∀ x∈aF p,OkX (p.Offices.length:Int) x):=by
 obtain ⟨h1,h2,h3⟩:=(xN p).1 hc
 obtain ⟨hs,hn,hf⟩:=(qI p).1 h1
 have hf':=hf
 unfold bD at hf
 rw [np,vT] at hf
 simp only [Bool.and_eq_true,decide_eq_true_eq,beq_iff_eq] at hf
 obtain ⟨⟨⟨_,hlen⟩,hmode⟩,hrules,hK⟩:=hf
 unfold bD.K1 bD.K2 at hK
 rw [zO] at hK
 obtain ⟨⟨ho,_,_⟩,_⟩:=(wj p).1 hs
 obtain ⟨_,hnm⟩:=(Bc p).1 hn
 refine ⟨by omega,ho,fun x hx=>?_⟩
 have hres:∀ z∈cg x 1,z.x.No=(bif da z.x then aQ p.Offices z.x.Name else 0):=by
  have hr:cf p.Offices x=true:=by
   rw [pq] at hx
   rcases List.mem_append.1 hx with hx | hx
   ·obtain ⟨r,hr,rfl⟩:=List.mem_map.1 hx
    obtain ⟨j,hj⟩:=List.getElem?_of_mem hr
    exact (h2 j r hj).2
   ·rw [List.mem_singleton.1 hx];exact h3
  unfold cf cf.K1 at hr
  exact (ol _ _).1 hr
 obtain ⟨j,hj⟩:=List.getElem?_of_mem hx
 have hfm:=fun z hz=>(hK j x hj z hz).1
 have hnx:=hnm x hx
 clear hK hnm hj
 let Q:Expr→Prop:=fun x=>(1≤x.Kind∧x.Kind≤4)∧(x.Kind≤2→0≤x.No∧x.No < (p.Offices.length:Int))∧(x.Kind=4→x.L.length=2)
 have all:∀ z∈cg x 1,(fun x:Expr=>(1≤x.Kind∧x.Kind≤4)∧(x.Kind≤2→0≤x.No∧x.No < (p.Offices.length:Int))∧(x.Kind=4→x.L.length=2)) z.x:=by
  intro z hz
  have a:=hfm z hz
  have b:=hnx z hz
  have c:=hres z hz
  simp only [Bool.and_eq_true,aR,decide_eq_true_eq] at a
  refine ⟨a.1,fun hk=>?_,fun hk=>?_⟩
  ·have hnamed:da z.x=true:=by
    have:z.x.Kind=1∨z.x.Kind=2:=by omega
    rcases this with e | e <;> simp [da,e]
   simp only [hnamed,Bool.not_true,Bool.false_or,cond_true] at b c
   have hge:0≤aQ p.Offices z.x.Name:=by
    have h9:=b
    simp only [dr,decide_eq_true_eq,ge_iff_le] at h9
    exact h9
   have:=FX p.Offices z.x.Name
   omega
  ·have h9:=a.2
   rw [hk] at h9
   simp only [kindsP] at h9
   simp [iS] at h9
   omega
 clear hfm hnx hres hx
 revert all
 refine Expr.ind (P:=fun x=>(∀ z∈cg x 1,Q z.x)→OkX (p.Offices.length:Int) x) ?_ x
 intro x ih all
 rw [yi Q] at all
 obtain ⟨⟨a,b,c⟩,d⟩:=all
 exact OkX.mk x a b c fun y hy=>ih y hy (d y hy)
theorem s6 {p:Policy} (hc:cC p=0):(1≤p.Mode∧p.Mode≤4)∧p.Rules.length≤16∧∀ r∈p.Rules,0≤r.Think∧r.Think≤1099511627775:=by
 obtain ⟨h1,_,_⟩:=(xN p).1 hc
 obtain ⟨hs,_,hf⟩:=(qI p).1 h1
 unfold bD at hf
 rw [np,vT] at hf
 simp only [Bool.and_eq_true,aR,decide_eq_true_eq] at hf
 obtain ⟨⟨⟨_,_⟩,hmode⟩,hrules,_⟩:=hf
 obtain ⟨⟨_,_,hr⟩,_⟩:=(wj p).1 hs
 refine ⟨hmode,hr,fun r hr=>?_⟩
 obtain ⟨j,hj⟩:=List.getElem?_of_mem hr
 exact (hrules j r hj).2
theorem Dj {p:Policy} {r:Rule} (h:r∈p.Rules):r.Expr∈aF p:=by
 rw [pq];exact List.mem_append_left _ (List.mem_map_of_mem h)
theorem yS:∀ (l:List Int) (g:Int),dw.L1 dw.K1 l g=true↔(∀ x∈l,g < x∧x < 64)∧l.Pairwise (· < ·)
 | [],g=>by simp [dw.L1,dw.K1]
 | y::l,g=>by
  simp only [dw.L1,Bool.cond_eq_ite,Bool.or_eq_true,decide_eq_true_eq]
  split
  ·next h=>
   constructor
   ·intro h';cases h'
   ·rintro ⟨h1,_⟩;have:=h1 y (List.mem_cons_self ..);omega
  ·next h=>
   rw [yS l y,List.pairwise_cons]
   simp only [List.mem_cons,forall_eq_or_imp]
   constructor
   ·rintro ⟨h1,h2⟩
    exact ⟨⟨by omega,fun x hx=>by have:=h1 x hx;omega⟩,fun x hx=>(h1 x hx).1,h2⟩
   ·rintro ⟨⟨h1,h2⟩,h3,h4⟩
    exact ⟨fun x hx=>⟨h3 x hx,(h2 x hx).2⟩,h4⟩
theorem Ex (l:List Int):dw l=true↔(∀ x∈l,0≤x∧x < 64)∧l.Pairwise (· < ·):=by
 unfold dw
 rw [yS]
 constructor
 ·rintro ⟨h1,h2⟩;exact ⟨fun x hx=>by have:=h1 x hx;omega,h2⟩
 ·rintro ⟨h1,h2⟩;exact ⟨fun x hx=>by have:=h1 x hx;omega,h2⟩
theorem yh {l:List Int} (h:dw l=true):l.Pairwise (·≤·):=((Ex l).1 h).2.imp (fun h=>Int.le_of_lt h)
theorem Et {hs:List (List Holder)} {n:Int} (h:de hs n=true):(hs.length:Int)=n:=by
 have h3:∀ (k:List Int→Bool) (l:List Holder) (g:List Int),de.L3 k l g=true→∃ g',k g'=true:=by
  intro k l
  induction l with
  | nil=>exact fun g h=>⟨g,h⟩
  | cons y l ih=>
   intro g h
   simp only [de.L3,Bool.cond_eq_ite] at h
   split at h
   ·cases h
   ·exact ih _ h
 have h1:∀ (k:Bool) (l:List (List Holder)),de.L1 k l=true→k=true:=by
  intro k l
  induction l with
  | nil=>exact fun h=>h
  | cons y l ih=>
   intro h
   obtain ⟨g',hg⟩:=h3 _ _ _ h
   simp only [Bool.cond_eq_ite] at hg
   split at hg
   ·cases hg
   ·exact ih hg
 have:=h1 _ _ h
 simpa [de.K1] using this
end Go.Sg
namespace Go.Sg
set_option linter.unusedVariables false
theorem vv:∀ (l:List Version) (g:Int),-1≤g→g≤1048576→(bz.L1 bz.K1 l g=0 ↔
  (∀ v∈l,(0≤v.At∧v.At≤1099511627775)∧(0≤v.Known∧v.Known≤1099511627775)∧v.No≤1048576∧cC v.Policy=0)∧(∀ v∈l,g < v.No)∧l.Pairwise (fun a b=>a.No < b.No))
 | [],g,_,_=>by simp [bz.L1,bz.K1]
 | y::l,g,h0,h1=>by
  simp only [bz.L1,wrap64 (z:=g+1) (by omega),aR]
  by_cases hy:((0≤y.At∧y.At≤1099511627775)∧(0≤y.Known∧y.Known≤1099511627775)∧y.No≤1048576∧cC y.Policy=0)∧g < y.No
  ·obtain ⟨⟨⟨a,a'⟩,⟨b,b'⟩,c,d⟩,e⟩:=hy
   have hc:(!(decide (g+1≤y.No)&&decide (y.No≤1048576))||!(decide (0≤y.At)&&decide (y.At≤1099511627775))||!(decide (0≤y.Known)&&decide (y.Known≤1099511627775))||cC y.Policy != 0)=false:=by
    simp [a,a',b,b',c,d];omega
   rw [hc,cond_false,vv l y.No (by omega) c,List.pairwise_cons]
   simp only [List.mem_cons,forall_eq_or_imp]
   constructor
   ·rintro ⟨h2,h3,h4⟩
    exact ⟨⟨⟨⟨a,a'⟩,⟨b,b'⟩,c,d⟩,h2⟩,⟨e,fun v hv=>by have:=h3 v hv;omega⟩,h3,h4⟩
   ·rintro ⟨⟨_,h2⟩,_,h3,h4⟩;exact ⟨h2,h3,h4⟩
  ·have hc:(!(decide (g+1≤y.No)&&decide (y.No≤1048576))||!(decide (0≤y.At)&&decide (y.At≤1099511627775))||!(decide (0≤y.Known)&&decide (y.Known≤1099511627775))||cC y.Policy != 0)=true:=by
    apply Classical.byContradiction
    intro hn
    apply hy
    simp only [Bool.not_eq_true,Bool.or_eq_false_iff,Bool.not_eq_false',Bool.and_eq_true,decide_eq_true_eq,bne_eq_false_iff_eq] at hn
    obtain ⟨⟨⟨a,b⟩,c⟩,d⟩:=hn
    exact ⟨⟨b,c,a.2,d⟩,by omega⟩
   rw [hc,cond_true]
   constructor
   ·intro h;omega
   ·rintro ⟨h2,h3,_⟩
    exact absurd ⟨h2 y (List.mem_cons_self ..),h3 y (List.mem_cons_self ..)⟩ hy
structure sD (l:List Version):Prop where
 len:l.length≤256
 each:∀ v∈l,(0≤v.At∧v.At≤1099511627775)∧(0≤v.Known∧v.Known≤1099511627775)∧(0≤v.No∧v.No≤1048576)∧cC v.Policy=0
 inc:l.Pairwise (fun a b=>a.No < b.No)
theorem mZ (l:List Version):bz l=0↔sD l:=by
 unfold bz
 by_cases hl:l.length≤256
 ·rw [show decide (256 < ((l.length:Nat):Int))=false from decide_eq_false (by omega),cond_false,vv l (-1) (by omega) (by omega)]
  constructor
  ·rintro ⟨h1,h2,h3⟩;exact ⟨hl,fun v hv=>by have a:=h1 v hv;have b:=h2 v hv;exact ⟨a.1,a.2.1,⟨by omega,a.2.2.1⟩,a.2.2.2⟩,h3⟩
  ·rintro ⟨_,h1,h3⟩;exact ⟨fun v hv=>by have:=h1 v hv;exact ⟨this.1,this.2.1,by omega,this.2.2.2⟩,fun v hv=>by have:=h1 v hv;omega,h3⟩
 ·rw [show decide (256 < ((l.length:Nat):Int))=true from decide_eq_true (by omega),cond_true]
  exact ⟨fun h=>by omega,fun h=>absurd h.len hl⟩
theorem sD.mode {l:List Version} (g:sD l) {v:Version} (hv:v∈l):1≤v.Policy.Mode∧v.Policy.Mode≤4:=(s6 (g.each v hv).2.2.2).1
theorem sD.okV {l:List Version} (g:sD l):okV l:=⟨g.len,fun v hv=>⟨⟨(s6 (g.each v hv).2.2.2).2.1,(uK (g.each v hv).2.2.2).2.1⟩,(s6 (g.each v hv).2.2.2).2.2⟩⟩
theorem za {κ α : Type} [DecidableEq κ] (k:κ) (v:α):∀ (m:List (κ×α)) (x:κ),mget? (mput m k v) x=if x=k then some v else mget? m x
 | [],x=>by simp [mput,mget?]
 | (k',v')::m,x=>by
  simp only [mput]
  by_cases e:k=k'
  ·subst e;by_cases e2:x=k <;> simp [mget?,e2]
  ·simp only [e,if_false,mget?,za k v m x]
   by_cases e2:x=k'
   ·subst e2;simp [Ne.symm e]
   ·simp [e2]
theorem vi {κ α : Type} [DecidableEq κ] {x:κ}:∀ {m:List (κ×α)},x∈m.map (·.1)→∃ v,mget? m x=some v∧(x,v)∈m
 | (k,v)::m,h=>by
  by_cases e:x=k
  ·subst e;exact ⟨v,by simp [mget?],by simp⟩
  ·simp only [List.map_cons,List.mem_cons,e,false_or] at h
   obtain ⟨u,h1,h2⟩:=vi h
   exact ⟨u,by simp [mget?,e,h1],List.mem_cons_of_mem _ h2⟩
theorem uB {κ α : Type} [DecidableEq κ] {k:κ} {v:α} {q:κ×α}:∀ {m:List (κ×α)},q∈mput m k v→q=(k,v)∨q∈m
 | [],h=>by simp [mput] at h;exact .inl h
 | (k',v')::m,h=>by
  simp only [mput] at h
  split at h
  ·rcases List.mem_cons.1 h with h | h
   ·exact .inl h
   ·exact .inr (List.mem_cons_of_mem _ h)
  ·rcases List.mem_cons.1 h with h | h
   ·exact .inr (h ▸ List.mem_cons_self ..)
   ·rcases uB h with h | h
    ·exact .inl h
    ·exact .inr (List.mem_cons_of_mem _ h)
theorem w6 (g:List (Int×Version)):∀ l,bA.L2 g [] l=l.map fun y=>(y,mgetD g y (Version.mk 0 0 0 (Policy.mk (⟨#[]⟩:ByteArray) [] [] [] (Expr.mk 0 0 0 (⟨#[]⟩:ByteArray) []) 0)))
 | []=>rfl
 | y::l=>by simp [bA.L2,w6 g l]
def inForceM (known eE:Int):List Version→Int→List (Int×Version)→List (Int×Version)
 | [],_,m=>m
 | y::l,b,m=>bif decide (known < y.Known) then inForceM known eE l b m else bif decide (y.At≤eE) then (bif decide (y.At < b) then inForceM known eE l b m else inForceM known eE l y.At (mput m eE y)) else inForceM known eE l b (mput m y.At y)
theorem w7 (known eE:Int) (k:Int→List (Int×Version)→List (Int×Version)) (hk:∀ a b m,k a m=k b m):∀ l b m,bA.L1 known eE k l b m=k 0 (inForceM known eE l b m)
 | [],b,m=>hk _ _ _
 | y::l,b,m=>by
  simp only [bA.L1,inForceM,w7 known eE k hk l]
  cases decide (known < y.Known) <;> cases decide (y.At≤eE) <;> cases decide (y.At < b) <;> rfl
theorem sT (l:List Version) (eE known:Int):fa l eE known=(sortI ((inForceM known eE l (-1) []).map Prod.fst)).map fun y=>(y,mgetD (inForceM known eE l (-1) []) y (Version.mk 0 0 0 (Policy.mk (⟨#[]⟩:ByteArray) [] [] [] (Expr.mk 0 0 0 (⟨#[]⟩:ByteArray) []) 0))):=by
 unfold fa bA
 rw [w7 _ _ _ (fun _ _ _=>rfl)]
 exact w6 _ _
theorem lZ (known eE:Int) (P:Int×Version→Prop):∀ (l:List Version) b m,(∀ y∈l,y.At≤eE→P (eE,y))→(∀ y∈l,eE < y.At→P (y.At,y))→(∀ q∈m,P q)→∀ q∈inForceM known eE l b m,P q
 | [],_,_,_,_,hm=>hm
 | y::l,b,m,h1,h2,hm=>by
  have h1':=fun z hz=>h1 z (List.mem_cons_of_mem _ hz)
  have h2':=fun z hz=>h2 z (List.mem_cons_of_mem _ hz)
  simp only [inForceM,Bool.cond_eq_ite,decide_eq_true_eq]
  split
  ·exact lZ known eE P l b m h1' h2' hm
  ·split
   ·next ha=>
    split
    ·exact lZ known eE P l b m h1' h2' hm
    ·refine lZ known eE P l _ _ h1' h2' (fun q hq=>?_)
     rcases uB hq with rfl | hq
     ·exact h1 y (List.mem_cons_self ..) ha
     ·exact hm q hq
   ·next ha=>
    refine lZ known eE P l _ _ h1' h2' (fun q hq=>?_)
    rcases uB hq with rfl | hq
    ·exact h2 y (List.mem_cons_self ..) (by omega)
    ·exact hm q hq
theorem ri {l:List Version} {eE known:Int} (P:Int×Version→Prop) (h1:∀ y∈l,y.At≤eE→P (eE,y)) (h2:∀ y∈l,eE < y.At→P (y.At,y)):∀ q∈fa l eE known,P q:=by
 intro q hq
 rw [sT] at hq
 obtain ⟨y,hy,rfl⟩:=List.mem_map.1 hq
 have hy':=(jV _).mem_iff.1 hy
 obtain ⟨v,e,hv⟩:=vi hy'
 have:mgetD (inForceM known eE l (-1) []) y (Version.mk 0 0 0 (Policy.mk (⟨#[]⟩:ByteArray) [] [] [] (Expr.mk 0 0 0 (⟨#[]⟩:ByteArray) []) 0))=v:=by simp [mgetD,e]
 simp only [this]
 exact lZ known eE P l (-1) [] h1 h2 (fun q hq=>(List.not_mem_nil hq).elim) _ hv
theorem rh {l:List Version} {eE known:Int}:∀ q∈fa l eE known,q.2∈l:=
 ri (fun q=>q.2∈l) (fun y hy _=>hy) (fun y hy _=>hy)
theorem nq (known eE:Int):∀ (l:List Version) b m,(inForceM known eE l b m).length≤m.length+l.length
 | [],_,_=>Nat.le_refl _
 | y::l,b,m=>by
  have a1:=nq known eE l b m
  have a2:=nq known eE l y.At (mput m eE y)
  have a3:=nq known eE l b (mput m y.At y)
  have b2:=gh m eE y
  have b3:=gh m y.At y
  simp only [inForceM,Bool.cond_eq_ite,List.length_cons]
  split
  ·omega
  ·split
   ·split <;> omega
   ·omega
theorem vl (l:List Version) (eE known:Int):(fa l eE known).length≤l.length:=by
 rw [sT,List.length_map,ie,List.length_map]
 have:=nq known eE l (-1) []
 simpa using this
end Go.Sg
namespace Go.Sg
set_option linter.unusedVariables false
theorem tw:∀ {a b:List OSeat},a.Pairwise (fun x y=>x.person < y.person)→b.Pairwise (fun x y=>x.person < y.person)→a.Perm b→a=b
 | [],b,_,_,p=>(List.Perm.nil_eq p)
 | x::a,[],_,_,p=>absurd p.length_eq (by simp)
 | x::a,y::b,ha,hb,p=>by
  have hx:x=y:=by
   have h1:x∈y::b:=p.mem_iff.1 (List.mem_cons_self ..)
   have h2:y∈x::a:=p.mem_iff.2 (List.mem_cons_self ..)
   rw [List.pairwise_cons] at ha hb
   rcases List.mem_cons.1 h1 with e | h1
   ·exact e
   ·rcases List.mem_cons.1 h2 with e | h2
    ·exact e.symm
    ·have:=ha.1 y h2;have:=hb.1 x h1;omega
  subst hx
  rw [List.pairwise_cons] at ha hb
  rw [tw ha.2 hb.2 (List.Perm.cons_inv p)]
theorem tx {office:Int} {l:List OSeat} (hn:l.Nodup) (hs:l.Pairwise (fun x y=>x.person≤y.person)):(l.filter (fun y=>y.office==office)).Pairwise (fun x y=>x.person < y.person):=by
 induction l with
 | nil=>exact List.Pairwise.nil
 | cons x l ih=>
  rw [List.nodup_cons] at hn
  rw [List.pairwise_cons] at hs
  rw [List.filter_cons]
  split
  ·next h=>
   rw [List.pairwise_cons]
   refine ⟨fun y hy=>?_,ih hn.2 hs.2⟩
   obtain ⟨hy1,hy2⟩:=List.mem_filter.1 hy
   have h1:=hs.1 y hy1
   rcases Int.lt_or_eq_of_le h1 with h2 | h2
   ·exact h2
   ·exfalso
    have:x=y:=by
     cases x;cases y
     simp at h hy2 h2
     simp [h,hy2,h2]
    exact hn.1 (this ▸ hy1)
  ·exact ih hn.2 hs.2
theorem pN (m:List (OSeat×Appoint)) (office:Int):∀ l,bT.L1 m office [] l=(l.filter fun y=>y.office==office).filterMap fun y=>bif (mgetD m y (Appoint.mk 0 0 0 0 0 0 false)).Gone then none else some (Holder.mk (mgetD m y (Appoint.mk 0 0 0 0 0 0 false)).Person (mgetD m y (Appoint.mk 0 0 0 0 0 0 false)).Weight)
 | []=>rfl
 | y::l=>by
  simp only [bT.L1,pN m office l,List.filter_cons]
  cases h1:y.office==office <;> cases h2:(mgetD m y (Appoint.mk 0 0 0 0 0 0 false)).Gone <;> simp [h2]
theorem yo {m:List (OSeat×Appoint)} {office:Int} {ys:List OSeat} (hn:(m.map (·.1)).Nodup) (hp:ys.Perm (m.map Prod.fst)) (hs:ys.Pairwise (fun x y=>x.person≤y.person)):
  bT m office=[]++((bT.L1 m office bT.K1) ys):=by
 unfold bT bT.K1
 rw [List.nil_append,pN,pN]
 have h1:(seatS (m.map Prod.fst)).Nodup:=(pE _).nodup_iff.2 hn
 have h2:ys.Nodup:=hp.nodup_iff.2 hn
 rw [tw (tx h1 (tz _)) (tx h2 hs) (((pE _).trans hp.symm).filter _)]
theorem re (key:Appoint→OSeat×Bool) (later:Appoint→Appoint→Bool):∀ (l:List Appoint) m,(ct.L1 key later ct.K1 l m).length≤m.length+l.length
 | [],m=>by simp [ct.L1,ct.K1]
 | y::l,m=>by
  have a:=re key later l m
  have b:=re key later l (mput m (key y).1 y)
  have c:=gh m (key y).1 y
  simp only [ct.L1,Bool.cond_eq_ite,List.length_cons]
  split <;> omega
theorem pB (l:List Appoint) (a b:Int):(e7 l a b).length≤l.length:=by
 have:=re (fun cG=>eR cG a b) ig l []
 simpa [e7,ct] using this
theorem B8 (l:List Holder):fd l=l:=by
 have:∀ (l g:List Holder),cu.L1 cu.K1 l g=g++l:=by
  intro l
  induction l with
  | nil=>intro g;simp [cu.L1,cu.K1]
  | cons y l ih=>intro g;simp [cu.L1,ih]
 simp [fd,cu,this]
theorem vn (m:List (OSeat×Appoint)) (office:Int):(gU m office).length≤m.length:=by
 unfold gU bT bT.K1
 rw [pN]
 have h1:=List.length_filterMap_le (fun y=>bif (mgetD m y (Appoint.mk 0 0 0 0 0 0 false)).Gone then none else some (Holder.mk (mgetD m y (Appoint.mk 0 0 0 0 0 0 false)).Person (mgetD m y (Appoint.mk 0 0 0 0 0 0 false)).Weight)) ((seatS (m.map Prod.fst)).filter fun y=>y.office==office)
 have h2:=List.length_filter_le (fun y:OSeat=>y.office==office) (seatS (m.map Prod.fst))
 have h3:=(pE (m.map Prod.fst)).length_eq
 rw [List.length_map] at h3
 omega
theorem vz (l:List Appoint) (office a b:Int):(cm l office a b).1.length≤l.length:=by
 unfold cm
 rw [B8]
 have h1:=vn (e7 l a b) office
 have h2:=pB l a b
 cases (cQ l != 0) <;> cases ((!(dx office))||(!(bI a))||(!(bI b))) <;> simp <;> omega
end Go.Sg
namespace Go.Sg
set_option linter.unusedVariables false
theorem nz (q:aU) (at_:Int):∀ (l:List Version) (g:List Policy),aC.L1 q at_ (aC.K1 q at_) l g=(g++(l.filter fun v=>et (aA q.Register.Versions q.doc.At at_ q.known).1 v.No).map (·.Policy),(aA q.Register.Versions q.doc.At at_ q.known).2.1)
 | [],g=>by simp [aC.L1,aC.K1]
 | y::l,g=>by
  simp only [aC.L1,nz q at_ l,List.filter_cons]
  cases et (aA q.Register.Versions q.doc.At at_ q.known).1 y.No <;> simp
theorem sQ {q:aU} {at_:Int} {p:Policy} (h:p∈(aC q at_).1):∃ v∈q.Register.Versions,v.Policy=p:=by
 unfold aC at h
 rw [Bool.cond_eq_ite] at h
 split at h
 ·exact (List.not_mem_nil h).elim
 ·rw [nz,List.nil_append] at h
  obtain ⟨v,hv,e⟩:=List.mem_map.1 h
  exact ⟨v,(List.mem_filter.1 hv).1,e⟩
theorem wZ (q:aU) (at_:Int):(aC q at_).1.length≤q.Register.Versions.length:=by
 unfold aC
 rw [Bool.cond_eq_ite]
 split
 ·exact Nat.zero_le _
 ·rw [nz,List.nil_append,List.length_map]
  exact List.length_filter_le _ _
theorem vf (q:aU) (at_:Int):∀ (l:List ByteArray) (i:Nat) (g:List (List Holder)),aD.L1 q at_ aD.K1 l i g=g++(List.range l.length).map fun j=>(cm q.Register.Appoints ((i+j:Nat):Int) at_ q.known).1
 | [],i,g=>by simp [aD.L1,aD.K1]
 | y::l,i,g=>by
  simp only [aD.L1,vf q at_ l,List.length_cons,List.append_assoc]
  congr 1
  rw [List.range_succ_eq_map,List.map_cons,List.map_map]
  simp only [Nat.add_zero,List.singleton_append,List.cons.injEq,true_and]
  apply List.map_congr_left
  intro j _
  simp only [Function.comp]
  rw [show i+1+j=i+(j+1) from by omega]
theorem mN (q:aU) (p:Policy) (at_:Int):aD q p at_=(List.range p.Offices.length).map fun (j:Nat)=>(cm q.Register.Appoints (j:Int) at_ q.known).1:=by
 unfold aD
 rw [vf]
 simp
theorem ve {q:aU} (h:q.Register.Appoints.length≤2000000) (p:Policy) (at_:Int):∀ y∈aD q p at_,y.length≤2000000:=by
 intro y hy
 rw [mN] at hy
 obtain ⟨j,_,rfl⟩:=List.mem_map.1 hy
 exact Nat.le_trans (vz _ _ _ _) h
theorem zB (q:aU) (p:Policy) (at_:Int):(aD q p at_).length=p.Offices.length:=by rw [mN];simp
theorem EJ (l:List Int) (p:Int→Bool):(bq l p).length≤l.length:=List.length_filter_le _ _
end Go.Sg
namespace Go.Sg
set_option linter.unusedVariables false
theorem Bu (r:Register):fp r=0↔cQ r.Appoints=0∧df r.Deputies=0∧cv r.Interests=0∧dj r.Budgets=0∧bz r.Versions=0∧cn r.Docs=0∧cz r.Approvals=0:=by
 have e:fp r=(bif cQ r.Appoints != 0 then 300 else bif df r.Deputies != 0 then 300 else bif cv r.Interests != 0 then 300 else bif dj r.Budgets != 0 then 300 else bif bz r.Versions != 0 then 300 else bif cn r.Docs != 0 then 300 else bif cz r.Approvals != 0 then 300 else 0):=rfl
 rw [e]
 have key:∀ (a x:Int),(bif a != 0 then 300 else x)=0↔a=0∧x=0:=by
  intro a x
  by_cases h:a=0
  ·simp [h]
  ·have:(a != 0)=true:=by simpa using h
   rw [this];simp [h]
 simp only [key,and_true]
theorem D2 (limit:Int) (k:Int→Bool):∀ (l:List Int) (g:Int),cD.L1 limit k l g=true↔((∀ x∈l,g < x∧x < limit)∧l.Pairwise (· < ·))∧∃ g',(l=[]∧g'=g∨l.getLast? = some g')∧k g'=true
 | [],g=>by simp [cD.L1]
 | y::l,g=>by
  simp only [cD.L1,Bool.cond_eq_ite,Bool.or_eq_true,decide_eq_true_eq]
  split
  ·next h=>
   constructor
   ·intro h';cases h'
   ·rintro ⟨⟨h1,_⟩,_⟩;have:=h1 y (List.mem_cons_self ..);omega
  ·next h=>
   rw [D2 limit k l y,List.pairwise_cons]
   simp only [List.mem_cons,forall_eq_or_imp]
   constructor
   ·rintro ⟨⟨h1,h2⟩,g',h3,h4⟩
    refine ⟨⟨⟨by omega,fun x hx=>by have:=h1 x hx;omega⟩,fun x hx=>(h1 x hx).1,h2⟩,g',?_,h4⟩
    rcases h3 with ⟨rfl,rfl⟩ | h3
    ·simp
    ·right;cases l with
     | nil=>simp at h3
     | cons z l=>simpa using h3
   ·rintro ⟨⟨⟨h1,h2⟩,h3,h4⟩,g',h5,h6⟩
    refine ⟨⟨fun x hx=>⟨h3 x hx,(h2 x hx).2⟩,h4⟩,g',?_,h6⟩
    rcases h5 with ⟨h5,_⟩ | h5
    ·cases h5
    ·cases l with
     | nil=>left;simp at h5;exact ⟨rfl,h5.symm⟩
     | cons z l=>right;simpa using h5
theorem Hf (l:List Int) (limit:Int):cD l limit=true↔((∀ x∈l,0≤x∧x < limit)∧l.Pairwise (· < ·))∧l.length≤16:=by
 unfold cD
 rw [D2]
 constructor
 ·rintro ⟨⟨h1,h2⟩,g',_,h3⟩
  refine ⟨⟨fun x hx=>by have:=h1 x hx;omega,h2⟩,?_⟩
  simp only [cD.K1,decide_eq_true_eq] at h3
  omega
 ·rintro ⟨⟨h1,h2⟩,h3⟩
  refine ⟨⟨fun x hx=>by have:=h1 x hx;omega,h2⟩,?_⟩
  cases l with
  | nil=>exact ⟨_,.inl ⟨rfl,rfl⟩,by simp [cD.K1]⟩
  | cons y l=>
   refine ⟨(y::l).getLast (by simp),.inr (List.getLast?_eq_some_getLast _),?_⟩
   simp only [cD.K1,decide_eq_true_eq]
   omega
structure Cl (d:Document):Prop where
 no:0≤d.No∧d.No < 4096
 at_:0≤d.At∧d.At < 1099511627776
 kind:0≤d.Kind∧d.Kind < 16
 value:0≤d.Value∧d.Value≤1099511627776
 eE:0≤d.From∧d.From < d.Until
 HG:d.Until≤1099511627776
 parties:((∀ x∈d.Parties,0≤x∧x < 1048577)∧d.Parties.Pairwise (· < ·))∧d.Parties.length≤16
 revokes:((∀ x∈d.Revokes,0≤x∧x < d.No)∧d.Revokes.Pairwise (· < ·))∧d.Revokes.length≤16
 needs:((∀ x∈d.Needs,0≤x∧x < d.No)∧d.Needs.Pairwise (· < ·))∧d.Needs.length≤16
theorem AO (d:Document):fF d=true↔Cl d:=by
 unfold fF eY
 simp only [Bool.and_eq_true,decide_eq_true_eq,Hf]
 constructor
 ·rintro ⟨⟨⟨⟨⟨⟨⟨⟨⟨⟨⟨⟨a,b⟩,c,d⟩,e⟩,f⟩,g⟩,h⟩,i⟩,j⟩,k⟩,l⟩,m⟩,n⟩
  exact ⟨⟨a,b⟩,⟨c,d⟩,⟨e,f⟩,⟨g,h⟩,⟨i,j⟩,k,l,m,n⟩
 ·rintro ⟨⟨a,b⟩,⟨c,d⟩,⟨e,f⟩,⟨g,h⟩,⟨i,j⟩,k,l,m,n⟩
  exact ⟨⟨⟨⟨⟨⟨⟨⟨⟨⟨⟨⟨a,b⟩,c,d⟩,e⟩,f⟩,g⟩,h⟩,i⟩,j⟩,k⟩,l⟩,m⟩,n⟩
theorem xL (l0:List Document):∀ (l:List Document) (i:Nat),cn.L1 l0 0 l i=0→∀ d∈l,fF d=true
 | [],_,_,_,hd=>(List.not_mem_nil hd).elim
 | y::l,i,h,d,hd=>by
  simp only [cn.L1,Bool.cond_eq_ite] at h
  split at h
  ·omega
  ·next hc=>
   simp only [Bool.or_eq_true,not_or,Bool.not_eq_true',Bool.not_eq_false] at hc
   rcases List.mem_cons.1 hd with rfl | hd
   ·exact hc.1.1
   ·exact xL l0 l (i+1) h d hd
theorem EI {l:List Document} (h:cn l=0):∀ d∈l,Cl d:=by
 unfold cn cn.K1 at h
 rw [Bool.cond_eq_ite] at h
 split at h
 ·omega
 ·exact fun d hd=>(AO d).1 (xL l l 0 h d hd)
theorem Bz (f:Document→Bool):∀ (l:List Document) (i:Nat),(ab.L1 f ab.K1 l i=-1∧∀ x∈l,f x=false) ∨
  ∃ a y b,l=a++y::b∧ab.L1 f ab.K1 l i=((i+a.length:Nat):Int)∧f y=true∧∀ x∈a,f x=false
 | [],i=>.inl ⟨rfl,fun _ h=>(List.not_mem_nil h).elim⟩
 | y::l,i=>by
  simp only [ab.L1]
  cases hy:f y with
  | true=>exact .inr ⟨[],y,l,rfl,by simp,hy,fun _ h=>(List.not_mem_nil h).elim⟩
  | false=>
   rcases Bz f l (i+1) with ⟨h1,h2⟩ | ⟨a,z,b,rfl,h2,h3,h4⟩
   ·exact .inl ⟨h1,fun x hx=>by rcases List.mem_cons.1 hx with rfl | hx;exact hy;exact h2 x hx⟩
   ·refine .inr ⟨y::a,z,b,rfl,?_,h3,fun x hx=>by rcases List.mem_cons.1 hx with rfl | hx;exact hy;exact h4 x hx⟩
    rw [cond_false,h2];simp only [List.length_cons];congr 1;omega
theorem Ic {r:Register} {doc known:Int} (h:(cT r doc known).2=true):(cT r doc known).1.Register=r∧(cT r doc known).1.doc∈r.Docs∧(cT r doc known).1.doc.No=doc∧(cT r doc known).1.known=known∧jC known=true:=by
 unfold cT at h ⊢
 rw [Bool.cond_eq_ite] at h ⊢
 rcases Bz (fun cG=>aK cG doc) r.Docs 0 with ⟨h1,_⟩ | ⟨a,y,b,h1,h2,h3,_⟩
 ·have:ab r.Docs (fun cG=>aK cG doc)=-1:=h1
  rw [this] at h
  simp at h
 ·have e:ab r.Docs (fun cG=>aK cG doc)=((a.length:Nat):Int):=by rw [Nat.zero_add] at h2;exact h2
  have hn:nthI r.Docs ((a.length:Nat):Int)=y:=FP (by rw [h1];simp)
  rw [e] at h ⊢
  cases ht:jC known with
  | false=>rw [ht] at h;simp at h
  | true=>
   rw [hn]
   have hc:(decide (((a.length:Nat):Int) < 0)||!true)=false:=by simp
   rw [hc]
   rw [if_neg (by simp)]
   refine ⟨by cases r;rfl,?_,?_,rfl,rfl⟩
   ·have:y∈r.Docs:=by rw [h1];simp
    cases y;exact this
   ·have h4:y.No=doc:=by simpa [aK] using h3
    exact h4
structure Iw (r:Register) (q:aU):Prop where
 reg:q.Register=r
 vers:sD r.Versions
 doc:Cl q.doc
theorem asked {r:Register} {doc known:Int} (hc:fp r=0) (h:(cT r doc known).2=true):Iw r (cT r doc known).1:=by
 obtain ⟨_,_,_,_,h5,h6,_⟩:=(Bu r).1 hc
 obtain ⟨h1,h2,_⟩:=Ic h
 exact ⟨h1,(mZ _).1 h5,EI h6 _ h2⟩
theorem vg (l0:List Int):∀ (l:List Int) (i:Nat),(aX.L1 l0 [] l i).length≤l.length
 | [],_=>Nat.le_refl _
 | y::l,i=>by
  have ih:=vg l0 l (i+1)
  simp only [aX.L1,Bool.cond_eq_ite,List.length_cons]
  split <;> split <;> first | omega | (simp only [List.length_cons];omega)
def changeR (q:aU) (l:List Rule) (m:List (Int×Bool)):List (Int×Bool):=l.foldl (fun m x=>mput m (q.doc.At+x.Think) true) m
def changeV (q:aU) (l:List Version) (m:List (Int×Bool)):List (Int×Bool):=l.foldl (fun m v=>changeR q v.Policy.Rules (mput m v.At true)) m
def changeM (q:aU):List (Int×Bool):=
 changeV q q.Register.Versions (q.Register.Interests.foldl (fun m x=>mput m x.At true) (q.Register.Appoints.foldl (fun m x=>mput m x.At true) (mput (mput (mput [] 0 true) q.doc.At true) q.doc.Until true)))
theorem yO (q:aU) (k:List (Int×Bool)→List Span):∀ l m,aH.L5 q k l m=k (changeR q l m)
 | [],m=>rfl
 | y::l,m=>by simp only [aH.L5,yO q k l];rfl
theorem yP (q:aU) (k:List (Int×Bool)→List Span):∀ l m,aH.L3 q k l m=k (changeV q l m)
 | [],m=>rfl
 | y::l,m=>by simp only [aH.L3,yO,yP q k l];rfl
theorem yQ (k:List (Int×Bool)→List Span):∀ l m,aH.L2 k l m=k (l.foldl (fun m x=>mput m x.At true) m)
 | [],m=>rfl
 | y::l,m=>by simp only [aH.L2,yQ k l];rfl
theorem yR (k:List (Int×Bool)→List Span):∀ l m,aH.L1 k l m=k (l.foldl (fun m x=>mput m x.At true) m)
 | [],m=>rfl
 | y::l,m=>by simp only [aH.L1,yR k l];rfl
theorem yN (q:aU):aH q=aX (sortI ((changeM q).map Prod.fst)):=by
 unfold aH
 rw [yR]
 unfold aH.K1
 rw [yQ]
 unfold aH.K2
 rw [yP]
 rfl
theorem tR {α : Type} (f:α→Int):∀ (l:List α) (m:List (Int×Bool)),(l.foldl (fun m x=>mput m (f x) true) m).length≤m.length+l.length
 | [],m=>Nat.le_refl _
 | y::l,m=>by
  have:=tR f l (mput m (f y) true)
  have:=gh m (f y) true
  simp only [List.foldl_cons,List.length_cons]
  omega
theorem vw (q:aU):∀ (l:List Version) (m:List (Int×Bool)),(∀ v∈l,v.Policy.Rules.length≤16)→(changeV q l m).length≤m.length+17 * l.length
 | [],m,_=>Nat.le_refl _
 | y::l,m,h=>by
  have a:=vw q l (changeR q y.Policy.Rules (mput m y.At true)) (fun v hv=>h v (List.mem_cons_of_mem _ hv))
  have b:=tR (fun x:Rule=>q.doc.At+x.Think) y.Policy.Rules (mput m y.At true)
  have c:=gh m y.At true
  have d:=h y (List.mem_cons_self ..)
  simp only [changeV,List.foldl_cons,List.length_cons] at a ⊢
  simp only [changeR] at a ⊢
  omega
theorem Ew {q:aU} (hsm:smR q.Register) (hov:okV q.Register.Versions):(aH q).length≤5000000:=by
 rw [yN]
 have h1:=vg (sortI ((changeM q).map Prod.fst)) (sortI ((changeM q).map Prod.fst)) 0
 rw [ie,List.length_map] at h1
 unfold aX aX.K1
 have h2:=vw q q.Register.Versions (q.Register.Interests.foldl (fun m x=>mput m x.At true) (q.Register.Appoints.foldl (fun m x=>mput m x.At true) (mput (mput (mput [] 0 true) q.doc.At true) q.doc.Until true))) (fun v hv=>(hov.2 v hv).1.1)
 have h3:=tR (fun x:Interest=>x.At) q.Register.Interests (q.Register.Appoints.foldl (fun m x=>mput m x.At true) (mput (mput (mput [] 0 true) q.doc.At true) q.doc.Until true))
 have h4:=tR (fun x:Appoint=>x.At) q.Register.Appoints (mput (mput (mput [] 0 true) q.doc.At true) q.doc.Until true)
 have h5:=gh (mput (mput ([]:List (Int×Bool)) 0 true) q.doc.At true) q.doc.Until true
 have h6:=gh (mput ([]:List (Int×Bool)) 0 true) q.doc.At true
 have h7:=gh ([]:List (Int×Bool)) 0 true
 have h8:=hsm.2.1
 have h9:=hsm.2.2.2.1
 have h10:=hov.1
 simp only [List.length_nil] at h7
 change (changeM q).length≤_ at h2
 omega
end Go.Sg
namespace Go.Sg
set_option linter.unusedVariables false
set_option linter.unusedSimpArgs false
theorem C9 (mode:Int) (l:List Version) (old:Bool):(judgesP mode l old).length≤l.length:=by
 unfold judgesP gG f9 gF
 cases mode==1 <;> cases mode==2 <;> cases old <;> simp <;> omega
theorem uQ (k:List Int→List Int×Int×Int):∀ (l:List Version) (g:List Int),aA.L2 k l g=k (g++l.map (·.No))
 | [],g=>by simp [aA.L2]
 | y::l,g=>by simp [aA.L2,uQ k l]
theorem zm (begun at_:Int) (P:List Int×Int×Int→Prop) (n:Nat) (k:Bool→List Version→List Int×Int×Int) (hk:∀ b g,g.length≤n→P (k b g)):∀ (l:List (Int×Version)) b g,g.length+l.length≤n→P (aA.L1 begun at_ k l b g)
 | [],b,g,h=>by simpa [aA.L1] using hk b g (by simpa using h)
 | y::l,b,g,h=>by
  simp only [aA.L1]
  simp only [List.length_cons] at h
  cases decide (at_ < y.1)
  ·exact zm begun at_ P n k hk l _ _ (by simp;omega)
  ·exact hk _ _ (by omega)
theorem xV (l:List Version) (begun at_ known:Int):(aA l begun at_ known).1.length≤l.length:=by
 unfold aA
 cases (bz l != 0)
 ·cases (((!(du begun))||(!(du at_)))||(!(du known)))||decide (at_ < begun)
  ·simp only [cond_false]
   refine zm begun at_ (fun r=>r.1.length≤l.length) l.length _ ?_ _ _ _ (by have:=vl l begun known;simpa using this)
   intro b g hg
   unfold aA.K1
   cases (((g.length:Nat):Int)==0)
   ·simp only [cond_false,uQ,aA.K2,List.nil_append,ie,List.length_map]
    exact Nat.le_trans (C9 _ _ _) hg
   ·simp
  ·simp
 ·simp
theorem qJ (no:Int):∀ (l:List Version) (k:Version),aI.L1 no k l=k∨aI.L1 no k l∈l
 | [],k=>.inl rfl
 | y::l,k=>by
  simp only [aI.L1]
  cases y.No==no
  ·rcases qJ no l k with h | h
   ·exact .inl h
   ·exact .inr (List.mem_cons_of_mem _ h)
  ·exact .inr (List.mem_cons_self ..)
theorem so {r:Register} (h:smR r) (no:Int):smP (aI r no).Policy:=by
 unfold aI
 rcases qJ no r.Versions aI.K1 with e | e
 ·rw [e];unfold aI.K1 smP
  refine ⟨by simp,by simp,?_,by simp,by simp⟩
  simp [Expr.dep,Expr.depL]
 ·exact h.vers.2 _ e
end Go.Sg
namespace Go.Sg
set_option linter.unusedVariables false
set_option linter.unusedSimpArgs false
theorem Ep:mD=true:=by kernel_rfl
theorem nl1:(aj ad 4 3 20 30).1.length=1:=by kernel_rfl
theorem nl2:(aj ad 4 1 15 30).1.length=1:=by kernel_rfl
theorem nl3:(aj ad 4 3 20 29).1.length=2:=by kernel_rfl
theorem Eo:smR ad:=by simp [smR,smV,smP,ad,Expr.dep,Expr.depL]
theorem GU:smR (Register.mk [] [] [] [] [] [] []):=by simp [smR,smV]
theorem GT:smR (Register.mk [(Appoint.mk 0 0 0 0 0 0 false)] [] [] [] [] [] []):=by simp [smR,smV]
theorem GV (a b:Interest):smR (Register.mk ad.Appoints ad.Deputies [a,b] ad.Budgets ad.Versions ad.Docs ad.Approvals):=by simp [smR,smV,smP,ad,Expr.dep,Expr.depL]
theorem Fp:smR (Register.mk ad.Appoints ad.Deputies ad.Interests ad.Budgets [] ad.Docs ad.Approvals):=by simp [smR,smV,smP,ad,Expr.dep,Expr.depL]
theorem lG {p:Prop} (h:p:=by first | exact Eo | exact GU | exact GT | exact GV _ _ | exact Fp):p:=h
end Go.Sg
namespace Go.Sg
set_option linter.unusedVariables false
set_option linter.unusedSimpArgs false
theorem AP (k:Bool):∀ l:List Int,e8.L1 k l=true↔(∀ x∈l,ei x=true)∧k=true
 | []=>by simp [e8.L1]
 | y::l=>by
  simp only [e8.L1,Bool.cond_eq_ite,List.mem_cons,forall_eq_or_imp,Bool.not_eq_true']
  have ih:=AP k l
  cases ei y <;> simp [ih]
structure Ig (r:Register) (doc:Int) (who l:List Int):Prop where
 times:∀ x∈l,0≤x∧x < 1099511627776
 check:iJ r=0
 doc0:0≤cK r doc
 people:eP who=true
theorem tD {r:Register} {doc:Int} {who l:List Int} (h:e8 r doc who l=true):Ig r doc who l:=by
 unfold e8 at h
 obtain ⟨h1,h2⟩:=(AP _ _).1 h
 simp only [e8.K1,Bool.and_eq_true,beq_iff_eq,decide_eq_true_eq] at h2
 exact ⟨fun x hx=>by have:=h1 x hx;simpa [ei] using this,h2.1.1.2,h2.1.2,h2.2⟩
theorem DZ (no:Int):∀ (l:List Document) (i:Nat),0≤cK.L1 no cK.K1 l i→∃ (j:Nat) (d:Document),l[j]? = some d∧d.No=no∧cK.L1 no cK.K1 l i=((i+j:Nat):Int)
 | [],i,h=>by simp [cK.L1,cK.K1] at h
 | y::l,i,h=>by
  simp only [cK.L1,Bool.cond_eq_ite,beq_iff_eq] at h ⊢
  split
  ·next e=>exact ⟨0,y,rfl,e,rfl⟩
  ·next e=>
   rw [if_neg e] at h
   obtain ⟨j,d,h1,h2,h3⟩:=DZ no l (i+1) h
   exact ⟨j+1,d,by simpa using h1,h2,by rw [h3];congr 1;omega⟩
theorem DY {r:Register} {no:Int} (h:0≤cK r no):cK r no < (r.Docs.length:Int)∧nthI r.Docs (cK r no)∈r.Docs∧(nthI r.Docs (cK r no)).No=no:=by
 obtain ⟨j,d,h1,h2,h3⟩:=DZ no r.Docs 0 h
 rw [Nat.zero_add] at h3
 have hl:=(List.getElem?_eq_some_iff.1 h1).1
 have e:cK r no=(j:Int):=h3
 have hb:0≤cK r no∧cK r no < (r.Docs.length:Int):=by omega
 have hg:=eA hb
 rw [show (cK r no).toNat=j from by omega,h1] at hg
 have hd:=Option.some.inj hg
 exact ⟨hb.2,kv hb,by rw [← hd];exact h2⟩
theorem GA (L:List Document):∀ (l:List Document) (i:Nat),eI.L1 L eI.K1 l i=0→∀ d∈l,fS d=true
 | [],_,_=>fun _ h=>(List.not_mem_nil h).elim
 | y::l,i,h=>by
  simp only [eI.L1,Bool.cond_eq_ite,Bool.or_eq_true,not_or] at h
  split at h
  ·simp at h
  ·next hc=>
   intro d hd
   rcases List.mem_cons.1 hd with rfl | hd
   ·simp only [not_or] at hc;simpa using hc.1.1.1
   ·exact GA L l (i+1) h d hd
theorem vu {r:Register} (h:iJ r=0):ey r.Appoints=0∧e6 r.Deputies=0∧eH r.Interests=0∧fh r.Budgets=0∧dp r.Versions=0∧eI r.Docs=0∧fg r.Approvals=0:=by
 simp only [iJ,Bool.cond_eq_ite,Bool.or_eq_true,bne_iff_ne] at h
 split at h
 ·simp at h
 ·next h1=>
  split at h
  ·simp at h
  ·next h2=>
   simp only [not_or,Classical.not_not] at h1 h2
   exact ⟨h1.1.1.1,h1.1.1.2,h1.1.2,h1.2,h2.1.1,h2.1.2,h2.2⟩
theorem Ce {l:List Document} (h:eI l=0):l.length≤4096∧∀ d∈l,fS d=true:=by
 simp only [eI,Bool.cond_eq_ite,decide_eq_true_eq] at h
 split at h
 ·simp at h
 ·next h1=>exact ⟨by omega,GA l l 0 h⟩
theorem Dl {d:Document} (h:fS d=true):(0≤d.At∧d.At < 1099511627776)∧0≤d.Kind:=by
 simp only [fS,Bool.cond_eq_ite] at h
 split at h
 ·cases h
 ·next h1=>
  simp only [Bool.or_eq_true,not_or,Bool.not_eq_true',decide_eq_true_eq,jp,Bool.and_eq_true,decide_eq_false_iff_not,Bool.not_eq_false,Bool.and_eq_false_iff] at h1
  omega
theorem ur {r:Register} {doc:Int} {who l:List Int} (h:e8 r doc who l=true):(0≤cK r doc∧cK r doc < (r.Docs.length:Int))∧(0≤(nthI r.Docs (cK r doc)).At∧(nthI r.Docs (cK r doc)).At < 1099511627776)∧0≤(nthI r.Docs (cK r doc)).Kind:=by
 have q:=tD h
 obtain ⟨h1,h2,h3⟩:=DY q.doc0
 obtain ⟨_,_,_,_,_,h6,_⟩:=vu q.check
 exact ⟨⟨q.doc0,h1⟩,Dl ((Ce h6).2 _ h2)⟩
end Go.Sg
