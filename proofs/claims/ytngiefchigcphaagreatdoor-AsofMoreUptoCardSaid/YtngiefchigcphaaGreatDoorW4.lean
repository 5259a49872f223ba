import Derived.KernelRfl
import Derived.Test.YtngiefchigcphaaGreatDoorW1
import Derived.Test.YtngiefchigcphaaGreatDoorW2
import Derived.Test.YtngiefchigcphaaGreatDoorW3
/- A part of the proof of the law AsofMore: where what it reads holds at most 1048576 values and letters, the call returns true and its arguments read as they did. Conditions: that bound, and that the listed table starts as the program lays it. -/
set_option linter.unusedVariables false
set_option linter.unusedSimpArgs false
namespace Go.Sg
set_option linter.unusedVariables false
def cv (dN:Int) (low:Int) (high:Int):Bool:=(decide (low≤dN)&&decide (dN≤high))
def dM (dN:Int):Bool:=(cv dN 0 31)
def bH (dN:Int):Bool:=(cv dN 0 1099511627775)
def fq (dN:Int):Bool:=(cv dN 0 63)
def jf (x:Appoint):Bool:=(bif x.Gone then ((((((cv x.No 0 1048576)&&(bH x.At))&&(bH x.Known))&&(dM x.Office))&&(fq x.Person))&&(cv x.Weight 0 0)) else ((((((cv x.No 0 1048576)&&(bH x.At))&&(bH x.Known))&&(dM x.Office))&&(fq x.Person))&&(cv x.Weight 1 64)))
def cx.K1  (gf:Int):Int:=0
def cx.L1  (k:Int→Int):List Appoint→Int→Int
 | [],gf=>(k gf)
 | y1::rz1,gf=>(bif ((!(jf y1))||decide (y1.No≤gf)) then 150 else (cx.L1  k rz1 y1.No))
def cx (l:(List Appoint)):Int:=(bif (decide (4096 < ((l.length:Nat):Int))) then 2 else ((cx.L1 (cx.K1)) l (-1)))
def cQ (dN:Int) (low:Int) (high:Int):Bool:=(decide (low≤dN)&&decide (dN≤high))
def ef (dN:Int):Bool:=(cQ dN 0 1099511627775)
def eA (dN:Int):Bool:=(cQ dN 0 63)
def jq (x:Deputy):Bool:=(bif ((((((((!(cQ x.No 0 1048576))||(!(ef x.At)))||(!(ef x.Known)))||(!(eA x.From)))||(!(eA x.To)))||(x.From==x.To))||(!(cQ x.Office 0 31)))||(!(cQ x.Kind (-1) 15))) then false else (bif x.Gone then ((x.Until==0)&&(x.Most==0)) else ((decide (x.At < x.Until)&&decide (x.Until≤1099511627776))&&(cQ x.Most 0 1099511627776))))
def dg.K1  (gf:Int):Int:=0
def dg.L1  (k:Int→Int):List Deputy→Int→Int
 | [],gf=>(k gf)
 | y1::rz1,gf=>(bif ((!(jq y1))||decide (y1.No≤gf)) then 160 else (dg.L1  k rz1 y1.No))
def dg (l:(List Deputy)):Int:=(bif (decide (4096 < ((l.length:Nat):Int))) then 2 else ((dg.L1 (dg.K1)) l (-1)))
def aK (dN:Int) (limit:Int):Bool:=(decide (0≤dN)&&decide (dN < limit))
def iw (x:Interest):Bool:=(bif x.Of then ((((((aK x.No 1048577)&&(aK x.At 1099511627776))&&(aK x.Known 1099511627776))&&(aK x.Party 1048577))&&(aK x.Person 1048577))&&(x.Person != x.Party)) else (((((aK x.No 1048577)&&(aK x.At 1099511627776))&&(aK x.Known 1099511627776))&&(aK x.Party 1048577))&&(aK x.Person 64)))
def bS.K1  (gf:Int):Int:=0
def bS.L1  (k:Int→Int):List Interest→Int→Int
 | [],gf=>(k gf)
 | y1::rz1,gf=>(bif ((!(iw y1))||decide (y1.No≤gf)) then 290 else (bS.L1  k rz1 y1.No))
def bS (l:(List Interest)):Int:=(bif (decide (4096 < ((l.length:Nat):Int))) then 2 else ((bS.L1 (bS.K1)) l (-1)))
def bU.K1  : Int:=(-1)
def bU.L1 (f:(Int→Bool)) (k:Int):List Int→Nat→Int
 | [],i1=>(k )
 | y1::rz1,i1=>(bif (f y1) then ((i1:Nat):Int) else (bU.L1 f k rz1 ((i1+1))))
def bU (s:(List Int)) (f:(Int→Bool)):Int:=((bU.L1 f (bU.K1)) s 0)
def cH (s:(List Int)) (f:(Int→Bool)):Bool:=decide (0≤(bU s f))
def iq (dN:Int) (v0:Int) (v1:Int):Bool:=(decide (dN < v0)||decide (v1 < dN))
def aI (least:Int) (most:Int) (l:(List Int)):Bool:=(!(cH l (fun cD=>iq cD least most)))
def jG (x:Budget):Bool:=(bif x.Gone then ((((((aI 0 1048576 ([x.No]))&&(aI 0 1099511627775 ([x.At,x.Known])))&&(aI (-1) 15 ([x.Kind])))&&(aI 1 1099511627776 ([x.Period])))&&(aI 0 0 ([x.Count])))&&(aI 0 0 ([x.Value]))) else ((((((aI 0 1048576 ([x.No]))&&(aI 0 1099511627775 ([x.At,x.Known])))&&(aI (-1) 15 ([x.Kind])))&&(aI 1 1099511627776 ([x.Period])))&&(aI 0 1048576 ([x.Count])))&&(aI 0 1099511627776 ([x.Value]))))
def dk.K1  (gf:Int):Int:=0
def dk.L1  (k:Int→Int):List Budget→Int→Int
 | [],gf=>(k gf)
 | y1::rz1,gf=>(bif ((!(jG y1))||decide (y1.No≤gf)) then 180 else (dk.L1  k rz1 y1.No))
def dk (l:(List Budget)):Int:=(bif (decide (4096 < ((l.length:Nat):Int))) then 2 else ((dk.L1 (dk.K1)) l (-1)))
def aZ.L2  (k:(List fT)):List fT→(List fT)
 | []=>k
 | y2::rz2=>(y2::(aZ.L2 k rz2 ))
def aZ.L3  (k:(List fT)):List fT→(List fT)
 | []=>k
 | y3::rz3=>(y3::(aZ.L3 k rz3 ))
def aZ.K1  : (List fT):=[]
def aZ.L1 (rec:Expr→Int→List fT) (depth:Int) (k:(List fT)):List Expr→(List fT)
 | []=>(k )
 | y1::rz1=>((aZ.L3 ((aZ.L1 rec depth k rz1 ))) (rec y1 (depth+1)))
def aZ.F (rec:Expr→Int→List fT) (x:Expr) (depth:Int):(List fT):=((fT.mk (Expr.mk x.Kind x.N x.No x.Name x.L) depth)::((aZ.L1 rec depth (aZ.K1)) x.L ))
def aZ.go:Nat→Expr→Int→List fT
 | 0=>fun _ _=>[]
 | m+1=>aZ.F (aZ.go m)
def bZ (x:Expr) (depth:Int):List fT:=aZ.go x.dep x depth
def eL (ok:Bool) (If:Int):(Except Int Unit):=(bif (!ok) then (Except.error If) else (Except.ok ()))
def aC.K1 (p:Policy) (yh:(List Expr)):(List Expr):=(yh++[p.Change])
def aC.L1  (k:(List Expr)→(List Expr)):List Rule→(List Expr)→(List Expr)
 | [],yh=>(k yh)
 | y1::rz1,yh=>(aC.L1  k rz1 (yh++[y1.Expr]))
def aC (p:Policy):(List Expr):=((aC.L1 (aC.K1 p)) p.Rules ([]))
def ct.L2  (k:Int→(Except Int Unit)):List fT→Int→(Except Int Unit)
 | [],wn=>k wn
 | y2::rz2,wn=>(exi (eL (decide ((IntKind.wrap .i64 (wn+1))≤256)&&decide (y2.depth≤16)) 2) (fun _=>(ct.L2 k rz2 (IntKind.wrap .i64 (wn+1)))))
def ct.L3  (k:Int→(Except Int Unit)):List fT→Int→(Except Int Unit)
 | [],wm=>k wm
 | y3::rz3,wm=>(exi (eL (decide ((IntKind.wrap .i64 (wm+1))≤256)&&decide (y3.depth≤16)) 2) (fun _=>(ct.L3 k rz3 (IntKind.wrap .i64 (wm+1)))))
def ct.K1  : (Except Int Unit):=(Except.ok ())
def ct.L1  (k:(Except Int Unit)):List Expr→(Except Int Unit)
 | []=>(k )
 | y1::rz1=>((ct.L3 (fun zg3_b3_0=>(ct.L1  k rz1 ))) (bZ y1 1) 0)
def ct (p:Policy):(Except Int Unit):=(exi (eL ((decide (((p.Offices.length:Nat):Int)≤32)&&decide (((p.Kinds.length:Nat):Int)≤16))&&decide (((p.Rules.length:Nat):Int)≤16)) 2) (fun _=>((ct.L1 (ct.K1)) (aC p))))
def cX (x:Expr):Bool:=((x.Kind==1)||(x.Kind==2))
def fH (s:ByteArray) (c:Int):Int:=(idxByte s c)
def strings_IndexByte (s:ByteArray) (c:Int):Int:=(fH s c)
def gz (c:Int):Int:=(bif ((decide (97≤c)&&decide (c≤122))||(decide (65≤c)&&decide (c≤90))) then 2 else (bif (decide (48≤c)&&decide (c≤57)) then 3 else (bif (c==95) then 5 else (bif ((((c==32)||(c==9))||(c==10))||(c==13)) then 1 else (bif (decide (0≤(strings_IndexByte (⟨#[123,125,40,41,59,44,61,58,46,60,62,33,43,45,42,47]⟩:ByteArray) c))) then 4 else 0)))))
def cK.K1  : Bool:=true
def cK.L1 (s:ByteArray) (k:Bool):List Nat→Nat→Bool
 | [],i1=>(k )
 | y1::rz1,i1=>(bif ((((gz ((s.data.getD (((i1:Nat):Int):Int).toNat 0).toNat:Int)) != 2)&&((gz ((s.data.getD (((i1:Nat):Int):Int).toNat 0).toNat:Int)) != 3))&&((gz ((s.data.getD (((i1:Nat):Int):Int).toNat 0).toNat:Int)) != 5)) then false else (cK.L1 s k rz1 ((i1+1))))
def cK (s:ByteArray):Bool:=(bif (((s.toList==(⟨#[]⟩:ByteArray).toList)||decide (32 < ((s.size:Nat):Int)))||((gz ((s.data.getD (0:Int).toNat 0).toNat:Int)) != 2)) then false else ((cK.L1 s (cK.K1)) (List.range s.size) 0))
def de (s:ByteArray):Bool:=(bif (s.toList==(⟨#[112,111,108,105,99,121]⟩:ByteArray).toList) then (bif (s.toList==(⟨#[112,111,108,105,99,121]⟩:ByteArray).toList) then false else (cK s)) else (bif (s.toList==(⟨#[109,111,100,101]⟩:ByteArray).toList) then (bif (s.toList==(⟨#[109,111,100,101]⟩:ByteArray).toList) then false else (cK s)) else (bif (s.toList==(⟨#[111,108,100]⟩:ByteArray).toList) then (bif (s.toList==(⟨#[111,108,100]⟩:ByteArray).toList) then false else (cK s)) else (bif (s.toList==(⟨#[110,101,119]⟩:ByteArray).toList) then (bif (s.toList==(⟨#[110,101,119]⟩:ByteArray).toList) then false else (cK s)) else (bif (s.toList==(⟨#[98,111,116,104]⟩:ByteArray).toList) then (bif (s.toList==(⟨#[98,111,116,104]⟩:ByteArray).toList) then false else (cK s)) else (bif (s.toList==(⟨#[101,105,116,104,101,114]⟩:ByteArray).toList) then (bif (s.toList==(⟨#[101,105,116,104,101,114]⟩:ByteArray).toList) then false else (cK s)) else (bif (s.toList==(⟨#[111,102,102,105,99,101]⟩:ByteArray).toList) then (bif (s.toList==(⟨#[111,102,102,105,99,101]⟩:ByteArray).toList) then false else (cK s)) else (bif (s.toList==(⟨#[107,105,110,100]⟩:ByteArray).toList) then (bif (s.toList==(⟨#[107,105,110,100]⟩:ByteArray).toList) then false else (cK s)) else (bif (s.toList==(⟨#[114,117,108,101]⟩:ByteArray).toList) then (bif (s.toList==(⟨#[114,117,108,101]⟩:ByteArray).toList) then false else (cK s)) else (bif (s.toList==(⟨#[116,104,105,110,107]⟩:ByteArray).toList) then (bif (s.toList==(⟨#[116,104,105,110,107]⟩:ByteArray).toList) then false else (cK s)) else (bif (s.toList==(⟨#[99,104,97,110,103,101]⟩:ByteArray).toList) then (bif (s.toList==(⟨#[99,104,97,110,103,101]⟩:ByteArray).toList) then false else (cK s)) else (bif (s.toList==(⟨#[115,111,109,101]⟩:ByteArray).toList) then (bif (s.toList==(⟨#[115,111,109,101]⟩:ByteArray).toList) then false else (cK s)) else (bif (s.toList==(⟨#[119,101,105,103,104,116]⟩:ByteArray).toList) then (bif (s.toList==(⟨#[119,101,105,103,104,116]⟩:ByteArray).toList) then false else (cK s)) else (bif (s.toList==(⟨#[111,102]⟩:ByteArray).toList) then (bif (s.toList==(⟨#[111,102]⟩:ByteArray).toList) then false else (cK s)) else (bif (s.toList==(⟨#[117,112,116,111]⟩:ByteArray).toList) then (bif (s.toList==(⟨#[117,112,116,111]⟩:ByteArray).toList) then false else (cK s)) else (bif (s.toList==(⟨#[101,108,115,101]⟩:ByteArray).toList) then false else (cK s)))))))))))))))))
def aN.K1  : Int:=(-1)
def aN.L1 (v:ByteArray) (k:Int):List ByteArray→Nat→Int
 | [],i1=>(k )
 | y1::rz1,i1=>(bif (v.toList==y1.toList) then ((i1:Nat):Int) else (aN.L1 v k rz1 ((i1+1))))
def aN (s:(List ByteArray)) (v:ByteArray):Int:=((aN.L1 v (aN.K1)) s 0)
def bD.K1  : Bool:=true
def bD.L1 (l:(List ByteArray)) (ok:(ByteArray→Bool)) (k:Bool):List ByteArray→Nat→Bool
 | [],i1=>(k )
 | y1::rz1,i1=>(bif ((!(ok y1))||((aN l y1) != ((i1:Nat):Int))) then false else (bD.L1 l ok k rz1 ((i1+1))))
def bD (l:(List ByteArray)) (ok:(ByteArray→Bool)):Bool:=((bD.L1 l ok (bD.K1)) l 0)
def dw (s:(List ByteArray)) (v:ByteArray):Bool:=decide (0≤(aN s v))
def cu.L2 (p:Policy) (k:(Except Int Unit)):List fT→(Except Int Unit)
 | []=>k
 | y2::rz2=>(exi (eL ((!(cX y2.x))||(dw p.Offices y2.x.Name)) 201) (fun _=>(cu.L2 p k rz2 )))
def cu.L3 (p:Policy) (k:(Except Int Unit)):List fT→(Except Int Unit)
 | []=>k
 | y3::rz3=>(exi (eL ((!(cX y3.x))||(dw p.Offices y3.x.Name)) 201) (fun _=>(cu.L3 p k rz3 )))
def cu.K1  : (Except Int Unit):=(Except.ok ())
def cu.L1 (p:Policy) (k:(Except Int Unit)):List Expr→(Except Int Unit)
 | []=>(k )
 | y1::rz1=>((cu.L3 p ((cu.L1 p k rz1 ))) (bZ y1 1))
def cu (p:Policy):(Except Int Unit):=(exi (eL (((de p.Name)&&(bD p.Offices de))&&(bD p.Kinds de)) 201) (fun _=>((cu.L1 p (cu.K1)) (aC p))))
def aO (dN:Int) (low:Int) (high:Int):Bool:=(decide (low≤dN)&&decide (dN≤high))
def ll (x0:Expr):Bool:=false
def jJ (x:Expr):Bool:=((x.N==0)&&(((x.L.length:Nat):Int)==0))
def jI (x:Expr):Bool:=((aO x.N 1 4096)&&(((x.L.length:Nat):Int)==0))
def jH (x:Expr):Bool:=(((x.Name.toList==(⟨#[]⟩:ByteArray).toList)&&(aO ((x.L.length:Nat):Int) 1 16))&&(aO x.N 1 ((x.L.length:Nat):Int)))
def ja (x:Expr):Bool:=(((x.Name.toList==(⟨#[]⟩:ByteArray).toList)&&(((x.L.length:Nat):Int)==2))&&(aO x.N 0 1099511627776))
def kindsP (i:Int) (x:Expr):Bool:=if i=0 then ll x else if i=1 then jJ x else if i=2 then jI x else if i=3 then jH x else ja x
def bC.L3 (p:Policy) (k:(Except Int Unit)):List fT→(Except Int Unit)
 | []=>k
 | y3::rz3=>(exi (eL ((aO y3.x.Kind 1 4)&&(kindsP y3.x.Kind y3.x)) 200) (fun _=>(exi (eL (decide (0 < (IntKind.wrap .i64 ((((aC p).length:Nat):Int) - 1)))||(y3.x.Kind != 4)) 200) (fun _=>(bC.L3 p k rz3 )))))
def bC.L4 (p:Policy) (i2:Nat) (k:(Except Int Unit)):List fT→(Except Int Unit)
 | []=>k
 | y4::rz4=>(exi (eL ((aO y4.x.Kind 1 4)&&(kindsP y4.x.Kind y4.x)) 200) (fun _=>(exi (eL (decide (((i2:Nat):Int) < (IntKind.wrap .i64 ((((aC p).length:Nat):Int) - 1)))||(y4.x.Kind != 4)) 200) (fun _=>(bC.L4 p i2 k rz4 )))))
def bC.K2  : (Except Int Unit):=(Except.ok ())
def bC.L2 (p:Policy) (k:(Except Int Unit)):List Expr→Nat→(Except Int Unit)
 | [],i2=>(k )
 | y2::rz2,i2=>((bC.L4 p i2 ((bC.L2 p k rz2 ((i2+1))))) (bZ y2 1))
def bC.K1 (p:Policy):(Except Int Unit):=((bC.L2 p (bC.K2)) (aC p) 0)
def bC.L1 (p:Policy) (k:(Except Int Unit)):List Rule→Nat→(Except Int Unit)
 | [],i1=>(k )
 | y1::rz1,i1=>(exi (eL ((y1.Kind.toList==(nthI p.Kinds ((i1:Nat):Int)).toList)&&(aO y1.Think 0 1099511627775)) 200) (fun _=>(bC.L1 p k rz1 ((i1+1)))))
def bC (p:Policy):(Except Int Unit):=(exi (eL ((decide (0 < ((p.Kinds.length:Nat):Int))&&(((p.Rules.length:Nat):Int)==((p.Kinds.length:Nat):Int)))&&(aO p.Mode 1 4)) 200) (fun _=>((bC.L1 p (bC.K1 p)) p.Rules 0)))
def dj (p:Policy):(Except Int Unit):=(exi (ct p) (fun _=>(exi (cu p) (fun _=>(exi (bC p) (fun _=>(Except.ok ())))))))
def ak.K1 (offices:(List ByteArray)) (x:Expr) (jw:(List Expr)):Expr:=(Expr.mk x.Kind x.N (aN offices x.Name) x.Name jw)
def ak.L1 (rec:(List ByteArray)→Expr→Expr) (offices:(List ByteArray)) (k:(List Expr)→Expr):List Expr→(List Expr)→Expr
 | [],jw=>(k jw)
 | y1::rz1,jw=>(ak.L1 rec offices k rz1 (jw++[(rec offices y1)]))
def ak.K2 (x:Expr) (jv:(List Expr)):Expr:=(Expr.mk x.Kind x.N 0 x.Name jv)
def ak.L2 (rec:(List ByteArray)→Expr→Expr) (offices:(List ByteArray)) (k:(List Expr)→Expr):List Expr→(List Expr)→Expr
 | [],jv=>(k jv)
 | y2::rz2,jv=>(ak.L2 rec offices k rz2 (jv++[(rec offices y2)]))
def ak.F (rec:(List ByteArray)→Expr→Expr) (offices:(List ByteArray)) (x:Expr):Expr:=(bif (cX (Expr.mk x.Kind x.N 0 x.Name x.L)) then ((ak.L1 rec offices (ak.K1 offices x)) x.L ([])) else ((ak.L2 rec offices (ak.K2 x)) x.L ([])))
def ak.go:Nat→(List ByteArray)→Expr→Expr
 | 0=>fun _ _=>default
 | m+1=>ak.F (ak.go m)
def ak (offices:(List ByteArray)) (x:Expr):Expr:=ak.go x.dep offices x
def dq.K1 (p:Policy) (kD:(List Rule)):(Policy×Int):=((Policy.mk p.Name p.Kinds p.Offices kD (Expr.mk ((ak p.Offices p.Change).Kind) ((ak p.Offices p.Change).N) ((ak p.Offices p.Change).No) ((ak p.Offices p.Change).Name) ((ak p.Offices p.Change).L)) p.Mode),0)
def dq.L1 (p:Policy) (k:(List Rule)→(Policy×Int)):List Rule→Nat→(List Rule)→(Policy×Int)
 | [],i1,kD=>(k kD)
 | y1::rz1,i1,kD=>(dq.L1 p k rz1 ((i1+1)) (kD++[(Rule.mk y1.Kind ((i1:Nat):Int) y1.Think (Expr.mk ((ak p.Offices y1.Expr).Kind) ((ak p.Offices y1.Expr).N) ((ak p.Offices y1.Expr).No) ((ak p.Offices y1.Expr).Name) ((ak p.Offices y1.Expr).L)))]))
def dq (p:Policy):(Policy×Int):=(bif ((attR (dj p)) != 0) then ((Policy.mk (⟨#[]⟩:ByteArray) ([]) ([]) ([]) (Expr.mk 0 0 0 (⟨#[]⟩:ByteArray) ([])) 0),(attR (dj p))) else ((dq.L1 p (dq.K1 p)) p.Rules 0 ([])))
def bX.K1  : Bool:=true
def bX.L1 (offices:(List ByteArray)) (k:Bool):List fT→Bool
 | []=>k
 | y1::rz1=>(bif (cX y1.x) then (bif (y1.x.No != (aN offices y1.x.Name)) then false else (bX.L1 offices k rz1 )) else (bif (y1.x.No != 0) then false else (bX.L1 offices k rz1 )))
def bX (offices:(List ByteArray)) (x:Expr):Bool:=((bX.L1 offices (bX.K1)) (bZ x 1))
def cy.K1 (p:Policy):Int:=(bif (!(bX p.Offices p.Change)) then 200 else 0)
def cy.L1 (p:Policy) (k:Int):List Rule→Nat→Int
 | [],i1=>(k )
 | y1::rz1,i1=>(bif ((y1.KindNo != ((i1:Nat):Int))||(!(bX p.Offices y1.Expr))) then 200 else (cy.L1 p k rz1 ((i1+1))))
def cy (p:Policy):Int:=(bif ((dq p).2 != 0) then (dq p).2 else ((cy.L1 p (cy.K1 p)) p.Rules 0))
def br.K1  (gf:Int):Int:=0
def br.L1  (k:Int→Int):List Version→Int→Int
 | [],gf=>(k gf)
 | y1::rz1,gf=>(bif ((((!(aO y1.No (IntKind.wrap .i64 (gf+1)) 1048576))||(!(aO y1.At 0 1099511627775)))||(!(aO y1.Known 0 1099511627775)))||((cy y1.Policy) != 0)) then 200 else (br.L1  k rz1 y1.No))
def br (l:(List Version)):Int:=(bif (decide (256 < ((l.length:Nat):Int))) then 2 else ((br.L1 (br.K1)) l (-1)))
def bv.K1 (l:(List Document)) (dx:(List (Int×Int))):gE:=(gE.mk l dx)
def bv.L1  (k:(List (Int×Int))→gE):List Document→Nat→(List (Int×Int))→gE
 | [],i1,dx=>(k dx)
 | y1::rz1,i1,dx=>(bv.L1  k rz1 ((i1+1)) (mput dx y1.No ((i1:Nat):Int)))
def bv (l:(List Document)):gE:=((bv.L1 (bv.K1 l)) l 0 ([]))
def fe (t:Int):Bool:=(decide (0≤t)&&decide (t < 1099511627776))
def cC.K1 (l:(List Int)) (iY:Int):Bool:=decide (((l.length:Nat):Int)≤16)
def cC.L1 (limit:Int) (k:Int→Bool):List Int→Int→Bool
 | [],iY=>(k iY)
 | y1::rz1,iY=>(bif (decide (y1≤iY)||decide (limit≤y1)) then false else (cC.L1 limit k rz1 y1))
def cC (l:(List Int)) (limit:Int):Bool:=((cC.L1 limit (cC.K1 l)) l (-1))
def fX (d:Document):Bool:=((((((((((((decide (0≤d.No)&&decide (d.No < 4096))&&(fe d.At))&&decide (0≤d.Kind))&&decide (d.Kind < 16))&&decide (0≤d.Value))&&decide (d.Value≤1099511627776))&&decide (0≤d.From))&&decide (d.From < d.Until))&&decide (d.Until≤1099511627776))&&(cC d.Parties 1048577))&&(cC d.Revokes d.No))&&(cC d.Needs d.No))
def dR (no:Int) (v0:gE):Bool:=(!(mhas v0.at_ no))
def er (s:gE) (d:Document):Bool:=((!(cH d.Revokes (fun cD=>dR cD s)))&&(!(cH d.Needs (fun cD=>dR cD s))))
def cj.K1  : Int:=0
def cj.L1 (l:(List Document)) (k:Int):List Document→Nat→Int
 | [],i1=>(k )
 | y1::rz1,i1=>(bif (((!(fX y1))||(decide (0 < ((i1:Nat):Int))&&decide (y1.No≤(nthI l (((i1:Nat):Int) - 1)).No)))||(!(er (bv l) y1))) then 170 else (cj.L1 l k rz1 ((i1+1))))
def cj (l:(List Document)):Int:=(bif (decide (4096 < ((l.length:Nat):Int))) then 2 else ((cj.L1 l (cj.K1)) l 0))
def ib (dN:Int) (v0:Int):Bool:=(decide (dN < 0)||decide (v0 < dN))
def cq (most:Int) (l:(List Int)):Bool:=(!(cH l (fun cD=>ib cD most)))
def iW (x:Approval):Bool:=(((((cq 1048576 ([x.No]))&&(cq 1099511627775 ([x.At,x.Known])))&&(cq 4095 ([x.Doc])))&&(cq 63 ([x.By,x.For])))&&(cq 31 ([x.Office])))
def cz.K1  (gf:Int):Int:=0
def cz.L1  (k:Int→Int):List Approval→Int→Int
 | [],gf=>(k gf)
 | y1::rz1,gf=>(bif ((!(iW y1))||decide (y1.No≤gf)) then 280 else (cz.L1  k rz1 y1.No))
def cz (l:(List Approval)):Int:=(bif (decide (4096 < ((l.length:Nat):Int))) then 2 else ((cz.L1 (cz.K1)) l (-1)))
def fa.K1  : Int:=0
def fa.L1 (aT:Register) (k:Int):List Nat→Nat→Int
 | [],i1=>(k )
 | y1::rz1,i1=>(bif ((nthI ([(cx aT.Appoints),(dg aT.Deputies),(bS aT.Interests),(dk aT.Budgets),(br aT.Versions),(cj aT.Docs),(cz aT.Approvals)]) ((i1:Nat):Int)) != 0) then 300 else (fa.L1 aT k rz1 ((i1+1))))
def fa (aT:Register):Int:=((fa.L1 aT (fa.K1)) (List.range 7) 0)
def jK (t:Int):Bool:=(decide (0≤t)&&decide (t < 1099511627776))
def ab.K1  : Int:=(-1)
def ab.L1 (f:(Document→Bool)) (k:Int):List Document→Nat→Int
 | [],i1=>(k )
 | y1::rz1,i1=>(bif (f y1) then ((i1:Nat):Int) else (ab.L1 f k rz1 ((i1+1))))
def ab (s:(List Document)) (f:(Document→Bool)):Int:=((ab.L1 f (ab.K1)) s 0)
def aG (d:Document) (v0:Int):Bool:=(d.No==v0)
def cT (aT:Register) (doc:Int) (known:Int):(aS×Bool):=(bif (decide ((ab aT.Docs (fun cD=>aG cD doc)) < 0)||(!(jK known))) then ((aS.mk (Register.mk ([]) ([]) ([]) ([]) ([]) ([]) ([])) (Document.mk 0 0 0 0 0 0 ([]) ([]) ([]) (fun _=>0)) 0),false) else ((aS.mk (Register.mk aT.Appoints aT.Deputies aT.Interests aT.Budgets aT.Versions aT.Docs aT.Approvals) (Document.mk ((nthI aT.Docs (ab aT.Docs (fun cD=>aG cD doc))).No) ((nthI aT.Docs (ab aT.Docs (fun cD=>aG cD doc))).At) ((nthI aT.Docs (ab aT.Docs (fun cD=>aG cD doc))).Kind) ((nthI aT.Docs (ab aT.Docs (fun cD=>aG cD doc))).Value) ((nthI aT.Docs (ab aT.Docs (fun cD=>aG cD doc))).From) ((nthI aT.Docs (ab aT.Docs (fun cD=>aG cD doc))).Until) ((nthI aT.Docs (ab aT.Docs (fun cD=>aG cD doc))).Parties) ((nthI aT.Docs (ab aT.Docs (fun cD=>aG cD doc))).Revokes) ((nthI aT.Docs (ab aT.Docs (fun cD=>aG cD doc))).Needs) ((nthI aT.Docs (ab aT.Docs (fun cD=>aG cD doc))).Text)) known),true))
def fP.K1  (gf:Int):Bool:=true
def fP.L1  (k:Int→Bool):List Int→Int→Bool
 | [],gf=>(k gf)
 | y1::rz1,gf=>(bif (decide (y1≤gf)||decide (64≤y1)) then false else (fP.L1  k rz1 y1))
def fP (who:(List Int)):Bool:=((fP.L1 (fP.K1)) who (-1))
def cmp_isNaN_int (x:Int):Bool:=(x != x)
def aX.K1  : (List Span):=[]
def aX.L1 (l:(List Int)) (k:(List Span)):List Int→Nat→(List Span)
 | [],i1=>(k )
 | y1::rz1,i1=>(bif (decide ((((i1+1):Nat):Int) < ((l.length:Nat):Int))) then (bif (decide (y1 < (min 1099511627776 (nthI l (((i1+1):Nat):Int))))) then ((Span.mk y1 (min 1099511627776 (nthI l (((i1+1):Nat):Int))))::(aX.L1 l k rz1 ((i1+1)))) else (aX.L1 l k rz1 ((i1+1)))) else (bif (decide (y1 < 1099511627776)) then ((Span.mk y1 1099511627776)::(aX.L1 l k rz1 ((i1+1)))) else (aX.L1 l k rz1 ((i1+1)))))
def aX (l:(List Int)):(List Span):=((aX.L1 l (aX.K1)) l 0)
def aE.L4 (q:aS) (k:(List (Int×Bool))→(List Span)):List Rule→(List (Int×Bool))→(List Span)
 | [],qj=>(k qj)
 | y4::rz4,qj=>(aE.L4 q k rz4 (mput qj (q.doc.At+y4.Think) true))
def aE.L5 (q:aS) (k:(List (Int×Bool))→(List Span)):List Rule→(List (Int×Bool))→(List Span)
 | [],ju=>(k ju)
 | y5::rz5,ju=>(aE.L5 q k rz5 (mput ju (q.doc.At+y5.Think) true))
def aE.K3  (i0:(List (Int×Bool))):(List Span):=(aX (sortI (i0.map Prod.fst)))
def aE.L3 (q:aS) (k:(List (Int×Bool))→(List Span)):List Version→(List (Int×Bool))→(List Span)
 | [],i0=>(k i0)
 | y3::rz3,i0=>((aE.L5 q (fun zg5_b2_0=>(aE.L3 q k rz3 zg5_b2_0))) y3.Policy.Rules (mput i0 y3.At true))
def aE.K2 (q:aS) (j0:(List (Int×Bool))):(List Span):=((aE.L3 q (aE.K3)) q.Register.Versions j0)
def aE.L2  (k:(List (Int×Bool))→(List Span)):List Interest→(List (Int×Bool))→(List Span)
 | [],j0=>(k j0)
 | y2::rz2,j0=>(aE.L2  k rz2 (mput j0 y2.At true))
def aE.K1 (q:aS) (dx:(List (Int×Bool))):(List Span):=((aE.L2 (aE.K2 q)) q.Register.Interests dx)
def aE.L1  (k:(List (Int×Bool))→(List Span)):List Appoint→(List (Int×Bool))→(List Span)
 | [],dx=>(k dx)
 | y1::rz1,dx=>(aE.L1  k rz1 (mput dx y1.At true))
def aE (q:aS):(List Span):=((aE.L1 (aE.K1 q)) q.Register.Appoints (mput (mput (mput ([]) 0 true) q.doc.At true) q.doc.Until true))
def df.K1  (gf:Int):Bool:=true
def df.L1  (k:Int→Bool):List Int→Int→Bool
 | [],gf=>(k gf)
 | y1::rz1,gf=>(bif (decide (y1≤gf)||decide (64≤y1)) then false else (df.L1  k rz1 y1))
def df (who:(List Int)):Bool:=((df.L1 (df.K1)) who (-1))
def cJ.L2  (k:(List Int)→Bool):List Holder→(List Int)→Bool
 | [],IG=>(k IG)
 | y2::rz2,IG=>(bif (decide (y2.Weight < 1)||decide (64 < y2.Weight)) then false else (cJ.L2  k rz2 (IG++[y2.Person])))
def cJ.L3  (k:(List Int)→Bool):List Holder→(List Int)→Bool
 | [],zb=>(k zb)
 | y3::rz3,zb=>(bif (decide (y3.Weight < 1)||decide (64 < y3.Weight)) then false else (cJ.L3  k rz3 (zb++[y3.Person])))
def cJ.K1 (holders:(List (List Holder))) (offices:Int):Bool:=(((holders.length:Nat):Int)==offices)
def cJ.L1  (k:Bool):List (List Holder)→Bool
 | []=>(k )
 | y1::rz1=>((cJ.L3 (fun zg3_7=>(bif (!(df zg3_7)) then false else (cJ.L1  k rz1 )))) y1 ([]))
def cJ (holders:(List (List Holder))) (offices:Int):Bool:=((cJ.L1 (cJ.K1 holders offices)) holders )
def bI.K1  : (List Holder):=[]
def bI.L1 (q:bp) (k:(List Holder)):List Holder→(List Holder)
 | []=>(k )
 | y1::rz1=>(bif ((slices_BinarySearch_int q.who y1.Person).2) then (y1::(bI.L1 q k rz1 )) else (bI.L1 q k rz1 ))
def bI (q:bp) (office:Int):(List Holder):=((bI.L1 q (bI.K1)) (nthI q.holders office))
def dH (q:bp) (office:Int):(List Holder):=(bI q office)
def dG.K1  (aH:Bool):Bool:=false
def dG.L1  (k:Bool→Bool):List Holder→Bool→Bool
 | [],aH=>k aH
 | y1::rz1,aH=>true
def dG (q:bp) (x:Expr):Bool:=((dG.L1 (dG.K1)) (dH q x.No) false)
def cI.K1 (x:Expr) (aH:Int):Bool:=decide (x.N≤aH)
def cI.L1  (k:Int→Bool):List Holder→Int→Bool
 | [],aH=>k aH
 | y1::rz1,aH=>(cI.L1 k rz1 (IntKind.wrap .i64 (aH+y1.Weight)))
def cI (q:bp) (x:Expr):Bool:=((cI.L1 (cI.K1 x)) (dH q x.No) 0)
def db.K1 (x:Expr) (iY:Int):Bool:=decide (x.N≤iY)
def db.L1 (rec:bp→Expr→Bool) (q:bp) (k:Int→Bool):List Expr→Int→Bool
 | [],iY=>(k iY)
 | y1::rz1,iY=>(bif (rec q y1) then (db.L1 rec q k rz1 (IntKind.wrap .i64 (iY+1))) else (db.L1 rec q k rz1 iY))
def db.F (rec:bp→Expr→Bool) (q:bp) (x:Expr):Bool:=((db.L1 rec q (db.K1 x)) x.L 0)
def iu.F (rec:bp→Expr→Bool) (q:bp) (x:Expr):Bool:=(bif (decide (q.value≤x.N)) then (rec q (nthI x.L 0)) else (rec q (nthI x.L 1)))
def fulQ (rec:bp→Expr→Bool) (q:bp) (x:Expr):Bool:=if x.Kind=1 then dG q x else if x.Kind=2 then cI q x else if x.Kind=3 then db.F rec q x else iu.F rec q x
def cw.F (rec:bp→Expr→Bool) (q:bp) (x:Expr):Bool:=(fulQ rec q x)
def cw.go:Nat→bp→Expr→Bool
 | 0=>fun _ _=>default
 | m+1=>cw.F (cw.go m)
def cw (q:bp) (x:Expr):Bool:=cw.go x.dep q x
def cp (p:Policy) (kind:Int) (value:Int) (holders:(List (List Holder))) (who:(List Int)):(Bool×Int):=(bif ((cy p) != 0) then (false,(cy p)) else (bif (((decide (kind < 0)||decide (((p.Kinds.length:Nat):Int)≤kind))||decide (value < 0))||decide (1099511627776 < value)) then (false,1) else (bif (!(cJ holders ((p.Offices.length:Nat):Int))) then (false,210) else (bif (!(df who)) then (false,1) else ((cw (bp.mk value holders who) ((nthI p.Rules kind).Expr)),0)))))
def il (l:(List Version)) (old:Bool):(List Version):=l
def gR (l:(List Version)) (old:Bool):(List Version):=(bif (!old) then [] else (l.take ((1:Int)).toNat))
def ik (l:(List Version)) (old:Bool):(List Version):=(l.drop (((((l.length:Nat):Int) - 1):Int)).toNat)
def jQ  : (List (Int×Value)):=(mput (mput (mput (mput ([]) 1 (Value.func (.func 143) #[] #[])) 2 (Value.func (.func 144) #[] #[])) 3 (Value.func (.func 142) #[] #[])) 4 (Value.func (.func 142) #[] #[]))
def judgesP (mode:Int) (l:List Version) (old:Bool):List Version:=bif mode==1 then gR l old else bif mode==2 then ik l old else il l old
def fN (mode:Int) (permits:(List Bool)):Int:=(bif (!(mhas jQ mode)) then 270 else (bif (decide (256 < ((permits.length:Nat):Int))) then 1 else 0))
def cV.K1  : Int:=(-1)
def cV.L1 (f:(Bool→Bool)) (k:Int):List Bool→Nat→Int
 | [],i1=>(k )
 | y1::rz1,i1=>(bif (f y1) then ((i1:Nat):Int) else (cV.L1 f k rz1 ((i1+1))))
def cV (s:(List Bool)) (f:(Bool→Bool)):Int:=((cV.L1 f (cV.K1)) s 0)
def bL (l:(List Bool)) (ok:(Bool→Bool)):Int:=(cV l ok)
def dt (DV:Bool):Bool:=DV
def et (DV:Bool):Bool:=(!DV)
def bg.K1 (permits:(List Bool)) (ku:(List Int)):((List Int)×Bool×Int):=(ku,decide (0≤(bL permits dt)),0)
def bg.L1  (k:(List Int)→((List Int)×Bool×Int)):List Bool→Nat→(List Int)→((List Int)×Bool×Int)
 | [],i1,ku=>(k ku)
 | y1::rz1,i1,ku=>(bg.L1  k rz1 ((i1+1)) (ku++[((i1:Nat):Int)]))
def bg.K2 (permits:(List Bool)) (xX:(List Int)):((List Int)×Bool×Int):=(xX,((((permits.length:Nat):Int)==1)&&(nthI permits 0)),0)
def bg.L2  (k:(List Int)→((List Int)×Bool×Int)):List Bool→Nat→(List Int)→((List Int)×Bool×Int)
 | [],i2,xX=>(k xX)
 | y2::rz2,i2,xX=>(bg.L2  k rz2 ((i2+1)) (xX++[((i2:Nat):Int)]))
def bg.K3  (xR:(List Int)):((List Int)×Bool×Int):=(xR,false,0)
def bg.L3  (k:(List Int)→((List Int)×Bool×Int)):List Bool→Nat→(List Int)→((List Int)×Bool×Int)
 | [],i3,xR=>(k xR)
 | y3::rz3,i3,xR=>(bg.L3  k rz3 ((i3+1)) (xR++[((i3:Nat):Int)]))
def bg (mode:Int) (permits:(List Bool)):((List Int)×Bool×Int):=(bif ((fN mode permits) != 0) then ([],false,(fN mode permits)) else (bif ((mode==4)&&decide (0≤(bL permits dt))) then ([(bL permits dt)],true,0) else (bif ((mode==3)&&decide (0≤(bL permits et))) then ([(bL permits et)],false,0) else (bif (mode==3) then ((bg.L1 (bg.K1 permits)) permits 0 ([])) else (bif (mode != 4) then ((bg.L2 (bg.K2 permits)) permits 0 ([])) else ((bg.L3 (bg.K3)) permits 0 ([])))))))
def fw (mode:Int) (permits:(List Bool)):(Bool×Int):=((bg mode permits).2.1,(bg mode permits).2.2)
def cg.K1 (person:Int) (parties:(List Int)) (hZ:Int) (known:Int) (vH:Int):Int:=(bif ((((!(aK person 64))||decide (16 < ((parties.length:Nat):Int)))||(!(aK hZ 1099511627776)))||(!(aK known 1099511627776))) then 1 else 0)
def cg.L1  (k:Int→Int):List Int→Int→Int
 | [],vH=>(k vH)
 | y1::rz1,vH=>(bif (decide (y1≤vH)||decide (1048576 < y1)) then 1 else (cg.L1  k rz1 y1))
def cg (l:(List Interest)) (person:Int) (parties:(List Int)) (hZ:Int) (known:Int):Int:=(bif ((bS l) != 0) then (bS l) else ((cg.L1 (cg.K1 person parties hZ known)) parties (-1)))
def bB.K1  : (List Interest):=[]
def bB.L1 (v1:(List (cL×Interest))) (k:(List Interest)):List Interest→(List Interest)
 | []=>(k )
 | y1::rz1=>(bif ((!y1.Gone)&&(decide ((mgetD v1 (cL.mk y1.Person y1.Party y1.Of) (Interest.mk 0 0 0 0 0 false false))=y1))) then (y1::(bB.L1 v1 k rz1 )) else (bB.L1 v1 k rz1 ))
def bB (v0:(List Interest)) (v1:(List (cL×Interest))):(List Interest):=((bB.L1 v1 (bB.K1)) v0 )
def bu.K1 (l:(List Interest)) (dx:(List (cL×Interest))):(List Interest):=(bB l dx)
def bu.L1 (iD:Int) (known:Int) (k:(List (cL×Interest))→(List Interest)):List Interest→(List (cL×Interest))→(List Interest)
 | [],dx=>(k dx)
 | y1::rz1,dx=>(bif (decide (iD < y1.At)||decide (known < y1.Known)) then (bu.L1 iD known k rz1 dx) else (bif ((!(mhas dx (cL.mk y1.Person y1.Party y1.Of)))||decide ((mgetD dx (cL.mk y1.Person y1.Party y1.Of) (Interest.mk 0 0 0 0 0 false false)).At≤y1.At)) then (bu.L1 iD known k rz1 (mput dx (cL.mk y1.Person y1.Party y1.Of) y1)) else (bu.L1 iD known k rz1 dx)))
def bu (l:(List Interest)) (iD:Int) (known:Int):(List Interest):=((bu.L1 iD known (bu.K1 l)) l ([]))
def conPut (w:fY) (m:List (Int×Bool)) (q:List fY):List (Int×Bool)×List fY:=bif mgetD m w.to false then (m,q) else (mput m w.to true,q++[w])
def conFill (person:Int):List Interest→List (Int×List Interest)→List (Int×Bool)→List fY→List (Int×List Interest)×List (Int×Bool)×List fY
 | [],f,m,q=>(f,m,q)
 | x::l,f,m,q=>bif x.Of then conFill person l (mput f x.Person (mgetD f x.Person []++[x])) m q
  else bif x.Person==person then conFill person l f (conPut ⟨[x.No],x.Party⟩ m q).1 (conPut ⟨[x.No],x.Party⟩ m q).2 else conFill person l f m q
def conStep (path:List Int):List Interest→List (Int×Bool)→List fY→List (Int×Bool)×List fY
 | [],m,q=>(m,q)
 | x::l,m,q=>conStep path l (conPut ⟨path++[x.No],x.Party⟩ m q).1 (conPut ⟨path++[x.No],x.Party⟩ m q).2
def conLoop (parties:List Int) (f:List (Int×List Interest)):Nat→List (Int×Bool)→List fY→List Int×Bool
 | 0,_,_=>([],false)
 | _+1,_,[]=>([],false)
 | n+1,m,w::q=>bif parties.contains w.to then (w.path,true) else bif ((w.path.length:Nat):Int)==8 then conLoop parties f n m q
  else conLoop parties f n (conStep w.path (mgetD f w.to []) m q).1 (conStep w.path (mgetD f w.to []) m q).2
def conFind (l:List Interest) (person:Int) (parties:List Int) (st:List Interest):List Int×Bool:=
 conLoop parties (conFill person st [] [] []).1 (l.length+1) (conFill person st [] [] []).2.1 (conFill person st [] [] []).2.2
def dc (l:List Interest) (person:Int) (parties:List Int) (hZ:Int) (known:Int):List Int×Bool×Int:=
 bif cg l person parties hZ known != 0 then ([],false,cg l person parties hZ known)
 else ((conFind l person parties (bu l hZ known)).1,(conFind l person parties (bu l hZ known)).2,0)
def pM (h:HF):List Value→List fY→Prop
 | [],[]=>True
 | v::vs,w::ws=>(∃ r,v=.agg (fY.cells w r).toArray∧fY.ok h w r)∧pM h vs ws
 | _,_=>False
def V3 (_:HF) (v:Value) (x:Option Addr×Nat×Nat):Prop:=v=.slice x.1 x.2.1 x.2.2
def FR (h:HF):List (Int×Option Addr×Nat×Nat)→List (Int×List Interest)→LH→Prop
 | [],[],G=>G=[]
 | (k,x)::m,(k',xs)::f,G=>k=k'∧x.2.1=xs.length∧∃ G1 G2,G=G1++G2∧ei Interest.rp 61 h xs x.1 x.2.2 G1∧FR h m f G2
 | _,_,_=>False
def mI (st:List Interest) (m:List (Int×Bool)) (q:List fY):Prop:=(∀ p∈m,p.2=true∧p.1∈st.map (·.Party))∧q.length≤m.length∧∀ w∈q,w.path.length≤8
def yH (st:List Interest) (f:List (Int×List Interest)):Prop:=∀ k,∀ x∈mgetD f k [],x∈st
def bo (dN:Int) (q:aS) (at_:Int):Bool:=(((dc q.Register.Interests dN q.doc.Parties at_ q.known).2.2 != 0)||(dc q.Register.Interests dN q.doc.Parties at_ q.known).2.1)
def bx (s:List Int) (del:Int→Bool):List Int:=s.filter fun x=>!(del x)
def dU (dN:Int):Bool:=(decide (0≤dN)&&decide (dN < 1099511627776))
def bz.K2  : (List (Int×Version)):=[]
def bz.L2 (da:(List (Int×Version))) (k:(List (Int×Version))):List Int→(List (Int×Version))
 | []=>(k )
 | y2::rz2=>((y2,(mgetD da y2 (Version.mk 0 0 0 (Policy.mk (⟨#[]⟩:ByteArray) [] [] [] (Expr.mk 0 0 0 (⟨#[]⟩:ByteArray) []) 0))))::(bz.L2 da k rz2 ))
def bz.K1  (nn:Int) (da:(List (Int×Version))):(List (Int×Version)):=((bz.L2 da (bz.K2)) (sortI (da.map Prod.fst)))
def bz.L1 (known:Int) (eo:Int) (k:Int→(List (Int×Version))→(List (Int×Version))):List Version→Int→(List (Int×Version))→(List (Int×Version))
 | [],nn,da=>(k nn da)
 | y1::rz1,nn,da=>(bif (decide (known < y1.Known)) then (bz.L1 known eo k rz1 nn da) else (bif (decide (y1.At≤eo)) then (bif (decide (y1.At < nn)) then (bz.L1 known eo k rz1 nn da) else (bz.L1 known eo k rz1 y1.At (mput da eo y1))) else (bz.L1 known eo k rz1 nn (mput da y1.At y1))))
def bz (l:(List Version)) (known:Int) (eo:Int):(List (Int×Version)):=((bz.L1 known eo (bz.K1)) l (-1) ([]))
def e8 (l:(List Version)) (ql:Int) (known:Int):(List (Int×Version)):=(bz l known ql)
def aV.K2 (aH:(List Version)) (wg:(List Int)):((List Int)×Int×Int):=((sortI wg),(nthI aH (((aH.length:Nat):Int) - 1)).Policy.Mode,0)
def aV.L2  (k:(List Int)→((List Int)×Int×Int)):List Version→(List Int)→((List Int)×Int×Int)
 | [],wg=>(k wg)
 | y2::rz2,wg=>(aV.L2  k rz2 (wg++[y2.No]))
def aV.K1  (fK:Bool) (aH:(List Version)):((List Int)×Int×Int):=(bif (((aH.length:Nat):Int)==0) then ([],0,0) else ((aV.L2 (aV.K2 aH)) (judgesP ((nthI aH (((aH.length:Nat):Int) - 1)).Policy.Mode) aH fK) ([])))
def aV.L1 (begun:Int) (bQ:Int) (k:Bool→(List Version)→((List Int)×Int×Int)):List (Int×Version)→Bool→(List Version)→((List Int)×Int×Int)
 | [],fK,aH=>k fK aH
 | y1::rz1,fK,aH=>(bif (decide (bQ < y1.1)) then (k fK aH) else (aV.L1 begun bQ k rz1 (fK||(y1.1==begun)) (aH++[y1.2])))
def aV (l:(List Version)) (begun:Int) (bQ:Int) (known:Int):((List Int)×Int×Int):=(bif ((br l) != 0) then ([],0,(br l)) else (bif ((((!(dU begun))||(!(dU bQ)))||(!(dU known)))||decide (bQ < begun)) then ([],0,1) else ((aV.L1 begun bQ (aV.K1)) (e8 l begun known) false ([]))))
def dL.K1  : Int:=(-1)
def dL.L1 (v:Int) (k:Int):List Int→Nat→Int
 | [],i1=>(k )
 | y1::rz1,i1=>(bif (v==y1) then ((i1:Nat):Int) else (dL.L1 v k rz1 ((i1+1))))
def dL (s:(List Int)) (v:Int):Int:=((dL.L1 v (dL.K1)) s 0)
def fQ (s:(List Int)) (v:Int):Bool:=decide (0≤(dL s v))
def av.K1 (q:aS) (iD:Int) (ku:(List Policy)):((List Policy)×Int):=(ku,(aV q.Register.Versions q.doc.At iD q.known).2.1)
def av.L1 (q:aS) (iD:Int) (k:(List Policy)→((List Policy)×Int)):List Version→(List Policy)→((List Policy)×Int)
 | [],ku=>(k ku)
 | y1::rz1,ku=>(bif (fQ ((aV q.Register.Versions q.doc.At iD q.known).1) y1.No) then (av.L1 q iD k rz1 (ku++[y1.Policy])) else (av.L1 q iD k rz1 ku))
def av (q:aS) (iD:Int):((List Policy)×Int):=(bif ((aV q.Register.Versions q.doc.At iD q.known).2.2 != 0) then ([],0) else ((av.L1 q iD (av.K1 q iD)) q.Register.Versions ([])))
def co.K1  (da:(List Holder)):(List Holder):=da
def co.L1  (k:(List Holder)→(List Holder)):List Holder→(List Holder)→(List Holder)
 | [],da=>k da
 | y1::rz1,da=>(co.L1 k rz1 (da++[y1]))
def co (seq:(List Holder)):(List Holder):=((co.L1 (co.K1)) seq ([]))
def ft (seq:(List Holder)):(List Holder):=(co seq)
def cmp_Compare_int (x:Int) (y:Int):Int:=(bif (cmp_isNaN_int x) then (bif (cmp_isNaN_int y) then 0 else (-1)) else (bif (cmp_isNaN_int y) then 1 else (bif (decide (x < y)) then (-1) else (bif (decide (y < x)) then 1 else 0))))
def bV.K1  : (List Holder):=[]
def bV.L1 (m:(List (OSeat×Appoint))) (office:Int) (k:(List Holder)):List OSeat→(List Holder)
 | []=>(k )
 | y1::rz1=>(bif ((y1.office==office)&&(!((mgetD m y1 (Appoint.mk 0 0 0 0 0 0 false)).Gone))) then ((Holder.mk ((mgetD m y1 (Appoint.mk 0 0 0 0 0 0 false)).Person) ((mgetD m y1 (Appoint.mk 0 0 0 0 0 0 false)).Weight))::(bV.L1 m office k rz1 )) else (bV.L1 m office k rz1 ))
def bV (m:(List (OSeat×Appoint))) (office:Int):(List Holder):=((bV.L1 m office (bV.K1)) (seatS (m.map Prod.fst)))
def ic (m:(List (OSeat×Appoint))) (office:Int):(List Holder):=(bV m office)
def ed (x:Appoint) (v0:Int) (v1:Int):(OSeat×Bool):=((OSeat.mk x.Office x.Person),(decide (x.At≤v0)&&decide (x.Known≤v1)))
def bN.K1  (da:(List (OSeat×Appoint))):(List (OSeat×Appoint)):=da
def bN.L1 (key:(Appoint→OSeat×Bool)) (later:(Appoint→Appoint→Bool)) (k:(List (OSeat×Appoint))→(List (OSeat×Appoint))):List Appoint→(List (OSeat×Appoint))→(List (OSeat×Appoint))
 | [],da=>(k da)
 | y1::rz1,da=>(bif ((key y1).2&&((!(mhas da ((key y1).1)))||(!(later (mgetD da ((key y1).1) (Appoint.mk 0 0 0 0 0 0 false)) y1)))) then (bN.L1 key later k rz1 (mput da ((key y1).1) y1)) else (bN.L1 key later k rz1 da))
def bN (l:(List Appoint)) (key:(Appoint→OSeat×Bool)) (later:(Appoint→Appoint→Bool)):(List (OSeat×Appoint)):=((bN.L1 key later (bN.K1)) l ([]))
def iy (a:Appoint) (gI:Appoint):Bool:=decide (gI.At < a.At)
def eV (l:(List Appoint)) (iD:Int) (known:Int):(List (OSeat×Appoint)):=(bN l (fun cD=>ed cD iD known) iy)
def dy (l:(List Appoint)) (office:Int) (bQ:Int) (known:Int):((List Holder)×Int):=(bif ((cx l) != 0) then ([],(cx l)) else (bif (((!(dM office))||(!(bH bQ)))||(!(bH known))) then ([],1) else ((ft (ic (eV l bQ known) office)),0)))
def aD.K1  (nn:(List (List Holder))):(List (List Holder)):=nn
def aD.L1 (q:aS) (bQ:Int) (k:(List (List Holder))→(List (List Holder))):List ByteArray→Nat→(List (List Holder))→(List (List Holder))
 | [],i1,nn=>(k nn)
 | y1::rz1,i1,nn=>(aD.L1 q bQ k rz1 ((i1+1)) (nn++[(dy q.Register.Appoints ((i1:Nat):Int) bQ q.known).1]))
def aD (q:aS) (p:Policy) (bQ:Int):(List (List Holder)):=((aD.L1 q bQ (aD.K1)) p.Offices 0 ([]))
def bn.K1 (q:aS) (bQ:Int) (pg:(List Bool)):Bool:=((fw ((av q bQ).2) pg).1&&((fw ((av q bQ).2) pg).2==0))
def bn.L1 (q:aS) (who:(List Int)) (bQ:Int) (k:(List Bool)→Bool):List Policy→(List Bool)→Bool
 | [],pg=>(k pg)
 | y1::rz1,pg=>(bif (decide (q.doc.Kind < ((y1.Rules.length:Nat):Int))&&decide ((q.doc.At+(nthI y1.Rules q.doc.Kind).Think)≤bQ)) then (bn.L1 q who bQ k rz1 (pg++[((cp y1 q.doc.Kind q.doc.Value (aD q y1 bQ) (bx who (fun cD=>bo cD q bQ))).1&&((cp y1 q.doc.Kind q.doc.Value (aD q y1 bQ) (bx who (fun cD=>bo cD q bQ))).2==0))])) else (bn.L1 q who bQ k rz1 (pg++[(decide (q.doc.Kind < ((y1.Rules.length:Nat):Int))&&decide ((q.doc.At+(nthI y1.Rules q.doc.Kind).Think)≤bQ))])))
def bn (q:aS) (who:(List Int)) (bQ:Int):Bool:=(bif (decide (bQ < q.doc.At)||decide (q.doc.Until≤bQ)) then false else ((bn.L1 q who bQ (bn.K1 q bQ)) ((av q bQ).1) ([])))
def aW.K1  (aH:(List Span)):((List Span)×Int):=(aH,0)
def aW.L1 (aT:Register) (doc:Int) (who:(List Int)) (known:Int) (k:(List Span)→((List Span)×Int)):List Span→(List Span)→((List Span)×Int)
 | [],aH=>k aH
 | y1::rz1,aH=>(bif (!(bn ((cT aT doc known).1) who y1.From)) then (aW.L1 aT doc who known k rz1 aH) else (bif (decide (0 < ((aH.length:Nat):Int))&&((nthI aH (((aH.length:Nat):Int) - 1)).Until==y1.From)) then (aW.L1 aT doc who known k rz1 (aH.set ((((aH.length:Nat):Int) - 1):Int).toNat (Span.mk (nthI aH (((aH.length:Nat):Int) - 1)).From y1.Until))) else (aW.L1 aT doc who known k rz1 (aH++[y1]))))
def aW (aT:Register) (doc:Int) (who:(List Int)) (known:Int):((List Span)×Int):=(bif ((fa aT) != 0) then ([],300) else (bif ((!((cT aT doc known).2))||(!(fP who))) then ([],1) else ((aW.L1 aT doc who known (aW.K1)) (aE ((cT aT doc known).1)) ([]))))
def aY.L3  (k:(List (Int×Bool))→(List Int)):List Holder→(List (Int×Bool))→(List Int)
 | [],i0=>(k i0)
 | y3::rz3,i0=>(aY.L3  k rz3 (mput i0 y3.Person true))
def aY.L4  (k:(List (Int×Bool))→(List Int)):List Holder→(List (Int×Bool))→(List Int)
 | [],qj=>(k qj)
 | y4::rz4,qj=>(aY.L4  k rz4 (mput qj y4.Person true))
def aY.L2  (k:(List (Int×Bool))→(List Int)):List (List Holder)→(List (Int×Bool))→(List Int)
 | [],j0=>(k j0)
 | y2::rz2,j0=>((aY.L4 (fun zg4_b2_0=>(aY.L2  k rz2 zg4_b2_0))) y2 j0)
def aY.L7  (k:(List (Int×Bool))→(List Int)):List Holder→(List (Int×Bool))→(List Int)
 | [],nB=>(k nB)
 | y7::rz7,nB=>(aY.L7  k rz7 (mput nB y7.Person true))
def aY.L5  (k:(List (Int×Bool))→(List Int)):List (List Holder)→(List (Int×Bool))→(List Int)
 | [],ju=>(k ju)
 | y5::rz5,ju=>((aY.L7 (fun zg7_b2_0=>(aY.L5  k rz5 zg7_b2_0))) y5 ju)
def aY.K1 (person:Int) (dx:(List (Int×Bool))):(List Int):=(sortI ((mdel dx person).map Prod.fst))
def aY.L1 (q:aS) (bQ:Int) (k:(List (Int×Bool))→(List Int)):List Policy→(List (Int×Bool))→(List Int)
 | [],dx=>(k dx)
 | y1::rz1,dx=>((aY.L5 (fun zg5_b2_0=>(aY.L1 q bQ k rz1 zg5_b2_0))) (aD q y1 bQ) dx)
def aY (q:aS) (person:Int) (bQ:Int):(List Int):=(bif (decide (bQ < q.doc.At)) then [] else ((aY.L1 q bQ (aY.K1 person)) ((av q bQ).1) ([])))
def tryP (c:List Int→Bool) (help:List Int):Nat→Nat→List Int→Option (List Int)
 | 0,_,ws=>bif c ws then some ws else none
 | m+1,fr,ws=>(List.range' fr (help.length - m - fr)).findSome? fun i=>tryP c help m (i+1) (ws++[nthI help ((i:Nat):Int)])
def needC (q:aS) (person at_:Int) (ws:List Int):Bool:=bn q (sortI (ws++[person])) at_
def needLoop (c:List Int→Bool) (help:List Int):Option (List Int):=(List.range' 0 (help.length+1)).findSome? fun many=>tryP c help many 0 []
def ia (aT:Register) (doc:Int) (person:Int) (hZ:Int) (known:Int):List Int×Bool×Int:=
 bif (fa aT) != 0 then ([],false,300)
 else bif ((((!((cT aT doc known).2))||decide (person < 0))||decide (64≤person))||(!(jK hZ))) then ([],false,1)
 else bif decide (12 < (((aY (cT aT doc known).1 person hZ).length:Nat):Int)) then ([],false,2)
 else match needLoop (needC (cT aT doc known).1 person hZ) (aY (cT aT doc known).1 person hZ) with
  | some l=>(l,true,0)
  | none=>([],false,0)
def bO  : Register:=(Register.mk ([(Appoint.mk 1 0 0 0 1 1 false),(Appoint.mk 2 0 0 0 2 1 false),(Appoint.mk 3 20 30 0 3 1 false)]) ([]) ([]) ([]) ([(Version.mk 7 0 0 (Policy.mk (⟨#[112]⟩:ByteArray) ([(⟨#[107]⟩:ByteArray)]) ([(⟨#[104,101,97,100]⟩:ByteArray)]) ([(Rule.mk (⟨#[107]⟩:ByteArray) 0 5 (Expr.mk 2 2 0 (⟨#[104,101,97,100]⟩:ByteArray) ([])))]) (Expr.mk 2 2 0 (⟨#[104,101,97,100]⟩:ByteArray) ([])) 2))]) ([(Document.mk 4 10 0 0 0 100 ([6]) ([]) ([]) (fun _=>0))]) ([]))
def dD.K1  : Bool:=true
def dD.L1 (gI:(List Span)) (k:Bool):List Span→Nat→Bool
 | [],i1=>(k )
 | y1::rz1,i1=>(bif (!(decide (y1=(nthI gI ((i1:Nat):Int))))) then false else (dD.L1 gI k rz1 ((i1+1))))
def dD (a:(List Span)) (gI:(List Span)):Bool:=(bif (((a.length:Nat):Int) != ((gI.length:Nat):Int)) then false else ((dD.L1 gI (dD.K1)) a 0))
def rA (aT:Register) (known:Int) (who:(List Int)) (want:(List Span)):Bool:=(((aW aT 4 who known).2==0)&&(dD ((aW aT 4 who known).1) want))
def mO  : Bool:=true
def eS.K1  (iY:Int):Int:=iY
def eS.L1 (rec:Expr→Int→Int) (limit:Int) (k:Int→Int):List Expr→Int→Int
 | [],iY=>(k iY)
 | y1::rz1,iY=>(bif (decide (iY≤limit)) then (eS.L1 rec limit k rz1 (IntKind.wrap .i64 (iY+(rec y1 (IntKind.wrap .i64 (limit - iY)))))) else (k iY))
def eS.F (rec:Expr→Int→Int) (x:Expr) (limit:Int):Int:=((eS.L1 rec limit (eS.K1)) x.L 1)
def eS.go:Nat→Expr→Int→Int
 | 0=>fun _ _=>default
 | m+1=>eS.F (eS.go m)
def eS (x:Expr) (limit:Int):Int:=eS.go x.dep x limit
def cG.L2  (k:Bool):List Rule→Bool
 | []=>(k )
 | y2::rz2=>(bif (decide (40 < (eS y2.Expr 40))) then false else (cG.L2  k rz2 ))
def cG.L3  (k:Bool):List Rule→Bool
 | []=>(k )
 | y3::rz3=>(bif (decide (40 < (eS y3.Expr 40))) then false else (cG.L3  k rz3 ))
def cG.K1  : Bool:=true
def cG.L1  (k:Bool):List Version→Bool
 | []=>(k )
 | y1::rz1=>(bif (((decide (20 < ((y1.Policy.Kinds.length:Nat):Int))||decide (40 < ((y1.Policy.Offices.length:Nat):Int)))||decide (20 < ((y1.Policy.Rules.length:Nat):Int)))||decide (40 < (eS y1.Policy.Change 40))) then false else ((cG.L3 ((cG.L1  k rz1 ))) y1.Policy.Rules ))
def cG (l:(List Version)):Bool:=(bif (decide (5 < ((l.length:Nat):Int))) then false else ((cG.L1 (cG.K1)) l ))
def ie.K1  : Bool:=true
def ie.L1  (k:Bool):List Document→Bool
 | []=>(k )
 | y1::rz1=>(bif ((decide (20 < ((y1.Parties.length:Nat):Int))||decide (20 < ((y1.Revokes.length:Nat):Int)))||decide (20 < ((y1.Needs.length:Nat):Int))) then false else (ie.L1  k rz1 ))
def ie (aT:Register):Bool:=(bif ((((((decide (30 < ((aT.Appoints.length:Nat):Int))||decide (12 < ((aT.Deputies.length:Nat):Int)))||decide (12 < ((aT.Interests.length:Nat):Int)))||decide (12 < ((aT.Budgets.length:Nat):Int)))||decide (8 < ((aT.Docs.length:Nat):Int)))||decide (24 < ((aT.Approvals.length:Nat):Int)))||(!(cG aT.Versions))) then false else ((ie.L1 (ie.K1)) aT.Docs ))
def dv.K1  : Int:=(-1)
def dv.L1 (no:Int) (k:Int):List Document→Nat→Int
 | [],i1=>(k )
 | y1::rz1,i1=>(bif (y1.No==no) then ((i1:Nat):Int) else (dv.L1 no k rz1 ((i1+1))))
def dv (aT:Register) (no:Int):Int:=((dv.L1 no (dv.K1)) aT.Docs 0)
def jX (dN:Int):Bool:=(decide (0≤dN)&&decide (dN < 32))
def ij (dN:Int):Bool:=(decide (0≤dN)&&decide (dN < 1099511627776))
def kC (dN:Int):Bool:=(decide (0≤dN)&&decide (dN < 64))
def hO (x:Appoint):Bool:=(bif (((((decide (x.No < 0)||decide (1048576 < x.No))||(!(ij x.At)))||(!(ij x.Known)))||(!(jX x.Office)))||(!(kC x.Person))) then false else (bif x.Gone then (x.Weight==0) else (decide (1≤x.Weight)&&decide (x.Weight≤64))))
def ey.K1  : Int:=0
def ey.L1 (l:(List Appoint)) (k:Int):List Appoint→Nat→Int
 | [],i1=>(k )
 | y1::rz1,i1=>(bif ((!(hO y1))||(decide (0 < ((i1:Nat):Int))&&decide (y1.No≤(nthI l (((i1:Nat):Int) - 1)).No))) then 150 else (ey.L1 l k rz1 ((i1+1))))
def ey (l:(List Appoint)):Int:=(bif (decide (4096 < ((l.length:Nat):Int))) then 2 else ((ey.L1 l (ey.K1)) l 0))
def dX (dN:Int) (low:Int) (high:Int):Bool:=(decide (low≤dN)&&decide (dN≤high))
def gZ (dN:Int):Bool:=(dX dN 0 1099511627775)
def ig (dN:Int):Bool:=(dX dN 0 63)
def ip (x:Deputy):Bool:=(bif ((((((!(dX x.No 0 1048576))||(!(gZ x.At)))||(!(gZ x.Known)))||(!(ig x.From)))||(!(ig x.To)))||(x.From==x.To)) then false else (bif ((!(dX x.Office 0 31))||(!(dX x.Kind (-1) 15))) then false else (bif x.Gone then ((x.Until==0)&&(x.Most==0)) else ((decide (x.At < x.Until)&&decide (x.Until≤1099511627776))&&(dX x.Most 0 1099511627776)))))
def fg.K1  : Int:=0
def fg.L1 (l:(List Deputy)) (k:Int):List Deputy→Nat→Int
 | [],i1=>(k )
 | y1::rz1,i1=>(bif ((!(ip y1))||(decide (0 < ((i1:Nat):Int))&&decide (y1.No≤(nthI l (((i1:Nat):Int) - 1)).No))) then 160 else (fg.L1 l k rz1 ((i1+1))))
def fg (l:(List Deputy)):Int:=(bif (decide (4096 < ((l.length:Nat):Int))) then 2 else ((fg.L1 l (fg.K1)) l 0))
def iM (t:Int):Bool:=(decide (0≤t)&&decide (t < 1099511627776))
def jk (dN:Int):Bool:=(decide (0≤dN)&&decide (dN≤1048576))
def kA (dN:Int):Bool:=(decide (0≤dN)&&decide (dN < 64))
def gY (x:Interest):Bool:=(bif ((((decide (x.No < 0)||decide (1048576 < x.No))||(!(iM x.At)))||(!(iM x.Known)))||(!(jk x.Party))) then false else (bif x.Of then ((jk x.Person)&&(x.Person != x.Party)) else (kA x.Person)))
def eQ.K1  : Int:=0
def eQ.L1 (l:(List Interest)) (k:Int):List Interest→Nat→Int
 | [],i1=>(k )
 | y1::rz1,i1=>(bif ((!(gY y1))||(decide (0 < ((i1:Nat):Int))&&decide (y1.No≤(nthI l (((i1:Nat):Int) - 1)).No))) then 290 else (eQ.L1 l k rz1 ((i1+1))))
def eQ (l:(List Interest)):Int:=(bif (decide (4096 < ((l.length:Nat):Int))) then 2 else ((eQ.L1 l (eQ.K1)) l 0))
def eu (dN:Int) (least:Int) (most:Int):Bool:=(decide (least≤dN)&&decide (dN≤most))
def gB (dN:Int):Bool:=(decide (0≤dN)&&decide (dN < 1099511627776))
def io (x:Budget):Bool:=(bif (((((!(eu x.No 0 1048576))||(!(gB x.At)))||(!(gB x.Known)))||(!(eu x.Kind (-1) 15)))||(!(eu x.Period 1 1099511627776))) then false else (bif x.Gone then ((x.Count==0)&&(x.Value==0)) else ((eu x.Count 0 1048576)&&(eu x.Value 0 1099511627776))))
def fA.K1  : Int:=0
def fA.L1 (l:(List Budget)) (k:Int):List Budget→Nat→Int
 | [],i1=>(k )
 | y1::rz1,i1=>(bif ((!(io y1))||(decide (0 < ((i1:Nat):Int))&&decide (y1.No≤(nthI l (((i1:Nat):Int) - 1)).No))) then 180 else (fA.L1 l k rz1 ((i1+1))))
def fA (l:(List Budget)):Int:=(bif (decide (4096 < ((l.length:Nat):Int))) then 2 else ((fA.L1 l (fA.K1)) l 0))
def dY (dN:Int):Bool:=(decide (0≤dN)&&decide (dN < 1099511627776))
def cN.K1  (iY:Int):Int:=iY
def cN.L1 (rec:Expr→Int→Int) (limit:Int) (k:Int→Int):List Expr→Int→Int
 | [],iY=>(k iY)
 | y1::rz1,iY=>(bif (decide (iY≤limit)) then (cN.L1 rec limit k rz1 (IntKind.wrap .i64 (iY+(rec y1 (IntKind.wrap .i64 (limit - iY)))))) else (k iY))
def cN.F (rec:Expr→Int→Int) (x:Expr) (limit:Int):Int:=((cN.L1 rec limit (cN.K1)) x.L 1)
def cN.go:Nat→Expr→Int→Int
 | 0=>fun _ _=>default
 | m+1=>cN.F (cN.go m)
def cN (x:Expr) (limit:Int):Int:=cN.go x.dep x limit
def bG.K1  (gf:Int):Int:=(IntKind.wrap .i64 (gf+1))
def bG.L1 (rec:Expr→Int) (k:Int→Int):List Expr→Int→Int
 | [],gf=>(k gf)
 | y1::rz1,gf=>(bG.L1 rec k rz1 (max gf (rec y1)))
def bG.F (rec:Expr→Int) (x:Expr):Int:=((bG.L1 rec (bG.K1)) x.L 0)
def bG.go:Nat→Expr→Int
 | 0=>fun _=>default
 | m+1=>bG.F (bG.go m)
def bG (x:Expr):Int:=bG.go x.dep x
def jm (x:Expr):Bool:=(decide (256 < (cN x 256))||decide (16 < (bG x)))
def e6.K1  : Bool:=false
def e6.L1  (k:Bool):List Rule→Bool
 | []=>(k )
 | y1::rz1=>(bif (jm y1.Expr) then true else (e6.L1  k rz1 ))
def e6 (p:Policy):Bool:=(bif (((decide (32 < ((p.Offices.length:Nat):Int))||decide (16 < ((p.Kinds.length:Nat):Int)))||decide (16 < ((p.Rules.length:Nat):Int)))||(jm p.Change)) then true else ((e6.L1 (e6.K1)) p.Rules ))
def gS (c:Int):Bool:=((decide (97≤c)&&decide (c≤122))||(decide (65≤c)&&decide (c≤90)))
def jE (c:Int):Bool:=(decide (48≤c)&&decide (c≤57))
def lT (c:Int):Bool:=(((gS c)||(jE c))||(c==95))
def fW.K1  : Bool:=true
def fW.L1 (s:ByteArray) (k:Bool):List Nat→Nat→Bool
 | [],i1=>(k )
 | y1::rz1,i1=>(bif (!(lT ((s.data.getD (((i1:Nat):Int):Int).toNat 0).toNat:Int))) then false else (fW.L1 s k rz1 ((i1+1))))
def fW (s:ByteArray):Bool:=(bif ((decide (((s.size:Nat):Int) < 1)||decide (32 < ((s.size:Nat):Int)))||(!(gS ((s.data.getD (0:Int).toNat 0).toNat:Int)))) then false else ((fW.L1 s (fW.K1)) (List.range s.size) 0))
def kB (s:ByteArray):Bool:=(bif (s.toList==(⟨#[112,111,108,105,99,121]⟩:ByteArray).toList) then (bif (s.toList==(⟨#[112,111,108,105,99,121]⟩:ByteArray).toList) then true else false) else (bif (s.toList==(⟨#[109,111,100,101]⟩:ByteArray).toList) then (bif (s.toList==(⟨#[109,111,100,101]⟩:ByteArray).toList) then true else false) else (bif (s.toList==(⟨#[111,108,100]⟩:ByteArray).toList) then (bif (s.toList==(⟨#[111,108,100]⟩:ByteArray).toList) then true else false) else (bif (s.toList==(⟨#[110,101,119]⟩:ByteArray).toList) then (bif (s.toList==(⟨#[110,101,119]⟩:ByteArray).toList) then true else false) else (bif (s.toList==(⟨#[98,111,116,104]⟩:ByteArray).toList) then (bif (s.toList==(⟨#[98,111,116,104]⟩:ByteArray).toList) then true else false) else (bif (s.toList==(⟨#[101,105,116,104,101,114]⟩:ByteArray).toList) then (bif (s.toList==(⟨#[101,105,116,104,101,114]⟩:ByteArray).toList) then true else false) else (bif (s.toList==(⟨#[111,102,102,105,99,101]⟩:ByteArray).toList) then (bif (s.toList==(⟨#[111,102,102,105,99,101]⟩:ByteArray).toList) then true else false) else (bif (s.toList==(⟨#[107,105,110,100]⟩:ByteArray).toList) then (bif (s.toList==(⟨#[107,105,110,100]⟩:ByteArray).toList) then true else false) else (bif (s.toList==(⟨#[114,117,108,101]⟩:ByteArray).toList) then (bif (s.toList==(⟨#[114,117,108,101]⟩:ByteArray).toList) then true else false) else (bif (s.toList==(⟨#[116,104,105,110,107]⟩:ByteArray).toList) then (bif (s.toList==(⟨#[116,104,105,110,107]⟩:ByteArray).toList) then true else false) else (bif (s.toList==(⟨#[99,104,97,110,103,101]⟩:ByteArray).toList) then (bif (s.toList==(⟨#[99,104,97,110,103,101]⟩:ByteArray).toList) then true else false) else (bif (s.toList==(⟨#[115,111,109,101]⟩:ByteArray).toList) then (bif (s.toList==(⟨#[115,111,109,101]⟩:ByteArray).toList) then true else false) else (bif (s.toList==(⟨#[119,101,105,103,104,116]⟩:ByteArray).toList) then (bif (s.toList==(⟨#[119,101,105,103,104,116]⟩:ByteArray).toList) then true else false) else (bif (s.toList==(⟨#[111,102]⟩:ByteArray).toList) then (bif (s.toList==(⟨#[111,102]⟩:ByteArray).toList) then true else false) else (bif (s.toList==(⟨#[117,112,116,111]⟩:ByteArray).toList) then (bif (s.toList==(⟨#[117,112,116,111]⟩:ByteArray).toList) then true else false) else (bif (s.toList==(⟨#[101,108,115,101]⟩:ByteArray).toList) then true else false))))))))))))))))
def jz (s:ByteArray):Bool:=((fW s)&&(!(kB s)))
def dl.K1  : Int:=(-1)
def dl.L1 (s:ByteArray) (k:Int):List ByteArray→Nat→Int
 | [],i1=>(k )
 | y1::rz1,i1=>(bif (y1.toList==s.toList) then ((i1:Nat):Int) else (dl.L1 s k rz1 ((i1+1))))
def dl (l:(List ByteArray)) (s:ByteArray):Int:=((dl.L1 s (dl.K1)) l 0)
def dS.K1  : Bool:=true
def dS.L1 (l:(List ByteArray)) (k:Bool):List ByteArray→Nat→Bool
 | [],i1=>(k )
 | y1::rz1,i1=>(bif ((!(jz y1))||((dl l y1) != ((i1:Nat):Int))) then false else (dS.L1 l k rz1 ((i1+1))))
def dS (l:(List ByteArray)):Bool:=((dS.L1 l (dS.K1)) l 0)
def ce.K1  : Bool:=true
def ce.L1 (rec:(List ByteArray)→Expr→Bool) (offices:(List ByteArray)) (k:Bool):List Expr→Bool
 | []=>(k )
 | y1::rz1=>(bif (!(rec offices y1)) then false else (ce.L1 rec offices k rz1 ))
def ce.F (rec:(List ByteArray)→Expr→Bool) (offices:(List ByteArray)) (x:Expr):Bool:=(bif (((x.Kind==1)||(x.Kind==2))&&decide ((dl offices x.Name) < 0)) then false else ((ce.L1 rec offices (ce.K1)) x.L ))
def ce.go:Nat→(List ByteArray)→Expr→Bool
 | 0=>fun _ _=>default
 | m+1=>ce.F (ce.go m)
def ce (offices:(List ByteArray)) (x:Expr):Bool:=ce.go x.dep offices x
def f3.K1 (p:Policy):Bool:=(ce p.Offices p.Change)
def f3.L1 (p:Policy) (k:Bool):List Rule→Bool
 | []=>(k )
 | y1::rz1=>(bif (!(ce p.Offices y1.Expr)) then false else (f3.L1 p k rz1 ))
def f3 (p:Policy):Bool:=(bif (((!(jz p.Name))||(!(dS p.Offices)))||(!(dS p.Kinds))) then false else ((f3.L1 p (f3.K1 p)) p.Rules ))
def aQ.K1 (x:Expr) (upto:Bool):Bool:=(bif (x.Kind==1) then ((x.N==0)&&(((x.L.length:Nat):Int)==0)) else (bif (x.Kind==2) then ((decide (1≤x.N)&&decide (x.N≤4096))&&(((x.L.length:Nat):Int)==0)) else (bif (x.Kind==3) then (((((x.Name.toList==(⟨#[]⟩:ByteArray).toList)&&decide (1≤((x.L.length:Nat):Int)))&&decide (((x.L.length:Nat):Int)≤16))&&decide (1≤x.N))&&decide (x.N≤((x.L.length:Nat):Int))) else (bif (x.Kind==4) then ((((upto&&(x.Name.toList==(⟨#[]⟩:ByteArray).toList))&&(((x.L.length:Nat):Int)==2))&&decide (0≤x.N))&&decide (x.N≤1099511627776)) else false))))
def aQ.L1 (rec:Expr→Bool→Bool) (upto:Bool) (k:Bool):List Expr→Bool
 | []=>(k )
 | y1::rz1=>(bif (!(rec y1 upto)) then false else (aQ.L1 rec upto k rz1 ))
def aQ.F (rec:Expr→Bool→Bool) (x:Expr) (upto:Bool):Bool:=((aQ.L1 rec upto (aQ.K1 x upto)) x.L )
def aQ.go:Nat→Expr→Bool→Bool
 | 0=>fun _ _=>default
 | m+1=>aQ.F (aQ.go m)
def aQ (x:Expr) (upto:Bool):Bool:=aQ.go x.dep x upto
def fD.K1 (p:Policy):Bool:=(aQ p.Change false)
def fD.L1 (p:Policy) (k:Bool):List Rule→Nat→Bool
 | [],i1=>(k )
 | y1::rz1,i1=>(bif ((((!(y1.Kind.toList==(nthI p.Kinds ((i1:Nat):Int)).toList))||decide (y1.Think < 0))||decide (1099511627776≤y1.Think))||(!(aQ y1.Expr true))) then false else (fD.L1 p k rz1 ((i1+1))))
def fD (p:Policy):Bool:=(bif (((decide (((p.Kinds.length:Nat):Int) < 1)||(((p.Rules.length:Nat):Int) != ((p.Kinds.length:Nat):Int)))||decide (p.Mode < 1))||decide (4 < p.Mode)) then false else ((fD.L1 p (fD.K1 p)) p.Rules 0))
def aj.K1 (offices:(List ByteArray)) (x:Expr) (i8:(List Expr)):Expr:=(Expr.mk x.Kind x.N (dl offices x.Name) x.Name i8)
def aj.L1 (rec:(List ByteArray)→Expr→Expr) (offices:(List ByteArray)) (k:(List Expr)→Expr):List Expr→(List Expr)→Expr
 | [],i8=>(k i8)
 | y1::rz1,i8=>(aj.L1 rec offices k rz1 (i8++[(rec offices y1)]))
def aj.K2 (x:Expr) (i6:(List Expr)):Expr:=(Expr.mk x.Kind x.N 0 x.Name i6)
def aj.L2 (rec:(List ByteArray)→Expr→Expr) (offices:(List ByteArray)) (k:(List Expr)→Expr):List Expr→(List Expr)→Expr
 | [],i6=>(k i6)
 | y2::rz2,i6=>(aj.L2 rec offices k rz2 (i6++[(rec offices y2)]))
def aj.F (rec:(List ByteArray)→Expr→Expr) (offices:(List ByteArray)) (x:Expr):Expr:=(bif ((x.Kind==1)||(x.Kind==2)) then ((aj.L1 rec offices (aj.K1 offices x)) x.L ([])) else ((aj.L2 rec offices (aj.K2 x)) x.L ([])))
def aj.go:Nat→(List ByteArray)→Expr→Expr
 | 0=>fun _ _=>default
 | m+1=>aj.F (aj.go m)
def aj (offices:(List ByteArray)) (x:Expr):Expr:=aj.go x.dep offices x
def di.K1 (p:Policy) (j9:(List Rule)):(Policy×Int):=((Policy.mk p.Name p.Kinds p.Offices j9 (Expr.mk ((aj p.Offices p.Change).Kind) ((aj p.Offices p.Change).N) ((aj p.Offices p.Change).No) ((aj p.Offices p.Change).Name) ((aj p.Offices p.Change).L)) p.Mode),0)
def di.L1 (p:Policy) (k:(List Rule)→(Policy×Int)):List Rule→Nat→(List Rule)→(Policy×Int)
 | [],i1,j9=>(k j9)
 | y1::rz1,i1,j9=>(di.L1 p k rz1 ((i1+1)) (j9++[(Rule.mk y1.Kind ((i1:Nat):Int) y1.Think (Expr.mk ((aj p.Offices y1.Expr).Kind) ((aj p.Offices y1.Expr).N) ((aj p.Offices y1.Expr).No) ((aj p.Offices y1.Expr).Name) ((aj p.Offices y1.Expr).L)))]))
def di (p:Policy):(Policy×Int):=(bif (e6 p) then ((Policy.mk (⟨#[]⟩:ByteArray) ([]) ([]) ([]) (Expr.mk 0 0 0 (⟨#[]⟩:ByteArray) ([])) 0),2) else (bif (!(f3 p)) then ((Policy.mk (⟨#[]⟩:ByteArray) ([]) ([]) ([]) (Expr.mk 0 0 0 (⟨#[]⟩:ByteArray) ([])) 0),201) else (bif (!(fD p)) then ((Policy.mk (⟨#[]⟩:ByteArray) ([]) ([]) ([]) (Expr.mk 0 0 0 (⟨#[]⟩:ByteArray) ([])) 0),200) else ((di.L1 p (di.K1 p)) p.Rules 0 ([])))))
def dE.K1  : Bool:=true
def dE.L1 (gI:(List ByteArray)) (k:Bool):List ByteArray→Nat→Bool
 | [],i1=>(k )
 | y1::rz1,i1=>(bif (!(y1.toList==(nthI gI ((i1:Nat):Int)).toList)) then false else (dE.L1 gI k rz1 ((i1+1))))
def dE (a:(List ByteArray)) (gI:(List ByteArray)):Bool:=(bif (((a.length:Nat):Int) != ((gI.length:Nat):Int)) then false else ((dE.L1 gI (dE.K1)) a 0))
def bK.K1  : Bool:=true
def bK.L1 (rec:Expr→Expr→Bool) (gI:Expr) (k:Bool):List Expr→Nat→Bool
 | [],i1=>(k )
 | y1::rz1,i1=>(bif (!(rec y1 (nthI gI.L ((i1:Nat):Int)))) then false else (bK.L1 rec gI k rz1 ((i1+1))))
def bK.F (rec:Expr→Expr→Bool) (a:Expr) (gI:Expr):Bool:=(bif (((((a.Kind != gI.Kind)||(a.N != gI.N))||(a.No != gI.No))||(!(a.Name.toList==gI.Name.toList)))||(((a.L.length:Nat):Int) != ((gI.L.length:Nat):Int))) then false else ((bK.L1 rec gI (bK.K1)) a.L 0))
def bK.go:Nat→Expr→Expr→Bool
 | 0=>fun _ _=>default
 | m+1=>bK.F (bK.go m)
def bK (a:Expr) (gI:Expr):Bool:=bK.go a.dep a gI
def gA.K1  : Bool:=true
def gA.L1 (gI:Policy) (k:Bool):List Rule→Nat→Bool
 | [],i1=>(k )
 | y1::rz1,i1=>(bif ((((!(y1.Kind.toList==(nthI gI.Rules ((i1:Nat):Int)).Kind.toList))||(y1.KindNo != (nthI gI.Rules ((i1:Nat):Int)).KindNo))||(y1.Think != (nthI gI.Rules ((i1:Nat):Int)).Think))||(!(bK y1.Expr ((nthI gI.Rules ((i1:Nat):Int)).Expr)))) then false else (gA.L1 gI k rz1 ((i1+1))))
def gA (a:Policy) (gI:Policy):Bool:=(bif ((((((!(a.Name.toList==gI.Name.toList))||(a.Mode != gI.Mode))||(!(dE a.Offices gI.Offices)))||(!(dE a.Kinds gI.Kinds)))||(((a.Rules.length:Nat):Int) != ((gI.Rules.length:Nat):Int)))||(!(bK a.Change gI.Change))) then false else ((gA.L1 gI (gA.K1)) a.Rules 0))
def fF (p:Policy):Int:=(bif ((di p).2 != 0) then (di p).2 else (bif (!(gA ((di p).1) p)) then 200 else 0))
def dz.K1  : Int:=0
def dz.L1 (l:(List Version)) (k:Int):List Version→Nat→Int
 | [],i1=>(k )
 | y1::rz1,i1=>(bif (((((decide (y1.No < 0)||decide (1048576 < y1.No))||(decide (0 < ((i1:Nat):Int))&&decide (y1.No≤(nthI l (((i1:Nat):Int) - 1)).No)))||(!(dY y1.At)))||(!(dY y1.Known)))||((fF y1.Policy) != 0)) then 200 else (dz.L1 l k rz1 ((i1+1))))
def dz (l:(List Version)):Int:=(bif (decide (256 < ((l.length:Nat):Int))) then 2 else ((dz.L1 l (dz.K1)) l 0))
def jL (t:Int):Bool:=(decide (0≤t)&&decide (t < 1099511627776))
def dZ.K1 (l:(List Int)):Bool:=decide (((l.length:Nat):Int)≤16)
def dZ.L1 (l:(List Int)) (limit:Int) (k:Bool):List Int→Nat→Bool
 | [],i1=>(k )
 | y1::rz1,i1=>(bif ((decide (y1 < 0)||decide (limit≤y1))||(decide (0 < ((i1:Nat):Int))&&decide (y1≤(nthI l (((i1:Nat):Int) - 1))))) then false else (dZ.L1 l limit k rz1 ((i1+1))))
def dZ (l:(List Int)) (limit:Int):Bool:=((dZ.L1 l limit (dZ.K1 l)) l 0)
def gK (d:Document):Bool:=(bif ((((((decide (d.No < 0)||decide (4096≤d.No))||(!(jL d.At)))||decide (d.Kind < 0))||decide (16≤d.Kind))||decide (d.Value < 0))||decide (1099511627776 < d.Value)) then false else (((((decide (0≤d.From)&&decide (d.From < d.Until))&&decide (d.Until≤1099511627776))&&(dZ d.Parties 1048577))&&(dZ d.Revokes d.No))&&(dZ d.Needs d.No)))
def f4.K1  : Int:=(-1)
def f4.L1 (no:Int) (k:Int):List Document→Nat→Int
 | [],i1=>(k )
 | y1::rz1,i1=>(bif (y1.No==no) then ((i1:Nat):Int) else (f4.L1 no k rz1 ((i1+1))))
def f4 (l:(List Document)) (no:Int):Int:=((f4.L1 no (f4.K1)) l 0)
def cW.K1  : Bool:=true
def cW.L1 (l:(List Document)) (k:Bool):List Int→Bool
 | []=>(k )
 | y1::rz1=>(bif (decide ((f4 l y1) < 0)) then false else (cW.L1 l k rz1 ))
def cW (l:(List Document)) (nos:(List Int)):Bool:=((cW.L1 l (cW.K1)) nos )
def eR.K1  : Int:=0
def eR.L1 (l:(List Document)) (k:Int):List Document→Nat→Int
 | [],i1=>(k )
 | y1::rz1,i1=>(bif ((((!(gK y1))||(decide (0 < ((i1:Nat):Int))&&decide (y1.No≤(nthI l (((i1:Nat):Int) - 1)).No)))||(!(cW l y1.Revokes)))||(!(cW l y1.Needs))) then 170 else (eR.L1 l k rz1 ((i1+1))))
def eR (l:(List Document)):Int:=(bif (decide (4096 < ((l.length:Nat):Int))) then 2 else ((eR.L1 l (eR.K1)) l 0))
def dK (dN:Int) (most:Int):Bool:=(decide (0≤dN)&&decide (dN≤most))
def i9 (dN:Int):Bool:=(dK dN 1099511627775)
def mM (dN:Int):Bool:=(dK dN 4095)
def im (x:Approval):Bool:=(bif ((((!(dK x.No 1048576))||(!(i9 x.At)))||(!(i9 x.Known)))||(!(mM x.Doc))) then false else (((dK x.By 63)&&(dK x.For 63))&&(dK x.Office 31)))
def fy.K1  : Int:=0
def fy.L1 (l:(List Approval)) (k:Int):List Approval→Nat→Int
 | [],i1=>(k )
 | y1::rz1,i1=>(bif ((!(im y1))||(decide (0 < ((i1:Nat):Int))&&decide (y1.No≤(nthI l (((i1:Nat):Int) - 1)).No))) then 280 else (fy.L1 l k rz1 ((i1+1))))
def fy (l:(List Approval)):Int:=(bif (decide (4096 < ((l.length:Nat):Int))) then 2 else ((fy.L1 l (fy.K1)) l 0))
def iV (aT:Register):Int:=(bif (((((ey aT.Appoints) != 0)||((fg aT.Deputies) != 0))||((eQ aT.Interests) != 0))||((fA aT.Budgets) != 0)) then 300 else (bif ((((dz aT.Versions) != 0)||((eR aT.Docs) != 0))||((fy aT.Approvals) != 0)) then 300 else 0))
def e5.K1  : Bool:=true
def e5.L1 (who:(List Int)) (k:Bool):List Int→Nat→Bool
 | [],i1=>(k )
 | y1::rz1,i1=>(bif ((decide (y1 < 0)||decide (64≤y1))||(decide (0 < ((i1:Nat):Int))&&decide (y1≤(nthI who (((i1:Nat):Int) - 1))))) then false else (e5.L1 who k rz1 ((i1+1))))
def e5 (who:(List Int)):Bool:=((e5.L1 who (e5.K1)) who 0)
def fB.K1 (aT:Register) (doc:Int) (who:(List Int)):Bool:=((((ie aT)&&((iV aT)==0))&&decide (0≤(dv aT doc)))&&(e5 who))
def fB.L1  (k:Bool):List Int→Bool
 | []=>(k )
 | y1::rz1=>(bif (!(dY y1)) then false else (fB.L1  k rz1 ))
def fB (aT:Register) (doc:Int) (who:(List Int)) (l:(List Int)):Bool:=((fB.L1 (fB.K1 aT doc who)) l )
def fo.K1  : Bool:=false
def fo.L1 (t:Int) (k:Bool):List Span→Bool
 | []=>(k )
 | y1::rz1=>(bif (decide (y1.From≤t)&&decide (t < y1.Until)) then true else (fo.L1 t k rz1 ))
def fo (s:(List Span)) (t:Int):Bool:=((fo.L1 t (fo.K1)) s )
def dr.K1 (pd:Int) (ku:(List Int)):(List Int):=(ku++[pd])
def dr.L1 (who:(List Int)) (pd:Int) (k:(List Int)→(List Int)):List Int→Nat→(List Int)→(List Int)
 | [],i1,ku=>(k ku)
 | y1::rz1,i1,ku=>(bif (decide (pd < y1)) then ((ku++[pd])++(who.drop ((((i1:Nat):Int):Int)).toNat)) else (dr.L1 who pd k rz1 ((i1+1)) (ku++[y1])))
def dr (who:(List Int)) (pd:Int):(List Int):=((dr.L1 who pd (dr.K1 pd)) who 0 ([]))
def aM.K5 (aT:Register) (doc:Int) (who:(List Int)) (person:Int) (t:Int) (known:Int):Bool:=((!(fo ((aW aT doc who known).1) t))||(fo ((aW aT doc (dr who ((IntKind.wrap .i64 person).tmod 64)) known).1) t))
def aM.L5 (aT:Register) (doc:Int) (who:(List Int)) (person:Int) (known:Int) (k:Bool):List Span→Bool
 | []=>(k )
 | y5::rz5=>(bif ((!(fo ((aW aT doc (dr who ((IntKind.wrap .i64 person).tmod 64)) known).1) y5.From))||(!(fo ((aW aT doc (dr who ((IntKind.wrap .i64 person).tmod 64)) known).1) (IntKind.wrap .i64 (y5.Until - 1))))) then false else (aM.L5 aT doc who person known k rz5 ))
def aM.K4 (aT:Register) (doc:Int) (who:(List Int)) (person:Int) (t:Int) (known:Int):Bool:=(bif ((aW aT doc (dr who ((IntKind.wrap .i64 person).tmod 64)) known).2 != 0) then false else ((aM.L5 aT doc who person known (aM.K5 aT doc who person t known)) ((aW aT doc who known).1)))
def aM.L4 (person:Int) (k:Bool):List Int→Bool
 | []=>(k )
 | y4::rz4=>(bif (y4==((IntKind.wrap .i64 person).tmod 64)) then true else (aM.L4 person k rz4 ))
def aM.K3 (aT:Register) (doc:Int) (who:(List Int)) (person:Int) (t:Int) (known:Int) (aH:(List Appoint)) (gC:(List Interest)) (iQ:(List Version)):Bool:=(bif ((((aW aT doc who known).2 != 0)||((aW (Register.mk aH ([]) gC ([]) iQ aT.Docs ([])) doc who known).2 != 0))||(!(dD ((aW aT doc who known).1) ((aW (Register.mk aH ([]) gC ([]) iQ aT.Docs ([])) doc who known).1)))) then false else ((aM.L4 person (aM.K4 aT doc who person t known)) who ))
def aM.L3 (known:Int) (k:(List Version)→Bool):List Version→(List Version)→Bool
 | [],iQ=>(k iQ)
 | y3::rz3,iQ=>(bif (decide (y3.Known≤known)) then (aM.L3 known k rz3 (iQ++[y3])) else (aM.L3 known k rz3 iQ))
def aM.K2 (aT:Register) (doc:Int) (who:(List Int)) (person:Int) (t:Int) (known:Int) (aH:(List Appoint)) (gC:(List Interest)):Bool:=((aM.L3 known (aM.K3 aT doc who person t known aH gC)) aT.Versions ([]))
def aM.L2 (known:Int) (k:(List Interest)→Bool):List Interest→(List Interest)→Bool
 | [],gC=>(k gC)
 | y2::rz2,gC=>(bif (decide (y2.Known≤known)) then (aM.L2 known k rz2 (gC++[y2])) else (aM.L2 known k rz2 gC))
def aM.K1 (aT:Register) (doc:Int) (who:(List Int)) (person:Int) (t:Int) (known:Int) (aH:(List Appoint)):Bool:=((aM.L2 known (aM.K2 aT doc who person t known aH)) aT.Interests ([]))
def aM.L1 (known:Int) (k:(List Appoint)→Bool):List Appoint→(List Appoint)→Bool
 | [],aH=>(k aH)
 | y1::rz1,aH=>(bif (decide (y1.Known≤known)) then (aM.L1 known k rz1 (aH++[y1])) else (aM.L1 known k rz1 aH))
def aM (aT:Register) (doc:Int) (who:(List Int)) (person:Int) (t:Int) (known:Int):Bool:=(bif (!mO) then false else (bif (!(fB aT doc who ([t,known]))) then true else ((aM.L1 known (aM.K1 aT doc who person t known)) aT.Appoints ([]))))
end Go.Sg
namespace Go.Sg
set_option linter.unusedVariables false
theorem wrap64 {z:Int} (h:-9223372036854775808≤z∧z≤9223372036854775807):IntKind.i64.wrap z=z:=by
 have:=iZ h;injection this
theorem Expr.eta (x:Expr):Expr.mk x.Kind x.N x.No x.Name x.L=x:=by cases x;rfl
theorem Expr.ind {P:Expr→Prop} (h:∀ x,(∀ y∈x.L,P y)→P x) (x:Expr):P x:=by
 have key:∀ n (x:Expr),x.dep≤n→P x:=by
  intro n
  induction n with
  | zero=>intro x hx;have:=Expr.j1 x;omega
  | succ n ih=>intro x hx;exact h x fun y hy=>ih y (by have:=Expr.iv hy;omega)
 exact key _ x (Nat.le_refl _)
theorem BT (k:List fT):∀ l,aZ.L3 k l=l++k
 | []=>rfl
 | y::l=>by simp [aZ.L3,BT k l]
theorem BU (rec:Expr→Int→List fT) (d:Int):∀ l,aZ.L1 rec d [] l=l.flatMap (fun y=>rec y (d+1))
 | []=>rfl
 | y::l=>by simp [aZ.L1,BT,BU rec d l]
theorem AA (rec:Expr→Int→List fT) (x:Expr) (d:Int):aZ.F rec x d=⟨x,d⟩::x.L.flatMap (fun y=>rec y (d+1)):=by
 simp [aZ.F,aZ.K1,BU,Expr.eta]
theorem tA {α β : Type} {f g:α→List β}:∀ {l:List α},(∀ y∈l,f y=g y)→l.flatMap f=l.flatMap g
 | [],_=>rfl
 | y::l,h=>by
  rw [List.flatMap_cons,List.flatMap_cons,h y (List.mem_cons_self ..),tA fun z hz=>h z (List.mem_cons_of_mem _ hz)]
theorem BS (m:Nat):∀ (x:Expr) (d:Int),x.dep≤m→aZ.go m x d=bZ x d:=by
 induction m using Nat.strongRecOn with
 | _ m ih=>
  intro x d hx
  unfold bZ
  have hp:=Expr.j1 x
  obtain ⟨m',rfl⟩:∃ m',m=m'+1:=⟨m - 1,by omega⟩
  obtain ⟨n,hn⟩:∃ n,x.dep=n+1:=⟨x.dep - 1,by omega⟩
  rw [hn]
  show aZ.F (aZ.go m') x d=aZ.F (aZ.go n) x d
  rw [AA,AA]
  congr 1
  refine tA fun y hy=>?_
  have:=Expr.iv hy
  rw [ih m' (by omega) y _ (by omega),ih n (by omega) y _ (by omega)]
theorem lE (x:Expr) (d:Int):bZ x d=⟨x,d⟩::x.L.flatMap (fun y=>bZ y (d+1)):=by
 have hp:=Expr.j1 x
 obtain ⟨n,hn⟩:∃ n,x.dep=n+1:=⟨x.dep - 1,by omega⟩
 rw [← BS x.dep x d (Nat.le_refl _),hn]
 show aZ.F (aZ.go n) x d=_
 rw [AA]
 congr 1
 exact tA fun y hy=>BS n y _ (by have:=Expr.iv hy;omega)
theorem zK (Q:Expr→Prop) (x:Expr):∀ d d',(∀ z∈bZ x d,Q z.x)→∀ z∈bZ x d',Q z.x:=by
 refine Expr.ind (P:=fun x=>∀ d d',(∀ z∈bZ x d,Q z.x)→∀ z∈bZ x d',Q z.x) ?_ x
 intro x ih d d' h z hz
 rw [lE] at h hz
 rcases List.mem_cons.1 hz with rfl | hz
 ·exact h ⟨x,d⟩ (List.mem_cons_self ..)
 ·obtain ⟨y,hy,hz⟩:=List.mem_flatMap.1 hz
  exact ih y hy (d+1) (d'+1) (fun z' hz'=>h z' (List.mem_cons_of_mem _ (List.mem_flatMap.2 ⟨y,hy,hz'⟩))) z hz
theorem yU (Q:Expr→Prop) (x:Expr) (d:Int):(∀ z∈bZ x d,Q z.x)↔Q x∧∀ y∈x.L,∀ z∈bZ y d,Q z.x:=by
 constructor
 ·intro h
  rw [lE] at h
  exact ⟨h ⟨x,d⟩ (List.mem_cons_self ..),fun y hy=>zK Q y (d+1) d fun z hz=>h z (List.mem_cons_of_mem _ (List.mem_flatMap.2 ⟨y,hy,hz⟩))⟩
 ·rintro ⟨h1,h2⟩ z hz
  rw [lE] at hz
  rcases List.mem_cons.1 hz with rfl | hz
  ·exact h1
  ·obtain ⟨y,hy,hz⟩:=List.mem_flatMap.1 hz
   exact zK Q y d (d+1) (h2 y hy) z hz
def NZ (x:Except Int Unit):Prop:=∀ e,x=.error e→e≠0
theorem NZ.ok:NZ (.ok ()):=fun _ h=>by cases h
theorem NZ.must {c:Bool} {e:Int} (he:e≠0):NZ (eL c e):=fun e' h=>by
 cases c with
 | true=>simp [eL] at h
 | false=>simp [eL] at h;omega
theorem NZ.exi {x:Except Int Unit} {f:Unit→Except Int Unit} (hx:NZ x) (hf:NZ (f ())):NZ (Sg.exi x f):=by
 cases x with
 | ok u=>exact hf
 | error e=>exact fun e' h=>hx e' h
theorem Af {x:Except Int Unit} (h:NZ x):attR x=0↔x=.ok ():=by
 cases x with
 | ok u=>simp [attR]
 | error e=>simp only [attR,reduceCtorEq,iff_false];exact h e rfl
theorem nz {c:Bool} {e:Int} {f:Unit→Except Int Unit}:exi (eL c e) f=.ok ()↔c=true∧f ()=.ok ():=by
 cases c <;> simp [eL,exi]
theorem CP (p:Policy):∀ (l:List Rule) (g:List Expr),aC.L1 (aC.K1 p) l g=g++(l.map (·.Expr)++[p.Change])
 | [],g=>by simp [aC.L1,aC.K1]
 | y::l,g=>by simp [aC.L1,CP p l]
theorem pJ (p:Policy):aC p=p.Rules.map (·.Expr)++[p.Change]:=by
 unfold aC;rw [CP];simp
theorem Bz (k:Int→Except Int Unit) (hk:∀ a b,k a=k b):∀ (l:List fT) (g:Int),0≤g→g≤256→(ct.L3 k l g=.ok ()↔(g+l.length≤256∧∀ z∈l,z.depth≤16)∧k 0=.ok ())
 | [],g,h0,h1=>by simp only [ct.L3,hk g 0,List.length_nil,List.not_mem_nil];simp;omega
 | y::l,g,h0,h1=>by
  simp only [ct.L3,nz,Bool.and_eq_true,decide_eq_true_eq,wrap64 (z:=g+1) (by omega),List.length_cons,List.mem_cons]
  by_cases h:g+1≤256
  ·rw [Bz k hk l (g+1) (by omega) h]
   constructor
   ·rintro ⟨⟨_,h3⟩,⟨h4,h5⟩,h6⟩
    refine ⟨⟨by omega,fun z hz=>?_⟩,h6⟩
    rcases hz with rfl | hz
    ·exact h3
    ·exact h5 z hz
   ·rintro ⟨⟨h4,h5⟩,h6⟩
    exact ⟨⟨h,h5 y (.inl rfl)⟩,⟨by omega,fun z hz=>h5 z (.inr hz)⟩,h6⟩
  ·constructor
   ·rintro ⟨⟨h3,_⟩,_⟩;exact absurd h3 h
   ·rintro ⟨⟨h4,_⟩,_⟩;omega
theorem BA:∀ (l:List Expr),ct.L1 (.ok ()) l=.ok ()↔∀ x∈l,(bZ x 1).length≤256∧∀ z∈bZ x 1,z.depth≤16
 | []=>by simp [ct.L1]
 | y::l=>by
  simp only [ct.L1]
  rw [Bz _ (fun _ _=>rfl) _ 0 (by omega) (by omega),BA l]
  simp only [List.mem_cons,forall_eq_or_imp]
  constructor
  ·rintro ⟨⟨a,b⟩,c⟩;exact ⟨⟨by omega,b⟩,c⟩
  ·rintro ⟨⟨a,b⟩,c⟩;exact ⟨⟨by omega,b⟩,c⟩
theorem wP (p:Policy):ct p=.ok ()↔(p.Offices.length≤32∧p.Kinds.length≤16∧p.Rules.length≤16)∧∀ x∈aC p,(bZ x 1).length≤256∧∀ z∈bZ x 1,z.depth≤16:=by
 unfold ct ct.K1
 rw [nz,BA]
 simp only [Bool.and_eq_true,decide_eq_true_eq]
 constructor
 ·rintro ⟨⟨⟨a,b⟩,c⟩,d⟩;exact ⟨⟨by omega,by omega,by omega⟩,d⟩
 ·rintro ⟨⟨a,b,c⟩,d⟩;exact ⟨⟨⟨by omega,by omega⟩,by omega⟩,d⟩
theorem Ga (p:Policy):NZ (ct p):=by
 have h3:∀ (k:Int→Except Int Unit),(∀ a,NZ (k a))→∀ l g,NZ (ct.L3 k l g):=by
  intro k hk l
  induction l with
  | nil=>exact fun g=>hk g
  | cons y l ih=>exact fun g=>NZ.exi (NZ.must (by omega)) (ih _)
 have h1:∀ l,NZ (ct.L1 (.ok ()) l):=by
  intro l
  induction l with
  | nil=>exact NZ.ok
  | cons y l ih=>exact h3 _ (fun _=>ih) _ _
 exact NZ.exi (NZ.must (by omega)) (h1 _)
theorem B1 (p:Policy) (k:Except Int Unit):∀ l,cu.L3 p k l=.ok ()↔(∀ z∈l,((!(cX z.x))||dw p.Offices z.x.Name)=true)∧k=.ok ()
 | []=>by simp [cu.L3]
 | y::l=>by simp only [cu.L3,nz,B1 p k l,List.mem_cons,forall_eq_or_imp,and_assoc]
theorem B3 (p:Policy):∀ l,cu.L1 p (.ok ()) l=.ok ()↔∀ x∈l,∀ z∈bZ x 1,((!(cX z.x))||dw p.Offices z.x.Name)=true
 | []=>by simp [cu.L1]
 | y::l=>by simp only [cu.L1,B1,B3 p l,List.mem_cons,forall_eq_or_imp]
theorem BZ (p:Policy):cu p=.ok ()↔(de p.Name=true∧bD p.Offices de=true∧bD p.Kinds de=true)∧∀ x∈aC p,∀ z∈bZ x 1,((!(cX z.x))||dw p.Offices z.x.Name)=true:=by
 unfold cu cu.K1
 rw [nz,B3]
 simp only [Bool.and_eq_true,and_assoc]
theorem GC (p:Policy):NZ (cu p):=by
 have h3:∀ (k:Except Int Unit),NZ k→∀ l,NZ (cu.L3 p k l):=by
  intro k hk l
  induction l with
  | nil=>exact hk
  | cons y l ih=>exact NZ.exi (NZ.must (by omega)) ih
 have h1:∀ l,NZ (cu.L1 p (.ok ()) l):=by
  intro l
  induction l with
  | nil=>exact NZ.ok
  | cons y l ih=>exact h3 _ ih _
 exact NZ.exi (NZ.must (by omega)) (h1 _)
theorem EL (p:Policy) (i:Nat) (k:Except Int Unit):∀ l,bC.L4 p i k l=.ok ()↔(∀ z∈l,(aO z.x.Kind 1 4&&kindsP z.x.Kind z.x)=true∧(decide ((i:Int) < IntKind.i64.wrap (((aC p).length:Int) - 1))||(z.x.Kind != 4))=true)∧k=.ok ()
 | []=>by simp [bC.L4]
 | y::l=>by simp only [bC.L4,nz,EL p i k l,List.mem_cons,forall_eq_or_imp,and_assoc]
theorem AO (p:Policy):∀ l i,bC.L2 p (.ok ()) l i=.ok ()↔∀ j x,l[j]? = some x→∀ z∈bZ x 1,(aO z.x.Kind 1 4&&kindsP z.x.Kind z.x)=true∧(decide (((i+j:Nat):Int) < IntKind.i64.wrap (((aC p).length:Int) - 1))||(z.x.Kind != 4))=true
 | [],i=>by simp [bC.L2]
 | y::l,i=>by
  simp only [bC.L2]
  rw [EL,AO p l (i+1)]
  constructor
  ·rintro ⟨h1,h2⟩ j x hj z hz
   cases j with
   | zero=>simp at hj;subst hj;exact h1 z hz
   | succ j=>have:=h2 j x (by simpa using hj) z hz;rw [show i+(j+1)=i+1+j from by omega];exact this
  ·intro h
   refine ⟨fun z hz=>h 0 y rfl z hz,fun j x hj z hz=>?_⟩
   have:=h (j+1) x (by simpa using hj) z hz
   rw [show i+(j+1)=i+1+j from by omega] at this;exact this
theorem wo (p:Policy) (k:Except Int Unit):∀ l i,bC.L1 p k l i=.ok ()↔(∀ j r,l[j]? = some r→((r.Kind.toList==(nthI p.Kinds (((i+j:Nat):Int))).toList)&&aO r.Think 0 1099511627775)=true)∧k=.ok ()
 | [],i=>by simp [bC.L1]
 | y::l,i=>by
  simp only [bC.L1]
  rw [nz,wo p k l (i+1)]
  constructor
  ·rintro ⟨h1,h2,h3⟩
   refine ⟨fun j r hj=>?_,h3⟩
   cases j with
   | zero=>simp at hj;subst hj;exact h1
   | succ j=>have:=h2 j r (by simpa using hj);rw [show i+(j+1)=i+1+j from by omega];exact this
  ·rintro ⟨h,h3⟩
   refine ⟨h 0 y rfl,fun j r hj=>?_,h3⟩
   have:=h (j+1) r (by simpa using hj)
   rw [show i+(j+1)=i+1+j from by omega] at this;exact this
theorem H4 (p:Policy):NZ (bC p):=by
 have h4:∀ i (k:Except Int Unit),NZ k→∀ l,NZ (bC.L4 p i k l):=by
  intro i k hk l
  induction l with
  | nil=>exact hk
  | cons y l ih=>exact NZ.exi (NZ.must (by omega)) (NZ.exi (NZ.must (by omega)) ih)
 have h2:∀ l i,NZ (bC.L2 p (.ok ()) l i):=by
  intro l
  induction l with
  | nil=>exact fun _=>NZ.ok
  | cons y l ih=>exact fun i=>h4 i _ (ih _) _
 have h1:∀ l i,NZ (bC.L1 p (bC.K1 p) l i):=by
  intro l
  induction l with
  | nil=>exact fun _=>h2 _ _
  | cons y l ih=>exact fun i=>NZ.exi (NZ.must (by omega)) (ih _)
 exact NZ.exi (NZ.must (by omega)) (h1 _ _)
theorem vu (p:Policy):NZ (dj p):=
 NZ.exi (Ga p) (NZ.exi (GC p) (NZ.exi (H4 p) NZ.ok))
theorem tB {x:Except Int Unit} {f:Unit→Except Int Unit}:exi x f=.ok ()↔x=.ok ()∧f ()=.ok ():=by
 cases x with
 | ok u=>simp [exi]
 | error e=>simp [exi]
theorem qY (p:Policy):dj p=.ok ()↔ct p=.ok ()∧cu p=.ok ()∧bC p=.ok ():=by
 unfold dj
 rw [tB,tB,tB]
 simp
theorem BO (p:Policy):(dq p).2=attR (dj p):=by
 have hL:∀ l i g,(dq.L1 p (dq.K1 p) l i g).2=0:=by
  intro l
  induction l with
  | nil=>exact fun _ _=>rfl
  | cons y l ih=>exact fun i g=>ih _ _
 unfold dq
 by_cases h:attR (dj p)=0
 ·simp [h,hL]
 ·rw [show (attR (dj p) != 0)=true from by simpa using h];rfl
theorem CX (p:Policy) (k:Int):∀ l i,cy.L1 p k l i=0↔(∀ j r,l[j]? = some r→r.KindNo=((i+j:Nat):Int)∧bX p.Offices r.Expr=true)∧k=0
 | [],i=>by simp [cy.L1]
 | y::l,i=>by
  simp only [cy.L1,Bool.cond_eq_ite]
  split
  ·next h=>
   simp only [Bool.or_eq_true,bne_iff_ne,Bool.not_eq_true'] at h
   constructor
   ·intro h';omega
   ·rintro ⟨h1,_⟩
    have:=h1 0 y rfl
    simp only [Nat.add_zero] at this
    rcases h with h | h
    ·exact absurd this.1 h
    ·rw [this.2] at h;cases h
  ·next h=>
   simp only [Bool.or_eq_true,bne_iff_ne,Bool.not_eq_true',not_or,Decidable.not_not,Bool.not_eq_false] at h
   rw [CX p k l (i+1)]
   constructor
   ·rintro ⟨h1,h2⟩
    refine ⟨fun j r hj=>?_,h2⟩
    cases j with
    | zero=>simp at hj;subst hj;exact h
    | succ j=>have:=h1 j r (by simpa using hj);rw [show i+(j+1)=i+1+j from by omega];exact this
   ·rintro ⟨h1,h2⟩
    refine ⟨fun j r hj=>?_,h2⟩
    have:=h1 (j+1) r (by simpa using hj)
    rw [show i+(j+1)=i+1+j from by omega] at this;exact this
theorem yx (p:Policy):cy p=0↔dj p=.ok ()∧(∀ (j:Nat) r,p.Rules[j]? = some r→r.KindNo=(j:Int)∧bX p.Offices r.Expr=true)∧bX p.Offices p.Change=true:=by
 unfold cy
 rw [BO]
 by_cases h:attR (dj p)=0
 ·have h2:=(Af (vu p)).1 h
  have hk:cy.K1 p=0↔bX p.Offices p.Change=true:=by
   unfold cy.K1
   cases bX p.Offices p.Change <;> simp
  rw [show (attR (dj p) != 0)=false from by simpa using h,cond_false,CX,hk]
  simp only [Nat.zero_add,h2,true_and]
 ·have h2:¬ dj p=.ok ():=fun e=>h ((Af (vu p)).2 e)
  rw [show (attR (dj p) != 0)=true from by simpa using h,cond_true]
  simp [h,h2]
theorem Hp {c x:Bool}:(bif c then false else x)=true↔c=false∧x=true:=by cases c <;> simp
theorem oE (off:List ByteArray):∀ l,bX.L1 off true l=true↔∀ z∈l,z.x.No=(bif cX z.x then aN off z.x.Name else 0)
 | []=>by simp [bX.L1]
 | y::l=>by
  simp only [bX.L1,List.mem_cons,forall_eq_or_imp]
  cases cX y.x with
  | true=>
   rw [cond_true,cond_true,Hp,oE off l];simp
  | false=>
   rw [cond_false,cond_false,Hp,oE off l];simp
theorem Ci (v:ByteArray):∀ (l:List ByteArray) (i:Nat),aN.L1 v (-1) l i=-1∨((i:Int)≤aN.L1 v (-1) l i∧aN.L1 v (-1) l i < ((i+l.length:Nat):Int))
 | [],i=>.inl rfl
 | y::l,i=>by
  simp only [aN.L1,Bool.cond_eq_ite,List.length_cons]
  split
  ·right;omega
  ·rcases Ci v l (i+1) with h | h
   ·exact .inl h
   ·right;omega
theorem GF (l:List ByteArray) (v:ByteArray):aN l v < (l.length:Int):=by
 have:=Ci v l 0
 unfold aN aN.K1
 omega
theorem uZ {p:Policy} (hc:cy p=0):p.Rules.length=p.Kinds.length∧p.Offices.length≤32∧(∀ x∈aC p,OkX (p.Offices.length:Int) x):=by
 obtain ⟨h1,h2,h3⟩:=(yx p).1 hc
 obtain ⟨hs,hn,hf⟩:=(qY p).1 h1
 have hf':=hf
 unfold bC at hf
 rw [nz,wo] at hf
 simp only [Bool.and_eq_true,decide_eq_true_eq,beq_iff_eq] at hf
 obtain ⟨⟨⟨_,hlen⟩,hmode⟩,hrules,hK⟩:=hf
 unfold bC.K1 bC.K2 at hK
 rw [AO] at hK
 obtain ⟨⟨ho,_,_⟩,_⟩:=(wP p).1 hs
 obtain ⟨_,hnm⟩:=(BZ p).1 hn
 refine ⟨by omega,ho,fun x hx=>?_⟩
 have hres:∀ z∈bZ x 1,z.x.No=(bif cX z.x then aN p.Offices z.x.Name else 0):=by
  have hr:bX p.Offices x=true:=by
   rw [pJ] at hx
   rcases List.mem_append.1 hx with hx | hx
   ·obtain ⟨r,hr,rfl⟩:=List.mem_map.1 hx
    obtain ⟨j,hj⟩:=List.getElem?_of_mem hr
    exact (h2 j r hj).2
   ·rw [List.mem_singleton.1 hx];exact h3
  unfold bX bX.K1 at hr
  exact (oE _ _).1 hr
 obtain ⟨j,hj⟩:=List.getElem?_of_mem hx
 have hfm:=fun z hz=>(hK j x hj z hz).1
 have hnx:=hnm x hx
 clear hK hnm hj
 let Q:Expr→Prop:=fun x=>(1≤x.Kind∧x.Kind≤4)∧(x.Kind≤2→0≤x.No∧x.No < (p.Offices.length:Int))∧(x.Kind=4→x.L.length=2)
 have all:∀ z∈bZ x 1,(fun x:Expr=>(1≤x.Kind∧x.Kind≤4)∧(x.Kind≤2→0≤x.No∧x.No < (p.Offices.length:Int))∧(x.Kind=4→x.L.length=2)) z.x:=by
  intro z hz
  have a:=hfm z hz
  have b:=hnx z hz
  have c:=hres z hz
  simp only [Bool.and_eq_true,aO,decide_eq_true_eq] at a
  refine ⟨a.1,fun hk=>?_,fun hk=>?_⟩
  ·have hnamed:cX z.x=true:=by
    have:z.x.Kind=1∨z.x.Kind=2:=by omega
    rcases this with e | e <;> simp [cX,e]
   simp only [hnamed,Bool.not_true,Bool.false_or,cond_true] at b c
   have hge:0≤aN p.Offices z.x.Name:=by
    have h9:=b
    simp only [dw,decide_eq_true_eq,ge_iff_le] at h9
    exact h9
   have:=GF p.Offices z.x.Name
   omega
  ·have h9:=a.2
   rw [hk] at h9
   simp only [kindsP] at h9
   simp [ja] at h9
   omega
 clear hfm hnx hres hx
 revert all
 refine Expr.ind (P:=fun x=>(∀ z∈bZ x 1,Q z.x)→OkX (p.Offices.length:Int) x) ?_ x
 intro x ih all
 rw [yU Q] at all
 obtain ⟨⟨a,b,c⟩,d⟩:=all
 exact OkX.mk x a b c fun y hy=>ih y hy (d y hy)
theorem tE {p:Policy} (hc:cy p=0):(1≤p.Mode∧p.Mode≤4)∧p.Rules.length≤16∧∀ r∈p.Rules,0≤r.Think∧r.Think≤1099511627775:=by
 obtain ⟨h1,_,_⟩:=(yx p).1 hc
 obtain ⟨hs,_,hf⟩:=(qY p).1 h1
 unfold bC at hf
 rw [nz,wo] at hf
 simp only [Bool.and_eq_true,aO,decide_eq_true_eq] at hf
 obtain ⟨⟨⟨_,_⟩,hmode⟩,hrules,_⟩:=hf
 obtain ⟨⟨_,_,hr⟩,_⟩:=(wP p).1 hs
 refine ⟨hmode,hr,fun r hr=>?_⟩
 obtain ⟨j,hj⟩:=List.getElem?_of_mem hr
 exact (hrules j r hj).2
theorem DS {p:Policy} {r:Rule} (h:r∈p.Rules):r.Expr∈aC p:=by
 rw [pJ];exact List.mem_append_left _ (List.mem_map_of_mem h)
theorem zJ:∀ (l:List Int) (g:Int),df.L1 df.K1 l g=true↔(∀ x∈l,g < x∧x < 64)∧l.Pairwise (· < ·)
 | [],g=>by simp [df.L1,df.K1]
 | y::l,g=>by
  simp only [df.L1,Bool.cond_eq_ite,Bool.or_eq_true,decide_eq_true_eq]
  split
  ·next h=>
   constructor
   ·intro h';cases h'
   ·rintro ⟨h1,_⟩;have:=h1 y (List.mem_cons_self ..);omega
  ·next h=>
   rw [zJ l y,List.pairwise_cons]
   simp only [List.mem_cons,forall_eq_or_imp]
   constructor
   ·rintro ⟨h1,h2⟩
    exact ⟨⟨by omega,fun x hx=>by have:=h1 x hx;omega⟩,fun x hx=>(h1 x hx).1,h2⟩
   ·rintro ⟨⟨h1,h2⟩,h3,h4⟩
    exact ⟨fun x hx=>⟨h3 x hx,(h2 x hx).2⟩,h4⟩
theorem zI (l:List Int):df l=true↔(∀ x∈l,0≤x∧x < 64)∧l.Pairwise (· < ·):=by
 unfold df
 rw [zJ]
 constructor
 ·rintro ⟨h1,h2⟩;exact ⟨fun x hx=>by have:=h1 x hx;omega,h2⟩
 ·rintro ⟨h1,h2⟩;exact ⟨fun x hx=>by have:=h1 x hx;omega,h2⟩
theorem yT {l:List Int} (h:df l=true):l.Pairwise (·≤·):=((zI l).1 h).2.imp (fun h=>Int.le_of_lt h)
theorem E7 {hs:List (List Holder)} {n:Int} (h:cJ hs n=true):(hs.length:Int)=n:=by
 have h3:∀ (k:List Int→Bool) (l:List Holder) (g:List Int),cJ.L3 k l g=true→∃ g',k g'=true:=by
  intro k l
  induction l with
  | nil=>exact fun g h=>⟨g,h⟩
  | cons y l ih=>
   intro g h
   simp only [cJ.L3,Bool.cond_eq_ite] at h
   split at h
   ·cases h
   ·exact ih _ h
 have h1:∀ (k:Bool) (l:List (List Holder)),cJ.L1 k l=true→k=true:=by
  intro k l
  induction l with
  | nil=>exact fun h=>h
  | cons y l ih=>
   intro h
   obtain ⟨g',hg⟩:=h3 _ _ _ h
   simp only [Bool.cond_eq_ite] at hg
   split at hg
   ·cases hg
   ·exact ih hg
 have:=h1 _ _ h
 simpa [cJ.K1] using this
end Go.Sg
namespace Go.Sg
set_option linter.unusedVariables false
theorem vP:∀ (l:List Version) (g:Int),-1≤g→g≤1048576→(br.L1 br.K1 l g=0 ↔
  (∀ v∈l,(0≤v.At∧v.At≤1099511627775)∧(0≤v.Known∧v.Known≤1099511627775)∧v.No≤1048576∧cy v.Policy=0)∧(∀ v∈l,g < v.No)∧l.Pairwise (fun a b=>a.No < b.No))
 | [],g,_,_=>by simp [br.L1,br.K1]
 | y::l,g,h0,h1=>by
  simp only [br.L1,wrap64 (z:=g+1) (by omega),aO]
  by_cases hy:((0≤y.At∧y.At≤1099511627775)∧(0≤y.Known∧y.Known≤1099511627775)∧y.No≤1048576∧cy y.Policy=0)∧g < y.No
  ·obtain ⟨⟨⟨a,a'⟩,⟨b,b'⟩,c,d⟩,e⟩:=hy
   have hc:(!(decide (g+1≤y.No)&&decide (y.No≤1048576))||!(decide (0≤y.At)&&decide (y.At≤1099511627775))||!(decide (0≤y.Known)&&decide (y.Known≤1099511627775))||cy y.Policy != 0)=false:=by
    simp [a,a',b,b',c,d];omega
   rw [hc,cond_false,vP l y.No (by omega) c,List.pairwise_cons]
   simp only [List.mem_cons,forall_eq_or_imp]
   constructor
   ·rintro ⟨h2,h3,h4⟩
    exact ⟨⟨⟨⟨a,a'⟩,⟨b,b'⟩,c,d⟩,h2⟩,⟨e,fun v hv=>by have:=h3 v hv;omega⟩,h3,h4⟩
   ·rintro ⟨⟨_,h2⟩,_,h3,h4⟩;exact ⟨h2,h3,h4⟩
  ·have hc:(!(decide (g+1≤y.No)&&decide (y.No≤1048576))||!(decide (0≤y.At)&&decide (y.At≤1099511627775))||!(decide (0≤y.Known)&&decide (y.Known≤1099511627775))||cy y.Policy != 0)=true:=by
    apply Classical.byContradiction
    intro hn
    apply hy
    simp only [Bool.not_eq_true,Bool.or_eq_false_iff,Bool.not_eq_false',Bool.and_eq_true,decide_eq_true_eq,bne_eq_false_iff_eq] at hn
    obtain ⟨⟨⟨a,b⟩,c⟩,d⟩:=hn
    exact ⟨⟨b,c,a.2,d⟩,by omega⟩
   rw [hc,cond_true]
   constructor
   ·intro h;omega
   ·rintro ⟨h2,h3,_⟩
    exact absurd ⟨h2 y (List.mem_cons_self ..),h3 y (List.mem_cons_self ..)⟩ hy
structure vT (l:List Version):Prop where
 len:l.length≤256
 each:∀ v∈l,(0≤v.At∧v.At≤1099511627775)∧(0≤v.Known∧v.Known≤1099511627775)∧(0≤v.No∧v.No≤1048576)∧cy v.Policy=0
 inc:l.Pairwise (fun a b=>a.No < b.No)
theorem kw (l:List Version):br l=0↔vT l:=by
 unfold br
 by_cases hl:l.length≤256
 ·rw [show decide (256 < ((l.length:Nat):Int))=false from decide_eq_false (by omega),cond_false,vP l (-1) (by omega) (by omega)]
  constructor
  ·rintro ⟨h1,h2,h3⟩;exact ⟨hl,fun v hv=>by have a:=h1 v hv;have b:=h2 v hv;exact ⟨a.1,a.2.1,⟨by omega,a.2.2.1⟩,a.2.2.2⟩,h3⟩
  ·rintro ⟨_,h1,h3⟩;exact ⟨fun v hv=>by have:=h1 v hv;exact ⟨this.1,this.2.1,by omega,this.2.2.2⟩,fun v hv=>by have:=h1 v hv;omega,h3⟩
 ·rw [show decide (256 < ((l.length:Nat):Int))=true from decide_eq_true (by omega),cond_true]
  exact ⟨fun h=>by omega,fun h=>absurd h.len hl⟩
theorem vT.mode {l:List Version} (g:vT l) {v:Version} (hv:v∈l):1≤v.Policy.Mode∧v.Policy.Mode≤4:=(tE (g.each v hv).2.2.2).1
theorem vT.okV {l:List Version} (g:vT l):okV l:=⟨g.len,fun v hv=>⟨⟨(tE (g.each v hv).2.2.2).2.1,(uZ (g.each v hv).2.2.2).2.1⟩,(tE (g.each v hv).2.2.2).2.2⟩⟩
theorem zR {κ α : Type} [DecidableEq κ] (k:κ) (v:α):∀ (m:List (κ×α)) (x:κ),mget? (mput m k v) x=if x=k then some v else mget? m x
 | [],x=>by simp [mput,mget?]
 | (k',v')::m,x=>by
  simp only [mput]
  by_cases e:k=k'
  ·subst e;by_cases e2:x=k <;> simp [mget?,e2]
  ·simp only [e,if_false,mget?,zR k v m x]
   by_cases e2:x=k'
   ·subst e2;simp [Ne.symm e]
   ·simp [e2]
theorem vB {κ α : Type} [DecidableEq κ] {x:κ}:∀ {m:List (κ×α)},x∈m.map (·.1)→∃ v,mget? m x=some v∧(x,v)∈m
 | (k,v)::m,h=>by
  by_cases e:x=k
  ·subst e;exact ⟨v,by simp [mget?],by simp⟩
  ·simp only [List.map_cons,List.mem_cons,e,false_or] at h
   obtain ⟨u,h1,h2⟩:=vB h
   exact ⟨u,by simp [mget?,e,h1],List.mem_cons_of_mem _ h2⟩
theorem sa {κ α : Type} [DecidableEq κ] {k:κ} {v:α} {q:κ×α}:∀ {m:List (κ×α)},q∈mput m k v→q=(k,v)∨q∈m
 | [],h=>by simp [mput] at h;exact .inl h
 | (k',v')::m,h=>by
  simp only [mput] at h
  split at h
  ·rcases List.mem_cons.1 h with h | h
   ·exact .inl h
   ·exact .inr (List.mem_cons_of_mem _ h)
  ·rcases List.mem_cons.1 h with h | h
   ·exact .inr (h ▸ List.mem_cons_self ..)
   ·rcases sa h with h | h
    ·exact .inl h
    ·exact .inr (List.mem_cons_of_mem _ h)
theorem xI (g:List (Int×Version)):∀ l,bz.L2 g [] l=l.map fun y=>(y,mgetD g y (Version.mk 0 0 0 (Policy.mk (⟨#[]⟩:ByteArray) [] [] [] (Expr.mk 0 0 0 (⟨#[]⟩:ByteArray) []) 0)))
 | []=>rfl
 | y::l=>by simp [bz.L2,xI g l]
def inForceM (known eo:Int):List Version→Int→List (Int×Version)→List (Int×Version)
 | [],_,m=>m
 | y::l,b,m=>bif decide (known < y.Known) then inForceM known eo l b m else bif decide (y.At≤eo) then (bif decide (y.At < b) then inForceM known eo l b m else inForceM known eo l y.At (mput m eo y)) else inForceM known eo l b (mput m y.At y)
theorem xJ (known eo:Int) (k:Int→List (Int×Version)→List (Int×Version)) (hk:∀ a b m,k a m=k b m):∀ l b m,bz.L1 known eo k l b m=k 0 (inForceM known eo l b m)
 | [],b,m=>hk _ _ _
 | y::l,b,m=>by
  simp only [bz.L1,inForceM,xJ known eo k hk l]
  cases decide (known < y.Known) <;> cases decide (y.At≤eo) <;> cases decide (y.At < b) <;> rfl
theorem nX (l:List Version) (eo known:Int):e8 l eo known=(sortI ((inForceM known eo l (-1) []).map Prod.fst)).map fun y=>(y,mgetD (inForceM known eo l (-1) []) y (Version.mk 0 0 0 (Policy.mk (⟨#[]⟩:ByteArray) [] [] [] (Expr.mk 0 0 0 (⟨#[]⟩:ByteArray) []) 0))):=by
 unfold e8 bz
 rw [xJ _ _ _ (fun _ _ _=>rfl)]
 exact xI _ _
theorem mn (known eo:Int) (P:Int×Version→Prop):∀ (l:List Version) b m,(∀ y∈l,y.At≤eo→P (eo,y))→(∀ y∈l,eo < y.At→P (y.At,y))→(∀ q∈m,P q)→∀ q∈inForceM known eo l b m,P q
 | [],_,_,_,_,hm=>hm
 | y::l,b,m,h1,h2,hm=>by
  have h1':=fun z hz=>h1 z (List.mem_cons_of_mem _ hz)
  have h2':=fun z hz=>h2 z (List.mem_cons_of_mem _ hz)
  simp only [inForceM,Bool.cond_eq_ite,decide_eq_true_eq]
  split
  ·exact mn known eo P l b m h1' h2' hm
  ·split
   ·next ha=>
    split
    ·exact mn known eo P l b m h1' h2' hm
    ·refine mn known eo P l _ _ h1' h2' (fun q hq=>?_)
     rcases sa hq with rfl | hq
     ·exact h1 y (List.mem_cons_self ..) ha
     ·exact hm q hq
   ·next ha=>
    refine mn known eo P l _ _ h1' h2' (fun q hq=>?_)
    rcases sa hq with rfl | hq
    ·exact h2 y (List.mem_cons_self ..) (by omega)
    ·exact hm q hq
theorem rI {l:List Version} {eo known:Int} (P:Int×Version→Prop) (h1:∀ y∈l,y.At≤eo→P (eo,y)) (h2:∀ y∈l,eo < y.At→P (y.At,y)):∀ q∈e8 l eo known,P q:=by
 intro q hq
 rw [nX] at hq
 obtain ⟨y,hy,rfl⟩:=List.mem_map.1 hq
 have hy':=(j3 _).mem_iff.1 hy
 obtain ⟨v,e,hv⟩:=vB hy'
 have:mgetD (inForceM known eo l (-1) []) y (Version.mk 0 0 0 (Policy.mk (⟨#[]⟩:ByteArray) [] [] [] (Expr.mk 0 0 0 (⟨#[]⟩:ByteArray) []) 0))=v:=by simp [mgetD,e]
 simp only [this]
 exact mn known eo P l (-1) [] h1 h2 (fun q hq=>(List.not_mem_nil hq).elim) _ hv
theorem rH {l:List Version} {eo known:Int}:∀ q∈e8 l eo known,q.2∈l:=
 rI (fun q=>q.2∈l) (fun y hy _=>hy) (fun y hy _=>hy)
theorem nA (known eo:Int):∀ (l:List Version) b m,(inForceM known eo l b m).length≤m.length+l.length
 | [],_,_=>Nat.le_refl _
 | y::l,b,m=>by
  have a1:=nA known eo l b m
  have a2:=nA known eo l y.At (mput m eo y)
  have a3:=nA known eo l b (mput m y.At y)
  have b2:=gy m eo y
  have b3:=gy m y.At y
  simp only [inForceM,Bool.cond_eq_ite,List.length_cons]
  split
  ·omega
  ·split
   ·split <;> omega
   ·omega
theorem Ck (l:List Version) (eo known:Int):(e8 l eo known).length≤l.length:=by
 rw [nX,List.length_map,iI,List.length_map]
 have:=nA known eo l (-1) []
 simpa using this
end Go.Sg
namespace Go.Sg
set_option linter.unusedVariables false
theorem tQ:∀ {a b:List OSeat},a.Pairwise (fun x y=>x.person < y.person)→b.Pairwise (fun x y=>x.person < y.person)→a.Perm b→a=b
 | [],b,_,_,p=>(List.Perm.nil_eq p)
 | x::a,[],_,_,p=>absurd p.length_eq (by simp)
 | x::a,y::b,ha,hb,p=>by
  have hx:x=y:=by
   have h1:x∈y::b:=p.mem_iff.1 (List.mem_cons_self ..)
   have h2:y∈x::a:=p.mem_iff.2 (List.mem_cons_self ..)
   rw [List.pairwise_cons] at ha hb
   rcases List.mem_cons.1 h1 with e | h1
   ·exact e
   ·rcases List.mem_cons.1 h2 with e | h2
    ·exact e.symm
    ·have:=ha.1 y h2;have:=hb.1 x h1;omega
  subst hx
  rw [List.pairwise_cons] at ha hb
  rw [tQ ha.2 hb.2 (List.Perm.cons_inv p)]
theorem tR {office:Int} {l:List OSeat} (hn:l.Nodup) (hs:l.Pairwise (fun x y=>x.person≤y.person)):(l.filter (fun y=>y.office==office)).Pairwise (fun x y=>x.person < y.person):=by
 induction l with
 | nil=>exact List.Pairwise.nil
 | cons x l ih=>
  rw [List.nodup_cons] at hn
  rw [List.pairwise_cons] at hs
  rw [List.filter_cons]
  split
  ·next h=>
   rw [List.pairwise_cons]
   refine ⟨fun y hy=>?_,ih hn.2 hs.2⟩
   obtain ⟨hy1,hy2⟩:=List.mem_filter.1 hy
   have h1:=hs.1 y hy1
   rcases Int.lt_or_eq_of_le h1 with h2 | h2
   ·exact h2
   ·exfalso
    have:x=y:=by
     cases x;cases y
     simp at h hy2 h2
     simp [h,hy2,h2]
    exact hn.1 (this ▸ hy1)
  ·exact ih hn.2 hs.2
theorem qi (m:List (OSeat×Appoint)) (office:Int):∀ l,bV.L1 m office [] l=(l.filter fun y=>y.office==office).filterMap fun y=>bif (mgetD m y (Appoint.mk 0 0 0 0 0 0 false)).Gone then none else some (Holder.mk (mgetD m y (Appoint.mk 0 0 0 0 0 0 false)).Person (mgetD m y (Appoint.mk 0 0 0 0 0 0 false)).Weight)
 | []=>rfl
 | y::l=>by
  simp only [bV.L1,qi m office l,List.filter_cons]
  cases h1:y.office==office <;> cases h2:(mgetD m y (Appoint.mk 0 0 0 0 0 0 false)).Gone <;> simp [h2]
theorem yZ {m:List (OSeat×Appoint)} {office:Int} {ys:List OSeat} (hn:(m.map (·.1)).Nodup) (hp:ys.Perm (m.map Prod.fst)) (hs:ys.Pairwise (fun x y=>x.person≤y.person)):
  bV m office=[]++((bV.L1 m office bV.K1) ys):=by
 unfold bV bV.K1
 rw [List.nil_append,qi,qi]
 have h1:(seatS (m.map Prod.fst)).Nodup:=(pW _).nodup_iff.2 hn
 have h2:ys.Nodup:=hp.nodup_iff.2 hn
 rw [tQ (tR h1 (tS _)) (tR h2 hs) (((pW _).trans hp.symm).filter _)]
theorem rC (key:Appoint→OSeat×Bool) (later:Appoint→Appoint→Bool):∀ (l:List Appoint) m,(bN.L1 key later bN.K1 l m).length≤m.length+l.length
 | [],m=>by simp [bN.L1,bN.K1]
 | y::l,m=>by
  have a:=rC key later l m
  have b:=rC key later l (mput m (key y).1 y)
  have c:=gy m (key y).1 y
  simp only [bN.L1,Bool.cond_eq_ite,List.length_cons]
  split <;> omega
theorem pS (l:List Appoint) (a b:Int):(eV l a b).length≤l.length:=by
 have:=rC (fun cD=>ed cD a b) iy l []
 simpa [eV,bN] using this
theorem CU (l:List Holder):ft l=l:=by
 have:∀ (l g:List Holder),co.L1 co.K1 l g=g++l:=by
  intro l
  induction l with
  | nil=>intro g;simp [co.L1,co.K1]
  | cons y l ih=>intro g;simp [co.L1,ih]
 simp [ft,co,this]
theorem vF (m:List (OSeat×Appoint)) (office:Int):(ic m office).length≤m.length:=by
 unfold ic bV bV.K1
 rw [qi]
 have h1:=List.length_filterMap_le (fun y=>bif (mgetD m y (Appoint.mk 0 0 0 0 0 0 false)).Gone then none else some (Holder.mk (mgetD m y (Appoint.mk 0 0 0 0 0 0 false)).Person (mgetD m y (Appoint.mk 0 0 0 0 0 0 false)).Weight)) ((seatS (m.map Prod.fst)).filter fun y=>y.office==office)
 have h2:=List.length_filter_le (fun y:OSeat=>y.office==office) (seatS (m.map Prod.fst))
 have h3:=(pW (m.map Prod.fst)).length_eq
 rw [List.length_map] at h3
 omega
theorem C6 (l:List Appoint) (office a b:Int):(dy l office a b).1.length≤l.length:=by
 unfold dy
 rw [CU]
 have h1:=vF (eV l a b) office
 have h2:=pS l a b
 cases (cx l != 0) <;> cases ((!(dM office))||(!(bH a))||(!(bH b))) <;> simp <;> omega
end Go.Sg
namespace Go.Sg
set_option linter.unusedVariables false
theorem mP (q:aS) (at_:Int):∀ (l:List Version) (g:List Policy),av.L1 q at_ (av.K1 q at_) l g=(g++(l.filter fun v=>fQ (aV q.Register.Versions q.doc.At at_ q.known).1 v.No).map (·.Policy),(aV q.Register.Versions q.doc.At at_ q.known).2.1)
 | [],g=>by simp [av.L1,av.K1]
 | y::l,g=>by
  simp only [av.L1,mP q at_ l,List.filter_cons]
  cases fQ (aV q.Register.Versions q.doc.At at_ q.known).1 y.No <;> simp
theorem qe {q:aS} {at_:Int} {p:Policy} (h:p∈(av q at_).1):∃ v∈q.Register.Versions,v.Policy=p:=by
 unfold av at h
 rw [Bool.cond_eq_ite] at h
 split at h
 ·exact (List.not_mem_nil h).elim
 ·rw [mP,List.nil_append] at h
  obtain ⟨v,hv,e⟩:=List.mem_map.1 h
  exact ⟨v,(List.mem_filter.1 hv).1,e⟩
theorem xF (q:aS) (at_:Int):(av q at_).1.length≤q.Register.Versions.length:=by
 unfold av
 rw [Bool.cond_eq_ite]
 split
 ·exact Nat.zero_le _
 ·rw [mP,List.nil_append,List.length_map]
  exact List.length_filter_le _ _
theorem vw (q:aS) (at_:Int):∀ (l:List ByteArray) (i:Nat) (g:List (List Holder)),aD.L1 q at_ aD.K1 l i g=g++(List.range l.length).map fun j=>(dy q.Register.Appoints ((i+j:Nat):Int) at_ q.known).1
 | [],i,g=>by simp [aD.L1,aD.K1]
 | y::l,i,g=>by
  simp only [aD.L1,vw q at_ l,List.length_cons,List.append_assoc]
  congr 1
  rw [List.range_succ_eq_map,List.map_cons,List.map_map]
  simp only [Nat.add_zero,List.singleton_append,List.cons.injEq,true_and]
  apply List.map_congr_left
  intro j _
  simp only [Function.comp]
  rw [show i+1+j=i+(j+1) from by omega]
theorem ma (q:aS) (p:Policy) (at_:Int):aD q p at_=(List.range p.Offices.length).map fun (j:Nat)=>(dy q.Register.Appoints (j:Int) at_ q.known).1:=by
 unfold aD
 rw [vw]
 simp
theorem rj {q:aS} (h:q.Register.Appoints.length≤2000000) (p:Policy) (at_:Int):∀ y∈aD q p at_,y.length≤2000000:=by
 intro y hy
 rw [ma] at hy
 obtain ⟨j,_,rfl⟩:=List.mem_map.1 hy
 exact Nat.le_trans (C6 _ _ _ _) h
theorem Aw (q:aS) (p:Policy) (at_:Int):(aD q p at_).length=p.Offices.length:=by rw [ma];simp
theorem Fm (l:List Int) (p:Int→Bool):(bx l p).length≤l.length:=List.length_filter_le _ _
end Go.Sg
namespace Go.Sg
set_option linter.unusedVariables false
theorem rD (r:Register):fa r=0↔cx r.Appoints=0∧dg r.Deputies=0∧bS r.Interests=0∧dk r.Budgets=0∧br r.Versions=0∧cj r.Docs=0∧cz r.Approvals=0:=by
 have e:fa r=(bif cx r.Appoints != 0 then 300 else bif dg r.Deputies != 0 then 300 else bif bS r.Interests != 0 then 300 else bif dk r.Budgets != 0 then 300 else bif br r.Versions != 0 then 300 else bif cj r.Docs != 0 then 300 else bif cz r.Approvals != 0 then 300 else 0):=rfl
 rw [e]
 have key:∀ (a x:Int),(bif a != 0 then 300 else x)=0↔a=0∧x=0:=by
  intro a x
  by_cases h:a=0
  ·simp [h]
  ·have:(a != 0)=true:=by simpa using h
   rw [this];simp [h]
 simp only [key,and_true]
theorem EC (limit:Int) (k:Int→Bool):∀ (l:List Int) (g:Int),cC.L1 limit k l g=true↔((∀ x∈l,g < x∧x < limit)∧l.Pairwise (· < ·))∧∃ g',(l=[]∧g'=g∨l.getLast? = some g')∧k g'=true
 | [],g=>by simp [cC.L1]
 | y::l,g=>by
  simp only [cC.L1,Bool.cond_eq_ite,Bool.or_eq_true,decide_eq_true_eq]
  split
  ·next h=>
   constructor
   ·intro h';cases h'
   ·rintro ⟨⟨h1,_⟩,_⟩;have:=h1 y (List.mem_cons_self ..);omega
  ·next h=>
   rw [EC limit k l y,List.pairwise_cons]
   simp only [List.mem_cons,forall_eq_or_imp]
   constructor
   ·rintro ⟨⟨h1,h2⟩,g',h3,h4⟩
    refine ⟨⟨⟨by omega,fun x hx=>by have:=h1 x hx;omega⟩,fun x hx=>(h1 x hx).1,h2⟩,g',?_,h4⟩
    rcases h3 with ⟨rfl,rfl⟩ | h3
    ·simp
    ·right;cases l with
     | nil=>simp at h3
     | cons z l=>simpa using h3
   ·rintro ⟨⟨⟨h1,h2⟩,h3,h4⟩,g',h5,h6⟩
    refine ⟨⟨fun x hx=>⟨h3 x hx,(h2 x hx).2⟩,h4⟩,g',?_,h6⟩
    rcases h5 with ⟨h5,_⟩ | h5
    ·cases h5
    ·cases l with
     | nil=>left;simp at h5;exact ⟨rfl,h5.symm⟩
     | cons z l=>right;simpa using h5
theorem HY (l:List Int) (limit:Int):cC l limit=true↔((∀ x∈l,0≤x∧x < limit)∧l.Pairwise (· < ·))∧l.length≤16:=by
 unfold cC
 rw [EC]
 constructor
 ·rintro ⟨⟨h1,h2⟩,g',_,h3⟩
  refine ⟨⟨fun x hx=>by have:=h1 x hx;omega,h2⟩,?_⟩
  simp only [cC.K1,decide_eq_true_eq] at h3
  omega
 ·rintro ⟨⟨h1,h2⟩,h3⟩
  refine ⟨⟨fun x hx=>by have:=h1 x hx;omega,h2⟩,?_⟩
  cases l with
  | nil=>exact ⟨_,.inl ⟨rfl,rfl⟩,by simp [cC.K1]⟩
  | cons y l=>
   refine ⟨(y::l).getLast (by simp),.inr (List.getLast?_eq_some_getLast _),?_⟩
   simp only [cC.K1,decide_eq_true_eq]
   omega
structure EW (d:Document):Prop where
 no:0≤d.No∧d.No < 4096
 at_:0≤d.At∧d.At < 1099511627776
 kind:0≤d.Kind∧d.Kind < 16
 value:0≤d.Value∧d.Value≤1099511627776
 eo:0≤d.From∧d.From < d.Until
 Il:d.Until≤1099511627776
 parties:((∀ x∈d.Parties,0≤x∧x < 1048577)∧d.Parties.Pairwise (· < ·))∧d.Parties.length≤16
 revokes:((∀ x∈d.Revokes,0≤x∧x < d.No)∧d.Revokes.Pairwise (· < ·))∧d.Revokes.length≤16
 needs:((∀ x∈d.Needs,0≤x∧x < d.No)∧d.Needs.Pairwise (· < ·))∧d.Needs.length≤16
theorem BL (d:Document):fX d=true↔EW d:=by
 unfold fX fe
 simp only [Bool.and_eq_true,decide_eq_true_eq,HY]
 constructor
 ·rintro ⟨⟨⟨⟨⟨⟨⟨⟨⟨⟨⟨⟨a,b⟩,c,d⟩,e⟩,f⟩,g⟩,h⟩,i⟩,j⟩,k⟩,l⟩,m⟩,n⟩
  exact ⟨⟨a,b⟩,⟨c,d⟩,⟨e,f⟩,⟨g,h⟩,⟨i,j⟩,k,l,m,n⟩
 ·rintro ⟨⟨a,b⟩,⟨c,d⟩,⟨e,f⟩,⟨g,h⟩,⟨i,j⟩,k,l,m,n⟩
  exact ⟨⟨⟨⟨⟨⟨⟨⟨⟨⟨⟨⟨a,b⟩,c,d⟩,e⟩,f⟩,g⟩,h⟩,i⟩,j⟩,k⟩,l⟩,m⟩,n⟩
theorem yv (l0:List Document):∀ (l:List Document) (i:Nat),cj.L1 l0 0 l i=0→∀ d∈l,fX d=true
 | [],_,_,_,hd=>(List.not_mem_nil hd).elim
 | y::l,i,h,d,hd=>by
  simp only [cj.L1,Bool.cond_eq_ite] at h
  split at h
  ·omega
  ·next hc=>
   simp only [Bool.or_eq_true,not_or,Bool.not_eq_true',Bool.not_eq_false] at hc
   rcases List.mem_cons.1 hd with rfl | hd
   ·exact hc.1.1
   ·exact yv l0 l (i+1) h d hd
theorem Ac {l:List Document} (h:cj l=0):∀ d∈l,EW d:=by
 unfold cj cj.K1 at h
 rw [Bool.cond_eq_ite] at h
 split at h
 ·omega
 ·exact fun d hd=>(BL d).1 (yv l l 0 h d hd)
theorem Cm (f:Document→Bool):∀ (l:List Document) (i:Nat),(ab.L1 f ab.K1 l i=-1∧∀ x∈l,f x=false) ∨
  ∃ a y b,l=a++y::b∧ab.L1 f ab.K1 l i=((i+a.length:Nat):Int)∧f y=true∧∀ x∈a,f x=false
 | [],i=>.inl ⟨rfl,fun _ h=>(List.not_mem_nil h).elim⟩
 | y::l,i=>by
  simp only [ab.L1]
  cases hy:f y with
  | true=>exact .inr ⟨[],y,l,rfl,by simp,hy,fun _ h=>(List.not_mem_nil h).elim⟩
  | false=>
   rcases Cm f l (i+1) with ⟨h1,h2⟩ | ⟨a,z,b,rfl,h2,h3,h4⟩
   ·exact .inl ⟨h1,fun x hx=>by rcases List.mem_cons.1 hx with rfl | hx;exact hy;exact h2 x hx⟩
   ·refine .inr ⟨y::a,z,b,rfl,?_,h3,fun x hx=>by rcases List.mem_cons.1 hx with rfl | hx;exact hy;exact h4 x hx⟩
    rw [cond_false,h2];simp only [List.length_cons];congr 1;omega
theorem Iq_ {r:Register} {doc known:Int} (h:(cT r doc known).2=true):(cT r doc known).1.Register=r∧(cT r doc known).1.doc∈r.Docs∧(cT r doc known).1.doc.No=doc∧(cT r doc known).1.known=known∧jK known=true:=by
 unfold cT at h ⊢
 rw [Bool.cond_eq_ite] at h ⊢
 rcases Cm (fun cD=>aG cD doc) r.Docs 0 with ⟨h1,_⟩ | ⟨a,y,b,h1,h2,h3,_⟩
 ·have:ab r.Docs (fun cD=>aG cD doc)=-1:=h1
  rw [this] at h
  simp at h
 ·have e:ab r.Docs (fun cD=>aG cD doc)=((a.length:Nat):Int):=by rw [Nat.zero_add] at h2;exact h2
  have hn:nthI r.Docs ((a.length:Nat):Int)=y:=Gz (by rw [h1];simp)
  rw [e] at h ⊢
  cases ht:jK known with
  | false=>rw [ht] at h;simp at h
  | true=>
   rw [hn]
   have hc:(decide (((a.length:Nat):Int) < 0)||!true)=false:=by simp
   rw [hc]
   rw [if_neg (by simp)]
   refine ⟨by cases r;rfl,?_,?_,rfl,rfl⟩
   ·have:y∈r.Docs:=by rw [h1];simp
    cases y;exact this
   ·have h4:y.No=doc:=by simpa [aG] using h3
    exact h4
structure I9 (r:Register) (q:aS):Prop where
 reg:q.Register=r
 vers:vT r.Versions
 doc:EW q.doc
theorem asked {r:Register} {doc known:Int} (hc:fa r=0) (h:(cT r doc known).2=true):I9 r (cT r doc known).1:=by
 obtain ⟨_,_,_,_,h5,h6,_⟩:=(rD r).1 hc
 obtain ⟨h1,h2,_⟩:=Iq_ h
 exact ⟨h1,(kw _).1 h5,Ac h6 _ h2⟩
theorem vx (l0:List Int):∀ (l:List Int) (i:Nat),(aX.L1 l0 [] l i).length≤l.length
 | [],_=>Nat.le_refl _
 | y::l,i=>by
  have ih:=vx l0 l (i+1)
  simp only [aX.L1,Bool.cond_eq_ite,List.length_cons]
  split <;> split <;> first | omega | (simp only [List.length_cons];omega)
def changeR (q:aS) (l:List Rule) (m:List (Int×Bool)):List (Int×Bool):=l.foldl (fun m x=>mput m (q.doc.At+x.Think) true) m
def changeV (q:aS) (l:List Version) (m:List (Int×Bool)):List (Int×Bool):=l.foldl (fun m v=>changeR q v.Policy.Rules (mput m v.At true)) m
def changeM (q:aS):List (Int×Bool):=
 changeV q q.Register.Versions (q.Register.Interests.foldl (fun m x=>mput m x.At true) (q.Register.Appoints.foldl (fun m x=>mput m x.At true) (mput (mput (mput [] 0 true) q.doc.At true) q.doc.Until true)))
theorem zE (q:aS) (k:List (Int×Bool)→List Span):∀ l m,aE.L5 q k l m=k (changeR q l m)
 | [],m=>rfl
 | y::l,m=>by simp only [aE.L5,zE q k l];rfl
theorem zF (q:aS) (k:List (Int×Bool)→List Span):∀ l m,aE.L3 q k l m=k (changeV q l m)
 | [],m=>rfl
 | y::l,m=>by simp only [aE.L3,zE,zF q k l];rfl
theorem zG (k:List (Int×Bool)→List Span):∀ l m,aE.L2 k l m=k (l.foldl (fun m x=>mput m x.At true) m)
 | [],m=>rfl
 | y::l,m=>by simp only [aE.L2,zG k l];rfl
theorem zH (k:List (Int×Bool)→List Span):∀ l m,aE.L1 k l m=k (l.foldl (fun m x=>mput m x.At true) m)
 | [],m=>rfl
 | y::l,m=>by simp only [aE.L1,zH k l];rfl
theorem zD (q:aS):aE q=aX (sortI ((changeM q).map Prod.fst)):=by
 unfold aE
 rw [zH]
 unfold aE.K1
 rw [zG]
 unfold aE.K2
 rw [zF]
 rfl
theorem uc {α : Type} (f:α→Int):∀ (l:List α) (m:List (Int×Bool)),(l.foldl (fun m x=>mput m (f x) true) m).length≤m.length+l.length
 | [],m=>Nat.le_refl _
 | y::l,m=>by
  have:=uc f l (mput m (f y) true)
  have:=gy m (f y) true
  simp only [List.foldl_cons,List.length_cons]
  omega
theorem vQ (q:aS):∀ (l:List Version) (m:List (Int×Bool)),(∀ v∈l,v.Policy.Rules.length≤16)→(changeV q l m).length≤m.length+17 * l.length
 | [],m,_=>Nat.le_refl _
 | y::l,m,h=>by
  have a:=vQ q l (changeR q y.Policy.Rules (mput m y.At true)) (fun v hv=>h v (List.mem_cons_of_mem _ hv))
  have b:=uc (fun x:Rule=>q.doc.At+x.Think) y.Policy.Rules (mput m y.At true)
  have c:=gy m y.At true
  have d:=h y (List.mem_cons_self ..)
  simp only [changeV,List.foldl_cons,List.length_cons] at a ⊢
  simp only [changeR] at a ⊢
  omega
theorem Fa {q:aS} (hsm:smR q.Register) (hov:okV q.Register.Versions):(aE q).length≤5000000:=by
 rw [zD]
 have h1:=vx (sortI ((changeM q).map Prod.fst)) (sortI ((changeM q).map Prod.fst)) 0
 rw [iI,List.length_map] at h1
 unfold aX aX.K1
 have h2:=vQ q q.Register.Versions (q.Register.Interests.foldl (fun m x=>mput m x.At true) (q.Register.Appoints.foldl (fun m x=>mput m x.At true) (mput (mput (mput [] 0 true) q.doc.At true) q.doc.Until true))) (fun v hv=>(hov.2 v hv).1.1)
 have h3:=uc (fun x:Interest=>x.At) q.Register.Interests (q.Register.Appoints.foldl (fun m x=>mput m x.At true) (mput (mput (mput [] 0 true) q.doc.At true) q.doc.Until true))
 have h4:=uc (fun x:Appoint=>x.At) q.Register.Appoints (mput (mput (mput [] 0 true) q.doc.At true) q.doc.Until true)
 have h5:=gy (mput (mput ([]:List (Int×Bool)) 0 true) q.doc.At true) q.doc.Until true
 have h6:=gy (mput ([]:List (Int×Bool)) 0 true) q.doc.At true
 have h7:=gy ([]:List (Int×Bool)) 0 true
 have h8:=hsm.2.1
 have h9:=hsm.2.2.2.1
 have h10:=hov.1
 simp only [List.length_nil] at h7
 change (changeM q).length≤_ at h2
 omega
end Go.Sg
namespace Go.Sg
set_option linter.unusedVariables false
set_option linter.unusedSimpArgs false
theorem Ag (k:List Int→List Int×Int×Int):∀ (l:List Version) (g:List Int),aV.L2 k l g=k (g++l.map (·.No))
 | [],g=>by simp [aV.L2]
 | y::l,g=>by simp [aV.L2,Ag k l]
end Go.Sg
namespace Go.Sg
set_option linter.unusedVariables false
set_option linter.unusedSimpArgs false
theorem E3:mO=true:=by kernel_rfl
theorem E2:smR bO:=by simp [smR,smV,smP,bO,Expr.dep,Expr.depL]
theorem HK:smR (Register.mk [] [] [] [] [] [] []):=by simp [smR,smV]
theorem HJ:smR (Register.mk [(Appoint.mk 0 0 0 0 0 0 false)] [] [] [] [] [] []):=by simp [smR,smV]
theorem HL (a b:Interest):smR (Register.mk bO.Appoints bO.Deputies [a,b] bO.Budgets bO.Versions bO.Docs bO.Approvals):=by simp [smR,smV,smP,bO,Expr.dep,Expr.depL]
theorem F8:smR (Register.mk bO.Appoints bO.Deputies bO.Interests bO.Budgets [] bO.Docs bO.Approvals):=by simp [smR,smV,smP,bO,Expr.dep,Expr.depL]
theorem lR {p:Prop} (h:p:=by first | exact E2 | exact HK | exact HJ | exact HL _ _ | exact F8):p:=h
theorem s8 {P:Program} {f:FuncId} {args:List Value} {h:HF} {v v':Value} (t:Ret P f args h v) (e:v=v'):Ret P f args h v':=e ▸ t
end Go.Sg
namespace Go.Sg
set_option linter.unusedVariables false
set_option linter.unusedSimpArgs false
theorem BM (k:Bool):∀ l:List Int,fB.L1 k l=true↔(∀ x∈l,dY x=true)∧k=true
 | []=>by simp [fB.L1]
 | y::l=>by
  simp only [fB.L1,Bool.cond_eq_ite,List.mem_cons,forall_eq_or_imp,Bool.not_eq_true']
  have ih:=BM k l
  cases dY y <;> simp [ih]
structure IS (r:Register) (doc:Int) (who l:List Int):Prop where
 times:∀ x∈l,0≤x∧x < 1099511627776
 check:iV r=0
 doc0:0≤dv r doc
 people:e5 who=true
theorem HR {r:Register} {doc:Int} {who l:List Int} (h:fB r doc who l=true):IS r doc who l:=by
 unfold fB at h
 obtain ⟨h1,h2⟩:=(BM _ _).1 h
 simp only [fB.K1,Bool.and_eq_true,beq_iff_eq,decide_eq_true_eq] at h2
 exact ⟨fun x hx=>by have:=h1 x hx;simpa [dY] using this,h2.1.1.2,h2.1.2,h2.2⟩
theorem Es (no:Int):∀ (l:List Document) (i:Nat),0≤dv.L1 no dv.K1 l i→∃ (j:Nat) (d:Document),l[j]? = some d∧d.No=no∧dv.L1 no dv.K1 l i=((i+j:Nat):Int)
 | [],i,h=>by simp [dv.L1,dv.K1] at h
 | y::l,i,h=>by
  simp only [dv.L1,Bool.cond_eq_ite,beq_iff_eq] at h ⊢
  split
  ·next e=>exact ⟨0,y,rfl,e,rfl⟩
  ·next e=>
   rw [if_neg e] at h
   obtain ⟨j,d,h1,h2,h3⟩:=Es no l (i+1) h
   exact ⟨j+1,d,by simpa using h1,h2,by rw [h3];congr 1;omega⟩
theorem Er {r:Register} {no:Int} (h:0≤dv r no):dv r no < (r.Docs.length:Int)∧nthI r.Docs (dv r no)∈r.Docs∧(nthI r.Docs (dv r no)).No=no:=by
 obtain ⟨j,d,h1,h2,h3⟩:=Es no r.Docs 0 h
 rw [Nat.zero_add] at h3
 have hl:=(List.getElem?_eq_some_iff.1 h1).1
 have e:dv r no=(j:Int):=h3
 have hb:0≤dv r no∧dv r no < (r.Docs.length:Int):=by omega
 have hg:=eN hb
 rw [show (dv r no).toNat=j from by omega,h1] at hg
 have hd:=Option.some.inj hg
 exact ⟨hb.2,ki hb,by rw [← hd];exact h2⟩
theorem Hn (L:List Document):∀ (l:List Document) (i:Nat),eR.L1 L eR.K1 l i=0→∀ d∈l,gK d=true
 | [],_,_=>fun _ h=>(List.not_mem_nil h).elim
 | y::l,i,h=>by
  simp only [eR.L1,Bool.cond_eq_ite,Bool.or_eq_true,not_or] at h
  split at h
  ·simp at h
  ·next hc=>
   intro d hd
   rcases List.mem_cons.1 hd with rfl | hd
   ·simp only [not_or] at hc;simpa using hc.1.1.1
   ·exact Hn L l (i+1) h d hd
theorem CW {r:Register} (h:iV r=0):ey r.Appoints=0∧fg r.Deputies=0∧eQ r.Interests=0∧fA r.Budgets=0∧dz r.Versions=0∧eR r.Docs=0∧fy r.Approvals=0:=by
 simp only [iV,Bool.cond_eq_ite,Bool.or_eq_true,bne_iff_ne] at h
 split at h
 ·simp at h
 ·next h1=>
  split at h
  ·simp at h
  ·next h2=>
   simp only [not_or,Classical.not_not] at h1 h2
   exact ⟨h1.1.1.1,h1.1.1.2,h1.1.2,h1.2,h2.1.1,h2.1.2,h2.2⟩
theorem Hm {l:List Document} (h:eR l=0):l.length≤4096∧∀ d∈l,gK d=true:=by
 simp only [eR,Bool.cond_eq_ite,decide_eq_true_eq] at h
 split at h
 ·simp at h
 ·next h1=>exact ⟨by omega,Hn l l 0 h⟩
end Go.Sg
namespace Go.Sg
set_option linter.unusedVariables false
set_option linter.unusedSimpArgs false
def pcs:List Int→List Span
 | []=>[]
 | [y]=>bif decide (y < 1099511627776) then [⟨y,1099511627776⟩] else []
 | y::z::l=>bif decide (y < min 1099511627776 z) then ⟨y,min 1099511627776 z⟩::pcs (z::l) else pcs (z::l)
theorem Gv (L:List Int):∀ (l pre:List Int),L=pre++l→aX.L1 L [] l pre.length=pcs l
 | [],_,_=>rfl
 | [y],pre,h=>by
  have hl:L.length=pre.length+1:=by rw [h];simp
  have e:decide ((((pre.length+1):Nat):Int) < ((L.length:Nat):Int))=false:=by simp;omega
  simp only [aX.L1,e,cond_false,pcs]
 | y::z::l,pre,h=>by
  have hl:L.length=pre.length+(l.length+2):=by rw [h];simp
  have e:decide ((((pre.length+1):Nat):Int) < ((L.length:Nat):Int))=true:=by simp;omega
  have hz:nthI L (((pre.length+1):Nat):Int)=z:=by
   have hb:0≤(((pre.length+1):Nat):Int)∧(((pre.length+1):Nat):Int) < (L.length:Int):=by omega
   have hg:=eN hb
   rw [show ((((pre.length+1):Nat):Int)).toNat=pre.length+1 from by omega,h,List.getElem?_append_right (by omega)] at hg
   simp at hg;rw [h];exact hg.symm
  have ih:=Gv L (z::l) (pre++[y]) (by rw [h];simp)
  rw [List.length_append,List.length_cons,List.length_nil,Nat.zero_add] at ih
  simp only [aX.L1] at ih ⊢
  rw [e,hz]
  simp only [cond_true,pcs]
  rw [ih]
theorem Iw (l:List Int):aX l=pcs l:=Gv l l [] rfl
def okS:List Span→Int→Prop
 | [],_=>True
 | x::l,c=>c < x.From∧x.From < x.Until∧x.Until≤1099511627776∧okS l x.Until
def lastU:List Span→Int→Int
 | [],c=>c
 | x::l,_=>lastU l x.Until
theorem t7:∀ (a:List Span) (x:Span) (c:Int),okS (a++[x]) c↔okS a c∧lastU a c < x.From∧x.From < x.Until∧x.Until≤1099511627776
 | [],x,c=>by simp [okS,lastU]
 | y::a,x,c=>by
  simp only [List.cons_append,okS,lastU,t7 a x y.Until]
  constructor
  ·rintro ⟨a,b,c,d,e⟩;exact ⟨⟨a,b,c,d⟩,e⟩
  ·rintro ⟨⟨a,b,c,d⟩,e⟩;exact ⟨a,b,c,d,e⟩
theorem nU:∀ (a:List Span) (x:Span) (c:Int),lastU (a++[x]) c=x.Until
 | [],x,c=>rfl
 | y::a,x,c=>nU a x y.Until
theorem GG (t:Int):∀ s:List Span,fo.L1 t fo.K1 s=s.any fun x=>decide (x.From≤t)&&decide (t < x.Until)
 | []=>rfl
 | x::s=>by
  simp only [fo.L1,List.any_cons,GG t s]
  cases decide (x.From≤t)&&decide (t < x.Until) <;> rfl
def inS (s:List Span) (t:Int):Bool:=s.any fun x=>decide (x.From≤t)&&decide (t < x.Until)
theorem xH (a:List Span) (x:Span) (t:Int):inS (a++[x]) t=(inS a t||(decide (x.From≤t)&&decide (t < x.Until))):=by simp [inS]
theorem DO:∀ (a:List Span) (c t:Int),okS a c→lastU a c≤t→c≤lastU a c∧inS a t=false
 | [],c,t,_,_=>⟨Int.le_refl _,rfl⟩
 | x::a,c,t,⟨h1,h2,h3,h4⟩,ht=>by
  obtain ⟨k1,k2⟩:=DO a x.Until t h4 ht
  refine ⟨by simp only [lastU];omega,?_⟩
  simp only [lastU] at ht
  have:decide (t < x.Until)=false:=by simp;omega
  simp only [inS,List.any_cons,this,Bool.and_false,Bool.false_or] at k2 ⊢
  exact k2
structure yI (f:Int→Bool) (acc:List Span) (c:Int):Prop where
 ok:okS acc (-1)
 le:lastU acc (-1)≤c
 pos:0≤c
 is:∀ t,0≤t→t < c→inS acc t=f t
def stepT (f:Int→Bool) (acc:List Span) (s:Span):List Span:=
 bif !(f s.From) then acc else bif decide (0 < ((acc.length:Nat):Int))&&((nthI acc (((acc.length:Nat):Int) - 1)).Until==s.From) then acc.set ((((acc.length:Nat):Int) - 1):Int).toNat (Span.mk (nthI acc (((acc.length:Nat):Int) - 1)).From s.Until) else acc++[s]
theorem yI.step {f:Int→Bool} {acc:List Span} {c u:Int} (g:yI f acc c) (hu:c < u) (hE:u≤1099511627776) (hf:∀ t,c≤t→t < u→f t=f c):yI f (stepT f acc ⟨c,u⟩) u:=by
 have g3:=g.pos
 have hlow:∀ t,c≤t→inS acc t=false:=fun t ht=>(DO acc (-1) t g.ok (Int.le_trans g.le ht)).2
 unfold stepT
 cases hfc:f c with
 | false=>
  refine ⟨g.ok,(by show lastU acc (-1)≤u;have:=g.le;omega),by omega,fun t h0 ht=>?_⟩
  by_cases h:t < c
  ·exact g.is t h0 h
  ·rw [hf t (by omega) ht,hfc];exact hlow t (by omega)
 | true=>
  simp only [Bool.not_true,cond_false]
  rcases List.eq_nil_or_concat acc with rfl | ⟨a,x,e⟩
  ·refine ⟨⟨by show (-1:Int) < c;omega,hu,hE,trivial⟩,Int.le_refl _,by omega,fun t h0 ht=>?_⟩
   have hn:=g.is
   by_cases h:t < c
   ·rw [← g.is t h0 h]
    have:decide (c≤t)=false:=by simp;omega
    show (decide (c≤t)&&decide (t < u)||false)=_
    rw [this];rfl
   ·rw [hf t (by omega) ht,hfc]
    have h1:decide (c≤t)=true:=by simp;omega
    have h2:decide (t < u)=true:=by simpa using ht
    show (decide (c≤t)&&decide (t < u)||false)=_
    rw [h1,h2];rfl
  ·rw [List.concat_eq_append] at e
   subst e
   have hlen:(((a++[x]).length:Nat):Int) - 1=(a.length:Int):=by simp
   have hx:nthI (a++[x]) (a.length:Int)=x:=by
    have hb:0≤((a.length:Nat):Int)∧((a.length:Nat):Int) < ((a++[x]).length:Int):=by simp;omega
    have hg:=eN hb
    rw [show ((a.length:Nat):Int).toNat=a.length from by omega] at hg
    simpa using hg.symm
   have hset:(a++[x]).set a.length (Span.mk x.From u)=a++[Span.mk x.From u]:=by simp
   have hpos:decide (0 < (((a++[x]).length:Nat):Int))=true:=by rw [decide_eq_true_eq];rw [List.length_append,List.length_cons];omega
   have ok':=(t7 a x (-1)).1 g.ok
   have le':=g.le
   rw [nU] at le'
   have inx:∀ t,inS a t=false∨t < x.From:=fun t=>by
    by_cases h:lastU a (-1)≤t
    ·exact .inl (DO a (-1) t ok'.1 h).2
    ·exact .inr (by omega)
   rw [hlen,hx,hpos,show ((a.length:Nat):Int).toNat=a.length from by omega,hset,Bool.true_and]
   cases he:x.Until==c with
   | true=>
    have he':x.Until=c:=by simpa using he
    refine ⟨(t7 a _ (-1)).2 ⟨ok'.1,ok'.2.1,by show x.From < u;omega,hE⟩,by rw [show cond true _ _=a++[Span.mk x.From u] from rfl,nU];exact Int.le_refl _,by omega,fun t h0 ht=>?_⟩
    show inS (a++[Span.mk x.From u]) t=f t
    rw [xH]
    by_cases h:t < c
    ·rw [← g.is t h0 h,xH]
     have h1:decide (t < u)=true:=by simp;omega
     have h2:decide (t < x.Until)=true:=by simp;omega
     show (inS a t||(decide (x.From≤t)&&decide (t < u)))=_
     rw [h1,h2]
    ·rw [hf t (by omega) ht,hfc]
     have h1:decide (t < u)=true:=by simpa using ht
     have h2:decide (x.From≤t)=true:=by simp;omega
     show (inS a t||(decide (x.From≤t)&&decide (t < u)))=_
     rw [h1,h2];simp
   | false=>
    have he':x.Until≠c:=by simpa using he
    refine ⟨(t7 _ _ (-1)).2 ⟨g.ok,by rw [nU];show x.Until < c;omega,hu,hE⟩,by rw [show cond false _ _=(a++[x])++[Span.mk c u] from rfl,nU];exact Int.le_refl _,by omega,fun t h0 ht=>?_⟩
    show inS ((a++[x])++[Span.mk c u]) t=f t
    rw [xH]
    by_cases h:t < c
    ·rw [← g.is t h0 h]
     have h2:decide (c≤t)=false:=by simp;omega
     show (_||(decide (c≤t)&&decide (t < u)))=_
     rw [h2];simp
    ·rw [hf t (by omega) ht,hfc,hlow t (by omega)]
     have h1:decide (t < u)=true:=by simpa using ht
     have h2:decide (c≤t)=true:=by simp;omega
     show (_||(decide (c≤t)&&decide (t < u)))=_
     rw [h1,h2];rfl
theorem Co {f:Int→Bool}:∀ (y:Int) (l:List Int) (acc:List Span),(y::l).Pairwise (· < ·)→y < 1099511627776→yI f acc y→(∀ t u,y≤t→t≤u→(∀ z∈l,t < z→u < z)→f u=f t)→yI f ((pcs (y::l)).foldl (stepT f) acc) 1099511627776
 | y,[],acc,hp,hy,g,hf=>by
  have:decide (y < 1099511627776)=true:=by simpa using hy
  simp only [pcs,this,cond_true,List.foldl]
  exact g.step hy (Int.le_refl _) fun t h1 h2=>hf y t (Int.le_refl _) h1 (fun z hz=>(List.not_mem_nil hz).elim)
 | y,z::l,acc,hp,hy,g,hf=>by
  obtain ⟨hp1,hp2⟩:=List.pairwise_cons.1 hp
  have hyz:=hp1 z (List.mem_cons_self ..)
  have hz2:=List.pairwise_cons.1 hp2
  have e:decide (y < min 1099511627776 z)=true:=by simp;omega
  have cst:∀ t,y≤t→t < min 1099511627776 z→f t=f y:=fun t h1 h2=>hf y t (Int.le_refl _) h1 (fun w hw _=>by
   rcases List.mem_cons.1 hw with rfl | hw
   ·omega
   ·have:=hz2.1 w hw;omega)
  simp only [pcs,e,cond_true,List.foldl]
  have g2:=g.step (u:=min 1099511627776 z) (by omega) (by omega) cst
  by_cases hzE:z < 1099511627776
  ·rw [show min 1099511627776 z=z from by omega] at g2 ⊢
   exact Co z l _ hp2 hzE g2 fun t u h1 h2 h3=>hf t u (by omega) h2 (fun w hw h4=>by
    rcases List.mem_cons.1 hw with rfl | hw
    ·omega
    ·exact h3 w hw h4)
  ·rw [show min 1099511627776 z=1099511627776 from by omega] at g2 ⊢
   have hnil:∀ (l:List Int) (z:Int),(z::l).Pairwise (· < ·)→¬ z < 1099511627776→pcs (z::l)=[]:=by
    intro l
    induction l with
    | nil=>intro z _ h;simp [pcs,h]
    | cons w l ih=>
     intro z hp h
     have h1:=(List.pairwise_cons.1 hp).1 w (List.mem_cons_self ..)
     have e:decide (z < min 1099511627776 w)=false:=by simp;omega
     simp only [pcs,e,cond_false]
     exact ih w (List.pairwise_cons.1 hp).2 (by omega)
   rw [hnil l z hp2 hzE]
   exact g2
end Go.Sg
