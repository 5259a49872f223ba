import Derived.Test.YtknehchipcogdaaGreatDoorJ61
/- Part of JudgeSpec. -/
set_option linter.unusedVariables false
set_option maxRecDepth 100000
namespace Go.Sg
open Go.Proofs Go.Proofs.Tryz
set_option maxHeartbeats 4000000
theorem Gz(h bK fA u xl xk d Ap aU ad)(nW:Register.ok h bK fA)(hu:SlC Use.rp h xl xk u)(hd:aj.ok h d Ap)(hsm:smR bK)(hvc:Xj bK d aU ad)(hdk:0<=d.Kind)(hap:bK.bS.length<=24):j0 prog 44 [.agg (Register.cells bK fA).toArray,.slice xl u.length xk,.agg (aj.cells d Ap).toArray,I aU,I ad] h (λv h'=>∃(rr0:py),v=.agg (dT.cells (eE bK u d aU ad) rr0).toArray/\dT.ok h' (eE bK u d aU ad) rr0):=by
 refine sVv func44 ntmps44 ?_
 generalize hz:(eE bK u d aU ad)=z
 have hjl:=hvc.len
 have hsq:=hsm;unfold smR at hsq
 have q4:=λ{y}(a:y∈(fY bK.Versions d.At aU ad).1)=>(show _/\0<=d.Kind from⟨(hvc.ver y a).2,hdk⟩)
 have q5:=λ{y}(a:y∈(fY bK.Versions d.At aU ad).1)=>hsm.vers.2 _ (lu (hvc.ver y a).1)
 have w1:=λ{y}(a:y∈(fY bK.Versions d.At aU ad).1)=>yL bK d ((nthI bK.Versions (cR bK y)).aw) aU ad
 have q0:=@yL
 have q1:=@EY
 have w0:=λ{y}(a:y∈_)=>(hvc.ver y a).1
 have HA:=λ{b4}{rb1}{rc1}=>lM [1,3,4,5,7,10,11,12,14] 16 (.mG 15 Rp.bool 4 (.mV b4 (λl b c=>[I 3,I (-1),.slice rb1 (((fY bK.Versions d.At aU ad).1).length) rc1,.slice b l.length c]) 36 Rp.int 24 .mE)) (λs1 i w=>(eE.L1 bK d aU ad (eE.K1 bK u d aU ad)) s1 w.1 w.2.1)
 have HB:=λ{b4}{rb1}{rc1}{rz1}{pM}{y1}=>lM [1,3,4,5,7,10,11,12,14,15,16,18] 19 (.mV b4 (λl b c=>[I 3,I (-1),.slice rb1 (((fY bK.Versions d.At aU ad).1).length) rc1,.slice b l.length c]) 36 Rp.int 1 .mE) (λs3 i w=>(eE.L3 (λzg3_b4_3=>(eE.L1 bK d aU ad (eE.K1 bK u d aU ad) rz1 (pM++[(fV bK d ((nthI bK.Versions (cR bK y1)).aw) aU ad)]) zg3_b4_3))) s3 w.1)
 have HC:=λ{b4}{rb1}{rc1}{rz1}{pM}{y1}=>lM [1,3,4,5,7,10,11,12,14,15,16,18] 19 (.mV b4 (λl b c=>[I 3,I (-1),.slice rb1 (((fY bK.Versions d.At aU ad).1).length) rc1,.slice b l.length c]) 36 Rp.int 1 .mE) (λs3 i w=>(eE.L3 (λzg3_b4_3=>(eE.L1 bK d aU ad (eE.K1 bK u d aU ad) rz1 (pM++[(fV bK d ((nthI bK.Versions (cR bK y1)).aw) aU ad)]) zg3_b4_3))) s3 w.1)
 exact W
instance k44:Ct 44:=⟨_,call44,@Gz⟩
end Go.Sg
