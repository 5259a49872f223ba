import Derived.Shelf.SlSortCmp.WholeK
import Derived.Ground.SlsfProg
import Derived.Shelf.Small.Bits
import Derived.Shelf.Small.Strs
import Derived.Shelf.Strconv.Itoa0
import Derived.Shelf.Strings.Search1
import Derived.Shelf.Sort.Plain
import Derived.Ground.Names2Prog
import Derived.Shelf.Slices.Clone
import Derived.Shelf.Slices.CompactI
import Derived.Shelf.Slices.SearchI
import Derived.Shelf.Slices.In.SortNone
import Derived.Shelf.Slices.Empties
import Derived.Ground.SlgcProg
import Derived.Shelf.SlicesG.Cmp
import Derived.Shelf.SlSortCmp.Insertion
import Derived.Shelf.SlSortCmp.Insertion1
import Derived.Shelf.SlSortCmp.NoneTotal
import Derived.Sort.OwnSortedInts
import Derived.Test.YtknehchipcogdaaGreatDoorW5
/- A part of the proof of MissingCame. -/
set_option linter.unusedVariables false
set_option linter.unusedSimpArgs false
set_option maxRecDepth 100000
open List renaming length_cons→xA,not_mem_nil→jA,length_append→vA,length_nil→jB,toArray→kB,append_assoc→zC,mem_singleton→xC,mem_cons→kC,range→zD,perm_append_comm→jF
open Bool renaming and_eq_true→zB,or_eq_true→kD,not_eq_true'→kE
open Go.Sg.Rp renaming int→vB,str→YL,jx→ZF
open Go.Value renaming int→jC
open Go.IntKind renaming wrap→vC
open Go.Sg.Register renaming cells→qD,ok→vL
open Nat renaming le_refl→xE,zero_le→jH,lt_or_ge→zK
open Go.Sg.OSeat renaming cells→xF,enc→xV
open Go.Sg.SlC renaming nil→qH
open Go.Obj renaming cells→zH
open Go.Deferred renaming ofValue→xH
open Go.Result renaming andThen_ok→vK
open Go.Sg.HF renaming le→jL
open Go.Sem renaming run_bind→kL
open Go.Addr renaming add→xP
open Array renaming ext'→zR
open Go.Sg.St renaming start→Y7,after→Y8
open Go.Sg.Env renaming ev→Zy

namespace Go.Proofs
open Go.Shelf
def Tryz.OL:Go.Shelf.Ren:=⟨λ| 137=>419|217=>423|266=>425|n=>n,λ| 9=>9|5=>5|3=>3|n=>n,λ| n=>n⟩
theorem Tryz.lays137:Go.Proofs.Lays.n137 Tryz.prog Tryz.OL:={
 mixed:=by kernel_rfl
 f137:=Tryz.func419.trans (congrArg some (by kernel_rfl))
 f217:=Tryz.func423.trans (congrArg some (by kernel_rfl))
 f266:=Tryz.func425.trans (congrArg some (by kernel_rfl))
 t3:=Tryz.underlying3
 a3:=Tryz.isAgg3
 z3:=Tryz.sizeOf3
 v3:=Tryz.zeroValue3
 t5:=Tryz.underlying5
 a5:=Tryz.isAgg5
 z5:=Tryz.sizeOf5
 v5:=Tryz.zeroValue5
 t9:=Tryz.underlying9
 a9:=Tryz.isAgg9
 z9:=Tryz.sizeOf9
 v9:=Tryz.zeroValue9 }
open Go.RowKit in
theorem Tryz.strings_IndexByte(s:ByteArray)(c:Int)(w:World):
  Calls Tryz.prog 419 #[.string s,.int .u8 c] w λe w'=>e=.returned (.int .i64 (Lib.indexByte s.data.toList c.toNat.toUInt8))/\w'=w:=Any.strings_IndexByte Tryz.lays137 s c w
open Go.RowKit Go.Lib in
def Tryz.OK:Go.Shelf.Ren:=⟨λ| 189=>110|125=>184|257=>183|128=>283|129=>284|294=>274|295=>275|296=>276|297=>277|298=>278|299=>279|216=>280|300=>281|301=>282|328=>349|329=>350|330=>351|331=>352|332=>353|215=>161|343=>391|n=>n,λ| 28=>31|3=>3|46=>198|0=>0|51=>266|53=>268|4=>4|183=>296|182=>295|131=>139|5=>5|9=>9|218=>361|222=>365|228=>410|229=>155|n=>n,λ| n=>n⟩
theorem Tryz.lays189:Go.Proofs.Lays.n189 Tryz.prog Tryz.OK:={
 mixed:=by kernel_rfl
 f125:=Tryz.func184.trans (congrArg some (by kernel_rfl))
 f128:=Tryz.func283.trans (congrArg some (by kernel_rfl))
 f129:=Tryz.func284.trans (congrArg some (by kernel_rfl))
 f189:=Tryz.func110.trans (congrArg some (by kernel_rfl))
 f215:=Tryz.func161.trans (congrArg some (by kernel_rfl))
 f216:=Tryz.func280.trans (congrArg some (by kernel_rfl))
 f257:=Tryz.func183.trans (congrArg some (by kernel_rfl))
 f294:=Tryz.func274.trans (congrArg some (by kernel_rfl))
 f295:=Tryz.func275.trans (congrArg some (by kernel_rfl))
 f296:=Tryz.func276.trans (congrArg some (by kernel_rfl))
 f297:=Tryz.func277.trans (congrArg some (by kernel_rfl))
 f298:=Tryz.func278.trans (congrArg some (by kernel_rfl))
 f299:=Tryz.func279.trans (congrArg some (by kernel_rfl))
 f300:=Tryz.func281.trans (congrArg some (by kernel_rfl))
 f301:=Tryz.func282.trans (congrArg some (by kernel_rfl))
 f328:=Tryz.func349.trans (congrArg some (by kernel_rfl))
 f329:=Tryz.func350.trans (congrArg some (by kernel_rfl))
 f330:=Tryz.func351.trans (congrArg some (by kernel_rfl))
 f331:=Tryz.func352.trans (congrArg some (by kernel_rfl))
 f332:=Tryz.func353.trans (congrArg some (by kernel_rfl))
 f343:=Tryz.func391.trans (congrArg some (by kernel_rfl))
 t0:=Tryz.underlying0
 a0:=Tryz.isAgg0
 z0:=Tryz.sizeOf0
 v0:=Tryz.zeroValue0
 t3:=Tryz.underlying3
 a3:=Tryz.isAgg3
 z3:=Tryz.sizeOf3
 v3:=Tryz.zeroValue3
 t4:=Tryz.underlying4
 a4:=Tryz.isAgg4
 z4:=Tryz.sizeOf4
 v4:=Tryz.zeroValue4
 t5:=Tryz.underlying5
 a5:=Tryz.isAgg5
 z5:=Tryz.sizeOf5
 v5:=Tryz.zeroValue5
 t9:=Tryz.underlying9
 a9:=Tryz.isAgg9
 z9:=Tryz.sizeOf9
 v9:=Tryz.zeroValue9
 t28:=Tryz.underlying31
 a28:=Tryz.isAgg31
 z28:=Tryz.sizeOf31
 v28:=Tryz.zeroValue31
 t46:=Tryz.underlying198
 a46:=Tryz.isAgg198
 z46:=Tryz.sizeOf198
 v46:=Tryz.zeroValue198
 t51:=Tryz.underlying266
 a51:=Tryz.isAgg266
 z51:=Tryz.sizeOf266
 v51:=Tryz.zeroValue266
 t53:=Tryz.underlying268
 a53:=Tryz.isAgg268
 z53:=Tryz.sizeOf268
 v53:=Tryz.zeroValue268
 t131:=Tryz.underlying139
 a131:=Tryz.isAgg139
 z131:=Tryz.sizeOf139
 v131:=Tryz.zeroValue139
 t182:=Tryz.underlying295
 a182:=Tryz.isAgg295
 z182:=Tryz.sizeOf295
 v182:=Tryz.zeroValue295
 t183:=Tryz.underlying296
 a183:=Tryz.isAgg296
 z183:=Tryz.sizeOf296
 v183:=Tryz.zeroValue296
 t218:=Tryz.underlying361
 a218:=Tryz.isAgg361
 z218:=Tryz.sizeOf361
 v218:=Tryz.zeroValue361
 t222:=Tryz.underlying365
 a222:=Tryz.isAgg365
 z222:=Tryz.sizeOf365
 v222:=Tryz.zeroValue365
 t228:=Tryz.underlying410
 a228:=Tryz.isAgg410
 z228:=Tryz.sizeOf410
 v228:=Tryz.zeroValue410
 t229:=Tryz.underlying155
 a229:=Tryz.isAgg155
 z229:=Tryz.sizeOf155
 v229:=Tryz.zeroValue155 }
open Go.Sort Go.RowKit in
theorem Tryz.slices_Sort_int(blk off cap:Nat)(zs:List Int)(w:World)(hH:Holds (Value.int .i64) w blk off zs.toArray)(hblk:blk<w.heap.size)(hsz:zs.length<4611686018427387904):
  Calls Tryz.prog 110 #[.slice (some ⟨blk,off,none⟩) zs.length cap] w λe w'=>
   e=.returned (.tuple #[])/\∃n os,w'=grow (putRow (Value.int .i64) (Sort.ahead w n) blk off (zs.mergeSort λx y=>decide (x<=y)).toArray) os:=Any.slices_Sort_int Tryz.lays189 blk off cap zs w hH hblk hsz
def Tryz.KE:Go.Shelf.Ren:=⟨λ| 15=>79|n=>n,λ| 22=>31|3=>3|4=>4|n=>n,λ| n=>n⟩
theorem Tryz.laysNm215:Go.Proofs.Lays2.n15 Tryz.prog Tryz.KE:={
 mixed:=by kernel_rfl
 f15:=Tryz.func79.trans (congrArg some (by kernel_rfl))
 t3:=Tryz.underlying3
 a3:=Tryz.isAgg3
 z3:=Tryz.sizeOf3
 v3:=Tryz.zeroValue3
 t4:=Tryz.underlying4
 a4:=Tryz.isAgg4
 z4:=Tryz.sizeOf4
 v4:=Tryz.zeroValue4
 t22:=Tryz.underlying31
 a22:=Tryz.isAgg31
 z22:=Tryz.sizeOf31
 v22:=Tryz.zeroValue31
 i3:=by kernel_rfl }
open Go.RowKit Go.Lib in
theorem Tryz.slices_Clone_int(b off n c:Nat)(zs:List Int)(w:World)(hz:n<=zs.length)(hbig:n*8<=140737488355328)(hc:∀j,j<zs.length->w.cell? ⟨b,off+j,none⟩=some (.int .i64 (zs.getD j 0))):
  Calls Tryz.prog 79 #[.slice (some ⟨b,off,none⟩) n c] w λe w'=>∃v',e=.returned v'/\w'.ownsRow w.heap.size 3 1 v' n ((zs.take n).map (Value.int .i64))/\v'≠.slice none 0 0/\Below w.heap.size w w':=Any.slices_Clone_int Tryz.laysNm215 b off n c zs w hz hbig hc
open Go.RowKit Go.Lib in
theorem Tryz.slices_Clone_int_nil(n c:Nat)(w:World):
  Calls Tryz.prog 79 #[.slice none n c] w λe w'=>e=.returned (.slice none 0 0)/\w'=w:=Any.slices_Clone_int_nil Tryz.laysNm215 n c w
open Go.RowKit Go.Lib in
theorem Tryz.slices_Clone_int_zero(a:Addr)(c:Nat)(w:World):
  Calls Tryz.prog 79 #[.slice (some a) 0 c] w λe w'=>∃v',e=.returned v'/\w'.ownsRow w.heap.size 3 1 v' 0 []/\v'≠.slice none 0 0/\Below w.heap.size w w':=Any.slices_Clone_int_zero Tryz.laysNm215 a c w
def Tryz.KD:Go.Shelf.Ren:=⟨λ| 20=>111|n=>n,λ| 22=>31|3=>3|4=>4|0=>0|n=>n,λ| n=>n⟩
theorem Tryz.laysNm220:Go.Proofs.Lays2.n20 Tryz.prog Tryz.KD:={
 mixed:=by kernel_rfl
 f20:=Tryz.func111.trans (congrArg some (by kernel_rfl))
 t0:=Tryz.underlying0
 a0:=Tryz.isAgg0
 z0:=Tryz.sizeOf0
 v0:=Tryz.zeroValue0
 t3:=Tryz.underlying3
 a3:=Tryz.isAgg3
 z3:=Tryz.sizeOf3
 v3:=Tryz.zeroValue3
 t4:=Tryz.underlying4
 a4:=Tryz.isAgg4
 z4:=Tryz.sizeOf4
 v4:=Tryz.zeroValue4
 t22:=Tryz.underlying31
 a22:=Tryz.isAgg31
 z22:=Tryz.sizeOf31
 v22:=Tryz.zeroValue31
 i3:=by kernel_rfl }
open Go.RowKit Go.Lib Go.Sort in
open Go.RowKit Go.Lib Go.Sort in
theorem Tryz.slices_Compact_int(blk off cap:Nat)(zs:List Int)(w:World)(hH:Holds (Value.int .i64) w blk off zs.toArray)(hsz:zs.length<=9223372036854775807)(hcap:zs.length<=cap):
  Calls Tryz.prog 111 #[.slice (some ⟨blk,off,none⟩) zs.length cap] w λe w'=>e=.returned (.slice (some ⟨blk,off,none⟩) (Lib.compact zs).length cap)/\∃q,w'=putRow (Value.int .i64) (Sort.ahead w q) blk off (Lib.compact zs++List.replicate (zs.length-(Lib.compact zs).length) 0).toArray:=Any.slices_Compact_int Tryz.laysNm220 blk off cap zs w hH hsz hcap
open Go.RowKit Go.Lib Go.Sort in
theorem Tryz.slices_Compact_int_empty(a:Option Addr)(cap:Nat)(w:World):
  Calls Tryz.prog 111 #[.slice a 0 cap] w λe w'=>e=.returned (.slice a 0 cap)/\w'=w:=Any.slices_Compact_int_empty Tryz.laysNm220 a cap w
open Go.RowKit Go.Lib in
open Go.RowKit Go.Lib in
open Go.RowKit Go.Lib in
def Tryz.KC:Go.Shelf.Ren:=⟨λ| 25=>321|31=>280|32=>374|37=>161|n=>n,λ| 22=>31|3=>3|4=>4|40=>198|0=>0|n=>n,λ| n=>n⟩
theorem Tryz.laysNm225:Go.Proofs.Lays2.n25 Tryz.prog Tryz.KC:={
 mixed:=by kernel_rfl
 f25:=Tryz.func321.trans (congrArg some (by kernel_rfl))
 f31:=Tryz.func280.trans (congrArg some (by kernel_rfl))
 f32:=Tryz.func374.trans (congrArg some (by kernel_rfl))
 f37:=Tryz.func161.trans (congrArg some (by kernel_rfl))
 t0:=Tryz.underlying0
 a0:=Tryz.isAgg0
 z0:=Tryz.sizeOf0
 v0:=Tryz.zeroValue0
 t3:=Tryz.underlying3
 a3:=Tryz.isAgg3
 z3:=Tryz.sizeOf3
 v3:=Tryz.zeroValue3
 t4:=Tryz.underlying4
 a4:=Tryz.isAgg4
 z4:=Tryz.sizeOf4
 v4:=Tryz.zeroValue4
 t22:=Tryz.underlying31
 a22:=Tryz.isAgg31
 z22:=Tryz.sizeOf31
 v22:=Tryz.zeroValue31
 t40:=Tryz.underlying198
 a40:=Tryz.isAgg198
 z40:=Tryz.sizeOf198
 v40:=Tryz.zeroValue198 }
open Go.RowKit Go.Lib in
theorem Tryz.slices_BinarySearch_int(b off n c:Nat)(zs:List Int)(x:Int)(w:World)(hz:n<=zs.length)(hbig:n<4611686018427387904)(hc:∀j,j<zs.length->w.cell? ⟨b,off+j,none⟩=some (.int .i64 (zs.getD j 0)))(hs:(zs.take n).Pairwise (·<=·)):
  Calls Tryz.prog 321 #[.slice (some ⟨b,off,none⟩) n c,.int .i64 x] w λe w'=>e=.returned (.tuple #[.int .i64 ((zs.take n).countP (·<x):Nat),.bool ((zs.take n).contains x)])/\∃q,w'=w.drewN q:=Any.slices_BinarySearch_int Tryz.laysNm225 b off n c zs x w hz hbig hc hs
open Go.RowKit Go.Sort in
theorem Tryz.slices_Sort_int_none(p:Option Addr)(cap:Nat)(w:World):
  Calls Tryz.prog 110 #[.slice p 0 cap] w λe w'=>e=.returned (.tuple #[])/\w'=w:=Any.slices_Sort_int_none Tryz.lays189 p cap w
open Go.RowKit Go.Lib in
theorem Tryz.slices_BinarySearch_int_empty(a:Option Addr)(c:Nat)(x:Int)(w:World):
  Calls Tryz.prog 321 #[.slice a 0 c,.int .i64 x] w λe w'=>e=.returned (.tuple #[.int .i64 0,.bool false])/\w'=w:=Any.slices_BinarySearch_int_empty Tryz.laysNm225 a c x w
def Tryz.Dc:Go.Shelf.Ren:=⟨λ| 7=>161|n=>n,λ| 22=>3|4=>4|n=>n,λ| n=>n⟩
theorem Tryz.IS:Go.Proofs.SlLaysC2.n7 Tryz.prog Tryz.Dc:={
 mixed:=by kernel_rfl
 f7:=⟨Tryz.f161.name,by decide,Tryz.func161.trans (congrArg some (by kernel_rfl))⟩
 t4:=Tryz.underlying4
 a4:=Tryz.isAgg4
 z4:=Tryz.sizeOf4
 v4:=Tryz.zeroValue4
 t22:=Tryz.underlying3
 a22:=Tryz.isAgg3
 z22:=Tryz.sizeOf3
 v22:=Tryz.zeroValue3 }
open Go.Lib in
theorem Tryz.cmp_isNaN_int(x:Int)(w:World):
  Calls Tryz.prog 161 #[.int .i64 x] w λe w'=>e=.returned (.bool false)/\w'=w:=AnyG.cmp_isNaN_int Tryz.IS x w
def Tryz.D9:Go.Shelf.Ren:=⟨λ| 5=>86|7=>161|n=>n,λ| 22=>3|3=>3|4=>4|n=>n,λ| n=>n⟩
theorem Tryz.KB:Go.Proofs.SlLaysC2.n5 Tryz.prog Tryz.D9:={
 mixed:=by kernel_rfl
 f5:=⟨Tryz.f86.name,by decide,Tryz.func86.trans (congrArg some (by kernel_rfl))⟩
 f7:=⟨Tryz.f161.name,by decide,Tryz.func161.trans (congrArg some (by kernel_rfl))⟩
 t3:=Tryz.underlying3
 a3:=Tryz.isAgg3
 z3:=Tryz.sizeOf3
 v3:=Tryz.zeroValue3
 t4:=Tryz.underlying4
 a4:=Tryz.isAgg4
 z4:=Tryz.sizeOf4
 v4:=Tryz.zeroValue4
 t22:=Tryz.underlying3
 a22:=Tryz.isAgg3
 z22:=Tryz.sizeOf3
 v22:=Tryz.zeroValue3 }
open Go.Lib in
theorem Tryz.cmp_Compare_int(x y:Int)(w:World):
  Calls Tryz.prog 86 #[.int .i64 x,.int .i64 y] w λe w'=>e=.returned (.int .i64 (Lib.compareInt x y))/\w'=w:=AnyG.cmp_Compare_int Tryz.KB x y w
open Go.RowKit Go.Lib Go.Sort in
def Tryz.Mm:Go.Shelf.Ren:=⟨λ| 6=>387|15=>184|14=>404|28=>283|29=>284|20=>411|21=>412|22=>413|23=>414|24=>415|25=>416|26=>417|27=>418|46=>420|47=>350|48=>351|49=>421|50=>422|57=>424|n=>n,λ| 22=>351|24=>325|25=>350|3=>3|39=>198|0=>0|53=>266|55=>268|4=>4|46=>296|45=>295|50=>139|5=>5|9=>9|66=>361|70=>365|76=>410|77=>155|n=>n,λ| n=>n⟩
theorem Tryz.sortSeat:Go.Proofs.SlLaysF0.n6 Tryz.prog Tryz.Mm:={
 mixed:=by kernel_rfl
 f6:=⟨Tryz.f387.name,by decide,Tryz.func387.trans (congrArg some (by kernel_rfl))⟩
 f14:=⟨Tryz.f404.name,by decide,Tryz.func404.trans (congrArg some (by kernel_rfl))⟩
 f15:=Tryz.func184.trans (congrArg some (by kernel_rfl))
 f20:=⟨Tryz.f411.name,by decide,Tryz.func411.trans (congrArg some (by kernel_rfl))⟩
 f21:=⟨Tryz.f412.name,by decide,Tryz.func412.trans (congrArg some (by kernel_rfl))⟩
 f22:=⟨Tryz.f413.name,by decide,Tryz.func413.trans (congrArg some (by kernel_rfl))⟩
 f23:=⟨Tryz.f414.name,by decide,Tryz.func414.trans (congrArg some (by kernel_rfl))⟩
 f24:=⟨Tryz.f415.name,by decide,Tryz.func415.trans (congrArg some (by kernel_rfl))⟩
 f25:=⟨Tryz.f416.name,by decide,Tryz.func416.trans (congrArg some (by kernel_rfl))⟩
 f26:=⟨Tryz.f417.name,by decide,Tryz.func417.trans (congrArg some (by kernel_rfl))⟩
 f27:=⟨Tryz.f418.name,by decide,Tryz.func418.trans (congrArg some (by kernel_rfl))⟩
 f28:=Tryz.func283.trans (congrArg some (by kernel_rfl))
 f29:=Tryz.func284.trans (congrArg some (by kernel_rfl))
 f46:=⟨Tryz.f420.name,by decide,Tryz.func420.trans (congrArg some (by kernel_rfl))⟩
 f47:=Tryz.func350.trans (congrArg some (by kernel_rfl))
 f48:=Tryz.func351.trans (congrArg some (by kernel_rfl))
 f49:=⟨Tryz.f421.name,by decide,Tryz.func421.trans (congrArg some (by kernel_rfl))⟩
 f50:=⟨Tryz.f422.name,by decide,Tryz.func422.trans (congrArg some (by kernel_rfl))⟩
 f57:=⟨Tryz.f424.name,by decide,Tryz.func424.trans (congrArg some (by kernel_rfl))⟩
 t0:=Tryz.underlying0
 a0:=Tryz.isAgg0
 z0:=Tryz.sizeOf0
 v0:=Tryz.zeroValue0
 t3:=Tryz.underlying3
 a3:=Tryz.isAgg3
 z3:=Tryz.sizeOf3
 v3:=Tryz.zeroValue3
 t4:=Tryz.underlying4
 a4:=Tryz.isAgg4
 z4:=Tryz.sizeOf4
 v4:=Tryz.zeroValue4
 t5:=Tryz.underlying5
 a5:=Tryz.isAgg5
 z5:=Tryz.sizeOf5
 v5:=Tryz.zeroValue5
 t9:=Tryz.underlying9
 a9:=Tryz.isAgg9
 z9:=Tryz.sizeOf9
 v9:=Tryz.zeroValue9
 t22:=Tryz.underlying351
 a22:=Tryz.isAgg351
 z22:=Tryz.sizeOf351
 v22:=Tryz.zeroValue351
 t25:=Tryz.underlying350
 a25:=Tryz.isAgg350
 z25:=Tryz.sizeOf350
 v25:=Tryz.zeroValue350
 t39:=Tryz.underlying198
 a39:=Tryz.isAgg198
 z39:=Tryz.sizeOf198
 v39:=Tryz.zeroValue198
 t45:=Tryz.underlying295
 a45:=Tryz.isAgg295
 z45:=Tryz.sizeOf295
 v45:=Tryz.zeroValue295
 t46:=Tryz.underlying296
 a46:=Tryz.isAgg296
 z46:=Tryz.sizeOf296
 v46:=Tryz.zeroValue296
 t50:=Tryz.underlying139
 a50:=Tryz.isAgg139
 z50:=Tryz.sizeOf139
 v50:=Tryz.zeroValue139
 t53:=Tryz.underlying266
 a53:=Tryz.isAgg266
 z53:=Tryz.sizeOf266
 v53:=Tryz.zeroValue266
 t55:=Tryz.underlying268
 a55:=Tryz.isAgg268
 z55:=Tryz.sizeOf268
 v55:=Tryz.zeroValue268
 t66:=Tryz.underlying361
 a66:=Tryz.isAgg361
 z66:=Tryz.sizeOf361
 v66:=Tryz.zeroValue361
 t70:=Tryz.underlying365
 a70:=Tryz.isAgg365
 z70:=Tryz.sizeOf365
 v70:=Tryz.zeroValue365
 t76:=Tryz.underlying410
 a76:=Tryz.isAgg410
 z76:=Tryz.sizeOf410
 v76:=Tryz.zeroValue410
 t77:=Tryz.underlying155
 a77:=Tryz.isAgg155
 z77:=Tryz.sizeOf155
 v77:=Tryz.zeroValue155 }
end Go.Proofs
namespace Go.Sg
variable {ass:Array Operand}{ats:Array TypeId}{f:FuncId}{h:HF}{v:Go.Value}{vs:List Go.Value}{w':World}{xs:List Int}
section
open Go.Proofs Go.Proofs.Tryz Go.RowKit
theorem St.T4{w:World}(hp:Pre h [] w)(hb:Below w.heap.size w w'):St ⟨w,h,[]⟩ h [] w':=
  ⟨hb.os,hb.tape,hb.output,hb.size,λb hlt _=>hb.block b hlt,λ_ _ e=>e,λ_ _=>rfl,λb o e=>by rw[hb.block b (ie (hp.imm b o e))];exact hp.imm b o e,
   λ_ hq=>(jA hq).elim,List.nodup_nil,λ_ hq=>(jA hq).elim,λ_ hq=>(jA hq).elim⟩
theorem St.So{w:World}{g:Nat}{o:Obj}(hp:Pre h [] w)(hb:Below w.heap.size w w')(hg:w.heap.size<=g)(ho:w'.heap[g]? = some o):St ⟨w,h,[]⟩ h [(g,o)] w':=
  ⟨hb.os,hb.tape,hb.output,hb.size,λb hlt _=>hb.block b hlt,λ_ _ e=>e,λ_ _=>rfl,λb o e=>by rw[hb.block b (ie (hp.imm b o e))];exact hp.imm b o e,
   λq hq=>by rw[xC.1 hq];exact ho,by simp,λq hq=>by
     rw[xC.1 hq]
     show h g=none
     cases hh:h g with
     |none=>rfl
     |some o'=>have:=ie (hp.imm g o' hh);omega,λq hq=>by rw[xC.1 hq];exact .inl hg⟩
theorem Rk{b:Option Addr}(hs:SlB vB h b xs)(hne:xs≠[]):∃g off,b=some ⟨g,off,none⟩/\∀w,Pre h [] w->∀j,j<xs.length->w.cell? ⟨g,off+j,none⟩=some (.int .i64 (xs.getD j 0)):=by
 obtain⟨x0,r,rfl⟩:∃x r,xs=x::r:=by cases xs with
  |nil=>exact(hne rfl).elim
  |cons x r=>exact⟨x,r,rfl⟩
 obtain⟨p,cs,rfl,hA,_,_⟩:=hs.2 0 x0 rfl
 have hsp:p.spot=none:=by
  obtain⟨_,_,_,_,h2,_⟩:=hA
  simpa[xP]using h2
 obtain⟨g,off,sp⟩:=p
 simp only at hsp
 subst hsp
 refine⟨g,off,rfl,λw hp j hj=>?_⟩
 obtain⟨p',cs',e,hA',hl,hr⟩:=hs.2 j ((x0::r)[j]) (by rw[List.getElem?_eq_getElem hj])
 cases e
 have hcs:cs'=[.int .i64 ((x0::r)[j])]:=hr
 subst hcs
 have hc:=hA'.cell (X:=⟨w,h,[]⟩) (L:=[]) (Y7 hp) (j:=0) (v:=.int .i64 ((x0::r)[j])) rfl
 have ha:((⟨g,off,none⟩:Addr).add (j*Rp.int.sz)).add 0=⟨g,off+j,none⟩:=by
  have h1:j*Rp.int.sz=j:=Nat.mul_one j
  rw[h1]
  by_cases e0:j=0
  .subst e0;simp[xP]
  .simp[xP,e0]
 grind
theorem po(h:HF)(x:List Int)(Wr:Option Addr)(Wa:Nat)(target:Int)(hx:SlC vB h Wr Wa x)(hs:x.Pairwise (·<=·))(hsz:x.length<=2000000):
  Ret prog 321 [.slice Wr x.length Wa,.int .i64 target] h (.tuple #[.int .i64 (slices_BinarySearch_int x target).1,.bool (slices_BinarySearch_int x target).2]):=by
 intro w hp
 by_cases hne:x=[]
 .subst hne
  refine(jW (Tryz.slices_BinarySearch_int_empty Wr Wa target w) (λw' hw=>by cases hw.1)).mono ?_
  rintro e w' ⟨rfl,rfl⟩
  exact⟨h,[],Y7 hp,rfl,rfl,rfl⟩
 .obtain⟨g,off,rfl,hc⟩:=Rk hx.1 hne
  refine(jW (Tryz.slices_BinarySearch_int g off x.length Wa x target w (xE _) (by omega) (hc w hp) (by simpa using hs)) (λw' hw=>by cases hw.1)).mono ?_
  rintro e w' ⟨rfl,q,rfl⟩
  refine⟨h,[],(Y7 hp).drew _,?_,rfl,rfl⟩
  simp[bsI,slices_BinarySearch_int]
abbrev SO{α : Type}(P:Program)(f:FuncId)(args:List Value)(h:HF)(R:Rp α)(E:TypeId)(xs:List α):Prop:=
 oX P f args.toArray h [] (λr h' G=>h'=h/\∃b c,r=.returned (.slice b xs.length c)/\cI R E h xs b c G)
theorem Lt{w:World}(hp:Pre h [] w)(hb:Below w.heap.size w w')(ho:w'.ownsRow w.heap.size 3 1 v xs.length (xs.map (jC .i64))):
  ∃h' G,St ⟨w,h,[]⟩ h' G w'/\h'=h/\∃b c,Ending.returned v=.returned (.slice b xs.length c)/\cI vB 3 h xs b c G:=by
 obtain⟨_,⟨rfl,hn⟩|⟨g,cap,cur,rfl,hg,hh,h1,h2,h3,h4⟩⟩:=ho
 .have:xs=[]:=List.length_eq_zero_iff.1 hn
  subst this
  exact⟨h,[],St.T4 hp hb,rfl,none,0,rfl,cI.nil⟩
 .refine⟨h,_,St.So hp hb hg hh,rfl,some ⟨g,0,none⟩,cap,rfl,.inr ⟨g,xs.map (jC .i64),cur.toList.drop xs.length,rfl,?_,?_,h1,?_,?_⟩⟩
  .have:∀l:List Int,dC vB h (l.map (jC .i64)) l:=by
    intro l
    induction l with
    |nil=>rfl
    |cons y l ih=>exact⟨[.int .i64 y],l.map (jC .i64),rfl,rfl,rfl,ih⟩
   exact this xs
  .have h5:xs.map (jC .i64)++cur.toList.drop xs.length=cur.toList:=by
    rw[←h4,Nat.mul_one];exact List.take_append_drop _ _
   rw[h5];show _=cap*1;simpa using h3
  .have:maxLen=9223372036854775807:=by rfl
   omega
  .have h5:xs.map (jC .i64)++cur.toList.drop xs.length=cur.toList:=by
    rw[←h4,Nat.mul_one];exact List.take_append_drop _ _
   rw[h5]
theorem mW(h:HF)(xs:List Int)(b:Option Addr)(c:Nat)(G:LH)(hG:cI vB 3 h xs b c G)(hsz:xs.length<=1000000000000):
  oX prog 110 [.slice b xs.length c].toArray h G (λr h' G'=>h'=h/\r=.returned (.tuple #[])/\cI vB 3 h (sortI xs) b c G'):=by
 intro w hp
 rcases hG with⟨rfl,rfl,rfl,rfl⟩|⟨bk,cl,sp,rfl,hcl,hlen,hcap,hmax,rfl⟩
 .refine(jW (Tryz.slices_Sort_int_none none 0 w) (λw' hw=>by cases hw.1)).mono ?_
  rintro e w' ⟨rfl,rfl⟩
  exact⟨h,[],Y7 hp,rfl,rfl,by rw[show sortI []=[]from by simp[sortI]];exact cI.nil⟩
 .have hb:=hp.own _ (xC.2 rfl)
  simp only at hb
  have hcl':cl=xs.map (jC .i64):=by
   clear hlen hb hp hcap hmax hsz
   induction xs generalizing cl with
   |nil=>exact hcl
   |cons y l ih=>
    obtain⟨cs,r,rfl,_,hr,hl⟩:=hcl
    have:cs=[.int .i64 y]:=hr
    rw[this,ih r hl];rfl
  subst hcl'
  have hH:Sort.Holds (jC .i64) w bk 0 xs.toArray:=by
   refine holds_of_blockI (cur:=(xs.map (jC .i64)++sp).toArray) (e:=3) hb ?_
   simp
  refine(jW (Tryz.slices_Sort_int bk 0 c xs w hH (ie hb) (by omega)) (λw' hw=>by cases hw.1)).mono ?_
  rw[MV]
  rintro e w' ⟨rfl,n,os,rfl⟩
  obtain⟨g1,g2,g3,g4,g5⟩:=grownBy_sortedI (w:=w) (g:=bk) (n:=n) (os:=os) (sortI xs).toArray
  have hnew:=heap_sortedI (w:=w) (g:=bk) (n:=n) (os:=os) (sortI xs).toArray hb
  have htake:=take_putCellsI (xs.map (jC .i64)++sp).toArray (sortI xs) (by rw[iE];simp)
  refine⟨h,[(bk,.cells (Sort.putCells (jC .i64) 0 (sortI xs).toArray (xs.map (jC .i64)++sp).toArray) 3 (0,0))],⟨g1,g2,g3,g4,λk hk hM=>g5 k hk (λe=>hM (by cases e;simp)),λ_ _ e=>e,λ_ _=>rfl,λk o e=>?_,λq hq=>?_,?_,?_,?_⟩,rfl,rfl,?_⟩
  .have hne:k≠bk:=λe'=>by
    have:=hp.free _ (xC.2 rfl)
    simp only at this
    rw[e',this]at e;cases e
   exact(g5 k (ie (hp.imm k o e)) (λe'=>by cases e';exact hne rfl)).trans (hp.imm k o e)
  .rw[xC.1 hq];exact hnew
  .simp
  .intro q hq;rw[xC.1 hq];exact hp.free (bk,zH (xs.map (jC .i64)++sp).toArray 3 (0,0)) (xC.2 rfl)
  .intro q hq;rw[xC.1 hq];exact .inr (by simp)
  .refine .inr ⟨bk,(sortI xs).map (jC .i64),(Sort.putCells (jC .i64) 0 (sortI xs).toArray (xs.map (jC .i64)++sp).toArray).toList.drop xs.length,rfl,?_,?_,by rw[iE];exact hcap,by rw[iE];exact hmax,?_⟩
   .have:∀l:List Int,dC vB h (l.map (jC .i64)) l:=by
     intro l
     induction l with
     |nil=>rfl
     |cons y l ih=>exact⟨[.int .i64 y],l.map (jC .i64),rfl,rfl,rfl,ih⟩
    exact this _
   .rw[←htake,iE,List.take_append_drop]
    simpa[Sort.putCells]using hlen
   .rw[←htake,iE,List.take_append_drop]
section steps
variable {P:Program} {b:Frame} {n:Nat} {ops:Array Oper} {F:List Frame->(Machine->Prop)->Prop} {e:Env} {ds:List Deferred} {X:Cx} {h:HF} {L:LH} {K:Env->HF->LH->Prop}
variable {d:Option Nat} {ty:TypeId} {pos:String} {af:Array Edge} {g:Option (Nat×Bool)}
theorem DQ{α:Type}{R:Rp α}{E:TypeId}{xs:List α}(hc:∀args w,(callFunc f args).run P w=.ok (.enter f args) w)(hs:SO P f vs h R E xs)(hvs:ass.toList.map e.ev=vs)(t':∀bb c G,cI R E h xs bb c G->K (pute e d (.slice bb xs.length c)) h (L++G))(hg:guardB ops e ⟨d,.call ⟨.value (.func f),ass,ats⟩,ty,pos,af,g⟩=true:=by rfl):
  Stp P b n ops F ds X ⟨d,.call ⟨.value (.func f),ass,ats⟩,ty,pos,af,g⟩ e h L K:=by
 unfold Stp
 rw[if_pos hg]
 intro w hw
 have harr:ass.map e.ev=vs.toArray:=zR (by simp[←hvs])
 have hr:(execOp e.ev ⟨d,.call ⟨.value (.func f),ass,ats⟩,ty,pos,af,g⟩).run P w=.ok (.enter f vs.toArray) w:=by
  simp[execOp,resolve,Zy,xH,invoke,harr,hc]
 rw[hr]
 refine mn (by simp) (j8 (sK.mono (hs w (hw.sub (List.nil_sublist _)).pre) ?_))
 rintro x w' ⟨h',B,hst,rfl,bb,c,rfl,hG⟩
 exact⟨h',_,(Y8 (A:=[]) (F:=L) hw hst).perm jF,t' bb c B hG⟩
theorem ni(A0 G Q:LH){Φ:LH->Prop}(hc:∀args w,(callFunc f args).run P w=.ok (.enter f args) w)(hs:oX P f vs.toArray h G (λr h' G'=>h'=h/\r=.returned v/\Φ G'))(hL:L=A0++(G++Q))(hvs:ass.toList.map e.ev=vs)(t':∀G',Φ G'->K (pute e d v) h (A0++(G'++Q)))(hg:guardB ops e ⟨d,.call ⟨.value (.func f),ass,ats⟩,ty,pos,af,g⟩=true:=by rfl):
  Stp P b n ops F ds X ⟨d,.call ⟨.value (.func f),ass,ats⟩,ty,pos,af,g⟩ e h L K:=by
 unfold Stp
 rw[if_pos hg]
 intro w hw
 subst hL
 have hp:∀G:LH,(A0++(G++Q)).Perm (G++(A0++Q)):=λG=>by
  rw[←zC,←zC];exact List.Perm.append_right Q jF
 have hw':=hw.perm (hp G)
 have harr:ass.map e.ev=vs.toArray:=zR (by simp[←hvs])
 have hr:(execOp e.ev ⟨d,.call ⟨.value (.func f),ass,ats⟩,ty,pos,af,g⟩).run P w=.ok (.enter f vs.toArray) w:=by
  simp[execOp,resolve,Zy,xH,invoke,harr,hc]
 rw[hr]
 refine mn (by simp) (j8 (sK.mono (hs w hw'.pre.left) ?_))
 rintro x w' ⟨h',B,hst,rfl,rfl,hG⟩
 exact⟨h',_,(Y8 (A:=G) (F:=A0++Q) hw' hst).perm (hp B).symm,t' B hG⟩
end steps
end
section
open Go.Proofs Go.Proofs.Tryz
instance kC321:Ct 321:=⟨_,call321,@po⟩
end
section
open Go.Proofs Go.Proofs.Tryz
set_option maxHeartbeats 2000000
theorem D4(h gj low high)  : Ret prog 204 [I gj,I low,I high] h (.bool (gP gj low high)):=by
 refine sVv func204 ntmps204 ?_
 generalize hz:(gP gj low high)=z
 exact W
instance kC204:Ct 204:=⟨_,call204,@D4⟩
theorem D5(h gj)  : Ret prog 205 [I gj] h (.bool (gQ gj)):=by
 refine sVv func205 ntmps205 ?_
 generalize hz:(gQ gj)=z
 exact W
instance kC205:Ct 205:=⟨_,call205,@D5⟩
theorem Cy(h gj)  : Ret prog 206 [I gj] h (.bool (iJ gj)):=by
 refine sVv func206 ntmps206 ?_
 generalize hz:(iJ gj)=z
 exact W
instance kC206:Ct 206:=⟨_,call206,@Cy⟩
theorem Cw(h gj)  : Ret prog 207 [I gj] h (.bool (ky gj)):=by
 refine sVv func207 ntmps207 ?_
 generalize hz:(ky gj)=z
 exact W
instance kC207:Ct 207:=⟨_,call207,@Cw⟩
theorem Fe(h)(x:aQ)  : Ret prog 124 [.agg (aQ.cells x).toArray] h (.bool (qb x)):=by
 refine sVv func124 ntmps124 ?_
 generalize hz:(qb x)=z
 exact W
instance kC124:Ct 124:=⟨_,call124,@Fe⟩
theorem yu(h l fm fj)(hl:SlC aQ.rp h fm fj l):Ret prog 45 [.slice fm l.length fj] h (I (dX l)):=by
 refine sVv func45 ntmps45 ?_
 generalize hz:(dX l)=z
 have HA:=h1 [9,10] 11 (λw=>[(3,I w)]) (λs1 i w=>(dX.L1 (dX.K1)) s1 w)
 exact W
instance kC45:Ct 45:=⟨_,call45,@yu⟩
theorem Dm(h gj low high)  : Ret prog 208 [I gj,I low,I high] h (.bool (dw gj low high)):=by
 refine sVv func208 ntmps208 ?_
 generalize hz:(dw gj low high)=z
 exact W
instance kC208:Ct 208:=⟨_,call208,@Dm⟩
theorem Dn(h gj)  : Ret prog 209 [I gj] h (.bool (i8 gj)):=by
 refine sVv func209 ntmps209 ?_
 generalize hz:(i8 gj)=z
 exact W
instance kC209:Ct 209:=⟨_,call209,@Dn⟩
theorem BG(h gj)  : Ret prog 210 [I gj] h (.bool (ip gj)):=by
 refine sVv func210 ntmps210 ?_
 generalize hz:(ip gj)=z
 exact W
instance kC210:Ct 210:=⟨_,call210,@BG⟩
theorem EB(h)(x:bj)  : Ret prog 125 [.agg (bj.cells x).toArray] h (.bool (pD x)):=by
 refine sVv func125 ntmps125 ?_
 generalize hz:(pD x)=z
 exact W
instance kC125:Ct 125:=⟨_,call125,@EB⟩
theorem xd(h l fm fj)(hl:SlC bj.rp h fm fj l):Ret prog 46 [.slice fm l.length fj] h (I (dR l)):=by
 refine sVv func46 ntmps46 ?_
 generalize hz:(dR l)=z
 have HA:=h1 [9,10] 11 (λw=>[(3,I w)]) (λs1 i w=>(dR.L1 (dR.K1)) s1 w)
 exact W
instance kC46:Ct 46:=⟨_,call46,@xd⟩
theorem CC(h gj dY)  : Ret prog 211 [I gj,I dY] h (.bool (eX gj dY)):=by
 refine sVv func211 ntmps211 ?_
 generalize hz:(eX gj dY)=z
 exact W
instance kC211:Ct 211:=⟨_,call211,@CC⟩
theorem Df(h)(x:aG)  : Ret prog 126 [.agg (aG.cells x).toArray] h (.bool (oC x)):=by
 refine sVv func126 ntmps126 ?_
 generalize hz:(oC x)=z
 exact W
instance kC126:Ct 126:=⟨_,call126,@Df⟩
theorem wi(h l fm fj)(hl:SlC aG.rp h fm fj l):Ret prog 47 [.slice fm l.length fj] h (I (du l)):=by
 refine sVv func47 ntmps47 ?_
 generalize hz:(du l)=z
 have HA:=h1 [9,10] 11 (λw=>[(3,I w)]) (λs1 i w=>(du.L1 (du.K1)) s1 w)
 exact W
instance kC47:Ct 47:=⟨_,call47,@wi⟩
theorem re(h s qy pZ)(f:(Int->Bool))(f_v)(hs:SlC vB h qy pZ s)(hf:∀(h':HF)(fh:Int),jL h h'->ra prog f_v [I fh] h' [] (.bool (f fh))):Ret prog 160 [.slice qy s.length pZ,f_v] h (I (cK s f)):=by
 refine sVv func160 ntmps160 ?_
 generalize hz:(cK s f)=z
 have HA:=h0 [0,1,7] 8 (λs1 i=>(cK.L1 f (cK.K1)) s1 i)
 exact W
instance kC160:Ct 160:=⟨_,call160,@re⟩
theorem pm(h s qy pZ)(f:(Int->Bool))(f_v)(hs:SlC vB h qy pZ s)(hf:∀(h':HF)(fh:Int),jL h h'->ra prog f_v [I fh] h' [] (.bool (f fh))):Ret prog 76 [.slice qy s.length pZ,f_v] h (.bool (eJ s f)):=by
 refine sVv func76 ntmps76 ?_
 generalize hz:(eJ s f)=z
 exact W
instance kC76:Ct 76:=⟨_,call76,@pm⟩
theorem BO(h gj v0 v0_q v1 v1_q)(av0:At h v0_q [I v0])(av1:At h v1_q [I v1]):Ret prog 172 [I gj,.pointer (some v0_q),.pointer (some v1_q)] h (.bool (lq gj v0 v1)):=by
 refine sVv func172 ntmps172 ?_
 generalize hz:(lq gj v0 v1)=z
 exact W
instance kC172:Ct 172:=⟨_,call172,@BO⟩
theorem ow(h least most l fm fj)(hl:SlC vB h fm fj l):Ret prog 99 [I least,I most,.slice fm l.length fj] h (.bool (cC least most l)):=by
 refine sVv func99 ntmps99 ?_
 generalize hz:(cC least most l)=z
 exact W
instance kC99:Ct 99:=⟨_,Th,@ow⟩
theorem FA(h)(x:Budget)  : Ret prog 127 [.agg (Budget.cells x).toArray] h (.bool (lW x)):=by
 refine sVv func127 ntmps127 ?_
 generalize hz:(lW x)=z
 exact W
instance kC127:Ct 127:=⟨_,call127,@FA⟩
theorem sU(h l fm fj)(hl:SlC Budget.rp h fm fj l):Ret prog 48 [.slice fm l.length fj] h (I (bC l)):=by
 refine sVv func48 ntmps48 ?_
 generalize hz:(bC l)=z
 have HA:=h1 [9,10] 11 (λw=>[(3,I w)]) (λs1 i w=>(bC.L1 (bC.K1)) s1 w)
 exact W
instance kC48:Ct 48:=⟨_,call48,@sU⟩
theorem od(h gj low high)  : Ret prog 128 [I gj,I low,I high] h (.bool (ba gj low high)):=by
 refine sVv func128 ntmps128 ?_
 generalize hz:(ba gj low high)=z
 exact W
instance kC128:Ct 128:=⟨_,Tg,@od⟩
theorem R2{n a b:Int}(h:ba n a b=true):a<=n/\n<=b:=by simpa[ba]using h
theorem AV(rec:ao->Int->List gu)(h)(x:ao)(gU x_q)(depth:Int)(depth_q)(hrec:∀(h:HF)(qx:ao)(mt:dJ)(qdepth:Int)(_:ao.ok h qx mt)(_:0<=qdepth/\qdepth+qx.dep<=2000000)(_:qx.dep<x.dep),jv prog 307 [.agg (ao.cells qx mt).toArray,I qdepth] h (λv h'=>∃rv0:Value,v=rv0/\Itr prog rv0 yA (rec qx qdepth) h'))(hx:ao.ok h x gU)(ax:At h x_q (ao.cells x gU))(adepth:At h depth_q [I depth])(hb:0<=depth/\depth+x.dep<=2000000):Itr prog (.func (.func 368) #[] (kB [.pointer (some x_q),.pointer (some depth_q)])) yA (aT.F rec x depth) h:=by
 refine sR call368 ?_
 intro yf ya yb C Sp Pn h1 A dN m1 m2 m3 hC hy
 refine mP KX U ntmps368 U λX hXM hX=>?_
 have hs0:aT.F rec x depth=[]++aT.F rec x depth:=rfl
 refine sr (iA (λb1=>qL 5 [0] U (gV ty59 (ax.mono dN) U U (fV ty3 (adepth.mono dN) U (aM (ja (cells:=[I x.Kind,I x.N,I x.No,.string x.Name,.slice gU.pE x.L.length gU.pF,I depth]) (places:=[(0,5),(5,1)]) underlying316 zc316 kr kr ?_))))))
 have hx1:aT.F rec x depth=[]++((gu.mk (ao.mk x.Kind x.N x.No x.Name x.L) depth)::((aT.L1 rec depth (aT.K1)) x.L)):=hs0
 let z1:Nat×Obj:=(b1,O [.func yf ya yb] 382)
 refine aM (qn ([z1]) A ap (hy [] (gu.mk (ao.mk x.Kind x.N x.No x.Name x.L) depth) _ _ _ _ hx1 lf hC ⟨(zz.mk (dJ.mk gU.pE gU.pF)),U,(show gu.ok h1 (gu.mk (ao.mk x.Kind x.N x.No x.Name x.L) depth) (zz.mk (dJ.mk gU.pE gU.pF))from⟨(show ao.ok h1 (ao.mk x.Kind x.N x.No x.Name x.L) (dJ.mk gU.pE gU.pF)from ao.ok.of (hx.list.mono ao.aK dN))⟩)⟩) U U (λh2 A1 hle1 hC1=>?_) (λh3 A2 hle2 hS1=>?_) (λch1 h4 A3 hle3 hP1 e=>mz (xO [] (A:=A3) KX (List.sublist_append_right _ _) hP1)))
 .have hs1:aT.F rec x depth=[(gu.mk (ao.mk x.Kind x.N x.No x.Name x.L) depth)]++(((aT.L1 rec depth (aT.K1)) x.L)):=hx1.trans ap
  refine qL 7 [] U (nv (j:=4) ty57 (ax.mono (dN.t hle1)) U U (qL 3 [] U (ij (dV (L':=[z1]++(A1++(markB []))) ap ?_))))
  refine yS (ι:=Nat×List gu×LH×List Nat×HF) (λi=>[]) (λi=>marks i.2.2.2.1) (λi=>i.2.2.2.2) (λi=>[z1]++(i.2.2.1++(markB i.2.2.2.1))) (λi=>i.1<=x.L.length/\aT.F rec x depth=i.2.1++((aT.K1))/\C i.2.1 i.2.2.2.2 i.2.2.1/\jL h2 i.2.2.2.2) ?_ (λhx1=>?_)
  .rintro⟨i1,dn1,A1_,rs1,hh1⟩ ⟨m4,hs2,hC1_,hl1⟩ e
   refine dV (L':=([z1]++(A1_))++markB rs1) ap ?_
   have hs3:aT.F rec x depth=dn1:=hs2.trans (List.append_nil _)
   exact Bo rs1 (A:=A1_) KX U js (.inl (hs3▸hC1_))
  refine Dy (ι:=Nat×List gu×LH×List Nat×HF×List ao) (λi=>[(2,.pointer (some depth_q)),(3,Q b1),(14,.slice gU.pE x.L.length gU.pF),(15,I (x.L.length:Int)),(16,I (i.1:Int))]) (λi=>marks i.2.2.2.1) (λi=>i.2.2.2.2.1) (λi=>[z1]++(i.2.2.1++(markB i.2.2.2.1))) (λi=>x.L.drop i.1=i.2.2.2.2.2/\i.1<=x.L.length/\aT.F rec x depth=i.2.1++((aT.L1 rec depth (aT.K1)) i.2.2.2.2.2)/\C i.2.1 i.2.2.2.2.1 i.2.2.1/\jL h2 i.2.2.2.2.1) (λi=>i.2.2.2.2.2.length) (0,[(gu.mk (ao.mk x.Kind x.N x.No x.Name x.L) depth)],A1,[],h2,x.L) U rd sw ⟨U,jH _,hs1,hC1,lf⟩ ?_
  rintro⟨i1,dn1,A1_,rs1,hh1,s1⟩ ⟨hd1,m4,hs4,hC1_,hl1⟩ ag1 e
  rcases s1 with _|⟨y1,rz1⟩
  .have uQ:=oW hd1
   exact sr (fO uQ U (qO 4 U (hx1 (i1,dn1,A1_,rs1,hh1) _ ⟨m4,hs4,hC1_,hl1⟩ trivial)))
  have mN:=wp hd1
  have kl:=ui hd1
  have oD:=iy hd1
  have yD:=(hx.list.mono ao.aK (dN.t hle1)).1.1
  have hdy:=ao.lB (eM hd1)
  refine sr (tO mN U (qO 8 U (aM (iR uB ty59 (hx.list.mono ao.aK ((dN.t hle1).t hl1)).1 kl U U U (λ_ _ _ e=>e) (λq2 r2 A8 ok2=>gV ty59 A8 U U (cD zc59 (λb4=>ct 0 ty59 U U U U U U (kX (L':=[(b4,O (ao.cells y1 r2) 59),z1]++(A1_++(markB rs1))) U (qO 3 U (eS 0 ty59 U U U (fV ty3 (adepth.mono ((dN.t hle1).t hl1)) U (gE (v':=I (depth+1)) U (kW ob) (aM (cW call307 (hrec _ _ _ (depth+1) ok2 ob (ao.lB (eM hd1))) U (λv2 h9 hle8 hp2=>?_)))))))))))))))
  obtain⟨_,rfl,mo2⟩:=hp2
  refine qO 2 U ?_
  let z2:Nat×Obj:=(b4,O (ao.cells y1 r2) 59)
  refine dV (L':=([z2,z1]++(A1_))++markB rs1) ap ?_
  refine nF (it:=v2) (xs:=(rec y1 (depth+1))) (ι:=List gu×LH×HF) rs1 (λi=>i.2.2) (λi=>[z2,z1]++(i.2.1)) (λs i=>aT.F rec x depth=i.1++((aT.L3 ((aT.L1 rec depth (aT.K1) rz1))) s)/\C i.1 i.2.2 i.2.1/\jL h9 i.2.2) (λi=>Sp i.2.2 i.2.1/\jL h9 i.2.2) (λ_=>False) 0 (λch h L=>∃B,B.Sublist L/\Pn ch h B) (dn1,A1_,h9) KX U mo2 U xz (λ_ _ _ _ hl⟨B,hs,hp⟩=>⟨B,hs,m3 _ _ _ _ hl hp⟩) U (show[z2,z1]++(A1_)=_ from U) ⟨hs4,(m1 _ _ _ _ hle8 hC1_),lf⟩ ?_ ?_ ?_ ?_ ?_
  .rintro l3 dm3 lp3 y3 rz3 vs3 ⟨dn3,A3_,hh3⟩ hr3 X hFR3 ⟨hs6,hC3_,hl3⟩ hl03 hlr3 hv3 hX hXM hlp3 nx3 rt3 ex3 pn3
   obtain⟨rr3_0,rfl,ok3_0⟩:=hv3
   let z3:Nat×Obj:=(dm3,.deferred (some []))
   refine dV (L':=[(l3,.loop lp3),z3,z2,z1]++(A3_++(markB rs1))) ap (bS (cD zc316 (λb6=>ct 0 ty316 U U U U U U (kX (L':=[(b6,O (gu.cells y3 rr3_0) 316),(l3,.loop lp3),z3,z2,z1]++(A3_++(markB rs1))) U (bM (mU 1 U hlp3 (qK 4 [4] U (eS 0 ty316 U U U ?_))))))))
   have hx4:aT.F rec x depth=dn3++(y3::((aT.L3 ((aT.L1 rec depth (aT.K1) rz1))) rz3)):=hs6
   let z4:Nat×Obj:=(l3,.loop { lp3 with state:=.busy })
   refine aM (TE ([(b6,O (gu.cells y3 rr3_0) 316),z4,z3,z2,z1]) A3_ (markB rs1) ap (hy dn3 y3 _ _ _ _ hx4 ((((hle1.t hl1).t hle8).t hl3).t hlr3) (m1 _ _ _ _ hlr3 hC3_) ⟨rr3_0,U,ok3_0⟩) U U (λh13 A12 hle12 hC4=>?_) (λh14 A13 hle13 hS4=>?_) (λch4 h15 A14 hle14 hP4 e=>EV (L':=[z4,z3]++(A14++(markB rs1))) js (pn3 _ _ _ A14 ⟨A14,List.Sublist.refl _,hP4⟩)))
   .have hs7:aT.F rec x depth=(dn3++[y3])++(((aT.L3 ((aT.L1 rec depth (aT.K1) rz1))) rz3)):=hx4.trans ap
    exact qf U (qO 4 U (dE (L':=[z4,z3,z2,z1]++(A12++(markB rs1))) js (dV (L':=rdH l3 dm3 lp3 (([z2,z1]++(A12))++markB rs1)) ap (nx3 ((dn3++[y3]),A12,h13) _ _ ⟨hs7,hC4,((hl3.t hlr3).t hle12)⟩ lf))))
   exact qf U (qO 2 U (dE (L':=[z4,z3,z2,z1]++(A13++(markB rs1))) js (dV (L':=rdH l3 dm3 lp3 (([z2,z1]++(A13))++markB rs1)) ap (rt3 (dn3,A13,h14) _ _ _ ⟨hS4,((hl3.t hlr3).t hle13)⟩ lf))))
  .rintro dm3 ⟨dn3,A3_,hh3⟩ hn3 ⟨hs8,hC3_,hl3⟩ hln3 hl03
   exact dV (L':=[z2,z1]++(A3_++(markB (dm3::rs1)))) ap (qT 3 U (oi i1 U (qO 2 U (dE (L':=[z1]++(A3_++(markB (dm3::rs1)))) js (ag1 ((i1+1),dn3,A3_,(dm3::rs1),hn3,rz1) _ (Nat.lt_succ_self _) ⟨ll hd1,iy hd1,hs8,(m1 _ _ _ _ hln3 hC3_),(((hl1.t hle8).t hl3).t hln3)⟩ rd)))))
  .rintro dm3 ⟨dn3,A3_,hh3⟩ hn3 ⟨hS5,hl3⟩ hln3 hl03
   exact dV (L':=[z2,z1]++(A3_++(markB (dm3::rs1)))) ap (dV (L':=([z2,z1]++(A3_))++markB (dm3::rs1)) ap (xI (dm3::rs1) (A:=A3_) KX U js (.inr (m2 _ _ _ hln3 hS5))))
  .exact xf
  rintro dm3 ch hn3 L0 ⟨B,hB,hp⟩ hl03
  exact xO (dm3::rs1) KX hB hp
 exact qf U (qO 2 U (ij (xI [] (A:=A2) KX U js (.inr hS1))))
theorem tC:∀(m:Nat)(h:HF)(x:ao)(gU:dJ)(depth:Int)(_:ao.ok h x gU)(_:0<=depth/\depth+x.dep<=2000000)(_:x.dep<=m),jv prog 307 [.agg (ao.cells x gU).toArray,I depth] h (λv h'=>∃rv0:Value,v=rv0/\Itr prog rv0 yA (aT.go m x depth) h')
 |0,h,x,gU,depth,hx,hb,hd=>absurd hd (Nat.not_le.2 (ao.np _))
 |m+1,h,x,gU,depth,hx,hb,hd=>by
  exact dL func307 U ntmps307 U λX hM hX=>sr (iA (λb1=>iA (λb2=>qO 4 U (dF 1 U hM (λh2 hle2 hb2=>dF 0 U hM (λh3 hle3 hb3=>aM (jy U U (an (lD [.func (.func 368) #[] #[Q b1,Q b2]] func307 U rd ⟨_,U,AV (aT.go m) h3 x gU ⟨b1,0,none⟩ depth ⟨b2,0,none⟩ (λh' y Yn d' hy hb' hl=>tC m h' y Yn d' hy hb' ob) (hx.mono (hle2.t hle3)) ((fJ hb2).mono hle3) (fJ hb3) hb⟩)))))))))
theorem w5(h x gU)(depth:Int)(hx:ao.ok h x gU)(hb:0<=depth/\depth+x.dep<=2000000):jv prog 307 [.agg (ao.cells x gU).toArray,I depth] h (λv h'=>∃rv0:Value,v=rv0/\Itr prog rv0 yA (bz x depth) h'):=tC _ h x gU depth hx hb (xE _)
instance kC307:Ct 307:=⟨_,call307,@w5⟩
theorem kw(h ok XB)  : FD prog 363 [.bool ok,I XB] h (exW stopV (λr:Unit=>(.tuple #[]:Value)) (fA ok XB)):=by
 refine sVv func363 ntmps363 ?_
 generalize hz:(fA ok XB)=z
 exact W
instance kC363:Ct 363:=⟨_,Hy,@kw⟩
theorem Sq{c:Bool}{e:Int}{u:Unit}(h:fA c e=.ok u):c=true:=by
 cases c with
 |true=>rfl
 |false=>simp[fA]at h
theorem rk(h p je)(hp:ay.ok h p je)(hsz0:p.cZ.length<=2000000):jv prog 364 [.agg (ay.cells p je).toArray] h (λv h'=>∃(rb0:Option Addr)(rc0:Nat),v=.slice rb0 (aJ p).length rc0/\SlC ao.rp h' rb0 rc0 (aJ p)):=by
 refine sVv func364 ntmps364 ?_
 generalize hz:(aJ p)=z
 have HA:=hG [1,6,7] 8 2 ao.rp 59 (λs1 i w=>(aJ.L1 (aJ.K1 p)) s1 w)
 exact W
instance kC364:Ct 364:=⟨_,call364,@rk⟩
theorem RH(p:ay):∀(l:List fg)(g:List ao),aJ.L1 (aJ.K1 p) l g=g++(l.map (·.ao)++[p.aS])
 |[],g=>by simp[aJ.L1,aJ.K1]
 |y::l,g=>by simp[aJ.L1,RH p l]
theorem UN(p:ay):aJ p=p.cZ.map (·.ao)++[p.aS]:=by
 unfold aJ;rw[RH];simp
theorem tT{p:ay}(h:smP p){y:ao}(hy:y∈aJ p):y.dep<=1500000:=by
 rw[UN]at hy
 rcases List.mem_append.1 hy with hy|hy
 .obtain⟨r,hr,rfl⟩:=List.mem_map.1 hy;exact h.2.1 r hr
 rw[xC.1 hy];exact h.2.2.1
end
variable {af:Array Edge}{d:Option Nat}{g:Option (Nat×Bool)}{pos:String}{ty:TypeId}{x:Operand}
section
open Go.Proofs Go.Proofs.Tryz
theorem ext282:Extern.find Tryz.f425=some Extern.BytealgIndexByte.indexByte:=by kernel_rfl
theorem ext282n:Extern.findNext Tryz.f425=none:=by kernel_rfl
theorem run282(s:ByteArray)(c:Int)(w:World):(Extern.BytealgIndexByte.indexByte #[.string s,.int .u8 c]).run prog w=.ok (.int .i64 (idxByte s c)) w:=by
 show(do
  let b ←Extern.Bytes.bytesOf (.string s)
  let c ←Extern.Bytes.asByte (.int .u8 c)
  match(zD b.size).find? λi=>b[i]! == c with
  |some i=>pure (goInt i)
  |none=>pure (goInt (-1)):Sem Value).run prog w=_
 simp only[Extern.Bytes.bytesOf,Extern.Bytes.asByte,kL,Sem.run_pure,vK,idxByte,goInt]
 cases hf:(zD s.size).find? (λi=>s[i]! == UInt8.ofNat c.toNat)with
 |none=>simp only[show c.toNat.toUInt8=UInt8.ofNat c.toNat from rfl,hf];simp
 |some i=>simp only[show c.toNat.toUInt8=UInt8.ofNat c.toNat from rfl,hf];simp
theorem call282(s:ByteArray)(c:Int)(w:World):(callFunc 425 #[.string s,.int .u8 c]).run prog w=.ok (.value (.int .i64 (idxByte s c))) w:=by
 have hb:Tryz.f425.body.isNone=true:=by kernel_rfl
 have hn : (Tryz.f425.name == "runtime.NumGoroutine") = false := by kernel_rfl
 simp only[callFunc,kL,run_program,vK,func425,hn,hb,ext282,ext282n]
 simp[run282]
theorem TU{e:Env}{X:Cx}{L:LH}{y:Operand}{s:ByteArray}{c:Int}(hx:e.ev x=.string s)(hy:e.ev y=.int .u8 c):
  ∀w,St X h L w->(execOp e.ev ⟨d,.call ⟨.value (.func 425),#[x,y],ats⟩,ty,pos,af,g⟩).run prog w=.ok (.value (.int .i64 (idxByte s c))) w:=
 λw _=>by
  have hf:e.ev (.func 425)=.func (.func 425) #[] #[]:=rfl
  simp[execOp,resolve,hf,xH,invoke,hx,hy,call282]
end
section
open Go.Proofs Go.Proofs.Tryz
set_option maxHeartbeats 2000000
theorem D0(h p je)(hp:ay.ok h p je)(hsm:smP p):FD prog 303 [.agg (ay.cells p je).toArray] h (exW stopV (λr:Unit=>(.tuple #[]:Value)) (dh p)):=by
 refine sVv func303 ntmps303 ?_
 generalize hz:(dh p)=z
 have hsr:=hsm.rules
 have hsc:=hsm.change
 have hsq:=hsm;unfold smP at hsq
 have q5:=λ{y:ao}(a:y∈aJ p)=>(show(0:Int)<=1/\(1:Int)+(y.dep:Int)<=2000000 from by have:=tT hsm a;omega)
 have q0:=@tT
 have w0:=λ{y}(a:y∈_)=>tT hsm a
 have HA:=lK [24,25] 26 (λs i=>((dh.L1 (dh.K1)) s))
 have HB:=λ{b6}{rz1}=>lX stopV z (.mD b6 (λv=>[I v]) 3 .mE) (λs w=>((dh.L3 (λzg3_b6_0=>(dh.L1 (dh.K1) rz1))) s w.1))
 exact W
instance kC303:Ct 303:=⟨_,call303,@D0⟩
theorem us(h x gU)(hx:ao.ok h x gU):Ret prog 308 [.agg (ao.cells x gU).toArray] h (.bool (dH x)):=by
 refine sVv func308 ntmps308 ?_
 generalize hz:(dH x)=z
 exact W
instance kC308:Ct 308:=⟨_,call308,@us⟩
theorem rA(h s c)  : Ret prog 423 [.string s,Y c] h (I (lQ s c)):=by
 refine sT func423 U ntmps423 U λX hM hX hF=>?_
 have hs0:=@rfl _ (lQ s c)
 exact sr (qO 6 U (aM (em (TU U U) (an (nretP [I (idxByte s c)] (ci hs0))))))
instance kC423:Ct 423:=⟨_,call423,@rA⟩
theorem AG(h s c)  : Ret prog 419 [.string s,Y c] h (I (strings_IndexByte s c)):=by
 refine sVv func419 ntmps419 ?_
 generalize hz:(strings_IndexByte s c)=z
 exact W
instance kC419:Ct 419:=⟨_,call419,@AG⟩
theorem MW(h c)  : Ret prog 408 [Y c] h (I (m9 c)):=by
 refine sVv func408 ntmps408 ?_
 generalize hz:(m9 c)=z
 exact W
instance kC408:Ct 408:=⟨_,call408,@MW⟩
theorem OH(h s)  : Ret prog 398 [.string s] h (.bool (gp s)):=by
 refine sVv func398 ntmps398 ?_
 generalize hz:(gp s)=z
 have q4:=λ(a:(s.toList==(⟨#[]⟩:ByteArray).toList||decide (32<(s.size:Int)))=false)=>(show 0<=(0:Int)/\(0:Int)<(s.size:Int)from by have:=Q0 (Bool.or_eq_false_iff.1 a).1;omega)
 have q0:=@Q0
 have HA:=h0 [0,19] 20 (λs1 i=>((gp.L1 s (gp.K1)) s1 i))
 exact W
instance kC398:Ct 398:=⟨_,call398,@OH⟩
theorem C3(h s)  : Ret prog 365 [.string s] h (.bool (fM s)):=by
 refine sVv func365 ntmps365 ?_
 generalize hz:(fM s)=z
 exact W
instance kC365:Ct 365:=⟨_,call365,@C3⟩
theorem rE(h s qy pZ v)(hs:SlC YL h qy pZ s):Ret prog 309 [.slice qy s.length pZ,.string v] h (I (bq s v)):=by
 refine sVv func309 ntmps309 ?_
 generalize hz:(bq s v)=z
 have HA:=h0 [0,1,7] 8 (λs1 i=>(bq.L1 v (bq.K1)) s1 i)
 exact W
instance kC309:Ct 309:=⟨_,call309,@rE⟩
theorem uM(h l fm fj)(ok:(ByteArray->Bool))(ok_v)(hl:SlC YL h fm fj l)(hok:∀(h':HF)(fh:ByteArray),jL h h'->ra prog ok_v [.string fh] h' [] (.bool (ok fh))):Ret prog 366 [.slice fm l.length fj,ok_v] h (.bool (bX l ok)):=by
 refine sVv func366 ntmps366 ?_
 generalize hz:(bX l ok)=z
 have HA:=h0 [0,1,7,8] 9 (λs1 i=>(bX.L1 l ok (bX.K1)) s1 i)
 exact W
instance kC366:Ct 366:=⟨_,call366,@uM⟩
theorem wK(h s qy pZ v)(hs:SlC YL h qy pZ s):Ret prog 367 [.slice qy s.length pZ,.string v] h (.bool (dK s v)):=by
 refine sVv func367 ntmps367 ?_
 generalize hz:(dK s v)=z
 exact W
instance kC367:Ct 367:=⟨_,call367,@wK⟩
theorem D1(h p je)(hp:ay.ok h p je)(hsm:smP p):FD prog 304 [.agg (ay.cells p je).toArray] h (exW stopV (λr:Unit=>(.tuple #[]:Value)) (di p)):=by
 refine sVv func304 ntmps304 ?_
 generalize hz:(di p)=z
 have hsr:=hsm.rules
 have hsq:=hsm;unfold smP at hsq
 have q5:=λ{y:ao}(a:y∈aJ p)=>(show(0:Int)<=1/\(1:Int)+(y.dep:Int)<=2000000 from by have:=tT hsm a;omega)
 have q0:=@tT
 have w0:=λ{y}(a:y∈_)=>tT hsm a
 have HA:=lK [1,20,21] 22 (λs i=>((di.L1 p (di.K1)) s))
 have HB:=λ{rz1}=>lX stopV z .mE (λs w=>((di.L3 p ((di.L1 p (di.K1) rz1))) s))
 exact W
instance kC304:Ct 304:=⟨_,call304,@D1⟩
theorem ur(h x0 Xe)(hx0:ao.ok h x0 Xe):Ret prog 442 [.agg (ao.cells x0 Xe).toArray] h (.bool (sO x0)):=by
 refine sVv func442 ntmps442 ?_
 generalize hz:(sO x0)=z
 exact W
instance kC442:Ct 442:=⟨_,call442,@ur⟩
theorem uq(h x gU)(hx:ao.ok h x gU):Ret prog 443 [.agg (ao.cells x gU).toArray] h (.bool (lO x)):=by
 refine sVv func443 ntmps443 ?_
 generalize hz:(lO x)=z
 exact W
instance kC443:Ct 443:=⟨_,call443,@uq⟩
theorem uo(h x gU)(hx:ao.ok h x gU):Ret prog 444 [.agg (ao.cells x gU).toArray] h (.bool (lN x)):=by
 refine sVv func444 ntmps444 ?_
 generalize hz:(lN x)=z
 exact W
instance kC444:Ct 444:=⟨_,call444,@uo⟩
theorem un(h x gU)(hx:ao.ok h x gU):Ret prog 445 [.agg (ao.cells x gU).toArray] h (.bool (lL x)):=by
 refine sVv func445 ntmps445 ?_
 generalize hz:(lL x)=z
 exact W
instance kC445:Ct 445:=⟨_,call445,@un⟩
theorem um(h x gU)(hx:ao.ok h x gU):Ret prog 446 [.agg (ao.cells x gU).toArray] h (.bool (kx x)):=by
 refine sVv func446 ntmps446 ?_
 generalize hz:(kx x)=z
 exact W
instance kC446:Ct 446:=⟨_,call446,@um⟩
theorem P6(h)(i:Int)(hi:0<=i/\i<5)(x gU)(hx:ao.ok h x gU):ra prog (kfun i) [.agg (ao.cells x gU).toArray] h [] (.bool (kindsP i x)):=by
 have:i=0\/i=1\/i=2\/i=3\/i=4:=by omega
 rcases this with rfl|rfl|rfl|rfl|rfl
 .exact jd (cap:=[]) call442 (ur h x gU hx)
 .exact jd (cap:=[]) call443 (uq h x gU hx)
 .exact jd (cap:=[]) call444 (uo h x gU hx)
 .exact jd (cap:=[]) call445 (un h x gU hx)
 exact jd (cap:=[]) call446 (um h x gU hx)
end
section
open Go.Proofs Go.Proofs.Tryz
section runs
variable {P:Program} {e:Env} {X:Cx} {h:HF} {L:LH} {d:Option Nat} {ty:TypeId} {pos:String} {af:Array Edge} {g:Option (Nat×Bool)}
theorem Vu{t u:TypeId}(hT:∃ms,P.underlying t=some (.interface ms))(hx:e.ev x=.nilIface):∀w,St X h L w->(execOp e.ev ⟨d,.binOp .neq t x (.const .nilIface) u,ty,pos,af,g⟩).run P w=.ok (.value (.bool false)) w:=
 λw _=>by
  obtain⟨ms,hT⟩:=hT
  have hc:e.ev (.const .nilIface)=.nilIface:=rfl
  have he:(Op.equal t .nilIface .nilIface).run P w=.ok true w:=by
   rw[Op.equal,Op.maxDepth,show(10000:Nat)=9999+1 from rfl,Op.equalIn];simp[run_underlying hT]
  simp[execOp,hx,hc,eqGuard,binOp,he]
theorem Vt{t u:TypeId}{T:TypeId}(hT:∃ms,P.underlying t=some (.interface ms))(hx:e.ev x=.iface T v):∀w,St X h L w->(execOp e.ev ⟨d,.binOp .neq t x (.const .nilIface) u,ty,pos,af,g⟩).run P w=.ok (.value (.bool true)) w:=
 λw _=>by
  obtain⟨ms,hT⟩:=hT
  have hc:e.ev (.const .nilIface)=.nilIface:=rfl
  have he:(Op.equal t (.iface T v) .nilIface).run P w=.ok false w:=by
   rw[Op.equal,Op.maxDepth,show(10000:Nat)=9999+1 from rfl,Op.equalIn];simp[run_underlying hT]
  simp[execOp,hx,hc,eqGuard,binOp,he]
theorem Sk{xt T:TypeId}{fs:Array Field}(hT:P.underlying T=some (.struct fs))(hx:e.ev x=.iface T v):∀w,St X h L w->(execOp e.ev ⟨d,.typeAssert x xt T true,ty,pos,af,g⟩).run P w=.ok (.value (.tuple #[v,.bool true])) w:=
 λw _=>by simp[execOp,hx,Instr.typeAssert,run_underlying hT]
end runs
def bodyOf(f:Func):Code:=f.body.getD .skip
theorem PQ{P:Program}{e:Env}{t:Nat}{fv:Value}(hf:e t=fv)(w:World):
  (execOp e.ev ⟨d,.call ⟨.value (.tmp t),#[],ats⟩,ty,pos,af,g⟩).run P w=(do let d ←xH fv #[];invoke d.target d.args:Sem Next).run P w:=by grind [execOp,resolve,Zy]
theorem KO(h:HF)(b1:Nat)(X':Cx):TT prog (deferFrame 362) 17 [.code (bodyOf Tryz.f362)] (J8 prog X' .returning (λh' B=>h'=h/\B=[(b1,zH (kB [.int .i64 0]) 37 (0,0))])) (envArgs [.pointer (some ⟨b1,0,none⟩)]) [] X' h [(b1,zH (kB [.int .i64 0]) 37 (0,0))]:=by
 refine dZ (bS (?_))
 refine FK (λcs Φ⟨c,rest,hcs,hm,_⟩=>by subst hcs;simp[recoverD,hm]) ?_
 refine iB (bM (dZ (bS (cN (aM (em (Vu ⟨_,Tf⟩ rfl) (bM (?_))))))))
 exact oy rfl (iL (Mg Te rfl ⟨rfl,rfl⟩))
theorem KP(h:HF)(b1:Nat)(ee:Int)(X':Cx):TT prog (deferFrame 362) 17 [.code (bodyOf Tryz.f362)]
  (λcs Φ=>∃c rest,cs=c::rest/\c.mode=.panicking [{ v:=stopV ee,recovered:=false }]/\J8 prog X' (.panicking [{ v:=stopV ee,recovered:=true }]) (λh' B=>h'=h/\∃B0,B=B0++[(b1,zH (kB [.int .i64 ee]) 37 (0,0))]) ({ c with mode:=(.panicking [{ v:=stopV ee,recovered:=true }]) }::rest) Φ)
  (envArgs [.pointer (some ⟨b1,0,none⟩)]) [] X' h [(b1,zH (kB [.int .i64 0]) 37 (0,0))]:=by
 refine dZ (bS (?_))
 refine HN (F':=J8 prog X' (.panicking [{ v:=stopV ee,recovered:=true }]) (λh' B=>h'=h/\∃B0,B=B0++[(b1,zH (kB [.int .i64 ee]) 37 (0,0))])) (stopV ee) (λcs Φ⟨c,rest,hcs,hm,hF⟩=>⟨_,by subst hcs;simp[recoverD,hm],hF⟩) ?_
 refine iB (bM (dZ (bS (cN (aM (em (Vt ⟨_,Tf⟩ rfl) (bM (?_))))))))
 refine rD rfl (dZ (bS (cN (aM (em (Sk underlying375 rfl) (cN (oM rfl rfl (oM rfl rfl (cD zc375 (λb2=>?_))))))))))
 refine ct 0 ty375 rfl rfl rfl rfl rfl rfl (iB (bM (?_)))
 refine dZ (dZ (bS (cN (qf rfl (bM (?_))))))
 refine oy rfl (iL (?_))
 refine bS (lj UI rfl (?_))
 refine pJ 0 ty37 rfl rfl rfl (?_)
 refine dD 1 ty37 rfl rfl rfl rfl rfl rfl (bM (?_))
 exact Mg Te rfl ⟨rfl,[(b2,_)],rfl⟩
theorem Cs(h:HF)(fv:Value)(x:Except Int Unit)(hf:ny prog fv #[] h [] (XR (exW stopV (λ_:Unit=>.tuple #[]) x) h)):Ret prog 301 [fv] h (.int .i64 (attR x)):=by
 refine dL func301 rfl ntmps301 rfl λX hM hX=>?_
 refine dZ (bS (cD zc37 (λb1=>bM (dZ (bS (aM (jy rfl rfl (Ts rfl rfl (bM (dZ (bS (cN (?_)))))))))))))
 have fin:∀(r:Int)(B:LH),attR x=r->(∃B0,B=B0++[(b1,zH (kB [.int .i64 r]) 37 (0,0))])->∀(e:Env),e 2=.pointer (some ⟨b1,0,none⟩)->∀a:Act,envOf a=e->∀w,St X h (B++[]) w ->
   ∃v h2 B2,(results Tryz.f301 a.tmps).run prog w=.ok v w/\St X h2 B2 w/\v=.int .i64 (attR x)/\h2=h/\B2=[]:=by
  rintro r B hr ⟨B0,rfl⟩ e he a ha w hw
  have hw':=hw.sub (L':=[(b1,zH (kB [.int .i64 r]) 37 (0,0))]) (by simp)
  exact⟨_,h,[],o9 (rs:=[.cell 2 37]) (vs:=[.int .i64 r]) rfl ⟨⟨0,b1,[.int .i64 r],37,(0,0),rfl,he,.inr ⟨_,ty37,rfl⟩⟩,trivial⟩ a ha w hw',hw'.sub (List.nil_sublist _),by rw[hr];rfl,rfl,rfl⟩
 refine Mf rfl (by decide) rfl rfl (λw hw=>?_)
 have hpre:Pre h [] w:=(hw.sub (List.nil_sublist _)).pre
 obtain⟨nx,hrun,hcall⟩:=hf w hpre
 refine⟨nx,w,?_,hcall.mono ?_⟩
 .rw[←hrun];exact PQ rfl w
 rintro y w' ⟨h',B,hst,rfl,rfl,hv⟩
 have hw2:=Y8 (A:=[]) (B:=[]) (F:=[(b1,zH (kB [.int .i64 0]) 37 (0,0))]) hw hst
 cases y with
 |outgrown=>trivial
 |returned v=>
  refine⟨h',_,hw2,?_⟩
  have hx:∃u,x=.ok u:=by cases x with
   |ok u=>exact⟨u,rfl⟩
   |error p=>simp[exW]at hv
  obtain⟨u,rfl⟩:=hx
  refine bM (dZ (bS (dD 0 ty37 rfl rfl rfl rfl rfl rfl (bM (?_)))))
  refine Ve (c:=bodyOf Tryz.f362) (cap:=[.pointer (some ⟨b1,0,none⟩)]) (A:=[(b1,zH (kB [.int .i64 0]) 37 (0,0))]) (R':=λh'' B=>h''=h'/\B=[(b1,zH (kB [.int .i64 0]) 37 (0,0))]) func301 Te rfl ntmps362 rfl call362 (λX' _=>KO h' b1 X') (Fr:=[]) rfl ?_
  rintro h'' B _ ⟨rfl,rfl⟩ a ha w hw
  obtain⟨v,h2,B2,h3,h4,rfl,rfl,rfl⟩:=fin 0 _ rfl ⟨[],rfl⟩ _ rfl a ha w hw
  exact⟨_,_,_,h3,h4,rfl,rfl,rfl⟩
 |panicked ch=>
  refine⟨h',_,hw2,?_⟩
  have hx:∃ee,x=.error ee:=by cases x with
   |ok u=>simp[exW]at hv
   |error p=>exact⟨p,rfl⟩
  obtain⟨ee,rfl⟩:=hx
  simp only[exW]at hv
  cases hv
  refine Vh (c:=bodyOf Tryz.f362) (cap:=[.pointer (some ⟨b1,0,none⟩)]) (A:=[(b1,zH (kB [.int .i64 0]) 37 (0,0))]) (R':=λh'' B=>h''=h'/\∃B0,B=B0++[(b1,zH (kB [.int .i64 ee]) 37 (0,0))]) func301 Te rfl ntmps362 rfl call362 (λX' _=>KP h' b1 ee X') (Fr:=[]) rfl ?_
  rintro h'' B _ ⟨rfl,hB⟩ a ha w hw
  obtain⟨v,h2,B2,h3,h4,rfl,rfl,rfl⟩:=fin ee _ rfl hB _ rfl a ha w hw
  exact⟨_,_,_,h3,h4,rfl,rfl,rfl⟩
end
variable {p:Prop}{q:ai->Bool}
section
open Go.Proofs Go.Proofs.Tryz
set_option maxHeartbeats 2000000
theorem Re(h:p:=by
  have hs9:=hs8.trans (Dk hrx3)
  cases rx3
  exact bM (fP (dE (L':=[z4,z6,z5,z3,z1,z2]++(markB rs2)) js (dV (L':=rdH l4 dm4 lp4 (([z5,z3,z1,z2])++markB rs2)) ap (nx4 hr4 _ _ ⟨hs9,(hl4.t hlr4)⟩ lf))))):p:=h
theorem Rd(h:p:=by
  have hs18:=hs17.trans (Dk hrx6)
  cases rx6
  exact⟨jn,(dO kr (qT 2 U (oi i1 U (qO 2 U (dE (L':=[z2]) js (ag2 hs18))))))⟩):p:=h
theorem Fa(h p je)(hp:ay.ok h p je)(hsm:smP p)(hk:dM h):FD prog 305 [.agg (ay.cells p je).toArray] h (exW stopV (λr:Unit=>(.tuple #[]:Value)) (bu p)):=by
 refine dL KW U ntmps305 U λX hM hX=>?_
 have hs0:=@rfl _ (bu p)
 have hsr:=hsm.rules
 refine sr (iA (λb1=>qL 8 [0] U (nY 8 [12,13,14,15,16,17,18,19,20] 12 20 ((p.cZ.length:Int)==(p.dM.length:Int)) U (λc1 hk1=>?_) (λe=>?_))))
 .exact qL 8 [0,0] U (hk1 _ U)
 refine cN (nY 4 [21,22,23,24,25] 21 25 (ba p.Mode 1 4) U (λc2 hk2=>?_) (λe=>?_))
 .exact qL 2 [0] U (dP Tg (od h p.Mode 1 4) U (sP U (hk2 _ U)))
 refine aM (rG Hy (kw h ((decide (0<(p.dM.length:Int))&&((p.cZ.length:Int)==(p.dM.length:Int)))&&(ba p.Mode 1 4)) 200) U (λu1 hu1=>?_) (λpv1 hpv1 e=>?_))
 .obtain⟨rx1,hrx1,rfl⟩:=wm hu1
  have hs1:=hs0.trans (Dk hrx1)
  cases rx1
  refine qL 9 [0] U ?_
  let z2:Nat×Obj:=(b1,O (ay.cells p je) 61)
  refine lp0 p.cZ (λi=>[(1,Q b1),(28,.slice je.pN p.cZ.length je.pM),(29,I (p.cZ.length:Int)),(30,I (i:Int))]) ([z2]) (λs1 i=>(bu.L1 p (bu.K1 p)) s1 i) hp.cZ.1.1 hs1 ?_ ?_
  .rintro i1 m4 hs2 e
   refine sr (eS 0 ty61 U U U (aM (cW call364 (rk _ _ _ hp ob) U (λv1 h1 hle1 hp1=>?_))))
   obtain⟨rb1,rc1,rfl,sl1⟩:=hp1
   refine cD zc57 (λb3=>dD 0 ty57 U U U U U U (qL 7 [0] U (ij ?_)))
   let z1:Nat×Obj:=(b3,O [.slice rb1 ((aJ p).length) rc1] 57)
   refine dV (L':=[z1,z2]++(markB [])) ap ?_
   refine yS (ι:=Nat×List Nat×HF) (λi=>[]) (λi=>marks i.2.1) (λi=>i.2.2) (λi=>[z1,z2]++(markB i.2.1)) (λi=>i.1<=(aJ p).length/\bu p=((bu.K2))/\jL h1 i.2.2) ?_ (λhx2=>?_)
   .rintro⟨i2,rs2,hh2⟩ ⟨Ed,hs3,hl2⟩ e
    have hs4:bu p=(Except.ok ()):=hs3
    exact dV (L':=([z1,z2])++markB rs2) ap (Mc rs2 [] KW U hX trivial (congrArg (exW stopV (λr:Unit=>(.tuple #[]:Value))) hs4))
   refine Dy (ι:=Nat×List Nat×HF×List ao) (λi=>[(4,Q b3),(52,.slice rb1 ((aJ p).length) rc1),(53,I ((aJ p).length:Int)),(54,I (i.1:Int))]) (λi=>marks i.2.1) (λi=>i.2.2.1) (λi=>[z1,z2]++(markB i.2.1)) (λi=>(aJ p).drop i.1=i.2.2.2/\i.1<=(aJ p).length/\bu p=((bu.L2 p (bu.K2)) i.2.2.2 i.1)/\jL h1 i.2.2.1) (λi=>i.2.2.2.length) (0,[],h1,(aJ p)) U rd sw ⟨U,jH _,hs2,lf⟩ ?_
   rintro⟨i2,rs2,hh2,s2⟩ ⟨hd2,Ed,hs5,hl2⟩ ag1 e
   rcases s2 with _|⟨y2,rz2⟩
   .have Un:=oW hd2
    exact sr (fO Un U (qO 4 U (hx2 (i2,rs2,hh2) _ ⟨Ed,hs5,hl2⟩ trivial)))
   have Ar:=wp hd2
   have uv:=ui hd2
   have I2:=iy hd2
   have Qc:=sl1.1.1
   try have hsy:=tT hsm (eM hd2)
   refine sr (tO Ar U (qO 9 U (aM (iR uB ty59 (sl1.mono ao.aK hl2).1 uv U U U (λ_ _ _ e=>e) (λq4 r3 A5 ok3=>gV ty59 A5 U U (cD zc3 (λb7=>cD zc59 (λb8=>dD 1 ty3 U U U U U U (ct 0 ty59 U U U U U U (qO 3 U (eS 0 ty59 U U U (aM (cW call307 (w5 _ _ _ 1 ok3 ob) U (λv3 h3 hle3 hp3=>?_))))))))))))))
   obtain⟨_,rfl,mo2⟩:=hp3
   refine qO 2 U ?_
   let z3:Nat×Obj:=(b7,O [I (i2:Int)] 3)
   let z5:Nat×Obj:=(b8,O (ao.cells y2 r3) 59)
   refine dV (L':=([z5,z3,z1,z2])++markB rs2) ap ?_
   refine nF (it:=v3) (xs:=(bz y2 1)) (ι:=HF) rs2 (λi=>i) (λi=>[z5,z3,z1,z2]) (λs i=>bu p=((bu.L4 p i2 ((bu.L2 p (bu.K2) rz2 (i2+1)))) s)/\jL h3 i) (λ_=>False) (λ_=>False) 0 (λch _ _=>∃pv_,ch=[{ v:=stopV pv_,recovered:=false }]/\bu p=.error pv_) h3 KW U mo2 U xz (λ_ _ _ _ _ hq=>hq) U (show[z5,z3,z1,z2]=_ from U) ⟨hs5,lf⟩ ?_ ?_ ?_ ?_ ?_
   .rintro l4 dm4 lp4 y4 rz4 vs4 hh4 hr4 X hFR4 ⟨hs7,hl4⟩ hl04 hlr4 hv4 hX hXM hlp4 nx4 rt4 ex4 pn4
    obtain⟨rr4_0,rfl,ok4_0⟩:=hv4
    let z6:Nat×Obj:=(dm4,.deferred (some []))
    refine dV (L':=[(l4,.loop lp4),z6,z5,z3,z1,z2]++(markB rs2)) ap (bS (cD zc316 (λb10=>ct 0 ty316 U U U U U U (bM (mU 1 U hlp4 (qT 2 U ?_))))))
    let z4:Nat×Obj:=(l4,.loop { lp4 with state:=.busy })
    let z8:Nat×Obj:=(b10,O (gu.cells y4 rr4_0) 316)
    refine fQ ([z8,z4,z6,z5,z3,z1,z2]) mixed kr jn (λlA _=>?_)
    refine qB [0,1] U (tf 2 U U (rj 0 ty3 U U U) (tn 3 U (jq Tg (od hr4 y4.x.Kind 1 4) U (⟨jn,tm 4 U ?_⟩))))
    refine AF 66 U (λc3=>?_) (λc3=>?_)
    .refine qB [5,6] U (tf 7 U U (rj 0 ty3 U U U) ?_)
     have ho4:0<=(y4.x.Kind:Int)/\(y4.x.Kind:Int)<5:=(by have:=R2 ob;omega)
     have A7:=(hk.mono ((((hle1.t hl2).t hle3).t hl4).t hlr4)).at ho4
     refine tf 8 U U (λ_ _ _=>TS underlying381 ty293 U U ho4) (tf 9 U U (rh ty293 A7 U) (qB [10] U (tf 11 U U (λ_ _ hj=>oA ty59 U (hj.nth (i:=0) U) U) (tn 12 U (kj (v:=.bool (kindsP y4.x.Kind y4.x)) [] (List.nil_sublist _) (P6 hr4 y4.x.Kind ho4 y4.x rr4_0.x ok4_0.x) U U (⟨jn,tf 13 U U (λ_ _ _=>Hf U (cb (show(kindsP y4.x.Kind y4.x)=((ba y4.x.Kind 1 4)&&(kindsP y4.x.Kind y4.x))from by first|(rw[c3];rfl)|(rw[c3];rfl)|simp[c3]))) ?_⟩))))))
     refine tn 14 U (rG Hy (kw hr4 ((ba y4.x.Kind 1 4)&&(kindsP y4.x.Kind y4.x)) 200) U (λu2 hu2=>?_) (λpv2 hpv2 e=>?_))
     .obtain⟨rx2,hrx2,rfl⟩:=wm hu2
      have hs8:=hs7.trans (Dk hrx2)
      cases rx2
      refine⟨jn,dO kr (qK 7 [4,5] U (nH 5 [82,83,84,85,86,87] 82 87 (y4.x.Kind != 4) U (λc4 hk3=>?_) (λe=>?_)))⟩
      .exact qL 5 [0] U (hk3 _ U)
      refine aM (rG Hy (kw hr4 (decide ((i2:Int)<(vC .i64 (((aJ p).length:Int)-1)))||(y4.x.Kind != 4)) 200) U (λu3 hu3=>?_) (λpv3 hpv3 e=>?_))
      .obtain⟨rx3,hrx3,rfl⟩:=wm hu3
       exact Re
      obtain⟨pv3e,hpv3e,rfl⟩:=se hpv3
      have hs10:=hs8.trans (uU hpv3e)
      exact EV (L':=[z4,z6]++(markB rs2)) js (pn4 _ _ _ [] ⟨_,U,hs10⟩)
     obtain⟨pv2e,hpv2e,rfl⟩:=se hpv2
     have hs11:=hs7.trans (uU hpv2e)
     exact EV (L':=[z4,z6]++(markB rs2)) js (pn4 _ _ _ [] ⟨_,U,hs11⟩)
    refine qR 5 8 U (tf 13 U U (λ_ _ _=>Hf U (cb (show false=((ba y4.x.Kind 1 4)&&(kindsP y4.x.Kind y4.x))from by first|(rw[c3];rfl)|(rw[c3];rfl)|simp[c3]))) ?_)
    refine tn 14 U (rG Hy (kw hr4 ((ba y4.x.Kind 1 4)&&(kindsP y4.x.Kind y4.x)) 200) U (λu4 hu4=>?_) (λpv4 hpv4 e=>?_))
    .obtain⟨rx4,hrx4,rfl⟩:=wm hu4
     have hs8:=hs7.trans (Dk hrx4)
     cases rx4
     refine⟨jn,dO kr (qK 7 [4,5] U (nH 5 [82,83,84,85,86,87] 82 87 (y4.x.Kind != 4) U (λc5 hk4=>?_) (λe=>?_)))⟩
     .exact qL 5 [0] U (hk4 _ U)
     refine aM (rG Hy (kw hr4 (decide ((i2:Int)<(vC .i64 (((aJ p).length:Int)-1)))||(y4.x.Kind != 4)) 200) U (λu5 hu5=>?_) (λpv5 hpv5 e=>?_))
     .obtain⟨rx3,hrx3,rfl⟩:=wm hu5
      exact Re
     obtain⟨pv5e,hpv5e,rfl⟩:=se hpv5
     have hs14:=hs8.trans (uU hpv5e)
     exact EV (L':=[z4,z6]++(markB rs2)) js (pn4 _ _ _ [] ⟨_,U,hs14⟩)
    obtain⟨pv4e,hpv4e,rfl⟩:=se hpv4
    have hs15:=hs7.trans (uU hpv4e)
    exact EV (L':=[z4,z6]++(markB rs2)) js (pn4 _ _ _ [] ⟨_,U,hs15⟩)
   .rintro dm4 hh4 hn4 ⟨hs16,hl4⟩ hln4 hl04
    exact dV (L':=[z5,z3,z1,z2]++(markB (dm4::rs2))) ap (qT 3 U (oi i2 U (qO 2 U (dE (L':=[z1,z2]++(markB (dm4::rs2))) js (ag1 ((i2+1),(dm4::rs2),hn4,rz2) _ (Nat.lt_succ_self _) ⟨ll hd2,iy hd2,hs16,(((hl2.t hle3).t hl4).t hln4)⟩ rd)))))
   .exact xf
   .exact xf
   rintro dm4 ch hn4 L0 ⟨pv_,rfl,hpv_⟩ hl04
   exact yT (dm4::rs2) KW hX (congrArg (exW stopV (λr:Unit=>(.tuple #[]:Value))) hpv_)
  rintro i1 y1 rz1 hd1 mN kl oD yD hs17 hx1 ag2 e
  try have hsy:=tT hsm (eM hd1)
  refine sr (tO mN U (qO 9 U (aM (iR Hu ty65 hp.cZ.1 kl U U U (λ_ _ _ e=>e) (λq5 r4 A8 ok4=>gV ty65 A8 U U (cD zc65 (λb11=>iB (ct 0 ty65 U U U U U U (bM ?_)))))))))
  let z7:Nat×Obj:=(b11,O (fg.cells y1 r4) 65)
  refine fQ ([z7,z2]) mixed kr jn (λpc _=>?_)
  refine qB [0] U (tf 1 U U (rj 0 ty9 U U U) (qB [2] U (tf 3 U U (rj 1 ty55 U U U) (tm 4 U ?_))))
  have ho5:0<=((i1:Int):Int)/\((i1:Int):Int)<((p.dM).length:Int):=(by have hm:=Sq hrx1;simp only[decide_eq_true_eq,decide_eq_false_iff_not,zB,kD,kE,Bool.not_eq_false',Bool.and_eq_false_iff,Bool.or_eq_false_iff,beq_iff_eq,beq_eq_false_iff_ne,bne_iff_ne,bne_eq_false_iff_eq,vA,xA,jB,List.length_drop]at hm;omega)
  refine pk 5 (enc:=λy=>[.string y]) pc jn ei QT ty9 hp.dM.1 ho5 (eH ho5) U U U U kr (λq6 A9=>tf 6 U U (rh ty9 A9 U) (qA [7,8] U ?_))
  refine AF 43 U (λc6=>?_) (λc6=>?_)
  .refine qB [9] U (tf 10 U U (rj 0 ty3 U U U) (tn 11 U (jq Tg (od h y1.gf 0 1099511627775) U (⟨jn,tf 12 U U (λ_ _ _=>Hf U (cb (show(ba y1.gf 0 1099511627775)=((y1.Kind.toList==(nthI p.dM (i1:Int)).toList)&&(ba y1.gf 0 1099511627775))from by first|(rw[c6];rfl)|(rw[c6];rfl)|simp[c6]))) ?_⟩))))
   refine tn 13 U (rG Hy (kw h ((y1.Kind.toList==(nthI p.dM (i1:Int)).toList)&&(ba y1.gf 0 1099511627775)) 200) U (λu6 hu6=>?_) (λpv6 hpv6 e=>?_))
   .obtain⟨rx6,hrx6,rfl⟩:=wm hu6
    exact Rd
   obtain⟨pv6e,hpv6e,rfl⟩:=se hpv6
   have hs19:=hs17.trans (uU hpv6e)
   exact mz (yT [] KW hX (congrArg (exW stopV (λr:Unit=>(.tuple #[]:Value))) hs19))
  refine qR 9 3 U (tf 12 U U (λ_ _ _=>Hf U (cb (show false=((y1.Kind.toList==(nthI p.dM (i1:Int)).toList)&&(ba y1.gf 0 1099511627775))from by first|(rw[c6];rfl)|(rw[c6];rfl)|simp[c6]))) ?_)
  refine tn 13 U (rG Hy (kw h ((y1.Kind.toList==(nthI p.dM (i1:Int)).toList)&&(ba y1.gf 0 1099511627775)) 200) U (λu7 hu7=>?_) (λpv7 hpv7 e=>?_))
  .obtain⟨rx6,hrx6,rfl⟩:=wm hu7
   exact Rd
  obtain⟨pv7e,hpv7e,rfl⟩:=se hpv7
  have hs21:=hs17.trans (uU hpv7e)
  exact mz (yT [] KW hX (congrArg (exW stopV (λr:Unit=>(.tuple #[]:Value))) hs21))
 obtain⟨pv1e,hpv1e,rfl⟩:=se hpv1
 have hs22:=hs0.trans (uU hpv1e)
 exact mz (yT [] KW hX (congrArg (exW stopV (λr:Unit=>(.tuple #[]:Value))) hs22))
instance kC305:Ct 305:=⟨_,call305,@Fa⟩
theorem Ak(h p je p_q)(hp:ay.ok h p je)(ap_z:At h p_q (ay.cells p je))(hsm:smP p)(hk:dM h):FD prog 302 [.pointer (some p_q)] h (exW stopV (λr:Unit=>(.tuple #[]:Value)) (eU p)):=by
 refine sVv func302 ntmps302 ?_
 generalize hz:(eU p)=z
 have hsq:=hsm;unfold smP at hsq
 exact W
theorem MP(h:p:=by
  let z12:Nat×Obj:=(b6,O [I ((rec aE y1).Kind),I ((rec aE y1).N),I ((rec aE y1).No),.string ((rec aE y1).Name),.slice rr4.pE ((rec aE y1).L.length) rr4.pF] 59)
  exact tn 6 U (fd ao.eF ([z12,z8,z1,z4]) ([]) (λG=>[z12,z8,z1,z4]++G) ap (λ_=>ap) uB ty59 zc59 U bytes59 (BD.mono ao.aK hle4) U U (iM 0 U (cE (R:=ao.rp) (rec aE y1) U ⟨rr4,U,ok4⟩)) lo lo (λob2 oc2 G2 gr2=>⟨jn,qB [7] U (tn 8 U (lE 3 ty57 U U U U U U (⟨jn,dO kr (qT 2 U (oi i1 U (qO 2 U (dE (L':=[z1,(b1,O [I x.Kind,I x.N,I (bq aE x.Name),.string x.Name,.slice ob2 ((ot++[(rec aE y1)]).length) oc2] 59)]++G2) js (ag1 ((ot++[(rec aE y1)]),ob2,oc2,G2,h4) hs5 ⟨gr2,lo,(hl1.t hle4)⟩)))))⟩)))⟩))):p:=h
theorem MO(h:p:=by
  let z11:Nat×Obj:=(b12,O [I ((rec aE y2).Kind),I ((rec aE y2).N),I ((rec aE y2).No),.string ((rec aE y2).Name),.slice rr9.pE ((rec aE y2).L.length) rr9.pF] 59)
  exact tn 6 U (fd ao.eF ([z11,z7,z2,z6]) ([]) (λG=>[z11,z7,z2,z6]++G) ap (λ_=>ap) uB ty59 zc59 U bytes59 (Bw.mono ao.aK hle9) U U (iM 0 U (cE (R:=ao.rp) (rec aE y2) U ⟨rr9,U,ok9⟩)) lo lo (λob6 oc6 G6 gr6=>⟨jn,qB [7] U (tn 8 U (lE 3 ty57 U U U U U U (⟨jn,dO kr (qT 2 U (oi i2 U (qO 2 U (dE (L':=[z2,(b1,O [I x.Kind,I x.N,I 0,.string x.Name,.slice ob6 ((oq++[(rec aE y2)]).length) oc6] 59)]++G6) js (ag2 ((oq++[(rec aE y2)]),ob6,oc6,G6,h9) hs8 ⟨gr6,lo,(hl2.t hle9)⟩)))))⟩)))⟩))):p:=h
theorem AU(rec:List ByteArray->ao->ao)(h aE dT dS)(x:ao)(gU)(hrec:∀(h:HF)(qoffices:List ByteArray)(li:Option Addr)(lh:Nat)(qx:ao)(mt:dJ)(hqoffices:SlC YL h li lh qoffices)(hqx:ao.ok h qx mt)(hsz:qx.dep<=2000000)(_:qx.dep<x.dep),jv prog 306 [.slice li qoffices.length lh,.agg (ao.cells qx mt).toArray] h (λv h'=>∃(rr0:dJ),v=.agg (ao.cells (rec qoffices qx) rr0).toArray/\ao.ok h' (rec qoffices qx) rr0))(gR:SlC YL h dT dS aE)(hx:ao.ok h x gU)(hsz:x.dep<=2000000):jv prog 306 [.slice dT aE.length dS,.agg (ao.cells x gU).toArray] h (λv h'=>∃(rr0:dJ),v=.agg (ao.cells (aA.F rec aE x) rr0).toArray/\ao.ok h' (aA.F rec aE x) rr0):=by
 refine dL func306 U ntmps306 U λX hM hX=>?_
 have hs0:=@rfl _ (aA.F rec aE x)
 have hln:=ao.P4 x
 refine sr (iA (λb1=>cD zc59 (λb2=>qL 4 [] U (dD 1 ty3 U U U U U U (qO 4 U (eS 1 ty59 U U U (dP call308 (us _ _ _ (show ao.ok h (ao.mk x.Kind x.N 0 x.Name x.L) (dJ.mk gU.pE gU.pF)from ao.ok.of hx.list)) U (bM (cQ hs0 U (λc1 hs1=>?_) (λc1 hs2=>?_))))))))))
 .refine qK 4 [1] U (dP call309 (rE _ _ _ _ x.Name gR) U (qL 1 [] U (dD 1 ty3 U U U U U U (qL 10 [1] U (dD 1 ty57 U U U U U U (qL 8 [] U ?_))))))
  let z1:Nat×Obj:=(b2,O [I 0,I 0,I 0,.string (⟨#[]⟩:ByteArray),zSN] 59)
  refine lp2 x.L (λi w=>[(0,.slice dT aE.length dS),(3,Q b1),(4,Q b2),(19,.slice gU.pE x.L.length gU.pF),(20,I (x.L.length:Int)),(21,I (i:Int))]) (λw=>w.2.2.2.2) (λw=>[z1,(b1,O [I x.Kind,I x.N,I (bq aE x.Name),.string x.Name,.slice w.2.1 w.1.length w.2.2.1] 59)]++(w.2.2.2.1)) (λi w=>cI ao.rp 59 w.2.2.2.2 w.1 w.2.1 w.2.2.1 w.2.2.2.1/\w.1.length<=0+i/\jL h w.2.2.2.2) (λs1 i w=>(aA.L1 rec aE (aA.K1 aE x)) s1 w.1) ([],none,0,[],h) hx.list.1.1 hs1 ⟨cI.nil,lo,lf⟩ ?_ ?_
  .rintro i1 ⟨ot,tP,tN,Es,hh1⟩ m4 hs3 ⟨BD,Jm,hl1⟩ e
   try dsimp only at BD Jm hl1
   let z3:Nat×Obj:=(b1,O [I x.Kind,I x.N,I (bq aE x.Name),.string x.Name,.slice tP ot.length tN] 59)
   let z15:Nat×Obj:=(b2,O [I x.Kind,I x.N,I (bq aE x.Name),.string x.Name,.slice tP ot.length tN] 59)
   refine sr (eS 1 ty59 U U U (ct 0 ty59 U U U U U U (kX (L':=[z15,z3]++(Es)) U (bM (ib ao.aK ([z15,z3]) Es ([]) ap hM BD (λh3 hle3 sl2=>?_))))))
   have hs4:aA.F rec aE x=(ao.mk x.Kind x.N (bq aE x.Name) x.Name ot):=hs3
   exact lD [.agg (kB [I x.Kind,I x.N,I (bq aE x.Name),.string x.Name,.slice tP ot.length tN])] func306 U ⟨⟨0,_,_,_,_,U,U,.inl ⟨ty59,U⟩⟩,trivial⟩ ⟨(dJ.mk tP tN),congrArg (λr:ao=>(.agg (ao.cells r (dJ.mk tP tN)).toArray:Value)) hs4.symm,(by rw[hs4];exact(show ao.ok h3 (ao.mk x.Kind x.N (bq aE x.Name) x.Name ot) (dJ.mk tP tN)from ao.ok.of sl2))⟩
  rintro i1 ⟨ot,tP,tN,Es,hh1⟩ y1 rz1 hd1 mN kl oD yD hs5 ⟨BD,Jm,hl1⟩ hx1 ag1 e
  try dsimp only at BD Jm hl1
  have hdy:=ao.lB (eM hd1)
  refine sr (tO mN U (qO 8 U (aM (iR uB ty59 (hx.list.mono ao.aK hl1).1 kl U U U (λ_ _ _ e=>e) (λq2 r2 A2 ok3=>?_)))))
  let z4:Nat×Obj:=(b1,O [I x.Kind,I x.N,I (bq aE x.Name),.string x.Name,.slice tP ot.length tN] 59)
  refine gV ty59 A2 U U (cD zc59 (λb5=>ct 0 ty59 U U U U U U (kX (L':=[(b5,O (ao.cells y1 r2) 59),z1,z4]++(Es)) U (bM ?_))))
  let z8:Nat×Obj:=(b5,O (ao.cells y1 r2) 59)
  refine fQ ([z8,z1]) mixed kr jn (λlA _=>?_)
  refine qB [0,2] U (tf 3 U U (λ_ _ hj=>oA ty59 U (hj.nth (i:=0) U) U) ?_)
  refine nq 1 4 kr U U ?_ ?_ 
  .refine em (wM ty57 U (qo (i:=2) U) U) (⟨jn,tn 4 U (cW NE (hrec _ _ _ _ _ _ (gR.mono ZF hl1) ok3 ob (ao.lB (eM hd1))) U (λv2 h4 hle4 hp2=>?_))⟩)
   obtain⟨rr4,rfl,ok4⟩:=hp2
   refine⟨jl hle4,tu hle4 (tn 5 U (bW (cells:=[I ((rec aE y1).Kind),I ((rec aE y1).N),I ((rec aE y1).No),.string ((rec aE y1).Name),.slice rr4.pE ((rec aE y1).L.length) rr4.pF]) uB ty59 zc59 U U kr (λb6=>⟨jn,?_⟩)))⟩
   exact MP
  refine cW NE (hrec _ _ _ _ _ _ (gR.mono ZF hl1) ok3 ob (ao.lB (eM hd1))) U (λv3 h4 hle4 hp3=>?_)
  obtain⟨rr4,rfl,ok4⟩:=hp3
  refine⟨jl hle4,tu hle4 ?_⟩
  refine nq 1 5 kr U U ?_ ?_ 
  .refine em (wM ty57 U (qo (i:=2) U) U) (⟨jn,tn 5 U (bW (cells:=[I ((rec aE y1).Kind),I ((rec aE y1).N),I ((rec aE y1).No),.string ((rec aE y1).Name),.slice rr4.pE ((rec aE y1).L.length) rr4.pF]) uB ty59 zc59 U U kr (λb6=>⟨jn,?_⟩))⟩)
   exact MP
  refine bW (cells:=[I ((rec aE y1).Kind),I ((rec aE y1).N),I ((rec aE y1).No),.string ((rec aE y1).Name),.slice rr4.pE ((rec aE y1).L.length) rr4.pF]) uB ty59 zc59 U U kr (λb6=>⟨jn,tn 1 U (em (wM ty57 U (qo (i:=3) U) U) (⟨jn,?_⟩))⟩)
  exact MP
 refine qK 10 [1] U (dD 1 ty57 U U U U U U (qL 8 [] U ?_))
 let z2:Nat×Obj:=(b2,O [I 0,I 0,I 0,.string (⟨#[]⟩:ByteArray),zSN] 59)
 refine lp2 x.L (λi w=>[(0,.slice dT aE.length dS),(3,Q b1),(4,Q b2),(19,.slice gU.pE x.L.length gU.pF),(20,I (x.L.length:Int)),(21,I (i:Int))]) (λw=>w.2.2.2.2) (λw=>[z2,(b1,O [I x.Kind,I x.N,I 0,.string x.Name,.slice w.2.1 w.1.length w.2.2.1] 59)]++(w.2.2.2.1)) (λi w=>cI ao.rp 59 w.2.2.2.2 w.1 w.2.1 w.2.2.1 w.2.2.2.1/\w.1.length<=0+i/\jL h w.2.2.2.2) (λs2 i w=>(aA.L2 rec aE (aA.K2 x)) s2 w.1) ([],none,0,[],h) hx.list.1.1 hs2 ⟨cI.nil,lo,lf⟩ ?_ ?_
 .rintro i2 ⟨oq,tL,tK,El,hh2⟩ Ed hs6 ⟨Bw,Jf,hl2⟩ e
  try dsimp only at Bw Jf hl2
  let z5:Nat×Obj:=(b1,O [I x.Kind,I x.N,I 0,.string x.Name,.slice tL oq.length tK] 59)
  let z16:Nat×Obj:=(b2,O [I x.Kind,I x.N,I 0,.string x.Name,.slice tL oq.length tK] 59)
  refine sr (eS 1 ty59 U U U (ct 0 ty59 U U U U U U (kX (L':=[z16,z5]++(El)) U (bM (ib ao.aK ([z16,z5]) El ([]) ap hM Bw (λh8 hle8 sl4=>?_))))))
  have hs7:aA.F rec aE x=(ao.mk x.Kind x.N 0 x.Name oq):=hs6
  exact lD [.agg (kB [I x.Kind,I x.N,I 0,.string x.Name,.slice tL oq.length tK])] func306 U ⟨⟨0,_,_,_,_,U,U,.inl ⟨ty59,U⟩⟩,trivial⟩ ⟨(dJ.mk tL tK),congrArg (λr:ao=>(.agg (ao.cells r (dJ.mk tL tK)).toArray:Value)) hs7.symm,(by rw[hs7];exact(show ao.ok h8 (ao.mk x.Kind x.N 0 x.Name oq) (dJ.mk tL tK)from ao.ok.of sl4))⟩
 rintro i2 ⟨oq,tL,tK,El,hh2⟩ y2 rz2 hd2 Ar uv I2 Qc hs8 ⟨Bw,Jf,hl2⟩ hx2 ag2 e
 try dsimp only at Bw Jf hl2
 have hdy:=ao.lB (eM hd2)
 refine sr (tO Ar U (qO 8 U (aM (iR uB ty59 (hx.list.mono ao.aK hl2).1 uv U U U (λ_ _ _ e=>e) (λq4 r4 A4 ok8=>?_)))))
 let z6:Nat×Obj:=(b1,O [I x.Kind,I x.N,I 0,.string x.Name,.slice tL oq.length tK] 59)
 refine gV ty59 A4 U U (cD zc59 (λb11=>ct 0 ty59 U U U U U U (kX (L':=[(b11,O (ao.cells y2 r4) 59),z2,z6]++(El)) U (bM ?_))))
 let z7:Nat×Obj:=(b11,O (ao.cells y2 r4) 59)
 refine fQ ([z7,z2]) mixed kr jn (λpc _=>?_)
 refine qB [0,2] U (tf 3 U U (λ_ _ hj=>oA ty59 U (hj.nth (i:=0) U) U) ?_)
 refine nq 1 4 kr U U ?_ ?_ 
 .refine em (wM ty57 U (qo (i:=2) U) U) (⟨jn,tn 4 U (cW NE (hrec _ _ _ _ _ _ (gR.mono ZF hl2) ok8 ob (ao.lB (eM hd2))) U (λv5 h9 hle9 hp5=>?_))⟩)
  obtain⟨rr9,rfl,ok9⟩:=hp5
  refine⟨jl hle9,tu hle9 (tn 5 U (bW (cells:=[I ((rec aE y2).Kind),I ((rec aE y2).N),I ((rec aE y2).No),.string ((rec aE y2).Name),.slice rr9.pE ((rec aE y2).L.length) rr9.pF]) uB ty59 zc59 U U kr (λb12=>⟨jn,?_⟩)))⟩
  exact MO
 refine cW NE (hrec _ _ _ _ _ _ (gR.mono ZF hl2) ok8 ob (ao.lB (eM hd2))) U (λv6 h9 hle9 hp6=>?_)
 obtain⟨rr9,rfl,ok9⟩:=hp6
 refine⟨jl hle9,tu hle9 ?_⟩
 refine nq 1 5 kr U U ?_ ?_ 
 .refine em (wM ty57 U (qo (i:=2) U) U) (⟨jn,tn 5 U (bW (cells:=[I ((rec aE y2).Kind),I ((rec aE y2).N),I ((rec aE y2).No),.string ((rec aE y2).Name),.slice rr9.pE ((rec aE y2).L.length) rr9.pF]) uB ty59 zc59 U U kr (λb12=>⟨jn,?_⟩))⟩)
  exact MO
 refine bW (cells:=[I ((rec aE y2).Kind),I ((rec aE y2).N),I ((rec aE y2).No),.string ((rec aE y2).Name),.slice rr9.pE ((rec aE y2).L.length) rr9.pF]) uB ty59 zc59 U U kr (λb12=>⟨jn,tn 1 U (em (wM ty57 U (qo (i:=3) U) U) (⟨jn,?_⟩))⟩)
 exact MO
theorem rN:∀(m:Nat)(h:HF)(aE:List ByteArray)(dT:Option Addr)(dS:Nat)(x:ao)(gU:dJ)(_:x.dep<=m)(gR:SlC YL h dT dS aE)(hx:ao.ok h x gU)(hsz:x.dep<=2000000),jv prog 306 [.slice dT aE.length dS,.agg (ao.cells x gU).toArray] h (λv h'=>∃(rr0:dJ),v=.agg (ao.cells (aA.go m aE x) rr0).toArray/\ao.ok h' (aA.go m aE x) rr0)
 |0,h,aE,dT,dS,x,gU,hd,gR,hx,hsz=>absurd hd (Nat.not_le.2 (ao.np _))
 |m+1,h,aE,dT,dS,x,gU,hd,gR,hx,hsz=>AU (aA.go m) h aE dT dS x gU (λqh_ qoffices li lh qx mt qhoffices qhx qhsz qd=>rN m qh_ qoffices li lh qx mt ob qhoffices qhx qhsz) gR hx hsz
theorem ul(h aE dT dS x gU)(gR:SlC YL h dT dS aE)(hx:ao.ok h x gU)(hsz:x.dep<=2000000):jv prog 306 [.slice dT aE.length dS,.agg (ao.cells x gU).toArray] h (λv h'=>∃(rr0:dJ),v=.agg (ao.cells (aA aE x) rr0).toArray/\ao.ok h' (aA aE x) rr0):=rN _ h aE dT dS x gU (xE _) gR hx hsz
theorem Cu(h p je)(hp:ay.ok h p je)(hsm:smP p)(hk:dM h):jv prog 212 [.agg (ay.cells p je).toArray] h (λv h'=>∃(rr0:ir),v=.tuple #[.agg (ay.cells ((eG p).1) rr0).toArray,I ((eG p).2)]/\ay.ok h' ((eG p).1) rr0):=by
 refine dL func212 U ntmps212 U λX hM hX=>?_
 have hs0:=@rfl _ (eG p)
 have hsc:=hsm.change
 have hsr:=hsm.rules
 refine sr (iA (λb1=>cD zc61 (λb2=>qO 4 U (dF 1 U hM (λh1 hle1 hb1=>aM (jy U U (dP (v:=I (attR (eU p))) call301 (Cs h1 (.func (.func 302) #[] #[Q b1]) (eU p) (nI (args:=[]) (cap:=[Q b1]) call302 (Ak h1 p je ⟨b1,0,none⟩ (hp.mono hle1) (fJ hb1) (by first|assumption|omega) (hk.mono hle1)))) U (qO 8 U (cQ hs0 U (λc1 hs1=>?_) (λc1 hs2=>?_))))))))))
 .refine sr (eS 0 ty61 U U U (cN (ct 0 ty61 U U U U U U (an ?_))))
  have hs3:eG p=((ay.mk (⟨#[]⟩:ByteArray) ([]) ([]) ([]) (ao.mk 0 0 0 (⟨#[]⟩:ByteArray) ([])) 0),(attR (eU p))):=hs1
  exact lD [.agg (kB [.string (⟨#[]⟩:ByteArray),zSN,zSN,zSN,I 0,I 0,I 0,.string (⟨#[]⟩:ByteArray),zSN,I 0]),I (attR (eU p))] func212 U ⟨⟨0,_,_,_,_,U,U,.inl ⟨ty61,U⟩⟩,U,trivial⟩ ⟨(ir.mk none 0 none 0 none 0 (dJ.mk none 0)),congrArg (λr:(ay×Int)=>(.tuple #[.agg (ay.cells r.1 (ir.mk none 0 none 0 none 0 (dJ.mk none 0))).toArray,I r.2]:Value)) hs3.symm,(by rw[hs3];exact(show ay.ok h1 (ay.mk (⟨#[]⟩:ByteArray) ([]) ([]) ([]) (ao.mk 0 0 0 (⟨#[]⟩:ByteArray) ([])) 0) (ir.mk none 0 none 0 none 0 (dJ.mk none 0))from⟨qH,qH,qH,(show ao.ok h1 (ao.mk 0 0 0 (⟨#[]⟩:ByteArray) ([])) (dJ.mk none 0)from ao.ok.of qH)⟩))⟩
 refine qT 3 U (gV ty61 (fJ hb1) U U (ct 0 ty61 U U U U U U (qL 4 [] U (dD 0 ty56 U U U U U U (qL 5 [] U (nv (j:=3) ty56 (fJ hb1) U U (qL 3 [] U ?_)))))))
 refine lp2 p.cZ (λi w=>[(1,Q b1),(2,Q b2),(15,.slice je.pN p.cZ.length je.pM),(16,I (p.cZ.length:Int)),(17,I (i:Int))]) (λw=>w.2.2.2.2) (λw=>[(b2,O [.string p.Name,.slice je.j3 p.dM.length je.j1,.slice je.gI p.aB.length je.gH,.slice w.2.1 w.1.length w.2.2.1,I p.aS.Kind,I p.aS.N,I p.aS.No,.string p.aS.Name,.slice je.aS.pE p.aS.L.length je.aS.pF,I p.Mode] 61)]++(w.2.2.2.1)) (λi w=>cI fg.rp 65 w.2.2.2.2 w.1 w.2.1 w.2.2.1 w.2.2.2.1/\w.1.length<=0+i/\jL h1 w.2.2.2.2) (λs1 i w=>(eG.L1 p (eG.K1 p)) s1 i w.1) ([],none,0,[],h1) ((hp.cZ.mono fg.aK hle1).1.1) hs2 ⟨cI.nil,lo,lf⟩ ?_ ?_
 .rintro i1 ⟨ph,wk,wj,Er,hh1⟩ m4 hs4 ⟨BC,Jl,hl1⟩ e
  try dsimp only at BC Jl hl1
  refine qK 3 [] U (nv (j:=2) ty55 ((fJ hb1).mono hl1) U U (qL 1 [] U (II (j:=4) ty59 ((fJ hb1).mono hl1) U U (aM (cW NE (ul _ _ _ _ _ _ (hp.aB.mono ZF (hle1.t hl1)) (hp.aS.mono (hle1.t hl1)) ob) U (λv3 h5 hle5 hp3=>?_))))))
  obtain⟨rr4,rfl,ok4⟩:=hp3
  let z2:Nat×Obj:=(b2,O [.string p.Name,.slice je.j3 p.dM.length je.j1,.slice je.gI p.aB.length je.gH,.slice wk ph.length wj,I ((aA p.aB p.aS).Kind),I ((aA p.aB p.aS).N),I ((aA p.aB p.aS).No),.string ((aA p.aB p.aS).Name),.slice rr4.pE ((aA p.aB p.aS).L.length) rr4.pF,I p.Mode] 61)
  refine qL 1 [] U (dD 0 ty59 U U U U U U (qO 3 U (eS 0 ty61 U U U (ct 0 ty61 U U U U U U (kX (L':=[z2]++(Er)) U (an (ib fg.aK ([z2]) Er ([]) ap hM (BC.mono fg.aK hle5) (λh6 hle6 sl2=>?_))))))))
  have hs5:eG p=((ay.mk p.Name p.dM p.aB ph (ao.mk ((aA p.aB p.aS).Kind) ((aA p.aB p.aS).N) ((aA p.aB p.aS).No) ((aA p.aB p.aS).Name) ((aA p.aB p.aS).L)) p.Mode),0):=hs4
  exact lD [.agg (ay.cells (ay.mk p.Name p.dM p.aB ph (ao.mk ((aA p.aB p.aS).Kind) ((aA p.aB p.aS).N) ((aA p.aB p.aS).No) ((aA p.aB p.aS).Name) ((aA p.aB p.aS).L)) p.Mode) (ir.mk je.j3 je.j1 je.gI je.gH wk wj (dJ.mk rr4.pE rr4.pF))).toArray,I 0] func212 U ⟨⟨0,_,_,_,_,U,U,.inl ⟨ty61,U⟩⟩,U,trivial⟩ ⟨(ir.mk je.j3 je.j1 je.gI je.gH wk wj (dJ.mk rr4.pE rr4.pF)),congrArg (λr:(ay×Int)=>(.tuple #[.agg (ay.cells r.1 (ir.mk je.j3 je.j1 je.gI je.gH wk wj (dJ.mk rr4.pE rr4.pF))).toArray,I r.2]:Value)) hs5.symm,(by rw[hs5];exact(show ay.ok h6 (ay.mk p.Name p.dM p.aB ph (ao.mk ((aA p.aB p.aS).Kind) ((aA p.aB p.aS).N) ((aA p.aB p.aS).No) ((aA p.aB p.aS).Name) ((aA p.aB p.aS).L)) p.Mode) (ir.mk je.j3 je.j1 je.gI je.gH wk wj (dJ.mk rr4.pE rr4.pF))from⟨(hp.dM.mono ZF (((hle1.t hl1).t hle5).t hle6)),(hp.aB.mono ZF (((hle1.t hl1).t hle5).t hle6)),sl2,(show ao.ok h6 (ao.mk ((aA p.aB p.aS).Kind) ((aA p.aB p.aS).N) ((aA p.aB p.aS).No) ((aA p.aB p.aS).Name) ((aA p.aB p.aS).L)) (dJ.mk rr4.pE rr4.pF)from ao.ok.of (ok4.list.mono ao.aK hle6))⟩))⟩
 rintro i1 ⟨ph,wk,wj,Er,hh1⟩ y1 rz1 hd1 mN kl oD yD hs6 ⟨BC,Jl,hl1⟩ hx1 ag1 e
 try dsimp only at BC Jl hl1
 have hsy:=hsm.2.1 y1 (eM hd1)
 refine sr (tO mN U (qO 9 U (aM (iR Hu ty65 (hp.cZ.mono fg.aK (hle1.t hl1)).1 kl U U U (λ_ _ _ e=>e) (λq2 r2 A2 ok5=>?_)))))
 let z1:Nat×Obj:=(b2,O [.string p.Name,.slice je.j3 p.dM.length je.j1,.slice je.gI p.aB.length je.gH,.slice wk ph.length wj,I p.aS.Kind,I p.aS.N,I p.aS.No,.string p.aS.Name,.slice je.aS.pE p.aS.L.length je.aS.pF,I p.Mode] 61)
 refine gV ty65 A2 U U (cD zc65 (λb5=>iB (ct 0 ty65 U U U U U U (kX (L':=[(b5,O (fg.cells y1 r2) 65),z1]++(Er)) U (qL 5 [] U (nv (j:=2) ty55 ((fJ hb1).mono hl1) U U (qL 1 [] U (eS 0 ty59 U U U (aM (cW NE (ul _ _ _ _ _ _ (hp.aB.mono ZF (hle1.t hl1)) ok5.ao ob) U (λv4 h7 hle7 hp4=>?_)))))))))))
 obtain⟨rr6,rfl,ok6⟩:=hp4
 refine qL 1 [] U (dD 0 ty3 U U U U U U (qL 1 [] U (dD 0 ty59 U U U U U U (qL 4 [1] U (eS 0 ty65 U U U (aM (bW (cells:=[.string y1.Kind,I (i1:Int),I y1.gf,I ((aA p.aB y1.ao).Kind),I ((aA p.aB y1.ao).N),I ((aA p.aB y1.ao).No),.string ((aA p.aB y1.ao).Name),.slice rr6.pE ((aA p.aB y1.ao).L.length) rr6.pF]) Hu ty65 zc65 U U kr (λb6=>?_))))))))
 let z3:Nat×Obj:=(b6,O [.string y1.Kind,I (i1:Int),I y1.gf,I ((aA p.aB y1.ao).Kind),I ((aA p.aB y1.ao).N),I ((aA p.aB y1.ao).No),.string ((aA p.aB y1.ao).Name),.slice rr6.pE ((aA p.aB y1.ao).L.length) rr6.pF] 65)
 let z4:Nat×Obj:=(b5,O [.string y1.Kind,I (i1:Int),I y1.gf,I ((aA p.aB y1.ao).Kind),I ((aA p.aB y1.ao).N),I ((aA p.aB y1.ao).No),.string ((aA p.aB y1.ao).Name),.slice rr6.pE ((aA p.aB y1.ao).L.length) rr6.pF] 65)
 refine aM (fd fg.eF ([z3,z4,z1]) ([]) (λG=>[z3,z4,z1]++G) ap (λ_=>ap) Hu ty65 zc65 U bytes65 (BC.mono fg.aK hle7) U U (iM 0 U (cE (R:=fg.rp) (fg.mk y1.Kind (i1:Int) y1.gf (ao.mk ((aA p.aB y1.ao).Kind) ((aA p.aB y1.ao).N) ((aA p.aB y1.ao).No) ((aA p.aB y1.ao).Name) ((aA p.aB y1.ao).L))) U ⟨(yN.mk (dJ.mk rr6.pE rr6.pF)),U,(show fg.ok h7 (fg.mk y1.Kind (i1:Int) y1.gf (ao.mk ((aA p.aB y1.ao).Kind) ((aA p.aB y1.ao).N) ((aA p.aB y1.ao).No) ((aA p.aB y1.ao).Name) ((aA p.aB y1.ao).L))) (yN.mk (dJ.mk rr6.pE rr6.pF))from⟨(show ao.ok h7 (ao.mk ((aA p.aB y1.ao).Kind) ((aA p.aB y1.ao).N) ((aA p.aB y1.ao).No) ((aA p.aB y1.ao).Name) ((aA p.aB y1.ao).L)) (dJ.mk rr6.pE rr6.pF)from ao.ok.of ok6.list)⟩)⟩)) lo lo (λob2 oc2 G2 gr2=>qL 1 [] U (dD 2 ty56 U U U U U U (qO 3 U (oi i1 U (qO 2 U (dE (L':=[(b2,O [.string p.Name,.slice je.j3 p.dM.length je.j1,.slice je.gI p.aB.length je.gH,.slice ob2 ((ph++[(fg.mk y1.Kind (i1:Int) y1.gf (ao.mk ((aA p.aB y1.ao).Kind) ((aA p.aB y1.ao).N) ((aA p.aB y1.ao).No) ((aA p.aB y1.ao).Name) ((aA p.aB y1.ao).L)))]).length) oc2,I p.aS.Kind,I p.aS.N,I p.aS.No,.string p.aS.Name,.slice je.aS.pE p.aS.L.length je.aS.pF,I p.Mode] 61)]++G2) js ?_)))))))
 exact ag1 ((ph++[(fg.mk y1.Kind (i1:Int) y1.gf (ao.mk ((aA p.aB y1.ao).Kind) ((aA p.aB y1.ao).N) ((aA p.aB y1.ao).No) ((aA p.aB y1.ao).Name) ((aA p.aB y1.ao).L)))]),ob2,oc2,G2,h7) hs6 ⟨gr2,lo,(hl1.t hle7)⟩
instance kC212:Ct 212:=⟨_,call212,@Cu⟩
theorem AT(h aE dT dS x gU)(gR:SlC YL h dT dS aE)(hx:ao.ok h x gU)(hsz:x.dep<=1500000):Ret prog 213 [.slice dT aE.length dS,.agg (ao.cells x gU).toArray] h (.bool (cJ aE x)):=by
 refine sVv func213 ntmps213 ?_
 generalize hz:(cJ aE x)=z
 have HA:=lS z (λw=>false) .mE (λs w=>((cJ.L1 aE (cJ.K1)) s))
 exact W
instance kC213:Ct 213:=⟨_,call213,@AT⟩
theorem w6(h p je)(hp:ay.ok h p je)(hsm:smP p)(hk:dM h):Ret prog 129 [.agg (ay.cells p je).toArray] h (I (dy p)):=by
 refine sVv func129 ntmps129 ?_
 generalize hz:(dy p)=z
 have hsc:=hsm.change
 have hsq:=hsm;unfold smP at hsq
 have w0:=λ{y}(a:y∈_)=>hsm.2.1 y a
 have HA:=h0 [1,14,15] 16 (λs1 i=>(dy.L1 p (dy.K1 p)) s1 i)
 exact W
instance kC129:Ct 129:=⟨_,call129,@w6⟩
theorem tD(h l fm fj)(hl:SlC aD.rp h fm fj l)(hsm:smV l)(hk:dM h):Ret prog 49 [.slice fm l.length fj] h (I (bE l)):=by
 refine sVv func49 ntmps49 ?_
 generalize hz:(bE l)=z
 have hsl:=hsm.len
 have w0:=λ{y}(a:y∈_)=>hsm.2 y a
 have HA:=h1 [9,10] 11 (λw=>[(3,I w)]) (λs1 i w=>(bE.L1 (bE.K1)) s1 w)
 exact W
theorem sG(h l fm fj)(hl:SlC av.rp h fm fj l):jv prog 130 [.slice fm l.length fj] h (λv h'=>∃(rr0:pj),v=.agg (iK.cells (aI l) rr0).toArray/\iK.ok h' (aI l) rr0):=by
 refine sVv func130 ntmps130 ?_
 generalize hz:(aI l)=z
 have HA:=λ{b2}=>lM [2,3,9,10] 11 (.mM b2 (jC .i64) Aw .mE) (λs1 i w=>(aI.L1 (aI.K1 l)) s1 i w.1)
 exact W
instance kC130:Ct 130:=⟨_,call130,@sG⟩
theorem sf(h t)  : Ret prog 95 [I t] h (.bool (iZ t)):=by
 refine sVv func95 ntmps95 ?_
 generalize hz:(iZ t)=z
 exact W
instance kC95:Ct 95:=⟨_,call95,@sf⟩
theorem EA(h l fm fj dY)(hl:SlC vB h fm fj l):Ret prog 214 [.slice fm l.length fj,I dY] h (.bool (eZ l dY)):=by
 refine sVv func214 ntmps214 ?_
 generalize hz:(eZ l dY)=z
 have HA:=h1 [0,1,8,9] 10 (λw=>[(5,I w)]) (λs1 i w=>(eZ.L1 dY (eZ.K1 l)) s1 w)
 exact W
instance kC214:Ct 214:=⟨_,call214,@EA⟩
theorem Dl(h d BH)(hd:av.ok h d BH):Ret prog 131 [.agg (av.cells d BH).toArray] h (.bool (mw d)):=by
 refine sVv func131 ntmps131 ?_
 generalize hz:(mw d)=z
 exact W
instance kC131:Ct 131:=⟨_,call131,@Dl⟩
theorem xU(h no v0 SX v0_q)(hv0:iK.ok h v0 SX)(av0:At h v0_q (iK.cells v0 SX)):Ret prog 215 [I no,.pointer (some v0_q)] h (.bool (iD no v0)):=by
 refine sT func215 U ntmps215 U λX hM hX hF=>?_
 have hs0:=@rfl _ (iD no v0)
 refine qK 7 [] U (nv (j:=1) ty183 av0 U U (cN ?_))
 obtain⟨o1,hb1,hm1⟩:=hv0.at_
 refine aM (wR (k:=no) Dv (ga nz) hb1 hm1 (fG zv3) (show Aw _ (I 0) 0 from U) U U (λv1 hv1=>?_))
 obtain rfl:=hv1
 exact cN (qO 11 U (nretP [.bool (!(mhas v0.at_ no))] (cs hs0)))
instance kC215:Ct 215:=⟨_,call215,@xU⟩
theorem zq(h s Yh d BH)(hs:iK.ok h s Yh)(hd:av.ok h d BH):Ret prog 132 [.agg (iK.cells s Yh).toArray,.agg (av.cells d BH).toArray] h (.bool (j6 s d)):=by
 refine sVv func132 ntmps132 ?_
 generalize hz:(j6 s d)=z
 exact W
instance kC132:Ct 132:=⟨_,call132,@zq⟩
theorem qX(h l fm fj)(hl:SlC av.rp h fm fj l):Ret prog 50 [.slice fm l.length fj] h (I (aY l)):=by
 refine sVv func50 ntmps50 ?_
 generalize hz:(aY l)=z
 have HA:=h0 [0,3,11,12] 13 (λs1 i=>(aY.L1 l (aY.K1)) s1 i)
 exact W
theorem As(h gj v0 v0_q)(av0:At h v0_q [I v0]):Ret prog 252 [I gj,.pointer (some v0_q)] h (.bool (iz gj v0)):=by
 refine sVv func252 ntmps252 ?_
 generalize hz:(iz gj v0)=z
 exact W
instance kC252:Ct 252:=⟨_,call252,@As⟩
theorem pT(h most l fm fj)(hl:SlC vB h fm fj l):Ret prog 162 [I most,.slice fm l.length fj] h (.bool (dB most l)):=by
 refine sVv func162 ntmps162 ?_
 generalize hz:(dB most l)=z
 exact W
instance kC162:Ct 162:=⟨_,call162,@pT⟩
theorem wz(h)(x:ai)  : Ret prog 87 [.agg (ai.cells x).toArray] h (.bool (eu x)):=by
 refine sVv func87 ntmps87 ?_
 generalize hz:(eu x)=z
 exact W
instance kC87:Ct 87:=⟨_,call87,@wz⟩
theorem qZ(h l fm fj)(hl:SlC ai.rp h fm fj l):Ret prog 51 [.slice fm l.length fj] h (I (aX l)):=by
 refine sVv func51 ntmps51 ?_
 generalize hz:(aX l)=z
 have HA:=h1 [9,10] 11 (λw=>[(3,I w)]) (λs1 i w=>(aX.L1 (aX.K1)) s1 w)
 exact W
theorem Bk(h co eP)(m5:vL h co eP)(hsm:smR co)(hk:dM h):Ret prog 11 [.agg (qD co eP).toArray] h (I (dq co)):=by
 refine sT func11 U ntmps11 U λX hM hX hF=>?_
 have hs0:=@rfl _ (dq co)
 have hsv:=hsm.vers
 refine sr (iA (λb1=>qO 4 U ?_))
 let z1:Nat×Obj:=(b1,O (qD co eP) 30)
 refine fQ ([z1]) mixed kr jn (λlA _=>?_)
 refine qB [0] U (tf 1 U U (rj 0 ty22 U U U) (qB [3] U (tf 4 U U (rj 0 ty23 U U U) (qB [6] U (tf 7 U U (rj 0 ty24 U U U) (qB [9] U (tf 10 U U (rj 0 ty25 U U U) (qB [12] U (tf 13 U U (rj 0 ty26 U U U) (qB [15] U (tf 16 U U (rj 0 ty27 U U U) (qB [18] U (tf 19 U U (rj 0 ty28 U U U) (tm 23 U (tn 2 U (jq call45 (yu _ _ _ _ m5.da) U (⟨jn,tn 5 U (jq call46 (xd _ _ _ _ m5.eI) U (⟨jn,tn 8 U (jq call47 (wi _ _ _ _ m5.dt) U (⟨jn,tn 11 U (jq call48 (sU _ _ _ _ m5.df) U (⟨jn,tn 14 U (jq call49 (tD _ _ _ _ m5.Versions ob hk) U (⟨jn,(tn 17 U (jq call50 (qX _ _ _ _ m5.bV) U (⟨jn,(tn 20 U (jq call51 (qZ _ _ _ _ m5.bO) U (⟨jn,(tn 21 U (bW (cells:=[I (dX co.da),I (dR co.eI),I (du co.dt),I (bC co.df),I (bE co.Versions),I (aY co.bV),I (aX co.bO)]) underlying110 ty37 zc37 U U kr (λb2=>⟨jn,(tf 22 U U (λ_ _ _=>Ll underlying110 U) (dO kr (gM 0 U hM (λh1 hle1 hb1=>?_))))⟩)))⟩)))⟩)))⟩))⟩))⟩))⟩))⟩)))))))))))))))))
 have sl1:SlC vB h1 (zAD b2) 7 ([(dX co.da),(dR co.eI),(du co.dt),(bC co.df),(bE co.Versions),(aY co.bV),(aX co.bO)]):=dC.slB0 (T:=37) (fz:=(0,0)) ((show dC vB h [I (dX co.da),I (dR co.eI),I (du co.dt),I (bC co.df),I (bE co.Versions),I (aY co.bV),I (aX co.bO)] ([(dX co.da),(dR co.eI),(du co.dt),(bC co.df),(bE co.Versions),(aY co.bV),(aX co.bO)])from⟨[I (dX co.da)],[I (dR co.eI),I (du co.dt),I (bC co.df),I (bE co.Versions),I (aY co.bV),I (aX co.bO)],rfl,rfl,rfl,⟨[I (dR co.eI)],[I (du co.dt),I (bC co.df),I (bE co.Versions),I (aY co.bV),I (aX co.bO)],rfl,rfl,rfl,⟨[I (du co.dt)],[I (bC co.df),I (bE co.Versions),I (aY co.bV),I (aX co.bO)],rfl,rfl,rfl,⟨[I (bC co.df)],[I (bE co.Versions),I (aY co.bV),I (aX co.bO)],rfl,rfl,rfl,⟨[I (bE co.Versions)],[I (aY co.bV),I (aX co.bO)],rfl,rfl,rfl,⟨[I (aY co.bV)],[I (aX co.bO)],rfl,rfl,rfl,⟨[I (aX co.bO)],[],rfl,rfl,rfl,rfl⟩⟩⟩⟩⟩⟩⟩).mono Rp.bU hle1) hb1
 refine fZ (ι:=Nat) (λi=>[]) (λi=>h1) (λi=>[z1]) (λi=>i<=(zD 7).length/\dq co=((dq.K1))) ?_ (λhx1=>?_)
 .rintro i1 ⟨m4,hs1⟩ e
  exact sr (an (nretP [I 0] (ci hs1)))
 refine i9 (ι:=Nat×List Nat) (λi=>[(26,.slice (zAD b2) 7 7),(27,I 7),(28,I (i.1:Int))]) (λi=>h1) (λi=>[z1]) (λi=>(zD 7).drop i.1=i.2/\i.1<=(zD 7).length/\dq co=((dq.L1 co (dq.K1)) i.2 i.1)) (λi=>i.2.length) (0,(zD 7)) rd sw ⟨U,jH _,hs0⟩ ?_
 rintro⟨i1,s1⟩ ⟨hd1,m4,hs3⟩ ag1 e
 rcases s1 with _|⟨y1,rz1⟩
 .have uQ:decide ((i1:Int)<7)=false:=by simpa using oW hd1
  exact sr (fO uQ U (qO 4 U (hx1 i1 _ ⟨m4,hs3⟩ trivial)))
 have mN:decide ((i1:Int)<7)=true:=by simpa using wp hd1
 have oD:i1<7:=by simpa using iy hd1
 refine sr (tO mN U (qO 8 U ?_))
 have ho2:0<=((i1:Int):Int)/\((i1:Int):Int)<(([(dX co.da),(dR co.eI),(du co.dt),(bC co.df),(bE co.Versions),(aY co.bV),(aX co.bO)]).length:Int):=ob
 refine aM (vy (enc:=λy=>[I y]) ei underlying110 ty37 sl1.1 ho2 (eH ho2) U U U (λq2 A2=>fV ty37 A2 U (qO 7 U (cQ hs3 U (λc2 hs5=>?_) (λc2 hs6=>?_)))))
 .exact sr (an (nretP [I 300] (ci hs5)))
 exact iL (qT 2 U (oi i1 U (qO 2 U (ag1 ((i1+1),rz1) _ (Nat.lt_succ_self _) ⟨ll hd1,iy hd1,hs6⟩ rd))))
theorem kh(h Xd)  : FD prog 29 [I Xd] h (exW errV (λr:Unit=>(.tuple #[]:Value)) (lP Xd)):=by
 refine sVv func29 ntmps29 ?_
 generalize hz:(lP Xd)=z
 exact W
instance kC29:Ct 29:=⟨_,CG,@kh⟩
theorem oz(h s qy pZ)(f:(av->Bool))(f_v)(hs:SlC av.rp h qy pZ s)(hf:∀(h':HF)(fh:av)(KR:lv),jL h h'->fh∈s->av.ok h' fh KR->ra prog f_v [.agg (av.cells fh KR).toArray] h' [] (.bool (f fh))):Ret prog 102 [.slice qy s.length pZ,f_v] h (I (aj s f)):=by
 refine sVv func102 ntmps102 ?_
 generalize hz:(aj s f)=z
 have HA:=h0 [0,1,7] 8 (λs1 i=>(aj.L1 f (aj.K1)) s1 i)
 exact W
instance kC102:Ct 102:=⟨_,call102,@oz⟩
theorem Fs(s:List av)(f:av->Bool):aj s f<(s.length:Int):=by
 have key:∀(l:List av)(i:Nat),aj.L1 f aj.K1 l i<((i+l.length:Nat):Int):=by
  intro l
  induction l with
  |nil=>intro i;simp only[aj.L1,aj.K1];omega
  |cons y l ih=>
   intro i
   simp only[aj.L1,Bool.cond_eq_ite,xA]
   split
   .omega
   have:=ih (i+1);omega
 have:=key s 0
 simpa[aj]using this
theorem GR(h d BH v0 v0_q)(hd:av.ok h d BH)(av0:At h v0_q [I v0]):Ret prog 103 [.agg (av.cells d BH).toArray,.pointer (some v0_q)] h (.bool (bA d v0)):=by
 refine sVv func103 ntmps103 ?_
 generalize hz:(bA d v0)=z
 exact W
theorem CK(h co eP aP bD ah)(m5:vL h co eP):LW prog 32 [.agg (qD co eP).toArray,I aP,I bD,I ah] h errV (oh co aP bD ah) (λ(r:bI)v h'=>∃(rr0:ss),v=.agg (bI.cells r rr0).toArray/\bI.ok h' r rr0):=by
 refine dL func32 U ntmps32 U λX hM hX=>?_
 have hs0:=@rfl _ (oh co aP bD ah)
 refine sr (iA (λb1=>iA (λb2=>cD zc91 (λb3=>qL 5 [2] U (dF 1 U hM (λh1 hle1 hb1=>aM (jy U U (dP call102 (oz _ _ _ _ (λfh=>bA fh aP) (.func (.func 103) #[] #[Q b2]) (m5.bV.mono av.aK hle1) (λh' fh KR dN Xr a0_o=>jd call103 (GR h' fh KR aP ⟨b2,0,none⟩ a0_o ((fJ hb1).mono dN)))) U (qO 8 U (nH 5 [16,17,18,19,20,21] 16 21 (decide ((min bD ah)<0)) U (λc1 hk1=>?_) (λe=>?_)))))))))))
 .exact cN (cN (aM (em (Wg U U) (qO 2 U (hk1 _ U)))))
 refine cN (nH 5 [22,23,24,25,26,27] 22 27 (decide (1099511627776<=(max bD ah))) U (λc2 hk2=>?_) (λe=>?_))
 .exact cN (cN (aM (em (TN U U) (qO 2 U (hk2 _ U)))))
 refine bM (cQ hs0 U (λc3 hs1=>?_) (λc3 hs2=>?_))
 .exact bS (aM (em (Q8 underlying37 U U) (aM (Mr U E4 (λe=>mz (NL [] func32 hs1))))))
 refine qT 2 U ?_
 let z1:Nat×Obj:=(b1,O (qD co eP) 30)
 refine fQ ([z1]) mixed kr jn (λlA _=>?_)
 refine tf 0 U U (λ_ _ hj=>oA ty30 U (hj.nth (i:=0) U) U) (qB [1] U (tf 2 U U (rj 0 ty27 U U U) (tm 3 U ?_)))
 have ho1:0<=((aj co.bV (λfh=>bA fh aP)):Int)/\((aj co.bV (λfh=>bA fh aP)):Int)<((co.bV).length:Int):=(by have hq:=Fs co.bV (λfh=>bA fh aP);simp only[decide_eq_true_eq,decide_eq_false_iff_not,zB,kD,kE,Bool.not_eq_false',Bool.and_eq_false_iff,Bool.or_eq_false_iff,beq_iff_eq,beq_eq_false_iff_ne,bne_iff_ne,bne_eq_false_iff_eq,vA,xA,jB,List.length_drop]at *;omega)
 refine sZ 4 lA jn EU ty54 (m5.bV.mono av.aK hle1).1 ho1 (eH ho1) U U U U kr (λq1 cs1 A1 ln1 rr1=>?_)
 obtain⟨r1,rfl,ok1⟩:=rr1
 refine tf 5 U U (λ_ _ hj=>uL ty54 (A1.mono hj.1) U U) (qA [6,7] U (tn 8 U (ja (cells:=[.slice eP.wJ co.da.length eP.wH,.slice eP.wD co.eI.length eP.wC,.slice eP.ua co.dt.length eP.tZ,.slice eP.sY co.df.length eP.sX,.slice eP.mZ co.Versions.length eP.mY,.slice eP.FG co.bV.length eP.FF,.slice eP.ry co.bO.length eP.rx,I ((nthI co.bV (aj co.bV (λfh=>bA fh aP))).No),I ((nthI co.bV (aj co.bV (λfh=>bA fh aP))).At),I ((nthI co.bV (aj co.bV (λfh=>bA fh aP))).Kind),I ((nthI co.bV (aj co.bV (λfh=>bA fh aP))).Value),I ((nthI co.bV (aj co.bV (λfh=>bA fh aP))).From),I ((nthI co.bV (aj co.bV (λfh=>bA fh aP))).qi),.slice r1.Cj ((nthI co.bV (aj co.bV (λfh=>bA fh aP))).ju.length) r1.Ci,.slice r1.vh ((nthI co.bV (aj co.bV (λfh=>bA fh aP))).fF.length) r1.vg,.slice r1.EP ((nthI co.bV (aj co.bV (λfh=>bA fh aP))).e9.length) r1.EO,Y ((nthI co.bV (aj co.bV (λfh=>bA fh aP))).Text 0),Y ((nthI co.bV (aj co.bV (λfh=>bA fh aP))).Text 1),Y ((nthI co.bV (aj co.bV (λfh=>bA fh aP))).Text 2),Y ((nthI co.bV (aj co.bV (λfh=>bA fh aP))).Text 3),Y ((nthI co.bV (aj co.bV (λfh=>bA fh aP))).Text 4),Y ((nthI co.bV (aj co.bV (λfh=>bA fh aP))).Text 5),Y ((nthI co.bV (aj co.bV (λfh=>bA fh aP))).Text 6),Y ((nthI co.bV (aj co.bV (λfh=>bA fh aP))).Text 7),Y ((nthI co.bV (aj co.bV (λfh=>bA fh aP))).Text 8),Y ((nthI co.bV (aj co.bV (λfh=>bA fh aP))).Text 9),Y ((nthI co.bV (aj co.bV (λfh=>bA fh aP))).Text 10),Y ((nthI co.bV (aj co.bV (λfh=>bA fh aP))).Text 11),Y ((nthI co.bV (aj co.bV (λfh=>bA fh aP))).Text 12),Y ((nthI co.bV (aj co.bV (λfh=>bA fh aP))).Text 13),Y ((nthI co.bV (aj co.bV (λfh=>bA fh aP))).Text 14),Y ((nthI co.bV (aj co.bV (λfh=>bA fh aP))).Text 15),Y ((nthI co.bV (aj co.bV (λfh=>bA fh aP))).Text 16),Y ((nthI co.bV (aj co.bV (λfh=>bA fh aP))).Text 17),Y ((nthI co.bV (aj co.bV (λfh=>bA fh aP))).Text 18),Y ((nthI co.bV (aj co.bV (λfh=>bA fh aP))).Text 19),Y ((nthI co.bV (aj co.bV (λfh=>bA fh aP))).Text 20),Y ((nthI co.bV (aj co.bV (λfh=>bA fh aP))).Text 21),Y ((nthI co.bV (aj co.bV (λfh=>bA fh aP))).Text 22),Y ((nthI co.bV (aj co.bV (λfh=>bA fh aP))).Text 23),Y ((nthI co.bV (aj co.bV (λfh=>bA fh aP))).Text 24),Y ((nthI co.bV (aj co.bV (λfh=>bA fh aP))).Text 25),Y ((nthI co.bV (aj co.bV (λfh=>bA fh aP))).Text 26),Y ((nthI co.bV (aj co.bV (λfh=>bA fh aP))).Text 27),Y ((nthI co.bV (aj co.bV (λfh=>bA fh aP))).Text 28),Y ((nthI co.bV (aj co.bV (λfh=>bA fh aP))).Text 29),Y ((nthI co.bV (aj co.bV (λfh=>bA fh aP))).Text 30),Y ((nthI co.bV (aj co.bV (λfh=>bA fh aP))).Text 31),I bD,I ah]) (places:=[(0,7),(7,41),(48,1),(49,1)]) underlying91 zc91 kr kr ?_)))
 refine⟨jn,(tn 9 U (vu 0 ty91 U U U U U U (⟨jn,(dO kr ?_)⟩)))⟩
 have hs3:oh co aP bD ah=(Except.ok (bI.mk co (nthI co.bV (aj co.bV (λfh=>bA fh aP))) bD ah)):=hs2
 exact ij (NI [] [.agg (bI.cells (bI.mk co (nthI co.bV (aj co.bV (λfh=>bA fh aP))) bD ah) (ss.mk eP r1)).toArray] func32 U ⟨⟨0,_,_,_,_,U,U,.inl ⟨ty91,U⟩⟩,trivial⟩ hs3 ⟨(ss.mk eP r1),U,(show bI.ok h1 (bI.mk co (nthI co.bV (aj co.bV (λfh=>bA fh aP))) bD ah) (ss.mk eP r1)from⟨(m5.mono hle1),ok1⟩)⟩)
theorem Fy(h x)  : Ret prog 161 [I x] h (.bool (cmp_isNaN_int x)):=by
 refine sT Yf U ntmps161 U λX hM hX hF=>?_
 generalize hz:(cmp_isNaN_int x)=z;have hs:=hz.symm
 exact W
instance kC161:Ct 161:=⟨_,call161,@Fy⟩
theorem Am(h)(x:aQ)(v0 v0_q v1 v1_q)(av0:At h v0_q [I v0])(av1:At h v1_q [I v1]):Ret prog 342 [.agg (aQ.cells x).toArray,.pointer (some v0_q),.pointer (some v1_q)] h (.tuple #[.agg (xF ((iW x v0 v1).1)).toArray,.bool ((iW x v0 v1).2)]):=by
 refine dL func342 U ntmps342 U λX hM hX=>?_
 have hs0:=@rfl _ (iW x v0 v1)
 refine sr (iA (λb1=>cD zc325 (λb2=>qO 3 U ?_)))
 let z1:Nat×Obj:=(b1,O (aQ.cells x) 76)
 refine Vf ([(b2,O [I x.ea,I x.dz] 325),z1]) [(4,Q b2),(5,.bool (decide (x.At<=v0)&&decide (x.fX<=v1)))] (λe=>?_) (λhk1=>?_)
 rotate_left
 .refine fQ ([z1]) mixed kr jn (λlA _=>?_)
  refine qB [0] U (tf 1 U U (rj 0 ty3 U U U) (qB [2] U (tf 3 U U (rj 0 ty3 U U U) (qB [5] U (tf 6 U U (rj 0 ty3 U U U) (tf 7 U U (rh ty3 av0 U) (qA [8,9] U ?_)))))))
  refine AF 15 U (λc1=>?_) (λc1=>?_)
  .have c1p:=of_decide_eq_true c1
   exact tf 10 U U (λ_ _ _=>DZ VT U) (tf 11 U U (rj 0 ty3 U U U) (tf 12 U U (rh ty3 av1 U) (qA [13,14] U (tn 4 U (ja (cells:=[I x.ea,I x.dz]) (places:=[(0,1),(1,1)]) QS zc325 kr kr (⟨jn,(tn 15 U (vu 0 ty325 U U U U U U (⟨jn,(qA [16] U (dO kr (hk1 _ ⟨U,(cb (show decide (x.fX<=v1)=(decide (x.At<=v0)&&decide (x.fX<=v1))from by rw[c1]<;>rfl)),trivial⟩)))⟩)))⟩))))))
  have c1p:=of_decide_eq_false c1
  exact tk 10 U U (qR 11 4 U (tn 4 U (ja (cells:=[I x.ea,I x.dz]) (places:=[(0,1),(1,1)]) QS zc325 kr kr (⟨jn,(tn 15 U (vu 0 ty325 U U U U U U (⟨jn,(qA [16] U (dO kr (hk1 _ ⟨U,(cb (show false=(decide (x.At<=v0)&&decide (x.fX<=v1))from by rw[c1]<;>rfl)),trivial⟩)))⟩)))⟩))))
 have hs1:iW x v0 v1=((OSeat.mk x.ea x.dz),(decide (x.At<=v0)&&decide (x.fX<=v1))):=hs0
 exact wQ [.agg (kB [I x.ea,I x.dz]),.bool (decide (x.At<=v0)&&decide (x.fX<=v1))] func342 U hX ⟨⟨0,_,_,_,_,U,U,.inl ⟨ty325,U⟩⟩,U,trivial⟩ (congrArg (λr:(OSeat×Bool)=>(.tuple #[.agg (xF r.1).toArray,.bool r.2]:Value)) hs1.symm)
instance kC342:Ct 342:=⟨_,call342,@Am⟩
theorem yr(h l fm fj)(key:(aQ->OSeat×Bool))(key_v)(later:(aQ->aQ->Bool))(later_v)(hl:SlC aQ.rp h fm fj l)(hkey:∀(h':HF)(fh:aQ),jL h h'->ra prog key_v [.agg (aQ.cells fh).toArray] h' [] (.tuple #[.agg (xF ((key fh).1)).toArray,.bool ((key fh).2)]))(hlater:∀(h':HF)(fh:aQ)(CE:aQ),jL h h'->ra prog later_v [.agg (aQ.cells fh).toArray,.agg (aQ.cells CE).toArray] h' [] (.bool (later fh CE))):jv prog 343 [.slice fm l.length fj,key_v,later_v] h (λv h'=>∃(rk0:Nat),v=.map (some rk0)/\uY xV (lY aQ.rp) h' rk0 (dp l key later)):=by
 refine sVv func343 ntmps343 ?_
 generalize hz:(dp l key later)=z
 have HA:=λ{b1}=>lM [1,2,7,15,16] 17 (.mM b1 xV (lY aQ.rp) .mE) (λs1 i w=>(dp.L1 key later (dp.K1)) s1 w.1)
 exact W
instance kC343:Ct 343:=⟨_,call343,@yr⟩
theorem Al(h)(a:aQ)(m6:aQ)  : Ret prog 344 [.agg (aQ.cells a).toArray,.agg (aQ.cells m6).toArray] h (.bool (iV a m6)):=by
 refine sVv func344 ntmps344 ?_
 generalize hz:(iV a m6)=z
 exact W
instance kC344:Ct 344:=⟨_,call344,@Al⟩
theorem Cv(h l fm fj lx ah)(hl:SlC aQ.rp h fm fj l):jv prog 270 [.slice fm l.length fj,I lx,I ah] h (λv h'=>∃(rk0:Nat),v=.map (some rk0)/\uY xV (lY aQ.rp) h' rk0 (ii l lx ah)):=by
 refine sVv func270 ntmps270 ?_
 generalize hz:(ii l lx ah)=z
 exact W
instance kC270:Ct 270:=⟨_,call270,@Cv⟩
theorem yt(h l fm fj bw bY dU ah)(hl:SlC aQ.rp h fm fj l):Ret prog 236 [.slice fm l.length fj,I bw,I bY,I dU,I ah] h (.tuple #[I ((ew l bw bY dU ah).1),I ((ew l bw bY dU ah).2.1),.bool ((ew l bw bY dU ah).2.2.1),I ((ew l bw bY dU ah).2.2.2)]):=by
 refine sVv func236 ntmps236 ?_
 generalize hz:(ew l bw bY dU ah)=z
 exact W
theorem ue(h s qy pZ)(f:(ai->Bool))(f_v)(hs:SlC ai.rp h qy pZ s)(hf:∀(h':HF)(fh:ai),jL h h'->ra prog f_v [.agg (ai.cells fh).toArray] h' [] (.bool (f fh))):Ret prog 377 [.slice qy s.length pZ,f_v] h (I (cX s f)):=by
 refine sVv func377 ntmps377 ?_
 generalize hz:(cX s f)=z
 have HA:=h0 [0,1,7] 8 (λs1 i=>(cX.L1 f (cX.K1)) s1 i)
 exact W
theorem tj(x:ai):(ai.cells x).length=8:=rfl
theorem CO(f:ai->Bool):∀(l:List ai)(i:Nat),(cX.L1 f cX.K1 l i=-1/\∀x∈l,f x=false) \/
  ∃a y b,l=a++y::b/\cX.L1 f cX.K1 l i=((i+a.length:Nat):Int)/\f y=true/\∀x∈a,f x=false
 |[],i=>.inl ⟨rfl,λ_ h=>(jA h).elim⟩
 |y::l,i=>by
  simp only[cX.L1]
  cases hy:f y with
  |true=>exact .inr ⟨[],y,l,rfl,by simp,hy,λ_ h=>(jA h).elim⟩
  |false=>
   rcases CO f l (i+1)with⟨h1,h2⟩|⟨a,z,b,rfl,h2,h3,h4⟩
   .exact .inl ⟨h1,λx hx=>by rcases kC.1 hx with rfl|hx;exact hy;exact h2 x hx⟩
   refine .inr ⟨y::a,z,b,rfl,?_,h3,λx hx=>by rcases kC.1 hx with rfl|hx;exact hy;exact h4 x hx⟩
   rw[cond_false,h2];simp only[xA];congr 1;omega
theorem EL{l:List ai}(h:∀x∈l,q x=false):(l.filter λx=>!(q x))=l:=by
 rw[List.filter_eq_self];intro x hx;simp[h x hx]
theorem SL{s zs:List ai}{i j:Nat}{y:ai}(hij:i<j)(hz:zs.length=s.length)(hj:s[j]? = some y)(ht:zs.take i=(s.take j).filter λx=>!(q x))(hd:zs.drop j=s.drop j)(hy:q y=false):
  (zs.set i y).take (i+1)=((s.take (j+1)).filter λx=>!(q x))/\(zs.set i y).drop (j+1)=s.drop (j+1):=by
 have hjl:j<s.length:=by
  rcases zK j s.length with h|h
  .exact h
  simp[List.getElem?_eq_none h]at hj
 constructor
 .rw[List.take_add_one,List.take_set_of_le (xE _),ht,List.take_add_one,hj,List.filter_append]
  simp[hy,show i<zs.length from by omega]
 rw[List.drop_set_of_lt ob,←List.drop_drop,hd,List.drop_drop]
theorem SK{s zs:List ai}{i j:Nat}{y:ai}(hj:s[j]? = some y)(ht:zs.take i=(s.take j).filter λx=>!(q x))(hd:zs.drop j=s.drop j)(hy:q y=true):
  zs.take i=((s.take (j+1)).filter λx=>!(q x))/\zs.drop (j+1)=s.drop (j+1):=by
 constructor
 .rw[List.take_add_one,hj,List.filter_append,ht];simp[hy]
 rw[←List.drop_drop,hd,List.drop_drop]
theorem EM{xs:List ai}{bk c:Nat}{sp:List Value}(h3:(xs.flatMap ai.cells++sp).length=c*8)(h4:xs.length<=c)(h5:xs.length<=9223372036854775807):cI ai.rp 67 h xs (zAD bk) c [(bk,.cells (xs.flatMap ai.cells++sp).toArray 67 (0,0))]:=
 .inr ⟨bk,_,sp,rfl,Di (λ_ _=>rfl) tj h xs,h3,h4,h5,rfl⟩
theorem tq(h)(s:List ai)(b c G)(del:ai->Bool)(del_v)(hG:cI ai.rp 67 h s b c G)(hdel:∀(h':HF)(fh:ai),jL h h'->ra prog del_v [.agg (ai.cells fh).toArray] h' [] (.bool (del fh)))(hsz:s.length<=2000000):
  oX prog 328 [.slice b s.length c,del_v].toArray h G (λr h' G'=>h'=h/\r=.returned (.slice b (fR s del).length c)/\cI ai.rp 67 h (fR s del) b c G'):=by
 refine dL func328 U ntmps328 U λX hM hX=>qT 8 U (aM (DN [] G [] call377 ai.aK hG (by simp) (λh1 dN hsl=>ue h1 s b c del del_v hsl (λh' a hl=>hdel h' a (dN.t hl))) U (qO 6 U ?_)))
 have hcase:=CO del s 0
 rw[show cX.L1 del cX.K1 s 0=cX s del from rfl]at hcase
 rcases hcase with⟨h1,h2⟩|⟨a,y,r,hs,h1,hy,ha⟩
 .rw[h1]
  refine gE (v':=.bool true) U U (qO 7 U ?_)
  have hf:fR s del=s:=EL h2
  refine mp func328 (λa ha w hw=>res1 U a ha w) (λw hw=>hw.lower) ⟨hX,?_,?_⟩
  .rw[hf];rfl
  rw[hf];exact hG
 rw[h1,Nat.zero_add]
 have hne:((a.length:Int)==-1)=false:=by simp
 have hsl:s.length=a.length+(r.length+1):=by rw[hs];simp
 refine fO hne U (qO 7 U (gE (v':=I ((a.length+1:Nat):Int)) U (mO ob) (an ?_)))
 refine fZ (ι:=Nat×List ai×LH) (λi=>[(0,.slice b s.length c),(1,del_v),(5,I (i.1:Int))]) (λi=>h) (λi=>i.2.2)
  (λi=>i.1<s.length/\i.2.1.length=s.length/\i.2.1.take i.1=fR s del/\cI ai.rp 67 h i.2.1 b c i.2.2) ?_ (λhx=>?_)
 .rintro⟨i,zs,G'⟩ ⟨hi,hz,hf,hG'⟩ e
  dsimp only at hi hz hf hG'
  rcases hG' with⟨rfl,_⟩|⟨bk,cl,sp,rfl,hcl,h3,h4,h5,rfl⟩
  .simp at hz;omega
  have hcl':=wv (C:=ai.cells) (λ_ _ _ e=>e) hcl
  subst hcl'
  have hcz:zs.length<=c:=h4
  have hzl:=pB tj zs
  have h3':zs.length*8+sp.length=c*8:=by rw[←hzl,←vA];exact h3
  have hzn:(i:Int).toNat=i:=by omega
  have hgf:cI ai.rp 67 h zs (zAD bk) c [(bk,.cells (zs.flatMap ai.cells++sp).toArray 67 (0,0))]:=EM h3 h4 h5
  obtain⟨m,hm⟩:∃m,s.length-i=m+1:=⟨s.length-i-1,by omega⟩
  refine qT 4 U (aM (em (v:=.slice (some ⟨bk,i*8,none⟩) (m+1) (c-i)) (pw oT ty67 U U ob ob hm) (aM (R5 (P:=prog) 0 (sz:=8) (zs:=[I 0,I 0,I 0,I 0,I 0,I 0,I 0,.bool false]) (bk:=bk) (cl:=zs.flatMap ai.cells++sp) (cc:=c-i) oT (fG zv67) U U (by decide) (by decide) U U (off:=i*8) (m:=m) (by rw[vA,hzl];omega) (λvs hvl=>?_)))))
  have hsp:∃sp',splice (zs.flatMap ai.cells++sp) (i*8) vs=(zs.take i).flatMap ai.cells++sp':=by
   have e1:zs.flatMap ai.cells++sp=(zs.take i).flatMap ai.cells++((zs.drop i).flatMap ai.cells++sp):=by
    rw[←zC,←List.flatMap_append,List.take_append_drop]
   rw[e1]
   have e2:i*8=((zs.take i).flatMap ai.cells).length:=by rw[pB tj,List.length_take];congr 1;omega
   have:=oK vs ((zs.take i).flatMap ai.cells) ((zs.drop i).flatMap ai.cells++sp) (by rw[vA,pB tj,List.length_drop,hvl];omega)
   rw[←e2]at this
   exact⟨_,this⟩
  obtain⟨sp',hsp⟩:=hsp
  have hlen:((zs.take i).flatMap ai.cells++sp').length=c*8:=by
   rw[←hsp,oP];exact h3
  show TO _ _ _ _ _ _ _ _ _ _ h [(bk,.cells (splice (zs.flatMap ai.cells++sp) (i*8) vs).toArray 67 (0,0))]
  rw[hsp]
  have hg2:cI ai.rp 67 h (zs.take i) (zAD bk) c [(bk,.cells ((zs.take i).flatMap ai.cells++sp').toArray 67 (0,0))]:=
   EM hlen (by rw[List.length_take];omega) (by rw[List.length_take];omega)
  refine qO 5 U (aM (HW (z:=(i:Int)) oT ty67 hgf ob (by show _=Value.slice _ _ _;rw[hz];rfl) U U (an ?_)))
  refine mp func328 (λa ha w hw=>res1 U a ha w) (λw hw=>hw.lower) ⟨hX,?_,?_⟩
  .rw[←hf,hzn];rfl
  rw[←hf];exact hg2
 refine i9 (ι:=Nat×Nat×List ai×LH) (λi=>[(0,.slice b s.length c),(1,del_v),(5,I (i.1:Int)),(6,I (i.2.1:Int))]) (λi=>h) (λi=>i.2.2.2)
  (λi=>i.1<i.2.1/\i.2.1<=s.length/\i.2.2.1.length=s.length/\i.2.2.1.take i.1=((s.take i.2.1).filter λx=>!(del x))/\i.2.2.1.drop i.2.1=s.drop i.2.1/\cI ai.rp 67 h i.2.2.1 b c i.2.2.2)
  (λi=>s.length-i.2.1) (a.length,a.length+1,s,G) rd (λw hw=>hw) ⟨Nat.lt_succ_self _,by show a.length+1<=s.length;omega,rfl,?_,rfl,hG⟩ ?_
 .show s.take a.length=((s.take (a.length+1)).filter λx=>!(del x))
  rw[hs,List.take_left' rfl,List.take_add_one,List.take_left' rfl,List.filter_append,EL ha];simp[hy]
 rintro⟨i,j,zs,G'⟩ ⟨hij,hjl,hz,ht,hd,hG'⟩ ag e
 dsimp only at hij hjl hz ht hd hG'
 rcases zK j s.length with hj|hj
 .have hjs:s[j]? = some s[j]:=List.getElem?_eq_getElem hj
  have hjz:zs[j]? = some s[j]:=by
   have e1:(zs.drop j)[0]? = (s.drop j)[0]?:=by rw[hd]
   simpa[hjs]using e1
  have hiz:zs[i]? = some zs[i]:=List.getElem?_eq_getElem ob
  rcases hG' with⟨rfl,_⟩|⟨bk,cl,sp,rfl,hcl,h3,h4,h5,rfl⟩
  .simp at hz;omega
  have hcl':=wv (C:=ai.cells) (λ_ _ _ e=>e) hcl
  subst hcl'
  refine qK 6 [] U (tO (decide_eq_true ob) U (qO 9 U (aM (em (oa (R:=ai.rp) (xs:=zs) (z:=(j:Int)) oT ty67 U ob U hz.symm U) (aM (em (oA (off:=j*8) (cs:=ai.cells s[j]) ty67 U (xC.2 U) (UR tj hjz)) (cD zc67 (λb7=>ct 0 ty67 U U U U U U (qO 4 U (eS 0 ty67 U U U (aM (kj (v:=.bool (del s[j])) [] (List.nil_sublist _) (hdel h s[j] lf) U U ?_))))))))))))
  cases hy:del s[j]with
  |true=>
   obtain⟨k1,k2⟩:=SK hjs ht hd hy
   exact qf U (qO 6 U (oi j U (an (dE (L':=[(bk,.cells (zs.flatMap ai.cells++sp).toArray 67 (0,0))]) js (ag (i,j+1,zs,[(bk,.cells (zs.flatMap ai.cells++sp).toArray 67 (0,0))]) _ (by show s.length-(j+1)<s.length-j;omega) ⟨by show i<j+1;omega,hj,hz,k1,k2,EM h3 h4 h5⟩ rd)))))
  |false=>
   obtain⟨k1,k2⟩:=SL hij hz hjs ht hd hy
   refine qO 7 U (eS 0 ty67 U U U (aM (em (oa (R:=ai.rp) (xs:=zs) (z:=(i:Int)) oT ty67 U ob U hz.symm U) (aM (lE 1 (off:=i*8) (vs:=ai.cells s[j]) ty67 U U U U (by rw[vA,pB tj,tj];exact Nat.ble_eq_true_of_le ob) U ?_)))))
   have hsl2:setNth [(b7,O (ai.cells s[j]) 67),(bk,.cells (zs.flatMap ai.cells++sp).toArray 67 (0,0))] 1 (bk,.cells (splice (zs.flatMap ai.cells++sp) (i*8) (ai.cells s[j])).toArray 67 (0,0))=[(b7,O (ai.cells s[j]) 67),(bk,.cells ((zs.set i s[j]).flatMap ai.cells++sp).toArray 67 (0,0))]:=by
    rw[NR tj hiz];rfl
   refine kX hsl2 (qO 3 U (oi i U (qO 5 U (oi j U (an (dE (L':=[(bk,.cells ((zs.set i s[j]).flatMap ai.cells++sp).toArray 67 (0,0))]) js ?_))))))
   have hzl2:(zs.set i s[j]).length=s.length:=by rw[List.length_set];exact hz
   exact ag (i+1,j+1,zs.set i s[j],[(bk,.cells ((zs.set i s[j]).flatMap ai.cells++sp).toArray 67 (0,0))]) _ (by show s.length-(j+1)<s.length-j;omega) ⟨by show i+1<j+1;omega,hj,hzl2,k1,k2,EM (by rw[vA,pB tj,List.length_set,←pB tj,←vA];exact h3) (by rw[List.length_set];exact h4) (by rw[List.length_set];exact h5)⟩ rd
 have hje:j=s.length:=by omega
 subst hje
 exact qK 6 [] U (fO (decide_eq_false ob) U (qO 3 U (hx (i,zs,G') _ ⟨hij,hz,by show zs.take i=_;rw[ht,List.take_length];rfl,hG'⟩ rd)))
end
end Go.Sg
