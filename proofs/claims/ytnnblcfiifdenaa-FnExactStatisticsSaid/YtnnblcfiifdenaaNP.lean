/-
  The contracts of the library that the law needs, at this program.
-/
import Derived.Test.YtnnblcfiifdenaaVF
import Derived.Test.YtnnblcfiifdenaaVH
import Derived.Test.YtnnblcfiifdenaaNA
set_option linter.unusedVariables false
set_option linter.unusedSimpArgs false
namespace Go.Proofs
open Go.Shelf
def Try.lays189_ren:Go.Shelf.Ren:=⟨fun|189=>46|125=>70|257=>69|128=>82|129=>83|294=>73|295=>74|296=>75|297=>76|298=>77|299=>78|216=>79|300=>80|301=>81|328=>92|329=>93|330=>94|331=>95|332=>96|215=>72|343=>100|n=>n,fun|28=>27|3=>3|46=>85|0=>0|51=>97|53=>99|4=>4|183=>90|182=>89|131=>77|5=>5|9=>9|218=>105|222=>109|228=>113|229=>114|n=>n,fun|n=>n⟩
theorem Try.lays189:Go.Proofs.Lays.n189 Try.prog Try.lays189_ren:={
 mixed:=by kernel_rfl
 f125:=Try.func70.trans (congrArg some (by kernel_rfl))
 f128:=Try.func82.trans (congrArg some (by kernel_rfl))
 f129:=Try.func83.trans (congrArg some (by kernel_rfl))
 f189:=Try.func46.trans (congrArg some (by kernel_rfl))
 f215:=Try.func72.trans (congrArg some (by kernel_rfl))
 f216:=Try.func79.trans (congrArg some (by kernel_rfl))
 f257:=Try.func69.trans (congrArg some (by kernel_rfl))
 f294:=Try.func73.trans (congrArg some (by kernel_rfl))
 f295:=Try.func74.trans (congrArg some (by kernel_rfl))
 f296:=Try.func75.trans (congrArg some (by kernel_rfl))
 f297:=Try.func76.trans (congrArg some (by kernel_rfl))
 f298:=Try.func77.trans (congrArg some (by kernel_rfl))
 f299:=Try.func78.trans (congrArg some (by kernel_rfl))
 f300:=Try.func80.trans (congrArg some (by kernel_rfl))
 f301:=Try.func81.trans (congrArg some (by kernel_rfl))
 f328:=Try.func92.trans (congrArg some (by kernel_rfl))
 f329:=Try.func93.trans (congrArg some (by kernel_rfl))
 f330:=Try.func94.trans (congrArg some (by kernel_rfl))
 f331:=Try.func95.trans (congrArg some (by kernel_rfl))
 f332:=Try.func96.trans (congrArg some (by kernel_rfl))
 f343:=Try.func100.trans (congrArg some (by kernel_rfl))
 t0:=Try.underlying0
 a0:=Try.isAgg0
 z0:=Try.sizeOf0
 v0:=Try.zeroValue0
 t3:=Try.underlying3
 a3:=Try.isAgg3
 z3:=Try.sizeOf3
 v3:=Try.zeroValue3
 t4:=Try.underlying4
 a4:=Try.isAgg4
 z4:=Try.sizeOf4
 v4:=Try.zeroValue4
 t5:=Try.underlying5
 a5:=Try.isAgg5
 z5:=Try.sizeOf5
 v5:=Try.zeroValue5
 t9:=Try.underlying9
 a9:=Try.isAgg9
 z9:=Try.sizeOf9
 v9:=Try.zeroValue9
 t28:=Try.underlying27
 a28:=Try.isAgg27
 z28:=Try.sizeOf27
 v28:=Try.zeroValue27
 t46:=Try.underlying85
 a46:=Try.isAgg85
 z46:=Try.sizeOf85
 v46:=Try.zeroValue85
 t51:=Try.underlying97
 a51:=Try.isAgg97
 z51:=Try.sizeOf97
 v51:=Try.zeroValue97
 t53:=Try.underlying99
 a53:=Try.isAgg99
 z53:=Try.sizeOf99
 v53:=Try.zeroValue99
 t131:=Try.underlying77
 a131:=Try.isAgg77
 z131:=Try.sizeOf77
 v131:=Try.zeroValue77
 t182:=Try.underlying89
 a182:=Try.isAgg89
 z182:=Try.sizeOf89
 v182:=Try.zeroValue89
 t183:=Try.underlying90
 a183:=Try.isAgg90
 z183:=Try.sizeOf90
 v183:=Try.zeroValue90
 t218:=Try.underlying105
 a218:=Try.isAgg105
 z218:=Try.sizeOf105
 v218:=Try.zeroValue105
 t222:=Try.underlying109
 a222:=Try.isAgg109
 z222:=Try.sizeOf109
 v222:=Try.zeroValue109
 t228:=Try.underlying113
 a228:=Try.isAgg113
 z228:=Try.sizeOf113
 v228:=Try.zeroValue113
 t229:=Try.underlying114
 a229:=Try.isAgg114
 z229:=Try.sizeOf114
 v229:=Try.zeroValue114 }
def Try.laysNm220_ren:Go.Shelf.Ren:=⟨fun|20=>47|n=>n,fun|22=>27|3=>3|4=>4|0=>0|n=>n,fun|n=>n⟩
theorem Try.laysNm220:Go.Proofs.Lays2.n20 Try.prog Try.laysNm220_ren:={
 mixed:=by kernel_rfl
 f20:=Try.func47.trans (congrArg some (by kernel_rfl))
 t0:=Try.underlying0
 a0:=Try.isAgg0
 z0:=Try.sizeOf0
 v0:=Try.zeroValue0
 t3:=Try.underlying3
 a3:=Try.isAgg3
 z3:=Try.sizeOf3
 v3:=Try.zeroValue3
 t4:=Try.underlying4
 a4:=Try.isAgg4
 z4:=Try.sizeOf4
 v4:=Try.zeroValue4
 t22:=Try.underlying27
 a22:=Try.isAgg27
 z22:=Try.sizeOf27
 v22:=Try.zeroValue27
 i3:=by kernel_rfl }
def Try.sortS_ren:Go.Shelf.Ren:=⟨fun|6=>48|15=>70|14=>71|28=>82|29=>83|20=>84|21=>85|22=>86|23=>87|24=>88|25=>89|26=>90|27=>91|46=>97|47=>93|48=>94|49=>98|50=>99|57=>101|n=>n,fun|22=>42|24=>27|25=>72|3=>3|39=>85|0=>0|53=>97|55=>99|4=>4|46=>90|45=>89|50=>77|5=>5|9=>9|66=>105|70=>109|76=>113|77=>114|n=>n,fun|n=>n⟩
theorem Try.sortS:Go.Proofs.SlLaysF.n6 Try.prog Try.sortS_ren:={
 mixed:=by kernel_rfl
 f6:=⟨Try.f48.name,by decide,Try.func48.trans (congrArg some (by kernel_rfl))⟩
 f14:=⟨Try.f71.name,by decide,Try.func71.trans (congrArg some (by kernel_rfl))⟩
 f15:=Try.func70.trans (congrArg some (by kernel_rfl))
 f20:=⟨Try.f84.name,by decide,Try.func84.trans (congrArg some (by kernel_rfl))⟩
 f21:=⟨Try.f85.name,by decide,Try.func85.trans (congrArg some (by kernel_rfl))⟩
 f22:=⟨Try.f86.name,by decide,Try.func86.trans (congrArg some (by kernel_rfl))⟩
 f23:=⟨Try.f87.name,by decide,Try.func87.trans (congrArg some (by kernel_rfl))⟩
 f24:=⟨Try.f88.name,by decide,Try.func88.trans (congrArg some (by kernel_rfl))⟩
 f25:=⟨Try.f89.name,by decide,Try.func89.trans (congrArg some (by kernel_rfl))⟩
 f26:=⟨Try.f90.name,by decide,Try.func90.trans (congrArg some (by kernel_rfl))⟩
 f27:=⟨Try.f91.name,by decide,Try.func91.trans (congrArg some (by kernel_rfl))⟩
 f28:=Try.func82.trans (congrArg some (by kernel_rfl))
 f29:=Try.func83.trans (congrArg some (by kernel_rfl))
 f46:=⟨Try.f97.name,by decide,Try.func97.trans (congrArg some (by kernel_rfl))⟩
 f47:=Try.func93.trans (congrArg some (by kernel_rfl))
 f48:=Try.func94.trans (congrArg some (by kernel_rfl))
 f49:=⟨Try.f98.name,by decide,Try.func98.trans (congrArg some (by kernel_rfl))⟩
 f50:=⟨Try.f99.name,by decide,Try.func99.trans (congrArg some (by kernel_rfl))⟩
 f57:=⟨Try.f101.name,by decide,Try.func101.trans (congrArg some (by kernel_rfl))⟩
 t0:=Try.underlying0
 a0:=Try.isAgg0
 z0:=Try.sizeOf0
 v0:=Try.zeroValue0
 t3:=Try.underlying3
 a3:=Try.isAgg3
 z3:=Try.sizeOf3
 v3:=Try.zeroValue3
 t4:=Try.underlying4
 a4:=Try.isAgg4
 z4:=Try.sizeOf4
 v4:=Try.zeroValue4
 t5:=Try.underlying5
 a5:=Try.isAgg5
 z5:=Try.sizeOf5
 v5:=Try.zeroValue5
 t9:=Try.underlying9
 a9:=Try.isAgg9
 z9:=Try.sizeOf9
 v9:=Try.zeroValue9
 t22:=Try.underlying42
 a22:=Try.isAgg42
 z22:=Try.sizeOf42
 v22:=Try.zeroValue42
 a24:=Try.isAgg27
 z24:=Try.sizeOf27
 t25:=Try.underlying72
 a25:=Try.isAgg72
 z25:=Try.sizeOf72
 v25:=Try.zeroValue72
 t39:=Try.underlying85
 a39:=Try.isAgg85
 z39:=Try.sizeOf85
 v39:=Try.zeroValue85
 t45:=Try.underlying89
 a45:=Try.isAgg89
 z45:=Try.sizeOf89
 v45:=Try.zeroValue89
 t46:=Try.underlying90
 a46:=Try.isAgg90
 z46:=Try.sizeOf90
 v46:=Try.zeroValue90
 t50:=Try.underlying77
 a50:=Try.isAgg77
 z50:=Try.sizeOf77
 v50:=Try.zeroValue77
 t53:=Try.underlying97
 a53:=Try.isAgg97
 z53:=Try.sizeOf97
 v53:=Try.zeroValue97
 t55:=Try.underlying99
 a55:=Try.isAgg99
 z55:=Try.sizeOf99
 v55:=Try.zeroValue99
 t66:=Try.underlying105
 a66:=Try.isAgg105
 z66:=Try.sizeOf105
 v66:=Try.zeroValue105
 t70:=Try.underlying109
 a70:=Try.isAgg109
 z70:=Try.sizeOf109
 v70:=Try.zeroValue109
 t76:=Try.underlying113
 a76:=Try.isAgg113
 z76:=Try.sizeOf113
 v76:=Try.zeroValue113
 t77:=Try.underlying114
 a77:=Try.isAgg114
 z77:=Try.sizeOf114
 v77:=Try.zeroValue114 }
end Go.Proofs
set_option maxRecDepth 1000000
namespace Go.V
open Go Go.Proofs Go.Sort Go.Lib
theorem prim_sort {x:List Int} (h:x.length≤1099511627776):G_slices_Sort_int_ooz x (sortI x):=sort_ints (e:=3) Go.Proofs.Try.lays189 (x:=x) (by omega)
theorem prim_compact {x:List Int}:G_slices_Compact_int_ooz x (compI x):=compact_ints (e:=3) Go.Proofs.Try.laysNm220 (x:=x)
theorem prim_sortS {cf:List Int→List Int→Int} (hG:∀ a b,G_slices_Compare_int a b (cf a b)) (hO:SWO (ltOf cf)) (hT:∀ x y,ltOf cf x y=false→ltOf cf y x=false→x=y) {x:List (List Int)} (h:x.length≤1099511627776):G_slices_SortFunc_Sint_ooz_c_slices_Compare_int x () (sortL cf x):=
 haveI:Inhabited (Sh.den (.sl 3 (.int .i64))):=⟨([]:List Int)⟩
 sortFunc_one (e:=27) (sh:=.sl 3 (.int .i64)) Go.Proofs.Try.sortS (entered_of Go.Proofs.Try.func48 rfl rfl) rfl hG rfl rfl hO hT (Nat.lt_of_le_of_lt h (by decide))
end Go.V

