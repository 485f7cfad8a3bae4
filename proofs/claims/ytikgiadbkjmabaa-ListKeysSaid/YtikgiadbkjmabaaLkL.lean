/- A contract of the library,laid at this program in plain words. -/
import Derived.Test.YtikgiadbkjmabaaProg
import Derived.Shelf.SlSortCmp.WholeK


namespace Go.Proofs
open Go.Shelf
set_option linter.unusedSimpArgs false
set_option linter.unusedVariables false
def Try.sortV_ren:Go.Shelf.Ren:=⟨fun | 6=>26 | 15=>46 | 14=>45 | 28=>76 | 29=>77 | 20=>68 | 21=>69 | 22=>70 | 23=>71 | 24=>72 | 25=>73 | 26=>74 | 27=>75 | 46=>90 | 47=>91 | 48=>92 | 49=>93 | 50=>94 | 57=>96 | n=>n,fun | 22=>23 | 24=>41 | 25=>64 | 3=>3 | 39=>77 | 0=>0 | 53=>109 | 55=>111 | 4=>4 | 46=>103 | 45=>102 | 50=>95 | 5=>5 | 9=>9 | 66=>121 | 70=>125 | 76=>127 | 77=>128 | n=>n,fun | n=>n⟩
theorem Try.sortV:Go.Proofs.SlLaysF0.n6 Try.prog Try.sortV_ren:={
  mixed:=by kernel_rfl
  f6:=⟨Try.f26.name,by decide,Try.func26.trans (congrArg some (by kernel_rfl))⟩
  f14:=⟨Try.f45.name,by decide,Try.func45.trans (congrArg some (by kernel_rfl))⟩
  f15:=Try.func46.trans (congrArg some (by kernel_rfl))
  f20:=⟨Try.f68.name,by decide,Try.func68.trans (congrArg some (by kernel_rfl))⟩
  f21:=⟨Try.f69.name,by decide,Try.func69.trans (congrArg some (by kernel_rfl))⟩
  f22:=⟨Try.f70.name,by decide,Try.func70.trans (congrArg some (by kernel_rfl))⟩
  f23:=⟨Try.f71.name,by decide,Try.func71.trans (congrArg some (by kernel_rfl))⟩
  f24:=⟨Try.f72.name,by decide,Try.func72.trans (congrArg some (by kernel_rfl))⟩
  f25:=⟨Try.f73.name,by decide,Try.func73.trans (congrArg some (by kernel_rfl))⟩
  f26:=⟨Try.f74.name,by decide,Try.func74.trans (congrArg some (by kernel_rfl))⟩
  f27:=⟨Try.f75.name,by decide,Try.func75.trans (congrArg some (by kernel_rfl))⟩
  f28:=Try.func76.trans (congrArg some (by kernel_rfl))
  f29:=Try.func77.trans (congrArg some (by kernel_rfl))
  f46:=⟨Try.f90.name,by decide,Try.func90.trans (congrArg some (by kernel_rfl))⟩
  f47:=Try.func91.trans (congrArg some (by kernel_rfl))
  f48:=Try.func92.trans (congrArg some (by kernel_rfl))
  f49:=⟨Try.f93.name,by decide,Try.func93.trans (congrArg some (by kernel_rfl))⟩
  f50:=⟨Try.f94.name,by decide,Try.func94.trans (congrArg some (by kernel_rfl))⟩
  f57:=⟨Try.f96.name,by decide,Try.func96.trans (congrArg some (by kernel_rfl))⟩
  t0:=Try.underlying0
  a0:=Try.isAgg0
  z0:=Try.sizeOf0
  v0:=Try.zeroValue0
  t3:=Try.underlying3
  a3:=Try.isAgg3
  z3:=Try.sizeOf3
  v3:=Try.zeroValue3
  t4:=Try.underlying4
  a4:=Try.isAgg4
  z4:=Try.sizeOf4
  v4:=Try.zeroValue4
  t5:=Try.underlying5
  a5:=Try.isAgg5
  z5:=Try.sizeOf5
  v5:=Try.zeroValue5
  t9:=Try.underlying9
  a9:=Try.isAgg9
  z9:=Try.sizeOf9
  v9:=Try.zeroValue9
  t22:=Try.underlying23
  a22:=Try.isAgg23
  z22:=Try.sizeOf23
  v22:=Try.zeroValue23
  t25:=Try.underlying64
  a25:=Try.isAgg64
  z25:=Try.sizeOf64
  v25:=Try.zeroValue64
  t39:=Try.underlying77
  a39:=Try.isAgg77
  z39:=Try.sizeOf77
  v39:=Try.zeroValue77
  t45:=Try.underlying102
  a45:=Try.isAgg102
  z45:=Try.sizeOf102
  v45:=Try.zeroValue102
  t46:=Try.underlying103
  a46:=Try.isAgg103
  z46:=Try.sizeOf103
  v46:=Try.zeroValue103
  t50:=Try.underlying95
  a50:=Try.isAgg95
  z50:=Try.sizeOf95
  v50:=Try.zeroValue95
  t53:=Try.underlying109
  a53:=Try.isAgg109
  z53:=Try.sizeOf109
  v53:=Try.zeroValue109
  t55:=Try.underlying111
  a55:=Try.isAgg111
  z55:=Try.sizeOf111
  v55:=Try.zeroValue111
  t66:=Try.underlying121
  a66:=Try.isAgg121
  z66:=Try.sizeOf121
  v66:=Try.zeroValue121
  t70:=Try.underlying125
  a70:=Try.isAgg125
  z70:=Try.sizeOf125
  v70:=Try.zeroValue125
  t76:=Try.underlying127
  a76:=Try.isAgg127
  z76:=Try.sizeOf127
  v76:=Try.zeroValue127
  t77:=Try.underlying128
  a77:=Try.isAgg128
  z77:=Try.sizeOf128
  v77:=Try.zeroValue128 }
end Go.Proofs
