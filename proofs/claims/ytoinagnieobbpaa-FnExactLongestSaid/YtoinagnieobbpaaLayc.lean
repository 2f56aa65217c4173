/- Contracts of the library's functions, laid at this seat's numbers. -/
import Derived.Test.YtoinagnieobbpaaProg
import Derived.Shelf.Bytes.SlIndexWhole
namespace Go.Proofs
open Go.Shelf
def Lay.containsM_ren : Go.Shelf.Ren := ⟨fun | 186 => 51 | 185 => 70 | 187 => 84 | 115 => 85 | 253 => 86 | 224 => 87 | 254 => 88 | 255 => 102 | 291 => 103 | n => n, fun | 37 => 22 | 4 => 4 | 3 => 3 | 0 => 0 | 5 => 5 | 46 => 78 | 9 => 9 | 146 => 94 | 51 => 91 | n => n, fun | 1 => 0 | n => n⟩
theorem Lay.containsM : Go.Proofs.LaysM.n186 Try.prog Lay.containsM_ren := {
  mixed := by kernel_rfl
  f115 := Try.func85.trans (congrArg some (by kernel_rfl))
  f185 := Try.func70.trans (congrArg some (by kernel_rfl))
  f186 := Try.func51.trans (congrArg some (by kernel_rfl))
  f187 := Try.func84.trans (congrArg some (by kernel_rfl))
  f224 := Try.func87.trans (congrArg some (by kernel_rfl))
  f253 := Try.func86.trans (congrArg some (by kernel_rfl))
  f254 := Try.func88.trans (congrArg some (by kernel_rfl))
  f255 := Try.func102.trans (congrArg some (by kernel_rfl))
  f291 := Try.func103.trans (congrArg some (by kernel_rfl))
  t0 := Try.underlying0
  a0 := Try.isAgg0
  z0 := Try.sizeOf0
  v0 := Try.zeroValue0
  t3 := Try.underlying3
  a3 := Try.isAgg3
  z3 := Try.sizeOf3
  v3 := Try.zeroValue3
  t4 := Try.underlying4
  a4 := Try.isAgg4
  z4 := Try.sizeOf4
  v4 := Try.zeroValue4
  t5 := Try.underlying5
  a5 := Try.isAgg5
  z5 := Try.sizeOf5
  v5 := Try.zeroValue5
  t9 := Try.underlying9
  a9 := Try.isAgg9
  z9 := Try.sizeOf9
  v9 := Try.zeroValue9
  t37 := Try.underlying22
  a37 := Try.isAgg22
  z37 := Try.sizeOf22
  v37 := Try.zeroValue22
  t46 := Try.underlying78
  a46 := Try.isAgg78
  z46 := Try.sizeOf78
  v46 := Try.zeroValue78
  t51 := Try.underlying91
  a51 := Try.isAgg91
  z51 := Try.sizeOf91
  v51 := Try.zeroValue91
  t146 := Try.underlying94
  a146 := Try.isAgg94
  z146 := Try.sizeOf94
  v146 := Try.zeroValue94
  g1 := by kernel_rfl
  i0 := by kernel_rfl
  i3 := by kernel_rfl
  i4 := by kernel_rfl
  i5 := by kernel_rfl
  i9 := by kernel_rfl
  i37 := by kernel_rfl
  i46 := by kernel_rfl
  i51 := by kernel_rfl
  i146 := by kernel_rfl
  m1 := by kernel_rfl
  s1_3 := fun w h => Go.Proofs.cell_of_shapedOpen_int (zero := #[.int .i64 0]) (t := 3) h (of_decide_eq_true (by kernel_rfl)) (by kernel_rfl) rfl (by kernel_rfl) (by kernel_rfl) Try.underlying3 }
end Go.Proofs
