/- The table of law ShrinkAgain and its checks against the program, written by wip/tools/gen.py. -/
import Derived.Test.YtbehlbabgomhfaaGcmp
import Derived.Test.YtbehlbabgomhfaaGparlkeep5
import Derived.Test.YtbehlbabgomhfaaGparlmake
import Derived.Test.YtbehlbabgomhfaaGshrink
import Derived.Test.YtbehlbabgomhfaaGslices
import Derived.Test.YtbehlbabgomhfaaProg
import Derived.KernelRfl
namespace Go.Proofs.Ytbehlbabgomhfaa
open Go Go.Ab
def TShrinkAgain : FuncId → Option AFunc
  | 9 => some F.parlkeep5_ShrinkAgain
  | 11 => some F.parlkeep5_below
  | 21 => some F.parlmake_Word
  | 25 => some F.shrink_Word
  | 27 => some F.slices_Contains_int_int
  | 28 => some F.slices_Equal_int_int
  | 29 => some F.parlkeep5_fails
  | 33 => some F.parlkeep5_ShrinkAgain_1
  | 34 => some F.shrink_Lower
  | 35 => some F.slices_Compare_int_int
  | 39 => some F.parlmake_Below
  | 45 => some F.shrink_without
  | 46 => some F.slices_Index_int_int
  | 47 => some F.parlkeep5_fails_1
  | 49 => some F.cmp_Compare_int
  | 52 => some F.cmp_isNaN_int
  | _ => none
theorem TShrinkAgain.c9 : cFunc Try.prog Try.f9 = some F.parlkeep5_ShrinkAgain := by kernel_rfl
theorem TShrinkAgain.c11 : cFunc Try.prog Try.f11 = some F.parlkeep5_below := by kernel_rfl
theorem TShrinkAgain.c21 : cFunc Try.prog Try.f21 = some F.parlmake_Word := by kernel_rfl
theorem TShrinkAgain.c25 : cFunc Try.prog Try.f25 = some F.shrink_Word := by kernel_rfl
theorem TShrinkAgain.c27 : cFunc Try.prog Try.f27 = some F.slices_Contains_int_int := by kernel_rfl
theorem TShrinkAgain.c28 : cFunc Try.prog Try.f28 = some F.slices_Equal_int_int := by kernel_rfl
theorem TShrinkAgain.c29 : cFunc Try.prog Try.f29 = some F.parlkeep5_fails := by kernel_rfl
theorem TShrinkAgain.c33 : cFunc Try.prog Try.f33 = some F.parlkeep5_ShrinkAgain_1 := by kernel_rfl
theorem TShrinkAgain.c34 : cFunc Try.prog Try.f34 = some F.shrink_Lower := by kernel_rfl
theorem TShrinkAgain.c35 : cFunc Try.prog Try.f35 = some F.slices_Compare_int_int := by kernel_rfl
theorem TShrinkAgain.c39 : cFunc Try.prog Try.f39 = some F.parlmake_Below := by kernel_rfl
theorem TShrinkAgain.c45 : cFunc Try.prog Try.f45 = some F.shrink_without := by kernel_rfl
theorem TShrinkAgain.c46 : cFunc Try.prog Try.f46 = some F.slices_Index_int_int := by kernel_rfl
theorem TShrinkAgain.c47 : cFunc Try.prog Try.f47 = some F.parlkeep5_fails_1 := by kernel_rfl
theorem TShrinkAgain.c49 : cFunc Try.prog Try.f49 = some F.cmp_Compare_int := by kernel_rfl
theorem TShrinkAgain.c52 : cFunc Try.prog Try.f52 = some F.cmp_isNaN_int := by kernel_rfl
theorem TShrinkAgain.ok : ∀ f F, TShrinkAgain f = some F → ∃ fn, Try.prog.funcs[f]? = some fn ∧ cFunc Try.prog fn = some F := by
  intro f F h
  unfold TShrinkAgain at h
  split at h
  · cases h; exact ⟨_, Try.func9, TShrinkAgain.c9⟩
  · cases h; exact ⟨_, Try.func11, TShrinkAgain.c11⟩
  · cases h; exact ⟨_, Try.func21, TShrinkAgain.c21⟩
  · cases h; exact ⟨_, Try.func25, TShrinkAgain.c25⟩
  · cases h; exact ⟨_, Try.func27, TShrinkAgain.c27⟩
  · cases h; exact ⟨_, Try.func28, TShrinkAgain.c28⟩
  · cases h; exact ⟨_, Try.func29, TShrinkAgain.c29⟩
  · cases h; exact ⟨_, Try.func33, TShrinkAgain.c33⟩
  · cases h; exact ⟨_, Try.func34, TShrinkAgain.c34⟩
  · cases h; exact ⟨_, Try.func35, TShrinkAgain.c35⟩
  · cases h; exact ⟨_, Try.func39, TShrinkAgain.c39⟩
  · cases h; exact ⟨_, Try.func45, TShrinkAgain.c45⟩
  · cases h; exact ⟨_, Try.func46, TShrinkAgain.c46⟩
  · cases h; exact ⟨_, Try.func47, TShrinkAgain.c47⟩
  · cases h; exact ⟨_, Try.func49, TShrinkAgain.c49⟩
  · cases h; exact ⟨_, Try.func52, TShrinkAgain.c52⟩
  · cases h
instance : Has TShrinkAgain I.parlkeep5_ShrinkAgain F.parlkeep5_ShrinkAgain := ⟨rfl⟩
instance : Has TShrinkAgain I.parlkeep5_below F.parlkeep5_below := ⟨rfl⟩
instance : Has TShrinkAgain I.parlmake_Word F.parlmake_Word := ⟨rfl⟩
instance : Has TShrinkAgain I.shrink_Word F.shrink_Word := ⟨rfl⟩
instance : Has TShrinkAgain I.slices_Contains_int_int F.slices_Contains_int_int := ⟨rfl⟩
instance : Has TShrinkAgain I.slices_Equal_int_int F.slices_Equal_int_int := ⟨rfl⟩
instance : Has TShrinkAgain I.parlkeep5_fails F.parlkeep5_fails := ⟨rfl⟩
instance : Has TShrinkAgain I.parlkeep5_ShrinkAgain_1 F.parlkeep5_ShrinkAgain_1 := ⟨rfl⟩
instance : Has TShrinkAgain I.shrink_Lower F.shrink_Lower := ⟨rfl⟩
instance : Has TShrinkAgain I.slices_Compare_int_int F.slices_Compare_int_int := ⟨rfl⟩
instance : Has TShrinkAgain I.parlmake_Below F.parlmake_Below := ⟨rfl⟩
instance : Has TShrinkAgain I.shrink_without F.shrink_without := ⟨rfl⟩
instance : Has TShrinkAgain I.slices_Index_int_int F.slices_Index_int_int := ⟨rfl⟩
instance : Has TShrinkAgain I.parlkeep5_fails_1 F.parlkeep5_fails_1 := ⟨rfl⟩
instance : Has TShrinkAgain I.cmp_Compare_int F.cmp_Compare_int := ⟨rfl⟩
instance : Has TShrinkAgain I.cmp_isNaN_int F.cmp_isNaN_int := ⟨rfl⟩
end Go.Proofs.Ytbehlbabgomhfaa
