/- The table of law ShrinkLeast and its checks against the program, written by wip/tools/gen.py. -/
import Derived.Test.YtbehlbabgomhfaaGparlkeep5
import Derived.Test.YtbehlbabgomhfaaGparlmake
import Derived.Test.YtbehlbabgomhfaaGshrink
import Derived.Test.YtbehlbabgomhfaaGslices
import Derived.Test.YtbehlbabgomhfaaProg
import Derived.KernelRfl
namespace Go.Proofs.Ytbehlbabgomhfaa
open Go Go.Ab
def TShrinkLeast : FuncId → Option AFunc
  | 7 => some F.parlkeep5_ShrinkLeast
  | 11 => some F.parlkeep5_below
  | 21 => some F.parlmake_Word
  | 25 => some F.shrink_Word
  | 26 => some F.parlkeep5_ShrinkLeast_1
  | 27 => some F.slices_Contains_int_int
  | 28 => some F.slices_Equal_int_int
  | 29 => some F.parlkeep5_fails
  | 30 => some F.slices_Concat_int_int
  | 39 => some F.parlmake_Below
  | 45 => some F.shrink_without
  | 46 => some F.slices_Index_int_int
  | 47 => some F.parlkeep5_fails_1
  | 48 => some F.slices_Grow_int_int
  | _ => none
theorem TShrinkLeast.c7 : cFunc Try.prog Try.f7 = some F.parlkeep5_ShrinkLeast := by kernel_rfl
theorem TShrinkLeast.c11 : cFunc Try.prog Try.f11 = some F.parlkeep5_below := by kernel_rfl
theorem TShrinkLeast.c21 : cFunc Try.prog Try.f21 = some F.parlmake_Word := by kernel_rfl
theorem TShrinkLeast.c25 : cFunc Try.prog Try.f25 = some F.shrink_Word := by kernel_rfl
theorem TShrinkLeast.c26 : cFunc Try.prog Try.f26 = some F.parlkeep5_ShrinkLeast_1 := by kernel_rfl
theorem TShrinkLeast.c27 : cFunc Try.prog Try.f27 = some F.slices_Contains_int_int := by kernel_rfl
theorem TShrinkLeast.c28 : cFunc Try.prog Try.f28 = some F.slices_Equal_int_int := by kernel_rfl
theorem TShrinkLeast.c29 : cFunc Try.prog Try.f29 = some F.parlkeep5_fails := by kernel_rfl
theorem TShrinkLeast.c30 : cFunc Try.prog Try.f30 = some F.slices_Concat_int_int := by kernel_rfl
theorem TShrinkLeast.c39 : cFunc Try.prog Try.f39 = some F.parlmake_Below := by kernel_rfl
theorem TShrinkLeast.c45 : cFunc Try.prog Try.f45 = some F.shrink_without := by kernel_rfl
theorem TShrinkLeast.c46 : cFunc Try.prog Try.f46 = some F.slices_Index_int_int := by kernel_rfl
theorem TShrinkLeast.c47 : cFunc Try.prog Try.f47 = some F.parlkeep5_fails_1 := by kernel_rfl
theorem TShrinkLeast.c48 : cFunc Try.prog Try.f48 = some F.slices_Grow_int_int := by kernel_rfl
theorem TShrinkLeast.ok : ∀ f F, TShrinkLeast f = some F → ∃ fn, Try.prog.funcs[f]? = some fn ∧ cFunc Try.prog fn = some F := by
  intro f F h
  unfold TShrinkLeast at h
  split at h
  · cases h; exact ⟨_, Try.func7, TShrinkLeast.c7⟩
  · cases h; exact ⟨_, Try.func11, TShrinkLeast.c11⟩
  · cases h; exact ⟨_, Try.func21, TShrinkLeast.c21⟩
  · cases h; exact ⟨_, Try.func25, TShrinkLeast.c25⟩
  · cases h; exact ⟨_, Try.func26, TShrinkLeast.c26⟩
  · cases h; exact ⟨_, Try.func27, TShrinkLeast.c27⟩
  · cases h; exact ⟨_, Try.func28, TShrinkLeast.c28⟩
  · cases h; exact ⟨_, Try.func29, TShrinkLeast.c29⟩
  · cases h; exact ⟨_, Try.func30, TShrinkLeast.c30⟩
  · cases h; exact ⟨_, Try.func39, TShrinkLeast.c39⟩
  · cases h; exact ⟨_, Try.func45, TShrinkLeast.c45⟩
  · cases h; exact ⟨_, Try.func46, TShrinkLeast.c46⟩
  · cases h; exact ⟨_, Try.func47, TShrinkLeast.c47⟩
  · cases h; exact ⟨_, Try.func48, TShrinkLeast.c48⟩
  · cases h
instance : Has TShrinkLeast I.parlkeep5_ShrinkLeast F.parlkeep5_ShrinkLeast := ⟨rfl⟩
instance : Has TShrinkLeast I.parlkeep5_below F.parlkeep5_below := ⟨rfl⟩
instance : Has TShrinkLeast I.parlmake_Word F.parlmake_Word := ⟨rfl⟩
instance : Has TShrinkLeast I.shrink_Word F.shrink_Word := ⟨rfl⟩
instance : Has TShrinkLeast I.parlkeep5_ShrinkLeast_1 F.parlkeep5_ShrinkLeast_1 := ⟨rfl⟩
instance : Has TShrinkLeast I.slices_Contains_int_int F.slices_Contains_int_int := ⟨rfl⟩
instance : Has TShrinkLeast I.slices_Equal_int_int F.slices_Equal_int_int := ⟨rfl⟩
instance : Has TShrinkLeast I.parlkeep5_fails F.parlkeep5_fails := ⟨rfl⟩
instance : Has TShrinkLeast I.slices_Concat_int_int F.slices_Concat_int_int := ⟨rfl⟩
instance : Has TShrinkLeast I.parlmake_Below F.parlmake_Below := ⟨rfl⟩
instance : Has TShrinkLeast I.shrink_without F.shrink_without := ⟨rfl⟩
instance : Has TShrinkLeast I.slices_Index_int_int F.slices_Index_int_int := ⟨rfl⟩
instance : Has TShrinkLeast I.parlkeep5_fails_1 F.parlkeep5_fails_1 := ⟨rfl⟩
instance : Has TShrinkLeast I.slices_Grow_int_int F.slices_Grow_int_int := ⟨rfl⟩
end Go.Proofs.Ytbehlbabgomhfaa
