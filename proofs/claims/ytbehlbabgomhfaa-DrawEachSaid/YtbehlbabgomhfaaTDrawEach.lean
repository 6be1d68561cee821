/- The table of law DrawEach and its checks against the program, written by wip/tools/gen.py. -/
import Derived.Test.YtbehlbabgomhfaaGcmp
import Derived.Test.YtbehlbabgomhfaaGdraw
import Derived.Test.YtbehlbabgomhfaaGmathbits
import Derived.Test.YtbehlbabgomhfaaGparlkeep5
import Derived.Test.YtbehlbabgomhfaaGparlmake
import Derived.Test.YtbehlbabgomhfaaGslices
import Derived.Test.YtbehlbabgomhfaaProg
import Derived.KernelRfl
namespace Go.Proofs.Ytbehlbabgomhfaa
open Go Go.Ab
def TDrawEach : FuncId → Option AFunc
  | 10 => some F.parlkeep5_DrawEach
  | 11 => some F.parlkeep5_below
  | 12 => some F.draw_Number
  | 14 => some F.parlkeep5_coins
  | 36 => some F.draw_Order
  | 37 => some F.slices_Clone_int_int
  | 38 => some F.slices_Sort_int_int
  | 39 => some F.parlmake_Below
  | 41 => some F.slices_Clone_bool_bool
  | 50 => some F.slices_pdqsortOrdered_int
  | 51 => some F.math_bits_Len
  | 52 => some F.cmp_isNaN_int
  | 53 => some F.slices_insertionSortOrdered_int
  | 54 => some F.slices_heapSortOrdered_int
  | 55 => some F.slices_breakPatternsOrdered_int
  | 56 => some F.slices_choosePivotOrdered_int
  | 57 => some F.slices_reverseRangeOrdered_int
  | 58 => some F.slices_partialInsertionSortOrdered_int
  | 59 => some F.cmp_Less_int
  | 60 => some F.slices_partitionEqualOrdered_int
  | 61 => some F.slices_partitionOrdered_int
  | 62 => some F.math_bits_Len32
  | 63 => some F.math_bits_Len64
  | 64 => some F.slices_siftDownOrdered_int
  | 65 => some F.slices_nextPowerOfTwo
  | 66 => some F.slices_xorshift_Next
  | 67 => some F.slices_medianAdjacentOrdered_int
  | 68 => some F.slices_medianOrdered_int
  | 69 => some F.slices_order2Ordered_int
  | _ => none
theorem TDrawEach.c10 : cFunc Try.prog Try.f10 = some F.parlkeep5_DrawEach := by kernel_rfl
theorem TDrawEach.c11 : cFunc Try.prog Try.f11 = some F.parlkeep5_below := by kernel_rfl
theorem TDrawEach.c12 : cFunc Try.prog Try.f12 = some F.draw_Number := by kernel_rfl
theorem TDrawEach.c14 : cFunc Try.prog Try.f14 = some F.parlkeep5_coins := by kernel_rfl
theorem TDrawEach.c36 : cFunc Try.prog Try.f36 = some F.draw_Order := by kernel_rfl
theorem TDrawEach.c37 : cFunc Try.prog Try.f37 = some F.slices_Clone_int_int := by kernel_rfl
theorem TDrawEach.c38 : cFunc Try.prog Try.f38 = some F.slices_Sort_int_int := by kernel_rfl
theorem TDrawEach.c39 : cFunc Try.prog Try.f39 = some F.parlmake_Below := by kernel_rfl
theorem TDrawEach.c41 : cFunc Try.prog Try.f41 = some F.slices_Clone_bool_bool := by kernel_rfl
theorem TDrawEach.c50 : cFunc Try.prog Try.f50 = some F.slices_pdqsortOrdered_int := by kernel_rfl
theorem TDrawEach.c51 : cFunc Try.prog Try.f51 = some F.math_bits_Len := by kernel_rfl
theorem TDrawEach.c52 : cFunc Try.prog Try.f52 = some F.cmp_isNaN_int := by kernel_rfl
theorem TDrawEach.c53 : cFunc Try.prog Try.f53 = some F.slices_insertionSortOrdered_int := by kernel_rfl
theorem TDrawEach.c54 : cFunc Try.prog Try.f54 = some F.slices_heapSortOrdered_int := by kernel_rfl
theorem TDrawEach.c55 : cFunc Try.prog Try.f55 = some F.slices_breakPatternsOrdered_int := by kernel_rfl
theorem TDrawEach.c56 : cFunc Try.prog Try.f56 = some F.slices_choosePivotOrdered_int := by kernel_rfl
theorem TDrawEach.c57 : cFunc Try.prog Try.f57 = some F.slices_reverseRangeOrdered_int := by kernel_rfl
theorem TDrawEach.c58 : cFunc Try.prog Try.f58 = some F.slices_partialInsertionSortOrdered_int := by kernel_rfl
theorem TDrawEach.c59 : cFunc Try.prog Try.f59 = some F.cmp_Less_int := by kernel_rfl
theorem TDrawEach.c60 : cFunc Try.prog Try.f60 = some F.slices_partitionEqualOrdered_int := by kernel_rfl
theorem TDrawEach.c61 : cFunc Try.prog Try.f61 = some F.slices_partitionOrdered_int := by kernel_rfl
theorem TDrawEach.c62 : cFunc Try.prog Try.f62 = some F.math_bits_Len32 := by kernel_rfl
theorem TDrawEach.c63 : cFunc Try.prog Try.f63 = some F.math_bits_Len64 := by kernel_rfl
theorem TDrawEach.c64 : cFunc Try.prog Try.f64 = some F.slices_siftDownOrdered_int := by kernel_rfl
theorem TDrawEach.c65 : cFunc Try.prog Try.f65 = some F.slices_nextPowerOfTwo := by kernel_rfl
theorem TDrawEach.c66 : cFunc Try.prog Try.f66 = some F.slices_xorshift_Next := by kernel_rfl
theorem TDrawEach.c67 : cFunc Try.prog Try.f67 = some F.slices_medianAdjacentOrdered_int := by kernel_rfl
theorem TDrawEach.c68 : cFunc Try.prog Try.f68 = some F.slices_medianOrdered_int := by kernel_rfl
theorem TDrawEach.c69 : cFunc Try.prog Try.f69 = some F.slices_order2Ordered_int := by kernel_rfl
theorem TDrawEach.ok : ∀ f F, TDrawEach f = some F → ∃ fn, Try.prog.funcs[f]? = some fn ∧ cFunc Try.prog fn = some F := by
  intro f F h
  unfold TDrawEach at h
  split at h
  · cases h; exact ⟨_, Try.func10, TDrawEach.c10⟩
  · cases h; exact ⟨_, Try.func11, TDrawEach.c11⟩
  · cases h; exact ⟨_, Try.func12, TDrawEach.c12⟩
  · cases h; exact ⟨_, Try.func14, TDrawEach.c14⟩
  · cases h; exact ⟨_, Try.func36, TDrawEach.c36⟩
  · cases h; exact ⟨_, Try.func37, TDrawEach.c37⟩
  · cases h; exact ⟨_, Try.func38, TDrawEach.c38⟩
  · cases h; exact ⟨_, Try.func39, TDrawEach.c39⟩
  · cases h; exact ⟨_, Try.func41, TDrawEach.c41⟩
  · cases h; exact ⟨_, Try.func50, TDrawEach.c50⟩
  · cases h; exact ⟨_, Try.func51, TDrawEach.c51⟩
  · cases h; exact ⟨_, Try.func52, TDrawEach.c52⟩
  · cases h; exact ⟨_, Try.func53, TDrawEach.c53⟩
  · cases h; exact ⟨_, Try.func54, TDrawEach.c54⟩
  · cases h; exact ⟨_, Try.func55, TDrawEach.c55⟩
  · cases h; exact ⟨_, Try.func56, TDrawEach.c56⟩
  · cases h; exact ⟨_, Try.func57, TDrawEach.c57⟩
  · cases h; exact ⟨_, Try.func58, TDrawEach.c58⟩
  · cases h; exact ⟨_, Try.func59, TDrawEach.c59⟩
  · cases h; exact ⟨_, Try.func60, TDrawEach.c60⟩
  · cases h; exact ⟨_, Try.func61, TDrawEach.c61⟩
  · cases h; exact ⟨_, Try.func62, TDrawEach.c62⟩
  · cases h; exact ⟨_, Try.func63, TDrawEach.c63⟩
  · cases h; exact ⟨_, Try.func64, TDrawEach.c64⟩
  · cases h; exact ⟨_, Try.func65, TDrawEach.c65⟩
  · cases h; exact ⟨_, Try.func66, TDrawEach.c66⟩
  · cases h; exact ⟨_, Try.func67, TDrawEach.c67⟩
  · cases h; exact ⟨_, Try.func68, TDrawEach.c68⟩
  · cases h; exact ⟨_, Try.func69, TDrawEach.c69⟩
  · cases h
instance : Has TDrawEach I.parlkeep5_DrawEach F.parlkeep5_DrawEach := ⟨rfl⟩
instance : Has TDrawEach I.parlkeep5_below F.parlkeep5_below := ⟨rfl⟩
instance : Has TDrawEach I.draw_Number F.draw_Number := ⟨rfl⟩
instance : Has TDrawEach I.parlkeep5_coins F.parlkeep5_coins := ⟨rfl⟩
instance : Has TDrawEach I.draw_Order F.draw_Order := ⟨rfl⟩
instance : Has TDrawEach I.slices_Clone_int_int F.slices_Clone_int_int := ⟨rfl⟩
instance : Has TDrawEach I.slices_Sort_int_int F.slices_Sort_int_int := ⟨rfl⟩
instance : Has TDrawEach I.parlmake_Below F.parlmake_Below := ⟨rfl⟩
instance : Has TDrawEach I.slices_Clone_bool_bool F.slices_Clone_bool_bool := ⟨rfl⟩
instance : Has TDrawEach I.slices_pdqsortOrdered_int F.slices_pdqsortOrdered_int := ⟨rfl⟩
instance : Has TDrawEach I.math_bits_Len F.math_bits_Len := ⟨rfl⟩
instance : Has TDrawEach I.cmp_isNaN_int F.cmp_isNaN_int := ⟨rfl⟩
instance : Has TDrawEach I.slices_insertionSortOrdered_int F.slices_insertionSortOrdered_int := ⟨rfl⟩
instance : Has TDrawEach I.slices_heapSortOrdered_int F.slices_heapSortOrdered_int := ⟨rfl⟩
instance : Has TDrawEach I.slices_breakPatternsOrdered_int F.slices_breakPatternsOrdered_int := ⟨rfl⟩
instance : Has TDrawEach I.slices_choosePivotOrdered_int F.slices_choosePivotOrdered_int := ⟨rfl⟩
instance : Has TDrawEach I.slices_reverseRangeOrdered_int F.slices_reverseRangeOrdered_int := ⟨rfl⟩
instance : Has TDrawEach I.slices_partialInsertionSortOrdered_int F.slices_partialInsertionSortOrdered_int := ⟨rfl⟩
instance : Has TDrawEach I.cmp_Less_int F.cmp_Less_int := ⟨rfl⟩
instance : Has TDrawEach I.slices_partitionEqualOrdered_int F.slices_partitionEqualOrdered_int := ⟨rfl⟩
instance : Has TDrawEach I.slices_partitionOrdered_int F.slices_partitionOrdered_int := ⟨rfl⟩
instance : Has TDrawEach I.math_bits_Len32 F.math_bits_Len32 := ⟨rfl⟩
instance : Has TDrawEach I.math_bits_Len64 F.math_bits_Len64 := ⟨rfl⟩
instance : Has TDrawEach I.slices_siftDownOrdered_int F.slices_siftDownOrdered_int := ⟨rfl⟩
instance : Has TDrawEach I.slices_nextPowerOfTwo F.slices_nextPowerOfTwo := ⟨rfl⟩
instance : Has TDrawEach I.slices_xorshift_Next F.slices_xorshift_Next := ⟨rfl⟩
instance : Has TDrawEach I.slices_medianAdjacentOrdered_int F.slices_medianAdjacentOrdered_int := ⟨rfl⟩
instance : Has TDrawEach I.slices_medianOrdered_int F.slices_medianOrdered_int := ⟨rfl⟩
instance : Has TDrawEach I.slices_order2Ordered_int F.slices_order2Ordered_int := ⟨rfl⟩
end Go.Proofs.Ytbehlbabgomhfaa
