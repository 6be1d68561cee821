/- The table of law CompareSides and its checks against the program, written by wip/tools/gen.py. -/
import Derived.Test.YthgdobdhdfjhfaaGcmp
import Derived.Test.YthgdobdhdfjhfaaGcompare
import Derived.Test.YthgdobdhdfjhfaaGgram
import Derived.Test.YthgdobdhdfjhfaaGmean
import Derived.Test.YthgdobdhdfjhfaaGparlkeep5
import Derived.Test.YthgdobdhdfjhfaaGparlmake
import Derived.Test.YthgdobdhdfjhfaaGslices
import Derived.Test.YthgdobdhdfjhfaaProg
import Derived.KernelRfl
namespace Go.Proofs.Ythgdobdhdfjhfaa
open Go Go.Ab
def TCompareSides : FuncId → Option AFunc
  | 4 => some F.parlkeep5_CompareSides
  | 15 => some F.parlmake_Grammar
  | 17 => some F.parlkeep5_plain
  | 20 => some F.parlkeep5_below
  | 25 => some F.parlkeep5_distinct
  | 26 => some F.compare_Least
  | 27 => some F.slices_Equal_int_int
  | 28 => some F.mean_Accepts
  | 47 => some F.parlmake_stream_next
  | 48 => some F.parlmake_has
  | 53 => some F.parlmake_Below
  | 55 => some F.gram_Check
  | 57 => some F.slices_ContainsFunc_api_Rule_api_Rule
  | 58 => some F.parlkeep5_distinct_1
  | 59 => some F.slices_Equal_api_Sym_api_Sym
  | 60 => some F.compare_words
  | 61 => some F.compare_next
  | 62 => some F.mean_check
  | 63 => some F.mean_derived
  | 64 => some F.mean_ends_is
  | 92 => some F.gram_Compare
  | 94 => some F.slices_IndexFunc_api_Rule_api_Rule
  | 95 => some F.gram_Word
  | 96 => some F.mean_ends_after
  | 115 => some F.cmp_Compare_int
  | 116 => some F.slices_CompareFunc_api_Sym_api_Sym_api_Sym_api_Sym
  | 117 => some F.gram_Order
  | 123 => some F.cmp_isNaN_int
  | _ => none
theorem TCompareSides.c4 : cFunc Try.prog Try.f4 = some F.parlkeep5_CompareSides := by kernel_rfl
theorem TCompareSides.c15 : cFunc Try.prog Try.f15 = some F.parlmake_Grammar := by kernel_rfl
theorem TCompareSides.c17 : cFunc Try.prog Try.f17 = some F.parlkeep5_plain := by kernel_rfl
theorem TCompareSides.c20 : cFunc Try.prog Try.f20 = some F.parlkeep5_below := by kernel_rfl
theorem TCompareSides.c25 : cFunc Try.prog Try.f25 = some F.parlkeep5_distinct := by kernel_rfl
theorem TCompareSides.c26 : cFunc Try.prog Try.f26 = some F.compare_Least := by kernel_rfl
theorem TCompareSides.c27 : cFunc Try.prog Try.f27 = some F.slices_Equal_int_int := by kernel_rfl
theorem TCompareSides.c28 : cFunc Try.prog Try.f28 = some F.mean_Accepts := by kernel_rfl
theorem TCompareSides.c47 : cFunc Try.prog Try.f47 = some F.parlmake_stream_next := by kernel_rfl
theorem TCompareSides.c48 : cFunc Try.prog Try.f48 = some F.parlmake_has := by kernel_rfl
theorem TCompareSides.c53 : cFunc Try.prog Try.f53 = some F.parlmake_Below := by kernel_rfl
theorem TCompareSides.c55 : cFunc Try.prog Try.f55 = some F.gram_Check := by kernel_rfl
theorem TCompareSides.c57 : cFunc Try.prog Try.f57 = some F.slices_ContainsFunc_api_Rule_api_Rule := by kernel_rfl
theorem TCompareSides.c58 : cFunc Try.prog Try.f58 = some F.parlkeep5_distinct_1 := by kernel_rfl
theorem TCompareSides.c59 : cFunc Try.prog Try.f59 = some F.slices_Equal_api_Sym_api_Sym := by kernel_rfl
theorem TCompareSides.c60 : cFunc Try.prog Try.f60 = some F.compare_words := by kernel_rfl
theorem TCompareSides.c61 : cFunc Try.prog Try.f61 = some F.compare_next := by kernel_rfl
theorem TCompareSides.c62 : cFunc Try.prog Try.f62 = some F.mean_check := by kernel_rfl
theorem TCompareSides.c63 : cFunc Try.prog Try.f63 = some F.mean_derived := by kernel_rfl
theorem TCompareSides.c64 : cFunc Try.prog Try.f64 = some F.mean_ends_is := by kernel_rfl
theorem TCompareSides.c92 : cFunc Try.prog Try.f92 = some F.gram_Compare := by kernel_rfl
theorem TCompareSides.c94 : cFunc Try.prog Try.f94 = some F.slices_IndexFunc_api_Rule_api_Rule := by kernel_rfl
theorem TCompareSides.c95 : cFunc Try.prog Try.f95 = some F.gram_Word := by kernel_rfl
theorem TCompareSides.c96 : cFunc Try.prog Try.f96 = some F.mean_ends_after := by kernel_rfl
theorem TCompareSides.c115 : cFunc Try.prog Try.f115 = some F.cmp_Compare_int := by kernel_rfl
theorem TCompareSides.c116 : cFunc Try.prog Try.f116 = some F.slices_CompareFunc_api_Sym_api_Sym_api_Sym_api_Sym := by kernel_rfl
theorem TCompareSides.c117 : cFunc Try.prog Try.f117 = some F.gram_Order := by kernel_rfl
theorem TCompareSides.c123 : cFunc Try.prog Try.f123 = some F.cmp_isNaN_int := by kernel_rfl
theorem TCompareSides.ok : ∀ f F, TCompareSides f = some F → ∃ fn, Try.prog.funcs[f]? = some fn ∧ cFunc Try.prog fn = some F := by
  intro f F h
  unfold TCompareSides at h
  split at h
  · cases h; exact ⟨_, Try.func4, TCompareSides.c4⟩
  · cases h; exact ⟨_, Try.func15, TCompareSides.c15⟩
  · cases h; exact ⟨_, Try.func17, TCompareSides.c17⟩
  · cases h; exact ⟨_, Try.func20, TCompareSides.c20⟩
  · cases h; exact ⟨_, Try.func25, TCompareSides.c25⟩
  · cases h; exact ⟨_, Try.func26, TCompareSides.c26⟩
  · cases h; exact ⟨_, Try.func27, TCompareSides.c27⟩
  · cases h; exact ⟨_, Try.func28, TCompareSides.c28⟩
  · cases h; exact ⟨_, Try.func47, TCompareSides.c47⟩
  · cases h; exact ⟨_, Try.func48, TCompareSides.c48⟩
  · cases h; exact ⟨_, Try.func53, TCompareSides.c53⟩
  · cases h; exact ⟨_, Try.func55, TCompareSides.c55⟩
  · cases h; exact ⟨_, Try.func57, TCompareSides.c57⟩
  · cases h; exact ⟨_, Try.func58, TCompareSides.c58⟩
  · cases h; exact ⟨_, Try.func59, TCompareSides.c59⟩
  · cases h; exact ⟨_, Try.func60, TCompareSides.c60⟩
  · cases h; exact ⟨_, Try.func61, TCompareSides.c61⟩
  · cases h; exact ⟨_, Try.func62, TCompareSides.c62⟩
  · cases h; exact ⟨_, Try.func63, TCompareSides.c63⟩
  · cases h; exact ⟨_, Try.func64, TCompareSides.c64⟩
  · cases h; exact ⟨_, Try.func92, TCompareSides.c92⟩
  · cases h; exact ⟨_, Try.func94, TCompareSides.c94⟩
  · cases h; exact ⟨_, Try.func95, TCompareSides.c95⟩
  · cases h; exact ⟨_, Try.func96, TCompareSides.c96⟩
  · cases h; exact ⟨_, Try.func115, TCompareSides.c115⟩
  · cases h; exact ⟨_, Try.func116, TCompareSides.c116⟩
  · cases h; exact ⟨_, Try.func117, TCompareSides.c117⟩
  · cases h; exact ⟨_, Try.func123, TCompareSides.c123⟩
  · cases h
instance : Has TCompareSides I.parlkeep5_CompareSides F.parlkeep5_CompareSides := ⟨rfl⟩
instance : Has TCompareSides I.parlmake_Grammar F.parlmake_Grammar := ⟨rfl⟩
instance : Has TCompareSides I.parlkeep5_plain F.parlkeep5_plain := ⟨rfl⟩
instance : Has TCompareSides I.parlkeep5_below F.parlkeep5_below := ⟨rfl⟩
instance : Has TCompareSides I.parlkeep5_distinct F.parlkeep5_distinct := ⟨rfl⟩
instance : Has TCompareSides I.compare_Least F.compare_Least := ⟨rfl⟩
instance : Has TCompareSides I.slices_Equal_int_int F.slices_Equal_int_int := ⟨rfl⟩
instance : Has TCompareSides I.mean_Accepts F.mean_Accepts := ⟨rfl⟩
instance : Has TCompareSides I.parlmake_stream_next F.parlmake_stream_next := ⟨rfl⟩
instance : Has TCompareSides I.parlmake_has F.parlmake_has := ⟨rfl⟩
instance : Has TCompareSides I.parlmake_Below F.parlmake_Below := ⟨rfl⟩
instance : Has TCompareSides I.gram_Check F.gram_Check := ⟨rfl⟩
instance : Has TCompareSides I.slices_ContainsFunc_api_Rule_api_Rule F.slices_ContainsFunc_api_Rule_api_Rule := ⟨rfl⟩
instance : Has TCompareSides I.parlkeep5_distinct_1 F.parlkeep5_distinct_1 := ⟨rfl⟩
instance : Has TCompareSides I.slices_Equal_api_Sym_api_Sym F.slices_Equal_api_Sym_api_Sym := ⟨rfl⟩
instance : Has TCompareSides I.compare_words F.compare_words := ⟨rfl⟩
instance : Has TCompareSides I.compare_next F.compare_next := ⟨rfl⟩
instance : Has TCompareSides I.mean_check F.mean_check := ⟨rfl⟩
instance : Has TCompareSides I.mean_derived F.mean_derived := ⟨rfl⟩
instance : Has TCompareSides I.mean_ends_is F.mean_ends_is := ⟨rfl⟩
instance : Has TCompareSides I.gram_Compare F.gram_Compare := ⟨rfl⟩
instance : Has TCompareSides I.slices_IndexFunc_api_Rule_api_Rule F.slices_IndexFunc_api_Rule_api_Rule := ⟨rfl⟩
instance : Has TCompareSides I.gram_Word F.gram_Word := ⟨rfl⟩
instance : Has TCompareSides I.mean_ends_after F.mean_ends_after := ⟨rfl⟩
instance : Has TCompareSides I.cmp_Compare_int F.cmp_Compare_int := ⟨rfl⟩
instance : Has TCompareSides I.slices_CompareFunc_api_Sym_api_Sym_api_Sym_api_Sym F.slices_CompareFunc_api_Sym_api_Sym_api_Sym_api_Sym := ⟨rfl⟩
instance : Has TCompareSides I.gram_Order F.gram_Order := ⟨rfl⟩
instance : Has TCompareSides I.cmp_isNaN_int F.cmp_isNaN_int := ⟨rfl⟩
end Go.Proofs.Ythgdobdhdfjhfaa
