/- The table of law CompareSame and its checks against the program, written by wip/tools/gen.py. -/
import Derived.Test.YthgdobdhdfjhfaaGcmp
import Derived.Test.YthgdobdhdfjhfaaGcompare
import Derived.Test.YthgdobdhdfjhfaaGgram
import Derived.Test.YthgdobdhdfjhfaaGmean
import Derived.Test.YthgdobdhdfjhfaaGparlkeep5
import Derived.Test.YthgdobdhdfjhfaaGparlmake
import Derived.Test.YthgdobdhdfjhfaaGslices
import Derived.Test.YthgdobdhdfjhfaaProg
import Derived.KernelRfl
namespace Go.Proofs.Ythgdobdhdfjhfaa
open Go Go.Ab
def TCompareSame : FuncId → Option AFunc
  | 5 => some F.parlkeep5_CompareSame
  | 15 => some F.parlmake_Grammar
  | 17 => some F.parlkeep5_plain
  | 20 => some F.parlkeep5_below
  | 26 => some F.compare_Least
  | 27 => some F.slices_Equal_int_int
  | 28 => some F.mean_Accepts
  | 29 => some F.slices_Clone_api_Rule_api_Rule
  | 30 => some F.slices_Reverse_api_Rule_api_Rule
  | 47 => some F.parlmake_stream_next
  | 48 => some F.parlmake_has
  | 53 => some F.parlmake_Below
  | 55 => some F.gram_Check
  | 60 => some F.compare_words
  | 61 => some F.compare_next
  | 62 => some F.mean_check
  | 63 => some F.mean_derived
  | 64 => some F.mean_ends_is
  | 92 => some F.gram_Compare
  | 95 => some F.gram_Word
  | 96 => some F.mean_ends_after
  | 115 => some F.cmp_Compare_int
  | 116 => some F.slices_CompareFunc_api_Sym_api_Sym_api_Sym_api_Sym
  | 117 => some F.gram_Order
  | 123 => some F.cmp_isNaN_int
  | _ => none
theorem TCompareSame.c5 : cFunc Try.prog Try.f5 = some F.parlkeep5_CompareSame := by kernel_rfl
theorem TCompareSame.c15 : cFunc Try.prog Try.f15 = some F.parlmake_Grammar := by kernel_rfl
theorem TCompareSame.c17 : cFunc Try.prog Try.f17 = some F.parlkeep5_plain := by kernel_rfl
theorem TCompareSame.c20 : cFunc Try.prog Try.f20 = some F.parlkeep5_below := by kernel_rfl
theorem TCompareSame.c26 : cFunc Try.prog Try.f26 = some F.compare_Least := by kernel_rfl
theorem TCompareSame.c27 : cFunc Try.prog Try.f27 = some F.slices_Equal_int_int := by kernel_rfl
theorem TCompareSame.c28 : cFunc Try.prog Try.f28 = some F.mean_Accepts := by kernel_rfl
theorem TCompareSame.c29 : cFunc Try.prog Try.f29 = some F.slices_Clone_api_Rule_api_Rule := by kernel_rfl
theorem TCompareSame.c30 : cFunc Try.prog Try.f30 = some F.slices_Reverse_api_Rule_api_Rule := by kernel_rfl
theorem TCompareSame.c47 : cFunc Try.prog Try.f47 = some F.parlmake_stream_next := by kernel_rfl
theorem TCompareSame.c48 : cFunc Try.prog Try.f48 = some F.parlmake_has := by kernel_rfl
theorem TCompareSame.c53 : cFunc Try.prog Try.f53 = some F.parlmake_Below := by kernel_rfl
theorem TCompareSame.c55 : cFunc Try.prog Try.f55 = some F.gram_Check := by kernel_rfl
theorem TCompareSame.c60 : cFunc Try.prog Try.f60 = some F.compare_words := by kernel_rfl
theorem TCompareSame.c61 : cFunc Try.prog Try.f61 = some F.compare_next := by kernel_rfl
theorem TCompareSame.c62 : cFunc Try.prog Try.f62 = some F.mean_check := by kernel_rfl
theorem TCompareSame.c63 : cFunc Try.prog Try.f63 = some F.mean_derived := by kernel_rfl
theorem TCompareSame.c64 : cFunc Try.prog Try.f64 = some F.mean_ends_is := by kernel_rfl
theorem TCompareSame.c92 : cFunc Try.prog Try.f92 = some F.gram_Compare := by kernel_rfl
theorem TCompareSame.c95 : cFunc Try.prog Try.f95 = some F.gram_Word := by kernel_rfl
theorem TCompareSame.c96 : cFunc Try.prog Try.f96 = some F.mean_ends_after := by kernel_rfl
theorem TCompareSame.c115 : cFunc Try.prog Try.f115 = some F.cmp_Compare_int := by kernel_rfl
theorem TCompareSame.c116 : cFunc Try.prog Try.f116 = some F.slices_CompareFunc_api_Sym_api_Sym_api_Sym_api_Sym := by kernel_rfl
theorem TCompareSame.c117 : cFunc Try.prog Try.f117 = some F.gram_Order := by kernel_rfl
theorem TCompareSame.c123 : cFunc Try.prog Try.f123 = some F.cmp_isNaN_int := by kernel_rfl
theorem TCompareSame.ok : ∀ f F, TCompareSame f = some F → ∃ fn, Try.prog.funcs[f]? = some fn ∧ cFunc Try.prog fn = some F := by
  intro f F h
  unfold TCompareSame at h
  split at h
  · cases h; exact ⟨_, Try.func5, TCompareSame.c5⟩
  · cases h; exact ⟨_, Try.func15, TCompareSame.c15⟩
  · cases h; exact ⟨_, Try.func17, TCompareSame.c17⟩
  · cases h; exact ⟨_, Try.func20, TCompareSame.c20⟩
  · cases h; exact ⟨_, Try.func26, TCompareSame.c26⟩
  · cases h; exact ⟨_, Try.func27, TCompareSame.c27⟩
  · cases h; exact ⟨_, Try.func28, TCompareSame.c28⟩
  · cases h; exact ⟨_, Try.func29, TCompareSame.c29⟩
  · cases h; exact ⟨_, Try.func30, TCompareSame.c30⟩
  · cases h; exact ⟨_, Try.func47, TCompareSame.c47⟩
  · cases h; exact ⟨_, Try.func48, TCompareSame.c48⟩
  · cases h; exact ⟨_, Try.func53, TCompareSame.c53⟩
  · cases h; exact ⟨_, Try.func55, TCompareSame.c55⟩
  · cases h; exact ⟨_, Try.func60, TCompareSame.c60⟩
  · cases h; exact ⟨_, Try.func61, TCompareSame.c61⟩
  · cases h; exact ⟨_, Try.func62, TCompareSame.c62⟩
  · cases h; exact ⟨_, Try.func63, TCompareSame.c63⟩
  · cases h; exact ⟨_, Try.func64, TCompareSame.c64⟩
  · cases h; exact ⟨_, Try.func92, TCompareSame.c92⟩
  · cases h; exact ⟨_, Try.func95, TCompareSame.c95⟩
  · cases h; exact ⟨_, Try.func96, TCompareSame.c96⟩
  · cases h; exact ⟨_, Try.func115, TCompareSame.c115⟩
  · cases h; exact ⟨_, Try.func116, TCompareSame.c116⟩
  · cases h; exact ⟨_, Try.func117, TCompareSame.c117⟩
  · cases h; exact ⟨_, Try.func123, TCompareSame.c123⟩
  · cases h
instance : Has TCompareSame I.parlkeep5_CompareSame F.parlkeep5_CompareSame := ⟨rfl⟩
instance : Has TCompareSame I.parlmake_Grammar F.parlmake_Grammar := ⟨rfl⟩
instance : Has TCompareSame I.parlkeep5_plain F.parlkeep5_plain := ⟨rfl⟩
instance : Has TCompareSame I.parlkeep5_below F.parlkeep5_below := ⟨rfl⟩
instance : Has TCompareSame I.compare_Least F.compare_Least := ⟨rfl⟩
instance : Has TCompareSame I.slices_Equal_int_int F.slices_Equal_int_int := ⟨rfl⟩
instance : Has TCompareSame I.mean_Accepts F.mean_Accepts := ⟨rfl⟩
instance : Has TCompareSame I.slices_Clone_api_Rule_api_Rule F.slices_Clone_api_Rule_api_Rule := ⟨rfl⟩
instance : Has TCompareSame I.slices_Reverse_api_Rule_api_Rule F.slices_Reverse_api_Rule_api_Rule := ⟨rfl⟩
instance : Has TCompareSame I.parlmake_stream_next F.parlmake_stream_next := ⟨rfl⟩
instance : Has TCompareSame I.parlmake_has F.parlmake_has := ⟨rfl⟩
instance : Has TCompareSame I.parlmake_Below F.parlmake_Below := ⟨rfl⟩
instance : Has TCompareSame I.gram_Check F.gram_Check := ⟨rfl⟩
instance : Has TCompareSame I.compare_words F.compare_words := ⟨rfl⟩
instance : Has TCompareSame I.compare_next F.compare_next := ⟨rfl⟩
instance : Has TCompareSame I.mean_check F.mean_check := ⟨rfl⟩
instance : Has TCompareSame I.mean_derived F.mean_derived := ⟨rfl⟩
instance : Has TCompareSame I.mean_ends_is F.mean_ends_is := ⟨rfl⟩
instance : Has TCompareSame I.gram_Compare F.gram_Compare := ⟨rfl⟩
instance : Has TCompareSame I.gram_Word F.gram_Word := ⟨rfl⟩
instance : Has TCompareSame I.mean_ends_after F.mean_ends_after := ⟨rfl⟩
instance : Has TCompareSame I.cmp_Compare_int F.cmp_Compare_int := ⟨rfl⟩
instance : Has TCompareSame I.slices_CompareFunc_api_Sym_api_Sym_api_Sym_api_Sym F.slices_CompareFunc_api_Sym_api_Sym_api_Sym_api_Sym := ⟨rfl⟩
instance : Has TCompareSame I.gram_Order F.gram_Order := ⟨rfl⟩
instance : Has TCompareSame I.cmp_isNaN_int F.cmp_isNaN_int := ⟨rfl⟩
end Go.Proofs.Ythgdobdhdfjhfaa
