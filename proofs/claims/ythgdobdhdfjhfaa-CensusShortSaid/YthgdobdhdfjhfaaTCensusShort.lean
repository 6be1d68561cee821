/- The table of law CensusShort and its checks against the program, written by wip/tools/gen.py. -/
import Derived.Test.YthgdobdhdfjhfaaGcensus
import Derived.Test.YthgdobdhdfjhfaaGcmp
import Derived.Test.YthgdobdhdfjhfaaGgram
import Derived.Test.YthgdobdhdfjhfaaGparlkeep5
import Derived.Test.YthgdobdhdfjhfaaGparlmake
import Derived.Test.YthgdobdhdfjhfaaGslices
import Derived.Test.YthgdobdhdfjhfaaProg
import Derived.KernelRfl
namespace Go.Proofs.Ythgdobdhdfjhfaa
open Go Go.Ab
def TCensusShort : FuncId → Option AFunc
  | 9 => some F.parlkeep5_CensusShort
  | 15 => some F.parlmake_Grammar
  | 17 => some F.parlkeep5_plain
  | 20 => some F.parlkeep5_below
  | 27 => some F.slices_Equal_int_int
  | 38 => some F.census_Trees
  | 39 => some F.parlkeep5_counts
  | 47 => some F.parlmake_stream_next
  | 48 => some F.parlmake_has
  | 53 => some F.parlmake_Below
  | 55 => some F.gram_Check
  | 81 => some F.census_newTable
  | 82 => some F.census_table_find
  | 83 => some F.census_table_loops
  | 84 => some F.census_table_count
  | 85 => some F.census_Total
  | 92 => some F.gram_Compare
  | 106 => some F.census_rows_bool
  | 107 => some F.census_rows_int
  | 108 => some F.census_table_end
  | 109 => some F.census_table_same
  | 110 => some F.census_table_endless
  | 111 => some F.census_table_way
  | 115 => some F.cmp_Compare_int
  | 116 => some F.slices_CompareFunc_api_Sym_api_Sym_api_Sym_api_Sym
  | 117 => some F.gram_Order
  | 121 => some F.census_table_sym
  | 123 => some F.cmp_isNaN_int
  | _ => none
theorem TCensusShort.c9 : cFunc Try.prog Try.f9 = some F.parlkeep5_CensusShort := by kernel_rfl
theorem TCensusShort.c15 : cFunc Try.prog Try.f15 = some F.parlmake_Grammar := by kernel_rfl
theorem TCensusShort.c17 : cFunc Try.prog Try.f17 = some F.parlkeep5_plain := by kernel_rfl
theorem TCensusShort.c20 : cFunc Try.prog Try.f20 = some F.parlkeep5_below := by kernel_rfl
theorem TCensusShort.c27 : cFunc Try.prog Try.f27 = some F.slices_Equal_int_int := by kernel_rfl
theorem TCensusShort.c38 : cFunc Try.prog Try.f38 = some F.census_Trees := by kernel_rfl
theorem TCensusShort.c39 : cFunc Try.prog Try.f39 = some F.parlkeep5_counts := by kernel_rfl
theorem TCensusShort.c47 : cFunc Try.prog Try.f47 = some F.parlmake_stream_next := by kernel_rfl
theorem TCensusShort.c48 : cFunc Try.prog Try.f48 = some F.parlmake_has := by kernel_rfl
theorem TCensusShort.c53 : cFunc Try.prog Try.f53 = some F.parlmake_Below := by kernel_rfl
theorem TCensusShort.c55 : cFunc Try.prog Try.f55 = some F.gram_Check := by kernel_rfl
theorem TCensusShort.c81 : cFunc Try.prog Try.f81 = some F.census_newTable := by kernel_rfl
theorem TCensusShort.c82 : cFunc Try.prog Try.f82 = some F.census_table_find := by kernel_rfl
theorem TCensusShort.c83 : cFunc Try.prog Try.f83 = some F.census_table_loops := by kernel_rfl
theorem TCensusShort.c84 : cFunc Try.prog Try.f84 = some F.census_table_count := by kernel_rfl
theorem TCensusShort.c85 : cFunc Try.prog Try.f85 = some F.census_Total := by kernel_rfl
theorem TCensusShort.c92 : cFunc Try.prog Try.f92 = some F.gram_Compare := by kernel_rfl
theorem TCensusShort.c106 : cFunc Try.prog Try.f106 = some F.census_rows_bool := by kernel_rfl
theorem TCensusShort.c107 : cFunc Try.prog Try.f107 = some F.census_rows_int := by kernel_rfl
theorem TCensusShort.c108 : cFunc Try.prog Try.f108 = some F.census_table_end := by kernel_rfl
theorem TCensusShort.c109 : cFunc Try.prog Try.f109 = some F.census_table_same := by kernel_rfl
theorem TCensusShort.c110 : cFunc Try.prog Try.f110 = some F.census_table_endless := by kernel_rfl
theorem TCensusShort.c111 : cFunc Try.prog Try.f111 = some F.census_table_way := by kernel_rfl
theorem TCensusShort.c115 : cFunc Try.prog Try.f115 = some F.cmp_Compare_int := by kernel_rfl
theorem TCensusShort.c116 : cFunc Try.prog Try.f116 = some F.slices_CompareFunc_api_Sym_api_Sym_api_Sym_api_Sym := by kernel_rfl
theorem TCensusShort.c117 : cFunc Try.prog Try.f117 = some F.gram_Order := by kernel_rfl
theorem TCensusShort.c121 : cFunc Try.prog Try.f121 = some F.census_table_sym := by kernel_rfl
theorem TCensusShort.c123 : cFunc Try.prog Try.f123 = some F.cmp_isNaN_int := by kernel_rfl
theorem TCensusShort.ok : ∀ f F, TCensusShort f = some F → ∃ fn, Try.prog.funcs[f]? = some fn ∧ cFunc Try.prog fn = some F := by
  intro f F h
  unfold TCensusShort at h
  split at h
  · cases h; exact ⟨_, Try.func9, TCensusShort.c9⟩
  · cases h; exact ⟨_, Try.func15, TCensusShort.c15⟩
  · cases h; exact ⟨_, Try.func17, TCensusShort.c17⟩
  · cases h; exact ⟨_, Try.func20, TCensusShort.c20⟩
  · cases h; exact ⟨_, Try.func27, TCensusShort.c27⟩
  · cases h; exact ⟨_, Try.func38, TCensusShort.c38⟩
  · cases h; exact ⟨_, Try.func39, TCensusShort.c39⟩
  · cases h; exact ⟨_, Try.func47, TCensusShort.c47⟩
  · cases h; exact ⟨_, Try.func48, TCensusShort.c48⟩
  · cases h; exact ⟨_, Try.func53, TCensusShort.c53⟩
  · cases h; exact ⟨_, Try.func55, TCensusShort.c55⟩
  · cases h; exact ⟨_, Try.func81, TCensusShort.c81⟩
  · cases h; exact ⟨_, Try.func82, TCensusShort.c82⟩
  · cases h; exact ⟨_, Try.func83, TCensusShort.c83⟩
  · cases h; exact ⟨_, Try.func84, TCensusShort.c84⟩
  · cases h; exact ⟨_, Try.func85, TCensusShort.c85⟩
  · cases h; exact ⟨_, Try.func92, TCensusShort.c92⟩
  · cases h; exact ⟨_, Try.func106, TCensusShort.c106⟩
  · cases h; exact ⟨_, Try.func107, TCensusShort.c107⟩
  · cases h; exact ⟨_, Try.func108, TCensusShort.c108⟩
  · cases h; exact ⟨_, Try.func109, TCensusShort.c109⟩
  · cases h; exact ⟨_, Try.func110, TCensusShort.c110⟩
  · cases h; exact ⟨_, Try.func111, TCensusShort.c111⟩
  · cases h; exact ⟨_, Try.func115, TCensusShort.c115⟩
  · cases h; exact ⟨_, Try.func116, TCensusShort.c116⟩
  · cases h; exact ⟨_, Try.func117, TCensusShort.c117⟩
  · cases h; exact ⟨_, Try.func121, TCensusShort.c121⟩
  · cases h; exact ⟨_, Try.func123, TCensusShort.c123⟩
  · cases h
instance : Has TCensusShort I.parlkeep5_CensusShort F.parlkeep5_CensusShort := ⟨rfl⟩
instance : Has TCensusShort I.parlmake_Grammar F.parlmake_Grammar := ⟨rfl⟩
instance : Has TCensusShort I.parlkeep5_plain F.parlkeep5_plain := ⟨rfl⟩
instance : Has TCensusShort I.parlkeep5_below F.parlkeep5_below := ⟨rfl⟩
instance : Has TCensusShort I.slices_Equal_int_int F.slices_Equal_int_int := ⟨rfl⟩
instance : Has TCensusShort I.census_Trees F.census_Trees := ⟨rfl⟩
instance : Has TCensusShort I.parlkeep5_counts F.parlkeep5_counts := ⟨rfl⟩
instance : Has TCensusShort I.parlmake_stream_next F.parlmake_stream_next := ⟨rfl⟩
instance : Has TCensusShort I.parlmake_has F.parlmake_has := ⟨rfl⟩
instance : Has TCensusShort I.parlmake_Below F.parlmake_Below := ⟨rfl⟩
instance : Has TCensusShort I.gram_Check F.gram_Check := ⟨rfl⟩
instance : Has TCensusShort I.census_newTable F.census_newTable := ⟨rfl⟩
instance : Has TCensusShort I.census_table_find F.census_table_find := ⟨rfl⟩
instance : Has TCensusShort I.census_table_loops F.census_table_loops := ⟨rfl⟩
instance : Has TCensusShort I.census_table_count F.census_table_count := ⟨rfl⟩
instance : Has TCensusShort I.census_Total F.census_Total := ⟨rfl⟩
instance : Has TCensusShort I.gram_Compare F.gram_Compare := ⟨rfl⟩
instance : Has TCensusShort I.census_rows_bool F.census_rows_bool := ⟨rfl⟩
instance : Has TCensusShort I.census_rows_int F.census_rows_int := ⟨rfl⟩
instance : Has TCensusShort I.census_table_end F.census_table_end := ⟨rfl⟩
instance : Has TCensusShort I.census_table_same F.census_table_same := ⟨rfl⟩
instance : Has TCensusShort I.census_table_endless F.census_table_endless := ⟨rfl⟩
instance : Has TCensusShort I.census_table_way F.census_table_way := ⟨rfl⟩
instance : Has TCensusShort I.cmp_Compare_int F.cmp_Compare_int := ⟨rfl⟩
instance : Has TCensusShort I.slices_CompareFunc_api_Sym_api_Sym_api_Sym_api_Sym F.slices_CompareFunc_api_Sym_api_Sym_api_Sym_api_Sym := ⟨rfl⟩
instance : Has TCensusShort I.gram_Order F.gram_Order := ⟨rfl⟩
instance : Has TCensusShort I.census_table_sym F.census_table_sym := ⟨rfl⟩
instance : Has TCensusShort I.cmp_isNaN_int F.cmp_isNaN_int := ⟨rfl⟩
end Go.Proofs.Ythgdobdhdfjhfaa
