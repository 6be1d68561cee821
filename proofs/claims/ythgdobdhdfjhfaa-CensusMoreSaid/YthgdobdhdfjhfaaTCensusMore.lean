/- The table of law CensusMore and its checks against the program, written by wip/tools/gen.py. -/
import Derived.Test.YthgdobdhdfjhfaaGcensus
import Derived.Test.YthgdobdhdfjhfaaGcmp
import Derived.Test.YthgdobdhdfjhfaaGgram
import Derived.Test.YthgdobdhdfjhfaaGparlkeep5
import Derived.Test.YthgdobdhdfjhfaaGparlmake
import Derived.Test.YthgdobdhdfjhfaaGslices
import Derived.Test.YthgdobdhdfjhfaaProg
import Derived.KernelRfl
namespace Go.Proofs.Ythgdobdhdfjhfaa
open Go Go.Ab
def TCensusMore : FuncId → Option AFunc
  | 11 => some F.parlkeep5_CensusMore
  | 15 => some F.parlmake_Grammar
  | 17 => some F.parlkeep5_plain
  | 20 => some F.parlkeep5_below
  | 38 => some F.census_Trees
  | 39 => some F.parlkeep5_counts
  | 40 => some F.slices_Concat_api_Rule_api_Rule
  | 47 => some F.parlmake_stream_next
  | 48 => some F.parlmake_has
  | 53 => some F.parlmake_Below
  | 55 => some F.gram_Check
  | 81 => some F.census_newTable
  | 82 => some F.census_table_find
  | 83 => some F.census_table_loops
  | 84 => some F.census_table_count
  | 85 => some F.census_Total
  | 86 => some F.slices_Grow_api_Rule_api_Rule
  | 92 => some F.gram_Compare
  | 106 => some F.census_rows_bool
  | 107 => some F.census_rows_int
  | 108 => some F.census_table_end
  | 109 => some F.census_table_same
  | 110 => some F.census_table_endless
  | 111 => some F.census_table_way
  | 115 => some F.cmp_Compare_int
  | 116 => some F.slices_CompareFunc_api_Sym_api_Sym_api_Sym_api_Sym
  | 117 => some F.gram_Order
  | 121 => some F.census_table_sym
  | 123 => some F.cmp_isNaN_int
  | _ => none
theorem TCensusMore.c11 : cFunc Try.prog Try.f11 = some F.parlkeep5_CensusMore := by kernel_rfl
theorem TCensusMore.c15 : cFunc Try.prog Try.f15 = some F.parlmake_Grammar := by kernel_rfl
theorem TCensusMore.c17 : cFunc Try.prog Try.f17 = some F.parlkeep5_plain := by kernel_rfl
theorem TCensusMore.c20 : cFunc Try.prog Try.f20 = some F.parlkeep5_below := by kernel_rfl
theorem TCensusMore.c38 : cFunc Try.prog Try.f38 = some F.census_Trees := by kernel_rfl
theorem TCensusMore.c39 : cFunc Try.prog Try.f39 = some F.parlkeep5_counts := by kernel_rfl
theorem TCensusMore.c40 : cFunc Try.prog Try.f40 = some F.slices_Concat_api_Rule_api_Rule := by kernel_rfl
theorem TCensusMore.c47 : cFunc Try.prog Try.f47 = some F.parlmake_stream_next := by kernel_rfl
theorem TCensusMore.c48 : cFunc Try.prog Try.f48 = some F.parlmake_has := by kernel_rfl
theorem TCensusMore.c53 : cFunc Try.prog Try.f53 = some F.parlmake_Below := by kernel_rfl
theorem TCensusMore.c55 : cFunc Try.prog Try.f55 = some F.gram_Check := by kernel_rfl
theorem TCensusMore.c81 : cFunc Try.prog Try.f81 = some F.census_newTable := by kernel_rfl
theorem TCensusMore.c82 : cFunc Try.prog Try.f82 = some F.census_table_find := by kernel_rfl
theorem TCensusMore.c83 : cFunc Try.prog Try.f83 = some F.census_table_loops := by kernel_rfl
theorem TCensusMore.c84 : cFunc Try.prog Try.f84 = some F.census_table_count := by kernel_rfl
theorem TCensusMore.c85 : cFunc Try.prog Try.f85 = some F.census_Total := by kernel_rfl
theorem TCensusMore.c86 : cFunc Try.prog Try.f86 = some F.slices_Grow_api_Rule_api_Rule := by kernel_rfl
theorem TCensusMore.c92 : cFunc Try.prog Try.f92 = some F.gram_Compare := by kernel_rfl
theorem TCensusMore.c106 : cFunc Try.prog Try.f106 = some F.census_rows_bool := by kernel_rfl
theorem TCensusMore.c107 : cFunc Try.prog Try.f107 = some F.census_rows_int := by kernel_rfl
theorem TCensusMore.c108 : cFunc Try.prog Try.f108 = some F.census_table_end := by kernel_rfl
theorem TCensusMore.c109 : cFunc Try.prog Try.f109 = some F.census_table_same := by kernel_rfl
theorem TCensusMore.c110 : cFunc Try.prog Try.f110 = some F.census_table_endless := by kernel_rfl
theorem TCensusMore.c111 : cFunc Try.prog Try.f111 = some F.census_table_way := by kernel_rfl
theorem TCensusMore.c115 : cFunc Try.prog Try.f115 = some F.cmp_Compare_int := by kernel_rfl
theorem TCensusMore.c116 : cFunc Try.prog Try.f116 = some F.slices_CompareFunc_api_Sym_api_Sym_api_Sym_api_Sym := by kernel_rfl
theorem TCensusMore.c117 : cFunc Try.prog Try.f117 = some F.gram_Order := by kernel_rfl
theorem TCensusMore.c121 : cFunc Try.prog Try.f121 = some F.census_table_sym := by kernel_rfl
theorem TCensusMore.c123 : cFunc Try.prog Try.f123 = some F.cmp_isNaN_int := by kernel_rfl
theorem TCensusMore.ok : ∀ f F, TCensusMore f = some F → ∃ fn, Try.prog.funcs[f]? = some fn ∧ cFunc Try.prog fn = some F := by
  intro f F h
  unfold TCensusMore at h
  split at h
  · cases h; exact ⟨_, Try.func11, TCensusMore.c11⟩
  · cases h; exact ⟨_, Try.func15, TCensusMore.c15⟩
  · cases h; exact ⟨_, Try.func17, TCensusMore.c17⟩
  · cases h; exact ⟨_, Try.func20, TCensusMore.c20⟩
  · cases h; exact ⟨_, Try.func38, TCensusMore.c38⟩
  · cases h; exact ⟨_, Try.func39, TCensusMore.c39⟩
  · cases h; exact ⟨_, Try.func40, TCensusMore.c40⟩
  · cases h; exact ⟨_, Try.func47, TCensusMore.c47⟩
  · cases h; exact ⟨_, Try.func48, TCensusMore.c48⟩
  · cases h; exact ⟨_, Try.func53, TCensusMore.c53⟩
  · cases h; exact ⟨_, Try.func55, TCensusMore.c55⟩
  · cases h; exact ⟨_, Try.func81, TCensusMore.c81⟩
  · cases h; exact ⟨_, Try.func82, TCensusMore.c82⟩
  · cases h; exact ⟨_, Try.func83, TCensusMore.c83⟩
  · cases h; exact ⟨_, Try.func84, TCensusMore.c84⟩
  · cases h; exact ⟨_, Try.func85, TCensusMore.c85⟩
  · cases h; exact ⟨_, Try.func86, TCensusMore.c86⟩
  · cases h; exact ⟨_, Try.func92, TCensusMore.c92⟩
  · cases h; exact ⟨_, Try.func106, TCensusMore.c106⟩
  · cases h; exact ⟨_, Try.func107, TCensusMore.c107⟩
  · cases h; exact ⟨_, Try.func108, TCensusMore.c108⟩
  · cases h; exact ⟨_, Try.func109, TCensusMore.c109⟩
  · cases h; exact ⟨_, Try.func110, TCensusMore.c110⟩
  · cases h; exact ⟨_, Try.func111, TCensusMore.c111⟩
  · cases h; exact ⟨_, Try.func115, TCensusMore.c115⟩
  · cases h; exact ⟨_, Try.func116, TCensusMore.c116⟩
  · cases h; exact ⟨_, Try.func117, TCensusMore.c117⟩
  · cases h; exact ⟨_, Try.func121, TCensusMore.c121⟩
  · cases h; exact ⟨_, Try.func123, TCensusMore.c123⟩
  · cases h
instance : Has TCensusMore I.parlkeep5_CensusMore F.parlkeep5_CensusMore := ⟨rfl⟩
instance : Has TCensusMore I.parlmake_Grammar F.parlmake_Grammar := ⟨rfl⟩
instance : Has TCensusMore I.parlkeep5_plain F.parlkeep5_plain := ⟨rfl⟩
instance : Has TCensusMore I.parlkeep5_below F.parlkeep5_below := ⟨rfl⟩
instance : Has TCensusMore I.census_Trees F.census_Trees := ⟨rfl⟩
instance : Has TCensusMore I.parlkeep5_counts F.parlkeep5_counts := ⟨rfl⟩
instance : Has TCensusMore I.slices_Concat_api_Rule_api_Rule F.slices_Concat_api_Rule_api_Rule := ⟨rfl⟩
instance : Has TCensusMore I.parlmake_stream_next F.parlmake_stream_next := ⟨rfl⟩
instance : Has TCensusMore I.parlmake_has F.parlmake_has := ⟨rfl⟩
instance : Has TCensusMore I.parlmake_Below F.parlmake_Below := ⟨rfl⟩
instance : Has TCensusMore I.gram_Check F.gram_Check := ⟨rfl⟩
instance : Has TCensusMore I.census_newTable F.census_newTable := ⟨rfl⟩
instance : Has TCensusMore I.census_table_find F.census_table_find := ⟨rfl⟩
instance : Has TCensusMore I.census_table_loops F.census_table_loops := ⟨rfl⟩
instance : Has TCensusMore I.census_table_count F.census_table_count := ⟨rfl⟩
instance : Has TCensusMore I.census_Total F.census_Total := ⟨rfl⟩
instance : Has TCensusMore I.slices_Grow_api_Rule_api_Rule F.slices_Grow_api_Rule_api_Rule := ⟨rfl⟩
instance : Has TCensusMore I.gram_Compare F.gram_Compare := ⟨rfl⟩
instance : Has TCensusMore I.census_rows_bool F.census_rows_bool := ⟨rfl⟩
instance : Has TCensusMore I.census_rows_int F.census_rows_int := ⟨rfl⟩
instance : Has TCensusMore I.census_table_end F.census_table_end := ⟨rfl⟩
instance : Has TCensusMore I.census_table_same F.census_table_same := ⟨rfl⟩
instance : Has TCensusMore I.census_table_endless F.census_table_endless := ⟨rfl⟩
instance : Has TCensusMore I.census_table_way F.census_table_way := ⟨rfl⟩
instance : Has TCensusMore I.cmp_Compare_int F.cmp_Compare_int := ⟨rfl⟩
instance : Has TCensusMore I.slices_CompareFunc_api_Sym_api_Sym_api_Sym_api_Sym F.slices_CompareFunc_api_Sym_api_Sym_api_Sym_api_Sym := ⟨rfl⟩
instance : Has TCensusMore I.gram_Order F.gram_Order := ⟨rfl⟩
instance : Has TCensusMore I.census_table_sym F.census_table_sym := ⟨rfl⟩
instance : Has TCensusMore I.cmp_isNaN_int F.cmp_isNaN_int := ⟨rfl⟩
end Go.Proofs.Ythgdobdhdfjhfaa
