/- The table of law CensusLeast and its checks against the program, written by wip/tools/gen.py. -/
import Derived.Test.YthgdobdhdfjhfaaGcensus
import Derived.Test.YthgdobdhdfjhfaaGcmp
import Derived.Test.YthgdobdhdfjhfaaGgram
import Derived.Test.YthgdobdhdfjhfaaGparlkeep5
import Derived.Test.YthgdobdhdfjhfaaGparlmake
import Derived.Test.YthgdobdhdfjhfaaGslices
import Derived.Test.YthgdobdhdfjhfaaProg
import Derived.KernelRfl
namespace Go.Proofs.Ythgdobdhdfjhfaa
open Go Go.Ab
def TCensusLeast : FuncId → Option AFunc
  | 12 => some F.parlkeep5_CensusLeast
  | 15 => some F.parlmake_Grammar
  | 17 => some F.parlkeep5_plain
  | 38 => some F.census_Trees
  | 39 => some F.parlkeep5_counts
  | 41 => some F.census_Least
  | 42 => some F.slices_IndexFunc_int_int
  | 43 => some F.parlkeep5_CensusLeast_1
  | 47 => some F.parlmake_stream_next
  | 48 => some F.parlmake_has
  | 53 => some F.parlmake_Below
  | 55 => some F.gram_Check
  | 81 => some F.census_newTable
  | 82 => some F.census_table_find
  | 83 => some F.census_table_loops
  | 84 => some F.census_table_count
  | 85 => some F.census_Total
  | 87 => some F.census_shortest
  | 92 => some F.gram_Compare
  | 106 => some F.census_rows_bool
  | 107 => some F.census_rows_int
  | 108 => some F.census_table_end
  | 109 => some F.census_table_same
  | 110 => some F.census_table_endless
  | 111 => some F.census_table_way
  | 115 => some F.cmp_Compare_int
  | 116 => some F.slices_CompareFunc_api_Sym_api_Sym_api_Sym_api_Sym
  | 117 => some F.gram_Order
  | 121 => some F.census_table_sym
  | 123 => some F.cmp_isNaN_int
  | _ => none
theorem TCensusLeast.c12 : cFunc Try.prog Try.f12 = some F.parlkeep5_CensusLeast := by kernel_rfl
theorem TCensusLeast.c15 : cFunc Try.prog Try.f15 = some F.parlmake_Grammar := by kernel_rfl
theorem TCensusLeast.c17 : cFunc Try.prog Try.f17 = some F.parlkeep5_plain := by kernel_rfl
theorem TCensusLeast.c38 : cFunc Try.prog Try.f38 = some F.census_Trees := by kernel_rfl
theorem TCensusLeast.c39 : cFunc Try.prog Try.f39 = some F.parlkeep5_counts := by kernel_rfl
theorem TCensusLeast.c41 : cFunc Try.prog Try.f41 = some F.census_Least := by kernel_rfl
theorem TCensusLeast.c42 : cFunc Try.prog Try.f42 = some F.slices_IndexFunc_int_int := by kernel_rfl
theorem TCensusLeast.c43 : cFunc Try.prog Try.f43 = some F.parlkeep5_CensusLeast_1 := by kernel_rfl
theorem TCensusLeast.c47 : cFunc Try.prog Try.f47 = some F.parlmake_stream_next := by kernel_rfl
theorem TCensusLeast.c48 : cFunc Try.prog Try.f48 = some F.parlmake_has := by kernel_rfl
theorem TCensusLeast.c53 : cFunc Try.prog Try.f53 = some F.parlmake_Below := by kernel_rfl
theorem TCensusLeast.c55 : cFunc Try.prog Try.f55 = some F.gram_Check := by kernel_rfl
theorem TCensusLeast.c81 : cFunc Try.prog Try.f81 = some F.census_newTable := by kernel_rfl
theorem TCensusLeast.c82 : cFunc Try.prog Try.f82 = some F.census_table_find := by kernel_rfl
theorem TCensusLeast.c83 : cFunc Try.prog Try.f83 = some F.census_table_loops := by kernel_rfl
theorem TCensusLeast.c84 : cFunc Try.prog Try.f84 = some F.census_table_count := by kernel_rfl
theorem TCensusLeast.c85 : cFunc Try.prog Try.f85 = some F.census_Total := by kernel_rfl
theorem TCensusLeast.c87 : cFunc Try.prog Try.f87 = some F.census_shortest := by kernel_rfl
theorem TCensusLeast.c92 : cFunc Try.prog Try.f92 = some F.gram_Compare := by kernel_rfl
theorem TCensusLeast.c106 : cFunc Try.prog Try.f106 = some F.census_rows_bool := by kernel_rfl
theorem TCensusLeast.c107 : cFunc Try.prog Try.f107 = some F.census_rows_int := by kernel_rfl
theorem TCensusLeast.c108 : cFunc Try.prog Try.f108 = some F.census_table_end := by kernel_rfl
theorem TCensusLeast.c109 : cFunc Try.prog Try.f109 = some F.census_table_same := by kernel_rfl
theorem TCensusLeast.c110 : cFunc Try.prog Try.f110 = some F.census_table_endless := by kernel_rfl
theorem TCensusLeast.c111 : cFunc Try.prog Try.f111 = some F.census_table_way := by kernel_rfl
theorem TCensusLeast.c115 : cFunc Try.prog Try.f115 = some F.cmp_Compare_int := by kernel_rfl
theorem TCensusLeast.c116 : cFunc Try.prog Try.f116 = some F.slices_CompareFunc_api_Sym_api_Sym_api_Sym_api_Sym := by kernel_rfl
theorem TCensusLeast.c117 : cFunc Try.prog Try.f117 = some F.gram_Order := by kernel_rfl
theorem TCensusLeast.c121 : cFunc Try.prog Try.f121 = some F.census_table_sym := by kernel_rfl
theorem TCensusLeast.c123 : cFunc Try.prog Try.f123 = some F.cmp_isNaN_int := by kernel_rfl
theorem TCensusLeast.ok : ∀ f F, TCensusLeast f = some F → ∃ fn, Try.prog.funcs[f]? = some fn ∧ cFunc Try.prog fn = some F := by
  intro f F h
  unfold TCensusLeast at h
  split at h
  · cases h; exact ⟨_, Try.func12, TCensusLeast.c12⟩
  · cases h; exact ⟨_, Try.func15, TCensusLeast.c15⟩
  · cases h; exact ⟨_, Try.func17, TCensusLeast.c17⟩
  · cases h; exact ⟨_, Try.func38, TCensusLeast.c38⟩
  · cases h; exact ⟨_, Try.func39, TCensusLeast.c39⟩
  · cases h; exact ⟨_, Try.func41, TCensusLeast.c41⟩
  · cases h; exact ⟨_, Try.func42, TCensusLeast.c42⟩
  · cases h; exact ⟨_, Try.func43, TCensusLeast.c43⟩
  · cases h; exact ⟨_, Try.func47, TCensusLeast.c47⟩
  · cases h; exact ⟨_, Try.func48, TCensusLeast.c48⟩
  · cases h; exact ⟨_, Try.func53, TCensusLeast.c53⟩
  · cases h; exact ⟨_, Try.func55, TCensusLeast.c55⟩
  · cases h; exact ⟨_, Try.func81, TCensusLeast.c81⟩
  · cases h; exact ⟨_, Try.func82, TCensusLeast.c82⟩
  · cases h; exact ⟨_, Try.func83, TCensusLeast.c83⟩
  · cases h; exact ⟨_, Try.func84, TCensusLeast.c84⟩
  · cases h; exact ⟨_, Try.func85, TCensusLeast.c85⟩
  · cases h; exact ⟨_, Try.func87, TCensusLeast.c87⟩
  · cases h; exact ⟨_, Try.func92, TCensusLeast.c92⟩
  · cases h; exact ⟨_, Try.func106, TCensusLeast.c106⟩
  · cases h; exact ⟨_, Try.func107, TCensusLeast.c107⟩
  · cases h; exact ⟨_, Try.func108, TCensusLeast.c108⟩
  · cases h; exact ⟨_, Try.func109, TCensusLeast.c109⟩
  · cases h; exact ⟨_, Try.func110, TCensusLeast.c110⟩
  · cases h; exact ⟨_, Try.func111, TCensusLeast.c111⟩
  · cases h; exact ⟨_, Try.func115, TCensusLeast.c115⟩
  · cases h; exact ⟨_, Try.func116, TCensusLeast.c116⟩
  · cases h; exact ⟨_, Try.func117, TCensusLeast.c117⟩
  · cases h; exact ⟨_, Try.func121, TCensusLeast.c121⟩
  · cases h; exact ⟨_, Try.func123, TCensusLeast.c123⟩
  · cases h
instance : Has TCensusLeast I.parlkeep5_CensusLeast F.parlkeep5_CensusLeast := ⟨rfl⟩
instance : Has TCensusLeast I.parlmake_Grammar F.parlmake_Grammar := ⟨rfl⟩
instance : Has TCensusLeast I.parlkeep5_plain F.parlkeep5_plain := ⟨rfl⟩
instance : Has TCensusLeast I.census_Trees F.census_Trees := ⟨rfl⟩
instance : Has TCensusLeast I.parlkeep5_counts F.parlkeep5_counts := ⟨rfl⟩
instance : Has TCensusLeast I.census_Least F.census_Least := ⟨rfl⟩
instance : Has TCensusLeast I.slices_IndexFunc_int_int F.slices_IndexFunc_int_int := ⟨rfl⟩
instance : Has TCensusLeast I.parlkeep5_CensusLeast_1 F.parlkeep5_CensusLeast_1 := ⟨rfl⟩
instance : Has TCensusLeast I.parlmake_stream_next F.parlmake_stream_next := ⟨rfl⟩
instance : Has TCensusLeast I.parlmake_has F.parlmake_has := ⟨rfl⟩
instance : Has TCensusLeast I.parlmake_Below F.parlmake_Below := ⟨rfl⟩
instance : Has TCensusLeast I.gram_Check F.gram_Check := ⟨rfl⟩
instance : Has TCensusLeast I.census_newTable F.census_newTable := ⟨rfl⟩
instance : Has TCensusLeast I.census_table_find F.census_table_find := ⟨rfl⟩
instance : Has TCensusLeast I.census_table_loops F.census_table_loops := ⟨rfl⟩
instance : Has TCensusLeast I.census_table_count F.census_table_count := ⟨rfl⟩
instance : Has TCensusLeast I.census_Total F.census_Total := ⟨rfl⟩
instance : Has TCensusLeast I.census_shortest F.census_shortest := ⟨rfl⟩
instance : Has TCensusLeast I.gram_Compare F.gram_Compare := ⟨rfl⟩
instance : Has TCensusLeast I.census_rows_bool F.census_rows_bool := ⟨rfl⟩
instance : Has TCensusLeast I.census_rows_int F.census_rows_int := ⟨rfl⟩
instance : Has TCensusLeast I.census_table_end F.census_table_end := ⟨rfl⟩
instance : Has TCensusLeast I.census_table_same F.census_table_same := ⟨rfl⟩
instance : Has TCensusLeast I.census_table_endless F.census_table_endless := ⟨rfl⟩
instance : Has TCensusLeast I.census_table_way F.census_table_way := ⟨rfl⟩
instance : Has TCensusLeast I.cmp_Compare_int F.cmp_Compare_int := ⟨rfl⟩
instance : Has TCensusLeast I.slices_CompareFunc_api_Sym_api_Sym_api_Sym_api_Sym F.slices_CompareFunc_api_Sym_api_Sym_api_Sym_api_Sym := ⟨rfl⟩
instance : Has TCensusLeast I.gram_Order F.gram_Order := ⟨rfl⟩
instance : Has TCensusLeast I.census_table_sym F.census_table_sym := ⟨rfl⟩
instance : Has TCensusLeast I.cmp_isNaN_int F.cmp_isNaN_int := ⟨rfl⟩
end Go.Proofs.Ythgdobdhdfjhfaa
