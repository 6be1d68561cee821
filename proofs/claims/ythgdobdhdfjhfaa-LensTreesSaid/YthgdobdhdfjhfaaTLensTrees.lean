/- The table of law LensTrees and its checks against the program, written by wip/tools/gen.py. -/
import Derived.Test.YthgdobdhdfjhfaaGcensus
import Derived.Test.YthgdobdhdfjhfaaGcmp
import Derived.Test.YthgdobdhdfjhfaaGgram
import Derived.Test.YthgdobdhdfjhfaaGlens
import Derived.Test.YthgdobdhdfjhfaaGparlkeep5
import Derived.Test.YthgdobdhdfjhfaaGparlmake
import Derived.Test.YthgdobdhdfjhfaaGslices
import Derived.Test.YthgdobdhdfjhfaaProg
import Derived.KernelRfl
namespace Go.Proofs.Ythgdobdhdfjhfaa
open Go Go.Ab
def TLensTrees : FuncId → Option AFunc
  | 10 => some F.parlkeep5_LensTrees
  | 15 => some F.parlmake_Grammar
  | 17 => some F.parlkeep5_plain
  | 31 => some F.lens_Set
  | 38 => some F.census_Trees
  | 47 => some F.parlmake_stream_next
  | 48 => some F.parlmake_has
  | 53 => some F.parlmake_Below
  | 55 => some F.gram_Check
  | 65 => some F.lens_sums
  | 81 => some F.census_newTable
  | 82 => some F.census_table_find
  | 83 => some F.census_table_loops
  | 84 => some F.census_table_count
  | 92 => some F.gram_Compare
  | 106 => some F.census_rows_bool
  | 107 => some F.census_rows_int
  | 108 => some F.census_table_end
  | 109 => some F.census_table_same
  | 110 => some F.census_table_endless
  | 111 => some F.census_table_way
  | 115 => some F.cmp_Compare_int
  | 116 => some F.slices_CompareFunc_api_Sym_api_Sym_api_Sym_api_Sym
  | 117 => some F.gram_Order
  | 121 => some F.census_table_sym
  | 123 => some F.cmp_isNaN_int
  | _ => none
theorem TLensTrees.c10 : cFunc Try.prog Try.f10 = some F.parlkeep5_LensTrees := by kernel_rfl
theorem TLensTrees.c15 : cFunc Try.prog Try.f15 = some F.parlmake_Grammar := by kernel_rfl
theorem TLensTrees.c17 : cFunc Try.prog Try.f17 = some F.parlkeep5_plain := by kernel_rfl
theorem TLensTrees.c31 : cFunc Try.prog Try.f31 = some F.lens_Set := by kernel_rfl
theorem TLensTrees.c38 : cFunc Try.prog Try.f38 = some F.census_Trees := by kernel_rfl
theorem TLensTrees.c47 : cFunc Try.prog Try.f47 = some F.parlmake_stream_next := by kernel_rfl
theorem TLensTrees.c48 : cFunc Try.prog Try.f48 = some F.parlmake_has := by kernel_rfl
theorem TLensTrees.c53 : cFunc Try.prog Try.f53 = some F.parlmake_Below := by kernel_rfl
theorem TLensTrees.c55 : cFunc Try.prog Try.f55 = some F.gram_Check := by kernel_rfl
theorem TLensTrees.c65 : cFunc Try.prog Try.f65 = some F.lens_sums := by kernel_rfl
theorem TLensTrees.c81 : cFunc Try.prog Try.f81 = some F.census_newTable := by kernel_rfl
theorem TLensTrees.c82 : cFunc Try.prog Try.f82 = some F.census_table_find := by kernel_rfl
theorem TLensTrees.c83 : cFunc Try.prog Try.f83 = some F.census_table_loops := by kernel_rfl
theorem TLensTrees.c84 : cFunc Try.prog Try.f84 = some F.census_table_count := by kernel_rfl
theorem TLensTrees.c92 : cFunc Try.prog Try.f92 = some F.gram_Compare := by kernel_rfl
theorem TLensTrees.c106 : cFunc Try.prog Try.f106 = some F.census_rows_bool := by kernel_rfl
theorem TLensTrees.c107 : cFunc Try.prog Try.f107 = some F.census_rows_int := by kernel_rfl
theorem TLensTrees.c108 : cFunc Try.prog Try.f108 = some F.census_table_end := by kernel_rfl
theorem TLensTrees.c109 : cFunc Try.prog Try.f109 = some F.census_table_same := by kernel_rfl
theorem TLensTrees.c110 : cFunc Try.prog Try.f110 = some F.census_table_endless := by kernel_rfl
theorem TLensTrees.c111 : cFunc Try.prog Try.f111 = some F.census_table_way := by kernel_rfl
theorem TLensTrees.c115 : cFunc Try.prog Try.f115 = some F.cmp_Compare_int := by kernel_rfl
theorem TLensTrees.c116 : cFunc Try.prog Try.f116 = some F.slices_CompareFunc_api_Sym_api_Sym_api_Sym_api_Sym := by kernel_rfl
theorem TLensTrees.c117 : cFunc Try.prog Try.f117 = some F.gram_Order := by kernel_rfl
theorem TLensTrees.c121 : cFunc Try.prog Try.f121 = some F.census_table_sym := by kernel_rfl
theorem TLensTrees.c123 : cFunc Try.prog Try.f123 = some F.cmp_isNaN_int := by kernel_rfl
theorem TLensTrees.ok : ∀ f F, TLensTrees f = some F → ∃ fn, Try.prog.funcs[f]? = some fn ∧ cFunc Try.prog fn = some F := by
  intro f F h
  unfold TLensTrees at h
  split at h
  · cases h; exact ⟨_, Try.func10, TLensTrees.c10⟩
  · cases h; exact ⟨_, Try.func15, TLensTrees.c15⟩
  · cases h; exact ⟨_, Try.func17, TLensTrees.c17⟩
  · cases h; exact ⟨_, Try.func31, TLensTrees.c31⟩
  · cases h; exact ⟨_, Try.func38, TLensTrees.c38⟩
  · cases h; exact ⟨_, Try.func47, TLensTrees.c47⟩
  · cases h; exact ⟨_, Try.func48, TLensTrees.c48⟩
  · cases h; exact ⟨_, Try.func53, TLensTrees.c53⟩
  · cases h; exact ⟨_, Try.func55, TLensTrees.c55⟩
  · cases h; exact ⟨_, Try.func65, TLensTrees.c65⟩
  · cases h; exact ⟨_, Try.func81, TLensTrees.c81⟩
  · cases h; exact ⟨_, Try.func82, TLensTrees.c82⟩
  · cases h; exact ⟨_, Try.func83, TLensTrees.c83⟩
  · cases h; exact ⟨_, Try.func84, TLensTrees.c84⟩
  · cases h; exact ⟨_, Try.func92, TLensTrees.c92⟩
  · cases h; exact ⟨_, Try.func106, TLensTrees.c106⟩
  · cases h; exact ⟨_, Try.func107, TLensTrees.c107⟩
  · cases h; exact ⟨_, Try.func108, TLensTrees.c108⟩
  · cases h; exact ⟨_, Try.func109, TLensTrees.c109⟩
  · cases h; exact ⟨_, Try.func110, TLensTrees.c110⟩
  · cases h; exact ⟨_, Try.func111, TLensTrees.c111⟩
  · cases h; exact ⟨_, Try.func115, TLensTrees.c115⟩
  · cases h; exact ⟨_, Try.func116, TLensTrees.c116⟩
  · cases h; exact ⟨_, Try.func117, TLensTrees.c117⟩
  · cases h; exact ⟨_, Try.func121, TLensTrees.c121⟩
  · cases h; exact ⟨_, Try.func123, TLensTrees.c123⟩
  · cases h
instance : Has TLensTrees I.parlkeep5_LensTrees F.parlkeep5_LensTrees := ⟨rfl⟩
instance : Has TLensTrees I.parlmake_Grammar F.parlmake_Grammar := ⟨rfl⟩
instance : Has TLensTrees I.parlkeep5_plain F.parlkeep5_plain := ⟨rfl⟩
instance : Has TLensTrees I.lens_Set F.lens_Set := ⟨rfl⟩
instance : Has TLensTrees I.census_Trees F.census_Trees := ⟨rfl⟩
instance : Has TLensTrees I.parlmake_stream_next F.parlmake_stream_next := ⟨rfl⟩
instance : Has TLensTrees I.parlmake_has F.parlmake_has := ⟨rfl⟩
instance : Has TLensTrees I.parlmake_Below F.parlmake_Below := ⟨rfl⟩
instance : Has TLensTrees I.gram_Check F.gram_Check := ⟨rfl⟩
instance : Has TLensTrees I.lens_sums F.lens_sums := ⟨rfl⟩
instance : Has TLensTrees I.census_newTable F.census_newTable := ⟨rfl⟩
instance : Has TLensTrees I.census_table_find F.census_table_find := ⟨rfl⟩
instance : Has TLensTrees I.census_table_loops F.census_table_loops := ⟨rfl⟩
instance : Has TLensTrees I.census_table_count F.census_table_count := ⟨rfl⟩
instance : Has TLensTrees I.gram_Compare F.gram_Compare := ⟨rfl⟩
instance : Has TLensTrees I.census_rows_bool F.census_rows_bool := ⟨rfl⟩
instance : Has TLensTrees I.census_rows_int F.census_rows_int := ⟨rfl⟩
instance : Has TLensTrees I.census_table_end F.census_table_end := ⟨rfl⟩
instance : Has TLensTrees I.census_table_same F.census_table_same := ⟨rfl⟩
instance : Has TLensTrees I.census_table_endless F.census_table_endless := ⟨rfl⟩
instance : Has TLensTrees I.census_table_way F.census_table_way := ⟨rfl⟩
instance : Has TLensTrees I.cmp_Compare_int F.cmp_Compare_int := ⟨rfl⟩
instance : Has TLensTrees I.slices_CompareFunc_api_Sym_api_Sym_api_Sym_api_Sym F.slices_CompareFunc_api_Sym_api_Sym_api_Sym_api_Sym := ⟨rfl⟩
instance : Has TLensTrees I.gram_Order F.gram_Order := ⟨rfl⟩
instance : Has TLensTrees I.census_table_sym F.census_table_sym := ⟨rfl⟩
instance : Has TLensTrees I.cmp_isNaN_int F.cmp_isNaN_int := ⟨rfl⟩
end Go.Proofs.Ythgdobdhdfjhfaa
