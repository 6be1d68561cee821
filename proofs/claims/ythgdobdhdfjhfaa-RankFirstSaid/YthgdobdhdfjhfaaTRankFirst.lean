/- The table of law RankFirst and its checks against the program, written by wip/tools/gen.py. -/
import Derived.Test.YthgdobdhdfjhfaaGcensus
import Derived.Test.YthgdobdhdfjhfaaGcmp
import Derived.Test.YthgdobdhdfjhfaaGgram
import Derived.Test.YthgdobdhdfjhfaaGparlkeep5
import Derived.Test.YthgdobdhdfjhfaaGparlmake
import Derived.Test.YthgdobdhdfjhfaaGrank
import Derived.Test.YthgdobdhdfjhfaaGslices
import Derived.Test.YthgdobdhdfjhfaaProg
import Derived.KernelRfl
namespace Go.Proofs.Ythgdobdhdfjhfaa
open Go Go.Ab
def TRankFirst : FuncId → Option AFunc
  | 13 => some F.parlkeep5_RankFirst
  | 15 => some F.parlmake_Grammar
  | 17 => some F.parlkeep5_plain
  | 20 => some F.parlkeep5_below
  | 38 => some F.census_Trees
  | 44 => some F.rank_Count
  | 45 => some F.rank_Tree
  | 47 => some F.parlmake_stream_next
  | 48 => some F.parlmake_has
  | 53 => some F.parlmake_Below
  | 55 => some F.gram_Check
  | 81 => some F.census_newTable
  | 82 => some F.census_table_find
  | 83 => some F.census_table_loops
  | 84 => some F.census_table_count
  | 88 => some F.rank_open
  | 89 => some F.rank_book_tree
  | 92 => some F.gram_Compare
  | 106 => some F.census_rows_bool
  | 107 => some F.census_rows_int
  | 108 => some F.census_table_end
  | 109 => some F.census_table_same
  | 110 => some F.census_table_endless
  | 111 => some F.census_table_way
  | 112 => some F.rank_book_ways
  | 113 => some F.rank_book_kids
  | 115 => some F.cmp_Compare_int
  | 116 => some F.slices_CompareFunc_api_Sym_api_Sym_api_Sym_api_Sym
  | 117 => some F.gram_Order
  | 121 => some F.census_table_sym
  | 122 => some F.rank_book_part
  | 123 => some F.cmp_isNaN_int
  | 125 => some F.rank_book_sym
  | _ => none
theorem TRankFirst.c13 : cFunc Try.prog Try.f13 = some F.parlkeep5_RankFirst := by kernel_rfl
theorem TRankFirst.c15 : cFunc Try.prog Try.f15 = some F.parlmake_Grammar := by kernel_rfl
theorem TRankFirst.c17 : cFunc Try.prog Try.f17 = some F.parlkeep5_plain := by kernel_rfl
theorem TRankFirst.c20 : cFunc Try.prog Try.f20 = some F.parlkeep5_below := by kernel_rfl
theorem TRankFirst.c38 : cFunc Try.prog Try.f38 = some F.census_Trees := by kernel_rfl
theorem TRankFirst.c44 : cFunc Try.prog Try.f44 = some F.rank_Count := by kernel_rfl
theorem TRankFirst.c45 : cFunc Try.prog Try.f45 = some F.rank_Tree := by kernel_rfl
theorem TRankFirst.c47 : cFunc Try.prog Try.f47 = some F.parlmake_stream_next := by kernel_rfl
theorem TRankFirst.c48 : cFunc Try.prog Try.f48 = some F.parlmake_has := by kernel_rfl
theorem TRankFirst.c53 : cFunc Try.prog Try.f53 = some F.parlmake_Below := by kernel_rfl
theorem TRankFirst.c55 : cFunc Try.prog Try.f55 = some F.gram_Check := by kernel_rfl
theorem TRankFirst.c81 : cFunc Try.prog Try.f81 = some F.census_newTable := by kernel_rfl
theorem TRankFirst.c82 : cFunc Try.prog Try.f82 = some F.census_table_find := by kernel_rfl
theorem TRankFirst.c83 : cFunc Try.prog Try.f83 = some F.census_table_loops := by kernel_rfl
theorem TRankFirst.c84 : cFunc Try.prog Try.f84 = some F.census_table_count := by kernel_rfl
theorem TRankFirst.c88 : cFunc Try.prog Try.f88 = some F.rank_open := by kernel_rfl
theorem TRankFirst.c89 : cFunc Try.prog Try.f89 = some F.rank_book_tree := by kernel_rfl
theorem TRankFirst.c92 : cFunc Try.prog Try.f92 = some F.gram_Compare := by kernel_rfl
theorem TRankFirst.c106 : cFunc Try.prog Try.f106 = some F.census_rows_bool := by kernel_rfl
theorem TRankFirst.c107 : cFunc Try.prog Try.f107 = some F.census_rows_int := by kernel_rfl
theorem TRankFirst.c108 : cFunc Try.prog Try.f108 = some F.census_table_end := by kernel_rfl
theorem TRankFirst.c109 : cFunc Try.prog Try.f109 = some F.census_table_same := by kernel_rfl
theorem TRankFirst.c110 : cFunc Try.prog Try.f110 = some F.census_table_endless := by kernel_rfl
theorem TRankFirst.c111 : cFunc Try.prog Try.f111 = some F.census_table_way := by kernel_rfl
theorem TRankFirst.c112 : cFunc Try.prog Try.f112 = some F.rank_book_ways := by kernel_rfl
theorem TRankFirst.c113 : cFunc Try.prog Try.f113 = some F.rank_book_kids := by kernel_rfl
theorem TRankFirst.c115 : cFunc Try.prog Try.f115 = some F.cmp_Compare_int := by kernel_rfl
theorem TRankFirst.c116 : cFunc Try.prog Try.f116 = some F.slices_CompareFunc_api_Sym_api_Sym_api_Sym_api_Sym := by kernel_rfl
theorem TRankFirst.c117 : cFunc Try.prog Try.f117 = some F.gram_Order := by kernel_rfl
theorem TRankFirst.c121 : cFunc Try.prog Try.f121 = some F.census_table_sym := by kernel_rfl
theorem TRankFirst.c122 : cFunc Try.prog Try.f122 = some F.rank_book_part := by kernel_rfl
theorem TRankFirst.c123 : cFunc Try.prog Try.f123 = some F.cmp_isNaN_int := by kernel_rfl
theorem TRankFirst.c125 : cFunc Try.prog Try.f125 = some F.rank_book_sym := by kernel_rfl
theorem TRankFirst.ok : ∀ f F, TRankFirst f = some F → ∃ fn, Try.prog.funcs[f]? = some fn ∧ cFunc Try.prog fn = some F := by
  intro f F h
  unfold TRankFirst at h
  split at h
  · cases h; exact ⟨_, Try.func13, TRankFirst.c13⟩
  · cases h; exact ⟨_, Try.func15, TRankFirst.c15⟩
  · cases h; exact ⟨_, Try.func17, TRankFirst.c17⟩
  · cases h; exact ⟨_, Try.func20, TRankFirst.c20⟩
  · cases h; exact ⟨_, Try.func38, TRankFirst.c38⟩
  · cases h; exact ⟨_, Try.func44, TRankFirst.c44⟩
  · cases h; exact ⟨_, Try.func45, TRankFirst.c45⟩
  · cases h; exact ⟨_, Try.func47, TRankFirst.c47⟩
  · cases h; exact ⟨_, Try.func48, TRankFirst.c48⟩
  · cases h; exact ⟨_, Try.func53, TRankFirst.c53⟩
  · cases h; exact ⟨_, Try.func55, TRankFirst.c55⟩
  · cases h; exact ⟨_, Try.func81, TRankFirst.c81⟩
  · cases h; exact ⟨_, Try.func82, TRankFirst.c82⟩
  · cases h; exact ⟨_, Try.func83, TRankFirst.c83⟩
  · cases h; exact ⟨_, Try.func84, TRankFirst.c84⟩
  · cases h; exact ⟨_, Try.func88, TRankFirst.c88⟩
  · cases h; exact ⟨_, Try.func89, TRankFirst.c89⟩
  · cases h; exact ⟨_, Try.func92, TRankFirst.c92⟩
  · cases h; exact ⟨_, Try.func106, TRankFirst.c106⟩
  · cases h; exact ⟨_, Try.func107, TRankFirst.c107⟩
  · cases h; exact ⟨_, Try.func108, TRankFirst.c108⟩
  · cases h; exact ⟨_, Try.func109, TRankFirst.c109⟩
  · cases h; exact ⟨_, Try.func110, TRankFirst.c110⟩
  · cases h; exact ⟨_, Try.func111, TRankFirst.c111⟩
  · cases h; exact ⟨_, Try.func112, TRankFirst.c112⟩
  · cases h; exact ⟨_, Try.func113, TRankFirst.c113⟩
  · cases h; exact ⟨_, Try.func115, TRankFirst.c115⟩
  · cases h; exact ⟨_, Try.func116, TRankFirst.c116⟩
  · cases h; exact ⟨_, Try.func117, TRankFirst.c117⟩
  · cases h; exact ⟨_, Try.func121, TRankFirst.c121⟩
  · cases h; exact ⟨_, Try.func122, TRankFirst.c122⟩
  · cases h; exact ⟨_, Try.func123, TRankFirst.c123⟩
  · cases h; exact ⟨_, Try.func125, TRankFirst.c125⟩
  · cases h
instance : Has TRankFirst I.parlkeep5_RankFirst F.parlkeep5_RankFirst := ⟨rfl⟩
instance : Has TRankFirst I.parlmake_Grammar F.parlmake_Grammar := ⟨rfl⟩
instance : Has TRankFirst I.parlkeep5_plain F.parlkeep5_plain := ⟨rfl⟩
instance : Has TRankFirst I.parlkeep5_below F.parlkeep5_below := ⟨rfl⟩
instance : Has TRankFirst I.census_Trees F.census_Trees := ⟨rfl⟩
instance : Has TRankFirst I.rank_Count F.rank_Count := ⟨rfl⟩
instance : Has TRankFirst I.rank_Tree F.rank_Tree := ⟨rfl⟩
instance : Has TRankFirst I.parlmake_stream_next F.parlmake_stream_next := ⟨rfl⟩
instance : Has TRankFirst I.parlmake_has F.parlmake_has := ⟨rfl⟩
instance : Has TRankFirst I.parlmake_Below F.parlmake_Below := ⟨rfl⟩
instance : Has TRankFirst I.gram_Check F.gram_Check := ⟨rfl⟩
instance : Has TRankFirst I.census_newTable F.census_newTable := ⟨rfl⟩
instance : Has TRankFirst I.census_table_find F.census_table_find := ⟨rfl⟩
instance : Has TRankFirst I.census_table_loops F.census_table_loops := ⟨rfl⟩
instance : Has TRankFirst I.census_table_count F.census_table_count := ⟨rfl⟩
instance : Has TRankFirst I.rank_open F.rank_open := ⟨rfl⟩
instance : Has TRankFirst I.rank_book_tree F.rank_book_tree := ⟨rfl⟩
instance : Has TRankFirst I.gram_Compare F.gram_Compare := ⟨rfl⟩
instance : Has TRankFirst I.census_rows_bool F.census_rows_bool := ⟨rfl⟩
instance : Has TRankFirst I.census_rows_int F.census_rows_int := ⟨rfl⟩
instance : Has TRankFirst I.census_table_end F.census_table_end := ⟨rfl⟩
instance : Has TRankFirst I.census_table_same F.census_table_same := ⟨rfl⟩
instance : Has TRankFirst I.census_table_endless F.census_table_endless := ⟨rfl⟩
instance : Has TRankFirst I.census_table_way F.census_table_way := ⟨rfl⟩
instance : Has TRankFirst I.rank_book_ways F.rank_book_ways := ⟨rfl⟩
instance : Has TRankFirst I.rank_book_kids F.rank_book_kids := ⟨rfl⟩
instance : Has TRankFirst I.cmp_Compare_int F.cmp_Compare_int := ⟨rfl⟩
instance : Has TRankFirst I.slices_CompareFunc_api_Sym_api_Sym_api_Sym_api_Sym F.slices_CompareFunc_api_Sym_api_Sym_api_Sym_api_Sym := ⟨rfl⟩
instance : Has TRankFirst I.gram_Order F.gram_Order := ⟨rfl⟩
instance : Has TRankFirst I.census_table_sym F.census_table_sym := ⟨rfl⟩
instance : Has TRankFirst I.rank_book_part F.rank_book_part := ⟨rfl⟩
instance : Has TRankFirst I.cmp_isNaN_int F.cmp_isNaN_int := ⟨rfl⟩
instance : Has TRankFirst I.rank_book_sym F.rank_book_sym := ⟨rfl⟩
end Go.Proofs.Ythgdobdhdfjhfaa
