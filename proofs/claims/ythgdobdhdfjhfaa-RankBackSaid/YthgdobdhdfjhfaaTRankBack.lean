import Derived.Test.YthgdobdhdfjhfaaGcensus
import Derived.Test.YthgdobdhdfjhfaaGcmp
import Derived.Test.YthgdobdhdfjhfaaGgram
import Derived.Test.YthgdobdhdfjhfaaGparlkeep5
import Derived.Test.YthgdobdhdfjhfaaGparlmake
import Derived.Test.YthgdobdhdfjhfaaGrank
import Derived.Test.YthgdobdhdfjhfaaGslices
import Derived.Test.YthgdobdhdfjhfaaGtree
import Derived.Test.YthgdobdhdfjhfaaProg
import Derived.KernelRfl
namespace Go.Proofs.Ythgdobdhdfjhfaa
open Go Go.Ab
def TRankBack : FuncId → Option AFunc
 | 14 => some F.parlkeep5_RankBack
 | 15 => some F.parlmake_Grammar
 | 17 => some F.parlkeep5_plain
 | 19 => some F.tree_Size
 | 20 => some F.parlkeep5_below
 | 22 => some F.tree_Word
 | 24 => some F.tree_Check
 | 38 => some F.census_Trees
 | 44 => some F.rank_Count
 | 45 => some F.rank_Tree
 | 46 => some F.rank_Of
 | 47 => some F.parlmake_stream_next
 | 48 => some F.parlmake_has
 | 52 => some F.tree_leaf
 | 53 => some F.parlmake_Below
 | 54 => some F.tree_word
 | 55 => some F.gram_Check
 | 56 => some F.tree_valid
 | 81 => some F.census_newTable
 | 82 => some F.census_table_find
 | 83 => some F.census_table_loops
 | 84 => some F.census_table_count
 | 88 => some F.rank_open
 | 89 => some F.rank_book_tree
 | 90 => some F.rank_book_of
 | 92 => some F.gram_Compare
 | 93 => some F.tree_symbol
 | 106 => some F.census_rows_bool
 | 107 => some F.census_rows_int
 | 108 => some F.census_table_end
 | 109 => some F.census_table_same
 | 110 => some F.census_table_endless
 | 111 => some F.census_table_way
 | 112 => some F.rank_book_ways
 | 113 => some F.rank_book_kids
 | 114 => some F.rank_book_ofKids
 | 115 => some F.cmp_Compare_int
 | 116 => some F.slices_CompareFunc_api_Sym_api_Sym_api_Sym_api_Sym
 | 117 => some F.gram_Order
 | 121 => some F.census_table_sym
 | 122 => some F.rank_book_part
 | 123 => some F.cmp_isNaN_int
 | 125 => some F.rank_book_sym
 | _ => none
theorem TRankBack.c14 : cFunc Try.prog Try.f14 = some F.parlkeep5_RankBack := by kernel_rfl
theorem TRankBack.c15 : cFunc Try.prog Try.f15 = some F.parlmake_Grammar := by kernel_rfl
theorem TRankBack.c17 : cFunc Try.prog Try.f17 = some F.parlkeep5_plain := by kernel_rfl
theorem TRankBack.c19 : cFunc Try.prog Try.f19 = some F.tree_Size := by kernel_rfl
theorem TRankBack.c20 : cFunc Try.prog Try.f20 = some F.parlkeep5_below := by kernel_rfl
theorem TRankBack.c22 : cFunc Try.prog Try.f22 = some F.tree_Word := by kernel_rfl
theorem TRankBack.c24 : cFunc Try.prog Try.f24 = some F.tree_Check := by kernel_rfl
theorem TRankBack.c38 : cFunc Try.prog Try.f38 = some F.census_Trees := by kernel_rfl
theorem TRankBack.c44 : cFunc Try.prog Try.f44 = some F.rank_Count := by kernel_rfl
theorem TRankBack.c45 : cFunc Try.prog Try.f45 = some F.rank_Tree := by kernel_rfl
theorem TRankBack.c46 : cFunc Try.prog Try.f46 = some F.rank_Of := by kernel_rfl
theorem TRankBack.c47 : cFunc Try.prog Try.f47 = some F.parlmake_stream_next := by kernel_rfl
theorem TRankBack.c48 : cFunc Try.prog Try.f48 = some F.parlmake_has := by kernel_rfl
theorem TRankBack.c52 : cFunc Try.prog Try.f52 = some F.tree_leaf := by kernel_rfl
theorem TRankBack.c53 : cFunc Try.prog Try.f53 = some F.parlmake_Below := by kernel_rfl
theorem TRankBack.c54 : cFunc Try.prog Try.f54 = some F.tree_word := by kernel_rfl
theorem TRankBack.c55 : cFunc Try.prog Try.f55 = some F.gram_Check := by kernel_rfl
theorem TRankBack.c56 : cFunc Try.prog Try.f56 = some F.tree_valid := by kernel_rfl
theorem TRankBack.c81 : cFunc Try.prog Try.f81 = some F.census_newTable := by kernel_rfl
theorem TRankBack.c82 : cFunc Try.prog Try.f82 = some F.census_table_find := by kernel_rfl
theorem TRankBack.c83 : cFunc Try.prog Try.f83 = some F.census_table_loops := by kernel_rfl
theorem TRankBack.c84 : cFunc Try.prog Try.f84 = some F.census_table_count := by kernel_rfl
theorem TRankBack.c88 : cFunc Try.prog Try.f88 = some F.rank_open := by kernel_rfl
theorem TRankBack.c89 : cFunc Try.prog Try.f89 = some F.rank_book_tree := by kernel_rfl
theorem TRankBack.c90 : cFunc Try.prog Try.f90 = some F.rank_book_of := by kernel_rfl
theorem TRankBack.c92 : cFunc Try.prog Try.f92 = some F.gram_Compare := by kernel_rfl
theorem TRankBack.c93 : cFunc Try.prog Try.f93 = some F.tree_symbol := by kernel_rfl
theorem TRankBack.c106 : cFunc Try.prog Try.f106 = some F.census_rows_bool := by kernel_rfl
theorem TRankBack.c107 : cFunc Try.prog Try.f107 = some F.census_rows_int := by kernel_rfl
theorem TRankBack.c108 : cFunc Try.prog Try.f108 = some F.census_table_end := by kernel_rfl
theorem TRankBack.c109 : cFunc Try.prog Try.f109 = some F.census_table_same := by kernel_rfl
theorem TRankBack.c110 : cFunc Try.prog Try.f110 = some F.census_table_endless := by kernel_rfl
theorem TRankBack.c111 : cFunc Try.prog Try.f111 = some F.census_table_way := by kernel_rfl
theorem TRankBack.c112 : cFunc Try.prog Try.f112 = some F.rank_book_ways := by kernel_rfl
theorem TRankBack.c113 : cFunc Try.prog Try.f113 = some F.rank_book_kids := by kernel_rfl
theorem TRankBack.c114 : cFunc Try.prog Try.f114 = some F.rank_book_ofKids := by kernel_rfl
theorem TRankBack.c115 : cFunc Try.prog Try.f115 = some F.cmp_Compare_int := by kernel_rfl
theorem TRankBack.c116 : cFunc Try.prog Try.f116 = some F.slices_CompareFunc_api_Sym_api_Sym_api_Sym_api_Sym := by kernel_rfl
theorem TRankBack.c117 : cFunc Try.prog Try.f117 = some F.gram_Order := by kernel_rfl
theorem TRankBack.c121 : cFunc Try.prog Try.f121 = some F.census_table_sym := by kernel_rfl
theorem TRankBack.c122 : cFunc Try.prog Try.f122 = some F.rank_book_part := by kernel_rfl
theorem TRankBack.c123 : cFunc Try.prog Try.f123 = some F.cmp_isNaN_int := by kernel_rfl
theorem TRankBack.c125 : cFunc Try.prog Try.f125 = some F.rank_book_sym := by kernel_rfl
theorem TRankBack.ok : ∀ f F, TRankBack f = some F → ∃ fn, Try.prog.funcs[f]? = some fn ∧ cFunc Try.prog fn = some F := by
 intro f F h
 unfold TRankBack at h
 split at h
 ·cases h; exact ⟨_, Try.func14, TRankBack.c14⟩
 ·cases h; exact ⟨_, Try.func15, TRankBack.c15⟩
 ·cases h; exact ⟨_, Try.func17, TRankBack.c17⟩
 ·cases h; exact ⟨_, Try.func19, TRankBack.c19⟩
 ·cases h; exact ⟨_, Try.func20, TRankBack.c20⟩
 ·cases h; exact ⟨_, Try.func22, TRankBack.c22⟩
 ·cases h; exact ⟨_, Try.func24, TRankBack.c24⟩
 ·cases h; exact ⟨_, Try.func38, TRankBack.c38⟩
 ·cases h; exact ⟨_, Try.func44, TRankBack.c44⟩
 ·cases h; exact ⟨_, Try.func45, TRankBack.c45⟩
 ·cases h; exact ⟨_, Try.func46, TRankBack.c46⟩
 ·cases h; exact ⟨_, Try.func47, TRankBack.c47⟩
 ·cases h; exact ⟨_, Try.func48, TRankBack.c48⟩
 ·cases h; exact ⟨_, Try.func52, TRankBack.c52⟩
 ·cases h; exact ⟨_, Try.func53, TRankBack.c53⟩
 ·cases h; exact ⟨_, Try.func54, TRankBack.c54⟩
 ·cases h; exact ⟨_, Try.func55, TRankBack.c55⟩
 ·cases h; exact ⟨_, Try.func56, TRankBack.c56⟩
 ·cases h; exact ⟨_, Try.func81, TRankBack.c81⟩
 ·cases h; exact ⟨_, Try.func82, TRankBack.c82⟩
 ·cases h; exact ⟨_, Try.func83, TRankBack.c83⟩
 ·cases h; exact ⟨_, Try.func84, TRankBack.c84⟩
 ·cases h; exact ⟨_, Try.func88, TRankBack.c88⟩
 ·cases h; exact ⟨_, Try.func89, TRankBack.c89⟩
 ·cases h; exact ⟨_, Try.func90, TRankBack.c90⟩
 ·cases h; exact ⟨_, Try.func92, TRankBack.c92⟩
 ·cases h; exact ⟨_, Try.func93, TRankBack.c93⟩
 ·cases h; exact ⟨_, Try.func106, TRankBack.c106⟩
 ·cases h; exact ⟨_, Try.func107, TRankBack.c107⟩
 ·cases h; exact ⟨_, Try.func108, TRankBack.c108⟩
 ·cases h; exact ⟨_, Try.func109, TRankBack.c109⟩
 ·cases h; exact ⟨_, Try.func110, TRankBack.c110⟩
 ·cases h; exact ⟨_, Try.func111, TRankBack.c111⟩
 ·cases h; exact ⟨_, Try.func112, TRankBack.c112⟩
 ·cases h; exact ⟨_, Try.func113, TRankBack.c113⟩
 ·cases h; exact ⟨_, Try.func114, TRankBack.c114⟩
 ·cases h; exact ⟨_, Try.func115, TRankBack.c115⟩
 ·cases h; exact ⟨_, Try.func116, TRankBack.c116⟩
 ·cases h; exact ⟨_, Try.func117, TRankBack.c117⟩
 ·cases h; exact ⟨_, Try.func121, TRankBack.c121⟩
 ·cases h; exact ⟨_, Try.func122, TRankBack.c122⟩
 ·cases h; exact ⟨_, Try.func123, TRankBack.c123⟩
 ·cases h; exact ⟨_, Try.func125, TRankBack.c125⟩
 ·cases h
instance : Has TRankBack I.parlkeep5_RankBack F.parlkeep5_RankBack := ⟨rfl⟩
instance : Has TRankBack I.parlmake_Grammar F.parlmake_Grammar := ⟨rfl⟩
instance : Has TRankBack I.parlkeep5_plain F.parlkeep5_plain := ⟨rfl⟩
instance : Has TRankBack I.tree_Size F.tree_Size := ⟨rfl⟩
instance : Has TRankBack I.parlkeep5_below F.parlkeep5_below := ⟨rfl⟩
instance : Has TRankBack I.tree_Word F.tree_Word := ⟨rfl⟩
instance : Has TRankBack I.tree_Check F.tree_Check := ⟨rfl⟩
instance : Has TRankBack I.census_Trees F.census_Trees := ⟨rfl⟩
instance : Has TRankBack I.rank_Count F.rank_Count := ⟨rfl⟩
instance : Has TRankBack I.rank_Tree F.rank_Tree := ⟨rfl⟩
instance : Has TRankBack I.rank_Of F.rank_Of := ⟨rfl⟩
instance : Has TRankBack I.parlmake_stream_next F.parlmake_stream_next := ⟨rfl⟩
instance : Has TRankBack I.parlmake_has F.parlmake_has := ⟨rfl⟩
instance : Has TRankBack I.tree_leaf F.tree_leaf := ⟨rfl⟩
instance : Has TRankBack I.parlmake_Below F.parlmake_Below := ⟨rfl⟩
instance : Has TRankBack I.tree_word F.tree_word := ⟨rfl⟩
instance : Has TRankBack I.gram_Check F.gram_Check := ⟨rfl⟩
instance : Has TRankBack I.tree_valid F.tree_valid := ⟨rfl⟩
instance : Has TRankBack I.census_newTable F.census_newTable := ⟨rfl⟩
instance : Has TRankBack I.census_table_find F.census_table_find := ⟨rfl⟩
instance : Has TRankBack I.census_table_loops F.census_table_loops := ⟨rfl⟩
instance : Has TRankBack I.census_table_count F.census_table_count := ⟨rfl⟩
instance : Has TRankBack I.rank_open F.rank_open := ⟨rfl⟩
instance : Has TRankBack I.rank_book_tree F.rank_book_tree := ⟨rfl⟩
instance : Has TRankBack I.rank_book_of F.rank_book_of := ⟨rfl⟩
instance : Has TRankBack I.gram_Compare F.gram_Compare := ⟨rfl⟩
instance : Has TRankBack I.tree_symbol F.tree_symbol := ⟨rfl⟩
instance : Has TRankBack I.census_rows_bool F.census_rows_bool := ⟨rfl⟩
instance : Has TRankBack I.census_rows_int F.census_rows_int := ⟨rfl⟩
instance : Has TRankBack I.census_table_end F.census_table_end := ⟨rfl⟩
instance : Has TRankBack I.census_table_same F.census_table_same := ⟨rfl⟩
instance : Has TRankBack I.census_table_endless F.census_table_endless := ⟨rfl⟩
instance : Has TRankBack I.census_table_way F.census_table_way := ⟨rfl⟩
instance : Has TRankBack I.rank_book_ways F.rank_book_ways := ⟨rfl⟩
instance : Has TRankBack I.rank_book_kids F.rank_book_kids := ⟨rfl⟩
instance : Has TRankBack I.rank_book_ofKids F.rank_book_ofKids := ⟨rfl⟩
instance : Has TRankBack I.cmp_Compare_int F.cmp_Compare_int := ⟨rfl⟩
instance : Has TRankBack I.slices_CompareFunc_api_Sym_api_Sym_api_Sym_api_Sym F.slices_CompareFunc_api_Sym_api_Sym_api_Sym_api_Sym := ⟨rfl⟩
instance : Has TRankBack I.gram_Order F.gram_Order := ⟨rfl⟩
instance : Has TRankBack I.census_table_sym F.census_table_sym := ⟨rfl⟩
instance : Has TRankBack I.rank_book_part F.rank_book_part := ⟨rfl⟩
instance : Has TRankBack I.cmp_isNaN_int F.cmp_isNaN_int := ⟨rfl⟩
instance : Has TRankBack I.rank_book_sym F.rank_book_sym := ⟨rfl⟩
end Go.Proofs.Ythgdobdhdfjhfaa
