import Derived.Test.YtmeigkelacoibaaGcensus
import Derived.Test.YtmeigkelacoibaaGcmp
import Derived.Test.YtmeigkelacoibaaGdraw
import Derived.Test.YtmeigkelacoibaaGgram
import Derived.Test.YtmeigkelacoibaaGparlkeep5
import Derived.Test.YtmeigkelacoibaaGparlmake
import Derived.Test.YtmeigkelacoibaaGrank
import Derived.Test.YtmeigkelacoibaaGslices
import Derived.Test.YtmeigkelacoibaaGtree
import Derived.Test.YtmeigkelacoibaaProg
import Derived.KernelRfl
namespace Go.Proofs.Ytmeigkelacoibaa
open Go Go.Ab
def TDrawTree : FuncId → Option AFunc
 | 4 => some F.parlkeep5_DrawTree
 | 5 => some F.parlmake_Grammar
 | 6 => some F.parlkeep5_below
 | 7 => some F.rank_Count
 | 8 => some F.parlkeep5_plain
 | 9 => some F.rank_Tree
 | 10 => some F.tree_Check
 | 11 => some F.tree_Word
 | 12 => some F.tree_Compare
 | 16 => some F.draw_Tree
 | 17 => some F.draw_Number
 | 18 => some F.parlmake_stream_next
 | 19 => some F.parlmake_has
 | 20 => some F.parlmake_Below
 | 21 => some F.rank_open
 | 22 => some F.rank_book_tree
 | 23 => some F.gram_Check
 | 24 => some F.tree_Size
 | 25 => some F.tree_valid
 | 26 => some F.tree_word
 | 27 => some F.cmp_Compare_int
 | 28 => some F.slices_Compare_int_int
 | 29 => some F.tree_rules
 | 32 => some F.census_Trees
 | 33 => some F.rank_book_ways
 | 34 => some F.rank_book_kids
 | 35 => some F.gram_Compare
 | 36 => some F.tree_leaf
 | 37 => some F.tree_symbol
 | 38 => some F.cmp_isNaN_int
 | 39 => some F.census_newTable
 | 40 => some F.census_table_find
 | 41 => some F.census_table_loops
 | 42 => some F.census_table_count
 | 43 => some F.rank_book_part
 | 44 => some F.slices_CompareFunc_api_Sym_api_Sym_api_Sym_api_Sym
 | 45 => some F.gram_Order
 | 46 => some F.census_rows_bool
 | 47 => some F.census_rows_int
 | 48 => some F.census_table_end
 | 49 => some F.census_table_same
 | 50 => some F.census_table_endless
 | 51 => some F.census_table_way
 | 52 => some F.rank_book_sym
 | 53 => some F.census_table_sym
 | _ => none
theorem TDrawTree.c4 : cFunc Try.prog Try.f4 = some F.parlkeep5_DrawTree := by kernel_rfl
theorem TDrawTree.c5 : cFunc Try.prog Try.f5 = some F.parlmake_Grammar := by kernel_rfl
theorem TDrawTree.c6 : cFunc Try.prog Try.f6 = some F.parlkeep5_below := by kernel_rfl
theorem TDrawTree.c7 : cFunc Try.prog Try.f7 = some F.rank_Count := by kernel_rfl
theorem TDrawTree.c8 : cFunc Try.prog Try.f8 = some F.parlkeep5_plain := by kernel_rfl
theorem TDrawTree.c9 : cFunc Try.prog Try.f9 = some F.rank_Tree := by kernel_rfl
theorem TDrawTree.c10 : cFunc Try.prog Try.f10 = some F.tree_Check := by kernel_rfl
theorem TDrawTree.c11 : cFunc Try.prog Try.f11 = some F.tree_Word := by kernel_rfl
theorem TDrawTree.c12 : cFunc Try.prog Try.f12 = some F.tree_Compare := by kernel_rfl
theorem TDrawTree.c16 : cFunc Try.prog Try.f16 = some F.draw_Tree := by kernel_rfl
theorem TDrawTree.c17 : cFunc Try.prog Try.f17 = some F.draw_Number := by kernel_rfl
theorem TDrawTree.c18 : cFunc Try.prog Try.f18 = some F.parlmake_stream_next := by kernel_rfl
theorem TDrawTree.c19 : cFunc Try.prog Try.f19 = some F.parlmake_has := by kernel_rfl
theorem TDrawTree.c20 : cFunc Try.prog Try.f20 = some F.parlmake_Below := by kernel_rfl
theorem TDrawTree.c21 : cFunc Try.prog Try.f21 = some F.rank_open := by kernel_rfl
theorem TDrawTree.c22 : cFunc Try.prog Try.f22 = some F.rank_book_tree := by kernel_rfl
theorem TDrawTree.c23 : cFunc Try.prog Try.f23 = some F.gram_Check := by kernel_rfl
theorem TDrawTree.c24 : cFunc Try.prog Try.f24 = some F.tree_Size := by kernel_rfl
theorem TDrawTree.c25 : cFunc Try.prog Try.f25 = some F.tree_valid := by kernel_rfl
theorem TDrawTree.c26 : cFunc Try.prog Try.f26 = some F.tree_word := by kernel_rfl
theorem TDrawTree.c27 : cFunc Try.prog Try.f27 = some F.cmp_Compare_int := by kernel_rfl
theorem TDrawTree.c28 : cFunc Try.prog Try.f28 = some F.slices_Compare_int_int := by kernel_rfl
theorem TDrawTree.c29 : cFunc Try.prog Try.f29 = some F.tree_rules := by kernel_rfl
theorem TDrawTree.c32 : cFunc Try.prog Try.f32 = some F.census_Trees := by kernel_rfl
theorem TDrawTree.c33 : cFunc Try.prog Try.f33 = some F.rank_book_ways := by kernel_rfl
theorem TDrawTree.c34 : cFunc Try.prog Try.f34 = some F.rank_book_kids := by kernel_rfl
theorem TDrawTree.c35 : cFunc Try.prog Try.f35 = some F.gram_Compare := by kernel_rfl
theorem TDrawTree.c36 : cFunc Try.prog Try.f36 = some F.tree_leaf := by kernel_rfl
theorem TDrawTree.c37 : cFunc Try.prog Try.f37 = some F.tree_symbol := by kernel_rfl
theorem TDrawTree.c38 : cFunc Try.prog Try.f38 = some F.cmp_isNaN_int := by kernel_rfl
theorem TDrawTree.c39 : cFunc Try.prog Try.f39 = some F.census_newTable := by kernel_rfl
theorem TDrawTree.c40 : cFunc Try.prog Try.f40 = some F.census_table_find := by kernel_rfl
theorem TDrawTree.c41 : cFunc Try.prog Try.f41 = some F.census_table_loops := by kernel_rfl
theorem TDrawTree.c42 : cFunc Try.prog Try.f42 = some F.census_table_count := by kernel_rfl
theorem TDrawTree.c43 : cFunc Try.prog Try.f43 = some F.rank_book_part := by kernel_rfl
theorem TDrawTree.c44 : cFunc Try.prog Try.f44 = some F.slices_CompareFunc_api_Sym_api_Sym_api_Sym_api_Sym := by kernel_rfl
theorem TDrawTree.c45 : cFunc Try.prog Try.f45 = some F.gram_Order := by kernel_rfl
theorem TDrawTree.c46 : cFunc Try.prog Try.f46 = some F.census_rows_bool := by kernel_rfl
theorem TDrawTree.c47 : cFunc Try.prog Try.f47 = some F.census_rows_int := by kernel_rfl
theorem TDrawTree.c48 : cFunc Try.prog Try.f48 = some F.census_table_end := by kernel_rfl
theorem TDrawTree.c49 : cFunc Try.prog Try.f49 = some F.census_table_same := by kernel_rfl
theorem TDrawTree.c50 : cFunc Try.prog Try.f50 = some F.census_table_endless := by kernel_rfl
theorem TDrawTree.c51 : cFunc Try.prog Try.f51 = some F.census_table_way := by kernel_rfl
theorem TDrawTree.c52 : cFunc Try.prog Try.f52 = some F.rank_book_sym := by kernel_rfl
theorem TDrawTree.c53 : cFunc Try.prog Try.f53 = some F.census_table_sym := by kernel_rfl
theorem TDrawTree.ok : ∀ f F, TDrawTree f = some F → ∃ fn, Try.prog.funcs[f]? = some fn ∧ cFunc Try.prog fn = some F := by
 intro f F h
 unfold TDrawTree at h
 split at h
 ·cases h; exact ⟨_, Try.func4, TDrawTree.c4⟩
 ·cases h; exact ⟨_, Try.func5, TDrawTree.c5⟩
 ·cases h; exact ⟨_, Try.func6, TDrawTree.c6⟩
 ·cases h; exact ⟨_, Try.func7, TDrawTree.c7⟩
 ·cases h; exact ⟨_, Try.func8, TDrawTree.c8⟩
 ·cases h; exact ⟨_, Try.func9, TDrawTree.c9⟩
 ·cases h; exact ⟨_, Try.func10, TDrawTree.c10⟩
 ·cases h; exact ⟨_, Try.func11, TDrawTree.c11⟩
 ·cases h; exact ⟨_, Try.func12, TDrawTree.c12⟩
 ·cases h; exact ⟨_, Try.func16, TDrawTree.c16⟩
 ·cases h; exact ⟨_, Try.func17, TDrawTree.c17⟩
 ·cases h; exact ⟨_, Try.func18, TDrawTree.c18⟩
 ·cases h; exact ⟨_, Try.func19, TDrawTree.c19⟩
 ·cases h; exact ⟨_, Try.func20, TDrawTree.c20⟩
 ·cases h; exact ⟨_, Try.func21, TDrawTree.c21⟩
 ·cases h; exact ⟨_, Try.func22, TDrawTree.c22⟩
 ·cases h; exact ⟨_, Try.func23, TDrawTree.c23⟩
 ·cases h; exact ⟨_, Try.func24, TDrawTree.c24⟩
 ·cases h; exact ⟨_, Try.func25, TDrawTree.c25⟩
 ·cases h; exact ⟨_, Try.func26, TDrawTree.c26⟩
 ·cases h; exact ⟨_, Try.func27, TDrawTree.c27⟩
 ·cases h; exact ⟨_, Try.func28, TDrawTree.c28⟩
 ·cases h; exact ⟨_, Try.func29, TDrawTree.c29⟩
 ·cases h; exact ⟨_, Try.func32, TDrawTree.c32⟩
 ·cases h; exact ⟨_, Try.func33, TDrawTree.c33⟩
 ·cases h; exact ⟨_, Try.func34, TDrawTree.c34⟩
 ·cases h; exact ⟨_, Try.func35, TDrawTree.c35⟩
 ·cases h; exact ⟨_, Try.func36, TDrawTree.c36⟩
 ·cases h; exact ⟨_, Try.func37, TDrawTree.c37⟩
 ·cases h; exact ⟨_, Try.func38, TDrawTree.c38⟩
 ·cases h; exact ⟨_, Try.func39, TDrawTree.c39⟩
 ·cases h; exact ⟨_, Try.func40, TDrawTree.c40⟩
 ·cases h; exact ⟨_, Try.func41, TDrawTree.c41⟩
 ·cases h; exact ⟨_, Try.func42, TDrawTree.c42⟩
 ·cases h; exact ⟨_, Try.func43, TDrawTree.c43⟩
 ·cases h; exact ⟨_, Try.func44, TDrawTree.c44⟩
 ·cases h; exact ⟨_, Try.func45, TDrawTree.c45⟩
 ·cases h; exact ⟨_, Try.func46, TDrawTree.c46⟩
 ·cases h; exact ⟨_, Try.func47, TDrawTree.c47⟩
 ·cases h; exact ⟨_, Try.func48, TDrawTree.c48⟩
 ·cases h; exact ⟨_, Try.func49, TDrawTree.c49⟩
 ·cases h; exact ⟨_, Try.func50, TDrawTree.c50⟩
 ·cases h; exact ⟨_, Try.func51, TDrawTree.c51⟩
 ·cases h; exact ⟨_, Try.func52, TDrawTree.c52⟩
 ·cases h; exact ⟨_, Try.func53, TDrawTree.c53⟩
 ·cases h
instance : Has TDrawTree I.parlkeep5_DrawTree F.parlkeep5_DrawTree := ⟨rfl⟩
instance : Has TDrawTree I.parlmake_Grammar F.parlmake_Grammar := ⟨rfl⟩
instance : Has TDrawTree I.parlkeep5_below F.parlkeep5_below := ⟨rfl⟩
instance : Has TDrawTree I.rank_Count F.rank_Count := ⟨rfl⟩
instance : Has TDrawTree I.parlkeep5_plain F.parlkeep5_plain := ⟨rfl⟩
instance : Has TDrawTree I.rank_Tree F.rank_Tree := ⟨rfl⟩
instance : Has TDrawTree I.tree_Check F.tree_Check := ⟨rfl⟩
instance : Has TDrawTree I.tree_Word F.tree_Word := ⟨rfl⟩
instance : Has TDrawTree I.tree_Compare F.tree_Compare := ⟨rfl⟩
instance : Has TDrawTree I.draw_Tree F.draw_Tree := ⟨rfl⟩
instance : Has TDrawTree I.draw_Number F.draw_Number := ⟨rfl⟩
instance : Has TDrawTree I.parlmake_stream_next F.parlmake_stream_next := ⟨rfl⟩
instance : Has TDrawTree I.parlmake_has F.parlmake_has := ⟨rfl⟩
instance : Has TDrawTree I.parlmake_Below F.parlmake_Below := ⟨rfl⟩
instance : Has TDrawTree I.rank_open F.rank_open := ⟨rfl⟩
instance : Has TDrawTree I.rank_book_tree F.rank_book_tree := ⟨rfl⟩
instance : Has TDrawTree I.gram_Check F.gram_Check := ⟨rfl⟩
instance : Has TDrawTree I.tree_Size F.tree_Size := ⟨rfl⟩
instance : Has TDrawTree I.tree_valid F.tree_valid := ⟨rfl⟩
instance : Has TDrawTree I.tree_word F.tree_word := ⟨rfl⟩
instance : Has TDrawTree I.cmp_Compare_int F.cmp_Compare_int := ⟨rfl⟩
instance : Has TDrawTree I.slices_Compare_int_int F.slices_Compare_int_int := ⟨rfl⟩
instance : Has TDrawTree I.tree_rules F.tree_rules := ⟨rfl⟩
instance : Has TDrawTree I.census_Trees F.census_Trees := ⟨rfl⟩
instance : Has TDrawTree I.rank_book_ways F.rank_book_ways := ⟨rfl⟩
instance : Has TDrawTree I.rank_book_kids F.rank_book_kids := ⟨rfl⟩
instance : Has TDrawTree I.gram_Compare F.gram_Compare := ⟨rfl⟩
instance : Has TDrawTree I.tree_leaf F.tree_leaf := ⟨rfl⟩
instance : Has TDrawTree I.tree_symbol F.tree_symbol := ⟨rfl⟩
instance : Has TDrawTree I.cmp_isNaN_int F.cmp_isNaN_int := ⟨rfl⟩
instance : Has TDrawTree I.census_newTable F.census_newTable := ⟨rfl⟩
instance : Has TDrawTree I.census_table_find F.census_table_find := ⟨rfl⟩
instance : Has TDrawTree I.census_table_loops F.census_table_loops := ⟨rfl⟩
instance : Has TDrawTree I.census_table_count F.census_table_count := ⟨rfl⟩
instance : Has TDrawTree I.rank_book_part F.rank_book_part := ⟨rfl⟩
instance : Has TDrawTree I.slices_CompareFunc_api_Sym_api_Sym_api_Sym_api_Sym F.slices_CompareFunc_api_Sym_api_Sym_api_Sym_api_Sym := ⟨rfl⟩
instance : Has TDrawTree I.gram_Order F.gram_Order := ⟨rfl⟩
instance : Has TDrawTree I.census_rows_bool F.census_rows_bool := ⟨rfl⟩
instance : Has TDrawTree I.census_rows_int F.census_rows_int := ⟨rfl⟩
instance : Has TDrawTree I.census_table_end F.census_table_end := ⟨rfl⟩
instance : Has TDrawTree I.census_table_same F.census_table_same := ⟨rfl⟩
instance : Has TDrawTree I.census_table_endless F.census_table_endless := ⟨rfl⟩
instance : Has TDrawTree I.census_table_way F.census_table_way := ⟨rfl⟩
instance : Has TDrawTree I.rank_book_sym F.rank_book_sym := ⟨rfl⟩
instance : Has TDrawTree I.census_table_sym F.census_table_sym := ⟨rfl⟩
end Go.Proofs.Ytmeigkelacoibaa
