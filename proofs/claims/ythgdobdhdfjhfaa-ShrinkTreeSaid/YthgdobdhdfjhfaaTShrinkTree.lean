/- The table of law ShrinkTree and its checks against the program, written by wip/tools/gen.py. -/
import Derived.Test.YthgdobdhdfjhfaaGcmp
import Derived.Test.YthgdobdhdfjhfaaGgram
import Derived.Test.YthgdobdhdfjhfaaGparlkeep5
import Derived.Test.YthgdobdhdfjhfaaGparlmake
import Derived.Test.YthgdobdhdfjhfaaGshrink
import Derived.Test.YthgdobdhdfjhfaaGslices
import Derived.Test.YthgdobdhdfjhfaaGtree
import Derived.Test.YthgdobdhdfjhfaaProg
import Derived.KernelRfl
namespace Go.Proofs.Ythgdobdhdfjhfaa
open Go Go.Ab
def TShrinkTree : FuncId → Option AFunc
  | 3 => some F.parlkeep5_ShrinkTree
  | 15 => some F.parlmake_Grammar
  | 16 => some F.shrink_Smaller
  | 17 => some F.parlkeep5_plain
  | 18 => some F.parlmake_Tree
  | 19 => some F.tree_Size
  | 20 => some F.parlkeep5_below
  | 21 => some F.parlkeep5_ShrinkTree_1
  | 22 => some F.tree_Word
  | 23 => some F.shrink_Tree
  | 24 => some F.tree_Check
  | 47 => some F.parlmake_stream_next
  | 48 => some F.parlmake_has
  | 49 => some F.shrink_below
  | 50 => some F.tree_Clone
  | 51 => some F.parlmake_tree
  | 52 => some F.tree_leaf
  | 53 => some F.parlmake_Below
  | 54 => some F.tree_word
  | 55 => some F.gram_Check
  | 56 => some F.tree_valid
  | 91 => some F.slices_Clone_api_Tree_api_Tree
  | 92 => some F.gram_Compare
  | 93 => some F.tree_symbol
  | 115 => some F.cmp_Compare_int
  | 116 => some F.slices_CompareFunc_api_Sym_api_Sym_api_Sym_api_Sym
  | 117 => some F.gram_Order
  | 123 => some F.cmp_isNaN_int
  | _ => none
theorem TShrinkTree.c3 : cFunc Try.prog Try.f3 = some F.parlkeep5_ShrinkTree := by kernel_rfl
theorem TShrinkTree.c15 : cFunc Try.prog Try.f15 = some F.parlmake_Grammar := by kernel_rfl
theorem TShrinkTree.c16 : cFunc Try.prog Try.f16 = some F.shrink_Smaller := by kernel_rfl
theorem TShrinkTree.c17 : cFunc Try.prog Try.f17 = some F.parlkeep5_plain := by kernel_rfl
theorem TShrinkTree.c18 : cFunc Try.prog Try.f18 = some F.parlmake_Tree := by kernel_rfl
theorem TShrinkTree.c19 : cFunc Try.prog Try.f19 = some F.tree_Size := by kernel_rfl
theorem TShrinkTree.c20 : cFunc Try.prog Try.f20 = some F.parlkeep5_below := by kernel_rfl
theorem TShrinkTree.c21 : cFunc Try.prog Try.f21 = some F.parlkeep5_ShrinkTree_1 := by kernel_rfl
theorem TShrinkTree.c22 : cFunc Try.prog Try.f22 = some F.tree_Word := by kernel_rfl
theorem TShrinkTree.c23 : cFunc Try.prog Try.f23 = some F.shrink_Tree := by kernel_rfl
theorem TShrinkTree.c24 : cFunc Try.prog Try.f24 = some F.tree_Check := by kernel_rfl
theorem TShrinkTree.c47 : cFunc Try.prog Try.f47 = some F.parlmake_stream_next := by kernel_rfl
theorem TShrinkTree.c48 : cFunc Try.prog Try.f48 = some F.parlmake_has := by kernel_rfl
theorem TShrinkTree.c49 : cFunc Try.prog Try.f49 = some F.shrink_below := by kernel_rfl
theorem TShrinkTree.c50 : cFunc Try.prog Try.f50 = some F.tree_Clone := by kernel_rfl
theorem TShrinkTree.c51 : cFunc Try.prog Try.f51 = some F.parlmake_tree := by kernel_rfl
theorem TShrinkTree.c52 : cFunc Try.prog Try.f52 = some F.tree_leaf := by kernel_rfl
theorem TShrinkTree.c53 : cFunc Try.prog Try.f53 = some F.parlmake_Below := by kernel_rfl
theorem TShrinkTree.c54 : cFunc Try.prog Try.f54 = some F.tree_word := by kernel_rfl
theorem TShrinkTree.c55 : cFunc Try.prog Try.f55 = some F.gram_Check := by kernel_rfl
theorem TShrinkTree.c56 : cFunc Try.prog Try.f56 = some F.tree_valid := by kernel_rfl
theorem TShrinkTree.c91 : cFunc Try.prog Try.f91 = some F.slices_Clone_api_Tree_api_Tree := by kernel_rfl
theorem TShrinkTree.c92 : cFunc Try.prog Try.f92 = some F.gram_Compare := by kernel_rfl
theorem TShrinkTree.c93 : cFunc Try.prog Try.f93 = some F.tree_symbol := by kernel_rfl
theorem TShrinkTree.c115 : cFunc Try.prog Try.f115 = some F.cmp_Compare_int := by kernel_rfl
theorem TShrinkTree.c116 : cFunc Try.prog Try.f116 = some F.slices_CompareFunc_api_Sym_api_Sym_api_Sym_api_Sym := by kernel_rfl
theorem TShrinkTree.c117 : cFunc Try.prog Try.f117 = some F.gram_Order := by kernel_rfl
theorem TShrinkTree.c123 : cFunc Try.prog Try.f123 = some F.cmp_isNaN_int := by kernel_rfl
theorem TShrinkTree.ok : ∀ f F, TShrinkTree f = some F → ∃ fn, Try.prog.funcs[f]? = some fn ∧ cFunc Try.prog fn = some F := by
  intro f F h
  unfold TShrinkTree at h
  split at h
  · cases h; exact ⟨_, Try.func3, TShrinkTree.c3⟩
  · cases h; exact ⟨_, Try.func15, TShrinkTree.c15⟩
  · cases h; exact ⟨_, Try.func16, TShrinkTree.c16⟩
  · cases h; exact ⟨_, Try.func17, TShrinkTree.c17⟩
  · cases h; exact ⟨_, Try.func18, TShrinkTree.c18⟩
  · cases h; exact ⟨_, Try.func19, TShrinkTree.c19⟩
  · cases h; exact ⟨_, Try.func20, TShrinkTree.c20⟩
  · cases h; exact ⟨_, Try.func21, TShrinkTree.c21⟩
  · cases h; exact ⟨_, Try.func22, TShrinkTree.c22⟩
  · cases h; exact ⟨_, Try.func23, TShrinkTree.c23⟩
  · cases h; exact ⟨_, Try.func24, TShrinkTree.c24⟩
  · cases h; exact ⟨_, Try.func47, TShrinkTree.c47⟩
  · cases h; exact ⟨_, Try.func48, TShrinkTree.c48⟩
  · cases h; exact ⟨_, Try.func49, TShrinkTree.c49⟩
  · cases h; exact ⟨_, Try.func50, TShrinkTree.c50⟩
  · cases h; exact ⟨_, Try.func51, TShrinkTree.c51⟩
  · cases h; exact ⟨_, Try.func52, TShrinkTree.c52⟩
  · cases h; exact ⟨_, Try.func53, TShrinkTree.c53⟩
  · cases h; exact ⟨_, Try.func54, TShrinkTree.c54⟩
  · cases h; exact ⟨_, Try.func55, TShrinkTree.c55⟩
  · cases h; exact ⟨_, Try.func56, TShrinkTree.c56⟩
  · cases h; exact ⟨_, Try.func91, TShrinkTree.c91⟩
  · cases h; exact ⟨_, Try.func92, TShrinkTree.c92⟩
  · cases h; exact ⟨_, Try.func93, TShrinkTree.c93⟩
  · cases h; exact ⟨_, Try.func115, TShrinkTree.c115⟩
  · cases h; exact ⟨_, Try.func116, TShrinkTree.c116⟩
  · cases h; exact ⟨_, Try.func117, TShrinkTree.c117⟩
  · cases h; exact ⟨_, Try.func123, TShrinkTree.c123⟩
  · cases h
instance : Has TShrinkTree I.parlkeep5_ShrinkTree F.parlkeep5_ShrinkTree := ⟨rfl⟩
instance : Has TShrinkTree I.parlmake_Grammar F.parlmake_Grammar := ⟨rfl⟩
instance : Has TShrinkTree I.shrink_Smaller F.shrink_Smaller := ⟨rfl⟩
instance : Has TShrinkTree I.parlkeep5_plain F.parlkeep5_plain := ⟨rfl⟩
instance : Has TShrinkTree I.parlmake_Tree F.parlmake_Tree := ⟨rfl⟩
instance : Has TShrinkTree I.tree_Size F.tree_Size := ⟨rfl⟩
instance : Has TShrinkTree I.parlkeep5_below F.parlkeep5_below := ⟨rfl⟩
instance : Has TShrinkTree I.parlkeep5_ShrinkTree_1 F.parlkeep5_ShrinkTree_1 := ⟨rfl⟩
instance : Has TShrinkTree I.tree_Word F.tree_Word := ⟨rfl⟩
instance : Has TShrinkTree I.shrink_Tree F.shrink_Tree := ⟨rfl⟩
instance : Has TShrinkTree I.tree_Check F.tree_Check := ⟨rfl⟩
instance : Has TShrinkTree I.parlmake_stream_next F.parlmake_stream_next := ⟨rfl⟩
instance : Has TShrinkTree I.parlmake_has F.parlmake_has := ⟨rfl⟩
instance : Has TShrinkTree I.shrink_below F.shrink_below := ⟨rfl⟩
instance : Has TShrinkTree I.tree_Clone F.tree_Clone := ⟨rfl⟩
instance : Has TShrinkTree I.parlmake_tree F.parlmake_tree := ⟨rfl⟩
instance : Has TShrinkTree I.tree_leaf F.tree_leaf := ⟨rfl⟩
instance : Has TShrinkTree I.parlmake_Below F.parlmake_Below := ⟨rfl⟩
instance : Has TShrinkTree I.tree_word F.tree_word := ⟨rfl⟩
instance : Has TShrinkTree I.gram_Check F.gram_Check := ⟨rfl⟩
instance : Has TShrinkTree I.tree_valid F.tree_valid := ⟨rfl⟩
instance : Has TShrinkTree I.slices_Clone_api_Tree_api_Tree F.slices_Clone_api_Tree_api_Tree := ⟨rfl⟩
instance : Has TShrinkTree I.gram_Compare F.gram_Compare := ⟨rfl⟩
instance : Has TShrinkTree I.tree_symbol F.tree_symbol := ⟨rfl⟩
instance : Has TShrinkTree I.cmp_Compare_int F.cmp_Compare_int := ⟨rfl⟩
instance : Has TShrinkTree I.slices_CompareFunc_api_Sym_api_Sym_api_Sym_api_Sym F.slices_CompareFunc_api_Sym_api_Sym_api_Sym_api_Sym := ⟨rfl⟩
instance : Has TShrinkTree I.gram_Order F.gram_Order := ⟨rfl⟩
instance : Has TShrinkTree I.cmp_isNaN_int F.cmp_isNaN_int := ⟨rfl⟩
end Go.Proofs.Ythgdobdhdfjhfaa
