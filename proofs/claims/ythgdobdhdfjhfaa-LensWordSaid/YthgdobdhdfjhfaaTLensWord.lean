/- The table of law LensWord and its checks against the program, written by wip/tools/gen.py. -/
import Derived.Test.YthgdobdhdfjhfaaGcmp
import Derived.Test.YthgdobdhdfjhfaaGgram
import Derived.Test.YthgdobdhdfjhfaaGlens
import Derived.Test.YthgdobdhdfjhfaaGparlkeep5
import Derived.Test.YthgdobdhdfjhfaaGparlmake
import Derived.Test.YthgdobdhdfjhfaaGslices
import Derived.Test.YthgdobdhdfjhfaaGtree
import Derived.Test.YthgdobdhdfjhfaaProg
import Derived.KernelRfl
namespace Go.Proofs.Ythgdobdhdfjhfaa
open Go Go.Ab
def TLensWord : FuncId → Option AFunc
  | 7 => some F.parlkeep5_LensWord
  | 15 => some F.parlmake_Grammar
  | 17 => some F.parlkeep5_plain
  | 18 => some F.parlmake_Tree
  | 22 => some F.tree_Word
  | 31 => some F.lens_Set
  | 32 => some F.lens_Greatest
  | 34 => some F.slices_Contains_bool_bool
  | 47 => some F.parlmake_stream_next
  | 48 => some F.parlmake_has
  | 51 => some F.parlmake_tree
  | 52 => some F.tree_leaf
  | 53 => some F.parlmake_Below
  | 54 => some F.tree_word
  | 55 => some F.gram_Check
  | 65 => some F.lens_sums
  | 66 => some F.lens_Greatest_1
  | 67 => some F.lens_total
  | 68 => some F.lens_endless
  | 69 => some F.slices_Index_bool_bool
  | 92 => some F.gram_Compare
  | 97 => some F.lens_square
  | 115 => some F.cmp_Compare_int
  | 116 => some F.slices_CompareFunc_api_Sym_api_Sym_api_Sym_api_Sym
  | 117 => some F.gram_Order
  | 123 => some F.cmp_isNaN_int
  | _ => none
theorem TLensWord.c7 : cFunc Try.prog Try.f7 = some F.parlkeep5_LensWord := by kernel_rfl
theorem TLensWord.c15 : cFunc Try.prog Try.f15 = some F.parlmake_Grammar := by kernel_rfl
theorem TLensWord.c17 : cFunc Try.prog Try.f17 = some F.parlkeep5_plain := by kernel_rfl
theorem TLensWord.c18 : cFunc Try.prog Try.f18 = some F.parlmake_Tree := by kernel_rfl
theorem TLensWord.c22 : cFunc Try.prog Try.f22 = some F.tree_Word := by kernel_rfl
theorem TLensWord.c31 : cFunc Try.prog Try.f31 = some F.lens_Set := by kernel_rfl
theorem TLensWord.c32 : cFunc Try.prog Try.f32 = some F.lens_Greatest := by kernel_rfl
theorem TLensWord.c34 : cFunc Try.prog Try.f34 = some F.slices_Contains_bool_bool := by kernel_rfl
theorem TLensWord.c47 : cFunc Try.prog Try.f47 = some F.parlmake_stream_next := by kernel_rfl
theorem TLensWord.c48 : cFunc Try.prog Try.f48 = some F.parlmake_has := by kernel_rfl
theorem TLensWord.c51 : cFunc Try.prog Try.f51 = some F.parlmake_tree := by kernel_rfl
theorem TLensWord.c52 : cFunc Try.prog Try.f52 = some F.tree_leaf := by kernel_rfl
theorem TLensWord.c53 : cFunc Try.prog Try.f53 = some F.parlmake_Below := by kernel_rfl
theorem TLensWord.c54 : cFunc Try.prog Try.f54 = some F.tree_word := by kernel_rfl
theorem TLensWord.c55 : cFunc Try.prog Try.f55 = some F.gram_Check := by kernel_rfl
theorem TLensWord.c65 : cFunc Try.prog Try.f65 = some F.lens_sums := by kernel_rfl
theorem TLensWord.c66 : cFunc Try.prog Try.f66 = some F.lens_Greatest_1 := by kernel_rfl
theorem TLensWord.c67 : cFunc Try.prog Try.f67 = some F.lens_total := by kernel_rfl
theorem TLensWord.c68 : cFunc Try.prog Try.f68 = some F.lens_endless := by kernel_rfl
theorem TLensWord.c69 : cFunc Try.prog Try.f69 = some F.slices_Index_bool_bool := by kernel_rfl
theorem TLensWord.c92 : cFunc Try.prog Try.f92 = some F.gram_Compare := by kernel_rfl
theorem TLensWord.c97 : cFunc Try.prog Try.f97 = some F.lens_square := by kernel_rfl
theorem TLensWord.c115 : cFunc Try.prog Try.f115 = some F.cmp_Compare_int := by kernel_rfl
theorem TLensWord.c116 : cFunc Try.prog Try.f116 = some F.slices_CompareFunc_api_Sym_api_Sym_api_Sym_api_Sym := by kernel_rfl
theorem TLensWord.c117 : cFunc Try.prog Try.f117 = some F.gram_Order := by kernel_rfl
theorem TLensWord.c123 : cFunc Try.prog Try.f123 = some F.cmp_isNaN_int := by kernel_rfl
theorem TLensWord.ok : ∀ f F, TLensWord f = some F → ∃ fn, Try.prog.funcs[f]? = some fn ∧ cFunc Try.prog fn = some F := by
  intro f F h
  unfold TLensWord at h
  split at h
  · cases h; exact ⟨_, Try.func7, TLensWord.c7⟩
  · cases h; exact ⟨_, Try.func15, TLensWord.c15⟩
  · cases h; exact ⟨_, Try.func17, TLensWord.c17⟩
  · cases h; exact ⟨_, Try.func18, TLensWord.c18⟩
  · cases h; exact ⟨_, Try.func22, TLensWord.c22⟩
  · cases h; exact ⟨_, Try.func31, TLensWord.c31⟩
  · cases h; exact ⟨_, Try.func32, TLensWord.c32⟩
  · cases h; exact ⟨_, Try.func34, TLensWord.c34⟩
  · cases h; exact ⟨_, Try.func47, TLensWord.c47⟩
  · cases h; exact ⟨_, Try.func48, TLensWord.c48⟩
  · cases h; exact ⟨_, Try.func51, TLensWord.c51⟩
  · cases h; exact ⟨_, Try.func52, TLensWord.c52⟩
  · cases h; exact ⟨_, Try.func53, TLensWord.c53⟩
  · cases h; exact ⟨_, Try.func54, TLensWord.c54⟩
  · cases h; exact ⟨_, Try.func55, TLensWord.c55⟩
  · cases h; exact ⟨_, Try.func65, TLensWord.c65⟩
  · cases h; exact ⟨_, Try.func66, TLensWord.c66⟩
  · cases h; exact ⟨_, Try.func67, TLensWord.c67⟩
  · cases h; exact ⟨_, Try.func68, TLensWord.c68⟩
  · cases h; exact ⟨_, Try.func69, TLensWord.c69⟩
  · cases h; exact ⟨_, Try.func92, TLensWord.c92⟩
  · cases h; exact ⟨_, Try.func97, TLensWord.c97⟩
  · cases h; exact ⟨_, Try.func115, TLensWord.c115⟩
  · cases h; exact ⟨_, Try.func116, TLensWord.c116⟩
  · cases h; exact ⟨_, Try.func117, TLensWord.c117⟩
  · cases h; exact ⟨_, Try.func123, TLensWord.c123⟩
  · cases h
instance : Has TLensWord I.parlkeep5_LensWord F.parlkeep5_LensWord := ⟨rfl⟩
instance : Has TLensWord I.parlmake_Grammar F.parlmake_Grammar := ⟨rfl⟩
instance : Has TLensWord I.parlkeep5_plain F.parlkeep5_plain := ⟨rfl⟩
instance : Has TLensWord I.parlmake_Tree F.parlmake_Tree := ⟨rfl⟩
instance : Has TLensWord I.tree_Word F.tree_Word := ⟨rfl⟩
instance : Has TLensWord I.lens_Set F.lens_Set := ⟨rfl⟩
instance : Has TLensWord I.lens_Greatest F.lens_Greatest := ⟨rfl⟩
instance : Has TLensWord I.slices_Contains_bool_bool F.slices_Contains_bool_bool := ⟨rfl⟩
instance : Has TLensWord I.parlmake_stream_next F.parlmake_stream_next := ⟨rfl⟩
instance : Has TLensWord I.parlmake_has F.parlmake_has := ⟨rfl⟩
instance : Has TLensWord I.parlmake_tree F.parlmake_tree := ⟨rfl⟩
instance : Has TLensWord I.tree_leaf F.tree_leaf := ⟨rfl⟩
instance : Has TLensWord I.parlmake_Below F.parlmake_Below := ⟨rfl⟩
instance : Has TLensWord I.tree_word F.tree_word := ⟨rfl⟩
instance : Has TLensWord I.gram_Check F.gram_Check := ⟨rfl⟩
instance : Has TLensWord I.lens_sums F.lens_sums := ⟨rfl⟩
instance : Has TLensWord I.lens_Greatest_1 F.lens_Greatest_1 := ⟨rfl⟩
instance : Has TLensWord I.lens_total F.lens_total := ⟨rfl⟩
instance : Has TLensWord I.lens_endless F.lens_endless := ⟨rfl⟩
instance : Has TLensWord I.slices_Index_bool_bool F.slices_Index_bool_bool := ⟨rfl⟩
instance : Has TLensWord I.gram_Compare F.gram_Compare := ⟨rfl⟩
instance : Has TLensWord I.lens_square F.lens_square := ⟨rfl⟩
instance : Has TLensWord I.cmp_Compare_int F.cmp_Compare_int := ⟨rfl⟩
instance : Has TLensWord I.slices_CompareFunc_api_Sym_api_Sym_api_Sym_api_Sym F.slices_CompareFunc_api_Sym_api_Sym_api_Sym_api_Sym := ⟨rfl⟩
instance : Has TLensWord I.gram_Order F.gram_Order := ⟨rfl⟩
instance : Has TLensWord I.cmp_isNaN_int F.cmp_isNaN_int := ⟨rfl⟩
end Go.Proofs.Ythgdobdhdfjhfaa
