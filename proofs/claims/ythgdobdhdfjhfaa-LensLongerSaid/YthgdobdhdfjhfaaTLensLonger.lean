/- The table of law LensLonger and its checks against the program, written by wip/tools/gen.py. -/
import Derived.Test.YthgdobdhdfjhfaaGcmp
import Derived.Test.YthgdobdhdfjhfaaGgram
import Derived.Test.YthgdobdhdfjhfaaGlens
import Derived.Test.YthgdobdhdfjhfaaGparlkeep5
import Derived.Test.YthgdobdhdfjhfaaGparlmake
import Derived.Test.YthgdobdhdfjhfaaGslices
import Derived.Test.YthgdobdhdfjhfaaProg
import Derived.KernelRfl
namespace Go.Proofs.Ythgdobdhdfjhfaa
open Go Go.Ab
def TLensLonger : FuncId → Option AFunc
  | 6 => some F.parlkeep5_LensLonger
  | 15 => some F.parlmake_Grammar
  | 17 => some F.parlkeep5_plain
  | 20 => some F.parlkeep5_below
  | 29 => some F.slices_Clone_api_Rule_api_Rule
  | 31 => some F.lens_Set
  | 32 => some F.lens_Greatest
  | 33 => some F.slices_Equal_bool_bool
  | 47 => some F.parlmake_stream_next
  | 48 => some F.parlmake_has
  | 53 => some F.parlmake_Below
  | 55 => some F.gram_Check
  | 65 => some F.lens_sums
  | 66 => some F.lens_Greatest_1
  | 67 => some F.lens_total
  | 68 => some F.lens_endless
  | 92 => some F.gram_Compare
  | 97 => some F.lens_square
  | 115 => some F.cmp_Compare_int
  | 116 => some F.slices_CompareFunc_api_Sym_api_Sym_api_Sym_api_Sym
  | 117 => some F.gram_Order
  | 123 => some F.cmp_isNaN_int
  | _ => none
theorem TLensLonger.c6 : cFunc Try.prog Try.f6 = some F.parlkeep5_LensLonger := by kernel_rfl
theorem TLensLonger.c15 : cFunc Try.prog Try.f15 = some F.parlmake_Grammar := by kernel_rfl
theorem TLensLonger.c17 : cFunc Try.prog Try.f17 = some F.parlkeep5_plain := by kernel_rfl
theorem TLensLonger.c20 : cFunc Try.prog Try.f20 = some F.parlkeep5_below := by kernel_rfl
theorem TLensLonger.c29 : cFunc Try.prog Try.f29 = some F.slices_Clone_api_Rule_api_Rule := by kernel_rfl
theorem TLensLonger.c31 : cFunc Try.prog Try.f31 = some F.lens_Set := by kernel_rfl
theorem TLensLonger.c32 : cFunc Try.prog Try.f32 = some F.lens_Greatest := by kernel_rfl
theorem TLensLonger.c33 : cFunc Try.prog Try.f33 = some F.slices_Equal_bool_bool := by kernel_rfl
theorem TLensLonger.c47 : cFunc Try.prog Try.f47 = some F.parlmake_stream_next := by kernel_rfl
theorem TLensLonger.c48 : cFunc Try.prog Try.f48 = some F.parlmake_has := by kernel_rfl
theorem TLensLonger.c53 : cFunc Try.prog Try.f53 = some F.parlmake_Below := by kernel_rfl
theorem TLensLonger.c55 : cFunc Try.prog Try.f55 = some F.gram_Check := by kernel_rfl
theorem TLensLonger.c65 : cFunc Try.prog Try.f65 = some F.lens_sums := by kernel_rfl
theorem TLensLonger.c66 : cFunc Try.prog Try.f66 = some F.lens_Greatest_1 := by kernel_rfl
theorem TLensLonger.c67 : cFunc Try.prog Try.f67 = some F.lens_total := by kernel_rfl
theorem TLensLonger.c68 : cFunc Try.prog Try.f68 = some F.lens_endless := by kernel_rfl
theorem TLensLonger.c92 : cFunc Try.prog Try.f92 = some F.gram_Compare := by kernel_rfl
theorem TLensLonger.c97 : cFunc Try.prog Try.f97 = some F.lens_square := by kernel_rfl
theorem TLensLonger.c115 : cFunc Try.prog Try.f115 = some F.cmp_Compare_int := by kernel_rfl
theorem TLensLonger.c116 : cFunc Try.prog Try.f116 = some F.slices_CompareFunc_api_Sym_api_Sym_api_Sym_api_Sym := by kernel_rfl
theorem TLensLonger.c117 : cFunc Try.prog Try.f117 = some F.gram_Order := by kernel_rfl
theorem TLensLonger.c123 : cFunc Try.prog Try.f123 = some F.cmp_isNaN_int := by kernel_rfl
theorem TLensLonger.ok : ∀ f F, TLensLonger f = some F → ∃ fn, Try.prog.funcs[f]? = some fn ∧ cFunc Try.prog fn = some F := by
  intro f F h
  unfold TLensLonger at h
  split at h
  · cases h; exact ⟨_, Try.func6, TLensLonger.c6⟩
  · cases h; exact ⟨_, Try.func15, TLensLonger.c15⟩
  · cases h; exact ⟨_, Try.func17, TLensLonger.c17⟩
  · cases h; exact ⟨_, Try.func20, TLensLonger.c20⟩
  · cases h; exact ⟨_, Try.func29, TLensLonger.c29⟩
  · cases h; exact ⟨_, Try.func31, TLensLonger.c31⟩
  · cases h; exact ⟨_, Try.func32, TLensLonger.c32⟩
  · cases h; exact ⟨_, Try.func33, TLensLonger.c33⟩
  · cases h; exact ⟨_, Try.func47, TLensLonger.c47⟩
  · cases h; exact ⟨_, Try.func48, TLensLonger.c48⟩
  · cases h; exact ⟨_, Try.func53, TLensLonger.c53⟩
  · cases h; exact ⟨_, Try.func55, TLensLonger.c55⟩
  · cases h; exact ⟨_, Try.func65, TLensLonger.c65⟩
  · cases h; exact ⟨_, Try.func66, TLensLonger.c66⟩
  · cases h; exact ⟨_, Try.func67, TLensLonger.c67⟩
  · cases h; exact ⟨_, Try.func68, TLensLonger.c68⟩
  · cases h; exact ⟨_, Try.func92, TLensLonger.c92⟩
  · cases h; exact ⟨_, Try.func97, TLensLonger.c97⟩
  · cases h; exact ⟨_, Try.func115, TLensLonger.c115⟩
  · cases h; exact ⟨_, Try.func116, TLensLonger.c116⟩
  · cases h; exact ⟨_, Try.func117, TLensLonger.c117⟩
  · cases h; exact ⟨_, Try.func123, TLensLonger.c123⟩
  · cases h
instance : Has TLensLonger I.parlkeep5_LensLonger F.parlkeep5_LensLonger := ⟨rfl⟩
instance : Has TLensLonger I.parlmake_Grammar F.parlmake_Grammar := ⟨rfl⟩
instance : Has TLensLonger I.parlkeep5_plain F.parlkeep5_plain := ⟨rfl⟩
instance : Has TLensLonger I.parlkeep5_below F.parlkeep5_below := ⟨rfl⟩
instance : Has TLensLonger I.slices_Clone_api_Rule_api_Rule F.slices_Clone_api_Rule_api_Rule := ⟨rfl⟩
instance : Has TLensLonger I.lens_Set F.lens_Set := ⟨rfl⟩
instance : Has TLensLonger I.lens_Greatest F.lens_Greatest := ⟨rfl⟩
instance : Has TLensLonger I.slices_Equal_bool_bool F.slices_Equal_bool_bool := ⟨rfl⟩
instance : Has TLensLonger I.parlmake_stream_next F.parlmake_stream_next := ⟨rfl⟩
instance : Has TLensLonger I.parlmake_has F.parlmake_has := ⟨rfl⟩
instance : Has TLensLonger I.parlmake_Below F.parlmake_Below := ⟨rfl⟩
instance : Has TLensLonger I.gram_Check F.gram_Check := ⟨rfl⟩
instance : Has TLensLonger I.lens_sums F.lens_sums := ⟨rfl⟩
instance : Has TLensLonger I.lens_Greatest_1 F.lens_Greatest_1 := ⟨rfl⟩
instance : Has TLensLonger I.lens_total F.lens_total := ⟨rfl⟩
instance : Has TLensLonger I.lens_endless F.lens_endless := ⟨rfl⟩
instance : Has TLensLonger I.gram_Compare F.gram_Compare := ⟨rfl⟩
instance : Has TLensLonger I.lens_square F.lens_square := ⟨rfl⟩
instance : Has TLensLonger I.cmp_Compare_int F.cmp_Compare_int := ⟨rfl⟩
instance : Has TLensLonger I.slices_CompareFunc_api_Sym_api_Sym_api_Sym_api_Sym F.slices_CompareFunc_api_Sym_api_Sym_api_Sym_api_Sym := ⟨rfl⟩
instance : Has TLensLonger I.gram_Order F.gram_Order := ⟨rfl⟩
instance : Has TLensLonger I.cmp_isNaN_int F.cmp_isNaN_int := ⟨rfl⟩
end Go.Proofs.Ythgdobdhdfjhfaa
