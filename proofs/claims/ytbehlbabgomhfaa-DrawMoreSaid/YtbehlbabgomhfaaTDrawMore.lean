/- The table of law DrawMore and its checks against the program, written by wip/tools/gen.py. -/
import Derived.Test.YtbehlbabgomhfaaGdraw
import Derived.Test.YtbehlbabgomhfaaGparlkeep5
import Derived.Test.YtbehlbabgomhfaaGparlmake
import Derived.Test.YtbehlbabgomhfaaGslices
import Derived.Test.YtbehlbabgomhfaaProg
import Derived.KernelRfl
namespace Go.Proofs.Ytbehlbabgomhfaa
open Go Go.Ab
def TDrawMore : FuncId → Option AFunc
  | 3 => some F.parlkeep5_DrawMore
  | 11 => some F.parlkeep5_below
  | 12 => some F.draw_Number
  | 13 => some F.slices_Concat_bool_bool
  | 39 => some F.parlmake_Below
  | 40 => some F.slices_Grow_bool_bool
  | _ => none
theorem TDrawMore.c3 : cFunc Try.prog Try.f3 = some F.parlkeep5_DrawMore := by kernel_rfl
theorem TDrawMore.c11 : cFunc Try.prog Try.f11 = some F.parlkeep5_below := by kernel_rfl
theorem TDrawMore.c12 : cFunc Try.prog Try.f12 = some F.draw_Number := by kernel_rfl
theorem TDrawMore.c13 : cFunc Try.prog Try.f13 = some F.slices_Concat_bool_bool := by kernel_rfl
theorem TDrawMore.c39 : cFunc Try.prog Try.f39 = some F.parlmake_Below := by kernel_rfl
theorem TDrawMore.c40 : cFunc Try.prog Try.f40 = some F.slices_Grow_bool_bool := by kernel_rfl
theorem TDrawMore.ok : ∀ f F, TDrawMore f = some F → ∃ fn, Try.prog.funcs[f]? = some fn ∧ cFunc Try.prog fn = some F := by
  intro f F h
  unfold TDrawMore at h
  split at h
  · cases h; exact ⟨_, Try.func3, TDrawMore.c3⟩
  · cases h; exact ⟨_, Try.func11, TDrawMore.c11⟩
  · cases h; exact ⟨_, Try.func12, TDrawMore.c12⟩
  · cases h; exact ⟨_, Try.func13, TDrawMore.c13⟩
  · cases h; exact ⟨_, Try.func39, TDrawMore.c39⟩
  · cases h; exact ⟨_, Try.func40, TDrawMore.c40⟩
  · cases h
instance : Has TDrawMore I.parlkeep5_DrawMore F.parlkeep5_DrawMore := ⟨rfl⟩
instance : Has TDrawMore I.parlkeep5_below F.parlkeep5_below := ⟨rfl⟩
instance : Has TDrawMore I.draw_Number F.draw_Number := ⟨rfl⟩
instance : Has TDrawMore I.slices_Concat_bool_bool F.slices_Concat_bool_bool := ⟨rfl⟩
instance : Has TDrawMore I.parlmake_Below F.parlmake_Below := ⟨rfl⟩
instance : Has TDrawMore I.slices_Grow_bool_bool F.slices_Grow_bool_bool := ⟨rfl⟩
end Go.Proofs.Ytbehlbabgomhfaa
