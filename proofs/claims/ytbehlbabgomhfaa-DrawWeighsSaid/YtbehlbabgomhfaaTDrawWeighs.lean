/- The table of law DrawWeighs and its checks against the program, written by wip/tools/gen.py. -/
import Derived.Test.YtbehlbabgomhfaaGdraw
import Derived.Test.YtbehlbabgomhfaaGparlkeep5
import Derived.Test.YtbehlbabgomhfaaGparlmake
import Derived.Test.YtbehlbabgomhfaaGslices
import Derived.Test.YtbehlbabgomhfaaProg
import Derived.KernelRfl
namespace Go.Proofs.Ytbehlbabgomhfaa
open Go Go.Ab
def TDrawWeighs : FuncId → Option AFunc
  | 5 => some F.parlkeep5_DrawWeighs
  | 11 => some F.parlkeep5_below
  | 12 => some F.draw_Number
  | 14 => some F.parlkeep5_coins
  | 17 => some F.draw_Pick
  | 39 => some F.parlmake_Below
  | 41 => some F.slices_Clone_bool_bool
  | _ => none
theorem TDrawWeighs.c5 : cFunc Try.prog Try.f5 = some F.parlkeep5_DrawWeighs := by kernel_rfl
theorem TDrawWeighs.c11 : cFunc Try.prog Try.f11 = some F.parlkeep5_below := by kernel_rfl
theorem TDrawWeighs.c12 : cFunc Try.prog Try.f12 = some F.draw_Number := by kernel_rfl
theorem TDrawWeighs.c14 : cFunc Try.prog Try.f14 = some F.parlkeep5_coins := by kernel_rfl
theorem TDrawWeighs.c17 : cFunc Try.prog Try.f17 = some F.draw_Pick := by kernel_rfl
theorem TDrawWeighs.c39 : cFunc Try.prog Try.f39 = some F.parlmake_Below := by kernel_rfl
theorem TDrawWeighs.c41 : cFunc Try.prog Try.f41 = some F.slices_Clone_bool_bool := by kernel_rfl
theorem TDrawWeighs.ok : ∀ f F, TDrawWeighs f = some F → ∃ fn, Try.prog.funcs[f]? = some fn ∧ cFunc Try.prog fn = some F := by
  intro f F h
  unfold TDrawWeighs at h
  split at h
  · cases h; exact ⟨_, Try.func5, TDrawWeighs.c5⟩
  · cases h; exact ⟨_, Try.func11, TDrawWeighs.c11⟩
  · cases h; exact ⟨_, Try.func12, TDrawWeighs.c12⟩
  · cases h; exact ⟨_, Try.func14, TDrawWeighs.c14⟩
  · cases h; exact ⟨_, Try.func17, TDrawWeighs.c17⟩
  · cases h; exact ⟨_, Try.func39, TDrawWeighs.c39⟩
  · cases h; exact ⟨_, Try.func41, TDrawWeighs.c41⟩
  · cases h
instance : Has TDrawWeighs I.parlkeep5_DrawWeighs F.parlkeep5_DrawWeighs := ⟨rfl⟩
instance : Has TDrawWeighs I.parlkeep5_below F.parlkeep5_below := ⟨rfl⟩
instance : Has TDrawWeighs I.draw_Number F.draw_Number := ⟨rfl⟩
instance : Has TDrawWeighs I.parlkeep5_coins F.parlkeep5_coins := ⟨rfl⟩
instance : Has TDrawWeighs I.draw_Pick F.draw_Pick := ⟨rfl⟩
instance : Has TDrawWeighs I.parlmake_Below F.parlmake_Below := ⟨rfl⟩
instance : Has TDrawWeighs I.slices_Clone_bool_bool F.slices_Clone_bool_bool := ⟨rfl⟩
end Go.Proofs.Ytbehlbabgomhfaa
