/- The table of law DrawFair and its checks against the program, written by wip/tools/gen.py. -/
import Derived.Test.YtbehlbabgomhfaaGdraw
import Derived.Test.YtbehlbabgomhfaaGparlkeep5
import Derived.Test.YtbehlbabgomhfaaGparlmake
import Derived.Test.YtbehlbabgomhfaaGslices
import Derived.Test.YtbehlbabgomhfaaProg
import Derived.KernelRfl
namespace Go.Proofs.Ytbehlbabgomhfaa
open Go Go.Ab
def TDrawFair : FuncId → Option AFunc
  | 4 => some F.parlkeep5_DrawFair
  | 11 => some F.parlkeep5_below
  | 12 => some F.draw_Number
  | 14 => some F.parlkeep5_coins
  | 15 => some F.slices_Min_int_int
  | 16 => some F.slices_Max_int_int
  | 39 => some F.parlmake_Below
  | 41 => some F.slices_Clone_bool_bool
  | _ => none
theorem TDrawFair.c4 : cFunc Try.prog Try.f4 = some F.parlkeep5_DrawFair := by kernel_rfl
theorem TDrawFair.c11 : cFunc Try.prog Try.f11 = some F.parlkeep5_below := by kernel_rfl
theorem TDrawFair.c12 : cFunc Try.prog Try.f12 = some F.draw_Number := by kernel_rfl
theorem TDrawFair.c14 : cFunc Try.prog Try.f14 = some F.parlkeep5_coins := by kernel_rfl
theorem TDrawFair.c15 : cFunc Try.prog Try.f15 = some F.slices_Min_int_int := by kernel_rfl
theorem TDrawFair.c16 : cFunc Try.prog Try.f16 = some F.slices_Max_int_int := by kernel_rfl
theorem TDrawFair.c39 : cFunc Try.prog Try.f39 = some F.parlmake_Below := by kernel_rfl
theorem TDrawFair.c41 : cFunc Try.prog Try.f41 = some F.slices_Clone_bool_bool := by kernel_rfl
theorem TDrawFair.ok : ∀ f F, TDrawFair f = some F → ∃ fn, Try.prog.funcs[f]? = some fn ∧ cFunc Try.prog fn = some F := by
  intro f F h
  unfold TDrawFair at h
  split at h
  · cases h; exact ⟨_, Try.func4, TDrawFair.c4⟩
  · cases h; exact ⟨_, Try.func11, TDrawFair.c11⟩
  · cases h; exact ⟨_, Try.func12, TDrawFair.c12⟩
  · cases h; exact ⟨_, Try.func14, TDrawFair.c14⟩
  · cases h; exact ⟨_, Try.func15, TDrawFair.c15⟩
  · cases h; exact ⟨_, Try.func16, TDrawFair.c16⟩
  · cases h; exact ⟨_, Try.func39, TDrawFair.c39⟩
  · cases h; exact ⟨_, Try.func41, TDrawFair.c41⟩
  · cases h
instance : Has TDrawFair I.parlkeep5_DrawFair F.parlkeep5_DrawFair := ⟨rfl⟩
instance : Has TDrawFair I.parlkeep5_below F.parlkeep5_below := ⟨rfl⟩
instance : Has TDrawFair I.draw_Number F.draw_Number := ⟨rfl⟩
instance : Has TDrawFair I.parlkeep5_coins F.parlkeep5_coins := ⟨rfl⟩
instance : Has TDrawFair I.slices_Min_int_int F.slices_Min_int_int := ⟨rfl⟩
instance : Has TDrawFair I.slices_Max_int_int F.slices_Max_int_int := ⟨rfl⟩
instance : Has TDrawFair I.parlmake_Below F.parlmake_Below := ⟨rfl⟩
instance : Has TDrawFair I.slices_Clone_bool_bool F.slices_Clone_bool_bool := ⟨rfl⟩
end Go.Proofs.Ytbehlbabgomhfaa
