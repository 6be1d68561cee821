/- The table of law CompareOther and its checks against the program, written by wip/tools/gen.py. -/
import Derived.Test.YtbehlbabgomhfaaGcompare
import Derived.Test.YtbehlbabgomhfaaGdfa
import Derived.Test.YtbehlbabgomhfaaGparlkeep5
import Derived.Test.YtbehlbabgomhfaaGparlmake
import Derived.Test.YtbehlbabgomhfaaProg
import Derived.KernelRfl
namespace Go.Proofs.Ytbehlbabgomhfaa
open Go Go.Ab
def TCompareOther : FuncId → Option AFunc
  | 8 => some F.parlkeep5_CompareOther
  | 18 => some F.parlmake_Dfa
  | 21 => some F.parlmake_Word
  | 22 => some F.parlkeep5_accepts
  | 31 => some F.compare_Other
  | 32 => some F.parlkeep5_ends
  | 39 => some F.parlmake_Below
  | 42 => some F.parlmake_stream_next
  | 43 => some F.dfa_Check
  | 44 => some F.dfa_Run
  | _ => none
theorem TCompareOther.c8 : cFunc Try.prog Try.f8 = some F.parlkeep5_CompareOther := by kernel_rfl
theorem TCompareOther.c18 : cFunc Try.prog Try.f18 = some F.parlmake_Dfa := by kernel_rfl
theorem TCompareOther.c21 : cFunc Try.prog Try.f21 = some F.parlmake_Word := by kernel_rfl
theorem TCompareOther.c22 : cFunc Try.prog Try.f22 = some F.parlkeep5_accepts := by kernel_rfl
theorem TCompareOther.c31 : cFunc Try.prog Try.f31 = some F.compare_Other := by kernel_rfl
theorem TCompareOther.c32 : cFunc Try.prog Try.f32 = some F.parlkeep5_ends := by kernel_rfl
theorem TCompareOther.c39 : cFunc Try.prog Try.f39 = some F.parlmake_Below := by kernel_rfl
theorem TCompareOther.c42 : cFunc Try.prog Try.f42 = some F.parlmake_stream_next := by kernel_rfl
theorem TCompareOther.c43 : cFunc Try.prog Try.f43 = some F.dfa_Check := by kernel_rfl
theorem TCompareOther.c44 : cFunc Try.prog Try.f44 = some F.dfa_Run := by kernel_rfl
theorem TCompareOther.ok : ∀ f F, TCompareOther f = some F → ∃ fn, Try.prog.funcs[f]? = some fn ∧ cFunc Try.prog fn = some F := by
  intro f F h
  unfold TCompareOther at h
  split at h
  · cases h; exact ⟨_, Try.func8, TCompareOther.c8⟩
  · cases h; exact ⟨_, Try.func18, TCompareOther.c18⟩
  · cases h; exact ⟨_, Try.func21, TCompareOther.c21⟩
  · cases h; exact ⟨_, Try.func22, TCompareOther.c22⟩
  · cases h; exact ⟨_, Try.func31, TCompareOther.c31⟩
  · cases h; exact ⟨_, Try.func32, TCompareOther.c32⟩
  · cases h; exact ⟨_, Try.func39, TCompareOther.c39⟩
  · cases h; exact ⟨_, Try.func42, TCompareOther.c42⟩
  · cases h; exact ⟨_, Try.func43, TCompareOther.c43⟩
  · cases h; exact ⟨_, Try.func44, TCompareOther.c44⟩
  · cases h
instance : Has TCompareOther I.parlkeep5_CompareOther F.parlkeep5_CompareOther := ⟨rfl⟩
instance : Has TCompareOther I.parlmake_Dfa F.parlmake_Dfa := ⟨rfl⟩
instance : Has TCompareOther I.parlmake_Word F.parlmake_Word := ⟨rfl⟩
instance : Has TCompareOther I.parlkeep5_accepts F.parlkeep5_accepts := ⟨rfl⟩
instance : Has TCompareOther I.compare_Other F.compare_Other := ⟨rfl⟩
instance : Has TCompareOther I.parlkeep5_ends F.parlkeep5_ends := ⟨rfl⟩
instance : Has TCompareOther I.parlmake_Below F.parlmake_Below := ⟨rfl⟩
instance : Has TCompareOther I.parlmake_stream_next F.parlmake_stream_next := ⟨rfl⟩
instance : Has TCompareOther I.dfa_Check F.dfa_Check := ⟨rfl⟩
instance : Has TCompareOther I.dfa_Run F.dfa_Run := ⟨rfl⟩
end Go.Proofs.Ytbehlbabgomhfaa
