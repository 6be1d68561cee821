/- The table of law TeachKeeps and its checks against the program, written by wip/tools/gen.py. -/
import Derived.Test.YtbehlbabgomhfaaGdfa
import Derived.Test.YtbehlbabgomhfaaGparlkeep5
import Derived.Test.YtbehlbabgomhfaaGparlmake
import Derived.Test.YtbehlbabgomhfaaGteach
import Derived.Test.YtbehlbabgomhfaaProg
import Derived.KernelRfl
namespace Go.Proofs.Ytbehlbabgomhfaa
open Go Go.Ab
def TTeachKeeps : FuncId → Option AFunc
  | 6 => some F.parlkeep5_TeachKeeps
  | 18 => some F.parlmake_Dfa
  | 19 => some F.teach_New
  | 20 => some F.teach_Teacher_Symbols
  | 21 => some F.parlmake_Word
  | 22 => some F.parlkeep5_accepts
  | 23 => some F.teach_Teacher_Member
  | 24 => some F.teach_Teacher_Asked
  | 39 => some F.parlmake_Below
  | 42 => some F.parlmake_stream_next
  | 43 => some F.dfa_Check
  | 44 => some F.dfa_Run
  | _ => none
theorem TTeachKeeps.c6 : cFunc Try.prog Try.f6 = some F.parlkeep5_TeachKeeps := by kernel_rfl
theorem TTeachKeeps.c18 : cFunc Try.prog Try.f18 = some F.parlmake_Dfa := by kernel_rfl
theorem TTeachKeeps.c19 : cFunc Try.prog Try.f19 = some F.teach_New := by kernel_rfl
theorem TTeachKeeps.c20 : cFunc Try.prog Try.f20 = some F.teach_Teacher_Symbols := by kernel_rfl
theorem TTeachKeeps.c21 : cFunc Try.prog Try.f21 = some F.parlmake_Word := by kernel_rfl
theorem TTeachKeeps.c22 : cFunc Try.prog Try.f22 = some F.parlkeep5_accepts := by kernel_rfl
theorem TTeachKeeps.c23 : cFunc Try.prog Try.f23 = some F.teach_Teacher_Member := by kernel_rfl
theorem TTeachKeeps.c24 : cFunc Try.prog Try.f24 = some F.teach_Teacher_Asked := by kernel_rfl
theorem TTeachKeeps.c39 : cFunc Try.prog Try.f39 = some F.parlmake_Below := by kernel_rfl
theorem TTeachKeeps.c42 : cFunc Try.prog Try.f42 = some F.parlmake_stream_next := by kernel_rfl
theorem TTeachKeeps.c43 : cFunc Try.prog Try.f43 = some F.dfa_Check := by kernel_rfl
theorem TTeachKeeps.c44 : cFunc Try.prog Try.f44 = some F.dfa_Run := by kernel_rfl
theorem TTeachKeeps.ok : ∀ f F, TTeachKeeps f = some F → ∃ fn, Try.prog.funcs[f]? = some fn ∧ cFunc Try.prog fn = some F := by
  intro f F h
  unfold TTeachKeeps at h
  split at h
  · cases h; exact ⟨_, Try.func6, TTeachKeeps.c6⟩
  · cases h; exact ⟨_, Try.func18, TTeachKeeps.c18⟩
  · cases h; exact ⟨_, Try.func19, TTeachKeeps.c19⟩
  · cases h; exact ⟨_, Try.func20, TTeachKeeps.c20⟩
  · cases h; exact ⟨_, Try.func21, TTeachKeeps.c21⟩
  · cases h; exact ⟨_, Try.func22, TTeachKeeps.c22⟩
  · cases h; exact ⟨_, Try.func23, TTeachKeeps.c23⟩
  · cases h; exact ⟨_, Try.func24, TTeachKeeps.c24⟩
  · cases h; exact ⟨_, Try.func39, TTeachKeeps.c39⟩
  · cases h; exact ⟨_, Try.func42, TTeachKeeps.c42⟩
  · cases h; exact ⟨_, Try.func43, TTeachKeeps.c43⟩
  · cases h; exact ⟨_, Try.func44, TTeachKeeps.c44⟩
  · cases h
instance : Has TTeachKeeps I.parlkeep5_TeachKeeps F.parlkeep5_TeachKeeps := ⟨rfl⟩
instance : Has TTeachKeeps I.parlmake_Dfa F.parlmake_Dfa := ⟨rfl⟩
instance : Has TTeachKeeps I.teach_New F.teach_New := ⟨rfl⟩
instance : Has TTeachKeeps I.teach_Teacher_Symbols F.teach_Teacher_Symbols := ⟨rfl⟩
instance : Has TTeachKeeps I.parlmake_Word F.parlmake_Word := ⟨rfl⟩
instance : Has TTeachKeeps I.parlkeep5_accepts F.parlkeep5_accepts := ⟨rfl⟩
instance : Has TTeachKeeps I.teach_Teacher_Member F.teach_Teacher_Member := ⟨rfl⟩
instance : Has TTeachKeeps I.teach_Teacher_Asked F.teach_Teacher_Asked := ⟨rfl⟩
instance : Has TTeachKeeps I.parlmake_Below F.parlmake_Below := ⟨rfl⟩
instance : Has TTeachKeeps I.parlmake_stream_next F.parlmake_stream_next := ⟨rfl⟩
instance : Has TTeachKeeps I.dfa_Check F.dfa_Check := ⟨rfl⟩
instance : Has TTeachKeeps I.dfa_Run F.dfa_Run := ⟨rfl⟩
end Go.Proofs.Ytbehlbabgomhfaa
