/- The table of law GuessLess and its checks against the program, written by wip/tools/gen.py. -/
import Derived.Test.YthgdobdhdfjhfaaGdfa
import Derived.Test.YthgdobdhdfjhfaaGguess
import Derived.Test.YthgdobdhdfjhfaaGparlkeep5
import Derived.Test.YthgdobdhdfjhfaaGparlmake
import Derived.Test.YthgdobdhdfjhfaaGslices
import Derived.Test.YthgdobdhdfjhfaaProg
import Derived.KernelRfl
namespace Go.Proofs.Ythgdobdhdfjhfaa
open Go Go.Ab
def TGuessLess : FuncId → Option AFunc
  | 8 => some F.parlkeep5_GuessLess
  | 20 => some F.parlkeep5_below
  | 27 => some F.slices_Equal_int_int
  | 35 => some F.parlmake_Dfa
  | 36 => some F.guess_Of
  | 37 => some F.parlkeep5_fewer
  | 42 => some F.slices_IndexFunc_int_int
  | 47 => some F.parlmake_stream_next
  | 53 => some F.parlmake_Below
  | 70 => some F.guess_Rules
  | 71 => some F.guess_Check
  | 72 => some F.guess_first
  | 73 => some F.guess_next
  | 74 => some F.slices_Clone_api_Sym_api_Sym
  | 75 => some F.guess_agrees
  | 76 => some F.parlkeep5_examples
  | 77 => some F.parlkeep5_fewer_1
  | 78 => some F.slices_ContainsFunc_int_int
  | 79 => some F.parlkeep5_fewer_1_1
  | 80 => some F.slices_DeleteFunc_int_int
  | 98 => some F.slices_Concat_int_int
  | 99 => some F.slices_ContainsFunc_int_int_99
  | 100 => some F.guess_Check_1
  | 101 => some F.slices_Clone_int_int
  | 102 => some F.guess_accepts
  | 103 => some F.parlmake_Word
  | 104 => some F.parlkeep5_accepts
  | 105 => some F.slices_IndexFunc_int_int_105
  | 118 => some F.slices_Grow_int_int
  | 119 => some F.guess_accepts_1
  | 120 => some F.dfa_Run
  | 124 => some F.dfa_Check
  | _ => none
theorem TGuessLess.c8 : cFunc Try.prog Try.f8 = some F.parlkeep5_GuessLess := by kernel_rfl
theorem TGuessLess.c20 : cFunc Try.prog Try.f20 = some F.parlkeep5_below := by kernel_rfl
theorem TGuessLess.c27 : cFunc Try.prog Try.f27 = some F.slices_Equal_int_int := by kernel_rfl
theorem TGuessLess.c35 : cFunc Try.prog Try.f35 = some F.parlmake_Dfa := by kernel_rfl
theorem TGuessLess.c36 : cFunc Try.prog Try.f36 = some F.guess_Of := by kernel_rfl
theorem TGuessLess.c37 : cFunc Try.prog Try.f37 = some F.parlkeep5_fewer := by kernel_rfl
theorem TGuessLess.c42 : cFunc Try.prog Try.f42 = some F.slices_IndexFunc_int_int := by kernel_rfl
theorem TGuessLess.c47 : cFunc Try.prog Try.f47 = some F.parlmake_stream_next := by kernel_rfl
theorem TGuessLess.c53 : cFunc Try.prog Try.f53 = some F.parlmake_Below := by kernel_rfl
theorem TGuessLess.c70 : cFunc Try.prog Try.f70 = some F.guess_Rules := by kernel_rfl
theorem TGuessLess.c71 : cFunc Try.prog Try.f71 = some F.guess_Check := by kernel_rfl
theorem TGuessLess.c72 : cFunc Try.prog Try.f72 = some F.guess_first := by kernel_rfl
theorem TGuessLess.c73 : cFunc Try.prog Try.f73 = some F.guess_next := by kernel_rfl
theorem TGuessLess.c74 : cFunc Try.prog Try.f74 = some F.slices_Clone_api_Sym_api_Sym := by kernel_rfl
theorem TGuessLess.c75 : cFunc Try.prog Try.f75 = some F.guess_agrees := by kernel_rfl
theorem TGuessLess.c76 : cFunc Try.prog Try.f76 = some F.parlkeep5_examples := by kernel_rfl
theorem TGuessLess.c77 : cFunc Try.prog Try.f77 = some F.parlkeep5_fewer_1 := by kernel_rfl
theorem TGuessLess.c78 : cFunc Try.prog Try.f78 = some F.slices_ContainsFunc_int_int := by kernel_rfl
theorem TGuessLess.c79 : cFunc Try.prog Try.f79 = some F.parlkeep5_fewer_1_1 := by kernel_rfl
theorem TGuessLess.c80 : cFunc Try.prog Try.f80 = some F.slices_DeleteFunc_int_int := by kernel_rfl
theorem TGuessLess.c98 : cFunc Try.prog Try.f98 = some F.slices_Concat_int_int := by kernel_rfl
theorem TGuessLess.c99 : cFunc Try.prog Try.f99 = some F.slices_ContainsFunc_int_int_99 := by kernel_rfl
theorem TGuessLess.c100 : cFunc Try.prog Try.f100 = some F.guess_Check_1 := by kernel_rfl
theorem TGuessLess.c101 : cFunc Try.prog Try.f101 = some F.slices_Clone_int_int := by kernel_rfl
theorem TGuessLess.c102 : cFunc Try.prog Try.f102 = some F.guess_accepts := by kernel_rfl
theorem TGuessLess.c103 : cFunc Try.prog Try.f103 = some F.parlmake_Word := by kernel_rfl
theorem TGuessLess.c104 : cFunc Try.prog Try.f104 = some F.parlkeep5_accepts := by kernel_rfl
theorem TGuessLess.c105 : cFunc Try.prog Try.f105 = some F.slices_IndexFunc_int_int_105 := by kernel_rfl
theorem TGuessLess.c118 : cFunc Try.prog Try.f118 = some F.slices_Grow_int_int := by kernel_rfl
theorem TGuessLess.c119 : cFunc Try.prog Try.f119 = some F.guess_accepts_1 := by kernel_rfl
theorem TGuessLess.c120 : cFunc Try.prog Try.f120 = some F.dfa_Run := by kernel_rfl
theorem TGuessLess.c124 : cFunc Try.prog Try.f124 = some F.dfa_Check := by kernel_rfl
theorem TGuessLess.ok : ∀ f F, TGuessLess f = some F → ∃ fn, Try.prog.funcs[f]? = some fn ∧ cFunc Try.prog fn = some F := by
  intro f F h
  unfold TGuessLess at h
  split at h
  · cases h; exact ⟨_, Try.func8, TGuessLess.c8⟩
  · cases h; exact ⟨_, Try.func20, TGuessLess.c20⟩
  · cases h; exact ⟨_, Try.func27, TGuessLess.c27⟩
  · cases h; exact ⟨_, Try.func35, TGuessLess.c35⟩
  · cases h; exact ⟨_, Try.func36, TGuessLess.c36⟩
  · cases h; exact ⟨_, Try.func37, TGuessLess.c37⟩
  · cases h; exact ⟨_, Try.func42, TGuessLess.c42⟩
  · cases h; exact ⟨_, Try.func47, TGuessLess.c47⟩
  · cases h; exact ⟨_, Try.func53, TGuessLess.c53⟩
  · cases h; exact ⟨_, Try.func70, TGuessLess.c70⟩
  · cases h; exact ⟨_, Try.func71, TGuessLess.c71⟩
  · cases h; exact ⟨_, Try.func72, TGuessLess.c72⟩
  · cases h; exact ⟨_, Try.func73, TGuessLess.c73⟩
  · cases h; exact ⟨_, Try.func74, TGuessLess.c74⟩
  · cases h; exact ⟨_, Try.func75, TGuessLess.c75⟩
  · cases h; exact ⟨_, Try.func76, TGuessLess.c76⟩
  · cases h; exact ⟨_, Try.func77, TGuessLess.c77⟩
  · cases h; exact ⟨_, Try.func78, TGuessLess.c78⟩
  · cases h; exact ⟨_, Try.func79, TGuessLess.c79⟩
  · cases h; exact ⟨_, Try.func80, TGuessLess.c80⟩
  · cases h; exact ⟨_, Try.func98, TGuessLess.c98⟩
  · cases h; exact ⟨_, Try.func99, TGuessLess.c99⟩
  · cases h; exact ⟨_, Try.func100, TGuessLess.c100⟩
  · cases h; exact ⟨_, Try.func101, TGuessLess.c101⟩
  · cases h; exact ⟨_, Try.func102, TGuessLess.c102⟩
  · cases h; exact ⟨_, Try.func103, TGuessLess.c103⟩
  · cases h; exact ⟨_, Try.func104, TGuessLess.c104⟩
  · cases h; exact ⟨_, Try.func105, TGuessLess.c105⟩
  · cases h; exact ⟨_, Try.func118, TGuessLess.c118⟩
  · cases h; exact ⟨_, Try.func119, TGuessLess.c119⟩
  · cases h; exact ⟨_, Try.func120, TGuessLess.c120⟩
  · cases h; exact ⟨_, Try.func124, TGuessLess.c124⟩
  · cases h
instance : Has TGuessLess I.parlkeep5_GuessLess F.parlkeep5_GuessLess := ⟨rfl⟩
instance : Has TGuessLess I.parlkeep5_below F.parlkeep5_below := ⟨rfl⟩
instance : Has TGuessLess I.slices_Equal_int_int F.slices_Equal_int_int := ⟨rfl⟩
instance : Has TGuessLess I.parlmake_Dfa F.parlmake_Dfa := ⟨rfl⟩
instance : Has TGuessLess I.guess_Of F.guess_Of := ⟨rfl⟩
instance : Has TGuessLess I.parlkeep5_fewer F.parlkeep5_fewer := ⟨rfl⟩
instance : Has TGuessLess I.slices_IndexFunc_int_int F.slices_IndexFunc_int_int := ⟨rfl⟩
instance : Has TGuessLess I.parlmake_stream_next F.parlmake_stream_next := ⟨rfl⟩
instance : Has TGuessLess I.parlmake_Below F.parlmake_Below := ⟨rfl⟩
instance : Has TGuessLess I.guess_Rules F.guess_Rules := ⟨rfl⟩
instance : Has TGuessLess I.guess_Check F.guess_Check := ⟨rfl⟩
instance : Has TGuessLess I.guess_first F.guess_first := ⟨rfl⟩
instance : Has TGuessLess I.guess_next F.guess_next := ⟨rfl⟩
instance : Has TGuessLess I.slices_Clone_api_Sym_api_Sym F.slices_Clone_api_Sym_api_Sym := ⟨rfl⟩
instance : Has TGuessLess I.guess_agrees F.guess_agrees := ⟨rfl⟩
instance : Has TGuessLess I.parlkeep5_examples F.parlkeep5_examples := ⟨rfl⟩
instance : Has TGuessLess I.parlkeep5_fewer_1 F.parlkeep5_fewer_1 := ⟨rfl⟩
instance : Has TGuessLess I.slices_ContainsFunc_int_int F.slices_ContainsFunc_int_int := ⟨rfl⟩
instance : Has TGuessLess I.parlkeep5_fewer_1_1 F.parlkeep5_fewer_1_1 := ⟨rfl⟩
instance : Has TGuessLess I.slices_DeleteFunc_int_int F.slices_DeleteFunc_int_int := ⟨rfl⟩
instance : Has TGuessLess I.slices_Concat_int_int F.slices_Concat_int_int := ⟨rfl⟩
instance : Has TGuessLess I.slices_ContainsFunc_int_int_99 F.slices_ContainsFunc_int_int_99 := ⟨rfl⟩
instance : Has TGuessLess I.guess_Check_1 F.guess_Check_1 := ⟨rfl⟩
instance : Has TGuessLess I.slices_Clone_int_int F.slices_Clone_int_int := ⟨rfl⟩
instance : Has TGuessLess I.guess_accepts F.guess_accepts := ⟨rfl⟩
instance : Has TGuessLess I.parlmake_Word F.parlmake_Word := ⟨rfl⟩
instance : Has TGuessLess I.parlkeep5_accepts F.parlkeep5_accepts := ⟨rfl⟩
instance : Has TGuessLess I.slices_IndexFunc_int_int_105 F.slices_IndexFunc_int_int_105 := ⟨rfl⟩
instance : Has TGuessLess I.slices_Grow_int_int F.slices_Grow_int_int := ⟨rfl⟩
instance : Has TGuessLess I.guess_accepts_1 F.guess_accepts_1 := ⟨rfl⟩
instance : Has TGuessLess I.dfa_Run F.dfa_Run := ⟨rfl⟩
instance : Has TGuessLess I.dfa_Check F.dfa_Check := ⟨rfl⟩
end Go.Proofs.Ythgdobdhdfjhfaa
