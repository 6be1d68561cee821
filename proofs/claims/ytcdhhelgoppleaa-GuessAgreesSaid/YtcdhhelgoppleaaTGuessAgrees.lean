/- The table of law GuessAgrees and its checks against the program, written by wip/tools/gen.py. -/
import Derived.Test.YtcdhhelgoppleaaGcmp
import Derived.Test.YtcdhhelgoppleaaGdfa
import Derived.Test.YtcdhhelgoppleaaGgram
import Derived.Test.YtcdhhelgoppleaaGguess
import Derived.Test.YtcdhhelgoppleaaGmean
import Derived.Test.YtcdhhelgoppleaaGparlkeep5
import Derived.Test.YtcdhhelgoppleaaGparlmake
import Derived.Test.YtcdhhelgoppleaaGslices
import Derived.Test.YtcdhhelgoppleaaProg
import Derived.KernelRfl
namespace Go.Proofs.Ytcdhhelgoppleaa
open Go Go.Ab
def TGuessAgrees : FuncId → Option AFunc
  | 3 => some F.parlkeep5_GuessAgrees
  | 4 => some F.parlmake_Dfa
  | 5 => some F.guess_Of
  | 6 => some F.parlkeep5_fewer
  | 7 => some F.parlkeep5_below
  | 8 => some F.mean_Accepts
  | 9 => some F.parlmake_stream_next
  | 10 => some F.guess_Rules
  | 11 => some F.guess_Check
  | 12 => some F.guess_first
  | 13 => some F.guess_next
  | 14 => some F.slices_Clone_api_Sym_api_Sym
  | 15 => some F.guess_agrees
  | 16 => some F.parlkeep5_examples
  | 17 => some F.parlkeep5_fewer_1
  | 18 => some F.slices_ContainsFunc_int_int
  | 19 => some F.parlkeep5_fewer_1_1
  | 20 => some F.slices_DeleteFunc_int_int
  | 21 => some F.parlmake_Below
  | 22 => some F.mean_check
  | 23 => some F.mean_derived
  | 24 => some F.mean_ends_is
  | 25 => some F.slices_Concat_int_int
  | 26 => some F.slices_ContainsFunc_int_int_26
  | 27 => some F.guess_Check_1
  | 28 => some F.slices_Equal_int_int
  | 29 => some F.slices_Clone_int_int
  | 30 => some F.guess_accepts
  | 31 => some F.parlmake_Word
  | 32 => some F.parlkeep5_accepts
  | 33 => some F.slices_IndexFunc_int_int
  | 34 => some F.slices_IndexFunc_int_int_34
  | 35 => some F.gram_Check
  | 36 => some F.gram_Word
  | 37 => some F.mean_ends_after
  | 38 => some F.slices_Grow_int_int
  | 39 => some F.guess_accepts_1
  | 40 => some F.dfa_Run
  | 41 => some F.gram_Compare
  | 42 => some F.dfa_Check
  | 43 => some F.cmp_Compare_int
  | 44 => some F.slices_CompareFunc_api_Sym_api_Sym_api_Sym_api_Sym
  | 45 => some F.gram_Order
  | 46 => some F.cmp_isNaN_int
  | _ => none
theorem TGuessAgrees.c3 : cFunc Try.prog Try.f3 = some F.parlkeep5_GuessAgrees := by kernel_rfl
theorem TGuessAgrees.c4 : cFunc Try.prog Try.f4 = some F.parlmake_Dfa := by kernel_rfl
theorem TGuessAgrees.c5 : cFunc Try.prog Try.f5 = some F.guess_Of := by kernel_rfl
theorem TGuessAgrees.c6 : cFunc Try.prog Try.f6 = some F.parlkeep5_fewer := by kernel_rfl
theorem TGuessAgrees.c7 : cFunc Try.prog Try.f7 = some F.parlkeep5_below := by kernel_rfl
theorem TGuessAgrees.c8 : cFunc Try.prog Try.f8 = some F.mean_Accepts := by kernel_rfl
theorem TGuessAgrees.c9 : cFunc Try.prog Try.f9 = some F.parlmake_stream_next := by kernel_rfl
theorem TGuessAgrees.c10 : cFunc Try.prog Try.f10 = some F.guess_Rules := by kernel_rfl
theorem TGuessAgrees.c11 : cFunc Try.prog Try.f11 = some F.guess_Check := by kernel_rfl
theorem TGuessAgrees.c12 : cFunc Try.prog Try.f12 = some F.guess_first := by kernel_rfl
theorem TGuessAgrees.c13 : cFunc Try.prog Try.f13 = some F.guess_next := by kernel_rfl
theorem TGuessAgrees.c14 : cFunc Try.prog Try.f14 = some F.slices_Clone_api_Sym_api_Sym := by kernel_rfl
theorem TGuessAgrees.c15 : cFunc Try.prog Try.f15 = some F.guess_agrees := by kernel_rfl
theorem TGuessAgrees.c16 : cFunc Try.prog Try.f16 = some F.parlkeep5_examples := by kernel_rfl
theorem TGuessAgrees.c17 : cFunc Try.prog Try.f17 = some F.parlkeep5_fewer_1 := by kernel_rfl
theorem TGuessAgrees.c18 : cFunc Try.prog Try.f18 = some F.slices_ContainsFunc_int_int := by kernel_rfl
theorem TGuessAgrees.c19 : cFunc Try.prog Try.f19 = some F.parlkeep5_fewer_1_1 := by kernel_rfl
theorem TGuessAgrees.c20 : cFunc Try.prog Try.f20 = some F.slices_DeleteFunc_int_int := by kernel_rfl
theorem TGuessAgrees.c21 : cFunc Try.prog Try.f21 = some F.parlmake_Below := by kernel_rfl
theorem TGuessAgrees.c22 : cFunc Try.prog Try.f22 = some F.mean_check := by kernel_rfl
theorem TGuessAgrees.c23 : cFunc Try.prog Try.f23 = some F.mean_derived := by kernel_rfl
theorem TGuessAgrees.c24 : cFunc Try.prog Try.f24 = some F.mean_ends_is := by kernel_rfl
theorem TGuessAgrees.c25 : cFunc Try.prog Try.f25 = some F.slices_Concat_int_int := by kernel_rfl
theorem TGuessAgrees.c26 : cFunc Try.prog Try.f26 = some F.slices_ContainsFunc_int_int_26 := by kernel_rfl
theorem TGuessAgrees.c27 : cFunc Try.prog Try.f27 = some F.guess_Check_1 := by kernel_rfl
theorem TGuessAgrees.c28 : cFunc Try.prog Try.f28 = some F.slices_Equal_int_int := by kernel_rfl
theorem TGuessAgrees.c29 : cFunc Try.prog Try.f29 = some F.slices_Clone_int_int := by kernel_rfl
theorem TGuessAgrees.c30 : cFunc Try.prog Try.f30 = some F.guess_accepts := by kernel_rfl
theorem TGuessAgrees.c31 : cFunc Try.prog Try.f31 = some F.parlmake_Word := by kernel_rfl
theorem TGuessAgrees.c32 : cFunc Try.prog Try.f32 = some F.parlkeep5_accepts := by kernel_rfl
theorem TGuessAgrees.c33 : cFunc Try.prog Try.f33 = some F.slices_IndexFunc_int_int := by kernel_rfl
theorem TGuessAgrees.c34 : cFunc Try.prog Try.f34 = some F.slices_IndexFunc_int_int_34 := by kernel_rfl
theorem TGuessAgrees.c35 : cFunc Try.prog Try.f35 = some F.gram_Check := by kernel_rfl
theorem TGuessAgrees.c36 : cFunc Try.prog Try.f36 = some F.gram_Word := by kernel_rfl
theorem TGuessAgrees.c37 : cFunc Try.prog Try.f37 = some F.mean_ends_after := by kernel_rfl
theorem TGuessAgrees.c38 : cFunc Try.prog Try.f38 = some F.slices_Grow_int_int := by kernel_rfl
theorem TGuessAgrees.c39 : cFunc Try.prog Try.f39 = some F.guess_accepts_1 := by kernel_rfl
theorem TGuessAgrees.c40 : cFunc Try.prog Try.f40 = some F.dfa_Run := by kernel_rfl
theorem TGuessAgrees.c41 : cFunc Try.prog Try.f41 = some F.gram_Compare := by kernel_rfl
theorem TGuessAgrees.c42 : cFunc Try.prog Try.f42 = some F.dfa_Check := by kernel_rfl
theorem TGuessAgrees.c43 : cFunc Try.prog Try.f43 = some F.cmp_Compare_int := by kernel_rfl
theorem TGuessAgrees.c44 : cFunc Try.prog Try.f44 = some F.slices_CompareFunc_api_Sym_api_Sym_api_Sym_api_Sym := by kernel_rfl
theorem TGuessAgrees.c45 : cFunc Try.prog Try.f45 = some F.gram_Order := by kernel_rfl
theorem TGuessAgrees.c46 : cFunc Try.prog Try.f46 = some F.cmp_isNaN_int := by kernel_rfl
theorem TGuessAgrees.ok : ∀ f F, TGuessAgrees f = some F → ∃ fn, Try.prog.funcs[f]? = some fn ∧ cFunc Try.prog fn = some F := by
  intro f F h
  unfold TGuessAgrees at h
  split at h
  · cases h; exact ⟨_, Try.func3, TGuessAgrees.c3⟩
  · cases h; exact ⟨_, Try.func4, TGuessAgrees.c4⟩
  · cases h; exact ⟨_, Try.func5, TGuessAgrees.c5⟩
  · cases h; exact ⟨_, Try.func6, TGuessAgrees.c6⟩
  · cases h; exact ⟨_, Try.func7, TGuessAgrees.c7⟩
  · cases h; exact ⟨_, Try.func8, TGuessAgrees.c8⟩
  · cases h; exact ⟨_, Try.func9, TGuessAgrees.c9⟩
  · cases h; exact ⟨_, Try.func10, TGuessAgrees.c10⟩
  · cases h; exact ⟨_, Try.func11, TGuessAgrees.c11⟩
  · cases h; exact ⟨_, Try.func12, TGuessAgrees.c12⟩
  · cases h; exact ⟨_, Try.func13, TGuessAgrees.c13⟩
  · cases h; exact ⟨_, Try.func14, TGuessAgrees.c14⟩
  · cases h; exact ⟨_, Try.func15, TGuessAgrees.c15⟩
  · cases h; exact ⟨_, Try.func16, TGuessAgrees.c16⟩
  · cases h; exact ⟨_, Try.func17, TGuessAgrees.c17⟩
  · cases h; exact ⟨_, Try.func18, TGuessAgrees.c18⟩
  · cases h; exact ⟨_, Try.func19, TGuessAgrees.c19⟩
  · cases h; exact ⟨_, Try.func20, TGuessAgrees.c20⟩
  · cases h; exact ⟨_, Try.func21, TGuessAgrees.c21⟩
  · cases h; exact ⟨_, Try.func22, TGuessAgrees.c22⟩
  · cases h; exact ⟨_, Try.func23, TGuessAgrees.c23⟩
  · cases h; exact ⟨_, Try.func24, TGuessAgrees.c24⟩
  · cases h; exact ⟨_, Try.func25, TGuessAgrees.c25⟩
  · cases h; exact ⟨_, Try.func26, TGuessAgrees.c26⟩
  · cases h; exact ⟨_, Try.func27, TGuessAgrees.c27⟩
  · cases h; exact ⟨_, Try.func28, TGuessAgrees.c28⟩
  · cases h; exact ⟨_, Try.func29, TGuessAgrees.c29⟩
  · cases h; exact ⟨_, Try.func30, TGuessAgrees.c30⟩
  · cases h; exact ⟨_, Try.func31, TGuessAgrees.c31⟩
  · cases h; exact ⟨_, Try.func32, TGuessAgrees.c32⟩
  · cases h; exact ⟨_, Try.func33, TGuessAgrees.c33⟩
  · cases h; exact ⟨_, Try.func34, TGuessAgrees.c34⟩
  · cases h; exact ⟨_, Try.func35, TGuessAgrees.c35⟩
  · cases h; exact ⟨_, Try.func36, TGuessAgrees.c36⟩
  · cases h; exact ⟨_, Try.func37, TGuessAgrees.c37⟩
  · cases h; exact ⟨_, Try.func38, TGuessAgrees.c38⟩
  · cases h; exact ⟨_, Try.func39, TGuessAgrees.c39⟩
  · cases h; exact ⟨_, Try.func40, TGuessAgrees.c40⟩
  · cases h; exact ⟨_, Try.func41, TGuessAgrees.c41⟩
  · cases h; exact ⟨_, Try.func42, TGuessAgrees.c42⟩
  · cases h; exact ⟨_, Try.func43, TGuessAgrees.c43⟩
  · cases h; exact ⟨_, Try.func44, TGuessAgrees.c44⟩
  · cases h; exact ⟨_, Try.func45, TGuessAgrees.c45⟩
  · cases h; exact ⟨_, Try.func46, TGuessAgrees.c46⟩
  · cases h
instance : Has TGuessAgrees I.parlkeep5_GuessAgrees F.parlkeep5_GuessAgrees := ⟨rfl⟩
instance : Has TGuessAgrees I.parlmake_Dfa F.parlmake_Dfa := ⟨rfl⟩
instance : Has TGuessAgrees I.guess_Of F.guess_Of := ⟨rfl⟩
instance : Has TGuessAgrees I.parlkeep5_fewer F.parlkeep5_fewer := ⟨rfl⟩
instance : Has TGuessAgrees I.parlkeep5_below F.parlkeep5_below := ⟨rfl⟩
instance : Has TGuessAgrees I.mean_Accepts F.mean_Accepts := ⟨rfl⟩
instance : Has TGuessAgrees I.parlmake_stream_next F.parlmake_stream_next := ⟨rfl⟩
instance : Has TGuessAgrees I.guess_Rules F.guess_Rules := ⟨rfl⟩
instance : Has TGuessAgrees I.guess_Check F.guess_Check := ⟨rfl⟩
instance : Has TGuessAgrees I.guess_first F.guess_first := ⟨rfl⟩
instance : Has TGuessAgrees I.guess_next F.guess_next := ⟨rfl⟩
instance : Has TGuessAgrees I.slices_Clone_api_Sym_api_Sym F.slices_Clone_api_Sym_api_Sym := ⟨rfl⟩
instance : Has TGuessAgrees I.guess_agrees F.guess_agrees := ⟨rfl⟩
instance : Has TGuessAgrees I.parlkeep5_examples F.parlkeep5_examples := ⟨rfl⟩
instance : Has TGuessAgrees I.parlkeep5_fewer_1 F.parlkeep5_fewer_1 := ⟨rfl⟩
instance : Has TGuessAgrees I.slices_ContainsFunc_int_int F.slices_ContainsFunc_int_int := ⟨rfl⟩
instance : Has TGuessAgrees I.parlkeep5_fewer_1_1 F.parlkeep5_fewer_1_1 := ⟨rfl⟩
instance : Has TGuessAgrees I.slices_DeleteFunc_int_int F.slices_DeleteFunc_int_int := ⟨rfl⟩
instance : Has TGuessAgrees I.parlmake_Below F.parlmake_Below := ⟨rfl⟩
instance : Has TGuessAgrees I.mean_check F.mean_check := ⟨rfl⟩
instance : Has TGuessAgrees I.mean_derived F.mean_derived := ⟨rfl⟩
instance : Has TGuessAgrees I.mean_ends_is F.mean_ends_is := ⟨rfl⟩
instance : Has TGuessAgrees I.slices_Concat_int_int F.slices_Concat_int_int := ⟨rfl⟩
instance : Has TGuessAgrees I.slices_ContainsFunc_int_int_26 F.slices_ContainsFunc_int_int_26 := ⟨rfl⟩
instance : Has TGuessAgrees I.guess_Check_1 F.guess_Check_1 := ⟨rfl⟩
instance : Has TGuessAgrees I.slices_Equal_int_int F.slices_Equal_int_int := ⟨rfl⟩
instance : Has TGuessAgrees I.slices_Clone_int_int F.slices_Clone_int_int := ⟨rfl⟩
instance : Has TGuessAgrees I.guess_accepts F.guess_accepts := ⟨rfl⟩
instance : Has TGuessAgrees I.parlmake_Word F.parlmake_Word := ⟨rfl⟩
instance : Has TGuessAgrees I.parlkeep5_accepts F.parlkeep5_accepts := ⟨rfl⟩
instance : Has TGuessAgrees I.slices_IndexFunc_int_int F.slices_IndexFunc_int_int := ⟨rfl⟩
instance : Has TGuessAgrees I.slices_IndexFunc_int_int_34 F.slices_IndexFunc_int_int_34 := ⟨rfl⟩
instance : Has TGuessAgrees I.gram_Check F.gram_Check := ⟨rfl⟩
instance : Has TGuessAgrees I.gram_Word F.gram_Word := ⟨rfl⟩
instance : Has TGuessAgrees I.mean_ends_after F.mean_ends_after := ⟨rfl⟩
instance : Has TGuessAgrees I.slices_Grow_int_int F.slices_Grow_int_int := ⟨rfl⟩
instance : Has TGuessAgrees I.guess_accepts_1 F.guess_accepts_1 := ⟨rfl⟩
instance : Has TGuessAgrees I.dfa_Run F.dfa_Run := ⟨rfl⟩
instance : Has TGuessAgrees I.gram_Compare F.gram_Compare := ⟨rfl⟩
instance : Has TGuessAgrees I.dfa_Check F.dfa_Check := ⟨rfl⟩
instance : Has TGuessAgrees I.cmp_Compare_int F.cmp_Compare_int := ⟨rfl⟩
instance : Has TGuessAgrees I.slices_CompareFunc_api_Sym_api_Sym_api_Sym_api_Sym F.slices_CompareFunc_api_Sym_api_Sym_api_Sym_api_Sym := ⟨rfl⟩
instance : Has TGuessAgrees I.gram_Order F.gram_Order := ⟨rfl⟩
instance : Has TGuessAgrees I.cmp_isNaN_int F.cmp_isNaN_int := ⟨rfl⟩
end Go.Proofs.Ytcdhhelgoppleaa
