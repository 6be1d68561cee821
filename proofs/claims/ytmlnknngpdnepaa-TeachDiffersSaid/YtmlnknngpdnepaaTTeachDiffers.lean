/- The table of law TeachDiffers and its checks against the program, written by wip/tools/gen.py. -/
import Derived.Test.YtmlnknngpdnepaaGdfa
import Derived.Test.YtmlnknngpdnepaaGmathbits
import Derived.Test.YtmlnknngpdnepaaGmini
import Derived.Test.YtmlnknngpdnepaaGparlkeep5
import Derived.Test.YtmlnknngpdnepaaGparlmake
import Derived.Test.YtmlnknngpdnepaaGslices
import Derived.Test.YtmlnknngpdnepaaGteach
import Derived.Test.YtmlnknngpdnepaaProg
import Derived.KernelRfl
namespace Go.Proofs.Ytmlnknngpdnepaa
open Go Go.Ab
def TTeachDiffers : FuncId → Option AFunc
  | 3 => some F.parlkeep5_TeachDiffers
  | 4 => some F.parlmake_Dfa
  | 5 => some F.teach_New
  | 6 => some F.parlkeep5_ends
  | 7 => some F.teach_Teacher_Symbols
  | 8 => some F.mini_Min
  | 9 => some F.teach_Teacher_Equal
  | 10 => some F.parlkeep5_accepts
  | 11 => some F.parlkeep5_words
  | 12 => some F.slices_Equal_int_int
  | 13 => some F.parlmake_stream_next
  | 14 => some F.dfa_Check
  | 15 => some F.mini_complete
  | 16 => some F.mini_hopcroft
  | 17 => some F.slices_Repeat_int_int
  | 18 => some F.teach_Differ
  | 19 => some F.dfa_Run
  | 20 => some F.slices_Clone_int_int
  | 21 => some F.parlmake_Below
  | 22 => some F.mini_begin
  | 23 => some F.mini_parts_split
  | 24 => some F.slices_Contains_mini_task_mini_task
  | 25 => some F.math_bits_Mul
  | 26 => some F.teach_way
  | 27 => some F.teach_step
  | 28 => some F.slices_Contains_int_int
  | 29 => some F.slices_Index_mini_task_mini_task
  | 30 => some F.math_bits_Mul32
  | 31 => some F.math_bits_Mul64
  | 32 => some F.slices_Index_int_int
  | _ => none
theorem TTeachDiffers.c3 : cFunc Try.prog Try.f3 = some F.parlkeep5_TeachDiffers := by kernel_rfl
theorem TTeachDiffers.c4 : cFunc Try.prog Try.f4 = some F.parlmake_Dfa := by kernel_rfl
theorem TTeachDiffers.c5 : cFunc Try.prog Try.f5 = some F.teach_New := by kernel_rfl
theorem TTeachDiffers.c6 : cFunc Try.prog Try.f6 = some F.parlkeep5_ends := by kernel_rfl
theorem TTeachDiffers.c7 : cFunc Try.prog Try.f7 = some F.teach_Teacher_Symbols := by kernel_rfl
theorem TTeachDiffers.c8 : cFunc Try.prog Try.f8 = some F.mini_Min := by kernel_rfl
theorem TTeachDiffers.c9 : cFunc Try.prog Try.f9 = some F.teach_Teacher_Equal := by kernel_rfl
theorem TTeachDiffers.c10 : cFunc Try.prog Try.f10 = some F.parlkeep5_accepts := by kernel_rfl
theorem TTeachDiffers.c11 : cFunc Try.prog Try.f11 = some F.parlkeep5_words := by kernel_rfl
theorem TTeachDiffers.c12 : cFunc Try.prog Try.f12 = some F.slices_Equal_int_int := by kernel_rfl
theorem TTeachDiffers.c13 : cFunc Try.prog Try.f13 = some F.parlmake_stream_next := by kernel_rfl
theorem TTeachDiffers.c14 : cFunc Try.prog Try.f14 = some F.dfa_Check := by kernel_rfl
theorem TTeachDiffers.c15 : cFunc Try.prog Try.f15 = some F.mini_complete := by kernel_rfl
theorem TTeachDiffers.c16 : cFunc Try.prog Try.f16 = some F.mini_hopcroft := by kernel_rfl
theorem TTeachDiffers.c17 : cFunc Try.prog Try.f17 = some F.slices_Repeat_int_int := by kernel_rfl
theorem TTeachDiffers.c18 : cFunc Try.prog Try.f18 = some F.teach_Differ := by kernel_rfl
theorem TTeachDiffers.c19 : cFunc Try.prog Try.f19 = some F.dfa_Run := by kernel_rfl
theorem TTeachDiffers.c20 : cFunc Try.prog Try.f20 = some F.slices_Clone_int_int := by kernel_rfl
theorem TTeachDiffers.c21 : cFunc Try.prog Try.f21 = some F.parlmake_Below := by kernel_rfl
theorem TTeachDiffers.c22 : cFunc Try.prog Try.f22 = some F.mini_begin := by kernel_rfl
theorem TTeachDiffers.c23 : cFunc Try.prog Try.f23 = some F.mini_parts_split := by kernel_rfl
theorem TTeachDiffers.c24 : cFunc Try.prog Try.f24 = some F.slices_Contains_mini_task_mini_task := by kernel_rfl
theorem TTeachDiffers.c25 : cFunc Try.prog Try.f25 = some F.math_bits_Mul := by kernel_rfl
theorem TTeachDiffers.c26 : cFunc Try.prog Try.f26 = some F.teach_way := by kernel_rfl
theorem TTeachDiffers.c27 : cFunc Try.prog Try.f27 = some F.teach_step := by kernel_rfl
theorem TTeachDiffers.c28 : cFunc Try.prog Try.f28 = some F.slices_Contains_int_int := by kernel_rfl
theorem TTeachDiffers.c29 : cFunc Try.prog Try.f29 = some F.slices_Index_mini_task_mini_task := by kernel_rfl
theorem TTeachDiffers.c30 : cFunc Try.prog Try.f30 = some F.math_bits_Mul32 := by kernel_rfl
theorem TTeachDiffers.c31 : cFunc Try.prog Try.f31 = some F.math_bits_Mul64 := by kernel_rfl
theorem TTeachDiffers.c32 : cFunc Try.prog Try.f32 = some F.slices_Index_int_int := by kernel_rfl
theorem TTeachDiffers.ok : ∀ f F, TTeachDiffers f = some F → ∃ fn, Try.prog.funcs[f]? = some fn ∧ cFunc Try.prog fn = some F := by
  intro f F h
  unfold TTeachDiffers at h
  split at h
  · cases h; exact ⟨_, Try.func3, TTeachDiffers.c3⟩
  · cases h; exact ⟨_, Try.func4, TTeachDiffers.c4⟩
  · cases h; exact ⟨_, Try.func5, TTeachDiffers.c5⟩
  · cases h; exact ⟨_, Try.func6, TTeachDiffers.c6⟩
  · cases h; exact ⟨_, Try.func7, TTeachDiffers.c7⟩
  · cases h; exact ⟨_, Try.func8, TTeachDiffers.c8⟩
  · cases h; exact ⟨_, Try.func9, TTeachDiffers.c9⟩
  · cases h; exact ⟨_, Try.func10, TTeachDiffers.c10⟩
  · cases h; exact ⟨_, Try.func11, TTeachDiffers.c11⟩
  · cases h; exact ⟨_, Try.func12, TTeachDiffers.c12⟩
  · cases h; exact ⟨_, Try.func13, TTeachDiffers.c13⟩
  · cases h; exact ⟨_, Try.func14, TTeachDiffers.c14⟩
  · cases h; exact ⟨_, Try.func15, TTeachDiffers.c15⟩
  · cases h; exact ⟨_, Try.func16, TTeachDiffers.c16⟩
  · cases h; exact ⟨_, Try.func17, TTeachDiffers.c17⟩
  · cases h; exact ⟨_, Try.func18, TTeachDiffers.c18⟩
  · cases h; exact ⟨_, Try.func19, TTeachDiffers.c19⟩
  · cases h; exact ⟨_, Try.func20, TTeachDiffers.c20⟩
  · cases h; exact ⟨_, Try.func21, TTeachDiffers.c21⟩
  · cases h; exact ⟨_, Try.func22, TTeachDiffers.c22⟩
  · cases h; exact ⟨_, Try.func23, TTeachDiffers.c23⟩
  · cases h; exact ⟨_, Try.func24, TTeachDiffers.c24⟩
  · cases h; exact ⟨_, Try.func25, TTeachDiffers.c25⟩
  · cases h; exact ⟨_, Try.func26, TTeachDiffers.c26⟩
  · cases h; exact ⟨_, Try.func27, TTeachDiffers.c27⟩
  · cases h; exact ⟨_, Try.func28, TTeachDiffers.c28⟩
  · cases h; exact ⟨_, Try.func29, TTeachDiffers.c29⟩
  · cases h; exact ⟨_, Try.func30, TTeachDiffers.c30⟩
  · cases h; exact ⟨_, Try.func31, TTeachDiffers.c31⟩
  · cases h; exact ⟨_, Try.func32, TTeachDiffers.c32⟩
  · cases h
instance : Has TTeachDiffers I.parlkeep5_TeachDiffers F.parlkeep5_TeachDiffers := ⟨rfl⟩
instance : Has TTeachDiffers I.parlmake_Dfa F.parlmake_Dfa := ⟨rfl⟩
instance : Has TTeachDiffers I.teach_New F.teach_New := ⟨rfl⟩
instance : Has TTeachDiffers I.parlkeep5_ends F.parlkeep5_ends := ⟨rfl⟩
instance : Has TTeachDiffers I.teach_Teacher_Symbols F.teach_Teacher_Symbols := ⟨rfl⟩
instance : Has TTeachDiffers I.mini_Min F.mini_Min := ⟨rfl⟩
instance : Has TTeachDiffers I.teach_Teacher_Equal F.teach_Teacher_Equal := ⟨rfl⟩
instance : Has TTeachDiffers I.parlkeep5_accepts F.parlkeep5_accepts := ⟨rfl⟩
instance : Has TTeachDiffers I.parlkeep5_words F.parlkeep5_words := ⟨rfl⟩
instance : Has TTeachDiffers I.slices_Equal_int_int F.slices_Equal_int_int := ⟨rfl⟩
instance : Has TTeachDiffers I.parlmake_stream_next F.parlmake_stream_next := ⟨rfl⟩
instance : Has TTeachDiffers I.dfa_Check F.dfa_Check := ⟨rfl⟩
instance : Has TTeachDiffers I.mini_complete F.mini_complete := ⟨rfl⟩
instance : Has TTeachDiffers I.mini_hopcroft F.mini_hopcroft := ⟨rfl⟩
instance : Has TTeachDiffers I.slices_Repeat_int_int F.slices_Repeat_int_int := ⟨rfl⟩
instance : Has TTeachDiffers I.teach_Differ F.teach_Differ := ⟨rfl⟩
instance : Has TTeachDiffers I.dfa_Run F.dfa_Run := ⟨rfl⟩
instance : Has TTeachDiffers I.slices_Clone_int_int F.slices_Clone_int_int := ⟨rfl⟩
instance : Has TTeachDiffers I.parlmake_Below F.parlmake_Below := ⟨rfl⟩
instance : Has TTeachDiffers I.mini_begin F.mini_begin := ⟨rfl⟩
instance : Has TTeachDiffers I.mini_parts_split F.mini_parts_split := ⟨rfl⟩
instance : Has TTeachDiffers I.slices_Contains_mini_task_mini_task F.slices_Contains_mini_task_mini_task := ⟨rfl⟩
instance : Has TTeachDiffers I.math_bits_Mul F.math_bits_Mul := ⟨rfl⟩
instance : Has TTeachDiffers I.teach_way F.teach_way := ⟨rfl⟩
instance : Has TTeachDiffers I.teach_step F.teach_step := ⟨rfl⟩
instance : Has TTeachDiffers I.slices_Contains_int_int F.slices_Contains_int_int := ⟨rfl⟩
instance : Has TTeachDiffers I.slices_Index_mini_task_mini_task F.slices_Index_mini_task_mini_task := ⟨rfl⟩
instance : Has TTeachDiffers I.math_bits_Mul32 F.math_bits_Mul32 := ⟨rfl⟩
instance : Has TTeachDiffers I.math_bits_Mul64 F.math_bits_Mul64 := ⟨rfl⟩
instance : Has TTeachDiffers I.slices_Index_int_int F.slices_Index_int_int := ⟨rfl⟩
end Go.Proofs.Ytmlnknngpdnepaa
