/- The law TeachDiffers of the abstract code, printed by wip/tools/fin.py. Own work. -/
import Derived.Test.YtmlnknngpdnepaaSl10
import Derived.Test.YtmlnknngpdnepaaX
import Derived.Test.YtmlnknngpdnepaaTTeachDiffers
import Derived.Test.YtmlnknngpdnepaaQTeachDiffers
namespace Go.Proofs.Ytmlnknngpdnepaa
open Go Go.Ab
theorem nt_parlmake_Below : Nd.parlmake_Below TTeachDiffers := ⟨inferInstance⟩
theorem nt_parlmake_stream_next : Nd.parlmake_stream_next TTeachDiffers := ⟨inferInstance, nt_parlmake_Below⟩
theorem nt_parlmake_Dfa : Nd.parlmake_Dfa TTeachDiffers := ⟨inferInstance, nt_parlmake_stream_next⟩
theorem nt_parlkeep5_ends : Nd.parlkeep5_ends TTeachDiffers := ⟨inferInstance⟩
theorem nt_dfa_Check : Nd.dfa_Check TTeachDiffers := ⟨inferInstance⟩
theorem nt_teach_New : Nd.teach_New TTeachDiffers := ⟨inferInstance, nt_dfa_Check⟩
theorem nt_teach_Teacher_Symbols : Nd.teach_Teacher_Symbols TTeachDiffers := ⟨inferInstance⟩
theorem nt_slices_Clone_int_int : Nd.slices_Clone_int_int TTeachDiffers := ⟨inferInstance⟩
theorem nt_math_bits_Mul64 : Nd.math_bits_Mul64 TTeachDiffers := ⟨inferInstance⟩
theorem nt_math_bits_Mul : Nd.math_bits_Mul TTeachDiffers := ⟨inferInstance, nt_math_bits_Mul64⟩
theorem nt_slices_Repeat_int_int : Nd.slices_Repeat_int_int TTeachDiffers := ⟨inferInstance, nt_math_bits_Mul⟩
theorem nt_mini_complete : Nd.mini_complete TTeachDiffers := ⟨inferInstance, nt_slices_Clone_int_int, nt_slices_Repeat_int_int⟩
theorem nt_mini_begin : Nd.mini_begin TTeachDiffers := ⟨inferInstance⟩
theorem nt_slices_Index_int_int : Nd.slices_Index_int_int TTeachDiffers := ⟨inferInstance⟩
theorem nt_slices_Contains_int_int : Nd.slices_Contains_int_int TTeachDiffers := ⟨inferInstance, nt_slices_Index_int_int⟩
theorem nt_mini_parts_split : Nd.mini_parts_split TTeachDiffers := ⟨inferInstance, nt_slices_Contains_int_int⟩
theorem nt_slices_Index_mini_task_mini_task : Nd.slices_Index_mini_task_mini_task TTeachDiffers := ⟨inferInstance⟩
theorem nt_slices_Contains_mini_task_mini_task : Nd.slices_Contains_mini_task_mini_task TTeachDiffers := ⟨inferInstance, nt_slices_Index_mini_task_mini_task⟩
theorem nt_mini_hopcroft : Nd.mini_hopcroft TTeachDiffers := ⟨inferInstance, nt_mini_begin, nt_mini_parts_split, nt_slices_Contains_mini_task_mini_task⟩
theorem nt_mini_Min : Nd.mini_Min TTeachDiffers := ⟨inferInstance, nt_dfa_Check, nt_mini_complete, nt_mini_hopcroft, nt_slices_Repeat_int_int⟩
theorem nt_teach_way : Nd.teach_way TTeachDiffers := ⟨inferInstance⟩
theorem nt_teach_step : Nd.teach_step TTeachDiffers := ⟨inferInstance⟩
theorem nt_teach_Differ : Nd.teach_Differ TTeachDiffers := ⟨inferInstance, nt_dfa_Check, nt_teach_way, nt_teach_step⟩
theorem nt_teach_Teacher_Equal : Nd.teach_Teacher_Equal TTeachDiffers := ⟨inferInstance, nt_dfa_Check, nt_teach_Teacher_Symbols, nt_teach_Differ⟩
theorem nt_dfa_Run : Nd.dfa_Run TTeachDiffers := ⟨inferInstance, nt_dfa_Check⟩
theorem nt_parlkeep5_accepts : Nd.parlkeep5_accepts TTeachDiffers := ⟨inferInstance, nt_dfa_Run⟩
theorem nt_parlkeep5_words : Nd.parlkeep5_words TTeachDiffers := ⟨inferInstance, nt_slices_Clone_int_int⟩
theorem nt_slices_Equal_int_int : Nd.slices_Equal_int_int TTeachDiffers := ⟨inferInstance⟩
theorem nt_parlkeep5_TeachDiffers : Nd.parlkeep5_TeachDiffers TTeachDiffers := ⟨inferInstance, nt_parlmake_Dfa, nt_parlkeep5_ends, nt_teach_New, nt_teach_Teacher_Symbols, nt_mini_Min, nt_teach_Teacher_Equal, nt_parlkeep5_accepts, nt_parlkeep5_words, nt_slices_Equal_int_int⟩
theorem teachDiffers_law {H : Hp} {w1 : Value} {a0 : (List Int)} (h1 : Rd H w1 (a0.map vi)) (l1 : a0.length ≤ 17592186044416) {w2 : Value} {a1 : (List Int)} (h2 : Rd H w2 (a1.map vi)) (l2 : a1.length ≤ 17592186044416) : G TTeachDiffers I.parlkeep5_TeachDiffers [w1, w2] H (fun r _ => r = .bool true) := by
  obtain ⟨φ, hφ⟩ := Gr.teachDiffers_plain a0 a1
  exact law_of (X.parlkeep5_TeachDiffers nt_parlkeep5_TeachDiffers (φ := φ) (Sat.nil (PH.le.refl _) (PH.le.refl _)) (rds_int h1 l1) (rds_int h2 l2) hφ) rfl
end Go.Proofs.Ytmlnknngpdnepaa
