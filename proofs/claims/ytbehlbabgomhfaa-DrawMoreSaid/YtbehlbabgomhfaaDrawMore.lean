/- The law DrawMore of the abstract code, printed by wip/tools/fin.py. Own work. -/
import Derived.Test.YtbehlbabgomhfaaSl10
import Derived.Test.YtbehlbabgomhfaaX
import Derived.Test.YtbehlbabgomhfaaTDrawMore
import Derived.Test.YtbehlbabgomhfaaQDrawMore
namespace Go.Proofs.Ytbehlbabgomhfaa
open Go Go.Ab
theorem nt_parlmake_Below : Nd.parlmake_Below TDrawMore := ⟨inferInstance⟩
theorem nt_parlkeep5_below : Nd.parlkeep5_below TDrawMore := ⟨inferInstance, nt_parlmake_Below⟩
theorem nt_draw_Number : Nd.draw_Number TDrawMore := ⟨inferInstance⟩
theorem nt_slices_Grow_bool_bool__nil : Nd.slices_Grow_bool_bool__nil TDrawMore := ⟨inferInstance⟩
theorem nt_slices_Concat_bool_bool : Nd.slices_Concat_bool_bool TDrawMore := ⟨inferInstance, nt_slices_Grow_bool_bool__nil⟩
theorem nt_parlkeep5_DrawMore : Nd.parlkeep5_DrawMore TDrawMore := ⟨inferInstance, nt_parlkeep5_below, nt_draw_Number, nt_slices_Concat_bool_bool⟩
theorem drawMore_law {H : Hp} (a0 : Int) {w1 : Value} {a1 : (List Bool)} (h1 : Rd H w1 (a1.map .bool)) (l1 : a1.length ≤ 140737488355328) {w2 : Value} {a2 : (List Bool)} (h2 : Rd H w2 (a2.map .bool)) (l2 : a2.length ≤ 140737488355328) : G TDrawMore I.parlkeep5_DrawMore [vi a0, w1, w2] H (fun r _ => r = .bool true) := by
  obtain ⟨φ, hφ⟩ := Gr.drawMore_plain a0 a1 a2 l1 l2
  exact law_of (X.parlkeep5_DrawMore nt_parlkeep5_DrawMore (φ := φ) (Sat.nil (PH.le.refl _) (PH.le.refl _)) (rds_bool h1 l1) (rds_bool h2 l2) hφ) rfl
end Go.Proofs.Ytbehlbabgomhfaa
