/- The law DrawEach of the abstract code, printed by wip/tools/fin.py. Own work. -/
import Derived.Test.YtbehlbabgomhfaaSl10
import Derived.Test.YtbehlbabgomhfaaX
import Derived.Test.YtbehlbabgomhfaaTDrawEach
import Derived.Test.YtbehlbabgomhfaaQDrawEach
namespace Go.Proofs.Ytbehlbabgomhfaa
open Go Go.Ab
theorem nt_parlmake_Below : Nd.parlmake_Below TDrawEach := ⟨inferInstance⟩
theorem nt_parlkeep5_below : Nd.parlkeep5_below TDrawEach := ⟨inferInstance, nt_parlmake_Below⟩
theorem nt_draw_Number : Nd.draw_Number TDrawEach := ⟨inferInstance⟩
theorem nt_draw_Order : Nd.draw_Order TDrawEach := ⟨inferInstance, nt_draw_Number⟩
theorem nt_slices_Clone_bool_bool : Nd.slices_Clone_bool_bool TDrawEach := ⟨inferInstance⟩
theorem nt_parlkeep5_coins : Nd.parlkeep5_coins TDrawEach := ⟨inferInstance, nt_slices_Clone_bool_bool⟩
theorem nt_slices_Clone_int_int : Nd.slices_Clone_int_int TDrawEach := ⟨inferInstance⟩
theorem nt_math_bits_Len64 : Nd.math_bits_Len64 TDrawEach := ⟨inferInstance⟩
theorem nt_math_bits_Len : Nd.math_bits_Len TDrawEach := ⟨inferInstance, nt_math_bits_Len64⟩
theorem nt_cmp_isNaN_int : Nd.cmp_isNaN_int TDrawEach := ⟨inferInstance⟩
theorem nt_cmp_Less_int : Nd.cmp_Less_int TDrawEach := ⟨inferInstance, nt_cmp_isNaN_int⟩
theorem nt_slices_insertionSortOrdered_int : Nd.slices_insertionSortOrdered_int TDrawEach := ⟨inferInstance, nt_cmp_Less_int⟩
theorem nt_slices_pdqsortOrdered_int : Nd.slices_pdqsortOrdered_int TDrawEach := ⟨inferInstance, nt_slices_insertionSortOrdered_int⟩
theorem nt_slices_Sort_int_int : Nd.slices_Sort_int_int TDrawEach := ⟨inferInstance, nt_math_bits_Len, nt_slices_pdqsortOrdered_int⟩
theorem nt_parlkeep5_DrawEach : Nd.parlkeep5_DrawEach TDrawEach := ⟨inferInstance, nt_parlkeep5_below, nt_draw_Order, nt_parlkeep5_coins, nt_slices_Clone_int_int, nt_slices_Sort_int_int⟩
theorem drawEach_law {H : Hp} (a0 : Int) (a1 : Int) : G TDrawEach I.parlkeep5_DrawEach [vi a0, vi a1] H (fun r _ => r = .bool true) :=
  law_of (X.parlkeep5_DrawEach nt_parlkeep5_DrawEach (φ := 1000) (Sat.nil (PH.le.refl _) (PH.le.refl _))  (Gr.drawEach_plain a0 a1)) rfl
end Go.Proofs.Ytbehlbabgomhfaa
