/- The law ShrinkAgain of the abstract code, printed by wip/tools/fin.py. Own work. -/
import Derived.Test.YtbehlbabgomhfaaSl10
import Derived.Test.YtbehlbabgomhfaaX
import Derived.Test.YtbehlbabgomhfaaTShrinkAgain
import Derived.Test.YtbehlbabgomhfaaQShrinkAgain
namespace Go.Proofs.Ytbehlbabgomhfaa
open Go Go.Ab
theorem nt_parlmake_Below : Nd.parlmake_Below TShrinkAgain := ⟨inferInstance⟩
theorem nt_parlmake_Word : Nd.parlmake_Word TShrinkAgain := ⟨inferInstance, nt_parlmake_Below⟩
theorem nt_shrink_without : Nd.shrink_without TShrinkAgain := ⟨inferInstance⟩
theorem nt_slices_Index_int_int : Nd.slices_Index_int_int TShrinkAgain := ⟨inferInstance⟩
theorem nt_slices_Contains_int_int : Nd.slices_Contains_int_int TShrinkAgain := ⟨inferInstance, nt_slices_Index_int_int⟩
theorem nt_parlkeep5_ShrinkAgain_1 : Nd.parlkeep5_ShrinkAgain_1 TShrinkAgain := ⟨inferInstance, nt_slices_Contains_int_int⟩
theorem nt_shrink_Word__parlkeep5_ShrinkAgain_1 : Nd.shrink_Word__parlkeep5_ShrinkAgain_1 TShrinkAgain := ⟨inferInstance, nt_shrink_without, nt_parlkeep5_ShrinkAgain_1⟩
theorem nt_slices_Equal_int_int : Nd.slices_Equal_int_int TShrinkAgain := ⟨inferInstance⟩
theorem nt_parlkeep5_below : Nd.parlkeep5_below TShrinkAgain := ⟨inferInstance, nt_parlmake_Below⟩
theorem nt_parlkeep5_fails : Nd.parlkeep5_fails TShrinkAgain := ⟨inferInstance, nt_parlkeep5_below⟩
theorem nt_parlkeep5_fails_1 : Nd.parlkeep5_fails_1 TShrinkAgain := ⟨inferInstance⟩
theorem nt_shrink_Word__parlkeep5_fails_1 : Nd.shrink_Word__parlkeep5_fails_1 TShrinkAgain := ⟨inferInstance, nt_shrink_without, nt_parlkeep5_fails_1⟩
theorem nt_shrink_Lower__parlkeep5_fails_1 : Nd.shrink_Lower__parlkeep5_fails_1 TShrinkAgain := ⟨inferInstance, nt_shrink_without, nt_parlkeep5_fails_1⟩
theorem nt_cmp_isNaN_int : Nd.cmp_isNaN_int TShrinkAgain := ⟨inferInstance⟩
theorem nt_cmp_Compare_int : Nd.cmp_Compare_int TShrinkAgain := ⟨inferInstance, nt_cmp_isNaN_int⟩
theorem nt_slices_Compare_int_int : Nd.slices_Compare_int_int TShrinkAgain := ⟨inferInstance, nt_cmp_Compare_int⟩
theorem nt_parlkeep5_ShrinkAgain : Nd.parlkeep5_ShrinkAgain TShrinkAgain := ⟨inferInstance, nt_parlmake_Word, nt_shrink_Word__parlkeep5_ShrinkAgain_1, nt_slices_Equal_int_int, nt_parlkeep5_fails, nt_parlkeep5_fails_1, nt_shrink_Word__parlkeep5_fails_1, nt_shrink_Lower__parlkeep5_fails_1, nt_slices_Compare_int_int⟩
theorem shrinkAgain_law {H : Hp} {w1 : Value} {a0 : (List Int)} (h1 : Rd H w1 (a0.map vi)) (l1 : a0.length ≤ 17592186044416) (a1 : Int) (a2 : Int) : G TShrinkAgain I.parlkeep5_ShrinkAgain [w1, vi a1, vi a2] H (fun r _ => r = .bool true) :=
  law_of (X.parlkeep5_ShrinkAgain nt_parlkeep5_ShrinkAgain (φ := 100000) (Sat.nil (PH.le.refl _) (PH.le.refl _)) (rds_int h1 l1) (Gr.shrinkAgain_plain a0 a1 a2)) rfl
end Go.Proofs.Ytbehlbabgomhfaa
