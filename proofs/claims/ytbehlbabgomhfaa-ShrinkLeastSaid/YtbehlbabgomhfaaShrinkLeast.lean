/- The law ShrinkLeast of the abstract code, printed by wip/tools/fin.py. Own work. -/
import Derived.Test.YtbehlbabgomhfaaSl10
import Derived.Test.YtbehlbabgomhfaaX
import Derived.Test.YtbehlbabgomhfaaTShrinkLeast
import Derived.Test.YtbehlbabgomhfaaQShrinkLeast
namespace Go.Proofs.Ytbehlbabgomhfaa
open Go Go.Ab
theorem nt_parlmake_Below : Nd.parlmake_Below TShrinkLeast := ⟨inferInstance⟩
theorem nt_parlmake_Word : Nd.parlmake_Word TShrinkLeast := ⟨inferInstance, nt_parlmake_Below⟩
theorem nt_shrink_without : Nd.shrink_without TShrinkLeast := ⟨inferInstance⟩
theorem nt_slices_Index_int_int : Nd.slices_Index_int_int TShrinkLeast := ⟨inferInstance⟩
theorem nt_slices_Contains_int_int : Nd.slices_Contains_int_int TShrinkLeast := ⟨inferInstance, nt_slices_Index_int_int⟩
theorem nt_parlkeep5_ShrinkLeast_1 : Nd.parlkeep5_ShrinkLeast_1 TShrinkLeast := ⟨inferInstance, nt_slices_Contains_int_int⟩
theorem nt_shrink_Word__parlkeep5_ShrinkLeast_1 : Nd.shrink_Word__parlkeep5_ShrinkLeast_1 TShrinkLeast := ⟨inferInstance, nt_shrink_without, nt_parlkeep5_ShrinkLeast_1⟩
theorem nt_slices_Equal_int_int : Nd.slices_Equal_int_int TShrinkLeast := ⟨inferInstance⟩
theorem nt_parlkeep5_below : Nd.parlkeep5_below TShrinkLeast := ⟨inferInstance, nt_parlmake_Below⟩
theorem nt_parlkeep5_fails : Nd.parlkeep5_fails TShrinkLeast := ⟨inferInstance, nt_parlkeep5_below⟩
theorem nt_parlkeep5_fails_1 : Nd.parlkeep5_fails_1 TShrinkLeast := ⟨inferInstance⟩
theorem nt_shrink_Word__parlkeep5_fails_1 : Nd.shrink_Word__parlkeep5_fails_1 TShrinkLeast := ⟨inferInstance, nt_shrink_without, nt_parlkeep5_fails_1⟩
theorem nt_slices_Grow_int_int__nil : Nd.slices_Grow_int_int__nil TShrinkLeast := ⟨inferInstance⟩
theorem nt_slices_Concat_int_int : Nd.slices_Concat_int_int TShrinkLeast := ⟨inferInstance, nt_slices_Grow_int_int__nil⟩
theorem nt_parlkeep5_ShrinkLeast : Nd.parlkeep5_ShrinkLeast TShrinkLeast := ⟨inferInstance, nt_parlmake_Word, nt_shrink_Word__parlkeep5_ShrinkLeast_1, nt_slices_Equal_int_int, nt_parlkeep5_fails, nt_shrink_Word__parlkeep5_fails_1, nt_parlkeep5_fails_1, nt_slices_Concat_int_int⟩
theorem shrinkLeast_law {H : Hp} {w1 : Value} {a0 : (List Int)} (h1 : Rd H w1 (a0.map vi)) (l1 : a0.length ≤ 17592186044416) (a1 : Int) (a2 : Int) : G TShrinkLeast I.parlkeep5_ShrinkLeast [w1, vi a1, vi a2] H (fun r _ => r = .bool true) :=
  law_of (X.parlkeep5_ShrinkLeast nt_parlkeep5_ShrinkLeast (φ := 10000) (Sat.nil (PH.le.refl _) (PH.le.refl _)) (rds_int h1 l1) (Gr.shrinkLeast_plain a0 a1 a2)) rfl
end Go.Proofs.Ytbehlbabgomhfaa
