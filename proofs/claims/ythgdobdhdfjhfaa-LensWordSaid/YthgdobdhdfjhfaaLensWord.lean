/- The law LensWord of the abstract code, printed by wip/tools/fin.py. Own work. -/
import Derived.Test.YthgdobdhdfjhfaaSl10
import Derived.Test.YthgdobdhdfjhfaaX
import Derived.Test.YthgdobdhdfjhfaaTLensWord
import Derived.Test.YthgdobdhdfjhfaaQLensWord
namespace Go.Proofs.Ythgdobdhdfjhfaa
open Go Go.Ab
theorem nt_parlmake_Below : Nd.parlmake_Below TLensWord := ⟨inferInstance⟩
theorem nt_parlmake_stream_next : Nd.parlmake_stream_next TLensWord := ⟨inferInstance, nt_parlmake_Below⟩
theorem nt_parlmake_has : Nd.parlmake_has TLensWord := ⟨inferInstance⟩
theorem nt_parlmake_Grammar : Nd.parlmake_Grammar TLensWord := ⟨inferInstance, nt_parlmake_stream_next, nt_parlmake_has⟩
theorem nt_parlkeep5_plain : Nd.parlkeep5_plain TLensWord := ⟨inferInstance⟩
theorem nt_cmp_isNaN_int : Nd.cmp_isNaN_int TLensWord := ⟨inferInstance⟩
theorem nt_cmp_Compare_int : Nd.cmp_Compare_int TLensWord := ⟨inferInstance, nt_cmp_isNaN_int⟩
theorem nt_gram_Order : Nd.gram_Order TLensWord := ⟨inferInstance, nt_cmp_Compare_int⟩
theorem nt_slices_CompareFunc_api_Sym_api_Sym_api_Sym_api_Sym__gram_Order : Nd.slices_CompareFunc_api_Sym_api_Sym_api_Sym_api_Sym__gram_Order TLensWord := ⟨inferInstance, nt_gram_Order⟩
theorem nt_gram_Compare : Nd.gram_Compare TLensWord := ⟨inferInstance, nt_cmp_Compare_int, nt_slices_CompareFunc_api_Sym_api_Sym_api_Sym_api_Sym__gram_Order⟩
theorem nt_gram_Check : Nd.gram_Check TLensWord := ⟨inferInstance, nt_gram_Compare⟩
theorem nt_lens_total : Nd.lens_total TLensWord := ⟨inferInstance⟩
theorem nt_lens_Greatest_1 : Nd.lens_Greatest_1 TLensWord := ⟨inferInstance, nt_lens_total⟩
theorem nt_lens_square : Nd.lens_square TLensWord := ⟨inferInstance⟩
theorem nt_lens_endless : Nd.lens_endless TLensWord := ⟨inferInstance, nt_lens_square, nt_lens_total⟩
theorem nt_lens_Greatest : Nd.lens_Greatest TLensWord := ⟨inferInstance, nt_gram_Check, nt_lens_Greatest_1, nt_lens_endless⟩
theorem nt_lens_sums : Nd.lens_sums TLensWord := ⟨inferInstance⟩
theorem nt_lens_Set : Nd.lens_Set TLensWord := ⟨inferInstance, nt_gram_Check, nt_lens_sums⟩
theorem nt_slices_Index_bool_bool : Nd.slices_Index_bool_bool TLensWord := ⟨inferInstance⟩
theorem nt_slices_Contains_bool_bool : Nd.slices_Contains_bool_bool TLensWord := ⟨inferInstance, nt_slices_Index_bool_bool⟩
theorem nt_parlmake_tree : Nd.parlmake_tree TLensWord := ⟨inferInstance, nt_parlmake_stream_next⟩
theorem nt_parlmake_Tree : Nd.parlmake_Tree TLensWord := ⟨inferInstance, nt_parlmake_tree⟩
theorem nt_tree_leaf : Nd.tree_leaf TLensWord := ⟨inferInstance⟩
theorem nt_tree_word : Nd.tree_word TLensWord := ⟨inferInstance, nt_tree_leaf⟩
theorem nt_tree_Word : Nd.tree_Word TLensWord := ⟨inferInstance, nt_tree_word⟩
theorem nt_parlkeep5_LensWord : Nd.parlkeep5_LensWord TLensWord := ⟨inferInstance, nt_parlmake_Grammar, nt_parlkeep5_plain, nt_lens_Greatest, nt_lens_Set, nt_slices_Contains_bool_bool, nt_parlmake_Tree, nt_tree_Word⟩
theorem lensWord_law {H : Hp} {w1 : Value} {a0 : (List Int)} (h1 : Rd H w1 (a0.map vi)) (l1 : a0.length ≤ 17592186044416) {w2 : Value} {a1 : (List Int)} (h2 : Rd H w2 (a1.map vi)) (l2 : a1.length ≤ 17592186044416) : G TLensWord I.parlkeep5_LensWord [w1, w2] H (fun r _ => r = .bool true) :=
  law_of (X.parlkeep5_LensWord nt_parlkeep5_LensWord (φ := 10000) (Sat.nil (PH.le.refl _) (PH.le.refl _)) (rds_int h1 l1) (rds_int h2 l2) (Gr.lensWord_plain a0 a1)) rfl
end Go.Proofs.Ythgdobdhdfjhfaa
