/- The law ShrinkTree of the abstract code, printed by wip/tools/fin.py. Own work. -/
import Derived.Test.YthgdobdhdfjhfaaSl10
import Derived.Test.YthgdobdhdfjhfaaX
import Derived.Test.YthgdobdhdfjhfaaTShrinkTree
import Derived.Test.YthgdobdhdfjhfaaQShrinkTree
namespace Go.Proofs.Ythgdobdhdfjhfaa
open Go Go.Ab
theorem nt_parlmake_Below : Nd.parlmake_Below TShrinkTree := ⟨inferInstance⟩
theorem nt_parlmake_stream_next : Nd.parlmake_stream_next TShrinkTree := ⟨inferInstance, nt_parlmake_Below⟩
theorem nt_parlmake_has : Nd.parlmake_has TShrinkTree := ⟨inferInstance⟩
theorem nt_parlmake_Grammar : Nd.parlmake_Grammar TShrinkTree := ⟨inferInstance, nt_parlmake_stream_next, nt_parlmake_has⟩
theorem nt_parlkeep5_plain : Nd.parlkeep5_plain TShrinkTree := ⟨inferInstance⟩
theorem nt_cmp_isNaN_int : Nd.cmp_isNaN_int TShrinkTree := ⟨inferInstance⟩
theorem nt_cmp_Compare_int : Nd.cmp_Compare_int TShrinkTree := ⟨inferInstance, nt_cmp_isNaN_int⟩
theorem nt_gram_Order : Nd.gram_Order TShrinkTree := ⟨inferInstance, nt_cmp_Compare_int⟩
theorem nt_slices_CompareFunc_api_Sym_api_Sym_api_Sym_api_Sym__gram_Order : Nd.slices_CompareFunc_api_Sym_api_Sym_api_Sym_api_Sym__gram_Order TShrinkTree := ⟨inferInstance, nt_gram_Order⟩
theorem nt_gram_Compare : Nd.gram_Compare TShrinkTree := ⟨inferInstance, nt_cmp_Compare_int, nt_slices_CompareFunc_api_Sym_api_Sym_api_Sym_api_Sym__gram_Order⟩
theorem nt_gram_Check : Nd.gram_Check TShrinkTree := ⟨inferInstance, nt_gram_Compare⟩
theorem nt_tree_leaf : Nd.tree_leaf TShrinkTree := ⟨inferInstance⟩
theorem nt_tree_Size : Nd.tree_Size TShrinkTree := ⟨inferInstance, nt_tree_leaf⟩
theorem nt_tree_symbol : Nd.tree_symbol TShrinkTree := ⟨inferInstance, nt_tree_leaf⟩
theorem nt_tree_valid : Nd.tree_valid TShrinkTree := ⟨inferInstance, nt_tree_symbol, nt_tree_leaf⟩
theorem nt_tree_Check : Nd.tree_Check TShrinkTree := ⟨inferInstance, nt_gram_Check, nt_tree_Size, nt_tree_valid⟩
theorem nt_slices_Clone_api_Tree_api_Tree : Nd.slices_Clone_api_Tree_api_Tree TShrinkTree := ⟨inferInstance⟩
theorem nt_tree_Clone : Nd.tree_Clone TShrinkTree := ⟨inferInstance, nt_slices_Clone_api_Tree_api_Tree⟩
theorem nt_shrink_below : Nd.shrink_below TShrinkTree := ⟨inferInstance, nt_tree_Clone⟩
theorem nt_shrink_Smaller : Nd.shrink_Smaller TShrinkTree := ⟨inferInstance, nt_tree_Check, nt_tree_Size, nt_shrink_below, nt_tree_Clone⟩
theorem nt_parlmake_tree : Nd.parlmake_tree TShrinkTree := ⟨inferInstance, nt_parlmake_stream_next⟩
theorem nt_parlmake_Tree : Nd.parlmake_Tree TShrinkTree := ⟨inferInstance, nt_parlmake_tree⟩
theorem nt_parlkeep5_below : Nd.parlkeep5_below TShrinkTree := ⟨inferInstance, nt_parlmake_Below⟩
theorem nt_tree_word : Nd.tree_word TShrinkTree := ⟨inferInstance, nt_tree_leaf⟩
theorem nt_tree_Word : Nd.tree_Word TShrinkTree := ⟨inferInstance, nt_tree_word⟩
theorem nt_parlkeep5_ShrinkTree_1 : Nd.parlkeep5_ShrinkTree_1 TShrinkTree := ⟨inferInstance, nt_tree_Word, nt_tree_Size⟩
theorem nt_shrink_Tree__parlkeep5_ShrinkTree_1 : Nd.shrink_Tree__parlkeep5_ShrinkTree_1 TShrinkTree := ⟨inferInstance, nt_tree_Check, nt_tree_Size, nt_tree_Clone, nt_parlkeep5_ShrinkTree_1, nt_shrink_Smaller⟩
theorem nt_parlkeep5_ShrinkTree : Nd.parlkeep5_ShrinkTree TShrinkTree := ⟨inferInstance, nt_parlmake_Grammar, nt_parlkeep5_plain, nt_shrink_Smaller, nt_parlmake_Tree, nt_tree_Size, nt_parlkeep5_below, nt_shrink_Tree__parlkeep5_ShrinkTree_1, nt_parlkeep5_ShrinkTree_1, nt_tree_Check⟩
theorem shrinkTree_law {H : Hp} {w1 : Value} {a0 : (List Int)} (h1 : Rd H w1 (a0.map vi)) (l1 : a0.length ≤ 17592186044416) {w2 : Value} {a1 : (List Int)} (h2 : Rd H w2 (a1.map vi)) (l2 : a1.length ≤ 17592186044416) (a2 : Int) : G TShrinkTree I.parlkeep5_ShrinkTree [w1, w2, vi a2] H (fun r _ => r = .bool true) :=
  law_of (X.parlkeep5_ShrinkTree nt_parlkeep5_ShrinkTree (φ := 1000) (Sat.nil (PH.le.refl _) (PH.le.refl _)) (rds_int h1 l1) (rds_int h2 l2) (Gr.shrinkTree_plain a0 a1 a2)) rfl
end Go.Proofs.Ythgdobdhdfjhfaa
