/- The law LensLonger of the abstract code, printed by wip/tools/fin.py. Own work. -/
import Derived.Test.YthgdobdhdfjhfaaSl10
import Derived.Test.YthgdobdhdfjhfaaX
import Derived.Test.YthgdobdhdfjhfaaTLensLonger
import Derived.Test.YthgdobdhdfjhfaaQLensLonger
namespace Go.Proofs.Ythgdobdhdfjhfaa
open Go Go.Ab
theorem nt_parlmake_Below : Nd.parlmake_Below TLensLonger := ⟨inferInstance⟩
theorem nt_parlmake_stream_next : Nd.parlmake_stream_next TLensLonger := ⟨inferInstance, nt_parlmake_Below⟩
theorem nt_parlmake_has : Nd.parlmake_has TLensLonger := ⟨inferInstance⟩
theorem nt_parlmake_Grammar : Nd.parlmake_Grammar TLensLonger := ⟨inferInstance, nt_parlmake_stream_next, nt_parlmake_has⟩
theorem nt_parlkeep5_below : Nd.parlkeep5_below TLensLonger := ⟨inferInstance, nt_parlmake_Below⟩
theorem nt_parlkeep5_plain : Nd.parlkeep5_plain TLensLonger := ⟨inferInstance⟩
theorem nt_cmp_isNaN_int : Nd.cmp_isNaN_int TLensLonger := ⟨inferInstance⟩
theorem nt_cmp_Compare_int : Nd.cmp_Compare_int TLensLonger := ⟨inferInstance, nt_cmp_isNaN_int⟩
theorem nt_gram_Order : Nd.gram_Order TLensLonger := ⟨inferInstance, nt_cmp_Compare_int⟩
theorem nt_slices_CompareFunc_api_Sym_api_Sym_api_Sym_api_Sym__gram_Order : Nd.slices_CompareFunc_api_Sym_api_Sym_api_Sym_api_Sym__gram_Order TLensLonger := ⟨inferInstance, nt_gram_Order⟩
theorem nt_gram_Compare : Nd.gram_Compare TLensLonger := ⟨inferInstance, nt_cmp_Compare_int, nt_slices_CompareFunc_api_Sym_api_Sym_api_Sym_api_Sym__gram_Order⟩
theorem nt_gram_Check : Nd.gram_Check TLensLonger := ⟨inferInstance, nt_gram_Compare⟩
theorem nt_lens_sums : Nd.lens_sums TLensLonger := ⟨inferInstance⟩
theorem nt_lens_Set : Nd.lens_Set TLensLonger := ⟨inferInstance, nt_gram_Check, nt_lens_sums⟩
theorem nt_slices_Clone_api_Rule_api_Rule : Nd.slices_Clone_api_Rule_api_Rule TLensLonger := ⟨inferInstance⟩
theorem nt_lens_total : Nd.lens_total TLensLonger := ⟨inferInstance⟩
theorem nt_lens_Greatest_1 : Nd.lens_Greatest_1 TLensLonger := ⟨inferInstance, nt_lens_total⟩
theorem nt_lens_square : Nd.lens_square TLensLonger := ⟨inferInstance⟩
theorem nt_lens_endless : Nd.lens_endless TLensLonger := ⟨inferInstance, nt_lens_square, nt_lens_total⟩
theorem nt_lens_Greatest : Nd.lens_Greatest TLensLonger := ⟨inferInstance, nt_gram_Check, nt_lens_Greatest_1, nt_lens_endless⟩
theorem nt_slices_Equal_bool_bool : Nd.slices_Equal_bool_bool TLensLonger := ⟨inferInstance⟩
theorem nt_parlkeep5_LensLonger : Nd.parlkeep5_LensLonger TLensLonger := ⟨inferInstance, nt_parlmake_Grammar, nt_parlkeep5_below, nt_parlkeep5_plain, nt_lens_Set, nt_slices_Clone_api_Rule_api_Rule, nt_lens_Greatest, nt_slices_Equal_bool_bool⟩
theorem lensLonger_law {H : Hp} {w1 : Value} {a0 : (List Int)} (h1 : Rd H w1 (a0.map vi)) (l1 : a0.length ≤ 17592186044416) (a1 : Int) : G TLensLonger I.parlkeep5_LensLonger [w1, vi a1] H (fun r _ => r = .bool true) :=
  law_of (X.parlkeep5_LensLonger nt_parlkeep5_LensLonger (φ := 10000) (Sat.nil (PH.le.refl _) (PH.le.refl _)) (rds_int h1 l1) (Gr.lensLonger_plain a0 a1)) rfl
end Go.Proofs.Ythgdobdhdfjhfaa
