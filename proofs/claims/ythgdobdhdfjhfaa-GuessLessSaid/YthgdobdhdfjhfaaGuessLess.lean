/- The law GuessLess of the abstract code, printed by wip/tools/fin.py. Own work. -/
import Derived.Test.YthgdobdhdfjhfaaSl10
import Derived.Test.YthgdobdhdfjhfaaX
import Derived.Test.YthgdobdhdfjhfaaTGuessLess
import Derived.Test.YthgdobdhdfjhfaaQGuessLess
namespace Go.Proofs.Ythgdobdhdfjhfaa
open Go Go.Ab
theorem nt_parlmake_Below : Nd.parlmake_Below TGuessLess := ⟨inferInstance⟩
theorem nt_parlmake_stream_next : Nd.parlmake_stream_next TGuessLess := ⟨inferInstance, nt_parlmake_Below⟩
theorem nt_parlmake_Dfa : Nd.parlmake_Dfa TGuessLess := ⟨inferInstance, nt_parlmake_stream_next⟩
theorem nt_guess_Rules : Nd.guess_Rules TGuessLess := ⟨inferInstance⟩
theorem nt_slices_Grow_int_int__nil : Nd.slices_Grow_int_int__nil TGuessLess := ⟨inferInstance⟩
theorem nt_slices_Concat_int_int : Nd.slices_Concat_int_int TGuessLess := ⟨inferInstance, nt_slices_Grow_int_int__nil⟩
theorem nt_slices_Equal_int_int : Nd.slices_Equal_int_int TGuessLess := ⟨inferInstance⟩
theorem nt_guess_Check_1 : Nd.guess_Check_1 TGuessLess := ⟨inferInstance, nt_slices_Equal_int_int⟩
theorem nt_slices_IndexFunc_int_int_105__guess_Check_1 : Nd.slices_IndexFunc_int_int_105__guess_Check_1 TGuessLess := ⟨inferInstance, nt_guess_Check_1⟩
theorem nt_slices_ContainsFunc_int_int_99__guess_Check_1 : Nd.slices_ContainsFunc_int_int_99__guess_Check_1 TGuessLess := ⟨inferInstance, nt_slices_IndexFunc_int_int_105__guess_Check_1⟩
theorem nt_guess_Check : Nd.guess_Check TGuessLess := ⟨inferInstance, nt_slices_Concat_int_int, nt_slices_ContainsFunc_int_int_99__guess_Check_1⟩
theorem nt_guess_first : Nd.guess_first TGuessLess := ⟨inferInstance⟩
theorem nt_slices_Clone_api_Sym_api_Sym : Nd.slices_Clone_api_Sym_api_Sym TGuessLess := ⟨inferInstance⟩
theorem nt_guess_accepts_1 : Nd.guess_accepts_1 TGuessLess := ⟨inferInstance⟩
theorem nt_guess_accepts : Nd.guess_accepts TGuessLess := ⟨inferInstance, nt_guess_accepts_1⟩
theorem nt_guess_agrees : Nd.guess_agrees TGuessLess := ⟨inferInstance, nt_guess_accepts⟩
theorem nt_slices_Clone_int_int : Nd.slices_Clone_int_int TGuessLess := ⟨inferInstance⟩
theorem nt_guess_next : Nd.guess_next TGuessLess := ⟨inferInstance, nt_slices_Clone_int_int⟩
theorem nt_guess_Of : Nd.guess_Of TGuessLess := ⟨inferInstance, nt_guess_Rules, nt_guess_Check, nt_guess_first, nt_slices_Clone_api_Sym_api_Sym, nt_guess_agrees, nt_guess_next⟩
theorem nt_parlkeep5_below : Nd.parlkeep5_below TGuessLess := ⟨inferInstance, nt_parlmake_Below⟩
theorem nt_parlmake_Word : Nd.parlmake_Word TGuessLess := ⟨inferInstance, nt_parlmake_Below⟩
theorem nt_dfa_Check : Nd.dfa_Check TGuessLess := ⟨inferInstance⟩
theorem nt_dfa_Run : Nd.dfa_Run TGuessLess := ⟨inferInstance, nt_dfa_Check⟩
theorem nt_parlkeep5_accepts : Nd.parlkeep5_accepts TGuessLess := ⟨inferInstance, nt_dfa_Run⟩
theorem nt_parlkeep5_examples : Nd.parlkeep5_examples TGuessLess := ⟨inferInstance, nt_parlkeep5_below, nt_parlmake_Word, nt_parlkeep5_accepts⟩
theorem nt_parlkeep5_fewer_1_1 : Nd.parlkeep5_fewer_1_1 TGuessLess := ⟨inferInstance⟩
theorem nt_slices_IndexFunc_int_int__parlkeep5_fewer_1_1 : Nd.slices_IndexFunc_int_int__parlkeep5_fewer_1_1 TGuessLess := ⟨inferInstance, nt_parlkeep5_fewer_1_1⟩
theorem nt_slices_ContainsFunc_int_int__parlkeep5_fewer_1_1 : Nd.slices_ContainsFunc_int_int__parlkeep5_fewer_1_1 TGuessLess := ⟨inferInstance, nt_slices_IndexFunc_int_int__parlkeep5_fewer_1_1⟩
theorem nt_parlkeep5_fewer_1 : Nd.parlkeep5_fewer_1 TGuessLess := ⟨inferInstance, nt_slices_ContainsFunc_int_int__parlkeep5_fewer_1_1⟩
theorem nt_slices_IndexFunc_int_int_105__parlkeep5_fewer_1 : Nd.slices_IndexFunc_int_int_105__parlkeep5_fewer_1 TGuessLess := ⟨inferInstance, nt_parlkeep5_fewer_1⟩
theorem nt_slices_DeleteFunc_int_int__parlkeep5_fewer_1 : Nd.slices_DeleteFunc_int_int__parlkeep5_fewer_1 TGuessLess := ⟨inferInstance, nt_slices_IndexFunc_int_int_105__parlkeep5_fewer_1, nt_parlkeep5_fewer_1⟩
theorem nt_parlkeep5_fewer : Nd.parlkeep5_fewer TGuessLess := ⟨inferInstance, nt_parlkeep5_examples, nt_slices_DeleteFunc_int_int__parlkeep5_fewer_1⟩
theorem nt_parlkeep5_GuessLess : Nd.parlkeep5_GuessLess TGuessLess := ⟨inferInstance, nt_parlmake_Dfa, nt_guess_Of, nt_parlkeep5_fewer⟩
theorem guessLess_law {H : Hp} {w1 : Value} {a0 : (List Int)} (h1 : Rd H w1 (a0.map vi)) (l1 : a0.length ≤ 17592186044416) {w2 : Value} {a1 : (List Int)} (h2 : Rd H w2 (a1.map vi)) (l2 : a1.length ≤ 17592186044416) : G TGuessLess I.parlkeep5_GuessLess [w1, w2] H (fun r _ => r = .bool true) := by
  obtain ⟨φ, hφ⟩ := Gr.guessLess_plain a0 a1
  exact law_of (X.parlkeep5_GuessLess nt_parlkeep5_GuessLess (φ := φ) (Sat.nil (PH.le.refl _) (PH.le.refl _)) (rds_int h1 l1) (rds_int h2 l2) hφ) rfl
end Go.Proofs.Ythgdobdhdfjhfaa
