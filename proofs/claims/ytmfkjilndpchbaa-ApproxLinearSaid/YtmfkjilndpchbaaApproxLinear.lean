import Derived.Test.YtmfkjilndpchbaaSl10
import Derived.Test.YtmfkjilndpchbaaX
import Derived.Test.YtmfkjilndpchbaaTApproxLinear
import Derived.Test.YtmfkjilndpchbaaQApproxLinear
namespace Go.Proofs.Ytmfkjilndpchbaa
open Go Go.Ab
theorem nt_parlmake_Below:Nd.J3 A8:=⟨inferInstance⟩
theorem nt_parlmake_stream_next:Nd.D7 A8:=⟨inferInstance,nt_parlmake_Below⟩
theorem nt_parlmake_Dfa:Nd.F5 A8:=⟨inferInstance,nt_parlmake_stream_next⟩
theorem nt_parlkeep5_plain:Nd.J7 A8:=⟨inferInstance⟩
theorem nt_cmp_isNaN_int:Nd.G8 A8:=⟨inferInstance⟩
theorem nt_cmp_Compare_int:Nd.F1 A8:=⟨inferInstance,nt_cmp_isNaN_int⟩
theorem nt_gram_Order:Nd.J9 A8:=⟨inferInstance,nt_cmp_Compare_int⟩
theorem nt_slices_CompareFunc_api_Sym_api_Sym_api_Sym_api_Sym__gram_Order:Nd.D6 A8:=⟨inferInstance,nt_gram_Order⟩
theorem nt_gram_Compare:Nd.J8 A8:=⟨inferInstance,nt_cmp_Compare_int,nt_slices_CompareFunc_api_Sym_api_Sym_api_Sym_api_Sym__gram_Order⟩
theorem nt_gram_Check:Nd.E1 A8:=⟨inferInstance,nt_gram_Compare⟩
theorem nt_slices_Index_int_int:Nd.E6 A8:=⟨inferInstance⟩
theorem nt_slices_Contains_int_int:Nd.C4 A8:=⟨inferInstance,nt_slices_Index_int_int⟩
theorem nt_approx_kind:Nd.F3 A8:=⟨inferInstance,nt_slices_Contains_int_int⟩
theorem nt_approx_Components:Nd.A9 A8:=⟨inferInstance,nt_gram_Check,nt_approx_kind⟩
theorem nt_approx_below:Nd.E7 A8:=⟨inferInstance⟩
theorem nt_approx_nfa_state:Nd.F6 A8:=⟨inferInstance⟩
theorem nt_approx_nfa_link:Nd.F8 A8:=⟨inferInstance⟩
theorem nt_approx_nfa_add:Nd.B4 A8:=⟨inferInstance,inferInstance,nt_approx_nfa_state,nt_approx_nfa_link,nt_slices_Contains_int_int⟩
theorem nt_slices_Clone_int_int:Nd.F4 A8:=⟨inferInstance⟩
theorem nt_math_bits_Len64:Nd.G4 A8:=⟨inferInstance⟩
theorem nt_math_bits_Len:Nd.J2 A8:=⟨inferInstance,nt_math_bits_Len64⟩
theorem nt_cmp_Less_int:Nd.D4 A8:=⟨inferInstance,nt_cmp_isNaN_int⟩
theorem nt_slices_insertionSortOrdered_int:Nd.C1 A8:=⟨inferInstance,nt_cmp_Less_int⟩
theorem nt_slices_siftDownOrdered_int:Nd.C6 A8:=⟨inferInstance,nt_cmp_Less_int⟩
theorem nt_slices_heapSortOrdered_int:Nd.C2 A8:=⟨inferInstance,nt_slices_siftDownOrdered_int⟩
theorem nt_slices_nextPowerOfTwo:Nd.G6 A8:=⟨inferInstance,nt_math_bits_Len⟩
theorem nt_slices_xorshift_Next:Nd.G2 A8:=⟨inferInstance⟩
theorem nt_slices_breakPatternsOrdered_int:Nd.C0 A8:=⟨inferInstance,nt_slices_nextPowerOfTwo,nt_slices_xorshift_Next⟩
theorem nt_slices_order2Ordered_int:Nd.D9 A8:=⟨inferInstance,nt_cmp_Less_int⟩
theorem nt_slices_medianOrdered_int:Nd.E3 A8:=⟨inferInstance,nt_slices_order2Ordered_int⟩
theorem nt_slices_medianAdjacentOrdered_int:Nd.D1 A8:=⟨inferInstance,nt_slices_medianOrdered_int⟩
theorem nt_slices_choosePivotOrdered_int:Nd.B7 A8:=⟨inferInstance,nt_slices_medianAdjacentOrdered_int,nt_slices_medianOrdered_int⟩
theorem nt_slices_reverseRangeOrdered_int:Nd.C8 A8:=⟨inferInstance⟩
theorem nt_slices_partialInsertionSortOrdered_int:Nd.A7 A8:=⟨inferInstance,nt_cmp_Less_int⟩
theorem nt_slices_partitionEqualOrdered_int:Nd.B2 A8:=⟨inferInstance,nt_cmp_Less_int⟩
theorem nt_slices_partitionOrdered_int:Nd.B0 A8:=⟨inferInstance,nt_cmp_Less_int⟩
theorem nt_slices_pdqsortOrdered_int:Nd.B1 A8:=⟨inferInstance,nt_slices_insertionSortOrdered_int,nt_slices_heapSortOrdered_int,nt_slices_breakPatternsOrdered_int,nt_slices_choosePivotOrdered_int,nt_slices_reverseRangeOrdered_int,nt_slices_partialInsertionSortOrdered_int,nt_cmp_Less_int,nt_slices_partitionEqualOrdered_int,nt_slices_partitionOrdered_int⟩
theorem nt_slices_Sort_int_int:Nd.G9 A8:=⟨inferInstance,nt_math_bits_Len,nt_slices_pdqsortOrdered_int⟩
theorem nt_approx_nfa_closed:Nd.C7 A8:=⟨inferInstance,nt_slices_Clone_int_int,nt_slices_Sort_int_int⟩
theorem nt_slices_Equal_int_int:Nd.E0 A8:=⟨inferInstance⟩
theorem nt_approx_nfa_dfa_1:Nd.J0 A8:=⟨inferInstance,nt_slices_Equal_int_int⟩
theorem nt_slices_IndexFunc_int_int__approx_nfa_dfa_1:Nd.F7 A8:=⟨inferInstance,nt_approx_nfa_dfa_1⟩
theorem nt_approx_nfa_dfa:Nd.B8 A8:=⟨inferInstance,nt_approx_nfa_closed,nt_slices_IndexFunc_int_int__approx_nfa_dfa_1,nt_slices_Contains_int_int⟩
theorem nt_dfa_Check:Nd.D8 A8:=⟨inferInstance⟩
theorem nt_math_bits_Mul64:Nd.F9 A8:=⟨inferInstance⟩
theorem nt_math_bits_Mul:Nd.J6 A8:=⟨inferInstance,nt_math_bits_Mul64⟩
theorem nt_slices_Repeat_int_int:Nd.D0 A8:=⟨inferInstance,nt_math_bits_Mul⟩
theorem nt_mini_complete:Nd.C5 A8:=⟨inferInstance,nt_slices_Clone_int_int,nt_slices_Repeat_int_int⟩
theorem nt_mini_begin:Nd.G7 A8:=⟨inferInstance⟩
theorem nt_mini_parts_split:Nd.B5 A8:=⟨inferInstance,nt_slices_Contains_int_int⟩
theorem nt_slices_Index_mini_task_mini_task:Nd.C3 A8:=⟨inferInstance⟩
theorem nt_slices_Contains_mini_task_mini_task:Nd.D5 A8:=⟨inferInstance,nt_slices_Index_mini_task_mini_task⟩
theorem nt_mini_hopcroft:Nd.B9 A8:=⟨inferInstance,nt_mini_begin,nt_mini_parts_split,nt_slices_Contains_mini_task_mini_task⟩
theorem nt_mini_Min:Nd.G0 A8:=⟨inferInstance,nt_dfa_Check,nt_mini_complete,nt_mini_hopcroft,nt_slices_Repeat_int_int⟩
theorem nt_approx_Of:Nd.E5 A8:=⟨inferInstance,nt_approx_Components,nt_approx_below,nt_approx_nfa_state,nt_approx_nfa_add,nt_approx_nfa_dfa,nt_mini_Min⟩
theorem nt_linear_FromDfa:Nd.D2 A8:=⟨inferInstance,nt_dfa_Check,nt_gram_Check⟩
theorem nt_teach_way:Nd.K2 A8:=⟨inferInstance⟩
theorem nt_teach_step:Nd.K0 A8:=⟨inferInstance⟩
theorem nt_teach_Differ:Nd.E4 A8:=⟨inferInstance,nt_dfa_Check,nt_teach_way,nt_teach_step⟩
theorem nt_parlkeep5_ApproxLinear:Nd.D3 A8:=⟨inferInstance,nt_parlmake_Dfa,nt_parlkeep5_plain,nt_approx_Of,nt_linear_FromDfa,nt_teach_Differ⟩
theorem approxLinear_law {H:Hp}{w1:Value}{a0:(List Int)}(h1:Rd H w1 (a0.map vi))(l1:a0.length≤17592186044416):G A8 I.D3 [w1] H (fun r _=>r= .bool true):=by
 obtain⟨φ,hφ⟩:=Gr.approxLinear_plain a0
 exact law_of (X.D3 nt_parlkeep5_ApproxLinear (φ:=φ) (Sat.nil (PH.le.refl _) (PH.le.refl _)) (rds_int h1 l1) hφ) rfl
end Go.Proofs.Ytmfkjilndpchbaa
