/- The plain law of CompareSame. Own work. -/
import Derived.Test.YthgdobdhdfjhfaaPln
import Derived.Test.YthgdobdhdfjhfaaBel
import Derived.Test.YthgdobdhdfjhfaaCmp1
namespace Go.Proofs.Ythgdobdhdfjhfaa.Gr
open Go Go.Ab Go.Pu
theorem plain_least : P.compare_Least 10000000 gPlain (Ty.api_Grammar.mk 2 1 0 []) 2 = some ([0], 1, 0) := by decide +kernel
theorem reverse_ok {l : List Ru} (hl : l.length ≤ 1000) {φ : Nat} (hφ : l.length < φ) : Ok (P.slices_Reverse_api_Rule_api_Rule φ l) (· = l.reverse) := by
  unfold P.slices_Reverse_api_Rule_api_Rule
  rw [W_id]
  refine Ok.bind (Q := fun | .out s => s.1 = l.reverse | .rt _ => False)
    (whl_ok (fun s : List Ru × Int × Int => s.1.length = l.length ∧ 0 ≤ s.2.1 ∧ s.2.1 + s.2.2 = (l.length : Int) - 1 ∧ ∀ k : Int, 0 ≤ k → k < l.length → el s.1 k = if k < s.2.1 ∨ s.2.2 < k then el l (l.length - 1 - k) else el l k)
      (fun s => (s.2.2 + 1).toNat) ⟨rfl, by simp, by simp, fun k k0 k1 => by rw [if_neg (by simp only; omega)]⟩ ?_ (by simp only; omega)) ?_
  · rintro ⟨m, i, j⟩ ⟨h1, h2, h3, h4⟩
    simp only at h1 h2 h3 h4
    unfold P.slices_Reverse_api_Rule_api_Rule.b0
    refine .ite (fun h => ?_) fun h => .some (ext_el (by rw [List.length_reverse]; exact h1) fun k k0 k1 => ?_)
    · simp only at h
      have e5 : Pu.ix (Pu.st m i (el m j)) j = some _ := ix_el (by omega) (by rw [st_length]; omega)
      simp only [ix_el (show 0 ≤ j by omega) (show j < m.length by omega), ix_el (show 0 ≤ i by omega) (show i < m.length by omega), Option.bind_some, e5]
      rw [W_id, W_id]
      refine .some ⟨⟨by simp only [st_length]; exact h1, by simp only; omega, by simp only; omega, fun k k0 k1 => ?_⟩, by simp only; omega⟩
      simp only
      rw [el_st (by omega) (by rw [st_length]; omega) k0, el_st (by omega) (by omega) k0]
      have hi := h4 i (by omega) (by omega)
      have hj := h4 j (by omega) (by omega)
      rw [if_neg (by omega)] at hi hj
      by_cases e1 : k = j
      · rw [if_pos e1, if_pos (by omega), hi]; congr 1; omega
      · rw [if_neg e1]
        by_cases e2 : k = i
        · rw [if_pos e2, if_pos (by omega), hj]; congr 1; omega
        · rw [if_neg e2, h4 k k0 k1]
          by_cases e3 : k < i ∨ j < k
          · rw [if_pos e3, if_pos (by omega)]
          · rw [if_neg e3, if_neg (by omega)]
    · simp only at h k1
      have e : el l.reverse k = el l (l.length - 1 - k) := by
        unfold el
        rw [List.getElem?_reverse (by omega)]
        congr 2; omega
      rw [e, h4 k k0 (by omega)]
      by_cases e3 : k < i ∨ j < k
      · rw [if_pos e3]
      · rw [if_neg e3]; congr 1; omega
  · rintro (s | _) h
    · exact .some h
    · exact h.elim
theorem compareSame_plain (l : List Int) (n : Int) : P.parlkeep5_CompareSame 10000000 l n = some true := by
  refine Ok.eq ?_
  unfold P.parlkeep5_CompareSame
  refine (grammar_ok l).bind fun g hg => ?_
  have hv := hg.toValid
  rw [plain_eq, Option.bind_some, plain_least, Option.bind_some]
  have eq0 : P.slices_Equal_int_int [0] [0] = some true := rfl
  simp only [ne_eq, not_true_eq_false, decide_false, Bool.or_self, Bool.false_eq_true, if_false, eq0, Option.bind_some, Bool.not_true]
  have hl := hg.len3
  refine Ok.bind (Q := (· = g.Rules)) ?_ ?_
  · unfold P.slices_Clone_api_Rule_api_Rule
    rw [app_eq (by simp; omega), Option.bind_some]
    exact .some (by simp)
  rintro _ rfl
  refine (reverse_ok (by omega) (by omega)).bind ?_
  rintro _ rfl
  refine (pbelow_ok (by omega) (by omega)).bind fun k ⟨k0, k1⟩ => ?_
  have hh : Valid (Ty.api_Grammar.mk g.Terms g.Nons g.Start g.Rules.reverse) := by
    refine ⟨hv.t1, hv.t2, hv.n1, hv.n2, hv.s1, hv.s2, by simp only [List.length_reverse]; exact hv.len, fun r hr => hv.lft r (List.mem_reverse.1 hr), fun r hr => hv.rgt r (List.mem_reverse.1 hr), fun r hr => hv.sym r (List.mem_reverse.1 hr), ?_⟩
    simp only
    rw [List.pairwise_reverse]
    exact hv.dis.imp fun h e => h e.symm
  rw [least_none hv hh rfl hg.t3 k0 (by omega) (by omega) fun w => ⟨Der.mono fun r hr => List.mem_reverse.2 hr, Der.mono fun r hr => List.mem_reverse.1 hr⟩, Option.bind_some]
  exact .some (by simp)
end Go.Proofs.Ythgdobdhdfjhfaa.Gr
