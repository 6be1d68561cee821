/- A word that is left fails, is left of the word, and passes without any one of its terminals: the plain law of ShrinkLeast. Own work. -/
import Derived.Test.YtbehlbabgomhfaaShr
namespace Go.Proofs.Ytbehlbabgomhfaa.Gr
open Go Go.Ab Go.Pu

theorem concati_eq (a b : List Int) (h : a.length + b.length ≤ 1000000) : P.slices_Concat_int_int [a, b] = some (a ++ b) := by
  unfold P.slices_Concat_int_int
  simp only [Pu.forP, P.slices_Concat_int_int.b0]
  rw [W_id, Int.zero_add, if_neg (by omega), Option.bind_some]
  rw [W_id, if_neg (by omega), Option.bind_some, Option.bind_some]
  have e : Ok (P.slices_Grow_int_int__nil ((a.length : Int) + b.length)) fun x => x = [] := by
    unfold P.slices_Grow_int_int__nil
    rw [if_neg (by omega)]
    have e0 : Pu.W ((a.length : Int) + b.length - Pu.W (0 - 0)) = (a.length : Int) + b.length := by
      rw [show Pu.W (0 - 0) = 0 from rfl, Int.sub_zero, W_id]
    rw [e0]
    refine Ok.bind (Q := fun x => x = []) (.ite (fun h0 => ?_) fun _ => .some rfl) fun x hx => .some hx
    unfold Pu.mkz
    rw [if_pos ⟨h0, by omega, by omega⟩, Option.bind_some, sub_eq (by omega) (by omega) (by omega), Option.bind_some]
    exact .some (by simp)
  rw [e.eq, Option.bind_some]
  simp only [P.slices_Concat_int_int.b1]
  rw [app_eq (by simp; omega), Option.bind_some, Option.bind_some, app_eq (by simp; omega)]
  simp
theorem shrinkLeast_plain (a0 : List Int) (a1 a2 : Int) : P.parlkeep5_ShrinkLeast 10000 a0 a1 a2 = some true := by
  refine Ok.eq ?_
  unfold P.parlkeep5_ShrinkLeast
  refine (word_ok a0 (by omega) (by omega) (by omega) (by omega)).bind fun w ⟨w1, w2⟩ => ?_
  have e2 : P.shrink_Word__parlkeep5_ShrinkLeast_1 10000 [1, 2] = some ([2], 0) := by
    obtain ⟨f, hf⟩ : ∃ f, 10000 = f + 10 := ⟨9990, rfl⟩
    rw [hf]; rfl
  rw [e2, Option.bind_some, if_neg (by simp), equali_ok _ _ (by simp) rfl, Option.bind_some, Option.bind_some, if_neg (by simp)]
  refine (fails_ok a1 a2).bind fun f _ => ?_
  refine (sword_ok (by omega) (by omega)).bind fun r hr => ?_
  rw [fl_eq, Option.bind_some]
  cases hF : Fl f.1 f.2 w with
  | false => rw [hF] at hr; simp at hr; subst hr; exact .some (by simp)
  | true =>
    rw [hF] at hr
    simp only [if_true] at hr
    obtain ⟨r2, ⟨l1, l2, l3⟩, -⟩ := hr
    have hlen := l2.length_le
    rw [if_neg (by simp), if_neg (by simp [r2]), fl_eq, Option.bind_some, l1, Option.bind_some, if_neg (by simp)]
    refine Ok.bind (Q := fun k => k = (r.1.length : Int)) (forP_ok (fun i (k : Int) => ∃ m : Nat, k = m ∧ m ≤ r.1.length ∧ (r.1.drop m).Sublist (w.drop i)) ⟨0, rfl, by omega, by simpa using l2⟩ ?_ ?_) ?_
    · rintro i x k hx ⟨m, rfl, hm, hs⟩
      have hi := (List.getElem?_eq_some_iff.1 hx).1
      have hd : w.drop i = x :: w.drop (i + 1) := by
        rw [List.drop_eq_getElem_cons hi]; congr 1; exact (List.getElem?_eq_some_iff.1 hx).2
      rw [hd] at hs
      unfold P.parlkeep5_ShrinkLeast.b0
      by_cases hlt : m < r.1.length
      · have hget : r.1[m]? = some (r.1[m]) := List.getElem?_eq_getElem hlt
        have hdm : r.1.drop m = r.1[m] :: r.1.drop (m + 1) := List.drop_eq_getElem_cons hlt
        rw [if_pos (by simp; omega), ix_nat, hget, Option.bind_some, Option.bind_some]
        by_cases hq : r.1[m] = x
        · rw [if_pos (by simpa using hq), W_id, Option.bind_some]
          refine .some ⟨m + 1, by omega, by omega, ?_⟩
          rw [hdm, hq] at hs
          exact List.cons_sublist_cons.1 hs
        · rw [if_neg (by simpa using hq), Option.bind_some]
          refine .some ⟨m, rfl, hm, ?_⟩
          rw [hdm] at hs ⊢
          cases hs with
          | cons _ h => exact h
          | cons_cons _ h => exact absurd rfl hq
      · rw [if_neg (by simp; omega), Option.bind_some, if_neg (by simp), Option.bind_some]
        refine .some ⟨m, rfl, hm, ?_⟩
        rw [List.drop_of_length_le (by omega)]; exact List.nil_sublist _
    · rintro k ⟨m, rfl, hm, hs⟩
      rw [List.drop_of_length_le (Nat.le_refl _)] at hs
      have := List.eq_nil_of_sublist_nil hs
      have := List.drop_eq_nil_iff.1 this
      omega
    · rintro _ rfl
      rw [if_neg (by simp), ranO_eq (by omega), Option.bind_some]
      refine Ok.bind (Q := fun | .out _ => True | .rt _ => False) (forL_ok (fun _ _ => True) trivial ?_ fun _ _ => trivial) ?_
      · intro i x _ hx _
        obtain ⟨rfl, hi⟩ := ran_at hx
        unfold P.parlkeep5_ShrinkLeast.b1
        rw [sub_eq (by omega) (by omega) (by omega), Option.bind_some, W_id, sub_eq (by omega) (by omega) (by omega), Option.bind_some]
        rw [concati_eq _ _ (by simp; omega), Option.bind_some, fl_eq, Option.bind_some]
        have e : List.drop (Int.toNat 0) (List.take (Int.toNat (i : Int)) r.1) ++ List.drop (Int.toNat ((i : Int) + 1)) (List.take (Int.toNat (r.1.length : Int)) r.1) = r.1.eraseIdx i := by
          rw [List.eraseIdx_eq_take_drop_succ]
          simp only [Int.toNat_natCast, Int.toNat_zero, List.drop_zero, List.take_length]
          rw [show ((i : Int) + 1).toNat = i + 1 by omega]
        rw [e, l3 i (by omega), if_neg (by simp)]
        exact .some trivial
      · rintro (_ | _) h
        · exact .some rfl
        · exact h.elim
end Go.Proofs.Ytbehlbabgomhfaa.Gr
