/- shrink.Word: what is left. Own work. -/
import Derived.Test.YtbehlbabgomhfaaBel0
namespace Go.Proofs.Ytbehlbabgomhfaa.Gr
open Go Go.Ab Go.Pu

theorem word_ok {terms most : Int} (l : List Int) (h1 : 1 ≤ terms) (h2 : terms ≤ 1000000) (h3 : 0 ≤ most) (h4 : most ≤ 1000000) : Ok (P.parlmake_Word terms most l) fun w => (w.length : Int) ≤ most ∧ ∀ x ∈ w, 0 ≤ x ∧ x < terms := by
  unfold P.parlmake_Word
  refine Ok.bind (Q := fun | .out w => (w.length : Int) ≤ most ∧ ∀ x ∈ w, 0 ≤ x ∧ x < terms | .rt _ => False) (forL_ok (fun _ (w : List Int) => (w.length : Int) ≤ most ∧ ∀ x ∈ w, 0 ≤ x ∧ x < terms) ⟨by simpa using h3, by simp⟩ ?_ (fun _ h => h)) ?_
  · intro i x w _ ⟨a, b⟩
    unfold P.parlmake_Word.b0
    refine .ite (fun _ => .some ⟨a, b⟩) fun hne => ?_
    refine (below_ok h1 h2).bind fun y hy => ?_
    rw [app_eq (by simp; omega), Option.bind_some]
    refine .some ⟨by simp; omega, fun z hz => ?_⟩
    rcases List.mem_append.1 hz with hz | hz
    · exact b z hz
    · cases List.mem_singleton.1 hz; exact hy
  · rintro (w | _) h
    · exact .some h
    · exact h.elim
theorem without_eq (w : List Int) (i : Nat) (h : w.length ≤ 1000000) : P.shrink_without w (i : Int) = some (w.eraseIdx i) := by
  refine Ok.eq ?_
  unfold P.shrink_without
  have e : Pu.mk 8 0 (w.length : Int) (0 : Int) = some [] := by unfold Pu.mk; rw [if_pos ⟨by omega, by omega, by omega, by omega⟩]; rfl
  rw [e, Option.bind_some]
  refine Ok.bind (Q := fun s => s = w.eraseIdx i) (forP_ok (fun k s => s = (w.take k).eraseIdx i) (by simp) ?_ fun s h => by rwa [List.take_length] at h) fun s h => .some h
  intro k x s hx hs
  have hk := (List.getElem?_eq_some_iff.1 hx).1
  unfold P.shrink_without.b0
  have e2 : w.take (k + 1) = w.take k ++ [x] := by rw [List.take_add_one, hx]; rfl
  rw [e2]
  refine Ok.bind (Q := fun s' => s' = (w.take k ++ [x]).eraseIdx i) (.ite (fun h => ?_) fun h => ?_) fun s h => .some h
  · have hsl : s.length ≤ k := by rw [hs]; exact Nat.le_trans (List.length_eraseIdx_le _ _) (by simp; omega)
    rw [app_eq (by simp; omega), Option.bind_some]
    refine .some ?_
    rw [hs]
    rcases Nat.lt_or_ge i k with q | q
    · rw [List.eraseIdx_append_of_lt_length (by simp; omega)]
    · rw [List.eraseIdx_append_of_length_le (by simp; omega), List.eraseIdx_of_length_le (l := w.take k) (by simp; omega), List.eraseIdx_of_length_le (l := [x]) (by simp; omega)]
  · have : i = k := by omega
    subst this
    refine .some ?_
    rw [hs, List.eraseIdx_of_length_le (l := w.take i) (by simp; omega), List.eraseIdx_append_of_length_le (by simp; omega)]
    have : i - (w.take i).length = 0 := by simp; omega
    rw [this]; simp
theorem without_all (w : List Int) (h : w.length ≤ 1000000) : P.shrink_without w (w.length : Int) = some w := by
  rw [without_eq w w.length h, List.eraseIdx_of_length_le (Nat.le_refl _)]
/-- The condition as a function. -/
def Fl (a b : Int) (w : List Int) : Bool := (P.parlkeep5_fails_1 w a b).getD false
theorem fl_eq (a b : Int) (w : List Int) : P.parlkeep5_fails_1 w a b = some (Fl a b w) := by
  have : Ok (P.parlkeep5_fails_1 w a b) fun _ => True := by
    unfold P.parlkeep5_fails_1
    refine Ok.bind (Q := fun _ => True) (forP_ok (fun _ _ => True) trivial ?_ fun _ _ => trivial) fun s _ => ?_
    · intro i x s _ _
      exact .some trivial
    · have e : Pu.rem s 3 = some (s.tmod 3) := by unfold Pu.rem; rw [if_neg (by omega)]
      rw [e, Option.bind_some]; exact .some trivial
  obtain ⟨x, e, -⟩ := this
  unfold Fl; rw [e]; rfl
/-- What is left: it fails, it is left of the word, and nothing can be left out. -/
def Left (F : List Int → Bool) (w l : List Int) : Prop := F l = true ∧ l.Sublist w ∧ ∀ j, j < l.length → F (l.eraseIdx j) = false
theorem sword_ok {a b : Int} {w : List Int} (hw : w.length ≤ 60) {φ : Nat} (hφ : 10000 ≤ φ) :
    Ok (P.shrink_Word__parlkeep5_fails_1 φ w a b) fun r => if Fl a b w = true then r.2 = 0 ∧ Left (Fl a b) w r.1 ∧ ((∀ j, j < w.length → Fl a b (w.eraseIdx j) = false) → r.1 = w) else r = ([], 7) := by
  unfold P.shrink_Word__parlkeep5_fails_1
  rw [if_neg (by omega), without_all w (by omega), Option.bind_some, fl_eq, Option.bind_some]
  cases hF : Fl a b w with
  | false => exact .some rfl
  | true =>
    simp only [Bool.not_true, Bool.false_eq_true, if_false, if_true, Option.bind_some]
    refine Ok.bind (whl_ok (ρ := Unit) (Q := fun | .out s => Left (Fl a b) w s.1 ∧ ((∀ j, j < w.length → Fl a b (w.eraseIdx j) = false) → s.1 = w) | .rt _ => False)
      (fun (s : List Int × Int) => ∃ i : Nat, s.2 = i ∧ i ≤ s.1.length ∧ Fl a b s.1 = true ∧ s.1.Sublist w ∧ (∀ j, j < i → Fl a b (s.1.eraseIdx j) = false) ∧ ((∀ j, j < w.length → Fl a b (w.eraseIdx j) = false) → s.1 = w))
      (fun (s : List Int × Int) => s.1.length * 62 + (s.1.length - s.2.toNat)) ⟨0, rfl, by omega, hF, List.Sublist.refl _, fun j h => by omega, fun _ => rfl⟩ ?_ ?_) ?_
    · rintro ⟨v, i'⟩ ⟨i, rfl, hi, h1, h2, h3, h4⟩
      have hv : v.length ≤ w.length := h2.length_le
      simp only at hi h1 h2 h3 h4 ⊢
      unfold P.shrink_Word__parlkeep5_fails_1.b0
      by_cases hlt : i < v.length
      · rw [if_pos (by simp only; omega)]
        have hlen : (v.eraseIdx i).length = v.length - 1 := List.length_eraseIdx_of_lt hlt
        simp only
        rw [without_eq v i (by omega), Option.bind_some, without_all _ (by omega), Option.bind_some, fl_eq, Option.bind_some]
        cases hE : Fl a b (v.eraseIdx i) with
        | true =>
          rw [if_pos rfl, Option.bind_some]
          refine .some ⟨⟨0, rfl, by simp, hE, (List.eraseIdx_sublist v i).trans h2, fun j h => by omega, fun hall => ?_⟩, by simp only [Int.toNat_zero, Int.toNat_natCast]; omega⟩
          have := h4 hall; subst this
          rw [hall i hlt] at hE; cases hE
        | false =>
          rw [if_neg (by simp), Option.bind_some, W_id]
          refine .some ⟨⟨i + 1, by omega, by simp only; omega, h1, h2, fun j h => ?_, h4⟩, by simp only [Int.toNat_natCast]; omega⟩
          rcases Nat.lt_succ_iff_lt_or_eq.1 h with h | rfl
          · exact h3 j h
          · exact hE
      · rw [if_neg (by simp only; omega)]
        exact .some ⟨⟨h1, h2, fun j h => h3 j (by have h : j < v.length := h; omega)⟩, h4⟩
    · simp only [Int.toNat_zero]
      have : w.length * 62 ≤ 60 * 62 := Nat.mul_le_mul_right _ hw
      omega
    · rintro (s | _) h
      · exact .some ⟨rfl, h.1, h.2⟩
      · exact h.elim
theorem equali_ok (a b : List Int) (ha : a.length ≤ 1000000) (h : a = b) : P.slices_Equal_int_int a b = some true := by
  subst h
  refine Ok.eq ?_
  unfold P.slices_Equal_int_int
  rw [if_neg (by simp), ranO_eq (by omega), Option.bind_some]
  refine Ok.bind (Q := fun | .out _ => True | .rt _ => False) (forL_ok (fun _ _ => True) trivial ?_ fun _ _ => trivial) ?_
  · intro i x _ hx _
    obtain ⟨rfl, hi⟩ := ran_at hx
    unfold P.slices_Equal_int_int.b0
    rw [ix_el (by omega) hi, Option.bind_some, Option.bind_some, if_neg (by simp)]
    exact .some trivial
  · rintro (_ | _) h
    · exact .some rfl
    · exact h.elim
theorem fails_ok (a b : Int) : Ok (P.parlkeep5_fails a b) fun r => 0 ≤ r.1 ∧ r.1 < 5 ∧ 0 ≤ r.2 ∧ r.2 < 3 := by
  unfold P.parlkeep5_fails
  refine (pbelow_ok (by omega) (by omega)).bind fun x hx => (pbelow_ok (by omega) (by omega)).bind fun y hy => .some ⟨hx.1, hx.2, hy.1, hy.2⟩
end Go.Proofs.Ytbehlbabgomhfaa.Gr
