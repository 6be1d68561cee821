/- What is left stays as it is: the plain law of ShrinkAgain. Own work. -/
import Derived.Test.YtbehlbabgomhfaaShr
namespace Go.Proofs.Ytbehlbabgomhfaa.Gr
open Go Go.Ab Go.Pu

/-- The weight of a word. -/
def wsum (w : List Int) : Nat := wt' w
where wt' : List Int → Nat
  | [] => 0
  | x :: l => x.toNat + wt' l
theorem wsum_set : ∀ (w : List Int) (i : Nat) (x y : Int), w[i]? = some x → wsum.wt' (w.set i y) + x.toNat = wsum.wt' w + y.toNat
  | [], i, x, y, h => by simp at h
  | z :: w, 0, x, y, h => by cases h; simp [wsum.wt']; omega
  | z :: w, i + 1, x, y, h => by have := wsum_set w i x y (by simpa using h); simp [wsum.wt']; omega
theorem wsum_le (w : List Int) (h : ∀ x ∈ w, x < 8) : wsum.wt' w ≤ w.length * 7 := by
  induction w with
  | nil => simp [wsum.wt']
  | cons x w ih =>
    have := ih fun y hy => h y (List.mem_cons_of_mem _ hy)
    have := h x (by simp)
    simp only [wsum.wt', List.length_cons, Nat.add_mul]; omega
/-- Elements one by one are not greater. -/
def Le1 (v w : List Int) : Prop := v.length = w.length ∧ ∀ (i : Nat) (x y : Int), v[i]? = some x → w[i]? = some y → x ≤ y
/-- Nothing smaller fails. -/
def Low (F : List Int → Bool) (v : List Int) : Prop := ∀ (i : Nat) (x y : Int), v[i]? = some y → 0 ≤ x → x < y → F (v.set i x) = false
theorem lower_ok {a b : Int} {w : List Int} (hw : w.length ≤ 60) (hr : ∀ x ∈ w, 0 ≤ x ∧ x < 8) (hF : Fl a b w = true) {φ : Nat} (hφ : 100000 ≤ φ) :
    Ok (P.shrink_Lower__parlkeep5_fails_1 φ w a b) fun r => r.2 = 0 ∧ Fl a b r.1 = true ∧ Le1 r.1 w ∧ (∀ x ∈ r.1, 0 ≤ x ∧ x < 8) ∧ Low (Fl a b) r.1 ∧ (Low (Fl a b) w → r.1 = w) := by
  unfold P.shrink_Lower__parlkeep5_fails_1
  rw [if_neg (by omega)]
  refine Ok.bind (Q := fun | .out _ => True | .rt _ => False) (forL_ok (fun _ _ => True) trivial ?_ fun _ _ => trivial) ?_
  · intro i x _ hx _
    have := hr x (List.mem_of_getElem? hx)
    unfold P.shrink_Lower__parlkeep5_fails_1.b0
    rw [if_neg (by simp; omega)]
    exact .some trivial
  rintro (_ | _) hh
  rotate_left
  · exact hh.elim
  simp only [Fin.cs]
  rw [without_all w (by omega), Option.bind_some, without_all w (by omega), Option.bind_some, fl_eq, Option.bind_some, hF, if_neg (by simp)]
  refine Ok.bind (whl_ok (ρ := Unit) (Q := fun | .out s => Fl a b s.1 = true ∧ Le1 s.1 w ∧ (∀ x ∈ s.1, 0 ≤ x ∧ x < 8) ∧ Low (Fl a b) s.1 ∧ (Low (Fl a b) w → s.1 = w) | .rt _ => False)
    (fun (s : List Int × Int) => ∃ i : Nat, s.2 = i ∧ i ≤ s.1.length ∧ Fl a b s.1 = true ∧ Le1 s.1 w ∧ (∀ x ∈ s.1, 0 ≤ x ∧ x < 8) ∧
      (∀ (j : Nat) (x y : Int), j < i → s.1[j]? = some y → 0 ≤ x → x < y → Fl a b (s.1.set j x) = false) ∧ (Low (Fl a b) w → s.1 = w))
    (fun (s : List Int × Int) => wsum.wt' s.1 * 62 + (s.1.length - s.2.toNat)) ⟨0, rfl, by omega, hF, ⟨rfl, fun i x y h1 h2 => by rw [h1] at h2; cases h2; exact Int.le_refl _⟩, hr, fun j x y h => by omega, fun _ => rfl⟩ ?_ ?_) ?_
  · rintro ⟨v, i'⟩ ⟨i, rfl, hi, h1, h2, h3, h4, h5⟩
    simp only at hi h1 h2 h3 h4 h5 ⊢
    have hv : v.length = w.length := h2.1
    unfold P.shrink_Lower__parlkeep5_fails_1.b1
    by_cases hlt : i < v.length
    · have hg : v[i]? = some v[i] := List.getElem?_eq_getElem hlt
      have hvr := h3 _ (List.getElem_mem hlt)
      rw [if_pos (by simp only; omega)]
      simp only
      rw [ix_nat, hg, Option.bind_some, ranO_eq (by omega), Option.bind_some]
      refine Ok.bind (Q := fun | .out s => (s = (v, (i : Int)) ∧ (∀ x : Int, 0 ≤ x → x < v[i] → Fl a b (v.set i x) = false)) ∨ ∃ x : Int, 0 ≤ x ∧ x < v[i] ∧ Fl a b (v.set i x) = true ∧ s = (v.set i x, -1) | .rt _ => False)
        (forL_ok (fun k s => s = (v, (i : Int)) ∧ ∀ x : Int, 0 ≤ x → x < k → Fl a b (v.set i x) = false) ⟨rfl, fun x h h' => by omega⟩ ?_ ?_) ?_
      · rintro k x s hx ⟨rfl, hk⟩
        obtain ⟨rfl, hk2⟩ := ran_at hx
        unfold P.shrink_Lower__parlkeep5_fails_1.b2
        simp only
        have hst : Pu.st v (i : Int) (k : Int) = v.set i k := by simp [Pu.st]
        rw [without_all v (by omega), Option.bind_some, ix_nat, hg, Option.bind_some, hst, without_all _ (by simp; omega), Option.bind_some, fl_eq, Option.bind_some]
        refine .ite (fun q => .some (.inr ⟨k, by omega, hk2, q, rfl⟩)) fun q => .some ⟨rfl, fun x x0 x1 => ?_⟩
        rcases (by omega : x < k ∨ x = k) with h | rfl
        · exact hk x x0 h
        · simpa using q
      · rintro s ⟨rfl, hk⟩
        refine .inl ⟨rfl, fun x x0 x1 => hk x x0 (by rw [ran_length]; omega)⟩
      · rintro (s | _) hs
        · simp only [Fin.cs]
          rcases hs with ⟨rfl, hk⟩ | ⟨x, x0, x1, hx, rfl⟩
          · simp only
            rw [W_id]
            refine .some ⟨⟨i + 1, by omega, by simp only; omega, h1, h2, h3, fun j x y hj hy x0 x1 => ?_, h5⟩, by simp only [Int.toNat_natCast]; omega⟩
            rcases Nat.lt_succ_iff_lt_or_eq.1 hj with h | rfl
            · exact h4 j x y h hy x0 x1
            · simp only at hy
              rw [hg] at hy; cases hy
              exact hk x x0 x1
          · simp only
            rw [show Pu.W (-1 + 1) = 0 from rfl]
            refine .some ⟨⟨0, rfl, by simp, hx, ⟨by simp [hv], fun j y z hy hz => ?_⟩, fun y hy => ?_, fun j y z h => by omega, fun hlow => ?_⟩, ?_⟩
            · rw [List.getElem?_set] at hy
              split at hy
              · rename_i e; subst e
                have h9 : x = y := by first | (split at hy; first | (cases hy; rfl) | cases hy) | (cases hy; rfl)
                have := h2.2 i _ z hg hz; omega
              · exact h2.2 j y z hy hz
            · rcases List.mem_or_eq_of_mem_set hy with h | h
              · exact h3 y h
              · subst h; omega
            · have := h5 hlow; subst this
              rw [hlow i x _ hg x0 x1] at hx; cases hx
            · have hws := wsum_set v i v[i] x hg
              simp only [Int.toNat_zero, List.length_set]
              have : wsum.wt' (v.set i x) + 1 ≤ wsum.wt' v := by omega
              have h62 : (wsum.wt' (v.set i x) + 1) * 62 ≤ wsum.wt' v * 62 := Nat.mul_le_mul_right _ this
              omega
        · exact hs.elim
    · rw [if_neg (by simp only; omega)]
      refine .some ⟨h1, h2, h3, fun j x y hy x0 x1 => h4 j x y ?_ hy x0 x1, h5⟩
      have : j < v.length := (List.getElem?_eq_some_iff.1 hy).1
      omega
  · have h1 := wsum_le w fun x hx => (hr x hx).2
    have h2 : wsum.wt' w ≤ 420 := by omega
    have h3 : wsum.wt' w * 62 ≤ 420 * 62 := Nat.mul_le_mul_right _ h2
    simp only [Int.toNat_zero]; omega
  · rintro (s | _) hs
    · exact .some ⟨rfl, hs⟩
    · exact hs.elim
theorem cmp_ok (a b : Int) : P.cmp_Compare_int a b = some (if a < b then -1 else if b < a then 1 else 0) := by
  simp only [P.cmp_Compare_int, P.cmp_isNaN_int, Option.bind_some, ne_eq, not_true_eq_false, decide_false, Bool.false_eq_true, if_false]
  split
  · rfl
  · split <;> rfl
theorem compare_le {v w : List Int} (h : Le1 v w) : Ok (P.slices_Compare_int_int v w) fun c => c ≤ 0 := by
  unfold P.slices_Compare_int_int
  refine Ok.bind (Q := fun | .out _ => True | .rt c => c ≤ 0) (forL_ok (fun _ _ => True) trivial ?_ fun _ _ => trivial) ?_
  · intro i x _ hx _
    have hi := (List.getElem?_eq_some_iff.1 hx).1
    have hw := h.1
    unfold P.slices_Compare_int_int.b0
    have hg : w[i]? = some (w[i]'(by omega)) := List.getElem?_eq_getElem _
    rw [if_neg (by omega), ix_nat, hg, Option.bind_some, cmp_ok, Option.bind_some]
    have h1 := h.2 i x _ hx hg
    have hc : (if x < w[i]'(by omega) then (-1 : Int) else if w[i]'(by omega) < x then 1 else 0) ≤ 0 := by
      split
      · omega
      · split <;> omega
    exact .ite (fun _ => .some hc) fun _ => .some trivial
  · rintro (_ | c) hc
    · exact .ite (fun _ => .some (by omega)) fun _ => .some (by omega)
    · exact .some hc
theorem shrinkAgain_plain (a0 : List Int) (a1 a2 : Int) : P.parlkeep5_ShrinkAgain 100000 a0 a1 a2 = some true := by
  refine Ok.eq ?_
  unfold P.parlkeep5_ShrinkAgain
  refine (word_ok a0 (by omega) (by omega) (by omega) (by omega)).bind fun w ⟨w1, w2⟩ => ?_
  have e2 : P.shrink_Word__parlkeep5_ShrinkAgain_1 100000 [1, 2] = some ([2], 0) := by
    obtain ⟨f, hf⟩ : ∃ f, 100000 = f + 10 := ⟨99990, rfl⟩
    rw [hf]; rfl
  rw [e2, Option.bind_some, if_neg (by simp), equali_ok _ _ (by simp) rfl, Option.bind_some, Option.bind_some, if_neg (by simp)]
  refine (fails_ok a1 a2).bind fun f _ => ?_
  rw [fl_eq, Option.bind_some]
  refine .ite (fun _ => .some rfl) fun hF => ?_
  have hF : Fl f.1 f.2 w = true := by simpa using hF
  refine (sword_ok (by omega) (by omega)).bind fun r hr => ?_
  rw [hF] at hr
  simp only [if_true] at hr
  obtain ⟨r2, ⟨l1, l2, l3⟩, -⟩ := hr
  have hlen := l2.length_le
  refine (sword_ok (by omega) (by omega)).bind fun m hm => ?_
  rw [l1] at hm
  simp only [if_true] at hm
  obtain ⟨m2, -, m3⟩ := hm
  have hrm := m3 l3
  refine (lower_ok (by omega) w2 hF (by omega)).bind fun x ⟨x0, x1, x2, x3, x4, _⟩ => ?_
  have hxl := x2.1
  refine (lower_ok (by omega) x3 x1 (by omega)).bind fun y ⟨y0, _, _, _, _, y5⟩ => ?_
  have hxy := y5 x4
  rw [if_pos (by simp [r2, m2, x0, y0]), equali_ok _ _ (by omega) hrm.symm, Option.bind_some, Option.bind_some, if_pos rfl, equali_ok _ _ (by omega) hxy.symm, Option.bind_some, Option.bind_some, if_pos (by simp [hxl])]
  refine Ok.bind (Q := fun b => b = true) ((compare_le x2).bind fun c hc => .some (by simpa using hc)) fun b hb => .some hb
end Go.Proofs.Ytbehlbabgomhfaa.Gr
