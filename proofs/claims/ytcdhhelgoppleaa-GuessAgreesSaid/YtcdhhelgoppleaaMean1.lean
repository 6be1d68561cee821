/- Which words a grammar has: mean.Accepts. Own work. -/
import Derived.Test.YtcdhhelgoppleaaP
import Derived.Test.YtcdhhelgoppleaaGrV
import Derived.Test.YtcdhhelgoppleaaBits
import Derived.Test.YtcdhhelgoppleaaDers
namespace Go.Proofs.Ytcdhhelgoppleaa.Gr
open Go Go.Ab Go.Pu
theorem p32 {n L : Nat} (hL : L ≤ 12) (h : n < 2 ^ (L + 1)) : n < 2 ^ 32 := Nat.lt_of_lt_of_le h (Nat.pow_le_pow_right (by omega) (by omega))
theorem after_ok {g : Ty.api_Grammar} {w : List Int} {M : List (List Int)} {nons : Int} (hL : w.length ≤ 12) (hM : Bts M nons w.length) {y : Sy} (hy : y.Term = false → 0 ≤ y.N ∧ y.N < nons)
    {x : Nat} (hx : x < 2 ^ (w.length + 1)) {φ : Nat} (hφ : 14 < φ) :
    Ok (P.mean_ends_after φ ⟨g, w, M⟩ y (x : Int)) fun z => ∃ m : Nat, z = m ∧ m < 2 ^ (w.length + 1) ∧ ∀ j, m.testBit j = true ↔ ∃ i, x.testBit i = true ∧ Hop M w y i j := by
  unfold P.mean_ends_after
  let I : Int × Int → Prop := fun s => ∃ m k : Nat, s = ((m : Int), (k : Int)) ∧ k ≤ w.length + 1 ∧ m < 2 ^ (w.length + 1) ∧ ∀ j, m.testBit j = true ↔ ∃ i, i < k ∧ x.testBit i = true ∧ Hop M w y i j
  refine Ok.bind (Q := fun | .out s => ∃ m : Nat, s.1 = m ∧ m < 2 ^ (w.length + 1) ∧ ∀ j, m.testBit j = true ↔ ∃ i, x.testBit i = true ∧ Hop M w y i j | .rt _ => False)
    (whl_ok I (fun s => (w.length + 1 - s.2).toNat) ⟨0, 0, rfl, by omega, Nat.two_pow_pos _, by simp⟩ ?_ (by simp; omega)) ?_
  · rintro _ ⟨m, k, rfl, hk, hm, hj⟩
    unfold P.mean_ends_after.b0
    refine .ite (fun h => ?_) fun h => .some ⟨m, rfl, hm, fun j => (hj j).trans ⟨fun ⟨i, _, a⟩ => ⟨i, a⟩, fun ⟨i, a, b⟩ => ⟨i, by have := bit_low hx a; simp only at h; omega, a, b⟩⟩⟩
    simp only at h
    have hx32 := p32 hL hx
    have hm32 := p32 hL hm
    have e1 := shr_eq (n := x) (i := (k : Int)) (by omega) (by omega)
    have e2 := bit_eq (n := x) (i := (k : Int)) hx32
    dsimp only
    rw [e1, Option.bind_some, e2, Int.toNat_natCast]
    have e3 : Pu.W ((k : Int) + 1) = ((k + 1 : Nat) : Int) := by rw [W_id]; omega
    rw [e3]
    have next : ∀ m' : Nat, m' < 2 ^ (w.length + 1) → (∀ j, m'.testBit j = true ↔ m.testBit j = true ∨ (x.testBit k = true ∧ Hop M w y k j)) → I ((m' : Int), ((k + 1 : Nat) : Int)) ∧ ((w.length : Int) + 1 - ((k + 1 : Nat) : Int)).toNat < ((w.length : Int) + 1 - (k : Int)).toNat := by
      intro m' h1 h2
      refine ⟨⟨m', k + 1, rfl, by omega, h1, fun j => ?_⟩, by omega⟩
      rw [h2, hj]
      constructor
      · rintro (⟨i, a, b⟩ | ⟨a, b⟩)
        · exact ⟨i, by omega, b⟩
        · exact ⟨k, by omega, a, b⟩
      · rintro ⟨i, a, b⟩
        rcases Nat.lt_succ_iff_lt_or_eq.1 a with h | rfl
        · exact .inl ⟨i, h, b⟩
        · exact .inr b
    cases hb : x.testBit k with
    | false =>
      rw [if_pos (by simp)]
      exact .some (next m hm fun j => by rw [hb]; simp)
    | true =>
      rw [if_neg (by simp)]
      refine Ok.bind (Q := fun z : Int => ∃ m' : Nat, z = (m' : Int) ∧ m' < 2 ^ (w.length + 1) ∧ ∀ j, m'.testBit j = true ↔ m.testBit j = true ∨ (x.testBit k = true ∧ Hop M w y k j)) ?_ ?_
      · refine .ite (fun ht => ?_) fun ht => ?_
        · have ht' : y.Term = false := by simpa using ht
          obtain ⟨y0, y1⟩ := hy ht'
          rw [hM.dim.ix y0 y1, Option.bind_some, hM.dim.ix2 y0 y1 (by omega) (by omega), Option.bind_some]
          have h0 := hM.lo y.N k y0 y1 (by omega) (by omega)
          have h1 := hM.hi y.N k y0 y1 (by omega) (by omega)
          have e4 := bor_eq hm32 (p32 hL h1)
          rw [Int.toNat_of_nonneg h0] at e4
          refine .some ⟨_, e4, Nat.or_lt_two_pow hm h1, fun j => ?_⟩
          rw [Nat.testBit_or, Bool.or_eq_true]
          refine or_congr_right ⟨fun q => ⟨hb, .inr ⟨ht', q⟩⟩, fun ⟨_, q⟩ => ?_⟩
          rcases q with q | q
          · rw [ht'] at q; cases q.1
          · exact q.2
        · have ht' : y.Term = true := by simpa using ht
          have no : ∀ j, w[k]? ≠ some y.N → ¬ Hop M w y k j := fun j q r => by
            rcases r with r | r
            · exact q r.2.1
            · rw [ht'] at r; cases r.1
          refine Ok.bind (Q := fun b => b = true ↔ w[k]? = some y.N) (.ite (fun q => ?_) fun q => ?_) fun b hb2 => ?_
          · have q' : k < w.length := by simpa using q
            rw [ix_el (by omega) (by omega), Option.bind_some]
            refine .some ?_
            rw [get_el q']; simp
          · have q' : ¬ k < w.length := by simpa using q
            refine .some ?_
            rw [List.getElem?_eq_none (by omega)]; simp
          · refine Ok.bind (Q := fun z : Int => ∃ m' : Nat, z = (m' : Int) ∧ m' < 2 ^ (w.length + 1) ∧ ∀ j, m'.testBit j = true ↔ m.testBit j = true ∨ (x.testBit k = true ∧ Hop M w y k j)) (.ite (fun q => ?_) fun q => ?_) fun z hz => .some hz
            · have q' := hb2.1 q
              have q2 := (List.getElem?_eq_some_iff.1 q').1
              rw [shl_eq (by omega) (by omega), Option.bind_some]
              have h1 : 2 ^ (k + 1) < 2 ^ (w.length + 1) := Nat.pow_lt_pow_right (by omega) (by omega)
              refine .some ⟨_, bor_eq hm32 (p32 hL h1), Nat.or_lt_two_pow hm h1, fun j => ?_⟩
              rw [Nat.testBit_or, Bool.or_eq_true, Int.toNat_natCast, Nat.testBit_two_pow, decide_eq_true_eq]
              refine or_congr_right ⟨fun q => ⟨hb, .inl ⟨ht', q', q.symm⟩⟩, fun ⟨_, q⟩ => ?_⟩
              rcases q with q | q
              · exact q.2.2.symm
              · rw [ht'] at q; cases q.1
            · refine .some ⟨m, rfl, hm, fun j => ⟨.inl, fun r => r.resolve_right fun r => no j (fun q2 => q (hb2.2 q2)) r.2⟩⟩
      · rintro z ⟨m', rfl, h1, h2⟩
        exact .some (next m' h1 h2)
  · rintro (s | _) h
    · exact .some h
    · exact h.elim
end Go.Proofs.Ytcdhhelgoppleaa.Gr
