/- mean.derived and mean.Accepts. Own work. -/
import Derived.Test.YtcdhhelgoppleaaMean2
namespace Go.Proofs.Ytcdhhelgoppleaa.Gr
open Go Go.Ab Go.Pu
section
variable {g : Ty.api_Grammar} {w : List Int} {φ : Nat}
/-- What is so in a pass over the rules: M0 is the table at its beginning, D what is done. -/
structure PI (g : Ty.api_Grammar) (w : List Int) (M0 : List (List Int)) (D : Prop) (s : List (List Int) × Bool) : Prop where
  b : Bts s.1 g.Nons w.length
  sn : Snd g.Rules w s.1 g.Nons
  t : s.2 = true → tot M0 < tot s.1
  f : s.2 = false → s.1 = M0 ∧ D
theorem PI.mono {M0 : List (List Int)} {D E : Prop} {s : List (List Int) × Bool} (h : PI g w M0 D s) (k : s.2 = false → D → E) : PI g w M0 E s :=
  ⟨h.b, h.sn, h.t, fun q => ⟨(h.f q).1, k q (h.f q).2⟩⟩
def Don (w : List Int) (M0 : List (List Int)) (r : Ru) (i : Nat) : Prop := ∀ i' j : Nat, i' < i → Path M0 w r.Right i' j → (el2 M0 r.Left (i' : Int)).toNat.testBit j = true
theorem b3_ok (hg : Valid g) (hL : w.length ≤ 12) (hφ : 14 < φ) {M0 : List (List Int)} {D : Prop} {r : Ru} (hr : r ∈ g.Rules) {i : Nat} (hi : i ≤ w.length) {s : List (List Int) × Bool} (k : Int)
    (h : PI g w M0 (D ∧ Don w M0 r i) s) : Ok (P.mean_derived.b3 φ g w r k (i : Int) s) (PI g w M0 (D ∧ Don w M0 r (i + 1))) := by
  obtain ⟨l0, l1⟩ := hg.lft r hr
  have hin : InN g.Nons r.Right := fun y hy ht => ⟨(hg.sym r hr y hy).1, (hg.sym r hr y hy).2.2 ht⟩
  unfold P.mean_derived.b3
  rw [shl_eq (by omega) (by omega), Option.bind_some, Int.toNat_natCast]
  refine (fold_ok hL s h.b hin hi hφ).bind ?_
  rintro _ ⟨m, rfl, m1, m2⟩
  rw [h.b.dim.ix l0 l1, Option.bind_some, h.b.dim.ix2 l0 l1 (by omega) (by omega)]
  simp only [Option.bind_some]
  have h0 := h.b.lo r.Left i l0 l1 (by omega) (by omega)
  have h1 := h.b.hi r.Left i l0 l1 (by omega) (by omega)
  generalize hold : el2 s.1 r.Left (i : Int) = old at *
  obtain ⟨o, rfl⟩ := Int.eq_ofNat_of_zero_le h0
  rw [Int.toNat_natCast] at h1
  have hz := bandn_zero (p32 hL m1) (p32 hL h1)
  refine Ok.bind (Q := PI g w M0 (D ∧ Don w M0 r (i + 1))) (.ite (fun q => ?_) fun q => ?_) fun s h => .some h
  · have hix := h.b.dim.ix2 l0 l1 (show (0 : Int) ≤ i by omega) (show (i : Int) < w.length + 1 by omega)
    rw [hold] at hix
    simp only [hix, Option.bind_some]
    rw [bor_eq (p32 hL h1) (p32 hL m1)]
    have hb := Nat.or_lt_two_pow h1 m1
    have hlt : o < o ||| m := by
      refine Nat.lt_of_le_of_ne Nat.left_le_or fun e => q (hz.2 fun b hb => ?_)
      rw [e, Nat.testBit_or, hb, Bool.or_true]
    have ht := tot_st2 h.b (v := ((o ||| m : Nat) : Int)) l0 l1 (by omega : (0 : Int) ≤ i) (by omega)
    rw [hold, Int.toNat_natCast, Int.toNat_natCast] at ht
    have hle : tot M0 ≤ tot s.1 := by
      cases e : s.2 with
      | true => exact Nat.le_of_lt (h.t e)
      | false => rw [(h.f e).1]; exact Nat.le_refl _
    have hel : ∀ a' i' : Int, 0 ≤ a' → a' < g.Nons → 0 ≤ i' → el2 (st2 s.1 r.Left i ((o ||| m : Nat) : Int)) a' i' = if a' = r.Left ∧ i' = i then ((o ||| m : Nat) : Int) else el2 s.1 a' i' :=
      fun a' i' a0 _ i0 => h.b.dim.el_st2 l0 l1 (by omega) (by omega) a0 i0
    refine .some ⟨⟨h.b.dim.st2 l0 l1, fun a' i' a0 a1 i0 i1 => ?_, fun a' i' a0 a1 i0 i1 => ?_⟩, fun a' i' j a0 a1 i1 hb' => ?_, fun _ => ?_, fun e => by cases e⟩
    · refine Eq.subst (motive := fun z => 0 ≤ z) (hel a' i' a0 a1 i0).symm ?_
      split
      · omega
      · exact h.b.lo _ _ a0 a1 i0 i1
    · refine Eq.subst (motive := fun z => Int.toNat z < _) (hel a' i' a0 a1 i0).symm ?_
      split
      · exact hb
      · exact h.b.hi _ _ a0 a1 i0 i1
    · have hb2 : (if a' = r.Left ∧ (i' : Int) = i then ((o ||| m : Nat) : Int) else el2 s.1 a' i').toNat.testBit j = true :=
        Eq.subst (motive := fun z => (Int.toNat z).testBit j = true) (hel a' i' a0 a1 (by omega)) hb'
      by_cases e : a' = r.Left ∧ (i' : Int) = i
      · rw [if_pos e, Int.toNat_natCast, Nat.testBit_or, Bool.or_eq_true] at hb2
        obtain ⟨rfl, e2⟩ := e
        have e3 : i' = i := by omega
        subst e3
        rcases hb2 with hb2 | hb2
        · exact h.sn _ _ _ a0 a1 i1 (by rw [hold]; exact hb2)
        · exact .non hr rfl (path_der h.b h.sn hin i1 ((m2 j).1 hb2)) .nil
      · rw [if_neg e] at hb2
        exact h.sn _ _ _ a0 a1 i1 hb2
    · exact (show tot M0 < tot (st2 s.1 r.Left i ((o ||| m : Nat) : Int)) by omega)
  · have q := hz.1 (Decidable.not_not.1 q)
    refine .some (PI.mono (s := s) h fun e ⟨d1, d2⟩ => ⟨d1, fun i' j hi' hp => ?_⟩)
    rcases Nat.lt_succ_iff_lt_or_eq.1 hi' with hi' | rfl
    · exact d2 i' j hi' hp
    · rw [← (h.f e).1, hold]
      exact q j ((m2 j).2 (by rw [(h.f e).1]; exact hp))
theorem b2_ok (hg : Valid g) (hL : w.length ≤ 12) (hφ : 14 < φ) {M0 : List (List Int)} {k : Nat} {r : Ru} (hr : g.Rules[k]? = some r) {s : List (List Int) × Bool} (n : Int)
    (h : PI g w M0 (∀ k' r', k' < k → g.Rules[k']? = some r' → Don w M0 r' (w.length + 1)) s) :
    Ok (P.mean_derived.b2 φ g w n r s) (PI g w M0 (∀ k' r', k' < k + 1 → g.Rules[k']? = some r' → Don w M0 r' (w.length + 1))) := by
  have hr2 := List.mem_of_getElem? hr
  obtain ⟨l0, l1⟩ := hg.lft r hr2
  unfold P.mean_derived.b2
  have l2 := h.b.dim.2 r.Left l0 l1
  rw [h.b.dim.ix l0 l1, Option.bind_some, ranO_eq (by omega), Option.bind_some]
  refine Ok.bind (Q := PI g w M0 (∀ k' r', k' < k + 1 → g.Rules[k']? = some r' → Don w M0 r' (w.length + 1)))
    (forP_ok (fun i s => PI g w M0 ((∀ k' r', k' < k → g.Rules[k']? = some r' → Don w M0 r' (w.length + 1)) ∧ Don w M0 r i) s) (PI.mono (s := s) h fun _ d => ⟨d, fun i' j hi => by omega⟩) ?_ fun s h => ?_) fun s h => .some h
  · intro i x s hx h
    obtain ⟨rfl, hi⟩ := ran_at hx
    exact b3_ok hg hL hφ hr2 (by omega) _ h
  · rw [ran_length, l2] at h
    refine h.mono fun _ ⟨d1, d2⟩ k' r' hk' hr' => ?_
    rcases Nat.lt_succ_iff_lt_or_eq.1 hk' with hk' | rfl
    · exact d1 k' r' hk' hr'
    · rw [hr] at hr'; cases hr'; exact d2
theorem derived_ok (hg : Valid g) (hL : w.length ≤ 12) (hφ : 3000000 < φ) :
    Ok (P.mean_derived φ g w) fun e => ∃ M, e = ⟨g, w, M⟩ ∧ Bts M g.Nons w.length ∧ Snd g.Rules w M g.Nons ∧ Cls g.Rules w M := by
  have n1 := hg.n1; have n2 := hg.n2
  unfold P.mean_derived
  rw [mk_eq (by omega) (by omega) (by omega), Option.bind_some]
  have hl0 : ((List.replicate g.Nons.toNat ([] : List Int)).length : Int) = g.Nons := by rw [List.length_replicate]; omega
  rw [hl0, ranO_eq (by omega), Option.bind_some]
  refine Ok.bind (Q := fun M => Bts M g.Nons w.length ∧ Snd g.Rules w M g.Nons) (forP_ok (fun k M => (M.length : Int) = g.Nons ∧ ∀ a : Int, 0 ≤ a → a < k → el M a = List.replicate (w.length + 1) 0) ⟨hl0, fun a _ _ => by omega⟩ ?_ ?_) ?_
  · rintro k x M hx ⟨h1, h2⟩
    obtain ⟨rfl, hk⟩ := ran_at hx
    unfold P.mean_derived.b0
    rw [W_id, mk_eq (by omega) (by omega) (by omega), Option.bind_some, ix_el (by omega) (by omega), Option.bind_some]
    refine .some ⟨by rw [st_length]; exact h1, fun a a0 a1 => ?_⟩
    rw [el_st (by omega) (by omega) a0]
    split
    · congr 1
    · exact h2 a a0 (by omega)
  · rintro M ⟨h1, h2⟩
    rw [ran_length] at h2
    have h3 : ∀ a i : Int, 0 ≤ a → a < g.Nons → 0 ≤ i → i < (w.length : Int) + 1 → el2 M a i = 0 := fun a i a0 a1 i0 i1 => by
      unfold el2; rw [h2 a a0 (by omega)]; exact el_rep i0 (by omega)
    refine ⟨⟨⟨h1, fun a a0 a1 => by rw [h2 a a0 (by omega), List.length_replicate]; omega⟩, fun a i a0 a1 i0 i1 => by rw [h3 a i a0 a1 i0 i1]; omega, fun a i a0 a1 i0 i1 => by rw [h3 a i a0 a1 i0 i1]; exact Nat.two_pow_pos _⟩, fun a i j a0 a1 i1 hb => ?_⟩
    rw [h3 a i a0 a1 (by omega) (by omega)] at hb
    simp at hb
  rintro M ⟨b1, b2⟩
  have hB : ∀ M, Bts M g.Nons w.length → tot M ≤ 1064960 := fun M h => by
    refine Nat.le_trans (tot_le h) (Nat.le_trans (Nat.mul_le_mul (show g.Nons.toNat ≤ 10 by omega) (Nat.mul_le_mul (show w.length + 1 ≤ 13 by omega) (Nat.pow_le_pow_right (by omega) (show w.length + 1 ≤ 13 by omega)))) (by decide))
  refine Ok.bind (Q := fun | .out s => Bts s.1 g.Nons w.length ∧ Snd g.Rules w s.1 g.Nons ∧ Cls g.Rules w s.1 | .rt _ => False)
    (whl_ok (fun s => Bts s.1 g.Nons w.length ∧ Snd g.Rules w s.1 g.Nons ∧ (s.2 = false → Cls g.Rules w s.1)) (fun s => 2 * (1064960 - tot s.1) + s.2.toNat) ⟨b1, b2, fun e => by cases e⟩ ?_ (by simp; omega)) ?_
  · rintro ⟨M, mo⟩ ⟨c1, c2, c3⟩
    unfold P.mean_derived.b1
    refine .ite (fun e => ?_) fun e => .some ⟨c1, c2, c3 (by simpa using e)⟩
    have e : mo = true := e
    subst e
    refine Ok.bind (Q := PI g w M (Cls g.Rules w M)) (forP_ok (fun k s => PI g w M (∀ k' r', k' < k → g.Rules[k']? = some r' → Don w M r' (w.length + 1)) s) ⟨c1, c2, (fun e => by cases e), fun _ => ⟨rfl, fun k' r' h => by omega⟩⟩ ?_ ?_) ?_
    · intro k r s hr h
      exact b2_ok hg hL (by omega) hr _ h
    · intro s h
      refine h.mono fun _ d r hr i j hi hp => ?_
      obtain ⟨k, hk, rfl⟩ := List.mem_iff_getElem.1 hr
      exact d k _ hk (List.getElem?_eq_getElem hk) i j (by omega) hp
    · intro s h
      refine .some ⟨⟨h.b, h.sn, fun e => ?_⟩, ?_⟩
      · obtain ⟨a, b⟩ := h.f e; exact (show Cls g.Rules w s.1 by rw [a]; exact b)
      · have p1 := hB _ h.b
        have p2 := hB _ c1
        cases e : s.2 with
        | true => have := h.t e; simp only [Bool.toNat_true]; simp only at p2; omega
        | false => rw [(h.f e).1]; simp
  · rintro (s | _) h
    · exact .some ⟨_, rfl, h⟩
    · exact h.elim
theorem word_ok (hw : ∀ x ∈ w, 0 ≤ x ∧ x < g.Terms) (hL : w.length ≤ 12) : P.gram_Word g w 12 = some 0 := by
  refine Ok.eq ?_
  unfold P.gram_Word
  rw [if_neg (by omega)]
  refine Ok.bind (Q := fun | .out _ => True | .rt _ => False) (forL_ok (fun _ _ => True) trivial ?_ fun _ _ => trivial) ?_
  · intro i x s hx _
    obtain ⟨a, b⟩ := hw x (List.mem_of_getElem? hx)
    unfold P.gram_Word.b0
    rw [if_neg (by simp; omega)]
    exact .some trivial
  · rintro (_ | _) h
    · exact .some rfl
    · exact h.elim
/-- A grammar has a word just if there is a derivation. -/
theorem accepts_ok (hg : Valid g) (hw : ∀ x ∈ w, 0 ≤ x ∧ x < g.Terms) (hL : w.length ≤ 12) (hφ : 3000000 < φ) :
    Ok (P.mean_Accepts φ g w) fun r => r.2 = 0 ∧ (r.1 = true ↔ Der g.Rules w [⟨false, g.Start⟩] 0 w.length) := by
  have s1 := hg.s1; have s2 := hg.s2
  unfold P.mean_Accepts P.mean_check
  rw [check_ok hg, Option.bind_some, if_neg (by simp), word_ok hw hL]
  simp only [Option.bind_some, ne_eq, not_true_eq_false, if_false]
  refine (derived_ok hg hL hφ).bind ?_
  rintro _ ⟨M, rfl, h1, h2, h3⟩
  unfold P.mean_ends_is
  rw [shl_eq (by omega) (by omega), Option.bind_some]
  refine Ok.bind (Q := fun b => b = true ↔ Der g.Rules w [⟨false, g.Start⟩] 0 w.length) (Ok.bind (after_ok hL h1 (fun _ => ⟨s1, s2⟩) (Nat.pow_lt_pow_right (by omega) (by simp)) (by omega)) ?_) fun b h => .some ⟨rfl, h⟩
  rintro _ ⟨m, rfl, m1, m2⟩
  rw [shr_eq (by omega) (by omega), Option.bind_some, bit_eq (p32 hL m1), Int.toNat_natCast]
  refine .some ?_
  have : m.testBit w.length = true ↔ Der g.Rules w [⟨false, g.Start⟩] 0 w.length := by
    rw [m2]
    constructor
    · rintro ⟨i, a, b⟩
      rw [Nat.testBit_two_pow, decide_eq_true_eq] at a
      have a' : 0 = i := a
      subst a'
      rcases b with b | b
      · cases b.1
      · exact h2 _ 0 _ s1 s2 (by omega) b.2
    · intro d
      obtain ⟨⟨k, b, c⟩, _⟩ := der_path h3 d (by omega)
      cases (show k = w.length from c)
      exact ⟨0, by decide, b⟩
  rw [← this]
  cases m.testBit w.length <;> simp
end
end Go.Proofs.Ytcdhhelgoppleaa.Gr
