/- guess.accepts: it tells whether a small grammar has a word. Own work. -/
import Derived.Test.YtcdhhelgoppleaaP
import Derived.Test.YtcdhhelgoppleaaDers
import Derived.Test.YtcdhhelgoppleaaBits64
namespace Go.Proofs.Ytcdhhelgoppleaa.Gr
open Go Go.Ab Go.Pu
/-- The array as a table. -/
def tb (L : Nat) (us : List Int) : List (List Int) := [us.take (L + 1), (us.drop 6).take (L + 1)]
theorem tb_dim {L : Nat} {us : List Int} (h : us.length = 12) (hL : L ≤ 5) : Dim (tb L us) 2 (L + 1) := by
  refine ⟨rfl, fun i i0 i1 => ?_⟩
  rcases (by omega : i = 0 ∨ i = 1) with rfl | rfl
  · show ((us.take (L + 1)).length : Int) = _; simp; omega
  · show (((us.drop 6).take (L + 1)).length : Int) = _; simp; omega
theorem tb_el {L : Nat} {us : List Int} {a i : Int} (a0 : 0 ≤ a) (a1 : a < 2) (i0 : 0 ≤ i) (i1 : i < (L : Int) + 1) : el2 (tb L us) a i = el us ((a.toNat * 6 + i.toNat : Nat) : Int) := by
  obtain ⟨i, rfl⟩ := Int.eq_ofNat_of_zero_le i0
  rcases (by omega : a = 0 ∨ a = 1) with rfl | rfl
  · show el (us.take (L + 1)) _ = _
    unfold el
    rw [Int.toNat_natCast, List.getElem?_take, if_pos (by omega)]
    simp
  · show el ((us.drop 6).take (L + 1)) _ = _
    rw [show ((1 : Int).toNat * 6 + ((i : Int)).toNat) = 6 + i by simp]
    unfold el
    rw [Int.toNat_natCast, Int.toNat_natCast, List.getElem?_take, if_pos (by omega), List.getElem?_drop]
theorem ax_el {L : Nat} {us : List Int} (h : us.length = 12) (hL : L ≤ 5) {a i : Int} (a0 : 0 ≤ a) (a1 : a < 2) (i0 : 0 ≤ i) (i1 : i < (L : Int) + 1) :
    Pu.ax us ((0 + a.toNat * 6) + i.toNat * 1) = some (el2 (tb L us) a i) := by
  rw [tb_el a0 a1 i0 i1]
  unfold Pu.ax
  have : (0 + a.toNat * 6) + i.toNat * 1 = a.toNat * 6 + i.toNat := by omega
  rw [this]
  exact get_el (by omega)
theorem as_tb {L : Nat} {us : List Int} (h : us.length = 12) (hL : L ≤ 5) {a i : Int} (a0 : 0 ≤ a) (a1 : a < 2) (i0 : 0 ≤ i) (i1 : i < (L : Int) + 1) (v : Int) :
    ∃ us', Pu.as us ((0 + a.toNat * 6) + i.toNat * 1) v = some us' ∧ us'.length = 12 ∧ tb L us' = st2 (tb L us) a i v := by
  have : (0 + a.toNat * 6) + i.toNat * 1 = a.toNat * 6 + i.toNat := by omega
  rw [this]
  refine ⟨us.set (a.toNat * 6 + i.toNat) v, by unfold Pu.as; rw [if_pos (by omega)], by simpa using h, ?_⟩
  obtain ⟨i, rfl⟩ := Int.eq_ofNat_of_zero_le i0
  rcases (by omega : a = 0 ∨ a = 1) with rfl | rfl
  · show [(us.set _ v).take (L + 1), ((us.set _ v).drop 6).take (L + 1)] = [(us.take (L + 1)).set _ v, (us.drop 6).take (L + 1)]
    have e1 : ((0 : Int).toNat * 6 + (i : Int).toNat) = i := by simp
    rw [e1, List.take_set, List.drop_set_of_lt (by omega)]
    rfl
  · show [(us.set _ v).take (L + 1), ((us.set _ v).drop 6).take (L + 1)] = [us.take (L + 1), ((us.drop 6).take (L + 1)).set _ v]
    have e1 : ((1 : Int).toNat * 6 + (i : Int).toNat) = 6 + i := by simp
    rw [e1, List.take_set_of_le (by omega), List.drop_set, if_neg (by omega), List.take_set]
    simp
theorem ixa_eq {n : Nat} {j : Int} (h0 : 0 ≤ j) (h1 : j < n) : Pu.ixa n j = some j.toNat := by unfold Pu.ixa; rw [if_pos ⟨h0, h1⟩]
theorem p64 {n L : Nat} (hL : L ≤ 5) (h : n < 2 ^ (L + 1)) : n < 2 ^ 64 := Nat.lt_of_lt_of_le h (Nat.pow_le_pow_right (by omega) (by omega))
section
variable {w : List Int} {us : List Int}
theorem gafter_ok (hl : us.length = 12) (hL : w.length ≤ 5) (hM : Bts (tb w.length us) 2 w.length) {y : Sy} (hy : y.Term = false → 0 ≤ y.N ∧ y.N < 2) {k : Nat} (hk : k ≤ w.length) :
    Ok (P.guess_accepts_1 y (k : Int) us w) fun z => ∃ m : Nat, z = m ∧ m < 2 ^ (w.length + 1) ∧ ∀ j, m.testBit j = true ↔ Hop (tb w.length us) w y k j := by
  unfold P.guess_accepts_1
  refine .ite (fun ht => ?_) fun ht => ?_
  · have ht' : y.Term = false := by simpa using ht
    obtain ⟨y0, y1⟩ := hy ht'
    rw [ixa_eq y0 (by omega), Option.bind_some, ixa_eq (by omega) (by omega), Option.bind_some]
    have e := ax_el hl hL y0 y1 (show (0 : Int) ≤ k by omega) (by omega : (k : Int) < (w.length : Int) + 1)
    rw [e, Option.bind_some]
    have h0 := hM.lo y.N k y0 y1 (by omega) (by omega)
    have h1 := hM.hi y.N k y0 y1 (by omega) (by omega)
    refine .some ⟨(el2 (tb w.length us) y.N k).toNat, by omega, h1, fun j => ⟨fun q => .inr ⟨ht', q⟩, fun q => ?_⟩⟩
    rcases q with q | q
    · rw [ht'] at q; cases q.1
    · exact q.2
  · have ht' : y.Term = true := by simpa using ht
    refine Ok.bind (Q := fun b => b = true ↔ w[k]? = some y.N) (.ite (fun q => ?_) fun q => ?_) fun b hb2 => ?_
    · have q' : k < w.length := by simpa using q
      rw [ix_el (by omega) (by omega), Option.bind_some]
      refine .some ?_
      rw [get_el q']; simp
    · have q' : ¬ k < w.length := by simpa using q
      refine .some ?_
      rw [List.getElem?_eq_none (by omega)]; simp
    · refine .ite (fun q => ?_) fun q => ?_
      · have q' := hb2.1 q
        have q2 := (List.getElem?_eq_some_iff.1 q').1
        have e3 : Pu.W ((k : Int) + 1) = ((k + 1 : Nat) : Int) := by rw [W_id]; omega
        rw [e3, shl64 (by omega) (by omega), Option.bind_some, Int.toNat_natCast]
        refine .some ⟨_, rfl, Nat.pow_lt_pow_right (by omega) (by omega), fun j => ?_⟩
        rw [Nat.testBit_two_pow, decide_eq_true_eq]
        refine ⟨fun q => .inl ⟨ht', q', q.symm⟩, fun q => ?_⟩
        rcases q with q | q
        · exact q.2.2.symm
        · rw [ht'] at q; cases q.1
      · refine .some ⟨0, rfl, Nat.two_pow_pos _, fun j => ⟨fun r => by simp at r, fun r => ?_⟩⟩
        rcases r with r | r
        · exact absurd (hb2.2 r.2.1) q
        · rw [ht'] at r; cases r.1
theorem ginner_ok (hl : us.length = 12) (hL : w.length ≤ 5) (hM : Bts (tb w.length us) 2 w.length) {y : Sy} (hy : y.Term = false → 0 ≤ y.N ∧ y.N < 2) (c : Bool) {x i0 : Nat} (hx : x < 2 ^ (w.length + 1)) (hi : i0 ≤ w.length) (hlo : ∀ k, x.testBit k = true → i0 ≤ k) {φ : Nat} (hφ : 14 < φ) :
    Ok (Pu.whl (P.guess_accepts.b4 w (us, c) (x : Int) y) φ (0, (i0 : Int))) fun | .out s => ∃ m : Nat, s.1 = m ∧ m < 2 ^ (w.length + 1) ∧ ∀ j, m.testBit j = true ↔ ∃ i, x.testBit i = true ∧ Hop (tb w.length us) w y i j | .rt _ => False := by
  let I : Int × Int → Prop := fun s => ∃ m k : Nat, s = ((m : Int), (k : Int)) ∧ i0 ≤ k ∧ k ≤ w.length + 1 ∧ m < 2 ^ (w.length + 1) ∧ ∀ j, m.testBit j = true ↔ ∃ i, i < k ∧ x.testBit i = true ∧ Hop (tb w.length us) w y i j
  refine whl_ok I (fun s => (w.length + 1 - s.2).toNat) ⟨0, i0, rfl, Nat.le_refl _, by omega, Nat.two_pow_pos _, fun j => ⟨fun h => by simp at h, fun ⟨i, a, b, _⟩ => absurd (hlo i b) (by omega)⟩⟩ ?_ (by simp; omega)
  rintro _ ⟨m, k, rfl, hk0, hk, hm, hj⟩
  unfold P.guess_accepts.b4
  refine .ite (fun h => ?_) fun h => .some ⟨m, rfl, hm, fun j => (hj j).trans ⟨fun ⟨i, _, a⟩ => ⟨i, a⟩, fun ⟨i, a, b⟩ => ⟨i, by have := bit_low hx a; simp only at h; omega, a, b⟩⟩⟩
  simp only at h
  have hx64 := p64 hL hx
  have hm64 := p64 hL hm
  have e1 := shr64 (n := x) (i := (k : Int)) (by omega) (by omega)
  have e2 := bit64 (n := x) (i := (k : Int)) hx64
  dsimp only
  rw [e1, Option.bind_some, e2, Int.toNat_natCast]
  have e3 : Pu.W ((k : Int) + 1) = ((k + 1 : Nat) : Int) := by rw [W_id]; omega
  rw [e3]
  have next : ∀ m' : Nat, m' < 2 ^ (w.length + 1) → (∀ j, m'.testBit j = true ↔ m.testBit j = true ∨ (x.testBit k = true ∧ Hop (tb w.length us) w y k j)) → I ((m' : Int), ((k + 1 : Nat) : Int)) ∧ ((w.length : Int) + 1 - ((k + 1 : Nat) : Int)).toNat < ((w.length : Int) + 1 - (k : Int)).toNat := by
    intro m' h1 h2
    refine ⟨⟨m', k + 1, rfl, by omega, by omega, h1, fun j => ?_⟩, by omega⟩
    rw [h2, hj]
    constructor
    · rintro (⟨i, a, b⟩ | ⟨a, b⟩)
      · exact ⟨i, by omega, b⟩
      · exact ⟨k, by omega, a, b⟩
    · rintro ⟨i, a, b⟩
      rcases Nat.lt_succ_iff_lt_or_eq.1 a with h | rfl
      · exact .inl ⟨i, h, b⟩
      · exact .inr b
  refine Ok.bind (Q := fun z : Int => ∃ m' : Nat, z = (m' : Int) ∧ m' < 2 ^ (w.length + 1) ∧ ∀ j, m'.testBit j = true ↔ m.testBit j = true ∨ (x.testBit k = true ∧ Hop (tb w.length us) w y k j)) ?_ ?_
  · cases hb : x.testBit k with
    | false =>
      rw [if_neg (by simp)]
      exact .some ⟨m, rfl, hm, fun j => by simp⟩
    | true =>
      rw [if_pos (by simp)]
      refine (gafter_ok hl hL hM hy (by omega)).bind ?_
      rintro _ ⟨m', rfl, h1, h2⟩
      refine .some ⟨m ||| m', bor64 hm64 (p64 hL h1), Nat.or_lt_two_pow hm h1, fun j => ?_⟩
      rw [Nat.testBit_or, Bool.or_eq_true, h2]
      simp
  · rintro z ⟨m', rfl, h1, h2⟩
    exact .some (next m' h1 h2)
variable {R : List Ru}
theorem path_le (hM : Bts (tb w.length us) 2 w.length) (hS : Snd R w (tb w.length us) 2) {l : List Sy} (hl : InN 2 l) {i j : Nat} (hi : i ≤ w.length) (h : Path (tb w.length us) w l i j) : i ≤ j := (path_der hM hS hl hi h).le
theorem gfold_ok (hu : us.length = 12) (hL : w.length ≤ 5) (hM : Bts (tb w.length us) 2 w.length) (hS : Snd R w (tb w.length us) 2) (c : Bool) {l : List Sy} (hl : InN 2 l) {i : Nat} (hi : i ≤ w.length) {φ : Nat} (hφ : 14 < φ) :
    Ok (Pu.forP (P.guess_accepts.b3 φ w (us, c) (i : Int)) 0 l ((2 ^ i : Nat) : Int)) fun z => ∃ m : Nat, z = m ∧ m < 2 ^ (w.length + 1) ∧ ∀ j, m.testBit j = true ↔ Path (tb w.length us) w l i j := by
  refine forP_ok (fun k z => ∃ m : Nat, z = (m : Int) ∧ m < 2 ^ (w.length + 1) ∧ ∀ j, m.testBit j = true ↔ Path (tb w.length us) w (l.take k) i j) ⟨_, rfl, Nat.pow_lt_pow_right (by omega) (by omega), fun j => ?_⟩ ?_ fun z h => ?_
  · rw [Nat.testBit_two_pow, decide_eq_true_eq]; exact Iff.rfl
  · rintro k y _ hk ⟨m, rfl, h1, h2⟩
    unfold P.guess_accepts.b3
    have hlk : InN 2 (l.take k) := fun z hz => hl z (List.mem_of_mem_take hz)
    refine Ok.bind (ginner_ok hu hL hM (hl y (List.mem_of_getElem? hk)) c h1 hi (fun q hq => path_le hM hS hlk hi ((h2 q).1 hq)) hφ) ?_
    rintro (s | _) h
    · obtain ⟨m', e, h3, h4⟩ := h
      refine .some ⟨m', e, h3, fun j => ?_⟩
      have e : l.take (k + 1) = l.take k ++ [y] := by rw [List.take_add_one, hk]; rfl
      rw [e, path_snoc, h4]
      exact ⟨fun ⟨z, a, b⟩ => ⟨z, (h2 z).1 a, b⟩, fun ⟨z, a, b⟩ => ⟨z, (h2 z).2 a, b⟩⟩
    · exact h.elim
  · rwa [List.take_length] at h
/-- A grammar of at most two nonterminals. -/
def GV (R : List Ru) : Prop := ∀ r ∈ R, (0 ≤ r.Left ∧ r.Left < 2) ∧ InN 2 r.Right
structure GI (R : List Ru) (w : List Int) (M0 : List (List Int)) (D : Prop) (s : List Int × Bool) : Prop where
  l : s.1.length = 12
  b : Bts (tb w.length s.1) 2 w.length
  sn : Snd R w (tb w.length s.1) 2
  t : s.2 = true → tot M0 < tot (tb w.length s.1)
  f : s.2 = false → tb w.length s.1 = M0 ∧ D
theorem GI.mono {M0 : List (List Int)} {D E : Prop} {s : List Int × Bool} (h : GI R w M0 D s) (k : s.2 = false → D → E) : GI R w M0 E s :=
  ⟨h.l, h.b, h.sn, h.t, fun q => ⟨(h.f q).1, k q (h.f q).2⟩⟩
def GDon (w : List Int) (M0 : List (List Int)) (r : Ru) (i : Nat) : Prop := ∀ i' j : Nat, i' < i → Path M0 w r.Right i' j → (el2 M0 r.Left (i' : Int)).toNat.testBit j = true
theorem gb2_ok (hg : GV R) (hL : w.length ≤ 5) {φ : Nat} (hφ : 14 < φ) {M0 : List (List Int)} {D : Prop} {r : Ru} (hr : r ∈ R) {i : Nat} (hi : i ≤ w.length) {s : List Int × Bool} (k : Int)
    (h : GI R w M0 (D ∧ GDon w M0 r i) s) : Ok (P.guess_accepts.b2 φ w r k (i : Int) s) (GI R w M0 (D ∧ GDon w M0 r (i + 1))) := by
  obtain ⟨⟨l0, l1⟩, hin⟩ := hg r hr
  obtain ⟨us, c⟩ := s
  unfold P.guess_accepts.b2
  rw [shl64 (by omega) (by omega), Option.bind_some, Int.toNat_natCast]
  refine (gfold_ok h.l hL h.b h.sn c hin hi hφ).bind ?_
  rintro _ ⟨m, rfl, m1, m2⟩
  have i0 : (0 : Int) ≤ i := by omega
  have i1 : (i : Int) < (w.length : Int) + 1 := by omega
  have ea := ax_el h.l hL l0 l1 i0 i1
  dsimp only at ea ⊢
  rw [ixa_eq l0 (by omega), Option.bind_some, ixa_eq i0 (by omega), Option.bind_some, ea, Option.bind_some]
  have h0 := h.b.lo r.Left i l0 l1 i0 i1
  have h1 := h.b.hi r.Left i l0 l1 i0 i1
  dsimp only at h0 h1
  generalize hold : el2 (tb w.length us) r.Left (i : Int) = old at *
  obtain ⟨o, rfl⟩ := Int.eq_ofNat_of_zero_le h0
  rw [Int.toNat_natCast] at h1
  have hz := bandn64 (p64 hL m1) (p64 hL h1)
  refine Ok.bind (Q := GI R w M0 (D ∧ GDon w M0 r (i + 1))) (.ite (fun q => ?_) fun q => ?_) fun s h => .some h
  · simp only [ixa_eq l0 (show r.Left < (2 : Nat) by omega), ixa_eq i0 (show (i : Int) < (6 : Nat) by omega), ea, Option.bind_some]
    rw [bor64 (p64 hL h1) (p64 hL m1)]
    obtain ⟨us', ha, hl', ht'⟩ := as_tb h.l hL l0 l1 i0 i1 ((o ||| m : Nat) : Int)
    dsimp only at ha ht'
    rw [ha, Option.bind_some]
    have hb := Nat.or_lt_two_pow h1 m1
    have hlt : o < o ||| m := by
      refine Nat.lt_of_le_of_ne Nat.left_le_or fun e => q (hz.2 fun b hb => ?_)
      rw [e, Nat.testBit_or, hb, Bool.or_true]
    have ht := tot_st2 h.b (v := ((o ||| m : Nat) : Int)) l0 l1 i0 i1
    dsimp only at ht
    rw [hold, Int.toNat_natCast, Int.toNat_natCast] at ht
    have hle : tot M0 ≤ tot (tb w.length us) := by
      cases e : c with
      | true => exact Nat.le_of_lt (h.t e)
      | false => rw [← (h.f e).1]; exact Nat.le_refl _
    have hel : ∀ a' i' : Int, 0 ≤ a' → a' < 2 → 0 ≤ i' → el2 (st2 (tb w.length us) r.Left i ((o ||| m : Nat) : Int)) a' i' = if a' = r.Left ∧ i' = i then ((o ||| m : Nat) : Int) else el2 (tb w.length us) a' i' :=
      fun a' i' a0 _ i0' => h.b.dim.el_st2 l0 l1 i0 i1 a0 i0'
    have B : Bts (tb w.length us') 2 w.length := by
      rw [ht']
      refine ⟨h.b.dim.st2 l0 l1, fun a' i' a0 a1 j0 j1 => ?_, fun a' i' a0 a1 j0 j1 => ?_⟩
      · rw [hel a' i' a0 a1 j0]
        split
        · omega
        · exact h.b.lo _ _ a0 a1 j0 j1
      · rw [hel a' i' a0 a1 j0]
        split
        · exact hb
        · exact h.b.hi _ _ a0 a1 j0 j1
    refine .some ⟨hl', B, fun a' i' j a0 a1 j1 hb' => ?_, fun _ => ?_, fun e => by cases e⟩
    · have hb2 : (el2 (tb w.length us') a' (i' : Int)).toNat.testBit j = true := hb'
      rw [ht', hel a' i' a0 a1 (by omega)] at hb2
      by_cases e : a' = r.Left ∧ (i' : Int) = i
      · rw [if_pos e, Int.toNat_natCast, Nat.testBit_or, Bool.or_eq_true] at hb2
        obtain ⟨rfl, e2⟩ := e
        have e3 : i' = i := by omega
        subst e3
        rcases hb2 with hb2 | hb2
        · exact h.sn _ _ _ a0 a1 j1 (by rw [hold]; exact hb2)
        · exact .non hr rfl (path_der h.b h.sn hin j1 ((m2 j).1 hb2)) .nil
      · rw [if_neg e] at hb2
        exact h.sn _ _ _ a0 a1 j1 hb2
    · show tot M0 < tot (tb w.length us')
      rw [ht']; omega
  · have q := hz.1 (Decidable.not_not.1 q)
    refine .some (GI.mono (s := (us, c)) h fun e ⟨d1, d2⟩ => ⟨d1, fun i' j hi' hp => ?_⟩)
    rcases Nat.lt_succ_iff_lt_or_eq.1 hi' with hi' | rfl
    · exact d2 i' j hi' hp
    · have e1 := (h.f e).1
      dsimp only at e1
      rw [← e1, hold]
      exact q j ((m2 j).2 (by rw [e1]; exact hp))
theorem gb1_ok (hg : GV R) (hL : w.length ≤ 5) {φ : Nat} (hφ : 14 < φ) {M0 : List (List Int)} {k : Nat} {r : Ru} (hr : R[k]? = some r) {s : List Int × Bool} (n : Int)
    (h : GI R w M0 (∀ k' r', k' < k → R[k']? = some r' → GDon w M0 r' (w.length + 1)) s) :
    Ok (P.guess_accepts.b1 φ w n r s) (GI R w M0 (∀ k' r', k' < k + 1 → R[k']? = some r' → GDon w M0 r' (w.length + 1))) := by
  have hr2 := List.mem_of_getElem? hr
  unfold P.guess_accepts.b1
  rw [W_id, ranO_eq (by omega), Option.bind_some]
  refine Ok.bind (Q := GI R w M0 (∀ k' r', k' < k + 1 → R[k']? = some r' → GDon w M0 r' (w.length + 1)))
    (forP_ok (fun i s => GI R w M0 ((∀ k' r', k' < k → R[k']? = some r' → GDon w M0 r' (w.length + 1)) ∧ GDon w M0 r i) s) (GI.mono (s := s) h fun _ d => ⟨d, fun i' j hi => by omega⟩) ?_ fun s h => ?_) fun s h => .some h
  · intro i x s hx h
    obtain ⟨rfl, hi⟩ := ran_at hx
    exact gb2_ok hg hL hφ hr2 (by omega) _ h
  · rw [ran_length] at h
    have e : ((w.length : Int) + 1).toNat = w.length + 1 := by omega
    rw [e] at h
    refine h.mono fun _ ⟨d1, d2⟩ k' r' hk' hr' => ?_
    rcases Nat.lt_succ_iff_lt_or_eq.1 hk' with hk' | rfl
    · exact d1 k' r' hk' hr'
    · rw [hr] at hr'; cases hr'; exact d2
set_option maxHeartbeats 2000000 in
/-- It tells whether there is a derivation. -/
theorem gaccepts_ok {g : Ty.api_Grammar} (hg : GV g.Rules) (hL : w.length ≤ 5) {φ : Nat} (hφ : 2000 < φ) : Ok (P.guess_accepts φ g w) fun b => b = true ↔ Der g.Rules w [⟨false, 0⟩] 0 w.length := by
  unfold P.guess_accepts
  have hB : ∀ M, Bts M 2 w.length → tot M ≤ 768 := fun M h => by
    refine Nat.le_trans (tot_le h) (Nat.le_trans (Nat.mul_le_mul (show (2 : Int).toNat ≤ 2 by decide) (Nat.mul_le_mul (show w.length + 1 ≤ 6 by omega) (Nat.pow_le_pow_right (by omega) (show w.length + 1 ≤ 6 by omega)))) (by decide))
  have b0 : ∀ a i : Int, 0 ≤ a → a < 2 → 0 ≤ i → i < (w.length : Int) + 1 → el2 (tb w.length (List.replicate 12 0)) a i = 0 := fun a i a0 a1 i0 i1 => by
    rw [tb_el a0 a1 i0 i1]; exact el_rep (by omega) (by omega)
  have b1 : Bts (tb w.length (List.replicate 12 0)) 2 w.length :=
    ⟨tb_dim (by simp) hL, fun a i a0 a1 i0 i1 => by rw [b0 a i a0 a1 i0 i1]; omega, fun a i a0 a1 i0 i1 => by rw [b0 a i a0 a1 i0 i1]; exact Nat.two_pow_pos _⟩
  have b2 : Snd g.Rules w (tb w.length (List.replicate 12 0)) 2 := fun a i j a0 a1 i1 hb => by
    rw [b0 a i a0 a1 (by omega) (by omega)] at hb
    simp at hb
  have bl : (List.replicate 12 (0 : Int)).length = 12 := by simp
  generalize List.replicate 12 (0 : Int) = U at *
  refine Ok.bind (Q := fun | .out s => s.1.length = 12 ∧ Bts (tb w.length s.1) 2 w.length ∧ Snd g.Rules w (tb w.length s.1) 2 ∧ Cls g.Rules w (tb w.length s.1) | .rt _ => False)
    (whl_ok (fun s => s.1.length = 12 ∧ Bts (tb w.length s.1) 2 w.length ∧ Snd g.Rules w (tb w.length s.1) 2 ∧ (s.2 = false → Cls g.Rules w (tb w.length s.1))) (fun s => 2 * (768 - tot (tb w.length s.1)) + s.2.toNat) ⟨bl, b1, b2, fun e => by cases e⟩ ?_ (by simp; omega)) ?_
  · rintro ⟨us, mo⟩ ⟨c0, c1, c2, c3⟩
    unfold P.guess_accepts.b0
    refine .ite (fun e => ?_) fun e => .some ⟨c0, c1, c2, c3 (by simpa using e)⟩
    have e : mo = true := e
    subst e
    refine Ok.bind (Q := GI g.Rules w (tb w.length us) (Cls g.Rules w (tb w.length us))) (forP_ok (fun k s => GI g.Rules w (tb w.length us) (∀ k' r', k' < k → g.Rules[k']? = some r' → GDon w (tb w.length us) r' (w.length + 1)) s) ⟨c0, c1, c2, (fun e => by cases e), fun _ => ⟨rfl, fun k' r' h => by omega⟩⟩ ?_ ?_) ?_
    · intro k r s hr h
      exact gb1_ok hg hL (by omega) hr _ h
    · intro s h
      refine h.mono fun _ d r hr i j hi hp => ?_
      obtain ⟨k, hk, rfl⟩ := List.mem_iff_getElem.1 hr
      exact d k _ hk (List.getElem?_eq_getElem hk) i j (by omega) hp
    · intro s h
      refine .some ⟨⟨h.l, h.b, h.sn, fun e => ?_⟩, ?_⟩
      · obtain ⟨a, b⟩ := h.f e; exact (show Cls g.Rules w (tb w.length s.1) by rw [a]; exact b)
      · have p1 := hB _ h.b
        have p2 := hB _ c1
        cases e : s.2 with
        | true => have := h.t e; simp only [Bool.toNat_true]; simp only at p2; omega
        | false => rw [(h.f e).1]; simp
  · rintro (s | _) h
    · obtain ⟨c0, c1, c2, c3⟩ := h
      show Ok (Option.bind _ _) _
      have ea := ax_el c0 hL (show (0 : Int) ≤ 0 by omega) (show (0 : Int) < 2 by omega) (show (0 : Int) ≤ 0 by omega) (show (0 : Int) < (w.length : Int) + 1 by omega)
      rw [ea, Option.bind_some]
      have h0 := c1.lo 0 0 (by omega) (by omega) (by omega) (by omega)
      have h1 := c1.hi 0 0 (by omega) (by omega) (by omega) (by omega)
      obtain ⟨o, ho⟩ := Int.eq_ofNat_of_zero_le h0
      rw [ho, Int.toNat_natCast] at h1
      rw [ho, shr64 (by omega) (by omega), Option.bind_some, bit64 (p64 hL h1), Int.toNat_natCast]
      refine .some ?_
      have : o.testBit w.length = true ↔ Der g.Rules w [⟨false, 0⟩] 0 w.length := by
        constructor
        · intro hb
          exact c2 0 0 _ (by omega) (by omega) (by omega) (by rw [show ((0 : Nat) : Int) = 0 from rfl, ho]; exact hb)
        · intro d
          obtain ⟨⟨k, b, c⟩, _⟩ := der_path c3 d (by omega)
          cases (show k = w.length from c)
          rcases b with b | b
          · cases b.1
          · have := b.2
            rw [show ((0 : Nat) : Int) = 0 from rfl, ho] at this; exact this
      rw [← this]
      cases o.testBit w.length <;> simp
    · exact h.elim
end
end Go.Proofs.Ytcdhhelgoppleaa.Gr
