import Derived.Test.YtmeigkelacoibaaP
import Derived.Test.YtmeigkelacoibaaGr1
namespace Go.Proofs.Ytmeigkelacoibaa.Gr
open Go Go.Ab Go.Pu
structure Valid (g : Ty.B2) : Prop where
 t1 : 1 ≤ g.Terms
 t2 : g.Terms ≤ 8
 n1 : 1 ≤ g.Nons
 n2 : g.Nons ≤ 10
 s1 : 0 ≤ g.Start
 s2 : g.Start < g.Nons
 len : g.Rules.length ≤ 32
 lft : ∀ r ∈ g.Rules, 0 ≤ r.Left ∧ r.Left < g.Nons
 rgt : ∀ r ∈ g.Rules, r.Right.length ≤ 4
 sym : ∀ r ∈ g.Rules, ∀ s ∈ r.Right, 0 ≤ s.N ∧ (s.Term = true → s.N < g.Terms) ∧ (s.Term = false → s.N < g.Nons)
 dis : g.Rules.Pairwise (· ≠ ·)
structure Small (g : Ty.B2) : Prop extends Valid g where
 t3 : g.Terms ≤ 3
 n3 : g.Nons ≤ 4
 len3 : g.Rules.length ≤ 8
 rgt3 : ∀ r ∈ g.Rules, r.Right.length ≤ 3
 ne : 1 ≤ g.Rules.length
theorem below_ok {x n : Int} (h1 : 1 ≤ n) (h2 : n ≤ 1000000) : Ok (P.E3 x n) fun y => 0 ≤ y ∧ y < n := by
 have e : Pu.rem x n = some (x.tmod n) := by unfold Pu.rem; rw [if_neg (by omega)]
 have := Int.tmod_lt_of_pos x (by omega : 0 < n)
 have h3 : -n < x.tmod n := by
  have := Int.tmod_lt_of_pos (-x) (by omega : 0 < n)
  rw [Int.neg_tmod] at this; omega
 unfold P.E3
 rw [e, Option.bind_some]
 split
 ·rw [W_id]; exact .some (by omega)
 ·exact .some (by omega)
theorem next_ok {s : Ty.E9} {n : Int} (h1 : 1 ≤ n) (h2 : n ≤ 1000000) : Ok (P.A8 s n) fun r => 0 ≤ r.2 ∧ r.2 < n := by
 unfold P.A8
 refine .ite (fun _ => .some (by simp; omega)) fun h => ?_
 have e1 : Pu.ix s.l 0 = some (el s.l 0) := ix_el (by omega) (by omega)
 have e2 : Pu.sub s.l 1 s.l.length = some _ := sub_eq (by omega) (by omega) (by omega)
 rw [e1, Option.bind_some, e2, Option.bind_some]
 exact (below_ok h1 h2).bind fun _ h => .some h
theorem has_ok {l : List Ru} {r : Ru} (hl : ∀ x ∈ l, x.Right.length ≤ 1000) : Ok (P.D2 l r) fun b => (b = false → ∀ x ∈ l, x ≠ r) ∧ (b = true → l ≠ []) := by
 unfold P.D2
 refine Ok.bind (Q := fun | .out _ => ∀ x ∈ l, x ≠ r | .rt b => b = true ∧ l ≠ []) (forL_ok (fun i _ => ∀ j x, j < i → l[j]? = some x → x ≠ r) (fun j x h => by omega) ?_ ?_) ?_
 ·intro i x _ hx hI
  have hI' : x ≠ r → ∀ j y, j < i + 1 → l[j]? = some y → y ≠ r := fun hn j y hj hy => by
   rcases Nat.lt_succ_iff_lt_or_eq.1 hj with h | rfl
   ·exact hI j y h hy
   ·rw [hx] at hy; cases hy; exact hn
  unfold P.D2.b0
  refine .ite (fun h => .some (hI' fun e => ?_)) fun h => ?_
  ·subst e; simp at h
  ·have hlen : x.Right.length = r.Right.length := by simp at h; omega
   have := hl x (List.mem_of_getElem? hx)
   rw [ranO_eq (by omega), Option.bind_some]
   refine Ok.bind (Q := fun s => s = false → x.Right ≠ r.Right) (forP_ok (fun _ s => s = false → x.Right ≠ r.Right) (by simp) ?_ fun _ h => h) ?_
   ·intro k z s hz hs
    obtain ⟨rfl, hk⟩ := ran_at hz
    unfold P.D2.b1
    cases s with
    | false => exact .some fun _ => hs rfl
    | true =>
      rw [if_pos rfl]
      have e1 : Pu.ix x.Right (k : Int) = some _ := ix_nat.trans (get_el (by omega))
      have e2 : Pu.ix r.Right (k : Int) = some _ := ix_nat.trans (get_el (by omega))
      rw [e1, Option.bind_some, e2, Option.bind_some]
      refine .some fun h e => ?_
      rw [e] at h; simp at h
   ·intro s hs
    refine .ite (fun h => .some ⟨rfl, fun e => by subst e; simp at hx⟩) fun h => .some (hI' fun e => hs (by simpa using h) (by rw [e]))
 ·intro _ h x hx
  obtain ⟨j, hj, rfl⟩ := List.mem_iff_getElem.1 hx
  exact h j _ hj (List.getElem?_eq_getElem hj)
 ·rintro (s | b) h
  ·exact .some ⟨fun _ => h, fun e => by cases e⟩
  ·exact .some ⟨fun e => (by rw [h.1] at e; cases e), fun _ => h.2⟩
theorem grammar_ok (l : List Int) : Ok (P.B9 l) Small := by
 unfold P.B9
 refine (next_ok (by omega) (by omega)).bind fun x1 ⟨a1, b1⟩ => ?_
 refine (next_ok (by omega) (by omega)).bind fun x2 ⟨a2, b2⟩ => ?_
 rw [W_id]
 refine (next_ok (by omega) (by omega)).bind fun x3 ⟨a3, b3⟩ => ?_
 refine (next_ok (by omega) (by omega)).bind fun x4 ⟨a4, b4⟩ => ?_
 rw [W_id, ranO_eq (by omega), Option.bind_some]
 let I : Nat → List Int × List Ru → Prop := fun i s => s.2.length ≤ i ∧ (0 < i → s.2 ≠ []) ∧ (∀ r ∈ s.2, 0 ≤ r.Left ∧ r.Left < 1 + x2.2) ∧ (∀ r ∈ s.2, r.Right.length ≤ 3) ∧
  (∀ r ∈ s.2, ∀ y ∈ r.Right, 0 ≤ y.N ∧ (y.Term = true → y.N < 1 + x1.2) ∧ (y.Term = false → y.N < 1 + x2.2)) ∧ s.2.Pairwise (· ≠ ·)
 refine Ok.bind (Q := fun s => I 8 s ∧ s.2 ≠ []) (forP_ok I ⟨by simp, by simp, by simp, by simp, by simp, by simp⟩ ?_ ?_) ?_
 ·intro i z s hz ⟨i1, i0, i2, i3, i4, i5⟩
  obtain ⟨rfl, hi⟩ := ran_at hz
  unfold P.B9.b0
  rw [W_id]
  refine (next_ok (by omega) (by omega)).bind fun x7 ⟨a7, b7⟩ => ?_
  refine (next_ok (by omega) (by omega)).bind fun x8 ⟨a8, b8⟩ => ?_
  rw [ranO_eq (by omega), Option.bind_some]
  let J : Nat → List Int × List Sy → Prop := fun i s => s.2.length = i ∧ ∀ y ∈ s.2, 0 ≤ y.N ∧ (y.Term = true → y.N < 1 + x1.2) ∧ (y.Term = false → y.N < 1 + x2.2)
  refine Ok.bind (Q := fun s => s.2.length ≤ 3 ∧ ∀ y ∈ s.2, 0 ≤ y.N ∧ (y.Term = true → y.N < 1 + x1.2) ∧ (y.Term = false → y.N < 1 + x2.2)) (forP_ok J ⟨rfl, by simp⟩ ?_ ?_) ?_
  ·intro k z t hz ⟨j1, j2⟩
   obtain ⟨rfl, hk⟩ := ran_at hz
   unfold P.B9.b1
   refine (next_ok (by omega) (by omega)).bind fun x11 _ => ?_
   refine Ok.bind (Q := fun s => J (k + 1) s) (.ite (fun _ => ?_) fun _ => ?_) fun s h => .some h
   ·rw [W_id]
    refine (next_ok (by omega) (by omega)).bind fun x12 ⟨a, b⟩ => ?_
    rw [app_eq (by simp; omega), Option.bind_some]
    refine .some ⟨by simp [j1], fun y hy => ?_⟩
    rcases List.mem_append.1 hy with hy | hy
    ·exact j2 y hy
    ·cases List.mem_singleton.1 hy; exact ⟨a, fun _ => b, fun h => by cases h⟩
   ·rw [W_id]
    refine (next_ok (by omega) (by omega)).bind fun x12 ⟨a, b⟩ => ?_
    rw [app_eq (by simp; omega), Option.bind_some]
    refine .some ⟨by simp [j1], fun y hy => ?_⟩
    rcases List.mem_append.1 hy with hy | hy
    ·exact j2 y hy
    ·cases List.mem_singleton.1 hy; exact ⟨a, (fun h => by cases h), fun _ => b⟩
  ·intro t ⟨j1, j2⟩
   rw [ran_length] at j1
   exact ⟨by omega, j2⟩
  ·rintro t ⟨j1, j2⟩
   refine (has_ok fun x hx => Nat.le_trans (i3 x hx) (by omega)).bind fun b hb => ?_
   refine Ok.bind (Q := fun s => I (i + 1) ([], s)) (.ite (fun h => ?_) fun h => .some ⟨by simp only; omega, fun _ => hb.2 (by simpa using h), i2, i3, i4, i5⟩) fun s h => .some h
   rw [app_eq (by simp; omega), Option.bind_some]
   refine .some ⟨by simp only [List.length_append, List.length_singleton]; omega, by simp, fun r hr => ?_, fun r hr => ?_, fun r hr => ?_, ?_⟩
   ·rcases List.mem_append.1 hr with hr | hr
    ·exact i2 r hr
    ·cases List.mem_singleton.1 hr; exact ⟨a7, b7⟩
   ·rcases List.mem_append.1 hr with hr | hr
    ·exact i3 r hr
    ·cases List.mem_singleton.1 hr; exact j1
   ·rcases List.mem_append.1 hr with hr | hr
    ·exact i4 r hr
    ·cases List.mem_singleton.1 hr; exact j2
   ·rw [List.pairwise_append]
    refine ⟨i5, List.pairwise_singleton _ _, fun a ha b' hb' => ?_⟩
    cases List.mem_singleton.1 hb'
    exact hb.1 (by simpa using h) a ha
 ·intro s ⟨i1, i0, i2, i3, i4, i5⟩
  rw [ran_length] at i1 i0
  exact ⟨⟨by omega, fun _ => i0 (by omega), i2, i3, i4, i5⟩, i0 (by omega)⟩
 ·intro s ⟨⟨i1, _, i2, i3, i4, i5⟩, hne⟩
  rw [W_id (n := 1 + x1.2)]
  exact .some ⟨⟨by simp only; omega, by simp only; omega, by simp only; omega, by simp only; omega, a3, b3, by simp only; omega, i2, fun r hr => Nat.le_trans (i3 r hr) (by omega), i4, i5⟩, by simp only; omega, by simp only; omega, i1, i3, List.length_pos_iff.2 hne⟩
theorem cmp_ok (a b : Int) : P.C2 a b = some (if a < b then -1 else if b < a then 1 else 0) := by
 simp only [P.C2, P.F7, Option.bind_some, ne_eq, not_true_eq_false, decide_false, Bool.false_eq_true, if_false]
 split
 ·rfl
 ·split <;> rfl
theorem order_ok (a b : Sy) : Ok (P.F6 a b) fun c => c = 0 ↔ a = b := by
 obtain ⟨t, n⟩ := a; obtain ⟨u, m⟩ := b
 unfold P.F6
 cases t <;> cases u <;> simp [cmp_ok]
 ·refine .some ?_
  split
  ·simp; omega
  ·split <;> simp <;> omega
 ·exact .some (by simp)
 ·exact .some (by simp)
 ·refine .some ?_
  split
  ·simp; omega
  ·split <;> simp <;> omega
theorem comparef_ok (a b : List Sy) : Ok (P.C1 a b) fun c => c = 0 ↔ a = b := by
 unfold P.C1
 refine Ok.bind (Q := fun | .out _ => a.length ≤ b.length ∧ ∀ j, j < a.length → a[j]? = b[j]? | .rt c => c ≠ 0 ∧ a ≠ b) (forL_ok (fun i _ => i ≤ b.length ∧ ∀ j, j < i → a[j]? = b[j]?) ⟨by omega, fun j h => by omega⟩ ?_ (fun _ h => h)) ?_
 ·intro i x _ hx ⟨h1, h2⟩
  unfold P.C1.b0
  refine .ite (fun h => .some ⟨by simp, fun e => ?_⟩) fun h => ?_
  ·subst e; have := (List.getElem?_eq_some_iff.1 hx).1; omega
  ·have e : b[i]? = some (b[i]'(by omega)) := List.getElem?_eq_getElem _
   rw [ix_nat, e, Option.bind_some]
   refine (order_ok x _).bind fun c hc => .ite (fun h => .some ⟨h, fun e2 => ?_⟩) fun hcz => .some ⟨by omega, fun j hj => ?_⟩
   ·rw [e2, e] at hx; cases hx; exact h (hc.2 rfl)
   ·rcases Nat.lt_succ_iff_lt_or_eq.1 hj with q | rfl
    ·exact h2 j q
    ·rw [hx, e, hc.1 (Decidable.not_not.1 hcz)]
 ·rintro (s | c) h
  ·obtain ⟨h1, h2⟩ := h
   refine .ite (fun h => .some ?_) fun h => .some ?_
   ·simp only [show ¬ ((-1 : Int) = 0) by omega, false_iff]
    intro e; subst e; omega
   ·simp only [true_iff]
    refine List.ext_getElem? fun i => ?_
    rcases Nat.lt_or_ge i a.length with e | e
    ·exact h2 i e
    ·rw [List.getElem?_eq_none e, List.getElem?_eq_none (by omega)]
  ·exact .some ⟨fun e => absurd e h.1, fun e => absurd e h.2⟩
theorem compare_ok (a b : Ru) : Ok (P.F5 a b) fun c => c = 0 ↔ a = b := by
 obtain ⟨x, l⟩ := a; obtain ⟨y, m⟩ := b
 unfold P.F5
 rw [cmp_ok, Option.bind_some]
 refine .ite (fun h => .some ?_) fun h => (comparef_ok l m).bind fun c hc => .some ?_
 ·simp only [Ty.A6.mk.injEq]
  constructor
  ·intro e; exact absurd e h
  ·rintro ⟨rfl, -⟩; simp at h
 ·have : x = y := by
   simp only [ne_eq, Decidable.not_not] at h
   split at h
   ·omega
   ·split at h <;> omega
  subst this
  simp [hc]
theorem check_ok {g : Ty.B2} (h : Valid g) : P.C4 g = some 0 := by
 refine Ok.eq ?_
 unfold P.C4
 have t1 := h.t1; have t2 := h.t2; have n1 := h.n1; have n2 := h.n2; have s1 := h.s1; have s2 := h.s2; have len := h.len
 rw [if_neg (by simp; omega), if_neg (by omega)]
 refine Ok.bind (Q := fun | .out _ => True | .rt _ => False) (forL_ok (fun _ _ => True) trivial ?_ fun _ _ => trivial) ?_
 ·intro i r _ hr _
  have hm := List.mem_of_getElem? hr
  unfold P.C4.b0
  have := h.lft r hm; have := h.rgt r hm
  rw [if_neg (by simp; omega), if_neg (by omega)]
  refine Ok.bind (Q := fun | .out _ => True | .rt _ => False) (forL_ok (fun _ _ => True) trivial ?_ fun _ _ => trivial) ?_
  ·intro j y _ hy _
   obtain ⟨a, b, c⟩ := h.sym r hm y (List.mem_of_getElem? hy)
   unfold P.C4.b1
   rw [if_neg (by simp; omega), Option.bind_some]
   cases ht : y.Term with
   | true => have := b ht; simp [show ¬ g.Terms ≤ y.N by omega]; exact .some trivial
   | false => have := c ht; simp [show ¬ g.Nons ≤ y.N by omega]; exact .some trivial
  ·rintro (s | c) q
   ·simp only [Fin.cs]
    have hi := (List.getElem?_eq_some_iff.1 hr).1
    rw [sub_eq (by omega) (by omega) (by omega), Option.bind_some]
    refine Ok.bind (Q := fun | .out _ => True | .rt _ => False) (forL_ok (fun _ _ => True) trivial ?_ fun _ _ => trivial) ?_
    ·intro k y _ hy _
     unfold P.C4.b2
     refine (compare_ok y r).bind fun c hc => .ite (fun e => ?_) fun e => .some trivial
     exfalso
     simp only [Int.toNat_zero, List.drop_zero, Int.toNat_natCast] at hy
     rw [List.getElem?_take] at hy
     split at hy
     ·rename_i hk
      have h1 := List.pairwise_iff_getElem.1 h.dis k i (by omega) hi hk
      obtain ⟨_, e1⟩ := List.getElem?_eq_some_iff.1 hy
      obtain ⟨_, e2⟩ := List.getElem?_eq_some_iff.1 hr
      rw [e1, e2] at h1
      exact h1 (hc.1 e)
     ·cases hy
    ·rintro (s | c) q
     ·exact .some trivial
     ·exact q.elim
   ·exact q.elim
 ·rintro (s | c) q
  ·exact .some rfl
  ·exact q.elim
end Go.Proofs.Ytmeigkelacoibaa.Gr
