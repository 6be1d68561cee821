/- lens.Greatest tells the greatest length. Own work. -/
import Derived.Test.YthgdobdhdfjhfaaLens3
namespace Go.Proofs.Ythgdobdhdfjhfaa.Gr
open Go Go.Ab Go.Pu
open Relation

theorem LenH.up {R : List Ru} {h : Nat} {l : List Sy} {k : Nat} (q : LenH R h l k) : LenH R (h + 1) l k := by
  induction q with
  | nil => exact .nil
  | term _ ih => exact .term ih
  | non a b _ _ ih1 ih2 => exact .non a b ih1 ih2
theorem LenH.cons {R : List Ru} {h : Nat} {x : Sy} {l : List Sy} {k : Nat} (q : LenH R h (x :: l) k) : ∃ j k', k = j + k' ∧ LenH R h [x] j ∧ LenH R h l k' := by
  cases q with
  | term q => exact ⟨1, _, by omega, .term .nil, q⟩
  | non a b c d => exact ⟨_, _, rfl, by simpa using LenH.non a b c .nil, d⟩
theorem InL.cons {n : Int} {s : Sy} {l : List Sy} (h : InL n (s :: l)) : InL n l := fun t ht => h t (List.mem_cons_of_mem _ ht)
/-- Words that grow where a nonterminal leads to itself. -/
def End (R : List Ru) (S : Int) : Prop := ∃ a b r l1 l2, Rch R S a ∧ r ∈ R ∧ r.Left = a ∧ Prd R r.Right ∧ r.Right = l1 ++ (⟨false, b⟩ : Sy) :: l2 ∧ Rch R b a ∧ ∃ k, 0 < k ∧ Le R (l1 ++ l2) k
theorem noGrow {R : List Ru} {S : Int} (h : ¬ End R S) : NoGrow R S := by
  intro a b r l1 l2 h1 h2 h3 h4 h5 h6 k hk
  rcases Nat.eq_zero_or_pos k with e | e
  · exact e
  · exact absurd ⟨a, b, r, l1, l2, h1, h2, h3, h4, h5, h6, k, e, hk⟩ h
theorem prd_all {R : List Ru} {l : List Sy} (h : Prd R l) : ∀ x ∈ l, Prd R [x] := by
  induction l with
  | nil => intro x hx; cases hx
  | cons y l ih =>
    obtain ⟨a, b⟩ := Prd.cons_iff.1 h
    intro x hx
    rcases List.mem_cons.1 hx with rfl | hx
    · exact a
    · exact ih b x hx
theorem all_prd {R : List Ru} {l : List Sy} (h : ∀ x ∈ l, Prd R [x]) : Prd R l := by
  induction l with
  | nil => exact ⟨0, Le.nil_iff.2 rfl⟩
  | cons y l ih => exact Prd.cons_iff.2 ⟨h y (by simp), ih fun x hx => h x (List.mem_cons_of_mem _ hx)⟩
theorem pos_of {R : List Ru} {l : List Sy} (h : ∀ x ∈ l, Prd R [x]) {x : Sy} (hx : x ∈ l) {k : Nat} (hk : 0 < k) (q : Le R [x] k) : ∃ k, 0 < k ∧ Le R l k := by
  obtain ⟨l1, l2, rfl⟩ := List.append_of_mem hx
  obtain ⟨i, hi⟩ := all_prd (l := l1) fun y hy => h y (by simp [hy])
  obtain ⟨j, hj⟩ := all_prd (l := l2) fun y hy => h y (by simp [hy])
  exact ⟨i + (k + j), by omega, Le.app_iff.2 ⟨i, _, rfl, hi, Le.cons_iff.2 ⟨k, j, rfl, q, hj⟩⟩⟩
theorem of_pos {R : List Ru} {l : List Sy} {k : Nat} (hk : 0 < k) (q : Le R l k) : ∃ x ∈ l, ∃ j, 0 < j ∧ Le R [x] j := by
  induction l generalizing k with
  | nil => have := Le.nil_iff.1 q; omega
  | cons y l ih =>
    obtain ⟨i, j, rfl, a, b⟩ := Le.cons_iff.1 q
    rcases Nat.eq_zero_or_pos i with e | e
    · obtain ⟨x, h1, h2⟩ := ih (k := j) (by omega) b
      exact ⟨x, List.mem_cons_of_mem _ h1, h2⟩
    · exact ⟨y, by simp, i, e, a⟩

section
variable {g : Ty.api_Grammar} {L : List Int}
/-- What is known at the end of the first part. -/
structure Fst (g : Ty.api_Grammar) (L : List Int) : Prop where
  tab : Tab L g.Nons 1
  sgd : Sgd g.Rules g.Nons L
  cl : ∀ r ∈ g.Rules, PosL L r.Right → min (sumS L r.Right) 1 ≤ el L r.Left
theorem Fst.le (hv : Valid g) (h : Fst g L) {l : List Sy} {k s : Nat} (hl : InL g.Nons l) (q : LenL g.Rules l k s) : PosL L l ∧ min (k : Int) 1 ≤ sumS L l := by
  induction q with
  | nil => exact ⟨by simp [PosL], by simp [sumS]; omega⟩
  | term _ ih =>
    obtain ⟨a, b⟩ := ih hl.cons
    have := sumS_nn a
    refine ⟨PosL.cons.2 ⟨by simp [wS], a⟩, ?_⟩
    rw [sumS_cons]; simp only [wS, if_true]; omega
  | @non n r l j k s t hr hn _ _ ih1 ih2 =>
    obtain ⟨a, b⟩ := ih1 (hv.inl hr)
    obtain ⟨c, d⟩ := ih2 hl.cons
    have e := h.cl r hr a
    have := sumS_nn a; have := sumS_nn c
    have w : wS L (⟨false, n⟩ : Sy) = el L n := by simp [wS]
    rw [hn] at e
    refine ⟨PosL.cons.2 ⟨by rw [w]; omega, c⟩, ?_⟩
    rw [sumS_cons, w]; omega
theorem Fst.prd (hv : Valid g) (h : Fst g L) {l : List Sy} (hl : InL g.Nons l) : PosL L l ↔ Prd g.Rules l := by
  constructor
  · intro hp
    obtain ⟨k, hk, -⟩ := h.sgd.sum hl hp
    exact ⟨k, hk⟩
  · rintro ⟨k, s, q⟩; exact (h.le hv hl q).1
theorem Fst.pos (hv : Valid g) (h : Fst g L) {x : Sy} (hl : InL g.Nons [x]) (hp : 0 ≤ wS L x) : 0 < wS L x ↔ ∃ k, 0 < k ∧ Le g.Rules [x] k := by
  constructor
  · intro hw
    obtain ⟨k, hk, h2⟩ := h.sgd.sum hl (PosL.cons.2 ⟨hp, by simp [PosL]⟩)
    rw [sumS_cons, sumS_nil] at h2
    exact ⟨k, by omega, hk⟩
  · rintro ⟨k, k0, s, q⟩
    have := (h.le hv hl q).2
    rw [sumS_cons, sumS_nil] at this; omega
theorem Fst.way (hv : Valid g) (h : Fst g L) {a b : Int} : (∃ r ∈ g.Rules, WayL L r a b) ↔ Way g.Rules a b := by
  constructor
  · rintro ⟨r, hr, h1, h2, i, ⟨t, N⟩, h3, h4, h5⟩
    simp only at h4 h5; subst h4; subst h5
    exact ⟨r, hr, h1, (h.prd hv (hv.inl hr)).1 h2, List.mem_of_getElem? h3⟩
  · rintro ⟨r, hr, h1, h2, h3⟩
    obtain ⟨i, hi, e⟩ := List.mem_iff_getElem.1 h3
    exact ⟨r, hr, h1, (h.prd hv (hv.inl hr)).2 h2, i, _, by rw [List.getElem?_eq_getElem hi, e], rfl, rfl⟩
theorem Fst.gro (hv : Valid g) (h : Fst g L) {a b : Int} : (∃ r ∈ g.Rules, GroL L r a b) ↔ ∃ r l1 l2, r ∈ g.Rules ∧ r.Left = a ∧ Prd g.Rules r.Right ∧ r.Right = l1 ++ (⟨false, b⟩ : Sy) :: l2 ∧ ∃ k, 0 < k ∧ Le g.Rules (l1 ++ l2) k := by
  constructor
  · rintro ⟨r, hr, h1, h2, i, ⟨t, N⟩, h3, h4, h5, j, x, h6, h7, h8⟩
    simp only at h4 h5; subst h4; subst h5
    have hp := (h.prd hv (hv.inl hr)).1 h2
    obtain ⟨hi, e⟩ := List.getElem?_eq_some_iff.1 h3
    obtain ⟨hj, e2⟩ := List.getElem?_eq_some_iff.1 h7
    have hsplit : r.Right = r.Right.take i ++ (⟨false, N⟩ : Sy) :: r.Right.drop (i + 1) := by
      rw [← e, ← List.drop_eq_getElem_cons hi, List.take_append_drop]
    refine ⟨r, r.Right.take i, r.Right.drop (i + 1), hr, h1, hp, hsplit, ?_⟩
    have hxm : x ∈ r.Right := List.mem_of_getElem? h7
    obtain ⟨k, k0, hk⟩ := (h.pos hv (x := x) (fun s hs => by cases List.mem_singleton.1 hs; exact hv.inl hr x hxm) (by omega)).1 h8
    refine pos_of (x := x) (fun y hy => prd_all hp y ?_) ?_ k0 hk
    · rcases List.mem_append.1 hy with hy | hy
      · exact List.mem_of_mem_take hy
      · exact List.mem_of_mem_drop hy
    · rw [List.mem_append]
      rcases Nat.lt_or_gt_of_ne h6 with q | q
      · left; exact List.mem_of_getElem? (i := j) (by rw [List.getElem?_take_of_lt q]; exact h7)
      · right; exact List.mem_of_getElem? (i := j - (i + 1)) (by rw [List.getElem?_drop, show i + 1 + (j - (i + 1)) = j by omega]; exact h7)
  · rintro ⟨r, l1, l2, hr, h1, h2, h3, k, k0, hk⟩
    refine ⟨r, hr, h1, (h.prd hv (hv.inl hr)).2 h2, l1.length, ⟨false, b⟩, by rw [h3]; simp, rfl, rfl, ?_⟩
    obtain ⟨x, hx, j, j0, hj⟩ := of_pos k0 hk
    have hin : ∀ x ∈ r.Right, InL g.Nons [x] := fun x hx s hs => by cases List.mem_singleton.1 hs; exact hv.inl hr x hx
    rcases List.mem_append.1 hx with hx | hx
    · obtain ⟨i, hi, e⟩ := List.mem_iff_getElem.1 hx
      have hm : x ∈ r.Right := by rw [h3]; simp [hx]
      refine ⟨i, x, by omega, by rw [h3, List.getElem?_append_left hi, List.getElem?_eq_getElem hi, e], ?_⟩
      exact (h.pos hv (hin x hm) (((h.prd hv (hv.inl hr)).2 h2) x hm)).2 ⟨j, j0, hj⟩
    · obtain ⟨i, hi, e⟩ := List.mem_iff_getElem.1 hx
      have hm : x ∈ r.Right := by rw [h3]; simp [hx]
      refine ⟨l1.length + 1 + i, x, by omega, ?_, ?_⟩
      · rw [h3, List.getElem?_append_right (by omega), show l1.length + 1 + i - l1.length = i + 1 by omega, List.getElem?_cons_succ, List.getElem?_eq_getElem hi, e]
      · exact (h.pos hv (hin x hm) (((h.prd hv (hv.inl hr)).2 h2) x hm)).2 ⟨j, j0, hj⟩
theorem Fst.tg (hv : Valid g) (h : Fst g L) {a b : Int} : TransGen (fun x y => ∃ r ∈ g.Rules, WayL L r x y) a b ↔ TransGen (Way g.Rules) a b := by
  have : (fun x y => ∃ r ∈ g.Rules, WayL L r x y) = Way g.Rules := by
    funext x y; exact propext (h.way hv)
  rw [this]
theorem Fst.end_ (hv : Valid g) (h : Fst g L) : (∃ a b : Int, (∃ r ∈ g.Rules, GroL L r a b) ∧ (a = b ∨ TransGen (fun x y => ∃ r ∈ g.Rules, WayL L r x y) b a) ∧ (a = g.Start ∨ TransGen (fun x y => ∃ r ∈ g.Rules, WayL L r x y) g.Start a)) ↔ End g.Rules g.Start := by
  constructor
  · rintro ⟨a, b, h1, h2, h3⟩
    obtain ⟨r, l1, l2, q1, q2, q3, q4, q5⟩ := (h.gro hv).1 h1
    exact ⟨a, b, r, l1, l2, h3.imp Eq.symm (h.tg hv).1, q1, q2, q3, q4, h2.imp Eq.symm (h.tg hv).1, q5⟩
  · rintro ⟨a, b, r, l1, l2, h3, q1, q2, q3, q4, h2, q5⟩
    exact ⟨a, b, (h.gro hv).2 ⟨r, l1, l2, q1, q2, q3, q4, q5⟩, h2.imp Eq.symm (h.tg hv).2, h3.imp Eq.symm (h.tg hv).2⟩
end
theorem lowH {R : List Ru} {nons B : Int} {L : List Int} {t : Nat} (hB : 1 ≤ B) (hL : ∀ (a : Int) (k : Nat), 0 ≤ a → a < nons → LenH R t [⟨false, a⟩] k → min (k : Int) B ≤ el L a) {l : List Sy} : ∀ {k : Nat}, InL nons l → LenH R t l k → PosL L l ∧ min (k : Int) B ≤ sumS L l := by
  induction l with
  | nil => intro k _ h; cases h; exact ⟨by simp [PosL], by simp [sumS]; omega⟩
  | cons x l ih =>
    intro k hl h
    obtain ⟨j, k', rfl, h1, h2⟩ := h.cons
    obtain ⟨a, b⟩ := ih hl.cons h2
    have hw : min (j : Int) B ≤ wS L x := by
      obtain ⟨tm, N⟩ := x
      cases tm with
      | true =>
        have := Le.term_iff.1 h1.le
        subst this; simp [wS]; omega
      | false =>
        obtain ⟨c, d⟩ := hl ⟨false, N⟩ (by simp) rfl
        have := hL N j c d h1
        simpa [wS] using this
    have := sumS_nn a
    refine ⟨PosL.cons.2 ⟨by omega, a⟩, ?_⟩
    rw [sumS_cons]; omega
theorem greatest_ok {g : Ty.api_Grammar} (hv : Valid g) {φ : Nat} (hφ : 10000 ≤ φ) :
    Ok (P.lens_Greatest φ g) fun r => r.2 = 0 ∧ ((r.1 = -2 ∧ End g.Rules g.Start) ∨ (r.1 = -1 ∧ ¬ End g.Rules g.Start ∧ ¬ Prd g.Rules [⟨false, g.Start⟩]) ∨
      (0 ≤ r.1 ∧ r.1 ≤ 1048576 ∧ ¬ End g.Rules g.Start ∧ Le g.Rules [⟨false, g.Start⟩] r.1.toNat ∧ ∀ k : Nat, Le g.Rules [⟨false, g.Start⟩] k → (k : Int) ≤ r.1)) := by
  have n1 := hv.n1; have n2 := hv.n2; have s1 := hv.s1; have s2 := hv.s2
  unfold P.lens_Greatest
  rw [check_ok hv, Option.bind_some, if_neg (by simp), mk_eq (by omega) (by omega) (by omega), Option.bind_some, List.length_replicate, show ((g.Nons.toNat : Nat) : Int) = g.Nons by omega, ranO_eq (by omega), Option.bind_some]
  refine Ok.bind (Q := fun L => (L.length : Int) = g.Nons ∧ ∀ a : Int, 0 ≤ a → a < g.Nons → el L a = -1) (forP_ok (fun i (L : List Int) => (L.length : Int) = g.Nons ∧ ∀ a : Int, 0 ≤ a → a < i → el L a = -1) ⟨by simp; omega, fun a h h' => by omega⟩ ?_ ?_) ?_
  · intro i x L hx ⟨h1, h2⟩
    obtain ⟨rfl, hi⟩ := ran_at hx
    unfold P.lens_Greatest.b0
    rw [ix_el (by omega) (by omega), Option.bind_some]
    refine .some ⟨by simpa using h1, fun a ha hb => ?_⟩
    rw [el_st (by omega) (by omega) ha]
    split
    · rfl
    · exact h2 a ha (by omega)
  · intro L ⟨h1, h2⟩
    rw [ran_length] at h2
    exact ⟨h1, fun a ha hb => h2 a ha (by omega)⟩
  · intro L0 ⟨h1, h2⟩
    have hw : wG L0 ≤ 20 := by
      have := wt_le (fun x : Int => (1 - x).toNat) 2 L0 fun x hx => by
        obtain ⟨j, hj, rfl⟩ := List.mem_iff_getElem.1 hx
        have := h2 (j : Int) (by omega) (by omega)
        rw [el_nat (List.getElem?_eq_getElem hj)] at this
        rw [this]; decide
      have h3 : L0.length ≤ 10 := by omega
      have : wG L0 ≤ L0.length * 2 := this
      omega
    refine Ok.bind (whl_ok (ρ := Unit) (Q := fun | .out L => Fst g L | .rt _ => False) (fun L => Tab L g.Nons 1 ∧ Sgd g.Rules g.Nons L) wG ⟨⟨h1, fun a x y => by rw [h2 a x y]; omega, fun a x y => by rw [h2 a x y]; omega⟩, fun a x y z => by rw [h2 a x y] at z; omega⟩ ?_ (by omega)) ?_
    · intro L ⟨t1, t2⟩
      unfold P.lens_Greatest.b1
      refine (step_ok hv (by omega) (by omega) t1 t2).bind fun s hs => .ite (fun e => .some ⟨⟨hs.tab, hs.sgd⟩, ?_⟩) fun e => .some ?_
      · have := hs.w rfl
        rw [e] at this; simp only [if_true] at this; omega
      · have e1 := hs.no (by simpa using e)
        rw [e1]
        exact ⟨t1, t2, fun r hr hp => by have := hs.cl r hr hp; rwa [e1] at this⟩
    · rintro (L | _) hL
      · simp only [Fin.cs]
        refine (endless_ok hv hL.tab (by omega) (by omega)).bind fun e he => ?_
        rw [hL.end_ hv] at he
        refine .ite (fun q => .some ⟨rfl, .inl ⟨rfl, he.1 q⟩⟩) fun q => ?_
        have hne : ¬ End g.Rules g.Start := fun h => q (he.2 h)
        rw [W_id, ranO_eq (by omega), Option.bind_some]
        let B : Int := 1099511627776
        have hB : (1 : Int) ≤ B := by decide
        refine Ok.bind (forP_ok (fun t L => Tab L g.Nons B ∧ Sgd g.Rules g.Nons L ∧ ∀ (a : Int) (k : Nat), 0 ≤ a → a < g.Nons → LenH g.Rules t [⟨false, a⟩] k → min (k : Int) B ≤ el L a)
          ⟨⟨hL.tab.len, hL.tab.lo, fun a x y => Int.le_trans (hL.tab.hi a x y) hB⟩, hL.sgd, fun a k _ _ h => by cases h⟩ ?_ fun s h => h) ?_
        · intro t x L' hx ⟨f1, f2, f3⟩
          unfold P.lens_Greatest.b2
          refine (step_ok hv hB (Int.le_refl _) f1 f2).bind fun s hs => .some ⟨hs.tab, hs.sgd, fun a k a0 a1 h => ?_⟩
          cases h with
          | @non _ _ r _ j k' hr hn hj hk =>
            cases hk
            obtain ⟨p1, p2⟩ := lowH hB f3 (hv.inl hr) hj
            have := hs.cl r hr p1
            rw [hn] at this
            rw [Nat.add_zero]
            omega
        · intro L' ⟨f1, f2, f3⟩
          rw [ix_el s1 (by rw [f1.len]; exact s2), Option.bind_some]
          have hlow : ∀ k : Nat, Le g.Rules [⟨false, g.Start⟩] k → (k : Int) ≤ el L' g.Start ∧ k ≤ 1048576 := by
            intro k hk
            have h4 := low (N := g.Nons.toNat) (fun r hr => ⟨(hv.lft r hr).1, by have := (hv.lft r hr).2; omega⟩) (noGrow hne) (.inl rfl) hk
            have h5 := h4.bound (M := 4) (by omega) hv.rgt
            have h6 : 4 ^ g.Nons.toNat ≤ 4 ^ 10 := Nat.pow_le_pow_right (by omega) (by omega)
            have h7 := f3 g.Start k s1 s2 (by rw [ran_length, show (g.Nons + 1).toNat = g.Nons.toNat + 1 by omega]; exact h4.up)
            have h8 : k ≤ 4 ^ 10 := by simp only [List.length_singleton, Nat.one_mul] at h5; omega
            have h9 : (k : Int) < B := by have : (k : Int) ≤ 1048576 := by omega
                                          show (k : Int) < 1099511627776
                                          omega
            have h10 : k ≤ 1048576 := by omega
            exact ⟨by omega, h10⟩
          by_cases hp : 0 ≤ el L' g.Start
          · obtain ⟨k, hk, hk2⟩ := f2 _ s1 s2 hp
            have := hlow k hk
            refine .some ⟨rfl, .inr (.inr ⟨hp, by simp only; omega, hne, ?_, fun k hk => (hlow k hk).1⟩)⟩
            rw [show (el L' g.Start).toNat = k by omega]; exact hk
          · have := f1.lo _ s1 s2
            refine .some ⟨rfl, .inr (.inl ⟨by simp only; omega, hne, ?_⟩)⟩
            rintro ⟨k, hk⟩
            have := hlow k hk; omega
      · exact hL.elim
end Go.Proofs.Ythgdobdhdfjhfaa.Gr
