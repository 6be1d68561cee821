/- With a terminal in front of the start symbol all lengths are one more: the plain law of LensLonger. Own work. -/
import Derived.Test.YthgdobdhdfjhfaaLens4
namespace Go.Proofs.Ythgdobdhdfjhfaa.Gr
open Go Go.Ab Go.Pu
open Relation

def gPlain : Ty.api_Grammar := Ty.api_Grammar.mk 2 1 0 [(Ty.api_Rule.mk 0 [(Ty.api_Sym.mk true 0)]), (Ty.api_Rule.mk 0 [(Ty.api_Sym.mk true 1), (Ty.api_Sym.mk false 0)])]
theorem plain_eq : P.parlkeep5_plain = some gPlain := rfl
theorem plain_valid : Valid gPlain := by
  refine ⟨by decide, by decide, by decide, by decide, by decide, by decide, by decide, ?_, ?_, ?_, ?_⟩ <;> simp [gPlain]
theorem plain_one : Le gPlain.Rules [⟨false, gPlain.Start⟩] 1 := Le.non_iff.2 ⟨⟨0, [⟨true, 0⟩]⟩, by simp [gPlain], rfl, Le.term_iff.2 rfl⟩
theorem equalb_ok (a b : List Bool) (ha : a.length ≤ 1000000) (h : a = b) : P.slices_Equal_bool_bool a b = some true := by
  subst h
  refine Ok.eq ?_
  unfold P.slices_Equal_bool_bool
  rw [if_neg (by simp), ranO_eq (by omega), Option.bind_some]
  refine Ok.bind (Q := fun | .out _ => True | .rt _ => False) (forL_ok (fun _ _ => True) trivial ?_ fun _ _ => trivial) ?_
  · intro i x _ hx _
    obtain ⟨rfl, hi⟩ := ran_at hx
    unfold P.slices_Equal_bool_bool.b0
    rw [ix_el (by omega) hi, Option.bind_some, Option.bind_some, if_neg (by simp)]
    exact .some trivial
  · rintro (_ | _) h
    · exact .some rfl
    · exact h.elim

/-- The grammar with one more. -/
def more (g : Ty.api_Grammar) : Ty.api_Grammar := ⟨g.Terms, g.Nons + 1, g.Nons, g.Rules ++ [⟨g.Nons, [⟨true, 0⟩, ⟨false, g.Start⟩]⟩]⟩
section
variable {g : Ty.api_Grammar}
theorem more_mem {r : Ru} : r ∈ (more g).Rules ↔ r ∈ g.Rules ∨ r = ⟨g.Nons, [⟨true, 0⟩, ⟨false, g.Start⟩]⟩ := by simp [more]
theorem more_valid (h : Small g) : Valid (more g) := by
  have a1 := h.t1; have a2 := h.n1; have a3 := h.n3; have a4 := h.s1; have a5 := h.s2; have a6 := h.len3
  refine ⟨h.t1, h.t2, ?_, ?_, ?_, ?_, ?_, ?_, ?_, ?_, ?_⟩
  · show 1 ≤ g.Nons + 1; omega
  · show g.Nons + 1 ≤ 10; omega
  · show 0 ≤ g.Nons; omega
  · show g.Nons < g.Nons + 1; omega
  · show (g.Rules ++ _).length ≤ 32; simp; omega
  · intro r hr
    show 0 ≤ r.Left ∧ r.Left < g.Nons + 1
    rcases more_mem.1 hr with hr | rfl
    · have := h.lft r hr; omega
    · simp only; omega
  · intro r hr
    rcases more_mem.1 hr with hr | rfl
    · exact h.rgt r hr
    · simp
  · intro r hr s hs
    show 0 ≤ s.N ∧ (s.Term = true → s.N < g.Terms) ∧ (s.Term = false → s.N < g.Nons + 1)
    rcases more_mem.1 hr with hr | rfl
    · obtain ⟨b1, b2, b3⟩ := h.sym r hr s hs
      exact ⟨b1, b2, fun e => by have := b3 e; omega⟩
    · simp at hs
      rcases hs with rfl | rfl
      · simp; omega
      · simp; omega
  · show (g.Rules ++ _).Pairwise (· ≠ ·)
    rw [List.pairwise_append]
    refine ⟨h.dis, List.pairwise_singleton _ _, fun a ha b hb => ?_⟩
    cases List.mem_singleton.1 hb
    intro e
    have := (h.lft a ha).2
    rw [e] at this; simp at this
theorem more_le {l : List Sy} {k : Nat} (h : Small g) (hl : InL g.Nons l) : Le (more g).Rules l k ↔ Le g.Rules l k := by
  constructor
  · rintro ⟨s, q⟩
    have : ∀ {l : List Sy} {k s : Nat}, LenL (more g).Rules l k s → InL g.Nons l → LenL g.Rules l k s := by
      intro l k s q
      induction q with
      | nil => intro _; exact .nil
      | term _ ih => intro hl; exact .term (ih hl.cons)
      | @non n r l j k s t hr hn _ _ ih1 ih2 =>
        intro hl
        rcases more_mem.1 hr with hr | rfl
        · exact .non hr hn (ih1 (h.toValid.inl hr)) (ih2 hl.cons)
        · have := (hl ⟨false, n⟩ (by simp) rfl).2
          simp only at hn this; omega
    exact ⟨s, this q hl⟩
  · rintro ⟨s, q⟩
    clear hl
    refine ⟨s, ?_⟩
    induction q with
    | nil => exact .nil
    | term _ ih => exact .term ih
    | non hr hn _ _ ih1 ih2 => exact .non (more_mem.2 (.inl hr)) hn ih1 ih2
theorem start_in (h : Valid g) : InL g.Nons [⟨false, g.Start⟩] := fun s hs _ => by cases List.mem_singleton.1 hs; exact ⟨h.s1, h.s2⟩
theorem more_start (h : Small g) {k : Nat} : Le (more g).Rules [⟨false, (more g).Start⟩] k ↔ ∃ j, k = j + 1 ∧ Le g.Rules [⟨false, g.Start⟩] j := by
  have e : (more g).Start = g.Nons := rfl
  rw [e, Le.non_iff]
  constructor
  · rintro ⟨r, hr, hn, q⟩
    rcases more_mem.1 hr with hr | rfl
    · have := (h.lft r hr).2; omega
    · obtain ⟨i, j, rfl, a, b⟩ := Le.cons_iff.1 q
      rw [Le.term_iff.1 a]
      exact ⟨j, by omega, (more_le h (start_in h.toValid)).1 b⟩
  · rintro ⟨j, rfl, q⟩
    exact ⟨_, more_mem.2 (.inr rfl), rfl, Le.cons_iff.2 ⟨1, j, by omega, Le.term_iff.2 rfl, (more_le h (start_in h.toValid)).2 q⟩⟩
theorem more_prd {l : List Sy} (h : Small g) (hl : InL g.Nons l) : Prd (more g).Rules l ↔ Prd g.Rules l :=
  ⟨fun ⟨k, q⟩ => ⟨k, (more_le h hl).1 q⟩, fun ⟨k, q⟩ => ⟨k, (more_le h hl).2 q⟩⟩
theorem more_way {a b : Int} (h : Small g) (ha : a ≠ g.Nons) : Way (more g).Rules a b ↔ Way g.Rules a b := by
  constructor
  · rintro ⟨r, hr, hn, hp, hm⟩
    rcases more_mem.1 hr with hr | rfl
    · exact ⟨r, hr, hn, (more_prd h (h.toValid.inl hr)).1 hp, hm⟩
    · exact absurd hn.symm ha
  · rintro ⟨r, hr, hn, hp, hm⟩
    exact ⟨r, more_mem.2 (.inl hr), hn, (more_prd h (h.toValid.inl hr)).2 hp, hm⟩
theorem way_in {a b : Int} (h : Valid g) (w : Way g.Rules a b) : (0 ≤ a ∧ a < g.Nons) ∧ 0 ≤ b ∧ b < g.Nons := by
  obtain ⟨r, hr, rfl, _, hm⟩ := w
  exact ⟨h.lft r hr, h.inl hr _ hm rfl⟩
theorem more_way_to {a b : Int} (h : Small g) (w : Way (more g).Rules a b) : b ≠ g.Nons := by
  have a5 := h.s2
  obtain ⟨r, hr, _, _, hm⟩ := w
  rcases more_mem.1 hr with hr | rfl
  · have := (h.toValid.inl hr _ hm rfl).2; simp only at this; omega
  · simp at hm; omega
theorem more_tg {a b : Int} (h : Small g) (ha : a ≠ g.Nons) : TransGen (Way (more g).Rules) a b ↔ TransGen (Way g.Rules) a b := by
  constructor
  · intro q
    have : TransGen (Way g.Rules) a b ∧ b ≠ g.Nons := by
      induction q with
      | single w => exact ⟨.single ((more_way h ha).1 w), more_way_to h w⟩
      | tail _ w ih => exact ⟨.tail ih.1 ((more_way h ih.2).1 w), more_way_to h w⟩
    exact this.1
  · intro q
    induction q with
    | single w => exact .single ((more_way h ha).2 w)
    | tail _ w ih => exact .tail ih ((more_way h (by have := (way_in h.toValid w).1; omega)).2 w)
theorem more_rch {a b : Int} (h : Small g) (ha : a ≠ g.Nons) : Rch (more g).Rules a b ↔ Rch g.Rules a b := or_congr Iff.rfl (more_tg h ha)
theorem more_first {a : Int} (h : Small g) : TransGen (Way (more g).Rules) g.Nons a ↔ Prd g.Rules [⟨false, g.Start⟩] ∧ Rch g.Rules g.Start a := by
  have a5 := h.s2
  have hw : ∀ b, Way (more g).Rules g.Nons b ↔ Prd g.Rules [⟨false, g.Start⟩] ∧ b = g.Start := by
    intro b
    constructor
    · rintro ⟨r, hr, hn, hp, hm⟩
      rcases more_mem.1 hr with hr | rfl
      · have := (h.lft r hr).2; omega
      · simp at hm
        exact ⟨(more_prd h (start_in h.toValid)).1 (prd_all hp _ (by simp)), hm⟩
    · rintro ⟨hp, rfl⟩
      refine ⟨_, more_mem.2 (.inr rfl), rfl, ?_, by simp⟩
      exact all_prd fun x hx => by
        simp at hx
        rcases hx with rfl | rfl
        · exact ⟨1, Le.term_iff.2 rfl⟩
        · exact (more_prd h (start_in h.toValid)).2 hp
  constructor
  · intro q
    induction q with
    | single w => obtain ⟨h1, rfl⟩ := (hw _).1 w; exact ⟨h1, .inl rfl⟩
    | @tail b c q w ih =>
      refine ⟨ih.1, ih.2.next ((more_way h ?_).1 w)⟩
      cases q with
      | single w => exact more_way_to h w
      | tail _ w => exact more_way_to h w
  · rintro ⟨h1, q⟩
    have h2 : Way (more g).Rules g.Nons g.Start := (hw _).2 ⟨h1, rfl⟩
    exact Rch.head h2 ((more_rch h (by omega)).2 q)
theorem rch_prd {S a : Int} (q : Rch g.Rules S a) (hp : Prd g.Rules [⟨false, a⟩]) : Prd g.Rules [⟨false, S⟩] := by
  have one : ∀ {x y : Int}, Way g.Rules x y → Prd g.Rules [⟨false, x⟩] := by
    rintro x y ⟨r, hr, hn, ⟨k, hk⟩, _⟩
    exact ⟨k, Le.non_iff.2 ⟨r, hr, hn, hk⟩⟩
  rcases q with rfl | q
  · exact hp
  · clear hp
    induction q with
    | single w => exact one w
    | tail _ _ ih => exact ih
theorem more_end (h : Small g) : End (more g).Rules (more g).Start ↔ End g.Rules g.Start := by
  have a5 := h.s2
  have e : (more g).Start = g.Nons := rfl
  rw [e]
  constructor
  · rintro ⟨a, b, r, l1, l2, h1, h2, h3, h4, h5, h6, k, k0, hk⟩
    rcases more_mem.1 h2 with h2 | rfl
    · have hin := h.toValid.inl h2
      have hb : b ≠ g.Nons := by have := (hin ⟨false, b⟩ (by rw [h5]; simp) rfl).2; simp only at this; omega
      have ha : a ≠ g.Nons := by have := (h.lft r h2).2; omega
      have q1 : Rch g.Rules g.Start a := by
        rcases h1 with h1 | h1
        · exact absurd h1.symm ha
        · exact ((more_first h).1 h1).2
      refine ⟨a, b, r, l1, l2, q1, h2, h3, (more_prd h hin).1 h4, h5, (more_rch h hb).1 h6, k, k0, (more_le h ?_).1 hk⟩
      intro s hs
      refine hin s ?_
      rw [h5]; rcases List.mem_append.1 hs with hs | hs <;> simp [hs]
    · simp only at h3
      subst h3
      exfalso
      have hb : b = g.Start := by
        have : (⟨false, b⟩ : Sy) ∈ ([⟨true, 0⟩, ⟨false, g.Start⟩] : List Sy) := by
          show (⟨false, b⟩ : Sy) ∈ _
          simp only at h5; rw [h5]; simp
        simpa using this
      rcases h6 with h6 | h6
      · omega
      · cases h6 with
        | single w => exact more_way_to h w rfl
        | tail _ w => exact more_way_to h w rfl
  · rintro ⟨a, b, r, l1, l2, h1, h2, h3, h4, h5, h6, k, k0, hk⟩
    have hin := h.toValid.inl h2
    have hb : b ≠ g.Nons := by have := (hin ⟨false, b⟩ (by rw [h5]; simp) rfl).2; simp only at this; omega
    have hp : Prd g.Rules [⟨false, g.Start⟩] := by
      obtain ⟨k', hk'⟩ := h4
      exact rch_prd h1 ⟨k', Le.non_iff.2 ⟨r, h2, h3, hk'⟩⟩
    refine ⟨a, b, r, l1, l2, .inr ((more_first h).2 ⟨hp, h1⟩), more_mem.2 (.inl h2), h3, (more_prd h hin).2 h4, h5, (more_rch h hb).2 h6, k, k0, (more_le h ?_).2 hk⟩
    intro s hs
    refine hin s ?_
    rw [h5]; rcases List.mem_append.1 hs with hs | hs <;> simp [hs]
end
theorem lensLonger_plain (l : List Int) (n : Int) : P.parlkeep5_LensLonger 10000 l n = some true := by
  refine Ok.eq ?_
  unfold P.parlkeep5_LensLonger
  refine (grammar_ok l).bind fun g hg => ?_
  refine (pbelow_ok (by omega) (by omega)).bind fun m ⟨m0, m1⟩ => ?_
  obtain ⟨n, rfl⟩ : ∃ n : Nat, m = n := ⟨m.toNat, by omega⟩
  rw [plain_eq, Option.bind_some]
  have hp := set_ok plain_valid (n := 1) (by omega) (φ := 10000) (by omega)
  refine hp.bind fun x4 ⟨p1, p2, p3⟩ => ?_
  have p4 := (p3 1 (by omega)).2 plain_one
  rw [if_neg (by simp [p1, p2]), ix_el (by omega) (by omega), Option.bind_some]
  rw [show el x4.1 1 = true from p4]
  simp only [Bool.not_true, Option.bind_some, Bool.false_eq_true, if_false]
  have hlen := hg.len3
  have a3 := hg.n3; have a2 := hg.n1
  have e6 : P.slices_Clone_api_Rule_api_Rule g.Rules = some g.Rules := by
    unfold P.slices_Clone_api_Rule_api_Rule
    rw [app_eq (by simp; omega)]; rfl
  rw [e6, Option.bind_some, app_eq (by simp; omega), Option.bind_some, W_id, W_id]
  rw [show Ty.api_Grammar.mk g.Terms (g.Nons + 1) g.Nons (g.Rules ++ [Ty.api_Rule.mk g.Nons [Ty.api_Sym.mk true 0, Ty.api_Sym.mk false g.Start]]) = more g from rfl]
  have hv := more_valid hg
  refine (set_ok hg.toValid (n := n) (by omega) (by omega)).bind fun x8 ⟨x1, x2, x3⟩ => ?_
  have hy := set_ok hv (n := n + 1) (by omega) (φ := 10000) (by omega)
  rw [show ((n + 1 : Nat) : Int) = (n : Int) + 1 by omega] at hy
  refine hy.bind fun x9 ⟨y1, yl, y3⟩ => ?_
  refine (greatest_ok hg.toValid (by omega)).bind fun x10 ⟨z1, z2⟩ => ?_
  refine (greatest_ok hv (by omega)).bind fun x11 ⟨w1, w2⟩ => ?_
  have key : Ok (if 0 ≤ x10.1 then some (Pu.W (x10.1 + 1)) else some x10.1) fun y => y = x11.1 := by
    rw [more_end hg] at w2
    rcases z2 with ⟨q1, q2⟩ | ⟨q1, q2, q3⟩ | ⟨q1, q5, q2, q3, q4⟩
    · rw [if_neg (by omega)]
      rcases w2 with ⟨r1, -⟩ | ⟨-, r2, -⟩ | ⟨-, -, r2, -⟩
      · exact .some (by omega)
      · exact absurd q2 r2
      · exact absurd q2 r2
    · rw [if_neg (by omega)]
      rcases w2 with ⟨-, r2⟩ | ⟨r1, -, -⟩ | ⟨r1, -, -, r3, -⟩
      · exact absurd r2 q2
      · exact .some (by omega)
      · exfalso
        obtain ⟨j, -, hj⟩ := (more_start hg).1 r3
        exact q3 ⟨j, hj⟩
    · rw [if_pos q1]
      rcases w2 with ⟨-, r2⟩ | ⟨-, -, r3⟩ | ⟨r1, -, -, r3, r4⟩
      · exact absurd r2 q2
      · exact absurd ⟨_, (more_start hg).2 ⟨_, rfl, q3⟩⟩ r3
      · obtain ⟨j, hj, hj2⟩ := (more_start hg).1 r3
        have c1 := q4 j hj2
        have c2 := r4 _ ((more_start hg).2 ⟨_, rfl, q3⟩)
        have e : x11.1 = x10.1 + 1 := by omega
        rw [W_id]
        exact .some e.symm
  refine key.bind fun y2 hy2 => ?_
  have hw2 : Pu.W ((n : Int) + 2) = n + 2 := W_id
  rw [if_pos (by simp [x1, y1, z1, w1, hw2]; omega), ix_el (by omega) (by omega), Option.bind_some, Option.bind_some]
  have e0 : el x9.1 0 = false := by
    cases h : el x9.1 0 with
    | false => rfl
    | true =>
      obtain ⟨j, hj, -⟩ := (more_start hg).1 ((y3 0 (by omega)).1 h)
      omega
  rw [e0, if_pos (show (!false) = true from rfl), sub_eq (by omega) (by omega) (by omega), Option.bind_some]
  have heq : x8.1 = (List.take (Int.toNat x9.1.length) x9.1).drop (Int.toNat 1) := by
    refine ext_el (by simp; omega) fun i i0 i1 => ?_
    obtain ⟨i, rfl⟩ : ∃ j : Nat, i = j := ⟨i.toNat, by omega⟩
    have c1 := x3 i (by omega)
    have c2 := y3 (i + 1) (by omega)
    rw [more_start hg] at c2
    have c3 : el ((List.take (Int.toNat x9.1.length) x9.1).drop (Int.toNat 1)) (i : Int) = el x9.1 ((i + 1 : Nat) : Int) := by
      unfold el
      simp only [Int.toNat_natCast]
      rw [List.take_of_length_le (Nat.le_refl _), List.getElem?_drop, show Int.toNat 1 + i = i + 1 by omega]
    rw [c3]
    have : el x8.1 (i : Int) = true ↔ el x9.1 ((i + 1 : Nat) : Int) = true := by
      rw [c1, c2]
      constructor
      · intro h; exact ⟨i, rfl, h⟩
      · rintro ⟨j, e, h⟩; rwa [show i = j by omega]
    exact Bool.eq_iff_iff.2 this
  rw [equalb_ok _ _ (by omega) heq]
  exact .some (by simp [hy2])
end Go.Proofs.Ythgdobdhdfjhfaa.Gr
