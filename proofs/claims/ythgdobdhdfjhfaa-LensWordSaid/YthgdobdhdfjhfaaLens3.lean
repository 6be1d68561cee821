/- lens.Greatest: where words are endless. Own work. -/
import Derived.Test.YthgdobdhdfjhfaaLens2
namespace Go.Proofs.Ythgdobdhdfjhfaa.Gr
open Go Go.Ab Go.Pu

theorem square_ok {n : Int} (h0 : 0 ≤ n) (h1 : n ≤ 1000) : Ok (P.lens_square n) fun M => Dim M n n ∧ ∀ a b : Int, 0 ≤ a → a < n → 0 ≤ b → b < n → el2 M a b = false := by
  unfold P.lens_square
  rw [mk_eq (by omega) (by omega) (by omega), Option.bind_some, List.length_replicate, show ((n.toNat : Nat) : Int) = n by omega, ranO_eq (by omega), Option.bind_some]
  refine Ok.bind (forP_ok (fun i (M : List (List Bool)) => (M.length : Int) = n ∧ (∀ a : Int, 0 ≤ a → a < i → el M a = List.replicate n.toNat false)) ⟨by simp; omega, fun a h h' => by omega⟩ ?_ fun s h => h) ?_
  · intro i x M hx ⟨h2, h3⟩
    obtain ⟨rfl, hi⟩ := ran_at hx
    unfold P.lens_square.b0
    rw [mk_eq (by omega) (by omega) (by omega), Option.bind_some, ix_el (by omega) (by omega), Option.bind_some]
    refine .some ⟨by simpa using h2, fun a ha hb => ?_⟩
    rw [el_st (by omega) (by omega) ha]
    split
    · rfl
    · exact h3 a ha (by omega)
  · intro M ⟨h2, h3⟩
    have h4 : ∀ a : Int, 0 ≤ a → a < n → el M a = List.replicate n.toNat false := fun a ha hb => h3 a ha (by rw [ran_length]; omega)
    refine .some ⟨⟨h2, fun a ha hb => by rw [h4 a ha hb]; simp; omega⟩, fun a k ha hb hc hd => ?_⟩
    unfold el2; rw [h4 a ha hb, el_rep hc (by omega)]

def WayL (L : List Int) (r : Ru) (a b : Int) : Prop := r.Left = a ∧ PosL L r.Right ∧ ∃ (i : Nat) (s : Sy), r.Right[i]? = some s ∧ s.Term = false ∧ s.N = b
def GroL (L : List Int) (r : Ru) (a b : Int) : Prop := r.Left = a ∧ PosL L r.Right ∧ ∃ (i : Nat) (s : Sy), r.Right[i]? = some s ∧ s.Term = false ∧ s.N = b ∧ ∃ (j : Nat) (x : Sy), j ≠ i ∧ r.Right[j]? = some x ∧ 0 < wS L x

theorem ways_ok {g : Ty.api_Grammar} (hv : Valid g) {L : List Int} {B : Int} (hL : Tab L g.Nons B) (hB : 1 ≤ B) (hB2 : B ≤ 1099511627776) {M0 G0 : List (List Bool)} (h1 : Dim M0 g.Nons g.Nons) (h2 : Dim G0 g.Nons g.Nons)
    (z1 : ∀ a b : Int, 0 ≤ a → a < g.Nons → 0 ≤ b → b < g.Nons → el2 M0 a b = false) (z2 : ∀ a b : Int, 0 ≤ a → a < g.Nons → 0 ≤ b → b < g.Nons → el2 G0 a b = false) :
    Ok (Pu.forP (P.lens_endless.b0 L) 0 g.Rules (M0, G0)) fun s => Dim s.1 g.Nons g.Nons ∧ Dim s.2 g.Nons g.Nons ∧ (∀ a b : Int, 0 ≤ a → a < g.Nons → 0 ≤ b → b < g.Nons → (el2 s.1 a b = true ↔ ∃ r ∈ g.Rules, WayL L r a b)) ∧
      (∀ a b : Int, 0 ≤ a → a < g.Nons → 0 ≤ b → b < g.Nons → (el2 s.2 a b = true ↔ ∃ r ∈ g.Rules, GroL L r a b)) := by
  have n1 := hv.n1; have n2 := hv.n2
  refine forP_ok (fun m s => Dim s.1 g.Nons g.Nons ∧ Dim s.2 g.Nons g.Nons ∧ (∀ a b : Int, 0 ≤ a → a < g.Nons → 0 ≤ b → b < g.Nons → (el2 s.1 a b = true ↔ ∃ j r, j < m ∧ g.Rules[j]? = some r ∧ WayL L r a b)) ∧
      (∀ a b : Int, 0 ≤ a → a < g.Nons → 0 ≤ b → b < g.Nons → (el2 s.2 a b = true ↔ ∃ j r, j < m ∧ g.Rules[j]? = some r ∧ GroL L r a b))) ⟨h1, h2, fun a b x y z w => by rw [z1 a b x y z w]; simp, fun a b x y z w => by rw [z2 a b x y z w]; simp⟩ ?_ ?_
  · intro m r s hr ⟨d1, d2, d3, d4⟩
    have hm := List.mem_of_getElem? hr
    obtain ⟨l1, l2⟩ := hv.lft r hm
    have hin := hv.inl hm
    have hlen := hv.rgt r hm
    unfold P.lens_endless.b0
    refine (total_ok hL hB hB2 hin hlen).bind fun x hx => ?_
    by_cases hp : PosL L r.Right
    · have hx0 : ¬ x < 0 := by
        rcases hx with ⟨-, rfl⟩ | ⟨hn, -⟩
        · have := sumS_nn hp; omega
        · exact absurd hp hn
      rw [if_neg hx0]
      refine Ok.bind (forP_ok (fun k t => Dim t.1 g.Nons g.Nons ∧ Dim t.2 g.Nons g.Nons ∧ (∀ a b : Int, 0 ≤ a → a < g.Nons → 0 ≤ b → b < g.Nons → (el2 t.1 a b = true ↔ el2 s.1 a b = true ∨ (r.Left = a ∧ ∃ (i : Nat) (y : Sy), i < k ∧ r.Right[i]? = some y ∧ y.Term = false ∧ y.N = b))) ∧
        (∀ a b : Int, 0 ≤ a → a < g.Nons → 0 ≤ b → b < g.Nons → (el2 t.2 a b = true ↔ el2 s.2 a b = true ∨ (r.Left = a ∧ ∃ (i : Nat) (y : Sy), i < k ∧ r.Right[i]? = some y ∧ y.Term = false ∧ y.N = b ∧ ∃ (j : Nat) (x : Sy), j ≠ i ∧ r.Right[j]? = some x ∧ 0 < wS L x)))) ⟨d1, d2, fun a b _ _ _ _ => by simp, fun a b _ _ _ _ => by simp⟩ ?_ fun s h => h) ?_
      · intro k y t hy ⟨e1, e2, e3, e4⟩
        have hk := (List.getElem?_eq_some_iff.1 hy).1
        have hym := List.mem_of_getElem? hy
        unfold P.lens_endless.b1
        cases hyt : y.Term with
        | true =>
          rw [if_pos rfl]
          refine .some ⟨e1, e2, fun a b a0 a1 b0 b1 => ?_, fun a b a0 a1 b0 b1 => ?_⟩
          · simp only; rw [e3 a b a0 a1 b0 b1]
            refine or_congr Iff.rfl (and_congr Iff.rfl ⟨?_, ?_⟩)
            · rintro ⟨i, z, q1, q2⟩; exact ⟨i, z, by omega, q2⟩
            · rintro ⟨i, z, q1, q2, q3⟩
              have : i ≠ k := fun e => by subst e; rw [hy] at q2; cases q2; rw [hyt] at q3; cases q3.1
              exact ⟨i, z, by omega, q2, q3⟩
          · simp only; rw [e4 a b a0 a1 b0 b1]
            refine or_congr Iff.rfl (and_congr Iff.rfl ⟨?_, ?_⟩)
            · rintro ⟨i, z, q1, q2⟩; exact ⟨i, z, by omega, q2⟩
            · rintro ⟨i, z, q1, q2, q3⟩
              have : i ≠ k := fun e => by subst e; rw [hy] at q2; cases q2; rw [hyt] at q3; cases q3.1
              exact ⟨i, z, by omega, q2, q3⟩
        | false =>
          obtain ⟨y1, y2⟩ := hin y hym hyt
          rw [if_neg (by simp), e1.ix l1 l2, Option.bind_some, e1.ix2 l1 l2 y1 y2, Option.bind_some]
          refine Ok.bind (forP_ok (fun j G => Dim G g.Nons g.Nons ∧ (∀ a b : Int, 0 ≤ a → a < g.Nons → 0 ≤ b → b < g.Nons → (el2 G a b = true ↔ el2 t.2 a b = true ∨ (a = r.Left ∧ b = y.N ∧ ∃ (j' : Nat) (x : Sy), j' < j ∧ j' ≠ k ∧ r.Right[j']? = some x ∧ 0 < wS L x)))) ⟨e2, fun a b _ _ _ _ => by simp⟩ ?_ fun s h => h) ?_
          · intro j z G hz ⟨f1, f2⟩
            have hzm := List.mem_of_getElem? hz
            unfold P.lens_endless.b2
            rw [f1.ix l1 l2, Option.bind_some, Option.bind_some, f1.ix2 l1 l2 y1 y2, Option.bind_some]
            have ew : ((if z.Term = true then some true else (Pu.ix L z.N).bind fun x12 => some (decide (0 < x12))) : Option Bool) = some (decide (0 < wS L z)) := by
              unfold wS
              cases hzt : z.Term with
              | true => simp
              | false =>
                obtain ⟨a, b⟩ := hin z hzm hzt
                rw [if_neg (by simp), ix_el a (by rw [hL.len]; exact b)]; simp
            have ev : ((if el2 G r.Left y.N = true then some true else (if decide ((j : Int) ≠ (k : Int)) = true then ((if z.Term = true then some true else (Pu.ix L z.N).bind fun x12 => some (decide (0 < x12))) : Option Bool).bind fun y6 => some y6 else some false).bind fun y5 => some y5) : Option Bool) = some (el2 G r.Left y.N || (decide (j ≠ k) && decide (0 < wS L z))) := by
              rw [ew]
              cases el2 G r.Left y.N with
              | true => rfl
              | false =>
                simp only [Bool.false_eq_true, if_false, Bool.false_or, Option.bind_some]
                by_cases q : j = k
                · subst q; simp
                · simp [q, show ¬ ((j : Int) = (k : Int)) by omega]
            rw [ev, Option.bind_some, Option.bind_some]
            refine .some ⟨f1.st2 l1 l2, fun a b a0 a1 b0 b1 => ?_⟩
            rw [show Pu.st G r.Left (Pu.st (el G r.Left) y.N (el2 G r.Left y.N || (decide (j ≠ k) && decide (0 < wS L z)))) = st2 G r.Left y.N (el2 G r.Left y.N || (decide (j ≠ k) && decide (0 < wS L z))) from rfl, f1.el_st2 l1 l2 y1 y2 a0 b0]
            split
            · rename_i e
              obtain ⟨rfl, rfl⟩ := e
              rw [Bool.or_eq_true, f2 _ _ l1 l2 y1 y2, Bool.and_eq_true, decide_eq_true_eq, decide_eq_true_eq]
              constructor
              · rintro ((h | ⟨-, -, j', x, q1, q2⟩) | ⟨h, h'⟩)
                · exact .inl h
                · exact .inr ⟨rfl, rfl, j', x, by omega, q2⟩
                · exact .inr ⟨rfl, rfl, j, z, by omega, h, hz, h'⟩
              · rintro (h | ⟨-, -, j', x, q1, q2, q3, q4⟩)
                · exact .inl (.inl h)
                · rcases Nat.lt_succ_iff_lt_or_eq.1 q1 with q | rfl
                  · exact .inl (.inr ⟨rfl, rfl, j', x, q, q2, q3, q4⟩)
                  · rw [hz] at q3; cases q3; exact .inr ⟨q2, q4⟩
            · rename_i e
              rw [f2 a b a0 a1 b0 b1]
              constructor
              · rintro (h | ⟨q1, q2, -⟩)
                · exact .inl h
                · exact absurd ⟨q1, q2⟩ e
              · rintro (h | ⟨q1, q2, -⟩)
                · exact .inl h
                · exact absurd ⟨q1, q2⟩ e
          · intro G ⟨f1, f2⟩
            refine .some ⟨e1.st2 l1 l2, f1, fun a b a0 a1 b0 b1 => ?_, fun a b a0 a1 b0 b1 => ?_⟩
            · simp only
              rw [show Pu.st t.1 r.Left (Pu.st (el t.1 r.Left) y.N true) = st2 t.1 r.Left y.N true from rfl, e1.el_st2 l1 l2 y1 y2 a0 b0]
              split
              · rename_i e
                obtain ⟨rfl, rfl⟩ := e
                exact iff_of_true rfl (.inr ⟨rfl, k, y, by omega, hy, hyt, rfl⟩)
              · rename_i e
                rw [e3 a b a0 a1 b0 b1]
                refine or_congr Iff.rfl ⟨?_, ?_⟩
                · rintro ⟨rfl, i, z, q1, q2⟩; exact ⟨rfl, i, z, by omega, q2⟩
                · rintro ⟨rfl, i, z, q1, q2, q3, q4⟩
                  have : i ≠ k := fun e' => by subst e'; rw [hy] at q2; cases q2; exact e ⟨rfl, q4.symm⟩
                  exact ⟨rfl, i, z, by omega, q2, q3, q4⟩
            · simp only
              rw [f2 a b a0 a1 b0 b1, e4 a b a0 a1 b0 b1]
              constructor
              · rintro ((h | ⟨rfl, i, z, q1, q2⟩) | ⟨rfl, rfl, j', x, q1, q2, q3, q4⟩)
                · exact .inl h
                · exact .inr ⟨rfl, i, z, by omega, q2⟩
                · exact .inr ⟨rfl, k, y, by omega, hy, hyt, rfl, j', x, q2, q3, q4⟩
              · rintro (h | ⟨rfl, i, z, q1, q2, q3, q4, j', x, q5, q6, q7⟩)
                · exact .inl (.inl h)
                · rcases Nat.lt_succ_iff_lt_or_eq.1 q1 with q | rfl
                  · exact .inl (.inr ⟨rfl, i, z, q, q2, q3, q4, j', x, q5, q6, q7⟩)
                  · rw [hy] at q2; cases q2
                    exact .inr ⟨rfl, q4.symm, j', x, (List.getElem?_eq_some_iff.1 q6).1, q5, q6, q7⟩
      · intro t ⟨e1, e2, e3, e4⟩
        refine .some ⟨e1, e2, fun a b a0 a1 b0 b1 => ?_, fun a b a0 a1 b0 b1 => ?_⟩
        · simp only; rw [e3 a b a0 a1 b0 b1, d3 a b a0 a1 b0 b1]
          constructor
          · rintro (⟨j, r', q1, q2⟩ | ⟨rfl, i, z, q1, q2⟩)
            · exact ⟨j, r', by omega, q2⟩
            · exact ⟨m, r, by omega, hr, rfl, hp, i, z, q2⟩
          · rintro ⟨j, r', q1, q2, q3⟩
            rcases Nat.lt_succ_iff_lt_or_eq.1 q1 with q | rfl
            · exact .inl ⟨j, r', q, q2, q3⟩
            · rw [hr] at q2; cases q2
              obtain ⟨rfl, -, i, z, q4, q5⟩ := q3
              exact .inr ⟨rfl, i, z, (List.getElem?_eq_some_iff.1 q4).1, q4, q5⟩
        · simp only; rw [e4 a b a0 a1 b0 b1, d4 a b a0 a1 b0 b1]
          constructor
          · rintro (⟨j, r', q1, q2⟩ | ⟨rfl, i, z, q1, q2⟩)
            · exact ⟨j, r', by omega, q2⟩
            · exact ⟨m, r, by omega, hr, rfl, hp, i, z, q2⟩
          · rintro ⟨j, r', q1, q2, q3⟩
            rcases Nat.lt_succ_iff_lt_or_eq.1 q1 with q | rfl
            · exact .inl ⟨j, r', q, q2, q3⟩
            · rw [hr] at q2; cases q2
              obtain ⟨rfl, -, i, z, q4, q5⟩ := q3
              exact .inr ⟨rfl, i, z, (List.getElem?_eq_some_iff.1 q4).1, q4, q5⟩
    · have hx0 : x < 0 := by
        rcases hx with ⟨h, -⟩ | ⟨-, rfl⟩
        · exact absurd h hp
        · omega
      rw [if_pos hx0]
      refine .some ⟨d1, d2, fun a b a0 a1 b0 b1 => ?_, fun a b a0 a1 b0 b1 => ?_⟩
      · simp only; rw [d3 a b a0 a1 b0 b1]
        constructor
        · rintro ⟨j, r', q1, q2⟩; exact ⟨j, r', by omega, q2⟩
        · rintro ⟨j, r', q1, q2, q3⟩
          have : j ≠ m := fun e => by subst e; rw [hr] at q2; cases q2; exact hp q3.2.1
          exact ⟨j, r', by omega, q2, q3⟩
      · simp only; rw [d4 a b a0 a1 b0 b1]
        constructor
        · rintro ⟨j, r', q1, q2⟩; exact ⟨j, r', by omega, q2⟩
        · rintro ⟨j, r', q1, q2, q3⟩
          have : j ≠ m := fun e => by subst e; rw [hr] at q2; cases q2; exact hp q3.2.1
          exact ⟨j, r', by omega, q2, q3⟩
  · intro s ⟨d1, d2, d3, d4⟩
    have tr : ∀ p : Ru → Prop, (∃ j r, j < g.Rules.length ∧ g.Rules[j]? = some r ∧ p r) ↔ ∃ r ∈ g.Rules, p r := fun p => by
      constructor
      · rintro ⟨j, r, _, h, q⟩; exact ⟨r, List.mem_of_getElem? h, q⟩
      · rintro ⟨r, h, q⟩
        obtain ⟨j, hj, rfl⟩ := List.mem_iff_getElem.1 h
        exact ⟨j, _, hj, List.getElem?_eq_getElem hj, q⟩
    exact ⟨d1, d2, fun a b a0 a1 b0 b1 => (d3 a b a0 a1 b0 b1).trans (tr _), fun a b a0 a1 b0 b1 => (d4 a b a0 a1 b0 b1).trans (tr _)⟩
theorem endless_ev (c1 c2 : Prop) [Decidable c1] [Decidable c2] (p q r : Bool) {o1 o2 : Option Bool} (h1 : o1 = some q) (h2 : o2 = some r) :
    ((if p = true then (if decide c1 = true then some true else o1).bind fun y17 => some y17 else some false : Option Bool).bind fun y16 => (if y16 = true then (if decide c2 = true then some true else o2).bind fun y19 => some y19 else some false : Option Bool).bind fun y18 => (if y18 = true then some (Pu.Step.rt (Pu.Step.rt true)) else some (Pu.Step.nx ()) : Option (Pu.Step Unit (Pu.Step Unit Bool)))) =
      some (if p = true ∧ (c1 ∨ q = true) ∧ (c2 ∨ r = true) then Pu.Step.rt (Pu.Step.rt true) else Pu.Step.nx ()) := by
  subst h1; subst h2
  by_cases h1 : c1 <;> by_cases h2 : c2 <;> cases p <;> cases q <;> cases r <;> simp [h1, h2]
/-- What endless tells. -/
theorem endless_ok {g : Ty.api_Grammar} (hv : Valid g) {L : List Int} {B : Int} (hL : Tab L g.Nons B) (hB : 1 ≤ B) (hB2 : B ≤ 1099511627776) :
    Ok (P.lens_endless g L) fun e => e = true ↔ ∃ a b : Int, (∃ r ∈ g.Rules, GroL L r a b) ∧ (a = b ∨ Relation.TransGen (fun x y => ∃ r ∈ g.Rules, WayL L r x y) b a) ∧ (a = g.Start ∨ Relation.TransGen (fun x y => ∃ r ∈ g.Rules, WayL L r x y) g.Start a) := by
  have n1 := hv.n1; have n2 := hv.n2; have s1 := hv.s1; have s2 := hv.s2
  unfold P.lens_endless
  refine (square_ok (by omega) (by omega)).bind fun M0 ⟨a1, a2⟩ => ?_
  refine (square_ok (by omega) (by omega)).bind fun G0 ⟨b1, b2⟩ => ?_
  refine (ways_ok hv hL hB hB2 a1 b1 a2 b2).bind fun s ⟨d1, d2, d3, d4⟩ => ?_
  rw [d1.1, ranO_eq (by omega), Option.bind_some]
  have hn : g.Nons = (g.Nons.toNat : Int) := by omega
  have hW := war_ok (n := g.Nons.toNat) (by omega) (M0 := s.1) (by rw [← hn]; exact d1)
  rw [← hn] at hW
  refine Ok.bind (show Ok (forP P.lens_endless.b3 0 (ran g.Nons) s.1) _ from hW) fun W ⟨w1, w2⟩ => ?_
  have hrange : ∀ x y : Int, (∃ r ∈ g.Rules, WayL L r x y) → (0 ≤ x ∧ x < g.Nons) ∧ 0 ≤ y ∧ y < g.Nons := by
    rintro x y ⟨r, hr, rfl, _, i, z, q1, q2, rfl⟩
    exact ⟨hv.lft r hr, hv.inl hr z (List.mem_of_getElem? q1) q2⟩
  have hw : ∀ x y : Int, 0 ≤ x → x < g.Nons → 0 ≤ y → y < g.Nons → (el2 W x y = true ↔ Relation.TransGen (fun x y => ∃ r ∈ g.Rules, WayL L r x y) x y) := by
    intro x y x0 x1 y0 y1
    have := w2 x.toNat y.toNat (by omega) (by omega)
    rw [Int.toNat_of_nonneg x0, Int.toNat_of_nonneg y0] at this
    rw [this]
    constructor
    · intro h
      have key : ∀ u v : Nat, Relation.TransGen (fun x y : Nat => x < g.Nons.toNat ∧ y < g.Nons.toNat ∧ el2 s.1 (x : Int) (y : Int) = true) u v → Relation.TransGen (fun x y => ∃ r ∈ g.Rules, WayL L r x y) (u : Int) (v : Int) := by
        intro u v h
        induction h with
        | single w => exact .single ((d3 _ _ (by omega) (by omega) (by omega) (by omega)).1 w.2.2)
        | tail _ w ih => exact .tail ih ((d3 _ _ (by omega) (by omega) (by omega) (by omega)).1 w.2.2)
      have := key _ _ h
      rwa [Int.toNat_of_nonneg x0, Int.toNat_of_nonneg y0] at this
    · intro h
      clear this
      induction h with
      | single w =>
        obtain ⟨⟨p1, p2⟩, p3, p4⟩ := hrange _ _ w
        refine .single ⟨by omega, by omega, ?_⟩
        rw [Int.toNat_of_nonneg p1, Int.toNat_of_nonneg p3]; exact (d3 _ _ p1 p2 p3 p4).2 w
      | tail h1 w ih =>
        obtain ⟨⟨p1, p2⟩, p3, p4⟩ := hrange _ _ w
        refine .tail (ih p1 p2) ⟨by omega, by omega, ?_⟩
        rw [Int.toNat_of_nonneg p1, Int.toNat_of_nonneg p3]; exact (d3 _ _ p1 p2 p3 p4).2 w
  let C : Int → Int → Prop := fun a b => el2 s.2 a b = true ∧ (a = b ∨ el2 W b a = true) ∧ (a = g.Start ∨ el2 W g.Start a = true)
  have fin : ∀ e : Bool, (e = true ↔ ∃ a b : Int, 0 ≤ a ∧ a < g.Nons ∧ 0 ≤ b ∧ b < g.Nons ∧ C a b) → (e = true ↔ ∃ a b : Int, (∃ r ∈ g.Rules, GroL L r a b) ∧ (a = b ∨ Relation.TransGen (fun x y => ∃ r ∈ g.Rules, WayL L r x y) b a) ∧ (a = g.Start ∨ Relation.TransGen (fun x y => ∃ r ∈ g.Rules, WayL L r x y) g.Start a)) := by
    intro e he
    rw [he]
    constructor
    · rintro ⟨a, b, x0, x1, y0, y1, c1, c2, c3⟩
      exact ⟨a, b, (d4 a b x0 x1 y0 y1).1 c1, c2.imp id (hw b a y0 y1 x0 x1).1, c3.imp id (hw _ a s1 s2 x0 x1).1⟩
    · rintro ⟨a, b, c1, c2, c3⟩
      obtain ⟨x0, x1, y0, y1⟩ : 0 ≤ a ∧ a < g.Nons ∧ 0 ≤ b ∧ b < g.Nons := by
        obtain ⟨r, hr, rfl, _, i, z, q1, q2, rfl, _⟩ := c1
        have := hv.lft r hr; have := hv.inl hr z (List.mem_of_getElem? q1) q2
        omega
      exact ⟨a, b, x0, x1, y0, y1, (d4 a b x0 x1 y0 y1).2 c1, c2.imp id (hw b a y0 y1 x0 x1).2, c3.imp id (hw _ a s1 s2 x0 x1).2⟩
  rw [w1.1, ranO_eq (by omega), Option.bind_some]
  refine Ok.bind (Q := fun | .out _ => ¬ ∃ a b : Int, 0 ≤ a ∧ a < g.Nons ∧ 0 ≤ b ∧ b < g.Nons ∧ C a b | .rt e => e = true ∧ ∃ a b : Int, 0 ≤ a ∧ a < g.Nons ∧ 0 ≤ b ∧ b < g.Nons ∧ C a b)
    (forL_ok (fun i _ => ¬ ∃ a b : Int, 0 ≤ a ∧ a < i ∧ 0 ≤ b ∧ b < g.Nons ∧ C a b) (by rintro ⟨a, b, x, y, _⟩; omega) ?_ ?_) ?_
  · intro i x _ hx hI
    obtain ⟨rfl, hi⟩ := ran_at hx
    unfold P.lens_endless.b6
    rw [w1.1, ranO_eq (by omega), Option.bind_some]
    refine Ok.bind (Q := fun | .out _ => ¬ ∃ b : Int, 0 ≤ b ∧ b < g.Nons ∧ C i b | .rt e => ∃ e', e = Step.rt e' ∧ e' = true ∧ ∃ a b : Int, 0 ≤ a ∧ a < g.Nons ∧ 0 ≤ b ∧ b < g.Nons ∧ C a b)
      (forL_ok (fun j _ => ¬ ∃ b : Int, 0 ≤ b ∧ b < j ∧ C i b) (by rintro ⟨b, x, y, _⟩; omega) ?_ ?_) ?_
    · intro j x _ hx hJ
      obtain ⟨rfl, hj⟩ := ran_at hx
      unfold P.lens_endless.b7
      rw [d2.ix (by omega) (by omega), Option.bind_some, d2.ix2 (by omega) (by omega) (by omega) (by omega), Option.bind_some]
      rw [endless_ev _ _ _ (el2 W j i) (el2 W g.Start i) (by rw [w1.ix (by omega) (by omega), Option.bind_some, w1.ix2 (by omega) (by omega) (by omega) (by omega)]; rfl) (by rw [w1.ix s1 s2, Option.bind_some, w1.ix2 s1 s2 (by omega) (by omega)]; rfl)]
      by_cases hc : C i j
      · have hc' := hc
        simp only [C] at hc'
        rw [if_pos hc']
        exact .some ⟨true, rfl, rfl, i, j, by omega, by omega, by omega, by omega, hc⟩
      · have hc' := hc
        simp only [C] at hc'
        rw [if_neg hc']
        refine .some ?_
        rintro ⟨b, q1, q2, q3⟩
        rcases (by omega : b < j ∨ b = j) with q | rfl
        · exact hJ ⟨b, q1, q, q3⟩
        · exact hc q3
    · intro _ h
      rwa [ran_length, Int.toNat_of_nonneg (by omega)] at h
    · rintro (t | e) h
      · refine .some ?_
        rintro ⟨a, b, q1, q2, q3, q4, q5⟩
        rcases (by omega : a < i ∨ a = i) with q | rfl
        · exact hI ⟨a, b, q1, q, q3, q4, q5⟩
        · exact h ⟨b, q3, q4, q5⟩
      · obtain ⟨e', rfl, h1, h2⟩ := h
        exact .some ⟨h1, h2⟩
  · intro _ h
    rwa [ran_length, Int.toNat_of_nonneg (by omega)] at h
  · rintro (t | e) h
    · exact .some (fin false ⟨fun h => (by cases h), fun q => absurd q h⟩)
    · exact .some (fin e ⟨fun _ => h.2, fun _ => h.1⟩)
end Go.Proofs.Ythgdobdhdfjhfaa.Gr
