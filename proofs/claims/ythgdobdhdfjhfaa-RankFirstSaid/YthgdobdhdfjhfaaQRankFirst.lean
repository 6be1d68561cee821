/- Trees with a smaller rule at the root have smaller numbers: the plain law of RankFirst. Own work. -/
import Derived.Test.YthgdobdhdfjhfaaRk4
import Derived.Test.YthgdobdhdfjhfaaPln
import Derived.Test.YthgdobdhdfjhfaaBel
namespace Go.Proofs.Ythgdobdhdfjhfaa.Gr
open Go Go.Ab Go.Pu
theorem first_count : ∀ φ, 10000 ≤ φ → P.rank_Count φ gPlain 3 = some (1, 0) := by
  intro φ hφ
  obtain ⟨N, E, hN⟩ := env_ok plain_valid (n := 3) (by omega)
  have e0 : P.census_Trees 10000 gPlain 3 = some ([[0, 1, 1, 1]], 0) := by decide +kernel
  have e1 := hN 10000 (Nat.le_refl _)
  have e2 : N = [[0, 1, 1, 1]] := by
    have e3 : P.census_Trees 10000 gPlain 3 = some (N, 0) := e1
    rw [e0] at e3
    simpa using (Option.some.inj e3).symm
  have e4 : P.census_Trees φ gPlain 3 = some ([[0, 1, 1, 1]], 0) := by rw [← e2]; exact hN φ hφ
  unfold P.rank_Count P.rank_open
  rw [e4]
  rfl
theorem below9_ok {x n : Int} (h1 : 1 ≤ n) (h2 : n ≤ 1000000000000) : Ok (P.parlkeep5_below x n) fun y => 0 ≤ y ∧ y < n := by
  have e : Pu.rem x n = some (x.tmod n) := by unfold Pu.rem; rw [if_neg (by omega)]
  have := Int.tmod_lt_of_pos x (by omega : 0 < n)
  have h3 : -n < x.tmod n := by
    have := Int.tmod_lt_of_pos (-x) (by omega : 0 < n)
    rw [Int.neg_tmod] at this; omega
  unfold P.parlkeep5_below P.parlmake_Below
  rw [e, Option.bind_some]
  refine Ok.bind (Q := fun y => 0 ≤ y ∧ y < n) ?_ fun y hy => .some hy
  refine Ok.bind (Q := fun y => 0 ≤ y ∧ y < n) ?_ fun y hy => .some hy
  split
  · rw [W_id]; exact .some (by omega)
  · exact .some (by omega)
theorem rankFirst_plain (l : List Int) (a1 a2 : Int) : ∃ φ, P.parlkeep5_RankFirst φ l a1 a2 = some true := by
  obtain ⟨g, eg, hg⟩ := grammar_ok l
  have hv := hg.toValid
  obtain ⟨n, en, n0, n1⟩ := pbelow_ok (x := a1) (n := 8) (by omega) (by omega)
  obtain ⟨n, rfl⟩ : ∃ m : Nat, n = m := ⟨n.toNat, by omega⟩
  obtain ⟨N, E, hN⟩ := env_ok hv (n := n) (by omega)
  have hMC : (MC : Int) = 1000000000 := rfl
  -- is the number one?
  obtain ⟨c, ec, hc⟩ := count_of E (hN 10000 (Nat.le_refl _))
  by_cases hnum : c.2 = 0
  · obtain ⟨v, e1, hnm, hsI, ho⟩ := hc hnum
    obtain ⟨φ0, hφ0⟩ := tree_ok E hv.s1 hv.s2 (Nat.le_refl _) hnm
    refine ⟨max 10000 φ0, ?_⟩
    generalize hφ : max 10000 φ0 = φ
    have hφ1 : 10000 ≤ φ := by omega
    obtain ⟨c', ec', hc'⟩ := count_of E (hN φ hφ1)
    have hT := hφ0 φ (by omega)
    refine Ok.eq ?_
    unfold P.parlkeep5_RankFirst
    rw [eg, Option.bind_some, en, Option.bind_some, plain_eq, Option.bind_some, first_count φ hφ1, Option.bind_some, if_neg (by simp), ec', Option.bind_some]
    refine .ite (fun _ => .some rfl) fun hne => ?_
    have hne' : c'.2 = 0 ∧ 2 ≤ c'.1 := by simp at hne; omega
    obtain ⟨v', e1', hnm', -, ho'⟩ := hc' hne'.1
    have : v' = v := by have := hnm'.lim.fn hnm.lim; exact this
    subst this
    have hvl := hnm.lt
    rw [W_id]
    refine (below9_ok (by omega) (by omega)).bind fun i ⟨i0, i1⟩ => ?_
    obtain ⟨x7, h7, k7⟩ := rtree_ok E ho' hT i
    obtain ⟨x8, h8, k8⟩ := rtree_ok E ho' hT (i + 1)
    obtain ⟨x9, h9, k9⟩ := rtree_ok E ho' hT v'
    obtain ⟨x10, h10, k10⟩ := rtree_ok E ho' hT (-1)
    rw [h7, Option.bind_some, W_id, h8, Option.bind_some, e1', h9, Option.bind_some, h10, Option.bind_some]
    rcases k7 with ⟨-, -, a7, s7, i7, b7⟩ | ⟨a7, -⟩
    rcases k8 with ⟨-, -, a8, s8, i8, b8⟩ | ⟨a8, -⟩
    rcases k9 with ⟨-, q, -⟩ | ⟨-, a9⟩
    · omega
    rcases k10 with ⟨q, -⟩ | ⟨-, a10⟩
    · omega
    · have hr := b7.rule (v := v') b8 (by omega) fun r hr hra => ((rules_ok E.c E.nons hnm (Nat.le_refl _)).1 r hr hra).nonneg
      obtain ⟨_, _, _, _, -, e7, -⟩ := b7.h
      obtain ⟨_, _, _, _, -, e8, -⟩ := b8.h
      refine .some ?_
      rw [e7, e8, a7, a8, a9, a10]
      simp; omega
    · omega
    · omega
  · refine ⟨10000, ?_⟩
    refine Ok.eq ?_
    unfold P.parlkeep5_RankFirst
    rw [eg, Option.bind_some, en, Option.bind_some, plain_eq, Option.bind_some, first_count 10000 (Nat.le_refl _), Option.bind_some, if_neg (by simp), ec, Option.bind_some]
    rw [if_pos (by simp; omega)]
    exact .some rfl
end Go.Proofs.Ythgdobdhdfjhfaa.Gr
