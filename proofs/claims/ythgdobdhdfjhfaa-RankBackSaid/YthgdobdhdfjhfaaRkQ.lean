import Derived.Test.YthgdobdhdfjhfaaRk4
import Derived.Test.YthgdobdhdfjhfaaPln
import Derived.Test.YthgdobdhdfjhfaaBel
namespace Go.Proofs.Ythgdobdhdfjhfaa.Gr
open Go Go.Ab Go.Pu
theorem first_count : ∀ φ, 10000 ≤ φ → P.rank_Count φ gPlain 3 = some (1, 0) := by
 intro φ hφ
 obtain ⟨N, E, hN⟩ := env_ok plain_valid (n := 3) (by omega)
 have e0 : P.census_Trees 10000 gPlain 3 = some ([[0, 1, 1, 1]], 0) := by decide +kernel
 have e1 := hN 10000 (Nat.le_refl _)
 have e2 : N = [[0, 1, 1, 1]] := by
  have e3 : P.census_Trees 10000 gPlain 3 = some (N, 0) := e1
  rw [e0] at e3
  simpa using (Option.some.inj e3).symm
 have e4 : P.census_Trees φ gPlain 3 = some ([[0, 1, 1, 1]], 0) := by rw [← e2]; exact hN φ hφ
 unfold P.rank_Count P.rank_open
 rw [e4]
 rfl
theorem below9_ok {x n : Int} (h1 : 1 ≤ n) (h2 : n ≤ 1000000000000) : Ok (P.parlkeep5_below x n) fun y => 0 ≤ y ∧ y < n := by
 have e : Pu.rem x n = some (x.tmod n) := by unfold Pu.rem; rw [if_neg (by omega)]
 have := Int.tmod_lt_of_pos x (by omega : 0 < n)
 have h3 : -n < x.tmod n := by
  have := Int.tmod_lt_of_pos (-x) (by omega : 0 < n)
  rw [Int.neg_tmod] at this; omega
 unfold P.parlkeep5_below P.parlmake_Below
 rw [e, Option.bind_some]
 refine Ok.bind (Q := fun y => 0 ≤ y ∧ y < n) ?_ fun y hy => .some hy
 refine Ok.bind (Q := fun y => 0 ≤ y ∧ y < n) ?_ fun y hy => .some hy
 split
 ·rw [W_id]; exact .some (by omega)
 ·exact .some (by omega)
end Go.Proofs.Ythgdobdhdfjhfaa.Gr
