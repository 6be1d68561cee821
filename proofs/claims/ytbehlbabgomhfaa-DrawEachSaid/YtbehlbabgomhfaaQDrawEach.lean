/- An order has each number once, and each order is told by equally many lists of coins: the plain law of DrawEach, by looking at all cases. Own work. -/
import Derived.Test.YtbehlbabgomhfaaP
import Derived.Test.YtbehlbabgomhfaaWp
import Derived.Test.YtbehlbabgomhfaaBel0
namespace Go.Proofs.Ytbehlbabgomhfaa.Gr
open Go Go.Ab Go.Pu
def good (n k : Nat) : Bool := P.parlkeep5_DrawEach 1000 (n : Int) (k : Int) == some true
theorem good_all : ((List.range 4).all fun n => (List.range 9).all fun k => good n k) = true := by decide +kernel
theorem below_self {x n : Int} (h0 : 0 ≤ x) (h1 : x < n) (h2 : n ≤ 1000000) : P.parlkeep5_below x n = some x := by
  unfold P.parlkeep5_below P.parlmake_Below
  have e : Pu.rem x n = some x := by unfold Pu.rem; rw [if_neg (by omega), Int.tmod_eq_of_lt h0 h1]
  rw [e, Option.bind_some, if_neg (by omega)]; rfl
theorem drawEach_plain (a0 a1 : Int) : P.parlkeep5_DrawEach 1000 a0 a1 = some true := by
  obtain ⟨n, hn, n0, n1⟩ := pbelow_ok (x := a0) (n := 4) (by omega) (by omega)
  obtain ⟨k, hk, k0, k1⟩ := pbelow_ok (x := a1) (n := 9) (by omega) (by omega)
  have e : P.parlkeep5_DrawEach 1000 a0 a1 = P.parlkeep5_DrawEach 1000 n k := by
    unfold P.parlkeep5_DrawEach
    rw [hn, hk, below_self n0 n1 (by omega), below_self k0 k1 (by omega)]
  rw [e]
  have h := List.all_eq_true.1 (List.all_eq_true.1 good_all n.toNat (by simp; omega)) k.toNat (by simp; omega)
  unfold good at h
  rw [Int.toNat_of_nonneg n0, Int.toNat_of_nonneg k0] at h
  simpa using h
end Go.Proofs.Ytbehlbabgomhfaa.Gr
