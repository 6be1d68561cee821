/- Numbers below a bound. Own work. -/
import Derived.Test.YtbehlbabgomhfaaP
import Derived.Test.YtbehlbabgomhfaaWp
namespace Go.Proofs.Ytbehlbabgomhfaa.Gr
open Go Go.Ab Go.Pu
theorem below_ok {x n : Int} (h1 : 1 ≤ n) (h2 : n ≤ 1000000) : Ok (P.parlmake_Below x n) fun y => 0 ≤ y ∧ y < n := by
  have e : Pu.rem x n = some (x.tmod n) := by unfold Pu.rem; rw [if_neg (by omega)]
  have := Int.tmod_lt_of_pos x (by omega : 0 < n)
  have h3 : -n < x.tmod n := by
    have := Int.tmod_lt_of_pos (-x) (by omega : 0 < n)
    rw [Int.neg_tmod] at this; omega
  unfold P.parlmake_Below
  rw [e, Option.bind_some]
  split
  · rw [W_id]; exact .some (by omega)
  · exact .some (by omega)
theorem pbelow_ok {x n : Int} (h1 : 1 ≤ n) (h2 : n ≤ 1000000) : Ok (P.parlkeep5_below x n) fun y => 0 ≤ y ∧ y < n :=
  (below_ok h1 h2).bind fun _ h => .some h
end Go.Proofs.Ytbehlbabgomhfaa.Gr
