import Derived.Test.YtmeigkelacoibaaGr2
namespace Go.Proofs.Ytmeigkelacoibaa.Gr
open Go Go.Ab Go.Pu
theorem pbelow_ok {x n : Int} (h1 : 1 ≤ n) (h2 : n ≤ 1000000) : Ok (P.F3 x n) fun y => 0 ≤ y ∧ y < n :=
 (below_ok h1 h2).bind fun _ h => .some h
end Go.Proofs.Ytmeigkelacoibaa.Gr
