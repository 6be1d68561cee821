/- Trees are counted at all. Own work. -/
import Derived.Test.YthgdobdhdfjhfaaPln
namespace Go.Proofs.Ythgdobdhdfjhfaa.Gr
open Go Go.Ab Go.Pu
theorem counts_eq : P.parlkeep5_counts 1000000000 = some true := by
  decide +kernel
end Go.Proofs.Ythgdobdhdfjhfaa.Gr
