/- The grammar of the laws' first lines. Own work. -/
import Derived.Test.YthgdobdhdfjhfaaGr2
namespace Go.Proofs.Ythgdobdhdfjhfaa.Gr
open Go Go.Ab Go.Pu
def gPlain : Ty.api_Grammar := Ty.api_Grammar.mk 2 1 0 [(Ty.api_Rule.mk 0 [(Ty.api_Sym.mk true 0)]), (Ty.api_Rule.mk 0 [(Ty.api_Sym.mk true 1), (Ty.api_Sym.mk false 0)])]
theorem plain_eq : P.parlkeep5_plain = some gPlain := rfl
end Go.Proofs.Ythgdobdhdfjhfaa.Gr
