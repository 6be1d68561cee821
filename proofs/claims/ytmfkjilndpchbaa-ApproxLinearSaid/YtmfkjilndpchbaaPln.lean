import Derived.Test.YtmfkjilndpchbaaGrV
namespace Go.Proofs.Ytmfkjilndpchbaa.Gr
open Go Go.Ab Go.Pu
def gPlain:Ty.E8:=Ty.E8.mk 2 1 0 [(Ty.E2.mk 0 [(Ty.F2.mk true 0)]),(Ty.E2.mk 0 [(Ty.F2.mk true 1),(Ty.F2.mk false 0)])]
theorem plain_eq:P.J7=some gPlain:=rfl
end Go.Proofs.Ytmfkjilndpchbaa.Gr
