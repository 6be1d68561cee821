import Derived.Test.YtmfkjilndpchbaaGrV
namespace Go.Proofs.Ytmfkjilndpchbaa.Gr
open Go Go.Ab Go.Pu
def gPlain:Ty.E5:=Ty.E5.mk 2 1 0 [(Ty.D8.mk 0 [(Ty.F1.mk true 0)]),(Ty.D8.mk 0 [(Ty.F1.mk true 1),(Ty.F1.mk false 0)])]
theorem plain_eq:P.K0=some gPlain:=rfl
end Go.Proofs.Ytmfkjilndpchbaa.Gr
