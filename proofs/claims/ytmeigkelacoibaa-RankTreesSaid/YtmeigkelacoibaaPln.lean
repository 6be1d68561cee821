import Derived.Test.YtmeigkelacoibaaGr2
namespace Go.Proofs.Ytmeigkelacoibaa.Gr
open Go Go.Ab Go.Pu
def gPlain : Ty.B2 := Ty.B2.mk 2 1 0 [(Ty.A6.mk 0 [(Ty.D1.mk true 0)]), (Ty.A6.mk 0 [(Ty.D1.mk true 1), (Ty.D1.mk false 0)])]
theorem plain_eq : P.F4 = some gPlain := rfl
theorem plain_valid : Valid gPlain := by
 refine ⟨by decide, by decide, by decide, by decide, by decide, by decide, by decide, ?_, ?_, ?_, ?_⟩ <;> simp [gPlain]
end Go.Proofs.Ytmeigkelacoibaa.Gr
