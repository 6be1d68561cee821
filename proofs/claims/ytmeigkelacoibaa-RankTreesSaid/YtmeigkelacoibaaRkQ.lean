import Derived.Test.YtmeigkelacoibaaRk4
import Derived.Test.YtmeigkelacoibaaPln
import Derived.Test.YtmeigkelacoibaaBel
namespace Go.Proofs.Ytmeigkelacoibaa.Gr
open Go Go.Ab Go.Pu
theorem first_count : ∀ φ, 10000 ≤ φ → P.G0 φ gPlain 3 = some (1, 0) := by
 intro φ hφ
 obtain ⟨N, E, hN⟩ := env_ok plain_valid (n := 3) (by omega)
 have e0 : P.C6 10000 gPlain 3 = some ([[0, 1, 1, 1]], 0) := by decide +kernel
 have e1 := hN 10000 (Nat.le_refl _)
 have e2 : N = [[0, 1, 1, 1]] := by
  have e3 : P.C6 10000 gPlain 3 = some (N, 0) := e1
  rw [e0] at e3
  simpa using (Option.some.inj e3).symm
 have e4 : P.C6 φ gPlain 3 = some ([[0, 1, 1, 1]], 0) := by rw [← e2]; exact hN φ hφ
 unfold P.G0 P.E8
 rw [e4]
 rfl
end Go.Proofs.Ytmeigkelacoibaa.Gr
