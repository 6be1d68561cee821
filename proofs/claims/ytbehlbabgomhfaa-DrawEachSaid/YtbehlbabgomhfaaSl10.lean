/- Rows of the arguments as slices that can be read. Own work. -/
import Derived.Test.YtbehlbabgomhfaaSl9
import Derived.Test.YtbehlbabgomhfaaAuto
namespace Go.Ab
open Go Go.Pu
theorem law_of {T : FuncId → Option AFunc} {f : FuncId} {as : List Value} {H : Hp} {r : Bool} {Z V : PH} (h : G T f as H (fun rv H' => rv = .bool r ∧ Sat Z V H' [])) (hr : r = true) : G T f as H (fun rv _ => rv = .bool true) := by
  subst hr
  obtain ⟨v, H', h1, h2, -⟩ := h
  exact ⟨v, H', h1, h2⟩
end Go.Ab
