import Derived.Test.YtmfkjilndpchbaaTy
import Derived.Test.YtmfkjilndpchbaaWp
namespace Go.Proofs.Ytmfkjilndpchbaa.Gr
open Go Go.Ab Go.Pu
instance:Inhabited Ty.F2:=⟨⟨false,0⟩⟩
instance:Inhabited Ty.E2:=⟨⟨0,[]⟩⟩
instance:Inhabited Ty.E8:=⟨⟨0,0,0,[]⟩⟩
abbrev Sy:=Ty.F2
abbrev Ru:=Ty.E2
variable {R : List Ru}
open Relation
theorem tg_trans {α:Type}{r:α→α→Prop}{a b c:α}(h:TransGen r a b)(k:TransGen r b c):TransGen r a c:=by
 induction k with
 | single w=>exact .tail h w
 | tail _ w ih=>exact .tail ih w
end Go.Proofs.Ytmfkjilndpchbaa.Gr
