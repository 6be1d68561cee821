import Derived.Test.YtmfkjilndpchbaaApQ
import Derived.Test.YtmfkjilndpchbaaAut
namespace Go.Proofs.Ytmfkjilndpchbaa.Ap
open Go Go.Ab Go.Pu Go.Proofs.Ytmfkjilndpchbaa.Df
open Go.Proofs.Ytmfkjilndpchbaa.Gr (Sy Ru Valid gPlain)
theorem accepts_eq {d:Ty.K5}{n m:Int}(h:VD d n m){w:List Int}(hl:w.length≤4000)(hw:Wd w m):P.J3 d w=some (decide (0≤tell d w)):=by
 unfold P.J3
 rw [run_eq h hl hw,Option.bind_some];simp
end Go.Proofs.Ytmfkjilndpchbaa.Ap
