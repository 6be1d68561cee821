import Derived.Test.YtmfkjilndpchbaaAp9
import Derived.Test.YtmfkjilndpchbaaPln
namespace Go.Proofs.Ytmfkjilndpchbaa.Ap
open Go Go.Ab Go.Pu Go.Proofs.Ytmfkjilndpchbaa.Df
open Go.Proofs.Ytmfkjilndpchbaa.Gr (Sy Ru Valid gPlain)
theorem plain_of:(P.E5 100000000000 gPlain).map (fun r=>(decide (r.2.2≠0) || !r.2.1) ||decide ((r.1.Next.length:Int)≠2))=some false:=by decide+kernel
theorem plain_of':∃r,P.E5 100000000000 gPlain=some r∧((decide (r.2.2≠0) || !r.2.1) ||decide ((r.1.Next.length:Int)≠2))=false:=by
 have h:=plain_of
 generalize P.E5 100000000000 gPlain=z at h
 cases z with
 | none=>cases h
 | some r=>exact⟨r,rfl,by simpa using h⟩
end Go.Proofs.Ytmfkjilndpchbaa.Ap
