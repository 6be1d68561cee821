import Derived.Test.YtmfkjilndpchbaaAp9
import Derived.Test.YtmfkjilndpchbaaPln
namespace Go.Proofs.Ytmfkjilndpchbaa.Ap
open Go Go.Ab Go.Pu Go.Proofs.Ytmfkjilndpchbaa.Df
open Go.Proofs.Ytmfkjilndpchbaa.Gr (Sy Ru Valid gPlain)
theorem plain_of:(P.E2 100000000000 gPlain).map (fun r=>(decide (r.2.2≠0) || !r.2.1) ||decide ((r.1.Next.length:Int)≠2))=some false:=by decide+kernel
theorem plain_of':∃r,P.E2 100000000000 gPlain=some r∧((decide (r.2.2≠0) || !r.2.1) ||decide ((r.1.Next.length:Int)≠2))=false:=by
 have h:=plain_of
 generalize P.E2 100000000000 gPlain=z at h
 cases z with
 | none=>cases h
 | some r=>exact⟨r,rfl,by simpa using h⟩
theorem Lg.wd {g:Ty.E5}(hv:Valid g){l:List Sy}{w:List Int}(h:Lg g.Rules l w)(hl:∀y∈l,0≤y.N∧(y.Term=true→y.N<g.Terms)):∀c∈w,0≤c∧c<g.Terms:=by
 induction h with
 | nil=>simp
 | term _ ih=>
   intro c hc
   rcases List.mem_cons.1 hc with rfl|hc
   ·have:=hl _ (.head _)
    exact⟨this.1,this.2 rfl⟩
   ·exact ih (fun y hy=>hl y (.tail _ hy)) c hc
 | non a b _ _ ih1 ih2=>
   intro c hc
   rcases List.mem_append.1 hc with hc|hc
   ·exact ih1 (fun y hy=>⟨(hv.sym _ a y hy).1,(hv.sym _ a y hy).2.1⟩) c hc
   ·exact ih2 (fun y hy=>hl y (.tail _ hy)) c hc
end Go.Proofs.Ytmfkjilndpchbaa.Ap
