import Derived.Test.YtmfkjilndpchbaaGr1
namespace Go.Proofs.Ytmfkjilndpchbaa.Gr
open Go Go.Ab Go.Pu
section
variable {R : List Ru} {w : List Int} {M : List (List Int)} {nons : Int}
theorem sum_set:∀(l:List Nat) (i v:Nat) (h:i<l.length),(l.set i v).sum+l[i]=l.sum+v:=by
 intro l
 induction l with
 | nil=>intro i v h;simp at h
 | cons x l ih=>
   intro i v h
   cases i with
   | zero=>simp;omega
   | succ i=>
     have:=ih i v (by simpa using h)
     simp only [List.set_cons_succ,List.sum_cons,List.getElem_cons_succ];omega
def tot (M:List (List Int)):Nat:=(M.map fun r=>(r.map Int.toNat).sum).sum
end
end Go.Proofs.Ytmfkjilndpchbaa.Gr
