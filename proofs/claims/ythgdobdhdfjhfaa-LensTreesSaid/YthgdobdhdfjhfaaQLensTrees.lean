/- A length has a word just if it has a tree: the plain law of LensTrees. Own work. -/
import Derived.Test.YthgdobdhdfjhfaaPln
import Derived.Test.YthgdobdhdfjhfaaLens1
import Derived.Test.YthgdobdhdfjhfaaCen6
namespace Go.Proofs.Ythgdobdhdfjhfaa.Gr
open Go Go.Ab Go.Pu
theorem lensTrees_plain (l : List Int) : P.parlkeep5_LensTrees 10000 l = some true := by
  refine Ok.eq ?_
  unfold P.parlkeep5_LensTrees
  refine (grammar_ok l).bind fun g hg => ?_
  have hv := hg.toValid
  have s1 := hv.s1; have s2 := hv.s2
  rw [plain_eq, Option.bind_some]
  have hp := set_ok plain_valid (n := 1) (by omega) (φ := 10000) (by omega)
  refine hp.bind fun x4 ⟨p1, p2, p3⟩ => ?_
  have p4 := (p3 1 (by omega)).2 plain_one
  rw [if_neg (by simp [p1, p2]), ix_el (by omega) (by omega), Option.bind_some]
  rw [show el x4.1 1 = true from p4]
  simp only [Bool.not_true, Option.bind_some, Bool.false_eq_true, if_false]
  refine Ok.bind (set_ok hv (n := 24) (by omega) (by omega)) fun x5 ⟨c1, c2, c3⟩ => ?_
  refine Ok.bind (trees_ok hv (n := 24) (by omega) (by omega)) fun x6 ⟨t1, t2, t3⟩ => ?_
  rw [if_neg (by simp [c1, t1, c2])]
  refine Ok.bind (Q := fun | .out _ => True | .rt _ => False) (forL_ok (fun _ _ => True) trivial ?_ fun _ _ => trivial) ?_
  · intro k ok _ hk _
    have hk1 := (List.getElem?_eq_some_iff.1 hk).1
    have hok : el x5.1 (k : Int) = ok := el_nat hk
    unfold P.parlkeep5_LensTrees.b0
    rw [t2.ix s1 s2, Option.bind_some, t2.ix2 s1 s2 (by omega) (by omega), Option.bind_some]
    have h1 := c3 k (by omega)
    rw [hok] at h1
    have h2 := (t3 g.Start k s1 s2 (by omega)).zero
    have : ok = decide (el2 x6.1 g.Start (k : Int) ≠ 0) := by
      rw [Bool.eq_iff_iff, h1, decide_eq_true_eq, h2]
    rw [if_neg (by rw [this]; simp)]
    exact .some trivial
  · rintro (_ | _) h
    · exact .some rfl
    · exact h.elim
end Go.Proofs.Ythgdobdhdfjhfaa.Gr
