/- The numbers for shorter words don't depend on the greatest length: the plain law of CensusShort. Own work. -/
import Derived.Test.YthgdobdhdfjhfaaCnt
import Derived.Test.YthgdobdhdfjhfaaBel
import Derived.Test.YthgdobdhdfjhfaaCen6
namespace Go.Proofs.Ythgdobdhdfjhfaa.Gr
open Go Go.Ab Go.Pu
theorem equali_ok (a b : List Int) (ha : a.length ≤ 1000000) (h : a = b) : P.slices_Equal_int_int a b = some true := by
  subst h
  refine Ok.eq ?_
  unfold P.slices_Equal_int_int
  rw [if_neg (by simp), ranO_eq (by omega), Option.bind_some]
  refine Ok.bind (Q := fun | .out _ => True | .rt _ => False) (forL_ok (fun _ _ => True) trivial ?_ fun _ _ => trivial) ?_
  · intro i x _ hx _
    obtain ⟨rfl, hi⟩ := ran_at hx
    unfold P.slices_Equal_int_int.b0
    rw [ix_el (by omega) hi, Option.bind_some, Option.bind_some, if_neg (by simp)]
    exact .some trivial
  · rintro (_ | _) h
    · exact .some rfl
    · exact h.elim
theorem censusShort_plain (l : List Int) (a1 : Int) : P.parlkeep5_CensusShort 1000000000 l a1 = some true := by
  refine Ok.eq ?_
  unfold P.parlkeep5_CensusShort
  refine (grammar_ok l).bind fun g hg => ?_
  have hv := hg.toValid
  have n2 := hv.n2
  refine (pbelow_ok (by omega) (by omega)).bind fun n ⟨n0, n1⟩ => ?_
  obtain ⟨n, rfl⟩ : ∃ m : Nat, n = m := ⟨n.toNat, by omega⟩
  refine Ok.bind (trees_ok hv (n := n) (by omega) (by omega)) fun x ⟨x1, x2, x3⟩ => ?_
  refine (pbelow_ok (by omega) (by omega)).bind fun d ⟨d0, d1⟩ => ?_
  obtain ⟨d, rfl⟩ : ∃ m : Nat, d = m := ⟨d.toNat, by omega⟩
  rw [W_id (n := (n : Int) + 1), W_id, show (n : Int) + 1 + d = ((n + 1 + d : Nat) : Int) by omega]
  refine Ok.bind (trees_ok hv (n := n + 1 + d) (by omega) (by omega)) fun y ⟨y1, y2, y3⟩ => ?_
  rw [counts_eq, Option.bind_some]
  have hxl := x2.1
  have hyl := y2.1
  rw [if_neg (by simp [x1, y1]; omega), ranO_eq (by omega), Option.bind_some]
  refine Ok.bind (Q := fun | .out _ => True | .rt _ => False) (forL_ok (fun _ _ => True) trivial ?_ fun _ _ => trivial) ?_
  · intro a z _ hz _
    obtain ⟨rfl, ha⟩ := ran_at hz
    have hx := x2.2 (a : Int) (by omega) (by omega)
    have hy := y2.2 (a : Int) (by omega) (by omega)
    unfold P.parlkeep5_CensusShort.b0
    rw [x2.ix (by omega) (by omega), Option.bind_some, y2.ix (by omega) (by omega), W_id]
    simp only [Option.bind_some]
    rw [if_neg (by simp; omega), Option.bind_some, if_neg (by simp; omega), sub_eq (by omega) (by omega) (by omega), Option.bind_some]
    rw [equali_ok _ _ (by omega) ?_]
    · exact .some trivial
    · refine ext_el (by simp; omega) fun k k0 k1 => ?_
      obtain ⟨k, rfl⟩ : ∃ m : Nat, k = m := ⟨k.toNat, by omega⟩
      have c1 := x3 a k (by omega) (by omega) (by omega)
      have c2 := y3 a k (by omega) (by omega) (by omega)
      have : el (List.drop (Int.toNat 0) (List.take ((n : Int) + 1).toNat (el y.1 (a : Int)))) (k : Int) = el2 y.1 (a : Int) (k : Int) := by
        unfold el2 el
        simp only [Int.toNat_natCast, Int.toNat_zero, List.drop_zero]
        rw [List.getElem?_take_of_lt (by omega)]
      rw [this]
      exact c1.fn c2
  · rintro (_ | _) h
    · exact .some rfl
    · exact h.elim
end Go.Proofs.Ythgdobdhdfjhfaa.Gr
