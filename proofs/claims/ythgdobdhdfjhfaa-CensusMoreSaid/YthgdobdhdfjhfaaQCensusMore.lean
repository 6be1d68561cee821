/- With one rule fewer there are not more trees of any length: the plain law of CensusMore. Own work. -/
import Derived.Test.YthgdobdhdfjhfaaCnt
import Derived.Test.YthgdobdhdfjhfaaBel
import Derived.Test.YthgdobdhdfjhfaaCen6
namespace Go.Proofs.Ythgdobdhdfjhfaa.Gr
open Go Go.Ab Go.Pu
theorem concatr_eq (a b : List Ty.api_Rule) (h : a.length + b.length ≤ 1000000) : P.slices_Concat_api_Rule_api_Rule [a, b] = some (a ++ b) := by
  unfold P.slices_Concat_api_Rule_api_Rule
  simp only [Pu.forP, P.slices_Concat_api_Rule_api_Rule.b0]
  rw [W_id, Int.zero_add, if_neg (by omega), Option.bind_some]
  rw [W_id, if_neg (by omega), Option.bind_some, Option.bind_some]
  have e : Ok (P.slices_Grow_api_Rule_api_Rule__nil ((a.length : Int) + b.length)) fun x => x = [] := by
    unfold P.slices_Grow_api_Rule_api_Rule__nil
    rw [if_neg (by omega)]
    have e0 : Pu.W ((a.length : Int) + b.length - Pu.W (0 - 0)) = (a.length : Int) + b.length := by
      rw [show Pu.W (0 - 0) = 0 from rfl, Int.sub_zero, W_id]
    rw [e0]
    refine Ok.bind (Q := fun x => x = []) (.ite (fun h0 => ?_) fun _ => .some rfl) fun x hx => .some hx
    unfold Pu.mkz
    rw [if_pos ⟨h0, by omega, by omega⟩, Option.bind_some, sub_eq (by omega) (by omega) (by omega), Option.bind_some]
    exact .some (by simp)
  rw [e.eq, Option.bind_some]
  simp only [P.slices_Concat_api_Rule_api_Rule.b1]
  rw [app_eq (by simp; omega), Option.bind_some, Option.bind_some, app_eq (by simp; omega)]
  simp
/-- The grammar with fewer rules. -/
theorem fewer_valid {g : Ty.api_Grammar} (hv : Valid g) {Q : List Ru} (hs : Q.Sublist g.Rules) : Valid ⟨g.Terms, g.Nons, g.Start, Q⟩ :=
  ⟨hv.t1, hv.t2, hv.n1, hv.n2, hv.s1, hv.s2, Nat.le_trans hs.length_le hv.len, fun r hr => hv.lft r (hs.subset hr), fun r hr => hv.rgt r (hs.subset hr), fun r hr => hv.sym r (hs.subset hr), hv.dis.sublist hs⟩
theorem censusMore_plain (l : List Int) (a1 a2 : Int) : P.parlkeep5_CensusMore 1000000000 l a1 a2 = some true := by
  refine Ok.eq ?_
  unfold P.parlkeep5_CensusMore
  refine (grammar_ok l).bind fun g hg => ?_
  have hv := hg.toValid
  have hne := hg.ne
  have hl3 := hg.len3
  have n2 := hv.n2
  refine (pbelow_ok (by omega) (by omega)).bind fun n ⟨n0, n1⟩ => ?_
  obtain ⟨n, rfl⟩ : ∃ m : Nat, n = m := ⟨n.toNat, by omega⟩
  refine (pbelow_ok (by omega) (by omega)).bind fun i ⟨i0, i1⟩ => ?_
  obtain ⟨i, rfl⟩ : ∃ m : Nat, i = m := ⟨i.toNat, by omega⟩
  rw [sub_eq (by omega) (by omega) (by omega), Option.bind_some, W_id, sub_eq (by omega) (by omega) (by omega), Option.bind_some]
  rw [concatr_eq _ _ (by simp; omega), Option.bind_some]
  have e : List.drop (Int.toNat 0) (List.take (Int.toNat (i : Int)) g.Rules) ++ List.drop (Int.toNat ((i : Int) + 1)) (List.take (Int.toNat (g.Rules.length : Int)) g.Rules) = g.Rules.eraseIdx i := by
    rw [List.eraseIdx_eq_take_drop_succ]
    simp only [Int.toNat_natCast, Int.toNat_zero, List.drop_zero, List.take_length]
    rw [show ((i : Int) + 1).toNat = i + 1 by omega]
  rw [e]
  have hsub : (g.Rules.eraseIdx i).Sublist g.Rules := List.eraseIdx_sublist _ _
  have hv2 := fewer_valid hv hsub
  refine Ok.bind (trees_ok hv (n := n) (by omega) (by omega)) fun x ⟨x1, x2, x3⟩ => ?_
  refine Ok.bind (trees_ok hv2 (n := n) (by omega) (by omega)) fun y ⟨y1, y2, y3⟩ => ?_
  rw [counts_eq, Option.bind_some]
  have hxl := x2.1
  have hyl : (y.1.length : Int) = g.Nons := y2.1
  rw [if_neg (by simp [x1, y1]; omega), ranO_eq (by omega), Option.bind_some]
  refine Ok.bind (Q := fun | .out _ => True | .rt _ => False) (forL_ok (fun _ _ => True) trivial ?_ fun _ _ => trivial) ?_
  · intro a z _ hz _
    obtain ⟨rfl, ha⟩ := ran_at hz
    unfold P.parlkeep5_CensusMore.b0
    rw [x2.ix (by omega) (by omega), Option.bind_some]
    have hrow := x2.2 (a : Int) (by omega) (by omega)
    refine Ok.bind (Q := fun | .out _ => True | .rt _ => False) (forL_ok (fun _ _ => True) trivial ?_ fun _ _ => trivial) ?_
    · intro k v _ hk _
      have hk1 := (List.getElem?_eq_some_iff.1 hk).1
      have hvk : el2 x.1 (a : Int) (k : Int) = v := el_nat hk
      unfold P.parlkeep5_CensusMore.b1
      rw [y2.ix (i := (a : Int)) (by omega) (show (a : Int) < g.Nons by omega), Option.bind_some, y2.ix2 (i := (a : Int)) (by omega) (show (a : Int) < g.Nons by omega) (by omega) (by omega), Option.bind_some]
      have c1 := x3 a k (by omega) (by omega) (by omega)
      have c2 := y3 a k (by omega) (show (a : Int) < g.Nons by omega) (by omega)
      rw [hvk] at c1
      have key := c1.fewer hsub c2
      by_cases hm : v = -1
      · rw [if_neg (by simp [hm]), Option.bind_some, if_neg (by simp)]; exact .some trivial
      · obtain ⟨k1, k2⟩ := key hm
        rw [if_pos (by simpa using hm), Option.bind_some, if_neg (by simp; omega)]; exact .some trivial
    · rintro (_ | _) h
      · exact .some trivial
      · exact h.elim
  · rintro (_ | _) h
    · exact .some rfl
    · exact h.elim
end Go.Proofs.Ythgdobdhdfjhfaa.Gr
