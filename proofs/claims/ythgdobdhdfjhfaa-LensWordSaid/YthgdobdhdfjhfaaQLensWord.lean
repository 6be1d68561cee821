/- The word of each tree has one of the lengths: the plain law of LensWord. Own work. -/
import Derived.Test.YthgdobdhdfjhfaaLens4
import Derived.Test.YthgdobdhdfjhfaaTree1
namespace Go.Proofs.Ythgdobdhdfjhfaa.Gr
open Go Go.Ab Go.Pu

def gPlain : Ty.api_Grammar := Ty.api_Grammar.mk 2 1 0 [(Ty.api_Rule.mk 0 [(Ty.api_Sym.mk true 0)]), (Ty.api_Rule.mk 0 [(Ty.api_Sym.mk true 1), (Ty.api_Sym.mk false 0)])]
theorem plain_eq : P.parlkeep5_plain = some gPlain := rfl
theorem plain_valid : Valid gPlain := by
  refine ⟨by decide, by decide, by decide, by decide, by decide, by decide, by decide, ?_, ?_, ?_, ?_⟩ <;> simp [gPlain]
theorem plain_one : Le gPlain.Rules [⟨false, gPlain.Start⟩] 1 := Le.non_iff.2 ⟨⟨0, [⟨true, 0⟩]⟩, by simp [gPlain], rfl, Le.term_iff.2 rfl⟩
theorem plain_end : End gPlain.Rules gPlain.Start := by
  refine ⟨0, 0, ⟨0, [⟨true, 1⟩, ⟨false, 0⟩]⟩, [⟨true, 1⟩], [], .inl rfl, by simp [gPlain], rfl, ⟨2, ?_⟩, rfl, .inl rfl, 1, by omega, Le.term_iff.2 rfl⟩
  exact Le.cons_iff.2 ⟨1, 1, rfl, Le.term_iff.2 rfl, plain_one⟩
theorem index_ok (l : List Bool) (hl : l.length ≤ 1000000) : Ok (P.slices_Index_bool_bool l true) fun x => 0 ≤ x → ∃ i : Nat, l[i]? = some true := by
  unfold P.slices_Index_bool_bool
  rw [ranO_eq (by omega), Option.bind_some]
  refine Ok.bind (Q := fun | .out _ => True | .rt x => ∃ i : Nat, l[i]? = some true) (forL_ok (fun _ _ => True) trivial ?_ fun _ _ => trivial) ?_
  · intro i x _ hx _
    obtain ⟨rfl, hi⟩ := ran_at hx
    unfold P.slices_Index_bool_bool.b0
    have e : l[i]? = some (el l (i : Int)) := get_el (by omega)
    rw [ix_nat, e, Option.bind_some]
    refine .ite (fun h => .some ⟨i, by rw [e]; simpa using h.symm⟩) fun _ => .some trivial
  · rintro (_ | x) h
    · exact .some fun h => by omega
    · exact .some fun _ => h
theorem contains_ok (l : List Bool) (hl : l.length ≤ 1000000) : Ok (P.slices_Contains_bool_bool l true) fun b => b = true → ∃ i : Nat, l[i]? = some true := by
  unfold P.slices_Contains_bool_bool
  exact (index_ok l hl).bind fun x hx => .some fun h => hx (by simpa using h)
theorem lensWord_plain (l m : List Int) : P.parlkeep5_LensWord 10000 l m = some true := by
  refine Ok.eq ?_
  unfold P.parlkeep5_LensWord
  refine (grammar_ok l).bind fun g hg => ?_
  rw [plain_eq, Option.bind_some]
  refine (greatest_ok plain_valid (by omega)).bind fun x3 ⟨p1, p2⟩ => ?_
  have p3 : x3.1 = -2 := by
    rcases p2 with ⟨q, -⟩ | ⟨-, q, -⟩ | ⟨-, -, q, -⟩
    · exact q
    · exact absurd plain_end q
    · exact absurd plain_end q
  rw [if_neg (by simp [p1, p3])]
  have hv := hg.toValid
  refine (greatest_ok hv (by omega)).bind fun x4 ⟨k1, k2⟩ => ?_
  refine (set_ok hv (n := 200) (by omega) (by omega)).bind fun x5 ⟨s1, s2, s3⟩ => ?_
  rw [if_neg (by simp [k1, s1, s2])]
  have hget : ∀ i : Nat, x5.1[i]? = some true → i ≤ 200 ∧ Le g.Rules [⟨false, g.Start⟩] i := fun i h => by
    have hi := (List.getElem?_eq_some_iff.1 h).1
    exact ⟨by omega, (s3 i (by omega)).1 (el_nat h)⟩
  refine Ok.bind (Q := fun b => b = false) ?_ fun y1 hy1 => ?_
  · by_cases hk : 0 ≤ x4.1 ∧ x4.1 ≤ 200
    · rw [if_pos (by simp [hk]), ix_el hk.1 (by omega), Option.bind_some]
      rcases k2 with ⟨q, -⟩ | ⟨q, -⟩ | ⟨_, _, _, q3, q4⟩
      · omega
      · omega
      · have := (s3 x4.1.toNat (by omega)).2 q3
        rw [Int.toNat_of_nonneg hk.1] at this
        rw [this, W_id, if_neg (by simp), sub_eq (by omega) (by omega) (by omega), Option.bind_some]
        refine Ok.bind (Q := fun b => b = false) ((contains_ok _ (by simp; omega)).bind fun b hb => .some ?_) fun b hb => .some hb
        cases b with
        | false => rfl
        | true =>
          obtain ⟨i, hi⟩ := hb rfl
          rw [List.getElem?_drop, List.getElem?_take] at hi
          split at hi
          · obtain ⟨-, h2⟩ := hget _ hi
            have := q4 _ h2
            omega
          · cases hi
    · rw [if_neg (by simp; omega)]; exact .some rfl
  subst hy1
  rw [if_neg (by simp)]
  refine Ok.bind (Q := fun b => b = false) ?_ fun y3 hy3 => ?_
  · refine Ok.bind (Q := fun b => b = false) (.ite (fun e => ?_) fun _ => .some rfl) fun b hb => .some hb
    refine (contains_ok _ (by omega)).bind fun b hb => .some ?_
    cases b with
    | false => rfl
    | true =>
      obtain ⟨i, hi⟩ := hb rfl
      have e' : x4.1 = -1 := by simpa using e
      rcases k2 with ⟨q, -⟩ | ⟨-, -, q⟩ | ⟨q, -⟩
      · omega
      · exact absurd ⟨i, (hget i hi).2⟩ q
      · omega
  subst hy3
  rw [if_neg (by simp)]
  unfold P.parlmake_Tree
  refine Ok.bind (Q := fun (r : Ty.api_Tree × Bool) => r.2 = true → ∃ w sz, Tr g.Rules 13 sz [r.1] [⟨false, g.Start⟩] w ∧ (sz : Int) ≤ 60) ((mktree_ok hv 10000 _ _ 60 12 (by omega) (by omega) (by omega) (by omega) (by omega)).bind fun r hr => .some fun h => ?_) fun x10 hx10 => ?_
  · obtain ⟨a, w, sz, b, c⟩ := hr h
    exact ⟨w, sz, b, by omega⟩
  · refine .ite (fun _ => .some rfl) fun h => ?_
    obtain ⟨w, sz, tr, hsz⟩ := hx10 (by simpa using h)
    rw [tr.word (by omega) (by omega), Option.bind_some]
    have hle := tr.le
    have hc : x4.1 = -2 ∨ (w.length : Int) ≤ x4.1 := by
      rcases k2 with ⟨q, -⟩ | ⟨-, -, q⟩ | ⟨_, _, _, _, q4⟩
      · exact .inl q
      · exact absurd ⟨_, hle⟩ q
      · exact .inr (q4 _ hle)
    have hwl := tr.words
    rw [if_pos (by simpa using hc), if_neg (by simp; omega), ix_el (by omega) (by omega), Option.bind_some]
    exact .some ((s3 w.length (by omega)).2 hle)
end Go.Proofs.Ythgdobdhdfjhfaa.Gr
