/- What becomes of the automaton later changes no answer: the plain law of TeachKeeps. Own work. -/
import Derived.Test.YtbehlbabgomhfaaDfa1
namespace Go.Proofs.Ytbehlbabgomhfaa.Gr
open Go Go.Ab Go.Pu Df
theorem new_eq {d : Ty.api_Dfa} {n m : Int} (h : VD d n m) : P.teach_New d = some (some ⟨d, 0, 0⟩, 0) := by
  refine Ok.eq ?_
  have hn := h.dim.1; have ha := h.acc; have := h.n2; have := h.m2
  unfold P.teach_New
  rw [check_ok h, Option.bind_some, if_neg (by omega), app_eq (by simp; omega), Option.bind_some]
  refine Ok.bind (forP_ok (fun i (s : List (List Int)) => s = d.Next.take i) (Q := fun s => s = d.Next) rfl (fun i x s hx hs => ?_) fun s hs => ?_) fun s hs => ?_
  · subst hs
    have hi := (List.getElem?_eq_some_iff.1 hx).1
    have hd := h.dim.2 i (by omega) (by omega)
    rw [el_nat hx] at hd
    unfold P.teach_New.b0
    rw [app_eq (by simp; omega), Option.bind_some, app_eq (by simp; omega), Option.bind_some]
    refine .some ?_
    rw [List.take_add_one, hx]; rfl
  · rw [hs, List.take_length]
  · subst hs
    exact .some (by simp)
theorem teachKeeps_plain (a0 a1 : List Int) : P.parlkeep5_TeachKeeps a0 a1 = some true := by
  refine Ok.eq ?_
  unfold P.parlkeep5_TeachKeeps
  refine (dfa_ok a0).bind fun d ⟨n, m, h, h6, h3⟩ => ?_
  have hn := h.dim.1; have hn1 := h.n1; have hm1 := h.m1; have ha := h.acc
  have h0 := h.dim.2 0 (by omega) (by omega)
  have es : P.teach_Teacher_Symbols ⟨d, 0, 0⟩ = some m := by
    unfold P.teach_Teacher_Symbols
    have e0 : Pu.ix d.Next 0 = some (el d.Next 0) := ix_el (by omega) (by omega)
    rw [show Pu.ix ({ d := d, members := 0, equal := 0 } : Ty.teach_Teacher).d.Next 0 = some (el d.Next 0) from e0, Option.bind_some]
    show some _ = _
    rw [h0]
  rw [new_eq h, Option.bind_some, oc2_some]
  rw [if_neg (by simp), es, Option.bind_some, ix_el (by omega) (by omega), Option.bind_some, h0]
  simp only [ne_eq, not_true_eq_false, decide_false, Option.bind_some, Bool.false_eq_true, if_false]
  refine (word_ok hm1 (by omega) a1).bind fun w ⟨w1, w2⟩ => ?_
  obtain ⟨r, hr, hr2⟩ := run_ok h (w := w) (by omega) w2
  have e1 : P.parlkeep5_accepts d w = some (decide (0 ≤ r.1)) := by
    unfold P.parlkeep5_accepts
    rw [hr, Option.bind_some, hr2]; simp
  have e2 : P.teach_Teacher_Member ⟨d, 0, 0⟩ w = some (⟨d, 1, 0⟩, decide (0 ≤ r.1), 0) := by
    unfold P.teach_Teacher_Member
    rw [if_neg (by omega)]
    show Option.bind (P.dfa_Run d w) _ = _
    rw [hr, Option.bind_some, if_neg (by simp [hr2])]
    rfl
  rw [e1, Option.bind_some, ranO_eq (by omega), Option.bind_some]
  refine Ok.bind (forP_ok (fun _ (s : List Int × List (List Int)) => (s.1.length : Int) = n ∧ (s.2.length : Int) = n) (Q := fun _ => True) ⟨ha, hn⟩ (fun i x s hx hs => ?_) fun _ _ => trivial) fun s _ => ?_
  · obtain ⟨rfl, hi⟩ := ran_at hx
    unfold P.parlkeep5_TeachKeeps.b0
    rw [ix_el (by omega) (by omega), Option.bind_some, Option.bind_some, ix_el (by omega) (by omega), Option.bind_some]
    exact .some (by simp [hs])
  · rw [e2, Option.bind_some]
    unfold P.teach_Teacher_Asked
    exact .some (by simp)
end Go.Proofs.Ytbehlbabgomhfaa.Gr
