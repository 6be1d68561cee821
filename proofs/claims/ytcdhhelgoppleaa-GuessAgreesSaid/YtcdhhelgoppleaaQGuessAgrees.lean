/- A grammar that is guessed has the examples, and none of the counterexamples: the plain law of GuessAgrees. Own work. -/
import Derived.Test.YtcdhhelgoppleaaGs4e
import Derived.Test.YtcdhhelgoppleaaGsV
import Derived.Test.YtcdhhelgoppleaaMean3
namespace Go.Proofs.Ytcdhhelgoppleaa.Gr
open Go Go.Ab Go.Pu
def one11 : Bool := match P.guess_Of 4000000 1 1 [[0]] [[]] with
  | some (g, e) => decide (e = 0) && decide ((g.Rules.length : Int) = 1)
  | none => false
theorem one11_ok : one11 = true := by decide +kernel
theorem first11 : Ok (P.guess_Of 4000000 1 1 [[0]] [[]]) fun r => r.2 = 0 ∧ (r.1.Rules.length : Int) = 1 := by
  have h := one11_ok
  unfold one11 at h
  split at h
  · rename_i g e he
    simp only [Bool.and_eq_true, decide_eq_true_eq] at h
    rw [he]
    exact .some ⟨h.1, h.2⟩
  · cases h
theorem guessAgrees_plain (a0 a1 : List Int) (a2 : Int) : ∃ φ, P.parlkeep5_GuessAgrees φ a0 a1 a2 = some true := by
  refine ⟨4000000, Ok.eq ?_⟩
  unfold P.parlkeep5_GuessAgrees
  refine (Df.dfa_ok a0).bind fun d ⟨n, m, hd, n6, m3⟩ => ?_
  have e0 : Ok (P.guess_Of 4000000 1 1 [[0]] [[]]) fun r => r.2 = 0 ∧ (r.1.Rules.length : Int) = 1 := first11
  refine e0.bind fun g ⟨g1, g2⟩ => ?_
  rw [if_neg (by simp [g1, g2])]
  have h1 := hd.dim.1; have := hd.n1; have := hd.m1
  have h2 := hd.dim.2 0 (by omega) (by omega)
  rw [ix_el (by omega) (by omega), Option.bind_some, h2]
  have t1 : 1 ≤ Pu.imin 2 m := by rw [imin_eq]; omega
  have t2 : Pu.imin 2 m ≤ 2 := by rw [imin_eq]; omega
  generalize Pu.imin 2 m = t at *
  refine (fewer_ok hd t a1 (by omega)).bind fun x hx => ?_
  obtain ⟨yes, no⟩ := x
  obtain ⟨l1, l2, l3, l4⟩ := hx
  dsimp only at l1 l2 l3 l4 ⊢
  have hy : ∀ w ∈ yes, w.length ≤ 5 := fun w hw => (l3 w (List.mem_append_left _ hw)).1
  have hn : ∀ w ∈ no, w.length ≤ 5 := fun w hw => (l3 w (List.mem_append_right _ hw)).1
  have hc : P.guess_Check t yes no = some 0 := gcheck_ok (by omega) (by omega) l3 l4
  unfold P.parlkeep5_below
  refine ((Df.below_ok (x := a2) (n := 2) (by omega) (by omega)).bind fun y hy => .some (show 0 ≤ y ∧ y < 2 from hy)).bind fun x5 hx5 => ?_
  rw [W_id]
  obtain ⟨x1, e1, -, r, hr, hr2⟩ := of_ok (n := 1 + x5) t1 t2 (by omega) (by omega) hc hy hn (φ := 4000000) (by omega)
  rw [hr, Option.bind_some]
  refine .ite (fun q => .some ?_) fun q => ?_
  · rcases hr2 with e | ⟨k, -, -, e⟩
    · simpa using e
    · exact absurd e.1 q
  · rcases hr2 with e | ⟨k, k0, k3, e⟩
    · omega
    · have hlen := e.len
      obtain ⟨-, l, hl, hg, ha1, ha2⟩ := e
      have hv : Valid r.1 := by rw [hg]; exact mkg_valid t1 t2 (by omega) (by omega) (vrules_ok t1 t2 (by omega) (by omega) e1) k3 hl
      have ht : r.1.Terms = t := by rw [hg]; rfl
      have hst : r.1.Start = 0 := by rw [hg]; rfl
      refine Ok.bind (forL_ok (fun _ _ => True) (Q := fun r => r = .out ()) trivial (fun i w s hw _ => ?_) fun _ _ => rfl) fun z hz => ?_
      · have hw2 := List.mem_of_getElem? hw
        obtain ⟨a, b⟩ := l3 w (List.mem_append_left _ hw2)
        unfold P.parlkeep5_GuessAgrees.b0
        refine (accepts_ok hv (fun x hx => by rw [ht]; exact b x hx) (by omega) (by omega)).bind fun c hc => ?_
        have : c.1 = true := hc.2.2 (by rw [hst]; exact ha1 w hw2)
        rw [if_neg (by simp [hc.1, this])]
        exact .some trivial
      subst hz
      show Ok (Option.bind _ _) _
      refine Ok.bind (forL_ok (fun _ _ => True) (Q := fun r => r = .out ()) trivial (fun i w s hw _ => ?_) fun _ _ => rfl) fun z hz => ?_
      · have hw2 := List.mem_of_getElem? hw
        obtain ⟨a, b⟩ := l3 w (List.mem_append_right _ hw2)
        unfold P.parlkeep5_GuessAgrees.b1
        refine (accepts_ok hv (fun x hx => by rw [ht]; exact b x hx) (by omega) (by omega)).bind fun c hc => ?_
        have : c.1 = false := by
          cases e : c.1
          · rfl
          · exact absurd (by have := hc.2.1 e; rw [hst] at this; exact this) (ha2 w hw2)
        rw [if_neg (by simp [hc.1, this])]
        exact .some trivial
      subst hz
      exact .some (by simp; omega)
end Go.Proofs.Ytcdhhelgoppleaa.Gr
