/- For fewer examples no more rules are needed: the plain law of GuessLess. Own work. -/
import Derived.Test.YthgdobdhdfjhfaaGs4
namespace Go.Proofs.Ythgdobdhdfjhfaa.Gr
open Go Go.Ab Go.Pu
def one11 : Bool := match P.guess_Of 300000 1 1 [[0]] [[]] with
  | some (g, e) => decide (e = 0) && decide ((g.Rules.length : Int) = 1)
  | none => false
theorem one11_ok : one11 = true := by decide +kernel
theorem guessLess_plain (a0 a1 : List Int) : ∃ φ, P.parlkeep5_GuessLess φ a0 a1 = some true := by
  refine ⟨300000, Ok.eq ?_⟩
  unfold P.parlkeep5_GuessLess
  refine (Df.dfa_ok a0).bind fun d ⟨n, m, hd, n6, m3⟩ => ?_
  have e0 : ∃ g, P.guess_Of 300000 1 1 [[0]] [[]] = some (g, 0) ∧ (g.Rules.length : Int) = 1 := by
    have h := one11_ok
    unfold one11 at h
    split at h
    · rename_i g e he
      simp only [Bool.and_eq_true, decide_eq_true_eq] at h
      exact ⟨g, by rw [he, h.1], h.2⟩
    · cases h
  obtain ⟨g, hg, hg1⟩ := e0
  rw [hg, Option.bind_some, if_neg (by simp [hg1])]
  have h1 := hd.dim.1; have := hd.n1; have := hd.m1
  have h2 := hd.dim.2 0 (by omega) (by omega)
  rw [ix_el (by omega) (by omega), Option.bind_some, h2]
  have t1 : 1 ≤ Pu.imin 2 m := by rw [imin_eq]; omega
  have t2 : Pu.imin 2 m ≤ 2 := by rw [imin_eq]; omega
  generalize Pu.imin 2 m = t at *
  refine (fewer_ok hd t a1 (by omega)).bind fun x hx => ?_
  obtain ⟨yes, no⟩ := x
  obtain ⟨l1, l2, l3, l4⟩ := hx
  dsimp only at l1 l2 l3 l4 ⊢
  have hy : ∀ w ∈ yes, w.length ≤ 5 := fun w hw => (l3 w (List.mem_append_left _ hw)).1
  have hn : ∀ w ∈ no, w.length ≤ 5 := fun w hw => (l3 w (List.mem_append_right _ hw)).1
  have hc : P.guess_Check t yes no = some 0 := gcheck_ok (by omega) (by omega) l3 l4
  obtain ⟨x1, -, -, r, hr, hr2⟩ := of_ok (n := 1) t1 t2 (by omega) (by omega) hc hy hn (φ := 300000) (by omega)
  rw [hr, Option.bind_some]
  have hr3 : r.2 = 5 ∨ r.2 = 0 := hr2.imp id fun ⟨k, _, _, h⟩ => h.1
  refine .ite (fun q => .some (by rcases hr3 with e | e <;> simp [e])) fun q => ?_
  simp only [Bool.or_eq_true, decide_eq_true_eq, not_or] at q
  have r0 : r.2 = 0 := by omega
  rw [sub_eq (by omega) (by omega) (by omega), Option.bind_some]
  have hsub : ∀ w ∈ (yes.take (yes.length : Int).toNat).drop (1 : Int).toNat, w ∈ yes := fun w hw => List.mem_of_mem_take (List.mem_of_mem_drop hw)
  have hlen : ((yes.take (yes.length : Int).toNat).drop (1 : Int).toNat).length ≤ 3 := by simp; omega
  generalize (yes.take (yes.length : Int).toNat).drop (1 : Int).toNat = yes' at *
  have hc' : P.guess_Check t yes' no = some 0 := gcheck_ok (by omega) (by omega) (fun w hw => by
    rcases List.mem_append.1 hw with q | q
    · exact l3 w (List.mem_append_left _ (hsub w q))
    · exact l3 w (List.mem_append_right _ q)) fun w hw hw2 => l4 w hw (hsub w hw2)
  refine (of_less (n := 1) t1 t2 (by omega) (by omega) hc hc' hy (fun w hw => hy w (hsub w hw)) hn (fun R h => ⟨fun w hw => h.1 w (hsub w hw), h.2⟩) (by omega) hr r0).bind fun r' hr' => .some ?_
  simp [hr'.1]; omega
end Go.Proofs.Ythgdobdhdfjhfaa.Gr
