/- Automata that are made: they are valid; dfa.Check, dfa.Run. Own work. -/
import Derived.Test.YtmlnknngpdnepaaP
import Derived.Test.YtmlnknngpdnepaaWp
namespace Go.Proofs.Ytmlnknngpdnepaa.Df
open Go Go.Ab Go.Pu
theorem below_ok {x n : Int} (h1 : 1 ≤ n) (h2 : n ≤ 1000000) : Ok (P.parlmake_Below x n) fun y => 0 ≤ y ∧ y < n := by
  have e : Pu.rem x n = some (x.tmod n) := by unfold Pu.rem; rw [if_neg (by omega)]
  have := Int.tmod_lt_of_pos x (by omega : 0 < n)
  have h3 : -n < x.tmod n := by
    have := Int.tmod_lt_of_pos (-x) (by omega : 0 < n)
    rw [Int.neg_tmod] at this; omega
  unfold P.parlmake_Below
  rw [e, Option.bind_some]
  split
  · rw [W_id]; exact .some (by omega)
  · exact .some (by omega)
theorem next_ok (s : Ty.parlmake_stream) {n : Int} (h1 : 1 ≤ n) (h2 : n ≤ 1000000) : Ok (P.parlmake_stream_next s n) fun r => 0 ≤ r.2 ∧ r.2 < n := by
  unfold P.parlmake_stream_next
  refine .ite (fun _ => .some ⟨by dsimp only; omega, by dsimp only; omega⟩) fun h => ?_
  rw [ix_el (by omega) (by omega), Option.bind_some, sub_eq (by omega) (by omega) (by omega), Option.bind_some]
  exact (below_ok h1 h2).bind fun y hy => .some hy
/-- A valid automaton of n states and m symbols. -/
structure VD (d : Ty.api_Dfa) (n m : Int) : Prop where
  n1 : 1 ≤ n
  n2 : n ≤ 200
  m1 : 1 ≤ m
  m2 : m ≤ 16
  dim : Dim d.Next n m
  acc : (d.Accept.length : Int) = n
  s0 : 0 ≤ d.Start
  s1 : d.Start < n
  a1 : ∀ i, 0 ≤ i → i < n → -1 ≤ el d.Accept i
  t1 : ∀ i k, 0 ≤ i → i < n → 0 ≤ k → k < m → -1 ≤ el2 d.Next i k ∧ el2 d.Next i k < n
theorem dfa_ok (l : List Int) : Ok (P.parlmake_Dfa l) fun d => ∃ n m, VD d n m ∧ n ≤ 6 ∧ m ≤ 3 := by
  unfold P.parlmake_Dfa
  refine (next_ok _ (by omega) (by omega)).bind fun x1 h1 => (next_ok _ (by omega) (by omega)).bind fun x2 h2 => ?_
  rw [show Pu.W (1 + x1.2) = 1 + x1.2 by rw [W_id]]
  refine (next_ok _ (by omega) (by omega)).bind fun x3 h3 => ?_
  rw [ranO_eq (by omega), Option.bind_some]
  refine Ok.bind (forP_ok (fun i (s : List Int × List Int × List (List Int)) => s.2.1.length = i ∧ (∀ j : Int, 0 ≤ j → j < i → -1 ≤ el s.2.1 j) ∧ s.2.2.length = i ∧
    ∀ j : Int, 0 ≤ j → j < i → ((el s.2.2 j).length : Int) = 1 + x2.2 ∧ ∀ k, 0 ≤ k → k < 1 + x2.2 → -1 ≤ el2 s.2.2 j k ∧ el2 s.2.2 j k < 1 + x1.2)
    (Q := fun s => (s.2.1.length : Int) = 1 + x1.2 ∧ (∀ j : Int, 0 ≤ j → j < 1 + x1.2 → -1 ≤ el s.2.1 j) ∧ (s.2.2.length : Int) = 1 + x1.2 ∧
    ∀ j : Int, 0 ≤ j → j < 1 + x1.2 → ((el s.2.2 j).length : Int) = 1 + x2.2 ∧ ∀ k, 0 ≤ k → k < 1 + x2.2 → -1 ≤ el2 s.2.2 j k ∧ el2 s.2.2 j k < 1 + x1.2)
    ⟨rfl, fun j a b => by omega, rfl, fun j a b => by omega⟩ (fun i x s hx hs => ?_) fun s hs => ?_) fun s hs => ?_
  · obtain ⟨a1, a2, a3, a4⟩ := hs
    obtain ⟨-, hi⟩ := ran_at hx
    unfold P.parlmake_Dfa.b0
    refine (next_ok _ (by omega) (by omega)).bind fun x6 h6 => ?_
    rw [show Pu.W (x6.2 - 1) = x6.2 - 1 by rw [W_id], app_eq (by simp; omega), Option.bind_some, show Pu.W (1 + x2.2) = 1 + x2.2 by rw [W_id], ranO_eq (by omega), Option.bind_some]
    refine Ok.bind (forP_ok (fun k (s : List Int × List Int) => s.2.length = k ∧ ∀ j : Int, 0 ≤ j → j < k → -1 ≤ el s.2 j ∧ el s.2 j < 1 + x1.2)
      (Q := fun s => (s.2.length : Int) = 1 + x2.2 ∧ ∀ j : Int, 0 ≤ j → j < 1 + x2.2 → -1 ≤ el s.2 j ∧ el s.2 j < 1 + x1.2) ⟨rfl, fun j a b => by omega⟩ (fun k y q hy hq => ?_) fun q hq => ?_) fun q hq => ?_
    · obtain ⟨b1, b2⟩ := hq
      obtain ⟨-, hk⟩ := ran_at hy
      unfold P.parlmake_Dfa.b1
      rw [show Pu.W (1 + x1.2) = 1 + x1.2 by rw [W_id], show Pu.W (1 + x1.2 + 1) = 1 + x1.2 + 1 by rw [W_id]]
      refine (next_ok _ (by omega) (by omega)).bind fun x10 h10 => ?_
      rw [show Pu.W (x10.2 - 1) = x10.2 - 1 by rw [W_id], app_eq (by simp; omega), Option.bind_some]
      refine .some ⟨by simp [b1], fun j j0 j1 => ?_⟩
      dsimp only
      rcases (by omega : j < (k : Int) ∨ j ≥ (k : Int)) with e | e
      · rw [el_app_left (by omega)]; exact b2 j j0 e
      · have : j = (q.2.length : Int) := by omega
        subst this
        rw [show el (q.2 ++ [x10.2 - 1]) (q.2.length : Int) = x10.2 - 1 from el_nat (by simp)]
        omega
    · obtain ⟨b1, b2⟩ := hq
      rw [ran_length] at b1 b2
      exact ⟨by omega, fun j j0 j1 => b2 j j0 (by omega)⟩
    · rw [app_eq (by simp; omega), Option.bind_some]
      refine .some ⟨by simp [a1], fun j j0 j1 => ?_, by simp [a3], fun j j0 j1 => ?_⟩
      · dsimp only
        rcases (by omega : j < (i : Int) ∨ j ≥ (i : Int)) with e | e
        · rw [el_app_left (by omega)]; exact a2 j j0 e
        · have : j = (s.2.1.length : Int) := by omega
          subst this
          rw [show el (s.2.1 ++ [x6.2 - 1]) (s.2.1.length : Int) = x6.2 - 1 from el_nat (by simp)]
          omega
      · dsimp only [el2]
        rcases (by omega : j < (i : Int) ∨ j ≥ (i : Int)) with e | e
        · rw [el_app_left (by omega)]; exact a4 j j0 e
        · have : j = (s.2.2.length : Int) := by omega
          subst this
          rw [show el (s.2.2 ++ [q.2]) (s.2.2.length : Int) = q.2 from el_nat (by simp)]
          exact hq
  · obtain ⟨a1, a2, a3, a4⟩ := hs
    rw [ran_length] at a1 a2 a3 a4
    exact ⟨by omega, fun j j0 j1 => a2 j j0 (by omega), by omega, fun j j0 j1 => a4 j j0 (by omega)⟩
  · obtain ⟨a1, a2, a3, a4⟩ := hs
    exact .some ⟨1 + x1.2, 1 + x2.2, ⟨by omega, by omega, by omega, by omega, ⟨a3, fun i i0 i1 => (a4 i i0 i1).1⟩, a1, h3.1, h3.2, a2, fun i k i0 i1 k0 k1 => (a4 i i0 i1).2 k k0 k1⟩, by omega, by omega⟩
theorem check_ok {d : Ty.api_Dfa} {n m : Int} (h : VD d n m) : P.dfa_Check d = some 0 := by
  refine Ok.eq ?_
  have hl := h.dim.1
  have := h.n1; have := h.n2; have := h.m1; have := h.m2; have h0 := h.dim.2 0 (by omega) (by omega); have ha := h.acc; have hs0 := h.s0; have hs1 := h.s1
  unfold P.dfa_Check
  rw [if_neg (by omega)]
  rw [if_neg (by simp only [Bool.or_eq_true, decide_eq_true_eq]; omega), ix_el (by omega) (by omega), Option.bind_some, if_neg (by omega)]
  refine Ok.bind (forL_ok (fun _ _ => True) (Q := fun r => r = .out ()) trivial (fun i x s hx _ => ?_) fun _ _ => rfl) fun r hr => ?_
  · have hi := (List.getElem?_eq_some_iff.1 hx).1
    have hd := h.dim.2 i (by omega) (by omega)
    rw [el_nat hx] at hd
    unfold P.dfa_Check.b0
    rw [if_neg (by simp only [Bool.or_eq_true, decide_eq_true_eq]; omega)]
    exact .some trivial
  subst hr
  show Ok (if _ then _ else _) _
  rw [if_neg (by simp only [Bool.or_eq_true, decide_eq_true_eq]; omega)]
  refine Ok.bind (forL_ok (fun _ _ => True) (Q := fun r => r = .out ()) trivial (fun i x s hx _ => ?_) fun _ _ => rfl) fun r hr => ?_
  · have hi := (List.getElem?_eq_some_iff.1 hx).1
    unfold P.dfa_Check.b1
    have ha1 := h.a1 i (by omega) (by omega)
    rw [ix_el (by omega) (by omega), Option.bind_some, if_neg (by omega)]
    refine Ok.bind (forL_ok (fun _ _ => True) (Q := fun r => r = .out ()) trivial (fun k y s hy _ => ?_) fun _ _ => rfl) fun r hr => ?_
    · have hk := (List.getElem?_eq_some_iff.1 hy).1
      have hd := h.dim.2 i (by omega) (by omega)
      rw [el_nat hx] at hd
      have ht := h.t1 i k (by omega) (by omega) (by omega) (by omega)
      rw [el2, el_nat hx, el_nat hy] at ht
      unfold P.dfa_Check.b2
      rw [if_neg (by simp only [Bool.or_eq_true, decide_eq_true_eq]; omega)]
      exact .some trivial
    subst hr
    exact .some trivial
  subst hr
  exact .some rfl
/-- A word over m symbols. -/
def Wd (w : List Int) (m : Int) : Prop := ∀ j : Int, 0 ≤ j → j < w.length → 0 ≤ el w j ∧ el w j < m
end Go.Proofs.Ytmlnknngpdnepaa.Df
