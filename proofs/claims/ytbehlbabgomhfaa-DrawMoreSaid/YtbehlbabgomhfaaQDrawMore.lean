/- Coins behind those that are used change nothing: the plain law of DrawMore. Own work. -/
import Derived.Test.YtbehlbabgomhfaaBel0
namespace Go.Proofs.Ytbehlbabgomhfaa.Gr
open Go Go.Ab Go.Pu

theorem shl_pow : ∀ s : Nat, s ≤ 7 → Pu.shl .i64 1 (s : Int) = some ((2 ^ s : Nat) : Int)
  | 0, _ => rfl
  | 1, _ => rfl
  | 2, _ => rfl
  | 3, _ => rfl
  | 4, _ => rfl
  | 5, _ => rfl
  | 6, _ => rfl
  | 7, _ => rfl
  | n + 8, h => absurd h (by omega)
theorem bits_ok {n : Int} (h1 : 1 ≤ n) (h2 : n ≤ 100) {φ : Nat} (hφ : 20 ≤ φ) : Ok (whl (P.draw_Number.b0 n) φ 0) fun y => ∃ b : Nat, y = .out (b : Int) ∧ b ≤ 7 ∧ (b = 0 → n = 1) := by
  refine whl_ok (ρ := Unit) (fun s : Int => ∃ b : Nat, s = b ∧ b ≤ 7) (fun s : Int => 8 - s.toNat) ⟨0, rfl, by omega⟩ ?_ (by simp; omega)
  rintro s ⟨b, rfl, hb⟩
  unfold P.draw_Number.b0
  rw [shl_pow b hb, Option.bind_some]
  refine .ite (fun h => ?_) fun h => .some ⟨b, rfl, hb, fun e => ?_⟩
  · have hb6 : b ≤ 6 := by
      rcases Nat.lt_or_ge b 7 with q | q
      · omega
      · have : b = 7 := by omega
        subst this; simp at h; omega
    rw [W_id]
    exact .some ⟨⟨b + 1, by omega, by omega⟩, by omega⟩
  · subst e; simp at h; omega
/-- The number that a chunk of coins tells. -/
def cv (c : List Bool) : Int := (Pu.forP P.draw_Number.b2 0 c 0).getD 0
theorem cv_ok (c : List Bool) (hc : c.length ≤ 7) : Pu.forP P.draw_Number.b2 0 c 0 = some (cv c) ∧ (c = [] → cv c = 0) := by
  have : Ok (Pu.forP P.draw_Number.b2 0 c 0) fun _ => True := by
    refine forP_ok (fun _ _ => True) trivial ?_ fun _ _ => trivial
    intro i x s _ _
    unfold P.draw_Number.b2
    cases x
    · exact .some trivial
    · exact .some trivial
  obtain ⟨x, e, -⟩ := this
  refine ⟨by unfold cv; rw [e]; rfl, fun h => by subst h; rfl⟩
def chunk (l : List Bool) (u b : Nat) : List Bool := (l.take (u + b)).drop u
theorem chunk_len {l : List Bool} {u b : Nat} : (chunk l u b).length ≤ b := by unfold chunk; simp; omega
theorem body_eq {n : Int} {l : List Bool} {u b : Nat} (hb : b ≤ 7) (hu : u ≤ 1000000000000000) :
    P.draw_Number.b1 n l b u = if u + b ≤ l.length then (if cv (chunk l u b) < n then some (.rt (cv (chunk l u b), ((u + b : Nat) : Int), 0)) else some (.nx ((u + b : Nat) : Int))) else some (.br (u : Int)) := by
  unfold P.draw_Number.b1
  rw [W_id, show (u : Int) + b = ((u + b : Nat) : Int) by omega]
  by_cases h : u + b ≤ l.length
  · rw [if_pos (by omega), if_pos h, sub_eq (by omega) (by omega) (by omega), Option.bind_some]
    simp only [Int.toNat_natCast]
    rw [show List.drop u (List.take (u + b) l) = chunk l u b from rfl, (cv_ok _ (Nat.le_trans chunk_len hb)).1, Option.bind_some]
  · rw [if_neg (by omega), if_neg h]
abbrev lp (n : Int) (l : List Bool) (b : Nat) (φ : Nat) (u : Nat) := Pu.whl (P.draw_Number.b1 n l b) φ (u : Int)
theorem lp_succ {n : Int} {l : List Bool} {u b φ : Nat} (hb : b ≤ 7) (hu : u ≤ 1000000000000000) :
    lp n l b (φ + 1) u = if u + b ≤ l.length then (if cv (chunk l u b) < n then some (.rt (cv (chunk l u b), ((u + b : Nat) : Int), 0)) else lp n l b φ (u + b)) else some (.out (u : Int)) := by
  unfold lp
  rw [Pu.whl, body_eq hb hu]
  by_cases h : u + b ≤ l.length
  · rw [if_pos h, if_pos h]
    by_cases q : cv (chunk l u b) < n
    · rw [if_pos q, if_pos q]
    · rw [if_neg q, if_neg q]
  · rw [if_neg h, if_neg h]
theorem lp_tot {n : Int} (hn : 1 ≤ n) {l : List Bool} {b : Nat} (hb : b ≤ 7) (hb0 : b = 0 → n = 1) (hl : l.length ≤ 500000000000000) : ∀ (φ u : Nat), u ≤ l.length → l.length + 1 - u ≤ φ →
    (∃ s, lp n l b φ u = some (.out s)) ∨ ∃ x k : Nat, ∃ y : Int, lp n l b φ u = some (.rt (y, (k : Int), 0)) ∧ u + b ≤ k ∧ k ≤ l.length := by
  intro φ
  induction φ with
  | zero => intro u h1 h2; omega
  | succ φ ih =>
    intro u h1 h2
    rw [lp_succ hb (by omega)]
    by_cases h : u + b ≤ l.length
    · rw [if_pos h]
      by_cases q : cv (chunk l u b) < n
      · rw [if_pos q]; exact .inr ⟨0, u + b, _, rfl, by omega, h⟩
      · rw [if_neg q]
        have hb1 : b ≠ 0 := fun e => by
          have := hb0 e
          have e2 : chunk l u b = [] := List.eq_nil_of_length_eq_zero (by have := @chunk_len l u b; omega)
          rw [e2, (cv_ok [] (by simp)).2 rfl] at q; omega
        rcases ih (u + b) h (by omega) with h3 | ⟨x, k, y, h3, h4, h5⟩
        · exact .inl h3
        · exact .inr ⟨x, k, y, h3, by omega, h5⟩
    · rw [if_neg h]; exact .inl ⟨_, rfl⟩
theorem lp_ge {n : Int} {l : List Bool} {b : Nat} (hb : b ≤ 7) (hl : l.length ≤ 500000000000000) : ∀ (φ u k : Nat) (y : Int), u ≤ l.length → lp n l b φ u = some (.rt (y, (k : Int), 0)) → u + b ≤ k ∧ k ≤ l.length := by
  intro φ
  induction φ with
  | zero => intro u k y _ h; cases h
  | succ φ ih =>
    intro u k y hu h
    rw [lp_succ hb (by omega)] at h
    split at h
    · rename_i h1
      split at h
      · simp only [Option.some.injEq, Fin.rt.injEq, Prod.mk.injEq] at h; omega
      · have := ih _ _ _ h1 h; omega
    · simp at h
theorem chunk_congr {l l' : List Bool} {u b k : Nat} (h : l'.take k = l.take k) (hk : u + b ≤ k) : chunk l' u b = chunk l u b := by
  unfold chunk
  have : l'.take (u + b) = l.take (u + b) := by
    have := congrArg (List.take (u + b)) h
    rwa [List.take_take, List.take_take, Nat.min_eq_left hk] at this
  rw [this]
theorem lp_same {n : Int} {l l' : List Bool} {b k : Nat} {y : Int} (hb : b ≤ 7) (hl : l.length ≤ 500000000000000) (ht : l'.take k = l.take k) (hk : k ≤ l'.length) :
    ∀ (φ u : Nat), u ≤ l.length → lp n l b φ u = some (.rt (y, (k : Int), 0)) → lp n l' b φ u = some (.rt (y, (k : Int), 0)) := by
  intro φ
  induction φ with
  | zero => intro u _ h; cases h
  | succ φ ih =>
    intro u hu h
    have hge := lp_ge hb hl _ _ _ _ hu h
    rw [lp_succ hb (by omega)] at h
    rw [lp_succ hb (by omega), if_pos (by omega), chunk_congr ht hge.1]
    rw [if_pos (by omega)] at h
    split at h
    · rename_i q; rw [if_pos q]; exact h
    · rename_i q; rw [if_neg q]; exact ih _ (by omega) h
theorem lp_less {n : Int} {l : List Bool} {b k : Nat} {y : Int} (hb : b ≤ 7) (hl : l.length ≤ 500000000000000) (hk : 1 ≤ k) :
    ∀ (φ u : Nat), u ≤ l.length → lp n l b φ u = some (.rt (y, (k : Int), 0)) → ∃ s, lp n (l.take (k - 1)) b φ u = some (.out s) := by
  intro φ
  induction φ with
  | zero => intro u _ h; cases h
  | succ φ ih =>
    intro u hu h
    have hge := lp_ge hb hl _ _ _ _ hu h
    have hlen : (l.take (k - 1)).length = k - 1 := by simp; omega
    rw [lp_succ hb (by omega)] at h
    rw [lp_succ hb (by omega), hlen]
    by_cases q : u + b ≤ k - 1
    · rw [if_pos q, chunk_congr (l := l) (k := k - 1) (by rw [List.take_take, Nat.min_self]) q]
      rw [if_pos (by omega)] at h
      split at h
      · simp only [Option.some.injEq, Fin.rt.injEq, Prod.mk.injEq] at h; omega
      · rename_i q2; rw [if_neg q2]; exact ih _ (by omega) h
    · rw [if_neg q]; exact ⟨_, rfl⟩
theorem number_eq {n : Int} (h1 : 1 ≤ n) (h2 : n ≤ 100) {φ : Nat} (hφ : 20 ≤ φ) : ∃ b : Nat, b ≤ 7 ∧ (b = 0 → n = 1) ∧ ∀ l : List Bool, P.draw_Number φ n l = (lp n l b φ 0).bind fun y3 => y3.cs (fun _ => some (0, 0, 5)) (fun r => some r) := by
  obtain ⟨y, e, b, rfl, hb, hb0⟩ := bits_ok h1 h2 hφ
  refine ⟨b, hb, hb0, fun l => ?_⟩
  unfold P.draw_Number
  rw [if_neg (by simp; omega), e, Option.bind_some]
  rfl
theorem concatb_eq (a b : List Bool) (h : a.length + b.length ≤ 281474976710656) : P.slices_Concat_bool_bool [a, b] = some (a ++ b) := by
  unfold P.slices_Concat_bool_bool
  simp only [Pu.forP, P.slices_Concat_bool_bool.b0]
  rw [W_id, Int.zero_add, if_neg (by omega), Option.bind_some]
  rw [W_id, if_neg (by omega), Option.bind_some, Option.bind_some]
  unfold P.slices_Grow_bool_bool__nil
  rw [if_pos (by omega), Option.bind_some]
  simp only [P.slices_Concat_bool_bool.b1]
  rw [if_pos (by simp; omega), Option.bind_some, if_pos (by simp), Option.bind_some, Option.bind_some, List.nil_append, if_pos (by simp; omega)]
theorem drawMore_plain (a0 : Int) (a1 a2 : List Bool) (l1 : a1.length ≤ 140737488355328) (l2 : a2.length ≤ 140737488355328) : ∃ φ, P.parlkeep5_DrawMore φ a0 a1 a2 = some true := by
  refine ⟨a1.length + 100, Ok.eq ?_⟩
  unfold P.parlkeep5_DrawMore
  refine (pbelow_ok (by omega) (by omega)).bind fun x ⟨x0, x1⟩ => ?_
  have e2 : P.draw_Number (a1.length + 100) 2 [true] = some (1, 1, 0) := by
    obtain ⟨f, hf⟩ : ∃ f, a1.length + 100 = f + 3 := ⟨a1.length + 97, by omega⟩
    rw [hf]; rfl
  rw [e2, Option.bind_some, if_neg (by simp), W_id]
  obtain ⟨b, hb, hb0, hnum⟩ := number_eq (n := 1 + x) (by omega) (by omega) (φ := a1.length + 100) (by omega)
  rcases lp_tot (n := 1 + x) (by omega) (l := a1) hb hb0 (by omega) (a1.length + 100) 0 (by omega) (by omega) with ⟨s, hs⟩ | ⟨_, k, y, hk, hk1, hk2⟩
  · rw [hnum a1, hs]
    exact .some rfl
  · rw [hnum a1, hk, Option.bind_some]
    simp only [Fin.cs, Option.bind_some]
    rw [if_neg (by simp), if_neg (by simp; omega), sub_eq (by omega) (by omega) (by omega), Option.bind_some]
    simp only [Int.toNat_natCast, Int.toNat_zero, List.drop_zero]
    rw [concatb_eq _ _ (by simp; omega), Option.bind_some]
    have h3 := lp_same (l' := a1.take k ++ a2) hb (by omega) (by rw [List.take_append_of_le_length (by simp; omega), List.take_take, Nat.min_self]) (by simp; omega) _ _ (by omega) hk
    rw [hnum (a1.take k ++ a2), h3, Option.bind_some]
    simp only [Fin.cs, Option.bind_some]
    rw [if_neg (by simp)]
    refine .ite (fun _ => .some rfl) fun h0 => ?_
    have h4 : 1 ≤ k := by simp at h0; omega
    obtain ⟨s, h5⟩ := lp_less hb (by omega) h4 _ _ (by omega) hk
    rw [W_id, sub_eq (by omega) (by omega) (by omega), Option.bind_some]
    simp only [Int.toNat_zero, List.drop_zero]
    rw [show ((k : Int) - 1).toNat = k - 1 by omega, hnum (a1.take (k - 1)), h5]
    exact .some rfl
end Go.Proofs.Ytbehlbabgomhfaa.Gr
