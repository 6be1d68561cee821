/- Plain laws on coins. Own work. -/
import Derived.Test.YtbehlbabgomhfaaAuto
namespace Go.Ab.Coin

def val (l : List Bool) : Nat := l.foldl (fun a b => 2 * a + b.toNat) 0
theorem val_snoc (l : List Bool) (b : Bool) : val (l ++ [b]) = 2 * val l + b.toNat := by simp [val]
/-- All lists of so many coins. -/
def all : Nat → List (List Bool)
  | 0 => [[]]
  | k + 1 => (all k).flatMap fun l => [l ++ [false], l ++ [true]]
theorem all_len : ∀ (k : Nat), ∀ l ∈ all k, l.length = k
  | 0, l, h => by simp [all] at h; simp [h]
  | k + 1, l, h => by
    simp only [all, List.mem_flatMap] at h
    obtain ⟨p, hp, h⟩ := h
    have := all_len k p hp
    simp at h
    rcases h with rfl | rfl <;> simp [this]
theorem all_count : ∀ (k : Nat), (all k).length = 2 ^ k
  | 0 => rfl
  | k + 1 => by
    have h : ∀ L : List (List Bool), (L.flatMap fun l => [l ++ [false], l ++ [true]]).length = L.length * 2 := fun L => by
      induction L with
      | nil => rfl
      | cons a L ih => simp only [List.flatMap_cons, List.length_append, ih, List.length_cons, List.length_nil]; omega
    simp only [all, h, all_count k, Nat.pow_succ]
theorem all_add (b : Nat) : ∀ (m : Nat), all (b + m) = (all b).flatMap fun p => (all m).map (p ++ ·)
  | 0 => by simp [all]
  | m + 1 => by
    rw [← Nat.add_assoc]
    simp only [all, all_add b m, List.flatMap_assoc]
    congr 1
    funext p
    rw [List.map_flatMap, List.flatMap_map]
    congr 1
    funext l
    simp [List.append_assoc]
theorem all_val : ∀ (b : Nat), (all b).map val = List.range (2 ^ b)
  | 0 => rfl
  | b + 1 => by
    have h : (all (b + 1)).map val = ((all b).map val).flatMap fun v => [2 * v, 2 * v + 1] := by
      simp only [all, List.map_flatMap, List.flatMap_map]
      congr 1
      funext l
      simp [val_snoc]
    rw [h, all_val b, Nat.pow_succ]
    generalize 2 ^ b = n
    induction n with
    | zero => rfl
    | succ n ih => rw [List.range_succ, List.flatMap_append, ih, show (n + 1) * 2 = n * 2 + 1 + 1 by omega, List.range_succ, List.range_succ]; simp; omega

/-- The number below n that coins tell, and how many they are. -/
def num (n b : Nat) : Nat → List Bool → Option (Nat × Nat)
  | 0, _ => none
  | f + 1, l => if l.length < b then none else if val (l.take b) < n then some (val (l.take b), b) else (num n b f (l.drop b)).map fun p => (p.1, p.2 + b)
theorem num_lt {n b : Nat} : ∀ {f : Nat} {l : List Bool} {x u : Nat}, num n b f l = some (x, u) → x < n ∧ u ≤ l.length
  | 0, l, x, u, h => by cases h
  | f + 1, l, x, u, h => by
    simp only [num] at h
    split at h
    · cases h
    · split at h
      · cases h; omega
      · cases hq : num n b f (l.drop b) with
        | none => rw [hq] at h; cases h
        | some p =>
          rw [hq] at h
          obtain ⟨x', u'⟩ := p
          have := num_lt hq
          simp at h this
          omega
theorem num_more {n b : Nat} : ∀ {f : Nat} {l : List Bool} {p : Nat × Nat}, num n b f l = some p → ∀ g, f ≤ g → ∀ m, num n b g (l.take p.2 ++ m) = some p
  | 0, l, p, h => by cases h
  | f + 1, l, p, h => by
    intro g hg m
    obtain ⟨g, rfl⟩ : ∃ k, g = k + 1 := ⟨g - 1, by omega⟩
    simp only [num] at h ⊢
    split at h
    · cases h
    · rename_i hl
      split at h
      · rename_i hv
        cases h
        have e : (l.take b ++ m).take b = l.take b := by rw [List.take_append_of_le_length (by simp; omega)]; rw [List.take_take, Nat.min_self]
        rw [if_neg (by simp; omega)]
        simp only [e]
        rw [if_pos hv]
      · rename_i hv
        cases hq : num n b f (l.drop b) with
        | none => rw [hq] at h; cases h
        | some q =>
          rw [hq] at h
          cases h
          have hu := (num_lt (x := q.1) (u := q.2) hq).2
          simp at hu
          have ih := num_more hq g (by omega) m
          have e : (l.take (q.2 + b) ++ m).take b = l.take b := by rw [List.take_append_of_le_length (by simp; omega), List.take_take]; congr 1; omega
          have e2 : (l.take (q.2 + b) ++ m).drop b = (l.drop b).take q.2 ++ m := by
            rw [List.drop_append_of_le_length (by simp; omega), List.drop_take]; congr 2; omega
          rw [if_neg (by simp; omega)]
          simp only [e, e2]
          rw [if_neg hv, ih]; rfl
/-- One coin fewer is not enough. -/
theorem num_less {n b : Nat} : ∀ {f : Nat} {l : List Bool} {p : Nat × Nat}, num n b f l = some p → 0 < p.2 → ∀ g, num n b g (l.take (p.2 - 1)) = none
  | 0, l, p, h => by cases h
  | f + 1, l, p, h => by
    intro h0 g
    cases g with
    | zero => rfl
    | succ g =>
    simp only [num] at h ⊢
    split at h
    · cases h
    · rename_i hl
      split at h
      · cases h
        rw [if_pos (by simp; simp at h0; omega)]
      · rename_i hv
        cases hq : num n b f (l.drop b) with
        | none => rw [hq] at h; cases h
        | some q =>
          rw [hq] at h
          cases h
          simp only at h0 ⊢
          have hu := (num_lt (x := q.1) (u := q.2) hq).2
          simp at hu
          by_cases hq0 : q.2 = 0
          · split
            · rfl
            · rename_i hl2
              simp at hl2
              have : b = 0 := by omega
              omega
          · have ih := num_less hq (by omega) g
            have e : (l.take (q.2 + b - 1)).take b = l.take b := by rw [List.take_take]; congr 1; omega
            have e2 : (l.take (q.2 + b - 1)).drop b = (l.drop b).take (q.2 - 1) := by rw [List.drop_take]; congr 1; omega
            rw [if_neg (by simp; omega)]
            simp only [e, e2]
            rw [if_neg hv, ih]; rfl

/-- How many of the lists tell x. -/
def cnt (n b f k x : Nat) : Nat := (all k).countP fun l => decide ((num n b f l).map (·.1) = some x)
theorem sum_one (L x : Nat) : ∀ n, ((List.range n).map fun v => if v = x then L else 0).sum = if x < n then L else 0
  | 0 => rfl
  | n + 1 => by
    rw [List.range_succ, List.map_append, List.sum_append, sum_one L x n]
    simp
    by_cases h1 : x < n <;> by_cases h2 : n = x <;> simp [h1, h2] <;> first | omega | (intros; omega)
theorem sum_two (n L c x : Nat) (hx : x < n) : ∀ d, ((List.range (n + d)).map fun v => if v < n then (if v = x then L else 0) else c).sum = L + d * c
  | 0 => by
    have : ((List.range n).map fun v => if v < n then (if v = x then L else 0) else c) = (List.range n).map fun v => if v = x then L else 0 :=
      List.map_congr_left fun v hv => by rw [if_pos (List.mem_range.1 hv)]
    simp [this, sum_one, hx]
  | d + 1 => by
    rw [← Nat.add_assoc, List.range_succ, List.map_append, List.sum_append, sum_two n L c x hx d]
    rw [show (List.map (fun v => if v < n then (if v = x then L else 0) else c) [n + d]).sum = c by simp; intro h; omega]
    rw [Nat.add_mul]; omega
theorem cnt_step {n b f m x : Nat} (hn : n ≤ 2 ^ b) (hx : x < n) : cnt n b (f + 1) (b + m) x = 2 ^ m + (2 ^ b - n) * cnt n b f m x := by
  unfold cnt
  rw [all_add, List.countP_flatMap]
  have h : ((all b).map fun p => ((all m).map (p ++ ·)).countP fun l => decide ((num n b (f + 1) l).map (·.1) = some x)) =
      ((all b).map val).map fun v => if v < n then (if v = x then 2 ^ m else 0) else cnt n b f m x := by
    rw [List.map_map]
    refine List.map_congr_left fun p hp => ?_
    have hpl := all_len b p hp
    simp only [Function.comp_apply]
    rw [List.countP_map]
    have e : ∀ s : List Bool, num n b (f + 1) (p ++ s) = if val p < n then some (val p, b) else (num n b f s).map fun q => (q.1, q.2 + b) := fun s => by
      simp only [num]
      rw [if_neg (by simp; omega), List.take_append_of_le_length (by omega), List.take_of_length_le (by omega), List.drop_append_of_le_length (by omega), List.drop_eq_nil_of_le (by omega), List.nil_append]
    split
    · rename_i hv
      split
      · rename_i hvx
        rw [← all_count m]
        rw [List.countP_eq_length]
        intro s _
        simp only [Function.comp_apply, e, if_pos hv]; simp [hvx]
      · rename_i hvx
        rw [List.countP_eq_zero]
        intro s _
        simp [e, hv, hvx]
    · rename_i hv
      unfold cnt
      congr 1
      funext s
      simp only [Function.comp_apply, e, if_neg hv, Option.map_map]
      rfl
  refine (congrArg List.sum h).trans ?_
  rw [all_val]
  obtain ⟨d, hd⟩ : ∃ d, 2 ^ b = n + d := ⟨2 ^ b - n, by omega⟩
  rw [hd, sum_two n _ _ x hx d]
  congr 2
  omega
theorem cnt_fair {n b : Nat} (hn : n ≤ 2 ^ b) {x y : Nat} (hx : x < n) (hy : y < n) : ∀ (f k : Nat), cnt n b f k x = cnt n b f k y
  | 0, k => by simp [cnt, num]
  | f + 1, k => by
    by_cases hk : k < b
    · have : ∀ z, cnt n b (f + 1) k z = 0 := fun z => by
        unfold cnt
        rw [List.countP_eq_zero]
        intro l hl
        have := all_len k l hl
        simp [num, this, hk]
      rw [this, this]
    · obtain ⟨m, rfl⟩ : ∃ m, k = b + m := ⟨k - b, by omega⟩
      rw [cnt_step hn hx, cnt_step hn hy, cnt_fair hn hx hy f m]
end Go.Ab.Coin
