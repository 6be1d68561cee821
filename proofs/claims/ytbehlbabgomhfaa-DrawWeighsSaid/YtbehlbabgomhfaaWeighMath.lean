/- The law of DrawWeighs, plain. Own work. -/
import Derived.Test.YtbehlbabgomhfaaPick
namespace Go.Ab.Coin
theorem sum_zero : ∀ (L : List Nat), (L.map fun _ => 0).sum = 0
  | [] => rfl
  | _ :: L => by simp only [List.map_cons, List.sum_cons, sum_zero L]
theorem sum_plus (f g : Nat → Nat) : ∀ (L : List Nat), (L.map fun x => f x + g x).sum = (L.map f).sum + (L.map g).sum
  | [] => rfl
  | a :: L => by simp only [List.map_cons, List.sum_cons, sum_plus f g L]; omega
theorem sum_const (F : Nat) (g : Nat → Bool) : ∀ (L : List Nat), (L.map fun x => if g x then F else 0).sum = F * L.countP g
  | [] => rfl
  | a :: L => by
    simp only [List.map_cons, List.sum_cons, sum_const F g L, List.countP_cons]
    cases g a <;> simp [Nat.mul_add]; omega
theorem part {α : Type} (v : α → Option Nat) (S : Nat) (g : Nat → Bool) : ∀ (L : List α), (∀ a ∈ L, ∀ x, v a = some x → x < S) →
    L.countP (fun a => match v a with | some x => g x | none => false) = ((List.range S).map fun x => if g x then L.countP (fun a => decide (v a = some x)) else 0).sum
  | [], _ => by simp only [List.countP_nil, ite_self, sum_zero]
  | a :: L, h => by
    rw [List.countP_cons, part v S g L fun b hb => h b (List.mem_cons_of_mem _ hb)]
    have e : ((List.range S).map fun x => if g x then (a :: L).countP (fun a => decide (v a = some x)) else 0) =
        (List.range S).map fun x => (if g x then L.countP (fun a => decide (v a = some x)) else 0) + (if g x then (if v a = some x then 1 else 0) else 0) :=
      List.map_congr_left fun x _ => by
        rw [List.countP_cons]
        cases g x <;> simp
    rw [e, sum_plus]
    congr 1
    cases hv : v a with
    | none => simp [sum_zero]
    | some y =>
      have hy := h a (by simp) y hv
      have e2 : ((List.range S).map fun x => if g x then (if some y = some x then 1 else 0) else 0) = (List.range S).map fun x => if x = y then (if g y then 1 else 0) else 0 :=
        List.map_congr_left fun x _ => by
          by_cases q : x = y
          · subst q; simp
          · have : ¬ y = x := fun e => q e.symm
            simp [q, this]
      rw [e2, sum_one]
      simp [hy]
def toldOf (ws : List Nat) (L : List (List Bool)) (i : Nat) : Nat := L.countP fun c => decide ((pick ws c).map (·.1) = some i)
def allOf (ws : List Nat) (L : List (List Bool)) : Nat := L.countP fun c => (pick ws c).isSome
theorem tell_all {S k : Nat} {c : List Bool} (hc : c ∈ all k) : tell S c = num S (need S) (k + 1) c := by rw [tell, all_len k c hc]
theorem told_all {ws : List Nat} (hS : ws.sum ≤ 1000000000) (h0 : 0 < ws.sum) (k : Nat) (g : Nat → Bool) :
    (all k).countP (fun c => match (tell ws.sum c).map (·.1) with | some x => g x | none => false) = cnt ws.sum (need ws.sum) (k + 1) k 0 * (List.range ws.sum).countP g := by
  rw [part _ ws.sum g _ fun c hc x hx => by
    cases hq : tell ws.sum c with
    | none => rw [hq] at hx; cases hx
    | some p => rw [hq] at hx; cases hx; exact (num_lt (x := p.1) (u := p.2) hq).1]
  rw [← sum_const]
  congr 1
  refine List.map_congr_left fun x hx => ?_
  have e : (all k).countP (fun a => decide ((tell ws.sum a).map (·.1) = some x)) = cnt ws.sum (need ws.sum) (k + 1) k 0 := by
    rw [cnt_fair (need_le hS).1 h0 (List.mem_range.1 hx)]
    exact List.countP_congr fun a ha => by rw [tell_all ha]
  rw [e]
theorem weigh {ws : List Nat} (hS : ws.sum ≤ 1000000000) (h0 : 0 < ws.sum) (k : Nat) {i w : Nat} (hi : ws[i]? = some w) : toldOf ws (all k) i * ws.sum = allOf ws (all k) * w := by
  have h1 : toldOf ws (all k) i = cnt ws.sum (need ws.sum) (k + 1) k 0 * w := by
    rw [← idx_count ws i w hi, ← told_all hS h0]
    refine List.countP_congr fun c _ => ?_
    unfold pick
    cases tell ws.sum c with
    | none => simp
    | some p => simp [Option.map_map]
  have h2 : allOf ws (all k) = cnt ws.sum (need ws.sum) (k + 1) k 0 * ws.sum := by
    have : (List.range ws.sum).countP (fun _ => true) = ws.sum := by simp
    have h3 := told_all hS h0 k (fun _ => true)
    rw [this] at h3
    rw [← h3]
    refine List.countP_congr fun c _ => ?_
    unfold pick
    cases hq : tell ws.sum c with
    | none => simp
    | some p =>
      obtain ⟨j, hj, -⟩ := idx_some ws p.1 (num_lt (x := p.1) (u := p.2) hq).1
      simp [hj]
  rw [h1, h2, Nat.mul_assoc, Nat.mul_assoc, Nat.mul_comm w]
end Go.Ab.Coin
