/- Rules for the plain functions: what they come to. Own work. -/
import Derived.Test.YtbehlbabgomhfaaSl9
set_option linter.unusedSectionVars false
namespace Go.Pu
open Go
section
variable {α β σ ρ : Type}
/-- It comes to something, which is so. -/
def Ok (o : Option α) (Q : α → Prop) : Prop := ∃ x, o = some x ∧ Q x
theorem Ok.some {x : α} {Q : α → Prop} (h : Q x) : Ok (some x) Q := ⟨x, rfl, h⟩
theorem Ok.bind {o : Option α} {f : α → Option β} {Q : α → Prop} {R : β → Prop} (h : Ok o Q) (k : ∀ x, Q x → Ok (f x) R) : Ok (o.bind f) R := by
  obtain ⟨x, rfl, hx⟩ := h; exact k x hx
theorem Ok.mono {o : Option α} {Q R : α → Prop} (h : Ok o Q) (k : ∀ x, Q x → R x) : Ok o R := by
  obtain ⟨x, e, hx⟩ := h; exact ⟨x, e, k x hx⟩
theorem Ok.ite {c : Prop} [Decidable c] {a b : Option α} {Q : α → Prop} (h1 : c → Ok a Q) (h2 : ¬ c → Ok b Q) : Ok (if c then a else b) Q := by
  split
  · exact h1 ‹_›
  · exact h2 ‹_›
theorem Ok.eq {o : Option α} {y : α} (h : Ok o (· = y)) : o = .some y := by
  obtain ⟨x, e, rfl⟩ := h; exact e
theorem Ok.out {o : Option α} {Q : α → Prop} {x : α} (h : Ok o Q) (e : o = .some x) : Q x := by
  obtain ⟨y, e', hy⟩ := h; rw [e] at e'; cases e'; exact hy

/-! ### Elements -/
/-- Element i. -/
def el [Inhabited α] (xs : List α) (i : Int) : α := xs[i.toNat]?.getD default
theorem ix_el [Inhabited α] {xs : List α} {i : Int} (h0 : 0 ≤ i) (h1 : i < xs.length) : ix xs i = .some (el xs i) := by
  unfold ix el
  rw [if_pos h0, List.getElem?_eq_getElem (by omega : i.toNat < xs.length)]; rfl
@[simp] theorem st_length {xs : List α} {i : Int} {v : α} : (st xs i v).length = xs.length := by simp [st]
theorem sub_eq {xs : List α} {lo hi : Int} (h0 : 0 ≤ lo) (h1 : lo ≤ hi) (h2 : hi ≤ xs.length) : sub xs lo hi = .some ((xs.take hi.toNat).drop lo.toNat) := by
  unfold sub; rw [if_pos ⟨h0, h1, h2⟩]
/-! ### Loops -/
theorem forP_ok {body : Int → α → σ → Option σ} {xs : List α} {s0 : σ} (I : Nat → σ → Prop) {Q : σ → Prop} (h0 : I 0 s0)
    (hb : ∀ (i : Nat) (x : α) (s : σ), xs[i]? = .some x → I i s → Ok (body i x s) (I (i + 1))) (hq : ∀ s, I xs.length s → Q s) : Ok (forP body 0 xs s0) Q := by
  have key : ∀ (ys : List α) (k : Nat) (s : σ), xs.drop k = ys → k ≤ xs.length → I k s → Ok (forP body (k : Int) ys s) Q := by
    intro ys
    induction ys with
    | nil =>
      intro k s e hk hi
      have : xs.length = k := by have := List.drop_eq_nil_iff.1 e; omega
      exact .some (hq s (this ▸ hi))
    | cons y ys ih =>
      intro k s e hk hi
      have hy : xs[k]? = .some y := by rw [← Nat.add_zero k, ← List.getElem?_drop, e]; rfl
      have hk2 := (List.getElem?_eq_some_iff.1 hy).1
      unfold forP
      refine Ok.bind (hb k y s hy hi) fun s' hs' => ?_
      exact ih (k + 1) s' (by rw [← List.drop_drop, e]; rfl) (by omega) hs'
  exact key xs 0 s0 rfl (by omega) h0
theorem whl_ok {body : σ → Option (Step σ ρ)} {s0 : σ} (I : σ → Prop) (μ : σ → Nat) {φ : Nat} {Q : Fin σ ρ → Prop} (h0 : I s0)
    (hb : ∀ s, I s → Ok (body s) fun
      | .nx s' => I s' ∧ μ s' < μ s
      | .br s' => Q (.out s')
      | .rt r => Q (.rt r)) (hφ : μ s0 < φ) : Ok (whl body φ s0) Q := by
  induction φ generalizing s0 with
  | zero => omega
  | succ φ ih =>
    unfold whl
    obtain ⟨r, e1, h1⟩ := hb s0 h0
    rw [e1]
    cases r with
    | nx s' => exact ih h1.1 (by have := h1.2; omega)
    | br s' => exact .some h1
    | rt r => exact .some h1
theorem W_id {n : Int} (h1 : -9223372036854775808 ≤ n := by omega) (h2 : n ≤ 9223372036854775807 := by omega) : W n = n := W_of h1 h2
end

/-! ### Tables -/
section
variable {α : Type} [Inhabited α]
/-- It has n rows of m elements. -/
def Dim (M : List (List α)) (n m : Int) : Prop := (M.length : Int) = n ∧ ∀ i, 0 ≤ i → i < n → ((el M i).length : Int) = m
theorem Dim.ix {M : List (List α)} {n m i : Int} (h : Dim M n m) (h0 : 0 ≤ i) (h1 : i < n) : ix M i = some (el M i) := ix_el h0 (by rw [h.1]; exact h1)
end
end Go.Pu
