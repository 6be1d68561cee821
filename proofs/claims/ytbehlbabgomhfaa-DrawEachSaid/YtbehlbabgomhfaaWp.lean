/- Rules for the plain functions: what they come to. Own work. -/
import Derived.Test.YtbehlbabgomhfaaSl9
set_option linter.unusedSectionVars false
namespace Go.Pu
open Go
section
variable {α β σ ρ : Type}
/-- It comes to something, which is so. -/
def Ok (o : Option α) (Q : α → Prop) : Prop := ∃ x, o = some x ∧ Q x
theorem Ok.some {x : α} {Q : α → Prop} (h : Q x) : Ok (some x) Q := ⟨x, rfl, h⟩
theorem Ok.bind {o : Option α} {f : α → Option β} {Q : α → Prop} {R : β → Prop} (h : Ok o Q) (k : ∀ x, Q x → Ok (f x) R) : Ok (o.bind f) R := by
  obtain ⟨x, rfl, hx⟩ := h; exact k x hx
theorem Ok.mono {o : Option α} {Q R : α → Prop} (h : Ok o Q) (k : ∀ x, Q x → R x) : Ok o R := by
  obtain ⟨x, e, hx⟩ := h; exact ⟨x, e, k x hx⟩
theorem Ok.eq {o : Option α} {y : α} (h : Ok o (· = y)) : o = .some y := by
  obtain ⟨x, e, rfl⟩ := h; exact e
theorem Ok.out {o : Option α} {Q : α → Prop} {x : α} (h : Ok o Q) (e : o = .some x) : Q x := by
  obtain ⟨y, e', hy⟩ := h; rw [e] at e'; cases e'; exact hy

/-! ### Elements -/
/-- Element i. -/
def el [Inhabited α] (xs : List α) (i : Int) : α := xs[i.toNat]?.getD default
theorem ix_el [Inhabited α] {xs : List α} {i : Int} (h0 : 0 ≤ i) (h1 : i < xs.length) : ix xs i = .some (el xs i) := by
  unfold ix el
  rw [if_pos h0, List.getElem?_eq_getElem (by omega : i.toNat < xs.length)]; rfl
@[simp] theorem st_length {xs : List α} {i : Int} {v : α} : (st xs i v).length = xs.length := by simp [st]
/-! ### Loops -/
theorem W_id {n : Int} (h1 : -9223372036854775808 ≤ n := by omega) (h2 : n ≤ 9223372036854775807 := by omega) : W n = n := W_of h1 h2
end

/-! ### Tables -/
section
variable {α : Type} [Inhabited α]
/-- It has n rows of m elements. -/
def Dim (M : List (List α)) (n m : Int) : Prop := (M.length : Int) = n ∧ ∀ i, 0 ≤ i → i < n → ((el M i).length : Int) = m
theorem Dim.ix {M : List (List α)} {n m i : Int} (h : Dim M n m) (h0 : 0 ≤ i) (h1 : i < n) : ix M i = some (el M i) := ix_el h0 (by rw [h.1]; exact h1)
end
end Go.Pu
