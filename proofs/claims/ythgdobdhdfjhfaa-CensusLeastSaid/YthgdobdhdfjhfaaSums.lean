/- Sums of what is known of symbols. Own work. -/
import Derived.Test.YthgdobdhdfjhfaaLens0
namespace Go.Proofs.Ythgdobdhdfjhfaa.Gr
open Go Go.Ab Go.Pu

/-- What is known of a symbol. -/
def wS (L : List Int) (s : Sy) : Int := if s.Term then 1 else el L s.N
def PosL (L : List Int) (l : List Sy) : Prop := ∀ s ∈ l, 0 ≤ wS L s
def sumS (L : List Int) (l : List Sy) : Int := (l.map (wS L)).sum
theorem sumS_nil (L : List Int) : sumS L [] = 0 := rfl
theorem sumS_cons (L : List Int) (s : Sy) (l : List Sy) : sumS L (s :: l) = wS L s + sumS L l := by simp [sumS]
theorem sumS_app (L : List Int) (l m : List Sy) : sumS L (l ++ m) = sumS L l + sumS L m := by simp [sumS]
theorem sumS_nn {L : List Int} {l : List Sy} (h : PosL L l) : 0 ≤ sumS L l := by
  induction l with
  | nil => exact Int.le_refl _
  | cons s l ih =>
    rw [sumS_cons]
    have := h s (by simp)
    have := ih fun t ht => h t (List.mem_cons_of_mem _ ht)
    omega
theorem sumS_le {L : List Int} {l : List Sy} {B : Int} (hB : 0 ≤ B) (h : ∀ s ∈ l, wS L s ≤ B) : sumS L l ≤ l.length * B := by
  induction l with
  | nil => simp [sumS]
  | cons s l ih =>
    rw [sumS_cons]
    have := h s (by simp)
    have := ih fun t ht => h t (List.mem_cons_of_mem _ ht)
    rw [List.length_cons, Int.natCast_add, Int.add_mul]; omega
theorem PosL.cons {L : List Int} {s : Sy} {l : List Sy} : PosL L (s :: l) ↔ 0 ≤ wS L s ∧ PosL L l := by simp [PosL]
/-- The symbols of a list are symbols of the grammar. -/
def InL (nons : Int) (l : List Sy) : Prop := ∀ s ∈ l, s.Term = false → 0 ≤ s.N ∧ s.N < nons
theorem Valid.inl {g : Ty.api_Grammar} (h : Valid g) {r : Ru} (hr : r ∈ g.Rules) : InL g.Nons r.Right := fun s hs ht => ⟨(h.sym r hr s hs).1, (h.sym r hr s hs).2.2 ht⟩
/-- A table of lengths. -/
structure Tab (L : List Int) (nons : Int) (B : Int) : Prop where
  len : (L.length : Int) = nons
  lo : ∀ a, 0 ≤ a → a < nons → -1 ≤ el L a
  hi : ∀ a, 0 ≤ a → a < nons → el L a ≤ B
theorem Tab.ws {L : List Int} {nons B : Int} (h : Tab L nons B) (hB : 1 ≤ B) {l : List Sy} (hl : InL nons l) {s : Sy} (hs : s ∈ l) : -1 ≤ wS L s ∧ wS L s ≤ B := by
  unfold wS
  cases ht : s.Term with
  | true => simp; omega
  | false =>
    obtain ⟨a, b⟩ := hl s hs ht
    exact ⟨h.lo _ a b, h.hi _ a b⟩
end Go.Proofs.Ythgdobdhdfjhfaa.Gr
