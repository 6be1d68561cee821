/- Automata in the abstract heap. Own work. -/
import Derived.Test.YtmlnknngpdnepaaAb18
namespace Go.Ab
open Go

/-- Slices that are only read. -/
abbrev Rd (H : Hp) (v : Value) (cs : List Value) : Prop := Arr H 1 (fun _ => True) v cs
theorem Rd.ext {H H' : Hp} {v : Value} {cs : List Value} (h : Rd H v cs) (e : Ext H.length H H') : Rd H' v cs := h.congr fun _ _ hb => e.get hb
theorem Own.rd {n : Nat} {H : Hp} {v : Value} {cs : List Value} (h : Own n H v cs) : Rd H v cs := h.arr.mono fun _ _ => trivial
theorem Arr.low {H : Hp} {sz : Nat} {p : Nat → Prop} {v : Value} {cs : List Value} (h : Arr H sz p v cs) : Arr H sz (· < H.length) v cs := by
  rcases h.at' with ⟨h1, h2⟩ | ⟨b, o, n, us, h1, h2, h3, h4, h5, h6⟩
  · exact ⟨.inl ⟨h1, h2⟩⟩
  · refine ⟨.inr ⟨b, o, n, us, h1, h2, h3, h4, h5, ?_⟩⟩
    rcases Nat.lt_or_ge b H.length with h | h
    · exact h
    · simp [Hp.cells, List.getElem?_eq_none h] at h2
/-- Rows of whole numbers. -/
def RdGrid (H : Hp) (v : Value) (rows : List (List Int)) : Prop := ∃ us, Rd H v us ∧ us.length = rows.length ∧ ∀ (i : Nat) (u : Value) (r : List Int), us[i]? = some u → rows[i]? = some r → Rd H u (r.map vi)
theorem RdGrid.ext {H H' : Hp} {v : Value} {rows : List (List Int)} (h : RdGrid H v rows) (e : Ext H.length H H') : RdGrid H' v rows := by
  obtain ⟨us, h1, h2, h3⟩ := h
  exact ⟨us, h1.ext e, h2, fun i u r a b => (h3 i u r a b).ext e⟩
theorem RdGrid.len {H : Hp} {v : Value} {rows : List (List Int)} (h : RdGrid H v rows) : vlen v = some (vi rows.length) := by
  obtain ⟨us, h1, h2, -⟩ := h
  rw [h1.len, h2]
theorem RdGrid.row {H : Hp} {v : Value} {rows : List (List Int)} (h : RdGrid H v rows) {i : Nat} {r : List Int} (hi : rows[i]? = some r) : ∃ us u, Rd H v us ∧ us[i]? = some u ∧ Rd H u (r.map vi) := by
  obtain ⟨us, h1, h2, h3⟩ := h
  have : i < us.length := by rw [h2]; exact (List.getElem?_eq_some_iff.1 hi).1
  exact ⟨us, us[i], h1, List.getElem?_eq_getElem this, h3 i _ r (List.getElem?_eq_getElem this) hi⟩
/-- Rows that are built: their blocks are not the outer one. -/
def OwnGrid (n : Nat) (H : Hp) (v : Value) (rows : List (List Int)) : Prop :=
  ∃ us, Own n H v us ∧ us.length = rows.length ∧ ∀ (i : Nat) (u : Value) (r : List Int), us[i]? = some u → rows[i]? = some r → Own n H u (r.map vi) ∧ ∀ b, blkOf u = some b → blkOf v ≠ some b
/-- The blocks of a grid. -/
theorem OwnGrid.nil (n : Nat) (H : Hp) : OwnGrid n H (.slice none 0 0) [] := ⟨[], Own.nil n H, rfl, fun i u r h => by simp at h⟩

structure Dfa where
  start : Int
  acc : List Int
  next : List (List Int)
structure Dfa.Ok (d : Dfa) : Prop where
  start : 0 ≤ d.start ∧ d.start < d.next.length
  size : d.next.length ≤ 200
  acc : d.acc.length = d.next.length ∧ ∀ a ∈ d.acc, -1 ≤ a
  cols : ∃ c : Nat, 1 ≤ c ∧ c ≤ 16 ∧ ∀ r ∈ d.next, r.length = c ∧ ∀ x ∈ r, -1 ≤ x ∧ x < d.next.length
def DfaV (H : Hp) (v : Value) (d : Dfa) : Prop := ∃ va vn, v = .agg #[vi d.start, va, vn] ∧ Rd H va (d.acc.map vi) ∧ RdGrid H vn d.next
theorem DfaV.ext {H H' : Hp} {v : Value} {d : Dfa} (h : DfaV H v d) (e : Ext H.length H H') : DfaV H' v d := by
  obtain ⟨va, vn, h1, h2, h3⟩ := h
  exact ⟨va, vn, h1, h2.ext e, h3.ext e⟩
end Go.Ab
