/- Derivations of parts of a word, and tables of bits: plain theory. Own work. -/
import Derived.Test.YtcdhhelgoppleaaGr1
namespace Go.Proofs.Ytcdhhelgoppleaa.Gr
open Go Go.Ab Go.Pu
/-- The symbols derive the part of the word from i to j. -/
inductive Der (R : List Ru) (w : List Int) : List Sy → Nat → Nat → Prop where
  | nil {i : Nat} : Der R w [] i i
  | term {n : Int} {l : List Sy} {i j : Nat} : w[i]? = some n → Der R w l (i + 1) j → Der R w (⟨true, n⟩ :: l) i j
  | non {n : Int} {r : Ru} {l : List Sy} {i k j : Nat} : r ∈ R → r.Left = n → Der R w r.Right i k → Der R w l k j → Der R w (⟨false, n⟩ :: l) i j
theorem Der.mono {R R' : List Ru} {w : List Int} (h : ∀ r ∈ R, r ∈ R') {l : List Sy} {i j : Nat} (d : Der R w l i j) : Der R' w l i j := by
  induction d with
  | nil => exact .nil
  | term h1 _ ih => exact .term h1 ih
  | non h1 h2 _ _ ih1 ih2 => exact .non (h _ h1) h2 ih1 ih2
theorem Der.app {R : List Ru} {w : List Int} {l m : List Sy} {i k j : Nat} (h1 : Der R w l i k) (h2 : Der R w m k j) : Der R w (l ++ m) i j := by
  induction h1 with
  | nil => exact h2
  | term a _ ih => exact .term a (ih h2)
  | non a b c _ _ ih => exact .non a b c (ih h2)
/-- One symbol, by a table of bits. -/
def Hop (M : List (List Int)) (w : List Int) (y : Sy) (i j : Nat) : Prop :=
  (y.Term = true ∧ w[i]? = some y.N ∧ j = i + 1) ∨ (y.Term = false ∧ (el2 M y.N (i : Int)).toNat.testBit j = true)
def Path (M : List (List Int)) (w : List Int) : List Sy → Nat → Nat → Prop
  | [], i, j => i = j
  | y :: l, i, j => ∃ k, Hop M w y i k ∧ Path M w l k j
theorem path_snoc {M : List (List Int)} {w : List Int} {y : Sy} : ∀ {l : List Sy} {i j : Nat}, Path M w (l ++ [y]) i j ↔ ∃ k, Path M w l i k ∧ Hop M w y k j := by
  intro l
  induction l with
  | nil => intro i j; simp [Path]
  | cons x l ih =>
    intro i j
    simp only [List.cons_append, Path, ih]
    exact ⟨fun ⟨k, a, m, b, c⟩ => ⟨m, ⟨k, a, b⟩, c⟩, fun ⟨m, ⟨k, a, b⟩, c⟩ => ⟨k, a, m, b, c⟩⟩
/-- A table of bits. -/
structure Bts (M : List (List Int)) (nons : Int) (L : Nat) : Prop where
  dim : Dim M nons (L + 1)
  lo : ∀ a i, 0 ≤ a → a < nons → 0 ≤ i → i < (L : Int) + 1 → 0 ≤ el2 M a i
  hi : ∀ a i, 0 ≤ a → a < nons → 0 ≤ i → i < (L : Int) + 1 → (el2 M a i).toNat < 2 ^ (L + 1)
theorem bit_low {n L i : Nat} (h : n < 2 ^ (L + 1)) (hb : n.testBit i = true) : i ≤ L := by
  rcases Nat.lt_or_ge L i with q | q
  · rw [Nat.testBit_lt_two_pow (Nat.lt_of_lt_of_le h (Nat.pow_le_pow_right (by omega) (by omega)))] at hb; cases hb
  · exact q
theorem Der.le {R : List Ru} {w : List Int} {l : List Sy} {i j : Nat} (d : Der R w l i j) : i ≤ j := by
  induction d with
  | nil => exact Nat.le_refl _
  | term _ _ ih => omega
  | non _ _ _ _ ih1 ih2 => omega
section
variable {R : List Ru} {w : List Int} {M : List (List Int)} {nons : Int}
def Snd (R : List Ru) (w : List Int) (M : List (List Int)) (nons : Int) : Prop := ∀ (a : Int) (i j : Nat), 0 ≤ a → a < nons → i ≤ w.length → (el2 M a (i : Int)).toNat.testBit j = true → Der R w [⟨false, a⟩] i j
def Cls (R : List Ru) (w : List Int) (M : List (List Int)) : Prop := ∀ r ∈ R, ∀ i j : Nat, i ≤ w.length → Path M w r.Right i j → (el2 M r.Left (i : Int)).toNat.testBit j = true
def InN (nons : Int) (l : List Sy) : Prop := ∀ y ∈ l, y.Term = false → 0 ≤ y.N ∧ y.N < nons
theorem path_der (hM : Bts M nons w.length) (hS : Snd R w M nons) : ∀ {l : List Sy} {i j : Nat}, InN nons l → i ≤ w.length → Path M w l i j → Der R w l i j := by
  intro l
  induction l with
  | nil => intro i j _ _ h; cases (show i = j from h); exact .nil
  | cons y l ih =>
    rintro i j hl hi ⟨k, h, q⟩
    have hl2 : InN nons l := fun z hz => hl z (List.mem_cons_of_mem _ hz)
    obtain ⟨t, n⟩ := y
    rcases h with ⟨a, b, rfl⟩ | ⟨a, b⟩
    · cases (show t = true from a)
      have := (List.getElem?_eq_some_iff.1 b).1
      exact .term b (ih hl2 (by omega) q)
    · cases (show t = false from a)
      obtain ⟨n0, n1⟩ := hl _ (List.mem_cons_self ..) rfl
      have hk := bit_low (hM.hi n i n0 n1 (by omega) (by omega)) b
      exact Der.app (l := [⟨false, n⟩]) (hS n i k n0 n1 hi b) (ih hl2 hk q)
theorem der_path (hc : Cls R w M) {l : List Sy} {i j : Nat} (d : Der R w l i j) : i ≤ w.length → Path M w l i j ∧ j ≤ w.length := by
  induction d with
  | nil => exact fun h => ⟨rfl, h⟩
  | term h1 _ ih =>
    intro _
    have := (List.getElem?_eq_some_iff.1 h1).1
    obtain ⟨a, b⟩ := ih (by omega)
    exact ⟨⟨_, .inl ⟨rfl, h1, rfl⟩, a⟩, b⟩
  | non h1 h2 _ _ ih1 ih2 =>
    intro h
    obtain ⟨a, b⟩ := ih1 h
    obtain ⟨c, d⟩ := ih2 b
    subst h2
    exact ⟨⟨_, .inr ⟨rfl, hc _ h1 _ _ h a⟩, c⟩, d⟩
theorem sum_set : ∀ (l : List Nat) (i v : Nat) (h : i < l.length), (l.set i v).sum + l[i] = l.sum + v := by
  intro l
  induction l with
  | nil => intro i v h; simp at h
  | cons x l ih =>
    intro i v h
    cases i with
    | zero => simp; omega
    | succ i =>
      have := ih i v (by simpa using h)
      simp only [List.set_cons_succ, List.sum_cons, List.getElem_cons_succ]; omega
theorem sum_le : ∀ (l : List Nat) (B : Nat), (∀ x ∈ l, x ≤ B) → l.sum ≤ l.length * B := by
  intro l B
  induction l with
  | nil => simp
  | cons x l ih =>
    intro h
    have := h x (by simp)
    have := ih fun y hy => h y (List.mem_cons_of_mem _ hy)
    rw [List.sum_cons, List.length_cons, Nat.add_mul]; omega
def tot (M : List (List Int)) : Nat := (M.map fun r => (r.map Int.toNat).sum).sum
theorem tot_st2 {L : Nat} (hM : Bts M nons L) {a i v : Int} (h0 : 0 ≤ a) (h1 : a < nons) (h2 : 0 ≤ i) (h3 : i < (L : Int) + 1) : tot (st2 M a i v) + (el2 M a i).toNat = tot M + v.toNat := by
  have l1 := hM.dim.1
  have l2 := hM.dim.2 a h0 h1
  have a1 := sum_set (M.map fun r => (r.map Int.toNat).sum) a.toNat (((el M a).set i.toNat v).map Int.toNat).sum (by rw [List.length_map]; omega)
  have a2 := sum_set ((el M a).map Int.toNat) i.toNat v.toNat (by rw [List.length_map]; omega)
  have e1 : tot (st2 M a i v) = ((M.map fun r => (r.map Int.toNat).sum).set a.toNat (((el M a).set i.toNat v).map Int.toNat).sum).sum := by
    unfold tot st2 Pu.st; rw [List.map_set]
  have e2 : ((M.map fun r => (r.map Int.toNat).sum)[a.toNat]'(by rw [List.length_map]; omega)) = ((el M a).map Int.toNat).sum := by
    rw [List.getElem_map]
    have := get_el (xs := M) (i := a.toNat) (by omega)
    rw [List.getElem?_eq_getElem (by omega), Option.some.injEq, Int.toNat_of_nonneg h0] at this
    rw [this]
  have e3 : (((el M a).map Int.toNat)[i.toNat]'(by rw [List.length_map]; omega)) = (el2 M a i).toNat := by
    rw [List.getElem_map]
    have := get_el (xs := el M a) (i := i.toNat) (by omega)
    rw [List.getElem?_eq_getElem (by omega), Option.some.injEq, Int.toNat_of_nonneg h2] at this
    rw [this]; rfl
  rw [e2] at a1
  rw [e3] at a2
  rw [List.map_set] at a1 e1
  unfold tot at *
  omega
theorem tot_le {L : Nat} (hM : Bts M nons L) : tot M ≤ nons.toNat * ((L + 1) * 2 ^ (L + 1)) := by
  have l1 := hM.dim.1
  have := sum_le (M.map fun r => (r.map Int.toNat).sum) ((L + 1) * 2 ^ (L + 1)) fun x hx => by
    obtain ⟨r, hr, rfl⟩ := List.mem_map.1 hx
    obtain ⟨a, ha, rfl⟩ := List.mem_iff_getElem.1 hr
    have ea : el M (a : Int) = M[a] := el_nat (List.getElem?_eq_getElem ha)
    have l2 := hM.dim.2 a (by omega) (by omega)
    rw [ea] at l2
    have := sum_le (M[a].map Int.toNat) (2 ^ (L + 1)) fun y hy => by
      obtain ⟨z, hz, rfl⟩ := List.mem_map.1 hy
      obtain ⟨i, hi, rfl⟩ := List.mem_iff_getElem.1 hz
      have h := hM.hi a i (by omega) (by omega) (by omega) (by omega)
      have : el2 M (a : Int) (i : Int) = M[a][i] := by unfold el2; rw [ea]; exact el_nat (List.getElem?_eq_getElem hi)
      rw [this] at h; omega
    rw [List.length_map] at this
    have e : M[a].length = L + 1 := by omega
    rwa [e] at this
  rw [List.length_map] at this
  have e : M.length = nons.toNat := by omega
  rwa [e] at this
end
end Go.Proofs.Ytcdhhelgoppleaa.Gr
