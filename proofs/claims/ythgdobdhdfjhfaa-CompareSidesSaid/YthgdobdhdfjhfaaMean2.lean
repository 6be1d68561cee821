/- mean.derived and mean.Accepts. Own work. -/
import Derived.Test.YthgdobdhdfjhfaaMean1
namespace Go.Proofs.Ythgdobdhdfjhfaa.Gr
open Go Go.Ab Go.Pu
section
variable {R : List Ru} {w : List Int} {M : List (List Int)} {nons : Int}
def Snd (R : List Ru) (w : List Int) (M : List (List Int)) (nons : Int) : Prop := ∀ (a : Int) (i j : Nat), 0 ≤ a → a < nons → i ≤ w.length → (el2 M a (i : Int)).toNat.testBit j = true → Der R w [⟨false, a⟩] i j
def Cls (R : List Ru) (w : List Int) (M : List (List Int)) : Prop := ∀ r ∈ R, ∀ i j : Nat, i ≤ w.length → Path M w r.Right i j → (el2 M r.Left (i : Int)).toNat.testBit j = true
def InN (nons : Int) (l : List Sy) : Prop := ∀ y ∈ l, y.Term = false → 0 ≤ y.N ∧ y.N < nons
theorem path_der (hM : Bts M nons w.length) (hS : Snd R w M nons) : ∀ {l : List Sy} {i j : Nat}, InN nons l → i ≤ w.length → Path M w l i j → Der R w l i j := by
  intro l
  induction l with
  | nil => intro i j _ _ h; cases (show i = j from h); exact .nil
  | cons y l ih =>
    rintro i j hl hi ⟨k, h, q⟩
    have hl2 : InN nons l := fun z hz => hl z (List.mem_cons_of_mem _ hz)
    obtain ⟨t, n⟩ := y
    rcases h with ⟨a, b, rfl⟩ | ⟨a, b⟩
    · cases (show t = true from a)
      have := (List.getElem?_eq_some_iff.1 b).1
      exact .term b (ih hl2 (by omega) q)
    · cases (show t = false from a)
      obtain ⟨n0, n1⟩ := hl _ (List.mem_cons_self ..) rfl
      have hk := bit_low (hM.hi n i n0 n1 (by omega) (by omega)) b
      exact Der.app (l := [⟨false, n⟩]) (hS n i k n0 n1 hi b) (ih hl2 hk q)
theorem der_path (hc : Cls R w M) {l : List Sy} {i j : Nat} (d : Der R w l i j) : i ≤ w.length → Path M w l i j ∧ j ≤ w.length := by
  induction d with
  | nil => exact fun h => ⟨rfl, h⟩
  | term h1 _ ih =>
    intro _
    have := (List.getElem?_eq_some_iff.1 h1).1
    obtain ⟨a, b⟩ := ih (by omega)
    exact ⟨⟨_, .inl ⟨rfl, h1, rfl⟩, a⟩, b⟩
  | non h1 h2 _ _ ih1 ih2 =>
    intro h
    obtain ⟨a, b⟩ := ih1 h
    obtain ⟨c, d⟩ := ih2 b
    subst h2
    exact ⟨⟨_, .inr ⟨rfl, hc _ h1 _ _ h a⟩, c⟩, d⟩
theorem sum_set : ∀ (l : List Nat) (i v : Nat) (h : i < l.length), (l.set i v).sum + l[i] = l.sum + v := by
  intro l
  induction l with
  | nil => intro i v h; simp at h
  | cons x l ih =>
    intro i v h
    cases i with
    | zero => simp; omega
    | succ i =>
      have := ih i v (by simpa using h)
      simp only [List.set_cons_succ, List.sum_cons, List.getElem_cons_succ]; omega
theorem sum_le : ∀ (l : List Nat) (B : Nat), (∀ x ∈ l, x ≤ B) → l.sum ≤ l.length * B := by
  intro l B
  induction l with
  | nil => simp
  | cons x l ih =>
    intro h
    have := h x (by simp)
    have := ih fun y hy => h y (List.mem_cons_of_mem _ hy)
    rw [List.sum_cons, List.length_cons, Nat.add_mul]; omega
def tot (M : List (List Int)) : Nat := (M.map fun r => (r.map Int.toNat).sum).sum
theorem tot_st2 {L : Nat} (hM : Bts M nons L) {a i v : Int} (h0 : 0 ≤ a) (h1 : a < nons) (h2 : 0 ≤ i) (h3 : i < (L : Int) + 1) : tot (st2 M a i v) + (el2 M a i).toNat = tot M + v.toNat := by
  have l1 := hM.dim.1
  have l2 := hM.dim.2 a h0 h1
  have a1 := sum_set (M.map fun r => (r.map Int.toNat).sum) a.toNat (((el M a).set i.toNat v).map Int.toNat).sum (by rw [List.length_map]; omega)
  have a2 := sum_set ((el M a).map Int.toNat) i.toNat v.toNat (by rw [List.length_map]; omega)
  have e1 : tot (st2 M a i v) = ((M.map fun r => (r.map Int.toNat).sum).set a.toNat (((el M a).set i.toNat v).map Int.toNat).sum).sum := by
    unfold tot st2 Pu.st; rw [List.map_set]
  have e2 : ((M.map fun r => (r.map Int.toNat).sum)[a.toNat]'(by rw [List.length_map]; omega)) = ((el M a).map Int.toNat).sum := by
    rw [List.getElem_map]
    have := get_el (xs := M) (i := a.toNat) (by omega)
    rw [List.getElem?_eq_getElem (by omega), Option.some.injEq, Int.toNat_of_nonneg h0] at this
    rw [this]
  have e3 : (((el M a).map Int.toNat)[i.toNat]'(by rw [List.length_map]; omega)) = (el2 M a i).toNat := by
    rw [List.getElem_map]
    have := get_el (xs := el M a) (i := i.toNat) (by omega)
    rw [List.getElem?_eq_getElem (by omega), Option.some.injEq, Int.toNat_of_nonneg h2] at this
    rw [this]; rfl
  rw [e2] at a1
  rw [e3] at a2
  rw [List.map_set] at a1 e1
  unfold tot at *
  omega
theorem tot_le {L : Nat} (hM : Bts M nons L) : tot M ≤ nons.toNat * ((L + 1) * 2 ^ (L + 1)) := by
  have l1 := hM.dim.1
  have := sum_le (M.map fun r => (r.map Int.toNat).sum) ((L + 1) * 2 ^ (L + 1)) fun x hx => by
    obtain ⟨r, hr, rfl⟩ := List.mem_map.1 hx
    obtain ⟨a, ha, rfl⟩ := List.mem_iff_getElem.1 hr
    have ea : el M (a : Int) = M[a] := el_nat (List.getElem?_eq_getElem ha)
    have l2 := hM.dim.2 a (by omega) (by omega)
    rw [ea] at l2
    have := sum_le (M[a].map Int.toNat) (2 ^ (L + 1)) fun y hy => by
      obtain ⟨z, hz, rfl⟩ := List.mem_map.1 hy
      obtain ⟨i, hi, rfl⟩ := List.mem_iff_getElem.1 hz
      have h := hM.hi a i (by omega) (by omega) (by omega) (by omega)
      have : el2 M (a : Int) (i : Int) = M[a][i] := by unfold el2; rw [ea]; exact el_nat (List.getElem?_eq_getElem hi)
      rw [this] at h; omega
    rw [List.length_map] at this
    have e : M[a].length = L + 1 := by omega
    rwa [e] at this
  rw [List.length_map] at this
  have e : M.length = nons.toNat := by omega
  rwa [e] at this
theorem fold_ok {g : Ty.api_Grammar} (hL : w.length ≤ 12) (s : List (List Int) × Bool) (hM : Bts s.1 nons w.length) {l : List Sy} (hl : InN nons l) {i : Nat} (hi : i ≤ w.length) {φ : Nat} (hφ : 14 < φ) :
    Ok (Pu.forP (P.mean_derived.b4 φ g w s) 0 l ((2 ^ i : Nat) : Int)) fun z => ∃ m : Nat, z = m ∧ m < 2 ^ (w.length + 1) ∧ ∀ j, m.testBit j = true ↔ Path s.1 w l i j := by
  refine forP_ok (fun k z => ∃ m : Nat, z = (m : Int) ∧ m < 2 ^ (w.length + 1) ∧ ∀ j, m.testBit j = true ↔ Path s.1 w (l.take k) i j) ⟨_, rfl, Nat.pow_lt_pow_right (by omega) (by omega), fun j => ?_⟩ ?_ fun z h => ?_
  · rw [Nat.testBit_two_pow, decide_eq_true_eq]; exact Iff.rfl
  · rintro k y _ hk ⟨m, rfl, h1, h2⟩
    unfold P.mean_derived.b4
    refine (after_ok hL hM (hl y (List.mem_of_getElem? hk)) h1 hφ).bind ?_
    rintro _ ⟨m', rfl, h3, h4⟩
    refine .some ⟨m', rfl, h3, fun j => ?_⟩
    have e : l.take (k + 1) = l.take k ++ [y] := by rw [List.take_add_one, hk]; rfl
    rw [e, path_snoc, h4]
    exact ⟨fun ⟨z, a, b⟩ => ⟨z, (h2 z).1 a, b⟩, fun ⟨z, a, b⟩ => ⟨z, (h2 z).2 a, b⟩⟩
  · rwa [List.take_length] at h
end
end Go.Proofs.Ythgdobdhdfjhfaa.Gr
