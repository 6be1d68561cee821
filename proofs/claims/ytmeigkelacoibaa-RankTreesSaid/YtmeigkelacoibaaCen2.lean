import Derived.Test.YtmeigkelacoibaaCen1
namespace Go.Pu
open Go
theorem st_st {α : Type} {xs : List α} {i : Int} {v w : α} : st (st xs i v) i w = st xs i w := by simp [st]
end Go.Pu
namespace Go.Proofs.Ytmeigkelacoibaa.Gr
open Go Go.Ab Go.Pu
abbrev Tb := Ty.C3
structure TOk (g : Ty.B2) (n : Nat) (T : Tb) : Prop where
 gE : T.g = g
 nE : T.n = n
 has : Dim T.has_ g.Nons (n + 1)
 loop : Dim T.loop_ g.Nons (n + 1)
 known : Dim T.known_ g.Nons (n + 1)
 endsL : T.ends.length = g.Rules.length
 ends : ∀ (i : Nat) (r : Ru), g.Rules[i]? = some r → Dim (el T.ends (i : Int)) (r.Right.length + 1 : Nat) (n + 1)
 waysL : T.ways.length = g.Rules.length
 ways : ∀ (i : Nat) (r : Ru), g.Rules[i]? = some r → Dim (el T.ways (i : Int)) (r.Right.length + 1 : Nat) (n + 1)
def symB (M : List (List Bool)) (s : Sy) (j : Nat) : Bool := if s.Term then decide (j = 1) else el2 M s.N j
theorem symB_iff {M : List (List Bool)} {s : Sy} {j : Nat} : symB M s j = true ↔ fH M s j := by
 unfold symB fH
 cases s.Term <;> simp
theorem sym_eq {T : Tb} {nons : Int} {n : Nat} (hM : Dim T.has_ nons (n + 1)) {s : Sy} (hs : s.Term = false → 0 ≤ s.N ∧ s.N < nons) {j : Nat} (hj : j ≤ n) : P.D0 T s (j : Int) = some (symB T.has_ s j) := by
 unfold P.D0 symB
 cases ht : s.Term with
 | true => simp; omega
 | false =>
   obtain ⟨a, b⟩ := hs ht
   rw [if_neg (by simp), hM.ix a b, Option.bind_some, hM.ix2 a b (by omega) (by omega)]; rfl
section
variable {M : List (List Bool)} {n : Nat} {r : Ru} {D : List (List Bool)}
def Sd (M : List (List Bool)) (r : Ru) (D : List (List Bool)) (p k : Nat) : Prop := el2 D (p : Int) (k : Int) = true → SumL (fH M) (r.Right.drop p) k
def Ex (M : List (List Bool)) (r : Ru) (D : List (List Bool)) (p k : Nat) : Prop := el2 D (p : Int) (k : Int) = true ↔ SumL (fH M) (r.Right.drop p) k
theorem end2_eq {T : Tb} {nons : Int} (hM : Dim T.has_ nons (n + 1)) (hn : n ≤ 1000) (hlen : r.Right.length ≤ 4) (hr : ∀ s ∈ r.Right, s.Term = false → 0 ≤ s.N ∧ s.N < nons) {E : List (List (List Bool))} {i : Nat} (hi : i < E.length) (hD : Dim D (r.Right.length + 1 : Nat) (n + 1)) {p k j : Nat} {s : Sy} (hp : r.Right[p]? = some s) (hk : k ≤ n) (hj : j ≤ k)
 {E0 : List (List (List Bool))} {w : Int} :
 P.B7.b2 T i (E0, (p : Int)) r k w j (Pu.st E i D) = some (Pu.st E i (st2 D p k (el2 D p k || (symB T.has_ s j && el2 D ((p + 1 : Nat) : Int) ((k - j : Nat) : Int))))) := by
 have hpl := (List.getElem?_eq_some_iff.1 hp).1
 have hD' : (D.length : Int) = (r.Right.length + 1 : Nat) := hD.1
 have e1 : Pu.ix (Pu.st E (i : Int) D) (i : Int) = some D := by rw [ix_el (by omega) (by simp; omega), el_same (by omega) (by omega)]
 have e2 : Pu.ix D (p : Int) = some (el D p) := hD.ix (by omega) (by omega)
 have e3 : Pu.ix (el D (p : Int)) (k : Int) = some (el2 D p k) := hD.ix2 (by omega) (by omega) (by omega) (by omega)
 have e4 : Pu.ix D (Pu.W ((p : Int) + 1)) = some (el D ((p + 1 : Nat) : Int)) := by rw [W_id]; exact hD.ix (i := ((p + 1 : Nat) : Int)) (by omega) (by omega)
 have e5 : Pu.ix (el D ((p + 1 : Nat) : Int)) (Pu.W ((k : Int) - j)) = some (el2 D ((p + 1 : Nat) : Int) ((k - j : Nat) : Int)) := by
  rw [W_id, show (k : Int) - j = ((k - j : Nat) : Int) by omega]; exact hD.ix2 (by omega) (by omega) (by omega) (by omega)
 have e6 : Pu.ix r.Right (p : Int) = some s := ix_nat.trans hp
 have hsym := sym_eq (T := Ty.C3.mk T.g T.n T.has_ T.loop_ T.known_ (Pu.st E i D) T.ways) hM (hr s (List.mem_of_getElem? hp)) (j := j) (by omega)
 unfold P.B7.b2
 simp only [e1, e2, e3, e6, Option.bind_some, hsym]
 cases h1 : el2 D (p : Int) (k : Int) with
 | true => simp only [if_true, Option.bind_some, st_st, Bool.true_or]; rfl
 | false =>
   simp only [Bool.false_eq_true, if_false, Bool.false_or]
   cases h2 : symB T.has_ s j with
   | true => simp only [if_true, e4, e5, Option.bind_some, st_st, Bool.true_and]; rfl
   | false => simp only [Bool.false_eq_true, if_false, Option.bind_some, st_st, Bool.false_and]; rfl
theorem drop_cons {l : List Sy} {p : Nat} {s : Sy} (h : l[p]? = some s) : l.drop p = s :: l.drop (p + 1) := by
 obtain ⟨h1, h2⟩ := List.getElem?_eq_some_iff.1 h
 rw [List.drop_eq_getElem_cons h1, h2]
theorem end_ok {T : Tb} {nons : Int} (hM : Dim T.has_ nons (n + 1)) (hn : n ≤ 1000) (hTn : T.n = n) (hlen : r.Right.length ≤ 4) (hr : ∀ s ∈ r.Right, s.Term = false → 0 ≤ s.N ∧ s.N < nons) {i : Nat} (hgr : T.g.Rules[i]? = some r) (hi : i < T.ends.length)
 (hD : Dim (el T.ends (i : Int)) (r.Right.length + 1 : Nat) (n + 1)) (hs : ∀ p k : Nat, p ≤ r.Right.length → k ≤ n → Sd T.has_ r (el T.ends (i : Int)) p k) {φ : Nat} (hφ : 10 ≤ φ) :
 Ok (P.B7 φ T i) fun T' => ∃ D, T' = ⟨T.g, T.n, T.has_, T.loop_, T.known_, Pu.st T.ends i D, T.ways⟩ ∧ Dim D (r.Right.length + 1 : Nat) (n + 1) ∧ ∀ p k : Nat, p ≤ r.Right.length → k ≤ n → Ex T.has_ r D p k := by
 have hl0 : ((el T.ends (i : Int)).length : Int) = (r.Right.length + 1 : Nat) := hD.1
 have hrow0 : ((el (el T.ends (i : Int)) (r.Right.length : Int)).length : Int) = (n : Int) + 1 := hD.2 _ (by omega) (by omega)
 unfold P.B7
 rw [ix_nat, hgr, Option.bind_some, ix_el (by omega) (by omega), Option.bind_some, hD.ix (by omega) (by omega), Option.bind_some, ix_el (by omega) (by omega), Option.bind_some, W_id]
 have hst2 : Pu.st (el T.ends (i : Int)) (r.Right.length : Int) (Pu.st (el (el T.ends (i : Int)) (r.Right.length : Int)) 0 true) = st2 (el T.ends (i : Int)) (r.Right.length : Int) 0 true := rfl
 rw [hst2]
 let I : (List (List (List Bool)) × Int) → Prop := fun s => ∃ (D : List (List Bool)) (p : Nat), s = (Pu.st T.ends i D, (p : Int) - 1) ∧ p ≤ r.Right.length ∧ Dim D (r.Right.length + 1 : Nat) (n + 1) ∧
  (∀ q k : Nat, p ≤ q → q ≤ r.Right.length → k ≤ n → Ex T.has_ r D q k) ∧ (∀ q k : Nat, q < p → k ≤ n → Sd T.has_ r D q k)
 refine Ok.bind (whl_ok (ρ := Unit) (Q := fun | .out s => ∃ D, s.1 = Pu.st T.ends i D ∧ Dim D (r.Right.length + 1 : Nat) (n + 1) ∧ ∀ p k : Nat, p ≤ r.Right.length → k ≤ n → Ex T.has_ r D p k | .rt _ => False) I (fun s => (s.2 + 1).toNat) ?_ ?_ ?_) ?_
 ·refine ⟨_, r.Right.length, rfl, Nat.le_refl _, hD.st2 (by omega) (by omega), fun q k h1 h2 hk => ?_, fun q k hq hk => ?_⟩
  ·have : q = r.Right.length := by omega
   subst this
   unfold Ex
   rw [hD.el_st2 (by omega) (by omega) (by omega) (by omega) (by omega) (by omega), List.drop_of_length_le (Nat.le_refl _)]
   simp only [SumL]
   split
   ·simp; omega
   ·rename_i h
    constructor
    ·intro h5
     have := hs r.Right.length k (Nat.le_refl _) hk h5
     rw [List.drop_of_length_le (Nat.le_refl _)] at this
     exact this
    ·intro h5; subst h5; exact absurd (by simp) h
  ·unfold Sd
   rw [hD.el_st2 (by omega) (by omega) (by omega) (by omega) (by omega) (by omega), if_neg (by omega)]
   exact hs q k (by omega) hk
 ·rintro ⟨s1, s2⟩ ⟨D, p, e, hp, hDD, hex, hsd⟩
  simp only [Prod.mk.injEq] at e
  obtain ⟨rfl, rfl⟩ := e
  unfold P.B7.b0
  by_cases h0 : p = 0
  ·subst h0
   rw [if_neg (by simp)]
   exact .some ⟨D, rfl, hDD, fun q k hq hk => hex q k (by omega) hq hk⟩
  ·obtain ⟨q, rfl⟩ : ∃ q, p = q + 1 := ⟨p - 1, by omega⟩
   have hqs : r.Right[q]? = some (r.Right[q]'(by omega)) := List.getElem?_eq_getElem _
   generalize hsq : r.Right[q]'(by omega) = s at hqs
   have hdr := drop_cons hqs
   rw [if_pos (by simp), hTn, W_id, ranO_eq (by omega), Option.bind_some]
   simp only [show ((q + 1 : Nat) : Int) - 1 = (q : Int) by omega]
   refine Ok.bind (forP_ok (fun (k : Nat) st => ∃ D, st = Pu.st T.ends i D ∧ Dim D (r.Right.length + 1 : Nat) (n + 1) ∧ (∀ q' k' : Nat, q + 1 ≤ q' → q' ≤ r.Right.length → k' ≤ n → Ex T.has_ r D q' k') ∧
    (∀ k' : Nat, k' < k → k' ≤ n → Ex T.has_ r D q k') ∧ (∀ q' k' : Nat, q' ≤ q → k' ≤ n → Sd T.has_ r D q' k')) ⟨D, rfl, hDD, hex, fun k' h => by omega, fun q' k' h hk => hsd q' k' (by omega) hk⟩ ?_ fun s h => h) ?_
   ·rintro k z _ hz ⟨D, rfl, hDD, hex, hk0, hsd⟩
    obtain ⟨rfl, hk⟩ := ran_at hz
    unfold P.B7.b1
    rw [W_id, ranO_eq (by omega), Option.bind_some]
    refine Ok.bind (forP_ok (fun (j : Nat) st => ∃ D, st = Pu.st T.ends i D ∧ Dim D (r.Right.length + 1 : Nat) (n + 1) ∧ (∀ q' k' : Nat, q + 1 ≤ q' → q' ≤ r.Right.length → k' ≤ n → Ex T.has_ r D q' k') ∧
     (∀ k' : Nat, k' < k → k' ≤ n → Ex T.has_ r D q k') ∧ (∀ q' k' : Nat, q' ≤ q → k' ≤ n → Sd T.has_ r D q' k') ∧
     (∀ j' : Nat, j' < j → j' ≤ k → fH T.has_ s j' → SumL (fH T.has_) (r.Right.drop (q + 1)) (k - j') → el2 D (q : Int) (k : Int) = true)) ⟨D, rfl, hDD, hex, hk0, hsd, fun j' h => by omega⟩ ?_ fun s h => h) ?_
    ·rintro j z _ hz ⟨D, rfl, hDD, hex, hk0, hsd, hj0⟩
     obtain ⟨rfl, hj⟩ := ran_at hz
     rw [end2_eq hM hn hlen hr (by omega) hDD hqs (by omega) (by omega)]
     have hval : (el2 D (q : Int) (k : Int) || (symB T.has_ s j && el2 D ((q + 1 : Nat) : Int) ((k - j : Nat) : Int))) = true ↔ el2 D (q : Int) (k : Int) = true ∨ (fH T.has_ s j ∧ SumL (fH T.has_) (r.Right.drop (q + 1)) (k - j)) := by
      have hx : el2 D ((q + 1 : Nat) : Int) ((k - j : Nat) : Int) = true ↔ SumL (fH T.has_) (r.Right.drop (q + 1)) (k - j) := hex (q + 1) (k - j) (by omega) (by omega) (by omega)
      rw [Bool.or_eq_true, Bool.and_eq_true, symB_iff, hx]
     generalize (el2 D (q : Int) (k : Int) || (symB T.has_ s j && el2 D ((q + 1 : Nat) : Int) ((k - j : Nat) : Int))) = v at hval
     have hel : ∀ q' k' : Nat, q' ≤ r.Right.length → k' ≤ n → el2 (st2 D (q : Int) (k : Int) v) (q' : Int) (k' : Int) = if (q' : Int) = q ∧ (k' : Int) = k then v else el2 D (q' : Int) (k' : Int) := fun q' k' h1 h2 =>
      hDD.el_st2 (by omega) (by omega) (by omega) (by omega) (by omega) (by omega)
     refine .some ⟨_, rfl, hDD.st2 (by omega) (by omega), fun q' k' h1 h2 h3 => ?_, fun k' h1 h2 => ?_, fun q' k' h1 h2 => ?_, fun j' h1 h2 h3 h4 => ?_⟩
     ·unfold Ex; rw [hel q' k' h2 h3, if_neg (by omega)]; exact hex q' k' h1 h2 h3
     ·unfold Ex; rw [hel q k' (by omega) h2, if_neg (by omega)]; exact hk0 k' h1 h2
     ·unfold Sd; rw [hel q' k' (by omega) h2]
      split
      ·rename_i e
       obtain rfl : q' = q := by omega
       obtain rfl : k' = k := by omega
       intro hv
       rcases hval.1 hv with h | ⟨h, h'⟩
       ·exact hsd _ _ h1 h2 h
       ·rw [hdr]; exact ⟨j, k' - j, by omega, h, h'⟩
      ·exact hsd q' k' h1 h2
     ·rw [hel q k (by omega) (by omega), if_pos ⟨rfl, rfl⟩]
      rcases Nat.lt_succ_iff_lt_or_eq.1 h1 with h | rfl
      ·exact hval.2 (.inl (hj0 j' h h2 h3 h4))
      ·exact hval.2 (.inr ⟨h3, h4⟩)
    ·rintro _ ⟨D, rfl, hDD, hex, hk0, hsd, hj0⟩
     refine .some ⟨D, rfl, hDD, hex, fun k' h1 h2 => ?_, hsd⟩
     rcases Nat.lt_succ_iff_lt_or_eq.1 h1 with h | rfl
     ·exact hk0 k' h h2
     ·refine ⟨hsd q k' (by omega) h2, fun h => ?_⟩
      rw [hdr] at h
      obtain ⟨a, b, rfl, h3, h4⟩ := h
      exact hj0 a (by rw [ran_length]; omega) (by omega) h3 (by rwa [show a + b - a = b by omega])
   ·rintro _ ⟨D, rfl, hDD, hex, hk0, hsd⟩
    rw [W_id]
    refine .some ⟨⟨D, q, rfl, by omega, hDD, fun q' k' h1 h2 h3 => ?_, fun q' k' h1 h2 => hsd q' k' (by omega) h2⟩, by simp only; omega⟩
    rcases Nat.lt_or_ge q' (q + 1) with h | h
    ·have : q' = q := by omega
     subst this
     exact hk0 k' (by rw [ran_length]; omega) h3
    ·exact hex q' k' h h2 h3
 ·simp only; omega
 ·rintro (s | _) h
  ·obtain ⟨D, e, h1, h2⟩ := h
   refine .some ⟨D, ?_, h1, h2⟩
   rw [e]
  ·exact h.elim
end
end Go.Proofs.Ytmeigkelacoibaa.Gr
