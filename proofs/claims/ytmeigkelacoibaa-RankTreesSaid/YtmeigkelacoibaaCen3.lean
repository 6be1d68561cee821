import Derived.Test.YtmeigkelacoibaaCen2
namespace Go.Pu
open Go
def All {α : Type} [Inhabited α] (M : List (List α)) (n m : Int) (v : α) : Prop := Dim M n m ∧ ∀ i k : Int, 0 ≤ i → i < n → 0 ≤ k → k < m → el2 M i k = v
theorem rows_gen {α : Type} [Inhabited α] {b1 : α → Int → Int → Int → List (List α) → Option (List (List α))} {b0 : Int → α → Int → Int → List (List α) → Option (List (List α))} {by_ : Nat} {z : α}
 (h1 : ∀ a2 x2 i3 x7 s7, b1 a2 x2 i3 x7 s7 = (Pu.ix s7 x2).bind fun x9 => (Pu.ix x9 x7).bind fun _ => some (Pu.st s7 x2 (Pu.st x9 x7 a2)))
 (h0 : ∀ a1 a2 i1 x2 s2, b0 a1 a2 i1 x2 s2 = (Pu.mk by_ a1 a1 z).bind fun x4 => (Pu.ix s2 x2).bind fun _ => (Pu.ix (Pu.st s2 x2 x4) x2).bind fun x6 => (Pu.ranO (x6.length : Int)).bind fun x8 => (Pu.forP (b1 a2 x2) 0 x8 (Pu.st s2 x2 x4)).bind fun y2 => some y2)
 {n m : Int} {v : α} (hb : by_ ≤ 8) (n0 : 0 ≤ n) (n1 : n ≤ 1000) (m0 : 0 ≤ m) (m1 : m ≤ 1000) :
 Ok (((Pu.mk 24 n n []).bind fun x1 => (Pu.ranO ((x1 : List (List α)).length : Int)).bind fun x3 => (Pu.forP (b0 m v) 0 x3 x1).bind fun y1 => some y1) : Option (List (List α))) fun M => All M n m v := by
 have hmk : (by_ : Int) * m ≤ 281474976710656 := by
  have : (by_ : Int) * m ≤ 8 * 1000 := Int.mul_le_mul (by omega) m1 m0 (by omega)
  omega
 rw [mk_eq (by omega) (by omega) (by omega), Option.bind_some, List.length_replicate, show ((n.toNat : Nat) : Int) = n by omega, ranO_eq (by omega), Option.bind_some]
 refine Ok.bind (forP_ok (fun i (M : List (List α)) => (M.length : Int) = n ∧ ∀ i' : Int, 0 ≤ i' → i' < i → ((el M i').length : Int) = m ∧ ∀ k : Int, 0 ≤ k → k < m → el (el M i') k = v) ⟨by simp; omega, fun i' h h' => by omega⟩ ?_ fun s h => h) ?_
 ·rintro i x M hx ⟨h2, h3⟩
  obtain ⟨rfl, hi⟩ := ran_at hx
  rw [h0, mk_eq (by omega) (by omega) (by omega), Option.bind_some, ix_el (by omega) (by omega), Option.bind_some, ix_el (by omega) (by simp; omega), Option.bind_some, el_same (by omega) (by omega), List.length_replicate, show ((m.toNat : Nat) : Int) = m by omega, ranO_eq (by omega), Option.bind_some]
  refine Ok.bind (forP_ok (fun j (M' : List (List α)) => (M'.length : Int) = n ∧ (∀ i' : Int, 0 ≤ i' → i' < i → el M' i' = el M i') ∧ ((el M' (i : Int)).length : Int) = m ∧ ∀ k : Int, 0 ≤ k → k < j → el (el M' (i : Int)) k = v)
   ⟨by simpa using h2, fun i' a b => by rw [el_ne (by omega) (by omega) a (by omega)], by rw [el_same (by omega) (by omega)]; simp; omega, fun k h h' => by omega⟩ ?_ fun s h => h) ?_
  ·rintro j x M' hx ⟨g1, g2, g3, g4⟩
   obtain ⟨rfl, hj⟩ := ran_at hx
   rw [h1, ix_el (by omega) (by omega), Option.bind_some, ix_el (by omega) (by omega), Option.bind_some]
   refine .some ⟨by simpa using g1, fun i' a b => by rw [el_ne (by omega) (by omega) a (by omega)]; exact g2 i' a b, by rw [el_same (by omega) (by omega)]; simpa using g3, fun k a b => ?_⟩
   rw [el_same (by omega) (by omega), el_st (by omega) (by omega) a]
   split
   ·rfl
   ·exact g4 k a (by omega)
  ·rintro M' ⟨g1, g2, g3, g4⟩
   refine .some ⟨g1, fun i' a b => ?_⟩
   rcases (by omega : i' < i ∨ i' = i) with q | rfl
   ·rw [g2 i' a q]; exact h3 i' a q
   ·exact ⟨g3, fun k c d => g4 k c (by rw [ran_length]; omega)⟩
 ·rintro M ⟨h2, h3⟩
  have h4 : ∀ i' : Int, 0 ≤ i' → i' < n → ((el M i').length : Int) = m ∧ ∀ k : Int, 0 ≤ k → k < m → el (el M i') k = v := fun i' a b => h3 i' a (by rw [ran_length]; omega)
  exact .some ⟨⟨h2, fun i' a b => (h4 i' a b).1⟩, fun i' k a b c d => (h4 i' a b).2 k c d⟩
end Go.Pu
namespace Go.Proofs.Ytmeigkelacoibaa.Gr
open Go Go.Ab Go.Pu
theorem rowsb_ok {n m : Int} {v : Bool} (n0 : 0 ≤ n) (n1 : n ≤ 1000) (m0 : 0 ≤ m) (m1 : m ≤ 1000) : Ok (P.B5 n m v) fun M => All M n m v :=
 rows_gen (b1 := P.B5.b1) (b0 := P.B5.b0) (by_ := 1) (z := false) (fun _ _ _ _ _ => rfl) (fun _ _ _ _ _ => rfl) (by omega) n0 n1 m0 m1
theorem rowsi_ok {n m : Int} {v : Int} (n0 : 0 ≤ n) (n1 : n ≤ 1000) (m0 : 0 ≤ m) (m1 : m ≤ 1000) : Ok (P.C7 n m v) fun M => All M n m v :=
 rows_gen (b1 := P.C7.b1) (b0 := P.C7.b0) (by_ := 8) (z := 0) (fun _ _ _ _ _ => rfl) (fun _ _ _ _ _ => rfl) (by omega) n0 n1 m0 m1
theorem el_app_len {α : Type} [Inhabited α] {xs : List α} {y : α} : el (xs ++ [y]) (xs.length : Int) = y := by
 unfold el; simp
theorem newTable_ok {g : Ty.B2} (hv : Valid g) {n : Nat} (hn : n ≤ 24) : Ok (P.D5 g n) fun T => TOk g n T ∧ All T.has_ g.Nons (n + 1) false ∧ All T.loop_ g.Nons (n + 1) false ∧ All T.known_ g.Nons (n + 1) (-1) ∧
 (∀ (i : Nat) (r : Ru), g.Rules[i]? = some r → All (el T.ends (i : Int)) (r.Right.length + 1 : Nat) (n + 1) false) ∧ (∀ (i : Nat) (r : Ru), g.Rules[i]? = some r → All (el T.ways (i : Int)) (r.Right.length + 1 : Nat) (n + 1) (-1)) := by
 have n1 := hv.n1; have n2 := hv.n2; have hl := hv.len
 unfold P.D5
 rw [W_id]
 refine (rowsb_ok (by omega) (by omega) (by omega) (by omega)).bind fun H h1 => ?_
 refine (rowsb_ok (by omega) (by omega) (by omega) (by omega)).bind fun L h2 => ?_
 refine (rowsi_ok (by omega) (by omega) (by omega) (by omega)).bind fun K h3 => ?_
 refine Ok.bind (forP_ok (fun i (s : List (List (List Bool)) × List (List (List Int))) => s.1.length = i ∧ s.2.length = i ∧ ∀ (j : Nat) (r : Ru), j < i → g.Rules[j]? = some r →
  All (el s.1 (j : Int)) (r.Right.length + 1 : Nat) (n + 1) false ∧ All (el s.2 (j : Int)) (r.Right.length + 1 : Nat) (n + 1) (-1)) ⟨rfl, rfl, fun j r h => by omega⟩ ?_ fun s h => h) ?_
 ·rintro i r s hr ⟨s1, s2, s3⟩
  have hi := (List.getElem?_eq_some_iff.1 hr).1
  have hrl := hv.rgt r (List.mem_of_getElem? hr)
  unfold P.D5.b0
  rw [W_id, W_id (n := (n : Int) + 1)]
  refine (rowsb_ok (by omega) (by omega) (by omega) (by omega)).bind fun X x1 => ?_
  rw [app_eq (by simp; omega), Option.bind_some]
  refine (rowsi_ok (by omega) (by omega) (by omega) (by omega)).bind fun Y y1 => ?_
  rw [app_eq (by simp; omega), Option.bind_some]
  refine .some ⟨by simp [s1], by simp [s2], fun j q hj hq => ?_⟩
  rcases Nat.lt_succ_iff_lt_or_eq.1 hj with h | rfl
  ·rw [el_app_left (by simp; omega), el_app_left (by simp; omega)]; exact s3 j q h hq
  ·rw [hr] at hq; cases hq
   have e1 : el (s.1 ++ [X]) (j : Int) = X := by rw [← s1]; exact el_app_len
   have e2 : el (s.2 ++ [Y]) (j : Int) = Y := by rw [← s2]; exact el_app_len
   rw [e1, e2, show ((r.Right.length + 1 : Nat) : Int) = (r.Right.length : Int) + 1 by omega]
   exact ⟨x1, y1⟩
 ·rintro s ⟨s1, s2, s3⟩
  have h : ∀ (j : Nat) (r : Ru), g.Rules[j]? = some r → All (el s.1 (j : Int)) (r.Right.length + 1 : Nat) (n + 1) false ∧ All (el s.2 (j : Int)) (r.Right.length + 1 : Nat) (n + 1) (-1) := fun j r hr => s3 j r (List.getElem?_eq_some_iff.1 hr).1 hr
  exact .some ⟨⟨rfl, rfl, h1.1, h2.1, h3.1, s1, fun j r hr => (h j r hr).1.1, s2, fun j r hr => (h j r hr).2.1⟩, h1, h2, h3, fun j r hr => (h j r hr).1, fun j r hr => (h j r hr).2⟩
def tp {β : Type} (T : Tb) (x : β) : Int × Int × Int × (List Ty.A6) × Int × (List (List Bool)) × (List (List Bool)) × (List (List Int)) × (List (List (List Bool))) × (List (List (List Int))) × β :=
 (T.g.Terms, T.g.Nons, T.g.Start, T.g.Rules, T.n, T.has_, T.loop_, T.known_, T.ends, T.ways, x)
theorem fH_mono {M M' : List (List Bool)} {nons : Int} {n : Nat} (h : ∀ a k : Int, 0 ≤ a → a < nons → 0 ≤ k → k ≤ n → el2 M a k = true → el2 M' a k = true) {l : List Sy} (hl : ∀ s ∈ l, s.Term = false → 0 ≤ s.N ∧ s.N < nons) {k : Nat} (hk : k ≤ n) (q : SumL (fH M) l k) : SumL (fH M') l k :=
 SumL.mono (fun s hs i hi q => by
  rcases q with q | ⟨q1, q2⟩
  ·exact .inl q
  ·exact .inr ⟨q1, h _ _ (hl s hs q1).1 (hl s hs q1).2 (by omega) (by omega) q2⟩) q
def ESd (g : Ty.B2) (n : Nat) (T : Tb) : Prop := ∀ (i : Nat) (r : Ru), g.Rules[i]? = some r → ∀ p k : Nat, p ≤ r.Right.length → k ≤ n → Sd T.has_ r (el T.ends (i : Int)) p k
structure FR (g : Ty.B2) (n : Nat) (T0 : Tb) (done : Nat → Prop) (T : Tb) (b : Bool) : Prop where
 ok : TOk g n T
 kn : T.known_ = T0.known_ ∧ T.loop_ = T0.loop_ ∧ T.ways = T0.ways
 sd : ESd g n T
 snd : Snd g.Rules T.has_ g.Nons n
 w : wM T.has_ + (if b then 1 else 0) ≤ wM T0.has_
 no : b = false → T.has_ = T0.has_ ∧ ∀ (i : Nat) (r : Ru), done i → g.Rules[i]? = some r → Cls T0.has_ n r ∧ ∀ p k : Nat, p ≤ r.Right.length → k ≤ n → Ex T0.has_ r (el T.ends (i : Int)) p k
theorem findRound_ok {g : Ty.B2} (hv : Valid g) {n : Nat} (hn : n ≤ 24) {T0 : Tb} (h0 : TOk g n T0) (hsd : ESd g n T0) (hsn : Snd g.Rules T0.has_ g.Nons n) {φ : Nat} (hφ : 10 ≤ φ) :
 Ok (Pu.forP (P.B4.b1 φ) 0 g.Rules (tp T0 false)) fun s => ∃ T b, s = tp T b ∧ FR g n T0 (fun i => i < g.Rules.length) T b := by
 refine forP_ok (fun m s => ∃ T b, s = tp T b ∧ FR g n T0 (fun i => i < m) T b) ⟨T0, false, rfl, h0, ⟨rfl, rfl, rfl⟩, hsd, hsn, by simp, fun _ => ⟨rfl, fun i r h => by omega⟩⟩ ?_ fun s h => h
 rintro m r _ hr ⟨T, b, rfl, hI⟩
 have hm := List.mem_of_getElem? hr
 have hmi := (List.getElem?_eq_some_iff.1 hr).1
 obtain ⟨l1, l2⟩ := hv.lft r hm
 have hsy : ∀ x ∈ r.Right, x.Term = false → 0 ≤ x.N ∧ x.N < g.Nons := fun x hx ht => ⟨(hv.sym r hm x hx).1, (hv.sym r hm x hx).2.2 ht⟩
 have hok := hI.ok
 unfold P.B4.b1
 have hend := end_ok (T := T) hok.has (by omega) hok.nE (hv.rgt r hm) hsy (i := m) (by rw [hok.gE]; exact hr) (by rw [hok.endsL]; exact hmi) (hok.ends m r hr) (hI.sd m r hr) (φ := φ) (by omega)
 refine Ok.bind (o := P.B7 φ (Ty.C3.mk (Ty.B2.mk (tp T b).1 (tp T b).2.1 (tp T b).2.2.1 (tp T b).2.2.2.1) (tp T b).2.2.2.2.1 (tp T b).2.2.2.2.2.1 (tp T b).2.2.2.2.2.2.1 (tp T b).2.2.2.2.2.2.2.1 (tp T b).2.2.2.2.2.2.2.2.1 (tp T b).2.2.2.2.2.2.2.2.2.1) (m : Int)) hend ?_
 rintro _ ⟨D, rfl, hD, hex⟩
 simp only
 have hel : el (Pu.st T.ends (m : Int) D) (m : Int) = D := el_same (by omega) (by have := hok.endsL; omega)
 rw [ix_el (by omega) (by have := hok.endsL; simp; omega), hel, Option.bind_some, hD.ix (by omega) (by omega), Option.bind_some]
 have hrow : ((el D 0).length : Int) = (n : Int) + 1 := hD.2 0 (by omega) (by omega)
 refine Ok.bind (forP_ok (fun (k : Nat) (t : List (List Bool) × Bool) => Dim t.1 g.Nons (n + 1) ∧ Snd g.Rules t.1 g.Nons n ∧ wM t.1 + (if t.2 then 1 else 0) ≤ wM T0.has_ ∧ (b = true → t.2 = true) ∧
  (∀ a k : Int, 0 ≤ a → a < g.Nons → 0 ≤ k → k ≤ n → el2 T.has_ a k = true → el2 t.1 a k = true) ∧
  (t.2 = false → t.1 = T0.has_ ∧ ∀ j : Nat, j < k → j ≤ n → SumL (fH T.has_) r.Right j → el2 T0.has_ r.Left (j : Int) = true)) ⟨hok.has, hI.snd, hI.w, id, fun a k _ _ _ _ h => h, fun e => ⟨(hI.no e).1, fun j h => by omega⟩⟩ ?_ fun s h => h) ?_
 ·rintro k ok ⟨M, ag⟩ hk ⟨d1, d2, d3, d4, d5, d6⟩
  have hk1 := (List.getElem?_eq_some_iff.1 hk).1
  have hok' : el2 D 0 (k : Int) = ok := el_nat hk
  have hexk := hex 0 k (by omega) (by omega)
  unfold Ex at hexk
  rw [show ((0 : Nat) : Int) = 0 from rfl, hok', List.drop_zero] at hexk
  have e1 := d1.ix l1 l2
  have e2 := d1.ix2 (k := (k : Int)) l1 l2 (by omega) (by omega)
  unfold P.B4.b2
  simp only at e1 e2
  have e3 : ((if ok = true then (Pu.ix M r.Left).bind fun x11 => (Pu.ix x11 (k : Int)).bind fun x12 => some (!x12) else some false) : Option Bool) = some (ok && !el2 M r.Left k) := by
   cases ok with
   | true => simp only [if_true]; rw [e1, Option.bind_some, e2]; rfl
   | false => rfl
  simp only [e3, Option.bind_some]
  cases hb : (ok && !el2 M r.Left k) with
  | true =>
    simp only [if_true, e1, e2, Option.bind_some]
    simp only [Bool.and_eq_true, Bool.not_eq_true'] at hb
    obtain ⟨b1, b2⟩ := hb
    have hw : wM (st2 M r.Left (k : Int) true) + 1 = wM M := wM_st d1 l1 l2 (by omega) (by omega) b2
    have hst : Pu.st M r.Left (Pu.st (el M r.Left) (k : Int) true) = st2 M r.Left k true := rfl
    rw [hst]
    have hel2 : ∀ a j : Int, 0 ≤ a → 0 ≤ j → el2 (st2 M r.Left (k : Int) true) a j = if a = r.Left ∧ j = k then true else el2 M a j := fun a j h h' => d1.el_st2 l1 l2 (by omega) (by omega) h h'
    refine .some ⟨d1.st2 l1 l2, fun a j a0 a1 hj q => ?_, ?_, fun _ => rfl, fun a j a0 a1 j0 j1 q => ?_, fun e => by cases e⟩
    ·rw [hel2 a j a0 (by omega)] at q
     split at q
     ·rename_i e
      have e' : j = k := by omega
      obtain ⟨rfl, -⟩ := e
      subst e'
      exact Le.non_iff.2 ⟨r, hm, rfl, snd_le hI.snd hsy hj (hexk.1 b1)⟩
     ·exact d2 a j a0 a1 hj q
    ·have : wM M + (if ag then 1 else 0) ≤ wM T0.has_ := d3
     show wM (st2 M r.Left (k : Int) true) + 1 ≤ wM T0.has_
     split at this <;> omega
    ·rw [hel2 a j a0 j0]
     split
     ·rfl
     ·exact d5 a j a0 a1 j0 j1 q
  | false =>
    refine .some ⟨d1, d2, d3, d4, d5, fun e => ⟨(d6 e).1, fun j hj hj2 q => ?_⟩⟩
    rcases Nat.lt_succ_iff_lt_or_eq.1 hj with h | rfl
    ·exact (d6 e).2 j h hj2 q
    ·have := hexk.2 q
     subst this
     simp only [Bool.true_and, Bool.not_eq_false'] at hb
     have hM : M = T0.has_ := (d6 e).1
     rw [← hM]; exact hb
 ·rintro ⟨M, ag⟩ ⟨d1, d2, d3, d4, d5, d6⟩
  have hends : ∀ j : Nat, j ≠ m → el (Pu.st T.ends (m : Int) D) (j : Int) = el T.ends (j : Int) := fun j hj => el_ne (by omega) (by have := hok.endsL; omega) (by omega) (by omega)
  refine .some ⟨⟨T.g, T.n, M, T.loop_, T.known_, Pu.st T.ends (m : Int) D, T.ways⟩, ag, rfl, ⟨hok.gE, hok.nE, d1, hok.loop, hok.known, by simpa using hok.endsL, fun j q hq => ?_, hok.waysL, hok.ways⟩, hI.kn, fun j q hq p k hp hk => ?_, d2, d3, fun e => ⟨(d6 e).1, fun j q hj hq => ?_⟩⟩
  ·by_cases e : j = m
   ·subst e; rw [hr] at hq; cases hq
    show Dim (el (Pu.st T.ends (j : Int) D) (j : Int)) _ _
    rw [hel]; exact hD
   ·show Dim (el (Pu.st T.ends (m : Int) D) (j : Int)) _ _
    rw [hends j e]; exact hok.ends j q hq
  ·have hsq : ∀ s ∈ q.Right.drop p, s.Term = false → 0 ≤ s.N ∧ s.N < g.Nons := fun s hs ht => ⟨(hv.sym q (List.mem_of_getElem? hq) s (List.mem_of_mem_drop hs)).1, (hv.sym q (List.mem_of_getElem? hq) s (List.mem_of_mem_drop hs)).2.2 ht⟩
   intro h
   by_cases e : j = m
   ·subst e; rw [hr] at hq; cases hq
    simp only [hel] at h
    exact fH_mono d5 hsq hk ((hex p k hp hk).1 h)
   ·simp only [hends j e] at h
    exact fH_mono d5 hsq hk (hI.sd j q hq p k hp hk h)
  ·have hb : b = false := by
    cases hbb : b with
    | false => rfl
    | true => have := d4 hbb; simp only at this e; rw [this] at e; cases e
   have hT : T.has_ = T0.has_ := (hI.no hb).1
   by_cases e' : j = m
   ·subst e'; rw [hr] at hq; cases hq
    refine ⟨fun k hk hsum => (d6 e).2 k (by omega) hk (by rw [hT]; exact hsum), fun p k hp hk => ?_⟩
    have := hex p k hp hk
    show Ex T0.has_ r (el (Pu.st T.ends (j : Int) D) (j : Int)) p k
    rw [hel, ← hT]; exact this
   ·have := (hI.no hb).2 j q (by omega) hq
    refine ⟨this.1, fun p k hp hk => ?_⟩
    show Ex T0.has_ q (el (Pu.st T.ends (m : Int) D) (j : Int)) p k
    rw [hends j e']; exact this.2 p k hp hk
structure Fnd (g : Ty.B2) (n : Nat) (T : Tb) : Prop where
 ok : TOk g n T
 has : ∀ (a : Int) (k : Nat), 0 ≤ a → a < g.Nons → k ≤ n → (el2 T.has_ a (k : Int) = true ↔ Le g.Rules [⟨false, a⟩] k)
 ends : ∀ (i : Nat) (r : Ru), g.Rules[i]? = some r → ∀ p k : Nat, p ≤ r.Right.length → k ≤ n → (el2 (el T.ends (i : Int)) (p : Int) (k : Int) = true ↔ Le g.Rules (r.Right.drop p) k)
theorem find_ok {g : Ty.B2} (hv : Valid g) {n : Nat} (hn : n ≤ 24) {T0 : Tb} (h0 : TOk g n T0) (hh : All T0.has_ g.Nons (n + 1) false) (he : ∀ (i : Nat) (r : Ru), g.Rules[i]? = some r → All (el T0.ends (i : Int)) (r.Right.length + 1 : Nat) (n + 1) false) {φ : Nat} (hφ : 10000 ≤ φ) :
 Ok (P.B4 φ T0) fun T => Fnd g n T ∧ T.loop_ = T0.loop_ ∧ T.known_ = T0.known_ ∧ T.ways = T0.ways := by
 have n1 := hv.n1; have n2 := hv.n2
 unfold P.B4
 have hw0 : wM T0.has_ ≤ 10 * 25 := by
  have h1 := wt_le (wt wf) (n + 1) T0.has_ fun r hr => by
   obtain ⟨j, hj, rfl⟩ := List.mem_iff_getElem.1 hr
   have hlen := h0.has.2 (j : Int) (by omega) (by have := h0.has.1; omega)
   rw [el_nat (List.getElem?_eq_getElem hj)] at hlen
   have := wt_le wf 1 T0.has_[j] fun x _ => by unfold wf; split <;> omega
   omega
  have h2 := h0.has.1
  have h3 : T0.has_.length * (n + 1) ≤ 10 * 25 := Nat.mul_le_mul (by omega) (by omega)
  have : wM T0.has_ ≤ T0.has_.length * (n + 1) := h1
  omega
 refine Ok.bind (whl_ok (ρ := Unit) (Q := fun | .out s => ∃ T, s = tp T false ∧ Fnd g n T ∧ T.loop_ = T0.loop_ ∧ T.known_ = T0.known_ ∧ T.ways = T0.ways | .rt _ => False)
  (fun s => ∃ T b, s = tp T b ∧ TOk g n T ∧ (T.loop_ = T0.loop_ ∧ T.known_ = T0.known_ ∧ T.ways = T0.ways) ∧ ESd g n T ∧ Snd g.Rules T.has_ g.Nons n ∧ (b = false → ∀ (i : Nat) (r : Ru), g.Rules[i]? = some r → Cls T.has_ n r ∧ ∀ p k : Nat, p ≤ r.Right.length → k ≤ n → Ex T.has_ r (el T.ends (i : Int)) p k))
  (fun s => wM s.2.2.2.2.2.1 + (if s.2.2.2.2.2.2.2.2.2.2 then 1 else 0)) ⟨T0, true, rfl, h0, ⟨rfl, rfl, rfl⟩, fun i r hr p k hp hk h => ?_, fun a k a0 a1 hk h => ?_, fun e => by cases e⟩ ?_ ?_) ?_
 ·rw [(he i r hr).2 _ _ (by omega) (by omega) (by omega) (by omega)] at h; cases h
 ·rw [hh.2 _ _ a0 a1 (by omega) (by omega)] at h; cases h
 ·rintro _ ⟨T, b, rfl, t1, t2, t3, t4, t5⟩
  unfold P.B4.b0
  cases b with
  | false =>
    refine .some ⟨T, rfl, ⟨t1, fun a k a0 a1 hk => ⟨fun h => t4 a k a0 a1 hk h, fun h => ?_⟩, fun i r hr p k hp hk => ?_⟩, t2⟩
    ·have hcl : ∀ r ∈ g.Rules, Cls T.has_ n r := fun r hr => by
      obtain ⟨i, hi, e⟩ := List.mem_iff_getElem.1 hr
      exact (t5 rfl i r (by rw [List.getElem?_eq_getElem hi, e])).1
     obtain ⟨i, j, rfl, q1, q2⟩ := cls_le hcl h hk
     simp only [SumL] at q2; subst q2
     rcases q1 with ⟨q1, -⟩ | ⟨-, q1⟩
     ·cases q1
     ·exact q1
    ·have hx : el2 (el T.ends (i : Int)) (p : Int) (k : Int) = true ↔ SumL (fH T.has_) (r.Right.drop p) k := (t5 rfl i r hr).2 p k hp hk
     rw [hx]
     have hcl : ∀ r ∈ g.Rules, Cls T.has_ n r := fun r hr => by
      obtain ⟨i, hi, e⟩ := List.mem_iff_getElem.1 hr
      exact (t5 rfl i r (by rw [List.getElem?_eq_getElem hi, e])).1
     exact ⟨fun h => snd_le t4 (fun s hs ht => ⟨(hv.sym r (List.mem_of_getElem? hr) s (List.mem_of_mem_drop hs)).1, (hv.sym r (List.mem_of_getElem? hr) s (List.mem_of_mem_drop hs)).2.2 ht⟩) hk h, fun h => cls_le hcl h hk⟩
  | true =>
    have hR := findRound_ok hv hn t1 t3 t4 (φ := φ) (by omega)
    rw [if_pos (show (tp T true).2.2.2.2.2.2.2.2.2.2 = true from rfl)]
    rw [show g.Rules = T.g.Rules by rw [t1.gE]] at hR
    refine Ok.bind hR ?_
    rintro _ ⟨T', b', rfl, f⟩
    refine .some ⟨⟨T', b', rfl, f.ok, ⟨f.kn.2.1.trans t2.1, f.kn.1.trans t2.2.1, f.kn.2.2.trans t2.2.2⟩, f.sd, f.snd, fun e i r hr => ?_⟩, ?_⟩
    ·obtain ⟨q1, q2⟩ := f.no e
     have := q2 i r (by rw [t1.gE]; exact (List.getElem?_eq_some_iff.1 hr).1) hr
     rw [q1]; exact this
    ·have : wM T'.has_ + (if b' = true then 1 else 0) ≤ wM T.has_ := f.w
     show wM T'.has_ + (if b' = true then 1 else 0) < wM T.has_ + 1
     omega
 ·show wM T0.has_ + 1 < φ
  omega
 ·rintro (s | _) h
  ·obtain ⟨T, rfl, h1, h2⟩ := h
   exact .some ⟨h1, h2⟩
  ·exact h.elim
end Go.Proofs.Ytmeigkelacoibaa.Gr
