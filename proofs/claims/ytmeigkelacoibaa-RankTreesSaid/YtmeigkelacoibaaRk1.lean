import Derived.Test.YtmeigkelacoibaaCen1
namespace Go.Proofs.Ytmeigkelacoibaa.Gr
open Go Go.Ab Go.Pu
def sI (N : List (List Int)) (s : Sy) (j : Nat) : Int := if s.Term then (if j = 1 then 1 else 0) else el2 N s.N (j : Int)
def wI (N : List (List Int)) : List Sy → Nat → Int
 | [], k => if k = 0 then 1 else 0
 | s :: l, k => ((List.range (k + 1)).map fun j => sI N s j * wI N l (k - j)).sum
def Fn (N : List (List Int)) : List Sy → Nat → Prop
 | [], _ => True
 | s :: l, k => (∀ j, j ≤ k → sI N s j ≠ 0 → Fn N l (k - j) ∧ 0 ≤ sI N s j * wI N l (k - j)) ∧ wI N (s :: l) k < MC
section
variable {R : List Ru} {N : List (List Int)}
theorem isum_nonneg {α : Type} {l : List α} {f : α → Int} (h : ∀ x ∈ l, 0 ≤ f x) : 0 ≤ (l.map f).sum := by
 induction l with
 | nil => simp
 | cons x l ih =>
   simp only [List.map_cons, List.sum_cons]
   have := h x (by simp); have := ih fun y hy => h y (by simp [hy]); omega
theorem isum_le {α : Type} {l : List α} {f : α → Int} (h : ∀ x ∈ l, 0 ≤ f x) {x : α} (hx : x ∈ l) : f x ≤ (l.map f).sum := by
 induction l with
 | nil => cases hx
 | cons y l ih =>
   simp only [List.map_cons, List.sum_cons]
   have h0 := h y (by simp)
   have h1 := isum_nonneg (l := l) (f := f) fun z hz => h z (by simp [hz])
   rcases List.mem_cons.1 hx with rfl | hx
   ·omega
   ·have := ih (fun z hz => h z (by simp [hz])) hx; omega
theorem isum_congr {α : Type} {l : List α} {f g : α → Int} (h : ∀ x ∈ l, f x = g x) : (l.map f).sum = (l.map g).sum := by
 rw [List.map_congr_left h]
theorem Fn.part {s : Sy} {l : List Sy} {k : Nat} (h : Fn N (s :: l) k) {j : Nat} (hj : j ≤ k) : 0 ≤ sI N s j * wI N l (k - j) := by
 by_cases e : sI N s j = 0
 ·rw [e]; simp
 ·exact (h.1 j hj e).2
theorem Fn.nonneg : ∀ {l : List Sy} {k : Nat}, Fn N l k → 0 ≤ wI N l k
 | [], k, _ => by unfold wI; split <;> omega
 | s :: l, k, h => by
   unfold wI
   exact isum_nonneg fun j hj => h.part (by have := List.mem_range.1 hj; omega)
theorem Fn.part_le {s : Sy} {l : List Sy} {k : Nat} (h : Fn N (s :: l) k) {j : Nat} (hj : j ≤ k) : sI N s j * wI N l (k - j) ≤ wI N (s :: l) k := by
 rw [wI]
 exact isum_le (f := fun j => sI N s j * wI N l (k - j)) (fun i hi => h.part (by have := List.mem_range.1 hi; omega)) (by simp; omega)
theorem Fn.lt {l : List Sy} {k : Nat} (h : Fn N l k) : wI N l k < MC := by
 cases l with
 | nil => unfold wI; split <;> decide
 | cons s l => exact h.2
theorem Fn.sym {s : Sy} {l : List Sy} {k : Nat} (h : Fn N (s :: l) k) {j : Nat} (hj : j ≤ k) (h0 : sI N s j ≠ 0) (hw : wI N l (k - j) ≠ 0) : 0 < sI N s j ∧ sI N s j < MC := by
 obtain ⟨h1, h2⟩ := h.1 j hj h0
 have h3 := h1.nonneg
 have h4 : 0 < wI N l (k - j) := by omega
 have h5 : 0 ≤ sI N s j := Int.nonneg_of_mul_nonneg_left h2 h4
 have h6 := h.part_le hj
 have h7 : sI N s j ≤ sI N s j * wI N l (k - j) := by
  have := Int.mul_le_mul_of_nonneg_left (show (1 : Int) ≤ wI N l (k - j) by omega) h5
  rwa [Int.mul_one] at this
 exact ⟨by omega, by have := h.2; omega⟩
theorem sum_mulr {α : Type} (l : List α) (f : α → Nat) (c : Nat) : (l.map f).sum * c = (l.map fun x => f x * c).sum := by
 induction l with
 | nil => simp
 | cons x l ih => simp only [List.map_cons, List.sum_cons, Nat.add_mul, ih]
theorem nW_app {f : Int → Nat → Nat} (l2 : List Sy) (k : Nat) : ∀ (l1 : List Sy) (i : Nat), nW f l1 i * nW f l2 k ≤ nW f (l1 ++ l2) (i + k)
 | [], i => by
   unfold nW
   split
   ·subst_vars; simp
   ·simp
 | s :: l, i => by
   rw [nW, sum_mulr]
   show _ ≤ nW f (s :: (l ++ l2)) (i + k)
   rw [nW]
   refine Nat.le_trans (sum_le (g := fun j => nS f s j * nW f (l ++ l2) (i + k - j)) fun j hj => ?_) (sum_sub (List.range_sublist.2 (by omega)) _)
   have hj' := List.mem_range.1 hj
   rw [Nat.mul_assoc]
   refine Nat.mul_le_mul_left _ ?_
   have := nW_app (f := f) l2 k l (i - j)
   rwa [show i - j + k = i + k - j by omega] at this
theorem nW_ge {f : Int → Nat → Nat} {s : Sy} {l : List Sy} {k j : Nat} (hj : j ≤ k) : nS f s j * nW f l (k - j) ≤ nW f (s :: l) k := by
 rw [nW]
 have : [j].Sublist (List.range (k + 1)) := List.singleton_sublist.2 (by simp; omega)
 have := sum_sub this fun j => nS f s j * nW f l (k - j)
 simpa using this
theorem le_nW {l : List Sy} {k : Nat} (q : Le R l k) : ∃ H, ∀ h, H ≤ h → 0 < nW (nT R h) l k := by
 obtain ⟨H, hH⟩ := le_lenH q
 exact ⟨H, fun h hh => nW_pos.2 (lenH_nT (lenH_mono hH hh))⟩
theorem nWle {l : List Sy} : ∀ {k : Nat} {h : Nat}, 0 < nW (nT R h) l k → Le R l k := by
 induction l with
 | nil => intro k h q; unfold nW at q; split at q <;> first | exact Le.nil_iff.2 ‹_› | omega
 | cons s l ih =>
   intro k h q
   obtain ⟨i, j, e, h1, h2⟩ := nW_pos.1 q
   refine Le.cons_iff.2 ⟨i, j, e, ?_, ih (nW_pos.2 h2)⟩
   unfold nS at h1
   obtain ⟨t, m⟩ := s
   cases t with
   | true => simp only [if_true] at h1; split at h1 <;> first | (subst_vars; exact Le.term_iff.2 rfl) | omega
   | false => exact nT_le h (by simpa using h1)
theorem Lim.eq_of_lt {F : Nat → Nat} {v : Nat} (h : Lim F v) (hv : v < MC) : ∃ H, ∀ h, H ≤ h → F h = v := by
 obtain ⟨H, h⟩ := h
 exact ⟨H, fun k hk => by have := h k hk; omega⟩
structure Num (R : List Ru) (a : Int) (k : Nat) (v : Nat) : Prop where
 lim : Lim (fun h => nT R h a k) v
 lt : v < MC
 nl : ¬ Lp R a k
theorem num_of {a : Int} {k : Nat} {v : Int} (h : Cen R a k v) (h1 : v ≠ -1) (h2 : v < MC) : ∃ c : Nat, v = c ∧ Num R a k c := by
 rcases h with ⟨q1, q2⟩ | ⟨q1, q2⟩ | ⟨q1, q2, c, q3, q4⟩
 ·exact ⟨0, by simp [q2], lim_zero q1, by decide, fun q => q1 q.le⟩
 ·exact absurd q2 h1
 ·exact ⟨c, q4, q3, by omega, q2⟩
variable {n : Nat} {nons : Int} (hC : ∀ (a : Int) (k : Nat), 0 ≤ a → a < nons → k ≤ n → Cen R a k (el2 N a (k : Int))) (hR : ∀ r ∈ R, ∀ s ∈ r.Right, s.Term = false → 0 ≤ s.N ∧ s.N < nons)
include hC hR
theorem ctx_ok {a : Int} {K v : Nat} (hn : Num R a K v) (hK : K ≤ n) {r : Ru} (hr : r ∈ R) (hra : r.Left = a) : ∀ (l l1 : List Sy) (i k : Nat), r.Right = l1 ++ l → i + k = K → Le R l1 i →
 Fn N l k ∧ ∃ H, ∀ h, H ≤ h → wI N l k = (nW (nT R h) l k : Int) := by
 intro l
 induction l with
 | nil =>
   intro l1 i k _ _ _
   refine ⟨trivial, 0, fun h _ => ?_⟩
   simp only [wI, nW]; split <;> rfl
 | cons s l ih =>
   intro l1 i k e hik h1
   have hsm : s ∈ r.Right := by rw [e]; simp
   obtain ⟨H0, hv0⟩ := hn.lim.eq_of_lt hn.lt
   obtain ⟨H1, hp1⟩ := le_nW h1
   have htot : ∀ h, H0 ≤ h → H1 ≤ h → nW (nT R h) (s :: l) k ≤ v := fun h hh0 hh1 => by
    have q1 : nT R (h + 1) a K = v := hv0 (h + 1) (by omega)
    have q2 : nW (nT R h) r.Right K ≤ nT R (h + 1) a K := by
     show _ ≤ nA R (nT R h) a K
     unfold nA
     have := sum_sub (f := fun r => if r.Left = a then nW (nT R h) r.Right K else 0) (List.singleton_sublist.2 hr)
     simpa [hra] using this
    have q3 := nW_app (f := nT R h) (s :: l) k l1 i
    rw [← e, hik] at q3
    have q4 := hp1 h hh1
    have q5 : nW (nT R h) (s :: l) k ≤ nW (nT R h) l1 i * nW (nT R h) (s :: l) k := Nat.le_mul_of_pos_left _ q4
    omega
   have hpart : ∀ j, j ≤ k → (sI N s j ≠ 0 → Fn N l (k - j) ∧ 0 ≤ sI N s j * wI N l (k - j)) ∧ ∃ H, ∀ h, H ≤ h → sI N s j * wI N l (k - j) = ((nS (nT R h) s j * nW (nT R h) l (k - j) : Nat) : Int) := by
    intro j hj
    have hs0 : sI N s j ≠ 0 ↔ Le R [s] j := by
     obtain ⟨t, m⟩ := s
     cases t with
     | true =>
       simp only [sI, if_true]
       rw [Le.term_iff]
       split <;> simp_all
     | false =>
       obtain ⟨b0, b1⟩ := hR r hr _ hsm rfl
       simp only [sI]
       exact (hC m j b0 b1 (by omega)).zero
    by_cases hz : sI N s j = 0
    ·refine ⟨fun q => absurd hz q, 0, fun h _ => ?_⟩
     have hnl : ¬ Le R [s] j := fun q => hs0.2 q hz
     have : nS (nT R h) s j = 0 := by
      rcases Nat.eq_zero_or_pos (nS (nT R h) s j) with q | q
      ·exact q
      ·refine absurd (nWle (R := R) (l := [s]) (k := j) (h := h) (nW_pos.2 ⟨j, 0, rfl, q, rfl⟩)) hnl
     rw [hz, this]; simp
    ·have hle := hs0.1 hz
     obtain ⟨f1, H2, f2⟩ := ih (l1 ++ [s]) (i + j) (k - j) (by rw [e]; simp) (by omega) (Le.app_iff.2 ⟨i, j, rfl, h1, hle⟩)
     have hw := f1.nonneg
     by_cases hw0 : wI N l (k - j) = 0
     ·refine ⟨fun _ => ⟨f1, by rw [hw0]; simp⟩, H2, fun h hh => ?_⟩
      have := f2 h hh
      rw [hw0] at this ⊢
      have : nW (nT R h) l (k - j) = 0 := by omega
      rw [this]; simp
     ·have hlel : Le R l (k - j) := by
       have := f2 H2 (Nat.le_refl _)
       exact nWle (R := R) (h := H2) (by omega)
      have hsym : ∃ H, ∀ h, H ≤ h → sI N s j = (nS (nT R h) s j : Int) := by
       obtain ⟨t, m⟩ := s
       cases t with
       | true => exact ⟨0, fun h _ => by simp only [sI, nS, if_true]; split <;> rfl⟩
       | false =>
         obtain ⟨b0, b1⟩ := hR r hr _ hsm rfl
         have hcen := hC m j b0 b1 (by omega)
         rcases hcen with ⟨q1, q2⟩ | ⟨q1, q2⟩ | ⟨q1, q2, c, q3, q4⟩
         ·exact absurd hle q1
         ·refine absurd ?_ hn.nl
          have := Lp.one hr e h1 q1 hle hlel
          rw [hra, show i + j + (k - j) = K by omega] at this
          exact this
         ·obtain ⟨H3, q5⟩ := q3
          have hlt : c < MC := by
           let h := max (max H0 H1) (max H2 H3)
           have g1 := htot h (by omega) (by omega)
           have g2 := nW_ge (f := nT R h) (s := ⟨false, m⟩) (l := l) hj
           have g3 : 0 < nW (nT R h) l (k - j) := by have := f2 h (by omega); omega
           have g4 : nS (nT R h) ⟨false, m⟩ j ≤ nS (nT R h) ⟨false, m⟩ j * nW (nT R h) l (k - j) := Nat.le_mul_of_pos_right _ g3
           have g5 : nS (nT R h) ⟨false, m⟩ j = nT R h m j := rfl
           have g6 : min MC (nT R h m j) = c := q5 h (by omega)
           have g7 := hn.lt
           omega
          refine ⟨H3, fun h hh => ?_⟩
          have g6 : min MC (nT R h m j) = c := q5 h hh
          show el2 N m (j : Int) = (nT R h m j : Int)
          rw [q4]; congr 1; omega
      obtain ⟨H3, hsym⟩ := hsym
      refine ⟨fun _ => ⟨f1, ?_⟩, max H2 H3, fun h hh => ?_⟩
      ·have := hsym H3 (Nat.le_refl _)
       exact Int.mul_nonneg (by omega) hw
      ·rw [hsym h (by omega), f2 h (by omega)]; simp
   have hall : ∀ m, m ≤ k + 1 → ∃ H, ∀ h, H ≤ h → ∀ j, j < m → sI N s j * wI N l (k - j) = ((nS (nT R h) s j * nW (nT R h) l (k - j) : Nat) : Int) := by
    intro m
    induction m with
    | zero => intro _; exact ⟨0, fun h _ j hj => by omega⟩
    | succ m ihm =>
      intro hm
      obtain ⟨Ha, ha⟩ := ihm (by omega)
      obtain ⟨Hb, hb⟩ := (hpart m (by omega)).2
      refine ⟨max Ha Hb, fun h hh j hj => ?_⟩
      by_cases ej : j = m
      ·subst ej; exact hb h (by omega)
      ·exact ha h (by omega) j (by omega)
   obtain ⟨H, hH⟩ := hall (k + 1) (Nat.le_refl _)
   have heq : ∀ h, H ≤ h → wI N (s :: l) k = (nW (nT R h) (s :: l) k : Int) := fun h hh => by
    rw [wI, nW, isum_congr (g := fun j => ((nS (nT R h) s j * nW (nT R h) l (k - j) : Nat) : Int)) fun j hj => hH h hh j (List.mem_range.1 hj)]
    generalize List.range (k + 1) = L
    induction L with
    | nil => rfl
    | cons x L ih => simp only [List.map_cons, List.sum_cons, ih]; simp
   refine ⟨⟨fun j hj hz => (hpart j hj).1 hz, ?_⟩, H, heq⟩
   have g1 := heq (max H (max H0 H1)) (by omega)
   have g2 := htot (max H (max H0 H1)) (by omega) (by omega)
   have g3 := hn.lt
   omega
theorem rules_ok {a : Int} {K v : Nat} (hn : Num R a K v) (hK : K ≤ n) : (∀ r ∈ R, r.Left = a → Fn N r.Right K) ∧ (R.map fun r => if r.Left = a then wI N r.Right K else 0).sum = v := by
 have h1 : ∀ r ∈ R, r.Left = a → Fn N r.Right K ∧ ∃ H, ∀ h, H ≤ h → wI N r.Right K = (nW (nT R h) r.Right K : Int) := fun r hr hra =>
  ctx_ok hC hR hn hK hr hra r.Right [] 0 K rfl (by omega) (Le.nil_iff.2 rfl)
 refine ⟨fun r hr hra => (h1 r hr hra).1, ?_⟩
 obtain ⟨H0, hv0⟩ := hn.lim.eq_of_lt hn.lt
 have hall : ∀ Q : List Ru, (∀ r ∈ Q, r ∈ R) → ∃ H, ∀ h, H ≤ h → (Q.map fun r => if r.Left = a then wI N r.Right K else 0).sum = ((Q.map fun r => if r.Left = a then nW (nT R h) r.Right K else 0).sum : Int) := by
  intro Q
  induction Q with
  | nil => intro _; exact ⟨0, fun _ _ => rfl⟩
  | cons r Q ih =>
    intro hQ
    obtain ⟨Ha, ha⟩ := ih fun x hx => hQ x (by simp [hx])
    by_cases e : r.Left = a
    ·obtain ⟨Hb, hb⟩ := (h1 r (hQ r (by simp)) e).2
     refine ⟨max Ha Hb, fun h hh => ?_⟩
     simp only [List.map_cons, List.sum_cons, if_pos e, ha h (by omega), hb h (by omega)]
     simp
    ·refine ⟨Ha, fun h hh => ?_⟩
     simp only [List.map_cons, List.sum_cons, if_neg e, ha h hh]
     simp
 obtain ⟨H, hH⟩ := hall R fun _ h => h
 rw [hH (max H H0) (by omega)]
 have : nT R (max H H0 + 1) a K = v := hv0 _ (by omega)
 rw [← this]; rfl
end
end Go.Proofs.Ytmeigkelacoibaa.Gr
