import Derived.Test.YtmeigkelacoibaaLens0
namespace Go.Proofs.Ytmeigkelacoibaa.Gr
open Go Go.Ab Go.Pu
open Relation
abbrev MC : Nat := 1000000000
def Lim (F : Nat → Nat) (v : Nat) : Prop := ∃ H, ∀ h, H ≤ h → min MC (F h) = v
theorem Lim.fn {F : Nat → Nat} {v w : Nat} (a : Lim F v) (b : Lim F w) : v = w := by
 obtain ⟨H, a⟩ := a; obtain ⟨K, b⟩ := b
 rw [← a (max H K) (by omega), ← b (max H K) (by omega)]
theorem Lim.le {F : Nat → Nat} {v : Nat} (a : Lim F v) : v ≤ MC := by
 obtain ⟨H, a⟩ := a
 have := a H (Nat.le_refl _); omega
theorem Lim.const {c : Nat} : Lim (fun _ => c) (min MC c) := ⟨0, fun _ _ => rfl⟩
theorem Lim.add {F G : Nat → Nat} {v w : Nat} (a : Lim F v) (b : Lim G w) : Lim (fun h => F h + G h) (min MC (v + w)) := by
 obtain ⟨H, a⟩ := a; obtain ⟨K, b⟩ := b
 refine ⟨max H K, fun h hh => ?_⟩
 have h1 := a h (by omega)
 have h2 := b h (by omega)
 show min MC (F h + G h) = min MC (v + w)
 omega
theorem cap_mul (M x y : Nat) : min M (min M x * min M y) = min M (x * y) := by
 rcases Nat.eq_zero_or_pos x with rfl | hx
 ·simp
 rcases Nat.eq_zero_or_pos y with rfl | hy
 ·simp
 rcases Nat.eq_zero_or_pos M with rfl | hM
 ·simp
 by_cases h1 : x ≤ M
 ·rw [Nat.min_eq_right h1]
  by_cases h2 : y ≤ M
  ·rw [Nat.min_eq_right h2]
  ·rw [Nat.min_eq_left (by omega : M ≤ y)]
   have a : M ≤ x * M := Nat.le_mul_of_pos_left _ hx
   have b : x * M ≤ x * y := Nat.mul_le_mul_left _ (by omega)
   rw [Nat.min_eq_left a, Nat.min_eq_left (Nat.le_trans a b)]
 ·rw [Nat.min_eq_left (by omega : M ≤ x)]
  have h3 : 1 ≤ min M y := by omega
  have a : M ≤ M * min M y := Nat.le_mul_of_pos_right _ (by omega)
  have b : x ≤ x * y := Nat.le_mul_of_pos_right _ hy
  rw [Nat.min_eq_left a, Nat.min_eq_left (by omega)]
theorem Lim.mul {F G : Nat → Nat} {v w : Nat} (a : Lim F v) (b : Lim G w) : Lim (fun h => F h * G h) (min MC (v * w)) := by
 obtain ⟨H, a⟩ := a; obtain ⟨K, b⟩ := b
 refine ⟨max H K, fun h hh => ?_⟩
 show min MC (F h * G h) = min MC (v * w)
 rw [← a h (by omega), ← b h (by omega), cap_mul]
theorem Lim.congr {F G : Nat → Nat} {v : Nat} (a : Lim F v) (e : ∀ h, F h = G h) : Lim G v := by
 obtain ⟨H, a⟩ := a; exact ⟨H, fun h hh => by rw [← e]; exact a h hh⟩
theorem Lim.shift {F : Nat → Nat} {v : Nat} (a : Lim (fun h => F (h + 1)) v) : Lim F v := by
 obtain ⟨H, a⟩ := a
 refine ⟨H + 1, fun h hh => ?_⟩
 have h1 : min MC (F (h - 1 + 1)) = v := a (h - 1) (by omega)
 rwa [show h - 1 + 1 = h by omega] at h1
def nS (f : Int → Nat → Nat) (s : Sy) (j : Nat) : Nat := if s.Term then (if j = 1 then 1 else 0) else f s.N j
def nW (f : Int → Nat → Nat) : List Sy → Nat → Nat
 | [], k => if k = 0 then 1 else 0
 | s :: l, k => ((List.range (k + 1)).map fun j => nS f s j * nW f l (k - j)).sum
def nA (R : List Ru) (f : Int → Nat → Nat) (a : Int) (k : Nat) : Nat := (R.map fun r => if r.Left = a then nW f r.Right k else 0).sum
def nT (R : List Ru) : Nat → Int → Nat → Nat
 | 0 => fun _ _ => 0
 | h + 1 => nA R (nT R h)
theorem sum_pos {α : Type} {l : List α} {f : α → Nat} (h : 0 < (l.map f).sum) : ∃ x ∈ l, 0 < f x := by
 induction l with
 | nil => simp at h
 | cons x l ih =>
   simp only [List.map_cons, List.sum_cons] at h
   by_cases q : 0 < f x
   ·exact ⟨x, by simp, q⟩
   ·obtain ⟨y, hy, hf⟩ := ih (by omega)
    exact ⟨y, List.mem_cons_of_mem _ hy, hf⟩
theorem pos_sum {α : Type} {l : List α} {f : α → Nat} {x : α} (hx : x ∈ l) (h : 0 < f x) : 0 < (l.map f).sum := by
 induction l with
 | nil => cases hx
 | cons y l ih =>
   simp only [List.map_cons, List.sum_cons]
   rcases List.mem_cons.1 hx with rfl | hx
   ·omega
   ·have := ih hx; omega
theorem sum_le {α : Type} {l : List α} {f g : α → Nat} (h : ∀ x ∈ l, f x ≤ g x) : (l.map f).sum ≤ (l.map g).sum := by
 induction l with
 | nil => simp
 | cons y l ih =>
   simp only [List.map_cons, List.sum_cons]
   have := h y (by simp)
   have := ih fun x hx => h x (List.mem_cons_of_mem _ hx)
   omega
theorem sum_sub {α : Type} {l m : List α} (hs : l.Sublist m) (f : α → Nat) : (l.map f).sum ≤ (m.map f).sum := by
 induction hs with
 | slnil => simp
 | cons a _ ih => simp only [List.map_cons, List.sum_cons]; omega
 | cons_cons a _ ih => simp only [List.map_cons, List.sum_cons]; omega
section
variable {R : List Ru}
theorem nW_pos {f : Int → Nat → Nat} {l : List Sy} : ∀ {k : Nat}, (0 < nW f l k ↔ SumL (fun s j => 0 < nS f s j) l k) := by
 induction l with
 | nil => intro k; simp only [nW, SumL]; split <;> simp_all
 | cons s l ih =>
   intro k
   simp only [nW, SumL]
   constructor
   ·intro h
    obtain ⟨j, hj, hp⟩ := sum_pos h
    have hj := List.mem_range.1 hj
    have h1 : 0 < nS f s j := Nat.pos_of_mul_pos_right hp
    have h2 : 0 < nW f l (k - j) := Nat.pos_of_mul_pos_left hp
    exact ⟨j, k - j, by omega, h1, ih.1 h2⟩
   ·rintro ⟨i, j, rfl, h1, h2⟩
    refine pos_sum (x := i) (List.mem_range.2 (by omega)) ?_
    rw [show i + j - i = j by omega]
    exact Nat.mul_pos h1 (ih.2 h2)
theorem nA_pos {f : Int → Nat → Nat} {a : Int} {k : Nat} : 0 < nA R f a k ↔ ∃ r ∈ R, r.Left = a ∧ 0 < nW f r.Right k := by
 unfold nA
 constructor
 ·intro h
  obtain ⟨r, hr, hp⟩ := sum_pos h
  split at hp
  ·exact ⟨r, hr, ‹_›, hp⟩
  ·omega
 ·rintro ⟨r, hr, h1, h2⟩
  exact pos_sum hr (by rw [if_pos h1]; exact h2)
theorem nT_le : ∀ (h : Nat) {a : Int} {k : Nat}, 0 < nT R h a k → Le R [⟨false, a⟩] k := by
 intro h
 induction h with
 | zero => intro a k q; simp [nT] at q
 | succ h ih =>
   intro a k q
   obtain ⟨r, hr, hl, hw⟩ := nA_pos.1 q
   refine Le.non_iff.2 ⟨r, hr, hl, Le.sum.2 (SumL.mono (fun s _ i _ hs => ?_) (nW_pos.1 hw))⟩
   obtain ⟨t, n⟩ := s
   unfold nS at hs
   cases t with
   | true =>
     simp only [if_true] at hs
     split at hs
     ·exact Le.term_iff.2 ‹_›
     ·omega
   | false => exact ih (by simpa using hs)
theorem nW_mono {f g : Int → Nat → Nat} (h : ∀ a k, f a k ≤ g a k) (l : List Sy) : ∀ k, nW f l k ≤ nW g l k := by
 induction l with
 | nil => intro k; exact Nat.le_refl _
 | cons s l ih =>
   intro k
   refine sum_le fun j _ => Nat.mul_le_mul ?_ (ih _)
   unfold nS
   split
   ·exact Nat.le_refl _
   ·exact h _ _
theorem nA_mono {f g : Int → Nat → Nat} (h : ∀ a k, f a k ≤ g a k) (a : Int) (k : Nat) : nA R f a k ≤ nA R g a k := by
 refine sum_le fun r _ => ?_
 split
 ·exact nW_mono h _ _
 ·exact Nat.le_refl _
theorem nT_up : ∀ (h : Nat) (a : Int) (k : Nat), nT R h a k ≤ nT R (h + 1) a k := by
 intro h
 induction h with
 | zero => intro a k; exact Nat.zero_le _
 | succ h ih => intro a k; exact nA_mono ih a k
theorem nT_mono {h h' : Nat} (hh : h ≤ h') (a : Int) (k : Nat) : nT R h a k ≤ nT R h' a k := by
 obtain ⟨d, rfl⟩ := Nat.exists_eq_add_of_le hh
 clear hh
 induction d with
 | zero => exact Nat.le_refl _
 | succ d ih => exact Nat.le_trans ih (nT_up _ a k)
theorem lenH_nT {h : Nat} {l : List Sy} {k : Nat} (q : LenH R h l k) : SumL (fun s j => 0 < nS (nT R h) s j) l k := by
 induction q with
 | nil => rfl
 | term _ ih => exact ⟨1, _, by omega, by simp [nS], ih⟩
 | @non h n r l j k hr hn _ _ ih1 ih2 =>
   refine ⟨j, k, rfl, ?_, ih2⟩
   show 0 < nS (nT R (h + 1)) ⟨false, n⟩ j
   simp only [nS, Bool.false_eq_true, if_false]
   exact nA_pos.2 ⟨r, hr, hn, nW_pos.2 ih1⟩
theorem lenH_up {h : Nat} {l : List Sy} {k : Nat} (q : LenH R h l k) : LenH R (h + 1) l k := by
 induction q with
 | nil => exact .nil
 | term _ ih => exact .term ih
 | non a b _ _ ih1 ih2 => exact .non a b ih1 ih2
theorem lenH_mono {h h' : Nat} {l : List Sy} {k : Nat} (q : LenH R h l k) (hh : h ≤ h') : LenH R h' l k := by
 obtain ⟨d, rfl⟩ := Nat.exists_eq_add_of_le hh
 clear hh
 induction d with
 | zero => exact q
 | succ d ih => exact lenH_up ih
theorem le_lenH {l : List Sy} {k : Nat} (q : Le R l k) : ∃ h, LenH R h l k := by
 obtain ⟨s, q⟩ := q
 induction q with
 | nil => exact ⟨0, .nil⟩
 | term _ ih => obtain ⟨h, ih⟩ := ih; exact ⟨h, .term ih⟩
 | non a b _ _ ih1 ih2 =>
   obtain ⟨h1, ih1⟩ := ih1; obtain ⟨h2, ih2⟩ := ih2
   exact ⟨max h1 h2 + 1, .non a b (lenH_mono ih1 (by omega)) (lenH_mono ih2 (by omega))⟩
theorem le_nT {a : Int} {k : Nat} (q : Le R [⟨false, a⟩] k) : ∃ H, ∀ h, H ≤ h → 0 < nT R h a k := by
 obtain ⟨H, q⟩ := le_lenH q
 refine ⟨H, fun h hh => Nat.lt_of_lt_of_le ?_ (nT_mono hh a k)⟩
 have := SumL.one.1 (lenH_nT q)
 simpa [nS] using this
theorem Lim.pos {a : Int} {k v : Nat} (q : Le R [⟨false, a⟩] k) (h : Lim (fun h => nT R h a k) v) : 1 ≤ v := by
 obtain ⟨H, q⟩ := le_nT q
 obtain ⟨K, h⟩ := h
 have h1 := q (max H K) (by omega)
 have h2 : min MC (nT R (max H K) a k) = v := h (max H K) (by omega)
 have : MC = 1000000000 := rfl
 omega
theorem lim_zero {a : Int} {k : Nat} (q : ¬ Le R [⟨false, a⟩] k) : Lim (fun h => nT R h a k) 0 := by
 refine ⟨0, fun h _ => ?_⟩
 have : nT R h a k = 0 := Nat.eq_zero_of_not_pos fun e => q (nT_le h e)
 show min MC (nT R h a k) = 0
 rw [this]; rfl
theorem Le.more {Q : List Ru} (hs : ∀ r ∈ Q, r ∈ R) {l : List Sy} {k : Nat} (q : Le Q l k) : Le R l k := by
 obtain ⟨s, q⟩ := q
 refine ⟨s, ?_⟩
 induction q with
 | nil => exact .nil
 | term _ ih => exact .term ih
 | non a b _ _ ih1 ih2 => exact .non (hs _ a) b ih1 ih2
end
section
variable (R : List Ru)
def Sm (k : Nat) (a b : Int) : Prop := ∃ r ∈ R, r.Left = a ∧ ∃ l1 l2, r.Right = l1 ++ (⟨false, b⟩ : Sy) :: l2 ∧ Le R [⟨false, b⟩] k ∧ ∀ s ∈ l1 ++ l2, Le R [s] 0
def EndL (p : Int → Nat → Prop) : List Sy → Nat → Prop
 | [], _ => False
 | s :: l, k => ∃ i j, k = i + j ∧ Le R [s] i ∧ Le R l j ∧ ((s.Term = false ∧ p s.N i) ∨ EndL p l j)
inductive Lp : Int → Nat → Prop where
 | cyc {a : Int} {k : Nat} : Le R [⟨false, a⟩] k → TransGen (Sm R k) a a → Lp a k
 | one {r : Ru} {l1 l2 : List Sy} {b : Int} {i j k : Nat} : r ∈ R → r.Right = l1 ++ (⟨false, b⟩ : Sy) :: l2 → Le R l1 i → Lp b j → Le R [⟨false, b⟩] j → Le R l2 k → Lp r.Left (i + j + k)
end
section
variable {R : List Ru}
theorem endL_iff {p : Int → Nat → Prop} {l : List Sy} : ∀ {k : Nat}, EndL R p l k ↔ ∃ l1 b l2 i j m, l = l1 ++ (⟨false, b⟩ : Sy) :: l2 ∧ k = i + j + m ∧ Le R l1 i ∧ p b j ∧ Le R [⟨false, b⟩] j ∧ Le R l2 m := by
 induction l with
 | nil => intro k; simp [EndL]
 | cons s l ih =>
   intro k
   simp only [EndL]
   constructor
   ·rintro ⟨i, j, rfl, h1, h2, ⟨h3, h4⟩ | h3⟩
    ·obtain ⟨t, n⟩ := s
     simp only at h3; subst h3
     exact ⟨[], n, l, 0, i, j, rfl, by omega, Le.nil_iff.2 rfl, h4, h1, h2⟩
    ·obtain ⟨l1, b, l2, i', j', m, rfl, rfl, q1, q2, q3, q4⟩ := ih.1 h3
     exact ⟨s :: l1, b, l2, i + i', j', m, rfl, by omega, Le.cons_iff.2 ⟨i, i', rfl, h1, q1⟩, q2, q3, q4⟩
   ·rintro ⟨l1, b, l2, i, j, m, e, rfl, h1, h2, h3, h4⟩
    cases l1 with
    | nil =>
      simp only [List.nil_append, List.cons.injEq] at e
      obtain ⟨rfl, rfl⟩ := e
      have := Le.nil_iff.1 h1
      exact ⟨j, m, by omega, h3, h4, .inl ⟨rfl, h2⟩⟩
    | cons y l1 =>
      simp only [List.cons_append, List.cons.injEq] at e
      obtain ⟨rfl, rfl⟩ := e
      obtain ⟨i1, i2, rfl, q1, q2⟩ := Le.cons_iff.1 h1
      refine ⟨i1, i2 + j + m, by omega, q1, Le.app_iff.2 ⟨i2, j + m, by omega, q2, Le.cons_iff.2 ⟨j, m, rfl, h3, h4⟩⟩, .inr (ih.2 ⟨l1, b, l2, i2, j, m, rfl, rfl, q2, h2, h3, h4⟩)⟩
theorem Lp.more {Q : List Ru} (hs : ∀ r ∈ Q, r ∈ R) {a : Int} {k : Nat} (q : Lp Q a k) : Lp R a k := by
 induction q with
 | @cyc a k h t =>
   refine .cyc (h.more hs) ?_
   have step : ∀ {x y : Int}, Sm Q k x y → Sm R k x y := by
    rintro x y ⟨r, hr, hl, l1, l2, e, h1, h2⟩
    exact ⟨r, hs r hr, hl, l1, l2, e, h1.more hs, fun s hs' => (h2 s hs').more hs⟩
   have all : ∀ {x y : Int}, TransGen (Sm Q k) x y → TransGen (Sm R k) x y := by
    intro x y t
    induction t with
    | single w => exact .single (step w)
    | tail _ w ih => exact .tail ih (step w)
   exact all t
 | one hr e h1 _ h2 h3 ih => exact .one (hs _ hr) e (h1.more hs) ih (h2.more hs) (h3.more hs)
theorem Lp.le {a : Int} {k : Nat} (q : Lp R a k) : Le R [⟨false, a⟩] k := by
 induction q with
 | cyc h _ => exact h
 | one hr e h1 _ h2 h3 _ => exact Le.non_iff.2 ⟨_, hr, rfl, by rw [e]; exact Le.app_iff.2 ⟨_, _, by rw [Nat.add_assoc], h1, Le.cons_iff.2 ⟨_, _, rfl, h2, h3⟩⟩⟩
def Cen (R : List Ru) (a : Int) (k : Nat) (v : Int) : Prop := (¬ Le R [⟨false, a⟩] k ∧ v = 0) ∨ (Lp R a k ∧ v = -1) ∨ (Le R [⟨false, a⟩] k ∧ ¬ Lp R a k ∧ ∃ c : Nat, Lim (fun h => nT R h a k) c ∧ v = c)
theorem Cen.fn {a : Int} {k : Nat} {v w : Int} (h : Cen R a k v) (q : Cen R a k w) : v = w := by
 rcases h with ⟨h1, h2⟩ | ⟨h1, h2⟩ | ⟨h1, h2, c, h3, h4⟩ <;> rcases q with ⟨q1, q2⟩ | ⟨q1, q2⟩ | ⟨q1, q2, d, q3, q4⟩
 ·omega
 ·exact absurd q1.le h1
 ·exact absurd q1 h1
 ·exact absurd h1.le q1
 ·omega
 ·exact absurd h1 q2
 ·exact absurd h1 q1
 ·exact absurd q1 h2
 ·rw [h4, q4, h3.fn q3]
theorem Cen.zero {a : Int} {k : Nat} {v : Int} (h : Cen R a k v) : v ≠ 0 ↔ Le R [⟨false, a⟩] k := by
 rcases h with ⟨h1, h2⟩ | ⟨h1, h2⟩ | ⟨h1, h2, c, h3, h4⟩
 ·exact ⟨fun e => absurd h2 e, fun e => absurd e h1⟩
 ·exact ⟨fun _ => h1.le, fun _ => by omega⟩
 ·have := Lim.pos h1 h3
  exact ⟨fun _ => h1, fun _ => by omega⟩
end
end Go.Proofs.Ytmeigkelacoibaa.Gr
