import Derived.Test.YtmeigkelacoibaaGr2
namespace Go.Pu
open Go
section
variable {α : Type}
def wt (f : α → Nat) (xs : List α) : Nat := (xs.map f).sum
theorem wt_cons (f : α → Nat) (x : α) (xs : List α) : wt f (x :: xs) = f x + wt f xs := by simp [wt]
theorem wt_set (f : α → Nat) : ∀ (xs : List α) (i : Nat) (x v : α), xs[i]? = some x → wt f (xs.set i v) + f x = wt f xs + f v
 | [], i, x, v, h => by simp at h
 | y :: ys, 0, x, v, h => by cases h; simp [wt_cons]; omega
 | y :: ys, i + 1, x, v, h => by have := wt_set f ys i x v (by simpa using h); simp [wt_cons]; omega
theorem wt_st [Inhabited α] (f : α → Nat) {xs : List α} {i : Int} {v : α} (h0 : 0 ≤ i) (h1 : i < xs.length) : wt f (st xs i v) + f (el xs i) = wt f xs + f v := by
 refine wt_set f xs i.toNat _ v ?_
 have := get_el (xs := xs) (i := i.toNat) (by omega)
 rwa [Int.toNat_of_nonneg h0] at this
theorem wt_le (f : α → Nat) (m : Nat) (xs : List α) (h : ∀ x ∈ xs, f x ≤ m) : wt f xs ≤ xs.length * m := by
 induction xs with
 | nil => simp [wt]
 | cons x xs ih =>
   have := ih fun y hy => h y (List.mem_cons_of_mem _ hy)
   have := h x (by simp)
   rw [wt_cons, List.length_cons, Nat.add_mul]; omega
def wf (b : Bool) : Nat := if b then 0 else 1
end
end Go.Pu
namespace Go.Proofs.Ytmeigkelacoibaa.Gr
open Go Go.Ab Go.Pu
def SumL (f : Sy → Nat → Prop) : List Sy → Nat → Prop
 | [], k => k = 0
 | s :: l, k => ∃ i j, k = i + j ∧ f s i ∧ SumL f l j
theorem SumL.app {f : Sy → Nat → Prop} {l m : List Sy} : ∀ {k : Nat}, SumL f (l ++ m) k ↔ ∃ i j, k = i + j ∧ SumL f l i ∧ SumL f m j := by
 induction l with
 | nil => intro k; exact ⟨fun h => ⟨0, k, by omega, rfl, h⟩, fun ⟨i, j, e, a, b⟩ => by simp only [SumL] at a; subst a; rw [Nat.zero_add] at e; subst e; exact b⟩
 | cons s l ih =>
   intro k
   simp only [List.cons_append, SumL]
   constructor
   ·rintro ⟨i, j, rfl, h, k⟩
    obtain ⟨a, b, rfl, c, d⟩ := ih.1 k
    exact ⟨i + a, b, by omega, ⟨i, a, rfl, h, c⟩, d⟩
   ·rintro ⟨i, j, rfl, ⟨a, b, rfl, c, d⟩, e⟩
    exact ⟨a, b + j, by omega, c, ih.2 ⟨b, j, rfl, d, e⟩⟩
theorem SumL.one {f : Sy → Nat → Prop} {s : Sy} {k : Nat} : SumL f [s] k ↔ f s k := by
 simp only [SumL]
 constructor
 ·rintro ⟨i, j, rfl, h, rfl⟩; exact h
 ·intro h; exact ⟨k, 0, rfl, h, rfl⟩
theorem SumL.mono {f g : Sy → Nat → Prop} {l : List Sy} : ∀ {k : Nat}, (∀ s ∈ l, ∀ i ≤ k, f s i → g s i) → SumL f l k → SumL g l k := by
 induction l with
 | nil => intro k _ h; exact h
 | cons s l ih =>
   intro k hfg h
   obtain ⟨i, j, rfl, a, b⟩ := h
   exact ⟨i, j, rfl, hfg s (by simp) i (by omega) a, ih (fun t ht i hi => hfg t (List.mem_cons_of_mem _ ht) i (by omega)) b⟩
theorem Le.sum {R : List Ru} {l : List Sy} : ∀ {k : Nat}, Le R l k ↔ SumL (fun s j => Le R [s] j) l k := by
 induction l with
 | nil => intro k; exact Le.nil_iff
 | cons s l ih =>
   intro k
   rw [Le.cons_iff]
   simp only [SumL]
   constructor
   ·rintro ⟨i, j, a, b, c⟩; exact ⟨i, j, a, b, ih.1 c⟩
   ·rintro ⟨i, j, a, b, c⟩; exact ⟨i, j, a, b, ih.2 c⟩
def fH (M : List (List Bool)) (s : Sy) (j : Nat) : Prop := (s.Term = true ∧ j = 1) ∨ (s.Term = false ∧ el2 M s.N j = true)
def Snd (R : List Ru) (M : List (List Bool)) (nons : Int) (n : Nat) : Prop := ∀ (a : Int) (k : Nat), 0 ≤ a → a < nons → k ≤ n → el2 M a (k : Int) = true → Le R [⟨false, a⟩] k
def Cls (M : List (List Bool)) (n : Nat) (r : Ru) : Prop := ∀ k : Nat, k ≤ n → SumL (fH M) r.Right k → el2 M r.Left (k : Int) = true
theorem cls_le {R : List Ru} {M : List (List Bool)} {n : Nat} (h : ∀ r ∈ R, Cls M n r) {l : List Sy} {k : Nat} (q : Le R l k) (hk : k ≤ n) : SumL (fH M) l k := by
 obtain ⟨s, q⟩ := q
 induction q with
 | nil => rfl
 | term _ ih => exact ⟨1, _, by omega, .inl ⟨rfl, rfl⟩, ih (by omega)⟩
 | non a b _ _ ih1 ih2 => exact ⟨_, _, rfl, .inr ⟨rfl, by rw [← b]; exact h _ a _ (by omega) (ih1 (by omega))⟩, ih2 (by omega)⟩
theorem snd_le {R : List Ru} {M : List (List Bool)} {nons : Int} {n : Nat} (h : Snd R M nons n) {l : List Sy} (hl : ∀ s ∈ l, s.Term = false → 0 ≤ s.N ∧ s.N < nons) {k : Nat} (hk : k ≤ n) (q : SumL (fH M) l k) : Le R l k := by
 refine Le.sum.2 (SumL.mono (fun s hs i hi q => ?_) q)
 obtain ⟨t, N⟩ := s
 rcases q with ⟨e, rfl⟩ | ⟨e, q⟩
 ·simp only at e; subst e; exact Le.term_iff.2 rfl
 ·simp only at e; subst e; exact h N i (hl _ hs rfl).1 (hl _ hs rfl).2 (by omega) q
abbrev wM (M : List (List Bool)) : Nat := wt (wt wf) M
theorem wM_st {M : List (List Bool)} {n m i k : Int} (h : Dim M n m) (h0 : 0 ≤ i) (h1 : i < n) (h2 : 0 ≤ k) (h3 : k < m) (h4 : el2 M i k = false) : wM (st2 M i k true) + 1 = wM M := by
 have a := wt_st (wt wf) (xs := M) (i := i) (v := st (el M i) k true) h0 (by rw [h.1]; exact h1)
 have b := wt_st wf (xs := el M i) (i := k) (v := true) h2 (by rw [h.2 i h0 h1]; exact h3)
 have c : wf (el (el M i) k) = 1 := by rw [show el (el M i) k = false from h4]; rfl
 have d : wf true = 0 := rfl
 show wt (wt wf) (st M i (st (el M i) k true)) + 1 = wt (wt wf) M
 omega
end Go.Proofs.Ytmeigkelacoibaa.Gr
