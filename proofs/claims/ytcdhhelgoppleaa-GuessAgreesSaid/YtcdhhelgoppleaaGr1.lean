/- Lengths of words of grammars, and why high trees are not needed where nothing grows: plain theory. Own work. -/
import Derived.Test.YtcdhhelgoppleaaTy
import Derived.Test.YtcdhhelgoppleaaWp
namespace Go.Proofs.Ytcdhhelgoppleaa.Gr
open Go Go.Ab Go.Pu

instance : Inhabited Ty.api_Sym := ⟨⟨false, 0⟩⟩
instance : Inhabited Ty.api_Rule := ⟨⟨0, []⟩⟩
instance : Inhabited Ty.api_Grammar := ⟨⟨0, 0, 0, []⟩⟩
abbrev Sy := Ty.api_Sym
abbrev Ru := Ty.api_Rule

/-- The symbols have trees with k leaves together, of size s. -/
inductive LenL (R : List Ru) : List Sy → Nat → Nat → Prop where
  | nil : LenL R [] 0 0
  | term {n : Int} {l : List Sy} {k s : Nat} : LenL R l k s → LenL R (⟨true, n⟩ :: l) (k + 1) s
  | non {n : Int} {r : Ru} {l : List Sy} {j k s t : Nat} : r ∈ R → r.Left = n → LenL R r.Right j s → LenL R l k t → LenL R (⟨false, n⟩ :: l) (j + k) (s + 1 + t)
/-- The same with a bound on the height. -/
inductive LenH (R : List Ru) : Nat → List Sy → Nat → Prop where
  | nil {h : Nat} : LenH R h [] 0
  | term {h : Nat} {n : Int} {l : List Sy} {k : Nat} : LenH R h l k → LenH R h (⟨true, n⟩ :: l) (k + 1)
  | non {h : Nat} {n : Int} {r : Ru} {l : List Sy} {j k : Nat} : r ∈ R → r.Left = n → LenH R h r.Right j → LenH R (h + 1) l k → LenH R (h + 1) (⟨false, n⟩ :: l) (j + k)

variable {R : List Ru}
/-- The symbols have a length together. -/
def Le (R : List Ru) (l : List Sy) (k : Nat) : Prop := ∃ s, LenL R l k s
def Prd (R : List Ru) (l : List Sy) : Prop := ∃ k, Le R l k

theorem LenL.app {l1 l2 : List Sy} {k1 k2 s1 s2 : Nat} (h1 : LenL R l1 k1 s1) (h2 : LenL R l2 k2 s2) : LenL R (l1 ++ l2) (k1 + k2) (s1 + s2) := by
  induction h1 with
  | nil => simpa using h2
  | term _ ih => rw [List.cons_append, show ∀ a b : Nat, a + 1 + b = a + b + 1 by omega]; exact .term ih
  | non hr hl hj _ _ ih => rw [List.cons_append, show ∀ a b c : Nat, a + b + c = a + (b + c) by omega, show ∀ a b c : Nat, a + 1 + b + c = a + 1 + (b + c) by omega]; exact .non hr hl hj ih
theorem LenL.nil_iff {k s : Nat} : LenL R [] k s ↔ k = 0 ∧ s = 0 := ⟨fun h => by cases h; exact ⟨rfl, rfl⟩, fun ⟨a, b⟩ => by subst a; subst b; exact .nil⟩
theorem LenL.term_iff {n : Int} {l : List Sy} {k s : Nat} : LenL R (⟨true, n⟩ :: l) k s ↔ ∃ k', k = k' + 1 ∧ LenL R l k' s := ⟨fun h => by cases h; exact ⟨_, rfl, by assumption⟩, fun ⟨k', a, b⟩ => by subst a; exact .term b⟩
theorem LenL.non_iff {n : Int} {l : List Sy} {k s : Nat} : LenL R (⟨false, n⟩ :: l) k s ↔ ∃ r j k' s' t, r ∈ R ∧ r.Left = n ∧ k = j + k' ∧ s = s' + 1 + t ∧ LenL R r.Right j s' ∧ LenL R l k' t :=
  ⟨fun h => by cases h with | non a b c d => exact ⟨_, _, _, _, _, a, b, rfl, rfl, c, d⟩, fun ⟨r, j, k', s', t, a, b, c, d, e, f⟩ => by subst c; subst d; exact .non a b e f⟩
theorem LenL.one {n : Int} {r : Ru} {k s : Nat} (h1 : r ∈ R) (h2 : r.Left = n) (h3 : LenL R r.Right k s) : LenL R [⟨false, n⟩] k (s + 1) := by
  have := LenL.non h1 h2 h3 .nil
  simpa using this
theorem LenL.one_iff {n : Int} {k s : Nat} : LenL R [⟨false, n⟩] k s ↔ ∃ r s', r ∈ R ∧ r.Left = n ∧ s = s' + 1 ∧ LenL R r.Right k s' := by
  constructor
  · intro h
    obtain ⟨r, j, k', s', t, a, b, c, d, e, f⟩ := LenL.non_iff.1 h
    obtain ⟨rfl, rfl⟩ := LenL.nil_iff.1 f
    exact ⟨r, s', a, b, by omega, by simpa [c] using e⟩
  · rintro ⟨r, s', a, b, rfl, e⟩
    exact .one a b e
theorem LenL.cons {x : Sy} {l : List Sy} {k s : Nat} (h : LenL R (x :: l) k s) : ∃ j k' s1 s2, k = j + k' ∧ s = s1 + s2 ∧ LenL R [x] j s1 ∧ LenL R l k' s2 := by
  cases h with
  | term h => exact ⟨1, _, 0, _, by omega, by omega, .term .nil, h⟩
  | non a b c d => exact ⟨_, _, _, _, rfl, rfl, .one a b c, d⟩
theorem LenL.split {l1 l2 : List Sy} : ∀ {k s : Nat}, LenL R (l1 ++ l2) k s → ∃ k1 k2 s1 s2, k = k1 + k2 ∧ s = s1 + s2 ∧ LenL R l1 k1 s1 ∧ LenL R l2 k2 s2 := by
  induction l1 with
  | nil => intro k s h; exact ⟨0, k, 0, s, by omega, by omega, .nil, h⟩
  | cons x l1 ih =>
    intro k s h
    obtain ⟨j, k', s1, s2, rfl, rfl, a, b⟩ := LenL.cons h
    obtain ⟨k1, k2, t1, t2, rfl, rfl, c, d⟩ := ih b
    exact ⟨j + k1, k2, s1 + t1, t2, by omega, by omega, by simpa using a.app c, d⟩
theorem Le.nil_iff {k : Nat} : Le R [] k ↔ k = 0 := ⟨fun ⟨s, h⟩ => (LenL.nil_iff.1 h).1, fun h => ⟨0, LenL.nil_iff.2 ⟨h, rfl⟩⟩⟩
theorem Le.term_iff {n : Int} {k : Nat} : Le R [⟨true, n⟩] k ↔ k = 1 := by
  constructor
  · rintro ⟨s, h⟩
    obtain ⟨k', e, h2⟩ := LenL.term_iff.1 h
    rw [e, (LenL.nil_iff.1 h2).1]
  · rintro rfl; exact ⟨0, .term .nil⟩
theorem Le.non_iff {n : Int} {k : Nat} : Le R [⟨false, n⟩] k ↔ ∃ r, r ∈ R ∧ r.Left = n ∧ Le R r.Right k := by
  constructor
  · rintro ⟨s, h⟩
    obtain ⟨r, s', a, b, _, e⟩ := LenL.one_iff.1 h
    exact ⟨r, a, b, s', e⟩
  · rintro ⟨r, a, b, s, e⟩; exact ⟨_, .one a b e⟩
theorem LenH.le {h : Nat} {l : List Sy} {k : Nat} (q : LenH R h l k) : Le R l k := by
  induction q with
  | nil => exact ⟨0, .nil⟩
  | term _ ih => obtain ⟨s, ih⟩ := ih; exact ⟨s, .term ih⟩
  | non a b _ _ ih1 ih2 => obtain ⟨s, ih1⟩ := ih1; obtain ⟨t, ih2⟩ := ih2; exact ⟨_, .non a b ih1 ih2⟩
/-! ### No high trees -/
open Relation
/-- b stands on the right side of a rule of a that has words. -/
def Way (R : List Ru) (a b : Int) : Prop := ∃ r ∈ R, r.Left = a ∧ Prd R r.Right ∧ (⟨false, b⟩ : Sy) ∈ r.Right
/-- from a to b, or the same. -/
def Rch (R : List Ru) (a b : Int) : Prop := a = b ∨ TransGen (Way R) a b
theorem Rch.next {a b c : Int} (h : Rch R a b) (w : Way R b c) : Rch R a c := by
  rcases h with rfl | h
  · exact .inr (.single w)
  · exact .inr (.tail h w)
theorem tg_trans {α : Type} {r : α → α → Prop} {a b c : α} (h : TransGen r a b) (k : TransGen r b c) : TransGen r a c := by
  induction k with
  | single w => exact .tail h w
  | tail _ w ih => exact .tail ih w
theorem Rch.head {a b c : Int} (w : Way R a b) (h : Rch R b c) : TransGen (Way R) a c := by
  rcases h with rfl | h
  · exact .single w
  · exact tg_trans (.single w) h
/-- Rules that lead from a to a again make nothing longer. -/
def NoGrow (R : List Ru) (S : Int) : Prop := ∀ a b r l1 l2, Rch R S a → r ∈ R → r.Left = a → Prd R r.Right → r.Right = l1 ++ (⟨false, b⟩ : Sy) :: l2 → Rch R b a → ∀ k, Le R (l1 ++ l2) k → k = 0
def Mn (R : List Ru) (a : Int) (k s : Nat) : Prop := LenL R [⟨false, a⟩] k s ∧ ∀ s', LenL R [⟨false, a⟩] k s' → s ≤ s'
theorem exists_mn {a : Int} {k s : Nat} (h : LenL R [⟨false, a⟩] k s) : ∃ s, Mn R a k s := by
  induction s using Nat.strongRecOn with
  | ind s ih =>
    by_cases q : ∃ s' < s, LenL R [⟨false, a⟩] k s'
    · obtain ⟨s', a1, a2⟩ := q; exact ih s' a1 a2
    · exact ⟨s, h, fun s' hs' => Nat.not_lt.1 fun e => q ⟨s', e, hs'⟩⟩
theorem nodup_range {N : Nat} : ∀ (l : List Int), l.Nodup → (∀ x ∈ l, 0 ≤ x ∧ x < N) → l.length ≤ N := by
  intro l hn hr
  have h1 : (l.map Int.toNat).Nodup := by
    rw [List.nodup_iff_pairwise_ne, List.pairwise_map]
    refine List.Pairwise.imp_of_mem ?_ (List.nodup_iff_pairwise_ne.1 hn)
    intro a b ha hb hab e
    have := hr a ha; have := hr b hb; omega
  have h2 : (l.map Int.toNat) ⊆ List.range N := by
    intro x hx
    obtain ⟨y, hy, rfl⟩ := List.mem_map.1 hx
    have := hr y hy
    exact List.mem_range.2 (by omega)
  have := List.Nodup.length_le_of_subset h1 h2
  simpa using this
theorem mn_low {N : Nat} {S : Int} (hN : ∀ r ∈ R, 0 ≤ r.Left ∧ r.Left < N) (ng : NoGrow R S) :
    ∀ (m : Nat) (X : List Int) (a : Int) (k s : Nat), X.length + m = N → X.Nodup → (∀ x ∈ X, 0 ≤ x ∧ x < N) → Rch R S a →
      (∀ b ∈ X, TransGen (Way R) b a ∧ ∃ k' s', Mn R b k' s' ∧ s < s' ∧ (Rch R a b → k' = k)) → Mn R a k s → LenH R m [⟨false, a⟩] k := by
  intro m
  induction m with
  | zero =>
    intro X a k s hX hd hr hS hB hm
    exfalso
    have haX : a ∉ X := fun h => by
      obtain ⟨-, k', s', h1, h2, h3⟩ := hB a h
      obtain rfl := h3 (.inl rfl)
      have := h1.2 s hm.1
      omega
    obtain ⟨r, s', a1, a2, -⟩ := LenL.one_iff.1 hm.1
    have := nodup_range (N := N) (a :: X) (List.nodup_cons.2 ⟨haX, hd⟩) (fun x hx => by
      rcases List.mem_cons.1 hx with rfl | hx
      · rw [← a2]; exact hN r a1
      · exact hr x hx)
    simp at this
    omega
  | succ m ih =>
    intro X a k s hX hd hr hS hB hm
    have haX : a ∉ X := fun h => by
      obtain ⟨-, k', s', h1, h2, h3⟩ := hB a h
      obtain rfl := h3 (.inl rfl)
      have := h1.2 s hm.1
      omega
    obtain ⟨r, s0, a1, a2, rfl, a3⟩ := LenL.one_iff.1 hm.1
    have key : ∀ (l2 l1 : List Sy) (k1 k2 s1 s2 : Nat), r.Right = l1 ++ l2 → LenL R l1 k1 s1 → LenL R l2 k2 s2 → k1 + k2 = k → s1 + s2 = s0 → LenH R m l2 k2 := by
      intro l2
      induction l2 with
      | nil => intro l1 k1 k2 s1 s2 e h1 h2 ek es; obtain ⟨rfl, rfl⟩ := LenL.nil_iff.1 h2; exact .nil
      | cons x l2 ih2 =>
        intro l1 k1 k2 s1 s2 e h1 h2 ek es
        obtain ⟨j, k3, t1, t2, rfl, rfl, c1, c2⟩ := LenL.cons h2
        have hrest : LenH R m l2 k3 := ih2 (l1 ++ [x]) (k1 + j) k3 (s1 + t1) t2 (by simpa using e) (h1.app c1) c2 (by omega) (by omega)
        obtain ⟨tm, c⟩ := x
        cases tm with
        | true =>
          obtain ⟨k', rfl, h⟩ := LenL.term_iff.1 c1
          obtain ⟨rfl, rfl⟩ := LenL.nil_iff.1 h
          rw [Nat.zero_add, Nat.add_comm]; exact .term hrest
        | false =>
          have hprd : Prd R r.Right := ⟨_, _, a3⟩
          have w : Way R a c := ⟨r, a1, a2, hprd, by rw [e]; simp⟩
          have hmn : Mn R c j t1 := ⟨c1, fun s' hs' => by
            have h3 : LenL R r.Right (k1 + (j + k3)) (s1 + (s' + t2)) := by rw [e, show (⟨false, c⟩ : Sy) :: l2 = [⟨false, c⟩] ++ l2 from rfl]; exact h1.app (hs'.app c2)
            rw [ek] at h3
            have := hm.2 _ (.one a1 a2 h3)
            omega⟩
          have hzero : Rch R c a → j = k := fun q => by
            have := ng a c r l1 l2 hS a1 a2 hprd e q (k1 + k3) ⟨_, h1.app c2⟩
            omega
          have hch : LenH R m [⟨false, c⟩] j := by
            refine ih (a :: X) c j t1 (by simp only [List.length_cons]; omega) (List.nodup_cons.2 ⟨haX, hd⟩) (fun x hx => ?_) (hS.next w) (fun b hb => ?_) hmn
            · rcases List.mem_cons.1 hx with rfl | hx
              · rw [← a2]; exact hN r a1
              · exact hr x hx
            · rcases List.mem_cons.1 hb with rfl | hb
              · exact ⟨.single w, k, s0 + 1, hm, by omega, fun q => (hzero q).symm⟩
              · obtain ⟨b1, k', s', b2, b3, b4⟩ := hB b hb
                refine ⟨.tail b1 w, k', s', b2, by omega, fun q => ?_⟩
                have e1 := b4 (.inr (Rch.head w q))
                have e2 : Rch R c a := by
                  rcases q with rfl | q
                  · exact .inr b1
                  · exact .inr (tg_trans q b1)
                rw [e1, hzero e2]
          cases m with
          | zero => cases hch
          | succ m =>
            cases hch with
            | non d1 d2 d3 d4 =>
              cases d4
              exact .non d1 d2 d3 hrest
    have hk := key r.Right [] 0 k 0 s0 rfl .nil a3 (by omega) (by omega)
    have := LenH.non a1 a2 hk .nil
    simpa using this
/-- Each length has a tree that is not higher than there are nonterminals. -/
theorem low {N : Nat} {S : Int} (hN : ∀ r ∈ R, 0 ≤ r.Left ∧ r.Left < N) (ng : NoGrow R S) {a : Int} (hS : Rch R S a) {k : Nat} (h : Le R [⟨false, a⟩] k) : LenH R N [⟨false, a⟩] k := by
  obtain ⟨s, h⟩ := h
  obtain ⟨s, h⟩ := exists_mn h
  exact mn_low hN ng N [] a k s (by simp) List.nodup_nil (fun x hx => by cases hx) hS (fun b hb => by cases hb) h
end Go.Proofs.Ytcdhhelgoppleaa.Gr
