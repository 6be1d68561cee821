/- Trees that are made, and their words. Own work. -/
import Derived.Test.YthgdobdhdfjhfaaGr2
namespace Go.Proofs.Ythgdobdhdfjhfaa.Gr
open Go Go.Ab Go.Pu

/-- Trees of symbols: their height, number of nodes, and word. -/
inductive Tr (R : List Ru) : Nat → Nat → List Ty.api_Tree → List Sy → List Int → Prop where
  | nil {d : Nat} : Tr R d 0 [] [] []
  | leaf {d s : Nat} {n : Int} {ts : List Ty.api_Tree} {l : List Sy} {w : List Int} : Tr R d s ts l w → Tr R d (s + 1) (⟨-1, n, []⟩ :: ts) (⟨true, n⟩ :: l) (n :: w)
  | node {d s1 s2 k : Nat} {r : Ru} {kids ts : List Ty.api_Tree} {l : List Sy} {v w : List Int} : R[k]? = some r → Tr R d s1 kids r.Right v → Tr R (d + 1) s2 ts l w → Tr R (d + 1) (s1 + 1 + s2) (⟨(k : Int), 0, kids⟩ :: ts) (⟨false, r.Left⟩ :: l) (v ++ w)
variable {R : List Ru}
theorem Tr.up {d s : Nat} {ts : List Ty.api_Tree} {l : List Sy} {w : List Int} (h : Tr R d s ts l w) : Tr R (d + 1) s ts l w := by
  induction h with
  | nil => exact .nil
  | leaf _ ih => exact .leaf ih
  | node a _ _ ih1 ih2 => exact .node a ih1 ih2
theorem Tr.mono {d s d' : Nat} {ts : List Ty.api_Tree} {l : List Sy} {w : List Int} (h : Tr R d s ts l w) (hd : d ≤ d') : Tr R d' s ts l w := by
  obtain ⟨e, rfl⟩ := Nat.exists_eq_add_of_le hd
  clear hd
  induction e with
  | zero => exact h
  | succ e ih => exact ih.up
theorem Tr.app {d s s' : Nat} {ts ts' : List Ty.api_Tree} {l l' : List Sy} {w w' : List Int} (h : Tr R d s ts l w) (k : Tr R d s' ts' l' w') : Tr R d (s + s') (ts ++ ts') (l ++ l') (w ++ w') := by
  induction h with
  | nil => simpa using k
  | leaf _ ih => rw [show ∀ a b : Nat, a + 1 + b = a + b + 1 by omega]; exact .leaf (ih k)
  | node a b _ _ ih => rw [List.append_assoc, show ∀ a b c : Nat, a + 1 + b + c = a + 1 + (b + c) by omega]; exact .node a b (ih k)
theorem Tr.words {d s : Nat} {ts : List Ty.api_Tree} {l : List Sy} {w : List Int} (h : Tr R d s ts l w) : w.length ≤ s := by
  induction h with
  | nil => simp
  | leaf _ ih => simp; omega
  | node _ _ _ ih1 ih2 => simp; omega
theorem Tr.trees {d s : Nat} {ts : List Ty.api_Tree} {l : List Sy} {w : List Int} (h : Tr R d s ts l w) : ts.length = l.length := by
  induction h with
  | nil => rfl
  | leaf _ ih => simp [ih]
  | node _ _ _ _ ih => simp [ih]
theorem Tr.le {d s : Nat} {ts : List Ty.api_Tree} {l : List Sy} {w : List Int} (h : Tr R d s ts l w) : Le R l w.length := by
  induction h with
  | nil => exact Le.nil_iff.2 rfl
  | leaf _ ih => exact Le.cons_iff.2 ⟨1, _, by simp; omega, Le.term_iff.2 rfl, ih⟩
  | node a _ _ ih1 ih2 => exact Le.cons_iff.2 ⟨_, _, by simp, Le.non_iff.2 ⟨_, List.mem_of_getElem? a, rfl, ih1⟩, ih2⟩
theorem Tr.word_l {d s : Nat} {ts : List Ty.api_Tree} {l : List Sy} {w : List Int} (h : Tr R d s ts l w) :
    ∀ (φ : Nat) (i : Int) (out : List Int), d < φ → out.length + w.length ≤ 1000000 → Pu.forP (P.tree_word.b0 (P.tree_word φ)) i ts out = some (out ++ w) := by
  induction h with
  | nil => intro φ i out _ _; simp [Pu.forP]
  | @leaf d s n ts l w _ ih =>
    intro φ i out hφ hl
    obtain ⟨φ, rfl⟩ : ∃ φ', φ = φ' + 1 := ⟨φ - 1, by omega⟩
    simp only [List.length_cons] at hl
    have e : P.tree_word (φ + 1) out ⟨-1, n, []⟩ = some (out ++ [n]) := by
      simp only [P.tree_word, P.tree_leaf, Option.bind_some, decide_true, if_true]
      rw [app_eq (by simp; omega)]; rfl
    unfold Pu.forP
    rw [P.tree_word.b0, e, Option.bind_some, Option.bind_some, ih (φ + 1) _ _ hφ (by simp; omega)]
    simp [List.append_assoc]
  | @node d s1 s2 k r kids ts l v w _ _ _ ih1 ih2 =>
    intro φ i out hφ hl
    obtain ⟨φ, rfl⟩ : ∃ φ', φ = φ' + 1 := ⟨φ - 1, by omega⟩
    simp only [List.length_append] at hl
    have e : P.tree_word (φ + 1) out ⟨(k : Int), 0, kids⟩ = some (out ++ v) := by
      simp only [P.tree_word, P.tree_leaf, Option.bind_some]
      rw [if_neg (by simp), ih1 φ _ _ (by omega) (by omega)]; rfl
    unfold Pu.forP
    rw [P.tree_word.b0, e, Option.bind_some, Option.bind_some, ih2 (φ + 1) _ _ hφ (by simp; omega)]
    simp
theorem Tr.word {d s : Nat} {t : Ty.api_Tree} {y : Sy} {w : List Int} (h : Tr R d s [t] [y] w) {φ : Nat} (hφ : d < φ) (hs : s ≤ 1000000) : P.tree_Word φ t = some w := by
  have h1 := h.words
  have h2 := h.word_l φ 0 [] hφ (by simp; omega)
  simp only [Pu.forP, P.tree_word.b0, Option.bind_assoc, Option.bind_some] at h2
  unfold P.tree_Word
  simpa using h2
theorem mktree_ok {g : Ty.api_Grammar} (hv : Valid g) : ∀ (φ : Nat) (y : Sy) (s : Ty.parlmake_stream) (left deep : Int), 0 ≤ left → left ≤ 60 → -1 ≤ deep → deep ≤ 12 → deep + 2 ≤ φ →
    Ok (P.parlmake_tree φ g y s left deep) fun r => r.2.2.2 = true → 0 ≤ r.2.1 ∧ ∃ w sz, Tr g.Rules (deep + 1).toNat sz [r.2.2.1] [y] w ∧ (sz : Int) + r.2.1 ≤ left := by
  intro φ
  induction φ with
  | zero => intro y s left deep _ _ _ _ h; omega
  | succ φ ih =>
    intro y s left deep l0 l1 d0 d1 hφ
    rw [P.parlmake_tree, W_id]
    refine .ite (fun _ => .some fun h => by cases h) fun hneg => ?_
    have hneg' : 0 ≤ left - 1 ∧ 0 ≤ deep := by simp at hneg; omega
    cases hyt : y.Term with
    | true =>
      rw [if_pos rfl]
      refine .some fun _ => ⟨hneg'.1, [y.N], 1, ?_, by simp only; omega⟩
      have := Tr.leaf (R := g.Rules) (n := y.N) (Tr.nil (d := (deep + 1).toNat))
      obtain ⟨t, N⟩ := y
      simp only at hyt; subst hyt
      exact this
    | false =>
      rw [if_neg (by simp)]
      refine Ok.bind (forP_ok (fun i (m : List Int) => m.length ≤ i ∧ ∀ x ∈ m, ∃ (k : Nat) (r : Ru), x = k ∧ g.Rules[k]? = some r ∧ r.Left = y.N) ⟨by simp, by simp⟩ ?_ fun s h => h) ?_
      · intro i r m hr ⟨m1, m2⟩
        have hi := (List.getElem?_eq_some_iff.1 hr).1
        have := hv.len
        unfold P.parlmake_tree.b0
        refine Ok.bind (Q := fun (m' : List Int) => m'.length ≤ i + 1 ∧ ∀ x ∈ m', ∃ (k : Nat) (r : Ru), x = k ∧ g.Rules[k]? = some r ∧ r.Left = y.N) (.ite (fun e => ?_) fun _ => .some ⟨by omega, m2⟩) fun s h => .some h
        rw [app_eq (by simp; omega), Option.bind_some]
        refine .some ⟨by simp; omega, fun x hx => ?_⟩
        rcases List.mem_append.1 hx with hx | hx
        · exact m2 x hx
        · cases List.mem_singleton.1 hx; exact ⟨i, r, rfl, hr, e⟩
      · intro m ⟨m1, m2⟩
        have := hv.len
        refine .ite (fun _ => .some fun h => by cases h) fun hne => ?_
        refine (next_ok (by omega) (by omega)).bind fun x3 ⟨a3, b3⟩ => ?_
        rw [ix_el a3 b3, Option.bind_some]
        obtain ⟨k, r, e1, hr, e2⟩ := m2 _ (el_mem a3 b3)
        rw [e1, ix_nat, hr, Option.bind_some]
        have hm := List.mem_of_getElem? hr
        refine Ok.bind (Q := fun | .out t => 0 ≤ t.2.1 ∧ ∃ w sz, Tr g.Rules deep.toNat sz t.2.2 r.Right w ∧ (sz : Int) + t.2.1 ≤ left - 1 | .rt q => q.2.2.2 = false)
          (forL_ok (fun i t => 0 ≤ t.2.1 ∧ ∃ w sz, Tr g.Rules deep.toNat sz t.2.2 (r.Right.take i) w ∧ (sz : Int) + t.2.1 ≤ left - 1) ⟨hneg'.1, [], 0, by rw [List.take_zero]; exact Tr.nil, by simp⟩ ?_ ?_) ?_
        · intro i x t hx ⟨t0, w, sz, tr, tl⟩
          unfold P.parlmake_tree.b1
          rw [W_id]
          refine (ih x _ t.2.1 (deep - 1) t0 (by omega) (by omega) (by omega) (by omega)).bind fun q hq => ?_
          refine .ite (fun _ => .some rfl) fun h => ?_
          obtain ⟨q0, w', sz', tr', tl'⟩ := hq (by simpa using h)
          have hlen : t.2.2.length ≤ 1000 := by
            have h1 := tr.trees
            have h2 := hv.rgt r hm
            rw [List.length_take] at h1
            omega
          rw [app_eq (by simp; omega), Option.bind_some]
          refine .some ⟨q0, w ++ w', sz + sz', ?_, by simp only; omega⟩
          rw [List.take_add_one, hx, Option.toList_some]
          rw [show deep - 1 + 1 = deep by omega] at tr'
          exact tr.app tr'
        · intro t ht
          rw [List.take_length] at ht; exact ht
        · rintro (t | q) hq
          · obtain ⟨t0, w, sz, tr, tl⟩ := hq
            refine .some fun _ => ⟨t0, w, sz + 1, ?_, by simp only; omega⟩
            have h3 := Tr.node hr tr .nil
            rw [e2] at h3
            obtain ⟨t', N⟩ := y
            simp only at hyt; subst hyt
            rw [show (deep + 1).toNat = deep.toNat + 1 by omega]
            simpa using h3
          · exact .some fun h => by simp only at hq; rw [hq] at h; cases h
end Go.Proofs.Ythgdobdhdfjhfaa.Gr
