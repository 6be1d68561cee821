/- guess.Rules, Check, agrees, next, Of. Own work. -/
import Derived.Test.YtcdhhelgoppleaaGs1
namespace Go.Proofs.Ytcdhhelgoppleaa.Gr
open Go Go.Ab Go.Pu
def gvb (R : List Ru) : Bool := R.all fun r => decide (r.Right.length ≤ 10) && decide (0 ≤ r.Left) && decide (r.Left < 2) && r.Right.all fun y => y.Term || (decide (0 ≤ y.N) && decide (y.N < 2))
theorem gvb_ok {R : List Ru} (h : gvb R = true) : GV R ∧ ∀ r ∈ R, r.Right.length ≤ 10 := by
  refine ⟨fun r hr => ?_, fun r hr => ?_⟩ <;> (have := List.all_eq_true.1 h r hr; simp only [Bool.and_eq_true, decide_eq_true_eq, List.all_eq_true, Bool.or_eq_true] at this)
  rotate_left
  · exact this.1.1.1
  refine ⟨⟨this.1.1.2, this.1.2⟩, fun y hy ht => ?_⟩
  rcases this.2 y hy with q | q
  · rw [ht] at q; cases q
  · exact q
def rulesb (t n : Int) : Bool := match P.guess_Rules t n with
  | some (rs, e) => decide (e = 0) && gvb rs && decide (rs.length ≤ 50) && decide (3 < rs.length)
  | none => false
theorem rulesb_ok : rulesb 1 1 = true ∧ rulesb 2 1 = true ∧ rulesb 1 2 = true ∧ rulesb 2 2 = true := by decide +kernel
theorem grules_ok {t n : Int} (t1 : 1 ≤ t) (t2 : t ≤ 2) (n1 : 1 ≤ n) (n2 : n ≤ 2) : Ok (P.guess_Rules t n) fun r => r.2 = 0 ∧ GV r.1 ∧ r.1.length ≤ 50 ∧ 3 < r.1.length ∧ ∀ q ∈ r.1, q.Right.length ≤ 10 := by
  have key : ∀ t n, rulesb t n = true → Ok (P.guess_Rules t n) fun r => r.2 = 0 ∧ GV r.1 ∧ r.1.length ≤ 50 ∧ 3 < r.1.length ∧ ∀ q ∈ r.1, q.Right.length ≤ 10 := by
    intro t n h
    unfold rulesb at h
    split at h
    · rename_i rs e he
      rw [he]
      simp only [Bool.and_eq_true, decide_eq_true_eq] at h
      exact .some ⟨h.1.1.1, (gvb_ok h.1.1.2).1, h.1.2, h.2, (gvb_ok h.1.1.2).2⟩
    · cases h
  obtain ⟨a, b, c, d⟩ := rulesb_ok
  rcases (by omega : t = 1 ∨ t = 2) with rfl | rfl <;> rcases (by omega : n = 1 ∨ n = 2) with rfl | rfl
  · exact key _ _ a
  · exact key _ _ c
  · exact key _ _ b
  · exact key _ _ d

/-! ### agrees -/
/-- The grammar has all of the words, and none of the others. -/
def Agr (R : List Ru) (yes no : List (List Int)) : Prop := (∀ w ∈ yes, Der R w [⟨false, 0⟩] 0 w.length) ∧ ∀ w ∈ no, ¬ Der R w [⟨false, 0⟩] 0 w.length
theorem agrees_ok {g : Ty.api_Grammar} (hg : GV g.Rules) {yes no : List (List Int)} (hy : ∀ w ∈ yes, w.length ≤ 5) (hn : ∀ w ∈ no, w.length ≤ 5) {φ : Nat} (hφ : 2000 < φ) :
    Ok (P.guess_agrees φ g yes no) fun b => b = true ↔ Agr g.Rules yes no := by
  unfold P.guess_agrees
  refine Ok.bind (forL_ok (fun i _ => ∀ j w, j < i → yes[j]? = some w → Der g.Rules w [⟨false, 0⟩] 0 w.length) (Q := fun | .out _ => ∀ w ∈ yes, Der g.Rules w [⟨false, 0⟩] 0 w.length | .rt b => b = false ∧ ∃ w ∈ yes, ¬ Der g.Rules w [⟨false, 0⟩] 0 w.length) (fun j w h => by omega) (fun i w s hw hs => ?_) fun s hs => ?_) fun r hr => ?_
  · unfold P.guess_agrees.b0
    refine (gaccepts_ok hg (hy w (List.mem_of_getElem? hw)) hφ).bind fun b hb => .ite (fun q => ?_) fun q => ?_
    · refine .some ⟨rfl, w, List.mem_of_getElem? hw, fun d => ?_⟩
      rw [hb.2 d] at q; cases q
    · refine .some fun j v hj hv => ?_
      rcases Nat.lt_succ_iff_lt_or_eq.1 hj with e | rfl
      · exact hs j v e hv
      · rw [hw] at hv; cases hv
        exact hb.1 (by simpa using q)
  · intro w hw
    obtain ⟨j, hj, rfl⟩ := List.mem_iff_getElem.1 hw
    exact hs j _ hj (List.getElem?_eq_getElem hj)
  cases r with
  | rt b =>
    obtain ⟨rfl, w, h1, h2⟩ := hr
    exact .some ⟨(fun h => by cases h), fun h => absurd (h.1 w h1) h2⟩
  | out s =>
    have hr' : ∀ w ∈ yes, Der g.Rules w [⟨false, 0⟩] 0 w.length := hr
    show Ok (Option.bind _ _) _
    refine Ok.bind (forL_ok (fun i _ => ∀ j w, j < i → no[j]? = some w → ¬ Der g.Rules w [⟨false, 0⟩] 0 w.length) (Q := fun | .out _ => ∀ w ∈ no, ¬ Der g.Rules w [⟨false, 0⟩] 0 w.length | .rt b => b = false ∧ ∃ w ∈ no, Der g.Rules w [⟨false, 0⟩] 0 w.length) (fun j w h => by omega) (fun i w s hw hs => ?_) fun s hs => ?_) fun r hr => ?_
    · unfold P.guess_agrees.b1
      refine (gaccepts_ok hg (hn w (List.mem_of_getElem? hw)) hφ).bind fun b hb => .ite (fun q => ?_) fun q => ?_
      · exact .some ⟨rfl, w, List.mem_of_getElem? hw, hb.1 q⟩
      · refine .some fun j v hj hv => ?_
        rcases Nat.lt_succ_iff_lt_or_eq.1 hj with e | rfl
        · exact hs j v e hv
        · rw [hw] at hv; cases hv
          exact fun d => q (hb.2 d)
    · intro w hw
      obtain ⟨j, hj, rfl⟩ := List.mem_iff_getElem.1 hw
      exact hs j _ hj (List.getElem?_eq_getElem hj)
    cases r with
    | rt b =>
      obtain ⟨rfl, w, h1, h2⟩ := hr
      exact .some ⟨(fun h => by cases h), fun h => absurd h2 (h.2 w h1)⟩
    | out s =>
      have hr2 : ∀ w ∈ no, ¬ Der g.Rules w [⟨false, 0⟩] 0 w.length := hr
      exact .some ⟨fun _ => ⟨hr', hr2⟩, fun _ => rfl⟩

/-! ### first and next -/
theorem first_eq : P.guess_first 0 = some [] ∧ P.guess_first 1 = some [0] ∧ P.guess_first 2 = some [0, 1] ∧ P.guess_first 3 = some [0, 1, 2] := by decide +kernel
def num : List Int → Nat
  | [] => 0
  | [a] => a.toNat
  | [a, b] => a.toNat * 50 + b.toNat
  | [a, b, c] => a.toNat * 2500 + b.toNat * 50 + c.toNat
  | _ => 0
def nxt (m : Int) : List Int → List Int
  | [a] => if a + 1 < m then [a + 1] else []
  | [a, b] => if b + 1 < m then [a, b + 1] else if a + 2 < m then [a + 1, a + 2] else []
  | [a, b, c] => if c + 1 < m then [a, b, c + 1] else if b + 2 < m then [a, b + 1, b + 2] else if a + 3 < m then [a + 1, a + 2, a + 3] else []
  | _ => []
theorem nxt1 {m a : Int} : nxt m [a] = if a + 1 < m then [a + 1] else [] := rfl
theorem nxt2 {m a b : Int} : nxt m [a, b] = if b + 1 < m then [a, b + 1] else if a + 2 < m then [a + 1, a + 2] else [] := rfl
theorem nxt3 {m a b c : Int} : nxt m [a, b, c] = if c + 1 < m then [a, b, c + 1] else if b + 2 < m then [a, b + 1, b + 2] else if a + 3 < m then [a + 1, a + 2, a + 3] else [] := rfl
theorem ix0 {α : Type} {a : α} {l : List α} : Pu.ix (a :: l) 0 = some a := rfl
theorem ix1 {α : Type} {a b : α} {l : List α} : Pu.ix (a :: b :: l) 1 = some b := rfl
theorem ix2 {α : Type} {a b c : α} {l : List α} : Pu.ix (a :: b :: c :: l) 2 = some c := rfl
theorem st0 {α : Type} {a v : α} {l : List α} : Pu.st (a :: l) 0 v = v :: l := rfl
theorem st1 {α : Type} {a b v : α} {l : List α} : Pu.st (a :: b :: l) 1 v = a :: v :: l := rfl
theorem st2' {α : Type} {a b c v : α} {l : List α} : Pu.st (a :: b :: c :: l) 2 v = a :: b :: v :: l := rfl
theorem clone_eq {l : List Int} (h : l.length ≤ 10) : P.slices_Clone_int_int l = some l := by
  unfold P.slices_Clone_int_int
  rw [app_eq (by simp; omega)]; rfl
theorem wsum {x l i : Int} (h1 : 0 ≤ x) (h2 : x ≤ 100) (h3 : 0 ≤ l) (h4 : l ≤ 10) (h5 : 0 ≤ i) (h6 : i ≤ 10) : Pu.W (Pu.W (Pu.W (x + l) - 1) - i) = x + l - 1 - i := by
  rw [W_id (n := x + l), W_id (n := x + l - 1), W_id]
theorem whl_nx {σ ρ : Type} {body : σ → Option (Pu.Step σ ρ)} {φ : Nat} {s s' : σ} (h : body s = some (.nx s')) : Pu.whl body (φ + 1) s = Pu.whl body φ s' := by rw [Pu.whl, h]
theorem whl_br {σ ρ : Type} {body : σ → Option (Pu.Step σ ρ)} {φ : Nat} {s s' : σ} (h : body s = some (.br s')) : Pu.whl body (φ + 1) s = some (.out s') := by rw [Pu.whl, h]
theorem whl_rt {σ ρ : Type} {body : σ → Option (Pu.Step σ ρ)} {φ : Nat} {s : σ} {r : ρ} (h : body s = some (.rt r)) : Pu.whl body (φ + 1) s = some (.rt r) := by rw [Pu.whl, h]
section
variable {m a b c x y z : Int} {f : Nat}
theorem in1 : Pu.whl P.guess_next.b1 (f + 10) ([x], 1) = some (.out ([x], 1)) := rfl
theorem in2_2 : Pu.whl P.guess_next.b1 (f + 10) ([x, y], 2) = some (.out ([x, y], 2)) := rfl
theorem in2_1 : Pu.whl P.guess_next.b1 (f + 10) ([x, y], 1) = some (.out ([x, Pu.W (x + 1)], 2)) := rfl
theorem in3_3 : Pu.whl P.guess_next.b1 (f + 10) ([x, y, z], 3) = some (.out ([x, y, z], 3)) := rfl
theorem in3_2 : Pu.whl P.guess_next.b1 (f + 10) ([x, y, z], 2) = some (.out ([x, y, Pu.W (y + 1)], 3)) := rfl
theorem in3_1 : Pu.whl P.guess_next.b1 (f + 10) ([x, y, z], 1) = some (.out ([x, Pu.W (x + 1), Pu.W (Pu.W (x + 1) + 1)], 3)) := rfl
theorem b0_end {l : List Int} : P.guess_next.b0 (f + 10) m (l, -1) = some (.br (l, -1)) := rfl
theorem b0_1 (hm : m ≤ 50) (a0 : 0 ≤ a) (a1 : a < m) : P.guess_next.b0 (f + 10) m ([a], 0) = if a + 1 < m then some (.rt [a + 1]) else some (.nx ([a + 1], -1)) := by
  unfold P.guess_next.b0
  simp only [Int.le_refl, if_true, ix0, st0, Option.bind_some, List.length_cons, List.length_nil, W_id (n := a + 1)]
  rw [wsum (by omega) (by omega) (by omega) (by omega) (by omega) (by omega), show a + 1 + ((0 + 1 : Nat) : Int) - 1 - 0 = a + 1 by omega, show Pu.W (0 + 1) = 1 from rfl, show Pu.W (0 - 1) = -1 from rfl, in1]
  rfl
theorem b0_2_1 (hm : m ≤ 50) (b0 : 0 ≤ b) (b1 : b < m) : P.guess_next.b0 (f + 10) m ([a, b], 1) = if b + 1 < m then some (.rt [a, b + 1]) else some (.nx ([a, b + 1], 0)) := by
  unfold P.guess_next.b0
  simp only [show (0 : Int) ≤ 1 by omega, if_true, ix1, st1, Option.bind_some, List.length_cons, List.length_nil, W_id (n := b + 1)]
  rw [wsum (by omega) (by omega) (by omega) (by omega) (by omega) (by omega), show b + 1 + ((0 + 1 + 1 : Nat) : Int) - 1 - 1 = b + 1 by omega, show Pu.W (1 + 1) = 2 from rfl, show Pu.W (1 - 1) = 0 from rfl, in2_2]
  rfl
theorem b0_2_0 (hm : m ≤ 50) (a0 : 0 ≤ a) (a1 : a < m) : P.guess_next.b0 (f + 10) m ([a, b], 0) = if a + 2 < m then some (.rt [a + 1, a + 2]) else some (.nx ([a + 1, b], -1)) := by
  unfold P.guess_next.b0
  simp only [Int.le_refl, if_true, ix0, st0, Option.bind_some, List.length_cons, List.length_nil, W_id (n := a + 1)]
  rw [wsum (by omega) (by omega) (by omega) (by omega) (by omega) (by omega), show a + 1 + ((0 + 1 + 1 : Nat) : Int) - 1 - 0 = a + 2 by omega, show Pu.W (0 + 1) = 1 from rfl, show Pu.W (0 - 1) = -1 from rfl, in2_1, show Pu.W (a + 1 + 1) = a + 2 by rw [W_id]; omega]
  rfl
theorem b0_3_2 (hm : m ≤ 50) (c0 : 0 ≤ c) (c1 : c < m) : P.guess_next.b0 (f + 10) m ([a, b, c], 2) = if c + 1 < m then some (.rt [a, b, c + 1]) else some (.nx ([a, b, c + 1], 1)) := by
  unfold P.guess_next.b0
  simp only [show (0 : Int) ≤ 2 by omega, if_true, ix2, st2', Option.bind_some, List.length_cons, List.length_nil, W_id (n := c + 1)]
  rw [wsum (by omega) (by omega) (by omega) (by omega) (by omega) (by omega), show c + 1 + ((0 + 1 + 1 + 1 : Nat) : Int) - 1 - 2 = c + 1 by omega, show Pu.W (2 + 1) = 3 from rfl, show Pu.W (2 - 1) = 1 from rfl, in3_3]
  rfl
theorem b0_3_1 (hm : m ≤ 50) (b0 : 0 ≤ b) (b1 : b < m) : P.guess_next.b0 (f + 10) m ([a, b, c], 1) = if b + 2 < m then some (.rt [a, b + 1, b + 2]) else some (.nx ([a, b + 1, c], 0)) := by
  unfold P.guess_next.b0
  simp only [show (0 : Int) ≤ 1 by omega, if_true, ix1, st1, Option.bind_some, List.length_cons, List.length_nil, W_id (n := b + 1)]
  rw [wsum (by omega) (by omega) (by omega) (by omega) (by omega) (by omega), show b + 1 + ((0 + 1 + 1 + 1 : Nat) : Int) - 1 - 1 = b + 2 by omega, show Pu.W (1 + 1) = 2 from rfl, show Pu.W (1 - 1) = 0 from rfl, in3_2, show Pu.W (b + 1 + 1) = b + 2 by rw [W_id]; omega]
  rfl
theorem b0_3_0 (hm : m ≤ 50) (a0 : 0 ≤ a) (a1 : a < m) : P.guess_next.b0 (f + 10) m ([a, b, c], 0) = if a + 3 < m then some (.rt [a + 1, a + 2, a + 3]) else some (.nx ([a + 1, b, c], -1)) := by
  unfold P.guess_next.b0
  simp only [Int.le_refl, if_true, ix0, st0, Option.bind_some, List.length_cons, List.length_nil, W_id (n := a + 1)]
  rw [wsum (by omega) (by omega) (by omega) (by omega) (by omega) (by omega), show a + 1 + ((0 + 1 + 1 + 1 : Nat) : Int) - 1 - 0 = a + 3 by omega, show Pu.W (0 + 1) = 1 from rfl, show Pu.W (0 - 1) = -1 from rfl, in3_1, show Pu.W (a + 1 + 1) = a + 2 by rw [W_id]; omega, show Pu.W (a + 2 + 1) = a + 3 by rw [W_id]; omega]
  rfl
theorem next_eq0 : P.guess_next (f + 10) [] m = some [] := rfl
theorem next_eq1 (hm : m ≤ 50) (a0 : 0 ≤ a) (a1 : a < m) : P.guess_next (f + 10) [a] m = some (nxt m [a]) := by
  unfold P.guess_next
  rw [nxt1]
  rw [clone_eq (by simp), Option.bind_some, show Pu.W ((([a] : List Int).length : Int) - 1) = 0 from rfl]
  have h1 := b0_1 (f := f) hm a0 a1
  by_cases q : a + 1 < m
  · rw [if_pos q] at h1 ⊢; rw [whl_rt h1]; rfl
  · rw [if_neg q] at h1 ⊢; rw [whl_nx h1, whl_br b0_end]; rfl
theorem next_eq2 (hm : m ≤ 50) (a0 : 0 ≤ a) (ab : a < b) (b1 : b < m) : P.guess_next (f + 10) [a, b] m = some (nxt m [a, b]) := by
  unfold P.guess_next
  rw [nxt2]
  rw [clone_eq (by simp), Option.bind_some, show Pu.W ((([a, b] : List Int).length : Int) - 1) = 1 from rfl]
  have h1 := b0_2_1 (f := f) (a := a) hm (by omega : 0 ≤ b) b1
  by_cases q : b + 1 < m
  · rw [if_pos q] at h1 ⊢; rw [whl_rt h1]; rfl
  · rw [if_neg q] at h1 ⊢; rw [whl_nx h1]
    have h2 := b0_2_0 (f := f) (b := b + 1) hm a0 (by omega : a < m)
    by_cases q2 : a + 2 < m
    · rw [if_pos q2] at h2 ⊢; rw [whl_rt h2]; rfl
    · rw [if_neg q2] at h2 ⊢; rw [whl_nx h2, whl_br b0_end]; rfl
theorem next_eq3 (hm : m ≤ 50) (a0 : 0 ≤ a) (ab : a < b) (bc : b < c) (c1 : c < m) : P.guess_next (f + 10) [a, b, c] m = some (nxt m [a, b, c]) := by
  unfold P.guess_next
  rw [nxt3]
  rw [clone_eq (by simp), Option.bind_some, show Pu.W ((([a, b, c] : List Int).length : Int) - 1) = 2 from rfl]
  have h1 := b0_3_2 (f := f) (a := a) (b := b) hm (by omega : 0 ≤ c) c1
  by_cases q : c + 1 < m
  · rw [if_pos q] at h1 ⊢; rw [whl_rt h1]; rfl
  · rw [if_neg q] at h1 ⊢; rw [whl_nx h1]
    have h2 := b0_3_1 (f := f) (a := a) (c := c + 1) hm (by omega : 0 ≤ b) (by omega : b < m)
    by_cases q2 : b + 2 < m
    · rw [if_pos q2] at h2 ⊢; rw [whl_rt h2]; rfl
    · rw [if_neg q2] at h2 ⊢; rw [whl_nx h2]
      have h3 := b0_3_0 (f := f) (b := b + 1) (c := c + 1) hm a0 (by omega : a < m)
      by_cases q3 : a + 3 < m
      · rw [if_pos q3] at h3 ⊢; rw [whl_rt h3]; rfl
      · rw [if_neg q3] at h3 ⊢; rw [whl_nx h3, whl_br b0_end]; rfl
end
/-- k increasing numbers below m. -/
def At (k : Int) (m : Int) (l : List Int) : Prop :=
  (k = 0 ∧ l = []) ∨ (∃ a, k = 1 ∧ l = [a] ∧ 0 ≤ a ∧ a < m) ∨ (∃ a b, k = 2 ∧ l = [a, b] ∧ 0 ≤ a ∧ a < b ∧ b < m) ∨ ∃ a b c, k = 3 ∧ l = [a, b, c] ∧ 0 ≤ a ∧ a < b ∧ b < c ∧ c < m
theorem At.len {k m : Int} {l : List Int} (h : At k m l) : (l.length : Int) = k := by
  rcases h with ⟨rfl, rfl⟩ | ⟨a, rfl, rfl, _⟩ | ⟨a, b, rfl, rfl, _⟩ | ⟨a, b, c, rfl, rfl, _⟩ <;> rfl
theorem At.mem {k m : Int} {l : List Int} (h : At k m l) : ∀ x ∈ l, 0 ≤ x ∧ x < m := by
  rcases h with ⟨rfl, rfl⟩ | ⟨a, rfl, rfl, _⟩ | ⟨a, b, rfl, rfl, _⟩ | ⟨a, b, c, rfl, rfl, _⟩ <;> intro x hx <;> simp at hx <;> omega
theorem At.num {k m : Int} {l : List Int} (hm : m ≤ 50) (h : At k m l) : num l < 130000 := by
  rcases h with ⟨rfl, rfl⟩ | ⟨a, rfl, rfl, _⟩ | ⟨a, b, rfl, rfl, _⟩ | ⟨a, b, c, rfl, rfl, _⟩ <;> simp only [Gr.num] <;> omega
theorem At.next {k m : Int} {l : List Int} (hm : m ≤ 50) (h : At k m l) (f : Nat) : ∃ l', P.guess_next (f + 10) l m = some l' ∧ (l' ≠ [] → At k m l' ∧ Gr.num l < Gr.num l') := by
  rcases h with ⟨rfl, rfl⟩ | ⟨a, rfl, rfl, h1, h2⟩ | ⟨a, b, rfl, rfl, h1, h2, h3⟩ | ⟨a, b, c, rfl, rfl, h1, h2, h3, h4⟩
  · exact ⟨[], next_eq0, fun h => absurd rfl h⟩
  · refine ⟨_, next_eq1 hm h1 h2, fun h => ?_⟩
    rw [nxt1] at h ⊢
    split at h
    · rename_i q; rw [if_pos q]; exact ⟨.inr (.inl ⟨_, rfl, rfl, by omega, q⟩), by simp only [Gr.num]; omega⟩
    · exact absurd rfl h
  · refine ⟨_, next_eq2 hm h1 h2 h3, fun h => ?_⟩
    rw [nxt2] at h ⊢
    split at h
    · rename_i q; rw [if_pos q]; exact ⟨.inr (.inr (.inl ⟨_, _, rfl, rfl, by omega, by omega, q⟩)), by simp only [Gr.num]; omega⟩
    · rename_i q; rw [if_neg q]
      split at h
      · rename_i q; rw [if_pos q]; exact ⟨.inr (.inr (.inl ⟨_, _, rfl, rfl, by omega, by omega, q⟩)), by simp only [Gr.num]; omega⟩
      · exact absurd rfl h
  · refine ⟨_, next_eq3 hm h1 h2 h3 h4, fun h => ?_⟩
    rw [nxt3] at h ⊢
    split at h
    · rename_i q; rw [if_pos q]; exact ⟨.inr (.inr (.inr ⟨_, _, _, rfl, rfl, by omega, by omega, by omega, q⟩)), by simp only [Gr.num]; omega⟩
    · rename_i q; rw [if_neg q]
      split at h
      · rename_i q; rw [if_pos q]; exact ⟨.inr (.inr (.inr ⟨_, _, _, rfl, rfl, by omega, by omega, by omega, q⟩)), by simp only [Gr.num]; omega⟩
      · rename_i q; rw [if_neg q]
        split at h
        · rename_i q; rw [if_pos q]; exact ⟨.inr (.inr (.inr ⟨_, _, _, rfl, rfl, by omega, by omega, by omega, q⟩)), by simp only [Gr.num]; omega⟩
        · exact absurd rfl h
theorem first_ok {k m : Int} (h0 : 0 ≤ k) (h1 : k ≤ 3) (hm : 3 < m) : ∃ l, P.guess_first k = some l ∧ At k m l := by
  obtain ⟨a, b, c, d⟩ := first_eq
  rcases (by omega : k = 0 ∨ k = 1 ∨ k = 2 ∨ k = 3) with rfl | rfl | rfl | rfl
  · exact ⟨_, a, .inl ⟨rfl, rfl⟩⟩
  · exact ⟨_, b, .inr (.inl ⟨_, rfl, rfl, by omega, by omega⟩)⟩
  · exact ⟨_, c, .inr (.inr (.inl ⟨_, _, rfl, rfl, by omega, by omega, by omega⟩))⟩
  · exact ⟨_, d, .inr (.inr (.inr ⟨_, _, _, rfl, rfl, by omega, by omega, by omega, by omega⟩))⟩
end Go.Proofs.Ytcdhhelgoppleaa.Gr
