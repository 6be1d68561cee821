import Derived.Test.YtmeigkelacoibaaTree0
namespace Go.Proofs.Ytmeigkelacoibaa.Gr
open Go Go.Ab Go.Pu
variable {R : List Ru}
theorem Tr.one {d s : Nat} {t : Ty.A4} {y : Sy} {w : List Int} (h : Tr R d s [t] [y] w) :
 (∃ n, t = ⟨-1, n, []⟩ ∧ y = ⟨true, n⟩ ∧ s = 1 ∧ w = [n]) ∨ ∃ (d' k s1 : Nat) (r : Ru) (kids : List Ty.A4), d = d' + 1 ∧ R[k]? = some r ∧ t = ⟨(k : Int), 0, kids⟩ ∧ y = ⟨false, r.Left⟩ ∧ s = s1 + 1 ∧ Tr R d' s1 kids r.Right w := by
 cases h with
 | leaf q => cases q; exact .inl ⟨_, rfl, rfl, rfl, rfl⟩
 | node a b q => cases q; exact .inr ⟨_, _, _, _, _, rfl, a, rfl, rfl, rfl, by simpa using b⟩
theorem Tr.cons {d s : Nat} {t : Ty.A4} {ts : List Ty.A4} {l : List Sy} {w : List Int} (h : Tr R d s (t :: ts) l w) :
 ∃ s1 s2 y l' w1 w2, s = s1 + s2 ∧ l = y :: l' ∧ w = w1 ++ w2 ∧ Tr R d s1 [t] [y] w1 ∧ Tr R d s2 ts l' w2 := by
 cases h with
 | leaf q => exact ⟨1, _, _, _, [_], _, by omega, rfl, rfl, .leaf .nil, q⟩
 | @node _ s1 s2 _ _ _ _ _ v _ a b q => exact ⟨s1 + 1, s2, _, _, v, _, by omega, rfl, rfl, by have := Tr.node a b .nil; simpa using this, q⟩
theorem Tr.at : ∀ {ts : List Ty.A4} {d s : Nat} {l : List Sy} {w : List Int}, Tr R d s ts l w → ∀ {i : Nat} {x : Ty.A4}, ts[i]? = some x →
 ∃ y si wi, l[i]? = some y ∧ Tr R d si [x] [y] wi ∧ si ≤ s ∧ ∀ v s' w', Tr R d s' [v] [y] w' → ∃ w'', Tr R d (s - si + s') (ts.set i v) l w''
 | [], d, s, l, w, h, i, x, hx => by simp at hx
 | t :: ts, d, s, l, w, h, i, x, hx => by
   obtain ⟨s1, s2, y, l', w1, w2, rfl, rfl, rfl, h1, h2⟩ := h.cons
   cases i with
   | zero =>
     simp only [List.getElem?_cons_zero, Option.some.injEq] at hx; subst hx
     refine ⟨y, s1, w1, rfl, h1, by omega, fun v s' w' hv => ⟨w' ++ w2, ?_⟩⟩
     rw [show s1 + s2 - s1 + s' = s' + s2 by omega]
     exact hv.app h2
   | succ i =>
     simp only [List.getElem?_cons_succ] at hx
     obtain ⟨y', si, wi, a, b, c, e⟩ := h2.at hx
     refine ⟨y', si, wi, by simpa using a, b, by omega, fun v s' w' hv => ?_⟩
     obtain ⟨w'', q⟩ := e v s' w' hv
     refine ⟨w1 ++ w'', ?_⟩
     rw [show s1 + s2 - si + s' = s1 + (s2 - si + s') by omega]
     exact h1.app q
theorem Tr.size_l {d s : Nat} {ts : List Ty.A4} {l : List Sy} {w : List Int} (h : Tr R d s ts l w) :
 ∀ (φ : Nat) (i : Int) (n : Int), d < φ → 0 ≤ n → n + s ≤ 1000000 → Pu.forP (P.D8.b0 (P.D8 φ)) i ts n = some (n + s) := by
 induction h with
 | nil => intro φ i n _ _ _; simp [Pu.forP]
 | @leaf d s n0 ts l w _ ih =>
   intro φ i n hφ h0 hl
   obtain ⟨φ, rfl⟩ : ∃ φ', φ = φ' + 1 := ⟨φ - 1, by omega⟩
   have e : P.D8 (φ + 1) ⟨-1, n0, []⟩ = some 1 := by simp [P.D8, P.E4]
   unfold Pu.forP
   rw [P.D8.b0, e, Option.bind_some, Option.bind_some, W_id, ih (φ + 1) _ _ hφ (by omega) (by omega)]
   congr 1; omega
 | @node d s1 s2 k r kids ts l v w _ _ _ ih1 ih2 =>
   intro φ i n hφ h0 hl
   obtain ⟨φ, rfl⟩ : ∃ φ', φ = φ' + 1 := ⟨φ - 1, by omega⟩
   have e : P.D8 (φ + 1) ⟨(k : Int), 0, kids⟩ = some (1 + (s1 : Int)) := by
    simp only [P.D8, P.E4, Option.bind_some]
    rw [if_neg (by simp), ih1 φ _ _ (by omega) (by omega) (by omega)]; rfl
   unfold Pu.forP
   rw [P.D8.b0, e, Option.bind_some, Option.bind_some, W_id, ih2 (φ + 1) _ _ hφ (by omega) (by omega)]
   congr 1; omega
theorem Tr.size {d s : Nat} {t : Ty.A4} {y : Sy} {w : List Int} (h : Tr R d s [t] [y] w) {φ : Nat} (hφ : d < φ) (hs : s ≤ 100000) : P.D8 φ t = some (s : Int) := by
 have h2 := h.size_l φ 0 0 hφ (by omega) (by omega)
 simp only [Pu.forP, P.D8.b0, Option.bind_assoc, Option.bind_some] at h2
 obtain ⟨x, hx, e⟩ := Pu.bind_some h2
 have hx2 : P.D8 φ t = some x := hx
 rw [hx2]
 rcases h.one with ⟨n, rfl, -, rfl, -⟩ | ⟨d', k, s1, r, kids, rfl, hr, rfl, -, rfl, hk⟩
 ·obtain ⟨φ, rfl⟩ : ∃ φ', φ = φ' + 1 := ⟨φ - 1, by omega⟩
  simp [P.D8, P.E4] at hx2
  rw [← hx2]; rfl
 ·obtain ⟨φ, rfl⟩ : ∃ φ', φ = φ' + 1 := ⟨φ - 1, by omega⟩
  simp only [P.D8, P.E4, Option.bind_some] at hx2
  rw [if_neg (by simp), hk.size_l φ _ _ (by omega) (by omega) (by omega)] at hx2
  simp at hx2
  rw [← hx2]; congr 1; omega
def SyOk (g : Ty.B2) (y : Sy) : Prop := y.Term = true → 0 ≤ y.N ∧ y.N < g.Terms
theorem Valid.syok {g : Ty.B2} (hv : Valid g) {r : Ru} (hr : r ∈ g.Rules) : ∀ y ∈ r.Right, SyOk g y := fun y hy ht => ⟨(hv.sym r hr y hy).1, (hv.sym r hr y hy).2.1 ht⟩
theorem symbol_ok {g : Ty.B2} {d s : Nat} {t : Ty.A4} {y : Sy} {w : List Int} (h : Tr g.Rules d s [t] [y] w) (hy : SyOk g y) : P.F1 g t = some (y, true) := by
 rcases h.one with ⟨n, rfl, rfl, rfl, -⟩ | ⟨d', k, s1, r, kids, rfl, hr, rfl, rfl, rfl, hk⟩
 ·obtain ⟨a, b⟩ := hy rfl
  simp only [P.F1, P.E4, Option.bind_some, decide_true, if_true]
  rw [if_pos (by simpa using a), if_pos (by simpa using b)]
  rfl
 ·have := (List.getElem?_eq_some_iff.1 hr).1
  simp only [P.F1, P.E4, Option.bind_some]
  rw [if_neg (by simp), if_neg (by simp only [Bool.or_eq_true, decide_eq_true_eq]; omega), ix_nat, hr, Option.bind_some]
  simp
theorem valid_ok {g : Ty.B2} (hv : Valid g) : ∀ (φ d s : Nat) (t : Ty.A4) (y : Sy) (w : List Int), Tr g.Rules d s [t] [y] w → d < φ → SyOk g y → P.D9 φ g t = some true := by
 intro φ
 induction φ with
 | zero => intro d s t y w _ h; omega
 | succ φ ih =>
   intro d s t y w h hφ hy
   refine Ok.eq ?_
   have es := symbol_ok h hy
   simp only [P.D9, es, Option.bind_some]
   rcases h.one with ⟨n, rfl, rfl, rfl, -⟩ | ⟨d', k, s1, r, kids, rfl, hr, rfl, rfl, rfl, hk⟩
   ·exact .some (by simp [P.E4])
   ·have hm := List.mem_of_getElem? hr
    have hl := hk.trees
    simp only [P.E4, Option.bind_some, Bool.not_true, Bool.false_eq_true, if_false]
    rw [if_neg (by simp), ix_nat, hr, Option.bind_some, if_neg (by omega)]
    refine Ok.bind (forL_ok (fun _ _ => True) (Q := fun q => q = .out ()) trivial (fun i x q hx _ => ?_) fun _ _ => rfl) fun q hq => by subst hq; exact .some rfl
    obtain ⟨y, si, wi, a, b, c, -⟩ := hk.at hx
    have hyo := hv.syok hm y (List.mem_of_getElem? a)
    unfold P.D9.b0
    rw [symbol_ok b hyo, Option.bind_some]
    simp only [Bool.not_true, Bool.false_eq_true, if_false]
    rw [ix_nat, a, Option.bind_some, Option.bind_some]
    simp only [BEq.rfl, Bool.and_self, Bool.not_true, Bool.false_eq_true, if_false]
    rw [ih d' si x y wi b (by omega) hyo]
    exact .some trivial
theorem tcheck_ok {g : Ty.B2} (hv : Valid g) {φ d s : Nat} {t : Ty.A4} {y : Sy} {w : List Int} (h : Tr g.Rules d s [t] [y] w) (hφ : d < φ) (hs : s ≤ 5000) (hy : SyOk g y) : P.F2 φ g t = some 0 := by
 unfold P.F2
 rw [check_ok hv, Option.bind_some, if_neg (by omega), h.size hφ (by omega), Option.bind_some, if_neg (by omega), valid_ok hv φ d s t y w h hφ hy, Option.bind_some]
 rfl
end Go.Proofs.Ytmeigkelacoibaa.Gr
