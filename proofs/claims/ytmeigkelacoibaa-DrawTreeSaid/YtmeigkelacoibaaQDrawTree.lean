import Derived.Test.YtmeigkelacoibaaRk5
import Derived.Test.YtmeigkelacoibaaRk4
import Derived.Test.YtmeigkelacoibaaTree2
import Derived.Test.YtmeigkelacoibaaPln
import Derived.Test.YtmeigkelacoibaaBel
namespace Go.Proofs.Ytmeigkelacoibaa.Gr
open Go Go.Ab Go.Pu
theorem shl_pow : ∀ s : Nat, s ≤ 30 → Pu.shl .i64 1 (s : Int) = some ((2 ^ s : Nat) : Int) := by
 have h : ∀ s : Fin 31, Pu.shl .i64 1 ((s : Nat) : Int) = some ((2 ^ (s : Nat) : Nat) : Int) := by decide
 exact fun s hs => h ⟨s, by omega⟩
theorem bits_ok {n : Int} (h1 : 1 ≤ n) (h2 : n ≤ 1000000000) {φ : Nat} (hφ : 50 ≤ φ) : Ok (whl (P.draw_Number.b0 n) φ 0) fun y => ∃ b : Nat, y = .out (b : Int) ∧ b ≤ 30 ∧ (b = 0 → n = 1) := by
 refine whl_ok (ρ := Unit) (fun s : Int => ∃ b : Nat, s = b ∧ b ≤ 30) (fun s : Int => 31 - s.toNat) ⟨0, rfl, by omega⟩ ?_ (by simp; omega)
 rintro s ⟨b, rfl, hb⟩
 unfold P.draw_Number.b0
 rw [shl_pow b hb, Option.bind_some]
 refine .ite (fun h => ?_) fun h => .some ⟨b, rfl, hb, fun e => ?_⟩
 ·have hb6 : b ≤ 29 := by
   rcases Nat.lt_or_ge b 30 with q | q
   ·omega
   ·have : b = 30 := by omega
    subst this; simp at h; omega
  rw [W_id]
  exact .some ⟨⟨b + 1, by omega, by omega⟩, by omega⟩
 ·subst e; simp at h; omega
theorem chunk_ok (c : List Bool) (hc : c.length ≤ 30) : Ok (Pu.forP P.draw_Number.b2 0 c 0) fun y => 0 ≤ y ∧ (c = [] → y = 0) := by
 refine forP_ok (fun i s => 0 ≤ s ∧ s < 2 ^ i ∧ (i = 0 → s = 0)) ⟨by omega, by decide, fun _ => rfl⟩ ?_ fun s h => ⟨h.1, fun e => h.2.2 (by rw [e]; rfl)⟩
 intro i x s hx ⟨h0, h1, _⟩
 have hi := (List.getElem?_eq_some_iff.1 hx).1
 have hp : (2 : Int) ^ i ≤ 1073741824 := by
  have : 2 ^ i ≤ 2 ^ 30 := Nat.pow_le_pow_right (by omega) (by omega)
  have e : ((2 ^ i : Nat) : Int) = 2 ^ i := by norm_cast
  omega
 have hs : (2 : Int) ^ (i + 1) = 2 * 2 ^ i := by rw [Int.pow_succ]; omega
 unfold P.draw_Number.b2
 rw [W_id (n := s * 2), W_id]
 cases x
 ·exact .some ⟨by omega, by omega, by omega⟩
 ·exact .some ⟨by omega, by omega, by omega⟩
theorem number_ok {n : Int} (h1 : 1 ≤ n) (h2 : n ≤ 1000000000) {c : List Bool} (hc : c.length ≤ 140737488355328) {φ : Nat} (hφ : c.length + 100 ≤ φ) : Ok (P.draw_Number φ n c) fun r => r.2.2 ≠ 0 ∧ r.2.1 = 0 ∨ r.2.2 = 0 ∧ 0 ≤ r.1 ∧ r.1 < n := by
 unfold P.draw_Number
 rw [if_neg (by simp; omega)]
 refine (bits_ok h1 h2 (by omega)).bind ?_
 rintro _ ⟨b, rfl, hb, hb0⟩
 dsimp only [Fin.cs]
 refine Ok.bind (Q := fun y => match y with | .out _ => True | .rt r => r.2.2 = 0 ∧ 0 ≤ r.1 ∧ r.1 < n) ?_ fun y hy => ?_
 ·refine whl_ok (fun s : Int => ∃ u : Nat, s = u ∧ u ≤ c.length) (fun s : Int => c.length + 1 - s.toNat) ⟨0, rfl, by omega⟩ ?_ (by simp; omega)
  rintro s ⟨u, rfl, hu⟩
  unfold P.draw_Number.b1
  rw [W_id]
  refine .ite (fun h => ?_) fun _ => .some trivial
  rw [sub_eq (by omega) (by omega) (by omega), Option.bind_some]
  refine (chunk_ok _ (by simp; omega)).bind fun y ⟨y0, y1⟩ => .ite (fun hy => .some ⟨rfl, y0, hy⟩) fun hy => .some ⟨⟨u + b, by omega, by omega⟩, ?_⟩
  have : b ≠ 0 := fun e => by
   subst e
   have := y1 (List.eq_nil_of_length_eq_zero (by simp))
   have := hb0 rfl
   omega
  omega
 ·cases y with
  | out s => exact .some (.inl ⟨by simp, rfl⟩)
  | rt r => exact .some (.inr hy)
theorem scomp_ok : ∀ l : List Int, P.slices_Compare_int_int l l = some 0 := by
 intro l
 refine Ok.eq ?_
 unfold P.slices_Compare_int_int
 refine Ok.bind (Q := fun y => y = .out ()) ?_ fun y hy => by subst hy; dsimp only [Fin.cs]; rw [if_neg (by omega)]; exact .some rfl
 refine forL_ok (fun _ _ => True) trivial ?_ fun _ _ => rfl
 intro i x s hx _
 have hi := (List.getElem?_eq_some_iff.1 hx).1
 unfold P.slices_Compare_int_int.b0
 rw [if_neg (by omega), ix_nat, hx, Option.bind_some, cmp_ok, Option.bind_some, if_neg (by simp)]
 exact .some trivial
theorem Tr.rules_l {R : List Ru} {d s : Nat} {ts : List Ty.api_Tree} {l : List Sy} {w : List Int} (h : Tr R d s ts l w) :
 ∀ (φ : Nat) (i : Int) (out : List Int), d < φ → out.length + s ≤ 1000000 → ∃ v, v.length = s ∧ Pu.forP (P.tree_rules.b0 (P.tree_rules φ)) i ts out = some (out ++ v) := by
 induction h with
 | nil => intro φ i out _ _; exact ⟨[], rfl, by simp [Pu.forP]⟩
 | @leaf d s n ts l w _ ih =>
   intro φ i out hφ hl
   obtain ⟨φ, rfl⟩ : ∃ φ', φ = φ' + 1 := ⟨φ - 1, by omega⟩
   have e : P.tree_rules (φ + 1) out ⟨-1, n, []⟩ = some (out ++ [-1]) := by
    simp only [P.tree_rules, P.tree_leaf]
    rw [app_eq (by simp; omega)]; rfl
   obtain ⟨v, hv, h2⟩ := ih (φ + 1) (i + 1) (out ++ [-1]) hφ (by simp; omega)
   refine ⟨-1 :: v, by simp [hv], ?_⟩
   unfold Pu.forP
   rw [P.tree_rules.b0, e, Option.bind_some, Option.bind_some, h2]
   simp [List.append_assoc]
 | @node d s1 s2 k r kids ts l v w _ _ _ ih1 ih2 =>
   intro φ i out hφ hl
   obtain ⟨φ, rfl⟩ : ∃ φ', φ = φ' + 1 := ⟨φ - 1, by omega⟩
   obtain ⟨v1, hv1, e1⟩ := ih1 φ 0 (out ++ [(k : Int)]) (by omega) (by simp; omega)
   have e : P.tree_rules (φ + 1) out ⟨(k : Int), 0, kids⟩ = some (out ++ [(k : Int)] ++ v1) := by
    simp only [P.tree_rules, P.tree_leaf]
    rw [app_eq (by simp; omega), Option.bind_some, Option.bind_some, if_neg (by simp), e1]; rfl
   obtain ⟨v2, hv2, e2⟩ := ih2 (φ + 1) (i + 1) (out ++ [(k : Int)] ++ v1) hφ (by simp; omega)
   refine ⟨(k : Int) :: v1 ++ v2, by simp [hv1, hv2]; omega, ?_⟩
   unfold Pu.forP
   rw [P.tree_rules.b0, e, Option.bind_some, Option.bind_some, e2]
   simp [List.append_assoc]
theorem Tr.rules {R : List Ru} {d s : Nat} {t : Ty.api_Tree} {y : Sy} {w : List Int} (h : Tr R d s [t] [y] w) {φ : Nat} (hφ : d < φ) (hs : s ≤ 5000) : ∃ v, P.tree_rules φ [] t = some v := by
 obtain ⟨v, -, h2⟩ := h.rules_l φ 0 [] hφ (by simp; omega)
 simp only [Pu.forP, P.tree_rules.b0, Option.bind_assoc, Option.bind_some] at h2
 exact ⟨_, by simpa using h2⟩
theorem tcompare_ok {R : List Ru} {d s : Nat} {t : Ty.api_Tree} {y : Sy} {w : List Int} (h : Tr R d s [t] [y] w) {φ : Nat} (hφ : d < φ) (hs : s ≤ 5000) : P.tree_Compare φ t t = some 0 := by
 obtain ⟨v, hv⟩ := h.rules hφ hs
 unfold P.tree_Compare
 rw [h.size hφ (by omega), Option.bind_some, Option.bind_some, cmp_ok, Option.bind_some, if_neg (by simp), hv, Option.bind_some, Option.bind_some, scomp_ok, Option.bind_some, if_neg (by simp), h.word hφ (by omega), Option.bind_some, Option.bind_some, scomp_ok]
 rfl
theorem first_draw : ∃ φ0, ∀ φ, φ0 ≤ φ → Ok (P.draw_Tree φ gPlain 1 []) fun x => x.2.2 = 0 ∧ x.1.Kids.length = 1 := by
 obtain ⟨N, E, hN⟩ := env_ok plain_valid (n := 1) (by omega)
 have e0 : P.census_Trees 10000 gPlain 1 = some ([[0, 1]], 0) := by decide +kernel
 have e1 := hN 10000 (Nat.le_refl _)
 have e2 : N = [[0, 1]] := by
  have e3 : P.census_Trees 10000 gPlain 1 = some (N, 0) := e1
  rw [e0] at e3
  simpa using (Option.some.inj e3).symm
 subst e2
 obtain ⟨q, eq, hq⟩ := count_of E (hN 10000 (Nat.le_refl _))
 have e5 : ∀ φ, 10000 ≤ φ → P.rank_open φ gPlain 1 = some (some ⟨gPlain, [[0, 1]], []⟩, 1, 0) := by
  intro φ hφ
  have e4 : P.census_Trees φ gPlain 1 = some ([[0, 1]], 0) := hN φ hφ
  unfold P.rank_open
  rw [e4]; rfl
 have e6 : ∀ φ, 10000 ≤ φ → P.rank_Count φ gPlain 1 = some (1, 0) := by
  intro φ hφ
  unfold P.rank_Count
  rw [e5 φ hφ]; rfl
 obtain ⟨v, hv, hnm, -, -⟩ := hq (by have := e6 10000 (Nat.le_refl _); rw [show ((1 : Nat) : Int) = 1 from rfl, this] at eq; cases eq; rfl)
 obtain rfl : v = 1 := by have := e6 10000 (Nat.le_refl _); rw [show ((1 : Nat) : Int) = 1 from rfl, this] at eq; cases eq; simp at hv; omega
 obtain ⟨φ0, h0⟩ := tree_ok E plain_valid.s1 plain_valid.s2 (Nat.le_refl _) hnm
 refine ⟨max φ0 10000, fun φ hφ => ?_⟩
 have hφ1 : 10000 ≤ φ := by omega
 have e7 : P.draw_Number φ 1 [] = some (0, 0, 0) := by
  obtain ⟨f, rfl⟩ : ∃ f, φ = f + 1 := ⟨φ - 1, by omega⟩
  rfl
 obtain ⟨x, ex, hx⟩ := rtree_ok E (e5 φ hφ1) (h0 φ (by omega)) 0
 rcases hx with ⟨-, -, x2, s, i, b⟩ | ⟨x2, -⟩
 ·have : P.draw_Tree φ gPlain 1 [] = some (x.1, 0, x.2) := by
   unfold P.draw_Tree
   rw [e6 φ hφ1, Option.bind_some, if_neg (by simp), if_neg (by simp), e7, Option.bind_some, if_neg (by simp)]
   have ex' : P.rank_Tree φ gPlain 1 0 = some x := ex
   rw [ex']; rfl
  refine .of_eq this ⟨x2, ?_⟩
  obtain ⟨r, kids, s1, y, -, et, hr, -, hk, y0, y1, -⟩ := b.h
  rw [et]
  show kids.length = 1
  rw [hk.len]
  match i, hr with
  | 0, hr => simp [gPlain] at hr; subst hr; rfl
  | 1, hr =>
    simp [gPlain] at hr; subst hr
    have : wI [[0, 1]] [⟨true, 1⟩, ⟨false, 0⟩] 1 = 0 := by decide +kernel
    rw [this] at y1; omega
  | i + 2, hr => simp [gPlain] at hr
 ·simp at x2
theorem drawTree_plain (l : List Int) (a1 : Int) (c : List Bool) (l2 : c.length ≤ 140737488355328) : ∃ φ, P.parlkeep5_DrawTree φ l a1 c = some true := by
 obtain ⟨g, eg, hg⟩ := grammar_ok l
 have hv := hg.toValid
 obtain ⟨n, en, n0, n1⟩ := pbelow_ok (x := a1) (n := 8) (by omega) (by omega)
 obtain ⟨n, rfl⟩ : ∃ m : Nat, n = m := ⟨n.toNat, by omega⟩
 obtain ⟨N, E, hN⟩ := env_ok hv (n := n) (by omega)
 have hMC : (MC : Int) = 1000000000 := rfl
 obtain ⟨φ0, hφ0⟩ : ∃ φ0, ∀ v : Nat, Num g.Rules g.Start n v → ∀ φ, φ0 ≤ φ → ∀ (x : Int) (b : Ty.rank_book), 0 ≤ x → x < v → Bk g N b → Ok (P.rank_book_tree φ b ⟨false, g.Start⟩ (n : Int) x) fun q => Bk g N q.1 ∧ ∃ s i, Nb1 g.Rules N s q.2 g.Start n x i := by
  by_cases h : ∃ v, Num g.Rules g.Start n v
  ·obtain ⟨v, hv2⟩ := h
   obtain ⟨φ0, h0⟩ := tree_ok E hv.s1 hv.s2 (Nat.le_refl _) hv2
   refine ⟨φ0, fun v' hv' => ?_⟩
   rw [hv'.lim.fn hv2.lim]
   exact h0
  ·exact ⟨0, fun v hv2 => absurd ⟨v, hv2⟩ h⟩
 obtain ⟨φ1, hφ1⟩ := first_draw
 refine ⟨max (200000 + c.length) (max φ0 φ1), ?_⟩
 generalize hφ : max (200000 + c.length) (max φ0 φ1) = φ
 obtain ⟨x, ex, x2, xk⟩ := hφ1 φ (by omega)
 clear hφ1
 have hφ1 : 10000 ≤ φ := by omega
 obtain ⟨q, eq, hq⟩ := count_of E (hN φ hφ1)
 refine Ok.eq ?_
 unfold P.parlkeep5_DrawTree
 rw [eg, Option.bind_some, en, Option.bind_some, plain_eq, Option.bind_some, ex, Option.bind_some, if_neg (by simp [x2, xk])]
 by_cases h2 : q.2 = 0
 ·obtain ⟨v, e1, hnm, hsI, ho⟩ := hq h2
  have hT := hφ0 v hnm φ (by omega)
  have hvl := hnm.lt
  by_cases hv0 : q.1 = 0
  ·have : P.draw_Tree φ g n c = some (⟨0, 0, []⟩, 0, 10) := by
    unfold P.draw_Tree
    rw [eq, Option.bind_some, if_neg (by omega), if_pos hv0]
   rw [this, Option.bind_some, if_pos (by simp)]
   exact .some (by simp)
  ·obtain ⟨m, em, hm⟩ := number_ok (n := q.1) (by omega) (by omega) l2 (φ := φ) (by omega)
   rcases hm with ⟨m1, m2⟩ | ⟨m1, m2, m3⟩
   ·have : P.draw_Tree φ g n c = some (⟨0, 0, []⟩, 0, m.2.2) := by
     unfold P.draw_Tree
     rw [eq, Option.bind_some, if_neg (by omega), if_neg hv0, em, Option.bind_some, if_pos m1]
    rw [this, Option.bind_some, if_pos m1]
    exact .some (by simp)
   ·obtain ⟨x, ex, hx⟩ := rtree_ok E ho hT m.1
    rcases hx with ⟨-, -, x2, s, i, b⟩ | ⟨x2, -⟩
    ·have : P.draw_Tree φ g n c = some (x.1, m.2.1, x.2) := by
      unfold P.draw_Tree
      rw [eq, Option.bind_some, if_neg (by omega), if_neg hv0, em, Option.bind_some, if_neg (by omega), ex]
      rfl
     obtain ⟨w, htr, hw⟩ := b.tr
     have hs := size_ok hg htr ⟨hv.s1, hv.s2⟩ (by rw [hw]; exact hnm.nl) (by omega)
     rw [this, Option.bind_some, if_neg (by simp [x2]), eq, Option.bind_some, em, Option.bind_some, ex, Option.bind_some, tcheck_ok hv htr (by omega) hs (fun h => by cases h), Option.bind_some, if_pos (by simp), htr.word (by omega) (by omega), Option.bind_some, Option.bind_some, if_pos (by simp [m1, x2, hw]), tcompare_ok htr (by omega) hs]
     exact .some (by simp)
    ·omega
 ·have : P.draw_Tree φ g n c = some (⟨0, 0, []⟩, 0, q.2) := by
   unfold P.draw_Tree
   rw [eq, Option.bind_some, if_pos h2]
  rw [this, Option.bind_some, if_pos h2]
  exact .some (by simp)
end Go.Proofs.Ytmeigkelacoibaa.Gr
