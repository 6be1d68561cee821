import Derived.Test.YthgdobdhdfjhfaaRk4
import Derived.Test.YthgdobdhdfjhfaaRk6
import Derived.Test.YthgdobdhdfjhfaaPln
import Derived.Test.YthgdobdhdfjhfaaBel
import Derived.Test.YthgdobdhdfjhfaaRkQ
namespace Go.Proofs.Ythgdobdhdfjhfaa.Gr
open Go Go.Ab Go.Pu
section
variable {g : Ty.api_Grammar} {N : List (List Int)} {n : Nat}
theorem rof_ok (hg : Small g) (E : Env g N n) {v : Nat} (hn : Num g.Rules g.Start n v) (n7 : n ≤ 7) {s i : Nat} {t : Ty.api_Tree} {x : Int} (h : Nb1 g.Rules N s t g.Start n x i) {φ : Nat} (hφ : 100000 + 2 * s ≤ φ) (ho : P.rank_open φ g n = some (some (Ty.rank_book.mk g N []), (v : Int), (0 : Int))) :
 P.tree_Check φ g t = some 0 ∧ P.rank_Of φ g t = some ((n : Int), x, 0) := by
 obtain ⟨w, htr, hw⟩ := h.tr
 have hs := size_ok hg htr ⟨E.v.s1, E.v.s2⟩ (by rw [hw]; exact hn.nl) (by omega)
 have hy : SyOk g ⟨false, g.Start⟩ := fun h => by cases h
 have hck := tcheck_ok E.v htr (show s < φ by omega) (by omega) hy
 refine ⟨hck, ?_⟩
 obtain ⟨r, kids, s1, y, rfl, rfl, hr, hra, hk, y0, y1, o0, o1, o2, rfl⟩ := h.h
 refine Ok.eq ?_
 have hi := (List.getElem?_eq_some_iff.1 hr).1
 have hrm := List.mem_of_getElem? hr
 have hMC : (MC : Int) = 1000000000 := rfl
 unfold P.rank_Of
 rw [hck, Option.bind_some, if_neg (by omega), if_neg (by simp), ix_nat, hr, Option.bind_some, Option.bind_some, if_neg (by simp [hra]), htr.word (by omega) (by omega), Option.bind_some, hw, ho, Option.bind_some, oc2_some, if_neg (by simp)]
 obtain ⟨φ, rfl⟩ : ∃ f, φ = f + 1 := ⟨φ - 1, by omega⟩
 have hgood := good_ok E E.v.s1 E.v.s2 (Nat.le_refl n) (by omega) o2
 have hof : Ok (P.rank_book_of (φ + 1) ⟨g, N, []⟩ ⟨(i : Int), 0, kids⟩ (n : Int)) fun u => u.2 = off g.Rules N g.Start n i + y := by
  rw [P.rank_book_of, if_neg (by simp), ix_nat, hr, Option.bind_some]
  dsimp only
  rw [sub_eq (by omega) (by omega) (by omega), Option.bind_some]
  simp only [Int.toNat_natCast, Int.toNat_zero, List.drop_zero]
  refine (offs_ok E (Nat.le_refl n) hgood hr hra (v := off g.Rules N g.Start n i) (Int.le_refl _) (by omega) (φ := φ) (by omega) (b := ⟨g, N, []⟩) bk0).bind fun c ⟨c1, c2⟩ => ?_
  refine (ofk_ok E hk φ _ i 0 r hr (by simp) (by omega) (hgood r hrm hra) (Nat.le_refl n) (by omega) (by omega) c1).bind fun u ⟨u1, u2⟩ => .some ?_
  show Pu.W (c.2.2.2.2.2.2 + u.2) = _
  rw [c2, u2, W_id]
 refine hof.bind fun u hu => .some ?_
 rw [hu]
end
theorem rankBack_plain (l : List Int) (a1 a2 : Int) : ∃ φ, P.parlkeep5_RankBack φ l a1 a2 = some true := by
 obtain ⟨g, eg, hg⟩ := grammar_ok l
 have hv := hg.toValid
 obtain ⟨n, en, n0, n1⟩ := pbelow_ok (x := a1) (n := 8) (by omega) (by omega)
 obtain ⟨n, rfl⟩ : ∃ m : Nat, n = m := ⟨n.toNat, by omega⟩
 obtain ⟨N, E, hN⟩ := env_ok hv (n := n) (by omega)
 have hMC : (MC : Int) = 1000000000 := rfl
 obtain ⟨c, ec, hc⟩ := count_of E (hN 10000 (Nat.le_refl _))
 by_cases hnum : c.2 = 0
 ·obtain ⟨v, e1, hnm, hsI, ho⟩ := hc hnum
  obtain ⟨φ0, hφ0⟩ := tree_ok E hv.s1 hv.s2 (Nat.le_refl _) hnm
  refine ⟨max 200000 φ0, ?_⟩
  generalize hφ : max 200000 φ0 = φ
  have hφ1 : 10000 ≤ φ := by omega
  obtain ⟨c', ec', hc'⟩ := count_of E (hN φ hφ1)
  have hT := hφ0 φ (by omega)
  refine Ok.eq ?_
  unfold P.parlkeep5_RankBack
  rw [eg, Option.bind_some, en, Option.bind_some, plain_eq, Option.bind_some, first_count φ hφ1, Option.bind_some, if_neg (by simp), ec', Option.bind_some]
  refine .ite (fun _ => .some rfl) fun hne => ?_
  have hne1 : c'.2 = 0 := by simp at hne; omega
  obtain ⟨v', e1', hnm', -, ho'⟩ := hc' hne1
  have : v' = v := hnm'.lim.fn hnm.lim
  subst this
  have hvl := hnm.lt
  have hne' : 1 ≤ c'.1 := by simp at hne; omega
  refine (below9_ok (by omega) (by omega)).bind fun i ⟨i0, i1⟩ => ?_
  obtain ⟨x7, h7, k7⟩ := rtree_ok E ho' hT i
  rw [h7, Option.bind_some]
  rcases k7 with ⟨-, -, a7, s7, i7, b7⟩ | ⟨a7, -⟩
  ·obtain ⟨w, htr, hw⟩ := b7.tr
   have hs := size_ok hg htr ⟨hv.s1, hv.s2⟩ (by rw [hw]; exact hnm.nl) (by omega)
   obtain ⟨k1, k2⟩ := rof_ok hg E hnm (by omega) b7 (φ := φ) (by omega) ho'
   rw [if_neg (by simp [a7]), k1, Option.bind_some, Option.bind_some, if_neg (by simp), k2, Option.bind_some]
   exact .some (by simp)
  ·omega
 ·refine ⟨10000, ?_⟩
  refine Ok.eq ?_
  unfold P.parlkeep5_RankBack
  rw [eg, Option.bind_some, en, Option.bind_some, plain_eq, Option.bind_some, first_count 10000 (Nat.le_refl _), Option.bind_some, if_neg (by simp), ec, Option.bind_some]
  rw [if_pos (by simp; omega)]
  exact .some rfl
end Go.Proofs.Ythgdobdhdfjhfaa.Gr
