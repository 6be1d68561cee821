import Derived.Test.YtmeigkelacoibaaRk3
import Derived.Test.YtmeigkelacoibaaCen6
namespace Go.Proofs.Ytmeigkelacoibaa.Gr
open Go Go.Ab Go.Pu
theorem env_ok {g : Ty.B2} (hv : Valid g) {n : Nat} (hn : n ≤ 24) : ∃ N, Env g N n ∧ ∀ φ, 10000 ≤ φ → P.C6 φ g n = some (N, 0) := by
 obtain ⟨r, hr, h0, h1, h2⟩ := trees_ok hv hn (φ := 10000) (Nat.le_refl _)
 refine ⟨r.1, ⟨hv, h1, hn, h2⟩, fun φ hφ => ?_⟩
 obtain ⟨q, hq, k0, k1, k2⟩ := trees_ok hv hn hφ
 rw [hq]
 have e : q.1 = r.1 := by
  refine ext_el (by have := h1.1; have := k1.1; omega) fun i i0 i1 => ?_
  have hi : i < g.Nons := by have := k1.1; omega
  refine ext_el (by have := h1.2 i i0 hi; have := k1.2 i i0 hi; omega) fun j j0 j1 => ?_
  have hj := k1.2 i i0 hi
  obtain ⟨j, rfl⟩ : ∃ m : Nat, j = m := ⟨j.toNat, by omega⟩
  exact (k2 i j i0 hi (by omega)).fn (h2 i j i0 hi (by omega))
 obtain ⟨q1, q2⟩ := q
 simp only at e k0; subst e; subst k0; rfl
section
variable {g : Ty.B2} {N : List (List Int)} {n : Nat}
theorem bk0 : Bk g N ⟨g, N, []⟩ := ⟨rfl, rfl, fun i p k v r h _ => by simp [Pu.mget] at h⟩
inductive St (g : Ty.B2) (N : List (List Int)) (n : Nat) : Option Ty.E6 → Int → Int → Prop where
 | inf : St g N n none 0 9
 | big : St g N n none 0 2
 | ok {v : Nat} : Num g.Rules g.Start n v → sI N ⟨false, g.Start⟩ n = v → St g N n (some ⟨g, N, []⟩) v 0
theorem open_ok (E : Env g N n) {φ : Nat} (hc : P.C6 φ g n = some (N, 0)) : Ok (P.E8 φ g n) fun r => St g N n r.1 r.2.1 r.2.2 := by
 have s1 := E.v.s1; have s2 := E.v.s2
 unfold P.E8
 rw [hc, Option.bind_some, if_neg (by simp), E.d.ix s1 s2, Option.bind_some, E.d.ix2 s1 s2 (by omega) (by omega), Option.bind_some]
 refine .ite (fun _ => .some .inf) fun h1 => .ite (fun _ => .some .big) fun h2 => ?_
 have hcen := E.c g.Start n s1 s2 (Nat.le_refl _)
 have hlt : el2 N g.Start (n : Int) < MC := by
  have hMC : (MC : Int) = 1000000000 := rfl
  rcases hcen with ⟨q1, q2⟩ | ⟨q1, q2⟩ | ⟨q1, q2, c, q3, q4⟩
  ·omega
  ·omega
  ·have := q3.le; omega
 obtain ⟨c, e, hn⟩ := num_of hcen h1 hlt
 rw [e]
 exact .some (.ok hn e)
theorem count_of (E : Env g N n) {φ : Nat} (hc : P.C6 φ g n = some (N, 0)) : Ok (P.G0 φ g n) fun r => (r.2 = 0 → ∃ v : Nat, r.1 = v ∧ Num g.Rules g.Start n v ∧ sI N ⟨false, g.Start⟩ n = v ∧ P.E8 φ g n = some (some (Ty.E6.mk g N []), (v : Int), (0 : Int))) := by
 obtain ⟨x, hx, hs⟩ := open_ok E hc
 unfold P.G0
 rw [hx, Option.bind_some]
 obtain ⟨x1, x2, x3⟩ := x
 cases hs with
 | inf => exact .some fun h => by cases h
 | big => exact .some fun h => by cases h
 | ok a b => exact .some fun _ => ⟨_, rfl, a, b, rfl⟩
theorem rtree_ok (E : Env g N n) {v φ : Nat} (ho : P.E8 φ g n = some (some (Ty.E6.mk g N []), (v : Int), (0 : Int))) (hT : ∀ (x : Int) (b : Ty.E6), 0 ≤ x → x < v → Bk g N b → Ok (P.C8 φ b ⟨false, g.Start⟩ (n : Int) x) fun q => Bk g N q.1 ∧ ∃ s i, Nb1 g.Rules N s q.2 g.Start n x i) (x : Int) :
 Ok (P.G1 φ g n x) fun r => (0 ≤ x ∧ x < v ∧ r.2 = 0 ∧ ∃ s i, Nb1 g.Rules N s r.1 g.Start n x i) ∨ (¬ (0 ≤ x ∧ x < v) ∧ r.2 = 5) := by
 unfold P.G1
 rw [ho, Option.bind_some, oc2_some, if_neg (by simp)]
 refine .ite (fun h => .some (.inr ⟨by simp at h; omega, rfl⟩)) fun h => ?_
 have h' : 0 ≤ x ∧ x < v := by simp at h; omega
 exact (hT x _ h'.1 h'.2 bk0).bind fun q ⟨_, q2⟩ => .some (.inl ⟨h'.1, h'.2, rfl, q2⟩)
end
end Go.Proofs.Ytmeigkelacoibaa.Gr
