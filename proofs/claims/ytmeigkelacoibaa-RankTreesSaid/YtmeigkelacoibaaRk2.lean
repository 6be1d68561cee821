import Derived.Test.YtmeigkelacoibaaRk1
import Derived.Test.YtmeigkelacoibaaGr2
namespace Go.Proofs.Ytmeigkelacoibaa.Gr
open Go Go.Ab Go.Pu
theorem mget_mput {κ ν : Type} [DecidableEq κ] (k k' : κ) (v : ν) (m : List (κ × ν)) : Pu.mget k (Pu.mput k' v m) = if k = k' then some v else Pu.mget k m := by
 induction m with
 | nil => simp only [Pu.mput, Pu.mget]
 | cons e m ih =>
   simp only [Pu.mput]
   split
   ·rename_i h
    simp only [Pu.mget]
    by_cases h2 : k = k'
    ·rw [if_pos h2, if_pos h2]
    ·rw [if_neg h2, if_neg h2, if_neg (fun q => h2 (q.trans h.symm))]
   ·rename_i h
    simp only [Pu.mget, ih]
    by_cases h2 : k = e.1
    ·rw [if_pos h2, if_pos h2, if_neg (fun q => h (q.symm.trans h2))]
    ·rw [if_neg h2, if_neg h2]
def ps (f : Nat → Int) : Nat → Int
 | 0 => 0
 | m + 1 => ps f m + f m
theorem sum_ps (f : Nat → Int) : ∀ m, ((List.range m).map f).sum = ps f m
 | 0 => rfl
 | m + 1 => by rw [List.range_succ, List.map_append, List.sum_append, sum_ps f m, ps]; simp
theorem ps_le {f : Nat → Int} {m : Nat} (h : ∀ j, j < m → 0 ≤ f j) {a : Nat} (ha : a ≤ m) : 0 ≤ ps f a ∧ ps f a ≤ ps f m := by
 have h0 : ∀ a, a ≤ m → 0 ≤ ps f a := fun a => by
  induction a with
  | zero => intro _; exact Int.le_refl _
  | succ a ih => intro q; have := ih (by omega); have := h a (by omega); show 0 ≤ ps f a + f a; omega
 have h1 : ∀ d, a + d ≤ m → ps f a ≤ ps f (a + d) := fun d => by
  induction d with
  | zero => intro _; exact Int.le_refl _
  | succ d ih => intro q; have := ih (by omega); have := h (a + d) (by omega); show _ ≤ ps f (a + d) + f (a + d); omega
 refine ⟨h0 a ha, ?_⟩
 have := h1 (m - a) (by omega)
 rwa [show a + (m - a) = m by omega] at this
section
variable {g : Ty.B2} {N : List (List Int)} {n : Nat}
def Memo (R : List Ru) (N : List (List Int)) (m : List ((Int × Int × Int) × Int)) : Prop := ∀ (i p k : Nat) v r, Pu.mget ((i : Int), (p : Int), (k : Int)) m = some v → R[i]? = some r → v = wI N (r.Right.drop p) k
structure Bk (g : Ty.B2) (N : List (List Int)) (b : Ty.E6) : Prop where
 eg : b.g = g
 en : b.n = N
 em : Memo g.Rules N b.many_
structure Env (g : Ty.B2) (N : List (List Int)) (n : Nat) : Prop where
 v : Valid g
 d : Dim N g.Nons (n + 1)
 n9 : n ≤ 24
 c : ∀ (a : Int) (k : Nat), 0 ≤ a → a < g.Nons → k ≤ n → Cen g.Rules a k (el2 N a (k : Int))
theorem Env.nons (E : Env g N n) : ∀ r ∈ g.Rules, ∀ s ∈ r.Right, s.Term = false → 0 ≤ s.N ∧ s.N < g.Nons := fun r hr s hs h => ⟨(E.v.sym r hr s hs).1, (E.v.sym r hr s hs).2.2 h⟩
theorem sym_eq' (E : Env g N n) {b : Ty.E6} (hb : Bk g N b) {s : Sy} (hs : s.Term = false → 0 ≤ s.N ∧ s.N < g.Nons) {j : Nat} (hj : j ≤ n) : P.F0 b s (j : Int) = some (sI N s j) := by
 unfold P.F0 sI
 rw [hb.en]
 cases h : s.Term with
 | true =>
   rw [if_neg (by simp)]
   simp only [if_true]
   by_cases e : j = 1
   ·subst e; rfl
   ·rw [if_neg (by omega), if_neg e]
 | false =>
   obtain ⟨a, b⟩ := hs h
   rw [if_pos (by simp), E.d.ix a b, Option.bind_some, E.d.ix2 a b (by omega) (by omega)]
   rfl
theorem wI_eq (N : List (List Int)) (s : Sy) (l : List Sy) (k : Nat) : wI N (s :: l) k = ps (fun j => sI N s j * wI N l (k - j)) (k + 1) := by rw [wI, sum_ps]
theorem rways_ok (E : Env g N n) : ∀ (d φ : Nat) (b : Ty.E6) (i p k : Nat) (r : Ru), g.Rules[i]? = some r → r.Right.length = p + d → 2 * d + 1 ≤ φ → k ≤ n → Fn N (r.Right.drop p) k → Bk g N b →
 Ok (P.C0 φ b (i : Int) (p : Int) (k : Int)) fun q => Bk g N q.1 ∧ q.2 = wI N (r.Right.drop p) k := by
 intro d
 induction d with
 | zero =>
   intro φ b i p k r hr hl hφ hk hf hb
   obtain ⟨φ, rfl⟩ : ∃ f, φ = f + 1 := ⟨φ - 1, by omega⟩
   rw [P.C0, hb.eg, ix_nat, hr, Option.bind_some, if_pos (by omega), List.drop_eq_nil_of_le (by omega)]
   simp only [wI]
   split
   ·rw [if_pos (by omega)]; exact .some ⟨hb, rfl⟩
   ·rw [if_neg (by omega)]; exact .some ⟨hb, rfl⟩
 | succ d ih =>
   intro φ b i p k r hr hl hφ hk hf hb
   obtain ⟨φ, rfl⟩ : ∃ f, φ = f + 2 := ⟨φ - 2, by omega⟩
   rw [P.C0, hb.eg, ix_nat, hr, Option.bind_some, if_neg (by omega)]
   have hsp : p < r.Right.length := by omega
   have hdrop : r.Right.drop p = r.Right[p] :: r.Right.drop (p + 1) := List.drop_eq_getElem_cons hsp
   generalize hs : r.Right[p] = s at hdrop
   have hsm : s ∈ r.Right := by rw [← hs]; exact List.getElem_mem _
   have hrm := List.mem_of_getElem? hr
   have h4 := E.v.rgt r hrm
   split
   ·rename_i hm
    obtain ⟨v, hv⟩ := Option.isSome_iff_exists.1 hm
    refine .some ⟨hb, ?_⟩
    rw [hv]
    exact hb.em i p k v r hv hr
   ·rw [hdrop] at hf ⊢
    have hnn : ∀ j, j < k + 1 → 0 ≤ sI N s j * wI N (r.Right.drop (p + 1)) (k - j) := fun j hj => hf.part (by omega)
    have htot : ps (fun j => sI N s j * wI N (r.Right.drop (p + 1)) (k - j)) (k + 1) < MC := by rw [← wI_eq]; exact hf.lt
    have hMC : (MC : Int) = 1000000000 := rfl
    have := E.n9
    rw [W_id, ranO_eq (by omega), Option.bind_some]
    refine Ok.bind (forP_ok (fun j (q : Int × Int × Int × List Ty.A6 × List (List Int) × List ((Int × Int × Int) × Int) × Int) =>
     Bk g N ⟨⟨q.1, q.2.1, q.2.2.1, q.2.2.2.1⟩, q.2.2.2.2.1, q.2.2.2.2.2.1⟩ ∧ q.2.2.2.2.2.2 = ps (fun j => sI N s j * wI N (r.Right.drop (p + 1)) (k - j)) j)
     (Q := fun q => Bk g N ⟨⟨q.1, q.2.1, q.2.2.1, q.2.2.2.1⟩, q.2.2.2.2.1, q.2.2.2.2.2.1⟩ ∧ q.2.2.2.2.2.2 = ps (fun j => sI N s j * wI N (r.Right.drop (p + 1)) (k - j)) (k + 1))
     ⟨⟨by rw [← hb.eg], hb.en, hb.em⟩, rfl⟩ (fun j x q hx ⟨q1, q2⟩ => ?_) fun q hq => ?_) fun q ⟨q1, q2⟩ => ?_
    ·obtain ⟨rfl, hj⟩ := ran_at hx
     have hjk : j ≤ k := by omega
     unfold P.C0.b0
     have hpart : Ok (P.E1 (φ + 1) ⟨⟨q.1, q.2.1, q.2.2.1, q.2.2.2.1⟩, q.2.2.2.2.1, q.2.2.2.2.2.1⟩ (i : Int) (p : Int) (j : Int) (k : Int)) fun z => Bk g N z.1 ∧ z.2 = sI N s j * wI N (r.Right.drop (p + 1)) (k - j) := by
      rw [P.E1, q1.eg, ix_nat, hr, Option.bind_some, ix_nat, List.getElem?_eq_getElem hsp, hs, Option.bind_some, sym_eq' E q1 (E.nons r hrm s hsm) (by omega), Option.bind_some]
      by_cases hz : sI N s j = 0
      ·rw [if_pos hz]; exact .some ⟨q1, by rw [hz]; simp⟩
      ·rw [if_neg hz, W_id, W_id, show (p : Int) + 1 = ((p + 1 : Nat) : Int) by omega, show (k : Int) - (j : Int) = ((k - j : Nat) : Int) by omega]
       refine (ih φ _ i (p + 1) (k - j) r hr (by omega) (by omega) (by omega) (hf.1 j hjk hz).1 q1).bind fun z ⟨z1, z2⟩ => ?_
       have h0 := hf.part hjk
       have h1 := hf.part_le hjk
       have h2 := hf.lt
       rw [z2, W_id]
       exact .some ⟨z1, rfl⟩
     refine hpart.bind fun z ⟨z1, z2⟩ => ?_
     have b1 := ps_le hnn (show j ≤ k + 1 by omega)
     have b2 := ps_le hnn (show j + 1 ≤ k + 1 by omega)
     have b3 : ps (fun j => sI N s j * wI N (r.Right.drop (p + 1)) (k - j)) (j + 1) = ps (fun j => sI N s j * wI N (r.Right.drop (p + 1)) (k - j)) j + sI N s j * wI N (r.Right.drop (p + 1)) (k - j) := rfl
     refine .some ⟨⟨z1.eg, z1.en, z1.em⟩, ?_⟩
     show Pu.W (q.2.2.2.2.2.2 + z.2) = _
     rw [q2, z2, W_id, b3]
    ·rw [ran_length] at hq
     rw [show ((k : Int) + 1).toNat = k + 1 by omega] at hq
     exact hq
    ·refine .some ⟨⟨q1.eg, q1.en, ?_⟩, by rw [wI_eq]; exact q2⟩
     intro i' p' k' v r' hm hr'
     dsimp only at hm
     rw [mget_mput] at hm
     split at hm
     ·rename_i e
      simp only [Prod.mk.injEq] at e
      have e1 : i' = i := by omega
      have e2 : p' = p := by omega
      have e3 : k' = k := by omega
      subst e1; subst e2; subst e3
      rw [hr] at hr'; cases hr'
      cases hm
      rw [hdrop, wI_eq]; exact q2
     ·exact q1.em i' p' k' v r' hm hr'
theorem part_ok (E : Env g N n) {φ : Nat} {b : Ty.E6} {i p j k : Nat} {r : Ru} {s : Sy} (hr : g.Rules[i]? = some r) (hs : r.Right[p]? = some s) (hφ : 12 ≤ φ) (hk : k ≤ n) (hj : j ≤ k) (hf : Fn N (s :: r.Right.drop (p + 1)) k) (hb : Bk g N b) :
 Ok (P.E1 φ b (i : Int) (p : Int) (j : Int) (k : Int)) fun z => Bk g N z.1 ∧ z.2 = sI N s j * wI N (r.Right.drop (p + 1)) (k - j) := by
 obtain ⟨φ, rfl⟩ : ∃ f, φ = f + 1 := ⟨φ - 1, by omega⟩
 have hrm := List.mem_of_getElem? hr
 have hsm := List.mem_of_getElem? hs
 have hp := (List.getElem?_eq_some_iff.1 hs).1
 have h4 := E.v.rgt r hrm
 have := E.n9
 rw [P.E1, hb.eg, ix_nat, hr, Option.bind_some, ix_nat, hs, Option.bind_some, sym_eq' E hb (E.nons r hrm s hsm) (by omega), Option.bind_some]
 by_cases hz : sI N s j = 0
 ·rw [if_pos hz]; exact .some ⟨hb, by rw [hz]; simp⟩
 ·rw [if_neg hz, W_id, W_id, show (p : Int) + 1 = ((p + 1 : Nat) : Int) by omega, show (k : Int) - (j : Int) = ((k - j : Nat) : Int) by omega]
  refine (rways_ok E (r.Right.length - (p + 1)) φ _ i (p + 1) (k - j) r hr (by omega) (by omega) (by omega) (hf.1 j hj hz).1 hb).bind fun z ⟨z1, z2⟩ => ?_
  have h0 := hf.part hj
  have h1 := hf.part_le hj
  have h2 := hf.lt
  have hMC : (MC : Int) = 1000000000 := rfl
  rw [z2, W_id]
  exact .some ⟨z1, rfl⟩
end
end Go.Proofs.Ytmeigkelacoibaa.Gr
