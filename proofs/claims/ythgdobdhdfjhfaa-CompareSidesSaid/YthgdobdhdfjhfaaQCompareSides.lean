/- Two grammars the other way round: the plain law of CompareSides. Own work. -/
import Derived.Test.YthgdobdhdfjhfaaPln
import Derived.Test.YthgdobdhdfjhfaaBel
import Derived.Test.YthgdobdhdfjhfaaCmp1
namespace Go.Proofs.Ythgdobdhdfjhfaa.Gr
open Go Go.Ab Go.Pu
theorem plain_least : P.compare_Least 10000000 gPlain (Ty.api_Grammar.mk 2 1 0 []) 2 = some ([0], 1, 0) := by decide +kernel
/-! ### The other way round -/
def sm {σ ρ : Type} (f : ρ → ρ) : Step σ ρ → Step σ ρ
  | .nx s => .nx s
  | .br s => .br s
  | .rt r => .rt (f r)
def fm {σ ρ : Type} (f : ρ → ρ) : Fin σ ρ → Fin σ ρ
  | .out s => .out s
  | .rt r => .rt (f r)
theorem whl_map {σ ρ : Type} {b1 b2 : σ → Option (Step σ ρ)} (f : ρ → ρ) (h : ∀ s, b2 s = (b1 s).map (sm f)) : ∀ (φ : Nat) (s : σ), whl b2 φ s = (whl b1 φ s).map (fm f)
  | 0, s => rfl
  | φ + 1, s => by
    rw [whl, whl, h s]
    rcases b1 s with _ | ⟨s' | s' | r⟩
    · rfl
    · exact whl_map f h φ s'
    · rfl
    · rfl
theorem forL_map {α σ ρ : Type} {b1 b2 : Int → α → σ → Option (Step σ ρ)} (f : ρ → ρ) (h : ∀ i x s, b2 i x s = (b1 i x s).map (sm f)) : ∀ (l : List α) (i : Int) (s : σ), forL b2 i l s = (forL b1 i l s).map (fm f)
  | [], i, s => rfl
  | x :: l, i, s => by
    rw [forL, forL, h i x s]
    rcases b1 i x s with _ | ⟨s' | s' | r⟩
    · rfl
    · exact forL_map f h l (i + 1) s'
    · rfl
    · rfl
abbrev Res := List Int × Int × Int
def sw (r : Res) : Res := (r.1, if r.2.1 = 1 then 2 else if r.2.1 = 2 then 1 else r.2.1, r.2.2)
theorem b1_sw {g h : Ty.api_Grammar} (ht : g.Terms = h.Terms) (φ : Nat) (s : List Int) : P.compare_Least.b1 φ h g s = (P.compare_Least.b1 φ g h s).map (sm (sm sw)) := by
  unfold P.compare_Least.b1
  rcases e1 : P.mean_Accepts φ g s with _ | a
  · rcases P.mean_Accepts φ h s with _ | b <;> rfl
  · rcases e2 : P.mean_Accepts φ h s with _ | b
    · rfl
    · simp only [Option.bind_some, ht]
      rcases hna : P.compare_next φ s h.Terms with _ | n
      · cases a.1 <;> cases b.1 <;> simp [sm, sw]
      · obtain ⟨n1, n2⟩ := n
        cases a.1 <;> cases b.1 <;> cases n2 <;> simp [sm, sw]
theorem b0_sw {g h : Ty.api_Grammar} (ht : g.Terms = h.Terms) (φ : Nat) (i x : Int) (s : Unit) : P.compare_Least.b0 φ h g i x s = (P.compare_Least.b0 φ g h i x s).map (sm sw) := by
  unfold P.compare_Least.b0
  rcases Pu.mk 8 x x 0 with _ | w
  · rfl
  · simp only [Option.bind_some]
    rw [whl_map (sm sw) (b1_sw ht φ)]
    rcases whl (P.compare_Least.b1 φ g h) φ w with _ | ⟨_ | r⟩
    · rfl
    · rfl
    · rfl
theorem least_sw {g h : Ty.api_Grammar} (hg : Valid g) (hh : Valid h) (ht : g.Terms = h.Terms) (φ : Nat) (n : Int) : P.compare_Least φ h g n = (P.compare_Least φ g h n).map sw := by
  unfold P.compare_Least
  rw [check_ok hg, check_ok hh, Option.bind_some, Option.bind_some, ht]
  simp only [ne_eq, not_true_eq_false, if_false]
  split
  · rfl
  · rcases P.compare_words h.Terms n with _ | x
    · rfl
    · simp only [Option.bind_some]
      split
      · rfl
      · rcases Pu.ranO (Pu.W (n + 1)) with _ | l
        · rfl
        · simp only [Option.bind_some]
          rw [forL_map sw (b0_sw ht φ)]
          rcases forL (P.compare_Least.b0 φ g h) 0 l () with _ | ⟨_ | r⟩
          · rfl
          · rfl
          · rfl
/-! ### The least word -/
def Only (φ : Nat) (g h : Ty.api_Grammar) (r : Res) : Prop := r.2.2 = 0 ∧ r.1.length ≤ 100 ∧ ∃ a b, P.mean_Accepts φ g r.1 = some a ∧ P.mean_Accepts φ h r.1 = some b ∧ (r.2.1 = 1 ∧ a.1 = true ∧ b.1 = false ∨ r.2.1 = 2 ∧ a.1 = false ∧ b.1 = true)
theorem least_tot {g h : Ty.api_Grammar} (hg : Valid g) (hh : Valid h) (ht : g.Terms = h.Terms) (ht3 : g.Terms ≤ 3) {n : Int} (n0 : 0 ≤ n) (n1 : n ≤ 3) {φ : Nat} (hφ : 3000000 < φ) :
    Ok (P.compare_Least φ g h n) fun r => r = ([], 0, 5) ∨ Only φ g h r := by
  have t1 := hg.t1
  unfold P.compare_Least
  rw [check_ok hg, Option.bind_some, if_neg (by simp), check_ok hh, Option.bind_some, if_neg (by simp), if_neg (by simp [ht]; omega)]
  refine (words_ok t1 ht3 n0 n1).bind fun x hx => ?_
  rw [if_neg (by omega), W_id, ranO_eq (by omega), Option.bind_some]
  refine Ok.bind (Q := fun | .out _ => True | .rt r => Only φ g h r) (forL_ok (fun _ _ => True) trivial ?_ fun _ _ => trivial) ?_
  · intro k x s hx _
    obtain ⟨rfl, hk⟩ := ran_at hx
    unfold P.compare_Least.b0
    rw [mk_eq (by omega) (by omega) (by omega), Option.bind_some]
    have h27 : g.Terms.toNat ^ k ≤ 27 := Nat.le_trans (Nat.pow_le_pow_left (show g.Terms.toNat ≤ 3 by omega) k) (Nat.le_trans (Nat.pow_le_pow_right (by omega) (show k ≤ 3 by omega)) (by decide))
    refine Ok.bind (Q := fun | .out _ => True | .rt q => ∃ r, q = .rt r ∧ Only φ g h r) (whl_ok (fun w => w.length = k ∧ Dg g.Terms w) (fun w => g.Terms.toNat ^ k - Va g.Terms.toNat w) ⟨by simp, fun x hx => by rw [(List.mem_replicate.1 hx).2]; omega⟩ ?_ (by omega)) ?_
    · rintro w ⟨w1, w2⟩
      unfold P.compare_Least.b1
      obtain ⟨a, ea, -⟩ := accepts_ok hg w2 (by omega) hφ
      obtain ⟨b, eb, -⟩ := accepts_ok hh (fun x hx => ht ▸ w2 x hx) (by omega) hφ
      rw [ea, Option.bind_some, eb, Option.bind_some]
      refine .ite (fun q => .some ⟨_, rfl, rfl, by simp only; omega, a, b, ea, eb, .inl ⟨rfl, by simpa using q⟩⟩) fun q1 => .ite (fun q => .some ⟨_, rfl, rfl, by simp only; omega, a, b, ea, eb, .inr ⟨rfl, by simp at q; simp [q]⟩⟩) fun q2 => ?_
      refine (nextw_ok t1 (by omega) w2 (by omega) (by omega)).bind fun r ⟨r1, r2, r3⟩ => ?_
      refine .ite (fun _ => .some trivial) fun q => ?_
      have h1 := r3 (by simpa using q)
      have h2 := va_lt (t := g.Terms.toNat) r.1 fun x hx => by have := r2 x hx; omega
      rw [r1, w1] at h2
      exact .some ⟨⟨by rw [r1, w1], r2⟩, by omega⟩
    · rintro (_ | q) h
      · exact .some trivial
      · obtain ⟨r, rfl, hr⟩ := h
        exact .some hr
  · rintro (_ | r) h
    · exact .some (.inl rfl)
    · exact .some (.inr h)
/-! ### The other grammar -/
def Pr (nons : Int) (y : Sy) : Prop := 0 ≤ y.N ∧ (y.Term = false → y.N < nons)
def Gd (t nons : Int) (y : Sy) : Prop := Pr nons y ∧ (y.Term = true → y.N < t)
theorem fix1_ok {t nons : Int} (ht : 1 ≤ t) {l : List Sy} (hl : ∀ y ∈ l, Pr nons y) : Ok (Pu.forP (P.cs_fix.b1 t) 0 (Pu.ran (l.length : Int)) l) fun u => u.length = l.length ∧ ∀ y ∈ u, Gd t nons y := by
  refine forP_ok (fun i (s : List Sy) => s.length = l.length ∧ ∀ (j : Nat) y, s[j]? = some y → Pr nons y ∧ (j < i → Gd t nons y)) ⟨rfl, fun j y h => ⟨hl y (List.mem_of_getElem? h), fun q => by omega⟩⟩ ?_ fun s ⟨h1, h2⟩ => ⟨h1, fun y hy => ?_⟩
  · intro i x s hx ⟨h1, h2⟩
    obtain ⟨rfl, hi⟩ := ran_at hx
    have hlt : i < s.length := by omega
    have hs : s[i]? = some (s[i]'hlt) := List.getElem?_eq_getElem _
    unfold P.cs_fix.b1
    rw [ix_nat, hs, Option.bind_some]
    have hy := (h2 i _ hs).1
    refine .ite (fun q => ?_) fun q => .some ⟨h1, fun j y hj => ⟨(h2 j y hj).1, fun h => ?_⟩⟩
    · have e : Pu.rem (s[i]'hlt).N t = some ((s[i]'hlt).N.tmod t) := by unfold Pu.rem; rw [if_neg (by omega)]
      rw [e, Option.bind_some]
      have b1 := Int.tmod_lt_of_pos (s[i]'hlt).N (by omega : 0 < t)
      have b0 := Int.tmod_nonneg t hy.1
      refine .some ⟨by simp [Pu.st, h1], fun j y hj => ?_⟩
      rw [Pu.st, Int.toNat_natCast, List.getElem?_set] at hj
      split at hj
      · cases hj
        exact ⟨⟨b0, fun e => by simp only at e; rw [q] at e; cases e⟩, fun _ => ⟨⟨b0, fun e => by simp only at e; rw [q] at e; cases e⟩, fun _ => b1⟩⟩
      · exact ⟨(h2 j y hj).1, fun h => (h2 j y hj).2 (by omega)⟩
    · rcases Nat.lt_succ_iff_lt_or_eq.1 h with h | rfl
      · exact (h2 j y hj).2 h
      · rw [hs] at hj; cases hj
        exact ⟨hy, fun e => absurd e q⟩
  · obtain ⟨j, hj, e⟩ := List.getElem_of_mem hy
    have : s[j]? = some y := by rw [List.getElem?_eq_getElem hj, e]
    exact (h2 j y this).2 (by rw [ran_length]; omega)
def Rp (nons : Int) (r : Ru) : Prop := (0 ≤ r.Left ∧ r.Left < nons) ∧ r.Right.length ≤ 4 ∧ ∀ y ∈ r.Right, Pr nons y
def Rg (t nons : Int) (r : Ru) : Prop := (0 ≤ r.Left ∧ r.Left < nons) ∧ r.Right.length ≤ 4 ∧ ∀ y ∈ r.Right, Gd t nons y
theorem fix_ok {t nons : Int} (ht : 1 ≤ t) {l : List Ru} (hl : ∀ r ∈ l, Rp nons r) (hn : l.length ≤ 1000) : Ok (P.cs_fix t l) fun u => u.length = l.length ∧ ∀ r ∈ u, Rg t nons r := by
  unfold P.cs_fix
  rw [ranO_eq (by omega), Option.bind_some]
  refine forP_ok (fun i (s : List Ru) => s.length = l.length ∧ ∀ (j : Nat) r, s[j]? = some r → Rp nons r ∧ (j < i → Rg t nons r)) ⟨rfl, fun j y h => ⟨hl y (List.mem_of_getElem? h), fun q => by omega⟩⟩ ?_ fun s ⟨h1, h2⟩ => ⟨h1, fun r hr => ?_⟩
  · intro i x s hx ⟨h1, h2⟩
    obtain ⟨rfl, hi⟩ := ran_at hx
    have hlt : i < s.length := by omega
    have hs : s[i]? = some (s[i]'hlt) := List.getElem?_eq_getElem _
    unfold P.cs_fix.b0
    rw [ix_nat, hs, Option.bind_some]
    obtain ⟨a1, a2, a3⟩ := (h2 i _ hs).1
    rw [ranO_eq (by omega), Option.bind_some]
    refine (fix1_ok ht a3).bind fun u ⟨u1, u2⟩ => .some ⟨by simp [Pu.st, h1], fun j r hj => ?_⟩
    rw [Pu.st, Int.toNat_natCast, List.getElem?_set] at hj
    split at hj
    · cases hj
      exact ⟨⟨a1, by simp only; omega, fun y hy => (u2 y hy).1⟩, fun _ => ⟨a1, by simp only; omega, u2⟩⟩
    · exact ⟨(h2 j r hj).1, fun h => (h2 j r hj).2 (by omega)⟩
  · obtain ⟨j, hj, e⟩ := List.getElem_of_mem hr
    have : s[j]? = some r := by rw [List.getElem?_eq_getElem hj, e]
    exact (h2 j r this).2 (by rw [ran_length]; omega)
theorem symeq_ok (a b : List Sy) (ha : a.length ≤ 1000) : Ok (P.slices_Equal_api_Sym_api_Sym a b) fun z => z = true ↔ a = b := by
  unfold P.slices_Equal_api_Sym_api_Sym
  refine .ite (fun h => .some (Iff.intro (fun e => (by cases e)) fun e => absurd (by rw [e]) h)) fun h => ?_
  have hl : a.length = b.length := by omega
  rw [ranO_eq (by omega), Option.bind_some]
  refine Ok.bind (Q := fun | .out _ => a = b | .rt z => z = false ∧ a ≠ b) (forL_ok (fun i _ => ∀ j, j < i → a[j]? = b[j]?) (fun j h => by omega) ?_ fun _ h => ?_) ?_
  · intro i x _ hx hI
    obtain ⟨rfl, hi⟩ := ran_at hx
    have e1 : a[i]? = some (a[i]'(by omega)) := List.getElem?_eq_getElem _
    have e2 : b[i]? = some (b[i]'(by omega)) := List.getElem?_eq_getElem _
    unfold P.slices_Equal_api_Sym_api_Sym.b0
    rw [ix_nat, e1, Option.bind_some, ix_nat, e2, Option.bind_some]
    refine .ite (fun q => .some ⟨rfl, fun e => ?_⟩) fun q => .some fun j hj => ?_
    · subst e; simp at q
    · rcases Nat.lt_succ_iff_lt_or_eq.1 hj with h | rfl
      · exact hI j h
      · rw [e1, e2]
        simp at q
        obtain ⟨q1, q2⟩ := q
        generalize a[j]'(by omega) = u at q1 q2
        generalize b[j]'(by omega) = v at q1 q2
        cases u; cases v; simp only at q1 q2; rw [q1, q2]
  · refine List.ext_getElem? fun i => ?_
    rcases Nat.lt_or_ge i a.length with e | e
    · exact h i (by rw [ran_length]; omega)
    · rw [List.getElem?_eq_none e, List.getElem?_eq_none (by omega)]
  · rintro (_ | z) h
    · exact .some ⟨fun _ => h, fun _ => rfl⟩
    · exact .some (Iff.intro (fun e => (by rw [h.1] at e; cases e)) fun e => absurd e h.2)
theorem contains_ok {l : List Ru} {r : Ru} (hl : ∀ x ∈ l, x.Right.length ≤ 1000) (hn : l.length ≤ 1000) : Ok (P.slices_ContainsFunc_api_Rule_api_Rule__parlkeep5_distinct_1 l r) fun z => z = false → ∀ x ∈ l, x ≠ r := by
  unfold P.slices_ContainsFunc_api_Rule_api_Rule__parlkeep5_distinct_1 P.slices_IndexFunc_api_Rule_api_Rule__parlkeep5_distinct_1
  refine Ok.bind (Q := fun z => z < 0 → ∀ x ∈ l, x ≠ r) ?_ fun z hz => .some fun e => hz (by simp at e; omega)
  rw [ranO_eq (by omega), Option.bind_some]
  refine Ok.bind (Q := fun | .out _ => ∀ x ∈ l, x ≠ r | .rt z => 0 ≤ z) (forL_ok (fun i _ => ∀ (j : Nat) x, j < i → l[j]? = some x → x ≠ r) (fun j x h => by omega) ?_ fun _ h => ?_) ?_
  · intro i x _ hx hI
    obtain ⟨rfl, hi⟩ := ran_at hx
    have e1 : l[i]? = some (l[i]'(by omega)) := List.getElem?_eq_getElem _
    unfold P.slices_IndexFunc_api_Rule_api_Rule__parlkeep5_distinct_1.b0 P.parlkeep5_distinct_1
    rw [ix_nat, e1, Option.bind_some]
    refine Ok.bind (Q := fun z => z = false → (l[i]'(by omega)) ≠ r) ?_ fun z hz => .ite (fun _ => .some (by simp only; omega)) fun q => .some fun j x hj hx' => ?_
    · refine Ok.bind (Q := fun z => z = false → (l[i]'(by omega)) ≠ r) (.ite (fun q => ?_) fun q => .some fun _ e => q (by simp [e])) fun z hz => .some hz
      exact (symeq_ok _ _ (hl _ (List.getElem_mem _))).bind fun z hz => .some fun e e2 => by
        have := hz.2 (by rw [e2]); rw [this] at e; cases e
    · rcases Nat.lt_succ_iff_lt_or_eq.1 hj with h | rfl
      · exact hI j x h hx'
      · rw [e1] at hx'; cases hx'; exact hz (by simpa using q)
  · intro x hx
    obtain ⟨j, hj, e⟩ := List.getElem_of_mem hx
    exact h j x (by rw [ran_length]; omega) (by rw [List.getElem?_eq_getElem hj, e])
  · rintro (_ | z) h
    · exact .some fun _ => h
    · exact .some fun e => by simp only at h; omega
theorem distinct_ok {l : List Ru} (hl : ∀ x ∈ l, x.Right.length ≤ 1000) (hn : l.length ≤ 1000) : Ok (P.parlkeep5_distinct l) fun u => u.length ≤ l.length ∧ (∀ x ∈ u, x ∈ l) ∧ u.Pairwise (· ≠ ·) := by
  unfold P.parlkeep5_distinct
  refine Ok.bind (Q := fun (u : List Ru) => u.length ≤ l.length ∧ (∀ x ∈ u, x ∈ l) ∧ u.Pairwise (· ≠ ·)) (forP_ok (fun i (u : List Ru) => u.length ≤ i ∧ (∀ x ∈ u, x ∈ l) ∧ u.Pairwise (· ≠ ·)) ⟨by simp, by simp, .nil⟩ ?_ fun _ h => h) fun u h => .some h
  intro i x u hx ⟨h1, h2, h3⟩
  have hi := (List.getElem?_eq_some_iff.1 hx).1
  unfold P.parlkeep5_distinct.b0
  refine (contains_ok (fun x hx => hl x (h2 x hx)) (by omega)).bind fun z hz => ?_
  refine Ok.bind (Q := fun (u : List Ru) => u.length ≤ i + 1 ∧ (∀ x ∈ u, x ∈ l) ∧ u.Pairwise (· ≠ ·)) (.ite (fun q => ?_) fun _ => .some ⟨by omega, h2, h3⟩) fun u h => .some h
  rw [app_eq (by simp; omega), Option.bind_some]
  refine .some ⟨by simp; omega, fun y hy => ?_, ?_⟩
  · rcases List.mem_append.1 hy with hy | hy
    · exact h2 y hy
    · cases List.mem_singleton.1 hy; exact List.mem_of_getElem? hx
  · rw [List.pairwise_append]
    exact ⟨h3, List.pairwise_singleton _ _, fun a ha b hb => by cases List.mem_singleton.1 hb; exact hz (by simpa using q) a ha⟩
theorem seq_ok (a : List Int) (ha : a.length ≤ 1000) : P.slices_Equal_int_int a a = some true := by
  refine Ok.eq ?_
  unfold P.slices_Equal_int_int
  rw [if_neg (by simp), ranO_eq (by omega), Option.bind_some]
  refine Ok.bind (Q := fun y => y = .out ()) (forL_ok (fun _ _ => True) trivial ?_ fun _ _ => rfl) fun y hy => by subst hy; exact .some rfl
  intro i x _ hx _
  obtain ⟨rfl, hi⟩ := ran_at hx
  have e1 : a[i]? = some (a[i]'(by omega)) := List.getElem?_eq_getElem _
  unfold P.slices_Equal_int_int.b0
  rw [ix_nat, e1, Option.bind_some, Option.bind_some, if_neg (by simp)]
  exact .some trivial
theorem compareSides_plain (l m : List Int) (n : Int) : P.parlkeep5_CompareSides 10000000 l m n = some true := by
  refine Ok.eq ?_
  unfold P.parlkeep5_CompareSides
  refine (grammar_ok l).bind fun g hg => (grammar_ok m).bind fun h0 hh0 => ?_
  have hv := hg.toValid
  have hv0 := hh0.toValid
  have hlen := hh0.len3
  refine (fix_ok (nons := h0.Nons) hv.t1 (l := h0.Rules) (fun r hr => ⟨hv0.lft r hr, hv0.rgt r hr, fun y hy => ⟨(hv0.sym r hr y hy).1, (hv0.sym r hr y hy).2.2⟩⟩) (by omega)).bind fun x3 ⟨f1, f2⟩ => ?_
  refine (distinct_ok (l := x3) (fun x hx => by have := (f2 x hx).2.1; omega) (by omega)).bind fun x4 ⟨d1, d2, d3⟩ => ?_
  have hh : Valid (Ty.api_Grammar.mk g.Terms h0.Nons h0.Start x4) :=
    ⟨hv.t1, hv.t2, hv0.n1, hv0.n2, hv0.s1, hv0.s2, by simp only; omega, fun r hr => (f2 r (d2 r hr)).1, fun r hr => (f2 r (d2 r hr)).2.1, fun r hr s hs => ⟨((f2 r (d2 r hr)).2.2 s hs).1.1, ((f2 r (d2 r hr)).2.2 s hs).2, ((f2 r (d2 r hr)).2.2 s hs).1.2⟩, d3⟩
  generalize eh : Ty.api_Grammar.mk g.Terms h0.Nons h0.Start x4 = h at hh
  have ht : g.Terms = h.Terms := by rw [← eh]
  rw [plain_eq, Option.bind_some, plain_least, Option.bind_some]
  have eq0 : P.slices_Equal_int_int [0] [0] = some true := rfl
  simp only [ne_eq, not_true_eq_false, decide_false, Bool.or_self, Bool.false_eq_true, if_false, eq0, Option.bind_some, Bool.not_true]
  refine (pbelow_ok (by omega) (by omega)).bind fun k ⟨k0, k1⟩ => ?_
  obtain ⟨r, er, hr⟩ := least_tot hv hh ht hg.t3 k0 (by omega) (φ := 10000000) (by omega)
  rw [least_sw hv hh ht, er, Option.bind_some, Option.map_some, Option.bind_some]
  rcases hr with rfl | ⟨e0, hl, a, b, ea, eb, hab⟩
  · exact .some (by simp [sw])
  · have es : (sw r).2.2 = r.2.2 := rfl
    have e1 : (sw r).1 = r.1 := rfl
    rw [es, e1, e0]
    simp only [not_true_eq_false, decide_false, Bool.false_eq_true, if_false, Option.bind_some, Bool.false_and]
    rw [if_neg (by omega), ea, Option.bind_some, eb, Option.bind_some, seq_ok _ (by omega), Option.bind_some]
    refine .some ?_
    unfold sw
    rcases hab with ⟨q1, q2, q3⟩ | ⟨q1, q2, q3⟩
    · simp [q1, q2, q3]
    · simp [q1, q2, q3]
end Go.Proofs.Ythgdobdhdfjhfaa.Gr
