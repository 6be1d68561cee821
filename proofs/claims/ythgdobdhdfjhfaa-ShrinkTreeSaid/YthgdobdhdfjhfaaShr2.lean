/- shrink.Tree. Own work. -/
import Derived.Test.YthgdobdhdfjhfaaTree2
namespace Go.Proofs.Ythgdobdhdfjhfaa.Gr
open Go Go.Ab Go.Pu
variable {R : List Ru}
theorem below_l {g : Ty.api_Grammar} {left : Int} {d s : Nat} {ts : List Ty.api_Tree} {l : List Sy} {w : List Int} (h : Tr g.Rules d s ts l w) :
    ∀ (φ : Nat) (i : Int) (acc : List Ty.api_Tree), d + 1 < φ → acc.length + s ≤ 90000 → Ok (Pu.forP (P.shrink_below.b0 (P.shrink_below φ) g left) i ts acc) fun q =>
      ∃ m, q = acc ++ m ∧ m.length ≤ s ∧ ∀ v ∈ m, ∃ s' w', s' ≤ s ∧ Tr g.Rules d s' [v] [⟨false, left⟩] w' := by
  induction h with
  | nil => intro φ i acc _ _; exact .some ⟨[], by simp⟩
  | @leaf d s n0 ts l w _ ih =>
    intro φ i acc hφ ha
    obtain ⟨φ, rfl⟩ : ∃ φ', φ = φ' + 1 := ⟨φ - 1, by omega⟩
    have e : P.shrink_below (φ + 1) g ⟨-1, n0, []⟩ left = some [] := by simp [P.shrink_below]
    unfold Pu.forP
    rw [P.shrink_below.b0, e, Option.bind_some, app_eq (by simp; omega), Option.bind_some, Option.bind_some, List.append_nil]
    refine (ih (φ + 1) (i + 1) acc hφ (by omega)).mono fun q ⟨m, e1, e2, e3⟩ => ⟨m, e1, by omega, fun v hv => ?_⟩
    obtain ⟨s', w', a, b⟩ := e3 v hv
    exact ⟨s', w', by omega, b⟩
  | @node d s1 s2 k r kids ts l v w hr hk _ ih1 ih2 =>
    intro φ i acc hφ ha
    obtain ⟨φ, rfl⟩ : ∃ φ', φ = φ' + 1 := ⟨φ - 1, by omega⟩
    have hone : Tr g.Rules (d + 1) (s1 + 1) [⟨(k : Int), 0, kids⟩] [⟨false, r.Left⟩] v := by have := Tr.node hr hk .nil; simpa using this
    have e : Ok (P.shrink_below (φ + 1) g ⟨(k : Int), 0, kids⟩ left) fun q => q.length ≤ s1 + 1 ∧ ∀ v ∈ q, ∃ s' w', s' ≤ s1 + 1 ∧ Tr g.Rules (d + 1) s' [v] [⟨false, left⟩] w' := by
      simp only [P.shrink_below]
      rw [if_neg (by omega), ix_nat, hr, Option.bind_some]
      refine Ok.bind (Q := fun q => (q = [] ∨ (q = [⟨(k : Int), 0, kids⟩] ∧ r.Left = left))) (.ite (fun hl => ?_) fun _ => .some (.inl rfl)) fun q hq => ?_
      · rw [clone_ok φ (d + 1) (s1 + 1) _ _ _ hone (by omega) (by omega), Option.bind_some, app_eq (by simp), Option.bind_some]
        exact .some (.inr ⟨rfl, hl⟩)
      · refine (ih1 φ 0 q (by omega) (by rcases hq with rfl | ⟨rfl, -⟩ <;> simp <;> omega)).bind fun q' ⟨m, e1, e2, e3⟩ => .some ?_
        subst e1
        have h3 : ∀ v ∈ m, ∃ s' w', s' ≤ s1 + 1 ∧ Tr g.Rules (d + 1) s' [v] [⟨false, left⟩] w' := fun v hv => by
          obtain ⟨s', w', a, b⟩ := e3 v hv
          exact ⟨s', w', by omega, b.up⟩
        rcases hq with rfl | ⟨rfl, hl⟩
        · exact ⟨by simp; omega, by simpa using h3⟩
        · refine ⟨by simp; omega, fun v hv => ?_⟩
          rcases List.mem_append.1 hv with hv | hv
          · rw [List.mem_singleton.1 hv]
            exact ⟨s1 + 1, _, by omega, by rw [← hl]; exact hone⟩
          · exact h3 v hv
    unfold Pu.forP
    rw [P.shrink_below.b0]
    refine Ok.bind (Q := fun a => ∃ q, a = acc ++ q ∧ q.length ≤ s1 + 1 ∧ ∀ v ∈ q, ∃ s' w', s' ≤ s1 + 1 ∧ Tr g.Rules (d + 1) s' [v] [⟨false, left⟩] w') (e.bind fun q ⟨q1, q2⟩ => ?_) fun a ⟨q, ea, q1, q2⟩ => ?_
    · rw [app_eq (by omega), Option.bind_some]
      exact .some ⟨q, rfl, q1, q2⟩
    · subst ea
      have hb : (acc ++ q).length + s2 ≤ 90000 := by rw [List.length_append]; omega
      refine (ih2 (φ + 1) (i + 1) _ hφ hb).mono fun q' ⟨m, e1, e2, e3⟩ => ⟨q ++ m, by rw [e1, List.append_assoc], by simp; omega, fun v hv => ?_⟩
      rcases List.mem_append.1 hv with hv | hv
      · obtain ⟨s', w', a, b⟩ := q2 v hv; exact ⟨s', w', by omega, b⟩
      · obtain ⟨s', w', a, b⟩ := e3 v hv; exact ⟨s', w', by omega, b⟩
theorem below_one {g : Ty.api_Grammar} {left : Int} {d s : Nat} {t : Ty.api_Tree} {y : Sy} {w : List Int} (h : Tr g.Rules d s [t] [y] w) {φ : Nat} (hφ : d + 1 < φ) (hs : s ≤ 90000) : Ok (P.shrink_below φ g t left) fun q =>
    q.length ≤ s ∧ ∀ v ∈ q, ∃ s' w', s' ≤ s ∧ Tr g.Rules d s' [v] [⟨false, left⟩] w' := by
  obtain ⟨q', e, m, e1, e2, e3⟩ := below_l (left := left) h φ 0 [] hφ (by simpa using hs)
  simp only [Pu.forP, P.shrink_below.b0, Option.bind_assoc] at e
  obtain ⟨q, hq, e⟩ := Pu.bind_some e
  obtain ⟨x, hx, e⟩ := Pu.bind_some e
  simp only [Option.bind_some, Option.some.injEq] at e
  subst e
  unfold Pu.app at hx
  split at hx
  · cases hx
    rw [List.nil_append] at e1
    have e1' : q = m := by simpa using e1
    subst e1'
    exact ⟨q, hq, e2, e3⟩
  · cases hx
/-- How many smaller trees there may be. -/
def Bd : Nat → Nat
  | 0 => 0
  | d + 1 => 240 + 4 * Bd d
theorem Bd_le : ∀ d, d ≤ 14 → Bd d ≤ 30000000000 := by decide
theorem smaller_ok {g : Ty.api_Grammar} (hv : Valid g) : ∀ (φ d s : Nat) (t : Ty.api_Tree) (y : Sy) (w : List Int), Tr g.Rules d s [t] [y] w → SyOk g y → d + 2 < φ → d ≤ 14 → s ≤ 60 →
    Ok (P.shrink_Smaller φ g t) fun q => q.length ≤ Bd d ∧ ∀ v ∈ q, ∃ s' w', s' < s ∧ Tr g.Rules d s' [v] [y] w' := by
  intro φ
  induction φ with
  | zero => intro d s t y w _ _ h; omega
  | succ φ ih =>
    intro d s t y w h hy hφ hd hs
    simp only [P.shrink_Smaller]
    rw [tcheck_ok hv h (by omega) (by omega) hy, Option.bind_some]
    rcases h.one with ⟨n, rfl, rfl, rfl, -⟩ | ⟨d', k, s1, r, kids, rfl, hr, rfl, rfl, rfl, hk⟩
    · rw [if_pos (by simp), Option.bind_some, if_pos rfl]
      exact .some ⟨by simp, by simp⟩
    · have hm := List.mem_of_getElem? hr
      have hkl : kids.length ≤ 4 := by rw [hk.trees]; exact hv.rgt r hm
      rw [if_neg (by simp), h.size (by omega) (by omega), Option.bind_some, Option.bind_some, if_neg (by simp; omega)]
      have hb : Bd (d' + 1) = 240 + 4 * Bd d' := rfl
      have hb1 := Bd_le (d' + 1) hd
      dsimp only
      refine Ok.bind (forP_ok (fun i (q : List Ty.api_Tree) => q.length ≤ i * 60 ∧ ∀ v ∈ q, ∃ s' w', s' < s1 + 1 ∧ Tr g.Rules (d' + 1) s' [v] [⟨false, r.Left⟩] w')
        (Q := fun (q : List Ty.api_Tree) => q.length ≤ 240 ∧ ∀ v ∈ q, ∃ s' w', s' < s1 + 1 ∧ Tr g.Rules (d' + 1) s' [v] [⟨false, r.Left⟩] w') ⟨by simp, by simp⟩ (fun i x q hx ⟨q1, q2⟩ => ?_) fun q ⟨q1, q2⟩ => ⟨by omega, q2⟩) fun q ⟨q1, q2⟩ => ?_
      · have hi := (List.getElem?_eq_some_iff.1 hx).1
        obtain ⟨yi, si, wi, ha, htr, hle, -⟩ := hk.at hx
        unfold P.shrink_Smaller.b0
        rw [ix_nat, hr, Option.bind_some]
        refine (below_one (left := r.Left) htr (by omega) (by omega)).bind fun m ⟨m1, m2⟩ => ?_
        rw [app_eq (by omega), Option.bind_some]
        refine .some ⟨by simp; omega, fun v hv' => ?_⟩
        rcases List.mem_append.1 hv' with hv' | hv'
        · exact q2 v hv'
        · obtain ⟨s', w', a, b⟩ := m2 v hv'
          exact ⟨s', w', by omega, b.up⟩
      · refine Ok.bind (forP_ok (fun i (q : List Ty.api_Tree) => q.length ≤ 240 + i * Bd d' ∧ ∀ v ∈ q, ∃ s' w', s' < s1 + 1 ∧ Tr g.Rules (d' + 1) s' [v] [⟨false, r.Left⟩] w')
          (Q := fun (q : List Ty.api_Tree) => q.length ≤ Bd (d' + 1) ∧ ∀ v ∈ q, ∃ s' w', s' < s1 + 1 ∧ Tr g.Rules (d' + 1) s' [v] [⟨false, r.Left⟩] w') ⟨by omega, q2⟩ (fun i x q hx ⟨q1, q2⟩ => ?_) fun q ⟨q1, q2⟩ => ⟨?_, q2⟩) fun q hq => .some hq
        · have hi := (List.getElem?_eq_some_iff.1 hx).1
          obtain ⟨yi, si, wi, ha, htr, hle, hset⟩ := hk.at hx
          have hyi := hv.syok hm yi (List.mem_of_getElem? ha)
          have hmul : i * Bd d' + Bd d' ≤ 4 * Bd d' := by
            have : (i + 1) * Bd d' ≤ 4 * Bd d' := Nat.mul_le_mul_right _ (by omega)
            rw [Nat.add_mul, Nat.one_mul] at this; exact this
          unfold P.shrink_Smaller.b1
          refine (ih d' si x yi wi htr hyi (by omega) (by omega) (by omega)).bind fun m ⟨m1, m2⟩ => ?_
          refine Ok.bind (forP_ok (fun j (a : List Ty.api_Tree) => a.length = q.length + j ∧ ∀ v ∈ a, ∃ s' w', s' < s1 + 1 ∧ Tr g.Rules (d' + 1) s' [v] [⟨false, r.Left⟩] w')
            (Q := fun (a : List Ty.api_Tree) => a.length = q.length + m.length ∧ ∀ v ∈ a, ∃ s' w', s' < s1 + 1 ∧ Tr g.Rules (d' + 1) s' [v] [⟨false, r.Left⟩] w') ⟨by omega, q2⟩ (fun j u a hu ⟨a1, a2⟩ => ?_) fun a ha => ha) fun a ⟨a1, a2⟩ => .some ⟨by rw [Nat.add_mul, Nat.one_mul]; omega, a2⟩
          have hj := (List.getElem?_eq_some_iff.1 hu).1
          obtain ⟨s', w', c1, c2⟩ := m2 u (List.mem_of_getElem? hu)
          obtain ⟨w'', hnew⟩ := hset u s' w' c2
          unfold P.shrink_Smaller.b2
          rw [clone_ok φ (d' + 1) (s1 + 1) _ _ _ h (by omega) (by omega), Option.bind_some]
          dsimp only
          rw [ix_nat, hx, Option.bind_some, app_eq (by simp; omega), Option.bind_some]
          refine .some ⟨by simp; omega, fun v hv' => ?_⟩
          rcases List.mem_append.1 hv' with hv' | hv'
          · exact a2 v hv'
          · rw [List.mem_singleton.1 hv']
            refine ⟨s1 - si + s' + 1, w'', by omega, ?_⟩
            have := Tr.node hr hnew .nil
            simpa [Pu.st] using this
        · have : kids.length * Bd d' ≤ 4 * Bd d' := Nat.mul_le_mul_right _ hkl
          omega
theorem fails_ok {a : Int} (ha : 0 ≤ a ∧ a < 4) {d s : Nat} {t : Ty.api_Tree} {y : Sy} {w : List Int} (h : Tr R d s [t] [y] w) {φ : Nat} (hφ : d < φ) (hs : s ≤ 100000) : ∃ b, P.parlkeep5_ShrinkTree_1 φ t a = some b := by
  have hw := h.words
  unfold P.parlkeep5_ShrinkTree_1
  rw [h.word hφ (by omega), Option.bind_some, W_id]
  have e : Pu.rem ((w.length : Int) + a) 2 = some (((w.length : Int) + a).tmod 2) := by unfold Pu.rem; rw [if_neg (by omega)]
  rw [e, Option.bind_some]
  split
  · exact ⟨_, rfl⟩
  · rw [h.size hφ hs]; exact ⟨_, rfl⟩
theorem stree_ok {g : Ty.api_Grammar} (hv : Valid g) {a : Int} (ha : 0 ≤ a ∧ a < 4) {d s : Nat} {t : Ty.api_Tree} {y : Sy} {w : List Int} (h : Tr g.Rules d s [t] [y] w) (hy : SyOk g y) (hd : d ≤ 14) (hs : s ≤ 60) {φ : Nat} (hφ : 200 ≤ φ) :
    Ok (P.shrink_Tree__parlkeep5_ShrinkTree_1 φ g t a) fun r => (P.parlkeep5_ShrinkTree_1 φ t a = some false ∧ r.2 = 7) ∨ (P.parlkeep5_ShrinkTree_1 φ t a = some true ∧ r.2 = 0 ∧ ∃ s' w', s' ≤ s ∧ Tr g.Rules d s' [r.1] [y] w' ∧
      P.parlkeep5_ShrinkTree_1 φ r.1 a = some true ∧ ∃ l, P.shrink_Smaller φ g r.1 = some l ∧ ∀ v ∈ l, P.parlkeep5_ShrinkTree_1 φ v a = some false) := by
  obtain ⟨t1, t2, t3⟩ := t
  unfold P.shrink_Tree__parlkeep5_ShrinkTree_1
  have hcl := clone_ok φ d s _ y w h (by omega) (by omega)
  rw [tcheck_ok hv h (by omega) (by omega) hy, Option.bind_some, if_neg (by omega), h.size (by omega) (by omega), Option.bind_some, if_neg (by omega), hcl, Option.bind_some]
  obtain ⟨b, hb⟩ := fails_ok ha h (φ := φ) (by omega) (by omega)
  rw [hb, Option.bind_some]
  cases b with
  | false => exact .some (.inl ⟨rfl, rfl⟩)
  | true =>
    rw [if_neg (by simp), Option.bind_some]
    refine Ok.bind (Q := fun r => ∃ q : Int × Int × List Ty.api_Tree × Bool, r = .out q ∧ ∃ s' w', s' ≤ s ∧ Tr g.Rules d s' [⟨q.1, q.2.1, q.2.2.1⟩] [y] w' ∧
      P.parlkeep5_ShrinkTree_1 φ ⟨q.1, q.2.1, q.2.2.1⟩ a = some true ∧ ∃ l, P.shrink_Smaller φ g ⟨q.1, q.2.1, q.2.2.1⟩ = some l ∧ ∀ v ∈ l, P.parlkeep5_ShrinkTree_1 φ v a = some false)
      (whl_ok (fun (q : Int × Int × List Ty.api_Tree × Bool) => ∃ s' w', s' ≤ s ∧ Tr g.Rules d s' [⟨q.1, q.2.1, q.2.2.1⟩] [y] w' ∧ P.parlkeep5_ShrinkTree_1 φ ⟨q.1, q.2.1, q.2.2.1⟩ a = some true ∧
        (q.2.2.2 = false → ∃ l, P.shrink_Smaller φ g ⟨q.1, q.2.1, q.2.2.1⟩ = some l ∧ ∀ v ∈ l, P.parlkeep5_ShrinkTree_1 φ v a = some false))
        (fun q => 2 * ((P.tree_Size φ ⟨q.1, q.2.1, q.2.2.1⟩).getD 0).toNat + (if q.2.2.2 then 1 else 0)) ⟨s, w, by omega, h, hb, fun q => by cases q⟩ (fun q ⟨s', w', h1, h2, h3, h4⟩ => ?_) ?_) fun r ⟨q, e, s', w', h1, h2, h3, h4⟩ => ?_
    · unfold P.shrink_Tree__parlkeep5_ShrinkTree_1.b0
      cases hq : q.2.2.2 with
      | false =>
        rw [if_neg (by simp)]
        obtain ⟨l, hl1, hl2⟩ := h4 hq
        exact .some ⟨_, rfl, s', w', h1, h2, h3, l, hl1, hl2⟩
      | true =>
        rw [if_pos rfl]
        obtain ⟨l, hl1, hl2, hl3⟩ := smaller_ok hv φ d s' _ y w' h2 hy (by omega) hd (by omega)
        rw [hl1, Option.bind_some]
        have hsz := h2.size (φ := φ) (by omega) (by omega)
        refine Ok.bind (forL_ok (fun i (c : Int × Int × List Ty.api_Tree × Bool) => c = (q.1, q.2.1, q.2.2.1, false) ∧ ∀ (j : Nat) v, j < i → l[j]? = some v → P.parlkeep5_ShrinkTree_1 φ v a = some false)
          (Q := fun r => ∃ c : Int × Int × List Ty.api_Tree × Bool, r = .out c ∧ ((c = (q.1, q.2.1, q.2.2.1, false) ∧ ∀ v ∈ l, P.parlkeep5_ShrinkTree_1 φ v a = some false) ∨ ∃ v ∈ l, c = (v.Rule, v.Term, v.Kids, true) ∧ P.parlkeep5_ShrinkTree_1 φ v a = some true))
          ⟨rfl, fun j v hj => by omega⟩ (fun i x c hx ⟨c1, c2⟩ => ?_) fun c ⟨c1, c2⟩ => ⟨c, rfl, .inl ⟨c1, fun v hv' => ?_⟩⟩) fun r ⟨c, e, hc⟩ => ?_
        · obtain ⟨s2, w2, k1, k2⟩ := hl3 x (List.mem_of_getElem? hx)
          unfold P.shrink_Tree__parlkeep5_ShrinkTree_1.b1
          rw [clone_ok φ d s2 x y w2 k2 (by omega) (by omega), Option.bind_some]
          obtain ⟨b, hb⟩ := fails_ok ha k2 (φ := φ) (by omega) (by omega)
          rw [hb, Option.bind_some]
          cases b with
          | true => exact .some ⟨_, rfl, .inr ⟨x, List.mem_of_getElem? hx, rfl, hb⟩⟩
          | false =>
            refine .some ⟨by rw [c1], fun j v hj hjv => ?_⟩
            by_cases e : j = i
            · subst e; rw [hx] at hjv; cases hjv; exact hb
            · exact c2 j v (by omega) hjv
        · obtain ⟨j, hj⟩ := List.getElem?_of_mem hv'
          exact c2 j v (List.getElem?_eq_some_iff.1 hj).1 hj
        · subst e
          rcases hc with ⟨rfl, hall⟩ | ⟨v, hvl, rfl, hf⟩
          · refine .some ⟨⟨s', w', h1, h2, h3, fun _ => ⟨l, hl1, hall⟩⟩, ?_⟩
            simp [hq]
          · obtain ⟨v1, v2, v3⟩ := v
            obtain ⟨s2, w2, k1, k2⟩ := hl3 _ hvl
            refine .some ⟨⟨s2, w2, by omega, k2, hf, fun q => by cases q⟩, ?_⟩
            have hsz2 := k2.size (φ := φ) (by omega) (by omega)
            dsimp only
            rw [hsz, hsz2]
            simp [hq]; omega
    · have hsz := h.size (φ := φ) (by omega) (by omega)
      dsimp only
      rw [hsz]
      simp; omega
    · subst e
      exact .some (.inr ⟨rfl, rfl, s', w', h1, h2, h3, h4⟩)
end Go.Proofs.Ythgdobdhdfjhfaa.Gr
