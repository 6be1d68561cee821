/- lens.Set: which lengths the words have. Own work. -/
import Derived.Test.YthgdobdhdfjhfaaLens0
namespace Go.Proofs.Ythgdobdhdfjhfaa.Gr
open Go Go.Ab Go.Pu
theorem sums_ok {M : List (List Bool)} {nons : Int} {n : Nat} {l : List Sy} (hM : Dim M nons (n + 1)) (hn : n ≤ 1000000) (hl : ∀ s ∈ l, s.Term = false → 0 ≤ s.N ∧ s.N < nons) :
    Ok (P.lens_sums l M n) fun at_ => at_.length = n + 1 ∧ ∀ k : Nat, k ≤ n → (el at_ (k : Int) = true ↔ SumL (fH M) l k) := by
  unfold P.lens_sums
  rw [W_id, mk_eq (by omega) (by omega) (by omega), Option.bind_some, ix_el (by omega) (by simp), Option.bind_some]
  have hz : ∀ k : Nat, k ≤ n → el (List.replicate ((n : Int) + 1).toNat false) (k : Int) = false := fun k hk => el_rep (by omega) (by omega)
  refine Ok.bind (Q := fun at_ => at_.length = n + 1 ∧ ∀ k : Nat, k ≤ n → (el at_ (k : Int) = true ↔ SumL (fH M) l k)) (forP_ok (fun i at_ => at_.length = n + 1 ∧ ∀ k : Nat, k ≤ n → (el at_ (k : Int) = true ↔ SumL (fH M) (l.take i) k)) ?_ ?_ ?_) fun s h => .some h
  · refine ⟨by simp, fun k hk => ?_⟩
    rw [el_st (by omega) (by simp) (by omega)]
    simp only [List.take_zero, SumL]
    split
    · simp <;> omega
    · rw [hz k hk]; simp <;> omega
  · intro i s at_ hs ⟨h1, h2⟩
    have hsm := hl s (List.mem_of_getElem? hs)
    unfold P.lens_sums.b0
    rw [W_id, mk_eq (by omega) (by omega) (by omega), Option.bind_some]
    refine Ok.bind (forP_ok (fun (k : Nat) nx => nx.length = n + 1 ∧ ∀ m : Nat, m ≤ n → (el nx (m : Int) = true ↔ ∃ a b, m = a + b ∧ a < k ∧ el at_ (a : Int) = true ∧ fH M s b)) ?_ ?_ fun s h => h) ?_
    · refine ⟨by simp, fun m hm => ?_⟩
      rw [hz m hm]; simp
    · intro k ok nx hk ⟨h3, h4⟩
      have hk1 := (List.getElem?_eq_some_iff.1 hk).1
      have hok : el at_ (k : Int) = ok := el_nat hk
      unfold P.lens_sums.b1
      cases ok with
      | false =>
        refine .some ⟨h3, fun m hm => (h4 m hm).trans ⟨?_, ?_⟩⟩
        · rintro ⟨a, b, e, h, r⟩; exact ⟨a, b, e, by omega, r⟩
        · rintro ⟨a, b, e, h, r, q⟩
          have : a ≠ k := fun e => by subst e; rw [hok] at r; cases r
          exact ⟨a, b, e, by omega, r, q⟩
      | true =>
        rw [if_neg (by simp), W_id (n := (n : Int) + 1), W_id, ranO_eq (by omega), Option.bind_some]
        refine Ok.bind (forP_ok (fun (j : Nat) nx' => nx'.length = n + 1 ∧ ∀ m : Nat, m ≤ n → (el nx' (m : Int) = true ↔ el nx (m : Int) = true ∨ ∃ b, m = k + b ∧ b < j ∧ fH M s b)) ⟨h3, fun m _ => by simp⟩ ?_ fun s h => h) ?_
        · intro j z nx' hz' ⟨h5, h6⟩
          obtain ⟨rfl, hj⟩ := ran_at hz'
          unfold P.lens_sums.b2
          rw [W_id, ix_el (by omega) (by omega), Option.bind_some]
          have e1 : ((if (!s.Term) = true then (Pu.ix M s.N).bind fun x9 => (Pu.ix x9 (j : Int)).bind fun x10 => some x10 else some false) : Option Bool) = some (!s.Term && el2 M s.N j) := by
            cases ht : s.Term with
            | true => rfl
            | false =>
              obtain ⟨a, b⟩ := hsm ht
              simp only [Bool.not_false, if_true]
              rw [hM.ix a b, Option.bind_some, hM.ix2 a b (by omega) (by omega)]; rfl
          have e3 := or3 (a := el nx' ((k : Int) + j)) (b := s.Term && decide ((j : Int) = 1)) e1
          refine Ok.bind (o := if el nx' ((k : Int) + j) = true then some true else some (s.Term && decide ((j : Int) = 1))) (Q := fun y => y = (el nx' ((k : Int) + j) || (s.Term && decide ((j : Int) = 1)))) (by cases el nx' ((k : Int) + j) <;> exact .some rfl) fun y4 hy4 => ?_
          subst hy4
          rw [e1]
          refine Ok.bind (Q := fun y => y = (el nx' ((k : Int) + j) || (s.Term && decide ((j : Int) = 1)) || (!s.Term && el2 M s.N j))) ?_ fun y5 hy5 => ?_
          · cases (el nx' ((k : Int) + j) || (s.Term && decide ((j : Int) = 1))) <;> exact .some rfl
          · subst hy5
            refine .some ⟨by simp [h5], fun m hm => ?_⟩
            rw [el_st (by omega) (by omega) (by omega)]
            have hf : fH M s j ↔ ((s.Term && decide ((j : Int) = 1)) || (!s.Term && el2 M s.N j)) = true := by
              unfold fH; cases s.Term <;> simp <;> omega
            split
            · rename_i e
              have e' : m = k + j := by omega
              subst e'
              rw [Bool.or_assoc, Bool.or_eq_true, ← hf]
              have := h6 (k + j) hm
              rw [show ((k + j : Nat) : Int) = (k : Int) + j by omega] at this ⊢
              rw [this]
              constructor
              · rintro ((h | ⟨b, e, h, q⟩) | h)
                · exact .inl h
                · exact .inr ⟨b, e, by omega, q⟩
                · exact .inr ⟨j, rfl, by omega, h⟩
              · rintro (h | ⟨b, e, h, q⟩)
                · exact .inl (.inl h)
                · have : b = j := by omega
                  subst this; exact .inr q
            · rename_i e
              rw [h6 m hm]
              constructor
              · rintro (h | ⟨b, e, h, q⟩)
                · exact .inl h
                · exact .inr ⟨b, e, by omega, q⟩
              · rintro (h | ⟨b, e1, h, q⟩)
                · exact .inl h
                · have : b ≠ j := by omega
                  exact .inr ⟨b, e1, by omega, q⟩
        · rintro nx' ⟨h5, h6⟩
          refine .some ⟨h5, fun m hm => ?_⟩
          rw [h6 m hm, h4 m hm, ran_length]
          constructor
          · rintro (⟨a, b, e, h, r⟩ | ⟨b, e, h, q⟩)
            · exact ⟨a, b, e, by omega, r⟩
            · exact ⟨k, b, e, by omega, hok, q⟩
          · rintro ⟨a, b, e, h, r, q⟩
            rcases Nat.lt_succ_iff_lt_or_eq.1 h with h | rfl
            · exact .inl ⟨a, b, e, h, r, q⟩
            · exact .inr ⟨b, e, by omega, q⟩
    · rintro nx ⟨h3, h4⟩
      refine .some ⟨h3, fun k hk => ?_⟩
      rw [h4 k hk, List.take_add_one, hs, Option.toList_some, SumL.app]
      constructor
      · rintro ⟨a, b, e, h, r, q⟩
        exact ⟨a, b, e, (h2 a (by omega)).1 r, SumL.one.2 q⟩
      · rintro ⟨a, b, e, r, q⟩
        exact ⟨a, b, e, by omega, (h2 a (by omega)).2 r, SumL.one.1 q⟩
  · intro at_ ⟨h1, h2⟩
    rw [List.take_length] at h2
    exact ⟨h1, h2⟩

/-! ### lens.Set -/
/-- What a round over some rules comes to. -/
structure Rnd (R : List Ru) (M0 : List (List Bool)) (nons : Int) (n : Nat) (done : Ru → Prop) (s : List (List Bool) × Bool) : Prop where
  dim : Dim s.1 nons (n + 1)
  snd : Snd R s.1 nons n
  w : wM s.1 + (if s.2 then 1 else 0) ≤ wM M0
  no : s.2 = false → s.1 = M0 ∧ ∀ r, done r → Cls M0 n r
theorem round_ok {g : Ty.api_Grammar} (hv : Valid g) {n : Nat} (hn : n ≤ 1000000) {M0 : List (List Bool)} (hd : Dim M0 g.Nons (n + 1)) (hs : Snd g.Rules M0 g.Nons n) :
    Ok (Pu.forP (P.lens_Set.b2 n) 0 g.Rules (M0, false)) fun s => Rnd g.Rules M0 g.Nons n (fun r => r ∈ g.Rules) s := by
  refine forP_ok (fun i s => Rnd g.Rules M0 g.Nons n (fun r => ∃ j, j < i ∧ g.Rules[j]? = some r) s) ⟨hd, hs, by simp, fun _ => ⟨rfl, fun r ⟨j, h, _⟩ => by omega⟩⟩ ?_ ?_
  · intro i r s hr hI
    have hm := List.mem_of_getElem? hr
    obtain ⟨l1, l2⟩ := hv.lft r hm
    have hsy : ∀ x ∈ r.Right, x.Term = false → 0 ≤ x.N ∧ x.N < g.Nons := fun x hx ht => ⟨(hv.sym r hm x hx).1, (hv.sym r hm x hx).2.2 ht⟩
    obtain ⟨M, ag⟩ := s
    unfold P.lens_Set.b2
    refine (sums_ok hI.dim hn hsy).bind fun at_ ⟨h1, h2⟩ => ?_
    -- the lengths one by one
    refine Ok.bind (forP_ok (fun (k : Nat) t => Rnd g.Rules M0 g.Nons n (fun q => ∃ j, j < i ∧ g.Rules[j]? = some q) t ∧ (ag = true → t.2 = true) ∧ (t.2 = false → ∀ j : Nat, j < k → j ≤ n → SumL (fH M) r.Right j → el2 M0 r.Left (j : Int) = true)) ⟨hI, id, fun _ j h => by omega⟩ ?_ fun s h => h) ?_
    · intro k ok t hk ⟨hJ, hag, hc⟩
      have hk1 := (List.getElem?_eq_some_iff.1 hk).1
      have hok : el at_ (k : Int) = ok := el_nat hk
      have e1 := hJ.dim.ix l1 l2
      have e2 := hJ.dim.ix2 (k := (k : Int)) l1 l2 (by omega) (by omega)
      unfold P.lens_Set.b3
      have e3 : ((if ok = true then (Pu.ix t.1 r.Left).bind fun x11 => (Pu.ix x11 (k : Int)).bind fun x12 => some (!x12) else some false) : Option Bool) = some (ok && !el2 t.1 r.Left k) := by
        cases ok with
        | true => simp only [if_true]; rw [e1, Option.bind_some, e2]; rfl
        | false => rfl
      rw [e3, Option.bind_some]
      cases hb : (ok && !el2 t.1 r.Left k) with
      | true =>
        simp only [if_true]
        rw [e1, Option.bind_some, e2, Option.bind_some]
        simp only [Bool.and_eq_true, Bool.not_eq_true'] at hb
        obtain ⟨b1, b2⟩ := hb
        subst b1
        have hw := wM_st hJ.dim l1 l2 (by omega) (by omega) b2
        refine .some ⟨⟨hJ.dim.st2 l1 l2, fun a j a0 a1 hj q => ?_, ?_, fun e => by cases e⟩, fun _ => rfl, fun e => by cases e⟩
        · rw [show Pu.st t.1 r.Left (Pu.st (el t.1 r.Left) (k : Int) true) = st2 t.1 r.Left k true from rfl, hJ.dim.el_st2 l1 l2 (by omega) (by omega) a0 (by omega)] at q
          split at q
          · rename_i e
            have e' : j = k := by omega
            obtain ⟨rfl, -⟩ := e
            subst e'
            refine Le.non_iff.2 ⟨r, hm, rfl, ?_⟩
            exact snd_le hI.snd hsy hj ((h2 j hj).1 hok)
          · exact hJ.snd a j a0 a1 hj q
        · have := hJ.w
          show wM (st2 t.1 r.Left k true) + _ ≤ _
          simp only [if_true]
          split at this <;> omega
      | false =>
        refine .some ⟨⟨hJ.dim, hJ.snd, hJ.w, hJ.no⟩, hag, fun e j hj hj2 q => ?_⟩
        rcases Nat.lt_succ_iff_lt_or_eq.1 hj with h | rfl
        · exact hc e j h hj2 q
        · have := (h2 j hj2).2 q
          rw [hok] at this
          subst this
          have e4 := (hJ.no e).1
          simp only [Bool.true_and, Bool.not_eq_false'] at hb
          rw [← e4]; exact hb
    · rintro t ⟨hJ, hag, hc⟩
      refine .some ⟨hJ.dim, hJ.snd, hJ.w, fun e => ⟨(hJ.no e).1, fun q hq => ?_⟩⟩
      obtain ⟨j, hj, hq⟩ := hq
      rcases Nat.lt_succ_iff_lt_or_eq.1 hj with h | rfl
      · exact (hJ.no e).2 q ⟨j, h, hq⟩
      · rw [hr] at hq; cases hq
        intro k hk hsum
        -- the table did not change in between
        have hM : M = M0 := by
          by_cases ha : ag = false
          · exact (hI.no ha).1
          · have := hag (by simpa using ha); rw [e] at this; cases this
        rw [← hM] at hsum
        exact hc e k (by omega) hk hsum
  · intro s h
    exact ⟨h.dim, h.snd, h.w, fun e => ⟨(h.no e).1, fun r hr => by
      obtain ⟨j, hj, e2⟩ := List.mem_iff_getElem.1 hr
      exact (h.no e).2 r ⟨j, hj, by rw [List.getElem?_eq_getElem hj, e2]⟩⟩⟩
theorem rows_ok {n : Nat} (hn : n ≤ 1000000) {nons : Int} (h0 : 0 ≤ nons) (h1 : nons ≤ 1000) :
    Ok (Pu.forP (P.lens_Set.b0 n) 0 (Pu.ran nons) (List.replicate nons.toNat [])) fun M => Dim M nons (n + 1) ∧ (∀ a k : Int, 0 ≤ a → a < nons → 0 ≤ k → k ≤ n → el2 M a k = false) ∧ wM M ≤ nons.toNat * (n + 1) := by
  refine forP_ok (fun i (M : List (List Bool)) => (M.length : Int) = nons ∧ (∀ a : Int, 0 ≤ a → a < i → el M a = List.replicate (n + 1) false)) ⟨by simp; omega, fun a h h' => by omega⟩ ?_ ?_
  · intro i x M hx ⟨h2, h3⟩
    obtain ⟨rfl, hi⟩ := ran_at hx
    unfold P.lens_Set.b0
    rw [W_id, mk_eq (by omega) (by omega) (by omega), Option.bind_some, ix_el (by omega) (by omega), Option.bind_some]
    refine .some ⟨by simpa using h2, fun a ha hb => ?_⟩
    rw [el_st (by omega) (by omega) ha]
    split
    · congr 1
    · exact h3 a ha (by omega)
  · intro M ⟨h2, h3⟩
    have h4 : ∀ a : Int, 0 ≤ a → a < nons → el M a = List.replicate (n + 1) false := fun a ha hb => h3 a ha (by rw [ran_length]; omega)
    refine ⟨⟨h2, fun a ha hb => by rw [h4 a ha hb]; simp⟩, fun a k ha hb hc hd => ?_, ?_⟩
    · unfold el2; rw [h4 a ha hb, el_rep hc (by omega)]
    · have := wt_le (wt wf) (n + 1) M fun r hr => by
        obtain ⟨j, hj, rfl⟩ := List.mem_iff_getElem.1 hr
        have := h4 (j : Int) (by omega) (by omega)
        have e : M[j] = el M (j : Int) := (el_nat (List.getElem?_eq_getElem hj)).symm
        rw [e, this, wt_rep]; simp [wf]
      rw [show nons.toNat = M.length by omega]; exact this
/-- lens.Set tells the lengths of the words of the start symbol. -/
theorem set_ok {g : Ty.api_Grammar} (hv : Valid g) {n : Nat} (hn : n ≤ 200) {φ : Nat} (hφ : 10000 ≤ φ) :
    Ok (P.lens_Set φ g n) fun r => r.2 = 0 ∧ r.1.length = n + 1 ∧ ∀ k : Nat, k ≤ n → (el r.1 (k : Int) = true ↔ Le g.Rules [⟨false, g.Start⟩] k) := by
  have n1 := hv.n1; have n2 := hv.n2; have s1 := hv.s1; have s2 := hv.s2
  unfold P.lens_Set
  rw [check_ok hv, Option.bind_some, if_neg (by simp), if_neg (by simp; omega), mk_eq (by omega) (by omega) (by omega), Option.bind_some, List.length_replicate, show ((g.Nons.toNat : Nat) : Int) = g.Nons by omega, ranO_eq (by omega), Option.bind_some]
  refine (rows_ok (by omega) (by omega) (by omega)).bind fun M0 ⟨h1, h2, h3⟩ => ?_
  have hw : g.Nons.toNat * (n + 1) ≤ 10 * 201 := Nat.mul_le_mul (by omega) (by omega)
  refine Ok.bind (whl_ok (ρ := Unit) (Q := fun | .out s => s.1.length = g.Nons ∧ Dim s.1 g.Nons (n + 1) ∧ Snd g.Rules s.1 g.Nons n ∧ ∀ r ∈ g.Rules, Cls s.1 n r | .rt _ => False) (fun (s : List (List Bool) × Bool) => Dim s.1 g.Nons (n + 1) ∧ Snd g.Rules s.1 g.Nons n ∧ (s.2 = false → ∀ r ∈ g.Rules, Cls s.1 n r)) (fun (s : List (List Bool) × Bool) => wM s.1 + (if s.2 then 1 else 0)) ⟨h1, fun a k ha hb hk q => absurd q (by rw [h2 a k ha hb (by omega) (by omega)]; simp), fun e => by cases e⟩ ?_ (by simp only [if_true]; omega)) ?_
  · rintro ⟨M, b⟩ ⟨d1, d2, d3⟩
    unfold P.lens_Set.b1
    cases b with
    | false => exact .some ⟨d1.1, d1, d2, d3 rfl⟩
    | true =>
      rw [if_pos rfl]
      refine (round_ok hv (by omega) d1 d2).bind fun s hs => .some ⟨⟨hs.dim, hs.snd, fun e r hr => ?_⟩, ?_⟩
      · obtain ⟨e1, e2⟩ := hs.no e
        rw [show ((s.1, s.2) : List (List Bool) × Bool).1 = M from e1]; exact e2 r hr
      · have : wM s.1 + (if s.2 = true then 1 else 0) ≤ wM M := hs.w
        show wM s.1 + (if s.2 = true then 1 else 0) < wM M + 1
        omega
  · rintro (s | r) q
    · obtain ⟨q1, q2, q3, q4⟩ := q
      simp only [Fin.cs]
      rw [q2.ix s1 s2, Option.bind_some]
      refine .some ⟨rfl, by have := q2.2 _ s1 s2; simp only; omega, fun k hk => ⟨fun h => q3 _ k s1 s2 hk h, fun h => ?_⟩⟩
      have := cls_le q4 h hk
      obtain ⟨i, j, rfl, a, b⟩ := this
      simp only [SumL] at b; subst b
      rcases a with ⟨e, -⟩ | ⟨-, a⟩
      · cases e
      · exact a
    · exact q.elim
end Go.Proofs.Ythgdobdhdfjhfaa.Gr
