/- lens.Greatest: the greatest length. Own work. -/
import Derived.Test.YthgdobdhdfjhfaaLens1
import Derived.Test.YthgdobdhdfjhfaaWar
namespace Go.Proofs.Ythgdobdhdfjhfaa.Gr
open Go Go.Ab Go.Pu

/-- What is known of a symbol. -/
def wS (L : List Int) (s : Sy) : Int := if s.Term then 1 else el L s.N
def PosL (L : List Int) (l : List Sy) : Prop := ∀ s ∈ l, 0 ≤ wS L s
def sumS (L : List Int) (l : List Sy) : Int := (l.map (wS L)).sum
theorem sumS_nil (L : List Int) : sumS L [] = 0 := rfl
theorem sumS_cons (L : List Int) (s : Sy) (l : List Sy) : sumS L (s :: l) = wS L s + sumS L l := by simp [sumS]
theorem sumS_app (L : List Int) (l m : List Sy) : sumS L (l ++ m) = sumS L l + sumS L m := by simp [sumS]
theorem sumS_nn {L : List Int} {l : List Sy} (h : PosL L l) : 0 ≤ sumS L l := by
  induction l with
  | nil => exact Int.le_refl _
  | cons s l ih =>
    rw [sumS_cons]
    have := h s (by simp)
    have := ih fun t ht => h t (List.mem_cons_of_mem _ ht)
    omega
theorem sumS_le {L : List Int} {l : List Sy} {B : Int} (hB : 0 ≤ B) (h : ∀ s ∈ l, wS L s ≤ B) : sumS L l ≤ l.length * B := by
  induction l with
  | nil => simp [sumS]
  | cons s l ih =>
    rw [sumS_cons]
    have := h s (by simp)
    have := ih fun t ht => h t (List.mem_cons_of_mem _ ht)
    rw [List.length_cons, Int.natCast_add, Int.add_mul]; omega
theorem PosL.cons {L : List Int} {s : Sy} {l : List Sy} : PosL L (s :: l) ↔ 0 ≤ wS L s ∧ PosL L l := by simp [PosL]
/-- The symbols of a list are symbols of the grammar. -/
def InL (nons : Int) (l : List Sy) : Prop := ∀ s ∈ l, s.Term = false → 0 ≤ s.N ∧ s.N < nons
theorem Valid.inl {g : Ty.api_Grammar} (h : Valid g) {r : Ru} (hr : r ∈ g.Rules) : InL g.Nons r.Right := fun s hs ht => ⟨(h.sym r hr s hs).1, (h.sym r hr s hs).2.2 ht⟩
/-- A table of lengths. -/
structure Tab (L : List Int) (nons : Int) (B : Int) : Prop where
  len : (L.length : Int) = nons
  lo : ∀ a, 0 ≤ a → a < nons → -1 ≤ el L a
  hi : ∀ a, 0 ≤ a → a < nons → el L a ≤ B
theorem Tab.ws {L : List Int} {nons B : Int} (h : Tab L nons B) (hB : 1 ≤ B) {l : List Sy} (hl : InL nons l) {s : Sy} (hs : s ∈ l) : -1 ≤ wS L s ∧ wS L s ≤ B := by
  unfold wS
  cases ht : s.Term with
  | true => simp; omega
  | false =>
    obtain ⟨a, b⟩ := hl s hs ht
    exact ⟨h.lo _ a b, h.hi _ a b⟩
theorem total_ok {L : List Int} {nons B : Int} {l : List Sy} (h : Tab L nons B) (h1 : 1 ≤ B) (h2 : B ≤ 1099511627776) (hl : InL nons l) (hlen : l.length ≤ 4) :
    Ok (P.lens_total l L) fun x => (PosL L l ∧ x = sumS L l) ∨ (¬ PosL L l ∧ x = -1) := by
  unfold P.lens_total
  refine Ok.bind (Q := fun | .out s => PosL L l ∧ s = sumS L l | .rt x => ¬ PosL L l ∧ x = -1) (forL_ok (fun i s => PosL L (l.take i) ∧ s = sumS L (l.take i)) ⟨by simp [PosL], by simp [sumS]⟩ ?_ ?_) ?_
  · intro i s x hs ⟨hp, hx⟩
    have hm := List.mem_of_getElem? hs
    have hi := (List.getElem?_eq_some_iff.1 hs).1
    obtain ⟨w1, w2⟩ := h.ws h1 hl hm
    have hb : 0 ≤ x ∧ x ≤ 4 * B := by
      have a := sumS_nn hp
      have b := sumS_le (L := L) (l := l.take i) (B := B) (by omega) fun t ht => (h.ws h1 hl (List.mem_of_mem_take ht)).2
      have c : ((l.take i).length : Int) * B ≤ 4 * B := Int.mul_le_mul_of_nonneg_right (by simp; omega) (by omega)
      omega
    have hst : 0 ≤ wS L s → PosL L (l.take (i + 1)) ∧ x + wS L s = sumS L (l.take (i + 1)) := fun q => by
      rw [List.take_add_one, hs, Option.toList_some, sumS_app, sumS_cons, sumS_nil]
      refine ⟨fun t ht => ?_, by omega⟩
      rcases List.mem_append.1 ht with ht | ht
      · exact hp t ht
      · cases List.mem_singleton.1 ht; exact q
    unfold P.lens_total.b0
    cases ht : s.Term with
    | true =>
      have e : wS L s = 1 := by simp [wS, ht]
      rw [e] at hst
      rw [if_pos rfl, Option.bind_some, W_id]
      exact .some (hst (by omega))
    | false =>
      obtain ⟨a, b⟩ := hl s hm ht
      have e : wS L s = el L s.N := by simp [wS, ht]
      rw [e] at hst w1 w2
      rw [if_neg (by simp), ix_el a (by rw [h.len]; exact b), Option.bind_some]
      by_cases q : el L s.N < 0
      · rw [if_pos q]
        refine .some ⟨fun hpos => ?_, rfl⟩
        have := hpos s hm
        rw [e] at this; omega
      · rw [if_neg q, Option.bind_some, Option.bind_some, W_id]
        exact .some (hst (by omega))
  · intro s q
    rw [List.take_length] at q; exact q
  · rintro (s | x) q
    · exact .some (.inl q)
    · exact .some (.inr q)
/-- A table is above another one. -/
def Abv (nons : Int) (L L' : List Int) : Prop := ∀ a, 0 ≤ a → a < nons → el L a ≤ el L' a
theorem Abv.refl (nons : Int) (L : List Int) : Abv nons L L := fun _ _ _ => Int.le_refl _
theorem Abv.trans {nons : Int} {L L' L'' : List Int} (h : Abv nons L L') (k : Abv nons L' L'') : Abv nons L L'' := fun a x y => Int.le_trans (h a x y) (k a x y)
theorem Abv.ws {nons : Int} {L L' : List Int} (h : Abv nons L L') {l : List Sy} (hl : InL nons l) {s : Sy} (hs : s ∈ l) : wS L s ≤ wS L' s := by
  unfold wS
  cases ht : s.Term with
  | true => simp
  | false => obtain ⟨a, b⟩ := hl s hs ht; exact h _ a b
theorem Abv.pos {nons : Int} {L L' : List Int} (h : Abv nons L L') {l : List Sy} (hl : InL nons l) (hp : PosL L l) : PosL L' l := fun s hs => Int.le_trans (hp s hs) (h.ws hl hs)
theorem Abv.sum {nons : Int} {L L' : List Int} (h : Abv nons L L') {l : List Sy} (hl : InL nons l) : sumS L l ≤ sumS L' l := by
  induction l with
  | nil => exact Int.le_refl _
  | cons s l ih =>
    rw [sumS_cons, sumS_cons]
    have := h.ws hl (s := s) (by simp)
    have := ih fun t ht => hl t (List.mem_cons_of_mem _ ht)
    omega
/-- All that is known is less than the length of a word. -/
def Sgd (R : List Ru) (nons : Int) (L : List Int) : Prop := ∀ a, 0 ≤ a → a < nons → 0 ≤ el L a → ∃ k : Nat, Le R [⟨false, a⟩] k ∧ el L a ≤ k
theorem Sgd.sum {R : List Ru} {nons : Int} {L : List Int} (h : Sgd R nons L) {l : List Sy} (hl : InL nons l) (hp : PosL L l) : ∃ k : Nat, Le R l k ∧ sumS L l ≤ k := by
  induction l with
  | nil => exact ⟨0, Le.nil_iff.2 rfl, Int.le_refl _⟩
  | cons s l ih =>
    obtain ⟨k, h1, h2⟩ := ih (fun t ht => hl t (List.mem_cons_of_mem _ ht)) (PosL.cons.1 hp).2
    have hw := (PosL.cons.1 hp).1
    have : ∃ j : Nat, Le R [s] j ∧ wS L s ≤ j := by
      unfold wS at hw ⊢
      obtain ⟨t, N⟩ := s
      cases t with
      | true => exact ⟨1, Le.term_iff.2 rfl, by simp⟩
      | false =>
        obtain ⟨a, b⟩ := hl ⟨false, N⟩ (by simp) rfl
        exact h N a b hw
    obtain ⟨j, h3, h4⟩ := this
    exact ⟨j + k, Le.cons_iff.2 ⟨j, k, rfl, h3, h1⟩, by rw [sumS_cons]; omega⟩
/-- Closed under a rule. -/
def ClG (most : Int) (L : List Int) (r : Ru) : Prop := PosL L r.Right → min (sumS L r.Right) most ≤ el L r.Left
theorem imin_def (x y : Int) : Pu.imin x y = min x y := imin_eq x y
abbrev wG (L : List Int) : Nat := wt (fun x : Int => (1 - x).toNat) L
structure Stp (R : List Ru) (nons most : Int) (L0 : List Int) (done : Ru → Prop) (s : List Int × Bool) : Prop where
  tab : Tab s.1 nons most
  sgd : Sgd R nons s.1
  abv : Abv nons L0 s.1
  cl : ∀ r, done r → PosL L0 r.Right → min (sumS L0 r.Right) most ≤ el s.1 r.Left
  no : s.2 = false → s.1 = L0
  w : most = 1 → wG s.1 + (if s.2 then 1 else 0) ≤ wG L0
theorem step_ok {g : Ty.api_Grammar} (hv : Valid g) {most : Int} (h1 : 1 ≤ most) (h2 : most ≤ 1099511627776) {L0 : List Int} (ht : Tab L0 g.Nons most) (hs : Sgd g.Rules g.Nons L0) :
    Ok (P.lens_Greatest_1 most g L0) fun s => Stp g.Rules g.Nons most L0 (fun r => r ∈ g.Rules) s := by
  unfold P.lens_Greatest_1
  refine Ok.bind (forP_ok (fun i s => Stp g.Rules g.Nons most L0 (fun r => ∃ j, j < i ∧ g.Rules[j]? = some r) s) ⟨ht, hs, Abv.refl _ _, fun r ⟨j, h, _⟩ => by omega, fun _ => rfl, fun _ => by simp⟩ ?_ fun s h => h) ?_
  · intro i r s hr hI
    have hm := List.mem_of_getElem? hr
    obtain ⟨l1, l2⟩ := hv.lft r hm
    have hin := hv.inl hm
    obtain ⟨L, ag⟩ := s
    have htab := hI.tab
    unfold P.lens_Greatest_1.b0
    refine (total_ok htab h1 h2 hin (hv.rgt r hm)).bind fun x hx => ?_
    have hix := ix_el (xs := L) l1 (by rw [htab.len]; exact l2)
    have e : ((if decide (0 ≤ x) = true then (Pu.ix L r.Left).bind fun x3 => some (decide (x3 < Pu.imin x most)) else some false) : Option Bool) = some (decide (0 ≤ x ∧ el L r.Left < min x most)) := by
      by_cases q : 0 ≤ x
      · rw [if_pos (by simpa using q), hix, Option.bind_some, imin_def]; simp [q]
      · rw [if_neg (by simpa using q)]; simp [q]
    show Ok ((if decide (0 ≤ x) = true then (Pu.ix L r.Left).bind fun x3 => some (decide (x3 < Pu.imin x most)) else some false : Option Bool).bind _) _
    rw [e, Option.bind_some]
    have hpos : PosL L0 r.Right → 0 ≤ x ∧ sumS L0 r.Right ≤ x := fun hp => by
      have hp2 := hI.abv.pos hin hp
      have hsum := hI.abv.sum (l := r.Right) hin
      have := sumS_nn hp2
      rcases hx with ⟨-, rfl⟩ | ⟨hn, -⟩
      · exact ⟨by omega, hsum⟩
      · exact absurd hp2 hn
    by_cases q : 0 ≤ x ∧ el L r.Left < min x most
    · rw [if_pos (by simpa using q)]
      simp only [hix, Option.bind_some]
      have hel : ∀ a : Int, 0 ≤ a → el (Pu.st L r.Left (Pu.imin x most)) a = if a = r.Left then min x most else el L a := fun a ha => by
        rw [el_st l1 (by rw [htab.len]; exact l2) ha, imin_def]
      have hmx : 0 ≤ min x most := by omega
      refine .some ⟨⟨by simpa using htab.len, fun a a0 a1 => ?_, fun a a0 a1 => ?_⟩, fun a a0 a1 => ?_, fun a a0 a1 => ?_, fun r' ⟨j, hj, hr'⟩ hp => ?_, fun e => (by cases e), fun hm1 => ?_⟩
      · simp only; rw [hel a a0]; split
        · omega
        · exact htab.lo a a0 a1
      · simp only; rw [hel a a0]; split
        · omega
        · exact htab.hi a a0 a1
      · simp only; rw [hel a a0]; split
        · rename_i ea; subst ea
          intro _
          rcases hx with ⟨hp, rfl⟩ | ⟨hn, rfl⟩
          · obtain ⟨k, k1, k2⟩ := Sgd.sum hI.sgd hin hp
            exact ⟨k, Le.non_iff.2 ⟨r, hm, rfl, k1⟩, by omega⟩
          · omega
        · exact hI.sgd a a0 a1
      · have := hI.abv a a0 a1
        simp only at this ⊢; rw [hel a a0]; split
        · rename_i ea; subst ea; omega
        · exact this
      · simp only
        have hm' := List.mem_of_getElem? hr'
        rw [hel _ (hv.lft r' hm').1]
        rcases Nat.lt_succ_iff_lt_or_eq.1 hj with h | rfl
        · have := hI.cl r' ⟨j, h, hr'⟩ hp
          simp only at this
          split
          · rename_i ea; rw [ea] at this; omega
          · exact this
        · rw [hr] at hr'; cases hr'
          rw [if_pos rfl]
          have := hpos hp; omega
      · have h5 : wt (fun x : Int => (1 - x).toNat) L + (if ag = true then 1 else 0) ≤ wG L0 := hI.w hm1
        have h6 := wt_st (fun x : Int => (1 - x).toNat) (xs := L) (i := r.Left) (v := Pu.imin x most) l1 (by rw [htab.len]; exact l2)
        rw [imin_def] at h6
        have h7 := htab.lo _ l1 l2
        simp only at h6 h7
        simp only [if_true]; rw [imin_def]
        show wt (fun x : Int => (1 - x).toNat) (Pu.st L r.Left (min x most)) + 1 ≤ wG L0
        have h8 : wt (fun x : Int => (1 - x).toNat) L ≤ wG L0 := by
          have := h5; split at this <;> omega
        omega
    · rw [if_neg (by simpa using q)]
      refine .some ⟨htab, hI.sgd, hI.abv, fun r' ⟨j, hj, hr'⟩ hp => ?_, hI.no, hI.w⟩
      rcases Nat.lt_succ_iff_lt_or_eq.1 hj with h | rfl
      · exact hI.cl r' ⟨j, h, hr'⟩ hp
      · rw [hr] at hr'; cases hr'
        have := hpos hp
        simp only
        omega
  · intro s h
    exact .some ⟨h.tab, h.sgd, h.abv, fun r hr => by
      obtain ⟨j, hj, e2⟩ := List.mem_iff_getElem.1 hr
      exact h.cl r ⟨j, hj, by rw [List.getElem?_eq_getElem hj, e2]⟩, h.no, h.w⟩
end Go.Proofs.Ythgdobdhdfjhfaa.Gr
