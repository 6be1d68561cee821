/- The least length of a nonterminal is the first one with a tree: the plain law of CensusLeast. Own work. -/
import Derived.Test.YthgdobdhdfjhfaaCnt
import Derived.Test.YthgdobdhdfjhfaaSums
import Derived.Test.YthgdobdhdfjhfaaCen6
namespace Go.Proofs.Ythgdobdhdfjhfaa.Gr
open Go Go.Ab Go.Pu
theorem shortest_ok {L : List Int} {nons B : Int} {r : Ru} (h : Tab L nons B) (h1 : 1 ≤ B) (h2 : B ≤ 1099511627776) (hl : InL nons r.Right) (hlen : r.Right.length ≤ 4) :
    Ok (P.census_shortest r L) fun x => (PosL L r.Right ∧ x = sumS L r.Right) ∨ (¬ PosL L r.Right ∧ x = -1) := by
  unfold P.census_shortest
  generalize hlr : r.Right = l at hl hlen ⊢
  clear hlr
  refine Ok.bind (Q := fun | .out s => PosL L l ∧ s = sumS L l | .rt x => ¬ PosL L l ∧ x = -1) (forL_ok (fun i s => PosL L (l.take i) ∧ s = sumS L (l.take i)) ⟨by simp [PosL], by simp [sumS]⟩ ?_ ?_) ?_
  · intro i s x hs ⟨hp, hx⟩
    have hm := List.mem_of_getElem? hs
    have hi := (List.getElem?_eq_some_iff.1 hs).1
    obtain ⟨w1, w2⟩ := h.ws h1 hl hm
    have hb : 0 ≤ x ∧ x ≤ 4 * B := by
      have a := sumS_nn hp
      have b := sumS_le (L := L) (l := l.take i) (B := B) (by omega) fun t ht => (h.ws h1 hl (List.mem_of_mem_take ht)).2
      have c : ((l.take i).length : Int) * B ≤ 4 * B := Int.mul_le_mul_of_nonneg_right (by simp; omega) (by omega)
      omega
    have hst : 0 ≤ wS L s → PosL L (l.take (i + 1)) ∧ x + wS L s = sumS L (l.take (i + 1)) := fun q => by
      rw [List.take_add_one, hs, Option.toList_some, sumS_app, sumS_cons, sumS_nil]
      refine ⟨fun t ht => ?_, by omega⟩
      rcases List.mem_append.1 ht with ht | ht
      · exact hp t ht
      · cases List.mem_singleton.1 ht; exact q
    unfold P.census_shortest.b0
    cases ht : s.Term with
    | true =>
      have e : wS L s = 1 := by simp [wS, ht]
      rw [e] at hst
      rw [if_pos rfl, Option.bind_some, W_id]
      exact .some (hst (by omega))
    | false =>
      obtain ⟨a, b⟩ := hl s hm ht
      have e : wS L s = el L s.N := by simp [wS, ht]
      rw [e] at hst w1 w2
      rw [if_neg (by simp), ix_el a (by rw [h.len]; exact b), Option.bind_some]
      by_cases q : el L s.N < 0
      · rw [if_pos q]
        refine .some ⟨fun hpos => ?_, rfl⟩
        have := hpos s hm
        rw [e] at this; omega
      · rw [if_neg q, Option.bind_some, Option.bind_some, W_id]
        exact .some (hst (by omega))
  · intro s q
    rw [List.take_length] at q; exact q
  · rintro (s | x) q
    · exact .some (.inl q)
    · exact .some (.inr q)
/-- How many are known. -/
abbrev kn (L : List Int) : Nat := wt (fun x : Int => if x < 0 then 0 else 1) L
abbrev wL (L : List Int) : Nat := wt (fun x : Int => if x < 0 then 2097152 else x.toNat) L
def Bd (L : List Int) : Int := ((4 ^ kn L : Nat) : Int)
/-- What is known is the length of a word. -/
def SgL (R : List Ru) (nons : Int) (L : List Int) : Prop := ∀ a, 0 ≤ a → a < nons → 0 ≤ el L a → Le R [⟨false, a⟩] (el L a).toNat
theorem SgL.sum {R : List Ru} {nons : Int} {L : List Int} (h : SgL R nons L) {l : List Sy} (hl : InL nons l) (hp : PosL L l) : Le R l (sumS L l).toNat := by
  induction l with
  | nil => exact Le.nil_iff.2 rfl
  | cons s l ih =>
    have h1 := ih (fun t ht => hl t (List.mem_cons_of_mem _ ht)) (PosL.cons.1 hp).2
    have hw := (PosL.cons.1 hp).1
    have h0 := sumS_nn (PosL.cons.1 hp).2
    have : Le R [s] (wS L s).toNat := by
      unfold wS at hw ⊢
      obtain ⟨t, N⟩ := s
      cases t with
      | true => exact Le.term_iff.2 rfl
      | false =>
        obtain ⟨a, b⟩ := hl ⟨false, N⟩ (by simp) rfl
        exact h N a b hw
    exact Le.cons_iff.2 ⟨_, _, by rw [sumS_cons]; omega, this, h1⟩
structure LsR (R : List Ru) (nons : Int) (L0 : List Int) (done : Ru → Prop) (s : List Int × Bool) : Prop where
  tab : Tab s.1 nons (Bd s.1)
  sgd : SgL R nons s.1
  w : wL s.1 + (if s.2 then 1 else 0) ≤ wL L0
  no : s.2 = false → s.1 = L0 ∧ ∀ r, done r → PosL L0 r.Right → 0 ≤ el L0 r.Left ∧ el L0 r.Left ≤ sumS L0 r.Right
theorem kn_le {L : List Int} {nons : Int} (h : (L.length : Int) = nons) (hn : nons ≤ 10) : kn L ≤ 10 := by
  have := wt_le (fun x : Int => if x < 0 then 0 else 1) 1 L fun x _ => by split <;> omega
  have : kn L ≤ L.length * 1 := this
  omega
theorem bd_le {L : List Int} {nons : Int} (h : (L.length : Int) = nons) (hn : nons ≤ 10) : 1 ≤ Bd L ∧ Bd L ≤ 1048576 := by
  unfold Bd
  have h1 : 4 ^ kn L ≤ 4 ^ 10 := Nat.pow_le_pow_right (by omega) (kn_le h hn)
  have h2 : 0 < 4 ^ kn L := Nat.pow_pos (by omega)
  omega
theorem leastRound_ok {g : Ty.api_Grammar} (hv : Valid g) {L0 : List Int} (ht : Tab L0 g.Nons (Bd L0)) (hs : SgL g.Rules g.Nons L0) :
    Ok (Pu.forP P.census_Least.b2 0 g.Rules (L0, false)) fun s => LsR g.Rules g.Nons L0 (fun r => r ∈ g.Rules) s := by
  have n2 := hv.n2
  refine forP_ok (fun i s => LsR g.Rules g.Nons L0 (fun r => ∃ j, j < i ∧ g.Rules[j]? = some r) s) ⟨ht, hs, by simp, fun _ => ⟨rfl, fun r ⟨j, h, _⟩ => by omega⟩⟩ ?_ ?_
  · rintro i r ⟨L, ag⟩ hr hI
    have hm := List.mem_of_getElem? hr
    obtain ⟨l1, l2⟩ := hv.lft r hm
    have hin : InL g.Nons r.Right := fun s hs ht => ⟨(hv.sym r hm s hs).1, (hv.sym r hm s hs).2.2 ht⟩
    have htab : Tab L g.Nons (Bd L) := hI.tab
    have hsg : SgL g.Rules g.Nons L := hI.sgd
    have hw : wL L + (if ag = true then 1 else 0) ≤ wL L0 := hI.w
    obtain ⟨b1, b2⟩ := bd_le htab.len n2
    have hlr : r.Left < L.length := by rw [htab.len]; exact l2
    have hix := ix_el (xs := L) l1 hlr
    unfold P.census_Least.b2
    refine (shortest_ok htab b1 (by omega) hin (hv.rgt r hm)).bind fun x hx => ?_
    have e : ((if decide (0 ≤ x) = true then (Pu.ix L r.Left).bind fun x9 => (if decide (x9 < 0) = true then some true else (Pu.ix L r.Left).bind fun x10 => some (decide (x < x10)) : Option Bool).bind fun y6 => some y6 else some false) : Option Bool) = some (decide (0 ≤ x ∧ (el L r.Left < 0 ∨ x < el L r.Left))) := by
      rw [hix]
      by_cases q1 : 0 ≤ x <;> by_cases q2 : el L r.Left < 0 <;> simp [q1, q2]
    show Ok ((if decide (0 ≤ x) = true then (Pu.ix L r.Left).bind fun x9 => (if decide (x9 < 0) = true then some true else (Pu.ix L r.Left).bind fun x10 => some (decide (x < x10)) : Option Bool).bind fun y6 => some y6 else some false : Option Bool).bind _) _
    rw [e, Option.bind_some]
    by_cases q : 0 ≤ x ∧ (el L r.Left < 0 ∨ x < el L r.Left)
    · rw [if_pos (by simpa using q)]
      simp only [hix, Option.bind_some]
      obtain ⟨q0, q1⟩ := q
      have hel : ∀ a : Int, 0 ≤ a → el (Pu.st L r.Left x) a = if a = r.Left then x else el L a := fun a ha => el_st l1 hlr ha
      have hk := wt_st (fun x : Int => if x < 0 then 0 else 1) (xs := L) (i := r.Left) (v := x) l1 hlr
      have hw2 := wt_st (fun x : Int => if x < 0 then 2097152 else x.toNat) (xs := L) (i := r.Left) (v := x) l1 hlr
      rw [if_neg (show ¬ x < 0 by omega)] at hk hw2
      have hkn : kn (Pu.st L r.Left x) = kn L + (if el L r.Left < 0 then 1 else 0) := by
        show wt (fun x : Int => if x < 0 then 0 else 1) (Pu.st L r.Left x) = wt (fun x : Int => if x < 0 then 0 else 1) L + _
        split <;> simp_all <;> omega
      have hxp : PosL L r.Right ∧ x = sumS L r.Right := by
        rcases hx with h | ⟨_, h⟩
        · exact h
        · omega
      have hxb : x ≤ 4 * Bd L := by
        have a := sumS_le (L := L) (l := r.Right) (B := Bd L) (by omega) fun t ht => (htab.ws b1 hin ht).2
        have c : (r.Right.length : Int) * Bd L ≤ 4 * Bd L := Int.mul_le_mul_of_nonneg_right (by have := hv.rgt r hm; omega) (by omega)
        omega
      have hbd : Bd L ≤ Bd (Pu.st L r.Left x) := by
        unfold Bd; rw [hkn]
        have : 4 ^ kn L ≤ 4 ^ (kn L + if el L r.Left < 0 then 1 else 0) := Nat.pow_le_pow_right (by omega) (by omega)
        omega
      have hbx : x ≤ Bd (Pu.st L r.Left x) := by
        by_cases hneg : el L r.Left < 0
        · have : Bd (Pu.st L r.Left x) = 4 * Bd L := by
            unfold Bd; rw [hkn, if_pos hneg, Nat.pow_succ]; omega
          omega
        · have := htab.hi _ l1 l2
          omega
      refine .some ⟨⟨by simpa using htab.len, fun a a0 a1 => ?_, fun a a0 a1 => ?_⟩, fun a a0 a1 => ?_, ?_, fun e => by cases e⟩
      · simp only; rw [hel a a0]; split
        · omega
        · exact htab.lo a a0 a1
      · simp only; rw [hel a a0]; split
        · exact hbx
        · exact Int.le_trans (htab.hi a a0 a1) hbd
      · simp only; rw [hel a a0]; split
        · rename_i ea; subst ea
          intro _
          rw [hxp.2]
          exact Le.non_iff.2 ⟨r, hm, rfl, hsg.sum hin hxp.1⟩
        · exact hsg a a0 a1
      · have hhi := htab.hi _ l1 l2
        simp only [if_true]
        show wt (fun x : Int => if x < 0 then 2097152 else x.toNat) (Pu.st L r.Left x) + 1 ≤ wL L0
        have h8 : wt (fun x : Int => if x < 0 then 2097152 else x.toNat) L ≤ wL L0 := by
          have : wt (fun x : Int => if x < 0 then 2097152 else x.toNat) L + (if ag = true then 1 else 0) ≤ wL L0 := hw
          split at this <;> omega
        have hx4 : x ≤ 4 * 262144 ∨ 0 ≤ el L r.Left := by
          by_cases hneg : el L r.Left < 0
          · left
            obtain ⟨c1, c2⟩ := bd_le (L := Pu.st L r.Left x) (nons := g.Nons) (by simpa using htab.len) n2
            omega
          · right; omega
        split at hw2 <;> omega
    · rw [if_neg (by simpa using q)]
      refine .some ⟨htab, hsg, hw, fun e => ⟨(hI.no e).1, fun r' ⟨j, hj, hr'⟩ hp => ?_⟩⟩
      rcases Nat.lt_succ_iff_lt_or_eq.1 hj with h | rfl
      · exact (hI.no e).2 r' ⟨j, h, hr'⟩ hp
      · rw [hr] at hr'; cases hr'
        have hL : L = L0 := (hI.no e).1
        rw [← hL] at hp ⊢
        rcases hx with ⟨_, h⟩ | ⟨h, _⟩
        · have := sumS_nn hp
          omega
        · exact absurd hp h
  · intro s h
    exact ⟨h.tab, h.sgd, h.w, fun e => ⟨(h.no e).1, fun r hr => by
      obtain ⟨j, hj, e2⟩ := List.mem_iff_getElem.1 hr
      exact (h.no e).2 r ⟨j, hj, by rw [List.getElem?_eq_getElem hj, e2]⟩⟩⟩
theorem least_le {g : Ty.api_Grammar} (hv : Valid g) {L : List Int} (h : ∀ r ∈ g.Rules, PosL L r.Right → 0 ≤ el L r.Left ∧ el L r.Left ≤ sumS L r.Right) {l : List Sy} {k s : Nat} (q : LenL g.Rules l k s) : PosL L l ∧ sumS L l ≤ k := by
  induction q with
  | nil => exact ⟨by simp [PosL], by simp [sumS]⟩
  | term _ ih =>
    obtain ⟨a, b⟩ := ih
    refine ⟨PosL.cons.2 ⟨by simp [wS], a⟩, ?_⟩
    rw [sumS_cons]; simp only [wS, if_true]; omega
  | @non n r l j k s t hr hn _ _ ih1 ih2 =>
    obtain ⟨a, b⟩ := ih1
    obtain ⟨c, d⟩ := ih2
    have e := h r hr a
    have w : wS L (⟨false, n⟩ : Sy) = el L n := by simp [wS]
    rw [hn] at e
    refine ⟨PosL.cons.2 ⟨by rw [w]; omega, c⟩, ?_⟩
    rw [sumS_cons, w]; omega
theorem least_ok {g : Ty.api_Grammar} (hv : Valid g) {φ : Nat} (hφ : 100000000 ≤ φ) :
    Ok (P.census_Least φ g) fun r => r.2 = 0 ∧ (r.1.length : Int) = g.Nons ∧ ∀ a : Int, 0 ≤ a → a < g.Nons → (el r.1 a < 0 ∧ el r.1 a = -1 ∧ ∀ k, ¬ Le g.Rules [⟨false, a⟩] k) ∨ (0 ≤ el r.1 a ∧ Le g.Rules [⟨false, a⟩] (el r.1 a).toNat ∧ ∀ k : Nat, Le g.Rules [⟨false, a⟩] k → el r.1 a ≤ k) := by
  have n1 := hv.n1; have n2 := hv.n2
  unfold P.census_Least
  rw [check_ok hv, Option.bind_some, if_neg (by simp), mk_eq (by omega) (by omega) (by omega), Option.bind_some, List.length_replicate, show ((g.Nons.toNat : Nat) : Int) = g.Nons by omega, ranO_eq (by omega), Option.bind_some]
  refine Ok.bind (Q := fun L => (L.length : Int) = g.Nons ∧ ∀ a : Int, 0 ≤ a → a < g.Nons → el L a = -1) (forP_ok (fun i (L : List Int) => (L.length : Int) = g.Nons ∧ ∀ a : Int, 0 ≤ a → a < i → el L a = -1) ⟨by simp; omega, fun a h h' => by omega⟩ ?_ ?_) ?_
  · intro i x L hx ⟨h1, h2⟩
    obtain ⟨rfl, hi⟩ := ran_at hx
    unfold P.census_Least.b0
    rw [ix_el (by omega) (by omega), Option.bind_some]
    refine .some ⟨by simpa using h1, fun a ha hb => ?_⟩
    rw [el_st (by omega) (by omega) ha]
    split
    · rfl
    · exact h2 a ha (by omega)
  · intro L ⟨h1, h2⟩
    rw [ran_length] at h2
    exact ⟨h1, fun a ha hb => h2 a ha (by omega)⟩
  · intro L0 ⟨h1, h2⟩
    have hw : wL L0 ≤ 10 * 2097152 := by
      have := wt_le (fun x : Int => if x < 0 then 2097152 else x.toNat) 2097152 L0 fun x hx => by
        obtain ⟨j, hj, rfl⟩ := List.mem_iff_getElem.1 hx
        have := h2 (j : Int) (by omega) (by omega)
        rw [el_nat (List.getElem?_eq_getElem hj)] at this
        rw [this]; simp
      have h3 : L0.length * 2097152 ≤ 10 * 2097152 := Nat.mul_le_mul_right _ (by omega)
      exact Nat.le_trans this h3
    have hb0 := bd_le h1 n2
    refine Ok.bind (whl_ok (ρ := Unit) (Q := fun | .out s => Tab s.1 g.Nons (Bd s.1) ∧ SgL g.Rules g.Nons s.1 ∧ ∀ r ∈ g.Rules, PosL s.1 r.Right → 0 ≤ el s.1 r.Left ∧ el s.1 r.Left ≤ sumS s.1 r.Right | .rt _ => False)
      (fun (s : List Int × Bool) => Tab s.1 g.Nons (Bd s.1) ∧ SgL g.Rules g.Nons s.1 ∧ (s.2 = false → ∀ r ∈ g.Rules, PosL s.1 r.Right → 0 ≤ el s.1 r.Left ∧ el s.1 r.Left ≤ sumS s.1 r.Right)) (fun (s : List Int × Bool) => wL s.1 + (if s.2 then 1 else 0))
      ⟨⟨h1, fun a x y => by rw [h2 a x y]; omega, fun a x y => by rw [h2 a x y]; have := hb0.1; show (-1 : Int) ≤ Bd L0; omega⟩, fun a x y z => by rw [h2 a x y] at z; omega, fun e => by cases e⟩ ?_ (by simp only [if_true]; omega)) ?_
    · rintro ⟨L, b⟩ ⟨t1, t2, t3⟩
      unfold P.census_Least.b1
      cases b with
      | false => exact .some ⟨t1, t2, t3 rfl⟩
      | true =>
        rw [if_pos rfl]
        refine (leastRound_ok hv t1 t2).bind fun s hs => .some ⟨⟨hs.tab, hs.sgd, fun e r hr => ?_⟩, ?_⟩
        · obtain ⟨q1, q2⟩ := hs.no e
          have q1' : s.1 = L := q1
          show PosL s.1 r.Right → 0 ≤ el s.1 r.Left ∧ el s.1 r.Left ≤ sumS s.1 r.Right
          rw [q1']; exact q2 r hr
        · have : wL s.1 + (if s.2 = true then 1 else 0) ≤ wL L := hs.w
          show wL s.1 + (if s.2 = true then 1 else 0) < wL L + 1
          omega
    · rintro (s | _) h
      · obtain ⟨t1, t2, t3⟩ := h
        refine .some ⟨rfl, t1.len, fun a a0 a1 => ?_⟩
        have hle : ∀ k : Nat, Le g.Rules [⟨false, a⟩] k → 0 ≤ el s.1 a ∧ el s.1 a ≤ k := fun k ⟨z, hz⟩ => by
          obtain ⟨p1, p2⟩ := least_le hv t3 hz
          have p3 := (PosL.cons.1 p1).1
          rw [sumS_cons, sumS_nil] at p2
          have w : wS s.1 (⟨false, a⟩ : Sy) = el s.1 a := by simp [wS]
          rw [w] at p2 p3; omega
        by_cases hneg : el s.1 a < 0
        · have := t1.lo a a0 a1
          exact .inl ⟨hneg, by simp only; omega, fun k hk => by have := (hle k hk).1; omega⟩
        · exact .inr ⟨by simp only; omega, t2 a a0 a1 (by omega), fun k hk => (hle k hk).2⟩
      · exact h.elim
theorem indexf_ok (l : List Int) (hl : l.length ≤ 1000000) : Ok (P.slices_IndexFunc_int_int__parlkeep5_CensusLeast_1 l) fun x => (x = -1 ∧ ∀ i : Nat, i < l.length → el l (i : Int) = 0) ∨ ∃ i : Nat, x = i ∧ i < l.length ∧ el l (i : Int) ≠ 0 ∧ ∀ j : Nat, j < i → el l (j : Int) = 0 := by
  unfold P.slices_IndexFunc_int_int__parlkeep5_CensusLeast_1
  rw [ranO_eq (by omega), Option.bind_some]
  refine Ok.bind (Q := fun | .out _ => ∀ i : Nat, i < l.length → el l (i : Int) = 0 | .rt x => ∃ i : Nat, x = i ∧ i < l.length ∧ el l (i : Int) ≠ 0 ∧ ∀ j : Nat, j < i → el l (j : Int) = 0) (forL_ok (fun i _ => ∀ j : Nat, j < i → el l (j : Int) = 0) (fun j h => by omega) ?_ ?_) ?_
  · intro i x _ hx hI
    obtain ⟨rfl, hi⟩ := ran_at hx
    unfold P.slices_IndexFunc_int_int__parlkeep5_CensusLeast_1.b0
    rw [ix_el (by omega) hi, Option.bind_some, P.parlkeep5_CensusLeast_1, Option.bind_some]
    refine .ite (fun h => .some ⟨i, rfl, by omega, by simpa using h, hI⟩) fun h => .some fun j hj => ?_
    rcases Nat.lt_succ_iff_lt_or_eq.1 hj with q | rfl
    · exact hI j q
    · simpa using h
  · intro _ h
    rw [ran_length, Int.toNat_natCast] at h; exact h
  · rintro (_ | x) h
    · exact .some (.inl ⟨rfl, h⟩)
    · exact .some (.inr h)
theorem censusLeast_plain (l : List Int) : P.parlkeep5_CensusLeast 1000000000 l = some true := by
  refine Ok.eq ?_
  unfold P.parlkeep5_CensusLeast
  refine (grammar_ok l).bind fun g hg => ?_
  have hv := hg.toValid
  have n2 := hv.n2
  refine Ok.bind (least_ok hv (by omega)) fun x ⟨x1, x2, x3⟩ => ?_
  refine Ok.bind (trees_ok hv (n := 24) (by omega) (by omega)) fun y ⟨y1, y2, y3⟩ => ?_
  rw [counts_eq, Option.bind_some]
  have hyl := y2.1
  rw [if_neg (by simp [x1, y1]; omega)]
  refine Ok.bind (Q := fun | .out _ => True | .rt _ => False) (forL_ok (fun _ _ => True) trivial ?_ fun _ _ => trivial) ?_
  · intro a v _ ha _
    have ha1 := (List.getElem?_eq_some_iff.1 ha).1
    have hva : el x.1 (a : Int) = v := el_nat ha
    have haN : (a : Int) < g.Nons := by omega
    unfold P.parlkeep5_CensusLeast.b0
    rw [y2.ix (by omega) haN, Option.bind_some]
    have hrow := y2.2 (a : Int) (by omega) haN
    refine (indexf_ok _ (by omega)).bind fun k hk => ?_
    have hz : ∀ j : Nat, j ≤ 24 → (el (el y.1 (a : Int)) (j : Int) ≠ 0 ↔ Le g.Rules [⟨false, (a : Int)⟩] j) := fun j hj => (y3 a j (by omega) haN hj).zero
    have hx := x3 a (by omega) haN
    rw [hva] at hx
    have key : (v ≤ 24 → k = v) ∧ (24 < v → k < 0) := by
      rcases hk with ⟨rfl, hk⟩ | ⟨i, rfl, hi, hk, hk2⟩
      · rcases hx with ⟨_, h2, _⟩ | ⟨h1, h2, _⟩
        · exact ⟨fun _ => h2.symm, fun _ => by omega⟩
        · refine ⟨fun h => ?_, fun _ => by omega⟩
          exfalso
          exact (hz v.toNat (by omega)).2 h2 (hk v.toNat (by omega))
      · have hle := (hz i (by omega)).1 hk
        rcases hx with ⟨_, _, h3⟩ | ⟨h1, h2, h3⟩
        · exact absurd hle (h3 i)
        · have h4 := h3 i hle
          refine ⟨fun h => ?_, fun h => by omega⟩
          rcases (by omega : v.toNat < i ∨ (i : Int) = v) with q | q
          · exact absurd (hk2 v.toNat q) ((hz v.toNat (by omega)).2 h2)
          · exact q
    by_cases hv24 : v ≤ 24
    · have := key.1 hv24
      rw [if_neg (by simp [hv24, this]), Option.bind_some, if_neg (by simp; omega)]; exact .some trivial
    · have := key.2 (by omega)
      rw [if_neg (by simp; omega), Option.bind_some, if_neg (by simp; omega)]; exact .some trivial
  · rintro (_ | _) h
    · exact .some rfl
    · exact h.elim
end Go.Proofs.Ythgdobdhdfjhfaa.Gr
