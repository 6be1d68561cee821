import Derived.Test.YtmeigkelacoibaaCen3
import Derived.Test.YtmeigkelacoibaaWar
namespace Go.Proofs.Ytmeigkelacoibaa.Gr
open Go Go.Ab Go.Pu
open Relation
theorem war_int {n : Int} (n0 : 0 ≤ n) (n1 : n ≤ 1000) {M0 : List (List Bool)} (hM : Dim M0 n n) {E : Int → Int → Prop} (hE : ∀ x y, E x y → (0 ≤ x ∧ x < n) ∧ 0 ≤ y ∧ y < n) (hE2 : ∀ x y, 0 ≤ x → x < n → 0 ≤ y → y < n → (el2 M0 x y = true ↔ E x y)) :
 Ok (forP war0 0 (ran n) M0) fun W => Dim W n n ∧ ∀ x y, 0 ≤ x → x < n → 0 ≤ y → y < n → (el2 W x y = true ↔ TransGen E x y) := by
 obtain ⟨m, rfl⟩ : ∃ m : Nat, n = m := ⟨n.toNat, by omega⟩
 refine (war_ok (by omega) hM).mono fun W ⟨w1, w2⟩ => ⟨w1, fun x y x0 x1 y0 y1 => ?_⟩
 have := w2 x.toNat y.toNat (by omega) (by omega)
 rw [Int.toNat_of_nonneg x0, Int.toNat_of_nonneg y0] at this
 rw [this]
 clear this w2
 constructor
 ·intro h
  have key : ∀ u v : Nat, TransGen (fun x y : Nat => x < m ∧ y < m ∧ el2 M0 (x : Int) (y : Int) = true) u v → TransGen E (u : Int) (v : Int) := by
   intro u v h
   induction h with
   | single w => exact .single ((hE2 _ _ (by omega) (by omega) (by omega) (by omega)).1 w.2.2)
   | tail _ w ih => exact .tail ih ((hE2 _ _ (by omega) (by omega) (by omega) (by omega)).1 w.2.2)
  have := key _ _ h
  rwa [Int.toNat_of_nonneg x0, Int.toNat_of_nonneg y0] at this
 ·intro h
  induction h with
  | single w =>
    obtain ⟨⟨p1, p2⟩, p3, p4⟩ := hE _ _ w
    refine .single ⟨by omega, by omega, ?_⟩
    rw [Int.toNat_of_nonneg p1, Int.toNat_of_nonneg p3]; exact (hE2 _ _ p1 p2 p3 p4).2 w
  | tail h1 w ih =>
    obtain ⟨⟨p1, p2⟩, p3, p4⟩ := hE _ _ w
    refine .tail (ih p1 p2) ⟨by omega, by omega, ?_⟩
    rw [Int.toNat_of_nonneg p1, Int.toNat_of_nonneg p3]; exact (hE2 _ _ p1 p2 p3 p4).2 w
section
variable {g : Ty.B2} {n : Nat} {T : Tb}
def InS (g : Ty.B2) (s : Sy) : Prop := s.Term = false → 0 ≤ s.N ∧ s.N < g.Nons
theorem Valid.ins (hv : Valid g) {r : Ru} (hr : r ∈ g.Rules) {s : Sy} (hs : s ∈ r.Right) : InS g s := fun ht => ⟨(hv.sym r hr s hs).1, (hv.sym r hr s hs).2.2 ht⟩
theorem symB_le (hF : Fnd g n T) {s : Sy} (hs : InS g s) {j : Nat} (hj : j ≤ n) : symB T.has_ s j = true ↔ Le g.Rules [s] j := by
 obtain ⟨t, N⟩ := s
 unfold symB
 cases t with
 | true => rw [Le.term_iff]; simp
 | false =>
   obtain ⟨a, b⟩ := hs rfl
   simp only [Bool.false_eq_true, if_false]
   exact hF.has N j a b hj
def SmI (T : Tb) (r : Ru) (k i : Nat) (b : Int) : Prop := ∃ s, r.Right[i]? = some s ∧ s.Term = false ∧ s.N = b ∧ el2 T.has_ b (k : Int) = true ∧ ∀ (j : Nat) (x : Sy), r.Right[j]? = some x → j ≠ i → symB T.has_ x 0 = true
theorem smI_iff (hv : Valid g) (hF : Fnd g n T) {k : Nat} (hk : k ≤ n) {a b : Int} : (∃ (m : Nat) (r : Ru), g.Rules[m]? = some r ∧ r.Left = a ∧ ∃ i, SmI T r k i b) ↔ Sm g.Rules k a b := by
 constructor
 ·rintro ⟨m, r, hr, hl, i, ⟨t, N⟩, h1, h2, h3, h4, h5⟩
  simp only at h2 h3; subst h2; subst h3
  have hm := List.mem_of_getElem? hr
  obtain ⟨hi, e⟩ := List.getElem?_eq_some_iff.1 h1
  have hb := hv.ins hm (List.mem_of_getElem? h1) rfl
  refine ⟨r, hm, hl, r.Right.take i, r.Right.drop (i + 1), by rw [← e, ← List.drop_eq_getElem_cons hi, List.take_append_drop], (hF.has _ _ hb.1 hb.2 hk).1 h4, fun s hs => ?_⟩
  have : ∃ j : Nat, r.Right[j]? = some s ∧ j ≠ i := by
   rcases List.mem_append.1 hs with hs | hs
   ·obtain ⟨j, hj, e2⟩ := List.mem_iff_getElem.1 hs
    refine ⟨j, ?_, by simp at hj; omega⟩
    rw [← e2, List.getElem_take]; exact List.getElem?_eq_getElem _
   ·obtain ⟨j, hj, e2⟩ := List.mem_iff_getElem.1 hs
    refine ⟨i + 1 + j, ?_, by omega⟩
    rw [← e2, List.getElem_drop]; exact List.getElem?_eq_getElem _
  obtain ⟨j, hj, hne⟩ := this
  exact (symB_le hF (hv.ins hm (List.mem_of_getElem? hj)) (by omega)).1 (h5 j s hj hne)
 ·rintro ⟨r, hr, hl, l1, l2, e, h1, h2⟩
  obtain ⟨m, hm, em⟩ := List.mem_iff_getElem.1 hr
  have hbm : (⟨false, b⟩ : Sy) ∈ r.Right := by rw [e]; simp
  have hb := hv.ins hr hbm rfl
  refine ⟨m, r, by rw [List.getElem?_eq_getElem hm, em], hl, l1.length, ⟨false, b⟩, by rw [e]; simp, rfl, rfl, (hF.has _ _ hb.1 hb.2 hk).2 h1, fun j x hj hne => ?_⟩
  refine (symB_le hF (hv.ins hr (List.mem_of_getElem? hj)) (by omega)).2 (h2 x ?_)
  rw [e] at hj
  rcases Nat.lt_or_gt_of_ne hne with q | q
  ·rw [List.getElem?_append_left q] at hj
   exact List.mem_append_left _ (List.mem_of_getElem? hj)
  ·rw [List.getElem?_append_right (by omega), show j - l1.length = (j - l1.length - 1) + 1 by omega, List.getElem?_cons_succ] at hj
   exact List.mem_append_right _ (List.mem_of_getElem? hj)
theorem same_ok (hv : Valid g) (hF : Fnd g n T) (hn : n ≤ 24) {k : Nat} (hk : k ≤ n) : Ok (P.A9 T k) fun M => Dim M g.Nons g.Nons ∧ ∀ a b : Int, 0 ≤ a → a < g.Nons → 0 ≤ b → b < g.Nons → (el2 M a b = true ↔ Sm g.Rules k a b) := by
 have n1 := hv.n1; have n2 := hv.n2
 unfold P.A9
 rw [hF.ok.gE]
 refine (rowsb_ok (by omega) (by omega) (by omega) (by omega)).bind fun M0 h0 => ?_
 refine Ok.bind (forP_ok (fun m M => Dim M g.Nons g.Nons ∧ ∀ a b : Int, 0 ≤ a → a < g.Nons → 0 ≤ b → b < g.Nons → (el2 M a b = true ↔ ∃ (m' : Nat) (r : Ru), m' < m ∧ g.Rules[m']? = some r ∧ r.Left = a ∧ ∃ i, SmI T r k i b)) ⟨h0.1, fun a b a0 a1 b0 b1 => by rw [h0.2 a b a0 a1 b0 b1]; simp⟩ ?_ fun s h => h) ?_
 ·rintro m r M hr ⟨d1, d2⟩
  have hm := List.mem_of_getElem? hr
  obtain ⟨l1, l2⟩ := hv.lft r hm
  unfold P.A9.b0
  refine Ok.bind (forP_ok (fun i M' => Dim M' g.Nons g.Nons ∧ ∀ a b : Int, 0 ≤ a → a < g.Nons → 0 ≤ b → b < g.Nons → (el2 M' a b = true ↔ el2 M a b = true ∨ (r.Left = a ∧ ∃ i', i' < i ∧ SmI T r k i' b))) ⟨d1, fun a b _ _ _ _ => by simp⟩ ?_ fun s h => h) ?_
  ·rintro i s M' hs ⟨e1, e2⟩
   have hsm := hv.ins hm (List.mem_of_getElem? hs)
   unfold P.A9.b1
   have ev : ((if s.Term = true then some true else (Pu.ix T.has_ s.N).bind fun x4 => (Pu.ix x4 (k : Int)).bind fun x5 => some (!x5)) : Option Bool) = some (s.Term || !el2 T.has_ s.N k) := by
    cases ht : s.Term with
    | true => rfl
    | false =>
      obtain ⟨a, b⟩ := hsm ht
      rw [if_neg (by simp), hF.ok.has.ix a b, Option.bind_some, hF.ok.has.ix2 a b (by omega) (by omega)]; rfl
   rw [ev, Option.bind_some]
   by_cases hc : s.Term = false ∧ el2 T.has_ s.N (k : Int) = true
   ·obtain ⟨c1, c2⟩ := hc
    obtain ⟨s1, s2⟩ := hsm c1
    rw [c1, c2, if_neg (by simp)]
    refine Ok.bind (Q := fun y => y = true ↔ ∀ (j : Nat) (x : Sy), r.Right[j]? = some x → j ≠ i → symB T.has_ x 0 = true) (forP_ok (fun j y => y = true ↔ ∀ (j' : Nat) (x : Sy), j' < j → r.Right[j']? = some x → j' ≠ i → symB T.has_ x 0 = true) ⟨fun _ j' x h => by omega, fun _ => rfl⟩ ?_ ?_) ?_
    ·rintro j x y hx hy
     have hxm := hv.ins hm (List.mem_of_getElem? hx)
     unfold P.A9.b2
     have hsy : P.D0 T x 0 = some (symB T.has_ x 0) := sym_eq (j := 0) hF.ok.has hxm (by omega)
     have : ((if y = true then (if decide ((j : Int) = (i : Int)) = true then some true else (P.D0 T x 0).bind fun x7 => some x7).bind fun y6 => some y6 else some false : Option Bool).bind fun y5 => some y5) = some (y && (decide (j = i) || symB T.has_ x 0)) := by
      rw [hsy]
      cases y with
      | false => rfl
      | true =>
        by_cases q : j = i
        ·subst q; simp
        ·simp [q, show ¬ ((j : Int) = (i : Int)) by omega]
     rw [this]
     refine .some ?_
     rw [Bool.and_eq_true, hy, Bool.or_eq_true, decide_eq_true_eq]
     constructor
     ·rintro ⟨h1, h2⟩ j' x' hj' hx' hne
      rcases Nat.lt_succ_iff_lt_or_eq.1 hj' with h | rfl
      ·exact h1 j' x' h hx' hne
      ·rw [hx] at hx'; cases hx'
       rcases h2 with h2 | h2
       ·exact absurd h2 hne
       ·exact h2
     ·intro h
      refine ⟨fun j' x' hj' hx' hne => h j' x' (by omega) hx' hne, ?_⟩
      by_cases q : j = i
      ·exact .inl q
      ·exact .inr (h j x (by omega) hx q)
    ·intro y hy
     rw [hy]
     exact ⟨fun h j x hx hne => h j x (List.getElem?_eq_some_iff.1 hx).1 hx hne, fun h j x _ hx hne => h j x hx hne⟩
    ·intro y hy
     rw [e1.ix l1 l2, Option.bind_some, Option.bind_some, e1.ix2 l1 l2 s1 s2, Option.bind_some, Option.bind_some]
     refine .some ⟨e1.st2 l1 l2, fun a b a0 a1 b0 b1 => ?_⟩
     rw [show Pu.st M' r.Left (Pu.st (el M' r.Left) s.N (el2 M' r.Left s.N || y)) = st2 M' r.Left s.N (el2 M' r.Left s.N || y) from rfl, e1.el_st2 l1 l2 s1 s2 a0 b0]
     split
     ·rename_i e
      obtain ⟨rfl, rfl⟩ := e
      rw [Bool.or_eq_true, e2 _ _ l1 l2 s1 s2, hy]
      constructor
      ·rintro ((h | ⟨-, i', h1, h2⟩) | h)
       ·exact .inl h
       ·exact .inr ⟨rfl, i', by omega, h2⟩
       ·exact .inr ⟨rfl, i, by omega, s, hs, c1, rfl, c2, h⟩
      ·rintro (h | ⟨-, i', h1, h2⟩)
       ·exact .inl (.inl h)
       ·rcases Nat.lt_succ_iff_lt_or_eq.1 h1 with h | rfl
        ·exact .inl (.inr ⟨rfl, i', h, h2⟩)
        ·obtain ⟨s', q1, _, _, _, q5⟩ := h2
         exact .inr q5
     ·rename_i e
      rw [e2 a b a0 a1 b0 b1]
      refine or_congr Iff.rfl ⟨?_, ?_⟩
      ·rintro ⟨rfl, i', h1, h2⟩; exact ⟨rfl, i', by omega, h2⟩
      ·rintro ⟨rfl, i', h1, h2⟩
       rcases Nat.lt_succ_iff_lt_or_eq.1 h1 with h | rfl
       ·exact ⟨rfl, i', h, h2⟩
       ·obtain ⟨s', q1, _, q3, _⟩ := h2
        rw [hs] at q1; cases q1
        exact absurd ⟨rfl, q3.symm⟩ e
   ·have hc2 : (s.Term || !el2 T.has_ s.N (k : Int)) = true := by
     cases ht : s.Term with
     | true => rfl
     | false =>
       cases hh : el2 T.has_ s.N (k : Int) with
       | false => rfl
       | true => exact absurd ⟨ht, hh⟩ hc
    rw [hc2, if_pos rfl]
    refine .some ⟨e1, fun a b a0 a1 b0 b1 => ?_⟩
    rw [e2 a b a0 a1 b0 b1]
    refine or_congr Iff.rfl ⟨?_, ?_⟩
    ·rintro ⟨rfl, i', h1, h2⟩; exact ⟨rfl, i', by omega, h2⟩
    ·rintro ⟨rfl, i', h1, h2⟩
     rcases Nat.lt_succ_iff_lt_or_eq.1 h1 with h | rfl
     ·exact ⟨rfl, i', h, h2⟩
     ·obtain ⟨s', q1, q2, q3, q4, _⟩ := h2
      rw [hs] at q1; cases q1
      subst q3; exact absurd ⟨q2, q4⟩ hc
  ·rintro M' ⟨e1, e2⟩
   refine .some ⟨e1, fun a b a0 a1 b0 b1 => ?_⟩
   rw [e2 a b a0 a1 b0 b1, d2 a b a0 a1 b0 b1]
   constructor
   ·rintro (⟨m', q, h1, h2⟩ | ⟨rfl, i, h1, h2⟩)
    ·exact ⟨m', q, by omega, h2⟩
    ·exact ⟨m, r, by omega, hr, rfl, i, h2⟩
   ·rintro ⟨m', q, h1, h2, h3, i, h4⟩
    rcases Nat.lt_succ_iff_lt_or_eq.1 h1 with h | rfl
    ·exact .inl ⟨m', q, h, h2, h3, i, h4⟩
    ·rw [hr] at h2; cases h2
     obtain ⟨s, q1, _⟩ := id h4
     exact .inr ⟨h3, i, (List.getElem?_eq_some_iff.1 q1).1, h4⟩
 ·rintro M ⟨d1, d2⟩
  refine .some ⟨d1, fun a b a0 a1 b0 b1 => ?_⟩
  rw [d2 a b a0 a1 b0 b1, ← smI_iff hv hF hk]
  constructor
  ·rintro ⟨m, r, _, h⟩; exact ⟨m, r, h⟩
  ·rintro ⟨m, r, h, h'⟩; exact ⟨m, r, (List.getElem?_eq_some_iff.1 h).1, h, h'⟩
def upL (T : Tb) (L : List (List Bool)) : Tb := ⟨T.g, T.n, T.has_, L, T.known_, T.ends, T.ways⟩
theorem Fnd.upL (hF : Fnd g n T) {L : List (List Bool)} (hL : Dim L g.Nons (n + 1)) : Fnd g n (upL T L) :=
 ⟨⟨hF.ok.gE, hF.ok.nE, hF.ok.has, hL, hF.ok.known, hF.ok.endsL, hF.ok.ends, hF.ok.waysL, hF.ok.ways⟩, hF.has, hF.ends⟩
theorem sm_in (hv : Valid g) {k : Nat} {a b : Int} (h : Sm g.Rules k a b) : (0 ≤ a ∧ a < g.Nons) ∧ 0 ≤ b ∧ b < g.Nons := by
 obtain ⟨r, hr, rfl, l1, l2, e, _⟩ := h
 exact ⟨hv.lft r hr, hv.ins hr (s := ⟨false, b⟩) (by rw [e]; simp) rfl⟩
theorem loops1_ok (hv : Valid g) (hF : Fnd g n T) (hn : n ≤ 24) (hL : All T.loop_ g.Nons (n + 1) false) :
 Ok (Pu.forP (P.A1.b0 T) 0 (Pu.ran ((n : Int) + 1)) T.loop_) fun L => Dim L g.Nons (n + 1) ∧ ∀ (a : Int) (k : Nat), 0 ≤ a → a < g.Nons → k ≤ n → (el2 L a (k : Int) = true ↔ TransGen (Sm g.Rules k) a a) := by
 have n1 := hv.n1; have n2 := hv.n2
 refine forP_ok (fun m L => Dim L g.Nons (n + 1) ∧ ∀ (a : Int) (k : Nat), 0 ≤ a → a < g.Nons → k ≤ n → k < m → (el2 L a (k : Int) = true ↔ TransGen (Sm g.Rules k) a a)) ⟨hL.1, fun a k _ _ _ h => by omega⟩ ?_ ?_
 ·rintro k x L hx ⟨d1, d2⟩
  obtain ⟨rfl, hk⟩ := ran_at hx
  have hk' : k ≤ n := by omega
  unfold P.A1.b0
  refine Ok.bind (same_ok (T := upL T L) hv (hF.upL d1) hn hk') fun M ⟨m1, m2⟩ => ?_
  rw [m1.1, ranO_eq (by omega), Option.bind_some]
  refine Ok.bind (show Ok (forP P.A1.b1 0 (ran g.Nons) M) _ from war_int (by omega) (by omega) m1 (fun x y h => sm_in hv h) m2) fun W ⟨w1, w2⟩ => ?_
  rw [w1.1, ranO_eq (by omega), Option.bind_some]
  refine Ok.bind (forP_ok (fun m L' => Dim L' g.Nons (n + 1) ∧ (∀ (a : Int) (j : Nat), 0 ≤ a → a < g.Nons → j ≤ n → el2 L' a (j : Int) = if j = k ∧ a < m then el2 W a a else el2 L a (j : Int))) ⟨d1, fun a j _ _ _ => by rw [if_neg (by omega)]⟩ ?_ fun s h => h) ?_
  ·rintro m x L' hx ⟨e1, e2⟩
   obtain ⟨rfl, hm⟩ := ran_at hx
   unfold P.A1.b4
   rw [e1.ix (by omega) (by omega), Option.bind_some, w1.ix (by omega) (by omega), Option.bind_some, w1.ix2 (by omega) (by omega) (by omega) (by omega), Option.bind_some, e1.ix2 (by omega) (by omega) (by omega) (by omega), Option.bind_some]
   refine .some ⟨e1.st2 (by omega) (by omega), fun a j a0 a1 hj => ?_⟩
   rw [show Pu.st L' (m : Int) (Pu.st (el L' (m : Int)) (k : Int) (el2 W m m)) = st2 L' (m : Int) (k : Int) (el2 W m m) from rfl, e1.el_st2 (by omega) (by omega) (by omega) (by omega) a0 (by omega), e2 a j a0 a1 hj]
   by_cases q : a = (m : Int) ∧ (j : Int) = (k : Int)
   ·rw [if_pos q, if_pos (by omega), q.1]
   ·rw [if_neg q]
    by_cases q2 : j = k ∧ a < m
    ·rw [if_pos q2, if_pos (by omega)]
    ·rw [if_neg q2, if_neg (by omega)]
  ·rintro L' ⟨e1, e2⟩
   refine .some ⟨e1, fun a j a0 a1 hj hjk => ?_⟩
   rw [e2 a j a0 a1 hj, ran_length]
   rcases Nat.lt_succ_iff_lt_or_eq.1 hjk with h | rfl
   ·rw [if_neg (by omega)]; exact d2 a j a0 a1 hj h
   ·rw [if_pos ⟨rfl, by omega⟩]; exact w2 a a a0 a1 a0 a1
 ·rintro L ⟨d1, d2⟩
  exact ⟨d1, fun a k a0 a1 hk => d2 a k a0 a1 hk (by rw [ran_length]; omega)⟩
def tq (T : Tb) : Int × Int × Int × (List Ty.A6) × Int × (List (List Bool)) × (List (List Bool)) × (List (List Int)) × (List (List (List Bool))) × (List (List (List Int))) :=
 (T.g.Terms, T.g.Nons, T.g.Start, T.g.Rules, T.n, T.has_, T.loop_, T.known_, T.ends, T.ways)
theorem endL_le {p : Int → Nat → Prop} {l : List Sy} {k : Nat} (h : EndL g.Rules p l k) : Le g.Rules l k := by
 cases l with
 | nil => exact h.elim
 | cons s l => obtain ⟨i, j, rfl, h1, h2, _⟩ := h; exact Le.cons_iff.2 ⟨i, j, rfl, h1, h2⟩
theorem tends_eq (hF : Fnd g n T) {i : Nat} {r : Ru} (hr : g.Rules[i]? = some r) {p k : Nat} (hp : p ≤ r.Right.length) (hk : k ≤ n) {α : Type} (f : Bool → Option α) :
 ((Pu.ix T.ends (i : Int)).bind fun x2 => (Pu.ix x2 (p : Int)).bind fun x3 => (Pu.ix x3 (k : Int)).bind f) = f (el2 (el T.ends (i : Int)) (p : Int) (k : Int)) := by
 have hi := (List.getElem?_eq_some_iff.1 hr).1
 have hD := hF.ok.ends i r hr
 rw [ix_el (by omega) (by have := hF.ok.endsL; omega), Option.bind_some, hD.ix (by omega) (by omega), Option.bind_some, hD.ix2 (by omega) (by omega) (by omega) (by omega), Option.bind_some]
theorem tendless_ok (hv : Valid g) (hF : Fnd g n T) (hn : n ≤ 24) {i : Nat} {r : Ru} (hr : g.Rules[i]? = some r) : ∀ (φ p k : Nat), p ≤ r.Right.length → r.Right.length - p < φ → k ≤ n →
 Ok (P.B3 φ T i p k) fun x => x.1 = T ∧ (x.2 = true ↔ EndL g.Rules (fun a j => el2 T.loop_ a (j : Int) = true) (r.Right.drop p) k) := by
 have hm := List.mem_of_getElem? hr
 have hrl := hv.rgt r hm
 intro φ
 induction φ with
 | zero => intro p k _ h; omega
 | succ φ ih =>
   intro p k hp hφ hk
   rw [P.B3, hF.ok.gE, ix_nat, hr, Option.bind_some]
   by_cases hpl : p = r.Right.length
   ·subst hpl
    rw [if_pos (by simp), Option.bind_some, if_pos rfl]
    refine .some ⟨rfl, ?_⟩
    rw [List.drop_of_length_le (Nat.le_refl _)]
    simp [EndL]
   ·have hp1 : p + 1 ≤ r.Right.length := by omega
    have hp2 : r.Right.length - (p + 1) < φ := by omega
    have hp3 : ¬ (decide ((p : Int) = (r.Right.length : Int)) = true) := by simp; omega
    obtain ⟨s, hps⟩ : ∃ s, r.Right[p]? = some s := ⟨_, List.getElem?_eq_getElem hp1⟩
    have hdr := drop_cons hps
    have hsm := hv.ins hm (List.mem_of_getElem? hps)
    rw [if_neg hp3, tends_eq hF hr hp hk, Option.bind_some]
    cases hE : el2 (el T.ends (i : Int)) (p : Int) (k : Int) with
    | false =>
      refine .some ⟨rfl, ?_⟩
      simp only [Bool.false_eq_true, false_iff]
      intro h
      have := (hF.ends i r hr p k hp hk).2 (endL_le h)
      rw [hE] at this; cases this
    | true =>
      rw [if_neg (by simp), W_id, ranO_eq (by omega), Option.bind_some]
      let Q : Nat → Prop := fun j => Le g.Rules [s] j ∧ Le g.Rules (r.Right.drop (p + 1)) (k - j) ∧ ((s.Term = false ∧ el2 T.loop_ s.N (j : Int) = true) ∨ EndL g.Rules (fun a j => el2 T.loop_ a (j : Int) = true) (r.Right.drop (p + 1)) (k - j))
      have hQ : EndL g.Rules (fun a j => el2 T.loop_ a (j : Int) = true) (r.Right.drop p) k ↔ ∃ j, j ≤ k ∧ Q j := by
       rw [hdr]
       constructor
       ·rintro ⟨a, b, rfl, h1, h2, h3⟩
        exact ⟨a, by omega, h1, by rwa [show a + b - a = b by omega], by rwa [show a + b - a = b by omega]⟩
       ·rintro ⟨j, hj, h1, h2, h3⟩
        exact ⟨j, k - j, by omega, h1, h2, h3⟩
      refine Ok.bind (Q := fun | .out s' => s' = tq T ∧ ¬ ∃ j, j ≤ k ∧ Q j | .rt x => x = (T, true) ∧ ∃ j, j ≤ k ∧ Q j) (forL_ok (fun j s' => s' = tq T ∧ ∀ j', j' < j → ¬ Q j') ⟨by unfold tq; rw [hF.ok.gE], fun j' h => by omega⟩ ?_ ?_) ?_
      ·rintro j x _ hx ⟨rfl, hj0⟩
       obtain ⟨rfl, hj⟩ := ran_at hx
       have hjk : j ≤ k := by omega
       have hnx : ¬ Q j → ∀ j', j' < j + 1 → ¬ Q j' := fun h j' hj' => by
        rcases Nat.lt_succ_iff_lt_or_eq.1 hj' with q | rfl
        ·exact hj0 j' q
        ·exact h
       have e1 : Pu.ix r.Right (p : Int) = some s := ix_nat.trans hps
       have hsy : P.D0 T s (j : Int) = some (symB T.has_ s j) := sym_eq hF.ok.has hsm (by omega)
       have hk1 : k - j ≤ n := by omega
       have he : ∀ (f : Bool → Option Bool), _ := fun f => tends_eq hF hr (p := p + 1) (k := k - j) hp1 hk1 f
       rw [show ((p + 1 : Nat) : Int) = (p : Int) + 1 by omega, show ((k - j : Nat) : Int) = (k : Int) - j by omega] at he
       have hend := hF.ends i r hr (p + 1) (k - j) hp1 hk1
       rw [show ((p + 1 : Nat) : Int) = (p : Int) + 1 by omega, show ((k - j : Nat) : Int) = (k : Int) - j by omega] at hend
       have hsb := symB_le hF hsm (j := j) (by omega)
       unfold P.B3.b0
       rw [e1, Option.bind_some]
       refine Ok.bind (o := P.D0 T s (j : Int)) (Q := fun b => b = symB T.has_ s j) (.of_eq hsy rfl) ?_
       rintro _ rfl
       rw [W_id, W_id]
       have ev : ((if (!symB T.has_ s j) = true then some true else (Pu.ix T.ends (i : Int)).bind fun x9 => (Pu.ix x9 ((p : Int) + 1)).bind fun x10 => (Pu.ix x10 ((k : Int) - j)).bind fun x11 => some (!x11)) : Option Bool) = some (!symB T.has_ s j || !el2 (el T.ends (i : Int)) ((p : Int) + 1) ((k : Int) - j)) := by
        rw [he]
        cases symB T.has_ s j <;> rfl
       refine Ok.bind (Q := fun b => b = (!symB T.has_ s j || !el2 (el T.ends (i : Int)) ((p : Int) + 1) ((k : Int) - j))) (.of_eq ev rfl) ?_
       rintro _ rfl
       by_cases hc : Le g.Rules [s] j ∧ Le g.Rules (r.Right.drop (p + 1)) (k - j)
       ·rw [hsb.2 hc.1, hend.2 hc.2, if_neg (by simp), Option.bind_some]
        have hlp : Ok (if (!s.Term) = true then (some s : Option Sy).bind fun x13 => (Pu.ix T.loop_ x13.N).bind fun x14 => (Pu.ix x14 (j : Int)).bind fun x15 => some x15 else some false) fun b => b = (!s.Term && el2 T.loop_ s.N j) := by
         cases ht : s.Term with
         | true => exact .some rfl
         | false =>
           obtain ⟨a, b⟩ := hsm ht
           rw [if_pos (show (!false) = true from rfl), Option.bind_some, hF.ok.loop.ix a b, Option.bind_some, hF.ok.loop.ix2 a b (by omega) (by omega)]
           exact .some rfl
        refine Ok.bind hlp ?_
        rintro _ rfl
        by_cases hl : s.Term = false ∧ el2 T.loop_ s.N (j : Int) = true
        ·rw [hl.1, hl.2, if_pos (by simp), Option.bind_some]
         refine Ok.ite (fun _ => .some ⟨rfl, j, hjk, hc.1, hc.2, .inl hl⟩) fun h => absurd rfl h
        ·have hl2 : (!s.Term && el2 T.loop_ s.N (j : Int)) = false := by
          cases ht : s.Term with
          | true => rfl
          | false =>
            cases hh : el2 T.loop_ s.N (j : Int) with
            | false => rfl
            | true => exact absurd ⟨ht, hh⟩ hl
         rw [hl2, if_neg (by simp)]
         have hrec := ih (p + 1) (k - j) hp1 hp2 hk1
         rw [show ((p + 1 : Nat) : Int) = (p : Int) + 1 by omega, show ((k - j : Nat) : Int) = (k : Int) - j by omega] at hrec
         refine Ok.bind (Q := fun y => ∃ b, y = tp T b ∧ (b = true ↔ EndL g.Rules (fun a j => el2 T.loop_ a (j : Int) = true) (r.Right.drop (p + 1)) (k - j))) (Ok.bind hrec ?_) ?_
         ·rintro ⟨T', b⟩ ⟨h1, h2⟩
          simp only at h1; subst h1
          exact .some ⟨b, rfl, h2⟩
         ·rintro _ ⟨b, rfl, hb⟩
          refine Ok.ite (fun h => ?_) fun h => ?_
          ·have hbt : b = true := h
           subst hbt
           exact .some ⟨rfl, j, hjk, hc.1, hc.2, .inr (hb.1 rfl)⟩
          ·refine .some ⟨rfl, hnx ?_⟩
           rintro ⟨_, _, h3 | h3⟩
           ·exact hl h3
           ·exact h (hb.2 h3)
       ·have hcb : (!symB T.has_ s j || !el2 (el T.ends (i : Int)) ((p : Int) + 1) ((k : Int) - j)) = true := by
         cases h1 : symB T.has_ s j with
         | false => rfl
         | true =>
           cases h2 : el2 (el T.ends (i : Int)) ((p : Int) + 1) ((k : Int) - j) with
           | false => rfl
           | true => exact absurd ⟨hsb.1 h1, hend.1 h2⟩ hc
        rw [hcb, if_pos rfl]
        exact .some ⟨rfl, hnx fun h => hc ⟨h.1, h.2.1⟩⟩
      ·rintro s' ⟨h1, h2⟩
       refine ⟨h1, ?_⟩
       rintro ⟨j, hj, hq⟩
       exact h2 j (by rw [ran_length]; omega) hq
      ·rintro (s' | x) h
       ·obtain ⟨rfl, h2⟩ := h
        refine .some ⟨rfl, ?_⟩
        rw [hQ]; simp [h2]
       ·obtain ⟨rfl, h2⟩ := h
        exact .some ⟨rfl, by rw [hQ]; simp [h2]⟩
end
end Go.Proofs.Ytmeigkelacoibaa.Gr
