/- A counterexample is accepted by just one, and no smaller word is; an automaton equals its canonical form: the plain law of TeachDiffers. Own work. -/
import Derived.Test.YtmlnknngpdnepaaBfs2
import Derived.Test.YtmlnknngpdnepaaMin
namespace Go.Proofs.Ytmlnknngpdnepaa.Df
open Go Go.Ab Go.Pu
theorem equalw_ok (a b : List Int) (ha : a.length ≤ 1000000) : Ok (P.slices_Equal_int_int a b) fun r => r = decide (a = b) := by
  unfold P.slices_Equal_int_int
  refine .ite (fun h => .some ?_) fun h => ?_
  · refine (decide_eq_false fun e => ?_).symm
    subst e; exact h rfl
  · rw [ranO_eq (by omega), Option.bind_some]
    refine Ok.bind (forL_ok (fun i (_ : Unit) => ∀ j : Int, 0 ≤ j → j < i → el a j = el b j) (Q := fun r => r.cs (fun _ => ∀ j : Int, 0 ≤ j → j < a.length → el a j = el b j) (fun r => r = false ∧ a ≠ b)) (fun j h1 h2 => by omega) (fun i x s hx hs => ?_) fun s hs => ?_) fun r hr => ?_
    · obtain ⟨rfl, hi⟩ := ran_at hx
      unfold P.slices_Equal_int_int.b0
      rw [ix_el (by omega) (by omega), Option.bind_some, ix_el (by omega) (by omega), Option.bind_some]
      refine .ite (fun hne => .some ⟨rfl, fun e => hne (by rw [e])⟩) fun he => .some fun j h1 h2 => ?_
      rcases (by omega : j < (i : Int) ∨ j = (i : Int)) with q | rfl
      · exact hs j h1 q
      · exact Classical.byContradiction fun q => he q
    · rw [ran_length] at hs
      exact fun j h1 h2 => hs j h1 (by omega)
    · cases r with
      | out s => exact .some (decide_eq_true (ext_el (by omega) hr)).symm
      | rt r => exact .some (by rw [hr.1]; exact (decide_eq_false hr.2).symm)
/-- All words with one symbol more. -/
def extw (m : Int) (ws : List (List Int)) : List (List Int) := ws.flatMap fun u => (ran m).map fun c => u ++ [c]
theorem mem_ran {m c : Int} : c ∈ ran m ↔ 0 ≤ c ∧ c < m := by
  unfold ran
  simp only [List.mem_map, List.mem_range]
  constructor
  · rintro ⟨a, h, rfl⟩
    show 0 ≤ (a : Int) ∧ (a : Int) < m
    omega
  · rintro ⟨h1, h2⟩; exact ⟨c.toNat, by omega, by show ((c.toNat : Nat) : Int) = c; omega⟩
theorem mem_extw {m : Int} {ws : List (List Int)} {v : List Int} : v ∈ extw m ws ↔ ∃ u ∈ ws, ∃ c, (0 ≤ c ∧ c < m) ∧ v = u ++ [c] := by
  unfold extw
  simp only [List.mem_flatMap, List.mem_map, mem_ran]
  constructor
  · rintro ⟨u, hu, c, hc, rfl⟩; exact ⟨u, hu, c, hc, rfl⟩
  · rintro ⟨u, hu, c, hc, rfl⟩; exact ⟨u, hu, c, hc, rfl⟩
theorem ran_pw (m : Int) : (ran m).Pairwise (· < ·) := by
  unfold ran
  rw [List.pairwise_map]
  refine List.Pairwise.imp ?_ List.pairwise_lt_range
  intro a b h
  show (a : Int) < (b : Int)
  omega
theorem words_ok {m : Int} (h1 : 1 ≤ m) (h2 : m ≤ 16) {n : Int} (h3 : 0 ≤ n) (h4 : n ≤ 5) : Ok (P.parlkeep5_words m n) fun ws => (∀ v, v ∈ ws ↔ Wd v m ∧ (v.length : Int) = n) ∧ ws.Pairwise fun u v => key m u < key m v := by
  unfold P.parlkeep5_words
  rw [ranO_eq (by omega), Option.bind_some]
  refine Ok.bind (forP_ok (fun i (ws : List (List Int)) => (∀ v, v ∈ ws ↔ Wd v m ∧ v.length = i) ∧ (ws.Pairwise fun u v => key m u < key m v) ∧ ws.length ≤ 16 ^ i) (Q := fun ws => (∀ v, v ∈ ws ↔ Wd v m ∧ (v.length : Int) = n) ∧ ws.Pairwise fun u v => key m u < key m v)
    ⟨fun v => ?_, by simp, by simp⟩ (fun i x ws hx hs => ?_) fun ws hs => ?_) fun ws hs => .some hs
  · rw [List.mem_singleton]
    constructor
    · rintro rfl; exact ⟨Wd.nil, rfl⟩
    · rintro ⟨-, h⟩; exact List.eq_nil_of_length_eq_zero h
  · obtain ⟨rfl, hi⟩ := ran_at hx
    obtain ⟨a1, a2, a3⟩ := hs
    have hi5 : i ≤ 4 := by omega
    have hp : 16 ^ i ≤ 65536 := Nat.pow_le_pow_right (n := 16) (by omega) hi5
    unfold P.parlkeep5_words.b0
    refine Ok.bind (Q := fun r => r = extw m ws) (forP_ok (fun k (r : List (List Int)) => r = extw m (ws.take k)) rfl (fun k u r hu hr => ?_) fun r hr => by rwa [List.take_length] at hr) fun r hr => .some ?_
    · subst hr
      have hk := (List.getElem?_eq_some_iff.1 hu).1
      have hum := (a1 u).1 (List.mem_of_getElem? hu)
      have ht : ws.take (k + 1) = ws.take k ++ [u] := by rw [List.take_add_one, hu]; rfl
      have hel : ∀ z : List (List Int), (extw m z).length = z.length * m.toNat := fun z => by
        unfold extw
        induction z with
        | nil => simp
        | cons a z ih => rw [List.flatMap_cons, List.length_append, ih, List.length_map, ran_length, List.length_cons, Nat.add_mul]; omega
      have hlen : (extw m (ws.take k)).length ≤ 65536 * 16 := by
        rw [hel]
        exact Nat.mul_le_mul (by simp; omega) (by omega)
      unfold P.parlkeep5_words.b1
      rw [ranO_eq (by omega), Option.bind_some]
      refine Ok.bind (forP_ok (fun j (q : List (List Int)) => q = extw m (ws.take k) ++ ((ran m).take j).map fun c => u ++ [c]) (Q := fun q => q = extw m (ws.take k) ++ (ran m).map fun c => u ++ [c]) (by simp) (fun j c q hc hq => ?_) fun q hq => by rwa [List.take_length] at hq) fun q hq => .some ?_
      · subst hq
        obtain ⟨rfl, hj⟩ := ran_at hc
        have htj : (ran m).take (j + 1) = (ran m).take j ++ [(j : Int)] := by rw [List.take_add_one, hc]; rfl
        unfold P.parlkeep5_words.b2
        rw [clone_eq _ (by omega), Option.bind_some, app_eq (by simp; omega), Option.bind_some, app_eq (by rw [List.length_append, List.length_map, List.length_take]; simp only [List.length_singleton]; omega), Option.bind_some]
        refine .some ?_
        rw [htj, List.map_append, List.append_assoc]; rfl
      · rw [hq, ht]; simp [extw]
    · rw [hr]
      refine ⟨fun v => ?_, ?_, ?_⟩
      · rw [mem_extw]
        constructor
        · rintro ⟨u, hu, c, hc, rfl⟩
          obtain ⟨u1, u2⟩ := (a1 u).1 hu
          exact ⟨Wd.snoc.2 ⟨u1, hc.1, hc.2⟩, by simp [u2]⟩
        · rintro ⟨v1, v2⟩
          rcases List.eq_nil_or_concat v with rfl | ⟨u, c, rfl⟩
          · simp at v2
          · rw [List.concat_eq_append] at v1 v2 ⊢
            rw [Wd.snoc] at v1
            exact ⟨u, (a1 u).2 ⟨v1.1, by simpa using v2⟩, c, v1.2, rfl⟩
      · unfold extw
        rw [List.pairwise_flatMap]
        constructor
        · intro u hu
          rw [List.pairwise_map]
          refine List.Pairwise.imp ?_ (ran_pw m)
          intro a b hab
          rw [key_snoc, key_snoc]; omega
        · refine List.Pairwise.imp ?_ a2
          intro u v huv x hx y hy
          obtain ⟨a, ha, rfl⟩ := List.mem_map.1 hx
          obtain ⟨b, hb, rfl⟩ := List.mem_map.1 hy
          rw [mem_ran] at ha hb
          exact key_lt h1 huv ha.2 hb.1
      · have : (extw m ws).length = ws.length * m.toNat := by
          unfold extw
          clear a1 a2 a3 hr hp
          induction ws with
          | nil => simp
          | cons a z ih => rw [List.flatMap_cons, List.length_append, ih, List.length_map, ran_length, List.length_cons, Nat.add_mul]; omega
        rw [this, Nat.pow_succ]
        exact Nat.mul_le_mul a3 (by omega)
  · rw [ran_length] at hs
    refine ⟨fun v => ?_, hs.2.1⟩
    rw [hs.1]
    constructor
    · rintro ⟨a, b⟩; exact ⟨a, by omega⟩
    · rintro ⟨a, b⟩; exact ⟨a, by omega⟩
theorem accepts_eq {d : Ty.api_Dfa} {n m : Int} (h : VD d n m) {w : List Int} (hl : w.length ≤ 4000) (hw : Wd w m) : P.parlkeep5_accepts d w = some (decide (0 ≤ tell d w)) := by
  unfold P.parlkeep5_accepts
  rw [run_eq h hl hw, Option.bind_some]; simp
theorem new_eq {d : Ty.api_Dfa} {n m : Int} (h : VD d n m) : P.teach_New d = some (some ⟨d, 0, 0⟩, 0) := by
  refine Ok.eq ?_
  have hn := h.dim.1; have ha := h.acc; have := h.n2; have := h.m2
  unfold P.teach_New
  rw [check_ok h, Option.bind_some, if_neg (by omega), app_eq (by simp; omega), Option.bind_some]
  refine Ok.bind (forP_ok (fun i (s : List (List Int)) => s = d.Next.take i) (Q := fun s => s = d.Next) rfl (fun i x s hx hs => ?_) fun s hs => ?_) fun s hs => ?_
  · subst hs
    have hi := (List.getElem?_eq_some_iff.1 hx).1
    have hd := h.dim.2 i (by omega) (by omega)
    rw [el_nat hx] at hd
    unfold P.teach_New.b0
    rw [app_eq (by simp; omega), Option.bind_some, app_eq (by simp; omega), Option.bind_some]
    refine .some ?_
    rw [List.take_add_one, hx]; rfl
  · rw [hs, List.take_length]
  · subst hs
    exact .some (by simp)
theorem sym_eq {d : Ty.api_Dfa} {n m : Int} (h : VD d n m) {a b : Int} : P.teach_Teacher_Symbols ⟨d, a, b⟩ = some m := by
  have hn := h.dim.1; have n1 := h.n1
  have h0 := h.dim.2 0 (by omega) (by omega)
  unfold P.teach_Teacher_Symbols
  show Option.bind (Pu.ix d.Next 0) _ = _
  rw [ix_el (by omega) (by omega), Option.bind_some, h0]
theorem ends_new : P.teach_New ⟨0, [-1, 0], [[1, 0], [1, 0]]⟩ = some (some ⟨⟨0, [-1, 0], [[1, 0], [1, 0]]⟩, 0, 0⟩, 0) := rfl
end Go.Proofs.Ytmlnknngpdnepaa.Df
namespace Go.Proofs.Ytmlnknngpdnepaa.Gr
open Go Go.Ab Go.Pu Df
theorem teachDiffers_plain (a0 a1 : List Int) : ∃ φ, P.parlkeep5_TeachDiffers φ a0 a1 = some true := by
  refine ⟨100000, Ok.eq ?_⟩
  generalize hφ : 100000 = φ
  unfold P.parlkeep5_TeachDiffers
  refine (dfa_ok a0).bind fun d ⟨n, m, hd, n6, m3⟩ => (dfa_ok a1).bind fun h ⟨n', m', hh, n6', m3'⟩ => ?_
  have m1 := hd.m1; have m1' := hh.m1; have n1 := hd.n1; have n1' := hh.n1
  have hhn := hh.dim.1
  have hh0 := hh.dim.2 0 (by omega) (by omega)
  unfold P.parlkeep5_ends
  rw [Option.bind_some, ends_new, Option.bind_some, oc2_some]
  rw [if_neg (by simp), show P.teach_Teacher_Symbols ⟨⟨0, [-1, 0], [[1, 0], [1, 0]]⟩, 0, 0⟩ = some 2 from rfl, Option.bind_some]
  simp only [ne_eq, not_true_eq_false, decide_false, Option.bind_some, Bool.false_eq_true, if_false]
  rw [new_eq hd, Option.bind_some, oc2_some]
  simp only [not_true_eq_false, decide_false, Bool.or_self, Bool.false_eq_true, if_false]
  refine (min_ok hd (by omega)).bind fun c ⟨c1, k, hc⟩ => ?_
  refine (equal_ok hd hc.vd (by omega) (Int.le_refl 0) (by omega)).bind fun r ⟨r1, r2, r3⟩ => ?_
  -- the canonical one is the same
  have hr : r.2.1 = true := by
    rcases r3 with ⟨e, -⟩ | ⟨-, e2, -, e3, -⟩
    · have := (Prod.mk.inj e).2
      simpa using this
    · exact absurd (by rw [hc.tell _ e2]) e3
  rw [c1, r2, hr, r1]
  simp only [not_true_eq_false, decide_false, Bool.or_self, Bool.not_true, Bool.false_eq_true, if_false]
  by_cases hm : m' = m
  · subst hm
    refine (equal_ok hd hh (by omega) (by omega) (by omega)).bind fun q ⟨q1, q2, q3⟩ => ?_
    have hbd : (n + 1) * (n' + 1) ≤ 49 := by
      have : (n + 1) * (n' + 1) ≤ 7 * (n' + 1) := Int.mul_le_mul_of_nonneg_right (by omega) (by omega)
      omega
    obtain ⟨t, ok, w, er⟩ := q
    dsimp only at q1 q2 q3 ⊢
    subst q1 q2
    rw [ix_el (by omega) (by omega), Option.bind_some, sym_eq hd, Option.bind_some, if_neg (by omega)]
    have hwok : Wd w m' ∧ (w.length : Int) ≤ 49 := by
      rcases q3 with ⟨e, -⟩ | ⟨-, e2, e3, -⟩
      · have := (Prod.mk.inj e).1
        subst this; exact ⟨Wd.nil, by simp⟩
      · exact ⟨e2, by dsimp only at e3; omega⟩
    have hnil : (0 ≤ tell d [] ↔ 0 ≤ tell h []) ∨ ok = false := by
      rcases q3 with ⟨e, e2⟩ | ⟨e, -⟩
      · exact .inl (e2 [] Wd.nil)
      · right; simpa using e
    -- what is told fits
    refine Ok.bind (Q := fun b => b = false) ?_ fun b hb => ?_
    · rw [if_neg (by simp)]
      refine .ite (fun h0 => ?_) fun h0 => ?_
      · have h0' : w = [] := List.eq_nil_of_length_eq_zero (by have := of_decide_eq_true h0; omega)
        rw [accepts_eq hd (by simp) Wd.nil, Option.bind_some, accepts_eq hh (by simp) Wd.nil, Option.bind_some]
        refine .some ?_
        rcases q3 with ⟨e, e2⟩ | ⟨e, -, -, e4, -⟩
        · have e3 := e2 [] Wd.nil
          have := (Prod.mk.inj e).2
          have hok : ok = true := by simpa using this
          have e9 : decide (0 ≤ tell d []) = decide (0 ≤ tell h []) := decide_eq_decide.2 e3
          rw [hok, e9]; simp
        · have hok : ok = false := by simpa using e
          dsimp only at e4
          rw [h0'] at e4
          rw [hok]
          by_cases q1 : 0 ≤ tell d [] <;> by_cases q2 : 0 ≤ tell h [] <;> simp [q1, q2] at e4 ⊢
      · refine .some ?_
        rcases q3 with ⟨e, e2⟩ | ⟨e, -⟩
        · have := (Prod.mk.inj e).1
          simp [this] at h0
        · have hok : ok = false := by simpa using e
          rw [hok]; rfl
    · subst hb
      rw [if_neg (by simp)]
      refine .ite (fun h5 => ?_) fun h5 => ?_
      · refine Ok.bind (Q := fun b => b = true) (.ite (fun _ => .some rfl) fun hk => ?_) fun b hb => .some hb
        rcases q3 with ⟨e, -⟩ | ⟨-, e2, e3, e4, -⟩
        · have := (Prod.mk.inj e).2
          exact absurd (by simpa using this) hk
        · dsimp only at e2 e3 e4
          rw [accepts_eq hd (by omega) e2, Option.bind_some, accepts_eq hh (by omega) e2, Option.bind_some]
          refine .some ?_
          by_cases q1 : 0 ≤ tell d w <;> by_cases q2 : 0 ≤ tell h w <;> simp [q1, q2] at e4 ⊢
      · simp only [Bool.or_eq_true, decide_eq_true_eq, not_or] at h5
        rcases q3 with ⟨e, -⟩ | ⟨-, e2, -, e4, e5⟩
        · have := (Prod.mk.inj e).2
          exact absurd (by simpa using this) h5.1
        · dsimp only at e2 e4 e5
          have hne : (!(decide (0 ≤ tell d w) == decide (0 ≤ tell h w))) = true := by
            by_cases q1 : 0 ≤ tell d w <;> by_cases q2 : 0 ≤ tell h w <;> simp [q1, q2] at e4 ⊢
          rw [show Pu.W ((w.length : Int) + 1) = w.length + 1 by rw [W_id], ranO_eq (by omega), Option.bind_some]
          refine Ok.bind (forL_ok (fun i (_ : Unit) => i ≤ w.length) (Q := fun r => r = .rt true) (by omega) (fun i x s hx hs => ?_) fun s hs => ?_) fun r hr => by subst hr; exact .some rfl
          · obtain ⟨rfl, hi⟩ := ran_at hx
            unfold P.parlkeep5_TeachDiffers.b0
            dsimp only
            rw [sym_eq hd, Option.bind_some]
            refine (words_ok m1 (by omega) (by omega : (0 : Int) ≤ i) (by omega)).bind fun ws ⟨w1, w2⟩ => ?_
            have hwl : ∀ v ∈ ws, v.length = i := fun v hv => by have := ((w1 v).1 hv).2; omega
            refine Ok.bind (forL_ok (fun j (_ : Unit) => ∀ j' : Nat, j' < j → ws[j']? ≠ some w) (Q := fun r => (r = .rt (.rt true) ∧ i = w.length) ∨ (r = .out () ∧ i < w.length)) (fun j' q => by omega) (fun j v s hv hs2 => ?_) fun s hs2 => ?_) fun r hr => ?_
            · have hv1 := (w1 v).1 (List.mem_of_getElem? hv)
              have hvl := hwl v (List.mem_of_getElem? hv)
              unfold P.parlkeep5_TeachDiffers.b1
              dsimp only
              refine (equalw_ok v w (by omega)).bind fun b hb => ?_
              subst hb
              refine .ite (fun e => ?_) fun e => ?_
              · have e := of_decide_eq_true e
                rw [accepts_eq hd (by omega) e2, Option.bind_some, accepts_eq hh (by omega) e2, Option.bind_some, hne]
                exact .some (.inl ⟨rfl, by rw [← e, hvl]⟩)
              · have e : v ≠ w := by simpa using e
                have hlt : key m' v < key m' w := by
                  rcases (by omega : i < w.length ∨ i = w.length) with q | q
                  · exact key_short m1 hv1.1 e2 (by omega)
                  · obtain ⟨j0, hj0⟩ := List.getElem?_of_mem ((w1 w).2 ⟨e2, by omega⟩)
                    have hjj : j < j0 := by
                      refine Classical.byContradiction fun q2 => ?_
                      rcases (by omega : j0 < j ∨ j0 = j) with q3 | rfl
                      · exact hs2 j0 q3 hj0
                      · rw [hv] at hj0; exact e (Option.some.inj hj0)
                    obtain ⟨hj1, hj2⟩ := List.getElem?_eq_some_iff.1 hj0
                    obtain ⟨hv2, hv3⟩ := List.getElem?_eq_some_iff.1 hv
                    have := List.pairwise_iff_getElem.1 w2 j j0 hv2 hj1 hjj
                    rwa [hv3, hj2] at this
                have hag := e5 v hv1.1 hlt
                have e9 : decide (0 ≤ tell d v) = decide (0 ≤ tell h v) := decide_eq_decide.2 hag
                rw [accepts_eq hd (by omega) hv1.1, Option.bind_some, accepts_eq hh (by omega) hv1.1, Option.bind_some, if_neg (by rw [e9]; simp)]
                refine .some fun j' hj' => ?_
                rcases (by omega : j' < j ∨ j' = j) with q | rfl
                · exact hs2 j' q
                · rw [hv]; intro q; exact e (Option.some.inj q)
            · rcases (by omega : i < w.length ∨ i = w.length) with q | q
              · exact .inr ⟨rfl, q⟩
              · exfalso
                obtain ⟨j0, hj0⟩ := List.getElem?_of_mem ((w1 w).2 ⟨e2, by omega⟩)
                exact hs2 j0 (List.getElem?_eq_some_iff.1 hj0).1 hj0
            · rcases hr with ⟨rfl, q⟩ | ⟨rfl, q⟩
              · exact .some rfl
              · exact .some (by show i + 1 ≤ w.length; omega)
          · rw [ran_length] at hs; omega
  · rw [equal_ne hd hh hm, Option.bind_some]
    dsimp only
    rw [ix_el (by omega) (by omega), Option.bind_some, sym_eq hd, Option.bind_some, if_pos (by omega)]
    exact .some rfl
end Go.Proofs.Ytmlnknngpdnepaa.Gr
