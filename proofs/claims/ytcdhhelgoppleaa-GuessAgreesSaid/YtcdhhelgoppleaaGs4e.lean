/- guess.Check; examples and the fewer ones; the functions as they are named in the seat of GuessAgrees. Own work. -/
import Derived.Test.YtcdhhelgoppleaaGs3
import Derived.Test.YtcdhhelgoppleaaDfa1
namespace Go.Proofs.Ytcdhhelgoppleaa.Gr
open Go Go.Ab Go.Pu
theorem concatw_eq (a b : List (List Int)) (h : a.length + b.length ≤ 1000000) : P.slices_Concat_int_int [a, b] = some (a ++ b) := by
  unfold P.slices_Concat_int_int
  simp only [Pu.forP, P.slices_Concat_int_int.b0]
  rw [W_id, Int.zero_add, if_neg (by omega), Option.bind_some]
  rw [W_id, if_neg (by omega), Option.bind_some, Option.bind_some]
  have e : Ok (P.slices_Grow_int_int__nil ((a.length : Int) + b.length)) fun x => x = [] := by
    unfold P.slices_Grow_int_int__nil
    rw [if_neg (by omega)]
    have e0 : Pu.W ((a.length : Int) + b.length - Pu.W (0 - 0)) = (a.length : Int) + b.length := by
      rw [show Pu.W (0 - 0) = 0 from rfl, Int.sub_zero, W_id]
    rw [e0]
    refine Ok.bind (Q := fun x => x = []) (.ite (fun h0 => ?_) fun _ => .some rfl) fun x hx => .some hx
    unfold Pu.mkz
    rw [if_pos ⟨h0, by omega, by omega⟩, Option.bind_some, sub_eq (by omega) (by omega) (by omega), Option.bind_some]
    exact .some (by simp)
  rw [e.eq, Option.bind_some]
  simp only [P.slices_Concat_int_int.b1]
  rw [app_eq (by simp; omega), Option.bind_some, Option.bind_some, app_eq (by simp; omega)]
  simp
theorem equalw_ok (a b : List Int) (ha : a.length ≤ 1000000) : Ok (P.slices_Equal_int_int a b) fun r => r = true ↔ a = b := by
  unfold P.slices_Equal_int_int
  refine .ite (fun h => .some ⟨fun q => (by cases q), fun q => absurd (by rw [q]) h⟩) fun h => ?_
  have hl : a.length = b.length := by omega
  rw [ranO_eq (by omega), Option.bind_some]
  refine Ok.bind (forL_ok (fun i _ => ∀ j : Int, 0 ≤ j → j < i → el a j = el b j) (Q := fun | .out _ => a = b | .rt r => r = false ∧ a ≠ b) (fun j h1 h2 => by omega) (fun i x s hx hs => ?_) fun s hs => ?_) fun r hr => ?_
  · obtain ⟨rfl, hi⟩ := ran_at hx
    unfold P.slices_Equal_int_int.b0
    rw [ix_el (by omega) (by omega), Option.bind_some, ix_el (by omega) (by omega), Option.bind_some]
    refine .ite (fun q => .some ⟨rfl, fun e => q (by rw [e])⟩) fun q => .some fun j j0 j1 => ?_
    rcases (by omega : j < i ∨ j = i) with e | rfl
    · exact hs j j0 e
    · exact Decidable.not_not.1 q
  · rw [ran_length] at hs
    exact ext_el hl fun j j0 j1 => hs j j0 (by omega)
  · cases r with
    | out s =>
      have hr' : a = b := hr
      exact .some ⟨fun _ => hr', fun _ => rfl⟩
    | rt r => obtain ⟨rfl, q⟩ := hr; exact .some ⟨fun q => (by cases q), fun e => absurd e q⟩
theorem containsw_ok (l : List (List Int)) (hl : l.length ≤ 1000000) (w : List Int) (hw : ∀ v ∈ l, v.length ≤ 1000000) (hn : w ∉ l) : P.slices_ContainsFunc_int_int_26__guess_Check_1 l w = some false := by
  refine Ok.eq ?_
  unfold P.slices_ContainsFunc_int_int_26__guess_Check_1 P.slices_IndexFunc_int_int_34__guess_Check_1
  rw [ranO_eq (by omega), Option.bind_some]
  refine Ok.bind (Q := fun x => x = -1) (Ok.bind (forL_ok (fun _ _ => True) (Q := fun r => r = .out ()) trivial (fun i x s hx _ => ?_) fun _ _ => rfl) fun r hr => ?_) fun x hx => ?_
  · obtain ⟨rfl, hi⟩ := ran_at hx
    unfold P.slices_IndexFunc_int_int_34__guess_Check_1.b0 P.guess_Check_1
    rw [ix_el (by omega) (by omega), Option.bind_some]
    have hm := el_mem (xs := l) (i := (i : Int)) (by omega) (by omega)
    refine ((equalw_ok _ w (hw _ hm)).bind fun b hb => .some (show b = false from ?_)).bind fun b hb => ?_
    · cases b
      · rfl
      · exact absurd (hb.1 rfl ▸ hm) hn
    · subst hb; exact .some trivial
  · subst hr; exact .some rfl
  · subst hx; exact .some rfl
theorem gcheck_ok {t : Int} {yes no : List (List Int)} (h1 : yes.length ≤ 6) (h2 : no.length ≤ 6) (h3 : ∀ w ∈ yes ++ no, w.length ≤ 5 ∧ ∀ x ∈ w, 0 ≤ x ∧ x < t) (h4 : ∀ w ∈ no, w ∉ yes) : P.guess_Check t yes no = some 0 := by
  refine Ok.eq ?_
  unfold P.guess_Check
  rw [if_neg (by simp only [Bool.or_eq_true, decide_eq_true_eq]; omega), concatw_eq _ _ (by omega), Option.bind_some]
  refine Ok.bind (forL_ok (fun _ _ => True) (Q := fun r => r = .out ()) trivial (fun i w s hw _ => ?_) fun _ _ => rfl) fun r hr => ?_
  · obtain ⟨a, b⟩ := h3 w (List.mem_of_getElem? hw)
    unfold P.guess_Check.b0
    rw [if_neg (by omega)]
    refine Ok.bind (forL_ok (fun _ _ => True) (Q := fun r => r = .out ()) trivial (fun i x s hx _ => ?_) fun _ _ => rfl) fun r hr => ?_
    · obtain ⟨c, d⟩ := b x (List.mem_of_getElem? hx)
      unfold P.guess_Check.b1
      rw [if_neg (by simp only [Bool.or_eq_true, decide_eq_true_eq]; omega)]
      exact .some trivial
    · subst hr; exact .some trivial
  subst hr
  show Ok (Option.bind _ _) _
  refine Ok.bind (forL_ok (fun _ _ => True) (Q := fun r => r = .out ()) trivial (fun i w s hw _ => ?_) fun _ _ => rfl) fun r hr => ?_
  · have hw2 := List.mem_of_getElem? hw
    unfold P.guess_Check.b2
    rw [containsw_ok yes (by omega) w (fun v hv => by have := (h3 v (List.mem_append_left _ hv)).1; omega) (h4 w hw2), Option.bind_some]
    exact .some trivial
  · subst hr; exact .some rfl

/-! ### The words that have a great terminal are struck out -/
def big (t : Int) (w : List Int) : Prop := ∃ x ∈ w, t ≤ x
theorem big_ok (w : List Int) (t : Int) (hw : w.length ≤ 1000000) : Ok (P.parlkeep5_fewer_1 w t) fun b => b = true ↔ big t w := by
  unfold P.parlkeep5_fewer_1 P.slices_ContainsFunc_int_int__parlkeep5_fewer_1_1 P.slices_IndexFunc_int_int__parlkeep5_fewer_1_1
  rw [ranO_eq (by omega), Option.bind_some]
  refine Ok.bind (Q := fun b => b = true ↔ big t w) (Ok.bind (Q := fun x : Int => 0 ≤ x ↔ big t w) (Ok.bind (forL_ok (fun i _ => ∀ j : Int, 0 ≤ j → j < i → el w j < t) (Q := fun | .out _ => ¬ big t w | .rt x => 0 ≤ x ∧ big t w) (fun j a b => by omega) (fun i x s hx hs => ?_) fun s hs => ?_) fun r hr => ?_) fun x hx => .some (by simpa using hx)) fun b hb => .some hb
  · obtain ⟨rfl, hi⟩ := ran_at hx
    unfold P.slices_IndexFunc_int_int__parlkeep5_fewer_1_1.b0 P.parlkeep5_fewer_1_1
    rw [ix_el (by omega) (by omega), Option.bind_some, Option.bind_some]
    have hm := el_mem (xs := w) (i := (i : Int)) (by omega) (by omega)
    refine .ite (fun q => .some ⟨by omega, _, hm, by simpa using q⟩) fun q => .some fun j j0 j1 => ?_
    rcases (by omega : j < i ∨ j = i) with e | rfl
    · exact hs j j0 e
    · simpa using q
  · rw [ran_length] at hs
    rintro ⟨x, hx, h2⟩
    obtain ⟨j, hj, rfl⟩ := List.mem_iff_getElem.1 hx
    have := hs j (by omega) (by omega)
    rw [el_nat (List.getElem?_eq_getElem hj)] at this
    omega
  · cases r with
    | out s =>
      have hr' : ¬ big t w := hr
      exact .some ⟨fun q => absurd q (by omega), fun q => absurd q hr'⟩
    | rt x => obtain ⟨a, b⟩ := hr; exact .some ⟨fun _ => b, fun _ => a⟩
theorem delw_ok (l : List (List Int)) (t : Int) (hl : l.length ≤ 1000) (hw : ∀ w ∈ l, w.length ≤ 1000000) {φ : Nat} (hφ : 2000 < φ) :
    Ok (P.slices_DeleteFunc_int_int__parlkeep5_fewer_1 φ l t) fun r => r.length ≤ l.length ∧ ∀ w ∈ r, w ∈ l ∧ ¬ big t w := by
  unfold P.slices_DeleteFunc_int_int__parlkeep5_fewer_1
  have hidx : Ok (P.slices_IndexFunc_int_int_34__parlkeep5_fewer_1 l t) fun x => (x = -1 ∧ ∀ w ∈ l, ¬ big t w) ∨ (0 ≤ x ∧ x < l.length ∧ ∀ j : Int, 0 ≤ j → j < x → ¬ big t (el l j)) := by
    unfold P.slices_IndexFunc_int_int_34__parlkeep5_fewer_1
    rw [ranO_eq (by omega), Option.bind_some]
    refine Ok.bind (forL_ok (fun i _ => ∀ j : Int, 0 ≤ j → j < i → ¬ big t (el l j)) (Q := fun | .out _ => ∀ w ∈ l, ¬ big t w | .rt x => 0 ≤ x ∧ x < l.length ∧ ∀ j : Int, 0 ≤ j → j < x → ¬ big t (el l j)) (fun j a b => by omega) (fun i x s hx hs => ?_) fun s hs => ?_) fun r hr => ?_
    · obtain ⟨rfl, hi⟩ := ran_at hx
      unfold P.slices_IndexFunc_int_int_34__parlkeep5_fewer_1.b0
      rw [ix_el (by omega) (by omega), Option.bind_some]
      have hm := el_mem (xs := l) (i := (i : Int)) (by omega) (by omega)
      refine (big_ok _ t (hw _ hm)).bind fun b hb => .ite (fun q => .some ⟨by omega, by omega, hs⟩) fun q => .some fun j j0 j1 => ?_
      rcases (by omega : j < i ∨ j = i) with e | rfl
      · exact hs j j0 e
      · exact fun e => q (hb.2 e)
    · rw [ran_length] at hs
      intro w hw2
      obtain ⟨j, hj, rfl⟩ := List.mem_iff_getElem.1 hw2
      have := hs j (by omega) (by omega)
      rwa [el_nat (List.getElem?_eq_getElem hj)] at this
    · cases r with
      | out s => exact .some (.inl ⟨rfl, hr⟩)
      | rt x => exact .some (.inr hr)
  refine hidx.bind fun x hx => .ite (fun q => ?_) fun q => ?_
  · rcases hx with ⟨-, h⟩ | h
    · exact .some ⟨Nat.le_refl _, fun w hw => ⟨hw, h w hw⟩⟩
    · omega
  · rcases hx with h | ⟨x0, x1, x2⟩
    · exact absurd h.1 q
    have e1 : Pu.W (x + 1) = x + 1 := W_id
    rw [e1]
    refine Ok.bind (whl_ok (fun s : List (List Int) × Int × Int => s.1.length = l.length ∧ 0 ≤ s.2.1 ∧ s.2.1 < s.2.2 ∧ s.2.2 ≤ l.length ∧ (∀ w ∈ s.1, w ∈ l) ∧ ∀ j : Int, 0 ≤ j → j < s.2.1 → ¬ big t (el s.1 j))
      (Q := fun | .out s => s.1.length = l.length ∧ 0 ≤ s.2.1 ∧ s.2.1 ≤ l.length ∧ (∀ w ∈ s.1, w ∈ l) ∧ ∀ j : Int, 0 ≤ j → j < s.2.1 → ¬ big t (el s.1 j) | .rt _ => False)
      (fun s => (l.length - s.2.2).toNat) ⟨rfl, x0, by dsimp only; omega, by dsimp only; omega, fun w hw => hw, x2⟩ ?_ (by dsimp only; omega)) ?_
    · rintro ⟨u, i, j⟩ ⟨a1, a2, a3, a4, a5, a6⟩
      dsimp only at a1 a2 a3 a4 a5 a6
      unfold P.slices_DeleteFunc_int_int__parlkeep5_fewer_1.b0
      dsimp only
      refine .ite (fun q => ?_) fun q => .some ⟨a1, a2, by dsimp only; omega, a5, a6⟩
      have hm := el_mem (xs := u) (i := j) (by omega) q
      rw [ix_el (by omega) q, Option.bind_some]
      refine (big_ok _ t (hw _ (a5 _ hm))).bind fun b hb => ?_
      have ej : Pu.W (j + 1) = j + 1 := W_id
      have ei : Pu.W (i + 1) = i + 1 := W_id
      rw [ej]
      refine Ok.bind (Q := fun s : List (List Int) × Int => s.1.length = l.length ∧ 0 ≤ s.2 ∧ s.2 ≤ j ∧ (∀ w ∈ s.1, w ∈ l) ∧ ∀ j : Int, 0 ≤ j → j < s.2 → ¬ big t (el s.1 j)) (.ite (fun q2 => ?_) fun q2 => .some ⟨a1, a2, by dsimp only; omega, a5, a6⟩) fun s hs => .some ⟨⟨hs.1, hs.2.1, by have := hs.2.2.1; dsimp only; omega, by dsimp only; omega, hs.2.2.2.1, hs.2.2.2.2⟩, by dsimp only; omega⟩
      rw [ix_el a2 (by omega), Option.bind_some, ei]
      refine .some ⟨by simpa using a1, by dsimp only; omega, by dsimp only; omega, fun w hw => ?_, fun z z0 z1 => ?_⟩
      · rcases List.mem_or_eq_of_mem_set hw with h | h
        · exact a5 w h
        · rw [h]; exact a5 _ hm
      · dsimp only at z1 ⊢
        rw [el_st a2 (by omega) z0]
        split
        · intro e
          have := hb.2 e
          rw [this] at q2; cases q2
        · exact a6 z z0 (by omega)
    · rintro (⟨u, i, j⟩ | _) h
      · obtain ⟨a1, a2, a3, a5, a6⟩ := h
        dsimp only at a1 a2 a3 a5 a6
        show Ok (Option.bind _ _) _
        dsimp only
        rw [sub_eq a2 (by omega) (by omega), Option.bind_some]
        have hc : (Pu.clrF u i ([] : List Int)).length = u.length := by unfold Pu.clrF; simp; omega
        rw [sub_eq (by omega) a2 (by rw [hc]; omega), Option.bind_some]
        have hk : ((Pu.clrF u i ([] : List Int)).take i.toNat).drop (0 : Int).toNat = u.take i.toNat := by
          unfold Pu.clrF
          rw [List.take_append_of_le_length (by simp; omega), List.take_take, Nat.min_self]; rfl
        rw [hk]
        refine .some ⟨by simp; omega, fun w hw => ⟨a5 w (List.mem_of_mem_take hw), ?_⟩⟩
        obtain ⟨z, hz, rfl⟩ := List.mem_iff_getElem.1 hw
        have hz2 : z < i.toNat := by simp at hz; omega
        have := a6 z (by omega) (by omega)
        rw [List.getElem_take]
        rwa [el_nat (List.getElem?_eq_getElem (by omega))] at this
      · exact h.elim

/-! ### Examples -/
theorem wordn_ok {m k : Int} (h1 : 1 ≤ m) (h2 : m ≤ 1000) (k0 : 0 ≤ k) (k1 : k ≤ 100) (l : List Int) : Ok (P.parlmake_Word m k l) fun w => (w.length : Int) ≤ k ∧ Df.Wd w m := by
  unfold P.parlmake_Word
  refine Ok.bind (forL_ok (fun _ (s : List Int) => (s.length : Int) ≤ k ∧ Df.Wd s m) (Q := fun r => ∃ s, r = .out s ∧ (s.length : Int) ≤ k ∧ Df.Wd s m) ⟨by simpa using k0, fun j a b => by simp at b; omega⟩ (fun i x s hx hs => ?_) fun s hs => ⟨s, rfl, hs⟩) fun r hr => ?_
  · unfold P.parlmake_Word.b0
    refine .ite (fun _ => .some ⟨s, rfl, hs⟩) fun hn => ?_
    refine (Df.below_ok h1 (by omega)).bind fun y hy => ?_
    have := hs.1
    rw [app_eq (by simp; omega), Option.bind_some]
    refine .some ⟨by simp; omega, fun j j0 j1 => ?_⟩
    simp at j1
    rcases (by omega : j < (s.length : Int) ∨ j ≥ (s.length : Int)) with e | e
    · rw [el_app_left (by omega)]; exact hs.2 j j0 e
    · have : j = (s.length : Int) := by omega
      subst this
      rw [show el (s ++ [y]) (s.length : Int) = y from el_nat (by simp)]
      exact hy
  · obtain ⟨s, rfl, hs⟩ := hr
    exact .some hs
/-- The words of examples, by what the automaton tells. -/
def Exm (d : Ty.api_Dfa) (m : Int) (b : Bool) (l : List (List Int)) : Prop := ∀ w ∈ l, w.length ≤ 4 ∧ Df.Wd w m ∧ P.parlkeep5_accepts d w = some b
theorem Exm.app {d : Ty.api_Dfa} {m : Int} {b : Bool} {l : List (List Int)} {w : List Int} (h : Exm d m b l) (h1 : w.length ≤ 4) (h2 : Df.Wd w m) (h3 : P.parlkeep5_accepts d w = some b) : Exm d m b (l ++ [w]) := by
  intro v hv
  rcases List.mem_append.1 hv with q | q
  · exact h v q
  · simp at q; subst q; exact ⟨h1, h2, h3⟩
theorem examples_ok {d : Ty.api_Dfa} {n m : Int} (hd : Df.VD d n m) (l : List Int) {φ : Nat} (hφ : 100 < φ) :
    Ok (P.parlkeep5_examples φ d l) fun r => Exm d m true r.1 ∧ Exm d m false r.2 ∧ r.1.length ≤ 12 ∧ r.2.length ≤ 12 := by
  unfold P.parlkeep5_examples
  have hn := hd.dim.1; have := hd.n1; have := hd.m1; have := hd.m2
  refine Ok.bind (whl_ok (fun s : List Int × List (List Int) × List (List Int) => Exm d m true s.2.1 ∧ Exm d m false s.2.2 ∧ s.2.1.length + s.2.2.length ≤ 12)
    (Q := fun | .out s => Exm d m true s.2.1 ∧ Exm d m false s.2.2 ∧ s.2.1.length + s.2.2.length ≤ 12 | .rt _ => False) (fun s => 12 - (s.2.1.length + s.2.2.length)) ⟨fun w hw => by simp at hw, fun w hw => by simp at hw, by simp⟩ ?_ (by simp; omega)) ?_
  · rintro ⟨u, ys, ns⟩ ⟨a, b, c⟩
    dsimp only at a b c
    unfold P.parlkeep5_examples.b0
    dsimp only
    refine .ite (fun q => ?_) fun q => .some ⟨a, b, c⟩
    have ew : Pu.W ((ys.length : Int) + (ns.length : Int)) = ((ys.length + ns.length : Nat) : Int) := by rw [W_id]; omega
    rw [ew] at q
    simp only [Bool.and_eq_true, decide_eq_true_eq] at q
    rw [ix_el (by omega) q.1, Option.bind_some]
    unfold P.parlkeep5_below
    refine ((Df.below_ok (by omega) (by omega)).bind fun y hy => .some (show 0 ≤ y ∧ y < 5 from hy)).bind fun x3 hx3 => ?_
    rw [sub_eq (by omega) (by omega) (by omega), Option.bind_some, ix_el (by omega) (by omega), Option.bind_some]
    have hm := hd.dim.2 0 (by omega) (by omega)
    rw [hm]
    refine (wordn_ok (by omega) (by omega) hx3.1 (by omega) _).bind fun w hw => ?_
    rw [sub_eq (by rw [imin_eq]; omega) (by rw [imin_eq]; omega) (by omega), Option.bind_some]
    obtain ⟨r, hr, hr2⟩ := Df.run_ok hd (w := w) (by omega) hw.2
    have hacc : P.parlkeep5_accepts d w = some (decide (0 ≤ r.1)) := by
      unfold P.parlkeep5_accepts
      rw [hr, Option.bind_some, hr2]; simp
    rw [hacc, Option.bind_some]
    refine Ok.bind (Q := fun s : List (List Int) × List (List Int) => Exm d m true s.1 ∧ Exm d m false s.2 ∧ s.1.length + s.2.length = ys.length + ns.length + 1) (.ite (fun q2 => ?_) fun q2 => ?_) fun s hs => .some ⟨⟨hs.1, hs.2.1, by dsimp only; omega⟩, by dsimp only; omega⟩
    · rw [app_eq (by simp; omega), Option.bind_some]
      rw [show decide (0 ≤ r.1) = true from q2] at hacc
      exact .some ⟨a.app (by omega) hw.2 hacc, b, by simp; omega⟩
    · rw [app_eq (by simp; omega), Option.bind_some]
      rw [show decide (0 ≤ r.1) = false by simpa using q2] at hacc
      exact .some ⟨a, b.app (by omega) hw.2 hacc, by simp; omega⟩
  · rintro (s | _) h
    · obtain ⟨a, b, c⟩ := h
      exact .some ⟨a, b, by dsimp only; omega, by dsimp only; omega⟩
    · exact h.elim
/-- What is so for the few examples. -/
structure Few (t : Int) (yes no : List (List Int)) : Prop where
  l1 : yes.length ≤ 3
  l2 : no.length ≤ 3
  w : ∀ w ∈ yes ++ no, w.length ≤ 5 ∧ ∀ x ∈ w, 0 ≤ x ∧ x < t
  d : ∀ w ∈ no, w ∉ yes
theorem fewer_ok {d : Ty.api_Dfa} {n m : Int} (hd : Df.VD d n m) (t : Int) (l : List Int) {φ : Nat} (hφ : 3000 < φ) : Ok (P.parlkeep5_fewer φ d t l) fun r => Few t r.1 r.2 := by
  unfold P.parlkeep5_fewer
  refine (examples_ok hd l (by omega)).bind fun x1 h1 => ?_
  obtain ⟨a, b, c1, c2⟩ := h1
  refine (delw_ok x1.1 t (by omega) (fun w hw => by have := (a w hw).1; omega) (by omega)).bind fun x2 h2 => ?_
  refine (delw_ok x1.2 t (by omega) (fun w hw => by have := (b w hw).1; omega) (by omega)).bind fun x3 h3 => ?_
  rw [sub_eq (by omega) (by rw [imin_eq]; omega) (by rw [imin_eq]; omega), Option.bind_some, sub_eq (by omega) (by rw [imin_eq]; omega) (by rw [imin_eq]; omega), Option.bind_some]
  have f1 : ∀ w ∈ (x2.take (Pu.imin 3 (x2.length : Int)).toNat).drop (0 : Int).toNat, w ∈ x1.1 ∧ ¬ big t w := fun w hw => h2.2 w (List.mem_of_mem_take (List.mem_of_mem_drop hw))
  have f2 : ∀ w ∈ (x3.take (Pu.imin 3 (x3.length : Int)).toNat).drop (0 : Int).toNat, w ∈ x1.2 ∧ ¬ big t w := fun w hw => h3.2 w (List.mem_of_mem_take (List.mem_of_mem_drop hw))
  have g : ∀ w, Df.Wd w m → ¬ big t w → ∀ x ∈ w, 0 ≤ x ∧ x < t := fun w h1 h2 x hx => by
    refine ⟨?_, by have : ¬ t ≤ x := fun e => h2 ⟨x, hx, e⟩; omega⟩
    obtain ⟨j, hj, rfl⟩ := List.mem_iff_getElem.1 hx
    have := (h1 j (by omega) (by omega)).1
    rwa [el_nat (List.getElem?_eq_getElem hj)] at this
  refine .some ⟨?_, ?_, fun w hw => ?_, fun w hw hw2 => ?_⟩
  · dsimp only; rw [imin_eq]; simp; omega
  · dsimp only; rw [imin_eq]; simp; omega
  · rcases List.mem_append.1 hw with q | q
    · obtain ⟨p1, p2⟩ := f1 w q
      obtain ⟨p3, p4, -⟩ := a w p1
      exact ⟨by omega, g w p4 p2⟩
    · obtain ⟨p1, p2⟩ := f2 w q
      obtain ⟨p3, p4, -⟩ := b w p1
      exact ⟨by omega, g w p4 p2⟩
  · have e1 := (b w (f2 w hw).1).2.2
    have e2 := (a w (f1 w hw2).1).2.2
    rw [e1] at e2; cases e2
end Go.Proofs.Ytcdhhelgoppleaa.Gr
