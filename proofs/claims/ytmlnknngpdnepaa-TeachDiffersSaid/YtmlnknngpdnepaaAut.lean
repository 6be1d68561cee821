/- What automata tell: dfa.Run; keys of words; the list of all words of a length. Own work. -/
import Derived.Test.YtmlnknngpdnepaaDfa1
namespace Go.Proofs.Ytmlnknngpdnepaa.Df
open Go Go.Ab Go.Pu
/-- The next state; -1: none. -/
def dstep (d : Ty.api_Dfa) (s c : Int) : Int := if s < 0 then -1 else el2 d.Next s c
def drun (d : Ty.api_Dfa) (s : Int) (w : List Int) : Int := w.foldl (dstep d) s
def told (d : Ty.api_Dfa) (s : Int) : Int := if s < 0 then -1 else el d.Accept s
/-- What an automaton tells for a word. -/
def tell (d : Ty.api_Dfa) (w : List Int) : Int := told d (drun d d.Start w)
theorem drun_dead (d : Ty.api_Dfa) : ∀ w : List Int, drun d (-1) w = -1 := by
  intro w
  induction w with
  | nil => rfl
  | cons c w ih => exact ih
theorem drun_app (d : Ty.api_Dfa) (s : Int) (u v : List Int) : drun d s (u ++ v) = drun d (drun d s u) v := List.foldl_append ..
theorem dstep_rg {d : Ty.api_Dfa} {n m s c : Int} (h : VD d n m) (h0 : -1 ≤ s) (h1 : s < n) (c0 : 0 ≤ c) (c1 : c < m) : -1 ≤ dstep d s c ∧ dstep d s c < n := by
  have := h.n1
  unfold dstep
  split
  · omega
  · exact h.t1 s c (by omega) h1 c0 c1
theorem Wd.nil {m : Int} : Wd [] m := fun j a b => by simp at b; omega
theorem Wd.mem {w : List Int} {m : Int} : Wd w m ↔ ∀ c ∈ w, 0 ≤ c ∧ c < m := by
  constructor
  · intro h c hc
    obtain ⟨i, hi⟩ := List.getElem?_of_mem hc
    have := h i (by omega) (by have := (List.getElem?_eq_some_iff.1 hi).1; omega)
    rwa [el_nat hi] at this
  · intro h j j0 j1
    exact h _ (el_mem j0 j1)
theorem Wd.snoc {w : List Int} {m c : Int} : Wd (w ++ [c]) m ↔ Wd w m ∧ 0 ≤ c ∧ c < m := by
  simp only [Wd.mem, List.mem_append, List.mem_singleton]
  constructor
  · intro h; exact ⟨fun x hx => h x (.inl hx), h c (.inr rfl)⟩
  · rintro ⟨h1, h2⟩ x (hx | rfl)
    · exact h1 x hx
    · exact h2
theorem drun_rg {d : Ty.api_Dfa} {n m : Int} (h : VD d n m) : ∀ (w : List Int) (s : Int), (∀ c ∈ w, 0 ≤ c ∧ c < m) → -1 ≤ s → s < n → -1 ≤ drun d s w ∧ drun d s w < n := by
  intro w
  induction w with
  | nil => intro s _ h0 h1; exact ⟨h0, h1⟩
  | cons c w ih =>
    intro s hw h0 h1
    have := dstep_rg h h0 h1 (hw c (.head _)).1 (hw c (.head _)).2
    exact ih _ (fun x hx => hw x (.tail _ hx)) this.1 this.2
theorem run_eq {d : Ty.api_Dfa} {n m : Int} (h : VD d n m) {w : List Int} (hl : w.length ≤ 4000) (hw : Wd w m) : P.dfa_Run d w = some (tell d w, 0) := by
  have hn := h.dim.1
  have := h.n1; have := h.m1
  refine Ok.eq ?_
  unfold P.dfa_Run
  rw [check_ok h, Option.bind_some, if_neg (by omega), if_neg (by omega)]
  refine Ok.bind (forL_ok (fun _ _ => True) (Q := fun r => r = .out ()) trivial (fun i x s hx _ => ?_) fun _ _ => rfl) fun r hr => ?_
  · have hi := (List.getElem?_eq_some_iff.1 hx).1
    have hx2 := hw i (by omega) (by omega)
    rw [el_nat hx] at hx2
    have h0 := h.dim.2 0 (by omega) (by omega)
    unfold P.dfa_Run.b0
    refine Ok.bind (Q := fun b => b = false) ?_ fun b hb => ?_
    · rw [if_neg (by simp only [Bool.or_eq_true, decide_eq_true_eq]; omega), ix_el (by omega) (by omega), Option.bind_some]
      exact .some (by simp; omega)
    · subst hb; exact .some trivial
  subst hr
  show Ok (Option.bind _ _) _
  refine Ok.bind (forL_ok (fun i (s : Int) => 0 ≤ s ∧ s < n ∧ s = drun d d.Start (w.take i)) (Q := fun r => (∃ s, r = .out s ∧ 0 ≤ s ∧ s < n ∧ s = drun d d.Start w) ∨ (r = .rt (-1, 0) ∧ drun d d.Start w = -1)) ⟨h.s0, h.s1, rfl⟩ (fun i x s hx hs => ?_) fun s hs => .inl ⟨s, rfl, by rwa [List.take_length] at hs⟩) fun r hr => ?_
  · have hi := (List.getElem?_eq_some_iff.1 hx).1
    have hx2 := hw i (by omega) (by omega)
    rw [el_nat hx] at hx2
    obtain ⟨s0, s1, s2⟩ := hs
    have hd := h.dim.2 s s0 s1
    have ht := h.t1 s x s0 s1 hx2.1 hx2.2
    have hst : drun d d.Start (w.take (i + 1)) = el2 d.Next s x := by
      rw [List.take_add_one, hx, Option.toList_some, drun_app, ← s2]
      show dstep d s x = _
      unfold dstep; rw [if_neg (by omega)]
    unfold P.dfa_Run.b1
    rw [ix_el s0 (by omega), Option.bind_some, ix_el hx2.1 (by omega), Option.bind_some]
    refine .ite (fun hneg => .some (.inr ⟨rfl, ?_⟩)) fun hneg => .some ⟨by show 0 ≤ el2 d.Next s x; unfold el2; omega, ht.2, hst.symm⟩
    have hm1 : el2 d.Next s x = -1 := by have : el2 d.Next s x < 0 := hneg; omega
    conv => lhs; rw [← List.take_append_drop (i + 1) w]
    rw [drun_app, hst, hm1, drun_dead]
  · rcases hr with ⟨s, rfl, s0, s1, s2⟩ | ⟨rfl, h2⟩
    · show Ok (Option.bind _ _) _
      rw [ix_el s0 (by rw [h.acc]; exact s1), Option.bind_some]
      refine .some ?_
      unfold tell told
      rw [← s2, if_neg (by omega)]
    · refine .some ?_
      unfold tell told
      rw [h2]; rfl
theorem mget_put {κ ν : Type} [DecidableEq κ] (k k' : κ) (v : ν) (m : List (κ × ν)) : Pu.mget k (Pu.mput k' v m) = if k = k' then some v else Pu.mget k m := by
  induction m with
  | nil => simp only [Pu.mput, Pu.mget]
  | cons p m ih =>
    obtain ⟨a, b⟩ := p
    simp only [Pu.mput]
    by_cases e : k' = a
    · subst e
      rw [if_pos rfl]
      simp only [Pu.mget]
      by_cases e2 : k = k'
      · rw [if_pos e2, if_pos e2]
      · rw [if_neg e2, if_neg e2, if_neg e2]
    · rw [if_neg e]
      simp only [Pu.mget]
      by_cases e2 : k = a
      · subst e2; rw [if_pos rfl, if_pos rfl, if_neg (fun q => e q.symm)]
      · rw [if_neg e2, if_neg e2]; exact ih
theorem mput_len {κ ν : Type} [DecidableEq κ] (k : κ) (v : ν) (m : List (κ × ν)) : (Pu.mput k v m).length = m.length + if (Pu.mget k m).isSome then 0 else 1 := by
  induction m with
  | nil => simp [Pu.mput, Pu.mget]
  | cons p m ih =>
    obtain ⟨a, b⟩ := p
    simp only [Pu.mput, Pu.mget]
    by_cases e : k = a
    · simp [e]
    · rw [if_neg e, if_neg e, List.length_cons, List.length_cons, ih]; omega
/-- The place of a word in the list of all words, by length, then by their symbols. -/
def key (m : Int) (w : List Int) : Int := w.foldl (fun a c => a * m + c + 1) 0
theorem key_snoc (m : Int) (w : List Int) (c : Int) : key m (w ++ [c]) = key m w * m + c + 1 := by simp [key, List.foldl_append]
theorem snoc_ind {p : List Int → Prop} (h0 : p []) (h1 : ∀ w c, p w → p (w ++ [c])) (w : List Int) : p w := by
  have : ∀ (n : Nat) (w : List Int), w.length = n → p w := by
    intro n
    induction n with
    | zero => intro w hw; rw [List.eq_nil_of_length_eq_zero hw]; exact h0
    | succ n ih =>
      intro w hw
      rcases List.eq_nil_or_concat w with rfl | ⟨u, c, rfl⟩
      · exact h0
      · rw [List.concat_eq_append] at hw ⊢
        exact h1 u c (ih u (by simpa using hw))
  exact this _ w rfl
theorem key_nn {m : Int} (hm : 1 ≤ m) (w : List Int) : Wd w m → 0 ≤ key m w := by
  refine snoc_ind (p := fun w => Wd w m → 0 ≤ key m w) (fun _ => Int.le_refl _) (fun w c ih h => ?_) w
  rw [Wd.snoc] at h
  rw [key_snoc]
  have := Int.mul_nonneg (ih h.1) (by omega : 0 ≤ m)
  omega
theorem key_pos {m : Int} (hm : 1 ≤ m) {w : List Int} {c : Int} (h : Wd (w ++ [c]) m) : 0 < key m (w ++ [c]) := by
  rw [Wd.snoc] at h
  rw [key_snoc]
  have := Int.mul_nonneg (key_nn hm w h.1) (by omega : 0 ≤ m)
  omega
theorem key_up {m : Int} (hm : 1 ≤ m) {w : List Int} {c : Int} (h : Wd (w ++ [c]) m) : key m w < key m (w ++ [c]) := by
  rw [Wd.snoc] at h
  have h1 := key_nn hm w h.1
  rw [key_snoc]
  have : key m w * 1 ≤ key m w * m := Int.mul_le_mul_of_nonneg_left hm h1
  omega
theorem key_lt {m : Int} (hm : 1 ≤ m) {u v : List Int} {c e : Int} (h : key m u < key m v) (c1 : c < m) (e0 : 0 ≤ e) : key m (u ++ [c]) < key m (v ++ [e]) := by
  rw [key_snoc, key_snoc]
  have : (key m u + 1) * m ≤ key m v * m := Int.mul_le_mul_of_nonneg_right (by omega) (by omega)
  rw [Int.add_mul] at this
  omega
theorem key_le {m : Int} (hm : 1 ≤ m) {u v : List Int} {c : Int} (h : key m u ≤ key m v) : key m (u ++ [c]) ≤ key m (v ++ [c]) := by
  rw [key_snoc, key_snoc]
  have : key m u * m ≤ key m v * m := Int.mul_le_mul_of_nonneg_right h (by omega)
  omega
/-- The first key of length n. -/
def kst (m : Int) : Nat → Int
  | 0 => 0
  | n + 1 => kst m n * m + 1
theorem key_len {m : Int} (hm : 1 ≤ m) (w : List Int) : Wd w m → kst m w.length ≤ key m w ∧ key m w < kst m (w.length + 1) := by
  refine snoc_ind (p := fun w => Wd w m → kst m w.length ≤ key m w ∧ key m w < kst m (w.length + 1)) (fun _ => ⟨Int.le_refl _, by show (0 : Int) < 0 * m + 1; omega⟩) (fun w c ih h => ?_) w
  rw [Wd.snoc] at h
  obtain ⟨i1, i2⟩ := ih h.1
  rw [key_snoc, List.length_append, List.length_singleton]
  have h1 : kst m w.length * m ≤ key m w * m := Int.mul_le_mul_of_nonneg_right i1 (by omega)
  have h2 : (key m w + 1) * m ≤ kst m (w.length + 1) * m := Int.mul_le_mul_of_nonneg_right (by omega) (by omega)
  rw [Int.add_mul] at h2
  constructor
  · show kst m w.length * m + 1 ≤ _
    omega
  · show _ < kst m (w.length + 1) * m + 1
    omega
theorem kst_nn {m : Int} (hm : 1 ≤ m) (n : Nat) : 0 ≤ kst m n := by
  induction n with
  | zero => exact Int.le_refl _
  | succ n ih => have := Int.mul_nonneg ih (by omega : 0 ≤ m); show 0 ≤ kst m n * m + 1; omega
theorem kst_mono {m : Int} (hm : 1 ≤ m) {a b : Nat} (h : a ≤ b) : kst m a ≤ kst m b := by
  induction h with
  | refl => exact Int.le_refl _
  | step _ ih =>
    rename_i k _
    have h0 := kst_nn hm k
    have : kst m k * 1 ≤ kst m k * m := Int.mul_le_mul_of_nonneg_left hm h0
    show _ ≤ kst m k * m + 1
    omega
theorem key_short {m : Int} (hm : 1 ≤ m) {u v : List Int} (hu : Wd u m) (hv : Wd v m) (h : u.length < v.length) : key m u < key m v := by
  have h1 := (key_len hm u hu).2
  have h2 := (key_len hm v hv).1
  have := kst_mono hm (show u.length + 1 ≤ v.length from h)
  omega
end Go.Proofs.Ytmlnknngpdnepaa.Df
