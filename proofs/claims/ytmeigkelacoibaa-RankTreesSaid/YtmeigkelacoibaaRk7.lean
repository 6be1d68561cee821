import Derived.Test.YtmeigkelacoibaaRk4
import Derived.Test.YtmeigkelacoibaaTree0
namespace Go.Proofs.Ytmeigkelacoibaa.Gr
open Go Go.Ab Go.Pu
section
variable {R : List Ru} {N : List (List Int)}
theorem Nb1.mk' {s j i : Nat} {x : Int} {r : Ru} {kids : List Ty.A4} {y : Int} (hr : R[i]? = some r) (hk : Nb R N s kids r.Right j y) (y0 : 0 ≤ y) (y1 : y < wI N r.Right j) (o0 : 0 ≤ off R N r.Left j i) (o1 : off R N r.Left j i + y < sI N ⟨false, r.Left⟩ j) (o2 : sI N ⟨false, r.Left⟩ j < MC) (hx : x = off R N r.Left j i + y) :
 Nb1 R N (s + 1) ⟨(i : Int), 0, kids⟩ r.Left j x i := ⟨r, kids, s, y, rfl, rfl, hr, rfl, hk, y0, y1, o0, o1, o2, hx⟩
theorem nb_fn {s k : Nat} {x : Int} {ts : List Ty.A4} {l : List Sy} (h : Nb R N s ts l k x) : ∀ {s' k' : Nat} {x' : Int}, Nb R N s' ts l k' x' → k = k' ∧ x = x' := by
 induction h with
 | nil => intro s' k' x' h'; cases h'; exact ⟨rfl, rfl⟩
 | leaf _ _ _ ih =>
   intro s' k' x' h'
   cases h' with
   | leaf a _ _ => obtain ⟨rfl, rfl⟩ := ih a; exact ⟨rfl, rfl⟩
 | @node s1 s2 i j k y z r kids ts l hr _ _ _ _ _ _ _ _ _ ih1 ih2 =>
   intro s' k' x' h'
   generalize ht : (⟨(i : Int), 0, kids⟩ : Ty.A4) :: ts = tt at h'
   generalize hl : (⟨false, r.Left⟩ : Sy) :: l = ll at h'
   cases h' with
   | nil => cases ht
   | leaf _ _ _ => simp at hl
   | @node s1' s2' i' j' k' y' z' r' kids' ts' l' hr' a1 _ _ _ _ _ b1 _ _ =>
     simp only [List.cons.injEq, Ty.A4.mk.injEq, true_and, Int.natCast_inj] at ht
     obtain ⟨⟨rfl, rfl⟩, rfl⟩ := ht
     rw [hr] at hr'; cases hr'
     cases hl
     obtain ⟨rfl, rfl⟩ := ih1 a1
     obtain ⟨rfl, rfl⟩ := ih2 b1
     exact ⟨rfl, rfl⟩
end
section
variable {g : Ty.B2} {N : List (List Int)} {n : Nat}
theorem nb1_of (E : Env g N n) {i j : Nat} {r : Ru} (hr : g.Rules[i]? = some r) {d s : Nat} {kids : List Ty.A4} {v : List Int} (h : Tr g.Rules d s kids r.Right v) (hv : v.length = j) (hj : j ≤ n) (h1 : sI N ⟨false, r.Left⟩ j ≠ 0 → sI N ⟨false, r.Left⟩ j ≠ -1 ∧ sI N ⟨false, r.Left⟩ j < MC)
 (ih : Fn N r.Right j → ∃ s' y, Nb g.Rules N s' kids r.Right j y ∧ 0 ≤ y ∧ y < wI N r.Right j) :
 ∃ s' x, Nb1 g.Rules N s' ⟨(i : Int), 0, kids⟩ r.Left j x i ∧ 0 ≤ x ∧ x < sI N ⟨false, r.Left⟩ j ∧ ∃ s1 y, Nb g.Rules N s1 kids r.Right j y ∧ 0 ≤ y ∧ y < wI N r.Right j ∧ 0 ≤ off g.Rules N r.Left j i ∧ x = off g.Rules N r.Left j i + y := by
 have hrm := List.mem_of_getElem? hr
 have hi := (List.getElem?_eq_some_iff.1 hr).1
 obtain ⟨a0, a1⟩ := E.v.lft r hrm
 have hc := E.c r.Left j a0 a1 hj
 have e : sI N ⟨false, r.Left⟩ j = el2 N r.Left (j : Int) := rfl
 have hne : sI N ⟨false, r.Left⟩ j ≠ 0 := by
  rw [e]
  exact hc.zero.2 (Le.non_iff.2 ⟨r, hrm, rfl, hv ▸ h.le⟩)
 obtain ⟨h2, h3⟩ := h1 hne
 rw [e] at h2 h3
 obtain ⟨c, e1, hn⟩ := num_of hc h2 h3
 obtain ⟨hfn, hsum⟩ := rules_ok E.c E.nons hn hj
 have hnn : ∀ r' ∈ g.Rules, r'.Left = r.Left → 0 ≤ wI N r'.Right j := fun r' hr' e => (hfn r' hr' e).nonneg
 obtain ⟨s1, y, b1, b2, b3⟩ := ih (hfn r hrm rfl)
 have o1 := off_le hnn (show i + 1 ≤ g.Rules.length by omega) (Nat.le_refl _)
 have o2 := off_le hnn (show i ≤ g.Rules.length by omega) (Nat.le_refl _)
 have o3 := off_succ (N := N) (a := r.Left) (k := j) hr
 rw [if_pos rfl] at o3
 have htot : off g.Rules N r.Left j g.Rules.length = c := by rw [off_len]; exact hsum
 have hs : sI N ⟨false, r.Left⟩ j = c := by rw [e, e1]
 have hlt : off g.Rules N r.Left j i + y < sI N ⟨false, r.Left⟩ j := by omega
 exact ⟨s1 + 1, _, .mk' hr b1 b2 b3 o2.1 hlt (by rw [e]; exact h3) rfl, by omega, hlt, s1, y, b1, b2, b3, o2.1, rfl⟩
theorem nb_of (E : Env g N n) {d s : Nat} {ts : List Ty.A4} {l : List Sy} {w : List Int} (h : Tr g.Rules d s ts l w) : ∀ {k : Nat}, w.length = k → k ≤ n → Fn N l k → ∃ s' x, Nb g.Rules N s' ts l k x ∧ 0 ≤ x ∧ x < wI N l k := by
 induction h with
 | nil => intro k hk _ _; subst hk; exact ⟨0, 0, .nil, by omega, by simp [wI]⟩
 | @leaf d s m ts l w _ ih =>
   intro k hk hn hf
   simp only [List.length_cons] at hk; subst hk
   obtain ⟨hfl, -⟩ := hf.1 1 (by omega) (by simp [sI])
   rw [Nat.add_sub_cancel] at hfl
   obtain ⟨s', x, a, b, c⟩ := ih rfl (by omega) hfl
   refine ⟨_, _, .leaf a b c, b, ?_⟩
   have := hf.part_le (j := 1) (by omega)
   rw [Nat.add_sub_cancel, show sI N ⟨true, m⟩ 1 = 1 by simp [sI], Int.one_mul] at this
   omega
 | @node d s1 s2 i r kids ts l v w hr h1 h2 ih1 ih2 =>
   intro k hk hn hf
   rw [List.length_append] at hk; subst hk
   have hrm := List.mem_of_getElem? hr
   obtain ⟨a0, a1⟩ := E.v.lft r hrm
   have e : sI N ⟨false, r.Left⟩ v.length = el2 N r.Left (v.length : Int) := rfl
   have hne : sI N ⟨false, r.Left⟩ v.length ≠ 0 := by
    rw [e]
    exact (E.c r.Left v.length a0 a1 (by omega)).zero.2 (Le.non_iff.2 ⟨r, hrm, rfl, h1.le⟩)
   obtain ⟨hfl, -⟩ := hf.1 v.length (by omega) hne
   rw [Nat.add_sub_cancel_left] at hfl
   obtain ⟨s2', z, b1, b2, b3⟩ := ih2 rfl (by omega) hfl
   obtain ⟨p1, p2⟩ := hf.sym (j := v.length) (by omega) hne (by rw [Nat.add_sub_cancel_left]; omega)
   obtain ⟨s', x, q, x0, x1, s1', y, c1, c2, c3, c4, rfl⟩ := nb1_of E hr h1 rfl (by omega) (fun _ => ⟨by omega, p2⟩) fun hfr => ih1 rfl (by omega) hfr
   refine ⟨_, _, .node hr c1 c2 c3 c4 x1 p2 b1 b2 b3, ?_⟩
   have hnn : ∀ m, m < v.length + w.length + 1 → 0 ≤ sI N ⟨false, r.Left⟩ m * wI N l (v.length + w.length - m) := fun m hm => hf.part (by omega)
   have l0 := ps_le hnn (show v.length ≤ v.length + w.length + 1 by omega)
   have l1 := ps_le hnn (show v.length + 1 ≤ v.length + w.length + 1 by omega)
   have l2 : ps (fun j => sI N ⟨false, r.Left⟩ j * wI N l (v.length + w.length - j)) (v.length + 1) = ps (fun j => sI N ⟨false, r.Left⟩ j * wI N l (v.length + w.length - j)) v.length + sI N ⟨false, r.Left⟩ v.length * wI N l (v.length + w.length - v.length) := rfl
   rw [Nat.add_sub_cancel_left] at l2
   rw [wI_eq]
   have m1 : (off g.Rules N r.Left v.length i + y + 1) * wI N l w.length ≤ sI N ⟨false, r.Left⟩ v.length * wI N l w.length := Int.mul_le_mul_of_nonneg_right (by omega) (by omega)
   rw [Int.add_mul, Int.one_mul] at m1
   have m2 : 0 ≤ (off g.Rules N r.Left v.length i + y) * wI N l w.length := Int.mul_nonneg (by omega) (by omega)
   omega
theorem mul_uniq {W a a' z z' : Int} (z0 : 0 ≤ z) (z1 : z < W) (z0' : 0 ≤ z') (z1' : z' < W) (h : a * W + z = a' * W + z') : a = a' ∧ z = z' := by
 have h1 : (a * W + z) / W = a := by rw [Int.add_comm, Int.add_mul_ediv_right _ _ (by omega), Int.ediv_eq_zero_of_lt z0 z1]; omega
 have h2 : (a' * W + z') / W = a' := by rw [Int.add_comm, Int.add_mul_ediv_right _ _ (by omega), Int.ediv_eq_zero_of_lt z0' z1']; omega
 have : a = a' := by rw [← h1, ← h2, h]
 subst this
 exact ⟨rfl, by omega⟩
theorem off_uniq {R : List Ru} {a : Int} {k i i' : Nat} {r r' : Ru} {y y' : Int} (hnn : ∀ r ∈ R, r.Left = a → 0 ≤ wI N r.Right k) (hr : R[i]? = some r) (hr' : R[i']? = some r') (ha : r.Left = a) (ha' : r'.Left = a) (y0 : 0 ≤ y) (y1 : y < wI N r.Right k) (y0' : 0 ≤ y') (y1' : y' < wI N r'.Right k) (h : off R N a k i + y = off R N a k i' + y') : i = i' := by
 have hi := (List.getElem?_eq_some_iff.1 hr).1
 have hi' := (List.getElem?_eq_some_iff.1 hr').1
 have o := off_succ (N := N) (a := a) (k := k) hr
 have o' := off_succ (N := N) (a := a) (k := k) hr'
 rw [if_pos ha] at o
 rw [if_pos ha'] at o'
 rcases Nat.lt_trichotomy i i' with q | q | q
 ·have := (off_le hnn (show i + 1 ≤ i' by omega) (by omega)).2; omega
 ·exact q
 ·have := (off_le hnn (show i' + 1 ≤ i by omega) (by omega)).2; omega
theorem nb_inj (E : Env g N n) {s k : Nat} {x : Int} {ts : List Ty.A4} {l : List Sy} (h : Nb g.Rules N s ts l k x) : ∀ {s' : Nat} {ts' : List Ty.A4}, Nb g.Rules N s' ts' l k x → k ≤ n → Fn N l k → ts = ts' := by
 induction h with
 | nil => intro s' ts' h' _ _; have := h'.len; exact (List.eq_nil_of_length_eq_zero this).symm
 | @leaf s k m z ts l h1 _ _ ih =>
   intro s' ts' h' hk hf
   obtain ⟨hfl, -⟩ := hf.1 1 (by omega) (by simp [sI])
   rw [Nat.add_sub_cancel] at hfl
   generalize hkk : k + 1 = kk at h'
   cases h' with
   | @leaf s3 k3 _ _ ts3 _ a _ _ =>
     obtain rfl : k = k3 := by omega
     rw [ih a (by omega) hfl]
 | @node s1 s2 i j k y z r kids ts l hr hks y0 y1 o0 o1 o2 h2 z0 z1 ih1 ih2 =>
   intro s' ts' h' hk hf
   generalize hxx : (ps (fun j' => sI N ⟨false, r.Left⟩ j' * wI N l (j + k - j')) j + (off g.Rules N r.Left j i + y) * wI N l k + z) = xx at h'
   generalize hkk : j + k = kk at h' hf
   generalize hl : (⟨false, r.Left⟩ : Sy) :: l = ll at h'
   cases h' with
   | nil => cases hl
   | leaf _ _ _ => simp at hl
   | @node s1' s2' i' j' k' y' z' r' kids' ts' l' hr' hks' y0' y1' o0' o1' o2' h2' z0' z1' =>
     simp only [List.cons.injEq, Ty.D1.mk.injEq, true_and] at hl
     obtain ⟨hl1, rfl⟩ := hl
     rw [← hl1] at o0' o1' o2'
     rw [← hkk] at hf
     have hnn : ∀ m, m < j + k + 1 → 0 ≤ sI N ⟨false, r.Left⟩ m * wI N l (j + k - m) := fun m hm => hf.part (by omega)
     rw [← hkk, ← hl1] at hxx
     have up : ∀ {j k : Nat} {a z : Int}, a < sI N ⟨false, r.Left⟩ j → z < wI N l k → 0 ≤ z → a * wI N l k + z < sI N ⟨false, r.Left⟩ j * wI N l k := by
      intro j k a z ha hz hz0
      have m1 : (a + 1) * wI N l k ≤ sI N ⟨false, r.Left⟩ j * wI N l k := Int.mul_le_mul_of_nonneg_right (by omega) (by omega)
      rw [Int.add_mul, Int.one_mul] at m1
      omega
     have u1 := up o1 z1 z0
     have u2 := up o1' z1' z0'
     have m2 : 0 ≤ (off g.Rules N r.Left j i + y) * wI N l k := Int.mul_nonneg (by omega) (by omega)
     have m2' : 0 ≤ (off g.Rules N r.Left j' i' + y') * wI N l k' := Int.mul_nonneg (by omega) (by omega)
     have l1 : ps (fun j' => sI N ⟨false, r.Left⟩ j' * wI N l (j + k - j')) (j + 1) = ps (fun j' => sI N ⟨false, r.Left⟩ j' * wI N l (j + k - j')) j + sI N ⟨false, r.Left⟩ j * wI N l (j + k - j) := rfl
     have l1' : ps (fun j' => sI N ⟨false, r.Left⟩ j' * wI N l (j + k - j')) (j' + 1) = ps (fun j' => sI N ⟨false, r.Left⟩ j' * wI N l (j + k - j')) j' + sI N ⟨false, r.Left⟩ j' * wI N l (j + k - j') := rfl
     rw [Nat.add_sub_cancel_left] at l1
     rw [show j + k - j' = k' by omega] at l1'
     have ej : j = j' := by
      rcases Nat.lt_trichotomy j j' with q | q | q
      ·have := (ps_le (m := j') (fun m hm => hnn m (by omega)) (show j + 1 ≤ j' by omega)).2; omega
      ·exact q
      ·have := (ps_le (m := j) (fun m hm => hnn m (by omega)) (show j' + 1 ≤ j by omega)).2; omega
     subst ej
     obtain rfl : k = k' := by omega
     obtain ⟨e1, rfl⟩ := mul_uniq z0 z1 z0' z1' (show (off g.Rules N r.Left j i + y) * wI N l k + z = (off g.Rules N r.Left j i' + y') * wI N l k + z' by omega)
     have hrm := List.mem_of_getElem? hr
     obtain ⟨a0, a1⟩ := E.v.lft r hrm
     have e : sI N ⟨false, r.Left⟩ j = el2 N r.Left (j : Int) := rfl
     have o3 := o1
     have o4 := o2
     rw [e] at o3 o4
     obtain ⟨c, ec, hn⟩ := num_of (E.c r.Left j a0 a1 (by omega)) (by omega) o4
     obtain ⟨hfn, -⟩ := rules_ok E.c E.nons hn (by omega)
     obtain rfl := off_uniq (fun r' hr' e => (hfn r' hr' e).nonneg) hr hr' rfl hl1.symm y0 y1 y0' y1' e1
     rw [hr] at hr'; cases hr'
     obtain rfl : y = y' := by omega
     obtain ⟨hfl, -⟩ := hf.1 j (by omega) (by omega)
     rw [Nat.add_sub_cancel_left] at hfl
     rw [ih1 hks' (by omega) (hfn r hrm rfl), ih2 h2' (by omega) hfl]
theorem Nb1.inj (E : Env g N n) {s s' i i' j : Nat} {t t' : Ty.A4} {a x : Int} (h : Nb1 g.Rules N s t a j x i) (h' : Nb1 g.Rules N s' t' a j x i') (hj : j ≤ n) : t = t' := by
 obtain ⟨r, kids, s1, y, -, rfl, hr, rfl, b1, b2, b3, b4, b5, b6, e⟩ := h.h
 obtain ⟨r', kids', s1', y', -, rfl, hr', hra, b1', b2', b3', b4', b5', b6', e'⟩ := h'.h
 have hrm := List.mem_of_getElem? hr
 obtain ⟨a0, a1⟩ := E.v.lft r hrm
 have es : sI N ⟨false, r.Left⟩ j = el2 N r.Left (j : Int) := rfl
 rw [es] at b5 b6
 obtain ⟨c, ec, hn⟩ := num_of (E.c r.Left j a0 a1 hj) (by omega) b6
 obtain ⟨hfn, -⟩ := rules_ok E.c E.nons hn hj
 obtain rfl := off_uniq (fun r' hr' e => (hfn r' hr' e).nonneg) hr hr' rfl hra b2 b3 b2' b3' (by omega)
 rw [hr] at hr'; cases hr'
 obtain rfl : y = y' := by omega
 rw [nb_inj E b1 b1' hj (hfn r hrm rfl)]
theorem Nb1.fn {R : List Ru} {s s' i i' j : Nat} {t : Ty.A4} {a x x' : Int} (h : Nb1 R N s t a j x i) (h' : Nb1 R N s' t a j x' i') : x = x' := by
 obtain ⟨r, kids, s1, y, -, rfl, hr, rfl, b1, -, -, -, -, -, rfl⟩ := h.h
 obtain ⟨r', kids', s1', y', -, e, hr', hra, b1', -, -, -, -, -, rfl⟩ := h'.h
 simp only [Ty.A4.mk.injEq, true_and, Int.natCast_inj] at e
 obtain ⟨rfl, rfl⟩ := e
 rw [hr] at hr'; cases hr'
 obtain ⟨-, rfl⟩ := nb_fn b1 b1'
 rfl
end
end Go.Proofs.Ytmeigkelacoibaa.Gr
