/- compare.next, compare.Least, slices.Reverse. Own work. -/
import Derived.Test.YthgdobdhdfjhfaaMean3
namespace Go.Proofs.Ythgdobdhdfjhfaa.Gr
open Go Go.Ab Go.Pu
/-- A word as a number. -/
def Va (t : Nat) (l : List Int) : Nat := l.foldl (fun a d => a * t + d.toNat) 0
theorem va_from {t : Nat} : ∀ (l : List Int) (a : Nat), l.foldl (fun a d => a * t + d.toNat) a = a * t ^ l.length + Va t l := by
  intro l
  induction l with
  | nil => intro a; simp [Va]
  | cons d l ih =>
    intro a
    have e : Va t (d :: l) = (0 * t + d.toNat) * t ^ l.length + Va t l := ih _
    rw [List.foldl_cons, ih, e, List.length_cons, Nat.pow_succ, Nat.zero_mul, Nat.zero_add, Nat.add_mul, Nat.mul_assoc, Nat.mul_comm t, Nat.add_assoc]
theorem va_app {t : Nat} (a b : List Int) : Va t (a ++ b) = Va t a * t ^ b.length + Va t b := by
  unfold Va; rw [List.foldl_append]; exact va_from b _
theorem va_cons {t : Nat} (d : Int) (l : List Int) : Va t (d :: l) = d.toNat * t ^ l.length + Va t l := by
  have := va_app (t := t) [d] l
  simpa [Va] using this
theorem va_lt {t : Nat} : ∀ (l : List Int), (∀ x ∈ l, x.toNat < t) → Va t l < t ^ l.length := by
  intro l
  induction l with
  | nil => intro _; simp [Va]
  | cons d l ih =>
    intro h
    have h1 := h d (by simp)
    have h2 := ih fun x hx => h x (List.mem_cons_of_mem _ hx)
    rw [va_cons, List.length_cons, Nat.pow_succ, Nat.mul_comm (t ^ l.length)]
    have := Nat.mul_le_mul_right (t ^ l.length) (show d.toNat + 1 ≤ t from h1)
    rw [Nat.add_mul] at this; omega
theorem va_zero {t : Nat} (n : Nat) : Va t (List.replicate n 0) = 0 := by
  induction n with
  | zero => rfl
  | succ n ih => rw [List.replicate_succ, va_cons, ih]; simp
def Dg (t : Int) (w : List Int) : Prop := ∀ x ∈ w, 0 ≤ x ∧ x < t
theorem nextw_ok {t : Int} {w : List Int} {φ : Nat} (ht : 1 ≤ t) (ht2 : t ≤ 1000) (hw : Dg t w) (hn : w.length ≤ 1000) (hφ : w.length < φ) :
    Ok (P.compare_next φ w t) fun r => r.1.length = w.length ∧ Dg t r.1 ∧ (r.2 = true → Va t.toNat w < Va t.toNat r.1) := by
  unfold P.compare_next
  rw [W_id]
  refine Ok.bind (Q := fun | .out s => s.1.length = w.length ∧ Dg t s.1 | .rt r => r.1.length = w.length ∧ Dg t r.1 ∧ Va t.toNat w < Va t.toNat r.1)
    (whl_ok (fun s : List Int × Int => ∃ a b : List Int, w = a ++ b ∧ s = (a ++ List.replicate b.length 0, (a.length : Int) - 1)) (fun s => (s.2 + 1).toNat) ⟨w, [], by simp, by simp⟩ ?_ (by simp; omega)) ?_
  · rintro _ ⟨a, b, hab, rfl⟩
    have hl : a.length + b.length = w.length := by rw [hab, List.length_append]
    have hda : Dg t a := fun x hx => hw x (by rw [hab]; exact List.mem_append_left _ hx)
    have hdb : Dg t b := fun x hx => hw x (by rw [hab]; exact List.mem_append_right _ hx)
    have hz : ∀ n : Nat, Dg t (List.replicate n 0) := fun n x hx => by rw [(List.mem_replicate.1 hx).2]; omega
    unfold P.compare_next.b0
    refine .ite (fun h => ?_) fun h => .some ⟨by simp; omega, fun x hx => (List.mem_append.1 hx).elim (hda x) (hz _ x)⟩
    simp only at h
    obtain ⟨a', d, rfl⟩ : ∃ a' d, a = a' ++ [d] := by
      rcases List.eq_nil_or_concat a with e | ⟨a', d, e⟩
      · subst e; simp at h
      · exact ⟨a', d, by simpa using e⟩
    have hd := hda d (by simp)
    have e0 : ((a' ++ [d]).length : Int) - 1 = (a'.length : Nat) := by simp
    have hix : Pu.ix ((a' ++ [d]) ++ List.replicate b.length 0) (a'.length : Nat) = some d := by
      unfold Pu.ix; rw [if_pos (by omega)]; simp
    have hst : ∀ y : Int, Pu.st ((a' ++ [d]) ++ List.replicate b.length 0) (a'.length : Nat) y = a' ++ y :: List.replicate b.length 0 := by
      intro y; unfold Pu.st; simp
    dsimp only
    rw [e0, hix, Option.bind_some]
    rw [W_id (n := d + 1)]
    refine .ite (fun h2 => ?_) fun h2 => ?_
    · simp only [hix, Option.bind_some, hst]
      rw [W_id (n := d + 1)]
      refine .some ⟨by simp at hl ⊢; omega, fun x hx => ?_, ?_⟩
      · rcases List.mem_append.1 hx with hx | hx
        · exact hda x (List.mem_append_left _ hx)
        · rcases List.mem_cons.1 hx with rfl | hx
          · omega
          · exact hz _ x hx
      · have h3 := va_lt (t := t.toNat) b fun x hx => by have := hdb x hx; omega
        rw [hab, List.append_assoc, va_app, va_app a', List.singleton_append, va_cons, va_cons, va_zero]
        simp only [List.length_cons, List.length_replicate]
        have : (d + 1).toNat = d.toNat + 1 := by omega
        rw [this, Nat.add_mul]; omega
    · simp only [hix, Option.bind_some, hst]
      rw [W_id]
      refine .some ⟨⟨a', d :: b, by rw [hab]; simp, ?_⟩, by omega⟩
      simp [List.replicate_succ]
  · rintro (s | r) h
    · exact .some ⟨h.1, h.2, fun e => by cases e⟩
    · exact .some ⟨h.1, h.2.1, fun _ => h.2.2⟩
theorem words_ok {t n : Int} (h1 : 1 ≤ t) (h2 : t ≤ 3) (h3 : 0 ≤ n) (h4 : n ≤ 3) : Ok (P.compare_words t n) (· ≤ 500) := by
  obtain rfl | rfl | rfl : t = 1 ∨ t = 2 ∨ t = 3 := by omega
  all_goals obtain rfl | rfl | rfl | rfl : n = 0 ∨ n = 1 ∨ n = 2 ∨ n = 3 := by omega
  all_goals exact ⟨_, rfl, by decide⟩
end Go.Proofs.Ythgdobdhdfjhfaa.Gr
