/- Picking things of the list; elements that point to what stays; calls. Own work. -/
import Derived.Test.YtbehlbabgomhfaaSl4
namespace Go.Ab
open Go Go.Pu

section
variable {Z V : PH} {H : Hp} {L : List It}
def nodupB : List Nat → Bool
  | [] => true
  | a :: l => !(l.contains a) && nodupB l
theorem nodupB_get : ∀ {l : List Nat}, nodupB l = true → ∀ (i j a : Nat), l[i]? = some a → l[j]? = some a → i = j
  | [], _, i, j, a, h, _ => by simp at h
  | b :: l, h, i, j, a, hi, hj => by
    simp only [nodupB, Bool.and_eq_true, Bool.not_eq_true', List.contains_eq_mem, decide_eq_false_iff_not] at h
    cases i with
    | zero => cases j with
      | zero => rfl
      | succ j => simp at hi hj; subst hi; exact absurd (List.mem_of_getElem? hj) h.1
    | succ i => cases j with
      | zero => simp at hi hj; subst hj; exact absurd (List.mem_of_getElem? hi) h.1
      | succ j => simp at hi hj; rw [nodupB_get h.2 i j a hi hj]
def pickL (L : List It) (is : List Nat) : List It := is.map fun i => (L[i]?).getD It.tt
theorem Sat.pick (is : List Nat) (hn : (nodupB is && is.all fun i => Nat.blt i L.length) = true) (h : Sat Z V H L) : Sat Z V H (pickL L is) := by
  rw [Bool.and_eq_true] at hn
  obtain ⟨hn, hb⟩ := hn
  have hlt : ∀ i, i ∈ is → i < L.length := fun i hi => by
    have := List.all_eq_true.1 hb i hi
    exact Nat.le_of_ble_eq_true this
  refine h.sel (fun i => (is[i]?).getD (L.length + i)) (fun i j e => ?_) (fun i t e => ?_)
  · cases hi : is[i]? with
    | none => cases hj : is[j]? with
      | none => rw [hi, hj] at e; simp at e; exact e
      | some b => rw [hi, hj] at e; simp at e; have := hlt b (List.mem_of_getElem? hj); omega
    | some a => cases hj : is[j]? with
      | none => rw [hi, hj] at e; simp at e; have := hlt a (List.mem_of_getElem? hi); omega
      | some b => rw [hi, hj] at e; simp at e; subst e; exact nodupB_get hn i j a hi hj
  · unfold pickL at e
    rw [List.getElem?_map] at e
    cases hi : is[i]? with
    | none => rw [hi] at e; simp at e
    | some a =>
      rw [hi] at e
      have := hlt a (List.mem_of_getElem? hi)
      simp [this] at e
      simp [this, e]
section
variable {α : Type} {s : Sh α} {v : Value} {xs : List α}
/-- An element that points to what stays. -/
theorem Sat.elem (n : Nat) (ht : L[n]? = some (It.sl s.ro v xs)) (h : Sat Z V H L) {sz : Nat} (hz : s.sz = sz) {j : Int} {u : α} (hj : ix xs j = some u) {p : Value} (hp : vidxs sz v (vi j) = some p) :
    ∃ Y W cs, Gw Z V Y W ∧ Sat Y W H L ∧ s.rd Y cs u ∧ ∀ agg, vload H sz agg p = mkv agg cs := by
  subst hz
  obtain ⟨h1, h2, h3⟩ := ix_lt hj
  have hlt : j.toNat < xs.length := by omega
  obtain ⟨Y, W, gw, yw, wh, hs, e, f, k, m⟩ := h.norm'
  rcases m n _ ht with ⟨rfl, rfl⟩ | ⟨b, o, us, hs', rfl, q2, q3, q4, q5, q6, q7⟩
  · simp at h2; omega
  · refine ⟨Y, W, _, gw, Sat.mk' yw wh e f k m, q7 _ u h3, fun agg => ?_⟩
    rw [V_idxs, if_pos ⟨h1, h2⟩] at hp
    cases hp
    simp only [vload, Option.isNone_none, if_true, Hp.load, show Hp.cells H b = some us by rw [cells_of (ph_get (e n) q2)]; rfl]
    have q3' : o + j.toNat * s.sz + s.sz ≤ us.length := chk_at hlt q3.1
    rw [if_pos q3']; rfl
variable {T : FuncId → Option AFunc} {Q : AX → Tm → Hp → Prop} {K : List Fk} {tm : Tm} {l : List DOp} {sl : List Nat} {t : Nat}
theorem o_ldo {x : Operand} {j : Int} {u : α} {sz : Nat} {p : Value} {g : Bool} (n : Nat) (hS : Sat Z V H L) (ht : L[n]? = some (It.sl s.ro v xs)) (hx : ev tm x = p) (hz : s.sz = sz) (hp : vidxs sz v (vi j) = some p) (hj : ix xs j = some u)
    (k : ∀ Y W cs, Gw Z V Y W → Sat Y W H L → s.rd Y cs u → ∃ w, mkv g cs = some w ∧ R T Q (.ops l :: K) .normal (ub tm t w) H) : R T Q (.ops (⟨some t, .load sz g x, none, sl⟩ :: l) :: K) .normal tm H := by
  obtain ⟨Y, W, cs, g1, h1, h2, h3⟩ := hS.elem n ht hz hj hp
  obtain ⟨w, h4, h5⟩ := k Y W cs g1 h1 h2
  exact o_of rfl (by rw [A_load, hx, h3, h4]; rfl) h5
theorem o_ldos {x : Operand} {j : Int} {u : List α} {p : Value} {xs : List (List α)} (n : Nat) (hS : Sat Z V H L) (ht : L[n]? = some (It.sl s.sl.ro v xs)) (hx : ev tm x = p) (hp : vidxs 1 v (vi j) = some p) (hj : ix xs j = some u)
    (k : ∀ Y W w, Gw Z V Y W → Sat Y W H L → RdS s Y w u → R T Q (.ops l :: K) .normal (ub tm t w) H) : R T Q (.ops (⟨some t, .load 1 false x, none, sl⟩ :: l) :: K) .normal tm H :=
  o_ldo n hS ht hx rfl hp hj fun Y W cs g h1 h2 => by obtain ⟨w, rfl, h2⟩ := h2; exact ⟨w, rfl, k Y W w g h1 h2⟩
theorem o_ldoa {x : Operand} {j : Int} {u : α} {sz : Nat} {p : Value} (n : Nat) (hS : Sat Z V H L) (ht : L[n]? = some (It.sl s.ro v xs)) (hx : ev tm x = p) (hz : s.sz = sz) (hp : vidxs sz v (vi j) = some p) (hj : ix xs j = some u)
    (k : ∀ Y W cs, Gw Z V Y W → Sat Y W H L → s.rd Y cs u → R T Q (.ops l :: K) .normal (ub tm t (.agg cs.toArray)) H) : R T Q (.ops (⟨some t, .load sz true x, none, sl⟩ :: l) :: K) .normal tm H :=
  o_ldo n hS ht hx hz hp hj fun Y W cs g h1 h2 => ⟨_, rfl, k Y W cs g h1 h2⟩
theorem sl_nil : ∀ F : PH, Z.le F → (It.sl s (.slice none 0 0) []).P F .emp := fun _ _ => .inl ⟨rfl, rfl⟩
theorem ro_it {cs : List Value} {x : α} (h : s.rd Z cs x) : ∀ F : PH, Z.le F → (s.ro.it cs x).P F .emp := fun _ hF => s.rd_mono hF h
theorem sl_ro {v : Value} {xs : List α} (h : RdS s Z v xs) : s.sl.rd Z [v] xs := ⟨v, rfl, h⟩
theorem Sat.frzR {v : Value} {xs : List α} (h : Sat Z V H (s.sl.ro.it [v] xs :: L)) : ∃ Y W : PH, Gw Z V Y W ∧ Sat Y W H L ∧ RdS s Y v xs := by
  obtain ⟨Y, W, a, b, w, e, c⟩ := h.frz 0 rfl
  cases e
  exact ⟨Y, W, a, b, c⟩
end
end
end Go.Ab
