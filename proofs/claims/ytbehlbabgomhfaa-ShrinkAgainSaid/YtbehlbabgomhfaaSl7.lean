/- The rules once more, for regions that draw their order (printed by wip/tools/mkd.py). Own work. -/
import Derived.Test.YtbehlbabgomhfaaSl6
namespace Go.Ab
open Go Go.Pu

variable {T : FuncId → Option AFunc} {Q : AX → Tm → Hp → Prop} {K : List Fk} {tm : Tm} {H : Hp} {l : List DOp} {sl : List Nat} {t : Nat} {base m ri : Nat} {all : List DOp} {pr : List (Nat × Nat)} {tr : List St}

/-- The slots from number i on are still free. -/
def DD (base i0 m : Nat) (H : Hp) : Prop := ∀ j, i0 ≤ j → j < m → H[base + j]? = some .dead
theorem DD.get {i0 : Nat} (h : DD base i0 m H) (j : Nat) (h1 : Nat.ble i0 j = true) (h2 : Nat.blt j m = true) : H[base + j]? = some .dead := h j (Nat.le_of_ble_eq_true h1) (Nat.le_of_ble_eq_true h2)
theorem DD.keep {i0 : Nat} {H' : Hp} (h : DD base i0 m H) (k : Keeps H H') : DD base i0 m H' := fun j h1 h2 => k.2.1 _ (h j h1 h2)
theorem DD.next {i0 : Nat} {H' : Hp} (h : DD base i0 m H) (j : Nat) (hj : Nat.ble i0 j = true) (k : ∀ b, b ≠ base + j → H'[b]? = H[b]?) : DD base (j + 1) m H' := fun a h1 h2 => by
  rw [k _ (by omega)]; exact h a (by have := Nat.le_of_ble_eq_true hj; omega) h2
/-- A slice over a block from before the region. -/
def BLow (base : Nat) (v : Value) : Prop := ∀ a n c, v = .slice (some a) n c → a.block < base
theorem RdS.low {α : Type} {s : Sh α} {Z : PH} {v : Value} {xs : List α} (h : RdS s Z v xs) {H0 : Hp} (hZ : Z.le (Hp.ph H0)) (lb : ∀ b x, Hp.ph H0 b = some x → b < base) : BLow base v := by
  intro a n c e
  rcases h with ⟨rfl, -⟩ | ⟨b', o', us, x, rfl, h2, -⟩
  · cases e
  · cases e; exact lb _ _ (hZ _ _ h2)
def isPL (o : AOp) : Bool := match kindOf o with | .pure => true | .loud => true | _ => false
theorem d_aux {o : AOp} {dst : Option Nat} {v : Value} {H1 : Hp} (hk : isPL o = true) (hc : calls o = false) (h : aop o tm H = some (v, H1)) : dstep (fun _ _ _ => none) base m ri ⟨dst, o, none, sl⟩ (tm, H) = some (v, H1) := by
  unfold isPL at hk
  simp only [dstep, want, if_true]
  cases hq : kindOf o <;> rw [hq] at hk <;> simp only at hk ⊢
  · exact h
  · cases hk
  · cases hk
  · rw [arun_calm hc]; exact h
theorem d_of {o : AOp} (hk : isPL o = true) (hc : calls o = false) {v : Value} {H1 : Hp} (h : aop o tm H = some (v, H1)) (k : R T Q (.dops base m all pr (ri + 1) (tr ++ [(tm, H)]) l :: K) .normal (ub tm t v) H1) : R T Q (.dops base m all pr ri tr (⟨some t, o, none, sl⟩ :: l) :: K) .normal tm H := by
  rw [R_dop hc, d_aux hk hc h, Dx_some, put_some, upd_ub]; exact k
theorem d_of0 {o : AOp} (hk : isPL o = true) (hc : calls o = false) {v : Value} {H1 : Hp} (h : aop o tm H = some (v, H1)) (k : R T Q (.dops base m all pr (ri + 1) (tr ++ [(tm, H)]) l :: K) .normal tm H1) : R T Q (.dops base m all pr ri tr (⟨none, o, none, sl⟩ :: l) :: K) .normal tm H := by
  rw [R_dop hc, d_aux hk hc h, Dx_some, put_none]; exact k
theorem d_rd {o : AOp} (hk : kindOf o = .read) (hr : rdOk base m ⟨some t, o, none, sl⟩ tm = true) {v : Value} (h : aop o tm H = some (v, H)) (k : R T Q (.dops base m all pr (ri + 1) (tr ++ [(tm, H)]) l :: K) .normal (ub tm t v) H) : R T Q (.dops base m all pr ri tr (⟨some t, o, none, sl⟩ :: l) :: K) .normal tm H := by
  have hc : calls o = false := by cases o <;> first | rfl | cases hk
  rw [R_dop hc]
  have : dstep (fun _ _ _ => none) base m ri ⟨some t, o, none, sl⟩ (tm, H) = some (v, H) := by simp only [dstep, want, if_true, hk, hr]; exact h
  rw [this, Dx_some, put_some, upd_ub]; exact k
theorem d_nw {o : AOp} (hk : kindOf o = .new) {v : Value} {b : Blk} (h : anew o tm (base + ri) = some (v, b)) (k : R T Q (.dops base m all pr (ri + 1) (tr ++ [(tm, H)]) l :: K) .normal (ub tm t v) (H.set (base + ri) b)) : R T Q (.dops base m all pr ri tr (⟨some t, o, none, sl⟩ :: l) :: K) .normal tm H := by
  have hc : calls o = false := by cases o <;> first | rfl | cases hk
  rw [R_dop hc]
  have : dstep (fun _ _ _ => none) base m ri ⟨some t, o, none, sl⟩ (tm, H) = some (v, H.set (base + ri) b) := by simp only [dstep, want, if_true, hk, h]; rfl
  rw [this, Dx_some, put_some, upd_ub]; exact k
theorem d_start {Z V : PH} {L : List It} (hS : Sat Z V H L) (k : ∀ base Hd, Sat Z V Hd L → (∀ b x, Hp.ph Hd b = some x → b < base) → DD base 0 l.length Hd → R T Q (.dops base l.length l pr 0 [] l :: K) .normal tm Hd) : R T Q (.code (.draw l pr) :: K) .normal tm H := by
  refine R_draw' fun Hd h1 h2 h3 => k H.length Hd (hS.up fun b x e => ?_) (fun b x e => ?_) fun j _ hj => h3 _ (by omega) (by omega)
  · have := ph_some.1 e
    exact ph_some.2 ⟨(h2 b (lt_of_get this.1)).trans this.1, this.2⟩
  · have h4 := ph_some.1 e
    have h5 := lt_of_get h4.1
    rcases Nat.lt_or_ge b H.length with q | q
    · exact q
    · have := h3 b q (by omega)
      rw [h4.1] at this; cases this; exact absurd rfl h4.2
theorem DD.up {i0 i1 : Nat} (h : DD base i0 m H) (e : Nat.ble i0 i1 = true) : DD base i1 m H := fun j h1 h2 => h j (by have := Nat.le_of_ble_eq_true e; omega) h2
theorem d_jn (n : Nat) {I : Tm → Hp → Prop} (h : (∀ tm' H' tr', I tm' H' → R T Q (.dops base m all pr (ri + n) tr' (l.drop n) :: K) .normal tm' H') → R T Q (.dops base m all pr ri tr l :: K) .normal tm H)
    (k : ∀ tm' H' tr', I tm' H' → R T Q (.dops base m all pr (ri + n) tr' (l.drop n) :: K) .normal tm' H') : R T Q (.dops base m all pr ri tr l :: K) .normal tm H := h k
theorem d_nil (hp : pr.all (dcheck all (tr ++ [(tm, H)])) = true) (k : R T Q K .normal tm H) : R T Q (.dops base m all pr ri tr [] :: K) .normal tm H := R_dnil.2 ⟨hp, k⟩
/-- A reading gives the same again. -/
theorem tr0 : ([] : List St).length = 0 := rfl
theorem trl {tr : List St} {n : Nat} {x : St} (h : tr.length = n) : (tr ++ [x]).length = n + 1 := by simp [h]
theorem tre {tr : List St} {n : Nat} {x : St} (h : tr.length = n) : (tr ++ [x])[n]? = some x := by subst h; simp
theorem tra {tr : List St} {n : Nat} {s x : St} (h : tr[n]? = some s) : (tr ++ [x])[n]? = some s := by rw [List.getElem?_append_left (List.getElem?_eq_some_iff.1 h).1]; exact h
theorem dc_nil {ops : List DOp} {tr : List St} : ([] : List (Nat × Nat)).all (dcheck ops tr) = true := rfl
theorem dc_mk {ops : List DOp} {tr : List St} {a b : Nat} {o : DOp} {s x y : St} {ps : List (Nat × Nat)} (h1 : ops[a]? = some o) (h2 : tr[a]? = some s) (h3 : tr[b]? = some x) (h4 : tr[b + 1]? = some y) (h5 : again o s x.2 = true) (h6 : again o s y.2 = true) (k : ps.all (dcheck ops tr) = true) :
    ((a, b) :: ps).all (dcheck ops tr) = true := by
  rw [List.all_cons, k, Bool.and_true]
  simp only [dcheck, h1, h2, h3, h4, h5, h6, Bool.and_self]
theorem w_y {tm : Tm} {g : Nat} {b x : Bool} (hg : tm g = .bool x) (hx : x = b) : want tm (some (g, b)) = true := by simp [want, hg, hx]
theorem w_n {tm : Tm} {g : Nat} {b x : Bool} (hg : tm g = .bool x) (hx : x = !b) : want tm (some (g, b)) = false := by rw [want, hg, hx]; cases b <;> rfl
theorem w_u {tm : Tm} {g : Nat} {b : Bool} (hg : tm g = undef) : want tm (some (g, b)) = false := by rw [want, hg]; rfl
theorem w_0 {tm : Tm} : want tm none = true := rfl
theorem ag_no {dst : Option Nat} {o : AOp} {G : Option (Nat × Bool)} {tm : Tm} {H H' : Hp} (hw : want tm G = false) : again ⟨dst, o, G, sl⟩ (tm, H) H' = true := by simp [again, hw]
theorem ag_ld {dst : Option Nat} {n : Nat} {g : Bool} {x : Operand} {tm : Tm} {H H' : Hp} {w : Value} {G : Option (Nat × Bool)} (hg : want tm G = true) (h : vload H n g (ev tm x) = some w) (h' : vload H' n g (ev tm x) = some w) (hw : vsame w w = true) : again ⟨dst, .load n g x, G, sl⟩ (tm, H) H' = true := by
  simp only [again, hg, if_true, A_load, h, h', Option.map_some, hw]
theorem ag_ldx {dst : Option Nat} {n : Nat} {g : Bool} {x : Operand} {tm : Tm} {H H' : Hp} {w p : Value} {G : Option (Nat × Bool)} (hg : want tm G = true) (hx : ev tm x = p) (h : vload H n g p = some w) (h' : vload H' n g p = some w) (hw : vsame w w = true) : again ⟨dst, .load n g x, G, sl⟩ (tm, H) H' = true := by
  subst hx; exact ag_ld hg h h' hw
theorem vload_det {α : Type} {s : Sh α} {Z : PH} {v : Value} {xs : List α} (h : RdS s Z v xs) {j : Int} {u : α} (hj : ix xs j = some u) {sz : Nat} (hz : s.sz = sz) {p : Value} (hp : vidxs sz v (vi j) = some p) :
    ∃ cs, s.rd Z cs u ∧ ∀ (H : Hp) (g : Bool), Z.le (Hp.ph H) → vload H sz g p = mkv g cs := by
  obtain ⟨h1, h2, h3⟩ := ix_lt hj
  subst hz
  rcases h with ⟨rfl, rfl⟩ | ⟨b, o, us, x, rfl, h4, h5, h6, h7, h8⟩
  · simp at h2; omega
  · rw [V_idxs, if_pos ⟨h1, h2⟩] at hp
    cases hp
    have hlt : j.toNat < xs.length := by omega
    refine ⟨_, h8 _ u h3, fun H g hZ => ?_⟩
    have hb : Hp.cells H b = some us := by rw [cells_of (ph_get hZ h4)]; exact h5
    simp only [vload, Option.isNone_none, if_true, Hp.load, hb]
    rw [if_pos (chk_at hlt h7.1)]; rfl
theorem ag_ldE {α : Type} {s : Sh α} {Z : PH} {v : Value} {xs : List α} {dst : Option Nat} {x : Operand} {tm : Tm} {H H' : Hp} {j : Int} {u : α} {p : Value} {G : Option (Nat × Bool)} (hg : want tm G = true) (h : RdS s Z v xs) (hj : ix xs j = some u) (hz : s.sz = 1) (hp : vidxs 1 v (vi j) = some p) (hx : ev tm x = p) (h1 : Z.le (Hp.ph H)) (h2 : Z.le (Hp.ph H'))
    (hv : ∀ w, s.rd Z [w] u → vsame w w = true) : again ⟨dst, .load 1 false x, G, sl⟩ (tm, H) H' = true := by
  obtain ⟨cs, h3, h4⟩ := vload_det h hj hz hp
  have hl := s.len h3
  rw [hz] at hl
  obtain ⟨w, rfl⟩ : ∃ w, cs = [w] := List.length_eq_one_iff.1 hl
  simp only [again, hg, if_true, A_load, hx, h4 H false h1, h4 H' false h2, mkv, Option.map_some]
  exact hv w h3
theorem vs_int {k : IntKind} {Z : PH} {u : Int} : ∀ w, (Sh.ik k).rd Z [w] u → vsame w w = true := fun w h => by cases h; simp [vsame, vsame1]
theorem vs_bool {Z : PH} {u : Bool} : ∀ w, Sh.bool.rd Z [w] u → vsame w w = true := fun w h => by cases h; simp [vsame, vsame1]
theorem vs_sl {α : Type} {s : Sh α} {Z : PH} {u : List α} : ∀ w, s.sl.rd Z [w] u → vsame w w = true := fun w h => by
  obtain ⟨w', e, h⟩ := h
  cases e
  obtain ⟨a, rfl⟩ := h.val
  simp [vsame, vsame1]
theorem d_call {f : FuncId} {xs : List Operand} {P : Value → Hp → Prop} {args : List Value} (ha : xs.map (ev tm) = args) (hc : G T f args H P) (k : ∀ v H1, P v H1 → Keeps H H1 → R T Q (.dops base m all pr (ri + 1) (tr ++ [(tm, H)]) l :: K) .normal (ub tm t v) H1) : R T Q (.dops base m all pr ri tr (⟨some t, .call f xs, none, sl⟩ :: l) :: K) .normal tm H := by
  obtain ⟨r, H', hr, hp⟩ := hc
  refine R_dcall (P := fun v H1 => P v H1 ∧ Keeps H H1) ha rfl ⟨r, H', hr, hp, ?_⟩ fun v H1 h => by rw [put_some, upd_ub]; exact k v H1 h.1 h.2
  obtain ⟨n, hn⟩ := hr
  exact callF_keeps T n _ _ _ _ _ (hn n (Nat.le_refl _))

/-! ### Values -/
theorem d_mv {x : Operand} {v : Value} (hx : ev tm x = v) (k : R T Q (.dops base m all pr (ri + 1) (tr ++ [(tm, H)]) l :: K) .normal (ub tm t v) H) : R T Q (.dops base m all pr ri tr (⟨some t, .mv x, none, sl⟩ :: l) :: K) .normal tm H := d_of rfl rfl (by simp [aop, hx]) k
theorem d_bin {o : BinOp} {x y : Operand} {a b v : Value} (h : vbin o a b = some v) (hx : ev tm x = a) (hy : ev tm y = b) (k : R T Q (.dops base m all pr (ri + 1) (tr ++ [(tm, H)]) l :: K) .normal (ub tm t v) H) : R T Q (.dops base m all pr ri tr (⟨some t, .bin o x y, none, sl⟩ :: l) :: K) .normal tm H :=
  d_of rfl rfl (by rw [A_bin, hx, hy, h]; rfl) k
section
variable {x y : Operand} {kd : IntKind} {a b : Int}
theorem d_add (hx : ev tm x = .int kd a) (hy : ev tm y = .int kd b) (k : R T Q (.dops base m all pr (ri + 1) (tr ++ [(tm, H)]) l :: K) .normal (ub tm t (.int kd (kd.wrap (a + b)))) H) : R T Q (.dops base m all pr ri tr (⟨some t, .bin .add x y, none, sl⟩ :: l) :: K) .normal tm H := d_bin (by simp [vbin, ibin]) hx hy k
theorem d_sub (hx : ev tm x = .int kd a) (hy : ev tm y = .int kd b) (k : R T Q (.dops base m all pr (ri + 1) (tr ++ [(tm, H)]) l :: K) .normal (ub tm t (.int kd (kd.wrap (a - b)))) H) : R T Q (.dops base m all pr ri tr (⟨some t, .bin .sub x y, none, sl⟩ :: l) :: K) .normal tm H := d_bin (by simp [vbin, ibin]) hx hy k
theorem d_mul (hx : ev tm x = .int kd a) (hy : ev tm y = .int kd b) (k : R T Q (.dops base m all pr (ri + 1) (tr ++ [(tm, H)]) l :: K) .normal (ub tm t (.int kd (kd.wrap (a * b)))) H) : R T Q (.dops base m all pr ri tr (⟨some t, .bin .mul x y, none, sl⟩ :: l) :: K) .normal tm H := d_bin (by simp [vbin, ibin]) hx hy k
theorem d_and (hx : ev tm x = .int kd a) (hy : ev tm y = .int kd b) (k : R T Q (.dops base m all pr (ri + 1) (tr ++ [(tm, H)]) l :: K) .normal (ub tm t (.int kd (band kd a b))) H) : R T Q (.dops base m all pr ri tr (⟨some t, .bin .and x y, none, sl⟩ :: l) :: K) .normal tm H := d_bin (by simp [vbin, ibin, band]) hx hy k
theorem d_or (hx : ev tm x = .int kd a) (hy : ev tm y = .int kd b) (k : R T Q (.dops base m all pr (ri + 1) (tr ++ [(tm, H)]) l :: K) .normal (ub tm t (.int kd (bor kd a b))) H) : R T Q (.dops base m all pr ri tr (⟨some t, .bin .or x y, none, sl⟩ :: l) :: K) .normal tm H := d_bin (by simp [vbin, ibin, bor]) hx hy k
theorem d_xor (hx : ev tm x = .int kd a) (hy : ev tm y = .int kd b) (k : R T Q (.dops base m all pr (ri + 1) (tr ++ [(tm, H)]) l :: K) .normal (ub tm t (.int kd (bxor kd a b))) H) : R T Q (.dops base m all pr ri tr (⟨some t, .bin .xor x y, none, sl⟩ :: l) :: K) .normal tm H := d_bin (by simp [vbin, ibin, bxor]) hx hy k
theorem d_andNot (hx : ev tm x = .int kd a) (hy : ev tm y = .int kd b) (k : R T Q (.dops base m all pr (ri + 1) (tr ++ [(tm, H)]) l :: K) .normal (ub tm t (.int kd (bandn kd a b))) H) : R T Q (.dops base m all pr ri tr (⟨some t, .bin .andNot x y, none, sl⟩ :: l) :: K) .normal tm H := d_bin (by simp [vbin, ibin, bandn]) hx hy k
theorem d_lss (hx : ev tm x = .int kd a) (hy : ev tm y = .int kd b) (k : R T Q (.dops base m all pr (ri + 1) (tr ++ [(tm, H)]) l :: K) .normal (ub tm t (.bool (decide (a < b)))) H) : R T Q (.dops base m all pr ri tr (⟨some t, .bin .lss x y, none, sl⟩ :: l) :: K) .normal tm H := d_bin (by simp [vbin, ibin]) hx hy k
theorem d_leq (hx : ev tm x = .int kd a) (hy : ev tm y = .int kd b) (k : R T Q (.dops base m all pr (ri + 1) (tr ++ [(tm, H)]) l :: K) .normal (ub tm t (.bool (decide (a ≤ b)))) H) : R T Q (.dops base m all pr ri tr (⟨some t, .bin .leq x y, none, sl⟩ :: l) :: K) .normal tm H := d_bin (by simp [vbin, ibin]) hx hy k
theorem d_gtr (hx : ev tm x = .int kd a) (hy : ev tm y = .int kd b) (k : R T Q (.dops base m all pr (ri + 1) (tr ++ [(tm, H)]) l :: K) .normal (ub tm t (.bool (decide (b < a)))) H) : R T Q (.dops base m all pr ri tr (⟨some t, .bin .gtr x y, none, sl⟩ :: l) :: K) .normal tm H := d_bin (by simp [vbin, ibin]) hx hy k
theorem d_geq (hx : ev tm x = .int kd a) (hy : ev tm y = .int kd b) (k : R T Q (.dops base m all pr (ri + 1) (tr ++ [(tm, H)]) l :: K) .normal (ub tm t (.bool (decide (b ≤ a)))) H) : R T Q (.dops base m all pr ri tr (⟨some t, .bin .geq x y, none, sl⟩ :: l) :: K) .normal tm H := d_bin (by simp [vbin, ibin]) hx hy k
theorem d_eql (hx : ev tm x = .int kd a) (hy : ev tm y = .int kd b) (k : R T Q (.dops base m all pr (ri + 1) (tr ++ [(tm, H)]) l :: K) .normal (ub tm t (.bool (decide (a = b)))) H) : R T Q (.dops base m all pr ri tr (⟨some t, .bin .eql x y, none, sl⟩ :: l) :: K) .normal tm H := by
  refine d_bin (v := .bool (decide (a = b))) ?_ hx hy k
  simp only [vbin, ibin, if_true]; rfl
theorem d_neq (hx : ev tm x = .int kd a) (hy : ev tm y = .int kd b) (k : R T Q (.dops base m all pr (ri + 1) (tr ++ [(tm, H)]) l :: K) .normal (ub tm t (.bool (decide (a ≠ b)))) H) : R T Q (.dops base m all pr ri tr (⟨some t, .bin .neq x y, none, sl⟩ :: l) :: K) .normal tm H := by
  refine d_bin (v := .bool (decide (a ≠ b))) ?_ hx hy k
  simp only [vbin, ibin, if_true]
  congr 2
  by_cases h : a = b <;> simp [h, bne]
theorem d_quo {c : Int} (hx : ev tm x = .int kd a) (hy : ev tm y = .int kd b) (hc : Pu.quo kd a b = some c) (k : R T Q (.dops base m all pr (ri + 1) (tr ++ [(tm, H)]) l :: K) .normal (ub tm t (.int kd c)) H) : R T Q (.dops base m all pr ri tr (⟨some t, .bin .quo x y, none, sl⟩ :: l) :: K) .normal tm H := by
  refine d_bin ?_ hx hy k
  unfold Pu.quo at hc
  simp only [vbin, ibin, if_true]
  split at hc
  · cases hc
  · cases hc; rw [if_neg (by assumption)]
theorem d_rem {c : Int} (hx : ev tm x = .int kd a) (hy : ev tm y = .int kd b) (hc : Pu.rem a b = some c) (k : R T Q (.dops base m all pr (ri + 1) (tr ++ [(tm, H)]) l :: K) .normal (ub tm t (.int kd c)) H) : R T Q (.dops base m all pr ri tr (⟨some t, .bin .rem x y, none, sl⟩ :: l) :: K) .normal tm H := by
  refine d_bin ?_ hx hy k
  unfold Pu.rem at hc
  simp only [vbin, ibin, if_true]
  split at hc
  · cases hc
  · cases hc; rw [if_neg (by assumption)]
theorem d_shl {c : Int} {kd' : IntKind} (hx : ev tm x = .int kd a) (hy : ev tm y = .int kd' b) (hc : Pu.shl kd a b = some c) (k : R T Q (.dops base m all pr (ri + 1) (tr ++ [(tm, H)]) l :: K) .normal (ub tm t (.int kd c)) H) : R T Q (.dops base m all pr ri tr (⟨some t, .bin .shl x y, none, sl⟩ :: l) :: K) .normal tm H := by
  refine d_bin ?_ hx hy k
  unfold Pu.shl at hc
  simp only [vbin, ibin]
  split at hc
  · cases hc
  · cases hc; rw [if_neg (by assumption)]
theorem d_shr {c : Int} {kd' : IntKind} (hx : ev tm x = .int kd a) (hy : ev tm y = .int kd' b) (hc : Pu.shr kd a b = some c) (k : R T Q (.dops base m all pr (ri + 1) (tr ++ [(tm, H)]) l :: K) .normal (ub tm t (.int kd c)) H) : R T Q (.dops base m all pr ri tr (⟨some t, .bin .shr x y, none, sl⟩ :: l) :: K) .normal tm H := by
  refine d_bin ?_ hx hy k
  unfold Pu.shr at hc
  simp only [vbin, ibin]
  split at hc
  · cases hc
  · cases hc; rw [if_neg (by assumption)]
theorem d_neg (hx : ev tm x = .int kd a) (k : R T Q (.dops base m all pr (ri + 1) (tr ++ [(tm, H)]) l :: K) .normal (ub tm t (.int kd (kd.wrap (0 - a)))) H) : R T Q (.dops base m all pr ri tr (⟨some t, .un .neg x, none, sl⟩ :: l) :: K) .normal tm H := d_of rfl rfl (by simp [aop, hx]) k
theorem d_not {p : Bool} (hx : ev tm x = .bool p) (k : R T Q (.dops base m all pr (ri + 1) (tr ++ [(tm, H)]) l :: K) .normal (ub tm t (.bool !p)) H) : R T Q (.dops base m all pr ri tr (⟨some t, .un .not x, none, sl⟩ :: l) :: K) .normal tm H := d_of rfl rfl (by simp [aop, hx]) k
theorem d_conv {kd' : IntKind} (hx : ev tm x = .int kd a) (k : R T Q (.dops base m all pr (ri + 1) (tr ++ [(tm, H)]) l :: K) .normal (ub tm t (.int kd' (kd'.wrap a))) H) : R T Q (.dops base m all pr ri tr (⟨some t, .conv kd' x, none, sl⟩ :: l) :: K) .normal tm H := d_of rfl rfl (by simp [aop, hx]) k
theorem d_max (hx : ev tm x = .int kd a) (hy : ev tm y = .int kd b) (k : R T Q (.dops base m all pr (ri + 1) (tr ++ [(tm, H)]) l :: K) .normal (ub tm t (.int kd (imax a b))) H) : R T Q (.dops base m all pr ri tr (⟨some t, .mm true [x, y], none, sl⟩ :: l) :: K) .normal tm H := d_of rfl rfl (by simp [aop, hx, hy, mm2, imax]) k
theorem d_min (hx : ev tm x = .int kd a) (hy : ev tm y = .int kd b) (k : R T Q (.dops base m all pr (ri + 1) (tr ++ [(tm, H)]) l :: K) .normal (ub tm t (.int kd (imin a b))) H) : R T Q (.dops base m all pr ri tr (⟨some t, .mm false [x, y], none, sl⟩ :: l) :: K) .normal tm H := d_of rfl rfl (by simp [aop, hx, hy, mm2, imin]) k
end
/-- Equality: its value is shown apart. -/
theorem d_eq {n : Bool} {e : EqK} {x y : Operand} {a b : Value} {p : Bool} (h : veq n e a b = some (.bool p)) (hx : ev tm x = a) (hy : ev tm y = b) (k : R T Q (.dops base m all pr (ri + 1) (tr ++ [(tm, H)]) l :: K) .normal (ub tm t (.bool p)) H) : R T Q (.dops base m all pr ri tr (⟨some t, .eq n e x y, none, sl⟩ :: l) :: K) .normal tm H :=
  d_of rfl rfl (by rw [A_eq, hx, hy, h]; rfl) k
theorem d_pick {c x y : Operand} {p : Bool} {a b : Value} (hc : ev tm c = .bool p) (hx : ev tm x = a) (hy : ev tm y = b) (k : R T Q (.dops base m all pr (ri + 1) (tr ++ [(tm, H)]) l :: K) .normal (ub tm t (if p then a else b)) H) : R T Q (.dops base m all pr ri tr (⟨some t, .pick c x y, none, sl⟩ :: l) :: K) .normal tm H := d_of rfl rfl (by simp [aop, hc, hx, hy]) k
theorem d_pickt {c x y : Operand} {p : Bool} {a : Value} (hc : ev tm c = .bool p) (hp : p = true) (hx : ev tm x = a) (k : R T Q (.dops base m all pr (ri + 1) (tr ++ [(tm, H)]) l :: K) .normal (ub tm t a) H) : R T Q (.dops base m all pr ri tr (⟨some t, .pick c x y, none, sl⟩ :: l) :: K) .normal tm H := d_of rfl rfl (by simp [aop, hc, hx, hp]) k
theorem d_pickf {c x y : Operand} {p : Bool} {b : Value} (hc : ev tm c = .bool p) (hp : p = false) (hy : ev tm y = b) (k : R T Q (.dops base m all pr (ri + 1) (tr ++ [(tm, H)]) l :: K) .normal (ub tm t b) H) : R T Q (.dops base m all pr ri tr (⟨some t, .pick c x y, none, sl⟩ :: l) :: K) .normal tm H := d_of rfl rfl (by simp [aop, hc, hy, hp]) k
theorem d_ext {x : Operand} {vs : Array Value} {i : Nat} {v : Value} (hx : ev tm x = .tuple vs) (h : vs[i]? = some v) (k : R T Q (.dops base m all pr (ri + 1) (tr ++ [(tm, H)]) l :: K) .normal (ub tm t v) H) : R T Q (.dops base m all pr ri tr (⟨some t, .extract x i, none, sl⟩ :: l) :: K) .normal tm H := d_of rfl rfl (by simp [aop, hx, h]) k
theorem d_fld {x : Operand} {cs : Array Value} {o n : Nat} {g : Bool} {v : Value} (hx : ev tm x = .agg cs) (h : vfield o n g (.agg cs) = some v) (k : R T Q (.dops base m all pr (ri + 1) (tr ++ [(tm, H)]) l :: K) .normal (ub tm t v) H) : R T Q (.dops base m all pr ri tr (⟨some t, .field o n g x, none, sl⟩ :: l) :: K) .normal tm H :=
  d_of rfl rfl (by rw [A_field, hx, h]; rfl) k
theorem d_bld {z : List Value} {ps : List (Nat × Nat × Operand)} {qs : List (Nat × Nat × Value)} {v : Value} (hx : (ps.map fun p => (p.1, p.2.1, ev tm p.2.2)) = qs) (h : vbuild z qs = some v) (k : R T Q (.dops base m all pr (ri + 1) (tr ++ [(tm, H)]) l :: K) .normal (ub tm t v) H) : R T Q (.dops base m all pr ri tr (⟨some t, .build z ps, none, sl⟩ :: l) :: K) .normal tm H :=
  d_of rfl rfl (by rw [A_build, hx, h]; rfl) k
theorem d_mkfn {f : Fn} {xs : List Operand} {vs : List Value} (hx : xs.map (ev tm) = vs) (k : R T Q (.dops base m all pr (ri + 1) (tr ++ [(tm, H)]) l :: K) .normal (ub tm t (.func f #[] vs.toArray)) H) : R T Q (.dops base m all pr ri tr (⟨some t, .mkfn f xs, none, sl⟩ :: l) :: K) .normal tm H := d_of rfl rfl (by simp [aop, hx]) k
theorem d_nck {x : Operand} {a : Addr} (hx : ev tm x = .pointer (some a)) (k : R T Q (.dops base m all pr (ri + 1) (tr ++ [(tm, H)]) l :: K) .normal (ub tm t (.pointer (some a))) H) : R T Q (.dops base m all pr ri tr (⟨some t, .nilchk x, none, sl⟩ :: l) :: K) .normal tm H := d_of rfl rfl (by simp [aop, hx]) k
theorem d_nckf {x : Operand} {f : FuncId} {a b : Array Value} (hx : ev tm x = .func (.func f) a b) (k : R T Q (.dops base m all pr (ri + 1) (tr ++ [(tm, H)]) l :: K) .normal (ub tm t (.func (.func f) a b)) H) : R T Q (.dops base m all pr ri tr (⟨some t, .nilchk x, none, sl⟩ :: l) :: K) .normal tm H := d_of rfl rfl (by simp [aop, hx]) k
theorem d_fad {x : Operand} {b o n : Nat} (hx : ev tm x = .pointer (some ⟨b, o, none⟩)) (k : R T Q (.dops base m all pr (ri + 1) (tr ++ [(tm, H)]) l :: K) .normal (ub tm t (.pointer (some ⟨b, o + n, none⟩))) H) : R T Q (.dops base m all pr ri tr (⟨some t, .faddr n x, none, sl⟩ :: l) :: K) .normal tm H := d_of rfl rfl (by simp [aop, hx]) k
theorem d_len {x : Operand} {v : Value} {n : Int} (hx : ev tm x = v) (h : vlen v = some (vi n)) (k : R T Q (.dops base m all pr (ri + 1) (tr ++ [(tm, H)]) l :: K) .normal (ub tm t (vi n)) H) : R T Q (.dops base m all pr ri tr (⟨some t, .len x, none, sl⟩ :: l) :: K) .normal tm H :=
  d_of rfl rfl (by rw [A_len, hx, h]; rfl) k


/-! ### Slices that are read -/
theorem rd_ok {x : Operand} {j : Int} {sz n : Nat} {g : Bool} {v p : Value} (hb : BLow base v) (hx : ev tm x = p) (hp : vidxs sz v (vi j) = some p) : rdOk base m ⟨some t, .load n g x, none, sl⟩ tm = true := by
  unfold rdOk rblk
  simp only [hx]
  unfold vidxs at hp
  split at hp
  · split at hp
    · cases hp
      rename_i a n' c k j' _ _
      have := hb a n' c rfl
      simp [this]
    · cases hp
  · cases hp
theorem rd_ok' {v : Value} {sz : Nat} {x : Operand} {lo hi : Option Operand} (hb : BLow base v) (hx : ev tm x = v) : rdOk base m ⟨some t, .slice sz x lo hi, none, sl⟩ tm = true := by
  unfold rdOk rblk
  simp only [hx]
  cases v <;> try rfl
  rename_i a n c
  cases a with
  | none => rfl
  | some a => have := hb a n c rfl; simp [this]
section
variable {α : Type} {s : Sh α} {Z : PH} {v : Value} {xs : List α}
theorem d_idx {x y : Operand} {j : Int} {u : α} {sz : Nat} (hx : ev tm x = v) (hy : ev tm y = vi j) (hr : RdS s Z v xs) (hz : s.sz = sz) (hj : ix xs j = some u) (k : ∀ p, vidxs sz v (vi j) = some p → R T Q (.dops base m all pr (ri + 1) (tr ++ [(tm, H)]) l :: K) .normal (ub tm t p) H) :
    R T Q (.dops base m all pr ri tr (⟨some t, .idxs sz x y, none, sl⟩ :: l) :: K) .normal tm H := by
  obtain ⟨p, hp⟩ := hr.idx hj hz
  exact d_of rfl rfl (by rw [A_idxs, hx, hy, hp]; rfl) (k p hp)
theorem d_ld {x : Operand} {j : Int} {u : α} {sz : Nat} {p : Value} {g : Bool} (hb : BLow base v) (hx : ev tm x = p) (hr : RdS s Z v xs) (hZ : Z.le (Hp.ph H)) (hz : s.sz = sz) (hp : vidxs sz v (vi j) = some p) (hj : ix xs j = some u)
    (k : ∀ cs, s.rd Z cs u → cs.length = sz → ∃ w, mkv g cs = some w ∧ R T Q (.dops base m all pr (ri + 1) (tr ++ [(tm, H)]) l :: K) .normal (ub tm t w) H) : R T Q (.dops base m all pr ri tr (⟨some t, .load sz g x, none, sl⟩ :: l) :: K) .normal tm H := by
  obtain ⟨cs, h1, h2, h3⟩ := hr.at' hZ hj hz hp
  obtain ⟨w, h4, h5⟩ := k cs h1 h2
  exact d_rd rfl (rd_ok hb hx hp) (by rw [A_load, hx, h3, h4]; rfl) h5
theorem d_ld1 {x : Operand} {j : Int} {u : α} {p : Value} (hb : BLow base v) (hx : ev tm x = p) (hr : RdS s Z v xs) (hZ : Z.le (Hp.ph H)) (hz : s.sz = 1) (hp : vidxs 1 v (vi j) = some p) (hj : ix xs j = some u)
    (k : ∀ w, s.rd Z [w] u → R T Q (.dops base m all pr (ri + 1) (tr ++ [(tm, H)]) l :: K) .normal (ub tm t w) H) : R T Q (.dops base m all pr ri tr (⟨some t, .load 1 false x, none, sl⟩ :: l) :: K) .normal tm H :=
  d_ld hb hx hr hZ hz hp hj fun cs h hl => by
    obtain ⟨w, rfl⟩ : ∃ w, cs = [w] := List.length_eq_one_iff.1 hl
    exact ⟨w, rfl, k w h⟩
theorem d_ldi {kd : IntKind} {x : Operand} {j u : Int} {p : Value} {xs : List Int} (hb : BLow base v) (hx : ev tm x = p) (hr : RdS (Sh.ik kd) Z v xs) (hZ : Z.le (Hp.ph H)) (hp : vidxs 1 v (vi j) = some p) (hj : ix xs j = some u)
    (k : R T Q (.dops base m all pr (ri + 1) (tr ++ [(tm, H)]) l :: K) .normal (ub tm t (.int kd u)) H) : R T Q (.dops base m all pr ri tr (⟨some t, .load 1 false x, none, sl⟩ :: l) :: K) .normal tm H := d_ld1 hb hx hr hZ rfl hp hj fun w h => by cases h; exact k
theorem d_ldb {x : Operand} {j : Int} {u : Bool} {p : Value} {xs : List Bool} (hb : BLow base v) (hx : ev tm x = p) (hr : RdS Sh.bool Z v xs) (hZ : Z.le (Hp.ph H)) (hp : vidxs 1 v (vi j) = some p) (hj : ix xs j = some u)
    (k : R T Q (.dops base m all pr (ri + 1) (tr ++ [(tm, H)]) l :: K) .normal (ub tm t (.bool u)) H) : R T Q (.dops base m all pr ri tr (⟨some t, .load 1 false x, none, sl⟩ :: l) :: K) .normal tm H := d_ld1 hb hx hr hZ rfl hp hj fun w h => by cases h; exact k
theorem d_lds {x : Operand} {j : Int} {u : List α} {p : Value} {xs : List (List α)} (hb : BLow base v) (hx : ev tm x = p) (hr : RdS s.sl Z v xs) (hZ : Z.le (Hp.ph H)) (hp : vidxs 1 v (vi j) = some p) (hj : ix xs j = some u)
    (k : ∀ w, RdS s Z w u → R T Q (.dops base m all pr (ri + 1) (tr ++ [(tm, H)]) l :: K) .normal (ub tm t w) H) : R T Q (.dops base m all pr ri tr (⟨some t, .load 1 false x, none, sl⟩ :: l) :: K) .normal tm H := d_ld1 hb hx hr hZ rfl hp hj fun w h => by obtain ⟨w', e, h⟩ := h; cases e; exact k w h
theorem d_lda {x : Operand} {j : Int} {u : α} {sz : Nat} {p : Value} (hb : BLow base v) (hx : ev tm x = p) (hr : RdS s Z v xs) (hZ : Z.le (Hp.ph H)) (hz : s.sz = sz) (hp : vidxs sz v (vi j) = some p) (hj : ix xs j = some u)
    (k : ∀ cs, s.rd Z cs u → R T Q (.dops base m all pr (ri + 1) (tr ++ [(tm, H)]) l :: K) .normal (ub tm t (.agg cs.toArray)) H) : R T Q (.dops base m all pr ri tr (⟨some t, .load sz true x, none, sl⟩ :: l) :: K) .normal tm H := d_ld hb hx hr hZ hz hp hj fun cs h _ => ⟨_, rfl, k cs h⟩
theorem d_slc {x y z : Operand} {sz : Nat} {lo hi : Int} {ys : List α} (hb : BLow base v) (hx : ev tm x = v) (hy : ev tm y = vi lo) (hw : ev tm z = vi hi) (hr : RdS s Z v xs) (hZ : Z.le (Hp.ph H)) (hz : s.sz = sz) (hs : sub xs lo hi = some ys)
    (k : ∀ w, RdS s Z w ys → R T Q (.dops base m all pr (ri + 1) (tr ++ [(tm, H)]) l :: K) .normal (ub tm t w) H) : R T Q (.dops base m all pr ri tr (⟨some t, .slice sz x (some y) (some z), none, sl⟩ :: l) :: K) .normal tm H := by
  obtain ⟨w, h1, h2⟩ := hr.mid hZ hs hz
  exact d_rd rfl (rd_ok' hb hx) (by simp only [aop, Option.map_some, hx, hy, hw, h1]) (k w h2)
theorem d_slcl {x y : Operand} {sz : Nat} {lo : Int} {ys : List α} (hb : BLow base v) (hx : ev tm x = v) (hy : ev tm y = vi lo) (hr : RdS s Z v xs) (hZ : Z.le (Hp.ph H)) (hz : s.sz = sz) (hs : sub xs lo xs.length = some ys)
    (k : ∀ w, RdS s Z w ys → R T Q (.dops base m all pr (ri + 1) (tr ++ [(tm, H)]) l :: K) .normal (ub tm t w) H) : R T Q (.dops base m all pr ri tr (⟨some t, .slice sz x (some y) none, none, sl⟩ :: l) :: K) .normal tm H := by
  obtain ⟨w, h1, h2⟩ := hr.mid hZ hs hz
  exact d_rd rfl (rd_ok' hb hx) (by simp only [aop, Option.map_some, Option.map_none, hx, hy]; rw [hr.slice_hi hZ _ hz, h1]; rfl) (k w h2)
theorem d_slch {x z : Operand} {sz : Nat} {hi : Int} {ys : List α} (hb : BLow base v) (hx : ev tm x = v) (hw : ev tm z = vi hi) (hr : RdS s Z v xs) (hZ : Z.le (Hp.ph H)) (hz : s.sz = sz) (hs : sub xs 0 hi = some ys)
    (k : ∀ w, RdS s Z w ys → R T Q (.dops base m all pr (ri + 1) (tr ++ [(tm, H)]) l :: K) .normal (ub tm t w) H) : R T Q (.dops base m all pr ri tr (⟨some t, .slice sz x none (some z), none, sl⟩ :: l) :: K) .normal tm H := by
  obtain ⟨w, h1, h2⟩ := hr.mid hZ hs hz
  exact d_rd rfl (rd_ok' hb hx) (by simp only [aop, Option.map_some, Option.map_none, hx, hw]; rw [hr.slice_lo hZ _ hz, h1]; rfl) (k w h2)
end

/-! ### What is owned -/
section
variable {α : Type} {s : Sh α} {Z V : PH} {v : Value} {xs : List α} {L : List It}
theorem set_keeps {H : Hp} {b : Nat} {x y : Blk} (h : H[b]? = some x) (hx : x ≠ .dead) (hy : ∀ z vs, y ≠ .ro z vs) : Keeps H (H.set b y) := Keeps.set (by rw [h]; simpa using hx) hy
theorem d_st {x y : Operand} {sz : Nat} {j : Int} {u0 u : α} {p w : Value} {cs : List Value} (n : Nat) (hS : Sat Z V H L) (ht : L[n]? = some (It.sl s v xs)) (hl : s.Lt) (hz : s.sz = sz) (hx : ev tm x = p) (hy : ev tm y = w) (hp : vidxs sz v (vi j) = some p) (hj : ix xs j = some u0)
    (hc : w.cells.toList = cs) (hr : s.rd Z cs u) (k : ∀ H1, Sat Z V H1 (L.set n (It.sl s v (Pu.st xs j u))) → Keeps H H1 → R T Q (.dops base m all pr (ri + 1) (tr ++ [(tm, H)]) l :: K) .normal tm H1) : R T Q (.dops base m all pr ri tr (⟨none, .store sz x y, none, sl⟩ :: l) :: K) .normal tm H := by
  obtain ⟨H1, h1, h2⟩ := hS.set n ht hl hz hj hp hc hr
  have h3 : aop (.store sz x y) tm H = some (undef, H1) := by rw [A_store, hx, hy, h1]; rfl
  exact d_of0 rfl rfl h3 (k H1 h2 (aop_keeps h3))
theorem d_app {x y : Operand} {sz bytes : Nat} {q : Value} {ys zs : List α} {s' : Sh α} {W : PH} (n : Nat) (hS : Sat Z V H L) (ht : L[n]? = some (It.sl s v xs)) (hl : s.Lt) (hz : s.sz = sz) (hz' : s'.sz = sz) (hx : ev tm x = v) (hy : ev tm y = q)
    (hq : RdS s' W q ys) (hW : W.le (Hp.ph H)) (hf : ∀ {cs : List Value} {x : α}, s'.rd W cs x → s.rd Z cs x) (hby : 0 < bytes) (ha : Pu.app bytes xs ys = some zs)
    (k : ∀ w H1, Sat Z V H1 (L.set n (It.sl s w zs)) → Keeps H H1 → R T Q (.dops base m all pr (ri + 1) (tr ++ [(tm, H)]) l :: K) .normal (ub tm t w) H1) : R T Q (.dops base m all pr ri tr (⟨some t, .append sz bytes x y, none, sl⟩ :: l) :: K) .normal tm H := by
  obtain ⟨w, H1, h1, h2⟩ := hS.app n ht hl hz hz' hq hW hf hby ha
  have h3 : aop (.append sz bytes x y) tm H = some (w, H1) := by rw [A_append, hx, hy, h1]
  exact d_of rfl rfl h3 (k w H1 h2 (aop_keeps h3))
theorem new_at {Z V : PH} {H : Hp} {L : List It} {k : Nat} {x : Blk} (hx : x ≠ .dead) (hd : H[k]? = some .dead) (h : Sat Z V H L) : Sat Z V (H.set k x) (pts k x :: L) :=
  h.new hx (by simp [Hp.ph, hd]) (get_same (lt_of_get hd)) fun b hb => get_other hb
theorem d_mks {x y : Operand} {sz bytes : Nat} {z : List Value} {n c : Int} {e : α} (hd : H[base + ri]? = some .dead) (hS : Sat Z V H L) (hl : s.Lt) (hz : s.sz = sz) (hx : ev tm x = vi n) (hy : ev tm y = vi c) (he : s.rd Z z e) (hm : Pu.mk bytes n c e = some xs)
    (k : ∀ w H1, Sat Z V H1 (It.sl s w xs :: L) → (∀ b, b ≠ base + ri → H1[b]? = H[b]?) → R T Q (.dops base m all pr (ri + 1) (tr ++ [(tm, H)]) l :: K) .normal (ub tm t w) H1) : R T Q (.dops base m all pr ri tr (⟨some t, .mkslice sz bytes z x y, none, sl⟩ :: l) :: K) .normal tm H := by
  obtain ⟨w, b, h1, h2, h3⟩ := hS.mks hl hz he hm
  exact d_nw rfl (by simp only [anew, hx, hy]; exact h1 (base + ri)) (k _ _ (h3 _ _ (new_at h2 hd hS)) fun b hb => get_other hb)
theorem d_bsl {sz n : Nat} {z us : List Value} {ps : List (Nat × Nat × Operand)} {qs : List (Nat × Nat × Value)} (hd : H[base + ri]? = some .dead) (hS : Sat Z V H L) (hl : s.Lt) (hz : s.sz = sz) (hx : (ps.map fun p => (p.1, p.2.1, ev tm p.2.2)) = qs) (hb : bfill z qs = some us) (he : Els s Z us xs) (hn : n = xs.length) (hbd : Nat.ble n 281474976710656 = true)
    (k : ∀ w H1, Sat Z V H1 (It.sl s w xs :: L) → (∀ b, b ≠ base + ri → H1[b]? = H[b]?) → R T Q (.dops base m all pr (ri + 1) (tr ++ [(tm, H)]) l :: K) .normal (ub tm t w) H1) : R T Q (.dops base m all pr ri tr (⟨some t, .bslice sz n z ps, none, sl⟩ :: l) :: K) .normal tm H :=
  d_nw rfl (by simp only [anew, hx, hb]; rfl) (k _ _ ((new_at (by simp) hd hS).conv 0 rfl (sl_of_pts hl he hn (Nat.le_of_ble_eq_true hbd) hz)) fun b hb => get_other hb)
theorem d_new {z : List Value} (hd : H[base + ri]? = some .dead) (hS : Sat Z V H L) (k : ∀ b H1, Sat Z V H1 (pts b (.rw 0 z) :: L) → (∀ b, b ≠ base + ri → H1[b]? = H[b]?) → R T Q (.dops base m all pr (ri + 1) (tr ++ [(tm, H)]) l :: K) .normal (ub tm t (.pointer (some ⟨b, 0, none⟩))) H1) : R T Q (.dops base m all pr ri tr (⟨some t, .alloc z, none, sl⟩ :: l) :: K) .normal tm H :=
  d_nw rfl (by simp only [anew]) (k _ _ (new_at (by simp) hd hS) fun b hb => get_other hb)
theorem d_box {x : Operand} {w : Value} {z : List Value} (hd : H[base + ri]? = some .dead) (hS : Sat Z V H L) (hx : ev tm x = w) (hz : w.cells.toList = z) (k : ∀ b H1, Sat Z V H1 (pts b (.rw 0 z) :: L) → (∀ b, b ≠ base + ri → H1[b]? = H[b]?) → R T Q (.dops base m all pr (ri + 1) (tr ++ [(tm, H)]) l :: K) .normal (ub tm t (.pointer (some ⟨b, 0, none⟩))) H1) : R T Q (.dops base m all pr ri tr (⟨some t, .box x, none, sl⟩ :: l) :: K) .normal tm H :=
  d_nw rfl (by simp only [anew, hx, hz]) (k _ _ (new_at (by simp) hd hS) fun b hb => get_other hb)
theorem d_ldB {x : Operand} {b o n z : Nat} {g : Bool} {us : List Value} {w : Value} (hb : b < base) (a : Nat) (hS : Sat Z V H L) (ht : L[a]? = some (pts b (.rw z us))) (hx : ev tm x = .pointer (some ⟨b, o, none⟩)) (hm : Nat.ble (o + n) us.length = true) (hw : mkv g ((us.drop o).take n) = some w)
    (k : R T Q (.dops base m all pr (ri + 1) (tr ++ [(tm, H)]) l :: K) .normal (ub tm t w) H) : R T Q (.dops base m all pr ri tr (⟨some t, .load n g x, none, sl⟩ :: l) :: K) .normal tm H := by
  have hc := hS.curB a ht
  refine d_rd rfl (by simp [rdOk, rblk, hx, hb]) ?_ k
  rw [A_load, hx]
  simp only [vload, Option.isNone_none, if_true, Hp.load, show Hp.cells H b = some us by rw [cells_of hc]; rfl]
  rw [if_pos (Nat.le_of_ble_eq_true hm), Option.bind_some, hw]; rfl
theorem ldB_v {b o n z : Nat} {g : Bool} {us : List Value} {w : Value} (a : Nat) (hS : Sat Z V H L) (ht : L[a]? = some (pts b (.rw z us))) (hm : Nat.ble (o + n) us.length = true) (hw : mkv g ((us.drop o).take n) = some w) : vload H n g (.pointer (some ⟨b, o, none⟩)) = some w := by
  have hc := hS.curB a ht
  simp only [vload, Option.isNone_none, if_true, Hp.load, show Hp.cells H b = some us by rw [cells_of hc]; rfl]
  rw [if_pos (Nat.le_of_ble_eq_true hm), Option.bind_some, hw]
theorem d_stB {x y : Operand} {b o n z : Nat} {us us' : List Value} {w : Value} (a : Nat) (hS : Sat Z V H L) (ht : L[a]? = some (pts b (.rw z us))) (hx : ev tm x = .pointer (some ⟨b, o, none⟩)) (hy : ev tm y = w) (hm : Nat.ble (o + n) us.length = true) (hs : Nat.beq w.cells.size n = true)
    (h1 : w.cells.toList.all Value.oneCell' = true) (hu : splice us o w.cells.toList = us') (k : ∀ H1, Sat Z V H1 (L.set a (pts b (.rw z us'))) → Keeps H H1 → R T Q (.dops base m all pr (ri + 1) (tr ++ [(tm, H)]) l :: K) .normal tm H1) : R T Q (.dops base m all pr ri tr (⟨none, .store n x y, none, sl⟩ :: l) :: K) .normal tm H := by
  have hb := hS.curB a ht
  subst hu
  have h3 : aop (.store n x y) tm H = some (undef, H.set b (.rw z (splice us o w.cells.toList))) := by
    rw [A_store, hx, hy]
    simp only [hstore, hb]
    rw [if_pos ⟨Nat.eq_of_beq_eq_true hs, h1, Nat.le_of_ble_eq_true hm⟩]; rfl
  exact d_of0 rfl rfl h3 (k _ (hS.wr a ht (by simp) (lt_of_get hb) fun F h _ _ q => ⟨⟨_, q⟩, PH.upd_same ..⟩) (aop_keeps h3))
end

/-! ### Guards -/
theorem d_want {dst : Option Nat} {o : AOp} {g : Nat} {b x : Bool} (hg : tm g = .bool x) (hx : x = b) (k : R T Q (.dops base m all pr ri tr (⟨dst, o, none, sl⟩ :: l) :: K) .normal tm H) : R T Q (.dops base m all pr ri tr (⟨dst, o, some (g, b), sl⟩ :: l) :: K) .normal tm H :=
  (R_dwant (by simp [want, hg, hx])).2 k
theorem d_gn {o : AOp} {g : Nat} {b x : Bool} (hg : tm g = .bool x) (hx : x = !b) (k : R T Q (.dops base m all pr (ri + 1) (tr ++ [(tm, H)]) l :: K) .normal (ub tm t undef) H) : R T Q (.dops base m all pr ri tr (⟨some t, o, some (g, b), sl⟩ :: l) :: K) .normal tm H :=
  R_dnot (by rw [want, hg, hx]; cases b <;> rfl) (by rw [put_some, upd_ub]; exact k)
theorem d_gu {o : AOp} {g : Nat} {b : Bool} (hg : tm g = undef) (k : R T Q (.dops base m all pr (ri + 1) (tr ++ [(tm, H)]) l :: K) .normal (ub tm t undef) H) : R T Q (.dops base m all pr ri tr (⟨some t, o, some (g, b), sl⟩ :: l) :: K) .normal tm H :=
  R_dnot (w_u hg) (by rw [put_some, upd_ub]; exact k)
theorem d_gu0 {o : AOp} {g : Nat} {b : Bool} (hg : tm g = undef) (k : R T Q (.dops base m all pr (ri + 1) (tr ++ [(tm, H)]) l :: K) .normal tm H) : R T Q (.dops base m all pr ri tr (⟨none, o, some (g, b), sl⟩ :: l) :: K) .normal tm H :=
  R_dnot (w_u hg) k
theorem d_gn0 {o : AOp} {g : Nat} {b x : Bool} (hg : tm g = .bool x) (hx : x = !b) (k : R T Q (.dops base m all pr (ri + 1) (tr ++ [(tm, H)]) l :: K) .normal tm H) : R T Q (.dops base m all pr ri tr (⟨none, o, some (g, b), sl⟩ :: l) :: K) .normal tm H :=
  R_dnot (by rw [want, hg, hx]; cases b <;> rfl) k
end Go.Ab
