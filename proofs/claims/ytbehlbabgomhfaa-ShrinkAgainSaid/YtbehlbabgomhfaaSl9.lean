/- Functions as values. Own work. -/
import Derived.Test.YtbehlbabgomhfaaSl8
namespace Go.Ab
open Go Go.Pu

section
variable {T : FuncId → Option AFunc} {Q : AX → Tm → Hp → Prop} {K : List Fk} {tm : Tm} {H : Hp} {l : List DOp} {sl : List Nat} {t : Nat}
theorem o_callv {x : Operand} {f : FuncId} {xs : List Operand} {P : Value → Hp → Prop} {a0 cs : List Value} {first : Array Value} (hx : ev tm x = .func (.func f) first cs.toArray) (ha : xs.map (ev tm) = a0) (hc : G T f (a0 ++ cs) H P)
    (k : ∀ v H1, P v H1 → R T Q (.ops l :: K) .normal (ub tm t v) H1) : R T Q (.ops (⟨some t, .callv x xs, none, sl⟩ :: l) :: K) .normal tm H :=
  R_callv hx (by rw [ha]) rfl hc fun v H1 h => by rw [put_some, upd_ub]; exact k v H1 h
theorem o_callv0 {x : Operand} {f : FuncId} {xs : List Operand} {P : Value → Hp → Prop} {a0 cs : List Value} {first : Array Value} (hx : ev tm x = .func (.func f) first cs.toArray) (ha : xs.map (ev tm) = a0) (hc : G T f (a0 ++ cs) H P)
    (k : ∀ v H1, P v H1 → R T Q (.ops l :: K) .normal tm H1) : R T Q (.ops (⟨none, .callv x xs, none, sl⟩ :: l) :: K) .normal tm H :=
  R_callv hx (by rw [ha]) rfl hc fun v H1 h => k v H1 h
end
section
variable {T : FuncId → Option AFunc} {Q : AX → Tm → Hp → Prop} {K : List Fk} {tm : Tm} {H : Hp} {l : List DOp} {sl : List Nat} {t : Nat} {base m ri : Nat} {all : List DOp} {pr : List (Nat × Nat)} {tr : List St}
theorem d_callv {x : Operand} {f : FuncId} {xs : List Operand} {P : Value → Hp → Prop} {a0 cs : List Value} {first : Array Value} (hx : ev tm x = .func (.func f) first cs.toArray) (ha : xs.map (ev tm) = a0) (hc : G T f (a0 ++ cs) H P)
    (k : ∀ v H1, P v H1 → Keeps H H1 → R T Q (.dops base m all pr (ri + 1) (tr ++ [(tm, H)]) l :: K) .normal (ub tm t v) H1) : R T Q (.dops base m all pr ri tr (⟨some t, .callv x xs, none, sl⟩ :: l) :: K) .normal tm H := by
  obtain ⟨r, H', hr, hp⟩ := hc
  have hk : Keeps H H' := by
    obtain ⟨n, hn⟩ := hr
    exact callF_keeps T n _ _ _ _ _ (hn n (Nat.le_refl _))
  obtain ⟨n, hn⟩ := hr
  refine .dop ⟨n, fun j hj => ?_⟩ (by rw [put_some, upd_ub]; exact k r H' hp hk)
  simp only [dstep, want, if_true, kindOf, arun, hx, ha]
  exact hn j hj
end

/-! ### Blocks that are only read -/
section
variable {T : FuncId → Option AFunc} {Q : AX → Tm → Hp → Prop} {K : List Fk} {tm : Tm} {H : Hp} {l : List DOp} {sl : List Nat} {t : Nat}
theorem o_ldR {Z : PH} {x : Operand} {b o m z : Nat} {g : Bool} {us : List Value} {w : Value} (hb : Z b = some (.rw z us)) (hZ : Z.le (Hp.ph H)) (hx : ev tm x = .pointer (some ⟨b, o, none⟩)) (hm : Nat.ble (o + m) us.length = true) (hw : mkv g ((us.drop o).take m) = some w)
    (k : R T Q (.ops l :: K) .normal (ub tm t w) H) : R T Q (.ops (⟨some t, .load m g x, none, sl⟩ :: l) :: K) .normal tm H := by
  refine o_of rfl ?_ k
  rw [A_load, hx]
  simp only [vload, Option.isNone_none, if_true, Hp.load, show Hp.cells H b = some us by rw [cells_of (ph_get hZ hb)]; rfl]
  rw [if_pos (Nat.le_of_ble_eq_true hm), Option.bind_some, hw]; rfl
theorem RdS.redo {α : Type} {s : Sh α} {W : PH} {v p w : Value} {xs : List (List α)} {j : Int} {u : List α} (h : RdS s.sl W v xs) (hW : W.le (Hp.ph H)) (hp : vidxs 1 v (vi j) = some p) (hj : ix xs j = some u) (hl : vload H 1 false p = some w) :
    RdS s W w u ∧ ∀ H' : Hp, W.le (Hp.ph H') → vload H' 1 false p = some w := by
  obtain ⟨cs, ⟨w', rfl, h1⟩, h2⟩ := vload_det h hj rfl hp
  have h3 : vload H 1 false p = mkv false [w'] := h2 H false hW
  rw [hl] at h3
  obtain rfl : w = w' := by simpa [mkv] using h3
  exact ⟨h1, fun H' h => (h2 H' false h).trans rfl⟩
end
section
variable {T : FuncId → Option AFunc} {Q : AX → Tm → Hp → Prop} {K : List Fk} {tm : Tm} {H : Hp} {l : List DOp} {sl : List Nat} {t : Nat} {base m ri : Nat} {all : List DOp} {pr : List (Nat × Nat)} {tr : List St}
theorem d_ldR {Z : PH} {x : Operand} {b o n z : Nat} {g : Bool} {us : List Value} {w : Value} (lw : b < base) (hb : Z b = some (.rw z us)) (hZ : Z.le (Hp.ph H)) (hx : ev tm x = .pointer (some ⟨b, o, none⟩)) (hm : Nat.ble (o + n) us.length = true) (hw : mkv g ((us.drop o).take n) = some w)
    (k : R T Q (.dops base m all pr (ri + 1) (tr ++ [(tm, H)]) l :: K) .normal (ub tm t w) H) : R T Q (.dops base m all pr ri tr (⟨some t, .load n g x, none, sl⟩ :: l) :: K) .normal tm H := by
  refine d_rd rfl (by simp [rdOk, rblk, hx, lw]) ?_ k
  rw [A_load, hx]
  simp only [vload, Option.isNone_none, if_true, Hp.load, show Hp.cells H b = some us by rw [cells_of (ph_get hZ hb)]; rfl]
  rw [if_pos (Nat.le_of_ble_eq_true hm), Option.bind_some, hw]; rfl
end

/-! ### Readings that are the same after a call -/
section
variable {H : Hp} {Z : PH}
theorem vl_ik {kd : IntKind} {v p : Value} {xs : List Int} {j u : Int} (hr : RdS (Sh.ik kd) Z v xs) (hZ : Z.le (Hp.ph H)) (hp : vidxs 1 v (vi j) = some p) (hj : ix xs j = some u) : vload H 1 false p = some (.int kd u) := by
  obtain ⟨cs, h1, h2⟩ := vload_det hr hj rfl hp
  cases h1; exact (h2 H false hZ).trans rfl
theorem vl_bool {v p : Value} {xs : List Bool} {j : Int} {u : Bool} (hr : RdS Sh.bool Z v xs) (hZ : Z.le (Hp.ph H)) (hp : vidxs 1 v (vi j) = some p) (hj : ix xs j = some u) : vload H 1 false p = some (.bool u) := by
  obtain ⟨cs, h1, h2⟩ := vload_det hr hj rfl hp
  cases h1; exact (h2 H false hZ).trans rfl
theorem vs_rd {α : Type} {s : Sh α} {w : Value} {u : List α} (h : RdS s Z w u) : vsame w w = true := by
  obtain ⟨a, rfl⟩ := h.val
  simp [vsame, vsame1]
theorem ldR_v {b o n z : Nat} {g : Bool} {us : List Value} {w : Value} (hb : Z b = some (.rw z us)) (hZ : Z.le (Hp.ph H)) (hm : Nat.ble (o + n) us.length = true) (hw : mkv g ((us.drop o).take n) = some w) : vload H n g (.pointer (some ⟨b, o, none⟩)) = some w := by
  simp only [vload, Option.isNone_none, if_true, Hp.load, show Hp.cells H b = some us by rw [cells_of (ph_get hZ hb)]; rfl]
  rw [if_pos (Nat.le_of_ble_eq_true hm), Option.bind_some, hw]
end

/-! ### Parts of owned slices, owned in their place -/
section
variable {α : Type}
/-- Who owns the slice can own the part of it instead. -/
def Resl (s : Sh α) (v : Value) (xs : List α) (w : Value) (ys : List α) : Prop := (∀ F h : PH, OwS s F h v xs → OwS s F h w ys) ∧ ∀ W : PH, RdS s W v xs → RdS s W w ys
theorem resl_of {s : Sh α} {v w : Value} {xs ys : List α} {H : Hp} {lo hi : Int} (hs : sub xs lo hi = some ys) (ha : aslice H s.sz v (some (vi lo)) (some (vi hi)) = some w) : Resl s v xs w ys := by
  refine ⟨fun F h q => ?_, fun W q => ?_⟩
  · unfold sub at hs
    split at hs
    case isFalse => cases hs
    rename_i hb
    cases hs
    obtain ⟨a, rfl⟩ := Int.eq_ofNat_of_zero_le hb.1
    obtain ⟨c, rfl⟩ := Int.eq_ofNat_of_zero_le (Int.le_trans hb.1 hb.2.1)
    have hac : a ≤ c := by omega
    have hcx : c ≤ xs.length := by omega
    simp only [Int.toNat_natCast]
    rcases q with ⟨rfl, rfl⟩ | ⟨b, o, us, hh, rfl, h2, h3, h4, h5, h6, h7⟩
    · simp at hcx; subst hcx
      obtain rfl : a = 0 := by omega
      have : aslice H s.sz (.slice none 0 0) (some (vi (0 : Nat))) (some (vi (0 : Nat))) = some (.slice none 0 0) := rfl
      rw [this] at ha; cases ha
      exact .inl ⟨rfl, by simp⟩
    · have hw : w = .slice (some ⟨b, o + a * s.sz, none⟩) (c - a) (c - a) := by
        simp only [aslice, asNat] at ha
        split at ha
        · simp [hcx, hac] at ha; exact ha.symm
        · cases ha
      have hl : ((xs.take c).drop a).length = c - a := by simp; omega
      refine .inr ⟨b, o + a * s.sz, us, fun i => hh (a + i), by rw [hw, hl], h2, ?_, fun i => h4 _, fun i => h5 _, fun i j e => h6 _ _ (by omega), fun i y hy => ?_⟩
      · rw [hl]
        refine ⟨?_, by have := h3.2; omega⟩
        have h7 := h3.1
        have : a * s.sz + (c - a) * s.sz = c * s.sz := by rw [← Nat.add_mul]; congr 1; omega
        have h9 : c * s.sz ≤ xs.length * s.sz := Nat.mul_le_mul_right _ hcx
        omega
      · rw [List.getElem?_drop, List.getElem?_take] at hy
        split at hy
        · have := h7 (a + i) y hy
          have e : o + a * s.sz + i * s.sz = o + (a + i) * s.sz := by rw [Nat.add_mul]; omega
          unfold chk at this ⊢
          rw [e]; exact this
        · cases hy
  · unfold sub at hs
    split at hs
    case isFalse => cases hs
    rename_i hb
    cases hs
    obtain ⟨a, rfl⟩ := Int.eq_ofNat_of_zero_le hb.1
    obtain ⟨c, rfl⟩ := Int.eq_ofNat_of_zero_le (Int.le_trans hb.1 hb.2.1)
    have hac : a ≤ c := by omega
    have hcx : c ≤ xs.length := by omega
    simp only [Int.toNat_natCast]
    rcases q with ⟨rfl, rfl⟩ | ⟨b, o, us, x, rfl, h2, h4, h5, h3, h7⟩
    · simp at hcx; subst hcx
      obtain rfl : a = 0 := by omega
      have : aslice H s.sz (.slice none 0 0) (some (vi (0 : Nat))) (some (vi (0 : Nat))) = some (.slice none 0 0) := rfl
      rw [this] at ha; cases ha
      exact .inl ⟨rfl, by simp⟩
    · have hw : w = .slice (some ⟨b, o + a * s.sz, none⟩) (c - a) (c - a) := by
        simp only [aslice, asNat] at ha
        split at ha
        · simp [hcx, hac] at ha; exact ha.symm
        · cases ha
      have hl : ((xs.take c).drop a).length = c - a := by simp; omega
      refine .inr ⟨b, o + a * s.sz, us, x, by rw [hw, hl], h2, h4, h5, ?_, fun i y hy => ?_⟩
      · rw [hl]
        refine ⟨?_, by have := h3.2; omega⟩
        have h7 := h3.1
        have : a * s.sz + (c - a) * s.sz = c * s.sz := by rw [← Nat.add_mul]; congr 1; omega
        have h9 : c * s.sz ≤ xs.length * s.sz := Nat.mul_le_mul_right _ hcx
        omega
      · rw [List.getElem?_drop, List.getElem?_take] at hy
        split at hy
        · have := h7 (a + i) y hy
          have e : o + a * s.sz + i * s.sz = o + (a + i) * s.sz := by rw [Nat.add_mul]; omega
          unfold chk at this ⊢
          rw [e]; exact this
        · cases hy
end
section
variable {α : Type} {s : Sh α} {Z V : PH} {v : Value} {xs : List α} {L : List It} {T : FuncId → Option AFunc} {Q : AX → Tm → Hp → Prop} {K : List Fk} {tm : Tm} {H : Hp} {l : List DOp} {sl : List Nat} {t : Nat}
theorem o_slcX {x y z : Operand} {sz : Nat} {lo hi : Int} {ys : List α} (hx : ev tm x = v) (hy : ev tm y = vi lo) (hw : ev tm z = vi hi) (hr : RdS s Z v xs) (hZ : Z.le (Hp.ph H)) (hz : s.sz = sz) (hs : sub xs lo hi = some ys)
    (k : ∀ w, RdS s Z w ys → Resl s v xs w ys → R T Q (.ops l :: K) .normal (ub tm t w) H) : R T Q (.ops (⟨some t, .slice sz x (some y) (some z), none, sl⟩ :: l) :: K) .normal tm H := by
  obtain ⟨w, h1, h2⟩ := hr.mid hZ hs hz
  exact o_of rfl (by simp only [aop, Option.map_some, hx, hy, hw, h1]) (k w h2 (resl_of hs (by rw [hz]; exact h1)))
theorem o_slclX {x y : Operand} {sz : Nat} {lo : Int} {ys : List α} (hx : ev tm x = v) (hy : ev tm y = vi lo) (hr : RdS s Z v xs) (hZ : Z.le (Hp.ph H)) (hz : s.sz = sz) (hs : sub xs lo xs.length = some ys)
    (k : ∀ w, RdS s Z w ys → Resl s v xs w ys → R T Q (.ops l :: K) .normal (ub tm t w) H) : R T Q (.ops (⟨some t, .slice sz x (some y) none, none, sl⟩ :: l) :: K) .normal tm H := by
  obtain ⟨w, h1, h2⟩ := hr.mid hZ hs hz
  exact o_of rfl (by simp only [aop, Option.map_some, Option.map_none, hx, hy]; rw [hr.slice_hi hZ _ hz, h1]; rfl) (k w h2 (resl_of hs (by rw [hz]; exact h1)))
theorem o_slchX {x z : Operand} {sz : Nat} {hi : Int} {ys : List α} (hx : ev tm x = v) (hw : ev tm z = vi hi) (hr : RdS s Z v xs) (hZ : Z.le (Hp.ph H)) (hz : s.sz = sz) (hs : sub xs 0 hi = some ys)
    (k : ∀ w, RdS s Z w ys → Resl s v xs w ys → R T Q (.ops l :: K) .normal (ub tm t w) H) : R T Q (.ops (⟨some t, .slice sz x none (some z), none, sl⟩ :: l) :: K) .normal tm H := by
  obtain ⟨w, h1, h2⟩ := hr.mid hZ hs hz
  exact o_of rfl (by simp only [aop, Option.map_some, Option.map_none, hx, hw]; rw [hr.slice_lo hZ _ hz, h1]; rfl) (k w h2 (resl_of hs (by rw [hz]; exact h1)))
theorem o_slnil {x z : Operand} {sz : Nat} (hx : ev tm x = .slice none 0 0) (hw : ev tm z = vi 0) (k : R T Q (.ops l :: K) .normal (ub tm t (.slice none 0 0)) H) : R T Q (.ops (⟨some t, .slice sz x none (some z), none, sl⟩ :: l) :: K) .normal tm H :=
  o_of rfl (by simp only [aop, Option.map_some, Option.map_none, hx, hw]; rfl) k
theorem o_capn {x : Operand} (hx : ev tm x = .slice none 0 0) (k : R T Q (.ops l :: K) .normal (ub tm t (vi 0)) H) : R T Q (.ops (⟨some t, .capn x, none, sl⟩ :: l) :: K) .normal tm H :=
  o_of rfl (by simp only [aop, hx]) k
theorem o_appz {x y : Operand} {sz bytes : Nat} {z : List Value} {n : Int} {e : α} (hS : Sat Z V H L) (hl : s.Lt) (hz : s.sz = sz) (hx : ev tm x = .slice none 0 0) (hy : ev tm y = vi n) (he : s.rd Z z e) (hm : Pu.mkz bytes n e = some xs)
    (k : ∀ w H1, Sat Z V H1 (It.sl s w xs :: L) → R T Q (.ops l :: K) .normal (ub tm t w) H1) : R T Q (.ops (⟨some t, .appz sz bytes z x y, none, sl⟩ :: l) :: K) .normal tm H := by
  unfold Pu.mkz at hm
  split at hm
  case isFalse => cases hm
  rename_i hc
  cases hm
  subst hz
  refine o_of rfl (by simp only [aop, hx, hy]; rw [if_pos ⟨hc.1, hc.2.1⟩]) (k _ _ ((hS.new' (by simp)).conv 0 rfl (sl_of_pts hl (Els.made he n.toNat) (by simp) (by omega) rfl)))
end
section
variable {α : Type} {s : Sh α} {Z V : PH} {v : Value} {xs : List α} {L : List It} {T : FuncId → Option AFunc} {Q : AX → Tm → Hp → Prop} {K : List Fk} {tm : Tm} {H : Hp} {l : List DOp} {sl : List Nat} {t : Nat} {base m ri : Nat} {all : List DOp} {pr : List (Nat × Nat)} {tr : List St}
theorem d_slcX {x y z : Operand} {sz : Nat} {lo hi : Int} {ys : List α} (hb : BLow base v) (hx : ev tm x = v) (hy : ev tm y = vi lo) (hw : ev tm z = vi hi) (hr : RdS s Z v xs) (hZ : Z.le (Hp.ph H)) (hz : s.sz = sz) (hs : sub xs lo hi = some ys)
    (k : ∀ w, RdS s Z w ys → Resl s v xs w ys → R T Q (.dops base m all pr (ri + 1) (tr ++ [(tm, H)]) l :: K) .normal (ub tm t w) H) : R T Q (.dops base m all pr ri tr (⟨some t, .slice sz x (some y) (some z), none, sl⟩ :: l) :: K) .normal tm H := by
  obtain ⟨w, h1, h2⟩ := hr.mid hZ hs hz
  exact d_rd rfl (rd_ok' hb hx) (by simp only [aop, Option.map_some, hx, hy, hw, h1]) (k w h2 (resl_of hs (by rw [hz]; exact h1)))
theorem d_slclX {x y : Operand} {sz : Nat} {lo : Int} {ys : List α} (hb : BLow base v) (hx : ev tm x = v) (hy : ev tm y = vi lo) (hr : RdS s Z v xs) (hZ : Z.le (Hp.ph H)) (hz : s.sz = sz) (hs : sub xs lo xs.length = some ys)
    (k : ∀ w, RdS s Z w ys → Resl s v xs w ys → R T Q (.dops base m all pr (ri + 1) (tr ++ [(tm, H)]) l :: K) .normal (ub tm t w) H) : R T Q (.dops base m all pr ri tr (⟨some t, .slice sz x (some y) none, none, sl⟩ :: l) :: K) .normal tm H := by
  obtain ⟨w, h1, h2⟩ := hr.mid hZ hs hz
  exact d_rd rfl (rd_ok' hb hx) (by simp only [aop, Option.map_some, Option.map_none, hx, hy]; rw [hr.slice_hi hZ _ hz, h1]; rfl) (k w h2 (resl_of hs (by rw [hz]; exact h1)))
theorem d_slchX {x z : Operand} {sz : Nat} {hi : Int} {ys : List α} (hb : BLow base v) (hx : ev tm x = v) (hw : ev tm z = vi hi) (hr : RdS s Z v xs) (hZ : Z.le (Hp.ph H)) (hz : s.sz = sz) (hs : sub xs 0 hi = some ys)
    (k : ∀ w, RdS s Z w ys → Resl s v xs w ys → R T Q (.dops base m all pr (ri + 1) (tr ++ [(tm, H)]) l :: K) .normal (ub tm t w) H) : R T Q (.dops base m all pr ri tr (⟨some t, .slice sz x none (some z), none, sl⟩ :: l) :: K) .normal tm H := by
  obtain ⟨w, h1, h2⟩ := hr.mid hZ hs hz
  exact d_rd rfl (rd_ok' hb hx) (by simp only [aop, Option.map_some, Option.map_none, hx, hw]; rw [hr.slice_lo hZ _ hz, h1]; rfl) (k w h2 (resl_of hs (by rw [hz]; exact h1)))
end
end Go.Ab
