/- What coins and slices.Clone do. Own work. -/
import Derived.Test.YtbehlbabgomhfaaDrawMath
import Derived.Test.YtbehlbabgomhfaaGslices
import Derived.Test.YtbehlbabgomhfaaGparlkeep5
namespace Go.Ab
/-- A list of slices that are read. -/
def RdRows (H : Hp) (v : Value) (rows : List (List Value)) : Prop := ∃ us, Rd H v us ∧ us.length = rows.length ∧ ∀ (i : Nat) (u : Value) (r : List Value), us[i]? = some u → rows[i]? = some r → Rd H u r
theorem RdRows.ext {H H' : Hp} {v : Value} {rows : List (List Value)} (h : RdRows H v rows) (e : Ext H.length H H') : RdRows H' v rows := by
  obtain ⟨us, h1, h2, h3⟩ := h
  exact ⟨us, h1.ext e, h2, fun i u r a b => (h3 i u r a b).ext e⟩
theorem RdRows.congr' {H H' : Hp} {v : Value} {rows : List (List Value)} (h : RdRows H v rows) (e : Ext H.length H H') : RdRows H' v rows := h.ext e
theorem RdRows.len {H : Hp} {v : Value} {rows : List (List Value)} (h : RdRows H v rows) : vlen v = some (vi rows.length) := by
  obtain ⟨us, h1, h2, -⟩ := h
  rw [h1.len, h2]
theorem RdRows.row {H : Hp} {v : Value} {rows : List (List Value)} (h : RdRows H v rows) {i : Nat} {r : List Value} (hi : rows[i]? = some r) : ∃ us u, Rd H v us ∧ us[i]? = some u ∧ Rd H u r := by
  obtain ⟨us, h1, h2, h3⟩ := h
  have : i < us.length := by rw [h2]; exact (List.getElem?_eq_some_iff.1 hi).1
  exact ⟨us, us[i], h1, List.getElem?_eq_getElem this, h3 i _ r (List.getElem?_eq_getElem this) hi⟩
/-- The same, and where the blocks lie. -/
def RdRowsP (p : Nat → Prop) (H : Hp) (v : Value) (rows : List (List Value)) : Prop := ∃ us, Arr H 1 p v us ∧ us.length = rows.length ∧ ∀ (i : Nat) (u : Value) (r : List Value), us[i]? = some u → rows[i]? = some r → Arr H 1 p u r
theorem RdRowsP.any {p : Nat → Prop} {H : Hp} {v : Value} {rows : List (List Value)} (h : RdRowsP p H v rows) : RdRows H v rows := by
  obtain ⟨us, h1, h2, h3⟩ := h
  exact ⟨us, h1.mono fun _ _ => trivial, h2, fun i u r a b => (h3 i u r a b).mono fun _ _ => trivial⟩
theorem RdRowsP.congr {p : Nat → Prop} {H H' : Hp} {v : Value} {rows : List (List Value)} (h : RdRowsP p H v rows) (k : ∀ b, p b → b < H.length → H'[b]? = H[b]?) : RdRowsP p H' v rows := by
  obtain ⟨us, h1, h2, h3⟩ := h
  exact ⟨us, h1.congr k, h2, fun i u r a b => (h3 i u r a b).congr k⟩
/-- A list of slices that is built. -/
structure OwnRows (n : Nat) (H : Hp) (v : Value) (us : List Value) (rows : List (List Value)) : Prop where
  out : Own n H v us
  len : us.length = rows.length
  row : ∀ (i : Nat) (u : Value) (r : List Value), us[i]? = some u → rows[i]? = some r → Own n H u r
  far : ∀ u ∈ us, ∀ b, blkOf u = some b → blkOf v ≠ some b
theorem OwnRows.rd {n : Nat} {H : Hp} {v : Value} {us : List Value} {rows : List (List Value)} (h : OwnRows n H v us rows) : RdRows H v rows := ⟨us, h.out.rd, h.len, fun i u r a b => (h.row i u r a b).rd⟩
theorem OwnRows.rdP {n m : Nat} {H : Hp} {v : Value} {us : List Value} {rows : List (List Value)} (h : OwnRows n H v us rows) (hm : m ≤ n) : RdRowsP (m ≤ ·) H v rows :=
  ⟨us, h.out.arr.mono fun b hb => Nat.le_trans hm hb.1, h.len, fun i u r a b => (h.row i u r a b).arr.mono fun c hc => Nat.le_trans hm hc.1⟩
theorem OwnRows.congr {n : Nat} {H H' : Hp} {v : Value} {us : List Value} {rows : List (List Value)} (h : OwnRows n H v us rows) (k : ∀ b : Nat, n ≤ b → b < H.length → H'[b]? = H[b]?) : OwnRows n H' v us rows :=
  ⟨h.out.congr fun b hb hl => k b (h.out.lt hb).1 hl, h.len, fun i u r a b => (h.row i u r a b).congr fun c hc hl => k c ((h.row i u r a b).lt hc).1 hl, h.far⟩
theorem OwnRows.one {n : Nat} {H : Hp} {v : Value} {us : List Value} {rows : List (List Value)} (h : OwnRows n H v us rows) {u : Value} (hu : u ∈ us) : ∃ r, Own n H u r := by
  obtain ⟨i, hi⟩ := List.getElem?_of_mem hu
  have hlt := (List.getElem?_eq_some_iff.1 hi).1
  rw [h.len] at hlt
  exact ⟨_, h.row i u _ hi (List.getElem?_eq_getElem hlt)⟩

@[simp] theorem V_eqnil (neg : Bool) (a : Option Addr) (n m : Nat) : veq neg .slice (.slice a n m) (.slice none 0 0) = some (.bool (if neg then !a.isNone else a.isNone)) := by
  cases a <;> rfl
/-- Several elements are appended that stand in a new row. -/
theorem N_apps {T : FuncId → Option AFunc} {Q : AX → Tm → Hp → Prop} {K : List Fk} {tm : Tm} {H : Hp} {l : List DOp} {sl : List Nat} {t t' u : Nat} {n m : Nat} {s : Value} {z new cs : List Value} {ps : List (Nat × Nat × Value)} {bytes : Nat}
    (hh : hbs 1 m z ps H.length = some (.slice (some ⟨H.length, 0, none⟩) m m, .rw 1 new)) (hm : new.length = m) (hm0 : new ≠ [])
    (hs : Own n H s cs) (hu : tm u = s) (hut : u ≠ t) (hx : new.all Value.oneCell' = true) (hb : (cs.length + new.length) * bytes ≤ 140737488355328)
    (k : ∀ q v' H', Own (H.length + 1) H' v' (cs ++ new) → blkOf v' = some (H.length + 1) → H'.length = H.length + 2 → (∀ b : Nat, b < H.length → blkOf s ≠ some b → H'[b]? = H[b]?) → R T Q (.ops l :: K) .normal (upd (upd tm t q) t' v') H') :
    Nn T Q (hbs 1 m z ps H.length) (some t) (⟨some t', .append 1 bytes (.tmp u) (.tmp t), none, sl⟩ :: l) K tm H := by
  have h2 : Own n (H ++ [.rw 1 new]) s cs := hs.congr fun b _ hb => get_left hb
  have hq : Arr (H ++ [.rw 1 new]) 1 (fun _ => True) (.slice (some ⟨H.length, 0, none⟩) m m) new := by
    have hb : (H ++ [Blk.rw 1 new])[H.length]? = some (.rw 1 new) := get_at rfl
    exact ⟨.inr ⟨H.length, 0, m, new, rfl, by simp [Hp.cells, hb], by simp [Hp.esz, hb, Blk.esz], by omega, by simp [← hm], trivial⟩⟩
  obtain ⟨v', H', ha, ho, hbk, hl, hk⟩ := own_append h2 hq hm0 hx hb
  rw [hh, Nn_some, S_append]
  simp only [put_some, ev_tmp, upd_app, if_true, if_neg hut, hu, ha, Nx_some]
  simp only [List.length_append, List.length_singleton] at ho hbk hl hk
  exact k _ _ _ ho hbk (by omega) fun b hb hne => (hk b (by omega) hne).trans (get_left hb)
end Go.Ab
namespace Go.Proofs.Ytbehlbabgomhfaa
open Go Go.Ab Go.Ab.Coin

variable {T : FuncId → Option AFunc}

theorem clone_spec [Has T I.slices_Clone_bool_bool F.slices_Clone_bool_bool] {H : Hp} {v : Value} {cs : List Value} (hv : Rd H v cs) (hx : cs.all Value.oneCell' = true) (hl : cs.length ≤ 140737488355328) :
    G T I.slices_Clone_bool_bool [v] H (fun r H' => Own H.length H' r cs ∧ Ext H.length H H') := by
  refine G.mk ?_
  rcases hv.at' with ⟨rfl, rfl⟩ | ⟨b, o, n, us, rfl, h2, h3, h4, hcs, -⟩
  · simp [F.slices_Clone_bool_bool, F.slices_Clone_bool_bool.c, F.slices_Clone_bool_bool.r0, F.slices_Clone_bool_bool.r1, F.slices_Clone_bool_bool.r2]
    exact ⟨Own.nil _ _, Ext.refl _ _⟩
  · simp [F.slices_Clone_bool_bool, F.slices_Clone_bool_bool.c, F.slices_Clone_bool_bool.r0, F.slices_Clone_bool_bool.r1, F.slices_Clone_bool_bool.r3, hbs, bfill]
    have hE : Ext H.length H (H ++ [.rw 1 []]) := Ext.app _ _ (Nat.le_refl _)
    have hv1 : Rd (H ++ [.rw 1 []]) (.slice (some ⟨b, o, none⟩) n n) cs := hv.ext hE
    have hs1 : Own H.length (H ++ [.rw 1 []]) (.slice (some ⟨H.length, 0, none⟩) 0 0) [] := .inr ⟨H.length, Nat.le_refl _, rfl, get_at rfl⟩
    by_cases hc : cs = []
    · have hn : n = 0 := by
        have := congrArg List.length hcs
        rw [hc] at this
        simp at this; omega
      have : aappend 1 1 (.slice (some ⟨H.length, 0, none⟩) 0 0) (.slice (some ⟨b, o, none⟩) n n) (H ++ [.rw 1 []]) = some (.slice (some ⟨H.length, 0, none⟩) 0 0, H ++ [.rw 1 []]) := by
        rcases hv1.at' with ⟨h, -⟩ | ⟨b', o', n', us', h, g2, g3, g4, -, -⟩
        · cases h
        · cases h
          subst hn
          have g4' : o ≤ us'.length := by omega
          simp [aappend, slcells, Hp.load, g2, g4']
      rw [this]
      simp
      rw [hc]; exact ⟨hs1, hE⟩
    · obtain ⟨v', H', ha, ho, hbk, hl', hk⟩ := own_append (bytes := 1) hs1 hv1 hc hx (by simpa using hl)
      rw [ha]
      simp at ho hl' hk ⊢
      exact ⟨ho.less (by omega), by omega, fun c hc => by rw [hk c (by omega) (by simp [blkOf]; omega), get_left hc]⟩
end Go.Proofs.Ytbehlbabgomhfaa
