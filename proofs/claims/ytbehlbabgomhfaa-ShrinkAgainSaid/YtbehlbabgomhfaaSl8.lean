/- Slices that own their elements (printed by wip/tools/mk8.py). Own work. -/
import Derived.Test.YtbehlbabgomhfaaSl7
namespace Go.Ab
open Go Go.Pu

section
variable {α : Type} {Z V : PH} {H : Hp} {L : List It} {s : Sh α} {v w : Value} {xs : List (List α)}
theorem Sat.foc (n : Nat) (ht : L[n]? = some (It.sl s.sl v xs)) (h : Sat Z V H L) {j : Int} {u : List α} (hj : ix xs j = some u) {p : Value} (hp : vidxs 1 v (vi j) = some p) :
    ∃ w, vload H 1 false p = some w ∧ Sat Z V H (It.sl s w u :: L.set n (It.hole s.sl v xs j.toNat [w])) := by
  obtain ⟨cs, h1, h2, h3⟩ := h.focus n ht hj rfl hp
  obtain ⟨w, rfl⟩ : ∃ w, cs = [w] := List.length_eq_one_iff.1 h1
  exact ⟨w, h2 false, it_sl h3⟩
theorem Sat.unfoc {j : Int} {u : List α} (n : Nat) (ht : L[n]? = some (It.hole s.sl v xs j.toNat [w])) (h : Sat Z V H (It.sl s w u :: L)) : Sat Z V H (L.set n (It.sl s.sl v (Pu.st xs j u))) := (sl_it h).unfocus n ht
theorem OwS.one {h : PH} {us : List α} (q : OwS s Z h w us) : w.cells = #[w] ∧ w.oneCell' = true := by
  rcases q with ⟨rfl, -⟩ | ⟨b, o, us, x, rfl, -⟩ <;> exact ⟨rfl, rfl⟩
theorem Sat.hst {j : Int} {u0 : List α} {cs : List Value} (n : Nat) (ht : L[n]? = some (It.hole s.sl v xs j.toNat cs)) (h : Sat Z V H L) (hj : ix xs j = some u0) {p : Value} (hp : vidxs 1 v (vi j) = some p) (hw : w.cells = #[w] ∧ w.oneCell' = true) :
    ∃ H1, hstore 1 p w H = some H1 ∧ Sat Z V H1 (L.set n (It.hole s.sl v xs j.toNat [w])) := by
  obtain ⟨h1, h2, -⟩ := ix_lt hj
  exact h.hset n ht rfl h1 h2 hp (by rw [hw.1]) rfl (by simp [hw.2])
/-- An element is given away to the slice. -/
theorem Sat.stH {j : Int} {u0 u : List α} (n : Nat) (ht : L[n]? = some (It.sl s.sl v xs)) (h : Sat Z V H (It.sl s w u :: L)) (hj : ix xs j = some u0) {p : Value} (hp : vidxs 1 v (vi j) = some p) :
    ∃ H1, hstore 1 p w H = some H1 ∧ Sat Z V H1 (L.set n (It.sl s.sl v (Pu.st xs j u))) := by
  have ho := (h.curS 0 rfl).one
  obtain ⟨w0, -, h2⟩ := h.foc (n + 1) (by simpa using ht) hj hp
  have h3 := h2.drop 0
  simp only [List.eraseIdx_cons_zero, List.set_cons_succ] at h3
  have hlt := (List.getElem?_eq_some_iff.1 ht).1
  obtain ⟨H1, h4, h5⟩ := Sat.hst (s := s) (v := v) (xs := xs) (j := j) (cs := [w0]) (n + 1) (by simp [hlt]) h3 hj hp ho
  refine ⟨H1, h4, ?_⟩
  simp only [List.set_cons_succ, List.set_set] at h5
  have h6 := Sat.unfoc (s := s) (v := v) (xs := xs) (w := w) (j := j) (L := L.set n (It.hole s.sl v xs j.toNat [w])) n (by simp [hlt]) h5
  simpa [List.set_set] using h6
/-- A list of one element that is given away. -/
theorem own1 {u : List α} {k : Nat} (h : Sat Z V H (pts k (.rw 1 [w]) :: It.sl s w u :: L)) : Sat Z V H (It.sl s.sl (.slice (some ⟨k, 0, none⟩) 1 1) [u] :: L) := by
  refine h.join.conv 0 (t := (pts k (.rw 1 [w])).sep (It.sl s w u)) (u := It.sl s.sl (.slice (some ⟨k, 0, none⟩) 1 1) [u]) rfl fun F q hF ⟨q1, q2, a, b, d, e1, e2⟩ => ?_
  have hk : q2 k = none := by
    cases e : q2 k with
    | none => rfl
    | some z => exact absurd (d _ _ _ e1 e) id
  refine .inr ⟨k, 0, [w], fun i => if i = 0 then q2 else .emp, rfl, a _ _ e1, ⟨by simp [Sh.sl], by simp⟩, fun i => ?_, fun i => ?_, fun i i' e => ?_, fun i y hy => ?_⟩
  · dsimp only; split
    · exact b
    · exact PH.emp_le _
  · dsimp only; split
    · exact hk
    · rfl
  · dsimp only; split
    · split
      · omega
      · exact PH.dis_emp _
    · exact PH.emp_dis _
  · cases i with
    | zero => simp at hy; subst hy; exact ⟨w, rfl, e2⟩
    | succ i => simp at hy
/-- An element of an element is written. -/
theorem Sat.set2 {j i2 : Int} {u : List α} {e0 e : α} {p p2 val : Value} {cs : List Value} {sz : Nat} (n : Nat) (ht : L[n]? = some (It.sl s.sl v xs)) (hlt : s.Lt) (hz : s.sz = sz) (hp : vidxs 1 v (vi j) = some p) (hj : ix xs j = some u) (hl : vload H 1 false p = some w)
    (hp2 : vidxs sz w (vi i2) = some p2) (hk : ix u i2 = some e0) (hc : val.cells.toList = cs) (hr : s.rd Z cs e) (hS : Sat Z V H L) : ∃ H1, hstore sz p2 val H = some H1 ∧ Sat Z V H1 (L.set n (It.sl s.sl v (Pu.st xs j (Pu.st u i2 e)))) := by
  obtain ⟨w', h1, h2⟩ := hS.foc n ht hj hp
  rw [hl] at h1; cases h1
  obtain ⟨H1, h3, h4⟩ := h2.set 0 rfl hlt hz hk hp2 hc hr
  simp only [List.set_cons_zero] at h4
  have hlt' := (List.getElem?_eq_some_iff.1 ht).1
  have h5 := Sat.unfoc (s := s) (v := v) (xs := xs) (w := w) (j := j) (L := L.set n (It.hole s.sl v xs j.toNat [w])) n (by simp [hlt']) h4
  rw [List.set_set] at h5
  exact ⟨H1, h3, h5⟩
theorem st_same {xs : List α} {j : Int} {u : α} (h : ix xs j = some u) : Pu.st xs j u = xs := by
  obtain ⟨h1, h2, h3⟩ := ix_lt h
  unfold Pu.st
  apply List.ext_getElem?
  intro i
  by_cases e : i = j.toNat
  · subst e; rw [List.getElem?_set_self (by omega), h3]
  · rw [List.getElem?_set_ne (fun q => e q.symm)]
theorem Sat.mksH {sz bytes : Nat} (h : Sat Z V H L) {n c : Int} (hm : Pu.mk bytes n c ([] : List α) = some xs) (hz : sz = 1) :
    ∃ (v : Nat → Value) (b : Blk), (∀ k, hmks sz bytes [.slice none 0 0] (vi n) (vi c) k = some (v k, b)) ∧ b ≠ .dead ∧ ∀ (k : Nat) (H' : Hp), Sat Z V H' (pts k b :: L) → Sat Z V H' (It.sl s.sl (v k) xs :: L) := by
  subst hz
  unfold Pu.mk at hm
  split at hm
  case isFalse => cases hm
  rename_i hc
  cases hm
  have he : Els s.sl Z (madeCells [Value.slice none 0 0].toArray (n.toNat * 1)).toList (List.replicate n.toNat ([] : List α)) := Els.made (s := s.sl) (sl_ro RdS.nil) n.toNat
  refine ⟨fun k => .slice (some ⟨k, 0, none⟩) n.toNat n.toNat, .rw 1 (madeCells [Value.slice none 0 0].toArray (n.toNat * 1)).toList, fun k => ?_, by simp, fun k H' h' => h'.conv 0 rfl fun F q hF e => ?_⟩
  · simp only [hmks]
    rw [if_pos ⟨hc.1, hc.2.1, hc.2.2.1, by omega⟩]
  · refine .inr ⟨k, 0, _, fun _ => .emp, by simp, e, ⟨by rw [he.1]; show 0 + _ * 1 ≤ _; simp [Sh.sl], by simp; omega⟩, fun _ => PH.emp_le _, fun _ => rfl, fun _ _ _ => PH.emp_dis _, fun i y hy => ?_⟩
    have h1 := he.2 i y hy
    obtain ⟨w', e1, e2⟩ := h1
    rw [List.getElem?_replicate] at hy
    split at hy
    · cases hy
      have hlt : i < n.toNat := by assumption
      have := chk_made [Value.slice none 0 0] n.toNat i hlt
      exact ⟨.slice none 0 0, this, .inl ⟨rfl, rfl⟩⟩
    · cases hy
end
section
variable {α : Type} {Z V : PH} {H : Hp} {L : List It} {s : Sh α} {v q : Value} {xs ys zs : List α}
/-- Elements that are owned are appended: those of a new row. -/
theorem Sat.appH {sz : Nat} (n : Nat) (ht : L[n]? = some (It.sl s v xs)) (h : Sat Z V H (It.sl s q ys :: L)) (hz : s.sz = sz) {bytes : Nat} (hby : 0 < bytes) (ha : Pu.app bytes xs ys = some zs) (hne : ys ≠ []) :
    ∃ v' H1, aappend sz bytes v q H = some (v', H1) ∧ Sat Z V H1 (L.set n (It.sl s v' zs)) := by
  subst hz
  have hlim : xs.length + ys.length ≤ 281474976710656 := by
    unfold Pu.app at ha
    split at ha
    · rename_i hb; have := Nat.le_mul_of_pos_right (xs.length + ys.length) hby; omega
    · cases ha
  unfold Pu.app at ha
  split at ha
  case isFalse => cases ha
  rename_i hb
  cases ha
  have hq := h.curS 0 rfl
  have h0 : ys.length ≠ 0 := fun e => hne (List.eq_nil_of_length_eq_zero e)
  obtain ⟨new, hn1, hn2, hn3, hn4⟩ := slcells_of hq (PH.le.refl _) rfl
  have hlt := (List.getElem?_eq_some_iff.1 ht).1
  have hg : Sat Z V H (L.set n ((It.sl s q ys).sep (It.sl s v xs))) := h.glue n ht fun F h1 h2 k _ a b d e1 e2 => ⟨h1, h2, a, b, d, e1, e2⟩
  have hgn : (L.set n ((It.sl s q ys).sep (It.sl s v xs)))[n]? = some ((It.sl s q ys).sep (It.sl s v xs)) := by simp [hlt]
  have hset : ∀ u, (L.set n ((It.sl s q ys).sep (It.sl s v xs))).set n u = L.set n u := fun u => by simp
  -- the new elements, with their owners
  have hel : ∀ {F h1 : PH}, Z.le F → h1.le (Hp.ph H) → (It.sl s q ys).P F h1 → ∃ hs : Nat → PH, (∀ i, (hs i).le h1) ∧ (∀ i j, i ≠ j → (hs i).dis (hs j)) ∧ ∀ (i : Nat) (y : α), ys[i]? = some y → s.ow F (hs i) (chk new 0 s.sz i) y := by
    intro F h1 hF h1H hp
    rcases hp with ⟨rfl, rfl⟩ | ⟨b, o, us, hs, rfl, q2, q3, q4, q5, q6, q7⟩
    · exact absurd rfl hne
    · refine ⟨hs, q4, q6, fun i y hy => ?_⟩
      have hcs : slcells H s.sz (.slice (some ⟨b, o, none⟩) ys.length ys.length) = some (ys.length, (us.drop o).take (ys.length * s.sz)) := by
        simp only [slcells, Option.isNone_none, if_true, Hp.load, show Hp.cells H b = some us by rw [cells_of (ph_get h1H q2)]; rfl, if_pos q3.1, Option.map_some]
      rw [hcs] at hn1; simp only [Option.some.injEq, Prod.mk.injEq, true_and] at hn1
      rw [← hn1, chk_take_drop us o s.sz i ys.length (List.getElem?_eq_some_iff.1 hy).1]
      exact q7 i y hy
  have hvc := (h.curS (n + 1) (by simpa using ht) : RdS s (Hp.ph H) v xs)
  rcases hvc with ⟨rfl, rfl⟩ | ⟨b, o, us, x, rfl, h4, h5, h6, h7, -⟩
  · refine ⟨.slice (some ⟨H.length, 0, none⟩) ys.length ys.length, H ++ [.rw s.sz new], ?_, ?_⟩
    · simp only [aappend, hn1, if_neg h0]
      rw [if_pos ⟨by simpa using hb, hn3⟩]
    · rw [← hset]
      refine hg.act n hgn fun F k hF hk ⟨k1, k2, a1, a2, d, e1, e2⟩ => ?_
      obtain ⟨hs, f1, f2, f3⟩ := hel hF (a1.trans hk) e1
      have hkn : ∀ {g : PH}, g.le k → g H.length = none := fun {g} hg => by
        cases e : g H.length with
        | none => rfl
        | some z => have := lt_of_get (ph_get hk (hg _ _ e)); omega
      refine ⟨k1.upd H.length (.rw s.sz new), .inr ⟨H.length, 0, new, hs, by simp, PH.upd_same .., ⟨by simp [hn2], by simp at hlim ⊢; exact hlim⟩, fun i c y e => ?_, fun i => hkn ((f1 i).trans a1), f2, fun i y hy => f3 i y (by simpa using hy)⟩, fun c y e => ?_, fun c y e => ?_, fun c y e _ => ph_app _ _ _ _ e⟩
      · have : c ≠ H.length := fun e' => by subst e'; rw [hkn ((f1 i).trans a1)] at e; cases e
        rw [PH.upd_ne _ _ this]; exact f1 i _ _ e
      · by_cases hc : c = H.length
        · subst hc; rw [PH.upd_same] at e; cases e; exact ph_some.2 ⟨get_at rfl, by simp⟩
        · rw [PH.upd_ne _ _ hc] at e; exact ph_app _ _ _ _ (hk _ _ (a1 _ _ e))
      · by_cases hc : c = H.length
        · subst hc; right; simp [Hp.ph]
        · rw [PH.upd_ne _ _ hc] at e; exact .inl ⟨y, a1 _ _ e⟩
  · have h7 := h7.1
    have hb1 := (ph_some.1 h4).1
    have hblt := lt_of_get hb1
    have hcs : slcells H s.sz (.slice (some ⟨b, o, none⟩) xs.length xs.length) = some (xs.length, (us.drop o).take (xs.length * s.sz)) := by
      simp only [slcells, Option.isNone_none, if_true, Hp.load, show Hp.cells H b = some us by rw [cells_of hb1]; exact h5, if_pos h7, Option.map_some]
    have hlo : ((us.drop o).take (xs.length * s.sz)).length = xs.length * s.sz := by simp; omega
    have hrw : x = .rw s.sz us := by
      obtain ⟨-, -, N, hs, c, d, e, f, g, k, m⟩ := h
      rcases m (n + 1) _ (by simpa using ht) with ⟨q, -⟩ | ⟨b', o', us', hs', q1, q2, -⟩
      · cases q
      · cases q1
        have := e (n + 1) _ _ q2
        rw [h4] at this; cases this
        simp at h5; rw [h5]
    subst hrw
    refine ⟨.slice (some ⟨H.length, 0, none⟩) (xs.length + ys.length) (xs.length + ys.length), List.set H b .dead ++ [.rw s.sz ((us.drop o).take (xs.length * s.sz) ++ new)], ?_, ?_⟩
    · simp only [aappend, hn1, hb1, hcs, if_neg h0]
      rw [if_pos ⟨trivial, trivial, hb, hn3⟩]
    · rw [← hset]
      refine hg.act n hgn fun F k hF hk ⟨k1, k2, a1, a2, d, e1, e2⟩ => ?_
      obtain ⟨hs, f1, f2, f3⟩ := hel hF (a1.trans hk) e1
      rcases e2 with ⟨q, -⟩ | ⟨b', o', us', hs', q1, q2, q3, q4, q5, q6, q7⟩
      · cases q
      · simp only [Value.slice.injEq, Option.some.injEq, Addr.mk.injEq, and_true] at q1
        obtain ⟨⟨rfl, rfl⟩, -, -⟩ := q1
        have hus : us' = us := by
          have := ph_get (a2.trans hk) q2
          rw [hb1] at this; cases this; rfl
        subst hus
        have hkn : ∀ c y, k c = some y → c ≠ H.length := fun c y e e' => by
          have := lt_of_get (ph_get hk e); omega
        have hk1b : k1 b = none := by
          cases e : k1 b with
          | none => rfl
          | some z => exact absurd (d _ _ _ e q2) id
        have hdl : ∀ {g : PH}, g.le k → g b = none → g.le ((k.del b).upd H.length (.rw s.sz ((us'.drop o).take (xs.length * s.sz) ++ new))) := fun {g} hg hgb c z e => by
          rw [PH.upd_ne _ _ (hkn c z (hg _ _ e))]
          have : c ≠ b := fun e' => by subst e'; rw [hgb] at e; cases e
          unfold PH.del; rw [if_neg this]; exact hg _ _ e
        have hnH : ∀ {g : PH}, g.le k → g H.length = none := fun {g} hg => by
          cases e : g H.length with
          | none => rfl
          | some z => exact absurd rfl (hkn _ _ (hg _ _ e))
        refine ⟨(k.del b).upd H.length (.rw s.sz ((us'.drop o).take (xs.length * s.sz) ++ new)), .inr ⟨H.length, 0, (us'.drop o).take (xs.length * s.sz) ++ new, fun i => if i < xs.length then hs' i else hs (i - xs.length), by simp, PH.upd_same .., ⟨?_, by simpa using hlim⟩, fun i => ?_, fun i => ?_, fun i i' e => ?_, fun i y hy => ?_⟩, fun c y e => ?_, fun c y e => ?_, fun c y e e' => ?_⟩
        · simp only [List.length_append, hlo, hn2]; rw [Nat.add_mul]; omega
        · dsimp only; split
          · exact hdl ((q4 i).trans a2) (q5 i)
          · refine hdl ((f1 _).trans a1) ?_
            cases e : hs (i - xs.length) b with
            | none => rfl
            | some z => have := f1 _ _ _ e; rw [hk1b] at this; cases this
        · dsimp only; split
          · exact hnH ((q4 i).trans a2)
          · exact hnH ((f1 _).trans a1)
        · dsimp only; split
          · split
            · exact q6 i i' e
            · exact (d.le (f1 _) (q4 _)).symm
          · split
            · exact d.le (f1 _) (q4 _)
            · exact f2 _ _ (by omega)
        · dsimp only
          rw [List.getElem?_append] at hy
          split at hy
          · rename_i hi
            rw [if_pos hi, chk_app_left _ _ 0 s.sz i xs.length hi (by rw [hlo]; omega), chk_take_drop us' o s.sz i xs.length hi]
            exact q7 i y hy
          · rename_i hi
            rw [if_neg hi, chk_app_right _ _ xs.length s.sz i hlo (by omega)]
            exact f3 _ y hy
        · by_cases hc : c = H.length
          · subst hc; rw [PH.upd_same] at e; cases e; exact ph_some.2 ⟨get_at (by simp), by simp⟩
          · rw [PH.upd_ne _ _ hc] at e
            unfold PH.del at e
            split at e
            · cases e
            · rename_i hcb
              have h1 := ph_some.1 (hk _ _ e)
              have h2 := lt_of_get h1.1
              exact ph_some.2 ⟨by rw [get_left (by simpa using h2), get_other hcb]; exact h1.1, h1.2⟩
        · by_cases hc : c = H.length
          · subst hc; right; simp [Hp.ph]
          · rw [PH.upd_ne _ _ hc] at e
            exact .inl ⟨y, PH.del_le _ _ _ _ e⟩
        · have hcb : c ≠ b := fun e'' => by subst e''; rw [a2 _ _ q2] at e'; cases e'
          have h1 := ph_some.1 e
          have h2 := lt_of_get h1.1
          exact ph_some.2 ⟨by rw [get_left (by simpa using h2), get_other hcb]; exact h1.1, h1.2⟩
end
section
variable {T : FuncId → Option AFunc} {Q : AX → Tm → Hp → Prop} {K : List Fk} {tm : Tm} {H : Hp} {l : List DOp} {sl : List Nat} {t : Nat} {base m ri : Nat} {all : List DOp} {pr : List (Nat × Nat)} {tr : List St}
variable {α : Type} {Z V : PH} {L : List It} {s : Sh α} {v w : Value} {xs : List (List α)}

theorem o_foc {x : Operand} {j : Int} {u : List α} {p : Value} (n : Nat) (hS : Sat Z V H L) (ht : L[n]? = some (It.sl s.sl v xs)) (hx : ev tm x = p) (hp : vidxs 1 v (vi j) = some p) (hj : ix xs j = some u)
    (k : ∀ w, Sat Z V H (It.sl s w u :: L.set n (It.hole s.sl v xs j.toNat [w])) → R T Q (.ops l :: K) .normal (ub tm t w) H) : R T Q (.ops (⟨some t, .load 1 false x, none, sl⟩ :: l) :: K) .normal tm H := by
  obtain ⟨w, h1, h2⟩ := hS.foc n ht hj hp
  exact o_of rfl (by rw [A_load, hx, h1]; rfl) (k w h2)
theorem o_idxh {x y : Operand} {j jh : Int} {u : List α} {cs : List Value} (n : Nat) (hS : Sat Z V H L) (ht : L[n]? = some (It.hole s.sl v xs jh.toNat cs)) (hx : ev tm x = v) (hy : ev tm y = vi j) (hz : s.sl.sz = 1) (hj : ix xs j = some u) (k : ∀ p, vidxs 1 v (vi j) = some p → R T Q (.ops l :: K) .normal (ub tm t p) H) :
    R T Q (.ops (⟨some t, .idxs 1 x y, none, sl⟩ :: l) :: K) .normal tm H := by
  obtain ⟨h1, h2, -⟩ := ix_lt hj
  obtain ⟨b, o, hv⟩ : ∃ (b o : Nat), v = .slice (some ⟨b, o, none⟩) xs.length xs.length := by
    obtain ⟨-, -, N, hs, c, d, e, f, g, k, m⟩ := hS
    obtain ⟨b, o, us, hs', q1, -⟩ := m n _ ht
    exact ⟨b, o, q1⟩
  have hp : vidxs 1 v (vi j) = some (.pointer (some ⟨b, o + j.toNat * 1, none⟩)) := by rw [hv, V_idxs, if_pos ⟨h1, h2⟩]
  exact o_of rfl (by rw [A_idxs, hx, hy, hp]; rfl) (k _ hp)
theorem o_hst {x y : Operand} {j : Int} {u0 : List α} {cs : List Value} {p : Value} (n : Nat) (hS : Sat Z V H L) (ht : L[n]? = some (It.hole s.sl v xs j.toNat cs)) (hx : ev tm x = p) (hy : ev tm y = w) (hp : vidxs 1 v (vi j) = some p) (hj : ix xs j = some u0) (hw : w.cells = #[w] ∧ w.oneCell' = true)
    (k : ∀ H1, Sat Z V H1 (L.set n (It.hole s.sl v xs j.toNat [w])) → R T Q (.ops l :: K) .normal tm H1) : R T Q (.ops (⟨none, .store 1 x y, none, sl⟩ :: l) :: K) .normal tm H := by
  obtain ⟨H1, h1, h2⟩ := hS.hst n ht hj hp hw
  have h3 : aop (.store 1 x y) tm H = some (undef, H1) := by rw [A_store, hx, hy, h1]; rfl
  exact o_of0 rfl h3 (k H1 h2)
theorem o_stH {x y : Operand} {j : Int} {u0 u : List α} {p : Value} (n : Nat) (hS : Sat Z V H (It.sl s w u :: L)) (ht : L[n]? = some (It.sl s.sl v xs)) (hx : ev tm x = p) (hy : ev tm y = w) (hp : vidxs 1 v (vi j) = some p) (hj : ix xs j = some u0)
    (k : ∀ H1, Sat Z V H1 (L.set n (It.sl s.sl v (Pu.st xs j u))) → R T Q (.ops l :: K) .normal tm H1) : R T Q (.ops (⟨none, .store 1 x y, none, sl⟩ :: l) :: K) .normal tm H := by
  obtain ⟨H1, h1, h2⟩ := hS.stH n ht hj hp
  have h3 : aop (.store 1 x y) tm H = some (undef, H1) := by rw [A_store, hx, hy, h1]; rfl
  exact o_of0 rfl h3 (k H1 h2)
theorem o_appH {x y : Operand} {bytes : Nat} {q : Value} {ys zs : List (List α)} (n : Nat) (hS : Sat Z V H (It.sl s.sl q ys :: L)) (ht : L[n]? = some (It.sl s.sl v xs)) (hx : ev tm x = v) (hy : ev tm y = q) (hby : 0 < bytes) (ha : Pu.app bytes xs ys = some zs) (hne : ys ≠ [])
    (k : ∀ w H1, Sat Z V H1 (L.set n (It.sl s.sl w zs)) → R T Q (.ops l :: K) .normal (ub tm t w) H1) : R T Q (.ops (⟨some t, .append 1 bytes x y, none, sl⟩ :: l) :: K) .normal tm H := by
  obtain ⟨w, H1, h1, h2⟩ := hS.appH (sz := 1) n ht rfl hby ha hne
  have h3 : aop (.append 1 bytes x y) tm H = some (w, H1) := by rw [A_append, hx, hy, h1]
  exact o_of rfl h3 (k w H1 h2)

theorem o_ldsv {x : Operand} {j : Int} {u : List α} {p : Value} (hx : ev tm x = p) (hr : RdS s.sl Z v xs) (hZ : Z.le (Hp.ph H)) (hp : vidxs 1 v (vi j) = some p) (hj : ix xs j = some u)
    (k : ∀ w, RdS s Z w u → vload H 1 false p = some w → R T Q (.ops l :: K) .normal (ub tm t w) H) : R T Q (.ops (⟨some t, .load 1 false x, none, sl⟩ :: l) :: K) .normal tm H := by
  obtain ⟨cs, h1, h2, h3⟩ := hr.at' hZ hj rfl hp
  obtain ⟨w, rfl, h4⟩ := h1
  exact o_of rfl (by rw [A_load, hx, show vload H 1 false p = some w from h3 false]; rfl) (k w h4 (h3 false))
theorem o_st2 {x y : Operand} {j i2 : Int} {u : List α} {e0 e : α} {p p2 val : Value} {cs : List Value} {sz : Nat} (n : Nat) (hS : Sat Z V H L) (ht : L[n]? = some (It.sl s.sl v xs)) (hlt : s.Lt) (hz : s.sz = sz) (hx : ev tm x = p2) (hy : ev tm y = val) (hp : vidxs 1 v (vi j) = some p) (hj : ix xs j = some u) (hl : vload H 1 false p = some w)
    (hp2 : vidxs sz w (vi i2) = some p2) (hk : ix u i2 = some e0) (hc : val.cells.toList = cs) (hr : s.rd Z cs e) (k : ∀ H1, Sat Z V H1 (L.set n (It.sl s.sl v (Pu.st xs j (Pu.st u i2 e)))) → R T Q (.ops l :: K) .normal tm H1) : R T Q (.ops (⟨none, .store sz x y, none, sl⟩ :: l) :: K) .normal tm H := by
  obtain ⟨H1, h1, h2⟩ := hS.set2 n ht hlt hz hp hj hl hp2 hk hc hr
  have h3 : aop (.store sz x y) tm H = some (undef, H1) := by rw [A_store, hx, hy, h1]; rfl
  exact o_of0 rfl h3 (k H1 h2)
theorem o_st3 {x y : Operand} {v : Value} {xs : List (List (List α))} {j i2 i3 : Int} {u : List (List α)} {u2 : List α} {e0 e : α} {w2 p p2 p3 val : Value} {cs : List Value} {sz : Nat} (n : Nat) (hS : Sat Z V H L) (ht : L[n]? = some (It.sl s.sl.sl v xs)) (hlt : s.Lt) (hz : s.sz = sz) (hx : ev tm x = p3) (hy : ev tm y = val) (hp : vidxs 1 v (vi j) = some p) (hj : ix xs j = some u) (hl : vload H 1 false p = some w)
    (hp2 : vidxs 1 w (vi i2) = some p2) (hj2 : ix u i2 = some u2) (hl2 : vload H 1 false p2 = some w2) (hp3 : vidxs sz w2 (vi i3) = some p3) (hk : ix u2 i3 = some e0) (hc : val.cells.toList = cs) (hr : s.rd Z cs e) (k : ∀ H1, Sat Z V H1 (L.set n (It.sl s.sl.sl v (Pu.st xs j (Pu.st u i2 (Pu.st u2 i3 e))))) → R T Q (.ops l :: K) .normal tm H1) : R T Q (.ops (⟨none, .store sz x y, none, sl⟩ :: l) :: K) .normal tm H := by
  obtain ⟨w', h1, h2⟩ := hS.foc n ht hj hp
  rw [hl] at h1; cases h1
  obtain ⟨H1, h3, h4⟩ := h2.set2 (s := s) (n := 0) rfl hlt hz hp2 hj2 hl2 hp3 hk hc hr
  simp only [List.set_cons_zero] at h4
  have hlt' := (List.getElem?_eq_some_iff.1 ht).1
  have h5 := Sat.unfoc (s := s.sl) (v := v) (xs := xs) (w := w) (j := j) (L := L.set n (It.hole s.sl.sl v xs j.toNat [w])) n (by simp [hlt']) h4
  rw [List.set_set] at h5
  have h6 : aop (.store sz x y) tm H = some (undef, H1) := by rw [A_store, hx, hy, h3]; rfl
  exact o_of0 rfl h6 (k H1 h5)

theorem d_foc {x : Operand} {j : Int} {u : List α} {p : Value} (hb : BLow base v) (n : Nat) (hS : Sat Z V H L) (ht : L[n]? = some (It.sl s.sl v xs)) (hx : ev tm x = p) (hp : vidxs 1 v (vi j) = some p) (hj : ix xs j = some u)
    (k : ∀ w, Sat Z V H (It.sl s w u :: L.set n (It.hole s.sl v xs j.toNat [w])) → R T Q (.dops base m all pr (ri + 1) (tr ++ [(tm, H)]) l :: K) .normal (ub tm t w) H) : R T Q (.dops base m all pr ri tr (⟨some t, .load 1 false x, none, sl⟩ :: l) :: K) .normal tm H := by
  obtain ⟨w, h1, h2⟩ := hS.foc n ht hj hp
  exact d_rd rfl (rd_ok hb hx hp) (by rw [A_load, hx, h1]; rfl) (k w h2)
theorem d_idxh {x y : Operand} {j jh : Int} {u : List α} {cs : List Value} (n : Nat) (hS : Sat Z V H L) (ht : L[n]? = some (It.hole s.sl v xs jh.toNat cs)) (hx : ev tm x = v) (hy : ev tm y = vi j) (hz : s.sl.sz = 1) (hj : ix xs j = some u) (k : ∀ p, vidxs 1 v (vi j) = some p → R T Q (.dops base m all pr (ri + 1) (tr ++ [(tm, H)]) l :: K) .normal (ub tm t p) H) :
    R T Q (.dops base m all pr ri tr (⟨some t, .idxs 1 x y, none, sl⟩ :: l) :: K) .normal tm H := by
  obtain ⟨h1, h2, -⟩ := ix_lt hj
  obtain ⟨b, o, hv⟩ : ∃ (b o : Nat), v = .slice (some ⟨b, o, none⟩) xs.length xs.length := by
    obtain ⟨-, -, N, hs, c, d, e, f, g, k, m⟩ := hS
    obtain ⟨b, o, us, hs', q1, -⟩ := m n _ ht
    exact ⟨b, o, q1⟩
  have hp : vidxs 1 v (vi j) = some (.pointer (some ⟨b, o + j.toNat * 1, none⟩)) := by rw [hv, V_idxs, if_pos ⟨h1, h2⟩]
  exact d_of rfl rfl (by rw [A_idxs, hx, hy, hp]; rfl) (k _ hp)
theorem d_hst {x y : Operand} {j : Int} {u0 : List α} {cs : List Value} {p : Value} (n : Nat) (hS : Sat Z V H L) (ht : L[n]? = some (It.hole s.sl v xs j.toNat cs)) (hx : ev tm x = p) (hy : ev tm y = w) (hp : vidxs 1 v (vi j) = some p) (hj : ix xs j = some u0) (hw : w.cells = #[w] ∧ w.oneCell' = true)
    (k : ∀ H1, Sat Z V H1 (L.set n (It.hole s.sl v xs j.toNat [w])) → Keeps H H1 → R T Q (.dops base m all pr (ri + 1) (tr ++ [(tm, H)]) l :: K) .normal tm H1) : R T Q (.dops base m all pr ri tr (⟨none, .store 1 x y, none, sl⟩ :: l) :: K) .normal tm H := by
  obtain ⟨H1, h1, h2⟩ := hS.hst n ht hj hp hw
  have h3 : aop (.store 1 x y) tm H = some (undef, H1) := by rw [A_store, hx, hy, h1]; rfl
  exact d_of0 rfl rfl h3 (k H1 h2 (aop_keeps h3))
theorem d_stH {x y : Operand} {j : Int} {u0 u : List α} {p : Value} (n : Nat) (hS : Sat Z V H (It.sl s w u :: L)) (ht : L[n]? = some (It.sl s.sl v xs)) (hx : ev tm x = p) (hy : ev tm y = w) (hp : vidxs 1 v (vi j) = some p) (hj : ix xs j = some u0)
    (k : ∀ H1, Sat Z V H1 (L.set n (It.sl s.sl v (Pu.st xs j u))) → Keeps H H1 → R T Q (.dops base m all pr (ri + 1) (tr ++ [(tm, H)]) l :: K) .normal tm H1) : R T Q (.dops base m all pr ri tr (⟨none, .store 1 x y, none, sl⟩ :: l) :: K) .normal tm H := by
  obtain ⟨H1, h1, h2⟩ := hS.stH n ht hj hp
  have h3 : aop (.store 1 x y) tm H = some (undef, H1) := by rw [A_store, hx, hy, h1]; rfl
  exact d_of0 rfl rfl h3 (k H1 h2 (aop_keeps h3))
theorem d_appH {x y : Operand} {bytes : Nat} {q : Value} {ys zs : List (List α)} (n : Nat) (hS : Sat Z V H (It.sl s.sl q ys :: L)) (ht : L[n]? = some (It.sl s.sl v xs)) (hx : ev tm x = v) (hy : ev tm y = q) (hby : 0 < bytes) (ha : Pu.app bytes xs ys = some zs) (hne : ys ≠ [])
    (k : ∀ w H1, Sat Z V H1 (L.set n (It.sl s.sl w zs)) → Keeps H H1 → R T Q (.dops base m all pr (ri + 1) (tr ++ [(tm, H)]) l :: K) .normal (ub tm t w) H1) : R T Q (.dops base m all pr ri tr (⟨some t, .append 1 bytes x y, none, sl⟩ :: l) :: K) .normal tm H := by
  obtain ⟨w, H1, h1, h2⟩ := hS.appH (sz := 1) n ht rfl hby ha hne
  have h3 : aop (.append 1 bytes x y) tm H = some (w, H1) := by rw [A_append, hx, hy, h1]
  exact d_of rfl rfl h3 (k w H1 h2 (aop_keeps h3))

theorem d_ldsv {x : Operand} {j : Int} {u : List α} {p : Value} (hb : BLow base v) (hx : ev tm x = p) (hr : RdS s.sl Z v xs) (hZ : Z.le (Hp.ph H)) (hp : vidxs 1 v (vi j) = some p) (hj : ix xs j = some u)
    (k : ∀ w, RdS s Z w u → vload H 1 false p = some w → R T Q (.dops base m all pr (ri + 1) (tr ++ [(tm, H)]) l :: K) .normal (ub tm t w) H) : R T Q (.dops base m all pr ri tr (⟨some t, .load 1 false x, none, sl⟩ :: l) :: K) .normal tm H := by
  obtain ⟨cs, h1, h2, h3⟩ := hr.at' hZ hj rfl hp
  obtain ⟨w, rfl, h4⟩ := h1
  exact d_rd rfl (rd_ok hb hx hp) (by rw [A_load, hx, show vload H 1 false p = some w from h3 false]; rfl) (k w h4 (h3 false))
theorem d_st2 {x y : Operand} {j i2 : Int} {u : List α} {e0 e : α} {p p2 val : Value} {cs : List Value} {sz : Nat} (n : Nat) (hS : Sat Z V H L) (ht : L[n]? = some (It.sl s.sl v xs)) (hlt : s.Lt) (hz : s.sz = sz) (hx : ev tm x = p2) (hy : ev tm y = val) (hp : vidxs 1 v (vi j) = some p) (hj : ix xs j = some u) (hl : vload H 1 false p = some w)
    (hp2 : vidxs sz w (vi i2) = some p2) (hk : ix u i2 = some e0) (hc : val.cells.toList = cs) (hr : s.rd Z cs e) (k : ∀ H1, Sat Z V H1 (L.set n (It.sl s.sl v (Pu.st xs j (Pu.st u i2 e)))) → Keeps H H1 → R T Q (.dops base m all pr (ri + 1) (tr ++ [(tm, H)]) l :: K) .normal tm H1) : R T Q (.dops base m all pr ri tr (⟨none, .store sz x y, none, sl⟩ :: l) :: K) .normal tm H := by
  obtain ⟨H1, h1, h2⟩ := hS.set2 n ht hlt hz hp hj hl hp2 hk hc hr
  have h3 : aop (.store sz x y) tm H = some (undef, H1) := by rw [A_store, hx, hy, h1]; rfl
  exact d_of0 rfl rfl h3 (k H1 h2 (aop_keeps h3))
theorem d_st3 {x y : Operand} {v : Value} {xs : List (List (List α))} {j i2 i3 : Int} {u : List (List α)} {u2 : List α} {e0 e : α} {w2 p p2 p3 val : Value} {cs : List Value} {sz : Nat} (n : Nat) (hS : Sat Z V H L) (ht : L[n]? = some (It.sl s.sl.sl v xs)) (hlt : s.Lt) (hz : s.sz = sz) (hx : ev tm x = p3) (hy : ev tm y = val) (hp : vidxs 1 v (vi j) = some p) (hj : ix xs j = some u) (hl : vload H 1 false p = some w)
    (hp2 : vidxs 1 w (vi i2) = some p2) (hj2 : ix u i2 = some u2) (hl2 : vload H 1 false p2 = some w2) (hp3 : vidxs sz w2 (vi i3) = some p3) (hk : ix u2 i3 = some e0) (hc : val.cells.toList = cs) (hr : s.rd Z cs e) (k : ∀ H1, Sat Z V H1 (L.set n (It.sl s.sl.sl v (Pu.st xs j (Pu.st u i2 (Pu.st u2 i3 e))))) → Keeps H H1 → R T Q (.dops base m all pr (ri + 1) (tr ++ [(tm, H)]) l :: K) .normal tm H1) : R T Q (.dops base m all pr ri tr (⟨none, .store sz x y, none, sl⟩ :: l) :: K) .normal tm H := by
  obtain ⟨w', h1, h2⟩ := hS.foc n ht hj hp
  rw [hl] at h1; cases h1
  obtain ⟨H1, h3, h4⟩ := h2.set2 (s := s) (n := 0) rfl hlt hz hp2 hj2 hl2 hp3 hk hc hr
  simp only [List.set_cons_zero] at h4
  have hlt' := (List.getElem?_eq_some_iff.1 ht).1
  have h5 := Sat.unfoc (s := s.sl) (v := v) (xs := xs) (w := w) (j := j) (L := L.set n (It.hole s.sl.sl v xs j.toNat [w])) n (by simp [hlt']) h4
  rw [List.set_set] at h5
  have h6 : aop (.store sz x y) tm H = some (undef, H1) := by rw [A_store, hx, hy, h3]; rfl
  exact d_of0 rfl rfl h6 (k H1 h5 (aop_keeps h6))

section
variable {β : Type} {s' : Sh β} {v' : Value} {zs : List β}
theorem d_ldo {x : Operand} {j : Int} {u : β} {sz : Nat} {p : Value} {g : Bool} (hb : BLow base v') (n : Nat) (hS : Sat Z V H L) (ht : L[n]? = some (It.sl s'.ro v' zs)) (hx : ev tm x = p) (hz : s'.sz = sz) (hp : vidxs sz v' (vi j) = some p) (hj : ix zs j = some u)
    (k : ∀ Y W cs, Gw Z V Y W → Sat Y W H L → s'.rd Y cs u → ∃ w, mkv g cs = some w ∧ R T Q (.dops base m all pr (ri + 1) (tr ++ [(tm, H)]) l :: K) .normal (ub tm t w) H) : R T Q (.dops base m all pr ri tr (⟨some t, .load sz g x, none, sl⟩ :: l) :: K) .normal tm H := by
  obtain ⟨Y, W, cs, g1, h1, h2, h3⟩ := hS.elem n ht hz hj hp
  obtain ⟨w, h4, h5⟩ := k Y W cs g1 h1 h2
  exact d_rd rfl (rd_ok hb hx hp) (by rw [A_load, hx, h3, h4]; rfl) h5
theorem d_ldos {x : Operand} {j : Int} {u : List β} {p : Value} {zs : List (List β)} (hb : BLow base v') (n : Nat) (hS : Sat Z V H L) (ht : L[n]? = some (It.sl s'.sl.ro v' zs)) (hx : ev tm x = p) (hp : vidxs 1 v' (vi j) = some p) (hj : ix zs j = some u)
    (k : ∀ Y W w, Gw Z V Y W → Sat Y W H L → RdS s' Y w u → R T Q (.dops base m all pr (ri + 1) (tr ++ [(tm, H)]) l :: K) .normal (ub tm t w) H) : R T Q (.dops base m all pr ri tr (⟨some t, .load 1 false x, none, sl⟩ :: l) :: K) .normal tm H :=
  d_ldo hb n hS ht hx rfl hp hj fun Y W cs g h1 h2 => by obtain ⟨w, rfl, h2⟩ := h2; exact ⟨w, rfl, k Y W w g h1 h2⟩
theorem d_ldoa {x : Operand} {j : Int} {u : β} {sz : Nat} {p : Value} (hb : BLow base v') (n : Nat) (hS : Sat Z V H L) (ht : L[n]? = some (It.sl s'.ro v' zs)) (hx : ev tm x = p) (hz : s'.sz = sz) (hp : vidxs sz v' (vi j) = some p) (hj : ix zs j = some u)
    (k : ∀ Y W cs, Gw Z V Y W → Sat Y W H L → s'.rd Y cs u → R T Q (.dops base m all pr (ri + 1) (tr ++ [(tm, H)]) l :: K) .normal (ub tm t (.agg cs.toArray)) H) : R T Q (.dops base m all pr ri tr (⟨some t, .load sz true x, none, sl⟩ :: l) :: K) .normal tm H :=
  d_ldo hb n hS ht hx hz hp hj fun Y W cs g h1 h2 => ⟨_, rfl, k Y W cs g h1 h2⟩
end
theorem d_fadE {x : Operand} {sz off : Nat} {j : Int} {v p : Value} (hx : ev tm x = p) (hp : vidxs sz v (vi j) = some p) (k : ∀ p', vfaddr off p = some p' → R T Q (.dops base m all pr (ri + 1) (tr ++ [(tm, H)]) l :: K) .normal (ub tm t p') H) : R T Q (.dops base m all pr ri tr (⟨some t, .faddr off x, none, sl⟩ :: l) :: K) .normal tm H := by
  obtain ⟨p', h⟩ := idx_fad (off := off) hp
  exact d_of rfl rfl (by rw [A_faddr, hx, h]; rfl) (k p' h)
theorem rd_okF {x : Operand} {j : Int} {sz n off : Nat} {g : Bool} {v p p' : Value} (hb : BLow base v) (hx : ev tm x = p') (hp : vidxs sz v (vi j) = some p) (hf : vfaddr off p = some p') : rdOk base m ⟨some t, .load n g x, none, sl⟩ tm = true := by
  unfold rdOk rblk
  simp only [hx]
  unfold vidxs at hp
  split at hp
  · split at hp
    · cases hp
      simp only [vfaddr, Option.some.injEq] at hf
      subst hf
      rename_i a n' c k j' _ _
      have := hb a n' c rfl
      simp [this]
    · cases hp
  · cases hp
theorem d_ldF {β : Type} {s : Sh β} {v : Value} {xs : List β} {x : Operand} {j : Int} {u : β} {sz off n : Nat} {p p' : Value} {g : Bool} (hb : BLow base v) (hx : ev tm x = p') (hr : RdS s Z v xs) (hZ : Z.le (Hp.ph H)) (hz : s.sz = sz) (hp : vidxs sz v (vi j) = some p) (hf : vfaddr off p = some p') (hj : ix xs j = some u) (ho : Nat.ble (off + n) sz = true)
    (k : ∀ cs, s.rd Z cs u → ∃ w, mkv g ((cs.drop off).take n) = some w ∧ R T Q (.dops base m all pr (ri + 1) (tr ++ [(tm, H)]) l :: K) .normal (ub tm t w) H) : R T Q (.dops base m all pr ri tr (⟨some t, .load n g x, none, sl⟩ :: l) :: K) .normal tm H := by
  obtain ⟨cs, h1, h2⟩ := hr.atF hZ hj hz hp (Nat.le_of_ble_eq_true ho) hf
  obtain ⟨w, h4, h5⟩ := k cs h1
  exact d_rd rfl (rd_okF hb hx hp hf) (by rw [A_load, hx, h2, h4]; rfl) h5
theorem o_mksH {x y : Operand} {bytes : Nat} {n c : Int} (hS : Sat Z V H L) (hx : ev tm x = vi n) (hy : ev tm y = vi c) (hm : Pu.mk bytes n c ([] : List α) = some xs)
    (k : ∀ w H1, Sat Z V H1 (It.sl s.sl w xs :: L) → R T Q (.ops l :: K) .normal (ub tm t w) H1) : R T Q (.ops (⟨some t, .mkslice 1 bytes [.slice none 0 0] x y, none, sl⟩ :: l) :: K) .normal tm H := by
  obtain ⟨w, b, h1, h2, h3⟩ := Sat.mksH (s := s) (sz := 1) hS hm rfl
  exact o_of rfl (by rw [A_mkslice, hx, hy, h1]; rfl) (k _ _ (h3 _ _ (hS.new' h2)))
theorem d_mksH {x y : Operand} {bytes : Nat} {n c : Int} (hd : H[base + ri]? = some .dead) (hS : Sat Z V H L) (hx : ev tm x = vi n) (hy : ev tm y = vi c) (hm : Pu.mk bytes n c ([] : List α) = some xs)
    (k : ∀ w H1, Sat Z V H1 (It.sl s.sl w xs :: L) → (∀ b, b ≠ base + ri → H1[b]? = H[b]?) → R T Q (.dops base m all pr (ri + 1) (tr ++ [(tm, H)]) l :: K) .normal (ub tm t w) H1) : R T Q (.dops base m all pr ri tr (⟨some t, .mkslice 1 bytes [.slice none 0 0] x y, none, sl⟩ :: l) :: K) .normal tm H := by
  obtain ⟨w, b, h1, h2, h3⟩ := Sat.mksH (s := s) (sz := 1) hS hm rfl
  exact d_nw rfl (by simp only [anew, hx, hy]; exact h1 (base + ri)) (k _ _ (h3 _ _ (new_at h2 hd hS)) fun b hb => get_other hb)
theorem bf1 {z : Value} (hw : w.cells = #[w]) : bfill [z] [(0, 1, w)] = some [w] := by simp [bfill, hw, splice]
theorem o_bslH {x : Operand} {z : Value} {u : List α} (hS : Sat Z V H (It.sl s w u :: L)) (hx : ev tm x = w) (k : ∀ q H1, Sat Z V H1 (It.sl s.sl q [u] :: L) → R T Q (.ops l :: K) .normal (ub tm t q) H1) :
    R T Q (.ops (⟨some t, .bslice 1 1 [z] [(0, 1, x)], none, sl⟩ :: l) :: K) .normal tm H := by
  have ho := (hS.curS 0 rfl).one
  exact o_of rfl (by rw [A_bslice]; simp only [List.map_cons, List.map_nil, hx, hbs, bf1 ho.1]; rfl) (k _ _ (own1 (hS.new' (by simp))))
theorem d_bslH {x : Operand} {z : Value} {u : List α} (hd : H[base + ri]? = some .dead) (hS : Sat Z V H (It.sl s w u :: L)) (hx : ev tm x = w) (k : ∀ q H1, Sat Z V H1 (It.sl s.sl q [u] :: L) → (∀ b, b ≠ base + ri → H1[b]? = H[b]?) → R T Q (.dops base m all pr (ri + 1) (tr ++ [(tm, H)]) l :: K) .normal (ub tm t q) H1) :
    R T Q (.dops base m all pr ri tr (⟨some t, .bslice 1 1 [z] [(0, 1, x)], none, sl⟩ :: l) :: K) .normal tm H := by
  have ho := (hS.curS 0 rfl).one
  exact d_nw rfl (by simp only [anew, List.map_cons, List.map_nil, hx, bf1 ho.1]; rfl) (k _ _ (own1 (new_at (by simp) hd hS)) fun b hb => get_other hb)
end
end Go.Ab
