/- More on slices under the assertions: new ones, heavy elements, elements in hand. Own work. -/
import Derived.Test.YtbehlbabgomhfaaSl2
namespace Go.Ab
open Go Go.Pu

section
variable {α : Type}
/-- Cells of a list of elements. -/
def Els (s : Sh α) (Z : PH) (us : List Value) (xs : List α) : Prop := us.length = xs.length * s.sz ∧ ∀ (i : Nat) (y : α), xs[i]? = some y → s.rd Z (chk us 0 s.sz i) y
theorem Els.nil {s : Sh α} {Z : PH} : Els s Z [] [] := ⟨by simp, fun i y e => by simp at e⟩
theorem Els.cons {s : Sh α} {Z : PH} {c us : List Value} {x : α} {xs : List α} (h : s.rd Z c x) (k : Els s Z us xs) : Els s Z (c ++ us) (x :: xs) := by
  have hl := s.len h
  refine ⟨by rw [List.length_append, hl, k.1, List.length_cons, Nat.add_mul]; omega, fun i y hy => ?_⟩
  cases i with
  | zero =>
    simp at hy; subst hy
    unfold chk
    rw [Nat.zero_mul, Nat.zero_add, List.drop_zero, List.take_append_of_le_length (by omega), ← hl, List.take_length]; exact h
  | succ i =>
    rw [chk_app_right c us 1 s.sz (i + 1) (by omega) (by omega)]
    exact k.2 i y (by simpa using hy)
theorem chk_made (z : List Value) (n i : Nat) (hi : i < n) : chk (madeCells z.toArray (n * z.length)).toList 0 z.length i = z := by
  have h1 : i * z.length + z.length ≤ n * z.length := by
    have := Nat.mul_le_mul_right z.length (show i + 1 ≤ n from hi); rwa [Nat.add_mul, Nat.one_mul] at this
  apply List.ext_getElem?
  intro k
  unfold chk
  rw [List.getElem?_take, List.getElem?_drop, Nat.zero_add]
  split
  · rename_i hk
    have : (i * z.length + k) % z.length = k := by rw [Nat.mul_comm, Nat.mul_add_mod, Nat.mod_eq_of_lt hk]
    simp only [madeCells, Array.toList_map, Array.toList_range, List.getElem?_map]
    rw [List.getElem?_range (by omega)]
    simp [this, hk]
  · rename_i hk
    rw [List.getElem?_eq_none (by omega)]
theorem Els.made {s : Sh α} {Z : PH} {z : List Value} {x : α} (h : s.rd Z z x) (n : Nat) : Els s Z (madeCells z.toArray (n * s.sz)).toList (List.replicate n x) := by
  have hl := s.len h
  refine ⟨by simp [size_madeCells], fun i y hy => ?_⟩
  rw [List.getElem?_replicate] at hy
  split at hy
  · cases hy; rw [← hl, chk_made _ _ _ (by assumption)]; exact h
  · cases hy
theorem sl_of_pts {s : Sh α} {Z : PH} {k n : Nat} {us : List Value} {xs : List α} (hl : s.Lt) (he : Els s Z us xs) (hn : n = xs.length) (hb : n ≤ 281474976710656) {sz : Nat} (hz : s.sz = sz) :
    ∀ F h : PH, Z.le F → (pts k (.rw sz us)).P F h → (It.sl s (.slice (some ⟨k, 0, none⟩) n n) xs).P F h := by
  subst hn; subst hz
  intro F h hF hp
  exact .inr ⟨k, 0, us, fun _ => .emp, rfl, hp, ⟨by rw [he.1]; omega, hb⟩, fun _ => PH.emp_le _, fun _ => rfl, fun _ _ _ => PH.emp_dis _, fun i y hy => hl (s.rd_mono hF (he.2 i y hy))⟩
theorem Sat.mks {Z V : PH} {H : Hp} {l : List It} {s : Sh α} (hl : s.Lt) (h : Sat Z V H l) {sz bytes : Nat} (hz : s.sz = sz) {n c : Int} {x : α} {z : List Value} (hx : s.rd Z z x) {xs : List α} (hm : Pu.mk bytes n c x = some xs) :
    ∃ (v : Nat → Value) (b : Blk), (∀ k, hmks sz bytes z (vi n) (vi c) k = some (v k, b)) ∧ b ≠ .dead ∧ ∀ (k : Nat) (H' : Hp) , Sat Z V H' (pts k b :: l) → Sat Z V H' (It.sl s (v k) xs :: l) := by
  unfold Pu.mk at hm
  split at hm
  case isFalse => cases hm
  rename_i hc
  cases hm
  subst hz
  refine ⟨fun k => .slice (some ⟨k, 0, none⟩) n.toNat n.toNat, .rw s.sz (madeCells z.toArray (n.toNat * s.sz)).toList, fun k => ?_, by simp, fun k H' h' => ?_⟩
  · simp only [hmks]
    rw [if_pos ⟨hc.1, hc.2.1, hc.2.2.1, by omega⟩]
  · exact h'.conv 0 rfl (sl_of_pts hl (Els.made hx n.toNat) (by simp) (by omega) rfl)

/-- All elements but number j, whose cells are cs. -/
def It.hole (s : Sh α) (v : Value) (xs : List α) (j : Nat) (cs : List Value) : It where
  P := fun Z h => ∃ (b o : Nat) (us : List Value) (hs : Nat → PH), v = .slice (some ⟨b, o, none⟩) xs.length xs.length ∧ h b = some (.rw s.sz us) ∧ Fits o xs.length s.sz us.length ∧ (∀ i, (hs i).le h) ∧ (∀ i, hs i b = none) ∧
    (∀ i j, i ≠ j → (hs i).dis (hs j)) ∧ chk us o s.sz j = cs ∧ ∀ (i : Nat) (y : α), i ≠ j → xs[i]? = some y → s.ow Z (hs i) (chk us o s.sz i) y
  mono := fun hz hh ⟨b, o, us, hs, h1, h2, h3, h4, h5, h6, h7, h8⟩ => ⟨b, o, us, hs, h1, hh _ _ h2, h3, fun i => (h4 i).trans hh, h5, h6, h7, fun i y hi hy => s.ow_mono hz (PH.le.refl _) (h8 i y hi hy)⟩
/-- One thing parts into two. -/
theorem Sat.part {Z V : PH} {H : Hp} {l : List It} (n : Nat) {t u w : It} (ht : l[n]? = some t) (q : ∀ F h : PH, Z.le F → h.le (Hp.ph H) → t.P F h → ∃ h1 h2 : PH, h1.le h ∧ h2.le h ∧ h1.dis h2 ∧ u.P F h1 ∧ w.P F h2) (h : Sat Z V H l) :
    Sat Z V H (u :: l.set n w) := by
  obtain ⟨Y, W, gw, yw, wh, hs, e, f, k, m⟩ := h.norm'
  obtain ⟨h1, h2, a1, a2, d, hu, hw⟩ := q Y (hs n) gw.z (e n) (m n t ht)
  refine Sat.weak gw h.zv (Sat.mk' (hs := fun i => match i with | 0 => h1 | i + 1 => if i = n then h2 else hs i) yw wh (fun i => ?_) (fun i => ?_) (fun i j x => ?_) (fun i v x => ?_))
  · cases i with
    | zero => exact a1.trans (e n)
    | succ i => dsimp only; split
                · exact a2.trans (e n)
                · exact e i
  · cases i with
    | zero => exact (f n).le (PH.le.refl _) a1
    | succ i => dsimp only; split
                · exact (f n).le (PH.le.refl _) a2
                · exact f i
  · cases i with
    | zero => cases j with
      | zero => exact absurd rfl x
      | succ j => dsimp only; split
                  · exact d
                  · rename_i q; exact (k n j fun y => q y.symm).le a1 (PH.le.refl _)
    | succ i => cases j with
      | zero => dsimp only; split
                · exact d.symm
                · rename_i q; exact ((k n i fun y => q y.symm).le a1 (PH.le.refl _)).symm
      | succ j =>
        dsimp only; split
        · split
          · omega
          · rename_i q; exact (k n j fun y => q y.symm).le a2 (PH.le.refl _)
        · split
          · rename_i q _; exact ((k n i fun y => q y.symm).le a2 (PH.le.refl _)).symm
          · exact k i j (by omega)
  · cases i with
    | zero => simp at x; subst x; exact hu
    | succ i =>
      rw [List.getElem?_cons_succ] at x
      dsimp only; split
      · rename_i q; subst q
        rw [List.getElem?_set_self (List.getElem?_eq_some_iff.1 ht).1] at x
        cases x; exact hw
      · rename_i q
        rw [List.getElem?_set_ne (fun e => q e.symm)] at x
        exact m i v x
theorem Sat.focus {Z V : PH} {H : Hp} {l : List It} {s : Sh α} {v : Value} {xs : List α} (n : Nat) (ht : l[n]? = some (It.sl s v xs)) (h : Sat Z V H l) {j : Int} {u : α} (hj : ix xs j = some u) {sz : Nat} (hz : s.sz = sz) {p : Value} (hp : vidxs sz v (vi j) = some p) :
    ∃ cs, cs.length = sz ∧ (∀ agg, vload H sz agg p = mkv agg cs) ∧ Sat Z V H (s.it cs u :: l.set n (It.hole s v xs j.toNat cs)) := by
  subst hz
  obtain ⟨h1, h2, h3⟩ := ix_lt hj
  have hlt : j.toNat < xs.length := by omega
  rcases h.curS n ht with ⟨rfl, rfl⟩ | ⟨b, o, us, x, rfl, h4, h5, h6, h7, -⟩
  · simp at h2; omega
  have hb := (ph_some.1 h4).1
  refine ⟨chk us o s.sz j.toNat, chk_length hlt h7.1, fun agg => ?_, ?_⟩
  · rw [V_idxs, if_pos ⟨h1, h2⟩] at hp
    cases hp
    simp only [vload, Option.isNone_none, if_true, Hp.load, show Hp.cells H b = some us by rw [cells_of hb]; exact h5]
    rw [if_pos (chk_at hlt h7.1)]; rfl
  · refine h.part n ht fun F k hF hk q => ?_
    rcases q with ⟨q, -⟩ | ⟨b', o', us', hs', q1, q2, q3, q4, q5, q6, q7⟩
    · cases q
    · simp only [Value.slice.injEq, Option.some.injEq, Addr.mk.injEq, and_true] at q1
      obtain ⟨⟨rfl, rfl⟩, -, -⟩ := q1
      have hus : us' = us := by
        have := ph_get hk q2
        rw [hb] at this; cases this
        simp at h5; exact h5
      subst hus
      let hr : PH := fun c => match hs' j.toNat c with | some _ => none | none => k c
      have hrk : hr.le k := fun c z e => by
        simp only [hr] at e; split at e
        · cases e
        · exact e
      refine ⟨hs' j.toNat, hr, q4 _, hrk, fun c z w e1 e2 => ?_, q7 _ u h3, b, o, us', fun i => if i = j.toNat then .emp else hs' i, rfl, ?_, q3, fun i => ?_, fun i => ?_, fun i i' e => ?_, rfl, fun i y hi hy => ?_⟩
      · simp only [hr] at e2; rw [e1] at e2; cases e2
      · simp only [hr, q5]; exact q2
      · dsimp only; split
        · exact PH.emp_le _
        · rename_i hi
          intro c z e
          simp only [hr]
          split
          · rename_i w hw; exact absurd (q6 i _ hi _ _ _ e hw) id
          · exact q4 i _ _ e
      · dsimp only; split
        · rfl
        · exact q5 i
      · dsimp only; split
        · exact PH.emp_dis _
        · split
          · exact PH.dis_emp _
          · exact q6 i i' e
      · dsimp only; rw [if_neg hi]; exact q7 i y hy
/-- Two things become one. -/
theorem Sat.glue {Z V : PH} {H : Hp} {l : List It} (n : Nat) {t u w : It} (ht : l[n]? = some t) (q : ∀ F h1 h2 h : PH, Z.le F → h1.le h → h2.le h → h1.dis h2 → u.P F h1 → t.P F h2 → w.P F h) (h : Sat Z V H (u :: l)) : Sat Z V H (l.set n w) := by
  have h1 : Sat Z V H ((u.sep t) :: l.eraseIdx n) := by
    have := h.sel (l' := u :: t :: l.eraseIdx n) (fun i => if i = 0 then 0 else if i = 1 then n + 1 else if i - 2 < n then i - 1 else i) (fun i j e => by (repeat' split at e) <;> omega) (fun i x e => by
      match i with
      | 0 => simpa using e
      | 1 => simp at e; subst e; simpa using ht
      | i + 2 =>
        simp only [List.getElem?_cons_succ] at e
        rw [List.getElem?_eraseIdx] at e
        rw [if_neg (by omega), if_neg (by omega)]
        split at e
        · rw [if_pos (by omega)]; simpa using e
        · rw [if_neg (by omega)]; simpa using e)
    exact this.join
  have h2 := h1.conv 0 (t := u.sep t) (u := w) rfl fun F k hF ⟨k1, k2, a, b, c, d, e⟩ => q F k1 k2 k hF a b c d e
  have hnl := (List.getElem?_eq_some_iff.1 ht).1
  refine h2.sel (fun i => if i = n then 0 else if i < n then i + 1 else i) (fun i j e => by (repeat' split at e) <;> omega) (fun i x e => ?_)
  by_cases hi : i = n
  · subst hi
    rw [List.getElem?_set_self hnl] at e; cases e
    simp
  · rw [List.getElem?_set_ne (fun q => hi q.symm)] at e
    rw [if_neg hi]
    split
    · simp only [List.set_cons_zero, List.getElem?_cons_succ, List.getElem?_eraseIdx]
      rw [if_pos (by assumption)]; exact e
    · cases i with
      | zero => omega
      | succ i =>
        simp only [List.set_cons_zero, List.getElem?_cons_succ, List.getElem?_eraseIdx]
        rw [if_neg (by omega)]; exact e
theorem Sat.unfocus {Z V : PH} {H : Hp} {l : List It} {s : Sh α} {v : Value} {xs : List α} {j : Int} {cs : List Value} {u : α} (n : Nat) (ht : l[n]? = some (It.hole s v xs j.toNat cs)) (h : Sat Z V H (s.it cs u :: l)) :
    Sat Z V H (l.set n (It.sl s v (Pu.st xs j u))) := by
  refine h.glue n ht fun F h1 h2 k hF a b d hu ⟨b', o, us, hs, q1, q2, q3, q4, q5, q6, q7, q8⟩ => ?_
  have hb1 : h1 b' = none := by
    cases e : h1 b' with
    | none => rfl
    | some z => exact absurd (d _ _ _ e q2) id
  have hll : (Pu.st xs j u).length = xs.length := by simp [Pu.st]
  refine .inr ⟨b', o, us, fun i => if i = j.toNat then h1 else hs i, by rw [hll]; exact q1, b _ _ q2, by rw [hll]; exact q3, fun i => ?_, fun i => ?_, fun i i' e => ?_, fun i y hy => ?_⟩
  · dsimp only; split
    · exact a
    · exact (q4 i).trans b
  · dsimp only; split
    · exact hb1
    · exact q5 i
  · dsimp only; split
    · split
      · omega
      · exact d.le (PH.le.refl _) (q4 _)
    · split
      · exact (d.le (PH.le.refl _) (q4 _)).symm
      · exact q6 i i' e
  · dsimp only
    by_cases hi : i = j.toNat
    · subst hi
      have hi : j.toNat < xs.length := by have := (List.getElem?_eq_some_iff.1 hy).1; rwa [hll] at this
      rw [Pu.st, List.getElem?_set_self hi] at hy
      cases hy
      rw [if_pos rfl, q7]; exact hu
    · rw [Pu.st, List.getElem?_set_ne (fun q => hi q.symm)] at hy
      rw [if_neg hi]
      exact q8 i y hi hy
/-- The element in hand is written anew: its cells. -/
theorem Sat.hset {Z V : PH} {H : Hp} {l : List It} {s : Sh α} {v : Value} {xs : List α} {j : Int} {cs : List Value} (n : Nat) (ht : l[n]? = some (It.hole s v xs j.toNat cs)) (h : Sat Z V H l) {sz : Nat} (hz : s.sz = sz)
    (hj0 : 0 ≤ j) (hj1 : j < xs.length) {p : Value} (hp : vidxs sz v (vi j) = some p) {w : Value} {ds : List Value} (hc : w.cells.toList = ds) (hd : ds.length = sz) (h1 : ds.all Value.oneCell' = true) :
    ∃ H1, hstore sz p w H = some H1 ∧ Sat Z V H1 (l.set n (It.hole s v xs j.toNat ds)) := by
  subst hz
  have hlt : j.toNat < xs.length := by omega
  obtain ⟨b, o, us, hv, hb, h7⟩ : ∃ (b o : Nat) (us : List Value), v = .slice (some ⟨b, o, none⟩) xs.length xs.length ∧ H[b]? = some (.rw s.sz us) ∧ Fits o xs.length s.sz us.length := by
    obtain ⟨-, -, N, hs, c, d, e, f, g, k, m⟩ := h
    obtain ⟨b, o, us, hs', q1, q2, q3, -⟩ := m n _ ht
    exact ⟨b, o, us, q1, ph_get (e n) q2, q3⟩
  subst hv
  have hbd := h7.2
  have h7 := h7.1
  have hx : w.cells.size = s.sz := by rw [← hd, ← hc]; simp
  have hat := chk_at hlt h7
  refine ⟨H.set b (.rw s.sz (splice us (o + j.toNat * s.sz) ds)), ?_, ?_⟩
  · rw [V_idxs, if_pos ⟨hj0, hj1⟩] at hp
    cases hp
    simp only [hstore, hb, hc]
    rw [if_pos ⟨hx, h1, hat⟩]
  · refine h.wr n ht (by simp) (lt_of_get hb) fun F k hF hk ⟨b', o', us', hs', q1, q2, q3, q4, q5, q6, q7, q8⟩ => ?_
    simp only [Value.slice.injEq, Option.some.injEq, Addr.mk.injEq, and_true] at q1
    obtain ⟨⟨rfl, rfl⟩, -, -⟩ := q1
    have hus : us' = us := by
      have := ph_get hk q2
      rw [hb] at this; cases this; rfl
    subst hus
    refine ⟨⟨_, q2⟩, b, o, splice us' (o + j.toNat * s.sz) ds, hs', rfl, PH.upd_same .., ⟨by rw [splice_length _ _ _ (by omega)]; exact h7, hbd⟩, fun i c z e => ?_, q5, q6, ?_, fun i y hi hy => ?_⟩
    · have : c ≠ b := fun e' => by subst e'; rw [q5 i] at e; cases e
      rw [PH.upd_ne _ _ this]; exact q4 i _ _ e
    · rw [chk_splice hlt hlt h7 hd, if_pos rfl]
    · rw [chk_splice hlt (List.getElem?_eq_some_iff.1 hy).1 h7 hd, if_neg hi]
      exact q8 i y hi hy
theorem it_sl {Z V : PH} {H : Hp} {l : List It} {s : Sh α} {w : Value} {xs : List α} (h : Sat Z V H (s.sl.it [w] xs :: l)) : Sat Z V H (It.sl s w xs :: l) :=
  h.conv 0 (t := s.sl.it [w] xs) (u := It.sl s w xs) rfl fun F k _ ⟨v, e, q⟩ => by cases e; exact q
theorem sl_it {Z V : PH} {H : Hp} {l : List It} {s : Sh α} {w : Value} {xs : List α} (h : Sat Z V H (It.sl s w xs :: l)) : Sat Z V H (s.sl.it [w] xs :: l) :=
  h.conv 0 (t := It.sl s w xs) (u := s.sl.it [w] xs) rfl fun F k _ q => ⟨w, rfl, q⟩
end
end Go.Ab
