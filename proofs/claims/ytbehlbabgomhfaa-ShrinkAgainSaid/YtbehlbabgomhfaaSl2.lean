/- Slices: reading, writing, appending, under the assertions. Own work. -/
import Derived.Test.YtbehlbabgomhfaaSl1
import Derived.Test.YtbehlbabgomhfaaPu
namespace Go.Ab
open Go Go.Pu

section
variable {α : Type}
theorem chk_take (us : List Value) (o sz i n m : Nat) (hi : i < n) (hm : o + n * sz ≤ m) : chk (us.take m) o sz i = chk us o sz i := by
  have : i * sz + sz ≤ n * sz := by
    have := Nat.mul_le_mul_right sz (show i + 1 ≤ n from hi)
    rwa [Nat.add_mul, Nat.one_mul] at this
  unfold chk
  rw [List.drop_take, List.take_take]
  congr 1
  omega
theorem chk_app_left (us vs : List Value) (o sz i n : Nat) (hi : i < n) (h : o + n * sz ≤ us.length) : chk (us ++ vs) o sz i = chk us o sz i := by
  have := chk_at hi h
  unfold chk
  rw [List.drop_append_of_le_length (by omega), List.take_append_of_le_length (by simp; omega)]
theorem chk_app_right (us vs : List Value) (n sz i : Nat) (h : us.length = n * sz) (hi : n ≤ i) : chk (us ++ vs) 0 sz i = chk vs 0 sz (i - n) := by
  unfold chk
  have : i * sz = n * sz + (i - n) * sz := by rw [← Nat.add_mul]; congr 1; omega
  rw [Nat.zero_add, Nat.zero_add, this, ← h, List.drop_length_add_append]
theorem chk_drop (us : List Value) (o sz i : Nat) : chk (us.drop o) 0 sz i = chk us o sz i := by
  unfold chk
  rw [Nat.zero_add, List.drop_drop]
theorem chk_take_drop (us : List Value) (o sz i n : Nat) (hi : i < n) : chk ((us.drop o).take (n * sz)) 0 sz i = chk us o sz i := by
  rw [chk_take _ 0 sz i n _ hi (by omega), chk_drop]
theorem chk_splice {us cs : List Value} {o sz i j n : Nat} (hj : j < n) (hi : i < n) (h : o + n * sz ≤ us.length) (hc : cs.length = sz) :
    chk (splice us (o + j * sz) cs) o sz i = if i = j then cs else chk us o sz i := by
  have h1 := chk_at hj h
  have h2 := chk_at hi h
  unfold chk splice
  split
  · subst_vars
    rw [List.append_assoc, List.drop_append_of_le_length (by simp; omega)]
    rw [List.drop_eq_nil_of_le (by simp; omega), List.nil_append, List.take_append_of_le_length (Nat.le_refl _), List.take_length]
  · rename_i hne
    rcases Nat.lt_or_gt_of_ne hne with hlt | hgt
    · have h3 : i * sz + sz ≤ j * sz := by have := Nat.mul_le_mul_right sz (show i + 1 ≤ j from hlt); rwa [Nat.add_mul, Nat.one_mul] at this
      rw [List.append_assoc, List.drop_append_of_le_length (by simp; omega), List.take_append_of_le_length (by simp; omega)]
      rw [List.drop_take, List.take_take]
      congr 1; omega
    · have h3 : j * sz + sz ≤ i * sz := by have := Nat.mul_le_mul_right sz (show j + 1 ≤ i from hgt); rwa [Nat.add_mul, Nat.one_mul] at this
      rw [List.append_assoc, List.drop_append, List.drop_eq_nil_of_le (by simp; omega), List.nil_append, List.drop_append, List.drop_eq_nil_of_le (by simp; omega), List.nil_append, List.drop_drop]
      congr 2
      simp; omega

theorem RdS.len {s : Sh α} {Z : PH} {v : Value} {xs : List α} (h : RdS s Z v xs) : vlen v = some (vi xs.length) := by
  rcases h with ⟨rfl, rfl⟩ | ⟨b, o, us, x, rfl, -⟩ <;> rfl
theorem OwS.len {s : Sh α} {Z h : PH} {v : Value} {xs : List α} (q : OwS s Z h v xs) : vlen v = some (vi xs.length) := by
  rcases q with ⟨rfl, rfl⟩ | ⟨b, o, us, x, rfl, -⟩ <;> rfl
theorem RdS.val {s : Sh α} {Z : PH} {v : Value} {xs : List α} (h : RdS s Z v xs) : ∃ a, v = .slice a xs.length xs.length := by
  rcases h with ⟨rfl, rfl⟩ | ⟨b, o, us, x, rfl, -⟩ <;> exact ⟨_, rfl⟩
theorem RdS.bd {s : Sh α} {Z : PH} {v : Value} {xs : List α} (h : RdS s Z v xs) : xs.length ≤ 281474976710656 := by
  rcases h with ⟨rfl, rfl⟩ | ⟨b, o, us, x, rfl, -, -, -, h, -⟩
  · simp
  · exact h.2
/-- Where element j lies. -/
theorem RdS.idx {s : Sh α} {Z : PH} {v : Value} {xs : List α} (h : RdS s Z v xs) {j : Int} {u : α} (hj : ix xs j = some u) {sz : Nat} (hz : s.sz = sz) :
    ∃ p, vidxs sz v (vi j) = some p := by
  obtain ⟨h1, h2, h3⟩ := ix_lt hj
  rcases h with ⟨rfl, rfl⟩ | ⟨b, o, us, x, rfl, -⟩
  · simp at h2; omega
  · exact ⟨_, by rw [V_idxs, if_pos ⟨h1, h2⟩]⟩
/-- It is read. -/
theorem RdS.at' {s : Sh α} {Z : PH} {v : Value} {xs : List α} (h : RdS s Z v xs) {H : Hp} (hZ : Z.le (Hp.ph H)) {j : Int} {u : α} (hj : ix xs j = some u) {sz : Nat} (hz : s.sz = sz) {p : Value} (hp : vidxs sz v (vi j) = some p) :
    ∃ cs, s.rd Z cs u ∧ cs.length = sz ∧ ∀ agg, vload H sz agg p = mkv agg cs := by
  obtain ⟨h1, h2, h3⟩ := ix_lt hj
  subst hz
  rcases h with ⟨rfl, rfl⟩ | ⟨b, o, us, x, rfl, h4, h5, h6, h7, h8⟩
  · simp at h2; omega
  · rw [V_idxs, if_pos ⟨h1, h2⟩] at hp
    cases hp
    have hlt : j.toNat < xs.length := by omega
    refine ⟨_, h8 _ u h3, chk_length hlt h7.1, fun agg => ?_⟩
    have hb : Hp.cells H b = some us := by rw [cells_of (ph_get hZ h4)]; exact h5
    simp only [vload, Option.isNone_none, if_true, Hp.load, hb]
    rw [if_pos (chk_at hlt h7.1)]; rfl
theorem RdS.mid {s : Sh α} {Z : PH} {v : Value} {xs : List α} (h : RdS s Z v xs) {H : Hp} (hZ : Z.le (Hp.ph H)) {lo hi : Int} {ys : List α} (hs : sub xs lo hi = some ys) {sz : Nat} (hz : s.sz = sz) :
    ∃ v', aslice H sz v (some (vi lo)) (some (vi hi)) = some v' ∧ RdS s Z v' ys := by
  subst hz
  unfold sub at hs
  split at hs
  case isFalse => cases hs
  rename_i hb
  cases hs
  obtain ⟨a, rfl⟩ := Int.eq_ofNat_of_zero_le hb.1
  obtain ⟨c, rfl⟩ := Int.eq_ofNat_of_zero_le (Int.le_trans hb.1 hb.2.1)
  have hac : a ≤ c := by omega
  have hcx : c ≤ xs.length := by omega
  simp only [Int.toNat_natCast]
  rcases h with ⟨rfl, rfl⟩ | ⟨b, o, us, x, rfl, h4, h5, h6, h7, h8⟩
  · simp at hcx; subst hcx
    obtain rfl : a = 0 := by omega
    exact ⟨.slice none 0 0, rfl, .inl ⟨rfl, by simp⟩⟩
  · have he : Hp.esz H b = some s.sz := by simp only [Hp.esz, ph_get hZ h4, Option.bind_some]; exact h6
    have hl : ((xs.take c).drop a).length = c - a := by simp; omega
    refine ⟨.slice (some ⟨b, o + a * s.sz, none⟩) (c - a) (c - a), ?_, .inr ⟨b, o + a * s.sz, us, x, by rw [hl], h4, h5, h6, ?_, fun i y hy => ?_⟩⟩
    · simp only [aslice, he, asNat]
      simp [hcx, hac]
    · rw [hl]
      refine ⟨?_, by have := h7.2; omega⟩
      have h7 := h7.1
      have : a * s.sz + (c - a) * s.sz = c * s.sz := by rw [← Nat.add_mul]; congr 1; omega
      have h9 : c * s.sz ≤ xs.length * s.sz := Nat.mul_le_mul_right _ hcx
      omega
    · have hi := (List.getElem?_eq_some_iff.1 hy).1
      rw [List.getElem?_drop, List.getElem?_take] at hy
      split at hy
      · have := h8 (a + i) y hy
        have e : o + a * s.sz + i * s.sz = o + (a + i) * s.sz := by rw [Nat.add_mul]; omega
        unfold chk at this ⊢
        rw [e]; exact this
      · cases hy
theorem RdS.slice_lo {s : Sh α} {Z : PH} {v : Value} {xs : List α} (h : RdS s Z v xs) {H : Hp} (hZ : Z.le (Hp.ph H)) (x : Option Value) {sz : Nat} (hz : s.sz = sz) : aslice H sz v none x = aslice H sz v (some (vi 0)) x := by
  subst hz
  rcases h with ⟨rfl, rfl⟩ | ⟨b, o, us, y, rfl, h4, h5, h6, h7, h8⟩
  · simp only [aslice, asNat]; cases asNat 0 0 x 0 <;> simp
  · have he : Hp.esz H b = some s.sz := by simp only [Hp.esz, ph_get hZ h4, Option.bind_some]; exact h6
    simp only [aslice, asNat, he]; cases asNat 0 xs.length x xs.length <;> simp
theorem RdS.slice_hi {s : Sh α} {Z : PH} {v : Value} {xs : List α} (h : RdS s Z v xs) {H : Hp} (hZ : Z.le (Hp.ph H)) (x : Option Value) {sz : Nat} (hz : s.sz = sz) : aslice H sz v x none = aslice H sz v x (some (vi xs.length)) := by
  subst hz
  rcases h with ⟨rfl, rfl⟩ | ⟨b, o, us, y, rfl, h4, h5, h6, h7, h8⟩
  · rfl
  · have he : Hp.esz H b = some s.sz := by simp only [Hp.esz, ph_get hZ h4, Option.bind_some]; exact h6
    simp [aslice, asNat, he]

/-- An element is written. -/
theorem Sat.set {Z V : PH} {H : Hp} {l : List It} {s : Sh α} {v : Value} {xs : List α} (n : Nat) (ht : l[n]? = some (It.sl s v xs)) (hl : s.Lt) (h : Sat Z V H l) {sz : Nat} (hz : s.sz = sz) {j : Int} {u0 u : α} (hj : ix xs j = some u0)
    {p : Value} (hp : vidxs sz v (vi j) = some p) {w : Value} {cs : List Value} (hc : w.cells.toList = cs) (hr : s.rd Z cs u) :
    ∃ H1, hstore sz p w H = some H1 ∧ Sat Z V H1 (l.set n (It.sl s v (Pu.st xs j u))) := by
  obtain ⟨h1, h2, h3⟩ := ix_lt hj
  subst hz
  have hlt : j.toNat < xs.length := by omega
  have hcur := h.curS n ht
  rcases hcur with ⟨rfl, rfl⟩ | ⟨b, o, us, x, rfl, h4, h5, h6, h7, -⟩
  · simp at h2; omega
  have hb := (ph_some.1 h4).1
  have hrw : x = .rw s.sz us := by
    obtain ⟨-, -, N, hs, c, d, e, f, g, k, m⟩ := h
    rcases m n _ ht with ⟨q, -⟩ | ⟨b', o', us', hs', q1, q2, -⟩
    · cases q
    · cases q1
      have := e n _ _ q2
      rw [h4] at this; cases this
      simp at h5; rw [h5]
  subst hrw
  have hbd := h7.2
  have h7 := h7.1
  have hlen := s.len hr
  have hx : w.cells.size = s.sz := by rw [← hlen, ← hc]; simp
  have hat := chk_at hlt h7
  refine ⟨H.set b (.rw s.sz (splice us (o + j.toNat * s.sz) cs)), ?_, ?_⟩
  · rw [V_idxs, if_pos ⟨h1, h2⟩] at hp
    cases hp
    simp only [hstore, hb, hc]
    rw [if_pos ⟨hx, s.one hr, hat⟩]
  · refine h.wr n ht (by simp) (lt_of_get hb) fun F k hF hk q => ?_
    rcases q with ⟨q, -⟩ | ⟨b', o', us', hs', q1, q2, q3, q4, q5, q6, q7⟩
    · cases q
    · simp only [Value.slice.injEq, Option.some.injEq, Addr.mk.injEq, and_true] at q1
      obtain ⟨⟨rfl, rfl⟩, -, -⟩ := q1
      refine ⟨⟨_, q2⟩, .inr ⟨b, o, splice us (o + j.toNat * s.sz) cs, fun i => if i = j.toNat then .emp else hs' i, by simp [Pu.st], PH.upd_same .., ⟨by rw [splice_length _ _ _ (by omega)]; simpa [Pu.st] using h7, by simpa [Pu.st] using hbd⟩, fun i => ?_, fun i => ?_, fun i i' e => ?_, fun i y hy => ?_⟩⟩
      · dsimp only; split
        · exact PH.emp_le _
        · intro c z e
          have : c ≠ b := fun e' => by subst e'; rw [q5 i] at e; cases e
          rw [PH.upd_ne _ _ this]; exact q4 i _ _ e
      · dsimp only; split
        · rfl
        · exact q5 i
      · dsimp only; split
        · exact PH.emp_dis _
        · split
          · exact PH.dis_emp _
          · exact q6 i i' e
      · have hi : i < xs.length := by have := (List.getElem?_eq_some_iff.1 hy).1; simpa [Pu.st] using this
        rw [chk_splice hlt hi h7 hlen]
        by_cases e : i = j.toNat
        · subst e
          dsimp only
          rw [if_pos rfl, if_pos rfl]
          rw [Pu.st, List.getElem?_set_self hlt] at hy
          cases hy
          exact hl (s.rd_mono hF hr)
        · dsimp only
          rw [if_neg e, if_neg e]
          rw [Pu.st, List.getElem?_set_ne (fun q => e q.symm)] at hy
          have hus : us' = us := by
            have := ph_get hk q2
            rw [hb] at this; cases this; rfl
          subst hus
          exact q7 i y hy

/-- Something is appended: light elements. -/
theorem slcells_of {s : Sh α} {Z : PH} {v : Value} {xs : List α} (h : RdS s Z v xs) {H : Hp} (hZ : Z.le (Hp.ph H)) {sz : Nat} (hz : s.sz = sz) :
    ∃ us, slcells H sz v = some (xs.length, us) ∧ us.length = xs.length * sz ∧ us.all Value.oneCell' = true ∧ ∀ (i : Nat) (y : α), xs[i]? = some y → s.rd Z (chk us 0 sz i) y := by
  subst hz
  rcases h with ⟨rfl, rfl⟩ | ⟨b, o, us, x, rfl, h4, h5, h6, h7, h8⟩
  · exact ⟨[], rfl, by simp, rfl, fun i y e => by simp at e⟩
  · have h7 := h7.1
    have hb : Hp.cells H b = some us := by rw [cells_of (ph_get hZ h4)]; exact h5
    have hl : ((us.drop o).take (xs.length * s.sz)).length = xs.length * s.sz := by simp; omega
    refine ⟨(us.drop o).take (xs.length * s.sz), ?_, hl, ?_, fun i y hy => ?_⟩
    · simp only [slcells, Option.isNone_none, if_true, Hp.load, hb, if_pos h7, Option.map_some]
    · rw [List.all_eq_true]
      intro w hw
      obtain ⟨k, hk⟩ := List.getElem?_of_mem hw
      have hkl := (List.getElem?_eq_some_iff.1 hk).1
      rw [hl] at hkl
      have hs : 0 < s.sz := by
        rcases Nat.eq_zero_or_pos s.sz with e | e
        · rw [e, Nat.mul_zero] at hkl; omega
        · exact e
      have hq : k / s.sz < xs.length := Nat.div_lt_of_lt_mul (by rw [Nat.mul_comm]; exact hkl)
      have hd : k / s.sz * s.sz + k % s.sz = k := by rw [Nat.mul_comm]; exact Nat.div_add_mod k s.sz
      have hm := Nat.mod_lt k hs
      have h9 := s.one (h8 _ _ (List.getElem?_eq_getElem hq))
      rw [List.all_eq_true] at h9
      refine h9 w (List.mem_of_getElem? (i := k % s.sz) ?_)
      rw [List.getElem?_take, List.getElem?_drop, if_pos hkl] at hk
      rw [chk, List.getElem?_take, if_pos hm, List.getElem?_drop, Nat.add_assoc, hd]
      exact hk
    · rw [chk_take_drop us o s.sz i xs.length (List.getElem?_eq_some_iff.1 hy).1]
      exact h8 i y hy
theorem Sat.app {Z V W : PH} {H : Hp} {l : List It} {s : Sh α} {v q : Value} {xs ys zs : List α} (n : Nat) (ht : l[n]? = some (It.sl s v xs)) (hl : s.Lt) (h : Sat Z V H l) {sz : Nat} (hz : s.sz = sz) {s' : Sh α} (hz' : s'.sz = sz)
    (hq : RdS s' W q ys) (hW : W.le (Hp.ph H)) (hf : ∀ {cs : List Value} {x : α}, s'.rd W cs x → s.rd Z cs x) {bytes : Nat} (hby : 0 < bytes) (ha : Pu.app bytes xs ys = some zs) :
    ∃ v' H1, aappend sz bytes v q H = some (v', H1) ∧ Sat Z V H1 (l.set n (It.sl s v' zs)) := by
  subst hz
  have hlim : xs.length + ys.length ≤ 281474976710656 := by
    unfold Pu.app at ha
    split at ha
    · rename_i hb; have := Nat.le_mul_of_pos_right (xs.length + ys.length) hby; omega
    · cases ha
  unfold Pu.app at ha
  split at ha
  case isFalse => cases ha
  rename_i hb
  cases ha
  obtain ⟨new, hn1, hn2, hn3, hn4⟩ := slcells_of hq hW hz'
  by_cases h0 : ys.length = 0
  · have : ys = [] := List.eq_nil_of_length_eq_zero h0
    subst this
    refine ⟨v, H, ?_, ?_⟩
    · rcases (h.curS n ht).val with ⟨a, rfl⟩
      cases a with
      | none =>
        rcases h.curS n ht with ⟨e, e2⟩ | ⟨b, o, us, x, e, -⟩
        · subst e2; simp only [aappend, hn1]; rfl
        · cases e
      | some a => simp only [aappend, hn1]; rfl
    · rw [List.append_nil]
      have : l.set n (It.sl s v xs) = l := by
        apply List.ext_getElem?
        intro i
        by_cases e : i = n
        · subst e; rw [List.getElem?_set_self (List.getElem?_eq_some_iff.1 ht).1, ht]
        · rw [List.getElem?_set_ne (fun q => e q.symm)]
      rw [this]; exact h
  · have hfx : ∀ {F : PH}, Z.le F → ∀ (i : Nat) (y : α), ys[i]? = some y → s.ow F .emp (chk new 0 s.sz i) y := fun hF i y hy => hl (s.rd_mono hF (hf (hn4 i y hy)))
    have hcur := h.curS n ht
    rcases hcur with ⟨rfl, rfl⟩ | ⟨b, o, us, x, rfl, h4, h5, h6, h7, -⟩
    · refine ⟨.slice (some ⟨H.length, 0, none⟩) ys.length ys.length, H ++ [.rw s.sz new], ?_, ?_⟩
      · simp only [aappend, hn1, if_neg h0]
        rw [if_pos ⟨by simpa using hb, hn3⟩]
      · refine h.act n ht fun F k hF hk q => ⟨PH.one H.length (.rw s.sz new), .inr ⟨H.length, 0, new, fun _ => .emp, by simp, PH.one_same .., ⟨by simp [hn2], by simp at hlim ⊢; exact hlim⟩, fun _ => PH.emp_le _, fun _ => rfl, fun _ _ _ => PH.emp_dis _, fun i y hy => hfx hF i y (by simpa using hy)⟩,
          PH.one_le (ph_some.2 ⟨get_at rfl, by simp⟩), fun c y e => ?_, fun c y e _ => ph_app _ _ _ _ e⟩
        unfold PH.one PH.upd at e
        split at e
        · subst_vars; right; simp [Hp.ph]
        · cases e
    · have h7 := h7.1
      have hb1 := (ph_some.1 h4).1
      have hblt := lt_of_get hb1
      have hcs : slcells H s.sz (.slice (some ⟨b, o, none⟩) xs.length xs.length) = some (xs.length, (us.drop o).take (xs.length * s.sz)) := by
        simp only [slcells, Option.isNone_none, if_true, Hp.load, show Hp.cells H b = some us by rw [cells_of hb1]; exact h5, if_pos h7, Option.map_some]
      have hlo : ((us.drop o).take (xs.length * s.sz)).length = xs.length * s.sz := by simp; omega
      have hrw : x = .rw s.sz us := by
        obtain ⟨-, -, N, hs, c, d, e, f, g, k, m⟩ := h
        rcases m n _ ht with ⟨q, -⟩ | ⟨b', o', us', hs', q1, q2, -⟩
        · cases q
        · cases q1
          have := e n _ _ q2
          rw [h4] at this; cases this
          simp at h5; rw [h5]
      subst hrw
      refine ⟨.slice (some ⟨H.length, 0, none⟩) (xs.length + ys.length) (xs.length + ys.length), List.set H b .dead ++ [.rw s.sz ((us.drop o).take (xs.length * s.sz) ++ new)], ?_, ?_⟩
      · simp only [aappend, hn1, hb1, hcs, if_neg h0]
        rw [if_pos ⟨trivial, trivial, hb, hn3⟩]
      · refine h.act n ht fun F k hF hk q => ?_
        rcases q with ⟨q, -⟩ | ⟨b', o', us', hs', q1, q2, q3, q4, q5, q6, q7⟩
        · cases q
        · simp only [Value.slice.injEq, Option.some.injEq, Addr.mk.injEq, and_true] at q1
          obtain ⟨⟨rfl, rfl⟩, -, -⟩ := q1
          have hus : us' = us := by
            have := ph_get hk q2
            rw [hb1] at this; cases this; rfl
          subst hus
          have hkn : ∀ c y, k c = some y → c ≠ H.length := fun c y e e' => by
            have := lt_of_get (ph_get hk e); omega
          refine ⟨(k.del b).upd H.length (.rw s.sz ((us'.drop o).take (xs.length * s.sz) ++ new)), .inr ⟨H.length, 0, (us'.drop o).take (xs.length * s.sz) ++ new, fun i => if i < xs.length then hs' i else .emp, by simp, PH.upd_same .., ?_, fun i => ?_, fun i => ?_, fun i i' e => ?_, fun i y hy => ?_⟩, fun c y e => ?_, fun c y e => ?_, fun c y e e' => ?_⟩
          · refine ⟨?_, by simpa using hlim⟩
            simp only [List.length_append, hlo, hn2]; rw [Nat.add_mul]; omega
          · dsimp only; split
            · intro c z e
              have h1 := q4 i _ _ e
              rw [PH.upd_ne _ _ (hkn c z h1)]
              have : c ≠ b := fun e' => by subst e'; rw [q5 i] at e; cases e
              unfold PH.del; rw [if_neg this]; exact h1
            · exact PH.emp_le _
          · dsimp only; split
            · cases e : hs' i H.length with
              | none => rfl
              | some z => exact absurd rfl (hkn _ _ (q4 i _ _ e))
            · rfl
          · dsimp only; split
            · split
              · exact q6 i i' e
              · exact PH.dis_emp _
            · exact PH.emp_dis _
          · dsimp only
            rw [List.getElem?_append] at hy
            split at hy
            · rename_i hi
              rw [if_pos hi, chk_app_left _ _ 0 s.sz i xs.length hi (by rw [hlo]; omega), chk_take_drop us' o s.sz i xs.length hi]
              exact q7 i y hy
            · rename_i hi
              rw [if_neg hi, chk_app_right _ _ xs.length s.sz i hlo (by omega)]
              exact hfx hF _ y hy
          · by_cases hc : c = H.length
            · subst hc; rw [PH.upd_same] at e; cases e; exact ph_some.2 ⟨get_at (by simp), by simp⟩
            · rw [PH.upd_ne _ _ hc] at e
              unfold PH.del at e
              split at e
              · cases e
              · rename_i hcb
                have h1 := ph_some.1 (hk _ _ e)
                have h2 := lt_of_get h1.1
                exact ph_some.2 ⟨by rw [get_left (by simpa using h2), get_other hcb]; exact h1.1, h1.2⟩
          · by_cases hc : c = H.length
            · subst hc; right; simp [Hp.ph]
            · rw [PH.upd_ne _ _ hc] at e
              exact .inl ⟨y, PH.del_le _ _ _ _ e⟩
          · have hcb : c ≠ b := fun e'' => by subst e''; rw [q2] at e'; cases e'
            have h1 := ph_some.1 e
            have h2 := lt_of_get h1.1
            exact ph_some.2 ⟨by rw [get_left (by simpa using h2), get_other hcb]; exact h1.1, h1.2⟩
end
end Go.Ab
