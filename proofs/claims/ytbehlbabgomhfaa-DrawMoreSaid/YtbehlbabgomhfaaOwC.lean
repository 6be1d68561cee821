/- slices.Concat of lists of bools, told by hand: the room that Grow makes is enough, however long they are. The proofs of the two functions began as lift.py's print. Own work. -/
import Derived.Test.YtbehlbabgomhfaaTy
import Derived.Test.YtbehlbabgomhfaaGslices
namespace Go.Ab
open Go Go.Pu
/-- A slice of its own of bools xs, with room for c. -/
def It.room (v : Value) (xs : List Bool) (c : Nat) : It := ⟨fun _ h => (v = .slice none 0 0 ∧ xs = [] ∧ c = 0) ∨ ∃ b, v = .slice (some ⟨b, 0, none⟩) xs.length c ∧ h b = some (.rw 1 (xs.map .bool)) ∧ c ≤ 281474976710656 ∧ 0 < c,
  fun _ hh q => q.imp id fun ⟨b, e, f, g⟩ => ⟨b, e, hh _ _ f, g⟩⟩
theorem cells_bools {us : List Value} {ys : List Bool} (h : us.length = ys.length) (k : ∀ (i : Nat) (y : Bool), ys[i]? = some y → chk us 0 1 i = [.bool y]) : us = ys.map .bool := by
  refine List.ext_getElem? fun i => ?_
  rw [List.getElem?_map]
  rcases Nat.lt_or_ge i ys.length with e | e
  · have h1 := k i _ (List.getElem?_eq_getElem e)
    unfold chk at h1
    rw [List.getElem?_eq_getElem e, Option.map_some]
    have h2 : (us.drop (0 + i * 1)).take 1 = [us[i]'(by omega)] := by
      rw [Nat.zero_add, Nat.mul_one, List.drop_eq_getElem_cons (by omega), List.take_succ_cons, List.take_zero]
    rw [h2] at h1
    rw [List.getElem?_eq_getElem (by omega), List.cons.inj h1 |>.1]
  · rw [List.getElem?_eq_none e, List.getElem?_eq_none (by omega)]; rfl
section
variable {T : FuncId → Option AFunc} {Q : AX → Tm → Hp → Prop} {K : List Fk} {tm : Tm} {H : Hp} {l : List DOp} {sl : List Nat} {t : Nat} {Z V : PH} {L : List It}
theorem room_nil (h : Sat Z V H L) : Sat Z V H (It.room (.slice none 0 0) [] 0 :: L) := h.push fun _ _ => .inl ⟨rfl, rfl, rfl⟩
theorem room_full {v : Value} {xs : List Bool} {c : Nat} (h : Sat Z V H (It.room v xs c :: L)) (hc : xs.length = c) : Sat Z V H (It.sl Sh.bool v xs :: L) := by
  refine h.conv 0 (t := It.room v xs c) (u := It.sl Sh.bool v xs) rfl fun F g hF q => ?_
  rcases q with ⟨rfl, rfl, rfl⟩ | ⟨b, rfl, h2, h3, h4⟩
  · exact .inl ⟨rfl, rfl⟩
  · subst hc
    refine sl_of_pts (Z := F) (s := Sh.bool) (us := xs.map .bool) Sh.flat_lt ⟨by show _ = xs.length * 1; simp, fun i y hy => ?_⟩ rfl h3 rfl F g (PH.le.refl _) h2
    have hi := (List.getElem?_eq_some_iff.1 hy).1
    show chk (xs.map .bool) 0 1 i = [.bool y]
    unfold chk
    rw [Nat.zero_add, Nat.mul_one, List.drop_eq_getElem_cons (by simpa using hi), List.take_succ_cons, List.take_zero, List.getElem_map]
    rw [List.getElem?_eq_getElem hi] at hy; cases hy; rfl
theorem o_appk {x y : Operand} {n : Int} (hS : Sat Z V H L) (hx : ev tm x = .slice none 0 0) (hy : ev tm y = vi n) (h0 : 0 < n) (h1 : n ≤ 281474976710656)
    (k : ∀ b H1, Sat Z V H1 (pts b (.rw 1 []) :: L) → R T Q (.ops l :: K) .normal (ub tm t (.slice (some ⟨b, 0, none⟩) n.toNat n.toNat)) H1) : R T Q (.ops (⟨some t, .appk 1 1 x y, none, sl⟩ :: l) :: K) .normal tm H :=
  o_of rfl (by simp only [aop, hx, hy]; rw [if_pos ⟨h0, by omega⟩]) (k _ _ (hS.new' (by simp)))
/-- Nothing of it, but its room. -/
theorem o_slr {x y : Operand} {b c : Nat} (hS : Sat Z V H (pts b (.rw 1 []) :: L)) (hx : ev tm x = .slice (some ⟨b, 0, none⟩) c c) (hy : ev tm y = vi 0) (h0 : 0 < c) (h1 : c ≤ 281474976710656)
    (k : ∀ w, Sat Z V H (It.room w [] c :: L) → R T Q (.ops l :: K) .normal (ub tm t w) H) : R T Q (.ops (⟨some t, .slice 1 x none (some y), none, sl⟩ :: l) :: K) .normal tm H := by
  have hb := hS.curB 0 rfl
  refine o_of rfl (v := .slice (some ⟨b, 0, none⟩) 0 c) (H1 := H) ?_ (k _ (hS.conv 0 (t := pts b (.rw 1 [])) (u := It.room (.slice (some ⟨b, 0, none⟩) 0 c) [] c) rfl fun F g _ q => .inr ⟨b, rfl, q, h1, h0⟩))
  have he : Hp.esz H b = some 1 := by simp [Hp.esz, hb, Blk.esz]
  have hc : Hp.cells H b = some [] := by rw [cells_of hb]; rfl
  have hbl : H.blind ⟨b, 0, none⟩ (c * 1) = true := by unfold Hp.blind; simp only [hc]; simp; omega
  simp only [aop, Option.map_some, Option.map_none, hx, hy, aslice, he, asNat, hbl]
  simp
theorem o_appr {x y : Operand} {v q : Value} {xs ys : List Bool} {c : Nat} {W : PH} (hS : Sat Z V H (It.room v xs c :: L)) (hx : ev tm x = v) (hy : ev tm y = q) (hq : RdS Sh.bool W q ys) (hW : W.le (Hp.ph H)) (hc : xs.length + ys.length ≤ c)
    (k : ∀ w H1, Sat Z V H1 (It.room w (xs ++ ys) c :: L) → R T Q (.ops l :: K) .normal (ub tm t w) H1) : R T Q (.ops (⟨some t, .append 1 1 x y, none, sl⟩ :: l) :: K) .normal tm H := by
  obtain ⟨new, hn1, hn2, hn3, hn4⟩ := slcells_of hq hW (sz := 1) rfl
  have hnew : new = ys.map .bool := cells_bools (by omega) hn4
  have hcur : ∃ g : PH, g.le (Hp.ph H) ∧ ∃ F, (It.room v xs c).P F g := by
    obtain ⟨_, _, N, hs, c', d, e, f, g, k, m⟩ := hS
    exact ⟨_, e 0, _, m 0 _ rfl⟩
  obtain ⟨g, hg, F, hP⟩ := hcur
  by_cases h0 : ys.length = 0
  · have : ys = [] := List.eq_nil_of_length_eq_zero h0
    subst this
    refine o_of rfl (v := v) (H1 := H) ?_ (k _ _ (by rw [List.append_nil]; exact hS))
    rw [A_append, hx, hy]
    rcases hP with ⟨rfl, rfl, rfl⟩ | ⟨b, rfl, h2, h3, h4⟩
    · simp only [aappend, hn1]; rfl
    · simp only [aappend, hn1]; rfl
  · rcases hP with ⟨rfl, rfl, rfl⟩ | ⟨b, rfl, h2, h3, h4⟩
    · simp at hc; subst hc; exact absurd rfl h0
    · have hb1 : H[b]? = some (.rw 1 (xs.map .bool)) := ph_get hg h2
      have hblt := lt_of_get hb1
      have hcs : slcells H 1 (.slice (some ⟨b, 0, none⟩) xs.length c) = some (xs.length, xs.map .bool) := by
        simp only [slcells, Option.isNone_none, if_true, Hp.load, show Hp.cells H b = some (xs.map .bool) by rw [cells_of hb1]; rfl]
        rw [if_pos (by simp), Option.map_some, List.drop_zero, List.take_of_length_le (by simp)]
      refine o_of rfl (v := .slice (some ⟨H.length, 0, none⟩) (xs.length + ys.length) c) (H1 := List.set H b .dead ++ [.rw 1 (xs.map .bool ++ new)]) ?_ (k _ _ ?_)
      · rw [A_append, hx, hy]
        simp only [aappend, hn1, hb1, hcs, if_neg h0]
        rw [if_neg (fun e => by have := e.2.1; omega), if_pos ⟨trivial, hc, hn3⟩]
      · refine hS.act 0 (t := It.room (.slice (some ⟨b, 0, none⟩) xs.length c) xs c) (u := It.room (.slice (some ⟨H.length, 0, none⟩) (xs.length + ys.length) c) (xs ++ ys) c) rfl fun F k hF hk q => ?_
        rcases q with ⟨q, -⟩ | ⟨b', q1, q2, q3, q4⟩
        · cases q
        · simp only [Value.slice.injEq, Option.some.injEq, Addr.mk.injEq, and_true] at q1
          subst q1
          have hkn : ∀ c y, k c = some y → c ≠ H.length := fun c y e e' => by
            have := lt_of_get (ph_get hk e); omega
          have hnd : ∀ c, c ≠ b → c < H.length → (List.set H b Blk.dead ++ [Blk.rw 1 (xs.map .bool ++ new)])[c]? = H[c]? := fun c hc hl => by
            rw [List.getElem?_append_left (by simpa using hl), List.getElem?_set_ne (fun e => hc e.symm)]
          refine ⟨(k.del b).upd H.length (.rw 1 (xs.map .bool ++ new)), .inr ⟨H.length, by rw [List.length_append], by rw [PH.upd_same, hnew, List.map_append], h3, h4⟩, fun c z r => ?_, fun c z r => ?_, fun c z r s => ?_⟩
          · by_cases hc : c = H.length
            · subst hc; rw [PH.upd_same] at r; cases r
              exact ph_some.2 ⟨by rw [List.getElem?_append_right (by simp)]; simp, by simp⟩
            · rw [PH.upd_ne _ _ hc] at r
              unfold PH.del at r
              split at r
              · cases r
              · rename_i hcb
                have h9 := hk _ _ r
                rw [ph_congr (hnd c hcb (lt_of_get (ph_some.1 h9).1))]; exact h9
          · by_cases hc : c = H.length
            · subst hc; right; simp [Hp.ph]
            · rw [PH.upd_ne _ _ hc] at r
              unfold PH.del at r
              split at r
              · cases r
              · exact .inl ⟨z, r⟩
          · have hcb : c ≠ b := fun e => by subst e; rw [q2] at s; cases s
            rw [ph_congr (hnd c hcb (lt_of_get (ph_some.1 r).1))]; exact r
end
end Go.Ab
namespace Go.Proofs.Ytbehlbabgomhfaa
open Go Go.Ab
def P.slices_Grow_bool_bool__nil (a1 : Int) : Option (List Bool) := if 0 ≤ a1 ∧ a1 ≤ 281474976710656 then some [] else none
def P.slices_Concat_bool_bool.b1 (c : Int) (i4 : Int) (x3 : (List Bool)) (s7 : (List Bool)) : Option (List Bool) :=
  if ((s7.length + x3.length : Nat) : Int) ≤ c then some (s7 ++ x3) else none
def P.slices_Concat_bool_bool.b0 (i1 : Int) (x1 : (List Bool)) (s1 : Int) : Option Int :=
  if (Pu.W (s1 + (x1.length : Int))) < 0 then
    none
  else
    some (Pu.W (s1 + (x1.length : Int)))
def P.slices_Concat_bool_bool (a0 : (List (List Bool))) : Option (List Bool) :=
  (Pu.forP (P.slices_Concat_bool_bool.b0) 0 a0 0).bind fun y1 =>
  (P.slices_Grow_bool_bool__nil y1).bind fun x2 =>
  (Pu.forP (P.slices_Concat_bool_bool.b1 y1) 0 a0 x2).bind fun y2 =>
  if y2.length = y1.toNat then some y2 else none
/-! slices_Grow_bool_bool__nil -/
structure Nd.slices_Grow_bool_bool__nil (T : FuncId → Option AFunc) : Prop where
  own : Has T I.slices_Grow_bool_bool F.slices_Grow_bool_bool
set_option maxHeartbeats 1000000 in
theorem X.slices_Grow_bool_bool__nil {T : FuncId → Option AFunc} (nd : Nd.slices_Grow_bool_bool__nil T) {Z V : PH} {H : Hp} {a1 : Int} (hs : Sat Z V H []) {r : (List Bool)} (e : P.slices_Grow_bool_bool__nil a1 = some r) :
    G T I.slices_Grow_bool_bool [(.slice none 0 0), vi a1] H (fun rv H' => ∃ (u1 : Value), rv = u1 ∧ Sat Z V H' [It.room u1 r a1.toNat]) := by
 unfold P.slices_Grow_bool_bool__nil at e
 split at e
 case isFalse => cases e
 rename_i hb
 have hb1 := hb.1
 have hb2 := hb.2
 have hw : Pu.W (a1 - (Pu.W (0 - 0))) = a1 := by
  rw [show Pu.W (0 - 0) = 0 from rfl, Int.sub_zero]; exact Pu.W_of (by omega) (by omega)
 cases e
 refine f_mk nd.own ?_
 refine c_sr ?_
 refine o_mv (v := (.slice none 0 0)) rfl ?_
 refine c_nil (c_sq (c_sr ?_))
 refine o_mv (v := (vi a1)) rfl ?_
 refine o_lss rfl rfl (c_nil ?_)
 refine c_ifd rfl (fun q1 => absurd q1 (by omega)) (fun q1 => ?_)
 refine c_sk (c_sq (c_sr ?_))
 refine o_mv (v := (vi a1)) rfl ?_
 refine o_mv (v := (.slice none 0 0)) rfl ?_
 refine o_capn rfl ?_
 refine o_mv (v := (.slice none 0 0)) rfl ?_
 refine o_len rfl rfl (o_sub rfl rfl (o_sub rfl rfl ?_))
 refine o_mv (v := (vi (Pu.W (a1 - (Pu.W (0 - 0)))))) rfl ?_
 refine c_nil ?_
 refine c_gen (P := fun tm => tm 0 = (.slice none 0 0) ∧ tm 1 = (vi (Pu.W (a1 - (Pu.W (0 - 0))))) ∧ True) ⟨rfl, rfl, trivial⟩ ?_
 intro _ i1
 obtain ⟨h1, h2, -⟩ := i1
 refine c_sr (o_mv h2 (o_gtr rfl rfl (c_nil ?_)))
 refine c_jn (I := fun tm H => ∃ (Z1 V1 : PH) (w1 : Value), Gw Z V Z1 V1 ∧ Sat Z1 V1 H [It.room w1 [] a1.toNat] ∧ tm 0 = w1) (fun k1 => ?_) ?_
 ·refine c_ifd rfl (fun q2 => ?_) (fun q2 => ?_)
  ·rw [hw] at q2 h2
   refine c_r (o_mv h1 (o_mv h1 (o_capn rfl (o_slnil rfl rfl ?_))))
   refine o_mv h2 ?_
   refine o_appk hs rfl rfl q2 hb2 fun b2 H2 s2 => ?_
   refine o_mv h1 (o_len rfl rfl ?_)
   refine o_slr s2 rfl rfl (by omega) (by omega) fun w3 s3 => ?_
   refine o_mv (v := w3) rfl ?_
   refine c_nil ?_
   exact k1 _ _ ⟨_, _, _, Gw.refl _ _, s3, rfl⟩
  rw [hw] at q2
  have ha : a1.toNat = 0 := by omega
  refine c_sk ?_
  exact k1 _ _ ⟨_, _, _, Gw.refl _ _, by rw [ha]; exact room_nil hs, h1⟩
 intro _ H1 i2
 obtain ⟨Z1, V1, w1, g1, s1, h3⟩ := i2
 refine c_sr (o_mv h3 ?_)
 refine o_mv (v := w1) rfl ?_
 refine c_nil (c_rt ?_)
 exact ⟨.inr rfl, _, (ar1 rfl), _, rfl, (s1.weak g1 hs.zv)⟩
/-! slices_Concat_bool_bool -/
structure Nd.slices_Concat_bool_bool (T : FuncId → Option AFunc) : Prop where
  own : Has T I.slices_Concat_bool_bool F.slices_Concat_bool_bool
  slices_Grow_bool_bool__nil : Nd.slices_Grow_bool_bool__nil T
set_option maxHeartbeats 1000000 in
theorem X.slices_Concat_bool_bool {T : FuncId → Option AFunc} (nd : Nd.slices_Concat_bool_bool T) {Z V : PH} {H : Hp} {v1 : Value} {a0 : (List (List Bool))} (hs : Sat Z V H []) (hp1 : RdS sB V v1 a0) {r : (List Bool)} (e : P.slices_Concat_bool_bool a0 = some r) :
    G T I.slices_Concat_bool_bool [v1] H (fun rv H' => ∃ (u1 : Value), rv = u1 ∧ Sat Z V H' [It.sl Sh.bool u1 r]) := by
 unfold P.slices_Concat_bool_bool at e
 refine f_mk nd.own ?_
 refine c_sr ?_
 refine o_mv (v := (.slice none 0 0)) rfl ?_
 refine c_nil (c_sr ?_)
 refine o_mv (v := (vi 0)) rfl ?_
 refine c_nil (c_sq (c_sr ?_))
 refine o_mv (v := v1) rfl ?_
 refine o_len rfl (hp1).len ?_
 refine o_mv (v := (vi 0)) rfl ?_
 refine c_nil ?_
 obtain ⟨y1, q3, e⟩ := oB e
 refine c_bk ?_
 refine l_forP (xs := a0) (fun (i1 : Nat) (s1 : Int) tm H => tm 11 = vi i1 ∧ ∃ (Z1 V1 : PH), Gw Z V Z1 V1 ∧ Sat Z1 V1 H [] ∧ tm 0 = v1 ∧ tm 3 = (vi s1) ∧ tm 9 = v1 ∧ tm 10 = (vN a0)) (fun i1 x1 s1 s3 tm H2 q1 q2 j1 e1 k1 => ?_) (fun tm H1 jd => ?_) q3 ⟨rfl, _, _, Gw.refl _ _, hs, rfl, rfl, rfl, rfl⟩
 ·obtain ⟨hti0, Z1, V1, g1, s2, h1, h2, h3, h4⟩ := j1
  unfold P.slices_Concat_bool_bool.b0 at e1
  refine c_sr (o_lss hti0 h4 (c_nil (c_sq ?_)))
  refine c_ift rfl (Int.ofNat_lt.2 q2) ?_
  refine c_sk (c_sq (c_bk (c_sr ?_)))
  refine o_idx (v := v1) h3 hti0 (hp1.mono g1.v) rfl (Pu.ix_nat.trans q1) fun p1 q4 => ?_
  refine o_lds rfl (hp1.mono g1.v) s2.v q4 (Pu.ix_nat.trans q1) fun w1 h5 => ?_
  refine o_mv (v := w1) rfl ?_
  refine c_nil (c_sr (o_mv h2 ?_))
  refine o_mv (v := w1) rfl ?_
  refine o_len rfl (h5).len (o_add rfl rfl ?_)
  refine o_mv (v := (vi (Pu.W (s1 + (x1.length : Int))))) rfl ?_
  refine c_nil (c_sr ?_)
  refine o_mv (v := (vi (Pu.W (s1 + (x1.length : Int))))) rfl ?_
  refine o_lss rfl rfl (c_nil ?_)
  refine c_gen (P := fun tm => tm 0 = v1 ∧ tm 3 = (vi (Pu.W (s1 + (x1.length : Int)))) ∧ tm 9 = v1 ∧ tm 10 = (vN a0) ∧ tm 11 = (vJ i1) ∧ tm 20 = (.bool (decide ((Pu.W (s1 + (x1.length : Int))) < 0))) ∧ True) ⟨h1, rfl, h3, h4, hti0, rfl, trivial⟩ ?_
  intro _ i2
  obtain ⟨h6, h7, h8, h9, h10, h11, -⟩ := i2
  refine c_ifd h11 (fun q5 => ?_) (fun q5 => ?_)
  ·replace e1 := if_t q5 e1
   refine c_r ?_
   cases e1
  replace e1 := if_f q5 e1
  refine c_sk (c_end (c_r (o_add h10 rfl ?_)))
  refine o_mv (v := (vi (Pu.W ((i1 : Int) + 1)))) rfl ?_
  refine c_nil ?_
  obtain rfl := oJ e1
  exact k1 _ _ ⟨(iv rfl (w_suc q2 (hp1).bd)), _, _, g1, s2, h6, h7, h8, h9⟩
 obtain ⟨hte0, Z2, V2, g2, s4, h12, h13, h14, h15⟩ := jd
 refine c_sr (o_lss hte0 h15 (c_nil (c_sq ?_)))
 refine c_iff rfl (Int.lt_irrefl _) ?_
 refine c_ex ?_
 refine e_c ?_
 refine e_c ?_
 refine e_h ?_
 refine c_sr (o_mv h13 ?_)
 obtain ⟨x2, q6, e⟩ := oB e
 obtain ⟨Z3, V3, W1, g3, u1, c1, c2, -, c4, c3⟩ := Sat.call (l1 := []) s4
 refine o_call (mc rfl (mc rfl m0)) (X.slices_Grow_bool_bool__nil nd.slices_Grow_bool_bool__nil c1 q6) fun w2 H4 i3 => ?_
 obtain ⟨_, rfl, s5⟩ := i3
 have s6 := c3 _ _ s5
 refine o_mv (v := w2) rfl ?_
 refine c_nil (c_sq (c_sr (o_mv h12 (o_len rfl ((hp1.mono (g2.trans g3).v)).len ?_))))
 refine o_mv (v := (vi 0)) rfl ?_
 refine c_nil ?_
 obtain ⟨y2, q9, e⟩ := oB e
 refine c_bk ?_
 refine l_forP (xs := a0) (fun (i4 : Nat) (s7 : (List Bool)) tm H => tm 27 = vi i4 ∧ ∃ (Z4 V4 : PH) (w3 : Value), Gw Z3 V3 Z4 V4 ∧ Sat Z4 V4 H [It.room w3 s7 y1.toNat] ∧ tm 6 = w3 ∧ tm 25 = v1 ∧ tm 26 = (vN a0)) (fun i4 x3 s7 s9 tm H6 q7 q8 j2 e2 k2 => ?_) (fun tm H5 jd => ?_) q9 ⟨rfl, _, _, _, Gw.refl _ _, s6, rfl, rfl, rfl⟩
 ·obtain ⟨hti1, Z4, V4, w3, g4, s8, h16, h17, h18⟩ := j2
  unfold P.slices_Concat_bool_bool.b1 at e2
  refine c_sr (o_lss hti1 h18 (c_nil (c_sq ?_)))
  refine c_ift rfl (Int.ofNat_lt.2 q8) ?_
  refine c_sk (c_sq (c_bk (c_sr ?_)))
  refine o_idx (v := v1) h17 hti1 (hp1.mono (g2.trans (g3.trans g4)).v) rfl (Pu.ix_nat.trans q7) fun p2 q10 => ?_
  refine o_lds rfl (hp1.mono (g2.trans (g3.trans g4)).v) s8.v q10 (Pu.ix_nat.trans q7) fun w4 h19 => ?_
  refine o_mv (v := w4) rfl ?_
  refine c_nil (c_r (o_mv h16 ?_))
  refine o_mv (v := w4) rfl ?_
  split at e2
  case isFalse => cases e2
  rename_i q11
  refine o_appr s8 rfl rfl h19 s8.v (by omega) fun w5 H7 s10 => ?_
  refine o_mv (v := w5) rfl ?_
  refine c_nil (c_end (c_r (o_add hti1 rfl ?_)))
  refine o_mv (v := (vi (Pu.W ((i4 : Int) + 1)))) rfl ?_
  refine c_nil ?_
  cases e2
  exact k2 _ _ ⟨(iv rfl (w_suc q8 ((hp1.mono (g2.trans g3).v)).bd)), _, _, _, g4, s10, rfl, h17, h18⟩
 obtain ⟨hte1, Z5, V5, w6, g5, s11, h20, h21, h22⟩ := jd
 split at e
 case isFalse => cases e
 rename_i hlen
 refine c_sr (o_lss hte1 h22 (c_nil (c_sq ?_)))
 refine c_iff rfl (Int.lt_irrefl _) ?_
 refine c_ex ?_
 refine e_c ?_
 refine e_c ?_
 refine e_h ?_
 refine c_sr (o_mv h20 ?_)
 refine o_mv (v := w6) rfl ?_
 refine c_nil (c_rt ?_)
 obtain rfl := oJ e
 exact ⟨.inr rfl, _, (ar1 rfl), _, rfl, room_full (s11.weak (g2.trans (g3.trans g5)) hs.zv) hlen⟩
end Go.Proofs.Ytbehlbabgomhfaa
