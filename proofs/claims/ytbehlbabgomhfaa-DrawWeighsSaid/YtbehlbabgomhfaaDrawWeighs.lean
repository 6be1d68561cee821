/- What DrawWeighs does. Own work. -/
import Derived.Test.YtbehlbabgomhfaaWeighMath
import Derived.Test.YtbehlbabgomhfaaCoins3
import Derived.Laws.OwnMore
namespace Go.Proofs.Ytbehlbabgomhfaa
open Go Go.Ab Go.Ab.Coin

variable {T : FuncId → Option AFunc}

theorem nl_len (l : List Nat) : (nl l).length = l.length := by simp [nl]

theorem weighs_read [Has T I.parlmake_Below F.parlmake_Below] [Has T I.parlkeep5_below F.parlkeep5_below] {Q : AX → Tm → Hp → Prop} {K : List Fk} {H0 : Hp} (tm0 : Tm) {vl : Value} {l : List Int} (hl : Rd H0 vl (l.map vi)) (hll : l.length ≤ 17592186044416)
    (k : ∀ (tm : Tm) (H : Hp) (vo : Value) (ws : List Nat), (∀ t, t < 4 → tm t = tm0 t) → tm 5 = vo → tm 6 = vi ws.sum → ws.length ≤ 4 → (∀ w ∈ ws, w ≤ 3) → Own H0.length H vo (nl ws) → Ext H0.length H0 H → R T Q K .normal tm H) :
    ∀ (m i : Nat) (tm : Tm) (H : Hp) (vo : Value) (ws : List Nat), i + m = l.length → tm 26 = vi i → tm 25 = vi l.length → tm 24 = vl → (∀ t, t < 4 → tm t = tm0 t) → tm 5 = vo → tm 6 = vi ws.sum → ws.length ≤ 4 → (∀ w ∈ ws, w ≤ 3) → Own H0.length H vo (nl ws) → Ext H0.length H0 H →
      R T Q (.code (.loop F.parlkeep5_DrawWeighs.L0) :: .endb 0 :: K) .normal tm H := by
  intro m
  induction m with
  | zero =>
    intro i tm H vo ws hm h26 h25 h24 hT h5 h6 h4 hw ho he
    rw [R_loop]
    simp [F.parlkeep5_DrawWeighs.L0, F.parlkeep5_DrawWeighs.r4, h26, h25, show ¬ i < l.length by omega]
    refine k _ H vo ws (fun t ht => ?_) (by simp [h5]) (by simp [h6]) h4 hw ho he
    simp only [upd_app]
    repeat rw [if_neg (by omega)]
    exact hT t ht
  | succ m ih =>
    intro i tm H vo ws hm h26 h25 h24 hT h5 h6 h4 hw ho he
    have hi : i < l.length := by omega
    have hlH : Rd H vl (l.map vi) := hl.congr fun b _ hb => he.get hb
    have hsum : ws.sum ≤ 12 := by
      have : ∀ q : List Nat, (∀ w ∈ q, w ≤ 3) → q.sum ≤ 3 * q.length := fun q hq => by
        induction q with
        | nil => simp
        | cons a q ih => have := hq a (by simp); have := ih fun w hw => hq w (by simp [hw]); simp; omega
      have := this ws hw; omega
    have hle := he.1
    rw [R_loop]
    generalize hKK : Fk.code (.loop F.parlkeep5_DrawWeighs.L0) :: .endb 0 :: K = KK
    simp [F.parlkeep5_DrawWeighs.L0, F.parlkeep5_DrawWeighs.r4, F.parlkeep5_DrawWeighs.r5, F.parlkeep5_DrawWeighs.r6, h26, h25, h24, hi]
    refine N_at hlH rfl (u := vi l[i]) (by simp [hi]) fun _ => ?_
    simp [h5, ho.len, nl_len]
    refine Br_dec (fun h => ?_) (fun h => ?_)
    · have h' : ws.length < 4 := by omega
      simp [F.parlkeep5_DrawWeighs.r7, h5]
      refine R_call (args := [vi l[i], vi 4]) (by simp) (belowk_spec l[i] 4 H (by omega) (by omega)) ?_
      rintro _ _ ⟨rfl, rfl⟩
      have hm0 := Int.emod_nonneg l[i] (show (4 : Int) ≠ 0 by omega)
      have hm4 := Int.emod_lt_of_pos l[i] (show (0 : Int) < 4 by omega)
      obtain ⟨w, hwe⟩ : ∃ w : Nat, l[i] % 4 = (w : Int) := ⟨(l[i] % 4).toNat, by omega⟩
      rw [hwe]
      simp
      refine N_app ho (by simp [h5]) (by decide) ⟨rfl, rfl⟩ (by rw [nl_len]; omega) fun q v' H' ho' hb' hl' hk' => ?_
      simp [F.parlkeep5_DrawWeighs.r8, h6]
      refine R_call (args := [vi l[i], vi 4]) (by simp) (belowk_spec l[i] 4 H' (by omega) (by omega)) ?_
      rintro _ _ ⟨rfl, rfl⟩
      rw [hwe]
      simp [F.parlkeep5_DrawWeighs.r9, h26, h6]
      rw [V_wrap (by omega) (by omega), V_wrap (by omega) (by omega)]
      subst hKK
      refine ih (i + 1) _ _ v' (ws ++ [w]) (by omega) (by simp) (by simp [h25]) (by simp [h24]) (fun t ht => ?_) (by simp) (by simp) (by simp; omega) ?_ ?_ ?_
      · simp only [upd_app]
        repeat rw [if_neg (by omega)]
        exact hT t ht
      · intro x hx
        rcases List.mem_append.1 hx with hx | hx
        · exact hw x hx
        · simp at hx; omega
      · have : nl (ws ++ [w]) = nl ws ++ [vi w] := by simp [nl]
        rw [this]; exact ho'.less (by omega)
      · exact he.trans ⟨by omega, fun b hb => hk' b (by omega) fun e => by have := (ho.lt e).1; omega⟩ (Nat.le_refl _)
    · simp [F.parlkeep5_DrawWeighs.r9, h26]
      rw [V_wrap (by omega) (by omega)]
      subst hKK
      refine ih (i + 1) _ H vo ws (by omega) (by simp) (by simp [h25]) (by simp [h24]) (fun t ht => ?_) (by simp [h5]) (by simp [h6]) h4 hw ho he
      simp only [upd_app]
      repeat rw [if_neg (by omega)]
      exact hT t ht

/-- What has been told by some lists. -/
def toldL (ws : List Nat) (L : List (List Bool)) : List Nat := (List.range ws.length).map (toldOf ws L)
theorem told_snoc (ws : List Nat) (L : List (List Bool)) (c : List Bool) (i : Nat) : toldOf ws (L ++ [c]) i = toldOf ws L i + if (pick ws c).map (·.1) = some i then 1 else 0 := by
  simp only [toldOf, List.countP_append, List.countP_cons, List.countP_nil, Nat.zero_add]
  by_cases h : (pick ws c).map (·.1) = some i <;> simp only [h, decide_true, decide_false, if_true, if_false] <;> simp
theorem all_snoc (ws : List Nat) (L : List (List Bool)) (c : List Bool) : allOf ws (L ++ [c]) = allOf ws L + if (pick ws c).isSome then 1 else 0 := by
  simp [allOf, List.countP_append, List.countP_cons]
theorem pick_lt {ws : List Nat} {c : List Bool} {p : Nat × Nat} (h : pick ws c = some p) : p.1 < ws.length := by
  unfold pick at h
  cases ht : tell ws.sum c with
  | none => rw [ht] at h; cases h
  | some q =>
    rw [ht] at h
    obtain ⟨i, hi, hil⟩ := idx_some ws q.1 (num_lt (x := q.1) (u := q.2) ht).1
    simp [hi] at h
    subst h; exact hil

theorem toldL_snoc {ws : List Nat} {c : List Bool} {p : Nat × Nat} (hp : pick ws c = some p) (hpl : p.1 < ws.length) (D : List (List Bool)) :
    nl (toldL ws (D ++ [c])) = (nl (toldL ws D)).set p.1 (vi ((toldOf ws D p.1 : Int) + 1)) := by
  apply List.ext_getElem?
  intro j
  by_cases hj : j = p.1
  · subst hj
    rw [List.getElem?_set_self (by simp [nl, toldL]; exact hpl)]
    simp [nl, toldL, hpl, told_snoc, hp]
  · rw [List.getElem?_set_ne (fun e => hj e.symm)]
    have hne : ¬ p.1 = j := fun e => hj e.symm
    have ht : toldOf ws (D ++ [c]) j = toldOf ws D j := by rw [told_snoc, hp]; simp [hne]
    by_cases h2 : j < ws.length
    · simp [nl, toldL, List.getElem?_range h2, ht]
    · simp [nl, toldL, h2]

theorem weighs_tell [Has T I.draw_Number F.draw_Number] [Has T I.draw_Pick F.draw_Pick] {Q : AX → Tm → Hp → Prop} {K : List Fk} {H0 : Hp} (tm0 : Tm) {bt : Nat} {vw vr : Value} {ws : List Nat} {L : List (List Bool)} (hw : Arr H0 1 (· < bt) vw (nl ws)) (hr : RdRowsP (bt < ·) H0 vr (L.map bl))
    (hbt : bt < H0.length) (h4 : ws.length ≤ 4) (hw3 : ∀ w ∈ ws, w ≤ 3) (hsum : ws.sum ≤ 12) (h0 : 0 < ws.sum) (hL : L.length ≤ 4096) (hl : ∀ c ∈ L, c.length ≤ 4096) (h5 : tm0 5 = vw) (h15 : tm0 15 = .slice (some ⟨bt, 0, none⟩) ws.length ws.length)
    (k : ∀ (tm : Tm) (H : Hp), (∀ t, t < 16 → tm t = tm0 t) → tm 16 = vi (allOf ws L) → H[bt]? = some (.rw 1 (nl (toldL ws L))) → (∀ b, b ≠ bt → H[b]? = H0[b]?) → R T Q K .normal tm H) :
    ∀ (m i : Nat) (tm : Tm) (H : Hp), i + m = L.length → tm 73 = vi i → tm 72 = vi L.length → tm 71 = vr → (∀ t, t < 16 → tm t = tm0 t) → tm 16 = vi (allOf ws (L.take i)) → H[bt]? = some (.rw 1 (nl (toldL ws (L.take i)))) → (∀ b, b ≠ bt → H[b]? = H0[b]?) →
      R T Q (.code (.loop F.parlkeep5_DrawWeighs.L1) :: .endb 2 :: K) .normal tm H := by
  intro m
  induction m with
  | zero =>
    intro i tm H hm h73 h72 h71 hT h16 hb hk
    rw [R_loop]
    simp [F.parlkeep5_DrawWeighs.L1, F.parlkeep5_DrawWeighs.r19, h73, h72, show ¬ i < L.length by omega]
    rw [List.take_of_length_le (by omega)] at h16 hb
    refine k _ H (fun t ht => ?_) (by simp [h16]) hb hk
    simp only [upd_app]
    repeat rw [if_neg (by omega)]
    exact hT t ht
  | succ m ih =>
    intro i tm H hm h73 h72 h71 hT h16 hb hk
    have hi : i < L.length := by omega
    have g5 : tm 5 = vw := by rw [hT 5 (by decide), h5]
    have g15 : tm 15 = .slice (some ⟨bt, 0, none⟩) ws.length ws.length := by rw [hT 15 (by decide), h15]
    have hwH : Rd H vw (nl ws) := (hw.congr fun b hb' _ => hk b (by omega)).mono fun _ _ => trivial
    have hrH := (hr.congr fun b hb' _ => hk b (by omega)).any
    obtain ⟨us, u, hus, hu, hur⟩ := hrH.row (i := i) (r := bl L[i]) (by simp [hi])
    have hcl := hl _ (List.getElem_mem hi)
    have hal : allOf ws (L.take i) ≤ 4096 := Nat.le_trans (List.countP_le_length) (by simp; omega)
    have hts : ∀ j, toldOf ws (L.take i) j ≤ 4096 := fun j => Nat.le_trans (List.countP_le_length) (by simp; omega)
    have htk : L.take (i + 1) = L.take i ++ [L[i]] := by rw [List.take_add_one, List.getElem?_eq_getElem hi]; rfl
    rw [R_loop]
    generalize hKK : Fk.code (.loop F.parlkeep5_DrawWeighs.L1) :: .endb 2 :: K = KK
    simp [F.parlkeep5_DrawWeighs.L1, F.parlkeep5_DrawWeighs.r19, F.parlkeep5_DrawWeighs.r20, F.parlkeep5_DrawWeighs.r21, h73, h72, h71, hi]
    refine N_at hus rfl hu fun _ => ?_
    simp [g5]
    refine R_call (args := [vw, u]) (by simp) (pick_spec hwH (by omega) (fun w hw => by have := hw3 w hw; omega) (by omega) hur (by omega)) ?_
    rintro _ _ ⟨rfl, rfl⟩
    rw [if_neg (by omega)]
    cases hp : pick ws L[i] with
    | none =>
      simp [tup, F.parlkeep5_DrawWeighs.r22, F.parlkeep5_DrawWeighs.r27, h73]
      rw [V_wrap (by omega) (by omega)]
      subst hKK
      have e1 : allOf ws (L.take (i + 1)) = allOf ws (L.take i) := by rw [htk, all_snoc, hp]; rfl
      have e2 : toldL ws (L.take (i + 1)) = toldL ws (L.take i) := by
        unfold toldL
        refine List.map_congr_left fun j _ => ?_
        rw [htk, told_snoc, hp]; rfl
      refine ih (i + 1) _ H (by omega) (by simp) (by simp [h72]) (by simp [h71]) (fun t ht => ?_) (by rw [e1]; simp [h16]) (by rw [e2]; exact hb) hk
      simp only [upd_app]
      repeat rw [if_neg (by omega)]
      exact hT t ht
    | some p =>
      have hpl := pick_lt hp
      have htl : (toldL ws (L.take i))[p.1]? = some (toldOf ws (L.take i) p.1) := by simp [toldL, hpl]
      have htp := hts p.1
      have hcb : H.cells bt = some (nl (toldL ws (L.take i))) := by rw [cells_of hb]; rfl
      simp [tup, F.parlkeep5_DrawWeighs.r22, F.parlkeep5_DrawWeighs.r23, F.parlkeep5_DrawWeighs.r25, F.parlkeep5_DrawWeighs.r26, F.parlkeep5_DrawWeighs.r27, want, g15, show ¬ (p.1 : Int) < 0 by omega, show ¬ ws.length ≤ p.1 by omega, hpl, hcb, nl, htl]
      rw [V_wrap (by omega) (by omega)]
      refine Nh_of (hstore_one (o := p.1) hb rfl rfl (by simp [nl, toldL]; exact hpl)) ?_
      simp [h16, h73]
      rw [V_wrap (by omega) (by omega), V_wrap (by omega) (by omega)]
      subst hKK
      have e1 : allOf ws (L.take (i + 1)) = allOf ws (L.take i) + 1 := by rw [htk, all_snoc, hp]; rfl
      have e2 : nl (toldL ws (L.take (i + 1))) = (nl (toldL ws (L.take i))).set p.1 (vi ((toldOf ws (L.take i) p.1 : Int) + 1)) := by
        rw [htk]; exact toldL_snoc hp hpl _
      have hlt := lt_of_get hb
      refine ih (i + 1) _ _ (by omega) (by simp) (by simp [h72]) (by simp [h71]) (fun t ht => ?_) (by rw [e1]; simp) (by rw [e2]; exact get_same hlt) (fun b hne => by rw [get_other hne]; exact hk b hne)
      simp only [upd_app]
      repeat rw [if_neg (by omega)]
      exact hT t ht

theorem weighs_check {Q : AX → Tm → Hp → Prop} {K : List Fk} {H : Hp} {bt : Nat} {vw : Value} {ws : List Nat} {told : List Nat} {all : Nat} (hw : Rd H vw (nl ws)) (hb : H[bt]? = some (.rw 1 (nl told))) (htl : told.length = ws.length) (h4 : ws.length ≤ 4) (hw3 : ∀ w ∈ ws, w ≤ 3) (hsum : ws.sum ≤ 12)
    (ha : all ≤ 4096) (ht : ∀ t ∈ told, t ≤ 4096) (heq : ∀ (i w t : Nat), ws[i]? = some w → told[i]? = some t → t * ws.sum = all * w) (k : ∀ tm : Tm, R T Q K .normal tm H) :
    ∀ (m i : Nat) (tm : Tm), i + m = ws.length → tm 105 = vi i → tm 104 = vi ws.length → tm 103 = vw → tm 15 = .slice (some ⟨bt, 0, none⟩) ws.length ws.length → tm 6 = vi ws.sum → tm 16 = vi all → R T Q (.code (.loop F.parlkeep5_DrawWeighs.L2) :: .endb 4 :: K) .normal tm H := by
  intro m
  induction m with
  | zero =>
    intro i tm hm h105 h104 h103 h15 h6 h16
    rw [R_loop]
    simp [F.parlkeep5_DrawWeighs.L2, F.parlkeep5_DrawWeighs.r29, h105, h104, show ¬ i < ws.length by omega]
    exact k _
  | succ m ih =>
    intro i tm hm h105 h104 h103 h15 h6 h16
    have hi : i < ws.length := by omega
    have hit : i < told.length := by omega
    have hcb : H.cells bt = some (nl told) := by rw [cells_of hb]; rfl
    have hw' := hw3 _ (List.getElem_mem hi)
    have ht' := ht _ (List.getElem_mem hit)
    have he := heq i _ _ (List.getElem?_eq_getElem hi) (List.getElem?_eq_getElem hit)
    have hb1 : told[i] * ws.sum ≤ 4096 * 12 := Nat.mul_le_mul ht' hsum
    have hb2 : all * ws[i] ≤ 4096 * 3 := Nat.mul_le_mul ha hw'
    have hi1 : (told[i] : Int) * ws.sum = ((told[i] * ws.sum : Nat) : Int) := by simp
    have hi2 : (all : Int) * ws[i] = ((all * ws[i] : Nat) : Int) := by simp
    rw [R_loop]
    generalize hKK : Fk.code (.loop F.parlkeep5_DrawWeighs.L2) :: .endb 4 :: K = KK
    simp only [F.parlkeep5_DrawWeighs.L2, F.parlkeep5_DrawWeighs.r29, F.parlkeep5_DrawWeighs.r30]
    simp [h105, h104, h103, hi]
    refine N_at hw rfl (u := vi ws[i]) (by simp [nl, hi]) fun _ => ?_
    simp [F.parlkeep5_DrawWeighs.r31, h105, h15, hi, hcb, nl, hit, h6]
    rw [hi1, V_wrap (by omega) (by omega)]
    simp [h16]
    rw [hi2, V_wrap (by omega) (by omega)]
    have heI : (told[i] : Int) * ws.sum = (all : Int) * ws[i] := by rw [hi1, hi2, he]
    simp [heI, F.parlkeep5_DrawWeighs.r33, h105]
    rw [V_wrap (by omega) (by omega)]
    subst hKK
    exact ih (i + 1) _ (by omega) (by simp) (by simp [h104]) (by simp [h103]) (by simp [h15]) (by simp [h6]) (by simp [h16])

set_option maxHeartbeats 1000000 in
theorem drawWeighs_law [Has T I.parlmake_Below F.parlmake_Below] [Has T I.parlkeep5_below F.parlkeep5_below] [Has T I.slices_Clone_bool_bool F.slices_Clone_bool_bool] [Has T I.parlkeep5_coins F.parlkeep5_coins] [Has T I.draw_Number F.draw_Number]
    [Has T I.draw_Pick F.draw_Pick] [Has T I.parlkeep5_DrawWeighs F.parlkeep5_DrawWeighs] {H : Hp} {vl : Value} {l : List Int} (hl : Rd H vl (l.map vi)) (hll : l.length ≤ 17592186044416) (kk : Int) :
    G T I.parlkeep5_DrawWeighs [vl, vi kk] H (fun r H' => r = .bool true) := by
  refine G.mk ?_
  simp [F.parlkeep5_DrawWeighs, F.parlkeep5_DrawWeighs.c, F.parlkeep5_DrawWeighs.r0, F.parlkeep5_DrawWeighs.r1, F.parlkeep5_DrawWeighs.r2, F.parlkeep5_DrawWeighs.r3, hl.len]
  refine weighs_read (H0 := H) _ hl hll (fun tm H1 vo ws hT h5 h6 h4 hw ho he => ?_) l.length 0 _ H (.slice none 0 0) [] (by simp) (by simp) (by simp) (by simp) (fun t _ => rfl) (by simp) (by simp) (by simp) (by simp) (Own.nil _ _) (Ext.refl _ _)
  have hsum : ws.sum ≤ 12 := by
    have : ∀ q : List Nat, (∀ w ∈ q, w ≤ 3) → q.sum ≤ 3 * q.length := fun q hq => by
      induction q with
      | nil => simp
      | cons a q ih => have := hq a (by simp); have := ih fun w hw => hq w (by simp [hw]); simp; omega
    have := this ws hw; omega
  have g1 : tm 1 = vi kk := by rw [hT 1 (by decide)]; simp
  simp [F.parlkeep5_DrawWeighs.r10, hbs, bfill, splice]
  refine R_heap fun H2 hH2 => ?_
  have hl2 : H2.length = H1.length + 1 := by rw [hH2]; simp
  have hk2 : ∀ b : Nat, b < H1.length → H2[b]? = H1[b]? := fun b hb => by rw [hH2, get_left hb]
  have hb2 : H2[H1.length]? = some (.rw 1 [vi 0, vi 1]) := by rw [hH2, get_at rfl]
  have hA2 : Rd H2 (.slice (some ⟨H1.length, 0, none⟩) 2 2) (nl [0, 1]) := ⟨.inr ⟨H1.length, 0, 2, [vi 0, vi 1], rfl, by simp [Hp.cells, hb2], by simp [Hp.esz, hb2, Blk.esz], by simp, rfl, trivial⟩⟩
  have ho2 : Own H.length H2 vo (nl ws) := ho.congr fun b _ hb => hk2 b hb
  refine R_call (args := [.slice (some ⟨H1.length, 0, none⟩) 2 2, .slice none 0 0]) (by simp) (pick_spec (ws := [0, 1]) (l := []) hA2 (by simp) (by simp) (by simp) (Arr.nil ..) (by simp)) ?_
  rintro _ _ ⟨rfl, rfl⟩
  have hp1 : (if ([0, 1] : List Nat).sum = 0 then Value.tuple #[vi 0, vi 0, vi 1] else tup (pick [0, 1] [])) = .tuple #[vi 1, vi 0, vi 0] := by
    have : pick [0, 1] [] = some (1, 0) := by decide
    rw [this]; rfl
  rw [hp1]
  simp [F.parlkeep5_DrawWeighs.r11, F.parlkeep5_DrawWeighs.r13, want, h6]
  refine Br_dec (fun h => ?_) (fun h => ?_)
  · have h0 : ws.sum = 0 := by omega
    simp [F.parlkeep5_DrawWeighs.r14, h5, hmks, toList_madeCells_one]
    refine R_heap fun H3 hH3 => ?_
    have hb3 : H3[H2.length]? = some (.rw 1 (List.replicate 9 (.bool false))) := by rw [hH3, get_at rfl]; rfl
    have ho3 : Own H.length H3 vo (nl ws) := ho2.congr fun b _ hb => by rw [hH3, get_left hb]
    have hc3 : Rd H3 (.slice (some ⟨H2.length, 0, none⟩) 9 9) ((List.replicate 9 false).map .bool) := ⟨.inr ⟨H2.length, 0, 9, List.replicate 9 (.bool false), rfl, by simp [Hp.cells, hb3], by simp [Hp.esz, hb3, Blk.esz], by simp, rfl, trivial⟩⟩
    refine R_call (args := [vo, .slice (some ⟨H2.length, 0, none⟩) 9 9]) (by simp) (pick_spec ho3.rd (by omega) (fun w hw' => by have := hw w hw'; omega) (by omega) hc3 (by simp)) ?_
    rintro _ _ ⟨rfl, rfl⟩
    rw [if_pos h0]
    simp [F.parlkeep5_DrawWeighs.r15]
  · have h0 : 0 < ws.sum := by omega
    simp [F.parlkeep5_DrawWeighs.r16, F.parlkeep5_DrawWeighs.r17, F.parlkeep5_DrawWeighs.r18, h5, ho2.len, nl_len, hmks, toList_madeCells_one, show (8 : Int) * ws.length ≤ 281474976710656 by omega, show (ws.length : Int) ≤ 9223372036854775807 by omega, g1]
    refine R_heap fun H3 hH3 => ?_
    have hl3 : H3.length = H2.length + 1 := by rw [hH3]; simp
    have hb3 : H3[H2.length]? = some (.rw 1 (List.replicate ws.length (vi 0))) := by rw [hH3, get_at rfl]
    have ho3 : Own H.length H3 vo (nl ws) := ho2.congr fun b _ hb => by rw [hH3, get_left hb]
    have hw3 : Arr H3 1 (· < H2.length) vo (nl ws) := ho2.arr.low.congr fun b _ hb => by rw [hH3, get_left hb]
    refine R_call (args := [vi kk, vi 9]) (by simp) (belowk_spec kk 9 H3 (by omega) (by omega)) ?_
    rintro _ _ ⟨rfl, rfl⟩
    have hm0 := Int.emod_nonneg kk (show (9 : Int) ≠ 0 by omega)
    have hm9 := Int.emod_lt_of_pos kk (show (0 : Int) < 9 by omega)
    obtain ⟨n, hn⟩ : ∃ n : Nat, kk % 9 = (n : Int) := ⟨(kk % 9).toNat, by omega⟩
    rw [hn]
    simp
    refine R_call (args := [vi n]) (by simp) (coins_spec (n := n) (by omega)) ?_
    rintro vr H4 ⟨hr4, he4⟩
    have hpw : 2 ^ n ≤ 2 ^ 8 := Nat.pow_le_pow_right (by decide) (by omega)
    have hcn := all_count n
    have hle4 := he4.1
    simp [hr4.any.len]
    have hb4 : H4[H2.length]? = some (.rw 1 (nl (toldL ws []))) := by
      rw [he4.get (by omega), hb3]
      have : nl (toldL ws []) = List.replicate ws.length (vi 0) := by
        apply List.ext_getElem?
        intro j
        by_cases hj : j < ws.length
        · simp [nl, toldL, toldOf, List.getElem?_range hj, List.getElem?_replicate, hj]
        · simp [nl, toldL, hj]
      rw [this]
    have hw4 : Arr H4 1 (· < H2.length) vo (nl ws) := hw3.congr fun b hb _ => he4.get (by omega)
    have hr4' : RdRowsP (H2.length < ·) H4 vr ((all n).map bl) := by
      obtain ⟨us, a1, a2, a3⟩ := hr4
      exact ⟨us, a1.mono fun b hb => by omega, a2, fun i u r x y => (a3 i u r x y).mono fun b hb => by omega⟩
    refine weighs_tell (H0 := H4) (bt := H2.length) (L := all n) (ws := ws) _ hw4 hr4' (by omega) h4 hw hsum h0 (by omega) (fun c hc => by rw [all_len n c hc]; omega) (by simp [h5]) (by simp) (fun tm5 H5 hT5 h165 hb5 hk5 => ?_) (all n).length 0 _ H4 (by omega) (by simp) (by simp) (by simp) (fun t _ => rfl) (by simp [allOf]) (by simpa using hb4) (fun _ _ => rfl)
    have j5 : tm5 5 = vo := by rw [hT5 5 (by decide)]; simp [h5]
    have j6 : tm5 6 = vi ws.sum := by rw [hT5 6 (by decide)]; simp [h6]
    have j15 : tm5 15 = .slice (some ⟨H2.length, 0, none⟩) ws.length ws.length := by rw [hT5 15 (by decide)]; simp
    have hw5 : Rd H5 vo (nl ws) := (hw4.congr fun b hb _ => hk5 b (by omega)).mono fun _ _ => trivial
    simp [F.parlkeep5_DrawWeighs.r28, j5, hw5.len, nl_len]
    refine weighs_check (H := H5) (bt := H2.length) (told := toldL ws (all n)) (all := allOf ws (all n)) hw5 hb5 (by simp [toldL]) h4 hw hsum (Nat.le_trans List.countP_le_length (by omega)) (fun t ht => ?_) (fun i w t hi ht => ?_) (fun tm6 => ?_) ws.length 0 _ (by omega) (by simp) (by simp) (by simp [j5]) (by simp [j15]) (by simp [j6]) (by simp [h165])
    · simp [toldL] at ht
      obtain ⟨j, -, rfl⟩ := ht
      exact Nat.le_trans List.countP_le_length (by omega)
    · have hil := (List.getElem?_eq_some_iff.1 hi).1
      simp [toldL, List.getElem?_range hil] at ht
      subst ht
      exact weigh (by omega) h0 n hi
    · simp [F.parlkeep5_DrawWeighs.r34]
end Go.Proofs.Ytbehlbabgomhfaa
