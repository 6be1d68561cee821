/- What compare.Other does. Own work. -/
import Derived.Test.YtbehlbabgomhfaaCheck
import Derived.Test.YtbehlbabgomhfaaMake3
import Derived.Test.YtbehlbabgomhfaaGcompare
namespace Go.Ab
/-- The automaton of the other words. -/
def Dfa.other (d : Dfa) : Dfa where
  start := d.start
  acc := (d.acc.map fun a => if a < 0 then 0 else -1) ++ [0]
  next := (d.next.map fun r => r.map fun x => if x < 0 then (d.next.length : Int) else x) ++ [List.replicate ((d.next[0]?).getD []).length (d.next.length : Int)]
end Go.Ab
namespace Go.Proofs.Ytbehlbabgomhfaa
open Go Go.Ab

variable {T : FuncId → Option AFunc}

theorem other_row {Q : AX → Tm → Hp → Prop} {K : List Fk} {H0 : Hp} (tm0 : Tm) {vr : Value} {row : List Int} {n : Nat} (hv : Rd H0 vr (row.map vi)) (hl : row.length ≤ 1000) (h3 : tm0 3 = vi n)
    (k : ∀ (tm : Tm) (H : Hp) (vo : Value), (∀ t, t < 29 → t ≠ 7 → t ≠ 9 → tm t = tm0 t) → tm 7 = vo → Own H0.length H vo ((row.map fun x => if x < 0 then (n : Int) else x).map vi) → Ext H0.length H0 H → R T Q K .normal tm H) :
    ∀ (m i : Nat) (tm : Tm) (H : Hp) (vo : Value), i + m = row.length → tm 31 = vi i → tm 30 = vi row.length → tm 29 = vr → (∀ t, t < 29 → t ≠ 7 → t ≠ 9 → tm t = tm0 t) → tm 7 = vo →
      Own H0.length H vo (((row.take i).map fun x => if x < 0 then (n : Int) else x).map vi) → Ext H0.length H0 H → R T Q (.code (.loop F.compare_Other.L1) :: .endb 2 :: K) .normal tm H := by
  intro m
  induction m with
  | zero =>
    intro i tm H vo hm h31 h30 h29 hT h7 ho he
    rw [R_loop]
    simp [F.compare_Other.L1, F.compare_Other.r10, h31, h30, show ¬ i < row.length by omega]
    refine k _ H vo (fun t h1 h2 h3 => ?_) (by simp [h7]) ?_ he
    · simp only [upd_app]
      repeat rw [if_neg (by omega)]
      exact hT t h1 h2 h3
    · rw [List.take_of_length_le (by omega)] at ho; exact ho
  | succ m ih =>
    intro i tm H vo hm h31 h30 h29 hT h7 ho he
    have hi : i < row.length := by omega
    have hle := he.1
    have hvH : Rd H vr (row.map vi) := hv.congr fun b _ hb => he.get hb
    have h3' : tm 3 = vi n := by rw [hT 3 (by decide) (by decide) (by decide), h3]
    have hnext : ∀ y : Int, y = (if row[i] < 0 then (n : Int) else row[i]) → ∀ tm1 : Tm, (∀ t, t ≠ 9 → t ≠ 32 → t ≠ 33 → t ≠ 34 → t ≠ 35 → t ≠ 36 → t ≠ 37 → tm1 t = tm t) → tm1 9 = vi y →
        R T Q (.ops F.compare_Other.r14 :: .endb 3 :: .code (.region F.compare_Other.r15) :: .code (.loop F.compare_Other.L1) :: .endb 2 :: K) .normal tm1 H := by
      intro y hy tm1 hT1 h9
      generalize hKK : Fk.code (.loop F.compare_Other.L1) :: .endb 2 :: K = KK
      have g7 : tm1 7 = vo := by rw [hT1 7 (by decide) (by decide) (by decide) (by decide) (by decide) (by decide) (by decide), h7]
      have g31 : tm1 31 = vi i := by rw [hT1 31 (by decide) (by decide) (by decide) (by decide) (by decide) (by decide) (by decide), h31]
      have g30 : tm1 30 = vi row.length := by rw [hT1 30 (by decide) (by decide) (by decide) (by decide) (by decide) (by decide) (by decide), h30]
      have g29 : tm1 29 = vr := by rw [hT1 29 (by decide) (by decide) (by decide) (by decide) (by decide) (by decide) (by decide), h29]
      simp [F.compare_Other.r14, F.compare_Other.r15, g7, h9]
      refine N_app ho (by simp [g7]) (by decide) ⟨rfl, rfl⟩ (by simp; omega) fun q v' H' ho' hb' hl' hk' => ?_
      simp [g31]
      rw [V_wrap (by omega) (by omega)]
      subst hKK
      refine ih (i + 1) _ H' v' (by omega) (by simp) (by simp [g30]) (by simp [g29]) (fun t h1 h2 h3 => ?_) (by simp) ?_ ?_
      · simp only [upd_app]
        repeat rw [if_neg (by omega)]
        rw [hT1 t (by omega) (by omega) (by omega) (by omega) (by omega) (by omega) (by omega)]; exact hT t h1 h2 h3
      · have e : (((row.take (i + 1)).map fun x => if x < 0 then (n : Int) else x).map vi) = (((row.take i).map fun x => if x < 0 then (n : Int) else x).map vi) ++ [vi y] := by
          rw [List.take_add_one, List.getElem?_eq_getElem hi, hy, List.map_append, List.map_append]; rfl
        rw [e]; exact ho'.less (by omega)
      · exact he.trans ⟨by omega, fun b hb => hk' b (by omega) fun e => by have := (ho.lt e).1; omega⟩ (Nat.le_refl _)
    rw [R_loop]
    generalize hKK : Fk.code (.loop F.compare_Other.L1) :: .endb 2 :: K = KK at hnext ⊢
    simp [F.compare_Other.L1, F.compare_Other.r10, F.compare_Other.r11, F.compare_Other.r12, h31, h30, h29, hi]
    refine N_at hvH rfl (u := vi row[i]) (by simp) fun _ => ?_
    simp
    refine Br_dec (fun h => ?_) (fun h => ?_)
    · simp [F.compare_Other.r13, h3']
      refine hnext n (by rw [if_pos h]) _ (fun t h1 h2 h3 h4 h5 h6 h7 => ?_) (by simp)
      simp only [upd_app]
      repeat rw [if_neg (by omega)]
    · simp
      refine hnext row[i] (by rw [if_neg h]) _ (fun t h1 h2 h3 h4 h5 h6 h7 => ?_) (by simp)
      simp only [upd_app]
      repeat rw [if_neg (by omega)]

theorem other_last {Q : AX → Tm → Hp → Prop} {K : List Fk} {H0 : Hp} (tm0 : Tm) {n c : Nat} (hl : c ≤ 1000) (h3 : tm0 3 = vi n)
    (k : ∀ (tm : Tm) (H : Hp) (vo : Value), (∀ t, t < 70 → t ≠ 10 → tm t = tm0 t) → tm 10 = vo → Own H0.length H vo ((List.replicate c (n : Int)).map vi) → Ext H0.length H0 H → R T Q K .normal tm H) :
    ∀ (m i : Nat) (tm : Tm) (H : Hp) (vo : Value), i + m = c → tm 71 = vi i → tm 70 = vi c → (∀ t, t < 70 → t ≠ 10 → tm t = tm0 t) → tm 10 = vo →
      Own H0.length H vo ((List.replicate i (n : Int)).map vi) → Ext H0.length H0 H → R T Q (.code (.loop F.compare_Other.L2) :: .endb 4 :: K) .normal tm H := by
  intro m
  induction m with
  | zero =>
    intro i tm H vo hm h71 h70 hT h10 ho he
    rw [R_loop]
    simp [F.compare_Other.L2, F.compare_Other.r23, h71, h70, show ¬ i < c by omega]
    refine k _ H vo (fun t h1 h2 => ?_) (by simp [h10]) ?_ he
    · simp only [upd_app]
      repeat rw [if_neg (by omega)]
      exact hT t h1 h2
    · rw [show i = c by omega] at ho; exact ho
  | succ m ih =>
    intro i tm H vo hm h71 h70 hT h10 ho he
    have hi : i < c := by omega
    have hle := he.1
    have h3' : tm 3 = vi n := by rw [hT 3 (by decide) (by decide), h3]
    rw [R_loop]
    generalize hKK : Fk.code (.loop F.compare_Other.L2) :: .endb 4 :: K = KK
    simp [F.compare_Other.L2, F.compare_Other.r23, F.compare_Other.r24, F.compare_Other.r25, h71, h70, hi, h10, h3']
    refine N_app ho (by simp [h10]) (by decide) ⟨rfl, rfl⟩ (by simp; omega) fun q v' H' ho' hb' hl' hk' => ?_
    simp [h71]
    rw [V_wrap (by omega) (by omega)]
    subst hKK
    refine ih (i + 1) _ H' v' (by omega) (by simp) (by simp [h70]) (fun t h1 h2 => ?_) (by simp) ?_ ?_
    · simp only [upd_app]
      repeat rw [if_neg (by omega)]
      exact hT t h1 h2
    · rw [List.replicate_succ', List.map_append]; exact ho'.less (by omega)
    · exact he.trans ⟨by omega, fun b hb => hk' b (by omega) fun e => by have := (ho.lt e).1; omega⟩ (Nat.le_refl _)

set_option maxHeartbeats 2000000 in
theorem other_states {Q : AX → Tm → Hp → Prop} {K : List Fk} {He H0 : Hp} (tm0 : Tm) {b1 bd : Nat} {va0 vn0 : Value} {d : Dfa} (hd : d.Ok) (hlt : b1 < bd) (hbd : bd < H0.length) (hcell : H0.cells b1 = some [vi d.start, va0, vn0])
    (hHe : He.length ≤ b1) (heE : Ext He.length He H0) (hva : Rd He va0 (d.acc.map vi)) (hvn : RdGrid He vn0 d.next)
    (h1 : tm0 1 = .pointer (some ⟨b1, 0, none⟩)) (h3 : tm0 3 = vi d.next.length) (h4 : tm0 4 = .pointer (some ⟨bd, 0, none⟩))
    (k : ∀ (tm : Tm) (H : Hp) (va vn : Value) (us : List Value), (∀ t, t < 5 → tm t = tm0 t) → Part H0.length bd H d.start va vn us (d.acc.map fun a => if a < 0 then 0 else -1) (d.next.map fun r => r.map fun x => if x < 0 then (d.next.length : Int) else x) →
      But bd H0 H → R T Q K .normal tm H) :
    ∀ (m i : Nat) (tm : Tm) (H : Hp) (va vn : Value) (us : List Value), i + m = d.next.length → tm 24 = vi i → tm 23 = vi d.next.length → tm 22 = vn0 → (∀ t, t < 5 → tm t = tm0 t) →
      Part H0.length bd H d.start va vn us ((d.acc.take i).map fun a => if a < 0 then 0 else -1) ((d.next.take i).map fun r => r.map fun x => if x < 0 then (d.next.length : Int) else x) → But bd H0 H →
      R T Q (.code (.loop F.compare_Other.L0) :: .endb 0 :: K) .normal tm H := by
  intro m
  obtain ⟨c, hc1, hc2, hrows⟩ := hd.cols
  have hsz := hd.size
  have hacc := hd.acc.1
  induction m with
  | zero =>
    intro i tm H va vn us hm h24 h23 h22 hT hP he
    rw [R_loop]
    simp [F.compare_Other.L0, F.compare_Other.r6, h24, h23, show ¬ i < d.next.length by omega]
    refine k _ H va vn us (fun t h1 => ?_) ?_ he
    · simp only [upd_app]
      repeat rw [if_neg (by omega)]
      exact hT t h1
    · rw [List.take_of_length_le (by omega), List.take_of_length_le (by omega)] at hP; exact hP
  | succ m ih =>
    intro i tm H va vn us hm h24 h23 h22 hT hP he
    have hi : i < d.next.length := by omega
    have hia : i < d.acc.length := by omega
    have hle := he.1
    have g1 : tm 1 = .pointer (some ⟨b1, 0, none⟩) := by rw [hT 1 (by decide), h1]
    have g3 : tm 3 = vi d.next.length := by rw [hT 3 (by decide), h3]
    have g4 : tm 4 = .pointer (some ⟨bd, 0, none⟩) := by rw [hT 4 (by decide), h4]
    have heH : Ext He.length He H := ⟨by have := heE.1; omega, fun b hb => by rw [he.2 b (by omega) (by omega)]; exact heE.get hb⟩
    have hcH : H.cells b1 = some [vi d.start, va0, vn0] := by rw [← hcell]; simp only [Hp.cells, he.2 b1 (by omega) (by omega)]
    obtain ⟨ws, u, hws, hu, hur⟩ := (hvn.ext heH).row (List.getElem?_eq_getElem hi)
    have hrl := hrows _ (List.getElem_mem hi)
    rw [R_loop]
    generalize hKK : Fk.code (.loop F.compare_Other.L0) :: .endb 0 :: K = KK
    simp [F.compare_Other.L0, F.compare_Other.r6, F.compare_Other.r7, F.compare_Other.r8, F.compare_Other.r9, h24, h23, h22, hi]
    refine N_at hws rfl hu fun _ => ?_
    simp [hur.len]
    refine other_row (H0 := H) _ hur (n := d.next.length) (by omega) (by simp [g3]) (fun tm2 H2 vo hT2 h72 ho2 he2 => ?_) d.next[i].length 0 _ H (.slice none 0 0) (by simp) (by simp) (by simp) (by simp) (fun t _ _ _ => rfl) (by simp) (by simpa using Own.nil _ _) (Ext.refl _ _)
    have hle2 := he2.1
    have hP2 : Part H0.length bd H2 d.start va vn us _ _ := hP.congr fun b hb _ => he2.get hb
    have j4 : tm2 4 = .pointer (some ⟨bd, 0, none⟩) := by rw [hT2 4 (by decide) (by decide) (by decide)]; simp [g4]
    have j1 : tm2 1 = .pointer (some ⟨b1, 0, none⟩) := by rw [hT2 1 (by decide) (by decide) (by decide)]; simp [g1]
    have j5 : tm2 5 = vi i := by rw [hT2 5 (by decide) (by decide) (by decide)]; simp [h24]
    have j24 : tm2 24 = vi i := by rw [hT2 24 (by decide) (by decide) (by decide)]; simp [h24]
    have j23 : tm2 23 = vi d.next.length := by rw [hT2 23 (by decide) (by decide) (by decide)]; simp [h23]
    have j22 : tm2 22 = vn0 := by rw [hT2 22 (by decide) (by decide) (by decide)]; simp [h22]
    have jT : ∀ t, t < 5 → tm2 t = tm0 t := fun t ht => by
      rw [hT2 t (by omega) (by omega) (by omega)]
      simp only [upd_app]
      repeat rw [if_neg (by omega)]
      exact hT t ht
    have hc2 : H2.cells bd = some [vi d.start, va, vn] := by rw [cells_of hP2.cell]; rfl
    simp [F.compare_Other.r16, j4, hc2, h72]
    have hul : us.length = i := by rw [hP2.len]; simp; omega
    refine N_app hP2.on (by simp) (by decide) ho2.one (by omega) fun q vn' H3 ho3 hb3 hl3 hk3 => ?_
    have hcell3 : H3[bd]? = some (.rw 0 [vi d.start, va, vn]) := (hk3 bd (by omega) fun e => by have := (hP2.on.lt e).1; omega).trans hP2.cell
    simp [j4]
    refine Nh_of (hstore_one (o := 2) hcell3 ho3.one.1 ho3.one.2 (by simp)) ?_
    have hP4 := hP.next' hP2 ho2 (H' := H3) (by omega) ho3 (by omega) (by omega) (by omega) fun b hb hb' hv => hk3 b hb hv
    generalize hH4 : List.set H3 bd (.rw 0 [vi d.start, va, vn']) = H4 at hP4
    have e4 : List.set H3 bd (.rw 0 ([vi d.start, va, vn].set 2 vn')) = H4 := by rw [← hH4]; rfl
    rw [e4]
    have hl4 : H4.length = H3.length := by rw [← hH4]; simp
    have he4 : But bd H0 H4 := ⟨by omega, fun b hb hne => by rw [← hH4, get_other hne, hk3 b (by omega) (fun e => by have := (hP2.on.lt e).1; omega), he2.get (by omega)]; exact he.2 b hb hne⟩
    have heH4 : Ext He.length He H4 := ⟨by have := heE.1; omega, fun b hb => by rw [he4.2 b (by omega) (by omega)]; exact heE.get hb⟩
    have hcH4 : Hp.cells H4 b1 = some [vi d.start, va0, vn0] := by rw [← hcell]; simp only [Hp.cells, he4.2 b1 (by omega) (by omega)]
    have hc4 : Hp.cells H4 bd = some [vi d.start, va, vn'] := by rw [cells_of hP4.cell]; rfl
    simp [F.compare_Other.r17, j1, j5, hcH4]
    refine N_at (hva.ext heH4) rfl (u := vi d.acc[i]) (by simp [hia]) fun _ => ?_
    simp
    have hend : ∀ (y : Int) (va' : Value) (H5 : Hp) (tm5 : Tm), y = (if d.acc[i] < 0 then 0 else -1) → Own (H4.length + 1) H5 va' ((((d.acc.take i).map fun a => if a < 0 then 0 else -1) ++ [y]).map vi) → H5.length = H4.length + 2 → (∀ b : Nat, b < H4.length → blkOf va ≠ some b → H5[b]? = H4[b]?) →
        (∀ t, t < 25 → tm5 t = tm2 t) → R T Q (.endb 1 :: .code (.region F.compare_Other.r20) :: KK) .normal tm5 (H5.set bd (.rw 0 [vi d.start, va', vn'])) := by
      intro y va' H5 tm5 hy ho5 hl5 hk5 hT5
      have hP5 := hP4.acc' (x := y) (m := H4.length + 1) (by omega) ho5 (by omega) (by omega) fun b hb _ hv => hk5 b hb hv
      simp [F.compare_Other.r20, hT5 24 (by decide), j24]
      rw [V_wrap (by omega) (by omega)]
      subst hKK
      refine ih (i + 1) _ _ va' vn' (us ++ [vo]) (by omega) (by simp) (by simp [hT5 23 (by decide), j23]) (by simp [hT5 22 (by decide), j22]) (fun t ht => ?_) ?_ ?_
      · simp only [upd_app]
        repeat rw [if_neg (by omega)]
        rw [hT5 t (by omega)]; exact jT t ht
      · have e1 : ((d.acc.take (i + 1)).map fun a => if a < 0 then (0 : Int) else -1) = ((d.acc.take i).map fun a => if a < 0 then 0 else -1) ++ [y] := by
          rw [List.take_add_one, List.getElem?_eq_getElem hia, hy, List.map_append]; rfl
        have e2 : ((d.next.take (i + 1)).map fun r => r.map fun x => if x < 0 then (d.next.length : Int) else x) = ((d.next.take i).map fun r => r.map fun x => if x < 0 then (d.next.length : Int) else x) ++ [d.next[i].map fun x => if x < 0 then (d.next.length : Int) else x] := by
          rw [List.take_add_one, List.getElem?_eq_getElem hi, List.map_append]; rfl
        rw [e1, e2]; exact hP5
      · exact ⟨by simp; omega, fun b hb hne => by rw [get_other hne, hk5 b (by omega) (fun e => by have := (hP4.oa.lt e).1; omega)]; exact he4.2 b hb hne⟩
    have hal : ((d.acc.take i).map fun a => if a < 0 then (0 : Int) else -1).length = i := by simp; omega
    refine Br_dec (fun h => ?_) (fun h => ?_)
    · simp [F.compare_Other.r18, j4, hc4]
      refine N_app hP4.oa (by simp) (by decide) ⟨rfl, rfl⟩ (by simp; omega) fun q va' H5 ho5 hb5 hl5 hk5 => ?_
      have hcell5 : H5[bd]? = some (.rw 0 [vi d.start, va, vn']) := (hk5 bd (by omega) fun e => by have := (hP4.oa.lt e).1; omega).trans hP4.cell
      simp [j4]
      refine Nh_of (hstore_one (o := 1) hcell5 ho5.one.1 ho5.one.2 (by simp)) ?_
      simp only [put_none, R_nil]
      refine hend 0 va' H5 _ (by rw [if_pos h]) (by rw [List.map_append]; exact ho5) hl5 hk5 fun t ht => ?_
      simp only [upd_app]
      repeat rw [if_neg (by omega)]
    · simp [F.compare_Other.r19, j4, hc4]
      refine N_app hP4.oa (by simp) (by decide) ⟨rfl, rfl⟩ (by simp; omega) fun q va' H5 ho5 hb5 hl5 hk5 => ?_
      have hcell5 : H5[bd]? = some (.rw 0 [vi d.start, va, vn']) := (hk5 bd (by omega) fun e => by have := (hP4.oa.lt e).1; omega).trans hP4.cell
      simp [j4]
      refine Nh_of (hstore_one (o := 1) hcell5 ho5.one.1 ho5.one.2 (by simp)) ?_
      simp only [put_none, R_nil]
      refine hend (-1) va' H5 _ (by rw [if_neg h]) (by rw [List.map_append]; exact ho5) hl5 hk5 fun t ht => ?_
      simp only [upd_app]
      repeat rw [if_neg (by omega)]
end Go.Proofs.Ytbehlbabgomhfaa
