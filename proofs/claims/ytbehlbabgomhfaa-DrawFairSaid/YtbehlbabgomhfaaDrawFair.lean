/- What DrawFair does. Own work. -/
import Derived.Test.YtbehlbabgomhfaaNumber2
import Derived.Test.YtbehlbabgomhfaaCoins3
import Derived.Laws.OwnMore
namespace Go.Proofs.Ytbehlbabgomhfaa
open Go Go.Ab Go.Ab.Coin

variable {T : FuncId → Option AFunc}
def natL (l : List Nat) : List Value := l.map fun (n : Nat) => vi n

theorem min_loop {Q : AX → Tm → Hp → Prop} {K : List Fk} {H : Hp} {v : Value} {x n : Nat} (hv : Rd H v (natL (List.replicate n x))) (hn : n ≤ 1000) (k : ∀ tm : Tm, tm 3 = vi x → R T Q K .normal tm H) :
    ∀ (m i : Nat) (tm : Tm), i + m = n → tm 4 = vi i → tm 0 = v → tm 3 = vi x → R T Q (.code (.loop F.slices_Min_int_int.L0) :: .endb 0 :: K) .normal tm H := by
  intro m
  have hl : (natL (List.replicate n x)).length = n := by simp [natL]
  induction m with
  | zero =>
    intro i tm hm h4 h0 h3
    rw [R_loop]
    simp [F.slices_Min_int_int.L0, F.slices_Min_int_int.r5, h4, h0, hv.len, hl, show ¬ i < n by omega]
    exact k _ (by simp [h3])
  | succ m ih =>
    intro i tm hm h4 h0 h3
    rw [R_loop]
    generalize hKK : Fk.code (.loop F.slices_Min_int_int.L0) :: .endb 0 :: K = KK
    simp [F.slices_Min_int_int.L0, F.slices_Min_int_int.r5, F.slices_Min_int_int.r7, h4, h0, h3, hv.len, hl, show i < n by omega]
    refine N_at hv rfl (u := vi x) (by simp [natL, List.getElem?_replicate, show i < n by omega]) fun _ => ?_
    simp [vmm, mm2, F.slices_Min_int_int.r6, h4, h3]
    rw [V_wrap (by omega) (by omega)]
    subst hKK
    exact ih (i + 1) _ (by omega) (by simp) (by simp [h0]) (by simp)
theorem min_spec [Has T I.slices_Min_int_int F.slices_Min_int_int] {H : Hp} {v : Value} {x n : Nat} (hv : Rd H v (natL (List.replicate n x))) (hn : n ≤ 1000) (hn1 : 1 ≤ n) :
    G T I.slices_Min_int_int [v] H (fun r H' => r = vi x ∧ H = H') := by
  have hl : (natL (List.replicate n x)).length = n := by simp [natL]
  refine G.mk ?_
  simp [F.slices_Min_int_int, F.slices_Min_int_int.c, F.slices_Min_int_int.r0, F.slices_Min_int_int.r1, F.slices_Min_int_int.r3, F.slices_Min_int_int.r4, hv.len, hl, show ¬ n = 0 by omega, show ¬ (n : Int) < 1 by omega]
  refine N_at hv (j := 0) rfl (u := vi x) (by simp [natL, List.getElem?_replicate]; omega) fun _ => ?_
  simp
  refine min_loop hv hn (fun tm h3 => ?_) (n - 1) 1 _ (by omega) (by simp) (by simp) (by simp)
  simp [F.slices_Min_int_int.r8, h3]
theorem max_loop {Q : AX → Tm → Hp → Prop} {K : List Fk} {H : Hp} {v : Value} {x n : Nat} (hv : Rd H v (natL (List.replicate n x))) (hn : n ≤ 1000) (k : ∀ tm : Tm, tm 3 = vi x → R T Q K .normal tm H) :
    ∀ (m i : Nat) (tm : Tm), i + m = n → tm 4 = vi i → tm 0 = v → tm 3 = vi x → R T Q (.code (.loop F.slices_Max_int_int.L0) :: .endb 0 :: K) .normal tm H := by
  intro m
  have hl : (natL (List.replicate n x)).length = n := by simp [natL]
  induction m with
  | zero =>
    intro i tm hm h4 h0 h3
    rw [R_loop]
    simp [F.slices_Max_int_int.L0, F.slices_Max_int_int.r5, h4, h0, hv.len, hl, show ¬ i < n by omega]
    exact k _ (by simp [h3])
  | succ m ih =>
    intro i tm hm h4 h0 h3
    rw [R_loop]
    generalize hKK : Fk.code (.loop F.slices_Max_int_int.L0) :: .endb 0 :: K = KK
    simp [F.slices_Max_int_int.L0, F.slices_Max_int_int.r5, F.slices_Max_int_int.r7, h4, h0, h3, hv.len, hl, show i < n by omega]
    refine N_at hv rfl (u := vi x) (by simp [natL, List.getElem?_replicate, show i < n by omega]) fun _ => ?_
    simp [vmm, mm2, F.slices_Max_int_int.r6, h4, h3]
    rw [V_wrap (by omega) (by omega)]
    subst hKK
    exact ih (i + 1) _ (by omega) (by simp) (by simp [h0]) (by simp)
theorem max_spec [Has T I.slices_Max_int_int F.slices_Max_int_int] {H : Hp} {v : Value} {x n : Nat} (hv : Rd H v (natL (List.replicate n x))) (hn : n ≤ 1000) (hn1 : 1 ≤ n) :
    G T I.slices_Max_int_int [v] H (fun r H' => r = vi x ∧ H = H') := by
  have hl : (natL (List.replicate n x)).length = n := by simp [natL]
  refine G.mk ?_
  simp [F.slices_Max_int_int, F.slices_Max_int_int.c, F.slices_Max_int_int.r0, F.slices_Max_int_int.r1, F.slices_Max_int_int.r3, F.slices_Max_int_int.r4, hv.len, hl, show ¬ n = 0 by omega, show ¬ (n : Int) < 1 by omega]
  refine N_at hv (j := 0) rfl (u := vi x) (by simp [natL, List.getElem?_replicate]; omega) fun _ => ?_
  simp
  refine max_loop hv hn (fun tm h3 => ?_) (n - 1) 1 _ (by omega) (by simp) (by simp) (by simp)
  simp [F.slices_Max_int_int.r8, h3]

def fairOf (n : Nat) (L : List (List Bool)) (i : Nat) : Nat := L.countP fun c => decide ((tell n c).map (·.1) = some i)
def fairL (n : Nat) (L : List (List Bool)) : List Nat := (List.range n).map (fairOf n L)
theorem fair_snoc (n : Nat) (L : List (List Bool)) (c : List Bool) (i : Nat) : fairOf n (L ++ [c]) i = fairOf n L i + if (tell n c).map (·.1) = some i then 1 else 0 := by
  simp only [fairOf, List.countP_append, List.countP_cons, List.countP_nil, Nat.zero_add]
  by_cases h : (tell n c).map (·.1) = some i <;> simp only [h, decide_true, decide_false, if_true, if_false] <;> simp
theorem fairL_snoc {n : Nat} {c : List Bool} {p : Nat × Nat} (hp : tell n c = some p) (hpl : p.1 < n) (D : List (List Bool)) :
    natL (fairL n (D ++ [c])) = (natL (fairL n D)).set p.1 (vi ((fairOf n D p.1 : Int) + 1)) := by
  apply List.ext_getElem?
  intro j
  by_cases hj : j = p.1
  · subst hj
    rw [List.getElem?_set_self (by simp [natL, fairL]; exact hpl)]
    simp [natL, fairL, hpl, fair_snoc, hp]
  · rw [List.getElem?_set_ne (fun e => hj e.symm)]
    have hne : ¬ p.1 = j := fun e => hj e.symm
    have ht : fairOf n (D ++ [c]) j = fairOf n D j := by rw [fair_snoc, hp]; simp [hne]
    by_cases h2 : j < n
    · simp [natL, fairL, List.getElem?_range h2, ht]
    · simp [natL, fairL, h2]
theorem fair_all {n k : Nat} (hn : n ≤ 1000000000) : ∀ i, i < n → fairOf n (all k) i = cnt n (need n) (k + 1) k 0 := by
  intro i hi
  rw [← cnt_fair (need_le hn).1 hi (by omega) (k + 1) k]
  exact List.countP_congr fun a ha => by rw [tell, all_len k a ha]

theorem fair_tell [Has T I.draw_Number F.draw_Number] {Q : AX → Tm → Hp → Prop} {K : List Fk} {H0 : Hp} (tm0 : Tm) {bt n : Nat} {vr : Value} {L : List (List Bool)} (hr : RdRowsP (bt < ·) H0 vr (L.map bl))
    (hbt : bt < H0.length) (hn1 : 1 ≤ n) (hn : n ≤ 100) (hL : L.length ≤ 4096) (hl : ∀ c ∈ L, c.length ≤ 4096) (h0 : tm0 0 = vi n) (h8 : tm0 8 = .slice (some ⟨bt, 0, none⟩) n n)
    (k : ∀ (tm : Tm) (H : Hp), (∀ t, t < 9 → tm t = tm0 t) → H[bt]? = some (.rw 1 (natL (fairL n L))) → R T Q K .normal tm H) :
    ∀ (m i : Nat) (tm : Tm) (H : Hp), i + m = L.length → tm 36 = vi i → tm 35 = vi L.length → tm 34 = vr → (∀ t, t < 9 → tm t = tm0 t) → H[bt]? = some (.rw 1 (natL (fairL n (L.take i)))) → (∀ b, b ≠ bt → H[b]? = H0[b]?) →
      R T Q (.code (.loop F.parlkeep5_DrawFair.L0) :: .endb 0 :: K) .normal tm H := by
  intro m
  induction m with
  | zero =>
    intro i tm H hm h36 h35 h34 hT hb hk
    rw [R_loop]
    simp [F.parlkeep5_DrawFair.L0, F.parlkeep5_DrawFair.r7, h36, h35, show ¬ i < L.length by omega]
    rw [List.take_of_length_le (by omega)] at hb
    refine k _ H (fun t ht => ?_) hb
    simp only [upd_app]
    repeat rw [if_neg (by omega)]
    exact hT t ht
  | succ m ih =>
    intro i tm H hm h36 h35 h34 hT hb hk
    have hi : i < L.length := by omega
    have g0 : tm 0 = vi n := by rw [hT 0 (by decide), h0]
    have g8 : tm 8 = .slice (some ⟨bt, 0, none⟩) n n := by rw [hT 8 (by decide), h8]
    have hrH := (hr.congr fun b hb' _ => hk b (by omega)).any
    obtain ⟨us, u, hus, hu, hur⟩ := hrH.row (i := i) (r := bl L[i]) (by simp [hi])
    have hcl := hl _ (List.getElem_mem hi)
    have hts : ∀ j, fairOf n (L.take i) j ≤ 4096 := fun j => Nat.le_trans (List.countP_le_length) (by simp; omega)
    have htk : L.take (i + 1) = L.take i ++ [L[i]] := by rw [List.take_add_one, List.getElem?_eq_getElem hi]; rfl
    rw [R_loop]
    generalize hKK : Fk.code (.loop F.parlkeep5_DrawFair.L0) :: .endb 0 :: K = KK
    simp [F.parlkeep5_DrawFair.L0, F.parlkeep5_DrawFair.r7, F.parlkeep5_DrawFair.r8, F.parlkeep5_DrawFair.r9, h36, h35, h34, hi]
    refine N_at hus rfl hu fun _ => ?_
    simp [g0]
    refine R_call (args := [vi n, u]) (by simp) (number_spec hur (by omega) hn1 (by omega)) ?_
    rintro _ _ ⟨rfl, rfl⟩
    cases hp : tell n L[i] with
    | none =>
      simp [tup, F.parlkeep5_DrawFair.r10, F.parlkeep5_DrawFair.r14, h36]
      rw [V_wrap (by omega) (by omega)]
      subst hKK
      have e2 : fairL n (L.take (i + 1)) = fairL n (L.take i) := by
        unfold fairL
        refine List.map_congr_left fun j _ => ?_
        rw [htk, fair_snoc, hp]; rfl
      refine ih (i + 1) _ H (by omega) (by simp) (by simp [h35]) (by simp [h34]) (fun t ht => ?_) (by rw [e2]; exact hb) hk
      simp only [upd_app]
      repeat rw [if_neg (by omega)]
      exact hT t ht
    | some p =>
      have hpl : p.1 < n := (num_lt (x := p.1) (u := p.2) hp).1
      have htl : (fairL n (L.take i))[p.1]? = some (fairOf n (L.take i) p.1) := by simp [fairL, hpl]
      have htp := hts p.1
      have hcb : H.cells bt = some (natL (fairL n (L.take i))) := by rw [cells_of hb]; rfl
      simp [tup, F.parlkeep5_DrawFair.r10, F.parlkeep5_DrawFair.r11, F.parlkeep5_DrawFair.r13, F.parlkeep5_DrawFair.r14, want, g0, g8, show ¬ (p.1 : Int) < 0 by omega, show ¬ n ≤ p.1 by omega, hpl, hcb, natL, htl]
      rw [V_wrap (by omega) (by omega)]
      refine Nh_of (hstore_one (o := p.1) hb rfl rfl (by simp [natL, fairL]; exact hpl)) ?_
      simp [h36]
      rw [V_wrap (by omega) (by omega)]
      subst hKK
      have hlt := lt_of_get hb
      refine ih (i + 1) _ _ (by omega) (by simp) (by simp [h35]) (by simp [h34]) (fun t ht => ?_) (by rw [htk, fairL_snoc hp hpl]; exact get_same hlt) (fun b hne => by rw [get_other hne]; exact hk b hne)
      simp only [upd_app]
      repeat rw [if_neg (by omega)]
      exact hT t ht

set_option maxHeartbeats 1000000 in
theorem drawFair_law [Has T I.parlmake_Below F.parlmake_Below] [Has T I.parlkeep5_below F.parlkeep5_below] [Has T I.slices_Clone_bool_bool F.slices_Clone_bool_bool] [Has T I.parlkeep5_coins F.parlkeep5_coins] [Has T I.draw_Number F.draw_Number]
    [Has T I.slices_Min_int_int F.slices_Min_int_int] [Has T I.slices_Max_int_int F.slices_Max_int_int] [Has T I.parlkeep5_DrawFair F.parlkeep5_DrawFair] {H : Hp} (nn kk : Int) :
    G T I.parlkeep5_DrawFair [vi nn, vi kk] H (fun r H' => r = .bool true) := by
  refine G.mk ?_
  simp [F.parlkeep5_DrawFair, F.parlkeep5_DrawFair.c, F.parlkeep5_DrawFair.r0, F.parlkeep5_DrawFair.r1]
  refine R_call (args := [vi nn, vi 9]) (by simp) (belowk_spec nn 9 H (by omega) (by omega)) ?_
  rintro _ _ ⟨rfl, rfl⟩
  have hm0 := Int.emod_nonneg nn (show (9 : Int) ≠ 0 by omega)
  have hm9 := Int.emod_lt_of_pos nn (show (0 : Int) < 9 by omega)
  obtain ⟨n, hn⟩ : ∃ n : Nat, 1 + nn % 9 = (n : Int) := ⟨(1 + nn % 9).toNat, by omega⟩
  simp
  rw [V_wrap (by omega) (by omega), hn]
  refine R_call (args := [vi kk, vi 9]) (by simp) (belowk_spec kk 9 H (by omega) (by omega)) ?_
  rintro _ _ ⟨rfl, rfl⟩
  have hk0 := Int.emod_nonneg kk (show (9 : Int) ≠ 0 by omega)
  have hk9 := Int.emod_lt_of_pos kk (show (0 : Int) < 9 by omega)
  obtain ⟨k, hk⟩ : ∃ k : Nat, kk % 9 = (k : Int) := ⟨(kk % 9).toNat, by omega⟩
  rw [hk]
  simp [F.parlkeep5_DrawFair.r2, hbs, bfill, splice]
  refine R_heap fun H2 hH2 => ?_
  have hb2 : H2[H.length]? = some (.rw 1 [.bool true]) := by rw [hH2, get_at rfl]
  have hA2 : Rd H2 (.slice (some ⟨H.length, 0, none⟩) 1 1) ([true].map .bool) := ⟨.inr ⟨H.length, 0, 1, [.bool true], rfl, by simp [Hp.cells, hb2], by simp [Hp.esz, hb2, Blk.esz], by simp, rfl, trivial⟩⟩
  refine R_call (args := [vi 2, .slice (some ⟨H.length, 0, none⟩) 1 1]) (by simp) (number_spec (n := 2) hA2 (by simp) (by omega) (by omega)) ?_
  rintro _ _ ⟨rfl, rfl⟩
  have hp1 : tup (tell 2 [true]) = .tuple #[vi 1, vi 1, vi 0] := by
    have : tell 2 [true] = some (1, 1) := by decide
    rw [this]; rfl
  rw [hp1]
  simp [F.parlkeep5_DrawFair.r3, F.parlkeep5_DrawFair.r5, F.parlkeep5_DrawFair.r6, want, hmks, toList_madeCells_one, show (8 : Int) * n ≤ 281474976710656 by omega, show (n : Int) ≤ 9223372036854775807 by omega]
  refine R_heap fun H3 hH3 => ?_
  have hl3 : H3.length = H2.length + 1 := by rw [hH3]; simp
  have hb3 : H3[H2.length]? = some (.rw 1 (List.replicate n (vi 0))) := by rw [hH3, get_at rfl]
  refine R_call (args := [vi k]) (by simp) (coins_spec (n := k) (by omega)) ?_
  rintro vr H4 ⟨hr4, he4⟩
  have hpw : 2 ^ k ≤ 2 ^ 8 := Nat.pow_le_pow_right (by decide) (by omega)
  have hcn := all_count k
  have hle4 := he4.1
  simp [hr4.any.len]
  have hb4 : H4[H2.length]? = some (.rw 1 (natL (fairL n []))) := by
    rw [he4.get (by omega), hb3]
    have : natL (fairL n []) = List.replicate n (vi 0) := by
      apply List.ext_getElem?
      intro j
      by_cases hj : j < n
      · simp [natL, fairL, fairOf, List.getElem?_range hj, List.getElem?_replicate, hj]
      · simp [natL, fairL, hj]
    rw [this]
  have hr4' : RdRowsP (H2.length < ·) H4 vr ((all k).map bl) := by
    obtain ⟨us, a1, a2, a3⟩ := hr4
    exact ⟨us, a1.mono fun b hb => by omega, a2, fun i u r x y => (a3 i u r x y).mono fun b hb => by omega⟩
  refine fair_tell (H0 := H4) (bt := H2.length) (n := n) (L := all k) _ hr4' (by omega) (by omega) (by omega) (by omega) (fun c hc => by rw [all_len k c hc]; omega) (by simp) (by simp) (fun tm5 H5 hT5 hb5 => ?_) (all k).length 0 _ H4 (by omega) (by simp) (by simp) (by simp) (fun t _ => rfl) (by simpa using hb4) (fun _ _ => rfl)
  have hrep : fairL n (all k) = List.replicate n (cnt n (need n) (k + 1) k 0) := by
    rw [fairL, List.eq_replicate_iff]
    refine ⟨by simp, fun b hb => ?_⟩
    obtain ⟨j, hj, rfl⟩ := List.mem_map.1 hb
    exact fair_all (by omega) j (List.mem_range.1 hj)
  rw [hrep] at hb5
  have j8 : tm5 8 = .slice (some ⟨H2.length, 0, none⟩) n n := by rw [hT5 8 (by decide)]; simp
  have hv5 : Rd H5 (.slice (some ⟨H2.length, 0, none⟩) n n) (natL (List.replicate n (cnt n (need n) (k + 1) k 0))) :=
    ⟨.inr ⟨H2.length, 0, n, natL (List.replicate n (cnt n (need n) (k + 1) k 0)), rfl, by simp [Hp.cells, hb5], by simp [Hp.esz, hb5, Blk.esz], by simp [natL], by simp [natL], trivial⟩⟩
  simp [F.parlkeep5_DrawFair.r15, j8]
  refine R_call (args := [.slice (some ⟨H2.length, 0, none⟩) n n]) (by simp) (min_spec hv5 (by omega) (by omega)) ?_
  rintro _ _ ⟨rfl, rfl⟩
  simp [j8]
  refine R_call (args := [.slice (some ⟨H2.length, 0, none⟩) n n]) (by simp) (max_spec hv5 (by omega) (by omega)) ?_
  rintro _ _ ⟨rfl, rfl⟩
  simp
end Go.Proofs.Ytbehlbabgomhfaa
