/- What draw.Pick does. Own work. -/
import Derived.Test.YtbehlbabgomhfaaNumber2
namespace Go.Ab.Coin
/-- The index of the weight that holds a number. -/
def idx : List Nat → Nat → Option Nat
  | [], _ => none
  | w :: ws, x => if x < w then some 0 else (idx ws (x - w)).map (· + 1)
theorem idx_some : ∀ (ws : List Nat) (x : Nat), x < ws.sum → ∃ i, idx ws x = some i ∧ i < ws.length
  | [], x, h => by simp at h
  | w :: ws, x, h => by
    unfold idx
    split
    · exact ⟨0, rfl, by simp⟩
    · obtain ⟨i, h1, h2⟩ := idx_some ws (x - w) (by simp at h; omega)
      exact ⟨i + 1, by simp [h1], by simp; omega⟩
theorem idx_count : ∀ (ws : List Nat) (i w : Nat), ws[i]? = some w → (List.range ws.sum).countP (fun x => decide (idx ws x = some i)) = w
  | [], i, w, h => by simp at h
  | v :: ws, i, w, h => by
    rw [List.sum_cons, List.range_add, List.countP_append, List.countP_map]
    cases i with
    | zero =>
      simp at h; subst h
      have h1 : (List.range v).countP (fun x => decide (idx (v :: ws) x = some 0)) = v := by
        have := List.countP_eq_length (p := fun x => decide (idx (v :: ws) x = some 0)) (l := List.range v) |>.2 fun x hx => by simp [idx, List.mem_range.1 hx]
        simpa using this
      have h2 : (List.range ws.sum).countP ((fun x => decide (idx (v :: ws) x = some 0)) ∘ (v + ·)) = 0 := by
        rw [List.countP_eq_zero]
        intro x _
        simp [idx]
      omega
    | succ i =>
      simp at h
      have h1 : (List.range v).countP (fun x => decide (idx (v :: ws) x = some (i + 1))) = 0 := by
        rw [List.countP_eq_zero]
        intro x hx
        simp [idx, List.mem_range.1 hx]
      have h2 : (List.range ws.sum).countP ((fun x => decide (idx (v :: ws) x = some (i + 1))) ∘ (v + ·)) = w := by
        rw [← idx_count ws i w h]
        congr 1
        funext x
        have hx : ¬ v + x < v := by omega
        simp [idx, hx]
      omega
def pick (ws : List Nat) (l : List Bool) : Option (Nat × Nat) := (tell ws.sum l).bind fun p => (idx ws p.1).map fun i => (i, p.2)
end Go.Ab.Coin
namespace Go.Proofs.Ytbehlbabgomhfaa
open Go Go.Ab Go.Ab.Coin

variable {T : FuncId → Option AFunc}
def nl (l : List Nat) : List Value := l.map fun (n : Nat) => vi n

theorem pick_sum {Q : AX → Tm → Hp → Prop} {K : List Fk} {H : Hp} (tm0 : Tm) {vw : Value} {ws : List Nat} (hw : Rd H vw (nl ws)) (hl : ws.length ≤ 100) (hb : ∀ w ∈ ws, w ≤ 1000000)
    (k : ∀ tm : Tm, (∀ t, t < 7 → tm t = tm0 t) → tm 7 = vi ws.sum → R T Q K .normal tm H) :
    ∀ (m i : Nat) (tm : Tm), i + m = ws.length → tm 20 = vi i → tm 19 = vi ws.length → tm 18 = vw → tm 7 = vi (ws.take i).sum → (ws.take i).sum ≤ 1000000 * i → (∀ t, t < 7 → tm t = tm0 t) → R T Q (.code (.loop F.draw_Pick.L0) :: .endb 0 :: K) .normal tm H := by
  intro m
  induction m with
  | zero =>
    intro i tm hm h20 h19 h18 h7 hs hT
    rw [R_loop]
    simp [F.draw_Pick.L0, F.draw_Pick.r5, h20, h19, show ¬ i < ws.length by omega]
    refine k _ (fun t ht => ?_) ?_
    · simp only [upd_app]
      repeat rw [if_neg (by omega)]
      exact hT t ht
    · simp [h7]; rw [List.take_of_length_le (by omega)]
  | succ m ih =>
    intro i tm hm h20 h19 h18 h7 hs hT
    have hi : i < ws.length := by omega
    have hwi := hb _ (List.getElem_mem hi)
    have e1 : (ws.take (i + 1)).sum = (ws.take i).sum + ws[i] := by rw [List.take_add_one, List.getElem?_eq_getElem hi, Option.toList_some, List.sum_append]; simp only [List.sum_cons, List.sum_nil, Nat.add_zero]
    rw [R_loop]
    generalize hKK : Fk.code (.loop F.draw_Pick.L0) :: .endb 0 :: K = KK
    simp [F.draw_Pick.L0, F.draw_Pick.r5, F.draw_Pick.r6, F.draw_Pick.r7, h20, h19, h18, hi]
    refine N_at hw rfl (u := vi ws[i]) (by simp [nl, hi]) fun _ => ?_
    simp [want, show ¬ (ws[i] : Int) < 0 by omega, show ¬ (1000000 : Int) < ws[i] by omega, F.draw_Pick.r9, F.draw_Pick.r10, h7, h20]
    rw [V_wrap (by omega) (by omega), V_wrap (by omega) (by omega)]
    subst hKK
    refine ih (i + 1) _ (by omega) (by simp) (by simp [h19]) (by simp [h18]) (by simp [e1]) (by omega) (fun t ht => ?_)
    simp only [upd_app]
    repeat rw [if_neg (by omega)]
    exact hT t ht

theorem pick_find {Q : AX → Tm → Hp → Prop} {K : List Fk} {H : Hp} {vw : Value} {ws : List Nat} {x u : Nat} (hw : Rd H vw (nl ws)) (hl : ws.length ≤ 100) (hx0 : x < ws.sum) (hs : ws.sum ≤ 1000000000)
    (k : ∀ (tm : Tm) (i : Nat), idx ws x = some i → tm 4 = vi i → tm 5 = vi u → tm 6 = vi 0 → R T Q K .ret tm H) :
    ∀ (rest : List Nat) (i y : Nat) (tm : Tm), ws.drop i = rest → i ≤ ws.length → idx ws x = (idx rest y).map (· + i) → y < rest.sum → y ≤ x → tm 48 = vi i → tm 47 = vi ws.length → tm 46 = vw → tm 10 = vi y → tm 11 = vi u → R T Q (.code (.loop F.draw_Pick.L1) :: .endb 2 :: K) .normal tm H := by
  intro rest
  induction rest with
  | nil => intro i y tm hd hi hix hy; simp at hy
  | cons w rest ih =>
    intro i y tm hd hi hix hy hyx h48 h47 h46 h10 h11
    have hlt : i < ws.length := by
      rcases Nat.lt_or_ge i ws.length with h | h
      · exact h
      · rw [List.drop_eq_nil_of_le h] at hd; cases hd
    have hx : ws[i]? = some w := by rw [← List.head?_drop, hd]; rfl
    have hd2 : ws.drop (i + 1) = rest := by rw [← List.drop_drop, hd]; rfl
    rw [R_loop]
    generalize hKK : Fk.code (.loop F.draw_Pick.L1) :: .endb 2 :: K = KK
    simp [F.draw_Pick.L1, F.draw_Pick.r17, F.draw_Pick.r18, h48, h47, h46, hlt]
    refine N_at hw rfl (u := vi w) (by simp [nl, hx]) fun _ => ?_
    simp [F.draw_Pick.r19, h48, h10]
    refine Br_dec (fun h => ?_) (fun h => ?_)
    · have h' : y < w := by omega
      subst hKK
      simp [F.draw_Pick.r20, h11]
      exact k _ i (by rw [hix]; simp [idx, h']) (by simp) (by simp [h11]) (by simp)
    · have h' : ¬ y < w := by omega
      simp [F.draw_Pick.r21, F.draw_Pick.r22, h10, h48]
      rw [V_wrap (by omega) (by omega), V_wrap (by omega) (by omega)]
      subst hKK
      refine ih (i + 1) (y - w) _ hd2 (by omega) ?_ (by simp at hy; omega) (by omega) (by simp) (by simp [h47]) (by simp [h46]) (by simp; omega) (by simp [h11])
      rw [hix]; simp only [idx]
      rw [if_neg h', Option.map_map]
      congr 1
      funext q
      simp; omega

theorem pick_spec [Has T I.draw_Number F.draw_Number] [Has T I.draw_Pick F.draw_Pick] {H : Hp} {vw vc : Value} {ws : List Nat} {l : List Bool} (hw : Rd H vw (nl ws)) (hwl : ws.length ≤ 100) (hb : ∀ w ∈ ws, w ≤ 1000000) (hsum : ws.sum ≤ 1000000000)
    (hs : Rd H vc (l.map .bool)) (hl : l.length ≤ 17592186044416) :
    G T I.draw_Pick [vw, vc] H (fun r H' => r = (if ws.sum = 0 then .tuple #[vi 0, vi 0, vi 1] else tup (pick ws l)) ∧ H = H') := by
  have hwlen : (nl ws).length = ws.length := by simp [nl]
  refine G.mk ?_
  simp [F.draw_Pick, F.draw_Pick.c, F.draw_Pick.r0, F.draw_Pick.r1, F.draw_Pick.r3, F.draw_Pick.r4, hw.len, hwlen, show ¬ (100 : Int) < ws.length by omega]
  refine pick_sum (H := H) _ hw hwl hb (fun tm hT h7 => ?_) ws.length 0 _ (by omega) (by simp) (by simp) (by simp) (by simp) (by simp) (fun t ht => rfl)
  have g0 : tm 0 = vw := by rw [hT 0 (by decide)]; simp
  have g1 : tm 1 = vc := by rw [hT 1 (by decide)]; simp
  simp [F.draw_Pick.r11, h7]
  refine Br_dec (fun h => ?_) (fun h => ?_)
  · simp [F.draw_Pick.r12]
    have : ws.sum = 0 := by omega
    simp [this]
  · have h0 : ws.sum ≠ 0 := fun e => h (by omega)
    simp [F.draw_Pick.r13, h7, g1]
    refine R_call (args := [vi ws.sum, vc]) (by simp) (number_spec hs hl (by omega) hsum) ?_
    rintro _ _ ⟨rfl, rfl⟩
    cases ht : tell ws.sum l with
    | none =>
      simp [tup, F.draw_Pick.r14, F.draw_Pick.r15, h0, pick, ht]
    | some p =>
      have hp : p.1 < ws.sum := (num_lt (x := p.1) (u := p.2) ht).1
      obtain ⟨i, hi, hil⟩ := idx_some ws p.1 hp
      simp [tup, F.draw_Pick.r14, F.draw_Pick.r16, g0, hw.len, hwlen]
      refine pick_find (H := H) hw hwl hp hsum (u := p.2) (fun tm2 j hj h4 h5 h6 => ?_) ws 0 p.1 _ rfl (by omega) (by simp) hp (Nat.le_refl _) (by simp) (by simp) (by simp) (by simp) (by simp)
      simp [h4, h5, h6, h0, pick, ht, hj]
end Go.Proofs.Ytbehlbabgomhfaa
