/- What draw.Number does. Own work. -/
import Derived.Test.YtbehlbabgomhfaaNumber
namespace Go.Proofs.Ytbehlbabgomhfaa
open Go Go.Ab Go.Ab.Coin

variable {T : FuncId → Option AFunc}

theorem num_zero {n : Nat} (hn : 0 < n) (f : Nat) (l : List Bool) : num n 0 (f + 1) l = some (0, 0) := by simp [num, val, hn]

theorem number_tries {Q : AX → Tm → Hp → Prop} {K : List Fk} {H : Hp} (tm0 : Tm) {n : Nat} {vc : Value} {l : List Bool} (hs : Rd H vc (l.map .bool)) (hl : l.length ≤ 17592186044416) (h0 : tm0 0 = vi n) (h1 : tm0 1 = vc) (hn1 : 1 ≤ n) (hn : n ≤ 1000000000)
    (hnd : need n ≤ 30) (h7 : tm0 7 = vi (need n))
    (k : ∀ (tm : Tm) (p : Nat × Nat), tell n l = some p → tm 4 = vi p.1 → tm 5 = vi p.2 → tm 6 = vi 0 → R T Q K .ret tm H)
    (k2 : ∀ tm : Tm, tell n l = none → R T Q K .normal tm H) :
    ∀ (f u : Nat) (tm : Tm), u ≤ l.length → l.length - u < f → tell n l = (num n (need n) f (l.drop u)).map (fun p => (p.1, p.2 + u)) → tm 8 = vi u → (∀ t, t < 8 → tm t = tm0 t) → R T Q (.code (.loop F.draw_Number.L1) :: .endb 2 :: K) .normal tm H := by
  intro f
  induction f with
  | zero => intro u tm hu hf; omega
  | succ f ih =>
    intro u tm hu hf ht h8 hT
    have g0 : tm 0 = vi n := by rw [hT 0 (by decide), h0]
    have g1 : tm 1 = vc := by rw [hT 1 (by decide), h1]
    have g7 : tm 7 = vi (need n) := by rw [hT 7 (by decide), h7]
    rw [R_loop]
    generalize hKK : Fk.code (.loop F.draw_Number.L1) :: .endb 2 :: K = KK
    simp [F.draw_Number.L1, F.draw_Number.r7, h8, g7, g1, hs.len]
    rw [V_wrap (by omega) (by omega)]
    refine Br_dec (fun h => ?_) (fun h => ?_)
    · have hle : u + need n ≤ l.length := by omega
      obtain ⟨v', hv1, hv2⟩ := hs.mid (a := u) (c := u + need n) (by simp; omega) (by omega)
      have e0 : ((l.map Value.bool).take (u + need n)).drop u = (((l.take (u + need n)).drop u)).map Value.bool := by rw [List.map_drop, List.map_take]
      rw [e0] at hv2
      have hll : ((l.take (u + need n)).drop u).length = need n := by simp; omega
      have hlt : (l.take (u + need n)).drop u = (l.drop u).take (need n) := by rw [List.drop_take]; congr 1; omega
      have hv := val_lt ((l.drop u).take (need n))
      rw [← hlt] at hv
      rw [hll] at hv
      have hp : 2 ^ need n ≤ 2 ^ 30 := Nat.pow_le_pow_right (by decide) hnd
      simp [F.draw_Number.r8, F.draw_Number.r9, h8, g7, g1]
      rw [V_wrap (by omega) (by omega)]
      have hv1' : aslice H 1 vc (some (vi u)) (some (vi ((u : Int) + need n))) = some v' := by have := hv1; rwa [show ((u + need n : Nat) : Int) = (u : Int) + need n by omega] at this
      simp [hv1', hv2.len, hll]
      refine number_value (H := H) _ hv2 (by omega) (fun tm3 hT3 h93 => ?_) (need n) 0 _ (by omega) (by simp) (by simp) (by simp) (by simp [val]) (fun t ht => rfl)
      have j8 : tm3 8 = vi u := by rw [hT3 8 (by decide)]; simp [h8]
      have j7 : tm3 7 = vi (need n) := by rw [hT3 7 (by decide)]; simp [g7]
      have j0 : tm3 0 = vi n := by rw [hT3 0 (by decide)]; simp [g0]
      have jT : ∀ t, t < 8 → tm3 t = tm0 t := fun t ht => by
        rw [hT3 t (by omega)]
        simp only [upd_app]
        repeat rw [if_neg (by omega)]
        exact hT t ht
      simp [F.draw_Number.r16, F.draw_Number.r17, j8, j7, h93, j0]
      rw [V_wrap (by omega) (by omega)]
      have hnl : ¬ (l.drop u).length < need n := by simp; omega
      refine Br_dec (fun h => ?_) (fun h => ?_)
      · have hval : val ((l.drop u).take (need n)) < n := by rw [← hlt]; omega
        subst hKK
        simp [F.draw_Number.r18, h93]
        refine k _ (val ((l.drop u).take (need n)), need n + u) ?_ (by simp [hlt]) (by simp; omega) (by simp)
        rw [ht]; simp only [num]; rw [if_neg hnl, if_pos hval]; rfl
      · have hval : ¬ val ((l.drop u).take (need n)) < n := by rw [← hlt]; omega
        have hn0 : need n ≠ 0 := fun e => by
          apply hval
          rw [e]; simp [val]; omega
        subst hKK
        simp
        refine ih (u + need n) _ (by omega) (by omega) ?_ (by simp) (fun t ht => ?_)
        · rw [ht]; simp only [num]
          rw [if_neg hnl, if_neg hval, List.drop_drop, Option.map_map]
          congr 1
          funext p
          simp; omega
        · simp only [upd_app]
          repeat rw [if_neg (by omega)]
          exact jT t ht
    · subst hKK
      simp
      refine k2 _ ?_
      rw [ht]; simp only [num]
      rw [if_pos (by simp; omega)]; rfl

theorem number_spec [Has T I.draw_Number F.draw_Number] {H : Hp} {n : Nat} {vc : Value} {l : List Bool} (hs : Rd H vc (l.map .bool)) (hl : l.length ≤ 17592186044416) (hn1 : 1 ≤ n) (hn : n ≤ 1000000000) :
    G T I.draw_Number [vi n, vc] H (fun r H' => r = tup (tell n l) ∧ H = H') := by
  have hnd := need_le hn
  refine G.mk ?_
  simp [F.draw_Number, F.draw_Number.c, F.draw_Number.r0, F.draw_Number.r1, F.draw_Number.r3, want, show ¬ n = 0 by omega, show ¬ (n : Int) < 1 by omega, show ¬ (1000000000 : Int) < n by omega]
  refine number_bits (H := H) (n := n) _ (by simp) hn (fun tm hT h7 => ?_) 30 0 _ rfl rfl (by simp) (fun t ht => rfl)
  have g0 : tm 0 = vi n := by rw [hT 0 (by decide)]; simp
  have g1 : tm 1 = vc := by rw [hT 1 (by decide)]; simp
  simp [F.draw_Number.r6]
  refine number_tries tm hs hl g0 g1 hn1 hn hnd.2 h7 (fun tm2 p hp h4 h5 h6 => ?_) (fun tm2 hp => ?_) (l.length + 1) 0 _ (by omega) (by omega) ?_ (by simp) (fun t ht => ?_)
  · simp [h4, h5, h6, hp, tup]
  · simp [F.draw_Number.r19, hp, tup]
  · simp [tell]
  · simp only [upd_app]
    repeat rw [if_neg (by omega)]
end Go.Proofs.Ytbehlbabgomhfaa
