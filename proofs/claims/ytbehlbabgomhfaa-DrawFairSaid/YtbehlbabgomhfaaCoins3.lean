/- What coins does, end. Own work. -/
import Derived.Test.YtbehlbabgomhfaaCoins2
import Derived.Test.YtbehlbabgomhfaaMake
namespace Go.Proofs.Ytbehlbabgomhfaa
open Go Go.Ab Go.Ab.Coin

variable {T : FuncId → Option AFunc}

theorem coins_loop [Has T I.slices_Clone_bool_bool F.slices_Clone_bool_bool] {Q : AX → Tm → Hp → Prop} {K : List Fk} {H0 : Hp} {n : Nat} (hn : n ≤ 12)
    (k : ∀ (tm : Tm) (H : Hp) (v : Value), tm 3 = v → RdRowsP (H0.length ≤ ·) H v ((all n).map bl) → Ext H0.length H0 H → R T Q K .normal tm H) :
    ∀ (m j : Nat) (tm : Tm) (H : Hp) (v : Value), j + m = n → tm 9 = vi j → tm 8 = vi n → tm 3 = v → RdRowsP (H0.length ≤ ·) H v ((all j).map bl) → Ext H0.length H0 H → R T Q (.code (.loop F.parlkeep5_coins.L0) :: .endb 0 :: K) .normal tm H := by
  intro m
  induction m with
  | zero =>
    intro j tm H v hm h9 h8 h3 hv he
    have : j = n := by omega
    subst this
    rw [R_loop]
    simp [F.parlkeep5_coins.L0, F.parlkeep5_coins.r3, h9, h8]
    exact k _ H v (by simp [h3]) hv he
  | succ m ih =>
    intro j tm H v hm h9 h8 h3 hv he
    have hj : j < n := by omega
    have hp : 2 ^ j ≤ 2 ^ 12 := Nat.pow_le_pow_right (by decide) (by omega)
    have hc := all_count j
    rw [R_loop]
    generalize hKK : Fk.code (.loop F.parlkeep5_coins.L0) :: .endb 0 :: K = KK
    simp [F.parlkeep5_coins.L0, F.parlkeep5_coins.r3, F.parlkeep5_coins.r4, F.parlkeep5_coins.r5, h9, h8, h3, hj, hv.any.len]
    refine coins_row (H0 := H) (L := all j) _ hv.any (by omega) (fun l hl => by rw [all_len j l hl]; omega) (fun tm2 H2 vn us hT2 h42 ho2 he2 => ?_) (all j).length 0 _ H (.slice none 0 0) [] (by omega) (by simp) (by simp) (by simp) (by simp) (fun t _ _ _ => rfl)
      ⟨Own.nil _ _, by simp [next], by simp, by simp⟩ (Ext.refl _ _)
    have g9 : tm2 9 = vi j := by rw [hT2 9 (by decide) (by decide) (by decide)]; simp [h9]
    have g8 : tm2 8 = vi n := by rw [hT2 8 (by decide) (by decide) (by decide)]; simp [h8]
    simp [F.parlkeep5_coins.r10, F.parlkeep5_coins.r11, h42, g9]
    rw [V_wrap (by omega) (by omega)]
    subst hKK
    refine ih (j + 1) _ H2 vn (by omega) (by simp) (by simp [g8]) (by simp) ?_ (he.trans he2 he.1)
    exact ho2.rdP he.1

theorem coins_spec [Has T I.slices_Clone_bool_bool F.slices_Clone_bool_bool] [Has T I.parlkeep5_coins F.parlkeep5_coins] {H : Hp} {n : Nat} (hn : n ≤ 12) :
    G T I.parlkeep5_coins [vi n] H (fun r H' => RdRowsP (H.length ≤ ·) H' r ((all n).map bl) ∧ Ext H.length H H') := by
  refine G.mk ?_
  simp [F.parlkeep5_coins, F.parlkeep5_coins.c, F.parlkeep5_coins.r0, F.parlkeep5_coins.r1, F.parlkeep5_coins.r2, hbs, bfill, splice]
  have hb : (H ++ [Blk.rw 1 [.slice none 0 0]])[H.length]? = some (.rw 1 [.slice none 0 0]) := get_at rfl
  refine coins_loop (H0 := H) hn (fun tm H2 v h3 hv he => ?_) n 0 _ _ (.slice (some ⟨H.length, 0, none⟩) 1 1) (by omega) (by simp) (by simp) (by simp) ⟨[.slice none 0 0], ?_, rfl, ?_⟩ (Ext.app _ _ (Nat.le_refl _))
  · simp [F.parlkeep5_coins.r12, h3]
    exact ⟨hv, he⟩
  · exact ⟨.inr ⟨H.length, 0, 1, [.slice none 0 0], rfl, by simp [Hp.cells, hb], by simp [Hp.esz, hb, Blk.esz], by simp, by simp, Nat.le_refl _⟩⟩
  · intro i u r hu hr
    rcases i with _ | i
    · simp [all] at hu hr; subst hu; subst hr; exact Arr.nil ..
    · simp at hu

theorem belowk_spec [Has T I.parlmake_Below F.parlmake_Below] [Has T I.parlkeep5_below F.parlkeep5_below] (x n : Int) (H : Hp) (hn : 0 < n) (hn2 : n ≤ 4611686018427387904) :
    G T I.parlkeep5_below [vi x, vi n] H (fun r H' => r = vi (x % n) ∧ H = H') := by
  refine G.mk ?_
  simp [F.parlkeep5_below, F.parlkeep5_below.c, F.parlkeep5_below.r0, F.parlkeep5_below.r1]
  refine R_call (args := [vi x, vi n]) (by simp) (below_spec x n _ hn hn2) ?_
  rintro _ _ ⟨rfl, rfl⟩
  simp
end Go.Proofs.Ytbehlbabgomhfaa
