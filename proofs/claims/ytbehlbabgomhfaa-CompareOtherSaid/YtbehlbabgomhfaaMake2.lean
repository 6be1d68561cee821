/- What the functions of package parlmake do, continued: Word. Own work. -/
import Derived.Test.YtbehlbabgomhfaaMake
import Derived.Test.YtbehlbabgomhfaaAb18
namespace Go.Proofs.Ytbehlbabgomhfaa
open Go Go.Ab

variable {T : FuncId → Option AFunc}

def wordOf (t m : Int) (l : List Int) : List Int := (l.take m.toNat).map (· % t)

set_option maxHeartbeats 1000000 in
theorem word_loop [Has T I.parlmake_Below F.parlmake_Below] {Q : AX → Tm → Hp → Prop} {K : List Fk} {H0 : Hp} {v : Value} {p : Nat → Prop} {l : List Int} {t m : Int} (hv : Arr H0 1 p v (l.map vi))
    (ht : 0 < t) (ht2 : t ≤ 4611686018427387904) (hm : 0 ≤ m) (hm2 : m ≤ 1099511627776) (hl : l.length ≤ 4611686018427387904)
    (k : ∀ tm H vo, tm 7 = vo → Own H0.length H vo ((wordOf t m l).map vi) → Ext H0.length H0 H → R T Q K .normal tm H) :
    ∀ (rest : List Int) (i : Nat) (vo : Value) (tm : Tm) (H : Hp), l.drop i = rest → i ≤ l.length → i ≤ m → tm 0 = vi t → tm 1 = vi m → tm 10 = v → tm 11 = vi l.length → tm 12 = vi i → tm 7 = vo → Own H0.length H vo ((wordOf t i l).map vi) → Ext H0.length H0 H →
    R T Q (.code (.loop F.parlmake_Word.L0) :: .endb 0 :: K) .normal tm H := by
  intro rest
  induction rest with
  | nil =>
    intro i vo tm H hd hi him h0 h1 h10 h11 h12 h7 ho he
    have : i = l.length := by have := List.drop_eq_nil_iff.1 hd; omega
    subst this
    rw [R_loop]
    simp [F.parlmake_Word.L0, F.parlmake_Word.r3, h11, h12]
    refine k _ _ vo (by simp [h7]) ?_ he
    have e : wordOf t m l = wordOf t l.length l := by simp only [wordOf]; rw [List.take_of_length_le (by omega), List.take_of_length_le (by omega)]
    rw [e]; exact ho
  | cons x rest ih =>
    intro i vo tm H hd hi him h0 h1 h10 h11 h12 h7 ho he
    have hlt : i < l.length := by
      rcases Nat.lt_or_ge i l.length with h | h
      · exact h
      · rw [List.drop_eq_nil_of_le h] at hd; cases hd
    have hx : l[i]? = some x := by rw [← List.head?_drop, hd]; rfl
    have hd' : l.drop (i + 1) = rest := by rw [← List.drop_drop, hd]; rfl
    have hvH : Arr H 1 p v (l.map vi) := hv.congr fun b _ hb => he.get hb
    have hlen : ((wordOf t i l).map vi).length = i := by simp [wordOf]; omega
    rw [R_loop]
    simp [F.parlmake_Word.L0, F.parlmake_Word.r3, F.parlmake_Word.r4, F.parlmake_Word.r5, F.parlmake_Word.r6, F.parlmake_Word.r7, h11, h12, h10, hlt]
    refine N_at hvH rfl (u := vi x) (by simp [hx]) fun q => ?_
    simp [h7, ho.len, h1]
    refine Br_dec (fun h => ?_) (fun h => ?_)
    · simp
      have hmi : m = i := by rw [← h]; simp [wordOf]; omega
      refine k _ _ vo (by simp [h7]) ?_ he
      rw [hmi]; exact ho
    · have hne : (i : Int) ≠ m := fun e => h (by rw [← e]; simp [wordOf]; omega)
      simp [h0, h7]
      refine R_call (args := [vi x, vi t]) rfl (below_spec x t _ ht ht2) ?_
      rintro _ _ ⟨rfl, rfl⟩
      simp
      refine N_app ho (by simp [h7]) (by decide) ⟨rfl, rfl⟩ (by rw [hlen]; omega) fun q v' H' ho' hb' hl' hk' => ?_
      simp [h12]
      rw [V_wrap (by omega) (by omega)]
      refine ih (i + 1) v' _ H' hd' hlt (by omega) (by simp [h0]) (by simp [h1]) (by simp [h10]) (by simp [h11]) (by simp) (by simp) ?_ ?_
      · have hle := he.1
        refine Own.less (n := H.length + 1) ?_ (by omega)
        have e : (wordOf t (i + 1 : Nat) l).map vi = (wordOf t i l).map vi ++ [vi (x % t)] := by
          simp only [wordOf, Int.toNat_natCast]
          rw [List.take_add_one, hx]; simp
        rw [e]; exact ho'
      · have h2 : Ext H0.length H H' := ⟨by omega, fun b hb => hk' b (Nat.lt_of_lt_of_le hb he.1) fun e => by have := (ho.lt e).1; omega⟩
        exact he.trans h2 (Nat.le_refl _)

theorem word_spec [Has T I.parlmake_Below F.parlmake_Below] [Has T I.parlmake_Word F.parlmake_Word] {H : Hp} {v : Value} {p : Nat → Prop} {l : List Int} {t m : Int} (hv : Arr H 1 p v (l.map vi))
    (ht : 0 < t) (ht2 : t ≤ 4611686018427387904) (hm : 0 ≤ m) (hm2 : m ≤ 1099511627776) (hl : l.length ≤ 4611686018427387904) :
    G T I.parlmake_Word [vi t, vi m, v] H (fun r H' => Own H.length H' r ((wordOf t m l).map vi) ∧ Ext H.length H H') := by
  refine G.mk ?_
  simp [F.parlmake_Word, F.parlmake_Word.c, F.parlmake_Word.r0, F.parlmake_Word.r1, F.parlmake_Word.r2, F.parlmake_Word.r8, hv.len]
  refine word_loop hv ht ht2 hm hm2 hl (fun tm H' vo h7 ho he => ?_) l 0 (.slice none 0 0) _ H rfl (by omega) (by omega) (by simp) (by simp) (by simp) (by simp) (by simp) (by simp) (by simpa [wordOf] using Own.nil _ _) (Ext.refl _ _)
  simp [h7]
  exact ⟨by simpa using ho, he⟩

end Go.Proofs.Ytbehlbabgomhfaa
