/- What draw.Number and the functions around it do. Own work. -/
import Derived.Test.YtbehlbabgomhfaaDrawMath
import Derived.Test.YtbehlbabgomhfaaGdraw
namespace Go.Ab
@[simp] theorem V_shl (a b : Int) : vbin .shl (vi a) (vi b) = if b < 0 then none else some (vi (IntKind.i64.wrap (a * 2 ^ (min b.toNat 64)))) := rfl
namespace Coin
theorem val_lt (l : List Bool) : val l < 2 ^ l.length := by
  rw [← List.reverse_reverse l]
  generalize l.reverse = r
  induction r with
  | nil => decide
  | cons b r ih => rw [List.reverse_cons, val_snoc, List.length_append, List.length_singleton, Nat.pow_succ]; cases b <;> simp at ih ⊢ <;> omega
/-- How many coins a number below n needs. -/
def needF (n : Nat) : Nat → Nat → Nat
  | 0, b => b
  | f + 1, b => if 2 ^ b < n then needF n f (b + 1) else b
theorem needF_le (n : Nat) : ∀ (f b : Nat), n ≤ 2 ^ (b + f) → n ≤ 2 ^ needF n f b ∧ needF n f b ≤ b + f
  | 0, b, h => ⟨by simpa [needF] using h, by simp [needF]⟩
  | f + 1, b, h => by
    unfold needF
    split
    · have := needF_le n f (b + 1) (by rw [show b + 1 + f = b + (f + 1) by omega]; exact h)
      exact ⟨this.1, by omega⟩
    · exact ⟨by omega, by omega⟩
def need (n : Nat) : Nat := needF n 30 0
theorem need_le {n : Nat} (h : n ≤ 1000000000) : n ≤ 2 ^ need n ∧ need n ≤ 30 := by
  have := needF_le n 30 0 (by simp; omega)
  simpa [need] using this
/-- What Number tells. -/
def tell (n : Nat) (l : List Bool) : Option (Nat × Nat) := num n (need n) (l.length + 1) l
def tup (r : Option (Nat × Nat)) : Value := match r with
  | some p => .tuple #[vi p.1, vi p.2, vi 0]
  | none => .tuple #[vi 0, vi 0, vi 5]
end Coin
end Go.Ab
namespace Go.Proofs.Ytbehlbabgomhfaa
open Go Go.Ab Go.Ab.Coin

variable {T : FuncId → Option AFunc}

theorem number_bits {Q : AX → Tm → Hp → Prop} {K : List Fk} {H : Hp} (tm0 : Tm) {n : Nat} (h0 : tm0 0 = vi n) (hn : n ≤ 1000000000) (k : ∀ tm : Tm, (∀ t, t < 7 → tm t = tm0 t) → tm 7 = vi (need n) → R T Q K .normal tm H) :
    ∀ (f b : Nat) (tm : Tm), b + f = 30 → need n = needF n f b → tm 7 = vi b → (∀ t, t < 7 → tm t = tm0 t) → R T Q (.code (.loop F.draw_Number.L0) :: .endb 0 :: K) .normal tm H := by
  intro f
  induction f with
  | zero =>
    intro b tm hb hbt h7 hT
    have hbb : b = 30 := by omega
    subst hbb
    have g0 : tm 0 = vi n := by rw [hT 0 (by decide), h0]
    rw [R_loop]
    simp [F.draw_Number.L0, F.draw_Number.r4, h7, g0]
    rw [V_wrap (by omega) (by omega)]
    simp [show ¬ (1073741824 : Int) < n by omega]
    refine k _ (fun t ht => ?_) (by simp [h7, hbt, needF])
    simp only [upd_app]
    repeat rw [if_neg (by omega)]
    exact hT t ht
  | succ f ih =>
    intro b tm hb hbt h7 hT
    have g0 : tm 0 = vi n := by rw [hT 0 (by decide), h0]
    have hp : 2 ^ b ≤ 2 ^ 30 := Nat.pow_le_pow_right (by decide) (by omega)
    obtain ⟨p, hpe⟩ : ∃ p : Nat, 2 ^ b = p := ⟨_, rfl⟩
    have hpi : (2 : Int) ^ b = (p : Int) := by rw [← hpe]; simp
    rw [hpe] at hp
    have hmin : min b 64 = b := by omega
    rw [R_loop]
    generalize hKK : Fk.code (.loop F.draw_Number.L0) :: .endb 0 :: K = KK
    simp [F.draw_Number.L0, F.draw_Number.r4, h7, g0, hmin, show ¬ (b : Int) < 0 by omega]
    rw [hpi, V_wrap (by omega) (by omega)]
    refine Br_dec (fun h => ?_) (fun h => ?_)
    · have h' : 2 ^ b < n := by rw [hpe]; omega
      simp [F.draw_Number.r5, h7]
      rw [V_wrap (by omega) (by omega)]
      subst hKK
      refine ih (b + 1) _ (by omega) (by rw [hbt]; simp [needF, h']) (by simp) (fun t ht => ?_)
      simp only [upd_app]
      repeat rw [if_neg (by omega)]
      exact hT t ht
    · have h' : ¬ 2 ^ b < n := by rw [hpe]; omega
      subst hKK
      simp
      refine k _ (fun t ht => ?_) (by rw [hbt]; simp [needF, h', h7])
      simp only [upd_app]
      repeat rw [if_neg (by omega)]
      exact hT t ht

theorem number_value {Q : AX → Tm → Hp → Prop} {K : List Fk} {H : Hp} (tm0 : Tm) {vs : Value} {l : List Bool} (hs : Rd H vs (l.map .bool)) (hl : l.length ≤ 30) (k : ∀ tm : Tm, (∀ t, t < 9 → tm t = tm0 t) → tm 9 = vi (val l) → R T Q K .normal tm H) :
    ∀ (m i : Nat) (tm : Tm), i + m = l.length → tm 37 = vi i → tm 36 = vi l.length → tm 35 = vs → tm 9 = vi (val (l.take i)) → (∀ t, t < 9 → tm t = tm0 t) → R T Q (.code (.loop F.draw_Number.L2) :: .endb 4 :: K) .normal tm H := by
  intro m
  induction m with
  | zero =>
    intro i tm hm h37 h36 h35 h9 hT
    rw [R_loop]
    simp [F.draw_Number.L2, F.draw_Number.r10, h37, h36, show ¬ i < l.length by omega]
    refine k _ (fun t ht => ?_) (by simp [h9]; rw [List.take_of_length_le (by omega)])
    simp only [upd_app]
    repeat rw [if_neg (by omega)]
    exact hT t ht
  | succ m ih =>
    intro i tm hm h37 h36 h35 h9 hT
    have hi : i < l.length := by omega
    have hv := val_lt (l.take i)
    have hp : 2 ^ (l.take i).length ≤ 2 ^ 30 := Nat.pow_le_pow_right (by decide) (by simp; omega)
    have e1 : val (l.take (i + 1)) = 2 * val (l.take i) + l[i].toNat := by rw [List.take_add_one, List.getElem?_eq_getElem hi, Option.toList_some, val_snoc]
    have hx : (l.map Value.bool)[i]? = some (.bool l[i]) := by simp [hi]
    rw [R_loop]
    generalize hKK : Fk.code (.loop F.draw_Number.L2) :: .endb 4 :: K = KK
    simp [F.draw_Number.L2, F.draw_Number.r10, F.draw_Number.r11, F.draw_Number.r12, F.draw_Number.r13, h37, h36, h35, hi]
    refine N_at hs rfl hx fun _ => ?_
    simp [h9]
    rw [V_wrap (by omega) (by omega)]
    have hT' : ∀ (tm1 : Tm), (∀ t, t < 9 → tm1 t = tm t) → ∀ t, t < 9 → tm1 t = tm0 t := fun tm1 h t ht => (h t ht).trans (hT t ht)
    refine Br_split (fun h => ?_) (fun h => ?_)
    · simp [F.draw_Number.r14, F.draw_Number.r15, h37]
      rw [V_wrap (by omega) (by omega), V_wrap (by omega) (by omega)]
      subst hKK
      refine ih (i + 1) _ (by omega) (by simp) (by simp [h36]) (by simp [h35]) (by rw [e1, h]; simp; omega) (hT' _ fun t ht => ?_)
      simp only [upd_app]
      repeat rw [if_neg (by omega)]
    · simp [F.draw_Number.r15, h37]
      rw [V_wrap (by omega) (by omega)]
      subst hKK
      refine ih (i + 1) _ (by omega) (by simp) (by simp [h36]) (by simp [h35]) (by rw [e1, h]; simp; omega) (hT' _ fun t ht => ?_)
      simp only [upd_app]
      repeat rw [if_neg (by omega)]
end Go.Proofs.Ytbehlbabgomhfaa
