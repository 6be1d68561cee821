/- Bits of uint64. Own work. -/
import Derived.Test.YtcdhhelgoppleaaWp
namespace Go.Proofs.Ytcdhhelgoppleaa.Gr
open Go Go.Ab Go.Pu
theorem w64 {n : Nat} (h : n < 2 ^ 64) : IntKind.wrap .u64 (n : Int) = n := by
  simp only [IntKind.wrap, IntKind.bits, IntKind.signed]; simp; omega
theorem ofInt64 (n : Nat) : BitVec.ofInt (IntKind.bits .u64) (n : Int) = BitVec.ofNat 64 n := by
  simp [IntKind.bits]
theorem band64 {n m : Nat} (hn : n < 2 ^ 64) (hm : m < 2 ^ 64) : Pu.band .u64 (n : Int) (m : Int) = ((n &&& m : Nat) : Int) := by
  unfold Pu.band
  rw [ofInt64, ofInt64]
  have : ((BitVec.ofNat 64 n &&& BitVec.ofNat 64 m).toNat) = n &&& m := by
    simp only [BitVec.toNat_and, BitVec.toNat_ofNat]
    rw [Nat.mod_eq_of_lt hn, Nat.mod_eq_of_lt hm]
  exact (congrArg (fun z : Nat => IntKind.wrap .u64 (z : Int)) this).trans (w64 (Nat.lt_of_le_of_lt Nat.and_le_left hn))
theorem bor64 {n m : Nat} (hn : n < 2 ^ 64) (hm : m < 2 ^ 64) : Pu.bor .u64 (n : Int) (m : Int) = ((n ||| m : Nat) : Int) := by
  unfold Pu.bor
  rw [ofInt64, ofInt64]
  have : ((BitVec.ofNat 64 n ||| BitVec.ofNat 64 m).toNat) = n ||| m := by
    simp only [BitVec.toNat_or, BitVec.toNat_ofNat]
    rw [Nat.mod_eq_of_lt hn, Nat.mod_eq_of_lt hm]
  exact (congrArg (fun z : Nat => IntKind.wrap .u64 (z : Int)) this).trans (w64 (Nat.or_lt_two_pow hn hm))
theorem bandn64 {n m : Nat} (hn : n < 2 ^ 64) (hm : m < 2 ^ 64) : Pu.bandn .u64 (n : Int) (m : Int) = 0 ↔ ∀ i, n.testBit i = true → m.testBit i = true := by
  unfold Pu.bandn
  rw [ofInt64, ofInt64]
  have hl : ((BitVec.ofNat 64 n &&& ~~~ BitVec.ofNat 64 m).toNat) < 2 ^ 64 := (BitVec.ofNat 64 n &&& ~~~ BitVec.ofNat 64 m).isLt
  have e : IntKind.wrap .u64 (((BitVec.ofNat 64 n &&& ~~~ BitVec.ofNat 64 m).toNat : Nat) : Int) = (((BitVec.ofNat 64 n &&& ~~~ BitVec.ofNat 64 m).toNat : Nat) : Int) := w64 hl
  have e0 : (IntKind.wrap .u64 (((BitVec.ofNat 64 n &&& ~~~ BitVec.ofNat 64 m).toNat : Nat) : Int) = 0) ↔ (BitVec.ofNat 64 n &&& ~~~ BitVec.ofNat 64 m).toNat = 0 :=
    ⟨fun h => Int.ofNat.inj (e.symm.trans h), fun h => e.trans (congrArg Int.ofNat h)⟩
  refine Iff.trans e0 ?_
  · constructor
    · intro h i hi
      have h2 : (BitVec.ofNat 64 n &&& ~~~ BitVec.ofNat 64 m) = 0#64 := BitVec.eq_of_toNat_eq (by rw [h]; rfl)
      have hi64 : i < 64 := by
        rcases Nat.lt_or_ge i 64 with h | h
        · exact h
        · rw [Nat.testBit_lt_two_pow (Nat.lt_of_lt_of_le hn (Nat.pow_le_pow_right (by omega) h))] at hi; cases hi
      have h3 := congrArg (fun v => v.getLsbD i) h2
      simp only [BitVec.getLsbD_and, BitVec.getLsbD_not, BitVec.getLsbD_ofNat, BitVec.getLsbD_zero, hi64, decide_true, Bool.true_and, hi] at h3
      simpa using h3
    · intro h
      have : (BitVec.ofNat 64 n &&& ~~~ BitVec.ofNat 64 m) = 0#64 := by
        refine BitVec.eq_of_getLsbD_eq fun i hi => ?_
        simp only [BitVec.getLsbD_and, BitVec.getLsbD_not, BitVec.getLsbD_ofNat, BitVec.getLsbD_zero, hi, decide_true, Bool.true_and]
        cases hb : n.testBit i with
        | false => simp
        | true => rw [h i hb]; simp
      rw [this]; rfl
theorem shr64 {n : Nat} {i : Int} (h0 : 0 ≤ i) (h1 : i ≤ 64) : Pu.shr .u64 (n : Int) i = some ((n >>> i.toNat : Nat) : Int) := by
  unfold Pu.shr
  rw [if_neg (by omega), Nat.min_eq_left (by simp [IntKind.bits]; omega), Nat.shiftRight_eq_div_pow]
  refine congrArg some ?_
  rw [Int.fdiv_eq_ediv_of_nonneg _ (Int.le_of_lt (Int.pow_pos (by omega)))]
  simp
theorem shl64 {i : Int} (h0 : 0 ≤ i) (h1 : i < 64) : Pu.shl .u64 1 i = some ((2 ^ i.toNat : Nat) : Int) := by
  unfold Pu.shl
  rw [if_neg (by omega), Nat.min_eq_left (by simp [IntKind.bits]; omega)]
  refine congrArg some ?_
  have := w64 (n := 2 ^ i.toNat) (Nat.pow_lt_pow_right (by omega) (by omega))
  rw [← this]; simp
theorem bit64 {n : Nat} {i : Int} (hn : n < 2 ^ 64) : Pu.band .u64 ((n >>> i.toNat : Nat) : Int) 1 = if n.testBit i.toNat then 1 else 0 := by
  have e := band64 (n := n >>> i.toNat) (m := 1) (Nat.lt_of_le_of_lt (Nat.shiftRight_le _ _) hn) (by omega)
  refine Eq.trans e ?_
  have : (n >>> i.toNat) &&& 1 = (n.testBit i.toNat).toNat := by
    rw [Nat.testBit]
    rw [Nat.and_comm 1]
    rw [Nat.and_one_is_mod]
    rcases Nat.mod_two_eq_zero_or_one (n >>> i.toNat) with h | h <;> rw [h] <;> rfl
  rw [this]
  cases n.testBit i.toNat <;> rfl
end Go.Proofs.Ytcdhhelgoppleaa.Gr
