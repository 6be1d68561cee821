/- mean.derived and mean.Accepts. Own work. -/
import Derived.Test.YtcdhhelgoppleaaMean1
namespace Go.Proofs.Ytcdhhelgoppleaa.Gr
open Go Go.Ab Go.Pu
section
variable {R : List Ru} {w : List Int} {M : List (List Int)} {nons : Int}
theorem fold_ok {g : Ty.api_Grammar} (hL : w.length ≤ 12) (s : List (List Int) × Bool) (hM : Bts s.1 nons w.length) {l : List Sy} (hl : InN nons l) {i : Nat} (hi : i ≤ w.length) {φ : Nat} (hφ : 14 < φ) :
    Ok (Pu.forP (P.mean_derived.b4 φ g w s) 0 l ((2 ^ i : Nat) : Int)) fun z => ∃ m : Nat, z = m ∧ m < 2 ^ (w.length + 1) ∧ ∀ j, m.testBit j = true ↔ Path s.1 w l i j := by
  refine forP_ok (fun k z => ∃ m : Nat, z = (m : Int) ∧ m < 2 ^ (w.length + 1) ∧ ∀ j, m.testBit j = true ↔ Path s.1 w (l.take k) i j) ⟨_, rfl, Nat.pow_lt_pow_right (by omega) (by omega), fun j => ?_⟩ ?_ fun z h => ?_
  · rw [Nat.testBit_two_pow, decide_eq_true_eq]; exact Iff.rfl
  · rintro k y _ hk ⟨m, rfl, h1, h2⟩
    unfold P.mean_derived.b4
    refine (after_ok hL hM (hl y (List.mem_of_getElem? hk)) h1 hφ).bind ?_
    rintro _ ⟨m', rfl, h3, h4⟩
    refine .some ⟨m', rfl, h3, fun j => ?_⟩
    have e : l.take (k + 1) = l.take k ++ [y] := by rw [List.take_add_one, hk]; rfl
    rw [e, path_snoc, h4]
    exact ⟨fun ⟨z, a, b⟩ => ⟨z, (h2 z).1 a, b⟩, fun ⟨z, a, b⟩ => ⟨z, (h2 z).2 a, b⟩⟩
  · rwa [List.take_length] at h
end
end Go.Proofs.Ytcdhhelgoppleaa.Gr
