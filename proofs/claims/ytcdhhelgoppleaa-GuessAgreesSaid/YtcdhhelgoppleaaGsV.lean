/- The grammars that guess.Of looks at are valid. Own work. -/
import Derived.Test.YtcdhhelgoppleaaGs3
import Derived.Test.YtcdhhelgoppleaaGrV
namespace Go.Proofs.Ytcdhhelgoppleaa.Gr
open Go Go.Ab Go.Pu
def encr (r : Ru) : List Int := r.Left :: r.Right.flatMap fun y => [if y.Term then 1 else 0, y.N]
def vrb (t n : Int) (rs : List Ru) : Bool := (rs.all fun r => decide (0 ≤ r.Left) && decide (r.Left < n) && decide (r.Right.length ≤ 4) && r.Right.all fun y => decide (0 ≤ y.N) && (if y.Term then decide (y.N < t) else decide (y.N < n))) && decide ((rs.map encr).Pairwise (· ≠ ·))
def vrulesb (t n : Int) : Bool := match P.guess_Rules t n with
  | some (rs, _) => vrb t n rs
  | none => false
theorem vrulesb_ok : vrulesb 1 1 = true ∧ vrulesb 2 1 = true ∧ vrulesb 1 2 = true ∧ vrulesb 2 2 = true := by decide +kernel
structure VR (t n : Int) (rs : List Ru) : Prop where
  lft : ∀ r ∈ rs, 0 ≤ r.Left ∧ r.Left < n
  rgt : ∀ r ∈ rs, r.Right.length ≤ 4
  sym : ∀ r ∈ rs, ∀ s ∈ r.Right, 0 ≤ s.N ∧ (s.Term = true → s.N < t) ∧ (s.Term = false → s.N < n)
  dis : rs.Pairwise (· ≠ ·)
theorem vrules_ok {t n : Int} (t1 : 1 ≤ t) (t2 : t ≤ 2) (n1 : 1 ≤ n) (n2 : n ≤ 2) {x : List Ru × Int} (e : P.guess_Rules t n = some x) : VR t n x.1 := by
  have h : vrulesb t n = true := by
    obtain ⟨a, b, c, d⟩ := vrulesb_ok
    rcases (by omega : t = 1 ∨ t = 2) with rfl | rfl <;> rcases (by omega : n = 1 ∨ n = 2) with rfl | rfl
    · exact a
    · exact c
    · exact b
    · exact d
  unfold vrulesb at h
  rw [e] at h
  obtain ⟨rs, z⟩ := x
  have h' : vrb t n rs = true := h
  unfold vrb at h'
  simp only [Bool.and_eq_true, List.all_eq_true, decide_eq_true_eq] at h'
  obtain ⟨h1, h2⟩ := h'
  refine ⟨fun r hr => (h1 r hr).1.1, fun r hr => (h1 r hr).1.2, fun r hr s hs => ?_, ?_⟩
  · obtain ⟨a, b⟩ := (h1 r hr).2 s hs
    refine ⟨a, fun q => ?_, fun q => ?_⟩
    · rw [if_pos q] at b; simpa using b
    · rw [if_neg (by simp [q])] at b; simpa using b
  · rw [List.pairwise_map] at h2
    exact h2.imp fun q e => q (by rw [e])
theorem At.inc {k m : Int} {l : List Int} (h : At k m l) : l.Pairwise (· < ·) := by
  rcases h with ⟨rfl, rfl⟩ | ⟨a, rfl, rfl, _⟩ | ⟨a, b, rfl, rfl, _⟩ | ⟨a, b, c, rfl, rfl, _⟩ <;> simp <;> omega
theorem mkg_valid {t n : Int} (t1 : 1 ≤ t) (t2 : t ≤ 2) (n1 : 1 ≤ n) (n2 : n ≤ 2) {R : List Ru} (hR : VR t n R) {k : Int} (hk : k ≤ 3) {l : List Int} (hl : At k R.length l) : Valid (mkg t n R l) := by
  have hm := hl.mem
  have hlen := hl.len
  have mem : ∀ r ∈ (mkg t n R l).Rules, r ∈ R := fun r hr => by
    obtain ⟨i, hi, rfl⟩ := List.mem_map.1 hr
    exact el_mem (hm i hi).1 (hm i hi).2
  refine ⟨t1, (show t ≤ 8 by omega), n1, (show n ≤ 10 by omega), Int.le_refl _, (show (0 : Int) < n by omega), ?_, fun r hr => hR.lft r (mem r hr), fun r hr => hR.rgt r (mem r hr), fun r hr => hR.sym r (mem r hr), ?_⟩
  · show (l.map _).length ≤ 32
    rw [List.length_map]; omega
  · show (l.map _).Pairwise _
    rw [List.pairwise_map]
    refine hl.inc.imp_of_mem fun {a b} ha hb hab => ?_
    obtain ⟨a0, a1⟩ := hm a ha
    obtain ⟨b0, b1⟩ := hm b hb
    have := List.pairwise_iff_getElem.1 hR.dis a.toNat b.toNat (by omega) (by omega) (by omega)
    have ea := get_el (xs := R) (i := a.toNat) (by omega)
    have eb := get_el (xs := R) (i := b.toNat) (by omega)
    rw [List.getElem?_eq_getElem (by omega), Option.some.injEq, Int.toNat_of_nonneg a0] at ea
    rw [List.getElem?_eq_getElem (by omega), Option.some.injEq, Int.toNat_of_nonneg b0] at eb
    rw [ea, eb] at this; exact this
end Go.Proofs.Ytcdhhelgoppleaa.Gr
