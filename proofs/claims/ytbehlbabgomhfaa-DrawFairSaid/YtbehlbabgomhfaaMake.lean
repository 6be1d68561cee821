/- What the functions of package parlmake do. Own work. -/
import Derived.Test.YtbehlbabgomhfaaAb17
import Derived.Test.YtbehlbabgomhfaaGparlmake
namespace Go.Proofs.Ytbehlbabgomhfaa
open Go Go.Ab

variable {T : FuncId → Option AFunc}

theorem tmod_emod {x n : Int} : (x.tmod n) % n = x % n := by rw [Int.tmod_def, Int.sub_emod, Int.mul_emod_right, Int.sub_zero, Int.emod_emod]
theorem set_self {H : Hp} {b : Nat} {x : Blk} (h : H[b]? = some x) : H.set b x = H := by
  apply List.ext_getElem?
  intro i
  by_cases e : i = b
  · subst e; rw [get_same (List.getElem?_eq_some_iff.1 h).1, h]
  · rw [get_other e]

theorem below_spec [Has T I.parlmake_Below F.parlmake_Below] (x n : Int) (H : Hp) (hn : 0 < n) (hn2 : n ≤ 4611686018427387904) :
    G T I.parlmake_Below [vi x, vi n] H (fun r H' => r = vi (x % n) ∧ H = H') := by
  refine G.mk ?_
  have hb : n ≠ 0 := by omega
  have hm : x.tmod n < n ∧ -n < x.tmod n := ⟨Int.tmod_lt_of_pos x hn, by have := Int.lt_tmod_of_pos x hn; omega⟩
  simp [F.parlmake_Below, F.parlmake_Below.c, F.parlmake_Below.r0, F.parlmake_Below.r1, F.parlmake_Below.r2, F.parlmake_Below.r3, F.parlmake_Below.r4, hb]
  refine Br_dec (fun h => ?_) (fun h => ?_)
  · simp
    have he := Int.emod_emod_of_dvd x (Int.dvd_refl n)
    have h1 : x % n = (x.tmod n + n) := by
      have h2 : (x.tmod n + n) % n = x % n := by rw [Int.add_emod_right, tmod_emod]
      rw [← h2, Int.emod_eq_of_lt (by omega) (by omega)]
    rw [V_wrap (by omega) (by omega), h1]
  · simp
    have h2 : (x.tmod n) % n = x % n := tmod_emod ..
    rw [← h2, Int.emod_eq_of_lt (by omega) (by omega)]

/-- The next number of a stream. -/
theorem next_spec [Has T I.parlmake_Below F.parlmake_Below] [Has T I.parlmake_stream_next F.parlmake_stream_next] (n : Int) (H : Hp) (hn : 0 < n) (hn2 : n ≤ 4611686018427387904)
    (b : Nat) (v : Value) (p : Nat → Prop) (l : List Int) (hb : H[b]? = some (.rw 0 [v])) (hv : Arr H 1 p v (l.map vi)) (hp : ¬ p b) :
    G T I.parlmake_stream_next [.pointer (some ⟨b, 0, none⟩), vi n] H (fun r H' => r = vi (l.headD 0 % n) ∧ ∃ v', H' = H.set b (.rw 0 [v']) ∧ Arr H' 1 p v' (l.tail.map vi)) := by
  refine G.mk ?_
  have hc : H.cells b = some [v] := by simp [Hp.cells, hb]
  simp [F.parlmake_stream_next, F.parlmake_stream_next.c, F.parlmake_stream_next.r0, F.parlmake_stream_next.r1, F.parlmake_stream_next.r2, F.parlmake_stream_next.r3, F.parlmake_stream_next.r4, F.parlmake_stream_next.r5, hc, hv.len]
  refine Br_dec (fun h => ?_) (fun h => ?_)
  · subst h
    simp
    refine ⟨v, ?_, by simpa using hv⟩
    exact (set_self hb).symm
  · obtain ⟨x, l', rfl⟩ := List.exists_cons_of_ne_nil h
    simp [hc]
    refine N_at hv (j := 0) rfl rfl fun q => ?_
    obtain ⟨v', hv1, hv2⟩ := hv.drop (a := 1) (by simp)
    simp [hc]
    refine Nv_of hv1 ?_
    have hone : v'.cells = #[v'] ∧ v'.oneCell' = true := hv2.one
    simp
    refine Nh_of (hstore_one hb hone.1 hone.2 (by simp)) ?_
    simp
    refine R_call rfl (below_spec x n _ hn hn2) ?_
    rintro _ _ ⟨rfl, rfl⟩
    simp
    refine ⟨v', rfl, ?_⟩
    refine hv2.congr fun c hc _ => get_other (fun e => hp (e ▸ hc))

/-- A stream of numbers, of which no more is said. -/
def Str (H : Hp) (b : Nat) : Prop := ∃ v l, H[b]? = some (.rw 0 [v]) ∧ Arr H 1 (· < b) v (List.map vi l)
theorem Str.keep {H H' : Hp} {b : Nat} (h : Str H b) (k : ∀ c : Nat, c ≤ b → H'[c]? = H[c]?) : Str H' b := by
  obtain ⟨v, l, h1, h2⟩ := h
  exact ⟨v, l, (k b (Nat.le_refl _)).trans h1, h2.congr fun c hc _ => k c (Nat.le_of_lt hc)⟩
theorem Str.lt {H : Hp} {b : Nat} (h : Str H b) : b < H.length := by
  obtain ⟨v, l, h1, h2⟩ := h
  exact (List.getElem?_eq_some_iff.1 h1).1
theorem next_any [Has T I.parlmake_Below F.parlmake_Below] [Has T I.parlmake_stream_next F.parlmake_stream_next] (n : Int) (H : Hp) (hn : 0 < n) (hn2 : n ≤ 4611686018427387904) (b : Nat) (h : Str H b) :
    G T I.parlmake_stream_next [.pointer (some ⟨b, 0, none⟩), vi n] H (fun r H' => ∃ x, r = vi x ∧ 0 ≤ x ∧ x < n ∧ Str H' b ∧ H'.length = H.length ∧ ∀ c : Nat, c ≠ b → H'[c]? = H[c]?) := by
  obtain ⟨v, l, h1, h2⟩ := h
  obtain ⟨r, H', hr, rfl, v', hH, hv⟩ := next_spec (T := T) n H hn hn2 b v _ l h1 h2 (Nat.lt_irrefl b)
  refine ⟨_, H', hr, _, rfl, Int.emod_nonneg _ (by omega), Int.emod_lt_of_pos _ hn, ⟨v', l.tail, ?_, hv⟩, by rw [hH]; simp, fun c hc => by rw [hH]; exact get_other hc⟩
  rw [hH]; exact get_same (List.getElem?_eq_some_iff.1 h1).1

end Go.Proofs.Ytbehlbabgomhfaa
