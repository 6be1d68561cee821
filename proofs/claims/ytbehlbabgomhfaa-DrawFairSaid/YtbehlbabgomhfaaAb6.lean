/- The abstract machine, part 6: the model follows each operation. Own work. -/
import Derived.Test.YtbehlbabgomhfaaAb5
namespace Go.Ab
open Go

theorem okz_vrs {ι : Emb} {cs : List Value} (h : okz cs = true) : VRs ι cs cs := by
  refine ⟨rfl, fun j v v' a b => ?_⟩
  rw [a] at b; cases b
  exact okC_vr (List.all_eq_true.1 h v (List.mem_of_getElem? a))
theorem VR.of_mkv {ι : Emb} {agg : Bool} {cs cs' : List Value} {v : Value} (h : VRs ι cs cs') (hv : mkv agg cs = some v) : ∃ v', mkv agg cs' = some v' ∧ VR ι v v' := by
  unfold mkv at hv ⊢
  cases agg with
  | true => simp at hv ⊢; subst hv; exact VR.of_agg h
  | false =>
    simp only [Bool.false_eq_true, if_false] at hv ⊢
    cases cs with
    | nil => simp at hv
    | cons u r =>
      cases r with
      | nil =>
        simp at hv; subst hv
        obtain ⟨v', r', rfl, h1, h2⟩ := h.cons_inv
        rw [h2.nil_inv]
        exact ⟨v', rfl, h1⟩
      | cons u2 r2 => simp at hv

theorem szT_some {P : Program} {t : TypeId} {n : Nat} {b : Bool} (h : szT P t = some (n, b)) : ∃ i, P.info? t = some i ∧ i.size = n ∧ (∀ w, (isAgg t).run P w = .ok b w) ∧ (b = false → n = 1) := by
  unfold szT at h
  split at h
  · rename_i i b' hi hb
    split at h
    · rename_i hc
      cases h
      refine ⟨i, hi, rfl, fun w => ?_, fun hb' => by subst hb'; simpa using hc⟩
      unfold aggT at hb
      split at hb <;> cases hb <;> (rename_i hu; simp [isAgg, run_underlying hu])
      all_goals (split <;> simp_all)
    · cases h
  · cases h

theorem zeroT_some {P : Program} {t : TypeId} {cs : List Value} (h : zeroT P t = some cs) : ∃ i z, P.info? t = some i ∧ i.zero = some z ∧ z.cells.toList = cs ∧ okz cs = true ∧ z.cells.size = i.size := by
  unfold zeroT at h
  split at h
  · rename_i i hi
    split at h
    · rename_i z hz
      split at h
      · rename_i hc
        cases h
        simp at hc
        exact ⟨i, z, hi, hz, rfl, hc.1, hc.2⟩
      · cases h
    · cases h
  · cases h

theorem run_part_mkv {P : Program} {t : TypeId} {n : Nat} {b : Bool} (h : szT P t = some (n, b)) {cs : Array Value} {off : Nat} {v : Value} (hle : off + n ≤ cs.size)
    (hv : mkv b ((cs.toList.drop off).take n) = some v) (w : World) : (part t cs off).run P w = .ok v w := by
  obtain ⟨i, hi, hsz, hagg, h1⟩ := szT_some h
  unfold part
  rw [Sem.run_bind, hagg, Result.andThen_ok]
  cases b with
  | true =>
    simp only [mkv, if_true, Option.some.injEq] at hv
    subst hv
    simp only [if_true, Sem.run_bind, sizeOf, typeInfo, run_program, Result.andThen_ok, hi, Sem.run_pure, hsz]
    congr 2
    apply Array.ext'
    simp [Array.toList_extract, List.extract_eq_take_drop]
  | false =>
    have hn := h1 rfl
    subst hn
    simp only [mkv, Bool.false_eq_true, if_false] at hv ⊢
    have hlt : off < cs.size := by omega
    have hd : (cs.toList.drop off).take 1 = [cs[off]] := by
      rw [List.take_one]
      simp [List.head?_drop, hlt]
    rw [hd] at hv
    simp at hv
    subst hv
    simp [hlt]

theorem bfill_vr {ι : Emb} : ∀ (ps ps' : List (Nat × Nat × Value)), ps.length = ps'.length → (∀ (j : Nat) (p p' : Nat × Nat × Value), ps[j]? = some p → ps'[j]? = some p' → p.1 = p'.1 ∧ p.2.1 = p'.2.1 ∧ VR ι p.2.2 p'.2.2) →
    ∀ (cs cs' r : List Value), VRs ι cs cs' → bfill cs ps = some r → ∃ r', bfill cs' ps' = some r' ∧ VRs ι r r'
  | [], ps', hl, _, cs, cs', r, hc, h => by
    obtain rfl : ps' = [] := List.eq_nil_of_length_eq_zero (by simpa using hl.symm)
    simp [bfill] at h ⊢; subst h; exact hc
  | (off, size, v) :: ps, ps', hl, hp, cs, cs', r, hc, h => by
    cases ps' with
    | nil => simp at hl
    | cons p' ps' =>
      obtain ⟨off', size', v'⟩ := p'
      obtain ⟨h1, h2, h3⟩ := hp 0 _ _ rfl rfl
      simp only at h1 h2 h3
      subst h1; subst h2
      simp only [bfill] at h ⊢
      have hcl := h3.cells
      split at h
      · rename_i hcond
        have hs : v'.cells.size = v.cells.size := by have := hcl.1; simpa using this.symm
        rw [if_pos ⟨by rw [hs]; exact hcond.1, by rw [← hc.1]; exact hcond.2⟩]
        exact bfill_vr ps ps' (by simpa using hl) (fun j p p' a b => hp (j + 1) p p' (by simpa using a) (by simpa using b)) _ _ r (splice_get hc hcl off) h
      · cases h

theorem foldl_splice (off : Nat) : ∀ (l : List Value) (k : Nat) (arr : Array Value), off + k + l.length ≤ arr.size →
    ((l.zipIdx k).foldl (fun (cs : Array Value) (x : Value × Nat) => cs.setIfInBounds (off + x.2) x.1) arr).toList = splice arr.toList (off + k) l
  | [], k, arr, _ => by simp [splice]
  | v :: l, k, arr, h => by
    simp only [List.zipIdx_cons, List.foldl_cons]
    have ih := foldl_splice off l (k + 1) (arr.setIfInBounds (off + k) v) (by simp at h ⊢; omega)
    rw [ih]
    simp only [splice, Array.toList_setIfInBounds, List.length_cons]
    have e := list_seg_step arr.toList (off + k) v l (by simp at h ⊢; omega)
    rw [← Nat.add_assoc] at e ⊢
    exact e.trans (by rw [show off + k + l.length + 1 = off + k + (l.length + 1) from rfl])

theorem fill_run (pl : Nat → Option (Nat × Nat)) : ∀ (ps : List (Nat × Value)) (l : List (Nat × Nat × Value)), ps.mapM (fun p => (pl p.1).map fun q => (q.1, q.2, p.2)) = some l →
    ∀ (cs : Array Value) (r : List Value), bfill cs.toList l = some r → Instr.fill pl cs ps = some r.toArray
  | [], l, hl, cs, r, h => by
    simp at hl; subst hl
    simp [bfill] at h; subst h
    simp [Instr.fill]
  | (i, v) :: ps, l, hl, cs, r, h => by
    simp only [List.mapM_cons, Option.bind_eq_bind, Option.pure_def, Option.bind_eq_some_iff] at hl
    obtain ⟨e, he, l2, hl2, h3⟩ := hl
    cases h3
    obtain ⟨q, hq, rfl⟩ := Option.map_eq_some_iff.1 he
    obtain ⟨off, size⟩ := q
    simp only [bfill] at h
    split at h
    · rename_i hc
      simp only [Instr.fill, hq]
      rw [if_neg (by simp; exact ⟨hc.1, by have := hc.2; simp at this; omega⟩)]
      refine fill_run pl ps l2 hl2 _ r ?_
      have := foldl_splice off v.cells.toList 0 cs (by have := hc.2; have := hc.1; simp at *; omega)
      rw [← Array.foldl_toList, Array.toList_zipIdx, this]
      exact h
    · cases h

end Go.Ab
