/- The abstract machine, part 12 c: the runs of a drawn region. Own work. -/
import Derived.Test.YtbehlbabgomhfaaAbD
namespace Go.Ab
open Go

theorem ancsAux_spec : ∀ (os : List Oper) (acc : List (List Nat)), (ancsAux os acc).length = acc.length + os.length ∧ (∀ i, i < acc.length → (ancsAux os acc)[i]? = acc[i]?) ∧
    ∀ (j : Nat) (o : Oper), os[j]? = some o → ∃ l : List (List Nat), (∀ i : Nat, i < acc.length + j → l[i]? = (ancsAux os acc)[i]?) ∧ (ancsAux os acc)[acc.length + j]? = some (anc1 l o)
  | [], acc => ⟨by simp [ancsAux], fun i _ => rfl, fun j o h => by simp at h⟩
  | o :: os, acc => by
    obtain ⟨h1, h2, h3⟩ := ancsAux_spec os (acc ++ [anc1 acc o])
    have hlen : (acc ++ [anc1 acc o]).length = acc.length + 1 := by simp
    refine ⟨by simp only [ancsAux, h1, hlen, List.length_cons]; omega, fun i hi => ?_, fun j q hj => ?_⟩
    · simp only [ancsAux]
      rw [h2 i (by rw [hlen]; omega), List.getElem?_append_left hi]
    · cases j with
      | zero =>
        simp at hj; subst hj
        refine ⟨acc, fun i hi => ?_, ?_⟩
        · simp only [ancsAux]
          rw [h2 i (by rw [hlen]; omega), List.getElem?_append_left hi]
        · simp only [ancsAux]
          rw [h2 _ (by rw [hlen]; omega), Nat.add_zero, List.getElem?_append_right (Nat.le_refl _)]
          simp
      | succ j =>
        obtain ⟨l, hl, hg⟩ := h3 j q (by simpa using hj)
        refine ⟨l, fun i hi => ?_, ?_⟩
        · simp only [ancsAux]; exact hl i (by rw [hlen]; omega)
        · simp only [ancsAux]; rw [← hg, hlen]; congr 1; omega

theorem ancs_mem {ops : List Oper} (he : edgesOk ops = true) {i : Nat} {o : Oper} (ho : ops[i]? = some o) {j : Nat} (hj : j ∈ (ancs ops).getD i []) :
    ∃ e ∈ o.after.toList, Region.binds .any e = true ∧ e.on < i ∧ (j = e.on ∨ j ∈ (ancs ops).getD e.on []) := by
  obtain ⟨h1, h2, h3⟩ := ancsAux_spec ops []
  obtain ⟨l, hl, hg⟩ := h3 i o ho
  simp only [List.length_nil, Nat.zero_add] at hl hg
  have hj' : j ∈ anc1 l o := by
    have : (ancs ops).getD i [] = anc1 l o := by rw [List.getD_eq_getElem?_getD]; show ((ancsAux ops [])[i]?).getD [] = _; rw [hg]; rfl
    rwa [this] at hj
  unfold anc1 at hj'
  rw [List.mem_eraseDups, List.mem_flatMap] at hj'
  obtain ⟨e, hme, hmem⟩ := hj'
  rw [List.mem_filter] at hme
  have hi : i < ops.length := by
    rcases Nat.lt_or_ge i ops.length with h | h
    · exact h
    · rw [List.getElem?_eq_none h] at ho; cases ho
  have hlt : e.on < i := by
    have := List.all_eq_true.1 he i (by simpa using hi)
    rw [ho] at this
    simp only [Option.map_some, Option.getD_some] at this
    have := List.all_eq_true.1 this e (List.mem_filter.2 hme)
    simpa using this
  refine ⟨e, hme.1, hme.2, hlt, ?_⟩
  rcases List.mem_cons.1 hmem with h | h
  · exact .inl h
  · right
    have : l.getD e.on [] = (ancs ops).getD e.on [] := by
      rw [List.getD_eq_getElem?_getD, List.getD_eq_getElem?_getD, hl e.on hlt]; rfl
    rwa [this] at h

theorem edges_lt {ops : List Oper} (he : edgesOk ops = true) {i : Nat} {o : Oper} (ho : ops[i]? = some o) {e : Edge} (hm : e ∈ o.after.toList) (hb : Region.binds .any e = true) : e.on < i := by
  have hi : i < ops.length := by
    rcases Nat.lt_or_ge i ops.length with h | h
    · exact h
    · rw [List.getElem?_eq_none h] at ho; cases ho
  have := List.all_eq_true.1 he i (by simpa using hi)
  rw [ho] at this
  simp only [Option.map_some, Option.getD_some] at this
  have := List.all_eq_true.1 this e (List.mem_filter.2 ⟨hm, hb⟩)
  simpa using this

theorem ancs_lt {ops : List Oper} (he : edgesOk ops = true) : ∀ (i : Nat) (o : Oper), ops[i]? = some o → ∀ j, j ∈ (ancs ops).getD i [] → j < i := by
  intro i
  induction i using Nat.strongRecOn with
  | _ i ih =>
    intro o ho j hj
    obtain ⟨e, _, _, hlt, h⟩ := ancs_mem he ho hj
    rcases h with rfl | h
    · exact hlt
    · have hi : i < ops.length := by
        rcases Nat.lt_or_ge i ops.length with h | h
        · exact h
        · rw [List.getElem?_eq_none h] at ho; cases ho
      have := ih e.on hlt ops[e.on] (List.getElem?_eq_getElem (by omega)) j h
      omega

/-- What is closed under the edges is closed under all that comes before. -/
theorem ancs_closed {ops : List Oper} (he : edgesOk ops = true) {L : Nat → Bool} (hL : ∀ k o, L k = true → ops[k]? = some o → ∀ e ∈ o.after.toList, Region.binds .any e = true → L e.on = true) :
    ∀ (i : Nat) (o : Oper), ops[i]? = some o → (∀ e ∈ o.after.toList, Region.binds .any e = true → L e.on = true) → ∀ j, j ∈ (ancs ops).getD i [] → L j = true := by
  intro i
  induction i using Nat.strongRecOn with
  | _ i ih =>
    intro o ho hr j hj
    obtain ⟨e, hm, hb, hlt, h⟩ := ancs_mem he ho hj
    have hLe := hr e hm hb
    rcases h with rfl | h
    · exact hLe
    · have hi : i < ops.length := by
        rcases Nat.lt_or_ge i ops.length with h | h
        · exact h
        · rw [List.getElem?_eq_none h] at ho; cases ho
      have hq : ops[e.on]? = some ops[e.on] := List.getElem?_eq_getElem (by omega)
      exact ih e.on hlt ops[e.on] hq (hL e.on _ hLe hq) j h

/-- The temporaries behind those operations that have been carried out. -/
def tmS (ops : List DOp) (vf : Nat → Value) (L : Nat → Bool) (tm : Tm) : Nat → Tm
  | 0 => tm
  | n + 1 => match ops[n]? with
    | some o => if L n then put (tmS ops vf L tm n) o.dst (vf n) else tmS ops vf L tm n
    | none => tmS ops vf L tm n
theorem put_ne {tm : Tm} {d : Option Nat} {v : Value} {x : Nat} (h : d ≠ some x) : put tm d v x = tm x := by
  cases d with
  | none => rfl
  | some t => exact upd_ne tm v (fun e => h (by rw [e]))
theorem put_eq {tm : Tm} {d : Option Nat} {v : Value} {x : Nat} (h : d = some x) : put tm d v x = v := by subst h; exact upd_same ..
theorem tmS_agree {ops : List DOp} {vf : Nat → Value} {L L' : Nat → Bool} {tm : Tm} {x : Nat} : ∀ n, (∀ k o, k < n → ops[k]? = some o → o.dst = some x → L k = L' k) → tmS ops vf L tm n x = tmS ops vf L' tm n x
  | 0, _ => rfl
  | n + 1, h => by
    have ih := tmS_agree (ops := ops) (vf := vf) (L := L) (L' := L') (tm := tm) (x := x) n (fun k o hk => h k o (by omega))
    simp only [tmS]
    cases ho : ops[n]? with
    | none => exact ih
    | some o =>
      simp only
      by_cases hd : o.dst = some x
      · rw [← h n o (by omega) ho hd]
        cases L n with
        | true => simp only [if_true]; rw [put_eq hd, put_eq hd]
        | false => exact ih
      · have e1 : (if L n then put (tmS ops vf L tm n) o.dst (vf n) else tmS ops vf L tm n) x = tmS ops vf L tm n x := by split; exact put_ne hd; rfl
        have e2 : (if L' n then put (tmS ops vf L' tm n) o.dst (vf n) else tmS ops vf L' tm n) x = tmS ops vf L' tm n x := by split; exact put_ne hd; rfl
        rw [e1, e2, ih]
theorem tmS_later {ops : List DOp} {vf : Nat → Value} {L : Nat → Bool} {tm : Tm} {x : Nat} (n : Nat) : ∀ d, (∀ k o, n ≤ k → k < n + d → ops[k]? = some o → o.dst = some x → L k = false) → tmS ops vf L tm (n + d) x = tmS ops vf L tm n x
  | 0, _ => rfl
  | d + 1, h => by
    have ih := tmS_later (ops := ops) (vf := vf) (L := L) (tm := tm) (x := x) n d (fun k o h1 h2 => h k o h1 (by omega))
    rw [← Nat.add_assoc]
    simp only [tmS]
    cases ho : ops[n + d]? with
    | none => exact ih
    | some o =>
      simp only
      by_cases hd : o.dst = some x
      · rw [h (n + d) o (by omega) (by omega) ho hd]; exact ih
      · split
        · rw [put_ne hd]; exact ih
        · exact ih

theorem dtrace_spec {call : CallF} {base m : Nat} : ∀ (ops : List DOp) (i : Nat) (s : St) (tr : List St), dtrace call base m ops i s = some tr → tr.length = ops.length + 1 ∧ tr[0]? = some s ∧
    ∀ (j : Nat) (o : DOp), ops[j]? = some o → ∃ sj sj1 v, tr[j]? = some sj ∧ tr[j + 1]? = some sj1 ∧ dstep call base m (i + j) o sj = some (v, sj1.2) ∧ sj1.1 = put sj.1 o.dst v
  | [], i, s, tr, h => by simp [dtrace] at h; subst h; exact ⟨rfl, rfl, fun j o h => by simp at h⟩
  | o :: ops, i, s, tr, h => by
    simp only [dtrace] at h
    split at h
    · rename_i v H' hd
      obtain ⟨r, hr, rfl⟩ := Option.map_eq_some_iff.1 h
      obtain ⟨h1, h2, h3⟩ := dtrace_spec ops (i + 1) _ r hr
      refine ⟨by simp [h1], rfl, fun j q hq => ?_⟩
      cases j with
      | zero =>
        simp at hq; subst hq
        exact ⟨s, _, v, rfl, by simpa using h2, hd, rfl⟩
      | succ j =>
        obtain ⟨sj, sj1, v', g1, g2, g3, g4⟩ := h3 j q (by simpa using hq)
        exact ⟨sj, sj1, v', by simpa using g1, by simpa using g2, by rw [← g3]; congr 1; omega, g4⟩
    · cases h

end Go.Ab
