/- The abstract machine, part 12 d: the model follows a drawn region, whatever the order. Own work. -/
import Derived.Test.YtbehlbabgomhfaaAbE
namespace Go.Ab
open Go

/-- All that is known of a drawn region that the abstract machine runs. -/
structure Ctx (P : Program) (call : CallF) (N : Nat) (ops : Array Oper) (base : Nat) (tmf : Nat → Tm) (Hf : Nat → Hp) (vf : Nat → Value) (dops : List DOp) : Prop where
  hm : dops.length = ops.size
  keep : KeepC call
  ok : CallOk P call
  edges : edgesOk ops.toList = true
  get : ∀ (i : Nat) o, ops[i]? = some o → ∃ sl, dops[i]? = some (cOper P N ops sl o)
  slots : ∀ (i : Nat) d, dops[i]? = some d → kindOf d.op = .read → ∀ k ∈ d.slots, k ∈ (ancs ops.toList).getD i [] ∧
    ∀ (l : Nat) dl, dops[l]? = some dl → kindOf dl.op = .loud → unordered (ancs ops.toList) i l = false
  pairs : ∀ (i l : Nat) d dl, dops[i]? = some d → kindOf d.op = .read → dops[l]? = some dl → kindOf dl.op = .loud → unordered (ancs ops.toList) i l = true →
    again d (tmf i, Hf i) (Hf l) = true ∧ again d (tmf i, Hf i) (Hf (l + 1)) = true
  static : ∀ (i j : Nat) x y, i < j → dops[i]? = some x → dops[j]? = some y → i ∈ (ancs ops.toList).getD j [] ∨
    (clash x y = false ∧ ¬ (kindOf x.op = .loud ∧ kindOf y.op = .loud) ∧ ¬ (kindOf x.op = .new ∧ kindOf y.op = .loud))
  step : ∀ (j : Nat) o, dops[j]? = some o → dstep call base dops.length j o (tmf j, Hf j) = some (vf j, Hf (j + 1)) ∧ tmf (j + 1) = put (tmf j) o.dst (vf j)
  dead0 : ∀ k, k < dops.length → (Hf 0)[base + k]? = some Blk.dead

section
variable {P : Program} {call : CallF} {N : Nat} {ops : Array Oper} {base : Nat} {tmf : Nat → Tm} {Hf : Nat → Hp} {vf : Nat → Value} {dops : List DOp}

theorem Ctx.some_ (C : Ctx P call N ops base tmf Hf vf dops) {i : Nat} (hi : i < dops.length) : ∃ d, dops[i]? = some d := ⟨dops[i], by simp [hi]⟩
theorem lt_of_some {α : Type} {l : List α} {i : Nat} {x : α} (h : l[i]? = some x) : i < l.length := by
  rcases Nat.lt_or_ge i l.length with q | q
  · exact q
  · rw [List.getElem?_eq_none q] at h; cases h

/-- What a step does to the heap. -/
theorem Ctx.heap_step (C : Ctx P call N ops base tmf Hf vf dops) {j : Nat} {d : DOp} (hd : dops[j]? = some d) :
    ((Hf j).length ≤ (Hf (j + 1)).length ∧ ∀ b : Nat, b ≠ base + j → (Hf j)[b]? = some Blk.dead → (Hf (j + 1))[b]? = some Blk.dead) ∧ (kindOf d.op ≠ .loud → ∀ b : Nat, b ≠ base + j → (Hf (j + 1))[b]? = (Hf j)[b]?) ∧
    (kindOf d.op ≠ .loud → kindOf d.op ≠ .new → Hf (j + 1) = Hf j) := by
  have hs := (C.step j d hd).1
  unfold dstep at hs
  split at hs
  · cases hk : kindOf d.op with
    | pure =>
      rw [hk] at hs
      obtain ⟨e, _⟩ := pure_same hk hs
      have e : Hf (j + 1) = Hf j := e
      rw [e]
      exact ⟨⟨Nat.le_refl _, fun _ _ h => h⟩, fun _ _ _ => rfl, fun _ _ => rfl⟩
    | read =>
      rw [hk] at hs
      simp only at hs
      split at hs
      · obtain ⟨e, _⟩ := read_same hk hs
        have e : Hf (j + 1) = Hf j := e
        rw [e]
        exact ⟨⟨Nat.le_refl _, fun _ _ h => h⟩, fun _ _ _ => rfl, fun _ _ => rfl⟩
      · cases hs
    | new =>
      rw [hk] at hs
      simp only at hs
      obtain ⟨p, hp, e⟩ := Option.map_eq_some_iff.1 hs
      have e2 := (Prod.mk.inj e).2
      rw [← e2]
      exact ⟨⟨by simp, fun b hb h => by rw [List.getElem?_set_ne (by omega)]; exact h⟩, fun _ b hb => List.getElem?_set_ne (fun e => hb e.symm), fun _ h => absurd rfl h⟩
    | loud =>
      rw [hk] at hs
      simp only at hs
      obtain ⟨h1, h2, _⟩ := arun_keeps C.keep hs
      exact ⟨⟨h1, fun b _ h => h2 b h⟩, fun h => absurd rfl h, fun h => absurd rfl h⟩
  · have e2 := (Prod.mk.inj (Option.some.inj hs)).2
    rw [← e2]
    exact ⟨⟨Nat.le_refl _, fun _ _ h => h⟩, fun _ _ _ => rfl, fun _ _ => rfl⟩

theorem Ctx.heap_mono (C : Ctx P call N ops base tmf Hf vf dops) : ∀ (d j : Nat), j + d ≤ dops.length → (Hf j).length ≤ (Hf (j + d)).length
  | 0, j, _ => Nat.le_refl _
  | d + 1, j, h => by
    obtain ⟨x, hx⟩ := C.some_ (i := j + d) (by omega)
    exact Nat.le_trans (C.heap_mono d j (by omega)) (C.heap_step hx).1.1

theorem Ctx.ro_step (C : Ctx P call N ops base tmf Hf vf dops) {j : Nat} {d : DOp} (hd : dops[j]? = some d) (b z : Nat) (vs : List Value) (h : (Hf (j + 1))[b]? = some (.ro z vs)) : (Hf j)[b]? = some (.ro z vs) := by
  have hs := (C.step j d hd).1
  by_cases hl : kindOf d.op = .loud
  · unfold dstep at hs
    split at hs
    · rw [hl] at hs
      exact (arun_keeps C.keep hs).2.2 b z vs h
    · have e2 := (Prod.mk.inj (Option.some.inj hs)).2
      rw [← e2] at h; exact h
  · by_cases hb : b = base + j
    · subst hb
      unfold dstep at hs
      split at hs
      · cases hk : kindOf d.op with
        | new =>
          rw [hk] at hs
          simp only at hs
          obtain ⟨p, hp, e⟩ := Option.map_eq_some_iff.1 hs
          have e2 := (Prod.mk.inj e).2
          rw [← e2] at h
          rw [List.getElem?_set] at h
          simp at h
          exact absurd h.2 (anew_rw (v := p.1) (b := p.2) hp z vs)
        | loud => exact absurd hk hl
        | pure => rw [(C.heap_step hd).2.2 (by rw [hk]; simp) (by rw [hk]; simp)] at h; exact h
        | read => rw [(C.heap_step hd).2.2 (by rw [hk]; simp) (by rw [hk]; simp)] at h; exact h
      · have e2 := (Prod.mk.inj (Option.some.inj hs)).2
        rw [← e2] at h; exact h
    · rw [(C.heap_step hd).2.1 hl b hb] at h; exact h
theorem Ctx.ro (C : Ctx P call N ops base tmf Hf vf dops) (b z : Nat) (vs : List Value) : ∀ j, j ≤ dops.length → (Hf j)[b]? = some (.ro z vs) → (Hf 0)[b]? = some (.ro z vs)
  | 0, _, h => h
  | j + 1, hj, h => by
    obtain ⟨d, hd⟩ := C.some_ (i := j) (by omega)
    exact C.ro b z vs j (by omega) (C.ro_step hd b z vs h)
theorem Ctx.dead (C : Ctx P call N ops base tmf Hf vf dops) (b : Nat) (hb : b < base) : ∀ j, j ≤ dops.length → (Hf 0)[b]? = some Blk.dead → (Hf j)[b]? = some Blk.dead
  | 0, _, h => h
  | j + 1, hj, h => by
    obtain ⟨d, hd⟩ := C.some_ (i := j) (by omega)
    exact (C.heap_step hd).1.2 b (by omega) (C.dead b hb j (by omega) h)

/-- A free place is free until its turn. -/
theorem Ctx.free (C : Ctx P call N ops base tmf Hf vf dops) {k : Nat} (hk : k < dops.length) : ∀ j, j ≤ k → (Hf j)[base + k]? = some Blk.dead
  | 0, _ => C.dead0 k hk
  | j + 1, h => by
    obtain ⟨x, hx⟩ := C.some_ (i := j) (by omega)
    exact (C.heap_step hx).1.2 _ (by omega) (C.free hk j (by omega))

/-- From p on to i no loud operation: the heaps differ in the new blocks alone. -/
theorem Ctx.calm (C : Ctx P call N ops base tmf Hf vf dops) {p : Nat} : ∀ (i : Nat), p ≤ i → i ≤ dops.length → (∀ k d, p ≤ k → k < i → dops[k]? = some d → kindOf d.op ≠ .loud) →
    ∀ b : Nat, (Hf i)[b]? = if base ≤ b ∧ p ≤ b - base ∧ b - base < i then (Hf (b - base + 1))[b]? else (Hf p)[b]? := by
  intro i hpi
  induction i with
  | zero => intro _ _ b; have : p = 0 := by omega
            subst this; rw [if_neg (by omega)]
  | succ i ih =>
    intro hi hq b
    by_cases he : p = i + 1
    · subst he; rw [if_neg (by omega)]
    · obtain ⟨d, hd⟩ := C.some_ (i := i) (by omega)
      have hst := (C.heap_step hd).2.1 (hq i d (by omega) (by omega) hd)
      have ih' := ih (by omega) (by omega) (fun k d h1 h2 => hq k d h1 (by omega)) b
      by_cases hb : b = base + i
      · subst hb
        rw [if_pos (by omega)]
        congr 2; omega
      · rw [hst b hb, ih']
        by_cases hc : base ≤ b ∧ p ≤ b - base ∧ b - base < i
        · rw [if_pos hc, if_pos (by omega)]
        · rw [if_neg hc, if_neg (by omega)]
theorem Ctx.calm_len (C : Ctx P call N ops base tmf Hf vf dops) {p : Nat} : ∀ (i : Nat), p ≤ i → i ≤ dops.length → (∀ k d, p ≤ k → k < i → dops[k]? = some d → kindOf d.op ≠ .loud) → (Hf i).length = (Hf p).length := by
  intro i hpi
  induction i with
  | zero => intro _ _; have : p = 0 := by omega
            subst this; rfl
  | succ i ih =>
    intro hi hq
    by_cases he : p = i + 1
    · subst he; rfl
    · obtain ⟨d, hd⟩ := C.some_ (i := i) (by omega)
      rw [← ih (by omega) (by omega) (fun k d h1 h2 => hq k d h1 (by omega))]
      have hnl := hq i d (by omega) (by omega) hd
      by_cases hn : kindOf d.op = .new
      · have hs := (C.step i d hd).1
        unfold dstep at hs
        split at hs
        · rw [hn] at hs
          simp only at hs
          obtain ⟨p, hp, e⟩ := Option.map_eq_some_iff.1 hs
          have e2 := (Prod.mk.inj e).2
          rw [← e2]
          simp
        · have e2 := (Prod.mk.inj (Option.some.inj hs)).2
          rw [← e2]
      · rw [(C.heap_step hd).2.2 hnl hn]

theorem Ctx.tmf_eq (C : Ctx P call N ops base tmf Hf vf dops) : ∀ n, n ≤ dops.length → tmf n = tmS dops vf (fun _ => true) (tmf 0) n
  | 0, _ => rfl
  | n + 1, h => by
    obtain ⟨d, hd⟩ := C.some_ (i := n) (by omega)
    rw [(C.step n d hd).2, C.tmf_eq n (by omega)]
    simp only [tmS, hd, if_true]

/-- What has been carried out so far, and how the model's state stands to it. -/
structure At (P : Program) (call : CallF) (N : Nat) (ops : Array Oper) (base : Nat) (tmf : Nat → Tm) (Hf : Nat → Hp) (vf : Nat → Value) (dops : List DOp)
    (ι0 : Emb) (w0 : World) (H0 : Hp) (L : Nat → Bool) (p : Nat) (h : Hp) (ι : Emb) (a : Act) (w : World) : Prop where
  ple : p ≤ dops.length
  louds : ∀ (k : Nat) d, dops[k]? = some d → kindOf d.op = .loud → (L k = true ↔ k < p)
  last : p = 0 ∨ ∃ d, dops[p - 1]? = some d ∧ kindOf d.op = .loud ∧ L (p - 1) = true ∧ 0 < p
  hlen : h.length = (Hf p).length
  heap : ∀ b : Nat, h[b]? = if base ≤ b ∧ p ≤ b - base ∧ b - base < dops.length ∧ L (b - base) = true then (Hf (b - base + 1))[b]? else (Hf p)[b]?
  sim : Sim ι h w
  tmps : TR ι N (tmS dops vf L (tmf 0) dops.length) a
  none_ : ∀ k, k < dops.length → L k = false → ι (base + k) = none
  emb : ι0.le ι
  old : ∀ b, b < base → ι b = ι0 b
  os : w.os = w0.os
  tape : w.tape = w0.tape
  output : w.output = w0.output
  size : w0.heap.size ≤ w.heap.size
  kept : ∀ g, g < w0.heap.size → ¬ OwnW ι0 H0 g → w.heap[g]? = w0.heap[g]?
  own : ∀ g, g < w0.heap.size → OwnW ι h g → OwnW ι0 H0 g

end
end Go.Ab
