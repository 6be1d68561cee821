/- The abstract machine, part 12 e: one operation of a drawn region, in whatever order. Own work. -/
import Derived.Test.YtbehlbabgomhfaaAbF
namespace Go.Ab
open Go

section
variable {P : Program} {call : CallF} {N : Nat} {ops : Array Oper} {base : Nat} {tmf : Nat → Tm} {Hf : Nat → Hp} {vf : Nat → Value} {dops : List DOp}
  {ι0 : Emb} {w0 : World} {H0 : Hp} {L : Nat → Bool} {p : Nat} {h : Hp} {ι : Emb} {a : Act} {w : World}

theorem At.room (C : Ctx P call N ops base tmf Hf vf dops) (A : At P call N ops base tmf Hf vf dops ι0 w0 H0 L p h ι a w) {k : Nat} (hk : k < dops.length) : base + k < h.length := by
  rw [A.hlen]
  have := C.heap_mono p 0 (by have := A.ple; omega)
  rw [Nat.zero_add] at this
  have h0 := lt_of_some (C.dead0 k hk)
  omega

/-- The parts of 'At' that speak of the world alone. -/
theorem At.next (A : At P call N ops base tmf Hf vf dops ι0 w0 H0 L p h ι a w) {L' : Nat → Bool} {p' : Nat} {h' : Hp} {ι' : Emb} {a' : Act} {w' : World}
    (hple : p' ≤ dops.length) (hlouds : ∀ (k : Nat) d, dops[k]? = some d → kindOf d.op = .loud → (L' k = true ↔ k < p'))
    (hlast : p' = 0 ∨ ∃ d, dops[p' - 1]? = some d ∧ kindOf d.op = .loud ∧ L' (p' - 1) = true ∧ 0 < p') (hlen : h'.length = (Hf p').length)
    (hheap : ∀ b : Nat, h'[b]? = if base ≤ b ∧ p' ≤ b - base ∧ b - base < dops.length ∧ L' (b - base) = true then (Hf (b - base + 1))[b]? else (Hf p')[b]?)
    (hsim : Sim ι' h' w') (htmps : TR ι' N (tmS dops vf L' (tmf 0) dops.length) a') (hnone : ∀ k, k < dops.length → L' k = false → ι' (base + k) = none)
    (hemb : ι.le ι') (hold : ∀ b, b < base → ι' b = ι b) (hos : w'.os = w.os) (htape : w'.tape = w.tape) (hout : w'.output = w.output) (hsize : w.heap.size ≤ w'.heap.size)
    (hkeep : ∀ g, g < w.heap.size → ¬ OwnW ι h g → w'.heap[g]? = w.heap[g]?) (hown : ∀ g, g < w.heap.size → OwnW ι' h' g → OwnW ι h g) :
    At P call N ops base tmf Hf vf dops ι0 w0 H0 L' p' h' ι' a' w' :=
  ⟨hple, hlouds, hlast, hlen, hheap, hsim, htmps, hnone, A.emb.trans hemb, fun b hb => (hold b hb).trans (A.old b hb), hos.trans A.os, htape.trans A.tape, hout.trans A.output,
    Nat.le_trans A.size hsize, fun g hg hn => (hkeep g (Nat.lt_of_lt_of_le hg A.size) fun q => hn (A.own g hg q)).trans (A.kept g hg hn),
    fun g hg q => A.own g hg (hown g (Nat.lt_of_lt_of_le hg A.size) q)⟩

/-- One more has been carried out. -/
def more (L : Nat → Bool) (i : Nat) : Nat → Bool := fun k => k == i || L k
theorem more_same (L : Nat → Bool) (i : Nat) : more L i i = true := by simp [more]
theorem more_ne (L : Nat → Bool) {i k : Nat} (h : k ≠ i) : more L i k = L k := by simp [more, h]

/-- What is used of an operation that may come up now. -/
structure Rdy (ops : Array Oper) (dops : List DOp) (L : Nat → Bool) (i : Nat) (d : DOp) : Prop where
  get : dops[i]? = some d
  no : L i = false
  anc : ∀ j, j ∈ (ancs ops.toList).getD i [] → L j = true
  desc : ∀ k, k < dops.length → L k = true → i ∉ (ancs ops.toList).getD k []

theorem clash_left {x y : DOp} {t : Nat} (h : x.dst = some t) (hy : t ∈ looks y ∨ y.dst = some t) : clash x y = true := by
  unfold clash
  rw [h]
  rcases hy with hy | hy
  · simp [hy]
  · simp [hy]
theorem clash_right {x y : DOp} {t : Nat} (h : y.dst = some t) (hx : t ∈ looks x) : clash x y = true := by
  unfold clash
  rw [h]
  simp [hx]

theorem Rdy.tmps (C : Ctx P call N ops base tmf Hf vf dops) {i : Nat} {d : DOp} (R : Rdy ops dops L i d) {t : Nat} (ht : t ∈ looks d) : tmS dops vf L (tmf 0) dops.length t = tmf i t := by
  have hi := lt_of_some R.get
  rw [C.tmf_eq i (by omega)]
  have e1 : tmS dops vf L (tmf 0) dops.length t = tmS dops vf L (tmf 0) i t := by
    have := tmS_later (ops := dops) (vf := vf) (L := L) (tm := tmf 0) (x := t) i (dops.length - i) (fun k o h1 h2 hk hd => by
      by_cases e : k = i
      · rw [e]; exact R.no
      · rcases C.static i k d o (by omega) R.get hk with hs | ⟨hs, _⟩
        · cases hL : L k with
          | false => rfl
          | true => exact absurd hs (R.desc k (by omega) hL)
        · rw [clash_right hd ht] at hs; cases hs)
    rwa [Nat.add_sub_cancel' (by omega)] at this
  rw [e1]
  refine tmS_agree i fun k o hk ho hd => ?_
  rcases C.static k i o d hk ho R.get with hs | ⟨hs, _⟩
  · exact R.anc k hs
  · rw [clash_left hd (.inl ht)] at hs; cases hs

theorem Rdy.put (C : Ctx P call N ops base tmf Hf vf dops) {i : Nat} {d : DOp} (R : Rdy ops dops L i d) : tmS dops vf (more L i) (tmf 0) dops.length = Ab.put (tmS dops vf L (tmf 0) dops.length) d.dst (vf i) := by
  have hi := lt_of_some R.get
  funext t
  by_cases hd : d.dst = some t
  · rw [put_eq hd]
    have e1 := tmS_later (ops := dops) (vf := vf) (L := more L i) (tm := tmf 0) (x := t) (i + 1) (dops.length - (i + 1)) (fun k o h1 h2 hk hdk => by
      rw [more_ne L (show k ≠ i by omega)]
      rcases C.static i k d o (by omega) R.get hk with hs | ⟨hs, _⟩
      · cases hL : L k with
        | false => rfl
        | true => exact absurd hs (R.desc k (by omega) hL)
      · rw [clash_left hd (.inr hdk)] at hs; cases hs)
    rw [Nat.add_sub_cancel' (by omega)] at e1
    rw [e1]
    simp only [tmS, R.get, more_same, if_true]
    exact put_eq hd
  · rw [put_ne hd]
    refine tmS_agree _ fun k o hk ho hdk => ?_
    refine more_ne L fun e => ?_
    subst e
    rw [R.get] at ho; cases ho
    exact hd hdk

theorem Rdy.ev (C : Ctx P call N ops base tmf Hf vf dops) {i : Nat} {d : DOp} (R : Rdy ops dops L i d) : ∀ x ∈ opTmps d.op, ev (tmf i) x = ev (tmS dops vf L (tmf 0) dops.length) x := by
  intro x hx
  cases x with
  | tmp t =>
    have : t ∈ looks d := by
      unfold looks
      rw [List.mem_append]
      left
      rw [List.mem_filterMap]
      exact ⟨.tmp t, hx, rfl⟩
    exact (R.tmps C this).symm
  | _ => rfl
theorem Rdy.want (C : Ctx P call N ops base tmf Hf vf dops) {i : Nat} {d : DOp} (R : Rdy ops dops L i d) : Ab.want (tmS dops vf L (tmf 0) dops.length) d.guard = Ab.want (tmf i) d.guard := by
  cases hg : d.guard with
  | none => rfl
  | some g =>
    obtain ⟨t, b⟩ := g
    have : t ∈ looks d := by unfold looks; rw [hg]; simp
    simp only [Ab.want, R.tmps C this]

/-- A loud operation comes up: how the heap stands then. -/
theorem At.loud (C : Ctx P call N ops base tmf Hf vf dops) (A : At P call N ops base tmf Hf vf dops ι0 w0 H0 L p h ι a w) {i : Nat} {d : DOp} (R : Rdy ops dops L i d) (hk : kindOf d.op = .loud) :
    p ≤ i ∧ (∀ (k : Nat) d', p ≤ k → k < i → dops[k]? = some d' → kindOf d'.op ≠ .loud) ∧ (Hf i).length = h.length ∧
    (∀ b : Nat, (Hf i)[b]? = if base ≤ b ∧ i ≤ b - base ∧ b - base < dops.length ∧ L (b - base) = true then some Blk.dead else h[b]?) := by
  have hi := lt_of_some R.get
  have hpi : p ≤ i := by
    rcases Nat.lt_or_ge i p with q | q
    · have := (A.louds i d R.get hk).2 q
      rw [R.no] at this; cases this
    · exact q
  have hno : ∀ (k : Nat) d', p ≤ k → k < i → dops[k]? = some d' → kindOf d'.op ≠ .loud := by
    intro k d' h1 h2 hd' hl
    rcases C.static k i d' d h2 hd' R.get with hs | ⟨_, hs, _⟩
    · have := (A.louds k d' hd' hl).1 (R.anc k hs)
      omega
    · exact hs ⟨hl, hk⟩
  refine ⟨hpi, hno, by rw [A.hlen]; exact C.calm_len i hpi (by omega) hno, fun b => ?_⟩
  rw [C.calm i hpi (by omega) hno b, A.heap b]
  by_cases hs : base ≤ b ∧ b - base < dops.length
  · obtain ⟨k, rfl⟩ : ∃ k, b = base + k := ⟨b - base, by omega⟩
    rw [Nat.add_sub_cancel_left] at *
    by_cases h1 : k < i
    · rw [if_neg (show ¬ (base ≤ base + k ∧ i ≤ k ∧ k < dops.length ∧ L k = true) by omega)]
      by_cases h2 : p ≤ k
      · rw [if_pos ⟨by omega, h2, h1⟩]
        by_cases hL : L k = true
        · rw [if_pos ⟨by omega, h2, hs.2, hL⟩]
        · rw [if_neg (fun q => hL q.2.2.2)]
          obtain ⟨d', hd'⟩ := C.some_ hs.2
          have hnew : kindOf d'.op ≠ .new := by
            intro hn
            rcases C.static k i d' d h1 hd' R.get with q | ⟨_, _, q⟩
            · exact hL (R.anc k q)
            · exact q ⟨hn, hk⟩
          rw [(C.heap_step hd').2.2 (hno k d' h2 h1 hd') hnew, C.free hs.2 k (Nat.le_refl _), C.free hs.2 p h2]
      · rw [if_neg (by omega), if_neg (by omega)]
    · rw [if_neg (by omega)]
      by_cases hL : L k = true
      · rw [if_pos ⟨by omega, by omega, hs.2, hL⟩, C.free hs.2 p (by omega)]
      · rw [if_neg (fun q => hL q.2.2.2), if_neg (fun q => hL q.2.2.2)]
  · rw [if_neg (by omega), if_neg (by omega), if_neg (by omega)]

end
end Go.Ab
