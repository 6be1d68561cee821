/- The abstract machine, part 12 f: a drawn region as a whole. Own work. -/
import Derived.Test.YtbehlbabgomhfaaAbG
namespace Go.Ab
open Go

section
variable {P : Program} {call : CallF} {N : Nat} {ops : Array Oper} {base : Nat} {tmf : Nat → Tm} {Hf : Nat → Hp} {vf : Nat → Value} {dops : List DOp}
  {ι0 : Emb} {w0 : World} {H0 : Hp} {L : Nat → Bool} {p : Nat} {h : Hp} {ι : Emb} {a : Act} {w : World}

theorem Ctx.oper (C : Ctx P call N ops base tmf Hf vf dops) {i : Nat} (hi : i < dops.length) : ∃ o, ops.toList[i]? = some o := by
  rw [C.hm] at hi
  exact ⟨ops[i], by simp [hi]⟩
theorem unordered_mk {as : List (List Nat)} {i j : Nat} (h : i ≠ j) (h1 : j ∉ as.getD i []) (h2 : i ∉ as.getD j []) : unordered as i j = true := by
  unfold unordered
  have e1 : (as.getD i []).contains j = false := by rw [← Bool.not_eq_true]; intro q; exact h1 (List.contains_iff_mem.1 q)
  have e2 : (as.getD j []).contains i = false := by rw [← Bool.not_eq_true]; intro q; exact h2 (List.contains_iff_mem.1 q)
  rw [e1, e2]
  simp [h]

theorem At.last' (A : At P call N ops base tmf Hf vf dops ι0 w0 H0 L p h ι a w) (i : Nat) : p = 0 ∨ ∃ d, dops[p - 1]? = some d ∧ kindOf d.op = .loud ∧ more L i (p - 1) = true ∧ 0 < p := by
  rcases A.last with q | ⟨d, h1, h2, h3, h4⟩
  · exact .inl q
  · exact .inr ⟨d, h1, h2, by simp [more, h3], h4⟩
theorem At.louds' (A : At P call N ops base tmf Hf vf dops ι0 w0 H0 L p h ι a w) {i : Nat} {d : DOp} (hd : dops[i]? = some d) (hk : kindOf d.op ≠ .loud) :
    ∀ (k : Nat) d', dops[k]? = some d' → kindOf d'.op = .loud → (more L i k = true ↔ k < p) := by
  intro k d' hd' hl
  have : k ≠ i := fun e => by subst e; rw [hd] at hd'; cases hd'; exact hk hl
  rw [more_ne L this]
  exact A.louds k d' hd' hl
theorem At.heap' (C : Ctx P call N ops base tmf Hf vf dops) (A : At P call N ops base tmf Hf vf dops ι0 w0 H0 L p h ι a w) {i : Nat} {d : DOp} (R : Rdy ops dops L i d)
    (hstay : p ≤ i → (Hf (i + 1))[base + i]? = some Blk.dead) :
    ∀ b : Nat, h[b]? = if base ≤ b ∧ p ≤ b - base ∧ b - base < dops.length ∧ more L i (b - base) = true then (Hf (b - base + 1))[b]? else (Hf p)[b]? := by
  intro b
  rw [A.heap b]
  by_cases hb : b = base + i
  · subst hb
    rw [Nat.add_sub_cancel_left, R.no, more_same]
    rw [if_neg (by simp)]
    by_cases hp : p ≤ i
    · rw [if_pos ⟨by omega, hp, lt_of_some R.get, rfl⟩, hstay hp, C.free (lt_of_some R.get) p hp]
    · rw [if_neg (by omega)]
  · by_cases hbb : base ≤ b
    · rw [more_ne L (show b - base ≠ i by omega)]
    · rw [if_neg (by omega), if_neg (by omega)]

/-- An operation that leaves the heap as it is. -/
theorem At.quiet (C : Ctx P call N ops base tmf Hf vf dops) (A : At P call N ops base tmf Hf vf dops ι0 w0 H0 L p h ι a w) {i : Nat} {d : DOp} (R : Rdy ops dops L i d) (hk : kindOf d.op ≠ .loud)
    (hstay : p ≤ i → (Hf (i + 1))[base + i]? = some Blk.dead) {v' : Value} {ι' : Emb} {w' : World} (hd : ∀ t, d.dst = some t → t < N) (hv : VR ι' (vf i) v') (hs : Sim ι' h w') (hf : Fr ι h w ι' h w') :
    ∃ p' h' ι', At P call N ops base tmf Hf vf dops ι0 w0 H0 (more L i) p' h' ι' (a.put d.dst v') w' :=
  ⟨p, h, ι', A.next A.ple (A.louds' R.get hk) (A.last' i) A.hlen (A.heap' C R hstay) hs (by rw [R.put C]; exact (A.tmps.mono hf.emb).put hd hv)
    (fun k hk' hL => by
      have : k ≠ i := fun e => by subst e; rw [more_same] at hL; cases hL
      rw [more_ne L this] at hL
      rw [hf.old _ (A.room C hk')]
      exact A.none_ k hk' hL)
    hf.emb (fun b hb => by have hi := lt_of_some R.get; have := A.room C (k := 0) (by omega); exact hf.old b (by omega)) hf.os hf.tape hf.output hf.size hf.keep hf.own⟩

theorem again_eq {d : DOp} {s : St} {H : Hp} (hw : Ab.want s.1 d.guard = true) (h : again d s H = true) {v : Value} {H' : Hp} (hv : aop d.op s.1 s.2 = some (v, H')) : ∃ H'', aop d.op s.1 H = some (v, H'') := by
  unfold again at h
  rw [if_pos hw, hv] at h
  cases hq : aop d.op s.1 H with
  | none => rw [hq] at h; cases h
  | some q =>
    rw [hq] at h
    have := vsame_eq h
    subst this
    exact ⟨q.2, rfl⟩

/-- A reading gives what it gives in the text's order. -/
theorem At.read (C : Ctx P call N ops base tmf Hf vf dops) (A : At P call N ops base tmf Hf vf dops ι0 w0 H0 L p h ι a w) {i : Nat} {d : DOp} (R : Rdy ops dops L i d) (hk : kindOf d.op = .read)
    (hw : Ab.want (tmf i) d.guard = true) (hs : aop d.op (tmf i) (Hf i) = some (vf i, Hf (i + 1))) (hr : rdOk base dops.length d (tmf i) = true) : aop d.op (tmf i) h = some (vf i, h) := by
  have hi := lt_of_some R.get
  obtain ⟨_, hsame⟩ := read_same hk hs
  by_cases hun : ∃ (l : Nat) (dl : DOp), dops[l]? = some dl ∧ kindOf dl.op = .loud ∧ unordered (ancs ops.toList) i l = true
  · -- some loud operation is not ordered: the block is an old one
    obtain ⟨l0, dl0, hl0, hk0, hu0⟩ := hun
    have hslots : d.slots = [] := by
      cases hsl : d.slots with
      | nil => rfl
      | cons k r =>
        have := (C.slots i d R.get hk k (by rw [hsl]; simp)).2 l0 dl0 hl0 hk0
        rw [hu0] at this; cases this
    have hold : ∀ b, rblk d.op (tmf i) = some b → b < base ∨ base + dops.length ≤ b := by
      intro b hb
      unfold rdOk at hr
      rw [hb, hslots] at hr
      simpa using hr
    have hheap : ∀ b, rblk d.op (tmf i) = some b → h[b]? = (Hf p)[b]? := fun b hb => by
      rw [A.heap b, if_neg]
      have := hold b hb
      omega
    rcases Nat.lt_or_ge i p with hip | hpi
    · -- a later loud operation has been carried out
      rcases A.last with q | ⟨dl, h1, h2, h3, h4⟩
      · omega
      · have hne : p - 1 ≠ i := fun e => by rw [e, R.get] at h1; cases h1; rw [hk] at h2; cases h2
        have hu : unordered (ancs ops.toList) i (p - 1) = true := by
          have n1 : p - 1 ∉ (ancs ops.toList).getD i [] := fun q => by
            obtain ⟨o, ho⟩ := C.oper (i := i) (by omega)
            have := ancs_lt C.edges i o ho _ q
            omega
          have n2 := R.desc (p - 1) (by have := A.ple; omega) h3
          exact unordered_mk (fun e => hne e.symm) n1 n2
        have hag := (C.pairs i (p - 1) d dl R.get hk h1 h2 hu).2
        rw [show p - 1 + 1 = p by omega] at hag
        obtain ⟨H'', hq⟩ := again_eq hw hag hs
        obtain ⟨_, hsame2⟩ := read_same hk hq
        exact hsame2 h hheap
    · by_cases hno : ∀ (k : Nat) d', p ≤ k → k < i → dops[k]? = some d' → kindOf d'.op ≠ .loud
      · refine hsame h fun b hb => ?_
        rw [hheap b hb, C.calm i hpi (by omega) hno b, if_neg]
        have := hold b hb
        omega
      · -- the first loud operation that has not been carried out
        have hex : ∃ (l : Nat) (dl : DOp), p ≤ l ∧ l < i ∧ dops[l]? = some dl ∧ kindOf dl.op = .loud ∧ ∀ (k : Nat) d', p ≤ k → k < l → dops[k]? = some d' → kindOf d'.op ≠ .loud := by
          have hfind : ∀ n, p + n ≤ i → (∃ (k : Nat) (d' : DOp), p ≤ k ∧ k < p + n ∧ dops[k]? = some d' ∧ kindOf d'.op = .loud) →
              ∃ (l : Nat) (dl : DOp), p ≤ l ∧ l < i ∧ dops[l]? = some dl ∧ kindOf dl.op = .loud ∧ ∀ (k : Nat) d', p ≤ k → k < l → dops[k]? = some d' → kindOf d'.op ≠ .loud := by
            intro n
            induction n with
            | zero => rintro _ ⟨k, d', h1, h2, _⟩; omega
            | succ n ih =>
              intro hn hex
              by_cases hprev : ∃ (k : Nat) (d' : DOp), p ≤ k ∧ k < p + n ∧ dops[k]? = some d' ∧ kindOf d'.op = .loud
              · exact ih (by omega) hprev
              · obtain ⟨k, d', h1, h2, h3, h4⟩ := hex
                have hkn : k = p + n := by
                  rcases Nat.lt_or_ge k (p + n) with q | q
                  · exact absurd ⟨k, d', h1, q, h3, h4⟩ hprev
                  · omega
                subst hkn
                exact ⟨p + n, d', h1, by omega, h3, h4, fun k' d'' g1 g2 g3 g4 => hprev ⟨k', d'', g1, g2, g3, g4⟩⟩
          refine hfind (i - p) (by omega) ?_
          refine Classical.byContradiction fun hnex => hno fun k d' h1 h2 h3 h4 => hnex ⟨k, d', h1, by omega, h3, h4⟩
        obtain ⟨l, dl, hpl, hli, hdl, hkl, hfirst⟩ := hex
        have hLl : L l ≠ true := fun q => by have := (A.louds l dl hdl hkl).1 q; omega
        have hu : unordered (ancs ops.toList) i l = true := by
          have n1 : l ∉ (ancs ops.toList).getD i [] := fun q => hLl (R.anc l q)
          have n2 : i ∉ (ancs ops.toList).getD l [] := fun q => by
            obtain ⟨o, ho⟩ := C.oper (i := l) (by omega)
            have := ancs_lt C.edges l o ho _ q
            omega
          exact unordered_mk (by omega) n1 n2
        have hag := (C.pairs i l d dl R.get hk hdl hkl hu).1
        obtain ⟨H'', hq⟩ := again_eq hw hag hs
        obtain ⟨_, hsame2⟩ := read_same hk hq
        refine hsame2 h fun b hb => ?_
        rw [hheap b hb]
        rw [C.calm l hpl (by omega) hfirst b, if_neg]
        have := hold b hb
        omega
  · -- all loud operations are ordered
    have hord : ∀ (l : Nat) dl, dops[l]? = some dl → kindOf dl.op = .loud → l ≠ i → l ∈ (ancs ops.toList).getD i [] ∨ i ∈ (ancs ops.toList).getD l [] := by
      intro l dl hdl hkl hne
      refine Classical.byContradiction fun hn => hun ⟨l, dl, hdl, hkl, ?_⟩
      simp only [not_or] at hn
      exact unordered_mk (fun e => hne e.symm) hn.1 hn.2
    have hpi : p ≤ i := by
      rcases A.last with q | ⟨dl, h1, h2, h3, h4⟩
      · omega
      · have hne : p - 1 ≠ i := fun e => by rw [e, R.get] at h1; cases h1; rw [hk] at h2; cases h2
        rcases hord (p - 1) dl h1 h2 hne with q | q
        · obtain ⟨o, ho⟩ := C.oper (i := i) (by omega)
          have := ancs_lt C.edges i o ho _ q
          omega
        · exact absurd q (R.desc (p - 1) (by have := A.ple; omega) h3)
    have hno : ∀ (k : Nat) d', p ≤ k → k < i → dops[k]? = some d' → kindOf d'.op ≠ .loud := by
      intro k d' h1 h2 h3 h4
      rcases hord k d' h3 h4 (by omega) with q | q
      · have := (A.louds k d' h3 h4).1 (R.anc k q); omega
      · obtain ⟨o, ho⟩ := C.oper (i := k) (by omega)
        have := ancs_lt C.edges k o ho _ q
        omega
    refine hsame h fun b hb => ?_
    rw [A.heap b, C.calm i hpi (by omega) hno b]
    by_cases hs' : base ≤ b ∧ b - base < dops.length
    · have hsl : b - base ∈ d.slots := by
        unfold rdOk at hr
        rw [hb] at hr
        simp at hr
        rcases hr with q | q
        · omega
        · exact q
      have hanc := (C.slots i d R.get hk _ hsl).1
      have hLb := R.anc _ hanc
      have hlt : b - base < i := by
        obtain ⟨o, ho⟩ := C.oper (i := i) (by omega)
        exact ancs_lt C.edges i o ho _ hanc
      by_cases hp : p ≤ b - base
      · rw [if_pos ⟨hs'.1, hp, hs'.2, hLb⟩, if_pos ⟨hs'.1, hp, hlt⟩]
      · rw [if_neg (by omega), if_neg (by omega)]
    · rw [if_neg (by omega), if_neg (by omega)]

theorem At.step (C : Ctx P call N ops base tmf Hf vf dops) (A : At P call N ops base tmf Hf vf dops ι0 w0 H0 L p h ι a w) {Q : Exit → Act → World → Prop} {i : Nat} {o : Oper} {sl : List Nat} (ho : ops[i]? = some o)
    (R : Rdy ops dops L i (cOper P N ops sl o)) :
    wpOp P ops Q i (fun a' w' => ∃ p' h' ι', At P call N ops base tmf Hf vf dops ι0 w0 H0 (more L i) p' h' ι' a' w') a w := by
  have hi := lt_of_some R.get
  have hstep := (C.step i _ R.get).1
  rcases cOper_spec (P := P) (N := N) (o := o) (ops := ops) (sl := sl) with ⟨g, hg, hco, hd⟩ | ⟨h1, h2⟩
  rotate_left
  · exfalso
    unfold dstep at hstep
    rw [h1, h2] at hstep
    simp [Ab.want, kindOf, arun, aop] at hstep
  have hdop : (cOper P N ops sl o).op = cOp P o := by rw [hco]
  have hddst : (cOper P N ops sl o).dst = o.dst := by rw [hco]
  have hdg : (cOper P N ops sl o).guard = g := by rw [hco]
  generalize cOper P N ops sl o = d at *
  have hd' : ∀ t, d.dst = some t → t < N := by rw [hddst]; exact hd
  have hwant : Region.wanted o (yielded ops a.tmps) = Ab.want (tmf i) d.guard := by
    rw [← R.want C, hdg]
    exact (want_ok A.tmps hg).symm
  unfold wpOp
  simp only [ho, hwant]
  unfold dstep at hstep
  simp only at hstep
  by_cases hw : Ab.want (tmf i) d.guard = true
  · rw [if_pos hw] at hstep ⊢
    left
    cases hk : kindOf d.op with
    | pure =>
      rw [hk] at hstep
      simp only at hstep
      obtain ⟨e, hind⟩ := pure_same hk hstep
      have h1 : arun call (cOp P o) (tmS dops vf L (tmf 0) dops.length) h = some (vf i, h) := by
        rw [← hdop, ← arun_congr (R.ev C) h]
        have := hind h
        cases hq : d.op <;> rw [hq] at hk this <;> first | exact this | (cases hk; done)
      refine arun_ok C.ok A.sim A.tmps h1 fun v' ι' w' hv hs hf => ?_
      rw [← hddst]
      exact A.quiet C R (by rw [hk]; simp) (fun hp => by rw [e]; exact C.free hi i (Nat.le_refl _)) hd' hv hs hf
    | read =>
      rw [hk] at hstep
      simp only at hstep
      split at hstep
      · rename_i hr
        have h0 := A.read C R hk hw hstep hr
        have h1 : arun call (cOp P o) (tmS dops vf L (tmf 0) dops.length) h = some (vf i, h) := by
          rw [← hdop, ← arun_congr (R.ev C) h]
          cases hq : d.op <;> rw [hq] at hk h0 <;> first | exact h0 | (cases hk; done)
        refine arun_ok C.ok A.sim A.tmps h1 fun v' ι' w' hv hs hf => ?_
        rw [← hddst]
        exact A.quiet C R (by rw [hk]; simp) (fun hp => by rw [(read_same hk hstep).1]; exact C.free hi i (Nat.le_refl _)) hd' hv hs hf
      · cases hstep
    | new =>
      rw [hk] at hstep
      simp only at hstep
      obtain ⟨q, hq, e⟩ := Option.map_eq_some_iff.1 hstep
      have e1 := (Prod.mk.inj e).1
      have e2 := (Prod.mk.inj e).2
      have hq' : anew (cOp P o) (tmS dops vf L (tmf 0) dops.length) (base + i) = some (vf i, q.2) := by
        rw [← hdop, ← anew_congr (R.ev C), hq, ← e1]
      obtain ⟨sz, vs, c, t, v', hblk, hrun, hc, hl, hv⟩ := op_new (w := w) A.tmps hq'
      have hpi : p ≤ i := by
        rcases A.last with z | ⟨dl, g1, g2, g3, g4⟩
        · omega
        · rcases Nat.lt_or_ge i p with hlt | hge
          · have hne : p - 1 ≠ i := fun e => by rw [e, R.get] at g1; cases g1; rw [hk] at g2; cases g2
            rcases C.static i (p - 1) d dl (by omega) R.get g1 with z | ⟨_, _, z⟩
            · exact absurd z (R.desc (p - 1) (by have := A.ple; omega) g3)
            · exact absurd ⟨hk, g2⟩ z
          · exact hge
      have hdead : h[base + i]? = some Blk.dead := by
        rw [A.heap, Nat.add_sub_cancel_left, R.no, if_neg (by simp)]
        exact C.free hi p hpi
      obtain ⟨hsim, hown⟩ := A.sim.newSlot hdead (A.none_ i hi R.no) sz vs c t hc hl
      unfold Oper.wp
      rw [hrun, Oper.upon_value, ← hddst]
      have hle : ι.le (ι.put (base + i) ⟨⟨w.heap.size, 0, none⟩, c.size, sz⟩) := Emb.put_le (A.none_ i hi R.no)
      refine ⟨p, _, _, A.next A.ple (A.louds' R.get (by rw [hk]; simp)) (A.last' i) (by simpa using A.hlen) (fun b => ?_) hsim
        (by rw [R.put C]; exact (A.tmps.mono hle).put hd' (hv _ (Emb.put_same ..))) (fun k hk' hL => ?_) hle
        (fun b hb => Emb.put_other ι _ (by omega)) rfl rfl rfl (by simp) (fun g hg _ => Go.RowKit.Below.heap_alloc w _ _ hg) hown⟩
      · by_cases hb : b = base + i
        · subst hb
          rw [Nat.add_sub_cancel_left, more_same, if_pos ⟨by omega, hpi, hi, rfl⟩, ← e2, ← hblk]
          have h1 : base + i < h.length := lt_of_some hdead
          have h2 : base + i < (Hf i).length := lt_of_some (C.free hi i (Nat.le_refl _))
          simp [h1, h2]
        · rw [List.getElem?_set_ne (fun e => hb e.symm)]
          rw [A.heap b]
          by_cases hbb : base ≤ b
          · rw [more_ne L (show b - base ≠ i by omega)]
          · rw [if_neg (by omega), if_neg (by omega)]
      · have hne : k ≠ i := fun e => by subst e; rw [more_same] at hL; cases hL
        rw [more_ne L hne] at hL
        rw [Emb.put_other ι _ (by omega)]
        exact A.none_ k hk' hL
    | loud =>
      rw [hk] at hstep
      simp only at hstep
      obtain ⟨hpi, hno, hlen, hheap⟩ := A.loud C R hk
      have hfg : ∀ b : Nat, (Hf i)[b]? = h[b]? ∨ (Hf i)[b]? = some Blk.dead := by
        intro b
        rw [hheap b]
        split
        · exact .inr rfl
        · exact .inl rfl
      have hsimi := A.sim.forget hlen hfg
      have h1 : arun call (cOp P o) (tmS dops vf L (tmf 0) dops.length) (Hf i) = some (vf i, Hf (i + 1)) := by
        rw [← hdop, ← arun_congr (R.ev C)]; exact hstep
      refine arun_ok C.ok hsimi A.tmps h1 fun v' ι' w' hv hs hf => ?_
      rw [← hddst]
      -- the blocks that were left out come back
      obtain ⟨h', hlen', hget'⟩ : ∃ h' : Hp, h'.length = (Hf (i + 1)).length ∧ ∀ b : Nat, h'[b]? = if base ≤ b ∧ i + 1 ≤ b - base ∧ b - base < dops.length ∧ more L i (b - base) = true then (Hf (b - base + 1))[b]? else (Hf (i + 1))[b]? := by
        have hsome : ∀ b, b < (Hf (i + 1)).length → ∃ x, (if base ≤ b ∧ i + 1 ≤ b - base ∧ b - base < dops.length ∧ more L i (b - base) = true then (Hf (b - base + 1))[b]? else (Hf (i + 1))[b]?) = some x := by
          intro b hb
          split
          · rename_i hc
            have := C.heap_mono (b - base + 1 - (i + 1)) (i + 1) (by omega)
            rw [show i + 1 + (b - base + 1 - (i + 1)) = b - base + 1 by omega] at this
            exact ⟨_, List.getElem?_eq_getElem (Nat.lt_of_lt_of_le hb this)⟩
          · exact ⟨_, List.getElem?_eq_getElem hb⟩
        refine ⟨(List.range (Hf (i + 1)).length).map fun b => ((if base ≤ b ∧ i + 1 ≤ b - base ∧ b - base < dops.length ∧ more L i (b - base) = true then (Hf (b - base + 1))[b]? else (Hf (i + 1))[b]?)).getD .dead, by simp, fun b => ?_⟩
        by_cases hb : b < (Hf (i + 1)).length
        · obtain ⟨x, hx⟩ := hsome b hb
          simp only [List.getElem?_map, List.getElem?_range hb, Option.map_some, hx, Option.getD_some]
        · rw [List.getElem?_eq_none (by simpa using hb)]
          rw [if_neg]
          · rw [List.getElem?_eq_none (by omega)]
          · intro hc
            have h0 := lt_of_some (C.dead0 (b - base) hc.2.2.1)
            have := C.heap_mono (i + 1) 0 (by omega)
            rw [Nat.zero_add] at this
            omega
      have hre : ∀ b : Nat, h'[b]? = (Hf (i + 1))[b]? ∨ ((Hf (i + 1))[b]? = some Blk.dead ∧ (Hf i)[b]? = some Blk.dead ∧ h'[b]? = h[b]?) := by
        intro b
        rw [hget' b]
        split
        · rename_i hc
          right
          have hk' : b - base ≠ i := by omega
          have hL : L (b - base) = true := by rw [← more_ne L hk']; exact hc.2.2.2
          have hdead : (Hf i)[b]? = some Blk.dead := by rw [hheap b, if_pos ⟨hc.1, by omega, hc.2.2.1, hL⟩]
          refine ⟨hf.dead b hdead, hdead, ?_⟩
          rw [A.heap b, if_pos ⟨hc.1, by omega, hc.2.2.1, hL⟩]
        · exact .inl rfl
      obtain ⟨hsim', hown'⟩ := A.sim.restore hs hf hfg hlen' hre
      refine ⟨i + 1, h', ι', A.next (by omega) (fun k d' hd' hl => ?_) (.inr ⟨d, by simpa using R.get, hk, by simp [more_same], by omega⟩) hlen' hget' hsim'
        (by rw [R.put C]; exact (A.tmps.mono hf.emb).put (by assumption) hv) (fun k hk' hL => ?_) hf.emb (fun b hb => ?_) hf.os hf.tape hf.output hf.size (fun g hg hn => ?_) hown'⟩
      · by_cases hki : k = i
        · subst hki; simp [more_same]
        · rw [more_ne L hki, A.louds k d' hd' hl]
          constructor
          · intro q; omega
          · intro q
            rcases Nat.lt_or_ge k p with z | z
            · exact z
            · exact absurd hl (hno k d' z (by omega) hd')
      · have hne : k ≠ i := fun e => by subst e; rw [more_same] at hL; cases hL
        rw [more_ne L hne] at hL
        rw [hf.old _ (by rw [hlen]; exact A.room C hk')]
        exact A.none_ k hk' hL
      · have := A.room C hi
        exact hf.old b (by rw [hlen]; omega)
      · refine hf.keep g hg ?_
        rintro ⟨b, K, hK, hblk, hob⟩
        refine hn ⟨b, K, hK, hblk, ?_⟩
        rcases hfg b with e | e
        · rwa [owned_eq e] at hob
        · rw [owned_dead e] at hob; cases hob
  · rw [if_neg hw] at hstep ⊢
    have e1 := (Prod.mk.inj (Option.some.inj hstep)).1
    have e2 := (Prod.mk.inj (Option.some.inj hstep)).2
    rw [← hddst]
    by_cases hk : kindOf d.op = .loud
    · obtain ⟨hpi, hno, hlen, hheap⟩ := A.loud C R hk
      refine ⟨i + 1, h, ι, A.next (by omega) (fun k d' hd' hl => ?_) (.inr ⟨d, by simpa using R.get, hk, by simp [more_same], by omega⟩) (by rw [← e2]; exact hlen.symm) (fun b => ?_) A.sim
        (by rw [R.put C]; exact A.tmps.put (by assumption) (by rw [← e1]; exact undef_vr ι)) (fun k hk' hL => ?_) (Emb.le.refl ι) (fun _ _ => rfl) rfl rfl rfl (Nat.le_refl _) (fun _ _ _ => rfl) (fun _ _ q => q)⟩
      · by_cases hki : k = i
        · subst hki; simp [more_same]
        · rw [more_ne L hki, A.louds k d' hd' hl]
          constructor
          · intro q; omega
          · intro q
            rcases Nat.lt_or_ge k p with z | z
            · exact z
            · exact absurd hl (hno k d' z (by omega) hd')
      · rw [← e2]
        by_cases hc : base ≤ b ∧ i + 1 ≤ b - base ∧ b - base < dops.length ∧ more L i (b - base) = true
        · rw [if_pos hc]
          have hk' : b - base ≠ i := by omega
          have hL : L (b - base) = true := by rw [← more_ne L hk']; exact hc.2.2.2
          rw [A.heap b, if_pos ⟨hc.1, by omega, hc.2.2.1, hL⟩]
        · rw [if_neg hc, hheap b]
          rw [if_neg]
          intro q
          have hk' : b - base ≠ i := fun e => by rw [e, R.no] at q; exact absurd q.2.2.2 (by simp)
          exact hc ⟨q.1, by omega, q.2.2.1, by rw [more_ne L hk']; exact q.2.2.2⟩
      · have hne : k ≠ i := fun e => by subst e; rw [more_same] at hL; cases hL
        rw [more_ne L hne] at hL
        exact A.none_ k hk' hL
    · exact A.quiet C R hk (fun hp => by rw [← e2]; exact C.free hi i (Nat.le_refl _)) (by assumption) (by rw [← e1]; exact undef_vr ι) A.sim (Fr.refl ..)

end
end Go.Ab
