/- The abstract machine, part 12: regions that draw their order, first half. Own work. -/
import Derived.Test.YtbehlbabgomhfaaAb11
namespace Go.Ab
open Go

/-! ### Some blocks of the heap are forgotten for a while -/
theorem Sim.forget {ι : Emb} {H H' : Hp} {w : World} (s : Sim ι H w) (hl : H'.length = H.length) (h : ∀ b : Nat, H'[b]? = H[b]? ∨ H'[b]? = some Blk.dead) : Sim ι H' w := by
  have hlive : ∀ b, (H'.owned b = true ∨ ∃ z v vs, H'[b]? = some (.ro z (v :: vs))) → H'[b]? = H[b]? := by
    intro b hb
    rcases h b with e | e
    · exact e
    · rw [owned_dead e, e] at hb; simp at hb
  refine ⟨fun b vs hb => ?_, fun b sz vs hb => ?_, fun b sz vs hb => ?_, fun b es hb => ?_, fun b L hL => by rw [hl]; exact s.dom b L hL, fun b b' L L' hne ho ho' hL hL' => ?_⟩
  · rcases h b with e | e
    · rw [cells_eq e] at hb; exact s.cells b vs hb
    · rw [cells_dead e] at hb; cases hb
  · rcases h b with e | e
    · rw [e] at hb; exact s.rosz b sz vs hb
    · rw [e] at hb; cases hb
  · rcases h b with e | e
    · rw [e] at hb; exact s.own b sz vs hb
    · rw [e] at hb; cases hb
  · rcases h b with e | e
    · rw [e] at hb; exact s.maps b es hb
    · rw [e] at hb; cases hb
  · have e1 := hlive b (.inl ho)
    have e2 := hlive b' ho'
    rw [owned_eq e1] at ho
    rw [owned_eq e2, e2] at ho'
    exact s.sep b b' L L' hne ho ho' hL hL'

theorem live_or {H : Hp} {b : Nat} {x : Blk} (h : H[b]? = some x) : (H.owned b = true ∨ ∃ z v vs, H[b]? = some (.ro z (v :: vs))) ∨ x = .dead ∨ ∃ z, x = .ro z [] := by
  cases x with
  | dead => exact .inr (.inl rfl)
  | ro z vs =>
    cases vs with
    | nil => exact .inr (.inr ⟨z, rfl⟩)
    | cons v vs => exact .inl (.inr ⟨z, v, vs, h⟩)
  | rw sz vs => exact .inl (.inl (owned_of_rw h))
  | mp es => exact .inl (.inl (owned_of_mp h))

/-- Blocks that were forgotten come back. -/
theorem Sim.restore {ι ι1 : Emb} {h hi h1 h1' : Hp} {w w1 : World} (s : Sim ι h w) (s1 : Sim ι1 h1 w1) (f : Fr ι hi w ι1 h1 w1) (hfg : ∀ b : Nat, hi[b]? = h[b]? ∨ hi[b]? = some Blk.dead) (hlen : h1'.length = h1.length)
    (hre : ∀ b : Nat, h1'[b]? = h1[b]? ∨ (h1[b]? = some Blk.dead ∧ hi[b]? = some Blk.dead ∧ h1'[b]? = h[b]?)) :
    Sim ι1 h1' w1 ∧ ∀ g, g < w.heap.size → OwnW ι1 h1' g → OwnW ι h g := by
  -- the world's block of a block that comes back is as it was
  have hkeep : ∀ b L, hi[b]? = some Blk.dead → ι b = some L → (h.owned b = true ∨ ∃ z v vs, h[b]? = some (.ro z (v :: vs))) → w1.heap[L.base.block]? = w.heap[L.base.block]? := by
    intro b L hd hL hlive
    refine f.keep _ (s.live_lt hL hlive) ?_
    rintro ⟨b2, L2, hL2, hblk, ho2⟩
    have hne : b2 ≠ b := fun e => by subst e; rw [owned_dead hd] at ho2; cases ho2
    have e2 : hi[b2]? = h[b2]? := (hfg b2).resolve_right fun e => by rw [owned_dead e] at ho2; cases ho2
    rw [owned_eq e2] at ho2
    exact s.sep b2 b L2 L hne ho2 hlive hL2 hL hblk
  have hown' : ∀ b L, ι1 b = some L → h1.owned b = true → L.base.block < w.heap.size → ∃ b2 L2, hi[b2]? ≠ some Blk.dead ∧ ι b2 = some L2 ∧ L2.base.block = L.base.block ∧ h.owned b2 = true := by
    intro b L hL ho hlt
    obtain ⟨b2, L2, hL2, hblk, ho2⟩ := f.own _ hlt ⟨b, L, hL, rfl, ho⟩
    have hnd : hi[b2]? ≠ some Blk.dead := fun e => by rw [owned_dead e] at ho2; cases ho2
    have e2 : hi[b2]? = h[b2]? := (hfg b2).resolve_right hnd
    rw [owned_eq e2] at ho2
    exact ⟨b2, L2, hnd, hL2, hblk, ho2⟩
  have hlive1 : ∀ b, (h1'.owned b = true ∨ ∃ z v vs, h1'[b]? = some (.ro z (v :: vs))) →
      (h1'[b]? = h1[b]? ∧ (h1.owned b = true ∨ ∃ z v vs, h1[b]? = some (.ro z (v :: vs)))) ∨
      (hi[b]? = some Blk.dead ∧ h1'[b]? = h[b]? ∧ (h.owned b = true ∨ ∃ z v vs, h[b]? = some (.ro z (v :: vs)))) := by
    intro b hb
    rcases hre b with e | ⟨e1, e2, e3⟩
    · rw [owned_eq e, e] at hb; exact .inl ⟨e, hb⟩
    · rw [owned_eq e3, e3] at hb; exact .inr ⟨e2, e3, hb⟩
  have hsep1 : ∀ b b' L L', hi[b]? = some Blk.dead → (h.owned b = true ∨ ∃ z v vs, h[b]? = some (.ro z (v :: vs))) → ι b = some L →
      h1.owned b' = true → ι1 b' = some L' → L.base.block ≠ L'.base.block := by
    intro b b' L L' hd hlive hL ho' hL' hblk
    have hlt := s.live_lt hL hlive
    obtain ⟨b2, L2, hnd, hL2, hb2, ho2⟩ := hown' b' L' hL' ho' (hblk ▸ hlt)
    have hne : b2 ≠ b := fun e => hnd (e ▸ hd)
    exact s.sep b2 b L2 L hne ho2 hlive hL2 hL (hb2.trans hblk.symm)
  have hι : ∀ b x, h[b]? = some x → x ≠ .dead → ∃ L, ι b = some L := by
    intro b x hb hx
    cases x with
    | dead => exact absurd rfl hx
    | ro z vs => obtain ⟨L, hL, _⟩ := s.rosz b z vs hb; exact ⟨L, hL⟩
    | rw sz vs => obtain ⟨L, _, _, hL, _⟩ := s.own b sz vs hb; exact ⟨L, hL⟩
    | mp es => obtain ⟨L, _, _, hL, _⟩ := s.maps b es hb; exact ⟨L, hL⟩
  refine ⟨⟨fun b vs hb => ?_, fun b sz vs hb => ?_, fun b sz vs hb => ?_, fun b es hb => ?_, fun b L hL => by rw [hlen]; exact s1.dom b L hL, fun b b' L L' hne ho ho' hL hL' => ?_⟩, fun g hg hw => ?_⟩
  · rcases hre b with e | ⟨e1, e2, e3⟩
    · rw [cells_eq e] at hb; exact s1.cells b vs hb
    · rw [cells_eq e3] at hb
      obtain ⟨L, hL, hc⟩ := s.cells b vs hb
      refine ⟨L, f.emb b L hL, fun j v hv => ?_⟩
      obtain ⟨v', hv', hr⟩ := hc j v hv
      refine ⟨v', ?_, hr.mono f.emb⟩
      rw [← hv']
      refine World.cell?_of_block (w := w) ?_
      rw [add_block]
      refine hkeep b L e2 hL ?_
      unfold Hp.cells at hb
      cases hx : h[b]? with
      | none => rw [hx] at hb; cases hb
      | some x =>
        rcases live_or hx with hl | rfl | ⟨z, rfl⟩
        · rwa [← hx]
        · rw [hx] at hb; cases hb
        · rw [hx] at hb; simp [Blk.cells] at hb; subst hb; simp at hv
  · rcases hre b with e | ⟨e1, e2, e3⟩
    · rw [e] at hb; exact s1.rosz b sz vs hb
    · rw [e3] at hb
      obtain ⟨L, hL, h2⟩ := s.rosz b sz vs hb
      exact ⟨L, f.emb b L hL, h2⟩
  · rcases hre b with e | ⟨e1, e2, e3⟩
    · rw [e] at hb; exact s1.own b sz vs hb
    · rw [e3] at hb
      obtain ⟨L, cur, t, hL, h2, h3, h4, h5⟩ := s.own b sz vs hb
      exact ⟨L, cur, t, f.emb b L hL, h2, h3, by rw [hkeep b L e2 hL (.inl (owned_of_rw hb))]; exact h4, h5⟩
  · rcases hre b with e | ⟨e1, e2, e3⟩
    · rw [e] at hb; exact s1.maps b es hb
    · rw [e3] at hb
      obtain ⟨L, en, cl, hL, h2, h3⟩ := s.maps b es hb
      exact ⟨L, en, cl, f.emb b L hL, by rw [hkeep b L e2 hL (.inl (owned_of_mp hb))]; exact h2, h3.mono f.emb⟩
  · rcases hlive1 b (.inl ho) with ⟨e, hl⟩ | ⟨e2, e3, hl⟩
    · rw [owned_eq e] at ho
      rcases hlive1 b' ho' with ⟨e', hl'⟩ | ⟨e2', e3', hl'⟩
      · exact s1.sep b b' L L' hne ho hl' hL hL'
      · -- b' comes back
        have hx : ∃ L2, ι b' = some L2 := by
          rcases hl' with hq | ⟨z, v, vs, hq⟩
          · unfold Hp.owned at hq
            cases hx : h[b']? with
            | none => rw [hx] at hq; cases hq
            | some x => exact hι b' x hx (fun e => by subst e; rw [hx] at hq; cases hq)
          · exact hι b' _ hq (by simp)
        obtain ⟨L2, hL2⟩ := hx
        have := f.emb b' L2 hL2
        rw [hL'] at this; cases this
        exact fun q => hsep1 b' b L' L e2' hl' hL2 ho hL q.symm
    · rw [owned_eq e3] at ho
      have hx : ∃ L2, ι b = some L2 := by
        unfold Hp.owned at ho
        cases hx : h[b]? with
        | none => rw [hx] at ho; cases ho
        | some x => exact hι b x hx (fun e => by subst e; rw [hx] at ho; cases ho)
      obtain ⟨L2, hL2⟩ := hx
      have := f.emb b L2 hL2
      rw [hL] at this; cases this
      rcases hlive1 b' ho' with ⟨e', hl'⟩ | ⟨e2', e3', hl'⟩
      · rcases hl' with ho2 | ⟨z, v, vs, hro⟩
        · exact hsep1 b b' L L' e2 hl hL2 ho2 hL'
        · have hroi := f.ro b' z _ hro
          have hroh : h[b']? = some (.ro z (v :: vs)) := by
            rcases hfg b' with q | q
            · rw [← q]; exact hroi
            · rw [q] at hroi; cases hroi
          obtain ⟨L3, hL3, _⟩ := s.rosz b' z _ hroh
          have := f.emb b' L3 hL3
          rw [hL'] at this; cases this
          exact s.sep b b' L L' hne ho (.inr ⟨z, v, vs, hroh⟩) hL2 hL3
      · have hx' : ∃ L3, ι b' = some L3 := by
          rcases hl' with hq | ⟨z, v, vs, hq⟩
          · unfold Hp.owned at hq
            cases hx : h[b']? with
            | none => rw [hx] at hq; cases hq
            | some x => exact hι b' x hx (fun e => by subst e; rw [hx] at hq; cases hq)
          · exact hι b' _ hq (by simp)
        obtain ⟨L3, hL3⟩ := hx'
        have := f.emb b' L3 hL3
        rw [hL'] at this; cases this
        exact s.sep b b' L L' hne ho hl' hL2 hL3
  · obtain ⟨b, L, hL, hblk, ho⟩ := hw
    rcases hlive1 b (.inl ho) with ⟨e, hl⟩ | ⟨e2, e3, hl⟩
    · rw [owned_eq e] at ho
      obtain ⟨b2, L2, _, hL2, hb2, ho2⟩ := hown' b L hL ho (hblk ▸ hg)
      exact ⟨b2, L2, hL2, hb2.trans hblk, ho2⟩
    · rw [owned_eq e3] at ho
      have hx : ∃ L2, ι b = some L2 := by
        unfold Hp.owned at ho
        cases hx : h[b]? with
        | none => rw [hx] at ho; cases ho
        | some x => exact hι b x hx (fun e => by subst e; rw [hx] at ho; cases ho)
      obtain ⟨L2, hL2⟩ := hx
      have := f.emb b L2 hL2
      rw [hL] at this; cases this
      exact ⟨b, L, hL2, hblk, ho⟩

/-- A new row at a place that was kept free. -/
theorem Sim.newSlot {ι : Emb} {H : Hp} {w : World} (s : Sim ι H w) {k : Nat} (hk : H[k]? = some Blk.dead) (hι : ι k = none) (sz : Nat) (vs : List Value) (c : Array Value) (t : TypeId)
    (hc : ∀ (j : Nat) (v : Value), vs[j]? = some v → ∃ v', c[j]? = some v' ∧ VR ι v v') (hl : vs.length ≤ c.size) :
    Sim (ι.put k ⟨⟨w.heap.size, 0, none⟩, c.size, sz⟩) (H.set k (.rw sz vs)) (w.alloc (.cells c t)) ∧ ∀ g, g < w.heap.size → OwnW (ι.put k ⟨⟨w.heap.size, 0, none⟩, c.size, sz⟩) (H.set k (.rw sz vs)) g → OwnW ι H g := by
  have hklt : k < H.length := (List.getElem?_eq_some_iff.1 hk).1
  have hle : ι.le (ι.put k ⟨⟨w.heap.size, 0, none⟩, c.size, sz⟩) := Emb.put_le hι
  have hnew : (H.set k (Blk.rw sz vs))[k]? = some (.rw sz vs) := by simp [hklt]
  have hold : ∀ b, b ≠ k → (H.set k (Blk.rw sz vs))[b]? = H[b]? := fun b hb => List.getElem?_set_ne (fun e => hb e.symm)
  have hheap : (w.alloc (.cells c t)).heap[w.heap.size]? = some (.cells c t (0, 0)) := by show (w.heap.push _)[w.heap.size]? = _; simp
  refine ⟨Sim.step s k hle (fun b L hb h => by rwa [Emb.put_other ι _ hb] at h) (fun b L h => ?_) (fun b hb => .inl (hold b hb)) (fun b L _ hL _ hlive => ?_) (fun us h => ?_)
    (fun sz' us h => ?_) (fun es h => ?_) (fun _ b L0 L hb _ hlive h0 hL => ?_) (fun v us h => ?_), fun g hg h => ?_⟩
  · by_cases e : b = k
    · subst e; simpa using hklt
    · rw [Emb.put_other ι _ e] at h; simpa using s.dom b L h
  · exact Go.RowKit.Below.heap_alloc w _ _ (s.live_lt hL hlive)
  · have : us = vs := by simpa [Hp.cells, hnew, Blk.cells] using h.symm
    subst this
    refine ⟨_, Emb.put_same .., fun j v hv => ?_⟩
    obtain ⟨v', h1, h2⟩ := hc j v hv
    refine ⟨v', ?_, h2.mono hle⟩
    rw [add_none, Nat.zero_add, World.cell?_alloc_new]; exact h1
  · rw [hnew] at h; cases h
    exact ⟨_, c, t, Emb.put_same .., rfl, rfl, hheap, by simp, hl⟩
  · rw [hnew] at h; cases h
  · rw [Emb.put_same] at h0; cases h0
    exact Nat.ne_of_gt (s.live_lt hL hlive)
  · rw [hnew] at h; cases h
  · obtain ⟨b, L, hL, hb, ho⟩ := h
    by_cases e : b = k
    · subst e; rw [Emb.put_same] at hL; cases hL; simp at hb; omega
    · rw [Emb.put_other ι _ e] at hL
      exact ⟨b, L, hL, hb, by rwa [owned_eq (hold b e)] at ho⟩

/-- Room is kept for new blocks. -/
theorem Sim.room {ι : Emb} {H : Hp} {w : World} (s : Sim ι H w) (m : Nat) : Sim ι (H ++ List.replicate m .dead) w := by
  have hg : ∀ b : Nat, (H ++ List.replicate m Blk.dead)[b]? = H[b]? ∨ ((H ++ List.replicate m Blk.dead)[b]? = some Blk.dead) ∨ (H ++ List.replicate m Blk.dead)[b]? = none := by
    intro b
    by_cases h : b < H.length
    · exact .inl (List.getElem?_append_left h)
    · by_cases h2 : b < H.length + m
      · right; left; rw [List.getElem?_append_right (by omega), List.getElem?_replicate, if_pos (by omega)]
      · right; right; rw [List.getElem?_eq_none (by simp; omega)]
  have hsome : ∀ (b : Nat) x, (H ++ List.replicate m Blk.dead)[b]? = some x → x ≠ .dead → H[b]? = some x := by
    intro b x hb hx
    rcases hg b with e | e | e
    · rw [← e]; exact hb
    · rw [e] at hb; cases hb; exact absurd rfl hx
    · rw [e] at hb; cases hb
  have hcells : ∀ b vs, Hp.cells (H ++ List.replicate m Blk.dead) b = some vs → H.cells b = some vs := by
    intro b vs hb
    unfold Hp.cells at hb ⊢
    cases hx : (H ++ List.replicate m Blk.dead)[b]? with
    | none => rw [hx] at hb; cases hb
    | some x =>
      rw [hx] at hb
      by_cases e : x = .dead
      · subst e; cases hb
      · rw [hsome b x hx e]; exact hb
  have hown : ∀ b, Hp.owned (H ++ List.replicate m Blk.dead) b = true → H.owned b = true := by
    intro b hb
    unfold Hp.owned at hb ⊢
    cases hx : (H ++ List.replicate m Blk.dead)[b]? with
    | none => rw [hx] at hb; cases hb
    | some x =>
      rw [hx] at hb
      by_cases e : x = .dead
      · subst e; cases hb
      · rw [hsome b x hx e]; exact hb
  refine ⟨fun b vs hb => s.cells b vs (hcells b vs hb), fun b sz vs hb => s.rosz b sz vs (hsome b _ hb (by simp)), fun b sz vs hb => s.own b sz vs (hsome b _ hb (by simp)),
    fun b es hb => s.maps b es (hsome b _ hb (by simp)), fun b L hL => by have := s.dom b L hL; simp; omega, fun b b' L L' hne ho ho' hL hL' => s.sep b b' L L' hne (hown b ho) ?_ hL hL'⟩
  rcases ho' with h | ⟨z, v, vs, h⟩
  · exact .inl (hown b' h)
  · exact .inr ⟨z, v, vs, hsome b' _ h (by simp)⟩

end Go.Ab
