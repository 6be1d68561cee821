/- The abstract machine, part 2: what a new block, a store, an append do to 'Sim'. Own work. -/
import Derived.Test.YtbehlbabgomhfaaAb1
import Derived.Laws.AppendOwn
namespace Go.Ab
open Go

def Emb.put (ι : Emb) (n : Nat) (L : Loc) : Emb := fun b => if b = n then some L else ι b
theorem Emb.put_same (ι : Emb) (n : Nat) (L : Loc) : (ι.put n L) n = some L := by simp [Emb.put]
theorem Emb.put_other (ι : Emb) {n b : Nat} (L : Loc) (h : b ≠ n) : (ι.put n L) b = ι b := by simp [Emb.put, h]
theorem Emb.put_le {ι : Emb} {n : Nat} {L : Loc} (h : ι n = none) : ι.le (ι.put n L) := fun b K hb => by
  rw [Emb.put_other ι L (fun e => by subst e; rw [h] at hb; cases hb)]; exact hb
theorem Sim.new_none {ι : Emb} {H : Hp} {w : World} (s : Sim ι H w) : ι H.length = none := by
  cases h : ι H.length with
  | none => rfl
  | some L => exact absurd (s.dom _ _ h) (Nat.lt_irrefl _)

theorem cells_eq {H H' : Hp} {b : Nat} (h : H'[b]? = H[b]?) : H'.cells b = H.cells b := by unfold Hp.cells; rw [h]
theorem owned_eq {H H' : Hp} {b : Nat} (h : H'[b]? = H[b]?) : H'.owned b = H.owned b := by unfold Hp.owned; rw [h]
theorem cells_dead {H : Hp} {b : Nat} (h : H[b]? = some .dead) : H.cells b = none := by unfold Hp.cells; rw [h]; rfl
theorem owned_dead {H : Hp} {b : Nat} (h : H[b]? = some .dead) : H.owned b = false := by unfold Hp.owned; rw [h]; rfl

/-- One block changes or comes; the others stay, or die. -/
theorem Sim.step {ι ι' : Emb} {H H' : Hp} {w w' : World} (s : Sim ι H w) (b0 : Nat) (hle : ι.le ι')
    (hι : ∀ b L, b ≠ b0 → ι' b = some L → ι b = some L) (hdom : ∀ b L, ι' b = some L → b < H'.length)
    (hH : ∀ b, b ≠ b0 → H'[b]? = H[b]? ∨ H'[b]? = some .dead)
    (hw : ∀ b L, b ≠ b0 → ι b = some L → H'[b]? = H[b]? → H.owned b = true ∨ (∃ z v vs, H[b]? = some (.ro z (v :: vs))) → w'.heap[L.base.block]? = w.heap[L.base.block]?)
    (hcells : ∀ vs, H'.cells b0 = some vs → ∃ L, ι' b0 = some L ∧ ∀ (j : Nat) (v : Value), vs[j]? = some v → ∃ v', w'.cell? (L.base.add j) = some v' ∧ VR ι' v v')
    (hown : ∀ sz vs, H'[b0]? = some (.rw sz vs) → ∃ L cur t, ι' b0 = some L ∧ L.base.spot = none ∧ L.sz = sz ∧ w'.heap[L.base.block]? = some (.cells cur t (0, 0)) ∧
      L.base.off + L.ext ≤ cur.size ∧ vs.length ≤ L.ext)
    (hmaps : ∀ es, H'[b0]? = some (.mp es) → ∃ L entries clock, ι' b0 = some L ∧ w'.heap[L.base.block]? = some (.map entries clock) ∧ MapRel ι' es entries clock)
    (hsep : H'.owned b0 = true → ∀ b L0 L, b ≠ b0 → H'[b]? = H[b]? → (H.owned b = true ∨ ∃ z v vs, H[b]? = some (.ro z (v :: vs))) → ι' b0 = some L0 → ι b = some L → L0.base.block ≠ L.base.block)
    (hnew : ∀ z vs, H'[b0]? ≠ some (.ro z vs)) : Sim ι' H' w' := by
  refine ⟨fun b vs hb => ?_, fun b sz vs hb => ?_, fun b sz vs hb => ?_, fun b es hb => ?_, hdom, fun b b' L L' hne ho ho' hL hL' => ?_⟩
  · by_cases e : b = b0
    · subst e; exact hcells vs hb
    · rcases hH b e with h | h
      · rw [cells_eq h] at hb
        obtain ⟨L, hL, hc⟩ := s.cells b vs hb
        refine ⟨L, hle b L hL, fun j v hv => ?_⟩
        obtain ⟨v', hv', hr⟩ := hc j v hv
        refine ⟨v', ?_, hr.mono hle⟩
        rw [← hv']
        refine World.cell?_of_block (w := w) ?_
        rw [add_block]
        refine hw b L e hL h ?_
        unfold Hp.cells at hb
        cases hx : H[b]? with
        | none => simp [hx] at hb
        | some x =>
          cases x with
          | dead => simp [hx, Blk.cells] at hb
          | ro z us =>
            right
            simp [hx, Blk.cells] at hb
            subst hb
            cases us with
            | nil => simp at hv
            | cons u us => exact ⟨z, u, us, rfl⟩
          | rw sz us => exact .inl (owned_of_rw hx)
          | mp es => simp [hx, Blk.cells] at hb
      · rw [cells_dead h] at hb; cases hb
  · by_cases e : b = b0
    · subst e; exact absurd hb (hnew sz vs)
    · rcases hH b e with h | h
      · rw [h] at hb
        obtain ⟨L, h1, h2⟩ := s.rosz b sz vs hb
        exact ⟨L, hle b L h1, h2⟩
      · rw [h] at hb; cases hb
  · by_cases e : b = b0
    · subst e; exact hown sz vs hb
    · rcases hH b e with h | h
      · rw [h] at hb
        obtain ⟨L, cur, t, h1, h2, h3, h4, h5⟩ := s.own b sz vs hb
        refine ⟨L, cur, t, hle b L h1, h2, h3, ?_, h5⟩
        rw [← h4]
        exact hw b L e h1 h (.inl (owned_of_rw hb))
      · rw [h] at hb; cases hb
  · by_cases e : b = b0
    · subst e; exact hmaps es hb
    · rcases hH b e with h | h
      · rw [h] at hb
        obtain ⟨L, en, cl, h1, h2, h3⟩ := s.maps b es hb
        refine ⟨L, en, cl, hle b L h1, ?_, h3.mono hle⟩
        rw [← h2]
        exact hw b L e h1 h (.inl (owned_of_mp hb))
      · rw [h] at hb; cases hb
  · have old : ∀ c, c ≠ b0 → (H'.owned c = true ∨ ∃ z v vs, H'[c]? = some (.ro z (v :: vs))) → H'[c]? = H[c]? ∧ (H.owned c = true ∨ ∃ z v vs, H[c]? = some (.ro z (v :: vs))) := by
      intro c hc h
      rcases hH c hc with e | e
      · refine ⟨e, ?_⟩
        rw [owned_eq e] at h
        rw [e] at h
        exact h
      · rw [owned_dead e] at h
        rw [e] at h
        simp at h
    by_cases e : b = b0
    · subst e
      obtain ⟨h1, h2⟩ := old b' (fun e => hne e.symm) ho'
      exact hsep ho b' L L' (fun e => hne e.symm) h1 h2 hL (hι b' L' (fun e => hne e.symm) hL')
    · obtain ⟨h1, h2⟩ := old b e (.inl ho)
      by_cases e' : b' = b0
      · subst e'
        exact fun x => hsep (ho'.resolve_right fun ⟨z, v, vs, h⟩ => hnew z _ h) b L' L e h1 h2 hL' (hι b L e hL) x.symm
      · obtain ⟨h1', h2'⟩ := old b' e' ho'
        rw [owned_eq h1] at ho
        exact s.sep b b' L L' hne ho h2' (hι b L e hL) (hι b' L' e' hL')

theorem Sim.live_lt {ι : Emb} {H : Hp} {w : World} (s : Sim ι H w) {b : Nat} {L : Loc} (hL : ι b = some L)
    (h : H.owned b = true ∨ ∃ z v vs, H[b]? = some (.ro z (v :: vs))) : L.base.block < w.heap.size := by
  rcases h with h | ⟨z, v, vs, h⟩
  · exact s.own_lt h hL
  · obtain ⟨L', hL', hc⟩ := s.cells b (v :: vs) (by simp [Hp.cells, h, Blk.cells])
    rw [hL] at hL'; cases hL'
    obtain ⟨v', hv', _⟩ := hc 0 v rfl
    have := World.block_lt_of_cell? w _ hv'
    rwa [add_block] at this

/-- A new row. -/
theorem Sim.newRow {ι : Emb} {H : Hp} {w : World} (s : Sim ι H w) (sz : Nat) (vs : List Value) (c : Array Value) (t : TypeId)
    (hc : ∀ (j : Nat) (v : Value), vs[j]? = some v → ∃ v', c[j]? = some v' ∧ VR ι v v') (hl : vs.length ≤ c.size) :
    Sim (ι.put H.length ⟨⟨w.heap.size, 0, none⟩, c.size, sz⟩) (H ++ [.rw sz vs]) (w.alloc (.cells c t)) ∧
    Fr ι H w (ι.put H.length ⟨⟨w.heap.size, 0, none⟩, c.size, sz⟩) (H ++ [.rw sz vs]) (w.alloc (.cells c t)) := by
  have hle : ι.le (ι.put H.length ⟨⟨w.heap.size, 0, none⟩, c.size, sz⟩) := Emb.put_le s.new_none
  have hnew : (H ++ [Blk.rw sz vs])[H.length]? = some (.rw sz vs) := by simp
  have hold : ∀ b, b < H.length → (H ++ [Blk.rw sz vs])[b]? = H[b]? := fun b hb => List.getElem?_append_left hb
  have hheap : (w.alloc (.cells c t)).heap[w.heap.size]? = some (.cells c t (0, 0)) := by show (w.heap.push _)[w.heap.size]? = _; simp
  refine ⟨Sim.step s H.length hle (fun b L hb h => by rwa [Emb.put_other ι _ hb] at h) (fun b L h => ?_) (fun b hb => .inl ?_) (fun b L _ hL _ hlive => ?_) (fun us h => ?_)
    (fun sz' us h => ?_) (fun es h => ?_) (fun _ b L0 L hb _ hlive h0 hL => ?_) (fun v us h => ?_), ?_⟩
  · by_cases e : b = H.length
    · subst e; simp
    · rw [Emb.put_other ι _ e] at h; have := s.dom b L h; simp; omega
  · rcases Nat.lt_or_ge b H.length with h | h
    · exact hold b h
    · rw [List.getElem?_eq_none (by simp; omega), List.getElem?_eq_none h]
  · exact Below.heap_alloc' w _ _ (s.live_lt hL hlive)
  · have : us = vs := by simpa [Hp.cells, Blk.cells] using h.symm
    subst this
    refine ⟨_, Emb.put_same .., fun j v hv => ?_⟩
    obtain ⟨v', h1, h2⟩ := hc j v hv
    refine ⟨v', ?_, h2.mono hle⟩
    rw [add_none, Nat.zero_add, World.cell?_alloc_new]; exact h1
  · rw [hnew] at h; cases h
    exact ⟨_, c, t, Emb.put_same .., rfl, rfl, hheap, by simp, hl⟩
  · rw [hnew] at h; cases h
  · rw [Emb.put_same] at h0; cases h0
    exact Nat.ne_of_gt (s.live_lt hL hlive)
  · rw [hnew] at h; cases h
  · refine ⟨rfl, rfl, rfl, by simp, hle, by simp, fun b hb => Emb.put_other ι _ (Nat.ne_of_lt hb), fun b hb => by rw [hold b (List.getElem?_eq_some_iff.1 hb).1]; exact hb, fun b z us hb => by
      by_cases e : b = H.length
      · subst e; rw [hnew] at hb; cases hb
      · have hlt := (List.getElem?_eq_some_iff.1 hb).1
        rw [hold b (by simp at hlt; omega)] at hb; exact hb, fun g hg _ => Below.heap_alloc' w _ _ hg, fun g hg h => ?_⟩
    obtain ⟨b, L, hL, hb, ho⟩ := h
    by_cases e : b = H.length
    · subst e; rw [Emb.put_same] at hL; cases hL; simp at hb; omega
    · rw [Emb.put_other ι _ e] at hL
      refine ⟨b, L, hL, hb, ?_⟩
      rwa [owned_eq (hold b (s.dom b L hL))] at ho
where
  Below.heap_alloc' (w : World) (o : Obj) (k : Nat) (h : k < w.heap.size) : (w.alloc o).heap[k]? = w.heap[k]? := Go.RowKit.Below.heap_alloc w o k h

/-- A block's cells are written, in place: the same block, or one more with the old one dead. -/
theorem Sim.rewrite {ι : Emb} {H : Hp} {w : World} (s : Sim ι H w) {b sz : Nat} {vs : List Value} {L : Loc} (hb : H[b]? = some (.rw sz vs)) (hL : ι b = some L)
    {cur : Array Value} {t : TypeId} (hg : w.heap[L.base.block]? = some (.cells cur t (0, 0))) (c : Array Value) (hc : c.size = cur.size) (ws : List Value) (hfit : ws.length ≤ L.ext)
    (hcells : ∀ (j : Nat) (v : Value), ws[j]? = some v → ∃ v', c[L.base.off + j]? = some v' ∧ VR ι v v') :
    Sim ι (H.set b (.rw sz ws)) (w.setRow L.base.block c) ∧ Fr ι H w ι (H.set b (.rw sz ws)) (w.setRow L.base.block c) := by
  obtain ⟨L', cur', t', h1, h2, h3, h4, h5, h6⟩ := s.own b sz vs hb
  rw [hL] at h1; cases h1
  rw [hg] at h4; cases h4
  have hlt : b < H.length := s.dom b L hL
  have hnew : (H.set b (Blk.rw sz ws))[b]? = some (.rw sz ws) := by simp [hlt]
  have hold : ∀ x, x ≠ b → (H.set b (Blk.rw sz ws))[x]? = H[x]? := fun x hx => List.getElem?_set_ne (fun e => hx e.symm)
  have hbase : L.base = ⟨L.base.block, L.base.off, none⟩ := by cases hq : L.base; simp [hq] at h2; simp [h2]
  refine ⟨Sim.step s b (Emb.le.refl ι) (fun _ _ _ h => h) (fun x K h => by have := s.dom x K h; simpa using this) (fun x hx => .inl (hold x hx))
    (fun x K hx hK _ hlive => setRow_other w _ _ c ?_) (fun us h => ?_) (fun sz' us h => ?_) (fun es h => ?_) (fun ho x L0 K hx _ hlive h0 hK => ?_) (fun v us h => ?_), ?_⟩
  · exact fun e => s.sep b x L K (fun e => hx e.symm) (owned_of_rw hb) hlive hL hK e.symm
  · have : us = ws := by simpa [Hp.cells, hnew, Blk.cells] using h.symm
    subst this
    refine ⟨L, hL, fun j v hv => ?_⟩
    obtain ⟨v', h1, h2⟩ := hcells j v hv
    refine ⟨v', ?_, h2⟩
    rw [hbase, add_none, cell_setRow_same w _ _ cur c t (0, 0) hg]; exact h1
  · rw [hnew] at h; cases h
    exact ⟨L, c, t, hL, h2, h3, setRow_heap w _ cur c t _ hg, by rw [hc]; exact h5, hfit⟩
  · rw [hnew] at h; cases h
  · rw [hL] at h0; cases h0
    exact s.sep b x L K (fun e => hx e.symm) (owned_of_rw hb) hlive hL hK
  · rw [hnew] at h; cases h
  · refine ⟨rfl, rfl, rfl, by simp, Emb.le.refl ι, by simp, fun _ _ => rfl, fun x hx => by rw [hold x (fun e => by subst e; rw [hb] at hx; cases hx)]; exact hx, fun x z us hx => by
      by_cases e : x = b
      · subst e; rw [hnew] at hx; cases hx
      · rw [hold x e] at hx; exact hx, fun g hg' hn => setRow_other w _ _ c fun e => hn ⟨b, L, hL, e.symm, owned_of_rw hb⟩, fun g hg' h => ?_⟩
    obtain ⟨x, K, hK, hb', ho⟩ := h
    by_cases e : x = b
    · subst e; exact ⟨x, K, hK, hb', owned_of_rw hb⟩
    · exact ⟨x, K, hK, hb', by rwa [owned_eq (hold x e)] at ho⟩

/-- A block dies. -/
theorem Sim.kill {ι : Emb} {H : Hp} {w : World} (s : Sim ι H w) {b : Nat} (hlt : b < H.length) :
    Sim ι (H.set b .dead) w ∧ Fr ι H w ι (H.set b .dead) w := by
  have hnew : (H.set b Blk.dead)[b]? = some .dead := by simp [hlt]
  have hold : ∀ x, x ≠ b → (H.set b Blk.dead)[x]? = H[x]? := fun x hx => List.getElem?_set_ne (fun e => hx e.symm)
  refine ⟨Sim.step s b (Emb.le.refl ι) (fun _ _ _ h => h) (fun x K h => by have := s.dom x K h; simpa using this) (fun x hx => .inl (hold x hx))
    (fun _ _ _ _ _ _ => rfl) (fun us h => ?_) (fun sz' us h => ?_) (fun es h => ?_) (fun ho x L0 K hx _ hlive h0 hK => ?_) (fun v us h => ?_), ?_⟩
  · rw [cells_dead hnew] at h; cases h
  · rw [hnew] at h; cases h
  · rw [hnew] at h; cases h
  · rw [owned_dead hnew] at ho; cases ho
  · rw [hnew] at h; cases h
  · refine ⟨rfl, rfl, rfl, Nat.le_refl _, Emb.le.refl ι, by simp, fun _ _ => rfl, fun x hx => ?_, fun x z us hx => ?_, fun _ _ _ => rfl, fun g hg h => ?_⟩
    · by_cases e : x = b
      · subst e; exact hnew
      · rw [hold x e]; exact hx
    · by_cases e : x = b
      · subst e; rw [hnew] at hx; cases hx
      · rw [hold x e] at hx; exact hx
    obtain ⟨x, K, hK, hb', ho⟩ := h
    by_cases e : x = b
    · subst e; rw [owned_dead hnew] at ho; cases ho
    · exact ⟨x, K, hK, hb', by rwa [owned_eq (hold x e)] at ho⟩

end Go.Ab
