/- The abstract machine, part 4: operations over memory. Own work. -/
import Derived.Test.YtbehlbabgomhfaaAb3
namespace Go.Ab
open Go

/-- A block goes over into a new one, from a cell on. -/
theorem Sim.move {ι : Emb} {H : Hp} {w : World} (s : Sim ι H w) {b sz : Nat} {vs : List Value} {L : Loc} (hb : H[b]? = some (.rw sz vs)) (hL : ι b = some L) (off : Nat) (ho : off ≤ L.ext) :
    Sim (ι.put H.length ⟨L.base.add off, L.ext - off, sz⟩) (H.set b .dead ++ [.rw sz (vs.drop off)]) w ∧
    Fr ι H w (ι.put H.length ⟨L.base.add off, L.ext - off, sz⟩) (H.set b .dead ++ [.rw sz (vs.drop off)]) w := by
  have hlt : b < H.length := s.dom b L hL
  obtain ⟨L', cur, t, h1, h2, h3, h4, h5, h6⟩ := s.own b sz vs hb
  rw [hL] at h1; cases h1
  have hbase : L.base = ⟨L.base.block, L.base.off, none⟩ := by cases hq : L.base; simp [hq] at h2; simp [h2]
  have hle : ι.le (ι.put H.length ⟨L.base.add off, L.ext - off, sz⟩) := Emb.put_le s.new_none
  have hnew : (H.set b .dead ++ [Blk.rw sz (vs.drop off)])[H.length]? = some (.rw sz (vs.drop off)) := by simp
  have hdead : (H.set b .dead ++ [Blk.rw sz (vs.drop off)])[b]? = some .dead := by rw [List.getElem?_append_left (by simpa using hlt)]; simp [hlt]
  have hold : ∀ x, x ≠ H.length → x ≠ b → (H.set b .dead ++ [Blk.rw sz (vs.drop off)])[x]? = H[x]? := fun x hx hxb => by
    rcases Nat.lt_or_ge x H.length with h | h
    · rw [List.getElem?_append_left (by simpa using h), List.getElem?_set_ne (fun e => hxb e.symm)]
    · rw [List.getElem?_eq_none (by simp; omega), List.getElem?_eq_none h]
  refine ⟨Sim.step s H.length hle (fun x K hx h => by rwa [Emb.put_other ι _ hx] at h) (fun x K h => ?_) (fun x hx => ?_) (fun _ _ _ _ _ _ => rfl) (fun us h => ?_)
    (fun sz' us h => ?_) (fun es h => ?_) (fun _ x L0 K hx he hlive h0 hK => ?_) (fun v us h => ?_), ?_⟩
  · by_cases e : x = H.length
    · subst e; simp
    · rw [Emb.put_other ι _ e] at h; have := s.dom x K h; simp; omega
  · by_cases e : x = b
    · subst e; exact .inr hdead
    · exact .inl (hold x hx e)
  · have : us = vs.drop off := by simpa [Hp.cells, hnew, Blk.cells] using h.symm
    subst this
    refine ⟨_, Emb.put_same .., fun j v hv => ?_⟩
    obtain ⟨K, hK, hc⟩ := s.cells b vs (by simp [Hp.cells, hb, Blk.cells])
    rw [hL] at hK; cases hK
    rw [List.getElem?_drop] at hv
    obtain ⟨v', h1, h2⟩ := hc _ v hv
    exact ⟨v', by rw [add_add]; exact h1, h2.mono hle⟩
  · rw [hnew] at h; cases h
    refine ⟨_, cur, t, Emb.put_same .., ?_, rfl, by rw [add_block]; exact h4, ?_, ?_⟩
    · show (L.base.add off).spot = none
      rw [hbase, add_none]
    · show (L.base.add off).off + (L.ext - off) ≤ cur.size
      rw [hbase, add_none]; simp; omega
    · simp; omega
  · rw [hnew] at h; cases h
  · rw [Emb.put_same] at h0; cases h0
    rw [add_block]
    refine s.sep b x L K (fun e => ?_) (owned_of_rw hb) hlive hL hK
    subst e
    rw [hdead, hb] at he; cases he
  · rw [hnew] at h; cases h
  · refine ⟨rfl, rfl, rfl, Nat.le_refl _, hle, by simp, fun x hx => Emb.put_other ι _ (Nat.ne_of_lt hx), fun x hx => ?_, fun x z us hx => ?_, fun _ _ _ => rfl, fun g hg h => ?_⟩
    · have hxl := (List.getElem?_eq_some_iff.1 hx).1
      rw [hold x (Nat.ne_of_lt hxl) (fun e => by subst e; rw [hb] at hx; cases hx)]; exact hx
    · by_cases e : x = H.length
      · subst e; rw [hnew] at hx; cases hx
      · by_cases e' : x = b
        · subst e'; rw [hdead] at hx; cases hx
        · rw [hold x e e'] at hx; exact hx
    obtain ⟨x, K, hK, hg', hox⟩ := h
    by_cases e : x = H.length
    · subst e; rw [Emb.put_same] at hK; cases hK
      rw [add_block] at hg'
      exact ⟨b, L, hL, hg', owned_of_rw hb⟩
    · rw [Emb.put_other ι _ e] at hK
      by_cases e' : x = b
      · subst e'; exact ⟨x, K, hK, hg', owned_of_rw hb⟩
      · exact ⟨x, K, hK, hg', by rwa [owned_eq (hold x e e')] at hox⟩

def splice (vs : List Value) (off : Nat) (cs : List Value) : List Value := vs.take off ++ cs ++ vs.drop (off + cs.length)
theorem splice_one (vs : List Value) (off : Nat) (v : Value) (h : off < vs.length) : splice vs off [v] = vs.set off v := by
  unfold splice
  rw [List.set_eq_take_append_cons_drop, if_pos h]
  simp
theorem splice_length (vs : List Value) (off : Nat) (cs : List Value) (h : off + cs.length ≤ vs.length) : (splice vs off cs).length = vs.length := by
  unfold splice; simp; omega
theorem splice_get {ι : Emb} {vs vs' cs cs' : List Value} (h : VRs ι vs vs') (hc : VRs ι cs cs') (off : Nat) : VRs ι (splice vs off cs) (splice vs' off cs') := by
  unfold splice
  rw [hc.1]
  exact ((h.take off).append hc).append (h.drop _)

def Hp.load (H : Hp) (a : Addr) (n : Nat) : Option (List Value) :=
  match H.cells a.block with
  | some vs => if a.off + n ≤ vs.length then some ((vs.drop a.off).take n) else none
  | none => none
theorem Hp.load_length {H : Hp} {a : Addr} {n : Nat} {cs : List Value} (h : H.load a n = some cs) : cs.length = n := by
  unfold Hp.load at h
  split at h
  · split at h
    · cases h; simp; omega
    · cases h
  · cases h
/-- What is loaded, in the world. -/
theorem Sim.load {ι : Emb} {H : Hp} {w : World} (s : Sim ι H w) {b off n : Nat} {cs : List Value} (h : H.load ⟨b, off, none⟩ n = some cs) {L : Loc} (hL : ι b = some L) :
    ∃ cs', VRs ι cs cs' ∧ cs'.length = n ∧ ∀ (j : Nat) (v : Value), cs'[j]? = some v → w.cell? ((L.base.add off).add j) = some v := by
  have hn := Hp.load_length h
  unfold Hp.load at h
  split at h
  · rename_i vs hvs
    split at h
    · rename_i hle
      cases h
      obtain ⟨K, vs', hK, hr, hc⟩ := s.read hvs
      rw [hL] at hK; cases hK
      have hr2 := (hr.drop off).take n
      refine ⟨(vs'.drop off).take n, hr2, by rw [← hr2.1]; exact hn, fun j v hv => ?_⟩
      rw [List.getElem?_take] at hv
      split at hv
      · rw [List.getElem?_drop] at hv
        rw [add_add]
        exact hc _ v hv
      · cases hv
    · cases h
  · cases h

def mkv (agg : Bool) (cs : List Value) : Option Value := if agg then some (.agg cs.toArray) else match cs with | [v] => some v | _ => none

/-- The cells of a slice. -/
def slcells (H : Hp) (sz : Nat) : Value → Option (Nat × List Value)
  | .slice none 0 0 => some (0, [])
  | .slice (some a) n _ => if a.spot.isNone then (H.load a (n * sz)).map fun cs => (n, cs) else none
  | _ => none

def aappend (sz bytes : Nat) (s x : Value) (H : Hp) : Option (Value × Hp) :=
  match slcells H sz x with
  | none => none
  | some (n, new) =>
    match s with
    | .slice none 0 0 =>
      if n = 0 then some (s, H)
      else if n * bytes ≤ 140737488355328 ∧ new.all Value.oneCell' then some (.slice (some ⟨H.length, 0, none⟩) n n, H ++ [.rw sz new]) else none
    | .slice (some a) m m' =>
      if n = 0 then some (s, H)
      else match H[a.block]?, slcells H sz s with
        | some (.rw sz' _), some (_, old) =>
          if sz' = sz ∧ m' = m ∧ (m + n) * bytes ≤ 140737488355328 ∧ new.all Value.oneCell' then
            some (.slice (some ⟨H.length, 0, none⟩) (m + n) (m + n), H.set a.block .dead ++ [.rw sz (old ++ new)])
          else none
        | _, _ => none
    | _ => none

theorem slcells_run {P : Program} {ι : Emb} {H : Hp} {w : World} (s : Sim ι H w) {sz n : Nat} {x x' : Value} {cs : List Value} (h : slcells H sz x = some (n, cs)) (hx : VR ι x x') :
    ∃ A c cs', x' = .slice A n c ∧ VRs ι cs cs' ∧ cs'.length = n * sz ∧ (∀ W : World, W.heap = w.heap → (Builtin.firstCells sz n x').run P W = .ok cs'.toArray W) ∧
      (∀ a, A = some a → ∀ (j : Nat) (v : Value), cs'[j]? = some v → w.cell? (a.add j) = some v) := by
  unfold slcells at h
  split at h
  · cases h; cases hx
    exact ⟨none, 0, [], rfl, VRs.nil, by simp, fun W _ => by simp [Builtin.firstCells], fun a h => by cases h⟩
  · rename_i ad m c0
    split at h
    · cases hl : H.load ad (m * sz) with
      | none => simp [hl] at h
      | some cs0 =>
        simp [hl] at h
        obtain ⟨rfl, rfl⟩ := h
        obtain ⟨b, off, c, L, A, rfl, _, rfl, hL, hn, hc⟩ := hx.slice_inv
        obtain ⟨cs', hr, hlen, hcell⟩ := s.load hl hL
        have hcell' : ∀ (j : Nat) (v : Value), cs'[j]? = some v → w.cell? (A.add j) = some v := by
          intro j v hv
          have hj : j < cs'.length := by
            rcases Nat.lt_or_ge j cs'.length with h | h
            · exact h
            · simp [List.getElem?_eq_none h] at hv
          rcases hc with h0 | ⟨hA, _⟩
          · have : m = 0 := by omega
            rw [hlen, this] at hj; simp at hj
          · subst hA; exact hcell j v hv
        refine ⟨some A, c, cs', rfl, hr, hlen, fun W hW => ?_, fun a ha => by cases ha; exact hcell'⟩
        have := run_loadCells_list (P := P) W A cs' (fun j v hv => by
          have := hcell' j v hv
          unfold World.cell? at this ⊢
          rw [hW]; exact this)
        rw [hlen] at this
        simpa [Builtin.firstCells] using this
    · cases h
  · cases h

theorem slcells_len {H : Hp} {sz n m mq : Nat} {a : Addr} {cs : List Value} (h : slcells H sz (.slice (some a) n m) = some (mq, cs)) : mq = n := by
  simp only [slcells] at h
  split at h
  · cases hl : H.load a (n * sz) with
    | none => rw [hl] at h; cases h
    | some q => rw [hl] at h; cases h; rfl
  · cases h
theorem run_append_at {P : Program} (w : World) (t ty e : TypeId) (i : TypeInfo) (ht : P.underlying t = some (.slice e)) (hi : P.info? e = some i)
    (g o sLen sCap : Nat) (cur : Array Value) (t' : TypeId) (hg : w.heap[g]? = some (.cells cur t' (0, 0)))
    (x : Value) (A : Option Addr) (m c : Nat) (hx : x = .slice A m c) (news : List Value) (hf : (Builtin.firstCells i.size m x).run P w = .ok news.toArray w) (h1 : ∀ u ∈ news, u.oneCell' = true)
    (hroom : sLen + m ≤ sCap) (hfit : o + sLen * i.size + news.length ≤ cur.size) :
    (Builtin.append_ #[t, t] ty #[.slice (some ⟨g, o, none⟩) sLen sCap, x]).run P w =
      .ok (.slice (some ⟨g, o, none⟩) (sLen + m) sCap) (w.setRow g (cur.toList.take (o + sLen * i.size) ++ news ++ cur.toList.drop (o + sLen * i.size + news.length)).toArray) := by
  have hst := run_storeCells_at P g (o + sLen * i.size) t' news 0 cur w hg (by simpa using hfit) h1
  simp only [Nat.add_zero] at hst
  subst hx
  simp [Builtin.append_, run_underlying ht, sizeOf, typeInfo, hi, Builtin.lenOf, hroom, hf, add_none, hst]

theorem run_append_new {P : Program} (w : World) (t ty e : TypeId) (i : TypeInfo) (z : Value) (ht : P.underlying t = some (.slice e)) (hi : P.info? e = some i) (hz : i.zero = some z)
    (s : Value) (B : Option Addr) (sLen sCap : Nat) (hs : s = .slice B sLen sCap) (olds : List Value) (hfo : (Builtin.firstCells i.size sLen s).run P w.drew = .ok olds.toArray w.drew)
    (x : Value) (A : Option Addr) (n c : Nat) (hx : x = .slice A n c) (news : List Value) (hf : (Builtin.firstCells i.size n x).run P w.drew = .ok news.toArray w.drew)
    (hg : sCap < sLen + n) (h63 : ((sLen + n : Nat) : Int) ≤ 9223372036854775807) (hfit : Builtin.nextslicecap (sLen + n) sCap * i.bytes ≤ 281474976710656) :
    (Builtin.append_ #[t, t] ty #[s, x]).run P w =
      .ok (.slice (some ⟨w.heap.size, 0, none⟩) (sLen + n) (grownCap w (sLen + n) sCap e))
        (w.drew.alloc (.cells (olds.toArray ++ news.toArray ++ Builtin.zeroCells z.cells (grownCap w (sLen + n) sCap e - (sLen + n))) e)) := by
  have hn : ¬ (sLen + n ≤ sCap) := by omega
  have h63' : ¬ (9223372036854775807 < ((sLen : Int) + (n : Int))) := by omega
  have h48' : ¬ (281474976710656 < Builtin.nextslicecap (sLen + n) sCap * i.bytes) := by omega
  subst hs; subst hx
  simp [Builtin.append_, run_underlying ht, sizeOf, typeInfo, zeroValue, hi, hz, Builtin.lenOf, hn, h63', h48', Question.forced, hf, hfo, newRow, grownCap]
  congr 2
  apply Array.ext'
  simp [List.append_assoc]

set_option maxHeartbeats 1000000 in
theorem aappend_run {P : Program} {ι : Emb} {H : Hp} {w : World} (s : Sim ι H w) {t ty e : TypeId} {i : TypeInfo} {z : Value} (ht : P.underlying t = some (.slice e)) (hi : P.info? e = some i) (hz : i.zero = some z)
    (hzs : z.cells.size = i.size) (hsz : 0 < i.size) (hby : 0 < i.bytes) {sv x sv' x' av : Value} {H' : Hp} (h : aappend i.size i.bytes sv x H = some (av, H')) (hs : VR ι sv sv') (hx : VR ι x x') :
    ∃ v ι' w', (Builtin.append_ #[t, t] ty #[sv', x']).run P w = .ok v w' ∧ VR ι' av v ∧ Sim ι' H' w' ∧ Fr ι H w ι' H' w' := by
  unfold aappend at h
  split at h
  · cases h
  · rename_i n new hnew
    obtain ⟨A, c, new', rfl, hr, hlen, hfc, hcell⟩ := slcells_run (P := P) s hnew hx
    have hfc0 := hfc w rfl
    have hfcd := hfc w.drew rfl
    split at h
    · -- append to nil
      cases hs
      split at h
      · rename_i h0
        cases h
        subst h0
        refine ⟨.slice none 0 0, ι, w, ?_, .snil, s, Fr.refl ..⟩
        have hn : new' = [] := List.eq_nil_of_length_eq_zero (by simpa using hlen)
        subst hn
        simp [Builtin.append_, run_underlying ht, sizeOf, typeInfo, hi, Builtin.lenOf, hfc0]
      · rename_i h0
        split at h
        · rename_i hc
          cases h
          have hnb : n ≤ n * i.bytes := Nat.le_mul_of_pos_right n hby
          have hrun := run_append_new (P := P) w t ty e i z ht hi hz (.slice none 0 0) none 0 0 rfl [] (by simp [Builtin.firstCells]) _ A n c rfl new' hfcd (by omega) (by omega)
            (by rw [Nat.zero_add]; rw [nextslicecap_zero (by omega)]; omega)
          rw [Nat.zero_add] at hrun
          have hge := grownCap_ge w n 0 e
          have hsize : (List.toArray ([] : List Value) ++ new'.toArray ++ Builtin.zeroCells z.cells (grownCap w n 0 e - n)).size = grownCap w n 0 e * i.size := by
            simp only [Array.size_append, List.size_toArray, List.length_nil, size_zeroCells, hzs, hlen, Nat.zero_add, ← Nat.add_mul]
            congr 1; omega
          obtain ⟨hsim, hfr⟩ := s.drew.newRow i.size new (List.toArray ([] : List Value) ++ new'.toArray ++ Builtin.zeroCells z.cells (grownCap w n 0 e - n)) e
            (fun j v hv => by
              obtain ⟨v', h1, h2⟩ := hr.get hv
              have hj : j < new'.length := by
                rcases Nat.lt_or_ge j new'.length with h | h
                · exact h
                · simp [List.getElem?_eq_none h] at h1
              refine ⟨v', ?_, h2⟩
              have : (List.toArray ([] : List Value) ++ new'.toArray)[j]? = some v' := by simpa using h1
              rw [Array.getElem?_append_left (by simpa using hj)]
              exact this)
            (by rw [hsize, hr.1, hlen]; exact Nat.mul_le_mul_right _ hge)
          refine ⟨_, _, _, hrun, ?_, hsim, ?_⟩
          · refine .sl _ 0 n _ _ _ (Emb.put_same ..) hge (.inr ⟨by simp [Addr.add], ?_⟩)
            show 0 + grownCap w n 0 e * i.size ≤ (List.toArray ([] : List Value) ++ new'.toArray ++ Builtin.zeroCells z.cells (grownCap w n 0 e - n)).size
            rw [hsize]; omega
          · exact Fr.of_drew hfr
        · cases h
    · -- append to a block
      rename_i a m m'
      split at h
      · rename_i h0
        cases h
        subst h0
        have hn : new' = [] := List.eq_nil_of_length_eq_zero (by simpa using hlen)
        subst hn
        obtain ⟨b, off, c2, L, A2, rfl, rfl, rfl, hL, hle, hc2⟩ := hs.slice_inv
        refine ⟨_, ι, w, ?_, .sl b off _ c2 L A2 hL hle hc2, s, Fr.refl ..⟩
        simp [Builtin.append_, run_underlying ht, sizeOf, typeInfo, hi, Builtin.lenOf, hfc0, hle, storeCells]
      · rename_i h0
        split at h
        · rename_i sz' vs0 mq old hblk hold
          split at h
          · rename_i hc
            obtain ⟨rfl, rfl, hbytes, hone⟩ := hc
            cases h
            have hone' : ∀ u ∈ new', u.oneCell' = true := hr.one hone
            obtain rfl : mq = m' := slcells_len hold
            obtain ⟨b, off, c2, L, A2, rfl, _, rfl, hL, hle, hc2⟩ := hs.slice_inv
            obtain ⟨A0, c0, old', hq, hro, hleno, hfo, _⟩ := slcells_run (P := P) s hold hs
            simp only [Value.slice.injEq] at hq
            obtain ⟨hq1, _, hq3⟩ := hq
            subst hq1
            subst hq3
            have hmb : mq + n ≤ (mq + n) * i.bytes := Nat.le_mul_of_pos_right _ hby
            simp only at hblk
            by_cases hroom : mq + n ≤ c2
            · have hc0 : c2 ≠ 0 := by omega
              obtain ⟨hA, hext⟩ := hc2.resolve_left hc0
              obtain ⟨L', cur, t', h1, h2, h3, h4, h5, h6⟩ := s.own b i.size vs0 hblk
              rw [hL] at h1; cases h1
              rw [h3] at hext
              have hbase : L.base = ⟨L.base.block, L.base.off, none⟩ := by cases hq : L.base; simp [hq] at h2; simp [h2]
              have hA2 : A2 = ⟨L.base.block, L.base.off + off, none⟩ := by rw [hA, hbase, add_none]
              have hmul : (mq + n) * i.size ≤ c2 * i.size := Nat.mul_le_mul_right _ hroom
              rw [Nat.add_mul] at hmul
              subst hA2
              have hrun := run_append_at (P := P) w t ty e i ht hi L.base.block (L.base.off + off) mq c2 cur t' h4 _ A n c rfl new' hfc0 hone' hroom (by rw [hlen]; omega)
              -- the prefix of the old block and what comes behind it
              have hvl : off + mq * i.size ≤ vs0.length := by
                unfold slcells Hp.load Hp.cells at hold
                simp only [hblk, Option.bind_some, Blk.cells, Option.isNone_none, if_true] at hold
                split at hold
                · assumption
                · simp at hold
              have holdv : old = (vs0.drop off).take (mq * i.size) := by
                unfold slcells Hp.load Hp.cells at hold
                simp only [hblk, Option.bind_some, Blk.cells, Option.isNone_none, if_true] at hold
                split at hold
                · simp at hold; exact hold.symm
                · first | (simp at hold; done) | (simp at hold; exact hold.symm)
              obtain ⟨K, vs', hK, hrv, hcv⟩ := s.read (b := b) (vs := vs0) (by simp [Hp.cells, hblk, Blk.cells])
              rw [hL] at hK; cases hK
              have hcur : ∀ (j : Nat) (v : Value), vs'[j]? = some v → cur[L.base.off + j]? = some v := by
                intro j v hv
                have := hcv j v hv
                rw [hbase, add_none] at this
                simpa [World.cell?, h4] using this
              obtain ⟨hsim1, hfr1⟩ := s.rewrite hblk hL h4 (cur.toList.take (L.base.off + off + mq * i.size) ++ new' ++ cur.toList.drop (L.base.off + off + mq * i.size + new'.length)).toArray
                (by simp [hlen]; omega) (vs0.take (off + mq * i.size) ++ new) (by simp [hr.1, hlen]; omega)
                (fun j v hv => by
                  obtain ⟨v', h1, h2⟩ := ((hrv.take (off + mq * i.size)).append hr).get hv
                  refine ⟨v', ?_, h2⟩
                  have hvl' : off + mq * i.size ≤ vs'.length := hrv.1 ▸ hvl
                  simp only [List.getElem?_toArray]
                  rw [List.append_assoc]
                  by_cases hj : j < off + mq * i.size
                  · rw [List.getElem?_append_left (by simp; omega)] at h1
                    rw [List.getElem?_take, if_pos hj] at h1
                    rw [List.getElem?_append_left (by simp; omega), List.getElem?_take, if_pos (by omega)]
                    have := hcur j v' h1
                    simpa using this
                  · rw [List.getElem?_append_right (by simp; omega)] at h1
                    simp only [List.length_take, Nat.min_eq_left hvl'] at h1
                    have hj2 : j - (off + mq * i.size) < new'.length := by
                      rcases Nat.lt_or_ge (j - (off + mq * i.size)) new'.length with h | h
                      · exact h
                      · simp [List.getElem?_eq_none h] at h1
                    rw [List.getElem?_append_right (by simp; omega)]
                    rw [List.getElem?_append_left (by simp; omega)]
                    rw [← h1]
                    congr 1
                    simp; omega)
              have hblt : b < H.length := s.dom b L hL
              obtain ⟨hsim2, hfr2⟩ := hsim1.move (b := b) (sz := i.size) (vs := vs0.take (off + mq * i.size) ++ new) (L := L) (by simp [hblt]) hL off (by omega)
              have hdrop : (vs0.take (off + mq * i.size) ++ new).drop off = old ++ new := by
                rw [List.drop_append_of_le_length (by simp; omega), List.drop_take, holdv]
                congr 2; omega
              rw [hdrop, List.set_set, List.length_set] at hsim2 hfr2
              refine ⟨_, _, _, hrun, ?_, hsim2, hfr1.trans hfr2⟩
              refine .sl _ 0 _ c2 _ _ (Emb.put_same ..) hroom (.inr ⟨?_, ?_⟩)
              · rw [hbase, add_none]; simp [Addr.add]
              · show 0 + c2 * i.size ≤ L.ext - off; omega
            · have hrun := run_append_new (P := P) w t ty e i z ht hi hz _ (some A2) mq c2 rfl old' (hfo w.drew rfl) _ A n c rfl new' hfcd (by omega) (by omega) (growslice_fits (by omega) hbytes)
              have hge := grownCap_ge w (mq + n) c2 e
              have hsize : (old'.toArray ++ new'.toArray ++ Builtin.zeroCells z.cells (grownCap w (mq + n) c2 e - (mq + n))).size = grownCap w (mq + n) c2 e * i.size := by
                simp only [Array.size_append, List.size_toArray, size_zeroCells, hzs, hlen, hleno, ← Nat.add_mul]
                congr 1; omega
              have hblt : b < H.length := s.dom b L hL
              obtain ⟨hk1, hk2⟩ := s.drew.kill hblt
              have hro2 := hro.append hr
              obtain ⟨hsim, hfr⟩ := hk1.newRow i.size (old ++ new) (old'.toArray ++ new'.toArray ++ Builtin.zeroCells z.cells (grownCap w (mq + n) c2 e - (mq + n))) e
                (fun j v hv => by
                  obtain ⟨v', h1, h2⟩ := hro2.get hv
                  have hj : j < (old' ++ new').length := by
                    rcases Nat.lt_or_ge j (old' ++ new').length with h | h
                    · exact h
                    · simp [List.getElem?_eq_none h] at h1
                  refine ⟨v', ?_, h2⟩
                  rw [Array.getElem?_append_left (by simpa using hj)]
                  simpa using h1)
                (by rw [hsize, hro2.1, List.length_append, hlen, hleno, ← Nat.add_mul]; exact Nat.mul_le_mul_right _ hge)
              rw [List.length_set] at hsim hfr
              refine ⟨_, _, _, hrun, ?_, hsim, ?_⟩
              · refine .sl _ 0 _ _ _ _ (Emb.put_same ..) hge (.inr ⟨by simp [Addr.add], ?_⟩)
                show 0 + grownCap w (mq + n) c2 e * i.size ≤ (old'.toArray ++ new'.toArray ++ Builtin.zeroCells z.cells (grownCap w (mq + n) c2 e - (mq + n))).size
                rw [hsize]; omega
              · exact Fr.of_drew (hk2.trans hfr)
          · cases h
        · cases h
    · cases h

end Go.Ab
