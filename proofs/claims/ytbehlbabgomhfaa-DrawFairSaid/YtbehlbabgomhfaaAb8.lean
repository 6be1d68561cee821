/- The abstract machine, part 8: the model follows each operation but calls, the rest. Own work. -/
import Derived.Test.YtbehlbabgomhfaaAb7
namespace Go.Ab
open Go

section
variable {P : Program} {ι : Emb} {H H' : Hp} {w : World} {N : Nat} {tm : Tm} {a : Act} {av : Value}

theorem evs_vr (ht : TR ι N tm a) : ∀ (xs : List Operand), okL xs = true → VRs ι (xs.map (ev tm)) (xs.map a.eval)
  | [], _ => VRs.nil
  | x :: xs, h => by
    simp only [okL, List.all_cons, Bool.and_eq_true] at h
    exact VRs.cons (ev_vr ht h.1) (evs_vr ht xs h.2)

theorem good_mkfn (s : Sim ι H w) (ht : TR ι N tm a) {fn : Fn} {first caps : Array Operand} (ho : first.size = 0 ∧ okL caps.toList = true) (h : aop (.mkfn fn caps.toList) tm H = some (av, H')) :
    Good P (do pure (.value (← Instr.makeFunc fn (first.map a.eval) (caps.map a.eval)))) ι H w av H' := by
  simp only [aop] at h
  cases h
  have hf : first = #[] := Array.eq_empty_of_size_eq_zero ho.1
  have hc : caps.map a.eval = (caps.toList.map a.eval).toArray := by apply Array.ext'; simp
  refine Good.pure (v := .func fn #[] (caps.toList.map a.eval).toArray) (by rw [hf, hc]; simp [Instr.makeFunc]) ?_ s
  have hr := evs_vr ht caps.toList ho.2
  exact .fn _ _ _ (by simp) fun j v v' p q => hr.2 j v v' (by simpa using p) (by simpa using q)

theorem good_iface (s : Sim ι H w) (ht : TR ι N tm a) {t : TypeId} {x : Operand} (ho : okO x = true) (hc : P.concrete t = true) (h : aop (.iface t x) tm H = some (av, H')) :
    Good P (do pure (.value (← Instr.makeInterface t (a.eval x)))) ι H w av H' := by
  simp only [aop] at h
  cases h
  exact Good.pure (v := .iface t (a.eval x)) (by simp [run_makeInterface w t (a.eval x) hc]) (.ifc _ _ _ (ev_vr ht ho)) s

theorem parts_vr (ht : TR ι N tm a) {ps : List (Nat × Nat × Operand)} (ho : okP ps = true) : ∀ (j : Nat) (p p' : Nat × Nat × Value),
    (ps.map fun p => (p.1, p.2.1, ev tm p.2.2))[j]? = some p → (ps.map fun p => (p.1, p.2.1, a.eval p.2.2))[j]? = some p' → p.1 = p'.1 ∧ p.2.1 = p'.2.1 ∧ VR ι p.2.2 p'.2.2 := by
  intro j p p' h h'
  simp only [List.getElem?_map] at h h'
  cases hq : ps[j]? with
  | none => simp [hq] at h
  | some q =>
    simp [hq] at h h'
    subst h; subst h'
    exact ⟨rfl, rfl, ev_vr ht (List.all_eq_true.1 ho q (List.mem_of_getElem? hq))⟩

theorem run_zero {t : TypeId} {i : TypeInfo} {z : Value} (hi : P.info? t = some i) (hz : i.zero = some z) (w : World) : (zeroValue t).run P w = .ok z w := by
  simp [zeroValue, typeInfo, hi, hz]

theorem run_places (w : World) : ∀ (fs : List Field) (l : List (Nat × Nat)), fs.mapM (fun f => (P.info? f.type).map fun i => (f.offset, i.size)) = some l →
    (fs.mapM fun f => do pure (f.offset, ← sizeOf f.type) : Sem _).run P w = .ok l w
  | [], l, h => by simp at h; subst h; simp
  | f :: fs, l, h => by
    simp only [List.mapM_cons, Option.bind_eq_bind, Option.pure_def, Option.bind_eq_some_iff] at h
    obtain ⟨e, he, r, hr, h3⟩ := h
    cases h3
    obtain ⟨i, hi, rfl⟩ := Option.map_eq_some_iff.1 he
    have hsz : (sizeOf f.type).run P w = .ok i.size w := by simp [sizeOf, typeInfo, hi]
    simp only [List.mapM_cons, Sem.run_bind, hsz, Result.andThen_ok, Sem.run_pure, run_places w fs r hr]

theorem mapM_ev {pl : Nat → Option (Nat × Nat)} (f : Operand → Value) : ∀ (ps : List (Nat × Operand)) (l : List (Nat × Nat × Operand)),
    ps.mapM (fun p => (pl p.1).map fun q => (q.1, q.2, p.2)) = some l →
    (ps.map fun p => (p.1, f p.2)).mapM (fun p => (pl p.1).map fun q => (q.1, q.2, p.2)) = some (l.map fun p => (p.1, p.2.1, f p.2.2))
  | [], l, h => by simp at h; subst h; simp
  | p :: ps, l, h => by
    simp only [List.mapM_cons, Option.bind_eq_bind, Option.pure_def, Option.bind_eq_some_iff] at h
    obtain ⟨e, he, r, hr, h3⟩ := h
    cases h3
    obtain ⟨q, hq, rfl⟩ := Option.map_eq_some_iff.1 he
    simp [hq, mapM_ev f ps r hr]

theorem good_build (s : Sim ι H w) (ht : TR ι N tm a) {t : TypeId} {z : List Value} {pl : List (Nat × Nat)} {ps : Array (Nat × Operand)} {l : List (Nat × Nat × Operand)}
    (hz : zeroT P t = some z) (hpl : places P t = some pl) (hl : ps.toList.mapM (fun p => (pl[p.1]?).map fun q => (q.1, q.2, p.2)) = some l) (ho : okP l = true)
    (h : aop (.build z l) tm H = some (av, H')) : Good P (do pure (.value (← Instr.build t (ps.map fun (i, x) => (i, a.eval x))))) ι H w av H' := by
  simp only [aop] at h
  cases hb : bfill z (l.map fun p => (p.1, p.2.1, ev tm p.2.2)) with
  | none => simp [hb] at h
  | some cs =>
    simp [hb] at h
    obtain ⟨rfl, rfl⟩ := h
    obtain ⟨i, zv, hi, hzz, hzc, hok, hzs⟩ := zeroT_some hz
    obtain ⟨cs', hb', hr⟩ := bfill_vr _ (l.map fun p => (p.1, p.2.1, a.eval p.2.2)) (by simp) (parts_vr ht ho) z z cs (okz_vrs hok) hb
    have hm := mapM_ev (pl := fun j => pl[j]?) a.eval ps.toList l hl
    have hfill := fill_run (fun j => pl[j]?) _ _ hm zv.cells cs' (by rw [hzc]; exact hb')
    refine Good.pure (v := .agg cs'.toArray) ?_ (VR.of_agg hr) s
    have hps : (ps.map fun (x : Nat × Operand) => (x.1, a.eval x.2)).toList = ps.toList.map fun p => (p.1, a.eval p.2) := by simp
    unfold places at hpl
    split at hpl
    · rename_i fs hu
      have hrp := run_places (P := P) w fs.toList pl hpl
      have hrp' : (fs.mapM fun f => do pure (f.offset, ← sizeOf f.type) : Sem _).run P w = .ok pl.toArray w := by
        have : fs = fs.toList.toArray := by simp
        rw [this, List.mapM_toArray, Sem.run_map, hrp]; rfl
      have hfun : (fun (j : Nat) => pl.toArray[j]?) = (fun (j : Nat) => pl[j]?) := by funext j; simp
      simp only [Sem.run_bind, Instr.build, run_zero hi hzz, Result.andThen_ok, run_underlying hu, hrp', hfun, hps, hfill, Sem.run_pure]
    · rename_i n e hu
      cases he : P.info? e with
      | none => simp [he] at hpl
      | some ie =>
        simp [he] at hpl
        subst hpl
        have hfun : ∀ (q : List (Nat × Value)) (k : List (Nat × Nat × Value)), q.mapM (fun p => (((List.range n).map fun j => (j * ie.size, ie.size))[p.1]?).map fun q => (q.1, q.2, p.2)) = some k →
            q.mapM (fun p => ((some (p.1 * ie.size, ie.size)).map fun q => (q.1, q.2, p.2))) = some k := by
          intro q
          induction q with
          | nil => intro k h; simpa using h
          | cons p q ih =>
            intro k h
            simp only [List.mapM_cons, Option.bind_eq_bind, Option.pure_def, Option.bind_eq_some_iff] at h ⊢
            obtain ⟨e1, he1, r, hr1, h3⟩ := h
            refine ⟨e1, ?_, r, ih r hr1, h3⟩
            obtain ⟨q1, hq1, rfl⟩ := Option.map_eq_some_iff.1 he1
            by_cases hlt : p.1 < n
            · simp [hlt] at hq1; subst hq1; rfl
            · simp [hlt] at hq1
        have hfill2 := fill_run (fun j => some (j * ie.size, ie.size)) _ _ (hfun _ _ hm) zv.cells cs' (by rw [hzc]; exact hb')
        simp only [Sem.run_bind, Instr.build, run_zero hi hzz, Result.andThen_ok, run_underlying hu, sizeOf, typeInfo, run_program, he, Sem.run_pure, hps, hfill2]
    · cases hpl

theorem asNat_run {lo hi d : Nat} {v : Option Value} {n : Nat} (h : asNat lo hi v d = some n) {v' : Option Value} (hv : ∀ u, v = some u → ∃ u', v' = some u' ∧ VR ι u u') (hn : v = none → v' = none) :
    (v = none ∧ v' = none ∧ n = d ∧ lo ≤ d ∧ d ≤ hi) ∨ ∃ k j, v' = some (.int k j) ∧ (lo : Int) ≤ j ∧ j ≤ hi ∧ n = j.toNat := by
  cases v with
  | none =>
    simp only [asNat] at h
    split at h
    · rename_i hc; cases h; exact .inl ⟨rfl, hn rfl, rfl, hc.1, hc.2⟩
    · cases h
  | some u =>
    cases u <;> simp only [asNat] at h <;> first | (cases h; done) | skip
    rename_i k j
    split at h
    · rename_i hc
      cases h
      obtain ⟨u', hu', hvr⟩ := hv _ rfl
      rw [vr_int hvr] at hu'
      exact .inr ⟨k, j, hu', hc.1, hc.2, rfl⟩
    · cases h

theorem sliceBound_ok (k : IntKind) (j : Int) (y : Nat) (c : BoundsCode) (h0 : 0 ≤ j) (h1 : j ≤ y) (w : World) : (Instr.sliceBound (.int k j) y c).run P w = .ok j.toNat w := by
  simp [Instr.sliceBound, asIntOf, h0, h1]

theorem sliceBounds_run {n c : Nat} (hnc : n ≤ c) {lo hi : Option Value} {l h : Nat} (hh : asNat 0 n hi n = some h) (hl : asNat 0 h lo 0 = some l) {lo' hi' : Option Value}
    (vlo : ∀ u, lo = some u → ∃ u', lo' = some u' ∧ VR ι u u') (nlo : lo = none → lo' = none) (vhi : ∀ u, hi = some u → ∃ u', hi' = some u' ∧ VR ι u u') (nhi : hi = none → hi' = none) (w : World) :
    (Instr.sliceBounds true n c lo' hi' none).run P w = .ok (l, h, c) w ∧ l ≤ h ∧ h ≤ n := by
  have e1 := asNat_run hh vhi nhi
  have e2 := asNat_run hl vlo nlo
  rcases e1 with ⟨_, rfl, rfl, _, _⟩ | ⟨k1, j1, rfl, ha1, hb1, rfl⟩
  · rcases e2 with ⟨_, rfl, rfl, _, _⟩ | ⟨k2, j2, rfl, ha2, hb2, rfl⟩
    · exact ⟨by simp [Instr.sliceBounds], by omega, by omega⟩
    · exact ⟨by simp [Instr.sliceBounds, sliceBound_ok k2 j2 _ _ (by omega) hb2], by omega, by omega⟩
  · have hb1' : j1 ≤ (c : Int) := by omega
    rcases e2 with ⟨_, rfl, rfl, _, _⟩ | ⟨k2, j2, rfl, ha2, hb2, rfl⟩
    · exact ⟨by simp [Instr.sliceBounds, sliceBound_ok k1 j1 _ _ (by omega) hb1'], by omega, by omega⟩
    · exact ⟨by simp [Instr.sliceBounds, sliceBound_ok k1 j1 _ _ (by omega) hb1', sliceBound_ok k2 j2 _ _ (by omega) hb2], by omega, by omega⟩

theorem good_slice (s : Sim ι H w) (ht : TR ι N tm a) {t e : TypeId} (hu : P.underlying t = some (.slice e)) {i : TypeInfo} (hi : P.info? e = some i) {x : Operand} {lo hi' : Option Operand}
    (ho : okO x = true) (hol : okL lo.toList = true) (hoh : okL hi'.toList = true) (h : aop (.slice i.size x lo hi') tm H = some (av, H')) :
    Good P (do pure (.value (← Instr.sliceAt t (a.eval x) (lo.map a.eval) (hi'.map a.eval) none))) ι H w av H' := by
  simp only [aop] at h
  have hx := ev_vr ht ho
  have vopt : ∀ o : Option Operand, okL o.toList = true → (∀ u, o.map (ev tm) = some u → ∃ u', o.map a.eval = some u' ∧ VR ι u u') ∧ (o.map (ev tm) = none → o.map a.eval = none) := by
    intro o hok
    cases o with
    | none => exact ⟨fun u h => by simp at h, fun _ => rfl⟩
    | some y =>
      simp [okL] at hok
      exact ⟨fun u h => by simp at h; subst h; exact ⟨_, rfl, ev_vr ht hok⟩, fun h => by simp at h⟩
  obtain ⟨vl, nl⟩ := vopt lo hol
  obtain ⟨vh, nh⟩ := vopt hi' hoh
  cases hs : aslice H i.size (ev tm x) (lo.map (ev tm)) (hi'.map (ev tm)) with
  | none => simp [hs] at h
  | some v =>
    simp [hs] at h
    obtain ⟨rfl, rfl⟩ := h
    unfold aslice at hs
    split at hs
    · rename_i hv
      rw [hv] at hx
      simp only [Option.bind_eq_bind, Option.bind_eq_some_iff] at hs
      obtain ⟨h, hh, l, hl, hs⟩ := hs
      cases hs
      obtain ⟨hrun, hle, hle2⟩ := sliceBounds_run (P := P) (Nat.le_refl 0) hh hl vl nl vh nh w
      obtain ⟨hx', _, _⟩ := hx.snil_inv
      have : h = 0 := by omega
      subst this
      have : l = 0 := by omega
      subst this
      refine Good.pure (v := .slice none 0 0) ?_ .snil s
      simp [Instr.sliceAt, run_underlying hu, Instr.slice, hx', hrun, sizeOf, typeInfo, hi]
    · rename_i ad n m hv
      rw [hv] at hx
      split at hs
      · rename_i hnm
        obtain ⟨rfl, hesz⟩ := hnm
        simp only [Option.bind_eq_bind, Option.bind_eq_some_iff] at hs
        obtain ⟨h, hh, l, hl, hs⟩ := hs
        cases hs
        obtain ⟨b, off, c, L, A, rfl, _, hx', hL, hn, hc⟩ := hx.slice_inv
        obtain ⟨hrun, hle, hle2⟩ := sliceBounds_run (P := P) hn hh hl vl nl vh nh w
        refine Good.pure (v := .slice (some (if c = l then A else A.add (l * i.size))) (h - l) (c - l)) ?_ ?_ s
        · simp only [Sem.run_bind, Instr.sliceAt, run_underlying hu, Instr.slice, hx', hrun, sizeOf, typeInfo, hi, run_program, Result.andThen_ok, Sem.run_pure]
          congr 3
          split <;> rfl
        · refine .sl b _ _ (c - l) L _ hL (by omega) ?_
          by_cases hcl : c = l
          · left; omega
          · right
            have hc0 : c ≠ 0 := by omega
            obtain ⟨hA, hext⟩ := hc.resolve_left hc0
            rw [if_neg hcl, hA, add_add]
            have hz := s.esz hesz hL
            rw [hz] at hext ⊢
            refine ⟨rfl, ?_⟩
            have : l * i.size + (c - l) * i.size = c * i.size := by rw [← Nat.add_mul]; congr 1; omega
            show off + l * i.size + (c - l) * i.size ≤ L.ext
            omega
      · cases hs
    · cases hs

theorem mm2_run (isMax : Bool) : ∀ (vs vs' : List Value) (v v' u : Value), VR ι v v' → VRs ι vs vs' → mm2 isMax v vs = some u →
    ∃ u', (vs'.foldlM (if isMax then Builtin.max2 else Builtin.min2) v').run P w = .ok u' w ∧ VR ι u u'
  | [], vs', v, v', u, hv, hvs, h => by
    rw [hvs.nil_inv]
    simp [mm2] at h; subst h
    exact ⟨v', by simp, hv⟩
  | y :: vs, vs', v, v', u, hv, hvs, h => by
    obtain ⟨y', r, rfl, hy, hr⟩ := hvs.cons_inv
    cases v <;> first | (simp [mm2] at h; done) | skip
    rename_i k x
    cases y <;> first | (simp [mm2] at h; done) | skip
    rename_i k' y
    simp only [mm2] at h
    split at h
    · rename_i hk
      subst hk
      rw [vr_int hv, vr_int hy]
      obtain ⟨u', hu', hvr⟩ := mm2_run isMax vs r _ _ u (.int k _) hr h
      refine ⟨u', ?_, hvr⟩
      rw [List.foldlM_cons, Sem.run_bind]
      cases isMax
      · simp only [Bool.false_eq_true, if_false] at hu' ⊢
        simpa [Builtin.min2] using hu'
      · simp only [if_true] at hu' ⊢
        simpa [Builtin.max2] using hu'
    · cases h

theorem good_mm (s : Sim ι H w) (ht : TR ι N tm a) {isMax : Bool} {xs : Array Operand} (ho : okL xs.toList = true) {tys : Array TypeId} {ty : TypeId} (h : aop (.mm isMax xs.toList) tm H = some (av, H')) :
    Good P (do pure (.value (← (if isMax then Builtin.max_ else Builtin.min_) tys ty (xs.map a.eval)))) ι H w av H' := by
  simp only [aop] at h
  have hr := evs_vr ht xs.toList ho
  cases hm : xs.toList.map (ev tm) with
  | nil => simp [hm] at h
  | cons v rest =>
    rw [hm] at h hr
    simp only at h
    obtain ⟨v', rest', hx', hv, hrest⟩ := hr.cons_inv
    cases hmm : mm2 isMax v rest with
    | none => simp [hmm] at h
    | some u =>
      simp [hmm] at h
      obtain ⟨rfl, rfl⟩ := h
      obtain ⟨u', hu', hvr⟩ := mm2_run (P := P) (w := w) isMax rest rest' v v' u hv hrest hmm
      refine Good.pure (v := u') ?_ hvr s
      have hl : (xs.map a.eval).toList = v' :: rest' := by rw [← hx']; simp
      rw [Sem.run_bind]
      cases isMax
      · simp only [Bool.false_eq_true, if_false] at hu' ⊢
        rw [show (Builtin.min_ tys ty (xs.map a.eval)) = rest'.foldlM Builtin.min2 v' by unfold Builtin.min_; rw [hl]]
        rw [hu']; rfl
      · simp only [if_true] at hu' ⊢
        rw [show (Builtin.max_ tys ty (xs.map a.eval)) = rest'.foldlM Builtin.max2 v' by unfold Builtin.max_; rw [hl]]
        rw [hu']; rfl

/-- A new block of the model, whatever number the abstract one has. -/
def NewR (P : Program) (m : Sem Next) (ι : Emb) (w : World) (k : Nat) (v : Value) (b : Blk) : Prop :=
  ∃ sz vs c t v', b = .rw sz vs ∧ m.run P w = .ok (.value v') (w.alloc (.cells c t)) ∧ (∀ (j : Nat) (v : Value), vs[j]? = some v → ∃ v', c[j]? = some v' ∧ VR ι v v') ∧ vs.length ≤ c.size ∧
    ∀ ι' : Emb, ι' k = some ⟨⟨w.heap.size, 0, none⟩, c.size, sz⟩ → VR ι' v v'
theorem NewR.good {m : Sem Next} {v : Value} {b : Blk} (s : Sim ι H w) (h : NewR P m ι w H.length v b) : Good P m ι H w v (H ++ [b]) := by
  obtain ⟨sz, vs, c, t, v', rfl, hr, hc, hl, hv⟩ := h
  obtain ⟨hs, hf⟩ := s.newRow sz vs c t hc hl
  exact ⟨_, _, _, v', hr, .inl rfl, hv _ (Emb.put_same ..), hs, hf⟩
theorem vrs_cells {vs vs' : List Value} (hr : VRs ι vs vs') : (∀ (j : Nat) (v : Value), vs[j]? = some v → ∃ v', vs'.toArray[j]? = some v' ∧ VR ι v v') ∧ vs.length ≤ vs'.toArray.size :=
  ⟨fun j v hv => by obtain ⟨v', h1, h2⟩ := hr.get hv; exact ⟨v', by simpa using h1, h2⟩, by simp [hr.1]⟩
theorem ptr_at {ι' : Emb} {k : Nat} {L : Loc} (h : ι' k = some L) : VR ι' (.pointer (some ⟨k, 0, none⟩)) (.pointer (some L.base)) := by
  have := VR.ptr (ι := ι') k 0 L h
  simpa [Addr.add] using this

theorem new_alloc {e : TypeId} {z : List Value} (hz : zeroT P e = some z) {k : Nat} {v : Value} {b : Blk} (h : anew (.alloc z) tm k = some (v, b)) :
    NewR P (do pure (.value (← Instr.alloc e true (.tuple #[])))) ι w k v b := by
  simp only [anew] at h
  cases h
  obtain ⟨i, zv, hi, hzz, hzc, hok, hzs⟩ := zeroT_some hz
  obtain ⟨h1, h2⟩ := vrs_cells (okz_vrs (ι := ι) hok)
  refine ⟨_, _, _, e, .pointer (some ⟨w.heap.size, 0, none⟩), rfl, ?_, h1, h2, fun ι' h => ptr_at h⟩
  rw [← hzc]
  simp [Instr.alloc, run_zero hi hzz, newVar, newRow]

theorem new_box (ht : TR ι N tm a) {e : TypeId} {x : Operand} (ho : okO x = true) {k : Nat} {v : Value} {b : Blk} (h : anew (.box x) tm k = some (v, b)) :
    NewR P (do pure (.value (← Instr.box e (a.eval x)))) ι w k v b := by
  simp only [anew] at h
  cases h
  obtain ⟨h1, h2⟩ := vrs_cells (ev_vr ht ho).cells
  refine ⟨_, _, _, e, .pointer (some ⟨w.heap.size, 0, none⟩), rfl, ?_, h1, h2, fun ι' h => ptr_at h⟩
  simp [Instr.box, newVar, newRow]

theorem bfill_length : ∀ (ps : List (Nat × Nat × Value)) (cs r : List Value), bfill cs ps = some r → r.length = cs.length
  | [], cs, r, h => by simp [bfill] at h; rw [h]
  | (off, size, v) :: ps, cs, r, h => by
    simp only [bfill] at h
    split at h
    · rename_i hc
      rw [bfill_length ps _ r h, splice_length]
      simp; omega
    · cases h

theorem new_bslice (ht : TR ι N tm a) {t e : TypeId} (hu : P.underlying t = some (.slice e)) {i : TypeInfo} (hi : P.info? e = some i) {z : List Value} (hz : zeroT P e = some z)
    {len : Nat} {ps : Array (Nat × Operand)} (hle : len * i.size ≤ 2 ^ 24) (ho : okL (ps.toList.map (·.2)) = true)
    {k : Nat} {v : Value} {b : Blk} (h : anew (.bslice i.size len (madeCells z.toArray (len * i.size)).toList (ps.toList.map fun p => (p.1 * i.size, i.size, p.2))) tm k = some (v, b)) :
    NewR P (do pure (.value (← Instr.buildSlice t len (ps.map fun (i, x) => (i, a.eval x))))) ι w k v b := by
  simp only [anew] at h
  obtain ⟨i', zv, hi', hzz, hzc, hok, hzs⟩ := zeroT_some hz
  rw [hi] at hi'; cases hi'
  cases hb : bfill (madeCells z.toArray (len * i.size)).toList ((ps.toList.map fun p => (p.1 * i.size, i.size, p.2)).map fun p => (p.1, p.2.1, ev tm p.2.2)) with
  | none => rw [hb] at h; cases h
  | some cs =>
    rw [hb] at h
    cases h
    have hoz : okz (madeCells z.toArray (len * i.size)).toList = true := by
      unfold okz madeCells
      simp only [List.all_eq_true]
      intro v hv
      simp at hv
      obtain ⟨j, hj, rfl⟩ := hv
      by_cases hz0 : z.length = 0
      · rw [List.eq_nil_of_length_eq_zero hz0]; rfl
      · have hlt : j % z.length < z.length := Nat.mod_lt _ (by omega)
        have := List.all_eq_true.1 hok (z[j % z.length]) (List.getElem_mem hlt)
        simpa [hlt] using this
    have hop : okP (ps.toList.map fun p => (p.1 * i.size, i.size, p.2)) = true := by
      unfold okP
      simp only [List.all_map]
      unfold okL at ho
      simpa [List.all_map] using ho
    obtain ⟨cs', hb', hr⟩ := bfill_vr _ ((ps.toList.map fun p => (p.1 * i.size, i.size, p.2)).map fun p => (p.1, p.2.1, a.eval p.2.2)) (by simp) (parts_vr ht hop) _ _ cs (okz_vrs hoz) hb
    have hm : ∀ q : List (Nat × Operand), (q.map fun p => (p.1, a.eval p.2)).mapM (fun p => ((some (p.1 * i.size, i.size)).map fun q => (q.1, q.2, p.2))) = some ((q.map fun p => (p.1 * i.size, i.size, p.2)).map fun p => (p.1, p.2.1, a.eval p.2.2)) := by
      intro q
      induction q with
      | nil => rfl
      | cons p q ih => simp only [List.map_cons, List.mapM_cons, ih]; rfl
    have hfill := fill_run (fun j => some (j * i.size, i.size)) _ _ (hm ps.toList) (madeCells zv.cells (len * i.size)) cs' (by rw [← hb', ← hzc])
    obtain ⟨hn1, hn2⟩ := vrs_cells hr
    have hlen : cs.length = len * i.size := by rw [bfill_length _ _ _ hb]; simp [size_madeCells]
    refine ⟨_, _, _, e, .slice (some ⟨w.heap.size, 0, none⟩) len len, rfl, ?_, hn1, hn2, fun ι' hι => ?_⟩
    · have hps : (ps.map fun (x : Nat × Operand) => (x.1, a.eval x.2)).toList = ps.toList.map fun p => (p.1, a.eval p.2) := by simp
      have h24 : ¬ (16777216 < len * i.size) := by omega
      by_cases h0 : len * i.size = 0
      · simp only [h0] at hfill
        have hm0 : madeCells zv.cells 0 = #[] := by simp [madeCells]
        rw [hm0] at hfill
        have hr0 : Array.map (fun _ : Nat => (default : Value)) (Array.range 0) = #[] := by apply Array.eq_empty_of_size_eq_zero; simp
        simp [hr0, Instr.buildSlice, run_underlying hu, sizeOf, typeInfo, hi, h0, hfill, newRow]
      · have hfill' : Instr.fill (fun j => some (j * i.size, i.size)) ((Array.range (len * i.size)).map (zv.cells[· % zv.cells.size]!)) (ps.toList.map fun p => (p.1, a.eval p.2)) = some cs'.toArray := hfill
        simp [Instr.buildSlice, run_underlying hu, sizeOf, typeInfo, hi, h0, h24, run_zero hi hzz, hfill', newRow]
    · refine .sl _ 0 len len _ _ hι (Nat.le_refl _) (.inr ⟨by simp [Addr.add], ?_⟩)
      show 0 + len * i.size ≤ cs'.toArray.size
      rw [List.size_toArray, ← hr.1, hlen]; omega


theorem new_mkslice (ht : TR ι N tm a) {t e : TypeId} (hu : P.underlying t = some (.slice e)) {i : TypeInfo} (hi : P.info? e = some i) {z : List Value} (hz : zeroT P e = some z)
    {l c : Operand} (ho : okL [l, c] = true) {k : Nat} {v : Value} {b : Blk} (h : anew (.mkslice i.size i.bytes z l c) tm k = some (v, b)) :
    NewR P (do pure (.value (← Instr.makeSlice t (a.eval l) (a.eval c)))) ι w k v b := by
  simp only [okL, List.all_cons, List.all_nil, Bool.and_true, Bool.and_eq_true] at ho
  simp only [anew] at h
  have hx := ev_vr ht ho.1
  have hy := ev_vr ht ho.2
  obtain ⟨i', zv, hi', hzz, hzc, hok, hzs⟩ := zeroT_some hz
  rw [hi] at hi'; cases hi'
  split at h
  · rename_i k1 l1 k2 c1 e1 e2
    rw [e1] at hx; rw [e2] at hy
    split at h
    · rename_i hc
      obtain ⟨h0, hlc, hb, h63⟩ := hc
      cases h
      have hrun := run_make (P := P) w t e i zv hu hi hzz k1 k2 l1 c1 h0 hlc hb h63
      have hle : l1.toNat * i.size ≤ c1.toNat * i.size := Nat.mul_le_mul_right _ (by omega)
      have hcell : ∀ (n j : Nat), j < n → (madeCells zv.cells n)[j]? = some (zv.cells[j % zv.cells.size]!) := by
        intro n j hj; simp [madeCells, hj]
      have hokz : ∀ j, okC (zv.cells[j % zv.cells.size]!) = true := by
        intro j
        by_cases hz0 : zv.cells.size = 0
        · have : zv.cells = #[] := Array.eq_empty_of_size_eq_zero hz0
          rw [this]; rfl
        · have hlt : j % zv.cells.size < zv.cells.size := Nat.mod_lt _ (by omega)
          have := List.all_eq_true.1 hok (zv.cells[j % zv.cells.size]) (by rw [← hzc]; simp)
          simpa [hlt] using this
      have hn1 : ∀ (j : Nat) (v : Value), (madeCells z.toArray (l1.toNat * i.size)).toList[j]? = some v → ∃ v', (madeCells zv.cells (c1.toNat * i.size))[j]? = some v' ∧ VR ι v v' := (fun j v hv => by
        have hzz' : z.toArray = zv.cells := by rw [← hzc]
        rw [hzz'] at hv
        have hj : j < l1.toNat * i.size := by
          rcases Nat.lt_or_ge j (l1.toNat * i.size) with h | h
          · exact h
          · rw [List.getElem?_eq_none (by simpa [size_madeCells] using h)] at hv; cases hv
        have h1 := hcell _ j hj
        rw [← Array.getElem?_toList, hv] at h1
        cases h1
        exact ⟨_, hcell _ j (by omega), okC_vr (hokz j)⟩)
      refine ⟨_, _, _, e, .slice (some ⟨w.heap.size, 0, none⟩) l1.toNat c1.toNat, rfl, ?_, hn1, by simp [size_madeCells]; exact hle, fun ι' hι => ?_⟩
      · rw [vr_int hx, vr_int hy, Sem.run_bind, hrun]; rfl
      · refine .sl _ 0 _ c1.toNat _ _ hι (by omega) (.inr ⟨by simp [Addr.add], ?_⟩)
        show 0 + c1.toNat * i.size ≤ (madeCells zv.cells (c1.toNat * i.size)).size
        rw [size_madeCells]; omega
    · cases h
  · cases h

theorem good_load (s : Sim ι H w) (ht : TR ι N tm a) {t : TypeId} {n : Nat} {b : Bool} (hsz : szT P t = some (n, b)) {x : Operand} (ho : okO x = true) (h : aop (.load n b x) tm H = some (av, H')) :
    Good P (do pure (.value (← Instr.loadAt t (a.eval x)))) ι H w av H' := by
  simp only [aop] at h
  have hx := ev_vr ht ho
  obtain ⟨i, hi, hin, hagg, h1⟩ := szT_some hsz
  split at h
  · rename_i ad e
    rw [e] at hx
    obtain ⟨bl, off, L, rfl, hv, hL⟩ := hx.ptr_inv
    split at h
    · cases hl : H.load ⟨bl, off, none⟩ n with
      | none => rw [hl] at h; cases h
      | some cs =>
        rw [hl] at h
        cases hm : mkv b cs with
        | none => rw [Option.bind_some, hm] at h; cases h
        | some v =>
          rw [Option.bind_some, hm] at h
          cases h
          obtain ⟨cs', hr, hlen, hcell⟩ := s.load hl hL
          obtain ⟨v', hm', hvv⟩ := VR.of_mkv hr hm
          refine Good.pure (v := v') ?_ hvv s
          have hrun := run_loadCells_list (P := P) w (L.base.add off) cs' hcell
          rw [hlen] at hrun
          rw [hv]
          simp only [Instr.loadAt, Instr.sureAddr, loadVar, Sem.run_bind, Sem.run_pure, Result.andThen_ok, hagg]
          cases b with
          | true =>
            simp only [mkv, if_true, Option.some.injEq] at hm'
            subst hm'
            simp [sizeOf, typeInfo, hi, hin, hrun]
          | false =>
            have hn := h1 rfl
            simp only [mkv, Bool.false_eq_true, if_false] at hm' ⊢
            rw [hn] at hlen
            match cs', hlen, hm', hcell with
            | [u], _, hm', hcell =>
              simp at hm'
              subst hm'
              have := hcell 0 u rfl
              rw [add_add, Nat.add_zero] at this
              simp [this]
    · cases h
  · cases h

theorem good_store (s : Sim ι H w) (ht : TR ι N tm a) {t : TypeId} {i : TypeInfo} (hi : P.info? t = some i) {x y : Operand} (ho : okL [x, y] = true) (h : aop (.store i.size x y) tm H = some (av, H')) :
    Good P (do Instr.storeAt t (a.eval x) (a.eval y); pure .skip) ι H w av H' := by
  simp only [okL, List.all_cons, List.all_nil, Bool.and_true, Bool.and_eq_true] at ho
  simp only [aop] at h
  have hx := ev_vr ht ho.1
  have hy := ev_vr ht ho.2
  split at h
  · rename_i ad e
    rw [e] at hx
    obtain ⟨bl, off, L, rfl, hv, hL⟩ := hx.ptr_inv
    split at h
    · rename_i z vs hb
      split at h
      · rename_i hc
        obtain ⟨hsz, hone, hle0⟩ := hc
        have hle : off + i.size ≤ vs.length := hle0
        clear hle0
        cases h
        obtain ⟨L', cur, t', h1, h2, h3, h4, h5, h6⟩ := s.own bl z vs hb
        rw [hL] at h1; cases h1
        have hbase : L.base = ⟨L.base.block, L.base.off, none⟩ := by cases hq : L.base; simp [hq] at h2; simp [h2]
        have hcl := hy.cells
        have hone' : ∀ v ∈ (a.eval y).cells.toList, v.oneCell' = true := hcl.one hone
        have hlen : (a.eval y).cells.toList.length = i.size := by rw [← hcl.1, Array.length_toList, hsz]
        have hst := run_storeCells_at P L.base.block (L.base.off + off) t' (a.eval y).cells.toList 0 cur w h4 (by rw [hlen]; omega) hone'
        simp only [Nat.add_zero] at hst
        obtain ⟨K, vs', hK, hrv, hcv⟩ := s.read (b := bl) (vs := vs) (by simp [Hp.cells, hb, Blk.cells])
        rw [hL] at hK; cases hK
        have hcur : ∀ (j : Nat) (v : Value), vs'[j]? = some v → cur[L.base.off + j]? = some v := by
          intro j v hv
          have := hcv j v hv
          rw [hbase, add_none] at this
          simpa [World.cell?, h4] using this
        have hsp := splice_get hrv hcl off
        obtain ⟨hs, hf⟩ := s.rewrite hb hL h4 (cur.toList.take (L.base.off + off) ++ (a.eval y).cells.toList ++ cur.toList.drop (L.base.off + off + (a.eval y).cells.toList.length)).toArray
          (by simp only [List.size_toArray, List.length_append, List.length_take, List.length_drop, Array.length_toList]; simp at hlen; omega)
          (splice vs off (ev tm y).cells.toList) (by rw [splice_length _ _ _ (by simp; omega)]; exact h6)
          (fun j v hv => by
            obtain ⟨v', h1, h2⟩ := hsp.get hv
            refine ⟨v', ?_, h2⟩
            simp only [List.getElem?_toArray]
            unfold splice at h1
            rw [List.append_assoc] at h1 ⊢
            have hvl : off + i.size ≤ vs'.length := by rw [← hrv.1]; exact hle
            by_cases hj : j < off
            · rw [List.getElem?_append_left (by simp; omega), List.getElem?_take, if_pos hj] at h1
              rw [List.getElem?_append_left (by simp; omega), List.getElem?_take, if_pos (by omega)]
              simpa using hcur j v' h1
            · rw [List.getElem?_append_right (by simp; omega)] at h1
              rw [List.getElem?_append_right (by simp; omega)]
              simp only [List.length_take, Nat.min_eq_left (show off ≤ vs'.length by omega)] at h1
              have hmin : min (L.base.off + off) cur.toList.length = L.base.off + off := by simp; omega
              rw [List.length_take, hmin]
              rw [show L.base.off + j - (L.base.off + off) = j - off by omega]
              by_cases hj2 : j - off < (a.eval y).cells.toList.length
              · rw [List.getElem?_append_left hj2] at h1 ⊢
                exact h1
              · rw [List.getElem?_append_right (by omega)] at h1 ⊢
                rw [List.getElem?_drop] at h1 ⊢
                have := hcur _ v' h1
                rw [← Array.getElem?_toList] at this
                rw [← this]
                congr 1; omega)
        refine ⟨.skip, ι, _, undef, ?_, .inr ⟨rfl, rfl⟩, undef_vr ι, hs, hf⟩
        rw [hv]
        have hsz' : (a.eval y).cells.size = i.size := by simpa using hlen
        simp only [Instr.storeAt, Instr.sureAddr, storeVar, Sem.run_bind, Sem.run_pure, Result.andThen_ok, sizeOf, typeInfo, run_program, hi, hsz', ne_eq, not_true, if_false]
        rw [hbase, add_none, hst]
        simp
      · cases h
    · cases h
  · cases h

theorem good_append (s : Sim ι H w) (ht : TR ι N tm a) {t ty e : TypeId} (hu : P.underlying t = some (.slice e)) {i : TypeInfo} (hi : P.info? e = some i) {z : List Value} (hz : zeroT P e = some z)
    (hsz : 0 < i.size) (hby : 0 < i.bytes) {x y : Operand} (ho : okL [x, y] = true) (h : aop (.append i.size i.bytes x y) tm H = some (av, H')) :
    Good P (do pure (.value (← Builtin.append_ #[t, t] ty #[a.eval x, a.eval y]))) ι H w av H' := by
  simp only [okL, List.all_cons, List.all_nil, Bool.and_true, Bool.and_eq_true] at ho
  simp only [aop] at h
  obtain ⟨i', zv, hi', hzz, hzc, hok, hzs⟩ := zeroT_some hz
  rw [hi] at hi'; cases hi'
  obtain ⟨v, ι', w', hr, hv, hs, hf⟩ := aappend_run (P := P) (ty := ty) s hu hi hzz hzs hsz hby h (ev_vr ht ho.1) (ev_vr ht ho.2)
  exact ⟨.value v, ι', w', v, by rw [Sem.run_bind, hr]; rfl, .inl rfl, hv, hs, hf⟩

end
end Go.Ab
