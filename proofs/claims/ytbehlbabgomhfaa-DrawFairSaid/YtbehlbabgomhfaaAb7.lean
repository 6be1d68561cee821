/- The abstract machine, part 7: the model follows each operation but calls. Own work. -/
import Derived.Test.YtbehlbabgomhfaaAb6
namespace Go.Ab
open Go

section
variable {P : Program} {ι : Emb} {H H' : Hp} {w : World} {N : Nat} {tm : Tm} {a : Act} {av : Value}

theorem vr_int {v' : Value} {k : IntKind} {n : Int} {ι : Emb} (h : VR ι (.int k n) v') : v' = .int k n := by cases h; rfl
theorem vr_bool {v' : Value} {b : Bool} {ι : Emb} (h : VR ι (.bool b) v') : v' = .bool b := by cases h; rfl
theorem vr_str {v' : Value} {b : ByteArray} {ι : Emb} (h : VR ι (.string b) v') : v' = .string b := by cases h; rfl

theorem good_pick (s : Sim ι H w) (ht : TR ι N tm a) {c x y : Operand} (ho : okL [c, x, y] = true) (h : aop (.pick c x y) tm H = some (av, H')) :
    Good P (do pure (.value (if ← asBool (a.eval c) then a.eval x else a.eval y))) ι H w av H' := by
  simp only [okL, List.all_cons, List.all_nil, Bool.and_true, Bool.and_eq_true] at ho
  simp only [aop] at h
  have hc := ev_vr ht ho.1
  split at h
  · rename_i t e
    cases h
    rw [e] at hc
    have := vr_bool hc
    refine Good.pure (v := if t then a.eval x else a.eval y) (by cases t <;> simp [this, asBool]) ?_ s
    cases t
    · exact ev_vr ht ho.2.2
    · exact ev_vr ht ho.2.1
  · cases h

theorem good_bin (s : Sim ι H w) (ht : TR ι N tm a) {op : BinOp} {t : TypeId} {x y : Operand} (ho : okL [x, y] = true) (h : aop (.bin op x y) tm H = some (av, H')) :
    Good P (do pure (.value (← (do eqGuard op t x y (a.eval x) (a.eval y); binOp op t (a.eval x) (a.eval y) : Sem Value)))) ι H w av H' := by
  simp only [okL, List.all_cons, List.all_nil, Bool.and_true, Bool.and_eq_true] at ho
  simp only [aop] at h
  have hx := ev_vr ht ho.1
  have hy := ev_vr ht ho.2
  split at h
  · rename_i k n k' n' e1 e2
    rw [e1] at hx; rw [e2] at hy
    rw [vr_int hx, vr_int hy]
    cases hb : ibin op k n k' n' with
    | none => simp [hb] at h
    | some v =>
      simp [hb] at h
      obtain ⟨rfl, rfl⟩ := h
      refine Good.pure (v := v) ?_ (ibin_vr hb) s
      rw [Sem.run_bind, ibin_run hb t x y w]; rfl
  · cases h

theorem good_eq (s : Sim ι H w) (ht : TR ι N tm a) {neg : Bool} {t : TypeId} {x y : Operand} (ho : okL [x, y] = true) (h : aop (.eq neg (eqKOf P t) x y) tm H = some (av, H')) :
    Good P (do pure (.value (← (do eqGuard (if neg then .neq else .eql) t x y (a.eval x) (a.eval y); binOp (if neg then .neq else .eql) t (a.eval x) (a.eval y) : Sem Value)))) ι H w av H' := by
  simp only [okL, List.all_cons, List.all_nil, Bool.and_true, Bool.and_eq_true] at ho
  simp only [aop] at h
  have hx := ev_vr ht ho.1
  have hy := ev_vr ht ho.2
  split at h
  · rename_i k n k' n' e1 e2
    rw [e1] at hx; rw [e2] at hy
    rw [vr_int hx, vr_int hy]
    cases hb : ibin (if neg then .neq else .eql) k n k' n' with
    | none => simp [hb] at h
    | some v =>
      simp [hb] at h
      obtain ⟨rfl, rfl⟩ := h
      refine Good.pure (v := v) ?_ (ibin_vr hb) s
      rw [Sem.run_bind, ibin_run hb t x y w]; rfl
  · cases hb : aEq (eqKOf P t) (ev tm x) (ev tm y) with
    | none => simp [hb] at h
    | some b =>
      simp [hb] at h
      obtain ⟨rfl, rfl⟩ := h
      refine Good.pure (v := .bool (if neg then !b else b)) ?_ (.bool _) s
      rw [Sem.run_bind, aEq_run (aEq_vr hb hx hy) neg x y w]; rfl

theorem good_un (s : Sim ι H w) (ht : TR ι N tm a) {op : UnOp} {x : Operand} (ho : okO x = true) (h : aop (.un op x) tm H = some (av, H')) :
    Good P (do pure (.value (← Op.unary op (a.eval x)))) ι H w av H' := by
  simp only [aop] at h
  have hx := ev_vr ht ho
  split at h
  · rename_i k n e
    rw [e] at hx; rw [vr_int hx]; cases h
    exact Good.pure (v := .int k (k.wrap (0 - n))) (by simp [Op.unary, Op.intArith]) (.int _ _) s
  · rename_i b e
    rw [e] at hx; rw [vr_bool hx]; cases h
    exact Good.pure (v := .bool !b) (by simp [Op.unary]) (.bool _) s
  · cases h

theorem good_conv (s : Sim ι H w) (ht : TR ι N tm a) {src dst : TypeId} {k : IntKind} {d : TypeDesc} (hs : P.underlying src = some d) (hd : P.underlying dst = some (.int k)) {x : Operand} (ho : okO x = true)
    (h : aop (.conv k x) tm H = some (av, H')) : Good P (do pure (.value (← convert src dst (a.eval x)))) ι H w av H' := by
  simp only [aop] at h
  have hx := ev_vr ht ho
  split at h
  · rename_i k' n e
    rw [e] at hx; rw [vr_int hx]; cases h
    exact Good.pure (v := .int k (k.wrap n)) (by simp [convert, run_underlying hs, run_underlying hd, Conv.intToInt]) (.int _ _) s
  · cases h

theorem good_extract (s : Sim ι H w) (ht : TR ι N tm a) {x : Operand} {i : Nat} (ho : okO x = true) (h : aop (.extract x i) tm H = some (av, H')) :
    Good P (do pure (.value (← Instr.extract (a.eval x) i))) ι H w av H' := by
  simp only [aop] at h
  have hx := ev_vr ht ho
  split at h
  · rename_i vs e
    rw [e] at hx
    generalize a.eval x = u at *
    cases hx with
    | tup _ cs' hs hv =>
      cases hi : vs[i]? with
      | none => simp [hi] at h
      | some v =>
        simp [hi] at h
        obtain ⟨rfl, rfl⟩ := h
        have hlt : i < vs.size := (Array.getElem?_eq_some_iff.1 hi).1
        have hi' : cs'[i]? = some cs'[i] := by simp [hs ▸ hlt]
        exact Good.pure (v := cs'[i]'(hs ▸ hlt)) (by simp [Instr.extract, hi']) (hv i _ _ hi hi') s
  · cases h

theorem good_field (s : Sim ι H w) (ht : TR ι N tm a) {x : Operand} {t : TypeId} {fs : Array Field} (hu : P.underlying t = some (.struct fs)) {f : Nat} {fd : Field} (hf : fs[f]? = some fd) {n : Nat} {b : Bool}
    (hsz : szT P fd.type = some (n, b)) (ho : okO x = true) (h : aop (.field fd.offset n b x) tm H = some (av, H')) :
    Good P (do pure (.value (← Instr.field t (a.eval x) f))) ι H w av H' := by
  simp only [aop] at h
  have hx := ev_vr ht ho
  split at h
  · rename_i cs e
    rw [e] at hx
    generalize a.eval x = u at *
    cases hx with
    | agg _ cs' hs hv =>
      split at h
      · rename_i hle
        cases hm : mkv b ((cs.toList.drop fd.offset).take n) with
        | none => simp [hm] at h
        | some v =>
          simp [hm] at h
          obtain ⟨rfl, rfl⟩ := h
          have hr : VRs ι cs.toList cs'.toList := VR.cells (.agg _ _ hs hv)
          obtain ⟨v', hm', hvv⟩ := VR.of_mkv ((hr.drop fd.offset).take n) hm
          exact Good.pure (v := v') (by simp [Instr.field, run_underlying hu, hf, asAgg, run_part_mkv hsz (by omega) hm']) hvv s
      · cases h
  · cases h

theorem good_nilchk (s : Sim ι H w) (ht : TR ι N tm a) {o : Oper} {x : Operand} (hop : o.op = .nilCheck x) (ho : okO x = true) (h : aop (.nilchk x) tm H = some (av, H')) :
    Good P (execOp a.eval o) ι H w av H' := by
  simp only [aop] at h
  have hx := ev_vr ht ho
  split at h
  · rename_i ad e
    rw [e] at hx; cases h
    obtain ⟨b, off, L, rfl, hv, hL⟩ := hx.ptr_inv
    exact Good.pure (v := .pointer (some (L.base.add off))) (by simp [execOp, hop, hv]) (.ptr b off L hL) s
  · rename_i f x1 x2 e
    rw [e] at hx; cases h
    generalize hu : a.eval x = u at *
    cases hx with
    | fn _ _ cs' hs hv => exact Good.pure (v := .func (.func f) #[] cs') (by simp [execOp, hop, hu]) (.fn _ _ _ hs hv) s
  · cases h

theorem good_faddr (s : Sim ι H w) (ht : TR ι N tm a) {x : Operand} {t : TypeId} {fs : Array Field} (hu : P.underlying t = some (.struct fs)) {f : Nat} {fd : Field} (hf : fs[f]? = some fd) {i : TypeInfo}
    (hi : P.info? fd.type = some i) (hsz : i.size ≠ 0) (ho : okO x = true) (h : aop (.faddr fd.offset x) tm H = some (av, H')) :
    Good P (do pure (.value (← Instr.fieldAt t (a.eval x) f))) ι H w av H' := by
  simp only [aop] at h
  have hx := ev_vr ht ho
  split at h
  · rename_i ad e
    rw [e] at hx; cases h
    obtain ⟨b, off, L, rfl, hv, hL⟩ := hx.ptr_inv
    refine Good.pure (v := .pointer (some (L.base.add (off + fd.offset)))) ?_ (.ptr b _ L hL) s
    simp [Instr.fieldAt, run_underlying hu, hf, hv, Instr.sureAddr, fieldPlace, sizeOf, typeInfo, hi, hsz, add_add]
  · cases h

theorem good_idxs (s : Sim ι H w) (ht : TR ι N tm a) {x ix : Operand} {t e : TypeId} (hu : P.underlying t = some (.slice e)) {i : TypeInfo} (hi : P.info? e = some i)
    (ho : okL [x, ix] = true) (h : aop (.idxs i.size x ix) tm H = some (av, H')) : Good P (do pure (.value (← Instr.indexAt t (a.eval x) (a.eval ix)))) ι H w av H' := by
  simp only [okL, List.all_cons, List.all_nil, Bool.and_true, Bool.and_eq_true] at ho
  simp only [aop] at h
  have hx := ev_vr ht ho.1
  have hy := ev_vr ht ho.2
  split at h
  · rename_i ad n m k j e1 e2
    rw [e1] at hx; rw [e2] at hy
    split at h
    · rename_i hj
      cases h
      obtain ⟨b, off, c, L, A, rfl, rfl, hv, hL, hn, hc⟩ := hx.slice_inv
      have hc0 : c ≠ 0 := by omega
      obtain ⟨hA, _⟩ := hc.resolve_left hc0
      subst hA
      refine Good.pure (v := .pointer (some (L.base.add (off + j.toNat * i.size)))) ?_ (.ptr b _ L hL) s
      simp [Instr.indexAt, run_underlying hu, hv, vr_int hy, asIntOf, hj.1, hj.2, sizeOf, typeInfo, hi, add_add]
    · cases h
  · cases h

theorem good_idxa (s : Sim ι H w) (ht : TR ι N tm a) {x ix : Operand} {t e : TypeId} {len : Nat} (hu : P.underlying t = some (.array len e)) {i : TypeInfo} (hi : P.info? e = some i)
    (ho : okL [x, ix] = true) (h : aop (.idxa len i.size x ix) tm H = some (av, H')) : Good P (do pure (.value (← Instr.indexAt t (a.eval x) (a.eval ix)))) ι H w av H' := by
  simp only [okL, List.all_cons, List.all_nil, Bool.and_true, Bool.and_eq_true] at ho
  simp only [aop] at h
  have hx := ev_vr ht ho.1
  have hy := ev_vr ht ho.2
  split at h
  · rename_i ad k j e1 e2
    rw [e1] at hx; rw [e2] at hy
    split at h
    · rename_i hj
      cases h
      obtain ⟨b, off, L, rfl, hv, hL⟩ := hx.ptr_inv
      refine Good.pure (v := .pointer (some (L.base.add (off + j.toNat * i.size)))) ?_ (.ptr b _ L hL) s
      simp [Instr.indexAt, run_underlying hu, hv, vr_int hy, asIntOf, Instr.sureAddr, hj.1, hj.2, sizeOf, typeInfo, hi, add_add]
    · cases h
  · cases h

theorem good_idx (s : Sim ι H w) (ht : TR ι N tm a) {x ix : Operand} {t e : TypeId} {len n : Nat} {b : Bool} (hu : P.underlying t = some (.array len e)) (hsz : szT P e = some (n, b))
    (ho : okL [x, ix] = true) (h : aop (.idx len n b x ix) tm H = some (av, H')) : Good P (do pure (.value (← Instr.index t (a.eval x) (a.eval ix)))) ι H w av H' := by
  simp only [okL, List.all_cons, List.all_nil, Bool.and_true, Bool.and_eq_true] at ho
  simp only [aop] at h
  have hx := ev_vr ht ho.1
  have hy := ev_vr ht ho.2
  split at h
  · rename_i cs k j e1 e2
    rw [e1] at hx; rw [e2] at hy
    split at h
    · rename_i hj
      obtain ⟨i, hi, hisz, _, _⟩ := szT_some hsz
      rw [vr_int hy]
      generalize a.eval x = u at *
      cases hx with
      | agg _ cs' hs hv =>
        cases hm : mkv b ((cs.toList.drop (j.toNat * n)).take n) with
        | none => simp [hm] at h
        | some v =>
          simp [hm] at h
          obtain ⟨rfl, rfl⟩ := h
          have hr : VRs ι cs.toList cs'.toList := VR.cells (.agg _ _ hs hv)
          obtain ⟨v', hm', hvv⟩ := VR.of_mkv ((hr.drop (j.toNat * n)).take n) hm
          refine Good.pure (v := v') ?_ hvv s
          simp [Instr.index, run_underlying hu, asIntOf, hj.1, hj.2.1, sizeOf, typeInfo, hi, hisz, run_part_mkv hsz (by have := hj.2.2; omega) hm']
    · cases h
  · cases h

theorem good_idxstr (s : Sim ι H w) (ht : TR ι N tm a) {x ix : Operand} {t : TypeId} (hu : P.underlying t = some .string)
    (ho : okL [x, ix] = true) (h : aop (.idxstr x ix) tm H = some (av, H')) : Good P (do pure (.value (← Instr.index t (a.eval x) (a.eval ix)))) ι H w av H' := by
  simp only [okL, List.all_cons, List.all_nil, Bool.and_true, Bool.and_eq_true] at ho
  simp only [aop] at h
  have hx := ev_vr ht ho.1
  have hy := ev_vr ht ho.2
  split at h
  · rename_i cs k j e1 e2
    rw [e1] at hx; rw [e2] at hy
    split at h
    · rename_i hj
      rw [vr_int hy, vr_str hx]
      cases hb : cs[j.toNat]? with
      | none => simp [hb] at h
      | some v =>
        simp [hb] at h
        obtain ⟨rfl, rfl⟩ := h
        exact Good.pure (v := .int .u8 v.toNat) (by simp [Instr.index, run_underlying hu, asIntOf, hj, hb]) (.int _ _) s
    · cases h
  · cases h

theorem good_len (s : Sim ι H w) (ht : TR ι N tm a) {x : Operand} {t ty e : TypeId} (hu : P.underlying t = some (.slice e))
    (ho : okO x = true) (h : aop (.len x) tm H = some (av, H')) : Good P (do pure (.value (← Builtin.len_ #[t] ty #[a.eval x]))) ι H w av H' := by
  simp only [aop] at h
  have hx := ev_vr ht ho
  split at h
  · rename_i ad n m e
    rw [e] at hx; cases h
    cases ad with
    | none => obtain ⟨h1, h2, _⟩ := hx.snil_inv; subst h2; rw [h1]; exact Good.pure (v := .int .i64 0) (by simp [Builtin.len_, run_underlying hu, goInt]) (.int _ _) s
    | some ad =>
      obtain ⟨b, off, c, L, A, rfl, rfl, hv, hL, hn, hc⟩ := hx.slice_inv
      rw [hv]
      exact Good.pure (v := .int .i64 m) (by simp [Builtin.len_, run_underlying hu, goInt]) (.int _ _) s
  · cases h
theorem good_lens (s : Sim ι H w) (ht : TR ι N tm a) {x : Operand} {t ty : TypeId} (hu : P.underlying t = some .string)
    (ho : okO x = true) (h : aop (.lens x) tm H = some (av, H')) : Good P (do pure (.value (← Builtin.len_ #[t] ty #[a.eval x]))) ι H w av H' := by
  simp only [aop] at h
  have hx := ev_vr ht ho
  split at h
  · rename_i str e
    rw [e] at hx; cases h
    rw [vr_str hx]
    exact Good.pure (v := .int .i64 str.size) (by simp [Builtin.len_, run_underlying hu, goInt]) (.int _ _) s
  · cases h

end
end Go.Ab
