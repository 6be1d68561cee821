/- The abstract machine, part 9: one operation, whichever. Own work. -/
import Derived.Test.YtbehlbabgomhfaaAb8
namespace Go.Ab
open Go

theorem new_good {P : Program} {m : Sem Next} {ι : Emb} {H H' : Hp} {w : World} {tm : Tm} {o : AOp} {av : Value} (s : Sim ι H w) (h : ((anew o tm H.length).map fun p => (p.1, H ++ [p.2])) = some (av, H'))
    (hr : ∀ v b, anew o tm H.length = some (v, b) → NewR P m ι w H.length v b) : Good P m ι H w av H' := by
  cases hn : anew o tm H.length with
  | none => rw [hn] at h; cases h
  | some p => rw [hn] at h; cases h; exact (hr p.1 p.2 hn).good s

theorem no_bad {tm : Tm} {H : Hp} {r : Value × Hp} (h : aop .bad tm H = some r) : False := by simp [aop] at h

set_option maxHeartbeats 1000000 in
theorem builtin_good {P : Program} {ι : Emb} {H H' : Hp} {w : World} {N : Nat} {tm : Tm} {a : Act} {av : Value} {o : Oper} {b : Builtin} {args : Array Operand} {tys : Array TypeId}
    (s : Sim ι H w) (ht : TR ι N tm a) (hop : o.op = .call ⟨.builtin b, args, tys⟩) (ho : okL args.toList = true)
    (h : aop (cBuiltin P b tys.toList args.toList) tm H = some (av, H')) : Good P (execOp a.eval o) ι H w av H' := by
  have hexec : ∀ m : Sem Value, builtin b tys o.type (args.map fun | .const _ => true | _ => false) (args.map a.eval) = (do pure (.value (← m))) → Good P (do pure (.value (← m))) ι H w av H' → Good P (execOp a.eval o) ι H w av H' := by
    intro m hm hg
    have : execOp a.eval o = (do pure (.value (← m))) := by
      unfold execOp
      simp only [hop, resolve, pure_bind, invoke]
      exact hm
    rw [this]; exact hg
  unfold cBuiltin at h
  split at h
  · rename_i t x h2 h3
    have ha : args = #[x] := by apply Array.ext'; simpa using h3
    have hty : tys = #[t] := by apply Array.ext'; simpa using h2
    subst ha; subst hty
    simp only [okL, List.all_cons, List.all_nil, Bool.and_true] at ho
    split at h
    · rename_i hu
      exact hexec _ (by simp [builtin]) (good_len (ty := o.type) s ht hu ho h)
    · rename_i hu
      exact hexec _ (by simp [builtin]) (good_lens (ty := o.type) s ht hu ho h)
    · exact (no_bad h).elim
  · rename_i t u x y h2 h3
    have ha : args = #[x, y] := by apply Array.ext'; simpa using h3
    have hty : tys = #[t, u] := by apply Array.ext'; simpa using h2
    subst ha; subst hty
    split at h
    · rename_i htu
      subst htu
      split at h
      · rename_i e hu
        split at h
        · rename_i i z hi hz
          split at h
          · rename_i hc
            exact hexec _ (by simp [builtin]) (good_append (ty := o.type) s ht hu hi hz hc.1 hc.2 ho h)
          · exact (no_bad h).elim
        · exact (no_bad h).elim
      · exact (no_bad h).elim
    · exact (no_bad h).elim
  · have hg := good_mm (P := P) (tys := tys) (ty := o.type) s ht ho h
    simp only [Bool.false_eq_true, if_false] at hg
    exact hexec _ rfl hg
  · have hg := good_mm (P := P) (tys := tys) (ty := o.type) s ht ho h
    simp only [if_true] at hg
    exact hexec _ rfl hg
  · exact (no_bad h).elim

set_option maxHeartbeats 2000000 in
theorem op_good {P : Program} {ι : Emb} {H H' : Hp} {w : World} {N : Nat} {tm : Tm} {a : Act} {av : Value} {o : Oper} (s : Sim ι H w) (ht : TR ι N tm a)
    (h : aop (cOp P o) tm H = some (av, H')) : Good P (execOp a.eval o) ι H w av H' := by
  have hx : ∀ m : Sem Next, execOp a.eval o = m → Good P m ι H w av H' → Good P (execOp a.eval o) ι H w av H' := fun m e g => e ▸ g
  unfold cOp at h
  split at h
  · -- move
    rename_i x hop
    split at h
    · rename_i ho
      simp only [aop] at h; cases h
      exact hx _ (by simp [execOp, hop]) (Good.pure (m := pure (.value (a.eval x))) rfl (ev_vr ht ho) s)
    · exact (no_bad h).elim
  · rename_i x hop
    split at h
    · rename_i ho
      simp only [aop] at h; cases h
      exact hx _ (by simp [execOp, hop]) (Good.pure (m := pure (.value (a.eval x))) rfl (ev_vr ht ho) s)
    · exact (no_bad h).elim
  · rename_i c x y hop
    split at h
    · rename_i ho
      exact hx _ (by unfold execOp; rw [hop]) (good_pick s ht ho h)
    · exact (no_bad h).elim
  · rename_i op t x y yt hop
    split at h
    · rename_i ho
      split at h
      · exact hx _ (by unfold execOp; rw [hop]) (good_bin s ht ho h)
      · exact hx _ (by unfold execOp; rw [hop]) (good_bin s ht ho h)
      · rename_i k hk
        exact hx _ (by unfold execOp; rw [hop]; rfl) (good_eq (neg := false) (t := t) s ht ho h)
      · rename_i k hk
        exact hx _ (by unfold execOp; rw [hop]; rfl) (good_eq (neg := true) (t := t) s ht ho h)
      · exact hx _ (by unfold execOp; rw [hop]) (good_bin s ht ho h)
    · exact (no_bad h).elim
  · rename_i op t x hop
    split at h
    · rename_i ho
      exact hx _ (by unfold execOp; rw [hop]) (good_un s ht ho h)
    · exact (no_bad h).elim
  · rename_i src dst x hop
    split at h
    · rename_i ho
      split at h
      · rename_i d k h1 h2
        exact hx _ (by unfold execOp; rw [hop]) (good_conv s ht h1 h2 ho h)
      · exact (no_bad h).elim
    · exact (no_bad h).elim
  · rename_i t ps hop
    split at h
    · rename_i z pl hz hpl
      split at h
      · rename_i l hl
        split at h
        · rename_i ho
          exact hx _ (by unfold execOp; rw [hop]) (good_build s ht hz hpl hl ho h)
        · exact (no_bad h).elim
      · exact (no_bad h).elim
    · exact (no_bad h).elim
  · rename_i x i hop
    split at h
    · rename_i ho
      exact hx _ (by unfold execOp; rw [hop]) (good_extract s ht ho h)
    · exact (no_bad h).elim
  · rename_i t x f hop
    split at h
    · rename_i ho
      split at h
      · rename_i fs hu
        split at h
        · rename_i fd hf
          split at h
          · rename_i n b hsz
            exact hx _ (by unfold execOp; rw [hop]) (good_field s ht hu hf hsz ho h)
          · exact (no_bad h).elim
        · exact (no_bad h).elim
      · exact (no_bad h).elim
    · exact (no_bad h).elim
  · rename_i fn first caps hop
    split at h
    · rename_i ho
      exact hx _ (by unfold execOp; rw [hop]) (good_mkfn s ht ho h)
    · exact (no_bad h).elim
  · rename_i t x hop
    split at h
    · rename_i ho
      exact hx _ (by unfold execOp; rw [hop]) (good_iface s ht ho.1 ho.2 h)
    · exact (no_bad h).elim
  · rename_i x hop
    split at h
    · rename_i ho
      exact good_nilchk s ht hop ho h
    · exact (no_bad h).elim
  · rename_i t x f hop
    split at h
    · rename_i ho
      split at h
      · rename_i fs hu
        split at h
        · rename_i fd hf
          split at h
          · rename_i i hi
            split at h
            · rename_i hsz
              exact hx _ (by unfold execOp; rw [hop]) (good_faddr s ht hu hf hi hsz ho h)
            · exact (no_bad h).elim
          · exact (no_bad h).elim
        · exact (no_bad h).elim
      · exact (no_bad h).elim
    · exact (no_bad h).elim
  · rename_i t x i hop
    split at h
    · rename_i ho
      split at h
      · rename_i e hu
        split at h
        · rename_i inf hi
          exact hx _ (by unfold execOp; rw [hop]) (good_idxs s ht hu hi ho h)
        · exact (no_bad h).elim
      · rename_i n e hu
        split at h
        · rename_i inf hi
          exact hx _ (by unfold execOp; rw [hop]) (good_idxa s ht hu hi ho h)
        · exact (no_bad h).elim
      · exact (no_bad h).elim
    · exact (no_bad h).elim
  · rename_i t x i hop
    split at h
    · rename_i ho
      split at h
      · rename_i hu
        exact hx _ (by unfold execOp; rw [hop]) (good_idxstr s ht hu ho h)
      · rename_i n e hu
        split at h
        · rename_i m b hsz
          exact hx _ (by unfold execOp; rw [hop]) (good_idx s ht hu hsz ho h)
        · exact (no_bad h).elim
      · exact (no_bad h).elim
    · exact (no_bad h).elim
  · rename_i t x lo hi hop
    split at h
    · rename_i ho
      split at h
      · rename_i e hu
        split at h
        · rename_i inf hinf
          exact hx _ (by unfold execOp; rw [hop]; rfl) (good_slice s ht hu hinf ho.1 ho.2.1 ho.2.2 h)
        · exact (no_bad h).elim
      · exact (no_bad h).elim
    · exact (no_bad h).elim
  · rename_i e hop
    split at h
    · rename_i z hz
      exact hx _ (by unfold execOp; rw [hop]) (new_good (o := .alloc z) (tm := tm) s (by simpa only [aop] using h) fun v b hn => new_alloc hz hn)
    · exact (no_bad h).elim
  · rename_i e x hop
    split at h
    · rename_i ho
      exact hx _ (by unfold execOp; rw [hop]) (new_good (o := .box x) (tm := tm) s (by simpa only [aop] using h) fun v b hn => new_box ht ho hn)
    · exact (no_bad h).elim
  · rename_i t l c hop
    split at h
    · rename_i ho
      split at h
      · rename_i e hu
        split at h
        · rename_i i z hi hz
          exact hx _ (by unfold execOp; rw [hop]) (new_good (o := .mkslice i.size i.bytes z l c) (tm := tm) s (by simpa only [aop] using h) fun v b hn => new_mkslice ht hu hi hz ho hn)
        · exact (no_bad h).elim
      · exact (no_bad h).elim
    · exact (no_bad h).elim
  · rename_i t len ps hop
    split at h
    · rename_i e hu
      split at h
      · rename_i i z hi hz
        split at h
        · rename_i hc
          exact hx _ (by unfold execOp; rw [hop]) (new_good (tm := tm) s (by simpa only [aop] using h) fun v b hn => new_bslice ht hu hi hz hc.1 hc.2 hn)
        · exact (no_bad h).elim
      · exact (no_bad h).elim
    · exact (no_bad h).elim
  · rename_i t x hop
    split at h
    · rename_i ho
      split at h
      · rename_i n b hsz
        exact hx _ (by unfold execOp; rw [hop]) (good_load s ht hsz ho h)
      · exact (no_bad h).elim
    · exact (no_bad h).elim
  · rename_i t x y hop
    split at h
    · rename_i ho
      split at h
      · rename_i i hi
        exact hx _ (by unfold execOp; rw [hop]) (good_store s ht hi ho h)
      · exact (no_bad h).elim
    · exact (no_bad h).elim
  · rename_i c hop
    split at h
    · rename_i ho
      obtain ⟨callee, args, tys⟩ := c
      simp only at h ho hop
      split at h
      · exact builtin_good s ht hop ho h
      · simp [aop] at h
      · split at h
        · simp [aop] at h
        · exact (no_bad h).elim
      · exact (no_bad h).elim
    · exact (no_bad h).elim
  · exact (no_bad h).elim

theorem no_new {tm : Tm} {k : Nat} {o : AOp} {r : Value × Blk} (h : anew o tm k = some r) : (∃ z, o = .alloc z) ∨ (∃ x, o = .box x) ∨ (∃ a b c d e, o = .mkslice a b c d e) ∨ ∃ a b c d, o = .bslice a b c d := by
  cases o <;> simp [anew] at h ⊢

set_option maxHeartbeats 2000000 in
theorem op_new {P : Program} {ι : Emb} {w : World} {N : Nat} {tm : Tm} {a : Act} {o : Oper} {k : Nat} {v : Value} {b : Blk} (ht : TR ι N tm a)
    (h : anew (cOp P o) tm k = some (v, b)) : NewR P (execOp a.eval o) ι w k v b := by
  have hx : ∀ m : Sem Next, execOp a.eval o = m → NewR P m ι w k v b → NewR P (execOp a.eval o) ι w k v b := fun m e g => e ▸ g
  unfold cOp at h
  split at h
  case h_17 e hop =>
    split at h
    · rename_i z hz
      exact hx _ (by unfold execOp; rw [hop]) (new_alloc hz h)
    · simp [anew] at h
  case h_18 e x hop =>
    split at h
    · rename_i ho
      exact hx _ (by unfold execOp; rw [hop]) (new_box ht ho h)
    · simp [anew] at h
  case h_19 t l c hop =>
    split at h
    · rename_i ho
      split at h
      · rename_i e hu
        split at h
        · rename_i i z hi hz
          exact hx _ (by unfold execOp; rw [hop]) (new_mkslice ht hu hi hz ho h)
        · simp [anew] at h
      · simp [anew] at h
    · simp [anew] at h
  case h_20 t len ps hop =>
    split at h
    · rename_i e hu
      split at h
      · rename_i i z hi hz
        split at h
        · rename_i hc
          exact hx _ (by unfold execOp; rw [hop]) (new_bslice ht hu hi hz hc.1 hc.2 h)
        · simp [anew] at h
      · simp [anew] at h
    · simp [anew] at h
  case h_23 c hop =>
    exfalso
    split at h
    · split at h
      · unfold cBuiltin at h
        (repeat' split at h) <;> simp [anew] at h
      · simp [anew] at h
      · split at h <;> simp [anew] at h
      · simp [anew] at h
    · simp [anew] at h
  all_goals (exfalso; (repeat' split at h) <;> simp [anew] at h)

end Go.Ab
