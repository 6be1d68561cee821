/- The abstract machine, part 11: the model follows calls, and regions in the order of the text. Own work. -/
import Derived.Test.YtbehlbabgomhfaaAb10
namespace Go.Ab
open Go

def CallOk (P : Program) (call : CallF) : Prop :=
  ∀ f args H r H', call f args H = some (r, H') →
    (∃ fn, P.funcs[f]? = some fn ∧ (fn.name == "runtime.NumGoroutine") = false ∧ fn.body.isNone = false) ∧
    ∀ (ι : Emb) (w : World) (vargs : Array Value), Sim ι H w → VRs ι args vargs.toList →
      Calls P f vargs w (fun e w' => ∃ ι' v, e = .returned v ∧ VR ι' r v ∧ Sim ι' H' w' ∧ Fr ι H w ι' H' w')

theorem cBuiltin_kind {P : Program} {b : Builtin} {ty : List TypeId} {xs : List Operand} : (∀ f args, cBuiltin P b ty xs ≠ .call f args) ∧ (∀ x args, cBuiltin P b ty xs ≠ .callv x args) := by
  unfold cBuiltin
  constructor <;> intros <;> (repeat' split) <;> simp

theorem cOp_call {P : Program} {o : Oper} {f : FuncId} {args : List Operand} (h : cOp P o = .call f args) :
    ∃ c, o.op = .call c ∧ c.callee = .value (.func f) ∧ c.args.toList = args ∧ okL args = true := by
  unfold cOp at h
  split at h
  case h_23 c hop =>
    split at h
    · rename_i ho
      split at h
      · exact absurd h (cBuiltin_kind.1 _ _)
      · rename_i f' hc
        cases h
        exact ⟨c, hop, hc, rfl, ho⟩
      · split at h <;> cases h
      · cases h
    · cases h
  all_goals (exfalso; (repeat' split at h) <;> cases h)

theorem cOp_callv {P : Program} {o : Oper} {x : Operand} {args : List Operand} (h : cOp P o = .callv x args) :
    ∃ c, o.op = .call c ∧ c.callee = .value x ∧ c.args.toList = args ∧ okL args = true ∧ okO x = true := by
  unfold cOp at h
  split at h
  case h_23 c hop =>
    split at h
    · rename_i ho
      split at h
      · exact absurd h (cBuiltin_kind.2 _ _)
      · cases h
      · rename_i x' _ hc
        split at h
        · rename_i hx
          cases h
          exact ⟨c, hop, hc, rfl, ho, hx⟩
        · cases h
      · cases h
    · cases h
  all_goals (exfalso; (repeat' split at h) <;> cases h)

section
variable {P : Program} {call : CallF} {ι : Emb} {H H' : Hp} {w : World} {N : Nat} {tm : Tm} {a : Act} {av : Value} {o : Oper}

theorem arun_ok (hc : CallOk P call) (s : Sim ι H w) (ht : TR ι N tm a) (h : arun call (cOp P o) tm H = some (av, H')) {next : Act → World → Prop} {Q : Exit → Act → World → Prop}
    (hn : ∀ v ι' w', VR ι' av v → Sim ι' H' w' → Fr ι H w ι' H' w' → next (a.put o.dst v) w') : o.wp P a w next Q := by
  by_cases h1 : ∃ f args, cOp P o = .call f args
  · obtain ⟨f, args, hop⟩ := h1
    obtain ⟨c, ho, hcal, hargs, hok⟩ := cOp_call hop
    rw [hop] at h
    simp only [arun] at h
    obtain ⟨⟨fn, hf, hname, hbody⟩, hcalls⟩ := hc _ _ _ _ _ h
    have hr := evs_vr ht args hok
    have hl : (c.args.map a.eval).toList = args.map a.eval := by rw [← hargs]; simp
    have hcl := hcalls ι w (c.args.map a.eval) s (by rw [hl]; exact hr)
    have hex : (execOp a.eval o).run P w = .ok (.enter f (c.args.map a.eval)) w := by
      unfold execOp
      rw [ho]
      have hname' : ¬ fn.name = "runtime.NumGoroutine" := by simpa using hname
      have hbody' : ¬ fn.body = none := by intro e; rw [e] at hbody; cases hbody
      simp [resolve, hcal, Act.eval, Deferred.ofValue, invoke, callFunc, hf, hname', hbody']
    unfold Oper.wp
    rw [hex, Oper.upon_enter]
    refine hcl.mono fun e w' he => ?_
    obtain ⟨ι', v, rfl, hv, hs, hfr⟩ := he
    exact hn v ι' w' hv hs hfr
  · by_cases h2 : ∃ x args, cOp P o = .callv x args
    · obtain ⟨x, args, hop⟩ := h2
      obtain ⟨c, ho, hcal, hargs, hok, hx⟩ := cOp_callv hop
      rw [hop] at h
      simp only [arun] at h
      split at h
      · rename_i f first caps hfv
        obtain ⟨⟨fn, hf, hname, hbody⟩, hcalls⟩ := hc _ _ _ _ _ h
        have hxv := ev_vr ht hx
        rw [hfv] at hxv
        generalize hxe : a.eval x = u at hxv
        cases hxv with
        | fn _ _ caps' hs hv =>
          have hr := (evs_vr ht args hok).append (VR.cells (.agg _ _ hs hv))
          have hl : (c.args.map a.eval ++ caps').toList = args.map a.eval ++ caps'.toList := by rw [← hargs]; simp
          have hcl := hcalls ι w (c.args.map a.eval ++ caps') s (by rw [hl]; exact hr)
          have hex : (execOp a.eval o).run P w = .ok (.enter f (c.args.map a.eval ++ caps')) w := by
            unfold execOp
            rw [ho]
            have hname' : ¬ fn.name = "runtime.NumGoroutine" := by simpa using hname
            have hbody' : ¬ fn.body = none := by intro e; rw [e] at hbody; cases hbody
            simp [resolve, hcal, hxe, Deferred.ofValue, invoke, callFunc, hf, hname', hbody']
          unfold Oper.wp
          rw [hex, Oper.upon_enter]
          refine hcl.mono fun e w' he => ?_
          obtain ⟨ι', v, rfl, hv, hs, hfr⟩ := he
          exact hn v ι' w' hv hs hfr
      · cases h
    · have h3 : aop (cOp P o) tm H = some (av, H') := by
        revert h h1 h2
        generalize cOp P o = q
        intro h h1 h2
        cases q <;> first | exact h | exact absurd ⟨_, _, rfl⟩ h1 | exact absurd ⟨_, _, rfl⟩ h2
      obtain ⟨nx, ι', w', v, hr, hnx, hv, hs, hfr⟩ := op_good s ht h3
      unfold Oper.wp
      rw [hr]
      rcases hnx with rfl | ⟨rfl, rfl⟩
      · exact hn v ι' w' hv hs hfr
      · exact hn _ ι' w' hv hs hfr

theorem want_ok (ht : TR ι N tm a) {ops : Array Oper} {g : Option (Nat × Bool)} (hg : gTmp ops o = some g) : want tm g = Region.wanted o (yielded ops a.tmps) := by
  unfold gTmp at hg
  split at hg
  · rename_i hgd; cases hg; simp [want, Region.wanted, hgd]
  · rename_i j b hgd
    split at hg
    · rename_i t hd
      cases hg
      have hv := ht.val t
      simp only [want, Region.wanted, hgd, yielded, hd, Option.bind_some]
      rw [Array.getD_eq_getD_getElem?] at hv
      cases hq : a.tmps[t]? with
      | none =>
        rw [hq] at hv
        generalize tm t = u at hv
        simp only [Option.getD_none] at hv
        cases u <;> first | rfl | (cases hv; done) | skip
      | some u' =>
        rw [hq] at hv
        generalize tm t = u at hv
        simp only [Option.getD_some] at hv
        cases hv <;> first | rfl | simp
    · cases hg

theorem cOper_spec {ops : Array Oper} {sl : List Nat} : (∃ g, gTmp ops o = some g ∧ cOper P N ops sl o = { dst := o.dst, op := cOp P o, guard := g, slots := sl } ∧ ∀ t, o.dst = some t → t < N) ∨
    ((cOper P N ops sl o).op = .bad ∧ (cOper P N ops sl o).guard = none) := by
  unfold cOper
  split
  · rename_i g hg
    split
    · rename_i hd
      refine .inl ⟨g, hg, rfl, fun t ht => ?_⟩
      rw [ht] at hd
      simpa [dstOk] using hd
    · exact .inr ⟨rfl, rfl⟩
  · exact .inr ⟨rfl, rfl⟩

theorem region_ok (hc : CallOk P call) {ops : Array Oper} {Q : Exit → Act → World → Prop} : ∀ (l : List Oper) {tm tm' : Tm} {H H' : Hp} {ι : Emb} {w : World} {a : Act},
    aregion call (l.map (cOper P N ops [])) (tm, H) = some (tm', H') → Sim ι H w → TR ι N tm a →
    (∀ ι' a' w', TR ι' N tm' a' → Sim ι' H' w' → Fr ι H w ι' H' w' → Q .normal a' w') → wpList P ops Q l a w
  | [], tm, tm', H, H', ι, w, a, h, s, ht, hq => by
    simp [aregion] at h
    obtain ⟨rfl, rfl⟩ := h
    exact hq ι a w ht s (Fr.refl ..)
  | o :: l, tm, tm', H, H', ι, w, a, h, s, ht, hq => by
    simp only [List.map_cons, aregion] at h
    rcases cOper_spec (P := P) (N := N) (o := o) (ops := ops) (sl := []) with ⟨g, hg, hco, hd⟩ | ⟨h1, h2⟩
    · rw [hco] at h
      simp only at h
      unfold wpList
      rw [want_ok ht hg] at h
      split at h
      · rename_i hw
        rw [if_pos hw]
        split at h
        · rename_i v H1 hr
          refine .inl (arun_ok hc s ht hr fun v' ι1 w1 hv hs hf => ?_)
          exact region_ok hc l h hs ((ht.mono hf.emb).put hd hv) fun ι2 a2 w2 ht2 hs2 hf2 => hq ι2 a2 w2 ht2 hs2 (hf.trans hf2)
        · cases h
      · rename_i hw
        rw [if_neg hw]
        exact region_ok hc l h s (ht.put hd (undef_vr ι)) hq
    · rw [h1, h2] at h
      simp [want, arun, aop] at h

end
end Go.Ab
