/- The abstract machine, part 12 g: a drawn region, from beginning to end. Own work. -/
import Derived.Test.YtbehlbabgomhfaaAbH
namespace Go.Ab
open Go

section
variable {P : Program} {call : CallF} {N : Nat} {ops : Array Oper} {base : Nat} {tmf : Nat → Tm} {Hf : Nat → Hp} {vf : Nat → Value} {dops : List DOp}
  {ι0 : Emb} {w0 : World} {H0 : Hp}

def cnt : List Bool → Nat
  | [] => 0
  | b :: l => (if b then 0 else 1) + cnt l
theorem cnt_set : ∀ (l : List Bool) (i : Nat), l[i]? = some false → cnt (l.set i true) + 1 = cnt l
  | [], i, h => by simp at h
  | b :: l, 0, h => by simp at h; subst h; simp [cnt]; omega
  | b :: l, i + 1, h => by
    have := cnt_set l i (by simpa using h)
    simp only [List.set_cons_succ, cnt]
    omega
theorem cnt_zero : ∀ (l : List Bool), cnt l = 0 → ∀ (i : Nat) b, l[i]? = some b → b = true
  | [], _, i, b, h => by simp at h
  | c :: l, hc, i, b, h => by
    simp only [cnt] at hc
    cases i with
    | zero => simp at h; subst h; cases c <;> simp at hc ⊢
    | succ i => exact cnt_zero l (by omega) i b (by simpa using h)
theorem cnt_rep (m : Nat) : cnt (List.replicate m false) = m := by
  induction m with
  | zero => rfl
  | succ m ih => simp only [List.replicate_succ, cnt, ih]; simp; omega

theorem all_orders (C : Ctx P call N ops base tmf Hf vf dops) {Q : Exit → Act → World → Prop}
    (hq : ∀ (L : Nat → Bool) p h ι a w, (∀ k, k < dops.length → L k = true) → At P call N ops base tmf Hf vf dops ι0 w0 H0 L p h ι a w → Q .normal a w) :
    ∀ (fuel : Nat) (listed : Array Bool) (a : Act) (w : World), listed.size = dops.length → cnt listed.toList ≤ fuel →
      (∀ (k : Nat) o, listed.getD k false = true → ops.toList[k]? = some o → ∀ e ∈ o.after.toList, Region.binds .any e = true → listed.getD e.on false = true) →
      (∃ p h ι, At P call N ops base tmf Hf vf dops ι0 w0 H0 (fun k => listed.getD k false) p h ι a w) → wpAny P .any ops Q fuel listed a w := by
  have hready : ∀ (listed : Array Bool), listed.size = dops.length → Region.ready .any ops listed = [] → ∀ k, k < dops.length → listed.getD k false = true := by
    intro listed hsz hr k
    induction k using Nat.strongRecOn with
    | _ k ih =>
      intro hk
      cases hL : listed.getD k false with
      | true => rfl
      | false =>
        obtain ⟨o, ho⟩ := C.oper hk
        have : k ∈ Region.ready .any ops listed := by
          unfold Region.ready
          rw [List.mem_filter]
          refine ⟨by simp; have := C.hm; omega, ?_⟩
          have ho' : ops[k]? = some o := by simpa using ho
          have h1 : listed.getD k true = false := by
            rw [Array.getD_eq_getD_getElem?] at hL ⊢
            have : k < listed.size := by omega
            simpa [this] using hL
          rw [ho', h1]
          simp only [Bool.not_false, Bool.true_and, Option.map_some, Option.getD_some]
          rw [Array.all_eq_true']
          intro e he
          cases hb : Region.binds .any e with
          | false => rfl
          | true =>
            simp only [Bool.not_true, Bool.false_or]
            have hlt := edges_lt C.edges ho (by simpa using he) hb
            exact ih e.on hlt (by omega)
        rw [hr] at this; cases this
  intro fuel
  induction fuel with
  | zero =>
    intro listed a w hsz hc hcl hat
    obtain ⟨p, h, ι, A⟩ := hat
    have hall : ∀ k, k < dops.length → listed.getD k false = true := by
      intro k hk
      have hlt : k < listed.size := by omega
      have := cnt_zero listed.toList (by omega) k listed[k] (by simp [hlt])
      rw [Array.getD_eq_getD_getElem?]
      simp [hlt, this]
    refine ⟨?_, hq _ p h ι a w hall A⟩
    unfold Region.ready
    rw [List.filter_eq_nil_iff]
    intro k hk
    have hk' : k < dops.length := by have := C.hm; simp at hk; omega
    have := hall k hk'
    rw [Array.getD_eq_getD_getElem?] at this ⊢
    have hlt : k < listed.size := by omega
    simp [hlt] at this
    simp [hlt, this]
  | succ fuel ih =>
    intro listed a w hsz hc hcl hat
    obtain ⟨p, h, ι, A⟩ := hat
    refine ⟨fun hr => hq _ p h ι a w (hready listed hsz hr) A, fun i hi => ?_⟩
    obtain ⟨hjun, o, hoj, hall⟩ := mem_ready.1 hi
    have hil : i < dops.length := by
      have := (Array.getElem?_eq_some_iff.1 hoj).1
      have := C.hm; omega
    have hilt : i < listed.size := by omega
    have hno : listed.getD i false = false := by
      rw [Array.getD_eq_getD_getElem?] at hjun ⊢
      simpa [hilt] using hjun
    have hcl' : ∀ (k : Nat) o, (fun k => listed.getD k false) k = true → ops.toList[k]? = some o → ∀ e ∈ o.after.toList, Region.binds .any e = true → (fun k => listed.getD k false) e.on = true := hcl
    have hall' : ∀ e ∈ o.after.toList, Region.binds .any e = true → (fun k => listed.getD k false) e.on = true := fun e he hb => hall e (by simpa using he) hb
    obtain ⟨sl, hget⟩ := C.get i o hoj
    have R : Rdy ops dops (fun k => listed.getD k false) i (cOper P N ops sl o) := by
      refine ⟨hget, hno, fun j hj => ancs_closed C.edges hcl' i o (by simpa using hoj) hall' j hj, fun k hk hL hin => ?_⟩
      obtain ⟨ok, hok⟩ := C.oper hk
      have : listed.getD i false = true := ancs_closed C.edges hcl' k ok hok (hcl k ok hL hok) i hin
      rw [hno] at this; cases this
    refine wpOp_mono (fun a' w' h' => ?_) (A.step C (Q := Q) hoj R)
    obtain ⟨p', h', ι', A'⟩ := h'
    have hmore : (fun k => (listed.setIfInBounds i true).getD k false) = more (fun k => listed.getD k false) i := by
      funext k
      by_cases e : k = i
      · subst e
        rw [more_same, Array.getD_eq_getD_getElem?]
        simp [hilt]
      · rw [more_ne _ e, Array.getD_eq_getD_getElem?, Array.getD_eq_getD_getElem?, Array.getElem?_setIfInBounds_ne (fun q => e q.symm)]
    refine ih _ a' w' (by simpa using hsz) ?_ ?_ ⟨p', h', ι', by rw [hmore]; exact A'⟩
    · have := cnt_set listed.toList i (by
        rw [Array.getD_eq_getD_getElem?] at hno
        simpa [hilt] using hno)
      rw [Array.toList_setIfInBounds]
      omega
    · intro k ok hk hok e he hb
      have hk' : more (fun k => listed.getD k false) i k = true := by rw [← hmore]; exact hk
      show (fun k => (listed.setIfInBounds i true).getD k false) e.on = true
      rw [hmore]
      by_cases hki : k = i
      · subst hki
        have : ok = o := by
          have : ops.toList[k]? = some o := by simpa using hoj
          rw [this] at hok; cases hok; rfl
        subst this
        have := hall' e he hb
        unfold more
        rw [this]; simp
      · rw [more_ne _ hki] at hk'
        have := hcl k ok hk' hok e he hb
        show (e.on == i || listed.getD e.on false) = true
        rw [this]; simp

theorem tmS_none (tm : Tm) : ∀ n, tmS dops vf (fun _ => false) tm n = tm
  | 0 => rfl
  | n + 1 => by
    simp only [tmS]
    split
    · simp [tmS_none tm n]
    · exact tmS_none tm n

/-- The whole of a drawn region. -/
theorem Ctx.all (C : Ctx P call N ops base tmf Hf vf dops) (hm : P.follows .mixedOrders = true) {id : Nat} {Q : Exit → Act → World → Prop} {H : Hp} {ι : Emb} {w : World} {a : Act}
    (hbase : base = H.length) (hH0 : Hf 0 = H ++ List.replicate dops.length .dead) (s : Sim ι H w) (ht : TR ι N (tmf 0) a)
    (hq : ∀ ι' a' w', TR ι' N (tmf dops.length) a' → Sim ι' (Hf dops.length) w' → Fr ι H w ι' (Hf dops.length) w' → Q .normal a' w') : (Code.region id ops true).wp P Q a w := by
  refine wp_region_any hm ?_
  have hsz : ops.size = dops.length := C.hm.symm
  refine all_orders (ι0 := ι) (w0 := w) (H0 := H) C (fun L p h ι' a' w' hL A => ?_) ops.size _ a w.drew (by simp [hsz]) (by simp [cnt_rep]) (fun k o hk => ?_) ⟨0, H ++ List.replicate dops.length .dead, ι, ?_⟩
  · -- all have been carried out
    have hno : ∀ (k : Nat) d, p ≤ k → k < dops.length → dops[k]? = some d → kindOf d.op ≠ .loud := by
      intro k d h1 h2 hd hl
      have := (A.louds k d hd hl).1 (hL k h2)
      omega
    have hh : h = Hf dops.length := by
      apply List.ext_getElem?
      intro b
      rw [A.heap b, C.calm dops.length A.ple (Nat.le_refl _) hno b]
      by_cases hc : base ≤ b ∧ p ≤ b - base ∧ b - base < dops.length
      · rw [if_pos ⟨hc.1, hc.2.1, hc.2.2, hL _ hc.2.2⟩, if_pos hc]
      · rw [if_neg (fun q => hc ⟨q.1, q.2.1, q.2.2.1⟩), if_neg hc]
    have htm : tmS dops vf L (tmf 0) dops.length = tmf dops.length := by
      rw [C.tmf_eq dops.length (Nat.le_refl _)]
      funext t
      exact tmS_agree _ fun k o hk _ _ => hL k hk
    have htr := A.tmps
    rw [htm] at htr
    have hsim := A.sim
    rw [hh] at hsim
    have hlen := C.heap_mono dops.length 0 (by omega)
    rw [Nat.zero_add, hH0] at hlen
    refine hq ι' a' w' htr hsim ⟨A.os, A.tape, A.output, A.size, A.emb, by simp at hlen; omega, fun b hb => A.old b (by omega), fun b hb => ?_, fun b z vs hb => ?_, A.kept, fun g hg hw => A.own g hg (by rw [hh]; exact hw)⟩
    · have hlt := lt_of_some hb
      refine C.dead b (by omega) dops.length (Nat.le_refl _) ?_
      rw [hH0, List.getElem?_append_left hlt]; exact hb
    · have := C.ro b z vs dops.length (Nat.le_refl _) hb
      rw [hH0] at this
      by_cases hlt : b < H.length
      · rwa [List.getElem?_append_left hlt] at this
      · rw [List.getElem?_append_right (by omega), List.getElem?_replicate] at this
        split at this <;> cases this
  · rw [Array.getD_eq_getD_getElem?, Array.getElem?_replicate] at hk
    split at hk <;> simp at hk
  · have hfalse : (fun k => (Array.replicate ops.size false).getD k false) = fun _ => false := by
      funext k
      rw [Array.getD_eq_getD_getElem?, Array.getElem?_replicate]
      split <;> rfl
    rw [hfalse]
    refine ⟨Nat.zero_le _, fun k d _ _ => by simp, .inl rfl, by rw [hH0], fun b => ?_, (s.room dops.length).drew, ?_, fun k hk _ => ?_, Emb.le.refl ι, fun _ _ => rfl, rfl, rfl, rfl, Nat.le_refl _, fun _ _ _ => rfl, fun g hg hw => ?_⟩
    · rw [if_neg (by simp), hH0]
    · rw [tmS_none]; exact ht
    · cases hι : ι (base + k) with
      | none => rfl
      | some K => have := s.dom _ K hι; omega
    · obtain ⟨b, K, hK, hb, ho⟩ := hw
      refine ⟨b, K, hK, hb, ?_⟩
      have hlt := s.dom b K hK
      rwa [owned_eq (List.getElem?_append_left hlt)] at ho

end

theorem dtrace_keeps {call : CallF} (hk : KeepC call) {base m : Nat} : ∀ (ops : List DOp) (i : Nat) (s : St) (tr : List St), dtrace call base m ops i s = some tr → ∃ s', tr.getLast? = some s' ∧ s.2.length ≤ s'.2.length ∧
    (∀ b : Nat, b < base → s.2[b]? = some Blk.dead → s'.2[b]? = some Blk.dead) ∧ ∀ (b z : Nat) (vs : List Value), s'.2[b]? = some (Blk.ro z vs) → s.2[b]? = some (Blk.ro z vs)
  | [], i, s, tr, h => by simp [dtrace] at h; subst h; exact ⟨s, rfl, Nat.le_refl _, fun _ _ h => h, fun _ _ _ h => h⟩
  | o :: ops, i, s, tr, h => by
    simp only [dtrace] at h
    split at h
    · rename_i v H' hd
      obtain ⟨r, hr, rfl⟩ := Option.map_eq_some_iff.1 h
      obtain ⟨s', h1, h2, h3, h4⟩ := dtrace_keeps hk ops (i + 1) _ r hr
      have hstep : s.2.length ≤ H'.length ∧ (∀ b : Nat, b < base → s.2[b]? = some Blk.dead → H'[b]? = some Blk.dead) ∧ ∀ (b z : Nat) (vs : List Value), H'[b]? = some (Blk.ro z vs) → s.2[b]? = some (Blk.ro z vs) := by
        unfold dstep at hd
        split at hd
        · cases hq : kindOf o.op with
          | pure =>
            rw [hq] at hd
            rw [(pure_same hq hd).1]
            exact ⟨Nat.le_refl _, fun _ _ h => h, fun _ _ _ h => h⟩
          | read =>
            rw [hq] at hd
            simp only at hd
            split at hd
            · rw [(read_same hq hd).1]
              exact ⟨Nat.le_refl _, fun _ _ h => h, fun _ _ _ h => h⟩
            · cases hd
          | new =>
            rw [hq] at hd
            simp only at hd
            obtain ⟨p, hp, e⟩ := Option.map_eq_some_iff.1 hd
            cases e
            refine ⟨by simp, fun b hb h => by rw [List.getElem?_set_ne (by omega)]; exact h, fun b z vs h => ?_⟩
            by_cases e : base + i = b
            · subst e
              rw [List.getElem?_set] at h
              simp at h
              exact absurd h.2 (anew_rw (v := p.1) (b := p.2) hp z vs)
            · rwa [List.getElem?_set_ne e] at h
          | loud =>
            rw [hq] at hd
            obtain ⟨k1, k2, k3⟩ := arun_keeps hk hd
            exact ⟨k1, fun b _ h => k2 b h, k3⟩
        · cases hd
          exact ⟨Nat.le_refl _, fun _ _ h => h, fun _ _ _ h => h⟩
      have hne : r ≠ [] := by intro e; rw [e] at h1; simp at h1
      refine ⟨s', by rw [List.getLast?_cons, h1]; rfl, Nat.le_trans hstep.1 h2, fun b hb h => h3 b hb (hstep.2.1 b hb h), fun b z vs h => hstep.2.2 b z vs (h4 b z vs h)⟩
    · cases h
theorem adraw_keeps {call : CallF} (hk : KeepC call) {ops : List DOp} {pairs : List (Nat × Nat)} {s s' : St} (h : adraw call ops pairs s = some s') : Keeps s.2 s'.2 := by
  unfold adraw at h
  split at h
  · rename_i tr htr
    split at h
    · obtain ⟨s1, h1, h2, h3, h4⟩ := dtrace_keeps hk _ _ _ _ htr
      rw [h1] at h; cases h
      refine ⟨by simp at h2; omega, fun b hb => ?_, fun b z vs hb => ?_⟩
      · have hlt := lt_of_some hb
        exact h3 b hlt (by rw [List.getElem?_append_left hlt]; exact hb)
      · have := h4 b z vs hb
        simp only at this
        by_cases hlt : b < s.2.length
        · rwa [List.getElem?_append_left hlt] at this
        · rw [List.getElem?_append_right (by omega), List.getElem?_replicate] at this
          split at this <;> cases this
    · cases h
  · cases h

theorem acode_keeps {call : CallF} (hk : KeepC call) {fuel : Nat} : ∀ (c : ACode) (s s' : St) (x : AX), acode call fuel c s = some (x, s') → Keeps s.2 s'.2 := by
  intro c
  induction c with
  | skip => intro s s' x h; simp only [acode] at h; cases h; exact Keeps.refl _
  | exit id => intro s s' x h; simp only [acode] at h; cases h; exact Keeps.refl _
  | ret => intro s s' x h; simp only [acode] at h; cases h; exact Keeps.refl _
  | bad => intro s s' x h; simp only [acode] at h; cases h
  | region ops =>
    intro s s' x h
    simp only [acode] at h
    obtain ⟨q, hq, e⟩ := Option.map_eq_some_iff.1 h
    cases e
    exact aregion_keeps hk ops s _ hq
  | draw ops pairs =>
    intro s s' x h
    simp only [acode] at h
    obtain ⟨q, hq, e⟩ := Option.map_eq_some_iff.1 h
    cases e
    exact adraw_keeps hk hq
  | seq a b iha ihb =>
    intro s s' x h
    simp only [acode] at h
    split at h
    · rename_i s1 h1
      exact (iha _ _ _ h1).trans (ihb _ _ _ h)
    · exact iha _ _ _ h
  | cond c a b iha ihb =>
    intro s s' x h
    simp only [acode] at h
    split at h
    · split at h
      · exact iha _ _ _ h
      · exact ihb _ _ _ h
    · cases h
  | block id c ih =>
    intro s s' x h
    simp only [acode] at h
    split at h
    · rename_i j s1 h1
      split at h <;> (cases h; exact ih _ _ _ h1)
    · exact ih _ _ _ h
  | loop c ih =>
    intro s s' x h
    simp only [acode] at h
    have : ∀ n (s s' : St) (x : AX), iter (acode call fuel c) n s = some (x, s') → Keeps s.2 s'.2 := by
      intro n
      induction n with
      | zero => intro s s' x h; simp [iter] at h
      | succ n ihn =>
        intro s s' x h
        simp only [iter] at h
        split at h
        · rename_i s1 h1
          exact (ih _ _ _ h1).trans (ihn _ _ _ h)
        · exact ih _ _ _ h
    exact this fuel s s' x h

theorem callF_keeps (T : FuncId → Option AFunc) : ∀ n, KeepC (callF T n)
  | 0 => fun f args H r H' h => by simp [callF] at h
  | n + 1 => fun f args H r H' h => by
    simp only [callF] at h
    split at h
    · split at h
      · rename_i s hs
        obtain ⟨v, _, e⟩ := Option.map_eq_some_iff.1 h
        cases e
        exact acode_keeps (callF_keeps T n) _ _ _ _ hs
      · rename_i s hs
        obtain ⟨v, _, e⟩ := Option.map_eq_some_iff.1 h
        cases e
        exact acode_keeps (callF_keeps T n) _ _ _ _ hs
      · cases h
    · cases h

theorem draw_ok {P : Program} {call : CallF} {fuel N : Nat} (hm : P.follows .mixedOrders = true) (hc : CallOk P call) (hk : KeepC call) {ops : Array Oper} {id : Nat} {Q : Exit → Act → World → Prop} {tm tm' : Tm} {H H' : Hp} {x : AX}
    {ι : Emb} {w : World} {a : Act} (h : acode call fuel (cDraw P N ops) (tm, H) = some (x, (tm', H'))) (s : Sim ι H w) (ht : TR ι N tm a)
    (hq : x = .normal → ∀ ι' a' w', TR ι' N tm' a' → Sim ι' H' w' → Fr ι H w ι' H' w' → Q .normal a' w') : x = .normal ∧ (Code.region id ops true).wp P Q a w := by
  unfold cDraw at h
  generalize hd0 : ops.toList.map (cOper P N ops []) = d0 at h
  generalize has : ancs ops.toList = as at h
  simp only at h
  generalize hpr : dPairs d0 as = pairs at h
  generalize hdo : dOps d0 as = dops at h
  split at h
  case isFalse => simp [acode] at h
  rename_i hcond
  rw [Bool.and_eq_true] at hcond
  obtain ⟨hedges, hstat⟩ := hcond
  simp only [acode] at h
  obtain ⟨q, hdr, e⟩ := Option.map_eq_some_iff.1 h
  cases e
  refine ⟨rfl, ?_⟩
  unfold adraw at hdr
  simp only at hdr
  split at hdr
  case h_2 => cases hdr
  rename_i tr htr
  split at hdr
  case isFalse => cases hdr
  rename_i hpairs
  obtain ⟨hl1, hl2, hl3⟩ := dtrace_spec _ _ _ _ htr
  have hd0len : d0.length = ops.size := by rw [← hd0]; simp
  have hdlen : dops.length = d0.length := by rw [← hdo]; simp [dOps]
  have hdget : ∀ (i : Nat) o, d0[i]? = some o → dops[i]? = some (withSlots d0 as o i) := by
    intro i o ho
    rw [← hdo]
    simp only [dOps, List.getElem?_map, List.getElem?_zipIdx, ho, Option.map_some, Nat.zero_add]
  have hdback : ∀ (i : Nat) d, dops[i]? = some d → ∃ o, d0[i]? = some o ∧ d.op = o.op ∧ (kindOf o.op = .read → d.slots = if ((louds d0).any (unordered as i)) then [] else (as.getD i []).filter (isNew d0)) := by
    intro i d hd
    have hi := lt_of_some hd
    rw [hdlen] at hi
    have ho : d0[i]? = some d0[i] := by simp [hi]
    rw [hdget i _ ho] at hd
    cases hd
    refine ⟨_, ho, ?_, fun hr => ?_⟩
    · unfold withSlots; split <;> rfl
    · unfold withSlots; rw [if_pos hr]
  have hloud : ∀ (l : Nat) d, dops[l]? = some d → kindOf d.op = .loud → l ∈ louds d0 := by
    intro l d hd hl
    obtain ⟨o, ho, e, _⟩ := hdback l d hd
    unfold louds
    rw [List.mem_filter]
    refine ⟨by have := lt_of_some ho; simpa using this, ?_⟩
    rw [ho]
    rw [e] at hl
    simp [hl]
  let tmf : Nat → Tm := fun j => ((tr[j]?).getD (tm, H)).1
  let Hf : Nat → Hp := fun j => ((tr[j]?).getD (tm, H)).2
  let vf : Nat → Value := fun j => match dops[j]? with
    | some o => match dstep call H.length dops.length j o (tmf j, Hf j) with
      | some (v, _) => v
      | none => undef
    | none => undef
  have hstate : ∀ (j : Nat) sj, tr[j]? = some sj → (tmf j, Hf j) = sj := by
    intro j sj hj
    show (((tr[j]?).getD (tm, H)).1, ((tr[j]?).getD (tm, H)).2) = sj
    rw [hj]; rfl
  have C : Ctx P call N ops H.length tmf Hf vf dops := by
    refine ⟨by rw [hdlen, hd0len], hk, hc, hedges, fun i o ho => ?_, fun i d hd hr k hks => ?_, fun i l d dl hd hr hdl hl hu => ?_, fun i j x y hij hx hy => ?_, fun j o ho => ?_, fun k hk => ?_⟩
    · have h0 : d0[i]? = some (cOper P N ops [] o) := by rw [← hd0]; simp [ho]
      have := hdget i _ h0
      unfold withSlots at this
      split at this
      · refine ⟨if (louds d0).any (unordered as i) then [] else (as.getD i []).filter (isNew d0), this.trans ?_⟩
        congr 1
        unfold cOper
        split <;> (try split) <;> rfl
      · exact ⟨[], this⟩
    · obtain ⟨o, ho, e, hsl⟩ := hdback i d hd
      rw [e] at hr
      rw [hsl hr] at hks
      split at hks
      · cases hks
      · rename_i hany
        rw [List.mem_filter] at hks
        rw [has]
        refine ⟨hks.1, fun l dl hdl hl => ?_⟩
        have hm := hloud l dl hdl hl
        cases hu : unordered as i l with
        | false => rfl
        | true => exact absurd (List.any_eq_true.2 ⟨l, hm, hu⟩) hany
    · obtain ⟨o, ho, e, _⟩ := hdback i d hd
      have hmem : (i, l) ∈ pairs := by
        rw [← hpr, dPairs, List.mem_flatMap]
        refine ⟨i, by have := lt_of_some ho; simpa using this, ?_⟩
        rw [ho]
        simp only
        rw [e] at hr
        rw [if_pos hr, List.mem_map]
        refine ⟨l, List.mem_filter.2 ⟨hloud l dl hdl hl, by rw [← has]; exact hu⟩, rfl⟩
      have hch := List.all_eq_true.1 hpairs _ hmem
      unfold dcheck at hch
      simp only [hd] at hch
      split at hch
      · rename_i o' s1 s2 s3 g1 g2 g3 g4
        cases g1
        rw [Bool.and_eq_true] at hch
        rw [hstate i s1 g2]
        have e2 := hstate l s2 g3
        have e3 := hstate (l + 1) s3 g4
        have e2' : Hf l = s2.2 := by rw [← e2]
        have e3' : Hf (l + 1) = s3.2 := by rw [← e3]
        rw [e2', e3']
        exact hch
      · cases hch
    · have hj := lt_of_some hy
      have h1 := List.all_eq_true.1 hstat j (by simpa using hj)
      have h2 := List.all_eq_true.1 h1 i (by simpa using hij)
      rw [hx, hy] at h2
      simp only [Bool.or_eq_true] at h2
      rw [has]
      rcases h2 with h2 | h2
      · exact .inl (List.contains_iff_mem.1 h2)
      · right
        simp only [Bool.and_eq_true, Bool.not_eq_true', Bool.and_eq_false_iff, decide_eq_false_iff_not] at h2
        refine ⟨h2.1.1, fun q => ?_, fun q => ?_⟩
        · rcases h2.1.2 with z | z
          · exact z q.1
          · exact z q.2
        · rcases h2.2 with z | z
          · exact z q.1
          · exact z q.2
    · obtain ⟨sj, sj1, v, g1, g2, g3, g4⟩ := hl3 j o ho
      rw [Nat.zero_add] at g3
      have e1 := hstate j sj g1
      have e2 := hstate (j + 1) sj1 g2
      have hv : vf j = v := by
        show (match dops[j]? with
          | some o => match dstep call H.length dops.length j o (tmf j, Hf j) with
            | some (v, _) => v
            | none => undef
          | none => undef) = v
        rw [ho]
        simp only
        rw [e1, g3]
      rw [e1, hv]
      have e2a : tmf (j + 1) = sj1.1 := by rw [← e2]
      have e2b : Hf (j + 1) = sj1.2 := by rw [← e2]
      have e1a : tmf j = sj.1 := by rw [← e1]
      rw [e2a, e2b, e1a]
      exact ⟨g3, g4⟩
    · have e := hstate 0 _ hl2
      have : Hf 0 = H ++ List.replicate dops.length .dead := by rw [show Hf 0 = (tmf 0, Hf 0).2 from rfl, e]
      rw [this, List.getElem?_append_right (by omega), List.getElem?_replicate, if_pos (by omega)]
  have h0 := hstate 0 _ hl2
  have hm0 : tmf 0 = tm := by rw [show tmf 0 = (tmf 0, Hf 0).1 from rfl, h0]
  have hH0 : Hf 0 = H ++ List.replicate dops.length .dead := by rw [show Hf 0 = (tmf 0, Hf 0).2 from rfl, h0]
  have hlast : tr[dops.length]? = some (tm', H') := by
    rw [List.getLast?_eq_getElem?, hl1] at hdr
    simpa using hdr
  have hend := hstate _ _ hlast
  have hme : tmf dops.length = tm' := by rw [show tmf dops.length = (tmf dops.length, Hf dops.length).1 from rfl, hend]
  have hHe : Hf dops.length = H' := by rw [show Hf dops.length = (tmf dops.length, Hf dops.length).2 from rfl, hend]
  refine C.all hm rfl hH0 s (by rw [hm0]; exact ht) ?_
  rw [hme, hHe]
  exact hq rfl
end Go.Ab
