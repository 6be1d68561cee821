/- The abstract machine, part 12 b: what operations leave alone. Own work. -/
import Derived.Test.YtbehlbabgomhfaaAb12
namespace Go.Ab
open Go

/-- The heap grows, what is dead stays dead, and what is read alone was so. -/
def Keeps (H H' : Hp) : Prop := H.length ≤ H'.length ∧ (∀ b : Nat, H[b]? = some Blk.dead → H'[b]? = some Blk.dead) ∧ ∀ (b z : Nat) (vs : List Value), H'[b]? = some (Blk.ro z vs) → H[b]? = some (Blk.ro z vs)
theorem Keeps.refl (H : Hp) : Keeps H H := ⟨Nat.le_refl _, fun _ h => h, fun _ _ _ h => h⟩
theorem Keeps.trans {a b c : Hp} (h : Keeps a b) (k : Keeps b c) : Keeps a c := ⟨Nat.le_trans h.1 k.1, fun x hx => k.2.1 x (h.2.1 x hx), fun x z vs hx => h.2.2 x z vs (k.2.2 x z vs hx)⟩
theorem Keeps.append (H : Hp) (x : Blk) (hx : ∀ z vs, x ≠ .ro z vs) : Keeps H (H ++ [x]) :=
  ⟨by simp, fun b h => by rw [List.getElem?_append_left (List.getElem?_eq_some_iff.1 h).1]; exact h, fun b z vs h => by
    by_cases hb : b < H.length
    · rwa [List.getElem?_append_left hb] at h
    · have hlt := (List.getElem?_eq_some_iff.1 h).1
      have : b = H.length := by simp at hlt; omega
      subst this
      simp at h
      exact absurd h (hx z vs)⟩
theorem Keeps.set {H : Hp} {b : Nat} {x : Blk} (h : H[b]? ≠ some Blk.dead) (hx : ∀ z vs, x ≠ .ro z vs) : Keeps H (H.set b x) :=
  ⟨by simp, fun y hy => by rw [List.getElem?_set_ne (fun e => h (by rw [e]; exact hy))]; exact hy, fun y z vs hy => by
    by_cases e : b = y
    · subst e
      rw [List.getElem?_set] at hy
      simp at hy
      exact absurd hy.2 (hx z vs)
    · rwa [List.getElem?_set_ne e] at hy⟩
theorem anew_rw {o : AOp} {tm : Tm} {k : Nat} {v : Value} {b : Blk} (h : anew o tm k = some (v, b)) : ∀ z vs, b ≠ .ro z vs := by
  intro z vs e
  subst e
  cases o <;> simp only [anew] at h <;> first | (cases h; done) | skip
  case mkslice =>
    split at h
    · split at h <;> cases h
    · cases h
  case bslice =>
    obtain ⟨q, _, h2⟩ := Option.map_eq_some_iff.1 h
    cases h2

theorem aappend_keeps {sz by_ : Nat} {s x v : Value} {H H' : Hp} (h : aappend sz by_ s x H = some (v, H')) : Keeps H H' := by
  unfold aappend at h
  split at h
  · cases h
  · split at h
    · split at h
      · cases h; exact Keeps.refl _
      · split at h
        · cases h; exact Keeps.append _ _ (by simp)
        · cases h
    · split at h
      · cases h; exact Keeps.refl _
      · split at h
        · rename_i hb _
          split at h
          · cases h
            exact (Keeps.set (by rw [hb]; simp) (by simp)).trans (Keeps.append _ _ (by simp))
          · cases h
        · cases h
    · cases h

theorem aop_keeps {o : AOp} {tm : Tm} {v : Value} {H H' : Hp} (h : aop o tm H = some (v, H')) : Keeps H H' := by
  cases o <;> simp only [aop] at h
  case append => exact aappend_keeps h
  case store =>
    split at h
    · split at h
      · rename_i hb
        split at h
        · cases h; exact Keeps.set (by rw [hb]; simp) (by simp)
        · cases h
      · cases h
    · cases h
  case alloc => cases hn : anew (AOp.alloc _) tm H.length <;> rw [hn] at h <;> cases h; exact Keeps.append _ _ (anew_rw hn)
  case box => cases hn : anew (AOp.box _) tm H.length <;> rw [hn] at h <;> cases h; exact Keeps.append _ _ (anew_rw hn)
  case mkslice => cases hn : anew (AOp.mkslice ..) tm H.length <;> rw [hn] at h <;> cases h; exact Keeps.append _ _ (anew_rw hn)
  case bslice => cases hn : anew (AOp.bslice ..) tm H.length <;> rw [hn] at h <;> cases h; exact Keeps.append _ _ (anew_rw hn)
  all_goals (
    (repeat' split at h) <;> first
      | (cases h; exact Keeps.refl _)
      | (cases h; done)
      | (obtain ⟨_, _, h2⟩ := Option.map_eq_some_iff.1 h; cases h2; exact Keeps.refl _))

def KeepC (call : CallF) : Prop := ∀ f args H r H', call f args H = some (r, H') → Keeps H H'
theorem arun_keeps {call : CallF} (hk : KeepC call) {o : AOp} {tm : Tm} {v : Value} {H H' : Hp} (h : arun call o tm H = some (v, H')) : Keeps H H' := by
  unfold arun at h
  split at h
  · exact hk _ _ _ _ _ h
  · split at h
    · exact hk _ _ _ _ _ h
    · cases h
  · exact aop_keeps h
theorem aregion_keeps {call : CallF} (hk : KeepC call) : ∀ (ops : List DOp) (s s' : St), aregion call ops s = some s' → Keeps s.2 s'.2
  | [], s, s', h => by simp [aregion] at h; subst h; exact Keeps.refl _
  | o :: ops, s, s', h => by
    simp only [aregion] at h
    split at h
    · split at h
      · rename_i hr
        exact (arun_keeps hk hr).trans (aregion_keeps hk ops _ _ h)
      · cases h
    · exact aregion_keeps hk ops (put s.1 o.dst undef, s.2) s' h

theorem pure_same {o : AOp} (hk : kindOf o = .pure) {tm : Tm} {v : Value} {H H' : Hp} (h : aop o tm H = some (v, H')) : H' = H ∧ ∀ H2, aop o tm H2 = some (v, H2) := by
  cases o <;> simp only [kindOf] at hk <;> first | (cases hk; done) | skip
  all_goals (
    simp only [aop] at h ⊢
    (repeat' split at h) <;> first
      | (cases h; refine ⟨rfl, fun H2 => ?_⟩; simp [*]; done)
      | (cases h; done)
      | (obtain ⟨q, hq, h2⟩ := Option.map_eq_some_iff.1 h; cases h2; refine ⟨rfl, fun H2 => ?_⟩; simp [*]; done)
      | (obtain ⟨q, hq, h2⟩ := Option.map_eq_some_iff.1 h; cases h2; refine ⟨rfl, fun H2 => ?_⟩; simp_all; done))

theorem read_same {o : AOp} (hk : kindOf o = .read) {tm : Tm} {v : Value} {H H' : Hp} (h : aop o tm H = some (v, H')) :
    H' = H ∧ ∀ H2 : Hp, (∀ b, rblk o tm = some b → H2[b]? = H[b]?) → aop o tm H2 = some (v, H2) := by
  cases o <;> simp only [kindOf] at hk <;> first | (cases hk; done) | skip
  case slice sz x lo hi =>
    simp only [aop] at h ⊢
    obtain ⟨q, hq, h2⟩ := Option.map_eq_some_iff.1 h
    cases h2
    refine ⟨rfl, fun H2 hb => ?_⟩
    have : aslice H2 sz (ev tm x) (lo.map (ev tm)) (hi.map (ev tm)) = some v := by
      rw [← hq]
      unfold aslice
      split
      · rfl
      · rename_i a n m e
        have := hb a.block (by simp [rblk, e])
        have he : H2.esz a.block = H.esz a.block := by unfold Hp.esz; rw [this]
        simp only [he]
      · rfl
    rw [this]; rfl
  case load n b x =>
    simp only [aop] at h ⊢
    split at h
    · rename_i a e
      split at h
      · rename_i hs
        obtain ⟨q, hq, h2⟩ := Option.map_eq_some_iff.1 h
        cases h2
        refine ⟨rfl, fun H2 hb => ?_⟩
        have hb' := hb a.block (by simp [rblk, e])
        have : H2.load a n = H.load a n := by unfold Hp.load Hp.cells; rw [hb']
        rw [if_pos hs, this, hq]; rfl
      · cases h
    · cases h

theorem ev_congr {tm tm' : Tm} {xs : List Operand} (h : ∀ x ∈ xs, ev tm x = ev tm' x) {x : Operand} (hx : x ∈ xs) : ev tm x = ev tm' x := h x hx
theorem map_congr' {tm tm' : Tm} {xs : List Operand} (h : ∀ x ∈ xs, ev tm x = ev tm' x) : xs.map (ev tm) = xs.map (ev tm') := List.map_congr_left h
theorem anew_congr {o : AOp} {tm tm' : Tm} (h : ∀ x ∈ opTmps o, ev tm x = ev tm' x) (k : Nat) : anew o tm k = anew o tm' k := by
  cases o <;> simp only [anew] <;> simp only [opTmps, List.mem_cons, List.not_mem_nil, or_false, forall_eq_or_imp, forall_eq, List.mem_map] at h
  case box x => rw [h]
  case mkslice => rw [h.1, h.2]
  case bslice sz len t ps =>
    have : (ps.map fun p => (p.1, p.2.1, ev tm p.2.2)) = ps.map fun p => (p.1, p.2.1, ev tm' p.2.2) := List.map_congr_left fun p hp => by rw [h _ ⟨p, hp, rfl⟩]
    rw [this]
theorem aop_congr {o : AOp} {tm tm' : Tm} (h : ∀ x ∈ opTmps o, ev tm x = ev tm' x) (H : Hp) : aop o tm H = aop o tm' H := by
  have hn := anew_congr h H.length
  cases o <;> simp only [aop] <;> simp only [opTmps, List.mem_cons, List.not_mem_nil, or_false, forall_eq_or_imp, forall_eq, List.mem_map, List.mem_append] at h
  case build z ps =>
    have : (ps.map fun p => (p.1, p.2.1, ev tm p.2.2)) = ps.map fun p => (p.1, p.2.1, ev tm' p.2.2) := List.map_congr_left fun p hp => by rw [h _ ⟨p, hp, rfl⟩]
    rw [this]
  case mkfn fn xs => rw [List.map_congr_left h]
  case mm b xs => rw [List.map_congr_left h]
  case slice sz x lo hi =>
    obtain ⟨h1, h2⟩ := h
    have e1 : lo.map (ev tm) = lo.map (ev tm') := by
      cases lo with
      | none => rfl
      | some y => simp only [Option.map_some]; rw [h2 y (.inl (by simp))]
    have e2 : hi.map (ev tm) = hi.map (ev tm') := by
      cases hi with
      | none => rfl
      | some y => simp only [Option.map_some]; rw [h2 y (.inr (by simp))]
    rw [h1, e1, e2]
  case alloc => exact congrArg _ hn
  case box => exact congrArg _ hn
  case mkslice => exact congrArg _ hn
  case bslice => exact congrArg _ hn
  all_goals (first | rfl | (rw [h]; done) | (rw [h.1, h.2]; done) | (rw [h.1, h.2.1, h.2.2]; done))
theorem arun_congr {call : CallF} {o : AOp} {tm tm' : Tm} (h : ∀ x ∈ opTmps o, ev tm x = ev tm' x) (H : Hp) : arun call o tm H = arun call o tm' H := by
  cases o
  case call f xs =>
    have h2 : xs.map (ev tm) = xs.map (ev tm') := map_congr' fun y hy => h y (by simpa [opTmps] using hy)
    simp only [arun]; rw [h2]
  case callv x xs =>
    simp only [arun]
    have h1 := h x (by simp [opTmps])
    have h2 : xs.map (ev tm) = xs.map (ev tm') := map_congr' fun y hy => h y (by simp [opTmps, hy])
    rw [h1, h2]
  all_goals exact aop_congr h H

end Go.Ab
