/- What the functions of package dfa do: Run. Own work. -/
import Derived.Test.YtbehlbabgomhfaaCheck
namespace Go.Ab
def Dfa.step (d : Dfa) (s : Nat) (x : Int) : Int := (((d.next[s]?).getD [])[x.toNat]?).getD 0
/-- What an automaton accepts by a word from a state on; -1: nothing. -/
def Dfa.run (d : Dfa) : Nat → List Int → Int
  | s, [] => (d.acc[s]?).getD 0
  | s, x :: w => if d.step s x < 0 then -1 else d.run (d.step s x).toNat w
end Go.Ab
namespace Go.Proofs.Ytbehlbabgomhfaa
open Go Go.Ab

variable {T : FuncId → Option AFunc}

theorem run_word {Q : AX → Tm → Hp → Prop} {K : List Fk} {H : Hp} {b c : Nat} {u va vn vw : Value} {us : List Value} {st : Int} {w : List Int} (hcell : H.cells b = some [vi st, va, vn]) (hus : Rd H vn us) (hu : us[0]? = some u) (hul : vlen u = some (vi c))
    (hw : Rd H vw (w.map vi)) (hr : ∀ x ∈ w, 0 ≤ x ∧ x < c) (hl : w.length ≤ 4000) (k : ∀ tm : Tm, tm 2 = .pointer (some ⟨b, 0, none⟩) → tm 1 = vw → R T Q K .normal tm H) :
    ∀ (m i : Nat) (tm : Tm), i + m = w.length → tm 22 = vi i → tm 21 = vi w.length → tm 20 = vw → tm 2 = .pointer (some ⟨b, 0, none⟩) → tm 1 = vw → R T Q (.code (.loop F.dfa_Run.L0) :: .endb 0 :: K) .normal tm H := by
  intro m
  induction m with
  | zero =>
    intro i tm hm h22 h21 h20 h2 h1
    rw [R_loop]
    simp [F.dfa_Run.L0, F.dfa_Run.r7, h22, h21, show ¬ i < w.length by omega]
    exact k _ (by simp [h2]) (by simp [h1])
  | succ m ih =>
    intro i tm hm h22 h21 h20 h2 h1
    have hi : i < w.length := by omega
    have hx := hr _ (List.getElem_mem hi)
    rw [R_loop]
    generalize hKK : Fk.code (.loop F.dfa_Run.L0) :: .endb 0 :: K = KK
    simp [F.dfa_Run.L0, F.dfa_Run.r7, F.dfa_Run.r8, F.dfa_Run.r9, F.dfa_Run.r11, h22, h21, h20, hi]
    refine N_at hw rfl (u := vi w[i]) (by simp [hi]) fun _ => ?_
    simp [h2, h22, hcell, want, show ¬ w[i] < 0 by omega]
    obtain ⟨b', o, e1, ⟨us', e2, e3⟩, -⟩ := hus.get hu
    have e1' : vidxs 1 vn (vi 0) = some (.pointer (some ⟨b', o, none⟩)) := e1
    simp [e1', e2, e3, hul, h22, show ¬ (c : Int) ≤ w[i] by omega]
    rw [V_wrap (by omega) (by omega)]
    subst hKK
    exact ih (i + 1) _ (by omega) (by simp) (by simp [h21]) (by simp [h20]) (by simp [h2]) (by simp [h1])

theorem run_steps {Q : AX → Tm → Hp → Prop} {K : List Fk} {H : Hp} {b c : Nat} {va vn vw : Value} {d : Dfa} (hd : d.Ok) (hcell : H.cells b = some [vi d.start, va, vn]) (hvn : RdGrid H vn d.next) (hc : ∀ r ∈ d.next, r.length = c)
    {w : List Int} (hw : Rd H vw (w.map vi)) (hr : ∀ x ∈ w, 0 ≤ x ∧ x < c) (hl : w.length ≤ 4000)
    (k1 : ∀ (tm : Tm) (s : Nat), tm 2 = .pointer (some ⟨b, 0, none⟩) → tm 9 = vi s → s < d.next.length → d.run d.start.toNat w = (d.acc[s]?).getD 0 → R T Q K .normal tm H)
    (k2 : ∀ (tm : Tm), tm 4 = vi (d.run d.start.toNat w) → tm 5 = vi 0 → R T Q K .ret tm H) :
    ∀ (rest : List Int) (i s : Nat) (tm : Tm), w.drop i = rest → i ≤ w.length → tm 42 = vi i → tm 41 = vi w.length → tm 40 = vw → tm 2 = .pointer (some ⟨b, 0, none⟩) → tm 9 = vi s → s < d.next.length → d.run d.start.toNat w = d.run s rest →
      R T Q (.code (.loop F.dfa_Run.L1) :: .endb 2 :: K) .normal tm H := by
  intro rest
  induction rest with
  | nil =>
    intro i s tm hd' hi h42 h41 h40 h2 h9 hs hrun
    have := List.drop_eq_nil_iff.1 hd'
    rw [R_loop]
    simp [F.dfa_Run.L1, F.dfa_Run.r14, h42, h41, show ¬ i < w.length by omega]
    exact k1 _ s (by simp [h2]) (by simp [h9]) hs hrun
  | cons x rest ih =>
    intro i s tm hd' hi h42 h41 h40 h2 h9 hs hrun
    have hlt : i < w.length := by
      rcases Nat.lt_or_ge i w.length with h | h
      · exact h
      · rw [List.drop_eq_nil_of_le h] at hd'; cases hd'
    have hx : w[i]? = some x := by rw [← List.head?_drop, hd']; rfl
    have hxr := hr x (List.mem_of_getElem? hx)
    have hd2 : w.drop (i + 1) = rest := by rw [← List.drop_drop, hd']; rfl
    obtain ⟨us, u, hus, hu, hur⟩ := hvn.row (List.getElem?_eq_getElem hs)
    obtain ⟨c', -, -, hrows⟩ := hd.cols
    have hrow := hrows _ (List.getElem_mem hs)
    have hxl : x.toNat < d.next[s].length := by rw [hc _ (List.getElem_mem hs)]; omega
    have hst : d.step s x = d.next[s][x.toNat] := by simp [Dfa.step, hs, hxl]
    have hrg := hrow.2 _ (List.getElem_mem hxl)
    rw [R_loop]
    generalize hKK : Fk.code (.loop F.dfa_Run.L1) :: .endb 2 :: K = KK
    simp [F.dfa_Run.L1, F.dfa_Run.r14, F.dfa_Run.r15, F.dfa_Run.r16, F.dfa_Run.r17, h42, h41, h40, hlt]
    refine N_at hw rfl (u := vi x) (by simp [hx]) fun _ => ?_
    simp [h2, h9, hcell]
    refine N_at hus rfl hu fun _ => ?_
    simp
    refine N_at hur (j := x.toNat) (by omega) (u := vi d.next[s][x.toNat]) (by simp [hxl]) fun _ => ?_
    simp
    refine Br_dec (fun h => ?_) (fun h => ?_)
    · simp [F.dfa_Run.r18]
      subst hKK
      simp
      refine k2 _ ?_ (by simp)
      rw [hrun]
      simp [Dfa.run, hst, h]
    · simp [F.dfa_Run.r19, h42]
      rw [V_wrap (by omega) (by omega)]
      subst hKK
      refine ih (i + 1) d.next[s][x.toNat].toNat _ hd2 (by omega) (by simp) (by simp [h41]) (by simp [h40]) (by simp [h2]) (by simp; omega) (by omega) ?_
      rw [hrun]
      simp [Dfa.run, hst, h]

theorem run_spec [Has T I.dfa_Check F.dfa_Check] [Has T I.dfa_Run F.dfa_Run] {H : Hp} {v vw : Value} {d : Dfa} {c : Nat} {w : List Int} (hd : d.Ok) (hv : DfaV H v d) (hc : ∀ r ∈ d.next, r.length = c) (hw : Rd H vw (w.map vi)) (hr : ∀ x ∈ w, 0 ≤ x ∧ x < c) (hl : w.length ≤ 4000) :
    G T I.dfa_Run [v, vw] H (fun r H' => r = .tuple #[vi (d.run d.start.toNat w), vi 0] ∧ Ext H.length H H') := by
  obtain ⟨va, vn, rfl, hva, hvn⟩ := hv
  have hst := hd.start
  have hacc := hd.acc.1
  have hn0 : 0 < d.next.length := by omega
  refine G.mk ?_
  simp [F.dfa_Run, F.dfa_Run.c, F.dfa_Run.r0]
  refine R_heap fun H1 hH1 => ?_
  have he : Ext H.length H H1 := by rw [hH1]; exact Ext.app _ _ (Nat.le_refl _)
  have hcell1 : H1.cells H.length = some [vi d.start, va, vn] := by rw [hH1]; simp
  have hl1 : H1.length = H.length + 1 := by rw [hH1]; simp
  simp [F.dfa_Run.r1, hcell1]
  refine R_call (args := [.agg #[vi d.start, va, vn]]) (by simp) (check_spec hd ⟨va, vn, rfl, hva.ext he, hvn.ext he⟩) ?_
  rintro _ H2 ⟨rfl, he2⟩
  have hE : Ext H.length H H2 := he.trans he2 (by omega)
  have hcell : H2.cells H.length = some [vi d.start, va, vn] := by rw [he2.cells (by omega)]; exact hcell1
  have hva2 := hva.ext hE
  have hvn2 := hvn.ext hE
  have hw2 := hw.ext hE
  obtain ⟨us, u, hus, hu, hur⟩ := hvn2.row (List.getElem?_eq_getElem hn0)
  simp [F.dfa_Run.r2, F.dfa_Run.r4, F.dfa_Run.r6, hw2.len, show ¬ (4000 : Int) < w.length by omega]
  refine run_word hcell hus hu (by rw [hur.len]; simp [hc _ (List.getElem_mem hn0)]) hw2 hr hl (fun tm h2 h1 => ?_) w.length 0 _ (by simp) (by simp) (by simp) (by simp) (by simp) (by simp)
  simp [F.dfa_Run.r12, F.dfa_Run.r13, h2, hcell, h1, hw2.len]
  refine run_steps hd hcell hvn2 hc hw2 hr hl (fun tm s h2 h9 hs hrun => ?_) (fun tm h4 h5 => ?_) w 0 d.start.toNat _ rfl (by omega) (by simp) (by simp) (by simp) (by simp [h2]) (by simp; omega) (by omega) rfl
  · have hsa : s < d.acc.length := by omega
    simp [F.dfa_Run.r20, h2, h9, hcell]
    refine N_at hva2 rfl (u := vi d.acc[s]) (by simp [hsa]) fun _ => ?_
    simp
    exact ⟨by rw [hrun]; simp [hsa], hE⟩
  · simp [h4, h5]
    exact hE
end Go.Proofs.Ytbehlbabgomhfaa
