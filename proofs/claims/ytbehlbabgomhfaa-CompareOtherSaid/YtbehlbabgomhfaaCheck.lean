/- What the functions of package dfa do. Own work. -/
import Derived.Test.YtbehlbabgomhfaaAuto
import Derived.Test.YtbehlbabgomhfaaGdfa
namespace Go.Proofs.Ytbehlbabgomhfaa
open Go Go.Ab

variable {T : FuncId → Option AFunc}

theorem check_rows {Q : AX → Tm → Hp → Prop} {K : List Fk} {H : Hp} {vn : Value} {rows : List (List Int)} {c : Nat} {q : Value} (hv : RdGrid H vn rows) (hc : 1 ≤ c) (hr : ∀ r ∈ rows, r.length = c) (hl : rows.length ≤ 200)
    (k : ∀ tm : Tm, tm 1 = q → R T Q K .normal tm H) :
    ∀ (m i : Nat) (tm : Tm), i + m = rows.length → tm 37 = vi i → tm 36 = vi rows.length → tm 35 = vn → tm 3 = vi c → tm 1 = q → R T Q (.code (.loop F.dfa_Check.L0) :: .endb 0 :: K) .normal tm H := by
  intro m
  induction m with
  | zero =>
    intro i tm hm h37 h36 h35 h3 h1
    rw [R_loop]
    have : ¬ (i : Int) < rows.length := by omega
    simp [F.dfa_Check.L0, F.dfa_Check.r9, h37, h36, show ¬ i < rows.length by omega]
    exact k _ (by simp [h1])
  | succ m ih =>
    intro i tm hm h37 h36 h35 h3 h1
    have hi : i < rows.length := by omega
    obtain ⟨us, u, hus, hu, hur⟩ := hv.row (List.getElem?_eq_getElem hi)
    have hrl : rows[i].length = c := hr _ (List.getElem_mem hi)
    rw [R_loop]
    generalize hKK : Fk.code (.loop F.dfa_Check.L0) :: .endb 0 :: K = KK
    simp [F.dfa_Check.L0, F.dfa_Check.r9, F.dfa_Check.r10, F.dfa_Check.r11, F.dfa_Check.r13, h37, h36, h35, hi]
    refine N_at hus rfl hu fun _ => ?_
    simp [hur.len, h3, h37, h36, h35, hrl, want, show ¬ c = 0 by omega]
    rw [V_wrap (by omega) (by omega)]
    subst hKK
    exact ih (i + 1) _ (by omega) (by simp) (by simp [h36]) (by simp [h35]) (by simp [h3]) (by simp [h1])

theorem check_row {Q : AX → Tm → Hp → Prop} {K : List Fk} {H : Hp} {n b : Nat} {st : Int} {va vn vr : Value} {row : List Int} (tm0 : Tm) (hcell : H.cells b = some [vi st, va, vn]) (hvn : vlen vn = some (vi n)) (hvr : Rd H vr (row.map vi))
    (hr : ∀ x ∈ row, -1 ≤ x ∧ x < n) (hl : row.length ≤ 200) (h1 : tm0 1 = .pointer (some ⟨b, 0, none⟩))
    (k : ∀ tm : Tm, (∀ t, t < 75 → t ≠ 9 → tm t = tm0 t) → R T Q K .normal tm H) :
    ∀ (m i : Nat) (tm : Tm), i + m = row.length → tm 77 = vi i → tm 76 = vi row.length → tm 75 = vr → (∀ t, t < 75 → t ≠ 9 → tm t = tm0 t) → R T Q (.code (.loop F.dfa_Check.L2) :: .endb 4 :: K) .normal tm H := by
  intro m
  induction m with
  | zero =>
    intro i tm hm h77 h76 h75 hT
    rw [R_loop]
    simp [F.dfa_Check.L2, F.dfa_Check.r22, h77, h76, show ¬ i < row.length by omega]
    refine k _ fun t h1 h2 => ?_
    simp only [upd_app]
    repeat rw [if_neg (by omega)]
    exact hT t h1 h2
  | succ m ih =>
    intro i tm hm h77 h76 h75 hT
    have hi : i < row.length := by omega
    have hx := hr _ (List.getElem_mem hi)
    have h1' : tm 1 = .pointer (some ⟨b, 0, none⟩) := by rw [hT 1 (by decide) (by decide), h1]
    rw [R_loop]
    generalize hKK : Fk.code (.loop F.dfa_Check.L2) :: .endb 4 :: K = KK
    simp [F.dfa_Check.L2, F.dfa_Check.r22, F.dfa_Check.r23, F.dfa_Check.r24, F.dfa_Check.r26, h77, h76, h75, hi]
    refine N_at hvr rfl (u := vi row[i]) (by simp) fun _ => ?_
    simp [h1', h77, hcell, hvn, want, show ¬ row[i] < -1 by omega, show ¬ (n : Int) ≤ row[i] by omega]
    rw [V_wrap (by omega) (by omega)]
    subst hKK
    refine ih (i + 1) _ (by omega) (by simp) (by simp [h76]) (by simp [h75]) fun t h1 h2 => ?_
    simp only [upd_app]
    repeat rw [if_neg (by omega)]
    exact hT t h1 h2

theorem check_states {Q : AX → Tm → Hp → Prop} {K : List Fk} {H : Hp} {b : Nat} {va vn : Value} {d : Dfa} (hcell : H.cells b = some [vi d.start, va, vn]) (hva : Rd H va (d.acc.map vi)) (hvn : RdGrid H vn d.next) (hd : d.Ok)
    (k : ∀ tm : Tm, R T Q K .normal tm H) :
    ∀ (m i : Nat) (tm : Tm), i + m = d.next.length → tm 64 = vi i → tm 63 = vi d.next.length → tm 62 = vn → tm 1 = .pointer (some ⟨b, 0, none⟩) → R T Q (.code (.loop F.dfa_Check.L1) :: .endb 2 :: K) .normal tm H := by
  intro m
  obtain ⟨c, hc1, hc2, hrows⟩ := hd.cols
  have hsz := hd.size
  induction m with
  | zero =>
    intro i tm hm h64 h63 h62 h1
    rw [R_loop]
    simp [F.dfa_Check.L1, F.dfa_Check.r17, h64, h63, show ¬ i < d.next.length by omega]
    exact k _
  | succ m ih =>
    intro i tm hm h64 h63 h62 h1
    have hi : i < d.next.length := by omega
    have hia : i < d.acc.length := by rw [hd.acc.1]; exact hi
    obtain ⟨us, u, hus, hu, hur⟩ := hvn.row (List.getElem?_eq_getElem hi)
    have hrl := hrows _ (List.getElem_mem hi)
    have ha := hd.acc.2 _ (List.getElem_mem hia)
    rw [R_loop]
    generalize hKK : Fk.code (.loop F.dfa_Check.L1) :: .endb 2 :: K = KK
    simp [F.dfa_Check.L1, F.dfa_Check.r17, F.dfa_Check.r18, F.dfa_Check.r19, F.dfa_Check.r21, h64, h63, h62, hi]
    refine N_at hus rfl hu fun _ => ?_
    simp [h1, h64, hcell]
    refine N_at hva rfl (u := vi d.acc[i]) (by simp [hia]) fun _ => ?_
    simp [show ¬ d.acc[i] < -1 by omega, hur.len]
    refine check_row _ hcell hvn.len hur hrl.2 (by omega) (by simp [h1]) (fun tm3 hT3 => ?_) d.next[i].length 0 _ (by simp) (by simp) (by simp) (by simp) fun t _ _ => rfl
    have g64 : tm3 64 = vi i := by rw [hT3 64 (by decide) (by decide)]; simp [h64]
    simp [F.dfa_Check.r27, g64]
    rw [V_wrap (by omega) (by omega)]
    subst hKK
    exact ih (i + 1) _ (by omega) (by simp) (by simp; rw [hT3 63 (by decide) (by decide)]; simp [h63]) (by simp; rw [hT3 62 (by decide) (by decide)]; simp [h62]) (by simp; rw [hT3 1 (by decide) (by decide)]; simp [h1])

theorem check_spec [Has T I.dfa_Check F.dfa_Check] {H : Hp} {v : Value} {d : Dfa} (hd : d.Ok) (hv : DfaV H v d) :
    G T I.dfa_Check [v] H (fun r H' => r = vi 0 ∧ Ext H.length H H') := by
  obtain ⟨va, vn, rfl, hva, hvn⟩ := hv
  obtain ⟨c, hc1, hc2, hrows⟩ := hd.cols
  have hsz := hd.size
  have hst := hd.start
  have hacc := hd.acc.1
  have hn0 : 0 < d.next.length := by omega
  refine G.mk ?_
  simp [F.dfa_Check, F.dfa_Check.c, F.dfa_Check.r0]
  refine R_heap fun H1 hH1 => ?_
  have he : Ext H.length H H1 := by rw [hH1]; exact Ext.app _ _ (Nat.le_refl _)
  have hva1 := hva.ext he
  have hvn1 := hvn.ext he
  have hcell : H1.cells H.length = some [vi d.start, va, vn] := by rw [hH1]; simp
  obtain ⟨us, u, hus, hu, hur⟩ := hvn1.row (List.getElem?_eq_getElem hn0)
  have hrl := hrows _ (List.getElem_mem hn0)
  simp [F.dfa_Check.r1, F.dfa_Check.r3, F.dfa_Check.r5, F.dfa_Check.r6, F.dfa_Check.r8, hcell, hvn1.len, hva1.len, want, show ¬ (200 : Int) < d.next.length by omega, show ¬ d.next = [] by intro e; simp [e] at hn0, hacc]
  refine N_at hus rfl hu fun _ => ?_
  simp [hur.len, hrl.1, hcell, hvn1.len, show ¬ (16 : Int) < c by omega]
  refine check_rows hvn1 hc1 (fun r hr => (hrows r hr).1) hsz (fun tm h1 => ?_) d.next.length 0 _ (by simp) (by simp) (by simp) (by simp) (by simp) rfl
  simp at h1
  simp [F.dfa_Check.r14, F.dfa_Check.r16, h1, hcell, hvn1.len, want, show ¬ d.start < 0 by omega, show ¬ (d.next.length : Int) ≤ d.start by omega]
  refine check_states hcell hva1 hvn1 hd (fun tm => ?_) d.next.length 0 _ (by simp) (by simp) (by simp) (by simp) (by simp [h1])
  simp [F.dfa_Check.r28]
  exact he
end Go.Proofs.Ytbehlbabgomhfaa
