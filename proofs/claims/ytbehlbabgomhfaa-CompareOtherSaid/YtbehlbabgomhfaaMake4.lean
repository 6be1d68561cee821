/- What the functions of package parlmake do, continued: Dfa. Own work. -/
import Derived.Test.YtbehlbabgomhfaaMake3
namespace Go.Proofs.Ytbehlbabgomhfaa
open Go Go.Ab

variable {T : FuncId → Option AFunc}

/-- The heap is as it was, but for two blocks. -/
def But2 (n1 bs bd : Nat) (H0 H : Hp) : Prop := H0.length ≤ H.length ∧ ∀ b : Nat, b < n1 → b ≠ bs → b ≠ bd → H[b]? = H0[b]?

set_option maxHeartbeats 2000000 in
theorem dfa_states [Has T I.parlmake_Below F.parlmake_Below] [Has T I.parlmake_stream_next F.parlmake_stream_next] {Q : AX → Tm → Hp → Prop} {K : List Fk} {H0 : Hp} {tm0 : Tm} {bs bd : Nat} {n c start : Int}
    (hn : 0 < n) (hn2 : n ≤ 6) (hc0 : 0 < c) (hc : c ≤ 3) (hbs : bs < bd) (hbd : bd < H0.length)
    (h3 : tm0 3 = .pointer (some ⟨bs, 0, none⟩)) (h4 : tm0 4 = vi n) (h5 : tm0 5 = vi c) (h6 : tm0 6 = .pointer (some ⟨bd, 0, none⟩)) (h21 : tm0 21 = vi n)
    (k : ∀ (tm : Tm) (H : Hp) (va vn : Value) (us : List Value) (acc : List Int) (next : List (List Int)), (∀ t, t < 7 → tm t = tm0 t) → Part H0.length bd H start va vn us acc next → acc.length = n.toNat → next.length = n.toNat →
      (∀ a ∈ acc, -1 ≤ a) → (∀ r ∈ next, r.length = c.toNat ∧ ∀ x ∈ r, -1 ≤ x ∧ x < n) → But2 H0.length bs bd H0 H → R T Q K .normal tm H) :
    ∀ (m : Nat) (tm : Tm) (H : Hp) (va vn : Value) (us : List Value) (acc : List Int) (next : List (List Int)), next.length + m = n.toNat → acc.length = next.length → tm 22 = vi next.length → tm 21 = vi n → (∀ t, t < 7 → tm t = tm0 t) →
      Str H bs → Part H0.length bd H start va vn us acc next → (∀ a ∈ acc, -1 ≤ a) → (∀ r ∈ next, r.length = c.toNat ∧ ∀ x ∈ r, -1 ≤ x ∧ x < n) → But2 H0.length bs bd H0 H →
      R T Q (.code (.loop F.parlmake_Dfa.L0) :: .endb 0 :: K) .normal tm H := by
  intro m
  induction m with
  | zero =>
    intro tm H va vn us acc next hm hal h22 h21' hT hs hP ha hx he
    have hlt : ¬ (next.length : Int) < n := by omega
    rw [R_loop]
    simp [F.parlmake_Dfa.L0, F.parlmake_Dfa.r5, h22, h21', hlt]
    refine k _ H va vn us acc next (fun t h1 => ?_) hP (by omega) (by omega) ha hx he
    simp only [upd_app]
    repeat rw [if_neg (by omega)]
    exact hT t h1
  | succ m ih =>
    intro tm H va vn us acc next hm hal h22 h21' hT hs hP ha hx he
    have h3' := (hT 3 (by decide)).trans h3
    have h4' := (hT 4 (by decide)).trans h4
    have h5' := (hT 5 (by decide)).trans h5
    have h6' := (hT 6 (by decide)).trans h6
    have hlt : (next.length : Int) < n := by omega
    have hle := he.1
    rw [R_loop]
    generalize hKK : Fk.code (.loop F.parlmake_Dfa.L0) :: .endb 0 :: K = KK
    simp [F.parlmake_Dfa.L0, F.parlmake_Dfa.r5, h22, h21', hlt]
    refine R_draw' fun Hd hdl hdk hdd => ?_
    have hcell : Hd.cells bd = some [vi start, va, vn] := by rw [cells_of ((hdk bd (lt_of_get hP.cell)).trans hP.cell)]; rfl
    have hbl := lt_of_get hP.cell
    have hsd : Str Hd bs := hs.keep fun c hc => hdk c (by omega)
    simp [F.parlmake_Dfa.r6, h6', h3', hcell, rdOk, rblk, hbl] at hdl ⊢
    refine R_dcall (args := [.pointer (some ⟨bs, 0, none⟩), vi 3]) (by simp) rfl (next_any 3 Hd (by omega) (by omega) bs hsd) ?_
    rintro _ H1 ⟨x, rfl, hx1, hx2, hs1, hl1, hk1⟩
    have hP1 : Part H0.length bd H1 start va vn us acc next := hP.congr fun b hb hb' => (hk1 b (by omega)).trans (hdk b hb)
    simp
    rw [V_wrap (by omega) (by omega)]
    refine D_app hP1.oa (by simp) (by decide) ⟨rfl, rfl⟩ (by simp; omega) (by omega) (fun e => by have := (hP.oa.lt e).2; omega) fun q H2 va' H3 hH2 ho3 hb3 hl3 hk3 => ?_
    simp [h6']
    have hcell3 : H3[bd]? = some (.rw 0 [vi start, va, vn]) := (hk3 bd (by omega) (by omega) fun e => by have := (hP.oa.lt e).1; omega).trans hP1.cell
    refine Dh_of (hstore_one (o := 1) hcell3 ho3.one.1 ho3.one.2 (by simp)) ?_
    have hcell1 : H1.cells bd = some [vi start, va, vn] := by rw [cells_of hP1.cell]; rfl
    simp [dcheck, again, want, A_load, hcell, hcell1, hP.oa.arr.same, F.parlmake_Dfa.r7, F.parlmake_Dfa.r8, h5']
    have hP4 := hP.acc' (x := x - 1) (H' := H3) (m := H1.length) (by omega) (by simpa using ho3) (by omega) (by omega) fun b hb hb' hv => by
      rw [hk3 b (by omega) (by omega) hv, hk1 b (by omega), hdk b hb]
    generalize hH4 : List.set H3 bd (.rw 0 [vi start, va', vn]) = H4 at hP4 ⊢
    have hl4 : H4.length = H3.length := by rw [← hH4]; simp
    have hk4 : ∀ b : Nat, b < H0.length → b ≠ bd → b ≠ bs → H4[b]? = H[b]? := fun b hb hne hne' => by
      rw [← hH4, get_other hne, hk3 b (by omega) (by omega) (fun e => by have := (hP.oa.lt e).1; omega), hk1 b hne', hdk b (by omega)]
    have hs4 : Str H4 bs := hs1.keep fun b hb => by
      rw [← hH4, get_other (by omega), hk3 b (by omega) (by omega) (fun e => by have := (hP.oa.lt e).1; omega)]
    refine dfa_row (H0 := H4) hn hn2 hc (by omega) (by simpa using h3') (by simpa using h4') (fun tm5 H5 vo row hT5 h75 hs5 ho5 hr5 hx5 he5 => ?_) c.toNat _ H4 (.slice none 0 0) [] (by simp) (by simp) (by simp) (fun t _ _ => rfl) (by simp) hs4 (Own.nil _ _) (by simp) ⟨Nat.le_refl _, fun _ _ _ => rfl⟩
    have hP5 : Part H0.length bd H5 start va' vn us (acc ++ [x - 1]) next := hP4.congr fun b hb hb' => he5.2 b hb (by omega)
    have h65 : tm5 6 = .pointer (some ⟨bd, 0, none⟩) := by rw [hT5 6 (by decide) (by decide)]; simpa using h6'
    have hc5 : H5.cells bd = some [vi start, va', vn] := by rw [cells_of hP5.cell]; rfl
    have hle5 := he5.1
    simp [F.parlmake_Dfa.r12, h65, hc5, h75]
    have hul : us.length = next.length := hP.len
    refine N_app hP5.on (by simp) (by decide) ho5.one (by omega) fun q vn' H6 ho6 hb6 hl6 hk6 => ?_
    have hcell6 : H6[bd]? = some (.rw 0 [vi start, va', vn]) := (hk6 bd (by omega) fun e => by have := (hP5.on.lt e).1; omega).trans hP5.cell
    simp [h65]
    refine Nh_of (hstore_one (o := 2) hcell6 ho6.one.1 ho6.one.2 (by simp)) ?_
    have hP7 := hP4.next' hP5 ho5 (H' := H6) (by omega) ho6 (by omega) (by omega) (by omega) fun b hb hb' hv => hk6 b hb hv
    have h225 : tm5 22 = vi next.length := by rw [hT5 22 (by decide) (by decide)]; simpa using h22
    have h215 : tm5 21 = vi n := by rw [hT5 21 (by decide) (by decide)]; simpa using h21'
    have hT7 : ∀ t, t < 7 → tm5 t = tm0 t := fun t ht => by
      rw [hT5 t (by omega) (by omega)]
      simp only [upd_app]
      repeat rw [if_neg (by omega)]
      exact hT t ht
    simp [F.parlmake_Dfa.r13, h225]
    rw [V_wrap (by omega) (by omega)]
    subst hKK
    refine ih _ _ va' vn' (us ++ [vo]) (acc ++ [x - 1]) (next ++ [row]) (by simp; omega) (by simp [hal]) (by simp) (by simp [h215]) (fun t ht => ?_) ?_ (by simpa using hP7) ?_ ?_ ?_
    · simp only [upd_app]
      repeat rw [if_neg (by omega)]
      exact hT7 t ht
    · exact hs5.keep fun b hb => by
        rw [get_other (by omega), hk6 b (by omega) fun e => by have := (hP5.on.lt e).1; omega]
    · intro a h
      rcases List.mem_append.1 h with h | h
      · exact ha a h
      · simp at h; omega
    · intro r h
      rcases List.mem_append.1 h with h | h
      · exact hx r h
      · simp at h; subst h; exact ⟨hr5, hx5⟩
    · refine ⟨by simp; omega, fun b hb hne hne' => ?_⟩
      rw [get_other hne', hk6 b (by omega) (fun e => by have := (hP5.on.lt e).1; omega), he5.2 b (by omega) hne, hk4 b hb hne' hne]
      exact he.2 b hb hne hne'

theorem dfa_spec [Has T I.parlmake_Below F.parlmake_Below] [Has T I.parlmake_stream_next F.parlmake_stream_next] [Has T I.parlmake_Dfa F.parlmake_Dfa] {H : Hp} {v : Value} {l : List Int} (hv : Rd H v (l.map vi)) :
    G T I.parlmake_Dfa [v] H (fun r H' => ∃ d, Dfa.Ok d ∧ d.next.length ≤ 6 ∧ DfaV H' r d ∧ Ext H.length H H') := by
  refine G.mk ?_
  simp [F.parlmake_Dfa, F.parlmake_Dfa.c, F.parlmake_Dfa.r0, F.parlmake_Dfa.r1, F.parlmake_Dfa.r2, vbuild, bfill, splice, hv.one.1]
  refine R_heap fun H1 hH1 => ?_
  have hl1 : H1.length = H.length + 2 := by rw [hH1]; simp
  have hk1 : ∀ b : Nat, b < H.length → H1[b]? = H[b]? := fun b hb => by rw [hH1, get_left hb]
  have hb1 : H1[H.length + 1]? = some (.rw 0 [v]) := by rw [hH1]; simp
  have hs1 : Str H1 (H.length + 1) := ⟨v, l, hb1, (hv.low.congr fun b hb _ => hk1 b hb).mono fun b hb => Nat.lt_succ_of_lt hb⟩
  refine R_call (args := [.pointer (some ⟨H.length + 1, 0, none⟩), vi 6]) (by simp) (next_any 6 H1 (by omega) (by omega) _ hs1) ?_
  rintro _ H2 ⟨x, rfl, hx1, hx2, hs2, hl2, hk2⟩
  simp
  rw [V_wrap (by omega) (by omega)]
  refine R_call (args := [.pointer (some ⟨H.length + 1, 0, none⟩), vi 3]) (by simp) (next_any 3 H2 (by omega) (by omega) _ hs2) ?_
  rintro _ H3 ⟨y, rfl, hy1, hy2, hs3, hl3, hk3⟩
  simp
  rw [V_wrap (by omega) (by omega)]
  simp [F.parlmake_Dfa.r3]
  refine R_call (args := [.pointer (some ⟨H.length + 1, 0, none⟩), vi (1 + x)]) (by simp) (next_any (1 + x) H3 (by omega) (by omega) _ hs3) ?_
  rintro _ H4 ⟨z, rfl, hz1, hz2, hs4, hl4, hk4⟩
  simp [vbuild, bfill, splice]
  refine Nh_of (hstore_all (get_at rfl) (by simp) (by simp) (by simp)) ?_
  refine R_heap fun H5 hH5 => ?_
  have hl5 : H5.length = H.length + 3 := by rw [hH5]; simp; omega
  have hk5 : ∀ b : Nat, b < H.length + 2 → H5[b]? = H4[b]? := fun b hb => by rw [hH5, get_other (by omega), get_left (by omega)]
  have hb5 : H5[H.length + 2]? = some (.rw 0 [vi z, .slice none 0 0, .slice none 0 0]) := by
    rw [hH5, show H.length + 2 = H4.length by omega, get_same (by simp)]
  have hs5 : Str H5 (H.length + 1) := hs4.keep fun b hb => hk5 b (by omega)
  simp [F.parlmake_Dfa.r4]
  refine dfa_states (H0 := H5) (bs := H.length + 1) (bd := H.length + 2) (n := 1 + x) (c := 1 + y) (start := z) (by omega) (by omega) (by omega) (by omega) (by omega) (by omega) (by simp) (by simp) (by simp) (by simp; omega) (by simp) ?_
    (1 + x).toNat _ H5 (.slice none 0 0) (.slice none 0 0) [] [] [] (by simp) rfl (by simp) (by simp) (fun t _ => rfl) hs5 ⟨hb5, by omega, .nil _ _, .nil _ _, rfl, by simp, by simp [blkOf], by simp [blkOf]⟩ (by simp) (by simp) ⟨Nat.le_refl _, fun _ _ _ _ => rfl⟩
  intro tm6 H6 va vn us acc next hT6 hP6 ha6 hn6 hai hni he6
  have h66 : tm6 6 = .pointer (some ⟨H.length + 2, 0, none⟩) := by rw [hT6 6 (by decide)]; simp; omega
  have h26 : tm6 2 = .pointer (some ⟨H.length, 0, none⟩) := by rw [hT6 2 (by decide)]; simp
  have hc6 : H6.cells (H.length + 2) = some [vi z, va, vn] := by rw [cells_of hP6.cell]; rfl
  have hr6 : H6[H.length]? = some (.rw 0 [vi 0, .slice none 0 0, .slice none 0 0]) := by
    rw [he6.2 _ (by omega) (by omega) (by omega), hk5 _ (by omega), hk4 _ (by omega), hk3 _ (by omega), hk2 _ (by omega), hH1]; simp
  have hle6 := he6.1
  simp [F.parlmake_Dfa.r14, h66, h26, hc6]
  refine Nh_of (hstore_all hr6 (by simp) (by simp [hP6.oa.one.2, hP6.on.one.2]) (by simp)) ?_
  simp [h26, cells_same (show H.length < H6.length by omega)]
  have hok : Dfa.Ok ⟨z, acc, next⟩ := {
    start := ⟨hz1, by show z < (next.length : Int); omega⟩
    size := by show next.length ≤ 200; omega
    acc := ⟨by show acc.length = next.length; omega, hai⟩
    cols := ⟨(1 + y).toNat, by omega, by omega, fun r hr => ⟨(hni r hr).1, fun q hq => by have := (hni r hr).2 q hq; show -1 ≤ q ∧ q < (next.length : Int); omega⟩⟩ }
  refine ⟨⟨z, acc, next⟩, hok, by show next.length ≤ 6; omega, ⟨va, vn, rfl, ?_, us, ?_, hP6.len, fun i u r hu hr => ?_⟩, ?_⟩
  · exact (hP6.oa.congr fun b hb _ => get_other fun e => by have := (hP6.oa.lt hb).1; omega).rd
  · exact (hP6.on.congr fun b hb _ => get_other fun e => by have := (hP6.on.lt hb).1; omega).rd
  · have ho := hP6.rows i u r hu hr
    exact (ho.congr fun b hb _ => get_other fun e => by have := (ho.lt hb).1; omega).rd
  · refine ⟨by simp; omega, fun b hb => ?_⟩
    rw [get_other (by omega), he6.2 _ (by omega) (by omega) (by omega), hk5 _ (by omega), hk4 _ (by omega), hk3 _ (by omega), hk2 _ (by omega), hk1 _ hb]
end Go.Proofs.Ytbehlbabgomhfaa
