/- What compare.Other does, end. Own work. -/
import Derived.Test.YtbehlbabgomhfaaOther
namespace Go.Proofs.Ytbehlbabgomhfaa
open Go Go.Ab

variable {T : FuncId → Option AFunc}

theorem Dfa.Ok.other {d : Dfa} (hd : d.Ok) (h : d.next.length < 200) : d.other.Ok := by
  obtain ⟨c, hc1, hc2, hrows⟩ := hd.cols
  have hn0 : 0 < d.next.length := by have := hd.start; omega
  have h0 : d.next[0]? = some d.next[0] := List.getElem?_eq_getElem hn0
  have hl : d.other.next.length = d.next.length + 1 := by simp [Dfa.other]
  refine ⟨⟨hd.start.1, by rw [hl]; have := hd.start.2; show d.start < _; omega⟩, by omega, ⟨by simp [Dfa.other, hd.acc.1], fun a ha => ?_⟩, c, hc1, hc2, fun r hr => ?_⟩
  · simp [Dfa.other] at ha
    rcases ha with ⟨x, -, rfl⟩ | rfl
    · split <;> omega
    · omega
  · rw [hl]
    simp [Dfa.other, h0] at hr
    rcases hr with ⟨q, hq, rfl⟩ | rfl
    · have := hrows q hq
      refine ⟨by simp [this.1], fun x hx => ?_⟩
      simp at hx
      obtain ⟨y, hy, rfl⟩ := hx
      have := this.2 y hy
      split <;> omega
    · refine ⟨by simp [(hrows _ (List.getElem_mem hn0)).1], fun x hx => ?_⟩
      have := (List.mem_replicate.1 hx).2
      omega

set_option maxHeartbeats 4000000 in
theorem other_spec [Has T I.dfa_Check F.dfa_Check] [Has T I.compare_Other F.compare_Other] {H : Hp} {v : Value} {d : Dfa} (hd : d.Ok) (hv : DfaV H v d) :
    G T I.compare_Other [v] H (fun r H' => DfaV H' r d.other ∧ Ext H.length H H') := by
  obtain ⟨va0, vn0, rfl, hva, hvn⟩ := hv
  have hst := hd.start
  have hacc := hd.acc.1
  have hsz := hd.size
  have hn0 : 0 < d.next.length := by omega
  have h0 : d.next[0]? = some d.next[0] := List.getElem?_eq_getElem hn0
  obtain ⟨c, hc1, hc2, hrows⟩ := hd.cols
  have hr0 := (hrows _ (List.getElem_mem hn0)).1
  refine G.mk ?_
  simp [F.compare_Other, F.compare_Other.c, F.compare_Other.r0]
  refine R_heap fun H1 hH1 => ?_
  have he : Ext H.length H H1 := by rw [hH1]; exact Ext.app _ _ (Nat.le_refl _)
  have hl1 : H1.length = H.length + 2 := by rw [hH1]; simp
  have hcell1 : H1.cells H.length = some [vi d.start, va0, vn0] := by rw [hH1]; simp [Hp.cells]
  have hres1 : H1[H.length + 1]? = some (.rw 0 [vi 0, .slice none 0 0, .slice none 0 0]) := by rw [hH1]; simp
  simp [F.compare_Other.r1, hcell1]
  refine R_call (args := [.agg #[vi d.start, va0, vn0]]) (by simp) (check_spec hd ⟨va0, vn0, rfl, hva.ext he, hvn.ext he⟩) ?_
  rintro _ H2 ⟨rfl, he2⟩
  have hE : Ext H.length H H2 := he.trans he2 (by omega)
  have hle2 := he2.1
  have hcell2 : H2.cells H.length = some [vi d.start, va0, vn0] := by rw [he2.cells (by omega)]; exact hcell1
  have hres2 : H2[H.length + 1]? = some (.rw 0 [vi 0, .slice none 0 0, .slice none 0 0]) := by rw [he2.get (by omega)]; exact hres1
  simp [F.compare_Other.r3, hcell2, (hvn.ext hE).len, F.compare_Other.r4, vbuild, bfill, splice]
  refine Nh_of (hstore_all (get_at rfl) (by simp) (by simp) (by simp)) ?_
  refine R_heap fun H3 hH3 => ?_
  have hl3 : H3.length = H2.length + 1 := by rw [hH3]; simp
  have hk3 : ∀ b : Nat, b < H2.length → H3[b]? = H2[b]? := fun b hb => by rw [hH3, get_other (by omega), get_left hb]
  have hE3 : Ext H.length H H3 := ⟨by have := hE.1; omega, fun b hb => by rw [hk3 b (by omega)]; exact hE.get hb⟩
  have hcell3 : H3.cells H.length = some [vi d.start, va0, vn0] := by rw [← hcell2]; simp only [Hp.cells, hk3 H.length (by omega)]
  have hres3 : H3[H.length + 1]? = some (.rw 0 [vi 0, .slice none 0 0, .slice none 0 0]) := by rw [hk3 _ (by omega)]; exact hres2
  have hb3 : H3[H2.length]? = some (.rw 0 [vi d.start, .slice none 0 0, .slice none 0 0]) := by rw [hH3, get_same (by simp)]
  simp [F.compare_Other.r5, hcell3, (hvn.ext hE3).len]
  refine other_states (He := H) (H0 := H3) _ (b1 := H.length) (bd := H2.length) hd (by omega) (by omega) hcell3 (Nat.le_refl _) hE3 hva hvn (by simp) (by simp) (by simp)
    (fun tm4 H4 va vn us hT4 hP4 he4 => ?_) d.next.length 0 _ H3 (.slice none 0 0) (.slice none 0 0) [] (by simp) (by simp) (by simp) (by simp) (fun t _ => rfl)
    ⟨hb3, by omega, by simpa using Own.nil _ _, by simpa using Own.nil _ _, by simp, by simp, by simp [blkOf], by simp [blkOf]⟩ ⟨Nat.le_refl _, fun _ _ _ => rfl⟩
  have hle4 := he4.1
  have hul := hP4.len
  simp at hul
  have j1 : tm4 1 = .pointer (some ⟨H.length, 0, none⟩) := by rw [hT4 1 (by decide)]; simp
  have j2 : tm4 2 = .pointer (some ⟨H.length + 1, 0, none⟩) := by rw [hT4 2 (by decide)]; simp
  have j3 : tm4 3 = vi d.next.length := by rw [hT4 3 (by decide)]; simp
  have j4 : tm4 4 = .pointer (some ⟨H2.length, 0, none⟩) := by rw [hT4 4 (by decide)]; simp
  have hcell4 : H4.cells H.length = some [vi d.start, va0, vn0] := by rw [← hcell3]; simp only [Hp.cells, he4.2 H.length (by omega) (by omega)]
  have hE4 : Ext H.length H H4 := ⟨by have := hE.1; omega, fun b hb => by rw [he4.2 b (by omega) (by omega)]; exact hE3.get hb⟩
  have hres4 : H4[H.length + 1]? = some (.rw 0 [vi 0, .slice none 0 0, .slice none 0 0]) := by rw [he4.2 _ (by omega) (by omega)]; exact hres3
  obtain ⟨ws, u, hws, hu, hur⟩ := (hvn.ext hE4).row h0
  simp [F.compare_Other.r21, F.compare_Other.r22, j1, hcell4]
  refine N_at hws rfl hu fun _ => ?_
  simp [hur.len, hr0]
  refine other_last (H0 := H4) _ (n := d.next.length) (c := c) (by omega) (by simp [j3]) (fun tm5 H5 vo hT5 h105 ho5 he5 => ?_) c 0 _ H4 (.slice none 0 0) (by simp) (by simp) (by simp) (fun t _ _ => rfl) (by simp) (by simpa using Own.nil _ _) (Ext.refl _ _)
  have hle5 := he5.1
  have hP5 := hP4.congr fun b hb _ => he5.get hb
  have k2 : tm5 2 = .pointer (some ⟨H.length + 1, 0, none⟩) := by rw [hT5 2 (by decide) (by decide)]; simp [j2]
  have k4 : tm5 4 = .pointer (some ⟨H2.length, 0, none⟩) := by rw [hT5 4 (by decide) (by decide)]; simp [j4]
  have hal : ((d.acc.map fun a => if a < 0 then (0 : Int) else -1).map vi).length = d.next.length := by simp [hacc]
  simp only [R_seq]
  refine R_draw' fun Hd hdl hdk hdd => ?_
  have hbl := lt_of_get hP5.cell
  have hcd : Hd[H2.length]? = some (.rw 0 [vi d.start, va, vn]) := (hdk _ hbl).trans hP5.cell
  have hccd : Hd.cells H2.length = some [vi d.start, va, vn] := by rw [cells_of hcd]; rfl
  have hPd := hP5.congr fun b hb _ => hdk b hb
  simp [F.compare_Other.r26, k4, hccd, rdOk, rblk, hbl, h105] at hdl ⊢
  refine D_app hPd.on (by simp) (by decide) ho5.one (by omega) (by omega) (fun e => by have := (hP5.on.lt e).2; omega) fun q6 H6' vn' H6 hH6' ho6 hb6 hl6 hk6 => ?_
  have hc6 : H6[H2.length]? = some (.rw 0 [vi d.start, va, vn]) := (hk6 _ (by omega) (by omega) fun e => by have := (hP5.on.lt e).1; omega).trans hcd
  have hcc6 : H6.cells H2.length = some [vi d.start, va, vn] := by rw [cells_of hc6]; rfl
  have hcc6' : Hp.cells H6' H2.length = some [vi d.start, va, vn] := by rw [hH6']; simp only [Hp.cells]; rw [get_other (by omega), hcd]; rfl
  simp [k4, hcc6, rdOk, rblk, hbl]
  have hoa6 : Own H3.length H6 va _ := hPd.oa.congr fun b hb hlt => hk6 b hlt (fun e => by have := (hP5.oa.lt hb).2; omega) fun e => (hP5.far b hb).1 e
  refine D_app hoa6 (by simp) (by decide) ⟨rfl, rfl⟩ (by omega) (by omega) (fun e => by have := (hP5.oa.lt e).2; omega) fun q7 H7' va' H7 hH7' ho7 hb7 hl7 hk7 => ?_
  have hva7 : ∀ b, blkOf va = some b → b < H5.length := fun b e => (hP5.oa.lt e).2
  have hc7 : H7[H2.length]? = some (.rw 0 [vi d.start, va, vn]) := (hk7 _ (by omega) (by omega) fun e => by have := (hP5.oa.lt e).1; omega).trans hc6
  simp [k4]
  refine Dh_of (hstore_one (o := 2) hc7 ho6.one.1 ho6.one.2 (by simp)) ?_
  simp [k4]
  refine Dh_of (hstore_one (o := 1) (get_same (by omega)) ho7.one.1 ho7.one.2 (by simp)) ?_
  simp [dcheck, again, want, A_load, hcc6, hccd, hcc6', hP5.oa.arr.same]
  refine R_heap fun H8 hH8 => ?_
  have hl8 : H8.length = H7.length := by rw [hH8]; simp
  have hk8 : ∀ b : Nat, b ≠ H2.length → H8[b]? = H7[b]? := fun b hb => by rw [hH8, get_other hb]
  have hc8 : H8[H2.length]? = some (.rw 0 [vi d.start, va', vn']) := by rw [hH8, get_same (by omega)]
  have hcc8 : H8.cells H2.length = some [vi d.start, va', vn'] := by rw [cells_of hc8]; rfl
  have hk75 : ∀ b : Nat, b < H5.length → b ≠ H2.length → blkOf va ≠ some b → blkOf vn ≠ some b → H8[b]? = H5[b]? := fun b hb h1 h2 h3 => by
    rw [hk8 b h1, hk7 b (by omega) (by omega) h2, hk6 b (by omega) (by omega) h3, hdk b hb]
  have hlow : ∀ b : Nat, b < H3.length → b ≠ H2.length → H8[b]? = H3[b]? := fun b hb h1 => by
    rw [hk75 b (by omega) h1 (fun e => by have := (hP5.oa.lt e).1; omega) (fun e => by have := (hP5.on.lt e).1; omega), he5.get (by omega), he4.2 b hb h1]
  have hres8 : H8[H.length + 1]? = some (.rw 0 [vi 0, .slice none 0 0, .slice none 0 0]) := by rw [hlow _ (by omega) (by omega)]; exact hres3
  simp [F.compare_Other.r27, k4, k2, hcc8]
  refine Nh_of (hstore_all hres8 (by simp) (by simp [ho6.one.2, ho7.one.2]) (by simp)) ?_
  simp [k2, cells_same (show H.length + 1 < H8.length by omega)]
  have hfin : ∀ b : Nat, H3.length ≤ b → (List.set H8 (H.length + 1) (Blk.rw 0 [vi d.start, va', vn']))[b]? = H7[b]? := fun b hb => by rw [get_other (by omega), hk8 b (by omega)]
  refine ⟨⟨va', vn', rfl, ?_, us ++ [vo], ?_, by simp [Dfa.other, hul], fun i w r hw hr => ?_⟩, ?_⟩
  · have : Own H6.length H7 va' (d.other.acc.map vi) := by simpa [Dfa.other] using ho7
    exact (this.congr fun b hb hlt => hfin b (by have := (ho7.lt hb).1; omega)).rd
  · refine (ho6.congr fun b hb hlt => ?_).rd
    have h1 := (ho6.lt hb).1
    rw [hfin b (by omega)]
    rw [hk7 b hlt (by omega) fun e => by have := hva7 b e; omega]
  · have hrow : ∃ m : Nat, H3.length ≤ m ∧ Own m H5 w (r.map vi) ∧ ∀ b, blkOf w = some b → blkOf va ≠ some b ∧ blkOf vn ≠ some b := by
      by_cases hi : i < us.length
      · rw [List.getElem?_append_left hi] at hw
        have hr' : (d.next.map fun r => r.map fun x => if x < 0 then (d.next.length : Int) else x)[i]? = some r := by
          simp only [Dfa.other] at hr
          rwa [List.getElem?_append_left (by simp; omega)] at hr
        refine ⟨H3.length, Nat.le_refl _, hP5.rows i w r hw hr', fun b hb => ⟨fun e => (hP5.far b e).2 w (List.mem_of_getElem? hw) hb, fun e => hP5.farn b e w (List.mem_of_getElem? hw) hb⟩⟩
      · have hi : i = us.length := by
          have := (List.getElem?_eq_some_iff.1 hw).1
          simp at this; omega
        subst hi
        simp at hw; subst hw
        simp [Dfa.other, hul, h0, hr0] at hr; subst hr
        refine ⟨H4.length, by omega, by simpa using ho5, fun b hb => ?_⟩
        have h1 := (ho5.lt hb).1
        exact ⟨fun e => by have := (hP4.oa.lt e).2; omega, fun e => by have := (hP4.on.lt e).2; omega⟩
    obtain ⟨m, hm, ho, hf⟩ := hrow
    refine (ho.congr fun b hb hlt => ?_).rd
    have h1 := (ho.lt hb).1
    rw [get_other (by omega), hk75 b hlt (by omega) (hf b hb).1 (hf b hb).2]
  · refine ⟨by simp; omega, fun b hb => ?_⟩
    rw [get_other (by omega), hlow b (by omega) (by omega)]; exact hE3.get hb
end Go.Proofs.Ytbehlbabgomhfaa
