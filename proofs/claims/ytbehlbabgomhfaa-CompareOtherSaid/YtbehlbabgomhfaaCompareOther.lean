/- What CompareOther does. Own work. -/
import Derived.Test.YtbehlbabgomhfaaOther2
import Derived.Test.YtbehlbabgomhfaaRun
import Derived.Test.YtbehlbabgomhfaaMake4
import Derived.Test.YtbehlbabgomhfaaGparlkeep5
namespace Go.Proofs.Ytbehlbabgomhfaa
open Go Go.Ab

variable {T : FuncId → Option AFunc}

/-! ### The law -/
theorem other_sink {d : Dfa} {c : Nat} (hd : d.Ok) (hc : ∀ r ∈ d.next, r.length = c) : ∀ (w : List Int), (∀ x ∈ w, 0 ≤ x ∧ x < c) → d.other.run d.next.length w = 0 := by
  intro w
  have hacc := hd.acc.1
  have hn0 : 0 < d.next.length := by have := hd.start; omega
  have h0 : d.next[0]? = some d.next[0] := List.getElem?_eq_getElem hn0
  induction w with
  | nil =>
    intro _
    simp only [Dfa.run, Dfa.other]
    rw [List.getElem?_append_right (by simp; omega)]
    simp [hacc]
  | cons x w ih =>
    intro h
    have hx := h x (by simp)
    have hst : d.other.step d.next.length x = d.next.length := by
      simp only [Dfa.step, Dfa.other]
      rw [List.getElem?_append_right (by simp)]
      simp [h0, hc _ (List.getElem_mem hn0), show x.toNat < c by omega]
    simp only [Dfa.run, hst]
    rw [if_neg (by omega)]
    exact ih fun y hy => h y (by simp [hy])
theorem other_run {d : Dfa} {c : Nat} (hd : d.Ok) (hc : ∀ r ∈ d.next, r.length = c) : ∀ (w : List Int) (s : Nat), s < d.next.length → (∀ x ∈ w, 0 ≤ x ∧ x < c) → (0 ≤ d.other.run s w ↔ d.run s w < 0) := by
  intro w
  have hacc := hd.acc.1
  obtain ⟨c', -, -, hrows⟩ := hd.cols
  induction w with
  | nil =>
    intro s hs _
    have hsa : s < d.acc.length := by omega
    simp only [Dfa.run, Dfa.other]
    rw [List.getElem?_append_left (by simp; omega)]
    simp [hsa]
    split <;> omega
  | cons x w ih =>
    intro s hs h
    have hx := h x (by simp)
    have hrow := hrows _ (List.getElem_mem hs)
    have hxl : x.toNat < d.next[s].length := by rw [hc _ (List.getElem_mem hs)]; omega
    have hst : d.step s x = d.next[s][x.toNat] := by simp [Dfa.step, hs, hxl]
    have hrg := hrow.2 _ (List.getElem_mem hxl)
    have hso : d.other.step s x = if d.step s x < 0 then (d.next.length : Int) else d.step s x := by
      rw [hst]
      simp only [Dfa.step, Dfa.other]
      rw [List.getElem?_append_left (by simp; omega)]
      simp [hs, hxl]
    simp only [Dfa.run, hso]
    by_cases hneg : d.step s x < 0
    · simp only [if_pos hneg]
      rw [if_neg (by omega)]
      simp [other_sink hd hc w fun y hy => h y (by simp [hy])]
    · simp only [if_neg hneg]
      exact ih _ (by omega) fun y hy => h y (by simp [hy])

/-! ### The walk -/
theorem accepts_spec [Has T I.dfa_Check F.dfa_Check] [Has T I.dfa_Run F.dfa_Run] [Has T I.parlkeep5_accepts F.parlkeep5_accepts] {H : Hp} {v vw : Value} {d : Dfa} {c : Nat} {w : List Int} (hd : d.Ok) (hv : DfaV H v d) (hc : ∀ r ∈ d.next, r.length = c)
    (hw : Rd H vw (w.map vi)) (hr : ∀ x ∈ w, 0 ≤ x ∧ x < c) (hl : w.length ≤ 4000) :
    G T I.parlkeep5_accepts [v, vw] H (fun r H' => r = .bool (decide (0 ≤ d.run d.start.toNat w)) ∧ Ext H.length H H') := by
  obtain ⟨va, vn, rfl, hva, hvn⟩ := hv
  refine G.mk ?_
  simp [F.parlkeep5_accepts, F.parlkeep5_accepts.c, F.parlkeep5_accepts.r0]
  refine R_heap fun H1 hH1 => ?_
  have he : Ext H.length H H1 := by rw [hH1]; exact Ext.app _ _ (Nat.le_refl _)
  have hl1 : H1.length = H.length + 1 := by rw [hH1]; simp
  have hcell : H1.cells H.length = some [vi d.start, va, vn] := by rw [hH1]; simp
  simp [F.parlkeep5_accepts.r1, hcell]
  refine R_call (args := [.agg #[vi d.start, va, vn], vw]) (by simp) (run_spec hd ⟨va, vn, rfl, hva.ext he, hvn.ext he⟩ hc (hw.ext he) hr hl) ?_
  rintro _ H2 ⟨rfl, he2⟩
  simp [F.parlkeep5_accepts.r2, want]
  exact he.trans he2 (by omega)

def endsD : Dfa := ⟨0, [-1, 0], [[1, 0], [1, 0]]⟩
theorem endsD_ok : endsD.Ok := by
  refine ⟨by simp [endsD], by simp [endsD], by simp [endsD], 2, by decide, by decide, ?_⟩
  simp [endsD]
theorem rd_of {H : Hp} {b : Nat} {cs : List Value} (h : H[b]? = some (.rw 1 cs)) : Rd H (.slice (some ⟨b, 0, none⟩) cs.length cs.length) cs :=
  ⟨.inr ⟨b, 0, _, cs, rfl, by simp [Hp.cells, h], by simp [Hp.esz, h, Blk.esz], by simp, by simp, trivial⟩⟩
theorem ends_spec [Has T I.parlkeep5_ends F.parlkeep5_ends] {H : Hp} : G T I.parlkeep5_ends [] H (fun r H' => DfaV H' r endsD ∧ Ext H.length H H') := by
  refine G.mk ?_
  simp [F.parlkeep5_ends, F.parlkeep5_ends.c, F.parlkeep5_ends.r0, F.parlkeep5_ends.r1, hbs, bfill, splice, vbuild]
  refine Nh_of (hstore_all (s := 0) (vs := [vi 0, .slice none 0 0, .slice none 0 0]) (by simp) (by simp) (by simp) (by simp)) ?_
  simp [Hp.cells]
  refine ⟨⟨_, _, rfl, ?_, [.slice (some ⟨H.length + 2, 0, none⟩) 2 2, .slice (some ⟨H.length + 3, 0, none⟩) 2 2], ?_, rfl, ?_⟩, Ext.app _ _ (Nat.le_refl _)⟩
  · exact rd_of (cs := [vi (-1), vi 0]) (by simp)
  · exact rd_of (cs := [_, _]) (by simp)
  · intro i u r hu hr
    rcases i with _ | _ | i
    · simp [endsD] at hu hr; subst hu; subst hr
      exact rd_of (cs := [vi 1, vi 0]) (by simp)
    · simp [endsD] at hu hr; subst hu; subst hr
      exact rd_of (cs := [vi 1, vi 0]) (by simp)
    · simp at hu

set_option maxHeartbeats 4000000 in
theorem compareOther_law [Has T I.parlmake_Below F.parlmake_Below] [Has T I.parlmake_stream_next F.parlmake_stream_next] [Has T I.parlmake_Dfa F.parlmake_Dfa] [Has T I.parlmake_Word F.parlmake_Word] [Has T I.dfa_Check F.dfa_Check] [Has T I.dfa_Run F.dfa_Run]
    [Has T I.compare_Other F.compare_Other] [Has T I.parlkeep5_accepts F.parlkeep5_accepts] [Has T I.parlkeep5_ends F.parlkeep5_ends] [Has T I.parlkeep5_CompareOther F.parlkeep5_CompareOther] {H : Hp} {vm vw : Value} {m w : List Int}
    (hm : Rd H vm (m.map vi)) (_hml : m.length ≤ 17592186044416) (hw : Rd H vw (w.map vi)) (hl : w.length ≤ 17592186044416) :
    G T I.parlkeep5_CompareOther [vm, vw] H (fun r H' => r = .bool true) := by
  refine G.mk ?_
  simp [F.parlkeep5_CompareOther, F.parlkeep5_CompareOther.c, F.parlkeep5_CompareOther.r0, F.parlkeep5_CompareOther.r1]
  refine R_call (args := [vm]) (by simp) (dfa_spec hm) ?_
  rintro _ H1 ⟨d, hd, hd6, hv1, he1⟩
  obtain ⟨va, vn, rfl, hva, hvn⟩ := hv1
  obtain ⟨c, hc1, hc2, hrows⟩ := hd.cols
  have hn0 : 0 < d.next.length := by have := hd.start; omega
  have hle1 := he1.1
  simp
  refine Nh_of (hstore_all (get_at rfl) (by simp) (by simp [hva.one.2, hvn.choose_spec.1.one.2]) (by simp)) ?_
  refine R_heap fun H2 hH2 => ?_
  have hl2 : H2.length = H1.length + 1 := by rw [hH2]; simp
  have he2 : Ext H1.length H1 H2 := ⟨by omega, fun b hb => by rw [hH2, get_other (by omega), get_left hb]⟩
  have hc2' : H2.cells H1.length = some [vi d.start, va, vn] := by rw [hH2, cells_same (by simp)]; rfl
  have hva2 := hva.ext he2
  have hvn2 := hvn.ext he2
  simp [F.parlkeep5_CompareOther.r2]
  refine R_call (args := []) (by simp) ends_spec ?_
  rintro _ H3 ⟨hv3, he3⟩
  simp
  refine R_call (args := [_]) (by simp) (other_spec endsD_ok hv3) ?_
  rintro _ H4 ⟨hv4, he4⟩
  have he24 : Ext H2.length H2 H4 := he3.trans he4 he3.1
  have hle24 := he24.1
  obtain ⟨va4, vn4, rfl, hva4, hvn4⟩ := hv4
  simp
  refine Nh_of (hstore_all (get_at rfl) (by simp) (by simp [hva4.one.2, hvn4.choose_spec.1.one.2]) (by simp)) ?_
  refine R_heap fun H5 hH5 => ?_
  have hl5 : H5.length = H4.length + 1 := by rw [hH5]; simp
  have he5 : Ext H4.length H4 H5 := ⟨by omega, fun b hb => by rw [hH5, get_other (by omega), get_left hb]⟩
  have hc5 : H5.cells H4.length = some [vi endsD.other.start, va4, vn4] := by rw [hH5, cells_same (by simp)]; rfl
  have hvn5 := hvn4.ext he5
  have he25 : Ext H2.length H2 H5 := he24.trans he5 hle24
  have hcd5 : H5.cells H1.length = some [vi d.start, va, vn] := by rw [he25.cells (by omega)]; exact hc2'
  simp [F.parlkeep5_CompareOther.r3, hc5, hvn5.len, show endsD.other.next.length = 3 from rfl, F.parlkeep5_CompareOther.r5, hcd5]
  refine R_call (args := [.agg #[vi d.start, va, vn]]) (by simp) (other_spec hd ⟨va, vn, rfl, hva2.ext he25, hvn2.ext he25⟩) ?_
  rintro _ H6 ⟨hv6, he6⟩
  have hle6 := he6.1
  obtain ⟨vao, vno, rfl, hvao, hvno⟩ := hv6
  simp
  refine Nh_of (hstore_all (get_at rfl) (by simp) (by simp [hvao.one.2, hvno.choose_spec.1.one.2]) (by simp)) ?_
  refine R_heap fun H7 hH7 => ?_
  have hl7 : H7.length = H6.length + 1 := by rw [hH7]; simp
  have he7 : Ext H6.length H6 H7 := ⟨by omega, fun b hb => by rw [hH7, get_other (by omega), get_left hb]⟩
  have hc7 : H7.cells H6.length = some [vi d.other.start, vao, vno] := by rw [hH7, cells_same (by simp)]; rfl
  have he27 : Ext H2.length H2 H7 := (he25.trans he6 (by omega)).trans he7 (by omega)
  have hcd7 : H7.cells H1.length = some [vi d.start, va, vn] := by rw [he27.cells (by omega)]; exact hc2'
  have hvn7 := hvn2.ext he27
  obtain ⟨us, u, hus, hu, hur⟩ := hvn7.row (List.getElem?_eq_getElem hn0)
  have hr0 := (hrows _ (List.getElem_mem hn0)).1
  simp [F.parlkeep5_CompareOther.r6, hcd7]
  refine N_at hus rfl hu fun _ => ?_
  simp [hur.len, hr0]
  have heW : Ext H.length H H7 := ((he1.trans he2 hle1).trans he27 (by omega))
  refine R_call (args := [vi c, vi 40, vw]) (by simp) (word_spec (hw.ext heW) (by omega) (by omega) (by omega) (by omega) (by omega)) ?_
  rintro vo H8 ⟨ho8, he8⟩
  have hle8 := he8.1
  have hvo := ho8.rd
  have hwl : (wordOf c 40 w).length ≤ 4000 := by simp [wordOf]; omega
  have hwr : ∀ x ∈ wordOf c 40 w, 0 ≤ x ∧ x < c := by
    intro x hx
    simp only [wordOf] at hx
    obtain ⟨y, -, rfl⟩ := List.mem_map.1 hx
    exact ⟨Int.emod_nonneg _ (by omega), Int.emod_lt_of_pos _ (by omega)⟩
  have hrun := other_run hd (fun r hr => (hrows r hr).1) (wordOf c 40 w) d.start.toNat (by have := hd.start; omega) hwr
  have hko := Dfa.Ok.other hd (by omega)
  have hcols : ∀ r ∈ d.other.next, r.length = c := by
    intro r hr
    simp [Dfa.other, List.getElem?_eq_getElem hn0, hr0] at hr
    rcases hr with ⟨q, hq, rfl⟩ | rfl
    · simpa using (hrows q hq).1
    · simp
  simp only [put_some, R_nil, S_mv, ev_tmp, upd_app, if_true, R_seq, Nv_some]
  refine R_draw' fun Hd hdl hdk hdd => ?_
  have hEd : ∀ b : Nat, b < H7.length → Hd[b]? = H7[b]? := fun b hb => by rw [hdk b (by omega)]; exact he8.get hb
  have hed : Ext H7.length H7 Hd := ⟨by omega, hEd⟩
  have hed8 : Ext H8.length H8 Hd := ⟨by omega, hdk⟩
  have hcd : Hd.cells H1.length = some [vi d.start, va, vn] := by rw [hed.cells (by omega)]; exact hcd7
  have hco : Hd.cells H6.length = some [vi d.other.start, vao, vno] := by rw [hed.cells (by omega)]; exact hc7
  have heo : Ext H6.length H6 Hd := he7.trans hed (by omega)
  have hvod := (hvno.ext heo)
  have hvnd := hvn2.ext (he27.trans hed (by omega))
  have hvad := hva2.ext (he27.trans hed (by omega))
  have hnl : d.other.next.length = d.next.length + 1 := by simp [Dfa.other]
  have ho1 : H1.length < H8.length := by omega
  have ho6 : H6.length < H8.length := by omega
  simp [F.parlkeep5_CompareOther.r7, hcd, hco, rdOk, rblk, ho1, ho6, hvod.len, hvnd.len, hnl]
  rw [V_wrap (by omega) (by omega)]
  simp [hcd, hco, rdOk, rblk, ho1, ho6, want]
  refine R_dcall (args := [.agg #[vi d.start, va, vn], vo]) (by simp) (by simp [want]) (accepts_spec hd ⟨va, vn, rfl, hvad, hvnd⟩ (fun r hr => (hrows r hr).1) (hvo.ext hed8) hwr hwl) ?_
  rintro _ H9 ⟨rfl, he9⟩
  have hle9 := he9.1
  have hco9 : H9.cells H6.length = some [vi d.other.start, vao, vno] := by rw [he9.cells (by omega)]; exact hco
  simp [hco9, rdOk, rblk, ho6, want]
  refine R_dcall (args := [.agg #[vi d.other.start, vao, vno], vo]) (by simp) (by simp [want]) (accepts_spec hko ⟨vao, vno, rfl, (hvao.ext heo).ext he9, hvod.ext he9⟩ hcols ((hvo.ext hed8).ext he9) hwr hwl) ?_
  rintro _ H10 ⟨rfl, he10⟩
  have hst : d.other.start = d.start := rfl
  have hs1 := hvao.same1
  have hs2 := hvno.choose_spec.1.same1
  simp [want, hst, dcheck, again, A_load, hco, hco9, vsame, hs1, hs2]
  by_cases h : 0 ≤ d.run d.start.toNat (wordOf c 40 w)
  · have h2 : ¬ 0 ≤ d.other.run d.start.toNat (wordOf c 40 w) := fun e => by have := hrun.1 e; omega
    simp [h, h2]
  · have h2 : 0 ≤ d.other.run d.start.toNat (wordOf c 40 w) := hrun.2 (by omega)
    simp [h, h2]
end Go.Proofs.Ytbehlbabgomhfaa
