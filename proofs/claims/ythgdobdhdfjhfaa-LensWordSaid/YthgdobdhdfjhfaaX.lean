/- The abstract code comes to the plain functions: printed by wip/tools/lift.py. -/
import Derived.Test.YthgdobdhdfjhfaaX1
import Derived.Test.YthgdobdhdfjhfaaGcmp
import Derived.Test.YthgdobdhdfjhfaaGgram
import Derived.Test.YthgdobdhdfjhfaaGlens
import Derived.Test.YthgdobdhdfjhfaaGparlkeep5
import Derived.Test.YthgdobdhdfjhfaaGparlmake
import Derived.Test.YthgdobdhdfjhfaaGslices
import Derived.Test.YthgdobdhdfjhfaaGtree
namespace Go.Proofs.Ythgdobdhdfjhfaa
open Go Go.Ab
/-! slices_Index_bool_bool -/
structure Nd.slices_Index_bool_bool (T : FuncId → Option AFunc) : Prop where
  own : Has T I.slices_Index_bool_bool F.slices_Index_bool_bool
set_option maxHeartbeats 1000000 in
theorem X.slices_Index_bool_bool {T : FuncId → Option AFunc} (nd : Nd.slices_Index_bool_bool T) {Z V : PH} {H : Hp} {v1 : Value} {a0 : (List Bool)} {a1 : Bool} (hs : Sat Z V H []) (hp1 : RdS Sh.bool V v1 a0) {r : Int} (e : P.slices_Index_bool_bool a0 a1 = some r) :
    G T I.slices_Index_bool_bool [v1, (.bool a1)] H (fun rv H' => rv = (vi r) ∧ Sat Z V H' []) := by
  unfold P.slices_Index_bool_bool at e
  refine f_mk nd.own ?_
  refine c_sr ?_
  refine o_mv (v := (vi 0)) rfl ?_
  refine c_nil ?_
  refine c_sq ?_
  refine c_sr ?_
  refine o_mv (v := v1) rfl ?_
  refine o_len rfl (hp1).len ?_
  refine o_mv (v := (vi 0)) rfl ?_
  refine c_nil ?_
  obtain ⟨x2, q3, e⟩ := Pu.bind_some e
  obtain ⟨rfl, q5⟩ := ranO_some q3
  obtain ⟨y1, q6, e⟩ := Pu.bind_some e
  refine c_jn (I := fun tm H => ∃ (s3 : Unit), y1 = .out s3 ∧ (∃ (Z2 V2 : PH), Gw Z V Z2 V2 ∧ Sat Z2 V2 H [] ∧ tm 0 = v1 ∧ tm 1 = (.bool a1) ∧ tm 7 = (vi (a0.length : Int)))) (fun k4 => ?_) ?_
  · refine c_bk ?_
    refine l_forL (xs := (Pu.ran (a0.length : Int))) (fun (i1 : Nat) (s1 : Unit) tm H => tm 8 = vi i1 ∧ ∃ (Z1 V1 : PH), Gw Z V Z1 V1 ∧ Sat Z1 V1 H [] ∧ tm 0 = v1 ∧ tm 1 = (.bool a1) ∧ tm 7 = (vi (a0.length : Int))) (fun i1 x1 s1 y2 tm H2 q1 q2 j1 e1 k1 k2 k3 => ?_) (fun s1 tm H1 jf jd => ?_) q6 ⟨rfl, _, _, Gw.refl _ _, hs, rfl, rfl, rfl⟩
    · obtain ⟨hti0, Z1, V1, g1, s2, h1, h2, h3⟩ := j1
      unfold P.slices_Index_bool_bool.b0 at e1
      have hti0 := iv hti0 (ran_x q1).symm
      refine c_sr ?_
      refine o_lss hti0 h3 ?_
      refine c_nil ?_
      refine c_sq ?_
      refine c_ift rfl (ran_lt q1) ?_
      refine c_sk ?_
      refine c_sq ?_
      refine c_bk ?_
      refine c_sr ?_
      refine o_mv (v := (vi x1)) hti0 ?_
      refine o_mv (v := (vi x1)) rfl ?_
      refine c_nil ?_
      refine c_sr ?_
      refine o_mv (v := (.bool a1)) h2 ?_
      refine o_mv (v := v1) h1 ?_
      refine o_mv (v := (vi x1)) rfl ?_
      obtain ⟨x3, q7, e1⟩ := Pu.bind_some e1
      refine o_idx (v := v1) rfl rfl (hp1.mono g1.v) rfl q7 fun p1 q8 => ?_
      refine o_ldb rfl (hp1.mono g1.v) s2.v q8 q7 ?_
      refine o_eq (q_bool _ _) rfl rfl ?_
      refine c_nil ?_
      refine c_if rfl (fun q9 => ?_) (fun q9 => ?_)
      · replace e1 := if_t q9 e1
        refine c_sr ?_
        refine o_mv (v := (vi x1)) rfl ?_
        refine o_mv (v := (vi x1)) rfl ?_
        refine c_nil ?_
        refine c_gen (P := fun tm => tm 4 = (vi x1) ∧ True) ⟨rfl, trivial⟩ ?_
        intro _ i2
        obtain ⟨h7, -⟩ := i2
        refine c_rt ?_
        have e2 := fin_r (k3 _ (Option.some.inj e1).symm) e
        obtain rfl := Option.some.inj e2
        exact ⟨.inr rfl, _, (ar1 h7), rfl, (s2.weak g1 hs.zv)⟩
      replace e1 := ib_f q9 e1
      refine c_sk ?_
      refine c_end ?_
      refine c_r ?_
      refine o_add hti0 rfl ?_
      refine o_mv (v := (vi (Pu.W (x1 + 1)))) rfl ?_
      refine c_nil ?_
      exact k1 _ _ _ (Option.some.inj e1).symm ⟨(iv rfl (w_sucR q1 q5)), _, _, g1, s2, h1, h2, h3⟩
    · obtain ⟨hte0, Z3, V3, g3, s5, h8, h9, h10⟩ := jd
      refine c_sr ?_
      refine o_lss hte0 h10 ?_
      refine c_nil ?_
      refine c_sq ?_
      refine c_iff rfl (ran_done _) ?_
      refine c_ex ?_
      refine e_c ?_
      refine e_c ?_
      refine e_h ?_
      exact k4 _ _ ⟨_, jf, _, _, g3, s5, h8, h9, h10⟩
  intro _ H3 i3
  obtain ⟨s3, f1, Z2, V2, g2, s4, h4, h5, h6⟩ := i3
  replace e := fin_o f1 e
  refine c_sr ?_
  refine o_mv (v := (vi (-1))) rfl ?_
  refine c_nil ?_
  refine c_rt ?_
  obtain rfl := Option.some.inj e
  exact ⟨.inr rfl, _, (ar1 rfl), rfl, (s4.weak g2 hs.zv)⟩
/-! slices_Contains_bool_bool -/
structure Nd.slices_Contains_bool_bool (T : FuncId → Option AFunc) : Prop where
  own : Has T I.slices_Contains_bool_bool F.slices_Contains_bool_bool
  slices_Index_bool_bool : Nd.slices_Index_bool_bool T
set_option maxHeartbeats 1000000 in
theorem X.slices_Contains_bool_bool {T : FuncId → Option AFunc} (nd : Nd.slices_Contains_bool_bool T) {Z V : PH} {H : Hp} {v1 : Value} {a0 : (List Bool)} {a1 : Bool} (hs : Sat Z V H []) (hp1 : RdS Sh.bool V v1 a0) {r : Bool} (e : P.slices_Contains_bool_bool a0 a1 = some r) :
    G T I.slices_Contains_bool_bool [v1, (.bool a1)] H (fun rv H' => rv = (.bool r) ∧ Sat Z V H' []) := by
  unfold P.slices_Contains_bool_bool at e
  refine f_mk nd.own ?_
  refine c_sr ?_
  refine o_mv (v := (.bool false)) rfl ?_
  refine c_nil ?_
  refine c_sr ?_
  refine o_mv (v := v1) rfl ?_
  refine o_mv (v := (.bool a1)) rfl ?_
  obtain ⟨x1, q1, e⟩ := Pu.bind_some e
  obtain ⟨Z1, V1, W1, g1, u1, c1, c2, -, c4, c3⟩ := Sat.call (l1 := []) hs
  refine o_call (mc rfl (mc rfl m0)) (X.slices_Index_bool_bool nd.slices_Index_bool_bool c1 (hp1.mono (g1.v.trans u1)) q1) fun _ H1 i1 => ?_
  obtain ⟨rfl, s1⟩ := i1
  have s2 := c3 _ _ s1
  refine o_geq rfl rfl ?_
  refine o_mv (v := (.bool (decide (0 ≤ x1)))) rfl ?_
  refine c_nil ?_
  refine c_rt ?_
  obtain rfl := Option.some.inj e
  exact ⟨.inr rfl, _, (ar1 rfl), rfl, (s2.weak g1 hs.zv)⟩
/-! parlkeep5_LensWord -/
structure Nd.parlkeep5_LensWord (T : FuncId → Option AFunc) : Prop where
  own : Has T I.parlkeep5_LensWord F.parlkeep5_LensWord
  parlmake_Grammar : Nd.parlmake_Grammar T
  parlkeep5_plain : Nd.parlkeep5_plain T
  lens_Greatest : Nd.lens_Greatest T
  lens_Set : Nd.lens_Set T
  slices_Contains_bool_bool : Nd.slices_Contains_bool_bool T
  parlmake_Tree : Nd.parlmake_Tree T
  tree_Word : Nd.tree_Word T
set_option maxHeartbeats 1000000 in
theorem X.parlkeep5_LensWord {T : FuncId → Option AFunc} (nd : Nd.parlkeep5_LensWord T) {φ : Nat} {Z V : PH} {H : Hp} {v1 : Value} {v2 : Value} {a0 : (List Int)} {a1 : (List Int)} (hs : Sat Z V H []) (hp1 : RdS Sh.int Z v1 a0) (hp2 : RdS Sh.int Z v2 a1) {r : Bool} (e : P.parlkeep5_LensWord φ a0 a1 = some r) :
    G T I.parlkeep5_LensWord [v1, v2] H (fun rv H' => rv = (.bool r) ∧ Sat Z V H' []) := by
  unfold P.parlkeep5_LensWord at e
  refine f_mk nd.own ?_
  refine c_sr ?_
  refine o_mv (v := (.bool false)) rfl ?_
  refine c_nil ?_
  refine c_sr ?_
  refine o_mv (v := v1) rfl ?_
  obtain ⟨x1, q1, e⟩ := Pu.bind_some e
  obtain ⟨Z1, V1, W1, g1, u1, c1, c2, -, c4, c3⟩ := Sat.call (l1 := []) hs
  refine o_call (mc rfl m0) (X.parlmake_Grammar nd.parlmake_Grammar c1 (hp1.mono g1.z) q1) fun _ H1 i1 => ?_
  obtain ⟨w1, rfl, s1⟩ := i1
  have s2 := c3 _ _ s1
  refine o_new s2 fun b1 H2 s3 => ?_
  obtain ⟨d1, rfl⟩ := ((s3.curS (s := (Sh.ro Sh.api_Rule)) 1 rfl)).val
  refine o_stB (us' := [(vi x1.Terms), (vi x1.Nons), (vi x1.Start), (.slice d1 x1.Rules.length x1.Rules.length)]) 0 s3 rfl rfl rfl rfl rfl rfl rfl fun H3 s4 => ?_
  refine c_nil ?_
  refine c_sq ?_
  refine c_sr ?_
  obtain ⟨x2, q2, e⟩ := Pu.bind_some e
  obtain ⟨Z2, V2, W2, g2, u2, c5, c6, -, c8, c7⟩ := Sat.call (l1 := []) s4
  refine o_call m0 (X.parlkeep5_plain nd.parlkeep5_plain c5 q2) fun _ H4 i2 => ?_
  obtain ⟨w2, rfl, s5⟩ := i2
  have s6 := c7 _ _ s5
  obtain ⟨x3, q3, e⟩ := Pu.bind_some e
  obtain ⟨Z3, V3, W3, g3, u3, c9, c10, -, c12, c11⟩ := Sat.call (l1 := []) s6
  refine o_call (mc rfl m0) (X.lens_Greatest nd.lens_Greatest c9 (c10 0 _ (Sh.ro Sh.api_Rule) _ _ rfl) q3) fun _ H5 i3 => ?_
  obtain ⟨rfl, s7⟩ := i3
  have s8 := c11 _ _ s7
  refine o_mv (v := (.tuple #[(vi x3.1), (vi x3.2)])) rfl ?_
  refine o_ext rfl rfl ?_
  refine o_ext rfl rfl ?_
  refine o_mv (v := (vi x3.1)) rfl ?_
  refine o_mv (v := (vi x3.2)) rfl ?_
  refine c_nil ?_
  refine c_gen (P := fun tm => tm 1 = v2 ∧ tm 5 = (.pointer (some ⟨b1, 0, none⟩)) ∧ tm 6 = (vi x3.1) ∧ tm 7 = (vi x3.2) ∧ True) ⟨rfl, rfl, rfl, rfl, trivial⟩ ?_
  intro _ i4
  obtain ⟨h1, h2, h3, h4, -⟩ := i4
  refine c_sr ?_
  refine o_mv (v := (vi x3.2)) h4 ?_
  refine o_neq rfl rfl ?_
  refine o_mv (v := (.bool (decide (x3.2 ≠ 0)))) rfl ?_
  refine o_jn 3 (I := fun tm H => tm 27 = .bool ((decide (x3.2 ≠ 0)) || (decide (x3.1 ≠ (-2)))) ∧ (∃ (Z4 V4 : PH), Gw Z3 V3 Z4 V4 ∧ Sat Z4 V4 H [pts b1 (.rw 0 [(vi x1.Terms), (vi x1.Nons), (vi x1.Start), (.slice d1 x1.Rules.length x1.Rules.length)]), It.sl (Sh.ro Sh.api_Rule) (.slice d1 x1.Rules.length x1.Rules.length) x1.Rules] ∧ tm 1 = v2 ∧ tm 5 = (.pointer (some ⟨b1, 0, none⟩)))) (fun k1 => ?_) ?_
  · rcases Bool.eq_false_or_eq_true (decide (x3.2 ≠ 0)) with q4 | q4
    · refine o_gn rfl q4 ?_
      refine o_gn rfl q4 ?_
      refine o_pickt (a := (.bool true)) rfl q4 rfl ?_
      exact k1 _ _ ⟨gf rfl (by first | (rw [q4]; first | done | rfl) | simp [q4]), _, _, Gw.refl _ _, (s8.pick [1, 2] rfl), h1, h2⟩
    refine o_gy rfl q4 ?_
    refine o_mv (v := (vi x3.1)) h3 ?_
    refine o_gy rfl q4 ?_
    refine o_neq rfl rfl ?_
    refine o_pickf (b := (.bool (decide (x3.1 ≠ (-2))))) rfl q4 rfl ?_
    exact k1 _ _ ⟨gf rfl (by first | (rw [q4]; first | done | rfl) | simp [q4]), _, _, Gw.refl _ _, (s8.pick [1, 2] rfl), h1, h2⟩
  intro _ H6 i5
  obtain ⟨h7, Z4, V4, g4, s9, h5, h6⟩ := i5
  refine c_nil ?_
  refine c_if h7 (fun q5 => ?_) (fun q5 => ?_)
  · replace e := if_t q5 e
    refine c_sr ?_
    refine o_mv (v := (.bool false)) rfl ?_
    refine c_nil ?_
    refine c_rt ?_
    obtain rfl := Option.some.inj e
    exact ⟨.inr rfl, _, (ar1 rfl), rfl, ((s9.pick [] rfl).weak (g1.trans (g2.trans (g3.trans g4))) hs.zv)⟩
  replace e := ib_f q5 e
  refine c_sk ?_
  refine c_sr ?_
  refine o_ldB 0 s9 rfl h6 rfl rfl ?_
  obtain ⟨x4, q6, e⟩ := Pu.bind_some e
  obtain ⟨Z5, V5, W4, g5, u4, c13, c14, -, c16, c15⟩ := Sat.call (l1 := []) s9
  refine o_call (mc rfl m0) (X.lens_Greatest nd.lens_Greatest c13 (c14 1 _ (Sh.ro Sh.api_Rule) _ _ rfl) q6) fun _ H7 i6 => ?_
  obtain ⟨rfl, s10⟩ := i6
  have s11 := c15 _ _ s10
  refine o_mv (v := (.tuple #[(vi x4.1), (vi x4.2)])) rfl ?_
  refine o_ext rfl rfl ?_
  refine o_ext rfl rfl ?_
  refine o_mv (v := (vi x4.1)) rfl ?_
  refine o_mv (v := (vi x4.2)) rfl ?_
  refine c_nil ?_
  refine c_sr ?_
  refine o_ldB 0 s11 rfl h6 rfl rfl ?_
  obtain ⟨x5, q7, e⟩ := Pu.bind_some e
  obtain ⟨Z6, V6, W5, g6, u5, c17, c18, -, c20, c19⟩ := Sat.call (l1 := []) s11
  refine o_call (mc rfl (mc rfl m0)) (X.lens_Set nd.lens_Set c17 (c18 1 _ (Sh.ro Sh.api_Rule) _ _ rfl) q7) fun _ H8 i7 => ?_
  obtain ⟨w3, rfl, s12⟩ := i7
  have s13 := c19 _ _ s12
  obtain ⟨Z7, V7, g7, s14, h8⟩ := (s13).frzR
  refine o_mv (v := (.tuple #[w3, (vi x5.2)])) rfl ?_
  refine o_ext rfl rfl ?_
  refine o_ext rfl rfl ?_
  refine o_mv (v := w3) rfl ?_
  refine o_mv (v := (vi x5.2)) rfl ?_
  refine c_nil ?_
  refine c_gen (P := fun tm => tm 1 = v2 ∧ tm 5 = (.pointer (some ⟨b1, 0, none⟩)) ∧ tm 8 = (vi x4.1) ∧ tm 9 = (vi x4.2) ∧ tm 10 = w3 ∧ tm 11 = (vi x5.2) ∧ True) ⟨h5, h6, rfl, rfl, rfl, rfl, trivial⟩ ?_
  intro _ i8
  obtain ⟨h9, h10, h11, h12, h13, h14, -⟩ := i8
  refine c_sq ?_
  refine c_sr ?_
  refine o_mv (v := (vi x4.2)) h12 ?_
  refine o_neq rfl rfl ?_
  refine o_mv (v := (.bool (decide (x4.2 ≠ 0)))) rfl ?_
  refine o_jn 3 (I := fun tm H => tm 43 = .bool ((decide (x4.2 ≠ 0)) || (decide (x5.2 ≠ 0))) ∧ (∃ (Z8 V8 : PH), Gw Z7 V7 Z8 V8 ∧ Sat Z8 V8 H [pts b1 (.rw 0 [(vi x1.Terms), (vi x1.Nons), (vi x1.Start), (.slice d1 x1.Rules.length x1.Rules.length)]), It.sl (Sh.ro Sh.api_Rule) (.slice d1 x1.Rules.length x1.Rules.length) x1.Rules] ∧ tm 1 = v2 ∧ tm 5 = (.pointer (some ⟨b1, 0, none⟩)) ∧ tm 8 = (vi x4.1) ∧ tm 10 = w3)) (fun k2 => ?_) ?_
  · rcases Bool.eq_false_or_eq_true (decide (x4.2 ≠ 0)) with q8 | q8
    · refine o_gn rfl q8 ?_
      refine o_gn rfl q8 ?_
      refine o_pickt (a := (.bool true)) rfl q8 rfl ?_
      exact k2 _ _ ⟨gf rfl (by first | (rw [q8]; first | done | rfl) | simp [q8]), _, _, Gw.refl _ _, s14, h9, h10, h11, h13⟩
    refine o_gy rfl q8 ?_
    refine o_mv (v := (vi x5.2)) h14 ?_
    refine o_gy rfl q8 ?_
    refine o_neq rfl rfl ?_
    refine o_pickf (b := (.bool (decide (x5.2 ≠ 0)))) rfl q8 rfl ?_
    exact k2 _ _ ⟨gf rfl (by first | (rw [q8]; first | done | rfl) | simp [q8]), _, _, Gw.refl _ _, s14, h9, h10, h11, h13⟩
  intro _ H9 i9
  obtain ⟨h19, Z8, V8, g8, s15, h15, h16, h17, h18⟩ := i9
  refine o_mv (v := (.bool ((decide (x4.2 ≠ 0)) || (decide (x5.2 ≠ 0))))) h19 ?_
  refine o_jn 4 (I := fun tm H => tm 48 = .bool (((decide (x4.2 ≠ 0)) || (decide (x5.2 ≠ 0))) || (decide ((x5.1.length : Int) ≠ 201))) ∧ (∃ (Z9 V9 : PH), Gw Z8 V8 Z9 V9 ∧ Sat Z9 V9 H [pts b1 (.rw 0 [(vi x1.Terms), (vi x1.Nons), (vi x1.Start), (.slice d1 x1.Rules.length x1.Rules.length)]), It.sl (Sh.ro Sh.api_Rule) (.slice d1 x1.Rules.length x1.Rules.length) x1.Rules] ∧ tm 1 = v2 ∧ tm 5 = (.pointer (some ⟨b1, 0, none⟩)) ∧ tm 8 = (vi x4.1) ∧ tm 10 = w3)) (fun k3 => ?_) ?_
  · rcases Bool.eq_false_or_eq_true ((decide (x4.2 ≠ 0)) || (decide (x5.2 ≠ 0))) with q9 | q9
    · refine o_gn rfl q9 ?_
      refine o_gn rfl q9 ?_
      refine o_gn rfl q9 ?_
      refine o_pickt (a := (.bool true)) rfl q9 rfl ?_
      exact k3 _ _ ⟨gf rfl (by first | (rw [q9]; first | done | rfl) | simp [q9]), _, _, Gw.refl _ _, s15, h15, h16, h17, h18⟩
    refine o_gy rfl q9 ?_
    refine o_mv (v := w3) h18 ?_
    refine o_gy rfl q9 ?_
    refine o_len rfl ((h8.mono g8.z)).len ?_
    refine o_gy rfl q9 ?_
    refine o_neq rfl rfl ?_
    refine o_pickf (b := (.bool (decide ((x5.1.length : Int) ≠ 201)))) rfl q9 rfl ?_
    exact k3 _ _ ⟨gf rfl (by first | (rw [q9]; first | done | rfl) | simp [q9]), _, _, Gw.refl _ _, s15, h15, h16, h17, h18⟩
  intro _ H10 i10
  obtain ⟨h24, Z9, V9, g9, s16, h20, h21, h22, h23⟩ := i10
  refine c_nil ?_
  refine c_if h24 (fun q10 => ?_) (fun q10 => ?_)
  · replace e := if_t q10 e
    refine c_sr ?_
    refine o_mv (v := (.bool false)) rfl ?_
    refine c_nil ?_
    refine c_rt ?_
    obtain rfl := Option.some.inj e
    exact ⟨.inr rfl, _, (ar1 rfl), rfl, ((s16.pick [] rfl).weak (g1.trans (g2.trans (g3.trans (g4.trans (g5.trans (g6.trans (g7.trans (g8.trans g9)))))))) hs.zv)⟩
  replace e := ib_f q10 e
  refine c_sk ?_
  refine c_sq ?_
  refine c_sr ?_
  refine o_mv (v := (vi x4.1)) h22 ?_
  refine o_geq rfl rfl ?_
  refine o_mv (v := (.bool (decide (0 ≤ x4.1)))) rfl ?_
  refine o_jn 3 (I := fun tm H => tm 54 = .bool ((decide (0 ≤ x4.1)) && (decide (x4.1 ≤ 200))) ∧ (∃ (Z10 V10 : PH), Gw Z9 V9 Z10 V10 ∧ Sat Z10 V10 H [pts b1 (.rw 0 [(vi x1.Terms), (vi x1.Nons), (vi x1.Start), (.slice d1 x1.Rules.length x1.Rules.length)]), It.sl (Sh.ro Sh.api_Rule) (.slice d1 x1.Rules.length x1.Rules.length) x1.Rules] ∧ tm 1 = v2 ∧ tm 5 = (.pointer (some ⟨b1, 0, none⟩)) ∧ tm 8 = (vi x4.1) ∧ tm 10 = w3)) (fun k4 => ?_) ?_
  · rcases Bool.eq_false_or_eq_true (decide (0 ≤ x4.1)) with q11 | q11
    · refine o_gy rfl q11 ?_
      refine o_mv (v := (vi x4.1)) h22 ?_
      refine o_gy rfl q11 ?_
      refine o_leq rfl rfl ?_
      refine o_pickt (a := (.bool (decide (x4.1 ≤ 200)))) rfl q11 rfl ?_
      exact k4 _ _ ⟨gf rfl (by first | (rw [q11]; first | done | rfl) | simp [q11]), _, _, Gw.refl _ _, s16, h20, h21, h22, h23⟩
    refine o_gn rfl q11 ?_
    refine o_gn rfl q11 ?_
    refine o_pickf (b := (.bool false)) rfl q11 rfl ?_
    exact k4 _ _ ⟨gf rfl (by first | (rw [q11]; first | done | rfl) | simp [q11]), _, _, Gw.refl _ _, s16, h20, h21, h22, h23⟩
  intro _ H11 i11
  obtain ⟨h29, Z10, V10, g10, s17, h25, h26, h27, h28⟩ := i11
  refine o_mv (v := (.bool ((decide (0 ≤ x4.1)) && (decide (x4.1 ≤ 200))))) h29 ?_
  obtain ⟨y1, e1, e⟩ := Pu.bind_some e
  refine o_jn 13 (I := fun tm H => ∃ (Z11 V11 : PH), Gw Z10 V10 Z11 V11 ∧ Sat Z11 V11 H [pts b1 (.rw 0 [(vi x1.Terms), (vi x1.Nons), (vi x1.Start), (.slice d1 x1.Rules.length x1.Rules.length)]), It.sl (Sh.ro Sh.api_Rule) (.slice d1 x1.Rules.length x1.Rules.length) x1.Rules] ∧ tm 1 = v2 ∧ tm 5 = (.pointer (some ⟨b1, 0, none⟩)) ∧ tm 8 = (vi x4.1) ∧ tm 10 = w3 ∧ tm 68 = (.bool y1)) (fun k5 => ?_) ?_
  · rcases Bool.eq_false_or_eq_true ((decide (0 ≤ x4.1)) && (decide (x4.1 ≤ 200))) with q12 | q12
    · replace e1 := if_t q12 e1
      refine o_gy rfl q12 ?_
      refine o_mv (v := w3) h28 ?_
      refine o_gy rfl q12 ?_
      refine o_mv (v := (vi x4.1)) h27 ?_
      refine o_gy rfl q12 ?_
      obtain ⟨x6, q13, e1⟩ := Pu.bind_some e1
      refine o_idx (v := w3) rfl rfl (h8.mono (g8.trans (g9.trans g10)).z) rfl q13 fun p1 q14 => ?_
      refine o_gy rfl q12 ?_
      refine o_ldb rfl (h8.mono (g8.trans (g9.trans g10)).z) s17.z q14 q13 ?_
      refine o_gy rfl q12 ?_
      refine o_not rfl ?_
      refine o_gy rfl q12 ?_
      refine o_mv (v := (.bool (!x6))) rfl ?_
      obtain ⟨y2, e2, e1⟩ := Pu.bind_some e1
      refine o_jn 6 (I := fun tm H => ∃ (Z12 V12 : PH), Gw Z10 V10 Z12 V12 ∧ Sat Z12 V12 H [pts b1 (.rw 0 [(vi x1.Terms), (vi x1.Nons), (vi x1.Start), (.slice d1 x1.Rules.length x1.Rules.length)]), It.sl (Sh.ro Sh.api_Rule) (.slice d1 x1.Rules.length x1.Rules.length) x1.Rules] ∧ tm 1 = v2 ∧ tm 5 = (.pointer (some ⟨b1, 0, none⟩)) ∧ tm 8 = (vi x4.1) ∧ tm 10 = w3 ∧ tm 55 = (.bool ((decide (0 ≤ x4.1)) && (decide (x4.1 ≤ 200)))) ∧ tm 67 = (.bool y2)) (fun k6 => ?_) ?_
      · rcases Bool.eq_false_or_eq_true (!x6) with q15 | q15
        · replace e2 := if_t q15 e2
          refine o_gn rfl q15 ?_
          refine o_gn rfl q15 ?_
          refine o_gn rfl q15 ?_
          refine o_gn rfl q15 ?_
          refine o_gn rfl q15 ?_
          refine o_gy rfl q12 ?_
          refine o_pickt (a := (.bool true)) rfl q15 rfl ?_
          obtain rfl := Option.some.inj e2
          exact k6 _ _ ⟨_, _, Gw.refl _ _, s17, h25, h26, h27, h28, rfl, rfl⟩
        replace e2 := ib_f q15 e2
        refine o_gy rfl q15 ?_
        refine o_mv (v := w3) h28 ?_
        refine o_gy rfl q15 ?_
        refine o_mv (v := (vi x4.1)) h27 ?_
        refine o_gy rfl q15 ?_
        refine o_add rfl rfl ?_
        refine o_gy rfl q15 ?_
        obtain ⟨x7, q16, e2⟩ := Pu.bind_some e2
        refine o_slcl rfl rfl (h8.mono (g8.trans (g9.trans g10)).z) s17.z rfl q16 fun w4 h41 => ?_
        refine o_gy rfl q15 ?_
        obtain ⟨x8, q17, e2⟩ := Pu.bind_some e2
        obtain ⟨Z13, V13, W6, g13, u6, c21, c22, -, c24, c23⟩ := Sat.call (l1 := []) s17
        refine o_call (mc rfl (mc rfl m0)) (X.slices_Contains_bool_bool nd.slices_Contains_bool_bool c21 (h41.mono (g13.z.trans c21.zv)) q17) fun _ H14 i12 => ?_
        obtain ⟨rfl, s20⟩ := i12
        have s21 := c23 _ _ s20
        refine o_gy rfl q12 ?_
        refine o_pickf (b := (.bool x8)) rfl q15 rfl ?_
        obtain rfl := Option.some.inj e2
        exact k6 _ _ ⟨_, _, g13, s21, h25, h26, h27, h28, rfl, rfl⟩
      intro _ H13 i13
      obtain ⟨Z12, V12, g12, s19, h35, h36, h37, h38, h39, h40⟩ := i13
      refine o_pickt (a := (.bool y2)) h39 q12 h40 ?_
      obtain rfl := Option.some.inj e1
      exact k5 _ _ ⟨_, _, g12, s19, h35, h36, h37, h38, rfl⟩
    replace e1 := ib_f q12 e1
    refine o_gn rfl q12 ?_
    refine o_gn rfl q12 ?_
    refine o_gn rfl q12 ?_
    refine o_gn rfl q12 ?_
    refine o_gn rfl q12 ?_
    refine o_gn rfl q12 ?_
    refine o_gu rfl ?_
    refine o_gu rfl ?_
    refine o_gu rfl ?_
    refine o_gu rfl ?_
    refine o_gu rfl ?_
    refine o_gn rfl q12 ?_
    refine o_pickf (b := (.bool false)) rfl q12 rfl ?_
    obtain rfl := Option.some.inj e1
    exact k5 _ _ ⟨_, _, Gw.refl _ _, s17, h25, h26, h27, h28, rfl⟩
  intro _ H12 i14
  obtain ⟨Z11, V11, g11, s18, h30, h31, h32, h33, h34⟩ := i14
  refine o_mv (v := (.bool y1)) h34 ?_
  obtain ⟨y3, e3, e⟩ := Pu.bind_some e
  refine o_jn 7 (I := fun tm H => ∃ (Z14 V14 : PH), Gw Z11 V11 Z14 V14 ∧ Sat Z14 V14 H [pts b1 (.rw 0 [(vi x1.Terms), (vi x1.Nons), (vi x1.Start), (.slice d1 x1.Rules.length x1.Rules.length)]), It.sl (Sh.ro Sh.api_Rule) (.slice d1 x1.Rules.length x1.Rules.length) x1.Rules] ∧ tm 1 = v2 ∧ tm 5 = (.pointer (some ⟨b1, 0, none⟩)) ∧ tm 8 = (vi x4.1) ∧ tm 10 = w3 ∧ tm 76 = (.bool y3)) (fun k7 => ?_) ?_
  · rcases Bool.eq_false_or_eq_true y1 with q18 | q18
    · replace e3 := if_t q18 e3
      refine o_gn rfl q18 ?_
      refine o_gn rfl q18 ?_
      refine o_gn rfl q18 ?_
      refine o_gu rfl ?_
      refine o_gu rfl ?_
      refine o_gn rfl q18 ?_
      refine o_pickt (a := (.bool true)) rfl q18 rfl ?_
      obtain rfl := Option.some.inj e3
      exact k7 _ _ ⟨_, _, Gw.refl _ _, s18, h30, h31, h32, h33, rfl⟩
    replace e3 := ib_f q18 e3
    refine o_gy rfl q18 ?_
    refine o_mv (v := (vi x4.1)) h32 ?_
    refine o_gy rfl q18 ?_
    refine o_eql rfl rfl ?_
    refine o_gy rfl q18 ?_
    refine o_mv (v := (.bool (decide (x4.1 = (-1))))) rfl ?_
    obtain ⟨y4, e4, e3⟩ := Pu.bind_some e3
    refine o_jn 3 (I := fun tm H => ∃ (Z15 V15 : PH), Gw Z11 V11 Z15 V15 ∧ Sat Z15 V15 H [pts b1 (.rw 0 [(vi x1.Terms), (vi x1.Nons), (vi x1.Start), (.slice d1 x1.Rules.length x1.Rules.length)]), It.sl (Sh.ro Sh.api_Rule) (.slice d1 x1.Rules.length x1.Rules.length) x1.Rules] ∧ tm 1 = v2 ∧ tm 5 = (.pointer (some ⟨b1, 0, none⟩)) ∧ tm 8 = (vi x4.1) ∧ tm 10 = w3 ∧ tm 69 = (.bool y1) ∧ tm 75 = (.bool y4)) (fun k8 => ?_) ?_
    · rcases Bool.eq_false_or_eq_true (decide (x4.1 = (-1))) with q19 | q19
      · replace e4 := if_t q19 e4
        refine o_gy rfl q19 ?_
        refine o_mv (v := w3) h33 ?_
        refine o_gy rfl q19 ?_
        obtain ⟨x9, q20, e4⟩ := Pu.bind_some e4
        obtain ⟨Z16, V16, W7, g16, u7, c25, c26, -, c28, c27⟩ := Sat.call (l1 := []) s18
        refine o_call (mc rfl (mc rfl m0)) (X.slices_Contains_bool_bool nd.slices_Contains_bool_bool c25 (h8.mono (((g8.trans (g9.trans (g10.trans g11))).trans g16).z.trans c25.zv)) q20) fun _ H17 i15 => ?_
        obtain ⟨rfl, s24⟩ := i15
        have s25 := c27 _ _ s24
        refine o_gy rfl q18 ?_
        refine o_pickt (a := (.bool x9)) rfl q19 rfl ?_
        obtain rfl := Option.some.inj e4
        exact k8 _ _ ⟨_, _, g16, s25, h30, h31, h32, h33, rfl, rfl⟩
      replace e4 := ib_f q19 e4
      refine o_gn rfl q19 ?_
      refine o_gn rfl q19 ?_
      refine o_gy rfl q18 ?_
      refine o_pickf (b := (.bool false)) rfl q19 rfl ?_
      obtain rfl := Option.some.inj e4
      exact k8 _ _ ⟨_, _, Gw.refl _ _, s18, h30, h31, h32, h33, rfl, rfl⟩
    intro _ H16 i16
    obtain ⟨Z15, V15, g15, s23, h47, h48, h49, h50, h51, h52⟩ := i16
    refine o_pickf (b := (.bool y4)) h51 q18 h52 ?_
    obtain rfl := Option.some.inj e3
    exact k7 _ _ ⟨_, _, g15, s23, h47, h48, h49, h50, rfl⟩
  intro _ H15 i17
  obtain ⟨Z14, V14, g14, s22, h42, h43, h44, h45, h46⟩ := i17
  refine c_nil ?_
  refine c_if h46 (fun q21 => ?_) (fun q21 => ?_)
  · replace e := if_t q21 e
    refine c_sr ?_
    refine o_mv (v := (.bool false)) rfl ?_
    refine c_nil ?_
    refine c_rt ?_
    obtain rfl := Option.some.inj e
    exact ⟨.inr rfl, _, (ar1 rfl), rfl, ((s22.pick [] rfl).weak (g1.trans (g2.trans (g3.trans (g4.trans (g5.trans (g6.trans (g7.trans (g8.trans (g9.trans (g10.trans (g11.trans g14))))))))))) hs.zv)⟩
  replace e := ib_f q21 e
  refine c_sk ?_
  refine c_sr ?_
  refine o_ldB 0 s22 rfl h43 rfl rfl ?_
  refine o_mv (v := v2) h42 ?_
  obtain ⟨Z17, V17, g17, s26, h53⟩ := s22.frzS 1 rfl
  replace h53 := h53.of_ro
  obtain ⟨x10, q22, e⟩ := Pu.bind_some e
  obtain ⟨Z18, V18, W8, g18, u8, c29, c30, -, c32, c31⟩ := Sat.call (l1 := []) s26
  refine o_call (mc rfl (mc rfl m0)) (X.parlmake_Tree nd.parlmake_Tree c29 (h53.mono g18.z) (hp2.mono ((g1.trans (g2.trans (g3.trans (g4.trans (g5.trans (g6.trans (g7.trans (g8.trans (g9.trans (g10.trans (g11.trans (g14.trans g17)))))))))))).trans g18).z) q22) fun _ H18 i18 => ?_
  obtain ⟨w5, rfl, s27⟩ := i18
  have s28 := c31 _ _ s27
  refine o_mv (v := (.tuple #[(.agg #[(vi x10.1.Rule), (vi x10.1.Term), w5]), (.bool x10.2)])) rfl ?_
  refine o_ext rfl rfl ?_
  refine o_ext rfl rfl ?_
  refine o_new s28 fun b2 H19 s29 => ?_
  obtain ⟨d2, rfl⟩ := ((s29.curS (s := (Sh.ro Sh.api_Tree)) 1 rfl)).val
  refine o_stB (us' := [(vi x10.1.Rule), (vi x10.1.Term), (.slice d2 x10.1.Kids.length x10.1.Kids.length)]) 0 s29 rfl rfl rfl rfl rfl rfl rfl fun H20 s30 => ?_
  refine o_mv (v := (.bool x10.2)) rfl ?_
  refine c_nil ?_
  refine c_sq ?_
  refine c_sr ?_
  refine o_mv (v := (.bool x10.2)) rfl ?_
  refine o_not rfl ?_
  refine c_nil ?_
  refine c_gen (P := fun tm => tm 8 = (vi x4.1) ∧ tm 10 = w3 ∧ tm 12 = (.pointer (some ⟨b2, 0, none⟩)) ∧ tm 84 = (.bool (!x10.2)) ∧ True) ⟨h44, h45, rfl, rfl, trivial⟩ ?_
  intro _ i19
  obtain ⟨h54, h55, h56, h57, -⟩ := i19
  refine c_if h57 (fun q23 => ?_) (fun q23 => ?_)
  · replace e := if_t q23 e
    refine c_sr ?_
    refine o_mv (v := (.bool true)) rfl ?_
    refine c_nil ?_
    refine c_rt ?_
    obtain rfl := Option.some.inj e
    exact ⟨.inr rfl, _, (ar1 rfl), rfl, ((s30.pick [] rfl).weak (g1.trans (g2.trans (g3.trans (g4.trans (g5.trans (g6.trans (g7.trans (g8.trans (g9.trans (g10.trans (g11.trans (g14.trans (g17.trans g18))))))))))))) hs.zv)⟩
  replace e := ib_f q23 e
  refine c_sk ?_
  refine c_sr ?_
  refine o_ldB 0 s30 rfl h56 rfl rfl ?_
  obtain ⟨x11, q24, e⟩ := Pu.bind_some e
  obtain ⟨Z19, V19, W9, g19, u9, c33, c34, -, c36, c35⟩ := Sat.call (l1 := []) s30
  refine o_call (mc rfl m0) (X.tree_Word nd.tree_Word c33 (c34 1 _ (Sh.ro Sh.api_Tree) _ _ rfl) q24) fun w6 H21 i20 => ?_
  obtain ⟨_, rfl, s31⟩ := i20
  have s32 := c35 _ _ s31
  refine o_len rfl ((s32.curS (s := Sh.int) 0 rfl)).len ?_
  refine o_mv (v := (vi (x11.length : Int))) rfl ?_
  refine c_nil ?_
  refine c_sr ?_
  refine o_mv (v := (vi x4.1)) h54 ?_
  refine o_eql rfl rfl ?_
  refine o_mv (v := (.bool (decide (x4.1 = (-2))))) rfl ?_
  refine o_jn 4 (I := fun tm H => tm 94 = .bool ((decide (x4.1 = (-2))) || (decide ((x11.length : Int) ≤ x4.1))) ∧ (∃ (Z20 V20 : PH), Gw Z19 V19 Z20 V20 ∧ Sat Z20 V20 H [] ∧ tm 10 = w3 ∧ tm 14 = (vi (x11.length : Int)))) (fun k9 => ?_) ?_
  · rcases Bool.eq_false_or_eq_true (decide (x4.1 = (-2))) with q25 | q25
    · refine o_gn rfl q25 ?_
      refine o_gn rfl q25 ?_
      refine o_gn rfl q25 ?_
      refine o_pickt (a := (.bool true)) rfl q25 rfl ?_
      exact k9 _ _ ⟨gf rfl (by first | (rw [q25]; first | done | rfl) | simp [q25]), _, _, Gw.refl _ _, (s32.pick [] rfl), h55, rfl⟩
    refine o_gy rfl q25 ?_
    refine o_mv (v := (vi (x11.length : Int))) rfl ?_
    refine o_gy rfl q25 ?_
    refine o_mv (v := (vi x4.1)) h54 ?_
    refine o_gy rfl q25 ?_
    refine o_leq rfl rfl ?_
    refine o_pickf (b := (.bool (decide ((x11.length : Int) ≤ x4.1)))) rfl q25 rfl ?_
    exact k9 _ _ ⟨gf rfl (by first | (rw [q25]; first | done | rfl) | simp [q25]), _, _, Gw.refl _ _, (s32.pick [] rfl), h55, rfl⟩
  intro _ H22 i21
  obtain ⟨h60, Z20, V20, g20, s33, h58, h59⟩ := i21
  refine o_mv (v := (.bool ((decide (x4.1 = (-2))) || (decide ((x11.length : Int) ≤ x4.1))))) h60 ?_
  obtain ⟨y5, e5, e⟩ := Pu.bind_some e
  refine o_jn 9 (I := fun tm H => ∃ (Z21 V21 : PH), Gw Z20 V20 Z21 V21 ∧ Sat Z21 V21 H [] ∧ tm 104 = (.bool y5)) (fun k10 => ?_) ?_
  · rcases Bool.eq_false_or_eq_true ((decide (x4.1 = (-2))) || (decide ((x11.length : Int) ≤ x4.1))) with q26 | q26
    · replace e5 := if_t q26 e5
      refine o_gy rfl q26 ?_
      refine o_mv (v := (vi (x11.length : Int))) h59 ?_
      refine o_gy rfl q26 ?_
      refine o_gtr rfl rfl ?_
      refine o_gy rfl q26 ?_
      refine o_mv (v := (.bool (decide (200 < (x11.length : Int))))) rfl ?_
      obtain ⟨y6, e6, e5⟩ := Pu.bind_some e5
      refine o_jn 5 (I := fun tm H => ∃ (Z22 V22 : PH), Gw Z20 V20 Z22 V22 ∧ Sat Z22 V22 H [] ∧ tm 95 = (.bool ((decide (x4.1 = (-2))) || (decide ((x11.length : Int) ≤ x4.1)))) ∧ tm 103 = (.bool y6)) (fun k11 => ?_) ?_
      · rcases Bool.eq_false_or_eq_true (decide (200 < (x11.length : Int))) with q27 | q27
        · replace e6 := if_t q27 e6
          refine o_gn rfl q27 ?_
          refine o_gn rfl q27 ?_
          refine o_gn rfl q27 ?_
          refine o_gn rfl q27 ?_
          refine o_gy rfl q26 ?_
          refine o_pickt (a := (.bool true)) rfl q27 rfl ?_
          obtain rfl := Option.some.inj e6
          exact k11 _ _ ⟨_, _, Gw.refl _ _, s33, rfl, rfl⟩
        replace e6 := ib_f q27 e6
        refine o_gy rfl q27 ?_
        refine o_mv (v := w3) h58 ?_
        refine o_gy rfl q27 ?_
        refine o_mv (v := (vi (x11.length : Int))) h59 ?_
        refine o_gy rfl q27 ?_
        obtain ⟨x12, q28, e6⟩ := Pu.bind_some e6
        refine o_idx (v := w3) rfl rfl (h8.mono (g8.trans (g9.trans (g10.trans (g11.trans (g14.trans (g17.trans (g18.trans (g19.trans g20)))))))).z) rfl q28 fun p2 q29 => ?_
        refine o_gy rfl q27 ?_
        refine o_ldb rfl (h8.mono (g8.trans (g9.trans (g10.trans (g11.trans (g14.trans (g17.trans (g18.trans (g19.trans g20)))))))).z) s33.z q29 q28 ?_
        refine o_gy rfl q26 ?_
        refine o_pickf (b := (.bool x12)) rfl q27 rfl ?_
        obtain rfl := Option.some.inj e6
        exact k11 _ _ ⟨_, _, Gw.refl _ _, s33, rfl, rfl⟩
      intro _ H24 i22
      obtain ⟨Z22, V22, g22, s35, h62, h63⟩ := i22
      refine o_pickt (a := (.bool y6)) h62 q26 h63 ?_
      obtain rfl := Option.some.inj e5
      exact k10 _ _ ⟨_, _, g22, s35, rfl⟩
    replace e5 := ib_f q26 e5
    refine o_gn rfl q26 ?_
    refine o_gn rfl q26 ?_
    refine o_gn rfl q26 ?_
    refine o_gu rfl ?_
    refine o_gu rfl ?_
    refine o_gu rfl ?_
    refine o_gu rfl ?_
    refine o_gn rfl q26 ?_
    refine o_pickf (b := (.bool false)) rfl q26 rfl ?_
    obtain rfl := Option.some.inj e5
    exact k10 _ _ ⟨_, _, Gw.refl _ _, s33, rfl⟩
  intro _ H23 i23
  obtain ⟨Z21, V21, g21, s34, h61⟩ := i23
  refine o_mv (v := (.bool y5)) h61 ?_
  refine c_nil ?_
  refine c_rt ?_
  obtain rfl := Option.some.inj e
  exact ⟨.inr rfl, _, (ar1 rfl), rfl, (s34.weak (g1.trans (g2.trans (g3.trans (g4.trans (g5.trans (g6.trans (g7.trans (g8.trans (g9.trans (g10.trans (g11.trans (g14.trans (g17.trans (g18.trans (g19.trans (g20.trans g21)))))))))))))))) hs.zv)⟩
end Go.Proofs.Ythgdobdhdfjhfaa
