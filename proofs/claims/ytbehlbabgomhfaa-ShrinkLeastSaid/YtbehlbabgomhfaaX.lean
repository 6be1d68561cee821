/- The abstract code comes to the plain functions: printed by wip/tools/lift.py. -/
import Derived.Test.YtbehlbabgomhfaaP
import Derived.Test.YtbehlbabgomhfaaGparlkeep5
import Derived.Test.YtbehlbabgomhfaaGparlmake
import Derived.Test.YtbehlbabgomhfaaGshrink
import Derived.Test.YtbehlbabgomhfaaGslices
namespace Go.Proofs.Ytbehlbabgomhfaa
open Go Go.Ab
/-! parlmake_Below -/
structure Nd.parlmake_Below (T : FuncId → Option AFunc) : Prop where
  own : Has T I.parlmake_Below F.parlmake_Below
set_option maxHeartbeats 1000000 in
theorem X.parlmake_Below {T : FuncId → Option AFunc} (nd : Nd.parlmake_Below T) {Z V : PH} {H : Hp} {a0 : Int} {a1 : Int} (hs : Sat Z V H []) {r : Int} (e : P.parlmake_Below a0 a1 = some r) :
    G T I.parlmake_Below [(vi a0), (vi a1)] H (fun rv H' => rv = (vi r) ∧ Sat Z V H' []) := by
  unfold P.parlmake_Below at e
  refine f_mk nd.own ?_
  refine c_sr ?_
  refine o_mv (v := (vi 0)) rfl ?_
  refine c_nil ?_
  refine c_sr ?_
  refine o_mv (v := (vi a0)) rfl ?_
  refine o_mv (v := (vi a1)) rfl ?_
  obtain ⟨x1, q1, e⟩ := Pu.bind_some e
  refine o_rem rfl rfl q1 ?_
  refine o_mv (v := (vi x1)) rfl ?_
  refine c_nil ?_
  refine c_sq ?_
  refine c_sr ?_
  refine o_mv (v := (vi x1)) rfl ?_
  refine o_lss rfl rfl ?_
  refine c_nil ?_
  obtain ⟨y1, e1, e⟩ := Pu.bind_some e
  refine c_jn (I := fun tm H => ∃ (Z1 V1 : PH), Gw Z V Z1 V1 ∧ Sat Z1 V1 H [] ∧ tm 0 = (vi y1)) (fun k1 => ?_) ?_
  · refine c_ifd rfl (fun q2 => ?_) (fun q2 => ?_)
    · replace e1 := if_t q2 e1
      refine c_r ?_
      refine o_mv (v := (vi x1)) rfl ?_
      refine o_mv (v := (vi a1)) rfl ?_
      refine o_add rfl rfl ?_
      refine o_mv (v := (vi (Pu.W (x1 + a1)))) rfl ?_
      refine c_nil ?_
      obtain rfl := Option.some.inj e1
      exact k1 _ _ ⟨_, _, Gw.refl _ _, hs, rfl⟩
    replace e1 := if_f q2 e1
    refine c_sk ?_
    obtain rfl := Option.some.inj e1
    exact k1 _ _ ⟨_, _, Gw.refl _ _, hs, rfl⟩
  intro _ H1 i1
  obtain ⟨Z1, V1, g1, s1, h1⟩ := i1
  refine c_sr ?_
  refine o_mv (v := (vi y1)) h1 ?_
  refine o_mv (v := (vi y1)) rfl ?_
  refine c_nil ?_
  refine c_rt ?_
  obtain rfl := Option.some.inj e
  exact ⟨.inr rfl, _, (ar1 rfl), rfl, (s1.weak g1 hs.zv)⟩
/-! parlmake_Word -/
structure Nd.parlmake_Word (T : FuncId → Option AFunc) : Prop where
  own : Has T I.parlmake_Word F.parlmake_Word
  parlmake_Below : Nd.parlmake_Below T
set_option maxHeartbeats 1000000 in
theorem X.parlmake_Word {T : FuncId → Option AFunc} (nd : Nd.parlmake_Word T) {Z V : PH} {H : Hp} {v1 : Value} {a0 : Int} {a1 : Int} {a2 : (List Int)} (hs : Sat Z V H []) (hp1 : RdS Sh.int V v1 a2) {r : (List Int)} (e : P.parlmake_Word a0 a1 a2 = some r) :
    G T I.parlmake_Word [(vi a0), (vi a1), v1] H (fun rv H' => ∃ (u1 : Value), rv = u1 ∧ Sat Z V H' [It.sl Sh.int u1 r]) := by
  unfold P.parlmake_Word at e
  refine f_mk nd.own ?_
  refine c_sr ?_
  refine o_mv (v := (.slice none 0 0)) rfl ?_
  refine c_nil ?_
  refine c_sr ?_
  refine o_mv (v := (.slice none 0 0)) rfl ?_
  refine c_nil ?_
  refine c_sq ?_
  refine c_sr ?_
  refine o_mv (v := v1) rfl ?_
  refine o_len rfl (hp1).len ?_
  refine o_mv (v := (vi 0)) rfl ?_
  refine c_nil ?_
  obtain ⟨y1, q3, e⟩ := Pu.bind_some e
  refine c_jn (I := fun tm H => ∃ (s3 : (List Int)), y1 = .out s3 ∧ (∃ (Z2 V2 : PH) (w2 : Value), Gw Z V Z2 V2 ∧ Sat Z2 V2 H [It.sl Sh.int w2 s3] ∧ tm 0 = (vi a0) ∧ tm 1 = (vi a1) ∧ tm 7 = w2 ∧ tm 10 = v1 ∧ tm 11 = (vi (a2.length : Int)))) (fun k4 => ?_) ?_
  · refine c_bk ?_
    refine l_forL (xs := a2) (fun (i1 : Nat) (s1 : (List Int)) tm H => tm 12 = vi i1 ∧ ∃ (Z1 V1 : PH) (w1 : Value), Gw Z V Z1 V1 ∧ Sat Z1 V1 H [It.sl Sh.int w1 s1] ∧ tm 0 = (vi a0) ∧ tm 1 = (vi a1) ∧ tm 7 = w1 ∧ tm 10 = v1 ∧ tm 11 = (vi (a2.length : Int))) (fun i1 x1 s1 y2 tm H2 q1 q2 j1 e1 k1 k2 k3 => ?_) (fun s1 tm H1 jf jd => ?_) q3 ⟨rfl, _, _, _, Gw.refl _ _, (hs.push (sl_nil (s := Sh.int))), rfl, rfl, rfl, rfl, rfl⟩
    · obtain ⟨hti0, Z1, V1, w1, g1, s2, h1, h2, h3, h4, h5⟩ := j1
      unfold P.parlmake_Word.b0 at e1
      refine c_sr ?_
      refine o_lss hti0 h5 ?_
      refine c_nil ?_
      refine c_sq ?_
      refine c_ift rfl (Int.ofNat_lt.2 q2) ?_
      refine c_sk ?_
      refine c_sq ?_
      refine c_bk ?_
      refine c_sr ?_
      refine o_idx (v := v1) h4 hti0 (hp1.mono g1.v) rfl (Pu.ix_nat.trans q1) fun p1 q4 => ?_
      refine o_ldi rfl (hp1.mono g1.v) s2.v q4 (Pu.ix_nat.trans q1) ?_
      refine o_mv (v := (vi x1)) rfl ?_
      refine c_nil ?_
      refine c_sq ?_
      refine c_sr ?_
      refine o_mv (v := w1) h3 ?_
      refine o_len rfl ((s2.curS (s := Sh.int) 0 rfl)).len ?_
      refine o_mv (v := (vi a1)) h2 ?_
      refine o_eql rfl rfl ?_
      refine c_nil ?_
      refine c_ifd rfl (fun q5 => ?_) (fun q5 => ?_)
      · replace e1 := if_t q5 e1
        refine c_ex ?_
        refine e_c ?_
        refine e_f rfl ?_
        refine e_c ?_
        refine e_c ?_
        refine e_h ?_
        exact k4 _ _ ⟨_, k2 _ (Option.some.inj e1).symm, _, _, _, g1, s2, h1, h2, h3, h4, h5⟩
      replace e1 := if_f q5 e1
      refine c_sk ?_
      refine c_r ?_
      refine o_mv (v := w1) h3 ?_
      refine o_mv (v := (vi x1)) rfl ?_
      refine o_mv (v := (vi a0)) h1 ?_
      obtain ⟨x2, q6, e1⟩ := Pu.bind_some e1
      obtain ⟨Z3, V3, W1, g3, u1, c1, c2, -, c4, c3⟩ := Sat.call (l1 := []) s2
      refine o_call (mc rfl (mc rfl m0)) (X.parlmake_Below nd.parlmake_Below c1 q6) fun _ H4 i2 => ?_
      obtain ⟨rfl, s5⟩ := i2
      have s6 := c3 _ _ s5
      refine o_bsl (s := Sh.int) (us := [(vi x2)]) (qs := [(0, 1, (vi x2))]) (xs := [x2]) s6 Sh.flat_lt rfl rfl rfl (Els.cons (c := [(vi x2)]) rfl Els.nil) rfl rfl fun w3 H5 s7 => ?_
      obtain ⟨x3, q7, e1⟩ := Pu.bind_some e1
      refine o_app 1 s7 rfl Sh.flat_lt rfl rfl rfl rfl (s7.curS (s := Sh.int) 0 rfl) (PH.le.refl _) (fun h => h) (by decide) q7 fun w4 H6 s8 => ?_
      refine o_mv (v := w4) rfl ?_
      refine c_nil ?_
      refine c_end ?_
      refine c_r ?_
      refine o_add hti0 rfl ?_
      refine o_mv (v := (vi (Pu.W ((i1 : Int) + 1)))) rfl ?_
      refine c_nil ?_
      exact k1 _ _ _ (Option.some.inj e1).symm ⟨(iv rfl (w_suc q2 (hp1).bd)), _, _, _, (g1.trans g3), (s8.pick [1] rfl), h1, h2, rfl, h4, h5⟩
    · obtain ⟨hte0, Z4, V4, w5, g4, s9, h11, h12, h13, h14, h15⟩ := jd
      refine c_sr ?_
      refine o_lss hte0 h15 ?_
      refine c_nil ?_
      refine c_sq ?_
      refine c_iff rfl (Int.lt_irrefl _) ?_
      refine c_ex ?_
      refine e_c ?_
      refine e_c ?_
      refine e_h ?_
      exact k4 _ _ ⟨_, jf, _, _, _, g4, s9, h11, h12, h13, h14, h15⟩
  intro _ H3 i3
  obtain ⟨s3, f1, Z2, V2, w2, g2, s4, h6, h7, h8, h9, h10⟩ := i3
  replace e := fin_o f1 e
  refine c_sr ?_
  refine o_mv (v := w2) h8 ?_
  refine o_mv (v := w2) rfl ?_
  refine c_nil ?_
  refine c_rt ?_
  obtain rfl := Option.some.inj e
  exact ⟨.inr rfl, _, (ar1 rfl), _, rfl, (s4.weak g2 hs.zv)⟩
/-! shrink_without -/
structure Nd.shrink_without (T : FuncId → Option AFunc) : Prop where
  own : Has T I.shrink_without F.shrink_without
set_option maxHeartbeats 1000000 in
theorem X.shrink_without {T : FuncId → Option AFunc} (nd : Nd.shrink_without T) {Z V : PH} {H : Hp} {v1 : Value} {a0 : (List Int)} {a1 : Int} (hs : Sat Z V H []) (hp1 : RdS Sh.int V v1 a0) {r : (List Int)} (e : P.shrink_without a0 a1 = some r) :
    G T I.shrink_without [v1, (vi a1)] H (fun rv H' => ∃ (u1 : Value), rv = u1 ∧ Sat Z V H' [It.sl Sh.int u1 r]) := by
  unfold P.shrink_without at e
  refine f_mk nd.own ?_
  refine c_sr ?_
  refine o_mv (v := (.slice none 0 0)) rfl ?_
  refine c_nil ?_
  refine c_sr ?_
  refine o_mv (v := v1) rfl ?_
  refine o_len rfl (hp1).len ?_
  obtain ⟨x1, q1, e⟩ := Pu.bind_some e
  refine o_mks (s := Sh.int) hs Sh.flat_lt rfl rfl rfl rfl q1 fun w1 H1 s1 => ?_
  refine o_mv (v := w1) rfl ?_
  refine c_nil ?_
  refine c_sq ?_
  refine c_sr ?_
  refine o_mv (v := v1) rfl ?_
  refine o_len rfl (hp1).len ?_
  refine o_mv (v := (vi 0)) rfl ?_
  refine c_nil ?_
  obtain ⟨y1, q4, e⟩ := Pu.bind_some e
  refine c_bk ?_
  refine l_forP (xs := a0) (fun (i1 : Nat) (s2 : (List Int)) tm H => tm 13 = vi i1 ∧ ∃ (Z1 V1 : PH) (w2 : Value), Gw Z V Z1 V1 ∧ Sat Z1 V1 H [It.sl Sh.int w2 s2] ∧ tm 1 = (vi a1) ∧ tm 5 = w2 ∧ tm 11 = v1 ∧ tm 12 = (vi (a0.length : Int))) (fun i1 x2 s2 s4 tm H3 q2 q3 j1 e1 k1 => ?_) (fun tm H2 jd => ?_) q4 ⟨rfl, _, _, _, Gw.refl _ _, s1, rfl, rfl, rfl, rfl⟩
  · obtain ⟨hti0, Z1, V1, w2, g1, s3, h1, h2, h3, h4⟩ := j1
    unfold P.shrink_without.b0 at e1
    refine c_sr ?_
    refine o_lss hti0 h4 ?_
    refine c_nil ?_
    refine c_sq ?_
    refine c_ift rfl (Int.ofNat_lt.2 q3) ?_
    refine c_sk ?_
    refine c_sq ?_
    refine c_bk ?_
    refine c_sr ?_
    refine o_mv (v := (vi (i1 : Int))) hti0 ?_
    refine o_idx (v := v1) h3 hti0 (hp1.mono g1.v) rfl (Pu.ix_nat.trans q2) fun p1 q5 => ?_
    refine o_ldi rfl (hp1.mono g1.v) s3.v q5 (Pu.ix_nat.trans q2) ?_
    refine o_mv (v := (vi (i1 : Int))) rfl ?_
    refine o_mv (v := (vi x2)) rfl ?_
    refine c_nil ?_
    refine c_sr ?_
    refine o_mv (v := (vi (i1 : Int))) rfl ?_
    refine o_mv (v := (vi a1)) h1 ?_
    refine o_neq rfl rfl ?_
    refine c_nil ?_
    obtain ⟨y2, e2, e1⟩ := Pu.bind_some e1
    refine c_jn (I := fun tm H => ∃ (Z2 V2 : PH) (w3 : Value), Gw Z1 V1 Z2 V2 ∧ Sat Z2 V2 H [It.sl Sh.int w3 y2] ∧ tm 1 = (vi a1) ∧ tm 5 = w3 ∧ tm 11 = v1 ∧ tm 12 = (vi (a0.length : Int)) ∧ tm 13 = (vi (i1 : Int))) (fun k2 => ?_) ?_
    · refine c_ifd rfl (fun q6 => ?_) (fun q6 => ?_)
      · replace e2 := if_t q6 e2
        refine c_r ?_
        refine o_mv (v := w2) h2 ?_
        refine o_mv (v := (vi x2)) rfl ?_
        refine o_bsl (s := Sh.int) (us := [(vi x2)]) (qs := [(0, 1, (vi x2))]) (xs := [x2]) s3 Sh.flat_lt rfl rfl rfl (Els.cons (c := [(vi x2)]) rfl Els.nil) rfl rfl fun w4 H5 s6 => ?_
        obtain ⟨x3, q7, e2⟩ := Pu.bind_some e2
        refine o_app 1 s6 rfl Sh.flat_lt rfl rfl rfl rfl (s6.curS (s := Sh.int) 0 rfl) (PH.le.refl _) (fun h => h) (by decide) q7 fun w5 H6 s7 => ?_
        refine o_mv (v := w5) rfl ?_
        refine c_nil ?_
        obtain rfl := Option.some.inj e2
        exact k2 _ _ ⟨_, _, _, Gw.refl _ _, (s7.pick [1] rfl), h1, rfl, h3, h4, hti0⟩
      replace e2 := if_f q6 e2
      refine c_sk ?_
      obtain rfl := Option.some.inj e2
      exact k2 _ _ ⟨_, _, _, Gw.refl _ _, s3, h1, h2, h3, h4, hti0⟩
    intro _ H4 i2
    obtain ⟨Z2, V2, w3, g2, s5, h5, h6, h7, h8, h9⟩ := i2
    refine c_end ?_
    refine c_r ?_
    refine o_add h9 rfl ?_
    refine o_mv (v := (vi (Pu.W ((i1 : Int) + 1)))) rfl ?_
    refine c_nil ?_
    obtain rfl := Option.some.inj e1
    exact k1 _ _ ⟨(iv rfl (w_suc q3 (hp1).bd)), _, _, _, (g1.trans g2), s5, h5, h6, h7, h8⟩
  obtain ⟨hte0, Z3, V3, w6, g3, s8, h10, h11, h12, h13⟩ := jd
  refine c_sr ?_
  refine o_lss hte0 h13 ?_
  refine c_nil ?_
  refine c_sq ?_
  refine c_iff rfl (Int.lt_irrefl _) ?_
  refine c_ex ?_
  refine e_c ?_
  refine e_c ?_
  refine e_h ?_
  refine c_sr ?_
  refine o_mv (v := w6) h11 ?_
  refine o_mv (v := w6) rfl ?_
  refine c_nil ?_
  refine c_rt ?_
  obtain rfl := Option.some.inj e
  exact ⟨.inr rfl, _, (ar1 rfl), _, rfl, (s8.weak g3 hs.zv)⟩
/-! slices_Index_int_int -/
structure Nd.slices_Index_int_int (T : FuncId → Option AFunc) : Prop where
  own : Has T I.slices_Index_int_int F.slices_Index_int_int
set_option maxHeartbeats 1000000 in
theorem X.slices_Index_int_int {T : FuncId → Option AFunc} (nd : Nd.slices_Index_int_int T) {Z V : PH} {H : Hp} {v1 : Value} {a0 : (List Int)} {a1 : Int} (hs : Sat Z V H []) (hp1 : RdS Sh.int V v1 a0) {r : Int} (e : P.slices_Index_int_int a0 a1 = some r) :
    G T I.slices_Index_int_int [v1, (vi a1)] H (fun rv H' => rv = (vi r) ∧ Sat Z V H' []) := by
  unfold P.slices_Index_int_int at e
  refine f_mk nd.own ?_
  refine c_sr ?_
  refine o_mv (v := (vi 0)) rfl ?_
  refine c_nil ?_
  refine c_sq ?_
  refine c_sr ?_
  refine o_mv (v := v1) rfl ?_
  refine o_len rfl (hp1).len ?_
  refine o_mv (v := (vi 0)) rfl ?_
  refine c_nil ?_
  obtain ⟨x2, q3, e⟩ := Pu.bind_some e
  obtain ⟨rfl, q5⟩ := ranO_some q3
  obtain ⟨y1, q6, e⟩ := Pu.bind_some e
  refine c_jn (I := fun tm H => ∃ (s3 : Unit), y1 = .out s3 ∧ (∃ (Z2 V2 : PH), Gw Z V Z2 V2 ∧ Sat Z2 V2 H [] ∧ tm 0 = v1 ∧ tm 1 = (vi a1) ∧ tm 7 = (vi (a0.length : Int)))) (fun k4 => ?_) ?_
  · refine c_bk ?_
    refine l_forL (xs := (Pu.ran (a0.length : Int))) (fun (i1 : Nat) (s1 : Unit) tm H => tm 8 = vi i1 ∧ ∃ (Z1 V1 : PH), Gw Z V Z1 V1 ∧ Sat Z1 V1 H [] ∧ tm 0 = v1 ∧ tm 1 = (vi a1) ∧ tm 7 = (vi (a0.length : Int))) (fun i1 x1 s1 y2 tm H2 q1 q2 j1 e1 k1 k2 k3 => ?_) (fun s1 tm H1 jf jd => ?_) q6 ⟨rfl, _, _, Gw.refl _ _, hs, rfl, rfl, rfl⟩
    · obtain ⟨hti0, Z1, V1, g1, s2, h1, h2, h3⟩ := j1
      unfold P.slices_Index_int_int.b0 at e1
      have hti0 := iv hti0 (ran_x q1).symm
      refine c_sr ?_
      refine o_lss hti0 h3 ?_
      refine c_nil ?_
      refine c_sq ?_
      refine c_ift rfl (ran_lt q1) ?_
      refine c_sk ?_
      refine c_sq ?_
      refine c_bk ?_
      refine c_sr ?_
      refine o_mv (v := (vi x1)) hti0 ?_
      refine o_mv (v := (vi x1)) rfl ?_
      refine c_nil ?_
      refine c_sr ?_
      refine o_mv (v := (vi a1)) h2 ?_
      refine o_mv (v := v1) h1 ?_
      refine o_mv (v := (vi x1)) rfl ?_
      obtain ⟨x3, q7, e1⟩ := Pu.bind_some e1
      refine o_idx (v := v1) rfl rfl (hp1.mono g1.v) rfl q7 fun p1 q8 => ?_
      refine o_ldi rfl (hp1.mono g1.v) s2.v q8 q7 ?_
      refine o_eql rfl rfl ?_
      refine c_nil ?_
      refine c_ifd rfl (fun q9 => ?_) (fun q9 => ?_)
      · replace e1 := if_t q9 e1
        refine c_sr ?_
        refine o_mv (v := (vi x1)) rfl ?_
        refine o_mv (v := (vi x1)) rfl ?_
        refine c_nil ?_
        refine c_gen (P := fun tm => tm 4 = (vi x1) ∧ True) ⟨rfl, trivial⟩ ?_
        intro _ i2
        obtain ⟨h7, -⟩ := i2
        refine c_rt ?_
        have e2 := fin_r (k3 _ (Option.some.inj e1).symm) e
        obtain rfl := Option.some.inj e2
        exact ⟨.inr rfl, _, (ar1 h7), rfl, (s2.weak g1 hs.zv)⟩
      replace e1 := if_f q9 e1
      refine c_sk ?_
      refine c_end ?_
      refine c_r ?_
      refine o_add hti0 rfl ?_
      refine o_mv (v := (vi (Pu.W (x1 + 1)))) rfl ?_
      refine c_nil ?_
      exact k1 _ _ _ (Option.some.inj e1).symm ⟨(iv rfl (w_sucR q1 q5)), _, _, g1, s2, h1, h2, h3⟩
    · obtain ⟨hte0, Z3, V3, g3, s5, h8, h9, h10⟩ := jd
      refine c_sr ?_
      refine o_lss hte0 h10 ?_
      refine c_nil ?_
      refine c_sq ?_
      refine c_iff rfl (ran_done _) ?_
      refine c_ex ?_
      refine e_c ?_
      refine e_c ?_
      refine e_h ?_
      exact k4 _ _ ⟨_, jf, _, _, g3, s5, h8, h9, h10⟩
  intro _ H3 i3
  obtain ⟨s3, f1, Z2, V2, g2, s4, h4, h5, h6⟩ := i3
  replace e := fin_o f1 e
  refine c_sr ?_
  refine o_mv (v := (vi (-1))) rfl ?_
  refine c_nil ?_
  refine c_rt ?_
  obtain rfl := Option.some.inj e
  exact ⟨.inr rfl, _, (ar1 rfl), rfl, (s4.weak g2 hs.zv)⟩
/-! slices_Contains_int_int -/
structure Nd.slices_Contains_int_int (T : FuncId → Option AFunc) : Prop where
  own : Has T I.slices_Contains_int_int F.slices_Contains_int_int
  slices_Index_int_int : Nd.slices_Index_int_int T
set_option maxHeartbeats 1000000 in
theorem X.slices_Contains_int_int {T : FuncId → Option AFunc} (nd : Nd.slices_Contains_int_int T) {Z V : PH} {H : Hp} {v1 : Value} {a0 : (List Int)} {a1 : Int} (hs : Sat Z V H []) (hp1 : RdS Sh.int V v1 a0) {r : Bool} (e : P.slices_Contains_int_int a0 a1 = some r) :
    G T I.slices_Contains_int_int [v1, (vi a1)] H (fun rv H' => rv = (.bool r) ∧ Sat Z V H' []) := by
  unfold P.slices_Contains_int_int at e
  refine f_mk nd.own ?_
  refine c_sr ?_
  refine o_mv (v := (.bool false)) rfl ?_
  refine c_nil ?_
  refine c_sr ?_
  refine o_mv (v := v1) rfl ?_
  refine o_mv (v := (vi a1)) rfl ?_
  obtain ⟨x1, q1, e⟩ := Pu.bind_some e
  obtain ⟨Z1, V1, W1, g1, u1, c1, c2, -, c4, c3⟩ := Sat.call (l1 := []) hs
  refine o_call (mc rfl (mc rfl m0)) (X.slices_Index_int_int nd.slices_Index_int_int c1 (hp1.mono (g1.v.trans u1)) q1) fun _ H1 i1 => ?_
  obtain ⟨rfl, s1⟩ := i1
  have s2 := c3 _ _ s1
  refine o_geq rfl rfl ?_
  refine o_mv (v := (.bool (decide (0 ≤ x1)))) rfl ?_
  refine c_nil ?_
  refine c_rt ?_
  obtain rfl := Option.some.inj e
  exact ⟨.inr rfl, _, (ar1 rfl), rfl, (s2.weak g1 hs.zv)⟩
/-! parlkeep5_ShrinkLeast_1 -/
structure Nd.parlkeep5_ShrinkLeast_1 (T : FuncId → Option AFunc) : Prop where
  own : Has T I.parlkeep5_ShrinkLeast_1 F.parlkeep5_ShrinkLeast_1
  slices_Contains_int_int : Nd.slices_Contains_int_int T
set_option maxHeartbeats 1000000 in
theorem X.parlkeep5_ShrinkLeast_1 {T : FuncId → Option AFunc} (nd : Nd.parlkeep5_ShrinkLeast_1 T) {Z V : PH} {H : Hp} {v1 : Value} {a0 : (List Int)} (hs : Sat Z V H []) (hp1 : RdS Sh.int V v1 a0) {r : Bool} (e : P.parlkeep5_ShrinkLeast_1 a0 = some r) :
    G T I.parlkeep5_ShrinkLeast_1 [v1] H (fun rv H' => rv = (.bool r) ∧ Sat Z V H' []) := by
  unfold P.parlkeep5_ShrinkLeast_1 at e
  refine f_mk nd.own ?_
  refine c_sr ?_
  refine o_mv (v := (.bool false)) rfl ?_
  refine c_nil ?_
  refine c_sr ?_
  refine o_mv (v := v1) rfl ?_
  obtain ⟨x1, q1, e⟩ := Pu.bind_some e
  obtain ⟨Z1, V1, W1, g1, u1, c1, c2, -, c4, c3⟩ := Sat.call (l1 := []) hs
  refine o_call (mc rfl (mc rfl m0)) (X.slices_Contains_int_int nd.slices_Contains_int_int c1 (hp1.mono (g1.v.trans u1)) q1) fun _ H1 i1 => ?_
  obtain ⟨rfl, s1⟩ := i1
  have s2 := c3 _ _ s1
  refine o_mv (v := (.bool x1)) rfl ?_
  refine c_nil ?_
  refine c_rt ?_
  obtain rfl := Option.some.inj e
  exact ⟨.inr rfl, _, (ar1 rfl), rfl, (s2.weak g1 hs.zv)⟩
/-! slices_Equal_int_int -/
structure Nd.slices_Equal_int_int (T : FuncId → Option AFunc) : Prop where
  own : Has T I.slices_Equal_int_int F.slices_Equal_int_int
set_option maxHeartbeats 1000000 in
theorem X.slices_Equal_int_int {T : FuncId → Option AFunc} (nd : Nd.slices_Equal_int_int T) {Z V : PH} {H : Hp} {v1 : Value} {v2 : Value} {a0 : (List Int)} {a1 : (List Int)} (hs : Sat Z V H []) (hp1 : RdS Sh.int V v1 a0) (hp2 : RdS Sh.int V v2 a1) {r : Bool} (e : P.slices_Equal_int_int a0 a1 = some r) :
    G T I.slices_Equal_int_int [v1, v2] H (fun rv H' => rv = (.bool r) ∧ Sat Z V H' []) := by
  unfold P.slices_Equal_int_int at e
  refine f_mk nd.own ?_
  refine c_sr ?_
  refine o_mv (v := (.bool false)) rfl ?_
  refine c_nil ?_
  refine c_sq ?_
  refine c_sr ?_
  refine o_mv (v := v1) rfl ?_
  refine o_len rfl (hp1).len ?_
  refine o_mv (v := v2) rfl ?_
  refine o_len rfl (hp2).len ?_
  refine o_neq rfl rfl ?_
  refine c_nil ?_
  refine c_ifd rfl (fun q1 => ?_) (fun q1 => ?_)
  · replace e := if_t q1 e
    refine c_sr ?_
    refine o_mv (v := (.bool false)) rfl ?_
    refine c_nil ?_
    refine c_rt ?_
    obtain rfl := Option.some.inj e
    exact ⟨.inr rfl, _, (ar1 rfl), rfl, hs⟩
  replace e := if_f q1 e
  refine c_sk ?_
  refine c_sq ?_
  refine c_sr ?_
  refine o_mv (v := v1) rfl ?_
  refine o_len rfl (hp1).len ?_
  refine o_mv (v := (vi 0)) rfl ?_
  refine c_nil ?_
  obtain ⟨x2, q4, e⟩ := Pu.bind_some e
  obtain ⟨rfl, q6⟩ := ranO_some q4
  obtain ⟨y1, q7, e⟩ := Pu.bind_some e
  refine c_jn (I := fun tm H => ∃ (s3 : Unit), y1 = .out s3 ∧ (∃ (Z2 V2 : PH), Gw Z V Z2 V2 ∧ Sat Z2 V2 H [] ∧ tm 0 = v1 ∧ tm 1 = v2 ∧ tm 12 = (vi (a0.length : Int)))) (fun k4 => ?_) ?_
  · refine c_bk ?_
    refine l_forL (xs := (Pu.ran (a0.length : Int))) (fun (i1 : Nat) (s1 : Unit) tm H => tm 13 = vi i1 ∧ ∃ (Z1 V1 : PH), Gw Z V Z1 V1 ∧ Sat Z1 V1 H [] ∧ tm 0 = v1 ∧ tm 1 = v2 ∧ tm 12 = (vi (a0.length : Int))) (fun i1 x1 s1 y2 tm H2 q2 q3 j1 e1 k1 k2 k3 => ?_) (fun s1 tm H1 jf jd => ?_) q7 ⟨rfl, _, _, Gw.refl _ _, hs, rfl, rfl, rfl⟩
    · obtain ⟨hti0, Z1, V1, g1, s2, h1, h2, h3⟩ := j1
      unfold P.slices_Equal_int_int.b0 at e1
      have hti0 := iv hti0 (ran_x q2).symm
      refine c_sr ?_
      refine o_lss hti0 h3 ?_
      refine c_nil ?_
      refine c_sq ?_
      refine c_ift rfl (ran_lt q2) ?_
      refine c_sk ?_
      refine c_sq ?_
      refine c_bk ?_
      refine c_sr ?_
      refine o_mv (v := (vi x1)) hti0 ?_
      refine o_mv (v := (vi x1)) rfl ?_
      refine c_nil ?_
      refine c_sq ?_
      refine d_start s2 fun n1 H4 s5 q8 d1 => ?_
      refine d_mv (v := v1) h1 ?_
      refine d_mv (v := (vi x1)) rfl ?_
      obtain ⟨x3, q9, e1⟩ := Pu.bind_some e1
      refine d_idx (v := v1) rfl rfl (hp1.mono g1.v) rfl q9 fun p1 q10 => ?_
      refine d_ldi (RdS.low (hp1.mono g1.v) s5.v q8) rfl (hp1.mono g1.v) s5.v q10 q9 ?_
      refine d_mv (v := v2) h2 ?_
      refine d_mv (v := (vi x1)) rfl ?_
      obtain ⟨x4, q11, e1⟩ := Pu.bind_some e1
      refine d_idx (v := v2) rfl rfl (hp2.mono g1.v) rfl q11 fun p2 q12 => ?_
      refine d_ldi (RdS.low (hp2.mono g1.v) s5.v q8) rfl (hp2.mono g1.v) s5.v q12 q11 ?_
      refine d_neq rfl rfl ?_
      refine d_nil dc_nil ?_
      refine c_gen (P := fun tm => tm 0 = v1 ∧ tm 1 = v2 ∧ tm 12 = (vi (a0.length : Int)) ∧ tm 13 = (vi x1) ∧ tm 24 = (.bool (decide (x3 ≠ x4))) ∧ True) ⟨h1, h2, h3, hti0, rfl, trivial⟩ ?_
      intro _ i2
      obtain ⟨h7, h8, h9, h10, h11, -⟩ := i2
      refine c_ifd h11 (fun q13 => ?_) (fun q13 => ?_)
      · replace e1 := if_t q13 e1
        refine c_sr ?_
        refine o_mv (v := (.bool false)) rfl ?_
        refine c_nil ?_
        refine c_rt ?_
        have e2 := fin_r (k3 _ (Option.some.inj e1).symm) e
        obtain rfl := Option.some.inj e2
        exact ⟨.inr rfl, _, (ar1 rfl), rfl, (s5.weak g1 hs.zv)⟩
      replace e1 := if_f q13 e1
      refine c_sk ?_
      refine c_end ?_
      refine c_r ?_
      refine o_add h10 rfl ?_
      refine o_mv (v := (vi (Pu.W (x1 + 1)))) rfl ?_
      refine c_nil ?_
      exact k1 _ _ _ (Option.some.inj e1).symm ⟨(iv rfl (w_sucR q2 q6)), _, _, g1, s5, h7, h8, h9⟩
    · obtain ⟨hte0, Z3, V3, g3, s6, h12, h13, h14⟩ := jd
      refine c_sr ?_
      refine o_lss hte0 h14 ?_
      refine c_nil ?_
      refine c_sq ?_
      refine c_iff rfl (ran_done _) ?_
      refine c_ex ?_
      refine e_c ?_
      refine e_c ?_
      refine e_h ?_
      exact k4 _ _ ⟨_, jf, _, _, g3, s6, h12, h13, h14⟩
  intro _ H3 i3
  obtain ⟨s3, f1, Z2, V2, g2, s4, h4, h5, h6⟩ := i3
  replace e := fin_o f1 e
  refine c_sr ?_
  refine o_mv (v := (.bool true)) rfl ?_
  refine c_nil ?_
  refine c_rt ?_
  obtain rfl := Option.some.inj e
  exact ⟨.inr rfl, _, (ar1 rfl), rfl, (s4.weak g2 hs.zv)⟩
/-! parlkeep5_below -/
structure Nd.parlkeep5_below (T : FuncId → Option AFunc) : Prop where
  own : Has T I.parlkeep5_below F.parlkeep5_below
  parlmake_Below : Nd.parlmake_Below T
set_option maxHeartbeats 1000000 in
theorem X.parlkeep5_below {T : FuncId → Option AFunc} (nd : Nd.parlkeep5_below T) {Z V : PH} {H : Hp} {a0 : Int} {a1 : Int} (hs : Sat Z V H []) {r : Int} (e : P.parlkeep5_below a0 a1 = some r) :
    G T I.parlkeep5_below [(vi a0), (vi a1)] H (fun rv H' => rv = (vi r) ∧ Sat Z V H' []) := by
  unfold P.parlkeep5_below at e
  refine f_mk nd.own ?_
  refine c_sr ?_
  refine o_mv (v := (vi 0)) rfl ?_
  refine c_nil ?_
  refine c_sr ?_
  refine o_mv (v := (vi a0)) rfl ?_
  refine o_mv (v := (vi a1)) rfl ?_
  obtain ⟨x1, q1, e⟩ := Pu.bind_some e
  obtain ⟨Z1, V1, W1, g1, u1, c1, c2, -, c4, c3⟩ := Sat.call (l1 := []) hs
  refine o_call (mc rfl (mc rfl m0)) (X.parlmake_Below nd.parlmake_Below c1 q1) fun _ H1 i1 => ?_
  obtain ⟨rfl, s1⟩ := i1
  have s2 := c3 _ _ s1
  refine o_mv (v := (vi x1)) rfl ?_
  refine c_nil ?_
  refine c_rt ?_
  obtain rfl := Option.some.inj e
  exact ⟨.inr rfl, _, (ar1 rfl), rfl, (s2.weak g1 hs.zv)⟩
/-! parlkeep5_fails_1 -/
structure Nd.parlkeep5_fails_1 (T : FuncId → Option AFunc) : Prop where
  own : Has T I.parlkeep5_fails_1 F.parlkeep5_fails_1
set_option maxHeartbeats 1000000 in
theorem X.parlkeep5_fails_1 {T : FuncId → Option AFunc} (nd : Nd.parlkeep5_fails_1 T) {Z V : PH} {H : Hp} {v1 : Value} {o1 : Nat} {o2 : Nat} {a0 : (List Int)} {a1 : Int} {a2 : Int} (hs : Sat Z V H [pts o1 (.rw 0 [(vi a1)]), pts o2 (.rw 0 [(vi a2)])]) (hp1 : RdS Sh.int V v1 a0) {r : Bool} (e : P.parlkeep5_fails_1 a0 a1 a2 = some r) :
    G T I.parlkeep5_fails_1 [v1, (.pointer (some ⟨o1, 0, none⟩)), (.pointer (some ⟨o2, 0, none⟩))] H (fun rv H' => rv = (.bool r) ∧ Sat Z V H' [pts o1 (.rw 0 [(vi a1)]), pts o2 (.rw 0 [(vi a2)])]) := by
  unfold P.parlkeep5_fails_1 at e
  refine f_mk nd.own ?_
  refine c_sr ?_
  refine o_mv (v := (.bool false)) rfl ?_
  refine c_nil ?_
  refine c_sr ?_
  refine o_mv (v := (vi 0)) rfl ?_
  refine c_nil ?_
  refine c_sq ?_
  refine c_sr ?_
  refine o_mv (v := v1) rfl ?_
  refine o_len rfl (hp1).len ?_
  refine o_mv (v := (vi 0)) rfl ?_
  refine c_nil ?_
  obtain ⟨y1, q3, e⟩ := Pu.bind_some e
  refine c_bk ?_
  refine l_forP (xs := a0) (fun (i1 : Nat) (s1 : Int) tm H => tm 10 = vi i1 ∧ ∃ (Z1 V1 : PH), Gw Z V Z1 V1 ∧ Sat Z1 V1 H [pts o1 (.rw 0 [(vi a1)]), pts o2 (.rw 0 [(vi a2)])] ∧ tm 0 = v1 ∧ tm 1 = (.pointer (some ⟨o1, 0, none⟩)) ∧ tm 2 = (.pointer (some ⟨o2, 0, none⟩)) ∧ tm 5 = (vi s1) ∧ tm 8 = v1 ∧ tm 9 = (vi (a0.length : Int))) (fun i1 x1 s1 s3 tm H2 q1 q2 j1 e1 k1 => ?_) (fun tm H1 jd => ?_) q3 ⟨rfl, _, _, Gw.refl _ _, hs, rfl, rfl, rfl, rfl, rfl, rfl⟩
  · obtain ⟨hti0, Z1, V1, g1, s2, h1, h2, h3, h4, h5, h6⟩ := j1
    unfold P.parlkeep5_fails_1.b0 at e1
    refine c_sr ?_
    refine o_lss hti0 h6 ?_
    refine c_nil ?_
    refine c_sq ?_
    refine c_ift rfl (Int.ofNat_lt.2 q2) ?_
    refine c_sk ?_
    refine c_sq ?_
    refine c_bk ?_
    refine c_sr ?_
    refine o_mv (v := (vi (i1 : Int))) hti0 ?_
    refine o_idx (v := v1) h5 hti0 (hp1.mono g1.v) rfl (Pu.ix_nat.trans q1) fun p1 q4 => ?_
    refine o_ldi rfl (hp1.mono g1.v) s2.v q4 (Pu.ix_nat.trans q1) ?_
    refine o_mv (v := (vi (i1 : Int))) rfl ?_
    refine o_mv (v := (vi x1)) rfl ?_
    refine c_nil ?_
    refine c_r ?_
    refine o_mv (v := (vi s1)) h4 ?_
    refine o_mv (v := (vi x1)) rfl ?_
    refine o_add rfl rfl ?_
    refine o_mv (v := (vi (i1 : Int))) rfl ?_
    refine o_ldB 0 s2 rfl h2 rfl rfl ?_
    refine o_add rfl rfl ?_
    refine o_mul rfl rfl ?_
    refine o_add rfl rfl ?_
    refine o_mv (v := (vi (Pu.W (s1 + (Pu.W ((Pu.W (x1 + 1)) * (Pu.W ((i1 : Int) + a1)))))))) rfl ?_
    refine c_nil ?_
    refine c_end ?_
    refine c_r ?_
    refine o_add hti0 rfl ?_
    refine o_mv (v := (vi (Pu.W ((i1 : Int) + 1)))) rfl ?_
    refine c_nil ?_
    obtain rfl := Option.some.inj e1
    exact k1 _ _ ⟨(iv rfl (w_suc q2 (hp1).bd)), _, _, g1, s2, h1, h2, h3, rfl, h5, h6⟩
  obtain ⟨hte0, Z2, V2, g2, s4, h7, h8, h9, h10, h11, h12⟩ := jd
  refine c_sr ?_
  refine o_lss hte0 h12 ?_
  refine c_nil ?_
  refine c_sq ?_
  refine c_iff rfl (Int.lt_irrefl _) ?_
  refine c_ex ?_
  refine e_c ?_
  refine e_c ?_
  refine e_h ?_
  refine c_sr ?_
  refine o_mv (v := (vi y1)) h10 ?_
  obtain ⟨x2, q5, e⟩ := Pu.bind_some e
  refine o_rem rfl rfl q5 ?_
  refine o_ldB 1 s4 rfl h9 rfl rfl ?_
  refine o_eql rfl rfl ?_
  refine o_mv (v := (.bool (decide (x2 = a2)))) rfl ?_
  refine o_jn 6 (I := fun tm H => tm 34 = .bool ((decide (x2 = a2)) || (decide ((Pu.W (4 + a1)) < (a0.length : Int)))) ∧ (∃ (Z3 V3 : PH), Gw Z2 V2 Z3 V3 ∧ Sat Z3 V3 H [pts o1 (.rw 0 [(vi a1)]), pts o2 (.rw 0 [(vi a2)])])) (fun k2 => ?_) ?_
  · rcases Bool.eq_false_or_eq_true (decide (x2 = a2)) with q6 | q6
    · refine o_gn rfl q6 ?_
      refine o_gn rfl q6 ?_
      refine o_gn rfl q6 ?_
      refine o_gn rfl q6 ?_
      refine o_gn rfl q6 ?_
      refine o_pickt (a := (.bool true)) rfl q6 rfl ?_
      exact k2 _ _ ⟨gf rfl (by first | (rw [q6]; first | done | rfl) | simp [q6]), _, _, Gw.refl _ _, s4⟩
    refine o_gy rfl q6 ?_
    refine o_mv (v := v1) h7 ?_
    refine o_gy rfl q6 ?_
    refine o_len rfl ((hp1.mono g2.v)).len ?_
    refine o_gy rfl q6 ?_
    refine o_ldB 0 s4 rfl h8 rfl rfl ?_
    refine o_gy rfl q6 ?_
    refine o_add rfl rfl ?_
    refine o_gy rfl q6 ?_
    refine o_gtr rfl rfl ?_
    refine o_pickf (b := (.bool (decide ((Pu.W (4 + a1)) < (a0.length : Int))))) rfl q6 rfl ?_
    exact k2 _ _ ⟨gf rfl (by first | (rw [q6]; first | done | rfl) | simp [q6]), _, _, Gw.refl _ _, s4⟩
  intro _ H4 i2
  obtain ⟨h13, Z3, V3, g3, s5⟩ := i2
  refine o_mv (v := (.bool ((decide (x2 = a2)) || (decide ((Pu.W (4 + a1)) < (a0.length : Int)))))) h13 ?_
  refine c_nil ?_
  refine c_rt ?_
  obtain rfl := Option.some.inj e
  exact ⟨.inr rfl, _, (ar1 rfl), rfl, (s5.weak (g2.trans g3) hs.zv)⟩
/-! parlkeep5_fails -/
structure Nd.parlkeep5_fails (T : FuncId → Option AFunc) : Prop where
  own : Has T I.parlkeep5_fails F.parlkeep5_fails
  parlkeep5_below : Nd.parlkeep5_below T
set_option maxHeartbeats 1000000 in
theorem X.parlkeep5_fails {T : FuncId → Option AFunc} (nd : Nd.parlkeep5_fails T) {Z V : PH} {H : Hp} {a0 : Int} {a1 : Int} (hs : Sat Z V H []) {r : (Int × Int)} (e : P.parlkeep5_fails a0 a1 = some r) :
    G T I.parlkeep5_fails [(vi a0), (vi a1)] H (fun rv H' => ∃ (o101 : Nat) (o102 : Nat), rv = (.func (.func I.parlkeep5_fails_1) #[] #[(.pointer (some ⟨o101, 0, none⟩)), (.pointer (some ⟨o102, 0, none⟩))]) ∧ Sat Z V H' [pts o101 (.rw 0 [(vi r.1)]), pts o102 (.rw 0 [(vi r.2)])]) := by
  unfold P.parlkeep5_fails at e
  refine f_mk nd.own ?_
  refine c_sr ?_
  refine o_box hs rfl rfl fun b1 H1 s1 => ?_
  refine o_box s1 rfl rfl fun b2 H2 s2 => ?_
  refine o_mv (v := .nilFunc) rfl ?_
  refine c_nil ?_
  refine c_sq ?_
  refine d_start s2 fun n1 H3 s3 q1 d1 => ?_
  refine d_ldB (q1 _ _ (ph_some.2 ⟨s3.curB 1 rfl, by simp⟩)) 1 s3 rfl rfl rfl rfl ?_
  obtain ⟨x1, q2, e⟩ := Pu.bind_some e
  obtain ⟨Z1, V1, W1, g1, u1, c1, c2, -, c4, c3⟩ := Sat.call (l1 := []) s3
  refine d_call (mc rfl (mc rfl m0)) (X.parlkeep5_below nd.parlkeep5_below c1 q2) fun _ H4 i1 k1 => ?_
  have d2 := d1.keep k1
  obtain ⟨rfl, s4⟩ := i1
  have s5 := c3 _ _ s4
  refine d_ldB (q1 _ _ (ph_some.2 ⟨s3.curB 0 rfl, by simp⟩)) 0 s5 rfl rfl rfl rfl ?_
  obtain ⟨x2, q3, e⟩ := Pu.bind_some e
  obtain ⟨Z2, V2, W2, g2, u2, c5, c6, -, c8, c7⟩ := Sat.call (l1 := []) s5
  refine d_call (mc rfl (mc rfl m0)) (X.parlkeep5_below nd.parlkeep5_below c5 q3) fun _ H5 i2 k2 => ?_
  have d3 := d2.keep k2
  obtain ⟨rfl, s6⟩ := i2
  have s7 := c7 _ _ s6
  refine d_stB (us' := [(vi x1)]) 1 s7 rfl rfl rfl rfl rfl rfl rfl fun H6 s8 k3 => ?_
  have d4 := d3.keep k3
  refine d_stB (us' := [(vi x2)]) 0 s8 rfl rfl rfl rfl rfl rfl rfl fun H7 s9 k4 => ?_
  have d5 := d4.keep k4
  refine d_nil (dc_mk rfl (tra (tra (tra (tra (tre (trl (trl tr0))))))) (tra (tra (tra (tra (tra (tre (trl tr0))))))) (tra (tra (tra (tra (tre (trl (trl tr0))))))) (ag_ldx (w := (vi a1)) w_0 rfl (ldB_v 0 s5 rfl rfl rfl) (ldB_v 0 s3 rfl rfl rfl) (by simp [vsame, vsame1])) (ag_ldx (w := (vi a1)) w_0 rfl (ldB_v 0 s5 rfl rfl rfl) (ldB_v 0 s5 rfl rfl rfl) (by simp [vsame, vsame1])) dc_nil) ?_
  refine c_sr ?_
  refine o_mkfn (mc rfl (mc rfl m0)) ?_
  refine o_mv (v := (.func (.func I.parlkeep5_fails_1) #[] #[(.pointer (some ⟨b1, 0, none⟩)), (.pointer (some ⟨b2, 0, none⟩))])) rfl ?_
  refine c_nil ?_
  refine c_rt ?_
  obtain rfl := Option.some.inj e
  exact ⟨.inr rfl, _, (ar1 rfl), _, _, rfl, ((s9.pick [1, 0] rfl).weak (g1.trans g2) hs.zv)⟩
/-! slices_Grow_int_int__nil -/
structure Nd.slices_Grow_int_int__nil (T : FuncId → Option AFunc) : Prop where
  own : Has T I.slices_Grow_int_int F.slices_Grow_int_int
set_option maxHeartbeats 1000000 in
theorem X.slices_Grow_int_int__nil {T : FuncId → Option AFunc} (nd : Nd.slices_Grow_int_int__nil T) {Z V : PH} {H : Hp} {a1 : Int} (hs : Sat Z V H []) {r : (List Int)} (e : P.slices_Grow_int_int__nil a1 = some r) :
    G T I.slices_Grow_int_int [(.slice none 0 0), (vi a1)] H (fun rv H' => ∃ (u1 : Value), rv = u1 ∧ Sat Z V H' [It.sl Sh.int u1 r]) := by
  unfold P.slices_Grow_int_int__nil at e
  refine f_mk nd.own ?_
  refine c_sr ?_
  refine o_mv (v := (.slice none 0 0)) rfl ?_
  refine c_nil ?_
  refine c_sq ?_
  refine c_sr ?_
  refine o_mv (v := (vi a1)) rfl ?_
  refine o_lss rfl rfl ?_
  refine c_nil ?_
  refine c_ifd rfl (fun q1 => ?_) (fun q1 => ?_)
  · replace e := if_t q1 e
    refine c_r ?_
    cases e
  replace e := if_f q1 e
  refine c_sk ?_
  refine c_sq ?_
  refine c_sr ?_
  refine o_mv (v := (vi a1)) rfl ?_
  refine o_mv (v := (.slice none 0 0)) rfl ?_
  refine o_capn rfl ?_
  refine o_mv (v := (.slice none 0 0)) rfl ?_
  refine o_len rfl rfl ?_
  refine o_sub rfl rfl ?_
  refine o_sub rfl rfl ?_
  refine o_mv (v := (vi (Pu.W (a1 - (Pu.W (0 - 0)))))) rfl ?_
  refine c_nil ?_
  refine c_gen (P := fun tm => tm 0 = (.slice none 0 0) ∧ tm 1 = (vi (Pu.W (a1 - (Pu.W (0 - 0))))) ∧ True) ⟨rfl, rfl, trivial⟩ ?_
  intro _ i1
  obtain ⟨h1, h2, -⟩ := i1
  refine c_sr ?_
  refine o_mv (v := (vi (Pu.W (a1 - (Pu.W (0 - 0)))))) h2 ?_
  refine o_gtr rfl rfl ?_
  refine c_nil ?_
  obtain ⟨y1, e1, e⟩ := Pu.bind_some e
  refine c_jn (I := fun tm H => ∃ (Z1 V1 : PH) (w1 : Value), Gw Z V Z1 V1 ∧ Sat Z1 V1 H [It.sl Sh.int w1 y1] ∧ tm 0 = w1) (fun k1 => ?_) ?_
  · refine c_ifd rfl (fun q2 => ?_) (fun q2 => ?_)
    · replace e1 := if_t q2 e1
      refine c_r ?_
      refine o_mv (v := (.slice none 0 0)) h1 ?_
      refine o_mv (v := (.slice none 0 0)) h1 ?_
      refine o_capn rfl ?_
      refine o_slnil rfl rfl ?_
      refine o_mv (v := (vi (Pu.W (a1 - (Pu.W (0 - 0)))))) h2 ?_
      obtain ⟨x1, q3, e1⟩ := Pu.bind_some e1
      refine o_appz (s := Sh.int) hs Sh.flat_lt rfl rfl rfl rfl q3 fun w2 H2 s2 => ?_
      refine o_mv (v := (.slice none 0 0)) h1 ?_
      refine o_len rfl rfl ?_
      obtain ⟨x2, q4, e1⟩ := Pu.bind_some e1
      refine o_slchX rfl rfl (s2.curS (s := Sh.int) 0 rfl) (PH.le.refl _) rfl q4 fun w3 h4 h5 => ?_
      have s3 := Sat.conv (u := It.sl Sh.int w3 x2) 0 rfl (fun F h _ q => h5.1 F h q) s2
      refine o_mv (v := w3) rfl ?_
      refine c_nil ?_
      obtain rfl := Option.some.inj e1
      exact k1 _ _ ⟨_, _, _, Gw.refl _ _, s3, rfl⟩
    replace e1 := if_f q2 e1
    refine c_sk ?_
    obtain rfl := Option.some.inj e1
    exact k1 _ _ ⟨_, _, _, Gw.refl _ _, (hs.push (sl_nil (s := Sh.int))), h1⟩
  intro _ H1 i2
  obtain ⟨Z1, V1, w1, g1, s1, h3⟩ := i2
  refine c_sr ?_
  refine o_mv (v := w1) h3 ?_
  refine o_mv (v := w1) rfl ?_
  refine c_nil ?_
  refine c_rt ?_
  obtain rfl := Option.some.inj e
  exact ⟨.inr rfl, _, (ar1 rfl), _, rfl, (s1.weak g1 hs.zv)⟩
/-! slices_Concat_int_int -/
structure Nd.slices_Concat_int_int (T : FuncId → Option AFunc) : Prop where
  own : Has T I.slices_Concat_int_int F.slices_Concat_int_int
  slices_Grow_int_int__nil : Nd.slices_Grow_int_int__nil T
set_option maxHeartbeats 1000000 in
theorem X.slices_Concat_int_int {T : FuncId → Option AFunc} (nd : Nd.slices_Concat_int_int T) {Z V : PH} {H : Hp} {v1 : Value} {a0 : (List (List Int))} (hs : Sat Z V H []) (hp1 : RdS (Sh.sl Sh.int) V v1 a0) {r : (List Int)} (e : P.slices_Concat_int_int a0 = some r) :
    G T I.slices_Concat_int_int [v1] H (fun rv H' => ∃ (u1 : Value), rv = u1 ∧ Sat Z V H' [It.sl Sh.int u1 r]) := by
  unfold P.slices_Concat_int_int at e
  refine f_mk nd.own ?_
  refine c_sr ?_
  refine o_mv (v := (.slice none 0 0)) rfl ?_
  refine c_nil ?_
  refine c_sr ?_
  refine o_mv (v := (vi 0)) rfl ?_
  refine c_nil ?_
  refine c_sq ?_
  refine c_sr ?_
  refine o_mv (v := v1) rfl ?_
  refine o_len rfl (hp1).len ?_
  refine o_mv (v := (vi 0)) rfl ?_
  refine c_nil ?_
  obtain ⟨y1, q3, e⟩ := Pu.bind_some e
  refine c_bk ?_
  refine l_forP (xs := a0) (fun (i1 : Nat) (s1 : Int) tm H => tm 11 = vi i1 ∧ ∃ (Z1 V1 : PH), Gw Z V Z1 V1 ∧ Sat Z1 V1 H [] ∧ tm 0 = v1 ∧ tm 3 = (vi s1) ∧ tm 9 = v1 ∧ tm 10 = (vi (a0.length : Int))) (fun i1 x1 s1 s3 tm H2 q1 q2 j1 e1 k1 => ?_) (fun tm H1 jd => ?_) q3 ⟨rfl, _, _, Gw.refl _ _, hs, rfl, rfl, rfl, rfl⟩
  · obtain ⟨hti0, Z1, V1, g1, s2, h1, h2, h3, h4⟩ := j1
    unfold P.slices_Concat_int_int.b0 at e1
    refine c_sr ?_
    refine o_lss hti0 h4 ?_
    refine c_nil ?_
    refine c_sq ?_
    refine c_ift rfl (Int.ofNat_lt.2 q2) ?_
    refine c_sk ?_
    refine c_sq ?_
    refine c_bk ?_
    refine c_sr ?_
    refine o_idx (v := v1) h3 hti0 (hp1.mono g1.v) rfl (Pu.ix_nat.trans q1) fun p1 q4 => ?_
    refine o_lds rfl (hp1.mono g1.v) s2.v q4 (Pu.ix_nat.trans q1) fun w1 h5 => ?_
    refine o_mv (v := w1) rfl ?_
    refine c_nil ?_
    refine c_sr ?_
    refine o_mv (v := (vi s1)) h2 ?_
    refine o_mv (v := w1) rfl ?_
    refine o_len rfl (h5).len ?_
    refine o_add rfl rfl ?_
    refine o_mv (v := (vi (Pu.W (s1 + (x1.length : Int))))) rfl ?_
    refine c_nil ?_
    refine c_sr ?_
    refine o_mv (v := (vi (Pu.W (s1 + (x1.length : Int))))) rfl ?_
    refine o_lss rfl rfl ?_
    refine c_nil ?_
    refine c_gen (P := fun tm => tm 0 = v1 ∧ tm 3 = (vi (Pu.W (s1 + (x1.length : Int)))) ∧ tm 9 = v1 ∧ tm 10 = (vi (a0.length : Int)) ∧ tm 11 = (vi (i1 : Int)) ∧ tm 20 = (.bool (decide ((Pu.W (s1 + (x1.length : Int))) < 0))) ∧ True) ⟨h1, rfl, h3, h4, hti0, rfl, trivial⟩ ?_
    intro _ i2
    obtain ⟨h6, h7, h8, h9, h10, h11, -⟩ := i2
    refine c_ifd h11 (fun q5 => ?_) (fun q5 => ?_)
    · replace e1 := if_t q5 e1
      refine c_r ?_
      cases e1
    replace e1 := if_f q5 e1
    refine c_sk ?_
    refine c_end ?_
    refine c_r ?_
    refine o_add h10 rfl ?_
    refine o_mv (v := (vi (Pu.W ((i1 : Int) + 1)))) rfl ?_
    refine c_nil ?_
    obtain rfl := Option.some.inj e1
    exact k1 _ _ ⟨(iv rfl (w_suc q2 (hp1).bd)), _, _, g1, s2, h6, h7, h8, h9⟩
  obtain ⟨hte0, Z2, V2, g2, s4, h12, h13, h14, h15⟩ := jd
  refine c_sr ?_
  refine o_lss hte0 h15 ?_
  refine c_nil ?_
  refine c_sq ?_
  refine c_iff rfl (Int.lt_irrefl _) ?_
  refine c_ex ?_
  refine e_c ?_
  refine e_c ?_
  refine e_h ?_
  refine c_sr ?_
  refine o_mv (v := (vi y1)) h13 ?_
  obtain ⟨x2, q6, e⟩ := Pu.bind_some e
  obtain ⟨Z3, V3, W1, g3, u1, c1, c2, -, c4, c3⟩ := Sat.call (l1 := []) s4
  refine o_call (mc rfl (mc rfl m0)) (X.slices_Grow_int_int__nil nd.slices_Grow_int_int__nil c1 q6) fun w2 H4 i3 => ?_
  obtain ⟨_, rfl, s5⟩ := i3
  have s6 := c3 _ _ s5
  refine o_mv (v := w2) rfl ?_
  refine c_nil ?_
  refine c_sq ?_
  refine c_sr ?_
  refine o_mv (v := v1) h12 ?_
  refine o_len rfl ((hp1.mono (g2.trans g3).v)).len ?_
  refine o_mv (v := (vi 0)) rfl ?_
  refine c_nil ?_
  obtain ⟨y2, q9, e⟩ := Pu.bind_some e
  refine c_bk ?_
  refine l_forP (xs := a0) (fun (i4 : Nat) (s7 : (List Int)) tm H => tm 27 = vi i4 ∧ ∃ (Z4 V4 : PH) (w3 : Value), Gw Z3 V3 Z4 V4 ∧ Sat Z4 V4 H [It.sl Sh.int w3 s7] ∧ tm 6 = w3 ∧ tm 25 = v1 ∧ tm 26 = (vi (a0.length : Int))) (fun i4 x3 s7 s9 tm H6 q7 q8 j2 e2 k2 => ?_) (fun tm H5 jd => ?_) q9 ⟨rfl, _, _, _, Gw.refl _ _, s6, rfl, rfl, rfl⟩
  · obtain ⟨hti1, Z4, V4, w3, g4, s8, h16, h17, h18⟩ := j2
    unfold P.slices_Concat_int_int.b1 at e2
    refine c_sr ?_
    refine o_lss hti1 h18 ?_
    refine c_nil ?_
    refine c_sq ?_
    refine c_ift rfl (Int.ofNat_lt.2 q8) ?_
    refine c_sk ?_
    refine c_sq ?_
    refine c_bk ?_
    refine c_sr ?_
    refine o_idx (v := v1) h17 hti1 (hp1.mono (g2.trans (g3.trans g4)).v) rfl (Pu.ix_nat.trans q7) fun p2 q10 => ?_
    refine o_lds rfl (hp1.mono (g2.trans (g3.trans g4)).v) s8.v q10 (Pu.ix_nat.trans q7) fun w4 h19 => ?_
    refine o_mv (v := w4) rfl ?_
    refine c_nil ?_
    refine c_r ?_
    refine o_mv (v := w3) h16 ?_
    refine o_mv (v := w4) rfl ?_
    obtain ⟨x4, q11, e2⟩ := Pu.bind_some e2
    refine o_app 0 s8 rfl Sh.flat_lt rfl rfl rfl rfl h19 s8.v (fun h => h) (by decide) q11 fun w5 H7 s10 => ?_
    refine o_mv (v := w5) rfl ?_
    refine c_nil ?_
    refine c_end ?_
    refine c_r ?_
    refine o_add hti1 rfl ?_
    refine o_mv (v := (vi (Pu.W ((i4 : Int) + 1)))) rfl ?_
    refine c_nil ?_
    obtain rfl := Option.some.inj e2
    exact k2 _ _ ⟨(iv rfl (w_suc q8 ((hp1.mono (g2.trans g3).v)).bd)), _, _, _, g4, s10, rfl, h17, h18⟩
  obtain ⟨hte1, Z5, V5, w6, g5, s11, h20, h21, h22⟩ := jd
  refine c_sr ?_
  refine o_lss hte1 h22 ?_
  refine c_nil ?_
  refine c_sq ?_
  refine c_iff rfl (Int.lt_irrefl _) ?_
  refine c_ex ?_
  refine e_c ?_
  refine e_c ?_
  refine e_h ?_
  refine c_sr ?_
  refine o_mv (v := w6) h20 ?_
  refine o_mv (v := w6) rfl ?_
  refine c_nil ?_
  refine c_rt ?_
  obtain rfl := Option.some.inj e
  exact ⟨.inr rfl, _, (ar1 rfl), _, rfl, (s11.weak (g2.trans (g3.trans g5)) hs.zv)⟩
/-! shrink_Word__parlkeep5_ShrinkLeast_1 -/
structure Nd.shrink_Word__parlkeep5_ShrinkLeast_1 (T : FuncId → Option AFunc) : Prop where
  own : Has T I.shrink_Word F.shrink_Word
  shrink_without : Nd.shrink_without T
  parlkeep5_ShrinkLeast_1 : Nd.parlkeep5_ShrinkLeast_1 T
set_option maxHeartbeats 1000000 in
theorem X.shrink_Word__parlkeep5_ShrinkLeast_1 {T : FuncId → Option AFunc} (nd : Nd.shrink_Word__parlkeep5_ShrinkLeast_1 T) {φ : Nat} {Z V : PH} {H : Hp} {v1 : Value} {a0 : (List Int)} (hs : Sat Z V H []) (hp1 : RdS Sh.int V v1 a0) {r : ((List Int) × Int)} (e : P.shrink_Word__parlkeep5_ShrinkLeast_1 φ a0 = some r) :
    G T I.shrink_Word [v1, (.func (.func I.parlkeep5_ShrinkLeast_1) #[] #[])] H (fun rv H' => ∃ (u1 : Value), rv = (.tuple #[u1, (vi r.2)]) ∧ Sat Z V H' [It.sl Sh.int u1 r.1]) := by
  unfold P.shrink_Word__parlkeep5_ShrinkLeast_1 at e
  refine f_mk nd.own ?_
  refine c_sr ?_
  refine o_mv (v := (.slice none 0 0)) rfl ?_
  refine o_mv (v := (vi 0)) rfl ?_
  refine c_nil ?_
  refine c_sq ?_
  refine c_sr ?_
  refine o_mv (v := v1) rfl ?_
  refine o_len rfl (hp1).len ?_
  refine o_gtr rfl rfl ?_
  refine c_nil ?_
  refine c_ifd rfl (fun q1 => ?_) (fun q1 => ?_)
  · replace e := if_t q1 e
    refine c_sr ?_
    refine o_mv (v := (.slice none 0 0)) rfl ?_
    refine o_mv (v := (vi 2)) rfl ?_
    refine c_nil ?_
    refine c_rt ?_
    obtain rfl := Option.some.inj e
    exact ⟨.inr rfl, _, (ar2 rfl rfl), _, rfl, (hs.push (sl_nil (s := Sh.int)))⟩
  replace e := if_f q1 e
  refine c_sk ?_
  refine c_sq ?_
  refine c_sr ?_
  refine o_mv (v := (.func (.func I.parlkeep5_ShrinkLeast_1) #[] #[])) rfl ?_
  refine o_mv (v := v1) rfl ?_
  refine o_mv (v := v1) rfl ?_
  refine o_len rfl (hp1).len ?_
  obtain ⟨x1, q2, e⟩ := Pu.bind_some e
  obtain ⟨Z1, V1, W1, g1, u1, c1, c2, -, c4, c3⟩ := Sat.call (l1 := []) hs
  refine o_call (mc rfl (mc rfl m0)) (X.shrink_without nd.shrink_without c1 (hp1.mono (g1.v.trans u1)) q2) fun w1 H1 i1 => ?_
  obtain ⟨_, rfl, s1⟩ := i1
  have s2 := c3 _ _ s1
  obtain ⟨x2, q3, e⟩ := Pu.bind_some e
  obtain ⟨Z2, V2, W2, g2, u2, c5, c6, -, c8, c7⟩ := Sat.call (l1 := []) s2
  refine o_callv rfl (mc rfl m0) (X.parlkeep5_ShrinkLeast_1 nd.parlkeep5_ShrinkLeast_1 c5 (c6 0 _ Sh.int _ _ rfl) q3) fun _ H2 i2 => ?_
  obtain ⟨rfl, s3⟩ := i2
  have s4 := c7 _ _ s3
  refine o_not rfl ?_
  refine c_nil ?_
  refine c_gen (P := fun tm => tm 0 = v1 ∧ tm 1 = (.func (.func I.parlkeep5_ShrinkLeast_1) #[] #[]) ∧ tm 17 = (.bool (!x2)) ∧ True) ⟨rfl, rfl, rfl, trivial⟩ ?_
  intro _ i3
  obtain ⟨h1, h2, h3, -⟩ := i3
  refine c_if h3 (fun q4 => ?_) (fun q4 => ?_)
  · replace e := if_t q4 e
    refine c_sr ?_
    refine o_mv (v := (.slice none 0 0)) rfl ?_
    refine o_mv (v := (vi 7)) rfl ?_
    refine c_nil ?_
    refine c_rt ?_
    obtain rfl := Option.some.inj e
    exact ⟨.inr rfl, _, (ar2 rfl rfl), _, rfl, (((s4.push (sl_nil (s := Sh.int))).pick [0] rfl).weak (g1.trans g2) hs.zv)⟩
  replace e := ib_f q4 e
  refine c_sk ?_
  refine c_sr ?_
  refine o_mv (v := v1) h1 ?_
  refine o_mv (v := v1) h1 ?_
  refine o_len rfl ((hp1.mono (g1.trans g2).v)).len ?_
  obtain ⟨x3, q5, e⟩ := Pu.bind_some e
  obtain ⟨Z3, V3, W3, g3, u3, c9, c10, -, c12, c11⟩ := Sat.call (l1 := []) s4
  refine o_call (mc rfl (mc rfl m0)) (X.shrink_without nd.shrink_without c9 (hp1.mono (((g1.trans g2).trans g3).v.trans u3)) q5) fun w2 H3 i4 => ?_
  obtain ⟨_, rfl, s5⟩ := i4
  have s6 := c11 _ _ s5
  refine o_mv (v := w2) rfl ?_
  refine c_nil ?_
  refine c_sq ?_
  refine c_sr ?_
  refine o_mv (v := (vi 0)) rfl ?_
  refine c_nil ?_
  obtain ⟨y1, q8, e⟩ := Pu.bind_some e
  refine c_jn (I := fun tm H => ∃ (s9 : ((List Int) × Int)), y1 = .out s9 ∧ (∃ (Z5 V5 : PH) (w4 : Value), Gw Z3 V3 Z5 V5 ∧ Sat Z5 V5 H [It.sl Sh.int w4 s9.1] ∧ tm 0 = w4 ∧ tm 1 = (.func (.func I.parlkeep5_ShrinkLeast_1) #[] #[]) ∧ tm 6 = (vi s9.2))) (fun k4 => ?_) ?_
  · refine c_bk ?_
    refine l_whl (fun (s7 : ((List Int) × Int)) tm H => ∃ (Z4 V4 : PH) (w3 : Value), Gw Z3 V3 Z4 V4 ∧ Sat Z4 V4 H [It.sl Sh.int w3 s7.1] ∧ tm 0 = w3 ∧ tm 1 = (.func (.func I.parlkeep5_ShrinkLeast_1) #[] #[]) ∧ tm 6 = (vi s7.2)) (fun s7 y2 tm H5 j1 e1 k1 k2 k3 => ?_) q8 ⟨_, _, _, Gw.refl _ _, (s6.pick [0] rfl), rfl, h2, rfl⟩
    obtain ⟨Z4, V4, w3, g4, s8, h4, h5, h6⟩ := j1
    unfold P.shrink_Word__parlkeep5_ShrinkLeast_1.b0 at e1
    refine c_sq ?_
    refine c_sr ?_
    refine o_mv (v := (vi s7.2)) h6 ?_
    refine o_mv (v := w3) h4 ?_
    refine o_len rfl ((s8.curS (s := Sh.int) 0 rfl)).len ?_
    refine o_lss rfl rfl ?_
    refine c_nil ?_
    refine c_ifd rfl (fun q9 => ?_) (fun q9 => ?_)
    · replace e1 := if_t q9 e1
      refine c_sk ?_
      refine c_bk ?_
      refine c_sr ?_
      refine o_mv (v := w3) h4 ?_
      refine o_mv (v := (vi s7.2)) h6 ?_
      obtain ⟨x5, q10, e1⟩ := Pu.bind_some e1
      obtain ⟨Z6, V6, W4, g6, u4, c13, c14, -, c16, c15⟩ := Sat.call (l1 := []) s8
      refine o_call (mc rfl (mc rfl m0)) (X.shrink_without nd.shrink_without c13 (c14 0 _ Sh.int _ _ rfl) q10) fun w5 H7 i6 => ?_
      obtain ⟨_, rfl, s11⟩ := i6
      have s12 := c15 _ _ s11
      refine o_mv (v := w5) rfl ?_
      refine c_nil ?_
      refine c_sr ?_
      refine o_mv (v := (.func (.func I.parlkeep5_ShrinkLeast_1) #[] #[])) h5 ?_
      refine o_mv (v := w5) rfl ?_
      refine o_mv (v := w5) rfl ?_
      refine o_len rfl ((s12.curS (s := Sh.int) 0 rfl)).len ?_
      obtain ⟨x6, q11, e1⟩ := Pu.bind_some e1
      obtain ⟨Z7, V7, W5, g7, u5, c17, c18, -, c20, c19⟩ := Sat.call (l1 := []) s12
      refine o_call (mc rfl (mc rfl m0)) (X.shrink_without nd.shrink_without c17 (c18 0 _ Sh.int _ _ rfl) q11) fun w6 H8 i7 => ?_
      obtain ⟨_, rfl, s13⟩ := i7
      have s14 := c19 _ _ s13
      obtain ⟨x7, q12, e1⟩ := Pu.bind_some e1
      obtain ⟨Z8, V8, W6, g8, u6, c21, c22, -, c24, c23⟩ := Sat.call (l1 := []) s14
      refine o_callv rfl (mc rfl m0) (X.parlkeep5_ShrinkLeast_1 nd.parlkeep5_ShrinkLeast_1 c21 (c22 0 _ Sh.int _ _ rfl) q12) fun _ H9 i8 => ?_
      obtain ⟨rfl, s15⟩ := i8
      have s16 := c23 _ _ s15
      refine c_nil ?_
      refine c_gen (P := fun tm => tm 0 = w3 ∧ tm 1 = (.func (.func I.parlkeep5_ShrinkLeast_1) #[] #[]) ∧ tm 6 = (vi s7.2) ∧ tm 7 = w5 ∧ tm 34 = (.bool x7) ∧ True) ⟨h4, h5, h6, rfl, rfl, trivial⟩ ?_
      intro _ i9
      obtain ⟨h10, h11, h12, h13, h14, -⟩ := i9
      obtain ⟨y3, e2, e1⟩ := Pu.bind_some e1
      refine c_jn (I := fun tm H => ∃ (Z9 V9 : PH) (w7 : Value), Gw Z8 V8 Z9 V9 ∧ Sat Z9 V9 H [It.sl Sh.int w7 y3.1] ∧ tm 0 = w7 ∧ tm 1 = (.func (.func I.parlkeep5_ShrinkLeast_1) #[] #[]) ∧ tm 6 = (vi y3.2)) (fun k5 => ?_) ?_
      · refine c_if h14 (fun q13 => ?_) (fun q13 => ?_)
        · replace e2 := if_t q13 e2
          refine c_r ?_
          refine o_mv (v := w5) h13 ?_
          refine o_mv (v := w5) rfl ?_
          refine o_mv (v := (vi 0)) rfl ?_
          refine c_nil ?_
          obtain rfl := Option.some.inj e2
          exact k5 _ _ ⟨_, _, _, Gw.refl _ _, (s16.pick [1] rfl), rfl, h11, rfl⟩
        replace e2 := ib_f q13 e2
        refine c_r ?_
        refine o_mv (v := (vi s7.2)) h12 ?_
        refine o_add rfl rfl ?_
        refine o_mv (v := (vi (Pu.W (s7.2 + 1)))) rfl ?_
        refine c_nil ?_
        obtain rfl := Option.some.inj e2
        exact k5 _ _ ⟨_, _, _, Gw.refl _ _, (s16.pick [2] rfl), h10, h11, rfl⟩
      intro _ H10 i10
      obtain ⟨Z9, V9, w7, g9, s17, h15, h16, h17⟩ := i10
      refine c_end ?_
      exact k1 _ _ _ (Option.some.inj e1).symm ⟨_, _, _, (g4.trans (g6.trans (g7.trans (g8.trans g9)))), s17, h15, h16, h17⟩
    replace e1 := if_f q9 e1
    refine c_ex ?_
    refine e_c ?_
    refine e_c ?_
    refine e_h ?_
    exact k4 _ _ ⟨_, k2 _ (Option.some.inj e1).symm, _, _, _, g4, s8, h4, h5, h6⟩
  intro _ H6 i11
  obtain ⟨s9, f1, Z5, V5, w4, g5, s10, h7, h8, h9⟩ := i11
  replace e := fin_o f1 e
  refine c_sr ?_
  refine o_mv (v := w4) h7 ?_
  refine o_mv (v := w4) rfl ?_
  refine o_mv (v := (vi 0)) rfl ?_
  refine c_nil ?_
  refine c_rt ?_
  obtain rfl := Option.some.inj e
  exact ⟨.inr rfl, _, (ar2 rfl rfl), _, rfl, (s10.weak (g1.trans (g2.trans (g3.trans g5))) hs.zv)⟩
/-! shrink_Word__parlkeep5_fails_1 -/
structure Nd.shrink_Word__parlkeep5_fails_1 (T : FuncId → Option AFunc) : Prop where
  own : Has T I.shrink_Word F.shrink_Word
  shrink_without : Nd.shrink_without T
  parlkeep5_fails_1 : Nd.parlkeep5_fails_1 T
set_option maxHeartbeats 1000000 in
theorem X.shrink_Word__parlkeep5_fails_1 {T : FuncId → Option AFunc} (nd : Nd.shrink_Word__parlkeep5_fails_1 T) {φ : Nat} {Z V : PH} {H : Hp} {v1 : Value} {o1 : Nat} {o2 : Nat} {a0 : (List Int)} {a1c0 : Int} {a1c1 : Int} (hs : Sat Z V H [pts o1 (.rw 0 [(vi a1c0)]), pts o2 (.rw 0 [(vi a1c1)])]) (hp1 : RdS Sh.int V v1 a0) {r : ((List Int) × Int)} (e : P.shrink_Word__parlkeep5_fails_1 φ a0 a1c0 a1c1 = some r) :
    G T I.shrink_Word [v1, (.func (.func I.parlkeep5_fails_1) #[] #[(.pointer (some ⟨o1, 0, none⟩)), (.pointer (some ⟨o2, 0, none⟩))])] H (fun rv H' => ∃ (u1 : Value), rv = (.tuple #[u1, (vi r.2)]) ∧ Sat Z V H' [pts o1 (.rw 0 [(vi a1c0)]), pts o2 (.rw 0 [(vi a1c1)]), It.sl Sh.int u1 r.1]) := by
  unfold P.shrink_Word__parlkeep5_fails_1 at e
  refine f_mk nd.own ?_
  refine c_sr ?_
  refine o_mv (v := (.slice none 0 0)) rfl ?_
  refine o_mv (v := (vi 0)) rfl ?_
  refine c_nil ?_
  refine c_sq ?_
  refine c_sr ?_
  refine o_mv (v := v1) rfl ?_
  refine o_len rfl (hp1).len ?_
  refine o_gtr rfl rfl ?_
  refine c_nil ?_
  refine c_ifd rfl (fun q1 => ?_) (fun q1 => ?_)
  · replace e := if_t q1 e
    refine c_sr ?_
    refine o_mv (v := (.slice none 0 0)) rfl ?_
    refine o_mv (v := (vi 2)) rfl ?_
    refine c_nil ?_
    refine c_rt ?_
    obtain rfl := Option.some.inj e
    exact ⟨.inr rfl, _, (ar2 rfl rfl), _, rfl, ((hs.push (sl_nil (s := Sh.int))).pick [1, 2, 0] rfl)⟩
  replace e := if_f q1 e
  refine c_sk ?_
  refine c_sq ?_
  refine c_sr ?_
  refine o_mv (v := (.func (.func I.parlkeep5_fails_1) #[] #[(.pointer (some ⟨o1, 0, none⟩)), (.pointer (some ⟨o2, 0, none⟩))])) rfl ?_
  refine o_mv (v := v1) rfl ?_
  refine o_mv (v := v1) rfl ?_
  refine o_len rfl (hp1).len ?_
  obtain ⟨x1, q2, e⟩ := Pu.bind_some e
  obtain ⟨Z1, V1, W1, g1, u1, c1, c2, -, c4, c3⟩ := Sat.call (l1 := []) hs
  refine o_call (mc rfl (mc rfl m0)) (X.shrink_without nd.shrink_without c1 (hp1.mono (g1.v.trans u1)) q2) fun w1 H1 i1 => ?_
  obtain ⟨_, rfl, s1⟩ := i1
  have s2 := c3 _ _ s1
  obtain ⟨x2, q3, e⟩ := Pu.bind_some e
  obtain ⟨Z2, V2, W2, g2, u2, c5, c6, -, c8, c7⟩ := Sat.call (l1 := [pts o1 (.rw 0 [(vi a1c0)]), pts o2 (.rw 0 [(vi a1c1)])]) (l2 := [It.sl Sh.int w1 x1]) (s2.pick [1, 2, 0] rfl)
  refine o_callv rfl (mc rfl m0) (X.parlkeep5_fails_1 nd.parlkeep5_fails_1 (a1 := a1c0) (a2 := a1c1) c5 (c6 0 _ Sh.int _ _ rfl) q3) fun _ H2 i2 => ?_
  obtain ⟨rfl, s3⟩ := i2
  have s4 := c7 _ _ s3
  refine o_not rfl ?_
  refine c_nil ?_
  refine c_gen (P := fun tm => tm 0 = v1 ∧ tm 1 = (.func (.func I.parlkeep5_fails_1) #[] #[(.pointer (some ⟨o1, 0, none⟩)), (.pointer (some ⟨o2, 0, none⟩))]) ∧ tm 17 = (.bool (!x2)) ∧ True) ⟨rfl, rfl, rfl, trivial⟩ ?_
  intro _ i3
  obtain ⟨h1, h2, h3, -⟩ := i3
  refine c_if h3 (fun q4 => ?_) (fun q4 => ?_)
  · replace e := if_t q4 e
    refine c_sr ?_
    refine o_mv (v := (.slice none 0 0)) rfl ?_
    refine o_mv (v := (vi 7)) rfl ?_
    refine c_nil ?_
    refine c_rt ?_
    obtain rfl := Option.some.inj e
    exact ⟨.inr rfl, _, (ar2 rfl rfl), _, rfl, (((s4.push (sl_nil (s := Sh.int))).pick [1, 2, 0] rfl).weak (g1.trans g2) hs.zv)⟩
  replace e := ib_f q4 e
  refine c_sk ?_
  refine c_sr ?_
  refine o_mv (v := v1) h1 ?_
  refine o_mv (v := v1) h1 ?_
  refine o_len rfl ((hp1.mono (g1.trans g2).v)).len ?_
  obtain ⟨x3, q5, e⟩ := Pu.bind_some e
  obtain ⟨Z3, V3, W3, g3, u3, c9, c10, -, c12, c11⟩ := Sat.call (l1 := []) s4
  refine o_call (mc rfl (mc rfl m0)) (X.shrink_without nd.shrink_without c9 (hp1.mono (((g1.trans g2).trans g3).v.trans u3)) q5) fun w2 H3 i4 => ?_
  obtain ⟨_, rfl, s5⟩ := i4
  have s6 := c11 _ _ s5
  refine o_mv (v := w2) rfl ?_
  refine c_nil ?_
  refine c_sq ?_
  refine c_sr ?_
  refine o_mv (v := (vi 0)) rfl ?_
  refine c_nil ?_
  obtain ⟨y1, q8, e⟩ := Pu.bind_some e
  refine c_jn (I := fun tm H => ∃ (s9 : ((List Int) × Int)), y1 = .out s9 ∧ (∃ (Z5 V5 : PH) (w4 : Value), Gw Z3 V3 Z5 V5 ∧ Sat Z5 V5 H [pts o1 (.rw 0 [(vi a1c0)]), pts o2 (.rw 0 [(vi a1c1)]), It.sl Sh.int w4 s9.1] ∧ tm 0 = w4 ∧ tm 1 = (.func (.func I.parlkeep5_fails_1) #[] #[(.pointer (some ⟨o1, 0, none⟩)), (.pointer (some ⟨o2, 0, none⟩))]) ∧ tm 6 = (vi s9.2))) (fun k4 => ?_) ?_
  · refine c_bk ?_
    refine l_whl (fun (s7 : ((List Int) × Int)) tm H => ∃ (Z4 V4 : PH) (w3 : Value), Gw Z3 V3 Z4 V4 ∧ Sat Z4 V4 H [pts o1 (.rw 0 [(vi a1c0)]), pts o2 (.rw 0 [(vi a1c1)]), It.sl Sh.int w3 s7.1] ∧ tm 0 = w3 ∧ tm 1 = (.func (.func I.parlkeep5_fails_1) #[] #[(.pointer (some ⟨o1, 0, none⟩)), (.pointer (some ⟨o2, 0, none⟩))]) ∧ tm 6 = (vi s7.2)) (fun s7 y2 tm H5 j1 e1 k1 k2 k3 => ?_) q8 ⟨_, _, _, Gw.refl _ _, (s6.pick [1, 2, 0] rfl), rfl, h2, rfl⟩
    obtain ⟨Z4, V4, w3, g4, s8, h4, h5, h6⟩ := j1
    unfold P.shrink_Word__parlkeep5_fails_1.b0 at e1
    refine c_sq ?_
    refine c_sr ?_
    refine o_mv (v := (vi s7.2)) h6 ?_
    refine o_mv (v := w3) h4 ?_
    refine o_len rfl ((s8.curS (s := Sh.int) 2 rfl)).len ?_
    refine o_lss rfl rfl ?_
    refine c_nil ?_
    refine c_ifd rfl (fun q9 => ?_) (fun q9 => ?_)
    · replace e1 := if_t q9 e1
      refine c_sk ?_
      refine c_bk ?_
      refine c_sr ?_
      refine o_mv (v := w3) h4 ?_
      refine o_mv (v := (vi s7.2)) h6 ?_
      obtain ⟨x5, q10, e1⟩ := Pu.bind_some e1
      obtain ⟨Z6, V6, W4, g6, u4, c13, c14, -, c16, c15⟩ := Sat.call (l1 := []) s8
      refine o_call (mc rfl (mc rfl m0)) (X.shrink_without nd.shrink_without c13 (c14 2 _ Sh.int _ _ rfl) q10) fun w5 H7 i6 => ?_
      obtain ⟨_, rfl, s11⟩ := i6
      have s12 := c15 _ _ s11
      refine o_mv (v := w5) rfl ?_
      refine c_nil ?_
      refine c_sr ?_
      refine o_mv (v := (.func (.func I.parlkeep5_fails_1) #[] #[(.pointer (some ⟨o1, 0, none⟩)), (.pointer (some ⟨o2, 0, none⟩))])) h5 ?_
      refine o_mv (v := w5) rfl ?_
      refine o_mv (v := w5) rfl ?_
      refine o_len rfl ((s12.curS (s := Sh.int) 0 rfl)).len ?_
      obtain ⟨x6, q11, e1⟩ := Pu.bind_some e1
      obtain ⟨Z7, V7, W5, g7, u5, c17, c18, -, c20, c19⟩ := Sat.call (l1 := []) s12
      refine o_call (mc rfl (mc rfl m0)) (X.shrink_without nd.shrink_without c17 (c18 0 _ Sh.int _ _ rfl) q11) fun w6 H8 i7 => ?_
      obtain ⟨_, rfl, s13⟩ := i7
      have s14 := c19 _ _ s13
      obtain ⟨x7, q12, e1⟩ := Pu.bind_some e1
      obtain ⟨Z8, V8, W6, g8, u6, c21, c22, -, c24, c23⟩ := Sat.call (l1 := [pts o1 (.rw 0 [(vi a1c0)]), pts o2 (.rw 0 [(vi a1c1)])]) (l2 := [It.sl Sh.int w6 x6, It.sl Sh.int w5 x5, It.sl Sh.int w3 s7.1]) (s14.pick [2, 3, 0, 1, 4] rfl)
      refine o_callv rfl (mc rfl m0) (X.parlkeep5_fails_1 nd.parlkeep5_fails_1 (a1 := a1c0) (a2 := a1c1) c21 (c22 0 _ Sh.int _ _ rfl) q12) fun _ H9 i8 => ?_
      obtain ⟨rfl, s15⟩ := i8
      have s16 := c23 _ _ s15
      refine c_nil ?_
      refine c_gen (P := fun tm => tm 0 = w3 ∧ tm 1 = (.func (.func I.parlkeep5_fails_1) #[] #[(.pointer (some ⟨o1, 0, none⟩)), (.pointer (some ⟨o2, 0, none⟩))]) ∧ tm 6 = (vi s7.2) ∧ tm 7 = w5 ∧ tm 34 = (.bool x7) ∧ True) ⟨h4, h5, h6, rfl, rfl, trivial⟩ ?_
      intro _ i9
      obtain ⟨h10, h11, h12, h13, h14, -⟩ := i9
      obtain ⟨y3, e2, e1⟩ := Pu.bind_some e1
      refine c_jn (I := fun tm H => ∃ (Z9 V9 : PH) (w7 : Value), Gw Z8 V8 Z9 V9 ∧ Sat Z9 V9 H [pts o1 (.rw 0 [(vi a1c0)]), pts o2 (.rw 0 [(vi a1c1)]), It.sl Sh.int w7 y3.1] ∧ tm 0 = w7 ∧ tm 1 = (.func (.func I.parlkeep5_fails_1) #[] #[(.pointer (some ⟨o1, 0, none⟩)), (.pointer (some ⟨o2, 0, none⟩))]) ∧ tm 6 = (vi y3.2)) (fun k5 => ?_) ?_
      · refine c_if h14 (fun q13 => ?_) (fun q13 => ?_)
        · replace e2 := if_t q13 e2
          refine c_r ?_
          refine o_mv (v := w5) h13 ?_
          refine o_mv (v := w5) rfl ?_
          refine o_mv (v := (vi 0)) rfl ?_
          refine c_nil ?_
          obtain rfl := Option.some.inj e2
          exact k5 _ _ ⟨_, _, _, Gw.refl _ _, (s16.pick [0, 1, 3] rfl), rfl, h11, rfl⟩
        replace e2 := ib_f q13 e2
        refine c_r ?_
        refine o_mv (v := (vi s7.2)) h12 ?_
        refine o_add rfl rfl ?_
        refine o_mv (v := (vi (Pu.W (s7.2 + 1)))) rfl ?_
        refine c_nil ?_
        obtain rfl := Option.some.inj e2
        exact k5 _ _ ⟨_, _, _, Gw.refl _ _, (s16.pick [0, 1, 4] rfl), h10, h11, rfl⟩
      intro _ H10 i10
      obtain ⟨Z9, V9, w7, g9, s17, h15, h16, h17⟩ := i10
      refine c_end ?_
      exact k1 _ _ _ (Option.some.inj e1).symm ⟨_, _, _, (g4.trans (g6.trans (g7.trans (g8.trans g9)))), s17, h15, h16, h17⟩
    replace e1 := if_f q9 e1
    refine c_ex ?_
    refine e_c ?_
    refine e_c ?_
    refine e_h ?_
    exact k4 _ _ ⟨_, k2 _ (Option.some.inj e1).symm, _, _, _, g4, s8, h4, h5, h6⟩
  intro _ H6 i11
  obtain ⟨s9, f1, Z5, V5, w4, g5, s10, h7, h8, h9⟩ := i11
  replace e := fin_o f1 e
  refine c_sr ?_
  refine o_mv (v := w4) h7 ?_
  refine o_mv (v := w4) rfl ?_
  refine o_mv (v := (vi 0)) rfl ?_
  refine c_nil ?_
  refine c_rt ?_
  obtain rfl := Option.some.inj e
  exact ⟨.inr rfl, _, (ar2 rfl rfl), _, rfl, (s10.weak (g1.trans (g2.trans (g3.trans g5))) hs.zv)⟩
/-! parlkeep5_ShrinkLeast -/
structure Nd.parlkeep5_ShrinkLeast (T : FuncId → Option AFunc) : Prop where
  own : Has T I.parlkeep5_ShrinkLeast F.parlkeep5_ShrinkLeast
  parlmake_Word : Nd.parlmake_Word T
  shrink_Word__parlkeep5_ShrinkLeast_1 : Nd.shrink_Word__parlkeep5_ShrinkLeast_1 T
  slices_Equal_int_int : Nd.slices_Equal_int_int T
  parlkeep5_fails : Nd.parlkeep5_fails T
  shrink_Word__parlkeep5_fails_1 : Nd.shrink_Word__parlkeep5_fails_1 T
  parlkeep5_fails_1 : Nd.parlkeep5_fails_1 T
  slices_Concat_int_int : Nd.slices_Concat_int_int T
set_option maxHeartbeats 1000000 in
theorem X.parlkeep5_ShrinkLeast {T : FuncId → Option AFunc} (nd : Nd.parlkeep5_ShrinkLeast T) {φ : Nat} {Z V : PH} {H : Hp} {v1 : Value} {a0 : (List Int)} {a1 : Int} {a2 : Int} (hs : Sat Z V H []) (hp1 : RdS Sh.int V v1 a0) {r : Bool} (e : P.parlkeep5_ShrinkLeast φ a0 a1 a2 = some r) :
    G T I.parlkeep5_ShrinkLeast [v1, (vi a1), (vi a2)] H (fun rv H' => rv = (.bool r) ∧ Sat Z V H' []) := by
  unfold P.parlkeep5_ShrinkLeast at e
  refine f_mk nd.own ?_
  refine c_sr ?_
  refine o_mv (v := (.bool false)) rfl ?_
  refine c_nil ?_
  refine c_sr ?_
  refine o_mv (v := v1) rfl ?_
  obtain ⟨x1, q1, e⟩ := Pu.bind_some e
  obtain ⟨Z1, V1, W1, g1, u1, c1, c2, -, c4, c3⟩ := Sat.call (l1 := []) hs
  refine o_call (mc rfl (mc rfl (mc rfl m0))) (X.parlmake_Word nd.parlmake_Word c1 (hp1.mono (g1.v.trans u1)) q1) fun w1 H1 i1 => ?_
  obtain ⟨_, rfl, s1⟩ := i1
  have s2 := c3 _ _ s1
  refine o_mv (v := w1) rfl ?_
  refine c_nil ?_
  refine c_sq ?_
  refine c_sr ?_
  refine o_bsl (s := Sh.int) (us := [(vi 1), (vi 2)]) (qs := [(0, 1, (vi 1)), (1, 1, (vi 2))]) (xs := [1, 2]) s2 Sh.flat_lt rfl rfl rfl (Els.cons (c := [(vi 1)]) rfl (Els.cons (c := [(vi 2)]) rfl Els.nil)) rfl rfl fun w2 H2 s3 => ?_
  obtain ⟨x2, q2, e⟩ := Pu.bind_some e
  obtain ⟨Z2, V2, W2, g2, u2, c5, c6, -, c8, c7⟩ := Sat.call (l1 := []) s3
  refine o_call (mc rfl (mc rfl m0)) (X.shrink_Word__parlkeep5_ShrinkLeast_1 nd.shrink_Word__parlkeep5_ShrinkLeast_1 c5 (c6 0 _ Sh.int _ _ rfl) q2) fun _ H3 i2 => ?_
  obtain ⟨w3, rfl, s4⟩ := i2
  have s5 := c7 _ _ s4
  refine o_mv (v := (.tuple #[w3, (vi x2.2)])) rfl ?_
  refine o_ext rfl rfl ?_
  refine o_ext rfl rfl ?_
  refine o_mv (v := w3) rfl ?_
  refine o_mv (v := (vi x2.2)) rfl ?_
  refine c_nil ?_
  refine c_gen (P := fun tm => tm 0 = w1 ∧ tm 1 = (vi a1) ∧ tm 2 = (vi a2) ∧ tm 7 = w3 ∧ tm 8 = (vi x2.2) ∧ True) ⟨rfl, rfl, rfl, rfl, rfl, trivial⟩ ?_
  intro _ i3
  obtain ⟨h1, h2, h3, h4, h5, -⟩ := i3
  refine c_sr ?_
  refine o_mv (v := (vi x2.2)) h5 ?_
  refine o_neq rfl rfl ?_
  refine o_mv (v := (.bool (decide (x2.2 ≠ 0)))) rfl ?_
  obtain ⟨y1, e1, e⟩ := Pu.bind_some e
  refine o_jn 5 (I := fun tm H => ∃ (Z3 V3 : PH), Gw Z2 V2 Z3 V3 ∧ Sat Z3 V3 H [It.sl Sh.int w1 x1] ∧ tm 0 = w1 ∧ tm 1 = (vi a1) ∧ tm 2 = (vi a2) ∧ tm 30 = (.bool y1)) (fun k1 => ?_) ?_
  · rcases Bool.eq_false_or_eq_true (decide (x2.2 ≠ 0)) with q3 | q3
    · replace e1 := if_t q3 e1
      refine o_gn rfl q3 ?_
      refine o_gn rfl q3 ?_
      refine o_gn rfl q3 ?_
      refine o_gn rfl q3 ?_
      refine o_pickt (a := (.bool true)) rfl q3 rfl ?_
      obtain rfl := Option.some.inj e1
      exact k1 _ _ ⟨_, _, Gw.refl _ _, (s5.pick [2] rfl), h1, h2, h3, rfl⟩
    replace e1 := ib_f q3 e1
    refine o_gy rfl q3 ?_
    refine o_mv (v := w3) h4 ?_
    refine o_gy rfl q3 ?_
    refine o_bsl (s := Sh.int) (us := [(vi 2)]) (qs := [(0, 1, (vi 2))]) (xs := [2]) s5 Sh.flat_lt rfl rfl rfl (Els.cons (c := [(vi 2)]) rfl Els.nil) rfl rfl fun w4 H5 s7 => ?_
    refine o_gy rfl q3 ?_
    obtain ⟨x3, q4, e1⟩ := Pu.bind_some e1
    obtain ⟨Z4, V4, W3, g4, u3, c9, c10, -, c12, c11⟩ := Sat.call (l1 := []) s7
    refine o_call (mc rfl (mc rfl m0)) (X.slices_Equal_int_int nd.slices_Equal_int_int c9 (c10 1 _ Sh.int _ _ rfl) (c10 0 _ Sh.int _ _ rfl) q4) fun _ H6 i4 => ?_
    obtain ⟨rfl, s8⟩ := i4
    have s9 := c11 _ _ s8
    refine o_gy rfl q3 ?_
    refine o_not rfl ?_
    refine o_pickf (b := (.bool (!x3))) rfl q3 rfl ?_
    obtain rfl := Option.some.inj e1
    exact k1 _ _ ⟨_, _, g4, (s9.pick [3] rfl), h1, h2, h3, rfl⟩
  intro _ H4 i5
  obtain ⟨Z3, V3, g3, s6, h6, h7, h8, h9⟩ := i5
  refine c_nil ?_
  refine c_if h9 (fun q5 => ?_) (fun q5 => ?_)
  · replace e := if_t q5 e
    refine c_sr ?_
    refine o_mv (v := (.bool false)) rfl ?_
    refine c_nil ?_
    refine c_rt ?_
    obtain rfl := Option.some.inj e
    exact ⟨.inr rfl, _, (ar1 rfl), rfl, ((s6.pick [] rfl).weak (g1.trans (g2.trans g3)) hs.zv)⟩
  replace e := ib_f q5 e
  refine c_sk ?_
  refine c_sr ?_
  refine o_mv (v := (vi a1)) h7 ?_
  refine o_mv (v := (vi a2)) h8 ?_
  obtain ⟨x4, q6, e⟩ := Pu.bind_some e
  obtain ⟨Z5, V5, W4, g5, u4, c13, c14, -, c16, c15⟩ := Sat.call (l1 := []) s6
  refine o_call (mc rfl (mc rfl m0)) (X.parlkeep5_fails nd.parlkeep5_fails c13 q6) fun _ H7 i6 => ?_
  obtain ⟨b1, b2, rfl, s10⟩ := i6
  have s11 := c15 _ _ s10
  refine o_mv (v := (.func (.func I.parlkeep5_fails_1) #[] #[(.pointer (some ⟨b1, 0, none⟩)), (.pointer (some ⟨b2, 0, none⟩))])) rfl ?_
  refine c_nil ?_
  refine c_sr ?_
  refine o_mv (v := w1) h6 ?_
  refine o_mv (v := (.func (.func I.parlkeep5_fails_1) #[] #[(.pointer (some ⟨b1, 0, none⟩)), (.pointer (some ⟨b2, 0, none⟩))])) rfl ?_
  obtain ⟨x5, q7, e⟩ := Pu.bind_some e
  obtain ⟨Z6, V6, W5, g6, u5, c17, c18, -, c20, c19⟩ := Sat.call (l1 := [pts b1 (.rw 0 [(vi x4.1)]), pts b2 (.rw 0 [(vi x4.2)])]) (l2 := [It.sl Sh.int w1 x1]) s11
  refine o_call (mc rfl (mc rfl m0)) (X.shrink_Word__parlkeep5_fails_1 nd.shrink_Word__parlkeep5_fails_1 (a1c0 := x4.1) (a1c1 := x4.2) c17 (c18 0 _ Sh.int _ _ rfl) q7) fun _ H8 i7 => ?_
  obtain ⟨w5, rfl, s12⟩ := i7
  have s13 := c19 _ _ s12
  refine o_mv (v := (.tuple #[w5, (vi x5.2)])) rfl ?_
  refine o_ext rfl rfl ?_
  refine o_ext rfl rfl ?_
  refine o_mv (v := w5) rfl ?_
  refine o_mv (v := (vi x5.2)) rfl ?_
  refine c_nil ?_
  refine c_gen (P := fun tm => tm 0 = w1 ∧ tm 9 = (.func (.func I.parlkeep5_fails_1) #[] #[(.pointer (some ⟨b1, 0, none⟩)), (.pointer (some ⟨b2, 0, none⟩))]) ∧ tm 10 = w5 ∧ tm 11 = (vi x5.2) ∧ True) ⟨h6, rfl, rfl, rfl, trivial⟩ ?_
  intro _ i8
  obtain ⟨h10, h11, h12, h13, -⟩ := i8
  refine c_sq ?_
  refine c_sr ?_
  refine o_mv (v := (.func (.func I.parlkeep5_fails_1) #[] #[(.pointer (some ⟨b1, 0, none⟩)), (.pointer (some ⟨b2, 0, none⟩))])) h11 ?_
  refine o_mv (v := w1) h10 ?_
  obtain ⟨x6, q8, e⟩ := Pu.bind_some e
  obtain ⟨Z7, V7, W6, g7, u6, c21, c22, -, c24, c23⟩ := Sat.call (l1 := [pts b1 (.rw 0 [(vi x4.1)]), pts b2 (.rw 0 [(vi x4.2)])]) (l2 := [It.sl Sh.int w5 x5.1, It.sl Sh.int w1 x1]) s13
  refine o_callv rfl (mc rfl m0) (X.parlkeep5_fails_1 nd.parlkeep5_fails_1 (a1 := x4.1) (a2 := x4.2) c21 (c22 1 _ Sh.int _ _ rfl) q8) fun _ H9 i9 => ?_
  obtain ⟨rfl, s14⟩ := i9
  have s15 := c23 _ _ s14
  refine o_not rfl ?_
  refine c_nil ?_
  refine c_if rfl (fun q9 => ?_) (fun q9 => ?_)
  · replace e := if_t q9 e
    refine c_sr ?_
    refine o_mv (v := (vi x5.2)) h13 ?_
    refine o_eql rfl rfl ?_
    refine o_mv (v := (.bool (decide (x5.2 = 7)))) rfl ?_
    refine c_nil ?_
    refine c_rt ?_
    obtain rfl := Option.some.inj e
    exact ⟨.inr rfl, _, (ar1 rfl), rfl, ((s15.pick [] rfl).weak (g1.trans (g2.trans (g3.trans (g5.trans (g6.trans g7))))) hs.zv)⟩
  replace e := ib_f q9 e
  refine c_sk ?_
  refine c_sq ?_
  refine c_sr ?_
  refine o_mv (v := (vi x5.2)) h13 ?_
  refine o_neq rfl rfl ?_
  refine o_mv (v := (.bool (decide (x5.2 ≠ 0)))) rfl ?_
  obtain ⟨y2, e2, e⟩ := Pu.bind_some e
  refine o_jn 5 (I := fun tm H => ∃ (Z8 V8 : PH), Gw Z7 V7 Z8 V8 ∧ Sat Z8 V8 H [It.sl Sh.int w1 x1, pts b1 (.rw 0 [(vi x4.1)]), pts b2 (.rw 0 [(vi x4.2)]), It.sl Sh.int w5 x5.1] ∧ tm 0 = w1 ∧ tm 9 = (.func (.func I.parlkeep5_fails_1) #[] #[(.pointer (some ⟨b1, 0, none⟩)), (.pointer (some ⟨b2, 0, none⟩))]) ∧ tm 10 = w5 ∧ tm 53 = (.bool y2)) (fun k2 => ?_) ?_
  · rcases Bool.eq_false_or_eq_true (decide (x5.2 ≠ 0)) with q10 | q10
    · replace e2 := if_t q10 e2
      refine o_gn rfl q10 ?_
      refine o_gn rfl q10 ?_
      refine o_gn rfl q10 ?_
      refine o_gn rfl q10 ?_
      refine o_pickt (a := (.bool true)) rfl q10 rfl ?_
      obtain rfl := Option.some.inj e2
      exact k2 _ _ ⟨_, _, Gw.refl _ _, (s15.pick [3, 0, 1, 2] rfl), h10, h11, h12, rfl⟩
    replace e2 := ib_f q10 e2
    refine o_gy rfl q10 ?_
    refine o_mv (v := (.func (.func I.parlkeep5_fails_1) #[] #[(.pointer (some ⟨b1, 0, none⟩)), (.pointer (some ⟨b2, 0, none⟩))])) h11 ?_
    refine o_gy rfl q10 ?_
    refine o_mv (v := w5) h12 ?_
    refine o_gy rfl q10 ?_
    obtain ⟨x7, q11, e2⟩ := Pu.bind_some e2
    obtain ⟨Z9, V9, W7, g9, u7, c25, c26, -, c28, c27⟩ := Sat.call (l1 := [pts b1 (.rw 0 [(vi x4.1)]), pts b2 (.rw 0 [(vi x4.2)])]) (l2 := [It.sl Sh.int w5 x5.1, It.sl Sh.int w1 x1]) s15
    refine o_callv rfl (mc rfl m0) (X.parlkeep5_fails_1 nd.parlkeep5_fails_1 (a1 := x4.1) (a2 := x4.2) c25 (c26 0 _ Sh.int _ _ rfl) q11) fun _ H11 i10 => ?_
    obtain ⟨rfl, s17⟩ := i10
    have s18 := c27 _ _ s17
    refine o_gy rfl q10 ?_
    refine o_not rfl ?_
    refine o_pickf (b := (.bool (!x7))) rfl q10 rfl ?_
    obtain rfl := Option.some.inj e2
    exact k2 _ _ ⟨_, _, g9, (s18.pick [3, 0, 1, 2] rfl), h10, h11, h12, rfl⟩
  intro _ H10 i11
  obtain ⟨Z8, V8, g8, s16, h14, h15, h16, h17⟩ := i11
  refine c_nil ?_
  refine c_if h17 (fun q12 => ?_) (fun q12 => ?_)
  · replace e := if_t q12 e
    refine c_sr ?_
    refine o_mv (v := (.bool false)) rfl ?_
    refine c_nil ?_
    refine c_rt ?_
    obtain rfl := Option.some.inj e
    exact ⟨.inr rfl, _, (ar1 rfl), rfl, ((s16.pick [] rfl).weak (g1.trans (g2.trans (g3.trans (g5.trans (g6.trans (g7.trans g8)))))) hs.zv)⟩
  replace e := ib_f q12 e
  refine c_sk ?_
  refine c_sr ?_
  refine o_mv (v := (vi 0)) rfl ?_
  refine c_nil ?_
  refine c_sq ?_
  refine c_sr ?_
  refine o_mv (v := w1) h14 ?_
  refine o_len rfl ((s16.curS (s := Sh.int) 0 rfl)).len ?_
  refine o_mv (v := (vi 0)) rfl ?_
  refine c_nil ?_
  obtain ⟨y3, q15, e⟩ := Pu.bind_some e
  refine c_bk ?_
  refine l_forP (xs := x1) (fun (i12 : Nat) (s19 : Int) tm H => tm 56 = vi i12 ∧ ∃ (Z10 V10 : PH), Gw Z8 V8 Z10 V10 ∧ Sat Z10 V10 H [pts b1 (.rw 0 [(vi x4.1)]), pts b2 (.rw 0 [(vi x4.2)]), It.sl Sh.int w5 x5.1, It.sl Sh.int w1 x1] ∧ tm 9 = (.func (.func I.parlkeep5_fails_1) #[] #[(.pointer (some ⟨b1, 0, none⟩)), (.pointer (some ⟨b2, 0, none⟩))]) ∧ tm 10 = w5 ∧ tm 12 = (vi s19) ∧ tm 54 = w1 ∧ tm 55 = (vi (x1.length : Int))) (fun i12 x8 s19 s21 tm H13 q13 q14 j1 e3 k3 => ?_) (fun tm H12 jd => ?_) q15 ⟨rfl, _, _, Gw.refl _ _, (s16.pick [1, 2, 3, 0] rfl), h15, h16, rfl, rfl, rfl⟩
  · obtain ⟨hti0, Z10, V10, g10, s20, h18, h19, h20, h21, h22⟩ := j1
    unfold P.parlkeep5_ShrinkLeast.b0 at e3
    refine c_sr ?_
    refine o_lss hti0 h22 ?_
    refine c_nil ?_
    refine c_sq ?_
    refine c_ift rfl (Int.ofNat_lt.2 q14) ?_
    refine c_sk ?_
    refine c_sq ?_
    refine c_bk ?_
    refine c_sr ?_
    refine o_idx (v := w1) h21 hti0 (s20.curS (s := Sh.int) 3 rfl) rfl (Pu.ix_nat.trans q13) fun p1 q16 => ?_
    refine o_ldi rfl (s20.curS (s := Sh.int) 3 rfl) (PH.le.refl _) q16 (Pu.ix_nat.trans q13) ?_
    refine o_mv (v := (vi x8)) rfl ?_
    refine c_nil ?_
    refine c_sr ?_
    refine o_mv (v := (vi s19)) h20 ?_
    refine o_mv (v := w5) h19 ?_
    refine o_len rfl ((s20.curS (s := Sh.int) 2 rfl)).len ?_
    refine o_lss rfl rfl ?_
    refine o_mv (v := (.bool (decide (s19 < (x5.1.length : Int))))) rfl ?_
    obtain ⟨y4, e4, e3⟩ := Pu.bind_some e3
    refine o_jn 7 (I := fun tm H => ∃ (Z11 V11 : PH), Gw Z10 V10 Z11 V11 ∧ Sat Z11 V11 H [pts b1 (.rw 0 [(vi x4.1)]), pts b2 (.rw 0 [(vi x4.2)]), It.sl Sh.int w5 x5.1, It.sl Sh.int w1 x1] ∧ tm 9 = (.func (.func I.parlkeep5_fails_1) #[] #[(.pointer (some ⟨b1, 0, none⟩)), (.pointer (some ⟨b2, 0, none⟩))]) ∧ tm 10 = w5 ∧ tm 12 = (vi s19) ∧ tm 54 = w1 ∧ tm 55 = (vi (x1.length : Int)) ∧ tm 56 = (vi (i12 : Int)) ∧ tm 71 = (.bool y4)) (fun k4 => ?_) ?_
    · rcases Bool.eq_false_or_eq_true (decide (s19 < (x5.1.length : Int))) with q17 | q17
      · replace e4 := if_t q17 e4
        refine o_gy rfl q17 ?_
        refine o_mv (v := w5) h19 ?_
        refine o_gy rfl q17 ?_
        refine o_mv (v := (vi s19)) h20 ?_
        refine o_gy rfl q17 ?_
        obtain ⟨x9, q18, e4⟩ := Pu.bind_some e4
        refine o_idx (v := w5) rfl rfl (s20.curS (s := Sh.int) 2 rfl) rfl q18 fun p2 q19 => ?_
        refine o_gy rfl q17 ?_
        refine o_ldi rfl (s20.curS (s := Sh.int) 2 rfl) (PH.le.refl _) q19 q18 ?_
        refine o_gy rfl q17 ?_
        refine o_mv (v := (vi x8)) rfl ?_
        refine o_gy rfl q17 ?_
        refine o_eql rfl rfl ?_
        refine o_pickt (a := (.bool (decide (x9 = x8)))) rfl q17 rfl ?_
        obtain rfl := Option.some.inj e4
        exact k4 _ _ ⟨_, _, Gw.refl _ _, s20, h18, h19, h20, h21, h22, hti0, rfl⟩
      replace e4 := ib_f q17 e4
      refine o_gn rfl q17 ?_
      refine o_gn rfl q17 ?_
      refine o_gn rfl q17 ?_
      refine o_gn rfl q17 ?_
      refine o_gn rfl q17 ?_
      refine o_gn rfl q17 ?_
      refine o_pickf (b := (.bool false)) rfl q17 rfl ?_
      obtain rfl := Option.some.inj e4
      exact k4 _ _ ⟨_, _, Gw.refl _ _, s20, h18, h19, h20, h21, h22, hti0, rfl⟩
    intro _ H14 i13
    obtain ⟨Z11, V11, g11, s22, h23, h24, h25, h26, h27, h28, h29⟩ := i13
    refine c_nil ?_
    obtain ⟨y5, e5, e3⟩ := Pu.bind_some e3
    refine c_jn (I := fun tm H => ∃ (Z12 V12 : PH), Gw Z11 V11 Z12 V12 ∧ Sat Z12 V12 H [pts b1 (.rw 0 [(vi x4.1)]), pts b2 (.rw 0 [(vi x4.2)]), It.sl Sh.int w5 x5.1, It.sl Sh.int w1 x1] ∧ tm 9 = (.func (.func I.parlkeep5_fails_1) #[] #[(.pointer (some ⟨b1, 0, none⟩)), (.pointer (some ⟨b2, 0, none⟩))]) ∧ tm 10 = w5 ∧ tm 12 = (vi y5) ∧ tm 54 = w1 ∧ tm 55 = (vi (x1.length : Int)) ∧ tm 56 = (vi (i12 : Int))) (fun k5 => ?_) ?_
    · refine c_if h29 (fun q20 => ?_) (fun q20 => ?_)
      · replace e5 := if_t q20 e5
        refine c_r ?_
        refine o_mv (v := (vi s19)) h25 ?_
        refine o_add rfl rfl ?_
        refine o_mv (v := (vi (Pu.W (s19 + 1)))) rfl ?_
        refine c_nil ?_
        obtain rfl := Option.some.inj e5
        exact k5 _ _ ⟨_, _, Gw.refl _ _, s22, h23, h24, rfl, h26, h27, h28⟩
      replace e5 := ib_f q20 e5
      refine c_sk ?_
      obtain rfl := Option.some.inj e5
      exact k5 _ _ ⟨_, _, Gw.refl _ _, s22, h23, h24, h25, h26, h27, h28⟩
    intro _ H15 i14
    obtain ⟨Z12, V12, g12, s23, h30, h31, h32, h33, h34, h35⟩ := i14
    refine c_end ?_
    refine c_r ?_
    refine o_add h35 rfl ?_
    refine o_mv (v := (vi (Pu.W ((i12 : Int) + 1)))) rfl ?_
    refine c_nil ?_
    obtain rfl := Option.some.inj e3
    exact k3 _ _ ⟨(iv rfl (w_suc q14 ((s16.curS (s := Sh.int) 0 rfl)).bd)), _, _, (g10.trans (g11.trans g12)), s23, h30, h31, h32, h33, h34⟩
  obtain ⟨hte0, Z13, V13, g13, s24, h36, h37, h38, h39, h40⟩ := jd
  refine c_sr ?_
  refine o_lss hte0 h40 ?_
  refine c_nil ?_
  refine c_sq ?_
  refine c_iff rfl (Int.lt_irrefl _) ?_
  refine c_ex ?_
  refine e_c ?_
  refine e_c ?_
  refine e_h ?_
  refine c_sq ?_
  refine c_sr ?_
  refine o_mv (v := (vi y3)) h38 ?_
  refine o_mv (v := w5) h37 ?_
  refine o_len rfl ((s24.curS (s := Sh.int) 2 rfl)).len ?_
  refine o_neq rfl rfl ?_
  refine c_nil ?_
  refine c_ifd rfl (fun q21 => ?_) (fun q21 => ?_)
  · replace e := if_t q21 e
    refine c_sr ?_
    refine o_mv (v := (.bool false)) rfl ?_
    refine c_nil ?_
    refine c_rt ?_
    obtain rfl := Option.some.inj e
    exact ⟨.inr rfl, _, (ar1 rfl), rfl, ((s24.pick [] rfl).weak (g1.trans (g2.trans (g3.trans (g5.trans (g6.trans (g7.trans (g8.trans g13))))))) hs.zv)⟩
  replace e := if_f q21 e
  refine c_sk ?_
  refine c_sq ?_
  refine c_sr ?_
  refine o_mv (v := w5) h37 ?_
  refine o_len rfl ((s24.curS (s := Sh.int) 2 rfl)).len ?_
  refine o_mv (v := (vi 0)) rfl ?_
  refine c_nil ?_
  obtain ⟨Z14, V14, g14, s25, h41⟩ := s24.frzS 2 rfl
  obtain ⟨x11, q24, e⟩ := Pu.bind_some e
  obtain ⟨rfl, q26⟩ := ranO_some q24
  obtain ⟨y6, q27, e⟩ := Pu.bind_some e
  refine c_jn (I := fun tm H => ∃ (s28 : Unit), y6 = .out s28 ∧ (∃ (Z16 V16 : PH) (w7 : Value), Gw Z14 V14 Z16 V16 ∧ Sat Z16 V16 H [pts b1 (.rw 0 [(vi x4.1)]), pts b2 (.rw 0 [(vi x4.2)])] ∧ tm 9 = (.func (.func I.parlkeep5_fails_1) #[] #[(.pointer (some ⟨b1, 0, none⟩)), (.pointer (some ⟨b2, 0, none⟩))]) ∧ tm 10 = w7 ∧ tm 80 = (vi (x5.1.length : Int)) ∧ RdS Sh.int Z16 w7 x5.1)) (fun k9 => ?_) ?_
  · refine c_bk ?_
    refine l_forL (xs := (Pu.ran (x5.1.length : Int))) (fun (i15 : Nat) (s26 : Unit) tm H => tm 81 = vi i15 ∧ ∃ (Z15 V15 : PH) (w6 : Value), Gw Z14 V14 Z15 V15 ∧ Sat Z15 V15 H [pts b1 (.rw 0 [(vi x4.1)]), pts b2 (.rw 0 [(vi x4.2)])] ∧ tm 9 = (.func (.func I.parlkeep5_fails_1) #[] #[(.pointer (some ⟨b1, 0, none⟩)), (.pointer (some ⟨b2, 0, none⟩))]) ∧ tm 10 = w6 ∧ tm 80 = (vi (x5.1.length : Int)) ∧ RdS Sh.int Z15 w6 x5.1) (fun i15 x10 s26 y7 tm H18 q22 q23 j2 e6 k6 k7 k8 => ?_) (fun s26 tm H17 jf jd => ?_) q27 ⟨rfl, _, _, _, Gw.refl _ _, (s25.pick [0, 1] rfl), h36, h37, rfl, h41⟩
    · obtain ⟨hti1, Z15, V15, w6, g15, s27, h43, h44, h45, h42⟩ := j2
      unfold P.parlkeep5_ShrinkLeast.b1 at e6
      have hti1 := iv hti1 (ran_x q22).symm
      refine c_sr ?_
      refine o_lss hti1 h45 ?_
      refine c_nil ?_
      refine c_sq ?_
      refine c_ift rfl (ran_lt q22) ?_
      refine c_sk ?_
      refine c_sq ?_
      refine c_bk ?_
      refine c_sr ?_
      refine o_mv (v := (vi x10)) hti1 ?_
      refine o_mv (v := (vi x10)) rfl ?_
      refine c_nil ?_
      refine c_sq ?_
      refine d_start s27 fun n1 H20 s30 q28 d1 => ?_
      refine d_mv (v := (.func (.func I.parlkeep5_fails_1) #[] #[(.pointer (some ⟨b1, 0, none⟩)), (.pointer (some ⟨b2, 0, none⟩))])) h43 ?_
      refine d_mv (v := w6) h44 ?_
      refine d_mv (v := (vi x10)) rfl ?_
      obtain ⟨x12, q29, e6⟩ := Pu.bind_some e6
      refine d_slch (RdS.low h42 s30.z q28) rfl rfl h42 s30.z rfl q29 fun w8 h50 => ?_
      refine d_mv (v := w6) h44 ?_
      refine d_mv (v := (vi x10)) rfl ?_
      refine d_add rfl rfl ?_
      obtain ⟨x13, q30, e6⟩ := Pu.bind_some e6
      refine d_slcl (RdS.low h42 s30.z q28) rfl rfl h42 s30.z rfl q30 fun w9 h51 => ?_
      obtain ⟨d2, rfl⟩ := (h50).val
      obtain ⟨d3, rfl⟩ := (h51).val
      refine d_bsl (s := (Sh.ro (Sh.sl Sh.int))) (us := [(.slice d2 x12.length x12.length), (.slice d3 x13.length x13.length)]) (qs := [(0, 1, (.slice d2 x12.length x12.length)), (1, 1, (.slice d3 x13.length x13.length))]) (xs := [x12, x13]) (d1.get 8 rfl rfl) s30 (Sh.ro_lt _) rfl rfl rfl (Els.cons (c := [(.slice d2 x12.length x12.length)]) (sl_ro h50) (Els.cons (c := [(.slice d3 x13.length x13.length)]) (sl_ro h51) Els.nil)) rfl rfl fun w10 H21 s31 k10 => ?_
      have d4 := d1.next 8 rfl k10
      obtain ⟨x14, q31, e6⟩ := Pu.bind_some e6
      obtain ⟨Z17, V17, W8, g17, u8, c29, c30, -, c32, c31⟩ := Sat.call (l1 := []) s31
      refine d_call (mc rfl m0) (X.slices_Concat_int_int nd.slices_Concat_int_int c29 (c30 0 _ (Sh.ro (Sh.sl Sh.int)) _ _ rfl) q31) fun w11 H22 i16 k11 => ?_
      have d5 := d4.keep k11
      obtain ⟨_, rfl, s32⟩ := i16
      have s33 := c31 _ _ s32
      obtain ⟨x15, q32, e6⟩ := Pu.bind_some e6
      obtain ⟨Z18, V18, W9, g18, u9, c33, c34, -, c36, c35⟩ := Sat.call (l1 := [pts b1 (.rw 0 [(vi x4.1)]), pts b2 (.rw 0 [(vi x4.2)])]) (l2 := [It.sl Sh.int w11 x14, It.sl (Sh.ro (Sh.sl Sh.int)) w10 [x12, x13]]) (s33.pick [2, 3, 0, 1] rfl)
      refine d_callv rfl (mc rfl m0) (X.parlkeep5_fails_1 nd.parlkeep5_fails_1 (a1 := x4.1) (a2 := x4.2) c33 (c34 0 _ Sh.int _ _ rfl) q32) fun _ H23 i17 k12 => ?_
      have d6 := d5.keep k12
      obtain ⟨rfl, s34⟩ := i17
      have s35 := c35 _ _ s34
      refine d_nil dc_nil ?_
      refine c_gen (P := fun tm => tm 9 = (.func (.func I.parlkeep5_fails_1) #[] #[(.pointer (some ⟨b1, 0, none⟩)), (.pointer (some ⟨b2, 0, none⟩))]) ∧ tm 10 = w6 ∧ tm 80 = (vi (x5.1.length : Int)) ∧ tm 81 = (vi x10) ∧ tm 94 = (.bool x15) ∧ True) ⟨h43, h44, h45, hti1, rfl, trivial⟩ ?_
      intro _ i18
      obtain ⟨h52, h53, h54, h55, h56, -⟩ := i18
      refine c_if h56 (fun q33 => ?_) (fun q33 => ?_)
      · replace e6 := if_t q33 e6
        refine c_sr ?_
        refine o_mv (v := (.bool false)) rfl ?_
        refine c_nil ?_
        refine c_rt ?_
        have e7 := fin_r (k8 _ (Option.some.inj e6).symm) e
        obtain rfl := Option.some.inj e7
        exact ⟨.inr rfl, _, (ar1 rfl), rfl, ((s35.pick [] rfl).weak (g1.trans (g2.trans (g3.trans (g5.trans (g6.trans (g7.trans (g8.trans (g13.trans (g14.trans (g15.trans (g17.trans g18))))))))))) hs.zv)⟩
      replace e6 := ib_f q33 e6
      refine c_sk ?_
      refine c_end ?_
      refine c_r ?_
      refine o_add h55 rfl ?_
      refine o_mv (v := (vi (Pu.W (x10 + 1)))) rfl ?_
      refine c_nil ?_
      exact k6 _ _ _ (Option.some.inj e6).symm ⟨(iv rfl (w_sucR q22 q26)), _, _, _, (g15.trans (g17.trans g18)), (s35.pick [0, 1] rfl), h52, h53, h54, (h42.mono (g17.trans g18).z)⟩
    · obtain ⟨hte1, Z19, V19, w12, g19, s36, h58, h59, h60, h57⟩ := jd
      refine c_sr ?_
      refine o_lss hte1 h60 ?_
      refine c_nil ?_
      refine c_sq ?_
      refine c_iff rfl (ran_done _) ?_
      refine c_ex ?_
      refine e_c ?_
      refine e_c ?_
      refine e_h ?_
      exact k9 _ _ ⟨_, jf, _, _, _, g19, s36, h58, h59, h60, h57⟩
  intro _ H19 i19
  obtain ⟨s28, f1, Z16, V16, w7, g16, s29, h47, h48, h49, h46⟩ := i19
  replace e := fin_o f1 e
  refine c_sr ?_
  refine o_mv (v := (.bool true)) rfl ?_
  refine c_nil ?_
  refine c_rt ?_
  obtain rfl := Option.some.inj e
  exact ⟨.inr rfl, _, (ar1 rfl), rfl, ((s29.pick [] rfl).weak (g1.trans (g2.trans (g3.trans (g5.trans (g6.trans (g7.trans (g8.trans (g13.trans (g14.trans g16))))))))) hs.zv)⟩
end Go.Proofs.Ytbehlbabgomhfaa
