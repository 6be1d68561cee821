/- The abstract code comes to the plain functions: printed by wip/tools/lift.py. -/
import Derived.Test.YtbehlbabgomhfaaP
import Derived.Test.YtbehlbabgomhfaaGcmp
import Derived.Test.YtbehlbabgomhfaaGparlkeep5
import Derived.Test.YtbehlbabgomhfaaGparlmake
import Derived.Test.YtbehlbabgomhfaaGshrink
import Derived.Test.YtbehlbabgomhfaaGslices
namespace Go.Proofs.Ytbehlbabgomhfaa
open Go Go.Ab
/-! parlmake_Below -/
structure Nd.parlmake_Below (T : FuncId → Option AFunc) : Prop where
  own : Has T I.parlmake_Below F.parlmake_Below
set_option maxHeartbeats 1000000 in
theorem X.parlmake_Below {T : FuncId → Option AFunc} (nd : Nd.parlmake_Below T) {Z V : PH} {H : Hp} {a0 : Int} {a1 : Int} (hs : Sat Z V H []) {r : Int} (e : P.parlmake_Below a0 a1 = some r) :
    G T I.parlmake_Below [(vi a0), (vi a1)] H (fun rv H' => rv = (vi r) ∧ Sat Z V H' []) := by
  unfold P.parlmake_Below at e
  refine f_mk nd.own ?_
  refine c_sr ?_
  refine o_mv (v := (vi 0)) rfl ?_
  refine c_nil ?_
  refine c_sr ?_
  refine o_mv (v := (vi a0)) rfl ?_
  refine o_mv (v := (vi a1)) rfl ?_
  obtain ⟨x1, q1, e⟩ := Pu.bind_some e
  refine o_rem rfl rfl q1 ?_
  refine o_mv (v := (vi x1)) rfl ?_
  refine c_nil ?_
  refine c_sq ?_
  refine c_sr ?_
  refine o_mv (v := (vi x1)) rfl ?_
  refine o_lss rfl rfl ?_
  refine c_nil ?_
  obtain ⟨y1, e1, e⟩ := Pu.bind_some e
  refine c_jn (I := fun tm H => ∃ (Z1 V1 : PH), Gw Z V Z1 V1 ∧ Sat Z1 V1 H [] ∧ tm 0 = (vi y1)) (fun k1 => ?_) ?_
  · refine c_ifd rfl (fun q2 => ?_) (fun q2 => ?_)
    · replace e1 := if_t q2 e1
      refine c_r ?_
      refine o_mv (v := (vi x1)) rfl ?_
      refine o_mv (v := (vi a1)) rfl ?_
      refine o_add rfl rfl ?_
      refine o_mv (v := (vi (Pu.W (x1 + a1)))) rfl ?_
      refine c_nil ?_
      obtain rfl := Option.some.inj e1
      exact k1 _ _ ⟨_, _, Gw.refl _ _, hs, rfl⟩
    replace e1 := if_f q2 e1
    refine c_sk ?_
    obtain rfl := Option.some.inj e1
    exact k1 _ _ ⟨_, _, Gw.refl _ _, hs, rfl⟩
  intro _ H1 i1
  obtain ⟨Z1, V1, g1, s1, h1⟩ := i1
  refine c_sr ?_
  refine o_mv (v := (vi y1)) h1 ?_
  refine o_mv (v := (vi y1)) rfl ?_
  refine c_nil ?_
  refine c_rt ?_
  obtain rfl := Option.some.inj e
  exact ⟨.inr rfl, _, (ar1 rfl), rfl, (s1.weak g1 hs.zv)⟩
/-! parlmake_Word -/
structure Nd.parlmake_Word (T : FuncId → Option AFunc) : Prop where
  own : Has T I.parlmake_Word F.parlmake_Word
  parlmake_Below : Nd.parlmake_Below T
set_option maxHeartbeats 1000000 in
theorem X.parlmake_Word {T : FuncId → Option AFunc} (nd : Nd.parlmake_Word T) {Z V : PH} {H : Hp} {v1 : Value} {a0 : Int} {a1 : Int} {a2 : (List Int)} (hs : Sat Z V H []) (hp1 : RdS Sh.int V v1 a2) {r : (List Int)} (e : P.parlmake_Word a0 a1 a2 = some r) :
    G T I.parlmake_Word [(vi a0), (vi a1), v1] H (fun rv H' => ∃ (u1 : Value), rv = u1 ∧ Sat Z V H' [It.sl Sh.int u1 r]) := by
  unfold P.parlmake_Word at e
  refine f_mk nd.own ?_
  refine c_sr ?_
  refine o_mv (v := (.slice none 0 0)) rfl ?_
  refine c_nil ?_
  refine c_sr ?_
  refine o_mv (v := (.slice none 0 0)) rfl ?_
  refine c_nil ?_
  refine c_sq ?_
  refine c_sr ?_
  refine o_mv (v := v1) rfl ?_
  refine o_len rfl (hp1).len ?_
  refine o_mv (v := (vi 0)) rfl ?_
  refine c_nil ?_
  obtain ⟨y1, q3, e⟩ := Pu.bind_some e
  refine c_jn (I := fun tm H => ∃ (s3 : (List Int)), y1 = .out s3 ∧ (∃ (Z2 V2 : PH) (w2 : Value), Gw Z V Z2 V2 ∧ Sat Z2 V2 H [It.sl Sh.int w2 s3] ∧ tm 0 = (vi a0) ∧ tm 1 = (vi a1) ∧ tm 7 = w2 ∧ tm 10 = v1 ∧ tm 11 = (vi (a2.length : Int)))) (fun k4 => ?_) ?_
  · refine c_bk ?_
    refine l_forL (xs := a2) (fun (i1 : Nat) (s1 : (List Int)) tm H => tm 12 = vi i1 ∧ ∃ (Z1 V1 : PH) (w1 : Value), Gw Z V Z1 V1 ∧ Sat Z1 V1 H [It.sl Sh.int w1 s1] ∧ tm 0 = (vi a0) ∧ tm 1 = (vi a1) ∧ tm 7 = w1 ∧ tm 10 = v1 ∧ tm 11 = (vi (a2.length : Int))) (fun i1 x1 s1 y2 tm H2 q1 q2 j1 e1 k1 k2 k3 => ?_) (fun s1 tm H1 jf jd => ?_) q3 ⟨rfl, _, _, _, Gw.refl _ _, (hs.push (sl_nil (s := Sh.int))), rfl, rfl, rfl, rfl, rfl⟩
    · obtain ⟨hti0, Z1, V1, w1, g1, s2, h1, h2, h3, h4, h5⟩ := j1
      unfold P.parlmake_Word.b0 at e1
      refine c_sr ?_
      refine o_lss hti0 h5 ?_
      refine c_nil ?_
      refine c_sq ?_
      refine c_ift rfl (Int.ofNat_lt.2 q2) ?_
      refine c_sk ?_
      refine c_sq ?_
      refine c_bk ?_
      refine c_sr ?_
      refine o_idx (v := v1) h4 hti0 (hp1.mono g1.v) rfl (Pu.ix_nat.trans q1) fun p1 q4 => ?_
      refine o_ldi rfl (hp1.mono g1.v) s2.v q4 (Pu.ix_nat.trans q1) ?_
      refine o_mv (v := (vi x1)) rfl ?_
      refine c_nil ?_
      refine c_sq ?_
      refine c_sr ?_
      refine o_mv (v := w1) h3 ?_
      refine o_len rfl ((s2.curS (s := Sh.int) 0 rfl)).len ?_
      refine o_mv (v := (vi a1)) h2 ?_
      refine o_eql rfl rfl ?_
      refine c_nil ?_
      refine c_ifd rfl (fun q5 => ?_) (fun q5 => ?_)
      · replace e1 := if_t q5 e1
        refine c_ex ?_
        refine e_c ?_
        refine e_f rfl ?_
        refine e_c ?_
        refine e_c ?_
        refine e_h ?_
        exact k4 _ _ ⟨_, k2 _ (Option.some.inj e1).symm, _, _, _, g1, s2, h1, h2, h3, h4, h5⟩
      replace e1 := if_f q5 e1
      refine c_sk ?_
      refine c_r ?_
      refine o_mv (v := w1) h3 ?_
      refine o_mv (v := (vi x1)) rfl ?_
      refine o_mv (v := (vi a0)) h1 ?_
      obtain ⟨x2, q6, e1⟩ := Pu.bind_some e1
      obtain ⟨Z3, V3, W1, g3, u1, c1, c2, -, c4, c3⟩ := Sat.call (l1 := []) s2
      refine o_call (mc rfl (mc rfl m0)) (X.parlmake_Below nd.parlmake_Below c1 q6) fun _ H4 i2 => ?_
      obtain ⟨rfl, s5⟩ := i2
      have s6 := c3 _ _ s5
      refine o_bsl (s := Sh.int) (us := [(vi x2)]) (qs := [(0, 1, (vi x2))]) (xs := [x2]) s6 Sh.flat_lt rfl rfl rfl (Els.cons (c := [(vi x2)]) rfl Els.nil) rfl rfl fun w3 H5 s7 => ?_
      obtain ⟨x3, q7, e1⟩ := Pu.bind_some e1
      refine o_app 1 s7 rfl Sh.flat_lt rfl rfl rfl rfl (s7.curS (s := Sh.int) 0 rfl) (PH.le.refl _) (fun h => h) (by decide) q7 fun w4 H6 s8 => ?_
      refine o_mv (v := w4) rfl ?_
      refine c_nil ?_
      refine c_end ?_
      refine c_r ?_
      refine o_add hti0 rfl ?_
      refine o_mv (v := (vi (Pu.W ((i1 : Int) + 1)))) rfl ?_
      refine c_nil ?_
      exact k1 _ _ _ (Option.some.inj e1).symm ⟨(iv rfl (w_suc q2 (hp1).bd)), _, _, _, (g1.trans g3), (s8.pick [1] rfl), h1, h2, rfl, h4, h5⟩
    · obtain ⟨hte0, Z4, V4, w5, g4, s9, h11, h12, h13, h14, h15⟩ := jd
      refine c_sr ?_
      refine o_lss hte0 h15 ?_
      refine c_nil ?_
      refine c_sq ?_
      refine c_iff rfl (Int.lt_irrefl _) ?_
      refine c_ex ?_
      refine e_c ?_
      refine e_c ?_
      refine e_h ?_
      exact k4 _ _ ⟨_, jf, _, _, _, g4, s9, h11, h12, h13, h14, h15⟩
  intro _ H3 i3
  obtain ⟨s3, f1, Z2, V2, w2, g2, s4, h6, h7, h8, h9, h10⟩ := i3
  replace e := fin_o f1 e
  refine c_sr ?_
  refine o_mv (v := w2) h8 ?_
  refine o_mv (v := w2) rfl ?_
  refine c_nil ?_
  refine c_rt ?_
  obtain rfl := Option.some.inj e
  exact ⟨.inr rfl, _, (ar1 rfl), _, rfl, (s4.weak g2 hs.zv)⟩
/-! shrink_without -/
structure Nd.shrink_without (T : FuncId → Option AFunc) : Prop where
  own : Has T I.shrink_without F.shrink_without
set_option maxHeartbeats 1000000 in
theorem X.shrink_without {T : FuncId → Option AFunc} (nd : Nd.shrink_without T) {Z V : PH} {H : Hp} {v1 : Value} {a0 : (List Int)} {a1 : Int} (hs : Sat Z V H []) (hp1 : RdS Sh.int V v1 a0) {r : (List Int)} (e : P.shrink_without a0 a1 = some r) :
    G T I.shrink_without [v1, (vi a1)] H (fun rv H' => ∃ (u1 : Value), rv = u1 ∧ Sat Z V H' [It.sl Sh.int u1 r]) := by
  unfold P.shrink_without at e
  refine f_mk nd.own ?_
  refine c_sr ?_
  refine o_mv (v := (.slice none 0 0)) rfl ?_
  refine c_nil ?_
  refine c_sr ?_
  refine o_mv (v := v1) rfl ?_
  refine o_len rfl (hp1).len ?_
  obtain ⟨x1, q1, e⟩ := Pu.bind_some e
  refine o_mks (s := Sh.int) hs Sh.flat_lt rfl rfl rfl rfl q1 fun w1 H1 s1 => ?_
  refine o_mv (v := w1) rfl ?_
  refine c_nil ?_
  refine c_sq ?_
  refine c_sr ?_
  refine o_mv (v := v1) rfl ?_
  refine o_len rfl (hp1).len ?_
  refine o_mv (v := (vi 0)) rfl ?_
  refine c_nil ?_
  obtain ⟨y1, q4, e⟩ := Pu.bind_some e
  refine c_bk ?_
  refine l_forP (xs := a0) (fun (i1 : Nat) (s2 : (List Int)) tm H => tm 13 = vi i1 ∧ ∃ (Z1 V1 : PH) (w2 : Value), Gw Z V Z1 V1 ∧ Sat Z1 V1 H [It.sl Sh.int w2 s2] ∧ tm 1 = (vi a1) ∧ tm 5 = w2 ∧ tm 11 = v1 ∧ tm 12 = (vi (a0.length : Int))) (fun i1 x2 s2 s4 tm H3 q2 q3 j1 e1 k1 => ?_) (fun tm H2 jd => ?_) q4 ⟨rfl, _, _, _, Gw.refl _ _, s1, rfl, rfl, rfl, rfl⟩
  · obtain ⟨hti0, Z1, V1, w2, g1, s3, h1, h2, h3, h4⟩ := j1
    unfold P.shrink_without.b0 at e1
    refine c_sr ?_
    refine o_lss hti0 h4 ?_
    refine c_nil ?_
    refine c_sq ?_
    refine c_ift rfl (Int.ofNat_lt.2 q3) ?_
    refine c_sk ?_
    refine c_sq ?_
    refine c_bk ?_
    refine c_sr ?_
    refine o_mv (v := (vi (i1 : Int))) hti0 ?_
    refine o_idx (v := v1) h3 hti0 (hp1.mono g1.v) rfl (Pu.ix_nat.trans q2) fun p1 q5 => ?_
    refine o_ldi rfl (hp1.mono g1.v) s3.v q5 (Pu.ix_nat.trans q2) ?_
    refine o_mv (v := (vi (i1 : Int))) rfl ?_
    refine o_mv (v := (vi x2)) rfl ?_
    refine c_nil ?_
    refine c_sr ?_
    refine o_mv (v := (vi (i1 : Int))) rfl ?_
    refine o_mv (v := (vi a1)) h1 ?_
    refine o_neq rfl rfl ?_
    refine c_nil ?_
    obtain ⟨y2, e2, e1⟩ := Pu.bind_some e1
    refine c_jn (I := fun tm H => ∃ (Z2 V2 : PH) (w3 : Value), Gw Z1 V1 Z2 V2 ∧ Sat Z2 V2 H [It.sl Sh.int w3 y2] ∧ tm 1 = (vi a1) ∧ tm 5 = w3 ∧ tm 11 = v1 ∧ tm 12 = (vi (a0.length : Int)) ∧ tm 13 = (vi (i1 : Int))) (fun k2 => ?_) ?_
    · refine c_ifd rfl (fun q6 => ?_) (fun q6 => ?_)
      · replace e2 := if_t q6 e2
        refine c_r ?_
        refine o_mv (v := w2) h2 ?_
        refine o_mv (v := (vi x2)) rfl ?_
        refine o_bsl (s := Sh.int) (us := [(vi x2)]) (qs := [(0, 1, (vi x2))]) (xs := [x2]) s3 Sh.flat_lt rfl rfl rfl (Els.cons (c := [(vi x2)]) rfl Els.nil) rfl rfl fun w4 H5 s6 => ?_
        obtain ⟨x3, q7, e2⟩ := Pu.bind_some e2
        refine o_app 1 s6 rfl Sh.flat_lt rfl rfl rfl rfl (s6.curS (s := Sh.int) 0 rfl) (PH.le.refl _) (fun h => h) (by decide) q7 fun w5 H6 s7 => ?_
        refine o_mv (v := w5) rfl ?_
        refine c_nil ?_
        obtain rfl := Option.some.inj e2
        exact k2 _ _ ⟨_, _, _, Gw.refl _ _, (s7.pick [1] rfl), h1, rfl, h3, h4, hti0⟩
      replace e2 := if_f q6 e2
      refine c_sk ?_
      obtain rfl := Option.some.inj e2
      exact k2 _ _ ⟨_, _, _, Gw.refl _ _, s3, h1, h2, h3, h4, hti0⟩
    intro _ H4 i2
    obtain ⟨Z2, V2, w3, g2, s5, h5, h6, h7, h8, h9⟩ := i2
    refine c_end ?_
    refine c_r ?_
    refine o_add h9 rfl ?_
    refine o_mv (v := (vi (Pu.W ((i1 : Int) + 1)))) rfl ?_
    refine c_nil ?_
    obtain rfl := Option.some.inj e1
    exact k1 _ _ ⟨(iv rfl (w_suc q3 (hp1).bd)), _, _, _, (g1.trans g2), s5, h5, h6, h7, h8⟩
  obtain ⟨hte0, Z3, V3, w6, g3, s8, h10, h11, h12, h13⟩ := jd
  refine c_sr ?_
  refine o_lss hte0 h13 ?_
  refine c_nil ?_
  refine c_sq ?_
  refine c_iff rfl (Int.lt_irrefl _) ?_
  refine c_ex ?_
  refine e_c ?_
  refine e_c ?_
  refine e_h ?_
  refine c_sr ?_
  refine o_mv (v := w6) h11 ?_
  refine o_mv (v := w6) rfl ?_
  refine c_nil ?_
  refine c_rt ?_
  obtain rfl := Option.some.inj e
  exact ⟨.inr rfl, _, (ar1 rfl), _, rfl, (s8.weak g3 hs.zv)⟩
/-! slices_Equal_int_int -/
structure Nd.slices_Equal_int_int (T : FuncId → Option AFunc) : Prop where
  own : Has T I.slices_Equal_int_int F.slices_Equal_int_int
set_option maxHeartbeats 1000000 in
theorem X.slices_Equal_int_int {T : FuncId → Option AFunc} (nd : Nd.slices_Equal_int_int T) {Z V : PH} {H : Hp} {v1 : Value} {v2 : Value} {a0 : (List Int)} {a1 : (List Int)} (hs : Sat Z V H []) (hp1 : RdS Sh.int V v1 a0) (hp2 : RdS Sh.int V v2 a1) {r : Bool} (e : P.slices_Equal_int_int a0 a1 = some r) :
    G T I.slices_Equal_int_int [v1, v2] H (fun rv H' => rv = (.bool r) ∧ Sat Z V H' []) := by
  unfold P.slices_Equal_int_int at e
  refine f_mk nd.own ?_
  refine c_sr ?_
  refine o_mv (v := (.bool false)) rfl ?_
  refine c_nil ?_
  refine c_sq ?_
  refine c_sr ?_
  refine o_mv (v := v1) rfl ?_
  refine o_len rfl (hp1).len ?_
  refine o_mv (v := v2) rfl ?_
  refine o_len rfl (hp2).len ?_
  refine o_neq rfl rfl ?_
  refine c_nil ?_
  refine c_ifd rfl (fun q1 => ?_) (fun q1 => ?_)
  · replace e := if_t q1 e
    refine c_sr ?_
    refine o_mv (v := (.bool false)) rfl ?_
    refine c_nil ?_
    refine c_rt ?_
    obtain rfl := Option.some.inj e
    exact ⟨.inr rfl, _, (ar1 rfl), rfl, hs⟩
  replace e := if_f q1 e
  refine c_sk ?_
  refine c_sq ?_
  refine c_sr ?_
  refine o_mv (v := v1) rfl ?_
  refine o_len rfl (hp1).len ?_
  refine o_mv (v := (vi 0)) rfl ?_
  refine c_nil ?_
  obtain ⟨x2, q4, e⟩ := Pu.bind_some e
  obtain ⟨rfl, q6⟩ := ranO_some q4
  obtain ⟨y1, q7, e⟩ := Pu.bind_some e
  refine c_jn (I := fun tm H => ∃ (s3 : Unit), y1 = .out s3 ∧ (∃ (Z2 V2 : PH), Gw Z V Z2 V2 ∧ Sat Z2 V2 H [] ∧ tm 0 = v1 ∧ tm 1 = v2 ∧ tm 12 = (vi (a0.length : Int)))) (fun k4 => ?_) ?_
  · refine c_bk ?_
    refine l_forL (xs := (Pu.ran (a0.length : Int))) (fun (i1 : Nat) (s1 : Unit) tm H => tm 13 = vi i1 ∧ ∃ (Z1 V1 : PH), Gw Z V Z1 V1 ∧ Sat Z1 V1 H [] ∧ tm 0 = v1 ∧ tm 1 = v2 ∧ tm 12 = (vi (a0.length : Int))) (fun i1 x1 s1 y2 tm H2 q2 q3 j1 e1 k1 k2 k3 => ?_) (fun s1 tm H1 jf jd => ?_) q7 ⟨rfl, _, _, Gw.refl _ _, hs, rfl, rfl, rfl⟩
    · obtain ⟨hti0, Z1, V1, g1, s2, h1, h2, h3⟩ := j1
      unfold P.slices_Equal_int_int.b0 at e1
      have hti0 := iv hti0 (ran_x q2).symm
      refine c_sr ?_
      refine o_lss hti0 h3 ?_
      refine c_nil ?_
      refine c_sq ?_
      refine c_ift rfl (ran_lt q2) ?_
      refine c_sk ?_
      refine c_sq ?_
      refine c_bk ?_
      refine c_sr ?_
      refine o_mv (v := (vi x1)) hti0 ?_
      refine o_mv (v := (vi x1)) rfl ?_
      refine c_nil ?_
      refine c_sq ?_
      refine d_start s2 fun n1 H4 s5 q8 d1 => ?_
      refine d_mv (v := v1) h1 ?_
      refine d_mv (v := (vi x1)) rfl ?_
      obtain ⟨x3, q9, e1⟩ := Pu.bind_some e1
      refine d_idx (v := v1) rfl rfl (hp1.mono g1.v) rfl q9 fun p1 q10 => ?_
      refine d_ldi (RdS.low (hp1.mono g1.v) s5.v q8) rfl (hp1.mono g1.v) s5.v q10 q9 ?_
      refine d_mv (v := v2) h2 ?_
      refine d_mv (v := (vi x1)) rfl ?_
      obtain ⟨x4, q11, e1⟩ := Pu.bind_some e1
      refine d_idx (v := v2) rfl rfl (hp2.mono g1.v) rfl q11 fun p2 q12 => ?_
      refine d_ldi (RdS.low (hp2.mono g1.v) s5.v q8) rfl (hp2.mono g1.v) s5.v q12 q11 ?_
      refine d_neq rfl rfl ?_
      refine d_nil dc_nil ?_
      refine c_gen (P := fun tm => tm 0 = v1 ∧ tm 1 = v2 ∧ tm 12 = (vi (a0.length : Int)) ∧ tm 13 = (vi x1) ∧ tm 24 = (.bool (decide (x3 ≠ x4))) ∧ True) ⟨h1, h2, h3, hti0, rfl, trivial⟩ ?_
      intro _ i2
      obtain ⟨h7, h8, h9, h10, h11, -⟩ := i2
      refine c_ifd h11 (fun q13 => ?_) (fun q13 => ?_)
      · replace e1 := if_t q13 e1
        refine c_sr ?_
        refine o_mv (v := (.bool false)) rfl ?_
        refine c_nil ?_
        refine c_rt ?_
        have e2 := fin_r (k3 _ (Option.some.inj e1).symm) e
        obtain rfl := Option.some.inj e2
        exact ⟨.inr rfl, _, (ar1 rfl), rfl, (s5.weak g1 hs.zv)⟩
      replace e1 := if_f q13 e1
      refine c_sk ?_
      refine c_end ?_
      refine c_r ?_
      refine o_add h10 rfl ?_
      refine o_mv (v := (vi (Pu.W (x1 + 1)))) rfl ?_
      refine c_nil ?_
      exact k1 _ _ _ (Option.some.inj e1).symm ⟨(iv rfl (w_sucR q2 q6)), _, _, g1, s5, h7, h8, h9⟩
    · obtain ⟨hte0, Z3, V3, g3, s6, h12, h13, h14⟩ := jd
      refine c_sr ?_
      refine o_lss hte0 h14 ?_
      refine c_nil ?_
      refine c_sq ?_
      refine c_iff rfl (ran_done _) ?_
      refine c_ex ?_
      refine e_c ?_
      refine e_c ?_
      refine e_h ?_
      exact k4 _ _ ⟨_, jf, _, _, g3, s6, h12, h13, h14⟩
  intro _ H3 i3
  obtain ⟨s3, f1, Z2, V2, g2, s4, h4, h5, h6⟩ := i3
  replace e := fin_o f1 e
  refine c_sr ?_
  refine o_mv (v := (.bool true)) rfl ?_
  refine c_nil ?_
  refine c_rt ?_
  obtain rfl := Option.some.inj e
  exact ⟨.inr rfl, _, (ar1 rfl), rfl, (s4.weak g2 hs.zv)⟩
/-! parlkeep5_below -/
structure Nd.parlkeep5_below (T : FuncId → Option AFunc) : Prop where
  own : Has T I.parlkeep5_below F.parlkeep5_below
  parlmake_Below : Nd.parlmake_Below T
set_option maxHeartbeats 1000000 in
theorem X.parlkeep5_below {T : FuncId → Option AFunc} (nd : Nd.parlkeep5_below T) {Z V : PH} {H : Hp} {a0 : Int} {a1 : Int} (hs : Sat Z V H []) {r : Int} (e : P.parlkeep5_below a0 a1 = some r) :
    G T I.parlkeep5_below [(vi a0), (vi a1)] H (fun rv H' => rv = (vi r) ∧ Sat Z V H' []) := by
  unfold P.parlkeep5_below at e
  refine f_mk nd.own ?_
  refine c_sr ?_
  refine o_mv (v := (vi 0)) rfl ?_
  refine c_nil ?_
  refine c_sr ?_
  refine o_mv (v := (vi a0)) rfl ?_
  refine o_mv (v := (vi a1)) rfl ?_
  obtain ⟨x1, q1, e⟩ := Pu.bind_some e
  obtain ⟨Z1, V1, W1, g1, u1, c1, c2, -, c4, c3⟩ := Sat.call (l1 := []) hs
  refine o_call (mc rfl (mc rfl m0)) (X.parlmake_Below nd.parlmake_Below c1 q1) fun _ H1 i1 => ?_
  obtain ⟨rfl, s1⟩ := i1
  have s2 := c3 _ _ s1
  refine o_mv (v := (vi x1)) rfl ?_
  refine c_nil ?_
  refine c_rt ?_
  obtain rfl := Option.some.inj e
  exact ⟨.inr rfl, _, (ar1 rfl), rfl, (s2.weak g1 hs.zv)⟩
/-! parlkeep5_fails_1 -/
structure Nd.parlkeep5_fails_1 (T : FuncId → Option AFunc) : Prop where
  own : Has T I.parlkeep5_fails_1 F.parlkeep5_fails_1
set_option maxHeartbeats 1000000 in
theorem X.parlkeep5_fails_1 {T : FuncId → Option AFunc} (nd : Nd.parlkeep5_fails_1 T) {Z V : PH} {H : Hp} {v1 : Value} {o1 : Nat} {o2 : Nat} {a0 : (List Int)} {a1 : Int} {a2 : Int} (hs : Sat Z V H [pts o1 (.rw 0 [(vi a1)]), pts o2 (.rw 0 [(vi a2)])]) (hp1 : RdS Sh.int V v1 a0) {r : Bool} (e : P.parlkeep5_fails_1 a0 a1 a2 = some r) :
    G T I.parlkeep5_fails_1 [v1, (.pointer (some ⟨o1, 0, none⟩)), (.pointer (some ⟨o2, 0, none⟩))] H (fun rv H' => rv = (.bool r) ∧ Sat Z V H' [pts o1 (.rw 0 [(vi a1)]), pts o2 (.rw 0 [(vi a2)])]) := by
  unfold P.parlkeep5_fails_1 at e
  refine f_mk nd.own ?_
  refine c_sr ?_
  refine o_mv (v := (.bool false)) rfl ?_
  refine c_nil ?_
  refine c_sr ?_
  refine o_mv (v := (vi 0)) rfl ?_
  refine c_nil ?_
  refine c_sq ?_
  refine c_sr ?_
  refine o_mv (v := v1) rfl ?_
  refine o_len rfl (hp1).len ?_
  refine o_mv (v := (vi 0)) rfl ?_
  refine c_nil ?_
  obtain ⟨y1, q3, e⟩ := Pu.bind_some e
  refine c_bk ?_
  refine l_forP (xs := a0) (fun (i1 : Nat) (s1 : Int) tm H => tm 10 = vi i1 ∧ ∃ (Z1 V1 : PH), Gw Z V Z1 V1 ∧ Sat Z1 V1 H [pts o1 (.rw 0 [(vi a1)]), pts o2 (.rw 0 [(vi a2)])] ∧ tm 0 = v1 ∧ tm 1 = (.pointer (some ⟨o1, 0, none⟩)) ∧ tm 2 = (.pointer (some ⟨o2, 0, none⟩)) ∧ tm 5 = (vi s1) ∧ tm 8 = v1 ∧ tm 9 = (vi (a0.length : Int))) (fun i1 x1 s1 s3 tm H2 q1 q2 j1 e1 k1 => ?_) (fun tm H1 jd => ?_) q3 ⟨rfl, _, _, Gw.refl _ _, hs, rfl, rfl, rfl, rfl, rfl, rfl⟩
  · obtain ⟨hti0, Z1, V1, g1, s2, h1, h2, h3, h4, h5, h6⟩ := j1
    unfold P.parlkeep5_fails_1.b0 at e1
    refine c_sr ?_
    refine o_lss hti0 h6 ?_
    refine c_nil ?_
    refine c_sq ?_
    refine c_ift rfl (Int.ofNat_lt.2 q2) ?_
    refine c_sk ?_
    refine c_sq ?_
    refine c_bk ?_
    refine c_sr ?_
    refine o_mv (v := (vi (i1 : Int))) hti0 ?_
    refine o_idx (v := v1) h5 hti0 (hp1.mono g1.v) rfl (Pu.ix_nat.trans q1) fun p1 q4 => ?_
    refine o_ldi rfl (hp1.mono g1.v) s2.v q4 (Pu.ix_nat.trans q1) ?_
    refine o_mv (v := (vi (i1 : Int))) rfl ?_
    refine o_mv (v := (vi x1)) rfl ?_
    refine c_nil ?_
    refine c_r ?_
    refine o_mv (v := (vi s1)) h4 ?_
    refine o_mv (v := (vi x1)) rfl ?_
    refine o_add rfl rfl ?_
    refine o_mv (v := (vi (i1 : Int))) rfl ?_
    refine o_ldB 0 s2 rfl h2 rfl rfl ?_
    refine o_add rfl rfl ?_
    refine o_mul rfl rfl ?_
    refine o_add rfl rfl ?_
    refine o_mv (v := (vi (Pu.W (s1 + (Pu.W ((Pu.W (x1 + 1)) * (Pu.W ((i1 : Int) + a1)))))))) rfl ?_
    refine c_nil ?_
    refine c_end ?_
    refine c_r ?_
    refine o_add hti0 rfl ?_
    refine o_mv (v := (vi (Pu.W ((i1 : Int) + 1)))) rfl ?_
    refine c_nil ?_
    obtain rfl := Option.some.inj e1
    exact k1 _ _ ⟨(iv rfl (w_suc q2 (hp1).bd)), _, _, g1, s2, h1, h2, h3, rfl, h5, h6⟩
  obtain ⟨hte0, Z2, V2, g2, s4, h7, h8, h9, h10, h11, h12⟩ := jd
  refine c_sr ?_
  refine o_lss hte0 h12 ?_
  refine c_nil ?_
  refine c_sq ?_
  refine c_iff rfl (Int.lt_irrefl _) ?_
  refine c_ex ?_
  refine e_c ?_
  refine e_c ?_
  refine e_h ?_
  refine c_sr ?_
  refine o_mv (v := (vi y1)) h10 ?_
  obtain ⟨x2, q5, e⟩ := Pu.bind_some e
  refine o_rem rfl rfl q5 ?_
  refine o_ldB 1 s4 rfl h9 rfl rfl ?_
  refine o_eql rfl rfl ?_
  refine o_mv (v := (.bool (decide (x2 = a2)))) rfl ?_
  refine o_jn 6 (I := fun tm H => tm 34 = .bool ((decide (x2 = a2)) || (decide ((Pu.W (4 + a1)) < (a0.length : Int)))) ∧ (∃ (Z3 V3 : PH), Gw Z2 V2 Z3 V3 ∧ Sat Z3 V3 H [pts o1 (.rw 0 [(vi a1)]), pts o2 (.rw 0 [(vi a2)])])) (fun k2 => ?_) ?_
  · rcases Bool.eq_false_or_eq_true (decide (x2 = a2)) with q6 | q6
    · refine o_gn rfl q6 ?_
      refine o_gn rfl q6 ?_
      refine o_gn rfl q6 ?_
      refine o_gn rfl q6 ?_
      refine o_gn rfl q6 ?_
      refine o_pickt (a := (.bool true)) rfl q6 rfl ?_
      exact k2 _ _ ⟨gf rfl (by first | (rw [q6]; first | done | rfl) | simp [q6]), _, _, Gw.refl _ _, s4⟩
    refine o_gy rfl q6 ?_
    refine o_mv (v := v1) h7 ?_
    refine o_gy rfl q6 ?_
    refine o_len rfl ((hp1.mono g2.v)).len ?_
    refine o_gy rfl q6 ?_
    refine o_ldB 0 s4 rfl h8 rfl rfl ?_
    refine o_gy rfl q6 ?_
    refine o_add rfl rfl ?_
    refine o_gy rfl q6 ?_
    refine o_gtr rfl rfl ?_
    refine o_pickf (b := (.bool (decide ((Pu.W (4 + a1)) < (a0.length : Int))))) rfl q6 rfl ?_
    exact k2 _ _ ⟨gf rfl (by first | (rw [q6]; first | done | rfl) | simp [q6]), _, _, Gw.refl _ _, s4⟩
  intro _ H4 i2
  obtain ⟨h13, Z3, V3, g3, s5⟩ := i2
  refine o_mv (v := (.bool ((decide (x2 = a2)) || (decide ((Pu.W (4 + a1)) < (a0.length : Int)))))) h13 ?_
  refine c_nil ?_
  refine c_rt ?_
  obtain rfl := Option.some.inj e
  exact ⟨.inr rfl, _, (ar1 rfl), rfl, (s5.weak (g2.trans g3) hs.zv)⟩
/-! parlkeep5_fails -/
structure Nd.parlkeep5_fails (T : FuncId → Option AFunc) : Prop where
  own : Has T I.parlkeep5_fails F.parlkeep5_fails
  parlkeep5_below : Nd.parlkeep5_below T
set_option maxHeartbeats 1000000 in
theorem X.parlkeep5_fails {T : FuncId → Option AFunc} (nd : Nd.parlkeep5_fails T) {Z V : PH} {H : Hp} {a0 : Int} {a1 : Int} (hs : Sat Z V H []) {r : (Int × Int)} (e : P.parlkeep5_fails a0 a1 = some r) :
    G T I.parlkeep5_fails [(vi a0), (vi a1)] H (fun rv H' => ∃ (o101 : Nat) (o102 : Nat), rv = (.func (.func I.parlkeep5_fails_1) #[] #[(.pointer (some ⟨o101, 0, none⟩)), (.pointer (some ⟨o102, 0, none⟩))]) ∧ Sat Z V H' [pts o101 (.rw 0 [(vi r.1)]), pts o102 (.rw 0 [(vi r.2)])]) := by
  unfold P.parlkeep5_fails at e
  refine f_mk nd.own ?_
  refine c_sr ?_
  refine o_box hs rfl rfl fun b1 H1 s1 => ?_
  refine o_box s1 rfl rfl fun b2 H2 s2 => ?_
  refine o_mv (v := .nilFunc) rfl ?_
  refine c_nil ?_
  refine c_sq ?_
  refine d_start s2 fun n1 H3 s3 q1 d1 => ?_
  refine d_ldB (q1 _ _ (ph_some.2 ⟨s3.curB 1 rfl, by simp⟩)) 1 s3 rfl rfl rfl rfl ?_
  obtain ⟨x1, q2, e⟩ := Pu.bind_some e
  obtain ⟨Z1, V1, W1, g1, u1, c1, c2, -, c4, c3⟩ := Sat.call (l1 := []) s3
  refine d_call (mc rfl (mc rfl m0)) (X.parlkeep5_below nd.parlkeep5_below c1 q2) fun _ H4 i1 k1 => ?_
  have d2 := d1.keep k1
  obtain ⟨rfl, s4⟩ := i1
  have s5 := c3 _ _ s4
  refine d_ldB (q1 _ _ (ph_some.2 ⟨s3.curB 0 rfl, by simp⟩)) 0 s5 rfl rfl rfl rfl ?_
  obtain ⟨x2, q3, e⟩ := Pu.bind_some e
  obtain ⟨Z2, V2, W2, g2, u2, c5, c6, -, c8, c7⟩ := Sat.call (l1 := []) s5
  refine d_call (mc rfl (mc rfl m0)) (X.parlkeep5_below nd.parlkeep5_below c5 q3) fun _ H5 i2 k2 => ?_
  have d3 := d2.keep k2
  obtain ⟨rfl, s6⟩ := i2
  have s7 := c7 _ _ s6
  refine d_stB (us' := [(vi x1)]) 1 s7 rfl rfl rfl rfl rfl rfl rfl fun H6 s8 k3 => ?_
  have d4 := d3.keep k3
  refine d_stB (us' := [(vi x2)]) 0 s8 rfl rfl rfl rfl rfl rfl rfl fun H7 s9 k4 => ?_
  have d5 := d4.keep k4
  refine d_nil (dc_mk rfl (tra (tra (tra (tra (tre (trl (trl tr0))))))) (tra (tra (tra (tra (tra (tre (trl tr0))))))) (tra (tra (tra (tra (tre (trl (trl tr0))))))) (ag_ldx (w := (vi a1)) w_0 rfl (ldB_v 0 s5 rfl rfl rfl) (ldB_v 0 s3 rfl rfl rfl) (by simp [vsame, vsame1])) (ag_ldx (w := (vi a1)) w_0 rfl (ldB_v 0 s5 rfl rfl rfl) (ldB_v 0 s5 rfl rfl rfl) (by simp [vsame, vsame1])) dc_nil) ?_
  refine c_sr ?_
  refine o_mkfn (mc rfl (mc rfl m0)) ?_
  refine o_mv (v := (.func (.func I.parlkeep5_fails_1) #[] #[(.pointer (some ⟨b1, 0, none⟩)), (.pointer (some ⟨b2, 0, none⟩))])) rfl ?_
  refine c_nil ?_
  refine c_rt ?_
  obtain rfl := Option.some.inj e
  exact ⟨.inr rfl, _, (ar1 rfl), _, _, rfl, ((s9.pick [1, 0] rfl).weak (g1.trans g2) hs.zv)⟩
/-! slices_Index_int_int -/
structure Nd.slices_Index_int_int (T : FuncId → Option AFunc) : Prop where
  own : Has T I.slices_Index_int_int F.slices_Index_int_int
set_option maxHeartbeats 1000000 in
theorem X.slices_Index_int_int {T : FuncId → Option AFunc} (nd : Nd.slices_Index_int_int T) {Z V : PH} {H : Hp} {v1 : Value} {a0 : (List Int)} {a1 : Int} (hs : Sat Z V H []) (hp1 : RdS Sh.int V v1 a0) {r : Int} (e : P.slices_Index_int_int a0 a1 = some r) :
    G T I.slices_Index_int_int [v1, (vi a1)] H (fun rv H' => rv = (vi r) ∧ Sat Z V H' []) := by
  unfold P.slices_Index_int_int at e
  refine f_mk nd.own ?_
  refine c_sr ?_
  refine o_mv (v := (vi 0)) rfl ?_
  refine c_nil ?_
  refine c_sq ?_
  refine c_sr ?_
  refine o_mv (v := v1) rfl ?_
  refine o_len rfl (hp1).len ?_
  refine o_mv (v := (vi 0)) rfl ?_
  refine c_nil ?_
  obtain ⟨x2, q3, e⟩ := Pu.bind_some e
  obtain ⟨rfl, q5⟩ := ranO_some q3
  obtain ⟨y1, q6, e⟩ := Pu.bind_some e
  refine c_jn (I := fun tm H => ∃ (s3 : Unit), y1 = .out s3 ∧ (∃ (Z2 V2 : PH), Gw Z V Z2 V2 ∧ Sat Z2 V2 H [] ∧ tm 0 = v1 ∧ tm 1 = (vi a1) ∧ tm 7 = (vi (a0.length : Int)))) (fun k4 => ?_) ?_
  · refine c_bk ?_
    refine l_forL (xs := (Pu.ran (a0.length : Int))) (fun (i1 : Nat) (s1 : Unit) tm H => tm 8 = vi i1 ∧ ∃ (Z1 V1 : PH), Gw Z V Z1 V1 ∧ Sat Z1 V1 H [] ∧ tm 0 = v1 ∧ tm 1 = (vi a1) ∧ tm 7 = (vi (a0.length : Int))) (fun i1 x1 s1 y2 tm H2 q1 q2 j1 e1 k1 k2 k3 => ?_) (fun s1 tm H1 jf jd => ?_) q6 ⟨rfl, _, _, Gw.refl _ _, hs, rfl, rfl, rfl⟩
    · obtain ⟨hti0, Z1, V1, g1, s2, h1, h2, h3⟩ := j1
      unfold P.slices_Index_int_int.b0 at e1
      have hti0 := iv hti0 (ran_x q1).symm
      refine c_sr ?_
      refine o_lss hti0 h3 ?_
      refine c_nil ?_
      refine c_sq ?_
      refine c_ift rfl (ran_lt q1) ?_
      refine c_sk ?_
      refine c_sq ?_
      refine c_bk ?_
      refine c_sr ?_
      refine o_mv (v := (vi x1)) hti0 ?_
      refine o_mv (v := (vi x1)) rfl ?_
      refine c_nil ?_
      refine c_sr ?_
      refine o_mv (v := (vi a1)) h2 ?_
      refine o_mv (v := v1) h1 ?_
      refine o_mv (v := (vi x1)) rfl ?_
      obtain ⟨x3, q7, e1⟩ := Pu.bind_some e1
      refine o_idx (v := v1) rfl rfl (hp1.mono g1.v) rfl q7 fun p1 q8 => ?_
      refine o_ldi rfl (hp1.mono g1.v) s2.v q8 q7 ?_
      refine o_eql rfl rfl ?_
      refine c_nil ?_
      refine c_ifd rfl (fun q9 => ?_) (fun q9 => ?_)
      · replace e1 := if_t q9 e1
        refine c_sr ?_
        refine o_mv (v := (vi x1)) rfl ?_
        refine o_mv (v := (vi x1)) rfl ?_
        refine c_nil ?_
        refine c_gen (P := fun tm => tm 4 = (vi x1) ∧ True) ⟨rfl, trivial⟩ ?_
        intro _ i2
        obtain ⟨h7, -⟩ := i2
        refine c_rt ?_
        have e2 := fin_r (k3 _ (Option.some.inj e1).symm) e
        obtain rfl := Option.some.inj e2
        exact ⟨.inr rfl, _, (ar1 h7), rfl, (s2.weak g1 hs.zv)⟩
      replace e1 := if_f q9 e1
      refine c_sk ?_
      refine c_end ?_
      refine c_r ?_
      refine o_add hti0 rfl ?_
      refine o_mv (v := (vi (Pu.W (x1 + 1)))) rfl ?_
      refine c_nil ?_
      exact k1 _ _ _ (Option.some.inj e1).symm ⟨(iv rfl (w_sucR q1 q5)), _, _, g1, s2, h1, h2, h3⟩
    · obtain ⟨hte0, Z3, V3, g3, s5, h8, h9, h10⟩ := jd
      refine c_sr ?_
      refine o_lss hte0 h10 ?_
      refine c_nil ?_
      refine c_sq ?_
      refine c_iff rfl (ran_done _) ?_
      refine c_ex ?_
      refine e_c ?_
      refine e_c ?_
      refine e_h ?_
      exact k4 _ _ ⟨_, jf, _, _, g3, s5, h8, h9, h10⟩
  intro _ H3 i3
  obtain ⟨s3, f1, Z2, V2, g2, s4, h4, h5, h6⟩ := i3
  replace e := fin_o f1 e
  refine c_sr ?_
  refine o_mv (v := (vi (-1))) rfl ?_
  refine c_nil ?_
  refine c_rt ?_
  obtain rfl := Option.some.inj e
  exact ⟨.inr rfl, _, (ar1 rfl), rfl, (s4.weak g2 hs.zv)⟩
/-! slices_Contains_int_int -/
structure Nd.slices_Contains_int_int (T : FuncId → Option AFunc) : Prop where
  own : Has T I.slices_Contains_int_int F.slices_Contains_int_int
  slices_Index_int_int : Nd.slices_Index_int_int T
set_option maxHeartbeats 1000000 in
theorem X.slices_Contains_int_int {T : FuncId → Option AFunc} (nd : Nd.slices_Contains_int_int T) {Z V : PH} {H : Hp} {v1 : Value} {a0 : (List Int)} {a1 : Int} (hs : Sat Z V H []) (hp1 : RdS Sh.int V v1 a0) {r : Bool} (e : P.slices_Contains_int_int a0 a1 = some r) :
    G T I.slices_Contains_int_int [v1, (vi a1)] H (fun rv H' => rv = (.bool r) ∧ Sat Z V H' []) := by
  unfold P.slices_Contains_int_int at e
  refine f_mk nd.own ?_
  refine c_sr ?_
  refine o_mv (v := (.bool false)) rfl ?_
  refine c_nil ?_
  refine c_sr ?_
  refine o_mv (v := v1) rfl ?_
  refine o_mv (v := (vi a1)) rfl ?_
  obtain ⟨x1, q1, e⟩ := Pu.bind_some e
  obtain ⟨Z1, V1, W1, g1, u1, c1, c2, -, c4, c3⟩ := Sat.call (l1 := []) hs
  refine o_call (mc rfl (mc rfl m0)) (X.slices_Index_int_int nd.slices_Index_int_int c1 (hp1.mono (g1.v.trans u1)) q1) fun _ H1 i1 => ?_
  obtain ⟨rfl, s1⟩ := i1
  have s2 := c3 _ _ s1
  refine o_geq rfl rfl ?_
  refine o_mv (v := (.bool (decide (0 ≤ x1)))) rfl ?_
  refine c_nil ?_
  refine c_rt ?_
  obtain rfl := Option.some.inj e
  exact ⟨.inr rfl, _, (ar1 rfl), rfl, (s2.weak g1 hs.zv)⟩
/-! parlkeep5_ShrinkAgain_1 -/
structure Nd.parlkeep5_ShrinkAgain_1 (T : FuncId → Option AFunc) : Prop where
  own : Has T I.parlkeep5_ShrinkAgain_1 F.parlkeep5_ShrinkAgain_1
  slices_Contains_int_int : Nd.slices_Contains_int_int T
set_option maxHeartbeats 1000000 in
theorem X.parlkeep5_ShrinkAgain_1 {T : FuncId → Option AFunc} (nd : Nd.parlkeep5_ShrinkAgain_1 T) {Z V : PH} {H : Hp} {v1 : Value} {a0 : (List Int)} (hs : Sat Z V H []) (hp1 : RdS Sh.int V v1 a0) {r : Bool} (e : P.parlkeep5_ShrinkAgain_1 a0 = some r) :
    G T I.parlkeep5_ShrinkAgain_1 [v1] H (fun rv H' => rv = (.bool r) ∧ Sat Z V H' []) := by
  unfold P.parlkeep5_ShrinkAgain_1 at e
  refine f_mk nd.own ?_
  refine c_sr ?_
  refine o_mv (v := (.bool false)) rfl ?_
  refine c_nil ?_
  refine c_sr ?_
  refine o_mv (v := v1) rfl ?_
  obtain ⟨x1, q1, e⟩ := Pu.bind_some e
  obtain ⟨Z1, V1, W1, g1, u1, c1, c2, -, c4, c3⟩ := Sat.call (l1 := []) hs
  refine o_call (mc rfl (mc rfl m0)) (X.slices_Contains_int_int nd.slices_Contains_int_int c1 (hp1.mono (g1.v.trans u1)) q1) fun _ H1 i1 => ?_
  obtain ⟨rfl, s1⟩ := i1
  have s2 := c3 _ _ s1
  refine o_mv (v := (.bool x1)) rfl ?_
  refine c_nil ?_
  refine c_rt ?_
  obtain rfl := Option.some.inj e
  exact ⟨.inr rfl, _, (ar1 rfl), rfl, (s2.weak g1 hs.zv)⟩
/-! cmp_isNaN_int -/
structure Nd.cmp_isNaN_int (T : FuncId → Option AFunc) : Prop where
  own : Has T I.cmp_isNaN_int F.cmp_isNaN_int
set_option maxHeartbeats 1000000 in
theorem X.cmp_isNaN_int {T : FuncId → Option AFunc} (nd : Nd.cmp_isNaN_int T) {Z V : PH} {H : Hp} {a0 : Int} (hs : Sat Z V H []) {r : Bool} (e : P.cmp_isNaN_int a0 = some r) :
    G T I.cmp_isNaN_int [(vi a0)] H (fun rv H' => rv = (.bool r) ∧ Sat Z V H' []) := by
  unfold P.cmp_isNaN_int at e
  refine f_mk nd.own ?_
  refine c_sr ?_
  refine o_mv (v := (.bool false)) rfl ?_
  refine c_nil ?_
  refine c_sr ?_
  refine o_mv (v := (vi a0)) rfl ?_
  refine o_mv (v := (vi a0)) rfl ?_
  refine o_neq rfl rfl ?_
  refine o_mv (v := (.bool (decide (a0 ≠ a0)))) rfl ?_
  refine c_nil ?_
  refine c_rt ?_
  obtain rfl := Option.some.inj e
  exact ⟨.inr rfl, _, (ar1 rfl), rfl, hs⟩
/-! cmp_Compare_int -/
structure Nd.cmp_Compare_int (T : FuncId → Option AFunc) : Prop where
  own : Has T I.cmp_Compare_int F.cmp_Compare_int
  cmp_isNaN_int : Nd.cmp_isNaN_int T
set_option maxHeartbeats 1000000 in
theorem X.cmp_Compare_int {T : FuncId → Option AFunc} (nd : Nd.cmp_Compare_int T) {Z V : PH} {H : Hp} {a0 : Int} {a1 : Int} (hs : Sat Z V H []) {r : Int} (e : P.cmp_Compare_int a0 a1 = some r) :
    G T I.cmp_Compare_int [(vi a0), (vi a1)] H (fun rv H' => rv = (vi r) ∧ Sat Z V H' []) := by
  unfold P.cmp_Compare_int at e
  refine f_mk nd.own ?_
  refine c_sr ?_
  refine o_mv (v := (vi 0)) rfl ?_
  refine c_nil ?_
  refine c_sr ?_
  refine o_mv (v := (vi a0)) rfl ?_
  obtain ⟨x1, q1, e⟩ := Pu.bind_some e
  obtain ⟨Z1, V1, W1, g1, u1, c1, c2, -, c4, c3⟩ := Sat.call (l1 := []) hs
  refine o_call (mc rfl m0) (X.cmp_isNaN_int nd.cmp_isNaN_int c1 q1) fun _ H1 i1 => ?_
  obtain ⟨rfl, s1⟩ := i1
  have s2 := c3 _ _ s1
  refine o_mv (v := (.bool x1)) rfl ?_
  refine c_nil ?_
  refine c_sr ?_
  refine o_mv (v := (vi a1)) rfl ?_
  obtain ⟨x2, q2, e⟩ := Pu.bind_some e
  obtain ⟨Z2, V2, W2, g2, u2, c5, c6, -, c8, c7⟩ := Sat.call (l1 := []) s2
  refine o_call (mc rfl m0) (X.cmp_isNaN_int nd.cmp_isNaN_int c5 q2) fun _ H2 i2 => ?_
  obtain ⟨rfl, s3⟩ := i2
  have s4 := c7 _ _ s3
  refine o_mv (v := (.bool x2)) rfl ?_
  refine c_nil ?_
  refine c_sq ?_
  refine c_sr ?_
  refine o_mv (v := (.bool x1)) rfl ?_
  refine c_nil ?_
  refine c_if rfl (fun q3 => ?_) (fun q3 => ?_)
  · replace e := if_t q3 e
    refine c_sq ?_
    refine c_sr ?_
    refine o_mv (v := (.bool x2)) rfl ?_
    refine c_nil ?_
    refine c_if rfl (fun q4 => ?_) (fun q4 => ?_)
    · replace e := if_t q4 e
      refine c_sr ?_
      refine o_mv (v := (vi 0)) rfl ?_
      refine c_nil ?_
      refine c_gen (P := fun tm => tm 4 = (vi 0) ∧ True) ⟨rfl, trivial⟩ ?_
      intro _ i3
      obtain ⟨h1, -⟩ := i3
      refine c_rt ?_
      obtain rfl := Option.some.inj e
      exact ⟨.inr rfl, _, (ar1 h1), rfl, (s4.weak (g1.trans g2) hs.zv)⟩
    replace e := ib_f q4 e
    refine c_sk ?_
    refine c_sr ?_
    refine o_mv (v := (vi (-1))) rfl ?_
    refine c_nil ?_
    refine c_gen (P := fun tm => tm 4 = (vi (-1)) ∧ True) ⟨rfl, trivial⟩ ?_
    intro _ i4
    obtain ⟨h2, -⟩ := i4
    refine c_rt ?_
    obtain rfl := Option.some.inj e
    exact ⟨.inr rfl, _, (ar1 h2), rfl, (s4.weak (g1.trans g2) hs.zv)⟩
  replace e := ib_f q3 e
  refine c_sk ?_
  refine c_sq ?_
  refine c_sr ?_
  refine o_mv (v := (.bool x2)) rfl ?_
  refine c_nil ?_
  refine c_if rfl (fun q5 => ?_) (fun q5 => ?_)
  · replace e := if_t q5 e
    refine c_sr ?_
    refine o_mv (v := (vi 1)) rfl ?_
    refine c_nil ?_
    refine c_gen (P := fun tm => tm 4 = (vi 1) ∧ True) ⟨rfl, trivial⟩ ?_
    intro _ i5
    obtain ⟨h3, -⟩ := i5
    refine c_rt ?_
    obtain rfl := Option.some.inj e
    exact ⟨.inr rfl, _, (ar1 h3), rfl, (s4.weak (g1.trans g2) hs.zv)⟩
  replace e := ib_f q5 e
  refine c_sk ?_
  refine c_sq ?_
  refine c_sr ?_
  refine o_mv (v := (vi a0)) rfl ?_
  refine o_mv (v := (vi a1)) rfl ?_
  refine o_lss rfl rfl ?_
  refine c_nil ?_
  refine c_gen (P := fun tm => tm 0 = (vi a0) ∧ tm 1 = (vi a1) ∧ tm 16 = (.bool (decide (a0 < a1))) ∧ True) ⟨rfl, rfl, rfl, trivial⟩ ?_
  intro _ i6
  obtain ⟨h4, h5, h6, -⟩ := i6
  refine c_ifd h6 (fun q6 => ?_) (fun q6 => ?_)
  · replace e := if_t q6 e
    refine c_sr ?_
    refine o_mv (v := (vi (-1))) rfl ?_
    refine c_nil ?_
    refine c_rt ?_
    obtain rfl := Option.some.inj e
    exact ⟨.inr rfl, _, (ar1 rfl), rfl, (s4.weak (g1.trans g2) hs.zv)⟩
  replace e := if_f q6 e
  refine c_sk ?_
  refine c_sq ?_
  refine c_sr ?_
  refine o_mv (v := (vi a0)) h4 ?_
  refine o_mv (v := (vi a1)) h5 ?_
  refine o_gtr rfl rfl ?_
  refine c_nil ?_
  refine c_ifd rfl (fun q7 => ?_) (fun q7 => ?_)
  · replace e := if_t q7 e
    refine c_sr ?_
    refine o_mv (v := (vi 1)) rfl ?_
    refine c_nil ?_
    refine c_rt ?_
    obtain rfl := Option.some.inj e
    exact ⟨.inr rfl, _, (ar1 rfl), rfl, (s4.weak (g1.trans g2) hs.zv)⟩
  replace e := if_f q7 e
  refine c_sk ?_
  refine c_sr ?_
  refine o_mv (v := (vi 0)) rfl ?_
  refine c_nil ?_
  refine c_rt ?_
  obtain rfl := Option.some.inj e
  exact ⟨.inr rfl, _, (ar1 rfl), rfl, (s4.weak (g1.trans g2) hs.zv)⟩
/-! slices_Compare_int_int -/
structure Nd.slices_Compare_int_int (T : FuncId → Option AFunc) : Prop where
  own : Has T I.slices_Compare_int_int F.slices_Compare_int_int
  cmp_Compare_int : Nd.cmp_Compare_int T
set_option maxHeartbeats 1000000 in
theorem X.slices_Compare_int_int {T : FuncId → Option AFunc} (nd : Nd.slices_Compare_int_int T) {Z V : PH} {H : Hp} {v1 : Value} {v2 : Value} {a0 : (List Int)} {a1 : (List Int)} (hs : Sat Z V H []) (hp1 : RdS Sh.int V v1 a0) (hp2 : RdS Sh.int V v2 a1) {r : Int} (e : P.slices_Compare_int_int a0 a1 = some r) :
    G T I.slices_Compare_int_int [v1, v2] H (fun rv H' => rv = (vi r) ∧ Sat Z V H' []) := by
  unfold P.slices_Compare_int_int at e
  refine f_mk nd.own ?_
  refine c_sr ?_
  refine o_mv (v := (vi 0)) rfl ?_
  refine c_nil ?_
  refine c_sq ?_
  refine c_sr ?_
  refine o_mv (v := v1) rfl ?_
  refine o_len rfl (hp1).len ?_
  refine o_mv (v := (vi 0)) rfl ?_
  refine c_nil ?_
  obtain ⟨y1, q3, e⟩ := Pu.bind_some e
  refine c_jn (I := fun tm H => ∃ (s3 : Unit), y1 = .out s3 ∧ (∃ (Z2 V2 : PH), Gw Z V Z2 V2 ∧ Sat Z2 V2 H [] ∧ tm 0 = v1 ∧ tm 1 = v2 ∧ tm 9 = v1 ∧ tm 10 = (vi (a0.length : Int)))) (fun k4 => ?_) ?_
  · refine c_bk ?_
    refine l_forL (xs := a0) (fun (i1 : Nat) (s1 : Unit) tm H => tm 11 = vi i1 ∧ ∃ (Z1 V1 : PH), Gw Z V Z1 V1 ∧ Sat Z1 V1 H [] ∧ tm 0 = v1 ∧ tm 1 = v2 ∧ tm 9 = v1 ∧ tm 10 = (vi (a0.length : Int))) (fun i1 x1 s1 y2 tm H2 q1 q2 j1 e1 k1 k2 k3 => ?_) (fun s1 tm H1 jf jd => ?_) q3 ⟨rfl, _, _, Gw.refl _ _, hs, rfl, rfl, rfl, rfl⟩
    · obtain ⟨hti0, Z1, V1, g1, s2, h1, h2, h3, h4⟩ := j1
      unfold P.slices_Compare_int_int.b0 at e1
      refine c_sr ?_
      refine o_lss hti0 h4 ?_
      refine c_nil ?_
      refine c_sq ?_
      refine c_ift rfl (Int.ofNat_lt.2 q2) ?_
      refine c_sk ?_
      refine c_sq ?_
      refine c_bk ?_
      refine c_sr ?_
      refine o_mv (v := (vi (i1 : Int))) hti0 ?_
      refine o_idx (v := v1) h3 hti0 (hp1.mono g1.v) rfl (Pu.ix_nat.trans q1) fun p1 q4 => ?_
      refine o_ldi rfl (hp1.mono g1.v) s2.v q4 (Pu.ix_nat.trans q1) ?_
      refine o_mv (v := (vi (i1 : Int))) rfl ?_
      refine o_mv (v := (vi x1)) rfl ?_
      refine c_nil ?_
      refine c_sq ?_
      refine c_sr ?_
      refine o_mv (v := (vi (i1 : Int))) rfl ?_
      refine o_mv (v := v2) h2 ?_
      refine o_len rfl ((hp2.mono g1.v)).len ?_
      refine o_geq rfl rfl ?_
      refine c_nil ?_
      refine c_gen (P := fun tm => tm 0 = v1 ∧ tm 1 = v2 ∧ tm 5 = (vi (i1 : Int)) ∧ tm 6 = (vi x1) ∧ tm 9 = v1 ∧ tm 10 = (vi (a0.length : Int)) ∧ tm 11 = (vi (i1 : Int)) ∧ tm 19 = (.bool (decide ((a1.length : Int) ≤ (i1 : Int)))) ∧ True) ⟨h1, h2, rfl, rfl, h3, h4, hti0, rfl, trivial⟩ ?_
      intro _ i2
      obtain ⟨h9, h10, h11, h12, h13, h14, h15, h16, -⟩ := i2
      refine c_ifd h16 (fun q5 => ?_) (fun q5 => ?_)
      · replace e1 := if_t q5 e1
        refine c_sr ?_
        refine o_mv (v := (vi 1)) rfl ?_
        refine c_nil ?_
        refine c_rt ?_
        have e2 := fin_r (k3 _ (Option.some.inj e1).symm) e
        obtain rfl := Option.some.inj e2
        exact ⟨.inr rfl, _, (ar1 rfl), rfl, (s2.weak g1 hs.zv)⟩
      replace e1 := if_f q5 e1
      refine c_sk ?_
      refine c_sr ?_
      refine o_mv (v := v2) h10 ?_
      refine o_mv (v := (vi (i1 : Int))) h11 ?_
      obtain ⟨x2, q6, e1⟩ := Pu.bind_some e1
      refine o_idx (v := v2) rfl rfl (hp2.mono g1.v) rfl q6 fun p2 q7 => ?_
      refine o_ldi rfl (hp2.mono g1.v) s2.v q7 q6 ?_
      refine o_mv (v := (vi x2)) rfl ?_
      refine c_nil ?_
      refine c_sr ?_
      refine o_mv (v := (vi x1)) h12 ?_
      refine o_mv (v := (vi x2)) rfl ?_
      obtain ⟨x3, q8, e1⟩ := Pu.bind_some e1
      obtain ⟨Z3, V3, W1, g3, u1, c1, c2, -, c4, c3⟩ := Sat.call (l1 := []) s2
      refine o_call (mc rfl (mc rfl m0)) (X.cmp_Compare_int nd.cmp_Compare_int c1 q8) fun _ H4 i3 => ?_
      obtain ⟨rfl, s5⟩ := i3
      have s6 := c3 _ _ s5
      refine o_mv (v := (vi x3)) rfl ?_
      refine c_nil ?_
      refine c_sr ?_
      refine o_mv (v := (vi x3)) rfl ?_
      refine o_neq rfl rfl ?_
      refine c_nil ?_
      refine c_gen (P := fun tm => tm 0 = v1 ∧ tm 1 = v2 ∧ tm 8 = (vi x3) ∧ tm 9 = v1 ∧ tm 10 = (vi (a0.length : Int)) ∧ tm 11 = (vi (i1 : Int)) ∧ tm 28 = (.bool (decide (x3 ≠ 0))) ∧ True) ⟨h9, h10, rfl, h13, h14, h15, rfl, trivial⟩ ?_
      intro _ i4
      obtain ⟨h17, h18, h19, h20, h21, h22, h23, -⟩ := i4
      refine c_ifd h23 (fun q9 => ?_) (fun q9 => ?_)
      · replace e1 := if_t q9 e1
        refine c_sr ?_
        refine o_mv (v := (vi x3)) h19 ?_
        refine o_mv (v := (vi x3)) rfl ?_
        refine c_nil ?_
        refine c_rt ?_
        have e3 := fin_r (k3 _ (Option.some.inj e1).symm) e
        obtain rfl := Option.some.inj e3
        exact ⟨.inr rfl, _, (ar1 rfl), rfl, (s6.weak (g1.trans g3) hs.zv)⟩
      replace e1 := if_f q9 e1
      refine c_sk ?_
      refine c_end ?_
      refine c_r ?_
      refine o_add h22 rfl ?_
      refine o_mv (v := (vi (Pu.W ((i1 : Int) + 1)))) rfl ?_
      refine c_nil ?_
      exact k1 _ _ _ (Option.some.inj e1).symm ⟨(iv rfl (w_suc q2 (hp1).bd)), _, _, (g1.trans g3), s6, h17, h18, h20, h21⟩
    · obtain ⟨hte0, Z4, V4, g4, s7, h24, h25, h26, h27⟩ := jd
      refine c_sr ?_
      refine o_lss hte0 h27 ?_
      refine c_nil ?_
      refine c_sq ?_
      refine c_iff rfl (Int.lt_irrefl _) ?_
      refine c_ex ?_
      refine e_c ?_
      refine e_c ?_
      refine e_h ?_
      exact k4 _ _ ⟨_, jf, _, _, g4, s7, h24, h25, h26, h27⟩
  intro _ H3 i5
  obtain ⟨s3, f1, Z2, V2, g2, s4, h5, h6, h7, h8⟩ := i5
  replace e := fin_o f1 e
  refine c_sq ?_
  refine c_sr ?_
  refine o_mv (v := v1) h5 ?_
  refine o_len rfl ((hp1.mono g2.v)).len ?_
  refine o_mv (v := v2) h6 ?_
  refine o_len rfl ((hp2.mono g2.v)).len ?_
  refine o_lss rfl rfl ?_
  refine c_nil ?_
  refine c_ifd rfl (fun q10 => ?_) (fun q10 => ?_)
  · replace e := if_t q10 e
    refine c_sr ?_
    refine o_mv (v := (vi (-1))) rfl ?_
    refine c_nil ?_
    refine c_rt ?_
    obtain rfl := Option.some.inj e
    exact ⟨.inr rfl, _, (ar1 rfl), rfl, (s4.weak g2 hs.zv)⟩
  replace e := if_f q10 e
  refine c_sk ?_
  refine c_sr ?_
  refine o_mv (v := (vi 0)) rfl ?_
  refine c_nil ?_
  refine c_rt ?_
  obtain rfl := Option.some.inj e
  exact ⟨.inr rfl, _, (ar1 rfl), rfl, (s4.weak g2 hs.zv)⟩
/-! shrink_Word__parlkeep5_ShrinkAgain_1 -/
structure Nd.shrink_Word__parlkeep5_ShrinkAgain_1 (T : FuncId → Option AFunc) : Prop where
  own : Has T I.shrink_Word F.shrink_Word
  shrink_without : Nd.shrink_without T
  parlkeep5_ShrinkAgain_1 : Nd.parlkeep5_ShrinkAgain_1 T
set_option maxHeartbeats 1000000 in
theorem X.shrink_Word__parlkeep5_ShrinkAgain_1 {T : FuncId → Option AFunc} (nd : Nd.shrink_Word__parlkeep5_ShrinkAgain_1 T) {φ : Nat} {Z V : PH} {H : Hp} {v1 : Value} {a0 : (List Int)} (hs : Sat Z V H []) (hp1 : RdS Sh.int V v1 a0) {r : ((List Int) × Int)} (e : P.shrink_Word__parlkeep5_ShrinkAgain_1 φ a0 = some r) :
    G T I.shrink_Word [v1, (.func (.func I.parlkeep5_ShrinkAgain_1) #[] #[])] H (fun rv H' => ∃ (u1 : Value), rv = (.tuple #[u1, (vi r.2)]) ∧ Sat Z V H' [It.sl Sh.int u1 r.1]) := by
  unfold P.shrink_Word__parlkeep5_ShrinkAgain_1 at e
  refine f_mk nd.own ?_
  refine c_sr ?_
  refine o_mv (v := (.slice none 0 0)) rfl ?_
  refine o_mv (v := (vi 0)) rfl ?_
  refine c_nil ?_
  refine c_sq ?_
  refine c_sr ?_
  refine o_mv (v := v1) rfl ?_
  refine o_len rfl (hp1).len ?_
  refine o_gtr rfl rfl ?_
  refine c_nil ?_
  refine c_ifd rfl (fun q1 => ?_) (fun q1 => ?_)
  · replace e := if_t q1 e
    refine c_sr ?_
    refine o_mv (v := (.slice none 0 0)) rfl ?_
    refine o_mv (v := (vi 2)) rfl ?_
    refine c_nil ?_
    refine c_rt ?_
    obtain rfl := Option.some.inj e
    exact ⟨.inr rfl, _, (ar2 rfl rfl), _, rfl, (hs.push (sl_nil (s := Sh.int)))⟩
  replace e := if_f q1 e
  refine c_sk ?_
  refine c_sq ?_
  refine c_sr ?_
  refine o_mv (v := (.func (.func I.parlkeep5_ShrinkAgain_1) #[] #[])) rfl ?_
  refine o_mv (v := v1) rfl ?_
  refine o_mv (v := v1) rfl ?_
  refine o_len rfl (hp1).len ?_
  obtain ⟨x1, q2, e⟩ := Pu.bind_some e
  obtain ⟨Z1, V1, W1, g1, u1, c1, c2, -, c4, c3⟩ := Sat.call (l1 := []) hs
  refine o_call (mc rfl (mc rfl m0)) (X.shrink_without nd.shrink_without c1 (hp1.mono (g1.v.trans u1)) q2) fun w1 H1 i1 => ?_
  obtain ⟨_, rfl, s1⟩ := i1
  have s2 := c3 _ _ s1
  obtain ⟨x2, q3, e⟩ := Pu.bind_some e
  obtain ⟨Z2, V2, W2, g2, u2, c5, c6, -, c8, c7⟩ := Sat.call (l1 := []) s2
  refine o_callv rfl (mc rfl m0) (X.parlkeep5_ShrinkAgain_1 nd.parlkeep5_ShrinkAgain_1 c5 (c6 0 _ Sh.int _ _ rfl) q3) fun _ H2 i2 => ?_
  obtain ⟨rfl, s3⟩ := i2
  have s4 := c7 _ _ s3
  refine o_not rfl ?_
  refine c_nil ?_
  refine c_gen (P := fun tm => tm 0 = v1 ∧ tm 1 = (.func (.func I.parlkeep5_ShrinkAgain_1) #[] #[]) ∧ tm 17 = (.bool (!x2)) ∧ True) ⟨rfl, rfl, rfl, trivial⟩ ?_
  intro _ i3
  obtain ⟨h1, h2, h3, -⟩ := i3
  refine c_if h3 (fun q4 => ?_) (fun q4 => ?_)
  · replace e := if_t q4 e
    refine c_sr ?_
    refine o_mv (v := (.slice none 0 0)) rfl ?_
    refine o_mv (v := (vi 7)) rfl ?_
    refine c_nil ?_
    refine c_rt ?_
    obtain rfl := Option.some.inj e
    exact ⟨.inr rfl, _, (ar2 rfl rfl), _, rfl, (((s4.push (sl_nil (s := Sh.int))).pick [0] rfl).weak (g1.trans g2) hs.zv)⟩
  replace e := ib_f q4 e
  refine c_sk ?_
  refine c_sr ?_
  refine o_mv (v := v1) h1 ?_
  refine o_mv (v := v1) h1 ?_
  refine o_len rfl ((hp1.mono (g1.trans g2).v)).len ?_
  obtain ⟨x3, q5, e⟩ := Pu.bind_some e
  obtain ⟨Z3, V3, W3, g3, u3, c9, c10, -, c12, c11⟩ := Sat.call (l1 := []) s4
  refine o_call (mc rfl (mc rfl m0)) (X.shrink_without nd.shrink_without c9 (hp1.mono (((g1.trans g2).trans g3).v.trans u3)) q5) fun w2 H3 i4 => ?_
  obtain ⟨_, rfl, s5⟩ := i4
  have s6 := c11 _ _ s5
  refine o_mv (v := w2) rfl ?_
  refine c_nil ?_
  refine c_sq ?_
  refine c_sr ?_
  refine o_mv (v := (vi 0)) rfl ?_
  refine c_nil ?_
  obtain ⟨y1, q8, e⟩ := Pu.bind_some e
  refine c_jn (I := fun tm H => ∃ (s9 : ((List Int) × Int)), y1 = .out s9 ∧ (∃ (Z5 V5 : PH) (w4 : Value), Gw Z3 V3 Z5 V5 ∧ Sat Z5 V5 H [It.sl Sh.int w4 s9.1] ∧ tm 0 = w4 ∧ tm 1 = (.func (.func I.parlkeep5_ShrinkAgain_1) #[] #[]) ∧ tm 6 = (vi s9.2))) (fun k4 => ?_) ?_
  · refine c_bk ?_
    refine l_whl (fun (s7 : ((List Int) × Int)) tm H => ∃ (Z4 V4 : PH) (w3 : Value), Gw Z3 V3 Z4 V4 ∧ Sat Z4 V4 H [It.sl Sh.int w3 s7.1] ∧ tm 0 = w3 ∧ tm 1 = (.func (.func I.parlkeep5_ShrinkAgain_1) #[] #[]) ∧ tm 6 = (vi s7.2)) (fun s7 y2 tm H5 j1 e1 k1 k2 k3 => ?_) q8 ⟨_, _, _, Gw.refl _ _, (s6.pick [0] rfl), rfl, h2, rfl⟩
    obtain ⟨Z4, V4, w3, g4, s8, h4, h5, h6⟩ := j1
    unfold P.shrink_Word__parlkeep5_ShrinkAgain_1.b0 at e1
    refine c_sq ?_
    refine c_sr ?_
    refine o_mv (v := (vi s7.2)) h6 ?_
    refine o_mv (v := w3) h4 ?_
    refine o_len rfl ((s8.curS (s := Sh.int) 0 rfl)).len ?_
    refine o_lss rfl rfl ?_
    refine c_nil ?_
    refine c_ifd rfl (fun q9 => ?_) (fun q9 => ?_)
    · replace e1 := if_t q9 e1
      refine c_sk ?_
      refine c_bk ?_
      refine c_sr ?_
      refine o_mv (v := w3) h4 ?_
      refine o_mv (v := (vi s7.2)) h6 ?_
      obtain ⟨x5, q10, e1⟩ := Pu.bind_some e1
      obtain ⟨Z6, V6, W4, g6, u4, c13, c14, -, c16, c15⟩ := Sat.call (l1 := []) s8
      refine o_call (mc rfl (mc rfl m0)) (X.shrink_without nd.shrink_without c13 (c14 0 _ Sh.int _ _ rfl) q10) fun w5 H7 i6 => ?_
      obtain ⟨_, rfl, s11⟩ := i6
      have s12 := c15 _ _ s11
      refine o_mv (v := w5) rfl ?_
      refine c_nil ?_
      refine c_sr ?_
      refine o_mv (v := (.func (.func I.parlkeep5_ShrinkAgain_1) #[] #[])) h5 ?_
      refine o_mv (v := w5) rfl ?_
      refine o_mv (v := w5) rfl ?_
      refine o_len rfl ((s12.curS (s := Sh.int) 0 rfl)).len ?_
      obtain ⟨x6, q11, e1⟩ := Pu.bind_some e1
      obtain ⟨Z7, V7, W5, g7, u5, c17, c18, -, c20, c19⟩ := Sat.call (l1 := []) s12
      refine o_call (mc rfl (mc rfl m0)) (X.shrink_without nd.shrink_without c17 (c18 0 _ Sh.int _ _ rfl) q11) fun w6 H8 i7 => ?_
      obtain ⟨_, rfl, s13⟩ := i7
      have s14 := c19 _ _ s13
      obtain ⟨x7, q12, e1⟩ := Pu.bind_some e1
      obtain ⟨Z8, V8, W6, g8, u6, c21, c22, -, c24, c23⟩ := Sat.call (l1 := []) s14
      refine o_callv rfl (mc rfl m0) (X.parlkeep5_ShrinkAgain_1 nd.parlkeep5_ShrinkAgain_1 c21 (c22 0 _ Sh.int _ _ rfl) q12) fun _ H9 i8 => ?_
      obtain ⟨rfl, s15⟩ := i8
      have s16 := c23 _ _ s15
      refine c_nil ?_
      refine c_gen (P := fun tm => tm 0 = w3 ∧ tm 1 = (.func (.func I.parlkeep5_ShrinkAgain_1) #[] #[]) ∧ tm 6 = (vi s7.2) ∧ tm 7 = w5 ∧ tm 34 = (.bool x7) ∧ True) ⟨h4, h5, h6, rfl, rfl, trivial⟩ ?_
      intro _ i9
      obtain ⟨h10, h11, h12, h13, h14, -⟩ := i9
      obtain ⟨y3, e2, e1⟩ := Pu.bind_some e1
      refine c_jn (I := fun tm H => ∃ (Z9 V9 : PH) (w7 : Value), Gw Z8 V8 Z9 V9 ∧ Sat Z9 V9 H [It.sl Sh.int w7 y3.1] ∧ tm 0 = w7 ∧ tm 1 = (.func (.func I.parlkeep5_ShrinkAgain_1) #[] #[]) ∧ tm 6 = (vi y3.2)) (fun k5 => ?_) ?_
      · refine c_if h14 (fun q13 => ?_) (fun q13 => ?_)
        · replace e2 := if_t q13 e2
          refine c_r ?_
          refine o_mv (v := w5) h13 ?_
          refine o_mv (v := w5) rfl ?_
          refine o_mv (v := (vi 0)) rfl ?_
          refine c_nil ?_
          obtain rfl := Option.some.inj e2
          exact k5 _ _ ⟨_, _, _, Gw.refl _ _, (s16.pick [1] rfl), rfl, h11, rfl⟩
        replace e2 := ib_f q13 e2
        refine c_r ?_
        refine o_mv (v := (vi s7.2)) h12 ?_
        refine o_add rfl rfl ?_
        refine o_mv (v := (vi (Pu.W (s7.2 + 1)))) rfl ?_
        refine c_nil ?_
        obtain rfl := Option.some.inj e2
        exact k5 _ _ ⟨_, _, _, Gw.refl _ _, (s16.pick [2] rfl), h10, h11, rfl⟩
      intro _ H10 i10
      obtain ⟨Z9, V9, w7, g9, s17, h15, h16, h17⟩ := i10
      refine c_end ?_
      exact k1 _ _ _ (Option.some.inj e1).symm ⟨_, _, _, (g4.trans (g6.trans (g7.trans (g8.trans g9)))), s17, h15, h16, h17⟩
    replace e1 := if_f q9 e1
    refine c_ex ?_
    refine e_c ?_
    refine e_c ?_
    refine e_h ?_
    exact k4 _ _ ⟨_, k2 _ (Option.some.inj e1).symm, _, _, _, g4, s8, h4, h5, h6⟩
  intro _ H6 i11
  obtain ⟨s9, f1, Z5, V5, w4, g5, s10, h7, h8, h9⟩ := i11
  replace e := fin_o f1 e
  refine c_sr ?_
  refine o_mv (v := w4) h7 ?_
  refine o_mv (v := w4) rfl ?_
  refine o_mv (v := (vi 0)) rfl ?_
  refine c_nil ?_
  refine c_rt ?_
  obtain rfl := Option.some.inj e
  exact ⟨.inr rfl, _, (ar2 rfl rfl), _, rfl, (s10.weak (g1.trans (g2.trans (g3.trans g5))) hs.zv)⟩
/-! shrink_Word__parlkeep5_fails_1 -/
structure Nd.shrink_Word__parlkeep5_fails_1 (T : FuncId → Option AFunc) : Prop where
  own : Has T I.shrink_Word F.shrink_Word
  shrink_without : Nd.shrink_without T
  parlkeep5_fails_1 : Nd.parlkeep5_fails_1 T
set_option maxHeartbeats 1000000 in
theorem X.shrink_Word__parlkeep5_fails_1 {T : FuncId → Option AFunc} (nd : Nd.shrink_Word__parlkeep5_fails_1 T) {φ : Nat} {Z V : PH} {H : Hp} {v1 : Value} {o1 : Nat} {o2 : Nat} {a0 : (List Int)} {a1c0 : Int} {a1c1 : Int} (hs : Sat Z V H [pts o1 (.rw 0 [(vi a1c0)]), pts o2 (.rw 0 [(vi a1c1)])]) (hp1 : RdS Sh.int V v1 a0) {r : ((List Int) × Int)} (e : P.shrink_Word__parlkeep5_fails_1 φ a0 a1c0 a1c1 = some r) :
    G T I.shrink_Word [v1, (.func (.func I.parlkeep5_fails_1) #[] #[(.pointer (some ⟨o1, 0, none⟩)), (.pointer (some ⟨o2, 0, none⟩))])] H (fun rv H' => ∃ (u1 : Value), rv = (.tuple #[u1, (vi r.2)]) ∧ Sat Z V H' [pts o1 (.rw 0 [(vi a1c0)]), pts o2 (.rw 0 [(vi a1c1)]), It.sl Sh.int u1 r.1]) := by
  unfold P.shrink_Word__parlkeep5_fails_1 at e
  refine f_mk nd.own ?_
  refine c_sr ?_
  refine o_mv (v := (.slice none 0 0)) rfl ?_
  refine o_mv (v := (vi 0)) rfl ?_
  refine c_nil ?_
  refine c_sq ?_
  refine c_sr ?_
  refine o_mv (v := v1) rfl ?_
  refine o_len rfl (hp1).len ?_
  refine o_gtr rfl rfl ?_
  refine c_nil ?_
  refine c_ifd rfl (fun q1 => ?_) (fun q1 => ?_)
  · replace e := if_t q1 e
    refine c_sr ?_
    refine o_mv (v := (.slice none 0 0)) rfl ?_
    refine o_mv (v := (vi 2)) rfl ?_
    refine c_nil ?_
    refine c_rt ?_
    obtain rfl := Option.some.inj e
    exact ⟨.inr rfl, _, (ar2 rfl rfl), _, rfl, ((hs.push (sl_nil (s := Sh.int))).pick [1, 2, 0] rfl)⟩
  replace e := if_f q1 e
  refine c_sk ?_
  refine c_sq ?_
  refine c_sr ?_
  refine o_mv (v := (.func (.func I.parlkeep5_fails_1) #[] #[(.pointer (some ⟨o1, 0, none⟩)), (.pointer (some ⟨o2, 0, none⟩))])) rfl ?_
  refine o_mv (v := v1) rfl ?_
  refine o_mv (v := v1) rfl ?_
  refine o_len rfl (hp1).len ?_
  obtain ⟨x1, q2, e⟩ := Pu.bind_some e
  obtain ⟨Z1, V1, W1, g1, u1, c1, c2, -, c4, c3⟩ := Sat.call (l1 := []) hs
  refine o_call (mc rfl (mc rfl m0)) (X.shrink_without nd.shrink_without c1 (hp1.mono (g1.v.trans u1)) q2) fun w1 H1 i1 => ?_
  obtain ⟨_, rfl, s1⟩ := i1
  have s2 := c3 _ _ s1
  obtain ⟨x2, q3, e⟩ := Pu.bind_some e
  obtain ⟨Z2, V2, W2, g2, u2, c5, c6, -, c8, c7⟩ := Sat.call (l1 := [pts o1 (.rw 0 [(vi a1c0)]), pts o2 (.rw 0 [(vi a1c1)])]) (l2 := [It.sl Sh.int w1 x1]) (s2.pick [1, 2, 0] rfl)
  refine o_callv rfl (mc rfl m0) (X.parlkeep5_fails_1 nd.parlkeep5_fails_1 (a1 := a1c0) (a2 := a1c1) c5 (c6 0 _ Sh.int _ _ rfl) q3) fun _ H2 i2 => ?_
  obtain ⟨rfl, s3⟩ := i2
  have s4 := c7 _ _ s3
  refine o_not rfl ?_
  refine c_nil ?_
  refine c_gen (P := fun tm => tm 0 = v1 ∧ tm 1 = (.func (.func I.parlkeep5_fails_1) #[] #[(.pointer (some ⟨o1, 0, none⟩)), (.pointer (some ⟨o2, 0, none⟩))]) ∧ tm 17 = (.bool (!x2)) ∧ True) ⟨rfl, rfl, rfl, trivial⟩ ?_
  intro _ i3
  obtain ⟨h1, h2, h3, -⟩ := i3
  refine c_if h3 (fun q4 => ?_) (fun q4 => ?_)
  · replace e := if_t q4 e
    refine c_sr ?_
    refine o_mv (v := (.slice none 0 0)) rfl ?_
    refine o_mv (v := (vi 7)) rfl ?_
    refine c_nil ?_
    refine c_rt ?_
    obtain rfl := Option.some.inj e
    exact ⟨.inr rfl, _, (ar2 rfl rfl), _, rfl, (((s4.push (sl_nil (s := Sh.int))).pick [1, 2, 0] rfl).weak (g1.trans g2) hs.zv)⟩
  replace e := ib_f q4 e
  refine c_sk ?_
  refine c_sr ?_
  refine o_mv (v := v1) h1 ?_
  refine o_mv (v := v1) h1 ?_
  refine o_len rfl ((hp1.mono (g1.trans g2).v)).len ?_
  obtain ⟨x3, q5, e⟩ := Pu.bind_some e
  obtain ⟨Z3, V3, W3, g3, u3, c9, c10, -, c12, c11⟩ := Sat.call (l1 := []) s4
  refine o_call (mc rfl (mc rfl m0)) (X.shrink_without nd.shrink_without c9 (hp1.mono (((g1.trans g2).trans g3).v.trans u3)) q5) fun w2 H3 i4 => ?_
  obtain ⟨_, rfl, s5⟩ := i4
  have s6 := c11 _ _ s5
  refine o_mv (v := w2) rfl ?_
  refine c_nil ?_
  refine c_sq ?_
  refine c_sr ?_
  refine o_mv (v := (vi 0)) rfl ?_
  refine c_nil ?_
  obtain ⟨y1, q8, e⟩ := Pu.bind_some e
  refine c_jn (I := fun tm H => ∃ (s9 : ((List Int) × Int)), y1 = .out s9 ∧ (∃ (Z5 V5 : PH) (w4 : Value), Gw Z3 V3 Z5 V5 ∧ Sat Z5 V5 H [pts o1 (.rw 0 [(vi a1c0)]), pts o2 (.rw 0 [(vi a1c1)]), It.sl Sh.int w4 s9.1] ∧ tm 0 = w4 ∧ tm 1 = (.func (.func I.parlkeep5_fails_1) #[] #[(.pointer (some ⟨o1, 0, none⟩)), (.pointer (some ⟨o2, 0, none⟩))]) ∧ tm 6 = (vi s9.2))) (fun k4 => ?_) ?_
  · refine c_bk ?_
    refine l_whl (fun (s7 : ((List Int) × Int)) tm H => ∃ (Z4 V4 : PH) (w3 : Value), Gw Z3 V3 Z4 V4 ∧ Sat Z4 V4 H [pts o1 (.rw 0 [(vi a1c0)]), pts o2 (.rw 0 [(vi a1c1)]), It.sl Sh.int w3 s7.1] ∧ tm 0 = w3 ∧ tm 1 = (.func (.func I.parlkeep5_fails_1) #[] #[(.pointer (some ⟨o1, 0, none⟩)), (.pointer (some ⟨o2, 0, none⟩))]) ∧ tm 6 = (vi s7.2)) (fun s7 y2 tm H5 j1 e1 k1 k2 k3 => ?_) q8 ⟨_, _, _, Gw.refl _ _, (s6.pick [1, 2, 0] rfl), rfl, h2, rfl⟩
    obtain ⟨Z4, V4, w3, g4, s8, h4, h5, h6⟩ := j1
    unfold P.shrink_Word__parlkeep5_fails_1.b0 at e1
    refine c_sq ?_
    refine c_sr ?_
    refine o_mv (v := (vi s7.2)) h6 ?_
    refine o_mv (v := w3) h4 ?_
    refine o_len rfl ((s8.curS (s := Sh.int) 2 rfl)).len ?_
    refine o_lss rfl rfl ?_
    refine c_nil ?_
    refine c_ifd rfl (fun q9 => ?_) (fun q9 => ?_)
    · replace e1 := if_t q9 e1
      refine c_sk ?_
      refine c_bk ?_
      refine c_sr ?_
      refine o_mv (v := w3) h4 ?_
      refine o_mv (v := (vi s7.2)) h6 ?_
      obtain ⟨x5, q10, e1⟩ := Pu.bind_some e1
      obtain ⟨Z6, V6, W4, g6, u4, c13, c14, -, c16, c15⟩ := Sat.call (l1 := []) s8
      refine o_call (mc rfl (mc rfl m0)) (X.shrink_without nd.shrink_without c13 (c14 2 _ Sh.int _ _ rfl) q10) fun w5 H7 i6 => ?_
      obtain ⟨_, rfl, s11⟩ := i6
      have s12 := c15 _ _ s11
      refine o_mv (v := w5) rfl ?_
      refine c_nil ?_
      refine c_sr ?_
      refine o_mv (v := (.func (.func I.parlkeep5_fails_1) #[] #[(.pointer (some ⟨o1, 0, none⟩)), (.pointer (some ⟨o2, 0, none⟩))])) h5 ?_
      refine o_mv (v := w5) rfl ?_
      refine o_mv (v := w5) rfl ?_
      refine o_len rfl ((s12.curS (s := Sh.int) 0 rfl)).len ?_
      obtain ⟨x6, q11, e1⟩ := Pu.bind_some e1
      obtain ⟨Z7, V7, W5, g7, u5, c17, c18, -, c20, c19⟩ := Sat.call (l1 := []) s12
      refine o_call (mc rfl (mc rfl m0)) (X.shrink_without nd.shrink_without c17 (c18 0 _ Sh.int _ _ rfl) q11) fun w6 H8 i7 => ?_
      obtain ⟨_, rfl, s13⟩ := i7
      have s14 := c19 _ _ s13
      obtain ⟨x7, q12, e1⟩ := Pu.bind_some e1
      obtain ⟨Z8, V8, W6, g8, u6, c21, c22, -, c24, c23⟩ := Sat.call (l1 := [pts o1 (.rw 0 [(vi a1c0)]), pts o2 (.rw 0 [(vi a1c1)])]) (l2 := [It.sl Sh.int w6 x6, It.sl Sh.int w5 x5, It.sl Sh.int w3 s7.1]) (s14.pick [2, 3, 0, 1, 4] rfl)
      refine o_callv rfl (mc rfl m0) (X.parlkeep5_fails_1 nd.parlkeep5_fails_1 (a1 := a1c0) (a2 := a1c1) c21 (c22 0 _ Sh.int _ _ rfl) q12) fun _ H9 i8 => ?_
      obtain ⟨rfl, s15⟩ := i8
      have s16 := c23 _ _ s15
      refine c_nil ?_
      refine c_gen (P := fun tm => tm 0 = w3 ∧ tm 1 = (.func (.func I.parlkeep5_fails_1) #[] #[(.pointer (some ⟨o1, 0, none⟩)), (.pointer (some ⟨o2, 0, none⟩))]) ∧ tm 6 = (vi s7.2) ∧ tm 7 = w5 ∧ tm 34 = (.bool x7) ∧ True) ⟨h4, h5, h6, rfl, rfl, trivial⟩ ?_
      intro _ i9
      obtain ⟨h10, h11, h12, h13, h14, -⟩ := i9
      obtain ⟨y3, e2, e1⟩ := Pu.bind_some e1
      refine c_jn (I := fun tm H => ∃ (Z9 V9 : PH) (w7 : Value), Gw Z8 V8 Z9 V9 ∧ Sat Z9 V9 H [pts o1 (.rw 0 [(vi a1c0)]), pts o2 (.rw 0 [(vi a1c1)]), It.sl Sh.int w7 y3.1] ∧ tm 0 = w7 ∧ tm 1 = (.func (.func I.parlkeep5_fails_1) #[] #[(.pointer (some ⟨o1, 0, none⟩)), (.pointer (some ⟨o2, 0, none⟩))]) ∧ tm 6 = (vi y3.2)) (fun k5 => ?_) ?_
      · refine c_if h14 (fun q13 => ?_) (fun q13 => ?_)
        · replace e2 := if_t q13 e2
          refine c_r ?_
          refine o_mv (v := w5) h13 ?_
          refine o_mv (v := w5) rfl ?_
          refine o_mv (v := (vi 0)) rfl ?_
          refine c_nil ?_
          obtain rfl := Option.some.inj e2
          exact k5 _ _ ⟨_, _, _, Gw.refl _ _, (s16.pick [0, 1, 3] rfl), rfl, h11, rfl⟩
        replace e2 := ib_f q13 e2
        refine c_r ?_
        refine o_mv (v := (vi s7.2)) h12 ?_
        refine o_add rfl rfl ?_
        refine o_mv (v := (vi (Pu.W (s7.2 + 1)))) rfl ?_
        refine c_nil ?_
        obtain rfl := Option.some.inj e2
        exact k5 _ _ ⟨_, _, _, Gw.refl _ _, (s16.pick [0, 1, 4] rfl), h10, h11, rfl⟩
      intro _ H10 i10
      obtain ⟨Z9, V9, w7, g9, s17, h15, h16, h17⟩ := i10
      refine c_end ?_
      exact k1 _ _ _ (Option.some.inj e1).symm ⟨_, _, _, (g4.trans (g6.trans (g7.trans (g8.trans g9)))), s17, h15, h16, h17⟩
    replace e1 := if_f q9 e1
    refine c_ex ?_
    refine e_c ?_
    refine e_c ?_
    refine e_h ?_
    exact k4 _ _ ⟨_, k2 _ (Option.some.inj e1).symm, _, _, _, g4, s8, h4, h5, h6⟩
  intro _ H6 i11
  obtain ⟨s9, f1, Z5, V5, w4, g5, s10, h7, h8, h9⟩ := i11
  replace e := fin_o f1 e
  refine c_sr ?_
  refine o_mv (v := w4) h7 ?_
  refine o_mv (v := w4) rfl ?_
  refine o_mv (v := (vi 0)) rfl ?_
  refine c_nil ?_
  refine c_rt ?_
  obtain rfl := Option.some.inj e
  exact ⟨.inr rfl, _, (ar2 rfl rfl), _, rfl, (s10.weak (g1.trans (g2.trans (g3.trans g5))) hs.zv)⟩
/-! shrink_Lower__parlkeep5_fails_1 -/
structure Nd.shrink_Lower__parlkeep5_fails_1 (T : FuncId → Option AFunc) : Prop where
  own : Has T I.shrink_Lower F.shrink_Lower
  shrink_without : Nd.shrink_without T
  parlkeep5_fails_1 : Nd.parlkeep5_fails_1 T
set_option maxHeartbeats 1000000 in
theorem X.shrink_Lower__parlkeep5_fails_1 {T : FuncId → Option AFunc} (nd : Nd.shrink_Lower__parlkeep5_fails_1 T) {φ : Nat} {Z V : PH} {H : Hp} {v1 : Value} {o1 : Nat} {o2 : Nat} {a0 : (List Int)} {a1c0 : Int} {a1c1 : Int} (hs : Sat Z V H [pts o1 (.rw 0 [(vi a1c0)]), pts o2 (.rw 0 [(vi a1c1)])]) (hp1 : RdS Sh.int V v1 a0) {r : ((List Int) × Int)} (e : P.shrink_Lower__parlkeep5_fails_1 φ a0 a1c0 a1c1 = some r) :
    G T I.shrink_Lower [v1, (.func (.func I.parlkeep5_fails_1) #[] #[(.pointer (some ⟨o1, 0, none⟩)), (.pointer (some ⟨o2, 0, none⟩))])] H (fun rv H' => ∃ (u1 : Value), rv = (.tuple #[u1, (vi r.2)]) ∧ Sat Z V H' [pts o1 (.rw 0 [(vi a1c0)]), pts o2 (.rw 0 [(vi a1c1)]), It.sl Sh.int u1 r.1]) := by
  unfold P.shrink_Lower__parlkeep5_fails_1 at e
  refine f_mk nd.own ?_
  refine c_sr ?_
  refine o_mv (v := (.slice none 0 0)) rfl ?_
  refine o_mv (v := (vi 0)) rfl ?_
  refine c_nil ?_
  refine c_sq ?_
  refine c_sr ?_
  refine o_mv (v := v1) rfl ?_
  refine o_len rfl (hp1).len ?_
  refine o_gtr rfl rfl ?_
  refine c_nil ?_
  refine c_ifd rfl (fun q1 => ?_) (fun q1 => ?_)
  · replace e := if_t q1 e
    refine c_sr ?_
    refine o_mv (v := (.slice none 0 0)) rfl ?_
    refine o_mv (v := (vi 2)) rfl ?_
    refine c_nil ?_
    refine c_rt ?_
    obtain rfl := Option.some.inj e
    exact ⟨.inr rfl, _, (ar2 rfl rfl), _, rfl, ((hs.push (sl_nil (s := Sh.int))).pick [1, 2, 0] rfl)⟩
  replace e := if_f q1 e
  refine c_sk ?_
  refine c_sq ?_
  refine c_sr ?_
  refine o_mv (v := v1) rfl ?_
  refine o_len rfl (hp1).len ?_
  refine o_mv (v := (vi 0)) rfl ?_
  refine c_nil ?_
  obtain ⟨y1, q4, e⟩ := Pu.bind_some e
  refine c_jn (I := fun tm H => ∃ (s3 : Unit), y1 = .out s3 ∧ (∃ (Z2 V2 : PH), Gw Z V Z2 V2 ∧ Sat Z2 V2 H [pts o1 (.rw 0 [(vi a1c0)]), pts o2 (.rw 0 [(vi a1c1)])] ∧ tm 0 = v1 ∧ tm 1 = (.func (.func I.parlkeep5_fails_1) #[] #[(.pointer (some ⟨o1, 0, none⟩)), (.pointer (some ⟨o2, 0, none⟩))]) ∧ tm 14 = v1 ∧ tm 15 = (vi (a0.length : Int)))) (fun k4 => ?_) ?_
  · refine c_bk ?_
    refine l_forL (xs := a0) (fun (i1 : Nat) (s1 : Unit) tm H => tm 16 = vi i1 ∧ ∃ (Z1 V1 : PH), Gw Z V Z1 V1 ∧ Sat Z1 V1 H [pts o1 (.rw 0 [(vi a1c0)]), pts o2 (.rw 0 [(vi a1c1)])] ∧ tm 0 = v1 ∧ tm 1 = (.func (.func I.parlkeep5_fails_1) #[] #[(.pointer (some ⟨o1, 0, none⟩)), (.pointer (some ⟨o2, 0, none⟩))]) ∧ tm 14 = v1 ∧ tm 15 = (vi (a0.length : Int))) (fun i1 x1 s1 y2 tm H2 q2 q3 j1 e1 k1 k2 k3 => ?_) (fun s1 tm H1 jf jd => ?_) q4 ⟨rfl, _, _, Gw.refl _ _, hs, rfl, rfl, rfl, rfl⟩
    · obtain ⟨hti0, Z1, V1, g1, s2, h1, h2, h3, h4⟩ := j1
      unfold P.shrink_Lower__parlkeep5_fails_1.b0 at e1
      refine c_sr ?_
      refine o_lss hti0 h4 ?_
      refine c_nil ?_
      refine c_sq ?_
      refine c_ift rfl (Int.ofNat_lt.2 q3) ?_
      refine c_sk ?_
      refine c_sq ?_
      refine c_bk ?_
      refine c_sr ?_
      refine o_idx (v := v1) h3 hti0 (hp1.mono g1.v) rfl (Pu.ix_nat.trans q2) fun p1 q5 => ?_
      refine o_ldi rfl (hp1.mono g1.v) s2.v q5 (Pu.ix_nat.trans q2) ?_
      refine o_mv (v := (vi x1)) rfl ?_
      refine c_nil ?_
      refine c_sr ?_
      refine o_mv (v := (vi x1)) rfl ?_
      refine o_lss rfl rfl ?_
      refine o_mv (v := (.bool (decide (x1 < 0)))) rfl ?_
      refine o_jn 3 (I := fun tm H => tm 25 = .bool ((decide (x1 < 0)) || (decide (8 ≤ x1))) ∧ (∃ (Z3 V3 : PH), Gw Z1 V1 Z3 V3 ∧ Sat Z3 V3 H [pts o1 (.rw 0 [(vi a1c0)]), pts o2 (.rw 0 [(vi a1c1)])] ∧ tm 0 = v1 ∧ tm 1 = (.func (.func I.parlkeep5_fails_1) #[] #[(.pointer (some ⟨o1, 0, none⟩)), (.pointer (some ⟨o2, 0, none⟩))]) ∧ tm 14 = v1 ∧ tm 15 = (vi (a0.length : Int)) ∧ tm 16 = (vi (i1 : Int)))) (fun k5 => ?_) ?_
      · rcases Bool.eq_false_or_eq_true (decide (x1 < 0)) with q6 | q6
        · refine o_gn rfl q6 ?_
          refine o_gn rfl q6 ?_
          refine o_pickt (a := (.bool true)) rfl q6 rfl ?_
          exact k5 _ _ ⟨gf rfl (by first | (rw [q6]; first | done | rfl) | simp [q6]), _, _, Gw.refl _ _, s2, h1, h2, h3, h4, hti0⟩
        refine o_gy rfl q6 ?_
        refine o_mv (v := (vi x1)) rfl ?_
        refine o_gy rfl q6 ?_
        refine o_geq rfl rfl ?_
        refine o_pickf (b := (.bool (decide (8 ≤ x1)))) rfl q6 rfl ?_
        exact k5 _ _ ⟨gf rfl (by first | (rw [q6]; first | done | rfl) | simp [q6]), _, _, Gw.refl _ _, s2, h1, h2, h3, h4, hti0⟩
      intro _ H4 i2
      obtain ⟨h14, Z3, V3, g3, s5, h9, h10, h11, h12, h13⟩ := i2
      refine c_nil ?_
      refine c_if h14 (fun q7 => ?_) (fun q7 => ?_)
      · replace e1 := if_t q7 e1
        refine c_sr ?_
        refine o_mv (v := (.slice none 0 0)) rfl ?_
        refine o_mv (v := (vi 1)) rfl ?_
        refine c_nil ?_
        refine c_rt ?_
        have e2 := fin_r (k3 _ (Option.some.inj e1).symm) e
        obtain rfl := Option.some.inj e2
        exact ⟨.inr rfl, _, (ar2 rfl rfl), _, rfl, (((s5.push (sl_nil (s := Sh.int))).pick [1, 2, 0] rfl).weak (g1.trans g3) hs.zv)⟩
      replace e1 := ib_f q7 e1
      refine c_sk ?_
      refine c_end ?_
      refine c_r ?_
      refine o_add h13 rfl ?_
      refine o_mv (v := (vi (Pu.W ((i1 : Int) + 1)))) rfl ?_
      refine c_nil ?_
      exact k1 _ _ _ (Option.some.inj e1).symm ⟨(iv rfl (w_suc q3 (hp1).bd)), _, _, (g1.trans g3), s5, h9, h10, h11, h12⟩
    · obtain ⟨hte0, Z4, V4, g4, s6, h15, h16, h17, h18⟩ := jd
      refine c_sr ?_
      refine o_lss hte0 h18 ?_
      refine c_nil ?_
      refine c_sq ?_
      refine c_iff rfl (Int.lt_irrefl _) ?_
      refine c_ex ?_
      refine e_c ?_
      refine e_c ?_
      refine e_h ?_
      exact k4 _ _ ⟨_, jf, _, _, g4, s6, h15, h16, h17, h18⟩
  intro _ H3 i3
  obtain ⟨s3, f1, Z2, V2, g2, s4, h5, h6, h7, h8⟩ := i3
  replace e := fin_o f1 e
  refine c_sr ?_
  refine o_mv (v := v1) h5 ?_
  refine o_mv (v := v1) h5 ?_
  refine o_len rfl ((hp1.mono g2.v)).len ?_
  obtain ⟨x2, q8, e⟩ := Pu.bind_some e
  obtain ⟨Z5, V5, W1, g5, u1, c1, c2, -, c4, c3⟩ := Sat.call (l1 := []) s4
  refine o_call (mc rfl (mc rfl m0)) (X.shrink_without nd.shrink_without c1 (hp1.mono ((g2.trans g5).v.trans u1)) q8) fun w1 H6 i4 => ?_
  obtain ⟨_, rfl, s7⟩ := i4
  have s8 := c3 _ _ s7
  refine o_mv (v := w1) rfl ?_
  refine c_nil ?_
  refine c_sq ?_
  refine c_sr ?_
  refine o_mv (v := (.func (.func I.parlkeep5_fails_1) #[] #[(.pointer (some ⟨o1, 0, none⟩)), (.pointer (some ⟨o2, 0, none⟩))])) h6 ?_
  refine o_mv (v := w1) rfl ?_
  refine o_mv (v := w1) rfl ?_
  refine o_len rfl ((s8.curS (s := Sh.int) 0 rfl)).len ?_
  obtain ⟨x3, q9, e⟩ := Pu.bind_some e
  obtain ⟨Z6, V6, W2, g6, u2, c5, c6, -, c8, c7⟩ := Sat.call (l1 := []) s8
  refine o_call (mc rfl (mc rfl m0)) (X.shrink_without nd.shrink_without c5 (c6 0 _ Sh.int _ _ rfl) q9) fun w2 H7 i5 => ?_
  obtain ⟨_, rfl, s9⟩ := i5
  have s10 := c7 _ _ s9
  obtain ⟨x4, q10, e⟩ := Pu.bind_some e
  obtain ⟨Z7, V7, W3, g7, u3, c9, c10, -, c12, c11⟩ := Sat.call (l1 := [pts o1 (.rw 0 [(vi a1c0)]), pts o2 (.rw 0 [(vi a1c1)])]) (l2 := [It.sl Sh.int w2 x3, It.sl Sh.int w1 x2]) (s10.pick [2, 3, 0, 1] rfl)
  refine o_callv rfl (mc rfl m0) (X.parlkeep5_fails_1 nd.parlkeep5_fails_1 (a1 := a1c0) (a2 := a1c1) c9 (c10 0 _ Sh.int _ _ rfl) q10) fun _ H8 i6 => ?_
  obtain ⟨rfl, s11⟩ := i6
  have s12 := c11 _ _ s11
  refine o_not rfl ?_
  refine c_nil ?_
  refine c_gen (P := fun tm => tm 0 = w1 ∧ tm 1 = (.func (.func I.parlkeep5_fails_1) #[] #[(.pointer (some ⟨o1, 0, none⟩)), (.pointer (some ⟨o2, 0, none⟩))]) ∧ tm 37 = (.bool (!x4)) ∧ True) ⟨rfl, h6, rfl, trivial⟩ ?_
  intro _ i7
  obtain ⟨h19, h20, h21, -⟩ := i7
  refine c_if h21 (fun q11 => ?_) (fun q11 => ?_)
  · replace e := if_t q11 e
    refine c_sr ?_
    refine o_mv (v := (.slice none 0 0)) rfl ?_
    refine o_mv (v := (vi 7)) rfl ?_
    refine c_nil ?_
    refine c_rt ?_
    obtain rfl := Option.some.inj e
    exact ⟨.inr rfl, _, (ar2 rfl rfl), _, rfl, (((s12.push (sl_nil (s := Sh.int))).pick [1, 2, 0] rfl).weak (g2.trans (g5.trans (g6.trans g7))) hs.zv)⟩
  replace e := ib_f q11 e
  refine c_sk ?_
  refine c_sq ?_
  refine c_sr ?_
  refine o_mv (v := (vi 0)) rfl ?_
  refine c_nil ?_
  obtain ⟨y3, q14, e⟩ := Pu.bind_some e
  refine c_jn (I := fun tm H => ∃ (s15 : ((List Int) × Int)), y3 = .out s15 ∧ (∃ (Z9 V9 : PH) (w4 : Value), Gw Z7 V7 Z9 V9 ∧ Sat Z9 V9 H [pts o1 (.rw 0 [(vi a1c0)]), pts o2 (.rw 0 [(vi a1c1)]), It.sl Sh.int w4 s15.1] ∧ tm 0 = w4 ∧ tm 1 = (.func (.func I.parlkeep5_fails_1) #[] #[(.pointer (some ⟨o1, 0, none⟩)), (.pointer (some ⟨o2, 0, none⟩))]) ∧ tm 8 = (vi s15.2))) (fun k9 => ?_) ?_
  · refine c_bk ?_
    refine l_whl (fun (s13 : ((List Int) × Int)) tm H => ∃ (Z8 V8 : PH) (w3 : Value), Gw Z7 V7 Z8 V8 ∧ Sat Z8 V8 H [pts o1 (.rw 0 [(vi a1c0)]), pts o2 (.rw 0 [(vi a1c1)]), It.sl Sh.int w3 s13.1] ∧ tm 0 = w3 ∧ tm 1 = (.func (.func I.parlkeep5_fails_1) #[] #[(.pointer (some ⟨o1, 0, none⟩)), (.pointer (some ⟨o2, 0, none⟩))]) ∧ tm 8 = (vi s13.2)) (fun s13 y4 tm H10 j2 e3 k6 k7 k8 => ?_) q14 ⟨_, _, _, Gw.refl _ _, (s12.pick [0, 1, 3] rfl), h19, h20, rfl⟩
    obtain ⟨Z8, V8, w3, g8, s14, h22, h23, h24⟩ := j2
    unfold P.shrink_Lower__parlkeep5_fails_1.b1 at e3
    refine c_sq ?_
    refine c_sr ?_
    refine o_mv (v := (vi s13.2)) h24 ?_
    refine o_mv (v := w3) h22 ?_
    refine o_len rfl ((s14.curS (s := Sh.int) 2 rfl)).len ?_
    refine o_lss rfl rfl ?_
    refine c_nil ?_
    refine c_ifd rfl (fun q15 => ?_) (fun q15 => ?_)
    · replace e3 := if_t q15 e3
      refine c_sk ?_
      refine c_sq ?_
      refine c_bk ?_
      refine c_sr ?_
      refine o_mv (v := w3) h22 ?_
      refine o_mv (v := (vi s13.2)) h24 ?_
      obtain ⟨x6, q16, e3⟩ := Pu.bind_some e3
      refine o_idx (v := w3) rfl rfl (s14.curS (s := Sh.int) 2 rfl) rfl q16 fun p2 q17 => ?_
      refine o_ldi rfl (s14.curS (s := Sh.int) 2 rfl) (PH.le.refl _) q17 q16 ?_
      refine o_mv (v := (vi 0)) rfl ?_
      refine c_nil ?_
      obtain ⟨x8, q20, e3⟩ := Pu.bind_some e3
      obtain ⟨rfl, q22⟩ := ranO_some q20
      obtain ⟨y5, q23, e3⟩ := Pu.bind_some e3
      refine c_jn (I := fun tm H => ∃ (s19 : ((List Int) × Int)), y5 = .out s19 ∧ (∃ (Z11 V11 : PH) (w6 : Value), Gw Z8 V8 Z11 V11 ∧ Sat Z11 V11 H [pts o1 (.rw 0 [(vi a1c0)]), pts o2 (.rw 0 [(vi a1c1)]), It.sl Sh.int w6 s19.1] ∧ tm 0 = w6 ∧ tm 1 = (.func (.func I.parlkeep5_fails_1) #[] #[(.pointer (some ⟨o1, 0, none⟩)), (.pointer (some ⟨o2, 0, none⟩))]) ∧ tm 8 = (vi s19.2) ∧ tm 47 = (vi x6))) (fun k13 => ?_) ?_
      · refine c_bk ?_
        refine l_forL (xs := (Pu.ran x6)) (fun (i9 : Nat) (s17 : ((List Int) × Int)) tm H => tm 48 = vi i9 ∧ ∃ (Z10 V10 : PH) (w5 : Value), Gw Z8 V8 Z10 V10 ∧ Sat Z10 V10 H [pts o1 (.rw 0 [(vi a1c0)]), pts o2 (.rw 0 [(vi a1c1)]), It.sl Sh.int w5 s17.1] ∧ tm 0 = w5 ∧ tm 1 = (.func (.func I.parlkeep5_fails_1) #[] #[(.pointer (some ⟨o1, 0, none⟩)), (.pointer (some ⟨o2, 0, none⟩))]) ∧ tm 8 = (vi s17.2) ∧ tm 47 = (vi x6)) (fun i9 x7 s17 y6 tm H13 q18 q19 j3 e4 k10 k11 k12 => ?_) (fun s17 tm H12 jf jd => ?_) q23 ⟨rfl, _, _, _, Gw.refl _ _, s14, h22, h23, h24, rfl⟩
        · obtain ⟨hti2, Z10, V10, w5, g10, s18, h28, h29, h30, h31⟩ := j3
          unfold P.shrink_Lower__parlkeep5_fails_1.b2 at e4
          have hti2 := iv hti2 (ran_x q18).symm
          refine c_sr ?_
          refine o_lss hti2 h31 ?_
          refine c_nil ?_
          refine c_sq ?_
          refine c_ift rfl (ran_lt q18) ?_
          refine c_sk ?_
          refine c_sq ?_
          refine c_bk ?_
          refine c_sr ?_
          refine o_mv (v := (vi x7)) hti2 ?_
          refine o_mv (v := (vi x7)) rfl ?_
          refine c_nil ?_
          refine c_sr ?_
          refine o_mv (v := w5) h28 ?_
          refine o_mv (v := w5) h28 ?_
          refine o_len rfl ((s18.curS (s := Sh.int) 2 rfl)).len ?_
          obtain ⟨x9, q24, e4⟩ := Pu.bind_some e4
          obtain ⟨Z12, V12, W4, g12, u4, c13, c14, -, c16, c15⟩ := Sat.call (l1 := []) s18
          refine o_call (mc rfl (mc rfl m0)) (X.shrink_without nd.shrink_without c13 (c14 2 _ Sh.int _ _ rfl) q24) fun w7 H15 i10 => ?_
          obtain ⟨_, rfl, s21⟩ := i10
          have s22 := c15 _ _ s21
          refine o_mv (v := w7) rfl ?_
          refine c_nil ?_
          refine c_sr ?_
          refine o_mv (v := w7) rfl ?_
          refine o_mv (v := (vi s17.2)) h30 ?_
          refine o_mv (v := (vi x7)) rfl ?_
          obtain ⟨x10, q25, e4⟩ := Pu.bind_some e4
          refine o_idx (v := w7) rfl rfl (s22.curS (s := Sh.int) 0 rfl) rfl q25 fun p3 q26 => ?_
          refine o_st 0 s22 rfl Sh.flat_lt rfl rfl rfl q26 q25 rfl rfl fun H16 s23 => ?_
          refine c_nil ?_
          refine c_gen (P := fun tm => tm 0 = w5 ∧ tm 1 = (.func (.func I.parlkeep5_fails_1) #[] #[(.pointer (some ⟨o1, 0, none⟩)), (.pointer (some ⟨o2, 0, none⟩))]) ∧ tm 8 = (vi s17.2) ∧ tm 10 = w7 ∧ tm 47 = (vi x6) ∧ tm 48 = (vi x7) ∧ True) ⟨h28, h29, h30, rfl, h31, hti2, trivial⟩ ?_
          intro _ i11
          obtain ⟨h36, h37, h38, h39, h40, h41, -⟩ := i11
          refine c_sr ?_
          refine o_mv (v := (.func (.func I.parlkeep5_fails_1) #[] #[(.pointer (some ⟨o1, 0, none⟩)), (.pointer (some ⟨o2, 0, none⟩))])) h37 ?_
          refine o_mv (v := w7) h39 ?_
          refine o_mv (v := w7) h39 ?_
          refine o_len rfl ((s23.curS (s := Sh.int) 0 rfl)).len ?_
          obtain ⟨x11, q27, e4⟩ := Pu.bind_some e4
          obtain ⟨Z13, V13, W5, g13, u5, c17, c18, -, c20, c19⟩ := Sat.call (l1 := []) s23
          refine o_call (mc rfl (mc rfl m0)) (X.shrink_without nd.shrink_without c17 (c18 0 _ Sh.int _ _ rfl) q27) fun w8 H17 i12 => ?_
          obtain ⟨_, rfl, s24⟩ := i12
          have s25 := c19 _ _ s24
          obtain ⟨x12, q28, e4⟩ := Pu.bind_some e4
          obtain ⟨Z14, V14, W6, g14, u6, c21, c22, -, c24, c23⟩ := Sat.call (l1 := [pts o1 (.rw 0 [(vi a1c0)]), pts o2 (.rw 0 [(vi a1c1)])]) (l2 := [It.sl Sh.int w8 x11, It.sl Sh.int w7 (Pu.st x9 s17.2 x7), It.sl Sh.int w5 s17.1]) (s25.pick [2, 3, 0, 1, 4] rfl)
          refine o_callv rfl (mc rfl m0) (X.parlkeep5_fails_1 nd.parlkeep5_fails_1 (a1 := a1c0) (a2 := a1c1) c21 (c22 0 _ Sh.int _ _ rfl) q28) fun _ H18 i13 => ?_
          obtain ⟨rfl, s26⟩ := i13
          have s27 := c23 _ _ s26
          refine c_nil ?_
          refine c_if rfl (fun q29 => ?_) (fun q29 => ?_)
          · replace e4 := if_t q29 e4
            refine c_sr ?_
            refine o_mv (v := w7) h39 ?_
            refine o_mv (v := w7) rfl ?_
            refine o_mv (v := (vi (-1))) rfl ?_
            refine c_nil ?_
            refine c_ex ?_
            refine e_f rfl ?_
            refine e_c ?_
            refine e_c ?_
            refine e_h ?_
            exact k13 _ _ ⟨_, k11 _ (Option.some.inj e4).symm, _, _, _, (g10.trans (g12.trans (g13.trans g14))), (s27.pick [0, 1, 3] rfl), rfl, h37, rfl, h40⟩
          replace e4 := ib_f q29 e4
          refine c_sk ?_
          refine c_end ?_
          refine c_r ?_
          refine o_add h41 rfl ?_
          refine o_mv (v := (vi (Pu.W (x7 + 1)))) rfl ?_
          refine c_nil ?_
          exact k10 _ _ _ (Option.some.inj e4).symm ⟨(iv rfl (w_sucR q18 q22)), _, _, _, (g10.trans (g12.trans (g13.trans g14))), (s27.pick [0, 1, 4] rfl), h36, h37, h38, h40⟩
        · obtain ⟨hte2, Z15, V15, w9, g15, s28, h42, h43, h44, h45⟩ := jd
          refine c_sr ?_
          refine o_lss hte2 h45 ?_
          refine c_nil ?_
          refine c_sq ?_
          refine c_iff rfl (ran_done _) ?_
          refine c_ex ?_
          refine e_c ?_
          refine e_c ?_
          refine e_h ?_
          exact k13 _ _ ⟨_, jf, _, _, _, g15, s28, h42, h43, h44, h45⟩
      intro _ H14 i14
      obtain ⟨s19, f2, Z11, V11, w6, g11, s20, h32, h33, h34, h35⟩ := i14
      replace e3 := fin_o f2 e3
      refine c_end ?_
      refine c_r ?_
      refine o_mv (v := (vi s19.2)) h34 ?_
      refine o_add rfl rfl ?_
      refine o_mv (v := (vi (Pu.W (s19.2 + 1)))) rfl ?_
      refine c_nil ?_
      exact k6 _ _ _ (Option.some.inj e3).symm ⟨_, _, _, (g8.trans g11), s20, h32, h33, rfl⟩
    replace e3 := if_f q15 e3
    refine c_ex ?_
    refine e_c ?_
    refine e_c ?_
    refine e_h ?_
    exact k9 _ _ ⟨_, k7 _ (Option.some.inj e3).symm, _, _, _, g8, s14, h22, h23, h24⟩
  intro _ H11 i15
  obtain ⟨s15, f3, Z9, V9, w4, g9, s16, h25, h26, h27⟩ := i15
  replace e := fin_o f3 e
  refine c_sr ?_
  refine o_mv (v := w4) h25 ?_
  refine o_mv (v := w4) rfl ?_
  refine o_mv (v := (vi 0)) rfl ?_
  refine c_nil ?_
  refine c_rt ?_
  obtain rfl := Option.some.inj e
  exact ⟨.inr rfl, _, (ar2 rfl rfl), _, rfl, (s16.weak (g2.trans (g5.trans (g6.trans (g7.trans g9)))) hs.zv)⟩
/-! parlkeep5_ShrinkAgain -/
structure Nd.parlkeep5_ShrinkAgain (T : FuncId → Option AFunc) : Prop where
  own : Has T I.parlkeep5_ShrinkAgain F.parlkeep5_ShrinkAgain
  parlmake_Word : Nd.parlmake_Word T
  shrink_Word__parlkeep5_ShrinkAgain_1 : Nd.shrink_Word__parlkeep5_ShrinkAgain_1 T
  slices_Equal_int_int : Nd.slices_Equal_int_int T
  parlkeep5_fails : Nd.parlkeep5_fails T
  parlkeep5_fails_1 : Nd.parlkeep5_fails_1 T
  shrink_Word__parlkeep5_fails_1 : Nd.shrink_Word__parlkeep5_fails_1 T
  shrink_Lower__parlkeep5_fails_1 : Nd.shrink_Lower__parlkeep5_fails_1 T
  slices_Compare_int_int : Nd.slices_Compare_int_int T
set_option maxHeartbeats 1000000 in
theorem X.parlkeep5_ShrinkAgain {T : FuncId → Option AFunc} (nd : Nd.parlkeep5_ShrinkAgain T) {φ : Nat} {Z V : PH} {H : Hp} {v1 : Value} {a0 : (List Int)} {a1 : Int} {a2 : Int} (hs : Sat Z V H []) (hp1 : RdS Sh.int V v1 a0) {r : Bool} (e : P.parlkeep5_ShrinkAgain φ a0 a1 a2 = some r) :
    G T I.parlkeep5_ShrinkAgain [v1, (vi a1), (vi a2)] H (fun rv H' => rv = (.bool r) ∧ Sat Z V H' []) := by
  unfold P.parlkeep5_ShrinkAgain at e
  refine f_mk nd.own ?_
  refine c_sr ?_
  refine o_mv (v := (.bool false)) rfl ?_
  refine c_nil ?_
  refine c_sr ?_
  refine o_mv (v := v1) rfl ?_
  obtain ⟨x1, q1, e⟩ := Pu.bind_some e
  obtain ⟨Z1, V1, W1, g1, u1, c1, c2, -, c4, c3⟩ := Sat.call (l1 := []) hs
  refine o_call (mc rfl (mc rfl (mc rfl m0))) (X.parlmake_Word nd.parlmake_Word c1 (hp1.mono (g1.v.trans u1)) q1) fun w1 H1 i1 => ?_
  obtain ⟨_, rfl, s1⟩ := i1
  have s2 := c3 _ _ s1
  refine o_mv (v := w1) rfl ?_
  refine c_nil ?_
  refine c_sq ?_
  refine c_sr ?_
  refine o_bsl (s := Sh.int) (us := [(vi 1), (vi 2)]) (qs := [(0, 1, (vi 1)), (1, 1, (vi 2))]) (xs := [1, 2]) s2 Sh.flat_lt rfl rfl rfl (Els.cons (c := [(vi 1)]) rfl (Els.cons (c := [(vi 2)]) rfl Els.nil)) rfl rfl fun w2 H2 s3 => ?_
  obtain ⟨x2, q2, e⟩ := Pu.bind_some e
  obtain ⟨Z2, V2, W2, g2, u2, c5, c6, -, c8, c7⟩ := Sat.call (l1 := []) s3
  refine o_call (mc rfl (mc rfl m0)) (X.shrink_Word__parlkeep5_ShrinkAgain_1 nd.shrink_Word__parlkeep5_ShrinkAgain_1 c5 (c6 0 _ Sh.int _ _ rfl) q2) fun _ H3 i2 => ?_
  obtain ⟨w3, rfl, s4⟩ := i2
  have s5 := c7 _ _ s4
  refine o_mv (v := (.tuple #[w3, (vi x2.2)])) rfl ?_
  refine o_ext rfl rfl ?_
  refine o_ext rfl rfl ?_
  refine o_mv (v := w3) rfl ?_
  refine o_mv (v := (vi x2.2)) rfl ?_
  refine c_nil ?_
  refine c_gen (P := fun tm => tm 0 = w1 ∧ tm 1 = (vi a1) ∧ tm 2 = (vi a2) ∧ tm 7 = w3 ∧ tm 8 = (vi x2.2) ∧ True) ⟨rfl, rfl, rfl, rfl, rfl, trivial⟩ ?_
  intro _ i3
  obtain ⟨h1, h2, h3, h4, h5, -⟩ := i3
  refine c_sr ?_
  refine o_mv (v := (vi x2.2)) h5 ?_
  refine o_neq rfl rfl ?_
  refine o_mv (v := (.bool (decide (x2.2 ≠ 0)))) rfl ?_
  obtain ⟨y1, e1, e⟩ := Pu.bind_some e
  refine o_jn 5 (I := fun tm H => ∃ (Z3 V3 : PH), Gw Z2 V2 Z3 V3 ∧ Sat Z3 V3 H [It.sl Sh.int w1 x1] ∧ tm 0 = w1 ∧ tm 1 = (vi a1) ∧ tm 2 = (vi a2) ∧ tm 32 = (.bool y1)) (fun k1 => ?_) ?_
  · rcases Bool.eq_false_or_eq_true (decide (x2.2 ≠ 0)) with q3 | q3
    · replace e1 := if_t q3 e1
      refine o_gn rfl q3 ?_
      refine o_gn rfl q3 ?_
      refine o_gn rfl q3 ?_
      refine o_gn rfl q3 ?_
      refine o_pickt (a := (.bool true)) rfl q3 rfl ?_
      obtain rfl := Option.some.inj e1
      exact k1 _ _ ⟨_, _, Gw.refl _ _, (s5.pick [2] rfl), h1, h2, h3, rfl⟩
    replace e1 := ib_f q3 e1
    refine o_gy rfl q3 ?_
    refine o_mv (v := w3) h4 ?_
    refine o_gy rfl q3 ?_
    refine o_bsl (s := Sh.int) (us := [(vi 2)]) (qs := [(0, 1, (vi 2))]) (xs := [2]) s5 Sh.flat_lt rfl rfl rfl (Els.cons (c := [(vi 2)]) rfl Els.nil) rfl rfl fun w4 H5 s7 => ?_
    refine o_gy rfl q3 ?_
    obtain ⟨x3, q4, e1⟩ := Pu.bind_some e1
    obtain ⟨Z4, V4, W3, g4, u3, c9, c10, -, c12, c11⟩ := Sat.call (l1 := []) s7
    refine o_call (mc rfl (mc rfl m0)) (X.slices_Equal_int_int nd.slices_Equal_int_int c9 (c10 1 _ Sh.int _ _ rfl) (c10 0 _ Sh.int _ _ rfl) q4) fun _ H6 i4 => ?_
    obtain ⟨rfl, s8⟩ := i4
    have s9 := c11 _ _ s8
    refine o_gy rfl q3 ?_
    refine o_not rfl ?_
    refine o_pickf (b := (.bool (!x3))) rfl q3 rfl ?_
    obtain rfl := Option.some.inj e1
    exact k1 _ _ ⟨_, _, g4, (s9.pick [3] rfl), h1, h2, h3, rfl⟩
  intro _ H4 i5
  obtain ⟨Z3, V3, g3, s6, h6, h7, h8, h9⟩ := i5
  refine c_nil ?_
  refine c_if h9 (fun q5 => ?_) (fun q5 => ?_)
  · replace e := if_t q5 e
    refine c_sr ?_
    refine o_mv (v := (.bool false)) rfl ?_
    refine c_nil ?_
    refine c_rt ?_
    obtain rfl := Option.some.inj e
    exact ⟨.inr rfl, _, (ar1 rfl), rfl, ((s6.pick [] rfl).weak (g1.trans (g2.trans g3)) hs.zv)⟩
  replace e := ib_f q5 e
  refine c_sk ?_
  refine c_sr ?_
  refine o_mv (v := (vi a1)) h7 ?_
  refine o_mv (v := (vi a2)) h8 ?_
  obtain ⟨x4, q6, e⟩ := Pu.bind_some e
  obtain ⟨Z5, V5, W4, g5, u4, c13, c14, -, c16, c15⟩ := Sat.call (l1 := []) s6
  refine o_call (mc rfl (mc rfl m0)) (X.parlkeep5_fails nd.parlkeep5_fails c13 q6) fun _ H7 i6 => ?_
  obtain ⟨b1, b2, rfl, s10⟩ := i6
  have s11 := c15 _ _ s10
  refine o_mv (v := (.func (.func I.parlkeep5_fails_1) #[] #[(.pointer (some ⟨b1, 0, none⟩)), (.pointer (some ⟨b2, 0, none⟩))])) rfl ?_
  refine c_nil ?_
  refine c_sq ?_
  refine c_sr ?_
  refine o_mv (v := (.func (.func I.parlkeep5_fails_1) #[] #[(.pointer (some ⟨b1, 0, none⟩)), (.pointer (some ⟨b2, 0, none⟩))])) rfl ?_
  refine o_mv (v := w1) h6 ?_
  obtain ⟨x5, q7, e⟩ := Pu.bind_some e
  obtain ⟨Z6, V6, W5, g6, u5, c17, c18, -, c20, c19⟩ := Sat.call (l1 := [pts b1 (.rw 0 [(vi x4.1)]), pts b2 (.rw 0 [(vi x4.2)])]) (l2 := [It.sl Sh.int w1 x1]) s11
  refine o_callv rfl (mc rfl m0) (X.parlkeep5_fails_1 nd.parlkeep5_fails_1 (a1 := x4.1) (a2 := x4.2) c17 (c18 0 _ Sh.int _ _ rfl) q7) fun _ H8 i7 => ?_
  obtain ⟨rfl, s12⟩ := i7
  have s13 := c19 _ _ s12
  refine o_not rfl ?_
  refine c_nil ?_
  refine c_if rfl (fun q8 => ?_) (fun q8 => ?_)
  · replace e := if_t q8 e
    refine c_sr ?_
    refine o_mv (v := (.bool true)) rfl ?_
    refine c_nil ?_
    refine c_rt ?_
    obtain rfl := Option.some.inj e
    exact ⟨.inr rfl, _, (ar1 rfl), rfl, ((s13.pick [] rfl).weak (g1.trans (g2.trans (g3.trans (g5.trans g6)))) hs.zv)⟩
  replace e := ib_f q8 e
  refine c_sk ?_
  refine c_sr ?_
  refine o_mv (v := w1) h6 ?_
  refine o_mv (v := (.func (.func I.parlkeep5_fails_1) #[] #[(.pointer (some ⟨b1, 0, none⟩)), (.pointer (some ⟨b2, 0, none⟩))])) rfl ?_
  obtain ⟨x6, q9, e⟩ := Pu.bind_some e
  obtain ⟨Z7, V7, W6, g7, u6, c21, c22, -, c24, c23⟩ := Sat.call (l1 := [pts b1 (.rw 0 [(vi x4.1)]), pts b2 (.rw 0 [(vi x4.2)])]) (l2 := [It.sl Sh.int w1 x1]) s13
  refine o_call (mc rfl (mc rfl m0)) (X.shrink_Word__parlkeep5_fails_1 nd.shrink_Word__parlkeep5_fails_1 (a1c0 := x4.1) (a1c1 := x4.2) c21 (c22 0 _ Sh.int _ _ rfl) q9) fun _ H9 i8 => ?_
  obtain ⟨w5, rfl, s14⟩ := i8
  have s15 := c23 _ _ s14
  refine o_mv (v := (.tuple #[w5, (vi x6.2)])) rfl ?_
  refine o_ext rfl rfl ?_
  refine o_ext rfl rfl ?_
  refine o_mv (v := w5) rfl ?_
  refine o_mv (v := (vi x6.2)) rfl ?_
  refine c_nil ?_
  refine c_gen (P := fun tm => tm 0 = w1 ∧ tm 9 = (.func (.func I.parlkeep5_fails_1) #[] #[(.pointer (some ⟨b1, 0, none⟩)), (.pointer (some ⟨b2, 0, none⟩))]) ∧ tm 10 = w5 ∧ tm 11 = (vi x6.2) ∧ True) ⟨h6, rfl, rfl, rfl, trivial⟩ ?_
  intro _ i9
  obtain ⟨h10, h11, h12, h13, -⟩ := i9
  refine c_sr ?_
  refine o_mv (v := w5) h12 ?_
  refine o_mv (v := (.func (.func I.parlkeep5_fails_1) #[] #[(.pointer (some ⟨b1, 0, none⟩)), (.pointer (some ⟨b2, 0, none⟩))])) h11 ?_
  obtain ⟨x7, q10, e⟩ := Pu.bind_some e
  obtain ⟨Z8, V8, W7, g8, u7, c25, c26, -, c28, c27⟩ := Sat.call (l1 := [pts b1 (.rw 0 [(vi x4.1)]), pts b2 (.rw 0 [(vi x4.2)])]) (l2 := [It.sl Sh.int w5 x6.1, It.sl Sh.int w1 x1]) s15
  refine o_call (mc rfl (mc rfl m0)) (X.shrink_Word__parlkeep5_fails_1 nd.shrink_Word__parlkeep5_fails_1 (a1c0 := x4.1) (a1c1 := x4.2) c25 (c26 0 _ Sh.int _ _ rfl) q10) fun _ H10 i10 => ?_
  obtain ⟨w6, rfl, s16⟩ := i10
  have s17 := c27 _ _ s16
  refine o_mv (v := (.tuple #[w6, (vi x7.2)])) rfl ?_
  refine o_ext rfl rfl ?_
  refine o_ext rfl rfl ?_
  refine o_mv (v := w6) rfl ?_
  refine o_mv (v := (vi x7.2)) rfl ?_
  refine c_nil ?_
  refine c_sr ?_
  refine o_mv (v := w1) h10 ?_
  refine o_mv (v := (.func (.func I.parlkeep5_fails_1) #[] #[(.pointer (some ⟨b1, 0, none⟩)), (.pointer (some ⟨b2, 0, none⟩))])) h11 ?_
  obtain ⟨x8, q11, e⟩ := Pu.bind_some e
  obtain ⟨Z9, V9, W8, g9, u8, c29, c30, -, c32, c31⟩ := Sat.call (l1 := [pts b1 (.rw 0 [(vi x4.1)]), pts b2 (.rw 0 [(vi x4.2)])]) (l2 := [It.sl Sh.int w6 x7.1, It.sl Sh.int w5 x6.1, It.sl Sh.int w1 x1]) s17
  refine o_call (mc rfl (mc rfl m0)) (X.shrink_Lower__parlkeep5_fails_1 nd.shrink_Lower__parlkeep5_fails_1 (a1c0 := x4.1) (a1c1 := x4.2) c29 (c30 2 _ Sh.int _ _ rfl) q11) fun _ H11 i11 => ?_
  obtain ⟨w7, rfl, s18⟩ := i11
  have s19 := c31 _ _ s18
  refine o_mv (v := (.tuple #[w7, (vi x8.2)])) rfl ?_
  refine o_ext rfl rfl ?_
  refine o_ext rfl rfl ?_
  refine o_mv (v := w7) rfl ?_
  refine o_mv (v := (vi x8.2)) rfl ?_
  refine c_nil ?_
  refine c_gen (P := fun tm => tm 0 = w1 ∧ tm 9 = (.func (.func I.parlkeep5_fails_1) #[] #[(.pointer (some ⟨b1, 0, none⟩)), (.pointer (some ⟨b2, 0, none⟩))]) ∧ tm 10 = w5 ∧ tm 11 = (vi x6.2) ∧ tm 12 = w6 ∧ tm 13 = (vi x7.2) ∧ tm 14 = w7 ∧ tm 15 = (vi x8.2) ∧ True) ⟨h10, h11, h12, h13, rfl, rfl, rfl, rfl, trivial⟩ ?_
  intro _ i12
  obtain ⟨h14, h15, h16, h17, h18, h19, h20, h21, -⟩ := i12
  refine c_sr ?_
  refine o_mv (v := w7) h20 ?_
  refine o_mv (v := (.func (.func I.parlkeep5_fails_1) #[] #[(.pointer (some ⟨b1, 0, none⟩)), (.pointer (some ⟨b2, 0, none⟩))])) h15 ?_
  obtain ⟨x9, q12, e⟩ := Pu.bind_some e
  obtain ⟨Z10, V10, W9, g10, u9, c33, c34, -, c36, c35⟩ := Sat.call (l1 := [pts b1 (.rw 0 [(vi x4.1)]), pts b2 (.rw 0 [(vi x4.2)])]) (l2 := [It.sl Sh.int w7 x8.1, It.sl Sh.int w6 x7.1, It.sl Sh.int w5 x6.1, It.sl Sh.int w1 x1]) s19
  refine o_call (mc rfl (mc rfl m0)) (X.shrink_Lower__parlkeep5_fails_1 nd.shrink_Lower__parlkeep5_fails_1 (a1c0 := x4.1) (a1c1 := x4.2) c33 (c34 0 _ Sh.int _ _ rfl) q12) fun _ H12 i13 => ?_
  obtain ⟨w8, rfl, s20⟩ := i13
  have s21 := c35 _ _ s20
  refine o_mv (v := (.tuple #[w8, (vi x9.2)])) rfl ?_
  refine o_ext rfl rfl ?_
  refine o_ext rfl rfl ?_
  refine o_mv (v := w8) rfl ?_
  refine o_mv (v := (vi x9.2)) rfl ?_
  refine c_nil ?_
  refine c_sr ?_
  refine o_mv (v := (vi x6.2)) h17 ?_
  refine o_eql rfl rfl ?_
  refine o_mv (v := (.bool (decide (x6.2 = 0)))) rfl ?_
  refine o_jn 3 (I := fun tm H => tm 69 = .bool ((decide (x6.2 = 0)) && (decide (x7.2 = 0))) ∧ (∃ (Z11 V11 : PH), Gw Z10 V10 Z11 V11 ∧ Sat Z11 V11 H [It.sl Sh.int w1 x1, It.sl Sh.int w5 x6.1, It.sl Sh.int w6 x7.1, It.sl Sh.int w7 x8.1, It.sl Sh.int w8 x9.1] ∧ tm 0 = w1 ∧ tm 10 = w5 ∧ tm 12 = w6 ∧ tm 14 = w7 ∧ tm 15 = (vi x8.2) ∧ tm 16 = w8 ∧ tm 17 = (vi x9.2))) (fun k2 => ?_) ?_
  · rcases Bool.eq_false_or_eq_true (decide (x6.2 = 0)) with q13 | q13
    · refine o_gy rfl q13 ?_
      refine o_mv (v := (vi x7.2)) h19 ?_
      refine o_gy rfl q13 ?_
      refine o_eql rfl rfl ?_
      refine o_pickt (a := (.bool (decide (x7.2 = 0)))) rfl q13 rfl ?_
      exact k2 _ _ ⟨gf rfl (by first | (rw [q13]; first | done | rfl) | simp [q13]), _, _, Gw.refl _ _, (s21.pick [6, 5, 4, 3, 2] rfl), h14, h16, h18, h20, h21, rfl, rfl⟩
    refine o_gn rfl q13 ?_
    refine o_gn rfl q13 ?_
    refine o_pickf (b := (.bool false)) rfl q13 rfl ?_
    exact k2 _ _ ⟨gf rfl (by first | (rw [q13]; first | done | rfl) | simp [q13]), _, _, Gw.refl _ _, (s21.pick [6, 5, 4, 3, 2] rfl), h14, h16, h18, h20, h21, rfl, rfl⟩
  intro _ H13 i14
  obtain ⟨h29, Z11, V11, g11, s22, h22, h23, h24, h25, h26, h27, h28⟩ := i14
  refine o_mv (v := (.bool ((decide (x6.2 = 0)) && (decide (x7.2 = 0))))) h29 ?_
  refine o_jn 3 (I := fun tm H => tm 73 = .bool (((decide (x6.2 = 0)) && (decide (x7.2 = 0))) && (decide (x8.2 = 0))) ∧ (∃ (Z12 V12 : PH), Gw Z11 V11 Z12 V12 ∧ Sat Z12 V12 H [It.sl Sh.int w1 x1, It.sl Sh.int w5 x6.1, It.sl Sh.int w6 x7.1, It.sl Sh.int w7 x8.1, It.sl Sh.int w8 x9.1] ∧ tm 0 = w1 ∧ tm 10 = w5 ∧ tm 12 = w6 ∧ tm 14 = w7 ∧ tm 16 = w8 ∧ tm 17 = (vi x9.2))) (fun k3 => ?_) ?_
  · rcases Bool.eq_false_or_eq_true ((decide (x6.2 = 0)) && (decide (x7.2 = 0))) with q14 | q14
    · refine o_gy rfl q14 ?_
      refine o_mv (v := (vi x8.2)) h26 ?_
      refine o_gy rfl q14 ?_
      refine o_eql rfl rfl ?_
      refine o_pickt (a := (.bool (decide (x8.2 = 0)))) rfl q14 rfl ?_
      exact k3 _ _ ⟨gf rfl (by first | (rw [q14]; first | done | rfl) | simp [q14]), _, _, Gw.refl _ _, s22, h22, h23, h24, h25, h27, h28⟩
    refine o_gn rfl q14 ?_
    refine o_gn rfl q14 ?_
    refine o_pickf (b := (.bool false)) rfl q14 rfl ?_
    exact k3 _ _ ⟨gf rfl (by first | (rw [q14]; first | done | rfl) | simp [q14]), _, _, Gw.refl _ _, s22, h22, h23, h24, h25, h27, h28⟩
  intro _ H14 i15
  obtain ⟨h36, Z12, V12, g12, s23, h30, h31, h32, h33, h34, h35⟩ := i15
  refine o_mv (v := (.bool (((decide (x6.2 = 0)) && (decide (x7.2 = 0))) && (decide (x8.2 = 0))))) h36 ?_
  refine o_jn 3 (I := fun tm H => tm 77 = .bool ((((decide (x6.2 = 0)) && (decide (x7.2 = 0))) && (decide (x8.2 = 0))) && (decide (x9.2 = 0))) ∧ (∃ (Z13 V13 : PH), Gw Z12 V12 Z13 V13 ∧ Sat Z13 V13 H [It.sl Sh.int w1 x1, It.sl Sh.int w5 x6.1, It.sl Sh.int w6 x7.1, It.sl Sh.int w7 x8.1, It.sl Sh.int w8 x9.1] ∧ tm 0 = w1 ∧ tm 10 = w5 ∧ tm 12 = w6 ∧ tm 14 = w7 ∧ tm 16 = w8)) (fun k4 => ?_) ?_
  · rcases Bool.eq_false_or_eq_true (((decide (x6.2 = 0)) && (decide (x7.2 = 0))) && (decide (x8.2 = 0))) with q15 | q15
    · refine o_gy rfl q15 ?_
      refine o_mv (v := (vi x9.2)) h35 ?_
      refine o_gy rfl q15 ?_
      refine o_eql rfl rfl ?_
      refine o_pickt (a := (.bool (decide (x9.2 = 0)))) rfl q15 rfl ?_
      exact k4 _ _ ⟨gf rfl (by first | (rw [q15]; first | done | rfl) | simp [q15]), _, _, Gw.refl _ _, s23, h30, h31, h32, h33, h34⟩
    refine o_gn rfl q15 ?_
    refine o_gn rfl q15 ?_
    refine o_pickf (b := (.bool false)) rfl q15 rfl ?_
    exact k4 _ _ ⟨gf rfl (by first | (rw [q15]; first | done | rfl) | simp [q15]), _, _, Gw.refl _ _, s23, h30, h31, h32, h33, h34⟩
  intro _ H15 i16
  obtain ⟨h42, Z13, V13, g13, s24, h37, h38, h39, h40, h41⟩ := i16
  refine o_mv (v := (.bool ((((decide (x6.2 = 0)) && (decide (x7.2 = 0))) && (decide (x8.2 = 0))) && (decide (x9.2 = 0))))) h42 ?_
  obtain ⟨y2, e2, e⟩ := Pu.bind_some e
  refine o_jn 4 (I := fun tm H => ∃ (Z14 V14 : PH), Gw Z13 V13 Z14 V14 ∧ Sat Z14 V14 H [It.sl Sh.int w1 x1, It.sl Sh.int w7 x8.1, It.sl Sh.int w8 x9.1] ∧ tm 0 = w1 ∧ tm 14 = w7 ∧ tm 16 = w8 ∧ tm 82 = (.bool y2)) (fun k5 => ?_) ?_
  · rcases Bool.eq_false_or_eq_true ((((decide (x6.2 = 0)) && (decide (x7.2 = 0))) && (decide (x8.2 = 0))) && (decide (x9.2 = 0))) with q16 | q16
    · replace e2 := if_t q16 e2
      refine o_gy rfl q16 ?_
      refine o_mv (v := w5) h38 ?_
      refine o_gy rfl q16 ?_
      refine o_mv (v := w6) h39 ?_
      refine o_gy rfl q16 ?_
      obtain ⟨x10, q17, e2⟩ := Pu.bind_some e2
      obtain ⟨Z15, V15, W10, g15, u10, c37, c38, -, c40, c39⟩ := Sat.call (l1 := []) s24
      refine o_call (mc rfl (mc rfl m0)) (X.slices_Equal_int_int nd.slices_Equal_int_int c37 (c38 1 _ Sh.int _ _ rfl) (c38 2 _ Sh.int _ _ rfl) q17) fun _ H17 i17 => ?_
      obtain ⟨rfl, s26⟩ := i17
      have s27 := c39 _ _ s26
      refine o_pickt (a := (.bool x10)) rfl q16 rfl ?_
      obtain rfl := Option.some.inj e2
      exact k5 _ _ ⟨_, _, g15, (s27.pick [0, 3, 4] rfl), h37, h40, h41, rfl⟩
    replace e2 := ib_f q16 e2
    refine o_gn rfl q16 ?_
    refine o_gn rfl q16 ?_
    refine o_gn rfl q16 ?_
    refine o_pickf (b := (.bool false)) rfl q16 rfl ?_
    obtain rfl := Option.some.inj e2
    exact k5 _ _ ⟨_, _, Gw.refl _ _, (s24.pick [0, 3, 4] rfl), h37, h40, h41, rfl⟩
  intro _ H16 i18
  obtain ⟨Z14, V14, g14, s25, h43, h44, h45, h46⟩ := i18
  refine o_mv (v := (.bool y2)) h46 ?_
  obtain ⟨y3, e3, e⟩ := Pu.bind_some e
  refine o_jn 4 (I := fun tm H => ∃ (Z16 V16 : PH), Gw Z14 V14 Z16 V16 ∧ Sat Z16 V16 H [It.sl Sh.int w1 x1, It.sl Sh.int w7 x8.1] ∧ tm 0 = w1 ∧ tm 14 = w7 ∧ tm 87 = (.bool y3)) (fun k6 => ?_) ?_
  · rcases Bool.eq_false_or_eq_true y2 with q18 | q18
    · replace e3 := if_t q18 e3
      refine o_gy rfl q18 ?_
      refine o_mv (v := w7) h44 ?_
      refine o_gy rfl q18 ?_
      refine o_mv (v := w8) h45 ?_
      refine o_gy rfl q18 ?_
      obtain ⟨x11, q19, e3⟩ := Pu.bind_some e3
      obtain ⟨Z17, V17, W11, g17, u11, c41, c42, -, c44, c43⟩ := Sat.call (l1 := []) s25
      refine o_call (mc rfl (mc rfl m0)) (X.slices_Equal_int_int nd.slices_Equal_int_int c41 (c42 1 _ Sh.int _ _ rfl) (c42 2 _ Sh.int _ _ rfl) q19) fun _ H19 i19 => ?_
      obtain ⟨rfl, s29⟩ := i19
      have s30 := c43 _ _ s29
      refine o_pickt (a := (.bool x11)) rfl q18 rfl ?_
      obtain rfl := Option.some.inj e3
      exact k6 _ _ ⟨_, _, g17, (s30.pick [0, 1] rfl), h43, h44, rfl⟩
    replace e3 := ib_f q18 e3
    refine o_gn rfl q18 ?_
    refine o_gn rfl q18 ?_
    refine o_gn rfl q18 ?_
    refine o_pickf (b := (.bool false)) rfl q18 rfl ?_
    obtain rfl := Option.some.inj e3
    exact k6 _ _ ⟨_, _, Gw.refl _ _, (s25.pick [0, 1] rfl), h43, h44, rfl⟩
  intro _ H18 i20
  obtain ⟨Z16, V16, g16, s28, h47, h48, h49⟩ := i20
  refine o_mv (v := (.bool y3)) h49 ?_
  refine o_jn 6 (I := fun tm H => tm 94 = .bool (y3 && (decide ((x8.1.length : Int) = (x1.length : Int)))) ∧ (∃ (Z18 V18 : PH), Gw Z16 V16 Z18 V18 ∧ Sat Z18 V18 H [It.sl Sh.int w1 x1, It.sl Sh.int w7 x8.1] ∧ tm 0 = w1 ∧ tm 14 = w7)) (fun k7 => ?_) ?_
  · rcases Bool.eq_false_or_eq_true y3 with q20 | q20
    · refine o_gy rfl q20 ?_
      refine o_mv (v := w7) h48 ?_
      refine o_gy rfl q20 ?_
      refine o_len rfl ((s28.curS (s := Sh.int) 1 rfl)).len ?_
      refine o_gy rfl q20 ?_
      refine o_mv (v := w1) h47 ?_
      refine o_gy rfl q20 ?_
      refine o_len rfl ((s28.curS (s := Sh.int) 0 rfl)).len ?_
      refine o_gy rfl q20 ?_
      refine o_eql rfl rfl ?_
      refine o_pickt (a := (.bool (decide ((x8.1.length : Int) = (x1.length : Int))))) rfl q20 rfl ?_
      exact k7 _ _ ⟨gf rfl (by first | (rw [q20]; first | done | rfl) | simp [q20]), _, _, Gw.refl _ _, s28, h47, h48⟩
    refine o_gn rfl q20 ?_
    refine o_gn rfl q20 ?_
    refine o_gn rfl q20 ?_
    refine o_gn rfl q20 ?_
    refine o_gn rfl q20 ?_
    refine o_pickf (b := (.bool false)) rfl q20 rfl ?_
    exact k7 _ _ ⟨gf rfl (by first | (rw [q20]; first | done | rfl) | simp [q20]), _, _, Gw.refl _ _, s28, h47, h48⟩
  intro _ H20 i21
  obtain ⟨h52, Z18, V18, g18, s31, h50, h51⟩ := i21
  refine o_mv (v := (.bool (y3 && (decide ((x8.1.length : Int) = (x1.length : Int)))))) h52 ?_
  obtain ⟨y4, e4, e⟩ := Pu.bind_some e
  refine o_jn 5 (I := fun tm H => ∃ (Z19 V19 : PH), Gw Z18 V18 Z19 V19 ∧ Sat Z19 V19 H [] ∧ tm 100 = (.bool y4)) (fun k8 => ?_) ?_
  · rcases Bool.eq_false_or_eq_true (y3 && (decide ((x8.1.length : Int) = (x1.length : Int)))) with q21 | q21
    · replace e4 := if_t q21 e4
      refine o_gy rfl q21 ?_
      refine o_mv (v := w7) h51 ?_
      refine o_gy rfl q21 ?_
      refine o_mv (v := w1) h50 ?_
      refine o_gy rfl q21 ?_
      obtain ⟨x12, q22, e4⟩ := Pu.bind_some e4
      obtain ⟨Z20, V20, W12, g20, u12, c45, c46, -, c48, c47⟩ := Sat.call (l1 := []) s31
      refine o_call (mc rfl (mc rfl m0)) (X.slices_Compare_int_int nd.slices_Compare_int_int c45 (c46 1 _ Sh.int _ _ rfl) (c46 0 _ Sh.int _ _ rfl) q22) fun _ H22 i22 => ?_
      obtain ⟨rfl, s33⟩ := i22
      have s34 := c47 _ _ s33
      refine o_gy rfl q21 ?_
      refine o_leq rfl rfl ?_
      refine o_pickt (a := (.bool (decide (x12 ≤ 0)))) rfl q21 rfl ?_
      obtain rfl := Option.some.inj e4
      exact k8 _ _ ⟨_, _, g20, (s34.pick [] rfl), rfl⟩
    replace e4 := ib_f q21 e4
    refine o_gn rfl q21 ?_
    refine o_gn rfl q21 ?_
    refine o_gn rfl q21 ?_
    refine o_gn rfl q21 ?_
    refine o_pickf (b := (.bool false)) rfl q21 rfl ?_
    obtain rfl := Option.some.inj e4
    exact k8 _ _ ⟨_, _, Gw.refl _ _, (s31.pick [] rfl), rfl⟩
  intro _ H21 i23
  obtain ⟨Z19, V19, g19, s32, h53⟩ := i23
  refine o_mv (v := (.bool y4)) h53 ?_
  refine c_nil ?_
  refine c_rt ?_
  obtain rfl := Option.some.inj e
  exact ⟨.inr rfl, _, (ar1 rfl), rfl, (s32.weak (g1.trans (g2.trans (g3.trans (g5.trans (g6.trans (g7.trans (g8.trans (g9.trans (g10.trans (g11.trans (g12.trans (g13.trans (g14.trans (g16.trans (g18.trans g19))))))))))))))) hs.zv)⟩
end Go.Proofs.Ytbehlbabgomhfaa
