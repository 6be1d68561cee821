/- The abstract code comes to the plain functions: printed by wip/tools/lift.py. -/
import Derived.Test.YthgdobdhdfjhfaaX1
import Derived.Test.YthgdobdhdfjhfaaGcensus
import Derived.Test.YthgdobdhdfjhfaaGcmp
import Derived.Test.YthgdobdhdfjhfaaGgram
import Derived.Test.YthgdobdhdfjhfaaGlens
import Derived.Test.YthgdobdhdfjhfaaGparlkeep5
import Derived.Test.YthgdobdhdfjhfaaGparlmake
import Derived.Test.YthgdobdhdfjhfaaGslices
namespace Go.Proofs.Ythgdobdhdfjhfaa
open Go Go.Ab
/-! census_table_endless -/
structure Nd.census_table_endless (T : FuncId → Option AFunc) : Prop where
  own_census_table_endless : Has T I.census_table_endless F.census_table_endless
  census_table_sym : Nd.census_table_sym T
set_option maxHeartbeats 1000000 in
theorem X.census_table_endless_rec {T : FuncId → Option AFunc} (nd : Nd.census_table_endless T) : ∀ φ : Nat, (∀ {Z V : PH} {H : Hp} {v1 : Value} {v2 : Value} {v3 : Value} {v4 : Value} {v5 : Value} {v6 : Value} {o1 : Nat} {a0 : Ty.census_table} {a1 : Int} {a2 : Int} {a3 : Int} (hs : Sat Z V H [pts o1 (.rw 0 [(vi a0.g.Terms), (vi a0.g.Nons), (vi a0.g.Start), v1, (vi a0.n), v2, v3, v4, v5, v6]), It.sl (Sh.sl Sh.bool) v2 a0.has_, It.sl (Sh.sl Sh.bool) v3 a0.loop_, It.sl (Sh.sl Sh.int) v4 a0.known_, It.sl (Sh.sl (Sh.sl Sh.bool)) v5 a0.ends, It.sl (Sh.sl (Sh.sl Sh.int)) v6 a0.ways]) (hp1 : RdS Sh.api_Rule Z v1 a0.g.Rules) {r : (Ty.census_table × Bool)} (e : P.census_table_endless φ a0 a1 a2 a3 = some r), G T I.census_table_endless [(.pointer (some ⟨o1, 0, none⟩)), (vi a1), (vi a2), (vi a3)] H (fun rv H' => ∃ (u1 : Value) (u2 : Value) (u3 : Value) (u4 : Value) (u5 : Value) (u6 : Value), rv = (.bool r.2) ∧ Sat Z V H' [pts o1 (.rw 0 [(vi r.1.g.Terms), (vi r.1.g.Nons), (vi r.1.g.Start), u1, (vi r.1.n), u2, u3, u4, u5, u6]), Sh.it (Sh.ro (Sh.sl Sh.api_Rule)) [u1] r.1.g.Rules, It.sl (Sh.sl Sh.bool) u2 r.1.has_, It.sl (Sh.sl Sh.bool) u3 r.1.loop_, It.sl (Sh.sl Sh.int) u4 r.1.known_, It.sl (Sh.sl (Sh.sl Sh.bool)) u5 r.1.ends, It.sl (Sh.sl (Sh.sl Sh.int)) u6 r.1.ways])) := by
  intro φ
  induction φ with
  | zero =>
    intro Z V H v1 v2 v3 v4 v5 v6 o1 a0 a1 a2 a3 hs hp1 r e
    rw [P.census_table_endless] at e; cases e
  | succ φ ih =>
    intro Z V H v1 v2 v3 v4 v5 v6 o1 a0 a1 a2 a3 hs hp1 r e
    rw [P.census_table_endless] at e
    refine f_mk nd.own_census_table_endless ?_
    refine c_sr ?_
    refine o_mv (v := (.bool false)) rfl ?_
    refine c_nil ?_
    refine c_sr ?_
    refine o_mv (v := (.pointer (some ⟨o1, 0, none⟩))) rfl ?_
    refine o_nck rfl ?_
    refine o_fad rfl ?_
    refine o_fad rfl ?_
    obtain ⟨d1, rfl⟩ := (hp1).val
    obtain ⟨d2, rfl⟩ := ((hs.curS (s := (Sh.sl Sh.bool)) 1 rfl)).val
    obtain ⟨d3, rfl⟩ := ((hs.curS (s := (Sh.sl Sh.bool)) 2 rfl)).val
    obtain ⟨d4, rfl⟩ := ((hs.curS (s := (Sh.sl Sh.int)) 3 rfl)).val
    obtain ⟨d5, rfl⟩ := ((hs.curS (s := (Sh.sl (Sh.sl Sh.bool))) 4 rfl)).val
    obtain ⟨d6, rfl⟩ := ((hs.curS (s := (Sh.sl (Sh.sl Sh.int))) 5 rfl)).val
    refine o_ldB 0 hs rfl rfl rfl rfl ?_
    refine o_mv (v := (vi a1)) rfl ?_
    obtain ⟨x1, q1, e⟩ := Pu.bind_some e
    refine o_idx (v := (.slice d1 a0.g.Rules.length a0.g.Rules.length)) rfl rfl hp1 rfl q1 fun p1 q2 => ?_
    refine o_fadE rfl q2 fun p2 q3 => ?_
    refine o_ldF rfl hp1 hs.z rfl q2 q3 q1 rfl fun c1 h1 => ?_
    obtain ⟨w1, rfl, h2⟩ := Sh.api_Rule_op h1
    refine ⟨_, rfl, ?_⟩
    refine o_mv (v := w1) rfl ?_
    refine c_nil ?_
    refine c_gen (P := fun tm => tm 0 = (.pointer (some ⟨o1, 0, none⟩)) ∧ tm 1 = (vi a1) ∧ tm 2 = (vi a2) ∧ tm 3 = (vi a3) ∧ tm 9 = w1 ∧ True) ⟨rfl, rfl, rfl, rfl, rfl, trivial⟩ ?_
    intro _ i1
    obtain ⟨h3, h4, h5, h6, h7, -⟩ := i1
    refine c_sq ?_
    refine c_sr ?_
    refine o_mv (v := (vi a2)) h5 ?_
    refine o_mv (v := w1) h7 ?_
    refine o_len rfl (h2).len ?_
    refine o_eql rfl rfl ?_
    refine o_mv (v := (.bool (decide (a2 = (x1.Right.length : Int))))) rfl ?_
    obtain ⟨y1, e1, e⟩ := Pu.bind_some e
    refine o_jn 15 (I := fun tm H => ∃ (Z1 V1 : PH), Gw Z V Z1 V1 ∧ Sat Z1 V1 H [pts o1 (.rw 0 [(vi a0.g.Terms), (vi a0.g.Nons), (vi a0.g.Start), (.slice d1 a0.g.Rules.length a0.g.Rules.length), (vi a0.n), (.slice d2 a0.has_.length a0.has_.length), (.slice d3 a0.loop_.length a0.loop_.length), (.slice d4 a0.known_.length a0.known_.length), (.slice d5 a0.ends.length a0.ends.length), (.slice d6 a0.ways.length a0.ways.length)]), It.sl (Sh.sl Sh.bool) (.slice d2 a0.has_.length a0.has_.length) a0.has_, It.sl (Sh.sl Sh.bool) (.slice d3 a0.loop_.length a0.loop_.length) a0.loop_, It.sl (Sh.sl Sh.int) (.slice d4 a0.known_.length a0.known_.length) a0.known_, It.sl (Sh.sl (Sh.sl Sh.bool)) (.slice d5 a0.ends.length a0.ends.length) a0.ends, It.sl (Sh.sl (Sh.sl Sh.int)) (.slice d6 a0.ways.length a0.ways.length) a0.ways] ∧ tm 0 = (.pointer (some ⟨o1, 0, none⟩)) ∧ tm 1 = (vi a1) ∧ tm 2 = (vi a2) ∧ tm 3 = (vi a3) ∧ tm 9 = w1 ∧ tm 39 = (.bool y1)) (fun k1 => ?_) ?_
    ·rcases Bool.eq_false_or_eq_true (decide (a2 = (x1.Right.length : Int))) with q4 | q4
     ·replace e1 := if_t q4 e1
      refine o_gn rfl q4 ?_
      refine o_gn rfl q4 ?_
      refine o_gn rfl q4 ?_
      refine o_gn rfl q4 ?_
      refine o_gn rfl q4 ?_
      refine o_gn rfl q4 ?_
      refine o_gn rfl q4 ?_
      refine o_gn rfl q4 ?_
      refine o_gn rfl q4 ?_
      refine o_gn rfl q4 ?_
      refine o_gn rfl q4 ?_
      refine o_gn rfl q4 ?_
      refine o_gn rfl q4 ?_
      refine o_gn rfl q4 ?_
      refine o_pickt (a := (.bool true)) rfl q4 rfl ?_
      obtain rfl := Option.some.inj e1
      exact k1 _ _ ⟨_, _, Gw.refl _ _, hs, h3, h4, h5, h6, h7, rfl⟩
     replace e1 := ib_f q4 e1
     refine o_gy rfl q4 ?_
     refine o_mv (v := (.pointer (some ⟨o1, 0, none⟩))) h3 ?_
     refine o_gy rfl q4 ?_
     refine o_nck rfl ?_
     refine o_gy rfl q4 ?_
     refine o_fad rfl ?_
     refine o_gy rfl q4 ?_
     refine o_ldB 0 hs rfl rfl rfl rfl ?_
     refine o_gy rfl q4 ?_
     refine o_mv (v := (vi a1)) h4 ?_
     refine o_gy rfl q4 ?_
     obtain ⟨x2, q5, e1⟩ := Pu.bind_some e1
     refine o_idx (v := (.slice d5 a0.ends.length a0.ends.length)) rfl rfl (hs.curS (s := (Sh.sl (Sh.sl Sh.bool))) 4 rfl) rfl q5 fun p3 q6 => ?_
     refine o_gy rfl q4 ?_
     refine o_ldsv rfl (hs.curS (s := (Sh.sl (Sh.sl Sh.bool))) 4 rfl) (PH.le.refl _) q6 q5 fun w2 h14 h15 => ?_
     refine o_gy rfl q4 ?_
     refine o_mv (v := (vi a2)) h5 ?_
     refine o_gy rfl q4 ?_
     obtain ⟨x3, q7, e1⟩ := Pu.bind_some e1
     refine o_idx (v := w2) rfl rfl h14 rfl q7 fun p4 q8 => ?_
     refine o_gy rfl q4 ?_
     refine o_ldsv rfl h14 (PH.le.refl _) q8 q7 fun w3 h16 h17 => ?_
     refine o_gy rfl q4 ?_
     refine o_mv (v := (vi a3)) h6 ?_
     refine o_gy rfl q4 ?_
     obtain ⟨x4, q9, e1⟩ := Pu.bind_some e1
     refine o_idx (v := w3) rfl rfl h16 rfl q9 fun p5 q10 => ?_
     refine o_gy rfl q4 ?_
     refine o_ldb rfl h16 (PH.le.refl _) q10 q9 ?_
     refine o_gy rfl q4 ?_
     refine o_not rfl ?_
     refine o_pickf (b := (.bool (!x4))) rfl q4 rfl ?_
     obtain rfl := Option.some.inj e1
     exact k1 _ _ ⟨_, _, Gw.refl _ _, hs, h3, h4, h5, h6, h7, rfl⟩
    intro _ H1 i2
    obtain ⟨Z1, V1, g1, s1, h8, h9, h10, h11, h12, h13⟩ := i2
    refine c_nil ?_
    refine c_if h13 (fun q11 => ?_) (fun q11 => ?_)
    ·replace e := if_t q11 e
     refine c_sr ?_
     refine o_mv (v := (.bool false)) rfl ?_
     refine c_nil ?_
     refine c_rt ?_
     obtain rfl := Option.some.inj e
     exact ⟨.inr rfl, _, (ar1 rfl), _, _, _, _, _, _, rfl, (((s1.push (ro_it (sl_ro (hp1.mono g1.z)))).pick [1, 0, 2, 3, 4, 5, 6] rfl).weak g1 hs.zv)⟩
    replace e := ib_f q11 e
    refine c_sk ?_
    refine c_sq ?_
    refine c_sr ?_
    refine o_mv (v := (vi a3)) h11 ?_
    refine o_add rfl rfl ?_
    refine o_mv (v := (vi 0)) rfl ?_
    refine c_nil ?_
    obtain ⟨x6, q14, e⟩ := Pu.bind_some e
    obtain ⟨rfl, q16⟩ := ranO_some q14
    obtain ⟨y2, q17, e⟩ := Pu.bind_some e
    refine c_jn (I := fun tm H => ∃ (s4 : (Int × Int × Int × (List Ty.api_Rule) × Int × (List (List Bool)) × (List (List Bool)) × (List (List Int)) × (List (List (List Bool))) × (List (List (List Int))))), y2 = .out s4 ∧ (∃ (Z3 V3 : PH) (w10 : Value) (w11 : Value) (w12 : Value) (w13 : Value) (w14 : Value) (w15 : Value), Gw Z1 V1 Z3 V3 ∧ Sat Z3 V3 H [pts o1 (.rw 0 [(vi s4.1), (vi s4.2.1), (vi s4.2.2.1), w15, (vi s4.2.2.2.2.1), w10, w11, w12, w13, w14]), It.sl (Sh.sl Sh.bool) w10 s4.2.2.2.2.2.1, It.sl (Sh.sl Sh.bool) w11 s4.2.2.2.2.2.2.1, It.sl (Sh.sl Sh.int) w12 s4.2.2.2.2.2.2.2.1, It.sl (Sh.sl (Sh.sl Sh.bool)) w13 s4.2.2.2.2.2.2.2.2.1, It.sl (Sh.sl (Sh.sl Sh.int)) w14 s4.2.2.2.2.2.2.2.2.2] ∧ tm 0 = (.pointer (some ⟨o1, 0, none⟩)) ∧ tm 1 = (vi a1) ∧ tm 2 = (vi a2) ∧ tm 3 = (vi a3) ∧ tm 9 = w1 ∧ tm 41 = (vi (Pu.W (a3 + 1))) ∧ RdS Sh.api_Rule Z3 w15 s4.2.2.2.1)) (fun k5 => ?_) ?_
    ·refine c_bk ?_
     refine l_forL (xs := (Pu.ran (Pu.W (a3 + 1)))) (fun (i3 : Nat) (s2 : (Int × Int × Int × (List Ty.api_Rule) × Int × (List (List Bool)) × (List (List Bool)) × (List (List Int)) × (List (List (List Bool))) × (List (List (List Int))))) tm H => tm 42 = vi i3 ∧ ∃ (Z2 V2 : PH) (w4 : Value) (w5 : Value) (w6 : Value) (w7 : Value) (w8 : Value) (w9 : Value), Gw Z1 V1 Z2 V2 ∧ Sat Z2 V2 H [pts o1 (.rw 0 [(vi s2.1), (vi s2.2.1), (vi s2.2.2.1), w9, (vi s2.2.2.2.2.1), w4, w5, w6, w7, w8]), It.sl (Sh.sl Sh.bool) w4 s2.2.2.2.2.2.1, It.sl (Sh.sl Sh.bool) w5 s2.2.2.2.2.2.2.1, It.sl (Sh.sl Sh.int) w6 s2.2.2.2.2.2.2.2.1, It.sl (Sh.sl (Sh.sl Sh.bool)) w7 s2.2.2.2.2.2.2.2.2.1, It.sl (Sh.sl (Sh.sl Sh.int)) w8 s2.2.2.2.2.2.2.2.2.2] ∧ tm 0 = (.pointer (some ⟨o1, 0, none⟩)) ∧ tm 1 = (vi a1) ∧ tm 2 = (vi a2) ∧ tm 3 = (vi a3) ∧ tm 9 = w1 ∧ tm 41 = (vi (Pu.W (a3 + 1))) ∧ RdS Sh.api_Rule Z2 w9 s2.2.2.2.1) (fun i3 x5 s2 y3 tm H3 q12 q13 j1 e2 k2 k3 k4 => ?_) (fun s2 tm H2 jf jd => ?_) q17 ⟨rfl, _, _, _, _, _, _, _, _, Gw.refl _ _, s1, h8, h9, h10, h11, h12, rfl, (hp1.mono g1.z)⟩
     ·obtain ⟨hti0, Z2, V2, w4, w5, w6, w7, w8, w9, g2, s3, h19, h20, h21, h22, h23, h24, h18⟩ := j1
      unfold P.census_table_endless.b0 at e2
      have hti0 := iv hti0 (ran_x q12).symm
      refine c_sr ?_
      refine o_lss hti0 h24 ?_
      refine c_nil ?_
      refine c_sq ?_
      refine c_ift rfl (ran_lt q12) ?_
      refine c_sk ?_
      refine c_sq ?_
      refine c_bk ?_
      refine c_sr ?_
      refine o_mv (v := (vi x5)) hti0 ?_
      refine o_mv (v := (vi x5)) rfl ?_
      refine c_nil ?_
      refine c_sq ?_
      refine c_sr ?_
      refine o_mv (v := (.pointer (some ⟨o1, 0, none⟩))) h19 ?_
      refine o_mv (v := w1) h23 ?_
      refine o_mv (v := (vi a2)) h21 ?_
      obtain ⟨x7, q18, e2⟩ := Pu.bind_some e2
      refine o_idx (v := w1) rfl rfl (h2.mono (g1.trans g2).z) rfl q18 fun p6 q19 => ?_
      refine o_lda rfl (h2.mono (g1.trans g2).z) s3.z rfl q19 q18 fun c2 h32 => ?_
      obtain rfl := h32
      refine o_mv (v := (vi x5)) rfl ?_
      obtain ⟨x8, q20, e2⟩ := Pu.bind_some e2
      obtain ⟨d7, rfl⟩ := (h18).val
      obtain ⟨d8, rfl⟩ := ((s3.curS (s := (Sh.sl Sh.bool)) 1 rfl)).val
      obtain ⟨d9, rfl⟩ := ((s3.curS (s := (Sh.sl Sh.bool)) 2 rfl)).val
      obtain ⟨d10, rfl⟩ := ((s3.curS (s := (Sh.sl Sh.int)) 3 rfl)).val
      obtain ⟨d11, rfl⟩ := ((s3.curS (s := (Sh.sl (Sh.sl Sh.bool))) 4 rfl)).val
      obtain ⟨d12, rfl⟩ := ((s3.curS (s := (Sh.sl (Sh.sl Sh.int))) 5 rfl)).val
      obtain ⟨Z4, V4, W1, g4, u1, c3, c4, -, c6, c5⟩ := Sat.call (l1 := []) s3
      refine o_call (mc rfl (mc rfl (mc rfl m0))) (X.census_table_sym nd.census_table_sym (a0 := (Ty.census_table.mk (Ty.api_Grammar.mk s2.1 s2.2.1 s2.2.2.1 s2.2.2.2.1) s2.2.2.2.2.1 s2.2.2.2.2.2.1 s2.2.2.2.2.2.2.1 s2.2.2.2.2.2.2.2.1 s2.2.2.2.2.2.2.2.2.1 s2.2.2.2.2.2.2.2.2.2)) c3 (h18.mono (g4.z.trans c3.zv)) (c4 1 _ (Sh.sl Sh.bool) _ _ rfl) (c4 2 _ (Sh.sl Sh.bool) _ _ rfl) (c4 3 _ (Sh.sl Sh.int) _ _ rfl) (c4 4 _ (Sh.sl (Sh.sl Sh.bool)) _ _ rfl) (c4 5 _ (Sh.sl (Sh.sl Sh.int)) _ _ rfl) (c6 0 _ _ rfl) q20) fun _ H5 i4 => ?_
      obtain ⟨rfl, s6⟩ := i4
      have s7 := c5 _ _ s6
      refine o_not rfl ?_
      refine o_mv (v := (.bool (!x8))) rfl ?_
      obtain ⟨y4, e3, e2⟩ := Pu.bind_some e2
      refine o_jn 18 (I := fun tm H => ∃ (Z5 V5 : PH), Gw Z4 V4 Z5 V5 ∧ Sat Z5 V5 H [pts o1 (.rw 0 [(vi s2.1), (vi s2.2.1), (vi s2.2.2.1), (.slice d7 s2.2.2.2.1.length s2.2.2.2.1.length), (vi s2.2.2.2.2.1), (.slice d8 s2.2.2.2.2.2.1.length s2.2.2.2.2.2.1.length), (.slice d9 s2.2.2.2.2.2.2.1.length s2.2.2.2.2.2.2.1.length), (.slice d10 s2.2.2.2.2.2.2.2.1.length s2.2.2.2.2.2.2.2.1.length), (.slice d11 s2.2.2.2.2.2.2.2.2.1.length s2.2.2.2.2.2.2.2.2.1.length), (.slice d12 s2.2.2.2.2.2.2.2.2.2.length s2.2.2.2.2.2.2.2.2.2.length)]), It.sl (Sh.sl Sh.bool) (.slice d8 s2.2.2.2.2.2.1.length s2.2.2.2.2.2.1.length) s2.2.2.2.2.2.1, It.sl (Sh.sl Sh.bool) (.slice d9 s2.2.2.2.2.2.2.1.length s2.2.2.2.2.2.2.1.length) s2.2.2.2.2.2.2.1, It.sl (Sh.sl Sh.int) (.slice d10 s2.2.2.2.2.2.2.2.1.length s2.2.2.2.2.2.2.2.1.length) s2.2.2.2.2.2.2.2.1, It.sl (Sh.sl (Sh.sl Sh.bool)) (.slice d11 s2.2.2.2.2.2.2.2.2.1.length s2.2.2.2.2.2.2.2.2.1.length) s2.2.2.2.2.2.2.2.2.1, It.sl (Sh.sl (Sh.sl Sh.int)) (.slice d12 s2.2.2.2.2.2.2.2.2.2.length s2.2.2.2.2.2.2.2.2.2.length) s2.2.2.2.2.2.2.2.2.2] ∧ tm 0 = (.pointer (some ⟨o1, 0, none⟩)) ∧ tm 1 = (vi a1) ∧ tm 2 = (vi a2) ∧ tm 3 = (vi a3) ∧ tm 9 = w1 ∧ tm 10 = (vi x5) ∧ tm 41 = (vi (Pu.W (a3 + 1))) ∧ tm 42 = (vi x5) ∧ tm 71 = (.bool y4)) (fun k6 => ?_) ?_
      ·rcases Bool.eq_false_or_eq_true (!x8) with q21 | q21
       ·replace e3 := if_t q21 e3
        refine o_gn rfl q21 ?_
        refine o_gn rfl q21 ?_
        refine o_gn rfl q21 ?_
        refine o_gn rfl q21 ?_
        refine o_gn rfl q21 ?_
        refine o_gn rfl q21 ?_
        refine o_gn rfl q21 ?_
        refine o_gn rfl q21 ?_
        refine o_gn rfl q21 ?_
        refine o_gn rfl q21 ?_
        refine o_gn rfl q21 ?_
        refine o_gn rfl q21 ?_
        refine o_gn rfl q21 ?_
        refine o_gn rfl q21 ?_
        refine o_gn rfl q21 ?_
        refine o_gn rfl q21 ?_
        refine o_gn rfl q21 ?_
        refine o_pickt (a := (.bool true)) rfl q21 rfl ?_
        obtain rfl := Option.some.inj e3
        exact k6 _ _ ⟨_, _, Gw.refl _ _, s7, h19, h20, h21, h22, h23, rfl, h24, hti0, rfl⟩
       replace e3 := ib_f q21 e3
       refine o_gy rfl q21 ?_
       refine o_mv (v := (.pointer (some ⟨o1, 0, none⟩))) h19 ?_
       refine o_gy rfl q21 ?_
       refine o_nck rfl ?_
       refine o_gy rfl q21 ?_
       refine o_fad rfl ?_
       refine o_gy rfl q21 ?_
       refine o_ldB 0 s7 rfl rfl rfl rfl ?_
       refine o_gy rfl q21 ?_
       refine o_mv (v := (vi a1)) h20 ?_
       refine o_gy rfl q21 ?_
       obtain ⟨x9, q22, e3⟩ := Pu.bind_some e3
       refine o_idx (v := (.slice d11 s2.2.2.2.2.2.2.2.2.1.length s2.2.2.2.2.2.2.2.2.1.length)) rfl rfl (s7.curS (s := (Sh.sl (Sh.sl Sh.bool))) 4 rfl) rfl q22 fun p7 q23 => ?_
       refine o_gy rfl q21 ?_
       refine o_ldsv rfl (s7.curS (s := (Sh.sl (Sh.sl Sh.bool))) 4 rfl) (PH.le.refl _) q23 q22 fun w16 h42 h43 => ?_
       refine o_gy rfl q21 ?_
       refine o_mv (v := (vi a2)) h21 ?_
       refine o_gy rfl q21 ?_
       refine o_add rfl rfl ?_
       refine o_gy rfl q21 ?_
       obtain ⟨x10, q24, e3⟩ := Pu.bind_some e3
       refine o_idx (v := w16) rfl rfl h42 rfl q24 fun p8 q25 => ?_
       refine o_gy rfl q21 ?_
       refine o_ldsv rfl h42 (PH.le.refl _) q25 q24 fun w17 h44 h45 => ?_
       refine o_gy rfl q21 ?_
       refine o_mv (v := (vi a3)) h22 ?_
       refine o_gy rfl q21 ?_
       refine o_mv (v := (vi x5)) rfl ?_
       refine o_gy rfl q21 ?_
       refine o_sub rfl rfl ?_
       refine o_gy rfl q21 ?_
       obtain ⟨x11, q26, e3⟩ := Pu.bind_some e3
       refine o_idx (v := w17) rfl rfl h44 rfl q26 fun p9 q27 => ?_
       refine o_gy rfl q21 ?_
       refine o_ldb rfl h44 (PH.le.refl _) q27 q26 ?_
       refine o_gy rfl q21 ?_
       refine o_not rfl ?_
       refine o_pickf (b := (.bool (!x11))) rfl q21 rfl ?_
       obtain rfl := Option.some.inj e3
       exact k6 _ _ ⟨_, _, Gw.refl _ _, s7, h19, h20, h21, h22, h23, rfl, h24, hti0, rfl⟩
      intro _ H6 i5
      obtain ⟨Z5, V5, g5, s8, h33, h34, h35, h36, h37, h38, h39, h40, h41⟩ := i5
      refine c_nil ?_
      refine c_if h41 (fun q28 => ?_) (fun q28 => ?_)
      ·replace e2 := if_t q28 e2
       refine c_ex ?_
       refine e_c ?_
       refine e_h ?_
       refine c_r ?_
       refine o_add h40 rfl ?_
       refine o_mv (v := (vi (Pu.W (x5 + 1)))) rfl ?_
       refine c_nil ?_
       exact k2 _ _ _ (Option.some.inj e2).symm ⟨(iv rfl (w_sucR q12 q16)), _, _, _, _, _, _, _, _, (g2.trans (g4.trans g5)), s8, h33, h34, h35, h36, h37, h39, (h18.mono (g4.trans g5).z)⟩
      replace e2 := ib_f q28 e2
      refine c_sk ?_
      refine c_sq ?_
      refine d_start s8 fun n1 H7 s9 q29 d13 => ?_
      refine d_mv (v := w1) h37 ?_
      refine d_mv (v := (vi a2)) h35 ?_
      obtain ⟨x12, q30, e2⟩ := Pu.bind_some e2
      refine d_idx (v := w1) rfl rfl (h2.mono (g1.trans (g2.trans (g4.trans g5))).z) rfl q30 fun p10 q31 => ?_
      refine d_fadE rfl q31 fun p11 q32 => ?_
      refine d_ldF (RdS.low (h2.mono (g1.trans (g2.trans (g4.trans g5))).z) s9.z q29) rfl (h2.mono (g1.trans (g2.trans (g4.trans g5))).z) s9.z rfl q31 q32 q30 rfl fun c7 h46 => ?_
      obtain rfl := h46
      refine ⟨_, rfl, ?_⟩
      refine d_not rfl ?_
      refine d_mv (v := (.bool (!x12.Term))) rfl ?_
      obtain ⟨y5, e4, e2⟩ := Pu.bind_some e2
      refine d_jn 15 (I := fun tm H => DD n1 22 (List.length F.census_table_endless.r8) H ∧ (∃ (Z6 V6 : PH), Gw Z5 V5 Z6 V6 ∧ Sat Z6 V6 H [pts o1 (.rw 0 [(vi s2.1), (vi s2.2.1), (vi s2.2.2.1), (.slice d7 s2.2.2.2.1.length s2.2.2.2.1.length), (vi s2.2.2.2.2.1), (.slice d8 s2.2.2.2.2.2.1.length s2.2.2.2.2.2.1.length), (.slice d9 s2.2.2.2.2.2.2.1.length s2.2.2.2.2.2.2.1.length), (.slice d10 s2.2.2.2.2.2.2.2.1.length s2.2.2.2.2.2.2.2.1.length), (.slice d11 s2.2.2.2.2.2.2.2.2.1.length s2.2.2.2.2.2.2.2.2.1.length), (.slice d12 s2.2.2.2.2.2.2.2.2.2.length s2.2.2.2.2.2.2.2.2.2.length)]), It.sl (Sh.sl Sh.bool) (.slice d8 s2.2.2.2.2.2.1.length s2.2.2.2.2.2.1.length) s2.2.2.2.2.2.1, It.sl (Sh.sl Sh.bool) (.slice d9 s2.2.2.2.2.2.2.1.length s2.2.2.2.2.2.2.1.length) s2.2.2.2.2.2.2.1, It.sl (Sh.sl Sh.int) (.slice d10 s2.2.2.2.2.2.2.2.1.length s2.2.2.2.2.2.2.2.1.length) s2.2.2.2.2.2.2.2.1, It.sl (Sh.sl (Sh.sl Sh.bool)) (.slice d11 s2.2.2.2.2.2.2.2.2.1.length s2.2.2.2.2.2.2.2.2.1.length) s2.2.2.2.2.2.2.2.2.1, It.sl (Sh.sl (Sh.sl Sh.int)) (.slice d12 s2.2.2.2.2.2.2.2.2.2.length s2.2.2.2.2.2.2.2.2.2.length) s2.2.2.2.2.2.2.2.2.2] ∧ tm 0 = (.pointer (some ⟨o1, 0, none⟩)) ∧ tm 1 = (vi a1) ∧ tm 2 = (vi a2) ∧ tm 3 = (vi a3) ∧ tm 9 = w1 ∧ tm 10 = (vi x5) ∧ tm 41 = (vi (Pu.W (a3 + 1))) ∧ tm 42 = (vi x5) ∧ tm 93 = (.bool y5))) (fun k7 => ?_) ?_
      ·rcases Bool.eq_false_or_eq_true (!x12.Term) with q33 | q33
       ·replace e4 := if_t q33 e4
        refine d_want rfl q33 ?_
        refine d_mv (v := (.pointer (some ⟨o1, 0, none⟩))) h33 ?_
        refine d_want rfl q33 ?_
        refine d_nck rfl ?_
        refine d_want rfl q33 ?_
        refine d_fad rfl ?_
        refine d_want rfl q33 ?_
        refine d_ldB (q29 _ _ (ph_some.2 ⟨s9.curB 0 rfl, by simp⟩)) 0 s9 rfl rfl rfl rfl ?_
        refine d_want rfl q33 ?_
        refine d_mv (v := w1) h37 ?_
        refine d_want rfl q33 ?_
        refine d_mv (v := (vi a2)) h35 ?_
        refine d_want rfl q33 ?_
        obtain ⟨x13, q34, e4⟩ := Pu.bind_some e4
        refine d_idx (v := w1) rfl rfl (h2.mono (g1.trans (g2.trans (g4.trans g5))).z) rfl q34 fun p12 q35 => ?_
        refine d_want rfl q33 ?_
        refine d_fadE rfl q35 fun p13 q36 => ?_
        refine d_want rfl q33 ?_
        refine d_ldF (RdS.low (h2.mono (g1.trans (g2.trans (g4.trans g5))).z) s9.z q29) rfl (h2.mono (g1.trans (g2.trans (g4.trans g5))).z) s9.z rfl q35 q36 q34 rfl fun c8 h56 => ?_
        obtain rfl := h56
        refine ⟨_, rfl, ?_⟩
        refine d_want rfl q33 ?_
        obtain ⟨x14, q37, e4⟩ := Pu.bind_some e4
        refine d_idx (v := (.slice d9 s2.2.2.2.2.2.2.1.length s2.2.2.2.2.2.2.1.length)) rfl rfl (s9.curS (s := (Sh.sl Sh.bool)) 2 rfl) rfl q37 fun p14 q38 => ?_
        refine d_want rfl q33 ?_
        refine d_ldsv ((s9.curS 2 rfl).low (PH.le.refl _) q29) rfl (s9.curS (s := (Sh.sl Sh.bool)) 2 rfl) (PH.le.refl _) q38 q37 fun w18 h57 h58 => ?_
        refine d_want rfl q33 ?_
        refine d_mv (v := (vi x5)) h38 ?_
        refine d_want rfl q33 ?_
        obtain ⟨x15, q39, e4⟩ := Pu.bind_some e4
        refine d_idx (v := w18) rfl rfl h57 rfl q39 fun p15 q40 => ?_
        refine d_want rfl q33 ?_
        refine d_ldb (RdS.low h57 (PH.le.refl _) q29) rfl h57 (PH.le.refl _) q40 q39 ?_
        have h59 := vl_bool h57 (PH.le.refl _) q40 q39
        refine d_pickt (a := (.bool x15)) rfl q33 rfl ?_
        obtain rfl := Option.some.inj e4
        exact k7 _ _ _ ⟨d13.up rfl, _, _, Gw.refl _ _, s9, h33, h34, h35, h36, h37, h38, h39, h40, rfl⟩
       replace e4 := ib_f q33 e4
       refine d_gn rfl q33 ?_
       refine d_gn rfl q33 ?_
       refine d_gn rfl q33 ?_
       refine d_gn rfl q33 ?_
       refine d_gn rfl q33 ?_
       refine d_gn rfl q33 ?_
       refine d_gn rfl q33 ?_
       refine d_gn rfl q33 ?_
       refine d_gn rfl q33 ?_
       refine d_gn rfl q33 ?_
       refine d_gn rfl q33 ?_
       refine d_gn rfl q33 ?_
       refine d_gn rfl q33 ?_
       refine d_gn rfl q33 ?_
       refine d_pickf (b := (.bool false)) rfl q33 rfl ?_
       obtain rfl := Option.some.inj e4
       exact k7 _ _ _ ⟨d13.up rfl, _, _, Gw.refl _ _, s9, h33, h34, h35, h36, h37, h38, h39, h40, rfl⟩
      intro _ H8 _ i6
      obtain ⟨d14, Z6, V6, g6, s10, h47, h48, h49, h50, h51, h52, h53, h54, h55⟩ := i6
      refine d_mv (v := (.bool y5)) h55 ?_
      obtain ⟨y6, e5, e2⟩ := Pu.bind_some e2
      refine d_jn 9 (I := fun tm H => DD n1 32 (List.length F.census_table_endless.r8) H ∧ (∃ (Z7 V7 : PH) (w19 : Value) (w20 : Value) (w21 : Value) (w22 : Value) (w23 : Value) (w24 : Value), Gw Z6 V6 Z7 V7 ∧ Sat Z7 V7 H [pts o1 (.rw 0 [(vi y6.1), (vi y6.2.1), (vi y6.2.2.1), w24, (vi y6.2.2.2.2.1), w19, w20, w21, w22, w23]), It.sl (Sh.sl Sh.bool) w19 y6.2.2.2.2.2.1, It.sl (Sh.sl Sh.bool) w20 y6.2.2.2.2.2.2.1, It.sl (Sh.sl Sh.int) w21 y6.2.2.2.2.2.2.2.1, It.sl (Sh.sl (Sh.sl Sh.bool)) w22 y6.2.2.2.2.2.2.2.2.1, It.sl (Sh.sl (Sh.sl Sh.int)) w23 y6.2.2.2.2.2.2.2.2.2.1] ∧ tm 0 = (.pointer (some ⟨o1, 0, none⟩)) ∧ tm 1 = (vi a1) ∧ tm 2 = (vi a2) ∧ tm 3 = (vi a3) ∧ tm 9 = w1 ∧ tm 41 = (vi (Pu.W (a3 + 1))) ∧ tm 42 = (vi x5) ∧ tm 103 = (.bool y6.2.2.2.2.2.2.2.2.2.2) ∧ RdS Sh.api_Rule Z7 w24 y6.2.2.2.1)) (fun k8 => ?_) ?_
      ·rcases Bool.eq_false_or_eq_true y5 with q41 | q41
       ·replace e5 := if_t q41 e5
        refine d_gn rfl q41 ?_
        refine d_gn rfl q41 ?_
        refine d_gn rfl q41 ?_
        refine d_gn rfl q41 ?_
        refine d_gn rfl q41 ?_
        refine d_gn rfl q41 ?_
        refine d_gn rfl q41 ?_
        refine d_gn rfl q41 ?_
        refine d_pickt (a := (.bool true)) rfl q41 rfl ?_
        obtain rfl := Option.some.inj e5
        exact k8 _ _ _ ⟨d14.up rfl, _, _, _, _, _, _, _, _, Gw.refl _ _, s10, h47, h48, h49, h50, h51, h53, h54, rfl, (h18.mono (g4.trans (g5.trans g6)).z)⟩
       replace e5 := ib_f q41 e5
       refine d_want rfl q41 ?_
       refine d_mv (v := (.pointer (some ⟨o1, 0, none⟩))) h47 ?_
       refine d_want rfl q41 ?_
       refine d_mv (v := (vi a1)) h48 ?_
       refine d_want rfl q41 ?_
       refine d_mv (v := (vi a2)) h49 ?_
       refine d_want rfl q41 ?_
       refine d_add rfl rfl ?_
       refine d_want rfl q41 ?_
       refine d_mv (v := (vi a3)) h50 ?_
       refine d_want rfl q41 ?_
       refine d_mv (v := (vi x5)) h52 ?_
       refine d_want rfl q41 ?_
       refine d_sub rfl rfl ?_
       refine d_want rfl q41 ?_
       obtain ⟨x16, q42, e5⟩ := Pu.bind_some e5
       obtain ⟨Z8, V8, W2, g8, u2, c9, c10, -, c12, c11⟩ := Sat.call (l1 := [pts o1 (.rw 0 [(vi s2.1), (vi s2.2.1), (vi s2.2.2.1), (.slice d7 s2.2.2.2.1.length s2.2.2.2.1.length), (vi s2.2.2.2.2.1), (.slice d8 s2.2.2.2.2.2.1.length s2.2.2.2.2.2.1.length), (.slice d9 s2.2.2.2.2.2.2.1.length s2.2.2.2.2.2.2.1.length), (.slice d10 s2.2.2.2.2.2.2.2.1.length s2.2.2.2.2.2.2.2.1.length), (.slice d11 s2.2.2.2.2.2.2.2.2.1.length s2.2.2.2.2.2.2.2.2.1.length), (.slice d12 s2.2.2.2.2.2.2.2.2.2.length s2.2.2.2.2.2.2.2.2.2.length)]), It.sl (Sh.sl Sh.bool) (.slice d8 s2.2.2.2.2.2.1.length s2.2.2.2.2.2.1.length) s2.2.2.2.2.2.1, It.sl (Sh.sl Sh.bool) (.slice d9 s2.2.2.2.2.2.2.1.length s2.2.2.2.2.2.2.1.length) s2.2.2.2.2.2.2.1, It.sl (Sh.sl Sh.int) (.slice d10 s2.2.2.2.2.2.2.2.1.length s2.2.2.2.2.2.2.2.1.length) s2.2.2.2.2.2.2.2.1, It.sl (Sh.sl (Sh.sl Sh.bool)) (.slice d11 s2.2.2.2.2.2.2.2.2.1.length s2.2.2.2.2.2.2.2.2.1.length) s2.2.2.2.2.2.2.2.2.1, It.sl (Sh.sl (Sh.sl Sh.int)) (.slice d12 s2.2.2.2.2.2.2.2.2.2.length s2.2.2.2.2.2.2.2.2.2.length) s2.2.2.2.2.2.2.2.2.2]) (l2 := []) s10
       refine d_call (mc rfl (mc rfl (mc rfl (mc rfl m0)))) (ih (a0 := (Ty.census_table.mk (Ty.api_Grammar.mk s2.1 s2.2.1 s2.2.2.1 s2.2.2.2.1) s2.2.2.2.2.1 s2.2.2.2.2.2.1 s2.2.2.2.2.2.2.1 s2.2.2.2.2.2.2.2.1 s2.2.2.2.2.2.2.2.2.1 s2.2.2.2.2.2.2.2.2.2)) c9 (h18.mono ((g4.trans (g5.trans g6)).trans g8).z) q42) fun _ H10 i7 k9 => ?_
       have d15 := d14.keep k9
       obtain ⟨w25, w26, w27, w28, w29, w30, rfl, s12⟩ := i7
       have s13 := c11 _ _ s12
       obtain ⟨Z9, V9, g9, s14, h69⟩ := (s13.pull 1 rfl).frzR
       refine d_pickf (b := (.bool x16.2)) rfl q41 rfl ?_
       obtain rfl := Option.some.inj e5
       exact k8 _ _ _ ⟨d15.up rfl, _, _, _, _, _, _, _, _, (g8.trans g9), s14, h47, h48, h49, h50, h51, h53, h54, rfl, h69⟩
      intro _ H9 _ i8
      obtain ⟨d16, Z7, V7, w19, w20, w21, w22, w23, w24, g7, s11, h61, h62, h63, h64, h65, h66, h67, h68, h60⟩ := i8
      refine d_nil dc_nil ?_
      refine c_if h68 (fun q43 => ?_) (fun q43 => ?_)
      ·replace e2 := if_t q43 e2
       refine c_sr ?_
       refine o_mv (v := (.bool true)) rfl ?_
       refine c_nil ?_
       refine c_rt ?_
       have e6 := fin_r (k4 _ (Option.some.inj e2).symm) e
       obtain ⟨d17, rfl⟩ := (h60).val
       obtain ⟨d18, rfl⟩ := ((s11.curS (s := (Sh.sl Sh.bool)) 1 rfl)).val
       obtain ⟨d19, rfl⟩ := ((s11.curS (s := (Sh.sl Sh.bool)) 2 rfl)).val
       obtain ⟨d20, rfl⟩ := ((s11.curS (s := (Sh.sl Sh.int)) 3 rfl)).val
       obtain ⟨d21, rfl⟩ := ((s11.curS (s := (Sh.sl (Sh.sl Sh.bool))) 4 rfl)).val
       obtain ⟨d22, rfl⟩ := ((s11.curS (s := (Sh.sl (Sh.sl Sh.int))) 5 rfl)).val
       obtain rfl := Option.some.inj e6
       exact ⟨.inr rfl, _, (ar1 rfl), _, _, _, _, _, _, rfl, (((s11.push (ro_it (sl_ro h60))).pick [1, 0, 2, 3, 4, 5, 6] rfl).weak (g1.trans (g2.trans (g4.trans (g5.trans (g6.trans g7))))) hs.zv)⟩
      replace e2 := ib_f q43 e2
      refine c_sk ?_
      refine c_end ?_
      refine c_r ?_
      refine o_add h67 rfl ?_
      refine o_mv (v := (vi (Pu.W (x5 + 1)))) rfl ?_
      refine c_nil ?_
      exact k2 _ _ _ (Option.some.inj e2).symm ⟨(iv rfl (w_sucR q12 q16)), _, _, _, _, _, _, _, _, (g2.trans (g4.trans (g5.trans (g6.trans g7)))), s11, h61, h62, h63, h64, h65, h66, h60⟩
     ·obtain ⟨hte0, Z10, V10, w31, w32, w33, w34, w35, w36, g10, s15, h71, h72, h73, h74, h75, h76, h70⟩ := jd
      refine c_sr ?_
      refine o_lss hte0 h76 ?_
      refine c_nil ?_
      refine c_sq ?_
      refine c_iff rfl (ran_done _) ?_
      refine c_ex ?_
      refine e_c ?_
      refine e_c ?_
      refine e_h ?_
      exact k5 _ _ ⟨_, jf, _, _, _, _, _, _, _, _, g10, s15, h71, h72, h73, h74, h75, h76, h70⟩
    intro _ H4 i9
    obtain ⟨s4, f1, Z3, V3, w10, w11, w12, w13, w14, w15, g3, s5, h26, h27, h28, h29, h30, h31, h25⟩ := i9
    replace e := fin_o f1 e
    refine c_sr ?_
    refine o_mv (v := (.bool false)) rfl ?_
    refine c_nil ?_
    refine c_rt ?_
    obtain ⟨d23, rfl⟩ := (h25).val
    obtain ⟨d24, rfl⟩ := ((s5.curS (s := (Sh.sl Sh.bool)) 1 rfl)).val
    obtain ⟨d25, rfl⟩ := ((s5.curS (s := (Sh.sl Sh.bool)) 2 rfl)).val
    obtain ⟨d26, rfl⟩ := ((s5.curS (s := (Sh.sl Sh.int)) 3 rfl)).val
    obtain ⟨d27, rfl⟩ := ((s5.curS (s := (Sh.sl (Sh.sl Sh.bool))) 4 rfl)).val
    obtain ⟨d28, rfl⟩ := ((s5.curS (s := (Sh.sl (Sh.sl Sh.int))) 5 rfl)).val
    obtain rfl := Option.some.inj e
    exact ⟨.inr rfl, _, (ar1 rfl), _, _, _, _, _, _, rfl, (((s5.push (ro_it (sl_ro h25))).pick [1, 0, 2, 3, 4, 5, 6] rfl).weak (g1.trans g3) hs.zv)⟩
theorem X.census_table_endless {T : FuncId → Option AFunc} (nd : Nd.census_table_endless T) {φ : Nat} {Z V : PH} {H : Hp} {v1 : Value} {v2 : Value} {v3 : Value} {v4 : Value} {v5 : Value} {v6 : Value} {o1 : Nat} {a0 : Ty.census_table} {a1 : Int} {a2 : Int} {a3 : Int} (hs : Sat Z V H [pts o1 (.rw 0 [(vi a0.g.Terms), (vi a0.g.Nons), (vi a0.g.Start), v1, (vi a0.n), v2, v3, v4, v5, v6]), It.sl (Sh.sl Sh.bool) v2 a0.has_, It.sl (Sh.sl Sh.bool) v3 a0.loop_, It.sl (Sh.sl Sh.int) v4 a0.known_, It.sl (Sh.sl (Sh.sl Sh.bool)) v5 a0.ends, It.sl (Sh.sl (Sh.sl Sh.int)) v6 a0.ways]) (hp1 : RdS Sh.api_Rule Z v1 a0.g.Rules) {r : (Ty.census_table × Bool)} (e : P.census_table_endless φ a0 a1 a2 a3 = some r) :
    G T I.census_table_endless [(.pointer (some ⟨o1, 0, none⟩)), (vi a1), (vi a2), (vi a3)] H (fun rv H' => ∃ (u1 : Value) (u2 : Value) (u3 : Value) (u4 : Value) (u5 : Value) (u6 : Value), rv = (.bool r.2) ∧ Sat Z V H' [pts o1 (.rw 0 [(vi r.1.g.Terms), (vi r.1.g.Nons), (vi r.1.g.Start), u1, (vi r.1.n), u2, u3, u4, u5, u6]), Sh.it (Sh.ro (Sh.sl Sh.api_Rule)) [u1] r.1.g.Rules, It.sl (Sh.sl Sh.bool) u2 r.1.has_, It.sl (Sh.sl Sh.bool) u3 r.1.loop_, It.sl (Sh.sl Sh.int) u4 r.1.known_, It.sl (Sh.sl (Sh.sl Sh.bool)) u5 r.1.ends, It.sl (Sh.sl (Sh.sl Sh.int)) u6 r.1.ways]) := (X.census_table_endless_rec nd φ) hs hp1 e
/-! census_table_loops -/
structure Nd.census_table_loops (T : FuncId → Option AFunc) : Prop where
  own : Has T I.census_table_loops F.census_table_loops
  census_table_same : Nd.census_table_same T
  census_table_endless : Nd.census_table_endless T
set_option maxHeartbeats 1000000 in
theorem X.census_table_loops {T : FuncId → Option AFunc} (nd : Nd.census_table_loops T) {φ : Nat} {Z V : PH} {H : Hp} {v1 : Value} {v2 : Value} {v3 : Value} {v4 : Value} {v5 : Value} {v6 : Value} {o1 : Nat} {a0 : Ty.census_table} (hs : Sat Z V H [pts o1 (.rw 0 [(vi a0.g.Terms), (vi a0.g.Nons), (vi a0.g.Start), v1, (vi a0.n), v2, v3, v4, v5, v6]), It.sl (Sh.sl Sh.bool) v2 a0.has_, It.sl (Sh.sl Sh.bool) v3 a0.loop_, It.sl (Sh.sl Sh.int) v4 a0.known_, It.sl (Sh.sl (Sh.sl Sh.bool)) v5 a0.ends, It.sl (Sh.sl (Sh.sl Sh.int)) v6 a0.ways]) (hp1 : RdS Sh.api_Rule Z v1 a0.g.Rules) {r : Ty.census_table} (e : P.census_table_loops φ a0 = some r) :
    G T I.census_table_loops [(.pointer (some ⟨o1, 0, none⟩))] H (fun rv H' => ∃ (u1 : Value) (u2 : Value) (u3 : Value) (u4 : Value) (u5 : Value) (u6 : Value), rv = undef ∧ Sat Z V H' [pts o1 (.rw 0 [(vi r.g.Terms), (vi r.g.Nons), (vi r.g.Start), u1, (vi r.n), u2, u3, u4, u5, u6]), Sh.it (Sh.ro (Sh.sl Sh.api_Rule)) [u1] r.g.Rules, It.sl (Sh.sl Sh.bool) u2 r.has_, It.sl (Sh.sl Sh.bool) u3 r.loop_, It.sl (Sh.sl Sh.int) u4 r.known_, It.sl (Sh.sl (Sh.sl Sh.bool)) u5 r.ends, It.sl (Sh.sl (Sh.sl Sh.int)) u6 r.ways]) := by
 unfold P.census_table_loops at e
 refine f_mk nd.own ?_
 refine c_sq ?_
 refine c_sr ?_
 refine o_mv (v := (.pointer (some ⟨o1, 0, none⟩))) rfl ?_
 refine o_nck rfl ?_
 refine o_fad rfl ?_
 obtain ⟨d1, rfl⟩ := (hp1).val
 obtain ⟨d2, rfl⟩ := ((hs.curS (s := (Sh.sl Sh.bool)) 1 rfl)).val
 obtain ⟨d3, rfl⟩ := ((hs.curS (s := (Sh.sl Sh.bool)) 2 rfl)).val
 obtain ⟨d4, rfl⟩ := ((hs.curS (s := (Sh.sl Sh.int)) 3 rfl)).val
 obtain ⟨d5, rfl⟩ := ((hs.curS (s := (Sh.sl (Sh.sl Sh.bool))) 4 rfl)).val
 obtain ⟨d6, rfl⟩ := ((hs.curS (s := (Sh.sl (Sh.sl Sh.int))) 5 rfl)).val
 refine o_ldB 0 hs rfl rfl rfl rfl ?_
 refine o_add rfl rfl ?_
 refine o_mv (v := (vi 0)) rfl ?_
 refine c_nil ?_
 obtain ⟨x2, q3, e⟩ := Pu.bind_some e
 obtain ⟨rfl, q5⟩ := ranO_some q3
 obtain ⟨y1, q6, e⟩ := Pu.bind_some e
 refine c_bk ?_
 refine l_forP (xs := (Pu.ran (Pu.W (a0.n + 1)))) (fun (i1 : Nat) (s1 : (List (List Bool))) tm H => tm 17 = vi i1 ∧ ∃ (Z1 V1 : PH), Gw Z V Z1 V1 ∧ Sat Z1 V1 H [pts o1 (.rw 0 [(vi a0.g.Terms), (vi a0.g.Nons), (vi a0.g.Start), (.slice d1 a0.g.Rules.length a0.g.Rules.length), (vi a0.n), (.slice d2 a0.has_.length a0.has_.length), (.slice d3 a0.loop_.length a0.loop_.length), (.slice d4 a0.known_.length a0.known_.length), (.slice d5 a0.ends.length a0.ends.length), (.slice d6 a0.ways.length a0.ways.length)]), It.sl (Sh.sl Sh.bool) (.slice d2 a0.has_.length a0.has_.length) a0.has_, It.sl (Sh.sl Sh.bool) (.slice d3 a0.loop_.length a0.loop_.length) s1, It.sl (Sh.sl Sh.int) (.slice d4 a0.known_.length a0.known_.length) a0.known_, It.sl (Sh.sl (Sh.sl Sh.bool)) (.slice d5 a0.ends.length a0.ends.length) a0.ends, It.sl (Sh.sl (Sh.sl Sh.int)) (.slice d6 a0.ways.length a0.ways.length) a0.ways] ∧ tm 0 = (.pointer (some ⟨o1, 0, none⟩)) ∧ tm 16 = (vi (Pu.W (a0.n + 1)))) (fun i1 x1 s1 s3 tm H2 q1 q2 j1 e1 k1 => ?_) (fun tm H1 jd => ?_) q6 ⟨rfl, _, _, Gw.refl _ _, hs, rfl, rfl⟩
 ·obtain ⟨hti0, Z1, V1, g1, s2, h1, h2⟩ := j1
  unfold P.census_table_loops.b0 at e1
  have hti0 := iv hti0 (ran_x q1).symm
  refine c_sr ?_
  refine o_lss hti0 h2 ?_
  refine c_nil ?_
  refine c_sq ?_
  refine c_ift rfl (ran_lt q1) ?_
  refine c_sk ?_
  refine c_sq ?_
  refine c_bk ?_
  refine c_sr ?_
  refine o_mv (v := (vi x1)) hti0 ?_
  refine o_mv (v := (vi x1)) rfl ?_
  refine c_nil ?_
  refine c_sr ?_
  refine o_mv (v := (.pointer (some ⟨o1, 0, none⟩))) h1 ?_
  refine o_mv (v := (vi x1)) rfl ?_
  obtain ⟨x3, q7, e1⟩ := Pu.bind_some e1
  obtain ⟨Z2, V2, W1, g2, u1, c1, c2, -, c4, c3⟩ := Sat.call (l1 := [pts o1 (.rw 0 [(vi a0.g.Terms), (vi a0.g.Nons), (vi a0.g.Start), (.slice d1 a0.g.Rules.length a0.g.Rules.length), (vi a0.n), (.slice d2 a0.has_.length a0.has_.length), (.slice d3 a0.loop_.length a0.loop_.length), (.slice d4 a0.known_.length a0.known_.length), (.slice d5 a0.ends.length a0.ends.length), (.slice d6 a0.ways.length a0.ways.length)]), It.sl (Sh.sl Sh.bool) (.slice d2 a0.has_.length a0.has_.length) a0.has_, It.sl (Sh.sl Sh.bool) (.slice d3 a0.loop_.length a0.loop_.length) s1, It.sl (Sh.sl Sh.int) (.slice d4 a0.known_.length a0.known_.length) a0.known_, It.sl (Sh.sl (Sh.sl Sh.bool)) (.slice d5 a0.ends.length a0.ends.length) a0.ends, It.sl (Sh.sl (Sh.sl Sh.int)) (.slice d6 a0.ways.length a0.ways.length) a0.ways]) (l2 := []) s2
  refine o_call (mc rfl (mc rfl m0)) (X.census_table_same nd.census_table_same (a0 := (Ty.census_table.mk a0.g a0.n a0.has_ s1 a0.known_ a0.ends a0.ways)) c1 (hp1.mono ((g1.trans g2).z.trans c1.zv)) q7) fun w1 H3 i2 => ?_
  obtain ⟨_, rfl, s4⟩ := i2
  have s5 := c3 _ _ s4
  refine o_mv (v := w1) rfl ?_
  refine c_nil ?_
  refine c_sq ?_
  refine c_sr ?_
  refine o_mv (v := w1) rfl ?_
  refine o_len rfl ((s5.curS (s := (Sh.sl Sh.bool)) 6 rfl)).len ?_
  refine o_mv (v := (vi 0)) rfl ?_
  refine c_nil ?_
  refine c_gen (P := fun tm => tm 0 = (.pointer (some ⟨o1, 0, none⟩)) ∧ tm 2 = (vi x1) ∧ tm 3 = w1 ∧ tm 16 = (vi (Pu.W (a0.n + 1))) ∧ tm 17 = (vi x1) ∧ tm 24 = (vi (x3.length : Int)) ∧ tm 25 = (vi 0) ∧ True) ⟨h1, rfl, rfl, h2, hti0, rfl, rfl, trivial⟩ ?_
  intro _ i3
  obtain ⟨h3, h4, h5, h6, h7, h8, h9, -⟩ := i3
  obtain ⟨x5, q10, e1⟩ := Pu.bind_some e1
  obtain ⟨rfl, q12⟩ := ranO_some q10
  obtain ⟨y2, q13, e1⟩ := Pu.bind_some e1
  refine c_bk ?_
  refine l_forP (xs := (Pu.ran (x3.length : Int))) (fun (i4 : Nat) (s6 : (List (List Bool))) tm H => tm 25 = vi i4 ∧ ∃ (Z3 V3 : PH), Gw Z2 V2 Z3 V3 ∧ Sat Z3 V3 H [pts o1 (.rw 0 [(vi a0.g.Terms), (vi a0.g.Nons), (vi a0.g.Start), (.slice d1 a0.g.Rules.length a0.g.Rules.length), (vi a0.n), (.slice d2 a0.has_.length a0.has_.length), (.slice d3 a0.loop_.length a0.loop_.length), (.slice d4 a0.known_.length a0.known_.length), (.slice d5 a0.ends.length a0.ends.length), (.slice d6 a0.ways.length a0.ways.length)]), It.sl (Sh.sl Sh.bool) (.slice d2 a0.has_.length a0.has_.length) a0.has_, It.sl (Sh.sl Sh.bool) (.slice d3 a0.loop_.length a0.loop_.length) s1, It.sl (Sh.sl Sh.int) (.slice d4 a0.known_.length a0.known_.length) a0.known_, It.sl (Sh.sl (Sh.sl Sh.bool)) (.slice d5 a0.ends.length a0.ends.length) a0.ends, It.sl (Sh.sl (Sh.sl Sh.int)) (.slice d6 a0.ways.length a0.ways.length) a0.ways, It.sl (Sh.sl Sh.bool) w1 s6] ∧ tm 0 = (.pointer (some ⟨o1, 0, none⟩)) ∧ tm 2 = (vi x1) ∧ tm 3 = w1 ∧ tm 16 = (vi (Pu.W (a0.n + 1))) ∧ tm 17 = (vi x1) ∧ tm 24 = (vi (x3.length : Int))) (fun i4 x4 s6 s8 tm H5 q8 q9 j2 e2 k2 => ?_) (fun tm H4 jd => ?_) q13 ⟨h9, _, _, Gw.refl _ _, s5, h3, h4, h5, h6, h7, h8⟩
  ·obtain ⟨hti1, Z3, V3, g3, s7, h10, h11, h12, h13, h14, h15⟩ := j2
   unfold P.census_table_loops.b1 at e2
   have hti1 := iv hti1 (ran_x q8).symm
   refine c_sr ?_
   refine o_lss hti1 h15 ?_
   refine c_nil ?_
   refine c_sq ?_
   refine c_ift rfl (ran_lt q8) ?_
   refine c_sk ?_
   refine c_sq ?_
   refine c_bk ?_
   refine c_sr ?_
   refine o_mv (v := (vi x4)) hti1 ?_
   refine o_mv (v := (vi x4)) rfl ?_
   refine c_nil ?_
   refine c_sr ?_
   refine o_mv (v := w1) h12 ?_
   refine o_len rfl ((s7.curS (s := (Sh.sl Sh.bool)) 6 rfl)).len ?_
   refine o_mv (v := (vi 0)) rfl ?_
   refine c_nil ?_
   obtain ⟨x7, q16, e2⟩ := Pu.bind_some e2
   obtain ⟨rfl, q18⟩ := ranO_some q16
   obtain ⟨y3, q19, e2⟩ := Pu.bind_some e2
   refine c_bk ?_
   refine l_forP (xs := (Pu.ran (s6.length : Int))) (fun (i5 : Nat) (s9 : (List (List Bool))) tm H => tm 30 = vi i5 ∧ ∃ (Z4 V4 : PH), Gw Z3 V3 Z4 V4 ∧ Sat Z4 V4 H [pts o1 (.rw 0 [(vi a0.g.Terms), (vi a0.g.Nons), (vi a0.g.Start), (.slice d1 a0.g.Rules.length a0.g.Rules.length), (vi a0.n), (.slice d2 a0.has_.length a0.has_.length), (.slice d3 a0.loop_.length a0.loop_.length), (.slice d4 a0.known_.length a0.known_.length), (.slice d5 a0.ends.length a0.ends.length), (.slice d6 a0.ways.length a0.ways.length)]), It.sl (Sh.sl Sh.bool) (.slice d2 a0.has_.length a0.has_.length) a0.has_, It.sl (Sh.sl Sh.bool) (.slice d3 a0.loop_.length a0.loop_.length) s1, It.sl (Sh.sl Sh.int) (.slice d4 a0.known_.length a0.known_.length) a0.known_, It.sl (Sh.sl (Sh.sl Sh.bool)) (.slice d5 a0.ends.length a0.ends.length) a0.ends, It.sl (Sh.sl (Sh.sl Sh.int)) (.slice d6 a0.ways.length a0.ways.length) a0.ways, It.sl (Sh.sl Sh.bool) w1 s9] ∧ tm 0 = (.pointer (some ⟨o1, 0, none⟩)) ∧ tm 2 = (vi x1) ∧ tm 3 = w1 ∧ tm 4 = (vi x4) ∧ tm 16 = (vi (Pu.W (a0.n + 1))) ∧ tm 17 = (vi x1) ∧ tm 24 = (vi (x3.length : Int)) ∧ tm 25 = (vi x4) ∧ tm 29 = (vi (s6.length : Int))) (fun i5 x6 s9 s11 tm H7 q14 q15 j3 e3 k3 => ?_) (fun tm H6 jd => ?_) q19 ⟨rfl, _, _, Gw.refl _ _, s7, h10, h11, h12, rfl, h13, h14, h15, hti1, rfl⟩
   ·obtain ⟨hti2, Z4, V4, g4, s10, h16, h17, h18, h19, h20, h21, h22, h23, h24⟩ := j3
    unfold P.census_table_loops.b2 at e3
    have hti2 := iv hti2 (ran_x q14).symm
    refine c_sr ?_
    refine o_lss hti2 h24 ?_
    refine c_nil ?_
    refine c_sq ?_
    refine c_ift rfl (ran_lt q14) ?_
    refine c_sk ?_
    refine c_sq ?_
    refine c_bk ?_
    refine c_sr ?_
    refine o_mv (v := (vi x6)) hti2 ?_
    refine o_mv (v := (vi x6)) rfl ?_
    refine c_nil ?_
    refine c_sr ?_
    refine o_mv (v := w1) h18 ?_
    refine o_len rfl ((s10.curS (s := (Sh.sl Sh.bool)) 6 rfl)).len ?_
    refine o_mv (v := (vi 0)) rfl ?_
    refine c_nil ?_
    obtain ⟨x9, q22, e3⟩ := Pu.bind_some e3
    obtain ⟨rfl, q24⟩ := ranO_some q22
    obtain ⟨y4, q25, e3⟩ := Pu.bind_some e3
    refine c_bk ?_
    refine l_forP (xs := (Pu.ran (s9.length : Int))) (fun (i6 : Nat) (s12 : (List (List Bool))) tm H => tm 35 = vi i6 ∧ ∃ (Z5 V5 : PH), Gw Z4 V4 Z5 V5 ∧ Sat Z5 V5 H [pts o1 (.rw 0 [(vi a0.g.Terms), (vi a0.g.Nons), (vi a0.g.Start), (.slice d1 a0.g.Rules.length a0.g.Rules.length), (vi a0.n), (.slice d2 a0.has_.length a0.has_.length), (.slice d3 a0.loop_.length a0.loop_.length), (.slice d4 a0.known_.length a0.known_.length), (.slice d5 a0.ends.length a0.ends.length), (.slice d6 a0.ways.length a0.ways.length)]), It.sl (Sh.sl Sh.bool) (.slice d2 a0.has_.length a0.has_.length) a0.has_, It.sl (Sh.sl Sh.bool) (.slice d3 a0.loop_.length a0.loop_.length) s1, It.sl (Sh.sl Sh.int) (.slice d4 a0.known_.length a0.known_.length) a0.known_, It.sl (Sh.sl (Sh.sl Sh.bool)) (.slice d5 a0.ends.length a0.ends.length) a0.ends, It.sl (Sh.sl (Sh.sl Sh.int)) (.slice d6 a0.ways.length a0.ways.length) a0.ways, It.sl (Sh.sl Sh.bool) w1 s12] ∧ tm 0 = (.pointer (some ⟨o1, 0, none⟩)) ∧ tm 2 = (vi x1) ∧ tm 3 = w1 ∧ tm 4 = (vi x4) ∧ tm 5 = (vi x6) ∧ tm 16 = (vi (Pu.W (a0.n + 1))) ∧ tm 17 = (vi x1) ∧ tm 24 = (vi (x3.length : Int)) ∧ tm 25 = (vi x4) ∧ tm 29 = (vi (s6.length : Int)) ∧ tm 30 = (vi x6) ∧ tm 34 = (vi (s9.length : Int))) (fun i6 x8 s12 s14 tm H9 q20 q21 j4 e4 k4 => ?_) (fun tm H8 jd => ?_) q25 ⟨rfl, _, _, Gw.refl _ _, s10, h16, h17, h18, h19, rfl, h20, h21, h22, h23, h24, hti2, rfl⟩
    ·obtain ⟨hti3, Z5, V5, g5, s13, h25, h26, h27, h28, h29, h30, h31, h32, h33, h34, h35, h36⟩ := j4
     unfold P.census_table_loops.b3 at e4
     have hti3 := iv hti3 (ran_x q20).symm
     refine c_sr ?_
     refine o_lss hti3 h36 ?_
     refine c_nil ?_
     refine c_sq ?_
     refine c_ift rfl (ran_lt q20) ?_
     refine c_sk ?_
     refine c_sq ?_
     refine c_bk ?_
     refine c_sr ?_
     refine o_mv (v := (vi x8)) hti3 ?_
     refine o_mv (v := (vi x8)) rfl ?_
     refine c_nil ?_
     refine d_start s13 fun n1 H10 s15 q26 d7 => ?_
     refine d_mv (v := w1) h27 ?_
     refine d_mv (v := (vi x6)) h29 ?_
     obtain ⟨x10, q27, e4⟩ := Pu.bind_some e4
     refine d_idx (v := w1) rfl rfl (s15.curS (s := (Sh.sl Sh.bool)) 6 rfl) rfl q27 fun p1 q28 => ?_
     refine d_ldsv ((s15.curS 6 rfl).low (PH.le.refl _) q26) rfl (s15.curS (s := (Sh.sl Sh.bool)) 6 rfl) (PH.le.refl _) q28 q27 fun w2 h37 h38 => ?_
     refine d_mv (v := (vi x8)) rfl ?_
     refine d_mv (v := w1) h27 ?_
     refine d_mv (v := (vi x6)) h29 ?_
     obtain ⟨x11, q29, e4⟩ := Pu.bind_some e4
     refine d_idx (v := w1) rfl rfl (s15.curS (s := (Sh.sl Sh.bool)) 6 rfl) rfl q29 fun p2 q30 => ?_
     refine d_ldsv ((s15.curS 6 rfl).low (PH.le.refl _) q26) rfl (s15.curS (s := (Sh.sl Sh.bool)) 6 rfl) (PH.le.refl _) q30 q29 fun w3 h39 h40 => ?_
     refine d_mv (v := (vi x8)) rfl ?_
     obtain ⟨x12, q31, e4⟩ := Pu.bind_some e4
     refine d_idx (v := w3) rfl rfl h39 rfl q31 fun p3 q32 => ?_
     refine d_ldb (RdS.low h39 (PH.le.refl _) q26) rfl h39 (PH.le.refl _) q32 q31 ?_
     have h41 := vl_bool h39 (PH.le.refl _) q32 q31
     refine d_mv (v := (.bool x12)) rfl ?_
     obtain ⟨y5, e5, e4⟩ := Pu.bind_some e4
     refine d_jn 17 (I := fun tm H => DD n1 30 (List.length F.census_table_loops.r13) H ∧ (∃ (Z6 V6 : PH), Gw Z5 V5 Z6 V6 ∧ Sat Z6 V6 H [pts o1 (.rw 0 [(vi a0.g.Terms), (vi a0.g.Nons), (vi a0.g.Start), (.slice d1 a0.g.Rules.length a0.g.Rules.length), (vi a0.n), (.slice d2 a0.has_.length a0.has_.length), (.slice d3 a0.loop_.length a0.loop_.length), (.slice d4 a0.known_.length a0.known_.length), (.slice d5 a0.ends.length a0.ends.length), (.slice d6 a0.ways.length a0.ways.length)]), It.sl (Sh.sl Sh.bool) (.slice d2 a0.has_.length a0.has_.length) a0.has_, It.sl (Sh.sl Sh.bool) (.slice d3 a0.loop_.length a0.loop_.length) s1, It.sl (Sh.sl Sh.int) (.slice d4 a0.known_.length a0.known_.length) a0.known_, It.sl (Sh.sl (Sh.sl Sh.bool)) (.slice d5 a0.ends.length a0.ends.length) a0.ends, It.sl (Sh.sl (Sh.sl Sh.int)) (.slice d6 a0.ways.length a0.ways.length) a0.ways, It.sl (Sh.sl Sh.bool) w1 s12] ∧ tm 0 = (.pointer (some ⟨o1, 0, none⟩)) ∧ tm 2 = (vi x1) ∧ tm 3 = w1 ∧ tm 4 = (vi x4) ∧ tm 5 = (vi x6) ∧ tm 16 = (vi (Pu.W (a0.n + 1))) ∧ tm 17 = (vi x1) ∧ tm 24 = (vi (x3.length : Int)) ∧ tm 25 = (vi x4) ∧ tm 29 = (vi (s6.length : Int)) ∧ tm 30 = (vi x6) ∧ tm 34 = (vi (s9.length : Int)) ∧ tm 35 = (vi x8) ∧ tm 41 = w2 ∧ tm 42 = (vi x8) ∧ tm 67 = (.bool y5) ∧ RdS Sh.bool (Hp.ph H) w2 x10 ∧ vload H 1 false p1 = some w2)) (fun k5 => ?_) ?_
     ·rcases Bool.eq_false_or_eq_true x12 with q33 | q33
      ·replace e5 := if_t q33 e5
       refine d_gn rfl q33 ?_
       refine d_gn rfl q33 ?_
       refine d_gn rfl q33 ?_
       refine d_gn rfl q33 ?_
       refine d_gn rfl q33 ?_
       refine d_gn rfl q33 ?_
       refine d_gn rfl q33 ?_
       refine d_gn rfl q33 ?_
       refine d_gu rfl ?_
       refine d_gu rfl ?_
       refine d_gu rfl ?_
       refine d_gu rfl ?_
       refine d_gu rfl ?_
       refine d_gu rfl ?_
       refine d_gu rfl ?_
       refine d_gn rfl q33 ?_
       refine d_pickt (a := (.bool true)) rfl q33 rfl ?_
       obtain rfl := Option.some.inj e5
       exact k5 _ _ _ ⟨d7.up rfl, _, _, Gw.refl _ _, s15, h25, h26, h27, h28, h29, h30, h31, h32, h33, h34, h35, h36, hti3, rfl, rfl, rfl, h37, h38⟩
      replace e5 := ib_f q33 e5
      refine d_want rfl q33 ?_
      refine d_mv (v := w1) h27 ?_
      refine d_want rfl q33 ?_
      refine d_mv (v := (vi x6)) h29 ?_
      refine d_want rfl q33 ?_
      obtain ⟨x13, q34, e5⟩ := Pu.bind_some e5
      refine d_idx (v := w1) rfl rfl (s15.curS (s := (Sh.sl Sh.bool)) 6 rfl) rfl q34 fun p4 q35 => ?_
      refine d_want rfl q33 ?_
      refine d_ldsv ((s15.curS 6 rfl).low (PH.le.refl _) q26) rfl (s15.curS (s := (Sh.sl Sh.bool)) 6 rfl) (PH.le.refl _) q35 q34 fun w4 h60 h61 => ?_
      refine d_want rfl q33 ?_
      refine d_mv (v := (vi x4)) h28 ?_
      refine d_want rfl q33 ?_
      obtain ⟨x14, q36, e5⟩ := Pu.bind_some e5
      refine d_idx (v := w4) rfl rfl h60 rfl q36 fun p5 q37 => ?_
      refine d_want rfl q33 ?_
      refine d_ldb (RdS.low h60 (PH.le.refl _) q26) rfl h60 (PH.le.refl _) q37 q36 ?_
      have h62 := vl_bool h60 (PH.le.refl _) q37 q36
      refine d_want rfl q33 ?_
      refine d_mv (v := (.bool x14)) rfl ?_
      obtain ⟨y6, e6, e5⟩ := Pu.bind_some e5
      refine d_jn 8 (I := fun tm H => DD n1 29 (List.length F.census_table_loops.r13) H ∧ (∃ (Z7 V7 : PH), Gw Z5 V5 Z7 V7 ∧ Sat Z7 V7 H [pts o1 (.rw 0 [(vi a0.g.Terms), (vi a0.g.Nons), (vi a0.g.Start), (.slice d1 a0.g.Rules.length a0.g.Rules.length), (vi a0.n), (.slice d2 a0.has_.length a0.has_.length), (.slice d3 a0.loop_.length a0.loop_.length), (.slice d4 a0.known_.length a0.known_.length), (.slice d5 a0.ends.length a0.ends.length), (.slice d6 a0.ways.length a0.ways.length)]), It.sl (Sh.sl Sh.bool) (.slice d2 a0.has_.length a0.has_.length) a0.has_, It.sl (Sh.sl Sh.bool) (.slice d3 a0.loop_.length a0.loop_.length) s1, It.sl (Sh.sl Sh.int) (.slice d4 a0.known_.length a0.known_.length) a0.known_, It.sl (Sh.sl (Sh.sl Sh.bool)) (.slice d5 a0.ends.length a0.ends.length) a0.ends, It.sl (Sh.sl (Sh.sl Sh.int)) (.slice d6 a0.ways.length a0.ways.length) a0.ways, It.sl (Sh.sl Sh.bool) w1 s12] ∧ tm 0 = (.pointer (some ⟨o1, 0, none⟩)) ∧ tm 2 = (vi x1) ∧ tm 3 = w1 ∧ tm 4 = (vi x4) ∧ tm 5 = (vi x6) ∧ tm 16 = (vi (Pu.W (a0.n + 1))) ∧ tm 17 = (vi x1) ∧ tm 24 = (vi (x3.length : Int)) ∧ tm 25 = (vi x4) ∧ tm 29 = (vi (s6.length : Int)) ∧ tm 30 = (vi x6) ∧ tm 34 = (vi (s9.length : Int)) ∧ tm 35 = (vi x8) ∧ tm 41 = w2 ∧ tm 42 = (vi x8) ∧ tm 50 = (.bool x12) ∧ tm 51 = w1 ∧ tm 52 = (vi x6) ∧ tm 53 = p4 ∧ tm 54 = w4 ∧ tm 55 = (vi x4) ∧ tm 56 = p5 ∧ tm 57 = (.bool x14) ∧ tm 58 = (.bool x14) ∧ tm 66 = (.bool y6) ∧ RdS Sh.bool (Hp.ph H) w2 x10 ∧ vload H 1 false p1 = some w2 ∧ RdS Sh.bool (Hp.ph H) w4 x13 ∧ vload H 1 false p4 = some w4 ∧ RdS Sh.bool (Hp.ph H) w4 x13 ∧ vload H 1 false p4 = some w4)) (fun k6 => ?_) ?_
      ·rcases Bool.eq_false_or_eq_true x14 with q38 | q38
       ·replace e6 := if_t q38 e6
        refine d_want rfl q38 ?_
        refine d_mv (v := w1) h27 ?_
        refine d_want rfl q38 ?_
        refine d_mv (v := (vi x4)) h28 ?_
        refine d_want rfl q38 ?_
        obtain ⟨x15, q39, e6⟩ := Pu.bind_some e6
        refine d_idx (v := w1) rfl rfl (s15.curS (s := (Sh.sl Sh.bool)) 6 rfl) rfl q39 fun p6 q40 => ?_
        refine d_want rfl q38 ?_
        refine d_ldsv ((s15.curS 6 rfl).low (PH.le.refl _) q26) rfl (s15.curS (s := (Sh.sl Sh.bool)) 6 rfl) (PH.le.refl _) q40 q39 fun w5 h94 h95 => ?_
        refine d_want rfl q38 ?_
        refine d_mv (v := (vi x8)) rfl ?_
        refine d_want rfl q38 ?_
        obtain ⟨x16, q41, e6⟩ := Pu.bind_some e6
        refine d_idx (v := w5) rfl rfl h94 rfl q41 fun p7 q42 => ?_
        refine d_want rfl q38 ?_
        refine d_ldb (RdS.low h94 (PH.le.refl _) q26) rfl h94 (PH.le.refl _) q42 q41 ?_
        have h96 := vl_bool h94 (PH.le.refl _) q42 q41
        refine d_want rfl q33 ?_
        refine d_pickt (a := (.bool x16)) rfl q38 rfl ?_
        obtain rfl := Option.some.inj e6
        exact k6 _ _ _ ⟨d7.up rfl, _, _, Gw.refl _ _, s15, h25, h26, h27, h28, h29, h30, h31, h32, h33, h34, h35, h36, hti3, rfl, rfl, rfl, rfl, rfl, rfl, rfl, rfl, rfl, rfl, rfl, rfl, h37, h38, h60, h61, h60, h61⟩
       replace e6 := ib_f q38 e6
       refine d_gn rfl q38 ?_
       refine d_gn rfl q38 ?_
       refine d_gn rfl q38 ?_
       refine d_gn rfl q38 ?_
       refine d_gn rfl q38 ?_
       refine d_gn rfl q38 ?_
       refine d_gn rfl q38 ?_
       refine d_want rfl q33 ?_
       refine d_pickf (b := (.bool false)) rfl q38 rfl ?_
       obtain rfl := Option.some.inj e6
       exact k6 _ _ _ ⟨d7.up rfl, _, _, Gw.refl _ _, s15, h25, h26, h27, h28, h29, h30, h31, h32, h33, h34, h35, h36, hti3, rfl, rfl, rfl, rfl, rfl, rfl, rfl, rfl, rfl, rfl, rfl, rfl, h37, h38, h60, h61, h60, h61⟩
      intro _ H12 _ i7
      obtain ⟨d8, Z7, V7, g7, s17, h69, h70, h71, h72, h73, h74, h75, h76, h77, h78, h79, h80, h81, h82, h83, h84, h85, h86, h87, h88, h89, h90, h91, h92, h93, h63, h64, h65, h66, h67, h68⟩ := i7
      refine d_pickf (b := (.bool y6)) h84 q33 h93 ?_
      obtain rfl := Option.some.inj e5
      exact k5 _ _ _ ⟨d8.up rfl, _, _, g7, s17, h69, h70, h71, h72, h73, h74, h75, h76, h77, h78, h79, h80, h81, h82, h83, rfl, h63, h64⟩
     intro _ H11 _ i8
     obtain ⟨d9, Z6, V6, g6, s16, h44, h45, h46, h47, h48, h49, h50, h51, h52, h53, h54, h55, h56, h57, h58, h59, h42, h43⟩ := i8
     obtain ⟨x17, q43, e4⟩ := Pu.bind_some e4
     refine d_idx (v := w2) h57 h58 h42 rfl q43 fun p8 q44 => ?_
     refine d_st2 6 s16 rfl Sh.flat_lt rfl rfl h59 q28 q27 h43 q44 q43 rfl rfl fun H13 s18 k7 => ?_
     have d10 := d9.keep k7
     refine d_nil dc_nil ?_
     refine c_end ?_
     refine c_r ?_
     refine o_add h56 rfl ?_
     refine o_mv (v := (vi (Pu.W (x8 + 1)))) rfl ?_
     refine c_nil ?_
     obtain rfl := Option.some.inj e4
     exact k4 _ _ ⟨(iv rfl (w_sucR q20 q24)), _, _, (g5.trans g6), s18, h44, h45, h46, h47, h48, h49, h50, h51, h52, h53, h54, h55⟩
    obtain ⟨hte3, Z8, V8, g8, s19, h97, h98, h99, h100, h101, h102, h103, h104, h105, h106, h107, h108⟩ := jd
    refine c_sr ?_
    refine o_lss hte3 h108 ?_
    refine c_nil ?_
    refine c_sq ?_
    refine c_iff rfl (ran_done _) ?_
    refine c_ex ?_
    refine e_c ?_
    refine e_c ?_
    refine e_h ?_
    refine c_end ?_
    refine c_r ?_
    refine o_add h107 rfl ?_
    refine o_mv (v := (vi (Pu.W (x6 + 1)))) rfl ?_
    refine c_nil ?_
    obtain rfl := Option.some.inj e3
    exact k3 _ _ ⟨(iv rfl (w_sucR q14 q18)), _, _, (g4.trans g8), s19, h97, h98, h99, h100, h102, h103, h104, h105, h106⟩
   obtain ⟨hte2, Z9, V9, g9, s20, h109, h110, h111, h112, h113, h114, h115, h116, h117⟩ := jd
   refine c_sr ?_
   refine o_lss hte2 h117 ?_
   refine c_nil ?_
   refine c_sq ?_
   refine c_iff rfl (ran_done _) ?_
   refine c_ex ?_
   refine e_c ?_
   refine e_c ?_
   refine e_h ?_
   refine c_end ?_
   refine c_r ?_
   refine o_add h116 rfl ?_
   refine o_mv (v := (vi (Pu.W (x4 + 1)))) rfl ?_
   refine c_nil ?_
   obtain rfl := Option.some.inj e2
   exact k2 _ _ ⟨(iv rfl (w_sucR q8 q12)), _, _, (g3.trans g9), s20, h109, h110, h111, h113, h114, h115⟩
  obtain ⟨hte1, Z10, V10, g10, s21, h118, h119, h120, h121, h122, h123⟩ := jd
  refine c_sr ?_
  refine o_lss hte1 h123 ?_
  refine c_nil ?_
  refine c_sq ?_
  refine c_iff rfl (ran_done _) ?_
  refine c_ex ?_
  refine e_c ?_
  refine e_c ?_
  refine e_h ?_
  refine c_sr ?_
  refine o_mv (v := w1) h120 ?_
  refine o_len rfl ((s21.curS (s := (Sh.sl Sh.bool)) 6 rfl)).len ?_
  refine o_mv (v := (vi 0)) rfl ?_
  refine c_nil ?_
  obtain ⟨x19, q47, e1⟩ := Pu.bind_some e1
  obtain ⟨rfl, q49⟩ := ranO_some q47
  obtain ⟨y7, q50, e1⟩ := Pu.bind_some e1
  refine c_bk ?_
  refine l_forP (xs := (Pu.ran (y2.length : Int))) (fun (i9 : Nat) (s22 : (List (List Bool))) tm H => tm 74 = vi i9 ∧ ∃ (Z11 V11 : PH), Gw Z10 V10 Z11 V11 ∧ Sat Z11 V11 H [pts o1 (.rw 0 [(vi a0.g.Terms), (vi a0.g.Nons), (vi a0.g.Start), (.slice d1 a0.g.Rules.length a0.g.Rules.length), (vi a0.n), (.slice d2 a0.has_.length a0.has_.length), (.slice d3 a0.loop_.length a0.loop_.length), (.slice d4 a0.known_.length a0.known_.length), (.slice d5 a0.ends.length a0.ends.length), (.slice d6 a0.ways.length a0.ways.length)]), It.sl (Sh.sl Sh.bool) (.slice d2 a0.has_.length a0.has_.length) a0.has_, It.sl (Sh.sl Sh.bool) (.slice d3 a0.loop_.length a0.loop_.length) s22, It.sl (Sh.sl Sh.int) (.slice d4 a0.known_.length a0.known_.length) a0.known_, It.sl (Sh.sl (Sh.sl Sh.bool)) (.slice d5 a0.ends.length a0.ends.length) a0.ends, It.sl (Sh.sl (Sh.sl Sh.int)) (.slice d6 a0.ways.length a0.ways.length) a0.ways, It.sl (Sh.sl Sh.bool) w1 y2] ∧ tm 0 = (.pointer (some ⟨o1, 0, none⟩)) ∧ tm 2 = (vi x1) ∧ tm 3 = w1 ∧ tm 16 = (vi (Pu.W (a0.n + 1))) ∧ tm 17 = (vi x1) ∧ tm 73 = (vi (y2.length : Int))) (fun i9 x18 s22 s24 tm H18 q45 q46 j5 e7 k8 => ?_) (fun tm H17 jd => ?_) q50 ⟨rfl, _, _, Gw.refl _ _, s21, h118, h119, h120, h121, h122, rfl⟩
  ·obtain ⟨hti4, Z11, V11, g11, s23, h124, h125, h126, h127, h128, h129⟩ := j5
   unfold P.census_table_loops.b4 at e7
   have hti4 := iv hti4 (ran_x q45).symm
   refine c_sr ?_
   refine o_lss hti4 h129 ?_
   refine c_nil ?_
   refine c_sq ?_
   refine c_ift rfl (ran_lt q45) ?_
   refine c_sk ?_
   refine c_sq ?_
   refine c_bk ?_
   refine c_sr ?_
   refine o_mv (v := (vi x18)) hti4 ?_
   refine o_mv (v := (vi x18)) rfl ?_
   refine c_nil ?_
   refine d_start s23 fun n2 H19 s25 q51 d11 => ?_
   refine d_mv (v := (.pointer (some ⟨o1, 0, none⟩))) h124 ?_
   refine d_nck rfl ?_
   refine d_fad rfl ?_
   refine d_ldB (q51 _ _ (ph_some.2 ⟨s25.curB 0 rfl, by simp⟩)) 0 s25 rfl rfl rfl rfl ?_
   refine d_mv (v := (vi x18)) rfl ?_
   obtain ⟨x20, q52, e7⟩ := Pu.bind_some e7
   refine d_idx (v := (.slice d3 a0.loop_.length a0.loop_.length)) rfl rfl (s25.curS (s := (Sh.sl Sh.bool)) 2 rfl) rfl q52 fun p9 q53 => ?_
   refine d_ldsv ((s25.curS 2 rfl).low (PH.le.refl _) q51) rfl (s25.curS (s := (Sh.sl Sh.bool)) 2 rfl) (PH.le.refl _) q53 q52 fun w6 h130 h131 => ?_
   refine d_mv (v := (vi x1)) h125 ?_
   refine d_mv (v := w1) h126 ?_
   refine d_mv (v := (vi x18)) rfl ?_
   obtain ⟨x21, q54, e7⟩ := Pu.bind_some e7
   refine d_idx (v := w1) rfl rfl (s25.curS (s := (Sh.sl Sh.bool)) 6 rfl) rfl q54 fun p10 q55 => ?_
   refine d_ldsv ((s25.curS 6 rfl).low (PH.le.refl _) q51) rfl (s25.curS (s := (Sh.sl Sh.bool)) 6 rfl) (PH.le.refl _) q55 q54 fun w7 h132 h133 => ?_
   refine d_mv (v := (vi x18)) rfl ?_
   obtain ⟨x22, q56, e7⟩ := Pu.bind_some e7
   refine d_idx (v := w7) rfl rfl h132 rfl q56 fun p11 q57 => ?_
   refine d_ldb (RdS.low h132 (PH.le.refl _) q51) rfl h132 (PH.le.refl _) q57 q56 ?_
   have h134 := vl_bool h132 (PH.le.refl _) q57 q56
   obtain ⟨x23, q58, e7⟩ := Pu.bind_some e7
   refine d_idx (v := w6) rfl rfl h130 rfl q58 fun p12 q59 => ?_
   refine d_st2 2 s25 rfl Sh.flat_lt rfl rfl rfl q53 q52 h131 q59 q58 rfl rfl fun H20 s26 k9 => ?_
   have d12 := d11.keep k9
   refine d_nil dc_nil ?_
   refine c_end ?_
   refine c_r ?_
   refine o_add hti4 rfl ?_
   refine o_mv (v := (vi (Pu.W (x18 + 1)))) rfl ?_
   refine c_nil ?_
   obtain rfl := Option.some.inj e7
   exact k8 _ _ ⟨(iv rfl (w_sucR q45 q49)), _, _, g11, s26, h124, h125, h126, h127, h128, h129⟩
  obtain ⟨hte4, Z12, V12, g12, s27, h135, h136, h137, h138, h139, h140⟩ := jd
  refine c_sr ?_
  refine o_lss hte4 h140 ?_
  refine c_nil ?_
  refine c_sq ?_
  refine c_iff rfl (ran_done _) ?_
  refine c_ex ?_
  refine e_c ?_
  refine e_c ?_
  refine e_h ?_
  refine c_end ?_
  refine c_r ?_
  refine o_add h139 rfl ?_
  refine o_mv (v := (vi (Pu.W (x1 + 1)))) rfl ?_
  refine c_nil ?_
  obtain rfl := Option.some.inj e1
  exact k1 _ _ ⟨(iv rfl (w_sucR q1 q5)), _, _, (g1.trans (g2.trans (g10.trans g12))), (s27.pick [0, 1, 2, 3, 4, 5] rfl), h135, h138⟩
 obtain ⟨hte0, Z13, V13, g13, s28, h141, h142⟩ := jd
 refine c_sr ?_
 refine o_lss hte0 h142 ?_
 refine c_nil ?_
 refine c_sq ?_
 refine c_iff rfl (ran_done _) ?_
 refine c_ex ?_
 refine e_c ?_
 refine e_c ?_
 refine e_h ?_
 refine c_sr ?_
 refine o_mv (v := (.bool true)) rfl ?_
 refine c_nil ?_
 obtain ⟨y8, q62, e⟩ := Pu.bind_some e
 refine c_jn (I := fun tm H => ∃ (s31 : (Int × Int × Int × (List Ty.api_Rule) × Int × (List (List Bool)) × (List (List Bool)) × (List (List Int)) × (List (List (List Bool))) × (List (List (List Int))) × Bool)), y8 = .out s31 ∧ (∃ (Z15 V15 : PH) (w14 : Value) (w15 : Value) (w16 : Value) (w17 : Value) (w18 : Value) (w19 : Value), Gw Z13 V13 Z15 V15 ∧ Sat Z15 V15 H [pts o1 (.rw 0 [(vi s31.1), (vi s31.2.1), (vi s31.2.2.1), w19, (vi s31.2.2.2.2.1), w14, w15, w16, w17, w18]), It.sl (Sh.sl Sh.bool) w14 s31.2.2.2.2.2.1, It.sl (Sh.sl Sh.bool) w15 s31.2.2.2.2.2.2.1, It.sl (Sh.sl Sh.int) w16 s31.2.2.2.2.2.2.2.1, It.sl (Sh.sl (Sh.sl Sh.bool)) w17 s31.2.2.2.2.2.2.2.2.1, It.sl (Sh.sl (Sh.sl Sh.int)) w18 s31.2.2.2.2.2.2.2.2.2.1] ∧ tm 0 = (.pointer (some ⟨o1, 0, none⟩)) ∧ tm 8 = (.bool s31.2.2.2.2.2.2.2.2.2.2) ∧ RdS Sh.api_Rule Z15 w19 s31.2.2.2.1)) (fun k13 => ?_) ?_
 ·refine c_bk ?_
  refine l_whl (fun (s29 : (Int × Int × Int × (List Ty.api_Rule) × Int × (List (List Bool)) × (List (List Bool)) × (List (List Int)) × (List (List (List Bool))) × (List (List (List Int))) × Bool)) tm H => ∃ (Z14 V14 : PH) (w8 : Value) (w9 : Value) (w10 : Value) (w11 : Value) (w12 : Value) (w13 : Value), Gw Z13 V13 Z14 V14 ∧ Sat Z14 V14 H [pts o1 (.rw 0 [(vi s29.1), (vi s29.2.1), (vi s29.2.2.1), w13, (vi s29.2.2.2.2.1), w8, w9, w10, w11, w12]), It.sl (Sh.sl Sh.bool) w8 s29.2.2.2.2.2.1, It.sl (Sh.sl Sh.bool) w9 s29.2.2.2.2.2.2.1, It.sl (Sh.sl Sh.int) w10 s29.2.2.2.2.2.2.2.1, It.sl (Sh.sl (Sh.sl Sh.bool)) w11 s29.2.2.2.2.2.2.2.2.1, It.sl (Sh.sl (Sh.sl Sh.int)) w12 s29.2.2.2.2.2.2.2.2.2.1] ∧ tm 0 = (.pointer (some ⟨o1, 0, none⟩)) ∧ tm 8 = (.bool s29.2.2.2.2.2.2.2.2.2.2) ∧ RdS Sh.api_Rule Z14 w13 s29.2.2.2.1) (fun s29 y9 tm H24 j6 e8 k10 k11 k12 => ?_) q62 ⟨_, _, _, _, _, _, _, _, Gw.refl _ _, s28, h141, rfl, (hp1.mono g13.z)⟩
  obtain ⟨Z14, V14, w8, w9, w10, w11, w12, w13, g14, s30, h144, h145, h143⟩ := j6
  unfold P.census_table_loops.b5 at e8
  refine c_sq ?_
  refine c_sr ?_
  refine o_mv (v := (.bool s29.2.2.2.2.2.2.2.2.2.2)) h145 ?_
  refine c_nil ?_
  refine c_if rfl (fun q63 => ?_) (fun q63 => ?_)
  ·replace e8 := if_t q63 e8
   refine c_sk ?_
   refine c_bk ?_
   refine c_sr ?_
   refine o_mv (v := (.bool false)) rfl ?_
   refine c_nil ?_
   refine c_sr ?_
   refine o_mv (v := (.pointer (some ⟨o1, 0, none⟩))) h144 ?_
   refine o_nck rfl ?_
   refine o_fad rfl ?_
   refine o_fad rfl ?_
   obtain ⟨d13, rfl⟩ := (h143).val
   obtain ⟨d14, rfl⟩ := ((s30.curS (s := (Sh.sl Sh.bool)) 1 rfl)).val
   obtain ⟨d15, rfl⟩ := ((s30.curS (s := (Sh.sl Sh.bool)) 2 rfl)).val
   obtain ⟨d16, rfl⟩ := ((s30.curS (s := (Sh.sl Sh.int)) 3 rfl)).val
   obtain ⟨d17, rfl⟩ := ((s30.curS (s := (Sh.sl (Sh.sl Sh.bool))) 4 rfl)).val
   obtain ⟨d18, rfl⟩ := ((s30.curS (s := (Sh.sl (Sh.sl Sh.int))) 5 rfl)).val
   refine o_ldB 0 s30 rfl rfl rfl rfl ?_
   refine o_len rfl (h143).len ?_
   refine o_mv (v := (vi 0)) rfl ?_
   refine c_nil ?_
   obtain ⟨y10, q66, e8⟩ := Pu.bind_some e8
   refine c_bk ?_
   refine l_forP (xs := s29.2.2.2.1) (fun (i11 : Nat) (s33 : (Int × Int × Int × (List Ty.api_Rule) × Int × (List (List Bool)) × (List (List Bool)) × (List (List Int)) × (List (List (List Bool))) × (List (List (List Int))) × Bool)) tm H => tm 102 = vi i11 ∧ ∃ (Z16 V16 : PH) (w20 : Value) (w21 : Value) (w22 : Value) (w23 : Value) (w24 : Value) (w25 : Value), Gw Z14 V14 Z16 V16 ∧ Sat Z16 V16 H [pts o1 (.rw 0 [(vi s33.1), (vi s33.2.1), (vi s33.2.2.1), w25, (vi s33.2.2.2.2.1), w20, w21, w22, w23, w24]), It.sl (Sh.sl Sh.bool) w20 s33.2.2.2.2.2.1, It.sl (Sh.sl Sh.bool) w21 s33.2.2.2.2.2.2.1, It.sl (Sh.sl Sh.int) w22 s33.2.2.2.2.2.2.2.1, It.sl (Sh.sl (Sh.sl Sh.bool)) w23 s33.2.2.2.2.2.2.2.2.1, It.sl (Sh.sl (Sh.sl Sh.int)) w24 s33.2.2.2.2.2.2.2.2.2.1] ∧ tm 0 = (.pointer (some ⟨o1, 0, none⟩)) ∧ tm 8 = (.bool s33.2.2.2.2.2.2.2.2.2.2) ∧ tm 100 = (.slice d13 s29.2.2.2.1.length s29.2.2.2.1.length) ∧ tm 101 = (vi (s29.2.2.2.1.length : Int)) ∧ RdS Sh.api_Rule Z16 w25 s33.2.2.2.1) (fun i11 x25 s33 s35 tm H27 q64 q65 j7 e9 k14 => ?_) (fun tm H26 jd => ?_) q66 ⟨rfl, _, _, _, _, _, _, _, _, Gw.refl _ _, s30, h144, rfl, rfl, rfl, h143⟩
   ·obtain ⟨hti6, Z16, V16, w20, w21, w22, w23, w24, w25, g16, s34, h150, h151, h152, h153, h149⟩ := j7
    unfold P.census_table_loops.b6 at e9
    refine c_sr ?_
    refine o_lss hti6 h153 ?_
    refine c_nil ?_
    refine c_sq ?_
    refine c_ift rfl (Int.ofNat_lt.2 q65) ?_
    refine c_sk ?_
    refine c_sq ?_
    refine c_bk ?_
    refine c_sr ?_
    refine o_mv (v := (vi (i11 : Int))) hti6 ?_
    refine o_idx (v := (.slice d13 s29.2.2.2.1.length s29.2.2.2.1.length)) h152 hti6 (h143.mono g16.z) rfl (Pu.ix_nat.trans q64) fun p13 q67 => ?_
    refine o_lda rfl (h143.mono g16.z) s34.z rfl q67 (Pu.ix_nat.trans q64) fun c5 h154 => ?_
    obtain ⟨w26, rfl, h155⟩ := Sh.api_Rule_op h154
    refine o_new s34 fun b1 H28 s36 => ?_
    refine o_mv (v := (vi (i11 : Int))) rfl ?_
    obtain ⟨d19, rfl⟩ := (h155).val
    refine o_stB (us' := [(vi x25.Left), (.slice d19 x25.Right.length x25.Right.length)]) 0 s36 rfl rfl rfl rfl rfl rfl rfl fun H29 s37 => ?_
    refine c_nil ?_
    refine c_sr ?_
    refine o_mv (v := (.pointer (some ⟨o1, 0, none⟩))) h150 ?_
    refine o_nck rfl ?_
    refine o_fad rfl ?_
    obtain ⟨d20, rfl⟩ := (h149).val
    obtain ⟨d21, rfl⟩ := ((s37.curS (s := (Sh.sl Sh.bool)) 2 rfl)).val
    obtain ⟨d22, rfl⟩ := ((s37.curS (s := (Sh.sl Sh.bool)) 3 rfl)).val
    obtain ⟨d23, rfl⟩ := ((s37.curS (s := (Sh.sl Sh.int)) 4 rfl)).val
    obtain ⟨d24, rfl⟩ := ((s37.curS (s := (Sh.sl (Sh.sl Sh.bool))) 5 rfl)).val
    obtain ⟨d25, rfl⟩ := ((s37.curS (s := (Sh.sl (Sh.sl Sh.int))) 6 rfl)).val
    refine o_ldB 1 s37 rfl rfl rfl rfl ?_
    refine o_add rfl rfl ?_
    refine o_mv (v := (vi 0)) rfl ?_
    refine c_nil ?_
    refine c_gen (P := fun tm => tm 0 = (.pointer (some ⟨o1, 0, none⟩)) ∧ tm 8 = (.bool s33.2.2.2.2.2.2.2.2.2.2) ∧ tm 9 = (vi (i11 : Int)) ∧ tm 10 = (.pointer (some ⟨b1, 0, none⟩)) ∧ tm 100 = (.slice d13 s29.2.2.2.1.length s29.2.2.2.1.length) ∧ tm 101 = (vi (s29.2.2.2.1.length : Int)) ∧ tm 102 = (vi (i11 : Int)) ∧ tm 111 = (vi (Pu.W (s33.2.2.2.2.1 + 1))) ∧ tm 112 = (vi 0) ∧ True) ⟨h150, h151, rfl, rfl, h152, h153, hti6, rfl, rfl, trivial⟩ ?_
    intro _ i12
    obtain ⟨h156, h157, h158, h159, h160, h161, h162, h163, h164, -⟩ := i12
    obtain ⟨x27, q70, e9⟩ := Pu.bind_some e9
    obtain ⟨rfl, q72⟩ := ranO_some q70
    obtain ⟨y11, q73, e9⟩ := Pu.bind_some e9
    refine c_bk ?_
    refine l_forP (xs := (Pu.ran (Pu.W (s33.2.2.2.2.1 + 1)))) (fun (i13 : Nat) (s38 : (Int × Int × Int × (List Ty.api_Rule) × Int × (List (List Bool)) × (List (List Bool)) × (List (List Int)) × (List (List (List Bool))) × (List (List (List Int))) × Bool)) tm H => tm 112 = vi i13 ∧ ∃ (Z17 V17 : PH) (w27 : Value) (w28 : Value) (w29 : Value) (w30 : Value) (w31 : Value) (w32 : Value), Gw Z16 V16 Z17 V17 ∧ Sat Z17 V17 H [pts o1 (.rw 0 [(vi s38.1), (vi s38.2.1), (vi s38.2.2.1), w32, (vi s38.2.2.2.2.1), w27, w28, w29, w30, w31]), It.sl (Sh.sl Sh.bool) w27 s38.2.2.2.2.2.1, It.sl (Sh.sl Sh.bool) w28 s38.2.2.2.2.2.2.1, It.sl (Sh.sl Sh.int) w29 s38.2.2.2.2.2.2.2.1, It.sl (Sh.sl (Sh.sl Sh.bool)) w30 s38.2.2.2.2.2.2.2.2.1, It.sl (Sh.sl (Sh.sl Sh.int)) w31 s38.2.2.2.2.2.2.2.2.2.1, pts b1 (.rw 0 [(vi x25.Left), (.slice d19 x25.Right.length x25.Right.length)])] ∧ tm 0 = (.pointer (some ⟨o1, 0, none⟩)) ∧ tm 8 = (.bool s38.2.2.2.2.2.2.2.2.2.2) ∧ tm 9 = (vi (i11 : Int)) ∧ tm 10 = (.pointer (some ⟨b1, 0, none⟩)) ∧ tm 100 = (.slice d13 s29.2.2.2.1.length s29.2.2.2.1.length) ∧ tm 101 = (vi (s29.2.2.2.1.length : Int)) ∧ tm 102 = (vi (i11 : Int)) ∧ tm 111 = (vi (Pu.W (s33.2.2.2.2.1 + 1))) ∧ RdS Sh.api_Rule Z17 w32 s38.2.2.2.1) (fun i13 x26 s38 s40 tm H31 q68 q69 j8 e10 k15 => ?_) (fun tm H30 jd => ?_) q73 ⟨h164, _, _, _, _, _, _, _, _, Gw.refl _ _, (s37.pick [1, 2, 3, 4, 5, 6, 0] rfl), h156, h157, h158, h159, h160, h161, h162, h163, h149⟩
    ·obtain ⟨hti7, Z17, V17, w27, w28, w29, w30, w31, w32, g17, s39, h166, h167, h168, h169, h170, h171, h172, h173, h165⟩ := j8
     unfold P.census_table_loops.b7 at e10
     have hti7 := iv hti7 (ran_x q68).symm
     refine c_sr ?_
     refine o_lss hti7 h173 ?_
     refine c_nil ?_
     refine c_sq ?_
     refine c_ift rfl (ran_lt q68) ?_
     refine c_sk ?_
     refine c_sq ?_
     refine c_bk ?_
     refine c_sr ?_
     refine o_mv (v := (vi x26)) hti7 ?_
     refine o_mv (v := (vi x26)) rfl ?_
     refine c_nil ?_
     refine c_sq ?_
     refine d_start s39 fun n3 H32 s41 q74 d26 => ?_
     refine d_mv (v := (.pointer (some ⟨o1, 0, none⟩))) h166 ?_
     refine d_nck rfl ?_
     refine d_fad rfl ?_
     obtain ⟨d27, rfl⟩ := (h165).val
     obtain ⟨d28, rfl⟩ := ((s41.curS (s := (Sh.sl Sh.bool)) 1 rfl)).val
     obtain ⟨d29, rfl⟩ := ((s41.curS (s := (Sh.sl Sh.bool)) 2 rfl)).val
     obtain ⟨d30, rfl⟩ := ((s41.curS (s := (Sh.sl Sh.int)) 3 rfl)).val
     obtain ⟨d31, rfl⟩ := ((s41.curS (s := (Sh.sl (Sh.sl Sh.bool))) 4 rfl)).val
     obtain ⟨d32, rfl⟩ := ((s41.curS (s := (Sh.sl (Sh.sl Sh.int))) 5 rfl)).val
     refine d_ldB (q74 _ _ (ph_some.2 ⟨s41.curB 0 rfl, by simp⟩)) 0 s41 rfl rfl rfl rfl ?_
     refine d_fad h169 ?_
     refine d_ldB (q74 _ _ (ph_some.2 ⟨s41.curB 6 rfl, by simp⟩)) 6 s41 rfl rfl rfl rfl ?_
     obtain ⟨x28, q75, e10⟩ := Pu.bind_some e10
     refine d_idx (v := (.slice d29 s38.2.2.2.2.2.2.1.length s38.2.2.2.2.2.2.1.length)) rfl rfl (s41.curS (s := (Sh.sl Sh.bool)) 2 rfl) rfl q75 fun p14 q76 => ?_
     refine d_ldsv ((s41.curS 2 rfl).low (PH.le.refl _) q74) rfl (s41.curS (s := (Sh.sl Sh.bool)) 2 rfl) (PH.le.refl _) q76 q75 fun w33 h174 h175 => ?_
     refine d_mv (v := (vi x26)) rfl ?_
     obtain ⟨x29, q77, e10⟩ := Pu.bind_some e10
     refine d_idx (v := w33) rfl rfl h174 rfl q77 fun p15 q78 => ?_
     refine d_ldb (RdS.low h174 (PH.le.refl _) q74) rfl h174 (PH.le.refl _) q78 q77 ?_
     have h176 := vl_bool h174 (PH.le.refl _) q78 q77
     refine d_not rfl ?_
     refine d_mv (v := (.bool (!x29))) rfl ?_
     obtain ⟨y12, e11, e10⟩ := Pu.bind_some e10
     refine d_jn 5 (I := fun tm H => DD n3 18 (List.length F.census_table_loops.r32) H ∧ (∃ (Z18 V18 : PH) (w34 : Value) (w35 : Value) (w36 : Value) (w37 : Value) (w38 : Value) (w39 : Value), Gw Z17 V17 Z18 V18 ∧ Sat Z18 V18 H [pts o1 (.rw 0 [(vi y12.1), (vi y12.2.1), (vi y12.2.2.1), w39, (vi y12.2.2.2.2.1), w34, w35, w36, w37, w38]), It.sl (Sh.sl Sh.bool) w34 y12.2.2.2.2.2.1, It.sl (Sh.sl Sh.bool) w35 y12.2.2.2.2.2.2.1, It.sl (Sh.sl Sh.int) w36 y12.2.2.2.2.2.2.2.1, It.sl (Sh.sl (Sh.sl Sh.bool)) w37 y12.2.2.2.2.2.2.2.2.1, It.sl (Sh.sl (Sh.sl Sh.int)) w38 y12.2.2.2.2.2.2.2.2.2.1, pts b1 (.rw 0 [(vi x25.Left), (.slice d19 x25.Right.length x25.Right.length)])] ∧ tm 0 = (.pointer (some ⟨o1, 0, none⟩)) ∧ tm 8 = (.bool s38.2.2.2.2.2.2.2.2.2.2) ∧ tm 9 = (vi (i11 : Int)) ∧ tm 10 = (.pointer (some ⟨b1, 0, none⟩)) ∧ tm 11 = (vi x26) ∧ tm 100 = (.slice d13 s29.2.2.2.1.length s29.2.2.2.1.length) ∧ tm 101 = (vi (s29.2.2.2.1.length : Int)) ∧ tm 102 = (vi (i11 : Int)) ∧ tm 111 = (vi (Pu.W (s33.2.2.2.2.1 + 1))) ∧ tm 112 = (vi x26) ∧ tm 132 = (.bool y12.2.2.2.2.2.2.2.2.2.2) ∧ RdS Sh.api_Rule Z18 w39 y12.2.2.2.1)) (fun k16 => ?_) ?_
     ·rcases Bool.eq_false_or_eq_true (!x29) with q79 | q79
      ·replace e11 := if_t q79 e11
       refine d_want rfl q79 ?_
       refine d_mv (v := (.pointer (some ⟨o1, 0, none⟩))) h166 ?_
       refine d_want rfl q79 ?_
       refine d_mv (v := (vi (i11 : Int))) h168 ?_
       refine d_want rfl q79 ?_
       refine d_mv (v := (vi x26)) rfl ?_
       refine d_want rfl q79 ?_
       obtain ⟨x30, q80, e11⟩ := Pu.bind_some e11
       obtain ⟨Z19, V19, W2, g19, u2, c6, c7, -, c9, c8⟩ := Sat.call (l1 := [pts o1 (.rw 0 [(vi s38.1), (vi s38.2.1), (vi s38.2.2.1), (.slice d27 s38.2.2.2.1.length s38.2.2.2.1.length), (vi s38.2.2.2.2.1), (.slice d28 s38.2.2.2.2.2.1.length s38.2.2.2.2.2.1.length), (.slice d29 s38.2.2.2.2.2.2.1.length s38.2.2.2.2.2.2.1.length), (.slice d30 s38.2.2.2.2.2.2.2.1.length s38.2.2.2.2.2.2.2.1.length), (.slice d31 s38.2.2.2.2.2.2.2.2.1.length s38.2.2.2.2.2.2.2.2.1.length), (.slice d32 s38.2.2.2.2.2.2.2.2.2.1.length s38.2.2.2.2.2.2.2.2.2.1.length)]), It.sl (Sh.sl Sh.bool) (.slice d28 s38.2.2.2.2.2.1.length s38.2.2.2.2.2.1.length) s38.2.2.2.2.2.1, It.sl (Sh.sl Sh.bool) (.slice d29 s38.2.2.2.2.2.2.1.length s38.2.2.2.2.2.2.1.length) s38.2.2.2.2.2.2.1, It.sl (Sh.sl Sh.int) (.slice d30 s38.2.2.2.2.2.2.2.1.length s38.2.2.2.2.2.2.2.1.length) s38.2.2.2.2.2.2.2.1, It.sl (Sh.sl (Sh.sl Sh.bool)) (.slice d31 s38.2.2.2.2.2.2.2.2.1.length s38.2.2.2.2.2.2.2.2.1.length) s38.2.2.2.2.2.2.2.2.1, It.sl (Sh.sl (Sh.sl Sh.int)) (.slice d32 s38.2.2.2.2.2.2.2.2.2.1.length s38.2.2.2.2.2.2.2.2.2.1.length) s38.2.2.2.2.2.2.2.2.2.1]) (l2 := [pts b1 (.rw 0 [(vi x25.Left), (.slice d19 x25.Right.length x25.Right.length)])]) s41
       refine d_call (mc rfl (mc rfl (mc rfl (mc rfl m0)))) (X.census_table_endless nd.census_table_endless (a0 := (Ty.census_table.mk (Ty.api_Grammar.mk s38.1 s38.2.1 s38.2.2.1 s38.2.2.2.1) s38.2.2.2.2.1 s38.2.2.2.2.2.1 s38.2.2.2.2.2.2.1 s38.2.2.2.2.2.2.2.1 s38.2.2.2.2.2.2.2.2.1 s38.2.2.2.2.2.2.2.2.2.1)) c6 (h165.mono g19.z) q80) fun _ H34 i14 k17 => ?_
       have d33 := d26.keep k17
       obtain ⟨w40, w41, w42, w43, w44, w45, rfl, s43⟩ := i14
       have s44 := c8 _ _ s43
       obtain ⟨Z20, V20, g20, s45, h189⟩ := (s44.pull 1 rfl).frzR
       refine d_pickt (a := (.bool x30.2)) rfl q79 rfl ?_
       obtain rfl := Option.some.inj e11
       exact k16 _ _ _ ⟨d33.up rfl, _, _, _, _, _, _, _, _, (g19.trans g20), s45, h166, h167, h168, h169, rfl, h170, h171, h172, h173, hti7, rfl, h189⟩
      replace e11 := ib_f q79 e11
      refine d_gn rfl q79 ?_
      refine d_gn rfl q79 ?_
      refine d_gn rfl q79 ?_
      refine d_gn rfl q79 ?_
      refine d_pickf (b := (.bool false)) rfl q79 rfl ?_
      obtain rfl := Option.some.inj e11
      exact k16 _ _ _ ⟨d26.up rfl, _, _, _, _, _, _, _, _, Gw.refl _ _, s41, h166, h167, h168, h169, rfl, h170, h171, h172, h173, hti7, rfl, h165⟩
     intro _ H33 _ i15
     obtain ⟨d34, Z18, V18, w34, w35, w36, w37, w38, w39, g18, s42, h178, h179, h180, h181, h182, h183, h184, h185, h186, h187, h188, h177⟩ := i15
     refine d_nil dc_nil ?_
     obtain ⟨y13, e12, e10⟩ := Pu.bind_some e10
     refine c_jn (I := fun tm H => ∃ (Z21 V21 : PH), Gw Z18 V18 Z21 V21 ∧ Sat Z21 V21 H [pts o1 (.rw 0 [(vi y12.1), (vi y12.2.1), (vi y12.2.2.1), w39, (vi y12.2.2.2.2.1), w34, w35, w36, w37, w38]), It.sl (Sh.sl Sh.bool) w34 y12.2.2.2.2.2.1, It.sl (Sh.sl Sh.bool) w35 y13.1, It.sl (Sh.sl Sh.int) w36 y12.2.2.2.2.2.2.2.1, It.sl (Sh.sl (Sh.sl Sh.bool)) w37 y12.2.2.2.2.2.2.2.2.1, It.sl (Sh.sl (Sh.sl Sh.int)) w38 y12.2.2.2.2.2.2.2.2.2.1, pts b1 (.rw 0 [(vi x25.Left), (.slice d19 x25.Right.length x25.Right.length)])] ∧ tm 0 = (.pointer (some ⟨o1, 0, none⟩)) ∧ tm 8 = (.bool y13.2) ∧ tm 9 = (vi (i11 : Int)) ∧ tm 10 = (.pointer (some ⟨b1, 0, none⟩)) ∧ tm 100 = (.slice d13 s29.2.2.2.1.length s29.2.2.2.1.length) ∧ tm 101 = (vi (s29.2.2.2.1.length : Int)) ∧ tm 102 = (vi (i11 : Int)) ∧ tm 111 = (vi (Pu.W (s33.2.2.2.2.1 + 1))) ∧ tm 112 = (vi x26)) (fun k18 => ?_) ?_
     ·refine c_if h188 (fun q81 => ?_) (fun q81 => ?_)
      ·replace e12 := if_t q81 e12
       refine d_start s42 fun n4 H36 s47 q82 d35 => ?_
       refine d_mv (v := (.pointer (some ⟨o1, 0, none⟩))) h178 ?_
       refine d_nck rfl ?_
       refine d_fad rfl ?_
       obtain ⟨d36, rfl⟩ := (h177).val
       obtain ⟨d37, rfl⟩ := ((s47.curS (s := (Sh.sl Sh.bool)) 1 rfl)).val
       obtain ⟨d38, rfl⟩ := ((s47.curS (s := (Sh.sl Sh.bool)) 2 rfl)).val
       obtain ⟨d39, rfl⟩ := ((s47.curS (s := (Sh.sl Sh.int)) 3 rfl)).val
       obtain ⟨d40, rfl⟩ := ((s47.curS (s := (Sh.sl (Sh.sl Sh.bool))) 4 rfl)).val
       obtain ⟨d41, rfl⟩ := ((s47.curS (s := (Sh.sl (Sh.sl Sh.int))) 5 rfl)).val
       refine d_ldB (q82 _ _ (ph_some.2 ⟨s47.curB 0 rfl, by simp⟩)) 0 s47 rfl rfl rfl rfl ?_
       refine d_fad h181 ?_
       refine d_ldB (q82 _ _ (ph_some.2 ⟨s47.curB 6 rfl, by simp⟩)) 6 s47 rfl rfl rfl rfl ?_
       obtain ⟨x31, q83, e12⟩ := Pu.bind_some e12
       refine d_idx (v := (.slice d38 y12.2.2.2.2.2.2.1.length y12.2.2.2.2.2.2.1.length)) rfl rfl (s47.curS (s := (Sh.sl Sh.bool)) 2 rfl) rfl q83 fun p16 q84 => ?_
       refine d_ldsv ((s47.curS 2 rfl).low (PH.le.refl _) q82) rfl (s47.curS (s := (Sh.sl Sh.bool)) 2 rfl) (PH.le.refl _) q84 q83 fun w46 h199 h200 => ?_
       refine d_mv (v := (vi x26)) h182 ?_
       obtain ⟨x32, q85, e12⟩ := Pu.bind_some e12
       refine d_idx (v := w46) rfl rfl h199 rfl q85 fun p17 q86 => ?_
       refine d_st2 2 s47 rfl Sh.flat_lt rfl rfl rfl q84 q83 h200 q86 q85 rfl rfl fun H37 s48 k19 => ?_
       have d42 := d35.keep k19
       refine d_mv (v := (.bool true)) rfl ?_
       refine d_nil dc_nil ?_
       obtain rfl := Option.some.inj e12
       exact k18 _ _ ⟨_, _, Gw.refl _ _, s48, h178, rfl, h180, h181, h183, h184, h185, h186, h187⟩
      replace e12 := ib_f q81 e12
      refine c_sk ?_
      obtain rfl := Option.some.inj e12
      exact k18 _ _ ⟨_, _, Gw.refl _ _, s42, h178, h179, h180, h181, h183, h184, h185, h186, h187⟩
     intro _ H35 i16
     obtain ⟨Z21, V21, g21, s46, h190, h191, h192, h193, h194, h195, h196, h197, h198⟩ := i16
     refine c_end ?_
     refine c_r ?_
     refine o_add h198 rfl ?_
     refine o_mv (v := (vi (Pu.W (x26 + 1)))) rfl ?_
     refine c_nil ?_
     obtain rfl := Option.some.inj e10
     exact k15 _ _ ⟨(iv rfl (w_sucR q68 q72)), _, _, _, _, _, _, _, _, (g17.trans (g18.trans g21)), s46, h190, h191, h192, h193, h194, h195, h196, h197, (h177.mono g21.z)⟩
    obtain ⟨hte7, Z22, V22, w47, w48, w49, w50, w51, w52, g22, s49, h202, h203, h204, h205, h206, h207, h208, h209, h201⟩ := jd
    refine c_sr ?_
    refine o_lss hte7 h209 ?_
    refine c_nil ?_
    refine c_sq ?_
    refine c_iff rfl (ran_done _) ?_
    refine c_ex ?_
    refine e_c ?_
    refine e_c ?_
    refine e_h ?_
    refine c_end ?_
    refine c_r ?_
    refine o_add h208 rfl ?_
    refine o_mv (v := (vi (Pu.W ((i11 : Int) + 1)))) rfl ?_
    refine c_nil ?_
    obtain rfl := Option.some.inj e9
    exact k14 _ _ ⟨(iv rfl (w_suc q65 (h143).bd)), _, _, _, _, _, _, _, _, (g16.trans g22), (s49.pick [0, 1, 2, 3, 4, 5] rfl), h202, h203, h206, h207, h201⟩
   obtain ⟨hte6, Z23, V23, w53, w54, w55, w56, w57, w58, g23, s50, h211, h212, h213, h214, h210⟩ := jd
   refine c_sr ?_
   refine o_lss hte6 h214 ?_
   refine c_nil ?_
   refine c_sq ?_
   refine c_iff rfl (Int.lt_irrefl _) ?_
   refine c_ex ?_
   refine e_c ?_
   refine e_c ?_
   refine e_h ?_
   refine c_end ?_
   exact k10 _ _ _ (Option.some.inj e8).symm ⟨_, _, _, _, _, _, _, _, (g14.trans g23), s50, h211, h212, h210⟩
  replace e8 := ib_f q63 e8
  refine c_ex ?_
  refine e_c ?_
  refine e_c ?_
  refine e_h ?_
  exact k13 _ _ ⟨_, k11 _ (Option.some.inj e8).symm, _, _, _, _, _, _, _, _, g14, s30, h144, h145, h143⟩
 intro _ H25 i17
 obtain ⟨s31, f1, Z15, V15, w14, w15, w16, w17, w18, w19, g15, s32, h147, h148, h146⟩ := i17
 replace e := fin_o f1 e
 obtain ⟨d43, rfl⟩ := (h146).val
 obtain ⟨d44, rfl⟩ := ((s32.curS (s := (Sh.sl Sh.bool)) 1 rfl)).val
 obtain ⟨d45, rfl⟩ := ((s32.curS (s := (Sh.sl Sh.bool)) 2 rfl)).val
 obtain ⟨d46, rfl⟩ := ((s32.curS (s := (Sh.sl Sh.int)) 3 rfl)).val
 obtain ⟨d47, rfl⟩ := ((s32.curS (s := (Sh.sl (Sh.sl Sh.bool))) 4 rfl)).val
 obtain ⟨d48, rfl⟩ := ((s32.curS (s := (Sh.sl (Sh.sl Sh.int))) 5 rfl)).val
 obtain rfl := Option.some.inj e
 refine c_done ?_
 exact ⟨.inl rfl, _, rfl, _, _, _, _, _, _, rfl, (((s32.push (ro_it (sl_ro h146))).pick [1, 0, 2, 3, 4, 5, 6] rfl).weak (g13.trans g15) hs.zv)⟩
/-! census_table_count census_table_way -/
structure Nd.census_table_count (T : FuncId → Option AFunc) : Prop where
  own_census_table_count : Has T I.census_table_count F.census_table_count
  own_census_table_way : Has T I.census_table_way F.census_table_way
  census_table_sym : Nd.census_table_sym T
abbrev Nd.census_table_way := Nd.census_table_count
set_option maxHeartbeats 1000000 in
theorem X.census_table_count_rec {T : FuncId → Option AFunc} (nd : Nd.census_table_count T) : ∀ φ : Nat, (∀ {Z V : PH} {H : Hp} {v1 : Value} {v2 : Value} {v3 : Value} {v4 : Value} {v5 : Value} {v6 : Value} {o1 : Nat} {a0 : Ty.census_table} {a1 : Int} {a2 : Int} (hs : Sat Z V H [pts o1 (.rw 0 [(vi a0.g.Terms), (vi a0.g.Nons), (vi a0.g.Start), v1, (vi a0.n), v2, v3, v4, v5, v6]), It.sl (Sh.sl Sh.bool) v2 a0.has_, It.sl (Sh.sl Sh.bool) v3 a0.loop_, It.sl (Sh.sl Sh.int) v4 a0.known_, It.sl (Sh.sl (Sh.sl Sh.bool)) v5 a0.ends, It.sl (Sh.sl (Sh.sl Sh.int)) v6 a0.ways]) (hp1 : RdS Sh.api_Rule Z v1 a0.g.Rules) {r : (Ty.census_table × Int)} (e : P.census_table_count φ a0 a1 a2 = some r), G T I.census_table_count [(.pointer (some ⟨o1, 0, none⟩)), (vi a1), (vi a2)] H (fun rv H' => ∃ (u1 : Value) (u2 : Value) (u3 : Value) (u4 : Value) (u5 : Value) (u6 : Value), rv = (vi r.2) ∧ Sat Z V H' [pts o1 (.rw 0 [(vi r.1.g.Terms), (vi r.1.g.Nons), (vi r.1.g.Start), u1, (vi r.1.n), u2, u3, u4, u5, u6]), Sh.it (Sh.ro (Sh.sl Sh.api_Rule)) [u1] r.1.g.Rules, It.sl (Sh.sl Sh.bool) u2 r.1.has_, It.sl (Sh.sl Sh.bool) u3 r.1.loop_, It.sl (Sh.sl Sh.int) u4 r.1.known_, It.sl (Sh.sl (Sh.sl Sh.bool)) u5 r.1.ends, It.sl (Sh.sl (Sh.sl Sh.int)) u6 r.1.ways])) ∧ (∀ {Z V : PH} {H : Hp} {v1 : Value} {v2 : Value} {v3 : Value} {v4 : Value} {v5 : Value} {v6 : Value} {o1 : Nat} {a0 : Ty.census_table} {a1 : Int} {a2 : Int} {a3 : Int} (hs : Sat Z V H [pts o1 (.rw 0 [(vi a0.g.Terms), (vi a0.g.Nons), (vi a0.g.Start), v1, (vi a0.n), v2, v3, v4, v5, v6]), It.sl (Sh.sl Sh.bool) v2 a0.has_, It.sl (Sh.sl Sh.bool) v3 a0.loop_, It.sl (Sh.sl Sh.int) v4 a0.known_, It.sl (Sh.sl (Sh.sl Sh.bool)) v5 a0.ends, It.sl (Sh.sl (Sh.sl Sh.int)) v6 a0.ways]) (hp1 : RdS Sh.api_Rule Z v1 a0.g.Rules) {r : (Ty.census_table × Int)} (e : P.census_table_way φ a0 a1 a2 a3 = some r), G T I.census_table_way [(.pointer (some ⟨o1, 0, none⟩)), (vi a1), (vi a2), (vi a3)] H (fun rv H' => ∃ (u1 : Value) (u2 : Value) (u3 : Value) (u4 : Value) (u5 : Value) (u6 : Value), rv = (vi r.2) ∧ Sat Z V H' [pts o1 (.rw 0 [(vi r.1.g.Terms), (vi r.1.g.Nons), (vi r.1.g.Start), u1, (vi r.1.n), u2, u3, u4, u5, u6]), Sh.it (Sh.ro (Sh.sl Sh.api_Rule)) [u1] r.1.g.Rules, It.sl (Sh.sl Sh.bool) u2 r.1.has_, It.sl (Sh.sl Sh.bool) u3 r.1.loop_, It.sl (Sh.sl Sh.int) u4 r.1.known_, It.sl (Sh.sl (Sh.sl Sh.bool)) u5 r.1.ends, It.sl (Sh.sl (Sh.sl Sh.int)) u6 r.1.ways])) := by
  intro φ
  induction φ with
  | zero =>
    refine ⟨?_, ?_⟩
    · intro Z V H v1 v2 v3 v4 v5 v6 o1 a0 a1 a2 hs hp1 r e
      rw [P.census_table_count] at e; cases e
    · intro Z V H v1 v2 v3 v4 v5 v6 o1 a0 a1 a2 a3 hs hp1 r e
      rw [P.census_table_way] at e; cases e
  | succ φ ih =>
    refine ⟨?_, ?_⟩
    · intro Z V H v1 v2 v3 v4 v5 v6 o1 a0 a1 a2 hs hp1 r e
      rw [P.census_table_count] at e
      refine f_mk nd.own_census_table_count ?_
      refine c_sr ?_
      refine o_mv (v := (vi 0)) rfl ?_
      refine c_nil ?_
      refine c_sq ?_
      refine c_bk ?_
      refine c_sr ?_
      refine o_mv (v := (.pointer (some ⟨o1, 0, none⟩))) rfl ?_
      refine o_nck rfl ?_
      refine o_fad rfl ?_
      obtain ⟨d1, rfl⟩ := (hp1).val
      obtain ⟨d2, rfl⟩ := ((hs.curS (s := (Sh.sl Sh.bool)) 1 rfl)).val
      obtain ⟨d3, rfl⟩ := ((hs.curS (s := (Sh.sl Sh.bool)) 2 rfl)).val
      obtain ⟨d4, rfl⟩ := ((hs.curS (s := (Sh.sl Sh.int)) 3 rfl)).val
      obtain ⟨d5, rfl⟩ := ((hs.curS (s := (Sh.sl (Sh.sl Sh.bool))) 4 rfl)).val
      obtain ⟨d6, rfl⟩ := ((hs.curS (s := (Sh.sl (Sh.sl Sh.int))) 5 rfl)).val
      refine o_ldB 0 hs rfl rfl rfl rfl ?_
      refine o_mv (v := (vi a1)) rfl ?_
      obtain ⟨x1, q1, e⟩ := Pu.bind_some e
      refine o_idx (v := (.slice d2 a0.has_.length a0.has_.length)) rfl rfl (hs.curS (s := (Sh.sl Sh.bool)) 1 rfl) rfl q1 fun p1 q2 => ?_
      refine o_ldsv rfl (hs.curS (s := (Sh.sl Sh.bool)) 1 rfl) (PH.le.refl _) q2 q1 fun w1 h1 h2 => ?_
      refine o_mv (v := (vi a2)) rfl ?_
      obtain ⟨x2, q3, e⟩ := Pu.bind_some e
      refine o_idx (v := w1) rfl rfl h1 rfl q3 fun p2 q4 => ?_
      refine o_ldb rfl h1 (PH.le.refl _) q4 q3 ?_
      refine o_not rfl ?_
      refine o_mv (v := (.bool (!x2))) rfl ?_
      refine c_nil ?_
      refine c_gen (P := fun tm => tm 0 = (.pointer (some ⟨o1, 0, none⟩)) ∧ tm 1 = (vi a1) ∧ tm 2 = (vi a2) ∧ tm 10 = (.bool (!x2)) ∧ True) ⟨rfl, rfl, rfl, rfl, trivial⟩ ?_
      intro _ i1
      obtain ⟨h3, h4, h5, h6, -⟩ := i1
      refine c_if h6 (fun q5 => ?_) (fun q5 => ?_)
      ·replace e := if_t q5 e
       refine c_sr ?_
       refine o_mv (v := (vi 0)) rfl ?_
       refine c_nil ?_
       refine c_rt ?_
       obtain rfl := Option.some.inj e
       exact ⟨.inr rfl, _, (ar1 rfl), _, _, _, _, _, _, rfl, ((hs.push (ro_it (sl_ro hp1))).pick [1, 0, 2, 3, 4, 5, 6] rfl)⟩
      replace e := ib_f q5 e
      refine c_sr ?_
      refine o_mv (v := (.pointer (some ⟨o1, 0, none⟩))) h3 ?_
      refine o_nck rfl ?_
      refine o_fad rfl ?_
      refine o_ldB 0 hs rfl rfl rfl rfl ?_
      refine o_mv (v := (vi a1)) h4 ?_
      obtain ⟨x3, q6, e⟩ := Pu.bind_some e
      refine o_idx (v := (.slice d3 a0.loop_.length a0.loop_.length)) rfl rfl (hs.curS (s := (Sh.sl Sh.bool)) 2 rfl) rfl q6 fun p3 q7 => ?_
      refine o_ldsv rfl (hs.curS (s := (Sh.sl Sh.bool)) 2 rfl) (PH.le.refl _) q7 q6 fun w2 h7 h8 => ?_
      refine o_mv (v := (vi a2)) h5 ?_
      obtain ⟨x4, q8, e⟩ := Pu.bind_some e
      refine o_idx (v := w2) rfl rfl h7 rfl q8 fun p4 q9 => ?_
      refine o_ldb rfl h7 (PH.le.refl _) q9 q8 ?_
      refine o_mv (v := (.bool x4)) rfl ?_
      refine c_nil ?_
      refine c_gen (P := fun tm => tm 0 = (.pointer (some ⟨o1, 0, none⟩)) ∧ tm 1 = (vi a1) ∧ tm 2 = (vi a2) ∧ tm 22 = (.bool x4) ∧ True) ⟨h3, h4, h5, rfl, trivial⟩ ?_
      intro _ i2
      obtain ⟨h9, h10, h11, h12, -⟩ := i2
      refine c_if h12 (fun q10 => ?_) (fun q10 => ?_)
      ·replace e := if_t q10 e
       refine c_sr ?_
       refine o_mv (v := (vi (-1))) rfl ?_
       refine c_nil ?_
       refine c_rt ?_
       obtain rfl := Option.some.inj e
       exact ⟨.inr rfl, _, (ar1 rfl), _, _, _, _, _, _, rfl, ((hs.push (ro_it (sl_ro hp1))).pick [1, 0, 2, 3, 4, 5, 6] rfl)⟩
      replace e := ib_f q10 e
      refine c_sr ?_
      refine o_mv (v := (.pointer (some ⟨o1, 0, none⟩))) h9 ?_
      refine o_nck rfl ?_
      refine o_fad rfl ?_
      refine o_ldB 0 hs rfl rfl rfl rfl ?_
      refine o_mv (v := (vi a1)) h10 ?_
      obtain ⟨x5, q11, e⟩ := Pu.bind_some e
      refine o_idx (v := (.slice d4 a0.known_.length a0.known_.length)) rfl rfl (hs.curS (s := (Sh.sl Sh.int)) 3 rfl) rfl q11 fun p5 q12 => ?_
      refine o_ldsv rfl (hs.curS (s := (Sh.sl Sh.int)) 3 rfl) (PH.le.refl _) q12 q11 fun w3 h13 h14 => ?_
      refine o_mv (v := (vi a2)) h11 ?_
      obtain ⟨x6, q13, e⟩ := Pu.bind_some e
      refine o_idx (v := w3) rfl rfl h13 rfl q13 fun p6 q14 => ?_
      refine o_ldi rfl h13 (PH.le.refl _) q14 q13 ?_
      refine o_geq rfl rfl ?_
      refine o_mv (v := (.bool (decide (0 ≤ x6)))) rfl ?_
      refine c_nil ?_
      refine c_gen (P := fun tm => tm 0 = (.pointer (some ⟨o1, 0, none⟩)) ∧ tm 1 = (vi a1) ∧ tm 2 = (vi a2) ∧ tm 33 = (.bool (decide (0 ≤ x6))) ∧ True) ⟨h9, h10, h11, rfl, trivial⟩ ?_
      intro _ i3
      obtain ⟨h15, h16, h17, h18, -⟩ := i3
      refine c_ifd h18 (fun q15 => ?_) (fun q15 => ?_)
      ·replace e := if_t q15 e
       refine c_sr ?_
       refine o_mv (v := (.pointer (some ⟨o1, 0, none⟩))) h15 ?_
       refine o_nck rfl ?_
       refine o_fad rfl ?_
       refine o_ldB 0 hs rfl rfl rfl rfl ?_
       refine o_mv (v := (vi a1)) h16 ?_
       obtain ⟨x7, q16, e⟩ := Pu.bind_some e
       refine o_idx (v := (.slice d4 a0.known_.length a0.known_.length)) rfl rfl (hs.curS (s := (Sh.sl Sh.int)) 3 rfl) rfl q16 fun p7 q17 => ?_
       refine o_ldsv rfl (hs.curS (s := (Sh.sl Sh.int)) 3 rfl) (PH.le.refl _) q17 q16 fun w4 h19 h20 => ?_
       refine o_mv (v := (vi a2)) h17 ?_
       obtain ⟨x8, q18, e⟩ := Pu.bind_some e
       refine o_idx (v := w4) rfl rfl h19 rfl q18 fun p8 q19 => ?_
       refine o_ldi rfl h19 (PH.le.refl _) q19 q18 ?_
       refine o_mv (v := (vi x8)) rfl ?_
       refine c_nil ?_
       refine c_gen (P := fun tm => tm 6 = (vi x8) ∧ True) ⟨rfl, trivial⟩ ?_
       intro _ i4
       obtain ⟨h21, -⟩ := i4
       refine c_rt ?_
       obtain rfl := Option.some.inj e
       exact ⟨.inr rfl, _, (ar1 h21), _, _, _, _, _, _, rfl, ((hs.push (ro_it (sl_ro hp1))).pick [1, 0, 2, 3, 4, 5, 6] rfl)⟩
      replace e := if_f q15 e
      refine c_sk ?_
      refine c_end ?_
      refine c_sr ?_
      refine o_mv (v := (vi 0)) rfl ?_
      refine c_nil ?_
      refine c_sq ?_
      refine c_sr ?_
      refine o_mv (v := (.pointer (some ⟨o1, 0, none⟩))) h15 ?_
      refine o_nck rfl ?_
      refine o_fad rfl ?_
      refine o_fad rfl ?_
      refine o_ldB 0 hs rfl rfl rfl rfl ?_
      refine o_len rfl (hp1).len ?_
      refine o_mv (v := (vi 0)) rfl ?_
      refine c_nil ?_
      obtain ⟨y1, q22, e⟩ := Pu.bind_some e
      refine c_bk ?_
      refine l_forP (xs := a0.g.Rules) (fun (i5 : Nat) (s1 : (Int × Int × Int × (List Ty.api_Rule) × Int × (List (List Bool)) × (List (List Bool)) × (List (List Int)) × (List (List (List Bool))) × (List (List (List Int))) × Int)) tm H => tm 61 = vi i5 ∧ ∃ (Z1 V1 : PH) (w5 : Value) (w6 : Value) (w7 : Value) (w8 : Value) (w9 : Value) (w10 : Value), Gw Z V Z1 V1 ∧ Sat Z1 V1 H [pts o1 (.rw 0 [(vi s1.1), (vi s1.2.1), (vi s1.2.2.1), w10, (vi s1.2.2.2.2.1), w5, w6, w7, w8, w9]), It.sl (Sh.sl Sh.bool) w5 s1.2.2.2.2.2.1, It.sl (Sh.sl Sh.bool) w6 s1.2.2.2.2.2.2.1, It.sl (Sh.sl Sh.int) w7 s1.2.2.2.2.2.2.2.1, It.sl (Sh.sl (Sh.sl Sh.bool)) w8 s1.2.2.2.2.2.2.2.2.1, It.sl (Sh.sl (Sh.sl Sh.int)) w9 s1.2.2.2.2.2.2.2.2.2.1] ∧ tm 0 = (.pointer (some ⟨o1, 0, none⟩)) ∧ tm 1 = (vi a1) ∧ tm 2 = (vi a2) ∧ tm 7 = (vi s1.2.2.2.2.2.2.2.2.2.2) ∧ tm 59 = (.slice d1 a0.g.Rules.length a0.g.Rules.length) ∧ tm 60 = (vi (a0.g.Rules.length : Int)) ∧ RdS Sh.api_Rule Z1 w10 s1.2.2.2.1) (fun i5 x9 s1 s3 tm H2 q20 q21 j1 e1 k1 => ?_) (fun tm H1 jd => ?_) q22 ⟨rfl, _, _, _, _, _, _, _, _, Gw.refl _ _, hs, h15, h16, h17, rfl, rfl, rfl, hp1⟩
      ·obtain ⟨hti0, Z1, V1, w5, w6, w7, w8, w9, w10, g1, s2, h23, h24, h25, h26, h27, h28, h22⟩ := j1
       unfold P.census_table_count.b0 at e1
       refine c_sr ?_
       refine o_lss hti0 h28 ?_
       refine c_nil ?_
       refine c_sq ?_
       refine c_ift rfl (Int.ofNat_lt.2 q21) ?_
       refine c_sk ?_
       refine c_sq ?_
       refine c_bk ?_
       refine c_sr ?_
       refine o_mv (v := (vi (i5 : Int))) hti0 ?_
       refine o_idx (v := (.slice d1 a0.g.Rules.length a0.g.Rules.length)) h27 hti0 (hp1.mono g1.z) rfl (Pu.ix_nat.trans q20) fun p9 q23 => ?_
       refine o_lda rfl (hp1.mono g1.z) s2.z rfl q23 (Pu.ix_nat.trans q20) fun c1 h29 => ?_
       obtain ⟨w11, rfl, h30⟩ := Sh.api_Rule_op h29
       refine o_new s2 fun b1 H3 s4 => ?_
       refine o_mv (v := (vi (i5 : Int))) rfl ?_
       obtain ⟨d7, rfl⟩ := (h30).val
       refine o_stB (us' := [(vi x9.Left), (.slice d7 x9.Right.length x9.Right.length)]) 0 s4 rfl rfl rfl rfl rfl rfl rfl fun H4 s5 => ?_
       refine c_nil ?_
       refine c_sr ?_
       refine o_fad rfl ?_
       refine o_ldB 0 s5 rfl rfl rfl rfl ?_
       refine o_mv (v := (vi a1)) h24 ?_
       refine o_eql rfl rfl ?_
       refine c_nil ?_
       refine c_gen (P := fun tm => tm 0 = (.pointer (some ⟨o1, 0, none⟩)) ∧ tm 1 = (vi a1) ∧ tm 2 = (vi a2) ∧ tm 7 = (vi s1.2.2.2.2.2.2.2.2.2.2) ∧ tm 8 = (vi (i5 : Int)) ∧ tm 59 = (.slice d1 a0.g.Rules.length a0.g.Rules.length) ∧ tm 60 = (vi (a0.g.Rules.length : Int)) ∧ tm 61 = (vi (i5 : Int)) ∧ tm 69 = (.bool (decide (x9.Left = a1))) ∧ True) ⟨h23, h24, h25, h26, rfl, h27, h28, hti0, rfl, trivial⟩ ?_
       intro _ i6
       obtain ⟨h31, h32, h33, h34, h35, h36, h37, h38, h39, -⟩ := i6
       obtain ⟨y2, e2, e1⟩ := Pu.bind_some e1
       refine c_jn (I := fun tm H => ∃ (Z2 V2 : PH) (w12 : Value) (w13 : Value) (w14 : Value) (w15 : Value) (w16 : Value) (w17 : Value), Gw Z1 V1 Z2 V2 ∧ Sat Z2 V2 H [pts o1 (.rw 0 [(vi y2.1), (vi y2.2.1), (vi y2.2.2.1), w17, (vi y2.2.2.2.2.1), w12, w13, w14, w15, w16]), It.sl (Sh.sl Sh.bool) w12 y2.2.2.2.2.2.1, It.sl (Sh.sl Sh.bool) w13 y2.2.2.2.2.2.2.1, It.sl (Sh.sl Sh.int) w14 y2.2.2.2.2.2.2.2.1, It.sl (Sh.sl (Sh.sl Sh.bool)) w15 y2.2.2.2.2.2.2.2.2.1, It.sl (Sh.sl (Sh.sl Sh.int)) w16 y2.2.2.2.2.2.2.2.2.2.1] ∧ tm 0 = (.pointer (some ⟨o1, 0, none⟩)) ∧ tm 1 = (vi a1) ∧ tm 2 = (vi a2) ∧ tm 7 = (vi y2.2.2.2.2.2.2.2.2.2.2) ∧ tm 59 = (.slice d1 a0.g.Rules.length a0.g.Rules.length) ∧ tm 60 = (vi (a0.g.Rules.length : Int)) ∧ tm 61 = (vi (i5 : Int)) ∧ RdS Sh.api_Rule Z2 w17 y2.2.2.2.1) (fun k2 => ?_) ?_
       ·refine c_ifd h39 (fun q24 => ?_) (fun q24 => ?_)
        ·replace e2 := if_t q24 e2
         refine c_r ?_
         refine o_mv (v := (vi s1.2.2.2.2.2.2.2.2.2.2)) h34 ?_
         refine o_mv (v := (.pointer (some ⟨o1, 0, none⟩))) h31 ?_
         refine o_mv (v := (vi (i5 : Int))) h35 ?_
         refine o_mv (v := (vi a2)) h33 ?_
         obtain ⟨x10, q25, e2⟩ := Pu.bind_some e2
         obtain ⟨d8, rfl⟩ := (h22).val
         obtain ⟨d9, rfl⟩ := ((s5.curS (s := (Sh.sl Sh.bool)) 2 rfl)).val
         obtain ⟨d10, rfl⟩ := ((s5.curS (s := (Sh.sl Sh.bool)) 3 rfl)).val
         obtain ⟨d11, rfl⟩ := ((s5.curS (s := (Sh.sl Sh.int)) 4 rfl)).val
         obtain ⟨d12, rfl⟩ := ((s5.curS (s := (Sh.sl (Sh.sl Sh.bool))) 5 rfl)).val
         obtain ⟨d13, rfl⟩ := ((s5.curS (s := (Sh.sl (Sh.sl Sh.int))) 6 rfl)).val
         obtain ⟨Z3, V3, W1, g3, u1, c2, c3, -, c5, c4⟩ := Sat.call (l1 := [pts o1 (.rw 0 [(vi s1.1), (vi s1.2.1), (vi s1.2.2.1), (.slice d8 s1.2.2.2.1.length s1.2.2.2.1.length), (vi s1.2.2.2.2.1), (.slice d9 s1.2.2.2.2.2.1.length s1.2.2.2.2.2.1.length), (.slice d10 s1.2.2.2.2.2.2.1.length s1.2.2.2.2.2.2.1.length), (.slice d11 s1.2.2.2.2.2.2.2.1.length s1.2.2.2.2.2.2.2.1.length), (.slice d12 s1.2.2.2.2.2.2.2.2.1.length s1.2.2.2.2.2.2.2.2.1.length), (.slice d13 s1.2.2.2.2.2.2.2.2.2.1.length s1.2.2.2.2.2.2.2.2.2.1.length)]), It.sl (Sh.sl Sh.bool) (.slice d9 s1.2.2.2.2.2.1.length s1.2.2.2.2.2.1.length) s1.2.2.2.2.2.1, It.sl (Sh.sl Sh.bool) (.slice d10 s1.2.2.2.2.2.2.1.length s1.2.2.2.2.2.2.1.length) s1.2.2.2.2.2.2.1, It.sl (Sh.sl Sh.int) (.slice d11 s1.2.2.2.2.2.2.2.1.length s1.2.2.2.2.2.2.2.1.length) s1.2.2.2.2.2.2.2.1, It.sl (Sh.sl (Sh.sl Sh.bool)) (.slice d12 s1.2.2.2.2.2.2.2.2.1.length s1.2.2.2.2.2.2.2.2.1.length) s1.2.2.2.2.2.2.2.2.1, It.sl (Sh.sl (Sh.sl Sh.int)) (.slice d13 s1.2.2.2.2.2.2.2.2.2.1.length s1.2.2.2.2.2.2.2.2.2.1.length) s1.2.2.2.2.2.2.2.2.2.1]) (l2 := [pts b1 (.rw 0 [(vi x9.Left), (.slice d7 x9.Right.length x9.Right.length)])]) (s5.pick [1, 2, 3, 4, 5, 6, 0] rfl)
         refine o_call (mc rfl (mc rfl (mc rfl (mc rfl m0)))) (ih.2 (a0 := (Ty.census_table.mk (Ty.api_Grammar.mk s1.1 s1.2.1 s1.2.2.1 s1.2.2.2.1) s1.2.2.2.2.1 s1.2.2.2.2.2.1 s1.2.2.2.2.2.2.1 s1.2.2.2.2.2.2.2.1 s1.2.2.2.2.2.2.2.2.1 s1.2.2.2.2.2.2.2.2.2.1)) c2 (h22.mono g3.z) q25) fun _ H6 i7 => ?_
         obtain ⟨w18, w19, w20, w21, w22, w23, rfl, s7⟩ := i7
         have s8 := c4 _ _ s7
         obtain ⟨Z4, V4, g4, s9, h48⟩ := (s8.pull 1 rfl).frzR
         refine o_add rfl rfl ?_
         refine o_min rfl rfl ?_
         refine o_mv (v := (vi (Pu.imin 1000000000 (Pu.W (s1.2.2.2.2.2.2.2.2.2.2 + x10.2))))) rfl ?_
         refine c_nil ?_
         obtain rfl := Option.some.inj e2
         exact k2 _ _ ⟨_, _, _, _, _, _, _, _, (g3.trans g4), (s9.pick [0, 1, 2, 3, 4, 5] rfl), h31, h32, h33, rfl, h36, h37, h38, h48⟩
        replace e2 := if_f q24 e2
        refine c_sk ?_
        obtain rfl := Option.some.inj e2
        exact k2 _ _ ⟨_, _, _, _, _, _, _, _, Gw.refl _ _, (s5.pick [1, 2, 3, 4, 5, 6] rfl), h31, h32, h33, h34, h36, h37, h38, h22⟩
       intro _ H5 i8
       obtain ⟨Z2, V2, w12, w13, w14, w15, w16, w17, g2, s6, h41, h42, h43, h44, h45, h46, h47, h40⟩ := i8
       refine c_end ?_
       refine c_r ?_
       refine o_add h47 rfl ?_
       refine o_mv (v := (vi (Pu.W ((i5 : Int) + 1)))) rfl ?_
       refine c_nil ?_
       obtain rfl := Option.some.inj e1
       exact k1 _ _ ⟨(iv rfl (w_suc q21 (hp1).bd)), _, _, _, _, _, _, _, _, (g1.trans g2), s6, h41, h42, h43, h44, h45, h46, h40⟩
      obtain ⟨hte0, Z5, V5, w24, w25, w26, w27, w28, w29, g5, s10, h50, h51, h52, h53, h54, h55, h49⟩ := jd
      refine c_sr ?_
      refine o_lss hte0 h55 ?_
      refine c_nil ?_
      refine c_sq ?_
      refine c_iff rfl (Int.lt_irrefl _) ?_
      refine c_ex ?_
      refine e_c ?_
      refine e_c ?_
      refine e_h ?_
      refine c_sr ?_
      refine o_mv (v := (.pointer (some ⟨o1, 0, none⟩))) h50 ?_
      refine o_nck rfl ?_
      refine o_fad rfl ?_
      obtain ⟨d14, rfl⟩ := (h49).val
      obtain ⟨d15, rfl⟩ := ((s10.curS (s := (Sh.sl Sh.bool)) 1 rfl)).val
      obtain ⟨d16, rfl⟩ := ((s10.curS (s := (Sh.sl Sh.bool)) 2 rfl)).val
      obtain ⟨d17, rfl⟩ := ((s10.curS (s := (Sh.sl Sh.int)) 3 rfl)).val
      obtain ⟨d18, rfl⟩ := ((s10.curS (s := (Sh.sl (Sh.sl Sh.bool))) 4 rfl)).val
      obtain ⟨d19, rfl⟩ := ((s10.curS (s := (Sh.sl (Sh.sl Sh.int))) 5 rfl)).val
      refine o_ldB 0 s10 rfl rfl rfl rfl ?_
      refine o_mv (v := (vi a1)) h51 ?_
      obtain ⟨x11, q26, e⟩ := Pu.bind_some e
      refine o_idx (v := (.slice d17 y1.2.2.2.2.2.2.2.1.length y1.2.2.2.2.2.2.2.1.length)) rfl rfl (s10.curS (s := (Sh.sl Sh.int)) 3 rfl) rfl q26 fun p10 q27 => ?_
      refine o_ldsv rfl (s10.curS (s := (Sh.sl Sh.int)) 3 rfl) (PH.le.refl _) q27 q26 fun w30 h56 h57 => ?_
      refine o_mv (v := (vi a2)) h52 ?_
      refine o_mv (v := (vi y1.2.2.2.2.2.2.2.2.2.2)) h53 ?_
      obtain ⟨x12, q28, e⟩ := Pu.bind_some e
      refine o_idx (v := w30) rfl rfl h56 rfl q28 fun p11 q29 => ?_
      refine o_st2 3 s10 rfl Sh.flat_lt rfl rfl rfl q27 q26 h57 q29 q28 rfl rfl fun H8 s11 => ?_
      refine c_nil ?_
      refine c_gen (P := fun tm => tm 7 = (vi y1.2.2.2.2.2.2.2.2.2.2) ∧ True) ⟨h53, trivial⟩ ?_
      intro _ i9
      obtain ⟨h58, -⟩ := i9
      refine c_sr ?_
      refine o_mv (v := (vi y1.2.2.2.2.2.2.2.2.2.2)) h58 ?_
      refine o_mv (v := (vi y1.2.2.2.2.2.2.2.2.2.2)) rfl ?_
      refine c_nil ?_
      refine c_rt ?_
      obtain rfl := Option.some.inj e
      exact ⟨.inr rfl, _, (ar1 rfl), _, _, _, _, _, _, rfl, (((s11.push (ro_it (sl_ro h49))).pick [1, 0, 2, 3, 4, 5, 6] rfl).weak g5 hs.zv)⟩
    · intro Z V H v1 v2 v3 v4 v5 v6 o1 a0 a1 a2 a3 hs hp1 r e
      rw [P.census_table_way] at e
      refine f_mk nd.own_census_table_way ?_
      refine c_sr ?_
      refine o_mv (v := (vi 0)) rfl ?_
      refine c_nil ?_
      refine c_sr ?_
      refine o_mv (v := (.pointer (some ⟨o1, 0, none⟩))) rfl ?_
      refine o_nck rfl ?_
      refine o_fad rfl ?_
      refine o_fad rfl ?_
      obtain ⟨d1, rfl⟩ := (hp1).val
      obtain ⟨d2, rfl⟩ := ((hs.curS (s := (Sh.sl Sh.bool)) 1 rfl)).val
      obtain ⟨d3, rfl⟩ := ((hs.curS (s := (Sh.sl Sh.bool)) 2 rfl)).val
      obtain ⟨d4, rfl⟩ := ((hs.curS (s := (Sh.sl Sh.int)) 3 rfl)).val
      obtain ⟨d5, rfl⟩ := ((hs.curS (s := (Sh.sl (Sh.sl Sh.bool))) 4 rfl)).val
      obtain ⟨d6, rfl⟩ := ((hs.curS (s := (Sh.sl (Sh.sl Sh.int))) 5 rfl)).val
      refine o_ldB 0 hs rfl rfl rfl rfl ?_
      refine o_mv (v := (vi a1)) rfl ?_
      obtain ⟨x1, q1, e⟩ := Pu.bind_some e
      refine o_idx (v := (.slice d1 a0.g.Rules.length a0.g.Rules.length)) rfl rfl hp1 rfl q1 fun p1 q2 => ?_
      refine o_fadE rfl q2 fun p2 q3 => ?_
      refine o_ldF rfl hp1 hs.z rfl q2 q3 q1 rfl fun c1 h1 => ?_
      obtain ⟨w1, rfl, h2⟩ := Sh.api_Rule_op h1
      refine ⟨_, rfl, ?_⟩
      refine o_mv (v := w1) rfl ?_
      refine c_nil ?_
      refine c_gen (P := fun tm => tm 0 = (.pointer (some ⟨o1, 0, none⟩)) ∧ tm 1 = (vi a1) ∧ tm 2 = (vi a2) ∧ tm 3 = (vi a3) ∧ tm 9 = w1 ∧ True) ⟨rfl, rfl, rfl, rfl, rfl, trivial⟩ ?_
      intro _ i1
      obtain ⟨h3, h4, h5, h6, h7, -⟩ := i1
      refine c_sq ?_
      refine c_bk ?_
      refine c_sr ?_
      refine o_mv (v := (.pointer (some ⟨o1, 0, none⟩))) h3 ?_
      refine o_nck rfl ?_
      refine o_fad rfl ?_
      refine o_ldB 0 hs rfl rfl rfl rfl ?_
      refine o_mv (v := (vi a1)) h4 ?_
      obtain ⟨x2, q4, e⟩ := Pu.bind_some e
      refine o_idx (v := (.slice d5 a0.ends.length a0.ends.length)) rfl rfl (hs.curS (s := (Sh.sl (Sh.sl Sh.bool))) 4 rfl) rfl q4 fun p3 q5 => ?_
      refine o_ldsv rfl (hs.curS (s := (Sh.sl (Sh.sl Sh.bool))) 4 rfl) (PH.le.refl _) q5 q4 fun w2 h8 h9 => ?_
      refine o_mv (v := (vi a2)) h5 ?_
      obtain ⟨x3, q6, e⟩ := Pu.bind_some e
      refine o_idx (v := w2) rfl rfl h8 rfl q6 fun p4 q7 => ?_
      refine o_ldsv rfl h8 (PH.le.refl _) q7 q6 fun w3 h10 h11 => ?_
      refine o_mv (v := (vi a3)) h6 ?_
      obtain ⟨x4, q8, e⟩ := Pu.bind_some e
      refine o_idx (v := w3) rfl rfl h10 rfl q8 fun p5 q9 => ?_
      refine o_ldb rfl h10 (PH.le.refl _) q9 q8 ?_
      refine o_not rfl ?_
      refine o_mv (v := (.bool (!x4))) rfl ?_
      refine c_nil ?_
      refine c_gen (P := fun tm => tm 0 = (.pointer (some ⟨o1, 0, none⟩)) ∧ tm 1 = (vi a1) ∧ tm 2 = (vi a2) ∧ tm 3 = (vi a3) ∧ tm 9 = w1 ∧ tm 22 = (.bool (!x4)) ∧ True) ⟨h3, h4, h5, h6, h7, rfl, trivial⟩ ?_
      intro _ i2
      obtain ⟨h12, h13, h14, h15, h16, h17, -⟩ := i2
      refine c_if h17 (fun q10 => ?_) (fun q10 => ?_)
      ·replace e := if_t q10 e
       refine c_sr ?_
       refine o_mv (v := (vi 0)) rfl ?_
       refine c_nil ?_
       refine c_rt ?_
       obtain rfl := Option.some.inj e
       exact ⟨.inr rfl, _, (ar1 rfl), _, _, _, _, _, _, rfl, ((hs.push (ro_it (sl_ro hp1))).pick [1, 0, 2, 3, 4, 5, 6] rfl)⟩
      replace e := ib_f q10 e
      refine c_sr ?_
      refine o_mv (v := (vi a2)) h14 ?_
      refine o_mv (v := w1) h16 ?_
      refine o_len rfl (h2).len ?_
      refine o_eql rfl rfl ?_
      refine o_mv (v := (.bool (decide (a2 = (x1.Right.length : Int))))) rfl ?_
      refine c_nil ?_
      refine c_ifd rfl (fun q11 => ?_) (fun q11 => ?_)
      ·replace e := if_t q11 e
       refine c_sr ?_
       refine o_mv (v := (vi 1)) rfl ?_
       refine c_nil ?_
       refine c_rt ?_
       obtain rfl := Option.some.inj e
       exact ⟨.inr rfl, _, (ar1 rfl), _, _, _, _, _, _, rfl, ((hs.push (ro_it (sl_ro hp1))).pick [1, 0, 2, 3, 4, 5, 6] rfl)⟩
      replace e := if_f q11 e
      refine c_sr ?_
      refine o_mv (v := (.pointer (some ⟨o1, 0, none⟩))) h12 ?_
      refine o_nck rfl ?_
      refine o_fad rfl ?_
      refine o_ldB 0 hs rfl rfl rfl rfl ?_
      refine o_mv (v := (vi a1)) h13 ?_
      obtain ⟨x5, q12, e⟩ := Pu.bind_some e
      refine o_idx (v := (.slice d6 a0.ways.length a0.ways.length)) rfl rfl (hs.curS (s := (Sh.sl (Sh.sl Sh.int))) 5 rfl) rfl q12 fun p6 q13 => ?_
      refine o_ldsv rfl (hs.curS (s := (Sh.sl (Sh.sl Sh.int))) 5 rfl) (PH.le.refl _) q13 q12 fun w4 h18 h19 => ?_
      refine o_mv (v := (vi a2)) h14 ?_
      obtain ⟨x6, q14, e⟩ := Pu.bind_some e
      refine o_idx (v := w4) rfl rfl h18 rfl q14 fun p7 q15 => ?_
      refine o_ldsv rfl h18 (PH.le.refl _) q15 q14 fun w5 h20 h21 => ?_
      refine o_mv (v := (vi a3)) h15 ?_
      obtain ⟨x7, q16, e⟩ := Pu.bind_some e
      refine o_idx (v := w5) rfl rfl h20 rfl q16 fun p8 q17 => ?_
      refine o_ldi rfl h20 (PH.le.refl _) q17 q16 ?_
      refine o_geq rfl rfl ?_
      refine o_mv (v := (.bool (decide (0 ≤ x7)))) rfl ?_
      refine c_nil ?_
      refine c_gen (P := fun tm => tm 0 = (.pointer (some ⟨o1, 0, none⟩)) ∧ tm 1 = (vi a1) ∧ tm 2 = (vi a2) ∧ tm 3 = (vi a3) ∧ tm 9 = w1 ∧ tm 42 = (.bool (decide (0 ≤ x7))) ∧ True) ⟨h12, h13, h14, h15, h16, rfl, trivial⟩ ?_
      intro _ i3
      obtain ⟨h22, h23, h24, h25, h26, h27, -⟩ := i3
      refine c_ifd h27 (fun q18 => ?_) (fun q18 => ?_)
      ·replace e := if_t q18 e
       refine c_sr ?_
       refine o_mv (v := (.pointer (some ⟨o1, 0, none⟩))) h22 ?_
       refine o_nck rfl ?_
       refine o_fad rfl ?_
       refine o_ldB 0 hs rfl rfl rfl rfl ?_
       refine o_mv (v := (vi a1)) h23 ?_
       obtain ⟨x8, q19, e⟩ := Pu.bind_some e
       refine o_idx (v := (.slice d6 a0.ways.length a0.ways.length)) rfl rfl (hs.curS (s := (Sh.sl (Sh.sl Sh.int))) 5 rfl) rfl q19 fun p9 q20 => ?_
       refine o_ldsv rfl (hs.curS (s := (Sh.sl (Sh.sl Sh.int))) 5 rfl) (PH.le.refl _) q20 q19 fun w6 h28 h29 => ?_
       refine o_mv (v := (vi a2)) h24 ?_
       obtain ⟨x9, q21, e⟩ := Pu.bind_some e
       refine o_idx (v := w6) rfl rfl h28 rfl q21 fun p10 q22 => ?_
       refine o_ldsv rfl h28 (PH.le.refl _) q22 q21 fun w7 h30 h31 => ?_
       refine o_mv (v := (vi a3)) h25 ?_
       obtain ⟨x10, q23, e⟩ := Pu.bind_some e
       refine o_idx (v := w7) rfl rfl h30 rfl q23 fun p11 q24 => ?_
       refine o_ldi rfl h30 (PH.le.refl _) q24 q23 ?_
       refine o_mv (v := (vi x10)) rfl ?_
       refine c_nil ?_
       refine c_gen (P := fun tm => tm 8 = (vi x10) ∧ True) ⟨rfl, trivial⟩ ?_
       intro _ i4
       obtain ⟨h32, -⟩ := i4
       refine c_rt ?_
       obtain rfl := Option.some.inj e
       exact ⟨.inr rfl, _, (ar1 h32), _, _, _, _, _, _, rfl, ((hs.push (ro_it (sl_ro hp1))).pick [1, 0, 2, 3, 4, 5, 6] rfl)⟩
      replace e := if_f q18 e
      refine c_sk ?_
      refine c_end ?_
      refine c_sr ?_
      refine o_mv (v := (vi 0)) rfl ?_
      refine c_nil ?_
      refine c_sq ?_
      refine c_sr ?_
      refine o_mv (v := (vi a3)) h25 ?_
      refine o_add rfl rfl ?_
      refine o_mv (v := (vi 0)) rfl ?_
      refine c_nil ?_
      obtain ⟨x12, q27, e⟩ := Pu.bind_some e
      obtain ⟨rfl, q29⟩ := ranO_some q27
      obtain ⟨y1, q30, e⟩ := Pu.bind_some e
      refine c_bk ?_
      refine l_forP (xs := (Pu.ran (Pu.W (a3 + 1)))) (fun (i5 : Nat) (s1 : (Int × Int × Int × (List Ty.api_Rule) × Int × (List (List Bool)) × (List (List Bool)) × (List (List Int)) × (List (List (List Bool))) × (List (List (List Int))) × Int)) tm H => tm 72 = vi i5 ∧ ∃ (Z1 V1 : PH) (w8 : Value) (w9 : Value) (w10 : Value) (w11 : Value) (w12 : Value) (w13 : Value), Gw Z V Z1 V1 ∧ Sat Z1 V1 H [pts o1 (.rw 0 [(vi s1.1), (vi s1.2.1), (vi s1.2.2.1), w13, (vi s1.2.2.2.2.1), w8, w9, w10, w11, w12]), It.sl (Sh.sl Sh.bool) w8 s1.2.2.2.2.2.1, It.sl (Sh.sl Sh.bool) w9 s1.2.2.2.2.2.2.1, It.sl (Sh.sl Sh.int) w10 s1.2.2.2.2.2.2.2.1, It.sl (Sh.sl (Sh.sl Sh.bool)) w11 s1.2.2.2.2.2.2.2.2.1, It.sl (Sh.sl (Sh.sl Sh.int)) w12 s1.2.2.2.2.2.2.2.2.2.1] ∧ tm 0 = (.pointer (some ⟨o1, 0, none⟩)) ∧ tm 1 = (vi a1) ∧ tm 2 = (vi a2) ∧ tm 3 = (vi a3) ∧ tm 9 = w1 ∧ tm 10 = (vi s1.2.2.2.2.2.2.2.2.2.2) ∧ tm 71 = (vi (Pu.W (a3 + 1))) ∧ RdS Sh.api_Rule Z1 w13 s1.2.2.2.1) (fun i5 x11 s1 s3 tm H2 q25 q26 j1 e1 k1 => ?_) (fun tm H1 jd => ?_) q30 ⟨rfl, _, _, _, _, _, _, _, _, Gw.refl _ _, hs, h22, h23, h24, h25, h26, rfl, rfl, hp1⟩
      ·obtain ⟨hti0, Z1, V1, w8, w9, w10, w11, w12, w13, g1, s2, h34, h35, h36, h37, h38, h39, h40, h33⟩ := j1
       unfold P.census_table_way.b0 at e1
       have hti0 := iv hti0 (ran_x q25).symm
       refine c_sr ?_
       refine o_lss hti0 h40 ?_
       refine c_nil ?_
       refine c_sq ?_
       refine c_ift rfl (ran_lt q25) ?_
       refine c_sk ?_
       refine c_sq ?_
       refine c_bk ?_
       refine c_sr ?_
       refine o_mv (v := (vi x11)) hti0 ?_
       refine o_mv (v := (vi x11)) rfl ?_
       refine c_nil ?_
       refine c_sq ?_
       refine c_sr ?_
       refine o_mv (v := (.pointer (some ⟨o1, 0, none⟩))) h34 ?_
       refine o_mv (v := w1) h38 ?_
       refine o_mv (v := (vi a2)) h36 ?_
       obtain ⟨x13, q31, e1⟩ := Pu.bind_some e1
       refine o_idx (v := w1) rfl rfl (h2.mono g1.z) rfl q31 fun p12 q32 => ?_
       refine o_lda rfl (h2.mono g1.z) s2.z rfl q32 q31 fun c2 h41 => ?_
       obtain rfl := h41
       refine o_mv (v := (vi x11)) rfl ?_
       obtain ⟨x14, q33, e1⟩ := Pu.bind_some e1
       obtain ⟨d7, rfl⟩ := (h33).val
       obtain ⟨d8, rfl⟩ := ((s2.curS (s := (Sh.sl Sh.bool)) 1 rfl)).val
       obtain ⟨d9, rfl⟩ := ((s2.curS (s := (Sh.sl Sh.bool)) 2 rfl)).val
       obtain ⟨d10, rfl⟩ := ((s2.curS (s := (Sh.sl Sh.int)) 3 rfl)).val
       obtain ⟨d11, rfl⟩ := ((s2.curS (s := (Sh.sl (Sh.sl Sh.bool))) 4 rfl)).val
       obtain ⟨d12, rfl⟩ := ((s2.curS (s := (Sh.sl (Sh.sl Sh.int))) 5 rfl)).val
       obtain ⟨Z2, V2, W1, g2, u1, c3, c4, -, c6, c5⟩ := Sat.call (l1 := []) s2
       refine o_call (mc rfl (mc rfl (mc rfl m0))) (X.census_table_sym nd.census_table_sym (a0 := (Ty.census_table.mk (Ty.api_Grammar.mk s1.1 s1.2.1 s1.2.2.1 s1.2.2.2.1) s1.2.2.2.2.1 s1.2.2.2.2.2.1 s1.2.2.2.2.2.2.1 s1.2.2.2.2.2.2.2.1 s1.2.2.2.2.2.2.2.2.1 s1.2.2.2.2.2.2.2.2.2.1)) c3 (h33.mono (g2.z.trans c3.zv)) (c4 1 _ (Sh.sl Sh.bool) _ _ rfl) (c4 2 _ (Sh.sl Sh.bool) _ _ rfl) (c4 3 _ (Sh.sl Sh.int) _ _ rfl) (c4 4 _ (Sh.sl (Sh.sl Sh.bool)) _ _ rfl) (c4 5 _ (Sh.sl (Sh.sl Sh.int)) _ _ rfl) (c6 0 _ _ rfl) q33) fun _ H3 i6 => ?_
       obtain ⟨rfl, s4⟩ := i6
       have s5 := c5 _ _ s4
       refine o_not rfl ?_
       refine o_mv (v := (.bool (!x14))) rfl ?_
       obtain ⟨y2, e2, e1⟩ := Pu.bind_some e1
       refine o_jn 18 (I := fun tm H => ∃ (Z3 V3 : PH), Gw Z2 V2 Z3 V3 ∧ Sat Z3 V3 H [pts o1 (.rw 0 [(vi s1.1), (vi s1.2.1), (vi s1.2.2.1), (.slice d7 s1.2.2.2.1.length s1.2.2.2.1.length), (vi s1.2.2.2.2.1), (.slice d8 s1.2.2.2.2.2.1.length s1.2.2.2.2.2.1.length), (.slice d9 s1.2.2.2.2.2.2.1.length s1.2.2.2.2.2.2.1.length), (.slice d10 s1.2.2.2.2.2.2.2.1.length s1.2.2.2.2.2.2.2.1.length), (.slice d11 s1.2.2.2.2.2.2.2.2.1.length s1.2.2.2.2.2.2.2.2.1.length), (.slice d12 s1.2.2.2.2.2.2.2.2.2.1.length s1.2.2.2.2.2.2.2.2.2.1.length)]), It.sl (Sh.sl Sh.bool) (.slice d8 s1.2.2.2.2.2.1.length s1.2.2.2.2.2.1.length) s1.2.2.2.2.2.1, It.sl (Sh.sl Sh.bool) (.slice d9 s1.2.2.2.2.2.2.1.length s1.2.2.2.2.2.2.1.length) s1.2.2.2.2.2.2.1, It.sl (Sh.sl Sh.int) (.slice d10 s1.2.2.2.2.2.2.2.1.length s1.2.2.2.2.2.2.2.1.length) s1.2.2.2.2.2.2.2.1, It.sl (Sh.sl (Sh.sl Sh.bool)) (.slice d11 s1.2.2.2.2.2.2.2.2.1.length s1.2.2.2.2.2.2.2.2.1.length) s1.2.2.2.2.2.2.2.2.1, It.sl (Sh.sl (Sh.sl Sh.int)) (.slice d12 s1.2.2.2.2.2.2.2.2.2.1.length s1.2.2.2.2.2.2.2.2.2.1.length) s1.2.2.2.2.2.2.2.2.2.1] ∧ tm 0 = (.pointer (some ⟨o1, 0, none⟩)) ∧ tm 1 = (vi a1) ∧ tm 2 = (vi a2) ∧ tm 3 = (vi a3) ∧ tm 9 = w1 ∧ tm 10 = (vi s1.2.2.2.2.2.2.2.2.2.2) ∧ tm 11 = (vi x11) ∧ tm 71 = (vi (Pu.W (a3 + 1))) ∧ tm 72 = (vi x11) ∧ tm 101 = (.bool y2)) (fun k2 => ?_) ?_
       ·rcases Bool.eq_false_or_eq_true (!x14) with q34 | q34
        ·replace e2 := if_t q34 e2
         refine o_gn rfl q34 ?_
         refine o_gn rfl q34 ?_
         refine o_gn rfl q34 ?_
         refine o_gn rfl q34 ?_
         refine o_gn rfl q34 ?_
         refine o_gn rfl q34 ?_
         refine o_gn rfl q34 ?_
         refine o_gn rfl q34 ?_
         refine o_gn rfl q34 ?_
         refine o_gn rfl q34 ?_
         refine o_gn rfl q34 ?_
         refine o_gn rfl q34 ?_
         refine o_gn rfl q34 ?_
         refine o_gn rfl q34 ?_
         refine o_gn rfl q34 ?_
         refine o_gn rfl q34 ?_
         refine o_gn rfl q34 ?_
         refine o_pickt (a := (.bool true)) rfl q34 rfl ?_
         obtain rfl := Option.some.inj e2
         exact k2 _ _ ⟨_, _, Gw.refl _ _, s5, h34, h35, h36, h37, h38, h39, rfl, h40, hti0, rfl⟩
        replace e2 := ib_f q34 e2
        refine o_gy rfl q34 ?_
        refine o_mv (v := (.pointer (some ⟨o1, 0, none⟩))) h34 ?_
        refine o_gy rfl q34 ?_
        refine o_nck rfl ?_
        refine o_gy rfl q34 ?_
        refine o_fad rfl ?_
        refine o_gy rfl q34 ?_
        refine o_ldB 0 s5 rfl rfl rfl rfl ?_
        refine o_gy rfl q34 ?_
        refine o_mv (v := (vi a1)) h35 ?_
        refine o_gy rfl q34 ?_
        obtain ⟨x15, q35, e2⟩ := Pu.bind_some e2
        refine o_idx (v := (.slice d11 s1.2.2.2.2.2.2.2.2.1.length s1.2.2.2.2.2.2.2.2.1.length)) rfl rfl (s5.curS (s := (Sh.sl (Sh.sl Sh.bool))) 4 rfl) rfl q35 fun p13 q36 => ?_
        refine o_gy rfl q34 ?_
        refine o_ldsv rfl (s5.curS (s := (Sh.sl (Sh.sl Sh.bool))) 4 rfl) (PH.le.refl _) q36 q35 fun w14 h52 h53 => ?_
        refine o_gy rfl q34 ?_
        refine o_mv (v := (vi a2)) h36 ?_
        refine o_gy rfl q34 ?_
        refine o_add rfl rfl ?_
        refine o_gy rfl q34 ?_
        obtain ⟨x16, q37, e2⟩ := Pu.bind_some e2
        refine o_idx (v := w14) rfl rfl h52 rfl q37 fun p14 q38 => ?_
        refine o_gy rfl q34 ?_
        refine o_ldsv rfl h52 (PH.le.refl _) q38 q37 fun w15 h54 h55 => ?_
        refine o_gy rfl q34 ?_
        refine o_mv (v := (vi a3)) h37 ?_
        refine o_gy rfl q34 ?_
        refine o_mv (v := (vi x11)) rfl ?_
        refine o_gy rfl q34 ?_
        refine o_sub rfl rfl ?_
        refine o_gy rfl q34 ?_
        obtain ⟨x17, q39, e2⟩ := Pu.bind_some e2
        refine o_idx (v := w15) rfl rfl h54 rfl q39 fun p15 q40 => ?_
        refine o_gy rfl q34 ?_
        refine o_ldb rfl h54 (PH.le.refl _) q40 q39 ?_
        refine o_gy rfl q34 ?_
        refine o_not rfl ?_
        refine o_pickf (b := (.bool (!x17))) rfl q34 rfl ?_
        obtain rfl := Option.some.inj e2
        exact k2 _ _ ⟨_, _, Gw.refl _ _, s5, h34, h35, h36, h37, h38, h39, rfl, h40, hti0, rfl⟩
       intro _ H4 i7
       obtain ⟨Z3, V3, g3, s6, h42, h43, h44, h45, h46, h47, h48, h49, h50, h51⟩ := i7
       refine c_nil ?_
       refine c_if h51 (fun q41 => ?_) (fun q41 => ?_)
       ·replace e1 := if_t q41 e1
        refine c_ex ?_
        refine e_c ?_
        refine e_h ?_
        refine c_r ?_
        refine o_add h50 rfl ?_
        refine o_mv (v := (vi (Pu.W (x11 + 1)))) rfl ?_
        refine c_nil ?_
        obtain rfl := Option.some.inj e1
        exact k1 _ _ ⟨(iv rfl (w_sucR q25 q29)), _, _, _, _, _, _, _, _, (g1.trans (g2.trans g3)), s6, h42, h43, h44, h45, h46, h47, h49, (h33.mono (g2.trans g3).z)⟩
       replace e1 := ib_f q41 e1
       refine c_sk ?_
       refine c_sr ?_
       refine o_mv (v := (vi 1)) rfl ?_
       refine c_nil ?_
       refine c_sq ?_
       refine c_sr ?_
       refine o_mv (v := w1) h46 ?_
       refine o_mv (v := (vi a2)) h44 ?_
       obtain ⟨x18, q42, e1⟩ := Pu.bind_some e1
       refine o_idx (v := w1) rfl rfl (h2.mono (g1.trans (g2.trans g3)).z) rfl q42 fun p16 q43 => ?_
       refine o_fadE rfl q43 fun p17 q44 => ?_
       refine o_ldF rfl (h2.mono (g1.trans (g2.trans g3)).z) s6.z rfl q43 q44 q42 rfl fun c7 h56 => ?_
       obtain rfl := h56
       refine ⟨_, rfl, ?_⟩
       refine o_not rfl ?_
       refine c_nil ?_
       obtain ⟨y3, e3, e1⟩ := Pu.bind_some e1
       refine c_jn (I := fun tm H => ∃ (Z4 V4 : PH) (w16 : Value) (w17 : Value) (w18 : Value) (w19 : Value) (w20 : Value) (w21 : Value), Gw Z3 V3 Z4 V4 ∧ Sat Z4 V4 H [pts o1 (.rw 0 [(vi y3.1), (vi y3.2.1), (vi y3.2.2.1), w21, (vi y3.2.2.2.2.1), w16, w17, w18, w19, w20]), It.sl (Sh.sl Sh.bool) w16 y3.2.2.2.2.2.1, It.sl (Sh.sl Sh.bool) w17 y3.2.2.2.2.2.2.1, It.sl (Sh.sl Sh.int) w18 y3.2.2.2.2.2.2.2.1, It.sl (Sh.sl (Sh.sl Sh.bool)) w19 y3.2.2.2.2.2.2.2.2.1, It.sl (Sh.sl (Sh.sl Sh.int)) w20 y3.2.2.2.2.2.2.2.2.2.1] ∧ tm 0 = (.pointer (some ⟨o1, 0, none⟩)) ∧ tm 1 = (vi a1) ∧ tm 2 = (vi a2) ∧ tm 3 = (vi a3) ∧ tm 9 = w1 ∧ tm 10 = (vi s1.2.2.2.2.2.2.2.2.2.2) ∧ tm 11 = (vi x11) ∧ tm 12 = (vi y3.2.2.2.2.2.2.2.2.2.2) ∧ tm 71 = (vi (Pu.W (a3 + 1))) ∧ tm 72 = (vi x11) ∧ RdS Sh.api_Rule Z4 w21 y3.2.2.2.1) (fun k3 => ?_) ?_
       ·refine c_if rfl (fun q45 => ?_) (fun q45 => ?_)
        ·replace e3 := if_t q45 e3
         refine c_r ?_
         refine o_mv (v := (.pointer (some ⟨o1, 0, none⟩))) h42 ?_
         refine o_mv (v := w1) h46 ?_
         refine o_mv (v := (vi a2)) h44 ?_
         obtain ⟨x19, q46, e3⟩ := Pu.bind_some e3
         refine o_idx (v := w1) rfl rfl (h2.mono (g1.trans (g2.trans g3)).z) rfl q46 fun p18 q47 => ?_
         refine o_fadE rfl q47 fun p19 q48 => ?_
         refine o_ldF rfl (h2.mono (g1.trans (g2.trans g3)).z) s6.z rfl q47 q48 q46 rfl fun c8 h68 => ?_
         obtain rfl := h68
         refine ⟨_, rfl, ?_⟩
         refine o_mv (v := (vi x11)) h48 ?_
         obtain ⟨x20, q49, e3⟩ := Pu.bind_some e3
         obtain ⟨Z5, V5, W2, g5, u2, c9, c10, -, c12, c11⟩ := Sat.call (l1 := [pts o1 (.rw 0 [(vi s1.1), (vi s1.2.1), (vi s1.2.2.1), (.slice d7 s1.2.2.2.1.length s1.2.2.2.1.length), (vi s1.2.2.2.2.1), (.slice d8 s1.2.2.2.2.2.1.length s1.2.2.2.2.2.1.length), (.slice d9 s1.2.2.2.2.2.2.1.length s1.2.2.2.2.2.2.1.length), (.slice d10 s1.2.2.2.2.2.2.2.1.length s1.2.2.2.2.2.2.2.1.length), (.slice d11 s1.2.2.2.2.2.2.2.2.1.length s1.2.2.2.2.2.2.2.2.1.length), (.slice d12 s1.2.2.2.2.2.2.2.2.2.1.length s1.2.2.2.2.2.2.2.2.2.1.length)]), It.sl (Sh.sl Sh.bool) (.slice d8 s1.2.2.2.2.2.1.length s1.2.2.2.2.2.1.length) s1.2.2.2.2.2.1, It.sl (Sh.sl Sh.bool) (.slice d9 s1.2.2.2.2.2.2.1.length s1.2.2.2.2.2.2.1.length) s1.2.2.2.2.2.2.1, It.sl (Sh.sl Sh.int) (.slice d10 s1.2.2.2.2.2.2.2.1.length s1.2.2.2.2.2.2.2.1.length) s1.2.2.2.2.2.2.2.1, It.sl (Sh.sl (Sh.sl Sh.bool)) (.slice d11 s1.2.2.2.2.2.2.2.2.1.length s1.2.2.2.2.2.2.2.2.1.length) s1.2.2.2.2.2.2.2.2.1, It.sl (Sh.sl (Sh.sl Sh.int)) (.slice d12 s1.2.2.2.2.2.2.2.2.2.1.length s1.2.2.2.2.2.2.2.2.2.1.length) s1.2.2.2.2.2.2.2.2.2.1]) (l2 := []) s6
         refine o_call (mc rfl (mc rfl (mc rfl m0))) (ih.1 (a0 := (Ty.census_table.mk (Ty.api_Grammar.mk s1.1 s1.2.1 s1.2.2.1 s1.2.2.2.1) s1.2.2.2.2.1 s1.2.2.2.2.2.1 s1.2.2.2.2.2.2.1 s1.2.2.2.2.2.2.2.1 s1.2.2.2.2.2.2.2.2.1 s1.2.2.2.2.2.2.2.2.2.1)) c9 (h33.mono ((g2.trans g3).trans g5).z) q49) fun _ H6 i8 => ?_
         obtain ⟨w22, w23, w24, w25, w26, w27, rfl, s8⟩ := i8
         have s9 := c11 _ _ s8
         obtain ⟨Z6, V6, g6, s10, h69⟩ := (s9.pull 1 rfl).frzR
         refine o_mv (v := (vi x20.2)) rfl ?_
         refine c_nil ?_
         obtain rfl := Option.some.inj e3
         exact k3 _ _ ⟨_, _, _, _, _, _, _, _, (g5.trans g6), s10, h42, h43, h44, h45, h46, h47, h48, rfl, h49, h50, h69⟩
        replace e3 := ib_f q45 e3
        refine c_sk ?_
        obtain rfl := Option.some.inj e3
        exact k3 _ _ ⟨_, _, _, _, _, _, _, _, Gw.refl _ _, s6, h42, h43, h44, h45, h46, h47, h48, rfl, h49, h50, (h33.mono (g2.trans g3).z)⟩
       intro _ H5 i9
       obtain ⟨Z4, V4, w16, w17, w18, w19, w20, w21, g4, s7, h58, h59, h60, h61, h62, h63, h64, h65, h66, h67, h57⟩ := i9
       refine c_r ?_
       refine o_mv (v := (vi s1.2.2.2.2.2.2.2.2.2.2)) h63 ?_
       refine o_mv (v := (vi y3.2.2.2.2.2.2.2.2.2.2)) h65 ?_
       refine o_mv (v := (.pointer (some ⟨o1, 0, none⟩))) h58 ?_
       refine o_mv (v := (vi a1)) h59 ?_
       refine o_mv (v := (vi a2)) h60 ?_
       refine o_add rfl rfl ?_
       refine o_mv (v := (vi a3)) h61 ?_
       refine o_mv (v := (vi x11)) h64 ?_
       refine o_sub rfl rfl ?_
       obtain ⟨x21, q50, e1⟩ := Pu.bind_some e1
       obtain ⟨d13, rfl⟩ := (h57).val
       obtain ⟨d14, rfl⟩ := ((s7.curS (s := (Sh.sl Sh.bool)) 1 rfl)).val
       obtain ⟨d15, rfl⟩ := ((s7.curS (s := (Sh.sl Sh.bool)) 2 rfl)).val
       obtain ⟨d16, rfl⟩ := ((s7.curS (s := (Sh.sl Sh.int)) 3 rfl)).val
       obtain ⟨d17, rfl⟩ := ((s7.curS (s := (Sh.sl (Sh.sl Sh.bool))) 4 rfl)).val
       obtain ⟨d18, rfl⟩ := ((s7.curS (s := (Sh.sl (Sh.sl Sh.int))) 5 rfl)).val
       obtain ⟨Z7, V7, W3, g7, u3, c13, c14, -, c16, c15⟩ := Sat.call (l1 := [pts o1 (.rw 0 [(vi y3.1), (vi y3.2.1), (vi y3.2.2.1), (.slice d13 y3.2.2.2.1.length y3.2.2.2.1.length), (vi y3.2.2.2.2.1), (.slice d14 y3.2.2.2.2.2.1.length y3.2.2.2.2.2.1.length), (.slice d15 y3.2.2.2.2.2.2.1.length y3.2.2.2.2.2.2.1.length), (.slice d16 y3.2.2.2.2.2.2.2.1.length y3.2.2.2.2.2.2.2.1.length), (.slice d17 y3.2.2.2.2.2.2.2.2.1.length y3.2.2.2.2.2.2.2.2.1.length), (.slice d18 y3.2.2.2.2.2.2.2.2.2.1.length y3.2.2.2.2.2.2.2.2.2.1.length)]), It.sl (Sh.sl Sh.bool) (.slice d14 y3.2.2.2.2.2.1.length y3.2.2.2.2.2.1.length) y3.2.2.2.2.2.1, It.sl (Sh.sl Sh.bool) (.slice d15 y3.2.2.2.2.2.2.1.length y3.2.2.2.2.2.2.1.length) y3.2.2.2.2.2.2.1, It.sl (Sh.sl Sh.int) (.slice d16 y3.2.2.2.2.2.2.2.1.length y3.2.2.2.2.2.2.2.1.length) y3.2.2.2.2.2.2.2.1, It.sl (Sh.sl (Sh.sl Sh.bool)) (.slice d17 y3.2.2.2.2.2.2.2.2.1.length y3.2.2.2.2.2.2.2.2.1.length) y3.2.2.2.2.2.2.2.2.1, It.sl (Sh.sl (Sh.sl Sh.int)) (.slice d18 y3.2.2.2.2.2.2.2.2.2.1.length y3.2.2.2.2.2.2.2.2.2.1.length) y3.2.2.2.2.2.2.2.2.2.1]) (l2 := []) s7
       refine o_call (mc rfl (mc rfl (mc rfl (mc rfl m0)))) (ih.2 (a0 := (Ty.census_table.mk (Ty.api_Grammar.mk y3.1 y3.2.1 y3.2.2.1 y3.2.2.2.1) y3.2.2.2.2.1 y3.2.2.2.2.2.1 y3.2.2.2.2.2.2.1 y3.2.2.2.2.2.2.2.1 y3.2.2.2.2.2.2.2.2.1 y3.2.2.2.2.2.2.2.2.2.1)) c13 (h57.mono g7.z) q50) fun _ H7 i10 => ?_
       obtain ⟨w28, w29, w30, w31, w32, w33, rfl, s11⟩ := i10
       have s12 := c15 _ _ s11
       obtain ⟨Z8, V8, g8, s13, h70⟩ := (s12.pull 1 rfl).frzR
       refine o_mul rfl rfl ?_
       refine o_min rfl rfl ?_
       refine o_add rfl rfl ?_
       refine o_min rfl rfl ?_
       refine o_mv (v := (vi (Pu.imin 1000000000 (Pu.W (s1.2.2.2.2.2.2.2.2.2.2 + (Pu.imin 1000000000 (Pu.W (y3.2.2.2.2.2.2.2.2.2.2 * x21.2)))))))) rfl ?_
       refine c_nil ?_
       refine c_end ?_
       refine c_r ?_
       refine o_add h67 rfl ?_
       refine o_mv (v := (vi (Pu.W (x11 + 1)))) rfl ?_
       refine c_nil ?_
       obtain rfl := Option.some.inj e1
       exact k1 _ _ ⟨(iv rfl (w_sucR q25 q29)), _, _, _, _, _, _, _, _, (g1.trans (g2.trans (g3.trans (g4.trans (g7.trans g8))))), s13, h58, h59, h60, h61, h62, rfl, h66, h70⟩
      obtain ⟨hte0, Z9, V9, w34, w35, w36, w37, w38, w39, g9, s14, h72, h73, h74, h75, h76, h77, h78, h71⟩ := jd
      refine c_sr ?_
      refine o_lss hte0 h78 ?_
      refine c_nil ?_
      refine c_sq ?_
      refine c_iff rfl (ran_done _) ?_
      refine c_ex ?_
      refine e_c ?_
      refine e_c ?_
      refine e_h ?_
      refine c_sr ?_
      refine o_mv (v := (.pointer (some ⟨o1, 0, none⟩))) h72 ?_
      refine o_nck rfl ?_
      refine o_fad rfl ?_
      obtain ⟨d19, rfl⟩ := (h71).val
      obtain ⟨d20, rfl⟩ := ((s14.curS (s := (Sh.sl Sh.bool)) 1 rfl)).val
      obtain ⟨d21, rfl⟩ := ((s14.curS (s := (Sh.sl Sh.bool)) 2 rfl)).val
      obtain ⟨d22, rfl⟩ := ((s14.curS (s := (Sh.sl Sh.int)) 3 rfl)).val
      obtain ⟨d23, rfl⟩ := ((s14.curS (s := (Sh.sl (Sh.sl Sh.bool))) 4 rfl)).val
      obtain ⟨d24, rfl⟩ := ((s14.curS (s := (Sh.sl (Sh.sl Sh.int))) 5 rfl)).val
      refine o_ldB 0 s14 rfl rfl rfl rfl ?_
      refine o_mv (v := (vi a1)) h73 ?_
      obtain ⟨x22, q51, e⟩ := Pu.bind_some e
      refine o_idx (v := (.slice d24 y1.2.2.2.2.2.2.2.2.2.1.length y1.2.2.2.2.2.2.2.2.2.1.length)) rfl rfl (s14.curS (s := (Sh.sl (Sh.sl Sh.int))) 5 rfl) rfl q51 fun p20 q52 => ?_
      refine o_ldsv rfl (s14.curS (s := (Sh.sl (Sh.sl Sh.int))) 5 rfl) (PH.le.refl _) q52 q51 fun w40 h79 h80 => ?_
      refine o_mv (v := (vi a2)) h74 ?_
      obtain ⟨x23, q53, e⟩ := Pu.bind_some e
      refine o_idx (v := w40) rfl rfl h79 rfl q53 fun p21 q54 => ?_
      refine o_ldsv rfl h79 (PH.le.refl _) q54 q53 fun w41 h81 h82 => ?_
      refine o_mv (v := (vi a3)) h75 ?_
      refine o_mv (v := (vi y1.2.2.2.2.2.2.2.2.2.2)) h77 ?_
      obtain ⟨x24, q55, e⟩ := Pu.bind_some e
      refine o_idx (v := w41) rfl rfl h81 rfl q55 fun p22 q56 => ?_
      refine o_st3 5 s14 rfl Sh.flat_lt rfl rfl rfl q52 q51 h80 q54 q53 h82 q56 q55 rfl rfl fun H9 s15 => ?_
      refine c_nil ?_
      refine c_gen (P := fun tm => tm 10 = (vi y1.2.2.2.2.2.2.2.2.2.2) ∧ True) ⟨h77, trivial⟩ ?_
      intro _ i11
      obtain ⟨h83, -⟩ := i11
      refine c_sr ?_
      refine o_mv (v := (vi y1.2.2.2.2.2.2.2.2.2.2)) h83 ?_
      refine o_mv (v := (vi y1.2.2.2.2.2.2.2.2.2.2)) rfl ?_
      refine c_nil ?_
      refine c_rt ?_
      obtain rfl := Option.some.inj e
      exact ⟨.inr rfl, _, (ar1 rfl), _, _, _, _, _, _, rfl, (((s15.push (ro_it (sl_ro h71))).pick [1, 0, 2, 3, 4, 5, 6] rfl).weak g9 hs.zv)⟩
theorem X.census_table_count {T : FuncId → Option AFunc} (nd : Nd.census_table_count T) {φ : Nat} {Z V : PH} {H : Hp} {v1 : Value} {v2 : Value} {v3 : Value} {v4 : Value} {v5 : Value} {v6 : Value} {o1 : Nat} {a0 : Ty.census_table} {a1 : Int} {a2 : Int} (hs : Sat Z V H [pts o1 (.rw 0 [(vi a0.g.Terms), (vi a0.g.Nons), (vi a0.g.Start), v1, (vi a0.n), v2, v3, v4, v5, v6]), It.sl (Sh.sl Sh.bool) v2 a0.has_, It.sl (Sh.sl Sh.bool) v3 a0.loop_, It.sl (Sh.sl Sh.int) v4 a0.known_, It.sl (Sh.sl (Sh.sl Sh.bool)) v5 a0.ends, It.sl (Sh.sl (Sh.sl Sh.int)) v6 a0.ways]) (hp1 : RdS Sh.api_Rule Z v1 a0.g.Rules) {r : (Ty.census_table × Int)} (e : P.census_table_count φ a0 a1 a2 = some r) :
    G T I.census_table_count [(.pointer (some ⟨o1, 0, none⟩)), (vi a1), (vi a2)] H (fun rv H' => ∃ (u1 : Value) (u2 : Value) (u3 : Value) (u4 : Value) (u5 : Value) (u6 : Value), rv = (vi r.2) ∧ Sat Z V H' [pts o1 (.rw 0 [(vi r.1.g.Terms), (vi r.1.g.Nons), (vi r.1.g.Start), u1, (vi r.1.n), u2, u3, u4, u5, u6]), Sh.it (Sh.ro (Sh.sl Sh.api_Rule)) [u1] r.1.g.Rules, It.sl (Sh.sl Sh.bool) u2 r.1.has_, It.sl (Sh.sl Sh.bool) u3 r.1.loop_, It.sl (Sh.sl Sh.int) u4 r.1.known_, It.sl (Sh.sl (Sh.sl Sh.bool)) u5 r.1.ends, It.sl (Sh.sl (Sh.sl Sh.int)) u6 r.1.ways]) := (X.census_table_count_rec nd φ).1 hs hp1 e
theorem X.census_table_way {T : FuncId → Option AFunc} (nd : Nd.census_table_way T) {φ : Nat} {Z V : PH} {H : Hp} {v1 : Value} {v2 : Value} {v3 : Value} {v4 : Value} {v5 : Value} {v6 : Value} {o1 : Nat} {a0 : Ty.census_table} {a1 : Int} {a2 : Int} {a3 : Int} (hs : Sat Z V H [pts o1 (.rw 0 [(vi a0.g.Terms), (vi a0.g.Nons), (vi a0.g.Start), v1, (vi a0.n), v2, v3, v4, v5, v6]), It.sl (Sh.sl Sh.bool) v2 a0.has_, It.sl (Sh.sl Sh.bool) v3 a0.loop_, It.sl (Sh.sl Sh.int) v4 a0.known_, It.sl (Sh.sl (Sh.sl Sh.bool)) v5 a0.ends, It.sl (Sh.sl (Sh.sl Sh.int)) v6 a0.ways]) (hp1 : RdS Sh.api_Rule Z v1 a0.g.Rules) {r : (Ty.census_table × Int)} (e : P.census_table_way φ a0 a1 a2 a3 = some r) :
    G T I.census_table_way [(.pointer (some ⟨o1, 0, none⟩)), (vi a1), (vi a2), (vi a3)] H (fun rv H' => ∃ (u1 : Value) (u2 : Value) (u3 : Value) (u4 : Value) (u5 : Value) (u6 : Value), rv = (vi r.2) ∧ Sat Z V H' [pts o1 (.rw 0 [(vi r.1.g.Terms), (vi r.1.g.Nons), (vi r.1.g.Start), u1, (vi r.1.n), u2, u3, u4, u5, u6]), Sh.it (Sh.ro (Sh.sl Sh.api_Rule)) [u1] r.1.g.Rules, It.sl (Sh.sl Sh.bool) u2 r.1.has_, It.sl (Sh.sl Sh.bool) u3 r.1.loop_, It.sl (Sh.sl Sh.int) u4 r.1.known_, It.sl (Sh.sl (Sh.sl Sh.bool)) u5 r.1.ends, It.sl (Sh.sl (Sh.sl Sh.int)) u6 r.1.ways]) := (X.census_table_count_rec nd φ).2 hs hp1 e
/-! census_Trees -/
structure Nd.census_Trees (T : FuncId → Option AFunc) : Prop where
  own : Has T I.census_Trees F.census_Trees
  gram_Check : Nd.gram_Check T
  census_newTable : Nd.census_newTable T
  census_table_find : Nd.census_table_find T
  census_table_loops : Nd.census_table_loops T
  census_table_count : Nd.census_table_count T
set_option maxHeartbeats 1000000 in
theorem X.census_Trees {T : FuncId → Option AFunc} (nd : Nd.census_Trees T) {φ : Nat} {Z V : PH} {H : Hp} {v1 : Value} {a0 : Ty.api_Grammar} {a1 : Int} (hs : Sat Z V H []) (hp1 : RdS Sh.api_Rule Z v1 a0.Rules) {r : ((List (List Int)) × Int)} (e : P.census_Trees φ a0 a1 = some r) :
    G T I.census_Trees [(.agg #[(vi a0.Terms), (vi a0.Nons), (vi a0.Start), v1]), (vi a1)] H (fun rv H' => ∃ (u1 : Value), rv = (.tuple #[u1, (vi r.2)]) ∧ Sat Z V H' [It.sl (Sh.sl Sh.int) u1 r.1]) := by
 unfold P.census_Trees at e
 refine f_mk nd.own ?_
 refine c_sr ?_
 obtain ⟨d1, rfl⟩ := (hp1).val
 refine o_box hs rfl rfl fun b1 H1 s1 => ?_
 refine o_mv (v := (.slice none 0 0)) rfl ?_
 refine o_mv (v := (vi 0)) rfl ?_
 refine c_nil ?_
 refine c_sq ?_
 refine c_sr ?_
 refine o_ldB 0 s1 rfl rfl rfl rfl ?_
 obtain ⟨x1, q1, e⟩ := Pu.bind_some e
 obtain ⟨Z1, V1, W1, g1, u1, c1, c2, -, c4, c3⟩ := Sat.call (l1 := []) s1
 refine o_call (mc rfl m0) (X.gram_Check nd.gram_Check c1 (hp1.mono (g1.z.trans c1.zv)) q1) fun _ H2 i1 => ?_
 obtain ⟨rfl, s2⟩ := i1
 have s3 := c3 _ _ s2
 refine o_mv (v := (vi x1)) rfl ?_
 refine c_nil ?_
 refine c_sr ?_
 refine o_mv (v := (vi x1)) rfl ?_
 refine o_neq rfl rfl ?_
 refine c_nil ?_
 refine c_ifd rfl (fun q2 => ?_) (fun q2 => ?_)
 ·replace e := if_t q2 e
  refine c_sr ?_
  refine o_mv (v := (vi x1)) rfl ?_
  refine o_mv (v := (.slice none 0 0)) rfl ?_
  refine o_mv (v := (vi x1)) rfl ?_
  refine c_nil ?_
  refine c_gen (P := fun tm => tm 4 = (.slice none 0 0) ∧ tm 5 = (vi x1) ∧ True) ⟨rfl, rfl, trivial⟩ ?_
  intro _ i2
  obtain ⟨h1, h2, -⟩ := i2
  refine c_rt ?_
  obtain rfl := Option.some.inj e
  exact ⟨.inr rfl, _, (ar2 h1 h2), _, rfl, (((s3.push (sl_nil (s := (Sh.sl Sh.int)))).pick [0] rfl).weak g1 hs.zv)⟩
 replace e := if_f q2 e
 refine c_sk ?_
 refine c_sq ?_
 refine c_sr ?_
 refine o_mv (v := (vi a1)) rfl ?_
 refine o_lss rfl rfl ?_
 refine o_mv (v := (.bool (decide (a1 < 0)))) rfl ?_
 refine o_jn 3 (I := fun tm H => tm 21 = .bool ((decide (a1 < 0)) || (decide (24 < a1))) ∧ (∃ (Z2 V2 : PH), Gw Z1 V1 Z2 V2 ∧ Sat Z2 V2 H [pts b1 (.rw 0 [(vi a0.Terms), (vi a0.Nons), (vi a0.Start), (.slice d1 a0.Rules.length a0.Rules.length)])] ∧ tm 1 = (vi a1) ∧ tm 2 = (.pointer (some ⟨b1, 0, none⟩)))) (fun k1 => ?_) ?_
 ·rcases Bool.eq_false_or_eq_true (decide (a1 < 0)) with q3 | q3
  ·refine o_gn rfl q3 ?_
   refine o_gn rfl q3 ?_
   refine o_pickt (a := (.bool true)) rfl q3 rfl ?_
   exact k1 _ _ ⟨gf rfl (by first | (rw [q3]; first | done | rfl) | simp [q3]), _, _, Gw.refl _ _, s3, rfl, rfl⟩
  refine o_gy rfl q3 ?_
  refine o_mv (v := (vi a1)) rfl ?_
  refine o_gy rfl q3 ?_
  refine o_gtr rfl rfl ?_
  refine o_pickf (b := (.bool (decide (24 < a1)))) rfl q3 rfl ?_
  exact k1 _ _ ⟨gf rfl (by first | (rw [q3]; first | done | rfl) | simp [q3]), _, _, Gw.refl _ _, s3, rfl, rfl⟩
 intro _ H3 i3
 obtain ⟨h5, Z2, V2, g2, s4, h3, h4⟩ := i3
 refine c_nil ?_
 refine c_if h5 (fun q4 => ?_) (fun q4 => ?_)
 ·replace e := if_t q4 e
  refine c_sr ?_
  refine o_mv (v := (.slice none 0 0)) rfl ?_
  refine o_mv (v := (vi 1)) rfl ?_
  refine c_nil ?_
  refine c_rt ?_
  obtain rfl := Option.some.inj e
  exact ⟨.inr rfl, _, (ar2 rfl rfl), _, rfl, (((s4.push (sl_nil (s := (Sh.sl Sh.int)))).pick [0] rfl).weak (g1.trans g2) hs.zv)⟩
 replace e := ib_f q4 e
 refine c_sk ?_
 refine c_sr ?_
 refine o_ldB 0 s4 rfl h4 rfl rfl ?_
 refine o_mv (v := (vi a1)) h3 ?_
 obtain ⟨x2, q5, e⟩ := Pu.bind_some e
 obtain ⟨Z3, V3, W2, g3, u2, c5, c6, -, c8, c7⟩ := Sat.call (l1 := []) s4
 refine o_call (mc rfl (mc rfl m0)) (X.census_newTable nd.census_newTable c5 (hp1.mono ((g1.trans g2).trans g3).z) q5) fun _ H4 i4 => ?_
 obtain ⟨b2, w1, w2, w3, w4, w5, w6, rfl, s5⟩ := i4
 have s6 := c7 _ _ s5
 obtain ⟨Z4, V4, g4, s7, h6⟩ := (s6.pull 1 rfl).frzR
 refine o_mv (v := (.pointer (some ⟨b2, 0, none⟩))) rfl ?_
 refine c_nil ?_
 refine c_sr ?_
 refine o_mv (v := (.pointer (some ⟨b2, 0, none⟩))) rfl ?_
 obtain ⟨x3, q6, e⟩ := Pu.bind_some e
 obtain ⟨d2, rfl⟩ := (h6).val
 obtain ⟨d3, rfl⟩ := ((s7.curS (s := (Sh.sl Sh.bool)) 1 rfl)).val
 obtain ⟨d4, rfl⟩ := ((s7.curS (s := (Sh.sl Sh.bool)) 2 rfl)).val
 obtain ⟨d5, rfl⟩ := ((s7.curS (s := (Sh.sl Sh.int)) 3 rfl)).val
 obtain ⟨d6, rfl⟩ := ((s7.curS (s := (Sh.sl (Sh.sl Sh.bool))) 4 rfl)).val
 obtain ⟨d7, rfl⟩ := ((s7.curS (s := (Sh.sl (Sh.sl Sh.int))) 5 rfl)).val
 obtain ⟨Z5, V5, W3, g5, u3, c9, c10, -, c12, c11⟩ := Sat.call (l1 := [pts b2 (.rw 0 [(vi x2.g.Terms), (vi x2.g.Nons), (vi x2.g.Start), (.slice d2 x2.g.Rules.length x2.g.Rules.length), (vi x2.n), (.slice d3 x2.has_.length x2.has_.length), (.slice d4 x2.loop_.length x2.loop_.length), (.slice d5 x2.known_.length x2.known_.length), (.slice d6 x2.ends.length x2.ends.length), (.slice d7 x2.ways.length x2.ways.length)]), It.sl (Sh.sl Sh.bool) (.slice d3 x2.has_.length x2.has_.length) x2.has_, It.sl (Sh.sl Sh.bool) (.slice d4 x2.loop_.length x2.loop_.length) x2.loop_, It.sl (Sh.sl Sh.int) (.slice d5 x2.known_.length x2.known_.length) x2.known_, It.sl (Sh.sl (Sh.sl Sh.bool)) (.slice d6 x2.ends.length x2.ends.length) x2.ends, It.sl (Sh.sl (Sh.sl Sh.int)) (.slice d7 x2.ways.length x2.ways.length) x2.ways]) (l2 := [pts b1 (.rw 0 [(vi a0.Terms), (vi a0.Nons), (vi a0.Start), (.slice d1 a0.Rules.length a0.Rules.length)])]) s7
 refine o_call (mc rfl m0) (X.census_table_find nd.census_table_find (a0 := x2) c9 (h6.mono g5.z) q6) fun _ H5 i5 => ?_
 obtain ⟨w7, w8, w9, w10, w11, w12, rfl, s8⟩ := i5
 have s9 := c11 _ _ s8
 obtain ⟨Z6, V6, g6, s10, h7⟩ := (s9.pull 1 rfl).frzR
 refine c_nil ?_
 refine c_sr ?_
 refine o_mv (v := (.pointer (some ⟨b2, 0, none⟩))) rfl ?_
 obtain ⟨x4, q7, e⟩ := Pu.bind_some e
 obtain ⟨d8, rfl⟩ := (h7).val
 obtain ⟨d9, rfl⟩ := ((s10.curS (s := (Sh.sl Sh.bool)) 1 rfl)).val
 obtain ⟨d10, rfl⟩ := ((s10.curS (s := (Sh.sl Sh.bool)) 2 rfl)).val
 obtain ⟨d11, rfl⟩ := ((s10.curS (s := (Sh.sl Sh.int)) 3 rfl)).val
 obtain ⟨d12, rfl⟩ := ((s10.curS (s := (Sh.sl (Sh.sl Sh.bool))) 4 rfl)).val
 obtain ⟨d13, rfl⟩ := ((s10.curS (s := (Sh.sl (Sh.sl Sh.int))) 5 rfl)).val
 obtain ⟨Z7, V7, W4, g7, u4, c13, c14, -, c16, c15⟩ := Sat.call (l1 := [pts b2 (.rw 0 [(vi x3.g.Terms), (vi x3.g.Nons), (vi x3.g.Start), (.slice d8 x3.g.Rules.length x3.g.Rules.length), (vi x3.n), (.slice d9 x3.has_.length x3.has_.length), (.slice d10 x3.loop_.length x3.loop_.length), (.slice d11 x3.known_.length x3.known_.length), (.slice d12 x3.ends.length x3.ends.length), (.slice d13 x3.ways.length x3.ways.length)]), It.sl (Sh.sl Sh.bool) (.slice d9 x3.has_.length x3.has_.length) x3.has_, It.sl (Sh.sl Sh.bool) (.slice d10 x3.loop_.length x3.loop_.length) x3.loop_, It.sl (Sh.sl Sh.int) (.slice d11 x3.known_.length x3.known_.length) x3.known_, It.sl (Sh.sl (Sh.sl Sh.bool)) (.slice d12 x3.ends.length x3.ends.length) x3.ends, It.sl (Sh.sl (Sh.sl Sh.int)) (.slice d13 x3.ways.length x3.ways.length) x3.ways]) (l2 := [pts b1 (.rw 0 [(vi a0.Terms), (vi a0.Nons), (vi a0.Start), (.slice d1 a0.Rules.length a0.Rules.length)])]) s10
 refine o_call (mc rfl m0) (X.census_table_loops nd.census_table_loops (a0 := x3) c13 (h7.mono g7.z) q7) fun _ H6 i6 => ?_
 obtain ⟨w13, w14, w15, w16, w17, w18, rfl, s11⟩ := i6
 have s12 := c15 _ _ s11
 obtain ⟨Z8, V8, g8, s13, h8⟩ := (s12.pull 1 rfl).frzR
 refine c_nil ?_
 refine c_sr ?_
 refine o_fad h4 ?_
 refine o_ldB 6 s13 rfl rfl rfl rfl ?_
 obtain ⟨x5, q8, e⟩ := Pu.bind_some e
 refine o_mksH (s := Sh.int) s13 rfl rfl q8 fun w19 H7 s14 => ?_
 refine o_mv (v := w19) rfl ?_
 refine c_nil ?_
 refine c_gen (P := fun tm => tm 1 = (vi a1) ∧ tm 7 = (.pointer (some ⟨b2, 0, none⟩)) ∧ tm 8 = w19 ∧ True) ⟨h3, rfl, rfl, trivial⟩ ?_
 intro _ i7
 obtain ⟨h9, h10, h11, -⟩ := i7
 refine c_sq ?_
 refine c_sr ?_
 refine o_mv (v := w19) h11 ?_
 refine o_len rfl ((s14.curS (s := (Sh.sl Sh.int)) 0 rfl)).len ?_
 refine o_mv (v := (vi 0)) rfl ?_
 refine c_nil ?_
 obtain ⟨x7, q11, e⟩ := Pu.bind_some e
 obtain ⟨rfl, q13⟩ := ranO_some q11
 obtain ⟨y1, q14, e⟩ := Pu.bind_some e
 refine c_bk ?_
 refine l_forP (xs := (Pu.ran (x5.length : Int))) (fun (i8 : Nat) (s15 : (Int × Int × Int × (List Ty.api_Rule) × Int × (List (List Bool)) × (List (List Bool)) × (List (List Int)) × (List (List (List Bool))) × (List (List (List Int))) × (List (List Int)))) tm H => tm 34 = vi i8 ∧ ∃ (Z9 V9 : PH) (w20 : Value) (w21 : Value) (w22 : Value) (w23 : Value) (w24 : Value) (w25 : Value), Gw Z8 V8 Z9 V9 ∧ Sat Z9 V9 H [pts b2 (.rw 0 [(vi s15.1), (vi s15.2.1), (vi s15.2.2.1), w25, (vi s15.2.2.2.2.1), w20, w21, w22, w23, w24]), It.sl (Sh.sl Sh.bool) w20 s15.2.2.2.2.2.1, It.sl (Sh.sl Sh.bool) w21 s15.2.2.2.2.2.2.1, It.sl (Sh.sl Sh.int) w22 s15.2.2.2.2.2.2.2.1, It.sl (Sh.sl (Sh.sl Sh.bool)) w23 s15.2.2.2.2.2.2.2.2.1, It.sl (Sh.sl (Sh.sl Sh.int)) w24 s15.2.2.2.2.2.2.2.2.2.1, It.sl (Sh.sl Sh.int) w19 s15.2.2.2.2.2.2.2.2.2.2] ∧ tm 1 = (vi a1) ∧ tm 7 = (.pointer (some ⟨b2, 0, none⟩)) ∧ tm 8 = w19 ∧ tm 33 = (vi (x5.length : Int)) ∧ RdS Sh.api_Rule Z9 w25 s15.2.2.2.1) (fun i8 x6 s15 s17 tm H9 q9 q10 j1 e1 k2 => ?_) (fun tm H8 jd => ?_) q14 ⟨rfl, _, _, _, _, _, _, _, _, Gw.refl _ _, (s14.pick [1, 2, 3, 4, 5, 6, 0] rfl), h9, h10, h11, rfl, h8⟩
 ·obtain ⟨hti0, Z9, V9, w20, w21, w22, w23, w24, w25, g9, s16, h13, h14, h15, h16, h12⟩ := j1
  unfold P.census_Trees.b0 at e1
  have hti0 := iv hti0 (ran_x q9).symm
  refine c_sr ?_
  refine o_lss hti0 h16 ?_
  refine c_nil ?_
  refine c_sq ?_
  refine c_ift rfl (ran_lt q9) ?_
  refine c_sk ?_
  refine c_sq ?_
  refine c_bk ?_
  refine c_sr ?_
  refine o_mv (v := (vi x6)) hti0 ?_
  refine o_mv (v := (vi x6)) rfl ?_
  refine c_nil ?_
  refine c_sr ?_
  refine o_mv (v := (vi a1)) h13 ?_
  refine o_add rfl rfl ?_
  refine o_mv (v := (vi 0)) rfl ?_
  refine c_nil ?_
  obtain ⟨x9, q17, e1⟩ := Pu.bind_some e1
  obtain ⟨rfl, q19⟩ := ranO_some q17
  obtain ⟨y2, q20, e1⟩ := Pu.bind_some e1
  refine c_bk ?_
  refine l_forP (xs := (Pu.ran (Pu.W (a1 + 1)))) (fun (i9 : Nat) (s18 : (Int × Int × Int × (List Ty.api_Rule) × Int × (List (List Bool)) × (List (List Bool)) × (List (List Int)) × (List (List (List Bool))) × (List (List (List Int))) × (List (List Int)))) tm H => tm 39 = vi i9 ∧ ∃ (Z10 V10 : PH) (w26 : Value) (w27 : Value) (w28 : Value) (w29 : Value) (w30 : Value) (w31 : Value), Gw Z9 V9 Z10 V10 ∧ Sat Z10 V10 H [pts b2 (.rw 0 [(vi s18.1), (vi s18.2.1), (vi s18.2.2.1), w31, (vi s18.2.2.2.2.1), w26, w27, w28, w29, w30]), It.sl (Sh.sl Sh.bool) w26 s18.2.2.2.2.2.1, It.sl (Sh.sl Sh.bool) w27 s18.2.2.2.2.2.2.1, It.sl (Sh.sl Sh.int) w28 s18.2.2.2.2.2.2.2.1, It.sl (Sh.sl (Sh.sl Sh.bool)) w29 s18.2.2.2.2.2.2.2.2.1, It.sl (Sh.sl (Sh.sl Sh.int)) w30 s18.2.2.2.2.2.2.2.2.2.1, It.sl (Sh.sl Sh.int) w19 s18.2.2.2.2.2.2.2.2.2.2] ∧ tm 1 = (vi a1) ∧ tm 7 = (.pointer (some ⟨b2, 0, none⟩)) ∧ tm 8 = w19 ∧ tm 9 = (vi x6) ∧ tm 33 = (vi (x5.length : Int)) ∧ tm 34 = (vi x6) ∧ tm 38 = (vi (Pu.W (a1 + 1))) ∧ RdS Sh.api_Rule Z10 w31 s18.2.2.2.1) (fun i9 x8 s18 s20 tm H11 q15 q16 j2 e2 k3 => ?_) (fun tm H10 jd => ?_) q20 ⟨rfl, _, _, _, _, _, _, _, _, Gw.refl _ _, s16, h13, h14, h15, rfl, h16, hti0, rfl, h12⟩
  ·obtain ⟨hti1, Z10, V10, w26, w27, w28, w29, w30, w31, g10, s19, h18, h19, h20, h21, h22, h23, h24, h17⟩ := j2
   unfold P.census_Trees.b1 at e2
   have hti1 := iv hti1 (ran_x q15).symm
   refine c_sr ?_
   refine o_lss hti1 h24 ?_
   refine c_nil ?_
   refine c_sq ?_
   refine c_ift rfl (ran_lt q15) ?_
   refine c_sk ?_
   refine c_sq ?_
   refine c_bk ?_
   refine c_sr ?_
   refine o_mv (v := (vi x8)) hti1 ?_
   refine o_mv (v := (vi x8)) rfl ?_
   refine c_nil ?_
   refine d_start s19 fun n1 H12 s21 q21 d14 => ?_
   refine d_mv (v := w19) h20 ?_
   refine d_mv (v := (vi x6)) h21 ?_
   refine d_mv (v := w19) h20 ?_
   refine d_mv (v := (vi x6)) h21 ?_
   obtain ⟨x10, q22, e2⟩ := Pu.bind_some e2
   refine d_idx (v := w19) rfl rfl (s21.curS (s := (Sh.sl Sh.int)) 6 rfl) rfl q22 fun p1 q23 => ?_
   refine d_foc ((s21.curS 6 rfl).low (PH.le.refl _) q21) 6 s21 rfl rfl q23 q22 fun w32 s22 => ?_
   refine d_mv (v := (.pointer (some ⟨b2, 0, none⟩))) h19 ?_
   refine d_mv (v := (vi x6)) h21 ?_
   refine d_mv (v := (vi x8)) rfl ?_
   obtain ⟨x11, q24, e2⟩ := Pu.bind_some e2
   obtain ⟨d15, rfl⟩ := (h17).val
   obtain ⟨d16, rfl⟩ := ((s22.curS (s := (Sh.sl Sh.bool)) 2 rfl)).val
   obtain ⟨d17, rfl⟩ := ((s22.curS (s := (Sh.sl Sh.bool)) 3 rfl)).val
   obtain ⟨d18, rfl⟩ := ((s22.curS (s := (Sh.sl Sh.int)) 4 rfl)).val
   obtain ⟨d19, rfl⟩ := ((s22.curS (s := (Sh.sl (Sh.sl Sh.bool))) 5 rfl)).val
   obtain ⟨d20, rfl⟩ := ((s22.curS (s := (Sh.sl (Sh.sl Sh.int))) 6 rfl)).val
   obtain ⟨Z11, V11, W5, g11, u5, c17, c18, -, c20, c19⟩ := Sat.call (l1 := [pts b2 (.rw 0 [(vi s18.1), (vi s18.2.1), (vi s18.2.2.1), (.slice d15 s18.2.2.2.1.length s18.2.2.2.1.length), (vi s18.2.2.2.2.1), (.slice d16 s18.2.2.2.2.2.1.length s18.2.2.2.2.2.1.length), (.slice d17 s18.2.2.2.2.2.2.1.length s18.2.2.2.2.2.2.1.length), (.slice d18 s18.2.2.2.2.2.2.2.1.length s18.2.2.2.2.2.2.2.1.length), (.slice d19 s18.2.2.2.2.2.2.2.2.1.length s18.2.2.2.2.2.2.2.2.1.length), (.slice d20 s18.2.2.2.2.2.2.2.2.2.1.length s18.2.2.2.2.2.2.2.2.2.1.length)]), It.sl (Sh.sl Sh.bool) (.slice d16 s18.2.2.2.2.2.1.length s18.2.2.2.2.2.1.length) s18.2.2.2.2.2.1, It.sl (Sh.sl Sh.bool) (.slice d17 s18.2.2.2.2.2.2.1.length s18.2.2.2.2.2.2.1.length) s18.2.2.2.2.2.2.1, It.sl (Sh.sl Sh.int) (.slice d18 s18.2.2.2.2.2.2.2.1.length s18.2.2.2.2.2.2.2.1.length) s18.2.2.2.2.2.2.2.1, It.sl (Sh.sl (Sh.sl Sh.bool)) (.slice d19 s18.2.2.2.2.2.2.2.2.1.length s18.2.2.2.2.2.2.2.2.1.length) s18.2.2.2.2.2.2.2.2.1, It.sl (Sh.sl (Sh.sl Sh.int)) (.slice d20 s18.2.2.2.2.2.2.2.2.2.1.length s18.2.2.2.2.2.2.2.2.2.1.length) s18.2.2.2.2.2.2.2.2.2.1]) (l2 := [It.sl Sh.int w32 x10, It.hole (Sh.sl Sh.int) w19 s18.2.2.2.2.2.2.2.2.2.2 (Int.toNat x6) [w32]]) (s22.pick [1, 2, 3, 4, 5, 6, 0, 7] rfl)
   refine d_call (mc rfl (mc rfl (mc rfl m0))) (X.census_table_count nd.census_table_count (a0 := (Ty.census_table.mk (Ty.api_Grammar.mk s18.1 s18.2.1 s18.2.2.1 s18.2.2.2.1) s18.2.2.2.2.1 s18.2.2.2.2.2.1 s18.2.2.2.2.2.2.1 s18.2.2.2.2.2.2.2.1 s18.2.2.2.2.2.2.2.2.1 s18.2.2.2.2.2.2.2.2.2.1)) c17 (h17.mono g11.z) q24) fun _ H13 i10 k4 => ?_
   have d21 := d14.keep k4
   obtain ⟨w33, w34, w35, w36, w37, w38, rfl, s23⟩ := i10
   have s24 := c19 _ _ s23
   obtain ⟨Z12, V12, g12, s25, h25⟩ := (s24.pull 1 rfl).frzR
   refine d_bsl (s := Sh.int) (us := [(vi x11.2)]) (qs := [(0, 1, (vi x11.2))]) (xs := [x11.2]) (d21.get 10 rfl rfl) s25 Sh.flat_lt rfl rfl rfl (Els.cons (c := [(vi x11.2)]) rfl Els.nil) rfl rfl fun w39 H14 s26 k5 => ?_
   have d22 := d21.next 10 rfl k5
   obtain ⟨x12, q25, e2⟩ := Pu.bind_some e2
   refine d_app 7 s26 rfl Sh.flat_lt rfl rfl rfl rfl (s26.curS (s := Sh.int) 0 rfl) (PH.le.refl _) (fun h => h) (by decide) q25 fun w40 H15 s27 k6 => ?_
   have d23 := d22.keep k6
   obtain ⟨x13, q27, e2⟩ := Pu.bind_some e2
   refine d_idxh 8 s27 rfl rfl rfl rfl q27 fun p2 q26 => ?_
   refine d_hst 8 s27 rfl rfl rfl q26 q27 (s27.curS (s := Sh.int) 7 rfl).one fun H16 s28 k7 => ?_
   have d24 := d23.keep k7
   have s29 := Sat.unfoc 7 rfl (s28.pull 7 rfl)
   refine d_nil (dc_mk rfl (tra (tra (tra (tra (tra (tra (tra (tra (tra (tre (trl (trl (trl (trl (trl tr0))))))))))))))) (tra (tra (tra (tra (tra (tre (trl (trl (trl (trl (trl (trl (trl (trl (trl tr0))))))))))))))) (tra (tra (tra (tra (tre (trl (trl (trl (trl (trl (trl (trl (trl (trl (trl tr0))))))))))))))) (ag_ldx (w := w32) w_0 rfl (hole_ld 7 s22 rfl q22 q23) (hole_ld 7 s22 rfl q22 q23) (vs_rd (s22.curS (s := Sh.int) 0 rfl))) (ag_ldx (w := w32) w_0 rfl (hole_ld 7 s22 rfl q22 q23) (hole_ld 7 s25 rfl q22 q23) (vs_rd (s22.curS (s := Sh.int) 0 rfl))) dc_nil) ?_
   refine c_end ?_
   refine c_r ?_
   refine o_add hti1 rfl ?_
   refine o_mv (v := (vi (Pu.W (x8 + 1)))) rfl ?_
   refine c_nil ?_
   obtain rfl := Option.some.inj e2
   exact k3 _ _ ⟨(iv rfl (w_sucR q15 q19)), _, _, _, _, _, _, _, _, (g10.trans (g11.trans g12)), (s29.pick [1, 2, 3, 4, 5, 6, 7] rfl), h18, h19, h20, h21, h22, h23, h24, h25⟩
  obtain ⟨hte1, Z13, V13, w41, w42, w43, w44, w45, w46, g13, s30, h27, h28, h29, h30, h31, h32, h33, h26⟩ := jd
  refine c_sr ?_
  refine o_lss hte1 h33 ?_
  refine c_nil ?_
  refine c_sq ?_
  refine c_iff rfl (ran_done _) ?_
  refine c_ex ?_
  refine e_c ?_
  refine e_c ?_
  refine e_h ?_
  refine c_end ?_
  refine c_r ?_
  refine o_add h32 rfl ?_
  refine o_mv (v := (vi (Pu.W (x6 + 1)))) rfl ?_
  refine c_nil ?_
  obtain rfl := Option.some.inj e1
  exact k2 _ _ ⟨(iv rfl (w_sucR q9 q13)), _, _, _, _, _, _, _, _, (g9.trans g13), s30, h27, h28, h29, h31, h26⟩
 obtain ⟨hte0, Z14, V14, w47, w48, w49, w50, w51, w52, g14, s31, h35, h36, h37, h38, h34⟩ := jd
 refine c_sr ?_
 refine o_lss hte0 h38 ?_
 refine c_nil ?_
 refine c_sq ?_
 refine c_iff rfl (ran_done _) ?_
 refine c_ex ?_
 refine e_c ?_
 refine e_c ?_
 refine e_h ?_
 refine c_sr ?_
 refine o_mv (v := w19) h37 ?_
 refine o_mv (v := w19) rfl ?_
 refine o_mv (v := (vi 0)) rfl ?_
 refine c_nil ?_
 refine c_rt ?_
 obtain rfl := Option.some.inj e
 exact ⟨.inr rfl, _, (ar2 rfl rfl), _, rfl, ((s31.pick [6] rfl).weak (g1.trans (g2.trans (g3.trans (g4.trans (g5.trans (g6.trans (g7.trans (g8.trans g14)))))))) hs.zv)⟩
/-! parlkeep5_LensTrees -/
structure Nd.parlkeep5_LensTrees (T : FuncId → Option AFunc) : Prop where
  own : Has T I.parlkeep5_LensTrees F.parlkeep5_LensTrees
  parlmake_Grammar : Nd.parlmake_Grammar T
  parlkeep5_plain : Nd.parlkeep5_plain T
  lens_Set : Nd.lens_Set T
  census_Trees : Nd.census_Trees T
set_option maxHeartbeats 1000000 in
theorem X.parlkeep5_LensTrees {T : FuncId → Option AFunc} (nd : Nd.parlkeep5_LensTrees T) {φ : Nat} {Z V : PH} {H : Hp} {v1 : Value} {a0 : (List Int)} (hs : Sat Z V H []) (hp1 : RdS Sh.int Z v1 a0) {r : Bool} (e : P.parlkeep5_LensTrees φ a0 = some r) :
    G T I.parlkeep5_LensTrees [v1] H (fun rv H' => rv = (.bool r) ∧ Sat Z V H' []) := by
 unfold P.parlkeep5_LensTrees at e
 refine f_mk nd.own ?_
 refine c_sr ?_
 refine o_mv (v := (.bool false)) rfl ?_
 refine c_nil ?_
 refine c_sr ?_
 refine o_mv (v := v1) rfl ?_
 obtain ⟨x1, q1, e⟩ := Pu.bind_some e
 obtain ⟨Z1, V1, W1, g1, u1, c1, c2, -, c4, c3⟩ := Sat.call (l1 := []) hs
 refine o_call (mc rfl m0) (X.parlmake_Grammar nd.parlmake_Grammar c1 (hp1.mono g1.z) q1) fun _ H1 i1 => ?_
 obtain ⟨w1, rfl, s1⟩ := i1
 have s2 := c3 _ _ s1
 refine o_new s2 fun b1 H2 s3 => ?_
 obtain ⟨d1, rfl⟩ := ((s3.curS (s := (Sh.ro Sh.api_Rule)) 1 rfl)).val
 refine o_stB (us' := [(vi x1.Terms), (vi x1.Nons), (vi x1.Start), (.slice d1 x1.Rules.length x1.Rules.length)]) 0 s3 rfl rfl rfl rfl rfl rfl rfl fun H3 s4 => ?_
 refine c_nil ?_
 refine c_sq ?_
 refine c_sr ?_
 obtain ⟨x2, q2, e⟩ := Pu.bind_some e
 obtain ⟨Z2, V2, W2, g2, u2, c5, c6, -, c8, c7⟩ := Sat.call (l1 := []) s4
 refine o_call m0 (X.parlkeep5_plain nd.parlkeep5_plain c5 q2) fun _ H4 i2 => ?_
 obtain ⟨w2, rfl, s5⟩ := i2
 have s6 := c7 _ _ s5
 obtain ⟨x3, q3, e⟩ := Pu.bind_some e
 obtain ⟨Z3, V3, W3, g3, u3, c9, c10, -, c12, c11⟩ := Sat.call (l1 := []) s6
 refine o_call (mc rfl (mc rfl m0)) (X.lens_Set nd.lens_Set c9 (c10 0 _ (Sh.ro Sh.api_Rule) _ _ rfl) q3) fun _ H5 i3 => ?_
 obtain ⟨w3, rfl, s7⟩ := i3
 have s8 := c11 _ _ s7
 obtain ⟨Z4, V4, g4, s9, h1⟩ := (s8).frzR
 refine o_mv (v := (.tuple #[w3, (vi x3.2)])) rfl ?_
 refine o_ext rfl rfl ?_
 refine o_ext rfl rfl ?_
 refine o_mv (v := w3) rfl ?_
 refine o_mv (v := (vi x3.2)) rfl ?_
 refine c_nil ?_
 refine c_gen (P := fun tm => tm 3 = (.pointer (some ⟨b1, 0, none⟩)) ∧ tm 4 = w3 ∧ tm 5 = (vi x3.2) ∧ True) ⟨rfl, rfl, rfl, trivial⟩ ?_
 intro _ i4
 obtain ⟨h2, h3, h4, -⟩ := i4
 refine c_sr ?_
 refine o_mv (v := (vi x3.2)) h4 ?_
 refine o_neq rfl rfl ?_
 refine o_mv (v := (.bool (decide (x3.2 ≠ 0)))) rfl ?_
 refine o_jn 4 (I := fun tm H => tm 25 = .bool ((decide (x3.2 ≠ 0)) || (decide ((x3.1.length : Int) ≠ 2))) ∧ (∃ (Z5 V5 : PH), Gw Z4 V4 Z5 V5 ∧ Sat Z5 V5 H [pts b1 (.rw 0 [(vi x1.Terms), (vi x1.Nons), (vi x1.Start), (.slice d1 x1.Rules.length x1.Rules.length)]), It.sl (Sh.ro Sh.api_Rule) (.slice d1 x1.Rules.length x1.Rules.length) x1.Rules] ∧ tm 3 = (.pointer (some ⟨b1, 0, none⟩)) ∧ tm 4 = w3)) (fun k1 => ?_) ?_
 ·rcases Bool.eq_false_or_eq_true (decide (x3.2 ≠ 0)) with q4 | q4
  ·refine o_gn rfl q4 ?_
   refine o_gn rfl q4 ?_
   refine o_gn rfl q4 ?_
   refine o_pickt (a := (.bool true)) rfl q4 rfl ?_
   exact k1 _ _ ⟨gf rfl (by first | (rw [q4]; first | done | rfl) | simp [q4]), _, _, Gw.refl _ _, (s9.pick [1, 2] rfl), h2, h3⟩
  refine o_gy rfl q4 ?_
  refine o_mv (v := w3) h3 ?_
  refine o_gy rfl q4 ?_
  refine o_len rfl (h1).len ?_
  refine o_gy rfl q4 ?_
  refine o_neq rfl rfl ?_
  refine o_pickf (b := (.bool (decide ((x3.1.length : Int) ≠ 2)))) rfl q4 rfl ?_
  exact k1 _ _ ⟨gf rfl (by first | (rw [q4]; first | done | rfl) | simp [q4]), _, _, Gw.refl _ _, (s9.pick [1, 2] rfl), h2, h3⟩
 intro _ H6 i5
 obtain ⟨h7, Z5, V5, g5, s10, h5, h6⟩ := i5
 refine o_mv (v := (.bool ((decide (x3.2 ≠ 0)) || (decide ((x3.1.length : Int) ≠ 2))))) h7 ?_
 obtain ⟨y1, e1, e⟩ := Pu.bind_some e
 refine o_jn 5 (I := fun tm H => ∃ (Z6 V6 : PH), Gw Z5 V5 Z6 V6 ∧ Sat Z6 V6 H [pts b1 (.rw 0 [(vi x1.Terms), (vi x1.Nons), (vi x1.Start), (.slice d1 x1.Rules.length x1.Rules.length)]), It.sl (Sh.ro Sh.api_Rule) (.slice d1 x1.Rules.length x1.Rules.length) x1.Rules] ∧ tm 3 = (.pointer (some ⟨b1, 0, none⟩)) ∧ tm 31 = (.bool y1)) (fun k2 => ?_) ?_
 ·rcases Bool.eq_false_or_eq_true ((decide (x3.2 ≠ 0)) || (decide ((x3.1.length : Int) ≠ 2))) with q5 | q5
  ·replace e1 := if_t q5 e1
   refine o_gn rfl q5 ?_
   refine o_gn rfl q5 ?_
   refine o_gn rfl q5 ?_
   refine o_gn rfl q5 ?_
   refine o_pickt (a := (.bool true)) rfl q5 rfl ?_
   obtain rfl := Option.some.inj e1
   exact k2 _ _ ⟨_, _, Gw.refl _ _, s10, h5, rfl⟩
  replace e1 := ib_f q5 e1
  refine o_gy rfl q5 ?_
  refine o_mv (v := w3) h6 ?_
  refine o_gy rfl q5 ?_
  obtain ⟨x4, q6, e1⟩ := Pu.bind_some e1
  refine o_idx (v := w3) rfl rfl (h1.mono g5.z) rfl q6 fun p1 q7 => ?_
  refine o_gy rfl q5 ?_
  refine o_ldb rfl (h1.mono g5.z) s10.z q7 q6 ?_
  refine o_gy rfl q5 ?_
  refine o_not rfl ?_
  refine o_pickf (b := (.bool (!x4))) rfl q5 rfl ?_
  obtain rfl := Option.some.inj e1
  exact k2 _ _ ⟨_, _, Gw.refl _ _, s10, h5, rfl⟩
 intro _ H7 i6
 obtain ⟨Z6, V6, g6, s11, h8, h9⟩ := i6
 refine c_nil ?_
 refine c_if h9 (fun q8 => ?_) (fun q8 => ?_)
 ·replace e := if_t q8 e
  refine c_sr ?_
  refine o_mv (v := (.bool false)) rfl ?_
  refine c_nil ?_
  refine c_rt ?_
  obtain rfl := Option.some.inj e
  exact ⟨.inr rfl, _, (ar1 rfl), rfl, ((s11.pick [] rfl).weak (g1.trans (g2.trans (g3.trans (g4.trans (g5.trans g6))))) hs.zv)⟩
 replace e := ib_f q8 e
 refine c_sk ?_
 refine c_sr ?_
 refine o_ldB 0 s11 rfl h8 rfl rfl ?_
 obtain ⟨x5, q9, e⟩ := Pu.bind_some e
 obtain ⟨Z7, V7, W4, g7, u4, c13, c14, -, c16, c15⟩ := Sat.call (l1 := []) s11
 refine o_call (mc rfl (mc rfl m0)) (X.lens_Set nd.lens_Set c13 (c14 1 _ (Sh.ro Sh.api_Rule) _ _ rfl) q9) fun _ H8 i7 => ?_
 obtain ⟨w4, rfl, s12⟩ := i7
 have s13 := c15 _ _ s12
 obtain ⟨Z8, V8, g8, s14, h10⟩ := (s13).frzR
 refine o_mv (v := (.tuple #[w4, (vi x5.2)])) rfl ?_
 refine o_ext rfl rfl ?_
 refine o_ext rfl rfl ?_
 refine o_mv (v := w4) rfl ?_
 refine o_mv (v := (vi x5.2)) rfl ?_
 refine c_nil ?_
 refine c_sr ?_
 refine o_ldB 0 s14 rfl h8 rfl rfl ?_
 obtain ⟨Z9, V9, g9, s15, h11⟩ := s14.frzS 1 rfl
 replace h11 := h11.of_ro
 obtain ⟨x6, q10, e⟩ := Pu.bind_some e
 obtain ⟨Z10, V10, W5, g10, u5, c17, c18, -, c20, c19⟩ := Sat.call (l1 := []) s15
 refine o_call (mc rfl (mc rfl m0)) (X.census_Trees nd.census_Trees c17 (h11.mono g10.z) q10) fun _ H9 i8 => ?_
 obtain ⟨w5, rfl, s16⟩ := i8
 have s17 := c19 _ _ s16
 refine o_mv (v := (.tuple #[w5, (vi x6.2)])) rfl ?_
 refine o_ext rfl rfl ?_
 refine o_ext rfl rfl ?_
 refine o_mv (v := w5) rfl ?_
 refine o_mv (v := (vi x6.2)) rfl ?_
 refine c_nil ?_
 refine c_gen (P := fun tm => tm 3 = (.pointer (some ⟨b1, 0, none⟩)) ∧ tm 6 = w4 ∧ tm 7 = (vi x5.2) ∧ tm 8 = w5 ∧ tm 9 = (vi x6.2) ∧ True) ⟨h8, rfl, rfl, rfl, rfl, trivial⟩ ?_
 intro _ i9
 obtain ⟨h12, h13, h14, h15, h16, -⟩ := i9
 refine c_sq ?_
 refine c_sr ?_
 refine o_mv (v := (vi x5.2)) h14 ?_
 refine o_neq rfl rfl ?_
 refine o_mv (v := (.bool (decide (x5.2 ≠ 0)))) rfl ?_
 refine o_jn 3 (I := fun tm H => tm 47 = .bool ((decide (x5.2 ≠ 0)) || (decide (x6.2 ≠ 0))) ∧ (∃ (Z11 V11 : PH), Gw Z10 V10 Z11 V11 ∧ Sat Z11 V11 H [pts b1 (.rw 0 [(vi x1.Terms), (vi x1.Nons), (vi x1.Start), (.slice d1 x1.Rules.length x1.Rules.length)]), It.sl (Sh.sl Sh.int) w5 x6.1] ∧ tm 3 = (.pointer (some ⟨b1, 0, none⟩)) ∧ tm 6 = w4 ∧ tm 8 = w5)) (fun k3 => ?_) ?_
 ·rcases Bool.eq_false_or_eq_true (decide (x5.2 ≠ 0)) with q11 | q11
  ·refine o_gn rfl q11 ?_
   refine o_gn rfl q11 ?_
   refine o_pickt (a := (.bool true)) rfl q11 rfl ?_
   exact k3 _ _ ⟨gf rfl (by first | (rw [q11]; first | done | rfl) | simp [q11]), _, _, Gw.refl _ _, (s17.pick [1, 0] rfl), h12, h13, h15⟩
  refine o_gy rfl q11 ?_
  refine o_mv (v := (vi x6.2)) h16 ?_
  refine o_gy rfl q11 ?_
  refine o_neq rfl rfl ?_
  refine o_pickf (b := (.bool (decide (x6.2 ≠ 0)))) rfl q11 rfl ?_
  exact k3 _ _ ⟨gf rfl (by first | (rw [q11]; first | done | rfl) | simp [q11]), _, _, Gw.refl _ _, (s17.pick [1, 0] rfl), h12, h13, h15⟩
 intro _ H10 i10
 obtain ⟨h20, Z11, V11, g11, s18, h17, h18, h19⟩ := i10
 refine o_mv (v := (.bool ((decide (x5.2 ≠ 0)) || (decide (x6.2 ≠ 0))))) h20 ?_
 refine o_jn 4 (I := fun tm H => tm 52 = .bool (((decide (x5.2 ≠ 0)) || (decide (x6.2 ≠ 0))) || (decide ((x5.1.length : Int) ≠ 25))) ∧ (∃ (Z12 V12 : PH), Gw Z11 V11 Z12 V12 ∧ Sat Z12 V12 H [pts b1 (.rw 0 [(vi x1.Terms), (vi x1.Nons), (vi x1.Start), (.slice d1 x1.Rules.length x1.Rules.length)]), It.sl (Sh.sl Sh.int) w5 x6.1] ∧ tm 3 = (.pointer (some ⟨b1, 0, none⟩)) ∧ tm 6 = w4 ∧ tm 8 = w5)) (fun k4 => ?_) ?_
 ·rcases Bool.eq_false_or_eq_true ((decide (x5.2 ≠ 0)) || (decide (x6.2 ≠ 0))) with q12 | q12
  ·refine o_gn rfl q12 ?_
   refine o_gn rfl q12 ?_
   refine o_gn rfl q12 ?_
   refine o_pickt (a := (.bool true)) rfl q12 rfl ?_
   exact k4 _ _ ⟨gf rfl (by first | (rw [q12]; first | done | rfl) | simp [q12]), _, _, Gw.refl _ _, s18, h17, h18, h19⟩
  refine o_gy rfl q12 ?_
  refine o_mv (v := w4) h18 ?_
  refine o_gy rfl q12 ?_
  refine o_len rfl ((h10.mono (g9.trans (g10.trans g11)).z)).len ?_
  refine o_gy rfl q12 ?_
  refine o_neq rfl rfl ?_
  refine o_pickf (b := (.bool (decide ((x5.1.length : Int) ≠ 25)))) rfl q12 rfl ?_
  exact k4 _ _ ⟨gf rfl (by first | (rw [q12]; first | done | rfl) | simp [q12]), _, _, Gw.refl _ _, s18, h17, h18, h19⟩
 intro _ H11 i11
 obtain ⟨h24, Z12, V12, g12, s19, h21, h22, h23⟩ := i11
 refine c_nil ?_
 refine c_if h24 (fun q13 => ?_) (fun q13 => ?_)
 ·replace e := if_t q13 e
  refine c_sr ?_
  refine o_mv (v := (.bool false)) rfl ?_
  refine c_nil ?_
  refine c_rt ?_
  obtain rfl := Option.some.inj e
  exact ⟨.inr rfl, _, (ar1 rfl), rfl, ((s19.pick [] rfl).weak (g1.trans (g2.trans (g3.trans (g4.trans (g5.trans (g6.trans (g7.trans (g8.trans (g9.trans (g10.trans (g11.trans g12))))))))))) hs.zv)⟩
 replace e := ib_f q13 e
 refine c_sk ?_
 refine c_sq ?_
 refine c_sr ?_
 refine o_mv (v := w4) h22 ?_
 refine o_len rfl ((h10.mono (g9.trans (g10.trans (g11.trans g12))).z)).len ?_
 refine o_mv (v := (vi 0)) rfl ?_
 refine c_nil ?_
 obtain ⟨y2, q16, e⟩ := Pu.bind_some e
 refine c_jn (I := fun tm H => ∃ (s22 : Unit), y2 = .out s22 ∧ (∃ (Z14 V14 : PH), Gw Z12 V12 Z14 V14 ∧ Sat Z14 V14 H [pts b1 (.rw 0 [(vi x1.Terms), (vi x1.Nons), (vi x1.Start), (.slice d1 x1.Rules.length x1.Rules.length)]), It.sl (Sh.sl Sh.int) w5 x6.1] ∧ tm 3 = (.pointer (some ⟨b1, 0, none⟩)) ∧ tm 8 = w5 ∧ tm 53 = w4 ∧ tm 54 = (vi (x5.1.length : Int)))) (fun k8 => ?_) ?_
 ·refine c_bk ?_
  refine l_forL (xs := x5.1) (fun (i12 : Nat) (s20 : Unit) tm H => tm 55 = vi i12 ∧ ∃ (Z13 V13 : PH), Gw Z12 V12 Z13 V13 ∧ Sat Z13 V13 H [pts b1 (.rw 0 [(vi x1.Terms), (vi x1.Nons), (vi x1.Start), (.slice d1 x1.Rules.length x1.Rules.length)]), It.sl (Sh.sl Sh.int) w5 x6.1] ∧ tm 3 = (.pointer (some ⟨b1, 0, none⟩)) ∧ tm 8 = w5 ∧ tm 53 = w4 ∧ tm 54 = (vi (x5.1.length : Int))) (fun i12 x7 s20 y3 tm H13 q14 q15 j1 e2 k5 k6 k7 => ?_) (fun s20 tm H12 jf jd => ?_) q16 ⟨rfl, _, _, Gw.refl _ _, s19, h21, h23, rfl, rfl⟩
  ·obtain ⟨hti0, Z13, V13, g13, s21, h25, h26, h27, h28⟩ := j1
   unfold P.parlkeep5_LensTrees.b0 at e2
   refine c_sr ?_
   refine o_lss hti0 h28 ?_
   refine c_nil ?_
   refine c_sq ?_
   refine c_ift rfl (Int.ofNat_lt.2 q15) ?_
   refine c_sk ?_
   refine c_sq ?_
   refine c_bk ?_
   refine c_sr ?_
   refine o_mv (v := (vi (i12 : Int))) hti0 ?_
   refine o_idx (v := w4) h27 hti0 (h10.mono (g9.trans (g10.trans (g11.trans (g12.trans g13)))).z) rfl (Pu.ix_nat.trans q14) fun p2 q17 => ?_
   refine o_ldb rfl (h10.mono (g9.trans (g10.trans (g11.trans (g12.trans g13)))).z) s21.z q17 (Pu.ix_nat.trans q14) ?_
   refine o_mv (v := (vi (i12 : Int))) rfl ?_
   refine o_mv (v := (.bool x7)) rfl ?_
   refine c_nil ?_
   refine c_sr ?_
   refine o_mv (v := (.bool x7)) rfl ?_
   refine o_mv (v := w5) h26 ?_
   refine o_fad h25 ?_
   refine o_ldB 0 s21 rfl rfl rfl rfl ?_
   obtain ⟨x8, q18, e2⟩ := Pu.bind_some e2
   refine o_idx (v := w5) rfl rfl (s21.curS (s := (Sh.sl Sh.int)) 1 rfl) rfl q18 fun p3 q19 => ?_
   refine o_ldsv rfl (s21.curS (s := (Sh.sl Sh.int)) 1 rfl) (PH.le.refl _) q19 q18 fun w6 h33 h34 => ?_
   refine o_mv (v := (vi (i12 : Int))) rfl ?_
   obtain ⟨x9, q20, e2⟩ := Pu.bind_some e2
   refine o_idx (v := w6) rfl rfl h33 rfl q20 fun p4 q21 => ?_
   refine o_ldi rfl h33 (PH.le.refl _) q21 q20 ?_
   refine o_neq rfl rfl ?_
   refine o_eq (q_nbool _ _) rfl rfl ?_
   refine c_nil ?_
   refine c_gen (P := fun tm => tm 3 = (.pointer (some ⟨b1, 0, none⟩)) ∧ tm 8 = w5 ∧ tm 53 = w4 ∧ tm 54 = (vi (x5.1.length : Int)) ∧ tm 55 = (vi (i12 : Int)) ∧ tm 70 = (.bool (!(x7 == (decide (x9 ≠ 0))))) ∧ True) ⟨h25, h26, h27, h28, hti0, rfl, trivial⟩ ?_
   intro _ i13
   obtain ⟨h35, h36, h37, h38, h39, h40, -⟩ := i13
   refine c_if h40 (fun q22 => ?_) (fun q22 => ?_)
   ·replace e2 := if_t q22 e2
    refine c_sr ?_
    refine o_mv (v := (.bool false)) rfl ?_
    refine c_nil ?_
    refine c_rt ?_
    have e3 := fin_r (k7 _ (Option.some.inj e2).symm) e
    obtain rfl := Option.some.inj e3
    exact ⟨.inr rfl, _, (ar1 rfl), rfl, ((s21.pick [] rfl).weak (g1.trans (g2.trans (g3.trans (g4.trans (g5.trans (g6.trans (g7.trans (g8.trans (g9.trans (g10.trans (g11.trans (g12.trans g13)))))))))))) hs.zv)⟩
   replace e2 := ib_f q22 e2
   refine c_sk ?_
   refine c_end ?_
   refine c_r ?_
   refine o_add h39 rfl ?_
   refine o_mv (v := (vi (Pu.W ((i12 : Int) + 1)))) rfl ?_
   refine c_nil ?_
   exact k5 _ _ _ (Option.some.inj e2).symm ⟨(iv rfl (w_suc q15 ((h10.mono (g9.trans (g10.trans (g11.trans g12))).z)).bd)), _, _, g13, s21, h35, h36, h37, h38⟩
  ·obtain ⟨hte0, Z15, V15, g15, s24, h41, h42, h43, h44⟩ := jd
   refine c_sr ?_
   refine o_lss hte0 h44 ?_
   refine c_nil ?_
   refine c_sq ?_
   refine c_iff rfl (Int.lt_irrefl _) ?_
   refine c_ex ?_
   refine e_c ?_
   refine e_c ?_
   refine e_h ?_
   exact k8 _ _ ⟨_, jf, _, _, g15, s24, h41, h42, h43, h44⟩
 intro _ H14 i14
 obtain ⟨s22, f1, Z14, V14, g14, s23, h29, h30, h31, h32⟩ := i14
 replace e := fin_o f1 e
 refine c_sr ?_
 refine o_mv (v := (.bool true)) rfl ?_
 refine c_nil ?_
 refine c_rt ?_
 obtain rfl := Option.some.inj e
 exact ⟨.inr rfl, _, (ar1 rfl), rfl, ((s23.pick [] rfl).weak (g1.trans (g2.trans (g3.trans (g4.trans (g5.trans (g6.trans (g7.trans (g8.trans (g9.trans (g10.trans (g11.trans (g12.trans g14)))))))))))) hs.zv)⟩
end Go.Proofs.Ythgdobdhdfjhfaa
