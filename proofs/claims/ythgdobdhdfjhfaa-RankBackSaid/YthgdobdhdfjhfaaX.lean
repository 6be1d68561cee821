import Derived.Test.YthgdobdhdfjhfaaX1
import Derived.Test.YthgdobdhdfjhfaaGcensus
import Derived.Test.YthgdobdhdfjhfaaGcmp
import Derived.Test.YthgdobdhdfjhfaaGgram
import Derived.Test.YthgdobdhdfjhfaaGparlkeep5
import Derived.Test.YthgdobdhdfjhfaaGparlmake
import Derived.Test.YthgdobdhdfjhfaaGrank
import Derived.Test.YthgdobdhdfjhfaaGslices
import Derived.Test.YthgdobdhdfjhfaaGtree
namespace Go.Proofs.Ythgdobdhdfjhfaa
open Go Go.Ab
structure Nd.census_table_count (T : FuncId → Option AFunc) : Prop where
 own_census_table_count : Has T I.census_table_count F.census_table_count
 own_census_table_way : Has T I.census_table_way F.census_table_way
 census_table_sym : Nd.census_table_sym T
abbrev Nd.census_table_way := Nd.census_table_count
set_option maxHeartbeats 1000000 in
theorem X.census_table_count_rec {T : FuncId → Option AFunc} (nd : Nd.census_table_count T) : ∀ φ : Nat, (∀ {Z V : PH} {H : Hp} {v1 : Value} {v2 : Value} {v3 : Value} {v4 : Value} {v5 : Value} {v6 : Value} {o1 : Nat} {a0 : Ty.census_table} {a1 : Int} {a2 : Int} (hs : Sat Z V H [pts o1 (.rw 0 [vi a0.g.Terms, vi a0.g.Nons, vi a0.g.Start, v1, vi a0.n, v2, v3, v4, v5, v6]), It.sl sB v2 a0.has_, It.sl sB v3 a0.loop_, It.sl sI1 v4 a0.known_, It.sl sB2 v5 a0.ends, It.sl sI2 v6 a0.ways]) (hp1 : RdS Sh.api_Rule Z v1 a0.g.Rules) {r : (Ty.census_table × Int)} (e : P.census_table_count φ a0 a1 a2 = some r), G T I.census_table_count [(pV o1 0), vi a1, vi a2] H (fun rv H' => ∃ (u1 : Value) (u2 : Value) (u3 : Value) (u4 : Value) (u5 : Value) (u6 : Value), rv = (vi r.2) ∧ Sat Z V H' [pts o1 (.rw 0 [vi r.1.g.Terms, vi r.1.g.Nons, vi r.1.g.Start, u1, vi r.1.n, u2, u3, u4, u5, u6]), Sh.it (Sh.ro (Sh.sl Sh.api_Rule)) [u1] r.1.g.Rules, It.sl sB u2 r.1.has_, It.sl sB u3 r.1.loop_, It.sl sI1 u4 r.1.known_, It.sl sB2 u5 r.1.ends, It.sl sI2 u6 r.1.ways])) ∧ (∀ {Z V : PH} {H : Hp} {v1 : Value} {v2 : Value} {v3 : Value} {v4 : Value} {v5 : Value} {v6 : Value} {o1 : Nat} {a0 : Ty.census_table} {a1 : Int} {a2 : Int} {a3 : Int} (hs : Sat Z V H [pts o1 (.rw 0 [vi a0.g.Terms, vi a0.g.Nons, vi a0.g.Start, v1, vi a0.n, v2, v3, v4, v5, v6]), It.sl sB v2 a0.has_, It.sl sB v3 a0.loop_, It.sl sI1 v4 a0.known_, It.sl sB2 v5 a0.ends, It.sl sI2 v6 a0.ways]) (hp1 : RdS Sh.api_Rule Z v1 a0.g.Rules) {r : (Ty.census_table × Int)} (e : P.census_table_way φ a0 a1 a2 a3 = some r), G T I.census_table_way [(pV o1 0), vi a1, vi a2, vi a3] H (fun rv H' => ∃ (u1 : Value) (u2 : Value) (u3 : Value) (u4 : Value) (u5 : Value) (u6 : Value), rv = (vi r.2) ∧ Sat Z V H' [pts o1 (.rw 0 [vi r.1.g.Terms, vi r.1.g.Nons, vi r.1.g.Start, u1, vi r.1.n, u2, u3, u4, u5, u6]), Sh.it (Sh.ro (Sh.sl Sh.api_Rule)) [u1] r.1.g.Rules, It.sl sB u2 r.1.has_, It.sl sB u3 r.1.loop_, It.sl sI1 u4 r.1.known_, It.sl sB2 u5 r.1.ends, It.sl sI2 u6 r.1.ways])) := by
 intro φ
 induction φ with
 | zero =>
   refine ⟨?_, ?_⟩
   ·intro Z V H v1 v2 v3 v4 v5 v6 o1 a0 a1 a2 hs hp1 r e
    rw [P.census_table_count] at e; cases e
   ·intro Z V H v1 v2 v3 v4 v5 v6 o1 a0 a1 a2 a3 hs hp1 r e
    rw [P.census_table_way] at e; cases e
 | succ φ ih =>
   refine ⟨?_, ?_⟩
   ·intro Z V H v1 v2 v3 v4 v5 v6 o1 a0 a1 a2 hs hp1 r e
    rw [P.census_table_count] at e
    refine f_mk nd.own_census_table_count ?_
    refine c_sr ?_
    refine o_mv (v := (vi 0)) rfl ?_
    refine c_nil (c_sq (c_bk (c_sr ?_)))
    refine o_mv (v := (pV o1 0)) rfl ?_
    refine o_nck rfl (o_fad rfl ?_)
    obtain ⟨d1, rfl⟩ := (hp1).val
    obtain ⟨d2, rfl⟩ := ((hs.curS (s := sB) 1 rfl)).val
    obtain ⟨d3, rfl⟩ := ((hs.curS (s := sB) 2 rfl)).val
    obtain ⟨d4, rfl⟩ := ((hs.curS (s := sI1) 3 rfl)).val
    obtain ⟨d5, rfl⟩ := ((hs.curS (s := sB2) 4 rfl)).val
    obtain ⟨d6, rfl⟩ := ((hs.curS (s := sI2) 5 rfl)).val
    refine o_ldB 0 hs rfl rfl rfl rfl ?_
    refine o_mv (v := (vi a1)) rfl ?_
    obtain ⟨x1, q1, e⟩ := oB e
    refine o_idx (v := (vS d2 a0.has_)) rfl rfl (hs.curS (s := sB) 1 rfl) rfl q1 fun p1 q2 => ?_
    refine o_ldsv rfl (hs.curS (s := sB) 1 rfl) pR q2 q1 fun w1 h1 h2 => ?_
    refine o_mv (v := (vi a2)) rfl ?_
    obtain ⟨x2, q3, e⟩ := oB e
    refine o_idx (v := w1) rfl rfl h1 rfl q3 fun p2 q4 => ?_
    refine o_ldb rfl h1 pR q4 q3 (o_not rfl ?_)
    refine o_mv (v := (.bool (!x2))) rfl ?_
    refine c_nil ?_
    refine c_gen (P := fun tm => tm 0 = (pV o1 0) ∧ tm 1 = (vi a1) ∧ tm 2 = (vi a2) ∧ tm 10 = (.bool (!x2)) ∧ True) ⟨rfl, rfl, rfl, rfl, trivial⟩ ?_
    intro _ i1
    obtain ⟨h3, h4, h5, h6, -⟩ := i1
    refine c_if h6 (fun q5 => ?_) (fun q5 => ?_)
    ·replace e := if_t q5 e
     refine c_sr ?_
     refine o_mv (v := (vi 0)) rfl ?_
     refine c_nil (c_rt ?_)
     obtain rfl := oJ e
     exact ⟨.inr rfl, _, (ar1 rfl), _, _, _, _, _, _, rfl, ((hs.push (ro_it (sl_ro hp1))).pick [1, 0, 2, 3, 4, 5, 6] rfl)⟩
    replace e := ib_f q5 e
    refine c_sr (o_mv h3 (o_nck rfl (o_fad rfl (o_ldB 0 hs rfl rfl rfl rfl ?_))))
    refine o_mv h4 ?_
    obtain ⟨x3, q6, e⟩ := oB e
    refine o_idx (v := (vS d3 a0.loop_)) rfl rfl (hs.curS (s := sB) 2 rfl) rfl q6 fun p3 q7 => ?_
    refine o_ldsv rfl (hs.curS (s := sB) 2 rfl) pR q7 q6 fun w2 h7 h8 => ?_
    refine o_mv h5 ?_
    obtain ⟨x4, q8, e⟩ := oB e
    refine o_idx (v := w2) rfl rfl h7 rfl q8 fun p4 q9 => ?_
    refine o_ldb rfl h7 pR q9 q8 ?_
    refine o_mv (v := (.bool x4)) rfl ?_
    refine c_nil ?_
    refine c_gen (P := fun tm => tm 0 = (pV o1 0) ∧ tm 1 = (vi a1) ∧ tm 2 = (vi a2) ∧ tm 22 = (.bool x4) ∧ True) ⟨h3, h4, h5, rfl, trivial⟩ ?_
    intro _ i2
    obtain ⟨h9, h10, h11, h12, -⟩ := i2
    refine c_if h12 (fun q10 => ?_) (fun q10 => ?_)
    ·replace e := if_t q10 e
     refine c_sr ?_
     refine o_mv (v := (vi (-1))) rfl ?_
     refine c_nil (c_rt ?_)
     obtain rfl := oJ e
     exact ⟨.inr rfl, _, (ar1 rfl), _, _, _, _, _, _, rfl, ((hs.push (ro_it (sl_ro hp1))).pick [1, 0, 2, 3, 4, 5, 6] rfl)⟩
    replace e := ib_f q10 e
    refine c_sr (o_mv h9 (o_nck rfl (o_fad rfl (o_ldB 0 hs rfl rfl rfl rfl ?_))))
    refine o_mv h10 ?_
    obtain ⟨x5, q11, e⟩ := oB e
    refine o_idx (v := (vS d4 a0.known_)) rfl rfl (hs.curS (s := sI1) 3 rfl) rfl q11 fun p5 q12 => ?_
    refine o_ldsv rfl (hs.curS (s := sI1) 3 rfl) pR q12 q11 fun w3 h13 h14 => ?_
    refine o_mv h11 ?_
    obtain ⟨x6, q13, e⟩ := oB e
    refine o_idx (v := w3) rfl rfl h13 rfl q13 fun p6 q14 => ?_
    refine o_ldi rfl h13 pR q14 q13 (o_geq rfl rfl ?_)
    refine o_mv (v := (.bool (decide (0 ≤ x6)))) rfl ?_
    refine c_nil ?_
    refine c_gen (P := fun tm => tm 0 = (pV o1 0) ∧ tm 1 = (vi a1) ∧ tm 2 = (vi a2) ∧ tm 33 = (.bool (decide (0 ≤ x6))) ∧ True) ⟨h9, h10, h11, rfl, trivial⟩ ?_
    intro _ i3
    obtain ⟨h15, h16, h17, h18, -⟩ := i3
    refine c_ifd h18 (fun q15 => ?_) (fun q15 => ?_)
    ·replace e := if_t q15 e
     refine c_sr (o_mv h15 (o_nck rfl (o_fad rfl (o_ldB 0 hs rfl rfl rfl rfl ?_))))
     refine o_mv h16 ?_
     obtain ⟨x7, q16, e⟩ := oB e
     refine o_idx (v := (vS d4 a0.known_)) rfl rfl (hs.curS (s := sI1) 3 rfl) rfl q16 fun p7 q17 => ?_
     refine o_ldsv rfl (hs.curS (s := sI1) 3 rfl) pR q17 q16 fun w4 h19 h20 => ?_
     refine o_mv h17 ?_
     obtain ⟨x8, q18, e⟩ := oB e
     refine o_idx (v := w4) rfl rfl h19 rfl q18 fun p8 q19 => ?_
     refine o_ldi rfl h19 pR q19 q18 ?_
     refine o_mv (v := (vi x8)) rfl ?_
     refine c_nil ?_
     refine c_gen (P := fun tm => tm 6 = (vi x8) ∧ True) ⟨rfl, trivial⟩ ?_
     intro _ i4
     obtain ⟨h21, -⟩ := i4
     refine c_rt ?_
     obtain rfl := oJ e
     exact ⟨.inr rfl, _, (ar1 h21), _, _, _, _, _, _, rfl, ((hs.push (ro_it (sl_ro hp1))).pick [1, 0, 2, 3, 4, 5, 6] rfl)⟩
    replace e := if_f q15 e
    refine c_sk (c_end (c_sr ?_))
    refine o_mv (v := (vi 0)) rfl ?_
    refine c_nil (c_sq (c_sr (o_mv h15 (o_nck rfl ?_))))
    refine o_fad rfl (o_fad rfl (o_ldB 0 hs rfl rfl rfl rfl (o_len rfl (hp1).len ?_)))
    refine o_mv (v := (vi 0)) rfl ?_
    refine c_nil ?_
    obtain ⟨y1, q22, e⟩ := oB e
    refine c_bk ?_
    refine l_forP (xs := a0.g.Rules) (fun (i5 : Nat) (s1 : (Int × Int × Int × (List Ty.api_Rule) × Int × (List (List Bool)) × (List (List Bool)) × (List (List Int)) × (List (List (List Bool))) × (List (List (List Int))) × Int)) tm H => tm 61 = vi i5 ∧ ∃ (Z1 V1 : PH) (w5 : Value) (w6 : Value) (w7 : Value) (w8 : Value) (w9 : Value) (w10 : Value), Gw Z V Z1 V1 ∧ Sat Z1 V1 H [pts o1 (.rw 0 [vi s1.1, vi s1.2.1, vi s1.2.2.1, w10, vi s1.2.2.2.2.1, w5, w6, w7, w8, w9]), It.sl sB w5 s1.2.2.2.2.2.1, It.sl sB w6 s1.2.2.2.2.2.2.1, It.sl sI1 w7 s1.2.2.2.2.2.2.2.1, It.sl sB2 w8 s1.2.2.2.2.2.2.2.2.1, It.sl sI2 w9 s1.2.2.2.2.2.2.2.2.2.1] ∧ tm 0 = (pV o1 0) ∧ tm 1 = (vi a1) ∧ tm 2 = (vi a2) ∧ tm 7 = (vi s1.2.2.2.2.2.2.2.2.2.2) ∧ tm 59 = (vS d1 a0.g.Rules) ∧ tm 60 = (vN a0.g.Rules) ∧ RdS Sh.api_Rule Z1 w10 s1.2.2.2.1) (fun i5 x9 s1 s3 tm H2 q20 q21 j1 e1 k1 => ?_) (fun tm H1 jd => ?_) q22 ⟨rfl, _, _, _, _, _, _, _, _, Gw.refl _ _, hs, h15, h16, h17, rfl, rfl, rfl, hp1⟩
    ·obtain ⟨hti0, Z1, V1, w5, w6, w7, w8, w9, w10, g1, s2, h23, h24, h25, h26, h27, h28, h22⟩ := j1
     unfold P.census_table_count.b0 at e1
     refine c_sr (o_lss hti0 h28 (c_nil (c_sq ?_)))
     refine c_ift rfl (Int.ofNat_lt.2 q21) ?_
     refine c_sk (c_sq (c_bk (c_sr (o_mv hti0 ?_))))
     refine o_idx (v := (vS d1 a0.g.Rules)) h27 hti0 (hp1.mono g1.z) rfl (Pu.ix_nat.trans q20) fun p9 q23 => ?_
     refine o_lda rfl (hp1.mono g1.z) s2.z rfl q23 (Pu.ix_nat.trans q20) fun c1 h29 => ?_
     obtain ⟨w11, rfl, h30⟩ := Sh.api_Rule_op h29
     refine o_new s2 fun b1 H3 s4 => ?_
     refine o_mv (v := (vJ i5)) rfl ?_
     obtain ⟨d7, rfl⟩ := (h30).val
     refine o_stB (us' := [vi x9.Left, (vS d7 x9.Right)]) 0 s4 rfl rfl rfl rfl rfl rfl rfl fun H4 s5 => ?_
     refine c_nil (c_sr (o_fad rfl (o_ldB 0 s5 rfl rfl rfl rfl (o_mv h24 ?_))))
     refine o_eql rfl rfl (c_nil ?_)
     refine c_gen (P := fun tm => tm 0 = (pV o1 0) ∧ tm 1 = (vi a1) ∧ tm 2 = (vi a2) ∧ tm 7 = (vi s1.2.2.2.2.2.2.2.2.2.2) ∧ tm 8 = (vJ i5) ∧ tm 59 = (vS d1 a0.g.Rules) ∧ tm 60 = (vN a0.g.Rules) ∧ tm 61 = (vJ i5) ∧ tm 69 = (.bool (decide (x9.Left = a1))) ∧ True) ⟨h23, h24, h25, h26, rfl, h27, h28, hti0, rfl, trivial⟩ ?_
     intro _ i6
     obtain ⟨h31, h32, h33, h34, h35, h36, h37, h38, h39, -⟩ := i6
     obtain ⟨y2, e2, e1⟩ := oB e1
     refine c_jn (I := fun tm H => ∃ (Z2 V2 : PH) (w12 : Value) (w13 : Value) (w14 : Value) (w15 : Value) (w16 : Value) (w17 : Value), Gw Z1 V1 Z2 V2 ∧ Sat Z2 V2 H [pts o1 (.rw 0 [vi y2.1, vi y2.2.1, vi y2.2.2.1, w17, vi y2.2.2.2.2.1, w12, w13, w14, w15, w16]), It.sl sB w12 y2.2.2.2.2.2.1, It.sl sB w13 y2.2.2.2.2.2.2.1, It.sl sI1 w14 y2.2.2.2.2.2.2.2.1, It.sl sB2 w15 y2.2.2.2.2.2.2.2.2.1, It.sl sI2 w16 y2.2.2.2.2.2.2.2.2.2.1] ∧ tm 0 = (pV o1 0) ∧ tm 1 = (vi a1) ∧ tm 2 = (vi a2) ∧ tm 7 = (vi y2.2.2.2.2.2.2.2.2.2.2) ∧ tm 59 = (vS d1 a0.g.Rules) ∧ tm 60 = (vN a0.g.Rules) ∧ tm 61 = (vJ i5) ∧ RdS Sh.api_Rule Z2 w17 y2.2.2.2.1) (fun k2 => ?_) ?_
     ·refine c_ifd h39 (fun q24 => ?_) (fun q24 => ?_)
      ·replace e2 := if_t q24 e2
       refine c_r (o_mv h34 (o_mv h31 (o_mv h35 (o_mv h33 ?_))))
       obtain ⟨x10, q25, e2⟩ := oB e2
       obtain ⟨d8, rfl⟩ := (h22).val
       obtain ⟨d9, rfl⟩ := ((s5.curS (s := sB) 2 rfl)).val
       obtain ⟨d10, rfl⟩ := ((s5.curS (s := sB) 3 rfl)).val
       obtain ⟨d11, rfl⟩ := ((s5.curS (s := sI1) 4 rfl)).val
       obtain ⟨d12, rfl⟩ := ((s5.curS (s := sB2) 5 rfl)).val
       obtain ⟨d13, rfl⟩ := ((s5.curS (s := sI2) 6 rfl)).val
       obtain ⟨Z3, V3, W1, g3, u1, c2, c3, -, c5, c4⟩ := Sat.call (l1 := [pts o1 (.rw 0 [vi s1.1, vi s1.2.1, vi s1.2.2.1, (vS d8 s1.2.2.2.1), vi s1.2.2.2.2.1, (vS d9 s1.2.2.2.2.2.1), (vS d10 s1.2.2.2.2.2.2.1), (vS d11 s1.2.2.2.2.2.2.2.1), (vS d12 s1.2.2.2.2.2.2.2.2.1), (vS d13 s1.2.2.2.2.2.2.2.2.2.1)]), Is sB d9 s1.2.2.2.2.2.1, Is sB d10 s1.2.2.2.2.2.2.1, Is sI1 d11 s1.2.2.2.2.2.2.2.1, Is sB2 d12 s1.2.2.2.2.2.2.2.2.1, Is sI2 d13 s1.2.2.2.2.2.2.2.2.2.1]) (l2 := [pts b1 (.rw 0 [vi x9.Left, (vS d7 x9.Right)])]) (s5.pick [1, 2, 3, 4, 5, 6, 0] rfl)
       refine o_call (mc rfl (mc rfl (mc rfl (mc rfl m0)))) (ih.2 (a0 := (Ty.census_table.mk (Ty.api_Grammar.mk s1.1 s1.2.1 s1.2.2.1 s1.2.2.2.1) s1.2.2.2.2.1 s1.2.2.2.2.2.1 s1.2.2.2.2.2.2.1 s1.2.2.2.2.2.2.2.1 s1.2.2.2.2.2.2.2.2.1 s1.2.2.2.2.2.2.2.2.2.1)) c2 (h22.mono g3.z) q25) fun _ H6 i7 => ?_
       obtain ⟨w18, w19, w20, w21, w22, w23, rfl, s7⟩ := i7
       have s8 := c4 _ _ s7
       obtain ⟨Z4, V4, g4, s9, h48⟩ := (s8.pull 1 rfl).frzR
       refine o_add rfl rfl (o_min rfl rfl ?_)
       refine o_mv (v := (vi (Pu.imin 1000000000 (Pu.W (s1.2.2.2.2.2.2.2.2.2.2 + x10.2))))) rfl ?_
       refine c_nil ?_
       obtain rfl := oJ e2
       exact k2 _ _ ⟨_, _, _, _, _, _, _, _, (g3.trans g4), (s9.pick [0, 1, 2, 3, 4, 5] rfl), h31, h32, h33, rfl, h36, h37, h38, h48⟩
      replace e2 := if_f q24 e2
      refine c_sk ?_
      obtain rfl := oJ e2
      exact k2 _ _ ⟨_, _, _, _, _, _, _, _, Gw.refl _ _, (s5.pick [1, 2, 3, 4, 5, 6] rfl), h31, h32, h33, h34, h36, h37, h38, h22⟩
     intro _ H5 i8
     obtain ⟨Z2, V2, w12, w13, w14, w15, w16, w17, g2, s6, h41, h42, h43, h44, h45, h46, h47, h40⟩ := i8
     refine c_end (c_r (o_add h47 rfl ?_))
     refine o_mv (v := (vi (Pu.W ((i5 : Int) + 1)))) rfl ?_
     refine c_nil ?_
     obtain rfl := oJ e1
     exact k1 _ _ ⟨(iv rfl (w_suc q21 (hp1).bd)), _, _, _, _, _, _, _, _, (g1.trans g2), s6, h41, h42, h43, h44, h45, h46, h40⟩
    obtain ⟨hte0, Z5, V5, w24, w25, w26, w27, w28, w29, g5, s10, h50, h51, h52, h53, h54, h55, h49⟩ := jd
    refine c_sr (o_lss hte0 h55 (c_nil (c_sq ?_)))
    refine c_iff rfl (Int.lt_irrefl _) ?_
    refine c_ex ?_
    refine e_c ?_
    refine e_c ?_
    refine e_h ?_
    refine c_sr (o_mv h50 (o_nck rfl (o_fad rfl ?_)))
    obtain ⟨d14, rfl⟩ := (h49).val
    obtain ⟨d15, rfl⟩ := ((s10.curS (s := sB) 1 rfl)).val
    obtain ⟨d16, rfl⟩ := ((s10.curS (s := sB) 2 rfl)).val
    obtain ⟨d17, rfl⟩ := ((s10.curS (s := sI1) 3 rfl)).val
    obtain ⟨d18, rfl⟩ := ((s10.curS (s := sB2) 4 rfl)).val
    obtain ⟨d19, rfl⟩ := ((s10.curS (s := sI2) 5 rfl)).val
    refine o_ldB 0 s10 rfl rfl rfl rfl (o_mv h51 ?_)
    obtain ⟨x11, q26, e⟩ := oB e
    refine o_idx (v := (vS d17 y1.2.2.2.2.2.2.2.1)) rfl rfl (s10.curS (s := sI1) 3 rfl) rfl q26 fun p10 q27 => ?_
    refine o_ldsv rfl (s10.curS (s := sI1) 3 rfl) pR q27 q26 fun w30 h56 h57 => ?_
    refine o_mv h52 (o_mv h53 ?_)
    obtain ⟨x12, q28, e⟩ := oB e
    refine o_idx (v := w30) rfl rfl h56 rfl q28 fun p11 q29 => ?_
    refine o_st2 3 s10 rfl Sh.flat_lt rfl rfl rfl q27 q26 h57 q29 q28 rfl rfl fun H8 s11 => ?_
    refine c_nil ?_
    refine c_gen (P := fun tm => tm 7 = (vi y1.2.2.2.2.2.2.2.2.2.2) ∧ True) ⟨h53, trivial⟩ ?_
    intro _ i9
    obtain ⟨h58, -⟩ := i9
    refine c_sr (o_mv h58 ?_)
    refine o_mv (v := (vi y1.2.2.2.2.2.2.2.2.2.2)) rfl ?_
    refine c_nil (c_rt ?_)
    obtain rfl := oJ e
    exact ⟨.inr rfl, _, (ar1 rfl), _, _, _, _, _, _, rfl, (((s11.push (ro_it (sl_ro h49))).pick [1, 0, 2, 3, 4, 5, 6] rfl).weak g5 hs.zv)⟩
   ·intro Z V H v1 v2 v3 v4 v5 v6 o1 a0 a1 a2 a3 hs hp1 r e
    rw [P.census_table_way] at e
    refine f_mk nd.own_census_table_way ?_
    refine c_sr ?_
    refine o_mv (v := (vi 0)) rfl ?_
    refine c_nil (c_sr ?_)
    refine o_mv (v := (pV o1 0)) rfl ?_
    refine o_nck rfl (o_fad rfl (o_fad rfl ?_))
    obtain ⟨d1, rfl⟩ := (hp1).val
    obtain ⟨d2, rfl⟩ := ((hs.curS (s := sB) 1 rfl)).val
    obtain ⟨d3, rfl⟩ := ((hs.curS (s := sB) 2 rfl)).val
    obtain ⟨d4, rfl⟩ := ((hs.curS (s := sI1) 3 rfl)).val
    obtain ⟨d5, rfl⟩ := ((hs.curS (s := sB2) 4 rfl)).val
    obtain ⟨d6, rfl⟩ := ((hs.curS (s := sI2) 5 rfl)).val
    refine o_ldB 0 hs rfl rfl rfl rfl ?_
    refine o_mv (v := (vi a1)) rfl ?_
    obtain ⟨x1, q1, e⟩ := oB e
    refine o_idx (v := (vS d1 a0.g.Rules)) rfl rfl hp1 rfl q1 fun p1 q2 => ?_
    refine o_fadE rfl q2 fun p2 q3 => ?_
    refine o_ldF rfl hp1 hs.z rfl q2 q3 q1 rfl fun c1 h1 => ?_
    obtain ⟨w1, rfl, h2⟩ := Sh.api_Rule_op h1
    refine ⟨_, rfl, ?_⟩
    refine o_mv (v := w1) rfl ?_
    refine c_nil ?_
    refine c_gen (P := fun tm => tm 0 = (pV o1 0) ∧ tm 1 = (vi a1) ∧ tm 2 = (vi a2) ∧ tm 3 = (vi a3) ∧ tm 9 = w1 ∧ True) ⟨rfl, rfl, rfl, rfl, rfl, trivial⟩ ?_
    intro _ i1
    obtain ⟨h3, h4, h5, h6, h7, -⟩ := i1
    refine c_sq (c_bk (c_sr (o_mv h3 (o_nck rfl ?_))))
    refine o_fad rfl (o_ldB 0 hs rfl rfl rfl rfl (o_mv h4 ?_))
    obtain ⟨x2, q4, e⟩ := oB e
    refine o_idx (v := (vS d5 a0.ends)) rfl rfl (hs.curS (s := sB2) 4 rfl) rfl q4 fun p3 q5 => ?_
    refine o_ldsv rfl (hs.curS (s := sB2) 4 rfl) pR q5 q4 fun w2 h8 h9 => ?_
    refine o_mv h5 ?_
    obtain ⟨x3, q6, e⟩ := oB e
    refine o_idx (v := w2) rfl rfl h8 rfl q6 fun p4 q7 => ?_
    refine o_ldsv rfl h8 pR q7 q6 fun w3 h10 h11 => ?_
    refine o_mv h6 ?_
    obtain ⟨x4, q8, e⟩ := oB e
    refine o_idx (v := w3) rfl rfl h10 rfl q8 fun p5 q9 => ?_
    refine o_ldb rfl h10 pR q9 q8 (o_not rfl ?_)
    refine o_mv (v := (.bool (!x4))) rfl ?_
    refine c_nil ?_
    refine c_gen (P := fun tm => tm 0 = (pV o1 0) ∧ tm 1 = (vi a1) ∧ tm 2 = (vi a2) ∧ tm 3 = (vi a3) ∧ tm 9 = w1 ∧ tm 22 = (.bool (!x4)) ∧ True) ⟨h3, h4, h5, h6, h7, rfl, trivial⟩ ?_
    intro _ i2
    obtain ⟨h12, h13, h14, h15, h16, h17, -⟩ := i2
    refine c_if h17 (fun q10 => ?_) (fun q10 => ?_)
    ·replace e := if_t q10 e
     refine c_sr ?_
     refine o_mv (v := (vi 0)) rfl ?_
     refine c_nil (c_rt ?_)
     obtain rfl := oJ e
     exact ⟨.inr rfl, _, (ar1 rfl), _, _, _, _, _, _, rfl, ((hs.push (ro_it (sl_ro hp1))).pick [1, 0, 2, 3, 4, 5, 6] rfl)⟩
    replace e := ib_f q10 e
    refine c_sr (o_mv h14 (o_mv h16 (o_len rfl (h2).len (o_eql rfl rfl ?_))))
    refine o_mv (v := (.bool (decide (a2 = (x1.Right.length : Int))))) rfl ?_
    refine c_nil ?_
    refine c_ifd rfl (fun q11 => ?_) (fun q11 => ?_)
    ·replace e := if_t q11 e
     refine c_sr ?_
     refine o_mv (v := (vi 1)) rfl ?_
     refine c_nil (c_rt ?_)
     obtain rfl := oJ e
     exact ⟨.inr rfl, _, (ar1 rfl), _, _, _, _, _, _, rfl, ((hs.push (ro_it (sl_ro hp1))).pick [1, 0, 2, 3, 4, 5, 6] rfl)⟩
    replace e := if_f q11 e
    refine c_sr (o_mv h12 (o_nck rfl (o_fad rfl (o_ldB 0 hs rfl rfl rfl rfl ?_))))
    refine o_mv h13 ?_
    obtain ⟨x5, q12, e⟩ := oB e
    refine o_idx (v := (vS d6 a0.ways)) rfl rfl (hs.curS (s := sI2) 5 rfl) rfl q12 fun p6 q13 => ?_
    refine o_ldsv rfl (hs.curS (s := sI2) 5 rfl) pR q13 q12 fun w4 h18 h19 => ?_
    refine o_mv h14 ?_
    obtain ⟨x6, q14, e⟩ := oB e
    refine o_idx (v := w4) rfl rfl h18 rfl q14 fun p7 q15 => ?_
    refine o_ldsv rfl h18 pR q15 q14 fun w5 h20 h21 => ?_
    refine o_mv h15 ?_
    obtain ⟨x7, q16, e⟩ := oB e
    refine o_idx (v := w5) rfl rfl h20 rfl q16 fun p8 q17 => ?_
    refine o_ldi rfl h20 pR q17 q16 (o_geq rfl rfl ?_)
    refine o_mv (v := (.bool (decide (0 ≤ x7)))) rfl ?_
    refine c_nil ?_
    refine c_gen (P := fun tm => tm 0 = (pV o1 0) ∧ tm 1 = (vi a1) ∧ tm 2 = (vi a2) ∧ tm 3 = (vi a3) ∧ tm 9 = w1 ∧ tm 42 = (.bool (decide (0 ≤ x7))) ∧ True) ⟨h12, h13, h14, h15, h16, rfl, trivial⟩ ?_
    intro _ i3
    obtain ⟨h22, h23, h24, h25, h26, h27, -⟩ := i3
    refine c_ifd h27 (fun q18 => ?_) (fun q18 => ?_)
    ·replace e := if_t q18 e
     refine c_sr (o_mv h22 (o_nck rfl (o_fad rfl (o_ldB 0 hs rfl rfl rfl rfl ?_))))
     refine o_mv h23 ?_
     obtain ⟨x8, q19, e⟩ := oB e
     refine o_idx (v := (vS d6 a0.ways)) rfl rfl (hs.curS (s := sI2) 5 rfl) rfl q19 fun p9 q20 => ?_
     refine o_ldsv rfl (hs.curS (s := sI2) 5 rfl) pR q20 q19 fun w6 h28 h29 => ?_
     refine o_mv h24 ?_
     obtain ⟨x9, q21, e⟩ := oB e
     refine o_idx (v := w6) rfl rfl h28 rfl q21 fun p10 q22 => ?_
     refine o_ldsv rfl h28 pR q22 q21 fun w7 h30 h31 => ?_
     refine o_mv h25 ?_
     obtain ⟨x10, q23, e⟩ := oB e
     refine o_idx (v := w7) rfl rfl h30 rfl q23 fun p11 q24 => ?_
     refine o_ldi rfl h30 pR q24 q23 ?_
     refine o_mv (v := (vi x10)) rfl ?_
     refine c_nil ?_
     refine c_gen (P := fun tm => tm 8 = (vi x10) ∧ True) ⟨rfl, trivial⟩ ?_
     intro _ i4
     obtain ⟨h32, -⟩ := i4
     refine c_rt ?_
     obtain rfl := oJ e
     exact ⟨.inr rfl, _, (ar1 h32), _, _, _, _, _, _, rfl, ((hs.push (ro_it (sl_ro hp1))).pick [1, 0, 2, 3, 4, 5, 6] rfl)⟩
    replace e := if_f q18 e
    refine c_sk (c_end (c_sr ?_))
    refine o_mv (v := (vi 0)) rfl ?_
    refine c_nil (c_sq (c_sr (o_mv h25 (o_add rfl rfl ?_))))
    refine o_mv (v := (vi 0)) rfl ?_
    refine c_nil ?_
    obtain ⟨x12, q27, e⟩ := oB e
    obtain ⟨rfl, q29⟩ := ranO_some q27
    obtain ⟨y1, q30, e⟩ := oB e
    refine c_bk ?_
    refine l_forP (xs := (Pu.ran (Pu.W (a3 + 1)))) (fun (i5 : Nat) (s1 : (Int × Int × Int × (List Ty.api_Rule) × Int × (List (List Bool)) × (List (List Bool)) × (List (List Int)) × (List (List (List Bool))) × (List (List (List Int))) × Int)) tm H => tm 72 = vi i5 ∧ ∃ (Z1 V1 : PH) (w8 : Value) (w9 : Value) (w10 : Value) (w11 : Value) (w12 : Value) (w13 : Value), Gw Z V Z1 V1 ∧ Sat Z1 V1 H [pts o1 (.rw 0 [vi s1.1, vi s1.2.1, vi s1.2.2.1, w13, vi s1.2.2.2.2.1, w8, w9, w10, w11, w12]), It.sl sB w8 s1.2.2.2.2.2.1, It.sl sB w9 s1.2.2.2.2.2.2.1, It.sl sI1 w10 s1.2.2.2.2.2.2.2.1, It.sl sB2 w11 s1.2.2.2.2.2.2.2.2.1, It.sl sI2 w12 s1.2.2.2.2.2.2.2.2.2.1] ∧ tm 0 = (pV o1 0) ∧ tm 1 = (vi a1) ∧ tm 2 = (vi a2) ∧ tm 3 = (vi a3) ∧ tm 9 = w1 ∧ tm 10 = (vi s1.2.2.2.2.2.2.2.2.2.2) ∧ tm 71 = (vi (Pu.W (a3 + 1))) ∧ RdS Sh.api_Rule Z1 w13 s1.2.2.2.1) (fun i5 x11 s1 s3 tm H2 q25 q26 j1 e1 k1 => ?_) (fun tm H1 jd => ?_) q30 ⟨rfl, _, _, _, _, _, _, _, _, Gw.refl _ _, hs, h22, h23, h24, h25, h26, rfl, rfl, hp1⟩
    ·obtain ⟨hti0, Z1, V1, w8, w9, w10, w11, w12, w13, g1, s2, h34, h35, h36, h37, h38, h39, h40, h33⟩ := j1
     unfold P.census_table_way.b0 at e1
     have hti0 := iv hti0 (ran_x q25).symm
     refine c_sr (o_lss hti0 h40 (c_nil (c_sq ?_)))
     refine c_ift rfl (ran_lt q25) ?_
     refine c_sk (c_sq (c_bk (c_sr (o_mv hti0 ?_))))
     refine o_mv (v := (vi x11)) rfl ?_
     refine c_nil (c_sq (c_sr (o_mv h34 (o_mv h38 ?_))))
     refine o_mv h36 ?_
     obtain ⟨x13, q31, e1⟩ := oB e1
     refine o_idx (v := w1) rfl rfl (h2.mono g1.z) rfl q31 fun p12 q32 => ?_
     refine o_lda rfl (h2.mono g1.z) s2.z rfl q32 q31 fun c2 h41 => ?_
     obtain rfl := h41
     refine o_mv (v := (vi x11)) rfl ?_
     obtain ⟨x14, q33, e1⟩ := oB e1
     obtain ⟨d7, rfl⟩ := (h33).val
     obtain ⟨d8, rfl⟩ := ((s2.curS (s := sB) 1 rfl)).val
     obtain ⟨d9, rfl⟩ := ((s2.curS (s := sB) 2 rfl)).val
     obtain ⟨d10, rfl⟩ := ((s2.curS (s := sI1) 3 rfl)).val
     obtain ⟨d11, rfl⟩ := ((s2.curS (s := sB2) 4 rfl)).val
     obtain ⟨d12, rfl⟩ := ((s2.curS (s := sI2) 5 rfl)).val
     obtain ⟨Z2, V2, W1, g2, u1, c3, c4, -, c6, c5⟩ := Sat.call (l1 := []) s2
     refine o_call (mc rfl (mc rfl (mc rfl m0))) (X.census_table_sym nd.census_table_sym (a0 := (Ty.census_table.mk (Ty.api_Grammar.mk s1.1 s1.2.1 s1.2.2.1 s1.2.2.2.1) s1.2.2.2.2.1 s1.2.2.2.2.2.1 s1.2.2.2.2.2.2.1 s1.2.2.2.2.2.2.2.1 s1.2.2.2.2.2.2.2.2.1 s1.2.2.2.2.2.2.2.2.2.1)) c3 (h33.mono (g2.z.trans c3.zv)) (c4 1 _ sB _ _ rfl) (c4 2 _ sB _ _ rfl) (c4 3 _ sI1 _ _ rfl) (c4 4 _ sB2 _ _ rfl) (c4 5 _ sI2 _ _ rfl) (c6 0 _ _ rfl) q33) fun _ H3 i6 => ?_
     obtain ⟨rfl, s4⟩ := i6
     have s5 := c5 _ _ s4
     refine o_not rfl ?_
     refine o_mv (v := (.bool (!x14))) rfl ?_
     obtain ⟨y2, e2, e1⟩ := oB e1
     refine o_jn 18 (I := fun tm H => ∃ (Z3 V3 : PH), Gw Z2 V2 Z3 V3 ∧ Sat Z3 V3 H [pts o1 (.rw 0 [vi s1.1, vi s1.2.1, vi s1.2.2.1, (vS d7 s1.2.2.2.1), vi s1.2.2.2.2.1, (vS d8 s1.2.2.2.2.2.1), (vS d9 s1.2.2.2.2.2.2.1), (vS d10 s1.2.2.2.2.2.2.2.1), (vS d11 s1.2.2.2.2.2.2.2.2.1), (vS d12 s1.2.2.2.2.2.2.2.2.2.1)]), Is sB d8 s1.2.2.2.2.2.1, Is sB d9 s1.2.2.2.2.2.2.1, Is sI1 d10 s1.2.2.2.2.2.2.2.1, Is sB2 d11 s1.2.2.2.2.2.2.2.2.1, Is sI2 d12 s1.2.2.2.2.2.2.2.2.2.1] ∧ tm 0 = (pV o1 0) ∧ tm 1 = (vi a1) ∧ tm 2 = (vi a2) ∧ tm 3 = (vi a3) ∧ tm 9 = w1 ∧ tm 10 = (vi s1.2.2.2.2.2.2.2.2.2.2) ∧ tm 11 = (vi x11) ∧ tm 71 = (vi (Pu.W (a3 + 1))) ∧ tm 72 = (vi x11) ∧ tm 101 = (.bool y2)) (fun k2 => ?_) ?_
     ·rcases Bool.eq_false_or_eq_true (!x14) with q34 | q34
      ·replace e2 := if_t q34 e2
       refine o_gn rfl q34 (o_gn rfl q34 (o_gn rfl q34 (o_gn rfl q34 (o_gn rfl q34 ?_))))
       refine o_gn rfl q34 (o_gn rfl q34 (o_gn rfl q34 (o_gn rfl q34 (o_gn rfl q34 ?_))))
       refine o_gn rfl q34 (o_gn rfl q34 (o_gn rfl q34 (o_gn rfl q34 (o_gn rfl q34 ?_))))
       refine o_gn rfl q34 (o_gn rfl q34 ?_)
       refine o_pickt (a := (.bool true)) rfl q34 rfl ?_
       obtain rfl := oJ e2
       exact k2 _ _ ⟨_, _, Gw.refl _ _, s5, h34, h35, h36, h37, h38, h39, rfl, h40, hti0, rfl⟩
      replace e2 := ib_f q34 e2
      refine o_gy rfl q34 (o_mv h34 (o_gy rfl q34 (o_nck rfl (o_gy rfl q34 ?_))))
      refine o_fad rfl (o_gy rfl q34 (o_ldB 0 s5 rfl rfl rfl rfl (o_gy rfl q34 (o_mv h35 ?_))))
      refine o_gy rfl q34 ?_
      obtain ⟨x15, q35, e2⟩ := oB e2
      refine o_idx (v := (vS d11 s1.2.2.2.2.2.2.2.2.1)) rfl rfl (s5.curS (s := sB2) 4 rfl) rfl q35 fun p13 q36 => ?_
      refine o_gy rfl q34 ?_
      refine o_ldsv rfl (s5.curS (s := sB2) 4 rfl) pR q36 q35 fun w14 h52 h53 => ?_
      refine o_gy rfl q34 (o_mv h36 (o_gy rfl q34 (o_add rfl rfl (o_gy rfl q34 ?_))))
      obtain ⟨x16, q37, e2⟩ := oB e2
      refine o_idx (v := w14) rfl rfl h52 rfl q37 fun p14 q38 => ?_
      refine o_gy rfl q34 ?_
      refine o_ldsv rfl h52 pR q38 q37 fun w15 h54 h55 => ?_
      refine o_gy rfl q34 (o_mv h37 (o_gy rfl q34 ?_))
      refine o_mv (v := (vi x11)) rfl ?_
      refine o_gy rfl q34 (o_sub rfl rfl (o_gy rfl q34 ?_))
      obtain ⟨x17, q39, e2⟩ := oB e2
      refine o_idx (v := w15) rfl rfl h54 rfl q39 fun p15 q40 => ?_
      refine o_gy rfl q34 (o_ldb rfl h54 pR q40 q39 (o_gy rfl q34 (o_not rfl ?_)))
      refine o_pickf (b := (.bool (!x17))) rfl q34 rfl ?_
      obtain rfl := oJ e2
      exact k2 _ _ ⟨_, _, Gw.refl _ _, s5, h34, h35, h36, h37, h38, h39, rfl, h40, hti0, rfl⟩
     intro _ H4 i7
     obtain ⟨Z3, V3, g3, s6, h42, h43, h44, h45, h46, h47, h48, h49, h50, h51⟩ := i7
     refine c_nil ?_
     refine c_if h51 (fun q41 => ?_) (fun q41 => ?_)
     ·replace e1 := if_t q41 e1
      refine c_ex ?_
      refine e_c ?_
      refine e_h ?_
      refine c_r (o_add h50 rfl ?_)
      refine o_mv (v := (vi (Pu.W (x11 + 1)))) rfl ?_
      refine c_nil ?_
      obtain rfl := oJ e1
      exact k1 _ _ ⟨(iv rfl (w_sucR q25 q29)), _, _, _, _, _, _, _, _, (g1.trans (g2.trans g3)), s6, h42, h43, h44, h45, h46, h47, h49, (h33.mono (g2.trans g3).z)⟩
     replace e1 := ib_f q41 e1
     refine c_sk (c_sr ?_)
     refine o_mv (v := (vi 1)) rfl ?_
     refine c_nil (c_sq (c_sr (o_mv h46 (o_mv h44 ?_))))
     obtain ⟨x18, q42, e1⟩ := oB e1
     refine o_idx (v := w1) rfl rfl (h2.mono (g1.trans (g2.trans g3)).z) rfl q42 fun p16 q43 => ?_
     refine o_fadE rfl q43 fun p17 q44 => ?_
     refine o_ldF rfl (h2.mono (g1.trans (g2.trans g3)).z) s6.z rfl q43 q44 q42 rfl fun c7 h56 => ?_
     obtain rfl := h56
     refine ⟨_, rfl, ?_⟩
     refine o_not rfl (c_nil ?_)
     obtain ⟨y3, e3, e1⟩ := oB e1
     refine c_jn (I := fun tm H => ∃ (Z4 V4 : PH) (w16 : Value) (w17 : Value) (w18 : Value) (w19 : Value) (w20 : Value) (w21 : Value), Gw Z3 V3 Z4 V4 ∧ Sat Z4 V4 H [pts o1 (.rw 0 [vi y3.1, vi y3.2.1, vi y3.2.2.1, w21, vi y3.2.2.2.2.1, w16, w17, w18, w19, w20]), It.sl sB w16 y3.2.2.2.2.2.1, It.sl sB w17 y3.2.2.2.2.2.2.1, It.sl sI1 w18 y3.2.2.2.2.2.2.2.1, It.sl sB2 w19 y3.2.2.2.2.2.2.2.2.1, It.sl sI2 w20 y3.2.2.2.2.2.2.2.2.2.1] ∧ tm 0 = (pV o1 0) ∧ tm 1 = (vi a1) ∧ tm 2 = (vi a2) ∧ tm 3 = (vi a3) ∧ tm 9 = w1 ∧ tm 10 = (vi s1.2.2.2.2.2.2.2.2.2.2) ∧ tm 11 = (vi x11) ∧ tm 12 = (vi y3.2.2.2.2.2.2.2.2.2.2) ∧ tm 71 = (vi (Pu.W (a3 + 1))) ∧ tm 72 = (vi x11) ∧ RdS Sh.api_Rule Z4 w21 y3.2.2.2.1) (fun k3 => ?_) ?_
     ·refine c_if rfl (fun q45 => ?_) (fun q45 => ?_)
      ·replace e3 := if_t q45 e3
       refine c_r (o_mv h42 (o_mv h46 (o_mv h44 ?_)))
       obtain ⟨x19, q46, e3⟩ := oB e3
       refine o_idx (v := w1) rfl rfl (h2.mono (g1.trans (g2.trans g3)).z) rfl q46 fun p18 q47 => ?_
       refine o_fadE rfl q47 fun p19 q48 => ?_
       refine o_ldF rfl (h2.mono (g1.trans (g2.trans g3)).z) s6.z rfl q47 q48 q46 rfl fun c8 h68 => ?_
       obtain rfl := h68
       refine ⟨_, rfl, ?_⟩
       refine o_mv h48 ?_
       obtain ⟨x20, q49, e3⟩ := oB e3
       obtain ⟨Z5, V5, W2, g5, u2, c9, c10, -, c12, c11⟩ := Sat.call (l1 := [pts o1 (.rw 0 [vi s1.1, vi s1.2.1, vi s1.2.2.1, (vS d7 s1.2.2.2.1), vi s1.2.2.2.2.1, (vS d8 s1.2.2.2.2.2.1), (vS d9 s1.2.2.2.2.2.2.1), (vS d10 s1.2.2.2.2.2.2.2.1), (vS d11 s1.2.2.2.2.2.2.2.2.1), (vS d12 s1.2.2.2.2.2.2.2.2.2.1)]), Is sB d8 s1.2.2.2.2.2.1, Is sB d9 s1.2.2.2.2.2.2.1, Is sI1 d10 s1.2.2.2.2.2.2.2.1, Is sB2 d11 s1.2.2.2.2.2.2.2.2.1, Is sI2 d12 s1.2.2.2.2.2.2.2.2.2.1]) (l2 := []) s6
       refine o_call (mc rfl (mc rfl (mc rfl m0))) (ih.1 (a0 := (Ty.census_table.mk (Ty.api_Grammar.mk s1.1 s1.2.1 s1.2.2.1 s1.2.2.2.1) s1.2.2.2.2.1 s1.2.2.2.2.2.1 s1.2.2.2.2.2.2.1 s1.2.2.2.2.2.2.2.1 s1.2.2.2.2.2.2.2.2.1 s1.2.2.2.2.2.2.2.2.2.1)) c9 (h33.mono ((g2.trans g3).trans g5).z) q49) fun _ H6 i8 => ?_
       obtain ⟨w22, w23, w24, w25, w26, w27, rfl, s8⟩ := i8
       have s9 := c11 _ _ s8
       obtain ⟨Z6, V6, g6, s10, h69⟩ := (s9.pull 1 rfl).frzR
       refine o_mv (v := (vi x20.2)) rfl ?_
       refine c_nil ?_
       obtain rfl := oJ e3
       exact k3 _ _ ⟨_, _, _, _, _, _, _, _, (g5.trans g6), s10, h42, h43, h44, h45, h46, h47, h48, rfl, h49, h50, h69⟩
      replace e3 := ib_f q45 e3
      refine c_sk ?_
      obtain rfl := oJ e3
      exact k3 _ _ ⟨_, _, _, _, _, _, _, _, Gw.refl _ _, s6, h42, h43, h44, h45, h46, h47, h48, rfl, h49, h50, (h33.mono (g2.trans g3).z)⟩
     intro _ H5 i9
     obtain ⟨Z4, V4, w16, w17, w18, w19, w20, w21, g4, s7, h58, h59, h60, h61, h62, h63, h64, h65, h66, h67, h57⟩ := i9
     refine c_r (o_mv h63 (o_mv h65 (o_mv h58 (o_mv h59 ?_))))
     refine o_mv h60 (o_add rfl rfl (o_mv h61 (o_mv h64 (o_sub rfl rfl ?_))))
     obtain ⟨x21, q50, e1⟩ := oB e1
     obtain ⟨d13, rfl⟩ := (h57).val
     obtain ⟨d14, rfl⟩ := ((s7.curS (s := sB) 1 rfl)).val
     obtain ⟨d15, rfl⟩ := ((s7.curS (s := sB) 2 rfl)).val
     obtain ⟨d16, rfl⟩ := ((s7.curS (s := sI1) 3 rfl)).val
     obtain ⟨d17, rfl⟩ := ((s7.curS (s := sB2) 4 rfl)).val
     obtain ⟨d18, rfl⟩ := ((s7.curS (s := sI2) 5 rfl)).val
     obtain ⟨Z7, V7, W3, g7, u3, c13, c14, -, c16, c15⟩ := Sat.call (l1 := [pts o1 (.rw 0 [vi y3.1, vi y3.2.1, vi y3.2.2.1, (vS d13 y3.2.2.2.1), vi y3.2.2.2.2.1, (vS d14 y3.2.2.2.2.2.1), (vS d15 y3.2.2.2.2.2.2.1), (vS d16 y3.2.2.2.2.2.2.2.1), (vS d17 y3.2.2.2.2.2.2.2.2.1), (vS d18 y3.2.2.2.2.2.2.2.2.2.1)]), Is sB d14 y3.2.2.2.2.2.1, Is sB d15 y3.2.2.2.2.2.2.1, Is sI1 d16 y3.2.2.2.2.2.2.2.1, Is sB2 d17 y3.2.2.2.2.2.2.2.2.1, Is sI2 d18 y3.2.2.2.2.2.2.2.2.2.1]) (l2 := []) s7
     refine o_call (mc rfl (mc rfl (mc rfl (mc rfl m0)))) (ih.2 (a0 := (Ty.census_table.mk (Ty.api_Grammar.mk y3.1 y3.2.1 y3.2.2.1 y3.2.2.2.1) y3.2.2.2.2.1 y3.2.2.2.2.2.1 y3.2.2.2.2.2.2.1 y3.2.2.2.2.2.2.2.1 y3.2.2.2.2.2.2.2.2.1 y3.2.2.2.2.2.2.2.2.2.1)) c13 (h57.mono g7.z) q50) fun _ H7 i10 => ?_
     obtain ⟨w28, w29, w30, w31, w32, w33, rfl, s11⟩ := i10
     have s12 := c15 _ _ s11
     obtain ⟨Z8, V8, g8, s13, h70⟩ := (s12.pull 1 rfl).frzR
     refine o_mul rfl rfl (o_min rfl rfl (o_add rfl rfl (o_min rfl rfl ?_)))
     refine o_mv (v := (vi (Pu.imin 1000000000 (Pu.W (s1.2.2.2.2.2.2.2.2.2.2 + (Pu.imin 1000000000 (Pu.W (y3.2.2.2.2.2.2.2.2.2.2 * x21.2)))))))) rfl ?_
     refine c_nil (c_end (c_r (o_add h67 rfl ?_)))
     refine o_mv (v := (vi (Pu.W (x11 + 1)))) rfl ?_
     refine c_nil ?_
     obtain rfl := oJ e1
     exact k1 _ _ ⟨(iv rfl (w_sucR q25 q29)), _, _, _, _, _, _, _, _, (g1.trans (g2.trans (g3.trans (g4.trans (g7.trans g8))))), s13, h58, h59, h60, h61, h62, rfl, h66, h70⟩
    obtain ⟨hte0, Z9, V9, w34, w35, w36, w37, w38, w39, g9, s14, h72, h73, h74, h75, h76, h77, h78, h71⟩ := jd
    refine c_sr (o_lss hte0 h78 (c_nil (c_sq ?_)))
    refine c_iff rfl (ran_done _) ?_
    refine c_ex ?_
    refine e_c ?_
    refine e_c ?_
    refine e_h ?_
    refine c_sr (o_mv h72 (o_nck rfl (o_fad rfl ?_)))
    obtain ⟨d19, rfl⟩ := (h71).val
    obtain ⟨d20, rfl⟩ := ((s14.curS (s := sB) 1 rfl)).val
    obtain ⟨d21, rfl⟩ := ((s14.curS (s := sB) 2 rfl)).val
    obtain ⟨d22, rfl⟩ := ((s14.curS (s := sI1) 3 rfl)).val
    obtain ⟨d23, rfl⟩ := ((s14.curS (s := sB2) 4 rfl)).val
    obtain ⟨d24, rfl⟩ := ((s14.curS (s := sI2) 5 rfl)).val
    refine o_ldB 0 s14 rfl rfl rfl rfl (o_mv h73 ?_)
    obtain ⟨x22, q51, e⟩ := oB e
    refine o_idx (v := (vS d24 y1.2.2.2.2.2.2.2.2.2.1)) rfl rfl (s14.curS (s := sI2) 5 rfl) rfl q51 fun p20 q52 => ?_
    refine o_ldsv rfl (s14.curS (s := sI2) 5 rfl) pR q52 q51 fun w40 h79 h80 => ?_
    refine o_mv h74 ?_
    obtain ⟨x23, q53, e⟩ := oB e
    refine o_idx (v := w40) rfl rfl h79 rfl q53 fun p21 q54 => ?_
    refine o_ldsv rfl h79 pR q54 q53 fun w41 h81 h82 => ?_
    refine o_mv h75 (o_mv h77 ?_)
    obtain ⟨x24, q55, e⟩ := oB e
    refine o_idx (v := w41) rfl rfl h81 rfl q55 fun p22 q56 => ?_
    refine o_st3 5 s14 rfl Sh.flat_lt rfl rfl rfl q52 q51 h80 q54 q53 h82 q56 q55 rfl rfl fun H9 s15 => ?_
    refine c_nil ?_
    refine c_gen (P := fun tm => tm 10 = (vi y1.2.2.2.2.2.2.2.2.2.2) ∧ True) ⟨h77, trivial⟩ ?_
    intro _ i11
    obtain ⟨h83, -⟩ := i11
    refine c_sr (o_mv h83 ?_)
    refine o_mv (v := (vi y1.2.2.2.2.2.2.2.2.2.2)) rfl ?_
    refine c_nil (c_rt ?_)
    obtain rfl := oJ e
    exact ⟨.inr rfl, _, (ar1 rfl), _, _, _, _, _, _, rfl, (((s15.push (ro_it (sl_ro h71))).pick [1, 0, 2, 3, 4, 5, 6] rfl).weak g9 hs.zv)⟩
theorem X.census_table_count {T : FuncId → Option AFunc} (nd : Nd.census_table_count T) {φ : Nat} {Z V : PH} {H : Hp} {v1 : Value} {v2 : Value} {v3 : Value} {v4 : Value} {v5 : Value} {v6 : Value} {o1 : Nat} {a0 : Ty.census_table} {a1 : Int} {a2 : Int} (hs : Sat Z V H [pts o1 (.rw 0 [vi a0.g.Terms, vi a0.g.Nons, vi a0.g.Start, v1, vi a0.n, v2, v3, v4, v5, v6]), It.sl sB v2 a0.has_, It.sl sB v3 a0.loop_, It.sl sI1 v4 a0.known_, It.sl sB2 v5 a0.ends, It.sl sI2 v6 a0.ways]) (hp1 : RdS Sh.api_Rule Z v1 a0.g.Rules) {r : (Ty.census_table × Int)} (e : P.census_table_count φ a0 a1 a2 = some r) :
 G T I.census_table_count [(pV o1 0), vi a1, vi a2] H (fun rv H' => ∃ (u1 : Value) (u2 : Value) (u3 : Value) (u4 : Value) (u5 : Value) (u6 : Value), rv = (vi r.2) ∧ Sat Z V H' [pts o1 (.rw 0 [vi r.1.g.Terms, vi r.1.g.Nons, vi r.1.g.Start, u1, vi r.1.n, u2, u3, u4, u5, u6]), Sh.it (Sh.ro (Sh.sl Sh.api_Rule)) [u1] r.1.g.Rules, It.sl sB u2 r.1.has_, It.sl sB u3 r.1.loop_, It.sl sI1 u4 r.1.known_, It.sl sB2 u5 r.1.ends, It.sl sI2 u6 r.1.ways]) := (X.census_table_count_rec nd φ).1 hs hp1 e
theorem X.census_table_way {T : FuncId → Option AFunc} (nd : Nd.census_table_way T) {φ : Nat} {Z V : PH} {H : Hp} {v1 : Value} {v2 : Value} {v3 : Value} {v4 : Value} {v5 : Value} {v6 : Value} {o1 : Nat} {a0 : Ty.census_table} {a1 : Int} {a2 : Int} {a3 : Int} (hs : Sat Z V H [pts o1 (.rw 0 [vi a0.g.Terms, vi a0.g.Nons, vi a0.g.Start, v1, vi a0.n, v2, v3, v4, v5, v6]), It.sl sB v2 a0.has_, It.sl sB v3 a0.loop_, It.sl sI1 v4 a0.known_, It.sl sB2 v5 a0.ends, It.sl sI2 v6 a0.ways]) (hp1 : RdS Sh.api_Rule Z v1 a0.g.Rules) {r : (Ty.census_table × Int)} (e : P.census_table_way φ a0 a1 a2 a3 = some r) :
 G T I.census_table_way [(pV o1 0), vi a1, vi a2, vi a3] H (fun rv H' => ∃ (u1 : Value) (u2 : Value) (u3 : Value) (u4 : Value) (u5 : Value) (u6 : Value), rv = (vi r.2) ∧ Sat Z V H' [pts o1 (.rw 0 [vi r.1.g.Terms, vi r.1.g.Nons, vi r.1.g.Start, u1, vi r.1.n, u2, u3, u4, u5, u6]), Sh.it (Sh.ro (Sh.sl Sh.api_Rule)) [u1] r.1.g.Rules, It.sl sB u2 r.1.has_, It.sl sB u3 r.1.loop_, It.sl sI1 u4 r.1.known_, It.sl sB2 u5 r.1.ends, It.sl sI2 u6 r.1.ways]) := (X.census_table_count_rec nd φ).2 hs hp1 e
structure Nd.census_Trees (T : FuncId → Option AFunc) : Prop where
 own : Has T I.census_Trees F.census_Trees
 gram_Check : Nd.gram_Check T
 census_newTable : Nd.census_newTable T
 census_table_find : Nd.census_table_find T
 census_table_loops : Nd.census_table_loops T
 census_table_count : Nd.census_table_count T
set_option maxHeartbeats 1000000 in
theorem X.census_Trees {T : FuncId → Option AFunc} (nd : Nd.census_Trees T) {φ : Nat} {Z V : PH} {H : Hp} {v1 : Value} {a0 : Ty.api_Grammar} {a1 : Int} (hs : Sat Z V H []) (hp1 : RdS Sh.api_Rule Z v1 a0.Rules) {r : ((List (List Int)) × Int)} (e : P.census_Trees φ a0 a1 = some r) :
 G T I.census_Trees [(.agg #[vi a0.Terms, vi a0.Nons, vi a0.Start, v1]), vi a1] H (fun rv H' => ∃ (u1 : Value), rv = (.tuple #[u1, vi r.2]) ∧ Sat Z V H' [It.sl sI1 u1 r.1]) := by
 unfold P.census_Trees at e
 refine f_mk nd.own ?_
 refine c_sr ?_
 obtain ⟨d1, rfl⟩ := (hp1).val
 refine o_box hs rfl rfl fun b1 H1 s1 => ?_
 refine o_mv (v := (.slice none 0 0)) rfl ?_
 refine o_mv (v := (vi 0)) rfl ?_
 refine c_nil (c_sq (c_sr (o_ldB 0 s1 rfl rfl rfl rfl ?_)))
 obtain ⟨x1, q1, e⟩ := oB e
 obtain ⟨Z1, V1, W1, g1, u1, c1, c2, -, c4, c3⟩ := Sat.call (l1 := []) s1
 refine o_call (mc rfl m0) (X.gram_Check nd.gram_Check c1 (hp1.mono (g1.z.trans c1.zv)) q1) fun _ H2 i1 => ?_
 obtain ⟨rfl, s2⟩ := i1
 have s3 := c3 _ _ s2
 refine o_mv (v := (vi x1)) rfl ?_
 refine c_nil (c_sr ?_)
 refine o_mv (v := (vi x1)) rfl ?_
 refine o_neq rfl rfl (c_nil ?_)
 refine c_ifd rfl (fun q2 => ?_) (fun q2 => ?_)
 ·replace e := if_t q2 e
  refine c_sr ?_
  refine o_mv (v := (vi x1)) rfl ?_
  refine o_mv (v := (.slice none 0 0)) rfl ?_
  refine o_mv (v := (vi x1)) rfl ?_
  refine c_nil ?_
  refine c_gen (P := fun tm => tm 4 = (.slice none 0 0) ∧ tm 5 = (vi x1) ∧ True) ⟨rfl, rfl, trivial⟩ ?_
  intro _ i2
  obtain ⟨h1, h2, -⟩ := i2
  refine c_rt ?_
  obtain rfl := oJ e
  exact ⟨.inr rfl, _, (ar2 h1 h2), _, rfl, (((s3.push (sl_nil (s := sI1))).pick [0] rfl).weak g1 hs.zv)⟩
 replace e := if_f q2 e
 refine c_sk (c_sq (c_sr ?_))
 refine o_mv (v := (vi a1)) rfl ?_
 refine o_lss rfl rfl ?_
 refine o_mv (v := (.bool (decide (a1 < 0)))) rfl ?_
 refine o_jn 3 (I := fun tm H => tm 21 = .bool ((decide (a1 < 0)) || (decide (24 < a1))) ∧ (∃ (Z2 V2 : PH), Gw Z1 V1 Z2 V2 ∧ Sat Z2 V2 H [pts b1 (.rw 0 [vi a0.Terms, vi a0.Nons, vi a0.Start, (vS d1 a0.Rules)])] ∧ tm 1 = (vi a1) ∧ tm 2 = (pV b1 0))) (fun k1 => ?_) ?_
 ·rcases Bool.eq_false_or_eq_true (decide (a1 < 0)) with q3 | q3
  ·refine o_gn rfl q3 (o_gn rfl q3 ?_)
   refine o_pickt (a := (.bool true)) rfl q3 rfl ?_
   exact k1 _ _ ⟨gf rfl (by first | (rw [q3]; first | done | rfl) | simp [q3]), _, _, Gw.refl _ _, s3, rfl, rfl⟩
  refine o_gy rfl q3 ?_
  refine o_mv (v := (vi a1)) rfl ?_
  refine o_gy rfl q3 (o_gtr rfl rfl ?_)
  refine o_pickf (b := (.bool (decide (24 < a1)))) rfl q3 rfl ?_
  exact k1 _ _ ⟨gf rfl (by first | (rw [q3]; first | done | rfl) | simp [q3]), _, _, Gw.refl _ _, s3, rfl, rfl⟩
 intro _ H3 i3
 obtain ⟨h5, Z2, V2, g2, s4, h3, h4⟩ := i3
 refine c_nil ?_
 refine c_if h5 (fun q4 => ?_) (fun q4 => ?_)
 ·replace e := if_t q4 e
  refine c_sr ?_
  refine o_mv (v := (.slice none 0 0)) rfl ?_
  refine o_mv (v := (vi 1)) rfl ?_
  refine c_nil (c_rt ?_)
  obtain rfl := oJ e
  exact ⟨.inr rfl, _, (ar2 rfl rfl), _, rfl, (((s4.push (sl_nil (s := sI1))).pick [0] rfl).weak (g1.trans g2) hs.zv)⟩
 replace e := ib_f q4 e
 refine c_sk (c_sr (o_ldB 0 s4 rfl h4 rfl rfl (o_mv h3 ?_)))
 obtain ⟨x2, q5, e⟩ := oB e
 obtain ⟨Z3, V3, W2, g3, u2, c5, c6, -, c8, c7⟩ := Sat.call (l1 := []) s4
 refine o_call (mc rfl (mc rfl m0)) (X.census_newTable nd.census_newTable c5 (hp1.mono ((g1.trans g2).trans g3).z) q5) fun _ H4 i4 => ?_
 obtain ⟨b2, w1, w2, w3, w4, w5, w6, rfl, s5⟩ := i4
 have s6 := c7 _ _ s5
 obtain ⟨Z4, V4, g4, s7, h6⟩ := (s6.pull 1 rfl).frzR
 refine o_mv (v := (pV b2 0)) rfl ?_
 refine c_nil (c_sr ?_)
 refine o_mv (v := (pV b2 0)) rfl ?_
 obtain ⟨x3, q6, e⟩ := oB e
 obtain ⟨d2, rfl⟩ := (h6).val
 obtain ⟨d3, rfl⟩ := ((s7.curS (s := sB) 1 rfl)).val
 obtain ⟨d4, rfl⟩ := ((s7.curS (s := sB) 2 rfl)).val
 obtain ⟨d5, rfl⟩ := ((s7.curS (s := sI1) 3 rfl)).val
 obtain ⟨d6, rfl⟩ := ((s7.curS (s := sB2) 4 rfl)).val
 obtain ⟨d7, rfl⟩ := ((s7.curS (s := sI2) 5 rfl)).val
 obtain ⟨Z5, V5, W3, g5, u3, c9, c10, -, c12, c11⟩ := Sat.call (l1 := [pts b2 (.rw 0 [vi x2.g.Terms, vi x2.g.Nons, vi x2.g.Start, (vS d2 x2.g.Rules), vi x2.n, (vS d3 x2.has_), (vS d4 x2.loop_), (vS d5 x2.known_), (vS d6 x2.ends), (vS d7 x2.ways)]), Is sB d3 x2.has_, Is sB d4 x2.loop_, Is sI1 d5 x2.known_, Is sB2 d6 x2.ends, Is sI2 d7 x2.ways]) (l2 := [pts b1 (.rw 0 [vi a0.Terms, vi a0.Nons, vi a0.Start, (vS d1 a0.Rules)])]) s7
 refine o_call (mc rfl m0) (X.census_table_find nd.census_table_find (a0 := x2) c9 (h6.mono g5.z) q6) fun _ H5 i5 => ?_
 obtain ⟨w7, w8, w9, w10, w11, w12, rfl, s8⟩ := i5
 have s9 := c11 _ _ s8
 obtain ⟨Z6, V6, g6, s10, h7⟩ := (s9.pull 1 rfl).frzR
 refine c_nil (c_sr ?_)
 refine o_mv (v := (pV b2 0)) rfl ?_
 obtain ⟨x4, q7, e⟩ := oB e
 obtain ⟨d8, rfl⟩ := (h7).val
 obtain ⟨d9, rfl⟩ := ((s10.curS (s := sB) 1 rfl)).val
 obtain ⟨d10, rfl⟩ := ((s10.curS (s := sB) 2 rfl)).val
 obtain ⟨d11, rfl⟩ := ((s10.curS (s := sI1) 3 rfl)).val
 obtain ⟨d12, rfl⟩ := ((s10.curS (s := sB2) 4 rfl)).val
 obtain ⟨d13, rfl⟩ := ((s10.curS (s := sI2) 5 rfl)).val
 obtain ⟨Z7, V7, W4, g7, u4, c13, c14, -, c16, c15⟩ := Sat.call (l1 := [pts b2 (.rw 0 [vi x3.g.Terms, vi x3.g.Nons, vi x3.g.Start, (vS d8 x3.g.Rules), vi x3.n, (vS d9 x3.has_), (vS d10 x3.loop_), (vS d11 x3.known_), (vS d12 x3.ends), (vS d13 x3.ways)]), Is sB d9 x3.has_, Is sB d10 x3.loop_, Is sI1 d11 x3.known_, Is sB2 d12 x3.ends, Is sI2 d13 x3.ways]) (l2 := [pts b1 (.rw 0 [vi a0.Terms, vi a0.Nons, vi a0.Start, (vS d1 a0.Rules)])]) s10
 refine o_call (mc rfl m0) (X.census_table_loops nd.census_table_loops (a0 := x3) c13 (h7.mono g7.z) q7) fun _ H6 i6 => ?_
 obtain ⟨w13, w14, w15, w16, w17, w18, rfl, s11⟩ := i6
 have s12 := c15 _ _ s11
 obtain ⟨Z8, V8, g8, s13, h8⟩ := (s12.pull 1 rfl).frzR
 refine c_nil (c_sr (o_fad h4 (o_ldB 6 s13 rfl rfl rfl rfl ?_)))
 obtain ⟨x5, q8, e⟩ := oB e
 refine o_mksH (s := Sh.int) s13 rfl rfl q8 fun w19 H7 s14 => ?_
 refine o_mv (v := w19) rfl ?_
 refine c_nil ?_
 refine c_gen (P := fun tm => tm 1 = (vi a1) ∧ tm 7 = (pV b2 0) ∧ tm 8 = w19 ∧ True) ⟨h3, rfl, rfl, trivial⟩ ?_
 intro _ i7
 obtain ⟨h9, h10, h11, -⟩ := i7
 refine c_sq (c_sr (o_mv h11 ?_))
 refine o_len rfl ((s14.curS (s := sI1) 0 rfl)).len ?_
 refine o_mv (v := (vi 0)) rfl ?_
 refine c_nil ?_
 obtain ⟨x7, q11, e⟩ := oB e
 obtain ⟨rfl, q13⟩ := ranO_some q11
 obtain ⟨y1, q14, e⟩ := oB e
 refine c_bk ?_
 refine l_forP (xs := (Pu.ran (x5.length : Int))) (fun (i8 : Nat) (s15 : (Int × Int × Int × (List Ty.api_Rule) × Int × (List (List Bool)) × (List (List Bool)) × (List (List Int)) × (List (List (List Bool))) × (List (List (List Int))) × (List (List Int)))) tm H => tm 34 = vi i8 ∧ ∃ (Z9 V9 : PH) (w20 : Value) (w21 : Value) (w22 : Value) (w23 : Value) (w24 : Value) (w25 : Value), Gw Z8 V8 Z9 V9 ∧ Sat Z9 V9 H [pts b2 (.rw 0 [vi s15.1, vi s15.2.1, vi s15.2.2.1, w25, vi s15.2.2.2.2.1, w20, w21, w22, w23, w24]), It.sl sB w20 s15.2.2.2.2.2.1, It.sl sB w21 s15.2.2.2.2.2.2.1, It.sl sI1 w22 s15.2.2.2.2.2.2.2.1, It.sl sB2 w23 s15.2.2.2.2.2.2.2.2.1, It.sl sI2 w24 s15.2.2.2.2.2.2.2.2.2.1, It.sl sI1 w19 s15.2.2.2.2.2.2.2.2.2.2] ∧ tm 1 = (vi a1) ∧ tm 7 = (pV b2 0) ∧ tm 8 = w19 ∧ tm 33 = (vN x5) ∧ RdS Sh.api_Rule Z9 w25 s15.2.2.2.1) (fun i8 x6 s15 s17 tm H9 q9 q10 j1 e1 k2 => ?_) (fun tm H8 jd => ?_) q14 ⟨rfl, _, _, _, _, _, _, _, _, Gw.refl _ _, (s14.pick [1, 2, 3, 4, 5, 6, 0] rfl), h9, h10, h11, rfl, h8⟩
 ·obtain ⟨hti0, Z9, V9, w20, w21, w22, w23, w24, w25, g9, s16, h13, h14, h15, h16, h12⟩ := j1
  unfold P.census_Trees.b0 at e1
  have hti0 := iv hti0 (ran_x q9).symm
  refine c_sr (o_lss hti0 h16 (c_nil (c_sq ?_)))
  refine c_ift rfl (ran_lt q9) ?_
  refine c_sk (c_sq (c_bk (c_sr (o_mv hti0 ?_))))
  refine o_mv (v := (vi x6)) rfl ?_
  refine c_nil (c_sr (o_mv h13 (o_add rfl rfl ?_)))
  refine o_mv (v := (vi 0)) rfl ?_
  refine c_nil ?_
  obtain ⟨x9, q17, e1⟩ := oB e1
  obtain ⟨rfl, q19⟩ := ranO_some q17
  obtain ⟨y2, q20, e1⟩ := oB e1
  refine c_bk ?_
  refine l_forP (xs := (Pu.ran (Pu.W (a1 + 1)))) (fun (i9 : Nat) (s18 : (Int × Int × Int × (List Ty.api_Rule) × Int × (List (List Bool)) × (List (List Bool)) × (List (List Int)) × (List (List (List Bool))) × (List (List (List Int))) × (List (List Int)))) tm H => tm 39 = vi i9 ∧ ∃ (Z10 V10 : PH) (w26 : Value) (w27 : Value) (w28 : Value) (w29 : Value) (w30 : Value) (w31 : Value), Gw Z9 V9 Z10 V10 ∧ Sat Z10 V10 H [pts b2 (.rw 0 [vi s18.1, vi s18.2.1, vi s18.2.2.1, w31, vi s18.2.2.2.2.1, w26, w27, w28, w29, w30]), It.sl sB w26 s18.2.2.2.2.2.1, It.sl sB w27 s18.2.2.2.2.2.2.1, It.sl sI1 w28 s18.2.2.2.2.2.2.2.1, It.sl sB2 w29 s18.2.2.2.2.2.2.2.2.1, It.sl sI2 w30 s18.2.2.2.2.2.2.2.2.2.1, It.sl sI1 w19 s18.2.2.2.2.2.2.2.2.2.2] ∧ tm 1 = (vi a1) ∧ tm 7 = (pV b2 0) ∧ tm 8 = w19 ∧ tm 9 = (vi x6) ∧ tm 33 = (vN x5) ∧ tm 34 = (vi x6) ∧ tm 38 = (vi (Pu.W (a1 + 1))) ∧ RdS Sh.api_Rule Z10 w31 s18.2.2.2.1) (fun i9 x8 s18 s20 tm H11 q15 q16 j2 e2 k3 => ?_) (fun tm H10 jd => ?_) q20 ⟨rfl, _, _, _, _, _, _, _, _, Gw.refl _ _, s16, h13, h14, h15, rfl, h16, hti0, rfl, h12⟩
  ·obtain ⟨hti1, Z10, V10, w26, w27, w28, w29, w30, w31, g10, s19, h18, h19, h20, h21, h22, h23, h24, h17⟩ := j2
   unfold P.census_Trees.b1 at e2
   have hti1 := iv hti1 (ran_x q15).symm
   refine c_sr (o_lss hti1 h24 (c_nil (c_sq ?_)))
   refine c_ift rfl (ran_lt q15) ?_
   refine c_sk (c_sq (c_bk (c_sr (o_mv hti1 ?_))))
   refine o_mv (v := (vi x8)) rfl ?_
   refine c_nil ?_
   refine d_start s19 fun n1 H12 s21 q21 d14 => ?_
   refine d_mv h20 ?_
   refine d_mv h21 ?_
   refine d_mv h20 ?_
   refine d_mv h21 ?_
   obtain ⟨x10, q22, e2⟩ := oB e2
   refine d_idx (v := w19) rfl rfl (s21.curS (s := sI1) 6 rfl) rfl q22 fun p1 q23 => ?_
   refine d_foc ((s21.curS 6 rfl).low pR q21) 6 s21 rfl rfl q23 q22 fun w32 s22 => ?_
   refine d_mv h19 ?_
   refine d_mv h21 ?_
   refine d_mv (v := (vi x8)) rfl ?_
   obtain ⟨x11, q24, e2⟩ := oB e2
   obtain ⟨d15, rfl⟩ := (h17).val
   obtain ⟨d16, rfl⟩ := ((s22.curS (s := sB) 2 rfl)).val
   obtain ⟨d17, rfl⟩ := ((s22.curS (s := sB) 3 rfl)).val
   obtain ⟨d18, rfl⟩ := ((s22.curS (s := sI1) 4 rfl)).val
   obtain ⟨d19, rfl⟩ := ((s22.curS (s := sB2) 5 rfl)).val
   obtain ⟨d20, rfl⟩ := ((s22.curS (s := sI2) 6 rfl)).val
   obtain ⟨Z11, V11, W5, g11, u5, c17, c18, -, c20, c19⟩ := Sat.call (l1 := [pts b2 (.rw 0 [vi s18.1, vi s18.2.1, vi s18.2.2.1, (vS d15 s18.2.2.2.1), vi s18.2.2.2.2.1, (vS d16 s18.2.2.2.2.2.1), (vS d17 s18.2.2.2.2.2.2.1), (vS d18 s18.2.2.2.2.2.2.2.1), (vS d19 s18.2.2.2.2.2.2.2.2.1), (vS d20 s18.2.2.2.2.2.2.2.2.2.1)]), Is sB d16 s18.2.2.2.2.2.1, Is sB d17 s18.2.2.2.2.2.2.1, Is sI1 d18 s18.2.2.2.2.2.2.2.1, Is sB2 d19 s18.2.2.2.2.2.2.2.2.1, Is sI2 d20 s18.2.2.2.2.2.2.2.2.2.1]) (l2 := [It.sl Sh.int w32 x10, It.hole sI1 w19 s18.2.2.2.2.2.2.2.2.2.2 (Int.toNat x6) [w32]]) (s22.pick [1, 2, 3, 4, 5, 6, 0, 7] rfl)
   refine d_call (mc rfl (mc rfl (mc rfl m0))) (X.census_table_count nd.census_table_count (a0 := (Ty.census_table.mk (Ty.api_Grammar.mk s18.1 s18.2.1 s18.2.2.1 s18.2.2.2.1) s18.2.2.2.2.1 s18.2.2.2.2.2.1 s18.2.2.2.2.2.2.1 s18.2.2.2.2.2.2.2.1 s18.2.2.2.2.2.2.2.2.1 s18.2.2.2.2.2.2.2.2.2.1)) c17 (h17.mono g11.z) q24) fun _ H13 i10 k4 => ?_
   have d21 := d14.keep k4
   obtain ⟨w33, w34, w35, w36, w37, w38, rfl, s23⟩ := i10
   have s24 := c19 _ _ s23
   obtain ⟨Z12, V12, g12, s25, h25⟩ := (s24.pull 1 rfl).frzR
   refine d_bsl (s := Sh.int) (us := [vi x11.2]) (qs := [(0, 1, (vi x11.2))]) (xs := [x11.2]) (d21.get 10 rfl rfl) s25 Sh.flat_lt rfl rfl rfl (Els.cons (c := [vi x11.2]) rfl Els.nil) rfl rfl fun w39 H14 s26 k5 => ?_
   have d22 := d21.next 10 rfl k5
   obtain ⟨x12, q25, e2⟩ := oB e2
   refine d_app 7 s26 rfl Sh.flat_lt rfl rfl rfl rfl (s26.curS (s := Sh.int) 0 rfl) pR (fun h => h) (by decide) q25 fun w40 H15 s27 k6 => ?_
   have d23 := d22.keep k6
   obtain ⟨x13, q27, e2⟩ := oB e2
   refine d_idxh 8 s27 rfl rfl rfl rfl q27 fun p2 q26 => ?_
   refine d_hst 8 s27 rfl rfl rfl q26 q27 (s27.curS (s := Sh.int) 7 rfl).one fun H16 s28 k7 => ?_
   have d24 := d23.keep k7
   have s29 := Sat.unfoc 7 rfl (s28.pull 7 rfl)
   refine d_nil (dc_mk rfl (ta8 (tra (tre (tl4 (trl tr0))))) (ta4 (tra (tre (tl8 (trl tr0))))) (ta4 (tre (tl8 (tl2 tr0)))) (ag_ldx (w := w32) w_0 rfl (hole_ld 7 s22 rfl q22 q23) (hole_ld 7 s22 rfl q22 q23) (vs_rd (s22.curS (s := Sh.int) 0 rfl))) (ag_ldx (w := w32) w_0 rfl (hole_ld 7 s22 rfl q22 q23) (hole_ld 7 s25 rfl q22 q23) (vs_rd (s22.curS (s := Sh.int) 0 rfl))) dc_nil) ?_
   refine c_end (c_r (o_add hti1 rfl ?_))
   refine o_mv (v := (vi (Pu.W (x8 + 1)))) rfl ?_
   refine c_nil ?_
   obtain rfl := oJ e2
   exact k3 _ _ ⟨(iv rfl (w_sucR q15 q19)), _, _, _, _, _, _, _, _, (g10.trans (g11.trans g12)), (s29.pick [1, 2, 3, 4, 5, 6, 7] rfl), h18, h19, h20, h21, h22, h23, h24, h25⟩
  obtain ⟨hte1, Z13, V13, w41, w42, w43, w44, w45, w46, g13, s30, h27, h28, h29, h30, h31, h32, h33, h26⟩ := jd
  refine c_sr (o_lss hte1 h33 (c_nil (c_sq ?_)))
  refine c_iff rfl (ran_done _) ?_
  refine c_ex ?_
  refine e_c ?_
  refine e_c ?_
  refine e_h ?_
  refine c_end (c_r (o_add h32 rfl ?_))
  refine o_mv (v := (vi (Pu.W (x6 + 1)))) rfl ?_
  refine c_nil ?_
  obtain rfl := oJ e1
  exact k2 _ _ ⟨(iv rfl (w_sucR q9 q13)), _, _, _, _, _, _, _, _, (g9.trans g13), s30, h27, h28, h29, h31, h26⟩
 obtain ⟨hte0, Z14, V14, w47, w48, w49, w50, w51, w52, g14, s31, h35, h36, h37, h38, h34⟩ := jd
 refine c_sr (o_lss hte0 h38 (c_nil (c_sq ?_)))
 refine c_iff rfl (ran_done _) ?_
 refine c_ex ?_
 refine e_c ?_
 refine e_c ?_
 refine e_h ?_
 refine c_sr (o_mv h37 ?_)
 refine o_mv (v := w19) rfl ?_
 refine o_mv (v := (vi 0)) rfl ?_
 refine c_nil (c_rt ?_)
 obtain rfl := oJ e
 exact ⟨.inr rfl, _, (ar2 rfl rfl), _, rfl, ((s31.pick [6] rfl).weak (g1.trans (g2.trans (g3.trans (g4.trans (g5.trans (g6.trans (g7.trans (g8.trans g14)))))))) hs.zv)⟩
structure Nd.rank_open (T : FuncId → Option AFunc) : Prop where
 own : Has T I.rank_open F.rank_open
 census_Trees : Nd.census_Trees T
set_option maxHeartbeats 1000000 in
theorem X.rank_open {T : FuncId → Option AFunc} (nd : Nd.rank_open T) {φ : Nat} {Z V : PH} {H : Hp} {v1 : Value} {a0 : Ty.api_Grammar} {a1 : Int} (hs : Sat Z V H []) (hp1 : RdS Sh.api_Rule Z v1 a0.Rules) {r : ((Option Ty.rank_book) × Int × Int)} (e : P.rank_open φ a0 a1 = some r) :
 G T I.rank_open [(.agg #[vi a0.Terms, vi a0.Nons, vi a0.Start, v1]), vi a1] H (fun rv H' => ∃ (o101 : Nat) (u2 : Value) (u3 : Value) (o104 : Nat), rv = (.tuple #[(ov r.1 o101), vi r.2.1, vi r.2.2]) ∧ Sat Z V H' (oi r.1 (fun y => [pts o101 (.rw 0 [vi y.g.Terms, vi y.g.Nons, vi y.g.Start, u2, u3, (.map (some o104))]), Sh.it (Sh.ro (Sh.sl Sh.api_Rule)) [u2] y.g.Rules, It.sl sI1 u3 y.n, It.mp kE3 vi o104 y.many_]))) := by
 unfold P.rank_open at e
 refine f_mk nd.own ?_
 refine c_sr ?_
 obtain ⟨d1, rfl⟩ := (hp1).val
 refine o_box hs rfl rfl fun b1 H1 s1 => ?_
 refine o_mv (v := (.pointer none)) rfl ?_
 refine o_mv (v := (vi 0)) rfl ?_
 refine o_mv (v := (vi 0)) rfl ?_
 refine c_nil (c_sr (o_ldB 0 s1 rfl rfl rfl rfl ?_))
 refine o_mv (v := (vi a1)) rfl ?_
 obtain ⟨x1, q1, e⟩ := oB e
 obtain ⟨Z1, V1, W1, g1, u1, c1, c2, -, c4, c3⟩ := Sat.call (l1 := []) s1
 refine o_call (mc rfl (mc rfl m0)) (X.census_Trees nd.census_Trees c1 (hp1.mono g1.z) q1) fun _ H2 i1 => ?_
 obtain ⟨w1, rfl, s2⟩ := i1
 have s3 := c3 _ _ s2
 refine o_mv (v := (.tuple #[w1, vi x1.2])) rfl ?_
 refine o_ext rfl rfl (o_ext rfl rfl ?_)
 refine o_mv (v := w1) rfl ?_
 refine o_mv (v := (vi x1.2)) rfl ?_
 refine c_nil ?_
 refine c_gen (P := fun tm => tm 1 = (vi a1) ∧ tm 2 = (pV b1 0) ∧ tm 7 = w1 ∧ tm 8 = (vi x1.2) ∧ True) ⟨rfl, rfl, rfl, rfl, trivial⟩ ?_
 intro _ i2
 obtain ⟨h1, h2, h3, h4, -⟩ := i2
 refine c_sq (c_sr (o_mv h4 (o_neq rfl rfl (c_nil ?_))))
 refine c_ifd rfl (fun q2 => ?_) (fun q2 => ?_)
 ·replace e := if_t q2 e
  refine c_sr (o_mv h4 ?_)
  refine o_mv (v := (.pointer none)) rfl ?_
  refine o_mv (v := (vi 0)) rfl ?_
  refine o_mv (v := (vi x1.2)) rfl ?_
  refine c_nil (c_rt ?_)
  obtain rfl := oJ e
  exact ⟨.inr rfl, _, (ar3 rfl rfl rfl), 0, undef, undef, 0, rfl, ((s3.pick [] rfl).weak g1 hs.zv)⟩
 replace e := if_f q2 e
 refine c_sk (c_sr (o_mv h3 (o_fad h2 (o_ldB 1 s3 rfl rfl rfl rfl ?_))))
 obtain ⟨x2, q3, e⟩ := oB e
 refine o_idx (v := w1) rfl rfl (s3.curS (s := sI1) 0 rfl) rfl q3 fun p1 q4 => ?_
 refine o_ldsv rfl (s3.curS (s := sI1) 0 rfl) pR q4 q3 fun w2 h5 h6 => ?_
 refine o_mv h1 ?_
 obtain ⟨x3, q5, e⟩ := oB e
 refine o_idx (v := w2) rfl rfl h5 rfl q5 fun p2 q6 => ?_
 refine o_ldi rfl h5 pR q6 q5 ?_
 refine o_mv (v := (vi x3)) rfl ?_
 refine c_nil ?_
 refine c_gen (P := fun tm => tm 2 = (pV b1 0) ∧ tm 7 = w1 ∧ tm 9 = (vi x3) ∧ True) ⟨h2, h3, rfl, trivial⟩ ?_
 intro _ i3
 obtain ⟨h7, h8, h9, -⟩ := i3
 refine c_sr (o_mv h9 (c_nil (c_bk (c_sr ?_))))
 refine o_eql rfl rfl ?_
 refine o_mv (v := (.bool (decide (x3 = (-1))))) rfl ?_
 refine c_nil ?_
 refine c_ifd rfl (fun q7 => ?_) (fun q7 => ?_)
 ·replace e := if_t q7 e
  refine c_sr ?_
  refine o_mv (v := (.pointer none)) rfl ?_
  refine o_mv (v := (vi 0)) rfl ?_
  refine o_mv (v := (vi 9)) rfl ?_
  refine c_nil (c_rt ?_)
  obtain rfl := oJ e
  exact ⟨.inr rfl, _, (ar3 rfl rfl rfl), 0, undef, undef, 0, rfl, ((s3.pick [] rfl).weak g1 hs.zv)⟩
 replace e := if_f q7 e
 refine c_sr (o_eql rfl rfl ?_)
 refine o_mv (v := (.bool (decide (x3 = 1000000000)))) rfl ?_
 refine c_nil ?_
 refine c_ifd rfl (fun q8 => ?_) (fun q8 => ?_)
 ·replace e := if_t q8 e
  refine c_sr ?_
  refine o_mv (v := (.pointer none)) rfl ?_
  refine o_mv (v := (vi 0)) rfl ?_
  refine o_mv (v := (vi 2)) rfl ?_
  refine c_nil (c_rt ?_)
  obtain rfl := oJ e
  exact ⟨.inr rfl, _, (ar3 rfl rfl rfl), 0, undef, undef, 0, rfl, ((s3.pick [] rfl).weak g1 hs.zv)⟩
 replace e := if_f q8 e
 refine c_sr (o_ldB 1 s3 rfl h7 rfl rfl (o_mv h8 ?_))
 refine o_mkmap (kE3 : (Int × Int × Int) → Value) (vi : Int → Value) s3 fun b2 H3 s4 => ?_
 obtain ⟨d2, rfl⟩ := ((s4.curS (s := sI1) 1 rfl)).val
 refine o_bld (qs := [(0, 4, (.agg #[vi a0.Terms, vi a0.Nons, vi a0.Start, (vS d1 a0.Rules)])), (4, 1, (vS d2 x1.1)), (5, 1, (.map (some b2)))]) rfl rfl ?_
 refine o_box s4 rfl rfl fun b3 H4 s5 => ?_
 refine o_mv h9 ?_
 refine o_mv (v := (pV b3 0)) rfl ?_
 refine o_mv (v := (vi x3)) rfl ?_
 refine o_mv (v := (vi 0)) rfl ?_
 refine c_nil ?_
 refine c_gen (P := fun tm => tm 4 = (pV b3 0) ∧ tm 5 = (vi x3) ∧ tm 6 = (vi 0) ∧ True) ⟨rfl, rfl, rfl, trivial⟩ ?_
 intro _ i4
 obtain ⟨h10, h11, h12, -⟩ := i4
 refine c_rt ?_
 obtain rfl := oJ e
 exact ⟨.inr rfl, _, (ar3 h10 h11 h12), _, _, _, _, rfl, (((s5.push (ro_it (sl_ro (hp1.mono g1.z)))).pick [1, 0, 3, 2] rfl).weak g1 hs.zv)⟩
structure Nd.rank_Count (T : FuncId → Option AFunc) : Prop where
 own : Has T I.rank_Count F.rank_Count
 rank_open : Nd.rank_open T
set_option maxHeartbeats 1000000 in
theorem X.rank_Count {T : FuncId → Option AFunc} (nd : Nd.rank_Count T) {φ : Nat} {Z V : PH} {H : Hp} {v1 : Value} {a0 : Ty.api_Grammar} {a1 : Int} (hs : Sat Z V H []) (hp1 : RdS Sh.api_Rule Z v1 a0.Rules) {r : (Int × Int)} (e : P.rank_Count φ a0 a1 = some r) :
 G T I.rank_Count [(.agg #[vi a0.Terms, vi a0.Nons, vi a0.Start, v1]), vi a1] H (fun rv H' => rv = (.tuple #[vi r.1, vi r.2]) ∧ Sat Z V H' []) := by
 unfold P.rank_Count at e
 refine f_mk nd.own ?_
 refine c_sr ?_
 obtain ⟨d1, rfl⟩ := (hp1).val
 refine o_box hs rfl rfl fun b1 H1 s1 => ?_
 refine o_mv (v := (vi 0)) rfl ?_
 refine o_mv (v := (vi 0)) rfl ?_
 refine c_nil (c_sr (o_ldB 0 s1 rfl rfl rfl rfl ?_))
 refine o_mv (v := (vi a1)) rfl ?_
 obtain ⟨x1, q1, e⟩ := oB e
 rcases x1 with ⟨_ | y1, x2⟩
 ·rw [Pu.oc2_none] at e
  obtain ⟨Z1, V1, W1, g1, u1, c1, c2, -, c4, c3⟩ := Sat.call (l1 := []) s1
  refine o_call (mc rfl (mc rfl m0)) (X.rank_open nd.rank_open c1 (hp1.mono g1.z) q1) fun _ H2 i1 => ?_
  dsimp only [ov, oi, List.nil_append, List.append_nil, List.cons_append] at i1
  obtain ⟨b2, u2, u3, u4, rfl, s2⟩ := i1
  have s3 := c3 _ _ s2
  refine o_mv (v := (.tuple #[(.pointer none), vi x2.1, vi x2.2])) rfl ?_
  refine o_ext rfl rfl (o_ext rfl rfl (o_ext rfl rfl ?_))
  refine o_mv (v := (.pointer none)) rfl ?_
  refine o_mv (v := (vi x2.1)) rfl ?_
  refine o_mv (v := (vi x2.2)) rfl ?_
  refine c_nil ?_
  refine c_gen (P := fun tm => tm 7 = (vi x2.1) ∧ tm 8 = (vi x2.2) ∧ True) ⟨rfl, rfl, trivial⟩ ?_
  intro _ i2
  obtain ⟨h1, h2, -⟩ := i2
  refine c_sr (o_mv h1 (o_mv h2 ?_))
  refine o_mv (v := (vi x2.1)) rfl ?_
  refine o_mv (v := (vi x2.2)) rfl ?_
  refine c_nil (c_rt ?_)
  obtain rfl := oJ e
  exact ⟨.inr rfl, _, (ar2 rfl rfl), rfl, ((s3.pick [] rfl).weak g1 hs.zv)⟩
 rw [Pu.oc2_some] at e
 obtain ⟨Z2, V2, W2, g2, u5, c5, c6, -, c8, c7⟩ := Sat.call (l1 := []) s1
 refine o_call (mc rfl (mc rfl m0)) (X.rank_open nd.rank_open c5 (hp1.mono g2.z) q1) fun _ H3 i3 => ?_
 dsimp only [ov, oi, List.nil_append, List.append_nil, List.cons_append] at i3
 obtain ⟨b3, w1, w2, b4, rfl, s4⟩ := i3
 have s5 := c7 _ _ s4
 obtain ⟨Z3, V3, g3, s6, h3⟩ := (s5.pull 1 rfl).frzR
 refine o_mv (v := (.tuple #[(pV b3 0), vi x2.1, vi x2.2])) rfl ?_
 refine o_ext rfl rfl (o_ext rfl rfl (o_ext rfl rfl ?_))
 refine o_mv (v := (pV b3 0)) rfl ?_
 refine o_mv (v := (vi x2.1)) rfl ?_
 refine o_mv (v := (vi x2.2)) rfl ?_
 refine c_nil ?_
 refine c_gen (P := fun tm => tm 7 = (vi x2.1) ∧ tm 8 = (vi x2.2) ∧ True) ⟨rfl, rfl, trivial⟩ ?_
 intro _ i4
 obtain ⟨h4, h5, -⟩ := i4
 refine c_sr (o_mv h4 (o_mv h5 ?_))
 refine o_mv (v := (vi x2.1)) rfl ?_
 refine o_mv (v := (vi x2.2)) rfl ?_
 refine c_nil (c_rt ?_)
 obtain rfl := oJ e
 exact ⟨.inr rfl, _, (ar2 rfl rfl), rfl, ((s6.pick [] rfl).weak (g2.trans g3) hs.zv)⟩
structure Nd.rank_book_sym (T : FuncId → Option AFunc) : Prop where
 own : Has T I.rank_book_sym F.rank_book_sym
set_option maxHeartbeats 1000000 in
theorem X.rank_book_sym {T : FuncId → Option AFunc} (nd : Nd.rank_book_sym T) {Z V : PH} {H : Hp} {v1 : Value} {v2 : Value} {m3 : Nat} {o1 : Nat} {a0 : Ty.rank_book} {a1 : Ty.api_Sym} {a2 : Int} (hs : Sat Z V H [pts o1 (.rw 0 [vi a0.g.Terms, vi a0.g.Nons, vi a0.g.Start, v1, v2, (.map (some m3))]), It.mp kE3 vi m3 a0.many_]) (hp1 : RdS Sh.api_Rule V v1 a0.g.Rules) (hp2 : RdS sI1 V v2 a0.n) {r : Int} (e : P.rank_book_sym a0 a1 a2 = some r) :
 G T I.rank_book_sym [(pV o1 0), (.agg #[(.bool a1.Term), vi a1.N]), vi a2] H (fun rv H' => rv = (vi r) ∧ Sat Z V H' [pts o1 (.rw 0 [vi a0.g.Terms, vi a0.g.Nons, vi a0.g.Start, v1, v2, (.map (some m3))]), It.mp kE3 vi m3 a0.many_]) := by
 unfold P.rank_book_sym at e
 refine f_mk nd.own ?_
 refine c_sr ?_
 refine o_box hs rfl rfl fun b1 H1 s1 => ?_
 refine o_mv (v := (vi 0)) rfl ?_
 refine c_nil (c_sq (c_sr (o_fad rfl (o_ldB 0 s1 rfl rfl rfl rfl ?_))))
 refine o_not rfl (c_nil ?_)
 refine c_if rfl (fun q1 => ?_) (fun q1 => ?_)
 ·replace e := if_t q1 e
  refine c_sq ?_
  refine d_start s1 fun n1 H2 s2 q2 d1 => ?_
  refine d_mv (v := (pV o1 0)) rfl ?_
  refine d_nck rfl ?_
  refine d_fad rfl ?_
  obtain ⟨d2, rfl⟩ := (hp1).val
  obtain ⟨d3, rfl⟩ := (hp2).val
  refine d_ldB (q2 _ _ (ph_some.2 ⟨s2.curB 1 rfl, by simp⟩)) 1 s2 rfl rfl rfl rfl ?_
  refine d_fad rfl ?_
  refine d_ldB (q2 _ _ (ph_some.2 ⟨s2.curB 0 rfl, by simp⟩)) 0 s2 rfl rfl rfl rfl ?_
  obtain ⟨x1, q3, e⟩ := oB e
  refine d_idx (v := (vS d3 a0.n)) rfl rfl hp2 rfl q3 fun p1 q4 => ?_
  refine d_lds (RdS.low hp2 s2.v q2) rfl hp2 s2.v q4 q3 fun w1 h1 => ?_
  refine d_mv (v := (vi a2)) rfl ?_
  obtain ⟨x2, q5, e⟩ := oB e
  refine d_idx (v := w1) rfl rfl h1 rfl q5 fun p2 q6 => ?_
  refine d_ldi (RdS.low h1 s2.v q2) rfl h1 s2.v q6 q5 ?_
  refine d_mv (v := (vi x2)) rfl ?_
  refine d_nil dc_nil ?_
  refine c_gen (P := fun tm => tm 6 = (vi x2) ∧ True) ⟨rfl, trivial⟩ ?_
  intro _ i1
  obtain ⟨h2, -⟩ := i1
  refine c_rt ?_
  obtain rfl := oJ e
  exact ⟨.inr rfl, _, (ar1 h2), rfl, (s2.pick [1, 2] rfl)⟩
 replace e := ib_f q1 e
 refine c_sk (c_sq (c_sr ?_))
 refine o_mv (v := (vi a2)) rfl ?_
 refine o_eql rfl rfl (c_nil ?_)
 refine c_ifd rfl (fun q7 => ?_) (fun q7 => ?_)
 ·replace e := if_t q7 e
  refine c_sr ?_
  refine o_mv (v := (vi 1)) rfl ?_
  refine c_nil (c_rt ?_)
  obtain ⟨d4, rfl⟩ := (hp1).val
  obtain ⟨d5, rfl⟩ := (hp2).val
  obtain rfl := oJ e
  exact ⟨.inr rfl, _, (ar1 rfl), rfl, (s1.pick [1, 2] rfl)⟩
 replace e := if_f q7 e
 refine c_sk (c_sr ?_)
 refine o_mv (v := (vi 0)) rfl ?_
 refine c_nil (c_rt ?_)
 obtain ⟨d6, rfl⟩ := (hp1).val
 obtain ⟨d7, rfl⟩ := (hp2).val
 obtain rfl := oJ e
 exact ⟨.inr rfl, _, (ar1 rfl), rfl, (s1.pick [1, 2] rfl)⟩
structure Nd.rank_book_ways (T : FuncId → Option AFunc) : Prop where
 own_rank_book_ways : Has T I.rank_book_ways F.rank_book_ways
 own_rank_book_part : Has T I.rank_book_part F.rank_book_part
 rank_book_sym : Nd.rank_book_sym T
abbrev Nd.rank_book_part := Nd.rank_book_ways
set_option maxHeartbeats 1000000 in
theorem X.rank_book_ways_rec {T : FuncId → Option AFunc} (nd : Nd.rank_book_ways T) : ∀ φ : Nat, (∀ {Z V : PH} {H : Hp} {v1 : Value} {v2 : Value} {m3 : Nat} {o1 : Nat} {a0 : Ty.rank_book} {a1 : Int} {a2 : Int} {a3 : Int} (hs : Sat Z V H [pts o1 (.rw 0 [vi a0.g.Terms, vi a0.g.Nons, vi a0.g.Start, v1, v2, (.map (some m3))]), It.mp kE3 vi m3 a0.many_]) (hp1 : RdS Sh.api_Rule Z v1 a0.g.Rules) (hp2 : RdS sI1 Z v2 a0.n) {r : (Ty.rank_book × Int)} (e : P.rank_book_ways φ a0 a1 a2 a3 = some r), G T I.rank_book_ways [(pV o1 0), vi a1, vi a2, vi a3] H (fun rv H' => ∃ (u1 : Value) (u2 : Value) (o103 : Nat), rv = (vi r.2) ∧ Sat Z V H' [pts o1 (.rw 0 [vi r.1.g.Terms, vi r.1.g.Nons, vi r.1.g.Start, u1, u2, (.map (some o103))]), Sh.it (Sh.ro (Sh.sl Sh.api_Rule)) [u1] r.1.g.Rules, Sh.it (Sh.ro sI2) [u2] r.1.n, It.mp kE3 vi o103 r.1.many_])) ∧ (∀ {Z V : PH} {H : Hp} {v1 : Value} {v2 : Value} {m3 : Nat} {o1 : Nat} {a0 : Ty.rank_book} {a1 : Int} {a2 : Int} {a3 : Int} {a4 : Int} (hs : Sat Z V H [pts o1 (.rw 0 [vi a0.g.Terms, vi a0.g.Nons, vi a0.g.Start, v1, v2, (.map (some m3))]), It.mp kE3 vi m3 a0.many_]) (hp1 : RdS Sh.api_Rule Z v1 a0.g.Rules) (hp2 : RdS sI1 Z v2 a0.n) {r : (Ty.rank_book × Int)} (e : P.rank_book_part φ a0 a1 a2 a3 a4 = some r), G T I.rank_book_part [(pV o1 0), vi a1, vi a2, vi a3, vi a4] H (fun rv H' => ∃ (u1 : Value) (u2 : Value) (o103 : Nat), rv = (vi r.2) ∧ Sat Z V H' [pts o1 (.rw 0 [vi r.1.g.Terms, vi r.1.g.Nons, vi r.1.g.Start, u1, u2, (.map (some o103))]), Sh.it (Sh.ro (Sh.sl Sh.api_Rule)) [u1] r.1.g.Rules, Sh.it (Sh.ro sI2) [u2] r.1.n, It.mp kE3 vi o103 r.1.many_])) := by
 intro φ
 induction φ with
 | zero =>
   refine ⟨?_, ?_⟩
   ·intro Z V H v1 v2 m3 o1 a0 a1 a2 a3 hs hp1 hp2 r e
    rw [P.rank_book_ways] at e; cases e
   ·intro Z V H v1 v2 m3 o1 a0 a1 a2 a3 a4 hs hp1 hp2 r e
    rw [P.rank_book_part] at e; cases e
 | succ φ ih =>
   refine ⟨?_, ?_⟩
   ·intro Z V H v1 v2 m3 o1 a0 a1 a2 a3 hs hp1 hp2 r e
    rw [P.rank_book_ways] at e
    refine f_mk nd.own_rank_book_ways ?_
    refine c_sr ?_
    refine o_mv (v := (vi 0)) rfl ?_
    refine c_nil (c_sr ?_)
    refine o_mv (v := (pV o1 0)) rfl ?_
    refine o_nck rfl (o_fad rfl (o_fad rfl ?_))
    obtain ⟨d1, rfl⟩ := (hp1).val
    obtain ⟨d2, rfl⟩ := (hp2).val
    refine o_ldB 0 hs rfl rfl rfl rfl ?_
    refine o_mv (v := (vi a1)) rfl ?_
    obtain ⟨x1, q1, e⟩ := oB e
    refine o_idx (v := (vS d1 a0.g.Rules)) rfl rfl hp1 rfl q1 fun p1 q2 => ?_
    refine o_fadE rfl q2 fun p2 q3 => ?_
    refine o_ldF rfl hp1 hs.z rfl q2 q3 q1 rfl fun c1 h1 => ?_
    obtain ⟨w1, rfl, h2⟩ := Sh.api_Rule_op h1
    refine ⟨_, rfl, ?_⟩
    refine o_mv (v := w1) rfl ?_
    refine c_nil ?_
    refine c_gen (P := fun tm => tm 0 = (pV o1 0) ∧ tm 1 = (vi a1) ∧ tm 2 = (vi a2) ∧ tm 3 = (vi a3) ∧ tm 9 = w1 ∧ True) ⟨rfl, rfl, rfl, rfl, rfl, trivial⟩ ?_
    intro _ i1
    obtain ⟨h3, h4, h5, h6, h7, -⟩ := i1
    refine c_sq (c_sr (o_mv h5 (o_mv h7 (o_len rfl (h2).len ?_))))
    refine o_eql rfl rfl (c_nil ?_)
    refine c_ifd rfl (fun q4 => ?_) (fun q4 => ?_)
    ·replace e := if_t q4 e
     refine c_sq (c_sr (o_mv h6 (o_eql rfl rfl (c_nil ?_))))
     refine c_ifd rfl (fun q5 => ?_) (fun q5 => ?_)
     ·replace e := if_t q5 e
      refine c_sr ?_
      refine o_mv (v := (vi 1)) rfl ?_
      refine c_nil (c_rt ?_)
      obtain rfl := oJ e
      exact ⟨.inr rfl, _, (ar1 rfl), _, _, _, rfl, (((hs.push (ro_it (sl_ro hp1))).push (ro_it (sl_ro hp2))).pick [2, 1, 0, 3] rfl)⟩
     replace e := if_f q5 e
     refine c_sk (c_sr ?_)
     refine o_mv (v := (vi 0)) rfl ?_
     refine c_nil (c_rt ?_)
     obtain rfl := oJ e
     exact ⟨.inr rfl, _, (ar1 rfl), _, _, _, rfl, (((hs.push (ro_it (sl_ro hp1))).push (ro_it (sl_ro hp2))).pick [2, 1, 0, 3] rfl)⟩
    replace e := if_f q4 e
    refine c_sk (c_sr (o_mv h4 (o_mv h5 (o_mv h6 ?_))))
    refine o_bld (qs := [(0, 1, (vi a1)), (1, 1, (vi a2)), (2, 1, (vi a3))]) rfl rfl ?_
    refine o_new hs fun b1 H1 s1 => ?_
    refine o_stB (us' := [vi a1, vi a2, vi a3]) 0 s1 rfl rfl rfl rfl rfl rfl rfl fun H2 s2 => ?_
    refine c_nil (c_sq (c_sq ?_))
    refine c_gen (P := fun tm => tm 0 = (pV o1 0) ∧ tm 1 = (vi a1) ∧ tm 2 = (vi a2) ∧ tm 3 = (vi a3) ∧ tm 10 = (pV b1 0) ∧ True) ⟨h3, h4, h5, h6, rfl, trivial⟩ ?_
    intro _ i2
    obtain ⟨h8, h9, h10, h11, h12, -⟩ := i2
    refine d_start s2 fun n1 H3 s3 q6 d3 => ?_
    refine d_mv h8 ?_
    refine d_nck rfl ?_
    refine d_fad rfl ?_
    refine d_ldB (q6 _ _ (ph_some.2 ⟨s3.curB 1 rfl, by simp⟩)) 1 s3 rfl rfl rfl rfl ?_
    refine d_ldB (q6 _ _ (ph_some.2 ⟨s3.curB 0 rfl, by simp⟩)) 0 s3 rfl h12 rfl rfl ?_
    refine d_mlook Mk.kE3 (q := (a1, a2, a3)) (z := 0) 2 s3 rfl rfl rfl rfl rfl ?_
    refine d_mv (v := (.tuple #[(vi ((Pu.mget (a1, a2, a3) a0.many_).getD 0)), (.bool ((Pu.mget (a1, a2, a3) a0.many_).isSome))])) rfl ?_
    refine d_ext rfl rfl ?_
    refine d_ext rfl rfl ?_
    refine d_mv (v := (vi ((Pu.mget (a1, a2, a3) a0.many_).getD 0))) rfl ?_
    refine d_mv (v := (.bool ((Pu.mget (a1, a2, a3) a0.many_).isSome))) rfl ?_
    refine d_nil dc_nil ?_
    refine c_gen (P := fun tm => tm 0 = (pV o1 0) ∧ tm 1 = (vi a1) ∧ tm 2 = (vi a2) ∧ tm 3 = (vi a3) ∧ tm 10 = (pV b1 0) ∧ tm 11 = (vi ((Pu.mget (a1, a2, a3) a0.many_).getD 0)) ∧ tm 12 = (.bool ((Pu.mget (a1, a2, a3) a0.many_).isSome)) ∧ True) ⟨h8, h9, h10, h11, h12, rfl, rfl, trivial⟩ ?_
    intro _ i3
    obtain ⟨h13, h14, h15, h16, h17, h18, h19, -⟩ := i3
    refine c_sr (o_mv h19 (c_nil ?_))
    refine c_if rfl (fun q7 => ?_) (fun q7 => ?_)
    ·replace e := if_t q7 e
     refine c_sr (o_mv h18 ?_)
     refine o_mv (v := (vi ((Pu.mget (a1, a2, a3) a0.many_).getD 0))) rfl ?_
     refine c_nil (c_rt ?_)
     obtain rfl := oJ e
     exact ⟨.inr rfl, _, (ar1 rfl), _, _, _, rfl, (((s3.push (ro_it (sl_ro hp1))).push (ro_it (sl_ro hp2))).pick [3, 1, 0, 4] rfl)⟩
    replace e := ib_f q7 e
    refine c_sk (c_sr ?_)
    refine o_mv (v := (vi 0)) rfl ?_
    refine c_nil (c_sq (c_sr (o_mv h16 (o_add rfl rfl ?_))))
    refine o_mv (v := (vi 0)) rfl ?_
    refine c_nil ?_
    obtain ⟨x3, q10, e⟩ := oB e
    obtain ⟨rfl, q12⟩ := ranO_some q10
    obtain ⟨y1, q13, e⟩ := oB e
    refine c_bk ?_
    refine l_forP (xs := (Pu.ran (Pu.W (a3 + 1)))) (fun (i4 : Nat) (s4 : (Int × Int × Int × (List Ty.api_Rule) × (List (List Int)) × (List ((Int × Int × Int) × Int)) × Int)) tm H => tm 47 = vi i4 ∧ ∃ (Z1 V1 : PH) (b2 : Nat) (w2 : Value) (w3 : Value), Gw Z V Z1 V1 ∧ Sat Z1 V1 H [pts o1 (.rw 0 [vi s4.1, vi s4.2.1, vi s4.2.2.1, w2, w3, (.map (some b2))]), It.mp kE3 vi b2 s4.2.2.2.2.2.1, pts b1 (.rw 0 [vi a1, vi a2, vi a3])] ∧ tm 0 = (pV o1 0) ∧ tm 1 = (vi a1) ∧ tm 2 = (vi a2) ∧ tm 3 = (vi a3) ∧ tm 10 = (pV b1 0) ∧ tm 13 = (vi s4.2.2.2.2.2.2) ∧ tm 46 = (vi (Pu.W (a3 + 1))) ∧ RdS Sh.api_Rule Z1 w2 s4.2.2.2.1 ∧ RdS sI1 Z1 w3 s4.2.2.2.2.1) (fun i4 x2 s4 s6 tm H5 q8 q9 j1 e1 k1 => ?_) (fun tm H4 jd => ?_) q13 ⟨rfl, _, _, _, _, _, Gw.refl _ _, (s3.pick [1, 2, 0] rfl), h13, h14, h15, h16, h17, rfl, rfl, hp1, hp2⟩
    ·obtain ⟨hti0, Z1, V1, b2, w2, w3, g1, s5, h22, h23, h24, h25, h26, h27, h28, h20, h21⟩ := j1
     unfold P.rank_book_ways.b0 at e1
     have hti0 := iv hti0 (ran_x q8).symm
     refine c_sr (o_lss hti0 h28 (c_nil (c_sq ?_)))
     refine c_ift rfl (ran_lt q8) ?_
     refine c_sk (c_sq (c_bk (c_sr (o_mv hti0 ?_))))
     refine o_mv (v := (vi x2)) rfl ?_
     refine c_nil (c_r (o_mv h27 (o_mv h22 (o_mv h23 ?_))))
     refine o_mv h24 ?_
     refine o_mv (v := (vi x2)) rfl ?_
     refine o_mv h25 ?_
     obtain ⟨x4, q14, e1⟩ := oB e1
     obtain ⟨d4, rfl⟩ := (h20).val
     obtain ⟨d5, rfl⟩ := (h21).val
     obtain ⟨Z2, V2, W1, g2, u1, c2, c3, -, c5, c4⟩ := Sat.call (l1 := [pts o1 (.rw 0 [vi s4.1, vi s4.2.1, vi s4.2.2.1, (vS d4 s4.2.2.2.1), (vS d5 s4.2.2.2.2.1), (.map (some b2))]), It.mp kE3 vi b2 s4.2.2.2.2.2.1]) (l2 := [pts b1 (.rw 0 [vi a1, vi a2, vi a3])]) s5
     refine o_call (mc rfl (mc rfl (mc rfl (mc rfl (mc rfl m0))))) (ih.2 (a0 := (Ty.rank_book.mk (Ty.api_Grammar.mk s4.1 s4.2.1 s4.2.2.1 s4.2.2.2.1) s4.2.2.2.2.1 s4.2.2.2.2.2.1)) c2 (h20.mono g2.z) (h21.mono g2.z) q14) fun _ H6 i5 => ?_
     obtain ⟨w4, w5, b3, rfl, s7⟩ := i5
     have s8 := c4 _ _ s7
     obtain ⟨Z3, V3, g3, s9, h29⟩ := (s8.pull 1 rfl).frzR
     obtain ⟨Z4, V4, g4, s10, h30⟩ := (s9.pull 1 rfl).frzR
     refine o_add rfl rfl ?_
     refine o_mv (v := (vi (Pu.W (s4.2.2.2.2.2.2 + x4.2)))) rfl ?_
     refine c_nil (c_end (c_r (o_add hti0 rfl ?_)))
     refine o_mv (v := (vi (Pu.W (x2 + 1)))) rfl ?_
     refine c_nil ?_
     obtain rfl := oJ e1
     exact k1 _ _ ⟨(iv rfl (w_sucR q8 q12)), _, _, _, _, _, (g1.trans (g2.trans (g3.trans g4))), s10, h22, h23, h24, h25, h26, rfl, h28, (h29.mono g4.z), h30⟩
    obtain ⟨hte0, Z5, V5, b4, w6, w7, g5, s11, h33, h34, h35, h36, h37, h38, h39, h31, h32⟩ := jd
    refine c_sr (o_lss hte0 h39 (c_nil (c_sq ?_)))
    refine c_iff rfl (ran_done _) ?_
    refine c_ex ?_
    refine e_c ?_
    refine e_c ?_
    refine e_h ?_
    refine c_sq ?_
    refine d_start s11 fun n2 H8 s12 q15 d6 => ?_
    refine d_mv h33 ?_
    refine d_nck rfl ?_
    refine d_fad rfl ?_
    obtain ⟨d7, rfl⟩ := (h31).val
    obtain ⟨d8, rfl⟩ := (h32).val
    refine d_ldB (q15 _ _ (ph_some.2 ⟨s12.curB 0 rfl, by simp⟩)) 0 s12 rfl rfl rfl rfl ?_
    refine d_ldB (q15 _ _ (ph_some.2 ⟨s12.curB 2 rfl, by simp⟩)) 2 s12 rfl h37 rfl rfl ?_
    refine d_mv h38 ?_
    refine d_mset Mk.kE3 (q := (a1, a2, a3)) (v := y1.2.2.2.2.2.2) 1 s12 rfl rfl rfl rfl rfl rfl fun H9 s13 k2 => ?_
    have d9 := d6.keep k2
    refine d_nil dc_nil ?_
    refine c_sr (o_mv h38 ?_)
    refine o_mv (v := (vi y1.2.2.2.2.2.2)) rfl ?_
    refine c_nil (c_rt ?_)
    obtain rfl := oJ e
    exact ⟨.inr rfl, _, (ar1 rfl), _, _, _, rfl, ((((s13.push (ro_it (sl_ro h31))).push (ro_it (sl_ro h32))).pick [2, 1, 0, 3] rfl).weak g5 hs.zv)⟩
   ·intro Z V H v1 v2 m3 o1 a0 a1 a2 a3 a4 hs hp1 hp2 r e
    rw [P.rank_book_part] at e
    refine f_mk nd.own_rank_book_part ?_
    refine c_sr ?_
    refine o_mv (v := (vi 0)) rfl ?_
    refine c_nil (c_sr ?_)
    refine o_mv (v := (pV o1 0)) rfl ?_
    refine o_mv (v := (pV o1 0)) rfl ?_
    refine o_nck rfl (o_fad rfl (o_fad rfl ?_))
    obtain ⟨d1, rfl⟩ := (hp1).val
    obtain ⟨d2, rfl⟩ := (hp2).val
    refine o_ldB 0 hs rfl rfl rfl rfl ?_
    refine o_mv (v := (vi a1)) rfl ?_
    obtain ⟨x1, q1, e⟩ := oB e
    refine o_idx (v := (vS d1 a0.g.Rules)) rfl rfl hp1 rfl q1 fun p1 q2 => ?_
    refine o_fadE rfl q2 fun p2 q3 => ?_
    refine o_ldF rfl hp1 hs.z rfl q2 q3 q1 rfl fun c1 h1 => ?_
    obtain ⟨w1, rfl, h2⟩ := Sh.api_Rule_op h1
    refine ⟨_, rfl, ?_⟩
    refine o_mv (v := (vi a2)) rfl ?_
    obtain ⟨x2, q4, e⟩ := oB e
    refine o_idx (v := w1) rfl rfl h2 rfl q4 fun p3 q5 => ?_
    refine o_lda rfl h2 hs.z rfl q5 q4 fun c2 h3 => ?_
    obtain rfl := h3
    refine o_mv (v := (vi a3)) rfl ?_
    obtain ⟨x3, q6, e⟩ := oB e
    obtain ⟨Z1, V1, W1, g1, u1, c3, c4, -, c6, c5⟩ := Sat.call (l1 := [pts o1 (.rw 0 [vi a0.g.Terms, vi a0.g.Nons, vi a0.g.Start, (vS d1 a0.g.Rules), (vS d2 a0.n), (.map (some m3))]), It.mp kE3 vi m3 a0.many_]) (l2 := []) hs
    refine o_call (mc rfl (mc rfl (mc rfl m0))) (X.rank_book_sym nd.rank_book_sym (a0 := a0) c3 (hp1.mono (g1.z.trans c3.zv)) (hp2.mono (g1.z.trans c3.zv)) q6) fun _ H1 i1 => ?_
    obtain ⟨rfl, s1⟩ := i1
    have s2 := c5 _ _ s1
    refine o_mv (v := (vi x3)) rfl ?_
    refine c_nil ?_
    refine c_gen (P := fun tm => tm 0 = (pV o1 0) ∧ tm 1 = (vi a1) ∧ tm 2 = (vi a2) ∧ tm 3 = (vi a3) ∧ tm 4 = (vi a4) ∧ tm 11 = (vi x3) ∧ True) ⟨rfl, rfl, rfl, rfl, rfl, rfl, trivial⟩ ?_
    intro _ i2
    obtain ⟨h4, h5, h6, h7, h8, h9, -⟩ := i2
    refine c_sq (c_sr (o_mv h9 (o_eql rfl rfl (c_nil ?_))))
    refine c_ifd rfl (fun q7 => ?_) (fun q7 => ?_)
    ·replace e := if_t q7 e
     refine c_sr ?_
     refine o_mv (v := (vi 0)) rfl ?_
     refine c_nil (c_rt ?_)
     obtain rfl := oJ e
     exact ⟨.inr rfl, _, (ar1 rfl), _, _, _, rfl, ((((s2.push (ro_it (sl_ro (hp1.mono g1.z)))).push (ro_it (sl_ro (hp2.mono g1.z)))).pick [2, 1, 0, 3] rfl).weak g1 hs.zv)⟩
    replace e := if_f q7 e
    refine c_sk (c_sr (o_mv h9 (o_mv h4 (o_mv h5 ?_))))
    refine o_mv h6 (o_add rfl rfl (o_mv h8 (o_mv h7 (o_sub rfl rfl ?_))))
    obtain ⟨x4, q8, e⟩ := oB e
    obtain ⟨Z2, V2, W2, g2, u2, c7, c8, -, c10, c9⟩ := Sat.call (l1 := [pts o1 (.rw 0 [vi a0.g.Terms, vi a0.g.Nons, vi a0.g.Start, (vS d1 a0.g.Rules), (vS d2 a0.n), (.map (some m3))]), It.mp kE3 vi m3 a0.many_]) (l2 := []) s2
    refine o_call (mc rfl (mc rfl (mc rfl (mc rfl m0)))) (ih.1 (a0 := a0) c7 (hp1.mono (g1.trans g2).z) (hp2.mono (g1.trans g2).z) q8) fun _ H2 i3 => ?_
    obtain ⟨w2, w3, b1, rfl, s3⟩ := i3
    have s4 := c9 _ _ s3
    obtain ⟨Z3, V3, g3, s5, h10⟩ := (s4.pull 1 rfl).frzR
    obtain ⟨Z4, V4, g4, s6, h11⟩ := (s5.pull 1 rfl).frzR
    refine o_mul rfl rfl ?_
    refine o_mv (v := (vi (Pu.W (x3 * x4.2)))) rfl ?_
    refine c_nil ?_
    refine c_gen (P := fun tm => tm 10 = (vi (Pu.W (x3 * x4.2))) ∧ True) ⟨rfl, trivial⟩ ?_
    intro _ i4
    obtain ⟨h12, -⟩ := i4
    refine c_rt ?_
    obtain ⟨d3, rfl⟩ := ((h10.mono g4.z)).val
    obtain ⟨d4, rfl⟩ := (h11).val
    obtain rfl := oJ e
    exact ⟨.inr rfl, _, (ar1 h12), _, _, _, rfl, ((((s6.push (ro_it (sl_ro (h10.mono g4.z)))).push (ro_it (sl_ro h11))).pick [2, 1, 0, 3] rfl).weak (g1.trans (g2.trans (g3.trans g4))) hs.zv)⟩
theorem X.rank_book_ways {T : FuncId → Option AFunc} (nd : Nd.rank_book_ways T) {φ : Nat} {Z V : PH} {H : Hp} {v1 : Value} {v2 : Value} {m3 : Nat} {o1 : Nat} {a0 : Ty.rank_book} {a1 : Int} {a2 : Int} {a3 : Int} (hs : Sat Z V H [pts o1 (.rw 0 [vi a0.g.Terms, vi a0.g.Nons, vi a0.g.Start, v1, v2, (.map (some m3))]), It.mp kE3 vi m3 a0.many_]) (hp1 : RdS Sh.api_Rule Z v1 a0.g.Rules) (hp2 : RdS sI1 Z v2 a0.n) {r : (Ty.rank_book × Int)} (e : P.rank_book_ways φ a0 a1 a2 a3 = some r) :
 G T I.rank_book_ways [(pV o1 0), vi a1, vi a2, vi a3] H (fun rv H' => ∃ (u1 : Value) (u2 : Value) (o103 : Nat), rv = (vi r.2) ∧ Sat Z V H' [pts o1 (.rw 0 [vi r.1.g.Terms, vi r.1.g.Nons, vi r.1.g.Start, u1, u2, (.map (some o103))]), Sh.it (Sh.ro (Sh.sl Sh.api_Rule)) [u1] r.1.g.Rules, Sh.it (Sh.ro sI2) [u2] r.1.n, It.mp kE3 vi o103 r.1.many_]) := (X.rank_book_ways_rec nd φ).1 hs hp1 hp2 e
theorem X.rank_book_part {T : FuncId → Option AFunc} (nd : Nd.rank_book_part T) {φ : Nat} {Z V : PH} {H : Hp} {v1 : Value} {v2 : Value} {m3 : Nat} {o1 : Nat} {a0 : Ty.rank_book} {a1 : Int} {a2 : Int} {a3 : Int} {a4 : Int} (hs : Sat Z V H [pts o1 (.rw 0 [vi a0.g.Terms, vi a0.g.Nons, vi a0.g.Start, v1, v2, (.map (some m3))]), It.mp kE3 vi m3 a0.many_]) (hp1 : RdS Sh.api_Rule Z v1 a0.g.Rules) (hp2 : RdS sI1 Z v2 a0.n) {r : (Ty.rank_book × Int)} (e : P.rank_book_part φ a0 a1 a2 a3 a4 = some r) :
 G T I.rank_book_part [(pV o1 0), vi a1, vi a2, vi a3, vi a4] H (fun rv H' => ∃ (u1 : Value) (u2 : Value) (o103 : Nat), rv = (vi r.2) ∧ Sat Z V H' [pts o1 (.rw 0 [vi r.1.g.Terms, vi r.1.g.Nons, vi r.1.g.Start, u1, u2, (.map (some o103))]), Sh.it (Sh.ro (Sh.sl Sh.api_Rule)) [u1] r.1.g.Rules, Sh.it (Sh.ro sI2) [u2] r.1.n, It.mp kE3 vi o103 r.1.many_]) := (X.rank_book_ways_rec nd φ).2 hs hp1 hp2 e
structure Nd.rank_book_tree (T : FuncId → Option AFunc) : Prop where
 own_rank_book_tree : Has T I.rank_book_tree F.rank_book_tree
 own_rank_book_kids : Has T I.rank_book_kids F.rank_book_kids
 rank_book_ways : Nd.rank_book_ways T
 rank_book_part : Nd.rank_book_part T
abbrev Nd.rank_book_kids := Nd.rank_book_tree
set_option maxHeartbeats 1000000 in
theorem X.rank_book_tree_rec {T : FuncId → Option AFunc} (nd : Nd.rank_book_tree T) : ∀ φ : Nat, (∀ {Z V : PH} {H : Hp} {v1 : Value} {v2 : Value} {m3 : Nat} {o1 : Nat} {a0 : Ty.rank_book} {a1 : Ty.api_Sym} {a2 : Int} {a3 : Int} (hs : Sat Z V H [pts o1 (.rw 0 [vi a0.g.Terms, vi a0.g.Nons, vi a0.g.Start, v1, v2, (.map (some m3))]), It.mp kE3 vi m3 a0.many_]) (hp1 : RdS Sh.api_Rule Z v1 a0.g.Rules) (hp2 : RdS sI1 Z v2 a0.n) {r : (Ty.rank_book × Ty.api_Tree)} (e : P.rank_book_tree φ a0 a1 a2 a3 = some r), G T I.rank_book_tree [(pV o1 0), (.agg #[(.bool a1.Term), vi a1.N]), vi a2, vi a3] H (fun rv H' => ∃ (u1 : Value) (u2 : Value) (o103 : Nat) (u4 : Value), rv = (.agg #[vi r.2.Rule, vi r.2.Term, u4]) ∧ Sat Z V H' [pts o1 (.rw 0 [vi r.1.g.Terms, vi r.1.g.Nons, vi r.1.g.Start, u1, u2, (.map (some o103))]), Sh.it (Sh.ro (Sh.sl Sh.api_Rule)) [u1] r.1.g.Rules, Sh.it (Sh.ro sI2) [u2] r.1.n, It.mp kE3 vi o103 r.1.many_, It.sl (Sh.ro Sh.api_Tree) u4 r.2.Kids])) ∧ (∀ {Z V : PH} {H : Hp} {v1 : Value} {v2 : Value} {m3 : Nat} {o1 : Nat} {a0 : Ty.rank_book} {a1 : Int} {a2 : Int} {a3 : Int} {a4 : Int} (hs : Sat Z V H [pts o1 (.rw 0 [vi a0.g.Terms, vi a0.g.Nons, vi a0.g.Start, v1, v2, (.map (some m3))]), It.mp kE3 vi m3 a0.many_]) (hp1 : RdS Sh.api_Rule Z v1 a0.g.Rules) (hp2 : RdS sI1 Z v2 a0.n) {r : (Ty.rank_book × (List Ty.api_Tree))} (e : P.rank_book_kids φ a0 a1 a2 a3 a4 = some r), G T I.rank_book_kids [(pV o1 0), vi a1, vi a2, vi a3, vi a4] H (fun rv H' => ∃ (u1 : Value) (u2 : Value) (o103 : Nat) (u4 : Value), rv = u4 ∧ Sat Z V H' [pts o1 (.rw 0 [vi r.1.g.Terms, vi r.1.g.Nons, vi r.1.g.Start, u1, u2, (.map (some o103))]), Sh.it (Sh.ro (Sh.sl Sh.api_Rule)) [u1] r.1.g.Rules, Sh.it (Sh.ro sI2) [u2] r.1.n, It.mp kE3 vi o103 r.1.many_, It.sl (Sh.ro Sh.api_Tree) u4 r.2])) := by
 intro φ
 induction φ with
 | zero =>
   refine ⟨?_, ?_⟩
   ·intro Z V H v1 v2 m3 o1 a0 a1 a2 a3 hs hp1 hp2 r e
    rw [P.rank_book_tree] at e; cases e
   ·intro Z V H v1 v2 m3 o1 a0 a1 a2 a3 a4 hs hp1 hp2 r e
    rw [P.rank_book_kids] at e; cases e
 | succ φ ih =>
   refine ⟨?_, ?_⟩
   ·intro Z V H v1 v2 m3 o1 a0 a1 a2 a3 hs hp1 hp2 r e
    rw [P.rank_book_tree] at e
    refine f_mk nd.own_rank_book_tree ?_
    refine c_sr ?_
    refine o_box hs rfl rfl fun b1 H1 s1 => ?_
    refine o_new s1 fun b2 H2 s2 => ?_
    refine c_nil (c_sq (c_sr (o_fad rfl (o_ldB 1 s2 rfl rfl rfl rfl ?_))))
    refine c_nil ?_
    refine c_if rfl (fun q1 => ?_) (fun q1 => ?_)
    ·replace e := if_t q1 e
     refine c_sr (o_fad rfl (o_ldB 1 s2 rfl rfl rfl rfl ?_))
     refine o_bld (qs := [(0, 1, (vi (-1))), (1, 1, (vi a1.N))]) rfl rfl ?_
     refine o_stB (us' := [(vi (-1)), vi a1.N, (.slice none 0 0)]) 0 s2 rfl rfl rfl rfl rfl rfl rfl fun H3 s3 => ?_
     refine c_nil (c_rt ?_)
     obtain ⟨d1, rfl⟩ := (hp1).val
     obtain ⟨d2, rfl⟩ := (hp2).val
     obtain rfl := oJ e
     exact ⟨.inr rfl, _, (arB 0 s3 rfl rfl rfl rfl), _, _, _, _, rfl, ((((s3.push (ro_it (sl_ro hp1))).push (ro_it (sl_ro hp2))).push (sl_nil (s := (Sh.ro Sh.api_Tree)))).pick [5, 2, 1, 6, 0] rfl)⟩
    replace e := ib_f q1 e
    refine c_sk (c_sq (c_sr ?_))
    refine o_mv (v := (pV o1 0)) rfl ?_
    refine o_nck rfl (o_fad rfl (o_fad rfl ?_))
    obtain ⟨d3, rfl⟩ := (hp1).val
    obtain ⟨d4, rfl⟩ := (hp2).val
    refine o_ldB 2 s2 rfl rfl rfl rfl (o_len rfl (hp1).len ?_)
    refine o_mv (v := (vi 0)) rfl ?_
    refine c_nil ?_
    refine c_gen (P := fun tm => tm 0 = (pV o1 0) ∧ tm 2 = (vi a2) ∧ tm 3 = (vi a3) ∧ tm 5 = (pV b1 0) ∧ tm 8 = (pV b2 0) ∧ tm 21 = (vS d3 a0.g.Rules) ∧ tm 22 = (vN a0.g.Rules) ∧ tm 23 = (vi 0) ∧ True) ⟨rfl, rfl, rfl, rfl, rfl, rfl, rfl, rfl, trivial⟩ ?_
    intro _ i1
    obtain ⟨h1, h2, h3, h4, h5, h6, h7, h8, -⟩ := i1
    obtain ⟨y1, q4, e⟩ := oB e
    refine c_jn (I := fun tm H => ∃ (s6 : (Int × Int × Int × (List Ty.api_Rule) × (List (List Int)) × (List ((Int × Int × Int) × Int)) × Int)), y1 = .out s6 ∧ (∃ (Z2 V2 : PH) (b4 : Nat) (w3 : Value) (w4 : Value), Gw Z V Z2 V2 ∧ Sat Z2 V2 H [pts o1 (.rw 0 [vi s6.1, vi s6.2.1, vi s6.2.2.1, w3, w4, (.map (some b4))]), It.mp kE3 vi b4 s6.2.2.2.2.2.1, pts b1 (.rw 0 [(.bool a1.Term), vi a1.N]), pts b2 (.rw 0 [vi 0, vi 0, (.slice none 0 0)])] ∧ tm 0 = (pV o1 0) ∧ tm 2 = (vi a2) ∧ tm 3 = (vi s6.2.2.2.2.2.2) ∧ tm 5 = (pV b1 0) ∧ tm 8 = (pV b2 0) ∧ tm 21 = (vS d3 a0.g.Rules) ∧ tm 22 = (vN a0.g.Rules) ∧ RdS Sh.api_Rule Z2 w3 s6.2.2.2.1 ∧ RdS sI1 Z2 w4 s6.2.2.2.2.1)) (fun k4 => ?_) ?_
    ·refine c_bk ?_
     refine l_forL (xs := a0.g.Rules) (fun (i2 : Nat) (s4 : (Int × Int × Int × (List Ty.api_Rule) × (List (List Int)) × (List ((Int × Int × Int) × Int)) × Int)) tm H => tm 23 = vi i2 ∧ ∃ (Z1 V1 : PH) (b3 : Nat) (w1 : Value) (w2 : Value), Gw Z V Z1 V1 ∧ Sat Z1 V1 H [pts o1 (.rw 0 [vi s4.1, vi s4.2.1, vi s4.2.2.1, w1, w2, (.map (some b3))]), It.mp kE3 vi b3 s4.2.2.2.2.2.1, pts b1 (.rw 0 [(.bool a1.Term), vi a1.N]), pts b2 (.rw 0 [vi 0, vi 0, (.slice none 0 0)])] ∧ tm 0 = (pV o1 0) ∧ tm 2 = (vi a2) ∧ tm 3 = (vi s4.2.2.2.2.2.2) ∧ tm 5 = (pV b1 0) ∧ tm 8 = (pV b2 0) ∧ tm 21 = (vS d3 a0.g.Rules) ∧ tm 22 = (vN a0.g.Rules) ∧ RdS Sh.api_Rule Z1 w1 s4.2.2.2.1 ∧ RdS sI1 Z1 w2 s4.2.2.2.2.1) (fun i2 x1 s4 y2 tm H5 q2 q3 j1 e1 k1 k2 k3 => ?_) (fun s4 tm H4 jf jd => ?_) q4 ⟨h8, _, _, _, _, _, Gw.refl _ _, (s2.pick [2, 3, 1, 0] rfl), h1, h2, h3, h4, h5, h6, h7, hp1, hp2⟩
     ·obtain ⟨hti0, Z1, V1, b3, w1, w2, g1, s5, h11, h12, h13, h14, h15, h16, h17, h9, h10⟩ := j1
      unfold P.rank_book_tree.b0 at e1
      refine c_sr (o_lss hti0 h17 (c_nil (c_sq ?_)))
      refine c_ift rfl (Int.ofNat_lt.2 q3) ?_
      refine c_sk (c_sq (c_bk (c_sr (o_mv hti0 ?_))))
      refine o_idx (v := (vS d3 a0.g.Rules)) h16 hti0 (hp1.mono g1.z) rfl (Pu.ix_nat.trans q2) fun p1 q5 => ?_
      refine o_lda rfl (hp1.mono g1.z) s5.z rfl q5 (Pu.ix_nat.trans q2) fun c1 h27 => ?_
      obtain ⟨w5, rfl, h28⟩ := Sh.api_Rule_op h27
      refine o_new s5 fun b5 H7 s8 => ?_
      refine o_mv (v := (vJ i2)) rfl ?_
      obtain ⟨d5, rfl⟩ := (h28).val
      refine o_stB (us' := [vi x1.Left, (vS d5 x1.Right)]) 0 s8 rfl rfl rfl rfl rfl rfl rfl fun H8 s9 => ?_
      refine c_nil (c_sq (c_sr (o_fad rfl (o_ldB 0 s9 rfl rfl rfl rfl ?_))))
      refine o_fad h14 (o_ldB 3 s9 rfl rfl rfl rfl (o_neq rfl rfl (c_nil ?_)))
      refine c_gen (P := fun tm => tm 0 = (pV o1 0) ∧ tm 2 = (vi a2) ∧ tm 3 = (vi s4.2.2.2.2.2.2) ∧ tm 5 = (pV b1 0) ∧ tm 8 = (pV b2 0) ∧ tm 9 = (vJ i2) ∧ tm 21 = (vS d3 a0.g.Rules) ∧ tm 22 = (vN a0.g.Rules) ∧ tm 23 = (vJ i2) ∧ tm 32 = (.bool (decide (x1.Left ≠ a1.N))) ∧ True) ⟨h11, h12, h13, h14, h15, rfl, h16, h17, hti0, rfl, trivial⟩ ?_
      intro _ i3
      obtain ⟨h29, h30, h31, h32, h33, h34, h35, h36, h37, h38, -⟩ := i3
      refine c_ifd h38 (fun q6 => ?_) (fun q6 => ?_)
      ·replace e1 := if_t q6 e1
       refine c_ex ?_
       refine e_c ?_
       refine e_h ?_
       refine c_r (o_add h37 rfl ?_)
       refine o_mv (v := (vi (Pu.W ((i2 : Int) + 1)))) rfl ?_
       refine c_nil ?_
       exact k1 _ _ _ (sJ e1) ⟨(iv rfl (w_suc q3 (hp1).bd)), _, _, _, _, _, g1, (s9.pick [1, 2, 3, 4] rfl), h29, h30, h31, h32, h33, h35, h36, h9, h10⟩
      replace e1 := if_f q6 e1
      refine c_sk (c_sr (o_mv h29 (o_mv h34 (o_mv h30 ?_))))
      obtain ⟨x2, q7, e1⟩ := oB e1
      obtain ⟨d6, rfl⟩ := (h9).val
      obtain ⟨d7, rfl⟩ := (h10).val
      obtain ⟨Z3, V3, W1, g3, u1, c2, c3, -, c5, c4⟩ := Sat.call (l1 := [pts o1 (.rw 0 [vi s4.1, vi s4.2.1, vi s4.2.2.1, (vS d6 s4.2.2.2.1), (vS d7 s4.2.2.2.2.1), (.map (some b3))]), It.mp kE3 vi b3 s4.2.2.2.2.2.1]) (l2 := [pts b5 (.rw 0 [vi x1.Left, (vS d5 x1.Right)]), pts b1 (.rw 0 [(.bool a1.Term), vi a1.N]), pts b2 (.rw 0 [vi 0, vi 0, (.slice none 0 0)])]) (s9.pick [1, 2, 0, 3, 4] rfl)
      refine o_call (mc rfl (mc rfl (mc rfl (mc rfl m0)))) (X.rank_book_ways nd.rank_book_ways (a0 := (Ty.rank_book.mk (Ty.api_Grammar.mk s4.1 s4.2.1 s4.2.2.1 s4.2.2.2.1) s4.2.2.2.2.1 s4.2.2.2.2.2.1)) c2 (h9.mono g3.z) (h10.mono g3.z) q7) fun _ H9 i4 => ?_
      obtain ⟨w6, w7, b6, rfl, s10⟩ := i4
      have s11 := c4 _ _ s10
      obtain ⟨Z4, V4, g4, s12, h39⟩ := (s11.pull 1 rfl).frzR
      obtain ⟨Z5, V5, g5, s13, h40⟩ := (s12.pull 1 rfl).frzR
      refine o_mv (v := (vi x2.2)) rfl ?_
      refine c_nil (c_sq (c_sr (o_mv h31 ?_)))
      refine o_mv (v := (vi x2.2)) rfl ?_
      refine o_lss rfl rfl (c_nil ?_)
      refine c_ifd rfl (fun q8 => ?_) (fun q8 => ?_)
      ·replace e1 := if_t q8 e1
       refine c_sr (o_mv h34 (o_mv h29 (o_mv h34 (o_mv h30 ?_))))
       refine o_mv h31 ?_
       obtain ⟨x3, q9, e1⟩ := oB e1
       obtain ⟨d8, rfl⟩ := ((h39.mono g5.z)).val
       obtain ⟨d9, rfl⟩ := (h40).val
       obtain ⟨Z6, V6, W2, g6, u2, c6, c7, -, c9, c8⟩ := Sat.call (l1 := [pts o1 (.rw 0 [vi x2.1.g.Terms, vi x2.1.g.Nons, vi x2.1.g.Start, (vS d8 x2.1.g.Rules), (vS d9 x2.1.n), (.map (some b6))]), It.mp kE3 vi b6 x2.1.many_]) (l2 := [pts b5 (.rw 0 [vi x1.Left, (vS d5 x1.Right)]), pts b1 (.rw 0 [(.bool a1.Term), vi a1.N]), pts b2 (.rw 0 [vi 0, vi 0, (.slice none 0 0)])]) s13
       refine o_call (mc rfl (mc rfl (mc rfl (mc rfl (mc rfl m0))))) (ih.2 (a0 := x2.1) c6 (h39.mono (g5.trans g6).z) (h40.mono g6.z) q9) fun w10 H10 i5 => ?_
       obtain ⟨w8, w9, b7, _, rfl, s14⟩ := i5
       have s15 := c8 _ _ s14
       obtain ⟨Z7, V7, g7, s16, h41⟩ := (s15.pull 1 rfl).frzR
       obtain ⟨Z8, V8, g8, s17, h42⟩ := (s16.pull 1 rfl).frzR
       obtain ⟨d10, rfl⟩ := ((s17.curS (s := (Sh.ro Sh.api_Tree)) 2 rfl)).val
       refine o_bld (qs := [(0, 1, (vJ i2)), (2, 1, (vS d10 x3.2))]) rfl rfl ?_
       refine o_stB (us' := [(vJ i2), vi 0, (vS d10 x3.2)]) 5 s17 rfl h33 rfl rfl rfl rfl rfl fun H11 s18 => ?_
       refine c_nil ?_
       refine c_gen (P := fun tm => tm 8 = (pV b2 0) ∧ True) ⟨h33, trivial⟩ ?_
       intro _ i6
       obtain ⟨h43, -⟩ := i6
       refine c_rt ?_
       have e2 := fin_r (k3 _ (sJ e1)) e
       obtain ⟨d11, rfl⟩ := ((h41.mono g8.z)).val
       obtain ⟨d12, rfl⟩ := (h42).val
       obtain rfl := oJ e2
       exact ⟨.inr rfl, _, (arB 5 s18 rfl h43 rfl rfl), _, _, _, _, rfl, ((((s18.push (ro_it (sl_ro (h41.mono g8.z)))).push (ro_it (sl_ro h42))).pick [2, 1, 0, 3, 4] rfl).weak (g1.trans (g3.trans (g4.trans (g5.trans (g6.trans (g7.trans g8)))))) hs.zv)⟩
      replace e1 := if_f q8 e1
      refine c_sk (c_r (o_mv h31 ?_))
      refine o_mv (v := (vi x2.2)) rfl ?_
      refine o_sub rfl rfl ?_
      refine o_mv (v := (vi (Pu.W (s4.2.2.2.2.2.2 - x2.2)))) rfl ?_
      refine c_nil (c_end (c_r (o_add h37 rfl ?_)))
      refine o_mv (v := (vi (Pu.W ((i2 : Int) + 1)))) rfl ?_
      refine c_nil ?_
      exact k1 _ _ _ (sJ e1) ⟨(iv rfl (w_suc q3 (hp1).bd)), _, _, _, _, _, (g1.trans (g3.trans (g4.trans g5))), (s13.pick [0, 1, 3, 4] rfl), h29, h30, rfl, h32, h33, h35, h36, (h39.mono g5.z), h40⟩
     ·obtain ⟨hte0, Z9, V9, b8, w11, w12, g9, s19, h46, h47, h48, h49, h50, h51, h52, h44, h45⟩ := jd
      refine c_sr (o_lss hte0 h52 (c_nil (c_sq ?_)))
      refine c_iff rfl (Int.lt_irrefl _) ?_
      refine c_ex ?_
      refine e_c ?_
      refine e_c ?_
      refine e_h ?_
      exact k4 _ _ ⟨_, jf, _, _, _, _, _, g9, s19, h46, h47, h48, h49, h50, h51, h52, h44, h45⟩
    intro _ H6 i7
    obtain ⟨s6, f1, Z2, V2, b4, w3, w4, g2, s7, h20, h21, h22, h23, h24, h25, h26, h18, h19⟩ := i7
    replace e := fin_o f1 e
    refine c_sr ?_
    refine o_bld (qs := []) rfl rfl ?_
    refine o_stB (us' := [vi 0, vi 0, (.slice none 0 0)]) 3 s7 rfl h24 rfl rfl rfl rfl rfl fun H13 s20 => ?_
    refine c_nil (c_rt ?_)
    obtain ⟨d13, rfl⟩ := (h18).val
    obtain ⟨d14, rfl⟩ := (h19).val
    obtain rfl := oJ e
    exact ⟨.inr rfl, _, (arB 3 s20 rfl h24 rfl rfl), _, _, _, _, rfl, (((((s20.push (ro_it (sl_ro h18))).push (ro_it (sl_ro h19))).push (sl_nil (s := (Sh.ro Sh.api_Tree)))).pick [3, 2, 1, 4, 0] rfl).weak g2 hs.zv)⟩
   ·intro Z V H v1 v2 m3 o1 a0 a1 a2 a3 a4 hs hp1 hp2 r e
    rw [P.rank_book_kids] at e
    refine f_mk nd.own_rank_book_kids ?_
    refine c_sr ?_
    refine o_mv (v := (.slice none 0 0)) rfl ?_
    refine c_nil (c_sr ?_)
    refine o_mv (v := (pV o1 0)) rfl ?_
    refine o_nck rfl (o_fad rfl (o_fad rfl ?_))
    obtain ⟨d1, rfl⟩ := (hp1).val
    obtain ⟨d2, rfl⟩ := (hp2).val
    refine o_ldB 0 hs rfl rfl rfl rfl ?_
    refine o_mv (v := (vi a1)) rfl ?_
    obtain ⟨x1, q1, e⟩ := oB e
    refine o_idx (v := (vS d1 a0.g.Rules)) rfl rfl hp1 rfl q1 fun p1 q2 => ?_
    refine o_fadE rfl q2 fun p2 q3 => ?_
    refine o_ldF rfl hp1 hs.z rfl q2 q3 q1 rfl fun c1 h1 => ?_
    obtain ⟨w1, rfl, h2⟩ := Sh.api_Rule_op h1
    refine ⟨_, rfl, ?_⟩
    refine o_mv (v := w1) rfl ?_
    refine c_nil ?_
    refine c_gen (P := fun tm => tm 0 = (pV o1 0) ∧ tm 1 = (vi a1) ∧ tm 2 = (vi a2) ∧ tm 3 = (vi a3) ∧ tm 4 = (vi a4) ∧ tm 11 = w1 ∧ True) ⟨rfl, rfl, rfl, rfl, rfl, rfl, trivial⟩ ?_
    intro _ i1
    obtain ⟨h3, h4, h5, h6, h7, h8, -⟩ := i1
    refine c_sq (c_sr (o_mv h5 (o_mv h8 (o_len rfl (h2).len ?_))))
    refine o_eql rfl rfl (c_nil ?_)
    refine c_ifd rfl (fun q4 => ?_) (fun q4 => ?_)
    ·replace e := if_t q4 e
     refine c_sr ?_
     refine o_mv (v := (.slice none 0 0)) rfl ?_
     refine c_nil (c_rt ?_)
     obtain rfl := oJ e
     exact ⟨.inr rfl, _, (ar1 rfl), _, _, _, _, rfl, ((((hs.push (ro_it (sl_ro hp1))).push (ro_it (sl_ro hp2))).push (sl_nil (s := (Sh.ro Sh.api_Tree)))).pick [3, 2, 1, 4, 0] rfl)⟩
    replace e := if_f q4 e
    refine c_sk (c_sr ?_)
    refine o_mv (v := (vi 0)) rfl ?_
    refine c_nil (c_sq ?_)
    obtain ⟨y1, q7, e⟩ := oB e
    refine c_jn (I := fun tm H => ∃ (s3 : (Int × Int × Int × (List Ty.api_Rule) × (List (List Int)) × (List ((Int × Int × Int) × Int)) × Int × Int)), y1 = .out s3 ∧ (∃ (Z2 V2 : PH) (b2 : Nat) (w4 : Value) (w5 : Value), Gw Z V Z2 V2 ∧ Sat Z2 V2 H [pts o1 (.rw 0 [vi s3.1, vi s3.2.1, vi s3.2.2.1, w4, w5, (.map (some b2))]), It.mp kE3 vi b2 s3.2.2.2.2.2.1] ∧ tm 0 = (pV o1 0) ∧ tm 1 = (vi a1) ∧ tm 2 = (vi a2) ∧ tm 3 = (vi a3) ∧ tm 4 = (vi s3.2.2.2.2.2.2.1) ∧ tm 11 = w1 ∧ tm 12 = (vi s3.2.2.2.2.2.2.2) ∧ RdS Sh.api_Rule Z2 w4 s3.2.2.2.1 ∧ RdS sI1 Z2 w5 s3.2.2.2.2.1)) (fun k4 => ?_) ?_
    ·refine c_bk ?_
     refine l_whl (fun (s1 : (Int × Int × Int × (List Ty.api_Rule) × (List (List Int)) × (List ((Int × Int × Int) × Int)) × Int × Int)) tm H => ∃ (Z1 V1 : PH) (b1 : Nat) (w2 : Value) (w3 : Value), Gw Z V Z1 V1 ∧ Sat Z1 V1 H [pts o1 (.rw 0 [vi s1.1, vi s1.2.1, vi s1.2.2.1, w2, w3, (.map (some b1))]), It.mp kE3 vi b1 s1.2.2.2.2.2.1] ∧ tm 0 = (pV o1 0) ∧ tm 1 = (vi a1) ∧ tm 2 = (vi a2) ∧ tm 3 = (vi a3) ∧ tm 4 = (vi s1.2.2.2.2.2.2.1) ∧ tm 11 = w1 ∧ tm 12 = (vi s1.2.2.2.2.2.2.2) ∧ RdS Sh.api_Rule Z1 w2 s1.2.2.2.1 ∧ RdS sI1 Z1 w3 s1.2.2.2.2.1) (fun s1 y2 tm H2 j1 e1 k1 k2 k3 => ?_) q7 ⟨_, _, _, _, _, Gw.refl _ _, hs, h3, h4, h5, h6, h7, h8, rfl, hp1, hp2⟩
     obtain ⟨Z1, V1, b1, w2, w3, g1, s2, h11, h12, h13, h14, h15, h16, h17, h9, h10⟩ := j1
     unfold P.rank_book_kids.b0 at e1
     refine c_sq (c_sr (o_mv h17 (o_mv h14 (o_lss rfl rfl ?_))))
     refine o_mv (v := (.bool (decide (s1.2.2.2.2.2.2.2 < a3)))) rfl ?_
     obtain ⟨y3, e2, e1⟩ := oB e1
     refine o_jn 9 (I := fun tm H => ∃ (Z3 V3 : PH) (b3 : Nat) (w6 : Value) (w7 : Value), Gw Z1 V1 Z3 V3 ∧ Sat Z3 V3 H [pts o1 (.rw 0 [vi y3.1, vi y3.2.1, vi y3.2.2.1, w6, w7, (.map (some b3))]), It.mp kE3 vi b3 y3.2.2.2.2.2.1] ∧ tm 0 = (pV o1 0) ∧ tm 1 = (vi a1) ∧ tm 2 = (vi a2) ∧ tm 3 = (vi a3) ∧ tm 4 = (vi s1.2.2.2.2.2.2.1) ∧ tm 11 = w1 ∧ tm 12 = (vi s1.2.2.2.2.2.2.2) ∧ tm 39 = (.bool y3.2.2.2.2.2.2) ∧ RdS Sh.api_Rule Z3 w6 y3.2.2.2.1 ∧ RdS sI1 Z3 w7 y3.2.2.2.2.1) (fun k5 => ?_) ?_
     ·rcases Bool.eq_false_or_eq_true (decide (s1.2.2.2.2.2.2.2 < a3)) with q8 | q8
      ·replace e2 := if_t q8 e2
       refine o_gy rfl q8 (o_mv h15 (o_gy rfl q8 (o_mv h11 (o_gy rfl q8 ?_))))
       refine o_mv h12 (o_gy rfl q8 (o_mv h13 (o_gy rfl q8 (o_mv h17 ?_))))
       refine o_gy rfl q8 (o_mv h14 (o_gy rfl q8 ?_))
       obtain ⟨x3, q9, e2⟩ := oB e2
       obtain ⟨d3, rfl⟩ := (h9).val
       obtain ⟨d4, rfl⟩ := (h10).val
       obtain ⟨Z4, V4, W1, g4, u1, c2, c3, -, c5, c4⟩ := Sat.call (l1 := [pts o1 (.rw 0 [vi s1.1, vi s1.2.1, vi s1.2.2.1, (vS d3 s1.2.2.2.1), (vS d4 s1.2.2.2.2.1), (.map (some b1))]), It.mp kE3 vi b1 s1.2.2.2.2.2.1]) (l2 := []) s2
       refine o_call (mc rfl (mc rfl (mc rfl (mc rfl (mc rfl m0))))) (X.rank_book_part nd.rank_book_part (a0 := (Ty.rank_book.mk (Ty.api_Grammar.mk s1.1 s1.2.1 s1.2.2.1 s1.2.2.2.1) s1.2.2.2.2.1 s1.2.2.2.2.2.1)) c2 (h9.mono g4.z) (h10.mono g4.z) q9) fun _ H5 i3 => ?_
       obtain ⟨w8, w9, b4, rfl, s6⟩ := i3
       have s7 := c4 _ _ s6
       obtain ⟨Z5, V5, g5, s8, h37⟩ := (s7.pull 1 rfl).frzR
       obtain ⟨Z6, V6, g6, s9, h38⟩ := (s8.pull 1 rfl).frzR
       refine o_gy rfl q8 (o_geq rfl rfl ?_)
       refine o_pickt (a := (.bool (decide (x3.2 ≤ s1.2.2.2.2.2.2.1)))) rfl q8 rfl ?_
       obtain rfl := oJ e2
       exact k5 _ _ ⟨_, _, _, _, _, (g4.trans (g5.trans g6)), s9, h11, h12, h13, h14, h15, h16, h17, rfl, (h37.mono g6.z), h38⟩
      replace e2 := ib_f q8 e2
      refine o_gn rfl q8 (o_gn rfl q8 (o_gn rfl q8 (o_gn rfl q8 (o_gn rfl q8 ?_))))
      refine o_gn rfl q8 (o_gn rfl q8 (o_gn rfl q8 ?_))
      refine o_pickf (b := (.bool false)) rfl q8 rfl ?_
      obtain rfl := oJ e2
      exact k5 _ _ ⟨_, _, _, _, _, Gw.refl _ _, s2, h11, h12, h13, h14, h15, h16, h17, rfl, h9, h10⟩
     intro _ H4 i4
     obtain ⟨Z3, V3, b3, w6, w7, g3, s5, h29, h30, h31, h32, h33, h34, h35, h36, h27, h28⟩ := i4
     refine c_nil ?_
     refine c_if h36 (fun q10 => ?_) (fun q10 => ?_)
     ·replace e1 := if_t q10 e1
      refine c_sk (c_sq (c_bk (c_r (o_mv h33 ?_))))
      refine o_mv h29 (o_mv h30 (o_mv h31 (o_mv h35 (o_mv h32 ?_))))
      obtain ⟨x4, q11, e1⟩ := oB e1
      obtain ⟨d5, rfl⟩ := (h27).val
      obtain ⟨d6, rfl⟩ := (h28).val
      obtain ⟨Z7, V7, W2, g7, u2, c6, c7, -, c9, c8⟩ := Sat.call (l1 := [pts o1 (.rw 0 [vi y3.1, vi y3.2.1, vi y3.2.2.1, (vS d5 y3.2.2.2.1), (vS d6 y3.2.2.2.2.1), (.map (some b3))]), It.mp kE3 vi b3 y3.2.2.2.2.2.1]) (l2 := []) s5
      refine o_call (mc rfl (mc rfl (mc rfl (mc rfl (mc rfl m0))))) (X.rank_book_part nd.rank_book_part (a0 := (Ty.rank_book.mk (Ty.api_Grammar.mk y3.1 y3.2.1 y3.2.2.1 y3.2.2.2.1) y3.2.2.2.2.1 y3.2.2.2.2.2.1)) c6 (h27.mono g7.z) (h28.mono g7.z) q11) fun _ H6 i5 => ?_
      obtain ⟨w10, w11, b5, rfl, s10⟩ := i5
      have s11 := c8 _ _ s10
      obtain ⟨Z8, V8, g8, s12, h39⟩ := (s11.pull 1 rfl).frzR
      obtain ⟨Z9, V9, g9, s13, h40⟩ := (s12.pull 1 rfl).frzR
      refine o_sub rfl rfl ?_
      refine o_mv (v := (vi (Pu.W (s1.2.2.2.2.2.2.1 - x4.2)))) rfl ?_
      refine c_nil (c_end (c_r (o_mv h35 (o_add rfl rfl ?_))))
      refine o_mv (v := (vi (Pu.W (s1.2.2.2.2.2.2.2 + 1)))) rfl ?_
      refine c_nil ?_
      exact k1 _ _ _ (sJ e1) ⟨_, _, _, _, _, (g1.trans (g3.trans (g7.trans (g8.trans g9)))), s13, h29, h30, h31, h32, rfl, h34, rfl, (h39.mono g9.z), h40⟩
     replace e1 := ib_f q10 e1
     refine c_ex ?_
     refine e_c ?_
     refine e_c ?_
     refine e_h ?_
     exact k4 _ _ ⟨_, k2 _ (sJ e1), _, _, _, _, _, (g1.trans g3), s5, h29, h30, h31, h32, h33, h34, h35, h27, h28⟩
    intro _ H3 i6
    obtain ⟨s3, f1, Z2, V2, b2, w4, w5, g2, s4, h20, h21, h22, h23, h24, h25, h26, h18, h19⟩ := i6
    replace e := fin_o f1 e
    refine c_sr (o_mv h20 (o_mv h21 (o_mv h22 (o_add rfl rfl ?_))))
    refine o_mv h23 (o_mv h26 (o_sub rfl rfl ?_))
    obtain ⟨x5, q12, e⟩ := oB e
    obtain ⟨d7, rfl⟩ := (h18).val
    obtain ⟨d8, rfl⟩ := (h19).val
    obtain ⟨Z10, V10, W3, g10, u3, c10, c11, -, c13, c12⟩ := Sat.call (l1 := [pts o1 (.rw 0 [vi s3.1, vi s3.2.1, vi s3.2.2.1, (vS d7 s3.2.2.2.1), (vS d8 s3.2.2.2.2.1), (.map (some b2))]), It.mp kE3 vi b2 s3.2.2.2.2.2.1]) (l2 := []) s4
    refine o_call (mc rfl (mc rfl (mc rfl (mc rfl m0)))) (X.rank_book_ways nd.rank_book_ways (a0 := (Ty.rank_book.mk (Ty.api_Grammar.mk s3.1 s3.2.1 s3.2.2.1 s3.2.2.2.1) s3.2.2.2.2.1 s3.2.2.2.2.2.1)) c10 (h18.mono g10.z) (h19.mono g10.z) q12) fun _ H7 i7 => ?_
    obtain ⟨w12, w13, b6, rfl, s14⟩ := i7
    have s15 := c12 _ _ s14
    obtain ⟨Z11, V11, g11, s16, h41⟩ := (s15.pull 1 rfl).frzR
    obtain ⟨Z12, V12, g12, s17, h42⟩ := (s16.pull 1 rfl).frzR
    refine o_mv (v := (vi x5.2)) rfl ?_
    refine c_nil (c_sq ?_)
    refine c_gen (P := fun tm => tm 0 = (pV o1 0) ∧ tm 1 = (vi a1) ∧ tm 2 = (vi a2) ∧ tm 3 = (vi a3) ∧ tm 4 = (vi s3.2.2.2.2.2.2.1) ∧ tm 11 = w1 ∧ tm 12 = (vi s3.2.2.2.2.2.2.2) ∧ tm 13 = (vi x5.2) ∧ True) ⟨h20, h21, h22, h23, h24, h25, h26, rfl, trivial⟩ ?_
    intro _ i8
    obtain ⟨h43, h44, h45, h46, h47, h48, h49, h50, -⟩ := i8
    refine d_start s17 fun n1 H8 s18 q13 d9 => ?_
    refine d_mv h43 ?_
    refine d_mv h48 ?_
    refine d_mv h45 ?_
    obtain ⟨x6, q14, e⟩ := oB e
    refine d_idx (v := w1) rfl rfl (h2.mono (g2.trans (g10.trans (g11.trans g12))).z) rfl q14 fun p3 q15 => ?_
    refine d_lda (RdS.low (h2.mono (g2.trans (g10.trans (g11.trans g12))).z) s18.z q13) rfl h2 ((g2.trans (g10.trans (g11.trans g12))).z.trans s18.z) rfl q15 q14 fun c14 h51 => ?_
    obtain rfl := h51
    refine d_mv h49 ?_
    refine d_mv h47 ?_
    refine d_mv h50 ?_
    obtain ⟨x7, q16, e⟩ := oB e
    refine d_quo rfl rfl q16 ?_
    obtain ⟨x8, q17, e⟩ := oB e
    obtain ⟨d10, rfl⟩ := ((h41.mono g12.z)).val
    obtain ⟨d11, rfl⟩ := (h42).val
    obtain ⟨Z13, V13, W4, g13, u4, c15, c16, -, c18, c17⟩ := Sat.call (l1 := [pts o1 (.rw 0 [vi x5.1.g.Terms, vi x5.1.g.Nons, vi x5.1.g.Start, (vS d10 x5.1.g.Rules), (vS d11 x5.1.n), (.map (some b6))]), It.mp kE3 vi b6 x5.1.many_]) (l2 := []) s18
    refine d_call (mc rfl (mc rfl (mc rfl (mc rfl m0)))) (ih.1 (a0 := x5.1) c15 (h41.mono (g12.trans g13).z) (h42.mono g13.z) q17) fun _ H9 i9 k6 => ?_
    have d12 := d9.keep k6
    obtain ⟨w14, w15, b7, w16, rfl, s19⟩ := i9
    have s20 := c17 _ _ s19
    obtain ⟨Z14, V14, g14, s21, h52⟩ := (s20.pull 1 rfl).frzR
    obtain ⟨Z15, V15, g15, s22, h53⟩ := (s21.pull 1 rfl).frzR
    refine d_mv h43 ?_
    refine d_mv h44 ?_
    refine d_mv h45 ?_
    refine d_add rfl rfl ?_
    refine d_mv h46 ?_
    refine d_mv h49 ?_
    refine d_sub rfl rfl ?_
    refine d_mv h47 ?_
    refine d_mv h50 ?_
    obtain ⟨x9, q18, e⟩ := oB e
    refine d_rem rfl rfl q18 ?_
    obtain ⟨x10, q19, e⟩ := oB e
    obtain ⟨d13, rfl⟩ := ((h52.mono g15.z)).val
    obtain ⟨d14, rfl⟩ := (h53).val
    obtain ⟨Z16, V16, W5, g16, u5, c19, c20, -, c22, c21⟩ := Sat.call (l1 := [pts o1 (.rw 0 [vi x8.1.g.Terms, vi x8.1.g.Nons, vi x8.1.g.Start, (vS d13 x8.1.g.Rules), (vS d14 x8.1.n), (.map (some b7))]), It.mp kE3 vi b7 x8.1.many_]) (l2 := [It.sl (Sh.ro Sh.api_Tree) w16 x8.2.Kids]) s22
    refine d_call (mc rfl (mc rfl (mc rfl (mc rfl (mc rfl m0))))) (ih.2 (a0 := x8.1) c19 (h52.mono (g15.trans g16).z) (h53.mono g16.z) q19) fun w19 H10 i10 k7 => ?_
    have d15 := d12.keep k7
    obtain ⟨w17, w18, b8, _, rfl, s23⟩ := i10
    have s24 := c21 _ _ s23
    obtain ⟨Z17, V17, g17, s25, h54⟩ := (s24.pull 1 rfl).frzR
    obtain ⟨Z18, V18, g18, s26, h55⟩ := (s25.pull 1 rfl).frzR
    obtain ⟨Z19, V19, g19, s27, h56⟩ := s26.frzS 3 rfl
    replace h56 := h56.of_ro
    obtain ⟨d16, rfl⟩ := (h56).val
    refine d_bsl (s := (Sh.ro Sh.api_Tree)) (us := [vi x8.2.Rule, vi x8.2.Term, (vS d16 x8.2.Kids)]) (qs := [(0, 3, (.agg #[vi x8.2.Rule, vi x8.2.Term, (vS d16 x8.2.Kids)]))]) (xs := [x8.2]) (d15.get 21 rfl rfl) s27 (Sh.ro_lt _) rfl rfl rfl (Els.cons (c := [vi x8.2.Rule, vi x8.2.Term, (vS d16 x8.2.Kids)]) (Sh.api_Tree_cl (x := x8.2) h56) Els.nil) rfl rfl fun w20 H11 s28 k8 => ?_
    have d17 := d15.next 21 rfl k8
    obtain ⟨Z20, V20, g20, s29, h57⟩ := s28.frzS 3 rfl
    replace h57 := h57.of_ro
    obtain ⟨x11, q20, e⟩ := oB e
    refine d_app 0 s29 rfl (Sh.ro_lt _) rfl rfl rfl rfl h57 s29.z (fun h => h) (by decide) q20 fun w21 H12 s30 k9 => ?_
    have d18 := d17.keep k9
    refine d_mv (v := w21) rfl ?_
    refine d_nil dc_nil ?_
    refine c_gen (P := fun tm => tm 10 = w21 ∧ True) ⟨rfl, trivial⟩ ?_
    intro _ i11
    obtain ⟨h58, -⟩ := i11
    refine c_rt ?_
    obtain ⟨d19, rfl⟩ := ((h54.mono (g18.trans (g19.trans g20)).z)).val
    obtain ⟨d20, rfl⟩ := ((h55.mono (g19.trans g20).z)).val
    obtain rfl := oJ e
    exact ⟨.inr rfl, _, (ar1 h58), _, _, _, _, rfl, ((((s30.push (ro_it (sl_ro (h54.mono (g18.trans (g19.trans g20)).z)))).push (ro_it (sl_ro (h55.mono (g19.trans g20).z)))).pick [3, 1, 0, 4, 2] rfl).weak (g2.trans (g10.trans (g11.trans (g12.trans (g13.trans (g14.trans (g15.trans (g16.trans (g17.trans (g18.trans (g19.trans g20))))))))))) hs.zv)⟩
theorem X.rank_book_tree {T : FuncId → Option AFunc} (nd : Nd.rank_book_tree T) {φ : Nat} {Z V : PH} {H : Hp} {v1 : Value} {v2 : Value} {m3 : Nat} {o1 : Nat} {a0 : Ty.rank_book} {a1 : Ty.api_Sym} {a2 : Int} {a3 : Int} (hs : Sat Z V H [pts o1 (.rw 0 [vi a0.g.Terms, vi a0.g.Nons, vi a0.g.Start, v1, v2, (.map (some m3))]), It.mp kE3 vi m3 a0.many_]) (hp1 : RdS Sh.api_Rule Z v1 a0.g.Rules) (hp2 : RdS sI1 Z v2 a0.n) {r : (Ty.rank_book × Ty.api_Tree)} (e : P.rank_book_tree φ a0 a1 a2 a3 = some r) :
 G T I.rank_book_tree [(pV o1 0), (.agg #[(.bool a1.Term), vi a1.N]), vi a2, vi a3] H (fun rv H' => ∃ (u1 : Value) (u2 : Value) (o103 : Nat) (u4 : Value), rv = (.agg #[vi r.2.Rule, vi r.2.Term, u4]) ∧ Sat Z V H' [pts o1 (.rw 0 [vi r.1.g.Terms, vi r.1.g.Nons, vi r.1.g.Start, u1, u2, (.map (some o103))]), Sh.it (Sh.ro (Sh.sl Sh.api_Rule)) [u1] r.1.g.Rules, Sh.it (Sh.ro sI2) [u2] r.1.n, It.mp kE3 vi o103 r.1.many_, It.sl (Sh.ro Sh.api_Tree) u4 r.2.Kids]) := (X.rank_book_tree_rec nd φ).1 hs hp1 hp2 e
theorem X.rank_book_kids {T : FuncId → Option AFunc} (nd : Nd.rank_book_kids T) {φ : Nat} {Z V : PH} {H : Hp} {v1 : Value} {v2 : Value} {m3 : Nat} {o1 : Nat} {a0 : Ty.rank_book} {a1 : Int} {a2 : Int} {a3 : Int} {a4 : Int} (hs : Sat Z V H [pts o1 (.rw 0 [vi a0.g.Terms, vi a0.g.Nons, vi a0.g.Start, v1, v2, (.map (some m3))]), It.mp kE3 vi m3 a0.many_]) (hp1 : RdS Sh.api_Rule Z v1 a0.g.Rules) (hp2 : RdS sI1 Z v2 a0.n) {r : (Ty.rank_book × (List Ty.api_Tree))} (e : P.rank_book_kids φ a0 a1 a2 a3 a4 = some r) :
 G T I.rank_book_kids [(pV o1 0), vi a1, vi a2, vi a3, vi a4] H (fun rv H' => ∃ (u1 : Value) (u2 : Value) (o103 : Nat) (u4 : Value), rv = u4 ∧ Sat Z V H' [pts o1 (.rw 0 [vi r.1.g.Terms, vi r.1.g.Nons, vi r.1.g.Start, u1, u2, (.map (some o103))]), Sh.it (Sh.ro (Sh.sl Sh.api_Rule)) [u1] r.1.g.Rules, Sh.it (Sh.ro sI2) [u2] r.1.n, It.mp kE3 vi o103 r.1.many_, It.sl (Sh.ro Sh.api_Tree) u4 r.2]) := (X.rank_book_tree_rec nd φ).2 hs hp1 hp2 e
structure Nd.rank_Tree (T : FuncId → Option AFunc) : Prop where
 own : Has T I.rank_Tree F.rank_Tree
 rank_open : Nd.rank_open T
 rank_book_tree : Nd.rank_book_tree T
set_option maxHeartbeats 1000000 in
theorem X.rank_Tree {T : FuncId → Option AFunc} (nd : Nd.rank_Tree T) {φ : Nat} {Z V : PH} {H : Hp} {v1 : Value} {a0 : Ty.api_Grammar} {a1 : Int} {a2 : Int} (hs : Sat Z V H []) (hp1 : RdS Sh.api_Rule Z v1 a0.Rules) {r : (Ty.api_Tree × Int)} (e : P.rank_Tree φ a0 a1 a2 = some r) :
 G T I.rank_Tree [(.agg #[vi a0.Terms, vi a0.Nons, vi a0.Start, v1]), vi a1, vi a2] H (fun rv H' => ∃ (u1 : Value), rv = (.tuple #[(.agg #[vi r.1.Rule, vi r.1.Term, u1]), vi r.2]) ∧ Sat Z V H' [It.sl (Sh.ro Sh.api_Tree) u1 r.1.Kids]) := by
 unfold P.rank_Tree at e
 refine f_mk nd.own ?_
 refine c_sr ?_
 obtain ⟨d1, rfl⟩ := (hp1).val
 refine o_box hs rfl rfl fun b1 H1 s1 => ?_
 refine o_new s1 fun b2 H2 s2 => ?_
 refine o_mv (v := (vi 0)) rfl ?_
 refine c_nil (c_sr (o_ldB 1 s2 rfl rfl rfl rfl ?_))
 refine o_mv (v := (vi a1)) rfl ?_
 obtain ⟨x1, q1, e⟩ := oB e
 rcases x1 with ⟨_ | y1, x2⟩
 ·rw [Pu.oc2_none] at e
  obtain ⟨Z1, V1, W1, g1, u1, c1, c2, -, c4, c3⟩ := Sat.call (l1 := []) s2
  refine o_call (mc rfl (mc rfl m0)) (X.rank_open nd.rank_open c1 (hp1.mono g1.z) q1) fun _ H3 i1 => ?_
  dsimp only [ov, oi, List.nil_append, List.append_nil, List.cons_append] at i1
  obtain ⟨b3, u2, u3, u4, rfl, s3⟩ := i1
  have s4 := c3 _ _ s3
  refine o_mv (v := (.tuple #[(.pointer none), vi x2.1, vi x2.2])) rfl ?_
  refine o_ext rfl rfl (o_ext rfl rfl (o_ext rfl rfl ?_))
  refine o_mv (v := (.pointer none)) rfl ?_
  refine o_mv (v := (vi x2.1)) rfl ?_
  refine o_mv (v := (vi x2.2)) rfl ?_
  refine c_nil ?_
  refine c_gen (P := fun tm => tm 1 = (vi a1) ∧ tm 2 = (vi a2) ∧ tm 3 = (pV b1 0) ∧ tm 6 = (pV b2 0) ∧ tm 8 = (.pointer none) ∧ tm 9 = (vi x2.1) ∧ tm 10 = (vi x2.2) ∧ True) ⟨rfl, rfl, rfl, rfl, rfl, rfl, rfl, trivial⟩ ?_
  intro _ i2
  obtain ⟨h1, h2, h3, h4, h5, h6, h7, -⟩ := i2
  refine c_sq (c_sr (o_mv h7 (o_neq rfl rfl (c_nil ?_))))
  refine c_ifd rfl (fun q2 => ?_) (fun q2 => ?_)
  ·replace e := if_t q2 e
   refine c_sr ?_
   refine o_bld (qs := []) rfl rfl ?_
   refine o_mv h7 ?_
   refine o_stB (us' := [vi 0, vi 0, (.slice none 0 0)]) 0 s4 rfl h4 rfl rfl rfl rfl rfl fun H4 s5 => ?_
   refine o_mv (v := (vi x2.2)) rfl ?_
   refine c_nil (c_rt ?_)
   obtain rfl := oJ e
   exact ⟨.inr rfl, _, (ra2 (rac 0 s5 rfl h4 rfl rfl) (rat rfl)), _, rfl, (((s5.push (sl_nil (s := (Sh.ro Sh.api_Tree)))).pick [0] rfl).weak g1 hs.zv)⟩
  replace e := if_f q2 e
  refine c_sk (c_sq (c_sr (o_mv h2 (o_lss rfl rfl ?_))))
  refine o_mv (v := (.bool (decide (a2 < 0)))) rfl ?_
  refine o_jn 4 (I := fun tm H => tm 28 = .bool ((decide (a2 < 0)) || (decide (x2.1 ≤ a2))) ∧ (∃ (Z2 V2 : PH), Gw Z1 V1 Z2 V2 ∧ Sat Z2 V2 H [pts b1 (.rw 0 [vi a0.Terms, vi a0.Nons, vi a0.Start, (vS d1 a0.Rules)]), pts b2 (.rw 0 [vi 0, vi 0, (.slice none 0 0)])] ∧ tm 1 = (vi a1) ∧ tm 2 = (vi a2) ∧ tm 3 = (pV b1 0) ∧ tm 6 = (pV b2 0) ∧ tm 8 = (.pointer none))) (fun k1 => ?_) ?_
  ·rcases Bool.eq_false_or_eq_true (decide (a2 < 0)) with q3 | q3
   ·refine o_gn rfl q3 (o_gn rfl q3 (o_gn rfl q3 ?_))
    refine o_pickt (a := (.bool true)) rfl q3 rfl ?_
    exact k1 _ _ ⟨gf rfl (by first | (rw [q3]; first | done | rfl) | simp [q3]), _, _, Gw.refl _ _, (s4.pick [1, 0] rfl), h1, h2, h3, h4, h5⟩
   refine o_gy rfl q3 (o_mv h2 (o_gy rfl q3 (o_mv h6 (o_gy rfl q3 ?_))))
   refine o_geq rfl rfl ?_
   refine o_pickf (b := (.bool (decide (x2.1 ≤ a2)))) rfl q3 rfl ?_
   exact k1 _ _ ⟨gf rfl (by first | (rw [q3]; first | done | rfl) | simp [q3]), _, _, Gw.refl _ _, (s4.pick [1, 0] rfl), h1, h2, h3, h4, h5⟩
  intro _ H5 i3
  obtain ⟨h13, Z2, V2, g2, s6, h8, h9, h10, h11, h12⟩ := i3
  refine c_nil ?_
  refine c_if h13 (fun q4 => ?_) (fun q4 => ?_)
  ·replace e := if_t q4 e
   refine c_sr ?_
   refine o_bld (qs := []) rfl rfl ?_
   refine o_stB (us' := [vi 0, vi 0, (.slice none 0 0)]) 1 s6 rfl h11 rfl rfl rfl rfl rfl fun H6 s7 => ?_
   refine o_mv (v := (vi 5)) rfl ?_
   refine c_nil (c_rt ?_)
   obtain rfl := oJ e
   exact ⟨.inr rfl, _, (ra2 (rac 1 s7 rfl h11 rfl rfl) (rat rfl)), _, rfl, (((s7.push (sl_nil (s := (Sh.ro Sh.api_Tree)))).pick [0] rfl).weak (g1.trans g2) hs.zv)⟩
  replace e := ib_f q4 e
  refine c_sk (c_sr (o_mv h12 (o_fad h10 (o_ldB 0 s6 rfl rfl rfl rfl ?_))))
  refine o_bld (qs := [(1, 1, (vi a0.Start))]) rfl rfl ?_
  refine o_mv h8 (o_mv h9 ?_)
  cases e
 rw [Pu.oc2_some] at e
 obtain ⟨Z3, V3, W2, g3, u5, c5, c6, -, c8, c7⟩ := Sat.call (l1 := []) s2
 refine o_call (mc rfl (mc rfl m0)) (X.rank_open nd.rank_open c5 (hp1.mono g3.z) q1) fun _ H7 i4 => ?_
 dsimp only [ov, oi, List.nil_append, List.append_nil, List.cons_append] at i4
 obtain ⟨b4, w1, w2, b5, rfl, s8⟩ := i4
 have s9 := c7 _ _ s8
 obtain ⟨Z4, V4, g4, s10, h14⟩ := (s9.pull 1 rfl).frzR
 refine o_mv (v := (.tuple #[(pV b4 0), vi x2.1, vi x2.2])) rfl ?_
 refine o_ext rfl rfl (o_ext rfl rfl (o_ext rfl rfl ?_))
 refine o_mv (v := (pV b4 0)) rfl ?_
 refine o_mv (v := (vi x2.1)) rfl ?_
 refine o_mv (v := (vi x2.2)) rfl ?_
 refine c_nil ?_
 refine c_gen (P := fun tm => tm 1 = (vi a1) ∧ tm 2 = (vi a2) ∧ tm 3 = (pV b1 0) ∧ tm 6 = (pV b2 0) ∧ tm 8 = (pV b4 0) ∧ tm 9 = (vi x2.1) ∧ tm 10 = (vi x2.2) ∧ True) ⟨rfl, rfl, rfl, rfl, rfl, rfl, rfl, trivial⟩ ?_
 intro _ i5
 obtain ⟨h15, h16, h17, h18, h19, h20, h21, -⟩ := i5
 refine c_sq (c_sr (o_mv h21 (o_neq rfl rfl (c_nil ?_))))
 refine c_ifd rfl (fun q5 => ?_) (fun q5 => ?_)
 ·replace e := if_t q5 e
  refine c_sr ?_
  refine o_bld (qs := []) rfl rfl ?_
  refine o_mv h21 ?_
  refine o_stB (us' := [vi 0, vi 0, (.slice none 0 0)]) 3 s10 rfl h18 rfl rfl rfl rfl rfl fun H8 s11 => ?_
  refine o_mv (v := (vi x2.2)) rfl ?_
  refine c_nil (c_rt ?_)
  obtain rfl := oJ e
  exact ⟨.inr rfl, _, (ra2 (rac 3 s11 rfl h18 rfl rfl) (rat rfl)), _, rfl, (((s11.push (sl_nil (s := (Sh.ro Sh.api_Tree)))).pick [0] rfl).weak (g3.trans g4) hs.zv)⟩
 replace e := if_f q5 e
 refine c_sk (c_sq (c_sr (o_mv h16 (o_lss rfl rfl ?_))))
 refine o_mv (v := (.bool (decide (a2 < 0)))) rfl ?_
 refine o_jn 4 (I := fun tm H => tm 28 = .bool ((decide (a2 < 0)) || (decide (x2.1 ≤ a2))) ∧ (∃ (Z5 V5 : PH), Gw Z4 V4 Z5 V5 ∧ Sat Z5 V5 H [pts b1 (.rw 0 [vi a0.Terms, vi a0.Nons, vi a0.Start, (vS d1 a0.Rules)]), pts b2 (.rw 0 [vi 0, vi 0, (.slice none 0 0)]), pts b4 (.rw 0 [vi y1.g.Terms, vi y1.g.Nons, vi y1.g.Start, w1, w2, (.map (some b5))]), It.sl sI1 w2 y1.n, It.mp kE3 vi b5 y1.many_] ∧ tm 1 = (vi a1) ∧ tm 2 = (vi a2) ∧ tm 3 = (pV b1 0) ∧ tm 6 = (pV b2 0) ∧ tm 8 = (pV b4 0))) (fun k2 => ?_) ?_
 ·rcases Bool.eq_false_or_eq_true (decide (a2 < 0)) with q6 | q6
  ·refine o_gn rfl q6 (o_gn rfl q6 (o_gn rfl q6 ?_))
   refine o_pickt (a := (.bool true)) rfl q6 rfl ?_
   exact k2 _ _ ⟨gf rfl (by first | (rw [q6]; first | done | rfl) | simp [q6]), _, _, Gw.refl _ _, (s10.pick [4, 3, 0, 1, 2] rfl), h15, h16, h17, h18, h19⟩
  refine o_gy rfl q6 (o_mv h16 (o_gy rfl q6 (o_mv h20 (o_gy rfl q6 ?_))))
  refine o_geq rfl rfl ?_
  refine o_pickf (b := (.bool (decide (x2.1 ≤ a2)))) rfl q6 rfl ?_
  exact k2 _ _ ⟨gf rfl (by first | (rw [q6]; first | done | rfl) | simp [q6]), _, _, Gw.refl _ _, (s10.pick [4, 3, 0, 1, 2] rfl), h15, h16, h17, h18, h19⟩
 intro _ H9 i6
 obtain ⟨h27, Z5, V5, g5, s12, h22, h23, h24, h25, h26⟩ := i6
 refine c_nil ?_
 refine c_if h27 (fun q7 => ?_) (fun q7 => ?_)
 ·replace e := if_t q7 e
  refine c_sr ?_
  refine o_bld (qs := []) rfl rfl ?_
  refine o_stB (us' := [vi 0, vi 0, (.slice none 0 0)]) 1 s12 rfl h25 rfl rfl rfl rfl rfl fun H10 s13 => ?_
  refine o_mv (v := (vi 5)) rfl ?_
  refine c_nil (c_rt ?_)
  obtain rfl := oJ e
  exact ⟨.inr rfl, _, (ra2 (rac 1 s13 rfl h25 rfl rfl) (rat rfl)), _, rfl, (((s13.push (sl_nil (s := (Sh.ro Sh.api_Tree)))).pick [0] rfl).weak (g3.trans (g4.trans g5)) hs.zv)⟩
 replace e := ib_f q7 e
 refine c_sk (c_sr (o_mv h26 (o_fad h24 (o_ldB 0 s12 rfl rfl rfl rfl ?_))))
 refine o_bld (qs := [(1, 1, (vi a0.Start))]) rfl rfl ?_
 refine o_mv h22 (o_mv h23 ?_)
 obtain ⟨Z6, V6, g6, s14, h28⟩ := s12.frzS 3 rfl
 obtain ⟨x3, q8, e⟩ := oB e
 obtain ⟨d2, rfl⟩ := ((h14.mono (g5.trans g6).z)).val
 obtain ⟨d3, rfl⟩ := (h28).val
 obtain ⟨Z7, V7, W3, g7, u6, c9, c10, -, c12, c11⟩ := Sat.call (l1 := [pts b4 (.rw 0 [vi y1.g.Terms, vi y1.g.Nons, vi y1.g.Start, (vS d2 y1.g.Rules), (vS d3 y1.n), (.map (some b5))]), It.mp kE3 vi b5 y1.many_]) (l2 := [pts b1 (.rw 0 [vi a0.Terms, vi a0.Nons, vi a0.Start, (vS d1 a0.Rules)]), pts b2 (.rw 0 [vi 0, vi 0, (.slice none 0 0)])]) (s14.pick [2, 3, 0, 1] rfl)
 refine o_call (mc rfl (mc rfl (mc rfl (mc rfl m0)))) (X.rank_book_tree nd.rank_book_tree (a0 := y1) (a1 := (Ty.api_Sym.mk false a0.Start)) c9 (h14.mono ((g5.trans g6).trans g7).z) (h28.mono g7.z) q8) fun _ H11 i7 => ?_
 obtain ⟨w3, w4, b6, w5, rfl, s15⟩ := i7
 have s16 := c11 _ _ s15
 obtain ⟨Z8, V8, g8, s17, h29⟩ := (s16.pull 1 rfl).frzR
 obtain ⟨Z9, V9, g9, s18, h30⟩ := (s17.pull 1 rfl).frzR
 obtain ⟨d4, rfl⟩ := ((s18.curS (s := (Sh.ro Sh.api_Tree)) 2 rfl)).val
 refine o_stB (us' := [vi x3.2.Rule, vi x3.2.Term, (vS d4 x3.2.Kids)]) 4 s18 rfl h25 rfl rfl rfl rfl rfl fun H12 s19 => ?_
 refine o_mv (v := (vi 0)) rfl ?_
 refine c_nil (c_rt ?_)
 obtain rfl := oJ e
 exact ⟨.inr rfl, _, (ra2 (rac 4 s19 rfl h25 rfl rfl) (rat rfl)), _, rfl, ((s19.pick [2] rfl).weak (g3.trans (g4.trans (g5.trans (g6.trans (g7.trans (g8.trans g9)))))) hs.zv)⟩
structure Nd.tree_word (T : FuncId → Option AFunc) : Prop where
 own_tree_word : Has T I.tree_word F.tree_word
 tree_leaf : Nd.tree_leaf T
set_option maxHeartbeats 1000000 in
theorem X.tree_word_rec {T : FuncId → Option AFunc} (nd : Nd.tree_word T) : ∀ φ : Nat, (∀ {Z V : PH} {H : Hp} {v1 : Value} {v2 : Value} {a0 : (List Int)} {a1 : Ty.api_Tree} (hs : Sat Z V H [It.sl Sh.int v1 a0]) (hp2 : RdS Sh.api_Tree V v2 a1.Kids) {r : (List Int)} (e : P.tree_word φ a0 a1 = some r), G T I.tree_word [v1, (.agg #[vi a1.Rule, vi a1.Term, v2])] H (fun rv H' => ∃ (u1 : Value), rv = u1 ∧ Sat Z V H' [It.sl Sh.int u1 r])) := by
 intro φ
 induction φ with
 | zero =>
   intro Z V H v1 v2 a0 a1 hs hp2 r e
   rw [P.tree_word] at e; cases e
 | succ φ ih =>
   intro Z V H v1 v2 a0 a1 hs hp2 r e
   rw [P.tree_word] at e
   refine f_mk nd.own_tree_word ?_
   refine c_sr ?_
   obtain ⟨d1, rfl⟩ := (hp2).val
   refine o_box hs rfl rfl fun b1 H1 s1 => ?_
   refine o_mv (v := (.slice none 0 0)) rfl ?_
   refine c_nil (c_sq (c_sr (o_ldB 0 s1 rfl rfl rfl rfl ?_)))
   obtain ⟨x1, q1, e⟩ := oB e
   obtain ⟨Z1, V1, W1, g1, u1, c1, c2, -, c4, c3⟩ := Sat.call (l1 := []) s1
   refine o_call (mc rfl m0) (X.tree_leaf nd.tree_leaf c1 (hp2.mono (g1.v.trans u1)) q1) fun _ H2 i1 => ?_
   obtain ⟨rfl, s2⟩ := i1
   have s3 := c3 _ _ s2
   refine c_nil ?_
   refine c_if rfl (fun q2 => ?_) (fun q2 => ?_)
   ·replace e := if_t q2 e
    refine c_sr ?_
    refine o_mv (v := v1) rfl ?_
    refine o_fad rfl (o_ldB 0 s3 rfl rfl rfl rfl ?_)
    refine o_bsl (s := Sh.int) (us := [vi a1.Term]) (qs := [(0, 1, (vi a1.Term))]) (xs := [a1.Term]) s3 Sh.flat_lt rfl rfl rfl (Els.cons (c := [vi a1.Term]) rfl Els.nil) rfl rfl fun w1 H3 s4 => ?_
    obtain ⟨x2, q3, e⟩ := oB e
    refine o_app 2 s4 rfl Sh.flat_lt rfl rfl rfl rfl (s4.curS (s := Sh.int) 0 rfl) pR (fun h => h) (by decide) q3 fun w2 H4 s5 => ?_
    refine o_mv (v := w2) rfl ?_
    refine c_nil ?_
    refine c_gen (P := fun tm => tm 4 = w2 ∧ True) ⟨rfl, trivial⟩ ?_
    intro _ i2
    obtain ⟨h1, -⟩ := i2
    refine c_rt ?_
    obtain rfl := oJ e
    exact ⟨.inr rfl, _, (ar1 h1), _, rfl, ((s5.pick [2] rfl).weak g1 hs.zv)⟩
   replace e := ib_f q2 e
   refine c_sk (c_sq (c_sr (o_fad rfl (o_ldB 0 s3 rfl rfl rfl rfl ?_))))
   refine o_len rfl ((hp2.mono g1.v)).len ?_
   refine o_mv (v := (vi 0)) rfl ?_
   refine c_nil ?_
   obtain ⟨y1, q6, e⟩ := oB e
   refine c_bk ?_
   refine l_forP (xs := a1.Kids) (fun (i3 : Nat) (s6 : (List Int)) tm H => tm 17 = vi i3 ∧ ∃ (Z2 V2 : PH) (w3 : Value), Gw Z1 V1 Z2 V2 ∧ Sat Z2 V2 H [It.sl Sh.int w3 s6] ∧ tm 0 = w3 ∧ tm 15 = (vS d1 a1.Kids) ∧ tm 16 = (vN a1.Kids)) (fun i3 x3 s6 s8 tm H6 q4 q5 j1 e1 k1 => ?_) (fun tm H5 jd => ?_) q6 ⟨rfl, _, _, _, Gw.refl _ _, (s3.pick [1] rfl), rfl, rfl, rfl⟩
   ·obtain ⟨hti0, Z2, V2, w3, g2, s7, h2, h3, h4⟩ := j1
    unfold P.tree_word.b0 at e1
    refine c_sr (o_lss hti0 h4 (c_nil (c_sq ?_)))
    refine c_ift rfl (Int.ofNat_lt.2 q5) ?_
    refine c_sk (c_sq (c_bk (c_sr ?_)))
    refine o_idx (v := (vS d1 a1.Kids)) h3 hti0 (hp2.mono (g1.trans g2).v) rfl (Pu.ix_nat.trans q4) fun p1 q7 => ?_
    refine o_lda rfl (hp2.mono (g1.trans g2).v) s7.v rfl q7 (Pu.ix_nat.trans q4) fun c5 h5 => ?_
    obtain ⟨w4, rfl, h6⟩ := Sh.api_Tree_op h5
    refine o_new s7 fun b2 H7 s9 => ?_
    obtain ⟨d2, rfl⟩ := (h6).val
    refine o_stB (us' := [vi x3.Rule, vi x3.Term, (vS d2 x3.Kids)]) 0 s9 rfl rfl rfl rfl rfl rfl rfl fun H8 s10 => ?_
    refine c_nil (c_r (o_mv h2 (o_ldB 0 s10 rfl rfl rfl rfl ?_)))
    obtain ⟨x4, q8, e1⟩ := oB e1
    obtain ⟨Z3, V3, W2, g3, u2, c6, c7, -, c9, c8⟩ := Sat.call (l1 := [It.sl Sh.int w3 s6]) (l2 := [pts b2 (.rw 0 [vi x3.Rule, vi x3.Term, (vS d2 x3.Kids)])]) (s10.pick [1, 0] rfl)
    refine o_call (mc rfl (mc rfl m0)) (ih c6 (h6.mono (g3.v.trans u2)) q8) fun w5 H9 i4 => ?_
    obtain ⟨_, rfl, s11⟩ := i4
    have s12 := c8 _ _ s11
    refine o_mv (v := w5) rfl ?_
    refine c_nil (c_end (c_r (o_add hti0 rfl ?_)))
    refine o_mv (v := (vi (Pu.W ((i3 : Int) + 1)))) rfl ?_
    refine c_nil ?_
    obtain rfl := oJ e1
    exact k1 _ _ ⟨(iv rfl (w_suc q5 ((hp2.mono g1.v)).bd)), _, _, _, (g2.trans g3), (s12.pick [0] rfl), rfl, h3, h4⟩
   obtain ⟨hte0, Z4, V4, w6, g4, s13, h7, h8, h9⟩ := jd
   refine c_sr (o_lss hte0 h9 (c_nil (c_sq ?_)))
   refine c_iff rfl (Int.lt_irrefl _) ?_
   refine c_ex ?_
   refine e_c ?_
   refine e_c ?_
   refine e_h ?_
   refine c_sr (o_mv h7 ?_)
   refine o_mv (v := w6) rfl ?_
   refine c_nil (c_rt ?_)
   obtain rfl := oJ e
   exact ⟨.inr rfl, _, (ar1 rfl), _, rfl, (s13.weak (g1.trans g4) hs.zv)⟩
theorem X.tree_word {T : FuncId → Option AFunc} (nd : Nd.tree_word T) {φ : Nat} {Z V : PH} {H : Hp} {v1 : Value} {v2 : Value} {a0 : (List Int)} {a1 : Ty.api_Tree} (hs : Sat Z V H [It.sl Sh.int v1 a0]) (hp2 : RdS Sh.api_Tree V v2 a1.Kids) {r : (List Int)} (e : P.tree_word φ a0 a1 = some r) :
 G T I.tree_word [v1, (.agg #[vi a1.Rule, vi a1.Term, v2])] H (fun rv H' => ∃ (u1 : Value), rv = u1 ∧ Sat Z V H' [It.sl Sh.int u1 r]) := (X.tree_word_rec nd φ) hs hp2 e
structure Nd.tree_Word (T : FuncId → Option AFunc) : Prop where
 own : Has T I.tree_Word F.tree_Word
 tree_word : Nd.tree_word T
set_option maxHeartbeats 1000000 in
theorem X.tree_Word {T : FuncId → Option AFunc} (nd : Nd.tree_Word T) {φ : Nat} {Z V : PH} {H : Hp} {v1 : Value} {a0 : Ty.api_Tree} (hs : Sat Z V H []) (hp1 : RdS Sh.api_Tree V v1 a0.Kids) {r : (List Int)} (e : P.tree_Word φ a0 = some r) :
 G T I.tree_Word [(.agg #[vi a0.Rule, vi a0.Term, v1])] H (fun rv H' => ∃ (u1 : Value), rv = u1 ∧ Sat Z V H' [It.sl Sh.int u1 r]) := by
 unfold P.tree_Word at e
 refine f_mk nd.own ?_
 refine c_sr ?_
 obtain ⟨d1, rfl⟩ := (hp1).val
 refine o_box hs rfl rfl fun b1 H1 s1 => ?_
 refine o_mv (v := (.slice none 0 0)) rfl ?_
 refine c_nil (c_sr (o_ldB 0 s1 rfl rfl rfl rfl ?_))
 obtain ⟨x1, q1, e⟩ := oB e
 have s2 := s1.push (sl_nil (s := Sh.int))
 obtain ⟨Z1, V1, W1, g1, u1, c1, c2, -, c4, c3⟩ := Sat.call (l1 := [It.sl Sh.int (.slice none 0 0) []]) (l2 := [pts b1 (.rw 0 [vi a0.Rule, vi a0.Term, (vS d1 a0.Kids)])]) s2
 refine o_call (mc rfl (mc rfl m0)) (X.tree_word nd.tree_word c1 (hp1.mono (g1.v.trans u1)) q1) fun w1 H2 i1 => ?_
 obtain ⟨_, rfl, s3⟩ := i1
 have s4 := c3 _ _ s3
 refine o_mv (v := w1) rfl ?_
 refine c_nil (c_rt ?_)
 obtain rfl := oJ e
 exact ⟨.inr rfl, _, (ar1 rfl), _, rfl, ((s4.pick [0] rfl).weak g1 hs.zv)⟩
structure Nd.rank_book_of (T : FuncId → Option AFunc) : Prop where
 own_rank_book_of : Has T I.rank_book_of F.rank_book_of
 own_rank_book_ofKids : Has T I.rank_book_ofKids F.rank_book_ofKids
 rank_book_ways : Nd.rank_book_ways T
 tree_Word : Nd.tree_Word T
 rank_book_part : Nd.rank_book_part T
abbrev Nd.rank_book_ofKids := Nd.rank_book_of
set_option maxHeartbeats 1000000 in
theorem X.rank_book_of_rec {T : FuncId → Option AFunc} (nd : Nd.rank_book_of T) : ∀ φ : Nat, (∀ {Z V : PH} {H : Hp} {v1 : Value} {v2 : Value} {m3 : Nat} {o1 : Nat} {v4 : Value} {a0 : Ty.rank_book} {a1 : Ty.api_Tree} {a2 : Int} (hs : Sat Z V H [pts o1 (.rw 0 [vi a0.g.Terms, vi a0.g.Nons, vi a0.g.Start, v1, v2, (.map (some m3))]), It.mp kE3 vi m3 a0.many_]) (hp1 : RdS Sh.api_Rule Z v1 a0.g.Rules) (hp2 : RdS sI1 Z v2 a0.n) (hp4 : RdS Sh.api_Tree Z v4 a1.Kids) {r : (Ty.rank_book × Int)} (e : P.rank_book_of φ a0 a1 a2 = some r), G T I.rank_book_of [(pV o1 0), (.agg #[vi a1.Rule, vi a1.Term, v4]), vi a2] H (fun rv H' => ∃ (u1 : Value) (u2 : Value) (o103 : Nat), rv = (vi r.2) ∧ Sat Z V H' [pts o1 (.rw 0 [vi r.1.g.Terms, vi r.1.g.Nons, vi r.1.g.Start, u1, u2, (.map (some o103))]), Sh.it (Sh.ro (Sh.sl Sh.api_Rule)) [u1] r.1.g.Rules, Sh.it (Sh.ro sI2) [u2] r.1.n, It.mp kE3 vi o103 r.1.many_])) ∧ (∀ {Z V : PH} {H : Hp} {v1 : Value} {v2 : Value} {m3 : Nat} {o1 : Nat} {v4 : Value} {a0 : Ty.rank_book} {a1 : Int} {a2 : (List Ty.api_Tree)} {a3 : Int} (hs : Sat Z V H [pts o1 (.rw 0 [vi a0.g.Terms, vi a0.g.Nons, vi a0.g.Start, v1, v2, (.map (some m3))]), It.mp kE3 vi m3 a0.many_]) (hp1 : RdS Sh.api_Rule Z v1 a0.g.Rules) (hp2 : RdS sI1 Z v2 a0.n) (hp4 : RdS Sh.api_Tree Z v4 a2) {r : (Ty.rank_book × Int)} (e : P.rank_book_ofKids φ a0 a1 a2 a3 = some r), G T I.rank_book_ofKids [(pV o1 0), vi a1, v4, vi a3] H (fun rv H' => ∃ (u1 : Value) (u2 : Value) (o103 : Nat), rv = (vi r.2) ∧ Sat Z V H' [pts o1 (.rw 0 [vi r.1.g.Terms, vi r.1.g.Nons, vi r.1.g.Start, u1, u2, (.map (some o103))]), Sh.it (Sh.ro (Sh.sl Sh.api_Rule)) [u1] r.1.g.Rules, Sh.it (Sh.ro sI2) [u2] r.1.n, It.mp kE3 vi o103 r.1.many_])) := by
 intro φ
 induction φ with
 | zero =>
   refine ⟨?_, ?_⟩
   ·intro Z V H v1 v2 m3 o1 v4 a0 a1 a2 hs hp1 hp2 hp4 r e
    rw [P.rank_book_of] at e; cases e
   ·intro Z V H v1 v2 m3 o1 v4 a0 a1 a2 a3 hs hp1 hp2 hp4 r e
    rw [P.rank_book_ofKids] at e; cases e
 | succ φ ih =>
   refine ⟨?_, ?_⟩
   ·intro Z V H v1 v2 m3 o1 v4 a0 a1 a2 hs hp1 hp2 hp4 r e
    rw [P.rank_book_of] at e
    refine f_mk nd.own_rank_book_of ?_
    refine c_sr ?_
    obtain ⟨d1, rfl⟩ := (hp4).val
    refine o_box hs rfl rfl fun b1 H1 s1 => ?_
    refine o_mv (v := (vi 0)) rfl ?_
    refine c_nil (c_sq (c_sr (o_fad rfl (o_ldB 0 s1 rfl rfl rfl rfl ?_))))
    refine o_lss rfl rfl (c_nil ?_)
    refine c_ifd rfl (fun q1 => ?_) (fun q1 => ?_)
    ·replace e := if_t q1 e
     refine c_sr ?_
     refine o_mv (v := (vi 0)) rfl ?_
     refine c_nil (c_rt ?_)
     obtain ⟨d2, rfl⟩ := (hp1).val
     obtain ⟨d3, rfl⟩ := (hp2).val
     obtain rfl := oJ e
     exact ⟨.inr rfl, _, (ar1 rfl), _, _, _, rfl, (((s1.push (ro_it (sl_ro hp1))).push (ro_it (sl_ro hp2))).pick [3, 1, 0, 4] rfl)⟩
    replace e := if_f q1 e
    refine c_sk (c_sr ?_)
    refine o_mv (v := (vi 0)) rfl ?_
    refine c_nil (c_sq ?_)
    refine c_gen (P := fun tm => tm 0 = (pV o1 0) ∧ tm 2 = (vi a2) ∧ tm 4 = (pV b1 0) ∧ tm 7 = (vi 0) ∧ True) ⟨rfl, rfl, rfl, rfl, trivial⟩ ?_
    intro _ i1
    obtain ⟨h1, h2, h3, h4, -⟩ := i1
    refine d_start s1 fun n1 H2 s2 q2 d4 => ?_
    refine d_mv h1 ?_
    refine d_nck rfl ?_
    refine d_fad rfl ?_
    refine d_fad rfl ?_
    obtain ⟨d5, rfl⟩ := (hp1).val
    obtain ⟨d6, rfl⟩ := (hp2).val
    refine d_ldB (q2 _ _ (ph_some.2 ⟨s2.curB 1 rfl, by simp⟩)) 1 s2 rfl rfl rfl rfl ?_
    refine d_fad h3 ?_
    refine d_ldB (q2 _ _ (ph_some.2 ⟨s2.curB 0 rfl, by simp⟩)) 0 s2 rfl rfl rfl rfl ?_
    obtain ⟨x1, q3, e⟩ := oB e
    refine d_idx (v := (vS d5 a0.g.Rules)) rfl rfl hp1 rfl q3 fun p1 q4 => ?_
    refine d_fadE rfl q4 fun p2 q5 => ?_
    refine d_ldF (RdS.low hp1 s2.z q2) rfl hp1 s2.z rfl q4 q5 q3 rfl fun c1 h5 => ?_
    obtain ⟨w1, rfl, h6⟩ := Sh.api_Rule_op h5
    refine ⟨_, rfl, ?_⟩
    refine d_mv (v := (vi x1.Left)) rfl ?_
    refine d_nil dc_nil ?_
    refine c_gen (P := fun tm => tm 0 = (pV o1 0) ∧ tm 2 = (vi a2) ∧ tm 4 = (pV b1 0) ∧ tm 7 = (vi 0) ∧ tm 8 = (vi x1.Left) ∧ True) ⟨h1, h2, h3, h4, rfl, trivial⟩ ?_
    intro _ i2
    obtain ⟨h7, h8, h9, h10, h11, -⟩ := i2
    refine c_sq (c_sq ?_)
    refine d_start s2 fun n2 H3 s3 q6 d7 => ?_
    refine d_mv h7 ?_
    refine d_nck rfl ?_
    refine d_fad rfl ?_
    refine d_fad rfl ?_
    refine d_ldB (q6 _ _ (ph_some.2 ⟨s3.curB 1 rfl, by simp⟩)) 1 s3 rfl rfl rfl rfl ?_
    refine d_fad h9 ?_
    refine d_ldB (q6 _ _ (ph_some.2 ⟨s3.curB 0 rfl, by simp⟩)) 0 s3 rfl rfl rfl rfl ?_
    obtain ⟨x2, q7, e⟩ := oB e
    refine d_slch (RdS.low hp1 s3.z q6) rfl rfl hp1 s3.z rfl q7 fun w2 h12 => ?_
    refine d_len rfl (h12).len ?_
    refine d_mv (v := (vi 0)) rfl ?_
    refine d_nil dc_nil ?_
    refine c_gen (P := fun tm => tm 0 = (pV o1 0) ∧ tm 2 = (vi a2) ∧ tm 4 = (pV b1 0) ∧ tm 7 = (vi 0) ∧ tm 8 = (vi x1.Left) ∧ tm 31 = w2 ∧ tm 32 = (vN x2) ∧ tm 33 = (vi 0) ∧ True) ⟨h7, h8, h9, h10, h11, rfl, rfl, rfl, trivial⟩ ?_
    intro _ i3
    obtain ⟨h13, h14, h15, h16, h17, h18, h19, h20, -⟩ := i3
    obtain ⟨y1, q10, e⟩ := oB e
    refine c_bk ?_
    refine l_forP (xs := x2) (fun (i4 : Nat) (s4 : (Int × Int × Int × (List Ty.api_Rule) × (List (List Int)) × (List ((Int × Int × Int) × Int)) × Int)) tm H => tm 33 = vi i4 ∧ ∃ (Z1 V1 : PH) (b2 : Nat) (w3 : Value) (w4 : Value), Gw Z V Z1 V1 ∧ Sat Z1 V1 H [pts o1 (.rw 0 [vi s4.1, vi s4.2.1, vi s4.2.2.1, w3, w4, (.map (some b2))]), It.mp kE3 vi b2 s4.2.2.2.2.2.1, pts b1 (.rw 0 [vi a1.Rule, vi a1.Term, (vS d1 a1.Kids)])] ∧ tm 0 = (pV o1 0) ∧ tm 2 = (vi a2) ∧ tm 4 = (pV b1 0) ∧ tm 7 = (vi s4.2.2.2.2.2.2) ∧ tm 8 = (vi x1.Left) ∧ tm 31 = w2 ∧ tm 32 = (vN x2) ∧ RdS Sh.api_Rule Z1 w3 s4.2.2.2.1 ∧ RdS sI1 Z1 w4 s4.2.2.2.2.1) (fun i4 x3 s4 s6 tm H5 q8 q9 j1 e1 k1 => ?_) (fun tm H4 jd => ?_) q10 ⟨h20, _, _, _, _, _, Gw.refl _ _, (s3.pick [1, 2, 0] rfl), h13, h14, h15, h16, h17, h18, h19, hp1, hp2⟩
    ·obtain ⟨hti0, Z1, V1, b2, w3, w4, g1, s5, h23, h24, h25, h26, h27, h28, h29, h21, h22⟩ := j1
     unfold P.rank_book_of.b0 at e1
     refine c_sr (o_lss hti0 h29 (c_nil (c_sq ?_)))
     refine c_ift rfl (Int.ofNat_lt.2 q9) ?_
     refine c_sk (c_sq (c_bk (c_sr (o_mv hti0 ?_))))
     refine o_idx (v := w2) h28 hti0 (h12.mono g1.z) rfl (Pu.ix_nat.trans q8) fun p3 q11 => ?_
     refine o_lda rfl (h12.mono g1.z) s5.z rfl q11 (Pu.ix_nat.trans q8) fun c2 h30 => ?_
     obtain ⟨w5, rfl, h31⟩ := Sh.api_Rule_op h30
     refine o_new s5 fun b3 H6 s7 => ?_
     refine o_mv (v := (vJ i4)) rfl ?_
     obtain ⟨d8, rfl⟩ := (h31).val
     refine o_stB (us' := [vi x3.Left, (vS d8 x3.Right)]) 0 s7 rfl rfl rfl rfl rfl rfl rfl fun H7 s8 => ?_
     refine c_nil (c_sr (o_fad rfl (o_ldB 0 s8 rfl rfl rfl rfl (o_mv h27 ?_))))
     refine o_eql rfl rfl (c_nil ?_)
     refine c_gen (P := fun tm => tm 0 = (pV o1 0) ∧ tm 2 = (vi a2) ∧ tm 4 = (pV b1 0) ∧ tm 7 = (vi s4.2.2.2.2.2.2) ∧ tm 8 = (vi x1.Left) ∧ tm 9 = (vJ i4) ∧ tm 31 = w2 ∧ tm 32 = (vN x2) ∧ tm 33 = (vJ i4) ∧ tm 41 = (.bool (decide (x3.Left = x1.Left))) ∧ True) ⟨h23, h24, h25, h26, h27, rfl, h28, h29, hti0, rfl, trivial⟩ ?_
     intro _ i5
     obtain ⟨h32, h33, h34, h35, h36, h37, h38, h39, h40, h41, -⟩ := i5
     obtain ⟨y2, e2, e1⟩ := oB e1
     refine c_jn (I := fun tm H => ∃ (Z2 V2 : PH) (b4 : Nat) (w6 : Value) (w7 : Value), Gw Z1 V1 Z2 V2 ∧ Sat Z2 V2 H [pts o1 (.rw 0 [vi y2.1, vi y2.2.1, vi y2.2.2.1, w6, w7, (.map (some b4))]), It.mp kE3 vi b4 y2.2.2.2.2.2.1, pts b1 (.rw 0 [vi a1.Rule, vi a1.Term, (vS d1 a1.Kids)])] ∧ tm 0 = (pV o1 0) ∧ tm 2 = (vi a2) ∧ tm 4 = (pV b1 0) ∧ tm 7 = (vi y2.2.2.2.2.2.2) ∧ tm 8 = (vi x1.Left) ∧ tm 31 = w2 ∧ tm 32 = (vN x2) ∧ tm 33 = (vJ i4) ∧ RdS Sh.api_Rule Z2 w6 y2.2.2.2.1 ∧ RdS sI1 Z2 w7 y2.2.2.2.2.1) (fun k2 => ?_) ?_
     ·refine c_ifd h41 (fun q12 => ?_) (fun q12 => ?_)
      ·replace e2 := if_t q12 e2
       refine c_r (o_mv h35 (o_mv h32 (o_mv h37 (o_mv h33 ?_))))
       obtain ⟨x4, q13, e2⟩ := oB e2
       obtain ⟨d9, rfl⟩ := (h21).val
       obtain ⟨d10, rfl⟩ := (h22).val
       obtain ⟨Z3, V3, W1, g3, u1, c3, c4, -, c6, c5⟩ := Sat.call (l1 := [pts o1 (.rw 0 [vi s4.1, vi s4.2.1, vi s4.2.2.1, (vS d9 s4.2.2.2.1), (vS d10 s4.2.2.2.2.1), (.map (some b2))]), It.mp kE3 vi b2 s4.2.2.2.2.2.1]) (l2 := [pts b3 (.rw 0 [vi x3.Left, (vS d8 x3.Right)]), pts b1 (.rw 0 [vi a1.Rule, vi a1.Term, (vS d1 a1.Kids)])]) (s8.pick [1, 2, 0, 3] rfl)
       refine o_call (mc rfl (mc rfl (mc rfl (mc rfl m0)))) (X.rank_book_ways nd.rank_book_ways (a0 := (Ty.rank_book.mk (Ty.api_Grammar.mk s4.1 s4.2.1 s4.2.2.1 s4.2.2.2.1) s4.2.2.2.2.1 s4.2.2.2.2.2.1)) c3 (h21.mono g3.z) (h22.mono g3.z) q13) fun _ H9 i6 => ?_
       obtain ⟨w8, w9, b5, rfl, s10⟩ := i6
       have s11 := c5 _ _ s10
       obtain ⟨Z4, V4, g4, s12, h52⟩ := (s11.pull 1 rfl).frzR
       obtain ⟨Z5, V5, g5, s13, h53⟩ := (s12.pull 1 rfl).frzR
       refine o_add rfl rfl ?_
       refine o_mv (v := (vi (Pu.W (s4.2.2.2.2.2.2 + x4.2)))) rfl ?_
       refine c_nil ?_
       obtain rfl := oJ e2
       exact k2 _ _ ⟨_, _, _, _, _, (g3.trans (g4.trans g5)), (s13.pick [0, 1, 3] rfl), h32, h33, h34, rfl, h36, h38, h39, h40, (h52.mono g5.z), h53⟩
      replace e2 := if_f q12 e2
      refine c_sk ?_
      obtain rfl := oJ e2
      exact k2 _ _ ⟨_, _, _, _, _, Gw.refl _ _, (s8.pick [1, 2, 3] rfl), h32, h33, h34, h35, h36, h38, h39, h40, h21, h22⟩
     intro _ H8 i7
     obtain ⟨Z2, V2, b4, w6, w7, g2, s9, h44, h45, h46, h47, h48, h49, h50, h51, h42, h43⟩ := i7
     refine c_end (c_r (o_add h51 rfl ?_))
     refine o_mv (v := (vi (Pu.W ((i4 : Int) + 1)))) rfl ?_
     refine c_nil ?_
     obtain rfl := oJ e1
     exact k1 _ _ ⟨(iv rfl (w_suc q9 (h12).bd)), _, _, _, _, _, (g1.trans g2), s9, h44, h45, h46, h47, h48, h49, h50, h42, h43⟩
    obtain ⟨hte0, Z6, V6, b6, w10, w11, g6, s14, h56, h57, h58, h59, h60, h61, h62, h54, h55⟩ := jd
    refine c_sr (o_lss hte0 h62 (c_nil (c_sq ?_)))
    refine c_iff rfl (Int.lt_irrefl _) ?_
    refine c_ex ?_
    refine e_c ?_
    refine e_c ?_
    refine e_h ?_
    refine c_sr (o_mv h59 (o_mv h56 (o_fad h58 (o_ldB 2 s14 rfl rfl rfl rfl ?_))))
    refine o_fad h58 (o_ldB 2 s14 rfl rfl rfl rfl (o_mv h57 ?_))
    obtain ⟨x5, q14, e⟩ := oB e
    obtain ⟨d11, rfl⟩ := (h54).val
    obtain ⟨d12, rfl⟩ := (h55).val
    obtain ⟨Z7, V7, W2, g7, u2, c7, c8, -, c10, c9⟩ := Sat.call (l1 := [pts o1 (.rw 0 [vi y1.1, vi y1.2.1, vi y1.2.2.1, (vS d11 y1.2.2.2.1), (vS d12 y1.2.2.2.2.1), (.map (some b6))]), It.mp kE3 vi b6 y1.2.2.2.2.2.1]) (l2 := [pts b1 (.rw 0 [vi a1.Rule, vi a1.Term, (vS d1 a1.Kids)])]) s14
    refine o_call (mc rfl (mc rfl (mc rfl (mc rfl m0)))) (ih.2 (a0 := (Ty.rank_book.mk (Ty.api_Grammar.mk y1.1 y1.2.1 y1.2.2.1 y1.2.2.2.1) y1.2.2.2.2.1 y1.2.2.2.2.2.1)) c7 (h54.mono g7.z) (h55.mono g7.z) (hp4.mono (g6.trans g7).z) q14) fun _ H11 i8 => ?_
    obtain ⟨w12, w13, b7, rfl, s15⟩ := i8
    have s16 := c9 _ _ s15
    obtain ⟨Z8, V8, g8, s17, h63⟩ := (s16.pull 1 rfl).frzR
    obtain ⟨Z9, V9, g9, s18, h64⟩ := (s17.pull 1 rfl).frzR
    refine o_add rfl rfl ?_
    refine o_mv (v := (vi (Pu.W (y1.2.2.2.2.2.2 + x5.2)))) rfl ?_
    refine c_nil ?_
    refine c_gen (P := fun tm => tm 6 = (vi (Pu.W (y1.2.2.2.2.2.2 + x5.2))) ∧ True) ⟨rfl, trivial⟩ ?_
    intro _ i9
    obtain ⟨h65, -⟩ := i9
    refine c_rt ?_
    obtain ⟨d13, rfl⟩ := ((h63.mono g9.z)).val
    obtain ⟨d14, rfl⟩ := (h64).val
    obtain rfl := oJ e
    exact ⟨.inr rfl, _, (ar1 h65), _, _, _, rfl, ((((s18.push (ro_it (sl_ro (h63.mono g9.z)))).push (ro_it (sl_ro h64))).pick [2, 1, 0, 3] rfl).weak (g6.trans (g7.trans (g8.trans g9))) hs.zv)⟩
   ·intro Z V H v1 v2 m3 o1 v4 a0 a1 a2 a3 hs hp1 hp2 hp4 r e
    rw [P.rank_book_ofKids] at e
    refine f_mk nd.own_rank_book_ofKids ?_
    refine c_sr ?_
    refine o_mv (v := (vi 0)) rfl ?_
    refine c_nil (c_sq (c_sr ?_))
    refine o_mv (v := v4) rfl ?_
    refine o_len rfl (hp4).len (o_eql rfl rfl (c_nil ?_))
    refine c_ifd rfl (fun q1 => ?_) (fun q1 => ?_)
    ·replace e := if_t q1 e
     refine c_sr ?_
     refine o_mv (v := (vi 0)) rfl ?_
     refine c_nil (c_rt ?_)
     obtain ⟨d1, rfl⟩ := (hp1).val
     obtain ⟨d2, rfl⟩ := (hp2).val
     obtain rfl := oJ e
     exact ⟨.inr rfl, _, (ar1 rfl), _, _, _, rfl, (((hs.push (ro_it (sl_ro hp1))).push (ro_it (sl_ro hp2))).pick [2, 1, 0, 3] rfl)⟩
    replace e := if_f q1 e
    refine c_sk (c_sr ?_)
    refine o_mv (v := (pV o1 0)) rfl ?_
    refine o_nck rfl (o_fad rfl (o_fad rfl ?_))
    obtain ⟨d3, rfl⟩ := (hp1).val
    obtain ⟨d4, rfl⟩ := (hp2).val
    refine o_ldB 0 hs rfl rfl rfl rfl ?_
    refine o_mv (v := (vi a1)) rfl ?_
    obtain ⟨x1, q2, e⟩ := oB e
    refine o_idx (v := (vS d3 a0.g.Rules)) rfl rfl hp1 rfl q2 fun p1 q3 => ?_
    refine o_fadE rfl q3 fun p2 q4 => ?_
    refine o_ldF rfl hp1 hs.z rfl q3 q4 q2 rfl fun c1 h1 => ?_
    obtain ⟨w1, rfl, h2⟩ := Sh.api_Rule_op h1
    refine ⟨_, rfl, ?_⟩
    refine o_len rfl (h2).len ?_
    refine o_mv (v := v4) rfl ?_
    refine o_len rfl (hp4).len (o_sub rfl rfl ?_)
    refine o_mv (v := (vi (Pu.W ((x1.Right.length : Int) - (a2.length : Int))))) rfl ?_
    refine c_nil ?_
    refine c_gen (P := fun tm => tm 0 = (pV o1 0) ∧ tm 1 = (vi a1) ∧ tm 2 = v4 ∧ tm 3 = (vi a3) ∧ tm 9 = (vi (Pu.W ((x1.Right.length : Int) - (a2.length : Int)))) ∧ True) ⟨rfl, rfl, rfl, rfl, rfl, trivial⟩ ?_
    intro _ i1
    obtain ⟨h3, h4, h5, h6, h7, -⟩ := i1
    refine c_sr (o_mv h5 ?_)
    obtain ⟨x2, q5, e⟩ := oB e
    refine o_idx (v := v4) rfl rfl hp4 rfl q5 fun p3 q6 => ?_
    refine o_lda rfl hp4 hs.z rfl q6 q5 fun c2 h8 => ?_
    obtain ⟨w2, rfl, h9⟩ := Sh.api_Tree_op h8
    obtain ⟨x3, q7, e⟩ := oB e
    obtain ⟨Z1, V1, W1, g1, u1, c3, c4, -, c6, c5⟩ := Sat.call (l1 := []) hs
    refine o_call (mc rfl m0) (X.tree_Word nd.tree_Word c3 (h9.mono (g1.z.trans c3.zv)) q7) fun w3 H1 i2 => ?_
    obtain ⟨_, rfl, s1⟩ := i2
    have s2 := c5 _ _ s1
    refine o_len rfl ((s2.curS (s := Sh.int) 0 rfl)).len ?_
    refine o_mv (v := (vN x3)) rfl ?_
    refine c_nil (c_sr ?_)
    refine o_mv (v := (vi 0)) rfl ?_
    refine c_nil (c_sq (c_sr ?_))
    refine o_mv (v := (vN x3)) rfl ?_
    refine o_mv (v := (vi 0)) rfl ?_
    refine c_nil ?_
    obtain ⟨x5, q10, e⟩ := oB e
    obtain ⟨rfl, q12⟩ := ranO_some q10
    obtain ⟨y1, q13, e⟩ := oB e
    refine c_bk ?_
    refine l_forP (xs := (Pu.ran (x3.length : Int))) (fun (i3 : Nat) (s3 : (Int × Int × Int × (List Ty.api_Rule) × (List (List Int)) × (List ((Int × Int × Int) × Int)) × Int)) tm H => tm 35 = vi i3 ∧ ∃ (Z2 V2 : PH) (b1 : Nat) (w4 : Value) (w5 : Value), Gw Z1 V1 Z2 V2 ∧ Sat Z2 V2 H [pts o1 (.rw 0 [vi s3.1, vi s3.2.1, vi s3.2.2.1, w4, w5, (.map (some b1))]), It.mp kE3 vi b1 s3.2.2.2.2.2.1] ∧ tm 0 = (pV o1 0) ∧ tm 1 = (vi a1) ∧ tm 2 = v4 ∧ tm 3 = (vi a3) ∧ tm 9 = (vi (Pu.W ((x1.Right.length : Int) - (a2.length : Int)))) ∧ tm 10 = (vN x3) ∧ tm 11 = (vi s3.2.2.2.2.2.2) ∧ tm 34 = (vN x3) ∧ RdS Sh.api_Rule Z2 w4 s3.2.2.2.1 ∧ RdS sI1 Z2 w5 s3.2.2.2.2.1) (fun i3 x4 s3 s5 tm H3 q8 q9 j1 e1 k1 => ?_) (fun tm H2 jd => ?_) q13 ⟨rfl, _, _, _, _, _, Gw.refl _ _, (s2.pick [1, 2] rfl), h3, h4, h5, h6, h7, rfl, rfl, rfl, (hp1.mono g1.z), (hp2.mono g1.z)⟩
    ·obtain ⟨hti0, Z2, V2, b1, w4, w5, g2, s4, h12, h13, h14, h15, h16, h17, h18, h19, h10, h11⟩ := j1
     unfold P.rank_book_ofKids.b0 at e1
     have hti0 := iv hti0 (ran_x q8).symm
     refine c_sr (o_lss hti0 h19 (c_nil (c_sq ?_)))
     refine c_ift rfl (ran_lt q8) ?_
     refine c_sk (c_sq (c_bk (c_sr (o_mv hti0 ?_))))
     refine o_mv (v := (vi x4)) rfl ?_
     refine c_nil (c_r (o_mv h18 (o_mv h12 (o_mv h13 ?_))))
     refine o_mv h16 ?_
     refine o_mv (v := (vi x4)) rfl ?_
     refine o_mv h15 ?_
     obtain ⟨x6, q14, e1⟩ := oB e1
     obtain ⟨d5, rfl⟩ := (h10).val
     obtain ⟨d6, rfl⟩ := (h11).val
     obtain ⟨Z3, V3, W2, g3, u2, c7, c8, -, c10, c9⟩ := Sat.call (l1 := [pts o1 (.rw 0 [vi s3.1, vi s3.2.1, vi s3.2.2.1, (vS d5 s3.2.2.2.1), (vS d6 s3.2.2.2.2.1), (.map (some b1))]), It.mp kE3 vi b1 s3.2.2.2.2.2.1]) (l2 := []) s4
     refine o_call (mc rfl (mc rfl (mc rfl (mc rfl (mc rfl m0))))) (X.rank_book_part nd.rank_book_part (a0 := (Ty.rank_book.mk (Ty.api_Grammar.mk s3.1 s3.2.1 s3.2.2.1 s3.2.2.2.1) s3.2.2.2.2.1 s3.2.2.2.2.2.1)) c7 (h10.mono g3.z) (h11.mono g3.z) q14) fun _ H4 i4 => ?_
     obtain ⟨w6, w7, b2, rfl, s6⟩ := i4
     have s7 := c9 _ _ s6
     obtain ⟨Z4, V4, g4, s8, h20⟩ := (s7.pull 1 rfl).frzR
     obtain ⟨Z5, V5, g5, s9, h21⟩ := (s8.pull 1 rfl).frzR
     refine o_add rfl rfl ?_
     refine o_mv (v := (vi (Pu.W (s3.2.2.2.2.2.2 + x6.2)))) rfl ?_
     refine c_nil (c_end (c_r (o_add hti0 rfl ?_)))
     refine o_mv (v := (vi (Pu.W (x4 + 1)))) rfl ?_
     refine c_nil ?_
     obtain rfl := oJ e1
     exact k1 _ _ ⟨(iv rfl (w_sucR q8 q12)), _, _, _, _, _, (g2.trans (g3.trans (g4.trans g5))), s9, h12, h13, h14, h15, h16, h17, rfl, h19, (h20.mono g5.z), h21⟩
    obtain ⟨hte0, Z6, V6, b3, w8, w9, g6, s10, h24, h25, h26, h27, h28, h29, h30, h31, h22, h23⟩ := jd
    refine c_sr (o_lss hte0 h31 (c_nil (c_sq ?_)))
    refine c_iff rfl (ran_done _) ?_
    refine c_ex ?_
    refine e_c ?_
    refine e_c ?_
    refine e_h ?_
    refine c_sq ?_
    refine d_start s10 fun n1 H6 s11 q15 d7 => ?_
    refine d_mv h30 ?_
    refine d_mv h24 ?_
    refine d_mv h26 ?_
    obtain ⟨x7, q16, e⟩ := oB e
    refine d_idx (v := v4) rfl rfl (hp4.mono (g1.trans g6).z) rfl q16 fun p4 q17 => ?_
    refine d_lda (RdS.low (hp4.mono (g1.trans g6).z) s11.z q15) rfl hp4 ((g1.trans g6).z.trans s11.z) rfl q17 q16 fun c11 h32 => ?_
    obtain ⟨w10, rfl, h33⟩ := Sh.api_Tree_op h32
    refine d_mv h29 ?_
    obtain ⟨x8, q18, e⟩ := oB e
    obtain ⟨d8, rfl⟩ := (h22).val
    obtain ⟨d9, rfl⟩ := (h23).val
    obtain ⟨Z7, V7, W3, g7, u3, c12, c13, -, c15, c14⟩ := Sat.call (l1 := [pts o1 (.rw 0 [vi y1.1, vi y1.2.1, vi y1.2.2.1, (vS d8 y1.2.2.2.1), (vS d9 y1.2.2.2.2.1), (.map (some b3))]), It.mp kE3 vi b3 y1.2.2.2.2.2.1]) (l2 := []) s11
    refine d_call (mc rfl (mc rfl (mc rfl m0))) (ih.1 (a0 := (Ty.rank_book.mk (Ty.api_Grammar.mk y1.1 y1.2.1 y1.2.2.1 y1.2.2.2.1) y1.2.2.2.2.1 y1.2.2.2.2.2.1)) c12 (h22.mono g7.z) (h23.mono g7.z) (h33.mono ((g1.trans g6).trans g7).z) q18) fun _ H7 i5 k2 => ?_
    have d10 := d7.keep k2
    obtain ⟨w11, w12, b4, rfl, s12⟩ := i5
    have s13 := c14 _ _ s12
    obtain ⟨Z8, V8, g8, s14, h34⟩ := (s13.pull 1 rfl).frzR
    obtain ⟨Z9, V9, g9, s15, h35⟩ := (s14.pull 1 rfl).frzR
    refine d_mv h24 ?_
    refine d_mv h25 ?_
    refine d_mv h28 ?_
    refine d_add rfl rfl ?_
    refine d_mv h27 ?_
    refine d_mv h29 ?_
    refine d_sub rfl rfl ?_
    obtain ⟨x9, q19, e⟩ := oB e
    obtain ⟨d11, rfl⟩ := ((h34.mono g9.z)).val
    obtain ⟨d12, rfl⟩ := (h35).val
    obtain ⟨Z10, V10, W4, g10, u4, c16, c17, -, c19, c18⟩ := Sat.call (l1 := [pts o1 (.rw 0 [vi x8.1.g.Terms, vi x8.1.g.Nons, vi x8.1.g.Start, (vS d11 x8.1.g.Rules), (vS d12 x8.1.n), (.map (some b4))]), It.mp kE3 vi b4 x8.1.many_]) (l2 := []) s15
    refine d_call (mc rfl (mc rfl (mc rfl (mc rfl m0)))) (X.rank_book_ways nd.rank_book_ways (a0 := x8.1) c16 (h34.mono (g9.trans g10).z) (h35.mono g10.z) q19) fun _ H8 i6 k3 => ?_
    have d13 := d10.keep k3
    obtain ⟨w13, w14, b5, rfl, s16⟩ := i6
    have s17 := c18 _ _ s16
    obtain ⟨Z11, V11, g11, s18, h36⟩ := (s17.pull 1 rfl).frzR
    obtain ⟨Z12, V12, g12, s19, h37⟩ := (s18.pull 1 rfl).frzR
    refine d_mul rfl rfl ?_
    refine d_add rfl rfl ?_
    refine d_mv h24 ?_
    refine d_mv h25 ?_
    refine d_mv h26 ?_
    obtain ⟨x10, q20, e⟩ := oB e
    refine d_slcl (RdS.low (hp4.mono (g1.trans g6).z) s11.z q15) rfl rfl hp4 ((g1.trans (g6.trans (g7.trans (g8.trans (g9.trans (g10.trans (g11.trans g12))))))).z.trans s19.z) rfl q20 fun w15 h38 => ?_
    refine d_mv h27 ?_
    refine d_mv h29 ?_
    refine d_sub rfl rfl ?_
    obtain ⟨x11, q21, e⟩ := oB e
    obtain ⟨d14, rfl⟩ := ((h36.mono g12.z)).val
    obtain ⟨d15, rfl⟩ := (h37).val
    obtain ⟨Z13, V13, W5, g13, u5, c20, c21, -, c23, c22⟩ := Sat.call (l1 := [pts o1 (.rw 0 [vi x9.1.g.Terms, vi x9.1.g.Nons, vi x9.1.g.Start, (vS d14 x9.1.g.Rules), (vS d15 x9.1.n), (.map (some b5))]), It.mp kE3 vi b5 x9.1.many_]) (l2 := []) s19
    refine d_call (mc rfl (mc rfl (mc rfl (mc rfl m0)))) (ih.2 (a0 := x9.1) c20 (h36.mono (g12.trans g13).z) (h37.mono g13.z) (h38.mono ((g1.trans (g6.trans (g7.trans (g8.trans (g9.trans (g10.trans (g11.trans g12))))))).trans g13).z) q21) fun _ H9 i7 k4 => ?_
    have d16 := d13.keep k4
    obtain ⟨w16, w17, b6, rfl, s20⟩ := i7
    have s21 := c22 _ _ s20
    obtain ⟨Z14, V14, g14, s22, h39⟩ := (s21.pull 1 rfl).frzR
    obtain ⟨Z15, V15, g15, s23, h40⟩ := (s22.pull 1 rfl).frzR
    refine d_add rfl rfl ?_
    refine d_mv (v := (vi (Pu.W ((Pu.W (y1.2.2.2.2.2.2 + (Pu.W (x8.2 * x9.2)))) + x11.2)))) rfl ?_
    refine d_nil (dc_mk rfl (ta4 (ta2 (tra (tre (tl16 (tl4 tr0)))))) (ta16 (ta4 (tra (tre (tl4 (tl2 tr0)))))) (ta16 (ta4 (tre (tl4 (tl2 (trl tr0)))))) (ag_slcl w_0 rfl rfl hp4 (g1.z.trans (g6.z.trans (g7.z.trans (g8.z.trans (g9.z.trans (g10.z.trans (g11.z.trans (g12.z.trans s19.z)))))))) (g1.z.trans (g6.z.trans s11.z)) rfl q20) (ag_slcl w_0 rfl rfl hp4 (g1.z.trans (g6.z.trans (g7.z.trans (g8.z.trans (g9.z.trans (g10.z.trans (g11.z.trans (g12.z.trans s19.z)))))))) (g1.z.trans (g6.z.trans (g7.z.trans (g8.z.trans (g9.z.trans s15.z))))) rfl q20) (dc_mk rfl (ta4 (ta2 (tra (tre (tl16 (tl4 tr0)))))) (ta8 (ta4 (tra (tre (tl8 (tl4 (tl2 tr0))))))) (ta8 (ta4 (tre (tl8 (tl4 (tl2 (trl tr0))))))) (ag_slcl w_0 rfl rfl hp4 (g1.z.trans (g6.z.trans (g7.z.trans (g8.z.trans (g9.z.trans (g10.z.trans (g11.z.trans (g12.z.trans s19.z)))))))) (g1.z.trans (g6.z.trans (g7.z.trans (g8.z.trans (g9.z.trans s15.z))))) rfl q20) (ag_slcl w_0 rfl rfl hp4 (g1.z.trans (g6.z.trans (g7.z.trans (g8.z.trans (g9.z.trans (g10.z.trans (g11.z.trans (g12.z.trans s19.z)))))))) (g1.z.trans (g6.z.trans (g7.z.trans (g8.z.trans (g9.z.trans (g10.z.trans (g11.z.trans (g12.z.trans s19.z)))))))) rfl q20) dc_nil)) ?_
    refine c_gen (P := fun tm => tm 8 = (vi (Pu.W ((Pu.W (y1.2.2.2.2.2.2 + (Pu.W (x8.2 * x9.2)))) + x11.2))) ∧ True) ⟨rfl, trivial⟩ ?_
    intro _ i8
    obtain ⟨h41, -⟩ := i8
    refine c_rt ?_
    obtain ⟨d17, rfl⟩ := ((h39.mono g15.z)).val
    obtain ⟨d18, rfl⟩ := (h40).val
    obtain rfl := oJ e
    exact ⟨.inr rfl, _, (ar1 h41), _, _, _, rfl, ((((s23.push (ro_it (sl_ro (h39.mono g15.z)))).push (ro_it (sl_ro h40))).pick [2, 1, 0, 3] rfl).weak (g1.trans (g6.trans (g7.trans (g8.trans (g9.trans (g10.trans (g11.trans (g12.trans (g13.trans (g14.trans g15)))))))))) hs.zv)⟩
theorem X.rank_book_of {T : FuncId → Option AFunc} (nd : Nd.rank_book_of T) {φ : Nat} {Z V : PH} {H : Hp} {v1 : Value} {v2 : Value} {m3 : Nat} {o1 : Nat} {v4 : Value} {a0 : Ty.rank_book} {a1 : Ty.api_Tree} {a2 : Int} (hs : Sat Z V H [pts o1 (.rw 0 [vi a0.g.Terms, vi a0.g.Nons, vi a0.g.Start, v1, v2, (.map (some m3))]), It.mp kE3 vi m3 a0.many_]) (hp1 : RdS Sh.api_Rule Z v1 a0.g.Rules) (hp2 : RdS sI1 Z v2 a0.n) (hp4 : RdS Sh.api_Tree Z v4 a1.Kids) {r : (Ty.rank_book × Int)} (e : P.rank_book_of φ a0 a1 a2 = some r) :
 G T I.rank_book_of [(pV o1 0), (.agg #[vi a1.Rule, vi a1.Term, v4]), vi a2] H (fun rv H' => ∃ (u1 : Value) (u2 : Value) (o103 : Nat), rv = (vi r.2) ∧ Sat Z V H' [pts o1 (.rw 0 [vi r.1.g.Terms, vi r.1.g.Nons, vi r.1.g.Start, u1, u2, (.map (some o103))]), Sh.it (Sh.ro (Sh.sl Sh.api_Rule)) [u1] r.1.g.Rules, Sh.it (Sh.ro sI2) [u2] r.1.n, It.mp kE3 vi o103 r.1.many_]) := (X.rank_book_of_rec nd φ).1 hs hp1 hp2 hp4 e
theorem X.rank_book_ofKids {T : FuncId → Option AFunc} (nd : Nd.rank_book_ofKids T) {φ : Nat} {Z V : PH} {H : Hp} {v1 : Value} {v2 : Value} {m3 : Nat} {o1 : Nat} {v4 : Value} {a0 : Ty.rank_book} {a1 : Int} {a2 : (List Ty.api_Tree)} {a3 : Int} (hs : Sat Z V H [pts o1 (.rw 0 [vi a0.g.Terms, vi a0.g.Nons, vi a0.g.Start, v1, v2, (.map (some m3))]), It.mp kE3 vi m3 a0.many_]) (hp1 : RdS Sh.api_Rule Z v1 a0.g.Rules) (hp2 : RdS sI1 Z v2 a0.n) (hp4 : RdS Sh.api_Tree Z v4 a2) {r : (Ty.rank_book × Int)} (e : P.rank_book_ofKids φ a0 a1 a2 a3 = some r) :
 G T I.rank_book_ofKids [(pV o1 0), vi a1, v4, vi a3] H (fun rv H' => ∃ (u1 : Value) (u2 : Value) (o103 : Nat), rv = (vi r.2) ∧ Sat Z V H' [pts o1 (.rw 0 [vi r.1.g.Terms, vi r.1.g.Nons, vi r.1.g.Start, u1, u2, (.map (some o103))]), Sh.it (Sh.ro (Sh.sl Sh.api_Rule)) [u1] r.1.g.Rules, Sh.it (Sh.ro sI2) [u2] r.1.n, It.mp kE3 vi o103 r.1.many_]) := (X.rank_book_of_rec nd φ).2 hs hp1 hp2 hp4 e
structure Nd.rank_Of (T : FuncId → Option AFunc) : Prop where
 own : Has T I.rank_Of F.rank_Of
 tree_Check : Nd.tree_Check T
 tree_Word : Nd.tree_Word T
 rank_open : Nd.rank_open T
 rank_book_of : Nd.rank_book_of T
set_option maxHeartbeats 1000000 in
theorem X.rank_Of {T : FuncId → Option AFunc} (nd : Nd.rank_Of T) {φ : Nat} {Z V : PH} {H : Hp} {v1 : Value} {v2 : Value} {a0 : Ty.api_Grammar} {a1 : Ty.api_Tree} (hs : Sat Z V H []) (hp1 : RdS Sh.api_Rule Z v1 a0.Rules) (hp2 : RdS Sh.api_Tree Z v2 a1.Kids) {r : (Int × Int × Int)} (e : P.rank_Of φ a0 a1 = some r) :
 G T I.rank_Of [(.agg #[vi a0.Terms, vi a0.Nons, vi a0.Start, v1]), (.agg #[vi a1.Rule, vi a1.Term, v2])] H (fun rv H' => rv = (.tuple #[vi r.1, vi r.2.1, vi r.2.2]) ∧ Sat Z V H' []) := by
 unfold P.rank_Of at e
 refine f_mk nd.own ?_
 refine c_sr ?_
 obtain ⟨d1, rfl⟩ := (hp1).val
 refine o_box hs rfl rfl fun b1 H1 s1 => ?_
 obtain ⟨d2, rfl⟩ := (hp2).val
 refine o_box s1 rfl rfl fun b2 H2 s2 => ?_
 refine o_mv (v := (vi 0)) rfl ?_
 refine o_mv (v := (vi 0)) rfl ?_
 refine o_mv (v := (vi 0)) rfl ?_
 refine c_nil (c_sq (c_sr (o_ldB 1 s2 rfl rfl rfl rfl (o_ldB 0 s2 rfl rfl rfl rfl ?_))))
 obtain ⟨x1, q1, e⟩ := oB e
 obtain ⟨Z1, V1, W1, g1, u1, c1, c2, -, c4, c3⟩ := Sat.call (l1 := []) s2
 refine o_call (mc rfl (mc rfl m0)) (X.tree_Check nd.tree_Check c1 (hp1.mono (g1.z.trans c1.zv)) (hp2.mono (g1.z.trans c1.zv)) q1) fun _ H3 i1 => ?_
 obtain ⟨rfl, s3⟩ := i1
 have s4 := c3 _ _ s3
 refine o_mv (v := (vi x1)) rfl ?_
 refine c_nil (c_sr ?_)
 refine o_mv (v := (vi x1)) rfl ?_
 refine o_neq rfl rfl (c_nil ?_)
 refine c_gen (P := fun tm => tm 2 = (pV b1 0) ∧ tm 3 = (pV b2 0) ∧ tm 7 = (vi x1) ∧ tm 16 = (.bool (decide (x1 ≠ 0))) ∧ True) ⟨rfl, rfl, rfl, rfl, trivial⟩ ?_
 intro _ i2
 obtain ⟨h1, h2, h3, h4, -⟩ := i2
 refine c_ifd h4 (fun q2 => ?_) (fun q2 => ?_)
 ·replace e := if_t q2 e
  refine c_sr (o_mv h3 ?_)
  refine o_mv (v := (vi 0)) rfl ?_
  refine o_mv (v := (vi 0)) rfl ?_
  refine o_mv (v := (vi x1)) rfl ?_
  refine c_nil (c_rt ?_)
  obtain rfl := oJ e
  exact ⟨.inr rfl, _, (ar3 rfl rfl rfl), rfl, ((s4.pick [] rfl).weak g1 hs.zv)⟩
 replace e := if_f q2 e
 refine c_sk (c_sq (c_sq ?_))
 refine d_start s4 fun n1 H4 s5 q3 d3 => ?_
 refine d_fad h2 ?_
 refine d_ldB (q3 _ _ (ph_some.2 ⟨s5.curB 0 rfl, by simp⟩)) 0 s5 rfl rfl rfl rfl ?_
 refine d_lss rfl rfl ?_
 refine d_mv (v := (.bool (decide (a1.Rule < 0)))) rfl ?_
 obtain ⟨y1, e1, e⟩ := oB e
 refine d_jn 11 (I := fun tm H => DD n1 15 (List.length F.rank_Of.r4) H ∧ (∃ (Z2 V2 : PH), Gw Z1 V1 Z2 V2 ∧ Sat Z2 V2 H [pts b1 (.rw 0 [vi a0.Terms, vi a0.Nons, vi a0.Start, (vS d1 a0.Rules)]), pts b2 (.rw 0 [vi a1.Rule, vi a1.Term, (vS d2 a1.Kids)])] ∧ tm 2 = (pV b1 0) ∧ tm 3 = (pV b2 0) ∧ tm 32 = (.bool y1))) (fun k1 => ?_) ?_
 ·rcases Bool.eq_false_or_eq_true (decide (a1.Rule < 0)) with q4 | q4
  ·replace e1 := if_t q4 e1
   refine d_gn rfl q4 ?_
   refine d_gn rfl q4 ?_
   refine d_gn rfl q4 ?_
   refine d_gn rfl q4 ?_
   refine d_gn rfl q4 ?_
   refine d_gn rfl q4 ?_
   refine d_gn rfl q4 ?_
   refine d_gn rfl q4 ?_
   refine d_gn rfl q4 ?_
   refine d_gn rfl q4 ?_
   refine d_pickt (a := (.bool true)) rfl q4 rfl ?_
   obtain rfl := oJ e1
   exact k1 _ _ _ ⟨d3.up rfl, _, _, Gw.refl _ _, (s5.pick [1, 0] rfl), h1, h2, rfl⟩
  replace e1 := ib_f q4 e1
  refine d_want rfl q4 ?_
  refine d_fad h1 ?_
  refine d_want rfl q4 ?_
  refine d_ldB (q3 _ _ (ph_some.2 ⟨s5.curB 1 rfl, by simp⟩)) 1 s5 rfl rfl rfl rfl ?_
  refine d_want rfl q4 ?_
  refine d_fad h2 ?_
  refine d_want rfl q4 ?_
  refine d_ldB (q3 _ _ (ph_some.2 ⟨s5.curB 0 rfl, by simp⟩)) 0 s5 rfl rfl rfl rfl ?_
  refine d_want rfl q4 ?_
  obtain ⟨x2, q5, e1⟩ := oB e1
  refine d_idx (v := (vS d1 a0.Rules)) rfl rfl (hp1.mono g1.z) rfl q5 fun p1 q6 => ?_
  refine d_want rfl q4 ?_
  refine d_fadE rfl q6 fun p2 q7 => ?_
  refine d_want rfl q4 ?_
  refine d_ldF (RdS.low (hp1.mono g1.z) s5.z q3) rfl (hp1.mono g1.z) s5.z rfl q6 q7 q5 rfl fun c5 h8 => ?_
  obtain ⟨w1, rfl, h9⟩ := Sh.api_Rule_op h8
  refine ⟨_, rfl, ?_⟩
  refine d_want rfl q4 ?_
  refine d_fad h1 ?_
  refine d_want rfl q4 ?_
  refine d_ldB (q3 _ _ (ph_some.2 ⟨s5.curB 1 rfl, by simp⟩)) 1 s5 rfl rfl rfl rfl ?_
  refine d_want rfl q4 ?_
  refine d_neq rfl rfl ?_
  refine d_pickf (b := (.bool (decide (x2.Left ≠ a0.Start)))) rfl q4 rfl ?_
  obtain rfl := oJ e1
  exact k1 _ _ _ ⟨d3.up rfl, _, _, Gw.refl _ _, (s5.pick [1, 0] rfl), h1, h2, rfl⟩
 intro _ H5 _ i3
 obtain ⟨d4, Z2, V2, g2, s6, h5, h6, h7⟩ := i3
 refine d_nil dc_nil ?_
 refine c_if h7 (fun q8 => ?_) (fun q8 => ?_)
 ·replace e := if_t q8 e
  refine c_sr ?_
  refine o_mv (v := (vi 0)) rfl ?_
  refine o_mv (v := (vi 0)) rfl ?_
  refine o_mv (v := (vi 3)) rfl ?_
  refine c_nil (c_rt ?_)
  obtain rfl := oJ e
  exact ⟨.inr rfl, _, (ar3 rfl rfl rfl), rfl, ((s6.pick [] rfl).weak (g1.trans g2) hs.zv)⟩
 replace e := ib_f q8 e
 refine c_sk (c_sr (o_ldB 1 s6 rfl h6 rfl rfl ?_))
 obtain ⟨x3, q9, e⟩ := oB e
 obtain ⟨Z3, V3, W2, g3, u2, c6, c7, -, c9, c8⟩ := Sat.call (l1 := []) s6
 refine o_call (mc rfl m0) (X.tree_Word nd.tree_Word c6 (hp2.mono (((g1.trans g2).trans g3).z.trans c6.zv)) q9) fun w2 H6 i4 => ?_
 obtain ⟨_, rfl, s7⟩ := i4
 have s8 := c8 _ _ s7
 refine o_len rfl ((s8.curS (s := Sh.int) 0 rfl)).len ?_
 refine o_mv (v := (vN x3)) rfl ?_
 refine c_nil (c_sr (o_ldB 1 s8 rfl h5 rfl rfl ?_))
 refine o_mv (v := (vN x3)) rfl ?_
 obtain ⟨x4, q10, e⟩ := oB e
 rcases x4 with ⟨_ | y2, x5⟩
 ·rw [Pu.oc2_none] at e
  obtain ⟨Z4, V4, W3, g4, u3, c10, c11, -, c13, c12⟩ := Sat.call (l1 := []) s8
  refine o_call (mc rfl (mc rfl m0)) (X.rank_open nd.rank_open c10 (hp1.mono ((g1.trans (g2.trans g3)).trans g4).z) q10) fun _ H7 i5 => ?_
  dsimp only [ov, oi, List.nil_append, List.append_nil, List.cons_append] at i5
  obtain ⟨b3, u4, u5, u6, rfl, s9⟩ := i5
  have s10 := c12 _ _ s9
  refine o_mv (v := (.tuple #[(.pointer none), vi x5.1, vi x5.2])) rfl ?_
  refine o_ext rfl rfl (o_ext rfl rfl (o_ext rfl rfl ?_))
  refine o_mv (v := (.pointer none)) rfl ?_
  refine o_mv (v := (vi x5.1)) rfl ?_
  refine o_mv (v := (vi x5.2)) rfl ?_
  refine c_nil ?_
  refine c_gen (P := fun tm => tm 3 = (pV b2 0) ∧ tm 8 = (vN x3) ∧ tm 9 = (.pointer none) ∧ tm 11 = (vi x5.2) ∧ True) ⟨h6, rfl, rfl, rfl, trivial⟩ ?_
  intro _ i6
  obtain ⟨h10, h11, h12, h13, -⟩ := i6
  refine c_sq (c_sr (o_mv h13 (o_neq rfl rfl (c_nil ?_))))
  refine c_ifd rfl (fun q11 => ?_) (fun q11 => ?_)
  ·replace e := if_t q11 e
   refine c_sr (o_mv h13 ?_)
   refine o_mv (v := (vi 0)) rfl ?_
   refine o_mv (v := (vi 0)) rfl ?_
   refine o_mv (v := (vi x5.2)) rfl ?_
   refine c_nil (c_rt ?_)
   obtain rfl := oJ e
   exact ⟨.inr rfl, _, (ar3 rfl rfl rfl), rfl, ((s10.pick [] rfl).weak (g1.trans (g2.trans (g3.trans g4))) hs.zv)⟩
  replace e := if_f q11 e
  refine c_sk (c_sr (o_mv h11 (o_mv h12 (o_ldB 2 s10 rfl h10 rfl rfl ?_))))
  refine o_mv h11 ?_
  cases e
 rw [Pu.oc2_some] at e
 obtain ⟨Z5, V5, W4, g5, u7, c14, c15, -, c17, c16⟩ := Sat.call (l1 := []) s8
 refine o_call (mc rfl (mc rfl m0)) (X.rank_open nd.rank_open c14 (hp1.mono ((g1.trans (g2.trans g3)).trans g5).z) q10) fun _ H8 i7 => ?_
 dsimp only [ov, oi, List.nil_append, List.append_nil, List.cons_append] at i7
 obtain ⟨b4, w3, w4, b5, rfl, s11⟩ := i7
 have s12 := c16 _ _ s11
 obtain ⟨Z6, V6, g6, s13, h14⟩ := (s12.pull 1 rfl).frzR
 refine o_mv (v := (.tuple #[(pV b4 0), vi x5.1, vi x5.2])) rfl ?_
 refine o_ext rfl rfl (o_ext rfl rfl (o_ext rfl rfl ?_))
 refine o_mv (v := (pV b4 0)) rfl ?_
 refine o_mv (v := (vi x5.1)) rfl ?_
 refine o_mv (v := (vi x5.2)) rfl ?_
 refine c_nil ?_
 refine c_gen (P := fun tm => tm 3 = (pV b2 0) ∧ tm 8 = (vN x3) ∧ tm 9 = (pV b4 0) ∧ tm 11 = (vi x5.2) ∧ True) ⟨h6, rfl, rfl, rfl, trivial⟩ ?_
 intro _ i8
 obtain ⟨h15, h16, h17, h18, -⟩ := i8
 refine c_sq (c_sr (o_mv h18 (o_neq rfl rfl (c_nil ?_))))
 refine c_ifd rfl (fun q12 => ?_) (fun q12 => ?_)
 ·replace e := if_t q12 e
  refine c_sr (o_mv h18 ?_)
  refine o_mv (v := (vi 0)) rfl ?_
  refine o_mv (v := (vi 0)) rfl ?_
  refine o_mv (v := (vi x5.2)) rfl ?_
  refine c_nil (c_rt ?_)
  obtain rfl := oJ e
  exact ⟨.inr rfl, _, (ar3 rfl rfl rfl), rfl, ((s13.pick [] rfl).weak (g1.trans (g2.trans (g3.trans (g5.trans g6)))) hs.zv)⟩
 replace e := if_f q12 e
 refine c_sk (c_sr (o_mv h16 (o_mv h17 (o_ldB 5 s13 rfl h15 rfl rfl ?_))))
 refine o_mv h16 ?_
 obtain ⟨Z7, V7, g7, s14, h19⟩ := s13.frzS 1 rfl
 obtain ⟨x6, q13, e⟩ := oB e
 obtain ⟨d5, rfl⟩ := ((h14.mono g7.z)).val
 obtain ⟨d6, rfl⟩ := (h19).val
 obtain ⟨Z8, V8, W5, g8, u8, c18, c19, -, c21, c20⟩ := Sat.call (l1 := [pts b4 (.rw 0 [vi y2.g.Terms, vi y2.g.Nons, vi y2.g.Start, (vS d5 y2.g.Rules), (vS d6 y2.n), (.map (some b5))]), It.mp kE3 vi b5 y2.many_]) (l2 := [It.sl Sh.int w2 x3, pts b1 (.rw 0 [vi a0.Terms, vi a0.Nons, vi a0.Start, (vS d1 a0.Rules)]), pts b2 (.rw 0 [vi a1.Rule, vi a1.Term, (vS d2 a1.Kids)])]) s14
 refine o_call (mc rfl (mc rfl (mc rfl m0))) (X.rank_book_of nd.rank_book_of (a0 := y2) c18 (h14.mono (g7.trans g8).z) (h19.mono g8.z) (hp2.mono ((g1.trans (g2.trans (g3.trans (g5.trans (g6.trans g7))))).trans g8).z) q13) fun _ H9 i9 => ?_
 obtain ⟨w5, w6, b6, rfl, s15⟩ := i9
 have s16 := c20 _ _ s15
 obtain ⟨Z9, V9, g9, s17, h20⟩ := (s16.pull 1 rfl).frzR
 obtain ⟨Z10, V10, g10, s18, h21⟩ := (s17.pull 1 rfl).frzR
 refine o_mv (v := (vN x3)) rfl ?_
 refine o_mv (v := (vi x6.2)) rfl ?_
 refine o_mv (v := (vi 0)) rfl ?_
 refine c_nil ?_
 refine c_gen (P := fun tm => tm 4 = (vN x3) ∧ tm 5 = (vi x6.2) ∧ tm 6 = (vi 0) ∧ True) ⟨rfl, rfl, rfl, trivial⟩ ?_
 intro _ i10
 obtain ⟨h22, h23, h24, -⟩ := i10
 refine c_rt ?_
 obtain rfl := oJ e
 exact ⟨.inr rfl, _, (ar3 h22 h23 h24), rfl, ((s18.pick [] rfl).weak (g1.trans (g2.trans (g3.trans (g5.trans (g6.trans (g7.trans (g8.trans (g9.trans g10)))))))) hs.zv)⟩
structure Nd.parlkeep5_RankBack (T : FuncId → Option AFunc) : Prop where
 own : Has T I.parlkeep5_RankBack F.parlkeep5_RankBack
 parlmake_Grammar : Nd.parlmake_Grammar T
 parlkeep5_below : Nd.parlkeep5_below T
 parlkeep5_plain : Nd.parlkeep5_plain T
 rank_Count : Nd.rank_Count T
 rank_Tree : Nd.rank_Tree T
 tree_Check : Nd.tree_Check T
 rank_Of : Nd.rank_Of T
set_option maxHeartbeats 1000000 in
theorem X.parlkeep5_RankBack {T : FuncId → Option AFunc} (nd : Nd.parlkeep5_RankBack T) {φ : Nat} {Z V : PH} {H : Hp} {v1 : Value} {a0 : (List Int)} {a1 : Int} {a2 : Int} (hs : Sat Z V H []) (hp1 : RdS Sh.int Z v1 a0) {r : Bool} (e : P.parlkeep5_RankBack φ a0 a1 a2 = some r) :
 G T I.parlkeep5_RankBack [v1, vi a1, vi a2] H (fun rv H' => rv = (.bool r) ∧ Sat Z V H' []) := by
 unfold P.parlkeep5_RankBack at e
 refine f_mk nd.own ?_
 refine c_sr ?_
 refine o_mv (v := (.bool false)) rfl ?_
 refine c_nil (c_sr ?_)
 refine o_mv (v := v1) rfl ?_
 obtain ⟨x1, q1, e⟩ := oB e
 obtain ⟨Z1, V1, W1, g1, u1, c1, c2, -, c4, c3⟩ := Sat.call (l1 := []) hs
 refine o_call (mc rfl m0) (X.parlmake_Grammar nd.parlmake_Grammar c1 (hp1.mono g1.z) q1) fun _ H1 i1 => ?_
 obtain ⟨w1, rfl, s1⟩ := i1
 have s2 := c3 _ _ s1
 refine o_new s2 fun b1 H2 s3 => ?_
 obtain ⟨d1, rfl⟩ := ((s3.curS (s := (Sh.ro Sh.api_Rule)) 1 rfl)).val
 refine o_stB (us' := [vi x1.Terms, vi x1.Nons, vi x1.Start, (vS d1 x1.Rules)]) 0 s3 rfl rfl rfl rfl rfl rfl rfl fun H3 s4 => ?_
 refine c_nil (c_sr ?_)
 refine o_mv (v := (vi a1)) rfl ?_
 obtain ⟨x2, q2, e⟩ := oB e
 obtain ⟨Z2, V2, W2, g2, u2, c5, c6, -, c8, c7⟩ := Sat.call (l1 := []) s4
 refine o_call (mc rfl (mc rfl m0)) (X.parlkeep5_below nd.parlkeep5_below c5 q2) fun _ H4 i2 => ?_
 obtain ⟨rfl, s5⟩ := i2
 have s6 := c7 _ _ s5
 refine o_mv (v := (vi x2)) rfl ?_
 refine c_nil (c_sq (c_sr ?_))
 obtain ⟨x3, q3, e⟩ := oB e
 obtain ⟨Z3, V3, W3, g3, u3, c9, c10, -, c12, c11⟩ := Sat.call (l1 := []) s6
 refine o_call m0 (X.parlkeep5_plain nd.parlkeep5_plain c9 q3) fun _ H5 i3 => ?_
 obtain ⟨w2, rfl, s7⟩ := i3
 have s8 := c11 _ _ s7
 obtain ⟨Z4, V4, g4, s9, h1⟩ := s8.frzS 0 rfl
 replace h1 := h1.of_ro
 obtain ⟨x4, q4, e⟩ := oB e
 obtain ⟨Z5, V5, W4, g5, u4, c13, c14, -, c16, c15⟩ := Sat.call (l1 := []) s9
 refine o_call (mc rfl (mc rfl m0)) (X.rank_Count nd.rank_Count c13 (h1.mono g5.z) q4) fun _ H6 i4 => ?_
 obtain ⟨rfl, s10⟩ := i4
 have s11 := c15 _ _ s10
 refine o_mv (v := (.tuple #[vi x4.1, vi x4.2])) rfl ?_
 refine o_ext rfl rfl (o_ext rfl rfl ?_)
 refine o_mv (v := (vi x4.1)) rfl ?_
 refine o_mv (v := (vi x4.2)) rfl ?_
 refine c_nil ?_
 refine c_gen (P := fun tm => tm 1 = (vi x2) ∧ tm 2 = (vi a2) ∧ tm 7 = (pV b1 0) ∧ tm 8 = (vi x4.1) ∧ tm 9 = (vi x4.2) ∧ True) ⟨rfl, rfl, rfl, rfl, rfl, trivial⟩ ?_
 intro _ i5
 obtain ⟨h2, h3, h4, h5, h6, -⟩ := i5
 refine c_sr (o_mv h5 (o_neq rfl rfl ?_))
 refine o_mv (v := (.bool (decide (x4.1 ≠ 1)))) rfl ?_
 refine o_jn 3 (I := fun tm H => tm 30 = .bool ((decide (x4.1 ≠ 1)) || (decide (x4.2 ≠ 0))) ∧ (∃ (Z6 V6 : PH), Gw Z5 V5 Z6 V6 ∧ Sat Z6 V6 H [pts b1 (.rw 0 [vi x1.Terms, vi x1.Nons, vi x1.Start, (vS d1 x1.Rules)]), It.sl (Sh.ro Sh.api_Rule) (vS d1 x1.Rules) x1.Rules] ∧ tm 1 = (vi x2) ∧ tm 2 = (vi a2) ∧ tm 7 = (pV b1 0))) (fun k1 => ?_) ?_
 ·rcases Bool.eq_false_or_eq_true (decide (x4.1 ≠ 1)) with q5 | q5
  ·refine o_gn rfl q5 (o_gn rfl q5 ?_)
   refine o_pickt (a := (.bool true)) rfl q5 rfl ?_
   exact k1 _ _ ⟨gf rfl (by first | (rw [q5]; first | done | rfl) | simp [q5]), _, _, Gw.refl _ _, s11, h2, h3, h4⟩
  refine o_gy rfl q5 (o_mv h6 (o_gy rfl q5 (o_neq rfl rfl ?_)))
  refine o_pickf (b := (.bool (decide (x4.2 ≠ 0)))) rfl q5 rfl ?_
  exact k1 _ _ ⟨gf rfl (by first | (rw [q5]; first | done | rfl) | simp [q5]), _, _, Gw.refl _ _, s11, h2, h3, h4⟩
 intro _ H7 i6
 obtain ⟨h10, Z6, V6, g6, s12, h7, h8, h9⟩ := i6
 refine c_nil ?_
 refine c_if h10 (fun q6 => ?_) (fun q6 => ?_)
 ·replace e := if_t q6 e
  refine c_sr ?_
  refine o_mv (v := (.bool false)) rfl ?_
  refine c_nil (c_rt ?_)
  obtain rfl := oJ e
  exact ⟨.inr rfl, _, (ar1 rfl), rfl, ((s12.pick [] rfl).weak (g1.trans (g2.trans (g3.trans (g4.trans (g5.trans g6))))) hs.zv)⟩
 replace e := ib_f q6 e
 refine c_sk (c_sr (o_ldB 0 s12 rfl h9 rfl rfl (o_mv h7 ?_)))
 obtain ⟨Z7, V7, g7, s13, h11⟩ := s12.frzS 1 rfl
 replace h11 := h11.of_ro
 obtain ⟨x5, q7, e⟩ := oB e
 obtain ⟨Z8, V8, W5, g8, u5, c17, c18, -, c20, c19⟩ := Sat.call (l1 := []) s13
 refine o_call (mc rfl (mc rfl m0)) (X.rank_Count nd.rank_Count c17 (h11.mono g8.z) q7) fun _ H8 i7 => ?_
 obtain ⟨rfl, s14⟩ := i7
 have s15 := c19 _ _ s14
 refine o_mv (v := (.tuple #[vi x5.1, vi x5.2])) rfl ?_
 refine o_ext rfl rfl (o_ext rfl rfl ?_)
 refine o_mv (v := (vi x5.1)) rfl ?_
 refine o_mv (v := (vi x5.2)) rfl ?_
 refine c_nil (c_sq (c_sr ?_))
 refine o_mv (v := (vi x5.2)) rfl ?_
 refine o_neq rfl rfl ?_
 refine o_mv (v := (.bool (decide (x5.2 ≠ 0)))) rfl ?_
 refine o_jn 3 (I := fun tm H => tm 42 = .bool ((decide (x5.2 ≠ 0)) || (decide (x5.1 = 0))) ∧ (∃ (Z9 V9 : PH), Gw Z8 V8 Z9 V9 ∧ Sat Z9 V9 H [pts b1 (.rw 0 [vi x1.Terms, vi x1.Nons, vi x1.Start, (vS d1 x1.Rules)])] ∧ tm 1 = (vi x2) ∧ tm 2 = (vi a2) ∧ tm 7 = (pV b1 0) ∧ tm 10 = (vi x5.1))) (fun k2 => ?_) ?_
 ·rcases Bool.eq_false_or_eq_true (decide (x5.2 ≠ 0)) with q8 | q8
  ·refine o_gn rfl q8 (o_gn rfl q8 ?_)
   refine o_pickt (a := (.bool true)) rfl q8 rfl ?_
   exact k2 _ _ ⟨gf rfl (by first | (rw [q8]; first | done | rfl) | simp [q8]), _, _, Gw.refl _ _, s15, h7, h8, h9, rfl⟩
  refine o_gy rfl q8 ?_
  refine o_mv (v := (vi x5.1)) rfl ?_
  refine o_gy rfl q8 (o_eql rfl rfl ?_)
  refine o_pickf (b := (.bool (decide (x5.1 = 0)))) rfl q8 rfl ?_
  exact k2 _ _ ⟨gf rfl (by first | (rw [q8]; first | done | rfl) | simp [q8]), _, _, Gw.refl _ _, s15, h7, h8, h9, rfl⟩
 intro _ H9 i8
 obtain ⟨h16, Z9, V9, g9, s16, h12, h13, h14, h15⟩ := i8
 refine c_nil ?_
 refine c_if h16 (fun q9 => ?_) (fun q9 => ?_)
 ·replace e := if_t q9 e
  refine c_sr ?_
  refine o_mv (v := (.bool true)) rfl ?_
  refine c_nil (c_rt ?_)
  obtain rfl := oJ e
  exact ⟨.inr rfl, _, (ar1 rfl), rfl, ((s16.pick [] rfl).weak (g1.trans (g2.trans (g3.trans (g4.trans (g5.trans (g6.trans (g7.trans (g8.trans g9)))))))) hs.zv)⟩
 replace e := ib_f q9 e
 refine c_sk (c_sr (o_mv h13 (o_mv h15 ?_)))
 obtain ⟨x6, q10, e⟩ := oB e
 obtain ⟨Z10, V10, W6, g10, u6, c21, c22, -, c24, c23⟩ := Sat.call (l1 := []) s16
 refine o_call (mc rfl (mc rfl m0)) (X.parlkeep5_below nd.parlkeep5_below c21 q10) fun _ H10 i9 => ?_
 obtain ⟨rfl, s17⟩ := i9
 have s18 := c23 _ _ s17
 refine o_mv (v := (vi x6)) rfl ?_
 refine c_nil (c_sr (o_ldB 0 s18 rfl h14 rfl rfl (o_mv h12 ?_)))
 refine o_mv (v := (vi x6)) rfl ?_
 obtain ⟨x7, q11, e⟩ := oB e
 obtain ⟨Z11, V11, W7, g11, u7, c25, c26, -, c28, c27⟩ := Sat.call (l1 := []) s18
 refine o_call (mc rfl (mc rfl (mc rfl m0))) (X.rank_Tree nd.rank_Tree c25 (h11.mono ((g8.trans (g9.trans g10)).trans g11).z) q11) fun _ H11 i10 => ?_
 obtain ⟨w3, rfl, s19⟩ := i10
 have s20 := c27 _ _ s19
 refine o_mv (v := (.tuple #[(.agg #[vi x7.1.Rule, vi x7.1.Term, w3]), vi x7.2])) rfl ?_
 refine o_ext rfl rfl (o_ext rfl rfl ?_)
 refine o_new s20 fun b2 H12 s21 => ?_
 obtain ⟨d2, rfl⟩ := ((s21.curS (s := (Sh.ro Sh.api_Tree)) 1 rfl)).val
 refine o_stB (us' := [vi x7.1.Rule, vi x7.1.Term, (vS d2 x7.1.Kids)]) 0 s21 rfl rfl rfl rfl rfl rfl rfl fun H13 s22 => ?_
 refine o_mv (v := (vi x7.2)) rfl ?_
 refine c_nil ?_
 refine c_gen (P := fun tm => tm 1 = (vi x2) ∧ tm 2 = (vi x6) ∧ tm 7 = (pV b1 0) ∧ tm 11 = (vi x7.2) ∧ tm 12 = (pV b2 0) ∧ True) ⟨h12, rfl, h14, rfl, rfl, trivial⟩ ?_
 intro _ i11
 obtain ⟨h17, h18, h19, h20, h21, -⟩ := i11
 refine c_sq (c_sr (o_mv h20 (o_neq rfl rfl ?_)))
 refine o_mv (v := (.bool (decide (x7.2 ≠ 0)))) rfl ?_
 obtain ⟨y1, e1, e⟩ := oB e
 refine o_jn 5 (I := fun tm H => ∃ (Z12 V12 : PH), Gw Z11 V11 Z12 V12 ∧ Sat Z12 V12 H [pts b1 (.rw 0 [vi x1.Terms, vi x1.Nons, vi x1.Start, (vS d1 x1.Rules)]), pts b2 (.rw 0 [vi x7.1.Rule, vi x7.1.Term, (vS d2 x7.1.Kids)]), It.sl (Sh.ro Sh.api_Tree) (vS d2 x7.1.Kids) x7.1.Kids] ∧ tm 1 = (vi x2) ∧ tm 2 = (vi x6) ∧ tm 7 = (pV b1 0) ∧ tm 12 = (pV b2 0) ∧ tm 60 = (.bool y1)) (fun k3 => ?_) ?_
 ·rcases Bool.eq_false_or_eq_true (decide (x7.2 ≠ 0)) with q12 | q12
  ·replace e1 := if_t q12 e1
   refine o_gn rfl q12 (o_gn rfl q12 (o_gn rfl q12 (o_gn rfl q12 ?_)))
   refine o_pickt (a := (.bool true)) rfl q12 rfl ?_
   obtain rfl := oJ e1
   exact k3 _ _ ⟨_, _, Gw.refl _ _, (s22.pick [2, 0, 1] rfl), h17, h18, h19, h21, rfl⟩
  replace e1 := ib_f q12 e1
  refine o_gy rfl q12 (o_ldB 2 s22 rfl h19 rfl rfl (o_gy rfl q12 (o_ldB 0 s22 rfl h21 rfl rfl (o_gy rfl q12 ?_))))
  obtain ⟨x8, q13, e1⟩ := oB e1
  obtain ⟨Z13, V13, W8, g13, u8, c29, c30, -, c32, c31⟩ := Sat.call (l1 := []) s22
  refine o_call (mc rfl (mc rfl m0)) (X.tree_Check nd.tree_Check c29 (h11.mono (((g8.trans (g9.trans (g10.trans g11))).trans g13).z.trans c29.zv)) (c30 1 _ (Sh.ro Sh.api_Tree) _ _ rfl) q13) fun _ H15 i12 => ?_
  obtain ⟨rfl, s24⟩ := i12
  have s25 := c31 _ _ s24
  refine o_gy rfl q12 (o_neq rfl rfl ?_)
  refine o_pickf (b := (.bool (decide (x8 ≠ 0)))) rfl q12 rfl ?_
  obtain rfl := oJ e1
  exact k3 _ _ ⟨_, _, g13, (s25.pick [2, 0, 1] rfl), h17, h18, h19, h21, rfl⟩
 intro _ H14 i13
 obtain ⟨Z12, V12, g12, s23, h22, h23, h24, h25, h26⟩ := i13
 refine c_nil ?_
 refine c_if h26 (fun q14 => ?_) (fun q14 => ?_)
 ·replace e := if_t q14 e
  refine c_sr ?_
  refine o_mv (v := (.bool false)) rfl ?_
  refine c_nil (c_rt ?_)
  obtain rfl := oJ e
  exact ⟨.inr rfl, _, (ar1 rfl), rfl, ((s23.pick [] rfl).weak (g1.trans (g2.trans (g3.trans (g4.trans (g5.trans (g6.trans (g7.trans (g8.trans (g9.trans (g10.trans (g11.trans g12))))))))))) hs.zv)⟩
 replace e := ib_f q14 e
 refine c_sk (c_sr (o_ldB 0 s23 rfl h24 rfl rfl (o_ldB 1 s23 rfl h25 rfl rfl ?_)))
 obtain ⟨Z14, V14, g14, s26, h27⟩ := s23.frzS 2 rfl
 replace h27 := h27.of_ro
 obtain ⟨x9, q15, e⟩ := oB e
 obtain ⟨Z15, V15, W9, g15, u9, c33, c34, -, c36, c35⟩ := Sat.call (l1 := []) s26
 refine o_call (mc rfl (mc rfl m0)) (X.rank_Of nd.rank_Of c33 (h11.mono ((g8.trans (g9.trans (g10.trans (g11.trans (g12.trans g14))))).trans g15).z) (h27.mono g15.z) q15) fun _ H16 i14 => ?_
 obtain ⟨rfl, s27⟩ := i14
 have s28 := c35 _ _ s27
 refine o_mv (v := (.tuple #[vi x9.1, vi x9.2.1, vi x9.2.2])) rfl ?_
 refine o_ext rfl rfl (o_ext rfl rfl (o_ext rfl rfl ?_))
 refine o_mv (v := (vi x9.1)) rfl ?_
 refine o_mv (v := (vi x9.2.1)) rfl ?_
 refine o_mv (v := (vi x9.2.2)) rfl ?_
 refine c_nil ?_
 refine c_gen (P := fun tm => tm 1 = (vi x2) ∧ tm 2 = (vi x6) ∧ tm 13 = (vi x9.1) ∧ tm 14 = (vi x9.2.1) ∧ tm 15 = (vi x9.2.2) ∧ True) ⟨h22, h23, rfl, rfl, rfl, trivial⟩ ?_
 intro _ i15
 obtain ⟨h28, h29, h30, h31, h32, -⟩ := i15
 refine c_sr (o_mv h32 (o_eql rfl rfl ?_))
 refine o_mv (v := (.bool (decide (x9.2.2 = 0)))) rfl ?_
 refine o_jn 4 (I := fun tm H => tm 74 = .bool ((decide (x9.2.2 = 0)) && (decide (x9.1 = x2))) ∧ (∃ (Z16 V16 : PH), Gw Z15 V15 Z16 V16 ∧ Sat Z16 V16 H [] ∧ tm 2 = (vi x6) ∧ tm 14 = (vi x9.2.1))) (fun k4 => ?_) ?_
 ·rcases Bool.eq_false_or_eq_true (decide (x9.2.2 = 0)) with q16 | q16
  ·refine o_gy rfl q16 (o_mv h30 (o_gy rfl q16 (o_mv h28 (o_gy rfl q16 ?_))))
   refine o_eql rfl rfl ?_
   refine o_pickt (a := (.bool (decide (x9.1 = x2)))) rfl q16 rfl ?_
   exact k4 _ _ ⟨gf rfl (by first | (rw [q16]; first | done | rfl) | simp [q16]), _, _, Gw.refl _ _, (s28.pick [] rfl), h29, h31⟩
  refine o_gn rfl q16 (o_gn rfl q16 (o_gn rfl q16 ?_))
  refine o_pickf (b := (.bool false)) rfl q16 rfl ?_
  exact k4 _ _ ⟨gf rfl (by first | (rw [q16]; first | done | rfl) | simp [q16]), _, _, Gw.refl _ _, (s28.pick [] rfl), h29, h31⟩
 intro _ H17 i16
 obtain ⟨h35, Z16, V16, g16, s29, h33, h34⟩ := i16
 refine o_mv h35 ?_
 refine o_jn 4 (I := fun tm H => tm 79 = .bool (((decide (x9.2.2 = 0)) && (decide (x9.1 = x2))) && (decide (x9.2.1 = x6))) ∧ (∃ (Z17 V17 : PH), Gw Z16 V16 Z17 V17 ∧ Sat Z17 V17 H [])) (fun k5 => ?_) ?_
 ·rcases Bool.eq_false_or_eq_true ((decide (x9.2.2 = 0)) && (decide (x9.1 = x2))) with q17 | q17
  ·refine o_gy rfl q17 (o_mv h34 (o_gy rfl q17 (o_mv h33 (o_gy rfl q17 ?_))))
   refine o_eql rfl rfl ?_
   refine o_pickt (a := (.bool (decide (x9.2.1 = x6)))) rfl q17 rfl ?_
   exact k5 _ _ ⟨gf rfl (by first | (rw [q17]; first | done | rfl) | simp [q17]), _, _, Gw.refl _ _, s29⟩
  refine o_gn rfl q17 (o_gn rfl q17 (o_gn rfl q17 ?_))
  refine o_pickf (b := (.bool false)) rfl q17 rfl ?_
  exact k5 _ _ ⟨gf rfl (by first | (rw [q17]; first | done | rfl) | simp [q17]), _, _, Gw.refl _ _, s29⟩
 intro _ H18 i17
 obtain ⟨h36, Z17, V17, g17, s30⟩ := i17
 refine o_mv h36 (c_nil (c_rt ?_))
 obtain rfl := oJ e
 exact ⟨.inr rfl, _, (ar1 rfl), rfl, (s30.weak (g1.trans (g2.trans (g3.trans (g4.trans (g5.trans (g6.trans (g7.trans (g8.trans (g9.trans (g10.trans (g11.trans (g12.trans (g14.trans (g15.trans (g16.trans g17))))))))))))))) hs.zv)⟩
end Go.Proofs.Ythgdobdhdfjhfaa
