import Derived.Test.YtmeigkelacoibaaX1
import Derived.Test.YtmeigkelacoibaaGcensus
import Derived.Test.YtmeigkelacoibaaGcmp
import Derived.Test.YtmeigkelacoibaaGdraw
import Derived.Test.YtmeigkelacoibaaGgram
import Derived.Test.YtmeigkelacoibaaGparlkeep5
import Derived.Test.YtmeigkelacoibaaGparlmake
import Derived.Test.YtmeigkelacoibaaGrank
import Derived.Test.YtmeigkelacoibaaGslices
import Derived.Test.YtmeigkelacoibaaGtree
namespace Go.Proofs.Ytmeigkelacoibaa
open Go Go.Ab
structure Nd.census_Trees (T : FuncId → Option AFunc) : Prop where
 own : Has T I.census_Trees F.census_Trees
 gram_Check : Nd.gram_Check T
 census_newTable : Nd.census_newTable T
 census_table_find : Nd.census_table_find T
 census_table_loops : Nd.census_table_loops T
 census_table_count : Nd.census_table_count T
set_option maxHeartbeats 1000000 in
theorem X.census_Trees {T : FuncId → Option AFunc} (nd : Nd.census_Trees T) {φ : Nat} {Z V : PH} {H : Hp} {v1 : Value} {a0 : Ty.api_Grammar} {a1 : Int} (hs : Sat Z V H []) (hp1 : RdS Sh.api_Rule Z v1 a0.Rules) {r : ((List (List Int)) × Int)} (e : P.census_Trees φ a0 a1 = some r) :
 G T I.census_Trees [(.agg #[vi a0.Terms, vi a0.Nons, vi a0.Start, v1]), vi a1] H (fun rv H' => ∃ (u1 : Value), rv = (.tuple #[u1, vi r.2]) ∧ Sat Z V H' [It.sl sI1 u1 r.1]) := by
 unfold P.census_Trees at e
 refine f_mk nd.own ?_
 refine c_sr ?_
 obtain ⟨d1, rfl⟩ := (hp1).val
 refine o_box hs rfl rfl fun b1 H1 s1 => ?_
 refine o_mv (v := (.slice none 0 0)) rfl ?_
 refine o_mv (v := (vi 0)) rfl ?_
 refine c_nil (c_sq (c_sr (o_ldB 0 s1 rfl rfl rfl rfl ?_)))
 obtain ⟨x1, q1, e⟩ := oB e
 obtain ⟨Z1, V1, W1, g1, u1, c1, c2, -, c4, c3⟩ := Sat.call (l1 := []) s1
 refine o_call (mc rfl m0) (X.gram_Check nd.gram_Check c1 (hp1.mono (g1.z.trans c1.zv)) q1) fun _ H2 i1 => ?_
 obtain ⟨rfl, s2⟩ := i1
 have s3 := c3 _ _ s2
 refine o_mv (v := (vi x1)) rfl ?_
 refine c_nil (c_sr ?_)
 refine o_mv (v := (vi x1)) rfl ?_
 refine o_neq rfl rfl (c_nil ?_)
 refine c_ifd rfl (fun q2 => ?_) (fun q2 => ?_)
 ·replace e := if_t q2 e
  refine c_sr ?_
  refine o_mv (v := (vi x1)) rfl ?_
  refine o_mv (v := (.slice none 0 0)) rfl ?_
  refine o_mv (v := (vi x1)) rfl ?_
  refine c_nil ?_
  refine c_gen (P := fun tm => tm 4 = (.slice none 0 0) ∧ tm 5 = (vi x1) ∧ True) ⟨rfl, rfl, trivial⟩ ?_
  intro _ i2
  obtain ⟨h1, h2, -⟩ := i2
  refine c_rt ?_
  obtain rfl := oJ e
  exact ⟨.inr rfl, _, (ar2 h1 h2), _, rfl, (((s3.push (sl_nil (s := sI1))).pick [0] rfl).weak g1 hs.zv)⟩
 replace e := if_f q2 e
 refine c_sk (c_sq (c_sr ?_))
 refine o_mv (v := (vi a1)) rfl ?_
 refine o_lss rfl rfl ?_
 refine o_mv (v := (.bool (decide (a1 < 0)))) rfl ?_
 refine o_jn 3 (I := fun tm H => tm 21 = .bool ((decide (a1 < 0)) || (decide (24 < a1))) ∧ (∃ (Z2 V2 : PH), Gw Z1 V1 Z2 V2 ∧ Sat Z2 V2 H [pts b1 (.rw 0 [vi a0.Terms, vi a0.Nons, vi a0.Start, (vS d1 a0.Rules)])] ∧ tm 1 = (vi a1) ∧ tm 2 = (pV b1 0))) (fun k1 => ?_) ?_
 ·rcases Bool.eq_false_or_eq_true (decide (a1 < 0)) with q3 | q3
  ·refine o_gn rfl q3 (o_gn rfl q3 ?_)
   refine o_pickt (a := (.bool true)) rfl q3 rfl ?_
   exact k1 _ _ ⟨gf rfl (by first | (rw [q3]; first | done | rfl) | simp [q3]), _, _, Gw.refl _ _, s3, rfl, rfl⟩
  refine o_gy rfl q3 ?_
  refine o_mv (v := (vi a1)) rfl ?_
  refine o_gy rfl q3 (o_gtr rfl rfl ?_)
  refine o_pickf (b := (.bool (decide (24 < a1)))) rfl q3 rfl ?_
  exact k1 _ _ ⟨gf rfl (by first | (rw [q3]; first | done | rfl) | simp [q3]), _, _, Gw.refl _ _, s3, rfl, rfl⟩
 intro _ H3 i3
 obtain ⟨h5, Z2, V2, g2, s4, h3, h4⟩ := i3
 refine c_nil ?_
 refine c_if h5 (fun q4 => ?_) (fun q4 => ?_)
 ·replace e := if_t q4 e
  refine c_sr ?_
  refine o_mv (v := (.slice none 0 0)) rfl ?_
  refine o_mv (v := (vi 1)) rfl ?_
  refine c_nil (c_rt ?_)
  obtain rfl := oJ e
  exact ⟨.inr rfl, _, (ar2 rfl rfl), _, rfl, (((s4.push (sl_nil (s := sI1))).pick [0] rfl).weak (g1.trans g2) hs.zv)⟩
 replace e := ib_f q4 e
 refine c_sk (c_sr (o_ldB 0 s4 rfl h4 rfl rfl (o_mv h3 ?_)))
 obtain ⟨x2, q5, e⟩ := oB e
 obtain ⟨Z3, V3, W2, g3, u2, c5, c6, -, c8, c7⟩ := Sat.call (l1 := []) s4
 refine o_call (mc rfl (mc rfl m0)) (X.census_newTable nd.census_newTable c5 (hp1.mono ((g1.trans g2).trans g3).z) q5) fun _ H4 i4 => ?_
 obtain ⟨b2, w1, w2, w3, w4, w5, w6, rfl, s5⟩ := i4
 have s6 := c7 _ _ s5
 obtain ⟨Z4, V4, g4, s7, h6⟩ := (s6.pull 1 rfl).frzR
 refine o_mv (v := (pV b2 0)) rfl ?_
 refine c_nil (c_sr ?_)
 refine o_mv (v := (pV b2 0)) rfl ?_
 obtain ⟨x3, q6, e⟩ := oB e
 obtain ⟨d2, rfl⟩ := (h6).val
 obtain ⟨d3, rfl⟩ := ((s7.curS (s := sB) 1 rfl)).val
 obtain ⟨d4, rfl⟩ := ((s7.curS (s := sB) 2 rfl)).val
 obtain ⟨d5, rfl⟩ := ((s7.curS (s := sI1) 3 rfl)).val
 obtain ⟨d6, rfl⟩ := ((s7.curS (s := sB2) 4 rfl)).val
 obtain ⟨d7, rfl⟩ := ((s7.curS (s := sI2) 5 rfl)).val
 obtain ⟨Z5, V5, W3, g5, u3, c9, c10, -, c12, c11⟩ := Sat.call (l1 := [pts b2 (.rw 0 [vi x2.g.Terms, vi x2.g.Nons, vi x2.g.Start, (vS d2 x2.g.Rules), vi x2.n, (vS d3 x2.has_), (vS d4 x2.loop_), (vS d5 x2.known_), (vS d6 x2.ends), (vS d7 x2.ways)]), Is sB d3 x2.has_, Is sB d4 x2.loop_, Is sI1 d5 x2.known_, Is sB2 d6 x2.ends, Is sI2 d7 x2.ways]) (l2 := [pts b1 (.rw 0 [vi a0.Terms, vi a0.Nons, vi a0.Start, (vS d1 a0.Rules)])]) s7
 refine o_call (mc rfl m0) (X.census_table_find nd.census_table_find (a0 := x2) c9 (h6.mono g5.z) q6) fun _ H5 i5 => ?_
 obtain ⟨w7, w8, w9, w10, w11, w12, rfl, s8⟩ := i5
 have s9 := c11 _ _ s8
 obtain ⟨Z6, V6, g6, s10, h7⟩ := (s9.pull 1 rfl).frzR
 refine c_nil (c_sr ?_)
 refine o_mv (v := (pV b2 0)) rfl ?_
 obtain ⟨x4, q7, e⟩ := oB e
 obtain ⟨d8, rfl⟩ := (h7).val
 obtain ⟨d9, rfl⟩ := ((s10.curS (s := sB) 1 rfl)).val
 obtain ⟨d10, rfl⟩ := ((s10.curS (s := sB) 2 rfl)).val
 obtain ⟨d11, rfl⟩ := ((s10.curS (s := sI1) 3 rfl)).val
 obtain ⟨d12, rfl⟩ := ((s10.curS (s := sB2) 4 rfl)).val
 obtain ⟨d13, rfl⟩ := ((s10.curS (s := sI2) 5 rfl)).val
 obtain ⟨Z7, V7, W4, g7, u4, c13, c14, -, c16, c15⟩ := Sat.call (l1 := [pts b2 (.rw 0 [vi x3.g.Terms, vi x3.g.Nons, vi x3.g.Start, (vS d8 x3.g.Rules), vi x3.n, (vS d9 x3.has_), (vS d10 x3.loop_), (vS d11 x3.known_), (vS d12 x3.ends), (vS d13 x3.ways)]), Is sB d9 x3.has_, Is sB d10 x3.loop_, Is sI1 d11 x3.known_, Is sB2 d12 x3.ends, Is sI2 d13 x3.ways]) (l2 := [pts b1 (.rw 0 [vi a0.Terms, vi a0.Nons, vi a0.Start, (vS d1 a0.Rules)])]) s10
 refine o_call (mc rfl m0) (X.census_table_loops nd.census_table_loops (a0 := x3) c13 (h7.mono g7.z) q7) fun _ H6 i6 => ?_
 obtain ⟨w13, w14, w15, w16, w17, w18, rfl, s11⟩ := i6
 have s12 := c15 _ _ s11
 obtain ⟨Z8, V8, g8, s13, h8⟩ := (s12.pull 1 rfl).frzR
 refine c_nil (c_sr (o_fad h4 (o_ldB 6 s13 rfl rfl rfl rfl ?_)))
 obtain ⟨x5, q8, e⟩ := oB e
 refine o_mksH (s := Sh.int) s13 rfl rfl q8 fun w19 H7 s14 => ?_
 refine o_mv (v := w19) rfl ?_
 refine c_nil ?_
 refine c_gen (P := fun tm => tm 1 = (vi a1) ∧ tm 7 = (pV b2 0) ∧ tm 8 = w19 ∧ True) ⟨h3, rfl, rfl, trivial⟩ ?_
 intro _ i7
 obtain ⟨h9, h10, h11, -⟩ := i7
 refine c_sq (c_sr (o_mv h11 ?_))
 refine o_len rfl ((s14.curS (s := sI1) 0 rfl)).len ?_
 refine o_mv (v := (vi 0)) rfl ?_
 refine c_nil ?_
 obtain ⟨x7, q11, e⟩ := oB e
 obtain ⟨rfl, q13⟩ := ranO_some q11
 obtain ⟨y1, q14, e⟩ := oB e
 refine c_bk ?_
 refine l_forP (xs := (Pu.ran (x5.length : Int))) (fun (i8 : Nat) (s15 : (Int × Int × Int × (List Ty.api_Rule) × Int × (List (List Bool)) × (List (List Bool)) × (List (List Int)) × (List (List (List Bool))) × (List (List (List Int))) × (List (List Int)))) tm H => tm 34 = vi i8 ∧ ∃ (Z9 V9 : PH) (w20 : Value) (w21 : Value) (w22 : Value) (w23 : Value) (w24 : Value) (w25 : Value), Gw Z8 V8 Z9 V9 ∧ Sat Z9 V9 H [pts b2 (.rw 0 [vi s15.1, vi s15.2.1, vi s15.2.2.1, w25, vi s15.2.2.2.2.1, w20, w21, w22, w23, w24]), It.sl sB w20 s15.2.2.2.2.2.1, It.sl sB w21 s15.2.2.2.2.2.2.1, It.sl sI1 w22 s15.2.2.2.2.2.2.2.1, It.sl sB2 w23 s15.2.2.2.2.2.2.2.2.1, It.sl sI2 w24 s15.2.2.2.2.2.2.2.2.2.1, It.sl sI1 w19 s15.2.2.2.2.2.2.2.2.2.2] ∧ tm 1 = (vi a1) ∧ tm 7 = (pV b2 0) ∧ tm 8 = w19 ∧ tm 33 = (vN x5) ∧ RdS Sh.api_Rule Z9 w25 s15.2.2.2.1) (fun i8 x6 s15 s17 tm H9 q9 q10 j1 e1 k2 => ?_) (fun tm H8 jd => ?_) q14 ⟨rfl, _, _, _, _, _, _, _, _, Gw.refl _ _, (s14.pick [1, 2, 3, 4, 5, 6, 0] rfl), h9, h10, h11, rfl, h8⟩
 ·obtain ⟨hti0, Z9, V9, w20, w21, w22, w23, w24, w25, g9, s16, h13, h14, h15, h16, h12⟩ := j1
  unfold P.census_Trees.b0 at e1
  have hti0 := iv hti0 (ran_x q9).symm
  refine c_sr (o_lss hti0 h16 (c_nil (c_sq ?_)))
  refine c_ift rfl (ran_lt q9) ?_
  refine c_sk (c_sq (c_bk (c_sr (o_mv hti0 ?_))))
  refine o_mv (v := (vi x6)) rfl ?_
  refine c_nil (c_sr (o_mv h13 (o_add rfl rfl ?_)))
  refine o_mv (v := (vi 0)) rfl ?_
  refine c_nil ?_
  obtain ⟨x9, q17, e1⟩ := oB e1
  obtain ⟨rfl, q19⟩ := ranO_some q17
  obtain ⟨y2, q20, e1⟩ := oB e1
  refine c_bk ?_
  refine l_forP (xs := (Pu.ran (Pu.W (a1 + 1)))) (fun (i9 : Nat) (s18 : (Int × Int × Int × (List Ty.api_Rule) × Int × (List (List Bool)) × (List (List Bool)) × (List (List Int)) × (List (List (List Bool))) × (List (List (List Int))) × (List (List Int)))) tm H => tm 39 = vi i9 ∧ ∃ (Z10 V10 : PH) (w26 : Value) (w27 : Value) (w28 : Value) (w29 : Value) (w30 : Value) (w31 : Value), Gw Z9 V9 Z10 V10 ∧ Sat Z10 V10 H [pts b2 (.rw 0 [vi s18.1, vi s18.2.1, vi s18.2.2.1, w31, vi s18.2.2.2.2.1, w26, w27, w28, w29, w30]), It.sl sB w26 s18.2.2.2.2.2.1, It.sl sB w27 s18.2.2.2.2.2.2.1, It.sl sI1 w28 s18.2.2.2.2.2.2.2.1, It.sl sB2 w29 s18.2.2.2.2.2.2.2.2.1, It.sl sI2 w30 s18.2.2.2.2.2.2.2.2.2.1, It.sl sI1 w19 s18.2.2.2.2.2.2.2.2.2.2] ∧ tm 1 = (vi a1) ∧ tm 7 = (pV b2 0) ∧ tm 8 = w19 ∧ tm 9 = (vi x6) ∧ tm 33 = (vN x5) ∧ tm 34 = (vi x6) ∧ tm 38 = (vi (Pu.W (a1 + 1))) ∧ RdS Sh.api_Rule Z10 w31 s18.2.2.2.1) (fun i9 x8 s18 s20 tm H11 q15 q16 j2 e2 k3 => ?_) (fun tm H10 jd => ?_) q20 ⟨rfl, _, _, _, _, _, _, _, _, Gw.refl _ _, s16, h13, h14, h15, rfl, h16, hti0, rfl, h12⟩
  ·obtain ⟨hti1, Z10, V10, w26, w27, w28, w29, w30, w31, g10, s19, h18, h19, h20, h21, h22, h23, h24, h17⟩ := j2
   unfold P.census_Trees.b1 at e2
   have hti1 := iv hti1 (ran_x q15).symm
   refine c_sr (o_lss hti1 h24 (c_nil (c_sq ?_)))
   refine c_ift rfl (ran_lt q15) ?_
   refine c_sk (c_sq (c_bk (c_sr (o_mv hti1 ?_))))
   refine o_mv (v := (vi x8)) rfl ?_
   refine c_nil ?_
   refine d_start s19 fun n1 H12 s21 q21 d14 => ?_
   refine d_mv h20 ?_
   refine d_mv h21 ?_
   refine d_mv h20 ?_
   refine d_mv h21 ?_
   obtain ⟨x10, q22, e2⟩ := oB e2
   refine d_idx (v := w19) rfl rfl (s21.curS (s := sI1) 6 rfl) rfl q22 fun p1 q23 => ?_
   refine d_foc ((s21.curS 6 rfl).low pR q21) 6 s21 rfl rfl q23 q22 fun w32 s22 => ?_
   refine d_mv h19 ?_
   refine d_mv h21 ?_
   refine d_mv (v := (vi x8)) rfl ?_
   obtain ⟨x11, q24, e2⟩ := oB e2
   obtain ⟨d15, rfl⟩ := (h17).val
   obtain ⟨d16, rfl⟩ := ((s22.curS (s := sB) 2 rfl)).val
   obtain ⟨d17, rfl⟩ := ((s22.curS (s := sB) 3 rfl)).val
   obtain ⟨d18, rfl⟩ := ((s22.curS (s := sI1) 4 rfl)).val
   obtain ⟨d19, rfl⟩ := ((s22.curS (s := sB2) 5 rfl)).val
   obtain ⟨d20, rfl⟩ := ((s22.curS (s := sI2) 6 rfl)).val
   obtain ⟨Z11, V11, W5, g11, u5, c17, c18, -, c20, c19⟩ := Sat.call (l1 := [pts b2 (.rw 0 [vi s18.1, vi s18.2.1, vi s18.2.2.1, (vS d15 s18.2.2.2.1), vi s18.2.2.2.2.1, (vS d16 s18.2.2.2.2.2.1), (vS d17 s18.2.2.2.2.2.2.1), (vS d18 s18.2.2.2.2.2.2.2.1), (vS d19 s18.2.2.2.2.2.2.2.2.1), (vS d20 s18.2.2.2.2.2.2.2.2.2.1)]), Is sB d16 s18.2.2.2.2.2.1, Is sB d17 s18.2.2.2.2.2.2.1, Is sI1 d18 s18.2.2.2.2.2.2.2.1, Is sB2 d19 s18.2.2.2.2.2.2.2.2.1, Is sI2 d20 s18.2.2.2.2.2.2.2.2.2.1]) (l2 := [It.sl Sh.int w32 x10, It.hole sI1 w19 s18.2.2.2.2.2.2.2.2.2.2 (Int.toNat x6) [w32]]) (s22.pick [1, 2, 3, 4, 5, 6, 0, 7] rfl)
   refine d_call (mc rfl (mc rfl (mc rfl m0))) (X.census_table_count nd.census_table_count (a0 := (Ty.census_table.mk (Ty.api_Grammar.mk s18.1 s18.2.1 s18.2.2.1 s18.2.2.2.1) s18.2.2.2.2.1 s18.2.2.2.2.2.1 s18.2.2.2.2.2.2.1 s18.2.2.2.2.2.2.2.1 s18.2.2.2.2.2.2.2.2.1 s18.2.2.2.2.2.2.2.2.2.1)) c17 (h17.mono g11.z) q24) fun _ H13 i10 k4 => ?_
   have d21 := d14.keep k4
   obtain ⟨w33, w34, w35, w36, w37, w38, rfl, s23⟩ := i10
   have s24 := c19 _ _ s23
   obtain ⟨Z12, V12, g12, s25, h25⟩ := (s24.pull 1 rfl).frzR
   refine d_bsl (s := Sh.int) (us := [vi x11.2]) (qs := [(0, 1, (vi x11.2))]) (xs := [x11.2]) (d21.get 10 rfl rfl) s25 Sh.flat_lt rfl rfl rfl (Els.cons (c := [vi x11.2]) rfl Els.nil) rfl rfl fun w39 H14 s26 k5 => ?_
   have d22 := d21.next 10 rfl k5
   obtain ⟨x12, q25, e2⟩ := oB e2
   refine d_app 7 s26 rfl Sh.flat_lt rfl rfl rfl rfl (s26.curS (s := Sh.int) 0 rfl) pR (fun h => h) (by decide) q25 fun w40 H15 s27 k6 => ?_
   have d23 := d22.keep k6
   obtain ⟨x13, q27, e2⟩ := oB e2
   refine d_idxh 8 s27 rfl rfl rfl rfl q27 fun p2 q26 => ?_
   refine d_hst 8 s27 rfl rfl rfl q26 q27 (s27.curS (s := Sh.int) 7 rfl).one fun H16 s28 k7 => ?_
   have d24 := d23.keep k7
   have s29 := Sat.unfoc 7 rfl (s28.pull 7 rfl)
   refine d_nil (dc_mk rfl (ta8 (tra (tre (tl4 (trl tr0))))) (ta4 (tra (tre (tl8 (trl tr0))))) (ta4 (tre (tl8 (tl2 tr0)))) (ag_ldx (w := w32) w_0 rfl (hole_ld 7 s22 rfl q22 q23) (hole_ld 7 s22 rfl q22 q23) (vs_rd (s22.curS (s := Sh.int) 0 rfl))) (ag_ldx (w := w32) w_0 rfl (hole_ld 7 s22 rfl q22 q23) (hole_ld 7 s25 rfl q22 q23) (vs_rd (s22.curS (s := Sh.int) 0 rfl))) dc_nil) ?_
   refine c_end (c_r (o_add hti1 rfl ?_))
   refine o_mv (v := (vi (Pu.W (x8 + 1)))) rfl ?_
   refine c_nil ?_
   obtain rfl := oJ e2
   exact k3 _ _ ⟨(iv rfl (w_sucR q15 q19)), _, _, _, _, _, _, _, _, (g10.trans (g11.trans g12)), (s29.pick [1, 2, 3, 4, 5, 6, 7] rfl), h18, h19, h20, h21, h22, h23, h24, h25⟩
  obtain ⟨hte1, Z13, V13, w41, w42, w43, w44, w45, w46, g13, s30, h27, h28, h29, h30, h31, h32, h33, h26⟩ := jd
  refine c_sr (o_lss hte1 h33 (c_nil (c_sq ?_)))
  refine c_iff rfl (ran_done _) ?_
  refine c_ex ?_
  refine e_c ?_
  refine e_c ?_
  refine e_h ?_
  refine c_end (c_r (o_add h32 rfl ?_))
  refine o_mv (v := (vi (Pu.W (x6 + 1)))) rfl ?_
  refine c_nil ?_
  obtain rfl := oJ e1
  exact k2 _ _ ⟨(iv rfl (w_sucR q9 q13)), _, _, _, _, _, _, _, _, (g9.trans g13), s30, h27, h28, h29, h31, h26⟩
 obtain ⟨hte0, Z14, V14, w47, w48, w49, w50, w51, w52, g14, s31, h35, h36, h37, h38, h34⟩ := jd
 refine c_sr (o_lss hte0 h38 (c_nil (c_sq ?_)))
 refine c_iff rfl (ran_done _) ?_
 refine c_ex ?_
 refine e_c ?_
 refine e_c ?_
 refine e_h ?_
 refine c_sr (o_mv h37 ?_)
 refine o_mv (v := w19) rfl ?_
 refine o_mv (v := (vi 0)) rfl ?_
 refine c_nil (c_rt ?_)
 obtain rfl := oJ e
 exact ⟨.inr rfl, _, (ar2 rfl rfl), _, rfl, ((s31.pick [6] rfl).weak (g1.trans (g2.trans (g3.trans (g4.trans (g5.trans (g6.trans (g7.trans (g8.trans g14)))))))) hs.zv)⟩
structure Nd.rank_open (T : FuncId → Option AFunc) : Prop where
 own : Has T I.rank_open F.rank_open
 census_Trees : Nd.census_Trees T
set_option maxHeartbeats 1000000 in
theorem X.rank_open {T : FuncId → Option AFunc} (nd : Nd.rank_open T) {φ : Nat} {Z V : PH} {H : Hp} {v1 : Value} {a0 : Ty.api_Grammar} {a1 : Int} (hs : Sat Z V H []) (hp1 : RdS Sh.api_Rule Z v1 a0.Rules) {r : ((Option Ty.rank_book) × Int × Int)} (e : P.rank_open φ a0 a1 = some r) :
 G T I.rank_open [(.agg #[vi a0.Terms, vi a0.Nons, vi a0.Start, v1]), vi a1] H (fun rv H' => ∃ (o101 : Nat) (u2 : Value) (u3 : Value) (o104 : Nat), rv = (.tuple #[(ov r.1 o101), vi r.2.1, vi r.2.2]) ∧ Sat Z V H' (oi r.1 (fun y => [pts o101 (.rw 0 [vi y.g.Terms, vi y.g.Nons, vi y.g.Start, u2, u3, (.map (some o104))]), Sh.it (Sh.ro (Sh.sl Sh.api_Rule)) [u2] y.g.Rules, It.sl sI1 u3 y.n, It.mp kE3 vi o104 y.many_]))) := by
 unfold P.rank_open at e
 refine f_mk nd.own ?_
 refine c_sr ?_
 obtain ⟨d1, rfl⟩ := (hp1).val
 refine o_box hs rfl rfl fun b1 H1 s1 => ?_
 refine o_mv (v := (.pointer none)) rfl ?_
 refine o_mv (v := (vi 0)) rfl ?_
 refine o_mv (v := (vi 0)) rfl ?_
 refine c_nil (c_sr (o_ldB 0 s1 rfl rfl rfl rfl ?_))
 refine o_mv (v := (vi a1)) rfl ?_
 obtain ⟨x1, q1, e⟩ := oB e
 obtain ⟨Z1, V1, W1, g1, u1, c1, c2, -, c4, c3⟩ := Sat.call (l1 := []) s1
 refine o_call (mc rfl (mc rfl m0)) (X.census_Trees nd.census_Trees c1 (hp1.mono g1.z) q1) fun _ H2 i1 => ?_
 obtain ⟨w1, rfl, s2⟩ := i1
 have s3 := c3 _ _ s2
 refine o_mv (v := (.tuple #[w1, vi x1.2])) rfl ?_
 refine o_ext rfl rfl (o_ext rfl rfl ?_)
 refine o_mv (v := w1) rfl ?_
 refine o_mv (v := (vi x1.2)) rfl ?_
 refine c_nil ?_
 refine c_gen (P := fun tm => tm 1 = (vi a1) ∧ tm 2 = (pV b1 0) ∧ tm 7 = w1 ∧ tm 8 = (vi x1.2) ∧ True) ⟨rfl, rfl, rfl, rfl, trivial⟩ ?_
 intro _ i2
 obtain ⟨h1, h2, h3, h4, -⟩ := i2
 refine c_sq (c_sr (o_mv h4 (o_neq rfl rfl (c_nil ?_))))
 refine c_ifd rfl (fun q2 => ?_) (fun q2 => ?_)
 ·replace e := if_t q2 e
  refine c_sr (o_mv h4 ?_)
  refine o_mv (v := (.pointer none)) rfl ?_
  refine o_mv (v := (vi 0)) rfl ?_
  refine o_mv (v := (vi x1.2)) rfl ?_
  refine c_nil (c_rt ?_)
  obtain rfl := oJ e
  exact ⟨.inr rfl, _, (ar3 rfl rfl rfl), 0, undef, undef, 0, rfl, ((s3.pick [] rfl).weak g1 hs.zv)⟩
 replace e := if_f q2 e
 refine c_sk (c_sr (o_mv h3 (o_fad h2 (o_ldB 1 s3 rfl rfl rfl rfl ?_))))
 obtain ⟨x2, q3, e⟩ := oB e
 refine o_idx (v := w1) rfl rfl (s3.curS (s := sI1) 0 rfl) rfl q3 fun p1 q4 => ?_
 refine o_ldsv rfl (s3.curS (s := sI1) 0 rfl) pR q4 q3 fun w2 h5 h6 => ?_
 refine o_mv h1 ?_
 obtain ⟨x3, q5, e⟩ := oB e
 refine o_idx (v := w2) rfl rfl h5 rfl q5 fun p2 q6 => ?_
 refine o_ldi rfl h5 pR q6 q5 ?_
 refine o_mv (v := (vi x3)) rfl ?_
 refine c_nil ?_
 refine c_gen (P := fun tm => tm 2 = (pV b1 0) ∧ tm 7 = w1 ∧ tm 9 = (vi x3) ∧ True) ⟨h2, h3, rfl, trivial⟩ ?_
 intro _ i3
 obtain ⟨h7, h8, h9, -⟩ := i3
 refine c_sr (o_mv h9 (c_nil (c_bk (c_sr ?_))))
 refine o_eql rfl rfl ?_
 refine o_mv (v := (.bool (decide (x3 = (-1))))) rfl ?_
 refine c_nil ?_
 refine c_ifd rfl (fun q7 => ?_) (fun q7 => ?_)
 ·replace e := if_t q7 e
  refine c_sr ?_
  refine o_mv (v := (.pointer none)) rfl ?_
  refine o_mv (v := (vi 0)) rfl ?_
  refine o_mv (v := (vi 9)) rfl ?_
  refine c_nil (c_rt ?_)
  obtain rfl := oJ e
  exact ⟨.inr rfl, _, (ar3 rfl rfl rfl), 0, undef, undef, 0, rfl, ((s3.pick [] rfl).weak g1 hs.zv)⟩
 replace e := if_f q7 e
 refine c_sr (o_eql rfl rfl ?_)
 refine o_mv (v := (.bool (decide (x3 = 1000000000)))) rfl ?_
 refine c_nil ?_
 refine c_ifd rfl (fun q8 => ?_) (fun q8 => ?_)
 ·replace e := if_t q8 e
  refine c_sr ?_
  refine o_mv (v := (.pointer none)) rfl ?_
  refine o_mv (v := (vi 0)) rfl ?_
  refine o_mv (v := (vi 2)) rfl ?_
  refine c_nil (c_rt ?_)
  obtain rfl := oJ e
  exact ⟨.inr rfl, _, (ar3 rfl rfl rfl), 0, undef, undef, 0, rfl, ((s3.pick [] rfl).weak g1 hs.zv)⟩
 replace e := if_f q8 e
 refine c_sr (o_ldB 1 s3 rfl h7 rfl rfl (o_mv h8 ?_))
 refine o_mkmap (kE3 : (Int × Int × Int) → Value) (vi : Int → Value) s3 fun b2 H3 s4 => ?_
 obtain ⟨d2, rfl⟩ := ((s4.curS (s := sI1) 1 rfl)).val
 refine o_bld (qs := [(0, 4, (.agg #[vi a0.Terms, vi a0.Nons, vi a0.Start, (vS d1 a0.Rules)])), (4, 1, (vS d2 x1.1)), (5, 1, (.map (some b2)))]) rfl rfl ?_
 refine o_box s4 rfl rfl fun b3 H4 s5 => ?_
 refine o_mv h9 ?_
 refine o_mv (v := (pV b3 0)) rfl ?_
 refine o_mv (v := (vi x3)) rfl ?_
 refine o_mv (v := (vi 0)) rfl ?_
 refine c_nil ?_
 refine c_gen (P := fun tm => tm 4 = (pV b3 0) ∧ tm 5 = (vi x3) ∧ tm 6 = (vi 0) ∧ True) ⟨rfl, rfl, rfl, trivial⟩ ?_
 intro _ i4
 obtain ⟨h10, h11, h12, -⟩ := i4
 refine c_rt ?_
 obtain rfl := oJ e
 exact ⟨.inr rfl, _, (ar3 h10 h11 h12), _, _, _, _, rfl, (((s5.push (ro_it (sl_ro (hp1.mono g1.z)))).pick [1, 0, 3, 2] rfl).weak g1 hs.zv)⟩
structure Nd.rank_Count (T : FuncId → Option AFunc) : Prop where
 own : Has T I.rank_Count F.rank_Count
 rank_open : Nd.rank_open T
set_option maxHeartbeats 1000000 in
theorem X.rank_Count {T : FuncId → Option AFunc} (nd : Nd.rank_Count T) {φ : Nat} {Z V : PH} {H : Hp} {v1 : Value} {a0 : Ty.api_Grammar} {a1 : Int} (hs : Sat Z V H []) (hp1 : RdS Sh.api_Rule Z v1 a0.Rules) {r : (Int × Int)} (e : P.rank_Count φ a0 a1 = some r) :
 G T I.rank_Count [(.agg #[vi a0.Terms, vi a0.Nons, vi a0.Start, v1]), vi a1] H (fun rv H' => rv = (.tuple #[vi r.1, vi r.2]) ∧ Sat Z V H' []) := by
 unfold P.rank_Count at e
 refine f_mk nd.own ?_
 refine c_sr ?_
 obtain ⟨d1, rfl⟩ := (hp1).val
 refine o_box hs rfl rfl fun b1 H1 s1 => ?_
 refine o_mv (v := (vi 0)) rfl ?_
 refine o_mv (v := (vi 0)) rfl ?_
 refine c_nil (c_sr (o_ldB 0 s1 rfl rfl rfl rfl ?_))
 refine o_mv (v := (vi a1)) rfl ?_
 obtain ⟨x1, q1, e⟩ := oB e
 rcases x1 with ⟨_ | y1, x2⟩
 ·rw [Pu.oc2_none] at e
  obtain ⟨Z1, V1, W1, g1, u1, c1, c2, -, c4, c3⟩ := Sat.call (l1 := []) s1
  refine o_call (mc rfl (mc rfl m0)) (X.rank_open nd.rank_open c1 (hp1.mono g1.z) q1) fun _ H2 i1 => ?_
  dsimp only [ov, oi, List.nil_append, List.append_nil, List.cons_append] at i1
  obtain ⟨b2, u2, u3, u4, rfl, s2⟩ := i1
  have s3 := c3 _ _ s2
  refine o_mv (v := (.tuple #[(.pointer none), vi x2.1, vi x2.2])) rfl ?_
  refine o_ext rfl rfl (o_ext rfl rfl (o_ext rfl rfl ?_))
  refine o_mv (v := (.pointer none)) rfl ?_
  refine o_mv (v := (vi x2.1)) rfl ?_
  refine o_mv (v := (vi x2.2)) rfl ?_
  refine c_nil ?_
  refine c_gen (P := fun tm => tm 7 = (vi x2.1) ∧ tm 8 = (vi x2.2) ∧ True) ⟨rfl, rfl, trivial⟩ ?_
  intro _ i2
  obtain ⟨h1, h2, -⟩ := i2
  refine c_sr (o_mv h1 (o_mv h2 ?_))
  refine o_mv (v := (vi x2.1)) rfl ?_
  refine o_mv (v := (vi x2.2)) rfl ?_
  refine c_nil (c_rt ?_)
  obtain rfl := oJ e
  exact ⟨.inr rfl, _, (ar2 rfl rfl), rfl, ((s3.pick [] rfl).weak g1 hs.zv)⟩
 rw [Pu.oc2_some] at e
 obtain ⟨Z2, V2, W2, g2, u5, c5, c6, -, c8, c7⟩ := Sat.call (l1 := []) s1
 refine o_call (mc rfl (mc rfl m0)) (X.rank_open nd.rank_open c5 (hp1.mono g2.z) q1) fun _ H3 i3 => ?_
 dsimp only [ov, oi, List.nil_append, List.append_nil, List.cons_append] at i3
 obtain ⟨b3, w1, w2, b4, rfl, s4⟩ := i3
 have s5 := c7 _ _ s4
 obtain ⟨Z3, V3, g3, s6, h3⟩ := (s5.pull 1 rfl).frzR
 refine o_mv (v := (.tuple #[(pV b3 0), vi x2.1, vi x2.2])) rfl ?_
 refine o_ext rfl rfl (o_ext rfl rfl (o_ext rfl rfl ?_))
 refine o_mv (v := (pV b3 0)) rfl ?_
 refine o_mv (v := (vi x2.1)) rfl ?_
 refine o_mv (v := (vi x2.2)) rfl ?_
 refine c_nil ?_
 refine c_gen (P := fun tm => tm 7 = (vi x2.1) ∧ tm 8 = (vi x2.2) ∧ True) ⟨rfl, rfl, trivial⟩ ?_
 intro _ i4
 obtain ⟨h4, h5, -⟩ := i4
 refine c_sr (o_mv h4 (o_mv h5 ?_))
 refine o_mv (v := (vi x2.1)) rfl ?_
 refine o_mv (v := (vi x2.2)) rfl ?_
 refine c_nil (c_rt ?_)
 obtain rfl := oJ e
 exact ⟨.inr rfl, _, (ar2 rfl rfl), rfl, ((s6.pick [] rfl).weak (g2.trans g3) hs.zv)⟩
structure Nd.parlkeep5_plain (T : FuncId → Option AFunc) : Prop where
 own : Has T I.parlkeep5_plain F.parlkeep5_plain
set_option maxHeartbeats 1000000 in
theorem X.parlkeep5_plain {T : FuncId → Option AFunc} (nd : Nd.parlkeep5_plain T) {Z V : PH} {H : Hp} (hs : Sat Z V H []) {r : Ty.api_Grammar} (e : P.parlkeep5_plain = some r) :
 G T I.parlkeep5_plain [] H (fun rv H' => ∃ (u1 : Value), rv = (.agg #[vi r.Terms, vi r.Nons, vi r.Start, u1]) ∧ Sat Z V H' [It.sl (Sh.ro Sh.api_Rule) u1 r.Rules]) := by
 unfold P.parlkeep5_plain at e
 refine f_mk nd.own ?_
 refine c_sr ?_
 refine o_new hs fun b1 H1 s1 => ?_
 refine c_nil (c_sr ?_)
 refine o_bld (qs := [(0, 1, (.bool true))]) rfl rfl ?_
 refine o_bsl (s := (Sh.ro Sh.api_Sym)) (us := [(.bool true), vi 0]) (qs := [(0, 2, (.agg #[(.bool true), vi 0]))]) (xs := [(Ty.api_Sym.mk true 0)]) s1 (Sh.ro_lt _) rfl rfl rfl (Els.cons (c := [(.bool true), vi 0]) rfl Els.nil) rfl rfl fun w1 H2 s2 => ?_
 obtain ⟨d1, rfl⟩ := ((s2.curS (s := (Sh.ro Sh.api_Sym)) 0 rfl)).val
 refine o_bld (qs := [(1, 1, (.slice d1 [(Ty.api_Sym.mk true 0)].length [(Ty.api_Sym.mk true 0)].length))]) rfl rfl ?_
 refine o_bld (qs := [(0, 1, (.bool true)), (1, 1, (vi 1))]) rfl rfl ?_
 refine o_bld (qs := []) rfl rfl ?_
 refine o_bsl (s := (Sh.ro Sh.api_Sym)) (us := [(.bool true), vi 1, (.bool false), vi 0]) (qs := [(0, 2, (.agg #[(.bool true), vi 1])), (2, 2, (.agg #[(.bool false), vi 0]))]) (xs := [(Ty.api_Sym.mk true 1), (Ty.api_Sym.mk false 0)]) s2 (Sh.ro_lt _) rfl rfl rfl (Els.cons (c := [(.bool true), vi 1]) rfl (Els.cons (c := [(.bool false), vi 0]) rfl Els.nil)) rfl rfl fun w2 H3 s3 => ?_
 obtain ⟨d2, rfl⟩ := ((s3.curS (s := (Sh.ro Sh.api_Sym)) 0 rfl)).val
 refine o_bld (qs := [(1, 1, (.slice d2 [(Ty.api_Sym.mk true 1), (Ty.api_Sym.mk false 0)].length [(Ty.api_Sym.mk true 1), (Ty.api_Sym.mk false 0)].length))]) rfl rfl ?_
 obtain ⟨Z1, V1, g1, s4, h1⟩ := s3.frzS 1 rfl
 replace h1 := h1.of_ro
 obtain ⟨Z2, V2, g2, s5, h2⟩ := s4.frzS 0 rfl
 replace h2 := h2.of_ro
 refine o_bsl (s := (Sh.ro Sh.api_Rule)) (us := [vi 0, (.slice d1 [(Ty.api_Sym.mk true 0)].length [(Ty.api_Sym.mk true 0)].length), vi 0, (.slice d2 [(Ty.api_Sym.mk true 1), (Ty.api_Sym.mk false 0)].length [(Ty.api_Sym.mk true 1), (Ty.api_Sym.mk false 0)].length)]) (qs := [(0, 2, (.agg #[vi 0, (.slice d1 [(Ty.api_Sym.mk true 0)].length [(Ty.api_Sym.mk true 0)].length)])), (2, 2, (.agg #[vi 0, (.slice d2 [(Ty.api_Sym.mk true 1), (Ty.api_Sym.mk false 0)].length [(Ty.api_Sym.mk true 1), (Ty.api_Sym.mk false 0)].length)]))]) (xs := [(Ty.api_Rule.mk 0 [(Ty.api_Sym.mk true 0)]), (Ty.api_Rule.mk 0 [(Ty.api_Sym.mk true 1), (Ty.api_Sym.mk false 0)])]) s5 (Sh.ro_lt _) rfl rfl rfl (Els.cons (c := [vi 0, (.slice d1 [(Ty.api_Sym.mk true 0)].length [(Ty.api_Sym.mk true 0)].length)]) (Sh.api_Rule_cl (x := (Ty.api_Rule.mk 0 [(Ty.api_Sym.mk true 0)])) (h1.mono g2.z)) (Els.cons (c := [vi 0, (.slice d2 [(Ty.api_Sym.mk true 1), (Ty.api_Sym.mk false 0)].length [(Ty.api_Sym.mk true 1), (Ty.api_Sym.mk false 0)].length)]) (Sh.api_Rule_cl (x := (Ty.api_Rule.mk 0 [(Ty.api_Sym.mk true 1), (Ty.api_Sym.mk false 0)])) h2) Els.nil)) rfl rfl fun w3 H4 s6 => ?_
 obtain ⟨d3, rfl⟩ := ((s6.curS (s := (Sh.ro Sh.api_Rule)) 0 rfl)).val
 refine o_bld (qs := [(0, 1, (vi 2)), (1, 1, (vi 1)), (3, 1, (.slice d3 [(Ty.api_Rule.mk 0 [(Ty.api_Sym.mk true 0)]), (Ty.api_Rule.mk 0 [(Ty.api_Sym.mk true 1), (Ty.api_Sym.mk false 0)])].length [(Ty.api_Rule.mk 0 [(Ty.api_Sym.mk true 0)]), (Ty.api_Rule.mk 0 [(Ty.api_Sym.mk true 1), (Ty.api_Sym.mk false 0)])].length))]) rfl rfl ?_
 refine o_stB (us' := [vi 2, vi 1, vi 0, (.slice d3 [(Ty.api_Rule.mk 0 [(Ty.api_Sym.mk true 0)]), (Ty.api_Rule.mk 0 [(Ty.api_Sym.mk true 1), (Ty.api_Sym.mk false 0)])].length [(Ty.api_Rule.mk 0 [(Ty.api_Sym.mk true 0)]), (Ty.api_Rule.mk 0 [(Ty.api_Sym.mk true 1), (Ty.api_Sym.mk false 0)])].length)]) 1 s6 rfl rfl rfl rfl rfl rfl rfl fun H5 s7 => ?_
 refine c_nil ?_
 refine c_gen (P := fun tm => tm 0 = (pV b1 0) ∧ True) ⟨rfl, trivial⟩ ?_
 intro _ i1
 obtain ⟨h3, -⟩ := i1
 refine c_rt ?_
 obtain rfl := oJ e
 exact ⟨.inr rfl, _, (arB 1 s7 rfl h3 rfl rfl), _, rfl, ((s7.pick [0] rfl).weak (g1.trans g2) hs.zv)⟩
structure Nd.rank_book_sym (T : FuncId → Option AFunc) : Prop where
 own : Has T I.rank_book_sym F.rank_book_sym
set_option maxHeartbeats 1000000 in
theorem X.rank_book_sym {T : FuncId → Option AFunc} (nd : Nd.rank_book_sym T) {Z V : PH} {H : Hp} {v1 : Value} {v2 : Value} {m3 : Nat} {o1 : Nat} {a0 : Ty.rank_book} {a1 : Ty.api_Sym} {a2 : Int} (hs : Sat Z V H [pts o1 (.rw 0 [vi a0.g.Terms, vi a0.g.Nons, vi a0.g.Start, v1, v2, (.map (some m3))]), It.mp kE3 vi m3 a0.many_]) (hp1 : RdS Sh.api_Rule V v1 a0.g.Rules) (hp2 : RdS sI1 V v2 a0.n) {r : Int} (e : P.rank_book_sym a0 a1 a2 = some r) :
 G T I.rank_book_sym [(pV o1 0), (.agg #[(.bool a1.Term), vi a1.N]), vi a2] H (fun rv H' => rv = (vi r) ∧ Sat Z V H' [pts o1 (.rw 0 [vi a0.g.Terms, vi a0.g.Nons, vi a0.g.Start, v1, v2, (.map (some m3))]), It.mp kE3 vi m3 a0.many_]) := by
 unfold P.rank_book_sym at e
 refine f_mk nd.own ?_
 refine c_sr ?_
 refine o_box hs rfl rfl fun b1 H1 s1 => ?_
 refine o_mv (v := (vi 0)) rfl ?_
 refine c_nil (c_sq (c_sr (o_fad rfl (o_ldB 0 s1 rfl rfl rfl rfl ?_))))
 refine o_not rfl (c_nil ?_)
 refine c_if rfl (fun q1 => ?_) (fun q1 => ?_)
 ·replace e := if_t q1 e
  refine c_sq ?_
  refine d_start s1 fun n1 H2 s2 q2 d1 => ?_
  refine d_mv (v := (pV o1 0)) rfl ?_
  refine d_nck rfl ?_
  refine d_fad rfl ?_
  obtain ⟨d2, rfl⟩ := (hp1).val
  obtain ⟨d3, rfl⟩ := (hp2).val
  refine d_ldB (q2 _ _ (ph_some.2 ⟨s2.curB 1 rfl, by simp⟩)) 1 s2 rfl rfl rfl rfl ?_
  refine d_fad rfl ?_
  refine d_ldB (q2 _ _ (ph_some.2 ⟨s2.curB 0 rfl, by simp⟩)) 0 s2 rfl rfl rfl rfl ?_
  obtain ⟨x1, q3, e⟩ := oB e
  refine d_idx (v := (vS d3 a0.n)) rfl rfl hp2 rfl q3 fun p1 q4 => ?_
  refine d_lds (RdS.low hp2 s2.v q2) rfl hp2 s2.v q4 q3 fun w1 h1 => ?_
  refine d_mv (v := (vi a2)) rfl ?_
  obtain ⟨x2, q5, e⟩ := oB e
  refine d_idx (v := w1) rfl rfl h1 rfl q5 fun p2 q6 => ?_
  refine d_ldi (RdS.low h1 s2.v q2) rfl h1 s2.v q6 q5 ?_
  refine d_mv (v := (vi x2)) rfl ?_
  refine d_nil dc_nil ?_
  refine c_gen (P := fun tm => tm 6 = (vi x2) ∧ True) ⟨rfl, trivial⟩ ?_
  intro _ i1
  obtain ⟨h2, -⟩ := i1
  refine c_rt ?_
  obtain rfl := oJ e
  exact ⟨.inr rfl, _, (ar1 h2), rfl, (s2.pick [1, 2] rfl)⟩
 replace e := ib_f q1 e
 refine c_sk (c_sq (c_sr ?_))
 refine o_mv (v := (vi a2)) rfl ?_
 refine o_eql rfl rfl (c_nil ?_)
 refine c_ifd rfl (fun q7 => ?_) (fun q7 => ?_)
 ·replace e := if_t q7 e
  refine c_sr ?_
  refine o_mv (v := (vi 1)) rfl ?_
  refine c_nil (c_rt ?_)
  obtain ⟨d4, rfl⟩ := (hp1).val
  obtain ⟨d5, rfl⟩ := (hp2).val
  obtain rfl := oJ e
  exact ⟨.inr rfl, _, (ar1 rfl), rfl, (s1.pick [1, 2] rfl)⟩
 replace e := if_f q7 e
 refine c_sk (c_sr ?_)
 refine o_mv (v := (vi 0)) rfl ?_
 refine c_nil (c_rt ?_)
 obtain ⟨d6, rfl⟩ := (hp1).val
 obtain ⟨d7, rfl⟩ := (hp2).val
 obtain rfl := oJ e
 exact ⟨.inr rfl, _, (ar1 rfl), rfl, (s1.pick [1, 2] rfl)⟩
structure Nd.rank_book_ways (T : FuncId → Option AFunc) : Prop where
 own_rank_book_ways : Has T I.rank_book_ways F.rank_book_ways
 own_rank_book_part : Has T I.rank_book_part F.rank_book_part
 rank_book_sym : Nd.rank_book_sym T
abbrev Nd.rank_book_part := Nd.rank_book_ways
set_option maxHeartbeats 1000000 in
theorem X.rank_book_ways_rec {T : FuncId → Option AFunc} (nd : Nd.rank_book_ways T) : ∀ φ : Nat, (∀ {Z V : PH} {H : Hp} {v1 : Value} {v2 : Value} {m3 : Nat} {o1 : Nat} {a0 : Ty.rank_book} {a1 : Int} {a2 : Int} {a3 : Int} (hs : Sat Z V H [pts o1 (.rw 0 [vi a0.g.Terms, vi a0.g.Nons, vi a0.g.Start, v1, v2, (.map (some m3))]), It.mp kE3 vi m3 a0.many_]) (hp1 : RdS Sh.api_Rule Z v1 a0.g.Rules) (hp2 : RdS sI1 Z v2 a0.n) {r : (Ty.rank_book × Int)} (e : P.rank_book_ways φ a0 a1 a2 a3 = some r), G T I.rank_book_ways [(pV o1 0), vi a1, vi a2, vi a3] H (fun rv H' => ∃ (u1 : Value) (u2 : Value) (o103 : Nat), rv = (vi r.2) ∧ Sat Z V H' [pts o1 (.rw 0 [vi r.1.g.Terms, vi r.1.g.Nons, vi r.1.g.Start, u1, u2, (.map (some o103))]), Sh.it (Sh.ro (Sh.sl Sh.api_Rule)) [u1] r.1.g.Rules, Sh.it (Sh.ro sI2) [u2] r.1.n, It.mp kE3 vi o103 r.1.many_])) ∧ (∀ {Z V : PH} {H : Hp} {v1 : Value} {v2 : Value} {m3 : Nat} {o1 : Nat} {a0 : Ty.rank_book} {a1 : Int} {a2 : Int} {a3 : Int} {a4 : Int} (hs : Sat Z V H [pts o1 (.rw 0 [vi a0.g.Terms, vi a0.g.Nons, vi a0.g.Start, v1, v2, (.map (some m3))]), It.mp kE3 vi m3 a0.many_]) (hp1 : RdS Sh.api_Rule Z v1 a0.g.Rules) (hp2 : RdS sI1 Z v2 a0.n) {r : (Ty.rank_book × Int)} (e : P.rank_book_part φ a0 a1 a2 a3 a4 = some r), G T I.rank_book_part [(pV o1 0), vi a1, vi a2, vi a3, vi a4] H (fun rv H' => ∃ (u1 : Value) (u2 : Value) (o103 : Nat), rv = (vi r.2) ∧ Sat Z V H' [pts o1 (.rw 0 [vi r.1.g.Terms, vi r.1.g.Nons, vi r.1.g.Start, u1, u2, (.map (some o103))]), Sh.it (Sh.ro (Sh.sl Sh.api_Rule)) [u1] r.1.g.Rules, Sh.it (Sh.ro sI2) [u2] r.1.n, It.mp kE3 vi o103 r.1.many_])) := by
 intro φ
 induction φ with
 | zero =>
   refine ⟨?_, ?_⟩
   ·intro Z V H v1 v2 m3 o1 a0 a1 a2 a3 hs hp1 hp2 r e
    rw [P.rank_book_ways] at e; cases e
   ·intro Z V H v1 v2 m3 o1 a0 a1 a2 a3 a4 hs hp1 hp2 r e
    rw [P.rank_book_part] at e; cases e
 | succ φ ih =>
   refine ⟨?_, ?_⟩
   ·intro Z V H v1 v2 m3 o1 a0 a1 a2 a3 hs hp1 hp2 r e
    rw [P.rank_book_ways] at e
    refine f_mk nd.own_rank_book_ways ?_
    refine c_sr ?_
    refine o_mv (v := (vi 0)) rfl ?_
    refine c_nil (c_sr ?_)
    refine o_mv (v := (pV o1 0)) rfl ?_
    refine o_nck rfl (o_fad rfl (o_fad rfl ?_))
    obtain ⟨d1, rfl⟩ := (hp1).val
    obtain ⟨d2, rfl⟩ := (hp2).val
    refine o_ldB 0 hs rfl rfl rfl rfl ?_
    refine o_mv (v := (vi a1)) rfl ?_
    obtain ⟨x1, q1, e⟩ := oB e
    refine o_idx (v := (vS d1 a0.g.Rules)) rfl rfl hp1 rfl q1 fun p1 q2 => ?_
    refine o_fadE rfl q2 fun p2 q3 => ?_
    refine o_ldF rfl hp1 hs.z rfl q2 q3 q1 rfl fun c1 h1 => ?_
    obtain ⟨w1, rfl, h2⟩ := Sh.api_Rule_op h1
    refine ⟨_, rfl, ?_⟩
    refine o_mv (v := w1) rfl ?_
    refine c_nil ?_
    refine c_gen (P := fun tm => tm 0 = (pV o1 0) ∧ tm 1 = (vi a1) ∧ tm 2 = (vi a2) ∧ tm 3 = (vi a3) ∧ tm 9 = w1 ∧ True) ⟨rfl, rfl, rfl, rfl, rfl, trivial⟩ ?_
    intro _ i1
    obtain ⟨h3, h4, h5, h6, h7, -⟩ := i1
    refine c_sq (c_sr (o_mv h5 (o_mv h7 (o_len rfl (h2).len ?_))))
    refine o_eql rfl rfl (c_nil ?_)
    refine c_ifd rfl (fun q4 => ?_) (fun q4 => ?_)
    ·replace e := if_t q4 e
     refine c_sq (c_sr (o_mv h6 (o_eql rfl rfl (c_nil ?_))))
     refine c_ifd rfl (fun q5 => ?_) (fun q5 => ?_)
     ·replace e := if_t q5 e
      refine c_sr ?_
      refine o_mv (v := (vi 1)) rfl ?_
      refine c_nil (c_rt ?_)
      obtain rfl := oJ e
      exact ⟨.inr rfl, _, (ar1 rfl), _, _, _, rfl, (((hs.push (ro_it (sl_ro hp1))).push (ro_it (sl_ro hp2))).pick [2, 1, 0, 3] rfl)⟩
     replace e := if_f q5 e
     refine c_sk (c_sr ?_)
     refine o_mv (v := (vi 0)) rfl ?_
     refine c_nil (c_rt ?_)
     obtain rfl := oJ e
     exact ⟨.inr rfl, _, (ar1 rfl), _, _, _, rfl, (((hs.push (ro_it (sl_ro hp1))).push (ro_it (sl_ro hp2))).pick [2, 1, 0, 3] rfl)⟩
    replace e := if_f q4 e
    refine c_sk (c_sr (o_mv h4 (o_mv h5 (o_mv h6 ?_))))
    refine o_bld (qs := [(0, 1, (vi a1)), (1, 1, (vi a2)), (2, 1, (vi a3))]) rfl rfl ?_
    refine o_new hs fun b1 H1 s1 => ?_
    refine o_stB (us' := [vi a1, vi a2, vi a3]) 0 s1 rfl rfl rfl rfl rfl rfl rfl fun H2 s2 => ?_
    refine c_nil (c_sq (c_sq ?_))
    refine c_gen (P := fun tm => tm 0 = (pV o1 0) ∧ tm 1 = (vi a1) ∧ tm 2 = (vi a2) ∧ tm 3 = (vi a3) ∧ tm 10 = (pV b1 0) ∧ True) ⟨h3, h4, h5, h6, rfl, trivial⟩ ?_
    intro _ i2
    obtain ⟨h8, h9, h10, h11, h12, -⟩ := i2
    refine d_start s2 fun n1 H3 s3 q6 d3 => ?_
    refine d_mv h8 ?_
    refine d_nck rfl ?_
    refine d_fad rfl ?_
    refine d_ldB (q6 _ _ (ph_some.2 ⟨s3.curB 1 rfl, by simp⟩)) 1 s3 rfl rfl rfl rfl ?_
    refine d_ldB (q6 _ _ (ph_some.2 ⟨s3.curB 0 rfl, by simp⟩)) 0 s3 rfl h12 rfl rfl ?_
    refine d_mlook Mk.kE3 (q := (a1, a2, a3)) (z := 0) 2 s3 rfl rfl rfl rfl rfl ?_
    refine d_mv (v := (.tuple #[(vi ((Pu.mget (a1, a2, a3) a0.many_).getD 0)), (.bool ((Pu.mget (a1, a2, a3) a0.many_).isSome))])) rfl ?_
    refine d_ext rfl rfl ?_
    refine d_ext rfl rfl ?_
    refine d_mv (v := (vi ((Pu.mget (a1, a2, a3) a0.many_).getD 0))) rfl ?_
    refine d_mv (v := (.bool ((Pu.mget (a1, a2, a3) a0.many_).isSome))) rfl ?_
    refine d_nil dc_nil ?_
    refine c_gen (P := fun tm => tm 0 = (pV o1 0) ∧ tm 1 = (vi a1) ∧ tm 2 = (vi a2) ∧ tm 3 = (vi a3) ∧ tm 10 = (pV b1 0) ∧ tm 11 = (vi ((Pu.mget (a1, a2, a3) a0.many_).getD 0)) ∧ tm 12 = (.bool ((Pu.mget (a1, a2, a3) a0.many_).isSome)) ∧ True) ⟨h8, h9, h10, h11, h12, rfl, rfl, trivial⟩ ?_
    intro _ i3
    obtain ⟨h13, h14, h15, h16, h17, h18, h19, -⟩ := i3
    refine c_sr (o_mv h19 (c_nil ?_))
    refine c_if rfl (fun q7 => ?_) (fun q7 => ?_)
    ·replace e := if_t q7 e
     refine c_sr (o_mv h18 ?_)
     refine o_mv (v := (vi ((Pu.mget (a1, a2, a3) a0.many_).getD 0))) rfl ?_
     refine c_nil (c_rt ?_)
     obtain rfl := oJ e
     exact ⟨.inr rfl, _, (ar1 rfl), _, _, _, rfl, (((s3.push (ro_it (sl_ro hp1))).push (ro_it (sl_ro hp2))).pick [3, 1, 0, 4] rfl)⟩
    replace e := ib_f q7 e
    refine c_sk (c_sr ?_)
    refine o_mv (v := (vi 0)) rfl ?_
    refine c_nil (c_sq (c_sr (o_mv h16 (o_add rfl rfl ?_))))
    refine o_mv (v := (vi 0)) rfl ?_
    refine c_nil ?_
    obtain ⟨x3, q10, e⟩ := oB e
    obtain ⟨rfl, q12⟩ := ranO_some q10
    obtain ⟨y1, q13, e⟩ := oB e
    refine c_bk ?_
    refine l_forP (xs := (Pu.ran (Pu.W (a3 + 1)))) (fun (i4 : Nat) (s4 : (Int × Int × Int × (List Ty.api_Rule) × (List (List Int)) × (List ((Int × Int × Int) × Int)) × Int)) tm H => tm 47 = vi i4 ∧ ∃ (Z1 V1 : PH) (b2 : Nat) (w2 : Value) (w3 : Value), Gw Z V Z1 V1 ∧ Sat Z1 V1 H [pts o1 (.rw 0 [vi s4.1, vi s4.2.1, vi s4.2.2.1, w2, w3, (.map (some b2))]), It.mp kE3 vi b2 s4.2.2.2.2.2.1, pts b1 (.rw 0 [vi a1, vi a2, vi a3])] ∧ tm 0 = (pV o1 0) ∧ tm 1 = (vi a1) ∧ tm 2 = (vi a2) ∧ tm 3 = (vi a3) ∧ tm 10 = (pV b1 0) ∧ tm 13 = (vi s4.2.2.2.2.2.2) ∧ tm 46 = (vi (Pu.W (a3 + 1))) ∧ RdS Sh.api_Rule Z1 w2 s4.2.2.2.1 ∧ RdS sI1 Z1 w3 s4.2.2.2.2.1) (fun i4 x2 s4 s6 tm H5 q8 q9 j1 e1 k1 => ?_) (fun tm H4 jd => ?_) q13 ⟨rfl, _, _, _, _, _, Gw.refl _ _, (s3.pick [1, 2, 0] rfl), h13, h14, h15, h16, h17, rfl, rfl, hp1, hp2⟩
    ·obtain ⟨hti0, Z1, V1, b2, w2, w3, g1, s5, h22, h23, h24, h25, h26, h27, h28, h20, h21⟩ := j1
     unfold P.rank_book_ways.b0 at e1
     have hti0 := iv hti0 (ran_x q8).symm
     refine c_sr (o_lss hti0 h28 (c_nil (c_sq ?_)))
     refine c_ift rfl (ran_lt q8) ?_
     refine c_sk (c_sq (c_bk (c_sr (o_mv hti0 ?_))))
     refine o_mv (v := (vi x2)) rfl ?_
     refine c_nil (c_r (o_mv h27 (o_mv h22 (o_mv h23 ?_))))
     refine o_mv h24 ?_
     refine o_mv (v := (vi x2)) rfl ?_
     refine o_mv h25 ?_
     obtain ⟨x4, q14, e1⟩ := oB e1
     obtain ⟨d4, rfl⟩ := (h20).val
     obtain ⟨d5, rfl⟩ := (h21).val
     obtain ⟨Z2, V2, W1, g2, u1, c2, c3, -, c5, c4⟩ := Sat.call (l1 := [pts o1 (.rw 0 [vi s4.1, vi s4.2.1, vi s4.2.2.1, (vS d4 s4.2.2.2.1), (vS d5 s4.2.2.2.2.1), (.map (some b2))]), It.mp kE3 vi b2 s4.2.2.2.2.2.1]) (l2 := [pts b1 (.rw 0 [vi a1, vi a2, vi a3])]) s5
     refine o_call (mc rfl (mc rfl (mc rfl (mc rfl (mc rfl m0))))) (ih.2 (a0 := (Ty.rank_book.mk (Ty.api_Grammar.mk s4.1 s4.2.1 s4.2.2.1 s4.2.2.2.1) s4.2.2.2.2.1 s4.2.2.2.2.2.1)) c2 (h20.mono g2.z) (h21.mono g2.z) q14) fun _ H6 i5 => ?_
     obtain ⟨w4, w5, b3, rfl, s7⟩ := i5
     have s8 := c4 _ _ s7
     obtain ⟨Z3, V3, g3, s9, h29⟩ := (s8.pull 1 rfl).frzR
     obtain ⟨Z4, V4, g4, s10, h30⟩ := (s9.pull 1 rfl).frzR
     refine o_add rfl rfl ?_
     refine o_mv (v := (vi (Pu.W (s4.2.2.2.2.2.2 + x4.2)))) rfl ?_
     refine c_nil (c_end (c_r (o_add hti0 rfl ?_)))
     refine o_mv (v := (vi (Pu.W (x2 + 1)))) rfl ?_
     refine c_nil ?_
     obtain rfl := oJ e1
     exact k1 _ _ ⟨(iv rfl (w_sucR q8 q12)), _, _, _, _, _, (g1.trans (g2.trans (g3.trans g4))), s10, h22, h23, h24, h25, h26, rfl, h28, (h29.mono g4.z), h30⟩
    obtain ⟨hte0, Z5, V5, b4, w6, w7, g5, s11, h33, h34, h35, h36, h37, h38, h39, h31, h32⟩ := jd
    refine c_sr (o_lss hte0 h39 (c_nil (c_sq ?_)))
    refine c_iff rfl (ran_done _) ?_
    refine c_ex ?_
    refine e_c ?_
    refine e_c ?_
    refine e_h ?_
    refine c_sq ?_
    refine d_start s11 fun n2 H8 s12 q15 d6 => ?_
    refine d_mv h33 ?_
    refine d_nck rfl ?_
    refine d_fad rfl ?_
    obtain ⟨d7, rfl⟩ := (h31).val
    obtain ⟨d8, rfl⟩ := (h32).val
    refine d_ldB (q15 _ _ (ph_some.2 ⟨s12.curB 0 rfl, by simp⟩)) 0 s12 rfl rfl rfl rfl ?_
    refine d_ldB (q15 _ _ (ph_some.2 ⟨s12.curB 2 rfl, by simp⟩)) 2 s12 rfl h37 rfl rfl ?_
    refine d_mv h38 ?_
    refine d_mset Mk.kE3 (q := (a1, a2, a3)) (v := y1.2.2.2.2.2.2) 1 s12 rfl rfl rfl rfl rfl rfl fun H9 s13 k2 => ?_
    have d9 := d6.keep k2
    refine d_nil dc_nil ?_
    refine c_sr (o_mv h38 ?_)
    refine o_mv (v := (vi y1.2.2.2.2.2.2)) rfl ?_
    refine c_nil (c_rt ?_)
    obtain rfl := oJ e
    exact ⟨.inr rfl, _, (ar1 rfl), _, _, _, rfl, ((((s13.push (ro_it (sl_ro h31))).push (ro_it (sl_ro h32))).pick [2, 1, 0, 3] rfl).weak g5 hs.zv)⟩
   ·intro Z V H v1 v2 m3 o1 a0 a1 a2 a3 a4 hs hp1 hp2 r e
    rw [P.rank_book_part] at e
    refine f_mk nd.own_rank_book_part ?_
    refine c_sr ?_
    refine o_mv (v := (vi 0)) rfl ?_
    refine c_nil (c_sr ?_)
    refine o_mv (v := (pV o1 0)) rfl ?_
    refine o_mv (v := (pV o1 0)) rfl ?_
    refine o_nck rfl (o_fad rfl (o_fad rfl ?_))
    obtain ⟨d1, rfl⟩ := (hp1).val
    obtain ⟨d2, rfl⟩ := (hp2).val
    refine o_ldB 0 hs rfl rfl rfl rfl ?_
    refine o_mv (v := (vi a1)) rfl ?_
    obtain ⟨x1, q1, e⟩ := oB e
    refine o_idx (v := (vS d1 a0.g.Rules)) rfl rfl hp1 rfl q1 fun p1 q2 => ?_
    refine o_fadE rfl q2 fun p2 q3 => ?_
    refine o_ldF rfl hp1 hs.z rfl q2 q3 q1 rfl fun c1 h1 => ?_
    obtain ⟨w1, rfl, h2⟩ := Sh.api_Rule_op h1
    refine ⟨_, rfl, ?_⟩
    refine o_mv (v := (vi a2)) rfl ?_
    obtain ⟨x2, q4, e⟩ := oB e
    refine o_idx (v := w1) rfl rfl h2 rfl q4 fun p3 q5 => ?_
    refine o_lda rfl h2 hs.z rfl q5 q4 fun c2 h3 => ?_
    obtain rfl := h3
    refine o_mv (v := (vi a3)) rfl ?_
    obtain ⟨x3, q6, e⟩ := oB e
    obtain ⟨Z1, V1, W1, g1, u1, c3, c4, -, c6, c5⟩ := Sat.call (l1 := [pts o1 (.rw 0 [vi a0.g.Terms, vi a0.g.Nons, vi a0.g.Start, (vS d1 a0.g.Rules), (vS d2 a0.n), (.map (some m3))]), It.mp kE3 vi m3 a0.many_]) (l2 := []) hs
    refine o_call (mc rfl (mc rfl (mc rfl m0))) (X.rank_book_sym nd.rank_book_sym (a0 := a0) c3 (hp1.mono (g1.z.trans c3.zv)) (hp2.mono (g1.z.trans c3.zv)) q6) fun _ H1 i1 => ?_
    obtain ⟨rfl, s1⟩ := i1
    have s2 := c5 _ _ s1
    refine o_mv (v := (vi x3)) rfl ?_
    refine c_nil ?_
    refine c_gen (P := fun tm => tm 0 = (pV o1 0) ∧ tm 1 = (vi a1) ∧ tm 2 = (vi a2) ∧ tm 3 = (vi a3) ∧ tm 4 = (vi a4) ∧ tm 11 = (vi x3) ∧ True) ⟨rfl, rfl, rfl, rfl, rfl, rfl, trivial⟩ ?_
    intro _ i2
    obtain ⟨h4, h5, h6, h7, h8, h9, -⟩ := i2
    refine c_sq (c_sr (o_mv h9 (o_eql rfl rfl (c_nil ?_))))
    refine c_ifd rfl (fun q7 => ?_) (fun q7 => ?_)
    ·replace e := if_t q7 e
     refine c_sr ?_
     refine o_mv (v := (vi 0)) rfl ?_
     refine c_nil (c_rt ?_)
     obtain rfl := oJ e
     exact ⟨.inr rfl, _, (ar1 rfl), _, _, _, rfl, ((((s2.push (ro_it (sl_ro (hp1.mono g1.z)))).push (ro_it (sl_ro (hp2.mono g1.z)))).pick [2, 1, 0, 3] rfl).weak g1 hs.zv)⟩
    replace e := if_f q7 e
    refine c_sk (c_sr (o_mv h9 (o_mv h4 (o_mv h5 ?_))))
    refine o_mv h6 (o_add rfl rfl (o_mv h8 (o_mv h7 (o_sub rfl rfl ?_))))
    obtain ⟨x4, q8, e⟩ := oB e
    obtain ⟨Z2, V2, W2, g2, u2, c7, c8, -, c10, c9⟩ := Sat.call (l1 := [pts o1 (.rw 0 [vi a0.g.Terms, vi a0.g.Nons, vi a0.g.Start, (vS d1 a0.g.Rules), (vS d2 a0.n), (.map (some m3))]), It.mp kE3 vi m3 a0.many_]) (l2 := []) s2
    refine o_call (mc rfl (mc rfl (mc rfl (mc rfl m0)))) (ih.1 (a0 := a0) c7 (hp1.mono (g1.trans g2).z) (hp2.mono (g1.trans g2).z) q8) fun _ H2 i3 => ?_
    obtain ⟨w2, w3, b1, rfl, s3⟩ := i3
    have s4 := c9 _ _ s3
    obtain ⟨Z3, V3, g3, s5, h10⟩ := (s4.pull 1 rfl).frzR
    obtain ⟨Z4, V4, g4, s6, h11⟩ := (s5.pull 1 rfl).frzR
    refine o_mul rfl rfl ?_
    refine o_mv (v := (vi (Pu.W (x3 * x4.2)))) rfl ?_
    refine c_nil ?_
    refine c_gen (P := fun tm => tm 10 = (vi (Pu.W (x3 * x4.2))) ∧ True) ⟨rfl, trivial⟩ ?_
    intro _ i4
    obtain ⟨h12, -⟩ := i4
    refine c_rt ?_
    obtain ⟨d3, rfl⟩ := ((h10.mono g4.z)).val
    obtain ⟨d4, rfl⟩ := (h11).val
    obtain rfl := oJ e
    exact ⟨.inr rfl, _, (ar1 h12), _, _, _, rfl, ((((s6.push (ro_it (sl_ro (h10.mono g4.z)))).push (ro_it (sl_ro h11))).pick [2, 1, 0, 3] rfl).weak (g1.trans (g2.trans (g3.trans g4))) hs.zv)⟩
theorem X.rank_book_ways {T : FuncId → Option AFunc} (nd : Nd.rank_book_ways T) {φ : Nat} {Z V : PH} {H : Hp} {v1 : Value} {v2 : Value} {m3 : Nat} {o1 : Nat} {a0 : Ty.rank_book} {a1 : Int} {a2 : Int} {a3 : Int} (hs : Sat Z V H [pts o1 (.rw 0 [vi a0.g.Terms, vi a0.g.Nons, vi a0.g.Start, v1, v2, (.map (some m3))]), It.mp kE3 vi m3 a0.many_]) (hp1 : RdS Sh.api_Rule Z v1 a0.g.Rules) (hp2 : RdS sI1 Z v2 a0.n) {r : (Ty.rank_book × Int)} (e : P.rank_book_ways φ a0 a1 a2 a3 = some r) :
 G T I.rank_book_ways [(pV o1 0), vi a1, vi a2, vi a3] H (fun rv H' => ∃ (u1 : Value) (u2 : Value) (o103 : Nat), rv = (vi r.2) ∧ Sat Z V H' [pts o1 (.rw 0 [vi r.1.g.Terms, vi r.1.g.Nons, vi r.1.g.Start, u1, u2, (.map (some o103))]), Sh.it (Sh.ro (Sh.sl Sh.api_Rule)) [u1] r.1.g.Rules, Sh.it (Sh.ro sI2) [u2] r.1.n, It.mp kE3 vi o103 r.1.many_]) := (X.rank_book_ways_rec nd φ).1 hs hp1 hp2 e
theorem X.rank_book_part {T : FuncId → Option AFunc} (nd : Nd.rank_book_part T) {φ : Nat} {Z V : PH} {H : Hp} {v1 : Value} {v2 : Value} {m3 : Nat} {o1 : Nat} {a0 : Ty.rank_book} {a1 : Int} {a2 : Int} {a3 : Int} {a4 : Int} (hs : Sat Z V H [pts o1 (.rw 0 [vi a0.g.Terms, vi a0.g.Nons, vi a0.g.Start, v1, v2, (.map (some m3))]), It.mp kE3 vi m3 a0.many_]) (hp1 : RdS Sh.api_Rule Z v1 a0.g.Rules) (hp2 : RdS sI1 Z v2 a0.n) {r : (Ty.rank_book × Int)} (e : P.rank_book_part φ a0 a1 a2 a3 a4 = some r) :
 G T I.rank_book_part [(pV o1 0), vi a1, vi a2, vi a3, vi a4] H (fun rv H' => ∃ (u1 : Value) (u2 : Value) (o103 : Nat), rv = (vi r.2) ∧ Sat Z V H' [pts o1 (.rw 0 [vi r.1.g.Terms, vi r.1.g.Nons, vi r.1.g.Start, u1, u2, (.map (some o103))]), Sh.it (Sh.ro (Sh.sl Sh.api_Rule)) [u1] r.1.g.Rules, Sh.it (Sh.ro sI2) [u2] r.1.n, It.mp kE3 vi o103 r.1.many_]) := (X.rank_book_ways_rec nd φ).2 hs hp1 hp2 e
structure Nd.rank_book_tree (T : FuncId → Option AFunc) : Prop where
 own_rank_book_tree : Has T I.rank_book_tree F.rank_book_tree
 own_rank_book_kids : Has T I.rank_book_kids F.rank_book_kids
 rank_book_ways : Nd.rank_book_ways T
 rank_book_part : Nd.rank_book_part T
abbrev Nd.rank_book_kids := Nd.rank_book_tree
set_option maxHeartbeats 1000000 in
theorem X.rank_book_tree_rec {T : FuncId → Option AFunc} (nd : Nd.rank_book_tree T) : ∀ φ : Nat, (∀ {Z V : PH} {H : Hp} {v1 : Value} {v2 : Value} {m3 : Nat} {o1 : Nat} {a0 : Ty.rank_book} {a1 : Ty.api_Sym} {a2 : Int} {a3 : Int} (hs : Sat Z V H [pts o1 (.rw 0 [vi a0.g.Terms, vi a0.g.Nons, vi a0.g.Start, v1, v2, (.map (some m3))]), It.mp kE3 vi m3 a0.many_]) (hp1 : RdS Sh.api_Rule Z v1 a0.g.Rules) (hp2 : RdS sI1 Z v2 a0.n) {r : (Ty.rank_book × Ty.api_Tree)} (e : P.rank_book_tree φ a0 a1 a2 a3 = some r), G T I.rank_book_tree [(pV o1 0), (.agg #[(.bool a1.Term), vi a1.N]), vi a2, vi a3] H (fun rv H' => ∃ (u1 : Value) (u2 : Value) (o103 : Nat) (u4 : Value), rv = (.agg #[vi r.2.Rule, vi r.2.Term, u4]) ∧ Sat Z V H' [pts o1 (.rw 0 [vi r.1.g.Terms, vi r.1.g.Nons, vi r.1.g.Start, u1, u2, (.map (some o103))]), Sh.it (Sh.ro (Sh.sl Sh.api_Rule)) [u1] r.1.g.Rules, Sh.it (Sh.ro sI2) [u2] r.1.n, It.mp kE3 vi o103 r.1.many_, It.sl (Sh.ro Sh.api_Tree) u4 r.2.Kids])) ∧ (∀ {Z V : PH} {H : Hp} {v1 : Value} {v2 : Value} {m3 : Nat} {o1 : Nat} {a0 : Ty.rank_book} {a1 : Int} {a2 : Int} {a3 : Int} {a4 : Int} (hs : Sat Z V H [pts o1 (.rw 0 [vi a0.g.Terms, vi a0.g.Nons, vi a0.g.Start, v1, v2, (.map (some m3))]), It.mp kE3 vi m3 a0.many_]) (hp1 : RdS Sh.api_Rule Z v1 a0.g.Rules) (hp2 : RdS sI1 Z v2 a0.n) {r : (Ty.rank_book × (List Ty.api_Tree))} (e : P.rank_book_kids φ a0 a1 a2 a3 a4 = some r), G T I.rank_book_kids [(pV o1 0), vi a1, vi a2, vi a3, vi a4] H (fun rv H' => ∃ (u1 : Value) (u2 : Value) (o103 : Nat) (u4 : Value), rv = u4 ∧ Sat Z V H' [pts o1 (.rw 0 [vi r.1.g.Terms, vi r.1.g.Nons, vi r.1.g.Start, u1, u2, (.map (some o103))]), Sh.it (Sh.ro (Sh.sl Sh.api_Rule)) [u1] r.1.g.Rules, Sh.it (Sh.ro sI2) [u2] r.1.n, It.mp kE3 vi o103 r.1.many_, It.sl (Sh.ro Sh.api_Tree) u4 r.2])) := by
 intro φ
 induction φ with
 | zero =>
   refine ⟨?_, ?_⟩
   ·intro Z V H v1 v2 m3 o1 a0 a1 a2 a3 hs hp1 hp2 r e
    rw [P.rank_book_tree] at e; cases e
   ·intro Z V H v1 v2 m3 o1 a0 a1 a2 a3 a4 hs hp1 hp2 r e
    rw [P.rank_book_kids] at e; cases e
 | succ φ ih =>
   refine ⟨?_, ?_⟩
   ·intro Z V H v1 v2 m3 o1 a0 a1 a2 a3 hs hp1 hp2 r e
    rw [P.rank_book_tree] at e
    refine f_mk nd.own_rank_book_tree ?_
    refine c_sr ?_
    refine o_box hs rfl rfl fun b1 H1 s1 => ?_
    refine o_new s1 fun b2 H2 s2 => ?_
    refine c_nil (c_sq (c_sr (o_fad rfl (o_ldB 1 s2 rfl rfl rfl rfl ?_))))
    refine c_nil ?_
    refine c_if rfl (fun q1 => ?_) (fun q1 => ?_)
    ·replace e := if_t q1 e
     refine c_sr (o_fad rfl (o_ldB 1 s2 rfl rfl rfl rfl ?_))
     refine o_bld (qs := [(0, 1, (vi (-1))), (1, 1, (vi a1.N))]) rfl rfl ?_
     refine o_stB (us' := [(vi (-1)), vi a1.N, (.slice none 0 0)]) 0 s2 rfl rfl rfl rfl rfl rfl rfl fun H3 s3 => ?_
     refine c_nil (c_rt ?_)
     obtain ⟨d1, rfl⟩ := (hp1).val
     obtain ⟨d2, rfl⟩ := (hp2).val
     obtain rfl := oJ e
     exact ⟨.inr rfl, _, (arB 0 s3 rfl rfl rfl rfl), _, _, _, _, rfl, ((((s3.push (ro_it (sl_ro hp1))).push (ro_it (sl_ro hp2))).push (sl_nil (s := (Sh.ro Sh.api_Tree)))).pick [5, 2, 1, 6, 0] rfl)⟩
    replace e := ib_f q1 e
    refine c_sk (c_sq (c_sr ?_))
    refine o_mv (v := (pV o1 0)) rfl ?_
    refine o_nck rfl (o_fad rfl (o_fad rfl ?_))
    obtain ⟨d3, rfl⟩ := (hp1).val
    obtain ⟨d4, rfl⟩ := (hp2).val
    refine o_ldB 2 s2 rfl rfl rfl rfl (o_len rfl (hp1).len ?_)
    refine o_mv (v := (vi 0)) rfl ?_
    refine c_nil ?_
    refine c_gen (P := fun tm => tm 0 = (pV o1 0) ∧ tm 2 = (vi a2) ∧ tm 3 = (vi a3) ∧ tm 5 = (pV b1 0) ∧ tm 8 = (pV b2 0) ∧ tm 21 = (vS d3 a0.g.Rules) ∧ tm 22 = (vN a0.g.Rules) ∧ tm 23 = (vi 0) ∧ True) ⟨rfl, rfl, rfl, rfl, rfl, rfl, rfl, rfl, trivial⟩ ?_
    intro _ i1
    obtain ⟨h1, h2, h3, h4, h5, h6, h7, h8, -⟩ := i1
    obtain ⟨y1, q4, e⟩ := oB e
    refine c_jn (I := fun tm H => ∃ (s6 : (Int × Int × Int × (List Ty.api_Rule) × (List (List Int)) × (List ((Int × Int × Int) × Int)) × Int)), y1 = .out s6 ∧ (∃ (Z2 V2 : PH) (b4 : Nat) (w3 : Value) (w4 : Value), Gw Z V Z2 V2 ∧ Sat Z2 V2 H [pts o1 (.rw 0 [vi s6.1, vi s6.2.1, vi s6.2.2.1, w3, w4, (.map (some b4))]), It.mp kE3 vi b4 s6.2.2.2.2.2.1, pts b1 (.rw 0 [(.bool a1.Term), vi a1.N]), pts b2 (.rw 0 [vi 0, vi 0, (.slice none 0 0)])] ∧ tm 0 = (pV o1 0) ∧ tm 2 = (vi a2) ∧ tm 3 = (vi s6.2.2.2.2.2.2) ∧ tm 5 = (pV b1 0) ∧ tm 8 = (pV b2 0) ∧ tm 21 = (vS d3 a0.g.Rules) ∧ tm 22 = (vN a0.g.Rules) ∧ RdS Sh.api_Rule Z2 w3 s6.2.2.2.1 ∧ RdS sI1 Z2 w4 s6.2.2.2.2.1)) (fun k4 => ?_) ?_
    ·refine c_bk ?_
     refine l_forL (xs := a0.g.Rules) (fun (i2 : Nat) (s4 : (Int × Int × Int × (List Ty.api_Rule) × (List (List Int)) × (List ((Int × Int × Int) × Int)) × Int)) tm H => tm 23 = vi i2 ∧ ∃ (Z1 V1 : PH) (b3 : Nat) (w1 : Value) (w2 : Value), Gw Z V Z1 V1 ∧ Sat Z1 V1 H [pts o1 (.rw 0 [vi s4.1, vi s4.2.1, vi s4.2.2.1, w1, w2, (.map (some b3))]), It.mp kE3 vi b3 s4.2.2.2.2.2.1, pts b1 (.rw 0 [(.bool a1.Term), vi a1.N]), pts b2 (.rw 0 [vi 0, vi 0, (.slice none 0 0)])] ∧ tm 0 = (pV o1 0) ∧ tm 2 = (vi a2) ∧ tm 3 = (vi s4.2.2.2.2.2.2) ∧ tm 5 = (pV b1 0) ∧ tm 8 = (pV b2 0) ∧ tm 21 = (vS d3 a0.g.Rules) ∧ tm 22 = (vN a0.g.Rules) ∧ RdS Sh.api_Rule Z1 w1 s4.2.2.2.1 ∧ RdS sI1 Z1 w2 s4.2.2.2.2.1) (fun i2 x1 s4 y2 tm H5 q2 q3 j1 e1 k1 k2 k3 => ?_) (fun s4 tm H4 jf jd => ?_) q4 ⟨h8, _, _, _, _, _, Gw.refl _ _, (s2.pick [2, 3, 1, 0] rfl), h1, h2, h3, h4, h5, h6, h7, hp1, hp2⟩
     ·obtain ⟨hti0, Z1, V1, b3, w1, w2, g1, s5, h11, h12, h13, h14, h15, h16, h17, h9, h10⟩ := j1
      unfold P.rank_book_tree.b0 at e1
      refine c_sr (o_lss hti0 h17 (c_nil (c_sq ?_)))
      refine c_ift rfl (Int.ofNat_lt.2 q3) ?_
      refine c_sk (c_sq (c_bk (c_sr (o_mv hti0 ?_))))
      refine o_idx (v := (vS d3 a0.g.Rules)) h16 hti0 (hp1.mono g1.z) rfl (Pu.ix_nat.trans q2) fun p1 q5 => ?_
      refine o_lda rfl (hp1.mono g1.z) s5.z rfl q5 (Pu.ix_nat.trans q2) fun c1 h27 => ?_
      obtain ⟨w5, rfl, h28⟩ := Sh.api_Rule_op h27
      refine o_new s5 fun b5 H7 s8 => ?_
      refine o_mv (v := (vJ i2)) rfl ?_
      obtain ⟨d5, rfl⟩ := (h28).val
      refine o_stB (us' := [vi x1.Left, (vS d5 x1.Right)]) 0 s8 rfl rfl rfl rfl rfl rfl rfl fun H8 s9 => ?_
      refine c_nil (c_sq (c_sr (o_fad rfl (o_ldB 0 s9 rfl rfl rfl rfl ?_))))
      refine o_fad h14 (o_ldB 3 s9 rfl rfl rfl rfl (o_neq rfl rfl (c_nil ?_)))
      refine c_gen (P := fun tm => tm 0 = (pV o1 0) ∧ tm 2 = (vi a2) ∧ tm 3 = (vi s4.2.2.2.2.2.2) ∧ tm 5 = (pV b1 0) ∧ tm 8 = (pV b2 0) ∧ tm 9 = (vJ i2) ∧ tm 21 = (vS d3 a0.g.Rules) ∧ tm 22 = (vN a0.g.Rules) ∧ tm 23 = (vJ i2) ∧ tm 32 = (.bool (decide (x1.Left ≠ a1.N))) ∧ True) ⟨h11, h12, h13, h14, h15, rfl, h16, h17, hti0, rfl, trivial⟩ ?_
      intro _ i3
      obtain ⟨h29, h30, h31, h32, h33, h34, h35, h36, h37, h38, -⟩ := i3
      refine c_ifd h38 (fun q6 => ?_) (fun q6 => ?_)
      ·replace e1 := if_t q6 e1
       refine c_ex ?_
       refine e_c ?_
       refine e_h ?_
       refine c_r (o_add h37 rfl ?_)
       refine o_mv (v := (vi (Pu.W ((i2 : Int) + 1)))) rfl ?_
       refine c_nil ?_
       exact k1 _ _ _ (sJ e1) ⟨(iv rfl (w_suc q3 (hp1).bd)), _, _, _, _, _, g1, (s9.pick [1, 2, 3, 4] rfl), h29, h30, h31, h32, h33, h35, h36, h9, h10⟩
      replace e1 := if_f q6 e1
      refine c_sk (c_sr (o_mv h29 (o_mv h34 (o_mv h30 ?_))))
      obtain ⟨x2, q7, e1⟩ := oB e1
      obtain ⟨d6, rfl⟩ := (h9).val
      obtain ⟨d7, rfl⟩ := (h10).val
      obtain ⟨Z3, V3, W1, g3, u1, c2, c3, -, c5, c4⟩ := Sat.call (l1 := [pts o1 (.rw 0 [vi s4.1, vi s4.2.1, vi s4.2.2.1, (vS d6 s4.2.2.2.1), (vS d7 s4.2.2.2.2.1), (.map (some b3))]), It.mp kE3 vi b3 s4.2.2.2.2.2.1]) (l2 := [pts b5 (.rw 0 [vi x1.Left, (vS d5 x1.Right)]), pts b1 (.rw 0 [(.bool a1.Term), vi a1.N]), pts b2 (.rw 0 [vi 0, vi 0, (.slice none 0 0)])]) (s9.pick [1, 2, 0, 3, 4] rfl)
      refine o_call (mc rfl (mc rfl (mc rfl (mc rfl m0)))) (X.rank_book_ways nd.rank_book_ways (a0 := (Ty.rank_book.mk (Ty.api_Grammar.mk s4.1 s4.2.1 s4.2.2.1 s4.2.2.2.1) s4.2.2.2.2.1 s4.2.2.2.2.2.1)) c2 (h9.mono g3.z) (h10.mono g3.z) q7) fun _ H9 i4 => ?_
      obtain ⟨w6, w7, b6, rfl, s10⟩ := i4
      have s11 := c4 _ _ s10
      obtain ⟨Z4, V4, g4, s12, h39⟩ := (s11.pull 1 rfl).frzR
      obtain ⟨Z5, V5, g5, s13, h40⟩ := (s12.pull 1 rfl).frzR
      refine o_mv (v := (vi x2.2)) rfl ?_
      refine c_nil (c_sq (c_sr (o_mv h31 ?_)))
      refine o_mv (v := (vi x2.2)) rfl ?_
      refine o_lss rfl rfl (c_nil ?_)
      refine c_ifd rfl (fun q8 => ?_) (fun q8 => ?_)
      ·replace e1 := if_t q8 e1
       refine c_sr (o_mv h34 (o_mv h29 (o_mv h34 (o_mv h30 ?_))))
       refine o_mv h31 ?_
       obtain ⟨x3, q9, e1⟩ := oB e1
       obtain ⟨d8, rfl⟩ := ((h39.mono g5.z)).val
       obtain ⟨d9, rfl⟩ := (h40).val
       obtain ⟨Z6, V6, W2, g6, u2, c6, c7, -, c9, c8⟩ := Sat.call (l1 := [pts o1 (.rw 0 [vi x2.1.g.Terms, vi x2.1.g.Nons, vi x2.1.g.Start, (vS d8 x2.1.g.Rules), (vS d9 x2.1.n), (.map (some b6))]), It.mp kE3 vi b6 x2.1.many_]) (l2 := [pts b5 (.rw 0 [vi x1.Left, (vS d5 x1.Right)]), pts b1 (.rw 0 [(.bool a1.Term), vi a1.N]), pts b2 (.rw 0 [vi 0, vi 0, (.slice none 0 0)])]) s13
       refine o_call (mc rfl (mc rfl (mc rfl (mc rfl (mc rfl m0))))) (ih.2 (a0 := x2.1) c6 (h39.mono (g5.trans g6).z) (h40.mono g6.z) q9) fun w10 H10 i5 => ?_
       obtain ⟨w8, w9, b7, _, rfl, s14⟩ := i5
       have s15 := c8 _ _ s14
       obtain ⟨Z7, V7, g7, s16, h41⟩ := (s15.pull 1 rfl).frzR
       obtain ⟨Z8, V8, g8, s17, h42⟩ := (s16.pull 1 rfl).frzR
       obtain ⟨d10, rfl⟩ := ((s17.curS (s := (Sh.ro Sh.api_Tree)) 2 rfl)).val
       refine o_bld (qs := [(0, 1, (vJ i2)), (2, 1, (vS d10 x3.2))]) rfl rfl ?_
       refine o_stB (us' := [(vJ i2), vi 0, (vS d10 x3.2)]) 5 s17 rfl h33 rfl rfl rfl rfl rfl fun H11 s18 => ?_
       refine c_nil ?_
       refine c_gen (P := fun tm => tm 8 = (pV b2 0) ∧ True) ⟨h33, trivial⟩ ?_
       intro _ i6
       obtain ⟨h43, -⟩ := i6
       refine c_rt ?_
       have e2 := fin_r (k3 _ (sJ e1)) e
       obtain ⟨d11, rfl⟩ := ((h41.mono g8.z)).val
       obtain ⟨d12, rfl⟩ := (h42).val
       obtain rfl := oJ e2
       exact ⟨.inr rfl, _, (arB 5 s18 rfl h43 rfl rfl), _, _, _, _, rfl, ((((s18.push (ro_it (sl_ro (h41.mono g8.z)))).push (ro_it (sl_ro h42))).pick [2, 1, 0, 3, 4] rfl).weak (g1.trans (g3.trans (g4.trans (g5.trans (g6.trans (g7.trans g8)))))) hs.zv)⟩
      replace e1 := if_f q8 e1
      refine c_sk (c_r (o_mv h31 ?_))
      refine o_mv (v := (vi x2.2)) rfl ?_
      refine o_sub rfl rfl ?_
      refine o_mv (v := (vi (Pu.W (s4.2.2.2.2.2.2 - x2.2)))) rfl ?_
      refine c_nil (c_end (c_r (o_add h37 rfl ?_)))
      refine o_mv (v := (vi (Pu.W ((i2 : Int) + 1)))) rfl ?_
      refine c_nil ?_
      exact k1 _ _ _ (sJ e1) ⟨(iv rfl (w_suc q3 (hp1).bd)), _, _, _, _, _, (g1.trans (g3.trans (g4.trans g5))), (s13.pick [0, 1, 3, 4] rfl), h29, h30, rfl, h32, h33, h35, h36, (h39.mono g5.z), h40⟩
     ·obtain ⟨hte0, Z9, V9, b8, w11, w12, g9, s19, h46, h47, h48, h49, h50, h51, h52, h44, h45⟩ := jd
      refine c_sr (o_lss hte0 h52 (c_nil (c_sq ?_)))
      refine c_iff rfl (Int.lt_irrefl _) ?_
      refine c_ex ?_
      refine e_c ?_
      refine e_c ?_
      refine e_h ?_
      exact k4 _ _ ⟨_, jf, _, _, _, _, _, g9, s19, h46, h47, h48, h49, h50, h51, h52, h44, h45⟩
    intro _ H6 i7
    obtain ⟨s6, f1, Z2, V2, b4, w3, w4, g2, s7, h20, h21, h22, h23, h24, h25, h26, h18, h19⟩ := i7
    replace e := fin_o f1 e
    refine c_sr ?_
    refine o_bld (qs := []) rfl rfl ?_
    refine o_stB (us' := [vi 0, vi 0, (.slice none 0 0)]) 3 s7 rfl h24 rfl rfl rfl rfl rfl fun H13 s20 => ?_
    refine c_nil (c_rt ?_)
    obtain ⟨d13, rfl⟩ := (h18).val
    obtain ⟨d14, rfl⟩ := (h19).val
    obtain rfl := oJ e
    exact ⟨.inr rfl, _, (arB 3 s20 rfl h24 rfl rfl), _, _, _, _, rfl, (((((s20.push (ro_it (sl_ro h18))).push (ro_it (sl_ro h19))).push (sl_nil (s := (Sh.ro Sh.api_Tree)))).pick [3, 2, 1, 4, 0] rfl).weak g2 hs.zv)⟩
   ·intro Z V H v1 v2 m3 o1 a0 a1 a2 a3 a4 hs hp1 hp2 r e
    rw [P.rank_book_kids] at e
    refine f_mk nd.own_rank_book_kids ?_
    refine c_sr ?_
    refine o_mv (v := (.slice none 0 0)) rfl ?_
    refine c_nil (c_sr ?_)
    refine o_mv (v := (pV o1 0)) rfl ?_
    refine o_nck rfl (o_fad rfl (o_fad rfl ?_))
    obtain ⟨d1, rfl⟩ := (hp1).val
    obtain ⟨d2, rfl⟩ := (hp2).val
    refine o_ldB 0 hs rfl rfl rfl rfl ?_
    refine o_mv (v := (vi a1)) rfl ?_
    obtain ⟨x1, q1, e⟩ := oB e
    refine o_idx (v := (vS d1 a0.g.Rules)) rfl rfl hp1 rfl q1 fun p1 q2 => ?_
    refine o_fadE rfl q2 fun p2 q3 => ?_
    refine o_ldF rfl hp1 hs.z rfl q2 q3 q1 rfl fun c1 h1 => ?_
    obtain ⟨w1, rfl, h2⟩ := Sh.api_Rule_op h1
    refine ⟨_, rfl, ?_⟩
    refine o_mv (v := w1) rfl ?_
    refine c_nil ?_
    refine c_gen (P := fun tm => tm 0 = (pV o1 0) ∧ tm 1 = (vi a1) ∧ tm 2 = (vi a2) ∧ tm 3 = (vi a3) ∧ tm 4 = (vi a4) ∧ tm 11 = w1 ∧ True) ⟨rfl, rfl, rfl, rfl, rfl, rfl, trivial⟩ ?_
    intro _ i1
    obtain ⟨h3, h4, h5, h6, h7, h8, -⟩ := i1
    refine c_sq (c_sr (o_mv h5 (o_mv h8 (o_len rfl (h2).len ?_))))
    refine o_eql rfl rfl (c_nil ?_)
    refine c_ifd rfl (fun q4 => ?_) (fun q4 => ?_)
    ·replace e := if_t q4 e
     refine c_sr ?_
     refine o_mv (v := (.slice none 0 0)) rfl ?_
     refine c_nil (c_rt ?_)
     obtain rfl := oJ e
     exact ⟨.inr rfl, _, (ar1 rfl), _, _, _, _, rfl, ((((hs.push (ro_it (sl_ro hp1))).push (ro_it (sl_ro hp2))).push (sl_nil (s := (Sh.ro Sh.api_Tree)))).pick [3, 2, 1, 4, 0] rfl)⟩
    replace e := if_f q4 e
    refine c_sk (c_sr ?_)
    refine o_mv (v := (vi 0)) rfl ?_
    refine c_nil (c_sq ?_)
    obtain ⟨y1, q7, e⟩ := oB e
    refine c_jn (I := fun tm H => ∃ (s3 : (Int × Int × Int × (List Ty.api_Rule) × (List (List Int)) × (List ((Int × Int × Int) × Int)) × Int × Int)), y1 = .out s3 ∧ (∃ (Z2 V2 : PH) (b2 : Nat) (w4 : Value) (w5 : Value), Gw Z V Z2 V2 ∧ Sat Z2 V2 H [pts o1 (.rw 0 [vi s3.1, vi s3.2.1, vi s3.2.2.1, w4, w5, (.map (some b2))]), It.mp kE3 vi b2 s3.2.2.2.2.2.1] ∧ tm 0 = (pV o1 0) ∧ tm 1 = (vi a1) ∧ tm 2 = (vi a2) ∧ tm 3 = (vi a3) ∧ tm 4 = (vi s3.2.2.2.2.2.2.1) ∧ tm 11 = w1 ∧ tm 12 = (vi s3.2.2.2.2.2.2.2) ∧ RdS Sh.api_Rule Z2 w4 s3.2.2.2.1 ∧ RdS sI1 Z2 w5 s3.2.2.2.2.1)) (fun k4 => ?_) ?_
    ·refine c_bk ?_
     refine l_whl (fun (s1 : (Int × Int × Int × (List Ty.api_Rule) × (List (List Int)) × (List ((Int × Int × Int) × Int)) × Int × Int)) tm H => ∃ (Z1 V1 : PH) (b1 : Nat) (w2 : Value) (w3 : Value), Gw Z V Z1 V1 ∧ Sat Z1 V1 H [pts o1 (.rw 0 [vi s1.1, vi s1.2.1, vi s1.2.2.1, w2, w3, (.map (some b1))]), It.mp kE3 vi b1 s1.2.2.2.2.2.1] ∧ tm 0 = (pV o1 0) ∧ tm 1 = (vi a1) ∧ tm 2 = (vi a2) ∧ tm 3 = (vi a3) ∧ tm 4 = (vi s1.2.2.2.2.2.2.1) ∧ tm 11 = w1 ∧ tm 12 = (vi s1.2.2.2.2.2.2.2) ∧ RdS Sh.api_Rule Z1 w2 s1.2.2.2.1 ∧ RdS sI1 Z1 w3 s1.2.2.2.2.1) (fun s1 y2 tm H2 j1 e1 k1 k2 k3 => ?_) q7 ⟨_, _, _, _, _, Gw.refl _ _, hs, h3, h4, h5, h6, h7, h8, rfl, hp1, hp2⟩
     obtain ⟨Z1, V1, b1, w2, w3, g1, s2, h11, h12, h13, h14, h15, h16, h17, h9, h10⟩ := j1
     unfold P.rank_book_kids.b0 at e1
     refine c_sq (c_sr (o_mv h17 (o_mv h14 (o_lss rfl rfl ?_))))
     refine o_mv (v := (.bool (decide (s1.2.2.2.2.2.2.2 < a3)))) rfl ?_
     obtain ⟨y3, e2, e1⟩ := oB e1
     refine o_jn 9 (I := fun tm H => ∃ (Z3 V3 : PH) (b3 : Nat) (w6 : Value) (w7 : Value), Gw Z1 V1 Z3 V3 ∧ Sat Z3 V3 H [pts o1 (.rw 0 [vi y3.1, vi y3.2.1, vi y3.2.2.1, w6, w7, (.map (some b3))]), It.mp kE3 vi b3 y3.2.2.2.2.2.1] ∧ tm 0 = (pV o1 0) ∧ tm 1 = (vi a1) ∧ tm 2 = (vi a2) ∧ tm 3 = (vi a3) ∧ tm 4 = (vi s1.2.2.2.2.2.2.1) ∧ tm 11 = w1 ∧ tm 12 = (vi s1.2.2.2.2.2.2.2) ∧ tm 39 = (.bool y3.2.2.2.2.2.2) ∧ RdS Sh.api_Rule Z3 w6 y3.2.2.2.1 ∧ RdS sI1 Z3 w7 y3.2.2.2.2.1) (fun k5 => ?_) ?_
     ·rcases Bool.eq_false_or_eq_true (decide (s1.2.2.2.2.2.2.2 < a3)) with q8 | q8
      ·replace e2 := if_t q8 e2
       refine o_gy rfl q8 (o_mv h15 (o_gy rfl q8 (o_mv h11 (o_gy rfl q8 ?_))))
       refine o_mv h12 (o_gy rfl q8 (o_mv h13 (o_gy rfl q8 (o_mv h17 ?_))))
       refine o_gy rfl q8 (o_mv h14 (o_gy rfl q8 ?_))
       obtain ⟨x3, q9, e2⟩ := oB e2
       obtain ⟨d3, rfl⟩ := (h9).val
       obtain ⟨d4, rfl⟩ := (h10).val
       obtain ⟨Z4, V4, W1, g4, u1, c2, c3, -, c5, c4⟩ := Sat.call (l1 := [pts o1 (.rw 0 [vi s1.1, vi s1.2.1, vi s1.2.2.1, (vS d3 s1.2.2.2.1), (vS d4 s1.2.2.2.2.1), (.map (some b1))]), It.mp kE3 vi b1 s1.2.2.2.2.2.1]) (l2 := []) s2
       refine o_call (mc rfl (mc rfl (mc rfl (mc rfl (mc rfl m0))))) (X.rank_book_part nd.rank_book_part (a0 := (Ty.rank_book.mk (Ty.api_Grammar.mk s1.1 s1.2.1 s1.2.2.1 s1.2.2.2.1) s1.2.2.2.2.1 s1.2.2.2.2.2.1)) c2 (h9.mono g4.z) (h10.mono g4.z) q9) fun _ H5 i3 => ?_
       obtain ⟨w8, w9, b4, rfl, s6⟩ := i3
       have s7 := c4 _ _ s6
       obtain ⟨Z5, V5, g5, s8, h37⟩ := (s7.pull 1 rfl).frzR
       obtain ⟨Z6, V6, g6, s9, h38⟩ := (s8.pull 1 rfl).frzR
       refine o_gy rfl q8 (o_geq rfl rfl ?_)
       refine o_pickt (a := (.bool (decide (x3.2 ≤ s1.2.2.2.2.2.2.1)))) rfl q8 rfl ?_
       obtain rfl := oJ e2
       exact k5 _ _ ⟨_, _, _, _, _, (g4.trans (g5.trans g6)), s9, h11, h12, h13, h14, h15, h16, h17, rfl, (h37.mono g6.z), h38⟩
      replace e2 := ib_f q8 e2
      refine o_gn rfl q8 (o_gn rfl q8 (o_gn rfl q8 (o_gn rfl q8 (o_gn rfl q8 ?_))))
      refine o_gn rfl q8 (o_gn rfl q8 (o_gn rfl q8 ?_))
      refine o_pickf (b := (.bool false)) rfl q8 rfl ?_
      obtain rfl := oJ e2
      exact k5 _ _ ⟨_, _, _, _, _, Gw.refl _ _, s2, h11, h12, h13, h14, h15, h16, h17, rfl, h9, h10⟩
     intro _ H4 i4
     obtain ⟨Z3, V3, b3, w6, w7, g3, s5, h29, h30, h31, h32, h33, h34, h35, h36, h27, h28⟩ := i4
     refine c_nil ?_
     refine c_if h36 (fun q10 => ?_) (fun q10 => ?_)
     ·replace e1 := if_t q10 e1
      refine c_sk (c_sq (c_bk (c_r (o_mv h33 ?_))))
      refine o_mv h29 (o_mv h30 (o_mv h31 (o_mv h35 (o_mv h32 ?_))))
      obtain ⟨x4, q11, e1⟩ := oB e1
      obtain ⟨d5, rfl⟩ := (h27).val
      obtain ⟨d6, rfl⟩ := (h28).val
      obtain ⟨Z7, V7, W2, g7, u2, c6, c7, -, c9, c8⟩ := Sat.call (l1 := [pts o1 (.rw 0 [vi y3.1, vi y3.2.1, vi y3.2.2.1, (vS d5 y3.2.2.2.1), (vS d6 y3.2.2.2.2.1), (.map (some b3))]), It.mp kE3 vi b3 y3.2.2.2.2.2.1]) (l2 := []) s5
      refine o_call (mc rfl (mc rfl (mc rfl (mc rfl (mc rfl m0))))) (X.rank_book_part nd.rank_book_part (a0 := (Ty.rank_book.mk (Ty.api_Grammar.mk y3.1 y3.2.1 y3.2.2.1 y3.2.2.2.1) y3.2.2.2.2.1 y3.2.2.2.2.2.1)) c6 (h27.mono g7.z) (h28.mono g7.z) q11) fun _ H6 i5 => ?_
      obtain ⟨w10, w11, b5, rfl, s10⟩ := i5
      have s11 := c8 _ _ s10
      obtain ⟨Z8, V8, g8, s12, h39⟩ := (s11.pull 1 rfl).frzR
      obtain ⟨Z9, V9, g9, s13, h40⟩ := (s12.pull 1 rfl).frzR
      refine o_sub rfl rfl ?_
      refine o_mv (v := (vi (Pu.W (s1.2.2.2.2.2.2.1 - x4.2)))) rfl ?_
      refine c_nil (c_end (c_r (o_mv h35 (o_add rfl rfl ?_))))
      refine o_mv (v := (vi (Pu.W (s1.2.2.2.2.2.2.2 + 1)))) rfl ?_
      refine c_nil ?_
      exact k1 _ _ _ (sJ e1) ⟨_, _, _, _, _, (g1.trans (g3.trans (g7.trans (g8.trans g9)))), s13, h29, h30, h31, h32, rfl, h34, rfl, (h39.mono g9.z), h40⟩
     replace e1 := ib_f q10 e1
     refine c_ex ?_
     refine e_c ?_
     refine e_c ?_
     refine e_h ?_
     exact k4 _ _ ⟨_, k2 _ (sJ e1), _, _, _, _, _, (g1.trans g3), s5, h29, h30, h31, h32, h33, h34, h35, h27, h28⟩
    intro _ H3 i6
    obtain ⟨s3, f1, Z2, V2, b2, w4, w5, g2, s4, h20, h21, h22, h23, h24, h25, h26, h18, h19⟩ := i6
    replace e := fin_o f1 e
    refine c_sr (o_mv h20 (o_mv h21 (o_mv h22 (o_add rfl rfl ?_))))
    refine o_mv h23 (o_mv h26 (o_sub rfl rfl ?_))
    obtain ⟨x5, q12, e⟩ := oB e
    obtain ⟨d7, rfl⟩ := (h18).val
    obtain ⟨d8, rfl⟩ := (h19).val
    obtain ⟨Z10, V10, W3, g10, u3, c10, c11, -, c13, c12⟩ := Sat.call (l1 := [pts o1 (.rw 0 [vi s3.1, vi s3.2.1, vi s3.2.2.1, (vS d7 s3.2.2.2.1), (vS d8 s3.2.2.2.2.1), (.map (some b2))]), It.mp kE3 vi b2 s3.2.2.2.2.2.1]) (l2 := []) s4
    refine o_call (mc rfl (mc rfl (mc rfl (mc rfl m0)))) (X.rank_book_ways nd.rank_book_ways (a0 := (Ty.rank_book.mk (Ty.api_Grammar.mk s3.1 s3.2.1 s3.2.2.1 s3.2.2.2.1) s3.2.2.2.2.1 s3.2.2.2.2.2.1)) c10 (h18.mono g10.z) (h19.mono g10.z) q12) fun _ H7 i7 => ?_
    obtain ⟨w12, w13, b6, rfl, s14⟩ := i7
    have s15 := c12 _ _ s14
    obtain ⟨Z11, V11, g11, s16, h41⟩ := (s15.pull 1 rfl).frzR
    obtain ⟨Z12, V12, g12, s17, h42⟩ := (s16.pull 1 rfl).frzR
    refine o_mv (v := (vi x5.2)) rfl ?_
    refine c_nil (c_sq ?_)
    refine c_gen (P := fun tm => tm 0 = (pV o1 0) ∧ tm 1 = (vi a1) ∧ tm 2 = (vi a2) ∧ tm 3 = (vi a3) ∧ tm 4 = (vi s3.2.2.2.2.2.2.1) ∧ tm 11 = w1 ∧ tm 12 = (vi s3.2.2.2.2.2.2.2) ∧ tm 13 = (vi x5.2) ∧ True) ⟨h20, h21, h22, h23, h24, h25, h26, rfl, trivial⟩ ?_
    intro _ i8
    obtain ⟨h43, h44, h45, h46, h47, h48, h49, h50, -⟩ := i8
    refine d_start s17 fun n1 H8 s18 q13 d9 => ?_
    refine d_mv h43 ?_
    refine d_mv h48 ?_
    refine d_mv h45 ?_
    obtain ⟨x6, q14, e⟩ := oB e
    refine d_idx (v := w1) rfl rfl (h2.mono (g2.trans (g10.trans (g11.trans g12))).z) rfl q14 fun p3 q15 => ?_
    refine d_lda (RdS.low (h2.mono (g2.trans (g10.trans (g11.trans g12))).z) s18.z q13) rfl h2 ((g2.trans (g10.trans (g11.trans g12))).z.trans s18.z) rfl q15 q14 fun c14 h51 => ?_
    obtain rfl := h51
    refine d_mv h49 ?_
    refine d_mv h47 ?_
    refine d_mv h50 ?_
    obtain ⟨x7, q16, e⟩ := oB e
    refine d_quo rfl rfl q16 ?_
    obtain ⟨x8, q17, e⟩ := oB e
    obtain ⟨d10, rfl⟩ := ((h41.mono g12.z)).val
    obtain ⟨d11, rfl⟩ := (h42).val
    obtain ⟨Z13, V13, W4, g13, u4, c15, c16, -, c18, c17⟩ := Sat.call (l1 := [pts o1 (.rw 0 [vi x5.1.g.Terms, vi x5.1.g.Nons, vi x5.1.g.Start, (vS d10 x5.1.g.Rules), (vS d11 x5.1.n), (.map (some b6))]), It.mp kE3 vi b6 x5.1.many_]) (l2 := []) s18
    refine d_call (mc rfl (mc rfl (mc rfl (mc rfl m0)))) (ih.1 (a0 := x5.1) c15 (h41.mono (g12.trans g13).z) (h42.mono g13.z) q17) fun _ H9 i9 k6 => ?_
    have d12 := d9.keep k6
    obtain ⟨w14, w15, b7, w16, rfl, s19⟩ := i9
    have s20 := c17 _ _ s19
    obtain ⟨Z14, V14, g14, s21, h52⟩ := (s20.pull 1 rfl).frzR
    obtain ⟨Z15, V15, g15, s22, h53⟩ := (s21.pull 1 rfl).frzR
    refine d_mv h43 ?_
    refine d_mv h44 ?_
    refine d_mv h45 ?_
    refine d_add rfl rfl ?_
    refine d_mv h46 ?_
    refine d_mv h49 ?_
    refine d_sub rfl rfl ?_
    refine d_mv h47 ?_
    refine d_mv h50 ?_
    obtain ⟨x9, q18, e⟩ := oB e
    refine d_rem rfl rfl q18 ?_
    obtain ⟨x10, q19, e⟩ := oB e
    obtain ⟨d13, rfl⟩ := ((h52.mono g15.z)).val
    obtain ⟨d14, rfl⟩ := (h53).val
    obtain ⟨Z16, V16, W5, g16, u5, c19, c20, -, c22, c21⟩ := Sat.call (l1 := [pts o1 (.rw 0 [vi x8.1.g.Terms, vi x8.1.g.Nons, vi x8.1.g.Start, (vS d13 x8.1.g.Rules), (vS d14 x8.1.n), (.map (some b7))]), It.mp kE3 vi b7 x8.1.many_]) (l2 := [It.sl (Sh.ro Sh.api_Tree) w16 x8.2.Kids]) s22
    refine d_call (mc rfl (mc rfl (mc rfl (mc rfl (mc rfl m0))))) (ih.2 (a0 := x8.1) c19 (h52.mono (g15.trans g16).z) (h53.mono g16.z) q19) fun w19 H10 i10 k7 => ?_
    have d15 := d12.keep k7
    obtain ⟨w17, w18, b8, _, rfl, s23⟩ := i10
    have s24 := c21 _ _ s23
    obtain ⟨Z17, V17, g17, s25, h54⟩ := (s24.pull 1 rfl).frzR
    obtain ⟨Z18, V18, g18, s26, h55⟩ := (s25.pull 1 rfl).frzR
    obtain ⟨Z19, V19, g19, s27, h56⟩ := s26.frzS 3 rfl
    replace h56 := h56.of_ro
    obtain ⟨d16, rfl⟩ := (h56).val
    refine d_bsl (s := (Sh.ro Sh.api_Tree)) (us := [vi x8.2.Rule, vi x8.2.Term, (vS d16 x8.2.Kids)]) (qs := [(0, 3, (.agg #[vi x8.2.Rule, vi x8.2.Term, (vS d16 x8.2.Kids)]))]) (xs := [x8.2]) (d15.get 21 rfl rfl) s27 (Sh.ro_lt _) rfl rfl rfl (Els.cons (c := [vi x8.2.Rule, vi x8.2.Term, (vS d16 x8.2.Kids)]) (Sh.api_Tree_cl (x := x8.2) h56) Els.nil) rfl rfl fun w20 H11 s28 k8 => ?_
    have d17 := d15.next 21 rfl k8
    obtain ⟨Z20, V20, g20, s29, h57⟩ := s28.frzS 3 rfl
    replace h57 := h57.of_ro
    obtain ⟨x11, q20, e⟩ := oB e
    refine d_app 0 s29 rfl (Sh.ro_lt _) rfl rfl rfl rfl h57 s29.z (fun h => h) (by decide) q20 fun w21 H12 s30 k9 => ?_
    have d18 := d17.keep k9
    refine d_mv (v := w21) rfl ?_
    refine d_nil dc_nil ?_
    refine c_gen (P := fun tm => tm 10 = w21 ∧ True) ⟨rfl, trivial⟩ ?_
    intro _ i11
    obtain ⟨h58, -⟩ := i11
    refine c_rt ?_
    obtain ⟨d19, rfl⟩ := ((h54.mono (g18.trans (g19.trans g20)).z)).val
    obtain ⟨d20, rfl⟩ := ((h55.mono (g19.trans g20).z)).val
    obtain rfl := oJ e
    exact ⟨.inr rfl, _, (ar1 h58), _, _, _, _, rfl, ((((s30.push (ro_it (sl_ro (h54.mono (g18.trans (g19.trans g20)).z)))).push (ro_it (sl_ro (h55.mono (g19.trans g20).z)))).pick [3, 1, 0, 4, 2] rfl).weak (g2.trans (g10.trans (g11.trans (g12.trans (g13.trans (g14.trans (g15.trans (g16.trans (g17.trans (g18.trans (g19.trans g20))))))))))) hs.zv)⟩
theorem X.rank_book_tree {T : FuncId → Option AFunc} (nd : Nd.rank_book_tree T) {φ : Nat} {Z V : PH} {H : Hp} {v1 : Value} {v2 : Value} {m3 : Nat} {o1 : Nat} {a0 : Ty.rank_book} {a1 : Ty.api_Sym} {a2 : Int} {a3 : Int} (hs : Sat Z V H [pts o1 (.rw 0 [vi a0.g.Terms, vi a0.g.Nons, vi a0.g.Start, v1, v2, (.map (some m3))]), It.mp kE3 vi m3 a0.many_]) (hp1 : RdS Sh.api_Rule Z v1 a0.g.Rules) (hp2 : RdS sI1 Z v2 a0.n) {r : (Ty.rank_book × Ty.api_Tree)} (e : P.rank_book_tree φ a0 a1 a2 a3 = some r) :
 G T I.rank_book_tree [(pV o1 0), (.agg #[(.bool a1.Term), vi a1.N]), vi a2, vi a3] H (fun rv H' => ∃ (u1 : Value) (u2 : Value) (o103 : Nat) (u4 : Value), rv = (.agg #[vi r.2.Rule, vi r.2.Term, u4]) ∧ Sat Z V H' [pts o1 (.rw 0 [vi r.1.g.Terms, vi r.1.g.Nons, vi r.1.g.Start, u1, u2, (.map (some o103))]), Sh.it (Sh.ro (Sh.sl Sh.api_Rule)) [u1] r.1.g.Rules, Sh.it (Sh.ro sI2) [u2] r.1.n, It.mp kE3 vi o103 r.1.many_, It.sl (Sh.ro Sh.api_Tree) u4 r.2.Kids]) := (X.rank_book_tree_rec nd φ).1 hs hp1 hp2 e
theorem X.rank_book_kids {T : FuncId → Option AFunc} (nd : Nd.rank_book_kids T) {φ : Nat} {Z V : PH} {H : Hp} {v1 : Value} {v2 : Value} {m3 : Nat} {o1 : Nat} {a0 : Ty.rank_book} {a1 : Int} {a2 : Int} {a3 : Int} {a4 : Int} (hs : Sat Z V H [pts o1 (.rw 0 [vi a0.g.Terms, vi a0.g.Nons, vi a0.g.Start, v1, v2, (.map (some m3))]), It.mp kE3 vi m3 a0.many_]) (hp1 : RdS Sh.api_Rule Z v1 a0.g.Rules) (hp2 : RdS sI1 Z v2 a0.n) {r : (Ty.rank_book × (List Ty.api_Tree))} (e : P.rank_book_kids φ a0 a1 a2 a3 a4 = some r) :
 G T I.rank_book_kids [(pV o1 0), vi a1, vi a2, vi a3, vi a4] H (fun rv H' => ∃ (u1 : Value) (u2 : Value) (o103 : Nat) (u4 : Value), rv = u4 ∧ Sat Z V H' [pts o1 (.rw 0 [vi r.1.g.Terms, vi r.1.g.Nons, vi r.1.g.Start, u1, u2, (.map (some o103))]), Sh.it (Sh.ro (Sh.sl Sh.api_Rule)) [u1] r.1.g.Rules, Sh.it (Sh.ro sI2) [u2] r.1.n, It.mp kE3 vi o103 r.1.many_, It.sl (Sh.ro Sh.api_Tree) u4 r.2]) := (X.rank_book_tree_rec nd φ).2 hs hp1 hp2 e
structure Nd.rank_Tree (T : FuncId → Option AFunc) : Prop where
 own : Has T I.rank_Tree F.rank_Tree
 rank_open : Nd.rank_open T
 rank_book_tree : Nd.rank_book_tree T
set_option maxHeartbeats 1000000 in
theorem X.rank_Tree {T : FuncId → Option AFunc} (nd : Nd.rank_Tree T) {φ : Nat} {Z V : PH} {H : Hp} {v1 : Value} {a0 : Ty.api_Grammar} {a1 : Int} {a2 : Int} (hs : Sat Z V H []) (hp1 : RdS Sh.api_Rule Z v1 a0.Rules) {r : (Ty.api_Tree × Int)} (e : P.rank_Tree φ a0 a1 a2 = some r) :
 G T I.rank_Tree [(.agg #[vi a0.Terms, vi a0.Nons, vi a0.Start, v1]), vi a1, vi a2] H (fun rv H' => ∃ (u1 : Value), rv = (.tuple #[(.agg #[vi r.1.Rule, vi r.1.Term, u1]), vi r.2]) ∧ Sat Z V H' [It.sl (Sh.ro Sh.api_Tree) u1 r.1.Kids]) := by
 unfold P.rank_Tree at e
 refine f_mk nd.own ?_
 refine c_sr ?_
 obtain ⟨d1, rfl⟩ := (hp1).val
 refine o_box hs rfl rfl fun b1 H1 s1 => ?_
 refine o_new s1 fun b2 H2 s2 => ?_
 refine o_mv (v := (vi 0)) rfl ?_
 refine c_nil (c_sr (o_ldB 1 s2 rfl rfl rfl rfl ?_))
 refine o_mv (v := (vi a1)) rfl ?_
 obtain ⟨x1, q1, e⟩ := oB e
 rcases x1 with ⟨_ | y1, x2⟩
 ·rw [Pu.oc2_none] at e
  obtain ⟨Z1, V1, W1, g1, u1, c1, c2, -, c4, c3⟩ := Sat.call (l1 := []) s2
  refine o_call (mc rfl (mc rfl m0)) (X.rank_open nd.rank_open c1 (hp1.mono g1.z) q1) fun _ H3 i1 => ?_
  dsimp only [ov, oi, List.nil_append, List.append_nil, List.cons_append] at i1
  obtain ⟨b3, u2, u3, u4, rfl, s3⟩ := i1
  have s4 := c3 _ _ s3
  refine o_mv (v := (.tuple #[(.pointer none), vi x2.1, vi x2.2])) rfl ?_
  refine o_ext rfl rfl (o_ext rfl rfl (o_ext rfl rfl ?_))
  refine o_mv (v := (.pointer none)) rfl ?_
  refine o_mv (v := (vi x2.1)) rfl ?_
  refine o_mv (v := (vi x2.2)) rfl ?_
  refine c_nil ?_
  refine c_gen (P := fun tm => tm 1 = (vi a1) ∧ tm 2 = (vi a2) ∧ tm 3 = (pV b1 0) ∧ tm 6 = (pV b2 0) ∧ tm 8 = (.pointer none) ∧ tm 9 = (vi x2.1) ∧ tm 10 = (vi x2.2) ∧ True) ⟨rfl, rfl, rfl, rfl, rfl, rfl, rfl, trivial⟩ ?_
  intro _ i2
  obtain ⟨h1, h2, h3, h4, h5, h6, h7, -⟩ := i2
  refine c_sq (c_sr (o_mv h7 (o_neq rfl rfl (c_nil ?_))))
  refine c_ifd rfl (fun q2 => ?_) (fun q2 => ?_)
  ·replace e := if_t q2 e
   refine c_sr ?_
   refine o_bld (qs := []) rfl rfl ?_
   refine o_mv h7 ?_
   refine o_stB (us' := [vi 0, vi 0, (.slice none 0 0)]) 0 s4 rfl h4 rfl rfl rfl rfl rfl fun H4 s5 => ?_
   refine o_mv (v := (vi x2.2)) rfl ?_
   refine c_nil (c_rt ?_)
   obtain rfl := oJ e
   exact ⟨.inr rfl, _, (ra2 (rac 0 s5 rfl h4 rfl rfl) (rat rfl)), _, rfl, (((s5.push (sl_nil (s := (Sh.ro Sh.api_Tree)))).pick [0] rfl).weak g1 hs.zv)⟩
  replace e := if_f q2 e
  refine c_sk (c_sq (c_sr (o_mv h2 (o_lss rfl rfl ?_))))
  refine o_mv (v := (.bool (decide (a2 < 0)))) rfl ?_
  refine o_jn 4 (I := fun tm H => tm 28 = .bool ((decide (a2 < 0)) || (decide (x2.1 ≤ a2))) ∧ (∃ (Z2 V2 : PH), Gw Z1 V1 Z2 V2 ∧ Sat Z2 V2 H [pts b1 (.rw 0 [vi a0.Terms, vi a0.Nons, vi a0.Start, (vS d1 a0.Rules)]), pts b2 (.rw 0 [vi 0, vi 0, (.slice none 0 0)])] ∧ tm 1 = (vi a1) ∧ tm 2 = (vi a2) ∧ tm 3 = (pV b1 0) ∧ tm 6 = (pV b2 0) ∧ tm 8 = (.pointer none))) (fun k1 => ?_) ?_
  ·rcases Bool.eq_false_or_eq_true (decide (a2 < 0)) with q3 | q3
   ·refine o_gn rfl q3 (o_gn rfl q3 (o_gn rfl q3 ?_))
    refine o_pickt (a := (.bool true)) rfl q3 rfl ?_
    exact k1 _ _ ⟨gf rfl (by first | (rw [q3]; first | done | rfl) | simp [q3]), _, _, Gw.refl _ _, (s4.pick [1, 0] rfl), h1, h2, h3, h4, h5⟩
   refine o_gy rfl q3 (o_mv h2 (o_gy rfl q3 (o_mv h6 (o_gy rfl q3 ?_))))
   refine o_geq rfl rfl ?_
   refine o_pickf (b := (.bool (decide (x2.1 ≤ a2)))) rfl q3 rfl ?_
   exact k1 _ _ ⟨gf rfl (by first | (rw [q3]; first | done | rfl) | simp [q3]), _, _, Gw.refl _ _, (s4.pick [1, 0] rfl), h1, h2, h3, h4, h5⟩
  intro _ H5 i3
  obtain ⟨h13, Z2, V2, g2, s6, h8, h9, h10, h11, h12⟩ := i3
  refine c_nil ?_
  refine c_if h13 (fun q4 => ?_) (fun q4 => ?_)
  ·replace e := if_t q4 e
   refine c_sr ?_
   refine o_bld (qs := []) rfl rfl ?_
   refine o_stB (us' := [vi 0, vi 0, (.slice none 0 0)]) 1 s6 rfl h11 rfl rfl rfl rfl rfl fun H6 s7 => ?_
   refine o_mv (v := (vi 5)) rfl ?_
   refine c_nil (c_rt ?_)
   obtain rfl := oJ e
   exact ⟨.inr rfl, _, (ra2 (rac 1 s7 rfl h11 rfl rfl) (rat rfl)), _, rfl, (((s7.push (sl_nil (s := (Sh.ro Sh.api_Tree)))).pick [0] rfl).weak (g1.trans g2) hs.zv)⟩
  replace e := ib_f q4 e
  refine c_sk (c_sr (o_mv h12 (o_fad h10 (o_ldB 0 s6 rfl rfl rfl rfl ?_))))
  refine o_bld (qs := [(1, 1, (vi a0.Start))]) rfl rfl ?_
  refine o_mv h8 (o_mv h9 ?_)
  cases e
 rw [Pu.oc2_some] at e
 obtain ⟨Z3, V3, W2, g3, u5, c5, c6, -, c8, c7⟩ := Sat.call (l1 := []) s2
 refine o_call (mc rfl (mc rfl m0)) (X.rank_open nd.rank_open c5 (hp1.mono g3.z) q1) fun _ H7 i4 => ?_
 dsimp only [ov, oi, List.nil_append, List.append_nil, List.cons_append] at i4
 obtain ⟨b4, w1, w2, b5, rfl, s8⟩ := i4
 have s9 := c7 _ _ s8
 obtain ⟨Z4, V4, g4, s10, h14⟩ := (s9.pull 1 rfl).frzR
 refine o_mv (v := (.tuple #[(pV b4 0), vi x2.1, vi x2.2])) rfl ?_
 refine o_ext rfl rfl (o_ext rfl rfl (o_ext rfl rfl ?_))
 refine o_mv (v := (pV b4 0)) rfl ?_
 refine o_mv (v := (vi x2.1)) rfl ?_
 refine o_mv (v := (vi x2.2)) rfl ?_
 refine c_nil ?_
 refine c_gen (P := fun tm => tm 1 = (vi a1) ∧ tm 2 = (vi a2) ∧ tm 3 = (pV b1 0) ∧ tm 6 = (pV b2 0) ∧ tm 8 = (pV b4 0) ∧ tm 9 = (vi x2.1) ∧ tm 10 = (vi x2.2) ∧ True) ⟨rfl, rfl, rfl, rfl, rfl, rfl, rfl, trivial⟩ ?_
 intro _ i5
 obtain ⟨h15, h16, h17, h18, h19, h20, h21, -⟩ := i5
 refine c_sq (c_sr (o_mv h21 (o_neq rfl rfl (c_nil ?_))))
 refine c_ifd rfl (fun q5 => ?_) (fun q5 => ?_)
 ·replace e := if_t q5 e
  refine c_sr ?_
  refine o_bld (qs := []) rfl rfl ?_
  refine o_mv h21 ?_
  refine o_stB (us' := [vi 0, vi 0, (.slice none 0 0)]) 3 s10 rfl h18 rfl rfl rfl rfl rfl fun H8 s11 => ?_
  refine o_mv (v := (vi x2.2)) rfl ?_
  refine c_nil (c_rt ?_)
  obtain rfl := oJ e
  exact ⟨.inr rfl, _, (ra2 (rac 3 s11 rfl h18 rfl rfl) (rat rfl)), _, rfl, (((s11.push (sl_nil (s := (Sh.ro Sh.api_Tree)))).pick [0] rfl).weak (g3.trans g4) hs.zv)⟩
 replace e := if_f q5 e
 refine c_sk (c_sq (c_sr (o_mv h16 (o_lss rfl rfl ?_))))
 refine o_mv (v := (.bool (decide (a2 < 0)))) rfl ?_
 refine o_jn 4 (I := fun tm H => tm 28 = .bool ((decide (a2 < 0)) || (decide (x2.1 ≤ a2))) ∧ (∃ (Z5 V5 : PH), Gw Z4 V4 Z5 V5 ∧ Sat Z5 V5 H [pts b1 (.rw 0 [vi a0.Terms, vi a0.Nons, vi a0.Start, (vS d1 a0.Rules)]), pts b2 (.rw 0 [vi 0, vi 0, (.slice none 0 0)]), pts b4 (.rw 0 [vi y1.g.Terms, vi y1.g.Nons, vi y1.g.Start, w1, w2, (.map (some b5))]), It.sl sI1 w2 y1.n, It.mp kE3 vi b5 y1.many_] ∧ tm 1 = (vi a1) ∧ tm 2 = (vi a2) ∧ tm 3 = (pV b1 0) ∧ tm 6 = (pV b2 0) ∧ tm 8 = (pV b4 0))) (fun k2 => ?_) ?_
 ·rcases Bool.eq_false_or_eq_true (decide (a2 < 0)) with q6 | q6
  ·refine o_gn rfl q6 (o_gn rfl q6 (o_gn rfl q6 ?_))
   refine o_pickt (a := (.bool true)) rfl q6 rfl ?_
   exact k2 _ _ ⟨gf rfl (by first | (rw [q6]; first | done | rfl) | simp [q6]), _, _, Gw.refl _ _, (s10.pick [4, 3, 0, 1, 2] rfl), h15, h16, h17, h18, h19⟩
  refine o_gy rfl q6 (o_mv h16 (o_gy rfl q6 (o_mv h20 (o_gy rfl q6 ?_))))
  refine o_geq rfl rfl ?_
  refine o_pickf (b := (.bool (decide (x2.1 ≤ a2)))) rfl q6 rfl ?_
  exact k2 _ _ ⟨gf rfl (by first | (rw [q6]; first | done | rfl) | simp [q6]), _, _, Gw.refl _ _, (s10.pick [4, 3, 0, 1, 2] rfl), h15, h16, h17, h18, h19⟩
 intro _ H9 i6
 obtain ⟨h27, Z5, V5, g5, s12, h22, h23, h24, h25, h26⟩ := i6
 refine c_nil ?_
 refine c_if h27 (fun q7 => ?_) (fun q7 => ?_)
 ·replace e := if_t q7 e
  refine c_sr ?_
  refine o_bld (qs := []) rfl rfl ?_
  refine o_stB (us' := [vi 0, vi 0, (.slice none 0 0)]) 1 s12 rfl h25 rfl rfl rfl rfl rfl fun H10 s13 => ?_
  refine o_mv (v := (vi 5)) rfl ?_
  refine c_nil (c_rt ?_)
  obtain rfl := oJ e
  exact ⟨.inr rfl, _, (ra2 (rac 1 s13 rfl h25 rfl rfl) (rat rfl)), _, rfl, (((s13.push (sl_nil (s := (Sh.ro Sh.api_Tree)))).pick [0] rfl).weak (g3.trans (g4.trans g5)) hs.zv)⟩
 replace e := ib_f q7 e
 refine c_sk (c_sr (o_mv h26 (o_fad h24 (o_ldB 0 s12 rfl rfl rfl rfl ?_))))
 refine o_bld (qs := [(1, 1, (vi a0.Start))]) rfl rfl ?_
 refine o_mv h22 (o_mv h23 ?_)
 obtain ⟨Z6, V6, g6, s14, h28⟩ := s12.frzS 3 rfl
 obtain ⟨x3, q8, e⟩ := oB e
 obtain ⟨d2, rfl⟩ := ((h14.mono (g5.trans g6).z)).val
 obtain ⟨d3, rfl⟩ := (h28).val
 obtain ⟨Z7, V7, W3, g7, u6, c9, c10, -, c12, c11⟩ := Sat.call (l1 := [pts b4 (.rw 0 [vi y1.g.Terms, vi y1.g.Nons, vi y1.g.Start, (vS d2 y1.g.Rules), (vS d3 y1.n), (.map (some b5))]), It.mp kE3 vi b5 y1.many_]) (l2 := [pts b1 (.rw 0 [vi a0.Terms, vi a0.Nons, vi a0.Start, (vS d1 a0.Rules)]), pts b2 (.rw 0 [vi 0, vi 0, (.slice none 0 0)])]) (s14.pick [2, 3, 0, 1] rfl)
 refine o_call (mc rfl (mc rfl (mc rfl (mc rfl m0)))) (X.rank_book_tree nd.rank_book_tree (a0 := y1) (a1 := (Ty.api_Sym.mk false a0.Start)) c9 (h14.mono ((g5.trans g6).trans g7).z) (h28.mono g7.z) q8) fun _ H11 i7 => ?_
 obtain ⟨w3, w4, b6, w5, rfl, s15⟩ := i7
 have s16 := c11 _ _ s15
 obtain ⟨Z8, V8, g8, s17, h29⟩ := (s16.pull 1 rfl).frzR
 obtain ⟨Z9, V9, g9, s18, h30⟩ := (s17.pull 1 rfl).frzR
 obtain ⟨d4, rfl⟩ := ((s18.curS (s := (Sh.ro Sh.api_Tree)) 2 rfl)).val
 refine o_stB (us' := [vi x3.2.Rule, vi x3.2.Term, (vS d4 x3.2.Kids)]) 4 s18 rfl h25 rfl rfl rfl rfl rfl fun H12 s19 => ?_
 refine o_mv (v := (vi 0)) rfl ?_
 refine c_nil (c_rt ?_)
 obtain rfl := oJ e
 exact ⟨.inr rfl, _, (ra2 (rac 4 s19 rfl h25 rfl rfl) (rat rfl)), _, rfl, ((s19.pick [2] rfl).weak (g3.trans (g4.trans (g5.trans (g6.trans (g7.trans (g8.trans g9)))))) hs.zv)⟩
structure Nd.tree_leaf (T : FuncId → Option AFunc) : Prop where
 own : Has T I.tree_leaf F.tree_leaf
set_option maxHeartbeats 1000000 in
theorem X.tree_leaf {T : FuncId → Option AFunc} (nd : Nd.tree_leaf T) {Z V : PH} {H : Hp} {v1 : Value} {a0 : Ty.api_Tree} (hs : Sat Z V H []) (hp1 : RdS Sh.api_Tree V v1 a0.Kids) {r : Bool} (e : P.tree_leaf a0 = some r) :
 G T I.tree_leaf [(.agg #[vi a0.Rule, vi a0.Term, v1])] H (fun rv H' => rv = (.bool r) ∧ Sat Z V H' []) := by
 unfold P.tree_leaf at e
 refine f_mk nd.own ?_
 refine c_sr ?_
 obtain ⟨d1, rfl⟩ := (hp1).val
 refine o_box hs rfl rfl fun b1 H1 s1 => ?_
 refine o_mv (v := (.bool false)) rfl ?_
 refine c_nil (c_sr (o_fad rfl (o_ldB 0 s1 rfl rfl rfl rfl (o_eql rfl rfl ?_))))
 refine o_mv (v := (.bool (decide (a0.Rule = (-1))))) rfl ?_
 refine c_nil (c_rt ?_)
 obtain rfl := oJ e
 exact ⟨.inr rfl, _, (ar1 rfl), rfl, (s1.pick [] rfl)⟩
structure Nd.tree_Size (T : FuncId → Option AFunc) : Prop where
 own_tree_Size : Has T I.tree_Size F.tree_Size
 tree_leaf : Nd.tree_leaf T
set_option maxHeartbeats 1000000 in
theorem X.tree_Size_rec {T : FuncId → Option AFunc} (nd : Nd.tree_Size T) : ∀ φ : Nat, (∀ {Z V : PH} {H : Hp} {v1 : Value} {a0 : Ty.api_Tree} (hs : Sat Z V H []) (hp1 : RdS Sh.api_Tree V v1 a0.Kids) {r : Int} (e : P.tree_Size φ a0 = some r), G T I.tree_Size [(.agg #[vi a0.Rule, vi a0.Term, v1])] H (fun rv H' => rv = (vi r) ∧ Sat Z V H' [])) := by
 intro φ
 induction φ with
 | zero =>
   intro Z V H v1 a0 hs hp1 r e
   rw [P.tree_Size] at e; cases e
 | succ φ ih =>
   intro Z V H v1 a0 hs hp1 r e
   rw [P.tree_Size] at e
   refine f_mk nd.own_tree_Size ?_
   refine c_sr ?_
   obtain ⟨d1, rfl⟩ := (hp1).val
   refine o_box hs rfl rfl fun b1 H1 s1 => ?_
   refine o_mv (v := (vi 0)) rfl ?_
   refine c_nil (c_sr ?_)
   refine o_mv (v := (vi 1)) rfl ?_
   refine c_nil (c_sq (c_sr (o_ldB 0 s1 rfl rfl rfl rfl ?_)))
   obtain ⟨x1, q1, e⟩ := oB e
   obtain ⟨Z1, V1, W1, g1, u1, c1, c2, -, c4, c3⟩ := Sat.call (l1 := []) s1
   refine o_call (mc rfl m0) (X.tree_leaf nd.tree_leaf c1 (hp1.mono (g1.v.trans u1)) q1) fun _ H2 i1 => ?_
   obtain ⟨rfl, s2⟩ := i1
   have s3 := c3 _ _ s2
   refine c_nil ?_
   refine c_if rfl (fun q2 => ?_) (fun q2 => ?_)
   ·replace e := if_t q2 e
    refine c_sr ?_
    refine o_mv (v := (vi 1)) rfl ?_
    refine o_mv (v := (vi 1)) rfl ?_
    refine c_nil (c_rt ?_)
    obtain rfl := oJ e
    exact ⟨.inr rfl, _, (ar1 rfl), rfl, ((s3.pick [] rfl).weak g1 hs.zv)⟩
   replace e := ib_f q2 e
   refine c_sk (c_sq (c_sr (o_fad rfl (o_ldB 0 s3 rfl rfl rfl rfl ?_))))
   refine o_len rfl ((hp1.mono g1.v)).len ?_
   refine o_mv (v := (vi 0)) rfl ?_
   refine c_nil ?_
   obtain ⟨y1, q5, e⟩ := oB e
   refine c_bk ?_
   refine l_forP (xs := a0.Kids) (fun (i2 : Nat) (s4 : Int) tm H => tm 12 = vi i2 ∧ ∃ (Z2 V2 : PH), Gw Z1 V1 Z2 V2 ∧ Sat Z2 V2 H [] ∧ tm 3 = (vi s4) ∧ tm 10 = (vS d1 a0.Kids) ∧ tm 11 = (vN a0.Kids)) (fun i2 x2 s4 s6 tm H4 q3 q4 j1 e1 k1 => ?_) (fun tm H3 jd => ?_) q5 ⟨rfl, _, _, Gw.refl _ _, (s3.pick [] rfl), rfl, rfl, rfl⟩
   ·obtain ⟨hti0, Z2, V2, g2, s5, h1, h2, h3⟩ := j1
    unfold P.tree_Size.b0 at e1
    refine c_sr (o_lss hti0 h3 (c_nil (c_sq ?_)))
    refine c_ift rfl (Int.ofNat_lt.2 q4) ?_
    refine c_sk (c_sq (c_bk (c_sr ?_)))
    refine o_idx (v := (vS d1 a0.Kids)) h2 hti0 (hp1.mono (g1.trans g2).v) rfl (Pu.ix_nat.trans q3) fun p1 q6 => ?_
    refine o_lda rfl (hp1.mono (g1.trans g2).v) s5.v rfl q6 (Pu.ix_nat.trans q3) fun c5 h4 => ?_
    obtain ⟨w1, rfl, h5⟩ := Sh.api_Tree_op h4
    refine o_new s5 fun b2 H5 s7 => ?_
    obtain ⟨d2, rfl⟩ := (h5).val
    refine o_stB (us' := [vi x2.Rule, vi x2.Term, (vS d2 x2.Kids)]) 0 s7 rfl rfl rfl rfl rfl rfl rfl fun H6 s8 => ?_
    refine c_nil (c_r (o_mv h1 (o_ldB 0 s8 rfl rfl rfl rfl ?_)))
    obtain ⟨x3, q7, e1⟩ := oB e1
    obtain ⟨Z3, V3, W2, g3, u2, c6, c7, -, c9, c8⟩ := Sat.call (l1 := []) s8
    refine o_call (mc rfl m0) (ih c6 (h5.mono (g3.v.trans u2)) q7) fun _ H7 i3 => ?_
    obtain ⟨rfl, s9⟩ := i3
    have s10 := c8 _ _ s9
    refine o_add rfl rfl ?_
    refine o_mv (v := (vi (Pu.W (s4 + x3)))) rfl ?_
    refine c_nil (c_end (c_r (o_add hti0 rfl ?_)))
    refine o_mv (v := (vi (Pu.W ((i2 : Int) + 1)))) rfl ?_
    refine c_nil ?_
    obtain rfl := oJ e1
    exact k1 _ _ ⟨(iv rfl (w_suc q4 ((hp1.mono g1.v)).bd)), _, _, (g2.trans g3), (s10.pick [] rfl), rfl, h2, h3⟩
   obtain ⟨hte0, Z4, V4, g4, s11, h6, h7, h8⟩ := jd
   refine c_sr (o_lss hte0 h8 (c_nil (c_sq ?_)))
   refine c_iff rfl (Int.lt_irrefl _) ?_
   refine c_ex ?_
   refine e_c ?_
   refine e_c ?_
   refine e_h ?_
   refine c_sr (o_mv h6 ?_)
   refine o_mv (v := (vi y1)) rfl ?_
   refine c_nil (c_rt ?_)
   obtain rfl := oJ e
   exact ⟨.inr rfl, _, (ar1 rfl), rfl, (s11.weak (g1.trans g4) hs.zv)⟩
theorem X.tree_Size {T : FuncId → Option AFunc} (nd : Nd.tree_Size T) {φ : Nat} {Z V : PH} {H : Hp} {v1 : Value} {a0 : Ty.api_Tree} (hs : Sat Z V H []) (hp1 : RdS Sh.api_Tree V v1 a0.Kids) {r : Int} (e : P.tree_Size φ a0 = some r) :
 G T I.tree_Size [(.agg #[vi a0.Rule, vi a0.Term, v1])] H (fun rv H' => rv = (vi r) ∧ Sat Z V H' []) := (X.tree_Size_rec nd φ) hs hp1 e
structure Nd.tree_symbol (T : FuncId → Option AFunc) : Prop where
 own : Has T I.tree_symbol F.tree_symbol
 tree_leaf : Nd.tree_leaf T
set_option maxHeartbeats 1000000 in
theorem X.tree_symbol {T : FuncId → Option AFunc} (nd : Nd.tree_symbol T) {Z V : PH} {H : Hp} {v1 : Value} {v2 : Value} {a0 : Ty.api_Grammar} {a1 : Ty.api_Tree} (hs : Sat Z V H []) (hp1 : RdS Sh.api_Rule V v1 a0.Rules) (hp2 : RdS Sh.api_Tree V v2 a1.Kids) {r : (Ty.api_Sym × Bool)} (e : P.tree_symbol a0 a1 = some r) :
 G T I.tree_symbol [(.agg #[vi a0.Terms, vi a0.Nons, vi a0.Start, v1]), (.agg #[vi a1.Rule, vi a1.Term, v2])] H (fun rv H' => rv = (.tuple #[(.agg #[(.bool r.1.Term), vi r.1.N]), (.bool r.2)]) ∧ Sat Z V H' []) := by
 unfold P.tree_symbol at e
 refine f_mk nd.own ?_
 refine c_sr ?_
 obtain ⟨d1, rfl⟩ := (hp1).val
 refine o_box hs rfl rfl fun b1 H1 s1 => ?_
 obtain ⟨d2, rfl⟩ := (hp2).val
 refine o_box s1 rfl rfl fun b2 H2 s2 => ?_
 refine o_new s2 fun b3 H3 s3 => ?_
 refine o_mv (v := (.bool false)) rfl ?_
 refine c_nil (c_sq (c_sr (o_ldB 1 s3 rfl rfl rfl rfl ?_)))
 obtain ⟨x1, q1, e⟩ := oB e
 obtain ⟨Z1, V1, W1, g1, u1, c1, c2, -, c4, c3⟩ := Sat.call (l1 := []) s3
 refine o_call (mc rfl m0) (X.tree_leaf nd.tree_leaf c1 (hp2.mono (g1.v.trans u1)) q1) fun _ H4 i1 => ?_
 obtain ⟨rfl, s4⟩ := i1
 have s5 := c3 _ _ s4
 refine c_nil ?_
 refine c_if rfl (fun q2 => ?_) (fun q2 => ?_)
 ·replace e := if_t q2 e
  refine c_sq ?_
  obtain ⟨y1, e1, e⟩ := oB e
  refine c_jn (I := fun tm H => ∃ (Z2 V2 : PH), Gw Z1 V1 Z2 V2 ∧ Sat Z2 V2 H [pts b3 (.rw 0 [(.bool true), vi a1.Term])] ∧ tm 4 = (pV b3 0) ∧ tm 5 = (.bool y1)) (fun k1 => ?_) ?_
  ·refine c_gen (P := fun tm => tm 2 = (pV b1 0) ∧ tm 3 = (pV b2 0) ∧ tm 4 = (pV b3 0) ∧ True) ⟨rfl, rfl, rfl, trivial⟩ ?_
   intro _ i2
   obtain ⟨h3, h4, h5, -⟩ := i2
   refine d_start s5 fun n1 H6 s7 q3 d3 => ?_
   refine d_fad h4 ?_
   refine d_ldB (q3 _ _ (ph_some.2 ⟨s7.curB 1 rfl, by simp⟩)) 1 s7 rfl rfl rfl rfl ?_
   refine d_bld (qs := [(0, 1, (.bool true)), (1, 1, (vi a1.Term))]) rfl rfl ?_
   refine d_fad h4 ?_
   refine d_ldB (q3 _ _ (ph_some.2 ⟨s7.curB 1 rfl, by simp⟩)) 1 s7 rfl rfl rfl rfl ?_
   refine d_geq rfl rfl ?_
   refine d_mv (v := (.bool (decide (0 ≤ a1.Term)))) rfl ?_
   rcases Bool.eq_false_or_eq_true (decide (0 ≤ a1.Term)) with q4 | q4
   ·replace e1 := if_t q4 e1
    refine d_want rfl q4 ?_
    refine d_fad h4 ?_
    refine d_want rfl q4 ?_
    refine d_ldB (q3 _ _ (ph_some.2 ⟨s7.curB 1 rfl, by simp⟩)) 1 s7 rfl rfl rfl rfl ?_
    refine d_want rfl q4 ?_
    refine d_fad h3 ?_
    refine d_want rfl q4 ?_
    refine d_ldB (q3 _ _ (ph_some.2 ⟨s7.curB 2 rfl, by simp⟩)) 2 s7 rfl rfl rfl rfl ?_
    refine d_want rfl q4 ?_
    refine d_lss rfl rfl ?_
    refine d_pickt (a := (.bool (decide (a1.Term < a0.Terms)))) rfl q4 rfl ?_
    refine d_mv (v := (.bool (decide (a1.Term < a0.Terms)))) rfl ?_
    rcases Bool.eq_false_or_eq_true (decide (a1.Term < a0.Terms)) with q5 | q5
    ·replace e1 := if_t q5 e1
     refine d_want rfl q5 ?_
     refine d_fad h4 ?_
     refine d_want rfl q5 ?_
     refine d_ldB (q3 _ _ (ph_some.2 ⟨s7.curB 1 rfl, by simp⟩)) 1 s7 rfl rfl rfl rfl ?_
     refine d_want rfl q5 ?_
     refine d_len rfl ((hp2.mono g1.v)).len ?_
     refine d_want rfl q5 ?_
     refine d_eql rfl rfl ?_
     refine d_pickt (a := (.bool (decide ((a1.Kids.length : Int) = 0)))) rfl q5 rfl ?_
     refine d_stB (us' := [(.bool true), vi a1.Term]) 0 s7 rfl h5 rfl rfl rfl rfl rfl fun H7 s8 k2 => ?_
     have d4 := d3.keep k2
     refine d_mv (v := (.bool (decide ((a1.Kids.length : Int) = 0)))) rfl ?_
     refine d_nil (dc_mk rfl (ta4 (ta2 (tre (tl8 (tl4 (tl2 (trl tr0))))))) (ta2 (tre (tl16 (tl2 (trl tr0))))) (tra (tre (tl16 (tl4 tr0)))) (ag_ldx (w := (vS d2 a1.Kids)) (w_y rfl q5) rfl (ldB_v 1 s7 rfl rfl rfl) (ldB_v 1 s7 rfl rfl rfl) (by simp [vsame, vsame1])) (ag_ldx (w := (vS d2 a1.Kids)) (w_y rfl q5) rfl (ldB_v 1 s7 rfl rfl rfl) (ldB_v 1 s8 rfl rfl rfl) (by simp [vsame, vsame1])) dc_nil) ?_
     obtain rfl := oJ e1
     exact k1 _ _ ⟨_, _, Gw.refl _ _, (s8.pick [0] rfl), h5, rfl⟩
    replace e1 := ib_f q5 e1
    refine d_gn rfl q5 ?_
    refine d_gn rfl q5 ?_
    refine d_gn rfl q5 ?_
    refine d_gn rfl q5 ?_
    refine d_pickf (b := (.bool false)) rfl q5 rfl ?_
    refine d_stB (us' := [(.bool true), vi a1.Term]) 0 s7 rfl h5 rfl rfl rfl rfl rfl fun H8 s9 k3 => ?_
    have d5 := d3.keep k3
    refine d_mv (v := (.bool false)) rfl ?_
    refine d_nil (dc_mk rfl (ta4 (ta2 (tre (tl8 (tl4 (tl2 (trl tr0))))))) (ta2 (tre (tl16 (tl2 (trl tr0))))) (tra (tre (tl16 (tl4 tr0)))) (ag_no (w_n rfl q5)) (ag_no (w_n rfl q5)) dc_nil) ?_
    obtain rfl := oJ e1
    exact k1 _ _ ⟨_, _, Gw.refl _ _, (s9.pick [0] rfl), h5, rfl⟩
   replace e1 := ib_f q4 e1
   refine d_gn rfl q4 ?_
   refine d_gn rfl q4 ?_
   refine d_gn rfl q4 ?_
   refine d_gn rfl q4 ?_
   refine d_gn rfl q4 ?_
   refine d_pickf (b := (.bool false)) rfl q4 rfl ?_
   refine d_mv (v := (.bool false)) rfl ?_
   refine d_gn rfl rfl ?_
   refine d_gn rfl rfl ?_
   refine d_gn rfl rfl ?_
   refine d_gn rfl rfl ?_
   refine d_pickf (b := (.bool false)) rfl rfl rfl ?_
   refine d_stB (us' := [(.bool true), vi a1.Term]) 0 s7 rfl h5 rfl rfl rfl rfl rfl fun H9 s10 k4 => ?_
   have d6 := d3.keep k4
   refine d_mv (v := (.bool false)) rfl ?_
   refine d_nil (dc_mk rfl (ta4 (ta2 (tre (tl8 (tl4 (tl2 (trl tr0))))))) (ta2 (tre (tl16 (tl2 (trl tr0))))) (tra (tre (tl16 (tl4 tr0)))) (ag_no (w_n rfl rfl)) (ag_no (w_n rfl rfl)) dc_nil) ?_
   obtain rfl := oJ e1
   exact k1 _ _ ⟨_, _, Gw.refl _ _, (s10.pick [0] rfl), h5, rfl⟩
  intro _ H5 i3
  obtain ⟨Z2, V2, g2, s6, h1, h2⟩ := i3
  refine c_rt ?_
  obtain rfl := oJ e
  exact ⟨.inr rfl, _, (ra2 (rac 0 s6 rfl h1 rfl rfl) (rat h2)), rfl, ((s6.pick [] rfl).weak (g1.trans g2) hs.zv)⟩
 replace e := ib_f q2 e
 refine c_sk (c_sq (c_sr (o_fad rfl (o_ldB 1 s5 rfl rfl rfl rfl ?_))))
 refine o_lss rfl rfl ?_
 refine o_mv (v := (.bool (decide (a1.Rule < 0)))) rfl ?_
 refine o_jn 7 (I := fun tm H => tm 37 = .bool ((decide (a1.Rule < 0)) || (decide ((a0.Rules.length : Int) ≤ a1.Rule))) ∧ (∃ (Z3 V3 : PH), Gw Z1 V1 Z3 V3 ∧ Sat Z3 V3 H [pts b1 (.rw 0 [vi a0.Terms, vi a0.Nons, vi a0.Start, (vS d1 a0.Rules)]), pts b2 (.rw 0 [vi a1.Rule, vi a1.Term, (vS d2 a1.Kids)]), pts b3 (.rw 0 [(.bool false), vi 0])] ∧ tm 2 = (pV b1 0) ∧ tm 3 = (pV b2 0) ∧ tm 4 = (pV b3 0))) (fun k5 => ?_) ?_
 ·rcases Bool.eq_false_or_eq_true (decide (a1.Rule < 0)) with q6 | q6
  ·refine o_gn rfl q6 (o_gn rfl q6 (o_gn rfl q6 (o_gn rfl q6 (o_gn rfl q6 ?_))))
   refine o_gn rfl q6 ?_
   refine o_pickt (a := (.bool true)) rfl q6 rfl ?_
   exact k5 _ _ ⟨gf rfl (by first | (rw [q6]; first | done | rfl) | simp [q6]), _, _, Gw.refl _ _, (s5.pick [2, 1, 0] rfl), rfl, rfl, rfl⟩
  refine o_gy rfl q6 (o_fad rfl (o_gy rfl q6 (o_ldB 1 s5 rfl rfl rfl rfl (o_gy rfl q6 ?_))))
  refine o_fad rfl (o_gy rfl q6 (o_ldB 2 s5 rfl rfl rfl rfl (o_gy rfl q6 (o_len rfl ((hp1.mono g1.v)).len ?_))))
  refine o_gy rfl q6 (o_geq rfl rfl ?_)
  refine o_pickf (b := (.bool (decide ((a0.Rules.length : Int) ≤ a1.Rule)))) rfl q6 rfl ?_
  exact k5 _ _ ⟨gf rfl (by first | (rw [q6]; first | done | rfl) | simp [q6]), _, _, Gw.refl _ _, (s5.pick [2, 1, 0] rfl), rfl, rfl, rfl⟩
 intro _ H10 i4
 obtain ⟨h9, Z3, V3, g3, s11, h6, h7, h8⟩ := i4
 refine c_nil ?_
 refine c_if h9 (fun q7 => ?_) (fun q7 => ?_)
 ·replace e := if_t q7 e
  refine c_sr ?_
  refine o_bld (qs := []) rfl rfl ?_
  refine o_stB (us' := [(.bool false), vi 0]) 2 s11 rfl h8 rfl rfl rfl rfl rfl fun H11 s12 => ?_
  refine o_mv (v := (.bool false)) rfl ?_
  refine c_nil (c_rt ?_)
  obtain rfl := oJ e
  exact ⟨.inr rfl, _, (ra2 (rac 2 s12 rfl h8 rfl rfl) (rat rfl)), rfl, ((s12.pick [] rfl).weak (g1.trans g3) hs.zv)⟩
 replace e := ib_f q7 e
 refine c_sk (c_sq ?_)
 refine d_start s11 fun n2 H12 s13 q8 d7 => ?_
 refine d_fad h6 ?_
 refine d_ldB (q8 _ _ (ph_some.2 ⟨s13.curB 0 rfl, by simp⟩)) 0 s13 rfl rfl rfl rfl ?_
 refine d_fad h7 ?_
 refine d_ldB (q8 _ _ (ph_some.2 ⟨s13.curB 1 rfl, by simp⟩)) 1 s13 rfl rfl rfl rfl ?_
 obtain ⟨x2, q9, e⟩ := oB e
 refine d_idx (v := (vS d1 a0.Rules)) rfl rfl (hp1.mono (g1.trans g3).v) rfl q9 fun p1 q10 => ?_
 refine d_fadE rfl q10 fun p2 q11 => ?_
 refine d_ldF (RdS.low (hp1.mono (g1.trans g3).v) s13.v q8) rfl (hp1.mono (g1.trans g3).v) s13.v rfl q10 q11 q9 rfl fun c5 h10 => ?_
 obtain ⟨w1, rfl, h11⟩ := Sh.api_Rule_op h10
 refine ⟨_, rfl, ?_⟩
 refine d_bld (qs := [(1, 1, (vi x2.Left))]) rfl rfl ?_
 refine d_fad h7 ?_
 refine d_ldB (q8 _ _ (ph_some.2 ⟨s13.curB 1 rfl, by simp⟩)) 1 s13 rfl rfl rfl rfl ?_
 refine d_eql rfl rfl ?_
 refine d_stB (us' := [(.bool false), vi x2.Left]) 2 s13 rfl h8 rfl rfl rfl rfl rfl fun H13 s14 k6 => ?_
 have d8 := d7.keep k6
 refine d_mv (v := (.bool (decide (a1.Term = 0)))) rfl ?_
 refine d_nil (dc_mk rfl (ta4 (tre (tl8 (trl tr0)))) (ta2 (tre (tl8 (tl2 (trl tr0))))) (tra (tre (tl8 (tl4 tr0)))) (ag_ldx (w := (vi a1.Term)) w_0 rfl (ldB_v 1 s13 rfl rfl rfl) (ldB_v 1 s13 rfl rfl rfl) (by simp [vsame, vsame1])) (ag_ldx (w := (vi a1.Term)) w_0 rfl (ldB_v 1 s13 rfl rfl rfl) (ldB_v 1 s14 rfl rfl rfl) (by simp [vsame, vsame1])) dc_nil) ?_
 refine c_gen (P := fun tm => tm 4 = (pV b3 0) ∧ tm 5 = (.bool (decide (a1.Term = 0))) ∧ True) ⟨h8, rfl, trivial⟩ ?_
 intro _ i5
 obtain ⟨h12, h13, -⟩ := i5
 refine c_rt ?_
 obtain rfl := oJ e
 exact ⟨.inr rfl, _, (ra2 (rac 2 s14 rfl h12 rfl rfl) (rat h13)), rfl, ((s14.pick [] rfl).weak (g1.trans g3) hs.zv)⟩
structure Nd.tree_valid (T : FuncId → Option AFunc) : Prop where
 own_tree_valid : Has T I.tree_valid F.tree_valid
 tree_symbol : Nd.tree_symbol T
 tree_leaf : Nd.tree_leaf T
set_option maxHeartbeats 1000000 in
theorem X.tree_valid_rec {T : FuncId → Option AFunc} (nd : Nd.tree_valid T) : ∀ φ : Nat, (∀ {Z V : PH} {H : Hp} {v1 : Value} {v2 : Value} {a0 : Ty.api_Grammar} {a1 : Ty.api_Tree} (hs : Sat Z V H []) (hp1 : RdS Sh.api_Rule V v1 a0.Rules) (hp2 : RdS Sh.api_Tree V v2 a1.Kids) {r : Bool} (e : P.tree_valid φ a0 a1 = some r), G T I.tree_valid [(.agg #[vi a0.Terms, vi a0.Nons, vi a0.Start, v1]), (.agg #[vi a1.Rule, vi a1.Term, v2])] H (fun rv H' => rv = (.bool r) ∧ Sat Z V H' [])) := by
 intro φ
 induction φ with
 | zero =>
   intro Z V H v1 v2 a0 a1 hs hp1 hp2 r e
   rw [P.tree_valid] at e; cases e
 | succ φ ih =>
   intro Z V H v1 v2 a0 a1 hs hp1 hp2 r e
   rw [P.tree_valid] at e
   refine f_mk nd.own_tree_valid ?_
   refine c_sr ?_
   obtain ⟨d1, rfl⟩ := (hp1).val
   refine o_box hs rfl rfl fun b1 H1 s1 => ?_
   obtain ⟨d2, rfl⟩ := (hp2).val
   refine o_box s1 rfl rfl fun b2 H2 s2 => ?_
   refine o_mv (v := (.bool false)) rfl ?_
   refine c_nil (c_sq (c_sr (o_ldB 1 s2 rfl rfl rfl rfl (o_ldB 0 s2 rfl rfl rfl rfl ?_))))
   obtain ⟨x1, q1, e⟩ := oB e
   obtain ⟨Z1, V1, W1, g1, u1, c1, c2, -, c4, c3⟩ := Sat.call (l1 := []) s2
   refine o_call (mc rfl (mc rfl m0)) (X.tree_symbol nd.tree_symbol c1 (hp1.mono (g1.v.trans u1)) (hp2.mono (g1.v.trans u1)) q1) fun _ H3 i1 => ?_
   obtain ⟨rfl, s3⟩ := i1
   have s4 := c3 _ _ s3
   refine o_mv (v := (.tuple #[(.agg #[(.bool x1.1.Term), vi x1.1.N]), (.bool x1.2)])) rfl ?_
   refine o_ext rfl rfl (o_ext rfl rfl ?_)
   refine o_new s4 fun b3 H4 s5 => ?_
   refine o_stB (us' := [(.bool x1.1.Term), vi x1.1.N]) 0 s5 rfl rfl rfl rfl rfl rfl rfl fun H5 s6 => ?_
   refine o_mv (v := (.bool x1.2)) rfl ?_
   refine c_nil ?_
   refine c_gen (P := fun tm => tm 2 = (pV b1 0) ∧ tm 3 = (pV b2 0) ∧ tm 6 = (.bool x1.2) ∧ True) ⟨rfl, rfl, rfl, trivial⟩ ?_
   intro _ i2
   obtain ⟨h1, h2, h3, -⟩ := i2
   refine c_sr (o_mv h3 (o_not rfl ?_))
   refine o_mv (v := (.bool (!x1.2))) rfl ?_
   obtain ⟨y1, e1, e⟩ := oB e
   refine o_jn 3 (I := fun tm H => ∃ (Z2 V2 : PH), Gw Z1 V1 Z2 V2 ∧ Sat Z2 V2 H [pts b1 (.rw 0 [vi a0.Terms, vi a0.Nons, vi a0.Start, (vS d1 a0.Rules)]), pts b2 (.rw 0 [vi a1.Rule, vi a1.Term, (vS d2 a1.Kids)])] ∧ tm 2 = (pV b1 0) ∧ tm 3 = (pV b2 0) ∧ tm 6 = (.bool x1.2) ∧ tm 23 = (.bool y1)) (fun k1 => ?_) ?_
   ·rcases Bool.eq_false_or_eq_true (!x1.2) with q2 | q2
    ·replace e1 := if_t q2 e1
     refine o_gn rfl q2 (o_gn rfl q2 ?_)
     refine o_pickt (a := (.bool true)) rfl q2 rfl ?_
     obtain rfl := oJ e1
     exact k1 _ _ ⟨_, _, Gw.refl _ _, (s6.pick [2, 1] rfl), h1, h2, h3, rfl⟩
    replace e1 := ib_f q2 e1
    refine o_gy rfl q2 (o_ldB 1 s6 rfl h2 rfl rfl (o_gy rfl q2 ?_))
    obtain ⟨x2, q3, e1⟩ := oB e1
    obtain ⟨Z3, V3, W2, g3, u2, c5, c6, -, c8, c7⟩ := Sat.call (l1 := []) s6
    refine o_call (mc rfl m0) (X.tree_leaf nd.tree_leaf c5 (hp2.mono ((g1.trans g3).v.trans u2)) q3) fun _ H7 i3 => ?_
    obtain ⟨rfl, s8⟩ := i3
    have s9 := c7 _ _ s8
    refine o_pickf (b := (.bool x2)) rfl q2 rfl ?_
    obtain rfl := oJ e1
    exact k1 _ _ ⟨_, _, g3, (s9.pick [2, 1] rfl), h1, h2, h3, rfl⟩
   intro _ H6 i4
   obtain ⟨Z2, V2, g2, s7, h4, h5, h6, h7⟩ := i4
   refine c_nil ?_
   refine c_if h7 (fun q4 => ?_) (fun q4 => ?_)
   ·replace e := if_t q4 e
    refine c_sr (o_mv h6 ?_)
    refine o_mv (v := (.bool x1.2)) rfl ?_
    refine c_nil (c_rt ?_)
    obtain rfl := oJ e
    exact ⟨.inr rfl, _, (ar1 rfl), rfl, ((s7.pick [] rfl).weak (g1.trans g2) hs.zv)⟩
   replace e := ib_f q4 e
   refine c_sk (c_sr (o_fad h4 (o_ldB 0 s7 rfl rfl rfl rfl (o_fad h5 ?_))))
   refine o_ldB 1 s7 rfl rfl rfl rfl ?_
   obtain ⟨x3, q5, e⟩ := oB e
   refine o_idx (v := (vS d1 a0.Rules)) rfl rfl (hp1.mono (g1.trans g2).v) rfl q5 fun p1 q6 => ?_
   refine o_fadE rfl q6 fun p2 q7 => ?_
   refine o_ldF rfl (hp1.mono (g1.trans g2).v) s7.v rfl q6 q7 q5 rfl fun c9 h8 => ?_
   obtain ⟨w1, rfl, h9⟩ := Sh.api_Rule_op h8
   refine ⟨_, rfl, ?_⟩
   refine o_mv (v := w1) rfl ?_
   refine c_nil (c_sq (c_sr (o_fad h5 (o_ldB 1 s7 rfl rfl rfl rfl ?_))))
   refine o_len rfl ((hp2.mono (g1.trans g2).v)).len ?_
   refine o_mv (v := w1) rfl ?_
   refine o_len rfl (h9).len (o_neq rfl rfl (c_nil ?_))
   refine c_gen (P := fun tm => tm 2 = (pV b1 0) ∧ tm 3 = (pV b2 0) ∧ tm 7 = w1 ∧ tm 37 = (.bool (decide ((a1.Kids.length : Int) ≠ (x3.Right.length : Int)))) ∧ True) ⟨h4, h5, rfl, rfl, trivial⟩ ?_
   intro _ i5
   obtain ⟨h10, h11, h12, h13, -⟩ := i5
   refine c_ifd h13 (fun q8 => ?_) (fun q8 => ?_)
   ·replace e := if_t q8 e
    refine c_sr ?_
    refine o_mv (v := (.bool false)) rfl ?_
    refine c_nil (c_rt ?_)
    obtain rfl := oJ e
    exact ⟨.inr rfl, _, (ar1 rfl), rfl, ((s7.pick [] rfl).weak (g1.trans g2) hs.zv)⟩
   replace e := if_f q8 e
   refine c_sk (c_sq (c_sr (o_fad h11 (o_ldB 1 s7 rfl rfl rfl rfl ?_))))
   refine o_len rfl ((hp2.mono (g1.trans g2).v)).len ?_
   refine o_mv (v := (vi 0)) rfl ?_
   refine c_nil ?_
   obtain ⟨y2, q11, e⟩ := oB e
   refine c_jn (I := fun tm H => ∃ (s12 : Unit), y2 = .out s12 ∧ (∃ (Z5 V5 : PH), Gw Z2 V2 Z5 V5 ∧ Sat Z5 V5 H [pts b1 (.rw 0 [vi a0.Terms, vi a0.Nons, vi a0.Start, (vS d1 a0.Rules)])] ∧ tm 2 = (pV b1 0) ∧ tm 7 = w1 ∧ tm 39 = (vS d2 a1.Kids) ∧ tm 40 = (vN a1.Kids))) (fun k5 => ?_) ?_
   ·refine c_bk ?_
    refine l_forL (xs := a1.Kids) (fun (i6 : Nat) (s10 : Unit) tm H => tm 41 = vi i6 ∧ ∃ (Z4 V4 : PH), Gw Z2 V2 Z4 V4 ∧ Sat Z4 V4 H [pts b1 (.rw 0 [vi a0.Terms, vi a0.Nons, vi a0.Start, (vS d1 a0.Rules)])] ∧ tm 2 = (pV b1 0) ∧ tm 7 = w1 ∧ tm 39 = (vS d2 a1.Kids) ∧ tm 40 = (vN a1.Kids)) (fun i6 x4 s10 y3 tm H9 q9 q10 j1 e2 k2 k3 k4 => ?_) (fun s10 tm H8 jf jd => ?_) q11 ⟨rfl, _, _, Gw.refl _ _, (s7.pick [0] rfl), h10, h12, rfl, rfl⟩
    ·obtain ⟨hti0, Z4, V4, g4, s11, h14, h15, h16, h17⟩ := j1
     unfold P.tree_valid.b0 at e2
     refine c_sr (o_lss hti0 h17 (c_nil (c_sq ?_)))
     refine c_ift rfl (Int.ofNat_lt.2 q10) ?_
     refine c_sk (c_sq (c_bk (c_sr (o_mv hti0 ?_))))
     refine o_idx (v := (vS d2 a1.Kids)) h16 hti0 (hp2.mono (g1.trans (g2.trans g4)).v) rfl (Pu.ix_nat.trans q9) fun p3 q12 => ?_
     refine o_lda rfl (hp2.mono (g1.trans (g2.trans g4)).v) s11.v rfl q12 (Pu.ix_nat.trans q9) fun c10 h22 => ?_
     obtain ⟨w2, rfl, h23⟩ := Sh.api_Tree_op h22
     refine o_new s11 fun b4 H11 s14 => ?_
     refine o_mv (v := (vJ i6)) rfl ?_
     obtain ⟨d3, rfl⟩ := (h23).val
     refine o_stB (us' := [vi x4.Rule, vi x4.Term, (vS d3 x4.Kids)]) 0 s14 rfl rfl rfl rfl rfl rfl rfl fun H12 s15 => ?_
     refine c_nil (c_sr (o_ldB 1 s15 rfl h14 rfl rfl (o_ldB 0 s15 rfl rfl rfl rfl ?_)))
     obtain ⟨x5, q13, e2⟩ := oB e2
     obtain ⟨Z6, V6, W3, g6, u3, c11, c12, -, c14, c13⟩ := Sat.call (l1 := []) s15
     refine o_call (mc rfl (mc rfl m0)) (X.tree_symbol nd.tree_symbol c11 (hp1.mono (((g1.trans (g2.trans g4)).trans g6).v.trans u3)) (h23.mono (g6.v.trans u3)) q13) fun _ H13 i7 => ?_
     obtain ⟨rfl, s16⟩ := i7
     have s17 := c13 _ _ s16
     refine o_mv (v := (.tuple #[(.agg #[(.bool x5.1.Term), vi x5.1.N]), (.bool x5.2)])) rfl ?_
     refine o_ext rfl rfl (o_ext rfl rfl ?_)
     refine o_new s17 fun b5 H14 s18 => ?_
     refine o_stB (us' := [(.bool x5.1.Term), vi x5.1.N]) 0 s18 rfl rfl rfl rfl rfl rfl rfl fun H15 s19 => ?_
     refine o_mv (v := (.bool x5.2)) rfl ?_
     refine c_nil ?_
     refine c_gen (P := fun tm => tm 2 = (pV b1 0) ∧ tm 7 = w1 ∧ tm 8 = (vJ i6) ∧ tm 9 = (pV b4 0) ∧ tm 10 = (pV b5 0) ∧ tm 11 = (.bool x5.2) ∧ tm 39 = (vS d2 a1.Kids) ∧ tm 40 = (vN a1.Kids) ∧ tm 41 = (vJ i6) ∧ True) ⟨h14, h15, rfl, rfl, rfl, rfl, h16, h17, hti0, trivial⟩ ?_
     intro _ i8
     obtain ⟨h24, h25, h26, h27, h28, h29, h30, h31, h32, -⟩ := i8
     refine c_sq ?_
     refine d_start s19 fun n1 H16 s20 q14 d4 => ?_
     refine d_mv h29 ?_
     refine d_not rfl ?_
     refine d_mv (v := (.bool (!x5.2))) rfl ?_
     obtain ⟨y4, e3, e2⟩ := oB e2
     refine d_jn 7 (I := fun tm H => DD n1 10 (List.length F.tree_valid.r11) H ∧ (∃ (Z7 V7 : PH), Gw Z6 V6 Z7 V7 ∧ Sat Z7 V7 H [pts b1 (.rw 0 [vi a0.Terms, vi a0.Nons, vi a0.Start, (vS d1 a0.Rules)]), pts b4 (.rw 0 [vi x4.Rule, vi x4.Term, (vS d3 x4.Kids)])] ∧ tm 2 = (pV b1 0) ∧ tm 7 = w1 ∧ tm 9 = (pV b4 0) ∧ tm 39 = (vS d2 a1.Kids) ∧ tm 40 = (vN a1.Kids) ∧ tm 41 = (vJ i6) ∧ tm 61 = (.bool y4))) (fun k6 => ?_) ?_
     ·rcases Bool.eq_false_or_eq_true (!x5.2) with q15 | q15
      ·replace e3 := if_t q15 e3
       refine d_gn rfl q15 ?_
       refine d_gn rfl q15 ?_
       refine d_gn rfl q15 ?_
       refine d_gn rfl q15 ?_
       refine d_gn rfl q15 ?_
       refine d_gn rfl q15 ?_
       refine d_pickt (a := (.bool true)) rfl q15 rfl ?_
       obtain rfl := oJ e3
       exact k6 _ _ _ ⟨d4.up rfl, _, _, Gw.refl _ _, (s20.pick [2, 1] rfl), h24, h25, h27, h30, h31, h32, rfl⟩
      replace e3 := ib_f q15 e3
      refine d_want rfl q15 ?_
      refine d_ldB (q14 _ _ (ph_some.2 ⟨s20.curB 0 rfl, by simp⟩)) 0 s20 rfl h28 rfl rfl ?_
      refine d_want rfl q15 ?_
      refine d_mv h25 ?_
      refine d_want rfl q15 ?_
      refine d_mv h26 ?_
      refine d_want rfl q15 ?_
      obtain ⟨x6, q16, e3⟩ := oB e3
      refine d_idx (v := w1) rfl rfl (h9.mono (g4.trans g6).v) rfl q16 fun p4 q17 => ?_
      refine d_want rfl q15 ?_
      refine d_lda (RdS.low (h9.mono (g4.trans g6).v) s20.v q14) rfl h9 ((g4.trans g6).v.trans s20.v) rfl q17 q16 fun c15 h40 => ?_
      obtain rfl := h40
      refine d_want rfl q15 ?_
      refine d_eq (q_napi_Sym ..) rfl rfl ?_
      refine d_pickf (b := (.bool (!((x5.1.Term == x6.Term) && (x5.1.N == x6.N))))) rfl q15 rfl ?_
      obtain rfl := oJ e3
      exact k6 _ _ _ ⟨d4.up rfl, _, _, Gw.refl _ _, (s20.pick [2, 1] rfl), h24, h25, h27, h30, h31, h32, rfl⟩
     intro _ H17 _ i9
     obtain ⟨d5, Z7, V7, g7, s21, h33, h34, h35, h36, h37, h38, h39⟩ := i9
     refine d_mv h39 ?_
     obtain ⟨y5, e4, e2⟩ := oB e2
     refine d_jn 5 (I := fun tm H => DD n1 16 (List.length F.tree_valid.r11) H ∧ (∃ (Z8 V8 : PH), Gw Z7 V7 Z8 V8 ∧ Sat Z8 V8 H [pts b1 (.rw 0 [vi a0.Terms, vi a0.Nons, vi a0.Start, (vS d1 a0.Rules)])] ∧ tm 2 = (pV b1 0) ∧ tm 7 = w1 ∧ tm 39 = (vS d2 a1.Kids) ∧ tm 40 = (vN a1.Kids) ∧ tm 41 = (vJ i6) ∧ tm 67 = (.bool y5))) (fun k7 => ?_) ?_
     ·rcases Bool.eq_false_or_eq_true y4 with q18 | q18
      ·replace e4 := if_t q18 e4
       refine d_gn rfl q18 ?_
       refine d_gn rfl q18 ?_
       refine d_gn rfl q18 ?_
       refine d_gn rfl q18 ?_
       refine d_pickt (a := (.bool true)) rfl q18 rfl ?_
       obtain rfl := oJ e4
       exact k7 _ _ _ ⟨d5.up rfl, _, _, Gw.refl _ _, (s21.pick [0] rfl), h33, h34, h36, h37, h38, rfl⟩
      replace e4 := ib_f q18 e4
      refine d_want rfl q18 ?_
      refine d_ldB (q14 _ _ (ph_some.2 ⟨s20.curB 2 rfl, by simp⟩)) 0 s21 rfl h33 rfl rfl ?_
      refine d_want rfl q18 ?_
      refine d_ldB (q14 _ _ (ph_some.2 ⟨s20.curB 1 rfl, by simp⟩)) 1 s21 rfl h35 rfl rfl ?_
      refine d_want rfl q18 ?_
      obtain ⟨x7, q19, e4⟩ := oB e4
      obtain ⟨Z9, V9, W4, g9, u4, c16, c17, -, c19, c18⟩ := Sat.call (l1 := []) s21
      refine d_call (mc rfl (mc rfl m0)) (ih c16 (hp1.mono (((g1.trans (g2.trans (g4.trans (g6.trans g7)))).trans g9).v.trans u4)) (h23.mono (((g6.trans g7).trans g9).v.trans u4)) q19) fun _ H19 i10 k8 => ?_
      have d6 := d5.keep k8
      obtain ⟨rfl, s23⟩ := i10
      have s24 := c18 _ _ s23
      refine d_want rfl q18 ?_
      refine d_not rfl ?_
      refine d_pickf (b := (.bool (!x7))) rfl q18 rfl ?_
      obtain rfl := oJ e4
      exact k7 _ _ _ ⟨d6.up rfl, _, _, g9, (s24.pick [0] rfl), h33, h34, h36, h37, h38, rfl⟩
     intro _ H18 _ i11
     obtain ⟨d7, Z8, V8, g8, s22, h41, h42, h43, h44, h45, h46⟩ := i11
     refine d_nil dc_nil ?_
     refine c_if h46 (fun q20 => ?_) (fun q20 => ?_)
     ·replace e2 := if_t q20 e2
      refine c_sr ?_
      refine o_mv (v := (.bool false)) rfl ?_
      refine c_nil (c_rt ?_)
      have e5 := fin_r (k4 _ (sJ e2)) e
      obtain rfl := oJ e5
      exact ⟨.inr rfl, _, (ar1 rfl), rfl, ((s22.pick [] rfl).weak (g1.trans (g2.trans (g4.trans (g6.trans (g7.trans g8))))) hs.zv)⟩
     replace e2 := ib_f q20 e2
     refine c_sk (c_end (c_r (o_add h45 rfl ?_)))
     refine o_mv (v := (vi (Pu.W ((i6 : Int) + 1)))) rfl ?_
     refine c_nil ?_
     exact k2 _ _ _ (sJ e2) ⟨(iv rfl (w_suc q10 ((hp2.mono (g1.trans g2).v)).bd)), _, _, (g4.trans (g6.trans (g7.trans g8))), s22, h41, h42, h43, h44⟩
    ·obtain ⟨hte0, Z10, V10, g10, s25, h47, h48, h49, h50⟩ := jd
     refine c_sr (o_lss hte0 h50 (c_nil (c_sq ?_)))
     refine c_iff rfl (Int.lt_irrefl _) ?_
     refine c_ex ?_
     refine e_c ?_
     refine e_c ?_
     refine e_h ?_
     exact k5 _ _ ⟨_, jf, _, _, g10, s25, h47, h48, h49, h50⟩
   intro _ H10 i12
   obtain ⟨s12, f1, Z5, V5, g5, s13, h18, h19, h20, h21⟩ := i12
   replace e := fin_o f1 e
   refine c_sr ?_
   refine o_mv (v := (.bool true)) rfl ?_
   refine c_nil (c_rt ?_)
   obtain rfl := oJ e
   exact ⟨.inr rfl, _, (ar1 rfl), rfl, ((s13.pick [] rfl).weak (g1.trans (g2.trans g5)) hs.zv)⟩
theorem X.tree_valid {T : FuncId → Option AFunc} (nd : Nd.tree_valid T) {φ : Nat} {Z V : PH} {H : Hp} {v1 : Value} {v2 : Value} {a0 : Ty.api_Grammar} {a1 : Ty.api_Tree} (hs : Sat Z V H []) (hp1 : RdS Sh.api_Rule V v1 a0.Rules) (hp2 : RdS Sh.api_Tree V v2 a1.Kids) {r : Bool} (e : P.tree_valid φ a0 a1 = some r) :
 G T I.tree_valid [(.agg #[vi a0.Terms, vi a0.Nons, vi a0.Start, v1]), (.agg #[vi a1.Rule, vi a1.Term, v2])] H (fun rv H' => rv = (.bool r) ∧ Sat Z V H' []) := (X.tree_valid_rec nd φ) hs hp1 hp2 e
structure Nd.tree_Check (T : FuncId → Option AFunc) : Prop where
 own : Has T I.tree_Check F.tree_Check
 gram_Check : Nd.gram_Check T
 tree_Size : Nd.tree_Size T
 tree_valid : Nd.tree_valid T
set_option maxHeartbeats 1000000 in
theorem X.tree_Check {T : FuncId → Option AFunc} (nd : Nd.tree_Check T) {φ : Nat} {Z V : PH} {H : Hp} {v1 : Value} {v2 : Value} {a0 : Ty.api_Grammar} {a1 : Ty.api_Tree} (hs : Sat Z V H []) (hp1 : RdS Sh.api_Rule V v1 a0.Rules) (hp2 : RdS Sh.api_Tree V v2 a1.Kids) {r : Int} (e : P.tree_Check φ a0 a1 = some r) :
 G T I.tree_Check [(.agg #[vi a0.Terms, vi a0.Nons, vi a0.Start, v1]), (.agg #[vi a1.Rule, vi a1.Term, v2])] H (fun rv H' => rv = (vi r) ∧ Sat Z V H' []) := by
 unfold P.tree_Check at e
 refine f_mk nd.own ?_
 refine c_sr ?_
 obtain ⟨d1, rfl⟩ := (hp1).val
 refine o_box hs rfl rfl fun b1 H1 s1 => ?_
 obtain ⟨d2, rfl⟩ := (hp2).val
 refine o_box s1 rfl rfl fun b2 H2 s2 => ?_
 refine o_mv (v := (vi 0)) rfl ?_
 refine c_nil (c_sq (c_sr (o_ldB 1 s2 rfl rfl rfl rfl ?_)))
 obtain ⟨x1, q1, e⟩ := oB e
 obtain ⟨Z1, V1, W1, g1, u1, c1, c2, -, c4, c3⟩ := Sat.call (l1 := []) s2
 refine o_call (mc rfl m0) (X.gram_Check nd.gram_Check c1 (hp1.mono (g1.v.trans u1)) q1) fun _ H3 i1 => ?_
 obtain ⟨rfl, s3⟩ := i1
 have s4 := c3 _ _ s3
 refine o_mv (v := (vi x1)) rfl ?_
 refine c_nil (c_sr ?_)
 refine o_mv (v := (vi x1)) rfl ?_
 refine o_neq rfl rfl (c_nil ?_)
 refine c_ifd rfl (fun q2 => ?_) (fun q2 => ?_)
 ·replace e := if_t q2 e
  refine c_sr ?_
  refine o_mv (v := (vi x1)) rfl ?_
  refine o_mv (v := (vi x1)) rfl ?_
  refine c_nil ?_
  refine c_gen (P := fun tm => tm 4 = (vi x1) ∧ True) ⟨rfl, trivial⟩ ?_
  intro _ i2
  obtain ⟨h1, -⟩ := i2
  refine c_rt ?_
  obtain rfl := oJ e
  exact ⟨.inr rfl, _, (ar1 h1), rfl, ((s4.pick [] rfl).weak g1 hs.zv)⟩
 replace e := if_f q2 e
 refine c_sk (c_sq (c_sr (o_ldB 0 s4 rfl rfl rfl rfl ?_)))
 obtain ⟨x2, q3, e⟩ := oB e
 obtain ⟨Z2, V2, W2, g2, u2, c5, c6, -, c8, c7⟩ := Sat.call (l1 := []) s4
 refine o_call (mc rfl m0) (X.tree_Size nd.tree_Size c5 (hp2.mono ((g1.trans g2).v.trans u2)) q3) fun _ H4 i3 => ?_
 obtain ⟨rfl, s5⟩ := i3
 have s6 := c7 _ _ s5
 refine o_gtr rfl rfl (c_nil ?_)
 refine c_gen (P := fun tm => tm 2 = (pV b1 0) ∧ tm 3 = (pV b2 0) ∧ tm 13 = (.bool (decide (5000 < x2))) ∧ True) ⟨rfl, rfl, rfl, trivial⟩ ?_
 intro _ i4
 obtain ⟨h2, h3, h4, -⟩ := i4
 refine c_ifd h4 (fun q4 => ?_) (fun q4 => ?_)
 ·replace e := if_t q4 e
  refine c_sr ?_
  refine o_mv (v := (vi 2)) rfl ?_
  refine c_nil (c_rt ?_)
  obtain rfl := oJ e
  exact ⟨.inr rfl, _, (ar1 rfl), rfl, ((s6.pick [] rfl).weak (g1.trans g2) hs.zv)⟩
 replace e := if_f q4 e
 refine c_sk (c_sq (c_sr (o_ldB 1 s6 rfl h2 rfl rfl (o_ldB 0 s6 rfl h3 rfl rfl ?_))))
 obtain ⟨x3, q5, e⟩ := oB e
 obtain ⟨Z3, V3, W3, g3, u3, c9, c10, -, c12, c11⟩ := Sat.call (l1 := []) s6
 refine o_call (mc rfl (mc rfl m0)) (X.tree_valid nd.tree_valid c9 (hp1.mono (((g1.trans g2).trans g3).v.trans u3)) (hp2.mono (((g1.trans g2).trans g3).v.trans u3)) q5) fun _ H5 i5 => ?_
 obtain ⟨rfl, s7⟩ := i5
 have s8 := c11 _ _ s7
 refine o_not rfl (c_nil ?_)
 refine c_if rfl (fun q6 => ?_) (fun q6 => ?_)
 ·replace e := if_t q6 e
  refine c_sr ?_
  refine o_mv (v := (vi 3)) rfl ?_
  refine c_nil (c_rt ?_)
  obtain rfl := oJ e
  exact ⟨.inr rfl, _, (ar1 rfl), rfl, ((s8.pick [] rfl).weak (g1.trans (g2.trans g3)) hs.zv)⟩
 replace e := ib_f q6 e
 refine c_sk (c_sr ?_)
 refine o_mv (v := (vi 0)) rfl ?_
 refine c_nil (c_rt ?_)
 obtain rfl := oJ e
 exact ⟨.inr rfl, _, (ar1 rfl), rfl, ((s8.pick [] rfl).weak (g1.trans (g2.trans g3)) hs.zv)⟩
structure Nd.tree_word (T : FuncId → Option AFunc) : Prop where
 own_tree_word : Has T I.tree_word F.tree_word
 tree_leaf : Nd.tree_leaf T
set_option maxHeartbeats 1000000 in
theorem X.tree_word_rec {T : FuncId → Option AFunc} (nd : Nd.tree_word T) : ∀ φ : Nat, (∀ {Z V : PH} {H : Hp} {v1 : Value} {v2 : Value} {a0 : (List Int)} {a1 : Ty.api_Tree} (hs : Sat Z V H [It.sl Sh.int v1 a0]) (hp2 : RdS Sh.api_Tree V v2 a1.Kids) {r : (List Int)} (e : P.tree_word φ a0 a1 = some r), G T I.tree_word [v1, (.agg #[vi a1.Rule, vi a1.Term, v2])] H (fun rv H' => ∃ (u1 : Value), rv = u1 ∧ Sat Z V H' [It.sl Sh.int u1 r])) := by
 intro φ
 induction φ with
 | zero =>
   intro Z V H v1 v2 a0 a1 hs hp2 r e
   rw [P.tree_word] at e; cases e
 | succ φ ih =>
   intro Z V H v1 v2 a0 a1 hs hp2 r e
   rw [P.tree_word] at e
   refine f_mk nd.own_tree_word ?_
   refine c_sr ?_
   obtain ⟨d1, rfl⟩ := (hp2).val
   refine o_box hs rfl rfl fun b1 H1 s1 => ?_
   refine o_mv (v := (.slice none 0 0)) rfl ?_
   refine c_nil (c_sq (c_sr (o_ldB 0 s1 rfl rfl rfl rfl ?_)))
   obtain ⟨x1, q1, e⟩ := oB e
   obtain ⟨Z1, V1, W1, g1, u1, c1, c2, -, c4, c3⟩ := Sat.call (l1 := []) s1
   refine o_call (mc rfl m0) (X.tree_leaf nd.tree_leaf c1 (hp2.mono (g1.v.trans u1)) q1) fun _ H2 i1 => ?_
   obtain ⟨rfl, s2⟩ := i1
   have s3 := c3 _ _ s2
   refine c_nil ?_
   refine c_if rfl (fun q2 => ?_) (fun q2 => ?_)
   ·replace e := if_t q2 e
    refine c_sr ?_
    refine o_mv (v := v1) rfl ?_
    refine o_fad rfl (o_ldB 0 s3 rfl rfl rfl rfl ?_)
    refine o_bsl (s := Sh.int) (us := [vi a1.Term]) (qs := [(0, 1, (vi a1.Term))]) (xs := [a1.Term]) s3 Sh.flat_lt rfl rfl rfl (Els.cons (c := [vi a1.Term]) rfl Els.nil) rfl rfl fun w1 H3 s4 => ?_
    obtain ⟨x2, q3, e⟩ := oB e
    refine o_app 2 s4 rfl Sh.flat_lt rfl rfl rfl rfl (s4.curS (s := Sh.int) 0 rfl) pR (fun h => h) (by decide) q3 fun w2 H4 s5 => ?_
    refine o_mv (v := w2) rfl ?_
    refine c_nil ?_
    refine c_gen (P := fun tm => tm 4 = w2 ∧ True) ⟨rfl, trivial⟩ ?_
    intro _ i2
    obtain ⟨h1, -⟩ := i2
    refine c_rt ?_
    obtain rfl := oJ e
    exact ⟨.inr rfl, _, (ar1 h1), _, rfl, ((s5.pick [2] rfl).weak g1 hs.zv)⟩
   replace e := ib_f q2 e
   refine c_sk (c_sq (c_sr (o_fad rfl (o_ldB 0 s3 rfl rfl rfl rfl ?_))))
   refine o_len rfl ((hp2.mono g1.v)).len ?_
   refine o_mv (v := (vi 0)) rfl ?_
   refine c_nil ?_
   obtain ⟨y1, q6, e⟩ := oB e
   refine c_bk ?_
   refine l_forP (xs := a1.Kids) (fun (i3 : Nat) (s6 : (List Int)) tm H => tm 17 = vi i3 ∧ ∃ (Z2 V2 : PH) (w3 : Value), Gw Z1 V1 Z2 V2 ∧ Sat Z2 V2 H [It.sl Sh.int w3 s6] ∧ tm 0 = w3 ∧ tm 15 = (vS d1 a1.Kids) ∧ tm 16 = (vN a1.Kids)) (fun i3 x3 s6 s8 tm H6 q4 q5 j1 e1 k1 => ?_) (fun tm H5 jd => ?_) q6 ⟨rfl, _, _, _, Gw.refl _ _, (s3.pick [1] rfl), rfl, rfl, rfl⟩
   ·obtain ⟨hti0, Z2, V2, w3, g2, s7, h2, h3, h4⟩ := j1
    unfold P.tree_word.b0 at e1
    refine c_sr (o_lss hti0 h4 (c_nil (c_sq ?_)))
    refine c_ift rfl (Int.ofNat_lt.2 q5) ?_
    refine c_sk (c_sq (c_bk (c_sr ?_)))
    refine o_idx (v := (vS d1 a1.Kids)) h3 hti0 (hp2.mono (g1.trans g2).v) rfl (Pu.ix_nat.trans q4) fun p1 q7 => ?_
    refine o_lda rfl (hp2.mono (g1.trans g2).v) s7.v rfl q7 (Pu.ix_nat.trans q4) fun c5 h5 => ?_
    obtain ⟨w4, rfl, h6⟩ := Sh.api_Tree_op h5
    refine o_new s7 fun b2 H7 s9 => ?_
    obtain ⟨d2, rfl⟩ := (h6).val
    refine o_stB (us' := [vi x3.Rule, vi x3.Term, (vS d2 x3.Kids)]) 0 s9 rfl rfl rfl rfl rfl rfl rfl fun H8 s10 => ?_
    refine c_nil (c_r (o_mv h2 (o_ldB 0 s10 rfl rfl rfl rfl ?_)))
    obtain ⟨x4, q8, e1⟩ := oB e1
    obtain ⟨Z3, V3, W2, g3, u2, c6, c7, -, c9, c8⟩ := Sat.call (l1 := [It.sl Sh.int w3 s6]) (l2 := [pts b2 (.rw 0 [vi x3.Rule, vi x3.Term, (vS d2 x3.Kids)])]) (s10.pick [1, 0] rfl)
    refine o_call (mc rfl (mc rfl m0)) (ih c6 (h6.mono (g3.v.trans u2)) q8) fun w5 H9 i4 => ?_
    obtain ⟨_, rfl, s11⟩ := i4
    have s12 := c8 _ _ s11
    refine o_mv (v := w5) rfl ?_
    refine c_nil (c_end (c_r (o_add hti0 rfl ?_)))
    refine o_mv (v := (vi (Pu.W ((i3 : Int) + 1)))) rfl ?_
    refine c_nil ?_
    obtain rfl := oJ e1
    exact k1 _ _ ⟨(iv rfl (w_suc q5 ((hp2.mono g1.v)).bd)), _, _, _, (g2.trans g3), (s12.pick [0] rfl), rfl, h3, h4⟩
   obtain ⟨hte0, Z4, V4, w6, g4, s13, h7, h8, h9⟩ := jd
   refine c_sr (o_lss hte0 h9 (c_nil (c_sq ?_)))
   refine c_iff rfl (Int.lt_irrefl _) ?_
   refine c_ex ?_
   refine e_c ?_
   refine e_c ?_
   refine e_h ?_
   refine c_sr (o_mv h7 ?_)
   refine o_mv (v := w6) rfl ?_
   refine c_nil (c_rt ?_)
   obtain rfl := oJ e
   exact ⟨.inr rfl, _, (ar1 rfl), _, rfl, (s13.weak (g1.trans g4) hs.zv)⟩
theorem X.tree_word {T : FuncId → Option AFunc} (nd : Nd.tree_word T) {φ : Nat} {Z V : PH} {H : Hp} {v1 : Value} {v2 : Value} {a0 : (List Int)} {a1 : Ty.api_Tree} (hs : Sat Z V H [It.sl Sh.int v1 a0]) (hp2 : RdS Sh.api_Tree V v2 a1.Kids) {r : (List Int)} (e : P.tree_word φ a0 a1 = some r) :
 G T I.tree_word [v1, (.agg #[vi a1.Rule, vi a1.Term, v2])] H (fun rv H' => ∃ (u1 : Value), rv = u1 ∧ Sat Z V H' [It.sl Sh.int u1 r]) := (X.tree_word_rec nd φ) hs hp2 e
structure Nd.tree_Word (T : FuncId → Option AFunc) : Prop where
 own : Has T I.tree_Word F.tree_Word
 tree_word : Nd.tree_word T
set_option maxHeartbeats 1000000 in
theorem X.tree_Word {T : FuncId → Option AFunc} (nd : Nd.tree_Word T) {φ : Nat} {Z V : PH} {H : Hp} {v1 : Value} {a0 : Ty.api_Tree} (hs : Sat Z V H []) (hp1 : RdS Sh.api_Tree V v1 a0.Kids) {r : (List Int)} (e : P.tree_Word φ a0 = some r) :
 G T I.tree_Word [(.agg #[vi a0.Rule, vi a0.Term, v1])] H (fun rv H' => ∃ (u1 : Value), rv = u1 ∧ Sat Z V H' [It.sl Sh.int u1 r]) := by
 unfold P.tree_Word at e
 refine f_mk nd.own ?_
 refine c_sr ?_
 obtain ⟨d1, rfl⟩ := (hp1).val
 refine o_box hs rfl rfl fun b1 H1 s1 => ?_
 refine o_mv (v := (.slice none 0 0)) rfl ?_
 refine c_nil (c_sr (o_ldB 0 s1 rfl rfl rfl rfl ?_))
 obtain ⟨x1, q1, e⟩ := oB e
 have s2 := s1.push (sl_nil (s := Sh.int))
 obtain ⟨Z1, V1, W1, g1, u1, c1, c2, -, c4, c3⟩ := Sat.call (l1 := [It.sl Sh.int (.slice none 0 0) []]) (l2 := [pts b1 (.rw 0 [vi a0.Rule, vi a0.Term, (vS d1 a0.Kids)])]) s2
 refine o_call (mc rfl (mc rfl m0)) (X.tree_word nd.tree_word c1 (hp1.mono (g1.v.trans u1)) q1) fun w1 H2 i1 => ?_
 obtain ⟨_, rfl, s3⟩ := i1
 have s4 := c3 _ _ s3
 refine o_mv (v := w1) rfl ?_
 refine c_nil (c_rt ?_)
 obtain rfl := oJ e
 exact ⟨.inr rfl, _, (ar1 rfl), _, rfl, ((s4.pick [0] rfl).weak g1 hs.zv)⟩
structure Nd.slices_Compare_int_int (T : FuncId → Option AFunc) : Prop where
 own : Has T I.slices_Compare_int_int F.slices_Compare_int_int
 cmp_Compare_int : Nd.cmp_Compare_int T
set_option maxHeartbeats 1000000 in
theorem X.slices_Compare_int_int {T : FuncId → Option AFunc} (nd : Nd.slices_Compare_int_int T) {Z V : PH} {H : Hp} {v1 : Value} {v2 : Value} {a0 : (List Int)} {a1 : (List Int)} (hs : Sat Z V H []) (hp1 : RdS Sh.int V v1 a0) (hp2 : RdS Sh.int V v2 a1) {r : Int} (e : P.slices_Compare_int_int a0 a1 = some r) :
 G T I.slices_Compare_int_int [v1, v2] H (fun rv H' => rv = (vi r) ∧ Sat Z V H' []) := by
 unfold P.slices_Compare_int_int at e
 refine f_mk nd.own ?_
 refine c_sr ?_
 refine o_mv (v := (vi 0)) rfl ?_
 refine c_nil (c_sq (c_sr ?_))
 refine o_mv (v := v1) rfl ?_
 refine o_len rfl (hp1).len ?_
 refine o_mv (v := (vi 0)) rfl ?_
 refine c_nil ?_
 obtain ⟨y1, q3, e⟩ := oB e
 refine c_jn (I := fun tm H => ∃ (s3 : Unit), y1 = .out s3 ∧ (∃ (Z2 V2 : PH), Gw Z V Z2 V2 ∧ Sat Z2 V2 H [] ∧ tm 0 = v1 ∧ tm 1 = v2 ∧ tm 9 = v1 ∧ tm 10 = (vN a0))) (fun k4 => ?_) ?_
 ·refine c_bk ?_
  refine l_forL (xs := a0) (fun (i1 : Nat) (s1 : Unit) tm H => tm 11 = vi i1 ∧ ∃ (Z1 V1 : PH), Gw Z V Z1 V1 ∧ Sat Z1 V1 H [] ∧ tm 0 = v1 ∧ tm 1 = v2 ∧ tm 9 = v1 ∧ tm 10 = (vN a0)) (fun i1 x1 s1 y2 tm H2 q1 q2 j1 e1 k1 k2 k3 => ?_) (fun s1 tm H1 jf jd => ?_) q3 ⟨rfl, _, _, Gw.refl _ _, hs, rfl, rfl, rfl, rfl⟩
  ·obtain ⟨hti0, Z1, V1, g1, s2, h1, h2, h3, h4⟩ := j1
   unfold P.slices_Compare_int_int.b0 at e1
   refine c_sr (o_lss hti0 h4 (c_nil (c_sq ?_)))
   refine c_ift rfl (Int.ofNat_lt.2 q2) ?_
   refine c_sk (c_sq (c_bk (c_sr (o_mv hti0 ?_))))
   refine o_idx (v := v1) h3 hti0 (hp1.mono g1.v) rfl (Pu.ix_nat.trans q1) fun p1 q4 => ?_
   refine o_ldi rfl (hp1.mono g1.v) s2.v q4 (Pu.ix_nat.trans q1) ?_
   refine o_mv (v := (vJ i1)) rfl ?_
   refine o_mv (v := (vi x1)) rfl ?_
   refine c_nil (c_sq (c_sr ?_))
   refine o_mv (v := (vJ i1)) rfl ?_
   refine o_mv h2 (o_len rfl ((hp2.mono g1.v)).len (o_geq rfl rfl (c_nil ?_)))
   refine c_gen (P := fun tm => tm 0 = v1 ∧ tm 1 = v2 ∧ tm 5 = (vJ i1) ∧ tm 6 = (vi x1) ∧ tm 9 = v1 ∧ tm 10 = (vN a0) ∧ tm 11 = (vJ i1) ∧ tm 19 = (.bool (decide ((a1.length : Int) ≤ (i1 : Int)))) ∧ True) ⟨h1, h2, rfl, rfl, h3, h4, hti0, rfl, trivial⟩ ?_
   intro _ i2
   obtain ⟨h9, h10, h11, h12, h13, h14, h15, h16, -⟩ := i2
   refine c_ifd h16 (fun q5 => ?_) (fun q5 => ?_)
   ·replace e1 := if_t q5 e1
    refine c_sr ?_
    refine o_mv (v := (vi 1)) rfl ?_
    refine c_nil (c_rt ?_)
    have e2 := fin_r (k3 _ (sJ e1)) e
    obtain rfl := oJ e2
    exact ⟨.inr rfl, _, (ar1 rfl), rfl, (s2.weak g1 hs.zv)⟩
   replace e1 := if_f q5 e1
   refine c_sk (c_sr (o_mv h10 (o_mv h11 ?_)))
   obtain ⟨x2, q6, e1⟩ := oB e1
   refine o_idx (v := v2) rfl rfl (hp2.mono g1.v) rfl q6 fun p2 q7 => ?_
   refine o_ldi rfl (hp2.mono g1.v) s2.v q7 q6 ?_
   refine o_mv (v := (vi x2)) rfl ?_
   refine c_nil (c_sr (o_mv h12 ?_))
   refine o_mv (v := (vi x2)) rfl ?_
   obtain ⟨x3, q8, e1⟩ := oB e1
   obtain ⟨Z3, V3, W1, g3, u1, c1, c2, -, c4, c3⟩ := Sat.call (l1 := []) s2
   refine o_call (mc rfl (mc rfl m0)) (X.cmp_Compare_int nd.cmp_Compare_int c1 q8) fun _ H4 i3 => ?_
   obtain ⟨rfl, s5⟩ := i3
   have s6 := c3 _ _ s5
   refine o_mv (v := (vi x3)) rfl ?_
   refine c_nil (c_sr ?_)
   refine o_mv (v := (vi x3)) rfl ?_
   refine o_neq rfl rfl (c_nil ?_)
   refine c_gen (P := fun tm => tm 0 = v1 ∧ tm 1 = v2 ∧ tm 8 = (vi x3) ∧ tm 9 = v1 ∧ tm 10 = (vN a0) ∧ tm 11 = (vJ i1) ∧ tm 28 = (.bool (decide (x3 ≠ 0))) ∧ True) ⟨h9, h10, rfl, h13, h14, h15, rfl, trivial⟩ ?_
   intro _ i4
   obtain ⟨h17, h18, h19, h20, h21, h22, h23, -⟩ := i4
   refine c_ifd h23 (fun q9 => ?_) (fun q9 => ?_)
   ·replace e1 := if_t q9 e1
    refine c_sr (o_mv h19 ?_)
    refine o_mv (v := (vi x3)) rfl ?_
    refine c_nil (c_rt ?_)
    have e3 := fin_r (k3 _ (sJ e1)) e
    obtain rfl := oJ e3
    exact ⟨.inr rfl, _, (ar1 rfl), rfl, (s6.weak (g1.trans g3) hs.zv)⟩
   replace e1 := if_f q9 e1
   refine c_sk (c_end (c_r (o_add h22 rfl ?_)))
   refine o_mv (v := (vi (Pu.W ((i1 : Int) + 1)))) rfl ?_
   refine c_nil ?_
   exact k1 _ _ _ (sJ e1) ⟨(iv rfl (w_suc q2 (hp1).bd)), _, _, (g1.trans g3), s6, h17, h18, h20, h21⟩
  ·obtain ⟨hte0, Z4, V4, g4, s7, h24, h25, h26, h27⟩ := jd
   refine c_sr (o_lss hte0 h27 (c_nil (c_sq ?_)))
   refine c_iff rfl (Int.lt_irrefl _) ?_
   refine c_ex ?_
   refine e_c ?_
   refine e_c ?_
   refine e_h ?_
   exact k4 _ _ ⟨_, jf, _, _, g4, s7, h24, h25, h26, h27⟩
 intro _ H3 i5
 obtain ⟨s3, f1, Z2, V2, g2, s4, h5, h6, h7, h8⟩ := i5
 replace e := fin_o f1 e
 refine c_sq (c_sr (o_mv h5 (o_len rfl ((hp1.mono g2.v)).len (o_mv h6 ?_))))
 refine o_len rfl ((hp2.mono g2.v)).len (o_lss rfl rfl (c_nil ?_))
 refine c_ifd rfl (fun q10 => ?_) (fun q10 => ?_)
 ·replace e := if_t q10 e
  refine c_sr ?_
  refine o_mv (v := (vi (-1))) rfl ?_
  refine c_nil (c_rt ?_)
  obtain rfl := oJ e
  exact ⟨.inr rfl, _, (ar1 rfl), rfl, (s4.weak g2 hs.zv)⟩
 replace e := if_f q10 e
 refine c_sk (c_sr ?_)
 refine o_mv (v := (vi 0)) rfl ?_
 refine c_nil (c_rt ?_)
 obtain rfl := oJ e
 exact ⟨.inr rfl, _, (ar1 rfl), rfl, (s4.weak g2 hs.zv)⟩
structure Nd.tree_rules (T : FuncId → Option AFunc) : Prop where
 own_tree_rules : Has T I.tree_rules F.tree_rules
 tree_leaf : Nd.tree_leaf T
set_option maxHeartbeats 1000000 in
theorem X.tree_rules_rec {T : FuncId → Option AFunc} (nd : Nd.tree_rules T) : ∀ φ : Nat, (∀ {Z V : PH} {H : Hp} {v1 : Value} {v2 : Value} {a0 : (List Int)} {a1 : Ty.api_Tree} (hs : Sat Z V H [It.sl Sh.int v1 a0]) (hp2 : RdS Sh.api_Tree V v2 a1.Kids) {r : (List Int)} (e : P.tree_rules φ a0 a1 = some r), G T I.tree_rules [v1, (.agg #[vi a1.Rule, vi a1.Term, v2])] H (fun rv H' => ∃ (u1 : Value), rv = u1 ∧ Sat Z V H' [It.sl Sh.int u1 r])) := by
 intro φ
 induction φ with
 | zero =>
   intro Z V H v1 v2 a0 a1 hs hp2 r e
   rw [P.tree_rules] at e; cases e
 | succ φ ih =>
   intro Z V H v1 v2 a0 a1 hs hp2 r e
   rw [P.tree_rules] at e
   refine f_mk nd.own_tree_rules ?_
   refine c_sr ?_
   obtain ⟨d1, rfl⟩ := (hp2).val
   refine o_box hs rfl rfl fun b1 H1 s1 => ?_
   refine o_mv (v := (.slice none 0 0)) rfl ?_
   refine c_nil (c_sr ?_)
   refine o_mv (v := v1) rfl ?_
   refine o_fad rfl (o_ldB 0 s1 rfl rfl rfl rfl ?_)
   refine o_bsl (s := Sh.int) (us := [vi a1.Rule]) (qs := [(0, 1, (vi a1.Rule))]) (xs := [a1.Rule]) s1 Sh.flat_lt rfl rfl rfl (Els.cons (c := [vi a1.Rule]) rfl Els.nil) rfl rfl fun w1 H2 s2 => ?_
   obtain ⟨x1, q1, e⟩ := oB e
   refine o_app 2 s2 rfl Sh.flat_lt rfl rfl rfl rfl (s2.curS (s := Sh.int) 0 rfl) pR (fun h => h) (by decide) q1 fun w2 H3 s3 => ?_
   refine o_mv (v := w2) rfl ?_
   refine c_nil (c_sq (c_sr (o_ldB 1 s3 rfl rfl rfl rfl ?_)))
   obtain ⟨x2, q2, e⟩ := oB e
   obtain ⟨Z1, V1, W1, g1, u1, c1, c2, -, c4, c3⟩ := Sat.call (l1 := []) s3
   refine o_call (mc rfl m0) (X.tree_leaf nd.tree_leaf c1 (hp2.mono (g1.v.trans u1)) q2) fun _ H4 i1 => ?_
   obtain ⟨rfl, s4⟩ := i1
   have s5 := c3 _ _ s4
   refine c_nil ?_
   refine c_gen (P := fun tm => tm 0 = w2 ∧ tm 3 = (pV b1 0) ∧ tm 13 = (.bool x2) ∧ True) ⟨rfl, rfl, rfl, trivial⟩ ?_
   intro _ i2
   obtain ⟨h1, h2, h3, -⟩ := i2
   refine c_if h3 (fun q3 => ?_) (fun q3 => ?_)
   ·replace e := if_t q3 e
    refine c_sr (o_mv h1 ?_)
    refine o_mv (v := w2) rfl ?_
    refine c_nil (c_rt ?_)
    obtain rfl := oJ e
    exact ⟨.inr rfl, _, (ar1 rfl), _, rfl, ((s5.pick [2] rfl).weak g1 hs.zv)⟩
   replace e := ib_f q3 e
   refine c_sk (c_sq (c_sr (o_fad h2 (o_ldB 1 s5 rfl rfl rfl rfl ?_))))
   refine o_len rfl ((hp2.mono g1.v)).len ?_
   refine o_mv (v := (vi 0)) rfl ?_
   refine c_nil ?_
   obtain ⟨y1, q6, e⟩ := oB e
   refine c_bk ?_
   refine l_forP (xs := a1.Kids) (fun (i3 : Nat) (s6 : (List Int)) tm H => tm 18 = vi i3 ∧ ∃ (Z2 V2 : PH) (w3 : Value), Gw Z1 V1 Z2 V2 ∧ Sat Z2 V2 H [It.sl Sh.int w3 s6] ∧ tm 0 = w3 ∧ tm 16 = (vS d1 a1.Kids) ∧ tm 17 = (vN a1.Kids)) (fun i3 x3 s6 s8 tm H6 q4 q5 j1 e1 k1 => ?_) (fun tm H5 jd => ?_) q6 ⟨rfl, _, _, _, Gw.refl _ _, (s5.pick [2] rfl), h1, rfl, rfl⟩
   ·obtain ⟨hti0, Z2, V2, w3, g2, s7, h4, h5, h6⟩ := j1
    unfold P.tree_rules.b0 at e1
    refine c_sr (o_lss hti0 h6 (c_nil (c_sq ?_)))
    refine c_ift rfl (Int.ofNat_lt.2 q5) ?_
    refine c_sk (c_sq (c_bk (c_sr ?_)))
    refine o_idx (v := (vS d1 a1.Kids)) h5 hti0 (hp2.mono (g1.trans g2).v) rfl (Pu.ix_nat.trans q4) fun p1 q7 => ?_
    refine o_lda rfl (hp2.mono (g1.trans g2).v) s7.v rfl q7 (Pu.ix_nat.trans q4) fun c5 h7 => ?_
    obtain ⟨w4, rfl, h8⟩ := Sh.api_Tree_op h7
    refine o_new s7 fun b2 H7 s9 => ?_
    obtain ⟨d2, rfl⟩ := (h8).val
    refine o_stB (us' := [vi x3.Rule, vi x3.Term, (vS d2 x3.Kids)]) 0 s9 rfl rfl rfl rfl rfl rfl rfl fun H8 s10 => ?_
    refine c_nil (c_r (o_mv h4 (o_ldB 0 s10 rfl rfl rfl rfl ?_)))
    obtain ⟨x4, q8, e1⟩ := oB e1
    obtain ⟨Z3, V3, W2, g3, u2, c6, c7, -, c9, c8⟩ := Sat.call (l1 := [It.sl Sh.int w3 s6]) (l2 := [pts b2 (.rw 0 [vi x3.Rule, vi x3.Term, (vS d2 x3.Kids)])]) (s10.pick [1, 0] rfl)
    refine o_call (mc rfl (mc rfl m0)) (ih c6 (h8.mono (g3.v.trans u2)) q8) fun w5 H9 i4 => ?_
    obtain ⟨_, rfl, s11⟩ := i4
    have s12 := c8 _ _ s11
    refine o_mv (v := w5) rfl ?_
    refine c_nil (c_end (c_r (o_add hti0 rfl ?_)))
    refine o_mv (v := (vi (Pu.W ((i3 : Int) + 1)))) rfl ?_
    refine c_nil ?_
    obtain rfl := oJ e1
    exact k1 _ _ ⟨(iv rfl (w_suc q5 ((hp2.mono g1.v)).bd)), _, _, _, (g2.trans g3), (s12.pick [0] rfl), rfl, h5, h6⟩
   obtain ⟨hte0, Z4, V4, w6, g4, s13, h9, h10, h11⟩ := jd
   refine c_sr (o_lss hte0 h11 (c_nil (c_sq ?_)))
   refine c_iff rfl (Int.lt_irrefl _) ?_
   refine c_ex ?_
   refine e_c ?_
   refine e_c ?_
   refine e_h ?_
   refine c_sr (o_mv h9 ?_)
   refine o_mv (v := w6) rfl ?_
   refine c_nil (c_rt ?_)
   obtain rfl := oJ e
   exact ⟨.inr rfl, _, (ar1 rfl), _, rfl, (s13.weak (g1.trans g4) hs.zv)⟩
theorem X.tree_rules {T : FuncId → Option AFunc} (nd : Nd.tree_rules T) {φ : Nat} {Z V : PH} {H : Hp} {v1 : Value} {v2 : Value} {a0 : (List Int)} {a1 : Ty.api_Tree} (hs : Sat Z V H [It.sl Sh.int v1 a0]) (hp2 : RdS Sh.api_Tree V v2 a1.Kids) {r : (List Int)} (e : P.tree_rules φ a0 a1 = some r) :
 G T I.tree_rules [v1, (.agg #[vi a1.Rule, vi a1.Term, v2])] H (fun rv H' => ∃ (u1 : Value), rv = u1 ∧ Sat Z V H' [It.sl Sh.int u1 r]) := (X.tree_rules_rec nd φ) hs hp2 e
structure Nd.tree_Compare (T : FuncId → Option AFunc) : Prop where
 own : Has T I.tree_Compare F.tree_Compare
 tree_Size : Nd.tree_Size T
 cmp_Compare_int : Nd.cmp_Compare_int T
 tree_rules : Nd.tree_rules T
 slices_Compare_int_int : Nd.slices_Compare_int_int T
 tree_Word : Nd.tree_Word T
set_option maxHeartbeats 1000000 in
theorem X.tree_Compare {T : FuncId → Option AFunc} (nd : Nd.tree_Compare T) {φ : Nat} {Z V : PH} {H : Hp} {v1 : Value} {v2 : Value} {a0 : Ty.api_Tree} {a1 : Ty.api_Tree} (hs : Sat Z V H []) (hp1 : RdS Sh.api_Tree V v1 a0.Kids) (hp2 : RdS Sh.api_Tree V v2 a1.Kids) {r : Int} (e : P.tree_Compare φ a0 a1 = some r) :
 G T I.tree_Compare [(.agg #[vi a0.Rule, vi a0.Term, v1]), (.agg #[vi a1.Rule, vi a1.Term, v2])] H (fun rv H' => rv = (vi r) ∧ Sat Z V H' []) := by
 unfold P.tree_Compare at e
 refine f_mk nd.own ?_
 refine c_sr ?_
 obtain ⟨d1, rfl⟩ := (hp1).val
 refine o_box hs rfl rfl fun b1 H1 s1 => ?_
 obtain ⟨d2, rfl⟩ := (hp2).val
 refine o_box s1 rfl rfl fun b2 H2 s2 => ?_
 refine o_mv (v := (vi 0)) rfl ?_
 refine c_nil (c_sq (c_sq ?_))
 refine d_start s2 fun n1 H3 s3 q1 d3 => ?_
 refine d_ldB (q1 _ _ (ph_some.2 ⟨s3.curB 1 rfl, by simp⟩)) 1 s3 rfl rfl rfl rfl ?_
 obtain ⟨x1, q2, e⟩ := oB e
 obtain ⟨Z1, V1, W1, g1, u1, c1, c2, -, c4, c3⟩ := Sat.call (l1 := []) s3
 refine d_call (mc rfl m0) (X.tree_Size nd.tree_Size c1 (hp1.mono (g1.v.trans u1)) q2) fun _ H4 i1 k1 => ?_
 have d4 := d3.keep k1
 obtain ⟨rfl, s4⟩ := i1
 have s5 := c3 _ _ s4
 refine d_ldB (q1 _ _ (ph_some.2 ⟨s3.curB 0 rfl, by simp⟩)) 0 s5 rfl rfl rfl rfl ?_
 obtain ⟨x2, q3, e⟩ := oB e
 obtain ⟨Z2, V2, W2, g2, u2, c5, c6, -, c8, c7⟩ := Sat.call (l1 := []) s5
 refine d_call (mc rfl m0) (X.tree_Size nd.tree_Size c5 (hp2.mono ((g1.trans g2).v.trans u2)) q3) fun _ H5 i2 k2 => ?_
 have d5 := d4.keep k2
 obtain ⟨rfl, s6⟩ := i2
 have s7 := c7 _ _ s6
 obtain ⟨x3, q4, e⟩ := oB e
 obtain ⟨Z3, V3, W3, g3, u3, c9, c10, -, c12, c11⟩ := Sat.call (l1 := []) s7
 refine d_call (mc rfl (mc rfl m0)) (X.cmp_Compare_int nd.cmp_Compare_int c9 q4) fun _ H6 i3 k3 => ?_
 have d6 := d5.keep k3
 obtain ⟨rfl, s8⟩ := i3
 have s9 := c11 _ _ s8
 refine d_mv (v := (vi x3)) rfl ?_
 refine d_nil (dc_mk rfl (ta4 (tre (tl2 tr0))) (ta4 (tra (tre (trl tr0)))) (ta4 (tre (tl2 tr0))) (ag_ldx (w := (.agg #[vi a1.Rule, vi a1.Term, (vS d2 a1.Kids)])) w_0 rfl (ldB_v 0 s5 rfl rfl rfl) (ldB_v 0 s3 rfl rfl rfl) (by simp [vsame, vsame1])) (ag_ldx (w := (.agg #[vi a1.Rule, vi a1.Term, (vS d2 a1.Kids)])) w_0 rfl (ldB_v 0 s5 rfl rfl rfl) (ldB_v 0 s5 rfl rfl rfl) (by simp [vsame, vsame1])) dc_nil) ?_
 refine c_sr ?_
 refine o_mv (v := (vi x3)) rfl ?_
 refine o_neq rfl rfl (c_nil ?_)
 refine c_gen (P := fun tm => tm 2 = (pV b1 0) ∧ tm 3 = (pV b2 0) ∧ tm 5 = (vi x3) ∧ tm 13 = (.bool (decide (x3 ≠ 0))) ∧ True) ⟨rfl, rfl, rfl, rfl, trivial⟩ ?_
 intro _ i4
 obtain ⟨h1, h2, h3, h4, -⟩ := i4
 refine c_ifd h4 (fun q5 => ?_) (fun q5 => ?_)
 ·replace e := if_t q5 e
  refine c_sr (o_mv h3 ?_)
  refine o_mv (v := (vi x3)) rfl ?_
  refine c_nil (c_rt ?_)
  obtain rfl := oJ e
  exact ⟨.inr rfl, _, (ar1 rfl), rfl, ((s9.pick [] rfl).weak (g1.trans (g2.trans g3)) hs.zv)⟩
 replace e := if_f q5 e
 refine c_sk (c_sq (c_sq ?_))
 refine d_start s9 fun n2 H7 s10 q6 d7 => ?_
 refine d_ldB (q6 _ _ (ph_some.2 ⟨s10.curB 1 rfl, by simp⟩)) 1 s10 rfl h1 rfl rfl ?_
 obtain ⟨x4, q7, e⟩ := oB e
 have s11 := s10.push (sl_nil (s := Sh.int))
 obtain ⟨Z4, V4, W4, g4, u4, c13, c14, -, c16, c15⟩ := Sat.call (l1 := [It.sl Sh.int (.slice none 0 0) []]) (l2 := [pts b2 (.rw 0 [vi a1.Rule, vi a1.Term, (vS d2 a1.Kids)]), pts b1 (.rw 0 [vi a0.Rule, vi a0.Term, (vS d1 a0.Kids)])]) s11
 refine d_call (mc rfl (mc rfl m0)) (X.tree_rules nd.tree_rules c13 (hp1.mono (((g1.trans (g2.trans g3)).trans g4).v.trans u4)) q7) fun w1 H8 i5 k4 => ?_
 have d8 := d7.keep k4
 obtain ⟨_, rfl, s12⟩ := i5
 have s13 := c15 _ _ s12
 refine d_ldB (q6 _ _ (ph_some.2 ⟨s10.curB 0 rfl, by simp⟩)) 1 s13 rfl h2 rfl rfl ?_
 obtain ⟨x5, q8, e⟩ := oB e
 have s14 := s13.push (sl_nil (s := Sh.int))
 obtain ⟨Z5, V5, W5, g5, u5, c17, c18, -, c20, c19⟩ := Sat.call (l1 := [It.sl Sh.int (.slice none 0 0) []]) (l2 := [It.sl Sh.int w1 x4, pts b2 (.rw 0 [vi a1.Rule, vi a1.Term, (vS d2 a1.Kids)]), pts b1 (.rw 0 [vi a0.Rule, vi a0.Term, (vS d1 a0.Kids)])]) s14
 refine d_call (mc rfl (mc rfl m0)) (X.tree_rules nd.tree_rules c17 (hp2.mono (((g1.trans (g2.trans (g3.trans g4))).trans g5).v.trans u5)) q8) fun w2 H9 i6 k5 => ?_
 have d9 := d8.keep k5
 obtain ⟨_, rfl, s15⟩ := i6
 have s16 := c19 _ _ s15
 obtain ⟨x6, q9, e⟩ := oB e
 obtain ⟨Z6, V6, W6, g6, u6, c21, c22, -, c24, c23⟩ := Sat.call (l1 := []) s16
 refine d_call (mc rfl (mc rfl m0)) (X.slices_Compare_int_int nd.slices_Compare_int_int c21 (c22 1 _ Sh.int _ _ rfl) (c22 0 _ Sh.int _ _ rfl) q9) fun _ H10 i7 k6 => ?_
 have d10 := d9.keep k6
 obtain ⟨rfl, s17⟩ := i7
 have s18 := c23 _ _ s17
 refine d_mv (v := (vi x6)) rfl ?_
 refine d_nil (dc_mk rfl (ta4 (tre (tl2 tr0))) (ta4 (tra (tre (trl tr0)))) (ta4 (tre (tl2 tr0))) (ag_ldx (w := (.agg #[vi a1.Rule, vi a1.Term, (vS d2 a1.Kids)])) w_0 h2 (ldB_v 1 s13 rfl rfl rfl) (ldB_v 0 s10 rfl rfl rfl) (by simp [vsame, vsame1])) (ag_ldx (w := (.agg #[vi a1.Rule, vi a1.Term, (vS d2 a1.Kids)])) w_0 h2 (ldB_v 1 s13 rfl rfl rfl) (ldB_v 1 s13 rfl rfl rfl) (by simp [vsame, vsame1])) dc_nil) ?_
 refine c_sr ?_
 refine o_mv (v := (vi x6)) rfl ?_
 refine o_neq rfl rfl (c_nil ?_)
 refine c_ifd rfl (fun q10 => ?_) (fun q10 => ?_)
 ·replace e := if_t q10 e
  refine c_sr ?_
  refine o_mv (v := (vi x6)) rfl ?_
  refine o_mv (v := (vi x6)) rfl ?_
  refine c_nil ?_
  refine c_gen (P := fun tm => tm 4 = (vi x6) ∧ True) ⟨rfl, trivial⟩ ?_
  intro _ i8
  obtain ⟨h5, -⟩ := i8
  refine c_rt ?_
  obtain rfl := oJ e
  exact ⟨.inr rfl, _, (ar1 h5), rfl, ((s18.pick [] rfl).weak (g1.trans (g2.trans (g3.trans (g4.trans (g5.trans g6))))) hs.zv)⟩
 replace e := if_f q10 e
 refine c_sk (c_sq ?_)
 refine c_gen (P := fun tm => tm 2 = (pV b1 0) ∧ tm 3 = (pV b2 0) ∧ True) ⟨h1, h2, trivial⟩ ?_
 intro _ i9
 obtain ⟨h6, h7, -⟩ := i9
 refine d_start s18 fun n3 H11 s19 q11 d11 => ?_
 refine d_ldB (q11 _ _ (ph_some.2 ⟨s19.curB 3 rfl, by simp⟩)) 3 s19 rfl h6 rfl rfl ?_
 obtain ⟨x7, q12, e⟩ := oB e
 obtain ⟨Z7, V7, W7, g7, u7, c25, c26, -, c28, c27⟩ := Sat.call (l1 := []) s19
 refine d_call (mc rfl m0) (X.tree_Word nd.tree_Word c25 (hp1.mono (((g1.trans (g2.trans (g3.trans (g4.trans (g5.trans g6))))).trans g7).v.trans u7)) q12) fun w3 H12 i10 k7 => ?_
 have d12 := d11.keep k7
 obtain ⟨_, rfl, s20⟩ := i10
 have s21 := c27 _ _ s20
 refine d_ldB (q11 _ _ (ph_some.2 ⟨s19.curB 2 rfl, by simp⟩)) 3 s21 rfl h7 rfl rfl ?_
 obtain ⟨x8, q13, e⟩ := oB e
 obtain ⟨Z8, V8, W8, g8, u8, c29, c30, -, c32, c31⟩ := Sat.call (l1 := []) s21
 refine d_call (mc rfl m0) (X.tree_Word nd.tree_Word c29 (hp2.mono (((g1.trans (g2.trans (g3.trans (g4.trans (g5.trans (g6.trans g7)))))).trans g8).v.trans u8)) q13) fun w4 H13 i11 k8 => ?_
 have d13 := d12.keep k8
 obtain ⟨_, rfl, s22⟩ := i11
 have s23 := c31 _ _ s22
 obtain ⟨x9, q14, e⟩ := oB e
 obtain ⟨Z9, V9, W9, g9, u9, c33, c34, -, c36, c35⟩ := Sat.call (l1 := []) s23
 refine d_call (mc rfl (mc rfl m0)) (X.slices_Compare_int_int nd.slices_Compare_int_int c33 (c34 1 _ Sh.int _ _ rfl) (c34 0 _ Sh.int _ _ rfl) q14) fun _ H14 i12 k9 => ?_
 have d14 := d13.keep k9
 obtain ⟨rfl, s24⟩ := i12
 have s25 := c35 _ _ s24
 refine d_mv (v := (vi x9)) rfl ?_
 refine d_nil (dc_mk rfl (ta4 (tre (tl2 tr0))) (ta4 (tra (tre (trl tr0)))) (ta4 (tre (tl2 tr0))) (ag_ldx (w := (.agg #[vi a1.Rule, vi a1.Term, (vS d2 a1.Kids)])) w_0 h7 (ldB_v 3 s21 rfl rfl rfl) (ldB_v 2 s19 rfl rfl rfl) (by simp [vsame, vsame1])) (ag_ldx (w := (.agg #[vi a1.Rule, vi a1.Term, (vS d2 a1.Kids)])) w_0 h7 (ldB_v 3 s21 rfl rfl rfl) (ldB_v 3 s21 rfl rfl rfl) (by simp [vsame, vsame1])) dc_nil) ?_
 refine c_rt ?_
 obtain rfl := oJ e
 exact ⟨.inr rfl, _, (ar1 rfl), rfl, ((s25.pick [] rfl).weak (g1.trans (g2.trans (g3.trans (g4.trans (g5.trans (g6.trans (g7.trans (g8.trans g9)))))))) hs.zv)⟩
structure Nd.draw_Number (T : FuncId → Option AFunc) : Prop where
 own : Has T I.draw_Number F.draw_Number
set_option maxHeartbeats 1000000 in
theorem X.draw_Number {T : FuncId → Option AFunc} (nd : Nd.draw_Number T) {φ : Nat} {Z V : PH} {H : Hp} {v1 : Value} {a0 : Int} {a1 : (List Bool)} (hs : Sat Z V H []) (hp1 : RdS Sh.bool V v1 a1) {r : (Int × Int × Int)} (e : P.draw_Number φ a0 a1 = some r) :
 G T I.draw_Number [vi a0, v1] H (fun rv H' => rv = (.tuple #[vi r.1, vi r.2.1, vi r.2.2]) ∧ Sat Z V H' []) := by
 unfold P.draw_Number at e
 refine f_mk nd.own ?_
 refine c_sr ?_
 refine o_mv (v := (vi 0)) rfl ?_
 refine o_mv (v := (vi 0)) rfl ?_
 refine o_mv (v := (vi 0)) rfl ?_
 refine c_nil (c_sq (c_sr ?_))
 refine o_mv (v := (vi a0)) rfl ?_
 refine o_lss rfl rfl ?_
 refine o_mv (v := (.bool (decide (a0 < 1)))) rfl ?_
 refine o_jn 3 (I := fun tm H => tm 17 = .bool ((decide (a0 < 1)) || (decide (1000000000 < a0))) ∧ (∃ (Z1 V1 : PH), Gw Z V Z1 V1 ∧ Sat Z1 V1 H [] ∧ tm 0 = (vi a0) ∧ tm 1 = v1)) (fun k1 => ?_) ?_
 ·rcases Bool.eq_false_or_eq_true (decide (a0 < 1)) with q1 | q1
  ·refine o_gn rfl q1 (o_gn rfl q1 ?_)
   refine o_pickt (a := (.bool true)) rfl q1 rfl ?_
   exact k1 _ _ ⟨gf rfl (by first | (rw [q1]; first | done | rfl) | simp [q1]), _, _, Gw.refl _ _, hs, rfl, rfl⟩
  refine o_gy rfl q1 ?_
  refine o_mv (v := (vi a0)) rfl ?_
  refine o_gy rfl q1 (o_gtr rfl rfl ?_)
  refine o_pickf (b := (.bool (decide (1000000000 < a0)))) rfl q1 rfl ?_
  exact k1 _ _ ⟨gf rfl (by first | (rw [q1]; first | done | rfl) | simp [q1]), _, _, Gw.refl _ _, hs, rfl, rfl⟩
 intro _ H1 i1
 obtain ⟨h3, Z1, V1, g1, s1, h1, h2⟩ := i1
 refine c_nil ?_
 refine c_if h3 (fun q2 => ?_) (fun q2 => ?_)
 ·replace e := if_t q2 e
  refine c_sr ?_
  refine o_mv (v := (vi 0)) rfl ?_
  refine o_mv (v := (vi 0)) rfl ?_
  refine o_mv (v := (vi 1)) rfl ?_
  refine c_nil (c_rt ?_)
  obtain rfl := oJ e
  exact ⟨.inr rfl, _, (ar3 rfl rfl rfl), rfl, (s1.weak g1 hs.zv)⟩
 replace e := ib_f q2 e
 refine c_sk (c_sr ?_)
 refine o_mv (v := (vi 0)) rfl ?_
 refine c_nil (c_sq ?_)
 obtain ⟨y1, q5, e⟩ := oB e
 refine c_jn (I := fun tm H => ∃ (s4 : Int), y1 = .out s4 ∧ (∃ (Z3 V3 : PH), Gw Z1 V1 Z3 V3 ∧ Sat Z3 V3 H [] ∧ tm 0 = (vi a0) ∧ tm 1 = v1 ∧ tm 7 = (vi s4))) (fun k5 => ?_) ?_
 ·refine c_bk ?_
  refine l_whl (fun (s2 : Int) tm H => ∃ (Z2 V2 : PH), Gw Z1 V1 Z2 V2 ∧ Sat Z2 V2 H [] ∧ tm 0 = (vi a0) ∧ tm 1 = v1 ∧ tm 7 = (vi s2)) (fun s2 y2 tm H3 j1 e1 k2 k3 k4 => ?_) q5 ⟨_, _, Gw.refl _ _, s1, h1, h2, rfl⟩
  obtain ⟨Z2, V2, g2, s3, h4, h5, h6⟩ := j1
  unfold P.draw_Number.b0 at e1
  refine c_sq (c_sr (o_mv h6 ?_))
  obtain ⟨x2, q6, e1⟩ := oB e1
  refine o_shl rfl rfl q6 (o_mv h4 (o_lss rfl rfl (c_nil ?_)))
  refine c_ifd rfl (fun q7 => ?_) (fun q7 => ?_)
  ·replace e1 := if_t q7 e1
   refine c_sk (c_bk (c_r (o_mv h6 (o_add rfl rfl ?_))))
   refine o_mv (v := (vi (Pu.W (s2 + 1)))) rfl ?_
   refine c_nil (c_end ?_)
   exact k2 _ _ _ (sJ e1) ⟨_, _, g2, s3, h4, h5, rfl⟩
  replace e1 := if_f q7 e1
  refine c_ex ?_
  refine e_c ?_
  refine e_c ?_
  refine e_h ?_
  exact k5 _ _ ⟨_, k3 _ (sJ e1), _, _, g2, s3, h4, h5, h6⟩
 intro _ H4 i3
 obtain ⟨s4, f1, Z3, V3, g3, s5, h7, h8, h9⟩ := i3
 replace e := fin_o f1 e
 refine c_sq (c_sr ?_)
 refine o_mv (v := (vi 0)) rfl ?_
 refine c_nil ?_
 obtain ⟨y3, q10, e⟩ := oB e
 refine c_jn (I := fun tm H => ∃ (s8 : Int), y3 = .out s8 ∧ (∃ (Z5 V5 : PH), Gw Z3 V3 Z5 V5 ∧ Sat Z5 V5 H [] ∧ tm 0 = (vi a0) ∧ tm 1 = v1 ∧ tm 7 = (vi s4) ∧ tm 8 = (vi s8))) (fun k9 => ?_) ?_
 ·refine c_bk ?_
  refine l_whl (fun (s6 : Int) tm H => ∃ (Z4 V4 : PH), Gw Z3 V3 Z4 V4 ∧ Sat Z4 V4 H [] ∧ tm 0 = (vi a0) ∧ tm 1 = v1 ∧ tm 7 = (vi s4) ∧ tm 8 = (vi s6)) (fun s6 y4 tm H6 j2 e2 k6 k7 k8 => ?_) q10 ⟨_, _, Gw.refl _ _, s5, h7, h8, h9, rfl⟩
  obtain ⟨Z4, V4, g4, s7, h10, h11, h12, h13⟩ := j2
  unfold P.draw_Number.b1 at e2
  refine c_sq (c_sr (o_mv h13 (o_mv h12 (o_add rfl rfl ?_))))
  refine o_mv h11 (o_len rfl ((hp1.mono (g1.trans (g3.trans g4)).v)).len (o_leq rfl rfl (c_nil ?_)))
  refine c_ifd rfl (fun q11 => ?_) (fun q11 => ?_)
  ·replace e2 := if_t q11 e2
   refine c_sk (c_bk (c_sr ?_))
   refine o_mv (v := (vi 0)) rfl ?_
   refine c_nil (c_sq (c_sr (o_mv h11 (o_mv h13 ?_))))
   refine o_mv h13 (o_mv h12 (o_add rfl rfl ?_))
   obtain ⟨x4, q12, e2⟩ := oB e2
   refine o_slc rfl rfl rfl (hp1.mono (g1.trans (g3.trans g4)).v) s7.v rfl q12 fun w1 h18 => ?_
   refine o_len rfl (h18).len ?_
   refine o_mv (v := (vi 0)) rfl ?_
   refine c_nil ?_
   refine c_gen (P := fun tm => tm 0 = (vi a0) ∧ tm 1 = v1 ∧ tm 7 = (vi s4) ∧ tm 8 = (vi s6) ∧ tm 9 = (vi 0) ∧ tm 35 = w1 ∧ tm 36 = (vN x4) ∧ tm 37 = (vi 0) ∧ True) ⟨h10, h11, h12, h13, rfl, rfl, rfl, rfl, trivial⟩ ?_
   intro _ i5
   obtain ⟨h19, h20, h21, h22, h23, h24, h25, h26, -⟩ := i5
   obtain ⟨y5, q15, e2⟩ := oB e2
   refine c_bk ?_
   refine l_forP (xs := x4) (fun (i6 : Nat) (s10 : Int) tm H => tm 37 = vi i6 ∧ ∃ (Z6 V6 : PH), Gw Z4 V4 Z6 V6 ∧ Sat Z6 V6 H [] ∧ tm 0 = (vi a0) ∧ tm 1 = v1 ∧ tm 7 = (vi s4) ∧ tm 8 = (vi s6) ∧ tm 9 = (vi s10) ∧ tm 35 = w1 ∧ tm 36 = (vN x4)) (fun i6 x5 s10 s12 tm H9 q13 q14 j3 e3 k10 => ?_) (fun tm H8 jd => ?_) q15 ⟨h26, _, _, Gw.refl _ _, s7, h19, h20, h21, h22, h23, h24, h25⟩
   ·obtain ⟨hti2, Z6, V6, g6, s11, h27, h28, h29, h30, h31, h32, h33⟩ := j3
    unfold P.draw_Number.b2 at e3
    refine c_sr (o_lss hti2 h33 (c_nil (c_sq ?_)))
    refine c_ift rfl (Int.ofNat_lt.2 q14) ?_
    refine c_sk (c_sq (c_bk (c_sr ?_)))
    refine o_idx (v := w1) h32 hti2 (h18.mono g6.v) rfl (Pu.ix_nat.trans q13) fun p1 q16 => ?_
    refine o_ldb rfl (h18.mono g6.v) s11.v q16 (Pu.ix_nat.trans q13) ?_
    refine o_mv (v := (.bool x5)) rfl ?_
    refine c_nil (c_sr (o_mv h31 (o_mul rfl rfl ?_)))
    refine o_mv (v := (vi (Pu.W (s10 * 2)))) rfl ?_
    refine c_nil (c_sr ?_)
    refine o_mv (v := (.bool x5)) rfl ?_
    refine c_nil ?_
    obtain ⟨y6, e4, e3⟩ := oB e3
    refine c_jn (I := fun tm H => ∃ (Z7 V7 : PH), Gw Z6 V6 Z7 V7 ∧ Sat Z7 V7 H [] ∧ tm 0 = (vi a0) ∧ tm 1 = v1 ∧ tm 7 = (vi s4) ∧ tm 8 = (vi s6) ∧ tm 9 = (vi y6) ∧ tm 35 = w1 ∧ tm 36 = (vN x4) ∧ tm 37 = (vJ i6)) (fun k11 => ?_) ?_
    ·refine c_if rfl (fun q17 => ?_) (fun q17 => ?_)
     ·replace e4 := if_t q17 e4
      refine c_r ?_
      refine o_mv (v := (vi (Pu.W (s10 * 2)))) rfl ?_
      refine o_add rfl rfl ?_
      refine o_mv (v := (vi (Pu.W ((Pu.W (s10 * 2)) + 1)))) rfl ?_
      refine c_nil ?_
      obtain rfl := oJ e4
      exact k11 _ _ ⟨_, _, Gw.refl _ _, s11, h27, h28, h29, h30, rfl, h32, h33, hti2⟩
     replace e4 := ib_f q17 e4
     refine c_sk ?_
     obtain rfl := oJ e4
     exact k11 _ _ ⟨_, _, Gw.refl _ _, s11, h27, h28, h29, h30, rfl, h32, h33, hti2⟩
    intro _ H10 i7
    obtain ⟨Z7, V7, g7, s13, h34, h35, h36, h37, h38, h39, h40, h41⟩ := i7
    refine c_end (c_r (o_add h41 rfl ?_))
    refine o_mv (v := (vi (Pu.W ((i6 : Int) + 1)))) rfl ?_
    refine c_nil ?_
    obtain rfl := oJ e3
    exact k10 _ _ ⟨(iv rfl (w_suc q14 (h18).bd)), _, _, (g6.trans g7), s13, h34, h35, h36, h37, h38, h39, h40⟩
   obtain ⟨hte2, Z8, V8, g8, s14, h42, h43, h44, h45, h46, h47, h48⟩ := jd
   refine c_sr (o_lss hte2 h48 (c_nil (c_sq ?_)))
   refine c_iff rfl (Int.lt_irrefl _) ?_
   refine c_ex ?_
   refine e_c ?_
   refine e_c ?_
   refine e_h ?_
   refine c_sr (o_mv h45 (o_mv h44 (o_add rfl rfl ?_)))
   refine o_mv (v := (vi (Pu.W (s6 + s4)))) rfl ?_
   refine c_nil (c_sr (o_mv h46 (o_mv h42 (o_lss rfl rfl ?_))))
   refine c_nil ?_
   refine c_ifd rfl (fun q18 => ?_) (fun q18 => ?_)
   ·replace e2 := if_t q18 e2
    refine c_sr (o_mv h46 ?_)
    refine o_mv (v := (vi (Pu.W (s6 + s4)))) rfl ?_
    refine o_mv (v := (vi y5)) rfl ?_
    refine o_mv (v := (vi (Pu.W (s6 + s4)))) rfl ?_
    refine o_mv (v := (vi 0)) rfl ?_
    refine c_nil ?_
    refine c_gen (P := fun tm => tm 4 = (vi y5) ∧ tm 5 = (vi (Pu.W (s6 + s4))) ∧ tm 6 = (vi 0) ∧ True) ⟨rfl, rfl, rfl, trivial⟩ ?_
    intro _ i8
    obtain ⟨h49, h50, h51, -⟩ := i8
    refine c_rt ?_
    have e5 := fin_r (k8 _ (sJ e2)) e
    obtain rfl := oJ e5
    exact ⟨.inr rfl, _, (ar3 h49 h50 h51), rfl, (s14.weak (g1.trans (g3.trans (g4.trans g8))) hs.zv)⟩
   replace e2 := if_f q18 e2
   refine c_sk (c_end ?_)
   exact k6 _ _ _ (sJ e2) ⟨_, _, (g4.trans g8), s14, h42, h43, h44, rfl⟩
  replace e2 := if_f q11 e2
  refine c_ex ?_
  refine e_c ?_
  refine e_c ?_
  refine e_h ?_
  exact k9 _ _ ⟨_, k7 _ (sJ e2), _, _, g4, s7, h10, h11, h12, h13⟩
 intro _ H7 i9
 obtain ⟨s8, f2, Z5, V5, g5, s9, h14, h15, h16, h17⟩ := i9
 replace e := fin_o f2 e
 refine c_sr ?_
 refine o_mv (v := (vi 0)) rfl ?_
 refine o_mv (v := (vi 0)) rfl ?_
 refine o_mv (v := (vi 5)) rfl ?_
 refine c_nil (c_rt ?_)
 obtain rfl := oJ e
 exact ⟨.inr rfl, _, (ar3 rfl rfl rfl), rfl, (s9.weak (g1.trans (g3.trans g5)) hs.zv)⟩
structure Nd.draw_Tree (T : FuncId → Option AFunc) : Prop where
 own : Has T I.draw_Tree F.draw_Tree
 rank_Count : Nd.rank_Count T
 draw_Number : Nd.draw_Number T
 rank_Tree : Nd.rank_Tree T
set_option maxHeartbeats 1000000 in
theorem X.draw_Tree {T : FuncId → Option AFunc} (nd : Nd.draw_Tree T) {φ : Nat} {Z V : PH} {H : Hp} {v1 : Value} {v2 : Value} {a0 : Ty.api_Grammar} {a1 : Int} {a2 : (List Bool)} (hs : Sat Z V H []) (hp1 : RdS Sh.api_Rule Z v1 a0.Rules) (hp2 : RdS Sh.bool Z v2 a2) {r : (Ty.api_Tree × Int × Int)} (e : P.draw_Tree φ a0 a1 a2 = some r) :
 G T I.draw_Tree [(.agg #[vi a0.Terms, vi a0.Nons, vi a0.Start, v1]), vi a1, v2] H (fun rv H' => ∃ (u1 : Value), rv = (.tuple #[(.agg #[vi r.1.Rule, vi r.1.Term, u1]), vi r.2.1, vi r.2.2]) ∧ Sat Z V H' [It.sl (Sh.ro Sh.api_Tree) u1 r.1.Kids]) := by
 unfold P.draw_Tree at e
 refine f_mk nd.own ?_
 refine c_sr ?_
 obtain ⟨d1, rfl⟩ := (hp1).val
 refine o_box hs rfl rfl fun b1 H1 s1 => ?_
 refine o_new s1 fun b2 H2 s2 => ?_
 refine o_mv (v := (vi 0)) rfl ?_
 refine o_mv (v := (vi 0)) rfl ?_
 refine c_nil (c_sr (o_ldB 1 s2 rfl rfl rfl rfl ?_))
 refine o_mv (v := (vi a1)) rfl ?_
 obtain ⟨x1, q1, e⟩ := oB e
 obtain ⟨Z1, V1, W1, g1, u1, c1, c2, -, c4, c3⟩ := Sat.call (l1 := []) s2
 refine o_call (mc rfl (mc rfl m0)) (X.rank_Count nd.rank_Count c1 (hp1.mono g1.z) q1) fun _ H3 i1 => ?_
 obtain ⟨rfl, s3⟩ := i1
 have s4 := c3 _ _ s3
 refine o_mv (v := (.tuple #[vi x1.1, vi x1.2])) rfl ?_
 refine o_ext rfl rfl (o_ext rfl rfl ?_)
 refine o_mv (v := (vi x1.1)) rfl ?_
 refine o_mv (v := (vi x1.2)) rfl ?_
 refine c_nil ?_
 refine c_gen (P := fun tm => tm 1 = (vi a1) ∧ tm 2 = v2 ∧ tm 3 = (pV b1 0) ∧ tm 6 = (pV b2 0) ∧ tm 9 = (vi x1.1) ∧ tm 10 = (vi x1.2) ∧ True) ⟨rfl, rfl, rfl, rfl, rfl, rfl, trivial⟩ ?_
 intro _ i2
 obtain ⟨h1, h2, h3, h4, h5, h6, -⟩ := i2
 refine c_sq (c_sr (o_mv h6 (o_neq rfl rfl (c_nil ?_))))
 refine c_ifd rfl (fun q2 => ?_) (fun q2 => ?_)
 ·replace e := if_t q2 e
  refine c_sr ?_
  refine o_bld (qs := []) rfl rfl ?_
  refine o_mv h6 ?_
  refine o_stB (us' := [vi 0, vi 0, (.slice none 0 0)]) 0 s4 rfl h4 rfl rfl rfl rfl rfl fun H4 s5 => ?_
  refine o_mv (v := (vi 0)) rfl ?_
  refine o_mv (v := (vi x1.2)) rfl ?_
  refine c_nil (c_rt ?_)
  obtain rfl := oJ e
  exact ⟨.inr rfl, _, (ra3 (rac 0 s5 rfl h4 rfl rfl) (rat rfl) (rat rfl)), _, rfl, (((s5.push (sl_nil (s := (Sh.ro Sh.api_Tree)))).pick [0] rfl).weak g1 hs.zv)⟩
 replace e := if_f q2 e
 refine c_sk (c_sq (c_sr (o_mv h5 (o_eql rfl rfl ?_))))
 refine c_nil ?_
 refine c_ifd rfl (fun q3 => ?_) (fun q3 => ?_)
 ·replace e := if_t q3 e
  refine c_sr ?_
  refine o_bld (qs := []) rfl rfl ?_
  refine o_stB (us' := [vi 0, vi 0, (.slice none 0 0)]) 0 s4 rfl h4 rfl rfl rfl rfl rfl fun H5 s6 => ?_
  refine o_mv (v := (vi 0)) rfl ?_
  refine o_mv (v := (vi 10)) rfl ?_
  refine c_nil (c_rt ?_)
  obtain rfl := oJ e
  exact ⟨.inr rfl, _, (ra3 (rac 0 s6 rfl h4 rfl rfl) (rat rfl) (rat rfl)), _, rfl, (((s6.push (sl_nil (s := (Sh.ro Sh.api_Tree)))).pick [0] rfl).weak g1 hs.zv)⟩
 replace e := if_f q3 e
 refine c_sk (c_sr (o_mv h5 (o_mv h2 ?_)))
 obtain ⟨x2, q4, e⟩ := oB e
 obtain ⟨Z2, V2, W2, g2, u2, c5, c6, -, c8, c7⟩ := Sat.call (l1 := []) s4
 refine o_call (mc rfl (mc rfl m0)) (X.draw_Number nd.draw_Number c5 (hp2.mono ((g1.trans g2).z.trans c5.zv)) q4) fun _ H6 i3 => ?_
 obtain ⟨rfl, s7⟩ := i3
 have s8 := c7 _ _ s7
 refine o_mv (v := (.tuple #[vi x2.1, vi x2.2.1, vi x2.2.2])) rfl ?_
 refine o_ext rfl rfl (o_ext rfl rfl (o_ext rfl rfl ?_))
 refine o_mv (v := (vi x2.1)) rfl ?_
 refine o_mv (v := (vi x2.2.1)) rfl ?_
 refine o_mv (v := (vi x2.2.2)) rfl ?_
 refine c_nil ?_
 refine c_gen (P := fun tm => tm 1 = (vi a1) ∧ tm 3 = (pV b1 0) ∧ tm 6 = (pV b2 0) ∧ tm 10 = (vi x2.2.2) ∧ tm 11 = (vi x2.1) ∧ tm 12 = (vi x2.2.1) ∧ True) ⟨h1, h3, h4, rfl, rfl, rfl, trivial⟩ ?_
 intro _ i4
 obtain ⟨h7, h8, h9, h10, h11, h12, -⟩ := i4
 refine c_sq (c_sr (o_mv h10 (o_neq rfl rfl (c_nil ?_))))
 refine c_ifd rfl (fun q5 => ?_) (fun q5 => ?_)
 ·replace e := if_t q5 e
  refine c_sr ?_
  refine o_bld (qs := []) rfl rfl ?_
  refine o_mv h10 ?_
  refine o_stB (us' := [vi 0, vi 0, (.slice none 0 0)]) 0 s8 rfl h9 rfl rfl rfl rfl rfl fun H7 s9 => ?_
  refine o_mv (v := (vi 0)) rfl ?_
  refine o_mv (v := (vi x2.2.2)) rfl ?_
  refine c_nil (c_rt ?_)
  obtain rfl := oJ e
  exact ⟨.inr rfl, _, (ra3 (rac 0 s9 rfl h9 rfl rfl) (rat rfl) (rat rfl)), _, rfl, (((s9.push (sl_nil (s := (Sh.ro Sh.api_Tree)))).pick [0] rfl).weak (g1.trans g2) hs.zv)⟩
 replace e := if_f q5 e
 refine c_sk (c_sr (o_ldB 1 s8 rfl h8 rfl rfl (o_mv h7 (o_mv h11 ?_))))
 obtain ⟨x3, q6, e⟩ := oB e
 obtain ⟨Z3, V3, W3, g3, u3, c9, c10, -, c12, c11⟩ := Sat.call (l1 := []) s8
 refine o_call (mc rfl (mc rfl (mc rfl m0))) (X.rank_Tree nd.rank_Tree c9 (hp1.mono ((g1.trans g2).trans g3).z) q6) fun _ H8 i5 => ?_
 obtain ⟨w1, rfl, s10⟩ := i5
 have s11 := c11 _ _ s10
 refine o_mv (v := (.tuple #[(.agg #[vi x3.1.Rule, vi x3.1.Term, w1]), vi x3.2])) rfl ?_
 refine o_ext rfl rfl (o_ext rfl rfl ?_)
 refine o_new s11 fun b3 H9 s12 => ?_
 obtain ⟨d2, rfl⟩ := ((s12.curS (s := (Sh.ro Sh.api_Tree)) 1 rfl)).val
 refine o_stB (us' := [vi x3.1.Rule, vi x3.1.Term, (vS d2 x3.1.Kids)]) 0 s12 rfl rfl rfl rfl rfl rfl rfl fun H10 s13 => ?_
 refine o_mv (v := (vi x3.2)) rfl ?_
 refine c_nil ?_
 refine c_gen (P := fun tm => tm 6 = (pV b2 0) ∧ tm 10 = (vi x3.2) ∧ tm 12 = (vi x2.2.1) ∧ tm 13 = (pV b3 0) ∧ True) ⟨h9, rfl, h12, rfl, trivial⟩ ?_
 intro _ i6
 obtain ⟨h13, h14, h15, h16, -⟩ := i6
 refine c_sr (o_ldB 0 s13 rfl h16 rfl rfl (o_mv h15 (o_mv h14 ?_)))
 refine o_stB (us' := [vi x3.1.Rule, vi x3.1.Term, (vS d2 x3.1.Kids)]) 2 s13 rfl h13 rfl rfl rfl rfl rfl fun H11 s14 => ?_
 refine o_mv (v := (vi x2.2.1)) rfl ?_
 refine o_mv (v := (vi x3.2)) rfl ?_
 refine c_nil (c_rt ?_)
 obtain rfl := oJ e
 exact ⟨.inr rfl, _, (ra3 (rac 2 s14 rfl h13 rfl rfl) (rat rfl) (rat rfl)), _, rfl, ((s14.pick [1] rfl).weak (g1.trans (g2.trans g3)) hs.zv)⟩
structure Nd.parlkeep5_DrawTree (T : FuncId → Option AFunc) : Prop where
 own : Has T I.parlkeep5_DrawTree F.parlkeep5_DrawTree
 parlmake_Grammar : Nd.parlmake_Grammar T
 parlkeep5_below : Nd.parlkeep5_below T
 parlkeep5_plain : Nd.parlkeep5_plain T
 draw_Tree : Nd.draw_Tree T
 rank_Count : Nd.rank_Count T
 draw_Number : Nd.draw_Number T
 rank_Tree : Nd.rank_Tree T
 tree_Check : Nd.tree_Check T
 tree_Word : Nd.tree_Word T
 tree_Compare : Nd.tree_Compare T
set_option maxHeartbeats 1000000 in
theorem X.parlkeep5_DrawTree {T : FuncId → Option AFunc} (nd : Nd.parlkeep5_DrawTree T) {φ : Nat} {Z V : PH} {H : Hp} {v1 : Value} {v2 : Value} {a0 : (List Int)} {a1 : Int} {a2 : (List Bool)} (hs : Sat Z V H []) (hp1 : RdS Sh.int Z v1 a0) (hp2 : RdS Sh.bool Z v2 a2) {r : Bool} (e : P.parlkeep5_DrawTree φ a0 a1 a2 = some r) :
 G T I.parlkeep5_DrawTree [v1, vi a1, v2] H (fun rv H' => rv = (.bool r) ∧ Sat Z V H' []) := by
 unfold P.parlkeep5_DrawTree at e
 refine f_mk nd.own ?_
 refine c_sr ?_
 refine o_mv (v := (.bool false)) rfl ?_
 refine c_nil (c_sr ?_)
 refine o_mv (v := v1) rfl ?_
 obtain ⟨x1, q1, e⟩ := oB e
 obtain ⟨Z1, V1, W1, g1, u1, c1, c2, -, c4, c3⟩ := Sat.call (l1 := []) hs
 refine o_call (mc rfl m0) (X.parlmake_Grammar nd.parlmake_Grammar c1 (hp1.mono g1.z) q1) fun _ H1 i1 => ?_
 obtain ⟨w1, rfl, s1⟩ := i1
 have s2 := c3 _ _ s1
 refine o_new s2 fun b1 H2 s3 => ?_
 obtain ⟨d1, rfl⟩ := ((s3.curS (s := (Sh.ro Sh.api_Rule)) 1 rfl)).val
 refine o_stB (us' := [vi x1.Terms, vi x1.Nons, vi x1.Start, (vS d1 x1.Rules)]) 0 s3 rfl rfl rfl rfl rfl rfl rfl fun H3 s4 => ?_
 refine c_nil (c_sr ?_)
 refine o_mv (v := (vi a1)) rfl ?_
 obtain ⟨x2, q2, e⟩ := oB e
 obtain ⟨Z2, V2, W2, g2, u2, c5, c6, -, c8, c7⟩ := Sat.call (l1 := []) s4
 refine o_call (mc rfl (mc rfl m0)) (X.parlkeep5_below nd.parlkeep5_below c5 q2) fun _ H4 i2 => ?_
 obtain ⟨rfl, s5⟩ := i2
 have s6 := c7 _ _ s5
 refine o_mv (v := (vi x2)) rfl ?_
 refine c_nil (c_sq (c_sr ?_))
 obtain ⟨x3, q3, e⟩ := oB e
 obtain ⟨Z3, V3, W3, g3, u3, c9, c10, -, c12, c11⟩ := Sat.call (l1 := []) s6
 refine o_call m0 (X.parlkeep5_plain nd.parlkeep5_plain c9 q3) fun _ H5 i3 => ?_
 obtain ⟨w2, rfl, s7⟩ := i3
 have s8 := c11 _ _ s7
 obtain ⟨Z4, V4, g4, s9, h1⟩ := s8.frzS 0 rfl
 replace h1 := h1.of_ro
 obtain ⟨x4, q4, e⟩ := oB e
 obtain ⟨Z5, V5, W4, g5, u4, c13, c14, -, c16, c15⟩ := Sat.call (l1 := []) s9
 refine o_call (mc rfl (mc rfl (mc rfl m0))) (X.draw_Tree nd.draw_Tree c13 (h1.mono g5.z) RdS.nil q4) fun _ H6 i4 => ?_
 obtain ⟨w3, rfl, s10⟩ := i4
 have s11 := c15 _ _ s10
 refine o_mv (v := (.tuple #[(.agg #[vi x4.1.Rule, vi x4.1.Term, w3]), vi x4.2.1, vi x4.2.2])) rfl ?_
 refine o_ext rfl rfl (o_ext rfl rfl (o_ext rfl rfl ?_))
 refine o_new s11 fun b2 H7 s12 => ?_
 obtain ⟨d2, rfl⟩ := ((s12.curS (s := (Sh.ro Sh.api_Tree)) 1 rfl)).val
 refine o_stB (us' := [vi x4.1.Rule, vi x4.1.Term, (vS d2 x4.1.Kids)]) 0 s12 rfl rfl rfl rfl rfl rfl rfl fun H8 s13 => ?_
 refine o_mv (v := (vi x4.2.1)) rfl ?_
 refine o_mv (v := (vi x4.2.2)) rfl ?_
 refine c_nil ?_
 refine c_gen (P := fun tm => tm 1 = (vi x2) ∧ tm 2 = v2 ∧ tm 7 = (pV b1 0) ∧ tm 8 = (pV b2 0) ∧ tm 10 = (vi x4.2.2) ∧ True) ⟨rfl, rfl, rfl, rfl, rfl, trivial⟩ ?_
 intro _ i5
 obtain ⟨h2, h3, h4, h5, h6, -⟩ := i5
 refine c_sr (o_mv h6 (o_neq rfl rfl ?_))
 refine o_mv (v := (.bool (decide (x4.2.2 ≠ 0)))) rfl ?_
 refine o_jn 5 (I := fun tm H => tm 38 = .bool ((decide (x4.2.2 ≠ 0)) || (decide ((x4.1.Kids.length : Int) ≠ 1))) ∧ (∃ (Z6 V6 : PH), Gw Z5 V5 Z6 V6 ∧ Sat Z6 V6 H [pts b1 (.rw 0 [vi x1.Terms, vi x1.Nons, vi x1.Start, (vS d1 x1.Rules)]), It.sl (Sh.ro Sh.api_Rule) (vS d1 x1.Rules) x1.Rules] ∧ tm 1 = (vi x2) ∧ tm 2 = v2 ∧ tm 7 = (pV b1 0))) (fun k1 => ?_) ?_
 ·rcases Bool.eq_false_or_eq_true (decide (x4.2.2 ≠ 0)) with q5 | q5
  ·refine o_gn rfl q5 (o_gn rfl q5 (o_gn rfl q5 (o_gn rfl q5 ?_)))
   refine o_pickt (a := (.bool true)) rfl q5 rfl ?_
   exact k1 _ _ ⟨gf rfl (by first | (rw [q5]; first | done | rfl) | simp [q5]), _, _, Gw.refl _ _, (s13.pick [2, 3] rfl), h2, h3, h4⟩
  refine o_gy rfl q5 (o_fad h5 (o_gy rfl q5 (o_ldB 0 s13 rfl rfl rfl rfl (o_gy rfl q5 ?_))))
  refine o_len rfl ((s13.curS (s := (Sh.ro Sh.api_Tree)) 1 rfl)).len ?_
  refine o_gy rfl q5 (o_neq rfl rfl ?_)
  refine o_pickf (b := (.bool (decide ((x4.1.Kids.length : Int) ≠ 1)))) rfl q5 rfl ?_
  exact k1 _ _ ⟨gf rfl (by first | (rw [q5]; first | done | rfl) | simp [q5]), _, _, Gw.refl _ _, (s13.pick [2, 3] rfl), h2, h3, h4⟩
 intro _ H9 i6
 obtain ⟨h10, Z6, V6, g6, s14, h7, h8, h9⟩ := i6
 refine c_nil ?_
 refine c_if h10 (fun q6 => ?_) (fun q6 => ?_)
 ·replace e := if_t q6 e
  refine c_sr ?_
  refine o_mv (v := (.bool false)) rfl ?_
  refine c_nil (c_rt ?_)
  obtain rfl := oJ e
  exact ⟨.inr rfl, _, (ar1 rfl), rfl, ((s14.pick [] rfl).weak (g1.trans (g2.trans (g3.trans (g4.trans (g5.trans g6))))) hs.zv)⟩
 replace e := ib_f q6 e
 refine c_sk (c_sr (o_ldB 0 s14 rfl h9 rfl rfl (o_mv h7 (o_mv h8 ?_))))
 obtain ⟨Z7, V7, g7, s15, h11⟩ := s14.frzS 1 rfl
 replace h11 := h11.of_ro
 obtain ⟨x5, q7, e⟩ := oB e
 obtain ⟨Z8, V8, W5, g8, u5, c17, c18, -, c20, c19⟩ := Sat.call (l1 := []) s15
 refine o_call (mc rfl (mc rfl (mc rfl m0))) (X.draw_Tree nd.draw_Tree c17 (h11.mono g8.z) (hp2.mono ((g1.trans (g2.trans (g3.trans (g4.trans (g5.trans (g6.trans g7)))))).trans g8).z) q7) fun _ H10 i7 => ?_
 obtain ⟨w4, rfl, s16⟩ := i7
 have s17 := c19 _ _ s16
 refine o_mv (v := (.tuple #[(.agg #[vi x5.1.Rule, vi x5.1.Term, w4]), vi x5.2.1, vi x5.2.2])) rfl ?_
 refine o_ext rfl rfl (o_ext rfl rfl (o_ext rfl rfl ?_))
 refine o_new s17 fun b3 H11 s18 => ?_
 obtain ⟨d3, rfl⟩ := ((s18.curS (s := (Sh.ro Sh.api_Tree)) 1 rfl)).val
 refine o_stB (us' := [vi x5.1.Rule, vi x5.1.Term, (vS d3 x5.1.Kids)]) 0 s18 rfl rfl rfl rfl rfl rfl rfl fun H12 s19 => ?_
 refine o_mv (v := (vi x5.2.1)) rfl ?_
 refine o_mv (v := (vi x5.2.2)) rfl ?_
 refine c_nil ?_
 refine c_gen (P := fun tm => tm 1 = (vi x2) ∧ tm 2 = v2 ∧ tm 7 = (pV b1 0) ∧ tm 11 = (pV b3 0) ∧ tm 12 = (vi x5.2.1) ∧ tm 13 = (vi x5.2.2) ∧ True) ⟨h7, h8, h9, rfl, rfl, rfl, trivial⟩ ?_
 intro _ i8
 obtain ⟨h12, h13, h14, h15, h16, h17, -⟩ := i8
 refine c_sq (c_sr (o_mv h17 (o_neq rfl rfl (c_nil ?_))))
 refine c_ifd rfl (fun q8 => ?_) (fun q8 => ?_)
 ·replace e := if_t q8 e
  refine c_sr (o_mv h16 (o_eql rfl rfl ?_))
  refine o_mv (v := (.bool (decide (x5.2.1 = 0)))) rfl ?_
  refine c_nil (c_rt ?_)
  obtain rfl := oJ e
  exact ⟨.inr rfl, _, (ar1 rfl), rfl, ((s19.pick [] rfl).weak (g1.trans (g2.trans (g3.trans (g4.trans (g5.trans (g6.trans (g7.trans g8))))))) hs.zv)⟩
 replace e := if_f q8 e
 refine c_sk (c_sr (o_ldB 2 s19 rfl h14 rfl rfl (o_mv h12 ?_)))
 obtain ⟨x6, q9, e⟩ := oB e
 obtain ⟨Z9, V9, W6, g9, u6, c21, c22, -, c24, c23⟩ := Sat.call (l1 := []) s19
 refine o_call (mc rfl (mc rfl m0)) (X.rank_Count nd.rank_Count c21 (h11.mono (g8.trans g9).z) q9) fun _ H13 i9 => ?_
 obtain ⟨rfl, s20⟩ := i9
 have s21 := c23 _ _ s20
 refine o_mv (v := (.tuple #[vi x6.1, vi x6.2])) rfl ?_
 refine o_ext rfl rfl (o_ext rfl rfl ?_)
 refine o_mv (v := (vi x6.1)) rfl ?_
 refine o_mv (v := (vi x6.2)) rfl ?_
 refine c_nil ?_
 refine c_gen (P := fun tm => tm 1 = (vi x2) ∧ tm 2 = v2 ∧ tm 7 = (pV b1 0) ∧ tm 11 = (pV b3 0) ∧ tm 12 = (vi x5.2.1) ∧ tm 14 = (vi x6.1) ∧ True) ⟨h12, h13, h14, h15, h16, rfl, trivial⟩ ?_
 intro _ i10
 obtain ⟨h18, h19, h20, h21, h22, h23, -⟩ := i10
 refine c_sr (o_mv h23 (o_mv h19 ?_))
 obtain ⟨x7, q10, e⟩ := oB e
 obtain ⟨Z10, V10, W7, g10, u7, c25, c26, -, c28, c27⟩ := Sat.call (l1 := []) s21
 refine o_call (mc rfl (mc rfl m0)) (X.draw_Number nd.draw_Number c25 (hp2.mono (((g1.trans (g2.trans (g3.trans (g4.trans (g5.trans (g6.trans (g7.trans (g8.trans g9)))))))).trans g10).z.trans c25.zv)) q10) fun _ H14 i11 => ?_
 obtain ⟨rfl, s22⟩ := i11
 have s23 := c27 _ _ s22
 refine o_mv (v := (.tuple #[vi x7.1, vi x7.2.1, vi x7.2.2])) rfl ?_
 refine o_ext rfl rfl (o_ext rfl rfl (o_ext rfl rfl ?_))
 refine o_mv (v := (vi x7.1)) rfl ?_
 refine o_mv (v := (vi x7.2.1)) rfl ?_
 refine o_mv (v := (vi x7.2.2)) rfl ?_
 refine c_nil ?_
 refine c_gen (P := fun tm => tm 1 = (vi x2) ∧ tm 7 = (pV b1 0) ∧ tm 11 = (pV b3 0) ∧ tm 12 = (vi x5.2.1) ∧ tm 16 = (vi x7.1) ∧ tm 17 = (vi x7.2.1) ∧ tm 18 = (vi x7.2.2) ∧ True) ⟨h18, h20, h21, h22, rfl, rfl, rfl, trivial⟩ ?_
 intro _ i12
 obtain ⟨h24, h25, h26, h27, h28, h29, h30, -⟩ := i12
 refine c_sr (o_ldB 2 s23 rfl h25 rfl rfl (o_mv h24 (o_mv h28 ?_)))
 obtain ⟨x8, q11, e⟩ := oB e
 obtain ⟨Z11, V11, W8, g11, u8, c29, c30, -, c32, c31⟩ := Sat.call (l1 := []) s23
 refine o_call (mc rfl (mc rfl (mc rfl m0))) (X.rank_Tree nd.rank_Tree c29 (h11.mono ((g8.trans (g9.trans g10)).trans g11).z) q11) fun _ H15 i13 => ?_
 obtain ⟨w5, rfl, s24⟩ := i13
 have s25 := c31 _ _ s24
 refine o_mv (v := (.tuple #[(.agg #[vi x8.1.Rule, vi x8.1.Term, w5]), vi x8.2])) rfl ?_
 refine o_ext rfl rfl (o_ext rfl rfl ?_)
 refine o_new s25 fun b4 H16 s26 => ?_
 obtain ⟨d4, rfl⟩ := ((s26.curS (s := (Sh.ro Sh.api_Tree)) 1 rfl)).val
 refine o_stB (us' := [vi x8.1.Rule, vi x8.1.Term, (vS d4 x8.1.Kids)]) 0 s26 rfl rfl rfl rfl rfl rfl rfl fun H17 s27 => ?_
 refine o_mv (v := (vi x8.2)) rfl ?_
 refine c_nil (c_sr (o_ldB 4 s27 rfl h25 rfl rfl (o_ldB 2 s27 rfl h26 rfl rfl ?_)))
 obtain ⟨x9, q12, e⟩ := oB e
 obtain ⟨Z12, V12, W9, g12, u9, c33, c34, -, c36, c35⟩ := Sat.call (l1 := []) s27
 refine o_call (mc rfl (mc rfl m0)) (X.tree_Check nd.tree_Check c33 (h11.mono (((g8.trans (g9.trans (g10.trans g11))).trans g12).z.trans c33.zv)) (c34 3 _ (Sh.ro Sh.api_Tree) _ _ rfl) q12) fun _ H18 i14 => ?_
 obtain ⟨rfl, s28⟩ := i14
 have s29 := c35 _ _ s28
 refine o_eql rfl rfl ?_
 refine o_mv (v := (.bool (decide (x9 = 0)))) rfl ?_
 obtain ⟨y1, e1, e⟩ := oB e
 refine o_jn 6 (I := fun tm H => ∃ (Z13 V13 : PH), Gw Z12 V12 Z13 V13 ∧ Sat Z13 V13 H [pts b3 (.rw 0 [vi x5.1.Rule, vi x5.1.Term, (vS d3 x5.1.Kids)]), It.sl (Sh.ro Sh.api_Tree) (vS d3 x5.1.Kids) x5.1.Kids, pts b4 (.rw 0 [vi x8.1.Rule, vi x8.1.Term, (vS d4 x8.1.Kids)]), It.sl (Sh.ro Sh.api_Tree) (vS d4 x8.1.Kids) x8.1.Kids] ∧ tm 11 = (pV b3 0) ∧ tm 12 = (vi x5.2.1) ∧ tm 17 = (vi x7.2.1) ∧ tm 18 = (vi x7.2.2) ∧ tm 19 = (pV b4 0) ∧ tm 20 = (vi x8.2) ∧ tm 81 = (.bool y1)) (fun k2 => ?_) ?_
 ·rcases Bool.eq_false_or_eq_true (decide (x9 = 0)) with q13 | q13
  ·replace e1 := if_t q13 e1
   refine o_gy rfl q13 (o_ldB 2 s29 rfl h26 rfl rfl (o_gy rfl q13 ?_))
   obtain ⟨x10, q14, e1⟩ := oB e1
   obtain ⟨Z14, V14, W10, g14, u10, c37, c38, -, c40, c39⟩ := Sat.call (l1 := []) s29
   refine o_call (mc rfl m0) (X.tree_Word nd.tree_Word c37 (c38 3 _ (Sh.ro Sh.api_Tree) _ _ rfl) q14) fun w6 H20 i15 => ?_
   obtain ⟨_, rfl, s31⟩ := i15
   have s32 := c39 _ _ s31
   refine o_gy rfl q13 ?_
   refine o_len rfl ((s32.curS (s := Sh.int) 0 rfl)).len ?_
   refine o_gy rfl q13 (o_mv h24 (o_gy rfl q13 (o_eql rfl rfl ?_)))
   refine o_pickt (a := (.bool (decide ((x10.length : Int) = x2)))) rfl q13 rfl ?_
   obtain rfl := oJ e1
   exact k2 _ _ ⟨_, _, g14, (s32.pick [3, 4, 1, 2] rfl), h26, h27, h29, h30, rfl, rfl, rfl⟩
  replace e1 := ib_f q13 e1
  refine o_gn rfl q13 (o_gn rfl q13 (o_gn rfl q13 (o_gn rfl q13 (o_gn rfl q13 ?_))))
  refine o_pickf (b := (.bool false)) rfl q13 rfl ?_
  obtain rfl := oJ e1
  exact k2 _ _ ⟨_, _, Gw.refl _ _, (s29.pick [2, 3, 0, 1] rfl), h26, h27, h29, h30, rfl, rfl, rfl⟩
 intro _ H19 i16
 obtain ⟨Z13, V13, g13, s30, h31, h32, h33, h34, h35, h36, h37⟩ := i16
 refine o_mv h37 ?_
 refine o_jn 3 (I := fun tm H => tm 85 = .bool (y1 && (decide (x7.2.2 = 0))) ∧ (∃ (Z15 V15 : PH), Gw Z13 V13 Z15 V15 ∧ Sat Z15 V15 H [pts b3 (.rw 0 [vi x5.1.Rule, vi x5.1.Term, (vS d3 x5.1.Kids)]), It.sl (Sh.ro Sh.api_Tree) (vS d3 x5.1.Kids) x5.1.Kids, pts b4 (.rw 0 [vi x8.1.Rule, vi x8.1.Term, (vS d4 x8.1.Kids)]), It.sl (Sh.ro Sh.api_Tree) (vS d4 x8.1.Kids) x8.1.Kids] ∧ tm 11 = (pV b3 0) ∧ tm 12 = (vi x5.2.1) ∧ tm 17 = (vi x7.2.1) ∧ tm 19 = (pV b4 0) ∧ tm 20 = (vi x8.2))) (fun k3 => ?_) ?_
 ·rcases Bool.eq_false_or_eq_true y1 with q15 | q15
  ·refine o_gy rfl q15 (o_mv h34 (o_gy rfl q15 (o_eql rfl rfl ?_)))
   refine o_pickt (a := (.bool (decide (x7.2.2 = 0)))) rfl q15 rfl ?_
   exact k3 _ _ ⟨gf rfl (by first | (rw [q15]; first | done | rfl) | simp [q15]), _, _, Gw.refl _ _, s30, h31, h32, h33, h35, h36⟩
  refine o_gn rfl q15 (o_gn rfl q15 ?_)
  refine o_pickf (b := (.bool false)) rfl q15 rfl ?_
  exact k3 _ _ ⟨gf rfl (by first | (rw [q15]; first | done | rfl) | simp [q15]), _, _, Gw.refl _ _, s30, h31, h32, h33, h35, h36⟩
 intro _ H21 i17
 obtain ⟨h43, Z15, V15, g15, s33, h38, h39, h40, h41, h42⟩ := i17
 refine o_mv h43 ?_
 refine o_jn 3 (I := fun tm H => tm 89 = .bool ((y1 && (decide (x7.2.2 = 0))) && (decide (x8.2 = 0))) ∧ (∃ (Z16 V16 : PH), Gw Z15 V15 Z16 V16 ∧ Sat Z16 V16 H [pts b3 (.rw 0 [vi x5.1.Rule, vi x5.1.Term, (vS d3 x5.1.Kids)]), It.sl (Sh.ro Sh.api_Tree) (vS d3 x5.1.Kids) x5.1.Kids, pts b4 (.rw 0 [vi x8.1.Rule, vi x8.1.Term, (vS d4 x8.1.Kids)]), It.sl (Sh.ro Sh.api_Tree) (vS d4 x8.1.Kids) x8.1.Kids] ∧ tm 11 = (pV b3 0) ∧ tm 12 = (vi x5.2.1) ∧ tm 17 = (vi x7.2.1) ∧ tm 19 = (pV b4 0))) (fun k4 => ?_) ?_
 ·rcases Bool.eq_false_or_eq_true (y1 && (decide (x7.2.2 = 0))) with q16 | q16
  ·refine o_gy rfl q16 (o_mv h42 (o_gy rfl q16 (o_eql rfl rfl ?_)))
   refine o_pickt (a := (.bool (decide (x8.2 = 0)))) rfl q16 rfl ?_
   exact k4 _ _ ⟨gf rfl (by first | (rw [q16]; first | done | rfl) | simp [q16]), _, _, Gw.refl _ _, s33, h38, h39, h40, h41⟩
  refine o_gn rfl q16 (o_gn rfl q16 ?_)
  refine o_pickf (b := (.bool false)) rfl q16 rfl ?_
  exact k4 _ _ ⟨gf rfl (by first | (rw [q16]; first | done | rfl) | simp [q16]), _, _, Gw.refl _ _, s33, h38, h39, h40, h41⟩
 intro _ H22 i18
 obtain ⟨h48, Z16, V16, g16, s34, h44, h45, h46, h47⟩ := i18
 refine o_mv h48 ?_
 refine o_jn 4 (I := fun tm H => tm 94 = .bool (((y1 && (decide (x7.2.2 = 0))) && (decide (x8.2 = 0))) && (decide (x7.2.1 = x5.2.1))) ∧ (∃ (Z17 V17 : PH), Gw Z16 V16 Z17 V17 ∧ Sat Z17 V17 H [pts b3 (.rw 0 [vi x5.1.Rule, vi x5.1.Term, (vS d3 x5.1.Kids)]), It.sl (Sh.ro Sh.api_Tree) (vS d3 x5.1.Kids) x5.1.Kids, pts b4 (.rw 0 [vi x8.1.Rule, vi x8.1.Term, (vS d4 x8.1.Kids)]), It.sl (Sh.ro Sh.api_Tree) (vS d4 x8.1.Kids) x8.1.Kids] ∧ tm 11 = (pV b3 0) ∧ tm 19 = (pV b4 0))) (fun k5 => ?_) ?_
 ·rcases Bool.eq_false_or_eq_true ((y1 && (decide (x7.2.2 = 0))) && (decide (x8.2 = 0))) with q17 | q17
  ·refine o_gy rfl q17 (o_mv h46 (o_gy rfl q17 (o_mv h45 (o_gy rfl q17 ?_))))
   refine o_eql rfl rfl ?_
   refine o_pickt (a := (.bool (decide (x7.2.1 = x5.2.1)))) rfl q17 rfl ?_
   exact k5 _ _ ⟨gf rfl (by first | (rw [q17]; first | done | rfl) | simp [q17]), _, _, Gw.refl _ _, s34, h44, h47⟩
  refine o_gn rfl q17 (o_gn rfl q17 (o_gn rfl q17 ?_))
  refine o_pickf (b := (.bool false)) rfl q17 rfl ?_
  exact k5 _ _ ⟨gf rfl (by first | (rw [q17]; first | done | rfl) | simp [q17]), _, _, Gw.refl _ _, s34, h44, h47⟩
 intro _ H23 i19
 obtain ⟨h51, Z17, V17, g17, s35, h49, h50⟩ := i19
 refine o_mv h51 ?_
 obtain ⟨y2, e2, e⟩ := oB e
 refine o_jn 5 (I := fun tm H => ∃ (Z18 V18 : PH), Gw Z17 V17 Z18 V18 ∧ Sat Z18 V18 H [] ∧ tm 100 = (.bool y2)) (fun k6 => ?_) ?_
 ·rcases Bool.eq_false_or_eq_true (((y1 && (decide (x7.2.2 = 0))) && (decide (x8.2 = 0))) && (decide (x7.2.1 = x5.2.1))) with q18 | q18
  ·replace e2 := if_t q18 e2
   refine o_gy rfl q18 (o_ldB 0 s35 rfl h49 rfl rfl (o_gy rfl q18 (o_ldB 2 s35 rfl h50 rfl rfl (o_gy rfl q18 ?_))))
   obtain ⟨x11, q19, e2⟩ := oB e2
   obtain ⟨Z19, V19, W11, g19, u11, c41, c42, -, c44, c43⟩ := Sat.call (l1 := []) s35
   refine o_call (mc rfl (mc rfl m0)) (X.tree_Compare nd.tree_Compare c41 (c42 1 _ (Sh.ro Sh.api_Tree) _ _ rfl) (c42 3 _ (Sh.ro Sh.api_Tree) _ _ rfl) q19) fun _ H25 i20 => ?_
   obtain ⟨rfl, s37⟩ := i20
   have s38 := c43 _ _ s37
   refine o_gy rfl q18 (o_eql rfl rfl ?_)
   refine o_pickt (a := (.bool (decide (x11 = 0)))) rfl q18 rfl ?_
   obtain rfl := oJ e2
   exact k6 _ _ ⟨_, _, g19, (s38.pick [] rfl), rfl⟩
  replace e2 := ib_f q18 e2
  refine o_gn rfl q18 (o_gn rfl q18 (o_gn rfl q18 (o_gn rfl q18 ?_)))
  refine o_pickf (b := (.bool false)) rfl q18 rfl ?_
  obtain rfl := oJ e2
  exact k6 _ _ ⟨_, _, Gw.refl _ _, (s35.pick [] rfl), rfl⟩
 intro _ H24 i21
 obtain ⟨Z18, V18, g18, s36, h52⟩ := i21
 refine o_mv h52 (c_nil (c_rt ?_))
 obtain rfl := oJ e
 exact ⟨.inr rfl, _, (ar1 rfl), rfl, (s36.weak (g1.trans (g2.trans (g3.trans (g4.trans (g5.trans (g6.trans (g7.trans (g8.trans (g9.trans (g10.trans (g11.trans (g12.trans (g13.trans (g15.trans (g16.trans (g17.trans g18)))))))))))))))) hs.zv)⟩
end Go.Proofs.Ytmeigkelacoibaa
