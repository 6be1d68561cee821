import Derived.Test.YtmeigkelacoibaaX1
import Derived.Test.YtmeigkelacoibaaGcensus
import Derived.Test.YtmeigkelacoibaaGcmp
import Derived.Test.YtmeigkelacoibaaGgram
import Derived.Test.YtmeigkelacoibaaGparlkeep5
import Derived.Test.YtmeigkelacoibaaGparlmake
import Derived.Test.YtmeigkelacoibaaGrank
import Derived.Test.YtmeigkelacoibaaGslices
import Derived.Test.YtmeigkelacoibaaGtree
namespace Go.Proofs.Ytmeigkelacoibaa
open Go Go.Ab
structure Nd.C6 (T : FuncId → Option AFunc) : Prop where
 own : Has T I.C6 F.C6
 C4 : Nd.C4 T
 D5 : Nd.D5 T
 B4 : Nd.B4 T
 A1 : Nd.A1 T
 B1 : Nd.B1 T
set_option maxHeartbeats 1000000 in
theorem X.C6 {T : FuncId → Option AFunc} (nd : Nd.C6 T) {φ : Nat} {Z V : PH} {H : Hp} {v1 : Value} {a0 : Ty.B2} {a1 : Int} (hs : Sat Z V H []) (hp1 : RdS Sh.A6 Z v1 a0.Rules) {r : ((List (List Int)) × Int)} (e : P.C6 φ a0 a1 = some r) :
 G T I.C6 [(.agg #[vi a0.Terms, vi a0.Nons, vi a0.Start, v1]), vi a1] H (fun rv H' => ∃ (u1 : Value), rv = (.tuple #[u1, vi r.2]) ∧ Sat Z V H' [It.sl sI1 u1 r.1]) := by
 unfold P.C6 at e
 refine f_mk nd.own ?_
 refine c_sr ?_
 obtain ⟨d1, rfl⟩ := (hp1).val
 refine o_box hs rfl rfl fun b1 H1 s1 => ?_
 refine o_mv (v := (.slice none 0 0)) rfl ?_
 refine o_mv (v := (vi 0)) rfl ?_
 refine c_nil (c_sq (c_sr (o_ldB 0 s1 rfl rfl rfl rfl ?_)))
 obtain ⟨x1, q1, e⟩ := oB e
 obtain ⟨Z1, V1, W1, g1, u1, c1, c2, -, c4, c3⟩ := Sat.call (l1 := []) s1
 refine o_call (mc rfl m0) (X.C4 nd.C4 c1 (hp1.mono (g1.z.trans c1.zv)) q1) fun _ H2 i1 => ?_
 obtain ⟨rfl, s2⟩ := i1
 have s3 := c3 _ _ s2
 refine o_mv (v := (vi x1)) rfl ?_
 refine c_nil (c_sr ?_)
 refine o_mv (v := (vi x1)) rfl ?_
 refine o_neq rfl rfl (c_nil ?_)
 refine c_ifd rfl (fun q2 => ?_) (fun q2 => ?_)
 ·replace e := if_t q2 e
  refine c_sr ?_
  refine o_mv (v := (vi x1)) rfl ?_
  refine o_mv (v := (.slice none 0 0)) rfl ?_
  refine o_mv (v := (vi x1)) rfl ?_
  refine c_nil ?_
  refine c_gen (P := fun tm => tm 4 = (.slice none 0 0) ∧ tm 5 = (vi x1) ∧ True) ⟨rfl, rfl, trivial⟩ ?_
  intro _ i2
  obtain ⟨h1, h2, -⟩ := i2
  refine c_rt ?_
  obtain rfl := oJ e
  exact ⟨.inr rfl, _, (ar2 h1 h2), _, rfl, (((s3.push (sl_nil (s := sI1))).pick [0] rfl).weak g1 hs.zv)⟩
 replace e := if_f q2 e
 refine c_sk (c_sq (c_sr ?_))
 refine o_mv (v := (vi a1)) rfl ?_
 refine o_lss rfl rfl ?_
 refine o_mv (v := (.bool (decide (a1 < 0)))) rfl ?_
 refine o_jn 3 (I := fun tm H => tm 21 = .bool ((decide (a1 < 0)) || (decide (24 < a1))) ∧ (∃ (Z2 V2 : PH), Gw Z1 V1 Z2 V2 ∧ Sat Z2 V2 H [pts b1 (.rw 0 [vi a0.Terms, vi a0.Nons, vi a0.Start, (vS d1 a0.Rules)])] ∧ tm 1 = (vi a1) ∧ tm 2 = (pV b1 0))) (fun k1 => ?_) ?_
 ·rcases Bool.eq_false_or_eq_true (decide (a1 < 0)) with q3 | q3
  ·refine o_gn rfl q3 (o_gn rfl q3 ?_)
   refine o_pickt (a := (.bool true)) rfl q3 rfl ?_
   exact k1 _ _ ⟨gf rfl (by first | (rw [q3]; first | done | rfl) | simp [q3]), _, _, Gw.refl _ _, s3, rfl, rfl⟩
  refine o_gy rfl q3 ?_
  refine o_mv (v := (vi a1)) rfl ?_
  refine o_gy rfl q3 (o_gtr rfl rfl ?_)
  refine o_pickf (b := (.bool (decide (24 < a1)))) rfl q3 rfl ?_
  exact k1 _ _ ⟨gf rfl (by first | (rw [q3]; first | done | rfl) | simp [q3]), _, _, Gw.refl _ _, s3, rfl, rfl⟩
 intro _ H3 i3
 obtain ⟨h5, Z2, V2, g2, s4, h3, h4⟩ := i3
 refine c_nil ?_
 refine c_if h5 (fun q4 => ?_) (fun q4 => ?_)
 ·replace e := if_t q4 e
  refine c_sr ?_
  refine o_mv (v := (.slice none 0 0)) rfl ?_
  refine o_mv (v := (vi 1)) rfl ?_
  refine c_nil (c_rt ?_)
  obtain rfl := oJ e
  exact ⟨.inr rfl, _, (ar2 rfl rfl), _, rfl, (((s4.push (sl_nil (s := sI1))).pick [0] rfl).weak (g1.trans g2) hs.zv)⟩
 replace e := ib_f q4 e
 refine c_sk (c_sr (o_ldB 0 s4 rfl h4 rfl rfl (o_mv h3 ?_)))
 obtain ⟨x2, q5, e⟩ := oB e
 obtain ⟨Z3, V3, W2, g3, u2, c5, c6, -, c8, c7⟩ := Sat.call (l1 := []) s4
 refine o_call (mc rfl (mc rfl m0)) (X.D5 nd.D5 c5 (hp1.mono ((g1.trans g2).trans g3).z) q5) fun _ H4 i4 => ?_
 obtain ⟨b2, w1, w2, w3, w4, w5, w6, rfl, s5⟩ := i4
 have s6 := c7 _ _ s5
 obtain ⟨Z4, V4, g4, s7, h6⟩ := (s6.pull 1 rfl).frzR
 refine o_mv (v := (pV b2 0)) rfl ?_
 refine c_nil (c_sr ?_)
 refine o_mv (v := (pV b2 0)) rfl ?_
 obtain ⟨x3, q6, e⟩ := oB e
 obtain ⟨d2, rfl⟩ := (h6).val
 obtain ⟨d3, rfl⟩ := ((s7.curS (s := sB) 1 rfl)).val
 obtain ⟨d4, rfl⟩ := ((s7.curS (s := sB) 2 rfl)).val
 obtain ⟨d5, rfl⟩ := ((s7.curS (s := sI1) 3 rfl)).val
 obtain ⟨d6, rfl⟩ := ((s7.curS (s := sB2) 4 rfl)).val
 obtain ⟨d7, rfl⟩ := ((s7.curS (s := sI2) 5 rfl)).val
 obtain ⟨Z5, V5, W3, g5, u3, c9, c10, -, c12, c11⟩ := Sat.call (l1 := [pts b2 (.rw 0 [vi x2.g.Terms, vi x2.g.Nons, vi x2.g.Start, (vS d2 x2.g.Rules), vi x2.n, (vS d3 x2.has_), (vS d4 x2.loop_), (vS d5 x2.known_), (vS d6 x2.ends), (vS d7 x2.ways)]), Is sB d3 x2.has_, Is sB d4 x2.loop_, Is sI1 d5 x2.known_, Is sB2 d6 x2.ends, Is sI2 d7 x2.ways]) (l2 := [pts b1 (.rw 0 [vi a0.Terms, vi a0.Nons, vi a0.Start, (vS d1 a0.Rules)])]) s7
 refine o_call (mc rfl m0) (X.B4 nd.B4 (a0 := x2) c9 (h6.mono g5.z) q6) fun _ H5 i5 => ?_
 obtain ⟨w7, w8, w9, w10, w11, w12, rfl, s8⟩ := i5
 have s9 := c11 _ _ s8
 obtain ⟨Z6, V6, g6, s10, h7⟩ := (s9.pull 1 rfl).frzR
 refine c_nil (c_sr ?_)
 refine o_mv (v := (pV b2 0)) rfl ?_
 obtain ⟨x4, q7, e⟩ := oB e
 obtain ⟨d8, rfl⟩ := (h7).val
 obtain ⟨d9, rfl⟩ := ((s10.curS (s := sB) 1 rfl)).val
 obtain ⟨d10, rfl⟩ := ((s10.curS (s := sB) 2 rfl)).val
 obtain ⟨d11, rfl⟩ := ((s10.curS (s := sI1) 3 rfl)).val
 obtain ⟨d12, rfl⟩ := ((s10.curS (s := sB2) 4 rfl)).val
 obtain ⟨d13, rfl⟩ := ((s10.curS (s := sI2) 5 rfl)).val
 obtain ⟨Z7, V7, W4, g7, u4, c13, c14, -, c16, c15⟩ := Sat.call (l1 := [pts b2 (.rw 0 [vi x3.g.Terms, vi x3.g.Nons, vi x3.g.Start, (vS d8 x3.g.Rules), vi x3.n, (vS d9 x3.has_), (vS d10 x3.loop_), (vS d11 x3.known_), (vS d12 x3.ends), (vS d13 x3.ways)]), Is sB d9 x3.has_, Is sB d10 x3.loop_, Is sI1 d11 x3.known_, Is sB2 d12 x3.ends, Is sI2 d13 x3.ways]) (l2 := [pts b1 (.rw 0 [vi a0.Terms, vi a0.Nons, vi a0.Start, (vS d1 a0.Rules)])]) s10
 refine o_call (mc rfl m0) (X.A1 nd.A1 (a0 := x3) c13 (h7.mono g7.z) q7) fun _ H6 i6 => ?_
 obtain ⟨w13, w14, w15, w16, w17, w18, rfl, s11⟩ := i6
 have s12 := c15 _ _ s11
 obtain ⟨Z8, V8, g8, s13, h8⟩ := (s12.pull 1 rfl).frzR
 refine c_nil (c_sr (o_fad h4 (o_ldB 6 s13 rfl rfl rfl rfl ?_)))
 obtain ⟨x5, q8, e⟩ := oB e
 refine o_mksH (s := Sh.int) s13 rfl rfl q8 fun w19 H7 s14 => ?_
 refine o_mv (v := w19) rfl ?_
 refine c_nil ?_
 refine c_gen (P := fun tm => tm 1 = (vi a1) ∧ tm 7 = (pV b2 0) ∧ tm 8 = w19 ∧ True) ⟨h3, rfl, rfl, trivial⟩ ?_
 intro _ i7
 obtain ⟨h9, h10, h11, -⟩ := i7
 refine c_sq (c_sr (o_mv h11 ?_))
 refine o_len rfl ((s14.curS (s := sI1) 0 rfl)).len ?_
 refine o_mv (v := (vi 0)) rfl ?_
 refine c_nil ?_
 obtain ⟨x7, q11, e⟩ := oB e
 obtain ⟨rfl, q13⟩ := ranO_some q11
 obtain ⟨y1, q14, e⟩ := oB e
 refine c_bk ?_
 refine l_forP (xs := (Pu.ran (x5.length : Int))) (fun (i8 : Nat) (s15 : (Int × Int × Int × (List Ty.A6) × Int × (List (List Bool)) × (List (List Bool)) × (List (List Int)) × (List (List (List Bool))) × (List (List (List Int))) × (List (List Int)))) tm H => tm 34 = vi i8 ∧ ∃ (Z9 V9 : PH) (w20 : Value) (w21 : Value) (w22 : Value) (w23 : Value) (w24 : Value) (w25 : Value), Gw Z8 V8 Z9 V9 ∧ Sat Z9 V9 H [pts b2 (.rw 0 [vi s15.1, vi s15.2.1, vi s15.2.2.1, w25, vi s15.2.2.2.2.1, w20, w21, w22, w23, w24]), It.sl sB w20 s15.2.2.2.2.2.1, It.sl sB w21 s15.2.2.2.2.2.2.1, It.sl sI1 w22 s15.2.2.2.2.2.2.2.1, It.sl sB2 w23 s15.2.2.2.2.2.2.2.2.1, It.sl sI2 w24 s15.2.2.2.2.2.2.2.2.2.1, It.sl sI1 w19 s15.2.2.2.2.2.2.2.2.2.2] ∧ tm 1 = (vi a1) ∧ tm 7 = (pV b2 0) ∧ tm 8 = w19 ∧ tm 33 = (vN x5) ∧ RdS Sh.A6 Z9 w25 s15.2.2.2.1) (fun i8 x6 s15 s17 tm H9 q9 q10 j1 e1 k2 => ?_) (fun tm H8 jd => ?_) q14 ⟨rfl, _, _, _, _, _, _, _, _, Gw.refl _ _, (s14.pick [1, 2, 3, 4, 5, 6, 0] rfl), h9, h10, h11, rfl, h8⟩
 ·obtain ⟨hti0, Z9, V9, w20, w21, w22, w23, w24, w25, g9, s16, h13, h14, h15, h16, h12⟩ := j1
  unfold P.C6.b0 at e1
  have hti0 := iv hti0 (ran_x q9).symm
  refine c_sr (o_lss hti0 h16 (c_nil (c_sq ?_)))
  refine c_ift rfl (ran_lt q9) ?_
  refine c_sk (c_sq (c_bk (c_sr (o_mv hti0 ?_))))
  refine o_mv (v := (vi x6)) rfl ?_
  refine c_nil (c_sr (o_mv h13 (o_add rfl rfl ?_)))
  refine o_mv (v := (vi 0)) rfl ?_
  refine c_nil ?_
  obtain ⟨x9, q17, e1⟩ := oB e1
  obtain ⟨rfl, q19⟩ := ranO_some q17
  obtain ⟨y2, q20, e1⟩ := oB e1
  refine c_bk ?_
  refine l_forP (xs := (Pu.ran (Pu.W (a1 + 1)))) (fun (i9 : Nat) (s18 : (Int × Int × Int × (List Ty.A6) × Int × (List (List Bool)) × (List (List Bool)) × (List (List Int)) × (List (List (List Bool))) × (List (List (List Int))) × (List (List Int)))) tm H => tm 39 = vi i9 ∧ ∃ (Z10 V10 : PH) (w26 : Value) (w27 : Value) (w28 : Value) (w29 : Value) (w30 : Value) (w31 : Value), Gw Z9 V9 Z10 V10 ∧ Sat Z10 V10 H [pts b2 (.rw 0 [vi s18.1, vi s18.2.1, vi s18.2.2.1, w31, vi s18.2.2.2.2.1, w26, w27, w28, w29, w30]), It.sl sB w26 s18.2.2.2.2.2.1, It.sl sB w27 s18.2.2.2.2.2.2.1, It.sl sI1 w28 s18.2.2.2.2.2.2.2.1, It.sl sB2 w29 s18.2.2.2.2.2.2.2.2.1, It.sl sI2 w30 s18.2.2.2.2.2.2.2.2.2.1, It.sl sI1 w19 s18.2.2.2.2.2.2.2.2.2.2] ∧ tm 1 = (vi a1) ∧ tm 7 = (pV b2 0) ∧ tm 8 = w19 ∧ tm 9 = (vi x6) ∧ tm 33 = (vN x5) ∧ tm 34 = (vi x6) ∧ tm 38 = (vi (Pu.W (a1 + 1))) ∧ RdS Sh.A6 Z10 w31 s18.2.2.2.1) (fun i9 x8 s18 s20 tm H11 q15 q16 j2 e2 k3 => ?_) (fun tm H10 jd => ?_) q20 ⟨rfl, _, _, _, _, _, _, _, _, Gw.refl _ _, s16, h13, h14, h15, rfl, h16, hti0, rfl, h12⟩
  ·obtain ⟨hti1, Z10, V10, w26, w27, w28, w29, w30, w31, g10, s19, h18, h19, h20, h21, h22, h23, h24, h17⟩ := j2
   unfold P.C6.b1 at e2
   have hti1 := iv hti1 (ran_x q15).symm
   refine c_sr (o_lss hti1 h24 (c_nil (c_sq ?_)))
   refine c_ift rfl (ran_lt q15) ?_
   refine c_sk (c_sq (c_bk (c_sr (o_mv hti1 ?_))))
   refine o_mv (v := (vi x8)) rfl ?_
   refine c_nil ?_
   refine d_start s19 fun n1 H12 s21 q21 d14 => ?_
   refine d_mv h20 ?_
   refine d_mv h21 ?_
   refine d_mv h20 ?_
   refine d_mv h21 ?_
   obtain ⟨x10, q22, e2⟩ := oB e2
   refine d_idx (v := w19) rfl rfl (s21.curS (s := sI1) 6 rfl) rfl q22 fun p1 q23 => ?_
   refine d_foc ((s21.curS 6 rfl).low pR q21) 6 s21 rfl rfl q23 q22 fun w32 s22 => ?_
   refine d_mv h19 ?_
   refine d_mv h21 ?_
   refine d_mv (v := (vi x8)) rfl ?_
   obtain ⟨x11, q24, e2⟩ := oB e2
   obtain ⟨d15, rfl⟩ := (h17).val
   obtain ⟨d16, rfl⟩ := ((s22.curS (s := sB) 2 rfl)).val
   obtain ⟨d17, rfl⟩ := ((s22.curS (s := sB) 3 rfl)).val
   obtain ⟨d18, rfl⟩ := ((s22.curS (s := sI1) 4 rfl)).val
   obtain ⟨d19, rfl⟩ := ((s22.curS (s := sB2) 5 rfl)).val
   obtain ⟨d20, rfl⟩ := ((s22.curS (s := sI2) 6 rfl)).val
   obtain ⟨Z11, V11, W5, g11, u5, c17, c18, -, c20, c19⟩ := Sat.call (l1 := [pts b2 (.rw 0 [vi s18.1, vi s18.2.1, vi s18.2.2.1, (vS d15 s18.2.2.2.1), vi s18.2.2.2.2.1, (vS d16 s18.2.2.2.2.2.1), (vS d17 s18.2.2.2.2.2.2.1), (vS d18 s18.2.2.2.2.2.2.2.1), (vS d19 s18.2.2.2.2.2.2.2.2.1), (vS d20 s18.2.2.2.2.2.2.2.2.2.1)]), Is sB d16 s18.2.2.2.2.2.1, Is sB d17 s18.2.2.2.2.2.2.1, Is sI1 d18 s18.2.2.2.2.2.2.2.1, Is sB2 d19 s18.2.2.2.2.2.2.2.2.1, Is sI2 d20 s18.2.2.2.2.2.2.2.2.2.1]) (l2 := [It.sl Sh.int w32 x10, It.hole sI1 w19 s18.2.2.2.2.2.2.2.2.2.2 (Int.toNat x6) [w32]]) (s22.pick [1, 2, 3, 4, 5, 6, 0, 7] rfl)
   refine d_call (mc rfl (mc rfl (mc rfl m0))) (X.B1 nd.B1 (a0 := (Ty.C3.mk (Ty.B2.mk s18.1 s18.2.1 s18.2.2.1 s18.2.2.2.1) s18.2.2.2.2.1 s18.2.2.2.2.2.1 s18.2.2.2.2.2.2.1 s18.2.2.2.2.2.2.2.1 s18.2.2.2.2.2.2.2.2.1 s18.2.2.2.2.2.2.2.2.2.1)) c17 (h17.mono g11.z) q24) fun _ H13 i10 k4 => ?_
   have d21 := d14.keep k4
   obtain ⟨w33, w34, w35, w36, w37, w38, rfl, s23⟩ := i10
   have s24 := c19 _ _ s23
   obtain ⟨Z12, V12, g12, s25, h25⟩ := (s24.pull 1 rfl).frzR
   refine d_bsl (s := Sh.int) (us := [vi x11.2]) (qs := [(0, 1, (vi x11.2))]) (xs := [x11.2]) (d21.get 10 rfl rfl) s25 Sh.G3 rfl rfl rfl (Els.cons (c := [vi x11.2]) rfl Els.nil) rfl rfl fun w39 H14 s26 k5 => ?_
   have d22 := d21.next 10 rfl k5
   obtain ⟨x12, q25, e2⟩ := oB e2
   refine d_app 7 s26 rfl Sh.G3 rfl rfl rfl rfl (s26.curS (s := Sh.int) 0 rfl) pR (fun h => h) (by decide) q25 fun w40 H15 s27 k6 => ?_
   have d23 := d22.keep k6
   obtain ⟨x13, q27, e2⟩ := oB e2
   refine d_idxh 8 s27 rfl rfl rfl rfl q27 fun p2 q26 => ?_
   refine d_hst 8 s27 rfl rfl rfl q26 q27 (s27.curS (s := Sh.int) 7 rfl).one fun H16 s28 k7 => ?_
   have d24 := d23.keep k7
   have s29 := Sat.unfoc 7 rfl (s28.pull 7 rfl)
   refine d_nil (dc_mk rfl (ta8 (tra (tre (tl4 (trl tr0))))) (ta4 (tra (tre (tl8 (trl tr0))))) (ta4 (tre (tl8 (tl2 tr0)))) (ag_ldx (w := w32) w_0 rfl (hole_ld 7 s22 rfl q22 q23) (hole_ld 7 s22 rfl q22 q23) (vs_rd (s22.curS (s := Sh.int) 0 rfl))) (ag_ldx (w := w32) w_0 rfl (hole_ld 7 s22 rfl q22 q23) (hole_ld 7 s25 rfl q22 q23) (vs_rd (s22.curS (s := Sh.int) 0 rfl))) dc_nil) ?_
   refine c_end (c_r (o_add hti1 rfl ?_))
   refine o_mv (v := (vi (Pu.W (x8 + 1)))) rfl ?_
   refine c_nil ?_
   obtain rfl := oJ e2
   exact k3 _ _ ⟨(iv rfl (w_sucR q15 q19)), _, _, _, _, _, _, _, _, (g10.trans (g11.trans g12)), (s29.pick [1, 2, 3, 4, 5, 6, 7] rfl), h18, h19, h20, h21, h22, h23, h24, h25⟩
  obtain ⟨hte1, Z13, V13, w41, w42, w43, w44, w45, w46, g13, s30, h27, h28, h29, h30, h31, h32, h33, h26⟩ := jd
  refine c_sr (o_lss hte1 h33 (c_nil (c_sq ?_)))
  refine c_iff rfl (ran_done _) ?_
  refine c_ex ?_
  refine e_c ?_
  refine e_c ?_
  refine e_h ?_
  refine c_end (c_r (o_add h32 rfl ?_))
  refine o_mv (v := (vi (Pu.W (x6 + 1)))) rfl ?_
  refine c_nil ?_
  obtain rfl := oJ e1
  exact k2 _ _ ⟨(iv rfl (w_sucR q9 q13)), _, _, _, _, _, _, _, _, (g9.trans g13), s30, h27, h28, h29, h31, h26⟩
 obtain ⟨hte0, Z14, V14, w47, w48, w49, w50, w51, w52, g14, s31, h35, h36, h37, h38, h34⟩ := jd
 refine c_sr (o_lss hte0 h38 (c_nil (c_sq ?_)))
 refine c_iff rfl (ran_done _) ?_
 refine c_ex ?_
 refine e_c ?_
 refine e_c ?_
 refine e_h ?_
 refine c_sr (o_mv h37 ?_)
 refine o_mv (v := w19) rfl ?_
 refine o_mv (v := (vi 0)) rfl ?_
 refine c_nil (c_rt ?_)
 obtain rfl := oJ e
 exact ⟨.inr rfl, _, (ar2 rfl rfl), _, rfl, ((s31.pick [6] rfl).weak (g1.trans (g2.trans (g3.trans (g4.trans (g5.trans (g6.trans (g7.trans (g8.trans g14)))))))) hs.zv)⟩
structure Nd.E8 (T : FuncId → Option AFunc) : Prop where
 own : Has T I.E8 F.E8
 C6 : Nd.C6 T
set_option maxHeartbeats 1000000 in
theorem X.E8 {T : FuncId → Option AFunc} (nd : Nd.E8 T) {φ : Nat} {Z V : PH} {H : Hp} {v1 : Value} {a0 : Ty.B2} {a1 : Int} (hs : Sat Z V H []) (hp1 : RdS Sh.A6 Z v1 a0.Rules) {r : ((Option Ty.E6) × Int × Int)} (e : P.E8 φ a0 a1 = some r) :
 G T I.E8 [(.agg #[vi a0.Terms, vi a0.Nons, vi a0.Start, v1]), vi a1] H (fun rv H' => ∃ (o101 : Nat) (u2 : Value) (u3 : Value) (o104 : Nat), rv = (.tuple #[(ov r.1 o101), vi r.2.1, vi r.2.2]) ∧ Sat Z V H' (oi r.1 (fun y => [pts o101 (.rw 0 [vi y.g.Terms, vi y.g.Nons, vi y.g.Start, u2, u3, (.map (some o104))]), Sh.it (Sh.ro (Sh.sl Sh.A6)) [u2] y.g.Rules, It.sl sI1 u3 y.n, It.mp kE3 vi o104 y.many_]))) := by
 unfold P.E8 at e
 refine f_mk nd.own ?_
 refine c_sr ?_
 obtain ⟨d1, rfl⟩ := (hp1).val
 refine o_box hs rfl rfl fun b1 H1 s1 => ?_
 refine o_mv (v := (.pointer none)) rfl ?_
 refine o_mv (v := (vi 0)) rfl ?_
 refine o_mv (v := (vi 0)) rfl ?_
 refine c_nil (c_sr (o_ldB 0 s1 rfl rfl rfl rfl ?_))
 refine o_mv (v := (vi a1)) rfl ?_
 obtain ⟨x1, q1, e⟩ := oB e
 obtain ⟨Z1, V1, W1, g1, u1, c1, c2, -, c4, c3⟩ := Sat.call (l1 := []) s1
 refine o_call (mc rfl (mc rfl m0)) (X.C6 nd.C6 c1 (hp1.mono g1.z) q1) fun _ H2 i1 => ?_
 obtain ⟨w1, rfl, s2⟩ := i1
 have s3 := c3 _ _ s2
 refine o_mv (v := (.tuple #[w1, vi x1.2])) rfl ?_
 refine o_ext rfl rfl (o_ext rfl rfl ?_)
 refine o_mv (v := w1) rfl ?_
 refine o_mv (v := (vi x1.2)) rfl ?_
 refine c_nil ?_
 refine c_gen (P := fun tm => tm 1 = (vi a1) ∧ tm 2 = (pV b1 0) ∧ tm 7 = w1 ∧ tm 8 = (vi x1.2) ∧ True) ⟨rfl, rfl, rfl, rfl, trivial⟩ ?_
 intro _ i2
 obtain ⟨h1, h2, h3, h4, -⟩ := i2
 refine c_sq (c_sr (o_mv h4 (o_neq rfl rfl (c_nil ?_))))
 refine c_ifd rfl (fun q2 => ?_) (fun q2 => ?_)
 ·replace e := if_t q2 e
  refine c_sr (o_mv h4 ?_)
  refine o_mv (v := (.pointer none)) rfl ?_
  refine o_mv (v := (vi 0)) rfl ?_
  refine o_mv (v := (vi x1.2)) rfl ?_
  refine c_nil (c_rt ?_)
  obtain rfl := oJ e
  exact ⟨.inr rfl, _, (ar3 rfl rfl rfl), 0, undef, undef, 0, rfl, ((s3.pick [] rfl).weak g1 hs.zv)⟩
 replace e := if_f q2 e
 refine c_sk (c_sr (o_mv h3 (o_fad h2 (o_ldB 1 s3 rfl rfl rfl rfl ?_))))
 obtain ⟨x2, q3, e⟩ := oB e
 refine o_idx (v := w1) rfl rfl (s3.curS (s := sI1) 0 rfl) rfl q3 fun p1 q4 => ?_
 refine o_ldsv rfl (s3.curS (s := sI1) 0 rfl) pR q4 q3 fun w2 h5 h6 => ?_
 refine o_mv h1 ?_
 obtain ⟨x3, q5, e⟩ := oB e
 refine o_idx (v := w2) rfl rfl h5 rfl q5 fun p2 q6 => ?_
 refine o_ldi rfl h5 pR q6 q5 ?_
 refine o_mv (v := (vi x3)) rfl ?_
 refine c_nil ?_
 refine c_gen (P := fun tm => tm 2 = (pV b1 0) ∧ tm 7 = w1 ∧ tm 9 = (vi x3) ∧ True) ⟨h2, h3, rfl, trivial⟩ ?_
 intro _ i3
 obtain ⟨h7, h8, h9, -⟩ := i3
 refine c_sr (o_mv h9 (c_nil (c_bk (c_sr ?_))))
 refine o_eql rfl rfl ?_
 refine o_mv (v := (.bool (decide (x3 = (-1))))) rfl ?_
 refine c_nil ?_
 refine c_ifd rfl (fun q7 => ?_) (fun q7 => ?_)
 ·replace e := if_t q7 e
  refine c_sr ?_
  refine o_mv (v := (.pointer none)) rfl ?_
  refine o_mv (v := (vi 0)) rfl ?_
  refine o_mv (v := (vi 9)) rfl ?_
  refine c_nil (c_rt ?_)
  obtain rfl := oJ e
  exact ⟨.inr rfl, _, (ar3 rfl rfl rfl), 0, undef, undef, 0, rfl, ((s3.pick [] rfl).weak g1 hs.zv)⟩
 replace e := if_f q7 e
 refine c_sr (o_eql rfl rfl ?_)
 refine o_mv (v := (.bool (decide (x3 = 1000000000)))) rfl ?_
 refine c_nil ?_
 refine c_ifd rfl (fun q8 => ?_) (fun q8 => ?_)
 ·replace e := if_t q8 e
  refine c_sr ?_
  refine o_mv (v := (.pointer none)) rfl ?_
  refine o_mv (v := (vi 0)) rfl ?_
  refine o_mv (v := (vi 2)) rfl ?_
  refine c_nil (c_rt ?_)
  obtain rfl := oJ e
  exact ⟨.inr rfl, _, (ar3 rfl rfl rfl), 0, undef, undef, 0, rfl, ((s3.pick [] rfl).weak g1 hs.zv)⟩
 replace e := if_f q8 e
 refine c_sr (o_ldB 1 s3 rfl h7 rfl rfl (o_mv h8 ?_))
 refine o_mkmap (kE3 : (Int × Int × Int) → Value) (vi : Int → Value) s3 fun b2 H3 s4 => ?_
 obtain ⟨d2, rfl⟩ := ((s4.curS (s := sI1) 1 rfl)).val
 refine o_bld (qs := [(0, 4, (.agg #[vi a0.Terms, vi a0.Nons, vi a0.Start, (vS d1 a0.Rules)])), (4, 1, (vS d2 x1.1)), (5, 1, (.map (some b2)))]) rfl rfl ?_
 refine o_box s4 rfl rfl fun b3 H4 s5 => ?_
 refine o_mv h9 ?_
 refine o_mv (v := (pV b3 0)) rfl ?_
 refine o_mv (v := (vi x3)) rfl ?_
 refine o_mv (v := (vi 0)) rfl ?_
 refine c_nil ?_
 refine c_gen (P := fun tm => tm 4 = (pV b3 0) ∧ tm 5 = (vi x3) ∧ tm 6 = (vi 0) ∧ True) ⟨rfl, rfl, rfl, trivial⟩ ?_
 intro _ i4
 obtain ⟨h10, h11, h12, -⟩ := i4
 refine c_rt ?_
 obtain rfl := oJ e
 exact ⟨.inr rfl, _, (ar3 h10 h11 h12), _, _, _, _, rfl, (((s5.push (ro_it (sl_ro (hp1.mono g1.z)))).pick [1, 0, 3, 2] rfl).weak g1 hs.zv)⟩
structure Nd.G0 (T : FuncId → Option AFunc) : Prop where
 own : Has T I.G0 F.G0
 E8 : Nd.E8 T
set_option maxHeartbeats 1000000 in
theorem X.G0 {T : FuncId → Option AFunc} (nd : Nd.G0 T) {φ : Nat} {Z V : PH} {H : Hp} {v1 : Value} {a0 : Ty.B2} {a1 : Int} (hs : Sat Z V H []) (hp1 : RdS Sh.A6 Z v1 a0.Rules) {r : (Int × Int)} (e : P.G0 φ a0 a1 = some r) :
 G T I.G0 [(.agg #[vi a0.Terms, vi a0.Nons, vi a0.Start, v1]), vi a1] H (fun rv H' => rv = (.tuple #[vi r.1, vi r.2]) ∧ Sat Z V H' []) := by
 unfold P.G0 at e
 refine f_mk nd.own ?_
 refine c_sr ?_
 obtain ⟨d1, rfl⟩ := (hp1).val
 refine o_box hs rfl rfl fun b1 H1 s1 => ?_
 refine o_mv (v := (vi 0)) rfl ?_
 refine o_mv (v := (vi 0)) rfl ?_
 refine c_nil (c_sr (o_ldB 0 s1 rfl rfl rfl rfl ?_))
 refine o_mv (v := (vi a1)) rfl ?_
 obtain ⟨x1, q1, e⟩ := oB e
 rcases x1 with ⟨_ | y1, x2⟩
 ·rw [Pu.oc2_none] at e
  obtain ⟨Z1, V1, W1, g1, u1, c1, c2, -, c4, c3⟩ := Sat.call (l1 := []) s1
  refine o_call (mc rfl (mc rfl m0)) (X.E8 nd.E8 c1 (hp1.mono g1.z) q1) fun _ H2 i1 => ?_
  dsimp only [ov, oi, List.nil_append, List.append_nil, List.cons_append] at i1
  obtain ⟨b2, u2, u3, u4, rfl, s2⟩ := i1
  have s3 := c3 _ _ s2
  refine o_mv (v := (.tuple #[(.pointer none), vi x2.1, vi x2.2])) rfl ?_
  refine o_ext rfl rfl (o_ext rfl rfl (o_ext rfl rfl ?_))
  refine o_mv (v := (.pointer none)) rfl ?_
  refine o_mv (v := (vi x2.1)) rfl ?_
  refine o_mv (v := (vi x2.2)) rfl ?_
  refine c_nil ?_
  refine c_gen (P := fun tm => tm 7 = (vi x2.1) ∧ tm 8 = (vi x2.2) ∧ True) ⟨rfl, rfl, trivial⟩ ?_
  intro _ i2
  obtain ⟨h1, h2, -⟩ := i2
  refine c_sr (o_mv h1 (o_mv h2 ?_))
  refine o_mv (v := (vi x2.1)) rfl ?_
  refine o_mv (v := (vi x2.2)) rfl ?_
  refine c_nil (c_rt ?_)
  obtain rfl := oJ e
  exact ⟨.inr rfl, _, (ar2 rfl rfl), rfl, ((s3.pick [] rfl).weak g1 hs.zv)⟩
 rw [Pu.oc2_some] at e
 obtain ⟨Z2, V2, W2, g2, u5, c5, c6, -, c8, c7⟩ := Sat.call (l1 := []) s1
 refine o_call (mc rfl (mc rfl m0)) (X.E8 nd.E8 c5 (hp1.mono g2.z) q1) fun _ H3 i3 => ?_
 dsimp only [ov, oi, List.nil_append, List.append_nil, List.cons_append] at i3
 obtain ⟨b3, w1, w2, b4, rfl, s4⟩ := i3
 have s5 := c7 _ _ s4
 obtain ⟨Z3, V3, g3, s6, h3⟩ := (s5.pull 1 rfl).frzR
 refine o_mv (v := (.tuple #[(pV b3 0), vi x2.1, vi x2.2])) rfl ?_
 refine o_ext rfl rfl (o_ext rfl rfl (o_ext rfl rfl ?_))
 refine o_mv (v := (pV b3 0)) rfl ?_
 refine o_mv (v := (vi x2.1)) rfl ?_
 refine o_mv (v := (vi x2.2)) rfl ?_
 refine c_nil ?_
 refine c_gen (P := fun tm => tm 7 = (vi x2.1) ∧ tm 8 = (vi x2.2) ∧ True) ⟨rfl, rfl, trivial⟩ ?_
 intro _ i4
 obtain ⟨h4, h5, -⟩ := i4
 refine c_sr (o_mv h4 (o_mv h5 ?_))
 refine o_mv (v := (vi x2.1)) rfl ?_
 refine o_mv (v := (vi x2.2)) rfl ?_
 refine c_nil (c_rt ?_)
 obtain rfl := oJ e
 exact ⟨.inr rfl, _, (ar2 rfl rfl), rfl, ((s6.pick [] rfl).weak (g2.trans g3) hs.zv)⟩
structure Nd.F4 (T : FuncId → Option AFunc) : Prop where
 own : Has T I.F4 F.F4
set_option maxHeartbeats 1000000 in
theorem X.F4 {T : FuncId → Option AFunc} (nd : Nd.F4 T) {Z V : PH} {H : Hp} (hs : Sat Z V H []) {r : Ty.B2} (e : P.F4 = some r) :
 G T I.F4 [] H (fun rv H' => ∃ (u1 : Value), rv = (.agg #[vi r.Terms, vi r.Nons, vi r.Start, u1]) ∧ Sat Z V H' [It.sl (Sh.ro Sh.A6) u1 r.Rules]) := by
 unfold P.F4 at e
 refine f_mk nd.own ?_
 refine c_sr ?_
 refine o_new hs fun b1 H1 s1 => ?_
 refine c_nil (c_sr ?_)
 refine o_bld (qs := [(0, 1, (.bool true))]) rfl rfl ?_
 refine o_bsl (s := (Sh.ro Sh.D1)) (us := [(.bool true), vi 0]) (qs := [(0, 2, (.agg #[(.bool true), vi 0]))]) (xs := [(Ty.D1.mk true 0)]) s1 (Sh.ro_lt _) rfl rfl rfl (Els.cons (c := [(.bool true), vi 0]) rfl Els.nil) rfl rfl fun w1 H2 s2 => ?_
 obtain ⟨d1, rfl⟩ := ((s2.curS (s := (Sh.ro Sh.D1)) 0 rfl)).val
 refine o_bld (qs := [(1, 1, (.slice d1 [(Ty.D1.mk true 0)].length [(Ty.D1.mk true 0)].length))]) rfl rfl ?_
 refine o_bld (qs := [(0, 1, (.bool true)), (1, 1, (vi 1))]) rfl rfl ?_
 refine o_bld (qs := []) rfl rfl ?_
 refine o_bsl (s := (Sh.ro Sh.D1)) (us := [(.bool true), vi 1, (.bool false), vi 0]) (qs := [(0, 2, (.agg #[(.bool true), vi 1])), (2, 2, (.agg #[(.bool false), vi 0]))]) (xs := [(Ty.D1.mk true 1), (Ty.D1.mk false 0)]) s2 (Sh.ro_lt _) rfl rfl rfl (Els.cons (c := [(.bool true), vi 1]) rfl (Els.cons (c := [(.bool false), vi 0]) rfl Els.nil)) rfl rfl fun w2 H3 s3 => ?_
 obtain ⟨d2, rfl⟩ := ((s3.curS (s := (Sh.ro Sh.D1)) 0 rfl)).val
 refine o_bld (qs := [(1, 1, (.slice d2 [(Ty.D1.mk true 1), (Ty.D1.mk false 0)].length [(Ty.D1.mk true 1), (Ty.D1.mk false 0)].length))]) rfl rfl ?_
 obtain ⟨Z1, V1, g1, s4, h1⟩ := s3.frzS 1 rfl
 replace h1 := h1.of_ro
 obtain ⟨Z2, V2, g2, s5, h2⟩ := s4.frzS 0 rfl
 replace h2 := h2.of_ro
 refine o_bsl (s := (Sh.ro Sh.A6)) (us := [vi 0, (.slice d1 [(Ty.D1.mk true 0)].length [(Ty.D1.mk true 0)].length), vi 0, (.slice d2 [(Ty.D1.mk true 1), (Ty.D1.mk false 0)].length [(Ty.D1.mk true 1), (Ty.D1.mk false 0)].length)]) (qs := [(0, 2, (.agg #[vi 0, (.slice d1 [(Ty.D1.mk true 0)].length [(Ty.D1.mk true 0)].length)])), (2, 2, (.agg #[vi 0, (.slice d2 [(Ty.D1.mk true 1), (Ty.D1.mk false 0)].length [(Ty.D1.mk true 1), (Ty.D1.mk false 0)].length)]))]) (xs := [(Ty.A6.mk 0 [(Ty.D1.mk true 0)]), (Ty.A6.mk 0 [(Ty.D1.mk true 1), (Ty.D1.mk false 0)])]) s5 (Sh.ro_lt _) rfl rfl rfl (Els.cons (c := [vi 0, (.slice d1 [(Ty.D1.mk true 0)].length [(Ty.D1.mk true 0)].length)]) (Sh.G9 (x := (Ty.A6.mk 0 [(Ty.D1.mk true 0)])) (h1.mono g2.z)) (Els.cons (c := [vi 0, (.slice d2 [(Ty.D1.mk true 1), (Ty.D1.mk false 0)].length [(Ty.D1.mk true 1), (Ty.D1.mk false 0)].length)]) (Sh.G9 (x := (Ty.A6.mk 0 [(Ty.D1.mk true 1), (Ty.D1.mk false 0)])) h2) Els.nil)) rfl rfl fun w3 H4 s6 => ?_
 obtain ⟨d3, rfl⟩ := ((s6.curS (s := (Sh.ro Sh.A6)) 0 rfl)).val
 refine o_bld (qs := [(0, 1, (vi 2)), (1, 1, (vi 1)), (3, 1, (.slice d3 [(Ty.A6.mk 0 [(Ty.D1.mk true 0)]), (Ty.A6.mk 0 [(Ty.D1.mk true 1), (Ty.D1.mk false 0)])].length [(Ty.A6.mk 0 [(Ty.D1.mk true 0)]), (Ty.A6.mk 0 [(Ty.D1.mk true 1), (Ty.D1.mk false 0)])].length))]) rfl rfl ?_
 refine o_stB (us' := [vi 2, vi 1, vi 0, (.slice d3 [(Ty.A6.mk 0 [(Ty.D1.mk true 0)]), (Ty.A6.mk 0 [(Ty.D1.mk true 1), (Ty.D1.mk false 0)])].length [(Ty.A6.mk 0 [(Ty.D1.mk true 0)]), (Ty.A6.mk 0 [(Ty.D1.mk true 1), (Ty.D1.mk false 0)])].length)]) 1 s6 rfl rfl rfl rfl rfl rfl rfl fun H5 s7 => ?_
 refine c_nil ?_
 refine c_gen (P := fun tm => tm 0 = (pV b1 0) ∧ True) ⟨rfl, trivial⟩ ?_
 intro _ i1
 obtain ⟨h3, -⟩ := i1
 refine c_rt ?_
 obtain rfl := oJ e
 exact ⟨.inr rfl, _, (arB 1 s7 rfl h3 rfl rfl), _, rfl, ((s7.pick [0] rfl).weak (g1.trans g2) hs.zv)⟩
structure Nd.F0 (T : FuncId → Option AFunc) : Prop where
 own : Has T I.F0 F.F0
set_option maxHeartbeats 1000000 in
theorem X.F0 {T : FuncId → Option AFunc} (nd : Nd.F0 T) {Z V : PH} {H : Hp} {v1 : Value} {v2 : Value} {m3 : Nat} {o1 : Nat} {a0 : Ty.E6} {a1 : Ty.D1} {a2 : Int} (hs : Sat Z V H [pts o1 (.rw 0 [vi a0.g.Terms, vi a0.g.Nons, vi a0.g.Start, v1, v2, (.map (some m3))]), It.mp kE3 vi m3 a0.many_]) (hp1 : RdS Sh.A6 V v1 a0.g.Rules) (hp2 : RdS sI1 V v2 a0.n) {r : Int} (e : P.F0 a0 a1 a2 = some r) :
 G T I.F0 [(pV o1 0), (.agg #[(.bool a1.Term), vi a1.N]), vi a2] H (fun rv H' => rv = (vi r) ∧ Sat Z V H' [pts o1 (.rw 0 [vi a0.g.Terms, vi a0.g.Nons, vi a0.g.Start, v1, v2, (.map (some m3))]), It.mp kE3 vi m3 a0.many_]) := by
 unfold P.F0 at e
 refine f_mk nd.own ?_
 refine c_sr ?_
 refine o_box hs rfl rfl fun b1 H1 s1 => ?_
 refine o_mv (v := (vi 0)) rfl ?_
 refine c_nil (c_sq (c_sr (o_fad rfl (o_ldB 0 s1 rfl rfl rfl rfl ?_))))
 refine o_not rfl (c_nil ?_)
 refine c_if rfl (fun q1 => ?_) (fun q1 => ?_)
 ·replace e := if_t q1 e
  refine c_sq ?_
  refine d_start s1 fun n1 H2 s2 q2 d1 => ?_
  refine d_mv (v := (pV o1 0)) rfl ?_
  refine d_nck rfl ?_
  refine d_fad rfl ?_
  obtain ⟨d2, rfl⟩ := (hp1).val
  obtain ⟨d3, rfl⟩ := (hp2).val
  refine d_ldB (q2 _ _ (ph_some.2 ⟨s2.curB 1 rfl, by simp⟩)) 1 s2 rfl rfl rfl rfl ?_
  refine d_fad rfl ?_
  refine d_ldB (q2 _ _ (ph_some.2 ⟨s2.curB 0 rfl, by simp⟩)) 0 s2 rfl rfl rfl rfl ?_
  obtain ⟨x1, q3, e⟩ := oB e
  refine d_idx (v := (vS d3 a0.n)) rfl rfl hp2 rfl q3 fun p1 q4 => ?_
  refine d_lds (RdS.low hp2 s2.v q2) rfl hp2 s2.v q4 q3 fun w1 h1 => ?_
  refine d_mv (v := (vi a2)) rfl ?_
  obtain ⟨x2, q5, e⟩ := oB e
  refine d_idx (v := w1) rfl rfl h1 rfl q5 fun p2 q6 => ?_
  refine d_ldi (RdS.low h1 s2.v q2) rfl h1 s2.v q6 q5 ?_
  refine d_mv (v := (vi x2)) rfl ?_
  refine d_nil dc_nil ?_
  refine c_gen (P := fun tm => tm 6 = (vi x2) ∧ True) ⟨rfl, trivial⟩ ?_
  intro _ i1
  obtain ⟨h2, -⟩ := i1
  refine c_rt ?_
  obtain rfl := oJ e
  exact ⟨.inr rfl, _, (ar1 h2), rfl, (s2.pick [1, 2] rfl)⟩
 replace e := ib_f q1 e
 refine c_sk (c_sq (c_sr ?_))
 refine o_mv (v := (vi a2)) rfl ?_
 refine o_eql rfl rfl (c_nil ?_)
 refine c_ifd rfl (fun q7 => ?_) (fun q7 => ?_)
 ·replace e := if_t q7 e
  refine c_sr ?_
  refine o_mv (v := (vi 1)) rfl ?_
  refine c_nil (c_rt ?_)
  obtain ⟨d4, rfl⟩ := (hp1).val
  obtain ⟨d5, rfl⟩ := (hp2).val
  obtain rfl := oJ e
  exact ⟨.inr rfl, _, (ar1 rfl), rfl, (s1.pick [1, 2] rfl)⟩
 replace e := if_f q7 e
 refine c_sk (c_sr ?_)
 refine o_mv (v := (vi 0)) rfl ?_
 refine c_nil (c_rt ?_)
 obtain ⟨d6, rfl⟩ := (hp1).val
 obtain ⟨d7, rfl⟩ := (hp2).val
 obtain rfl := oJ e
 exact ⟨.inr rfl, _, (ar1 rfl), rfl, (s1.pick [1, 2] rfl)⟩
structure Nd.C0 (T : FuncId → Option AFunc) : Prop where
 own_rank_book_ways : Has T I.C0 F.C0
 own_rank_book_part : Has T I.E1 F.E1
 F0 : Nd.F0 T
abbrev Nd.E1 := Nd.C0
set_option maxHeartbeats 1000000 in
theorem X.G7 {T : FuncId → Option AFunc} (nd : Nd.C0 T) : ∀ φ : Nat, (∀ {Z V : PH} {H : Hp} {v1 : Value} {v2 : Value} {m3 : Nat} {o1 : Nat} {a0 : Ty.E6} {a1 : Int} {a2 : Int} {a3 : Int} (hs : Sat Z V H [pts o1 (.rw 0 [vi a0.g.Terms, vi a0.g.Nons, vi a0.g.Start, v1, v2, (.map (some m3))]), It.mp kE3 vi m3 a0.many_]) (hp1 : RdS Sh.A6 Z v1 a0.g.Rules) (hp2 : RdS sI1 Z v2 a0.n) {r : (Ty.E6 × Int)} (e : P.C0 φ a0 a1 a2 a3 = some r), G T I.C0 [(pV o1 0), vi a1, vi a2, vi a3] H (fun rv H' => ∃ (u1 : Value) (u2 : Value) (o103 : Nat), rv = (vi r.2) ∧ Sat Z V H' [pts o1 (.rw 0 [vi r.1.g.Terms, vi r.1.g.Nons, vi r.1.g.Start, u1, u2, (.map (some o103))]), Sh.it (Sh.ro (Sh.sl Sh.A6)) [u1] r.1.g.Rules, Sh.it (Sh.ro sI2) [u2] r.1.n, It.mp kE3 vi o103 r.1.many_])) ∧ (∀ {Z V : PH} {H : Hp} {v1 : Value} {v2 : Value} {m3 : Nat} {o1 : Nat} {a0 : Ty.E6} {a1 : Int} {a2 : Int} {a3 : Int} {a4 : Int} (hs : Sat Z V H [pts o1 (.rw 0 [vi a0.g.Terms, vi a0.g.Nons, vi a0.g.Start, v1, v2, (.map (some m3))]), It.mp kE3 vi m3 a0.many_]) (hp1 : RdS Sh.A6 Z v1 a0.g.Rules) (hp2 : RdS sI1 Z v2 a0.n) {r : (Ty.E6 × Int)} (e : P.E1 φ a0 a1 a2 a3 a4 = some r), G T I.E1 [(pV o1 0), vi a1, vi a2, vi a3, vi a4] H (fun rv H' => ∃ (u1 : Value) (u2 : Value) (o103 : Nat), rv = (vi r.2) ∧ Sat Z V H' [pts o1 (.rw 0 [vi r.1.g.Terms, vi r.1.g.Nons, vi r.1.g.Start, u1, u2, (.map (some o103))]), Sh.it (Sh.ro (Sh.sl Sh.A6)) [u1] r.1.g.Rules, Sh.it (Sh.ro sI2) [u2] r.1.n, It.mp kE3 vi o103 r.1.many_])) := by
 intro φ
 induction φ with
 | zero =>
   refine ⟨?_, ?_⟩
   ·intro Z V H v1 v2 m3 o1 a0 a1 a2 a3 hs hp1 hp2 r e
    rw [P.C0] at e; cases e
   ·intro Z V H v1 v2 m3 o1 a0 a1 a2 a3 a4 hs hp1 hp2 r e
    rw [P.E1] at e; cases e
 | succ φ ih =>
   refine ⟨?_, ?_⟩
   ·intro Z V H v1 v2 m3 o1 a0 a1 a2 a3 hs hp1 hp2 r e
    rw [P.C0] at e
    refine f_mk nd.own_rank_book_ways ?_
    refine c_sr ?_
    refine o_mv (v := (vi 0)) rfl ?_
    refine c_nil (c_sr ?_)
    refine o_mv (v := (pV o1 0)) rfl ?_
    refine o_nck rfl (o_fad rfl (o_fad rfl ?_))
    obtain ⟨d1, rfl⟩ := (hp1).val
    obtain ⟨d2, rfl⟩ := (hp2).val
    refine o_ldB 0 hs rfl rfl rfl rfl ?_
    refine o_mv (v := (vi a1)) rfl ?_
    obtain ⟨x1, q1, e⟩ := oB e
    refine o_idx (v := (vS d1 a0.g.Rules)) rfl rfl hp1 rfl q1 fun p1 q2 => ?_
    refine o_fadE rfl q2 fun p2 q3 => ?_
    refine o_ldF rfl hp1 hs.z rfl q2 q3 q1 rfl fun c1 h1 => ?_
    obtain ⟨w1, rfl, h2⟩ := Sh.G2 h1
    refine ⟨_, rfl, ?_⟩
    refine o_mv (v := w1) rfl ?_
    refine c_nil ?_
    refine c_gen (P := fun tm => tm 0 = (pV o1 0) ∧ tm 1 = (vi a1) ∧ tm 2 = (vi a2) ∧ tm 3 = (vi a3) ∧ tm 9 = w1 ∧ True) ⟨rfl, rfl, rfl, rfl, rfl, trivial⟩ ?_
    intro _ i1
    obtain ⟨h3, h4, h5, h6, h7, -⟩ := i1
    refine c_sq (c_sr (o_mv h5 (o_mv h7 (o_len rfl (h2).len ?_))))
    refine o_eql rfl rfl (c_nil ?_)
    refine c_ifd rfl (fun q4 => ?_) (fun q4 => ?_)
    ·replace e := if_t q4 e
     refine c_sq (c_sr (o_mv h6 (o_eql rfl rfl (c_nil ?_))))
     refine c_ifd rfl (fun q5 => ?_) (fun q5 => ?_)
     ·replace e := if_t q5 e
      refine c_sr ?_
      refine o_mv (v := (vi 1)) rfl ?_
      refine c_nil (c_rt ?_)
      obtain rfl := oJ e
      exact ⟨.inr rfl, _, (ar1 rfl), _, _, _, rfl, (((hs.push (ro_it (sl_ro hp1))).push (ro_it (sl_ro hp2))).pick [2, 1, 0, 3] rfl)⟩
     replace e := if_f q5 e
     refine c_sk (c_sr ?_)
     refine o_mv (v := (vi 0)) rfl ?_
     refine c_nil (c_rt ?_)
     obtain rfl := oJ e
     exact ⟨.inr rfl, _, (ar1 rfl), _, _, _, rfl, (((hs.push (ro_it (sl_ro hp1))).push (ro_it (sl_ro hp2))).pick [2, 1, 0, 3] rfl)⟩
    replace e := if_f q4 e
    refine c_sk (c_sr (o_mv h4 (o_mv h5 (o_mv h6 ?_))))
    refine o_bld (qs := [(0, 1, (vi a1)), (1, 1, (vi a2)), (2, 1, (vi a3))]) rfl rfl ?_
    refine o_new hs fun b1 H1 s1 => ?_
    refine o_stB (us' := [vi a1, vi a2, vi a3]) 0 s1 rfl rfl rfl rfl rfl rfl rfl fun H2 s2 => ?_
    refine c_nil (c_sq (c_sq ?_))
    refine c_gen (P := fun tm => tm 0 = (pV o1 0) ∧ tm 1 = (vi a1) ∧ tm 2 = (vi a2) ∧ tm 3 = (vi a3) ∧ tm 10 = (pV b1 0) ∧ True) ⟨h3, h4, h5, h6, rfl, trivial⟩ ?_
    intro _ i2
    obtain ⟨h8, h9, h10, h11, h12, -⟩ := i2
    refine d_start s2 fun n1 H3 s3 q6 d3 => ?_
    refine d_mv h8 ?_
    refine d_nck rfl ?_
    refine d_fad rfl ?_
    refine d_ldB (q6 _ _ (ph_some.2 ⟨s3.curB 1 rfl, by simp⟩)) 1 s3 rfl rfl rfl rfl ?_
    refine d_ldB (q6 _ _ (ph_some.2 ⟨s3.curB 0 rfl, by simp⟩)) 0 s3 rfl h12 rfl rfl ?_
    refine d_mlook Mk.kE3 (q := (a1, a2, a3)) (z := 0) 2 s3 rfl rfl rfl rfl rfl ?_
    refine d_mv (v := (.tuple #[(vi ((Pu.mget (a1, a2, a3) a0.many_).getD 0)), (.bool ((Pu.mget (a1, a2, a3) a0.many_).isSome))])) rfl ?_
    refine d_ext rfl rfl ?_
    refine d_ext rfl rfl ?_
    refine d_mv (v := (vi ((Pu.mget (a1, a2, a3) a0.many_).getD 0))) rfl ?_
    refine d_mv (v := (.bool ((Pu.mget (a1, a2, a3) a0.many_).isSome))) rfl ?_
    refine d_nil dc_nil ?_
    refine c_gen (P := fun tm => tm 0 = (pV o1 0) ∧ tm 1 = (vi a1) ∧ tm 2 = (vi a2) ∧ tm 3 = (vi a3) ∧ tm 10 = (pV b1 0) ∧ tm 11 = (vi ((Pu.mget (a1, a2, a3) a0.many_).getD 0)) ∧ tm 12 = (.bool ((Pu.mget (a1, a2, a3) a0.many_).isSome)) ∧ True) ⟨h8, h9, h10, h11, h12, rfl, rfl, trivial⟩ ?_
    intro _ i3
    obtain ⟨h13, h14, h15, h16, h17, h18, h19, -⟩ := i3
    refine c_sr (o_mv h19 (c_nil ?_))
    refine c_if rfl (fun q7 => ?_) (fun q7 => ?_)
    ·replace e := if_t q7 e
     refine c_sr (o_mv h18 ?_)
     refine o_mv (v := (vi ((Pu.mget (a1, a2, a3) a0.many_).getD 0))) rfl ?_
     refine c_nil (c_rt ?_)
     obtain rfl := oJ e
     exact ⟨.inr rfl, _, (ar1 rfl), _, _, _, rfl, (((s3.push (ro_it (sl_ro hp1))).push (ro_it (sl_ro hp2))).pick [3, 1, 0, 4] rfl)⟩
    replace e := ib_f q7 e
    refine c_sk (c_sr ?_)
    refine o_mv (v := (vi 0)) rfl ?_
    refine c_nil (c_sq (c_sr (o_mv h16 (o_add rfl rfl ?_))))
    refine o_mv (v := (vi 0)) rfl ?_
    refine c_nil ?_
    obtain ⟨x3, q10, e⟩ := oB e
    obtain ⟨rfl, q12⟩ := ranO_some q10
    obtain ⟨y1, q13, e⟩ := oB e
    refine c_bk ?_
    refine l_forP (xs := (Pu.ran (Pu.W (a3 + 1)))) (fun (i4 : Nat) (s4 : (Int × Int × Int × (List Ty.A6) × (List (List Int)) × (List ((Int × Int × Int) × Int)) × Int)) tm H => tm 47 = vi i4 ∧ ∃ (Z1 V1 : PH) (b2 : Nat) (w2 : Value) (w3 : Value), Gw Z V Z1 V1 ∧ Sat Z1 V1 H [pts o1 (.rw 0 [vi s4.1, vi s4.2.1, vi s4.2.2.1, w2, w3, (.map (some b2))]), It.mp kE3 vi b2 s4.2.2.2.2.2.1, pts b1 (.rw 0 [vi a1, vi a2, vi a3])] ∧ tm 0 = (pV o1 0) ∧ tm 1 = (vi a1) ∧ tm 2 = (vi a2) ∧ tm 3 = (vi a3) ∧ tm 10 = (pV b1 0) ∧ tm 13 = (vi s4.2.2.2.2.2.2) ∧ tm 46 = (vi (Pu.W (a3 + 1))) ∧ RdS Sh.A6 Z1 w2 s4.2.2.2.1 ∧ RdS sI1 Z1 w3 s4.2.2.2.2.1) (fun i4 x2 s4 s6 tm H5 q8 q9 j1 e1 k1 => ?_) (fun tm H4 jd => ?_) q13 ⟨rfl, _, _, _, _, _, Gw.refl _ _, (s3.pick [1, 2, 0] rfl), h13, h14, h15, h16, h17, rfl, rfl, hp1, hp2⟩
    ·obtain ⟨hti0, Z1, V1, b2, w2, w3, g1, s5, h22, h23, h24, h25, h26, h27, h28, h20, h21⟩ := j1
     unfold P.C0.b0 at e1
     have hti0 := iv hti0 (ran_x q8).symm
     refine c_sr (o_lss hti0 h28 (c_nil (c_sq ?_)))
     refine c_ift rfl (ran_lt q8) ?_
     refine c_sk (c_sq (c_bk (c_sr (o_mv hti0 ?_))))
     refine o_mv (v := (vi x2)) rfl ?_
     refine c_nil (c_r (o_mv h27 (o_mv h22 (o_mv h23 ?_))))
     refine o_mv h24 ?_
     refine o_mv (v := (vi x2)) rfl ?_
     refine o_mv h25 ?_
     obtain ⟨x4, q14, e1⟩ := oB e1
     obtain ⟨d4, rfl⟩ := (h20).val
     obtain ⟨d5, rfl⟩ := (h21).val
     obtain ⟨Z2, V2, W1, g2, u1, c2, c3, -, c5, c4⟩ := Sat.call (l1 := [pts o1 (.rw 0 [vi s4.1, vi s4.2.1, vi s4.2.2.1, (vS d4 s4.2.2.2.1), (vS d5 s4.2.2.2.2.1), (.map (some b2))]), It.mp kE3 vi b2 s4.2.2.2.2.2.1]) (l2 := [pts b1 (.rw 0 [vi a1, vi a2, vi a3])]) s5
     refine o_call (mc rfl (mc rfl (mc rfl (mc rfl (mc rfl m0))))) (ih.2 (a0 := (Ty.E6.mk (Ty.B2.mk s4.1 s4.2.1 s4.2.2.1 s4.2.2.2.1) s4.2.2.2.2.1 s4.2.2.2.2.2.1)) c2 (h20.mono g2.z) (h21.mono g2.z) q14) fun _ H6 i5 => ?_
     obtain ⟨w4, w5, b3, rfl, s7⟩ := i5
     have s8 := c4 _ _ s7
     obtain ⟨Z3, V3, g3, s9, h29⟩ := (s8.pull 1 rfl).frzR
     obtain ⟨Z4, V4, g4, s10, h30⟩ := (s9.pull 1 rfl).frzR
     refine o_add rfl rfl ?_
     refine o_mv (v := (vi (Pu.W (s4.2.2.2.2.2.2 + x4.2)))) rfl ?_
     refine c_nil (c_end (c_r (o_add hti0 rfl ?_)))
     refine o_mv (v := (vi (Pu.W (x2 + 1)))) rfl ?_
     refine c_nil ?_
     obtain rfl := oJ e1
     exact k1 _ _ ⟨(iv rfl (w_sucR q8 q12)), _, _, _, _, _, (g1.trans (g2.trans (g3.trans g4))), s10, h22, h23, h24, h25, h26, rfl, h28, (h29.mono g4.z), h30⟩
    obtain ⟨hte0, Z5, V5, b4, w6, w7, g5, s11, h33, h34, h35, h36, h37, h38, h39, h31, h32⟩ := jd
    refine c_sr (o_lss hte0 h39 (c_nil (c_sq ?_)))
    refine c_iff rfl (ran_done _) ?_
    refine c_ex ?_
    refine e_c ?_
    refine e_c ?_
    refine e_h ?_
    refine c_sq ?_
    refine d_start s11 fun n2 H8 s12 q15 d6 => ?_
    refine d_mv h33 ?_
    refine d_nck rfl ?_
    refine d_fad rfl ?_
    obtain ⟨d7, rfl⟩ := (h31).val
    obtain ⟨d8, rfl⟩ := (h32).val
    refine d_ldB (q15 _ _ (ph_some.2 ⟨s12.curB 0 rfl, by simp⟩)) 0 s12 rfl rfl rfl rfl ?_
    refine d_ldB (q15 _ _ (ph_some.2 ⟨s12.curB 2 rfl, by simp⟩)) 2 s12 rfl h37 rfl rfl ?_
    refine d_mv h38 ?_
    refine d_mset Mk.kE3 (q := (a1, a2, a3)) (v := y1.2.2.2.2.2.2) 1 s12 rfl rfl rfl rfl rfl rfl fun H9 s13 k2 => ?_
    have d9 := d6.keep k2
    refine d_nil dc_nil ?_
    refine c_sr (o_mv h38 ?_)
    refine o_mv (v := (vi y1.2.2.2.2.2.2)) rfl ?_
    refine c_nil (c_rt ?_)
    obtain rfl := oJ e
    exact ⟨.inr rfl, _, (ar1 rfl), _, _, _, rfl, ((((s13.push (ro_it (sl_ro h31))).push (ro_it (sl_ro h32))).pick [2, 1, 0, 3] rfl).weak g5 hs.zv)⟩
   ·intro Z V H v1 v2 m3 o1 a0 a1 a2 a3 a4 hs hp1 hp2 r e
    rw [P.E1] at e
    refine f_mk nd.own_rank_book_part ?_
    refine c_sr ?_
    refine o_mv (v := (vi 0)) rfl ?_
    refine c_nil (c_sr ?_)
    refine o_mv (v := (pV o1 0)) rfl ?_
    refine o_mv (v := (pV o1 0)) rfl ?_
    refine o_nck rfl (o_fad rfl (o_fad rfl ?_))
    obtain ⟨d1, rfl⟩ := (hp1).val
    obtain ⟨d2, rfl⟩ := (hp2).val
    refine o_ldB 0 hs rfl rfl rfl rfl ?_
    refine o_mv (v := (vi a1)) rfl ?_
    obtain ⟨x1, q1, e⟩ := oB e
    refine o_idx (v := (vS d1 a0.g.Rules)) rfl rfl hp1 rfl q1 fun p1 q2 => ?_
    refine o_fadE rfl q2 fun p2 q3 => ?_
    refine o_ldF rfl hp1 hs.z rfl q2 q3 q1 rfl fun c1 h1 => ?_
    obtain ⟨w1, rfl, h2⟩ := Sh.G2 h1
    refine ⟨_, rfl, ?_⟩
    refine o_mv (v := (vi a2)) rfl ?_
    obtain ⟨x2, q4, e⟩ := oB e
    refine o_idx (v := w1) rfl rfl h2 rfl q4 fun p3 q5 => ?_
    refine o_lda rfl h2 hs.z rfl q5 q4 fun c2 h3 => ?_
    obtain rfl := h3
    refine o_mv (v := (vi a3)) rfl ?_
    obtain ⟨x3, q6, e⟩ := oB e
    obtain ⟨Z1, V1, W1, g1, u1, c3, c4, -, c6, c5⟩ := Sat.call (l1 := [pts o1 (.rw 0 [vi a0.g.Terms, vi a0.g.Nons, vi a0.g.Start, (vS d1 a0.g.Rules), (vS d2 a0.n), (.map (some m3))]), It.mp kE3 vi m3 a0.many_]) (l2 := []) hs
    refine o_call (mc rfl (mc rfl (mc rfl m0))) (X.F0 nd.F0 (a0 := a0) c3 (hp1.mono (g1.z.trans c3.zv)) (hp2.mono (g1.z.trans c3.zv)) q6) fun _ H1 i1 => ?_
    obtain ⟨rfl, s1⟩ := i1
    have s2 := c5 _ _ s1
    refine o_mv (v := (vi x3)) rfl ?_
    refine c_nil ?_
    refine c_gen (P := fun tm => tm 0 = (pV o1 0) ∧ tm 1 = (vi a1) ∧ tm 2 = (vi a2) ∧ tm 3 = (vi a3) ∧ tm 4 = (vi a4) ∧ tm 11 = (vi x3) ∧ True) ⟨rfl, rfl, rfl, rfl, rfl, rfl, trivial⟩ ?_
    intro _ i2
    obtain ⟨h4, h5, h6, h7, h8, h9, -⟩ := i2
    refine c_sq (c_sr (o_mv h9 (o_eql rfl rfl (c_nil ?_))))
    refine c_ifd rfl (fun q7 => ?_) (fun q7 => ?_)
    ·replace e := if_t q7 e
     refine c_sr ?_
     refine o_mv (v := (vi 0)) rfl ?_
     refine c_nil (c_rt ?_)
     obtain rfl := oJ e
     exact ⟨.inr rfl, _, (ar1 rfl), _, _, _, rfl, ((((s2.push (ro_it (sl_ro (hp1.mono g1.z)))).push (ro_it (sl_ro (hp2.mono g1.z)))).pick [2, 1, 0, 3] rfl).weak g1 hs.zv)⟩
    replace e := if_f q7 e
    refine c_sk (c_sr (o_mv h9 (o_mv h4 (o_mv h5 ?_))))
    refine o_mv h6 (o_add rfl rfl (o_mv h8 (o_mv h7 (o_sub rfl rfl ?_))))
    obtain ⟨x4, q8, e⟩ := oB e
    obtain ⟨Z2, V2, W2, g2, u2, c7, c8, -, c10, c9⟩ := Sat.call (l1 := [pts o1 (.rw 0 [vi a0.g.Terms, vi a0.g.Nons, vi a0.g.Start, (vS d1 a0.g.Rules), (vS d2 a0.n), (.map (some m3))]), It.mp kE3 vi m3 a0.many_]) (l2 := []) s2
    refine o_call (mc rfl (mc rfl (mc rfl (mc rfl m0)))) (ih.1 (a0 := a0) c7 (hp1.mono (g1.trans g2).z) (hp2.mono (g1.trans g2).z) q8) fun _ H2 i3 => ?_
    obtain ⟨w2, w3, b1, rfl, s3⟩ := i3
    have s4 := c9 _ _ s3
    obtain ⟨Z3, V3, g3, s5, h10⟩ := (s4.pull 1 rfl).frzR
    obtain ⟨Z4, V4, g4, s6, h11⟩ := (s5.pull 1 rfl).frzR
    refine o_mul rfl rfl ?_
    refine o_mv (v := (vi (Pu.W (x3 * x4.2)))) rfl ?_
    refine c_nil ?_
    refine c_gen (P := fun tm => tm 10 = (vi (Pu.W (x3 * x4.2))) ∧ True) ⟨rfl, trivial⟩ ?_
    intro _ i4
    obtain ⟨h12, -⟩ := i4
    refine c_rt ?_
    obtain ⟨d3, rfl⟩ := ((h10.mono g4.z)).val
    obtain ⟨d4, rfl⟩ := (h11).val
    obtain rfl := oJ e
    exact ⟨.inr rfl, _, (ar1 h12), _, _, _, rfl, ((((s6.push (ro_it (sl_ro (h10.mono g4.z)))).push (ro_it (sl_ro h11))).pick [2, 1, 0, 3] rfl).weak (g1.trans (g2.trans (g3.trans g4))) hs.zv)⟩
theorem X.C0 {T : FuncId → Option AFunc} (nd : Nd.C0 T) {φ : Nat} {Z V : PH} {H : Hp} {v1 : Value} {v2 : Value} {m3 : Nat} {o1 : Nat} {a0 : Ty.E6} {a1 : Int} {a2 : Int} {a3 : Int} (hs : Sat Z V H [pts o1 (.rw 0 [vi a0.g.Terms, vi a0.g.Nons, vi a0.g.Start, v1, v2, (.map (some m3))]), It.mp kE3 vi m3 a0.many_]) (hp1 : RdS Sh.A6 Z v1 a0.g.Rules) (hp2 : RdS sI1 Z v2 a0.n) {r : (Ty.E6 × Int)} (e : P.C0 φ a0 a1 a2 a3 = some r) :
 G T I.C0 [(pV o1 0), vi a1, vi a2, vi a3] H (fun rv H' => ∃ (u1 : Value) (u2 : Value) (o103 : Nat), rv = (vi r.2) ∧ Sat Z V H' [pts o1 (.rw 0 [vi r.1.g.Terms, vi r.1.g.Nons, vi r.1.g.Start, u1, u2, (.map (some o103))]), Sh.it (Sh.ro (Sh.sl Sh.A6)) [u1] r.1.g.Rules, Sh.it (Sh.ro sI2) [u2] r.1.n, It.mp kE3 vi o103 r.1.many_]) := (X.G7 nd φ).1 hs hp1 hp2 e
theorem X.E1 {T : FuncId → Option AFunc} (nd : Nd.E1 T) {φ : Nat} {Z V : PH} {H : Hp} {v1 : Value} {v2 : Value} {m3 : Nat} {o1 : Nat} {a0 : Ty.E6} {a1 : Int} {a2 : Int} {a3 : Int} {a4 : Int} (hs : Sat Z V H [pts o1 (.rw 0 [vi a0.g.Terms, vi a0.g.Nons, vi a0.g.Start, v1, v2, (.map (some m3))]), It.mp kE3 vi m3 a0.many_]) (hp1 : RdS Sh.A6 Z v1 a0.g.Rules) (hp2 : RdS sI1 Z v2 a0.n) {r : (Ty.E6 × Int)} (e : P.E1 φ a0 a1 a2 a3 a4 = some r) :
 G T I.E1 [(pV o1 0), vi a1, vi a2, vi a3, vi a4] H (fun rv H' => ∃ (u1 : Value) (u2 : Value) (o103 : Nat), rv = (vi r.2) ∧ Sat Z V H' [pts o1 (.rw 0 [vi r.1.g.Terms, vi r.1.g.Nons, vi r.1.g.Start, u1, u2, (.map (some o103))]), Sh.it (Sh.ro (Sh.sl Sh.A6)) [u1] r.1.g.Rules, Sh.it (Sh.ro sI2) [u2] r.1.n, It.mp kE3 vi o103 r.1.many_]) := (X.G7 nd φ).2 hs hp1 hp2 e
structure Nd.C8 (T : FuncId → Option AFunc) : Prop where
 own_rank_book_tree : Has T I.C8 F.C8
 own_rank_book_kids : Has T I.D4 F.D4
 C0 : Nd.C0 T
 E1 : Nd.E1 T
abbrev Nd.D4 := Nd.C8
set_option maxHeartbeats 1000000 in
theorem X.G6 {T : FuncId → Option AFunc} (nd : Nd.C8 T) : ∀ φ : Nat, (∀ {Z V : PH} {H : Hp} {v1 : Value} {v2 : Value} {m3 : Nat} {o1 : Nat} {a0 : Ty.E6} {a1 : Ty.D1} {a2 : Int} {a3 : Int} (hs : Sat Z V H [pts o1 (.rw 0 [vi a0.g.Terms, vi a0.g.Nons, vi a0.g.Start, v1, v2, (.map (some m3))]), It.mp kE3 vi m3 a0.many_]) (hp1 : RdS Sh.A6 Z v1 a0.g.Rules) (hp2 : RdS sI1 Z v2 a0.n) {r : (Ty.E6 × Ty.A4)} (e : P.C8 φ a0 a1 a2 a3 = some r), G T I.C8 [(pV o1 0), (.agg #[(.bool a1.Term), vi a1.N]), vi a2, vi a3] H (fun rv H' => ∃ (u1 : Value) (u2 : Value) (o103 : Nat) (u4 : Value), rv = (.agg #[vi r.2.Rule, vi r.2.Term, u4]) ∧ Sat Z V H' [pts o1 (.rw 0 [vi r.1.g.Terms, vi r.1.g.Nons, vi r.1.g.Start, u1, u2, (.map (some o103))]), Sh.it (Sh.ro (Sh.sl Sh.A6)) [u1] r.1.g.Rules, Sh.it (Sh.ro sI2) [u2] r.1.n, It.mp kE3 vi o103 r.1.many_, It.sl (Sh.ro Sh.A4) u4 r.2.Kids])) ∧ (∀ {Z V : PH} {H : Hp} {v1 : Value} {v2 : Value} {m3 : Nat} {o1 : Nat} {a0 : Ty.E6} {a1 : Int} {a2 : Int} {a3 : Int} {a4 : Int} (hs : Sat Z V H [pts o1 (.rw 0 [vi a0.g.Terms, vi a0.g.Nons, vi a0.g.Start, v1, v2, (.map (some m3))]), It.mp kE3 vi m3 a0.many_]) (hp1 : RdS Sh.A6 Z v1 a0.g.Rules) (hp2 : RdS sI1 Z v2 a0.n) {r : (Ty.E6 × (List Ty.A4))} (e : P.D4 φ a0 a1 a2 a3 a4 = some r), G T I.D4 [(pV o1 0), vi a1, vi a2, vi a3, vi a4] H (fun rv H' => ∃ (u1 : Value) (u2 : Value) (o103 : Nat) (u4 : Value), rv = u4 ∧ Sat Z V H' [pts o1 (.rw 0 [vi r.1.g.Terms, vi r.1.g.Nons, vi r.1.g.Start, u1, u2, (.map (some o103))]), Sh.it (Sh.ro (Sh.sl Sh.A6)) [u1] r.1.g.Rules, Sh.it (Sh.ro sI2) [u2] r.1.n, It.mp kE3 vi o103 r.1.many_, It.sl (Sh.ro Sh.A4) u4 r.2])) := by
 intro φ
 induction φ with
 | zero =>
   refine ⟨?_, ?_⟩
   ·intro Z V H v1 v2 m3 o1 a0 a1 a2 a3 hs hp1 hp2 r e
    rw [P.C8] at e; cases e
   ·intro Z V H v1 v2 m3 o1 a0 a1 a2 a3 a4 hs hp1 hp2 r e
    rw [P.D4] at e; cases e
 | succ φ ih =>
   refine ⟨?_, ?_⟩
   ·intro Z V H v1 v2 m3 o1 a0 a1 a2 a3 hs hp1 hp2 r e
    rw [P.C8] at e
    refine f_mk nd.own_rank_book_tree ?_
    refine c_sr ?_
    refine o_box hs rfl rfl fun b1 H1 s1 => ?_
    refine o_new s1 fun b2 H2 s2 => ?_
    refine c_nil (c_sq (c_sr (o_fad rfl (o_ldB 1 s2 rfl rfl rfl rfl ?_))))
    refine c_nil ?_
    refine c_if rfl (fun q1 => ?_) (fun q1 => ?_)
    ·replace e := if_t q1 e
     refine c_sr (o_fad rfl (o_ldB 1 s2 rfl rfl rfl rfl ?_))
     refine o_bld (qs := [(0, 1, (vi (-1))), (1, 1, (vi a1.N))]) rfl rfl ?_
     refine o_stB (us' := [(vi (-1)), vi a1.N, (.slice none 0 0)]) 0 s2 rfl rfl rfl rfl rfl rfl rfl fun H3 s3 => ?_
     refine c_nil (c_rt ?_)
     obtain ⟨d1, rfl⟩ := (hp1).val
     obtain ⟨d2, rfl⟩ := (hp2).val
     obtain rfl := oJ e
     exact ⟨.inr rfl, _, (arB 0 s3 rfl rfl rfl rfl), _, _, _, _, rfl, ((((s3.push (ro_it (sl_ro hp1))).push (ro_it (sl_ro hp2))).push (sl_nil (s := (Sh.ro Sh.A4)))).pick [5, 2, 1, 6, 0] rfl)⟩
    replace e := ib_f q1 e
    refine c_sk (c_sq (c_sr ?_))
    refine o_mv (v := (pV o1 0)) rfl ?_
    refine o_nck rfl (o_fad rfl (o_fad rfl ?_))
    obtain ⟨d3, rfl⟩ := (hp1).val
    obtain ⟨d4, rfl⟩ := (hp2).val
    refine o_ldB 2 s2 rfl rfl rfl rfl (o_len rfl (hp1).len ?_)
    refine o_mv (v := (vi 0)) rfl ?_
    refine c_nil ?_
    refine c_gen (P := fun tm => tm 0 = (pV o1 0) ∧ tm 2 = (vi a2) ∧ tm 3 = (vi a3) ∧ tm 5 = (pV b1 0) ∧ tm 8 = (pV b2 0) ∧ tm 21 = (vS d3 a0.g.Rules) ∧ tm 22 = (vN a0.g.Rules) ∧ tm 23 = (vi 0) ∧ True) ⟨rfl, rfl, rfl, rfl, rfl, rfl, rfl, rfl, trivial⟩ ?_
    intro _ i1
    obtain ⟨h1, h2, h3, h4, h5, h6, h7, h8, -⟩ := i1
    obtain ⟨y1, q4, e⟩ := oB e
    refine c_jn (I := fun tm H => ∃ (s6 : (Int × Int × Int × (List Ty.A6) × (List (List Int)) × (List ((Int × Int × Int) × Int)) × Int)), y1 = .out s6 ∧ (∃ (Z2 V2 : PH) (b4 : Nat) (w3 : Value) (w4 : Value), Gw Z V Z2 V2 ∧ Sat Z2 V2 H [pts o1 (.rw 0 [vi s6.1, vi s6.2.1, vi s6.2.2.1, w3, w4, (.map (some b4))]), It.mp kE3 vi b4 s6.2.2.2.2.2.1, pts b1 (.rw 0 [(.bool a1.Term), vi a1.N]), pts b2 (.rw 0 [vi 0, vi 0, (.slice none 0 0)])] ∧ tm 0 = (pV o1 0) ∧ tm 2 = (vi a2) ∧ tm 3 = (vi s6.2.2.2.2.2.2) ∧ tm 5 = (pV b1 0) ∧ tm 8 = (pV b2 0) ∧ tm 21 = (vS d3 a0.g.Rules) ∧ tm 22 = (vN a0.g.Rules) ∧ RdS Sh.A6 Z2 w3 s6.2.2.2.1 ∧ RdS sI1 Z2 w4 s6.2.2.2.2.1)) (fun k4 => ?_) ?_
    ·refine c_bk ?_
     refine l_forL (xs := a0.g.Rules) (fun (i2 : Nat) (s4 : (Int × Int × Int × (List Ty.A6) × (List (List Int)) × (List ((Int × Int × Int) × Int)) × Int)) tm H => tm 23 = vi i2 ∧ ∃ (Z1 V1 : PH) (b3 : Nat) (w1 : Value) (w2 : Value), Gw Z V Z1 V1 ∧ Sat Z1 V1 H [pts o1 (.rw 0 [vi s4.1, vi s4.2.1, vi s4.2.2.1, w1, w2, (.map (some b3))]), It.mp kE3 vi b3 s4.2.2.2.2.2.1, pts b1 (.rw 0 [(.bool a1.Term), vi a1.N]), pts b2 (.rw 0 [vi 0, vi 0, (.slice none 0 0)])] ∧ tm 0 = (pV o1 0) ∧ tm 2 = (vi a2) ∧ tm 3 = (vi s4.2.2.2.2.2.2) ∧ tm 5 = (pV b1 0) ∧ tm 8 = (pV b2 0) ∧ tm 21 = (vS d3 a0.g.Rules) ∧ tm 22 = (vN a0.g.Rules) ∧ RdS Sh.A6 Z1 w1 s4.2.2.2.1 ∧ RdS sI1 Z1 w2 s4.2.2.2.2.1) (fun i2 x1 s4 y2 tm H5 q2 q3 j1 e1 k1 k2 k3 => ?_) (fun s4 tm H4 jf jd => ?_) q4 ⟨h8, _, _, _, _, _, Gw.refl _ _, (s2.pick [2, 3, 1, 0] rfl), h1, h2, h3, h4, h5, h6, h7, hp1, hp2⟩
     ·obtain ⟨hti0, Z1, V1, b3, w1, w2, g1, s5, h11, h12, h13, h14, h15, h16, h17, h9, h10⟩ := j1
      unfold P.C8.b0 at e1
      refine c_sr (o_lss hti0 h17 (c_nil (c_sq ?_)))
      refine c_ift rfl (Int.ofNat_lt.2 q3) ?_
      refine c_sk (c_sq (c_bk (c_sr (o_mv hti0 ?_))))
      refine o_idx (v := (vS d3 a0.g.Rules)) h16 hti0 (hp1.mono g1.z) rfl (Pu.ix_nat.trans q2) fun p1 q5 => ?_
      refine o_lda rfl (hp1.mono g1.z) s5.z rfl q5 (Pu.ix_nat.trans q2) fun c1 h27 => ?_
      obtain ⟨w5, rfl, h28⟩ := Sh.G2 h27
      refine o_new s5 fun b5 H7 s8 => ?_
      refine o_mv (v := (vJ i2)) rfl ?_
      obtain ⟨d5, rfl⟩ := (h28).val
      refine o_stB (us' := [vi x1.Left, (vS d5 x1.Right)]) 0 s8 rfl rfl rfl rfl rfl rfl rfl fun H8 s9 => ?_
      refine c_nil (c_sq (c_sr (o_fad rfl (o_ldB 0 s9 rfl rfl rfl rfl ?_))))
      refine o_fad h14 (o_ldB 3 s9 rfl rfl rfl rfl (o_neq rfl rfl (c_nil ?_)))
      refine c_gen (P := fun tm => tm 0 = (pV o1 0) ∧ tm 2 = (vi a2) ∧ tm 3 = (vi s4.2.2.2.2.2.2) ∧ tm 5 = (pV b1 0) ∧ tm 8 = (pV b2 0) ∧ tm 9 = (vJ i2) ∧ tm 21 = (vS d3 a0.g.Rules) ∧ tm 22 = (vN a0.g.Rules) ∧ tm 23 = (vJ i2) ∧ tm 32 = (.bool (decide (x1.Left ≠ a1.N))) ∧ True) ⟨h11, h12, h13, h14, h15, rfl, h16, h17, hti0, rfl, trivial⟩ ?_
      intro _ i3
      obtain ⟨h29, h30, h31, h32, h33, h34, h35, h36, h37, h38, -⟩ := i3
      refine c_ifd h38 (fun q6 => ?_) (fun q6 => ?_)
      ·replace e1 := if_t q6 e1
       refine c_ex ?_
       refine e_c ?_
       refine e_h ?_
       refine c_r (o_add h37 rfl ?_)
       refine o_mv (v := (vi (Pu.W ((i2 : Int) + 1)))) rfl ?_
       refine c_nil ?_
       exact k1 _ _ _ (sJ e1) ⟨(iv rfl (w_suc q3 (hp1).bd)), _, _, _, _, _, g1, (s9.pick [1, 2, 3, 4] rfl), h29, h30, h31, h32, h33, h35, h36, h9, h10⟩
      replace e1 := if_f q6 e1
      refine c_sk (c_sr (o_mv h29 (o_mv h34 (o_mv h30 ?_))))
      obtain ⟨x2, q7, e1⟩ := oB e1
      obtain ⟨d6, rfl⟩ := (h9).val
      obtain ⟨d7, rfl⟩ := (h10).val
      obtain ⟨Z3, V3, W1, g3, u1, c2, c3, -, c5, c4⟩ := Sat.call (l1 := [pts o1 (.rw 0 [vi s4.1, vi s4.2.1, vi s4.2.2.1, (vS d6 s4.2.2.2.1), (vS d7 s4.2.2.2.2.1), (.map (some b3))]), It.mp kE3 vi b3 s4.2.2.2.2.2.1]) (l2 := [pts b5 (.rw 0 [vi x1.Left, (vS d5 x1.Right)]), pts b1 (.rw 0 [(.bool a1.Term), vi a1.N]), pts b2 (.rw 0 [vi 0, vi 0, (.slice none 0 0)])]) (s9.pick [1, 2, 0, 3, 4] rfl)
      refine o_call (mc rfl (mc rfl (mc rfl (mc rfl m0)))) (X.C0 nd.C0 (a0 := (Ty.E6.mk (Ty.B2.mk s4.1 s4.2.1 s4.2.2.1 s4.2.2.2.1) s4.2.2.2.2.1 s4.2.2.2.2.2.1)) c2 (h9.mono g3.z) (h10.mono g3.z) q7) fun _ H9 i4 => ?_
      obtain ⟨w6, w7, b6, rfl, s10⟩ := i4
      have s11 := c4 _ _ s10
      obtain ⟨Z4, V4, g4, s12, h39⟩ := (s11.pull 1 rfl).frzR
      obtain ⟨Z5, V5, g5, s13, h40⟩ := (s12.pull 1 rfl).frzR
      refine o_mv (v := (vi x2.2)) rfl ?_
      refine c_nil (c_sq (c_sr (o_mv h31 ?_)))
      refine o_mv (v := (vi x2.2)) rfl ?_
      refine o_lss rfl rfl (c_nil ?_)
      refine c_ifd rfl (fun q8 => ?_) (fun q8 => ?_)
      ·replace e1 := if_t q8 e1
       refine c_sr (o_mv h34 (o_mv h29 (o_mv h34 (o_mv h30 ?_))))
       refine o_mv h31 ?_
       obtain ⟨x3, q9, e1⟩ := oB e1
       obtain ⟨d8, rfl⟩ := ((h39.mono g5.z)).val
       obtain ⟨d9, rfl⟩ := (h40).val
       obtain ⟨Z6, V6, W2, g6, u2, c6, c7, -, c9, c8⟩ := Sat.call (l1 := [pts o1 (.rw 0 [vi x2.1.g.Terms, vi x2.1.g.Nons, vi x2.1.g.Start, (vS d8 x2.1.g.Rules), (vS d9 x2.1.n), (.map (some b6))]), It.mp kE3 vi b6 x2.1.many_]) (l2 := [pts b5 (.rw 0 [vi x1.Left, (vS d5 x1.Right)]), pts b1 (.rw 0 [(.bool a1.Term), vi a1.N]), pts b2 (.rw 0 [vi 0, vi 0, (.slice none 0 0)])]) s13
       refine o_call (mc rfl (mc rfl (mc rfl (mc rfl (mc rfl m0))))) (ih.2 (a0 := x2.1) c6 (h39.mono (g5.trans g6).z) (h40.mono g6.z) q9) fun w10 H10 i5 => ?_
       obtain ⟨w8, w9, b7, _, rfl, s14⟩ := i5
       have s15 := c8 _ _ s14
       obtain ⟨Z7, V7, g7, s16, h41⟩ := (s15.pull 1 rfl).frzR
       obtain ⟨Z8, V8, g8, s17, h42⟩ := (s16.pull 1 rfl).frzR
       obtain ⟨d10, rfl⟩ := ((s17.curS (s := (Sh.ro Sh.A4)) 2 rfl)).val
       refine o_bld (qs := [(0, 1, (vJ i2)), (2, 1, (vS d10 x3.2))]) rfl rfl ?_
       refine o_stB (us' := [(vJ i2), vi 0, (vS d10 x3.2)]) 5 s17 rfl h33 rfl rfl rfl rfl rfl fun H11 s18 => ?_
       refine c_nil ?_
       refine c_gen (P := fun tm => tm 8 = (pV b2 0) ∧ True) ⟨h33, trivial⟩ ?_
       intro _ i6
       obtain ⟨h43, -⟩ := i6
       refine c_rt ?_
       have e2 := fin_r (k3 _ (sJ e1)) e
       obtain ⟨d11, rfl⟩ := ((h41.mono g8.z)).val
       obtain ⟨d12, rfl⟩ := (h42).val
       obtain rfl := oJ e2
       exact ⟨.inr rfl, _, (arB 5 s18 rfl h43 rfl rfl), _, _, _, _, rfl, ((((s18.push (ro_it (sl_ro (h41.mono g8.z)))).push (ro_it (sl_ro h42))).pick [2, 1, 0, 3, 4] rfl).weak (g1.trans (g3.trans (g4.trans (g5.trans (g6.trans (g7.trans g8)))))) hs.zv)⟩
      replace e1 := if_f q8 e1
      refine c_sk (c_r (o_mv h31 ?_))
      refine o_mv (v := (vi x2.2)) rfl ?_
      refine o_sub rfl rfl ?_
      refine o_mv (v := (vi (Pu.W (s4.2.2.2.2.2.2 - x2.2)))) rfl ?_
      refine c_nil (c_end (c_r (o_add h37 rfl ?_)))
      refine o_mv (v := (vi (Pu.W ((i2 : Int) + 1)))) rfl ?_
      refine c_nil ?_
      exact k1 _ _ _ (sJ e1) ⟨(iv rfl (w_suc q3 (hp1).bd)), _, _, _, _, _, (g1.trans (g3.trans (g4.trans g5))), (s13.pick [0, 1, 3, 4] rfl), h29, h30, rfl, h32, h33, h35, h36, (h39.mono g5.z), h40⟩
     ·obtain ⟨hte0, Z9, V9, b8, w11, w12, g9, s19, h46, h47, h48, h49, h50, h51, h52, h44, h45⟩ := jd
      refine c_sr (o_lss hte0 h52 (c_nil (c_sq ?_)))
      refine c_iff rfl (Int.lt_irrefl _) ?_
      refine c_ex ?_
      refine e_c ?_
      refine e_c ?_
      refine e_h ?_
      exact k4 _ _ ⟨_, jf, _, _, _, _, _, g9, s19, h46, h47, h48, h49, h50, h51, h52, h44, h45⟩
    intro _ H6 i7
    obtain ⟨s6, f1, Z2, V2, b4, w3, w4, g2, s7, h20, h21, h22, h23, h24, h25, h26, h18, h19⟩ := i7
    replace e := fin_o f1 e
    refine c_sr ?_
    refine o_bld (qs := []) rfl rfl ?_
    refine o_stB (us' := [vi 0, vi 0, (.slice none 0 0)]) 3 s7 rfl h24 rfl rfl rfl rfl rfl fun H13 s20 => ?_
    refine c_nil (c_rt ?_)
    obtain ⟨d13, rfl⟩ := (h18).val
    obtain ⟨d14, rfl⟩ := (h19).val
    obtain rfl := oJ e
    exact ⟨.inr rfl, _, (arB 3 s20 rfl h24 rfl rfl), _, _, _, _, rfl, (((((s20.push (ro_it (sl_ro h18))).push (ro_it (sl_ro h19))).push (sl_nil (s := (Sh.ro Sh.A4)))).pick [3, 2, 1, 4, 0] rfl).weak g2 hs.zv)⟩
   ·intro Z V H v1 v2 m3 o1 a0 a1 a2 a3 a4 hs hp1 hp2 r e
    rw [P.D4] at e
    refine f_mk nd.own_rank_book_kids ?_
    refine c_sr ?_
    refine o_mv (v := (.slice none 0 0)) rfl ?_
    refine c_nil (c_sr ?_)
    refine o_mv (v := (pV o1 0)) rfl ?_
    refine o_nck rfl (o_fad rfl (o_fad rfl ?_))
    obtain ⟨d1, rfl⟩ := (hp1).val
    obtain ⟨d2, rfl⟩ := (hp2).val
    refine o_ldB 0 hs rfl rfl rfl rfl ?_
    refine o_mv (v := (vi a1)) rfl ?_
    obtain ⟨x1, q1, e⟩ := oB e
    refine o_idx (v := (vS d1 a0.g.Rules)) rfl rfl hp1 rfl q1 fun p1 q2 => ?_
    refine o_fadE rfl q2 fun p2 q3 => ?_
    refine o_ldF rfl hp1 hs.z rfl q2 q3 q1 rfl fun c1 h1 => ?_
    obtain ⟨w1, rfl, h2⟩ := Sh.G2 h1
    refine ⟨_, rfl, ?_⟩
    refine o_mv (v := w1) rfl ?_
    refine c_nil ?_
    refine c_gen (P := fun tm => tm 0 = (pV o1 0) ∧ tm 1 = (vi a1) ∧ tm 2 = (vi a2) ∧ tm 3 = (vi a3) ∧ tm 4 = (vi a4) ∧ tm 11 = w1 ∧ True) ⟨rfl, rfl, rfl, rfl, rfl, rfl, trivial⟩ ?_
    intro _ i1
    obtain ⟨h3, h4, h5, h6, h7, h8, -⟩ := i1
    refine c_sq (c_sr (o_mv h5 (o_mv h8 (o_len rfl (h2).len ?_))))
    refine o_eql rfl rfl (c_nil ?_)
    refine c_ifd rfl (fun q4 => ?_) (fun q4 => ?_)
    ·replace e := if_t q4 e
     refine c_sr ?_
     refine o_mv (v := (.slice none 0 0)) rfl ?_
     refine c_nil (c_rt ?_)
     obtain rfl := oJ e
     exact ⟨.inr rfl, _, (ar1 rfl), _, _, _, _, rfl, ((((hs.push (ro_it (sl_ro hp1))).push (ro_it (sl_ro hp2))).push (sl_nil (s := (Sh.ro Sh.A4)))).pick [3, 2, 1, 4, 0] rfl)⟩
    replace e := if_f q4 e
    refine c_sk (c_sr ?_)
    refine o_mv (v := (vi 0)) rfl ?_
    refine c_nil (c_sq ?_)
    obtain ⟨y1, q7, e⟩ := oB e
    refine c_jn (I := fun tm H => ∃ (s3 : (Int × Int × Int × (List Ty.A6) × (List (List Int)) × (List ((Int × Int × Int) × Int)) × Int × Int)), y1 = .out s3 ∧ (∃ (Z2 V2 : PH) (b2 : Nat) (w4 : Value) (w5 : Value), Gw Z V Z2 V2 ∧ Sat Z2 V2 H [pts o1 (.rw 0 [vi s3.1, vi s3.2.1, vi s3.2.2.1, w4, w5, (.map (some b2))]), It.mp kE3 vi b2 s3.2.2.2.2.2.1] ∧ tm 0 = (pV o1 0) ∧ tm 1 = (vi a1) ∧ tm 2 = (vi a2) ∧ tm 3 = (vi a3) ∧ tm 4 = (vi s3.2.2.2.2.2.2.1) ∧ tm 11 = w1 ∧ tm 12 = (vi s3.2.2.2.2.2.2.2) ∧ RdS Sh.A6 Z2 w4 s3.2.2.2.1 ∧ RdS sI1 Z2 w5 s3.2.2.2.2.1)) (fun k4 => ?_) ?_
    ·refine c_bk ?_
     refine l_whl (fun (s1 : (Int × Int × Int × (List Ty.A6) × (List (List Int)) × (List ((Int × Int × Int) × Int)) × Int × Int)) tm H => ∃ (Z1 V1 : PH) (b1 : Nat) (w2 : Value) (w3 : Value), Gw Z V Z1 V1 ∧ Sat Z1 V1 H [pts o1 (.rw 0 [vi s1.1, vi s1.2.1, vi s1.2.2.1, w2, w3, (.map (some b1))]), It.mp kE3 vi b1 s1.2.2.2.2.2.1] ∧ tm 0 = (pV o1 0) ∧ tm 1 = (vi a1) ∧ tm 2 = (vi a2) ∧ tm 3 = (vi a3) ∧ tm 4 = (vi s1.2.2.2.2.2.2.1) ∧ tm 11 = w1 ∧ tm 12 = (vi s1.2.2.2.2.2.2.2) ∧ RdS Sh.A6 Z1 w2 s1.2.2.2.1 ∧ RdS sI1 Z1 w3 s1.2.2.2.2.1) (fun s1 y2 tm H2 j1 e1 k1 k2 k3 => ?_) q7 ⟨_, _, _, _, _, Gw.refl _ _, hs, h3, h4, h5, h6, h7, h8, rfl, hp1, hp2⟩
     obtain ⟨Z1, V1, b1, w2, w3, g1, s2, h11, h12, h13, h14, h15, h16, h17, h9, h10⟩ := j1
     unfold P.D4.b0 at e1
     refine c_sq (c_sr (o_mv h17 (o_mv h14 (o_lss rfl rfl ?_))))
     refine o_mv (v := (.bool (decide (s1.2.2.2.2.2.2.2 < a3)))) rfl ?_
     obtain ⟨y3, e2, e1⟩ := oB e1
     refine o_jn 9 (I := fun tm H => ∃ (Z3 V3 : PH) (b3 : Nat) (w6 : Value) (w7 : Value), Gw Z1 V1 Z3 V3 ∧ Sat Z3 V3 H [pts o1 (.rw 0 [vi y3.1, vi y3.2.1, vi y3.2.2.1, w6, w7, (.map (some b3))]), It.mp kE3 vi b3 y3.2.2.2.2.2.1] ∧ tm 0 = (pV o1 0) ∧ tm 1 = (vi a1) ∧ tm 2 = (vi a2) ∧ tm 3 = (vi a3) ∧ tm 4 = (vi s1.2.2.2.2.2.2.1) ∧ tm 11 = w1 ∧ tm 12 = (vi s1.2.2.2.2.2.2.2) ∧ tm 39 = (.bool y3.2.2.2.2.2.2) ∧ RdS Sh.A6 Z3 w6 y3.2.2.2.1 ∧ RdS sI1 Z3 w7 y3.2.2.2.2.1) (fun k5 => ?_) ?_
     ·rcases Bool.eq_false_or_eq_true (decide (s1.2.2.2.2.2.2.2 < a3)) with q8 | q8
      ·replace e2 := if_t q8 e2
       refine o_gy rfl q8 (o_mv h15 (o_gy rfl q8 (o_mv h11 (o_gy rfl q8 ?_))))
       refine o_mv h12 (o_gy rfl q8 (o_mv h13 (o_gy rfl q8 (o_mv h17 ?_))))
       refine o_gy rfl q8 (o_mv h14 (o_gy rfl q8 ?_))
       obtain ⟨x3, q9, e2⟩ := oB e2
       obtain ⟨d3, rfl⟩ := (h9).val
       obtain ⟨d4, rfl⟩ := (h10).val
       obtain ⟨Z4, V4, W1, g4, u1, c2, c3, -, c5, c4⟩ := Sat.call (l1 := [pts o1 (.rw 0 [vi s1.1, vi s1.2.1, vi s1.2.2.1, (vS d3 s1.2.2.2.1), (vS d4 s1.2.2.2.2.1), (.map (some b1))]), It.mp kE3 vi b1 s1.2.2.2.2.2.1]) (l2 := []) s2
       refine o_call (mc rfl (mc rfl (mc rfl (mc rfl (mc rfl m0))))) (X.E1 nd.E1 (a0 := (Ty.E6.mk (Ty.B2.mk s1.1 s1.2.1 s1.2.2.1 s1.2.2.2.1) s1.2.2.2.2.1 s1.2.2.2.2.2.1)) c2 (h9.mono g4.z) (h10.mono g4.z) q9) fun _ H5 i3 => ?_
       obtain ⟨w8, w9, b4, rfl, s6⟩ := i3
       have s7 := c4 _ _ s6
       obtain ⟨Z5, V5, g5, s8, h37⟩ := (s7.pull 1 rfl).frzR
       obtain ⟨Z6, V6, g6, s9, h38⟩ := (s8.pull 1 rfl).frzR
       refine o_gy rfl q8 (o_geq rfl rfl ?_)
       refine o_pickt (a := (.bool (decide (x3.2 ≤ s1.2.2.2.2.2.2.1)))) rfl q8 rfl ?_
       obtain rfl := oJ e2
       exact k5 _ _ ⟨_, _, _, _, _, (g4.trans (g5.trans g6)), s9, h11, h12, h13, h14, h15, h16, h17, rfl, (h37.mono g6.z), h38⟩
      replace e2 := ib_f q8 e2
      refine o_gn rfl q8 (o_gn rfl q8 (o_gn rfl q8 (o_gn rfl q8 (o_gn rfl q8 ?_))))
      refine o_gn rfl q8 (o_gn rfl q8 (o_gn rfl q8 ?_))
      refine o_pickf (b := (.bool false)) rfl q8 rfl ?_
      obtain rfl := oJ e2
      exact k5 _ _ ⟨_, _, _, _, _, Gw.refl _ _, s2, h11, h12, h13, h14, h15, h16, h17, rfl, h9, h10⟩
     intro _ H4 i4
     obtain ⟨Z3, V3, b3, w6, w7, g3, s5, h29, h30, h31, h32, h33, h34, h35, h36, h27, h28⟩ := i4
     refine c_nil ?_
     refine c_if h36 (fun q10 => ?_) (fun q10 => ?_)
     ·replace e1 := if_t q10 e1
      refine c_sk (c_sq (c_bk (c_r (o_mv h33 ?_))))
      refine o_mv h29 (o_mv h30 (o_mv h31 (o_mv h35 (o_mv h32 ?_))))
      obtain ⟨x4, q11, e1⟩ := oB e1
      obtain ⟨d5, rfl⟩ := (h27).val
      obtain ⟨d6, rfl⟩ := (h28).val
      obtain ⟨Z7, V7, W2, g7, u2, c6, c7, -, c9, c8⟩ := Sat.call (l1 := [pts o1 (.rw 0 [vi y3.1, vi y3.2.1, vi y3.2.2.1, (vS d5 y3.2.2.2.1), (vS d6 y3.2.2.2.2.1), (.map (some b3))]), It.mp kE3 vi b3 y3.2.2.2.2.2.1]) (l2 := []) s5
      refine o_call (mc rfl (mc rfl (mc rfl (mc rfl (mc rfl m0))))) (X.E1 nd.E1 (a0 := (Ty.E6.mk (Ty.B2.mk y3.1 y3.2.1 y3.2.2.1 y3.2.2.2.1) y3.2.2.2.2.1 y3.2.2.2.2.2.1)) c6 (h27.mono g7.z) (h28.mono g7.z) q11) fun _ H6 i5 => ?_
      obtain ⟨w10, w11, b5, rfl, s10⟩ := i5
      have s11 := c8 _ _ s10
      obtain ⟨Z8, V8, g8, s12, h39⟩ := (s11.pull 1 rfl).frzR
      obtain ⟨Z9, V9, g9, s13, h40⟩ := (s12.pull 1 rfl).frzR
      refine o_sub rfl rfl ?_
      refine o_mv (v := (vi (Pu.W (s1.2.2.2.2.2.2.1 - x4.2)))) rfl ?_
      refine c_nil (c_end (c_r (o_mv h35 (o_add rfl rfl ?_))))
      refine o_mv (v := (vi (Pu.W (s1.2.2.2.2.2.2.2 + 1)))) rfl ?_
      refine c_nil ?_
      exact k1 _ _ _ (sJ e1) ⟨_, _, _, _, _, (g1.trans (g3.trans (g7.trans (g8.trans g9)))), s13, h29, h30, h31, h32, rfl, h34, rfl, (h39.mono g9.z), h40⟩
     replace e1 := ib_f q10 e1
     refine c_ex ?_
     refine e_c ?_
     refine e_c ?_
     refine e_h ?_
     exact k4 _ _ ⟨_, k2 _ (sJ e1), _, _, _, _, _, (g1.trans g3), s5, h29, h30, h31, h32, h33, h34, h35, h27, h28⟩
    intro _ H3 i6
    obtain ⟨s3, f1, Z2, V2, b2, w4, w5, g2, s4, h20, h21, h22, h23, h24, h25, h26, h18, h19⟩ := i6
    replace e := fin_o f1 e
    refine c_sr (o_mv h20 (o_mv h21 (o_mv h22 (o_add rfl rfl ?_))))
    refine o_mv h23 (o_mv h26 (o_sub rfl rfl ?_))
    obtain ⟨x5, q12, e⟩ := oB e
    obtain ⟨d7, rfl⟩ := (h18).val
    obtain ⟨d8, rfl⟩ := (h19).val
    obtain ⟨Z10, V10, W3, g10, u3, c10, c11, -, c13, c12⟩ := Sat.call (l1 := [pts o1 (.rw 0 [vi s3.1, vi s3.2.1, vi s3.2.2.1, (vS d7 s3.2.2.2.1), (vS d8 s3.2.2.2.2.1), (.map (some b2))]), It.mp kE3 vi b2 s3.2.2.2.2.2.1]) (l2 := []) s4
    refine o_call (mc rfl (mc rfl (mc rfl (mc rfl m0)))) (X.C0 nd.C0 (a0 := (Ty.E6.mk (Ty.B2.mk s3.1 s3.2.1 s3.2.2.1 s3.2.2.2.1) s3.2.2.2.2.1 s3.2.2.2.2.2.1)) c10 (h18.mono g10.z) (h19.mono g10.z) q12) fun _ H7 i7 => ?_
    obtain ⟨w12, w13, b6, rfl, s14⟩ := i7
    have s15 := c12 _ _ s14
    obtain ⟨Z11, V11, g11, s16, h41⟩ := (s15.pull 1 rfl).frzR
    obtain ⟨Z12, V12, g12, s17, h42⟩ := (s16.pull 1 rfl).frzR
    refine o_mv (v := (vi x5.2)) rfl ?_
    refine c_nil (c_sq ?_)
    refine c_gen (P := fun tm => tm 0 = (pV o1 0) ∧ tm 1 = (vi a1) ∧ tm 2 = (vi a2) ∧ tm 3 = (vi a3) ∧ tm 4 = (vi s3.2.2.2.2.2.2.1) ∧ tm 11 = w1 ∧ tm 12 = (vi s3.2.2.2.2.2.2.2) ∧ tm 13 = (vi x5.2) ∧ True) ⟨h20, h21, h22, h23, h24, h25, h26, rfl, trivial⟩ ?_
    intro _ i8
    obtain ⟨h43, h44, h45, h46, h47, h48, h49, h50, -⟩ := i8
    refine d_start s17 fun n1 H8 s18 q13 d9 => ?_
    refine d_mv h43 ?_
    refine d_mv h48 ?_
    refine d_mv h45 ?_
    obtain ⟨x6, q14, e⟩ := oB e
    refine d_idx (v := w1) rfl rfl (h2.mono (g2.trans (g10.trans (g11.trans g12))).z) rfl q14 fun p3 q15 => ?_
    refine d_lda (RdS.low (h2.mono (g2.trans (g10.trans (g11.trans g12))).z) s18.z q13) rfl h2 ((g2.trans (g10.trans (g11.trans g12))).z.trans s18.z) rfl q15 q14 fun c14 h51 => ?_
    obtain rfl := h51
    refine d_mv h49 ?_
    refine d_mv h47 ?_
    refine d_mv h50 ?_
    obtain ⟨x7, q16, e⟩ := oB e
    refine d_quo rfl rfl q16 ?_
    obtain ⟨x8, q17, e⟩ := oB e
    obtain ⟨d10, rfl⟩ := ((h41.mono g12.z)).val
    obtain ⟨d11, rfl⟩ := (h42).val
    obtain ⟨Z13, V13, W4, g13, u4, c15, c16, -, c18, c17⟩ := Sat.call (l1 := [pts o1 (.rw 0 [vi x5.1.g.Terms, vi x5.1.g.Nons, vi x5.1.g.Start, (vS d10 x5.1.g.Rules), (vS d11 x5.1.n), (.map (some b6))]), It.mp kE3 vi b6 x5.1.many_]) (l2 := []) s18
    refine d_call (mc rfl (mc rfl (mc rfl (mc rfl m0)))) (ih.1 (a0 := x5.1) c15 (h41.mono (g12.trans g13).z) (h42.mono g13.z) q17) fun _ H9 i9 k6 => ?_
    have d12 := d9.keep k6
    obtain ⟨w14, w15, b7, w16, rfl, s19⟩ := i9
    have s20 := c17 _ _ s19
    obtain ⟨Z14, V14, g14, s21, h52⟩ := (s20.pull 1 rfl).frzR
    obtain ⟨Z15, V15, g15, s22, h53⟩ := (s21.pull 1 rfl).frzR
    refine d_mv h43 ?_
    refine d_mv h44 ?_
    refine d_mv h45 ?_
    refine d_add rfl rfl ?_
    refine d_mv h46 ?_
    refine d_mv h49 ?_
    refine d_sub rfl rfl ?_
    refine d_mv h47 ?_
    refine d_mv h50 ?_
    obtain ⟨x9, q18, e⟩ := oB e
    refine d_rem rfl rfl q18 ?_
    obtain ⟨x10, q19, e⟩ := oB e
    obtain ⟨d13, rfl⟩ := ((h52.mono g15.z)).val
    obtain ⟨d14, rfl⟩ := (h53).val
    obtain ⟨Z16, V16, W5, g16, u5, c19, c20, -, c22, c21⟩ := Sat.call (l1 := [pts o1 (.rw 0 [vi x8.1.g.Terms, vi x8.1.g.Nons, vi x8.1.g.Start, (vS d13 x8.1.g.Rules), (vS d14 x8.1.n), (.map (some b7))]), It.mp kE3 vi b7 x8.1.many_]) (l2 := [It.sl (Sh.ro Sh.A4) w16 x8.2.Kids]) s22
    refine d_call (mc rfl (mc rfl (mc rfl (mc rfl (mc rfl m0))))) (ih.2 (a0 := x8.1) c19 (h52.mono (g15.trans g16).z) (h53.mono g16.z) q19) fun w19 H10 i10 k7 => ?_
    have d15 := d12.keep k7
    obtain ⟨w17, w18, b8, _, rfl, s23⟩ := i10
    have s24 := c21 _ _ s23
    obtain ⟨Z17, V17, g17, s25, h54⟩ := (s24.pull 1 rfl).frzR
    obtain ⟨Z18, V18, g18, s26, h55⟩ := (s25.pull 1 rfl).frzR
    obtain ⟨Z19, V19, g19, s27, h56⟩ := s26.frzS 3 rfl
    replace h56 := h56.of_ro
    obtain ⟨d16, rfl⟩ := (h56).val
    refine d_bsl (s := (Sh.ro Sh.A4)) (us := [vi x8.2.Rule, vi x8.2.Term, (vS d16 x8.2.Kids)]) (qs := [(0, 3, (.agg #[vi x8.2.Rule, vi x8.2.Term, (vS d16 x8.2.Kids)]))]) (xs := [x8.2]) (d15.get 21 rfl rfl) s27 (Sh.ro_lt _) rfl rfl rfl (Els.cons (c := [vi x8.2.Rule, vi x8.2.Term, (vS d16 x8.2.Kids)]) (Sh.G8 (x := x8.2) h56) Els.nil) rfl rfl fun w20 H11 s28 k8 => ?_
    have d17 := d15.next 21 rfl k8
    obtain ⟨Z20, V20, g20, s29, h57⟩ := s28.frzS 3 rfl
    replace h57 := h57.of_ro
    obtain ⟨x11, q20, e⟩ := oB e
    refine d_app 0 s29 rfl (Sh.ro_lt _) rfl rfl rfl rfl h57 s29.z (fun h => h) (by decide) q20 fun w21 H12 s30 k9 => ?_
    have d18 := d17.keep k9
    refine d_mv (v := w21) rfl ?_
    refine d_nil dc_nil ?_
    refine c_gen (P := fun tm => tm 10 = w21 ∧ True) ⟨rfl, trivial⟩ ?_
    intro _ i11
    obtain ⟨h58, -⟩ := i11
    refine c_rt ?_
    obtain ⟨d19, rfl⟩ := ((h54.mono (g18.trans (g19.trans g20)).z)).val
    obtain ⟨d20, rfl⟩ := ((h55.mono (g19.trans g20).z)).val
    obtain rfl := oJ e
    exact ⟨.inr rfl, _, (ar1 h58), _, _, _, _, rfl, ((((s30.push (ro_it (sl_ro (h54.mono (g18.trans (g19.trans g20)).z)))).push (ro_it (sl_ro (h55.mono (g19.trans g20).z)))).pick [3, 1, 0, 4, 2] rfl).weak (g2.trans (g10.trans (g11.trans (g12.trans (g13.trans (g14.trans (g15.trans (g16.trans (g17.trans (g18.trans (g19.trans g20))))))))))) hs.zv)⟩
theorem X.C8 {T : FuncId → Option AFunc} (nd : Nd.C8 T) {φ : Nat} {Z V : PH} {H : Hp} {v1 : Value} {v2 : Value} {m3 : Nat} {o1 : Nat} {a0 : Ty.E6} {a1 : Ty.D1} {a2 : Int} {a3 : Int} (hs : Sat Z V H [pts o1 (.rw 0 [vi a0.g.Terms, vi a0.g.Nons, vi a0.g.Start, v1, v2, (.map (some m3))]), It.mp kE3 vi m3 a0.many_]) (hp1 : RdS Sh.A6 Z v1 a0.g.Rules) (hp2 : RdS sI1 Z v2 a0.n) {r : (Ty.E6 × Ty.A4)} (e : P.C8 φ a0 a1 a2 a3 = some r) :
 G T I.C8 [(pV o1 0), (.agg #[(.bool a1.Term), vi a1.N]), vi a2, vi a3] H (fun rv H' => ∃ (u1 : Value) (u2 : Value) (o103 : Nat) (u4 : Value), rv = (.agg #[vi r.2.Rule, vi r.2.Term, u4]) ∧ Sat Z V H' [pts o1 (.rw 0 [vi r.1.g.Terms, vi r.1.g.Nons, vi r.1.g.Start, u1, u2, (.map (some o103))]), Sh.it (Sh.ro (Sh.sl Sh.A6)) [u1] r.1.g.Rules, Sh.it (Sh.ro sI2) [u2] r.1.n, It.mp kE3 vi o103 r.1.many_, It.sl (Sh.ro Sh.A4) u4 r.2.Kids]) := (X.G6 nd φ).1 hs hp1 hp2 e
theorem X.D4 {T : FuncId → Option AFunc} (nd : Nd.D4 T) {φ : Nat} {Z V : PH} {H : Hp} {v1 : Value} {v2 : Value} {m3 : Nat} {o1 : Nat} {a0 : Ty.E6} {a1 : Int} {a2 : Int} {a3 : Int} {a4 : Int} (hs : Sat Z V H [pts o1 (.rw 0 [vi a0.g.Terms, vi a0.g.Nons, vi a0.g.Start, v1, v2, (.map (some m3))]), It.mp kE3 vi m3 a0.many_]) (hp1 : RdS Sh.A6 Z v1 a0.g.Rules) (hp2 : RdS sI1 Z v2 a0.n) {r : (Ty.E6 × (List Ty.A4))} (e : P.D4 φ a0 a1 a2 a3 a4 = some r) :
 G T I.D4 [(pV o1 0), vi a1, vi a2, vi a3, vi a4] H (fun rv H' => ∃ (u1 : Value) (u2 : Value) (o103 : Nat) (u4 : Value), rv = u4 ∧ Sat Z V H' [pts o1 (.rw 0 [vi r.1.g.Terms, vi r.1.g.Nons, vi r.1.g.Start, u1, u2, (.map (some o103))]), Sh.it (Sh.ro (Sh.sl Sh.A6)) [u1] r.1.g.Rules, Sh.it (Sh.ro sI2) [u2] r.1.n, It.mp kE3 vi o103 r.1.many_, It.sl (Sh.ro Sh.A4) u4 r.2]) := (X.G6 nd φ).2 hs hp1 hp2 e
structure Nd.G1 (T : FuncId → Option AFunc) : Prop where
 own : Has T I.G1 F.G1
 E8 : Nd.E8 T
 C8 : Nd.C8 T
set_option maxHeartbeats 1000000 in
theorem X.G1 {T : FuncId → Option AFunc} (nd : Nd.G1 T) {φ : Nat} {Z V : PH} {H : Hp} {v1 : Value} {a0 : Ty.B2} {a1 : Int} {a2 : Int} (hs : Sat Z V H []) (hp1 : RdS Sh.A6 Z v1 a0.Rules) {r : (Ty.A4 × Int)} (e : P.G1 φ a0 a1 a2 = some r) :
 G T I.G1 [(.agg #[vi a0.Terms, vi a0.Nons, vi a0.Start, v1]), vi a1, vi a2] H (fun rv H' => ∃ (u1 : Value), rv = (.tuple #[(.agg #[vi r.1.Rule, vi r.1.Term, u1]), vi r.2]) ∧ Sat Z V H' [It.sl (Sh.ro Sh.A4) u1 r.1.Kids]) := by
 unfold P.G1 at e
 refine f_mk nd.own ?_
 refine c_sr ?_
 obtain ⟨d1, rfl⟩ := (hp1).val
 refine o_box hs rfl rfl fun b1 H1 s1 => ?_
 refine o_new s1 fun b2 H2 s2 => ?_
 refine o_mv (v := (vi 0)) rfl ?_
 refine c_nil (c_sr (o_ldB 1 s2 rfl rfl rfl rfl ?_))
 refine o_mv (v := (vi a1)) rfl ?_
 obtain ⟨x1, q1, e⟩ := oB e
 rcases x1 with ⟨_ | y1, x2⟩
 ·rw [Pu.oc2_none] at e
  obtain ⟨Z1, V1, W1, g1, u1, c1, c2, -, c4, c3⟩ := Sat.call (l1 := []) s2
  refine o_call (mc rfl (mc rfl m0)) (X.E8 nd.E8 c1 (hp1.mono g1.z) q1) fun _ H3 i1 => ?_
  dsimp only [ov, oi, List.nil_append, List.append_nil, List.cons_append] at i1
  obtain ⟨b3, u2, u3, u4, rfl, s3⟩ := i1
  have s4 := c3 _ _ s3
  refine o_mv (v := (.tuple #[(.pointer none), vi x2.1, vi x2.2])) rfl ?_
  refine o_ext rfl rfl (o_ext rfl rfl (o_ext rfl rfl ?_))
  refine o_mv (v := (.pointer none)) rfl ?_
  refine o_mv (v := (vi x2.1)) rfl ?_
  refine o_mv (v := (vi x2.2)) rfl ?_
  refine c_nil ?_
  refine c_gen (P := fun tm => tm 1 = (vi a1) ∧ tm 2 = (vi a2) ∧ tm 3 = (pV b1 0) ∧ tm 6 = (pV b2 0) ∧ tm 8 = (.pointer none) ∧ tm 9 = (vi x2.1) ∧ tm 10 = (vi x2.2) ∧ True) ⟨rfl, rfl, rfl, rfl, rfl, rfl, rfl, trivial⟩ ?_
  intro _ i2
  obtain ⟨h1, h2, h3, h4, h5, h6, h7, -⟩ := i2
  refine c_sq (c_sr (o_mv h7 (o_neq rfl rfl (c_nil ?_))))
  refine c_ifd rfl (fun q2 => ?_) (fun q2 => ?_)
  ·replace e := if_t q2 e
   refine c_sr ?_
   refine o_bld (qs := []) rfl rfl ?_
   refine o_mv h7 ?_
   refine o_stB (us' := [vi 0, vi 0, (.slice none 0 0)]) 0 s4 rfl h4 rfl rfl rfl rfl rfl fun H4 s5 => ?_
   refine o_mv (v := (vi x2.2)) rfl ?_
   refine c_nil (c_rt ?_)
   obtain rfl := oJ e
   exact ⟨.inr rfl, _, (ra2 (rac 0 s5 rfl h4 rfl rfl) (rat rfl)), _, rfl, (((s5.push (sl_nil (s := (Sh.ro Sh.A4)))).pick [0] rfl).weak g1 hs.zv)⟩
  replace e := if_f q2 e
  refine c_sk (c_sq (c_sr (o_mv h2 (o_lss rfl rfl ?_))))
  refine o_mv (v := (.bool (decide (a2 < 0)))) rfl ?_
  refine o_jn 4 (I := fun tm H => tm 28 = .bool ((decide (a2 < 0)) || (decide (x2.1 ≤ a2))) ∧ (∃ (Z2 V2 : PH), Gw Z1 V1 Z2 V2 ∧ Sat Z2 V2 H [pts b1 (.rw 0 [vi a0.Terms, vi a0.Nons, vi a0.Start, (vS d1 a0.Rules)]), pts b2 (.rw 0 [vi 0, vi 0, (.slice none 0 0)])] ∧ tm 1 = (vi a1) ∧ tm 2 = (vi a2) ∧ tm 3 = (pV b1 0) ∧ tm 6 = (pV b2 0) ∧ tm 8 = (.pointer none))) (fun k1 => ?_) ?_
  ·rcases Bool.eq_false_or_eq_true (decide (a2 < 0)) with q3 | q3
   ·refine o_gn rfl q3 (o_gn rfl q3 (o_gn rfl q3 ?_))
    refine o_pickt (a := (.bool true)) rfl q3 rfl ?_
    exact k1 _ _ ⟨gf rfl (by first | (rw [q3]; first | done | rfl) | simp [q3]), _, _, Gw.refl _ _, (s4.pick [1, 0] rfl), h1, h2, h3, h4, h5⟩
   refine o_gy rfl q3 (o_mv h2 (o_gy rfl q3 (o_mv h6 (o_gy rfl q3 ?_))))
   refine o_geq rfl rfl ?_
   refine o_pickf (b := (.bool (decide (x2.1 ≤ a2)))) rfl q3 rfl ?_
   exact k1 _ _ ⟨gf rfl (by first | (rw [q3]; first | done | rfl) | simp [q3]), _, _, Gw.refl _ _, (s4.pick [1, 0] rfl), h1, h2, h3, h4, h5⟩
  intro _ H5 i3
  obtain ⟨h13, Z2, V2, g2, s6, h8, h9, h10, h11, h12⟩ := i3
  refine c_nil ?_
  refine c_if h13 (fun q4 => ?_) (fun q4 => ?_)
  ·replace e := if_t q4 e
   refine c_sr ?_
   refine o_bld (qs := []) rfl rfl ?_
   refine o_stB (us' := [vi 0, vi 0, (.slice none 0 0)]) 1 s6 rfl h11 rfl rfl rfl rfl rfl fun H6 s7 => ?_
   refine o_mv (v := (vi 5)) rfl ?_
   refine c_nil (c_rt ?_)
   obtain rfl := oJ e
   exact ⟨.inr rfl, _, (ra2 (rac 1 s7 rfl h11 rfl rfl) (rat rfl)), _, rfl, (((s7.push (sl_nil (s := (Sh.ro Sh.A4)))).pick [0] rfl).weak (g1.trans g2) hs.zv)⟩
  replace e := ib_f q4 e
  refine c_sk (c_sr (o_mv h12 (o_fad h10 (o_ldB 0 s6 rfl rfl rfl rfl ?_))))
  refine o_bld (qs := [(1, 1, (vi a0.Start))]) rfl rfl ?_
  refine o_mv h8 (o_mv h9 ?_)
  cases e
 rw [Pu.oc2_some] at e
 obtain ⟨Z3, V3, W2, g3, u5, c5, c6, -, c8, c7⟩ := Sat.call (l1 := []) s2
 refine o_call (mc rfl (mc rfl m0)) (X.E8 nd.E8 c5 (hp1.mono g3.z) q1) fun _ H7 i4 => ?_
 dsimp only [ov, oi, List.nil_append, List.append_nil, List.cons_append] at i4
 obtain ⟨b4, w1, w2, b5, rfl, s8⟩ := i4
 have s9 := c7 _ _ s8
 obtain ⟨Z4, V4, g4, s10, h14⟩ := (s9.pull 1 rfl).frzR
 refine o_mv (v := (.tuple #[(pV b4 0), vi x2.1, vi x2.2])) rfl ?_
 refine o_ext rfl rfl (o_ext rfl rfl (o_ext rfl rfl ?_))
 refine o_mv (v := (pV b4 0)) rfl ?_
 refine o_mv (v := (vi x2.1)) rfl ?_
 refine o_mv (v := (vi x2.2)) rfl ?_
 refine c_nil ?_
 refine c_gen (P := fun tm => tm 1 = (vi a1) ∧ tm 2 = (vi a2) ∧ tm 3 = (pV b1 0) ∧ tm 6 = (pV b2 0) ∧ tm 8 = (pV b4 0) ∧ tm 9 = (vi x2.1) ∧ tm 10 = (vi x2.2) ∧ True) ⟨rfl, rfl, rfl, rfl, rfl, rfl, rfl, trivial⟩ ?_
 intro _ i5
 obtain ⟨h15, h16, h17, h18, h19, h20, h21, -⟩ := i5
 refine c_sq (c_sr (o_mv h21 (o_neq rfl rfl (c_nil ?_))))
 refine c_ifd rfl (fun q5 => ?_) (fun q5 => ?_)
 ·replace e := if_t q5 e
  refine c_sr ?_
  refine o_bld (qs := []) rfl rfl ?_
  refine o_mv h21 ?_
  refine o_stB (us' := [vi 0, vi 0, (.slice none 0 0)]) 3 s10 rfl h18 rfl rfl rfl rfl rfl fun H8 s11 => ?_
  refine o_mv (v := (vi x2.2)) rfl ?_
  refine c_nil (c_rt ?_)
  obtain rfl := oJ e
  exact ⟨.inr rfl, _, (ra2 (rac 3 s11 rfl h18 rfl rfl) (rat rfl)), _, rfl, (((s11.push (sl_nil (s := (Sh.ro Sh.A4)))).pick [0] rfl).weak (g3.trans g4) hs.zv)⟩
 replace e := if_f q5 e
 refine c_sk (c_sq (c_sr (o_mv h16 (o_lss rfl rfl ?_))))
 refine o_mv (v := (.bool (decide (a2 < 0)))) rfl ?_
 refine o_jn 4 (I := fun tm H => tm 28 = .bool ((decide (a2 < 0)) || (decide (x2.1 ≤ a2))) ∧ (∃ (Z5 V5 : PH), Gw Z4 V4 Z5 V5 ∧ Sat Z5 V5 H [pts b1 (.rw 0 [vi a0.Terms, vi a0.Nons, vi a0.Start, (vS d1 a0.Rules)]), pts b2 (.rw 0 [vi 0, vi 0, (.slice none 0 0)]), pts b4 (.rw 0 [vi y1.g.Terms, vi y1.g.Nons, vi y1.g.Start, w1, w2, (.map (some b5))]), It.sl sI1 w2 y1.n, It.mp kE3 vi b5 y1.many_] ∧ tm 1 = (vi a1) ∧ tm 2 = (vi a2) ∧ tm 3 = (pV b1 0) ∧ tm 6 = (pV b2 0) ∧ tm 8 = (pV b4 0))) (fun k2 => ?_) ?_
 ·rcases Bool.eq_false_or_eq_true (decide (a2 < 0)) with q6 | q6
  ·refine o_gn rfl q6 (o_gn rfl q6 (o_gn rfl q6 ?_))
   refine o_pickt (a := (.bool true)) rfl q6 rfl ?_
   exact k2 _ _ ⟨gf rfl (by first | (rw [q6]; first | done | rfl) | simp [q6]), _, _, Gw.refl _ _, (s10.pick [4, 3, 0, 1, 2] rfl), h15, h16, h17, h18, h19⟩
  refine o_gy rfl q6 (o_mv h16 (o_gy rfl q6 (o_mv h20 (o_gy rfl q6 ?_))))
  refine o_geq rfl rfl ?_
  refine o_pickf (b := (.bool (decide (x2.1 ≤ a2)))) rfl q6 rfl ?_
  exact k2 _ _ ⟨gf rfl (by first | (rw [q6]; first | done | rfl) | simp [q6]), _, _, Gw.refl _ _, (s10.pick [4, 3, 0, 1, 2] rfl), h15, h16, h17, h18, h19⟩
 intro _ H9 i6
 obtain ⟨h27, Z5, V5, g5, s12, h22, h23, h24, h25, h26⟩ := i6
 refine c_nil ?_
 refine c_if h27 (fun q7 => ?_) (fun q7 => ?_)
 ·replace e := if_t q7 e
  refine c_sr ?_
  refine o_bld (qs := []) rfl rfl ?_
  refine o_stB (us' := [vi 0, vi 0, (.slice none 0 0)]) 1 s12 rfl h25 rfl rfl rfl rfl rfl fun H10 s13 => ?_
  refine o_mv (v := (vi 5)) rfl ?_
  refine c_nil (c_rt ?_)
  obtain rfl := oJ e
  exact ⟨.inr rfl, _, (ra2 (rac 1 s13 rfl h25 rfl rfl) (rat rfl)), _, rfl, (((s13.push (sl_nil (s := (Sh.ro Sh.A4)))).pick [0] rfl).weak (g3.trans (g4.trans g5)) hs.zv)⟩
 replace e := ib_f q7 e
 refine c_sk (c_sr (o_mv h26 (o_fad h24 (o_ldB 0 s12 rfl rfl rfl rfl ?_))))
 refine o_bld (qs := [(1, 1, (vi a0.Start))]) rfl rfl ?_
 refine o_mv h22 (o_mv h23 ?_)
 obtain ⟨Z6, V6, g6, s14, h28⟩ := s12.frzS 3 rfl
 obtain ⟨x3, q8, e⟩ := oB e
 obtain ⟨d2, rfl⟩ := ((h14.mono (g5.trans g6).z)).val
 obtain ⟨d3, rfl⟩ := (h28).val
 obtain ⟨Z7, V7, W3, g7, u6, c9, c10, -, c12, c11⟩ := Sat.call (l1 := [pts b4 (.rw 0 [vi y1.g.Terms, vi y1.g.Nons, vi y1.g.Start, (vS d2 y1.g.Rules), (vS d3 y1.n), (.map (some b5))]), It.mp kE3 vi b5 y1.many_]) (l2 := [pts b1 (.rw 0 [vi a0.Terms, vi a0.Nons, vi a0.Start, (vS d1 a0.Rules)]), pts b2 (.rw 0 [vi 0, vi 0, (.slice none 0 0)])]) (s14.pick [2, 3, 0, 1] rfl)
 refine o_call (mc rfl (mc rfl (mc rfl (mc rfl m0)))) (X.C8 nd.C8 (a0 := y1) (a1 := (Ty.D1.mk false a0.Start)) c9 (h14.mono ((g5.trans g6).trans g7).z) (h28.mono g7.z) q8) fun _ H11 i7 => ?_
 obtain ⟨w3, w4, b6, w5, rfl, s15⟩ := i7
 have s16 := c11 _ _ s15
 obtain ⟨Z8, V8, g8, s17, h29⟩ := (s16.pull 1 rfl).frzR
 obtain ⟨Z9, V9, g9, s18, h30⟩ := (s17.pull 1 rfl).frzR
 obtain ⟨d4, rfl⟩ := ((s18.curS (s := (Sh.ro Sh.A4)) 2 rfl)).val
 refine o_stB (us' := [vi x3.2.Rule, vi x3.2.Term, (vS d4 x3.2.Kids)]) 4 s18 rfl h25 rfl rfl rfl rfl rfl fun H12 s19 => ?_
 refine o_mv (v := (vi 0)) rfl ?_
 refine c_nil (c_rt ?_)
 obtain rfl := oJ e
 exact ⟨.inr rfl, _, (ra2 (rac 4 s19 rfl h25 rfl rfl) (rat rfl)), _, rfl, ((s19.pick [2] rfl).weak (g3.trans (g4.trans (g5.trans (g6.trans (g7.trans (g8.trans g9)))))) hs.zv)⟩
structure Nd.E4 (T : FuncId → Option AFunc) : Prop where
 own : Has T I.E4 F.E4
set_option maxHeartbeats 1000000 in
theorem X.E4 {T : FuncId → Option AFunc} (nd : Nd.E4 T) {Z V : PH} {H : Hp} {v1 : Value} {a0 : Ty.A4} (hs : Sat Z V H []) (hp1 : RdS Sh.A4 V v1 a0.Kids) {r : Bool} (e : P.E4 a0 = some r) :
 G T I.E4 [(.agg #[vi a0.Rule, vi a0.Term, v1])] H (fun rv H' => rv = (.bool r) ∧ Sat Z V H' []) := by
 unfold P.E4 at e
 refine f_mk nd.own ?_
 refine c_sr ?_
 obtain ⟨d1, rfl⟩ := (hp1).val
 refine o_box hs rfl rfl fun b1 H1 s1 => ?_
 refine o_mv (v := (.bool false)) rfl ?_
 refine c_nil (c_sr (o_fad rfl (o_ldB 0 s1 rfl rfl rfl rfl (o_eql rfl rfl ?_))))
 refine o_mv (v := (.bool (decide (a0.Rule = (-1))))) rfl ?_
 refine c_nil (c_rt ?_)
 obtain rfl := oJ e
 exact ⟨.inr rfl, _, (ar1 rfl), rfl, (s1.pick [] rfl)⟩
structure Nd.D8 (T : FuncId → Option AFunc) : Prop where
 own_tree_Size : Has T I.D8 F.D8
 E4 : Nd.E4 T
set_option maxHeartbeats 1000000 in
theorem X.tree_Size_rec {T : FuncId → Option AFunc} (nd : Nd.D8 T) : ∀ φ : Nat, (∀ {Z V : PH} {H : Hp} {v1 : Value} {a0 : Ty.A4} (hs : Sat Z V H []) (hp1 : RdS Sh.A4 V v1 a0.Kids) {r : Int} (e : P.D8 φ a0 = some r), G T I.D8 [(.agg #[vi a0.Rule, vi a0.Term, v1])] H (fun rv H' => rv = (vi r) ∧ Sat Z V H' [])) := by
 intro φ
 induction φ with
 | zero =>
   intro Z V H v1 a0 hs hp1 r e
   rw [P.D8] at e; cases e
 | succ φ ih =>
   intro Z V H v1 a0 hs hp1 r e
   rw [P.D8] at e
   refine f_mk nd.own_tree_Size ?_
   refine c_sr ?_
   obtain ⟨d1, rfl⟩ := (hp1).val
   refine o_box hs rfl rfl fun b1 H1 s1 => ?_
   refine o_mv (v := (vi 0)) rfl ?_
   refine c_nil (c_sr ?_)
   refine o_mv (v := (vi 1)) rfl ?_
   refine c_nil (c_sq (c_sr (o_ldB 0 s1 rfl rfl rfl rfl ?_)))
   obtain ⟨x1, q1, e⟩ := oB e
   obtain ⟨Z1, V1, W1, g1, u1, c1, c2, -, c4, c3⟩ := Sat.call (l1 := []) s1
   refine o_call (mc rfl m0) (X.E4 nd.E4 c1 (hp1.mono (g1.v.trans u1)) q1) fun _ H2 i1 => ?_
   obtain ⟨rfl, s2⟩ := i1
   have s3 := c3 _ _ s2
   refine c_nil ?_
   refine c_if rfl (fun q2 => ?_) (fun q2 => ?_)
   ·replace e := if_t q2 e
    refine c_sr ?_
    refine o_mv (v := (vi 1)) rfl ?_
    refine o_mv (v := (vi 1)) rfl ?_
    refine c_nil (c_rt ?_)
    obtain rfl := oJ e
    exact ⟨.inr rfl, _, (ar1 rfl), rfl, ((s3.pick [] rfl).weak g1 hs.zv)⟩
   replace e := ib_f q2 e
   refine c_sk (c_sq (c_sr (o_fad rfl (o_ldB 0 s3 rfl rfl rfl rfl ?_))))
   refine o_len rfl ((hp1.mono g1.v)).len ?_
   refine o_mv (v := (vi 0)) rfl ?_
   refine c_nil ?_
   obtain ⟨y1, q5, e⟩ := oB e
   refine c_bk ?_
   refine l_forP (xs := a0.Kids) (fun (i2 : Nat) (s4 : Int) tm H => tm 12 = vi i2 ∧ ∃ (Z2 V2 : PH), Gw Z1 V1 Z2 V2 ∧ Sat Z2 V2 H [] ∧ tm 3 = (vi s4) ∧ tm 10 = (vS d1 a0.Kids) ∧ tm 11 = (vN a0.Kids)) (fun i2 x2 s4 s6 tm H4 q3 q4 j1 e1 k1 => ?_) (fun tm H3 jd => ?_) q5 ⟨rfl, _, _, Gw.refl _ _, (s3.pick [] rfl), rfl, rfl, rfl⟩
   ·obtain ⟨hti0, Z2, V2, g2, s5, h1, h2, h3⟩ := j1
    unfold P.D8.b0 at e1
    refine c_sr (o_lss hti0 h3 (c_nil (c_sq ?_)))
    refine c_ift rfl (Int.ofNat_lt.2 q4) ?_
    refine c_sk (c_sq (c_bk (c_sr ?_)))
    refine o_idx (v := (vS d1 a0.Kids)) h2 hti0 (hp1.mono (g1.trans g2).v) rfl (Pu.ix_nat.trans q3) fun p1 q6 => ?_
    refine o_lda rfl (hp1.mono (g1.trans g2).v) s5.v rfl q6 (Pu.ix_nat.trans q3) fun c5 h4 => ?_
    obtain ⟨w1, rfl, h5⟩ := Sh.G4 h4
    refine o_new s5 fun b2 H5 s7 => ?_
    obtain ⟨d2, rfl⟩ := (h5).val
    refine o_stB (us' := [vi x2.Rule, vi x2.Term, (vS d2 x2.Kids)]) 0 s7 rfl rfl rfl rfl rfl rfl rfl fun H6 s8 => ?_
    refine c_nil (c_r (o_mv h1 (o_ldB 0 s8 rfl rfl rfl rfl ?_)))
    obtain ⟨x3, q7, e1⟩ := oB e1
    obtain ⟨Z3, V3, W2, g3, u2, c6, c7, -, c9, c8⟩ := Sat.call (l1 := []) s8
    refine o_call (mc rfl m0) (ih c6 (h5.mono (g3.v.trans u2)) q7) fun _ H7 i3 => ?_
    obtain ⟨rfl, s9⟩ := i3
    have s10 := c8 _ _ s9
    refine o_add rfl rfl ?_
    refine o_mv (v := (vi (Pu.W (s4 + x3)))) rfl ?_
    refine c_nil (c_end (c_r (o_add hti0 rfl ?_)))
    refine o_mv (v := (vi (Pu.W ((i2 : Int) + 1)))) rfl ?_
    refine c_nil ?_
    obtain rfl := oJ e1
    exact k1 _ _ ⟨(iv rfl (w_suc q4 ((hp1.mono g1.v)).bd)), _, _, (g2.trans g3), (s10.pick [] rfl), rfl, h2, h3⟩
   obtain ⟨hte0, Z4, V4, g4, s11, h6, h7, h8⟩ := jd
   refine c_sr (o_lss hte0 h8 (c_nil (c_sq ?_)))
   refine c_iff rfl (Int.lt_irrefl _) ?_
   refine c_ex ?_
   refine e_c ?_
   refine e_c ?_
   refine e_h ?_
   refine c_sr (o_mv h6 ?_)
   refine o_mv (v := (vi y1)) rfl ?_
   refine c_nil (c_rt ?_)
   obtain rfl := oJ e
   exact ⟨.inr rfl, _, (ar1 rfl), rfl, (s11.weak (g1.trans g4) hs.zv)⟩
theorem X.D8 {T : FuncId → Option AFunc} (nd : Nd.D8 T) {φ : Nat} {Z V : PH} {H : Hp} {v1 : Value} {a0 : Ty.A4} (hs : Sat Z V H []) (hp1 : RdS Sh.A4 V v1 a0.Kids) {r : Int} (e : P.D8 φ a0 = some r) :
 G T I.D8 [(.agg #[vi a0.Rule, vi a0.Term, v1])] H (fun rv H' => rv = (vi r) ∧ Sat Z V H' []) := (X.tree_Size_rec nd φ) hs hp1 e
structure Nd.F1 (T : FuncId → Option AFunc) : Prop where
 own : Has T I.F1 F.F1
 E4 : Nd.E4 T
set_option maxHeartbeats 1000000 in
theorem X.F1 {T : FuncId → Option AFunc} (nd : Nd.F1 T) {Z V : PH} {H : Hp} {v1 : Value} {v2 : Value} {a0 : Ty.B2} {a1 : Ty.A4} (hs : Sat Z V H []) (hp1 : RdS Sh.A6 V v1 a0.Rules) (hp2 : RdS Sh.A4 V v2 a1.Kids) {r : (Ty.D1 × Bool)} (e : P.F1 a0 a1 = some r) :
 G T I.F1 [(.agg #[vi a0.Terms, vi a0.Nons, vi a0.Start, v1]), (.agg #[vi a1.Rule, vi a1.Term, v2])] H (fun rv H' => rv = (.tuple #[(.agg #[(.bool r.1.Term), vi r.1.N]), (.bool r.2)]) ∧ Sat Z V H' []) := by
 unfold P.F1 at e
 refine f_mk nd.own ?_
 refine c_sr ?_
 obtain ⟨d1, rfl⟩ := (hp1).val
 refine o_box hs rfl rfl fun b1 H1 s1 => ?_
 obtain ⟨d2, rfl⟩ := (hp2).val
 refine o_box s1 rfl rfl fun b2 H2 s2 => ?_
 refine o_new s2 fun b3 H3 s3 => ?_
 refine o_mv (v := (.bool false)) rfl ?_
 refine c_nil (c_sq (c_sr (o_ldB 1 s3 rfl rfl rfl rfl ?_)))
 obtain ⟨x1, q1, e⟩ := oB e
 obtain ⟨Z1, V1, W1, g1, u1, c1, c2, -, c4, c3⟩ := Sat.call (l1 := []) s3
 refine o_call (mc rfl m0) (X.E4 nd.E4 c1 (hp2.mono (g1.v.trans u1)) q1) fun _ H4 i1 => ?_
 obtain ⟨rfl, s4⟩ := i1
 have s5 := c3 _ _ s4
 refine c_nil ?_
 refine c_if rfl (fun q2 => ?_) (fun q2 => ?_)
 ·replace e := if_t q2 e
  refine c_sq ?_
  obtain ⟨y1, e1, e⟩ := oB e
  refine c_jn (I := fun tm H => ∃ (Z2 V2 : PH), Gw Z1 V1 Z2 V2 ∧ Sat Z2 V2 H [pts b3 (.rw 0 [(.bool true), vi a1.Term])] ∧ tm 4 = (pV b3 0) ∧ tm 5 = (.bool y1)) (fun k1 => ?_) ?_
  ·refine c_gen (P := fun tm => tm 2 = (pV b1 0) ∧ tm 3 = (pV b2 0) ∧ tm 4 = (pV b3 0) ∧ True) ⟨rfl, rfl, rfl, trivial⟩ ?_
   intro _ i2
   obtain ⟨h3, h4, h5, -⟩ := i2
   refine d_start s5 fun n1 H6 s7 q3 d3 => ?_
   refine d_fad h4 ?_
   refine d_ldB (q3 _ _ (ph_some.2 ⟨s7.curB 1 rfl, by simp⟩)) 1 s7 rfl rfl rfl rfl ?_
   refine d_bld (qs := [(0, 1, (.bool true)), (1, 1, (vi a1.Term))]) rfl rfl ?_
   refine d_fad h4 ?_
   refine d_ldB (q3 _ _ (ph_some.2 ⟨s7.curB 1 rfl, by simp⟩)) 1 s7 rfl rfl rfl rfl ?_
   refine d_geq rfl rfl ?_
   refine d_mv (v := (.bool (decide (0 ≤ a1.Term)))) rfl ?_
   rcases Bool.eq_false_or_eq_true (decide (0 ≤ a1.Term)) with q4 | q4
   ·replace e1 := if_t q4 e1
    refine d_want rfl q4 ?_
    refine d_fad h4 ?_
    refine d_want rfl q4 ?_
    refine d_ldB (q3 _ _ (ph_some.2 ⟨s7.curB 1 rfl, by simp⟩)) 1 s7 rfl rfl rfl rfl ?_
    refine d_want rfl q4 ?_
    refine d_fad h3 ?_
    refine d_want rfl q4 ?_
    refine d_ldB (q3 _ _ (ph_some.2 ⟨s7.curB 2 rfl, by simp⟩)) 2 s7 rfl rfl rfl rfl ?_
    refine d_want rfl q4 ?_
    refine d_lss rfl rfl ?_
    refine d_pickt (a := (.bool (decide (a1.Term < a0.Terms)))) rfl q4 rfl ?_
    refine d_mv (v := (.bool (decide (a1.Term < a0.Terms)))) rfl ?_
    rcases Bool.eq_false_or_eq_true (decide (a1.Term < a0.Terms)) with q5 | q5
    ·replace e1 := if_t q5 e1
     refine d_want rfl q5 ?_
     refine d_fad h4 ?_
     refine d_want rfl q5 ?_
     refine d_ldB (q3 _ _ (ph_some.2 ⟨s7.curB 1 rfl, by simp⟩)) 1 s7 rfl rfl rfl rfl ?_
     refine d_want rfl q5 ?_
     refine d_len rfl ((hp2.mono g1.v)).len ?_
     refine d_want rfl q5 ?_
     refine d_eql rfl rfl ?_
     refine d_pickt (a := (.bool (decide ((a1.Kids.length : Int) = 0)))) rfl q5 rfl ?_
     refine d_stB (us' := [(.bool true), vi a1.Term]) 0 s7 rfl h5 rfl rfl rfl rfl rfl fun H7 s8 k2 => ?_
     have d4 := d3.keep k2
     refine d_mv (v := (.bool (decide ((a1.Kids.length : Int) = 0)))) rfl ?_
     refine d_nil (dc_mk rfl (ta4 (ta2 (tre (tl8 (tl4 (tl2 (trl tr0))))))) (ta2 (tre (tl16 (tl2 (trl tr0))))) (tra (tre (tl16 (tl4 tr0)))) (ag_ldx (w := (vS d2 a1.Kids)) (w_y rfl q5) rfl (ldB_v 1 s7 rfl rfl rfl) (ldB_v 1 s7 rfl rfl rfl) (by simp [vsame, vsame1])) (ag_ldx (w := (vS d2 a1.Kids)) (w_y rfl q5) rfl (ldB_v 1 s7 rfl rfl rfl) (ldB_v 1 s8 rfl rfl rfl) (by simp [vsame, vsame1])) dc_nil) ?_
     obtain rfl := oJ e1
     exact k1 _ _ ⟨_, _, Gw.refl _ _, (s8.pick [0] rfl), h5, rfl⟩
    replace e1 := ib_f q5 e1
    refine d_gn rfl q5 ?_
    refine d_gn rfl q5 ?_
    refine d_gn rfl q5 ?_
    refine d_gn rfl q5 ?_
    refine d_pickf (b := (.bool false)) rfl q5 rfl ?_
    refine d_stB (us' := [(.bool true), vi a1.Term]) 0 s7 rfl h5 rfl rfl rfl rfl rfl fun H8 s9 k3 => ?_
    have d5 := d3.keep k3
    refine d_mv (v := (.bool false)) rfl ?_
    refine d_nil (dc_mk rfl (ta4 (ta2 (tre (tl8 (tl4 (tl2 (trl tr0))))))) (ta2 (tre (tl16 (tl2 (trl tr0))))) (tra (tre (tl16 (tl4 tr0)))) (ag_no (w_n rfl q5)) (ag_no (w_n rfl q5)) dc_nil) ?_
    obtain rfl := oJ e1
    exact k1 _ _ ⟨_, _, Gw.refl _ _, (s9.pick [0] rfl), h5, rfl⟩
   replace e1 := ib_f q4 e1
   refine d_gn rfl q4 ?_
   refine d_gn rfl q4 ?_
   refine d_gn rfl q4 ?_
   refine d_gn rfl q4 ?_
   refine d_gn rfl q4 ?_
   refine d_pickf (b := (.bool false)) rfl q4 rfl ?_
   refine d_mv (v := (.bool false)) rfl ?_
   refine d_gn rfl rfl ?_
   refine d_gn rfl rfl ?_
   refine d_gn rfl rfl ?_
   refine d_gn rfl rfl ?_
   refine d_pickf (b := (.bool false)) rfl rfl rfl ?_
   refine d_stB (us' := [(.bool true), vi a1.Term]) 0 s7 rfl h5 rfl rfl rfl rfl rfl fun H9 s10 k4 => ?_
   have d6 := d3.keep k4
   refine d_mv (v := (.bool false)) rfl ?_
   refine d_nil (dc_mk rfl (ta4 (ta2 (tre (tl8 (tl4 (tl2 (trl tr0))))))) (ta2 (tre (tl16 (tl2 (trl tr0))))) (tra (tre (tl16 (tl4 tr0)))) (ag_no (w_n rfl rfl)) (ag_no (w_n rfl rfl)) dc_nil) ?_
   obtain rfl := oJ e1
   exact k1 _ _ ⟨_, _, Gw.refl _ _, (s10.pick [0] rfl), h5, rfl⟩
  intro _ H5 i3
  obtain ⟨Z2, V2, g2, s6, h1, h2⟩ := i3
  refine c_rt ?_
  obtain rfl := oJ e
  exact ⟨.inr rfl, _, (ra2 (rac 0 s6 rfl h1 rfl rfl) (rat h2)), rfl, ((s6.pick [] rfl).weak (g1.trans g2) hs.zv)⟩
 replace e := ib_f q2 e
 refine c_sk (c_sq (c_sr (o_fad rfl (o_ldB 1 s5 rfl rfl rfl rfl ?_))))
 refine o_lss rfl rfl ?_
 refine o_mv (v := (.bool (decide (a1.Rule < 0)))) rfl ?_
 refine o_jn 7 (I := fun tm H => tm 37 = .bool ((decide (a1.Rule < 0)) || (decide ((a0.Rules.length : Int) ≤ a1.Rule))) ∧ (∃ (Z3 V3 : PH), Gw Z1 V1 Z3 V3 ∧ Sat Z3 V3 H [pts b1 (.rw 0 [vi a0.Terms, vi a0.Nons, vi a0.Start, (vS d1 a0.Rules)]), pts b2 (.rw 0 [vi a1.Rule, vi a1.Term, (vS d2 a1.Kids)]), pts b3 (.rw 0 [(.bool false), vi 0])] ∧ tm 2 = (pV b1 0) ∧ tm 3 = (pV b2 0) ∧ tm 4 = (pV b3 0))) (fun k5 => ?_) ?_
 ·rcases Bool.eq_false_or_eq_true (decide (a1.Rule < 0)) with q6 | q6
  ·refine o_gn rfl q6 (o_gn rfl q6 (o_gn rfl q6 (o_gn rfl q6 (o_gn rfl q6 ?_))))
   refine o_gn rfl q6 ?_
   refine o_pickt (a := (.bool true)) rfl q6 rfl ?_
   exact k5 _ _ ⟨gf rfl (by first | (rw [q6]; first | done | rfl) | simp [q6]), _, _, Gw.refl _ _, (s5.pick [2, 1, 0] rfl), rfl, rfl, rfl⟩
  refine o_gy rfl q6 (o_fad rfl (o_gy rfl q6 (o_ldB 1 s5 rfl rfl rfl rfl (o_gy rfl q6 ?_))))
  refine o_fad rfl (o_gy rfl q6 (o_ldB 2 s5 rfl rfl rfl rfl (o_gy rfl q6 (o_len rfl ((hp1.mono g1.v)).len ?_))))
  refine o_gy rfl q6 (o_geq rfl rfl ?_)
  refine o_pickf (b := (.bool (decide ((a0.Rules.length : Int) ≤ a1.Rule)))) rfl q6 rfl ?_
  exact k5 _ _ ⟨gf rfl (by first | (rw [q6]; first | done | rfl) | simp [q6]), _, _, Gw.refl _ _, (s5.pick [2, 1, 0] rfl), rfl, rfl, rfl⟩
 intro _ H10 i4
 obtain ⟨h9, Z3, V3, g3, s11, h6, h7, h8⟩ := i4
 refine c_nil ?_
 refine c_if h9 (fun q7 => ?_) (fun q7 => ?_)
 ·replace e := if_t q7 e
  refine c_sr ?_
  refine o_bld (qs := []) rfl rfl ?_
  refine o_stB (us' := [(.bool false), vi 0]) 2 s11 rfl h8 rfl rfl rfl rfl rfl fun H11 s12 => ?_
  refine o_mv (v := (.bool false)) rfl ?_
  refine c_nil (c_rt ?_)
  obtain rfl := oJ e
  exact ⟨.inr rfl, _, (ra2 (rac 2 s12 rfl h8 rfl rfl) (rat rfl)), rfl, ((s12.pick [] rfl).weak (g1.trans g3) hs.zv)⟩
 replace e := ib_f q7 e
 refine c_sk (c_sq ?_)
 refine d_start s11 fun n2 H12 s13 q8 d7 => ?_
 refine d_fad h6 ?_
 refine d_ldB (q8 _ _ (ph_some.2 ⟨s13.curB 0 rfl, by simp⟩)) 0 s13 rfl rfl rfl rfl ?_
 refine d_fad h7 ?_
 refine d_ldB (q8 _ _ (ph_some.2 ⟨s13.curB 1 rfl, by simp⟩)) 1 s13 rfl rfl rfl rfl ?_
 obtain ⟨x2, q9, e⟩ := oB e
 refine d_idx (v := (vS d1 a0.Rules)) rfl rfl (hp1.mono (g1.trans g3).v) rfl q9 fun p1 q10 => ?_
 refine d_fadE rfl q10 fun p2 q11 => ?_
 refine d_ldF (RdS.low (hp1.mono (g1.trans g3).v) s13.v q8) rfl (hp1.mono (g1.trans g3).v) s13.v rfl q10 q11 q9 rfl fun c5 h10 => ?_
 obtain ⟨w1, rfl, h11⟩ := Sh.G2 h10
 refine ⟨_, rfl, ?_⟩
 refine d_bld (qs := [(1, 1, (vi x2.Left))]) rfl rfl ?_
 refine d_fad h7 ?_
 refine d_ldB (q8 _ _ (ph_some.2 ⟨s13.curB 1 rfl, by simp⟩)) 1 s13 rfl rfl rfl rfl ?_
 refine d_eql rfl rfl ?_
 refine d_stB (us' := [(.bool false), vi x2.Left]) 2 s13 rfl h8 rfl rfl rfl rfl rfl fun H13 s14 k6 => ?_
 have d8 := d7.keep k6
 refine d_mv (v := (.bool (decide (a1.Term = 0)))) rfl ?_
 refine d_nil (dc_mk rfl (ta4 (tre (tl8 (trl tr0)))) (ta2 (tre (tl8 (tl2 (trl tr0))))) (tra (tre (tl8 (tl4 tr0)))) (ag_ldx (w := (vi a1.Term)) w_0 rfl (ldB_v 1 s13 rfl rfl rfl) (ldB_v 1 s13 rfl rfl rfl) (by simp [vsame, vsame1])) (ag_ldx (w := (vi a1.Term)) w_0 rfl (ldB_v 1 s13 rfl rfl rfl) (ldB_v 1 s14 rfl rfl rfl) (by simp [vsame, vsame1])) dc_nil) ?_
 refine c_gen (P := fun tm => tm 4 = (pV b3 0) ∧ tm 5 = (.bool (decide (a1.Term = 0))) ∧ True) ⟨h8, rfl, trivial⟩ ?_
 intro _ i5
 obtain ⟨h12, h13, -⟩ := i5
 refine c_rt ?_
 obtain rfl := oJ e
 exact ⟨.inr rfl, _, (ra2 (rac 2 s14 rfl h12 rfl rfl) (rat h13)), rfl, ((s14.pick [] rfl).weak (g1.trans g3) hs.zv)⟩
structure Nd.D9 (T : FuncId → Option AFunc) : Prop where
 own_tree_valid : Has T I.D9 F.D9
 F1 : Nd.F1 T
 E4 : Nd.E4 T
set_option maxHeartbeats 1000000 in
theorem X.tree_valid_rec {T : FuncId → Option AFunc} (nd : Nd.D9 T) : ∀ φ : Nat, (∀ {Z V : PH} {H : Hp} {v1 : Value} {v2 : Value} {a0 : Ty.B2} {a1 : Ty.A4} (hs : Sat Z V H []) (hp1 : RdS Sh.A6 V v1 a0.Rules) (hp2 : RdS Sh.A4 V v2 a1.Kids) {r : Bool} (e : P.D9 φ a0 a1 = some r), G T I.D9 [(.agg #[vi a0.Terms, vi a0.Nons, vi a0.Start, v1]), (.agg #[vi a1.Rule, vi a1.Term, v2])] H (fun rv H' => rv = (.bool r) ∧ Sat Z V H' [])) := by
 intro φ
 induction φ with
 | zero =>
   intro Z V H v1 v2 a0 a1 hs hp1 hp2 r e
   rw [P.D9] at e; cases e
 | succ φ ih =>
   intro Z V H v1 v2 a0 a1 hs hp1 hp2 r e
   rw [P.D9] at e
   refine f_mk nd.own_tree_valid ?_
   refine c_sr ?_
   obtain ⟨d1, rfl⟩ := (hp1).val
   refine o_box hs rfl rfl fun b1 H1 s1 => ?_
   obtain ⟨d2, rfl⟩ := (hp2).val
   refine o_box s1 rfl rfl fun b2 H2 s2 => ?_
   refine o_mv (v := (.bool false)) rfl ?_
   refine c_nil (c_sq (c_sr (o_ldB 1 s2 rfl rfl rfl rfl (o_ldB 0 s2 rfl rfl rfl rfl ?_))))
   obtain ⟨x1, q1, e⟩ := oB e
   obtain ⟨Z1, V1, W1, g1, u1, c1, c2, -, c4, c3⟩ := Sat.call (l1 := []) s2
   refine o_call (mc rfl (mc rfl m0)) (X.F1 nd.F1 c1 (hp1.mono (g1.v.trans u1)) (hp2.mono (g1.v.trans u1)) q1) fun _ H3 i1 => ?_
   obtain ⟨rfl, s3⟩ := i1
   have s4 := c3 _ _ s3
   refine o_mv (v := (.tuple #[(.agg #[(.bool x1.1.Term), vi x1.1.N]), (.bool x1.2)])) rfl ?_
   refine o_ext rfl rfl (o_ext rfl rfl ?_)
   refine o_new s4 fun b3 H4 s5 => ?_
   refine o_stB (us' := [(.bool x1.1.Term), vi x1.1.N]) 0 s5 rfl rfl rfl rfl rfl rfl rfl fun H5 s6 => ?_
   refine o_mv (v := (.bool x1.2)) rfl ?_
   refine c_nil ?_
   refine c_gen (P := fun tm => tm 2 = (pV b1 0) ∧ tm 3 = (pV b2 0) ∧ tm 6 = (.bool x1.2) ∧ True) ⟨rfl, rfl, rfl, trivial⟩ ?_
   intro _ i2
   obtain ⟨h1, h2, h3, -⟩ := i2
   refine c_sr (o_mv h3 (o_not rfl ?_))
   refine o_mv (v := (.bool (!x1.2))) rfl ?_
   obtain ⟨y1, e1, e⟩ := oB e
   refine o_jn 3 (I := fun tm H => ∃ (Z2 V2 : PH), Gw Z1 V1 Z2 V2 ∧ Sat Z2 V2 H [pts b1 (.rw 0 [vi a0.Terms, vi a0.Nons, vi a0.Start, (vS d1 a0.Rules)]), pts b2 (.rw 0 [vi a1.Rule, vi a1.Term, (vS d2 a1.Kids)])] ∧ tm 2 = (pV b1 0) ∧ tm 3 = (pV b2 0) ∧ tm 6 = (.bool x1.2) ∧ tm 23 = (.bool y1)) (fun k1 => ?_) ?_
   ·rcases Bool.eq_false_or_eq_true (!x1.2) with q2 | q2
    ·replace e1 := if_t q2 e1
     refine o_gn rfl q2 (o_gn rfl q2 ?_)
     refine o_pickt (a := (.bool true)) rfl q2 rfl ?_
     obtain rfl := oJ e1
     exact k1 _ _ ⟨_, _, Gw.refl _ _, (s6.pick [2, 1] rfl), h1, h2, h3, rfl⟩
    replace e1 := ib_f q2 e1
    refine o_gy rfl q2 (o_ldB 1 s6 rfl h2 rfl rfl (o_gy rfl q2 ?_))
    obtain ⟨x2, q3, e1⟩ := oB e1
    obtain ⟨Z3, V3, W2, g3, u2, c5, c6, -, c8, c7⟩ := Sat.call (l1 := []) s6
    refine o_call (mc rfl m0) (X.E4 nd.E4 c5 (hp2.mono ((g1.trans g3).v.trans u2)) q3) fun _ H7 i3 => ?_
    obtain ⟨rfl, s8⟩ := i3
    have s9 := c7 _ _ s8
    refine o_pickf (b := (.bool x2)) rfl q2 rfl ?_
    obtain rfl := oJ e1
    exact k1 _ _ ⟨_, _, g3, (s9.pick [2, 1] rfl), h1, h2, h3, rfl⟩
   intro _ H6 i4
   obtain ⟨Z2, V2, g2, s7, h4, h5, h6, h7⟩ := i4
   refine c_nil ?_
   refine c_if h7 (fun q4 => ?_) (fun q4 => ?_)
   ·replace e := if_t q4 e
    refine c_sr (o_mv h6 ?_)
    refine o_mv (v := (.bool x1.2)) rfl ?_
    refine c_nil (c_rt ?_)
    obtain rfl := oJ e
    exact ⟨.inr rfl, _, (ar1 rfl), rfl, ((s7.pick [] rfl).weak (g1.trans g2) hs.zv)⟩
   replace e := ib_f q4 e
   refine c_sk (c_sr (o_fad h4 (o_ldB 0 s7 rfl rfl rfl rfl (o_fad h5 ?_))))
   refine o_ldB 1 s7 rfl rfl rfl rfl ?_
   obtain ⟨x3, q5, e⟩ := oB e
   refine o_idx (v := (vS d1 a0.Rules)) rfl rfl (hp1.mono (g1.trans g2).v) rfl q5 fun p1 q6 => ?_
   refine o_fadE rfl q6 fun p2 q7 => ?_
   refine o_ldF rfl (hp1.mono (g1.trans g2).v) s7.v rfl q6 q7 q5 rfl fun c9 h8 => ?_
   obtain ⟨w1, rfl, h9⟩ := Sh.G2 h8
   refine ⟨_, rfl, ?_⟩
   refine o_mv (v := w1) rfl ?_
   refine c_nil (c_sq (c_sr (o_fad h5 (o_ldB 1 s7 rfl rfl rfl rfl ?_))))
   refine o_len rfl ((hp2.mono (g1.trans g2).v)).len ?_
   refine o_mv (v := w1) rfl ?_
   refine o_len rfl (h9).len (o_neq rfl rfl (c_nil ?_))
   refine c_gen (P := fun tm => tm 2 = (pV b1 0) ∧ tm 3 = (pV b2 0) ∧ tm 7 = w1 ∧ tm 37 = (.bool (decide ((a1.Kids.length : Int) ≠ (x3.Right.length : Int)))) ∧ True) ⟨h4, h5, rfl, rfl, trivial⟩ ?_
   intro _ i5
   obtain ⟨h10, h11, h12, h13, -⟩ := i5
   refine c_ifd h13 (fun q8 => ?_) (fun q8 => ?_)
   ·replace e := if_t q8 e
    refine c_sr ?_
    refine o_mv (v := (.bool false)) rfl ?_
    refine c_nil (c_rt ?_)
    obtain rfl := oJ e
    exact ⟨.inr rfl, _, (ar1 rfl), rfl, ((s7.pick [] rfl).weak (g1.trans g2) hs.zv)⟩
   replace e := if_f q8 e
   refine c_sk (c_sq (c_sr (o_fad h11 (o_ldB 1 s7 rfl rfl rfl rfl ?_))))
   refine o_len rfl ((hp2.mono (g1.trans g2).v)).len ?_
   refine o_mv (v := (vi 0)) rfl ?_
   refine c_nil ?_
   obtain ⟨y2, q11, e⟩ := oB e
   refine c_jn (I := fun tm H => ∃ (s12 : Unit), y2 = .out s12 ∧ (∃ (Z5 V5 : PH), Gw Z2 V2 Z5 V5 ∧ Sat Z5 V5 H [pts b1 (.rw 0 [vi a0.Terms, vi a0.Nons, vi a0.Start, (vS d1 a0.Rules)])] ∧ tm 2 = (pV b1 0) ∧ tm 7 = w1 ∧ tm 39 = (vS d2 a1.Kids) ∧ tm 40 = (vN a1.Kids))) (fun k5 => ?_) ?_
   ·refine c_bk ?_
    refine l_forL (xs := a1.Kids) (fun (i6 : Nat) (s10 : Unit) tm H => tm 41 = vi i6 ∧ ∃ (Z4 V4 : PH), Gw Z2 V2 Z4 V4 ∧ Sat Z4 V4 H [pts b1 (.rw 0 [vi a0.Terms, vi a0.Nons, vi a0.Start, (vS d1 a0.Rules)])] ∧ tm 2 = (pV b1 0) ∧ tm 7 = w1 ∧ tm 39 = (vS d2 a1.Kids) ∧ tm 40 = (vN a1.Kids)) (fun i6 x4 s10 y3 tm H9 q9 q10 j1 e2 k2 k3 k4 => ?_) (fun s10 tm H8 jf jd => ?_) q11 ⟨rfl, _, _, Gw.refl _ _, (s7.pick [0] rfl), h10, h12, rfl, rfl⟩
    ·obtain ⟨hti0, Z4, V4, g4, s11, h14, h15, h16, h17⟩ := j1
     unfold P.D9.b0 at e2
     refine c_sr (o_lss hti0 h17 (c_nil (c_sq ?_)))
     refine c_ift rfl (Int.ofNat_lt.2 q10) ?_
     refine c_sk (c_sq (c_bk (c_sr (o_mv hti0 ?_))))
     refine o_idx (v := (vS d2 a1.Kids)) h16 hti0 (hp2.mono (g1.trans (g2.trans g4)).v) rfl (Pu.ix_nat.trans q9) fun p3 q12 => ?_
     refine o_lda rfl (hp2.mono (g1.trans (g2.trans g4)).v) s11.v rfl q12 (Pu.ix_nat.trans q9) fun c10 h22 => ?_
     obtain ⟨w2, rfl, h23⟩ := Sh.G4 h22
     refine o_new s11 fun b4 H11 s14 => ?_
     refine o_mv (v := (vJ i6)) rfl ?_
     obtain ⟨d3, rfl⟩ := (h23).val
     refine o_stB (us' := [vi x4.Rule, vi x4.Term, (vS d3 x4.Kids)]) 0 s14 rfl rfl rfl rfl rfl rfl rfl fun H12 s15 => ?_
     refine c_nil (c_sr (o_ldB 1 s15 rfl h14 rfl rfl (o_ldB 0 s15 rfl rfl rfl rfl ?_)))
     obtain ⟨x5, q13, e2⟩ := oB e2
     obtain ⟨Z6, V6, W3, g6, u3, c11, c12, -, c14, c13⟩ := Sat.call (l1 := []) s15
     refine o_call (mc rfl (mc rfl m0)) (X.F1 nd.F1 c11 (hp1.mono (((g1.trans (g2.trans g4)).trans g6).v.trans u3)) (h23.mono (g6.v.trans u3)) q13) fun _ H13 i7 => ?_
     obtain ⟨rfl, s16⟩ := i7
     have s17 := c13 _ _ s16
     refine o_mv (v := (.tuple #[(.agg #[(.bool x5.1.Term), vi x5.1.N]), (.bool x5.2)])) rfl ?_
     refine o_ext rfl rfl (o_ext rfl rfl ?_)
     refine o_new s17 fun b5 H14 s18 => ?_
     refine o_stB (us' := [(.bool x5.1.Term), vi x5.1.N]) 0 s18 rfl rfl rfl rfl rfl rfl rfl fun H15 s19 => ?_
     refine o_mv (v := (.bool x5.2)) rfl ?_
     refine c_nil ?_
     refine c_gen (P := fun tm => tm 2 = (pV b1 0) ∧ tm 7 = w1 ∧ tm 8 = (vJ i6) ∧ tm 9 = (pV b4 0) ∧ tm 10 = (pV b5 0) ∧ tm 11 = (.bool x5.2) ∧ tm 39 = (vS d2 a1.Kids) ∧ tm 40 = (vN a1.Kids) ∧ tm 41 = (vJ i6) ∧ True) ⟨h14, h15, rfl, rfl, rfl, rfl, h16, h17, hti0, trivial⟩ ?_
     intro _ i8
     obtain ⟨h24, h25, h26, h27, h28, h29, h30, h31, h32, -⟩ := i8
     refine c_sq ?_
     refine d_start s19 fun n1 H16 s20 q14 d4 => ?_
     refine d_mv h29 ?_
     refine d_not rfl ?_
     refine d_mv (v := (.bool (!x5.2))) rfl ?_
     obtain ⟨y4, e3, e2⟩ := oB e2
     refine d_jn 7 (I := fun tm H => DD n1 10 (List.length F.D9.r11) H ∧ (∃ (Z7 V7 : PH), Gw Z6 V6 Z7 V7 ∧ Sat Z7 V7 H [pts b1 (.rw 0 [vi a0.Terms, vi a0.Nons, vi a0.Start, (vS d1 a0.Rules)]), pts b4 (.rw 0 [vi x4.Rule, vi x4.Term, (vS d3 x4.Kids)])] ∧ tm 2 = (pV b1 0) ∧ tm 7 = w1 ∧ tm 9 = (pV b4 0) ∧ tm 39 = (vS d2 a1.Kids) ∧ tm 40 = (vN a1.Kids) ∧ tm 41 = (vJ i6) ∧ tm 61 = (.bool y4))) (fun k6 => ?_) ?_
     ·rcases Bool.eq_false_or_eq_true (!x5.2) with q15 | q15
      ·replace e3 := if_t q15 e3
       refine d_gn rfl q15 ?_
       refine d_gn rfl q15 ?_
       refine d_gn rfl q15 ?_
       refine d_gn rfl q15 ?_
       refine d_gn rfl q15 ?_
       refine d_gn rfl q15 ?_
       refine d_pickt (a := (.bool true)) rfl q15 rfl ?_
       obtain rfl := oJ e3
       exact k6 _ _ _ ⟨d4.up rfl, _, _, Gw.refl _ _, (s20.pick [2, 1] rfl), h24, h25, h27, h30, h31, h32, rfl⟩
      replace e3 := ib_f q15 e3
      refine d_want rfl q15 ?_
      refine d_ldB (q14 _ _ (ph_some.2 ⟨s20.curB 0 rfl, by simp⟩)) 0 s20 rfl h28 rfl rfl ?_
      refine d_want rfl q15 ?_
      refine d_mv h25 ?_
      refine d_want rfl q15 ?_
      refine d_mv h26 ?_
      refine d_want rfl q15 ?_
      obtain ⟨x6, q16, e3⟩ := oB e3
      refine d_idx (v := w1) rfl rfl (h9.mono (g4.trans g6).v) rfl q16 fun p4 q17 => ?_
      refine d_want rfl q15 ?_
      refine d_lda (RdS.low (h9.mono (g4.trans g6).v) s20.v q14) rfl h9 ((g4.trans g6).v.trans s20.v) rfl q17 q16 fun c15 h40 => ?_
      obtain rfl := h40
      refine d_want rfl q15 ?_
      refine d_eq (q_napi_Sym ..) rfl rfl ?_
      refine d_pickf (b := (.bool (!((x5.1.Term == x6.Term) && (x5.1.N == x6.N))))) rfl q15 rfl ?_
      obtain rfl := oJ e3
      exact k6 _ _ _ ⟨d4.up rfl, _, _, Gw.refl _ _, (s20.pick [2, 1] rfl), h24, h25, h27, h30, h31, h32, rfl⟩
     intro _ H17 _ i9
     obtain ⟨d5, Z7, V7, g7, s21, h33, h34, h35, h36, h37, h38, h39⟩ := i9
     refine d_mv h39 ?_
     obtain ⟨y5, e4, e2⟩ := oB e2
     refine d_jn 5 (I := fun tm H => DD n1 16 (List.length F.D9.r11) H ∧ (∃ (Z8 V8 : PH), Gw Z7 V7 Z8 V8 ∧ Sat Z8 V8 H [pts b1 (.rw 0 [vi a0.Terms, vi a0.Nons, vi a0.Start, (vS d1 a0.Rules)])] ∧ tm 2 = (pV b1 0) ∧ tm 7 = w1 ∧ tm 39 = (vS d2 a1.Kids) ∧ tm 40 = (vN a1.Kids) ∧ tm 41 = (vJ i6) ∧ tm 67 = (.bool y5))) (fun k7 => ?_) ?_
     ·rcases Bool.eq_false_or_eq_true y4 with q18 | q18
      ·replace e4 := if_t q18 e4
       refine d_gn rfl q18 ?_
       refine d_gn rfl q18 ?_
       refine d_gn rfl q18 ?_
       refine d_gn rfl q18 ?_
       refine d_pickt (a := (.bool true)) rfl q18 rfl ?_
       obtain rfl := oJ e4
       exact k7 _ _ _ ⟨d5.up rfl, _, _, Gw.refl _ _, (s21.pick [0] rfl), h33, h34, h36, h37, h38, rfl⟩
      replace e4 := ib_f q18 e4
      refine d_want rfl q18 ?_
      refine d_ldB (q14 _ _ (ph_some.2 ⟨s20.curB 2 rfl, by simp⟩)) 0 s21 rfl h33 rfl rfl ?_
      refine d_want rfl q18 ?_
      refine d_ldB (q14 _ _ (ph_some.2 ⟨s20.curB 1 rfl, by simp⟩)) 1 s21 rfl h35 rfl rfl ?_
      refine d_want rfl q18 ?_
      obtain ⟨x7, q19, e4⟩ := oB e4
      obtain ⟨Z9, V9, W4, g9, u4, c16, c17, -, c19, c18⟩ := Sat.call (l1 := []) s21
      refine d_call (mc rfl (mc rfl m0)) (ih c16 (hp1.mono (((g1.trans (g2.trans (g4.trans (g6.trans g7)))).trans g9).v.trans u4)) (h23.mono (((g6.trans g7).trans g9).v.trans u4)) q19) fun _ H19 i10 k8 => ?_
      have d6 := d5.keep k8
      obtain ⟨rfl, s23⟩ := i10
      have s24 := c18 _ _ s23
      refine d_want rfl q18 ?_
      refine d_not rfl ?_
      refine d_pickf (b := (.bool (!x7))) rfl q18 rfl ?_
      obtain rfl := oJ e4
      exact k7 _ _ _ ⟨d6.up rfl, _, _, g9, (s24.pick [0] rfl), h33, h34, h36, h37, h38, rfl⟩
     intro _ H18 _ i11
     obtain ⟨d7, Z8, V8, g8, s22, h41, h42, h43, h44, h45, h46⟩ := i11
     refine d_nil dc_nil ?_
     refine c_if h46 (fun q20 => ?_) (fun q20 => ?_)
     ·replace e2 := if_t q20 e2
      refine c_sr ?_
      refine o_mv (v := (.bool false)) rfl ?_
      refine c_nil (c_rt ?_)
      have e5 := fin_r (k4 _ (sJ e2)) e
      obtain rfl := oJ e5
      exact ⟨.inr rfl, _, (ar1 rfl), rfl, ((s22.pick [] rfl).weak (g1.trans (g2.trans (g4.trans (g6.trans (g7.trans g8))))) hs.zv)⟩
     replace e2 := ib_f q20 e2
     refine c_sk (c_end (c_r (o_add h45 rfl ?_)))
     refine o_mv (v := (vi (Pu.W ((i6 : Int) + 1)))) rfl ?_
     refine c_nil ?_
     exact k2 _ _ _ (sJ e2) ⟨(iv rfl (w_suc q10 ((hp2.mono (g1.trans g2).v)).bd)), _, _, (g4.trans (g6.trans (g7.trans g8))), s22, h41, h42, h43, h44⟩
    ·obtain ⟨hte0, Z10, V10, g10, s25, h47, h48, h49, h50⟩ := jd
     refine c_sr (o_lss hte0 h50 (c_nil (c_sq ?_)))
     refine c_iff rfl (Int.lt_irrefl _) ?_
     refine c_ex ?_
     refine e_c ?_
     refine e_c ?_
     refine e_h ?_
     exact k5 _ _ ⟨_, jf, _, _, g10, s25, h47, h48, h49, h50⟩
   intro _ H10 i12
   obtain ⟨s12, f1, Z5, V5, g5, s13, h18, h19, h20, h21⟩ := i12
   replace e := fin_o f1 e
   refine c_sr ?_
   refine o_mv (v := (.bool true)) rfl ?_
   refine c_nil (c_rt ?_)
   obtain rfl := oJ e
   exact ⟨.inr rfl, _, (ar1 rfl), rfl, ((s13.pick [] rfl).weak (g1.trans (g2.trans g5)) hs.zv)⟩
theorem X.D9 {T : FuncId → Option AFunc} (nd : Nd.D9 T) {φ : Nat} {Z V : PH} {H : Hp} {v1 : Value} {v2 : Value} {a0 : Ty.B2} {a1 : Ty.A4} (hs : Sat Z V H []) (hp1 : RdS Sh.A6 V v1 a0.Rules) (hp2 : RdS Sh.A4 V v2 a1.Kids) {r : Bool} (e : P.D9 φ a0 a1 = some r) :
 G T I.D9 [(.agg #[vi a0.Terms, vi a0.Nons, vi a0.Start, v1]), (.agg #[vi a1.Rule, vi a1.Term, v2])] H (fun rv H' => rv = (.bool r) ∧ Sat Z V H' []) := (X.tree_valid_rec nd φ) hs hp1 hp2 e
structure Nd.F2 (T : FuncId → Option AFunc) : Prop where
 own : Has T I.F2 F.F2
 C4 : Nd.C4 T
 D8 : Nd.D8 T
 D9 : Nd.D9 T
set_option maxHeartbeats 1000000 in
theorem X.F2 {T : FuncId → Option AFunc} (nd : Nd.F2 T) {φ : Nat} {Z V : PH} {H : Hp} {v1 : Value} {v2 : Value} {a0 : Ty.B2} {a1 : Ty.A4} (hs : Sat Z V H []) (hp1 : RdS Sh.A6 V v1 a0.Rules) (hp2 : RdS Sh.A4 V v2 a1.Kids) {r : Int} (e : P.F2 φ a0 a1 = some r) :
 G T I.F2 [(.agg #[vi a0.Terms, vi a0.Nons, vi a0.Start, v1]), (.agg #[vi a1.Rule, vi a1.Term, v2])] H (fun rv H' => rv = (vi r) ∧ Sat Z V H' []) := by
 unfold P.F2 at e
 refine f_mk nd.own ?_
 refine c_sr ?_
 obtain ⟨d1, rfl⟩ := (hp1).val
 refine o_box hs rfl rfl fun b1 H1 s1 => ?_
 obtain ⟨d2, rfl⟩ := (hp2).val
 refine o_box s1 rfl rfl fun b2 H2 s2 => ?_
 refine o_mv (v := (vi 0)) rfl ?_
 refine c_nil (c_sq (c_sr (o_ldB 1 s2 rfl rfl rfl rfl ?_)))
 obtain ⟨x1, q1, e⟩ := oB e
 obtain ⟨Z1, V1, W1, g1, u1, c1, c2, -, c4, c3⟩ := Sat.call (l1 := []) s2
 refine o_call (mc rfl m0) (X.C4 nd.C4 c1 (hp1.mono (g1.v.trans u1)) q1) fun _ H3 i1 => ?_
 obtain ⟨rfl, s3⟩ := i1
 have s4 := c3 _ _ s3
 refine o_mv (v := (vi x1)) rfl ?_
 refine c_nil (c_sr ?_)
 refine o_mv (v := (vi x1)) rfl ?_
 refine o_neq rfl rfl (c_nil ?_)
 refine c_ifd rfl (fun q2 => ?_) (fun q2 => ?_)
 ·replace e := if_t q2 e
  refine c_sr ?_
  refine o_mv (v := (vi x1)) rfl ?_
  refine o_mv (v := (vi x1)) rfl ?_
  refine c_nil ?_
  refine c_gen (P := fun tm => tm 4 = (vi x1) ∧ True) ⟨rfl, trivial⟩ ?_
  intro _ i2
  obtain ⟨h1, -⟩ := i2
  refine c_rt ?_
  obtain rfl := oJ e
  exact ⟨.inr rfl, _, (ar1 h1), rfl, ((s4.pick [] rfl).weak g1 hs.zv)⟩
 replace e := if_f q2 e
 refine c_sk (c_sq (c_sr (o_ldB 0 s4 rfl rfl rfl rfl ?_)))
 obtain ⟨x2, q3, e⟩ := oB e
 obtain ⟨Z2, V2, W2, g2, u2, c5, c6, -, c8, c7⟩ := Sat.call (l1 := []) s4
 refine o_call (mc rfl m0) (X.D8 nd.D8 c5 (hp2.mono ((g1.trans g2).v.trans u2)) q3) fun _ H4 i3 => ?_
 obtain ⟨rfl, s5⟩ := i3
 have s6 := c7 _ _ s5
 refine o_gtr rfl rfl (c_nil ?_)
 refine c_gen (P := fun tm => tm 2 = (pV b1 0) ∧ tm 3 = (pV b2 0) ∧ tm 13 = (.bool (decide (5000 < x2))) ∧ True) ⟨rfl, rfl, rfl, trivial⟩ ?_
 intro _ i4
 obtain ⟨h2, h3, h4, -⟩ := i4
 refine c_ifd h4 (fun q4 => ?_) (fun q4 => ?_)
 ·replace e := if_t q4 e
  refine c_sr ?_
  refine o_mv (v := (vi 2)) rfl ?_
  refine c_nil (c_rt ?_)
  obtain rfl := oJ e
  exact ⟨.inr rfl, _, (ar1 rfl), rfl, ((s6.pick [] rfl).weak (g1.trans g2) hs.zv)⟩
 replace e := if_f q4 e
 refine c_sk (c_sq (c_sr (o_ldB 1 s6 rfl h2 rfl rfl (o_ldB 0 s6 rfl h3 rfl rfl ?_))))
 obtain ⟨x3, q5, e⟩ := oB e
 obtain ⟨Z3, V3, W3, g3, u3, c9, c10, -, c12, c11⟩ := Sat.call (l1 := []) s6
 refine o_call (mc rfl (mc rfl m0)) (X.D9 nd.D9 c9 (hp1.mono (((g1.trans g2).trans g3).v.trans u3)) (hp2.mono (((g1.trans g2).trans g3).v.trans u3)) q5) fun _ H5 i5 => ?_
 obtain ⟨rfl, s7⟩ := i5
 have s8 := c11 _ _ s7
 refine o_not rfl (c_nil ?_)
 refine c_if rfl (fun q6 => ?_) (fun q6 => ?_)
 ·replace e := if_t q6 e
  refine c_sr ?_
  refine o_mv (v := (vi 3)) rfl ?_
  refine c_nil (c_rt ?_)
  obtain rfl := oJ e
  exact ⟨.inr rfl, _, (ar1 rfl), rfl, ((s8.pick [] rfl).weak (g1.trans (g2.trans g3)) hs.zv)⟩
 replace e := ib_f q6 e
 refine c_sk (c_sr ?_)
 refine o_mv (v := (vi 0)) rfl ?_
 refine c_nil (c_rt ?_)
 obtain rfl := oJ e
 exact ⟨.inr rfl, _, (ar1 rfl), rfl, ((s8.pick [] rfl).weak (g1.trans (g2.trans g3)) hs.zv)⟩
structure Nd.E7 (T : FuncId → Option AFunc) : Prop where
 own_tree_word : Has T I.E7 F.E7
 E4 : Nd.E4 T
set_option maxHeartbeats 1000000 in
theorem X.tree_word_rec {T : FuncId → Option AFunc} (nd : Nd.E7 T) : ∀ φ : Nat, (∀ {Z V : PH} {H : Hp} {v1 : Value} {v2 : Value} {a0 : (List Int)} {a1 : Ty.A4} (hs : Sat Z V H [It.sl Sh.int v1 a0]) (hp2 : RdS Sh.A4 V v2 a1.Kids) {r : (List Int)} (e : P.E7 φ a0 a1 = some r), G T I.E7 [v1, (.agg #[vi a1.Rule, vi a1.Term, v2])] H (fun rv H' => ∃ (u1 : Value), rv = u1 ∧ Sat Z V H' [It.sl Sh.int u1 r])) := by
 intro φ
 induction φ with
 | zero =>
   intro Z V H v1 v2 a0 a1 hs hp2 r e
   rw [P.E7] at e; cases e
 | succ φ ih =>
   intro Z V H v1 v2 a0 a1 hs hp2 r e
   rw [P.E7] at e
   refine f_mk nd.own_tree_word ?_
   refine c_sr ?_
   obtain ⟨d1, rfl⟩ := (hp2).val
   refine o_box hs rfl rfl fun b1 H1 s1 => ?_
   refine o_mv (v := (.slice none 0 0)) rfl ?_
   refine c_nil (c_sq (c_sr (o_ldB 0 s1 rfl rfl rfl rfl ?_)))
   obtain ⟨x1, q1, e⟩ := oB e
   obtain ⟨Z1, V1, W1, g1, u1, c1, c2, -, c4, c3⟩ := Sat.call (l1 := []) s1
   refine o_call (mc rfl m0) (X.E4 nd.E4 c1 (hp2.mono (g1.v.trans u1)) q1) fun _ H2 i1 => ?_
   obtain ⟨rfl, s2⟩ := i1
   have s3 := c3 _ _ s2
   refine c_nil ?_
   refine c_if rfl (fun q2 => ?_) (fun q2 => ?_)
   ·replace e := if_t q2 e
    refine c_sr ?_
    refine o_mv (v := v1) rfl ?_
    refine o_fad rfl (o_ldB 0 s3 rfl rfl rfl rfl ?_)
    refine o_bsl (s := Sh.int) (us := [vi a1.Term]) (qs := [(0, 1, (vi a1.Term))]) (xs := [a1.Term]) s3 Sh.G3 rfl rfl rfl (Els.cons (c := [vi a1.Term]) rfl Els.nil) rfl rfl fun w1 H3 s4 => ?_
    obtain ⟨x2, q3, e⟩ := oB e
    refine o_app 2 s4 rfl Sh.G3 rfl rfl rfl rfl (s4.curS (s := Sh.int) 0 rfl) pR (fun h => h) (by decide) q3 fun w2 H4 s5 => ?_
    refine o_mv (v := w2) rfl ?_
    refine c_nil ?_
    refine c_gen (P := fun tm => tm 4 = w2 ∧ True) ⟨rfl, trivial⟩ ?_
    intro _ i2
    obtain ⟨h1, -⟩ := i2
    refine c_rt ?_
    obtain rfl := oJ e
    exact ⟨.inr rfl, _, (ar1 h1), _, rfl, ((s5.pick [2] rfl).weak g1 hs.zv)⟩
   replace e := ib_f q2 e
   refine c_sk (c_sq (c_sr (o_fad rfl (o_ldB 0 s3 rfl rfl rfl rfl ?_))))
   refine o_len rfl ((hp2.mono g1.v)).len ?_
   refine o_mv (v := (vi 0)) rfl ?_
   refine c_nil ?_
   obtain ⟨y1, q6, e⟩ := oB e
   refine c_bk ?_
   refine l_forP (xs := a1.Kids) (fun (i3 : Nat) (s6 : (List Int)) tm H => tm 17 = vi i3 ∧ ∃ (Z2 V2 : PH) (w3 : Value), Gw Z1 V1 Z2 V2 ∧ Sat Z2 V2 H [It.sl Sh.int w3 s6] ∧ tm 0 = w3 ∧ tm 15 = (vS d1 a1.Kids) ∧ tm 16 = (vN a1.Kids)) (fun i3 x3 s6 s8 tm H6 q4 q5 j1 e1 k1 => ?_) (fun tm H5 jd => ?_) q6 ⟨rfl, _, _, _, Gw.refl _ _, (s3.pick [1] rfl), rfl, rfl, rfl⟩
   ·obtain ⟨hti0, Z2, V2, w3, g2, s7, h2, h3, h4⟩ := j1
    unfold P.E7.b0 at e1
    refine c_sr (o_lss hti0 h4 (c_nil (c_sq ?_)))
    refine c_ift rfl (Int.ofNat_lt.2 q5) ?_
    refine c_sk (c_sq (c_bk (c_sr ?_)))
    refine o_idx (v := (vS d1 a1.Kids)) h3 hti0 (hp2.mono (g1.trans g2).v) rfl (Pu.ix_nat.trans q4) fun p1 q7 => ?_
    refine o_lda rfl (hp2.mono (g1.trans g2).v) s7.v rfl q7 (Pu.ix_nat.trans q4) fun c5 h5 => ?_
    obtain ⟨w4, rfl, h6⟩ := Sh.G4 h5
    refine o_new s7 fun b2 H7 s9 => ?_
    obtain ⟨d2, rfl⟩ := (h6).val
    refine o_stB (us' := [vi x3.Rule, vi x3.Term, (vS d2 x3.Kids)]) 0 s9 rfl rfl rfl rfl rfl rfl rfl fun H8 s10 => ?_
    refine c_nil (c_r (o_mv h2 (o_ldB 0 s10 rfl rfl rfl rfl ?_)))
    obtain ⟨x4, q8, e1⟩ := oB e1
    obtain ⟨Z3, V3, W2, g3, u2, c6, c7, -, c9, c8⟩ := Sat.call (l1 := [It.sl Sh.int w3 s6]) (l2 := [pts b2 (.rw 0 [vi x3.Rule, vi x3.Term, (vS d2 x3.Kids)])]) (s10.pick [1, 0] rfl)
    refine o_call (mc rfl (mc rfl m0)) (ih c6 (h6.mono (g3.v.trans u2)) q8) fun w5 H9 i4 => ?_
    obtain ⟨_, rfl, s11⟩ := i4
    have s12 := c8 _ _ s11
    refine o_mv (v := w5) rfl ?_
    refine c_nil (c_end (c_r (o_add hti0 rfl ?_)))
    refine o_mv (v := (vi (Pu.W ((i3 : Int) + 1)))) rfl ?_
    refine c_nil ?_
    obtain rfl := oJ e1
    exact k1 _ _ ⟨(iv rfl (w_suc q5 ((hp2.mono g1.v)).bd)), _, _, _, (g2.trans g3), (s12.pick [0] rfl), rfl, h3, h4⟩
   obtain ⟨hte0, Z4, V4, w6, g4, s13, h7, h8, h9⟩ := jd
   refine c_sr (o_lss hte0 h9 (c_nil (c_sq ?_)))
   refine c_iff rfl (Int.lt_irrefl _) ?_
   refine c_ex ?_
   refine e_c ?_
   refine e_c ?_
   refine e_h ?_
   refine c_sr (o_mv h7 ?_)
   refine o_mv (v := w6) rfl ?_
   refine c_nil (c_rt ?_)
   obtain rfl := oJ e
   exact ⟨.inr rfl, _, (ar1 rfl), _, rfl, (s13.weak (g1.trans g4) hs.zv)⟩
theorem X.E7 {T : FuncId → Option AFunc} (nd : Nd.E7 T) {φ : Nat} {Z V : PH} {H : Hp} {v1 : Value} {v2 : Value} {a0 : (List Int)} {a1 : Ty.A4} (hs : Sat Z V H [It.sl Sh.int v1 a0]) (hp2 : RdS Sh.A4 V v2 a1.Kids) {r : (List Int)} (e : P.E7 φ a0 a1 = some r) :
 G T I.E7 [v1, (.agg #[vi a1.Rule, vi a1.Term, v2])] H (fun rv H' => ∃ (u1 : Value), rv = u1 ∧ Sat Z V H' [It.sl Sh.int u1 r]) := (X.tree_word_rec nd φ) hs hp2 e
structure Nd.F9 (T : FuncId → Option AFunc) : Prop where
 own : Has T I.F9 F.F9
 E7 : Nd.E7 T
set_option maxHeartbeats 1000000 in
theorem X.F9 {T : FuncId → Option AFunc} (nd : Nd.F9 T) {φ : Nat} {Z V : PH} {H : Hp} {v1 : Value} {a0 : Ty.A4} (hs : Sat Z V H []) (hp1 : RdS Sh.A4 V v1 a0.Kids) {r : (List Int)} (e : P.F9 φ a0 = some r) :
 G T I.F9 [(.agg #[vi a0.Rule, vi a0.Term, v1])] H (fun rv H' => ∃ (u1 : Value), rv = u1 ∧ Sat Z V H' [It.sl Sh.int u1 r]) := by
 unfold P.F9 at e
 refine f_mk nd.own ?_
 refine c_sr ?_
 obtain ⟨d1, rfl⟩ := (hp1).val
 refine o_box hs rfl rfl fun b1 H1 s1 => ?_
 refine o_mv (v := (.slice none 0 0)) rfl ?_
 refine c_nil (c_sr (o_ldB 0 s1 rfl rfl rfl rfl ?_))
 obtain ⟨x1, q1, e⟩ := oB e
 have s2 := s1.push (sl_nil (s := Sh.int))
 obtain ⟨Z1, V1, W1, g1, u1, c1, c2, -, c4, c3⟩ := Sat.call (l1 := [It.sl Sh.int (.slice none 0 0) []]) (l2 := [pts b1 (.rw 0 [vi a0.Rule, vi a0.Term, (vS d1 a0.Kids)])]) s2
 refine o_call (mc rfl (mc rfl m0)) (X.E7 nd.E7 c1 (hp1.mono (g1.v.trans u1)) q1) fun w1 H2 i1 => ?_
 obtain ⟨_, rfl, s3⟩ := i1
 have s4 := c3 _ _ s3
 refine o_mv (v := w1) rfl ?_
 refine c_nil (c_rt ?_)
 obtain rfl := oJ e
 exact ⟨.inr rfl, _, (ar1 rfl), _, rfl, ((s4.pick [0] rfl).weak g1 hs.zv)⟩
structure Nd.B0 (T : FuncId → Option AFunc) : Prop where
 own : Has T I.B0 F.B0
 C2 : Nd.C2 T
set_option maxHeartbeats 1000000 in
theorem X.B0 {T : FuncId → Option AFunc} (nd : Nd.B0 T) {Z V : PH} {H : Hp} {v1 : Value} {v2 : Value} {a0 : (List Int)} {a1 : (List Int)} (hs : Sat Z V H []) (hp1 : RdS Sh.int V v1 a0) (hp2 : RdS Sh.int V v2 a1) {r : Int} (e : P.B0 a0 a1 = some r) :
 G T I.B0 [v1, v2] H (fun rv H' => rv = (vi r) ∧ Sat Z V H' []) := by
 unfold P.B0 at e
 refine f_mk nd.own ?_
 refine c_sr ?_
 refine o_mv (v := (vi 0)) rfl ?_
 refine c_nil (c_sq (c_sr ?_))
 refine o_mv (v := v1) rfl ?_
 refine o_len rfl (hp1).len ?_
 refine o_mv (v := (vi 0)) rfl ?_
 refine c_nil ?_
 obtain ⟨y1, q3, e⟩ := oB e
 refine c_jn (I := fun tm H => ∃ (s3 : Unit), y1 = .out s3 ∧ (∃ (Z2 V2 : PH), Gw Z V Z2 V2 ∧ Sat Z2 V2 H [] ∧ tm 0 = v1 ∧ tm 1 = v2 ∧ tm 9 = v1 ∧ tm 10 = (vN a0))) (fun k4 => ?_) ?_
 ·refine c_bk ?_
  refine l_forL (xs := a0) (fun (i1 : Nat) (s1 : Unit) tm H => tm 11 = vi i1 ∧ ∃ (Z1 V1 : PH), Gw Z V Z1 V1 ∧ Sat Z1 V1 H [] ∧ tm 0 = v1 ∧ tm 1 = v2 ∧ tm 9 = v1 ∧ tm 10 = (vN a0)) (fun i1 x1 s1 y2 tm H2 q1 q2 j1 e1 k1 k2 k3 => ?_) (fun s1 tm H1 jf jd => ?_) q3 ⟨rfl, _, _, Gw.refl _ _, hs, rfl, rfl, rfl, rfl⟩
  ·obtain ⟨hti0, Z1, V1, g1, s2, h1, h2, h3, h4⟩ := j1
   unfold P.B0.b0 at e1
   refine c_sr (o_lss hti0 h4 (c_nil (c_sq ?_)))
   refine c_ift rfl (Int.ofNat_lt.2 q2) ?_
   refine c_sk (c_sq (c_bk (c_sr (o_mv hti0 ?_))))
   refine o_idx (v := v1) h3 hti0 (hp1.mono g1.v) rfl (Pu.ix_nat.trans q1) fun p1 q4 => ?_
   refine o_ldi rfl (hp1.mono g1.v) s2.v q4 (Pu.ix_nat.trans q1) ?_
   refine o_mv (v := (vJ i1)) rfl ?_
   refine o_mv (v := (vi x1)) rfl ?_
   refine c_nil (c_sq (c_sr ?_))
   refine o_mv (v := (vJ i1)) rfl ?_
   refine o_mv h2 (o_len rfl ((hp2.mono g1.v)).len (o_geq rfl rfl (c_nil ?_)))
   refine c_gen (P := fun tm => tm 0 = v1 ∧ tm 1 = v2 ∧ tm 5 = (vJ i1) ∧ tm 6 = (vi x1) ∧ tm 9 = v1 ∧ tm 10 = (vN a0) ∧ tm 11 = (vJ i1) ∧ tm 19 = (.bool (decide ((a1.length : Int) ≤ (i1 : Int)))) ∧ True) ⟨h1, h2, rfl, rfl, h3, h4, hti0, rfl, trivial⟩ ?_
   intro _ i2
   obtain ⟨h9, h10, h11, h12, h13, h14, h15, h16, -⟩ := i2
   refine c_ifd h16 (fun q5 => ?_) (fun q5 => ?_)
   ·replace e1 := if_t q5 e1
    refine c_sr ?_
    refine o_mv (v := (vi 1)) rfl ?_
    refine c_nil (c_rt ?_)
    have e2 := fin_r (k3 _ (sJ e1)) e
    obtain rfl := oJ e2
    exact ⟨.inr rfl, _, (ar1 rfl), rfl, (s2.weak g1 hs.zv)⟩
   replace e1 := if_f q5 e1
   refine c_sk (c_sr (o_mv h10 (o_mv h11 ?_)))
   obtain ⟨x2, q6, e1⟩ := oB e1
   refine o_idx (v := v2) rfl rfl (hp2.mono g1.v) rfl q6 fun p2 q7 => ?_
   refine o_ldi rfl (hp2.mono g1.v) s2.v q7 q6 ?_
   refine o_mv (v := (vi x2)) rfl ?_
   refine c_nil (c_sr (o_mv h12 ?_))
   refine o_mv (v := (vi x2)) rfl ?_
   obtain ⟨x3, q8, e1⟩ := oB e1
   obtain ⟨Z3, V3, W1, g3, u1, c1, c2, -, c4, c3⟩ := Sat.call (l1 := []) s2
   refine o_call (mc rfl (mc rfl m0)) (X.C2 nd.C2 c1 q8) fun _ H4 i3 => ?_
   obtain ⟨rfl, s5⟩ := i3
   have s6 := c3 _ _ s5
   refine o_mv (v := (vi x3)) rfl ?_
   refine c_nil (c_sr ?_)
   refine o_mv (v := (vi x3)) rfl ?_
   refine o_neq rfl rfl (c_nil ?_)
   refine c_gen (P := fun tm => tm 0 = v1 ∧ tm 1 = v2 ∧ tm 8 = (vi x3) ∧ tm 9 = v1 ∧ tm 10 = (vN a0) ∧ tm 11 = (vJ i1) ∧ tm 28 = (.bool (decide (x3 ≠ 0))) ∧ True) ⟨h9, h10, rfl, h13, h14, h15, rfl, trivial⟩ ?_
   intro _ i4
   obtain ⟨h17, h18, h19, h20, h21, h22, h23, -⟩ := i4
   refine c_ifd h23 (fun q9 => ?_) (fun q9 => ?_)
   ·replace e1 := if_t q9 e1
    refine c_sr (o_mv h19 ?_)
    refine o_mv (v := (vi x3)) rfl ?_
    refine c_nil (c_rt ?_)
    have e3 := fin_r (k3 _ (sJ e1)) e
    obtain rfl := oJ e3
    exact ⟨.inr rfl, _, (ar1 rfl), rfl, (s6.weak (g1.trans g3) hs.zv)⟩
   replace e1 := if_f q9 e1
   refine c_sk (c_end (c_r (o_add h22 rfl ?_)))
   refine o_mv (v := (vi (Pu.W ((i1 : Int) + 1)))) rfl ?_
   refine c_nil ?_
   exact k1 _ _ _ (sJ e1) ⟨(iv rfl (w_suc q2 (hp1).bd)), _, _, (g1.trans g3), s6, h17, h18, h20, h21⟩
  ·obtain ⟨hte0, Z4, V4, g4, s7, h24, h25, h26, h27⟩ := jd
   refine c_sr (o_lss hte0 h27 (c_nil (c_sq ?_)))
   refine c_iff rfl (Int.lt_irrefl _) ?_
   refine c_ex ?_
   refine e_c ?_
   refine e_c ?_
   refine e_h ?_
   exact k4 _ _ ⟨_, jf, _, _, g4, s7, h24, h25, h26, h27⟩
 intro _ H3 i5
 obtain ⟨s3, f1, Z2, V2, g2, s4, h5, h6, h7, h8⟩ := i5
 replace e := fin_o f1 e
 refine c_sq (c_sr (o_mv h5 (o_len rfl ((hp1.mono g2.v)).len (o_mv h6 ?_))))
 refine o_len rfl ((hp2.mono g2.v)).len (o_lss rfl rfl (c_nil ?_))
 refine c_ifd rfl (fun q10 => ?_) (fun q10 => ?_)
 ·replace e := if_t q10 e
  refine c_sr ?_
  refine o_mv (v := (vi (-1))) rfl ?_
  refine c_nil (c_rt ?_)
  obtain rfl := oJ e
  exact ⟨.inr rfl, _, (ar1 rfl), rfl, (s4.weak g2 hs.zv)⟩
 replace e := if_f q10 e
 refine c_sk (c_sr ?_)
 refine o_mv (v := (vi 0)) rfl ?_
 refine c_nil (c_rt ?_)
 obtain rfl := oJ e
 exact ⟨.inr rfl, _, (ar1 rfl), rfl, (s4.weak g2 hs.zv)⟩
structure Nd.D7 (T : FuncId → Option AFunc) : Prop where
 own_tree_rules : Has T I.D7 F.D7
 E4 : Nd.E4 T
set_option maxHeartbeats 1000000 in
theorem X.tree_rules_rec {T : FuncId → Option AFunc} (nd : Nd.D7 T) : ∀ φ : Nat, (∀ {Z V : PH} {H : Hp} {v1 : Value} {v2 : Value} {a0 : (List Int)} {a1 : Ty.A4} (hs : Sat Z V H [It.sl Sh.int v1 a0]) (hp2 : RdS Sh.A4 V v2 a1.Kids) {r : (List Int)} (e : P.D7 φ a0 a1 = some r), G T I.D7 [v1, (.agg #[vi a1.Rule, vi a1.Term, v2])] H (fun rv H' => ∃ (u1 : Value), rv = u1 ∧ Sat Z V H' [It.sl Sh.int u1 r])) := by
 intro φ
 induction φ with
 | zero =>
   intro Z V H v1 v2 a0 a1 hs hp2 r e
   rw [P.D7] at e; cases e
 | succ φ ih =>
   intro Z V H v1 v2 a0 a1 hs hp2 r e
   rw [P.D7] at e
   refine f_mk nd.own_tree_rules ?_
   refine c_sr ?_
   obtain ⟨d1, rfl⟩ := (hp2).val
   refine o_box hs rfl rfl fun b1 H1 s1 => ?_
   refine o_mv (v := (.slice none 0 0)) rfl ?_
   refine c_nil (c_sr ?_)
   refine o_mv (v := v1) rfl ?_
   refine o_fad rfl (o_ldB 0 s1 rfl rfl rfl rfl ?_)
   refine o_bsl (s := Sh.int) (us := [vi a1.Rule]) (qs := [(0, 1, (vi a1.Rule))]) (xs := [a1.Rule]) s1 Sh.G3 rfl rfl rfl (Els.cons (c := [vi a1.Rule]) rfl Els.nil) rfl rfl fun w1 H2 s2 => ?_
   obtain ⟨x1, q1, e⟩ := oB e
   refine o_app 2 s2 rfl Sh.G3 rfl rfl rfl rfl (s2.curS (s := Sh.int) 0 rfl) pR (fun h => h) (by decide) q1 fun w2 H3 s3 => ?_
   refine o_mv (v := w2) rfl ?_
   refine c_nil (c_sq (c_sr (o_ldB 1 s3 rfl rfl rfl rfl ?_)))
   obtain ⟨x2, q2, e⟩ := oB e
   obtain ⟨Z1, V1, W1, g1, u1, c1, c2, -, c4, c3⟩ := Sat.call (l1 := []) s3
   refine o_call (mc rfl m0) (X.E4 nd.E4 c1 (hp2.mono (g1.v.trans u1)) q2) fun _ H4 i1 => ?_
   obtain ⟨rfl, s4⟩ := i1
   have s5 := c3 _ _ s4
   refine c_nil ?_
   refine c_gen (P := fun tm => tm 0 = w2 ∧ tm 3 = (pV b1 0) ∧ tm 13 = (.bool x2) ∧ True) ⟨rfl, rfl, rfl, trivial⟩ ?_
   intro _ i2
   obtain ⟨h1, h2, h3, -⟩ := i2
   refine c_if h3 (fun q3 => ?_) (fun q3 => ?_)
   ·replace e := if_t q3 e
    refine c_sr (o_mv h1 ?_)
    refine o_mv (v := w2) rfl ?_
    refine c_nil (c_rt ?_)
    obtain rfl := oJ e
    exact ⟨.inr rfl, _, (ar1 rfl), _, rfl, ((s5.pick [2] rfl).weak g1 hs.zv)⟩
   replace e := ib_f q3 e
   refine c_sk (c_sq (c_sr (o_fad h2 (o_ldB 1 s5 rfl rfl rfl rfl ?_))))
   refine o_len rfl ((hp2.mono g1.v)).len ?_
   refine o_mv (v := (vi 0)) rfl ?_
   refine c_nil ?_
   obtain ⟨y1, q6, e⟩ := oB e
   refine c_bk ?_
   refine l_forP (xs := a1.Kids) (fun (i3 : Nat) (s6 : (List Int)) tm H => tm 18 = vi i3 ∧ ∃ (Z2 V2 : PH) (w3 : Value), Gw Z1 V1 Z2 V2 ∧ Sat Z2 V2 H [It.sl Sh.int w3 s6] ∧ tm 0 = w3 ∧ tm 16 = (vS d1 a1.Kids) ∧ tm 17 = (vN a1.Kids)) (fun i3 x3 s6 s8 tm H6 q4 q5 j1 e1 k1 => ?_) (fun tm H5 jd => ?_) q6 ⟨rfl, _, _, _, Gw.refl _ _, (s5.pick [2] rfl), h1, rfl, rfl⟩
   ·obtain ⟨hti0, Z2, V2, w3, g2, s7, h4, h5, h6⟩ := j1
    unfold P.D7.b0 at e1
    refine c_sr (o_lss hti0 h6 (c_nil (c_sq ?_)))
    refine c_ift rfl (Int.ofNat_lt.2 q5) ?_
    refine c_sk (c_sq (c_bk (c_sr ?_)))
    refine o_idx (v := (vS d1 a1.Kids)) h5 hti0 (hp2.mono (g1.trans g2).v) rfl (Pu.ix_nat.trans q4) fun p1 q7 => ?_
    refine o_lda rfl (hp2.mono (g1.trans g2).v) s7.v rfl q7 (Pu.ix_nat.trans q4) fun c5 h7 => ?_
    obtain ⟨w4, rfl, h8⟩ := Sh.G4 h7
    refine o_new s7 fun b2 H7 s9 => ?_
    obtain ⟨d2, rfl⟩ := (h8).val
    refine o_stB (us' := [vi x3.Rule, vi x3.Term, (vS d2 x3.Kids)]) 0 s9 rfl rfl rfl rfl rfl rfl rfl fun H8 s10 => ?_
    refine c_nil (c_r (o_mv h4 (o_ldB 0 s10 rfl rfl rfl rfl ?_)))
    obtain ⟨x4, q8, e1⟩ := oB e1
    obtain ⟨Z3, V3, W2, g3, u2, c6, c7, -, c9, c8⟩ := Sat.call (l1 := [It.sl Sh.int w3 s6]) (l2 := [pts b2 (.rw 0 [vi x3.Rule, vi x3.Term, (vS d2 x3.Kids)])]) (s10.pick [1, 0] rfl)
    refine o_call (mc rfl (mc rfl m0)) (ih c6 (h8.mono (g3.v.trans u2)) q8) fun w5 H9 i4 => ?_
    obtain ⟨_, rfl, s11⟩ := i4
    have s12 := c8 _ _ s11
    refine o_mv (v := w5) rfl ?_
    refine c_nil (c_end (c_r (o_add hti0 rfl ?_)))
    refine o_mv (v := (vi (Pu.W ((i3 : Int) + 1)))) rfl ?_
    refine c_nil ?_
    obtain rfl := oJ e1
    exact k1 _ _ ⟨(iv rfl (w_suc q5 ((hp2.mono g1.v)).bd)), _, _, _, (g2.trans g3), (s12.pick [0] rfl), rfl, h5, h6⟩
   obtain ⟨hte0, Z4, V4, w6, g4, s13, h9, h10, h11⟩ := jd
   refine c_sr (o_lss hte0 h11 (c_nil (c_sq ?_)))
   refine c_iff rfl (Int.lt_irrefl _) ?_
   refine c_ex ?_
   refine e_c ?_
   refine e_c ?_
   refine e_h ?_
   refine c_sr (o_mv h9 ?_)
   refine o_mv (v := w6) rfl ?_
   refine c_nil (c_rt ?_)
   obtain rfl := oJ e
   exact ⟨.inr rfl, _, (ar1 rfl), _, rfl, (s13.weak (g1.trans g4) hs.zv)⟩
theorem X.D7 {T : FuncId → Option AFunc} (nd : Nd.D7 T) {φ : Nat} {Z V : PH} {H : Hp} {v1 : Value} {v2 : Value} {a0 : (List Int)} {a1 : Ty.A4} (hs : Sat Z V H [It.sl Sh.int v1 a0]) (hp2 : RdS Sh.A4 V v2 a1.Kids) {r : (List Int)} (e : P.D7 φ a0 a1 = some r) :
 G T I.D7 [v1, (.agg #[vi a1.Rule, vi a1.Term, v2])] H (fun rv H' => ∃ (u1 : Value), rv = u1 ∧ Sat Z V H' [It.sl Sh.int u1 r]) := (X.tree_rules_rec nd φ) hs hp2 e
structure Nd.E5 (T : FuncId → Option AFunc) : Prop where
 own : Has T I.E5 F.E5
 D8 : Nd.D8 T
 C2 : Nd.C2 T
 D7 : Nd.D7 T
 B0 : Nd.B0 T
 F9 : Nd.F9 T
set_option maxHeartbeats 1000000 in
theorem X.E5 {T : FuncId → Option AFunc} (nd : Nd.E5 T) {φ : Nat} {Z V : PH} {H : Hp} {v1 : Value} {v2 : Value} {a0 : Ty.A4} {a1 : Ty.A4} (hs : Sat Z V H []) (hp1 : RdS Sh.A4 V v1 a0.Kids) (hp2 : RdS Sh.A4 V v2 a1.Kids) {r : Int} (e : P.E5 φ a0 a1 = some r) :
 G T I.E5 [(.agg #[vi a0.Rule, vi a0.Term, v1]), (.agg #[vi a1.Rule, vi a1.Term, v2])] H (fun rv H' => rv = (vi r) ∧ Sat Z V H' []) := by
 unfold P.E5 at e
 refine f_mk nd.own ?_
 refine c_sr ?_
 obtain ⟨d1, rfl⟩ := (hp1).val
 refine o_box hs rfl rfl fun b1 H1 s1 => ?_
 obtain ⟨d2, rfl⟩ := (hp2).val
 refine o_box s1 rfl rfl fun b2 H2 s2 => ?_
 refine o_mv (v := (vi 0)) rfl ?_
 refine c_nil (c_sq (c_sq ?_))
 refine d_start s2 fun n1 H3 s3 q1 d3 => ?_
 refine d_ldB (q1 _ _ (ph_some.2 ⟨s3.curB 1 rfl, by simp⟩)) 1 s3 rfl rfl rfl rfl ?_
 obtain ⟨x1, q2, e⟩ := oB e
 obtain ⟨Z1, V1, W1, g1, u1, c1, c2, -, c4, c3⟩ := Sat.call (l1 := []) s3
 refine d_call (mc rfl m0) (X.D8 nd.D8 c1 (hp1.mono (g1.v.trans u1)) q2) fun _ H4 i1 k1 => ?_
 have d4 := d3.keep k1
 obtain ⟨rfl, s4⟩ := i1
 have s5 := c3 _ _ s4
 refine d_ldB (q1 _ _ (ph_some.2 ⟨s3.curB 0 rfl, by simp⟩)) 0 s5 rfl rfl rfl rfl ?_
 obtain ⟨x2, q3, e⟩ := oB e
 obtain ⟨Z2, V2, W2, g2, u2, c5, c6, -, c8, c7⟩ := Sat.call (l1 := []) s5
 refine d_call (mc rfl m0) (X.D8 nd.D8 c5 (hp2.mono ((g1.trans g2).v.trans u2)) q3) fun _ H5 i2 k2 => ?_
 have d5 := d4.keep k2
 obtain ⟨rfl, s6⟩ := i2
 have s7 := c7 _ _ s6
 obtain ⟨x3, q4, e⟩ := oB e
 obtain ⟨Z3, V3, W3, g3, u3, c9, c10, -, c12, c11⟩ := Sat.call (l1 := []) s7
 refine d_call (mc rfl (mc rfl m0)) (X.C2 nd.C2 c9 q4) fun _ H6 i3 k3 => ?_
 have d6 := d5.keep k3
 obtain ⟨rfl, s8⟩ := i3
 have s9 := c11 _ _ s8
 refine d_mv (v := (vi x3)) rfl ?_
 refine d_nil (dc_mk rfl (ta4 (tre (tl2 tr0))) (ta4 (tra (tre (trl tr0)))) (ta4 (tre (tl2 tr0))) (ag_ldx (w := (.agg #[vi a1.Rule, vi a1.Term, (vS d2 a1.Kids)])) w_0 rfl (ldB_v 0 s5 rfl rfl rfl) (ldB_v 0 s3 rfl rfl rfl) (by simp [vsame, vsame1])) (ag_ldx (w := (.agg #[vi a1.Rule, vi a1.Term, (vS d2 a1.Kids)])) w_0 rfl (ldB_v 0 s5 rfl rfl rfl) (ldB_v 0 s5 rfl rfl rfl) (by simp [vsame, vsame1])) dc_nil) ?_
 refine c_sr ?_
 refine o_mv (v := (vi x3)) rfl ?_
 refine o_neq rfl rfl (c_nil ?_)
 refine c_gen (P := fun tm => tm 2 = (pV b1 0) ∧ tm 3 = (pV b2 0) ∧ tm 5 = (vi x3) ∧ tm 13 = (.bool (decide (x3 ≠ 0))) ∧ True) ⟨rfl, rfl, rfl, rfl, trivial⟩ ?_
 intro _ i4
 obtain ⟨h1, h2, h3, h4, -⟩ := i4
 refine c_ifd h4 (fun q5 => ?_) (fun q5 => ?_)
 ·replace e := if_t q5 e
  refine c_sr (o_mv h3 ?_)
  refine o_mv (v := (vi x3)) rfl ?_
  refine c_nil (c_rt ?_)
  obtain rfl := oJ e
  exact ⟨.inr rfl, _, (ar1 rfl), rfl, ((s9.pick [] rfl).weak (g1.trans (g2.trans g3)) hs.zv)⟩
 replace e := if_f q5 e
 refine c_sk (c_sq (c_sq ?_))
 refine d_start s9 fun n2 H7 s10 q6 d7 => ?_
 refine d_ldB (q6 _ _ (ph_some.2 ⟨s10.curB 1 rfl, by simp⟩)) 1 s10 rfl h1 rfl rfl ?_
 obtain ⟨x4, q7, e⟩ := oB e
 have s11 := s10.push (sl_nil (s := Sh.int))
 obtain ⟨Z4, V4, W4, g4, u4, c13, c14, -, c16, c15⟩ := Sat.call (l1 := [It.sl Sh.int (.slice none 0 0) []]) (l2 := [pts b2 (.rw 0 [vi a1.Rule, vi a1.Term, (vS d2 a1.Kids)]), pts b1 (.rw 0 [vi a0.Rule, vi a0.Term, (vS d1 a0.Kids)])]) s11
 refine d_call (mc rfl (mc rfl m0)) (X.D7 nd.D7 c13 (hp1.mono (((g1.trans (g2.trans g3)).trans g4).v.trans u4)) q7) fun w1 H8 i5 k4 => ?_
 have d8 := d7.keep k4
 obtain ⟨_, rfl, s12⟩ := i5
 have s13 := c15 _ _ s12
 refine d_ldB (q6 _ _ (ph_some.2 ⟨s10.curB 0 rfl, by simp⟩)) 1 s13 rfl h2 rfl rfl ?_
 obtain ⟨x5, q8, e⟩ := oB e
 have s14 := s13.push (sl_nil (s := Sh.int))
 obtain ⟨Z5, V5, W5, g5, u5, c17, c18, -, c20, c19⟩ := Sat.call (l1 := [It.sl Sh.int (.slice none 0 0) []]) (l2 := [It.sl Sh.int w1 x4, pts b2 (.rw 0 [vi a1.Rule, vi a1.Term, (vS d2 a1.Kids)]), pts b1 (.rw 0 [vi a0.Rule, vi a0.Term, (vS d1 a0.Kids)])]) s14
 refine d_call (mc rfl (mc rfl m0)) (X.D7 nd.D7 c17 (hp2.mono (((g1.trans (g2.trans (g3.trans g4))).trans g5).v.trans u5)) q8) fun w2 H9 i6 k5 => ?_
 have d9 := d8.keep k5
 obtain ⟨_, rfl, s15⟩ := i6
 have s16 := c19 _ _ s15
 obtain ⟨x6, q9, e⟩ := oB e
 obtain ⟨Z6, V6, W6, g6, u6, c21, c22, -, c24, c23⟩ := Sat.call (l1 := []) s16
 refine d_call (mc rfl (mc rfl m0)) (X.B0 nd.B0 c21 (c22 1 _ Sh.int _ _ rfl) (c22 0 _ Sh.int _ _ rfl) q9) fun _ H10 i7 k6 => ?_
 have d10 := d9.keep k6
 obtain ⟨rfl, s17⟩ := i7
 have s18 := c23 _ _ s17
 refine d_mv (v := (vi x6)) rfl ?_
 refine d_nil (dc_mk rfl (ta4 (tre (tl2 tr0))) (ta4 (tra (tre (trl tr0)))) (ta4 (tre (tl2 tr0))) (ag_ldx (w := (.agg #[vi a1.Rule, vi a1.Term, (vS d2 a1.Kids)])) w_0 h2 (ldB_v 1 s13 rfl rfl rfl) (ldB_v 0 s10 rfl rfl rfl) (by simp [vsame, vsame1])) (ag_ldx (w := (.agg #[vi a1.Rule, vi a1.Term, (vS d2 a1.Kids)])) w_0 h2 (ldB_v 1 s13 rfl rfl rfl) (ldB_v 1 s13 rfl rfl rfl) (by simp [vsame, vsame1])) dc_nil) ?_
 refine c_sr ?_
 refine o_mv (v := (vi x6)) rfl ?_
 refine o_neq rfl rfl (c_nil ?_)
 refine c_ifd rfl (fun q10 => ?_) (fun q10 => ?_)
 ·replace e := if_t q10 e
  refine c_sr ?_
  refine o_mv (v := (vi x6)) rfl ?_
  refine o_mv (v := (vi x6)) rfl ?_
  refine c_nil ?_
  refine c_gen (P := fun tm => tm 4 = (vi x6) ∧ True) ⟨rfl, trivial⟩ ?_
  intro _ i8
  obtain ⟨h5, -⟩ := i8
  refine c_rt ?_
  obtain rfl := oJ e
  exact ⟨.inr rfl, _, (ar1 h5), rfl, ((s18.pick [] rfl).weak (g1.trans (g2.trans (g3.trans (g4.trans (g5.trans g6))))) hs.zv)⟩
 replace e := if_f q10 e
 refine c_sk (c_sq ?_)
 refine c_gen (P := fun tm => tm 2 = (pV b1 0) ∧ tm 3 = (pV b2 0) ∧ True) ⟨h1, h2, trivial⟩ ?_
 intro _ i9
 obtain ⟨h6, h7, -⟩ := i9
 refine d_start s18 fun n3 H11 s19 q11 d11 => ?_
 refine d_ldB (q11 _ _ (ph_some.2 ⟨s19.curB 3 rfl, by simp⟩)) 3 s19 rfl h6 rfl rfl ?_
 obtain ⟨x7, q12, e⟩ := oB e
 obtain ⟨Z7, V7, W7, g7, u7, c25, c26, -, c28, c27⟩ := Sat.call (l1 := []) s19
 refine d_call (mc rfl m0) (X.F9 nd.F9 c25 (hp1.mono (((g1.trans (g2.trans (g3.trans (g4.trans (g5.trans g6))))).trans g7).v.trans u7)) q12) fun w3 H12 i10 k7 => ?_
 have d12 := d11.keep k7
 obtain ⟨_, rfl, s20⟩ := i10
 have s21 := c27 _ _ s20
 refine d_ldB (q11 _ _ (ph_some.2 ⟨s19.curB 2 rfl, by simp⟩)) 3 s21 rfl h7 rfl rfl ?_
 obtain ⟨x8, q13, e⟩ := oB e
 obtain ⟨Z8, V8, W8, g8, u8, c29, c30, -, c32, c31⟩ := Sat.call (l1 := []) s21
 refine d_call (mc rfl m0) (X.F9 nd.F9 c29 (hp2.mono (((g1.trans (g2.trans (g3.trans (g4.trans (g5.trans (g6.trans g7)))))).trans g8).v.trans u8)) q13) fun w4 H13 i11 k8 => ?_
 have d13 := d12.keep k8
 obtain ⟨_, rfl, s22⟩ := i11
 have s23 := c31 _ _ s22
 obtain ⟨x9, q14, e⟩ := oB e
 obtain ⟨Z9, V9, W9, g9, u9, c33, c34, -, c36, c35⟩ := Sat.call (l1 := []) s23
 refine d_call (mc rfl (mc rfl m0)) (X.B0 nd.B0 c33 (c34 1 _ Sh.int _ _ rfl) (c34 0 _ Sh.int _ _ rfl) q14) fun _ H14 i12 k9 => ?_
 have d14 := d13.keep k9
 obtain ⟨rfl, s24⟩ := i12
 have s25 := c35 _ _ s24
 refine d_mv (v := (vi x9)) rfl ?_
 refine d_nil (dc_mk rfl (ta4 (tre (tl2 tr0))) (ta4 (tra (tre (trl tr0)))) (ta4 (tre (tl2 tr0))) (ag_ldx (w := (.agg #[vi a1.Rule, vi a1.Term, (vS d2 a1.Kids)])) w_0 h7 (ldB_v 3 s21 rfl rfl rfl) (ldB_v 2 s19 rfl rfl rfl) (by simp [vsame, vsame1])) (ag_ldx (w := (.agg #[vi a1.Rule, vi a1.Term, (vS d2 a1.Kids)])) w_0 h7 (ldB_v 3 s21 rfl rfl rfl) (ldB_v 3 s21 rfl rfl rfl) (by simp [vsame, vsame1])) dc_nil) ?_
 refine c_rt ?_
 obtain rfl := oJ e
 exact ⟨.inr rfl, _, (ar1 rfl), rfl, ((s25.pick [] rfl).weak (g1.trans (g2.trans (g3.trans (g4.trans (g5.trans (g6.trans (g7.trans (g8.trans g9)))))))) hs.zv)⟩
structure Nd.B6 (T : FuncId → Option AFunc) : Prop where
 own_parlmake_tree : Has T I.B6 F.B6
 A8 : Nd.A8 T
set_option maxHeartbeats 1000000 in
theorem X.parlmake_tree_rec {T : FuncId → Option AFunc} (nd : Nd.B6 T) : ∀ φ : Nat, (∀ {Z V : PH} {H : Hp} {v1 : Value} {v2 : Value} {o1 : Nat} {o2 : Nat} {a0 : Ty.B2} {a1 : Ty.D1} {a2 : Ty.E9} {a3 : Int} {a4 : Int} (hs : Sat Z V H [pts o1 (.rw 0 [v2]), pts o2 (.rw 0 [vi a3])]) (hp1 : RdS Sh.A6 Z v1 a0.Rules) (hp2 : RdS Sh.int Z v2 a2.l) {r : (Ty.E9 × Int × Ty.A4 × Bool)} (e : P.B6 φ a0 a1 a2 a3 a4 = some r), G T I.B6 [(.agg #[vi a0.Terms, vi a0.Nons, vi a0.Start, v1]), (.agg #[(.bool a1.Term), vi a1.N]), (pV o1 0), (pV o2 0), vi a4] H (fun rv H' => ∃ (u1 : Value) (u2 : Value), rv = (.tuple #[(.agg #[vi r.2.2.1.Rule, vi r.2.2.1.Term, u2]), (.bool r.2.2.2)]) ∧ Sat Z V H' [pts o1 (.rw 0 [u1]), Sh.it (Sh.ro sI1) [u1] r.1.l, pts o2 (.rw 0 [vi r.2.1]), It.sl (Sh.ro Sh.A4) u2 r.2.2.1.Kids])) := by
 intro φ
 induction φ with
 | zero =>
   intro Z V H v1 v2 o1 o2 a0 a1 a2 a3 a4 hs hp1 hp2 r e
   rw [P.B6] at e; cases e
 | succ φ ih =>
   intro Z V H v1 v2 o1 o2 a0 a1 a2 a3 a4 hs hp1 hp2 r e
   rw [P.B6] at e
   refine f_mk nd.own_parlmake_tree ?_
   refine c_sr ?_
   obtain ⟨d1, rfl⟩ := (hp1).val
   refine o_box hs rfl rfl fun b1 H1 s1 => ?_
   refine o_box s1 rfl rfl fun b2 H2 s2 => ?_
   refine o_new s2 fun b3 H3 s3 => ?_
   refine o_mv (v := (.bool false)) rfl ?_
   refine c_nil (c_sq (c_sr ?_))
   refine o_mv (v := (pV o2 0)) rfl ?_
   refine o_nck rfl (o_ldB 4 s3 rfl rfl rfl rfl (o_sub rfl rfl (o_nck rfl ?_)))
   refine o_stB (us' := [(vi (Pu.W (a3 - 1)))]) 4 s3 rfl rfl rfl rfl rfl rfl rfl fun H4 s4 => ?_
   refine c_nil (c_sr ?_)
   refine o_mv (v := (pV o2 0)) rfl ?_
   refine o_nck rfl (o_ldB 4 s4 rfl rfl rfl rfl (o_lss rfl rfl ?_))
   refine o_mv (v := (.bool (decide ((Pu.W (a3 - 1)) < 0)))) rfl ?_
   refine o_jn 3 (I := fun tm H => tm 32 = .bool ((decide ((Pu.W (a3 - 1)) < 0)) || (decide (a4 < 0))) ∧ (∃ (Z1 V1 : PH), Gw Z V Z1 V1 ∧ Sat Z1 V1 H [pts o1 (.rw 0 [v2]), pts o2 (.rw 0 [(vi (Pu.W (a3 - 1)))]), pts b1 (.rw 0 [vi a0.Terms, vi a0.Nons, vi a0.Start, (vS d1 a0.Rules)]), pts b2 (.rw 0 [(.bool a1.Term), vi a1.N]), pts b3 (.rw 0 [vi 0, vi 0, (.slice none 0 0)])] ∧ tm 2 = (pV o1 0) ∧ tm 3 = (pV o2 0) ∧ tm 4 = (vi a4) ∧ tm 5 = (pV b1 0) ∧ tm 6 = (pV b2 0) ∧ tm 10 = (pV b3 0))) (fun k1 => ?_) ?_
   ·rcases Bool.eq_false_or_eq_true (decide ((Pu.W (a3 - 1)) < 0)) with q1 | q1
    ·refine o_gn rfl q1 (o_gn rfl q1 ?_)
     refine o_pickt (a := (.bool true)) rfl q1 rfl ?_
     exact k1 _ _ ⟨gf rfl (by first | (rw [q1]; first | done | rfl) | simp [q1]), _, _, Gw.refl _ _, (s4.pick [3, 4, 2, 1, 0] rfl), rfl, rfl, rfl, rfl, rfl, rfl⟩
    refine o_gy rfl q1 ?_
    refine o_mv (v := (vi a4)) rfl ?_
    refine o_gy rfl q1 (o_lss rfl rfl ?_)
    refine o_pickf (b := (.bool (decide (a4 < 0)))) rfl q1 rfl ?_
    exact k1 _ _ ⟨gf rfl (by first | (rw [q1]; first | done | rfl) | simp [q1]), _, _, Gw.refl _ _, (s4.pick [3, 4, 2, 1, 0] rfl), rfl, rfl, rfl, rfl, rfl, rfl⟩
   intro _ H5 i1
   obtain ⟨h7, Z1, V1, g1, s5, h1, h2, h3, h4, h5, h6⟩ := i1
   refine c_nil ?_
   refine c_if h7 (fun q2 => ?_) (fun q2 => ?_)
   ·replace e := if_t q2 e
    refine c_sr ?_
    refine o_bld (qs := []) rfl rfl ?_
    refine o_stB (us' := [vi 0, vi 0, (.slice none 0 0)]) 4 s5 rfl h6 rfl rfl rfl rfl rfl fun H6 s6 => ?_
    refine o_mv (v := (.bool false)) rfl ?_
    refine c_nil (c_rt ?_)
    obtain ⟨d2, rfl⟩ := ((hp2.mono g1.z)).val
    obtain rfl := oJ e
    exact ⟨.inr rfl, _, (ra2 (rac 4 s6 rfl h6 rfl rfl) (rat rfl)), _, _, rfl, ((((s6.push (ro_it (sl_ro (hp2.mono g1.z)))).push (sl_nil (s := (Sh.ro Sh.A4)))).pick [2, 1, 3, 0] rfl).weak g1 hs.zv)⟩
   replace e := ib_f q2 e
   refine c_sk (c_sq (c_sr (o_fad h5 (o_ldB 3 s5 rfl rfl rfl rfl ?_))))
   refine c_nil ?_
   refine c_if rfl (fun q3 => ?_) (fun q3 => ?_)
   ·replace e := if_t q3 e
    refine c_sr (o_fad h5 (o_ldB 3 s5 rfl rfl rfl rfl ?_))
    refine o_bld (qs := [(0, 1, (vi (-1))), (1, 1, (vi a1.N))]) rfl rfl ?_
    refine o_stB (us' := [(vi (-1)), vi a1.N, (.slice none 0 0)]) 4 s5 rfl h6 rfl rfl rfl rfl rfl fun H7 s7 => ?_
    refine o_mv (v := (.bool true)) rfl ?_
    refine c_nil (c_rt ?_)
    obtain ⟨d3, rfl⟩ := ((hp2.mono g1.z)).val
    obtain rfl := oJ e
    exact ⟨.inr rfl, _, (ra2 (rac 4 s7 rfl h6 rfl rfl) (rat rfl)), _, _, rfl, ((((s7.push (ro_it (sl_ro (hp2.mono g1.z)))).push (sl_nil (s := (Sh.ro Sh.A4)))).pick [2, 1, 3, 0] rfl).weak g1 hs.zv)⟩
   replace e := ib_f q3 e
   refine c_sk (c_sr ?_)
   refine o_mv (v := (.slice none 0 0)) rfl ?_
   refine c_nil (c_sq (c_sr (o_fad h4 (o_ldB 2 s5 rfl rfl rfl rfl ?_))))
   refine o_len rfl ((hp1.mono g1.z)).len ?_
   refine o_mv (v := (vi 0)) rfl ?_
   refine c_nil ?_
   obtain ⟨y1, q6, e⟩ := oB e
   refine c_bk ?_
   refine l_forP (xs := a0.Rules) (fun (i2 : Nat) (s8 : (List Int)) tm H => tm 42 = vi i2 ∧ ∃ (Z2 V2 : PH) (w1 : Value), Gw Z1 V1 Z2 V2 ∧ Sat Z2 V2 H [pts o1 (.rw 0 [v2]), pts o2 (.rw 0 [(vi (Pu.W (a3 - 1)))]), pts b1 (.rw 0 [vi a0.Terms, vi a0.Nons, vi a0.Start, (vS d1 a0.Rules)]), pts b2 (.rw 0 [(.bool a1.Term), vi a1.N]), pts b3 (.rw 0 [vi 0, vi 0, (.slice none 0 0)]), It.sl Sh.int w1 s8] ∧ tm 2 = (pV o1 0) ∧ tm 3 = (pV o2 0) ∧ tm 4 = (vi a4) ∧ tm 5 = (pV b1 0) ∧ tm 6 = (pV b2 0) ∧ tm 10 = (pV b3 0) ∧ tm 12 = w1 ∧ tm 40 = (vS d1 a0.Rules) ∧ tm 41 = (vN a0.Rules)) (fun i2 x1 s8 s10 tm H9 q4 q5 j1 e1 k2 => ?_) (fun tm H8 jd => ?_) q6 ⟨rfl, _, _, _, Gw.refl _ _, ((s5.push (sl_nil (s := Sh.int))).pick [1, 2, 3, 4, 5, 0] rfl), h1, h2, h3, h4, h5, h6, rfl, rfl, rfl⟩
   ·obtain ⟨hti0, Z2, V2, w1, g2, s9, h8, h9, h10, h11, h12, h13, h14, h15, h16⟩ := j1
    unfold P.B6.b0 at e1
    refine c_sr (o_lss hti0 h16 (c_nil (c_sq ?_)))
    refine c_ift rfl (Int.ofNat_lt.2 q5) ?_
    refine c_sk (c_sq (c_bk (c_sr (o_mv hti0 ?_))))
    refine o_idx (v := (vS d1 a0.Rules)) h15 hti0 (hp1.mono (g1.trans g2).z) rfl (Pu.ix_nat.trans q4) fun p1 q7 => ?_
    refine o_lda rfl (hp1.mono (g1.trans g2).z) s9.z rfl q7 (Pu.ix_nat.trans q4) fun c1 h17 => ?_
    obtain ⟨w2, rfl, h18⟩ := Sh.G2 h17
    refine o_new s9 fun b4 H10 s11 => ?_
    refine o_mv (v := (vJ i2)) rfl ?_
    obtain ⟨d4, rfl⟩ := (h18).val
    refine o_stB (us' := [vi x1.Left, (vS d4 x1.Right)]) 0 s11 rfl rfl rfl rfl rfl rfl rfl fun H11 s12 => ?_
    refine c_nil (c_sr (o_fad rfl (o_ldB 0 s12 rfl rfl rfl rfl (o_fad h12 ?_))))
    refine o_ldB 4 s12 rfl rfl rfl rfl (o_eql rfl rfl (c_nil ?_))
    refine c_gen (P := fun tm => tm 2 = (pV o1 0) ∧ tm 3 = (pV o2 0) ∧ tm 4 = (vi a4) ∧ tm 5 = (pV b1 0) ∧ tm 6 = (pV b2 0) ∧ tm 10 = (pV b3 0) ∧ tm 12 = w1 ∧ tm 13 = (vJ i2) ∧ tm 40 = (vS d1 a0.Rules) ∧ tm 41 = (vN a0.Rules) ∧ tm 42 = (vJ i2) ∧ tm 51 = (.bool (decide (x1.Left = a1.N))) ∧ True) ⟨h8, h9, h10, h11, h12, h13, h14, rfl, h15, h16, hti0, rfl, trivial⟩ ?_
    intro _ i3
    obtain ⟨h19, h20, h21, h22, h23, h24, h25, h26, h27, h28, h29, h30, -⟩ := i3
    obtain ⟨y2, e2, e1⟩ := oB e1
    refine c_jn (I := fun tm H => ∃ (Z3 V3 : PH) (w3 : Value), Gw Z2 V2 Z3 V3 ∧ Sat Z3 V3 H [pts o1 (.rw 0 [v2]), pts o2 (.rw 0 [(vi (Pu.W (a3 - 1)))]), pts b1 (.rw 0 [vi a0.Terms, vi a0.Nons, vi a0.Start, (vS d1 a0.Rules)]), pts b2 (.rw 0 [(.bool a1.Term), vi a1.N]), pts b3 (.rw 0 [vi 0, vi 0, (.slice none 0 0)]), It.sl Sh.int w3 y2] ∧ tm 2 = (pV o1 0) ∧ tm 3 = (pV o2 0) ∧ tm 4 = (vi a4) ∧ tm 5 = (pV b1 0) ∧ tm 6 = (pV b2 0) ∧ tm 10 = (pV b3 0) ∧ tm 12 = w3 ∧ tm 40 = (vS d1 a0.Rules) ∧ tm 41 = (vN a0.Rules) ∧ tm 42 = (vJ i2)) (fun k3 => ?_) ?_
    ·refine c_ifd h30 (fun q8 => ?_) (fun q8 => ?_)
     ·replace e2 := if_t q8 e2
      refine c_r (o_mv h25 (o_mv h26 ?_))
      refine o_bsl (s := Sh.int) (us := [(vJ i2)]) (qs := [(0, 1, (vJ i2))]) (xs := [(i2 : Int)]) s12 Sh.G3 rfl rfl rfl (Els.cons (c := [(vJ i2)]) rfl Els.nil) rfl rfl fun w4 H13 s14 => ?_
      obtain ⟨x2, q9, e2⟩ := oB e2
      refine o_app 7 s14 rfl Sh.G3 rfl rfl rfl rfl (s14.curS (s := Sh.int) 0 rfl) pR (fun h => h) (by decide) q9 fun w5 H14 s15 => ?_
      refine o_mv (v := w5) rfl ?_
      refine c_nil ?_
      obtain rfl := oJ e2
      exact k3 _ _ ⟨_, _, _, Gw.refl _ _, (s15.pick [2, 3, 4, 5, 6, 7] rfl), h19, h20, h21, h22, h23, h24, rfl, h27, h28, h29⟩
     replace e2 := if_f q8 e2
     refine c_sk ?_
     obtain rfl := oJ e2
     exact k3 _ _ ⟨_, _, _, Gw.refl _ _, (s12.pick [1, 2, 3, 4, 5, 6] rfl), h19, h20, h21, h22, h23, h24, h25, h27, h28, h29⟩
    intro _ H12 i4
    obtain ⟨Z3, V3, w3, g3, s13, h31, h32, h33, h34, h35, h36, h37, h38, h39, h40⟩ := i4
    refine c_end (c_r (o_add h40 rfl ?_))
    refine o_mv (v := (vi (Pu.W ((i2 : Int) + 1)))) rfl ?_
    refine c_nil ?_
    obtain rfl := oJ e1
    exact k2 _ _ ⟨(iv rfl (w_suc q5 ((hp1.mono g1.z)).bd)), _, _, _, (g2.trans g3), s13, h31, h32, h33, h34, h35, h36, h37, h38, h39⟩
   obtain ⟨hte0, Z4, V4, w6, g4, s16, h41, h42, h43, h44, h45, h46, h47, h48, h49⟩ := jd
   refine c_sr (o_lss hte0 h49 (c_nil (c_sq ?_)))
   refine c_iff rfl (Int.lt_irrefl _) ?_
   refine c_ex ?_
   refine e_c ?_
   refine e_c ?_
   refine e_h ?_
   refine c_sq (c_sr (o_mv h47 ?_))
   refine o_len rfl ((s16.curS (s := Sh.int) 5 rfl)).len ?_
   refine o_eql rfl rfl (c_nil ?_)
   refine c_ifd rfl (fun q10 => ?_) (fun q10 => ?_)
   ·replace e := if_t q10 e
    refine c_sr ?_
    refine o_bld (qs := []) rfl rfl ?_
    refine o_stB (us' := [vi 0, vi 0, (.slice none 0 0)]) 4 s16 rfl h46 rfl rfl rfl rfl rfl fun H16 s17 => ?_
    refine o_mv (v := (.bool false)) rfl ?_
    refine c_nil (c_rt ?_)
    obtain ⟨d5, rfl⟩ := ((hp2.mono (g1.trans g4).z)).val
    obtain rfl := oJ e
    exact ⟨.inr rfl, _, (ra2 (rac 4 s17 rfl h46 rfl rfl) (rat rfl)), _, _, rfl, ((((s17.push (ro_it (sl_ro (hp2.mono (g1.trans g4).z)))).push (sl_nil (s := (Sh.ro Sh.A4)))).pick [2, 1, 3, 0] rfl).weak (g1.trans g4) hs.zv)⟩
   replace e := if_f q10 e
   refine c_sk (c_sr (o_mv h47 (o_mv h41 (o_mv h47 ?_))))
   refine o_len rfl ((s16.curS (s := Sh.int) 5 rfl)).len ?_
   obtain ⟨x3, q11, e⟩ := oB e
   obtain ⟨d6, rfl⟩ := ((hp2.mono (g1.trans g4).z)).val
   obtain ⟨Z5, V5, W1, g5, u1, c2, c3, -, c5, c4⟩ := Sat.call (l1 := [pts o1 (.rw 0 [(vS d6 a2.l)])]) (l2 := [pts o2 (.rw 0 [(vi (Pu.W (a3 - 1)))]), pts b1 (.rw 0 [vi a0.Terms, vi a0.Nons, vi a0.Start, (vS d1 a0.Rules)]), pts b2 (.rw 0 [(.bool a1.Term), vi a1.N]), pts b3 (.rw 0 [vi 0, vi 0, (.slice none 0 0)]), It.sl Sh.int w6 y1]) s16
   refine o_call (mc rfl (mc rfl m0)) (X.A8 nd.A8 (a0 := a2) c2 (hp2.mono ((g1.trans g4).trans g5).z) q11) fun _ H17 i5 => ?_
   obtain ⟨w7, rfl, s18⟩ := i5
   have s19 := c4 _ _ s18
   obtain ⟨Z6, V6, g6, s20, h50⟩ := (s19.pull 1 rfl).frzR
   obtain ⟨x4, q12, e⟩ := oB e
   refine o_idx (v := w6) rfl rfl (s20.curS (s := Sh.int) 5 rfl) rfl q12 fun p2 q13 => ?_
   refine o_ldi rfl (s20.curS (s := Sh.int) 5 rfl) pR q13 q12 ?_
   refine o_bld (qs := [(0, 1, (vi x4))]) rfl rfl ?_
   refine o_new s20 fun b5 H18 s21 => ?_
   refine o_stB (us' := [vi x4, vi 0, (.slice none 0 0)]) 0 s21 rfl rfl rfl rfl rfl rfl rfl fun H19 s22 => ?_
   refine c_nil ?_
   refine c_gen (P := fun tm => tm 2 = (pV o1 0) ∧ tm 3 = (pV o2 0) ∧ tm 4 = (vi a4) ∧ tm 5 = (pV b1 0) ∧ tm 10 = (pV b3 0) ∧ tm 15 = (pV b5 0) ∧ True) ⟨h41, h42, h43, h44, h46, rfl, trivial⟩ ?_
   intro _ i6
   obtain ⟨h51, h52, h53, h54, h55, h56, -⟩ := i6
   refine c_sq (c_sr (o_fad h54 (o_ldB 3 s22 rfl rfl rfl rfl (o_fad h56 ?_))))
   refine o_ldB 0 s22 rfl rfl rfl rfl ?_
   obtain ⟨x5, q14, e⟩ := oB e
   refine o_idx (v := (vS d1 a0.Rules)) rfl rfl (hp1.mono (g1.trans (g4.trans (g5.trans g6))).z) rfl q14 fun p3 q15 => ?_
   refine o_fadE rfl q15 fun p4 q16 => ?_
   refine o_ldF rfl (hp1.mono (g1.trans (g4.trans (g5.trans g6))).z) s22.z rfl q15 q16 q14 rfl fun c6 h57 => ?_
   obtain ⟨w8, rfl, h58⟩ := Sh.G2 h57
   refine ⟨_, rfl, ?_⟩
   refine o_len rfl (h58).len ?_
   refine o_mv (v := (vi 0)) rfl ?_
   refine c_nil ?_
   obtain ⟨y3, q19, e⟩ := oB e
   refine c_jn (I := fun tm H => ∃ (s25 : ((List Int) × Int × (List Ty.A4))), y3 = .out s25 ∧ (∃ (Z8 V8 : PH) (w11 : Value) (w12 : Value), Gw Z6 V6 Z8 V8 ∧ Sat Z8 V8 H [pts o1 (.rw 0 [w12]), pts o2 (.rw 0 [vi s25.2.1]), pts b1 (.rw 0 [vi a0.Terms, vi a0.Nons, vi a0.Start, (vS d1 a0.Rules)]), pts b3 (.rw 0 [vi 0, vi 0, (.slice none 0 0)]), pts b5 (.rw 0 [vi x4, vi 0, w11]), It.sl (Sh.ro Sh.A4) w11 s25.2.2] ∧ tm 2 = (pV o1 0) ∧ tm 3 = (pV o2 0) ∧ tm 4 = (vi a4) ∧ tm 5 = (pV b1 0) ∧ tm 10 = (pV b3 0) ∧ tm 15 = (pV b5 0) ∧ tm 75 = w8 ∧ tm 76 = (vN x5.Right) ∧ RdS Sh.int Z8 w12 s25.1)) (fun k7 => ?_) ?_
   ·refine c_bk ?_
    refine l_forL (xs := x5.Right) (fun (i7 : Nat) (s23 : ((List Int) × Int × (List Ty.A4))) tm H => tm 77 = vi i7 ∧ ∃ (Z7 V7 : PH) (w9 : Value) (w10 : Value), Gw Z6 V6 Z7 V7 ∧ Sat Z7 V7 H [pts o1 (.rw 0 [w10]), pts o2 (.rw 0 [vi s23.2.1]), pts b1 (.rw 0 [vi a0.Terms, vi a0.Nons, vi a0.Start, (vS d1 a0.Rules)]), pts b3 (.rw 0 [vi 0, vi 0, (.slice none 0 0)]), pts b5 (.rw 0 [vi x4, vi 0, w9]), It.sl (Sh.ro Sh.A4) w9 s23.2.2] ∧ tm 2 = (pV o1 0) ∧ tm 3 = (pV o2 0) ∧ tm 4 = (vi a4) ∧ tm 5 = (pV b1 0) ∧ tm 10 = (pV b3 0) ∧ tm 15 = (pV b5 0) ∧ tm 75 = w8 ∧ tm 76 = (vN x5.Right) ∧ RdS Sh.int Z7 w10 s23.1) (fun i7 x6 s23 y4 tm H21 q17 q18 j2 e3 k4 k5 k6 => ?_) (fun s23 tm H20 jf jd => ?_) q19 ⟨rfl, _, _, _, _, Gw.refl _ _, ((s22.push (sl_nil (s := (Sh.ro Sh.A4)))).pick [2, 3, 4, 6, 1, 0] rfl), h51, h52, h53, h54, h55, h56, rfl, rfl, h50⟩
    ·obtain ⟨hti1, Z7, V7, w9, w10, g7, s24, h60, h61, h62, h63, h64, h65, h66, h67, h59⟩ := j2
     unfold P.B6.b1 at e3
     refine c_sr (o_lss hti1 h67 (c_nil (c_sq ?_)))
     refine c_ift rfl (Int.ofNat_lt.2 q18) ?_
     refine c_sk (c_sq (c_bk (c_sr ?_)))
     refine o_idx (v := w8) h66 hti1 (h58.mono g7.z) rfl (Pu.ix_nat.trans q17) fun p5 q20 => ?_
     refine o_lda rfl (h58.mono g7.z) s24.z rfl q20 (Pu.ix_nat.trans q17) fun c7 h77 => ?_
     obtain rfl := h77
     refine o_new s24 fun b6 H23 s27 => ?_
     refine o_stB (us' := [(.bool x6.Term), vi x6.N]) 0 s27 rfl rfl rfl rfl rfl rfl rfl fun H24 s28 => ?_
     refine c_nil (c_sr (o_ldB 3 s28 rfl h63 rfl rfl (o_ldB 0 s28 rfl rfl rfl rfl (o_mv h60 ?_))))
     refine o_mv h61 (o_mv h62 (o_sub rfl rfl ?_))
     obtain ⟨x7, q21, e3⟩ := oB e3
     obtain ⟨d7, rfl⟩ := (h59).val
     obtain ⟨Z9, V9, W2, g9, u2, c8, c9, -, c11, c10⟩ := Sat.call (l1 := [pts o1 (.rw 0 [(vS d7 s23.1)]), pts o2 (.rw 0 [vi s23.2.1])]) (l2 := [pts b6 (.rw 0 [(.bool x6.Term), vi x6.N]), pts b1 (.rw 0 [vi a0.Terms, vi a0.Nons, vi a0.Start, (vS d1 a0.Rules)]), pts b3 (.rw 0 [vi 0, vi 0, (.slice none 0 0)]), pts b5 (.rw 0 [vi x4, vi 0, w9]), It.sl (Sh.ro Sh.A4) w9 s23.2.2]) (s28.pick [1, 2, 0, 3, 4, 5, 6] rfl)
     refine o_call (mc rfl (mc rfl (mc rfl (mc rfl (mc rfl m0))))) (ih (a2 := (Ty.E9.mk s23.1)) (a3 := s23.2.1) c8 (hp1.mono ((g1.trans (g4.trans (g5.trans (g6.trans g7)))).trans g9).z) (h59.mono g9.z) q21) fun _ H25 i8 => ?_
     obtain ⟨w13, w14, rfl, s29⟩ := i8
     have s30 := c10 _ _ s29
     obtain ⟨Z10, V10, g10, s31, h78⟩ := (s30.pull 1 rfl).frzR
     refine o_mv (v := (.tuple #[(.agg #[vi x7.2.2.1.Rule, vi x7.2.2.1.Term, w14]), (.bool x7.2.2.2)])) rfl ?_
     refine o_ext rfl rfl (o_ext rfl rfl ?_)
     refine o_new s31 fun b7 H26 s32 => ?_
     obtain ⟨d8, rfl⟩ := ((s32.curS (s := (Sh.ro Sh.A4)) 3 rfl)).val
     refine o_stB (us' := [vi x7.2.2.1.Rule, vi x7.2.2.1.Term, (vS d8 x7.2.2.1.Kids)]) 0 s32 rfl rfl rfl rfl rfl rfl rfl fun H27 s33 => ?_
     refine o_mv (v := (.bool x7.2.2.2)) rfl ?_
     refine c_nil ?_
     refine c_gen (P := fun tm => tm 2 = (pV o1 0) ∧ tm 3 = (pV o2 0) ∧ tm 4 = (vi a4) ∧ tm 5 = (pV b1 0) ∧ tm 10 = (pV b3 0) ∧ tm 15 = (pV b5 0) ∧ tm 18 = (pV b7 0) ∧ tm 19 = (.bool x7.2.2.2) ∧ tm 75 = w8 ∧ tm 76 = (vN x5.Right) ∧ tm 77 = (vJ i7) ∧ True) ⟨h60, h61, h62, h63, h64, h65, rfl, rfl, h66, h67, hti1, trivial⟩ ?_
     intro _ i9
     obtain ⟨h79, h80, h81, h82, h83, h84, h85, h86, h87, h88, h89, -⟩ := i9
     refine c_sq (c_sr (o_mv h86 (o_not rfl (c_nil ?_))))
     refine c_if rfl (fun q22 => ?_) (fun q22 => ?_)
     ·replace e3 := if_t q22 e3
      refine c_sr ?_
      refine o_bld (qs := []) rfl rfl ?_
      refine o_stB (us' := [vi 0, vi 0, (.slice none 0 0)]) 6 s33 rfl h83 rfl rfl rfl rfl rfl fun H28 s34 => ?_
      refine o_mv (v := (.bool false)) rfl ?_
      refine c_nil (c_rt ?_)
      have e4 := fin_r (k6 _ (sJ e3)) e
      obtain ⟨d9, rfl⟩ := (h78).val
      obtain rfl := oJ e4
      exact ⟨.inr rfl, _, (ra2 (rac 6 s34 rfl h83 rfl rfl) (rat rfl)), _, _, rfl, ((((s34.push (ro_it (sl_ro h78))).push (sl_nil (s := (Sh.ro Sh.A4)))).pick [3, 1, 4, 0] rfl).weak (g1.trans (g4.trans (g5.trans (g6.trans (g7.trans (g9.trans g10)))))) hs.zv)⟩
     replace e3 := ib_f q22 e3
     refine c_sk (c_r (o_fad h84 ?_))
     obtain ⟨d10, rfl⟩ := ((s33.curS (s := (Sh.ro Sh.A4)) 8 rfl)).val
     refine o_ldB 7 s33 rfl rfl rfl rfl (o_ldB 0 s33 rfl h85 rfl rfl ?_)
     obtain ⟨Z11, V11, g11, s35, h90⟩ := s33.frzS 3 rfl
     replace h90 := h90.of_ro
     refine o_bsl (s := (Sh.ro Sh.A4)) (us := [vi x7.2.2.1.Rule, vi x7.2.2.1.Term, (vS d8 x7.2.2.1.Kids)]) (qs := [(0, 3, (.agg #[vi x7.2.2.1.Rule, vi x7.2.2.1.Term, (vS d8 x7.2.2.1.Kids)]))]) (xs := [x7.2.2.1]) s35 (Sh.ro_lt _) rfl rfl rfl (Els.cons (c := [vi x7.2.2.1.Rule, vi x7.2.2.1.Term, (vS d8 x7.2.2.1.Kids)]) (Sh.G8 (x := x7.2.2.1) h90) Els.nil) rfl rfl fun w15 H29 s36 => ?_
     obtain ⟨Z12, V12, g12, s37, h91⟩ := s36.frzS 0 rfl
     replace h91 := h91.of_ro
     obtain ⟨x8, q23, e3⟩ := oB e3
     refine o_app 7 s37 rfl (Sh.ro_lt _) rfl rfl rfl rfl h91 s37.z (fun h => h) (by decide) q23 fun w16 H30 s38 => ?_
     refine o_fad h84 ?_
     obtain ⟨d11, rfl⟩ := ((s38.curS (s := (Sh.ro Sh.A4)) 7 rfl)).val
     refine o_stB (us' := [vi x4, vi 0, (vS d11 x8)]) 6 s38 rfl rfl rfl rfl rfl rfl rfl fun H31 s39 => ?_
     refine c_nil (c_end (c_r (o_add h89 rfl ?_)))
     refine o_mv (v := (vi (Pu.W ((i7 : Int) + 1)))) rfl ?_
     refine c_nil ?_
     exact k4 _ _ _ (sJ e3) ⟨(iv rfl (w_suc q18 (h58).bd)), _, _, _, _, (g7.trans (g9.trans (g10.trans (g11.trans g12)))), (s39.pick [1, 2, 4, 5, 6, 7] rfl), h79, h80, h81, h82, h83, h84, h87, h88, (h78.mono (g11.trans g12).z)⟩
    ·obtain ⟨hte1, Z13, V13, w17, w18, g13, s40, h93, h94, h95, h96, h97, h98, h99, h100, h92⟩ := jd
     refine c_sr (o_lss hte1 h100 (c_nil (c_sq ?_)))
     refine c_iff rfl (Int.lt_irrefl _) ?_
     refine c_ex ?_
     refine e_c ?_
     refine e_c ?_
     refine e_h ?_
     exact k7 _ _ ⟨_, jf, _, _, _, _, g13, s40, h93, h94, h95, h96, h97, h98, h99, h100, h92⟩
   intro _ H22 i10
   obtain ⟨s25, f1, Z8, V8, w11, w12, g8, s26, h69, h70, h71, h72, h73, h74, h75, h76, h68⟩ := i10
   replace e := fin_o f1 e
   refine c_sr ?_
   obtain ⟨d12, rfl⟩ := ((s26.curS (s := (Sh.ro Sh.A4)) 5 rfl)).val
   refine o_ldB 4 s26 rfl h74 rfl rfl ?_
   refine o_stB (us' := [vi x4, vi 0, (vS d12 s25.2.2)]) 3 s26 rfl h73 rfl rfl rfl rfl rfl fun H33 s41 => ?_
   refine o_mv (v := (.bool true)) rfl ?_
   refine c_nil (c_rt ?_)
   obtain ⟨d13, rfl⟩ := (h68).val
   obtain rfl := oJ e
   exact ⟨.inr rfl, _, (ra2 (rac 3 s41 rfl h73 rfl rfl) (rat rfl)), _, _, rfl, (((s41.push (ro_it (sl_ro h68))).pick [1, 0, 2, 6] rfl).weak (g1.trans (g4.trans (g5.trans (g6.trans g8)))) hs.zv)⟩
theorem X.B6 {T : FuncId → Option AFunc} (nd : Nd.B6 T) {φ : Nat} {Z V : PH} {H : Hp} {v1 : Value} {v2 : Value} {o1 : Nat} {o2 : Nat} {a0 : Ty.B2} {a1 : Ty.D1} {a2 : Ty.E9} {a3 : Int} {a4 : Int} (hs : Sat Z V H [pts o1 (.rw 0 [v2]), pts o2 (.rw 0 [vi a3])]) (hp1 : RdS Sh.A6 Z v1 a0.Rules) (hp2 : RdS Sh.int Z v2 a2.l) {r : (Ty.E9 × Int × Ty.A4 × Bool)} (e : P.B6 φ a0 a1 a2 a3 a4 = some r) :
 G T I.B6 [(.agg #[vi a0.Terms, vi a0.Nons, vi a0.Start, v1]), (.agg #[(.bool a1.Term), vi a1.N]), (pV o1 0), (pV o2 0), vi a4] H (fun rv H' => ∃ (u1 : Value) (u2 : Value), rv = (.tuple #[(.agg #[vi r.2.2.1.Rule, vi r.2.2.1.Term, u2]), (.bool r.2.2.2)]) ∧ Sat Z V H' [pts o1 (.rw 0 [u1]), Sh.it (Sh.ro sI1) [u1] r.1.l, pts o2 (.rw 0 [vi r.2.1]), It.sl (Sh.ro Sh.A4) u2 r.2.2.1.Kids]) := (X.parlmake_tree_rec nd φ) hs hp1 hp2 e
structure Nd.F8 (T : FuncId → Option AFunc) : Prop where
 own : Has T I.F8 F.F8
 B6 : Nd.B6 T
set_option maxHeartbeats 1000000 in
theorem X.F8 {T : FuncId → Option AFunc} (nd : Nd.F8 T) {φ : Nat} {Z V : PH} {H : Hp} {v1 : Value} {v2 : Value} {a0 : Ty.B2} {a1 : (List Int)} (hs : Sat Z V H []) (hp1 : RdS Sh.A6 Z v1 a0.Rules) (hp2 : RdS Sh.int Z v2 a1) {r : (Ty.A4 × Bool)} (e : P.F8 φ a0 a1 = some r) :
 G T I.F8 [(.agg #[vi a0.Terms, vi a0.Nons, vi a0.Start, v1]), v2] H (fun rv H' => ∃ (u1 : Value), rv = (.tuple #[(.agg #[vi r.1.Rule, vi r.1.Term, u1]), (.bool r.2)]) ∧ Sat Z V H' [It.sl (Sh.ro Sh.A4) u1 r.1.Kids]) := by
 unfold P.F8 at e
 refine f_mk nd.own ?_
 refine c_sr ?_
 obtain ⟨d1, rfl⟩ := (hp1).val
 refine o_box hs rfl rfl fun b1 H1 s1 => ?_
 refine o_new s1 fun b2 H2 s2 => ?_
 refine o_mv (v := (.bool false)) rfl ?_
 refine c_nil (c_sr ?_)
 refine o_new s2 fun b3 H3 s3 => ?_
 refine o_stB (us' := [vi 60]) 0 s3 rfl rfl rfl rfl rfl rfl rfl fun H4 s4 => ?_
 refine c_nil (c_sr (o_ldB 2 s4 rfl rfl rfl rfl (o_fad rfl (o_ldB 2 s4 rfl rfl rfl rfl ?_))))
 refine o_bld (qs := [(1, 1, (vi a0.Start))]) rfl rfl ?_
 refine o_mv (v := v2) rfl ?_
 obtain ⟨d2, rfl⟩ := (hp2).val
 refine o_bld (qs := [(0, 1, (vS d2 a1))]) rfl rfl ?_
 refine o_box s4 rfl rfl fun b4 H5 s5 => ?_
 obtain ⟨x1, q1, e⟩ := oB e
 obtain ⟨Z1, V1, W1, g1, u1, c1, c2, -, c4, c3⟩ := Sat.call (l1 := [pts b4 (.rw 0 [(vS d2 a1)]), pts b3 (.rw 0 [vi 60])]) (l2 := [pts b2 (.rw 0 [vi 0, vi 0, (.slice none 0 0)]), pts b1 (.rw 0 [vi a0.Terms, vi a0.Nons, vi a0.Start, (vS d1 a0.Rules)])]) s5
 refine o_call (mc rfl (mc rfl (mc rfl (mc rfl (mc rfl m0))))) (X.B6 nd.B6 (a1 := (Ty.D1.mk false a0.Start)) (a2 := (Ty.E9.mk a1)) (a3 := 60) c1 (hp1.mono g1.z) (hp2.mono g1.z) q1) fun _ H6 i1 => ?_
 obtain ⟨w1, w2, rfl, s6⟩ := i1
 have s7 := c3 _ _ s6
 obtain ⟨Z2, V2, g2, s8, h1⟩ := (s7.pull 1 rfl).frzR
 refine o_ext rfl rfl (o_ext rfl rfl ?_)
 obtain ⟨d3, rfl⟩ := ((s8.curS (s := (Sh.ro Sh.A4)) 2 rfl)).val
 refine o_stB (us' := [vi x1.2.2.1.Rule, vi x1.2.2.1.Term, (vS d3 x1.2.2.1.Kids)]) 3 s8 rfl rfl rfl rfl rfl rfl rfl fun H7 s9 => ?_
 refine o_mv (v := (.bool x1.2.2.2)) rfl ?_
 refine c_nil ?_
 refine c_gen (P := fun tm => tm 4 = (pV b2 0) ∧ tm 5 = (.bool x1.2.2.2) ∧ True) ⟨rfl, rfl, trivial⟩ ?_
 intro _ i2
 obtain ⟨h2, h3, -⟩ := i2
 refine c_rt ?_
 obtain rfl := oJ e
 exact ⟨.inr rfl, _, (ra2 (rac 3 s9 rfl h2 rfl rfl) (rat h3)), _, rfl, ((s9.pick [2] rfl).weak (g1.trans g2) hs.zv)⟩
structure Nd.D6 (T : FuncId → Option AFunc) : Prop where
 own : Has T I.D6 F.D6
 E5 : Nd.E5 T
set_option maxHeartbeats 1000000 in
theorem X.D6 {T : FuncId → Option AFunc} (nd : Nd.D6 T) {φ : Nat} {Z V : PH} {H : Hp} {v1 : Value} {v2 : Value} {o1 : Nat} {a0 : Ty.A4} {a1 : Ty.A4} (hs : Sat Z V H [pts o1 (.rw 0 [vi a1.Rule, vi a1.Term, v2])]) (hp1 : RdS Sh.A4 V v1 a0.Kids) (hp2 : RdS Sh.A4 V v2 a1.Kids) {r : Bool} (e : P.D6 φ a0 a1 = some r) :
 G T I.D6 [(.agg #[vi a0.Rule, vi a0.Term, v1]), (pV o1 0)] H (fun rv H' => rv = (.bool r) ∧ Sat Z V H' [pts o1 (.rw 0 [vi a1.Rule, vi a1.Term, v2])]) := by
 unfold P.D6 at e
 refine f_mk nd.own ?_
 refine c_sr ?_
 obtain ⟨d1, rfl⟩ := (hp1).val
 refine o_box hs rfl rfl fun b1 H1 s1 => ?_
 refine o_mv (v := (.bool false)) rfl ?_
 refine c_nil (c_sr (o_ldB 0 s1 rfl rfl rfl rfl ?_))
 obtain ⟨d2, rfl⟩ := (hp2).val
 refine o_ldB 1 s1 rfl rfl rfl rfl ?_
 obtain ⟨x1, q1, e⟩ := oB e
 obtain ⟨Z1, V1, W1, g1, u1, c1, c2, -, c4, c3⟩ := Sat.call (l1 := []) s1
 refine o_call (mc rfl (mc rfl m0)) (X.E5 nd.E5 c1 (hp1.mono (g1.v.trans u1)) (hp2.mono (g1.v.trans u1)) q1) fun _ H2 i1 => ?_
 obtain ⟨rfl, s2⟩ := i1
 have s3 := c3 _ _ s2
 refine o_eql rfl rfl ?_
 refine o_mv (v := (.bool (decide (x1 = 0)))) rfl ?_
 refine c_nil (c_rt ?_)
 obtain rfl := oJ e
 exact ⟨.inr rfl, _, (ar1 rfl), rfl, ((s3.pick [1] rfl).weak g1 hs.zv)⟩
structure Nd.C9 (T : FuncId → Option AFunc) : Prop where
 own : Has T I.C5 F.C5
 D6 : Nd.D6 T
set_option maxHeartbeats 1000000 in
theorem X.C9 {T : FuncId → Option AFunc} (nd : Nd.C9 T) {φ : Nat} {Z V : PH} {H : Hp} {v1 : Value} {v2 : Value} {o1 : Nat} {a0 : (List Ty.A4)} {a1c0 : Ty.A4} (hs : Sat Z V H [pts o1 (.rw 0 [vi a1c0.Rule, vi a1c0.Term, v2])]) (hp1 : RdS Sh.A4 V v1 a0) (hp2 : RdS Sh.A4 V v2 a1c0.Kids) {r : Int} (e : P.C9 φ a0 a1c0 = some r) :
 G T I.C5 [v1, (.func (.func I.D6) #[] #[(pV o1 0)])] H (fun rv H' => rv = (vi r) ∧ Sat Z V H' [pts o1 (.rw 0 [vi a1c0.Rule, vi a1c0.Term, v2])]) := by
 unfold P.C9 at e
 refine f_mk nd.own ?_
 refine c_sr ?_
 refine o_mv (v := (vi 0)) rfl ?_
 refine c_nil (c_sq (c_sr ?_))
 refine o_mv (v := v1) rfl ?_
 refine o_len rfl (hp1).len ?_
 refine o_mv (v := (vi 0)) rfl ?_
 refine c_nil ?_
 obtain ⟨x2, q3, e⟩ := oB e
 obtain ⟨rfl, q5⟩ := ranO_some q3
 obtain ⟨y1, q6, e⟩ := oB e
 refine c_jn (I := fun tm H => ∃ (s3 : Unit), y1 = .out s3 ∧ (∃ (Z2 V2 : PH), Gw Z V Z2 V2 ∧ Sat Z2 V2 H [pts o1 (.rw 0 [vi a1c0.Rule, vi a1c0.Term, v2])] ∧ tm 0 = v1 ∧ tm 1 = (.func (.func I.D6) #[] #[(pV o1 0)]) ∧ tm 7 = (vN a0))) (fun k4 => ?_) ?_
 ·refine c_bk ?_
  refine l_forL (xs := (Pu.ran (a0.length : Int))) (fun (i1 : Nat) (s1 : Unit) tm H => tm 8 = vi i1 ∧ ∃ (Z1 V1 : PH), Gw Z V Z1 V1 ∧ Sat Z1 V1 H [pts o1 (.rw 0 [vi a1c0.Rule, vi a1c0.Term, v2])] ∧ tm 0 = v1 ∧ tm 1 = (.func (.func I.D6) #[] #[(pV o1 0)]) ∧ tm 7 = (vN a0)) (fun i1 x1 s1 y2 tm H2 q1 q2 j1 e1 k1 k2 k3 => ?_) (fun s1 tm H1 jf jd => ?_) q6 ⟨rfl, _, _, Gw.refl _ _, hs, rfl, rfl, rfl⟩
  ·obtain ⟨hti0, Z1, V1, g1, s2, h1, h2, h3⟩ := j1
   unfold P.C9.b0 at e1
   have hti0 := iv hti0 (ran_x q1).symm
   refine c_sr (o_lss hti0 h3 (c_nil (c_sq ?_)))
   refine c_ift rfl (ran_lt q1) ?_
   refine c_sk (c_sq (c_bk (c_sr (o_mv hti0 ?_))))
   refine o_mv (v := (vi x1)) rfl ?_
   refine c_nil (c_sr (o_mv h2 (o_mv h1 ?_)))
   refine o_mv (v := (vi x1)) rfl ?_
   obtain ⟨x3, q7, e1⟩ := oB e1
   refine o_idx (v := v1) rfl rfl (hp1.mono g1.v) rfl q7 fun p1 q8 => ?_
   refine o_lda rfl (hp1.mono g1.v) s2.v rfl q8 q7 fun c1 h7 => ?_
   obtain ⟨w1, rfl, h8⟩ := Sh.G4 h7
   obtain ⟨x4, q9, e1⟩ := oB e1
   obtain ⟨d1, rfl⟩ := ((hp2.mono g1.v)).val
   obtain ⟨Z3, V3, W1, g3, u1, c2, c3, -, c5, c4⟩ := Sat.call (l1 := [pts o1 (.rw 0 [vi a1c0.Rule, vi a1c0.Term, (vS d1 a1c0.Kids)])]) (l2 := []) s2
   refine o_callv rfl (mc rfl m0) (X.D6 nd.D6 (a1 := a1c0) c2 (h8.mono (g3.v.trans u1)) (hp2.mono ((g1.trans g3).v.trans u1)) q9) fun _ H4 i2 => ?_
   obtain ⟨rfl, s5⟩ := i2
   have s6 := c4 _ _ s5
   refine c_nil ?_
   refine c_if rfl (fun q10 => ?_) (fun q10 => ?_)
   ·replace e1 := if_t q10 e1
    refine c_sr ?_
    refine o_mv (v := (vi x1)) rfl ?_
    refine o_mv (v := (vi x1)) rfl ?_
    refine c_nil ?_
    refine c_gen (P := fun tm => tm 4 = (vi x1) ∧ True) ⟨rfl, trivial⟩ ?_
    intro _ i3
    obtain ⟨h9, -⟩ := i3
    refine c_rt ?_
    have e2 := fin_r (k3 _ (sJ e1)) e
    obtain rfl := oJ e2
    exact ⟨.inr rfl, _, (ar1 h9), rfl, (s6.weak (g1.trans g3) hs.zv)⟩
   replace e1 := ib_f q10 e1
   refine c_sk (c_end (c_r (o_add hti0 rfl ?_)))
   refine o_mv (v := (vi (Pu.W (x1 + 1)))) rfl ?_
   refine c_nil ?_
   exact k1 _ _ _ (sJ e1) ⟨(iv rfl (w_sucR q1 q5)), _, _, (g1.trans g3), s6, h1, h2, h3⟩
  ·obtain ⟨hte0, Z4, V4, g4, s7, h10, h11, h12⟩ := jd
   refine c_sr (o_lss hte0 h12 (c_nil (c_sq ?_)))
   refine c_iff rfl (ran_done _) ?_
   refine c_ex ?_
   refine e_c ?_
   refine e_c ?_
   refine e_h ?_
   exact k4 _ _ ⟨_, jf, _, _, g4, s7, h10, h11, h12⟩
 intro _ H3 i4
 obtain ⟨s3, f1, Z2, V2, g2, s4, h4, h5, h6⟩ := i4
 replace e := fin_o f1 e
 refine c_sr ?_
 refine o_mv (v := (vi (-1))) rfl ?_
 refine c_nil (c_rt ?_)
 obtain ⟨d2, rfl⟩ := ((hp2.mono g2.v)).val
 obtain rfl := oJ e
 exact ⟨.inr rfl, _, (ar1 rfl), rfl, (s4.weak g2 hs.zv)⟩
structure Nd.D3 (T : FuncId → Option AFunc) : Prop where
 own : Has T I.E2 F.E2
 C9 : Nd.C9 T
set_option maxHeartbeats 1000000 in
theorem X.D3 {T : FuncId → Option AFunc} (nd : Nd.D3 T) {φ : Nat} {Z V : PH} {H : Hp} {v1 : Value} {v2 : Value} {o1 : Nat} {a0 : (List Ty.A4)} {a1c0 : Ty.A4} (hs : Sat Z V H [pts o1 (.rw 0 [vi a1c0.Rule, vi a1c0.Term, v2])]) (hp1 : RdS Sh.A4 V v1 a0) (hp2 : RdS Sh.A4 V v2 a1c0.Kids) {r : Bool} (e : P.D3 φ a0 a1c0 = some r) :
 G T I.E2 [v1, (.func (.func I.D6) #[] #[(pV o1 0)])] H (fun rv H' => rv = (.bool r) ∧ Sat Z V H' [pts o1 (.rw 0 [vi a1c0.Rule, vi a1c0.Term, v2])]) := by
 unfold P.D3 at e
 refine f_mk nd.own ?_
 refine c_sr ?_
 refine o_mv (v := (.bool false)) rfl ?_
 refine c_nil (c_sr ?_)
 refine o_mv (v := v1) rfl ?_
 refine o_mv (v := (.func (.func I.D6) #[] #[(pV o1 0)])) rfl ?_
 obtain ⟨x1, q1, e⟩ := oB e
 obtain ⟨d1, rfl⟩ := (hp2).val
 obtain ⟨Z1, V1, W1, g1, u1, c1, c2, -, c4, c3⟩ := Sat.call (l1 := [pts o1 (.rw 0 [vi a1c0.Rule, vi a1c0.Term, (vS d1 a1c0.Kids)])]) (l2 := []) hs
 refine o_call (mc rfl (mc rfl m0)) (X.C9 nd.C9 (a1c0 := a1c0) c1 (hp1.mono (g1.v.trans u1)) (hp2.mono (g1.v.trans u1)) q1) fun _ H1 i1 => ?_
 obtain ⟨rfl, s1⟩ := i1
 have s2 := c3 _ _ s1
 refine o_geq rfl rfl ?_
 refine o_mv (v := (.bool (decide (0 ≤ x1)))) rfl ?_
 refine c_nil (c_rt ?_)
 obtain rfl := oJ e
 exact ⟨.inr rfl, _, (ar1 rfl), rfl, (s2.weak g1 hs.zv)⟩
structure Nd.A7 (T : FuncId → Option AFunc) : Prop where
 own : Has T I.A7 F.A7
 B9 : Nd.B9 T
 F3 : Nd.F3 T
 F4 : Nd.F4 T
 G0 : Nd.G0 T
 G1 : Nd.G1 T
 F2 : Nd.F2 T
 F9 : Nd.F9 T
 E5 : Nd.E5 T
 F8 : Nd.F8 T
 D3 : Nd.D3 T
set_option maxHeartbeats 1000000 in
theorem X.A7 {T : FuncId → Option AFunc} (nd : Nd.A7 T) {φ : Nat} {Z V : PH} {H : Hp} {v1 : Value} {v2 : Value} {a0 : (List Int)} {a1 : (List Int)} {a2 : Int} (hs : Sat Z V H []) (hp1 : RdS Sh.int Z v1 a0) (hp2 : RdS Sh.int Z v2 a1) {r : Bool} (e : P.A7 φ a0 a1 a2 = some r) :
 G T I.A7 [v1, v2, vi a2] H (fun rv H' => rv = (.bool r) ∧ Sat Z V H' []) := by
 unfold P.A7 at e
 refine f_mk nd.own ?_
 refine c_sr ?_
 refine o_mv (v := (.bool false)) rfl ?_
 refine c_nil (c_sr ?_)
 refine o_mv (v := v1) rfl ?_
 obtain ⟨x1, q1, e⟩ := oB e
 obtain ⟨Z1, V1, W1, g1, u1, c1, c2, -, c4, c3⟩ := Sat.call (l1 := []) hs
 refine o_call (mc rfl m0) (X.B9 nd.B9 c1 (hp1.mono g1.z) q1) fun _ H1 i1 => ?_
 obtain ⟨w1, rfl, s1⟩ := i1
 have s2 := c3 _ _ s1
 refine o_new s2 fun b1 H2 s3 => ?_
 obtain ⟨d1, rfl⟩ := ((s3.curS (s := (Sh.ro Sh.A6)) 1 rfl)).val
 refine o_stB (us' := [vi x1.Terms, vi x1.Nons, vi x1.Start, (vS d1 x1.Rules)]) 0 s3 rfl rfl rfl rfl rfl rfl rfl fun H3 s4 => ?_
 refine c_nil (c_sr ?_)
 refine o_mv (v := (vi a2)) rfl ?_
 obtain ⟨x2, q2, e⟩ := oB e
 obtain ⟨Z2, V2, W2, g2, u2, c5, c6, -, c8, c7⟩ := Sat.call (l1 := []) s4
 refine o_call (mc rfl (mc rfl m0)) (X.F3 nd.F3 c5 q2) fun _ H4 i2 => ?_
 obtain ⟨rfl, s5⟩ := i2
 have s6 := c7 _ _ s5
 refine o_mv (v := (vi x2)) rfl ?_
 refine c_nil (c_sq (c_sr ?_))
 obtain ⟨x3, q3, e⟩ := oB e
 obtain ⟨Z3, V3, W3, g3, u3, c9, c10, -, c12, c11⟩ := Sat.call (l1 := []) s6
 refine o_call m0 (X.F4 nd.F4 c9 q3) fun _ H5 i3 => ?_
 obtain ⟨w2, rfl, s7⟩ := i3
 have s8 := c11 _ _ s7
 obtain ⟨Z4, V4, g4, s9, h1⟩ := s8.frzS 0 rfl
 replace h1 := h1.of_ro
 obtain ⟨x4, q4, e⟩ := oB e
 obtain ⟨Z5, V5, W4, g5, u4, c13, c14, -, c16, c15⟩ := Sat.call (l1 := []) s9
 refine o_call (mc rfl (mc rfl m0)) (X.G0 nd.G0 c13 (h1.mono g5.z) q4) fun _ H6 i4 => ?_
 obtain ⟨rfl, s10⟩ := i4
 have s11 := c15 _ _ s10
 refine o_mv (v := (.tuple #[vi x4.1, vi x4.2])) rfl ?_
 refine o_ext rfl rfl (o_ext rfl rfl ?_)
 refine o_mv (v := (vi x4.1)) rfl ?_
 refine o_mv (v := (vi x4.2)) rfl ?_
 refine c_nil ?_
 refine c_gen (P := fun tm => tm 1 = v2 ∧ tm 2 = (vi x2) ∧ tm 7 = (pV b1 0) ∧ tm 8 = (vi x4.1) ∧ tm 9 = (vi x4.2) ∧ True) ⟨rfl, rfl, rfl, rfl, rfl, trivial⟩ ?_
 intro _ i5
 obtain ⟨h2, h3, h4, h5, h6, -⟩ := i5
 refine c_sr (o_mv h5 (o_neq rfl rfl ?_))
 refine o_mv (v := (.bool (decide (x4.1 ≠ 1)))) rfl ?_
 refine o_jn 3 (I := fun tm H => tm 34 = .bool ((decide (x4.1 ≠ 1)) || (decide (x4.2 ≠ 0))) ∧ (∃ (Z6 V6 : PH), Gw Z5 V5 Z6 V6 ∧ Sat Z6 V6 H [pts b1 (.rw 0 [vi x1.Terms, vi x1.Nons, vi x1.Start, (vS d1 x1.Rules)]), It.sl (Sh.ro Sh.A6) (vS d1 x1.Rules) x1.Rules] ∧ tm 1 = v2 ∧ tm 2 = (vi x2) ∧ tm 7 = (pV b1 0))) (fun k1 => ?_) ?_
 ·rcases Bool.eq_false_or_eq_true (decide (x4.1 ≠ 1)) with q5 | q5
  ·refine o_gn rfl q5 (o_gn rfl q5 ?_)
   refine o_pickt (a := (.bool true)) rfl q5 rfl ?_
   exact k1 _ _ ⟨gf rfl (by first | (rw [q5]; first | done | rfl) | simp [q5]), _, _, Gw.refl _ _, s11, h2, h3, h4⟩
  refine o_gy rfl q5 (o_mv h6 (o_gy rfl q5 (o_neq rfl rfl ?_)))
  refine o_pickf (b := (.bool (decide (x4.2 ≠ 0)))) rfl q5 rfl ?_
  exact k1 _ _ ⟨gf rfl (by first | (rw [q5]; first | done | rfl) | simp [q5]), _, _, Gw.refl _ _, s11, h2, h3, h4⟩
 intro _ H7 i6
 obtain ⟨h10, Z6, V6, g6, s12, h7, h8, h9⟩ := i6
 refine c_nil ?_
 refine c_if h10 (fun q6 => ?_) (fun q6 => ?_)
 ·replace e := if_t q6 e
  refine c_sr ?_
  refine o_mv (v := (.bool false)) rfl ?_
  refine c_nil (c_rt ?_)
  obtain rfl := oJ e
  exact ⟨.inr rfl, _, (ar1 rfl), rfl, ((s12.pick [] rfl).weak (g1.trans (g2.trans (g3.trans (g4.trans (g5.trans g6))))) hs.zv)⟩
 replace e := ib_f q6 e
 refine c_sk (c_sr (o_ldB 0 s12 rfl h9 rfl rfl (o_mv h8 ?_)))
 obtain ⟨Z7, V7, g7, s13, h11⟩ := s12.frzS 1 rfl
 replace h11 := h11.of_ro
 obtain ⟨x5, q7, e⟩ := oB e
 obtain ⟨Z8, V8, W5, g8, u5, c17, c18, -, c20, c19⟩ := Sat.call (l1 := []) s13
 refine o_call (mc rfl (mc rfl m0)) (X.G0 nd.G0 c17 (h11.mono g8.z) q7) fun _ H8 i7 => ?_
 obtain ⟨rfl, s14⟩ := i7
 have s15 := c19 _ _ s14
 refine o_mv (v := (.tuple #[vi x5.1, vi x5.2])) rfl ?_
 refine o_ext rfl rfl (o_ext rfl rfl ?_)
 refine o_mv (v := (vi x5.1)) rfl ?_
 refine o_mv (v := (vi x5.2)) rfl ?_
 refine c_nil (c_sq (c_sr ?_))
 refine o_mv (v := (vi x5.2)) rfl ?_
 refine o_neq rfl rfl ?_
 refine o_mv (v := (.bool (decide (x5.2 ≠ 0)))) rfl ?_
 refine o_jn 3 (I := fun tm H => tm 46 = .bool ((decide (x5.2 ≠ 0)) || (decide (60 < x5.1))) ∧ (∃ (Z9 V9 : PH), Gw Z8 V8 Z9 V9 ∧ Sat Z9 V9 H [pts b1 (.rw 0 [vi x1.Terms, vi x1.Nons, vi x1.Start, (vS d1 x1.Rules)])] ∧ tm 1 = v2 ∧ tm 2 = (vi x2) ∧ tm 7 = (pV b1 0) ∧ tm 10 = (vi x5.1))) (fun k2 => ?_) ?_
 ·rcases Bool.eq_false_or_eq_true (decide (x5.2 ≠ 0)) with q8 | q8
  ·refine o_gn rfl q8 (o_gn rfl q8 ?_)
   refine o_pickt (a := (.bool true)) rfl q8 rfl ?_
   exact k2 _ _ ⟨gf rfl (by first | (rw [q8]; first | done | rfl) | simp [q8]), _, _, Gw.refl _ _, s15, h7, h8, h9, rfl⟩
  refine o_gy rfl q8 ?_
  refine o_mv (v := (vi x5.1)) rfl ?_
  refine o_gy rfl q8 (o_gtr rfl rfl ?_)
  refine o_pickf (b := (.bool (decide (60 < x5.1)))) rfl q8 rfl ?_
  exact k2 _ _ ⟨gf rfl (by first | (rw [q8]; first | done | rfl) | simp [q8]), _, _, Gw.refl _ _, s15, h7, h8, h9, rfl⟩
 intro _ H9 i8
 obtain ⟨h16, Z9, V9, g9, s16, h12, h13, h14, h15⟩ := i8
 refine c_nil ?_
 refine c_if h16 (fun q9 => ?_) (fun q9 => ?_)
 ·replace e := if_t q9 e
  refine c_sr ?_
  refine o_mv (v := (.bool true)) rfl ?_
  refine c_nil (c_rt ?_)
  obtain rfl := oJ e
  exact ⟨.inr rfl, _, (ar1 rfl), rfl, ((s16.pick [] rfl).weak (g1.trans (g2.trans (g3.trans (g4.trans (g5.trans (g6.trans (g7.trans (g8.trans g9)))))))) hs.zv)⟩
 replace e := ib_f q9 e
 refine c_sk (c_sr ?_)
 refine o_mv (v := (.slice none 0 0)) rfl ?_
 refine c_nil (c_sq (c_sr (o_mv h15 ?_)))
 refine o_mv (v := (vi 0)) rfl ?_
 refine c_nil ?_
 obtain ⟨x7, q12, e⟩ := oB e
 obtain ⟨rfl, q14⟩ := ranO_some q12
 obtain ⟨y1, q15, e⟩ := oB e
 refine c_jn (I := fun tm H => ∃ (s19 : (List Ty.A4)), y1 = .out s19 ∧ (∃ (Z11 V11 : PH) (w4 : Value), Gw Z9 V9 Z11 V11 ∧ Sat Z11 V11 H [pts b1 (.rw 0 [vi x1.Terms, vi x1.Nons, vi x1.Start, (vS d1 x1.Rules)]), It.sl (Sh.ro Sh.A4) w4 s19] ∧ tm 1 = v2 ∧ tm 2 = (vi x2) ∧ tm 7 = (pV b1 0) ∧ tm 12 = w4 ∧ tm 47 = (vi x5.1))) (fun k6 => ?_) ?_
 ·refine c_bk ?_
  refine l_forL (xs := (Pu.ran x5.1)) (fun (i9 : Nat) (s17 : (List Ty.A4)) tm H => tm 48 = vi i9 ∧ ∃ (Z10 V10 : PH) (w3 : Value), Gw Z9 V9 Z10 V10 ∧ Sat Z10 V10 H [pts b1 (.rw 0 [vi x1.Terms, vi x1.Nons, vi x1.Start, (vS d1 x1.Rules)]), It.sl (Sh.ro Sh.A4) w3 s17] ∧ tm 1 = v2 ∧ tm 2 = (vi x2) ∧ tm 7 = (pV b1 0) ∧ tm 12 = w3 ∧ tm 47 = (vi x5.1)) (fun i9 x6 s17 y2 tm H11 q10 q11 j1 e1 k3 k4 k5 => ?_) (fun s17 tm H10 jf jd => ?_) q15 ⟨rfl, _, _, _, Gw.refl _ _, ((s16.push (sl_nil (s := (Sh.ro Sh.A4)))).pick [1, 0] rfl), h12, h13, h14, rfl, rfl⟩
  ·obtain ⟨hti0, Z10, V10, w3, g10, s18, h17, h18, h19, h20, h21⟩ := j1
   unfold P.A7.b0 at e1
   have hti0 := iv hti0 (ran_x q10).symm
   refine c_sr (o_lss hti0 h21 (c_nil (c_sq ?_)))
   refine c_ift rfl (ran_lt q10) ?_
   refine c_sk (c_sq (c_bk (c_sr (o_mv hti0 ?_))))
   refine o_mv (v := (vi x6)) rfl ?_
   refine c_nil (c_sr (o_ldB 0 s18 rfl h19 rfl rfl (o_mv h18 ?_)))
   refine o_mv (v := (vi x6)) rfl ?_
   obtain ⟨x8, q16, e1⟩ := oB e1
   obtain ⟨Z12, V12, W6, g12, u6, c21, c22, -, c24, c23⟩ := Sat.call (l1 := []) s18
   refine o_call (mc rfl (mc rfl (mc rfl m0))) (X.G1 nd.G1 c21 (h11.mono ((g8.trans (g9.trans g10)).trans g12).z) q16) fun _ H13 i10 => ?_
   obtain ⟨w5, rfl, s21⟩ := i10
   have s22 := c23 _ _ s21
   refine o_mv (v := (.tuple #[(.agg #[vi x8.1.Rule, vi x8.1.Term, w5]), vi x8.2])) rfl ?_
   refine o_ext rfl rfl (o_ext rfl rfl ?_)
   refine o_new s22 fun b2 H14 s23 => ?_
   obtain ⟨d2, rfl⟩ := ((s23.curS (s := (Sh.ro Sh.A4)) 1 rfl)).val
   refine o_stB (us' := [vi x8.1.Rule, vi x8.1.Term, (vS d2 x8.1.Kids)]) 0 s23 rfl rfl rfl rfl rfl rfl rfl fun H15 s24 => ?_
   refine o_mv (v := (vi x8.2)) rfl ?_
   refine c_nil ?_
   refine c_gen (P := fun tm => tm 1 = v2 ∧ tm 2 = (vi x2) ∧ tm 7 = (pV b1 0) ∧ tm 12 = w3 ∧ tm 14 = (pV b2 0) ∧ tm 15 = (vi x8.2) ∧ tm 47 = (vi x5.1) ∧ tm 48 = (vi x6) ∧ True) ⟨h17, h18, h19, h20, rfl, rfl, h21, hti0, trivial⟩ ?_
   intro _ i11
   obtain ⟨h27, h28, h29, h30, h31, h32, h33, h34, -⟩ := i11
   refine c_sq (c_sr (o_mv h32 (o_neq rfl rfl ?_)))
   refine o_mv (v := (.bool (decide (x8.2 ≠ 0)))) rfl ?_
   obtain ⟨y3, e2, e1⟩ := oB e1
   refine o_jn 5 (I := fun tm H => ∃ (Z13 V13 : PH), Gw Z12 V12 Z13 V13 ∧ Sat Z13 V13 H [pts b1 (.rw 0 [vi x1.Terms, vi x1.Nons, vi x1.Start, (vS d1 x1.Rules)]), It.sl (Sh.ro Sh.A4) w3 s17, pts b2 (.rw 0 [vi x8.1.Rule, vi x8.1.Term, (vS d2 x8.1.Kids)]), It.sl (Sh.ro Sh.A4) (vS d2 x8.1.Kids) x8.1.Kids] ∧ tm 1 = v2 ∧ tm 2 = (vi x2) ∧ tm 7 = (pV b1 0) ∧ tm 12 = w3 ∧ tm 14 = (pV b2 0) ∧ tm 47 = (vi x5.1) ∧ tm 48 = (vi x6) ∧ tm 65 = (.bool y3)) (fun k7 => ?_) ?_
   ·rcases Bool.eq_false_or_eq_true (decide (x8.2 ≠ 0)) with q17 | q17
    ·replace e2 := if_t q17 e2
     refine o_gn rfl q17 (o_gn rfl q17 (o_gn rfl q17 (o_gn rfl q17 ?_)))
     refine o_pickt (a := (.bool true)) rfl q17 rfl ?_
     obtain rfl := oJ e2
     exact k7 _ _ ⟨_, _, Gw.refl _ _, (s24.pick [2, 3, 0, 1] rfl), h27, h28, h29, h30, h31, h33, h34, rfl⟩
    replace e2 := ib_f q17 e2
    refine o_gy rfl q17 (o_ldB 2 s24 rfl h29 rfl rfl (o_gy rfl q17 (o_ldB 0 s24 rfl h31 rfl rfl (o_gy rfl q17 ?_))))
    obtain ⟨x9, q18, e2⟩ := oB e2
    obtain ⟨Z14, V14, W7, g14, u7, c25, c26, -, c28, c27⟩ := Sat.call (l1 := []) s24
    refine o_call (mc rfl (mc rfl m0)) (X.F2 nd.F2 c25 (h11.mono (((g8.trans (g9.trans (g10.trans g12))).trans g14).z.trans c25.zv)) (c26 1 _ (Sh.ro Sh.A4) _ _ rfl) q18) fun _ H17 i12 => ?_
    obtain ⟨rfl, s26⟩ := i12
    have s27 := c27 _ _ s26
    refine o_gy rfl q17 (o_neq rfl rfl ?_)
    refine o_pickf (b := (.bool (decide (x9 ≠ 0)))) rfl q17 rfl ?_
    obtain rfl := oJ e2
    exact k7 _ _ ⟨_, _, g14, (s27.pick [2, 3, 0, 1] rfl), h27, h28, h29, h30, h31, h33, h34, rfl⟩
   intro _ H16 i13
   obtain ⟨Z13, V13, g13, s25, h35, h36, h37, h38, h39, h40, h41, h42⟩ := i13
   refine o_mv h42 ?_
   obtain ⟨y4, e3, e1⟩ := oB e1
   refine o_jn 6 (I := fun tm H => ∃ (Z15 V15 : PH), Gw Z13 V13 Z15 V15 ∧ Sat Z15 V15 H [pts b1 (.rw 0 [vi x1.Terms, vi x1.Nons, vi x1.Start, (vS d1 x1.Rules)]), It.sl (Sh.ro Sh.A4) w3 s17, pts b2 (.rw 0 [vi x8.1.Rule, vi x8.1.Term, (vS d2 x8.1.Kids)]), It.sl (Sh.ro Sh.A4) (vS d2 x8.1.Kids) x8.1.Kids] ∧ tm 1 = v2 ∧ tm 2 = (vi x2) ∧ tm 7 = (pV b1 0) ∧ tm 12 = w3 ∧ tm 14 = (pV b2 0) ∧ tm 47 = (vi x5.1) ∧ tm 48 = (vi x6) ∧ tm 72 = (.bool y4)) (fun k8 => ?_) ?_
   ·rcases Bool.eq_false_or_eq_true y3 with q19 | q19
    ·replace e3 := if_t q19 e3
     refine o_gn rfl q19 (o_gn rfl q19 (o_gn rfl q19 (o_gn rfl q19 (o_gn rfl q19 ?_))))
     refine o_pickt (a := (.bool true)) rfl q19 rfl ?_
     obtain rfl := oJ e3
     exact k8 _ _ ⟨_, _, Gw.refl _ _, s25, h35, h36, h37, h38, h39, h40, h41, rfl⟩
    replace e3 := ib_f q19 e3
    refine o_gy rfl q19 (o_ldB 2 s25 rfl h39 rfl rfl (o_gy rfl q19 ?_))
    obtain ⟨x10, q20, e3⟩ := oB e3
    obtain ⟨Z16, V16, W8, g16, u8, c29, c30, -, c32, c31⟩ := Sat.call (l1 := []) s25
    refine o_call (mc rfl m0) (X.F9 nd.F9 c29 (c30 3 _ (Sh.ro Sh.A4) _ _ rfl) q20) fun w6 H19 i14 => ?_
    obtain ⟨_, rfl, s29⟩ := i14
    have s30 := c31 _ _ s29
    refine o_gy rfl q19 ?_
    refine o_len rfl ((s30.curS (s := Sh.int) 0 rfl)).len ?_
    refine o_gy rfl q19 (o_mv h36 (o_gy rfl q19 (o_neq rfl rfl ?_)))
    refine o_pickf (b := (.bool (decide ((x10.length : Int) ≠ x2)))) rfl q19 rfl ?_
    obtain rfl := oJ e3
    exact k8 _ _ ⟨_, _, g16, (s30.pick [1, 2, 3, 4] rfl), h35, h36, h37, h38, h39, h40, h41, rfl⟩
   intro _ H18 i15
   obtain ⟨Z15, V15, g15, s28, h43, h44, h45, h46, h47, h48, h49, h50⟩ := i15
   refine c_nil ?_
   refine c_if h50 (fun q21 => ?_) (fun q21 => ?_)
   ·replace e1 := if_t q21 e1
    refine c_sr ?_
    refine o_mv (v := (.bool false)) rfl ?_
    refine c_nil (c_rt ?_)
    have e4 := fin_r (k5 _ (sJ e1)) e
    obtain rfl := oJ e4
    exact ⟨.inr rfl, _, (ar1 rfl), rfl, ((s28.pick [] rfl).weak (g1.trans (g2.trans (g3.trans (g4.trans (g5.trans (g6.trans (g7.trans (g8.trans (g9.trans (g10.trans (g12.trans (g13.trans g15)))))))))))) hs.zv)⟩
   replace e1 := ib_f q21 e1
   refine c_sk (c_sq (c_sr (o_mv h46 ?_)))
   refine o_len rfl ((s28.curS (s := (Sh.ro Sh.A4)) 1 rfl)).len ?_
   refine o_mv (v := (vi 0)) rfl ?_
   refine c_nil ?_
   obtain ⟨y5, q24, e1⟩ := oB e1
   refine c_jn (I := fun tm H => ∃ (s33 : Unit), y5 = .out s33 ∧ (∃ (Z18 V18 : PH), Gw Z15 V15 Z18 V18 ∧ Sat Z18 V18 H [pts b1 (.rw 0 [vi x1.Terms, vi x1.Nons, vi x1.Start, (vS d1 x1.Rules)]), It.sl (Sh.ro Sh.A4) w3 s17, pts b2 (.rw 0 [vi x8.1.Rule, vi x8.1.Term, (vS d2 x8.1.Kids)]), It.sl (Sh.ro Sh.A4) (vS d2 x8.1.Kids) x8.1.Kids] ∧ tm 1 = v2 ∧ tm 2 = (vi x2) ∧ tm 7 = (pV b1 0) ∧ tm 12 = w3 ∧ tm 14 = (pV b2 0) ∧ tm 47 = (vi x5.1) ∧ tm 48 = (vi x6) ∧ tm 73 = w3 ∧ tm 74 = (vN s17))) (fun k12 => ?_) ?_
   ·refine c_bk ?_
    refine l_forL (xs := s17) (fun (i16 : Nat) (s31 : Unit) tm H => tm 75 = vi i16 ∧ ∃ (Z17 V17 : PH), Gw Z15 V15 Z17 V17 ∧ Sat Z17 V17 H [pts b1 (.rw 0 [vi x1.Terms, vi x1.Nons, vi x1.Start, (vS d1 x1.Rules)]), It.sl (Sh.ro Sh.A4) w3 s17, pts b2 (.rw 0 [vi x8.1.Rule, vi x8.1.Term, (vS d2 x8.1.Kids)]), It.sl (Sh.ro Sh.A4) (vS d2 x8.1.Kids) x8.1.Kids] ∧ tm 1 = v2 ∧ tm 2 = (vi x2) ∧ tm 7 = (pV b1 0) ∧ tm 12 = w3 ∧ tm 14 = (pV b2 0) ∧ tm 47 = (vi x5.1) ∧ tm 48 = (vi x6) ∧ tm 73 = w3 ∧ tm 74 = (vN s17)) (fun i16 x11 s31 y6 tm H21 q22 q23 j2 e5 k9 k10 k11 => ?_) (fun s31 tm H20 jf jd => ?_) q24 ⟨rfl, _, _, Gw.refl _ _, s28, h43, h44, h45, h46, h47, h48, h49, rfl, rfl⟩
    ·obtain ⟨hti1, Z17, V17, g17, s32, h51, h52, h53, h54, h55, h56, h57, h58, h59⟩ := j2
     unfold P.A7.b1 at e5
     refine c_sr (o_lss hti1 h59 (c_nil (c_sq ?_)))
     refine c_ift rfl (Int.ofNat_lt.2 q23) ?_
     refine c_sk (c_sq (c_bk (c_sr ?_)))
     refine o_idx (v := w3) h58 hti1 (s32.curS (s := (Sh.ro Sh.A4)) 1 rfl) rfl (Pu.ix_nat.trans q22) fun p1 q25 => ?_
     refine o_ldoa (p := p1) 1 s32 rfl rfl rfl q25 (Pu.ix_nat.trans q22) fun Z19 V19 c33 g19 s35 h69 => ?_
     obtain ⟨w7, rfl, h70⟩ := Sh.G4 h69
     refine o_new s35 fun b3 H23 s36 => ?_
     obtain ⟨d3, rfl⟩ := (h70).val
     refine o_stB (us' := [vi x11.Rule, vi x11.Term, (vS d3 x11.Kids)]) 0 s36 rfl rfl rfl rfl rfl rfl rfl fun H24 s37 => ?_
     refine c_nil (c_sr (o_ldB 0 s37 rfl rfl rfl rfl (o_ldB 3 s37 rfl h55 rfl rfl ?_)))
     obtain ⟨x12, q26, e5⟩ := oB e5
     obtain ⟨Z20, V20, W9, g20, u9, c34, c35, -, c37, c36⟩ := Sat.call (l1 := []) s37
     refine o_call (mc rfl (mc rfl m0)) (X.E5 nd.E5 c34 (h70.mono (g20.z.trans c34.zv)) (c35 4 _ (Sh.ro Sh.A4) _ _ rfl) q26) fun _ H25 i17 => ?_
     obtain ⟨rfl, s38⟩ := i17
     have s39 := c36 _ _ s38
     refine o_eql rfl rfl (c_nil ?_)
     refine c_ifd rfl (fun q27 => ?_) (fun q27 => ?_)
     ·replace e5 := if_t q27 e5
      refine c_sr ?_
      refine o_mv (v := (.bool false)) rfl ?_
      refine c_nil (c_rt ?_)
      have e6 := fin_r (k11 _ (sJ e5)) e1
      have e7 := fin_r (k5 _ (sJ e6)) e
      obtain rfl := oJ e7
      exact ⟨.inr rfl, _, (ar1 rfl), rfl, ((s39.pick [] rfl).weak (g1.trans (g2.trans (g3.trans (g4.trans (g5.trans (g6.trans (g7.trans (g8.trans (g9.trans (g10.trans (g12.trans (g13.trans (g15.trans (g17.trans (g19.trans g20))))))))))))))) hs.zv)⟩
     replace e5 := if_f q27 e5
     refine c_sk (c_end (c_r (o_add hti1 rfl ?_)))
     refine o_mv (v := (vi (Pu.W ((i16 : Int) + 1)))) rfl ?_
     refine c_nil ?_
     exact k9 _ _ _ (sJ e5) ⟨(iv rfl (w_suc q23 ((s28.curS (s := (Sh.ro Sh.A4)) 1 rfl)).bd)), _, _, (g17.trans (g19.trans g20)), (s39.pick [1, 2, 3, 4] rfl), h51, h52, h53, h54, h55, h56, h57, h58, h59⟩
    ·obtain ⟨hte1, Z21, V21, g21, s40, h71, h72, h73, h74, h75, h76, h77, h78, h79⟩ := jd
     refine c_sr (o_lss hte1 h79 (c_nil (c_sq ?_)))
     refine c_iff rfl (Int.lt_irrefl _) ?_
     refine c_ex ?_
     refine e_c ?_
     refine e_c ?_
     refine e_h ?_
     exact k12 _ _ ⟨_, jf, _, _, g21, s40, h71, h72, h73, h74, h75, h76, h77, h78, h79⟩
   intro _ H22 i18
   obtain ⟨s33, f1, Z18, V18, g18, s34, h60, h61, h62, h63, h64, h65, h66, h67, h68⟩ := i18
   replace e1 := fin_o f1 e1
   refine c_r (o_mv h63 (o_ldB 2 s34 rfl h64 rfl rfl ?_))
   obtain ⟨Z22, V22, g22, s41, h80⟩ := s34.frzS 3 rfl
   replace h80 := h80.of_ro
   refine o_bsl (s := (Sh.ro Sh.A4)) (us := [vi x8.1.Rule, vi x8.1.Term, (vS d2 x8.1.Kids)]) (qs := [(0, 3, (.agg #[vi x8.1.Rule, vi x8.1.Term, (vS d2 x8.1.Kids)]))]) (xs := [x8.1]) s41 (Sh.ro_lt _) rfl rfl rfl (Els.cons (c := [vi x8.1.Rule, vi x8.1.Term, (vS d2 x8.1.Kids)]) (Sh.G8 (x := x8.1) h80) Els.nil) rfl rfl fun w8 H27 s42 => ?_
   obtain ⟨Z23, V23, g23, s43, h81⟩ := s42.frzS 0 rfl
   replace h81 := h81.of_ro
   obtain ⟨x13, q28, e1⟩ := oB e1
   refine o_app 1 s43 rfl (Sh.ro_lt _) rfl rfl rfl rfl h81 s43.z (fun h => h) (by decide) q28 fun w9 H28 s44 => ?_
   refine o_mv (v := w9) rfl ?_
   refine c_nil (c_end (c_r (o_add h66 rfl ?_)))
   refine o_mv (v := (vi (Pu.W (x6 + 1)))) rfl ?_
   refine c_nil ?_
   exact k3 _ _ _ (sJ e1) ⟨(iv rfl (w_sucR q10 q14)), _, _, _, (g10.trans (g12.trans (g13.trans (g15.trans (g18.trans (g22.trans g23)))))), (s44.pick [0, 1] rfl), h60, h61, h62, rfl, h65⟩
  ·obtain ⟨hte0, Z24, V24, w10, g24, s45, h82, h83, h84, h85, h86⟩ := jd
   refine c_sr (o_lss hte0 h86 (c_nil (c_sq ?_)))
   refine c_iff rfl (ran_done _) ?_
   refine c_ex ?_
   refine e_c ?_
   refine e_c ?_
   refine e_h ?_
   exact k6 _ _ ⟨_, jf, _, _, _, g24, s45, h82, h83, h84, h85, h86⟩
 intro _ H12 i19
 obtain ⟨s19, f2, Z11, V11, w4, g11, s20, h22, h23, h24, h25, h26⟩ := i19
 replace e := fin_o f2 e
 refine c_sr (o_ldB 0 s20 rfl h24 rfl rfl (o_mv h22 ?_))
 obtain ⟨x14, q29, e⟩ := oB e
 obtain ⟨Z25, V25, W10, g25, u10, c38, c39, -, c41, c40⟩ := Sat.call (l1 := []) s20
 refine o_call (mc rfl (mc rfl m0)) (X.F8 nd.F8 c38 (h11.mono ((g8.trans (g9.trans g11)).trans g25).z) (hp2.mono ((g1.trans (g2.trans (g3.trans (g4.trans (g5.trans (g6.trans (g7.trans (g8.trans (g9.trans g11))))))))).trans g25).z) q29) fun _ H30 i20 => ?_
 obtain ⟨w11, rfl, s46⟩ := i20
 have s47 := c40 _ _ s46
 refine o_mv (v := (.tuple #[(.agg #[vi x14.1.Rule, vi x14.1.Term, w11]), (.bool x14.2)])) rfl ?_
 refine o_ext rfl rfl (o_ext rfl rfl ?_)
 refine o_new s47 fun b4 H31 s48 => ?_
 obtain ⟨d4, rfl⟩ := ((s48.curS (s := (Sh.ro Sh.A4)) 1 rfl)).val
 refine o_stB (us' := [vi x14.1.Rule, vi x14.1.Term, (vS d4 x14.1.Kids)]) 0 s48 rfl rfl rfl rfl rfl rfl rfl fun H32 s49 => ?_
 refine o_mv (v := (.bool x14.2)) rfl ?_
 refine c_nil (c_sr ?_)
 refine o_mv (v := (.bool x14.2)) rfl ?_
 refine o_not rfl ?_
 refine o_mv (v := (.bool (!x14.2))) rfl ?_
 obtain ⟨y7, e8, e⟩ := oB e
 refine o_jn 6 (I := fun tm H => ∃ (Z26 V26 : PH), Gw Z25 V25 Z26 V26 ∧ Sat Z26 V26 H [It.sl (Sh.ro Sh.A4) w4 s19, pts b4 (.rw 0 [vi x14.1.Rule, vi x14.1.Term, (vS d4 x14.1.Kids)]), It.sl (Sh.ro Sh.A4) (vS d4 x14.1.Kids) x14.1.Kids] ∧ tm 12 = w4 ∧ tm 18 = (pV b4 0) ∧ tm 103 = (.bool y7)) (fun k13 => ?_) ?_
 ·rcases Bool.eq_false_or_eq_true (!x14.2) with q30 | q30
  ·replace e8 := if_t q30 e8
   refine o_gn rfl q30 (o_gn rfl q30 (o_gn rfl q30 (o_gn rfl q30 (o_gn rfl q30 ?_))))
   refine o_pickt (a := (.bool true)) rfl q30 rfl ?_
   obtain rfl := oJ e8
   exact k13 _ _ ⟨_, _, Gw.refl _ _, (s49.pick [3, 0, 1] rfl), h25, rfl, rfl⟩
  replace e8 := ib_f q30 e8
  refine o_gy rfl q30 (o_ldB 0 s49 rfl rfl rfl rfl (o_gy rfl q30 ?_))
  obtain ⟨x15, q31, e8⟩ := oB e8
  obtain ⟨Z27, V27, W11, g27, u11, c42, c43, -, c45, c44⟩ := Sat.call (l1 := []) s49
  refine o_call (mc rfl m0) (X.F9 nd.F9 c42 (c43 1 _ (Sh.ro Sh.A4) _ _ rfl) q31) fun w12 H34 i21 => ?_
  obtain ⟨_, rfl, s51⟩ := i21
  have s52 := c44 _ _ s51
  refine o_gy rfl q30 ?_
  refine o_len rfl ((s52.curS (s := Sh.int) 0 rfl)).len ?_
  refine o_gy rfl q30 (o_mv h23 (o_gy rfl q30 (o_neq rfl rfl ?_)))
  refine o_pickf (b := (.bool (decide ((x15.length : Int) ≠ x2)))) rfl q30 rfl ?_
  obtain rfl := oJ e8
  exact k13 _ _ ⟨_, _, g27, (s52.pick [4, 1, 2] rfl), h25, rfl, rfl⟩
 intro _ H33 i22
 obtain ⟨Z26, V26, g26, s50, h87, h88, h89⟩ := i22
 refine o_mv h89 ?_
 obtain ⟨y8, e9, e⟩ := oB e
 refine o_jn 4 (I := fun tm H => ∃ (Z28 V28 : PH), Gw Z26 V26 Z28 V28 ∧ Sat Z28 V28 H [] ∧ tm 108 = (.bool y8)) (fun k14 => ?_) ?_
 ·rcases Bool.eq_false_or_eq_true y7 with q32 | q32
  ·replace e9 := if_t q32 e9
   refine o_gn rfl q32 (o_gn rfl q32 (o_gn rfl q32 ?_))
   refine o_pickt (a := (.bool true)) rfl q32 rfl ?_
   obtain rfl := oJ e9
   exact k14 _ _ ⟨_, _, Gw.refl _ _, (s50.pick [] rfl), rfl⟩
  replace e9 := ib_f q32 e9
  refine o_gy rfl q32 (o_mv h87 (o_gy rfl q32 (o_mkfn (mc h88 m0) (o_gy rfl q32 ?_))))
  obtain ⟨Z29, V29, g29, s54, h91⟩ := s50.frzS 2 rfl
  replace h91 := h91.of_ro
  obtain ⟨x16, q33, e9⟩ := oB e9
  obtain ⟨Z30, V30, W12, g30, u12, c46, c47, -, c49, c48⟩ := Sat.call (l1 := [pts b4 (.rw 0 [vi x14.1.Rule, vi x14.1.Term, (vS d4 x14.1.Kids)])]) (l2 := [It.sl (Sh.ro Sh.A4) w4 s19]) (s54.pick [1, 0] rfl)
  refine o_call (mc rfl (mc rfl m0)) (X.D3 nd.D3 (a1c0 := x14.1) c46 (c47 0 _ (Sh.ro Sh.A4) _ _ rfl) (h91.mono (g30.z.trans c46.zv)) q33) fun _ H36 i23 => ?_
  obtain ⟨rfl, s55⟩ := i23
  have s56 := c48 _ _ s55
  refine o_pickf (b := (.bool x16)) rfl q32 rfl ?_
  obtain rfl := oJ e9
  exact k14 _ _ ⟨_, _, (g29.trans g30), (s56.pick [] rfl), rfl⟩
 intro _ H35 i24
 obtain ⟨Z28, V28, g28, s53, h90⟩ := i24
 refine o_mv h90 (c_nil (c_rt ?_))
 obtain rfl := oJ e
 exact ⟨.inr rfl, _, (ar1 rfl), rfl, (s53.weak (g1.trans (g2.trans (g3.trans (g4.trans (g5.trans (g6.trans (g7.trans (g8.trans (g9.trans (g11.trans (g25.trans (g26.trans g28)))))))))))) hs.zv)⟩
end Go.Proofs.Ytmeigkelacoibaa
