/- The abstract code comes to the plain functions: printed by wip/tools/lift.py. -/
import Derived.Test.YtcdhhelgoppleaaX1
import Derived.Test.YtcdhhelgoppleaaGcmp
import Derived.Test.YtcdhhelgoppleaaGdfa
import Derived.Test.YtcdhhelgoppleaaGgram
import Derived.Test.YtcdhhelgoppleaaGguess
import Derived.Test.YtcdhhelgoppleaaGmean
import Derived.Test.YtcdhhelgoppleaaGparlkeep5
import Derived.Test.YtcdhhelgoppleaaGparlmake
import Derived.Test.YtcdhhelgoppleaaGslices
namespace Go.Proofs.Ytcdhhelgoppleaa
open Go Go.Ab
/-! mean_derived -/
structure Nd.mean_derived (T : FuncId → Option AFunc) : Prop where
  own : Has T I.mean_derived F.mean_derived
  mean_ends_after : Nd.mean_ends_after T
set_option maxHeartbeats 1000000 in
theorem X.mean_derived {T : FuncId → Option AFunc} (nd : Nd.mean_derived T) {φ : Nat} {Z V : PH} {H : Hp} {v1 : Value} {v2 : Value} {a0 : Ty.api_Grammar} {a1 : (List Int)} (hs : Sat Z V H []) (hp1 : RdS Sh.api_Rule V v1 a0.Rules) (hp2 : RdS Sh.int V v2 a1) {r : Ty.mean_ends} (e : P.mean_derived φ a0 a1 = some r) :
    G T I.mean_derived [(.agg #[vi a0.Terms, vi a0.Nons, vi a0.Start, v1]), v2] H (fun rv H' => ∃ (o101 : Nat) (u2 : Value), rv = (pV o101 0) ∧ Sat Z V H' [pts o101 (.rw 0 [vi r.g.Terms, vi r.g.Nons, vi r.g.Start, v1, v2, u2]), It.sl (Sh.sl (Sh.ik .u32)) u2 r.of_]) := by
 unfold P.mean_derived at e
 refine f_mk nd.own ?_
 refine c_sr ?_
 obtain ⟨d1, rfl⟩ := (hp1).val
 refine o_box hs rfl rfl fun b1 H1 s1 => ?_
 refine o_mv (v := (.pointer none)) rfl ?_
 refine c_nil (c_sq ?_)
 refine d_start s1 fun n1 H2 s2 q1 d2 => ?_
 refine d_ldB (q1 _ _ (ph_some.2 ⟨s2.curB 0 rfl, by simp⟩)) 0 s2 rfl rfl rfl rfl ?_
 refine d_mv (v := v2) rfl ?_
 refine d_fad rfl ?_
 refine d_ldB (q1 _ _ (ph_some.2 ⟨s2.curB 0 rfl, by simp⟩)) 0 s2 rfl rfl rfl rfl ?_
 obtain ⟨x1, q2, e⟩ := oB e
 refine d_mksH (s := (Sh.ik .u32)) (d2.get 4 rfl rfl) s2 rfl rfl q2 fun w1 H3 s3 k1 => ?_
 have d3 := d2.next 4 rfl k1
 obtain ⟨d4, rfl⟩ := (hp2).val
 obtain ⟨d5, rfl⟩ := ((s3.curS (s := (Sh.sl (Sh.ik .u32))) 0 rfl)).val
 refine d_bld (qs := [(0, 4, (.agg #[vi a0.Terms, vi a0.Nons, vi a0.Start, (vS d1 a0.Rules)])), (4, 1, (vS d4 a1)), (5, 1, (vS d5 x1))]) rfl rfl ?_
 refine d_box (d3.get 6 rfl rfl) s3 rfl rfl fun b2 H4 s4 k2 => ?_
 have d6 := d3.next 6 rfl k2
 refine d_mv (v := (pV b2 0)) rfl ?_
 refine d_nil dc_nil ?_
 refine c_gen (P := fun tm => tm 1 = (vS d4 a1) ∧ tm 2 = (pV b1 0) ∧ tm 5 = (pV b2 0) ∧ True) ⟨rfl, rfl, rfl, trivial⟩ ?_
 intro _ i1
 obtain ⟨h1, h2, h3, -⟩ := i1
 refine c_sq (c_sr (o_mv h3 (o_nck rfl (o_fad rfl ?_))))
 refine o_ldB 0 s4 rfl rfl rfl rfl ?_
 refine o_len rfl ((s4.curS (s := (Sh.sl (Sh.ik .u32))) 1 rfl)).len ?_
 refine o_mv (v := (vi 0)) rfl ?_
 refine c_nil ?_
 obtain ⟨x3, q5, e⟩ := oB e
 obtain ⟨rfl, q7⟩ := ranO_some q5
 obtain ⟨y1, q8, e⟩ := oB e
 refine c_bk ?_
 refine l_forP (xs := (Pu.ran (x1.length : Int))) (fun (i2 : Nat) (s5 : (List (List Int))) tm H => tm 26 = vi i2 ∧ ∃ (Z1 V1 : PH), Gw Z V Z1 V1 ∧ Sat Z1 V1 H [pts b1 (.rw 0 [vi a0.Terms, vi a0.Nons, vi a0.Start, (vS d1 a0.Rules)]), pts b2 (.rw 0 [vi a0.Terms, vi a0.Nons, vi a0.Start, (vS d1 a0.Rules), (vS d4 a1), (vS d5 x1)]), It.sl (Sh.sl (Sh.ik .u32)) (vS d5 x1) s5] ∧ tm 1 = (vS d4 a1) ∧ tm 2 = (pV b1 0) ∧ tm 5 = (pV b2 0) ∧ tm 25 = (vN x1)) (fun i2 x2 s5 s7 tm H6 q3 q4 j1 e1 k3 => ?_) (fun tm H5 jd => ?_) q8 ⟨rfl, _, _, Gw.refl _ _, (s4.pick [2, 0, 1] rfl), h1, h2, h3, rfl⟩
 ·obtain ⟨hti0, Z1, V1, g1, s6, h4, h5, h6, h7⟩ := j1
  unfold P.mean_derived.b0 at e1
  have hti0 := iv hti0 (ran_x q3).symm
  refine c_sr (o_lss hti0 h7 (c_nil (c_sq ?_)))
  refine c_ift rfl (ran_lt q3) ?_
  refine c_sk (c_sq (c_bk (c_sr (o_mv hti0 ?_))))
  refine o_mv (v := (vi x2)) rfl ?_
  refine c_nil ?_
  refine d_start s6 fun n2 H7 s8 q9 d7 => ?_
  refine d_mv h6 ?_
  refine d_nck rfl ?_
  refine d_fad rfl ?_
  refine d_ldB (q9 _ _ (ph_some.2 ⟨s8.curB 1 rfl, by simp⟩)) 1 s8 rfl rfl rfl rfl ?_
  refine d_mv (v := (vi x2)) rfl ?_
  refine d_mv h4 ?_
  refine d_len rfl ((hp2.mono g1.v)).len ?_
  refine d_add rfl rfl ?_
  obtain ⟨x4, q10, e1⟩ := oB e1
  refine d_mks (s := (Sh.ik .u32)) (d7.get 8 rfl rfl) s8 Sh.flat_lt rfl rfl rfl rfl q10 fun w2 H8 s9 k4 => ?_
  have d8 := d7.next 8 rfl k4
  obtain ⟨x5, q11, e1⟩ := oB e1
  refine d_idx (v := (vS d5 x1)) rfl rfl (s9.curS (s := (Sh.sl (Sh.ik .u32))) 3 rfl) rfl q11 fun p1 q12 => ?_
  refine d_stH 2 s9 rfl rfl rfl q12 q11 fun H9 s10 k5 => ?_
  have d9 := d8.keep k5
  refine d_nil dc_nil ?_
  refine c_end (c_r (o_add hti0 rfl ?_))
  refine o_mv (v := (vi (Pu.W (x2 + 1)))) rfl ?_
  refine c_nil ?_
  obtain rfl := oJ e1
  exact k3 _ _ ⟨(iv rfl (w_sucR q3 q7)), _, _, g1, s10, h4, h5, h6, h7⟩
 obtain ⟨hte0, Z2, V2, g2, s11, h8, h9, h10, h11⟩ := jd
 refine c_sr (o_lss hte0 h11 (c_nil (c_sq ?_)))
 refine c_iff rfl (ran_done _) ?_
 refine c_ex ?_
 refine e_c ?_
 refine e_c ?_
 refine e_h ?_
 refine c_sq (c_sr ?_)
 refine o_mv (v := (.bool true)) rfl ?_
 refine c_nil ?_
 obtain ⟨y2, q15, e⟩ := oB e
 refine c_jn (I := fun tm H => ∃ (s14 : ((List (List Int)) × Bool)), y2 = .out s14 ∧ (∃ (Z4 V4 : PH), Gw Z2 V2 Z4 V4 ∧ Sat Z4 V4 H [pts b1 (.rw 0 [vi a0.Terms, vi a0.Nons, vi a0.Start, (vS d1 a0.Rules)]), pts b2 (.rw 0 [vi a0.Terms, vi a0.Nons, vi a0.Start, (vS d1 a0.Rules), (vS d4 a1), (vS d5 x1)]), It.sl (Sh.sl (Sh.ik .u32)) (vS d5 x1) s14.1] ∧ tm 2 = (pV b1 0) ∧ tm 5 = (pV b2 0) ∧ tm 7 = (.bool s14.2))) (fun k9 => ?_) ?_
 ·refine c_bk ?_
  refine l_whl (fun (s12 : ((List (List Int)) × Bool)) tm H => ∃ (Z3 V3 : PH), Gw Z2 V2 Z3 V3 ∧ Sat Z3 V3 H [pts b1 (.rw 0 [vi a0.Terms, vi a0.Nons, vi a0.Start, (vS d1 a0.Rules)]), pts b2 (.rw 0 [vi a0.Terms, vi a0.Nons, vi a0.Start, (vS d1 a0.Rules), (vS d4 a1), (vS d5 x1)]), It.sl (Sh.sl (Sh.ik .u32)) (vS d5 x1) s12.1] ∧ tm 2 = (pV b1 0) ∧ tm 5 = (pV b2 0) ∧ tm 7 = (.bool s12.2)) (fun s12 y3 tm H12 j2 e2 k6 k7 k8 => ?_) q15 ⟨_, _, Gw.refl _ _, s11, h9, h10, rfl⟩
  obtain ⟨Z3, V3, g3, s13, h12, h13, h14⟩ := j2
  unfold P.mean_derived.b1 at e2
  refine c_sq (c_sr (o_mv h14 (c_nil ?_)))
  refine c_if rfl (fun q16 => ?_) (fun q16 => ?_)
  ·replace e2 := if_t q16 e2
   refine c_sk (c_bk (c_sr ?_))
   refine o_mv (v := (.bool false)) rfl ?_
   refine c_nil (c_sr (o_fad h12 (o_ldB 0 s13 rfl rfl rfl rfl (o_len rfl ((hp1.mono (g2.trans g3).v)).len ?_))))
   refine o_mv (v := (vi 0)) rfl ?_
   refine c_nil ?_
   obtain ⟨y4, q19, e2⟩ := oB e2
   refine c_bk ?_
   refine l_forP (xs := a0.Rules) (fun (i4 : Nat) (s16 : ((List (List Int)) × Bool)) tm H => tm 44 = vi i4 ∧ ∃ (Z5 V5 : PH), Gw Z3 V3 Z5 V5 ∧ Sat Z5 V5 H [pts b1 (.rw 0 [vi a0.Terms, vi a0.Nons, vi a0.Start, (vS d1 a0.Rules)]), pts b2 (.rw 0 [vi a0.Terms, vi a0.Nons, vi a0.Start, (vS d1 a0.Rules), (vS d4 a1), (vS d5 x1)]), It.sl (Sh.sl (Sh.ik .u32)) (vS d5 x1) s16.1] ∧ tm 2 = (pV b1 0) ∧ tm 5 = (pV b2 0) ∧ tm 7 = (.bool s16.2) ∧ tm 42 = (vS d1 a0.Rules) ∧ tm 43 = (vN a0.Rules)) (fun i4 x7 s16 s18 tm H15 q17 q18 j3 e3 k10 => ?_) (fun tm H14 jd => ?_) q19 ⟨rfl, _, _, Gw.refl _ _, s13, h12, h13, rfl, rfl, rfl⟩
   ·obtain ⟨hti2, Z5, V5, g5, s17, h18, h19, h20, h21, h22⟩ := j3
    unfold P.mean_derived.b2 at e3
    refine c_sr (o_lss hti2 h22 (c_nil (c_sq ?_)))
    refine c_ift rfl (Int.ofNat_lt.2 q18) ?_
    refine c_sk (c_sq (c_bk (c_sr ?_)))
    refine o_idx (v := (vS d1 a0.Rules)) h21 hti2 (hp1.mono (g2.trans (g3.trans g5)).v) rfl (Pu.ix_nat.trans q17) fun p2 q20 => ?_
    refine o_lda rfl (hp1.mono (g2.trans (g3.trans g5)).v) s17.v rfl q20 (Pu.ix_nat.trans q17) fun c1 h23 => ?_
    obtain ⟨w3, rfl, h24⟩ := Sh.api_Rule_op h23
    refine o_new s17 fun b3 H16 s19 => ?_
    obtain ⟨d10, rfl⟩ := (h24).val
    refine o_stB (us' := [vi x7.Left, (vS d10 x7.Right)]) 0 s19 rfl rfl rfl rfl rfl rfl rfl fun H17 s20 => ?_
    refine c_nil (c_sq ?_)
    refine d_start s20 fun n3 H18 s21 q21 d11 => ?_
    refine d_mv h19 ?_
    refine d_nck rfl ?_
    refine d_fad rfl ?_
    refine d_ldB (q21 _ _ (ph_some.2 ⟨s21.curB 2 rfl, by simp⟩)) 2 s21 rfl rfl rfl rfl ?_
    refine d_fad rfl ?_
    refine d_ldB (q21 _ _ (ph_some.2 ⟨s21.curB 0 rfl, by simp⟩)) 0 s21 rfl rfl rfl rfl ?_
    obtain ⟨x8, q22, e3⟩ := oB e3
    refine d_idx (v := (vS d5 x1)) rfl rfl (s21.curS (s := (Sh.sl (Sh.ik .u32))) 3 rfl) rfl q22 fun p3 q23 => ?_
    refine d_ldsv ((s21.curS 3 rfl).low pR q21) rfl (s21.curS (s := (Sh.sl (Sh.ik .u32))) 3 rfl) pR q23 q22 fun w4 h25 h26 => ?_
    refine d_len rfl (h25).len ?_
    refine d_mv (v := (vi 0)) rfl ?_
    refine d_nil dc_nil ?_
    refine c_gen (P := fun tm => tm 2 = (pV b1 0) ∧ tm 5 = (pV b2 0) ∧ tm 7 = (.bool s16.2) ∧ tm 9 = (pV b3 0) ∧ tm 42 = (vS d1 a0.Rules) ∧ tm 43 = (vN a0.Rules) ∧ tm 44 = (vJ i4) ∧ tm 56 = (vN x8) ∧ tm 57 = (vi 0) ∧ True) ⟨h18, h19, h20, rfl, h21, h22, hti2, rfl, rfl, trivial⟩ ?_
    intro _ i5
    obtain ⟨h27, h28, h29, h30, h31, h32, h33, h34, h35, -⟩ := i5
    obtain ⟨x10, q26, e3⟩ := oB e3
    obtain ⟨rfl, q28⟩ := ranO_some q26
    obtain ⟨y5, q29, e3⟩ := oB e3
    refine c_bk ?_
    refine l_forP (xs := (Pu.ran (x8.length : Int))) (fun (i6 : Nat) (s22 : ((List (List Int)) × Bool)) tm H => tm 57 = vi i6 ∧ ∃ (Z6 V6 : PH), Gw Z5 V5 Z6 V6 ∧ Sat Z6 V6 H [pts b1 (.rw 0 [vi a0.Terms, vi a0.Nons, vi a0.Start, (vS d1 a0.Rules)]), pts b2 (.rw 0 [vi a0.Terms, vi a0.Nons, vi a0.Start, (vS d1 a0.Rules), (vS d4 a1), (vS d5 x1)]), It.sl (Sh.sl (Sh.ik .u32)) (vS d5 x1) s22.1, pts b3 (.rw 0 [vi x7.Left, (vS d10 x7.Right)])] ∧ tm 2 = (pV b1 0) ∧ tm 5 = (pV b2 0) ∧ tm 7 = (.bool s22.2) ∧ tm 9 = (pV b3 0) ∧ tm 42 = (vS d1 a0.Rules) ∧ tm 43 = (vN a0.Rules) ∧ tm 44 = (vJ i4) ∧ tm 56 = (vN x8)) (fun i6 x9 s22 s24 tm H20 q24 q25 j4 e4 k11 => ?_) (fun tm H19 jd => ?_) q29 ⟨h35, _, _, Gw.refl _ _, (s21.pick [1, 2, 3, 0] rfl), h27, h28, h29, h30, h31, h32, h33, h34⟩
    ·obtain ⟨hti3, Z6, V6, g6, s23, h36, h37, h38, h39, h40, h41, h42, h43⟩ := j4
     unfold P.mean_derived.b3 at e4
     have hti3 := iv hti3 (ran_x q24).symm
     refine c_sr (o_lss hti3 h43 (c_nil (c_sq ?_)))
     refine c_ift rfl (ran_lt q24) ?_
     refine c_sk (c_sq (c_bk (c_sr (o_mv hti3 ?_))))
     refine o_mv (v := (vi x9)) rfl ?_
     refine c_nil (c_sr ?_)
     refine o_mv (v := (vi x9)) rfl ?_
     obtain ⟨x11, q30, e4⟩ := oB e4
     refine o_shl rfl rfl q30 ?_
     refine o_mv (v := (.int .u32 x11)) rfl ?_
     refine c_nil (c_sq (c_sr (o_fad h39 (o_ldB 3 s23 rfl rfl rfl rfl ?_))))
     refine o_len rfl ((h24.mono g6.v)).len ?_
     refine o_mv (v := (vi 0)) rfl ?_
     refine c_nil ?_
     refine c_gen (P := fun tm => tm 2 = (pV b1 0) ∧ tm 5 = (pV b2 0) ∧ tm 7 = (.bool s22.2) ∧ tm 9 = (pV b3 0) ∧ tm 10 = (vi x9) ∧ tm 11 = (.int .u32 x11) ∧ tm 42 = (vS d1 a0.Rules) ∧ tm 43 = (vN a0.Rules) ∧ tm 44 = (vJ i4) ∧ tm 56 = (vN x8) ∧ tm 57 = (vi x9) ∧ tm 63 = (vS d10 x7.Right) ∧ tm 64 = (vN x7.Right) ∧ tm 65 = (vi 0) ∧ True) ⟨h36, h37, h38, h39, rfl, rfl, h40, h41, h42, h43, hti3, rfl, rfl, rfl, trivial⟩ ?_
     intro _ i7
     obtain ⟨h44, h45, h46, h47, h48, h49, h50, h51, h52, h53, h54, h55, h56, h57, -⟩ := i7
     obtain ⟨y6, q33, e4⟩ := oB e4
     refine c_bk ?_
     refine l_forP (xs := x7.Right) (fun (i8 : Nat) (s25 : Int) tm H => tm 65 = vi i8 ∧ ∃ (Z7 V7 : PH), Gw Z6 V6 Z7 V7 ∧ Sat Z7 V7 H [pts b1 (.rw 0 [vi a0.Terms, vi a0.Nons, vi a0.Start, (vS d1 a0.Rules)]), pts b2 (.rw 0 [vi a0.Terms, vi a0.Nons, vi a0.Start, (vS d1 a0.Rules), (vS d4 a1), (vS d5 x1)]), It.sl (Sh.sl (Sh.ik .u32)) (vS d5 x1) s22.1, pts b3 (.rw 0 [vi x7.Left, (vS d10 x7.Right)])] ∧ tm 2 = (pV b1 0) ∧ tm 5 = (pV b2 0) ∧ tm 7 = (.bool s22.2) ∧ tm 9 = (pV b3 0) ∧ tm 10 = (vi x9) ∧ tm 11 = (.int .u32 s25) ∧ tm 42 = (vS d1 a0.Rules) ∧ tm 43 = (vN a0.Rules) ∧ tm 44 = (vJ i4) ∧ tm 56 = (vN x8) ∧ tm 57 = (vi x9) ∧ tm 63 = (vS d10 x7.Right) ∧ tm 64 = (vN x7.Right)) (fun i8 x12 s25 s27 tm H22 q31 q32 j5 e5 k12 => ?_) (fun tm H21 jd => ?_) q33 ⟨h57, _, _, Gw.refl _ _, s23, h44, h45, h46, h47, h48, h49, h50, h51, h52, h53, h54, h55, h56⟩
     ·obtain ⟨hti4, Z7, V7, g7, s26, h58, h59, h60, h61, h62, h63, h64, h65, h66, h67, h68, h69, h70⟩ := j5
      unfold P.mean_derived.b4 at e5
      refine c_sr (o_lss hti4 h70 (c_nil (c_sq ?_)))
      refine c_ift rfl (Int.ofNat_lt.2 q32) ?_
      refine c_sk (c_sq (c_bk (c_sr ?_)))
      refine o_idx (v := (vS d10 x7.Right)) h69 hti4 (h24.mono (g6.trans g7).v) rfl (Pu.ix_nat.trans q31) fun p4 q34 => ?_
      refine o_lda rfl (h24.mono (g6.trans g7).v) s26.v rfl q34 (Pu.ix_nat.trans q31) fun c2 h71 => ?_
      obtain rfl := h71
      refine o_new s26 fun b4 H23 s28 => ?_
      refine o_stB (us' := [(.bool x12.Term), vi x12.N]) 0 s28 rfl rfl rfl rfl rfl rfl rfl fun H24 s29 => ?_
      refine c_nil (c_r (o_mv h59 (o_ldB 0 s29 rfl rfl rfl rfl (o_mv h63 ?_))))
      obtain ⟨x13, q35, e5⟩ := oB e5
      obtain ⟨Z8, V8, W1, g8, u1, c3, c4, -, c6, c5⟩ := Sat.call (l1 := [pts b2 (.rw 0 [vi a0.Terms, vi a0.Nons, vi a0.Start, (vS d1 a0.Rules), (vS d4 a1), (vS d5 x1)]), It.sl (Sh.sl (Sh.ik .u32)) (vS d5 x1) s22.1]) (l2 := [pts b4 (.rw 0 [(.bool x12.Term), vi x12.N]), pts b1 (.rw 0 [vi a0.Terms, vi a0.Nons, vi a0.Start, (vS d1 a0.Rules)]), pts b3 (.rw 0 [vi x7.Left, (vS d10 x7.Right)])]) (s29.pick [2, 3, 0, 1, 4] rfl)
      refine o_call (mc rfl (mc rfl (mc rfl m0))) (X.mean_ends_after nd.mean_ends_after (a0 := (Ty.mean_ends.mk a0 a1 s22.1)) c3 (hp1.mono (((g2.trans (g3.trans (g5.trans (g6.trans g7)))).trans g8).v.trans u1)) (hp2.mono (((g2.trans (g3.trans (g5.trans (g6.trans g7)))).trans g8).v.trans u1)) q35) fun _ H25 i9 => ?_
      obtain ⟨rfl, s30⟩ := i9
      have s31 := c5 _ _ s30
      refine o_mv (v := (.int .u32 x13)) rfl ?_
      refine c_nil (c_end (c_r (o_add hti4 rfl ?_)))
      refine o_mv (v := (vi (Pu.W ((i8 : Int) + 1)))) rfl ?_
      refine c_nil ?_
      obtain rfl := oJ e5
      exact k12 _ _ ⟨(iv rfl (w_suc q32 ((h24.mono g6.v)).bd)), _, _, (g7.trans g8), (s31.pick [3, 0, 1, 4] rfl), h58, h59, h60, h61, h62, rfl, h64, h65, h66, h67, h68, h69, h70⟩
     obtain ⟨hte4, Z9, V9, g9, s32, h72, h73, h74, h75, h76, h77, h78, h79, h80, h81, h82, h83, h84⟩ := jd
     refine c_sr (o_lss hte4 h84 (c_nil (c_sq ?_)))
     refine c_iff rfl (Int.lt_irrefl _) ?_
     refine c_ex ?_
     refine e_c ?_
     refine e_c ?_
     refine e_h ?_
     refine c_sq ?_
     refine d_start s32 fun n4 H27 s33 q36 d12 => ?_
     refine d_mv h77 ?_
     refine d_mv h73 ?_
     refine d_nck rfl ?_
     refine d_fad rfl ?_
     refine d_ldB (q36 _ _ (ph_some.2 ⟨s33.curB 1 rfl, by simp⟩)) 1 s33 rfl rfl rfl rfl ?_
     refine d_fad h75 ?_
     refine d_ldB (q36 _ _ (ph_some.2 ⟨s33.curB 3 rfl, by simp⟩)) 3 s33 rfl rfl rfl rfl ?_
     obtain ⟨x14, q37, e4⟩ := oB e4
     refine d_idx (v := (vS d5 x1)) rfl rfl (s33.curS (s := (Sh.sl (Sh.ik .u32))) 2 rfl) rfl q37 fun p5 q38 => ?_
     refine d_ldsv ((s33.curS 2 rfl).low pR q36) rfl (s33.curS (s := (Sh.sl (Sh.ik .u32))) 2 rfl) pR q38 q37 fun w5 h85 h86 => ?_
     refine d_mv h76 ?_
     obtain ⟨x15, q39, e4⟩ := oB e4
     refine d_idx (v := w5) rfl rfl h85 rfl q39 fun p6 q40 => ?_
     refine d_ldi (RdS.low h85 pR q36) rfl h85 pR q40 q39 ?_
     have h87 := vl_ik h85 pR q40 q39
     refine d_andNot rfl rfl ?_
     refine d_neq rfl rfl ?_
     refine d_nil dc_nil ?_
     refine c_gen (P := fun tm => tm 2 = (pV b1 0) ∧ tm 5 = (pV b2 0) ∧ tm 7 = (.bool s22.2) ∧ tm 9 = (pV b3 0) ∧ tm 10 = (vi x9) ∧ tm 11 = (.int .u32 y6) ∧ tm 42 = (vS d1 a0.Rules) ∧ tm 43 = (vN a0.Rules) ∧ tm 44 = (vJ i4) ∧ tm 56 = (vN x8) ∧ tm 57 = (vi x9) ∧ tm 87 = (.bool (decide ((Pu.bandn .u32 y6 x15) ≠ 0))) ∧ True) ⟨h72, h73, h74, h75, h76, h77, h78, h79, h80, h81, h82, rfl, trivial⟩ ?_
     intro _ i10
     obtain ⟨h88, h89, h90, h91, h92, h93, h94, h95, h96, h97, h98, h99, -⟩ := i10
     obtain ⟨y7, e6, e4⟩ := oB e4
     refine c_jn (I := fun tm H => ∃ (Z10 V10 : PH), Gw Z9 V9 Z10 V10 ∧ Sat Z10 V10 H [pts b1 (.rw 0 [vi a0.Terms, vi a0.Nons, vi a0.Start, (vS d1 a0.Rules)]), pts b2 (.rw 0 [vi a0.Terms, vi a0.Nons, vi a0.Start, (vS d1 a0.Rules), (vS d4 a1), (vS d5 x1)]), It.sl (Sh.sl (Sh.ik .u32)) (vS d5 x1) y7.1, pts b3 (.rw 0 [vi x7.Left, (vS d10 x7.Right)])] ∧ tm 2 = (pV b1 0) ∧ tm 5 = (pV b2 0) ∧ tm 7 = (.bool y7.2) ∧ tm 9 = (pV b3 0) ∧ tm 42 = (vS d1 a0.Rules) ∧ tm 43 = (vN a0.Rules) ∧ tm 44 = (vJ i4) ∧ tm 56 = (vN x8) ∧ tm 57 = (vi x9)) (fun k13 => ?_) ?_
     ·refine c_ifd h99 (fun q41 => ?_) (fun q41 => ?_)
      ·replace e6 := if_t q41 e6
       refine c_sq ?_
       refine d_start s33 fun n5 H29 s35 q42 d13 => ?_
       refine d_mv h89 ?_
       refine d_nck rfl ?_
       refine d_fad rfl ?_
       refine d_ldB (q42 _ _ (ph_some.2 ⟨s35.curB 1 rfl, by simp⟩)) 1 s35 rfl rfl rfl rfl ?_
       refine d_fad h91 ?_
       refine d_ldB (q42 _ _ (ph_some.2 ⟨s35.curB 3 rfl, by simp⟩)) 3 s35 rfl rfl rfl rfl ?_
       obtain ⟨x16, q43, e6⟩ := oB e6
       refine d_idx (v := (vS d5 x1)) rfl rfl (s35.curS (s := (Sh.sl (Sh.ik .u32))) 2 rfl) rfl q43 fun p7 q44 => ?_
       refine d_ldsv ((s35.curS 2 rfl).low pR q42) rfl (s35.curS (s := (Sh.sl (Sh.ik .u32))) 2 rfl) pR q44 q43 fun w6 h109 h110 => ?_
       refine d_mv h92 ?_
       obtain ⟨x17, q45, e6⟩ := oB e6
       refine d_idx (v := w6) rfl rfl h109 rfl q45 fun p8 q46 => ?_
       refine d_ldi (RdS.low h109 pR q42) rfl h109 pR q46 q45 ?_
       have h111 := vl_ik h109 pR q46 q45
       refine d_mv h93 ?_
       refine d_or rfl rfl ?_
       obtain ⟨x18, q47, e6⟩ := oB e6
       refine d_idx (v := w6) rfl rfl h109 rfl q47 fun p9 q48 => ?_
       refine d_st2 2 s35 rfl Sh.flat_lt rfl rfl rfl q44 q43 h110 q48 q47 rfl rfl fun H30 s36 k14 => ?_
       have d14 := d13.keep k14
       refine d_nil dc_nil ?_
       refine c_gen (P := fun tm => tm 2 = (pV b1 0) ∧ tm 5 = (pV b2 0) ∧ tm 9 = (pV b3 0) ∧ tm 42 = (vS d1 a0.Rules) ∧ tm 43 = (vN a0.Rules) ∧ tm 44 = (vJ i4) ∧ tm 56 = (vN x8) ∧ tm 57 = (vi x9) ∧ True) ⟨h88, h89, h91, h94, h95, h96, h97, h98, trivial⟩ ?_
       intro _ i11
       obtain ⟨h112, h113, h114, h115, h116, h117, h118, h119, -⟩ := i11
       refine c_r ?_
       refine o_mv (v := (.bool true)) rfl ?_
       refine c_nil ?_
       obtain rfl := oJ e6
       exact k13 _ _ ⟨_, _, Gw.refl _ _, s36, h112, h113, rfl, h114, h115, h116, h117, h118, h119⟩
      replace e6 := if_f q41 e6
      refine c_sk ?_
      obtain rfl := oJ e6
      exact k13 _ _ ⟨_, _, Gw.refl _ _, s33, h88, h89, h90, h91, h94, h95, h96, h97, h98⟩
     intro _ H28 i12
     obtain ⟨Z10, V10, g10, s34, h100, h101, h102, h103, h104, h105, h106, h107, h108⟩ := i12
     refine c_end (c_r (o_add h108 rfl ?_))
     refine o_mv (v := (vi (Pu.W (x9 + 1)))) rfl ?_
     refine c_nil ?_
     obtain rfl := oJ e4
     exact k11 _ _ ⟨(iv rfl (w_sucR q24 q28)), _, _, (g6.trans (g9.trans g10)), s34, h100, h101, h102, h103, h104, h105, h106, h107⟩
    obtain ⟨hte3, Z11, V11, g11, s37, h120, h121, h122, h123, h124, h125, h126, h127⟩ := jd
    refine c_sr (o_lss hte3 h127 (c_nil (c_sq ?_)))
    refine c_iff rfl (ran_done _) ?_
    refine c_ex ?_
    refine e_c ?_
    refine e_c ?_
    refine e_h ?_
    refine c_end (c_r (o_add h126 rfl ?_))
    refine o_mv (v := (vi (Pu.W ((i4 : Int) + 1)))) rfl ?_
    refine c_nil ?_
    obtain rfl := oJ e3
    exact k10 _ _ ⟨(iv rfl (w_suc q18 ((hp1.mono (g2.trans g3).v)).bd)), _, _, (g5.trans g11), (s37.pick [0, 1, 2] rfl), h120, h121, h122, h124, h125⟩
   obtain ⟨hte2, Z12, V12, g12, s38, h128, h129, h130, h131, h132⟩ := jd
   refine c_sr (o_lss hte2 h132 (c_nil (c_sq ?_)))
   refine c_iff rfl (Int.lt_irrefl _) ?_
   refine c_ex ?_
   refine e_c ?_
   refine e_c ?_
   refine e_h ?_
   refine c_end ?_
   exact k6 _ _ _ (sJ e2) ⟨_, _, (g3.trans g12), s38, h128, h129, h130⟩
  replace e2 := ib_f q16 e2
  refine c_ex ?_
  refine e_c ?_
  refine e_c ?_
  refine e_h ?_
  exact k9 _ _ ⟨_, k7 _ (sJ e2), _, _, g3, s13, h12, h13, h14⟩
 intro _ H13 i13
 obtain ⟨s14, f1, Z4, V4, g4, s15, h15, h16, h17⟩ := i13
 replace e := fin_o f1 e
 refine c_sr (o_mv h16 ?_)
 refine o_mv (v := (pV b2 0)) rfl ?_
 refine c_nil (c_rt ?_)
 obtain rfl := oJ e
 exact ⟨.inr rfl, _, (ar1 rfl), _, _, rfl, ((s15.pick [1, 2] rfl).weak (g2.trans g4) hs.zv)⟩
/-! mean_ends_is -/
structure Nd.mean_ends_is (T : FuncId → Option AFunc) : Prop where
  own : Has T I.mean_ends_is F.mean_ends_is
  mean_ends_after : Nd.mean_ends_after T
set_option maxHeartbeats 1000000 in
theorem X.mean_ends_is {T : FuncId → Option AFunc} (nd : Nd.mean_ends_is T) {φ : Nat} {Z V : PH} {H : Hp} {v1 : Value} {v2 : Value} {v3 : Value} {o1 : Nat} {a0 : Ty.mean_ends} {a1 : Ty.api_Sym} {a2 : Int} {a3 : Int} (hs : Sat Z V H [pts o1 (.rw 0 [vi a0.g.Terms, vi a0.g.Nons, vi a0.g.Start, v1, v2, v3]), It.sl (Sh.sl (Sh.ik .u32)) v3 a0.of_]) (hp1 : RdS Sh.api_Rule V v1 a0.g.Rules) (hp2 : RdS Sh.int V v2 a0.w) {r : Bool} (e : P.mean_ends_is φ a0 a1 a2 a3 = some r) :
    G T I.mean_ends_is [(pV o1 0), (.agg #[(.bool a1.Term), vi a1.N]), vi a2, vi a3] H (fun rv H' => rv = (.bool r) ∧ Sat Z V H' [pts o1 (.rw 0 [vi a0.g.Terms, vi a0.g.Nons, vi a0.g.Start, v1, v2, v3]), It.sl (Sh.sl (Sh.ik .u32)) v3 a0.of_]) := by
 unfold P.mean_ends_is at e
 refine f_mk nd.own ?_
 refine c_sr ?_
 refine o_box hs rfl rfl fun b1 H1 s1 => ?_
 refine o_mv (v := (.bool false)) rfl ?_
 refine c_nil (c_sq ?_)
 refine d_start s1 fun n1 H2 s2 q1 d1 => ?_
 refine d_mv (v := (pV o1 0)) rfl ?_
 refine d_ldB (q1 _ _ (ph_some.2 ⟨s2.curB 0 rfl, by simp⟩)) 0 s2 rfl rfl rfl rfl ?_
 refine d_mv (v := (vi a2)) rfl ?_
 obtain ⟨x1, q2, e⟩ := oB e
 refine d_shl rfl rfl q2 ?_
 obtain ⟨x2, q3, e⟩ := oB e
 obtain ⟨d2, rfl⟩ := (hp1).val
 obtain ⟨d3, rfl⟩ := (hp2).val
 obtain ⟨d4, rfl⟩ := ((s2.curS (s := (Sh.sl (Sh.ik .u32))) 2 rfl)).val
 obtain ⟨Z1, V1, W1, g1, u1, c1, c2, -, c4, c3⟩ := Sat.call (l1 := [pts o1 (.rw 0 [vi a0.g.Terms, vi a0.g.Nons, vi a0.g.Start, (vS d2 a0.g.Rules), (vS d3 a0.w), (vS d4 a0.of_)]), It.sl (Sh.sl (Sh.ik .u32)) (vS d4 a0.of_) a0.of_]) (l2 := [pts b1 (.rw 0 [(.bool a1.Term), vi a1.N])]) (s2.pick [1, 2, 0] rfl)
 refine d_call (mc rfl (mc rfl (mc rfl m0))) (X.mean_ends_after nd.mean_ends_after (a0 := a0) c1 (hp1.mono (g1.v.trans u1)) (hp2.mono (g1.v.trans u1)) q3) fun _ H3 i1 k1 => ?_
 have d5 := d1.keep k1
 obtain ⟨rfl, s3⟩ := i1
 have s4 := c3 _ _ s3
 refine d_mv (v := (vi a3)) rfl ?_
 obtain ⟨x3, q4, e⟩ := oB e
 refine d_shr rfl rfl q4 ?_
 refine d_and rfl rfl ?_
 refine d_eql rfl rfl ?_
 refine d_mv (v := (.bool (decide ((Pu.band .u32 x3 1) = 1)))) rfl ?_
 refine d_nil dc_nil ?_
 refine c_gen (P := fun tm => tm 8 = (.bool (decide ((Pu.band .u32 x3 1) = 1))) ∧ True) ⟨rfl, trivial⟩ ?_
 intro _ i2
 obtain ⟨h1, -⟩ := i2
 refine c_rt ?_
 obtain rfl := oJ e
 exact ⟨.inr rfl, _, (ar1 h1), rfl, ((s4.pick [0, 1] rfl).weak g1 hs.zv)⟩
/-! mean_Accepts -/
structure Nd.mean_Accepts (T : FuncId → Option AFunc) : Prop where
  own : Has T I.mean_Accepts F.mean_Accepts
  mean_check : Nd.mean_check T
  mean_derived : Nd.mean_derived T
  mean_ends_is : Nd.mean_ends_is T
set_option maxHeartbeats 1000000 in
theorem X.mean_Accepts {T : FuncId → Option AFunc} (nd : Nd.mean_Accepts T) {φ : Nat} {Z V : PH} {H : Hp} {v1 : Value} {v2 : Value} {a0 : Ty.api_Grammar} {a1 : (List Int)} (hs : Sat Z V H []) (hp1 : RdS Sh.api_Rule V v1 a0.Rules) (hp2 : RdS Sh.int V v2 a1) {r : (Bool × Int)} (e : P.mean_Accepts φ a0 a1 = some r) :
    G T I.mean_Accepts [(.agg #[vi a0.Terms, vi a0.Nons, vi a0.Start, v1]), v2] H (fun rv H' => rv = (.tuple #[(.bool r.1), vi r.2]) ∧ Sat Z V H' []) := by
 unfold P.mean_Accepts at e
 refine f_mk nd.own ?_
 refine c_sr ?_
 obtain ⟨d1, rfl⟩ := (hp1).val
 refine o_box hs rfl rfl fun b1 H1 s1 => ?_
 refine o_mv (v := (.bool false)) rfl ?_
 refine o_mv (v := (vi 0)) rfl ?_
 refine c_nil (c_sq (c_sr (o_ldB 0 s1 rfl rfl rfl rfl ?_)))
 refine o_mv (v := v2) rfl ?_
 obtain ⟨x1, q1, e⟩ := oB e
 obtain ⟨Z1, V1, W1, g1, u1, c1, c2, -, c4, c3⟩ := Sat.call (l1 := []) s1
 refine o_call (mc rfl (mc rfl m0)) (X.mean_check nd.mean_check c1 (hp1.mono (g1.v.trans u1)) (hp2.mono (g1.v.trans u1)) q1) fun _ H2 i1 => ?_
 obtain ⟨rfl, s2⟩ := i1
 have s3 := c3 _ _ s2
 refine o_mv (v := (vi x1)) rfl ?_
 refine c_nil (c_sr ?_)
 refine o_mv (v := (vi x1)) rfl ?_
 refine o_neq rfl rfl (c_nil ?_)
 refine c_ifd rfl (fun q2 => ?_) (fun q2 => ?_)
 ·replace e := if_t q2 e
  refine c_sr ?_
  refine o_mv (v := (vi x1)) rfl ?_
  refine o_mv (v := (.bool false)) rfl ?_
  refine o_mv (v := (vi x1)) rfl ?_
  refine c_nil ?_
  refine c_gen (P := fun tm => tm 4 = (.bool false) ∧ tm 5 = (vi x1) ∧ True) ⟨rfl, rfl, trivial⟩ ?_
  intro _ i2
  obtain ⟨h1, h2, -⟩ := i2
  refine c_rt ?_
  obtain rfl := oJ e
  exact ⟨.inr rfl, _, (ar2 h1 h2), rfl, ((s3.pick [] rfl).weak g1 hs.zv)⟩
 replace e := if_f q2 e
 refine c_sk (c_sq ?_)
 refine c_gen (P := fun tm => tm 1 = v2 ∧ tm 2 = (pV b1 0) ∧ True) ⟨rfl, rfl, trivial⟩ ?_
 intro _ i3
 obtain ⟨h3, h4, -⟩ := i3
 refine d_start s3 fun n1 H3 s4 q3 d2 => ?_
 refine d_ldB (q3 _ _ (ph_some.2 ⟨s4.curB 0 rfl, by simp⟩)) 0 s4 rfl h4 rfl rfl ?_
 refine d_mv h3 ?_
 obtain ⟨x2, q4, e⟩ := oB e
 obtain ⟨Z2, V2, W2, g2, u2, c5, c6, -, c8, c7⟩ := Sat.call (l1 := []) s4
 refine d_call (mc rfl (mc rfl m0)) (X.mean_derived nd.mean_derived c5 (hp1.mono ((g1.trans g2).v.trans u2)) (hp2.mono ((g1.trans g2).v.trans u2)) q4) fun _ H4 i4 k1 => ?_
 have d3 := d2.keep k1
 obtain ⟨b2, w1, rfl, s5⟩ := i4
 have s6 := c7 _ _ s5
 refine d_fad h4 ?_
 refine d_ldB (q3 _ _ (ph_some.2 ⟨s4.curB 0 rfl, by simp⟩)) 2 s6 rfl rfl rfl rfl ?_
 refine d_bld (qs := [(1, 1, (vi a0.Start))]) rfl rfl ?_
 refine d_mv h3 ?_
 refine d_len rfl ((hp2.mono (g1.trans g2).v)).len ?_
 obtain ⟨x3, q5, e⟩ := oB e
 obtain ⟨d4, rfl⟩ := ((hp2.mono (g1.trans g2).v)).val
 obtain ⟨d5, rfl⟩ := ((s6.curS (s := (Sh.sl (Sh.ik .u32))) 1 rfl)).val
 obtain ⟨Z3, V3, W3, g3, u3, c9, c10, -, c12, c11⟩ := Sat.call (l1 := [pts b2 (.rw 0 [vi x2.g.Terms, vi x2.g.Nons, vi x2.g.Start, (vS d1 a0.Rules), (vS d4 a1), (vS d5 x2.of_)]), It.sl (Sh.sl (Sh.ik .u32)) (vS d5 x2.of_) x2.of_]) (l2 := [pts b1 (.rw 0 [vi a0.Terms, vi a0.Nons, vi a0.Start, (vS d1 a0.Rules)])]) s6
 refine d_call (mc rfl (mc rfl (mc rfl (mc rfl m0)))) (X.mean_ends_is nd.mean_ends_is (a0 := (Ty.mean_ends.mk (Ty.api_Grammar.mk x2.g.Terms x2.g.Nons x2.g.Start a0.Rules) a1 x2.of_)) (a1 := (Ty.api_Sym.mk false a0.Start)) c9 (hp1.mono (((g1.trans g2).trans g3).v.trans u3)) (hp2.mono (((g1.trans g2).trans g3).v.trans u3)) q5) fun _ H5 i5 k2 => ?_
 have d6 := d3.keep k2
 obtain ⟨rfl, s7⟩ := i5
 have s8 := c11 _ _ s7
 refine d_mv (v := (.bool x3)) rfl ?_
 refine d_mv (v := (vi 0)) rfl ?_
 refine d_nil (dc_mk rfl (ta4 (ta2 (tra (tre (tl4 tr0))))) (ta8 (tra (tre (tl2 tr0)))) (ta8 (tre (tl2 (trl tr0)))) (ag_ldx (w := (vi a0.Start)) w_0 rfl (ldB_v 2 s6 rfl rfl rfl) (ldB_v 0 s4 rfl rfl rfl) (by simp [vsame, vsame1])) (ag_ldx (w := (vi a0.Start)) w_0 rfl (ldB_v 2 s6 rfl rfl rfl) (ldB_v 2 s6 rfl rfl rfl) (by simp [vsame, vsame1])) dc_nil) ?_
 refine c_gen (P := fun tm => tm 4 = (.bool x3) ∧ tm 5 = (vi 0) ∧ True) ⟨rfl, rfl, trivial⟩ ?_
 intro _ i6
 obtain ⟨h5, h6, -⟩ := i6
 refine c_rt ?_
 obtain rfl := oJ e
 exact ⟨.inr rfl, _, (ar2 h5 h6), rfl, ((s8.pick [] rfl).weak (g1.trans (g2.trans g3)) hs.zv)⟩
/-! parlkeep5_GuessAgrees -/
structure Nd.parlkeep5_GuessAgrees (T : FuncId → Option AFunc) : Prop where
  own : Has T I.parlkeep5_GuessAgrees F.parlkeep5_GuessAgrees
  parlmake_Dfa : Nd.parlmake_Dfa T
  guess_Of : Nd.guess_Of T
  parlkeep5_fewer : Nd.parlkeep5_fewer T
  parlkeep5_below : Nd.parlkeep5_below T
  mean_Accepts : Nd.mean_Accepts T
set_option maxHeartbeats 1000000 in
theorem X.parlkeep5_GuessAgrees {T : FuncId → Option AFunc} (nd : Nd.parlkeep5_GuessAgrees T) {φ : Nat} {Z V : PH} {H : Hp} {v1 : Value} {v2 : Value} {a0 : (List Int)} {a1 : (List Int)} {a2 : Int} (hs : Sat Z V H []) (hp1 : RdS Sh.int Z v1 a0) (hp2 : RdS Sh.int Z v2 a1) {r : Bool} (e : P.parlkeep5_GuessAgrees φ a0 a1 a2 = some r) :
    G T I.parlkeep5_GuessAgrees [v1, v2, vi a2] H (fun rv H' => rv = (.bool r) ∧ Sat Z V H' []) := by
 unfold P.parlkeep5_GuessAgrees at e
 refine f_mk nd.own ?_
 refine c_sr ?_
 refine o_mv (v := (.bool false)) rfl ?_
 refine c_nil (c_sr ?_)
 refine o_mv (v := v1) rfl ?_
 obtain ⟨x1, q1, e⟩ := oB e
 obtain ⟨Z1, V1, W1, g1, u1, c1, c2, -, c4, c3⟩ := Sat.call (l1 := []) hs
 refine o_call (mc rfl m0) (X.parlmake_Dfa nd.parlmake_Dfa c1 (hp1.mono g1.z) q1) fun _ H1 i1 => ?_
 obtain ⟨w1, w2, rfl, s1⟩ := i1
 have s2 := c3 _ _ s1
 refine o_new s2 fun b1 H2 s3 => ?_
 obtain ⟨d1, rfl⟩ := ((s3.curS (s := Sh.int) 1 rfl)).val
 obtain ⟨d2, rfl⟩ := ((s3.curS (s := sI1) 2 rfl)).val
 refine o_stB (us' := [vi x1.Start, (vS d1 x1.Accept), (vS d2 x1.Next)]) 0 s3 rfl rfl rfl rfl rfl rfl rfl fun H3 s4 => ?_
 refine c_nil (c_sq (c_sr ?_))
 refine o_bsl (s := Sh.int) (us := [vi 0]) (qs := [(0, 1, (vi 0))]) (xs := [0]) s4 Sh.flat_lt rfl rfl rfl (Els.cons (c := [vi 0]) rfl Els.nil) rfl rfl fun w3 H4 s5 => ?_
 refine o_bslH s5 rfl fun w4 H5 s6 => ?_
 refine o_bsl (s := Sh.int) (us := []) (qs := []) (xs := []) s6 Sh.flat_lt rfl rfl rfl Els.nil rfl rfl fun w5 H6 s7 => ?_
 refine o_bslH s7 rfl fun w6 H7 s8 => ?_
 obtain ⟨Z2, V2, g2, s9, h1⟩ := s8.frzS 1 rfl
 obtain ⟨Z3, V3, g3, s10, h2⟩ := s9.frzS 0 rfl
 obtain ⟨x2, q2, e⟩ := oB e
 obtain ⟨Z4, V4, W2, g4, u2, c5, c6, -, c8, c7⟩ := Sat.call (l1 := []) s10
 refine o_call (mc rfl (mc rfl (mc rfl (mc rfl m0)))) (X.guess_Of nd.guess_Of c5 (h1.mono (g3.trans g4).z) (h2.mono g4.z) q2) fun _ H8 i2 => ?_
 obtain ⟨w7, rfl, s11⟩ := i2
 have s12 := c7 _ _ s11
 refine o_mv (v := (.tuple #[(.agg #[vi x2.1.Terms, vi x2.1.Nons, vi x2.1.Start, w7]), vi x2.2])) rfl ?_
 refine o_ext rfl rfl (o_ext rfl rfl ?_)
 refine o_new s12 fun b2 H9 s13 => ?_
 obtain ⟨d3, rfl⟩ := ((s13.curS (s := (Sh.ro Sh.api_Rule)) 1 rfl)).val
 refine o_stB (us' := [vi x2.1.Terms, vi x2.1.Nons, vi x2.1.Start, (vS d3 x2.1.Rules)]) 0 s13 rfl rfl rfl rfl rfl rfl rfl fun H10 s14 => ?_
 refine o_mv (v := (vi x2.2)) rfl ?_
 refine c_nil ?_
 refine c_gen (P := fun tm => tm 1 = v2 ∧ tm 2 = (vi a2) ∧ tm 7 = (pV b1 0) ∧ tm 8 = (pV b2 0) ∧ tm 9 = (vi x2.2) ∧ True) ⟨rfl, rfl, rfl, rfl, rfl, trivial⟩ ?_
 intro _ i3
 obtain ⟨h3, h4, h5, h6, h7, -⟩ := i3
 refine c_sr (o_mv h7 (o_neq rfl rfl ?_))
 refine o_mv (v := (.bool (decide (x2.2 ≠ 0)))) rfl ?_
 refine o_jn 5 (I := fun tm H => tm 40 = .bool ((decide (x2.2 ≠ 0)) || (decide ((x2.1.Rules.length : Int) ≠ 1))) ∧ (∃ (Z5 V5 : PH), Gw Z4 V4 Z5 V5 ∧ Sat Z5 V5 H [pts b1 (.rw 0 [vi x1.Start, (vS d1 x1.Accept), (vS d2 x1.Next)]), Is Sh.int d1 x1.Accept, Is sI1 d2 x1.Next] ∧ tm 1 = v2 ∧ tm 2 = (vi a2) ∧ tm 7 = (pV b1 0))) (fun k1 => ?_) ?_
 ·rcases Bool.eq_false_or_eq_true (decide (x2.2 ≠ 0)) with q3 | q3
  ·refine o_gn rfl q3 (o_gn rfl q3 (o_gn rfl q3 (o_gn rfl q3 ?_)))
   refine o_pickt (a := (.bool true)) rfl q3 rfl ?_
   exact k1 _ _ ⟨gf rfl (by first | (rw [q3]; first | done | rfl) | simp [q3]), _, _, Gw.refl _ _, (s14.pick [2, 3, 4] rfl), h3, h4, h5⟩
  refine o_gy rfl q3 (o_fad h6 (o_gy rfl q3 (o_ldB 0 s14 rfl rfl rfl rfl (o_gy rfl q3 ?_))))
  refine o_len rfl ((s14.curS (s := (Sh.ro Sh.api_Rule)) 1 rfl)).len ?_
  refine o_gy rfl q3 (o_neq rfl rfl ?_)
  refine o_pickf (b := (.bool (decide ((x2.1.Rules.length : Int) ≠ 1)))) rfl q3 rfl ?_
  exact k1 _ _ ⟨gf rfl (by first | (rw [q3]; first | done | rfl) | simp [q3]), _, _, Gw.refl _ _, (s14.pick [2, 3, 4] rfl), h3, h4, h5⟩
 intro _ H11 i4
 obtain ⟨h11, Z5, V5, g5, s15, h8, h9, h10⟩ := i4
 refine c_nil ?_
 refine c_if h11 (fun q4 => ?_) (fun q4 => ?_)
 ·replace e := if_t q4 e
  refine c_sr ?_
  refine o_mv (v := (.bool false)) rfl ?_
  refine c_nil (c_rt ?_)
  obtain rfl := oJ e
  exact ⟨.inr rfl, _, (ar1 rfl), rfl, ((s15.pick [] rfl).weak (g1.trans (g2.trans (g3.trans (g4.trans g5)))) hs.zv)⟩
 replace e := ib_f q4 e
 refine c_sk (c_sr (o_fad h10 (o_ldB 0 s15 rfl rfl rfl rfl ?_)))
 obtain ⟨x3, q5, e⟩ := oB e
 refine o_idx (v := (vS d2 x1.Next)) rfl rfl (s15.curS (s := sI1) 2 rfl) rfl q5 fun p1 q6 => ?_
 refine o_ldsv rfl (s15.curS (s := sI1) 2 rfl) pR q6 q5 fun w8 h12 h13 => ?_
 refine o_len rfl (h12).len (o_min rfl rfl ?_)
 refine o_mv (v := (vi (Pu.imin 2 (x3.length : Int)))) rfl ?_
 refine c_nil (c_sr (o_ldB 0 s15 rfl h10 rfl rfl ?_))
 refine o_mv (v := (vi (Pu.imin 2 (x3.length : Int)))) rfl ?_
 refine o_mv h8 ?_
 obtain ⟨x4, q7, e⟩ := oB e
 obtain ⟨Z6, V6, W3, g6, u3, c9, c10, -, c12, c11⟩ := Sat.call (l1 := []) s15
 refine o_call (mc rfl (mc rfl (mc rfl m0))) (X.parlkeep5_fewer nd.parlkeep5_fewer c9 (c10 1 _ Sh.int _ _ rfl) (c10 2 _ sI1 _ _ rfl) (hp2.mono (((g1.trans (g2.trans (g3.trans (g4.trans g5)))).trans g6).z.trans c9.zv)) q7) fun _ H12 i5 => ?_
 obtain ⟨w9, w10, rfl, s16⟩ := i5
 have s17 := c11 _ _ s16
 refine o_mv (v := (.tuple #[w9, w10])) rfl ?_
 refine o_ext rfl rfl (o_ext rfl rfl ?_)
 refine o_mv (v := w9) rfl ?_
 refine o_mv (v := w10) rfl ?_
 refine c_nil ?_
 refine c_gen (P := fun tm => tm 2 = (vi a2) ∧ tm 10 = (vi (Pu.imin 2 (x3.length : Int))) ∧ tm 11 = w9 ∧ tm 12 = w10 ∧ True) ⟨h9, rfl, rfl, rfl, trivial⟩ ?_
 intro _ i6
 obtain ⟨h14, h15, h16, h17, -⟩ := i6
 refine c_sr (o_mv h15 (o_mv h14 ?_))
 obtain ⟨x5, q8, e⟩ := oB e
 obtain ⟨Z7, V7, W4, g7, u4, c13, c14, -, c16, c15⟩ := Sat.call (l1 := []) s17
 refine o_call (mc rfl (mc rfl m0)) (X.parlkeep5_below nd.parlkeep5_below c13 q8) fun _ H13 i7 => ?_
 obtain ⟨rfl, s18⟩ := i7
 have s19 := c15 _ _ s18
 refine o_add rfl rfl (o_mv h16 (o_mv h17 ?_))
 obtain ⟨Z8, V8, g8, s20, h18⟩ := s19.frzS 0 rfl
 replace h18 := h18.of_ro
 obtain ⟨Z9, V9, g9, s21, h19⟩ := s20.frzS 0 rfl
 replace h19 := h19.of_ro
 obtain ⟨x6, q9, e⟩ := oB e
 obtain ⟨Z10, V10, W5, g10, u5, c17, c18, -, c20, c19⟩ := Sat.call (l1 := []) s21
 refine o_call (mc rfl (mc rfl (mc rfl (mc rfl m0)))) (X.guess_Of nd.guess_Of c17 (h18.mono (g9.trans g10).z) (h19.mono g10.z) q9) fun _ H14 i8 => ?_
 obtain ⟨w11, rfl, s22⟩ := i8
 have s23 := c19 _ _ s22
 refine o_mv (v := (.tuple #[(.agg #[vi x6.1.Terms, vi x6.1.Nons, vi x6.1.Start, w11]), vi x6.2])) rfl ?_
 refine o_ext rfl rfl (o_ext rfl rfl ?_)
 refine o_new s23 fun b3 H15 s24 => ?_
 obtain ⟨d4, rfl⟩ := ((s24.curS (s := (Sh.ro Sh.api_Rule)) 1 rfl)).val
 refine o_stB (us' := [vi x6.1.Terms, vi x6.1.Nons, vi x6.1.Start, (vS d4 x6.1.Rules)]) 0 s24 rfl rfl rfl rfl rfl rfl rfl fun H16 s25 => ?_
 refine o_mv (v := (vi x6.2)) rfl ?_
 refine c_nil ?_
 refine c_gen (P := fun tm => tm 11 = w9 ∧ tm 12 = w10 ∧ tm 13 = (pV b3 0) ∧ tm 14 = (vi x6.2) ∧ True) ⟨h16, h17, rfl, rfl, trivial⟩ ?_
 intro _ i9
 obtain ⟨h20, h21, h22, h23, -⟩ := i9
 refine c_sq (c_sr (o_mv h23 (o_neq rfl rfl (c_nil ?_))))
 refine c_ifd rfl (fun q10 => ?_) (fun q10 => ?_)
 ·replace e := if_t q10 e
  refine c_sr (o_mv h23 (o_eql rfl rfl ?_))
  refine o_mv (v := (.bool (decide (x6.2 = 5)))) rfl ?_
  refine c_nil (c_rt ?_)
  obtain rfl := oJ e
  exact ⟨.inr rfl, _, (ar1 rfl), rfl, ((s25.pick [] rfl).weak (g1.trans (g2.trans (g3.trans (g4.trans (g5.trans (g6.trans (g7.trans (g8.trans (g9.trans g10))))))))) hs.zv)⟩
 replace e := if_f q10 e
 refine c_sk (c_sq (c_sr (o_mv h20 (o_len rfl ((h18.mono (g9.trans g10).z)).len ?_))))
 refine o_mv (v := (vi 0)) rfl ?_
 refine c_nil ?_
 obtain ⟨y1, q13, e⟩ := oB e
 refine c_jn (I := fun tm H => ∃ (s28 : Unit), y1 = .out s28 ∧ (∃ (Z12 V12 : PH), Gw Z10 V10 Z12 V12 ∧ Sat Z12 V12 H [pts b3 (.rw 0 [vi x6.1.Terms, vi x6.1.Nons, vi x6.1.Start, (vS d4 x6.1.Rules)]), It.sl (Sh.ro Sh.api_Rule) (vS d4 x6.1.Rules) x6.1.Rules] ∧ tm 12 = w10 ∧ tm 13 = (pV b3 0) ∧ tm 68 = w9 ∧ tm 69 = (vN x4.1))) (fun k5 => ?_) ?_
 ·refine c_bk ?_
  refine l_forL (xs := x4.1) (fun (i10 : Nat) (s26 : Unit) tm H => tm 70 = vi i10 ∧ ∃ (Z11 V11 : PH), Gw Z10 V10 Z11 V11 ∧ Sat Z11 V11 H [pts b3 (.rw 0 [vi x6.1.Terms, vi x6.1.Nons, vi x6.1.Start, (vS d4 x6.1.Rules)]), It.sl (Sh.ro Sh.api_Rule) (vS d4 x6.1.Rules) x6.1.Rules] ∧ tm 12 = w10 ∧ tm 13 = (pV b3 0) ∧ tm 68 = w9 ∧ tm 69 = (vN x4.1)) (fun i10 x7 s26 y2 tm H18 q11 q12 j1 e1 k2 k3 k4 => ?_) (fun s26 tm H17 jf jd => ?_) q13 ⟨rfl, _, _, Gw.refl _ _, (s25.pick [0, 1] rfl), h21, h22, rfl, rfl⟩
  ·obtain ⟨hti0, Z11, V11, g11, s27, h24, h25, h26, h27⟩ := j1
   unfold P.parlkeep5_GuessAgrees.b0 at e1
   refine c_sr (o_lss hti0 h27 (c_nil (c_sq ?_)))
   refine c_ift rfl (Int.ofNat_lt.2 q12) ?_
   refine c_sk (c_sq (c_bk (c_sr ?_)))
   refine o_idx (v := w9) h26 hti0 (h18.mono (g9.trans (g10.trans g11)).z) rfl (Pu.ix_nat.trans q11) fun p2 q14 => ?_
   refine o_lds rfl (h18.mono (g9.trans (g10.trans g11)).z) s27.z q14 (Pu.ix_nat.trans q11) fun w12 h32 => ?_
   refine o_mv (v := w12) rfl ?_
   refine c_nil (c_sr (o_ldB 0 s27 rfl h25 rfl rfl ?_))
   refine o_mv (v := w12) rfl ?_
   obtain ⟨x8, q15, e1⟩ := oB e1
   obtain ⟨Z13, V13, W6, g13, u6, c21, c22, -, c24, c23⟩ := Sat.call (l1 := []) s27
   refine o_call (mc rfl (mc rfl m0)) (X.mean_Accepts nd.mean_Accepts c21 (c22 1 _ (Sh.ro Sh.api_Rule) _ _ rfl) (h32.mono (g13.z.trans c21.zv)) q15) fun _ H20 i11 => ?_
   obtain ⟨rfl, s30⟩ := i11
   have s31 := c23 _ _ s30
   refine o_mv (v := (.tuple #[(.bool x8.1), vi x8.2])) rfl ?_
   refine o_ext rfl rfl (o_ext rfl rfl ?_)
   refine o_mv (v := (.bool x8.1)) rfl ?_
   refine o_mv (v := (vi x8.2)) rfl ?_
   refine c_nil ?_
   refine c_gen (P := fun tm => tm 12 = w10 ∧ tm 13 = (pV b3 0) ∧ tm 17 = (.bool x8.1) ∧ tm 18 = (vi x8.2) ∧ tm 68 = w9 ∧ tm 69 = (vN x4.1) ∧ tm 70 = (vJ i10) ∧ True) ⟨h24, h25, rfl, rfl, h26, h27, hti0, trivial⟩ ?_
   intro _ i12
   obtain ⟨h33, h34, h35, h36, h37, h38, h39, -⟩ := i12
   refine c_sr (o_mv h36 (o_neq rfl rfl ?_))
   refine o_mv (v := (.bool (decide (x8.2 ≠ 0)))) rfl ?_
   refine o_jn 3 (I := fun tm H => tm 85 = .bool ((decide (x8.2 ≠ 0)) || (!x8.1)) ∧ (∃ (Z14 V14 : PH), Gw Z13 V13 Z14 V14 ∧ Sat Z14 V14 H [pts b3 (.rw 0 [vi x6.1.Terms, vi x6.1.Nons, vi x6.1.Start, (vS d4 x6.1.Rules)]), It.sl (Sh.ro Sh.api_Rule) (vS d4 x6.1.Rules) x6.1.Rules] ∧ tm 12 = w10 ∧ tm 13 = (pV b3 0) ∧ tm 68 = w9 ∧ tm 69 = (vN x4.1) ∧ tm 70 = (vJ i10))) (fun k6 => ?_) ?_
   ·rcases Bool.eq_false_or_eq_true (decide (x8.2 ≠ 0)) with q16 | q16
    ·refine o_gn rfl q16 (o_gn rfl q16 ?_)
     refine o_pickt (a := (.bool true)) rfl q16 rfl ?_
     exact k6 _ _ ⟨gf rfl (by first | (rw [q16]; first | done | rfl) | simp [q16]), _, _, Gw.refl _ _, s31, h33, h34, h37, h38, h39⟩
    refine o_gy rfl q16 (o_mv h35 (o_gy rfl q16 (o_not rfl ?_)))
    refine o_pickf (b := (.bool (!x8.1))) rfl q16 rfl ?_
    exact k6 _ _ ⟨gf rfl (by first | (rw [q16]; first | done | rfl) | simp [q16]), _, _, Gw.refl _ _, s31, h33, h34, h37, h38, h39⟩
   intro _ H21 i13
   obtain ⟨h45, Z14, V14, g14, s32, h40, h41, h42, h43, h44⟩ := i13
   refine c_nil ?_
   refine c_if h45 (fun q17 => ?_) (fun q17 => ?_)
   ·replace e1 := if_t q17 e1
    refine c_sr ?_
    refine o_mv (v := (.bool false)) rfl ?_
    refine c_nil (c_rt ?_)
    have e2 := fin_r (k4 _ (sJ e1)) e
    obtain rfl := oJ e2
    exact ⟨.inr rfl, _, (ar1 rfl), rfl, ((s32.pick [] rfl).weak (g1.trans (g2.trans (g3.trans (g4.trans (g5.trans (g6.trans (g7.trans (g8.trans (g9.trans (g10.trans (g11.trans (g13.trans g14)))))))))))) hs.zv)⟩
   replace e1 := ib_f q17 e1
   refine c_sk (c_end (c_r (o_add h44 rfl ?_)))
   refine o_mv (v := (vi (Pu.W ((i10 : Int) + 1)))) rfl ?_
   refine c_nil ?_
   exact k2 _ _ _ (sJ e1) ⟨(iv rfl (w_suc q12 ((h18.mono (g9.trans g10).z)).bd)), _, _, (g11.trans (g13.trans g14)), s32, h40, h41, h42, h43⟩
  ·obtain ⟨hte0, Z15, V15, g15, s33, h46, h47, h48, h49⟩ := jd
   refine c_sr (o_lss hte0 h49 (c_nil (c_sq ?_)))
   refine c_iff rfl (Int.lt_irrefl _) ?_
   refine c_ex ?_
   refine e_c ?_
   refine e_c ?_
   refine e_h ?_
   exact k5 _ _ ⟨_, jf, _, _, g15, s33, h46, h47, h48, h49⟩
 intro _ H19 i14
 obtain ⟨s28, f1, Z12, V12, g12, s29, h28, h29, h30, h31⟩ := i14
 replace e := fin_o f1 e
 refine c_sq (c_sr (o_mv h28 (o_len rfl ((h19.mono (g10.trans g12).z)).len ?_)))
 refine o_mv (v := (vi 0)) rfl ?_
 refine c_nil ?_
 obtain ⟨y3, q20, e⟩ := oB e
 refine c_jn (I := fun tm H => ∃ (s36 : Unit), y3 = .out s36 ∧ (∃ (Z17 V17 : PH), Gw Z12 V12 Z17 V17 ∧ Sat Z17 V17 H [pts b3 (.rw 0 [vi x6.1.Terms, vi x6.1.Nons, vi x6.1.Start, (vS d4 x6.1.Rules)]), It.sl (Sh.ro Sh.api_Rule) (vS d4 x6.1.Rules) x6.1.Rules] ∧ tm 13 = (pV b3 0) ∧ tm 87 = w10 ∧ tm 88 = (vN x4.2))) (fun k10 => ?_) ?_
 ·refine c_bk ?_
  refine l_forL (xs := x4.2) (fun (i15 : Nat) (s34 : Unit) tm H => tm 89 = vi i15 ∧ ∃ (Z16 V16 : PH), Gw Z12 V12 Z16 V16 ∧ Sat Z16 V16 H [pts b3 (.rw 0 [vi x6.1.Terms, vi x6.1.Nons, vi x6.1.Start, (vS d4 x6.1.Rules)]), It.sl (Sh.ro Sh.api_Rule) (vS d4 x6.1.Rules) x6.1.Rules] ∧ tm 13 = (pV b3 0) ∧ tm 87 = w10 ∧ tm 88 = (vN x4.2)) (fun i15 x9 s34 y4 tm H24 q18 q19 j2 e3 k7 k8 k9 => ?_) (fun s34 tm H23 jf jd => ?_) q20 ⟨rfl, _, _, Gw.refl _ _, s29, h29, rfl, rfl⟩
  ·obtain ⟨hti1, Z16, V16, g16, s35, h50, h51, h52⟩ := j2
   unfold P.parlkeep5_GuessAgrees.b1 at e3
   refine c_sr (o_lss hti1 h52 (c_nil (c_sq ?_)))
   refine c_ift rfl (Int.ofNat_lt.2 q19) ?_
   refine c_sk (c_sq (c_bk (c_sr ?_)))
   refine o_idx (v := w10) h51 hti1 (h19.mono (g10.trans (g12.trans g16)).z) rfl (Pu.ix_nat.trans q18) fun p3 q21 => ?_
   refine o_lds rfl (h19.mono (g10.trans (g12.trans g16)).z) s35.z q21 (Pu.ix_nat.trans q18) fun w13 h56 => ?_
   refine o_mv (v := w13) rfl ?_
   refine c_nil (c_sr (o_ldB 0 s35 rfl h50 rfl rfl ?_))
   refine o_mv (v := w13) rfl ?_
   obtain ⟨x10, q22, e3⟩ := oB e3
   obtain ⟨Z18, V18, W7, g18, u7, c25, c26, -, c28, c27⟩ := Sat.call (l1 := []) s35
   refine o_call (mc rfl (mc rfl m0)) (X.mean_Accepts nd.mean_Accepts c25 (c26 1 _ (Sh.ro Sh.api_Rule) _ _ rfl) (h56.mono (g18.z.trans c25.zv)) q22) fun _ H26 i16 => ?_
   obtain ⟨rfl, s38⟩ := i16
   have s39 := c27 _ _ s38
   refine o_mv (v := (.tuple #[(.bool x10.1), vi x10.2])) rfl ?_
   refine o_ext rfl rfl (o_ext rfl rfl ?_)
   refine o_mv (v := (.bool x10.1)) rfl ?_
   refine o_mv (v := (vi x10.2)) rfl ?_
   refine c_nil ?_
   refine c_gen (P := fun tm => tm 13 = (pV b3 0) ∧ tm 21 = (.bool x10.1) ∧ tm 22 = (vi x10.2) ∧ tm 87 = w10 ∧ tm 88 = (vN x4.2) ∧ tm 89 = (vJ i15) ∧ True) ⟨h50, rfl, rfl, h51, h52, hti1, trivial⟩ ?_
   intro _ i17
   obtain ⟨h57, h58, h59, h60, h61, h62, -⟩ := i17
   refine c_sr (o_mv h59 (o_neq rfl rfl ?_))
   refine o_mv (v := (.bool (decide (x10.2 ≠ 0)))) rfl ?_
   refine o_jn 2 (I := fun tm H => tm 103 = .bool ((decide (x10.2 ≠ 0)) || x10.1) ∧ (∃ (Z19 V19 : PH), Gw Z18 V18 Z19 V19 ∧ Sat Z19 V19 H [pts b3 (.rw 0 [vi x6.1.Terms, vi x6.1.Nons, vi x6.1.Start, (vS d4 x6.1.Rules)]), It.sl (Sh.ro Sh.api_Rule) (vS d4 x6.1.Rules) x6.1.Rules] ∧ tm 13 = (pV b3 0) ∧ tm 87 = w10 ∧ tm 88 = (vN x4.2) ∧ tm 89 = (vJ i15))) (fun k11 => ?_) ?_
   ·rcases Bool.eq_false_or_eq_true (decide (x10.2 ≠ 0)) with q23 | q23
    ·refine o_gn rfl q23 ?_
     refine o_pickt (a := (.bool true)) rfl q23 rfl ?_
     exact k11 _ _ ⟨gf rfl (by first | (rw [q23]; first | done | rfl) | simp [q23]), _, _, Gw.refl _ _, s39, h57, h60, h61, h62⟩
    refine o_gy rfl q23 (o_mv h58 ?_)
    refine o_pickf (b := (.bool x10.1)) rfl q23 rfl ?_
    exact k11 _ _ ⟨gf rfl (by first | (rw [q23]; first | done | rfl) | simp [q23]), _, _, Gw.refl _ _, s39, h57, h60, h61, h62⟩
   intro _ H27 i18
   obtain ⟨h67, Z19, V19, g19, s40, h63, h64, h65, h66⟩ := i18
   refine c_nil ?_
   refine c_if h67 (fun q24 => ?_) (fun q24 => ?_)
   ·replace e3 := if_t q24 e3
    refine c_sr ?_
    refine o_mv (v := (.bool false)) rfl ?_
    refine c_nil (c_rt ?_)
    have e4 := fin_r (k9 _ (sJ e3)) e
    obtain rfl := oJ e4
    exact ⟨.inr rfl, _, (ar1 rfl), rfl, ((s40.pick [] rfl).weak (g1.trans (g2.trans (g3.trans (g4.trans (g5.trans (g6.trans (g7.trans (g8.trans (g9.trans (g10.trans (g12.trans (g16.trans (g18.trans g19))))))))))))) hs.zv)⟩
   replace e3 := ib_f q24 e3
   refine c_sk (c_end (c_r (o_add h66 rfl ?_)))
   refine o_mv (v := (vi (Pu.W ((i15 : Int) + 1)))) rfl ?_
   refine c_nil ?_
   exact k7 _ _ _ (sJ e3) ⟨(iv rfl (w_suc q19 ((h19.mono (g10.trans g12).z)).bd)), _, _, (g16.trans (g18.trans g19)), s40, h63, h64, h65⟩
  ·obtain ⟨hte1, Z20, V20, g20, s41, h68, h69, h70⟩ := jd
   refine c_sr (o_lss hte1 h70 (c_nil (c_sq ?_)))
   refine c_iff rfl (Int.lt_irrefl _) ?_
   refine c_ex ?_
   refine e_c ?_
   refine e_c ?_
   refine e_h ?_
   exact k10 _ _ ⟨_, jf, _, _, g20, s41, h68, h69, h70⟩
 intro _ H25 i19
 obtain ⟨s36, f2, Z17, V17, g17, s37, h53, h54, h55⟩ := i19
 replace e := fin_o f2 e
 refine c_sr (o_fad h53 (o_ldB 0 s37 rfl rfl rfl rfl ?_))
 refine o_len rfl ((s37.curS (s := (Sh.ro Sh.api_Rule)) 1 rfl)).len ?_
 refine o_leq rfl rfl ?_
 refine o_mv (v := (.bool (decide ((x6.1.Rules.length : Int) ≤ 3)))) rfl ?_
 refine c_nil (c_rt ?_)
 obtain rfl := oJ e
 exact ⟨.inr rfl, _, (ar1 rfl), rfl, ((s37.pick [] rfl).weak (g1.trans (g2.trans (g3.trans (g4.trans (g5.trans (g6.trans (g7.trans (g8.trans (g9.trans (g10.trans (g12.trans g17))))))))))) hs.zv)⟩
end Go.Proofs.Ytcdhhelgoppleaa
