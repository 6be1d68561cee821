/- The abstract code comes to the plain functions: printed by wip/tools/lift.py. -/
import Derived.Test.YtmlnknngpdnepaaP
import Derived.Test.YtmlnknngpdnepaaGdfa
import Derived.Test.YtmlnknngpdnepaaGmathbits
import Derived.Test.YtmlnknngpdnepaaGmini
import Derived.Test.YtmlnknngpdnepaaGparlkeep5
import Derived.Test.YtmlnknngpdnepaaGparlmake
import Derived.Test.YtmlnknngpdnepaaGslices
import Derived.Test.YtmlnknngpdnepaaGteach
namespace Go.Proofs.Ytmlnknngpdnepaa
open Go Go.Ab
/-! parlmake_Below -/
structure Nd.parlmake_Below (T : FuncId → Option AFunc) : Prop where
  own : Has T I.parlmake_Below F.parlmake_Below
set_option maxHeartbeats 1000000 in
theorem X.parlmake_Below {T : FuncId → Option AFunc} (nd : Nd.parlmake_Below T) {Z V : PH} {H : Hp} {a0 : Int} {a1 : Int} (hs : Sat Z V H []) {r : Int} (e : P.parlmake_Below a0 a1 = some r) :
    G T I.parlmake_Below [vi a0, vi a1] H (fun rv H' => rv = (vi r) ∧ Sat Z V H' []) := by
 unfold P.parlmake_Below at e
 refine f_mk nd.own ?_
 refine c_sr ?_
 refine o_mv (v := (vi 0)) rfl ?_
 refine c_nil (c_sr ?_)
 refine o_mv (v := (vi a0)) rfl ?_
 refine o_mv (v := (vi a1)) rfl ?_
 obtain ⟨x1, q1, e⟩ := oB e
 refine o_rem rfl rfl q1 ?_
 refine o_mv (v := (vi x1)) rfl ?_
 refine c_nil (c_sq (c_sr ?_))
 refine o_mv (v := (vi x1)) rfl ?_
 refine o_lss rfl rfl (c_nil ?_)
 obtain ⟨y1, e1, e⟩ := oB e
 refine c_jn (I := fun tm H => ∃ (Z1 V1 : PH), Gw Z V Z1 V1 ∧ Sat Z1 V1 H [] ∧ tm 0 = (vi y1)) (fun k1 => ?_) ?_
 ·refine c_ifd rfl (fun q2 => ?_) (fun q2 => ?_)
  ·replace e1 := if_t q2 e1
   refine c_r ?_
   refine o_mv (v := (vi x1)) rfl ?_
   refine o_mv (v := (vi a1)) rfl ?_
   refine o_add rfl rfl ?_
   refine o_mv (v := (vi (Pu.W (x1 + a1)))) rfl ?_
   refine c_nil ?_
   obtain rfl := oJ e1
   exact k1 _ _ ⟨_, _, Gw.refl _ _, hs, rfl⟩
  replace e1 := if_f q2 e1
  refine c_sk ?_
  obtain rfl := oJ e1
  exact k1 _ _ ⟨_, _, Gw.refl _ _, hs, rfl⟩
 intro _ H1 i1
 obtain ⟨Z1, V1, g1, s1, h1⟩ := i1
 refine c_sr (o_mv h1 ?_)
 refine o_mv (v := (vi y1)) rfl ?_
 refine c_nil (c_rt ?_)
 obtain rfl := oJ e
 exact ⟨.inr rfl, _, (ar1 rfl), rfl, (s1.weak g1 hs.zv)⟩
/-! parlmake_stream_next -/
structure Nd.parlmake_stream_next (T : FuncId → Option AFunc) : Prop where
  own : Has T I.parlmake_stream_next F.parlmake_stream_next
  parlmake_Below : Nd.parlmake_Below T
set_option maxHeartbeats 1000000 in
theorem X.parlmake_stream_next {T : FuncId → Option AFunc} (nd : Nd.parlmake_stream_next T) {Z V : PH} {H : Hp} {v1 : Value} {o1 : Nat} {a0 : Ty.parlmake_stream} {a1 : Int} (hs : Sat Z V H [pts o1 (.rw 0 [v1])]) (hp1 : RdS Sh.int Z v1 a0.l) {r : (Ty.parlmake_stream × Int)} (e : P.parlmake_stream_next a0 a1 = some r) :
    G T I.parlmake_stream_next [(pV o1 0), vi a1] H (fun rv H' => ∃ (u1 : Value), rv = (vi r.2) ∧ Sat Z V H' [pts o1 (.rw 0 [u1]), Sh.it (Sh.ro sI1) [u1] r.1.l]) := by
 unfold P.parlmake_stream_next at e
 refine f_mk nd.own ?_
 refine c_sr ?_
 refine o_mv (v := (vi 0)) rfl ?_
 refine c_nil (c_sq (c_sr ?_))
 refine o_mv (v := (pV o1 0)) rfl ?_
 refine o_nck rfl (o_fad rfl ?_)
 obtain ⟨d1, rfl⟩ := (hp1).val
 refine o_ldB 0 hs rfl rfl rfl rfl (o_len rfl (hp1).len (o_eql rfl rfl (c_nil ?_)))
 refine c_ifd rfl (fun q1 => ?_) (fun q1 => ?_)
 ·replace e := if_t q1 e
  refine c_sr ?_
  refine o_mv (v := (vi 0)) rfl ?_
  refine c_nil (c_rt ?_)
  obtain rfl := oJ e
  exact ⟨.inr rfl, _, (ar1 rfl), _, rfl, ((hs.push (ro_it (sl_ro hp1))).pick [1, 0] rfl)⟩
 replace e := if_f q1 e
 refine c_sk (c_sr ?_)
 refine o_mv (v := (pV o1 0)) rfl ?_
 refine o_nck rfl (o_fad rfl (o_ldB 0 hs rfl rfl rfl rfl ?_))
 obtain ⟨x1, q2, e⟩ := oB e
 refine o_idx (v := (vS d1 a0.l)) rfl rfl hp1 rfl q2 fun p1 q3 => ?_
 refine o_ldi rfl hp1 hs.z q3 q2 ?_
 refine o_mv (v := (vi x1)) rfl ?_
 refine c_nil ?_
 refine c_gen (P := fun tm => tm 0 = (pV o1 0) ∧ tm 1 = (vi a1) ∧ tm 5 = (vi x1) ∧ True) ⟨rfl, rfl, rfl, trivial⟩ ?_
 intro _ i1
 obtain ⟨h1, h2, h3, -⟩ := i1
 refine c_sr (o_mv h1 (o_mv h1 (o_nck rfl (o_fad rfl ?_))))
 refine o_ldB 0 hs rfl rfl rfl rfl ?_
 obtain ⟨x2, q4, e⟩ := oB e
 refine o_slcl rfl rfl hp1 hs.z rfl q4 fun w1 h4 => ?_
 refine o_nck rfl (o_fad rfl ?_)
 obtain ⟨d2, rfl⟩ := (h4).val
 refine o_stB (us' := [(vS d2 x2)]) 0 hs rfl rfl rfl rfl rfl rfl rfl fun H1 s1 => ?_
 refine c_nil (c_sr (o_mv h3 (o_mv h2 ?_)))
 obtain ⟨x3, q5, e⟩ := oB e
 obtain ⟨Z1, V1, W1, g1, u1, c1, c2, -, c4, c3⟩ := Sat.call (l1 := []) s1
 refine o_call (mc rfl (mc rfl m0)) (X.parlmake_Below nd.parlmake_Below c1 q5) fun _ H2 i2 => ?_
 obtain ⟨rfl, s2⟩ := i2
 have s3 := c3 _ _ s2
 refine o_mv (v := (vi x3)) rfl ?_
 refine c_nil ?_
 refine c_gen (P := fun tm => tm 4 = (vi x3) ∧ True) ⟨rfl, trivial⟩ ?_
 intro _ i3
 obtain ⟨h5, -⟩ := i3
 refine c_rt ?_
 obtain rfl := oJ e
 exact ⟨.inr rfl, _, (ar1 h5), _, rfl, (((s3.push (ro_it (sl_ro (h4.mono g1.z)))).pick [1, 0] rfl).weak g1 hs.zv)⟩
/-! parlmake_Dfa -/
structure Nd.parlmake_Dfa (T : FuncId → Option AFunc) : Prop where
  own : Has T I.parlmake_Dfa F.parlmake_Dfa
  parlmake_stream_next : Nd.parlmake_stream_next T
set_option maxHeartbeats 1000000 in
theorem X.parlmake_Dfa {T : FuncId → Option AFunc} (nd : Nd.parlmake_Dfa T) {Z V : PH} {H : Hp} {v1 : Value} {a0 : (List Int)} (hs : Sat Z V H []) (hp1 : RdS Sh.int Z v1 a0) {r : Ty.api_Dfa} (e : P.parlmake_Dfa a0 = some r) :
    G T I.parlmake_Dfa [v1] H (fun rv H' => ∃ (u1 : Value) (u2 : Value), rv = (.agg #[vi r.Start, u1, u2]) ∧ Sat Z V H' [It.sl Sh.int u1 r.Accept, It.sl sI1 u2 r.Next]) := by
 unfold P.parlmake_Dfa at e
 refine f_mk nd.own ?_
 refine c_sr ?_
 refine o_new hs fun b1 H1 s1 => ?_
 refine c_nil (c_sr ?_)
 refine o_mv (v := v1) rfl ?_
 obtain ⟨d1, rfl⟩ := (hp1).val
 refine o_bld (qs := [(0, 1, (vS d1 a0))]) rfl rfl ?_
 refine o_box s1 rfl rfl fun b2 H2 s2 => ?_
 refine o_mv (v := (pV b2 0)) rfl ?_
 refine c_nil (c_sr ?_)
 refine o_mv (v := (pV b2 0)) rfl ?_
 obtain ⟨x1, q1, e⟩ := oB e
 obtain ⟨Z1, V1, W1, g1, u1, c1, c2, -, c4, c3⟩ := Sat.call (l1 := [pts b2 (.rw 0 [(vS d1 a0)])]) (l2 := [pts b1 (.rw 0 [vi 0, (.slice none 0 0), (.slice none 0 0)])]) s2
 refine o_call (mc rfl (mc rfl m0)) (X.parlmake_stream_next nd.parlmake_stream_next (a0 := (Ty.parlmake_stream.mk a0)) c1 (hp1.mono g1.z) q1) fun _ H3 i1 => ?_
 obtain ⟨w1, rfl, s3⟩ := i1
 have s4 := c3 _ _ s3
 obtain ⟨Z2, V2, g2, s5, h1⟩ := (s4.pull 1 rfl).frzR
 refine o_add rfl rfl ?_
 refine o_mv (v := (pV b2 0)) rfl ?_
 obtain ⟨x2, q2, e⟩ := oB e
 obtain ⟨d2, rfl⟩ := (h1).val
 obtain ⟨Z3, V3, W2, g3, u2, c5, c6, -, c8, c7⟩ := Sat.call (l1 := [pts b2 (.rw 0 [(vS d2 x1.1.l)])]) (l2 := [pts b1 (.rw 0 [vi 0, (.slice none 0 0), (.slice none 0 0)])]) s5
 refine o_call (mc rfl (mc rfl m0)) (X.parlmake_stream_next nd.parlmake_stream_next (a0 := x1.1) c5 (h1.mono g3.z) q2) fun _ H4 i2 => ?_
 obtain ⟨w2, rfl, s6⟩ := i2
 have s7 := c7 _ _ s6
 obtain ⟨Z4, V4, g4, s8, h2⟩ := (s7.pull 1 rfl).frzR
 refine o_add rfl rfl ?_
 refine o_mv (v := (vi (Pu.W (1 + x1.2)))) rfl ?_
 refine o_mv (v := (vi (Pu.W (1 + x2.2)))) rfl ?_
 refine c_nil ?_
 refine c_gen (P := fun tm => tm 2 = (pV b1 0) ∧ tm 3 = (pV b2 0) ∧ tm 4 = (vi (Pu.W (1 + x1.2))) ∧ tm 5 = (vi (Pu.W (1 + x2.2))) ∧ True) ⟨rfl, rfl, rfl, rfl, trivial⟩ ?_
 intro _ i3
 obtain ⟨h3, h4, h5, h6, -⟩ := i3
 refine c_sr (o_mv h4 (o_mv h5 ?_))
 obtain ⟨x3, q3, e⟩ := oB e
 obtain ⟨d3, rfl⟩ := (h2).val
 obtain ⟨Z5, V5, W3, g5, u3, c9, c10, -, c12, c11⟩ := Sat.call (l1 := [pts b2 (.rw 0 [(vS d3 x2.1.l)])]) (l2 := [pts b1 (.rw 0 [vi 0, (.slice none 0 0), (.slice none 0 0)])]) s8
 refine o_call (mc rfl (mc rfl m0)) (X.parlmake_stream_next nd.parlmake_stream_next (a0 := x2.1) c9 (h2.mono g5.z) q3) fun _ H5 i4 => ?_
 obtain ⟨w3, rfl, s9⟩ := i4
 have s10 := c11 _ _ s9
 obtain ⟨Z6, V6, g6, s11, h7⟩ := (s10.pull 1 rfl).frzR
 refine o_bld (qs := [(0, 1, (vi x3.2))]) rfl rfl ?_
 refine o_new s11 fun b3 H6 s12 => ?_
 refine o_stB (us' := [vi x3.2, (.slice none 0 0), (.slice none 0 0)]) 0 s12 rfl rfl rfl rfl rfl rfl rfl fun H7 s13 => ?_
 refine c_nil (c_sq (c_sr (o_mv h5 ?_)))
 refine o_mv (v := (vi 0)) rfl ?_
 refine c_nil ?_
 obtain ⟨x5, q6, e⟩ := oB e
 obtain ⟨rfl, q8⟩ := ranO_some q6
 obtain ⟨y1, q9, e⟩ := oB e
 refine c_bk ?_
 refine l_forP (xs := (Pu.ran (Pu.W (1 + x1.2)))) (fun (i5 : Nat) (s14 : ((List Int) × (List Int) × (List (List Int)))) tm H => tm 22 = vi i5 ∧ ∃ (Z7 V7 : PH) (w4 : Value) (w5 : Value) (w6 : Value), Gw Z6 V6 Z7 V7 ∧ Sat Z7 V7 H [pts b1 (.rw 0 [vi 0, (.slice none 0 0), (.slice none 0 0)]), pts b2 (.rw 0 [w6]), pts b3 (.rw 0 [vi x3.2, w4, w5]), It.sl Sh.int w4 s14.2.1, It.sl sI1 w5 s14.2.2] ∧ tm 2 = (pV b1 0) ∧ tm 3 = (pV b2 0) ∧ tm 4 = (vi (Pu.W (1 + x1.2))) ∧ tm 5 = (vi (Pu.W (1 + x2.2))) ∧ tm 6 = (pV b3 0) ∧ tm 21 = (vi (Pu.W (1 + x1.2))) ∧ RdS Sh.int Z7 w6 s14.1) (fun i5 x4 s14 s16 tm H9 q4 q5 j1 e1 k1 => ?_) (fun tm H8 jd => ?_) q9 ⟨rfl, _, _, _, _, _, Gw.refl _ _, (((s13.push (sl_nil (s := Sh.int))).push (sl_nil (s := sI1))).pick [4, 3, 2, 1, 0] rfl), h3, h4, h5, h6, rfl, rfl, h7⟩
 ·obtain ⟨hti0, Z7, V7, w4, w5, w6, g7, s15, h9, h10, h11, h12, h13, h14, h8⟩ := j1
  unfold P.parlmake_Dfa.b0 at e1
  have hti0 := iv hti0 (ran_x q4).symm
  refine c_sr (o_lss hti0 h14 (c_nil (c_sq ?_)))
  refine c_ift rfl (ran_lt q4) ?_
  refine c_sk (c_sq (c_bk (c_sq ?_)))
  refine d_start s15 fun n1 H10 s17 q10 d4 => ?_
  refine d_fad h13 ?_
  obtain ⟨d5, rfl⟩ := ((s17.curS (s := Sh.int) 3 rfl)).val
  obtain ⟨d6, rfl⟩ := ((s17.curS (s := sI1) 4 rfl)).val
  refine d_ldB (q10 _ _ (ph_some.2 ⟨s17.curB 2 rfl, by simp⟩)) 2 s17 rfl rfl rfl rfl ?_
  refine d_mv h10 ?_
  obtain ⟨x6, q11, e1⟩ := oB e1
  obtain ⟨d7, rfl⟩ := (h8).val
  obtain ⟨Z8, V8, W4, g8, u4, c13, c14, -, c16, c15⟩ := Sat.call (l1 := [pts b2 (.rw 0 [(vS d7 s14.1)])]) (l2 := [pts b1 (.rw 0 [vi 0, (.slice none 0 0), (.slice none 0 0)]), pts b3 (.rw 0 [vi x3.2, (vS d5 s14.2.1), (vS d6 s14.2.2)]), Is Sh.int d5 s14.2.1, Is sI1 d6 s14.2.2]) (s17.pick [1, 0, 2, 3, 4] rfl)
  refine d_call (mc rfl (mc rfl m0)) (X.parlmake_stream_next nd.parlmake_stream_next (a0 := (Ty.parlmake_stream.mk s14.1)) c13 (h8.mono g8.z) q11) fun _ H11 i6 k2 => ?_
  have d8 := d4.keep k2
  obtain ⟨w7, rfl, s18⟩ := i6
  have s19 := c15 _ _ s18
  obtain ⟨Z9, V9, g9, s20, h15⟩ := (s19.pull 1 rfl).frzR
  refine d_sub rfl rfl ?_
  refine d_bsl (s := Sh.int) (us := [(vi (Pu.W (x6.2 - 1)))]) (qs := [(0, 1, (vi (Pu.W (x6.2 - 1))))]) (xs := [(Pu.W (x6.2 - 1))]) (d8.get 5 rfl rfl) s20 Sh.flat_lt rfl rfl rfl (Els.cons (c := [(vi (Pu.W (x6.2 - 1)))]) rfl Els.nil) rfl rfl fun w8 H12 s21 k3 => ?_
  have d9 := d8.next 5 rfl k3
  obtain ⟨x7, q12, e1⟩ := oB e1
  refine d_app 4 s21 rfl Sh.flat_lt rfl rfl rfl rfl (s21.curS (s := Sh.int) 0 rfl) pR (fun h => h) (by decide) q12 fun w9 H13 s22 k4 => ?_
  have d10 := d9.keep k4
  refine d_fad h13 ?_
  obtain ⟨d11, rfl⟩ := ((s22.curS (s := Sh.int) 4 rfl)).val
  refine d_stB (us' := [vi x3.2, (vS d11 x7), (vS d6 s14.2.2)]) 3 s22 rfl rfl rfl rfl rfl rfl rfl fun H14 s23 k5 => ?_
  have d12 := d10.keep k5
  refine d_nil (dc_mk rfl (ta8 (tre (trl tr0))) (ta4 (ta2 (tre (tl2 (trl tr0))))) (ta4 (tra (tre (tl4 tr0)))) (ag_ldx (w := (vS d5 s14.2.1)) w_0 rfl (ldB_v 2 s17 rfl rfl rfl) (ldB_v 2 s17 rfl rfl rfl) (by simp [vsame, vsame1])) (ag_ldx (w := (vS d5 s14.2.1)) w_0 rfl (ldB_v 2 s17 rfl rfl rfl) (ldB_v 2 s20 rfl rfl rfl) (by simp [vsame, vsame1])) dc_nil) ?_
  refine c_sr ?_
  refine o_mv (v := (.slice none 0 0)) rfl ?_
  refine c_nil ?_
  refine c_gen (P := fun tm => tm 2 = (pV b1 0) ∧ tm 3 = (pV b2 0) ∧ tm 4 = (vi (Pu.W (1 + x1.2))) ∧ tm 5 = (vi (Pu.W (1 + x2.2))) ∧ tm 6 = (pV b3 0) ∧ tm 7 = (.slice none 0 0) ∧ tm 21 = (vi (Pu.W (1 + x1.2))) ∧ tm 22 = (vi x4) ∧ True) ⟨h9, h10, h11, h12, h13, rfl, h14, hti0, trivial⟩ ?_
  intro _ i7
  obtain ⟨h16, h17, h18, h19, h20, h21, h22, h23, -⟩ := i7
  refine c_sq (c_sr (o_mv h19 ?_))
  refine o_mv (v := (vi 0)) rfl ?_
  refine c_nil ?_
  obtain ⟨x9, q15, e1⟩ := oB e1
  obtain ⟨rfl, q17⟩ := ranO_some q15
  obtain ⟨y2, q18, e1⟩ := oB e1
  refine c_bk ?_
  refine l_forP (xs := (Pu.ran (Pu.W (1 + x2.2)))) (fun (i8 : Nat) (s24 : ((List Int) × (List Int))) tm H => tm 33 = vi i8 ∧ ∃ (Z10 V10 : PH) (w10 : Value) (w11 : Value), Gw Z9 V9 Z10 V10 ∧ Sat Z10 V10 H [pts b1 (.rw 0 [vi 0, (.slice none 0 0), (.slice none 0 0)]), pts b2 (.rw 0 [w11]), pts b3 (.rw 0 [vi x3.2, (vS d11 x7), (vS d6 s14.2.2)]), Is Sh.int d11 x7, Is sI1 d6 s14.2.2, It.sl Sh.int w10 s24.2] ∧ tm 2 = (pV b1 0) ∧ tm 3 = (pV b2 0) ∧ tm 4 = (vi (Pu.W (1 + x1.2))) ∧ tm 5 = (vi (Pu.W (1 + x2.2))) ∧ tm 6 = (pV b3 0) ∧ tm 7 = w10 ∧ tm 21 = (vi (Pu.W (1 + x1.2))) ∧ tm 22 = (vi x4) ∧ tm 32 = (vi (Pu.W (1 + x2.2))) ∧ RdS Sh.int Z10 w11 s24.1) (fun i8 x8 s24 s26 tm H16 q13 q14 j2 e2 k6 => ?_) (fun tm H15 jd => ?_) q18 ⟨rfl, _, _, _, _, Gw.refl _ _, ((s23.push (sl_nil (s := Sh.int))).pick [3, 2, 4, 5, 6, 0] rfl), h16, h17, h18, h19, h20, h21, h22, h23, rfl, h15⟩
  ·obtain ⟨hti1, Z10, V10, w10, w11, g10, s25, h25, h26, h27, h28, h29, h30, h31, h32, h33, h24⟩ := j2
   unfold P.parlmake_Dfa.b1 at e2
   have hti1 := iv hti1 (ran_x q13).symm
   refine c_sr (o_lss hti1 h33 (c_nil (c_sq ?_)))
   refine c_ift rfl (ran_lt q13) ?_
   refine c_sk (c_sq (c_bk (c_r (o_mv h30 ?_))))
   refine o_mv h26 (o_mv h27 (o_add rfl rfl ?_))
   obtain ⟨x10, q19, e2⟩ := oB e2
   obtain ⟨d13, rfl⟩ := (h24).val
   obtain ⟨Z11, V11, W5, g11, u5, c17, c18, -, c20, c19⟩ := Sat.call (l1 := [pts b2 (.rw 0 [(vS d13 s24.1)])]) (l2 := [pts b1 (.rw 0 [vi 0, (.slice none 0 0), (.slice none 0 0)]), pts b3 (.rw 0 [vi x3.2, (vS d11 x7), (vS d6 s14.2.2)]), Is Sh.int d11 x7, Is sI1 d6 s14.2.2, It.sl Sh.int w10 s24.2]) (s25.pick [1, 0, 2, 3, 4, 5] rfl)
   refine o_call (mc rfl (mc rfl m0)) (X.parlmake_stream_next nd.parlmake_stream_next (a0 := (Ty.parlmake_stream.mk s24.1)) c17 (h24.mono g11.z) q19) fun _ H17 i9 => ?_
   obtain ⟨w12, rfl, s27⟩ := i9
   have s28 := c19 _ _ s27
   obtain ⟨Z12, V12, g12, s29, h34⟩ := (s28.pull 1 rfl).frzR
   refine o_sub rfl rfl ?_
   refine o_bsl (s := Sh.int) (us := [(vi (Pu.W (x10.2 - 1)))]) (qs := [(0, 1, (vi (Pu.W (x10.2 - 1))))]) (xs := [(Pu.W (x10.2 - 1))]) s29 Sh.flat_lt rfl rfl rfl (Els.cons (c := [(vi (Pu.W (x10.2 - 1)))]) rfl Els.nil) rfl rfl fun w13 H18 s30 => ?_
   obtain ⟨x11, q20, e2⟩ := oB e2
   refine o_app 6 s30 rfl Sh.flat_lt rfl rfl rfl rfl (s30.curS (s := Sh.int) 0 rfl) pR (fun h => h) (by decide) q20 fun w14 H19 s31 => ?_
   refine o_mv (v := w14) rfl ?_
   refine c_nil (c_end (c_r (o_add hti1 rfl ?_)))
   refine o_mv (v := (vi (Pu.W (x8 + 1)))) rfl ?_
   refine c_nil ?_
   obtain rfl := oJ e2
   exact k6 _ _ ⟨(iv rfl (w_sucR q13 q17)), _, _, _, _, (g10.trans (g11.trans g12)), (s31.pick [2, 1, 3, 4, 5, 6] rfl), h25, h26, h27, h28, h29, rfl, h31, h32, h33, h34⟩
  obtain ⟨hte1, Z13, V13, w15, w16, g13, s32, h36, h37, h38, h39, h40, h41, h42, h43, h44, h35⟩ := jd
  refine c_sr (o_lss hte1 h44 (c_nil (c_sq ?_)))
  refine c_iff rfl (ran_done _) ?_
  refine c_ex ?_
  refine e_c ?_
  refine e_c ?_
  refine e_h ?_
  refine c_r (o_fad h40 (o_ldB 2 s32 rfl rfl rfl rfl (o_mv h41 ?_)))
  have s33 := s32.pull 5 rfl
  refine o_bslH s33 rfl fun w17 H21 s34 => ?_
  obtain ⟨x12, q21, e1⟩ := oB e1
  refine o_appH 4 s34 rfl rfl rfl (by decide) q21 (List.cons_ne_nil _ _) fun w18 H22 s35 => ?_
  refine o_fad h40 ?_
  obtain ⟨d14, rfl⟩ := ((s35.curS (s := sI1) 4 rfl)).val
  refine o_stB (us' := [vi x3.2, (vS d11 x7), (vS d14 x12)]) 2 s35 rfl rfl rfl rfl rfl rfl rfl fun H23 s36 => ?_
  refine c_nil (c_end (c_r (o_add h43 rfl ?_)))
  refine o_mv (v := (vi (Pu.W (x4 + 1)))) rfl ?_
  refine c_nil ?_
  obtain rfl := oJ e1
  exact k1 _ _ ⟨(iv rfl (w_sucR q4 q8)), _, _, _, _, _, (g7.trans (g8.trans (g9.trans g13))), s36, h36, h37, h38, h39, h40, h42, h35⟩
 obtain ⟨hte0, Z14, V14, w19, w20, w21, g14, s37, h46, h47, h48, h49, h50, h51, h45⟩ := jd
 refine c_sr (o_lss hte0 h51 (c_nil (c_sq ?_)))
 refine c_iff rfl (ran_done _) ?_
 refine c_ex ?_
 refine e_c ?_
 refine e_c ?_
 refine e_h ?_
 refine c_sr ?_
 obtain ⟨d15, rfl⟩ := ((s37.curS (s := Sh.int) 3 rfl)).val
 obtain ⟨d16, rfl⟩ := ((s37.curS (s := sI1) 4 rfl)).val
 refine o_ldB 2 s37 rfl h50 rfl rfl ?_
 refine o_stB (us' := [vi x3.2, (vS d15 y1.2.1), (vS d16 y1.2.2)]) 0 s37 rfl h46 rfl rfl rfl rfl rfl fun H25 s38 => ?_
 refine c_nil (c_rt ?_)
 obtain rfl := oJ e
 exact ⟨.inr rfl, _, (arB 0 s38 rfl h46 rfl rfl), _, _, rfl, ((s38.pick [3, 4] rfl).weak (g1.trans (g2.trans (g3.trans (g4.trans (g5.trans (g6.trans g14)))))) hs.zv)⟩
/-! dfa_Check -/
structure Nd.dfa_Check (T : FuncId → Option AFunc) : Prop where
  own : Has T I.dfa_Check F.dfa_Check
set_option maxHeartbeats 1000000 in
theorem X.dfa_Check {T : FuncId → Option AFunc} (nd : Nd.dfa_Check T) {Z V : PH} {H : Hp} {v1 : Value} {v2 : Value} {a0 : Ty.api_Dfa} (hs : Sat Z V H []) (hp1 : RdS Sh.int V v1 a0.Accept) (hp2 : RdS sI1 V v2 a0.Next) {r : Int} (e : P.dfa_Check a0 = some r) :
    G T I.dfa_Check [(.agg #[vi a0.Start, v1, v2])] H (fun rv H' => rv = (vi r) ∧ Sat Z V H' []) := by
 unfold P.dfa_Check at e
 refine f_mk nd.own ?_
 refine c_sr ?_
 obtain ⟨d1, rfl⟩ := (hp1).val
 obtain ⟨d2, rfl⟩ := (hp2).val
 refine o_box hs rfl rfl fun b1 H1 s1 => ?_
 refine o_mv (v := (vi 0)) rfl ?_
 refine c_nil (c_sq (c_sr (o_fad rfl (o_ldB 0 s1 rfl rfl rfl rfl ?_))))
 refine o_len rfl (hp2).len (o_gtr rfl rfl (c_nil ?_))
 refine c_ifd rfl (fun q1 => ?_) (fun q1 => ?_)
 ·replace e := if_t q1 e
  refine c_sr ?_
  refine o_mv (v := (vi 2)) rfl ?_
  refine c_nil (c_rt ?_)
  obtain rfl := oJ e
  exact ⟨.inr rfl, _, (ar1 rfl), rfl, (s1.pick [] rfl)⟩
 replace e := if_f q1 e
 refine c_sk (c_sq (c_sr (o_fad rfl (o_ldB 0 s1 rfl rfl rfl rfl ?_))))
 refine o_len rfl (hp2).len (o_eql rfl rfl ?_)
 refine o_mv (v := (.bool (decide ((a0.Next.length : Int) = 0)))) rfl ?_
 refine o_jn 8 (I := fun tm H => tm 26 = .bool ((decide ((a0.Next.length : Int) = 0)) || (decide ((a0.Accept.length : Int) ≠ (a0.Next.length : Int)))) ∧ (∃ (Z1 V1 : PH), Gw Z V Z1 V1 ∧ Sat Z1 V1 H [pts b1 (.rw 0 [vi a0.Start, (vS d1 a0.Accept), (vS d2 a0.Next)])] ∧ tm 1 = (pV b1 0))) (fun k1 => ?_) ?_
 ·rcases Bool.eq_false_or_eq_true (decide ((a0.Next.length : Int) = 0)) with q2 | q2
  ·refine o_gn rfl q2 (o_gn rfl q2 (o_gn rfl q2 (o_gn rfl q2 (o_gn rfl q2 ?_))))
   refine o_gn rfl q2 (o_gn rfl q2 ?_)
   refine o_pickt (a := (.bool true)) rfl q2 rfl ?_
   exact k1 _ _ ⟨gf rfl (by first | (rw [q2]; first | done | rfl) | simp [q2]), _, _, Gw.refl _ _, s1, rfl⟩
  refine o_gy rfl q2 (o_fad rfl (o_gy rfl q2 (o_ldB 0 s1 rfl rfl rfl rfl (o_gy rfl q2 ?_))))
  refine o_len rfl (hp1).len (o_gy rfl q2 (o_fad rfl (o_gy rfl q2 (o_ldB 0 s1 rfl rfl rfl rfl ?_))))
  refine o_gy rfl q2 (o_len rfl (hp2).len (o_gy rfl q2 (o_neq rfl rfl ?_)))
  refine o_pickf (b := (.bool (decide ((a0.Accept.length : Int) ≠ (a0.Next.length : Int))))) rfl q2 rfl ?_
  exact k1 _ _ ⟨gf rfl (by first | (rw [q2]; first | done | rfl) | simp [q2]), _, _, Gw.refl _ _, s1, rfl⟩
 intro _ H2 i1
 obtain ⟨h2, Z1, V1, g1, s2, h1⟩ := i1
 refine c_nil ?_
 refine c_if h2 (fun q3 => ?_) (fun q3 => ?_)
 ·replace e := if_t q3 e
  refine c_sr ?_
  refine o_mv (v := (vi 3)) rfl ?_
  refine c_nil (c_rt ?_)
  obtain rfl := oJ e
  exact ⟨.inr rfl, _, (ar1 rfl), rfl, ((s2.pick [] rfl).weak g1 hs.zv)⟩
 replace e := ib_f q3 e
 refine c_sk (c_sr (o_fad h1 (o_ldB 0 s2 rfl rfl rfl rfl ?_)))
 obtain ⟨x1, q4, e⟩ := oB e
 refine o_idx (v := (vS d2 a0.Next)) rfl rfl (hp2.mono g1.v) rfl q4 fun p1 q5 => ?_
 refine o_lds rfl (hp2.mono g1.v) s2.v q5 q4 fun w1 h3 => ?_
 refine o_len rfl (h3).len ?_
 refine o_mv (v := (vN x1)) rfl ?_
 refine c_nil (c_sq (c_sr ?_))
 refine o_mv (v := (vN x1)) rfl ?_
 refine o_gtr rfl rfl (c_nil ?_)
 refine c_ifd rfl (fun q6 => ?_) (fun q6 => ?_)
 ·replace e := if_t q6 e
  refine c_sr ?_
  refine o_mv (v := (vi 2)) rfl ?_
  refine c_nil (c_rt ?_)
  obtain rfl := oJ e
  exact ⟨.inr rfl, _, (ar1 rfl), rfl, ((s2.pick [] rfl).weak g1 hs.zv)⟩
 replace e := if_f q6 e
 refine c_sk (c_sq (c_sr (o_fad h1 (o_ldB 0 s2 rfl rfl rfl rfl ?_))))
 refine o_len rfl ((hp2.mono g1.v)).len ?_
 refine o_mv (v := (vi 0)) rfl ?_
 refine c_nil ?_
 refine c_gen (P := fun tm => tm 1 = (pV b1 0) ∧ tm 3 = (vN x1) ∧ tm 35 = (vS d2 a0.Next) ∧ tm 36 = (vN a0.Next) ∧ tm 37 = (vi 0) ∧ True) ⟨h1, rfl, rfl, rfl, rfl, trivial⟩ ?_
 intro _ i2
 obtain ⟨h4, h5, h6, h7, h8, -⟩ := i2
 obtain ⟨y1, q9, e⟩ := oB e
 refine c_jn (I := fun tm H => ∃ (s5 : Unit), y1 = .out s5 ∧ (∃ (Z3 V3 : PH), Gw Z1 V1 Z3 V3 ∧ Sat Z3 V3 H [pts b1 (.rw 0 [vi a0.Start, (vS d1 a0.Accept), (vS d2 a0.Next)])] ∧ tm 1 = (pV b1 0) ∧ tm 3 = (vN x1) ∧ tm 35 = (vS d2 a0.Next) ∧ tm 36 = (vN a0.Next))) (fun k5 => ?_) ?_
 ·refine c_bk ?_
  refine l_forL (xs := a0.Next) (fun (i3 : Nat) (s3 : Unit) tm H => tm 37 = vi i3 ∧ ∃ (Z2 V2 : PH), Gw Z1 V1 Z2 V2 ∧ Sat Z2 V2 H [pts b1 (.rw 0 [vi a0.Start, (vS d1 a0.Accept), (vS d2 a0.Next)])] ∧ tm 1 = (pV b1 0) ∧ tm 3 = (vN x1) ∧ tm 35 = (vS d2 a0.Next) ∧ tm 36 = (vN a0.Next)) (fun i3 x2 s3 y2 tm H4 q7 q8 j1 e1 k2 k3 k4 => ?_) (fun s3 tm H3 jf jd => ?_) q9 ⟨h8, _, _, Gw.refl _ _, s2, h4, h5, h6, h7⟩
  ·obtain ⟨hti0, Z2, V2, g2, s4, h9, h10, h11, h12⟩ := j1
   unfold P.dfa_Check.b0 at e1
   refine c_sr (o_lss hti0 h12 (c_nil (c_sq ?_)))
   refine c_ift rfl (Int.ofNat_lt.2 q8) ?_
   refine c_sk (c_sq (c_bk (c_sr ?_)))
   refine o_idx (v := (vS d2 a0.Next)) h11 hti0 (hp2.mono (g1.trans g2).v) rfl (Pu.ix_nat.trans q7) fun p2 q10 => ?_
   refine o_lds rfl (hp2.mono (g1.trans g2).v) s4.v q10 (Pu.ix_nat.trans q7) fun w2 h17 => ?_
   refine o_mv (v := w2) rfl ?_
   refine c_nil (c_sr ?_)
   refine o_mv (v := w2) rfl ?_
   refine o_len rfl (h17).len (o_mv h10 (o_neq rfl rfl ?_))
   refine o_mv (v := (.bool (decide ((x2.length : Int) ≠ (x1.length : Int))))) rfl ?_
   refine o_jn 3 (I := fun tm H => tm 48 = .bool ((decide ((x2.length : Int) ≠ (x1.length : Int))) || (decide ((x1.length : Int) = 0))) ∧ (∃ (Z4 V4 : PH), Gw Z2 V2 Z4 V4 ∧ Sat Z4 V4 H [pts b1 (.rw 0 [vi a0.Start, (vS d1 a0.Accept), (vS d2 a0.Next)])] ∧ tm 1 = (pV b1 0) ∧ tm 3 = (vN x1) ∧ tm 35 = (vS d2 a0.Next) ∧ tm 36 = (vN a0.Next) ∧ tm 37 = (vJ i3))) (fun k6 => ?_) ?_
   ·rcases Bool.eq_false_or_eq_true (decide ((x2.length : Int) ≠ (x1.length : Int))) with q11 | q11
    ·refine o_gn rfl q11 (o_gn rfl q11 ?_)
     refine o_pickt (a := (.bool true)) rfl q11 rfl ?_
     exact k6 _ _ ⟨gf rfl (by first | (rw [q11]; first | done | rfl) | simp [q11]), _, _, Gw.refl _ _, s4, h9, h10, h11, h12, hti0⟩
    refine o_gy rfl q11 (o_mv h10 (o_gy rfl q11 (o_eql rfl rfl ?_)))
    refine o_pickf (b := (.bool (decide ((x1.length : Int) = 0)))) rfl q11 rfl ?_
    exact k6 _ _ ⟨gf rfl (by first | (rw [q11]; first | done | rfl) | simp [q11]), _, _, Gw.refl _ _, s4, h9, h10, h11, h12, hti0⟩
   intro _ H6 i4
   obtain ⟨h23, Z4, V4, g4, s7, h18, h19, h20, h21, h22⟩ := i4
   refine c_nil ?_
   refine c_if h23 (fun q12 => ?_) (fun q12 => ?_)
   ·replace e1 := if_t q12 e1
    refine c_sr ?_
    refine o_mv (v := (vi 3)) rfl ?_
    refine c_nil (c_rt ?_)
    have e2 := fin_r (k4 _ (sJ e1)) e
    obtain rfl := oJ e2
    exact ⟨.inr rfl, _, (ar1 rfl), rfl, ((s7.pick [] rfl).weak (g1.trans (g2.trans g4)) hs.zv)⟩
   replace e1 := ib_f q12 e1
   refine c_sk (c_end (c_r (o_add h22 rfl ?_)))
   refine o_mv (v := (vi (Pu.W ((i3 : Int) + 1)))) rfl ?_
   refine c_nil ?_
   exact k2 _ _ _ (sJ e1) ⟨(iv rfl (w_suc q8 ((hp2.mono g1.v)).bd)), _, _, (g2.trans g4), s7, h18, h19, h20, h21⟩
  ·obtain ⟨hte0, Z5, V5, g5, s8, h24, h25, h26, h27⟩ := jd
   refine c_sr (o_lss hte0 h27 (c_nil (c_sq ?_)))
   refine c_iff rfl (Int.lt_irrefl _) ?_
   refine c_ex ?_
   refine e_c ?_
   refine e_c ?_
   refine e_h ?_
   exact k5 _ _ ⟨_, jf, _, _, g5, s8, h24, h25, h26, h27⟩
 intro _ H5 i5
 obtain ⟨s5, f1, Z3, V3, g3, s6, h13, h14, h15, h16⟩ := i5
 replace e := fin_o f1 e
 refine c_sq (c_sr (o_fad h13 (o_ldB 0 s6 rfl rfl rfl rfl (o_lss rfl rfl ?_))))
 refine o_mv (v := (.bool (decide (a0.Start < 0)))) rfl ?_
 refine o_jn 7 (I := fun tm H => tm 60 = .bool ((decide (a0.Start < 0)) || (decide ((a0.Next.length : Int) ≤ a0.Start))) ∧ (∃ (Z6 V6 : PH), Gw Z3 V3 Z6 V6 ∧ Sat Z6 V6 H [pts b1 (.rw 0 [vi a0.Start, (vS d1 a0.Accept), (vS d2 a0.Next)])] ∧ tm 1 = (pV b1 0))) (fun k7 => ?_) ?_
 ·rcases Bool.eq_false_or_eq_true (decide (a0.Start < 0)) with q13 | q13
  ·refine o_gn rfl q13 (o_gn rfl q13 (o_gn rfl q13 (o_gn rfl q13 (o_gn rfl q13 ?_))))
   refine o_gn rfl q13 ?_
   refine o_pickt (a := (.bool true)) rfl q13 rfl ?_
   exact k7 _ _ ⟨gf rfl (by first | (rw [q13]; first | done | rfl) | simp [q13]), _, _, Gw.refl _ _, s6, h13⟩
  refine o_gy rfl q13 (o_fad h13 (o_gy rfl q13 (o_ldB 0 s6 rfl rfl rfl rfl (o_gy rfl q13 ?_))))
  refine o_fad h13 (o_gy rfl q13 (o_ldB 0 s6 rfl rfl rfl rfl (o_gy rfl q13 (o_len rfl ((hp2.mono (g1.trans g3).v)).len ?_))))
  refine o_gy rfl q13 (o_geq rfl rfl ?_)
  refine o_pickf (b := (.bool (decide ((a0.Next.length : Int) ≤ a0.Start)))) rfl q13 rfl ?_
  exact k7 _ _ ⟨gf rfl (by first | (rw [q13]; first | done | rfl) | simp [q13]), _, _, Gw.refl _ _, s6, h13⟩
 intro _ H8 i6
 obtain ⟨h29, Z6, V6, g6, s9, h28⟩ := i6
 refine c_nil ?_
 refine c_if h29 (fun q14 => ?_) (fun q14 => ?_)
 ·replace e := if_t q14 e
  refine c_sr ?_
  refine o_mv (v := (vi 1)) rfl ?_
  refine c_nil (c_rt ?_)
  obtain rfl := oJ e
  exact ⟨.inr rfl, _, (ar1 rfl), rfl, ((s9.pick [] rfl).weak (g1.trans (g3.trans g6)) hs.zv)⟩
 replace e := ib_f q14 e
 refine c_sk (c_sq (c_sr (o_fad h28 (o_ldB 0 s9 rfl rfl rfl rfl ?_))))
 refine o_len rfl ((hp2.mono (g1.trans (g3.trans g6)).v)).len ?_
 refine o_mv (v := (vi 0)) rfl ?_
 refine c_nil ?_
 obtain ⟨y3, q17, e⟩ := oB e
 refine c_jn (I := fun tm H => ∃ (s12 : Unit), y3 = .out s12 ∧ (∃ (Z8 V8 : PH), Gw Z6 V6 Z8 V8 ∧ Sat Z8 V8 H [pts b1 (.rw 0 [vi a0.Start, (vS d1 a0.Accept), (vS d2 a0.Next)])] ∧ tm 1 = (pV b1 0) ∧ tm 62 = (vS d2 a0.Next) ∧ tm 63 = (vN a0.Next))) (fun k11 => ?_) ?_
 ·refine c_bk ?_
  refine l_forL (xs := a0.Next) (fun (i7 : Nat) (s10 : Unit) tm H => tm 64 = vi i7 ∧ ∃ (Z7 V7 : PH), Gw Z6 V6 Z7 V7 ∧ Sat Z7 V7 H [pts b1 (.rw 0 [vi a0.Start, (vS d1 a0.Accept), (vS d2 a0.Next)])] ∧ tm 1 = (pV b1 0) ∧ tm 62 = (vS d2 a0.Next) ∧ tm 63 = (vN a0.Next)) (fun i7 x3 s10 y4 tm H10 q15 q16 j2 e3 k8 k9 k10 => ?_) (fun s10 tm H9 jf jd => ?_) q17 ⟨rfl, _, _, Gw.refl _ _, s9, h28, rfl, rfl⟩
  ·obtain ⟨hti1, Z7, V7, g7, s11, h30, h31, h32⟩ := j2
   unfold P.dfa_Check.b1 at e3
   refine c_sr (o_lss hti1 h32 (c_nil (c_sq ?_)))
   refine c_ift rfl (Int.ofNat_lt.2 q16) ?_
   refine c_sk (c_sq (c_bk (c_sr (o_mv hti1 ?_))))
   refine o_idx (v := (vS d2 a0.Next)) h31 hti1 (hp2.mono (g1.trans (g3.trans (g6.trans g7))).v) rfl (Pu.ix_nat.trans q15) fun p3 q18 => ?_
   refine o_lds rfl (hp2.mono (g1.trans (g3.trans (g6.trans g7))).v) s11.v q18 (Pu.ix_nat.trans q15) fun w3 h36 => ?_
   refine o_mv (v := (vJ i7)) rfl ?_
   refine o_mv (v := w3) rfl ?_
   refine c_nil (c_sq (c_sr (o_fad h30 (o_ldB 0 s11 rfl rfl rfl rfl ?_))))
   refine o_mv (v := (vJ i7)) rfl ?_
   obtain ⟨x4, q19, e3⟩ := oB e3
   refine o_idx (v := (vS d1 a0.Accept)) rfl rfl (hp1.mono (g1.trans (g3.trans (g6.trans g7))).v) rfl q19 fun p4 q20 => ?_
   refine o_ldi rfl (hp1.mono (g1.trans (g3.trans (g6.trans g7))).v) s11.v q20 q19 (o_lss rfl rfl (c_nil ?_))
   refine c_gen (P := fun tm => tm 1 = (pV b1 0) ∧ tm 7 = w3 ∧ tm 62 = (vS d2 a0.Next) ∧ tm 63 = (vN a0.Next) ∧ tm 64 = (vJ i7) ∧ tm 74 = (.bool (decide (x4 < (-1)))) ∧ True) ⟨h30, rfl, h31, h32, hti1, rfl, trivial⟩ ?_
   intro _ i8
   obtain ⟨h37, h38, h39, h40, h41, h42, -⟩ := i8
   refine c_ifd h42 (fun q21 => ?_) (fun q21 => ?_)
   ·replace e3 := if_t q21 e3
    refine c_sr ?_
    refine o_mv (v := (vi 1)) rfl ?_
    refine c_nil (c_rt ?_)
    have e4 := fin_r (k10 _ (sJ e3)) e
    obtain rfl := oJ e4
    exact ⟨.inr rfl, _, (ar1 rfl), rfl, ((s11.pick [] rfl).weak (g1.trans (g3.trans (g6.trans g7))) hs.zv)⟩
   replace e3 := if_f q21 e3
   refine c_sk (c_sr (o_mv h38 (o_len rfl (h36).len ?_)))
   refine o_mv (v := (vi 0)) rfl ?_
   refine c_nil ?_
   obtain ⟨y5, q24, e3⟩ := oB e3
   refine c_jn (I := fun tm H => ∃ (s16 : Unit), y5 = .out s16 ∧ (∃ (Z10 V10 : PH), Gw Z7 V7 Z10 V10 ∧ Sat Z10 V10 H [pts b1 (.rw 0 [vi a0.Start, (vS d1 a0.Accept), (vS d2 a0.Next)])] ∧ tm 1 = (pV b1 0) ∧ tm 62 = (vS d2 a0.Next) ∧ tm 63 = (vN a0.Next) ∧ tm 64 = (vJ i7) ∧ tm 75 = w3 ∧ tm 76 = (vN x3))) (fun k15 => ?_) ?_
   ·refine c_bk ?_
    refine l_forL (xs := x3) (fun (i9 : Nat) (s14 : Unit) tm H => tm 77 = vi i9 ∧ ∃ (Z9 V9 : PH), Gw Z7 V7 Z9 V9 ∧ Sat Z9 V9 H [pts b1 (.rw 0 [vi a0.Start, (vS d1 a0.Accept), (vS d2 a0.Next)])] ∧ tm 1 = (pV b1 0) ∧ tm 62 = (vS d2 a0.Next) ∧ tm 63 = (vN a0.Next) ∧ tm 64 = (vJ i7) ∧ tm 75 = w3 ∧ tm 76 = (vN x3)) (fun i9 x5 s14 y6 tm H13 q22 q23 j3 e5 k12 k13 k14 => ?_) (fun s14 tm H12 jf jd => ?_) q24 ⟨rfl, _, _, Gw.refl _ _, s11, h37, h39, h40, h41, rfl, rfl⟩
    ·obtain ⟨hti2, Z9, V9, g9, s15, h43, h44, h45, h46, h47, h48⟩ := j3
     unfold P.dfa_Check.b2 at e5
     refine c_sr (o_lss hti2 h48 (c_nil (c_sq ?_)))
     refine c_ift rfl (Int.ofNat_lt.2 q23) ?_
     refine c_sk (c_sq (c_bk (c_sr ?_)))
     refine o_idx (v := w3) h47 hti2 (h36.mono g9.v) rfl (Pu.ix_nat.trans q22) fun p5 q25 => ?_
     refine o_ldi rfl (h36.mono g9.v) s15.v q25 (Pu.ix_nat.trans q22) ?_
     refine o_mv (v := (vi x5)) rfl ?_
     refine c_nil (c_sr ?_)
     refine o_mv (v := (vi x5)) rfl ?_
     refine o_lss rfl rfl ?_
     refine o_mv (v := (.bool (decide (x5 < (-1))))) rfl ?_
     refine o_jn 6 (I := fun tm H => tm 89 = .bool ((decide (x5 < (-1))) || (decide ((a0.Next.length : Int) ≤ x5))) ∧ (∃ (Z11 V11 : PH), Gw Z9 V9 Z11 V11 ∧ Sat Z11 V11 H [pts b1 (.rw 0 [vi a0.Start, (vS d1 a0.Accept), (vS d2 a0.Next)])] ∧ tm 1 = (pV b1 0) ∧ tm 62 = (vS d2 a0.Next) ∧ tm 63 = (vN a0.Next) ∧ tm 64 = (vJ i7) ∧ tm 75 = w3 ∧ tm 76 = (vN x3) ∧ tm 77 = (vJ i9))) (fun k16 => ?_) ?_
     ·rcases Bool.eq_false_or_eq_true (decide (x5 < (-1))) with q26 | q26
      ·refine o_gn rfl q26 (o_gn rfl q26 (o_gn rfl q26 (o_gn rfl q26 (o_gn rfl q26 ?_))))
       refine o_pickt (a := (.bool true)) rfl q26 rfl ?_
       exact k16 _ _ ⟨gf rfl (by first | (rw [q26]; first | done | rfl) | simp [q26]), _, _, Gw.refl _ _, s15, h43, h44, h45, h46, h47, h48, hti2⟩
      refine o_gy rfl q26 ?_
      refine o_mv (v := (vi x5)) rfl ?_
      refine o_gy rfl q26 (o_fad h43 (o_gy rfl q26 (o_ldB 0 s15 rfl rfl rfl rfl (o_gy rfl q26 ?_))))
      refine o_len rfl ((hp2.mono (g1.trans (g3.trans (g6.trans (g7.trans g9)))).v)).len (o_gy rfl q26 (o_geq rfl rfl ?_))
      refine o_pickf (b := (.bool (decide ((a0.Next.length : Int) ≤ x5)))) rfl q26 rfl ?_
      exact k16 _ _ ⟨gf rfl (by first | (rw [q26]; first | done | rfl) | simp [q26]), _, _, Gw.refl _ _, s15, h43, h44, h45, h46, h47, h48, hti2⟩
     intro _ H15 i10
     obtain ⟨h62, Z11, V11, g11, s18, h55, h56, h57, h58, h59, h60, h61⟩ := i10
     refine c_nil ?_
     refine c_if h62 (fun q27 => ?_) (fun q27 => ?_)
     ·replace e5 := if_t q27 e5
      refine c_sr ?_
      refine o_mv (v := (vi 1)) rfl ?_
      refine c_nil (c_rt ?_)
      have e6 := fin_r (k14 _ (sJ e5)) e3
      have e7 := fin_r (k10 _ (sJ e6)) e
      obtain rfl := oJ e7
      exact ⟨.inr rfl, _, (ar1 rfl), rfl, ((s18.pick [] rfl).weak (g1.trans (g3.trans (g6.trans (g7.trans (g9.trans g11))))) hs.zv)⟩
     replace e5 := ib_f q27 e5
     refine c_sk (c_end (c_r (o_add h61 rfl ?_)))
     refine o_mv (v := (vi (Pu.W ((i9 : Int) + 1)))) rfl ?_
     refine c_nil ?_
     exact k12 _ _ _ (sJ e5) ⟨(iv rfl (w_suc q23 (h36).bd)), _, _, (g9.trans g11), s18, h55, h56, h57, h58, h59, h60⟩
    ·obtain ⟨hte2, Z12, V12, g12, s19, h63, h64, h65, h66, h67, h68⟩ := jd
     refine c_sr (o_lss hte2 h68 (c_nil (c_sq ?_)))
     refine c_iff rfl (Int.lt_irrefl _) ?_
     refine c_ex ?_
     refine e_c ?_
     refine e_c ?_
     refine e_h ?_
     exact k15 _ _ ⟨_, jf, _, _, g12, s19, h63, h64, h65, h66, h67, h68⟩
   intro _ H14 i11
   obtain ⟨s16, f2, Z10, V10, g10, s17, h49, h50, h51, h52, h53, h54⟩ := i11
   replace e3 := fin_o f2 e3
   refine c_end (c_r (o_add h52 rfl ?_))
   refine o_mv (v := (vi (Pu.W ((i7 : Int) + 1)))) rfl ?_
   refine c_nil ?_
   exact k8 _ _ _ (sJ e3) ⟨(iv rfl (w_suc q16 ((hp2.mono (g1.trans (g3.trans g6)).v)).bd)), _, _, (g7.trans g10), s17, h49, h50, h51⟩
  ·obtain ⟨hte1, Z13, V13, g13, s20, h69, h70, h71⟩ := jd
   refine c_sr (o_lss hte1 h71 (c_nil (c_sq ?_)))
   refine c_iff rfl (Int.lt_irrefl _) ?_
   refine c_ex ?_
   refine e_c ?_
   refine e_c ?_
   refine e_h ?_
   exact k11 _ _ ⟨_, jf, _, _, g13, s20, h69, h70, h71⟩
 intro _ H11 i12
 obtain ⟨s12, f3, Z8, V8, g8, s13, h33, h34, h35⟩ := i12
 replace e := fin_o f3 e
 refine c_sr ?_
 refine o_mv (v := (vi 0)) rfl ?_
 refine c_nil (c_rt ?_)
 obtain rfl := oJ e
 exact ⟨.inr rfl, _, (ar1 rfl), rfl, ((s13.pick [] rfl).weak (g1.trans (g3.trans (g6.trans g8))) hs.zv)⟩
/-! teach_New -/
structure Nd.teach_New (T : FuncId → Option AFunc) : Prop where
  own : Has T I.teach_New F.teach_New
  dfa_Check : Nd.dfa_Check T
set_option maxHeartbeats 1000000 in
theorem X.teach_New {T : FuncId → Option AFunc} (nd : Nd.teach_New T) {Z V : PH} {H : Hp} {v1 : Value} {v2 : Value} {a0 : Ty.api_Dfa} (hs : Sat Z V H []) (hp1 : RdS Sh.int V v1 a0.Accept) (hp2 : RdS sI1 V v2 a0.Next) {r : ((Option Ty.teach_Teacher) × Int)} (e : P.teach_New a0 = some r) :
    G T I.teach_New [(.agg #[vi a0.Start, v1, v2])] H (fun rv H' => ∃ (o101 : Nat) (u2 : Value) (u3 : Value), rv = (.tuple #[(ov r.1 o101), vi r.2]) ∧ Sat Z V H' (oi r.1 (fun y => [pts o101 (.rw 0 [vi y.d.Start, u2, u3, vi y.members, vi y.equal]), It.sl Sh.int u2 y.d.Accept, It.sl sI1 u3 y.d.Next]))) := by
 unfold P.teach_New at e
 refine f_mk nd.own ?_
 refine c_sr ?_
 obtain ⟨d1, rfl⟩ := (hp1).val
 obtain ⟨d2, rfl⟩ := (hp2).val
 refine o_box hs rfl rfl fun b1 H1 s1 => ?_
 refine o_mv (v := (.pointer none)) rfl ?_
 refine o_mv (v := (vi 0)) rfl ?_
 refine c_nil (c_sq (c_sr (o_ldB 0 s1 rfl rfl rfl rfl ?_)))
 obtain ⟨x1, q1, e⟩ := oB e
 obtain ⟨Z1, V1, W1, g1, u1, c1, c2, -, c4, c3⟩ := Sat.call (l1 := []) s1
 refine o_call (mc rfl m0) (X.dfa_Check nd.dfa_Check c1 (hp1.mono (g1.v.trans u1)) (hp2.mono (g1.v.trans u1)) q1) fun _ H2 i1 => ?_
 obtain ⟨rfl, s2⟩ := i1
 have s3 := c3 _ _ s2
 refine o_mv (v := (vi x1)) rfl ?_
 refine c_nil (c_sr ?_)
 refine o_mv (v := (vi x1)) rfl ?_
 refine o_neq rfl rfl (c_nil ?_)
 refine c_ifd rfl (fun q2 => ?_) (fun q2 => ?_)
 ·replace e := if_t q2 e
  refine c_sr ?_
  refine o_mv (v := (vi x1)) rfl ?_
  refine o_mv (v := (.pointer none)) rfl ?_
  refine o_mv (v := (vi x1)) rfl ?_
  refine c_nil ?_
  refine c_gen (P := fun tm => tm 2 = (.pointer none) ∧ tm 3 = (vi x1) ∧ True) ⟨rfl, rfl, trivial⟩ ?_
  intro _ i2
  obtain ⟨h1, h2, -⟩ := i2
  refine c_rt ?_
  obtain rfl := oJ e
  exact ⟨.inr rfl, _, (ar2 h1 h2), 0, undef, undef, rfl, ((s3.pick [] rfl).weak g1 hs.zv)⟩
 replace e := if_f q2 e
 refine c_sk (c_sq ?_)
 refine c_gen (P := fun tm => tm 1 = (pV b1 0) ∧ True) ⟨rfl, trivial⟩ ?_
 intro _ i3
 obtain ⟨h3, -⟩ := i3
 refine d_start s3 fun n1 H3 s4 q3 d3 => ?_
 refine d_fad h3 ?_
 refine d_ldB (q3 _ _ (ph_some.2 ⟨s4.curB 0 rfl, by simp⟩)) 0 s4 rfl rfl rfl rfl ?_
 refine d_fad h3 ?_
 refine d_ldB (q3 _ _ (ph_some.2 ⟨s4.curB 0 rfl, by simp⟩)) 0 s4 rfl rfl rfl rfl ?_
 have s5 := s4.push (sl_nil (s := Sh.int))
 obtain ⟨x2, q4, e⟩ := oB e
 refine d_app 0 s5 rfl Sh.flat_lt rfl rfl rfl rfl (hp1.mono g1.v) s5.v (fun h => h) (by decide) q4 fun w1 H4 s6 k1 => ?_
 have d4 := d3.keep k1
 obtain ⟨d5, rfl⟩ := ((s6.curS (s := Sh.int) 0 rfl)).val
 refine d_bld (qs := [(0, 1, (vi a0.Start)), (1, 1, (vS d5 x2))]) rfl rfl ?_
 refine d_bld (qs := [(0, 3, (.agg #[vi a0.Start, (vS d5 x2), (.slice none 0 0)]))]) rfl rfl ?_
 refine d_box (d4.get 7 rfl rfl) s6 rfl rfl fun b2 H5 s7 k2 => ?_
 have d6 := d4.next 7 rfl k2
 refine d_mv (v := (pV b2 0)) rfl ?_
 refine d_nil (dc_mk rfl (ta8 (tre (trl tr0))) (ta4 (tra (tre (tl4 tr0)))) (ta4 (tre (tl4 (trl tr0)))) (ag_ldx (w := (vi a0.Start)) w_0 rfl (ldB_v 0 s4 rfl rfl rfl) (ldB_v 0 s4 rfl rfl rfl) (by simp [vsame, vsame1])) (ag_ldx (w := (vi a0.Start)) w_0 rfl (ldB_v 0 s4 rfl rfl rfl) (ldB_v 1 s6 rfl rfl rfl) (by simp [vsame, vsame1])) dc_nil) ?_
 refine c_sq (c_sr (o_fad h3 (o_ldB 2 s7 rfl rfl rfl rfl (o_len rfl ((hp2.mono g1.v)).len ?_))))
 refine o_mv (v := (vi 0)) rfl ?_
 refine c_nil ?_
 refine c_gen (P := fun tm => tm 5 = (pV b2 0) ∧ tm 22 = (vS d2 a0.Next) ∧ tm 23 = (vN a0.Next) ∧ tm 24 = (vi 0) ∧ True) ⟨rfl, rfl, rfl, rfl, trivial⟩ ?_
 intro _ i4
 obtain ⟨h4, h5, h6, h7, -⟩ := i4
 obtain ⟨y1, q7, e⟩ := oB e
 refine c_bk ?_
 refine l_forP (xs := a0.Next) (fun (i5 : Nat) (s8 : (List (List Int))) tm H => tm 24 = vi i5 ∧ ∃ (Z2 V2 : PH) (w2 : Value), Gw Z1 V1 Z2 V2 ∧ Sat Z2 V2 H [pts b2 (.rw 0 [vi a0.Start, (vS d5 x2), w2, vi 0, vi 0]), Is Sh.int d5 x2, It.sl sI1 w2 s8] ∧ tm 5 = (pV b2 0) ∧ tm 22 = (vS d2 a0.Next) ∧ tm 23 = (vN a0.Next)) (fun i5 x3 s8 s10 tm H7 q5 q6 j1 e1 k3 => ?_) (fun tm H6 jd => ?_) q7 ⟨h7, _, _, _, Gw.refl _ _, ((s7.push (sl_nil (s := sI1))).pick [1, 2, 0] rfl), h4, h5, h6⟩
 ·obtain ⟨hti0, Z2, V2, w2, g2, s9, h8, h9, h10⟩ := j1
  unfold P.teach_New.b0 at e1
  refine c_sr (o_lss hti0 h10 (c_nil (c_sq ?_)))
  refine c_ift rfl (Int.ofNat_lt.2 q6) ?_
  refine c_sk (c_sq (c_bk (c_sr ?_)))
  refine o_idx (v := (vS d2 a0.Next)) h9 hti0 (hp2.mono (g1.trans g2).v) rfl (Pu.ix_nat.trans q5) fun p1 q8 => ?_
  refine o_lds rfl (hp2.mono (g1.trans g2).v) s9.v q8 (Pu.ix_nat.trans q5) fun w3 h11 => ?_
  refine o_mv (v := w3) rfl ?_
  refine c_nil ?_
  refine d_start s9 fun n2 H8 s11 q9 d7 => ?_
  refine d_mv h8 ?_
  refine d_mv h8 ?_
  refine d_nck rfl ?_
  refine d_fad rfl ?_
  refine d_fad rfl ?_
  obtain ⟨d8, rfl⟩ := ((s11.curS (s := sI1) 2 rfl)).val
  refine d_ldB (q9 _ _ (ph_some.2 ⟨s11.curB 0 rfl, by simp⟩)) 0 s11 rfl rfl rfl rfl ?_
  refine d_mv (v := w3) rfl ?_
  have s12 := s11.push (sl_nil (s := Sh.int))
  obtain ⟨x4, q10, e1⟩ := oB e1
  refine d_app 0 s12 rfl Sh.flat_lt rfl rfl rfl rfl h11 s12.v (fun h => h) (by decide) q10 fun w4 H9 s13 k4 => ?_
  have d9 := d7.keep k4
  refine d_bslH (d9.get 8 rfl rfl) s13 rfl fun w5 H10 s14 k5 => ?_
  have d10 := d9.next 8 rfl k5
  obtain ⟨x5, q11, e1⟩ := oB e1
  refine d_appH 2 s14 rfl rfl rfl (by decide) q11 (List.cons_ne_nil _ _) fun w6 H11 s15 k6 => ?_
  have d11 := d10.keep k6
  refine d_nck rfl ?_
  refine d_fad rfl ?_
  refine d_fad rfl ?_
  obtain ⟨d12, rfl⟩ := ((s15.curS (s := sI1) 2 rfl)).val
  refine d_stB (us' := [vi a0.Start, (vS d5 x2), (vS d12 x5), vi 0, vi 0]) 0 s15 rfl rfl rfl rfl rfl rfl rfl fun H12 s16 k7 => ?_
  have d13 := d11.keep k7
  refine d_nil (dc_mk rfl (ta8 (tra (tre (tl4 (trl tr0))))) (ta4 (ta2 (tra (tre (tl4 (tl2 (trl tr0))))))) (ta4 (ta2 (tre (tl8 tr0)))) (ag_ldx (w := (vS d8 s8)) w_0 rfl (ldB_v 0 s11 rfl rfl rfl) (ldB_v 0 s11 rfl rfl rfl) (by simp [vsame, vsame1])) (ag_ldx (w := (vS d8 s8)) w_0 rfl (ldB_v 0 s11 rfl rfl rfl) (ldB_v 1 s13 rfl rfl rfl) (by simp [vsame, vsame1])) dc_nil) ?_
  refine c_end (c_r (o_add hti0 rfl ?_))
  refine o_mv (v := (vi (Pu.W ((i5 : Int) + 1)))) rfl ?_
  refine c_nil ?_
  obtain rfl := oJ e1
  exact k3 _ _ ⟨(iv rfl (w_suc q6 ((hp2.mono g1.v)).bd)), _, _, _, g2, s16, h8, h9, h10⟩
 obtain ⟨hte0, Z3, V3, w7, g3, s17, h12, h13, h14⟩ := jd
 refine c_sr (o_lss hte0 h14 (c_nil (c_sq ?_)))
 refine c_iff rfl (Int.lt_irrefl _) ?_
 refine c_ex ?_
 refine e_c ?_
 refine e_c ?_
 refine e_h ?_
 refine c_sr (o_mv h12 ?_)
 refine o_mv (v := (pV b2 0)) rfl ?_
 refine o_mv (v := (vi 0)) rfl ?_
 refine c_nil (c_rt ?_)
 obtain ⟨d14, rfl⟩ := ((s17.curS (s := sI1) 2 rfl)).val
 obtain rfl := oJ e
 exact ⟨.inr rfl, _, (ar2 rfl rfl), _, _, _, rfl, (s17.weak (g1.trans g3) hs.zv)⟩
/-! parlkeep5_ends -/
structure Nd.parlkeep5_ends (T : FuncId → Option AFunc) : Prop where
  own : Has T I.parlkeep5_ends F.parlkeep5_ends
set_option maxHeartbeats 1000000 in
theorem X.parlkeep5_ends {T : FuncId → Option AFunc} (nd : Nd.parlkeep5_ends T) {Z V : PH} {H : Hp} (hs : Sat Z V H []) {r : Ty.api_Dfa} (e : P.parlkeep5_ends = some r) :
    G T I.parlkeep5_ends [] H (fun rv H' => ∃ (u1 : Value) (u2 : Value), rv = (.agg #[vi r.Start, u1, u2]) ∧ Sat Z V H' [It.sl Sh.int u1 r.Accept, It.sl (Sh.ro sI1) u2 r.Next]) := by
 unfold P.parlkeep5_ends at e
 refine f_mk nd.own ?_
 refine c_sr ?_
 refine o_new hs fun b1 H1 s1 => ?_
 refine c_nil (c_sr ?_)
 refine o_bsl (s := Sh.int) (us := [(vi (-1)), vi 0]) (qs := [(0, 1, (vi (-1))), (1, 1, (vi 0))]) (xs := [(-1), 0]) s1 Sh.flat_lt rfl rfl rfl (Els.cons (c := [(vi (-1))]) rfl (Els.cons (c := [vi 0]) rfl Els.nil)) rfl rfl fun w1 H2 s2 => ?_
 refine o_bsl (s := Sh.int) (us := [vi 1, vi 0]) (qs := [(0, 1, (vi 1)), (1, 1, (vi 0))]) (xs := [1, 0]) s2 Sh.flat_lt rfl rfl rfl (Els.cons (c := [vi 1]) rfl (Els.cons (c := [vi 0]) rfl Els.nil)) rfl rfl fun w2 H3 s3 => ?_
 refine o_bsl (s := Sh.int) (us := [vi 1, vi 0]) (qs := [(0, 1, (vi 1)), (1, 1, (vi 0))]) (xs := [1, 0]) s3 Sh.flat_lt rfl rfl rfl (Els.cons (c := [vi 1]) rfl (Els.cons (c := [vi 0]) rfl Els.nil)) rfl rfl fun w3 H4 s4 => ?_
 obtain ⟨Z1, V1, g1, s5, h1⟩ := s4.frzS 1 rfl
 obtain ⟨Z2, V2, g2, s6, h2⟩ := s5.frzS 0 rfl
 obtain ⟨d1, rfl⟩ := ((h1.mono g2.z)).val
 obtain ⟨d2, rfl⟩ := (h2).val
 refine o_bsl (s := (Sh.ro sI1)) (us := [(.slice d1 [1, 0].length [1, 0].length), (.slice d2 [1, 0].length [1, 0].length)]) (qs := [(0, 1, (.slice d1 [1, 0].length [1, 0].length)), (1, 1, (.slice d2 [1, 0].length [1, 0].length))]) (xs := [[1, 0], [1, 0]]) s6 (Sh.ro_lt _) rfl rfl rfl (Els.cons (c := [(.slice d1 [1, 0].length [1, 0].length)]) (sl_ro (h1.mono g2.z)) (Els.cons (c := [(.slice d2 [1, 0].length [1, 0].length)]) (sl_ro h2) Els.nil)) rfl rfl fun w4 H5 s7 => ?_
 obtain ⟨d3, rfl⟩ := ((s7.curS (s := Sh.int) 1 rfl)).val
 obtain ⟨d4, rfl⟩ := ((s7.curS (s := (Sh.ro sI1)) 0 rfl)).val
 refine o_bld (qs := [(1, 1, (.slice d3 [(-1), 0].length [(-1), 0].length)), (2, 1, (.slice d4 [[1, 0], [1, 0]].length [[1, 0], [1, 0]].length))]) rfl rfl ?_
 refine o_stB (us' := [vi 0, (.slice d3 [(-1), 0].length [(-1), 0].length), (.slice d4 [[1, 0], [1, 0]].length [[1, 0], [1, 0]].length)]) 2 s7 rfl rfl rfl rfl rfl rfl rfl fun H6 s8 => ?_
 refine c_nil (c_rt ?_)
 obtain rfl := oJ e
 exact ⟨.inr rfl, _, (arB 2 s8 rfl rfl rfl rfl), _, _, rfl, ((s8.pick [1, 0] rfl).weak (g1.trans g2) hs.zv)⟩
/-! teach_Teacher_Symbols -/
structure Nd.teach_Teacher_Symbols (T : FuncId → Option AFunc) : Prop where
  own : Has T I.teach_Teacher_Symbols F.teach_Teacher_Symbols
set_option maxHeartbeats 1000000 in
theorem X.teach_Teacher_Symbols {T : FuncId → Option AFunc} (nd : Nd.teach_Teacher_Symbols T) {Z V : PH} {H : Hp} {v1 : Value} {v2 : Value} {o1 : Nat} {a0 : Ty.teach_Teacher} (hs : Sat Z V H [pts o1 (.rw 0 [vi a0.d.Start, v1, v2, vi a0.members, vi a0.equal])]) (hp1 : RdS Sh.int V v1 a0.d.Accept) (hp2 : RdS sI1 V v2 a0.d.Next) {r : Int} (e : P.teach_Teacher_Symbols a0 = some r) :
    G T I.teach_Teacher_Symbols [(pV o1 0)] H (fun rv H' => rv = (vi r) ∧ Sat Z V H' [pts o1 (.rw 0 [vi a0.d.Start, v1, v2, vi a0.members, vi a0.equal])]) := by
 unfold P.teach_Teacher_Symbols at e
 refine f_mk nd.own ?_
 refine c_sr ?_
 refine o_mv (v := (vi 0)) rfl ?_
 refine c_nil (c_sr ?_)
 refine o_mv (v := (pV o1 0)) rfl ?_
 refine o_nck rfl (o_fad rfl (o_fad rfl ?_))
 obtain ⟨d1, rfl⟩ := (hp1).val
 obtain ⟨d2, rfl⟩ := (hp2).val
 refine o_ldB 0 hs rfl rfl rfl rfl ?_
 obtain ⟨x1, q1, e⟩ := oB e
 refine o_idx (v := (vS d2 a0.d.Next)) rfl rfl hp2 rfl q1 fun p1 q2 => ?_
 refine o_lds rfl hp2 hs.v q2 q1 fun w1 h1 => ?_
 refine o_len rfl (h1).len ?_
 refine o_mv (v := (vN x1)) rfl ?_
 refine c_nil ?_
 refine c_gen (P := fun tm => tm 2 = (vN x1) ∧ True) ⟨rfl, trivial⟩ ?_
 intro _ i1
 obtain ⟨h2, -⟩ := i1
 refine c_rt ?_
 obtain rfl := oJ e
 exact ⟨.inr rfl, _, (ar1 h2), rfl, hs⟩
/-! math_bits_Mul32 -/
structure Nd.math_bits_Mul32 (T : FuncId → Option AFunc) : Prop where
  own : Has T I.math_bits_Mul32 F.math_bits_Mul32
set_option maxHeartbeats 1000000 in
theorem X.math_bits_Mul32 {T : FuncId → Option AFunc} (nd : Nd.math_bits_Mul32 T) {Z V : PH} {H : Hp} {a0 : Int} {a1 : Int} (hs : Sat Z V H []) {r : (Int × Int)} (e : P.math_bits_Mul32 a0 a1 = some r) :
    G T I.math_bits_Mul32 [(.int .u32 a0), (.int .u32 a1)] H (fun rv H' => rv = (.tuple #[(.int .u32 r.1), (.int .u32 r.2)]) ∧ Sat Z V H' []) := by
 unfold P.math_bits_Mul32 at e
 refine f_mk nd.own ?_
 refine c_sr ?_
 refine o_mv (v := (.int .u32 0)) rfl ?_
 refine o_mv (v := (.int .u32 0)) rfl ?_
 refine c_nil (c_sr ?_)
 refine o_mv (v := (.int .u32 a0)) rfl ?_
 refine o_conv rfl ?_
 refine o_mv (v := (.int .u32 a1)) rfl ?_
 refine o_conv rfl (o_mul rfl rfl ?_)
 refine o_mv (v := (.int .u64 (IntKind.u64.wrap ((IntKind.u64.wrap a0) * (IntKind.u64.wrap a1))))) rfl ?_
 refine c_nil (c_sr ?_)
 refine o_mv (v := (.int .u64 (IntKind.u64.wrap ((IntKind.u64.wrap a0) * (IntKind.u64.wrap a1))))) rfl ?_
 obtain ⟨x1, q1, e⟩ := oB e
 refine o_shr rfl rfl q1 (o_conv rfl ?_)
 refine o_mv (v := (.int .u64 (IntKind.u64.wrap ((IntKind.u64.wrap a0) * (IntKind.u64.wrap a1))))) rfl ?_
 refine o_conv rfl ?_
 refine o_mv (v := (.int .u32 (IntKind.u32.wrap x1))) rfl ?_
 refine o_mv (v := (.int .u32 (IntKind.u32.wrap (IntKind.u64.wrap ((IntKind.u64.wrap a0) * (IntKind.u64.wrap a1)))))) rfl ?_
 refine c_nil ?_
 refine c_gen (P := fun tm => tm 4 = (.int .u32 (IntKind.u32.wrap x1)) ∧ tm 5 = (.int .u32 (IntKind.u32.wrap (IntKind.u64.wrap ((IntKind.u64.wrap a0) * (IntKind.u64.wrap a1))))) ∧ True) ⟨rfl, rfl, trivial⟩ ?_
 intro _ i1
 obtain ⟨h1, h2, -⟩ := i1
 refine c_rt ?_
 obtain rfl := oJ e
 exact ⟨.inr rfl, _, (ar2 h1 h2), rfl, hs⟩
/-! math_bits_Mul64 -/
structure Nd.math_bits_Mul64 (T : FuncId → Option AFunc) : Prop where
  own : Has T I.math_bits_Mul64 F.math_bits_Mul64
set_option maxHeartbeats 1000000 in
theorem X.math_bits_Mul64 {T : FuncId → Option AFunc} (nd : Nd.math_bits_Mul64 T) {Z V : PH} {H : Hp} {a0 : Int} {a1 : Int} (hs : Sat Z V H []) {r : (Int × Int)} (e : P.math_bits_Mul64 a0 a1 = some r) :
    G T I.math_bits_Mul64 [(.int .u64 a0), (.int .u64 a1)] H (fun rv H' => rv = (.tuple #[(.int .u64 r.1), (.int .u64 r.2)]) ∧ Sat Z V H' []) := by
 unfold P.math_bits_Mul64 at e
 refine f_mk nd.own ?_
 refine c_sr ?_
 refine o_mv (v := (.int .u64 0)) rfl ?_
 refine o_mv (v := (.int .u64 0)) rfl ?_
 refine c_nil (c_sr ?_)
 refine o_mv (v := (.int .u64 a0)) rfl ?_
 refine o_and rfl rfl ?_
 refine o_mv (v := (.int .u64 (Pu.band .u64 a0 4294967295))) rfl ?_
 refine c_nil (c_sr ?_)
 refine o_mv (v := (.int .u64 a0)) rfl ?_
 obtain ⟨x1, q1, e⟩ := oB e
 refine o_shr rfl rfl q1 ?_
 refine o_mv (v := (.int .u64 x1)) rfl ?_
 refine c_nil (c_sr ?_)
 refine o_mv (v := (.int .u64 a1)) rfl ?_
 refine o_and rfl rfl ?_
 refine o_mv (v := (.int .u64 (Pu.band .u64 a1 4294967295))) rfl ?_
 refine c_nil ?_
 refine c_gen (P := fun tm => tm 0 = (.int .u64 a0) ∧ tm 1 = (.int .u64 a1) ∧ tm 6 = (.int .u64 (Pu.band .u64 a0 4294967295)) ∧ tm 7 = (.int .u64 x1) ∧ tm 8 = (.int .u64 (Pu.band .u64 a1 4294967295)) ∧ True) ⟨rfl, rfl, rfl, rfl, rfl, trivial⟩ ?_
 intro _ i1
 obtain ⟨h1, h2, h3, h4, h5, -⟩ := i1
 refine c_sr (o_mv h2 ?_)
 obtain ⟨x2, q2, e⟩ := oB e
 refine o_shr rfl rfl q2 ?_
 refine o_mv (v := (.int .u64 x2)) rfl ?_
 refine c_nil (c_sr (o_mv h3 (o_mv h5 (o_mul rfl rfl ?_))))
 refine o_mv (v := (.int .u64 (IntKind.u64.wrap ((Pu.band .u64 a0 4294967295) * (Pu.band .u64 a1 4294967295))))) rfl ?_
 refine c_nil (c_sr (o_mv h4 (o_mv h5 (o_mul rfl rfl ?_))))
 refine o_mv (v := (.int .u64 (IntKind.u64.wrap ((Pu.band .u64 a0 4294967295) * (Pu.band .u64 a1 4294967295))))) rfl ?_
 obtain ⟨x3, q3, e⟩ := oB e
 refine o_shr rfl rfl q3 (o_add rfl rfl ?_)
 refine o_mv (v := (.int .u64 (IntKind.u64.wrap ((IntKind.u64.wrap (x1 * (Pu.band .u64 a1 4294967295))) + x3)))) rfl ?_
 refine c_nil ?_
 refine c_gen (P := fun tm => tm 0 = (.int .u64 a0) ∧ tm 1 = (.int .u64 a1) ∧ tm 6 = (.int .u64 (Pu.band .u64 a0 4294967295)) ∧ tm 7 = (.int .u64 x1) ∧ tm 9 = (.int .u64 x2) ∧ tm 11 = (.int .u64 (IntKind.u64.wrap ((IntKind.u64.wrap (x1 * (Pu.band .u64 a1 4294967295))) + x3))) ∧ True) ⟨h1, h2, h3, h4, rfl, rfl, trivial⟩ ?_
 intro _ i2
 obtain ⟨h6, h7, h8, h9, h10, h11, -⟩ := i2
 refine c_sr (o_mv h11 (o_and rfl rfl ?_))
 refine o_mv (v := (.int .u64 (Pu.band .u64 (IntKind.u64.wrap ((IntKind.u64.wrap (x1 * (Pu.band .u64 a1 4294967295))) + x3)) 4294967295))) rfl ?_
 refine c_nil (c_sr (o_mv h11 ?_))
 obtain ⟨x4, q4, e⟩ := oB e
 refine o_shr rfl rfl q4 ?_
 refine o_mv (v := (.int .u64 x4)) rfl ?_
 refine c_nil (c_sr ?_)
 refine o_mv (v := (.int .u64 (Pu.band .u64 (IntKind.u64.wrap ((IntKind.u64.wrap (x1 * (Pu.band .u64 a1 4294967295))) + x3)) 4294967295))) rfl ?_
 refine o_mv h8 (o_mv h10 (o_mul rfl rfl (o_add rfl rfl ?_)))
 refine o_mv (v := (.int .u64 (IntKind.u64.wrap ((Pu.band .u64 (IntKind.u64.wrap ((IntKind.u64.wrap (x1 * (Pu.band .u64 a1 4294967295))) + x3)) 4294967295) + (IntKind.u64.wrap ((Pu.band .u64 a0 4294967295) * x2)))))) rfl ?_
 refine c_nil ?_
 refine c_gen (P := fun tm => tm 0 = (.int .u64 a0) ∧ tm 1 = (.int .u64 a1) ∧ tm 7 = (.int .u64 x1) ∧ tm 9 = (.int .u64 x2) ∧ tm 12 = (.int .u64 (IntKind.u64.wrap ((Pu.band .u64 (IntKind.u64.wrap ((IntKind.u64.wrap (x1 * (Pu.band .u64 a1 4294967295))) + x3)) 4294967295) + (IntKind.u64.wrap ((Pu.band .u64 a0 4294967295) * x2))))) ∧ tm 13 = (.int .u64 x4) ∧ True) ⟨h6, h7, h9, h10, rfl, rfl, trivial⟩ ?_
 intro _ i3
 obtain ⟨h12, h13, h14, h15, h16, h17, -⟩ := i3
 refine c_sr (o_mv h14 (o_mv h15 (o_mul rfl rfl (o_mv h17 ?_))))
 refine o_add rfl rfl (o_mv h16 ?_)
 obtain ⟨x5, q5, e⟩ := oB e
 refine o_shr rfl rfl q5 (o_add rfl rfl ?_)
 refine o_mv (v := (.int .u64 (IntKind.u64.wrap ((IntKind.u64.wrap ((IntKind.u64.wrap (x1 * x2)) + x4)) + x5)))) rfl ?_
 refine c_nil (c_sr (o_mv h12 (o_mv h13 (o_mul rfl rfl ?_))))
 refine o_mv (v := (.int .u64 (IntKind.u64.wrap (a0 * a1)))) rfl ?_
 refine c_nil ?_
 refine c_gen (P := fun tm => tm 4 = (.int .u64 (IntKind.u64.wrap ((IntKind.u64.wrap ((IntKind.u64.wrap (x1 * x2)) + x4)) + x5))) ∧ tm 5 = (.int .u64 (IntKind.u64.wrap (a0 * a1))) ∧ True) ⟨rfl, rfl, trivial⟩ ?_
 intro _ i4
 obtain ⟨h18, h19, -⟩ := i4
 refine c_rt ?_
 obtain rfl := oJ e
 exact ⟨.inr rfl, _, (ar2 h18 h19), rfl, hs⟩
/-! math_bits_Mul -/
structure Nd.math_bits_Mul (T : FuncId → Option AFunc) : Prop where
  own : Has T I.math_bits_Mul F.math_bits_Mul
  math_bits_Mul64 : Nd.math_bits_Mul64 T
set_option maxHeartbeats 1000000 in
theorem X.math_bits_Mul {T : FuncId → Option AFunc} (nd : Nd.math_bits_Mul T) {Z V : PH} {H : Hp} {a0 : Int} {a1 : Int} (hs : Sat Z V H []) {r : (Int × Int)} (e : P.math_bits_Mul a0 a1 = some r) :
    G T I.math_bits_Mul [(.int .u64 a0), (.int .u64 a1)] H (fun rv H' => rv = (.tuple #[(.int .u64 r.1), (.int .u64 r.2)]) ∧ Sat Z V H' []) := by
 unfold P.math_bits_Mul at e
 refine f_mk nd.own ?_
 refine c_sr ?_
 refine o_mv (v := (.int .u64 0)) rfl ?_
 refine o_mv (v := (.int .u64 0)) rfl ?_
 refine c_nil (c_sq (c_bf rfl (c_sk (c_sr ?_))))
 refine o_mv (v := (.int .u64 a0)) rfl ?_
 refine o_mv (v := (.int .u64 a1)) rfl ?_
 obtain ⟨x1, q1, e⟩ := oB e
 obtain ⟨Z1, V1, W1, g1, u1, c1, c2, -, c4, c3⟩ := Sat.call (l1 := []) hs
 refine o_call (mc rfl (mc rfl m0)) (X.math_bits_Mul64 nd.math_bits_Mul64 c1 q1) fun _ H1 i1 => ?_
 obtain ⟨rfl, s1⟩ := i1
 have s2 := c3 _ _ s1
 refine o_mv (v := (.tuple #[(.int .u64 x1.1), (.int .u64 x1.2)])) rfl ?_
 refine o_ext rfl rfl (o_ext rfl rfl ?_)
 refine o_mv (v := (.int .u64 x1.1)) rfl ?_
 refine o_mv (v := (.int .u64 x1.2)) rfl ?_
 refine c_nil ?_
 refine c_gen (P := fun tm => tm 8 = (.int .u64 x1.1) ∧ tm 9 = (.int .u64 x1.2) ∧ True) ⟨rfl, rfl, trivial⟩ ?_
 intro _ i2
 obtain ⟨h1, h2, -⟩ := i2
 refine c_sr (o_mv h1 (o_mv h2 ?_))
 refine o_mv (v := (.int .u64 x1.1)) rfl ?_
 refine o_mv (v := (.int .u64 x1.2)) rfl ?_
 refine c_nil (c_rt ?_)
 obtain rfl := oJ e
 exact ⟨.inr rfl, _, (ar2 rfl rfl), rfl, (s2.weak g1 hs.zv)⟩
/-! slices_Repeat_int_int -/
structure Nd.slices_Repeat_int_int (T : FuncId → Option AFunc) : Prop where
  own : Has T I.slices_Repeat_int_int F.slices_Repeat_int_int
  math_bits_Mul : Nd.math_bits_Mul T
set_option maxHeartbeats 1000000 in
theorem X.slices_Repeat_int_int {T : FuncId → Option AFunc} (nd : Nd.slices_Repeat_int_int T) {φ : Nat} {Z V : PH} {H : Hp} {v1 : Value} {a0 : (List Int)} {a1 : Int} (hs : Sat Z V H []) (hp1 : RdS Sh.int V v1 a0) {r : (List Int)} (e : P.slices_Repeat_int_int φ a0 a1 = some r) :
    G T I.slices_Repeat_int_int [v1, vi a1] H (fun rv H' => ∃ (u1 : Value), rv = u1 ∧ Sat Z V H' [It.sl Sh.int u1 r]) := by
 unfold P.slices_Repeat_int_int at e
 refine f_mk nd.own ?_
 refine c_sr ?_
 refine o_mv (v := (.slice none 0 0)) rfl ?_
 refine c_nil (c_sq (c_sr ?_))
 refine o_mv (v := (vi a1)) rfl ?_
 refine o_lss rfl rfl (c_nil ?_)
 refine c_ifd rfl (fun q1 => ?_) (fun q1 => ?_)
 ·replace e := if_t q1 e
  refine c_r ?_
  cases e
 replace e := if_f q1 e
 refine c_sk (c_sr ?_)
 refine o_mv (v := v1) rfl ?_
 refine o_len rfl (hp1).len (o_conv rfl ?_)
 refine o_mv (v := (vi a1)) rfl ?_
 refine o_conv rfl ?_
 obtain ⟨x1, q2, e⟩ := oB e
 obtain ⟨Z1, V1, W1, g1, u1, c1, c2, -, c4, c3⟩ := Sat.call (l1 := []) hs
 refine o_call (mc rfl (mc rfl m0)) (X.math_bits_Mul nd.math_bits_Mul c1 q2) fun _ H1 i1 => ?_
 obtain ⟨rfl, s1⟩ := i1
 have s2 := c3 _ _ s1
 refine o_mv (v := (.tuple #[(.int .u64 x1.1), (.int .u64 x1.2)])) rfl ?_
 refine o_ext rfl rfl (o_ext rfl rfl ?_)
 refine o_mv (v := (.int .u64 x1.1)) rfl ?_
 refine o_mv (v := (.int .u64 x1.2)) rfl ?_
 refine c_nil ?_
 refine c_gen (P := fun tm => tm 0 = v1 ∧ tm 5 = (.int .u64 x1.1) ∧ tm 6 = (.int .u64 x1.2) ∧ True) ⟨rfl, rfl, rfl, trivial⟩ ?_
 intro _ i2
 obtain ⟨h1, h2, h3, -⟩ := i2
 refine c_sq (c_sr (o_mv h2 (o_gtr rfl rfl ?_)))
 refine o_mv (v := (.bool (decide (0 < x1.1)))) rfl ?_
 refine o_jn 3 (I := fun tm H => tm 26 = .bool ((decide (0 < x1.1)) || (decide (9223372036854775807 < x1.2))) ∧ (∃ (Z2 V2 : PH), Gw Z1 V1 Z2 V2 ∧ Sat Z2 V2 H [] ∧ tm 0 = v1 ∧ tm 6 = (.int .u64 x1.2))) (fun k1 => ?_) ?_
 ·rcases Bool.eq_false_or_eq_true (decide (0 < x1.1)) with q3 | q3
  ·refine o_gn rfl q3 (o_gn rfl q3 ?_)
   refine o_pickt (a := (.bool true)) rfl q3 rfl ?_
   exact k1 _ _ ⟨gf rfl (by first | (rw [q3]; first | done | rfl) | simp [q3]), _, _, Gw.refl _ _, s2, h1, h3⟩
  refine o_gy rfl q3 (o_mv h3 (o_gy rfl q3 (o_gtr rfl rfl ?_)))
  refine o_pickf (b := (.bool (decide (9223372036854775807 < x1.2)))) rfl q3 rfl ?_
  exact k1 _ _ ⟨gf rfl (by first | (rw [q3]; first | done | rfl) | simp [q3]), _, _, Gw.refl _ _, s2, h1, h3⟩
 intro _ H2 i3
 obtain ⟨h6, Z2, V2, g2, s3, h4, h5⟩ := i3
 refine c_nil ?_
 refine c_if h6 (fun q4 => ?_) (fun q4 => ?_)
 ·replace e := if_t q4 e
  refine c_r ?_
  cases e
 replace e := ib_f q4 e
 refine c_sk (c_sr (o_mv h5 (o_conv rfl ?_)))
 obtain ⟨x2, q5, e⟩ := oB e
 refine o_mks (s := Sh.int) s3 Sh.flat_lt rfl rfl rfl rfl q5 fun w1 H3 s4 => ?_
 refine o_mv (v := w1) rfl ?_
 refine c_nil (c_sr ?_)
 refine o_mv (v := w1) rfl ?_
 refine o_mv h4 ?_
 refine o_cpy 0 s4 rfl rfl rfl (hp1.mono (g1.trans g2).v) s4.v fun H4 s5 => ?_
 refine o_mv (v := (vi (Pu.cpn x2 0 a0))) rfl ?_
 refine c_nil (c_sq ?_)
 obtain ⟨y1, q8, e⟩ := oB e
 refine c_jn (I := fun tm H => ∃ (s8 : ((List Int) × Int)), y1 = .out s8 ∧ (∃ (Z4 V4 : PH), Gw Z2 V2 Z4 V4 ∧ Sat Z4 V4 H [It.sl Sh.int w1 s8.1] ∧ tm 7 = w1 ∧ tm 8 = (vi s8.2))) (fun k5 => ?_) ?_
 ·refine c_bk ?_
  refine l_whl (fun (s6 : ((List Int) × Int)) tm H => ∃ (Z3 V3 : PH), Gw Z2 V2 Z3 V3 ∧ Sat Z3 V3 H [It.sl Sh.int w1 s6.1] ∧ tm 7 = w1 ∧ tm 8 = (vi s6.2)) (fun s6 y2 tm H6 j1 e1 k2 k3 k4 => ?_) q8 ⟨_, _, Gw.refl _ _, s5, rfl, rfl⟩
  obtain ⟨Z3, V3, g3, s7, h7, h8⟩ := j1
  unfold P.slices_Repeat_int_int.b0 at e1
  refine c_sq (c_sr (o_mv h8 (o_mv h7 ?_)))
  refine o_len rfl ((s7.curS (s := Sh.int) 0 rfl)).len ?_
  refine o_lss rfl rfl (c_nil ?_)
  refine c_ifd rfl (fun q9 => ?_) (fun q9 => ?_)
  ·replace e1 := if_t q9 e1
   refine c_sk (c_bk ?_)
   refine d_start s7 fun n1 H8 s10 q10 d1 => ?_
   refine d_mv h8 ?_
   refine d_mv h7 ?_
   refine d_mv h8 ?_
   obtain ⟨x4, q11, e1⟩ := oB e1
   refine d_slclY ((s10.curS 0 rfl).low pR q10) rfl rfl (s10.curS (s := Sh.int) 0 rfl) pR q11 fun w2 h11 h13 => ?_
   refine d_mv h7 ?_
   refine d_mv h8 ?_
   obtain ⟨x5, q12, e1⟩ := oB e1
   refine d_slchX ((s10.curS 0 rfl).low pR q10) rfl rfl (s10.curS (s := Sh.int) 0 rfl) pR rfl q12 fun w3 h14 h15 => ?_
   refine d_cpyP 0 s10 rfl q11 h13 rfl rfl h14 pR fun H9 s11 k6 => ?_
   have d2 := d1.keep k6
   refine d_add rfl rfl ?_
   refine d_mv (v := (vi (Pu.W (s6.2 + (Pu.cpn s6.1 s6.2 x5))))) rfl ?_
   refine d_nil dc_nil ?_
   refine c_end ?_
   exact k2 _ _ _ (sJ e1) ⟨_, _, g3, s11, h7, rfl⟩
  replace e1 := if_f q9 e1
  refine c_ex ?_
  refine e_c ?_
  refine e_c ?_
  refine e_h ?_
  exact k5 _ _ ⟨_, k3 _ (sJ e1), _, _, g3, s7, h7, h8⟩
 intro _ H7 i5
 obtain ⟨s8, f1, Z4, V4, g4, s9, h9, h10⟩ := i5
 replace e := fin_o f1 e
 refine c_sr (o_mv h9 ?_)
 refine o_mv (v := w1) rfl ?_
 refine c_nil (c_rt ?_)
 obtain rfl := oJ e
 exact ⟨.inr rfl, _, (ar1 rfl), _, rfl, (s9.weak (g1.trans (g2.trans g4)) hs.zv)⟩
/-! slices_Clone_int_int -/
structure Nd.slices_Clone_int_int (T : FuncId → Option AFunc) : Prop where
  own : Has T I.slices_Clone_int_int F.slices_Clone_int_int
set_option maxHeartbeats 1000000 in
theorem X.slices_Clone_int_int {T : FuncId → Option AFunc} (nd : Nd.slices_Clone_int_int T) {Z V : PH} {H : Hp} {v1 : Value} {a0 : (List Int)} (hs : Sat Z V H []) (hp1 : RdS Sh.int V v1 a0) {r : (List Int)} (e : P.slices_Clone_int_int a0 = some r) :
    G T I.slices_Clone_int_int [v1] H (fun rv H' => ∃ (u1 : Value), rv = u1 ∧ Sat Z V H' [It.sl Sh.int u1 r]) := by
 unfold P.slices_Clone_int_int at e
 refine f_mk nd.own ?_
 refine c_sr ?_
 refine o_mv (v := (.slice none 0 0)) rfl ?_
 refine c_nil (c_sq (c_sr ?_))
 refine o_mv (v := v1) rfl ?_
 have h1 := hp1
 rcases h1 with ⟨rfl, rfl⟩ | ⟨b0, o0, us0, x0, rfl, hn0⟩
 ·refine o_eq (p := true) rfl rfl rfl ?_
  have e1 : some [] = some r := by simpa [Pu.app] using e
  refine c_nil (c_bt rfl (c_sr ?_))
  refine o_mv (v := (.slice none 0 0)) rfl ?_
  refine c_nil (c_rt ?_)
  obtain rfl := oJ e1
  exact ⟨.inr rfl, _, (ar1 rfl), _, rfl, (hs.push (sl_nil (s := Sh.int)))⟩
 refine o_eq (p := false) rfl rfl rfl ?_
 refine c_nil (c_bf rfl (c_sk (c_sr ?_)))
 refine o_bsl (s := Sh.int) (us := []) (qs := []) (xs := []) hs Sh.flat_lt rfl rfl rfl Els.nil rfl rfl fun w1 H1 s1 => ?_
 refine o_mv (v := (.slice (some ⟨b0, o0, none⟩) a0.length a0.length)) rfl ?_
 obtain ⟨x1, q1, e⟩ := oB e
 refine o_app 0 s1 rfl Sh.flat_lt rfl rfl rfl rfl hp1 s1.v (fun h => h) (by decide) q1 fun w2 H2 s2 => ?_
 refine o_mv (v := w2) rfl ?_
 refine c_nil (c_rt ?_)
 obtain rfl := oJ e
 exact ⟨.inr rfl, _, (ar1 rfl), _, rfl, s2⟩
/-! mini_complete -/
structure Nd.mini_complete (T : FuncId → Option AFunc) : Prop where
  own : Has T I.mini_complete F.mini_complete
  slices_Clone_int_int : Nd.slices_Clone_int_int T
  slices_Repeat_int_int : Nd.slices_Repeat_int_int T
set_option maxHeartbeats 1000000 in
theorem X.mini_complete {T : FuncId → Option AFunc} (nd : Nd.mini_complete T) {φ : Nat} {Z V : PH} {H : Hp} {v1 : Value} {v2 : Value} {a0 : Ty.api_Dfa} (hs : Sat Z V H []) (hp1 : RdS Sh.int V v1 a0.Accept) (hp2 : RdS sI1 V v2 a0.Next) {r : Ty.mini_full} (e : P.mini_complete φ a0 = some r) :
    G T I.mini_complete [(.agg #[vi a0.Start, v1, v2])] H (fun rv H' => ∃ (u1 : Value) (u2 : Value) (u3 : Value), rv = (.agg #[u1, u2, u3]) ∧ Sat Z V H' [It.sl Sh.int u1 r.accept, It.sl sI1 u2 r.next_, It.sl sI2 u3 r.prev]) := by
 unfold P.mini_complete at e
 refine f_mk nd.own ?_
 refine c_sr ?_
 obtain ⟨d1, rfl⟩ := (hp1).val
 obtain ⟨d2, rfl⟩ := (hp2).val
 refine o_box hs rfl rfl fun b1 H1 s1 => ?_
 refine o_new s1 fun b2 H2 s2 => ?_
 refine c_nil (c_sq ?_)
 refine d_start s2 fun n1 H3 s3 q1 d3 => ?_
 refine d_fad rfl ?_
 refine d_ldB (q1 _ _ (ph_some.2 ⟨s3.curB 1 rfl, by simp⟩)) 1 s3 rfl rfl rfl rfl ?_
 refine d_len rfl (hp2).len ?_
 refine d_fad rfl ?_
 refine d_ldB (q1 _ _ (ph_some.2 ⟨s3.curB 1 rfl, by simp⟩)) 1 s3 rfl rfl rfl rfl ?_
 obtain ⟨x1, q2, e⟩ := oB e
 refine d_idx (v := (vS d2 a0.Next)) rfl rfl hp2 rfl q2 fun p1 q3 => ?_
 refine d_lds (RdS.low hp2 s3.v q1) rfl hp2 s3.v q3 q2 fun w1 h1 => ?_
 refine d_len rfl (h1).len ?_
 refine d_mv (v := (vN a0.Next)) rfl ?_
 refine d_mv (v := (vN x1)) rfl ?_
 refine d_nil dc_nil ?_
 refine c_gen (P := fun tm => tm 1 = (pV b1 0) ∧ tm 2 = (pV b2 0) ∧ tm 3 = (vN a0.Next) ∧ tm 4 = (vN x1) ∧ True) ⟨rfl, rfl, rfl, rfl, trivial⟩ ?_
 intro _ i1
 obtain ⟨h2, h3, h4, h5, -⟩ := i1
 refine c_sr (o_fad h2 (o_ldB 1 s3 rfl rfl rfl rfl ?_))
 obtain ⟨x2, q4, e⟩ := oB e
 obtain ⟨Z1, V1, W1, g1, u1, c1, c2, -, c4, c3⟩ := Sat.call (l1 := []) s3
 refine o_call (mc rfl m0) (X.slices_Clone_int_int nd.slices_Clone_int_int c1 (hp1.mono (g1.v.trans u1)) q4) fun w2 H4 i2 => ?_
 obtain ⟨_, rfl, s4⟩ := i2
 have s5 := c3 _ _ s4
 refine o_bsl (s := Sh.int) (us := [(vi (-1))]) (qs := [(0, 1, (vi (-1)))]) (xs := [(-1)]) s5 Sh.flat_lt rfl rfl rfl (Els.cons (c := [(vi (-1))]) rfl Els.nil) rfl rfl fun w3 H5 s6 => ?_
 obtain ⟨x3, q5, e⟩ := oB e
 refine o_app 1 s6 rfl Sh.flat_lt rfl rfl rfl rfl (s6.curS (s := Sh.int) 0 rfl) pR (fun h => h) (by decide) q5 fun w4 H6 s7 => ?_
 obtain ⟨d4, rfl⟩ := ((s7.curS (s := Sh.int) 1 rfl)).val
 refine o_bld (qs := [(0, 1, (vS d4 x3))]) rfl rfl ?_
 refine o_new s7 fun b3 H7 s8 => ?_
 refine o_stB (us' := [(vS d4 x3), (.slice none 0 0), (.slice none 0 0)]) 0 s8 rfl rfl rfl rfl rfl rfl rfl fun H8 s9 => ?_
 refine c_nil (c_sq (c_sr (o_mv h4 (o_add rfl rfl ?_))))
 refine o_mv (v := (vi 0)) rfl ?_
 refine c_nil ?_
 refine c_gen (P := fun tm => tm 1 = (pV b1 0) ∧ tm 2 = (pV b2 0) ∧ tm 3 = (vN a0.Next) ∧ tm 4 = (vN x1) ∧ tm 5 = (pV b3 0) ∧ tm 28 = (vi (Pu.W ((a0.Next.length : Int) + 1))) ∧ tm 29 = (vi 0) ∧ True) ⟨h2, h3, h4, h5, rfl, rfl, rfl, trivial⟩ ?_
 intro _ i3
 obtain ⟨h6, h7, h8, h9, h10, h11, h12, -⟩ := i3
 obtain ⟨x5, q8, e⟩ := oB e
 obtain ⟨rfl, q10⟩ := ranO_some q8
 obtain ⟨y1, q11, e⟩ := oB e
 refine c_bk ?_
 refine l_forP (xs := (Pu.ran (Pu.W ((a0.Next.length : Int) + 1)))) (fun (i4 : Nat) (s10 : (List (List Int))) tm H => tm 29 = vi i4 ∧ ∃ (Z2 V2 : PH) (w5 : Value), Gw Z1 V1 Z2 V2 ∧ Sat Z2 V2 H [pts b1 (.rw 0 [vi a0.Start, (vS d1 a0.Accept), (vS d2 a0.Next)]), pts b2 (.rw 0 [(.slice none 0 0), (.slice none 0 0), (.slice none 0 0)]), pts b3 (.rw 0 [(vS d4 x3), w5, (.slice none 0 0)]), Is Sh.int d4 x3, It.sl sI1 w5 s10] ∧ tm 1 = (pV b1 0) ∧ tm 2 = (pV b2 0) ∧ tm 3 = (vN a0.Next) ∧ tm 4 = (vN x1) ∧ tm 5 = (pV b3 0) ∧ tm 28 = (vi (Pu.W ((a0.Next.length : Int) + 1)))) (fun i4 x4 s10 s12 tm H10 q6 q7 j1 e1 k1 => ?_) (fun tm H9 jd => ?_) q11 ⟨h12, _, _, _, Gw.refl _ _, ((s9.push (sl_nil (s := sI1))).pick [5, 4, 1, 3, 0] rfl), h6, h7, h8, h9, h10, h11⟩
 ·obtain ⟨hti0, Z2, V2, w5, g2, s11, h13, h14, h15, h16, h17, h18⟩ := j1
  unfold P.mini_complete.b0 at e1
  have hti0 := iv hti0 (ran_x q6).symm
  refine c_sr (o_lss hti0 h18 (c_nil (c_sq ?_)))
  refine c_ift rfl (ran_lt q6) ?_
  refine c_sk (c_sq (c_bk (c_sr (o_mv hti0 ?_))))
  refine o_mv (v := (vi x4)) rfl ?_
  refine c_nil (c_sr (o_mv h15 ?_))
  refine o_bsl (s := Sh.int) (us := [(vN a0.Next)]) (qs := [(0, 1, (vN a0.Next))]) (xs := [(a0.Next.length : Int)]) s11 Sh.flat_lt rfl rfl rfl (Els.cons (c := [(vN a0.Next)]) rfl Els.nil) rfl rfl fun w6 H11 s13 => ?_
  refine o_mv h16 ?_
  obtain ⟨x6, q12, e1⟩ := oB e1
  obtain ⟨Z3, V3, W2, g3, u2, c5, c6, -, c8, c7⟩ := Sat.call (l1 := []) s13
  refine o_call (mc rfl (mc rfl m0)) (X.slices_Repeat_int_int nd.slices_Repeat_int_int c5 (c6 0 _ Sh.int _ _ rfl) q12) fun w7 H12 i5 => ?_
  obtain ⟨_, rfl, s14⟩ := i5
  have s15 := c7 _ _ s14
  refine o_mv (v := w7) rfl ?_
  refine c_nil (c_sq (c_sr ?_))
  refine o_mv (v := (vi x4)) rfl ?_
  refine o_mv h15 (o_lss rfl rfl (c_nil ?_))
  refine c_gen (P := fun tm => tm 1 = (pV b1 0) ∧ tm 2 = (pV b2 0) ∧ tm 3 = (vN a0.Next) ∧ tm 4 = (vN x1) ∧ tm 5 = (pV b3 0) ∧ tm 6 = (vi x4) ∧ tm 7 = w7 ∧ tm 28 = (vi (Pu.W ((a0.Next.length : Int) + 1))) ∧ tm 29 = (vi x4) ∧ tm 38 = (.bool (decide (x4 < (a0.Next.length : Int)))) ∧ True) ⟨h13, h14, h15, h16, h17, rfl, rfl, h18, hti0, rfl, trivial⟩ ?_
  intro _ i6
  obtain ⟨h19, h20, h21, h22, h23, h24, h25, h26, h27, h28, -⟩ := i6
  obtain ⟨y2, e2, e1⟩ := oB e1
  refine c_jn (I := fun tm H => ∃ (Z4 V4 : PH), Gw Z3 V3 Z4 V4 ∧ Sat Z4 V4 H [pts b1 (.rw 0 [vi a0.Start, (vS d1 a0.Accept), (vS d2 a0.Next)]), pts b2 (.rw 0 [(.slice none 0 0), (.slice none 0 0), (.slice none 0 0)]), pts b3 (.rw 0 [(vS d4 x3), w5, (.slice none 0 0)]), Is Sh.int d4 x3, It.sl sI1 w5 s10, It.sl Sh.int w7 y2] ∧ tm 1 = (pV b1 0) ∧ tm 2 = (pV b2 0) ∧ tm 3 = (vN a0.Next) ∧ tm 4 = (vN x1) ∧ tm 5 = (pV b3 0) ∧ tm 7 = w7 ∧ tm 28 = (vi (Pu.W ((a0.Next.length : Int) + 1))) ∧ tm 29 = (vi x4)) (fun k2 => ?_) ?_
  ·refine c_ifd h28 (fun q13 => ?_) (fun q13 => ?_)
   ·replace e2 := if_t q13 e2
    refine c_sr (o_fad h19 (o_ldB 2 s15 rfl rfl rfl rfl (o_mv h24 ?_)))
    obtain ⟨x7, q14, e2⟩ := oB e2
    refine o_idx (v := (vS d2 a0.Next)) rfl rfl (hp2.mono (g1.trans (g2.trans g3)).v) rfl q14 fun p2 q15 => ?_
    refine o_lds rfl (hp2.mono (g1.trans (g2.trans g3)).v) s15.v q15 q14 fun w8 h37 => ?_
    refine o_len rfl (h37).len ?_
    refine o_mv (v := (vi 0)) rfl ?_
    refine c_nil ?_
    obtain ⟨y3, q18, e2⟩ := oB e2
    refine c_bk ?_
    refine l_forP (xs := x7) (fun (i7 : Nat) (s17 : (List Int)) tm H => tm 45 = vi i7 ∧ ∃ (Z5 V5 : PH), Gw Z3 V3 Z5 V5 ∧ Sat Z5 V5 H [pts b1 (.rw 0 [vi a0.Start, (vS d1 a0.Accept), (vS d2 a0.Next)]), pts b2 (.rw 0 [(.slice none 0 0), (.slice none 0 0), (.slice none 0 0)]), pts b3 (.rw 0 [(vS d4 x3), w5, (.slice none 0 0)]), Is Sh.int d4 x3, It.sl sI1 w5 s10, It.sl Sh.int w7 s17] ∧ tm 1 = (pV b1 0) ∧ tm 2 = (pV b2 0) ∧ tm 3 = (vN a0.Next) ∧ tm 4 = (vN x1) ∧ tm 5 = (pV b3 0) ∧ tm 7 = w7 ∧ tm 28 = (vi (Pu.W ((a0.Next.length : Int) + 1))) ∧ tm 29 = (vi x4) ∧ tm 43 = w8 ∧ tm 44 = (vN x7)) (fun i7 x8 s17 s19 tm H15 q16 q17 j2 e3 k3 => ?_) (fun tm H14 jd => ?_) q18 ⟨rfl, _, _, Gw.refl _ _, (s15.pick [2, 3, 4, 5, 6, 0] rfl), h19, h20, h21, h22, h23, h25, h26, h27, rfl, rfl⟩
    ·obtain ⟨hti1, Z5, V5, g5, s18, h38, h39, h40, h41, h42, h43, h44, h45, h46, h47⟩ := j2
     unfold P.mini_complete.b1 at e3
     refine c_sr (o_lss hti1 h47 (c_nil (c_sq ?_)))
     refine c_ift rfl (Int.ofNat_lt.2 q17) ?_
     refine c_sk (c_sq (c_bk (c_sr (o_mv hti1 ?_))))
     refine o_idx (v := w8) h46 hti1 (h37.mono g5.v) rfl (Pu.ix_nat.trans q16) fun p3 q19 => ?_
     refine o_ldi rfl (h37.mono g5.v) s18.v q19 (Pu.ix_nat.trans q16) ?_
     refine o_mv (v := (vJ i7)) rfl ?_
     refine o_mv (v := (vi x8)) rfl ?_
     refine c_nil (c_sr ?_)
     refine o_mv (v := (vi x8)) rfl ?_
     refine o_geq rfl rfl (c_nil ?_)
     obtain ⟨y4, e4, e3⟩ := oB e3
     refine c_jn (I := fun tm H => ∃ (Z6 V6 : PH), Gw Z5 V5 Z6 V6 ∧ Sat Z6 V6 H [pts b1 (.rw 0 [vi a0.Start, (vS d1 a0.Accept), (vS d2 a0.Next)]), pts b2 (.rw 0 [(.slice none 0 0), (.slice none 0 0), (.slice none 0 0)]), pts b3 (.rw 0 [(vS d4 x3), w5, (.slice none 0 0)]), Is Sh.int d4 x3, It.sl sI1 w5 s10, It.sl Sh.int w7 y4] ∧ tm 1 = (pV b1 0) ∧ tm 2 = (pV b2 0) ∧ tm 3 = (vN a0.Next) ∧ tm 4 = (vN x1) ∧ tm 5 = (pV b3 0) ∧ tm 7 = w7 ∧ tm 28 = (vi (Pu.W ((a0.Next.length : Int) + 1))) ∧ tm 29 = (vi x4) ∧ tm 43 = w8 ∧ tm 44 = (vN x7) ∧ tm 45 = (vJ i7)) (fun k4 => ?_) ?_
     ·refine c_ifd rfl (fun q20 => ?_) (fun q20 => ?_)
      ·replace e4 := if_t q20 e4
       refine c_r (o_mv h43 ?_)
       refine o_mv (v := (vJ i7)) rfl ?_
       refine o_mv (v := (vi x8)) rfl ?_
       obtain ⟨x9, q21, e4⟩ := oB e4
       refine o_idx (v := w7) rfl rfl (s18.curS (s := Sh.int) 5 rfl) rfl q21 fun p4 q22 => ?_
       refine o_st 5 s18 rfl Sh.flat_lt rfl rfl rfl q22 q21 rfl rfl fun H17 s21 => ?_
       refine c_nil ?_
       obtain rfl := oJ e4
       exact k4 _ _ ⟨_, _, Gw.refl _ _, s21, h38, h39, h40, h41, h42, h43, h44, h45, h46, h47, hti1⟩
      replace e4 := if_f q20 e4
      refine c_sk ?_
      obtain rfl := oJ e4
      exact k4 _ _ ⟨_, _, Gw.refl _ _, s18, h38, h39, h40, h41, h42, h43, h44, h45, h46, h47, hti1⟩
     intro _ H16 i8
     obtain ⟨Z6, V6, g6, s20, h48, h49, h50, h51, h52, h53, h54, h55, h56, h57, h58⟩ := i8
     refine c_end (c_r (o_add h58 rfl ?_))
     refine o_mv (v := (vi (Pu.W ((i7 : Int) + 1)))) rfl ?_
     refine c_nil ?_
     obtain rfl := oJ e3
     exact k3 _ _ ⟨(iv rfl (w_suc q17 (h37).bd)), _, _, (g5.trans g6), s20, h48, h49, h50, h51, h52, h53, h54, h55, h56, h57⟩
    obtain ⟨hte1, Z7, V7, g7, s22, h59, h60, h61, h62, h63, h64, h65, h66, h67, h68⟩ := jd
    refine c_sr (o_lss hte1 h68 (c_nil (c_sq ?_)))
    refine c_iff rfl (Int.lt_irrefl _) ?_
    refine c_ex ?_
    refine e_c ?_
    refine e_c ?_
    refine e_h ?_
    obtain rfl := oJ e2
    exact k2 _ _ ⟨_, _, g7, s22, h59, h60, h61, h62, h63, h64, h65, h66⟩
   replace e2 := if_f q13 e2
   refine c_sk ?_
   obtain rfl := oJ e2
   exact k2 _ _ ⟨_, _, Gw.refl _ _, (s15.pick [2, 3, 4, 5, 6, 0] rfl), h19, h20, h21, h22, h23, h25, h26, h27⟩
  intro _ H13 i9
  obtain ⟨Z4, V4, g4, s16, h29, h30, h31, h32, h33, h34, h35, h36⟩ := i9
  refine c_r (o_fad h33 ?_)
  obtain ⟨d5, rfl⟩ := ((s16.curS (s := sI1) 4 rfl)).val
  refine o_ldB 2 s16 rfl rfl rfl rfl (o_mv h34 ?_)
  have s23 := s16.pull 5 rfl
  refine o_bslH s23 rfl fun w9 H19 s24 => ?_
  obtain ⟨x10, q23, e1⟩ := oB e1
  refine o_appH 4 s24 rfl rfl rfl (by decide) q23 (List.cons_ne_nil _ _) fun w10 H20 s25 => ?_
  refine o_fad h33 ?_
  obtain ⟨d6, rfl⟩ := ((s25.curS (s := sI1) 4 rfl)).val
  refine o_stB (us' := [(vS d4 x3), (vS d6 x10), (.slice none 0 0)]) 2 s25 rfl rfl rfl rfl rfl rfl rfl fun H21 s26 => ?_
  refine c_nil (c_end (c_r (o_add h36 rfl ?_)))
  refine o_mv (v := (vi (Pu.W (x4 + 1)))) rfl ?_
  refine c_nil ?_
  obtain rfl := oJ e1
  exact k1 _ _ ⟨(iv rfl (w_sucR q6 q10)), _, _, _, (g2.trans (g3.trans g4)), s26, h29, h30, h31, h32, h33, h35⟩
 obtain ⟨hte0, Z8, V8, w11, g8, s27, h69, h70, h71, h72, h73, h74⟩ := jd
 refine c_sr (o_lss hte0 h74 (c_nil (c_sq ?_)))
 refine c_iff rfl (ran_done _) ?_
 refine c_ex ?_
 refine e_c ?_
 refine e_c ?_
 refine e_h ?_
 refine c_sq (c_sr (o_mv h72 ?_))
 refine o_mv (v := (vi 0)) rfl ?_
 refine c_nil ?_
 obtain ⟨x12, q26, e⟩ := oB e
 obtain ⟨rfl, q28⟩ := ranO_some q26
 obtain ⟨y5, q29, e⟩ := oB e
 refine c_bk ?_
 refine l_forP (xs := (Pu.ran (x1.length : Int))) (fun (i10 : Nat) (s28 : (List (List (List Int)))) tm H => tm 65 = vi i10 ∧ ∃ (Z9 V9 : PH) (w12 : Value), Gw Z8 V8 Z9 V9 ∧ Sat Z9 V9 H [pts b2 (.rw 0 [(.slice none 0 0), (.slice none 0 0), (.slice none 0 0)]), pts b3 (.rw 0 [(vS d4 x3), w11, w12]), Is Sh.int d4 x3, It.sl sI1 w11 y1, It.sl sI2 w12 s28] ∧ tm 2 = (pV b2 0) ∧ tm 3 = (vN a0.Next) ∧ tm 5 = (pV b3 0) ∧ tm 64 = (vN x1)) (fun i10 x11 s28 s30 tm H24 q24 q25 j3 e5 k5 => ?_) (fun tm H23 jd => ?_) q29 ⟨rfl, _, _, _, Gw.refl _ _, ((s27.push (sl_nil (s := sI2))).pick [2, 3, 4, 5, 0] rfl), h70, h71, h73, rfl⟩
 ·obtain ⟨hti2, Z9, V9, w12, g9, s29, h75, h76, h77, h78⟩ := j3
  unfold P.mini_complete.b2 at e5
  have hti2 := iv hti2 (ran_x q24).symm
  refine c_sr (o_lss hti2 h78 (c_nil (c_sq ?_)))
  refine c_ift rfl (ran_lt q24) ?_
  refine c_sk (c_sq (c_bk (c_sr (o_mv hti2 ?_))))
  refine o_mv (v := (vi x11)) rfl ?_
  refine c_nil (c_sq ?_)
  refine d_start s29 fun n2 H25 s31 q30 d7 => ?_
  refine d_fad h77 ?_
  obtain ⟨d8, rfl⟩ := ((s31.curS (s := sI1) 3 rfl)).val
  obtain ⟨d9, rfl⟩ := ((s31.curS (s := sI2) 4 rfl)).val
  refine d_ldB (q30 _ _ (ph_some.2 ⟨s31.curB 1 rfl, by simp⟩)) 1 s31 rfl rfl rfl rfl ?_
  refine d_mv h76 ?_
  refine d_add rfl rfl ?_
  obtain ⟨x13, q31, e5⟩ := oB e5
  refine d_mksH (s := Sh.int) (d7.get 4 rfl rfl) s31 rfl rfl q31 fun w13 H26 s32 k6 => ?_
  have d10 := d7.next 4 rfl k6
  refine d_bslH (d10.get 5 rfl rfl) s32 rfl fun w14 H27 s33 k7 => ?_
  have d11 := d10.next 5 rfl k7
  obtain ⟨x14, q32, e5⟩ := oB e5
  refine d_appH 4 s33 rfl rfl rfl (by decide) q32 (List.cons_ne_nil _ _) fun w15 H28 s34 k8 => ?_
  have d12 := d11.keep k8
  refine d_fad h77 ?_
  obtain ⟨d13, rfl⟩ := ((s34.curS (s := sI2) 4 rfl)).val
  refine d_stB (us' := [(vS d4 x3), (vS d8 y1), (vS d13 x14)]) 1 s34 rfl rfl rfl rfl rfl rfl rfl fun H29 s35 k9 => ?_
  have d14 := d12.keep k9
  refine d_nil dc_nil ?_
  refine c_gen (P := fun tm => tm 2 = (pV b2 0) ∧ tm 3 = (vN a0.Next) ∧ tm 5 = (pV b3 0) ∧ tm 10 = (vi x11) ∧ tm 64 = (vN x1) ∧ tm 65 = (vi x11) ∧ True) ⟨h75, h76, h77, rfl, h78, hti2, trivial⟩ ?_
  intro _ i11
  obtain ⟨h79, h80, h81, h82, h83, h84, -⟩ := i11
  refine c_sr (o_fad h81 (o_ldB 1 s35 rfl rfl rfl rfl ?_))
  refine o_len rfl ((s35.curS (s := sI1) 3 rfl)).len ?_
  refine o_mv (v := (vi 0)) rfl ?_
  refine c_nil ?_
  obtain ⟨x16, q35, e5⟩ := oB e5
  obtain ⟨rfl, q37⟩ := ranO_some q35
  obtain ⟨y6, q38, e5⟩ := oB e5
  refine c_bk ?_
  refine l_forP (xs := (Pu.ran (y1.length : Int))) (fun (i12 : Nat) (s36 : (List (List (List Int)))) tm H => tm 79 = vi i12 ∧ ∃ (Z10 V10 : PH), Gw Z9 V9 Z10 V10 ∧ Sat Z10 V10 H [pts b2 (.rw 0 [(.slice none 0 0), (.slice none 0 0), (.slice none 0 0)]), pts b3 (.rw 0 [(vS d4 x3), (vS d8 y1), (vS d13 x14)]), Is Sh.int d4 x3, Is sI1 d8 y1, It.sl sI2 (vS d13 x14) s36] ∧ tm 2 = (pV b2 0) ∧ tm 3 = (vN a0.Next) ∧ tm 5 = (pV b3 0) ∧ tm 10 = (vi x11) ∧ tm 64 = (vN x1) ∧ tm 65 = (vi x11) ∧ tm 78 = (vN y1)) (fun i12 x15 s36 s38 tm H31 q33 q34 j4 e6 k10 => ?_) (fun tm H30 jd => ?_) q38 ⟨rfl, _, _, Gw.refl _ _, s35, h79, h80, h81, h82, h83, h84, rfl⟩
  ·obtain ⟨hti3, Z10, V10, g10, s37, h85, h86, h87, h88, h89, h90, h91⟩ := j4
   unfold P.mini_complete.b3 at e6
   have hti3 := iv hti3 (ran_x q33).symm
   refine c_sr (o_lss hti3 h91 (c_nil (c_sq ?_)))
   refine c_ift rfl (ran_lt q33) ?_
   refine c_sk (c_sq (c_bk (c_sr (o_mv hti3 ?_))))
   refine o_mv (v := (vi x15)) rfl ?_
   refine c_nil (c_sr (o_fad h87 (o_ldB 1 s37 rfl rfl rfl rfl ?_)))
   refine o_mv (v := (vi x15)) rfl ?_
   obtain ⟨x17, q39, e6⟩ := oB e6
   refine o_idx (v := (vS d8 y1)) rfl rfl (s37.curS (s := sI1) 3 rfl) rfl q39 fun p5 q40 => ?_
   refine o_ldsv rfl (s37.curS (s := sI1) 3 rfl) pR q40 q39 fun w16 h92 h93 => ?_
   refine o_mv h88 ?_
   obtain ⟨x18, q41, e6⟩ := oB e6
   refine o_idx (v := w16) rfl rfl h92 rfl q41 fun p6 q42 => ?_
   refine o_ldi rfl h92 pR q42 q41 ?_
   refine o_mv (v := (vi x18)) rfl ?_
   refine c_nil ?_
   refine c_gen (P := fun tm => tm 2 = (pV b2 0) ∧ tm 3 = (vN a0.Next) ∧ tm 5 = (pV b3 0) ∧ tm 10 = (vi x11) ∧ tm 11 = (vi x15) ∧ tm 12 = (vi x18) ∧ tm 64 = (vN x1) ∧ tm 65 = (vi x11) ∧ tm 78 = (vN y1) ∧ tm 79 = (vi x15) ∧ True) ⟨h85, h86, h87, h88, rfl, rfl, h89, h90, h91, hti3, trivial⟩ ?_
   intro _ i13
   obtain ⟨h94, h95, h96, h97, h98, h99, h100, h101, h102, h103, -⟩ := i13
   refine d_start s37 fun n3 H32 s39 q43 d15 => ?_
   refine d_fad h96 ?_
   refine d_ldB (q43 _ _ (ph_some.2 ⟨s39.curB 1 rfl, by simp⟩)) 1 s39 rfl rfl rfl rfl ?_
   refine d_mv h97 ?_
   obtain ⟨x19, q44, e6⟩ := oB e6
   refine d_idx (v := (vS d13 x14)) rfl rfl (s39.curS (s := sI2) 4 rfl) rfl q44 fun p7 q45 => ?_
   refine d_foc ((s39.curS 4 rfl).low pR q43) 4 s39 rfl rfl q45 q44 fun w17 s40 => ?_
   have h104 := RdS.low (s40.curS 0 rfl) pR q43
   refine d_mv h99 ?_
   refine d_fad h96 ?_
   refine d_ldB (q43 _ _ (ph_some.2 ⟨s39.curB 1 rfl, by simp⟩)) 2 s40 rfl rfl rfl rfl ?_
   refine d_mv h97 ?_
   obtain ⟨x20, q47, e6⟩ := oB e6
   refine d_idxh 5 s40 rfl rfl rfl rfl q47 fun p8 q46 => ?_
   refine d_ldh ((s39.curS 4 rfl).low pR q43) 5 s40 rfl rfl q46 q47 ?_
   refine d_mv h99 ?_
   obtain ⟨x21, q48, e6⟩ := oB e6
   refine d_idx (v := w17) rfl rfl (s40.curS (s := sI1) 0 rfl) rfl q48 fun p9 q49 => ?_
   refine d_foc h104 0 s40 rfl rfl q49 q48 fun w18 s41 => ?_
   refine d_mv h98 ?_
   refine d_bsl (s := Sh.int) (us := [vi x15]) (qs := [(0, 1, (vi x15))]) (xs := [x15]) (d15.get 15 rfl rfl) s41 Sh.flat_lt rfl rfl rfl (Els.cons (c := [vi x15]) rfl Els.nil) rfl rfl fun w19 H33 s42 k11 => ?_
   have d16 := d15.next 15 rfl k11
   obtain ⟨x22, q50, e6⟩ := oB e6
   refine d_app 1 s42 rfl Sh.flat_lt rfl rfl rfl rfl (s42.curS (s := Sh.int) 0 rfl) pR (fun h => h) (by decide) q50 fun w20 H34 s43 k12 => ?_
   have d17 := d16.keep k12
   obtain ⟨x23, q52, e6⟩ := oB e6
   refine d_idxh 2 s43 rfl rfl rfl rfl q52 fun p10 q51 => ?_
   refine d_hst 2 s43 rfl rfl rfl q51 q52 (s43.curS (s := Sh.int) 1 rfl).one fun H35 s44 k13 => ?_
   have d18 := d17.keep k13
   have s45 := Sat.unfoc 1 rfl (s44.pull 1 rfl)
   have s46 := Sat.unfoc 5 rfl (s45.pull 1 rfl)
   refine d_nil (dc_mk rfl (ta16 (ta2 (tre (trl tr0)))) (ta2 (tra (tre (tl16 tr0)))) (ta2 (tre (tl16 (trl tr0)))) (ag_ldx (w := (vS d13 x14)) w_0 rfl (ldB_v 1 s39 rfl rfl rfl) (ldB_v 4 s42 rfl rfl rfl) (by simp [vsame, vsame1])) (ag_ldx (w := (vS d13 x14)) w_0 rfl (ldB_v 1 s39 rfl rfl rfl) (ldB_v 4 s43 rfl rfl rfl) (by simp [vsame, vsame1])) (dc_mk rfl (ta8 (ta4 (ta2 (tra (tre (tl4 tr0)))))) (ta2 (tra (tre (tl16 tr0)))) (ta2 (tre (tl16 (trl tr0)))) (ag_ldx (w := w17) w_0 rfl (hole_ld 5 s40 rfl q44 q45) (hole_ld 7 s42 rfl q44 q45) (vs_rd (s40.curS (s := sI1) 0 rfl))) (ag_ldx (w := w17) w_0 rfl (hole_ld 5 s40 rfl q44 q45) (hole_ld 7 s43 rfl q44 q45) (vs_rd (s40.curS (s := sI1) 0 rfl))) dc_nil)) ?_
   refine c_end (c_r (o_add h103 rfl ?_))
   refine o_mv (v := (vi (Pu.W (x15 + 1)))) rfl ?_
   refine c_nil ?_
   obtain rfl := oJ e6
   exact k10 _ _ ⟨(iv rfl (w_sucR q33 q37)), _, _, g10, (s46.pick [1, 2, 3, 4, 5] rfl), h94, h95, h96, h97, h100, h101, h102⟩
  obtain ⟨hte3, Z11, V11, g11, s47, h105, h106, h107, h108, h109, h110, h111⟩ := jd
  refine c_sr (o_lss hte3 h111 (c_nil (c_sq ?_)))
  refine c_iff rfl (ran_done _) ?_
  refine c_ex ?_
  refine e_c ?_
  refine e_c ?_
  refine e_h ?_
  refine c_end (c_r (o_add h110 rfl ?_))
  refine o_mv (v := (vi (Pu.W (x11 + 1)))) rfl ?_
  refine c_nil ?_
  obtain rfl := oJ e5
  exact k5 _ _ ⟨(iv rfl (w_sucR q24 q28)), _, _, _, (g9.trans g11), s47, h105, h106, h107, h109⟩
 obtain ⟨hte2, Z12, V12, w21, g12, s48, h112, h113, h114, h115⟩ := jd
 refine c_sr (o_lss hte2 h115 (c_nil (c_sq ?_)))
 refine c_iff rfl (ran_done _) ?_
 refine c_ex ?_
 refine e_c ?_
 refine e_c ?_
 refine e_h ?_
 refine c_sr ?_
 obtain ⟨d19, rfl⟩ := ((s48.curS (s := sI1) 3 rfl)).val
 obtain ⟨d20, rfl⟩ := ((s48.curS (s := sI2) 4 rfl)).val
 refine o_ldB 1 s48 rfl h114 rfl rfl ?_
 refine o_stB (us' := [(vS d4 x3), (vS d19 y1), (vS d20 y5)]) 0 s48 rfl h112 rfl rfl rfl rfl rfl fun H38 s49 => ?_
 refine c_nil (c_rt ?_)
 obtain rfl := oJ e
 exact ⟨.inr rfl, _, (arB 0 s49 rfl h112 rfl rfl), _, _, _, rfl, ((s49.pick [2, 3, 4] rfl).weak (g1.trans (g8.trans g12)) hs.zv)⟩
/-! mini_begin -/
structure Nd.mini_begin (T : FuncId → Option AFunc) : Prop where
  own : Has T I.mini_begin F.mini_begin
set_option maxHeartbeats 1000000 in
theorem X.mini_begin {T : FuncId → Option AFunc} (nd : Nd.mini_begin T) {Z V : PH} {H : Hp} {v1 : Value} {a0 : (List Int)} (hs : Sat Z V H []) (hp1 : RdS Sh.int V v1 a0) {r : Ty.mini_parts} (e : P.mini_begin a0 = some r) :
    G T I.mini_begin [v1] H (fun rv H' => ∃ (o101 : Nat) (u2 : Value) (u3 : Value), rv = (pV o101 0) ∧ Sat Z V H' [pts o101 (.rw 0 [u2, u3]), It.sl Sh.int u2 r.of_, It.sl sI1 u3 r.blocks]) := by
 unfold P.mini_begin at e
 refine f_mk nd.own ?_
 refine c_sr ?_
 refine o_mv (v := (.pointer none)) rfl ?_
 refine c_nil (c_sr ?_)
 refine o_mv (v := v1) rfl ?_
 refine o_len rfl (hp1).len ?_
 obtain ⟨x1, q1, e⟩ := oB e
 refine o_mks (s := Sh.int) hs Sh.flat_lt rfl rfl rfl rfl q1 fun w1 H1 s1 => ?_
 obtain ⟨d1, rfl⟩ := ((s1.curS (s := Sh.int) 0 rfl)).val
 refine o_bld (qs := [(0, 1, (vS d1 x1))]) rfl rfl ?_
 refine o_box s1 rfl rfl fun b1 H2 s2 => ?_
 refine o_mv (v := (pV b1 0)) rfl ?_
 refine c_nil (c_sr ?_)
 refine o_mkmap (vi : Int → Value) (vi : Int → Value) s2 fun b2 H3 s3 => ?_
 refine o_mv (v := (.map (some b2))) rfl ?_
 refine c_nil (c_sq (c_sr ?_))
 refine o_mv (v := v1) rfl ?_
 refine o_len rfl (hp1).len ?_
 refine o_mv (v := (vi 0)) rfl ?_
 refine c_nil ?_
 refine c_gen (P := fun tm => tm 3 = (pV b1 0) ∧ tm 4 = (.map (some b2)) ∧ tm 15 = v1 ∧ tm 16 = (vN a0) ∧ tm 17 = (vi 0) ∧ True) ⟨rfl, rfl, rfl, rfl, rfl, trivial⟩ ?_
 intro _ i1
 obtain ⟨h1, h2, h3, h4, h5, -⟩ := i1
 obtain ⟨y1, q4, e⟩ := oB e
 refine c_bk ?_
 refine l_forP (xs := a0) (fun (i2 : Nat) (s4 : ((List Int) × (List (List Int)) × (List (Int × Int)))) tm H => tm 17 = vi i2 ∧ ∃ (Z1 V1 : PH) (w2 : Value), Gw Z V Z1 V1 ∧ Sat Z1 V1 H [pts b1 (.rw 0 [(vS d1 x1), w2]), It.sl Sh.int (vS d1 x1) s4.1, It.sl sI1 w2 s4.2.1, It.mp vi vi b2 s4.2.2] ∧ tm 3 = (pV b1 0) ∧ tm 4 = (.map (some b2)) ∧ tm 15 = v1 ∧ tm 16 = (vN a0)) (fun i2 x2 s4 s6 tm H5 q2 q3 j1 e1 k1 => ?_) (fun tm H4 jd => ?_) q4 ⟨h5, _, _, _, Gw.refl _ _, ((s3.push (sl_nil (s := sI1))).pick [2, 3, 0, 1] rfl), h1, h2, h3, h4⟩
 ·obtain ⟨hti0, Z1, V1, w2, g1, s5, h6, h7, h8, h9⟩ := j1
  unfold P.mini_begin.b0 at e1
  refine c_sr (o_lss hti0 h9 (c_nil (c_sq ?_)))
  refine c_ift rfl (Int.ofNat_lt.2 q3) ?_
  refine c_sk (c_sq (c_bk (c_sr (o_mv hti0 ?_))))
  refine o_idx (v := v1) h8 hti0 (hp1.mono g1.v) rfl (Pu.ix_nat.trans q2) fun p1 q5 => ?_
  refine o_ldi rfl (hp1.mono g1.v) s5.v q5 (Pu.ix_nat.trans q2) ?_
  refine o_mv (v := (vJ i2)) rfl ?_
  refine o_mv (v := (vi x2)) rfl ?_
  refine c_nil (c_sr (o_mv h7 ?_))
  refine o_mv (v := (vi x2)) rfl ?_
  refine o_mlook Mk.i (q := x2) (z := 0) 3 s5 rfl rfl rfl rfl rfl ?_
  refine o_mv (v := (.tuple #[(vi ((Pu.mget x2 s4.2.2).getD 0)), (.bool ((Pu.mget x2 s4.2.2).isSome))])) rfl ?_
  refine o_ext rfl rfl (o_ext rfl rfl ?_)
  refine o_mv (v := (vi ((Pu.mget x2 s4.2.2).getD 0))) rfl ?_
  refine o_mv (v := (.bool ((Pu.mget x2 s4.2.2).isSome))) rfl ?_
  refine c_nil ?_
  refine c_gen (P := fun tm => tm 3 = (pV b1 0) ∧ tm 4 = (.map (some b2)) ∧ tm 5 = (vJ i2) ∧ tm 6 = (vi x2) ∧ tm 7 = (vi ((Pu.mget x2 s4.2.2).getD 0)) ∧ tm 8 = (.bool ((Pu.mget x2 s4.2.2).isSome)) ∧ tm 15 = v1 ∧ tm 16 = (vN a0) ∧ tm 17 = (vJ i2) ∧ True) ⟨h6, h7, rfl, rfl, rfl, rfl, h8, h9, hti0, trivial⟩ ?_
  intro _ i3
  obtain ⟨h10, h11, h12, h13, h14, h15, h16, h17, h18, -⟩ := i3
  refine c_sq (c_sr (o_mv h15 (o_not rfl (c_nil ?_))))
  obtain ⟨y2, e2, e1⟩ := oB e1
  refine c_jn (I := fun tm H => ∃ (Z2 V2 : PH) (w3 : Value), Gw Z1 V1 Z2 V2 ∧ Sat Z2 V2 H [pts b1 (.rw 0 [(vS d1 x1), w3]), It.sl Sh.int (vS d1 x1) s4.1, It.sl sI1 w3 y2.1, It.mp vi vi b2 y2.2.1] ∧ tm 3 = (pV b1 0) ∧ tm 4 = (.map (some b2)) ∧ tm 5 = (vJ i2) ∧ tm 7 = (vi y2.2.2) ∧ tm 15 = v1 ∧ tm 16 = (vN a0) ∧ tm 17 = (vJ i2)) (fun k2 => ?_) ?_
  ·refine c_if rfl (fun q6 => ?_) (fun q6 => ?_)
   ·replace e2 := if_t q6 e2
    refine c_sr (o_mv h10 (o_nck rfl (o_fad rfl ?_)))
    obtain ⟨d2, rfl⟩ := ((s5.curS (s := sI1) 2 rfl)).val
    refine o_ldB 0 s5 rfl rfl rfl rfl ?_
    refine o_len rfl ((s5.curS (s := sI1) 2 rfl)).len ?_
    refine o_mv (v := (vN s4.2.1)) rfl ?_
    refine c_nil (c_sr (o_mv h11 (o_mv h13 ?_)))
    refine o_mv (v := (vN s4.2.1)) rfl ?_
    refine o_mset Mk.i (q := x2) (v := (s4.2.1.length : Int)) 3 s5 rfl rfl rfl rfl rfl rfl fun H7 s8 => ?_
    refine c_nil ?_
    refine c_gen (P := fun tm => tm 3 = (pV b1 0) ∧ tm 4 = (.map (some b2)) ∧ tm 5 = (vJ i2) ∧ tm 7 = (vN s4.2.1) ∧ tm 15 = v1 ∧ tm 16 = (vN a0) ∧ tm 17 = (vJ i2) ∧ True) ⟨h10, h11, h12, rfl, h16, h17, h18, trivial⟩ ?_
    intro _ i4
    obtain ⟨h26, h27, h28, h29, h30, h31, h32, -⟩ := i4
    refine c_r (o_mv h26 (o_mv h26 (o_nck rfl (o_fad rfl ?_))))
    refine o_ldB 0 s8 rfl rfl rfl rfl ?_
    have s9 := s8.push (sl_nil (s := Sh.int))
    refine o_bslH s9 rfl fun w4 H8 s10 => ?_
    obtain ⟨x3, q7, e2⟩ := oB e2
    refine o_appH 2 s10 rfl rfl rfl (by decide) q7 (List.cons_ne_nil _ _) fun w5 H9 s11 => ?_
    refine o_nck rfl (o_fad rfl ?_)
    obtain ⟨d3, rfl⟩ := ((s11.curS (s := sI1) 2 rfl)).val
    refine o_stB (us' := [(vS d1 x1), (vS d3 x3)]) 0 s11 rfl rfl rfl rfl rfl rfl rfl fun H10 s12 => ?_
    refine c_nil ?_
    obtain rfl := oJ e2
    exact k2 _ _ ⟨_, _, _, Gw.refl _ _, s12, h26, h27, h28, h29, h30, h31, h32⟩
   replace e2 := ib_f q6 e2
   refine c_sk ?_
   obtain rfl := oJ e2
   exact k2 _ _ ⟨_, _, _, Gw.refl _ _, s5, h10, h11, h12, h14, h16, h17, h18⟩
  intro _ H6 i5
  obtain ⟨Z2, V2, w3, g2, s7, h19, h20, h21, h22, h23, h24, h25⟩ := i5
  refine d_start s7 fun n1 H11 s13 q8 d4 => ?_
  refine d_mv h19 ?_
  refine d_nck rfl ?_
  refine d_fad rfl ?_
  obtain ⟨d5, rfl⟩ := ((s13.curS (s := sI1) 2 rfl)).val
  refine d_ldB (q8 _ _ (ph_some.2 ⟨s13.curB 0 rfl, by simp⟩)) 0 s13 rfl rfl rfl rfl ?_
  refine d_mv h21 ?_
  refine d_mv h19 ?_
  refine d_nck rfl ?_
  refine d_fad rfl ?_
  refine d_ldB (q8 _ _ (ph_some.2 ⟨s13.curB 0 rfl, by simp⟩)) 0 s13 rfl rfl rfl rfl ?_
  refine d_mv h22 ?_
  refine d_mv h22 ?_
  refine d_mv h19 ?_
  refine d_nck rfl ?_
  refine d_fad rfl ?_
  refine d_ldB (q8 _ _ (ph_some.2 ⟨s13.curB 0 rfl, by simp⟩)) 0 s13 rfl rfl rfl rfl ?_
  refine d_mv h22 ?_
  obtain ⟨x4, q9, e1⟩ := oB e1
  refine d_idx (v := (vS d5 y2.1)) rfl rfl (s13.curS (s := sI1) 2 rfl) rfl q9 fun p2 q10 => ?_
  refine d_foc ((s13.curS 2 rfl).low pR q8) 2 s13 rfl rfl q10 q9 fun w6 s14 => ?_
  refine d_mv h21 ?_
  refine d_bsl (s := Sh.int) (us := [(vJ i2)]) (qs := [(0, 1, (vJ i2))]) (xs := [(i2 : Int)]) (d4.get 19 rfl rfl) s14 Sh.flat_lt rfl rfl rfl (Els.cons (c := [(vJ i2)]) rfl Els.nil) rfl rfl fun w7 H12 s15 k3 => ?_
  have d6 := d4.next 19 rfl k3
  obtain ⟨x5, q11, e1⟩ := oB e1
  refine d_app 1 s15 rfl Sh.flat_lt rfl rfl rfl rfl (s15.curS (s := Sh.int) 0 rfl) pR (fun h => h) (by decide) q11 fun w8 H13 s16 k4 => ?_
  have d7 := d6.keep k4
  obtain ⟨x6, q12, e1⟩ := oB e1
  refine d_idx (v := (vS d1 x1)) rfl rfl (s16.curS (s := Sh.int) 3 rfl) rfl q12 fun p3 q13 => ?_
  refine d_st 3 s16 rfl Sh.flat_lt rfl rfl rfl q13 q12 rfl rfl fun H14 s17 k5 => ?_
  have d8 := d7.keep k5
  obtain ⟨x7, q15, e1⟩ := oB e1
  refine d_idxh 4 s17 rfl rfl rfl rfl q15 fun p4 q14 => ?_
  refine d_hst 4 s17 rfl rfl rfl q14 q15 (s17.curS (s := Sh.int) 1 rfl).one fun H15 s18 k6 => ?_
  have d9 := d8.keep k6
  have s19 := Sat.unfoc 3 rfl (s18.pull 1 rfl)
  refine d_nil (dc_mk rfl (ta16 (ta4 (ta2 (tre (tl2 (trl tr0)))))) (ta4 (tra (tre (tl16 (tl4 tr0))))) (ta4 (tre (tl16 (tl4 (trl tr0))))) (ag_ldx (w := (vS d1 x1)) w_0 rfl (ldB_v 0 s13 rfl rfl rfl) (ldB_v 2 s15 rfl rfl rfl) (by simp [vsame, vsame1])) (ag_ldx (w := (vS d1 x1)) w_0 rfl (ldB_v 0 s13 rfl rfl rfl) (ldB_v 2 s16 rfl rfl rfl) (by simp [vsame, vsame1])) (dc_mk rfl (ta16 (tra (tre (tl8 tr0)))) (ta4 (tra (tre (tl16 (tl4 tr0))))) (ta4 (tre (tl16 (tl4 (trl tr0))))) (ag_ldx (w := (vS d5 y2.1)) w_0 rfl (ldB_v 0 s13 rfl rfl rfl) (ldB_v 2 s15 rfl rfl rfl) (by simp [vsame, vsame1])) (ag_ldx (w := (vS d5 y2.1)) w_0 rfl (ldB_v 0 s13 rfl rfl rfl) (ldB_v 2 s16 rfl rfl rfl) (by simp [vsame, vsame1])) dc_nil)) ?_
  refine c_end (c_r (o_add h25 rfl ?_))
  refine o_mv (v := (vi (Pu.W ((i2 : Int) + 1)))) rfl ?_
  refine c_nil ?_
  obtain rfl := oJ e1
  exact k1 _ _ ⟨(iv rfl (w_suc q3 (hp1).bd)), _, _, _, (g1.trans g2), (s19.pick [1, 2, 3, 4] rfl), h19, h20, h23, h24⟩
 obtain ⟨hte0, Z3, V3, w9, g3, s20, h33, h34, h35, h36⟩ := jd
 refine c_sr (o_lss hte0 h36 (c_nil (c_sq ?_)))
 refine c_iff rfl (Int.lt_irrefl _) ?_
 refine c_ex ?_
 refine e_c ?_
 refine e_c ?_
 refine e_h ?_
 refine c_sr (o_mv h33 ?_)
 refine o_mv (v := (pV b1 0)) rfl ?_
 refine c_nil (c_rt ?_)
 obtain ⟨d10, rfl⟩ := ((s20.curS (s := sI1) 2 rfl)).val
 obtain rfl := oJ e
 exact ⟨.inr rfl, _, (ar1 rfl), _, _, _, rfl, ((s20.pick [0, 1, 2] rfl).weak g3 hs.zv)⟩
/-! slices_Index_int_int -/
structure Nd.slices_Index_int_int (T : FuncId → Option AFunc) : Prop where
  own : Has T I.slices_Index_int_int F.slices_Index_int_int
set_option maxHeartbeats 1000000 in
theorem X.slices_Index_int_int {T : FuncId → Option AFunc} (nd : Nd.slices_Index_int_int T) {Z V : PH} {H : Hp} {v1 : Value} {a0 : (List Int)} {a1 : Int} (hs : Sat Z V H []) (hp1 : RdS Sh.int V v1 a0) {r : Int} (e : P.slices_Index_int_int a0 a1 = some r) :
    G T I.slices_Index_int_int [v1, vi a1] H (fun rv H' => rv = (vi r) ∧ Sat Z V H' []) := by
 unfold P.slices_Index_int_int at e
 refine f_mk nd.own ?_
 refine c_sr ?_
 refine o_mv (v := (vi 0)) rfl ?_
 refine c_nil (c_sq (c_sr ?_))
 refine o_mv (v := v1) rfl ?_
 refine o_len rfl (hp1).len ?_
 refine o_mv (v := (vi 0)) rfl ?_
 refine c_nil ?_
 obtain ⟨x2, q3, e⟩ := oB e
 obtain ⟨rfl, q5⟩ := ranO_some q3
 obtain ⟨y1, q6, e⟩ := oB e
 refine c_jn (I := fun tm H => ∃ (s3 : Unit), y1 = .out s3 ∧ (∃ (Z2 V2 : PH), Gw Z V Z2 V2 ∧ Sat Z2 V2 H [] ∧ tm 0 = v1 ∧ tm 1 = (vi a1) ∧ tm 7 = (vN a0))) (fun k4 => ?_) ?_
 ·refine c_bk ?_
  refine l_forL (xs := (Pu.ran (a0.length : Int))) (fun (i1 : Nat) (s1 : Unit) tm H => tm 8 = vi i1 ∧ ∃ (Z1 V1 : PH), Gw Z V Z1 V1 ∧ Sat Z1 V1 H [] ∧ tm 0 = v1 ∧ tm 1 = (vi a1) ∧ tm 7 = (vN a0)) (fun i1 x1 s1 y2 tm H2 q1 q2 j1 e1 k1 k2 k3 => ?_) (fun s1 tm H1 jf jd => ?_) q6 ⟨rfl, _, _, Gw.refl _ _, hs, rfl, rfl, rfl⟩
  ·obtain ⟨hti0, Z1, V1, g1, s2, h1, h2, h3⟩ := j1
   unfold P.slices_Index_int_int.b0 at e1
   have hti0 := iv hti0 (ran_x q1).symm
   refine c_sr (o_lss hti0 h3 (c_nil (c_sq ?_)))
   refine c_ift rfl (ran_lt q1) ?_
   refine c_sk (c_sq (c_bk (c_sr (o_mv hti0 ?_))))
   refine o_mv (v := (vi x1)) rfl ?_
   refine c_nil (c_sr (o_mv h2 (o_mv h1 ?_)))
   refine o_mv (v := (vi x1)) rfl ?_
   obtain ⟨x3, q7, e1⟩ := oB e1
   refine o_idx (v := v1) rfl rfl (hp1.mono g1.v) rfl q7 fun p1 q8 => ?_
   refine o_ldi rfl (hp1.mono g1.v) s2.v q8 q7 (o_eql rfl rfl (c_nil ?_))
   refine c_ifd rfl (fun q9 => ?_) (fun q9 => ?_)
   ·replace e1 := if_t q9 e1
    refine c_sr ?_
    refine o_mv (v := (vi x1)) rfl ?_
    refine o_mv (v := (vi x1)) rfl ?_
    refine c_nil ?_
    refine c_gen (P := fun tm => tm 4 = (vi x1) ∧ True) ⟨rfl, trivial⟩ ?_
    intro _ i2
    obtain ⟨h7, -⟩ := i2
    refine c_rt ?_
    have e2 := fin_r (k3 _ (sJ e1)) e
    obtain rfl := oJ e2
    exact ⟨.inr rfl, _, (ar1 h7), rfl, (s2.weak g1 hs.zv)⟩
   replace e1 := if_f q9 e1
   refine c_sk (c_end (c_r (o_add hti0 rfl ?_)))
   refine o_mv (v := (vi (Pu.W (x1 + 1)))) rfl ?_
   refine c_nil ?_
   exact k1 _ _ _ (sJ e1) ⟨(iv rfl (w_sucR q1 q5)), _, _, g1, s2, h1, h2, h3⟩
  ·obtain ⟨hte0, Z3, V3, g3, s5, h8, h9, h10⟩ := jd
   refine c_sr (o_lss hte0 h10 (c_nil (c_sq ?_)))
   refine c_iff rfl (ran_done _) ?_
   refine c_ex ?_
   refine e_c ?_
   refine e_c ?_
   refine e_h ?_
   exact k4 _ _ ⟨_, jf, _, _, g3, s5, h8, h9, h10⟩
 intro _ H3 i3
 obtain ⟨s3, f1, Z2, V2, g2, s4, h4, h5, h6⟩ := i3
 replace e := fin_o f1 e
 refine c_sr ?_
 refine o_mv (v := (vi (-1))) rfl ?_
 refine c_nil (c_rt ?_)
 obtain rfl := oJ e
 exact ⟨.inr rfl, _, (ar1 rfl), rfl, (s4.weak g2 hs.zv)⟩
/-! slices_Contains_int_int -/
structure Nd.slices_Contains_int_int (T : FuncId → Option AFunc) : Prop where
  own : Has T I.slices_Contains_int_int F.slices_Contains_int_int
  slices_Index_int_int : Nd.slices_Index_int_int T
set_option maxHeartbeats 1000000 in
theorem X.slices_Contains_int_int {T : FuncId → Option AFunc} (nd : Nd.slices_Contains_int_int T) {Z V : PH} {H : Hp} {v1 : Value} {a0 : (List Int)} {a1 : Int} (hs : Sat Z V H []) (hp1 : RdS Sh.int V v1 a0) {r : Bool} (e : P.slices_Contains_int_int a0 a1 = some r) :
    G T I.slices_Contains_int_int [v1, vi a1] H (fun rv H' => rv = (.bool r) ∧ Sat Z V H' []) := by
 unfold P.slices_Contains_int_int at e
 refine f_mk nd.own ?_
 refine c_sr ?_
 refine o_mv (v := (.bool false)) rfl ?_
 refine c_nil (c_sr ?_)
 refine o_mv (v := v1) rfl ?_
 refine o_mv (v := (vi a1)) rfl ?_
 obtain ⟨x1, q1, e⟩ := oB e
 obtain ⟨Z1, V1, W1, g1, u1, c1, c2, -, c4, c3⟩ := Sat.call (l1 := []) hs
 refine o_call (mc rfl (mc rfl m0)) (X.slices_Index_int_int nd.slices_Index_int_int c1 (hp1.mono (g1.v.trans u1)) q1) fun _ H1 i1 => ?_
 obtain ⟨rfl, s1⟩ := i1
 have s2 := c3 _ _ s1
 refine o_geq rfl rfl ?_
 refine o_mv (v := (.bool (decide (0 ≤ x1)))) rfl ?_
 refine c_nil (c_rt ?_)
 obtain rfl := oJ e
 exact ⟨.inr rfl, _, (ar1 rfl), rfl, (s2.weak g1 hs.zv)⟩
/-! mini_parts_split -/
structure Nd.mini_parts_split (T : FuncId → Option AFunc) : Prop where
  own : Has T I.mini_parts_split F.mini_parts_split
  slices_Contains_int_int : Nd.slices_Contains_int_int T
set_option maxHeartbeats 1000000 in
theorem X.mini_parts_split {T : FuncId → Option AFunc} (nd : Nd.mini_parts_split T) {Z V : PH} {H : Hp} {v1 : Value} {v2 : Value} {o1 : Nat} {v3 : Value} {a0 : Ty.mini_parts} {a1 : (List Int)} (hs : Sat Z V H [pts o1 (.rw 0 [v1, v2]), It.sl Sh.int v1 a0.of_, It.sl sI1 v2 a0.blocks]) (hp3 : RdS Sh.int V v3 a1) {r : (Ty.mini_parts × (List (Int × Int)))} (e : P.mini_parts_split a0 a1 = some r) :
    G T I.mini_parts_split [(pV o1 0), v3] H (fun rv H' => ∃ (u1 : Value) (u2 : Value) (u3 : Value), rv = u3 ∧ Sat Z V H' [pts o1 (.rw 0 [u1, u2]), It.sl Sh.int u1 r.1.of_, It.sl sI1 u2 r.1.blocks, It.sl (Sh.ro Sh.arr2) u3 r.2]) := by
 unfold P.mini_parts_split at e
 refine f_mk nd.own ?_
 refine c_sr ?_
 refine o_mv (v := (.slice none 0 0)) rfl ?_
 refine c_nil (c_sr ?_)
 refine o_mkmap (vi : Int → Value) (Value.bool : Bool → Value) hs fun b1 H1 s1 => ?_
 refine o_mv (v := (.map (some b1))) rfl ?_
 refine c_nil (c_sr ?_)
 refine o_mv (v := (.slice none 0 0)) rfl ?_
 refine c_nil (c_sq (c_sr ?_))
 refine o_mv (v := v3) rfl ?_
 refine o_len rfl (hp3).len ?_
 refine o_mv (v := (vi 0)) rfl ?_
 refine c_nil ?_
 obtain ⟨y1, q3, e⟩ := oB e
 refine c_bk ?_
 refine l_forP (xs := a1) (fun (i1 : Nat) (s2 : ((List (Int × Bool)) × (List Int))) tm H => tm 22 = vi i1 ∧ ∃ (Z1 V1 : PH) (w1 : Value), Gw Z V Z1 V1 ∧ Sat Z1 V1 H [pts o1 (.rw 0 [v1, v2]), It.sl Sh.int v1 a0.of_, It.sl sI1 v2 a0.blocks, It.mp vi Value.bool b1 s2.1, It.sl Sh.int w1 s2.2] ∧ tm 0 = (pV o1 0) ∧ tm 5 = (.map (some b1)) ∧ tm 6 = w1 ∧ tm 20 = v3 ∧ tm 21 = (vN a1)) (fun i1 x1 s2 s4 tm H3 q1 q2 j1 e1 k1 => ?_) (fun tm H2 jd => ?_) q3 ⟨rfl, _, _, _, Gw.refl _ _, ((s1.push (sl_nil (s := Sh.int))).pick [2, 3, 4, 1, 0] rfl), rfl, rfl, rfl, rfl, rfl⟩
 ·obtain ⟨hti0, Z1, V1, w1, g1, s3, h1, h2, h3, h4, h5⟩ := j1
  unfold P.mini_parts_split.b0 at e1
  refine c_sr (o_lss hti0 h5 (c_nil (c_sq ?_)))
  refine c_ift rfl (Int.ofNat_lt.2 q2) ?_
  refine c_sk (c_sq (c_bk (c_sr ?_)))
  refine o_idx (v := v3) h4 hti0 (hp3.mono g1.v) rfl (Pu.ix_nat.trans q1) fun p1 q4 => ?_
  refine o_ldi rfl (hp3.mono g1.v) s3.v q4 (Pu.ix_nat.trans q1) ?_
  refine o_mv (v := (vi x1)) rfl ?_
  refine c_nil (c_sr (o_mv h2 ?_))
  refine o_mv (v := (vi x1)) rfl ?_
  refine o_mset Mk.i (q := x1) (v := true) 3 s3 rfl rfl rfl rfl rfl rfl fun H4 s5 => ?_
  refine c_nil (c_sr (o_mv h3 (o_mv h1 (o_nck rfl ?_))))
  refine o_fad rfl ?_
  obtain ⟨d1, rfl⟩ := ((s5.curS (s := Sh.int) 1 rfl)).val
  obtain ⟨d2, rfl⟩ := ((s5.curS (s := sI1) 2 rfl)).val
  refine o_ldB 0 s5 rfl rfl rfl rfl ?_
  refine o_mv (v := (vi x1)) rfl ?_
  obtain ⟨x2, q5, e1⟩ := oB e1
  refine o_idx (v := (vS d1 a0.of_)) rfl rfl (s5.curS (s := Sh.int) 1 rfl) rfl q5 fun p2 q6 => ?_
  refine o_ldi rfl (s5.curS (s := Sh.int) 1 rfl) pR q6 q5 ?_
  obtain ⟨x3, q7, e1⟩ := oB e1
  obtain ⟨Z2, V2, W1, g2, u1, c1, c2, -, c4, c3⟩ := Sat.call (l1 := []) s5
  refine o_call (mc rfl (mc rfl m0)) (X.slices_Contains_int_int nd.slices_Contains_int_int c1 (c2 4 _ Sh.int _ _ rfl) q7) fun _ H5 i2 => ?_
  obtain ⟨rfl, s6⟩ := i2
  have s7 := c3 _ _ s6
  refine o_not rfl (c_nil ?_)
  refine c_gen (P := fun tm => tm 0 = (pV o1 0) ∧ tm 5 = (.map (some b1)) ∧ tm 6 = w1 ∧ tm 8 = (vi x1) ∧ tm 20 = v3 ∧ tm 21 = (vN a1) ∧ tm 22 = (vJ i1) ∧ tm 37 = (.bool (!x3)) ∧ True) ⟨h1, h2, h3, rfl, h4, h5, hti0, rfl, trivial⟩ ?_
  intro _ i3
  obtain ⟨h6, h7, h8, h9, h10, h11, h12, h13, -⟩ := i3
  obtain ⟨y2, e2, e1⟩ := oB e1
  refine c_jn (I := fun tm H => ∃ (Z3 V3 : PH) (w2 : Value), Gw Z2 V2 Z3 V3 ∧ Sat Z3 V3 H [pts o1 (.rw 0 [(vS d1 a0.of_), (vS d2 a0.blocks)]), Is Sh.int d1 a0.of_, Is sI1 d2 a0.blocks, It.mp vi Value.bool b1 (Pu.mput x1 true s2.1), It.sl Sh.int w2 y2] ∧ tm 0 = (pV o1 0) ∧ tm 5 = (.map (some b1)) ∧ tm 6 = w2 ∧ tm 20 = v3 ∧ tm 21 = (vN a1) ∧ tm 22 = (vJ i1)) (fun k2 => ?_) ?_
  ·refine c_if h13 (fun q8 => ?_) (fun q8 => ?_)
   ·replace e2 := if_t q8 e2
    refine c_r (o_mv h8 (o_mv h6 (o_nck rfl (o_fad rfl ?_))))
    refine o_ldB 0 s7 rfl rfl rfl rfl (o_mv h9 ?_)
    obtain ⟨x4, q9, e2⟩ := oB e2
    refine o_idx (v := (vS d1 a0.of_)) rfl rfl (s7.curS (s := Sh.int) 1 rfl) rfl q9 fun p3 q10 => ?_
    refine o_ldi rfl (s7.curS (s := Sh.int) 1 rfl) pR q10 q9 ?_
    refine o_bsl (s := Sh.int) (us := [vi x4]) (qs := [(0, 1, (vi x4))]) (xs := [x4]) s7 Sh.flat_lt rfl rfl rfl (Els.cons (c := [vi x4]) rfl Els.nil) rfl rfl fun w3 H7 s9 => ?_
    obtain ⟨x5, q11, e2⟩ := oB e2
    refine o_app 5 s9 rfl Sh.flat_lt rfl rfl rfl rfl (s9.curS (s := Sh.int) 0 rfl) pR (fun h => h) (by decide) q11 fun w4 H8 s10 => ?_
    refine o_mv (v := w4) rfl ?_
    refine c_nil ?_
    obtain rfl := oJ e2
    exact k2 _ _ ⟨_, _, _, Gw.refl _ _, (s10.pick [1, 2, 3, 4, 5] rfl), h6, h7, rfl, h10, h11, h12⟩
   replace e2 := ib_f q8 e2
   refine c_sk ?_
   obtain rfl := oJ e2
   exact k2 _ _ ⟨_, _, _, Gw.refl _ _, s7, h6, h7, h8, h10, h11, h12⟩
  intro _ H6 i4
  obtain ⟨Z3, V3, w2, g3, s8, h14, h15, h16, h17, h18, h19⟩ := i4
  refine c_end (c_r (o_add h19 rfl ?_))
  refine o_mv (v := (vi (Pu.W ((i1 : Int) + 1)))) rfl ?_
  refine c_nil ?_
  obtain rfl := oJ e1
  exact k1 _ _ ⟨(iv rfl (w_suc q2 (hp3).bd)), _, _, _, (g1.trans (g2.trans g3)), s8, h14, h15, h16, h17, h18⟩
 obtain ⟨hte0, Z4, V4, w5, g4, s11, h20, h21, h22, h23, h24⟩ := jd
 refine c_sr (o_lss hte0 h24 (c_nil (c_sq ?_)))
 refine c_iff rfl (Int.lt_irrefl _) ?_
 refine c_ex ?_
 refine e_c ?_
 refine e_c ?_
 refine e_h ?_
 refine c_sr ?_
 refine o_mv (v := (.slice none 0 0)) rfl ?_
 refine c_nil (c_sq (c_sr (o_mv h22 ?_)))
 refine o_len rfl ((s11.curS (s := Sh.int) 4 rfl)).len ?_
 refine o_mv (v := (vi 0)) rfl ?_
 refine c_nil ?_
 obtain ⟨y3, q14, e⟩ := oB e
 refine c_bk ?_
 refine l_forP (xs := y1.2) (fun (i5 : Nat) (s12 : ((List Int) × (List (List Int)) × (List (Int × Int)))) tm H => tm 51 = vi i5 ∧ ∃ (Z5 V5 : PH) (w6 : Value) (w7 : Value), Gw Z4 V4 Z5 V5 ∧ Sat Z5 V5 H [pts o1 (.rw 0 [v1, w6]), It.sl Sh.int v1 s12.1, It.sl sI1 w6 s12.2.1, It.mp vi Value.bool b1 y1.1, It.sl (Sh.ro Sh.arr2) w7 s12.2.2, It.sl Sh.int w5 y1.2] ∧ tm 0 = (pV o1 0) ∧ tm 5 = (.map (some b1)) ∧ tm 9 = w7 ∧ tm 49 = w5 ∧ tm 50 = (vN y1.2)) (fun i5 x6 s12 s14 tm H11 q12 q13 j2 e3 k3 => ?_) (fun tm H10 jd => ?_) q14 ⟨rfl, _, _, _, _, Gw.refl _ _, ((s11.push (sl_nil (s := (Sh.ro Sh.arr2)))).pick [1, 2, 3, 4, 0, 5] rfl), h20, h21, rfl, rfl, rfl⟩
 ·obtain ⟨hti1, Z5, V5, w6, w7, g5, s13, h25, h26, h27, h28, h29⟩ := j2
  unfold P.mini_parts_split.b1 at e3
  refine c_sr (o_lss hti1 h29 (c_nil (c_sq ?_)))
  refine c_ift rfl (Int.ofNat_lt.2 q13) ?_
  refine c_sk (c_sq (c_bk (c_sr ?_)))
  refine o_idx (v := w5) h28 hti1 (s13.curS (s := Sh.int) 5 rfl) rfl (Pu.ix_nat.trans q12) fun p4 q15 => ?_
  refine o_ldi rfl (s13.curS (s := Sh.int) 5 rfl) pR q15 (Pu.ix_nat.trans q12) ?_
  refine o_mv (v := (vi x6)) rfl ?_
  refine c_nil (c_sr ?_)
  refine o_mv (v := (.slice none 0 0)) rfl ?_
  refine o_mv (v := (.slice none 0 0)) rfl ?_
  refine c_nil (c_sq (c_sr (o_mv h25 (o_nck rfl ?_))))
  refine o_fad rfl ?_
  obtain ⟨d3, rfl⟩ := ((s13.curS (s := Sh.int) 1 rfl)).val
  obtain ⟨d4, rfl⟩ := ((s13.curS (s := sI1) 2 rfl)).val
  refine o_ldB 0 s13 rfl rfl rfl rfl ?_
  refine o_mv (v := (vi x6)) rfl ?_
  obtain ⟨x7, q16, e3⟩ := oB e3
  refine o_idx (v := (vS d4 s12.2.1)) rfl rfl (s13.curS (s := sI1) 2 rfl) rfl q16 fun p5 q17 => ?_
  refine o_ldsv rfl (s13.curS (s := sI1) 2 rfl) pR q17 q16 fun w8 h30 h31 => ?_
  refine o_len rfl (h30).len ?_
  refine o_mv (v := (vi 0)) rfl ?_
  refine c_nil ?_
  refine c_gen (P := fun tm => tm 0 = (pV o1 0) ∧ tm 5 = (.map (some b1)) ∧ tm 9 = w7 ∧ tm 11 = (vi x6) ∧ tm 12 = (.slice none 0 0) ∧ tm 13 = (.slice none 0 0) ∧ tm 49 = w5 ∧ tm 50 = (vN y1.2) ∧ tm 51 = (vJ i5) ∧ tm 61 = w8 ∧ tm 62 = (vN x7) ∧ tm 63 = (vi 0) ∧ True) ⟨h25, h26, h27, rfl, rfl, rfl, h28, h29, hti1, rfl, rfl, rfl, trivial⟩ ?_
  intro _ i6
  obtain ⟨h32, h33, h34, h35, h36, h37, h38, h39, h40, h41, h42, h43, -⟩ := i6
  obtain ⟨Z6, V6, W2, g6, u2, c5, c6, -, -, c7⟩ := Sat.call (l1 := [pts o1 (.rw 0 [(vS d3 s12.1), (vS d4 s12.2.1)]), Is Sh.int d3 s12.1, It.mp vi Value.bool b1 y1.1, It.sl (Sh.ro Sh.arr2) w7 s12.2.2, It.sl Sh.int w5 y1.2]) (l2 := [Is sI1 d4 s12.2.1]) (s13.pick [0, 1, 3, 4, 5, 2] rfl)
  have h44 := c6 0 _ sI1 _ _ rfl
  have g7 : Gw Z5 V5 Z6 W2 := ⟨g6.z, g6.v.trans u2, g6.o⟩
  have r1 := RdS.redo h44 c5.v q17 q16 h31
  have z1 := c5.zv
  obtain ⟨y4, q20, e3⟩ := oB e3
  refine c_bk ?_
  refine l_forP (xs := x7) (fun (i7 : Nat) (s15 : ((List Int) × (List Int))) tm H => tm 63 = vi i7 ∧ ∃ (Z7 V7 : PH) (w9 : Value) (w10 : Value), Gw Z6 W2 Z7 V7 ∧ Sat Z7 V7 H [pts o1 (.rw 0 [(vS d3 s12.1), (vS d4 s12.2.1)]), Is Sh.int d3 s12.1, It.mp vi Value.bool b1 y1.1, It.sl (Sh.ro Sh.arr2) w7 s12.2.2, It.sl Sh.int w9 s15.1, It.sl Sh.int w10 s15.2, It.sl Sh.int w5 y1.2] ∧ tm 0 = (pV o1 0) ∧ tm 5 = (.map (some b1)) ∧ tm 9 = w7 ∧ tm 11 = (vi x6) ∧ tm 12 = w9 ∧ tm 13 = w10 ∧ tm 49 = w5 ∧ tm 50 = (vN y1.2) ∧ tm 51 = (vJ i5) ∧ tm 61 = w8 ∧ tm 62 = (vN x7)) (fun i7 x8 s15 s17 tm H13 q18 q19 j3 e4 k4 => ?_) (fun tm H12 jd => ?_) q20 ⟨h43, _, _, _, _, Gw.refl _ _, (((c5.push (sl_nil (s := Sh.int))).push (sl_nil (s := Sh.int))).pick [2, 3, 4, 5, 1, 0, 6] rfl), h32, h33, h34, h35, h36, h37, h38, h39, h40, h41, h42⟩
  ·obtain ⟨hti2, Z7, V7, w9, w10, g8, s16, h45, h46, h47, h48, h49, h50, h51, h52, h53, h54, h55⟩ := j3
   unfold P.mini_parts_split.b2 at e4
   refine c_sr (o_lss hti2 h55 (c_nil (c_sq ?_)))
   refine c_ift rfl (Int.ofNat_lt.2 q19) ?_
   refine c_sk (c_sq (c_bk (c_sr ?_)))
   refine o_idx (v := w8) h54 hti2 (r1.1.mono g8.v) rfl (Pu.ix_nat.trans q18) fun p6 q21 => ?_
   refine o_ldi rfl (r1.1.mono g8.v) s16.v q21 (Pu.ix_nat.trans q18) ?_
   refine o_mv (v := (vi x8)) rfl ?_
   refine c_nil (c_sr (o_mv h46 ?_))
   refine o_mv (v := (vi x8)) rfl ?_
   refine o_mlook1 Mk.i (q := x8) (z := false) 2 s16 rfl rfl rfl rfl rfl ?_
   refine c_nil ?_
   obtain ⟨y5, e5, e4⟩ := oB e4
   refine c_jn (I := fun tm H => ∃ (Z8 V8 : PH) (w11 : Value) (w12 : Value), Gw Z7 V7 Z8 V8 ∧ Sat Z8 V8 H [pts o1 (.rw 0 [(vS d3 s12.1), (vS d4 s12.2.1)]), Is Sh.int d3 s12.1, It.mp vi Value.bool b1 y1.1, It.sl (Sh.ro Sh.arr2) w7 s12.2.2, It.sl Sh.int w11 y5.1, It.sl Sh.int w12 y5.2, It.sl Sh.int w5 y1.2] ∧ tm 0 = (pV o1 0) ∧ tm 5 = (.map (some b1)) ∧ tm 9 = w7 ∧ tm 11 = (vi x6) ∧ tm 12 = w11 ∧ tm 13 = w12 ∧ tm 49 = w5 ∧ tm 50 = (vN y1.2) ∧ tm 51 = (vJ i5) ∧ tm 61 = w8 ∧ tm 62 = (vN x7) ∧ tm 63 = (vJ i7)) (fun k5 => ?_) ?_
   ·refine c_if rfl (fun q22 => ?_) (fun q22 => ?_)
    ·replace e5 := if_t q22 e5
     refine c_r (o_mv h49 ?_)
     refine o_mv (v := (vi x8)) rfl ?_
     refine o_bsl (s := Sh.int) (us := [vi x8]) (qs := [(0, 1, (vi x8))]) (xs := [x8]) s16 Sh.flat_lt rfl rfl rfl (Els.cons (c := [vi x8]) rfl Els.nil) rfl rfl fun w13 H15 s19 => ?_
     obtain ⟨x9, q23, e5⟩ := oB e5
     refine o_app 5 s19 rfl Sh.flat_lt rfl rfl rfl rfl (s19.curS (s := Sh.int) 0 rfl) pR (fun h => h) (by decide) q23 fun w14 H16 s20 => ?_
     refine o_mv (v := w14) rfl ?_
     refine c_nil ?_
     obtain rfl := oJ e5
     exact k5 _ _ ⟨_, _, _, _, Gw.refl _ _, (s20.pick [1, 2, 3, 4, 5, 6, 7] rfl), h45, h46, h47, h48, rfl, h50, h51, h52, h53, h54, h55, hti2⟩
    replace e5 := ib_f q22 e5
    refine c_r (o_mv h50 ?_)
    refine o_mv (v := (vi x8)) rfl ?_
    refine o_bsl (s := Sh.int) (us := [vi x8]) (qs := [(0, 1, (vi x8))]) (xs := [x8]) s16 Sh.flat_lt rfl rfl rfl (Els.cons (c := [vi x8]) rfl Els.nil) rfl rfl fun w15 H17 s21 => ?_
    obtain ⟨x10, q24, e5⟩ := oB e5
    refine o_app 6 s21 rfl Sh.flat_lt rfl rfl rfl rfl (s21.curS (s := Sh.int) 0 rfl) pR (fun h => h) (by decide) q24 fun w16 H18 s22 => ?_
    refine o_mv (v := w16) rfl ?_
    refine c_nil ?_
    obtain rfl := oJ e5
    exact k5 _ _ ⟨_, _, _, _, Gw.refl _ _, (s22.pick [1, 2, 3, 4, 5, 6, 7] rfl), h45, h46, h47, h48, h49, rfl, h51, h52, h53, h54, h55, hti2⟩
   intro _ H14 i8
   obtain ⟨Z8, V8, w11, w12, g9, s18, h56, h57, h58, h59, h60, h61, h62, h63, h64, h65, h66, h67⟩ := i8
   refine c_end (c_r (o_add h67 rfl ?_))
   refine o_mv (v := (vi (Pu.W ((i7 : Int) + 1)))) rfl ?_
   refine c_nil ?_
   obtain rfl := oJ e4
   exact k4 _ _ ⟨(iv rfl (w_suc q19 (r1.1).bd)), _, _, _, _, (g8.trans g9), s18, h56, h57, h58, h59, h60, h61, h62, h63, h64, h65, h66⟩
  obtain ⟨hte2, Z9, V9, w17, w18, g10, s23, h68, h69, h70, h71, h72, h73, h74, h75, h76, h77, h78⟩ := jd
  refine c_sr (o_lss hte2 h78 (c_nil (c_sq ?_)))
  refine c_iff rfl (Int.lt_irrefl _) ?_
  refine c_ex ?_
  refine e_c ?_
  refine e_c ?_
  refine e_h ?_
  have s24 := c7 _ _ (Sat.weak g10 z1 s23)
  refine c_sq (c_sr (o_mv h73 ?_))
  refine o_len rfl ((s24.curS (s := Sh.int) 5 rfl)).len ?_
  refine o_eql rfl rfl (c_nil ?_)
  refine c_ifd rfl (fun q25 => ?_) (fun q25 => ?_)
  ·replace e3 := if_t q25 e3
   refine c_ex ?_
   refine e_c ?_
   refine e_h ?_
   refine c_r (o_add h76 rfl ?_)
   refine o_mv (v := (vi (Pu.W ((i5 : Int) + 1)))) rfl ?_
   refine c_nil ?_
   obtain rfl := oJ e3
   exact k3 _ _ ⟨(iv rfl (w_suc q13 ((s11.curS (s := Sh.int) 4 rfl)).bd)), _, _, _, _, (g5.trans g6), (s24.pick [0, 1, 7, 2, 3, 6] rfl), h68, h69, h70, h74, h75⟩
  replace e3 := if_f q25 e3
  refine c_sk (c_sr (o_mv h68 (o_nck rfl (o_fad rfl ?_))))
  refine o_ldB 0 s24 rfl rfl rfl rfl ?_
  refine o_len rfl ((s24.curS (s := sI1) 7 rfl)).len ?_
  refine o_mv (v := (vN s12.2.1)) rfl ?_
  refine c_nil ?_
  refine c_gen (P := fun tm => tm 0 = (pV o1 0) ∧ tm 5 = (.map (some b1)) ∧ tm 9 = w7 ∧ tm 11 = (vi x6) ∧ tm 12 = w17 ∧ tm 13 = w18 ∧ tm 16 = (vN s12.2.1) ∧ tm 49 = w5 ∧ tm 50 = (vN y1.2) ∧ tm 51 = (vJ i5) ∧ True) ⟨h68, h69, h70, h71, h72, h73, rfl, h74, h75, h76, trivial⟩ ?_
  intro _ i9
  obtain ⟨h79, h80, h81, h82, h83, h84, h85, h86, h87, h88, -⟩ := i9
  refine c_sr (o_mv h79 (o_nck rfl (o_fad rfl (o_ldB 0 s24 rfl rfl rfl rfl ?_))))
  refine o_mv h82 (o_mv h83 ?_)
  obtain ⟨x11, q26, e3⟩ := oB e3
  refine o_idx (v := (vS d4 s12.2.1)) rfl rfl (s24.curS (s := sI1) 7 rfl) rfl q26 fun p7 q27 => ?_
  have s25 := s24.pull 4 rfl
  refine o_stH 6 s25 rfl rfl rfl q27 q26 fun H20 s26 => ?_
  refine c_nil (c_sr (o_mv h79 (o_mv h79 (o_nck rfl ?_))))
  refine o_fad rfl (o_ldB 0 s26 rfl rfl rfl rfl (o_mv h84 ?_))
  have s27 := s26.pull 4 rfl
  refine o_bslHE s27 rfl fun w19 H21 h89 s28 => ?_
  obtain ⟨x12, q28, e3⟩ := oB e3
  refine o_appHE 5 h89 s28 rfl rfl rfl (by decide) q28 fun w20 H22 p8 s29 q29 q30 h90 h91 => ?_
  refine o_nck rfl (o_fad rfl ?_)
  obtain ⟨d5, rfl⟩ := ((s29.curS (s := sI1) 5 rfl)).val
  refine o_stBE (us' := [(vS d3 s12.1), (vS d5 x12)]) 0 s29 rfl rfl rfl rfl rfl rfl rfl fun H23 h92 s30 => ?_
  have h93 := vl_frame (s := Sh.int) (j := ((Pu.st s12.2.1 x6 y4.1).length : Int)) 0 5 s29 rfl rfl rfl q29 h90 h92
  have h94 := (RdS.redo (s := Sh.int) (s30.curS 5 rfl) pR q29 q30 h93).1
  refine c_nil ?_
  refine c_gen (P := fun tm => tm 0 = (pV o1 0) ∧ tm 5 = (.map (some b1)) ∧ tm 9 = w7 ∧ tm 11 = (vi x6) ∧ tm 13 = w18 ∧ tm 16 = (vN s12.2.1) ∧ tm 49 = w5 ∧ tm 50 = (vN y1.2) ∧ tm 51 = (vJ i5) ∧ True) ⟨h79, h80, h81, h82, h84, h85, h86, h87, h88, trivial⟩ ?_
  intro _ i10
  obtain ⟨h95, h96, h97, h98, h99, h100, h101, h102, h103, -⟩ := i10
  refine c_sq (c_sr (o_mv h99 (o_len rfl (h94).len ?_)))
  refine o_mv (v := (vi 0)) rfl ?_
  refine c_nil ?_
  obtain ⟨Z10, V10, W3, g11, u3, c8, c9, -, -, c10⟩ := Sat.call (l1 := [pts o1 (.rw 0 [(vS d3 s12.1), (vS d5 x12)]), Is Sh.int d3 s12.1, It.mp vi Value.bool b1 y1.1, It.sl (Sh.ro Sh.arr2) w7 s12.2.2, It.sl Sh.int w5 y1.2]) (l2 := [Is sI1 d5 x12]) s30
  have h104 := c9 0 _ sI1 _ _ rfl
  have g12 : Gw Z6 V6 Z10 W3 := ⟨g11.z, g11.v.trans u3, g11.o⟩
  have r2 := RdS.redo h104 c8.v q29 q30 h93
  have r3 := RdS.redo h104 c8.v q29 q30 h93
  have z2 := c8.zv
  obtain ⟨y6, q33, e3⟩ := oB e3
  refine c_bk ?_
  refine l_forP (xs := y4.2) (fun (i11 : Nat) (s31 : (List Int)) tm H => tm 106 = vi i11 ∧ ∃ (Z11 V11 : PH), Gw Z10 W3 Z11 V11 ∧ Sat Z11 V11 H [pts o1 (.rw 0 [(vS d3 s12.1), (vS d5 x12)]), It.sl Sh.int (vS d3 s12.1) s31, It.mp vi Value.bool b1 y1.1, It.sl (Sh.ro Sh.arr2) w7 s12.2.2, It.sl Sh.int w5 y1.2] ∧ tm 0 = (pV o1 0) ∧ tm 5 = (.map (some b1)) ∧ tm 9 = w7 ∧ tm 11 = (vi x6) ∧ tm 16 = (vN s12.2.1) ∧ tm 49 = w5 ∧ tm 50 = (vN y1.2) ∧ tm 51 = (vJ i5) ∧ tm 104 = w18 ∧ tm 105 = (vN y4.2)) (fun i11 x13 s31 s33 tm H25 q31 q32 j4 e6 k6 => ?_) (fun tm H24 jd => ?_) q33 ⟨rfl, _, _, Gw.refl _ _, c8, h95, h96, h97, h98, h100, h101, h102, h103, rfl, rfl⟩
  ·obtain ⟨hti3, Z11, V11, g13, s32, h105, h106, h107, h108, h109, h110, h111, h112, h113, h114⟩ := j4
   unfold P.mini_parts_split.b3 at e6
   refine c_sr (o_lss hti3 h114 (c_nil (c_sq ?_)))
   refine c_ift rfl (Int.ofNat_lt.2 q32) ?_
   refine c_sk (c_sq (c_bk (c_sr ?_)))
   refine o_idx (v := w18) h113 hti3 (r3.1.mono g13.v) rfl (Pu.ix_nat.trans q31) fun p9 q34 => ?_
   refine o_ldi rfl (r3.1.mono g13.v) s32.v q34 (Pu.ix_nat.trans q31) ?_
   refine o_mv (v := (vi x13)) rfl ?_
   refine c_nil (c_r (o_mv h105 (o_nck rfl (o_fad rfl ?_))))
   refine o_ldB 0 s32 rfl rfl rfl rfl ?_
   refine o_mv (v := (vi x13)) rfl ?_
   refine o_mv h109 ?_
   obtain ⟨x14, q35, e6⟩ := oB e6
   refine o_idx (v := (vS d3 s12.1)) rfl rfl (s32.curS (s := Sh.int) 1 rfl) rfl q35 fun p10 q36 => ?_
   refine o_st 1 s32 rfl Sh.flat_lt rfl rfl rfl q36 q35 rfl rfl fun H26 s34 => ?_
   refine c_nil (c_end (c_r (o_add hti3 rfl ?_)))
   refine o_mv (v := (vi (Pu.W ((i11 : Int) + 1)))) rfl ?_
   refine c_nil ?_
   obtain rfl := oJ e6
   exact k6 _ _ ⟨(iv rfl (w_suc q32 (r3.1).bd)), _, _, g13, s34, h105, h106, h107, h108, h109, h110, h111, h112, h113, h114⟩
  obtain ⟨hte3, Z12, V12, g14, s35, h115, h116, h117, h118, h119, h120, h121, h122, h123, h124⟩ := jd
  refine c_sr (o_lss hte3 h124 (c_nil (c_sq ?_)))
  refine c_iff rfl (Int.lt_irrefl _) ?_
  refine c_ex ?_
  refine e_c ?_
  refine e_c ?_
  refine e_h ?_
  have s36 := c10 _ _ (Sat.weak g14 z2 s35)
  refine c_r (o_mv h117 (o_mv h118 (o_mv h119 ?_)))
  refine o_bld (qs := [(0, 1, (vi x6)), (1, 1, (vN s12.2.1))]) rfl rfl ?_
  refine o_bsl (s := (Sh.ro Sh.arr2)) (us := [vi x6, (vN s12.2.1)]) (qs := [(0, 2, (.agg #[vi x6, (vN s12.2.1)]))]) (xs := [(x6, (s12.2.1.length : Int))]) s36 (Sh.ro_lt _) rfl rfl rfl (Els.cons (c := [vi x6, (vN s12.2.1)]) rfl Els.nil) rfl rfl fun w21 H28 s37 => ?_
  obtain ⟨Z13, V13, g15, s38, h125⟩ := s37.frzS 0 rfl
  replace h125 := h125.of_ro
  obtain ⟨x15, q37, e3⟩ := oB e3
  refine o_app 3 s38 rfl (Sh.ro_lt _) rfl rfl rfl rfl h125 s38.z (fun h => h) (by decide) q37 fun w22 H29 s39 => ?_
  refine o_mv (v := w22) rfl ?_
  refine c_nil (c_end (c_r (o_add h122 rfl ?_)))
  refine o_mv (v := (vi (Pu.W ((i5 : Int) + 1)))) rfl ?_
  refine c_nil ?_
  obtain rfl := oJ e3
  exact k3 _ _ ⟨(iv rfl (w_suc q13 ((s11.curS (s := Sh.int) 4 rfl)).bd)), _, _, _, _, (g5.trans (g6.trans (g11.trans g15))), (s39.pick [0, 1, 5, 2, 3, 4] rfl), h115, h116, rfl, h120, h121⟩
 obtain ⟨hte1, Z14, V14, w23, w24, g16, s40, h126, h127, h128, h129, h130⟩ := jd
 refine c_sr (o_lss hte1 h130 (c_nil (c_sq ?_)))
 refine c_iff rfl (Int.lt_irrefl _) ?_
 refine c_ex ?_
 refine e_c ?_
 refine e_c ?_
 refine e_h ?_
 refine c_sr (o_mv h128 ?_)
 refine o_mv (v := w24) rfl ?_
 refine c_nil (c_rt ?_)
 obtain ⟨d6, rfl⟩ := ((s40.curS (s := Sh.int) 1 rfl)).val
 obtain ⟨d7, rfl⟩ := ((s40.curS (s := sI1) 2 rfl)).val
 obtain rfl := oJ e
 exact ⟨.inr rfl, _, (ar1 rfl), _, _, _, rfl, ((s40.pick [0, 1, 2, 4] rfl).weak (g4.trans g16) hs.zv)⟩
/-! slices_Index_mini_task_mini_task -/
structure Nd.slices_Index_mini_task_mini_task (T : FuncId → Option AFunc) : Prop where
  own : Has T I.slices_Index_mini_task_mini_task F.slices_Index_mini_task_mini_task
set_option maxHeartbeats 1000000 in
theorem X.slices_Index_mini_task_mini_task {T : FuncId → Option AFunc} (nd : Nd.slices_Index_mini_task_mini_task T) {Z V : PH} {H : Hp} {v1 : Value} {a0 : (List Ty.mini_task)} {a1 : Ty.mini_task} (hs : Sat Z V H []) (hp1 : RdS Sh.mini_task V v1 a0) {r : Int} (e : P.slices_Index_mini_task_mini_task a0 a1 = some r) :
    G T I.slices_Index_mini_task_mini_task [v1, (.agg #[vi a1.block, vi a1.by_])] H (fun rv H' => rv = (vi r) ∧ Sat Z V H' []) := by
 unfold P.slices_Index_mini_task_mini_task at e
 refine f_mk nd.own ?_
 refine c_sr ?_
 refine o_box hs rfl rfl fun b1 H1 s1 => ?_
 refine o_mv (v := (vi 0)) rfl ?_
 refine c_nil (c_sq (c_sr ?_))
 refine o_mv (v := v1) rfl ?_
 refine o_len rfl (hp1).len ?_
 refine o_mv (v := (vi 0)) rfl ?_
 refine c_nil ?_
 obtain ⟨x2, q3, e⟩ := oB e
 obtain ⟨rfl, q5⟩ := ranO_some q3
 obtain ⟨y1, q6, e⟩ := oB e
 refine c_jn (I := fun tm H => ∃ (s4 : Unit), y1 = .out s4 ∧ (∃ (Z2 V2 : PH), Gw Z V Z2 V2 ∧ Sat Z2 V2 H [pts b1 (.rw 0 [vi a1.block, vi a1.by_])] ∧ tm 0 = v1 ∧ tm 3 = (pV b1 0) ∧ tm 7 = (vN a0))) (fun k4 => ?_) ?_
 ·refine c_bk ?_
  refine l_forL (xs := (Pu.ran (a0.length : Int))) (fun (i1 : Nat) (s2 : Unit) tm H => tm 8 = vi i1 ∧ ∃ (Z1 V1 : PH), Gw Z V Z1 V1 ∧ Sat Z1 V1 H [pts b1 (.rw 0 [vi a1.block, vi a1.by_])] ∧ tm 0 = v1 ∧ tm 3 = (pV b1 0) ∧ tm 7 = (vN a0)) (fun i1 x1 s2 y2 tm H3 q1 q2 j1 e1 k1 k2 k3 => ?_) (fun s2 tm H2 jf jd => ?_) q6 ⟨rfl, _, _, Gw.refl _ _, s1, rfl, rfl, rfl⟩
  ·obtain ⟨hti0, Z1, V1, g1, s3, h1, h2, h3⟩ := j1
   unfold P.slices_Index_mini_task_mini_task.b0 at e1
   have hti0 := iv hti0 (ran_x q1).symm
   refine c_sr (o_lss hti0 h3 (c_nil (c_sq ?_)))
   refine c_ift rfl (ran_lt q1) ?_
   refine c_sk (c_sq (c_bk (c_sr (o_mv hti0 ?_))))
   refine o_mv (v := (vi x1)) rfl ?_
   refine c_nil (c_sq ?_)
   refine d_start s3 fun n1 H5 s6 q7 d1 => ?_
   refine d_ldB (q7 _ _ (ph_some.2 ⟨s6.curB 0 rfl, by simp⟩)) 0 s6 rfl h2 rfl rfl ?_
   refine d_mv h1 ?_
   refine d_mv (v := (vi x1)) rfl ?_
   obtain ⟨x3, q8, e1⟩ := oB e1
   refine d_idx (v := v1) rfl rfl (hp1.mono g1.v) rfl q8 fun p1 q9 => ?_
   refine d_lda (RdS.low (hp1.mono g1.v) s6.v q7) rfl hp1 (g1.v.trans s6.v) rfl q9 q8 fun c1 h7 => ?_
   obtain rfl := h7
   refine d_eq (q_mini_task ..) rfl rfl ?_
   refine d_nil dc_nil ?_
   refine c_if rfl (fun q10 => ?_) (fun q10 => ?_)
   ·replace e1 := if_t q10 e1
    refine c_sr ?_
    refine o_mv (v := (vi x1)) rfl ?_
    refine o_mv (v := (vi x1)) rfl ?_
    refine c_nil ?_
    refine c_gen (P := fun tm => tm 4 = (vi x1) ∧ True) ⟨rfl, trivial⟩ ?_
    intro _ i2
    obtain ⟨h8, -⟩ := i2
    refine c_rt ?_
    have e2 := fin_r (k3 _ (sJ e1)) e
    obtain rfl := oJ e2
    exact ⟨.inr rfl, _, (ar1 h8), rfl, ((s6.pick [] rfl).weak g1 hs.zv)⟩
   replace e1 := ib_f q10 e1
   refine c_sk (c_end (c_r (o_add hti0 rfl ?_)))
   refine o_mv (v := (vi (Pu.W (x1 + 1)))) rfl ?_
   refine c_nil ?_
   exact k1 _ _ _ (sJ e1) ⟨(iv rfl (w_sucR q1 q5)), _, _, g1, s6, h1, h2, h3⟩
  ·obtain ⟨hte0, Z3, V3, g3, s7, h9, h10, h11⟩ := jd
   refine c_sr (o_lss hte0 h11 (c_nil (c_sq ?_)))
   refine c_iff rfl (ran_done _) ?_
   refine c_ex ?_
   refine e_c ?_
   refine e_c ?_
   refine e_h ?_
   exact k4 _ _ ⟨_, jf, _, _, g3, s7, h9, h10, h11⟩
 intro _ H4 i3
 obtain ⟨s4, f1, Z2, V2, g2, s5, h4, h5, h6⟩ := i3
 replace e := fin_o f1 e
 refine c_sr ?_
 refine o_mv (v := (vi (-1))) rfl ?_
 refine c_nil (c_rt ?_)
 obtain rfl := oJ e
 exact ⟨.inr rfl, _, (ar1 rfl), rfl, ((s5.pick [] rfl).weak g2 hs.zv)⟩
/-! slices_Contains_mini_task_mini_task -/
structure Nd.slices_Contains_mini_task_mini_task (T : FuncId → Option AFunc) : Prop where
  own : Has T I.slices_Contains_mini_task_mini_task F.slices_Contains_mini_task_mini_task
  slices_Index_mini_task_mini_task : Nd.slices_Index_mini_task_mini_task T
set_option maxHeartbeats 1000000 in
theorem X.slices_Contains_mini_task_mini_task {T : FuncId → Option AFunc} (nd : Nd.slices_Contains_mini_task_mini_task T) {Z V : PH} {H : Hp} {v1 : Value} {a0 : (List Ty.mini_task)} {a1 : Ty.mini_task} (hs : Sat Z V H []) (hp1 : RdS Sh.mini_task V v1 a0) {r : Bool} (e : P.slices_Contains_mini_task_mini_task a0 a1 = some r) :
    G T I.slices_Contains_mini_task_mini_task [v1, (.agg #[vi a1.block, vi a1.by_])] H (fun rv H' => rv = (.bool r) ∧ Sat Z V H' []) := by
 unfold P.slices_Contains_mini_task_mini_task at e
 refine f_mk nd.own ?_
 refine c_sr ?_
 refine o_box hs rfl rfl fun b1 H1 s1 => ?_
 refine o_mv (v := (.bool false)) rfl ?_
 refine c_nil (c_sr ?_)
 refine o_mv (v := v1) rfl ?_
 refine o_ldB 0 s1 rfl rfl rfl rfl ?_
 obtain ⟨x1, q1, e⟩ := oB e
 obtain ⟨Z1, V1, W1, g1, u1, c1, c2, -, c4, c3⟩ := Sat.call (l1 := []) s1
 refine o_call (mc rfl (mc rfl m0)) (X.slices_Index_mini_task_mini_task nd.slices_Index_mini_task_mini_task c1 (hp1.mono (g1.v.trans u1)) q1) fun _ H2 i1 => ?_
 obtain ⟨rfl, s2⟩ := i1
 have s3 := c3 _ _ s2
 refine o_geq rfl rfl ?_
 refine o_mv (v := (.bool (decide (0 ≤ x1)))) rfl ?_
 refine c_nil (c_rt ?_)
 obtain rfl := oJ e
 exact ⟨.inr rfl, _, (ar1 rfl), rfl, ((s3.pick [] rfl).weak g1 hs.zv)⟩
/-! mini_hopcroft -/
structure Nd.mini_hopcroft (T : FuncId → Option AFunc) : Prop where
  own : Has T I.mini_hopcroft F.mini_hopcroft
  mini_begin : Nd.mini_begin T
  mini_parts_split : Nd.mini_parts_split T
  slices_Contains_mini_task_mini_task : Nd.slices_Contains_mini_task_mini_task T
set_option maxHeartbeats 1000000 in
theorem X.mini_hopcroft {T : FuncId → Option AFunc} (nd : Nd.mini_hopcroft T) {φ : Nat} {Z V : PH} {H : Hp} {v1 : Value} {v2 : Value} {v3 : Value} {a0 : Ty.mini_full} (hs : Sat Z V H []) (hp1 : RdS Sh.int V v1 a0.accept) (hp2 : RdS sI1 V v2 a0.next_) (hp3 : RdS sI2 V v3 a0.prev) {r : (List Int)} (e : P.mini_hopcroft φ a0 = some r) :
    G T I.mini_hopcroft [(.agg #[v1, v2, v3])] H (fun rv H' => ∃ (u1 : Value), rv = u1 ∧ Sat Z V H' [It.sl Sh.int u1 r]) := by
 unfold P.mini_hopcroft at e
 refine f_mk nd.own ?_
 refine c_sr ?_
 obtain ⟨d1, rfl⟩ := (hp1).val
 obtain ⟨d2, rfl⟩ := (hp2).val
 obtain ⟨d3, rfl⟩ := (hp3).val
 refine o_box hs rfl rfl fun b1 H1 s1 => ?_
 refine o_mv (v := (.slice none 0 0)) rfl ?_
 refine c_nil (c_sr (o_fad rfl (o_ldB 0 s1 rfl rfl rfl rfl ?_)))
 obtain ⟨x1, q1, e⟩ := oB e
 obtain ⟨Z1, V1, W1, g1, u1, c1, c2, -, c4, c3⟩ := Sat.call (l1 := []) s1
 refine o_call (mc rfl m0) (X.mini_begin nd.mini_begin c1 (hp1.mono (g1.v.trans u1)) q1) fun _ H2 i1 => ?_
 obtain ⟨b2, w1, w2, rfl, s2⟩ := i1
 have s3 := c3 _ _ s2
 refine o_mv (v := (pV b2 0)) rfl ?_
 refine c_nil (c_sr ?_)
 refine o_mv (v := (.slice none 0 0)) rfl ?_
 refine c_nil (c_sq (c_sr ?_))
 refine o_mv (v := (pV b2 0)) rfl ?_
 refine o_nck rfl (o_fad rfl ?_)
 obtain ⟨d4, rfl⟩ := ((s3.curS (s := Sh.int) 1 rfl)).val
 obtain ⟨d5, rfl⟩ := ((s3.curS (s := sI1) 2 rfl)).val
 refine o_ldB 0 s3 rfl rfl rfl rfl ?_
 refine o_len rfl ((s3.curS (s := sI1) 2 rfl)).len ?_
 refine o_mv (v := (vi 0)) rfl ?_
 refine c_nil ?_
 refine c_gen (P := fun tm => tm 1 = (pV b1 0) ∧ tm 3 = (pV b2 0) ∧ tm 4 = (.slice none 0 0) ∧ tm 22 = (vN x1.blocks) ∧ tm 23 = (vi 0) ∧ True) ⟨rfl, rfl, rfl, rfl, rfl, trivial⟩ ?_
 intro _ i2
 obtain ⟨h1, h2, h3, h4, h5, -⟩ := i2
 obtain ⟨x3, q4, e⟩ := oB e
 obtain ⟨rfl, q6⟩ := ranO_some q4
 obtain ⟨y1, q7, e⟩ := oB e
 refine c_bk ?_
 refine l_forP (xs := (Pu.ran (x1.blocks.length : Int))) (fun (i3 : Nat) (s4 : (List Ty.mini_task)) tm H => tm 23 = vi i3 ∧ ∃ (Z2 V2 : PH) (w3 : Value), Gw Z1 V1 Z2 V2 ∧ Sat Z2 V2 H [pts b1 (.rw 0 [(vS d1 a0.accept), (vS d2 a0.next_), (vS d3 a0.prev)]), pts b2 (.rw 0 [(vS d4 x1.of_), (vS d5 x1.blocks)]), Is Sh.int d4 x1.of_, Is sI1 d5 x1.blocks, It.sl (Sh.ro Sh.mini_task) w3 s4] ∧ tm 1 = (pV b1 0) ∧ tm 3 = (pV b2 0) ∧ tm 4 = w3 ∧ tm 22 = (vN x1.blocks)) (fun i3 x2 s4 s6 tm H4 q2 q3 j1 e1 k1 => ?_) (fun tm H3 jd => ?_) q7 ⟨h5, _, _, _, Gw.refl _ _, ((s3.push (sl_nil (s := (Sh.ro Sh.mini_task)))).pick [4, 1, 2, 3, 0] rfl), h1, h2, h3, h4⟩
 ·obtain ⟨hti0, Z2, V2, w3, g2, s5, h6, h7, h8, h9⟩ := j1
  unfold P.mini_hopcroft.b0 at e1
  have hti0 := iv hti0 (ran_x q2).symm
  refine c_sr (o_lss hti0 h9 (c_nil (c_sq ?_)))
  refine c_ift rfl (ran_lt q2) ?_
  refine c_sk (c_sq (c_bk (c_sr (o_mv hti0 ?_))))
  refine o_mv (v := (vi x2)) rfl ?_
  refine c_nil (c_sr (o_fad h6 (o_ldB 0 s5 rfl rfl rfl rfl (o_len rfl ((hp3.mono (g1.trans g2).v)).len ?_))))
  refine o_mv (v := (vi 0)) rfl ?_
  refine c_nil ?_
  obtain ⟨x5, q10, e1⟩ := oB e1
  obtain ⟨rfl, q12⟩ := ranO_some q10
  obtain ⟨y2, q13, e1⟩ := oB e1
  refine c_bk ?_
  refine l_forP (xs := (Pu.ran (a0.prev.length : Int))) (fun (i4 : Nat) (s7 : (List Ty.mini_task)) tm H => tm 29 = vi i4 ∧ ∃ (Z3 V3 : PH) (w4 : Value), Gw Z2 V2 Z3 V3 ∧ Sat Z3 V3 H [pts b1 (.rw 0 [(vS d1 a0.accept), (vS d2 a0.next_), (vS d3 a0.prev)]), pts b2 (.rw 0 [(vS d4 x1.of_), (vS d5 x1.blocks)]), Is Sh.int d4 x1.of_, Is sI1 d5 x1.blocks, It.sl (Sh.ro Sh.mini_task) w4 s7] ∧ tm 1 = (pV b1 0) ∧ tm 3 = (pV b2 0) ∧ tm 4 = w4 ∧ tm 5 = (vi x2) ∧ tm 22 = (vN x1.blocks) ∧ tm 23 = (vi x2) ∧ tm 28 = (vN a0.prev)) (fun i4 x4 s7 s9 tm H6 q8 q9 j2 e2 k2 => ?_) (fun tm H5 jd => ?_) q13 ⟨rfl, _, _, _, Gw.refl _ _, s5, h6, h7, h8, rfl, h9, hti0, rfl⟩
  ·obtain ⟨hti1, Z3, V3, w4, g3, s8, h10, h11, h12, h13, h14, h15, h16⟩ := j2
   unfold P.mini_hopcroft.b1 at e2
   have hti1 := iv hti1 (ran_x q8).symm
   refine c_sr (o_lss hti1 h16 (c_nil (c_sq ?_)))
   refine c_ift rfl (ran_lt q8) ?_
   refine c_sk (c_sq (c_bk (c_sr (o_mv hti1 ?_))))
   refine o_mv (v := (vi x4)) rfl ?_
   refine c_nil (c_r (o_mv h12 (o_mv h13 ?_)))
   refine o_mv (v := (vi x4)) rfl ?_
   refine o_bld (qs := [(0, 1, (vi x2)), (1, 1, (vi x4))]) rfl rfl ?_
   refine o_bsl (s := (Sh.ro Sh.mini_task)) (us := [vi x2, vi x4]) (qs := [(0, 2, (.agg #[vi x2, vi x4]))]) (xs := [(Ty.mini_task.mk x2 x4)]) s8 (Sh.ro_lt _) rfl rfl rfl (Els.cons (c := [vi x2, vi x4]) rfl Els.nil) rfl rfl fun w5 H7 s10 => ?_
   obtain ⟨Z4, V4, g4, s11, h17⟩ := s10.frzS 0 rfl
   replace h17 := h17.of_ro
   obtain ⟨x6, q14, e2⟩ := oB e2
   refine o_app 4 s11 rfl (Sh.ro_lt _) rfl rfl rfl rfl h17 s11.z (fun h => h) (by decide) q14 fun w6 H8 s12 => ?_
   refine o_mv (v := w6) rfl ?_
   refine c_nil (c_end (c_r (o_add hti1 rfl ?_)))
   refine o_mv (v := (vi (Pu.W (x4 + 1)))) rfl ?_
   refine c_nil ?_
   obtain rfl := oJ e2
   exact k2 _ _ ⟨(iv rfl (w_sucR q8 q12)), _, _, _, (g3.trans g4), s12, h10, h11, rfl, h13, h14, h15, h16⟩
  obtain ⟨hte1, Z5, V5, w7, g5, s13, h18, h19, h20, h21, h22, h23, h24⟩ := jd
  refine c_sr (o_lss hte1 h24 (c_nil (c_sq ?_)))
  refine c_iff rfl (ran_done _) ?_
  refine c_ex ?_
  refine e_c ?_
  refine e_c ?_
  refine e_h ?_
  refine c_end (c_r (o_add h23 rfl ?_))
  refine o_mv (v := (vi (Pu.W (x2 + 1)))) rfl ?_
  refine c_nil ?_
  obtain rfl := oJ e1
  exact k1 _ _ ⟨(iv rfl (w_sucR q2 q6)), _, _, _, (g2.trans g5), s13, h18, h19, h20, h22⟩
 obtain ⟨hte0, Z6, V6, w8, g6, s14, h25, h26, h27, h28⟩ := jd
 refine c_sr (o_lss hte0 h28 (c_nil (c_sq ?_)))
 refine c_iff rfl (ran_done _) ?_
 refine c_ex ?_
 refine e_c ?_
 refine e_c ?_
 refine e_h ?_
 refine c_sq ?_
 obtain ⟨y3, q17, e⟩ := oB e
 refine c_jn (I := fun tm H => ∃ (s17 : ((List Int) × (List (List Int)) × (List Ty.mini_task))), y3 = .out s17 ∧ (∃ (Z8 V8 : PH) (w12 : Value) (w13 : Value) (w14 : Value), Gw Z6 V6 Z8 V8 ∧ Sat Z8 V8 H [pts b1 (.rw 0 [(vS d1 a0.accept), (vS d2 a0.next_), (vS d3 a0.prev)]), pts b2 (.rw 0 [w12, w13]), It.sl Sh.int w12 s17.1, It.sl sI1 w13 s17.2.1, It.sl (Sh.ro Sh.mini_task) w14 s17.2.2] ∧ tm 1 = (pV b1 0) ∧ tm 3 = (pV b2 0) ∧ tm 4 = w14)) (fun k6 => ?_) ?_
 ·refine c_bk ?_
  refine l_whl (fun (s15 : ((List Int) × (List (List Int)) × (List Ty.mini_task))) tm H => ∃ (Z7 V7 : PH) (w9 : Value) (w10 : Value) (w11 : Value), Gw Z6 V6 Z7 V7 ∧ Sat Z7 V7 H [pts b1 (.rw 0 [(vS d1 a0.accept), (vS d2 a0.next_), (vS d3 a0.prev)]), pts b2 (.rw 0 [w9, w10]), It.sl Sh.int w9 s15.1, It.sl sI1 w10 s15.2.1, It.sl (Sh.ro Sh.mini_task) w11 s15.2.2] ∧ tm 1 = (pV b1 0) ∧ tm 3 = (pV b2 0) ∧ tm 4 = w11) (fun s15 y4 tm H12 j3 e3 k3 k4 k5 => ?_) q17 ⟨_, _, _, _, _, Gw.refl _ _, s14, h25, h26, h27⟩
  obtain ⟨Z7, V7, w9, w10, w11, g7, s16, h29, h30, h31⟩ := j3
  unfold P.mini_hopcroft.b2 at e3
  refine c_sq (c_sr (o_mv h31 ?_))
  refine o_len rfl ((s16.curS (s := (Sh.ro Sh.mini_task)) 4 rfl)).len ?_
  refine o_gtr rfl rfl (c_nil ?_)
  refine c_ifd rfl (fun q18 => ?_) (fun q18 => ?_)
  ·replace e3 := if_t q18 e3
   refine c_sk (c_bk (c_sr (o_mv h31 (o_mv h31 ?_))))
   refine o_len rfl ((s16.curS (s := (Sh.ro Sh.mini_task)) 4 rfl)).len ?_
   refine o_sub rfl rfl ?_
   obtain ⟨x8, q19, e3⟩ := oB e3
   refine o_idx (v := w11) rfl rfl (s16.curS (s := (Sh.ro Sh.mini_task)) 4 rfl) rfl q19 fun p1 q20 => ?_
   refine o_ldoa (p := p1) 4 s16 rfl rfl rfl q20 q19 fun Z9 V9 c5 g9 s19 h35 => ?_
   obtain rfl := h35
   refine o_new s19 fun b3 H14 s20 => ?_
   refine o_stB (us' := [vi x8.block, vi x8.by_]) 0 s20 rfl rfl rfl rfl rfl rfl rfl fun H15 s21 => ?_
   refine c_nil ?_
   refine c_gen (P := fun tm => tm 1 = (pV b1 0) ∧ tm 3 = (pV b2 0) ∧ tm 4 = w11 ∧ tm 7 = (pV b3 0) ∧ True) ⟨h29, h30, h31, rfl, trivial⟩ ?_
   intro _ i6
   obtain ⟨h36, h37, h38, h39, -⟩ := i6
   refine c_sr (o_mv h38 (o_mv h38 ?_))
   refine o_len rfl ((s21.curS (s := (Sh.ro Sh.mini_task)) 5 rfl)).len ?_
   refine o_sub rfl rfl ?_
   obtain ⟨x9, q21, e3⟩ := oB e3
   refine o_slchX rfl rfl (s21.curS (s := (Sh.ro Sh.mini_task)) 5 rfl) pR rfl q21 fun w15 h40 h41 => ?_
   have s22 := Sat.conv (u := It.sl (Sh.ro Sh.mini_task) w15 x9) 5 rfl (fun F h _ q => h41.1 F h q) s21
   refine o_mv (v := w15) rfl ?_
   refine c_nil (c_sr ?_)
   refine o_mv (v := (.slice none 0 0)) rfl ?_
   refine c_nil (c_sq (c_sq ?_))
   refine c_gen (P := fun tm => tm 1 = (pV b1 0) ∧ tm 3 = (pV b2 0) ∧ tm 4 = w15 ∧ tm 7 = (pV b3 0) ∧ tm 8 = (.slice none 0 0) ∧ True) ⟨h36, h37, rfl, h39, rfl, trivial⟩ ?_
   intro _ i7
   obtain ⟨h42, h43, h44, h45, h46, -⟩ := i7
   refine d_start s22 fun n1 H16 s23 q22 d6 => ?_
   refine d_mv h43 ?_
   refine d_nck rfl ?_
   refine d_fad rfl ?_
   obtain ⟨d7, rfl⟩ := ((s23.curS (s := Sh.int) 3 rfl)).val
   obtain ⟨d8, rfl⟩ := ((s23.curS (s := sI1) 4 rfl)).val
   refine d_ldB (q22 _ _ (ph_some.2 ⟨s23.curB 2 rfl, by simp⟩)) 2 s23 rfl rfl rfl rfl ?_
   refine d_fad h45 ?_
   refine d_ldB (q22 _ _ (ph_some.2 ⟨s23.curB 0 rfl, by simp⟩)) 0 s23 rfl rfl rfl rfl ?_
   obtain ⟨x10, q23, e3⟩ := oB e3
   refine d_idx (v := (vS d8 s15.2.1)) rfl rfl (s23.curS (s := sI1) 4 rfl) rfl q23 fun p2 q24 => ?_
   refine d_ldsv ((s23.curS 4 rfl).low pR q22) rfl (s23.curS (s := sI1) 4 rfl) pR q24 q23 fun w16 h47 h48 => ?_
   refine d_len rfl (h47).len ?_
   refine d_mv (v := (vi 0)) rfl ?_
   refine d_nil dc_nil ?_
   refine c_gen (P := fun tm => tm 1 = (pV b1 0) ∧ tm 3 = (pV b2 0) ∧ tm 4 = w15 ∧ tm 7 = (pV b3 0) ∧ tm 8 = (.slice none 0 0) ∧ tm 61 = w16 ∧ tm 62 = (vN x10) ∧ tm 63 = (vi 0) ∧ True) ⟨h42, h43, h44, h45, h46, rfl, rfl, rfl, trivial⟩ ?_
   intro _ i8
   obtain ⟨h49, h50, h51, h52, h53, h54, h55, h56, -⟩ := i8
   obtain ⟨Z10, V10, W2, g10, u2, c6, c7, -, -, c8⟩ := Sat.call (l1 := [pts b3 (.rw 0 [vi x8.block, vi x8.by_]), pts b1 (.rw 0 [(vS d1 a0.accept), (vS d2 a0.next_), (vS d3 a0.prev)]), pts b2 (.rw 0 [(vS d7 s15.1), (vS d8 s15.2.1)]), Is Sh.int d7 s15.1, It.sl (Sh.ro Sh.mini_task) w15 x9]) (l2 := [Is sI1 d8 s15.2.1]) (s23.pick [0, 1, 2, 3, 5, 4] rfl)
   have h57 := c7 0 _ sI1 _ _ rfl
   have g11 : Gw Z9 V9 Z10 W2 := ⟨g10.z, g10.v.trans u2, g10.o⟩
   have r1 := RdS.redo h57 c6.v q24 q23 h48
   have z1 := c6.zv
   obtain ⟨y5, q27, e3⟩ := oB e3
   refine c_bk ?_
   refine l_forP (xs := x10) (fun (i9 : Nat) (s24 : (List Int)) tm H => tm 63 = vi i9 ∧ ∃ (Z11 V11 : PH) (w17 : Value), Gw Z10 W2 Z11 V11 ∧ Sat Z11 V11 H [pts b1 (.rw 0 [(vS d1 a0.accept), (vS d2 a0.next_), (vS d3 a0.prev)]), pts b2 (.rw 0 [(vS d7 s15.1), (vS d8 s15.2.1)]), Is Sh.int d7 s15.1, It.sl (Sh.ro Sh.mini_task) w15 x9, pts b3 (.rw 0 [vi x8.block, vi x8.by_]), It.sl Sh.int w17 s24] ∧ tm 1 = (pV b1 0) ∧ tm 3 = (pV b2 0) ∧ tm 4 = w15 ∧ tm 7 = (pV b3 0) ∧ tm 8 = w17 ∧ tm 61 = w16 ∧ tm 62 = (vN x10)) (fun i9 x11 s24 s26 tm H18 q25 q26 j4 e4 k7 => ?_) (fun tm H17 jd => ?_) q27 ⟨h56, _, _, _, Gw.refl _ _, ((c6.push (sl_nil (s := Sh.int))).pick [2, 3, 4, 5, 1, 0] rfl), h49, h50, h51, h52, h53, h54, h55⟩
   ·obtain ⟨hti3, Z11, V11, w17, g12, s25, h58, h59, h60, h61, h62, h63, h64⟩ := j4
    unfold P.mini_hopcroft.b3 at e4
    refine c_sr (o_lss hti3 h64 (c_nil (c_sq ?_)))
    refine c_ift rfl (Int.ofNat_lt.2 q26) ?_
    refine c_sk (c_sq (c_bk (c_sr ?_)))
    refine o_idx (v := w16) h63 hti3 (r1.1.mono g12.v) rfl (Pu.ix_nat.trans q25) fun p3 q28 => ?_
    refine o_ldi rfl (r1.1.mono g12.v) s25.v q28 (Pu.ix_nat.trans q25) ?_
    refine o_mv (v := (vi x11)) rfl ?_
    refine c_nil (c_r (o_mv h62 (o_fad h58 (o_ldB 0 s25 rfl rfl rfl rfl ?_))))
    refine o_fad h61 (o_ldB 4 s25 rfl rfl rfl rfl ?_)
    obtain ⟨x12, q29, e4⟩ := oB e4
    refine o_idx (v := (vS d3 a0.prev)) rfl rfl (hp3.mono (g1.trans (g6.trans (g7.trans (g9.trans (g11.trans g12))))).v) rfl q29 fun p4 q30 => ?_
    refine o_lds rfl (hp3.mono (g1.trans (g6.trans (g7.trans (g9.trans (g11.trans g12))))).v) s25.v q30 q29 fun w18 h65 => ?_
    refine o_mv (v := (vi x11)) rfl ?_
    obtain ⟨x13, q31, e4⟩ := oB e4
    refine o_idx (v := w18) rfl rfl h65 rfl q31 fun p5 q32 => ?_
    refine o_lds rfl h65 s25.v q32 q31 fun w19 h66 => ?_
    obtain ⟨x14, q33, e4⟩ := oB e4
    refine o_app 5 s25 rfl Sh.flat_lt rfl rfl rfl rfl h66 s25.v (fun h => h) (by decide) q33 fun w20 H19 s27 => ?_
    refine o_mv (v := w20) rfl ?_
    refine c_nil (c_end (c_r (o_add hti3 rfl ?_)))
    refine o_mv (v := (vi (Pu.W ((i9 : Int) + 1)))) rfl ?_
    refine c_nil ?_
    obtain rfl := oJ e4
    exact k7 _ _ ⟨(iv rfl (w_suc q26 (r1.1).bd)), _, _, _, g12, s27, h58, h59, h60, h61, rfl, h63, h64⟩
   obtain ⟨hte3, Z12, V12, w21, g13, s28, h67, h68, h69, h70, h71, h72, h73⟩ := jd
   refine c_sr (o_lss hte3 h73 (c_nil (c_sq ?_)))
   refine c_iff rfl (Int.lt_irrefl _) ?_
   refine c_ex ?_
   refine e_c ?_
   refine e_c ?_
   refine e_h ?_
   have s29 := c8 _ _ (Sat.weak g13 z1 s28)
   refine c_sr (o_mv h68 (o_mv h71 ?_))
   obtain ⟨x15, q34, e3⟩ := oB e3
   obtain ⟨Z13, V13, W3, g14, u3, c9, c10, -, c12, c11⟩ := Sat.call (l1 := [pts b2 (.rw 0 [(vS d7 s15.1), (vS d8 s15.2.1)]), Is Sh.int d7 s15.1, Is sI1 d8 s15.2.1]) (l2 := [pts b1 (.rw 0 [(vS d1 a0.accept), (vS d2 a0.next_), (vS d3 a0.prev)]), It.sl (Sh.ro Sh.mini_task) w15 x9, pts b3 (.rw 0 [vi x8.block, vi x8.by_]), It.sl Sh.int w21 y5]) (s29.pick [1, 2, 6, 0, 3, 4, 5] rfl)
   refine o_call (mc rfl (mc rfl m0)) (X.mini_parts_split nd.mini_parts_split (a0 := (Ty.mini_parts.mk s15.1 s15.2.1)) c9 (c10 3 _ Sh.int _ _ rfl) q34) fun w24 H21 i10 => ?_
   obtain ⟨w22, w23, _, rfl, s30⟩ := i10
   have s31 := c11 _ _ s30
   refine o_len rfl ((s31.curS (s := (Sh.ro Sh.arr2)) 3 rfl)).len ?_
   refine o_mv (v := (vi 0)) rfl ?_
   refine c_nil ?_
   obtain ⟨y6, q37, e3⟩ := oB e3
   refine c_bk ?_
   refine l_forP (xs := x15.2) (fun (i11 : Nat) (s32 : (List Ty.mini_task)) tm H => tm 83 = vi i11 ∧ ∃ (Z14 V14 : PH) (w25 : Value), Gw Z13 V13 Z14 V14 ∧ Sat Z14 V14 H [pts b1 (.rw 0 [(vS d1 a0.accept), (vS d2 a0.next_), (vS d3 a0.prev)]), pts b2 (.rw 0 [w22, w23]), It.sl Sh.int w22 x15.1.of_, It.sl sI1 w23 x15.1.blocks, It.sl (Sh.ro Sh.mini_task) w25 s32, It.sl (Sh.ro Sh.arr2) w24 x15.2] ∧ tm 1 = (pV b1 0) ∧ tm 3 = (pV b2 0) ∧ tm 4 = w25 ∧ tm 81 = w24 ∧ tm 82 = (vN x15.2)) (fun i11 x16 s32 s34 tm H23 q35 q36 j5 e5 k8 => ?_) (fun tm H22 jd => ?_) q37 ⟨rfl, _, _, _, Gw.refl _ _, (s31.pick [4, 0, 1, 2, 5, 3] rfl), h67, h68, h69, rfl, rfl⟩
   ·obtain ⟨hti4, Z14, V14, w25, g15, s33, h74, h75, h76, h77, h78⟩ := j5
    unfold P.mini_hopcroft.b4 at e5
    refine c_sr (o_lss hti4 h78 (c_nil (c_sq ?_)))
    refine c_ift rfl (Int.ofNat_lt.2 q36) ?_
    refine c_sk (c_sq (c_bk (c_sr ?_)))
    refine o_idx (v := w24) h77 hti4 (s33.curS (s := (Sh.ro Sh.arr2)) 5 rfl) rfl (Pu.ix_nat.trans q35) fun p6 q38 => ?_
    refine o_ldoa (p := p6) 5 s33 rfl rfl rfl q38 (Pu.ix_nat.trans q35) fun Z15 V15 c13 g16 s35 h79 => ?_
    obtain rfl := h79
    refine o_new s35 fun b4 H24 s36 => ?_
    refine o_stB (us' := [vi x16.1, vi x16.2]) 0 s36 rfl rfl rfl rfl rfl rfl rfl fun H25 s37 => ?_
    refine c_nil (c_sr (o_fad h74 (o_ldB 1 s37 rfl rfl rfl rfl (o_len rfl ((hp3.mono (g1.trans (g6.trans (g7.trans (g9.trans (g10.trans (g14.trans (g15.trans g16))))))).v)).len ?_))))
    refine o_mv (v := (vi 0)) rfl ?_
    refine c_nil ?_
    obtain ⟨x18, q41, e5⟩ := oB e5
    obtain ⟨rfl, q43⟩ := ranO_some q41
    obtain ⟨y7, q44, e5⟩ := oB e5
    refine c_bk ?_
    refine l_forP (xs := (Pu.ran (a0.prev.length : Int))) (fun (i12 : Nat) (s38 : (List Ty.mini_task)) tm H => tm 90 = vi i12 ∧ ∃ (Z16 V16 : PH) (w26 : Value), Gw Z15 V15 Z16 V16 ∧ Sat Z16 V16 H [pts b1 (.rw 0 [(vS d1 a0.accept), (vS d2 a0.next_), (vS d3 a0.prev)]), pts b2 (.rw 0 [w22, w23]), It.sl Sh.int w22 x15.1.of_, It.sl sI1 w23 x15.1.blocks, It.sl (Sh.ro Sh.mini_task) w26 s38, pts b4 (.rw 0 [vi x16.1, vi x16.2]), It.sl (Sh.ro Sh.arr2) w24 x15.2] ∧ tm 1 = (pV b1 0) ∧ tm 3 = (pV b2 0) ∧ tm 4 = w26 ∧ tm 12 = (pV b4 0) ∧ tm 81 = w24 ∧ tm 82 = (vN x15.2) ∧ tm 83 = (vJ i11) ∧ tm 89 = (vN a0.prev)) (fun i12 x17 s38 s40 tm H27 q39 q40 j6 e6 k9 => ?_) (fun tm H26 jd => ?_) q44 ⟨rfl, _, _, _, Gw.refl _ _, (s37.pick [1, 2, 3, 4, 5, 0, 6] rfl), h74, h75, h76, rfl, h77, h78, hti4, rfl⟩
    ·obtain ⟨hti5, Z16, V16, w26, g17, s39, h80, h81, h82, h83, h84, h85, h86, h87⟩ := j6
     unfold P.mini_hopcroft.b5 at e6
     have hti5 := iv hti5 (ran_x q39).symm
     refine c_sr (o_lss hti5 h87 (c_nil (c_sq ?_)))
     refine c_ift rfl (ran_lt q39) ?_
     refine c_sk (c_sq (c_bk (c_sr (o_mv hti5 ?_))))
     refine o_mv (v := (vi x17)) rfl ?_
     refine c_nil (c_sr (o_idxc h83 rfl rfl rfl (o_ldB 5 s39 rfl rfl rfl rfl ?_)))
     refine o_mv (v := (vi x16.2)) rfl ?_
     refine c_nil (c_sq (c_sq ?_))
     refine c_gen (P := fun tm => tm 1 = (pV b1 0) ∧ tm 3 = (pV b2 0) ∧ tm 4 = w26 ∧ tm 12 = (pV b4 0) ∧ tm 13 = (vi x17) ∧ tm 14 = (vi x16.2) ∧ tm 81 = w24 ∧ tm 82 = (vN x15.2) ∧ tm 83 = (vJ i11) ∧ tm 89 = (vN a0.prev) ∧ tm 90 = (vi x17) ∧ True) ⟨h80, h81, h82, h83, rfl, rfl, h84, h85, h86, h87, hti5, trivial⟩ ?_
     intro _ i13
     obtain ⟨h88, h89, h90, h91, h92, h93, h94, h95, h96, h97, h98, -⟩ := i13
     refine d_start s39 fun n2 H28 s41 q45 d9 => ?_
     refine d_mv h89 ?_
     refine d_nck rfl ?_
     refine d_fad rfl ?_
     obtain ⟨d10, rfl⟩ := ((s41.curS (s := Sh.int) 2 rfl)).val
     obtain ⟨d11, rfl⟩ := ((s41.curS (s := sI1) 3 rfl)).val
     refine d_ldB (q45 _ _ (ph_some.2 ⟨s41.curB 1 rfl, by simp⟩)) 1 s41 rfl rfl rfl rfl ?_
     refine d_idxc h91 rfl rfl rfl ?_
     refine d_ldB (q45 _ _ (ph_some.2 ⟨s41.curB 5 rfl, by simp⟩)) 5 s41 rfl rfl rfl rfl ?_
     obtain ⟨x19, q46, e6⟩ := oB e6
     refine d_idx (v := (vS d11 x15.1.blocks)) rfl rfl (s41.curS (s := sI1) 3 rfl) rfl q46 fun p7 q47 => ?_
     refine d_ldsv ((s41.curS 3 rfl).low pR q45) rfl (s41.curS (s := sI1) 3 rfl) pR q47 q46 fun w27 h99 h100 => ?_
     refine d_len rfl (h99).len ?_
     refine d_mv h89 ?_
     refine d_nck rfl ?_
     refine d_fad rfl ?_
     refine d_ldB (q45 _ _ (ph_some.2 ⟨s41.curB 1 rfl, by simp⟩)) 1 s41 rfl rfl rfl rfl ?_
     refine d_idxc h91 rfl rfl rfl ?_
     refine d_ldB (q45 _ _ (ph_some.2 ⟨s41.curB 5 rfl, by simp⟩)) 5 s41 rfl rfl rfl rfl ?_
     obtain ⟨x20, q48, e6⟩ := oB e6
     refine d_idx (v := (vS d11 x15.1.blocks)) rfl rfl (s41.curS (s := sI1) 3 rfl) rfl q48 fun p8 q49 => ?_
     refine d_ldsv ((s41.curS 3 rfl).low pR q45) rfl (s41.curS (s := sI1) 3 rfl) pR q49 q48 fun w28 h101 h102 => ?_
     refine d_len rfl (h101).len ?_
     refine d_lss rfl rfl ?_
     refine d_mv (v := (.bool (decide ((x19.length : Int) < (x20.length : Int))))) rfl ?_
     obtain ⟨y8, e7, e6⟩ := oB e6
     refine d_jn 8 (I := fun tm H => DD n2 28 (List.length F.mini_hopcroft.r28) H ∧ (∃ (Z17 V17 : PH), Gw Z16 V16 Z17 V17 ∧ Sat Z17 V17 H [pts b1 (.rw 0 [(vS d1 a0.accept), (vS d2 a0.next_), (vS d3 a0.prev)]), pts b2 (.rw 0 [(vS d10 x15.1.of_), (vS d11 x15.1.blocks)]), Is Sh.int d10 x15.1.of_, Is sI1 d11 x15.1.blocks, It.sl (Sh.ro Sh.mini_task) w26 s38, pts b4 (.rw 0 [vi x16.1, vi x16.2]), It.sl (Sh.ro Sh.arr2) w24 x15.2] ∧ tm 1 = (pV b1 0) ∧ tm 3 = (pV b2 0) ∧ tm 4 = w26 ∧ tm 12 = (pV b4 0) ∧ tm 13 = (vi x17) ∧ tm 14 = (vi x16.2) ∧ tm 81 = w24 ∧ tm 82 = (vN x15.2) ∧ tm 83 = (vJ i11) ∧ tm 89 = (vN a0.prev) ∧ tm 90 = (vi x17) ∧ tm 122 = (.bool y8))) (fun k10 => ?_) ?_
     ·rcases Bool.eq_false_or_eq_true (decide ((x19.length : Int) < (x20.length : Int))) with q50 | q50
      ·replace e7 := if_t q50 e7
       refine d_want rfl q50 ?_
       refine d_mv h90 ?_
       refine d_want rfl q50 ?_
       refine d_idxc h91 rfl rfl rfl ?_
       refine d_want rfl q50 ?_
       refine d_ldB (q45 _ _ (ph_some.2 ⟨s41.curB 5 rfl, by simp⟩)) 5 s41 rfl rfl rfl rfl ?_
       refine d_want rfl q50 ?_
       refine d_mv h92 ?_
       refine d_want rfl q50 ?_
       refine d_bld (qs := [(0, 1, (vi x16.1)), (1, 1, (vi x17))]) rfl rfl ?_
       refine d_want rfl q50 ?_
       obtain ⟨x21, q51, e7⟩ := oB e7
       obtain ⟨Z18, V18, W4, g19, u4, c14, c15, -, c17, c16⟩ := Sat.call (l1 := []) s41
       have r2 := RdS.redo (c15 3 _ sI1 _ _ rfl) c14.v q47 q46 h100
       have r3 := RdS.redo (c15 3 _ sI1 _ _ rfl) c14.v q49 q48 h102
       refine d_call (mc rfl (mc rfl m0)) (X.slices_Contains_mini_task_mini_task nd.slices_Contains_mini_task_mini_task (a1 := (Ty.mini_task.mk x16.1 x17)) c14 (c15 4 _ (Sh.ro Sh.mini_task) _ _ rfl) q51) fun _ H30 i14 k11 => ?_
       have d12 := d9.keep k11
       obtain ⟨rfl, s43⟩ := i14
       have s44 := c16 _ _ s43
       have h115 := r2.2 _ s43.v
       have h116 := r3.2 _ s43.v
       refine d_want rfl q50 ?_
       refine d_not rfl ?_
       refine d_pickt (a := (.bool (!x21))) rfl q50 rfl ?_
       obtain rfl := oJ e7
       exact k10 _ _ _ ⟨d12.up rfl, _, _, g19, s44, h88, h89, h90, h91, h92, h93, h94, h95, h96, h97, h98, rfl⟩
      replace e7 := ib_f q50 e7
      refine d_gn rfl q50 ?_
      refine d_gn rfl q50 ?_
      refine d_gn rfl q50 ?_
      refine d_gn rfl q50 ?_
      refine d_gn rfl q50 ?_
      refine d_gn rfl q50 ?_
      refine d_gn rfl q50 ?_
      refine d_pickf (b := (.bool false)) rfl q50 rfl ?_
      obtain rfl := oJ e7
      exact k10 _ _ _ ⟨d9.up rfl, _, _, Gw.refl _ _, s41, h88, h89, h90, h91, h92, h93, h94, h95, h96, h97, h98, rfl⟩
     intro _ H29 _ i15
     obtain ⟨d13, Z17, V17, g18, s42, h103, h104, h105, h106, h107, h108, h109, h110, h111, h112, h113, h114⟩ := i15
     refine d_nil dc_nil ?_
     obtain ⟨y9, e8, e6⟩ := oB e6
     refine c_jn (I := fun tm H => ∃ (Z19 V19 : PH), Gw Z17 V17 Z19 V19 ∧ Sat Z19 V19 H [pts b1 (.rw 0 [(vS d1 a0.accept), (vS d2 a0.next_), (vS d3 a0.prev)]), pts b2 (.rw 0 [(vS d10 x15.1.of_), (vS d11 x15.1.blocks)]), Is Sh.int d10 x15.1.of_, Is sI1 d11 x15.1.blocks, It.sl (Sh.ro Sh.mini_task) w26 s38, pts b4 (.rw 0 [vi x16.1, vi x16.2]), It.sl (Sh.ro Sh.arr2) w24 x15.2] ∧ tm 1 = (pV b1 0) ∧ tm 3 = (pV b2 0) ∧ tm 4 = w26 ∧ tm 12 = (pV b4 0) ∧ tm 13 = (vi x17) ∧ tm 14 = (vi y9) ∧ tm 81 = w24 ∧ tm 82 = (vN x15.2) ∧ tm 83 = (vJ i11) ∧ tm 89 = (vN a0.prev) ∧ tm 90 = (vi x17)) (fun k12 => ?_) ?_
     ·refine c_if h114 (fun q52 => ?_) (fun q52 => ?_)
      ·replace e8 := if_t q52 e8
       refine c_r (o_idxc h106 rfl rfl rfl (o_ldB 5 s42 rfl rfl rfl rfl ?_))
       refine o_mv (v := (vi x16.1)) rfl ?_
       refine c_nil ?_
       obtain rfl := oJ e8
       exact k12 _ _ ⟨_, _, Gw.refl _ _, s42, h103, h104, h105, h106, h107, rfl, h109, h110, h111, h112, h113⟩
      replace e8 := ib_f q52 e8
      refine c_sk ?_
      obtain rfl := oJ e8
      exact k12 _ _ ⟨_, _, Gw.refl _ _, s42, h103, h104, h105, h106, h107, h108, h109, h110, h111, h112, h113⟩
     intro _ H31 i16
     obtain ⟨Z19, V19, g20, s45, h117, h118, h119, h120, h121, h122, h123, h124, h125, h126, h127⟩ := i16
     refine c_r (o_mv h119 (o_mv h122 (o_mv h121 ?_)))
     refine o_bld (qs := [(0, 1, (vi y9)), (1, 1, (vi x17))]) rfl rfl ?_
     refine o_bsl (s := (Sh.ro Sh.mini_task)) (us := [vi y9, vi x17]) (qs := [(0, 2, (.agg #[vi y9, vi x17]))]) (xs := [(Ty.mini_task.mk y9 x17)]) s45 (Sh.ro_lt _) rfl rfl rfl (Els.cons (c := [vi y9, vi x17]) rfl Els.nil) rfl rfl fun w29 H32 s46 => ?_
     obtain ⟨Z20, V20, g21, s47, h128⟩ := s46.frzS 0 rfl
     replace h128 := h128.of_ro
     obtain ⟨x22, q53, e6⟩ := oB e6
     refine o_app 4 s47 rfl (Sh.ro_lt _) rfl rfl rfl rfl h128 s47.z (fun h => h) (by decide) q53 fun w30 H33 s48 => ?_
     refine o_mv (v := w30) rfl ?_
     refine c_nil (c_end (c_r (o_add h127 rfl ?_)))
     refine o_mv (v := (vi (Pu.W (x17 + 1)))) rfl ?_
     refine c_nil ?_
     obtain rfl := oJ e6
     exact k9 _ _ ⟨(iv rfl (w_sucR q39 q43)), _, _, _, (g17.trans (g18.trans (g20.trans g21))), s48, h117, h118, rfl, h120, h123, h124, h125, h126⟩
    obtain ⟨hte5, Z21, V21, w31, g22, s49, h129, h130, h131, h132, h133, h134, h135, h136⟩ := jd
    refine c_sr (o_lss hte5 h136 (c_nil (c_sq ?_)))
    refine c_iff rfl (ran_done _) ?_
    refine c_ex ?_
    refine e_c ?_
    refine e_c ?_
    refine e_h ?_
    refine c_end (c_r (o_add h135 rfl ?_))
    refine o_mv (v := (vi (Pu.W ((i11 : Int) + 1)))) rfl ?_
    refine c_nil ?_
    obtain rfl := oJ e5
    exact k8 _ _ ⟨(iv rfl (w_suc q36 ((s31.curS (s := (Sh.ro Sh.arr2)) 3 rfl)).bd)), _, _, _, (g15.trans (g16.trans g22)), (s49.pick [0, 1, 2, 3, 4, 6] rfl), h129, h130, h131, h133, h134⟩
   obtain ⟨hte4, Z22, V22, w32, g23, s50, h137, h138, h139, h140, h141⟩ := jd
   refine c_sr (o_lss hte4 h141 (c_nil (c_sq ?_)))
   refine c_iff rfl (Int.lt_irrefl _) ?_
   refine c_ex ?_
   refine e_c ?_
   refine e_c ?_
   refine e_h ?_
   refine c_end ?_
   exact k3 _ _ _ (sJ e3) ⟨_, _, _, _, _, (g7.trans (g9.trans (g10.trans (g14.trans g23)))), (s50.pick [0, 1, 2, 3, 4] rfl), h137, h138, h139⟩
  replace e3 := if_f q18 e3
  refine c_ex ?_
  refine e_c ?_
  refine e_c ?_
  refine e_h ?_
  exact k6 _ _ ⟨_, k4 _ (sJ e3), _, _, _, _, _, g7, s16, h29, h30, h31⟩
 intro _ H13 i17
 obtain ⟨s17, f1, Z8, V8, w12, w13, w14, g8, s18, h32, h33, h34⟩ := i17
 replace e := fin_o f1 e
 refine c_sr (o_mv h33 (o_nck rfl (o_fad rfl ?_)))
 obtain ⟨d14, rfl⟩ := ((s18.curS (s := Sh.int) 2 rfl)).val
 obtain ⟨d15, rfl⟩ := ((s18.curS (s := sI1) 3 rfl)).val
 refine o_ldB 1 s18 rfl rfl rfl rfl ?_
 refine o_mv (v := (vS d14 s17.1)) rfl ?_
 refine c_nil (c_rt ?_)
 obtain rfl := oJ e
 exact ⟨.inr rfl, _, (ar1 rfl), _, rfl, ((s18.pick [2] rfl).weak (g1.trans (g6.trans g8)) hs.zv)⟩
/-! mini_Min -/
structure Nd.mini_Min (T : FuncId → Option AFunc) : Prop where
  own : Has T I.mini_Min F.mini_Min
  dfa_Check : Nd.dfa_Check T
  mini_complete : Nd.mini_complete T
  mini_hopcroft : Nd.mini_hopcroft T
  slices_Repeat_int_int : Nd.slices_Repeat_int_int T
set_option maxHeartbeats 1000000 in
theorem X.mini_Min {T : FuncId → Option AFunc} (nd : Nd.mini_Min T) {φ : Nat} {Z V : PH} {H : Hp} {v1 : Value} {v2 : Value} {a0 : Ty.api_Dfa} (hs : Sat Z V H []) (hp1 : RdS Sh.int V v1 a0.Accept) (hp2 : RdS sI1 V v2 a0.Next) {r : (Ty.api_Dfa × Int)} (e : P.mini_Min φ a0 = some r) :
    G T I.mini_Min [(.agg #[vi a0.Start, v1, v2])] H (fun rv H' => ∃ (u1 : Value) (u2 : Value), rv = (.tuple #[(.agg #[vi r.1.Start, u1, u2]), vi r.2]) ∧ Sat Z V H' [It.sl Sh.int u1 r.1.Accept, It.sl sI1 u2 r.1.Next]) := by
 unfold P.mini_Min at e
 refine f_mk nd.own ?_
 refine c_sr ?_
 obtain ⟨d1, rfl⟩ := (hp1).val
 obtain ⟨d2, rfl⟩ := (hp2).val
 refine o_box hs rfl rfl fun b1 H1 s1 => ?_
 refine o_new s1 fun b2 H2 s2 => ?_
 refine o_mv (v := (vi 0)) rfl ?_
 refine c_nil (c_sq (c_sr (o_ldB 1 s2 rfl rfl rfl rfl ?_)))
 obtain ⟨x1, q1, e⟩ := oB e
 obtain ⟨Z1, V1, W1, g1, u1, c1, c2, -, c4, c3⟩ := Sat.call (l1 := []) s2
 refine o_call (mc rfl m0) (X.dfa_Check nd.dfa_Check c1 (hp1.mono (g1.v.trans u1)) (hp2.mono (g1.v.trans u1)) q1) fun _ H3 i1 => ?_
 obtain ⟨rfl, s3⟩ := i1
 have s4 := c3 _ _ s3
 refine o_mv (v := (vi x1)) rfl ?_
 refine c_nil (c_sr ?_)
 refine o_mv (v := (vi x1)) rfl ?_
 refine o_neq rfl rfl (c_nil ?_)
 refine c_ifd rfl (fun q2 => ?_) (fun q2 => ?_)
 ·replace e := if_t q2 e
  refine c_sr ?_
  refine o_bld (qs := []) rfl rfl ?_
  refine o_mv (v := (vi x1)) rfl ?_
  refine o_stB (us' := [vi 0, (.slice none 0 0), (.slice none 0 0)]) 0 s4 rfl rfl rfl rfl rfl rfl rfl fun H4 s5 => ?_
  refine o_mv (v := (vi x1)) rfl ?_
  refine c_nil ?_
  refine c_gen (P := fun tm => tm 2 = (pV b2 0) ∧ tm 3 = (vi x1) ∧ True) ⟨rfl, rfl, trivial⟩ ?_
  intro _ i2
  obtain ⟨h1, h2, -⟩ := i2
  refine c_rt ?_
  obtain rfl := oJ e
  exact ⟨.inr rfl, _, (ra2 (rac 0 s5 rfl h1 rfl rfl) (rat h2)), _, _, rfl, ((((s5.push (sl_nil (s := Sh.int))).push (sl_nil (s := sI1))).pick [1, 0] rfl).weak g1 hs.zv)⟩
 replace e := if_f q2 e
 refine c_sk (c_sr (o_ldB 1 s4 rfl rfl rfl rfl ?_))
 obtain ⟨x2, q3, e⟩ := oB e
 obtain ⟨Z2, V2, W2, g2, u2, c5, c6, -, c8, c7⟩ := Sat.call (l1 := []) s4
 refine o_call (mc rfl m0) (X.mini_complete nd.mini_complete c5 (hp1.mono ((g1.trans g2).v.trans u2)) (hp2.mono ((g1.trans g2).v.trans u2)) q3) fun _ H5 i3 => ?_
 obtain ⟨w1, w2, w3, rfl, s6⟩ := i3
 have s7 := c7 _ _ s6
 refine o_new s7 fun b3 H6 s8 => ?_
 obtain ⟨d3, rfl⟩ := ((s8.curS (s := Sh.int) 1 rfl)).val
 obtain ⟨d4, rfl⟩ := ((s8.curS (s := sI1) 2 rfl)).val
 obtain ⟨d5, rfl⟩ := ((s8.curS (s := sI2) 3 rfl)).val
 refine o_stB (us' := [(vS d3 x2.accept), (vS d4 x2.next_), (vS d5 x2.prev)]) 0 s8 rfl rfl rfl rfl rfl rfl rfl fun H7 s9 => ?_
 refine c_nil ?_
 refine c_gen (P := fun tm => tm 1 = (pV b1 0) ∧ tm 2 = (pV b2 0) ∧ tm 5 = (pV b3 0) ∧ True) ⟨rfl, rfl, rfl, trivial⟩ ?_
 intro _ i4
 obtain ⟨h3, h4, h5, -⟩ := i4
 refine c_sr (o_ldB 0 s9 rfl h5 rfl rfl ?_)
 obtain ⟨x3, q4, e⟩ := oB e
 obtain ⟨Z3, V3, W3, g3, u3, c9, c10, -, c12, c11⟩ := Sat.call (l1 := []) s9
 refine o_call (mc rfl m0) (X.mini_hopcroft nd.mini_hopcroft c9 (c10 1 _ Sh.int _ _ rfl) (c10 2 _ sI1 _ _ rfl) (c10 3 _ sI2 _ _ rfl) q4) fun w4 H8 i5 => ?_
 obtain ⟨_, rfl, s10⟩ := i5
 have s11 := c11 _ _ s10
 refine o_mv (v := w4) rfl ?_
 refine c_nil (c_sr ?_)
 refine o_mv (v := w4) rfl ?_
 refine o_fad h3 (o_ldB 6 s11 rfl rfl rfl rfl (o_len rfl ((hp2.mono (g1.trans (g2.trans g3)).v)).len ?_))
 obtain ⟨x4, q5, e⟩ := oB e
 refine o_idx (v := w4) rfl rfl (s11.curS (s := Sh.int) 0 rfl) rfl q5 fun p1 q6 => ?_
 refine o_ldi rfl (s11.curS (s := Sh.int) 0 rfl) pR q6 q5 ?_
 refine o_mv (v := (vi x4)) rfl ?_
 refine c_nil ?_
 refine c_gen (P := fun tm => tm 1 = (pV b1 0) ∧ tm 2 = (pV b2 0) ∧ tm 5 = (pV b3 0) ∧ tm 6 = w4 ∧ tm 7 = (vi x4) ∧ True) ⟨h3, h4, h5, rfl, rfl, trivial⟩ ?_
 intro _ i6
 obtain ⟨h6, h7, h8, h9, h10, -⟩ := i6
 refine c_sr ?_
 refine o_mkmap (vi : Int → Value) (vi : Int → Value) s11 fun b4 H9 s12 => ?_
 refine o_mv h9 (o_fad h6 (o_ldB 7 s12 rfl rfl rfl rfl ?_))
 obtain ⟨x5, q7, e⟩ := oB e
 refine o_idx (v := w4) rfl rfl (s12.curS (s := Sh.int) 1 rfl) rfl q7 fun p2 q8 => ?_
 refine o_ldi rfl (s12.curS (s := Sh.int) 1 rfl) pR q8 q7 ?_
 refine o_mset Mk.i (q := x5) (v := 0) 0 s12 rfl rfl rfl rfl rfl rfl fun H10 s13 => ?_
 refine o_mv (v := (.map (some b4))) rfl ?_
 refine o_mv (v := (.map (some b4))) rfl ?_
 refine c_nil (c_sr ?_)
 refine o_bld (qs := []) rfl rfl ?_
 refine o_new s13 fun b5 H11 s14 => ?_
 refine o_stB (us' := [vi 0, (.slice none 0 0), (.slice none 0 0)]) 0 s14 rfl rfl rfl rfl rfl rfl rfl fun H12 s15 => ?_
 refine c_nil ?_
 refine c_gen (P := fun tm => tm 1 = (pV b1 0) ∧ tm 2 = (pV b2 0) ∧ tm 5 = (pV b3 0) ∧ tm 6 = w4 ∧ tm 7 = (vi x4) ∧ tm 8 = (.map (some b4)) ∧ tm 9 = (pV b5 0) ∧ True) ⟨h6, h7, h8, h9, h10, rfl, rfl, trivial⟩ ?_
 intro _ i7
 obtain ⟨h11, h12, h13, h14, h15, h16, h17, -⟩ := i7
 refine c_sq (c_sr (o_fad h11 (o_ldB 8 s15 rfl rfl rfl rfl ?_)))
 refine o_bsl (s := Sh.int) (us := [vi a0.Start]) (qs := [(0, 1, (vi a0.Start))]) (xs := [a0.Start]) s15 Sh.flat_lt rfl rfl rfl (Els.cons (c := [vi a0.Start]) rfl Els.nil) rfl rfl fun w5 H13 s16 => ?_
 refine o_mv (v := w5) rfl ?_
 refine c_nil ?_
 obtain ⟨y1, q11, e⟩ := oB e
 refine c_jn (I := fun tm H => ∃ (s19 : ((List (Int × Int)) × (List Int) × (List (List Int)) × (List Int))), y1 = .out s19 ∧ (∃ (Z5 V5 : PH) (w9 : Value) (w10 : Value) (w11 : Value), Gw Z3 V3 Z5 V5 ∧ Sat Z5 V5 H [pts b1 (.rw 0 [vi a0.Start, (vS d1 a0.Accept), (vS d2 a0.Next)]), pts b2 (.rw 0 [vi 0, (.slice none 0 0), (.slice none 0 0)]), pts b3 (.rw 0 [(vS d3 x2.accept), (vS d4 x2.next_), (vS d5 x2.prev)]), Is Sh.int d3 x2.accept, Is sI1 d4 x2.next_, Is sI2 d5 x2.prev, It.sl Sh.int w4 x3, It.mp vi vi b4 s19.1, pts b5 (.rw 0 [vi 0, w9, w10]), It.sl Sh.int w9 s19.2.1, It.sl sI1 w10 s19.2.2.1, It.sl Sh.int w11 s19.2.2.2] ∧ tm 1 = (pV b1 0) ∧ tm 2 = (pV b2 0) ∧ tm 5 = (pV b3 0) ∧ tm 6 = w4 ∧ tm 7 = (vi x4) ∧ tm 8 = (.map (some b4)) ∧ tm 9 = (pV b5 0) ∧ tm 10 = w11)) (fun k4 => ?_) ?_
 ·refine c_bk ?_
  refine l_whl (fun (s17 : ((List (Int × Int)) × (List Int) × (List (List Int)) × (List Int))) tm H => ∃ (Z4 V4 : PH) (w6 : Value) (w7 : Value) (w8 : Value), Gw Z3 V3 Z4 V4 ∧ Sat Z4 V4 H [pts b1 (.rw 0 [vi a0.Start, (vS d1 a0.Accept), (vS d2 a0.Next)]), pts b2 (.rw 0 [vi 0, (.slice none 0 0), (.slice none 0 0)]), pts b3 (.rw 0 [(vS d3 x2.accept), (vS d4 x2.next_), (vS d5 x2.prev)]), Is Sh.int d3 x2.accept, Is sI1 d4 x2.next_, Is sI2 d5 x2.prev, It.sl Sh.int w4 x3, It.mp vi vi b4 s17.1, pts b5 (.rw 0 [vi 0, w6, w7]), It.sl Sh.int w6 s17.2.1, It.sl sI1 w7 s17.2.2.1, It.sl Sh.int w8 s17.2.2.2] ∧ tm 1 = (pV b1 0) ∧ tm 2 = (pV b2 0) ∧ tm 5 = (pV b3 0) ∧ tm 6 = w4 ∧ tm 7 = (vi x4) ∧ tm 8 = (.map (some b4)) ∧ tm 9 = (pV b5 0) ∧ tm 10 = w8) (fun s17 y2 tm H15 j1 e1 k1 k2 k3 => ?_) q11 ⟨_, _, _, _, _, Gw.refl _ _, (((s16.push (sl_nil (s := Sh.int))).push (sl_nil (s := sI1))).pick [11, 10, 6, 7, 8, 9, 5, 4, 3, 1, 0, 2] rfl), h11, h12, h13, h14, h15, h16, h17, rfl⟩
  obtain ⟨Z4, V4, w6, w7, w8, g4, s18, h18, h19, h20, h21, h22, h23, h24, h25⟩ := j1
  unfold P.mini_Min.b0 at e1
  refine c_sq (c_sr (o_mv h25 ?_))
  refine o_len rfl ((s18.curS (s := Sh.int) 11 rfl)).len ?_
  refine o_gtr rfl rfl (c_nil ?_)
  refine c_ifd rfl (fun q12 => ?_) (fun q12 => ?_)
  ·replace e1 := if_t q12 e1
   refine c_sk (c_sq (c_bk (c_sr ?_)))
   refine o_bsl (s := Sh.int) (us := [(vi (-1))]) (qs := [(0, 1, (vi (-1)))]) (xs := [(-1)]) s18 Sh.flat_lt rfl rfl rfl (Els.cons (c := [(vi (-1))]) rfl Els.nil) rfl rfl fun w12 H17 s21 => ?_
   refine o_fad h18 (o_ldB 1 s21 rfl rfl rfl rfl ?_)
   obtain ⟨x7, q13, e1⟩ := oB e1
   refine o_idx (v := (vS d2 a0.Next)) rfl rfl (hp2.mono (g1.trans (g2.trans (g3.trans g4))).v) rfl q13 fun p3 q14 => ?_
   refine o_lds rfl (hp2.mono (g1.trans (g2.trans (g3.trans g4))).v) s21.v q14 q13 fun w13 h34 => ?_
   refine o_len rfl (h34).len ?_
   obtain ⟨x8, q15, e1⟩ := oB e1
   obtain ⟨Z6, V6, W4, g6, u4, c13, c14, -, c16, c15⟩ := Sat.call (l1 := []) s21
   refine o_call (mc rfl (mc rfl m0)) (X.slices_Repeat_int_int nd.slices_Repeat_int_int c13 (c14 0 _ Sh.int _ _ rfl) q15) fun w14 H18 i9 => ?_
   obtain ⟨_, rfl, s22⟩ := i9
   have s23 := c15 _ _ s22
   refine o_mv (v := w14) rfl ?_
   refine c_nil ?_
   refine c_gen (P := fun tm => tm 1 = (pV b1 0) ∧ tm 2 = (pV b2 0) ∧ tm 5 = (pV b3 0) ∧ tm 6 = w4 ∧ tm 7 = (vi x4) ∧ tm 8 = (.map (some b4)) ∧ tm 9 = (pV b5 0) ∧ tm 10 = w8 ∧ tm 11 = w14 ∧ True) ⟨h18, h19, h20, h21, h22, h23, h24, h25, rfl, trivial⟩ ?_
   intro _ i10
   obtain ⟨h35, h36, h37, h38, h39, h40, h41, h42, h43, -⟩ := i10
   refine c_sq (c_sq ?_)
   refine d_start s23 fun n1 H19 s24 q16 d6 => ?_
   refine d_fad h37 ?_
   refine d_ldB (q16 _ _ (ph_some.2 ⟨s24.curB 4 rfl, by simp⟩)) 4 s24 rfl rfl rfl rfl ?_
   refine d_mv h42 ?_
   obtain ⟨x9, q17, e1⟩ := oB e1
   refine d_idx (v := w8) rfl rfl (s24.curS (s := Sh.int) 13 rfl) rfl q17 fun p4 q18 => ?_
   refine d_ldi ((s24.curS 13 rfl).low pR q16) rfl (s24.curS (s := Sh.int) 13 rfl) pR q18 q17 ?_
   have h44 := vl_ik (s24.curS (s := Sh.int) 13 rfl) pR q18 q17
   obtain ⟨x10, q19, e1⟩ := oB e1
   refine d_idx (v := (vS d4 x2.next_)) rfl rfl (s24.curS (s := sI1) 6 rfl) rfl q19 fun p5 q20 => ?_
   refine d_ldsv ((s24.curS 6 rfl).low pR q16) rfl (s24.curS (s := sI1) 6 rfl) pR q20 q19 fun w15 h45 h46 => ?_
   refine d_len rfl (h45).len ?_
   refine d_mv (v := (vi 0)) rfl ?_
   refine d_nil dc_nil ?_
   obtain ⟨Z7, V7, W5, g7, u5, c17, c18, -, -, c19⟩ := Sat.call (l1 := [It.sl Sh.int w14 x8, It.sl Sh.int w12 [(-1)], pts b1 (.rw 0 [vi a0.Start, (vS d1 a0.Accept), (vS d2 a0.Next)]), pts b2 (.rw 0 [vi 0, (.slice none 0 0), (.slice none 0 0)]), pts b3 (.rw 0 [(vS d3 x2.accept), (vS d4 x2.next_), (vS d5 x2.prev)]), Is Sh.int d3 x2.accept, Is sI2 d5 x2.prev, It.sl Sh.int w4 x3, It.mp vi vi b4 s17.1, pts b5 (.rw 0 [vi 0, w6, w7]), It.sl Sh.int w6 s17.2.1, It.sl sI1 w7 s17.2.2.1, It.sl Sh.int w8 s17.2.2.2]) (l2 := [Is sI1 d4 x2.next_]) (s24.pick [0, 1, 2, 3, 4, 5, 7, 8, 9, 10, 11, 12, 13, 6] rfl)
   have h47 := c18 0 _ sI1 _ _ rfl
   have g8 : Gw Z6 V6 Z7 W5 := ⟨g7.z, g7.v.trans u5, g7.o⟩
   have r1 := RdS.redo h47 c17.v q20 q19 h46
   have z1 := c17.zv
   obtain ⟨y3, q23, e1⟩ := oB e1
   refine c_bk ?_
   refine l_forP (xs := x10) (fun (i11 : Nat) (s25 : ((List (Int × Int)) × (List Int) × (List Int))) tm H => tm 64 = vi i11 ∧ ∃ (Z8 V8 : PH) (w16 : Value), Gw Z7 W5 Z8 V8 ∧ Sat Z8 V8 H [pts b1 (.rw 0 [vi a0.Start, (vS d1 a0.Accept), (vS d2 a0.Next)]), pts b2 (.rw 0 [vi 0, (.slice none 0 0), (.slice none 0 0)]), pts b3 (.rw 0 [(vS d3 x2.accept), (vS d4 x2.next_), (vS d5 x2.prev)]), Is Sh.int d3 x2.accept, Is sI2 d5 x2.prev, It.sl Sh.int w4 x3, It.mp vi vi b4 s25.1, pts b5 (.rw 0 [vi 0, w6, w7]), It.sl Sh.int w6 s17.2.1, It.sl sI1 w7 s17.2.2.1, It.sl Sh.int w16 s25.2.1, It.sl Sh.int w14 s25.2.2] ∧ tm 1 = (pV b1 0) ∧ tm 2 = (pV b2 0) ∧ tm 5 = (pV b3 0) ∧ tm 6 = w4 ∧ tm 7 = (vi x4) ∧ tm 8 = (.map (some b4)) ∧ tm 9 = (pV b5 0) ∧ tm 10 = w16 ∧ tm 11 = w14 ∧ tm 62 = w15 ∧ tm 63 = (vN x10)) (fun i11 x11 s25 s27 tm H21 q21 q22 j2 e2 k5 => ?_) (fun tm H20 jd => ?_) q23 ⟨rfl, _, _, _, Gw.refl _ _, (c17.pick [2, 3, 4, 5, 6, 7, 8, 9, 10, 11, 12, 0] rfl), h35, h36, h37, h38, h39, h40, h41, h42, h43, rfl, rfl⟩
   ·obtain ⟨hti1, Z8, V8, w16, g9, s26, h48, h49, h50, h51, h52, h53, h54, h55, h56, h57, h58⟩ := j2
    unfold P.mini_Min.b1 at e2
    refine c_sr (o_lss hti1 h58 (c_nil (c_sq ?_)))
    refine c_ift rfl (Int.ofNat_lt.2 q22) ?_
    refine c_sk (c_sq (c_bk (c_sr (o_mv hti1 ?_))))
    refine o_idx (v := w15) h57 hti1 (r1.1.mono g9.v) rfl (Pu.ix_nat.trans q21) fun p6 q24 => ?_
    refine o_ldi rfl (r1.1.mono g9.v) s26.v q24 (Pu.ix_nat.trans q21) ?_
    refine o_mv (v := (vJ i11)) rfl ?_
    refine o_mv (v := (vi x11)) rfl ?_
    refine c_nil (c_sr (o_mv h51 ?_))
    refine o_mv (v := (vi x11)) rfl ?_
    obtain ⟨x12, q25, e2⟩ := oB e2
    refine o_idx (v := w4) rfl rfl (s26.curS (s := Sh.int) 5 rfl) rfl q25 fun p7 q26 => ?_
    refine o_ldi rfl (s26.curS (s := Sh.int) 5 rfl) pR q26 q25 ?_
    refine o_mv (v := (vi x12)) rfl ?_
    refine c_nil ?_
    refine c_gen (P := fun tm => tm 1 = (pV b1 0) ∧ tm 2 = (pV b2 0) ∧ tm 5 = (pV b3 0) ∧ tm 6 = w4 ∧ tm 7 = (vi x4) ∧ tm 8 = (.map (some b4)) ∧ tm 9 = (pV b5 0) ∧ tm 10 = w16 ∧ tm 11 = w14 ∧ tm 12 = (vJ i11) ∧ tm 13 = (vi x11) ∧ tm 14 = (vi x12) ∧ tm 62 = w15 ∧ tm 63 = (vN x10) ∧ tm 64 = (vJ i11) ∧ True) ⟨h48, h49, h50, h51, h52, h53, h54, h55, h56, rfl, rfl, rfl, h57, h58, hti1, trivial⟩ ?_
    intro _ i12
    obtain ⟨h59, h60, h61, h62, h63, h64, h65, h66, h67, h68, h69, h70, h71, h72, h73, -⟩ := i12
    refine c_sq (c_sr (o_mv h70 (o_mv h63 (o_eql rfl rfl ?_))))
    refine c_nil ?_
    refine c_ifd rfl (fun q27 => ?_) (fun q27 => ?_)
    ·replace e2 := if_t q27 e2
     refine c_ex ?_
     refine e_c ?_
     refine e_h ?_
     refine c_r (o_add h73 rfl ?_)
     refine o_mv (v := (vi (Pu.W ((i11 : Int) + 1)))) rfl ?_
     refine c_nil ?_
     obtain rfl := oJ e2
     exact k5 _ _ ⟨(iv rfl (w_suc q22 (r1.1).bd)), _, _, _, g9, s26, h59, h60, h61, h62, h63, h64, h65, h66, h67, h71, h72⟩
    replace e2 := if_f q27 e2
    refine c_sk (c_sq (c_sr (o_mv h64 (o_mv h70 ?_))))
    refine o_mlook Mk.i (q := x12) (z := 0) 6 s26 rfl rfl rfl rfl rfl ?_
    refine o_mv (v := (.tuple #[(vi ((Pu.mget x12 s25.1).getD 0)), (.bool ((Pu.mget x12 s25.1).isSome))])) rfl ?_
    refine o_ext rfl rfl (o_ext rfl rfl ?_)
    refine o_mv (v := (vi ((Pu.mget x12 s25.1).getD 0))) rfl ?_
    refine o_mv (v := (.bool ((Pu.mget x12 s25.1).isSome))) rfl ?_
    refine c_nil ?_
    refine c_gen (P := fun tm => tm 1 = (pV b1 0) ∧ tm 2 = (pV b2 0) ∧ tm 5 = (pV b3 0) ∧ tm 6 = w4 ∧ tm 7 = (vi x4) ∧ tm 8 = (.map (some b4)) ∧ tm 9 = (pV b5 0) ∧ tm 10 = w16 ∧ tm 11 = w14 ∧ tm 12 = (vJ i11) ∧ tm 13 = (vi x11) ∧ tm 14 = (vi x12) ∧ tm 16 = (.bool ((Pu.mget x12 s25.1).isSome)) ∧ tm 62 = w15 ∧ tm 63 = (vN x10) ∧ tm 64 = (vJ i11) ∧ True) ⟨h59, h60, h61, h62, h63, h64, h65, h66, h67, h68, h69, h70, rfl, h71, h72, h73, trivial⟩ ?_
    intro _ i13
    obtain ⟨h74, h75, h76, h77, h78, h79, h80, h81, h82, h83, h84, h85, h86, h87, h88, h89, -⟩ := i13
    refine c_sr (o_mv h86 (o_not rfl (c_nil ?_)))
    obtain ⟨y4, e3, e2⟩ := oB e2
    refine c_jn (I := fun tm H => ∃ (Z9 V9 : PH) (w17 : Value), Gw Z8 V8 Z9 V9 ∧ Sat Z9 V9 H [pts b1 (.rw 0 [vi a0.Start, (vS d1 a0.Accept), (vS d2 a0.Next)]), pts b2 (.rw 0 [vi 0, (.slice none 0 0), (.slice none 0 0)]), pts b3 (.rw 0 [(vS d3 x2.accept), (vS d4 x2.next_), (vS d5 x2.prev)]), Is Sh.int d3 x2.accept, Is sI2 d5 x2.prev, It.sl Sh.int w4 x3, It.mp vi vi b4 y4.1, pts b5 (.rw 0 [vi 0, w6, w7]), It.sl Sh.int w6 s17.2.1, It.sl sI1 w7 s17.2.2.1, It.sl Sh.int w17 y4.2, It.sl Sh.int w14 s25.2.2] ∧ tm 1 = (pV b1 0) ∧ tm 2 = (pV b2 0) ∧ tm 5 = (pV b3 0) ∧ tm 6 = w4 ∧ tm 7 = (vi x4) ∧ tm 8 = (.map (some b4)) ∧ tm 9 = (pV b5 0) ∧ tm 10 = w17 ∧ tm 11 = w14 ∧ tm 12 = (vJ i11) ∧ tm 14 = (vi x12) ∧ tm 62 = w15 ∧ tm 63 = (vN x10) ∧ tm 64 = (vJ i11)) (fun k6 => ?_) ?_
    ·refine c_if rfl (fun q28 => ?_) (fun q28 => ?_)
     ·replace e3 := if_t q28 e3
      refine c_sr (o_mv h79 (o_mv h85 (o_mv h79 (o_lenm 6 s26 rfl rfl ?_))))
      refine o_mset Mk.i (q := x12) (v := (s25.1.length : Int)) 6 s26 rfl rfl rfl rfl rfl rfl fun H23 s29 => ?_
      refine c_nil (c_r (o_mv h81 (o_mv h84 ?_)))
      refine o_bsl (s := Sh.int) (us := [vi x11]) (qs := [(0, 1, (vi x11))]) (xs := [x11]) s29 Sh.flat_lt rfl rfl rfl (Els.cons (c := [vi x11]) rfl Els.nil) rfl rfl fun w18 H24 s30 => ?_
      obtain ⟨x13, q29, e3⟩ := oB e3
      refine o_app 11 s30 rfl Sh.flat_lt rfl rfl rfl rfl (s30.curS (s := Sh.int) 0 rfl) pR (fun h => h) (by decide) q29 fun w19 H25 s31 => ?_
      refine o_mv (v := w19) rfl ?_
      refine c_nil ?_
      obtain rfl := oJ e3
      exact k6 _ _ ⟨_, _, _, Gw.refl _ _, (s31.pick [1, 2, 3, 4, 5, 6, 7, 8, 9, 10, 11, 12] rfl), h74, h75, h76, h77, h78, h79, h80, rfl, h82, h83, h85, h87, h88, h89⟩
     replace e3 := ib_f q28 e3
     refine c_sk ?_
     obtain rfl := oJ e3
     exact k6 _ _ ⟨_, _, _, Gw.refl _ _, s26, h74, h75, h76, h77, h78, h79, h80, h81, h82, h83, h85, h87, h88, h89⟩
    intro _ H22 i14
    obtain ⟨Z9, V9, w17, g10, s28, h90, h91, h92, h93, h94, h95, h96, h97, h98, h99, h100, h101, h102, h103⟩ := i14
    refine c_r (o_mv h98 (o_mv h99 (o_mv h95 (o_mv h100 ?_))))
    refine o_mlook1 Mk.i (q := x12) (z := 0) 6 s28 rfl rfl rfl rfl rfl ?_
    obtain ⟨x14, q30, e2⟩ := oB e2
    refine o_idx (v := w14) rfl rfl (s28.curS (s := Sh.int) 11 rfl) rfl q30 fun p8 q31 => ?_
    refine o_st 11 s28 rfl Sh.flat_lt rfl rfl rfl q31 q30 rfl rfl fun H26 s32 => ?_
    refine c_nil (c_end (c_r (o_add h103 rfl ?_)))
    refine o_mv (v := (vi (Pu.W ((i11 : Int) + 1)))) rfl ?_
    refine c_nil ?_
    obtain rfl := oJ e2
    exact k5 _ _ ⟨(iv rfl (w_suc q22 (r1.1).bd)), _, _, _, (g9.trans g10), s32, h90, h91, h92, h93, h94, h95, h96, h97, h98, h101, h102⟩
   obtain ⟨hte1, Z10, V10, w20, g11, s33, h104, h105, h106, h107, h108, h109, h110, h111, h112, h113, h114⟩ := jd
   refine c_sr (o_lss hte1 h114 (c_nil (c_sq ?_)))
   refine c_iff rfl (Int.lt_irrefl _) ?_
   refine c_ex ?_
   refine e_c ?_
   refine e_c ?_
   refine e_h ?_
   have s34 := c19 _ _ (Sat.weak g11 z1 s33)
   refine d_start s34 fun n2 H28 s35 q32 d7 => ?_
   refine d_fad h110 ?_
   obtain ⟨d8, rfl⟩ := ((s35.curS (s := Sh.int) 8 rfl)).val
   obtain ⟨d9, rfl⟩ := ((s35.curS (s := sI1) 9 rfl)).val
   refine d_ldB (q32 _ _ (ph_some.2 ⟨s35.curB 7 rfl, by simp⟩)) 7 s35 rfl rfl rfl rfl ?_
   refine d_fad h106 ?_
   refine d_ldB (q32 _ _ (ph_some.2 ⟨s35.curB 2 rfl, by simp⟩)) 2 s35 rfl rfl rfl rfl ?_
   refine d_mv h111 ?_
   obtain ⟨x15, q33, e1⟩ := oB e1
   refine d_idx (v := w20) rfl rfl (s35.curS (s := Sh.int) 10 rfl) rfl q33 fun p9 q34 => ?_
   refine d_ldi ((s35.curS 10 rfl).low pR q32) rfl (s35.curS (s := Sh.int) 10 rfl) pR q34 q33 ?_
   have h115 := vl_ik (s35.curS (s := Sh.int) 10 rfl) pR q34 q33
   obtain ⟨x16, q35, e1⟩ := oB e1
   refine d_idx (v := (vS d3 x2.accept)) rfl rfl (s35.curS (s := Sh.int) 3 rfl) rfl q35 fun p10 q36 => ?_
   refine d_ldi ((s35.curS 3 rfl).low pR q32) rfl (s35.curS (s := Sh.int) 3 rfl) pR q36 q35 ?_
   have h116 := vl_ik (s35.curS (s := Sh.int) 3 rfl) pR q36 q35
   refine d_bsl (s := Sh.int) (us := [vi x16]) (qs := [(0, 1, (vi x16))]) (xs := [x16]) (d7.get 9 rfl rfl) s35 Sh.flat_lt rfl rfl rfl (Els.cons (c := [vi x16]) rfl Els.nil) rfl rfl fun w21 H29 s36 k7 => ?_
   have d10 := d7.next 9 rfl k7
   obtain ⟨x17, q37, e1⟩ := oB e1
   refine d_app 9 s36 rfl Sh.flat_lt rfl rfl rfl rfl (s36.curS (s := Sh.int) 0 rfl) pR (fun h => h) (by decide) q37 fun w22 H30 s37 k8 => ?_
   have d11 := d10.keep k8
   refine d_fad h110 ?_
   refine d_ldB (q32 _ _ (ph_some.2 ⟨s35.curB 7 rfl, by simp⟩)) 8 s37 rfl rfl rfl rfl ?_
   refine d_mv h112 ?_
   have s38 := s37.pull 12 rfl
   refine d_bslH (d11.get 14 rfl rfl) s38 rfl fun w23 H31 s39 k9 => ?_
   have d12 := d11.next 14 rfl k9
   obtain ⟨x18, q38, e1⟩ := oB e1
   refine d_appH 10 s39 rfl rfl rfl (by decide) q38 (List.cons_ne_nil _ _) fun w24 H32 s40 k10 => ?_
   have d13 := d12.keep k10
   refine d_fad h110 ?_
   obtain ⟨d14, rfl⟩ := ((s40.curS (s := Sh.int) 9 rfl)).val
   refine d_stB (us' := [vi 0, (vS d14 x17), (vS d9 s17.2.2.1)]) 8 s40 rfl rfl rfl rfl rfl rfl rfl fun H33 s41 k11 => ?_
   have d15 := d13.keep k11
   refine d_fad h110 ?_
   obtain ⟨d16, rfl⟩ := ((s41.curS (s := sI1) 10 rfl)).val
   refine d_stB (us' := [vi 0, (vS d14 x17), (vS d16 x18)]) 8 s41 rfl rfl rfl rfl rfl rfl rfl fun H34 s42 k12 => ?_
   have d17 := d15.keep k12
   refine d_nil (dc_mk rfl (ta8 (tre (tl8 (tl4 tr0)))) (ta8 (ta2 (tre (tl8 (tl2 tr0))))) (ta8 (tra (tre (tl8 (tl2 (trl tr0)))))) (ag_ldx (w := (vS d9 s17.2.2.1)) w_0 rfl (ldB_v 8 s37 rfl rfl rfl) (ldB_v 8 s36 rfl rfl rfl) (by simp [vsame, vsame1])) (ag_ldx (w := (vS d9 s17.2.2.1)) w_0 rfl (ldB_v 8 s37 rfl rfl rfl) (ldB_v 8 s37 rfl rfl rfl) (by simp [vsame, vsame1])) dc_nil) ?_
   refine c_end (c_r (o_mv h111 ?_))
   obtain ⟨x19, q39, e1⟩ := oB e1
   refine o_slclX rfl rfl (s42.curS (s := Sh.int) 11 rfl) pR rfl q39 fun w25 h117 h118 => ?_
   have s43 := Sat.conv (u := It.sl Sh.int w25 x19) 11 rfl (fun F h _ q => h118.1 F h q) s42
   refine o_mv (v := w25) rfl ?_
   refine c_nil ?_
   exact k1 _ _ _ (sJ e1) ⟨_, _, _, _, _, (g4.trans (g6.trans g7)), (s43.pick [1, 2, 3, 4, 12, 5, 6, 7, 8, 9, 10, 11] rfl), h104, h105, h106, h107, h108, h109, h110, rfl⟩
  replace e1 := if_f q12 e1
  refine c_ex ?_
  refine e_c ?_
  refine e_c ?_
  refine e_h ?_
  exact k4 _ _ ⟨_, k2 _ (sJ e1), _, _, _, _, _, g4, s18, h18, h19, h20, h21, h22, h23, h24, h25⟩
 intro _ H16 i15
 obtain ⟨s19, f1, Z5, V5, w9, w10, w11, g5, s20, h26, h27, h28, h29, h30, h31, h32, h33⟩ := i15
 replace e := fin_o f1 e
 refine c_sr ?_
 obtain ⟨d18, rfl⟩ := ((s20.curS (s := Sh.int) 9 rfl)).val
 obtain ⟨d19, rfl⟩ := ((s20.curS (s := sI1) 10 rfl)).val
 refine o_ldB 8 s20 rfl h32 rfl rfl ?_
 refine o_stB (us' := [vi 0, (vS d18 s19.2.1), (vS d19 s19.2.2.1)]) 1 s20 rfl h27 rfl rfl rfl rfl rfl fun H35 s44 => ?_
 refine o_mv (v := (vi 0)) rfl ?_
 refine c_nil (c_rt ?_)
 obtain rfl := oJ e
 exact ⟨.inr rfl, _, (ra2 (rac 1 s44 rfl h27 rfl rfl) (rat rfl)), _, _, rfl, ((s44.pick [9, 10] rfl).weak (g1.trans (g2.trans (g3.trans g5))) hs.zv)⟩
/-! teach_way -/
structure Nd.teach_way (T : FuncId → Option AFunc) : Prop where
  own_teach_way : Has T I.teach_way F.teach_way
set_option maxHeartbeats 1000000 in
theorem X.teach_way_rec {T : FuncId → Option AFunc} (nd : Nd.teach_way T) : ∀ φ : Nat, (∀ {Z V : PH} {H : Hp} {v1 : Value} {a0 : (List Ty.teach_pair)} {a1 : Int} (hs : Sat Z V H []) (hp1 : RdS Sh.teach_pair V v1 a0) {r : (List Int)} (e : P.teach_way φ a0 a1 = some r), G T I.teach_way [v1, vi a1] H (fun rv H' => ∃ (u1 : Value), rv = u1 ∧ Sat Z V H' [It.sl Sh.int u1 r])) := by
  intro φ
  induction φ with
  | zero =>
    intro Z V H v1 a0 a1 hs hp1 r e
    rw [P.teach_way] at e; cases e
  | succ φ ih =>
    intro Z V H v1 a0 a1 hs hp1 r e
    rw [P.teach_way] at e
    refine f_mk nd.own_teach_way ?_
    refine c_sr ?_
    refine o_mv (v := (.slice none 0 0)) rfl ?_
    refine c_nil (c_sq (c_sr ?_))
    refine o_mv (v := v1) rfl ?_
    refine o_mv (v := (vi a1)) rfl ?_
    obtain ⟨x1, q1, e⟩ := oB e
    refine o_idx (v := v1) rfl rfl hp1 rfl q1 fun p1 q2 => ?_
    refine o_fadE rfl q2 fun p2 q3 => ?_
    refine o_ldF rfl hp1 hs.v rfl q2 q3 q1 rfl fun c1 h1 => ?_
    obtain rfl := h1
    refine ⟨_, rfl, ?_⟩
    refine o_lss rfl rfl (c_nil ?_)
    refine c_ifd rfl (fun q4 => ?_) (fun q4 => ?_)
    ·replace e := if_t q4 e
     refine c_sr ?_
     refine o_mv (v := (.slice none 0 0)) rfl ?_
     refine c_nil (c_rt ?_)
     obtain rfl := oJ e
     exact ⟨.inr rfl, _, (ar1 rfl), _, rfl, (hs.push (sl_nil (s := Sh.int)))⟩
    replace e := if_f q4 e
    refine c_sk (c_sq ?_)
    refine c_gen (P := fun tm => tm 0 = v1 ∧ tm 1 = (vi a1) ∧ True) ⟨rfl, rfl, trivial⟩ ?_
    intro _ i1
    obtain ⟨h2, h3, -⟩ := i1
    refine d_start hs fun n1 H1 s1 q5 d1 => ?_
    refine d_mv h2 ?_
    refine d_mv h2 ?_
    refine d_mv h3 ?_
    obtain ⟨x2, q6, e⟩ := oB e
    refine d_idx (v := v1) rfl rfl hp1 rfl q6 fun p3 q7 => ?_
    refine d_fadE rfl q7 fun p4 q8 => ?_
    refine d_ldF (RdS.low hp1 s1.v q5) rfl hp1 s1.v rfl q7 q8 q6 rfl fun c2 h4 => ?_
    obtain rfl := h4
    refine ⟨_, rfl, ?_⟩
    obtain ⟨x3, q9, e⟩ := oB e
    obtain ⟨Z1, V1, W1, g1, u1, c3, c4, -, c6, c5⟩ := Sat.call (l1 := []) s1
    refine d_call (mc rfl (mc rfl m0)) (ih c3 (hp1.mono (g1.v.trans u1)) q9) fun w1 H2 i2 k1 => ?_
    have d2 := d1.keep k1
    obtain ⟨_, rfl, s2⟩ := i2
    have s3 := c5 _ _ s2
    refine d_mv h2 ?_
    refine d_mv h3 ?_
    obtain ⟨x4, q10, e⟩ := oB e
    refine d_idx (v := v1) rfl rfl (hp1.mono g1.v) rfl q10 fun p5 q11 => ?_
    refine d_fadE rfl q11 fun p6 q12 => ?_
    refine d_ldF (RdS.low hp1 s1.v q5) rfl (hp1.mono g1.v) s3.v rfl q11 q12 q10 rfl fun c7 h5 => ?_
    obtain rfl := h5
    refine ⟨_, rfl, ?_⟩
    refine d_bsl (s := Sh.int) (us := [vi x4.by_]) (qs := [(0, 1, (vi x4.by_))]) (xs := [x4.by_]) (d2.get 12 rfl rfl) s3 Sh.flat_lt rfl rfl rfl (Els.cons (c := [vi x4.by_]) rfl Els.nil) rfl rfl fun w2 H3 s4 k2 => ?_
    have d3 := d2.next 12 rfl k2
    obtain ⟨x5, q13, e⟩ := oB e
    refine d_app 1 s4 rfl Sh.flat_lt rfl rfl rfl rfl (s4.curS (s := Sh.int) 0 rfl) pR (fun h => h) (by decide) q13 fun w3 H4 s5 k3 => ?_
    have d4 := d3.keep k3
    refine d_mv (v := w3) rfl ?_
    refine d_nil (dc_mk rfl (ta4 (tre (tl8 (tl2 (trl tr0))))) (ta8 (tra (tre (tl4 (tl2 tr0))))) (ta8 (tre (tl4 (tl2 (trl tr0))))) (ag_ldF w_0 hp1 q10 rfl q11 q12 rfl rfl (g1.v.trans s3.v) s1.v (fun cs h => by cases h; exact ⟨_, rfl, by simp [vsame, vsame1]⟩)) (ag_ldF w_0 hp1 q10 rfl q11 q12 rfl rfl (g1.v.trans s3.v) (g1.v.trans s3.v) (fun cs h => by cases h; exact ⟨_, rfl, by simp [vsame, vsame1]⟩)) dc_nil) ?_
    refine c_gen (P := fun tm => tm 4 = w3 ∧ True) ⟨rfl, trivial⟩ ?_
    intro _ i3
    obtain ⟨h6, -⟩ := i3
    refine c_rt ?_
    obtain rfl := oJ e
    exact ⟨.inr rfl, _, (ar1 h6), _, rfl, ((s5.pick [1] rfl).weak g1 hs.zv)⟩
theorem X.teach_way {T : FuncId → Option AFunc} (nd : Nd.teach_way T) {φ : Nat} {Z V : PH} {H : Hp} {v1 : Value} {a0 : (List Ty.teach_pair)} {a1 : Int} (hs : Sat Z V H []) (hp1 : RdS Sh.teach_pair V v1 a0) {r : (List Int)} (e : P.teach_way φ a0 a1 = some r) :
    G T I.teach_way [v1, vi a1] H (fun rv H' => ∃ (u1 : Value), rv = u1 ∧ Sat Z V H' [It.sl Sh.int u1 r]) := (X.teach_way_rec nd φ) hs hp1 e
/-! teach_step -/
structure Nd.teach_step (T : FuncId → Option AFunc) : Prop where
  own : Has T I.teach_step F.teach_step
set_option maxHeartbeats 1000000 in
theorem X.teach_step {T : FuncId → Option AFunc} (nd : Nd.teach_step T) {Z V : PH} {H : Hp} {v1 : Value} {v2 : Value} {a0 : Ty.api_Dfa} {a1 : Int} {a2 : Int} (hs : Sat Z V H []) (hp1 : RdS Sh.int V v1 a0.Accept) (hp2 : RdS sI1 V v2 a0.Next) {r : Int} (e : P.teach_step a0 a1 a2 = some r) :
    G T I.teach_step [(.agg #[vi a0.Start, v1, v2]), vi a1, vi a2] H (fun rv H' => rv = (vi r) ∧ Sat Z V H' []) := by
 unfold P.teach_step at e
 refine f_mk nd.own ?_
 refine c_sr ?_
 obtain ⟨d1, rfl⟩ := (hp1).val
 obtain ⟨d2, rfl⟩ := (hp2).val
 refine o_box hs rfl rfl fun b1 H1 s1 => ?_
 refine o_mv (v := (vi 0)) rfl ?_
 refine c_nil (c_sq (c_sr ?_))
 refine o_mv (v := (vi a1)) rfl ?_
 refine o_lss rfl rfl (c_nil ?_)
 refine c_ifd rfl (fun q1 => ?_) (fun q1 => ?_)
 ·replace e := if_t q1 e
  refine c_sr ?_
  refine o_mv (v := (vi (-1))) rfl ?_
  refine c_nil (c_rt ?_)
  obtain rfl := oJ e
  exact ⟨.inr rfl, _, (ar1 rfl), rfl, (s1.pick [] rfl)⟩
 replace e := if_f q1 e
 refine c_sk (c_sr (o_fad rfl (o_ldB 0 s1 rfl rfl rfl rfl ?_)))
 refine o_mv (v := (vi a1)) rfl ?_
 obtain ⟨x1, q2, e⟩ := oB e
 refine o_idx (v := (vS d2 a0.Next)) rfl rfl hp2 rfl q2 fun p1 q3 => ?_
 refine o_lds rfl hp2 s1.v q3 q2 fun w1 h1 => ?_
 refine o_mv (v := (vi a2)) rfl ?_
 obtain ⟨x2, q4, e⟩ := oB e
 refine o_idx (v := w1) rfl rfl h1 rfl q4 fun p2 q5 => ?_
 refine o_ldi rfl h1 s1.v q5 q4 ?_
 refine o_mv (v := (vi x2)) rfl ?_
 refine c_nil ?_
 refine c_gen (P := fun tm => tm 6 = (vi x2) ∧ True) ⟨rfl, trivial⟩ ?_
 intro _ i1
 obtain ⟨h2, -⟩ := i1
 refine c_rt ?_
 obtain rfl := oJ e
 exact ⟨.inr rfl, _, (ar1 h2), rfl, (s1.pick [] rfl)⟩
/-! teach_Differ -/
structure Nd.teach_Differ (T : FuncId → Option AFunc) : Prop where
  own : Has T I.teach_Differ F.teach_Differ
  dfa_Check : Nd.dfa_Check T
  teach_way : Nd.teach_way T
  teach_step : Nd.teach_step T
set_option maxHeartbeats 1000000 in
theorem X.teach_Differ {T : FuncId → Option AFunc} (nd : Nd.teach_Differ T) {φ : Nat} {Z V : PH} {H : Hp} {v1 : Value} {v2 : Value} {v3 : Value} {v4 : Value} {a0 : Ty.api_Dfa} {a1 : Ty.api_Dfa} (hs : Sat Z V H []) (hp1 : RdS Sh.int V v1 a0.Accept) (hp2 : RdS sI1 V v2 a0.Next) (hp3 : RdS Sh.int V v3 a1.Accept) (hp4 : RdS sI1 V v4 a1.Next) {r : ((List Int) × Bool)} (e : P.teach_Differ φ a0 a1 = some r) :
    G T I.teach_Differ [(.agg #[vi a0.Start, v1, v2]), (.agg #[vi a1.Start, v3, v4])] H (fun rv H' => ∃ (u1 : Value), rv = (.tuple #[u1, (.bool r.2)]) ∧ Sat Z V H' [It.sl Sh.int u1 r.1]) := by
 unfold P.teach_Differ at e
 refine f_mk nd.own ?_
 refine c_sr ?_
 obtain ⟨d1, rfl⟩ := (hp1).val
 obtain ⟨d2, rfl⟩ := (hp2).val
 refine o_box hs rfl rfl fun b1 H1 s1 => ?_
 obtain ⟨d3, rfl⟩ := (hp3).val
 obtain ⟨d4, rfl⟩ := (hp4).val
 refine o_box s1 rfl rfl fun b2 H2 s2 => ?_
 refine o_mv (v := (.slice none 0 0)) rfl ?_
 refine o_mv (v := (.bool false)) rfl ?_
 refine c_nil (c_sq (c_sq ?_))
 refine d_start s2 fun n1 H3 s3 q1 d5 => ?_
 refine d_ldB (q1 _ _ (ph_some.2 ⟨s3.curB 1 rfl, by simp⟩)) 1 s3 rfl rfl rfl rfl ?_
 obtain ⟨x1, q2, e⟩ := oB e
 obtain ⟨Z1, V1, W1, g1, u1, c1, c2, -, c4, c3⟩ := Sat.call (l1 := []) s3
 refine d_call (mc rfl m0) (X.dfa_Check nd.dfa_Check c1 (hp1.mono (g1.v.trans u1)) (hp2.mono (g1.v.trans u1)) q2) fun _ H4 i1 k1 => ?_
 have d6 := d5.keep k1
 obtain ⟨rfl, s4⟩ := i1
 have s5 := c3 _ _ s4
 refine d_neq rfl rfl ?_
 refine d_mv (v := (.bool (decide (x1 ≠ 0)))) rfl ?_
 obtain ⟨y1, e1, e⟩ := oB e
 refine d_jn 4 (I := fun tm H => DD n1 8 (List.length F.teach_Differ.r1) H ∧ (∃ (Z2 V2 : PH), Gw Z1 V1 Z2 V2 ∧ Sat Z2 V2 H [pts b1 (.rw 0 [vi a0.Start, (vS d1 a0.Accept), (vS d2 a0.Next)]), pts b2 (.rw 0 [vi a1.Start, (vS d3 a1.Accept), (vS d4 a1.Next)])] ∧ tm 2 = (pV b1 0) ∧ tm 3 = (pV b2 0) ∧ tm 20 = (.bool y1))) (fun k2 => ?_) ?_
 ·rcases Bool.eq_false_or_eq_true (decide (x1 ≠ 0)) with q3 | q3
  ·replace e1 := if_t q3 e1
   refine d_gn rfl q3 ?_
   refine d_gn rfl q3 ?_
   refine d_gn rfl q3 ?_
   refine d_pickt (a := (.bool true)) rfl q3 rfl ?_
   obtain rfl := oJ e1
   exact k2 _ _ _ ⟨d6.up rfl, _, _, Gw.refl _ _, (s5.pick [1, 0] rfl), rfl, rfl, rfl⟩
  replace e1 := ib_f q3 e1
  refine d_want rfl q3 ?_
  refine d_ldB (q1 _ _ (ph_some.2 ⟨s3.curB 0 rfl, by simp⟩)) 0 s5 rfl rfl rfl rfl ?_
  refine d_want rfl q3 ?_
  obtain ⟨x2, q4, e1⟩ := oB e1
  obtain ⟨Z3, V3, W2, g3, u2, c5, c6, -, c8, c7⟩ := Sat.call (l1 := []) s5
  refine d_call (mc rfl m0) (X.dfa_Check nd.dfa_Check c5 (hp3.mono ((g1.trans g3).v.trans u2)) (hp4.mono ((g1.trans g3).v.trans u2)) q4) fun _ H6 i2 k3 => ?_
  have d7 := d6.keep k3
  obtain ⟨rfl, s7⟩ := i2
  have s8 := c7 _ _ s7
  refine d_want rfl q3 ?_
  refine d_neq rfl rfl ?_
  refine d_pickf (b := (.bool (decide (x2 ≠ 0)))) rfl q3 rfl ?_
  obtain rfl := oJ e1
  exact k2 _ _ _ ⟨d7.up rfl, _, _, g3, (s8.pick [1, 0] rfl), rfl, rfl, rfl⟩
 intro _ H5 _ i3
 obtain ⟨d8, Z2, V2, g2, s6, h1, h2, h3⟩ := i3
 refine d_mv h3 ?_
 obtain ⟨y2, e2, e⟩ := oB e
 refine d_jn 12 (I := fun tm H => DD n1 21 (List.length F.teach_Differ.r1) H ∧ (∃ (Z4 V4 : PH), Gw Z2 V2 Z4 V4 ∧ Sat Z4 V4 H [pts b1 (.rw 0 [vi a0.Start, (vS d1 a0.Accept), (vS d2 a0.Next)]), pts b2 (.rw 0 [vi a1.Start, (vS d3 a1.Accept), (vS d4 a1.Next)])] ∧ tm 2 = (pV b1 0) ∧ tm 3 = (pV b2 0) ∧ tm 33 = (.bool y2))) (fun k4 => ?_) ?_
 ·rcases Bool.eq_false_or_eq_true y1 with q5 | q5
  ·replace e2 := if_t q5 e2
   refine d_gn rfl q5 ?_
   refine d_gn rfl q5 ?_
   refine d_gn rfl q5 ?_
   refine d_gn rfl q5 ?_
   refine d_gn rfl q5 ?_
   refine d_gn rfl q5 ?_
   refine d_gn rfl q5 ?_
   refine d_gn rfl q5 ?_
   refine d_gn rfl q5 ?_
   refine d_gn rfl q5 ?_
   refine d_gn rfl q5 ?_
   refine d_pickt (a := (.bool true)) rfl q5 rfl ?_
   obtain rfl := oJ e2
   exact k4 _ _ _ ⟨d8.up rfl, _, _, Gw.refl _ _, s6, h1, h2, rfl⟩
  replace e2 := ib_f q5 e2
  refine d_want rfl q5 ?_
  refine d_fad h1 ?_
  refine d_want rfl q5 ?_
  refine d_ldB (q1 _ _ (ph_some.2 ⟨s3.curB 1 rfl, by simp⟩)) 0 s6 rfl rfl rfl rfl ?_
  refine d_want rfl q5 ?_
  obtain ⟨x3, q6, e2⟩ := oB e2
  refine d_idx (v := (vS d2 a0.Next)) rfl rfl (hp2.mono (g1.trans g2).v) rfl q6 fun p1 q7 => ?_
  refine d_want rfl q5 ?_
  refine d_lds (RdS.low hp2 s3.v q1) rfl hp2 ((g1.trans g2).v.trans s6.v) q7 q6 fun w1 h7 => ?_
  refine d_want rfl q5 ?_
  refine d_len rfl ((h7.mono (g1.trans g2).v)).len ?_
  refine d_want rfl q5 ?_
  refine d_fad h2 ?_
  refine d_want rfl q5 ?_
  refine d_ldB (q1 _ _ (ph_some.2 ⟨s3.curB 0 rfl, by simp⟩)) 1 s6 rfl rfl rfl rfl ?_
  refine d_want rfl q5 ?_
  obtain ⟨x4, q8, e2⟩ := oB e2
  refine d_idx (v := (vS d4 a1.Next)) rfl rfl (hp4.mono (g1.trans g2).v) rfl q8 fun p2 q9 => ?_
  refine d_want rfl q5 ?_
  refine d_lds (RdS.low hp4 s3.v q1) rfl hp4 ((g1.trans g2).v.trans s6.v) q9 q8 fun w2 h8 => ?_
  refine d_want rfl q5 ?_
  refine d_len rfl ((h8.mono (g1.trans g2).v)).len ?_
  refine d_want rfl q5 ?_
  refine d_neq rfl rfl ?_
  refine d_pickf (b := (.bool (decide ((x3.length : Int) ≠ (x4.length : Int))))) rfl q5 rfl ?_
  obtain rfl := oJ e2
  exact k4 _ _ _ ⟨d8.up rfl, _, _, Gw.refl _ _, s6, h1, h2, rfl⟩
 intro _ H7 _ i4
 obtain ⟨d9, Z4, V4, g4, s9, h4, h5, h6⟩ := i4
 refine d_nil dc_nil ?_
 refine c_if h6 (fun q10 => ?_) (fun q10 => ?_)
 ·replace e := if_t q10 e
  refine c_sr ?_
  refine o_mv (v := (.slice none 0 0)) rfl ?_
  refine o_mv (v := (.bool false)) rfl ?_
  refine c_nil (c_rt ?_)
  obtain rfl := oJ e
  exact ⟨.inr rfl, _, (ar2 rfl rfl), _, rfl, (((s9.push (sl_nil (s := Sh.int))).pick [0] rfl).weak (g1.trans (g2.trans g4)) hs.zv)⟩
 replace e := ib_f q10 e
 refine c_sk (c_sr (o_fad h4 (o_ldB 0 s9 rfl rfl rfl rfl (o_fad h5 ?_))))
 refine o_ldB 1 s9 rfl rfl rfl rfl ?_
 refine o_bld (qs := [(0, 1, (vi a0.Start)), (1, 1, (vi a1.Start)), (2, 1, (vi (-1))), (3, 1, (vi 0))]) rfl rfl ?_
 refine o_bsl (s := (Sh.ro Sh.teach_pair)) (us := [vi a0.Start, vi a1.Start, (vi (-1)), vi 0]) (qs := [(0, 4, (.agg #[vi a0.Start, vi a1.Start, (vi (-1)), vi 0]))]) (xs := [(Ty.teach_pair.mk a0.Start a1.Start (-1) 0)]) s9 (Sh.ro_lt _) rfl rfl rfl (Els.cons (c := [vi a0.Start, vi a1.Start, (vi (-1)), vi 0]) rfl Els.nil) rfl rfl fun w3 H8 s10 => ?_
 refine o_mv (v := w3) rfl ?_
 refine c_nil (c_sr ?_)
 refine o_mkmap (kE2 : (Int × Int) → Value) (Value.bool : Bool → Value) s10 fun b3 H9 s11 => ?_
 refine o_fad h4 (o_ldB 2 s11 rfl rfl rfl rfl (o_fad h5 (o_ldB 3 s11 rfl rfl rfl rfl ?_)))
 refine o_bld (qs := [(0, 1, (vi a0.Start)), (1, 1, (vi a1.Start))]) rfl rfl ?_
 refine o_mset Mk.kE2 (q := (a0.Start, a1.Start)) (v := true) 0 s11 rfl rfl rfl rfl rfl rfl fun H10 s12 => ?_
 refine o_mv (v := (.map (some b3))) rfl ?_
 refine o_mv (v := (.map (some b3))) rfl ?_
 refine c_nil ?_
 refine c_gen (P := fun tm => tm 2 = (pV b1 0) ∧ tm 3 = (pV b2 0) ∧ tm 6 = w3 ∧ tm 7 = (.map (some b3)) ∧ True) ⟨h4, h5, rfl, rfl, trivial⟩ ?_
 intro _ i5
 obtain ⟨h9, h10, h11, h12, -⟩ := i5
 refine c_sq (c_sr ?_)
 refine o_mv (v := (vi 0)) rfl ?_
 refine c_nil ?_
 obtain ⟨y3, q13, e⟩ := oB e
 refine c_jn (I := fun tm H => ∃ (s15 : ((List Ty.teach_pair) × (List ((Int × Int) × Bool)) × Int)), y3 = .out s15 ∧ (∃ (Z6 V6 : PH) (w5 : Value), Gw Z4 V4 Z6 V6 ∧ Sat Z6 V6 H [pts b1 (.rw 0 [vi a0.Start, (vS d1 a0.Accept), (vS d2 a0.Next)]), pts b2 (.rw 0 [vi a1.Start, (vS d3 a1.Accept), (vS d4 a1.Next)]), It.sl (Sh.ro Sh.teach_pair) w5 s15.1, It.mp kE2 Value.bool b3 s15.2.1] ∧ tm 2 = (pV b1 0) ∧ tm 3 = (pV b2 0) ∧ tm 6 = w5 ∧ tm 7 = (.map (some b3)) ∧ tm 8 = (vi s15.2.2))) (fun k8 => ?_) ?_
 ·refine c_bk ?_
  refine l_whl (fun (s13 : ((List Ty.teach_pair) × (List ((Int × Int) × Bool)) × Int)) tm H => ∃ (Z5 V5 : PH) (w4 : Value), Gw Z4 V4 Z5 V5 ∧ Sat Z5 V5 H [pts b1 (.rw 0 [vi a0.Start, (vS d1 a0.Accept), (vS d2 a0.Next)]), pts b2 (.rw 0 [vi a1.Start, (vS d3 a1.Accept), (vS d4 a1.Next)]), It.sl (Sh.ro Sh.teach_pair) w4 s13.1, It.mp kE2 Value.bool b3 s13.2.1] ∧ tm 2 = (pV b1 0) ∧ tm 3 = (pV b2 0) ∧ tm 6 = w4 ∧ tm 7 = (.map (some b3)) ∧ tm 8 = (vi s13.2.2)) (fun s13 y4 tm H12 j1 e3 k5 k6 k7 => ?_) q13 ⟨_, _, _, Gw.refl _ _, (s12.pick [2, 3, 1, 0] rfl), h9, h10, h11, h12, rfl⟩
  obtain ⟨Z5, V5, w4, g5, s14, h13, h14, h15, h16, h17⟩ := j1
  unfold P.teach_Differ.b0 at e3
  refine c_sq (c_sr (o_mv h17 (o_mv h15 ?_)))
  refine o_len rfl ((s14.curS (s := (Sh.ro Sh.teach_pair)) 2 rfl)).len ?_
  refine o_lss rfl rfl (c_nil ?_)
  refine c_ifd rfl (fun q14 => ?_) (fun q14 => ?_)
  ·replace e3 := if_t q14 e3
   refine c_sk (c_sq (c_bk (c_sr (o_mv h15 ?_))))
   refine o_mv h17 ?_
   obtain ⟨x6, q15, e3⟩ := oB e3
   refine o_idx (v := w4) rfl rfl (s14.curS (s := (Sh.ro Sh.teach_pair)) 2 rfl) rfl q15 fun p3 q16 => ?_
   refine o_ldoa (p := p3) 2 s14 rfl rfl rfl q16 q15 fun Z7 V7 c9 g7 s17 h23 => ?_
   obtain rfl := h23
   refine o_new s17 fun b4 H14 s18 => ?_
   refine o_stB (us' := [vi x6.a, vi x6.b, vi x6.from_, vi x6.by_]) 0 s18 rfl rfl rfl rfl rfl rfl rfl fun H15 s19 => ?_
   refine c_nil (c_sq (c_sq ?_))
   refine c_gen (P := fun tm => tm 2 = (pV b1 0) ∧ tm 3 = (pV b2 0) ∧ tm 6 = w4 ∧ tm 7 = (.map (some b3)) ∧ tm 8 = (vi s13.2.2) ∧ tm 9 = (pV b4 0) ∧ True) ⟨h13, h14, h15, h16, h17, rfl, trivial⟩ ?_
   intro _ i7
   obtain ⟨h24, h25, h26, h27, h28, h29, -⟩ := i7
   refine d_start s19 fun n2 H16 s20 q17 d10 => ?_
   refine d_fad h29 ?_
   refine d_ldB (q17 _ _ (ph_some.2 ⟨s20.curB 0 rfl, by simp⟩)) 0 s20 rfl rfl rfl rfl ?_
   refine d_geq rfl rfl ?_
   refine d_mv (v := (.bool (decide (0 ≤ x6.a)))) rfl ?_
   obtain ⟨y5, e4, e3⟩ := oB e3
   refine d_jn 8 (I := fun tm H => DD n2 12 (List.length F.teach_Differ.r9) H ∧ (∃ (Z8 V8 : PH), Gw Z7 V7 Z8 V8 ∧ Sat Z8 V8 H [pts b1 (.rw 0 [vi a0.Start, (vS d1 a0.Accept), (vS d2 a0.Next)]), pts b2 (.rw 0 [vi a1.Start, (vS d3 a1.Accept), (vS d4 a1.Next)]), It.sl (Sh.ro Sh.teach_pair) w4 s13.1, It.mp kE2 Value.bool b3 s13.2.1, pts b4 (.rw 0 [vi x6.a, vi x6.b, vi x6.from_, vi x6.by_])] ∧ tm 2 = (pV b1 0) ∧ tm 3 = (pV b2 0) ∧ tm 6 = w4 ∧ tm 7 = (.map (some b3)) ∧ tm 8 = (vi s13.2.2) ∧ tm 9 = (pV b4 0) ∧ tm 68 = (.bool y5))) (fun k9 => ?_) ?_
   ·rcases Bool.eq_false_or_eq_true (decide (0 ≤ x6.a)) with q18 | q18
    ·replace e4 := if_t q18 e4
     refine d_want rfl q18 ?_
     refine d_fad h24 ?_
     refine d_want rfl q18 ?_
     refine d_ldB (q17 _ _ (ph_some.2 ⟨s20.curB 1 rfl, by simp⟩)) 1 s20 rfl rfl rfl rfl ?_
     refine d_want rfl q18 ?_
     refine d_fad h29 ?_
     refine d_want rfl q18 ?_
     refine d_ldB (q17 _ _ (ph_some.2 ⟨s20.curB 0 rfl, by simp⟩)) 0 s20 rfl rfl rfl rfl ?_
     refine d_want rfl q18 ?_
     obtain ⟨x7, q19, e4⟩ := oB e4
     refine d_idx (v := (vS d1 a0.Accept)) rfl rfl (hp1.mono (g1.trans (g2.trans (g4.trans (g5.trans g7)))).v) rfl q19 fun p4 q20 => ?_
     refine d_want rfl q18 ?_
     refine d_ldi (RdS.low (hp1.mono (g1.trans (g2.trans (g4.trans (g5.trans g7)))).v) s20.v q17) rfl hp1 ((g1.trans (g2.trans (g4.trans (g5.trans g7)))).v.trans s20.v) q20 q19 ?_
     refine d_want rfl q18 ?_
     refine d_geq rfl rfl ?_
     refine d_pickt (a := (.bool (decide (0 ≤ x7)))) rfl q18 rfl ?_
     obtain rfl := oJ e4
     exact k9 _ _ _ ⟨d10.up rfl, _, _, Gw.refl _ _, (s20.pick [1, 2, 3, 4, 0] rfl), h24, h25, h26, h27, h28, h29, rfl⟩
    replace e4 := ib_f q18 e4
    refine d_gn rfl q18 ?_
    refine d_gn rfl q18 ?_
    refine d_gn rfl q18 ?_
    refine d_gn rfl q18 ?_
    refine d_gn rfl q18 ?_
    refine d_gn rfl q18 ?_
    refine d_gn rfl q18 ?_
    refine d_pickf (b := (.bool false)) rfl q18 rfl ?_
    obtain rfl := oJ e4
    exact k9 _ _ _ ⟨d10.up rfl, _, _, Gw.refl _ _, (s20.pick [1, 2, 3, 4, 0] rfl), h24, h25, h26, h27, h28, h29, rfl⟩
   intro _ H17 _ i8
   obtain ⟨d11, Z8, V8, g8, s21, h30, h31, h32, h33, h34, h35, h36⟩ := i8
   refine d_fad h35 ?_
   refine d_ldB (q17 _ _ (ph_some.2 ⟨s20.curB 0 rfl, by simp⟩)) 4 s21 rfl rfl rfl rfl ?_
   refine d_geq rfl rfl ?_
   refine d_mv (v := (.bool (decide (0 ≤ x6.b)))) rfl ?_
   obtain ⟨y6, e5, e3⟩ := oB e3
   refine d_jn 8 (I := fun tm H => DD n2 24 (List.length F.teach_Differ.r9) H ∧ (∃ (Z9 V9 : PH), Gw Z8 V8 Z9 V9 ∧ Sat Z9 V9 H [pts b1 (.rw 0 [vi a0.Start, (vS d1 a0.Accept), (vS d2 a0.Next)]), pts b2 (.rw 0 [vi a1.Start, (vS d3 a1.Accept), (vS d4 a1.Next)]), It.sl (Sh.ro Sh.teach_pair) w4 s13.1, It.mp kE2 Value.bool b3 s13.2.1, pts b4 (.rw 0 [vi x6.a, vi x6.b, vi x6.from_, vi x6.by_])] ∧ tm 2 = (pV b1 0) ∧ tm 3 = (pV b2 0) ∧ tm 6 = w4 ∧ tm 7 = (.map (some b3)) ∧ tm 8 = (vi s13.2.2) ∧ tm 9 = (pV b4 0) ∧ tm 68 = (.bool y5) ∧ tm 80 = (.bool y6))) (fun k10 => ?_) ?_
   ·rcases Bool.eq_false_or_eq_true (decide (0 ≤ x6.b)) with q21 | q21
    ·replace e5 := if_t q21 e5
     refine d_want rfl q21 ?_
     refine d_fad h31 ?_
     refine d_want rfl q21 ?_
     refine d_ldB (q17 _ _ (ph_some.2 ⟨s20.curB 2 rfl, by simp⟩)) 1 s21 rfl rfl rfl rfl ?_
     refine d_want rfl q21 ?_
     refine d_fad h35 ?_
     refine d_want rfl q21 ?_
     refine d_ldB (q17 _ _ (ph_some.2 ⟨s20.curB 0 rfl, by simp⟩)) 4 s21 rfl rfl rfl rfl ?_
     refine d_want rfl q21 ?_
     obtain ⟨x8, q22, e5⟩ := oB e5
     refine d_idx (v := (vS d3 a1.Accept)) rfl rfl (hp3.mono (g1.trans (g2.trans (g4.trans (g5.trans (g7.trans g8))))).v) rfl q22 fun p5 q23 => ?_
     refine d_want rfl q21 ?_
     refine d_ldi (RdS.low (hp3.mono (g1.trans (g2.trans (g4.trans (g5.trans g7)))).v) s20.v q17) rfl hp3 ((g1.trans (g2.trans (g4.trans (g5.trans (g7.trans g8))))).v.trans s21.v) q23 q22 ?_
     refine d_want rfl q21 ?_
     refine d_geq rfl rfl ?_
     refine d_pickt (a := (.bool (decide (0 ≤ x8)))) rfl q21 rfl ?_
     obtain rfl := oJ e5
     exact k10 _ _ _ ⟨d11.up rfl, _, _, Gw.refl _ _, s21, h30, h31, h32, h33, h34, h35, h36, rfl⟩
    replace e5 := ib_f q21 e5
    refine d_gn rfl q21 ?_
    refine d_gn rfl q21 ?_
    refine d_gn rfl q21 ?_
    refine d_gn rfl q21 ?_
    refine d_gn rfl q21 ?_
    refine d_gn rfl q21 ?_
    refine d_gn rfl q21 ?_
    refine d_pickf (b := (.bool false)) rfl q21 rfl ?_
    obtain rfl := oJ e5
    exact k10 _ _ _ ⟨d11.up rfl, _, _, Gw.refl _ _, s21, h30, h31, h32, h33, h34, h35, h36, rfl⟩
   intro _ H18 _ i9
   obtain ⟨d12, Z9, V9, g9, s22, h37, h38, h39, h40, h41, h42, h43, h44⟩ := i9
   refine d_eq (q_nbool _ _) h43 h44 ?_
   refine d_nil dc_nil ?_
   refine c_if rfl (fun q24 => ?_) (fun q24 => ?_)
   ·replace e3 := if_t q24 e3
    refine c_sr (o_mv h39 (o_mv h41 ?_))
    obtain ⟨x9, q25, e3⟩ := oB e3
    obtain ⟨Z10, V10, W3, g10, u3, c10, c11, -, c13, c12⟩ := Sat.call (l1 := []) s22
    refine o_call (mc rfl (mc rfl m0)) (X.teach_way nd.teach_way c10 (c11 2 _ (Sh.ro Sh.teach_pair) _ _ rfl) q25) fun w6 H19 i10 => ?_
    obtain ⟨_, rfl, s23⟩ := i10
    have s24 := c12 _ _ s23
    refine o_mv (v := w6) rfl ?_
    refine o_mv (v := (.bool true)) rfl ?_
    refine c_nil (c_rt ?_)
    have e6 := fin_r (k7 _ (sJ e3)) e
    obtain rfl := oJ e6
    exact ⟨.inr rfl, _, (ar2 rfl rfl), _, rfl, ((s24.pick [0] rfl).weak (g1.trans (g2.trans (g4.trans (g5.trans (g7.trans (g8.trans (g9.trans g10))))))) hs.zv)⟩
   replace e3 := ib_f q24 e3
   refine c_sk (c_sr (o_fad h37 (o_ldB 0 s22 rfl rfl rfl rfl ?_)))
   obtain ⟨x10, q26, e3⟩ := oB e3
   refine o_idx (v := (vS d2 a0.Next)) rfl rfl (hp2.mono (g1.trans (g2.trans (g4.trans (g5.trans (g7.trans (g8.trans g9)))))).v) rfl q26 fun p6 q27 => ?_
   refine o_lds rfl (hp2.mono (g1.trans (g2.trans (g4.trans (g5.trans (g7.trans (g8.trans g9)))))).v) s22.v q27 q26 fun w7 h45 => ?_
   refine o_len rfl (h45).len ?_
   refine o_mv (v := (vi 0)) rfl ?_
   refine c_nil ?_
   obtain ⟨x12, q30, e3⟩ := oB e3
   obtain ⟨rfl, q32⟩ := ranO_some q30
   obtain ⟨y7, q33, e3⟩ := oB e3
   refine c_bk ?_
   refine l_forP (xs := (Pu.ran (x10.length : Int))) (fun (i11 : Nat) (s25 : ((List Ty.teach_pair) × (List ((Int × Int) × Bool)))) tm H => tm 90 = vi i11 ∧ ∃ (Z11 V11 : PH) (w8 : Value), Gw Z9 V9 Z11 V11 ∧ Sat Z11 V11 H [pts b1 (.rw 0 [vi a0.Start, (vS d1 a0.Accept), (vS d2 a0.Next)]), pts b2 (.rw 0 [vi a1.Start, (vS d3 a1.Accept), (vS d4 a1.Next)]), It.sl (Sh.ro Sh.teach_pair) w8 s25.1, It.mp kE2 Value.bool b3 s25.2, pts b4 (.rw 0 [vi x6.a, vi x6.b, vi x6.from_, vi x6.by_])] ∧ tm 2 = (pV b1 0) ∧ tm 3 = (pV b2 0) ∧ tm 6 = w8 ∧ tm 7 = (.map (some b3)) ∧ tm 8 = (vi s13.2.2) ∧ tm 9 = (pV b4 0) ∧ tm 89 = (vN x10)) (fun i11 x11 s25 s27 tm H21 q28 q29 j2 e7 k11 => ?_) (fun tm H20 jd => ?_) q33 ⟨rfl, _, _, _, Gw.refl _ _, s22, h37, h38, h39, h40, h41, h42, rfl⟩
   ·obtain ⟨hti1, Z11, V11, w8, g11, s26, h46, h47, h48, h49, h50, h51, h52⟩ := j2
    unfold P.teach_Differ.b1 at e7
    have hti1 := iv hti1 (ran_x q28).symm
    refine c_sr (o_lss hti1 h52 (c_nil (c_sq ?_)))
    refine c_ift rfl (ran_lt q28) ?_
    refine c_sk (c_sq (c_bk (c_sr (o_mv hti1 ?_))))
    refine o_mv (v := (vi x11)) rfl ?_
    refine c_nil (c_sq ?_)
    refine d_start s26 fun n3 H22 s28 q34 d13 => ?_
    refine d_ldB (q34 _ _ (ph_some.2 ⟨s28.curB 0 rfl, by simp⟩)) 0 s28 rfl h46 rfl rfl ?_
    refine d_fad h51 ?_
    refine d_ldB (q34 _ _ (ph_some.2 ⟨s28.curB 4 rfl, by simp⟩)) 4 s28 rfl rfl rfl rfl ?_
    refine d_mv (v := (vi x11)) rfl ?_
    obtain ⟨x13, q35, e7⟩ := oB e7
    obtain ⟨Z12, V12, W4, g12, u4, c14, c15, -, c17, c16⟩ := Sat.call (l1 := []) s28
    refine d_call (mc rfl (mc rfl (mc rfl m0))) (X.teach_step nd.teach_step c14 (hp1.mono (((g1.trans (g2.trans (g4.trans (g5.trans (g7.trans (g8.trans (g9.trans g11))))))).trans g12).v.trans u4)) (hp2.mono (((g1.trans (g2.trans (g4.trans (g5.trans (g7.trans (g8.trans (g9.trans g11))))))).trans g12).v.trans u4)) q35) fun _ H23 i12 k12 => ?_
    have d14 := d13.keep k12
    obtain ⟨rfl, s29⟩ := i12
    have s30 := c16 _ _ s29
    refine d_ldB (q34 _ _ (ph_some.2 ⟨s28.curB 1 rfl, by simp⟩)) 1 s30 rfl h47 rfl rfl ?_
    refine d_fad h51 ?_
    refine d_ldB (q34 _ _ (ph_some.2 ⟨s28.curB 4 rfl, by simp⟩)) 4 s30 rfl rfl rfl rfl ?_
    refine d_mv (v := (vi x11)) rfl ?_
    obtain ⟨x14, q36, e7⟩ := oB e7
    obtain ⟨Z13, V13, W5, g13, u5, c18, c19, -, c21, c20⟩ := Sat.call (l1 := []) s30
    refine d_call (mc rfl (mc rfl (mc rfl m0))) (X.teach_step nd.teach_step c18 (hp3.mono (((g1.trans (g2.trans (g4.trans (g5.trans (g7.trans (g8.trans (g9.trans (g11.trans g12)))))))).trans g13).v.trans u5)) (hp4.mono (((g1.trans (g2.trans (g4.trans (g5.trans (g7.trans (g8.trans (g9.trans (g11.trans g12)))))))).trans g13).v.trans u5)) q36) fun _ H24 i13 k13 => ?_
    have d15 := d14.keep k13
    obtain ⟨rfl, s31⟩ := i13
    have s32 := c20 _ _ s31
    refine d_mv h50 ?_
    refine d_mv (v := (vi x11)) rfl ?_
    refine d_bld (qs := [(0, 1, (vi x13)), (1, 1, (vi x14)), (2, 1, (vi s13.2.2)), (3, 1, (vi x11))]) rfl rfl ?_
    refine d_new (d15.get 13 rfl rfl) s32 fun b5 H25 s33 k14 => ?_
    have d16 := d15.next 13 rfl k14
    refine d_stB (us' := [vi x13, vi x14, vi s13.2.2, vi x11]) 0 s33 rfl rfl rfl rfl rfl rfl rfl fun H26 s34 k15 => ?_
    have d17 := d16.keep k15
    refine d_nil (dc_mk rfl (ta8 (ta2 (tre (tl4 (trl tr0))))) (ta8 (ta2 (tra (tre (tl4 tr0))))) (ta8 (ta2 (tre (tl4 (trl tr0))))) (ag_ldx (w := (.agg #[vi a1.Start, (vS d3 a1.Accept), (vS d4 a1.Next)])) w_0 h47 (ldB_v 1 s30 rfl rfl rfl) (ldB_v 1 s28 rfl rfl rfl) (by simp [vsame, vsame1])) (ag_ldx (w := (.agg #[vi a1.Start, (vS d3 a1.Accept), (vS d4 a1.Next)])) w_0 h47 (ldB_v 1 s30 rfl rfl rfl) (ldB_v 1 s30 rfl rfl rfl) (by simp [vsame, vsame1])) (dc_mk rfl (ta8 (tre (tl4 (tl2 (trl tr0))))) (ta8 (ta2 (tra (tre (tl4 tr0))))) (ta8 (ta2 (tre (tl4 (trl tr0))))) (ag_ldx (w := (vi x6.b)) w_0 rfl (ldB_v 4 s30 rfl rfl rfl) (ldB_v 4 s28 rfl rfl rfl) (by simp [vsame, vsame1])) (ag_ldx (w := (vi x6.b)) w_0 rfl (ldB_v 4 s30 rfl rfl rfl) (ldB_v 4 s30 rfl rfl rfl) (by simp [vsame, vsame1])) dc_nil)) ?_
    refine c_gen (P := fun tm => tm 2 = (pV b1 0) ∧ tm 3 = (pV b2 0) ∧ tm 6 = w8 ∧ tm 7 = (.map (some b3)) ∧ tm 8 = (vi s13.2.2) ∧ tm 9 = (pV b4 0) ∧ tm 11 = (pV b5 0) ∧ tm 89 = (vN x10) ∧ tm 90 = (vi x11) ∧ True) ⟨h46, h47, h48, h49, h50, h51, rfl, h52, hti1, trivial⟩ ?_
    intro _ i14
    obtain ⟨h53, h54, h55, h56, h57, h58, h59, h60, h61, -⟩ := i14
    refine c_sr (o_fad h59 (o_ldB 0 s34 rfl rfl rfl rfl (o_fad h59 (o_ldB 0 s34 rfl rfl rfl rfl ?_))))
    refine o_bld (qs := [(0, 1, (vi x13)), (1, 1, (vi x14))]) rfl rfl ?_
    refine o_new s34 fun b6 H27 s35 => ?_
    refine o_stB (us' := [vi x13, vi x14]) 0 s35 rfl rfl rfl rfl rfl rfl rfl fun H28 s36 => ?_
    refine c_nil (c_sr (o_mv h56 (o_ldB 0 s36 rfl rfl rfl rfl ?_)))
    refine o_mlook1 Mk.kE2 (q := (x13, x14)) (z := false) 5 s36 rfl rfl rfl rfl rfl ?_
    refine o_not rfl (c_nil ?_)
    refine c_gen (P := fun tm => tm 2 = (pV b1 0) ∧ tm 3 = (pV b2 0) ∧ tm 6 = w8 ∧ tm 7 = (.map (some b3)) ∧ tm 8 = (vi s13.2.2) ∧ tm 9 = (pV b4 0) ∧ tm 11 = (pV b5 0) ∧ tm 12 = (pV b6 0) ∧ tm 89 = (vN x10) ∧ tm 90 = (vi x11) ∧ tm 114 = (.bool (!((Pu.mget (x13, x14) s25.2).getD false))) ∧ True) ⟨h53, h54, h55, h56, h57, h58, h59, rfl, h60, h61, rfl, trivial⟩ ?_
    intro _ i15
    obtain ⟨h62, h63, h64, h65, h66, h67, h68, h69, h70, h71, h72, -⟩ := i15
    obtain ⟨y8, e8, e7⟩ := oB e7
    refine c_jn (I := fun tm H => ∃ (Z14 V14 : PH) (w9 : Value), Gw Z13 V13 Z14 V14 ∧ Sat Z14 V14 H [pts b1 (.rw 0 [vi a0.Start, (vS d1 a0.Accept), (vS d2 a0.Next)]), pts b2 (.rw 0 [vi a1.Start, (vS d3 a1.Accept), (vS d4 a1.Next)]), It.sl (Sh.ro Sh.teach_pair) w9 y8.1, It.mp kE2 Value.bool b3 y8.2, pts b4 (.rw 0 [vi x6.a, vi x6.b, vi x6.from_, vi x6.by_])] ∧ tm 2 = (pV b1 0) ∧ tm 3 = (pV b2 0) ∧ tm 6 = w9 ∧ tm 7 = (.map (some b3)) ∧ tm 8 = (vi s13.2.2) ∧ tm 9 = (pV b4 0) ∧ tm 89 = (vN x10) ∧ tm 90 = (vi x11)) (fun k16 => ?_) ?_
    ·refine c_if h72 (fun q37 => ?_) (fun q37 => ?_)
     ·replace e8 := if_t q37 e8
      refine c_sr (o_mv h65 (o_ldB 0 s36 rfl h69 rfl rfl ?_))
      refine o_mset Mk.kE2 (q := (x13, x14)) (v := true) 5 s36 rfl rfl rfl rfl rfl rfl fun H30 s38 => ?_
      refine c_nil (c_r (o_mv h64 (o_ldB 1 s38 rfl h68 rfl rfl ?_)))
      refine o_bsl (s := (Sh.ro Sh.teach_pair)) (us := [vi x13, vi x14, vi s13.2.2, vi x11]) (qs := [(0, 4, (.agg #[vi x13, vi x14, vi s13.2.2, vi x11]))]) (xs := [(Ty.teach_pair.mk x13 x14 s13.2.2 x11)]) s38 (Sh.ro_lt _) rfl rfl rfl (Els.cons (c := [vi x13, vi x14, vi s13.2.2, vi x11]) rfl Els.nil) rfl rfl fun w10 H31 s39 => ?_
      obtain ⟨Z15, V15, g15, s40, h81⟩ := s39.frzS 0 rfl
      replace h81 := h81.of_ro
      obtain ⟨x15, q38, e8⟩ := oB e8
      refine o_app 4 s40 rfl (Sh.ro_lt _) rfl rfl rfl rfl h81 s40.z (fun h => h) (by decide) q38 fun w11 H32 s41 => ?_
      refine o_mv (v := w11) rfl ?_
      refine c_nil ?_
      obtain rfl := oJ e8
      exact k16 _ _ ⟨_, _, _, g15, (s41.pick [2, 3, 4, 5, 6] rfl), h62, h63, rfl, h65, h66, h67, h70, h71⟩
     replace e8 := ib_f q37 e8
     refine c_sk ?_
     obtain rfl := oJ e8
     exact k16 _ _ ⟨_, _, _, Gw.refl _ _, (s36.pick [2, 3, 4, 5, 6] rfl), h62, h63, h64, h65, h66, h67, h70, h71⟩
    intro _ H29 i16
    obtain ⟨Z14, V14, w9, g14, s37, h73, h74, h75, h76, h77, h78, h79, h80⟩ := i16
    refine c_end (c_r (o_add h80 rfl ?_))
    refine o_mv (v := (vi (Pu.W (x11 + 1)))) rfl ?_
    refine c_nil ?_
    obtain rfl := oJ e7
    exact k11 _ _ ⟨(iv rfl (w_sucR q28 q32)), _, _, _, (g11.trans (g12.trans (g13.trans g14))), s37, h73, h74, h75, h76, h77, h78, h79⟩
   obtain ⟨hte1, Z16, V16, w12, g16, s42, h82, h83, h84, h85, h86, h87, h88⟩ := jd
   refine c_sr (o_lss hte1 h88 (c_nil (c_sq ?_)))
   refine c_iff rfl (ran_done _) ?_
   refine c_ex ?_
   refine e_c ?_
   refine e_c ?_
   refine e_h ?_
   refine c_end (c_r (o_mv h86 (o_add rfl rfl ?_)))
   refine o_mv (v := (vi (Pu.W (s13.2.2 + 1)))) rfl ?_
   refine c_nil ?_
   exact k5 _ _ _ (sJ e3) ⟨_, _, _, (g5.trans (g7.trans (g8.trans (g9.trans g16)))), (s42.pick [0, 1, 2, 3] rfl), h82, h83, h84, h85, rfl⟩
  replace e3 := if_f q14 e3
  refine c_ex ?_
  refine e_c ?_
  refine e_c ?_
  refine e_h ?_
  exact k8 _ _ ⟨_, k6 _ (sJ e3), _, _, _, g5, s14, h13, h14, h15, h16, h17⟩
 intro _ H13 i17
 obtain ⟨s15, f1, Z6, V6, w5, g6, s16, h18, h19, h20, h21, h22⟩ := i17
 replace e := fin_o f1 e
 refine c_sr ?_
 refine o_mv (v := (.slice none 0 0)) rfl ?_
 refine o_mv (v := (.bool false)) rfl ?_
 refine c_nil (c_rt ?_)
 obtain rfl := oJ e
 exact ⟨.inr rfl, _, (ar2 rfl rfl), _, rfl, (((s16.push (sl_nil (s := Sh.int))).pick [0] rfl).weak (g1.trans (g2.trans (g4.trans g6))) hs.zv)⟩
/-! teach_Teacher_Equal -/
structure Nd.teach_Teacher_Equal (T : FuncId → Option AFunc) : Prop where
  own : Has T I.teach_Teacher_Equal F.teach_Teacher_Equal
  dfa_Check : Nd.dfa_Check T
  teach_Teacher_Symbols : Nd.teach_Teacher_Symbols T
  teach_Differ : Nd.teach_Differ T
set_option maxHeartbeats 1000000 in
theorem X.teach_Teacher_Equal {T : FuncId → Option AFunc} (nd : Nd.teach_Teacher_Equal T) {φ : Nat} {Z V : PH} {H : Hp} {v1 : Value} {v2 : Value} {o1 : Nat} {v3 : Value} {v4 : Value} {a0 : Ty.teach_Teacher} {a1 : Ty.api_Dfa} (hs : Sat Z V H [pts o1 (.rw 0 [vi a0.d.Start, v1, v2, vi a0.members, vi a0.equal])]) (hp1 : RdS Sh.int Z v1 a0.d.Accept) (hp2 : RdS sI1 Z v2 a0.d.Next) (hp3 : RdS Sh.int Z v3 a1.Accept) (hp4 : RdS sI1 Z v4 a1.Next) {r : (Ty.teach_Teacher × Bool × (List Int) × Int)} (e : P.teach_Teacher_Equal φ a0 a1 = some r) :
    G T I.teach_Teacher_Equal [(pV o1 0), (.agg #[vi a1.Start, v3, v4])] H (fun rv H' => ∃ (u1 : Value) (u2 : Value) (u3 : Value), rv = (.tuple #[(.bool r.2.1), u3, vi r.2.2.2]) ∧ Sat Z V H' [pts o1 (.rw 0 [vi r.1.d.Start, u1, u2, vi r.1.members, vi r.1.equal]), Sh.it (Sh.ro sI1) [u1] r.1.d.Accept, Sh.it (Sh.ro sI2) [u2] r.1.d.Next, It.sl Sh.int u3 r.2.2.1]) := by
 unfold P.teach_Teacher_Equal at e
 refine f_mk nd.own ?_
 refine c_sr ?_
 obtain ⟨d1, rfl⟩ := (hp3).val
 obtain ⟨d2, rfl⟩ := (hp4).val
 refine o_box hs rfl rfl fun b1 H1 s1 => ?_
 refine o_mv (v := (.bool false)) rfl ?_
 refine o_mv (v := (.slice none 0 0)) rfl ?_
 refine o_mv (v := (vi 0)) rfl ?_
 refine c_nil (c_sq (c_sr (o_ldB 0 s1 rfl rfl rfl rfl ?_)))
 obtain ⟨x1, q1, e⟩ := oB e
 obtain ⟨Z1, V1, W1, g1, u1, c1, c2, -, c4, c3⟩ := Sat.call (l1 := []) s1
 refine o_call (mc rfl m0) (X.dfa_Check nd.dfa_Check c1 (hp3.mono (g1.z.trans c1.zv)) (hp4.mono (g1.z.trans c1.zv)) q1) fun _ H2 i1 => ?_
 obtain ⟨rfl, s2⟩ := i1
 have s3 := c3 _ _ s2
 refine o_mv (v := (vi x1)) rfl ?_
 refine c_nil (c_sr ?_)
 refine o_mv (v := (vi x1)) rfl ?_
 refine o_neq rfl rfl (c_nil ?_)
 refine c_ifd rfl (fun q2 => ?_) (fun q2 => ?_)
 ·replace e := if_t q2 e
  refine c_sr ?_
  refine o_mv (v := (vi x1)) rfl ?_
  refine o_mv (v := (.bool false)) rfl ?_
  refine o_mv (v := (.slice none 0 0)) rfl ?_
  refine o_mv (v := (vi x1)) rfl ?_
  refine c_nil ?_
  refine c_gen (P := fun tm => tm 4 = (.bool false) ∧ tm 5 = (.slice none 0 0) ∧ tm 6 = (vi x1) ∧ True) ⟨rfl, rfl, rfl, trivial⟩ ?_
  intro _ i2
  obtain ⟨h1, h2, h3, -⟩ := i2
  refine c_rt ?_
  obtain ⟨d3, rfl⟩ := ((hp1.mono g1.z)).val
  obtain ⟨d4, rfl⟩ := ((hp2.mono g1.z)).val
  obtain rfl := oJ e
  exact ⟨.inr rfl, _, (ar3 h1 h2 h3), _, _, _, rfl, (((((s3.push (ro_it (sl_ro (hp1.mono g1.z)))).push (ro_it (sl_ro (hp2.mono g1.z)))).push (sl_nil (s := Sh.int))).pick [4, 2, 1, 0] rfl).weak g1 hs.zv)⟩
 replace e := if_f q2 e
 refine c_sk (c_sq (c_sq ?_))
 refine c_gen (P := fun tm => tm 0 = (pV o1 0) ∧ tm 3 = (pV b1 0) ∧ True) ⟨rfl, rfl, trivial⟩ ?_
 intro _ i3
 obtain ⟨h4, h5, -⟩ := i3
 refine d_start s3 fun n1 H3 s4 q3 d5 => ?_
 refine d_fad h5 ?_
 refine d_ldB (q3 _ _ (ph_some.2 ⟨s4.curB 0 rfl, by simp⟩)) 0 s4 rfl rfl rfl rfl ?_
 obtain ⟨x2, q4, e⟩ := oB e
 refine d_idx (v := (vS d2 a1.Next)) rfl rfl (hp4.mono g1.z) rfl q4 fun p1 q5 => ?_
 refine d_lds (RdS.low (hp4.mono g1.z) s4.z q3) rfl hp4 (g1.z.trans s4.z) q5 q4 fun w1 h6 => ?_
 refine d_len rfl ((h6.mono g1.z)).len ?_
 refine d_mv h4 ?_
 obtain ⟨x3, q6, e⟩ := oB e
 obtain ⟨d6, rfl⟩ := ((hp1.mono g1.z)).val
 obtain ⟨d7, rfl⟩ := ((hp2.mono g1.z)).val
 obtain ⟨Z2, V2, W2, g2, u2, c5, c6, -, c8, c7⟩ := Sat.call (l1 := [pts o1 (.rw 0 [vi a0.d.Start, (vS d6 a0.d.Accept), (vS d7 a0.d.Next), vi a0.members, vi a0.equal])]) (l2 := [pts b1 (.rw 0 [vi a1.Start, (vS d1 a1.Accept), (vS d2 a1.Next)])]) (s4.pick [1, 0] rfl)
 refine d_call (mc rfl m0) (X.teach_Teacher_Symbols nd.teach_Teacher_Symbols (a0 := a0) c5 (hp1.mono ((g1.trans g2).z.trans c5.zv)) (hp2.mono ((g1.trans g2).z.trans c5.zv)) q6) fun _ H4 i4 k1 => ?_
 have d8 := d5.keep k1
 obtain ⟨rfl, s5⟩ := i4
 have s6 := c7 _ _ s5
 refine d_neq rfl rfl ?_
 refine d_nil (dc_mk rfl (ta4 (ta2 (tra (tre (trl tr0))))) (ta2 (tre (tl4 (tl2 tr0)))) (tra (tre (tl4 (tl2 (trl tr0))))) (ag_ldx (w := (vS d2 a1.Next)) w_0 rfl (ldB_v 0 s4 rfl rfl rfl) (ldB_v 0 s4 rfl rfl rfl) (by simp [vsame, vsame1])) (ag_ldx (w := (vS d2 a1.Next)) w_0 rfl (ldB_v 0 s4 rfl rfl rfl) (ldB_v 1 s6 rfl rfl rfl) (by simp [vsame, vsame1])) (dc_mk rfl (ta4 (tra (tre (tl2 (trl tr0))))) (ta2 (tre (tl4 (tl2 tr0)))) (tra (tre (tl4 (tl2 (trl tr0))))) (ag_ldE w_0 hp4 q4 rfl q5 rfl (g1.z.trans s4.z) (g1.z.trans s4.z) vs_sl) (ag_ldE w_0 hp4 q4 rfl q5 rfl (g1.z.trans s4.z) (g1.z.trans (g2.z.trans s6.z)) vs_sl) dc_nil)) ?_
 refine c_ifd rfl (fun q7 => ?_) (fun q7 => ?_)
 ·replace e := if_t q7 e
  refine c_sr ?_
  refine o_mv (v := (.bool false)) rfl ?_
  refine o_mv (v := (.slice none 0 0)) rfl ?_
  refine o_mv (v := (vi 1)) rfl ?_
  refine c_nil ?_
  refine c_gen (P := fun tm => tm 4 = (.bool false) ∧ tm 5 = (.slice none 0 0) ∧ tm 6 = (vi 1) ∧ True) ⟨rfl, rfl, rfl, trivial⟩ ?_
  intro _ i5
  obtain ⟨h7, h8, h9, -⟩ := i5
  refine c_rt ?_
  obtain rfl := oJ e
  exact ⟨.inr rfl, _, (ar3 h7 h8 h9), _, _, _, rfl, (((((s6.push (ro_it (sl_ro (hp1.mono (g1.trans g2).z)))).push (ro_it (sl_ro (hp2.mono (g1.trans g2).z)))).push (sl_nil (s := Sh.int))).pick [3, 2, 1, 0] rfl).weak (g1.trans g2) hs.zv)⟩
 replace e := if_f q7 e
 refine c_sk (c_sr (o_mv h4 (o_nck rfl (o_fad rfl ?_))))
 refine o_ldB 0 s6 rfl rfl rfl rfl (o_add rfl rfl (o_nck rfl (o_fad rfl ?_)))
 refine o_stB (us' := [vi a0.d.Start, (vS d6 a0.d.Accept), (vS d7 a0.d.Next), vi a0.members, (vi (Pu.W (a0.equal + 1)))]) 0 s6 rfl rfl rfl rfl rfl rfl rfl fun H5 s7 => ?_
 refine c_nil ?_
 refine c_gen (P := fun tm => tm 0 = (pV o1 0) ∧ tm 3 = (pV b1 0) ∧ True) ⟨h4, h5, trivial⟩ ?_
 intro _ i6
 obtain ⟨h10, h11, -⟩ := i6
 refine c_sq ?_
 refine d_start s7 fun n2 H6 s8 q8 d9 => ?_
 refine d_mv h10 ?_
 refine d_nck rfl ?_
 refine d_fad rfl ?_
 refine d_ldB (q8 _ _ (ph_some.2 ⟨s8.curB 0 rfl, by simp⟩)) 0 s8 rfl rfl rfl rfl ?_
 refine d_ldB (q8 _ _ (ph_some.2 ⟨s8.curB 1 rfl, by simp⟩)) 1 s8 rfl h11 rfl rfl ?_
 obtain ⟨x4, q9, e⟩ := oB e
 obtain ⟨Z3, V3, W3, g3, u3, c9, c10, -, c12, c11⟩ := Sat.call (l1 := []) s8
 refine d_call (mc rfl (mc rfl m0)) (X.teach_Differ nd.teach_Differ c9 (hp1.mono (((g1.trans g2).trans g3).z.trans c9.zv)) (hp2.mono (((g1.trans g2).trans g3).z.trans c9.zv)) (hp3.mono (((g1.trans g2).trans g3).z.trans c9.zv)) (hp4.mono (((g1.trans g2).trans g3).z.trans c9.zv)) q9) fun _ H7 i7 k2 => ?_
 have d10 := d9.keep k2
 obtain ⟨w2, rfl, s9⟩ := i7
 have s10 := c11 _ _ s9
 refine d_mv (v := (.tuple #[w2, (.bool x4.2)])) rfl ?_
 refine d_ext rfl rfl ?_
 refine d_ext rfl rfl ?_
 refine d_mv (v := w2) rfl ?_
 refine d_mv (v := (.bool x4.2)) rfl ?_
 refine d_nil dc_nil ?_
 refine c_gen (P := fun tm => tm 8 = w2 ∧ tm 9 = (.bool x4.2) ∧ True) ⟨rfl, rfl, trivial⟩ ?_
 intro _ i8
 obtain ⟨h12, h13, -⟩ := i8
 refine c_sr (o_mv h13 (o_not rfl (o_mv h12 ?_)))
 refine o_mv (v := (.bool (!x4.2))) rfl ?_
 refine o_mv (v := w2) rfl ?_
 refine o_mv (v := (vi 0)) rfl ?_
 refine c_nil (c_rt ?_)
 obtain rfl := oJ e
 exact ⟨.inr rfl, _, (ar3 rfl rfl rfl), _, _, _, rfl, ((((s10.push (ro_it (sl_ro (hp1.mono (g1.trans (g2.trans g3)).z)))).push (ro_it (sl_ro (hp2.mono (g1.trans (g2.trans g3)).z)))).pick [3, 1, 0, 2] rfl).weak (g1.trans (g2.trans g3)) hs.zv)⟩
/-! dfa_Run -/
structure Nd.dfa_Run (T : FuncId → Option AFunc) : Prop where
  own : Has T I.dfa_Run F.dfa_Run
  dfa_Check : Nd.dfa_Check T
set_option maxHeartbeats 1000000 in
theorem X.dfa_Run {T : FuncId → Option AFunc} (nd : Nd.dfa_Run T) {Z V : PH} {H : Hp} {v1 : Value} {v2 : Value} {v3 : Value} {a0 : Ty.api_Dfa} {a1 : (List Int)} (hs : Sat Z V H []) (hp1 : RdS Sh.int V v1 a0.Accept) (hp2 : RdS sI1 V v2 a0.Next) (hp3 : RdS Sh.int V v3 a1) {r : (Int × Int)} (e : P.dfa_Run a0 a1 = some r) :
    G T I.dfa_Run [(.agg #[vi a0.Start, v1, v2]), v3] H (fun rv H' => rv = (.tuple #[vi r.1, vi r.2]) ∧ Sat Z V H' []) := by
 unfold P.dfa_Run at e
 refine f_mk nd.own ?_
 refine c_sr ?_
 obtain ⟨d1, rfl⟩ := (hp1).val
 obtain ⟨d2, rfl⟩ := (hp2).val
 refine o_box hs rfl rfl fun b1 H1 s1 => ?_
 refine o_mv (v := (vi 0)) rfl ?_
 refine o_mv (v := (vi 0)) rfl ?_
 refine c_nil (c_sq (c_sr (o_ldB 0 s1 rfl rfl rfl rfl ?_)))
 obtain ⟨x1, q1, e⟩ := oB e
 obtain ⟨Z1, V1, W1, g1, u1, c1, c2, -, c4, c3⟩ := Sat.call (l1 := []) s1
 refine o_call (mc rfl m0) (X.dfa_Check nd.dfa_Check c1 (hp1.mono (g1.v.trans u1)) (hp2.mono (g1.v.trans u1)) q1) fun _ H2 i1 => ?_
 obtain ⟨rfl, s2⟩ := i1
 have s3 := c3 _ _ s2
 refine o_mv (v := (vi x1)) rfl ?_
 refine c_nil (c_sr ?_)
 refine o_mv (v := (vi x1)) rfl ?_
 refine o_neq rfl rfl (c_nil ?_)
 refine c_ifd rfl (fun q2 => ?_) (fun q2 => ?_)
 ·replace e := if_t q2 e
  refine c_sr ?_
  refine o_mv (v := (vi x1)) rfl ?_
  refine o_mv (v := (vi 0)) rfl ?_
  refine o_mv (v := (vi x1)) rfl ?_
  refine c_nil ?_
  refine c_gen (P := fun tm => tm 4 = (vi 0) ∧ tm 5 = (vi x1) ∧ True) ⟨rfl, rfl, trivial⟩ ?_
  intro _ i2
  obtain ⟨h1, h2, -⟩ := i2
  refine c_rt ?_
  obtain rfl := oJ e
  exact ⟨.inr rfl, _, (ar2 h1 h2), rfl, ((s3.pick [] rfl).weak g1 hs.zv)⟩
 replace e := if_f q2 e
 refine c_sk (c_sq (c_sr ?_))
 refine o_mv (v := v3) rfl ?_
 refine o_len rfl ((hp3.mono g1.v)).len (o_gtr rfl rfl (c_nil ?_))
 refine c_gen (P := fun tm => tm 1 = v3 ∧ tm 2 = (pV b1 0) ∧ tm 19 = (.bool (decide (4000 < (a1.length : Int)))) ∧ True) ⟨rfl, rfl, rfl, trivial⟩ ?_
 intro _ i3
 obtain ⟨h3, h4, h5, -⟩ := i3
 refine c_ifd h5 (fun q3 => ?_) (fun q3 => ?_)
 ·replace e := if_t q3 e
  refine c_sr ?_
  refine o_mv (v := (vi 0)) rfl ?_
  refine o_mv (v := (vi 2)) rfl ?_
  refine c_nil (c_rt ?_)
  obtain rfl := oJ e
  exact ⟨.inr rfl, _, (ar2 rfl rfl), rfl, ((s3.pick [] rfl).weak g1 hs.zv)⟩
 replace e := if_f q3 e
 refine c_sk (c_sq (c_sr (o_mv h3 (o_len rfl ((hp3.mono g1.v)).len ?_))))
 refine o_mv (v := (vi 0)) rfl ?_
 refine c_nil ?_
 obtain ⟨y1, q6, e⟩ := oB e
 refine c_jn (I := fun tm H => ∃ (s6 : Unit), y1 = .out s6 ∧ (∃ (Z3 V3 : PH), Gw Z1 V1 Z3 V3 ∧ Sat Z3 V3 H [pts b1 (.rw 0 [vi a0.Start, (vS d1 a0.Accept), (vS d2 a0.Next)])] ∧ tm 1 = v3 ∧ tm 2 = (pV b1 0) ∧ tm 20 = v3 ∧ tm 21 = (vN a1))) (fun k4 => ?_) ?_
 ·refine c_bk ?_
  refine l_forL (xs := a1) (fun (i4 : Nat) (s4 : Unit) tm H => tm 22 = vi i4 ∧ ∃ (Z2 V2 : PH), Gw Z1 V1 Z2 V2 ∧ Sat Z2 V2 H [pts b1 (.rw 0 [vi a0.Start, (vS d1 a0.Accept), (vS d2 a0.Next)])] ∧ tm 1 = v3 ∧ tm 2 = (pV b1 0) ∧ tm 20 = v3 ∧ tm 21 = (vN a1)) (fun i4 x2 s4 y2 tm H4 q4 q5 j1 e1 k1 k2 k3 => ?_) (fun s4 tm H3 jf jd => ?_) q6 ⟨rfl, _, _, Gw.refl _ _, s3, h3, h4, rfl, rfl⟩
  ·obtain ⟨hti0, Z2, V2, g2, s5, h6, h7, h8, h9⟩ := j1
   unfold P.dfa_Run.b0 at e1
   refine c_sr (o_lss hti0 h9 (c_nil (c_sq ?_)))
   refine c_ift rfl (Int.ofNat_lt.2 q5) ?_
   refine c_sk (c_sq (c_bk (c_sr ?_)))
   refine o_idx (v := v3) h8 hti0 (hp3.mono (g1.trans g2).v) rfl (Pu.ix_nat.trans q4) fun p1 q7 => ?_
   refine o_ldi rfl (hp3.mono (g1.trans g2).v) s5.v q7 (Pu.ix_nat.trans q4) ?_
   refine o_mv (v := (vi x2)) rfl ?_
   refine c_nil (c_sr ?_)
   refine o_mv (v := (vi x2)) rfl ?_
   refine o_lss rfl rfl ?_
   refine o_mv (v := (.bool (decide (x2 < 0)))) rfl ?_
   obtain ⟨y3, e2, e1⟩ := oB e1
   refine o_jn 8 (I := fun tm H => ∃ (Z4 V4 : PH), Gw Z2 V2 Z4 V4 ∧ Sat Z4 V4 H [pts b1 (.rw 0 [vi a0.Start, (vS d1 a0.Accept), (vS d2 a0.Next)])] ∧ tm 1 = v3 ∧ tm 2 = (pV b1 0) ∧ tm 20 = v3 ∧ tm 21 = (vN a1) ∧ tm 22 = (vJ i4) ∧ tm 36 = (.bool y3)) (fun k5 => ?_) ?_
   ·rcases Bool.eq_false_or_eq_true (decide (x2 < 0)) with q8 | q8
    ·replace e2 := if_t q8 e2
     refine o_gn rfl q8 (o_gn rfl q8 (o_gn rfl q8 (o_gn rfl q8 (o_gn rfl q8 ?_))))
     refine o_gn rfl q8 (o_gn rfl q8 ?_)
     refine o_pickt (a := (.bool true)) rfl q8 rfl ?_
     obtain rfl := oJ e2
     exact k5 _ _ ⟨_, _, Gw.refl _ _, s5, h6, h7, h8, h9, hti0, rfl⟩
    replace e2 := ib_f q8 e2
    refine o_gy rfl q8 ?_
    refine o_mv (v := (vi x2)) rfl ?_
    refine o_gy rfl q8 (o_fad h7 (o_gy rfl q8 (o_ldB 0 s5 rfl rfl rfl rfl (o_gy rfl q8 ?_))))
    obtain ⟨x3, q9, e2⟩ := oB e2
    refine o_idx (v := (vS d2 a0.Next)) rfl rfl (hp2.mono (g1.trans g2).v) rfl q9 fun p2 q10 => ?_
    refine o_gy rfl q8 ?_
    refine o_lds rfl (hp2.mono (g1.trans g2).v) s5.v q10 q9 fun w1 h20 => ?_
    refine o_gy rfl q8 (o_len rfl (h20).len (o_gy rfl q8 (o_geq rfl rfl ?_)))
    refine o_pickf (b := (.bool (decide ((x3.length : Int) ≤ x2)))) rfl q8 rfl ?_
    obtain rfl := oJ e2
    exact k5 _ _ ⟨_, _, Gw.refl _ _, s5, h6, h7, h8, h9, hti0, rfl⟩
   intro _ H6 i5
   obtain ⟨Z4, V4, g4, s8, h14, h15, h16, h17, h18, h19⟩ := i5
   refine c_nil ?_
   refine c_if h19 (fun q11 => ?_) (fun q11 => ?_)
   ·replace e1 := if_t q11 e1
    refine c_sr ?_
    refine o_mv (v := (vi 0)) rfl ?_
    refine o_mv (v := (vi 1)) rfl ?_
    refine c_nil (c_rt ?_)
    have e3 := fin_r (k3 _ (sJ e1)) e
    obtain rfl := oJ e3
    exact ⟨.inr rfl, _, (ar2 rfl rfl), rfl, ((s8.pick [] rfl).weak (g1.trans (g2.trans g4)) hs.zv)⟩
   replace e1 := ib_f q11 e1
   refine c_sk (c_end (c_r (o_add h18 rfl ?_)))
   refine o_mv (v := (vi (Pu.W ((i4 : Int) + 1)))) rfl ?_
   refine c_nil ?_
   exact k1 _ _ _ (sJ e1) ⟨(iv rfl (w_suc q5 ((hp3.mono g1.v)).bd)), _, _, (g2.trans g4), s8, h14, h15, h16, h17⟩
  ·obtain ⟨hte0, Z5, V5, g5, s9, h21, h22, h23, h24⟩ := jd
   refine c_sr (o_lss hte0 h24 (c_nil (c_sq ?_)))
   refine c_iff rfl (Int.lt_irrefl _) ?_
   refine c_ex ?_
   refine e_c ?_
   refine e_c ?_
   refine e_h ?_
   exact k4 _ _ ⟨_, jf, _, _, g5, s9, h21, h22, h23, h24⟩
 intro _ H5 i6
 obtain ⟨s6, f1, Z3, V3, g3, s7, h10, h11, h12, h13⟩ := i6
 replace e := fin_o f1 e
 refine c_sr (o_fad h11 (o_ldB 0 s7 rfl rfl rfl rfl ?_))
 refine o_mv (v := (vi a0.Start)) rfl ?_
 refine c_nil (c_sq (c_sr (o_mv h10 (o_len rfl ((hp3.mono (g1.trans g3).v)).len ?_))))
 refine o_mv (v := (vi 0)) rfl ?_
 refine c_nil ?_
 obtain ⟨y4, q14, e⟩ := oB e
 refine c_jn (I := fun tm H => ∃ (s12 : Int), y4 = .out s12 ∧ (∃ (Z7 V7 : PH), Gw Z3 V3 Z7 V7 ∧ Sat Z7 V7 H [pts b1 (.rw 0 [vi a0.Start, (vS d1 a0.Accept), (vS d2 a0.Next)])] ∧ tm 2 = (pV b1 0) ∧ tm 9 = (vi s12) ∧ tm 40 = v3 ∧ tm 41 = (vN a1))) (fun k9 => ?_) ?_
 ·refine c_bk ?_
  refine l_forL (xs := a1) (fun (i7 : Nat) (s10 : Int) tm H => tm 42 = vi i7 ∧ ∃ (Z6 V6 : PH), Gw Z3 V3 Z6 V6 ∧ Sat Z6 V6 H [pts b1 (.rw 0 [vi a0.Start, (vS d1 a0.Accept), (vS d2 a0.Next)])] ∧ tm 2 = (pV b1 0) ∧ tm 9 = (vi s10) ∧ tm 40 = v3 ∧ tm 41 = (vN a1)) (fun i7 x4 s10 y5 tm H9 q12 q13 j2 e4 k6 k7 k8 => ?_) (fun s10 tm H8 jf jd => ?_) q14 ⟨rfl, _, _, Gw.refl _ _, s7, h11, rfl, rfl, rfl⟩
  ·obtain ⟨hti1, Z6, V6, g6, s11, h25, h26, h27, h28⟩ := j2
   unfold P.dfa_Run.b1 at e4
   refine c_sr (o_lss hti1 h28 (c_nil (c_sq ?_)))
   refine c_ift rfl (Int.ofNat_lt.2 q13) ?_
   refine c_sk (c_sq (c_bk (c_sr ?_)))
   refine o_idx (v := v3) h27 hti1 (hp3.mono (g1.trans (g3.trans g6)).v) rfl (Pu.ix_nat.trans q12) fun p3 q15 => ?_
   refine o_ldi rfl (hp3.mono (g1.trans (g3.trans g6)).v) s11.v q15 (Pu.ix_nat.trans q12) ?_
   refine o_mv (v := (vi x4)) rfl ?_
   refine c_nil (c_sr (o_fad h25 (o_ldB 0 s11 rfl rfl rfl rfl (o_mv h26 ?_))))
   obtain ⟨x5, q16, e4⟩ := oB e4
   refine o_idx (v := (vS d2 a0.Next)) rfl rfl (hp2.mono (g1.trans (g3.trans g6)).v) rfl q16 fun p4 q17 => ?_
   refine o_lds rfl (hp2.mono (g1.trans (g3.trans g6)).v) s11.v q17 q16 fun w2 h33 => ?_
   refine o_mv (v := (vi x4)) rfl ?_
   obtain ⟨x6, q18, e4⟩ := oB e4
   refine o_idx (v := w2) rfl rfl h33 rfl q18 fun p5 q19 => ?_
   refine o_ldi rfl h33 s11.v q19 q18 ?_
   refine o_mv (v := (vi x6)) rfl ?_
   refine c_nil ?_
   refine c_gen (P := fun tm => tm 2 = (pV b1 0) ∧ tm 9 = (vi x6) ∧ tm 40 = v3 ∧ tm 41 = (vN a1) ∧ tm 42 = (vJ i7) ∧ True) ⟨h25, rfl, h27, h28, hti1, trivial⟩ ?_
   intro _ i8
   obtain ⟨h34, h35, h36, h37, h38, -⟩ := i8
   refine c_sr (o_mv h35 (o_lss rfl rfl (c_nil ?_)))
   refine c_ifd rfl (fun q20 => ?_) (fun q20 => ?_)
   ·replace e4 := if_t q20 e4
    refine c_sr ?_
    refine o_mv (v := (vi (-1))) rfl ?_
    refine o_mv (v := (vi 0)) rfl ?_
    refine c_nil (c_rt ?_)
    have e5 := fin_r (k8 _ (sJ e4)) e
    obtain rfl := oJ e5
    exact ⟨.inr rfl, _, (ar2 rfl rfl), rfl, ((s11.pick [] rfl).weak (g1.trans (g3.trans g6)) hs.zv)⟩
   replace e4 := if_f q20 e4
   refine c_sk (c_end (c_r (o_add h38 rfl ?_)))
   refine o_mv (v := (vi (Pu.W ((i7 : Int) + 1)))) rfl ?_
   refine c_nil ?_
   exact k6 _ _ _ (sJ e4) ⟨(iv rfl (w_suc q13 ((hp3.mono (g1.trans g3).v)).bd)), _, _, g6, s11, h34, h35, h36, h37⟩
  ·obtain ⟨hte1, Z8, V8, g8, s14, h39, h40, h41, h42⟩ := jd
   refine c_sr (o_lss hte1 h42 (c_nil (c_sq ?_)))
   refine c_iff rfl (Int.lt_irrefl _) ?_
   refine c_ex ?_
   refine e_c ?_
   refine e_c ?_
   refine e_h ?_
   exact k9 _ _ ⟨_, jf, _, _, g8, s14, h39, h40, h41, h42⟩
 intro _ H10 i9
 obtain ⟨s12, f2, Z7, V7, g7, s13, h29, h30, h31, h32⟩ := i9
 replace e := fin_o f2 e
 refine c_sr (o_fad h29 (o_ldB 0 s13 rfl rfl rfl rfl (o_mv h30 ?_)))
 obtain ⟨x7, q21, e⟩ := oB e
 refine o_idx (v := (vS d1 a0.Accept)) rfl rfl (hp1.mono (g1.trans (g3.trans g7)).v) rfl q21 fun p6 q22 => ?_
 refine o_ldi rfl (hp1.mono (g1.trans (g3.trans g7)).v) s13.v q22 q21 ?_
 refine o_mv (v := (vi x7)) rfl ?_
 refine o_mv (v := (vi 0)) rfl ?_
 refine c_nil (c_rt ?_)
 obtain rfl := oJ e
 exact ⟨.inr rfl, _, (ar2 rfl rfl), rfl, ((s13.pick [] rfl).weak (g1.trans (g3.trans g7)) hs.zv)⟩
/-! parlkeep5_accepts -/
structure Nd.parlkeep5_accepts (T : FuncId → Option AFunc) : Prop where
  own : Has T I.parlkeep5_accepts F.parlkeep5_accepts
  dfa_Run : Nd.dfa_Run T
set_option maxHeartbeats 1000000 in
theorem X.parlkeep5_accepts {T : FuncId → Option AFunc} (nd : Nd.parlkeep5_accepts T) {Z V : PH} {H : Hp} {v1 : Value} {v2 : Value} {v3 : Value} {a0 : Ty.api_Dfa} {a1 : (List Int)} (hs : Sat Z V H []) (hp1 : RdS Sh.int V v1 a0.Accept) (hp2 : RdS sI1 V v2 a0.Next) (hp3 : RdS Sh.int V v3 a1) {r : Bool} (e : P.parlkeep5_accepts a0 a1 = some r) :
    G T I.parlkeep5_accepts [(.agg #[vi a0.Start, v1, v2]), v3] H (fun rv H' => rv = (.bool r) ∧ Sat Z V H' []) := by
 unfold P.parlkeep5_accepts at e
 refine f_mk nd.own ?_
 refine c_sr ?_
 obtain ⟨d1, rfl⟩ := (hp1).val
 obtain ⟨d2, rfl⟩ := (hp2).val
 refine o_box hs rfl rfl fun b1 H1 s1 => ?_
 refine o_mv (v := (.bool false)) rfl ?_
 refine c_nil (c_sr (o_ldB 0 s1 rfl rfl rfl rfl ?_))
 refine o_mv (v := v3) rfl ?_
 obtain ⟨x1, q1, e⟩ := oB e
 obtain ⟨Z1, V1, W1, g1, u1, c1, c2, -, c4, c3⟩ := Sat.call (l1 := []) s1
 refine o_call (mc rfl (mc rfl m0)) (X.dfa_Run nd.dfa_Run c1 (hp1.mono (g1.v.trans u1)) (hp2.mono (g1.v.trans u1)) (hp3.mono (g1.v.trans u1)) q1) fun _ H2 i1 => ?_
 obtain ⟨rfl, s2⟩ := i1
 have s3 := c3 _ _ s2
 refine o_mv (v := (.tuple #[vi x1.1, vi x1.2])) rfl ?_
 refine o_ext rfl rfl (o_ext rfl rfl ?_)
 refine o_mv (v := (vi x1.1)) rfl ?_
 refine o_mv (v := (vi x1.2)) rfl ?_
 refine c_nil ?_
 refine c_gen (P := fun tm => tm 5 = (vi x1.1) ∧ tm 6 = (vi x1.2) ∧ True) ⟨rfl, rfl, trivial⟩ ?_
 intro _ i2
 obtain ⟨h1, h2, -⟩ := i2
 refine c_sr (o_mv h2 (o_eql rfl rfl ?_))
 refine o_mv (v := (.bool (decide (x1.2 = 0)))) rfl ?_
 refine o_jn 3 (I := fun tm H => tm 18 = .bool ((decide (x1.2 = 0)) && (decide (0 ≤ x1.1))) ∧ (∃ (Z2 V2 : PH), Gw Z1 V1 Z2 V2 ∧ Sat Z2 V2 H [])) (fun k1 => ?_) ?_
 ·rcases Bool.eq_false_or_eq_true (decide (x1.2 = 0)) with q2 | q2
  ·refine o_gy rfl q2 (o_mv h1 (o_gy rfl q2 (o_geq rfl rfl ?_)))
   refine o_pickt (a := (.bool (decide (0 ≤ x1.1)))) rfl q2 rfl ?_
   exact k1 _ _ ⟨gf rfl (by first | (rw [q2]; first | done | rfl) | simp [q2]), _, _, Gw.refl _ _, (s3.pick [] rfl)⟩
  refine o_gn rfl q2 (o_gn rfl q2 ?_)
  refine o_pickf (b := (.bool false)) rfl q2 rfl ?_
  exact k1 _ _ ⟨gf rfl (by first | (rw [q2]; first | done | rfl) | simp [q2]), _, _, Gw.refl _ _, (s3.pick [] rfl)⟩
 intro _ H3 i3
 obtain ⟨h3, Z2, V2, g2, s4⟩ := i3
 refine o_mv h3 (c_nil (c_rt ?_))
 obtain rfl := oJ e
 exact ⟨.inr rfl, _, (ar1 rfl), rfl, (s4.weak (g1.trans g2) hs.zv)⟩
/-! parlkeep5_words -/
structure Nd.parlkeep5_words (T : FuncId → Option AFunc) : Prop where
  own : Has T I.parlkeep5_words F.parlkeep5_words
  slices_Clone_int_int : Nd.slices_Clone_int_int T
set_option maxHeartbeats 1000000 in
theorem X.parlkeep5_words {T : FuncId → Option AFunc} (nd : Nd.parlkeep5_words T) {Z V : PH} {H : Hp} {a0 : Int} {a1 : Int} (hs : Sat Z V H []) {r : (List (List Int))} (e : P.parlkeep5_words a0 a1 = some r) :
    G T I.parlkeep5_words [vi a0, vi a1] H (fun rv H' => ∃ (u1 : Value), rv = u1 ∧ Sat Z V H' [It.sl (Sh.ro sI1) u1 r]) := by
 unfold P.parlkeep5_words at e
 refine f_mk nd.own ?_
 refine c_sr ?_
 refine o_mv (v := (.slice none 0 0)) rfl ?_
 refine c_nil (c_sr ?_)
 refine o_bsl (s := (Sh.ro sI1)) (us := [(.slice none 0 0)]) (qs := [(0, 1, (.slice none 0 0))]) (xs := [[]]) hs (Sh.ro_lt _) rfl rfl rfl (Els.cons (c := [(.slice none 0 0)]) (sl_ro RdS.nil) Els.nil) rfl rfl fun w1 H1 s1 => ?_
 refine o_mv (v := w1) rfl ?_
 refine c_nil (c_sq (c_sr ?_))
 refine o_mv (v := (vi a1)) rfl ?_
 refine o_mv (v := (vi 0)) rfl ?_
 refine c_nil ?_
 obtain ⟨x2, q3, e⟩ := oB e
 obtain ⟨rfl, q5⟩ := ranO_some q3
 obtain ⟨y1, q6, e⟩ := oB e
 refine c_bk ?_
 refine l_forP (xs := (Pu.ran a1)) (fun (i1 : Nat) (s2 : (List (List Int))) tm H => tm 12 = vi i1 ∧ ∃ (Z1 V1 : PH) (w2 : Value), Gw Z V Z1 V1 ∧ Sat Z1 V1 H [It.sl (Sh.ro sI1) w2 s2] ∧ tm 0 = (vi a0) ∧ tm 5 = w2 ∧ tm 11 = (vi a1)) (fun i1 x1 s2 s4 tm H3 q1 q2 j1 e1 k1 => ?_) (fun tm H2 jd => ?_) q6 ⟨rfl, _, _, _, Gw.refl _ _, s1, rfl, rfl, rfl⟩
 ·obtain ⟨hti0, Z1, V1, w2, g1, s3, h1, h2, h3⟩ := j1
  unfold P.parlkeep5_words.b0 at e1
  have hti0 := iv hti0 (ran_x q1).symm
  refine c_sr (o_lss hti0 h3 (c_nil (c_sq ?_)))
  refine c_ift rfl (ran_lt q1) ?_
  refine c_sk (c_sq (c_bk (c_sr ?_)))
  refine o_mv (v := (.slice none 0 0)) rfl ?_
  refine c_nil (c_sq (c_sr (o_mv h2 ?_)))
  refine o_len rfl ((s3.curS (s := (Sh.ro sI1)) 0 rfl)).len ?_
  refine o_mv (v := (vi 0)) rfl ?_
  refine c_nil ?_
  obtain ⟨y2, q9, e1⟩ := oB e1
  refine c_bk ?_
  refine l_forP (xs := s2) (fun (i2 : Nat) (s5 : (List (List Int))) tm H => tm 16 = vi i2 ∧ ∃ (Z2 V2 : PH) (w3 : Value), Gw Z1 V1 Z2 V2 ∧ Sat Z2 V2 H [It.sl (Sh.ro sI1) w3 s5, It.sl (Sh.ro sI1) w2 s2] ∧ tm 0 = (vi a0) ∧ tm 6 = w3 ∧ tm 11 = (vi a1) ∧ tm 12 = (vi x1) ∧ tm 14 = w2 ∧ tm 15 = (vN s2)) (fun i2 x3 s5 s7 tm H5 q7 q8 j2 e2 k2 => ?_) (fun tm H4 jd => ?_) q9 ⟨rfl, _, _, _, Gw.refl _ _, (s3.push (sl_nil (s := (Sh.ro sI1)))), h1, rfl, h3, hti0, rfl, rfl⟩
  ·obtain ⟨hti1, Z2, V2, w3, g2, s6, h4, h5, h6, h7, h8, h9⟩ := j2
   unfold P.parlkeep5_words.b1 at e2
   refine c_sr (o_lss hti1 h9 (c_nil (c_sq ?_)))
   refine c_ift rfl (Int.ofNat_lt.2 q8) ?_
   refine c_sk (c_sq (c_bk (c_sr ?_)))
   refine o_idx (v := w2) h8 hti1 (s6.curS (s := (Sh.ro sI1)) 1 rfl) rfl (Pu.ix_nat.trans q7) fun p1 q10 => ?_
   refine o_ldos 1 s6 rfl rfl q10 (Pu.ix_nat.trans q7) fun Z3 V3 w4 g3 s8 h10 => ?_
   refine o_mv (v := w4) rfl ?_
   refine c_nil (c_sr (o_mv h4 ?_))
   refine o_mv (v := (vi 0)) rfl ?_
   refine c_nil ?_
   obtain ⟨x5, q13, e2⟩ := oB e2
   obtain ⟨rfl, q15⟩ := ranO_some q13
   obtain ⟨y3, q16, e2⟩ := oB e2
   refine c_bk ?_
   refine l_forP (xs := (Pu.ran a0)) (fun (i3 : Nat) (s9 : (List (List Int))) tm H => tm 21 = vi i3 ∧ ∃ (Z4 V4 : PH) (w5 : Value), Gw Z3 V3 Z4 V4 ∧ Sat Z4 V4 H [It.sl (Sh.ro sI1) w5 s9, It.sl (Sh.ro sI1) w2 s2] ∧ tm 0 = (vi a0) ∧ tm 6 = w5 ∧ tm 8 = w4 ∧ tm 11 = (vi a1) ∧ tm 12 = (vi x1) ∧ tm 14 = w2 ∧ tm 15 = (vN s2) ∧ tm 16 = (vJ i2) ∧ tm 20 = (vi a0)) (fun i3 x4 s9 s11 tm H7 q11 q12 j3 e3 k3 => ?_) (fun tm H6 jd => ?_) q16 ⟨rfl, _, _, _, Gw.refl _ _, s8, h4, h5, rfl, h6, h7, h8, h9, hti1, rfl⟩
   ·obtain ⟨hti2, Z4, V4, w5, g4, s10, h11, h12, h13, h14, h15, h16, h17, h18, h19⟩ := j3
    unfold P.parlkeep5_words.b2 at e3
    have hti2 := iv hti2 (ran_x q11).symm
    refine c_sr (o_lss hti2 h19 (c_nil (c_sq ?_)))
    refine c_ift rfl (ran_lt q11) ?_
    refine c_sk (c_sq (c_bk (c_sr (o_mv hti2 ?_))))
    refine o_mv (v := (vi x4)) rfl ?_
    refine c_nil (c_r (o_mv h12 (o_mv h13 ?_)))
    obtain ⟨x6, q17, e3⟩ := oB e3
    obtain ⟨Z5, V5, W1, g5, u1, c1, c2, -, c4, c3⟩ := Sat.call (l1 := []) s10
    refine o_call (mc rfl m0) (X.slices_Clone_int_int nd.slices_Clone_int_int c1 (h10.mono ((g4.trans g5).z.trans c1.zv)) q17) fun w6 H8 i4 => ?_
    obtain ⟨_, rfl, s12⟩ := i4
    have s13 := c3 _ _ s12
    refine o_mv (v := (vi x4)) rfl ?_
    refine o_bsl (s := Sh.int) (us := [vi x4]) (qs := [(0, 1, (vi x4))]) (xs := [x4]) s13 Sh.flat_lt rfl rfl rfl (Els.cons (c := [vi x4]) rfl Els.nil) rfl rfl fun w7 H9 s14 => ?_
    obtain ⟨x7, q18, e3⟩ := oB e3
    refine o_app 1 s14 rfl Sh.flat_lt rfl rfl rfl rfl (s14.curS (s := Sh.int) 0 rfl) pR (fun h => h) (by decide) q18 fun w8 H10 s15 => ?_
    obtain ⟨Z6, V6, g6, s16, h20⟩ := s15.frzS 1 rfl
    obtain ⟨d1, rfl⟩ := (h20).val
    refine o_bsl (s := (Sh.ro sI1)) (us := [(vS d1 x7)]) (qs := [(0, 1, (vS d1 x7))]) (xs := [x7]) s16 (Sh.ro_lt _) rfl rfl rfl (Els.cons (c := [(vS d1 x7)]) (sl_ro h20) Els.nil) rfl rfl fun w9 H11 s17 => ?_
    obtain ⟨Z7, V7, g7, s18, h21⟩ := s17.frzS 0 rfl
    replace h21 := h21.of_ro
    obtain ⟨x8, q19, e3⟩ := oB e3
    refine o_app 1 s18 rfl (Sh.ro_lt _) rfl rfl rfl rfl h21 s18.z (fun h => h) (by decide) q19 fun w10 H12 s19 => ?_
    refine o_mv (v := w10) rfl ?_
    refine c_nil (c_end (c_r (o_add hti2 rfl ?_)))
    refine o_mv (v := (vi (Pu.W (x4 + 1)))) rfl ?_
    refine c_nil ?_
    obtain rfl := oJ e3
    exact k3 _ _ ⟨(iv rfl (w_sucR q11 q15)), _, _, _, (g4.trans (g5.trans (g6.trans g7))), (s19.pick [1, 2] rfl), h11, rfl, h13, h14, h15, h16, h17, h18, h19⟩
   obtain ⟨hte2, Z8, V8, w11, g8, s20, h22, h23, h24, h25, h26, h27, h28, h29, h30⟩ := jd
   refine c_sr (o_lss hte2 h30 (c_nil (c_sq ?_)))
   refine c_iff rfl (ran_done _) ?_
   refine c_ex ?_
   refine e_c ?_
   refine e_c ?_
   refine e_h ?_
   refine c_end (c_r (o_add h29 rfl ?_))
   refine o_mv (v := (vi (Pu.W ((i2 : Int) + 1)))) rfl ?_
   refine c_nil ?_
   obtain rfl := oJ e2
   exact k2 _ _ ⟨(iv rfl (w_suc q8 ((s3.curS (s := (Sh.ro sI1)) 0 rfl)).bd)), _, _, _, (g2.trans (g3.trans g8)), s20, h22, h23, h25, h26, h27, h28⟩
  obtain ⟨hte1, Z9, V9, w12, g9, s21, h31, h32, h33, h34, h35, h36⟩ := jd
  refine c_sr (o_lss hte1 h36 (c_nil (c_sq ?_)))
  refine c_iff rfl (Int.lt_irrefl _) ?_
  refine c_ex ?_
  refine e_c ?_
  refine e_c ?_
  refine e_h ?_
  refine c_r (o_mv h32 ?_)
  refine o_mv (v := w12) rfl ?_
  refine c_nil (c_end (c_r (o_add h34 rfl ?_)))
  refine o_mv (v := (vi (Pu.W (x1 + 1)))) rfl ?_
  refine c_nil ?_
  obtain rfl := oJ e1
  exact k1 _ _ ⟨(iv rfl (w_sucR q1 q5)), _, _, _, (g1.trans g9), (s21.pick [0] rfl), h31, rfl, h33⟩
 obtain ⟨hte0, Z10, V10, w13, g10, s22, h37, h38, h39⟩ := jd
 refine c_sr (o_lss hte0 h39 (c_nil (c_sq ?_)))
 refine c_iff rfl (ran_done _) ?_
 refine c_ex ?_
 refine e_c ?_
 refine e_c ?_
 refine e_h ?_
 refine c_sr (o_mv h38 ?_)
 refine o_mv (v := w13) rfl ?_
 refine c_nil (c_rt ?_)
 obtain rfl := oJ e
 exact ⟨.inr rfl, _, (ar1 rfl), _, rfl, (s22.weak g10 hs.zv)⟩
/-! slices_Equal_int_int -/
structure Nd.slices_Equal_int_int (T : FuncId → Option AFunc) : Prop where
  own : Has T I.slices_Equal_int_int F.slices_Equal_int_int
set_option maxHeartbeats 1000000 in
theorem X.slices_Equal_int_int {T : FuncId → Option AFunc} (nd : Nd.slices_Equal_int_int T) {Z V : PH} {H : Hp} {v1 : Value} {v2 : Value} {a0 : (List Int)} {a1 : (List Int)} (hs : Sat Z V H []) (hp1 : RdS Sh.int V v1 a0) (hp2 : RdS Sh.int V v2 a1) {r : Bool} (e : P.slices_Equal_int_int a0 a1 = some r) :
    G T I.slices_Equal_int_int [v1, v2] H (fun rv H' => rv = (.bool r) ∧ Sat Z V H' []) := by
 unfold P.slices_Equal_int_int at e
 refine f_mk nd.own ?_
 refine c_sr ?_
 refine o_mv (v := (.bool false)) rfl ?_
 refine c_nil (c_sq (c_sr ?_))
 refine o_mv (v := v1) rfl ?_
 refine o_len rfl (hp1).len ?_
 refine o_mv (v := v2) rfl ?_
 refine o_len rfl (hp2).len (o_neq rfl rfl (c_nil ?_))
 refine c_ifd rfl (fun q1 => ?_) (fun q1 => ?_)
 ·replace e := if_t q1 e
  refine c_sr ?_
  refine o_mv (v := (.bool false)) rfl ?_
  refine c_nil (c_rt ?_)
  obtain rfl := oJ e
  exact ⟨.inr rfl, _, (ar1 rfl), rfl, hs⟩
 replace e := if_f q1 e
 refine c_sk (c_sq (c_sr ?_))
 refine o_mv (v := v1) rfl ?_
 refine o_len rfl (hp1).len ?_
 refine o_mv (v := (vi 0)) rfl ?_
 refine c_nil ?_
 obtain ⟨x2, q4, e⟩ := oB e
 obtain ⟨rfl, q6⟩ := ranO_some q4
 obtain ⟨y1, q7, e⟩ := oB e
 refine c_jn (I := fun tm H => ∃ (s3 : Unit), y1 = .out s3 ∧ (∃ (Z2 V2 : PH), Gw Z V Z2 V2 ∧ Sat Z2 V2 H [] ∧ tm 0 = v1 ∧ tm 1 = v2 ∧ tm 12 = (vN a0))) (fun k4 => ?_) ?_
 ·refine c_bk ?_
  refine l_forL (xs := (Pu.ran (a0.length : Int))) (fun (i1 : Nat) (s1 : Unit) tm H => tm 13 = vi i1 ∧ ∃ (Z1 V1 : PH), Gw Z V Z1 V1 ∧ Sat Z1 V1 H [] ∧ tm 0 = v1 ∧ tm 1 = v2 ∧ tm 12 = (vN a0)) (fun i1 x1 s1 y2 tm H2 q2 q3 j1 e1 k1 k2 k3 => ?_) (fun s1 tm H1 jf jd => ?_) q7 ⟨rfl, _, _, Gw.refl _ _, hs, rfl, rfl, rfl⟩
  ·obtain ⟨hti0, Z1, V1, g1, s2, h1, h2, h3⟩ := j1
   unfold P.slices_Equal_int_int.b0 at e1
   have hti0 := iv hti0 (ran_x q2).symm
   refine c_sr (o_lss hti0 h3 (c_nil (c_sq ?_)))
   refine c_ift rfl (ran_lt q2) ?_
   refine c_sk (c_sq (c_bk (c_sr (o_mv hti0 ?_))))
   refine o_mv (v := (vi x1)) rfl ?_
   refine c_nil (c_sq ?_)
   refine d_start s2 fun n1 H4 s5 q8 d1 => ?_
   refine d_mv h1 ?_
   refine d_mv (v := (vi x1)) rfl ?_
   obtain ⟨x3, q9, e1⟩ := oB e1
   refine d_idx (v := v1) rfl rfl (hp1.mono g1.v) rfl q9 fun p1 q10 => ?_
   refine d_ldi (RdS.low (hp1.mono g1.v) s5.v q8) rfl hp1 (g1.v.trans s5.v) q10 q9 ?_
   refine d_mv h2 ?_
   refine d_mv (v := (vi x1)) rfl ?_
   obtain ⟨x4, q11, e1⟩ := oB e1
   refine d_idx (v := v2) rfl rfl (hp2.mono g1.v) rfl q11 fun p2 q12 => ?_
   refine d_ldi (RdS.low (hp2.mono g1.v) s5.v q8) rfl hp2 (g1.v.trans s5.v) q12 q11 ?_
   refine d_neq rfl rfl ?_
   refine d_nil dc_nil ?_
   refine c_gen (P := fun tm => tm 0 = v1 ∧ tm 1 = v2 ∧ tm 12 = (vN a0) ∧ tm 13 = (vi x1) ∧ tm 24 = (.bool (decide (x3 ≠ x4))) ∧ True) ⟨h1, h2, h3, hti0, rfl, trivial⟩ ?_
   intro _ i2
   obtain ⟨h7, h8, h9, h10, h11, -⟩ := i2
   refine c_ifd h11 (fun q13 => ?_) (fun q13 => ?_)
   ·replace e1 := if_t q13 e1
    refine c_sr ?_
    refine o_mv (v := (.bool false)) rfl ?_
    refine c_nil (c_rt ?_)
    have e2 := fin_r (k3 _ (sJ e1)) e
    obtain rfl := oJ e2
    exact ⟨.inr rfl, _, (ar1 rfl), rfl, (s5.weak g1 hs.zv)⟩
   replace e1 := if_f q13 e1
   refine c_sk (c_end (c_r (o_add h10 rfl ?_)))
   refine o_mv (v := (vi (Pu.W (x1 + 1)))) rfl ?_
   refine c_nil ?_
   exact k1 _ _ _ (sJ e1) ⟨(iv rfl (w_sucR q2 q6)), _, _, g1, s5, h7, h8, h9⟩
  ·obtain ⟨hte0, Z3, V3, g3, s6, h12, h13, h14⟩ := jd
   refine c_sr (o_lss hte0 h14 (c_nil (c_sq ?_)))
   refine c_iff rfl (ran_done _) ?_
   refine c_ex ?_
   refine e_c ?_
   refine e_c ?_
   refine e_h ?_
   exact k4 _ _ ⟨_, jf, _, _, g3, s6, h12, h13, h14⟩
 intro _ H3 i3
 obtain ⟨s3, f1, Z2, V2, g2, s4, h4, h5, h6⟩ := i3
 replace e := fin_o f1 e
 refine c_sr ?_
 refine o_mv (v := (.bool true)) rfl ?_
 refine c_nil (c_rt ?_)
 obtain rfl := oJ e
 exact ⟨.inr rfl, _, (ar1 rfl), rfl, (s4.weak g2 hs.zv)⟩
end Go.Proofs.Ytmlnknngpdnepaa
