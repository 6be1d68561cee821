/- The abstract code comes to the plain functions: printed by wip/tools/lift.py. -/
import Derived.Test.YtcdhhelgoppleaaP
import Derived.Test.YtcdhhelgoppleaaGcmp
import Derived.Test.YtcdhhelgoppleaaGdfa
import Derived.Test.YtcdhhelgoppleaaGgram
import Derived.Test.YtcdhhelgoppleaaGguess
import Derived.Test.YtcdhhelgoppleaaGmean
import Derived.Test.YtcdhhelgoppleaaGparlkeep5
import Derived.Test.YtcdhhelgoppleaaGparlmake
import Derived.Test.YtcdhhelgoppleaaGslices
namespace Go.Proofs.Ytcdhhelgoppleaa
open Go Go.Ab
/-! parlmake_Below -/
structure Nd.parlmake_Below (T : FuncId → Option AFunc) : Prop where
  own : Has T I.parlmake_Below F.parlmake_Below
set_option maxHeartbeats 1000000 in
theorem X.parlmake_Below {T : FuncId → Option AFunc} (nd : Nd.parlmake_Below T) {Z V : PH} {H : Hp} {a0 : Int} {a1 : Int} (hs : Sat Z V H []) {r : Int} (e : P.parlmake_Below a0 a1 = some r) :
    G T I.parlmake_Below [vi a0, vi a1] H (fun rv H' => rv = (vi r) ∧ Sat Z V H' []) := by
 unfold P.parlmake_Below at e
 refine f_mk nd.own ?_
 refine c_sr ?_
 refine o_mv (v := (vi 0)) rfl ?_
 refine c_nil (c_sr ?_)
 refine o_mv (v := (vi a0)) rfl ?_
 refine o_mv (v := (vi a1)) rfl ?_
 obtain ⟨x1, q1, e⟩ := oB e
 refine o_rem rfl rfl q1 ?_
 refine o_mv (v := (vi x1)) rfl ?_
 refine c_nil (c_sq (c_sr ?_))
 refine o_mv (v := (vi x1)) rfl ?_
 refine o_lss rfl rfl (c_nil ?_)
 obtain ⟨y1, e1, e⟩ := oB e
 refine c_jn (I := fun tm H => ∃ (Z1 V1 : PH), Gw Z V Z1 V1 ∧ Sat Z1 V1 H [] ∧ tm 0 = (vi y1)) (fun k1 => ?_) ?_
 ·refine c_ifd rfl (fun q2 => ?_) (fun q2 => ?_)
  ·replace e1 := if_t q2 e1
   refine c_r ?_
   refine o_mv (v := (vi x1)) rfl ?_
   refine o_mv (v := (vi a1)) rfl ?_
   refine o_add rfl rfl ?_
   refine o_mv (v := (vi (Pu.W (x1 + a1)))) rfl ?_
   refine c_nil ?_
   obtain rfl := oJ e1
   exact k1 _ _ ⟨_, _, Gw.refl _ _, hs, rfl⟩
  replace e1 := if_f q2 e1
  refine c_sk ?_
  obtain rfl := oJ e1
  exact k1 _ _ ⟨_, _, Gw.refl _ _, hs, rfl⟩
 intro _ H1 i1
 obtain ⟨Z1, V1, g1, s1, h1⟩ := i1
 refine c_sr (o_mv h1 ?_)
 refine o_mv (v := (vi y1)) rfl ?_
 refine c_nil (c_rt ?_)
 obtain rfl := oJ e
 exact ⟨.inr rfl, _, (ar1 rfl), rfl, (s1.weak g1 hs.zv)⟩
/-! parlmake_stream_next -/
structure Nd.parlmake_stream_next (T : FuncId → Option AFunc) : Prop where
  own : Has T I.parlmake_stream_next F.parlmake_stream_next
  parlmake_Below : Nd.parlmake_Below T
set_option maxHeartbeats 1000000 in
theorem X.parlmake_stream_next {T : FuncId → Option AFunc} (nd : Nd.parlmake_stream_next T) {Z V : PH} {H : Hp} {v1 : Value} {o1 : Nat} {a0 : Ty.parlmake_stream} {a1 : Int} (hs : Sat Z V H [pts o1 (.rw 0 [v1])]) (hp1 : RdS Sh.int Z v1 a0.l) {r : (Ty.parlmake_stream × Int)} (e : P.parlmake_stream_next a0 a1 = some r) :
    G T I.parlmake_stream_next [(pV o1 0), vi a1] H (fun rv H' => ∃ (u1 : Value), rv = (vi r.2) ∧ Sat Z V H' [pts o1 (.rw 0 [u1]), Sh.it (Sh.ro sI1) [u1] r.1.l]) := by
 unfold P.parlmake_stream_next at e
 refine f_mk nd.own ?_
 refine c_sr ?_
 refine o_mv (v := (vi 0)) rfl ?_
 refine c_nil (c_sq (c_sr ?_))
 refine o_mv (v := (pV o1 0)) rfl ?_
 refine o_nck rfl (o_fad rfl ?_)
 obtain ⟨d1, rfl⟩ := (hp1).val
 refine o_ldB 0 hs rfl rfl rfl rfl (o_len rfl (hp1).len (o_eql rfl rfl (c_nil ?_)))
 refine c_ifd rfl (fun q1 => ?_) (fun q1 => ?_)
 ·replace e := if_t q1 e
  refine c_sr ?_
  refine o_mv (v := (vi 0)) rfl ?_
  refine c_nil (c_rt ?_)
  obtain rfl := oJ e
  exact ⟨.inr rfl, _, (ar1 rfl), _, rfl, ((hs.push (ro_it (sl_ro hp1))).pick [1, 0] rfl)⟩
 replace e := if_f q1 e
 refine c_sk (c_sr ?_)
 refine o_mv (v := (pV o1 0)) rfl ?_
 refine o_nck rfl (o_fad rfl (o_ldB 0 hs rfl rfl rfl rfl ?_))
 obtain ⟨x1, q2, e⟩ := oB e
 refine o_idx (v := (vS d1 a0.l)) rfl rfl hp1 rfl q2 fun p1 q3 => ?_
 refine o_ldi rfl hp1 hs.z q3 q2 ?_
 refine o_mv (v := (vi x1)) rfl ?_
 refine c_nil ?_
 refine c_gen (P := fun tm => tm 0 = (pV o1 0) ∧ tm 1 = (vi a1) ∧ tm 5 = (vi x1) ∧ True) ⟨rfl, rfl, rfl, trivial⟩ ?_
 intro _ i1
 obtain ⟨h1, h2, h3, -⟩ := i1
 refine c_sr (o_mv h1 (o_mv h1 (o_nck rfl (o_fad rfl ?_))))
 refine o_ldB 0 hs rfl rfl rfl rfl ?_
 obtain ⟨x2, q4, e⟩ := oB e
 refine o_slcl rfl rfl hp1 hs.z rfl q4 fun w1 h4 => ?_
 refine o_nck rfl (o_fad rfl ?_)
 obtain ⟨d2, rfl⟩ := (h4).val
 refine o_stB (us' := [(vS d2 x2)]) 0 hs rfl rfl rfl rfl rfl rfl rfl fun H1 s1 => ?_
 refine c_nil (c_sr (o_mv h3 (o_mv h2 ?_)))
 obtain ⟨x3, q5, e⟩ := oB e
 obtain ⟨Z1, V1, W1, g1, u1, c1, c2, -, c4, c3⟩ := Sat.call (l1 := []) s1
 refine o_call (mc rfl (mc rfl m0)) (X.parlmake_Below nd.parlmake_Below c1 q5) fun _ H2 i2 => ?_
 obtain ⟨rfl, s2⟩ := i2
 have s3 := c3 _ _ s2
 refine o_mv (v := (vi x3)) rfl ?_
 refine c_nil ?_
 refine c_gen (P := fun tm => tm 4 = (vi x3) ∧ True) ⟨rfl, trivial⟩ ?_
 intro _ i3
 obtain ⟨h5, -⟩ := i3
 refine c_rt ?_
 obtain rfl := oJ e
 exact ⟨.inr rfl, _, (ar1 h5), _, rfl, (((s3.push (ro_it (sl_ro (h4.mono g1.z)))).pick [1, 0] rfl).weak g1 hs.zv)⟩
/-! parlmake_Dfa -/
structure Nd.parlmake_Dfa (T : FuncId → Option AFunc) : Prop where
  own : Has T I.parlmake_Dfa F.parlmake_Dfa
  parlmake_stream_next : Nd.parlmake_stream_next T
set_option maxHeartbeats 1000000 in
theorem X.parlmake_Dfa {T : FuncId → Option AFunc} (nd : Nd.parlmake_Dfa T) {Z V : PH} {H : Hp} {v1 : Value} {a0 : (List Int)} (hs : Sat Z V H []) (hp1 : RdS Sh.int Z v1 a0) {r : Ty.api_Dfa} (e : P.parlmake_Dfa a0 = some r) :
    G T I.parlmake_Dfa [v1] H (fun rv H' => ∃ (u1 : Value) (u2 : Value), rv = (.agg #[vi r.Start, u1, u2]) ∧ Sat Z V H' [It.sl Sh.int u1 r.Accept, It.sl sI1 u2 r.Next]) := by
 unfold P.parlmake_Dfa at e
 refine f_mk nd.own ?_
 refine c_sr ?_
 refine o_new hs fun b1 H1 s1 => ?_
 refine c_nil (c_sr ?_)
 refine o_mv (v := v1) rfl ?_
 obtain ⟨d1, rfl⟩ := (hp1).val
 refine o_bld (qs := [(0, 1, (vS d1 a0))]) rfl rfl ?_
 refine o_box s1 rfl rfl fun b2 H2 s2 => ?_
 refine o_mv (v := (pV b2 0)) rfl ?_
 refine c_nil (c_sr ?_)
 refine o_mv (v := (pV b2 0)) rfl ?_
 obtain ⟨x1, q1, e⟩ := oB e
 obtain ⟨Z1, V1, W1, g1, u1, c1, c2, -, c4, c3⟩ := Sat.call (l1 := [pts b2 (.rw 0 [(vS d1 a0)])]) (l2 := [pts b1 (.rw 0 [vi 0, (.slice none 0 0), (.slice none 0 0)])]) s2
 refine o_call (mc rfl (mc rfl m0)) (X.parlmake_stream_next nd.parlmake_stream_next (a0 := (Ty.parlmake_stream.mk a0)) c1 (hp1.mono g1.z) q1) fun _ H3 i1 => ?_
 obtain ⟨w1, rfl, s3⟩ := i1
 have s4 := c3 _ _ s3
 obtain ⟨Z2, V2, g2, s5, h1⟩ := (s4.pull 1 rfl).frzR
 refine o_add rfl rfl ?_
 refine o_mv (v := (pV b2 0)) rfl ?_
 obtain ⟨x2, q2, e⟩ := oB e
 obtain ⟨d2, rfl⟩ := (h1).val
 obtain ⟨Z3, V3, W2, g3, u2, c5, c6, -, c8, c7⟩ := Sat.call (l1 := [pts b2 (.rw 0 [(vS d2 x1.1.l)])]) (l2 := [pts b1 (.rw 0 [vi 0, (.slice none 0 0), (.slice none 0 0)])]) s5
 refine o_call (mc rfl (mc rfl m0)) (X.parlmake_stream_next nd.parlmake_stream_next (a0 := x1.1) c5 (h1.mono g3.z) q2) fun _ H4 i2 => ?_
 obtain ⟨w2, rfl, s6⟩ := i2
 have s7 := c7 _ _ s6
 obtain ⟨Z4, V4, g4, s8, h2⟩ := (s7.pull 1 rfl).frzR
 refine o_add rfl rfl ?_
 refine o_mv (v := (vi (Pu.W (1 + x1.2)))) rfl ?_
 refine o_mv (v := (vi (Pu.W (1 + x2.2)))) rfl ?_
 refine c_nil ?_
 refine c_gen (P := fun tm => tm 2 = (pV b1 0) ∧ tm 3 = (pV b2 0) ∧ tm 4 = (vi (Pu.W (1 + x1.2))) ∧ tm 5 = (vi (Pu.W (1 + x2.2))) ∧ True) ⟨rfl, rfl, rfl, rfl, trivial⟩ ?_
 intro _ i3
 obtain ⟨h3, h4, h5, h6, -⟩ := i3
 refine c_sr (o_mv h4 (o_mv h5 ?_))
 obtain ⟨x3, q3, e⟩ := oB e
 obtain ⟨d3, rfl⟩ := (h2).val
 obtain ⟨Z5, V5, W3, g5, u3, c9, c10, -, c12, c11⟩ := Sat.call (l1 := [pts b2 (.rw 0 [(vS d3 x2.1.l)])]) (l2 := [pts b1 (.rw 0 [vi 0, (.slice none 0 0), (.slice none 0 0)])]) s8
 refine o_call (mc rfl (mc rfl m0)) (X.parlmake_stream_next nd.parlmake_stream_next (a0 := x2.1) c9 (h2.mono g5.z) q3) fun _ H5 i4 => ?_
 obtain ⟨w3, rfl, s9⟩ := i4
 have s10 := c11 _ _ s9
 obtain ⟨Z6, V6, g6, s11, h7⟩ := (s10.pull 1 rfl).frzR
 refine o_bld (qs := [(0, 1, (vi x3.2))]) rfl rfl ?_
 refine o_new s11 fun b3 H6 s12 => ?_
 refine o_stB (us' := [vi x3.2, (.slice none 0 0), (.slice none 0 0)]) 0 s12 rfl rfl rfl rfl rfl rfl rfl fun H7 s13 => ?_
 refine c_nil (c_sq (c_sr (o_mv h5 ?_)))
 refine o_mv (v := (vi 0)) rfl ?_
 refine c_nil ?_
 obtain ⟨x5, q6, e⟩ := oB e
 obtain ⟨rfl, q8⟩ := ranO_some q6
 obtain ⟨y1, q9, e⟩ := oB e
 refine c_bk ?_
 refine l_forP (xs := (Pu.ran (Pu.W (1 + x1.2)))) (fun (i5 : Nat) (s14 : ((List Int) × (List Int) × (List (List Int)))) tm H => tm 22 = vi i5 ∧ ∃ (Z7 V7 : PH) (w4 : Value) (w5 : Value) (w6 : Value), Gw Z6 V6 Z7 V7 ∧ Sat Z7 V7 H [pts b1 (.rw 0 [vi 0, (.slice none 0 0), (.slice none 0 0)]), pts b2 (.rw 0 [w6]), pts b3 (.rw 0 [vi x3.2, w4, w5]), It.sl Sh.int w4 s14.2.1, It.sl sI1 w5 s14.2.2] ∧ tm 2 = (pV b1 0) ∧ tm 3 = (pV b2 0) ∧ tm 4 = (vi (Pu.W (1 + x1.2))) ∧ tm 5 = (vi (Pu.W (1 + x2.2))) ∧ tm 6 = (pV b3 0) ∧ tm 21 = (vi (Pu.W (1 + x1.2))) ∧ RdS Sh.int Z7 w6 s14.1) (fun i5 x4 s14 s16 tm H9 q4 q5 j1 e1 k1 => ?_) (fun tm H8 jd => ?_) q9 ⟨rfl, _, _, _, _, _, Gw.refl _ _, (((s13.push (sl_nil (s := Sh.int))).push (sl_nil (s := sI1))).pick [4, 3, 2, 1, 0] rfl), h3, h4, h5, h6, rfl, rfl, h7⟩
 ·obtain ⟨hti0, Z7, V7, w4, w5, w6, g7, s15, h9, h10, h11, h12, h13, h14, h8⟩ := j1
  unfold P.parlmake_Dfa.b0 at e1
  have hti0 := iv hti0 (ran_x q4).symm
  refine c_sr (o_lss hti0 h14 (c_nil (c_sq ?_)))
  refine c_ift rfl (ran_lt q4) ?_
  refine c_sk (c_sq (c_bk (c_sq ?_)))
  refine d_start s15 fun n1 H10 s17 q10 d4 => ?_
  refine d_fad h13 ?_
  obtain ⟨d5, rfl⟩ := ((s17.curS (s := Sh.int) 3 rfl)).val
  obtain ⟨d6, rfl⟩ := ((s17.curS (s := sI1) 4 rfl)).val
  refine d_ldB (q10 _ _ (ph_some.2 ⟨s17.curB 2 rfl, by simp⟩)) 2 s17 rfl rfl rfl rfl ?_
  refine d_mv h10 ?_
  obtain ⟨x6, q11, e1⟩ := oB e1
  obtain ⟨d7, rfl⟩ := (h8).val
  obtain ⟨Z8, V8, W4, g8, u4, c13, c14, -, c16, c15⟩ := Sat.call (l1 := [pts b2 (.rw 0 [(vS d7 s14.1)])]) (l2 := [pts b1 (.rw 0 [vi 0, (.slice none 0 0), (.slice none 0 0)]), pts b3 (.rw 0 [vi x3.2, (vS d5 s14.2.1), (vS d6 s14.2.2)]), Is Sh.int d5 s14.2.1, Is sI1 d6 s14.2.2]) (s17.pick [1, 0, 2, 3, 4] rfl)
  refine d_call (mc rfl (mc rfl m0)) (X.parlmake_stream_next nd.parlmake_stream_next (a0 := (Ty.parlmake_stream.mk s14.1)) c13 (h8.mono g8.z) q11) fun _ H11 i6 k2 => ?_
  have d8 := d4.keep k2
  obtain ⟨w7, rfl, s18⟩ := i6
  have s19 := c15 _ _ s18
  obtain ⟨Z9, V9, g9, s20, h15⟩ := (s19.pull 1 rfl).frzR
  refine d_sub rfl rfl ?_
  refine d_bsl (s := Sh.int) (us := [(vi (Pu.W (x6.2 - 1)))]) (qs := [(0, 1, (vi (Pu.W (x6.2 - 1))))]) (xs := [(Pu.W (x6.2 - 1))]) (d8.get 5 rfl rfl) s20 Sh.flat_lt rfl rfl rfl (Els.cons (c := [(vi (Pu.W (x6.2 - 1)))]) rfl Els.nil) rfl rfl fun w8 H12 s21 k3 => ?_
  have d9 := d8.next 5 rfl k3
  obtain ⟨x7, q12, e1⟩ := oB e1
  refine d_app 4 s21 rfl Sh.flat_lt rfl rfl rfl rfl (s21.curS (s := Sh.int) 0 rfl) pR (fun h => h) (by decide) q12 fun w9 H13 s22 k4 => ?_
  have d10 := d9.keep k4
  refine d_fad h13 ?_
  obtain ⟨d11, rfl⟩ := ((s22.curS (s := Sh.int) 4 rfl)).val
  refine d_stB (us' := [vi x3.2, (vS d11 x7), (vS d6 s14.2.2)]) 3 s22 rfl rfl rfl rfl rfl rfl rfl fun H14 s23 k5 => ?_
  have d12 := d10.keep k5
  refine d_nil (dc_mk rfl (ta8 (tre (trl tr0))) (ta4 (ta2 (tre (tl2 (trl tr0))))) (ta4 (tra (tre (tl4 tr0)))) (ag_ldx (w := (vS d5 s14.2.1)) w_0 rfl (ldB_v 2 s17 rfl rfl rfl) (ldB_v 2 s17 rfl rfl rfl) (by simp [vsame, vsame1])) (ag_ldx (w := (vS d5 s14.2.1)) w_0 rfl (ldB_v 2 s17 rfl rfl rfl) (ldB_v 2 s20 rfl rfl rfl) (by simp [vsame, vsame1])) dc_nil) ?_
  refine c_sr ?_
  refine o_mv (v := (.slice none 0 0)) rfl ?_
  refine c_nil ?_
  refine c_gen (P := fun tm => tm 2 = (pV b1 0) ∧ tm 3 = (pV b2 0) ∧ tm 4 = (vi (Pu.W (1 + x1.2))) ∧ tm 5 = (vi (Pu.W (1 + x2.2))) ∧ tm 6 = (pV b3 0) ∧ tm 7 = (.slice none 0 0) ∧ tm 21 = (vi (Pu.W (1 + x1.2))) ∧ tm 22 = (vi x4) ∧ True) ⟨h9, h10, h11, h12, h13, rfl, h14, hti0, trivial⟩ ?_
  intro _ i7
  obtain ⟨h16, h17, h18, h19, h20, h21, h22, h23, -⟩ := i7
  refine c_sq (c_sr (o_mv h19 ?_))
  refine o_mv (v := (vi 0)) rfl ?_
  refine c_nil ?_
  obtain ⟨x9, q15, e1⟩ := oB e1
  obtain ⟨rfl, q17⟩ := ranO_some q15
  obtain ⟨y2, q18, e1⟩ := oB e1
  refine c_bk ?_
  refine l_forP (xs := (Pu.ran (Pu.W (1 + x2.2)))) (fun (i8 : Nat) (s24 : ((List Int) × (List Int))) tm H => tm 33 = vi i8 ∧ ∃ (Z10 V10 : PH) (w10 : Value) (w11 : Value), Gw Z9 V9 Z10 V10 ∧ Sat Z10 V10 H [pts b1 (.rw 0 [vi 0, (.slice none 0 0), (.slice none 0 0)]), pts b2 (.rw 0 [w11]), pts b3 (.rw 0 [vi x3.2, (vS d11 x7), (vS d6 s14.2.2)]), Is Sh.int d11 x7, Is sI1 d6 s14.2.2, It.sl Sh.int w10 s24.2] ∧ tm 2 = (pV b1 0) ∧ tm 3 = (pV b2 0) ∧ tm 4 = (vi (Pu.W (1 + x1.2))) ∧ tm 5 = (vi (Pu.W (1 + x2.2))) ∧ tm 6 = (pV b3 0) ∧ tm 7 = w10 ∧ tm 21 = (vi (Pu.W (1 + x1.2))) ∧ tm 22 = (vi x4) ∧ tm 32 = (vi (Pu.W (1 + x2.2))) ∧ RdS Sh.int Z10 w11 s24.1) (fun i8 x8 s24 s26 tm H16 q13 q14 j2 e2 k6 => ?_) (fun tm H15 jd => ?_) q18 ⟨rfl, _, _, _, _, Gw.refl _ _, ((s23.push (sl_nil (s := Sh.int))).pick [3, 2, 4, 5, 6, 0] rfl), h16, h17, h18, h19, h20, h21, h22, h23, rfl, h15⟩
  ·obtain ⟨hti1, Z10, V10, w10, w11, g10, s25, h25, h26, h27, h28, h29, h30, h31, h32, h33, h24⟩ := j2
   unfold P.parlmake_Dfa.b1 at e2
   have hti1 := iv hti1 (ran_x q13).symm
   refine c_sr (o_lss hti1 h33 (c_nil (c_sq ?_)))
   refine c_ift rfl (ran_lt q13) ?_
   refine c_sk (c_sq (c_bk (c_r (o_mv h30 ?_))))
   refine o_mv h26 (o_mv h27 (o_add rfl rfl ?_))
   obtain ⟨x10, q19, e2⟩ := oB e2
   obtain ⟨d13, rfl⟩ := (h24).val
   obtain ⟨Z11, V11, W5, g11, u5, c17, c18, -, c20, c19⟩ := Sat.call (l1 := [pts b2 (.rw 0 [(vS d13 s24.1)])]) (l2 := [pts b1 (.rw 0 [vi 0, (.slice none 0 0), (.slice none 0 0)]), pts b3 (.rw 0 [vi x3.2, (vS d11 x7), (vS d6 s14.2.2)]), Is Sh.int d11 x7, Is sI1 d6 s14.2.2, It.sl Sh.int w10 s24.2]) (s25.pick [1, 0, 2, 3, 4, 5] rfl)
   refine o_call (mc rfl (mc rfl m0)) (X.parlmake_stream_next nd.parlmake_stream_next (a0 := (Ty.parlmake_stream.mk s24.1)) c17 (h24.mono g11.z) q19) fun _ H17 i9 => ?_
   obtain ⟨w12, rfl, s27⟩ := i9
   have s28 := c19 _ _ s27
   obtain ⟨Z12, V12, g12, s29, h34⟩ := (s28.pull 1 rfl).frzR
   refine o_sub rfl rfl ?_
   refine o_bsl (s := Sh.int) (us := [(vi (Pu.W (x10.2 - 1)))]) (qs := [(0, 1, (vi (Pu.W (x10.2 - 1))))]) (xs := [(Pu.W (x10.2 - 1))]) s29 Sh.flat_lt rfl rfl rfl (Els.cons (c := [(vi (Pu.W (x10.2 - 1)))]) rfl Els.nil) rfl rfl fun w13 H18 s30 => ?_
   obtain ⟨x11, q20, e2⟩ := oB e2
   refine o_app 6 s30 rfl Sh.flat_lt rfl rfl rfl rfl (s30.curS (s := Sh.int) 0 rfl) pR (fun h => h) (by decide) q20 fun w14 H19 s31 => ?_
   refine o_mv (v := w14) rfl ?_
   refine c_nil (c_end (c_r (o_add hti1 rfl ?_)))
   refine o_mv (v := (vi (Pu.W (x8 + 1)))) rfl ?_
   refine c_nil ?_
   obtain rfl := oJ e2
   exact k6 _ _ ⟨(iv rfl (w_sucR q13 q17)), _, _, _, _, (g10.trans (g11.trans g12)), (s31.pick [2, 1, 3, 4, 5, 6] rfl), h25, h26, h27, h28, h29, rfl, h31, h32, h33, h34⟩
  obtain ⟨hte1, Z13, V13, w15, w16, g13, s32, h36, h37, h38, h39, h40, h41, h42, h43, h44, h35⟩ := jd
  refine c_sr (o_lss hte1 h44 (c_nil (c_sq ?_)))
  refine c_iff rfl (ran_done _) ?_
  refine c_ex ?_
  refine e_c ?_
  refine e_c ?_
  refine e_h ?_
  refine c_r (o_fad h40 (o_ldB 2 s32 rfl rfl rfl rfl (o_mv h41 ?_)))
  have s33 := s32.pull 5 rfl
  refine o_bslH s33 rfl fun w17 H21 s34 => ?_
  obtain ⟨x12, q21, e1⟩ := oB e1
  refine o_appH 4 s34 rfl rfl rfl (by decide) q21 (List.cons_ne_nil _ _) fun w18 H22 s35 => ?_
  refine o_fad h40 ?_
  obtain ⟨d14, rfl⟩ := ((s35.curS (s := sI1) 4 rfl)).val
  refine o_stB (us' := [vi x3.2, (vS d11 x7), (vS d14 x12)]) 2 s35 rfl rfl rfl rfl rfl rfl rfl fun H23 s36 => ?_
  refine c_nil (c_end (c_r (o_add h43 rfl ?_)))
  refine o_mv (v := (vi (Pu.W (x4 + 1)))) rfl ?_
  refine c_nil ?_
  obtain rfl := oJ e1
  exact k1 _ _ ⟨(iv rfl (w_sucR q4 q8)), _, _, _, _, _, (g7.trans (g8.trans (g9.trans g13))), s36, h36, h37, h38, h39, h40, h42, h35⟩
 obtain ⟨hte0, Z14, V14, w19, w20, w21, g14, s37, h46, h47, h48, h49, h50, h51, h45⟩ := jd
 refine c_sr (o_lss hte0 h51 (c_nil (c_sq ?_)))
 refine c_iff rfl (ran_done _) ?_
 refine c_ex ?_
 refine e_c ?_
 refine e_c ?_
 refine e_h ?_
 refine c_sr ?_
 obtain ⟨d15, rfl⟩ := ((s37.curS (s := Sh.int) 3 rfl)).val
 obtain ⟨d16, rfl⟩ := ((s37.curS (s := sI1) 4 rfl)).val
 refine o_ldB 2 s37 rfl h50 rfl rfl ?_
 refine o_stB (us' := [vi x3.2, (vS d15 y1.2.1), (vS d16 y1.2.2)]) 0 s37 rfl h46 rfl rfl rfl rfl rfl fun H25 s38 => ?_
 refine c_nil (c_rt ?_)
 obtain rfl := oJ e
 exact ⟨.inr rfl, _, (arB 0 s38 rfl h46 rfl rfl), _, _, rfl, ((s38.pick [3, 4] rfl).weak (g1.trans (g2.trans (g3.trans (g4.trans (g5.trans (g6.trans g14)))))) hs.zv)⟩
/-! guess_Rules -/
structure Nd.guess_Rules (T : FuncId → Option AFunc) : Prop where
  own : Has T I.guess_Rules F.guess_Rules
set_option maxHeartbeats 1000000 in
theorem X.guess_Rules {T : FuncId → Option AFunc} (nd : Nd.guess_Rules T) {Z V : PH} {H : Hp} {a0 : Int} {a1 : Int} (hs : Sat Z V H []) {r : ((List Ty.api_Rule) × Int)} (e : P.guess_Rules a0 a1 = some r) :
    G T I.guess_Rules [vi a0, vi a1] H (fun rv H' => ∃ (u1 : Value), rv = (.tuple #[u1, vi r.2]) ∧ Sat Z V H' [It.sl (Sh.ro Sh.api_Rule) u1 r.1]) := by
 unfold P.guess_Rules at e
 refine f_mk nd.own ?_
 refine c_sr ?_
 refine o_mv (v := (.slice none 0 0)) rfl ?_
 refine o_mv (v := (vi 0)) rfl ?_
 refine c_nil (c_sq (c_sr ?_))
 refine o_mv (v := (vi a0)) rfl ?_
 refine o_lss rfl rfl ?_
 refine o_mv (v := (.bool (decide (a0 < 1)))) rfl ?_
 refine o_jn 3 (I := fun tm H => tm 22 = .bool ((decide (a0 < 1)) || (decide (2 < a0))) ∧ (∃ (Z1 V1 : PH), Gw Z V Z1 V1 ∧ Sat Z1 V1 H [] ∧ tm 0 = (vi a0) ∧ tm 1 = (vi a1))) (fun k1 => ?_) ?_
 ·rcases Bool.eq_false_or_eq_true (decide (a0 < 1)) with q1 | q1
  ·refine o_gn rfl q1 (o_gn rfl q1 ?_)
   refine o_pickt (a := (.bool true)) rfl q1 rfl ?_
   exact k1 _ _ ⟨gf rfl (by first | (rw [q1]; first | done | rfl) | simp [q1]), _, _, Gw.refl _ _, hs, rfl, rfl⟩
  refine o_gy rfl q1 ?_
  refine o_mv (v := (vi a0)) rfl ?_
  refine o_gy rfl q1 (o_gtr rfl rfl ?_)
  refine o_pickf (b := (.bool (decide (2 < a0)))) rfl q1 rfl ?_
  exact k1 _ _ ⟨gf rfl (by first | (rw [q1]; first | done | rfl) | simp [q1]), _, _, Gw.refl _ _, hs, rfl, rfl⟩
 intro _ H1 i1
 obtain ⟨h3, Z1, V1, g1, s1, h1, h2⟩ := i1
 refine o_mv h3 ?_
 refine o_jn 3 (I := fun tm H => tm 26 = .bool (((decide (a0 < 1)) || (decide (2 < a0))) || (decide (a1 < 1))) ∧ (∃ (Z2 V2 : PH), Gw Z1 V1 Z2 V2 ∧ Sat Z2 V2 H [] ∧ tm 0 = (vi a0) ∧ tm 1 = (vi a1))) (fun k2 => ?_) ?_
 ·rcases Bool.eq_false_or_eq_true ((decide (a0 < 1)) || (decide (2 < a0))) with q2 | q2
  ·refine o_gn rfl q2 (o_gn rfl q2 ?_)
   refine o_pickt (a := (.bool true)) rfl q2 rfl ?_
   exact k2 _ _ ⟨gf rfl (by first | (rw [q2]; first | done | rfl) | simp [q2]), _, _, Gw.refl _ _, s1, h1, h2⟩
  refine o_gy rfl q2 (o_mv h2 (o_gy rfl q2 (o_lss rfl rfl ?_)))
  refine o_pickf (b := (.bool (decide (a1 < 1)))) rfl q2 rfl ?_
  exact k2 _ _ ⟨gf rfl (by first | (rw [q2]; first | done | rfl) | simp [q2]), _, _, Gw.refl _ _, s1, h1, h2⟩
 intro _ H2 i2
 obtain ⟨h6, Z2, V2, g2, s2, h4, h5⟩ := i2
 refine o_mv h6 ?_
 refine o_jn 3 (I := fun tm H => tm 30 = .bool ((((decide (a0 < 1)) || (decide (2 < a0))) || (decide (a1 < 1))) || (decide (2 < a1))) ∧ (∃ (Z3 V3 : PH), Gw Z2 V2 Z3 V3 ∧ Sat Z3 V3 H [] ∧ tm 0 = (vi a0) ∧ tm 1 = (vi a1))) (fun k3 => ?_) ?_
 ·rcases Bool.eq_false_or_eq_true (((decide (a0 < 1)) || (decide (2 < a0))) || (decide (a1 < 1))) with q3 | q3
  ·refine o_gn rfl q3 (o_gn rfl q3 ?_)
   refine o_pickt (a := (.bool true)) rfl q3 rfl ?_
   exact k3 _ _ ⟨gf rfl (by first | (rw [q3]; first | done | rfl) | simp [q3]), _, _, Gw.refl _ _, s2, h4, h5⟩
  refine o_gy rfl q3 (o_mv h5 (o_gy rfl q3 (o_gtr rfl rfl ?_)))
  refine o_pickf (b := (.bool (decide (2 < a1)))) rfl q3 rfl ?_
  exact k3 _ _ ⟨gf rfl (by first | (rw [q3]; first | done | rfl) | simp [q3]), _, _, Gw.refl _ _, s2, h4, h5⟩
 intro _ H3 i3
 obtain ⟨h9, Z3, V3, g3, s3, h7, h8⟩ := i3
 refine c_nil ?_
 refine c_if h9 (fun q4 => ?_) (fun q4 => ?_)
 ·replace e := if_t q4 e
  refine c_sr ?_
  refine o_mv (v := (.slice none 0 0)) rfl ?_
  refine o_mv (v := (vi 1)) rfl ?_
  refine c_nil (c_rt ?_)
  obtain rfl := oJ e
  exact ⟨.inr rfl, _, (ar2 rfl rfl), _, rfl, ((s3.push (sl_nil (s := (Sh.ro Sh.api_Rule)))).weak (g1.trans (g2.trans g3)) hs.zv)⟩
 replace e := ib_f q4 e
 refine c_sk (c_sr ?_)
 refine o_mv (v := (.slice none 0 0)) rfl ?_
 refine c_nil (c_sq (c_sr (o_mv h7 ?_)))
 refine o_mv (v := (vi 0)) rfl ?_
 refine c_nil ?_
 obtain ⟨x2, q7, e⟩ := oB e
 obtain ⟨rfl, q9⟩ := ranO_some q7
 obtain ⟨y1, q10, e⟩ := oB e
 refine c_bk ?_
 refine l_forP (xs := (Pu.ran a0)) (fun (i4 : Nat) (s4 : (List Ty.api_Sym)) tm H => tm 32 = vi i4 ∧ ∃ (Z4 V4 : PH) (w1 : Value), Gw Z3 V3 Z4 V4 ∧ Sat Z4 V4 H [It.sl (Sh.ro Sh.api_Sym) w1 s4] ∧ tm 1 = (vi a1) ∧ tm 6 = w1 ∧ tm 31 = (vi a0)) (fun i4 x1 s4 s6 tm H5 q5 q6 j1 e1 k4 => ?_) (fun tm H4 jd => ?_) q10 ⟨rfl, _, _, _, Gw.refl _ _, (s3.push (sl_nil (s := (Sh.ro Sh.api_Sym)))), h8, rfl, rfl⟩
 ·obtain ⟨hti0, Z4, V4, w1, g4, s5, h10, h11, h12⟩ := j1
  unfold P.guess_Rules.b0 at e1
  have hti0 := iv hti0 (ran_x q5).symm
  refine c_sr (o_lss hti0 h12 (c_nil (c_sq ?_)))
  refine c_ift rfl (ran_lt q5) ?_
  refine c_sk (c_sq (c_bk (c_sr (o_mv hti0 ?_))))
  refine o_mv (v := (vi x1)) rfl ?_
  refine c_nil (c_r (o_mv h11 ?_))
  refine o_mv (v := (vi x1)) rfl ?_
  refine o_bld (qs := [(0, 1, (.bool true)), (1, 1, (vi x1))]) rfl rfl ?_
  refine o_bsl (s := (Sh.ro Sh.api_Sym)) (us := [(.bool true), vi x1]) (qs := [(0, 2, (.agg #[(.bool true), vi x1]))]) (xs := [(Ty.api_Sym.mk true x1)]) s5 (Sh.ro_lt _) rfl rfl rfl (Els.cons (c := [(.bool true), vi x1]) rfl Els.nil) rfl rfl fun w2 H6 s7 => ?_
  obtain ⟨Z5, V5, g5, s8, h13⟩ := s7.frzS 0 rfl
  replace h13 := h13.of_ro
  obtain ⟨x3, q11, e1⟩ := oB e1
  refine o_app 0 s8 rfl (Sh.ro_lt _) rfl rfl rfl rfl h13 s8.z (fun h => h) (by decide) q11 fun w3 H7 s9 => ?_
  refine o_mv (v := w3) rfl ?_
  refine c_nil (c_end (c_r (o_add hti0 rfl ?_)))
  refine o_mv (v := (vi (Pu.W (x1 + 1)))) rfl ?_
  refine c_nil ?_
  obtain rfl := oJ e1
  exact k4 _ _ ⟨(iv rfl (w_sucR q5 q9)), _, _, _, (g4.trans g5), s9, h10, rfl, h12⟩
 obtain ⟨hte0, Z6, V6, w4, g6, s10, h14, h15, h16⟩ := jd
 refine c_sr (o_lss hte0 h16 (c_nil (c_sq ?_)))
 refine c_iff rfl (ran_done _) ?_
 refine c_ex ?_
 refine e_c ?_
 refine e_c ?_
 refine e_h ?_
 refine c_sq (c_sr (o_mv h14 ?_))
 refine o_mv (v := (vi 0)) rfl ?_
 refine c_nil ?_
 obtain ⟨x5, q14, e⟩ := oB e
 obtain ⟨rfl, q16⟩ := ranO_some q14
 obtain ⟨y2, q17, e⟩ := oB e
 refine c_bk ?_
 refine l_forP (xs := (Pu.ran a1)) (fun (i5 : Nat) (s11 : (List Ty.api_Sym)) tm H => tm 42 = vi i5 ∧ ∃ (Z7 V7 : PH) (w5 : Value), Gw Z6 V6 Z7 V7 ∧ Sat Z7 V7 H [It.sl (Sh.ro Sh.api_Sym) w5 s11] ∧ tm 1 = (vi a1) ∧ tm 6 = w5 ∧ tm 41 = (vi a1)) (fun i5 x4 s11 s13 tm H10 q12 q13 j2 e2 k5 => ?_) (fun tm H9 jd => ?_) q17 ⟨rfl, _, _, _, Gw.refl _ _, s10, h14, h15, rfl⟩
 ·obtain ⟨hti1, Z7, V7, w5, g7, s12, h17, h18, h19⟩ := j2
  unfold P.guess_Rules.b1 at e2
  have hti1 := iv hti1 (ran_x q12).symm
  refine c_sr (o_lss hti1 h19 (c_nil (c_sq ?_)))
  refine c_ift rfl (ran_lt q12) ?_
  refine c_sk (c_sq (c_bk (c_sr (o_mv hti1 ?_))))
  refine o_mv (v := (vi x4)) rfl ?_
  refine c_nil (c_r (o_mv h18 ?_))
  refine o_mv (v := (vi x4)) rfl ?_
  refine o_bld (qs := [(1, 1, (vi x4))]) rfl rfl ?_
  refine o_bsl (s := (Sh.ro Sh.api_Sym)) (us := [(.bool false), vi x4]) (qs := [(0, 2, (.agg #[(.bool false), vi x4]))]) (xs := [(Ty.api_Sym.mk false x4)]) s12 (Sh.ro_lt _) rfl rfl rfl (Els.cons (c := [(.bool false), vi x4]) rfl Els.nil) rfl rfl fun w6 H11 s14 => ?_
  obtain ⟨Z8, V8, g8, s15, h20⟩ := s14.frzS 0 rfl
  replace h20 := h20.of_ro
  obtain ⟨x6, q18, e2⟩ := oB e2
  refine o_app 0 s15 rfl (Sh.ro_lt _) rfl rfl rfl rfl h20 s15.z (fun h => h) (by decide) q18 fun w7 H12 s16 => ?_
  refine o_mv (v := w7) rfl ?_
  refine c_nil (c_end (c_r (o_add hti1 rfl ?_)))
  refine o_mv (v := (vi (Pu.W (x4 + 1)))) rfl ?_
  refine c_nil ?_
  obtain rfl := oJ e2
  exact k5 _ _ ⟨(iv rfl (w_sucR q12 q16)), _, _, _, (g7.trans g8), s16, h17, rfl, h19⟩
 obtain ⟨hte1, Z9, V9, w8, g9, s17, h21, h22, h23⟩ := jd
 refine c_sr (o_lss hte1 h23 (c_nil (c_sq ?_)))
 refine c_iff rfl (ran_done _) ?_
 refine c_ex ?_
 refine e_c ?_
 refine e_c ?_
 refine e_h ?_
 refine c_sr ?_
 refine o_mv (v := (.slice none 0 0)) rfl ?_
 refine c_nil (c_sq (c_sr (o_mv h21 ?_)))
 refine o_mv (v := (vi 0)) rfl ?_
 refine c_nil ?_
 obtain ⟨x8, q21, e⟩ := oB e
 obtain ⟨rfl, q23⟩ := ranO_some q21
 obtain ⟨y3, q24, e⟩ := oB e
 refine c_bk ?_
 refine l_forP (xs := (Pu.ran a1)) (fun (i6 : Nat) (s18 : (List Ty.api_Rule)) tm H => tm 52 = vi i6 ∧ ∃ (Z10 V10 : PH) (w9 : Value), Gw Z9 V9 Z10 V10 ∧ Sat Z10 V10 H [It.sl (Sh.ro Sh.api_Sym) w8 y2, It.sl (Sh.ro Sh.api_Rule) w9 s18] ∧ tm 6 = w8 ∧ tm 9 = w9 ∧ tm 51 = (vi a1)) (fun i6 x7 s18 s20 tm H15 q19 q20 j3 e3 k6 => ?_) (fun tm H14 jd => ?_) q24 ⟨rfl, _, _, _, Gw.refl _ _, ((s17.push (sl_nil (s := (Sh.ro Sh.api_Rule)))).pick [1, 0] rfl), h22, rfl, rfl⟩
 ·obtain ⟨hti2, Z10, V10, w9, g10, s19, h24, h25, h26⟩ := j3
  unfold P.guess_Rules.b2 at e3
  have hti2 := iv hti2 (ran_x q19).symm
  refine c_sr (o_lss hti2 h26 (c_nil (c_sq ?_)))
  refine c_ift rfl (ran_lt q19) ?_
  refine c_sk (c_sq (c_bk (c_sr (o_mv hti2 ?_))))
  refine o_mv (v := (vi x7)) rfl ?_
  refine c_nil (c_sr (o_mv h25 ?_))
  refine o_mv (v := (vi x7)) rfl ?_
  refine o_bld (qs := [(0, 1, (vi x7))]) rfl rfl ?_
  refine o_bsl (s := (Sh.ro Sh.api_Rule)) (us := [vi x7, (.slice none 0 0)]) (qs := [(0, 2, (.agg #[vi x7, (.slice none 0 0)]))]) (xs := [(Ty.api_Rule.mk x7 [])]) s19 (Sh.ro_lt _) rfl rfl rfl (Els.cons (c := [vi x7, (.slice none 0 0)]) (Sh.api_Rule_cl (x := (Ty.api_Rule.mk x7 [])) RdS.nil) Els.nil) rfl rfl fun w10 H16 s21 => ?_
  obtain ⟨Z11, V11, g11, s22, h27⟩ := s21.frzS 0 rfl
  replace h27 := h27.of_ro
  obtain ⟨x9, q25, e3⟩ := oB e3
  refine o_app 1 s22 rfl (Sh.ro_lt _) rfl rfl rfl rfl h27 s22.z (fun h => h) (by decide) q25 fun w11 H17 s23 => ?_
  refine o_mv (v := w11) rfl ?_
  refine c_nil (c_sq (c_sr (o_mv h24 ?_)))
  refine o_len rfl ((s23.curS (s := (Sh.ro Sh.api_Sym)) 0 rfl)).len ?_
  refine o_mv (v := (vi 0)) rfl ?_
  refine c_nil ?_
  refine c_gen (P := fun tm => tm 6 = w8 ∧ tm 9 = w11 ∧ tm 10 = (vi x7) ∧ tm 51 = (vi a1) ∧ tm 52 = (vi x7) ∧ tm 60 = w8 ∧ tm 61 = (vN y2) ∧ tm 62 = (vi 0) ∧ True) ⟨h24, rfl, rfl, h26, hti2, rfl, rfl, rfl, trivial⟩ ?_
  intro _ i7
  obtain ⟨h28, h29, h30, h31, h32, h33, h34, h35, -⟩ := i7
  obtain ⟨y4, q28, e3⟩ := oB e3
  refine c_bk ?_
  refine l_forP (xs := y2) (fun (i8 : Nat) (s24 : (List Ty.api_Rule)) tm H => tm 62 = vi i8 ∧ ∃ (Z12 V12 : PH) (w12 : Value), Gw Z11 V11 Z12 V12 ∧ Sat Z12 V12 H [It.sl (Sh.ro Sh.api_Sym) w8 y2, It.sl (Sh.ro Sh.api_Rule) w12 s24] ∧ tm 6 = w8 ∧ tm 9 = w12 ∧ tm 10 = (vi x7) ∧ tm 51 = (vi a1) ∧ tm 52 = (vi x7) ∧ tm 60 = w8 ∧ tm 61 = (vN y2)) (fun i8 x10 s24 s26 tm H19 q26 q27 j4 e4 k7 => ?_) (fun tm H18 jd => ?_) q28 ⟨h35, _, _, _, Gw.refl _ _, s23, h28, h29, h30, h31, h32, h33, h34⟩
  ·obtain ⟨hti3, Z12, V12, w12, g12, s25, h36, h37, h38, h39, h40, h41, h42⟩ := j4
   unfold P.guess_Rules.b3 at e4
   refine c_sr (o_lss hti3 h42 (c_nil (c_sq ?_)))
   refine c_ift rfl (Int.ofNat_lt.2 q27) ?_
   refine c_sk (c_sq (c_bk (c_sr ?_)))
   refine o_idx (v := w8) h41 hti3 (s25.curS (s := (Sh.ro Sh.api_Sym)) 0 rfl) rfl (Pu.ix_nat.trans q26) fun p1 q29 => ?_
   refine o_ldoa (p := p1) 0 s25 rfl rfl rfl q29 (Pu.ix_nat.trans q26) fun Z13 V13 c1 g13 s27 h43 => ?_
   obtain rfl := h43
   refine o_new s27 fun b1 H20 s28 => ?_
   refine o_stB (us' := [(.bool x10.Term), vi x10.N]) 0 s28 rfl rfl rfl rfl rfl rfl rfl fun H21 s29 => ?_
   refine c_nil (c_r (o_mv h37 (o_mv h38 (o_ldB 0 s29 rfl rfl rfl rfl ?_))))
   refine o_bsl (s := (Sh.ro Sh.api_Sym)) (us := [(.bool x10.Term), vi x10.N]) (qs := [(0, 2, (.agg #[(.bool x10.Term), vi x10.N]))]) (xs := [x10]) s29 (Sh.ro_lt _) rfl rfl rfl (Els.cons (c := [(.bool x10.Term), vi x10.N]) rfl Els.nil) rfl rfl fun w13 H22 s30 => ?_
   obtain ⟨d1, rfl⟩ := ((s30.curS (s := (Sh.ro Sh.api_Sym)) 0 rfl)).val
   refine o_bld (qs := [(0, 1, (vi x7)), (1, 1, (.slice d1 [x10].length [x10].length))]) rfl rfl ?_
   obtain ⟨Z14, V14, g14, s31, h44⟩ := s30.frzS 0 rfl
   replace h44 := h44.of_ro
   refine o_bsl (s := (Sh.ro Sh.api_Rule)) (us := [vi x7, (.slice d1 [x10].length [x10].length)]) (qs := [(0, 2, (.agg #[vi x7, (.slice d1 [x10].length [x10].length)]))]) (xs := [(Ty.api_Rule.mk x7 [x10])]) s31 (Sh.ro_lt _) rfl rfl rfl (Els.cons (c := [vi x7, (.slice d1 [x10].length [x10].length)]) (Sh.api_Rule_cl (x := (Ty.api_Rule.mk x7 [x10])) h44) Els.nil) rfl rfl fun w14 H23 s32 => ?_
   obtain ⟨Z15, V15, g15, s33, h45⟩ := s32.frzS 0 rfl
   replace h45 := h45.of_ro
   obtain ⟨x11, q30, e4⟩ := oB e4
   refine o_app 2 s33 rfl (Sh.ro_lt _) rfl rfl rfl rfl h45 s33.z (fun h => h) (by decide) q30 fun w15 H24 s34 => ?_
   refine o_mv (v := w15) rfl ?_
   refine c_nil (c_end (c_r (o_add hti3 rfl ?_)))
   refine o_mv (v := (vi (Pu.W ((i8 : Int) + 1)))) rfl ?_
   refine c_nil ?_
   obtain rfl := oJ e4
   exact k7 _ _ ⟨(iv rfl (w_suc q27 ((s23.curS (s := (Sh.ro Sh.api_Sym)) 0 rfl)).bd)), _, _, _, (g12.trans (g13.trans (g14.trans g15))), (s34.pick [1, 2] rfl), h36, rfl, h38, h39, h40, h41, h42⟩
  obtain ⟨hte3, Z16, V16, w16, g16, s35, h46, h47, h48, h49, h50, h51, h52⟩ := jd
  refine c_sr (o_lss hte3 h52 (c_nil (c_sq ?_)))
  refine c_iff rfl (Int.lt_irrefl _) ?_
  refine c_ex ?_
  refine e_c ?_
  refine e_c ?_
  refine e_h ?_
  refine c_sr (o_mv h46 ?_)
  refine o_len rfl ((s35.curS (s := (Sh.ro Sh.api_Sym)) 0 rfl)).len ?_
  refine o_mv (v := (vi 0)) rfl ?_
  refine c_nil ?_
  obtain ⟨y5, q33, e3⟩ := oB e3
  refine c_bk ?_
  refine l_forP (xs := y2) (fun (i9 : Nat) (s36 : (List Ty.api_Rule)) tm H => tm 76 = vi i9 ∧ ∃ (Z17 V17 : PH) (w17 : Value), Gw Z16 V16 Z17 V17 ∧ Sat Z17 V17 H [It.sl (Sh.ro Sh.api_Sym) w8 y2, It.sl (Sh.ro Sh.api_Rule) w17 s36] ∧ tm 6 = w8 ∧ tm 9 = w17 ∧ tm 10 = (vi x7) ∧ tm 51 = (vi a1) ∧ tm 52 = (vi x7) ∧ tm 74 = w8 ∧ tm 75 = (vN y2)) (fun i9 x12 s36 s38 tm H27 q31 q32 j5 e5 k8 => ?_) (fun tm H26 jd => ?_) q33 ⟨rfl, _, _, _, Gw.refl _ _, s35, h46, h47, h48, h49, h50, rfl, rfl⟩
  ·obtain ⟨hti4, Z17, V17, w17, g17, s37, h53, h54, h55, h56, h57, h58, h59⟩ := j5
   unfold P.guess_Rules.b4 at e5
   refine c_sr (o_lss hti4 h59 (c_nil (c_sq ?_)))
   refine c_ift rfl (Int.ofNat_lt.2 q32) ?_
   refine c_sk (c_sq (c_bk (c_sr ?_)))
   refine o_idx (v := w8) h58 hti4 (s37.curS (s := (Sh.ro Sh.api_Sym)) 0 rfl) rfl (Pu.ix_nat.trans q31) fun p2 q34 => ?_
   refine o_ldoa (p := p2) 0 s37 rfl rfl rfl q34 (Pu.ix_nat.trans q31) fun Z18 V18 c2 g18 s39 h60 => ?_
   obtain rfl := h60
   refine o_new s39 fun b2 H28 s40 => ?_
   refine o_stB (us' := [(.bool x12.Term), vi x12.N]) 0 s40 rfl rfl rfl rfl rfl rfl rfl fun H29 s41 => ?_
   refine c_nil (c_sr (o_mv h53 ?_))
   refine o_len rfl ((s41.curS (s := (Sh.ro Sh.api_Sym)) 1 rfl)).len ?_
   refine o_mv (v := (vi 0)) rfl ?_
   refine c_nil ?_
   obtain ⟨y6, q37, e5⟩ := oB e5
   refine c_bk ?_
   refine l_forP (xs := y2) (fun (i10 : Nat) (s42 : (List Ty.api_Rule)) tm H => tm 82 = vi i10 ∧ ∃ (Z19 V19 : PH) (w18 : Value), Gw Z18 V18 Z19 V19 ∧ Sat Z19 V19 H [It.sl (Sh.ro Sh.api_Sym) w8 y2, It.sl (Sh.ro Sh.api_Rule) w18 s42, pts b2 (.rw 0 [(.bool x12.Term), vi x12.N])] ∧ tm 6 = w8 ∧ tm 9 = w18 ∧ tm 10 = (vi x7) ∧ tm 14 = (pV b2 0) ∧ tm 51 = (vi a1) ∧ tm 52 = (vi x7) ∧ tm 74 = w8 ∧ tm 75 = (vN y2) ∧ tm 76 = (vJ i9) ∧ tm 80 = w8 ∧ tm 81 = (vN y2)) (fun i10 x13 s42 s44 tm H31 q35 q36 j6 e6 k9 => ?_) (fun tm H30 jd => ?_) q37 ⟨rfl, _, _, _, Gw.refl _ _, (s41.pick [1, 2, 0] rfl), h53, h54, h55, rfl, h56, h57, h58, h59, hti4, rfl, rfl⟩
   ·obtain ⟨hti5, Z19, V19, w18, g19, s43, h61, h62, h63, h64, h65, h66, h67, h68, h69, h70, h71⟩ := j6
    unfold P.guess_Rules.b5 at e6
    refine c_sr (o_lss hti5 h71 (c_nil (c_sq ?_)))
    refine c_ift rfl (Int.ofNat_lt.2 q36) ?_
    refine c_sk (c_sq (c_bk (c_sr ?_)))
    refine o_idx (v := w8) h70 hti5 (s43.curS (s := (Sh.ro Sh.api_Sym)) 0 rfl) rfl (Pu.ix_nat.trans q35) fun p3 q38 => ?_
    refine o_ldoa (p := p3) 0 s43 rfl rfl rfl q38 (Pu.ix_nat.trans q35) fun Z20 V20 c3 g20 s45 h72 => ?_
    obtain rfl := h72
    refine o_new s45 fun b3 H32 s46 => ?_
    refine o_stB (us' := [(.bool x13.Term), vi x13.N]) 0 s46 rfl rfl rfl rfl rfl rfl rfl fun H33 s47 => ?_
    refine c_nil (c_r (o_mv h62 (o_mv h63 (o_ldB 3 s47 rfl h64 rfl rfl ?_))))
    refine o_ldB 0 s47 rfl rfl rfl rfl ?_
    refine o_bsl (s := (Sh.ro Sh.api_Sym)) (us := [(.bool x12.Term), vi x12.N, (.bool x13.Term), vi x13.N]) (qs := [(0, 2, (.agg #[(.bool x12.Term), vi x12.N])), (2, 2, (.agg #[(.bool x13.Term), vi x13.N]))]) (xs := [x12, x13]) s47 (Sh.ro_lt _) rfl rfl rfl (Els.cons (c := [(.bool x12.Term), vi x12.N]) rfl (Els.cons (c := [(.bool x13.Term), vi x13.N]) rfl Els.nil)) rfl rfl fun w19 H34 s48 => ?_
    obtain ⟨d2, rfl⟩ := ((s48.curS (s := (Sh.ro Sh.api_Sym)) 0 rfl)).val
    refine o_bld (qs := [(0, 1, (vi x7)), (1, 1, (.slice d2 [x12, x13].length [x12, x13].length))]) rfl rfl ?_
    obtain ⟨Z21, V21, g21, s49, h73⟩ := s48.frzS 0 rfl
    replace h73 := h73.of_ro
    refine o_bsl (s := (Sh.ro Sh.api_Rule)) (us := [vi x7, (.slice d2 [x12, x13].length [x12, x13].length)]) (qs := [(0, 2, (.agg #[vi x7, (.slice d2 [x12, x13].length [x12, x13].length)]))]) (xs := [(Ty.api_Rule.mk x7 [x12, x13])]) s49 (Sh.ro_lt _) rfl rfl rfl (Els.cons (c := [vi x7, (.slice d2 [x12, x13].length [x12, x13].length)]) (Sh.api_Rule_cl (x := (Ty.api_Rule.mk x7 [x12, x13])) h73) Els.nil) rfl rfl fun w20 H35 s50 => ?_
    obtain ⟨Z22, V22, g22, s51, h74⟩ := s50.frzS 0 rfl
    replace h74 := h74.of_ro
    obtain ⟨x14, q39, e6⟩ := oB e6
    refine o_app 2 s51 rfl (Sh.ro_lt _) rfl rfl rfl rfl h74 s51.z (fun h => h) (by decide) q39 fun w21 H36 s52 => ?_
    refine o_mv (v := w21) rfl ?_
    refine c_nil (c_end (c_r (o_add hti5 rfl ?_)))
    refine o_mv (v := (vi (Pu.W ((i10 : Int) + 1)))) rfl ?_
    refine c_nil ?_
    obtain rfl := oJ e6
    exact k9 _ _ ⟨(iv rfl (w_suc q36 ((s41.curS (s := (Sh.ro Sh.api_Sym)) 1 rfl)).bd)), _, _, _, (g19.trans (g20.trans (g21.trans g22))), (s52.pick [1, 2, 3] rfl), h61, rfl, h63, h64, h65, h66, h67, h68, h69, h70, h71⟩
   obtain ⟨hte5, Z23, V23, w22, g23, s53, h75, h76, h77, h78, h79, h80, h81, h82, h83, h84, h85⟩ := jd
   refine c_sr (o_lss hte5 h85 (c_nil (c_sq ?_)))
   refine c_iff rfl (Int.lt_irrefl _) ?_
   refine c_ex ?_
   refine e_c ?_
   refine e_c ?_
   refine e_h ?_
   refine c_end (c_r (o_add h83 rfl ?_))
   refine o_mv (v := (vi (Pu.W ((i9 : Int) + 1)))) rfl ?_
   refine c_nil ?_
   obtain rfl := oJ e5
   exact k8 _ _ ⟨(iv rfl (w_suc q32 ((s35.curS (s := (Sh.ro Sh.api_Sym)) 0 rfl)).bd)), _, _, _, (g17.trans (g18.trans g23)), (s53.pick [0, 1] rfl), h75, h76, h77, h79, h80, h81, h82⟩
  obtain ⟨hte4, Z24, V24, w23, g24, s54, h86, h87, h88, h89, h90, h91, h92⟩ := jd
  refine c_sr (o_lss hte4 h92 (c_nil (c_sq ?_)))
  refine c_iff rfl (Int.lt_irrefl _) ?_
  refine c_ex ?_
  refine e_c ?_
  refine e_c ?_
  refine e_h ?_
  refine c_end (c_r (o_add h90 rfl ?_))
  refine o_mv (v := (vi (Pu.W (x7 + 1)))) rfl ?_
  refine c_nil ?_
  obtain rfl := oJ e3
  exact k6 _ _ ⟨(iv rfl (w_sucR q19 q23)), _, _, _, (g10.trans (g11.trans (g16.trans g24))), s54, h86, h87, h89⟩
 obtain ⟨hte2, Z25, V25, w24, g25, s55, h93, h94, h95⟩ := jd
 refine c_sr (o_lss hte2 h95 (c_nil (c_sq ?_)))
 refine c_iff rfl (ran_done _) ?_
 refine c_ex ?_
 refine e_c ?_
 refine e_c ?_
 refine e_h ?_
 refine c_sr (o_mv h94 ?_)
 refine o_mv (v := w24) rfl ?_
 refine o_mv (v := (vi 0)) rfl ?_
 refine c_nil (c_rt ?_)
 obtain rfl := oJ e
 exact ⟨.inr rfl, _, (ar2 rfl rfl), _, rfl, ((s55.pick [1] rfl).weak (g1.trans (g2.trans (g3.trans (g6.trans (g9.trans g25))))) hs.zv)⟩
/-! slices_Grow_int_int__nil -/
structure Nd.slices_Grow_int_int__nil (T : FuncId → Option AFunc) : Prop where
  own : Has T I.slices_Grow_int_int F.slices_Grow_int_int
set_option maxHeartbeats 1000000 in
theorem X.slices_Grow_int_int__nil {T : FuncId → Option AFunc} (nd : Nd.slices_Grow_int_int__nil T) {Z V : PH} {H : Hp} {a1 : Int} (hs : Sat Z V H []) {r : (List (List Int))} (e : P.slices_Grow_int_int__nil a1 = some r) :
    G T I.slices_Grow_int_int [(.slice none 0 0), vi a1] H (fun rv H' => ∃ (u1 : Value), rv = u1 ∧ Sat Z V H' [It.sl (Sh.ro sI1) u1 r]) := by
 unfold P.slices_Grow_int_int__nil at e
 refine f_mk nd.own ?_
 refine c_sr ?_
 refine o_mv (v := (.slice none 0 0)) rfl ?_
 refine c_nil (c_sq (c_sr ?_))
 refine o_mv (v := (vi a1)) rfl ?_
 refine o_lss rfl rfl (c_nil ?_)
 refine c_ifd rfl (fun q1 => ?_) (fun q1 => ?_)
 ·replace e := if_t q1 e
  refine c_r ?_
  cases e
 replace e := if_f q1 e
 refine c_sk (c_sq (c_sr ?_))
 refine o_mv (v := (vi a1)) rfl ?_
 refine o_mv (v := (.slice none 0 0)) rfl ?_
 refine o_capn rfl ?_
 refine o_mv (v := (.slice none 0 0)) rfl ?_
 refine o_len rfl rfl (o_sub rfl rfl (o_sub rfl rfl ?_))
 refine o_mv (v := (vi (Pu.W (a1 - (Pu.W (0 - 0)))))) rfl ?_
 refine c_nil ?_
 refine c_gen (P := fun tm => tm 0 = (.slice none 0 0) ∧ tm 1 = (vi (Pu.W (a1 - (Pu.W (0 - 0))))) ∧ True) ⟨rfl, rfl, trivial⟩ ?_
 intro _ i1
 obtain ⟨h1, h2, -⟩ := i1
 refine c_sr (o_mv h2 (o_gtr rfl rfl (c_nil ?_)))
 obtain ⟨y1, e1, e⟩ := oB e
 refine c_jn (I := fun tm H => ∃ (Z1 V1 : PH) (w1 : Value), Gw Z V Z1 V1 ∧ Sat Z1 V1 H [It.sl (Sh.ro sI1) w1 y1] ∧ tm 0 = w1) (fun k1 => ?_) ?_
 ·refine c_ifd rfl (fun q2 => ?_) (fun q2 => ?_)
  ·replace e1 := if_t q2 e1
   refine c_r (o_mv h1 (o_mv h1 (o_capn rfl (o_slnil rfl rfl ?_))))
   refine o_mv h2 ?_
   obtain ⟨x1, q3, e1⟩ := oB e1
   refine o_appz (s := (Sh.ro sI1)) hs (Sh.ro_lt _) rfl rfl rfl (sl_ro RdS.nil) q3 fun w2 H2 s2 => ?_
   refine o_mv h1 (o_len rfl rfl ?_)
   obtain ⟨x2, q4, e1⟩ := oB e1
   refine o_slchX rfl rfl (s2.curS (s := (Sh.ro sI1)) 0 rfl) pR rfl q4 fun w3 h4 h5 => ?_
   have s3 := Sat.conv (u := It.sl (Sh.ro sI1) w3 x2) 0 rfl (fun F h _ q => h5.1 F h q) s2
   refine o_mv (v := w3) rfl ?_
   refine c_nil ?_
   obtain rfl := oJ e1
   exact k1 _ _ ⟨_, _, _, Gw.refl _ _, s3, rfl⟩
  replace e1 := if_f q2 e1
  refine c_sk ?_
  obtain rfl := oJ e1
  exact k1 _ _ ⟨_, _, _, Gw.refl _ _, (hs.push (sl_nil (s := (Sh.ro sI1)))), h1⟩
 intro _ H1 i2
 obtain ⟨Z1, V1, w1, g1, s1, h3⟩ := i2
 refine c_sr (o_mv h3 ?_)
 refine o_mv (v := w1) rfl ?_
 refine c_nil (c_rt ?_)
 obtain rfl := oJ e
 exact ⟨.inr rfl, _, (ar1 rfl), _, rfl, (s1.weak g1 hs.zv)⟩
/-! slices_Concat_int_int -/
structure Nd.slices_Concat_int_int (T : FuncId → Option AFunc) : Prop where
  own : Has T I.slices_Concat_int_int F.slices_Concat_int_int
  slices_Grow_int_int__nil : Nd.slices_Grow_int_int__nil T
set_option maxHeartbeats 1000000 in
theorem X.slices_Concat_int_int {T : FuncId → Option AFunc} (nd : Nd.slices_Concat_int_int T) {Z V : PH} {H : Hp} {v1 : Value} {a0 : (List (List (List Int)))} (hs : Sat Z V H []) (hp1 : RdS sI2 Z v1 a0) {r : (List (List Int))} (e : P.slices_Concat_int_int a0 = some r) :
    G T I.slices_Concat_int_int [v1] H (fun rv H' => ∃ (u1 : Value), rv = u1 ∧ Sat Z V H' [It.sl (Sh.ro sI1) u1 r]) := by
 unfold P.slices_Concat_int_int at e
 refine f_mk nd.own ?_
 refine c_sr ?_
 refine o_mv (v := (.slice none 0 0)) rfl ?_
 refine c_nil (c_sr ?_)
 refine o_mv (v := (vi 0)) rfl ?_
 refine c_nil (c_sq (c_sr ?_))
 refine o_mv (v := v1) rfl ?_
 refine o_len rfl (hp1).len ?_
 refine o_mv (v := (vi 0)) rfl ?_
 refine c_nil ?_
 obtain ⟨y1, q3, e⟩ := oB e
 refine c_bk ?_
 refine l_forP (xs := a0) (fun (i1 : Nat) (s1 : Int) tm H => tm 11 = vi i1 ∧ ∃ (Z1 V1 : PH), Gw Z V Z1 V1 ∧ Sat Z1 V1 H [] ∧ tm 0 = v1 ∧ tm 3 = (vi s1) ∧ tm 9 = v1 ∧ tm 10 = (vN a0)) (fun i1 x1 s1 s3 tm H2 q1 q2 j1 e1 k1 => ?_) (fun tm H1 jd => ?_) q3 ⟨rfl, _, _, Gw.refl _ _, hs, rfl, rfl, rfl, rfl⟩
 ·obtain ⟨hti0, Z1, V1, g1, s2, h1, h2, h3, h4⟩ := j1
  unfold P.slices_Concat_int_int.b0 at e1
  refine c_sr (o_lss hti0 h4 (c_nil (c_sq ?_)))
  refine c_ift rfl (Int.ofNat_lt.2 q2) ?_
  refine c_sk (c_sq (c_bk (c_sr ?_)))
  refine o_idx (v := v1) h3 hti0 (hp1.mono g1.z) rfl (Pu.ix_nat.trans q1) fun p1 q4 => ?_
  refine o_lds rfl (hp1.mono g1.z) s2.z q4 (Pu.ix_nat.trans q1) fun w1 h5 => ?_
  refine o_mv (v := w1) rfl ?_
  refine c_nil (c_sr (o_mv h2 ?_))
  refine o_mv (v := w1) rfl ?_
  refine o_len rfl (h5).len (o_add rfl rfl ?_)
  refine o_mv (v := (vi (Pu.W (s1 + (x1.length : Int))))) rfl ?_
  refine c_nil (c_sr ?_)
  refine o_mv (v := (vi (Pu.W (s1 + (x1.length : Int))))) rfl ?_
  refine o_lss rfl rfl (c_nil ?_)
  refine c_gen (P := fun tm => tm 0 = v1 ∧ tm 3 = (vi (Pu.W (s1 + (x1.length : Int)))) ∧ tm 9 = v1 ∧ tm 10 = (vN a0) ∧ tm 11 = (vJ i1) ∧ tm 20 = (.bool (decide ((Pu.W (s1 + (x1.length : Int))) < 0))) ∧ True) ⟨h1, rfl, h3, h4, hti0, rfl, trivial⟩ ?_
  intro _ i2
  obtain ⟨h6, h7, h8, h9, h10, h11, -⟩ := i2
  refine c_ifd h11 (fun q5 => ?_) (fun q5 => ?_)
  ·replace e1 := if_t q5 e1
   refine c_r ?_
   cases e1
  replace e1 := if_f q5 e1
  refine c_sk (c_end (c_r (o_add h10 rfl ?_)))
  refine o_mv (v := (vi (Pu.W ((i1 : Int) + 1)))) rfl ?_
  refine c_nil ?_
  obtain rfl := oJ e1
  exact k1 _ _ ⟨(iv rfl (w_suc q2 (hp1).bd)), _, _, g1, s2, h6, h7, h8, h9⟩
 obtain ⟨hte0, Z2, V2, g2, s4, h12, h13, h14, h15⟩ := jd
 refine c_sr (o_lss hte0 h15 (c_nil (c_sq ?_)))
 refine c_iff rfl (Int.lt_irrefl _) ?_
 refine c_ex ?_
 refine e_c ?_
 refine e_c ?_
 refine e_h ?_
 refine c_sr (o_mv h13 ?_)
 obtain ⟨x2, q6, e⟩ := oB e
 obtain ⟨Z3, V3, W1, g3, u1, c1, c2, -, c4, c3⟩ := Sat.call (l1 := []) s4
 refine o_call (mc rfl (mc rfl m0)) (X.slices_Grow_int_int__nil nd.slices_Grow_int_int__nil c1 q6) fun w2 H4 i3 => ?_
 obtain ⟨_, rfl, s5⟩ := i3
 have s6 := c3 _ _ s5
 refine o_mv (v := w2) rfl ?_
 refine c_nil (c_sq (c_sr (o_mv h12 (o_len rfl ((hp1.mono (g2.trans g3).z)).len ?_))))
 refine o_mv (v := (vi 0)) rfl ?_
 refine c_nil ?_
 obtain ⟨y2, q9, e⟩ := oB e
 refine c_bk ?_
 refine l_forP (xs := a0) (fun (i4 : Nat) (s7 : (List (List Int))) tm H => tm 27 = vi i4 ∧ ∃ (Z4 V4 : PH) (w3 : Value), Gw Z3 V3 Z4 V4 ∧ Sat Z4 V4 H [It.sl (Sh.ro sI1) w3 s7] ∧ tm 6 = w3 ∧ tm 25 = v1 ∧ tm 26 = (vN a0)) (fun i4 x3 s7 s9 tm H6 q7 q8 j2 e2 k2 => ?_) (fun tm H5 jd => ?_) q9 ⟨rfl, _, _, _, Gw.refl _ _, s6, rfl, rfl, rfl⟩
 ·obtain ⟨hti1, Z4, V4, w3, g4, s8, h16, h17, h18⟩ := j2
  unfold P.slices_Concat_int_int.b1 at e2
  refine c_sr (o_lss hti1 h18 (c_nil (c_sq ?_)))
  refine c_ift rfl (Int.ofNat_lt.2 q8) ?_
  refine c_sk (c_sq (c_bk (c_sr ?_)))
  refine o_idx (v := v1) h17 hti1 (hp1.mono (g2.trans (g3.trans g4)).z) rfl (Pu.ix_nat.trans q7) fun p2 q10 => ?_
  refine o_lds rfl (hp1.mono (g2.trans (g3.trans g4)).z) s8.z q10 (Pu.ix_nat.trans q7) fun w4 h19 => ?_
  refine o_mv (v := w4) rfl ?_
  refine c_nil (c_r (o_mv h16 ?_))
  refine o_mv (v := w4) rfl ?_
  obtain ⟨x4, q11, e2⟩ := oB e2
  refine o_app 0 s8 rfl (Sh.ro_lt _) rfl rfl rfl rfl h19 s8.z (fun h => h) (by decide) q11 fun w5 H7 s10 => ?_
  refine o_mv (v := w5) rfl ?_
  refine c_nil (c_end (c_r (o_add hti1 rfl ?_)))
  refine o_mv (v := (vi (Pu.W ((i4 : Int) + 1)))) rfl ?_
  refine c_nil ?_
  obtain rfl := oJ e2
  exact k2 _ _ ⟨(iv rfl (w_suc q8 ((hp1.mono (g2.trans g3).z)).bd)), _, _, _, g4, s10, rfl, h17, h18⟩
 obtain ⟨hte1, Z5, V5, w6, g5, s11, h20, h21, h22⟩ := jd
 refine c_sr (o_lss hte1 h22 (c_nil (c_sq ?_)))
 refine c_iff rfl (Int.lt_irrefl _) ?_
 refine c_ex ?_
 refine e_c ?_
 refine e_c ?_
 refine e_h ?_
 refine c_sr (o_mv h20 ?_)
 refine o_mv (v := w6) rfl ?_
 refine c_nil (c_rt ?_)
 obtain rfl := oJ e
 exact ⟨.inr rfl, _, (ar1 rfl), _, rfl, (s11.weak (g2.trans (g3.trans g5)) hs.zv)⟩
/-! slices_Equal_int_int -/
structure Nd.slices_Equal_int_int (T : FuncId → Option AFunc) : Prop where
  own : Has T I.slices_Equal_int_int F.slices_Equal_int_int
set_option maxHeartbeats 1000000 in
theorem X.slices_Equal_int_int {T : FuncId → Option AFunc} (nd : Nd.slices_Equal_int_int T) {Z V : PH} {H : Hp} {v1 : Value} {v2 : Value} {a0 : (List Int)} {a1 : (List Int)} (hs : Sat Z V H []) (hp1 : RdS Sh.int V v1 a0) (hp2 : RdS Sh.int V v2 a1) {r : Bool} (e : P.slices_Equal_int_int a0 a1 = some r) :
    G T I.slices_Equal_int_int [v1, v2] H (fun rv H' => rv = (.bool r) ∧ Sat Z V H' []) := by
 unfold P.slices_Equal_int_int at e
 refine f_mk nd.own ?_
 refine c_sr ?_
 refine o_mv (v := (.bool false)) rfl ?_
 refine c_nil (c_sq (c_sr ?_))
 refine o_mv (v := v1) rfl ?_
 refine o_len rfl (hp1).len ?_
 refine o_mv (v := v2) rfl ?_
 refine o_len rfl (hp2).len (o_neq rfl rfl (c_nil ?_))
 refine c_ifd rfl (fun q1 => ?_) (fun q1 => ?_)
 ·replace e := if_t q1 e
  refine c_sr ?_
  refine o_mv (v := (.bool false)) rfl ?_
  refine c_nil (c_rt ?_)
  obtain rfl := oJ e
  exact ⟨.inr rfl, _, (ar1 rfl), rfl, hs⟩
 replace e := if_f q1 e
 refine c_sk (c_sq (c_sr ?_))
 refine o_mv (v := v1) rfl ?_
 refine o_len rfl (hp1).len ?_
 refine o_mv (v := (vi 0)) rfl ?_
 refine c_nil ?_
 obtain ⟨x2, q4, e⟩ := oB e
 obtain ⟨rfl, q6⟩ := ranO_some q4
 obtain ⟨y1, q7, e⟩ := oB e
 refine c_jn (I := fun tm H => ∃ (s3 : Unit), y1 = .out s3 ∧ (∃ (Z2 V2 : PH), Gw Z V Z2 V2 ∧ Sat Z2 V2 H [] ∧ tm 0 = v1 ∧ tm 1 = v2 ∧ tm 12 = (vN a0))) (fun k4 => ?_) ?_
 ·refine c_bk ?_
  refine l_forL (xs := (Pu.ran (a0.length : Int))) (fun (i1 : Nat) (s1 : Unit) tm H => tm 13 = vi i1 ∧ ∃ (Z1 V1 : PH), Gw Z V Z1 V1 ∧ Sat Z1 V1 H [] ∧ tm 0 = v1 ∧ tm 1 = v2 ∧ tm 12 = (vN a0)) (fun i1 x1 s1 y2 tm H2 q2 q3 j1 e1 k1 k2 k3 => ?_) (fun s1 tm H1 jf jd => ?_) q7 ⟨rfl, _, _, Gw.refl _ _, hs, rfl, rfl, rfl⟩
  ·obtain ⟨hti0, Z1, V1, g1, s2, h1, h2, h3⟩ := j1
   unfold P.slices_Equal_int_int.b0 at e1
   have hti0 := iv hti0 (ran_x q2).symm
   refine c_sr (o_lss hti0 h3 (c_nil (c_sq ?_)))
   refine c_ift rfl (ran_lt q2) ?_
   refine c_sk (c_sq (c_bk (c_sr (o_mv hti0 ?_))))
   refine o_mv (v := (vi x1)) rfl ?_
   refine c_nil (c_sq ?_)
   refine d_start s2 fun n1 H4 s5 q8 d1 => ?_
   refine d_mv h1 ?_
   refine d_mv (v := (vi x1)) rfl ?_
   obtain ⟨x3, q9, e1⟩ := oB e1
   refine d_idx (v := v1) rfl rfl (hp1.mono g1.v) rfl q9 fun p1 q10 => ?_
   refine d_ldi (RdS.low (hp1.mono g1.v) s5.v q8) rfl hp1 (g1.v.trans s5.v) q10 q9 ?_
   refine d_mv h2 ?_
   refine d_mv (v := (vi x1)) rfl ?_
   obtain ⟨x4, q11, e1⟩ := oB e1
   refine d_idx (v := v2) rfl rfl (hp2.mono g1.v) rfl q11 fun p2 q12 => ?_
   refine d_ldi (RdS.low (hp2.mono g1.v) s5.v q8) rfl hp2 (g1.v.trans s5.v) q12 q11 ?_
   refine d_neq rfl rfl ?_
   refine d_nil dc_nil ?_
   refine c_gen (P := fun tm => tm 0 = v1 ∧ tm 1 = v2 ∧ tm 12 = (vN a0) ∧ tm 13 = (vi x1) ∧ tm 24 = (.bool (decide (x3 ≠ x4))) ∧ True) ⟨h1, h2, h3, hti0, rfl, trivial⟩ ?_
   intro _ i2
   obtain ⟨h7, h8, h9, h10, h11, -⟩ := i2
   refine c_ifd h11 (fun q13 => ?_) (fun q13 => ?_)
   ·replace e1 := if_t q13 e1
    refine c_sr ?_
    refine o_mv (v := (.bool false)) rfl ?_
    refine c_nil (c_rt ?_)
    have e2 := fin_r (k3 _ (sJ e1)) e
    obtain rfl := oJ e2
    exact ⟨.inr rfl, _, (ar1 rfl), rfl, (s5.weak g1 hs.zv)⟩
   replace e1 := if_f q13 e1
   refine c_sk (c_end (c_r (o_add h10 rfl ?_)))
   refine o_mv (v := (vi (Pu.W (x1 + 1)))) rfl ?_
   refine c_nil ?_
   exact k1 _ _ _ (sJ e1) ⟨(iv rfl (w_sucR q2 q6)), _, _, g1, s5, h7, h8, h9⟩
  ·obtain ⟨hte0, Z3, V3, g3, s6, h12, h13, h14⟩ := jd
   refine c_sr (o_lss hte0 h14 (c_nil (c_sq ?_)))
   refine c_iff rfl (ran_done _) ?_
   refine c_ex ?_
   refine e_c ?_
   refine e_c ?_
   refine e_h ?_
   exact k4 _ _ ⟨_, jf, _, _, g3, s6, h12, h13, h14⟩
 intro _ H3 i3
 obtain ⟨s3, f1, Z2, V2, g2, s4, h4, h5, h6⟩ := i3
 replace e := fin_o f1 e
 refine c_sr ?_
 refine o_mv (v := (.bool true)) rfl ?_
 refine c_nil (c_rt ?_)
 obtain rfl := oJ e
 exact ⟨.inr rfl, _, (ar1 rfl), rfl, (s4.weak g2 hs.zv)⟩
/-! guess_Check_1 -/
structure Nd.guess_Check_1 (T : FuncId → Option AFunc) : Prop where
  own : Has T I.guess_Check_1 F.guess_Check_1
  slices_Equal_int_int : Nd.slices_Equal_int_int T
set_option maxHeartbeats 1000000 in
theorem X.guess_Check_1 {T : FuncId → Option AFunc} (nd : Nd.guess_Check_1 T) {Z V : PH} {H : Hp} {v1 : Value} {v2 : Value} {o1 : Nat} {a0 : (List Int)} {a1 : (List Int)} (hs : Sat Z V H [pts o1 (.rw 0 [v2])]) (hp1 : RdS Sh.int V v1 a0) (hp2 : RdS Sh.int V v2 a1) {r : Bool} (e : P.guess_Check_1 a0 a1 = some r) :
    G T I.guess_Check_1 [v1, (pV o1 0)] H (fun rv H' => rv = (.bool r) ∧ Sat Z V H' [pts o1 (.rw 0 [v2])]) := by
 unfold P.guess_Check_1 at e
 refine f_mk nd.own ?_
 refine c_sr ?_
 refine o_mv (v := (.bool false)) rfl ?_
 refine c_nil (c_sr ?_)
 refine o_mv (v := v1) rfl ?_
 obtain ⟨d1, rfl⟩ := (hp2).val
 refine o_ldB 0 hs rfl rfl rfl rfl ?_
 obtain ⟨x1, q1, e⟩ := oB e
 obtain ⟨Z1, V1, W1, g1, u1, c1, c2, -, c4, c3⟩ := Sat.call (l1 := []) hs
 refine o_call (mc rfl (mc rfl m0)) (X.slices_Equal_int_int nd.slices_Equal_int_int c1 (hp1.mono (g1.v.trans u1)) (hp2.mono (g1.v.trans u1)) q1) fun _ H1 i1 => ?_
 obtain ⟨rfl, s1⟩ := i1
 have s2 := c3 _ _ s1
 refine o_mv (v := (.bool x1)) rfl ?_
 refine c_nil (c_rt ?_)
 obtain rfl := oJ e
 exact ⟨.inr rfl, _, (ar1 rfl), rfl, (s2.weak g1 hs.zv)⟩
/-! slices_IndexFunc_int_int_34__guess_Check_1 -/
structure Nd.slices_IndexFunc_int_int_34__guess_Check_1 (T : FuncId → Option AFunc) : Prop where
  own : Has T I.slices_IndexFunc_int_int_34 F.slices_IndexFunc_int_int_34
  guess_Check_1 : Nd.guess_Check_1 T
set_option maxHeartbeats 1000000 in
theorem X.slices_IndexFunc_int_int_34__guess_Check_1 {T : FuncId → Option AFunc} (nd : Nd.slices_IndexFunc_int_int_34__guess_Check_1 T) {Z V : PH} {H : Hp} {v1 : Value} {v2 : Value} {o1 : Nat} {a0 : (List (List Int))} {a1c0 : (List Int)} (hs : Sat Z V H [pts o1 (.rw 0 [v2])]) (hp1 : RdS sI1 V v1 a0) (hp2 : RdS Sh.int V v2 a1c0) {r : Int} (e : P.slices_IndexFunc_int_int_34__guess_Check_1 a0 a1c0 = some r) :
    G T I.slices_IndexFunc_int_int_34 [v1, (.func (.func I.guess_Check_1) #[] #[(pV o1 0)])] H (fun rv H' => rv = (vi r) ∧ Sat Z V H' [pts o1 (.rw 0 [v2])]) := by
 unfold P.slices_IndexFunc_int_int_34__guess_Check_1 at e
 refine f_mk nd.own ?_
 refine c_sr ?_
 refine o_mv (v := (vi 0)) rfl ?_
 refine c_nil (c_sq (c_sr ?_))
 refine o_mv (v := v1) rfl ?_
 refine o_len rfl (hp1).len ?_
 refine o_mv (v := (vi 0)) rfl ?_
 refine c_nil ?_
 obtain ⟨x2, q3, e⟩ := oB e
 obtain ⟨rfl, q5⟩ := ranO_some q3
 obtain ⟨y1, q6, e⟩ := oB e
 refine c_jn (I := fun tm H => ∃ (s3 : Unit), y1 = .out s3 ∧ (∃ (Z2 V2 : PH), Gw Z V Z2 V2 ∧ Sat Z2 V2 H [pts o1 (.rw 0 [v2])] ∧ tm 0 = v1 ∧ tm 1 = (.func (.func I.guess_Check_1) #[] #[(pV o1 0)]) ∧ tm 7 = (vN a0))) (fun k4 => ?_) ?_
 ·refine c_bk ?_
  refine l_forL (xs := (Pu.ran (a0.length : Int))) (fun (i1 : Nat) (s1 : Unit) tm H => tm 8 = vi i1 ∧ ∃ (Z1 V1 : PH), Gw Z V Z1 V1 ∧ Sat Z1 V1 H [pts o1 (.rw 0 [v2])] ∧ tm 0 = v1 ∧ tm 1 = (.func (.func I.guess_Check_1) #[] #[(pV o1 0)]) ∧ tm 7 = (vN a0)) (fun i1 x1 s1 y2 tm H2 q1 q2 j1 e1 k1 k2 k3 => ?_) (fun s1 tm H1 jf jd => ?_) q6 ⟨rfl, _, _, Gw.refl _ _, hs, rfl, rfl, rfl⟩
  ·obtain ⟨hti0, Z1, V1, g1, s2, h1, h2, h3⟩ := j1
   unfold P.slices_IndexFunc_int_int_34__guess_Check_1.b0 at e1
   have hti0 := iv hti0 (ran_x q1).symm
   refine c_sr (o_lss hti0 h3 (c_nil (c_sq ?_)))
   refine c_ift rfl (ran_lt q1) ?_
   refine c_sk (c_sq (c_bk (c_sr (o_mv hti0 ?_))))
   refine o_mv (v := (vi x1)) rfl ?_
   refine c_nil (c_sr (o_mv h2 (o_mv h1 ?_)))
   refine o_mv (v := (vi x1)) rfl ?_
   obtain ⟨x3, q7, e1⟩ := oB e1
   refine o_idx (v := v1) rfl rfl (hp1.mono g1.v) rfl q7 fun p1 q8 => ?_
   refine o_lds rfl (hp1.mono g1.v) s2.v q8 q7 fun w1 h7 => ?_
   obtain ⟨x4, q9, e1⟩ := oB e1
   obtain ⟨d1, rfl⟩ := ((hp2.mono g1.v)).val
   obtain ⟨Z3, V3, W1, g3, u1, c1, c2, -, c4, c3⟩ := Sat.call (l1 := [pts o1 (.rw 0 [(vS d1 a1c0)])]) (l2 := []) s2
   refine o_callv rfl (mc rfl m0) (X.guess_Check_1 nd.guess_Check_1 (a1 := a1c0) c1 (h7.mono (g3.v.trans u1)) (hp2.mono ((g1.trans g3).v.trans u1)) q9) fun _ H4 i2 => ?_
   obtain ⟨rfl, s5⟩ := i2
   have s6 := c3 _ _ s5
   refine c_nil ?_
   refine c_if rfl (fun q10 => ?_) (fun q10 => ?_)
   ·replace e1 := if_t q10 e1
    refine c_sr ?_
    refine o_mv (v := (vi x1)) rfl ?_
    refine o_mv (v := (vi x1)) rfl ?_
    refine c_nil ?_
    refine c_gen (P := fun tm => tm 4 = (vi x1) ∧ True) ⟨rfl, trivial⟩ ?_
    intro _ i3
    obtain ⟨h8, -⟩ := i3
    refine c_rt ?_
    have e2 := fin_r (k3 _ (sJ e1)) e
    obtain rfl := oJ e2
    exact ⟨.inr rfl, _, (ar1 h8), rfl, (s6.weak (g1.trans g3) hs.zv)⟩
   replace e1 := ib_f q10 e1
   refine c_sk (c_end (c_r (o_add hti0 rfl ?_)))
   refine o_mv (v := (vi (Pu.W (x1 + 1)))) rfl ?_
   refine c_nil ?_
   exact k1 _ _ _ (sJ e1) ⟨(iv rfl (w_sucR q1 q5)), _, _, (g1.trans g3), s6, h1, h2, h3⟩
  ·obtain ⟨hte0, Z4, V4, g4, s7, h9, h10, h11⟩ := jd
   refine c_sr (o_lss hte0 h11 (c_nil (c_sq ?_)))
   refine c_iff rfl (ran_done _) ?_
   refine c_ex ?_
   refine e_c ?_
   refine e_c ?_
   refine e_h ?_
   exact k4 _ _ ⟨_, jf, _, _, g4, s7, h9, h10, h11⟩
 intro _ H3 i4
 obtain ⟨s3, f1, Z2, V2, g2, s4, h4, h5, h6⟩ := i4
 replace e := fin_o f1 e
 refine c_sr ?_
 refine o_mv (v := (vi (-1))) rfl ?_
 refine c_nil (c_rt ?_)
 obtain ⟨d2, rfl⟩ := ((hp2.mono g2.v)).val
 obtain rfl := oJ e
 exact ⟨.inr rfl, _, (ar1 rfl), rfl, (s4.weak g2 hs.zv)⟩
/-! slices_ContainsFunc_int_int_26__guess_Check_1 -/
structure Nd.slices_ContainsFunc_int_int_26__guess_Check_1 (T : FuncId → Option AFunc) : Prop where
  own : Has T I.slices_ContainsFunc_int_int_26 F.slices_ContainsFunc_int_int_26
  slices_IndexFunc_int_int_34__guess_Check_1 : Nd.slices_IndexFunc_int_int_34__guess_Check_1 T
set_option maxHeartbeats 1000000 in
theorem X.slices_ContainsFunc_int_int_26__guess_Check_1 {T : FuncId → Option AFunc} (nd : Nd.slices_ContainsFunc_int_int_26__guess_Check_1 T) {Z V : PH} {H : Hp} {v1 : Value} {v2 : Value} {o1 : Nat} {a0 : (List (List Int))} {a1c0 : (List Int)} (hs : Sat Z V H [pts o1 (.rw 0 [v2])]) (hp1 : RdS sI1 V v1 a0) (hp2 : RdS Sh.int V v2 a1c0) {r : Bool} (e : P.slices_ContainsFunc_int_int_26__guess_Check_1 a0 a1c0 = some r) :
    G T I.slices_ContainsFunc_int_int_26 [v1, (.func (.func I.guess_Check_1) #[] #[(pV o1 0)])] H (fun rv H' => rv = (.bool r) ∧ Sat Z V H' [pts o1 (.rw 0 [v2])]) := by
 unfold P.slices_ContainsFunc_int_int_26__guess_Check_1 at e
 refine f_mk nd.own ?_
 refine c_sr ?_
 refine o_mv (v := (.bool false)) rfl ?_
 refine c_nil (c_sr ?_)
 refine o_mv (v := v1) rfl ?_
 refine o_mv (v := (.func (.func I.guess_Check_1) #[] #[(pV o1 0)])) rfl ?_
 obtain ⟨x1, q1, e⟩ := oB e
 obtain ⟨d1, rfl⟩ := (hp2).val
 obtain ⟨Z1, V1, W1, g1, u1, c1, c2, -, c4, c3⟩ := Sat.call (l1 := [pts o1 (.rw 0 [(vS d1 a1c0)])]) (l2 := []) hs
 refine o_call (mc rfl (mc rfl m0)) (X.slices_IndexFunc_int_int_34__guess_Check_1 nd.slices_IndexFunc_int_int_34__guess_Check_1 (a1c0 := a1c0) c1 (hp1.mono (g1.v.trans u1)) (hp2.mono (g1.v.trans u1)) q1) fun _ H1 i1 => ?_
 obtain ⟨rfl, s1⟩ := i1
 have s2 := c3 _ _ s1
 refine o_geq rfl rfl ?_
 refine o_mv (v := (.bool (decide (0 ≤ x1)))) rfl ?_
 refine c_nil (c_rt ?_)
 obtain rfl := oJ e
 exact ⟨.inr rfl, _, (ar1 rfl), rfl, (s2.weak g1 hs.zv)⟩
/-! guess_Check -/
structure Nd.guess_Check (T : FuncId → Option AFunc) : Prop where
  own : Has T I.guess_Check F.guess_Check
  slices_Concat_int_int : Nd.slices_Concat_int_int T
  slices_ContainsFunc_int_int_26__guess_Check_1 : Nd.slices_ContainsFunc_int_int_26__guess_Check_1 T
set_option maxHeartbeats 1000000 in
theorem X.guess_Check {T : FuncId → Option AFunc} (nd : Nd.guess_Check T) {Z V : PH} {H : Hp} {v1 : Value} {v2 : Value} {a0 : Int} {a1 : (List (List Int))} {a2 : (List (List Int))} (hs : Sat Z V H []) (hp1 : RdS sI1 Z v1 a1) (hp2 : RdS sI1 Z v2 a2) {r : Int} (e : P.guess_Check a0 a1 a2 = some r) :
    G T I.guess_Check [vi a0, v1, v2] H (fun rv H' => rv = (vi r) ∧ Sat Z V H' []) := by
 unfold P.guess_Check at e
 refine f_mk nd.own ?_
 refine c_sr ?_
 refine o_mv (v := (vi 0)) rfl ?_
 refine c_nil (c_sq (c_sr ?_))
 refine o_mv (v := v1) rfl ?_
 refine o_len rfl (hp1).len (o_gtr rfl rfl ?_)
 refine o_mv (v := (.bool (decide (6 < (a1.length : Int))))) rfl ?_
 refine o_jn 4 (I := fun tm H => tm 20 = .bool ((decide (6 < (a1.length : Int))) || (decide (6 < (a2.length : Int)))) ∧ (∃ (Z1 V1 : PH), Gw Z V Z1 V1 ∧ Sat Z1 V1 H [] ∧ tm 0 = (vi a0) ∧ tm 1 = v1 ∧ tm 2 = v2)) (fun k1 => ?_) ?_
 ·rcases Bool.eq_false_or_eq_true (decide (6 < (a1.length : Int))) with q1 | q1
  ·refine o_gn rfl q1 (o_gn rfl q1 (o_gn rfl q1 ?_))
   refine o_pickt (a := (.bool true)) rfl q1 rfl ?_
   exact k1 _ _ ⟨gf rfl (by first | (rw [q1]; first | done | rfl) | simp [q1]), _, _, Gw.refl _ _, hs, rfl, rfl, rfl⟩
  refine o_gy rfl q1 ?_
  refine o_mv (v := v2) rfl ?_
  refine o_gy rfl q1 (o_len rfl (hp2).len (o_gy rfl q1 (o_gtr rfl rfl ?_)))
  refine o_pickf (b := (.bool (decide (6 < (a2.length : Int))))) rfl q1 rfl ?_
  exact k1 _ _ ⟨gf rfl (by first | (rw [q1]; first | done | rfl) | simp [q1]), _, _, Gw.refl _ _, hs, rfl, rfl, rfl⟩
 intro _ H1 i1
 obtain ⟨h4, Z1, V1, g1, s1, h1, h2, h3⟩ := i1
 refine c_nil ?_
 refine c_if h4 (fun q2 => ?_) (fun q2 => ?_)
 ·replace e := if_t q2 e
  refine c_sr ?_
  refine o_mv (v := (vi 2)) rfl ?_
  refine c_nil (c_rt ?_)
  obtain rfl := oJ e
  exact ⟨.inr rfl, _, (ar1 rfl), rfl, (s1.weak g1 hs.zv)⟩
 replace e := ib_f q2 e
 refine c_sk (c_sq (c_sr (o_mv h2 (o_mv h3 ?_))))
 obtain ⟨d1, rfl⟩ := ((hp1.mono g1.z)).val
 obtain ⟨d2, rfl⟩ := ((hp2.mono g1.z)).val
 refine o_bsl (s := (Sh.ro sI2)) (us := [(vS d1 a1), (vS d2 a2)]) (qs := [(0, 1, (vS d1 a1)), (1, 1, (vS d2 a2))]) (xs := [a1, a2]) s1 (Sh.ro_lt _) rfl rfl rfl (Els.cons (c := [(vS d1 a1)]) (sl_ro (hp1.mono g1.z)) (Els.cons (c := [(vS d2 a2)]) (sl_ro (hp2.mono g1.z)) Els.nil)) rfl rfl fun w1 H2 s2 => ?_
 obtain ⟨Z2, V2, g2, s3, h5⟩ := s2.frzS 0 rfl
 replace h5 := h5.of_ro
 obtain ⟨x1, q3, e⟩ := oB e
 obtain ⟨Z3, V3, W1, g3, u1, c1, c2, -, c4, c3⟩ := Sat.call (l1 := []) s3
 refine o_call (mc rfl m0) (X.slices_Concat_int_int nd.slices_Concat_int_int c1 (h5.mono g3.z) q3) fun w2 H3 i2 => ?_
 obtain ⟨_, rfl, s4⟩ := i2
 have s5 := c3 _ _ s4
 refine o_len rfl ((s5.curS (s := (Sh.ro sI1)) 0 rfl)).len ?_
 refine o_mv (v := (vi 0)) rfl ?_
 refine c_nil ?_
 obtain ⟨y1, q6, e⟩ := oB e
 refine c_jn (I := fun tm H => ∃ (s8 : Unit), y1 = .out s8 ∧ (∃ (Z5 V5 : PH), Gw Z3 V3 Z5 V5 ∧ Sat Z5 V5 H [It.sl (Sh.ro sI1) w2 x1] ∧ tm 0 = (vi a0) ∧ tm 1 = (vS d1 a1) ∧ tm 2 = (vS d2 a2) ∧ tm 24 = w2 ∧ tm 25 = (vN x1))) (fun k5 => ?_) ?_
 ·refine c_bk ?_
  refine l_forL (xs := x1) (fun (i3 : Nat) (s6 : Unit) tm H => tm 26 = vi i3 ∧ ∃ (Z4 V4 : PH), Gw Z3 V3 Z4 V4 ∧ Sat Z4 V4 H [It.sl (Sh.ro sI1) w2 x1] ∧ tm 0 = (vi a0) ∧ tm 1 = (vS d1 a1) ∧ tm 2 = (vS d2 a2) ∧ tm 24 = w2 ∧ tm 25 = (vN x1)) (fun i3 x2 s6 y2 tm H5 q4 q5 j1 e1 k2 k3 k4 => ?_) (fun s6 tm H4 jf jd => ?_) q6 ⟨rfl, _, _, Gw.refl _ _, s5, h1, h2, h3, rfl, rfl⟩
  ·obtain ⟨hti0, Z4, V4, g4, s7, h6, h7, h8, h9, h10⟩ := j1
   unfold P.guess_Check.b0 at e1
   refine c_sr (o_lss hti0 h10 (c_nil (c_sq ?_)))
   refine c_ift rfl (Int.ofNat_lt.2 q5) ?_
   refine c_sk (c_sq (c_bk (c_sr ?_)))
   refine o_idx (v := w2) h9 hti0 (s7.curS (s := (Sh.ro sI1)) 0 rfl) rfl (Pu.ix_nat.trans q4) fun p1 q7 => ?_
   refine o_ldos 0 s7 rfl rfl q7 (Pu.ix_nat.trans q4) fun Z6 V6 w3 g6 s10 h16 => ?_
   refine o_mv (v := w3) rfl ?_
   refine c_nil (c_sq (c_sr ?_))
   refine o_mv (v := w3) rfl ?_
   refine o_len rfl (h16).len (o_gtr rfl rfl (c_nil ?_))
   refine c_ifd rfl (fun q8 => ?_) (fun q8 => ?_)
   ·replace e1 := if_t q8 e1
    refine c_sr ?_
    refine o_mv (v := (vi 2)) rfl ?_
    refine c_nil (c_rt ?_)
    have e2 := fin_r (k4 _ (sJ e1)) e
    obtain rfl := oJ e2
    exact ⟨.inr rfl, _, (ar1 rfl), rfl, ((s10.pick [] rfl).weak (g1.trans (g2.trans (g3.trans (g4.trans g6)))) hs.zv)⟩
   replace e1 := if_f q8 e1
   refine c_sk (c_sr ?_)
   refine o_mv (v := w3) rfl ?_
   refine o_len rfl (h16).len ?_
   refine o_mv (v := (vi 0)) rfl ?_
   refine c_nil ?_
   refine c_gen (P := fun tm => tm 0 = (vi a0) ∧ tm 1 = (vS d1 a1) ∧ tm 2 = (vS d2 a2) ∧ tm 24 = w2 ∧ tm 25 = (vN x1) ∧ tm 26 = (vJ i3) ∧ tm 33 = w3 ∧ tm 34 = (vN x2) ∧ tm 35 = (vi 0) ∧ True) ⟨h6, h7, h8, h9, h10, hti0, rfl, rfl, rfl, trivial⟩ ?_
   intro _ i4
   obtain ⟨h17, h18, h19, h20, h21, h22, h23, h24, h25, -⟩ := i4
   obtain ⟨y3, q11, e1⟩ := oB e1
   refine c_jn (I := fun tm H => ∃ (s13 : Unit), y3 = .out s13 ∧ (∃ (Z8 V8 : PH), Gw Z6 V6 Z8 V8 ∧ Sat Z8 V8 H [It.sl (Sh.ro sI1) w2 x1] ∧ tm 0 = (vi a0) ∧ tm 1 = (vS d1 a1) ∧ tm 2 = (vS d2 a2) ∧ tm 24 = w2 ∧ tm 25 = (vN x1) ∧ tm 26 = (vJ i3) ∧ tm 33 = w3 ∧ tm 34 = (vN x2))) (fun k9 => ?_) ?_
   ·refine c_bk ?_
    refine l_forL (xs := x2) (fun (i5 : Nat) (s11 : Unit) tm H => tm 35 = vi i5 ∧ ∃ (Z7 V7 : PH), Gw Z6 V6 Z7 V7 ∧ Sat Z7 V7 H [It.sl (Sh.ro sI1) w2 x1] ∧ tm 0 = (vi a0) ∧ tm 1 = (vS d1 a1) ∧ tm 2 = (vS d2 a2) ∧ tm 24 = w2 ∧ tm 25 = (vN x1) ∧ tm 26 = (vJ i3) ∧ tm 33 = w3 ∧ tm 34 = (vN x2)) (fun i5 x3 s11 y4 tm H8 q9 q10 j2 e3 k6 k7 k8 => ?_) (fun s11 tm H7 jf jd => ?_) q11 ⟨h25, _, _, Gw.refl _ _, s10, h17, h18, h19, h20, h21, h22, h23, h24⟩
    ·obtain ⟨hti1, Z7, V7, g7, s12, h26, h27, h28, h29, h30, h31, h32, h33⟩ := j2
     unfold P.guess_Check.b1 at e3
     refine c_sr (o_lss hti1 h33 (c_nil (c_sq ?_)))
     refine c_ift rfl (Int.ofNat_lt.2 q10) ?_
     refine c_sk (c_sq (c_bk (c_sr ?_)))
     refine o_idx (v := w3) h32 hti1 (h16.mono g7.z) rfl (Pu.ix_nat.trans q9) fun p2 q12 => ?_
     refine o_ldi rfl (h16.mono g7.z) s12.z q12 (Pu.ix_nat.trans q9) ?_
     refine o_mv (v := (vi x3)) rfl ?_
     refine c_nil (c_sr ?_)
     refine o_mv (v := (vi x3)) rfl ?_
     refine o_lss rfl rfl ?_
     refine o_mv (v := (.bool (decide (x3 < 0)))) rfl ?_
     refine o_jn 4 (I := fun tm H => tm 45 = .bool ((decide (x3 < 0)) || (decide (a0 ≤ x3))) ∧ (∃ (Z9 V9 : PH), Gw Z7 V7 Z9 V9 ∧ Sat Z9 V9 H [It.sl (Sh.ro sI1) w2 x1] ∧ tm 0 = (vi a0) ∧ tm 1 = (vS d1 a1) ∧ tm 2 = (vS d2 a2) ∧ tm 24 = w2 ∧ tm 25 = (vN x1) ∧ tm 26 = (vJ i3) ∧ tm 33 = w3 ∧ tm 34 = (vN x2) ∧ tm 35 = (vJ i5))) (fun k10 => ?_) ?_
     ·rcases Bool.eq_false_or_eq_true (decide (x3 < 0)) with q13 | q13
      ·refine o_gn rfl q13 (o_gn rfl q13 (o_gn rfl q13 ?_))
       refine o_pickt (a := (.bool true)) rfl q13 rfl ?_
       exact k10 _ _ ⟨gf rfl (by first | (rw [q13]; first | done | rfl) | simp [q13]), _, _, Gw.refl _ _, s12, h26, h27, h28, h29, h30, h31, h32, h33, hti1⟩
      refine o_gy rfl q13 ?_
      refine o_mv (v := (vi x3)) rfl ?_
      refine o_gy rfl q13 (o_mv h26 (o_gy rfl q13 (o_geq rfl rfl ?_)))
      refine o_pickf (b := (.bool (decide (a0 ≤ x3)))) rfl q13 rfl ?_
      exact k10 _ _ ⟨gf rfl (by first | (rw [q13]; first | done | rfl) | simp [q13]), _, _, Gw.refl _ _, s12, h26, h27, h28, h29, h30, h31, h32, h33, hti1⟩
     intro _ H10 i6
     obtain ⟨h51, Z9, V9, g9, s15, h42, h43, h44, h45, h46, h47, h48, h49, h50⟩ := i6
     refine c_nil ?_
     refine c_if h51 (fun q14 => ?_) (fun q14 => ?_)
     ·replace e3 := if_t q14 e3
      refine c_sr ?_
      refine o_mv (v := (vi 1)) rfl ?_
      refine c_nil (c_rt ?_)
      have e4 := fin_r (k8 _ (sJ e3)) e1
      have e5 := fin_r (k4 _ (sJ e4)) e
      obtain rfl := oJ e5
      exact ⟨.inr rfl, _, (ar1 rfl), rfl, ((s15.pick [] rfl).weak (g1.trans (g2.trans (g3.trans (g4.trans (g6.trans (g7.trans g9)))))) hs.zv)⟩
     replace e3 := ib_f q14 e3
     refine c_sk (c_end (c_r (o_add h50 rfl ?_)))
     refine o_mv (v := (vi (Pu.W ((i5 : Int) + 1)))) rfl ?_
     refine c_nil ?_
     exact k6 _ _ _ (sJ e3) ⟨(iv rfl (w_suc q10 (h16).bd)), _, _, (g7.trans g9), s15, h42, h43, h44, h45, h46, h47, h48, h49⟩
    ·obtain ⟨hte1, Z10, V10, g10, s16, h52, h53, h54, h55, h56, h57, h58, h59⟩ := jd
     refine c_sr (o_lss hte1 h59 (c_nil (c_sq ?_)))
     refine c_iff rfl (Int.lt_irrefl _) ?_
     refine c_ex ?_
     refine e_c ?_
     refine e_c ?_
     refine e_h ?_
     exact k9 _ _ ⟨_, jf, _, _, g10, s16, h52, h53, h54, h55, h56, h57, h58, h59⟩
   intro _ H9 i7
   obtain ⟨s13, f1, Z8, V8, g8, s14, h34, h35, h36, h37, h38, h39, h40, h41⟩ := i7
   replace e1 := fin_o f1 e1
   refine c_end (c_r (o_add h39 rfl ?_))
   refine o_mv (v := (vi (Pu.W ((i3 : Int) + 1)))) rfl ?_
   refine c_nil ?_
   exact k2 _ _ _ (sJ e1) ⟨(iv rfl (w_suc q5 ((s5.curS (s := (Sh.ro sI1)) 0 rfl)).bd)), _, _, (g4.trans (g6.trans g8)), s14, h34, h35, h36, h37, h38⟩
  ·obtain ⟨hte0, Z11, V11, g11, s17, h60, h61, h62, h63, h64⟩ := jd
   refine c_sr (o_lss hte0 h64 (c_nil (c_sq ?_)))
   refine c_iff rfl (Int.lt_irrefl _) ?_
   refine c_ex ?_
   refine e_c ?_
   refine e_c ?_
   refine e_h ?_
   exact k5 _ _ ⟨_, jf, _, _, g11, s17, h60, h61, h62, h63, h64⟩
 intro _ H6 i8
 obtain ⟨s8, f2, Z5, V5, g5, s9, h11, h12, h13, h14, h15⟩ := i8
 replace e := fin_o f2 e
 refine c_sq (c_sr (o_mv h13 (o_len rfl ((hp2.mono (g1.trans (g2.trans (g3.trans g5))).z)).len ?_)))
 refine o_mv (v := (vi 0)) rfl ?_
 refine c_nil ?_
 obtain ⟨y5, q17, e⟩ := oB e
 refine c_jn (I := fun tm H => ∃ (s20 : Unit), y5 = .out s20 ∧ (∃ (Z13 V13 : PH), Gw Z5 V5 Z13 V13 ∧ Sat Z13 V13 H [] ∧ tm 1 = (vS d1 a1) ∧ tm 48 = (vS d2 a2) ∧ tm 49 = (vN a2))) (fun k14 => ?_) ?_
 ·refine c_bk ?_
  refine l_forL (xs := a2) (fun (i9 : Nat) (s18 : Unit) tm H => tm 50 = vi i9 ∧ ∃ (Z12 V12 : PH), Gw Z5 V5 Z12 V12 ∧ Sat Z12 V12 H [] ∧ tm 1 = (vS d1 a1) ∧ tm 48 = (vS d2 a2) ∧ tm 49 = (vN a2)) (fun i9 x4 s18 y6 tm H14 q15 q16 j3 e6 k11 k12 k13 => ?_) (fun s18 tm H13 jf jd => ?_) q17 ⟨rfl, _, _, Gw.refl _ _, (s9.pick [] rfl), h12, rfl, rfl⟩
  ·obtain ⟨hti2, Z12, V12, g12, s19, h65, h66, h67⟩ := j3
   unfold P.guess_Check.b2 at e6
   refine c_sr (o_lss hti2 h67 (c_nil (c_sq ?_)))
   refine c_ift rfl (Int.ofNat_lt.2 q16) ?_
   refine c_sk (c_sq (c_bk (c_sr ?_)))
   refine o_idx (v := (vS d2 a2)) h66 hti2 (hp2.mono (g1.trans (g2.trans (g3.trans (g5.trans g12)))).z) rfl (Pu.ix_nat.trans q15) fun p3 q18 => ?_
   refine o_lds rfl (hp2.mono (g1.trans (g2.trans (g3.trans (g5.trans g12)))).z) s19.z q18 (Pu.ix_nat.trans q15) fun w4 h71 => ?_
   refine o_new s19 fun b1 H16 s22 => ?_
   obtain ⟨d3, rfl⟩ := (h71).val
   refine o_stB (us' := [(vS d3 x4)]) 0 s22 rfl rfl rfl rfl rfl rfl rfl fun H17 s23 => ?_
   refine c_nil (c_sr (o_mv h65 (o_mkfn (mc rfl m0) ?_)))
   obtain ⟨x5, q19, e6⟩ := oB e6
   obtain ⟨Z14, V14, W2, g14, u2, c5, c6, -, c8, c7⟩ := Sat.call (l1 := [pts b1 (.rw 0 [(vS d3 x4)])]) (l2 := []) s23
   refine o_call (mc rfl (mc rfl m0)) (X.slices_ContainsFunc_int_int_26__guess_Check_1 nd.slices_ContainsFunc_int_int_26__guess_Check_1 (a1c0 := x4) c5 (hp1.mono (((g1.trans (g2.trans (g3.trans (g5.trans g12)))).trans g14).z.trans c5.zv)) (h71.mono (g14.z.trans c5.zv)) q19) fun _ H18 i10 => ?_
   obtain ⟨rfl, s24⟩ := i10
   have s25 := c7 _ _ s24
   refine c_nil ?_
   refine c_if rfl (fun q20 => ?_) (fun q20 => ?_)
   ·replace e6 := if_t q20 e6
    refine c_sr ?_
    refine o_mv (v := (vi 8)) rfl ?_
    refine c_nil (c_rt ?_)
    have e7 := fin_r (k13 _ (sJ e6)) e
    obtain rfl := oJ e7
    exact ⟨.inr rfl, _, (ar1 rfl), rfl, ((s25.pick [] rfl).weak (g1.trans (g2.trans (g3.trans (g5.trans (g12.trans g14))))) hs.zv)⟩
   replace e6 := ib_f q20 e6
   refine c_sk (c_end (c_r (o_add hti2 rfl ?_)))
   refine o_mv (v := (vi (Pu.W ((i9 : Int) + 1)))) rfl ?_
   refine c_nil ?_
   exact k11 _ _ _ (sJ e6) ⟨(iv rfl (w_suc q16 ((hp2.mono (g1.trans (g2.trans (g3.trans g5))).z)).bd)), _, _, (g12.trans g14), (s25.pick [] rfl), h65, h66, h67⟩
  ·obtain ⟨hte2, Z15, V15, g15, s26, h72, h73, h74⟩ := jd
   refine c_sr (o_lss hte2 h74 (c_nil (c_sq ?_)))
   refine c_iff rfl (Int.lt_irrefl _) ?_
   refine c_ex ?_
   refine e_c ?_
   refine e_c ?_
   refine e_h ?_
   exact k14 _ _ ⟨_, jf, _, _, g15, s26, h72, h73, h74⟩
 intro _ H15 i11
 obtain ⟨s20, f3, Z13, V13, g13, s21, h68, h69, h70⟩ := i11
 replace e := fin_o f3 e
 refine c_sr ?_
 refine o_mv (v := (vi 0)) rfl ?_
 refine c_nil (c_rt ?_)
 obtain rfl := oJ e
 exact ⟨.inr rfl, _, (ar1 rfl), rfl, (s21.weak (g1.trans (g2.trans (g3.trans (g5.trans g13)))) hs.zv)⟩
/-! guess_first -/
structure Nd.guess_first (T : FuncId → Option AFunc) : Prop where
  own : Has T I.guess_first F.guess_first
set_option maxHeartbeats 1000000 in
theorem X.guess_first {T : FuncId → Option AFunc} (nd : Nd.guess_first T) {Z V : PH} {H : Hp} {a0 : Int} (hs : Sat Z V H []) {r : (List Int)} (e : P.guess_first a0 = some r) :
    G T I.guess_first [vi a0] H (fun rv H' => ∃ (u1 : Value), rv = u1 ∧ Sat Z V H' [It.sl Sh.int u1 r] ∧ u1 ≠ .slice none 0 0) := by
 unfold P.guess_first at e
 refine f_mk nd.own ?_
 refine c_sr ?_
 refine o_mv (v := (.slice none 0 0)) rfl ?_
 refine c_nil (c_sr ?_)
 refine o_mv (v := (vi a0)) rfl ?_
 obtain ⟨x1, q1, e⟩ := oB e
 refine o_mksN (s := Sh.int) hs Sh.flat_lt rfl rfl rfl rfl q1 fun w1 H1 s1 n1 => ?_
 refine o_mv (v := w1) rfl ?_
 refine c_nil (c_sq (c_sr ?_))
 refine o_mv (v := (vi a0)) rfl ?_
 refine o_mv (v := (vi 0)) rfl ?_
 refine c_nil ?_
 obtain ⟨x3, q4, e⟩ := oB e
 obtain ⟨rfl, q6⟩ := ranO_some q4
 obtain ⟨y1, q7, e⟩ := oB e
 refine c_bk ?_
 refine l_forP (xs := (Pu.ran a0)) (fun (i1 : Nat) (s2 : (List Int)) tm H => tm 8 = vi i1 ∧ ∃ (Z1 V1 : PH) (w2 : Value), Gw Z V Z1 V1 ∧ Sat Z1 V1 H [It.sl Sh.int w2 s2] ∧ tm 3 = w2 ∧ tm 7 = (vi a0) ∧ w2 ≠ .slice none 0 0) (fun i1 x2 s2 s4 tm H3 q2 q3 j1 e1 k1 => ?_) (fun tm H2 jd => ?_) q7 ⟨rfl, _, _, _, Gw.refl _ _, s1, rfl, rfl, n1⟩
 ·obtain ⟨hti0, Z1, V1, w2, g1, s3, h1, h2, n2⟩ := j1
  unfold P.guess_first.b0 at e1
  have hti0 := iv hti0 (ran_x q2).symm
  refine c_sr (o_lss hti0 h2 (c_nil (c_sq ?_)))
  refine c_ift rfl (ran_lt q2) ?_
  refine c_sk (c_sq (c_bk (c_sr (o_mv hti0 ?_))))
  refine o_mv (v := (vi x2)) rfl ?_
  refine c_nil (c_r (o_mv h1 ?_))
  refine o_mv (v := (vi x2)) rfl ?_
  refine o_bsl (s := Sh.int) (us := [vi x2]) (qs := [(0, 1, (vi x2))]) (xs := [x2]) s3 Sh.flat_lt rfl rfl rfl (Els.cons (c := [vi x2]) rfl Els.nil) rfl rfl fun w3 H4 s5 => ?_
  obtain ⟨x4, q8, e1⟩ := oB e1
  refine o_app 1 s5 rfl Sh.flat_lt rfl rfl rfl rfl (s5.curS (s := Sh.int) 0 rfl) pR (fun h => h) (by decide) q8 fun w4 H5 s6 => ?_
  refine o_mv (v := w4) rfl ?_
  refine c_nil (c_end (c_r (o_add hti0 rfl ?_)))
  refine o_mv (v := (vi (Pu.W (x2 + 1)))) rfl ?_
  refine c_nil ?_
  obtain rfl := oJ e1
  exact k1 _ _ ⟨(iv rfl (w_sucR q2 q6)), _, _, _, g1, (s6.pick [1] rfl), rfl, h2, nn_app ((s6.pick [1] rfl).curS (s := Sh.int) 0 rfl) q8⟩
 obtain ⟨hte0, Z2, V2, w5, g2, s7, h3, h4, n3⟩ := jd
 refine c_sr (o_lss hte0 h4 (c_nil (c_sq ?_)))
 refine c_iff rfl (ran_done _) ?_
 refine c_ex ?_
 refine e_c ?_
 refine e_c ?_
 refine e_h ?_
 refine c_sr (o_mv h3 ?_)
 refine o_mv (v := w5) rfl ?_
 refine c_nil (c_rt ?_)
 obtain rfl := oJ e
 exact ⟨.inr rfl, _, (ar1 rfl), _, rfl, (s7.weak g2 hs.zv), n3⟩
/-! slices_Clone_int_int -/
structure Nd.slices_Clone_int_int (T : FuncId → Option AFunc) : Prop where
  own : Has T I.slices_Clone_int_int F.slices_Clone_int_int
set_option maxHeartbeats 1000000 in
theorem X.slices_Clone_int_int {T : FuncId → Option AFunc} (nd : Nd.slices_Clone_int_int T) {Z V : PH} {H : Hp} {v1 : Value} {a0 : (List Int)} (hs : Sat Z V H []) (hp1 : RdS Sh.int V v1 a0) {r : (List Int)} (e : P.slices_Clone_int_int a0 = some r) :
    G T I.slices_Clone_int_int [v1] H (fun rv H' => ∃ (u1 : Value), rv = u1 ∧ Sat Z V H' [It.sl Sh.int u1 r]) := by
 unfold P.slices_Clone_int_int at e
 refine f_mk nd.own ?_
 refine c_sr ?_
 refine o_mv (v := (.slice none 0 0)) rfl ?_
 refine c_nil (c_sq (c_sr ?_))
 refine o_mv (v := v1) rfl ?_
 have h1 := hp1
 rcases h1 with ⟨rfl, rfl⟩ | ⟨b0, o0, us0, x0, rfl, hn0⟩
 ·refine o_eq (p := true) rfl rfl rfl ?_
  have e1 : some [] = some r := by simpa [Pu.app] using e
  refine c_nil (c_bt rfl (c_sr ?_))
  refine o_mv (v := (.slice none 0 0)) rfl ?_
  refine c_nil (c_rt ?_)
  obtain rfl := oJ e1
  exact ⟨.inr rfl, _, (ar1 rfl), _, rfl, (hs.push (sl_nil (s := Sh.int)))⟩
 refine o_eq (p := false) rfl rfl rfl ?_
 refine c_nil (c_bf rfl (c_sk (c_sr ?_)))
 refine o_bsl (s := Sh.int) (us := []) (qs := []) (xs := []) hs Sh.flat_lt rfl rfl rfl Els.nil rfl rfl fun w1 H1 s1 => ?_
 refine o_mv (v := (.slice (some ⟨b0, o0, none⟩) a0.length a0.length)) rfl ?_
 obtain ⟨x1, q1, e⟩ := oB e
 refine o_app 0 s1 rfl Sh.flat_lt rfl rfl rfl rfl hp1 s1.v (fun h => h) (by decide) q1 fun w2 H2 s2 => ?_
 refine o_mv (v := w2) rfl ?_
 refine c_nil (c_rt ?_)
 obtain rfl := oJ e
 exact ⟨.inr rfl, _, (ar1 rfl), _, rfl, s2⟩
/-! guess_next -/
structure Nd.guess_next (T : FuncId → Option AFunc) : Prop where
  own : Has T I.guess_next F.guess_next
  slices_Clone_int_int : Nd.slices_Clone_int_int T
set_option maxHeartbeats 1000000 in
theorem X.guess_next {T : FuncId → Option AFunc} (nd : Nd.guess_next T) {φ : Nat} {Z V : PH} {H : Hp} {v1 : Value} {a0 : (List Int)} {a1 : Int} (hs : Sat Z V H []) (hp1 : RdS Sh.int V v1 a0) {r : (List Int)} (e : P.guess_next φ a0 a1 = some r) :
    G T I.guess_next [v1, vi a1] H (fun rv H' => ∃ (u1 : Value), rv = u1 ∧ Sat Z V H' [It.sl Sh.int u1 r] ∧ (r = [] ↔ u1 = .slice none 0 0)) := by
 unfold P.guess_next at e
 refine f_mk nd.own ?_
 refine c_sr ?_
 refine o_mv (v := (.slice none 0 0)) rfl ?_
 refine c_nil (c_sr ?_)
 refine o_mv (v := v1) rfl ?_
 obtain ⟨x1, q1, e⟩ := oB e
 obtain ⟨Z1, V1, W1, g1, u1, c1, c2, -, c4, c3⟩ := Sat.call (l1 := []) hs
 refine o_call (mc rfl m0) (X.slices_Clone_int_int nd.slices_Clone_int_int c1 (hp1.mono (g1.v.trans u1)) q1) fun w1 H1 i1 => ?_
 obtain ⟨_, rfl, s1⟩ := i1
 have s2 := c3 _ _ s1
 refine o_mv (v := w1) rfl ?_
 refine c_nil (c_sq (c_sr ?_))
 refine o_mv (v := w1) rfl ?_
 refine o_len rfl ((s2.curS (s := Sh.int) 0 rfl)).len ?_
 refine o_sub rfl rfl ?_
 refine o_mv (v := (vi (Pu.W ((x1.length : Int) - 1)))) rfl ?_
 refine c_nil ?_
 obtain ⟨y1, q4, e⟩ := oB e
 refine c_jn (I := fun tm H => ∃ (s5 : ((List Int) × Int)), y1 = .out s5 ∧ (∃ (Z3 V3 : PH), Gw Z1 V1 Z3 V3 ∧ Sat Z3 V3 H [It.sl Sh.int w1 s5.1] ∧ tm 0 = w1 ∧ tm 1 = (vi a1) ∧ tm 5 = (vi s5.2))) (fun k4 => ?_) ?_
 ·refine c_bk ?_
  refine l_whl (fun (s3 : ((List Int) × Int)) tm H => ∃ (Z2 V2 : PH), Gw Z1 V1 Z2 V2 ∧ Sat Z2 V2 H [It.sl Sh.int w1 s3.1] ∧ tm 0 = w1 ∧ tm 1 = (vi a1) ∧ tm 5 = (vi s3.2)) (fun s3 y2 tm H3 j1 e1 k1 k2 k3 => ?_) q4 ⟨_, _, Gw.refl _ _, s2, rfl, rfl, rfl⟩
  obtain ⟨Z2, V2, g2, s4, h1, h2, h3⟩ := j1
  unfold P.guess_next.b0 at e1
  refine c_sq (c_sr (o_mv h3 (o_geq rfl rfl (c_nil ?_))))
  refine c_ifd rfl (fun q5 => ?_) (fun q5 => ?_)
  ·replace e1 := if_t q5 e1
   refine c_sk (c_sq (c_bk (c_sr (o_mv h1 ?_))))
   refine o_mv h3 ?_
   obtain ⟨x3, q6, e1⟩ := oB e1
   refine o_idx (v := w1) rfl rfl (s4.curS (s := Sh.int) 0 rfl) rfl q6 fun p1 q7 => ?_
   refine o_ldi rfl (s4.curS (s := Sh.int) 0 rfl) pR q7 q6 ?_
   refine o_add rfl rfl ?_
   obtain ⟨x4, q8, e1⟩ := oB e1
   refine o_idx (v := w1) rfl rfl (s4.curS (s := Sh.int) 0 rfl) rfl q8 fun p2 q9 => ?_
   refine o_st 0 s4 rfl Sh.flat_lt rfl rfl rfl q9 q8 rfl rfl fun H5 s7 => ?_
   refine c_nil (c_sr (o_mv h1 (o_mv h3 ?_)))
   obtain ⟨x5, q10, e1⟩ := oB e1
   refine o_idx (v := w1) rfl rfl (s7.curS (s := Sh.int) 0 rfl) rfl q10 fun p3 q11 => ?_
   refine o_ldi rfl (s7.curS (s := Sh.int) 0 rfl) pR q11 q10 ?_
   refine o_mv h1 ?_
   refine o_len rfl ((s7.curS (s := Sh.int) 0 rfl)).len ?_
   refine o_add rfl rfl (o_sub rfl rfl (o_mv h3 (o_sub rfl rfl (o_mv h2 ?_))))
   refine o_lss rfl rfl (c_nil ?_)
   refine c_gen (P := fun tm => tm 0 = w1 ∧ tm 1 = (vi a1) ∧ tm 5 = (vi s3.2) ∧ tm 33 = (.bool (decide ((Pu.W ((Pu.W ((Pu.W (x5 + ((Pu.st s3.1 s3.2 (Pu.W (x3 + 1))).length : Int))) - 1)) - s3.2)) < a1))) ∧ True) ⟨h1, h2, h3, rfl, trivial⟩ ?_
   intro _ i3
   obtain ⟨h7, h8, h9, h10, -⟩ := i3
   refine c_ifd h10 (fun q12 => ?_) (fun q12 => ?_)
   ·replace e1 := if_t q12 e1
    refine c_sq (c_sr (o_mv h9 (o_add rfl rfl ?_)))
    refine o_mv (v := (vi (Pu.W (s3.2 + 1)))) rfl ?_
    refine c_nil ?_
    obtain ⟨y3, q15, e1⟩ := oB e1
    refine c_jn (I := fun tm H => ∃ (s10 : ((List Int) × Int)), y3 = .out s10 ∧ (∃ (Z5 V5 : PH), Gw Z2 V2 Z5 V5 ∧ Sat Z5 V5 H [It.sl Sh.int w1 s10.1] ∧ tm 0 = w1 ∧ tm 6 = (vi s10.2))) (fun k8 => ?_) ?_
    ·refine c_bk ?_
     refine l_whl (fun (s8 : ((List Int) × Int)) tm H => ∃ (Z4 V4 : PH), Gw Z2 V2 Z4 V4 ∧ Sat Z4 V4 H [It.sl Sh.int w1 s8.1] ∧ tm 0 = w1 ∧ tm 6 = (vi s8.2)) (fun s8 y4 tm H7 j2 e2 k5 k6 k7 => ?_) q15 ⟨_, _, Gw.refl _ _, s7, h7, rfl⟩
     obtain ⟨Z4, V4, g4, s9, h11, h12⟩ := j2
     unfold P.guess_next.b1 at e2
     refine c_sq (c_sr (o_mv h12 (o_mv h11 ?_)))
     refine o_len rfl ((s9.curS (s := Sh.int) 0 rfl)).len ?_
     refine o_lss rfl rfl (c_nil ?_)
     refine c_ifd rfl (fun q16 => ?_) (fun q16 => ?_)
     ·replace e2 := if_t q16 e2
      refine c_sk (c_sq (c_bk (c_r (o_mv h11 ?_))))
      refine o_mv h12 (o_mv h11 (o_mv h12 (o_sub rfl rfl ?_)))
      obtain ⟨x7, q17, e2⟩ := oB e2
      refine o_idx (v := w1) rfl rfl (s9.curS (s := Sh.int) 0 rfl) rfl q17 fun p4 q18 => ?_
      refine o_ldi rfl (s9.curS (s := Sh.int) 0 rfl) pR q18 q17 ?_
      refine o_add rfl rfl ?_
      obtain ⟨x8, q19, e2⟩ := oB e2
      refine o_idx (v := w1) rfl rfl (s9.curS (s := Sh.int) 0 rfl) rfl q19 fun p5 q20 => ?_
      refine o_st 0 s9 rfl Sh.flat_lt rfl rfl rfl q20 q19 rfl rfl fun H9 s12 => ?_
      refine c_nil (c_end (c_r (o_mv h12 (o_add rfl rfl ?_))))
      refine o_mv (v := (vi (Pu.W (s8.2 + 1)))) rfl ?_
      refine c_nil ?_
      exact k5 _ _ _ (sJ e2) ⟨_, _, g4, s12, h11, rfl⟩
     replace e2 := if_f q16 e2
     refine c_ex ?_
     refine e_c ?_
     refine e_c ?_
     refine e_h ?_
     exact k8 _ _ ⟨_, k6 _ (sJ e2), _, _, g4, s9, h11, h12⟩
    intro _ H8 i5
    obtain ⟨s10, f1, Z5, V5, g5, s11, h13, h14⟩ := i5
    replace e1 := fin_o f1 e1
    split at e1
    case isTrue => cases e1
    rename_i hnn
    refine c_sr (o_mv h13 ?_)
    refine o_mv (v := w1) rfl ?_
    refine c_nil (c_rt ?_)
    have e3 := fin_r (k3 _ (sJ e1)) e
    obtain rfl := oJ e3
    exact ⟨.inr rfl, _, (ar1 rfl), _, rfl, (s11.weak (g1.trans (g2.trans g5)) hs.zv), nn_iff (s11.curS (s := Sh.int) 0 rfl) hnn⟩
   replace e1 := if_f q12 e1
   refine c_sk (c_end (c_r (o_mv h9 (o_sub rfl rfl ?_))))
   refine o_mv (v := (vi (Pu.W (s3.2 - 1)))) rfl ?_
   refine c_nil ?_
   exact k1 _ _ _ (sJ e1) ⟨_, _, g2, s7, h7, h8, rfl⟩
  replace e1 := if_f q5 e1
  refine c_ex ?_
  refine e_c ?_
  refine e_c ?_
  refine e_h ?_
  exact k4 _ _ ⟨_, k2 _ (sJ e1), _, _, g2, s4, h1, h2, h3⟩
 intro _ H4 i6
 obtain ⟨s5, f2, Z3, V3, g3, s6, h4, h5, h6⟩ := i6
 replace e := fin_o f2 e
 refine c_sr ?_
 refine o_mv (v := (.slice none 0 0)) rfl ?_
 refine c_nil (c_rt ?_)
 obtain rfl := oJ e
 exact ⟨.inr rfl, _, (ar1 rfl), _, rfl, (((s6.push (sl_nil (s := Sh.int))).pick [0] rfl).weak (g1.trans g3) hs.zv), ⟨fun _ => rfl, fun _ => rfl⟩⟩
/-! slices_Clone_api_Sym_api_Sym -/
structure Nd.slices_Clone_api_Sym_api_Sym (T : FuncId → Option AFunc) : Prop where
  own : Has T I.slices_Clone_api_Sym_api_Sym F.slices_Clone_api_Sym_api_Sym
set_option maxHeartbeats 1000000 in
theorem X.slices_Clone_api_Sym_api_Sym {T : FuncId → Option AFunc} (nd : Nd.slices_Clone_api_Sym_api_Sym T) {Z V : PH} {H : Hp} {v1 : Value} {a0 : (List Ty.api_Sym)} (hs : Sat Z V H []) (hp1 : RdS Sh.api_Sym Z v1 a0) {r : (List Ty.api_Sym)} (e : P.slices_Clone_api_Sym_api_Sym a0 = some r) :
    G T I.slices_Clone_api_Sym_api_Sym [v1] H (fun rv H' => ∃ (u1 : Value), rv = u1 ∧ Sat Z V H' [It.sl (Sh.ro Sh.api_Sym) u1 r]) := by
 unfold P.slices_Clone_api_Sym_api_Sym at e
 refine f_mk nd.own ?_
 refine c_sr ?_
 refine o_mv (v := (.slice none 0 0)) rfl ?_
 refine c_nil (c_sq (c_sr ?_))
 refine o_mv (v := v1) rfl ?_
 have h1 := hp1
 rcases h1 with ⟨rfl, rfl⟩ | ⟨b0, o0, us0, x0, rfl, hn0⟩
 ·refine o_eq (p := true) rfl rfl rfl ?_
  have e1 : some [] = some r := by simpa [Pu.app] using e
  refine c_nil (c_bt rfl (c_sr ?_))
  refine o_mv (v := (.slice none 0 0)) rfl ?_
  refine c_nil (c_rt ?_)
  obtain rfl := oJ e1
  exact ⟨.inr rfl, _, (ar1 rfl), _, rfl, (hs.push (sl_nil (s := (Sh.ro Sh.api_Sym))))⟩
 refine o_eq (p := false) rfl rfl rfl ?_
 refine c_nil (c_bf rfl (c_sk (c_sr ?_)))
 refine o_bsl (s := (Sh.ro Sh.api_Sym)) (us := []) (qs := []) (xs := []) hs (Sh.ro_lt _) rfl rfl rfl Els.nil rfl rfl fun w1 H1 s1 => ?_
 refine o_mv (v := (.slice (some ⟨b0, o0, none⟩) a0.length a0.length)) rfl ?_
 obtain ⟨x1, q1, e⟩ := oB e
 refine o_app 0 s1 rfl (Sh.ro_lt _) rfl rfl rfl rfl hp1 s1.z (fun h => h) (by decide) q1 fun w2 H2 s2 => ?_
 refine o_mv (v := w2) rfl ?_
 refine c_nil (c_rt ?_)
 obtain rfl := oJ e
 exact ⟨.inr rfl, _, (ar1 rfl), _, rfl, s2⟩
/-! guess_accepts_1 -/
structure Nd.guess_accepts_1 (T : FuncId → Option AFunc) : Prop where
  own : Has T I.guess_accepts_1 F.guess_accepts_1
set_option maxHeartbeats 1000000 in
theorem X.guess_accepts_1 {T : FuncId → Option AFunc} (nd : Nd.guess_accepts_1 T) {Z V : PH} {H : Hp} {o1 : Nat} {v1 : Value} {o2 : Nat} {a0 : Ty.api_Sym} {a1 : Int} {a2 : (List Int)} {a3 : (List Int)} (hs : Sat Z V H [pts o1 (.rw 0 (aU .u64 a2)), pts o2 (.rw 0 [v1])]) (hp1 : RdS Sh.int V v1 a3) {r : Int} (e : P.guess_accepts_1 a0 a1 a2 a3 = some r) :
    G T I.guess_accepts_1 [(.agg #[(.bool a0.Term), vi a0.N]), vi a1, (pV o1 0), (pV o2 0)] H (fun rv H' => rv = (.int .u64 r) ∧ Sat Z V H' [pts o1 (.rw 0 (aU .u64 a2)), pts o2 (.rw 0 [v1])]) := by
 unfold P.guess_accepts_1 at e
 refine f_mk nd.own ?_
 refine c_sr ?_
 refine o_box hs rfl rfl fun b1 H1 s1 => ?_
 refine o_mv (v := (.int .u64 0)) rfl ?_
 refine c_nil (c_sq (c_sr (o_fad rfl (o_ldB 0 s1 rfl rfl rfl rfl ?_))))
 refine o_not rfl (c_nil ?_)
 refine c_if rfl (fun q1 => ?_) (fun q1 => ?_)
 ·replace e := if_t q1 e
  refine c_sr (o_fad rfl (o_ldB 0 s1 rfl rfl rfl rfl ?_))
  refine o_mv (v := (vi a1)) rfl ?_
  obtain ⟨x1, q2, e⟩ := oB e
  refine o_idxa rfl rfl q2 ?_
  obtain ⟨x2, q3, e⟩ := oB e
  refine o_idxa rfl rfl q3 ?_
  obtain ⟨x3, q4, e⟩ := oB e
  refine o_ldar 1 s1 rfl rfl q4 ?_
  refine o_mv (v := (.int .u64 x3)) rfl ?_
  refine c_nil ?_
  refine c_gen (P := fun tm => tm 6 = (.int .u64 x3) ∧ True) ⟨rfl, trivial⟩ ?_
  intro _ i1
  obtain ⟨h1, -⟩ := i1
  refine c_rt ?_
  obtain ⟨d1, rfl⟩ := (hp1).val
  obtain rfl := oJ e
  exact ⟨.inr rfl, _, (ar1 h1), rfl, (s1.pick [1, 2] rfl)⟩
 replace e := ib_f q1 e
 refine c_sk (c_sq (c_sq ?_))
 refine d_start s1 fun n1 H2 s2 q5 d2 => ?_
 refine d_mv (v := (vi a1)) rfl ?_
 obtain ⟨d3, rfl⟩ := (hp1).val
 refine d_ldB (q5 _ _ (ph_some.2 ⟨s2.curB 2 rfl, by simp⟩)) 2 s2 rfl rfl rfl rfl ?_
 refine d_len rfl (hp1).len ?_
 refine d_lss rfl rfl ?_
 refine d_mv (v := (.bool (decide (a1 < (a3.length : Int))))) rfl ?_
 obtain ⟨y1, e1, e⟩ := oB e
 refine d_jn 8 (I := fun tm H => DD n1 13 (List.length F.guess_accepts_1.r3) H ∧ (∃ (Z1 V1 : PH), Gw Z V Z1 V1 ∧ Sat Z1 V1 H [pts o1 (.rw 0 (aU .u64 a2)), pts o2 (.rw 0 [(vS d3 a3)])] ∧ tm 1 = (vi a1) ∧ tm 28 = (.bool y1))) (fun k1 => ?_) ?_
 ·rcases Bool.eq_false_or_eq_true (decide (a1 < (a3.length : Int))) with q6 | q6
  ·replace e1 := if_t q6 e1
   refine d_want rfl q6 ?_
   refine d_ldB (q5 _ _ (ph_some.2 ⟨s2.curB 2 rfl, by simp⟩)) 2 s2 rfl rfl rfl rfl ?_
   refine d_want rfl q6 ?_
   refine d_mv (v := (vi a1)) rfl ?_
   refine d_want rfl q6 ?_
   obtain ⟨x4, q7, e1⟩ := oB e1
   refine d_idx (v := (vS d3 a3)) rfl rfl hp1 rfl q7 fun p1 q8 => ?_
   refine d_want rfl q6 ?_
   refine d_ldi (RdS.low hp1 s2.v q5) rfl hp1 s2.v q8 q7 ?_
   refine d_want rfl q6 ?_
   refine d_fad rfl ?_
   refine d_want rfl q6 ?_
   refine d_ldB (q5 _ _ (ph_some.2 ⟨s2.curB 0 rfl, by simp⟩)) 0 s2 rfl rfl rfl rfl ?_
   refine d_want rfl q6 ?_
   refine d_eql rfl rfl ?_
   refine d_pickt (a := (.bool (decide (x4 = a0.N)))) rfl q6 rfl ?_
   obtain rfl := oJ e1
   exact k1 _ _ _ ⟨d2.up rfl, _, _, Gw.refl _ _, (s2.pick [1, 2] rfl), rfl, rfl⟩
  replace e1 := ib_f q6 e1
  refine d_gn rfl q6 ?_
  refine d_gn rfl q6 ?_
  refine d_gn rfl q6 ?_
  refine d_gn rfl q6 ?_
  refine d_gn rfl q6 ?_
  refine d_gn rfl q6 ?_
  refine d_gn rfl q6 ?_
  refine d_pickf (b := (.bool false)) rfl q6 rfl ?_
  obtain rfl := oJ e1
  exact k1 _ _ _ ⟨d2.up rfl, _, _, Gw.refl _ _, (s2.pick [1, 2] rfl), rfl, rfl⟩
 intro _ H3 _ i2
 obtain ⟨d4, Z1, V1, g1, s3, h2, h3⟩ := i2
 refine d_nil dc_nil ?_
 refine c_if h3 (fun q9 => ?_) (fun q9 => ?_)
 ·replace e := if_t q9 e
  refine c_sr (o_mv h2 (o_add rfl rfl ?_))
  obtain ⟨x5, q10, e⟩ := oB e
  refine o_shl rfl rfl q10 ?_
  refine o_mv (v := (.int .u64 x5)) rfl ?_
  refine c_nil (c_rt ?_)
  obtain rfl := oJ e
  exact ⟨.inr rfl, _, (ar1 rfl), rfl, (s3.weak g1 hs.zv)⟩
 replace e := ib_f q9 e
 refine c_sk (c_sr ?_)
 refine o_mv (v := (.int .u64 0)) rfl ?_
 refine c_nil (c_rt ?_)
 obtain rfl := oJ e
 exact ⟨.inr rfl, _, (ar1 rfl), rfl, (s3.weak g1 hs.zv)⟩
/-! guess_accepts -/
structure Nd.guess_accepts (T : FuncId → Option AFunc) : Prop where
  own : Has T I.guess_accepts F.guess_accepts
  guess_accepts_1 : Nd.guess_accepts_1 T
set_option maxHeartbeats 1000000 in
theorem X.guess_accepts {T : FuncId → Option AFunc} (nd : Nd.guess_accepts T) {φ : Nat} {Z V : PH} {H : Hp} {v1 : Value} {v2 : Value} {a0 : Ty.api_Grammar} {a1 : (List Int)} (hs : Sat Z V H []) (hp1 : RdS Sh.api_Rule V v1 a0.Rules) (hp2 : RdS Sh.int V v2 a1) {r : Bool} (e : P.guess_accepts φ a0 a1 = some r) :
    G T I.guess_accepts [(.agg #[vi a0.Terms, vi a0.Nons, vi a0.Start, v1]), v2] H (fun rv H' => rv = (.bool r) ∧ Sat Z V H' []) := by
 unfold P.guess_accepts at e
 refine f_mk nd.own ?_
 refine c_sr ?_
 obtain ⟨d1, rfl⟩ := (hp1).val
 refine o_box hs rfl rfl fun b1 H1 s1 => ?_
 obtain ⟨d2, rfl⟩ := (hp2).val
 refine o_box s1 rfl rfl fun b2 H2 s2 => ?_
 refine o_mv (v := (.bool false)) rfl ?_
 refine c_nil (c_sr ?_)
 refine o_new (z := aU .u64 (List.replicate 12 0)) s2 fun b3 H3 s3 => ?_
 refine c_nil (c_sr (o_mkfn (mc rfl (mc rfl m0)) ?_))
 refine o_mv (v := (.func (.func I.guess_accepts_1) #[] #[(pV b3 0), (pV b2 0)])) rfl ?_
 refine c_nil (c_sq (c_sr ?_))
 refine o_mv (v := (.bool true)) rfl ?_
 refine c_nil ?_
 obtain ⟨y1, q3, e⟩ := oB e
 refine c_jn (I := fun tm H => ∃ (s6 : ((List Int) × Bool)), y1 = .out s6 ∧ (∃ (Z2 V2 : PH), Gw Z V Z2 V2 ∧ Sat Z2 V2 H [pts b1 (.rw 0 [vi a0.Terms, vi a0.Nons, vi a0.Start, (vS d1 a0.Rules)]), pts b2 (.rw 0 [(vS d2 a1)]), pts b3 (.rw 0 (aU .u64 s6.1))] ∧ tm 2 = (pV b1 0) ∧ tm 3 = (pV b2 0) ∧ tm 5 = (pV b3 0) ∧ tm 6 = (.func (.func I.guess_accepts_1) #[] #[(pV b3 0), (pV b2 0)]) ∧ tm 7 = (.bool s6.2))) (fun k4 => ?_) ?_
 ·refine c_bk ?_
  refine l_whl (fun (s4 : ((List Int) × Bool)) tm H => ∃ (Z1 V1 : PH), Gw Z V Z1 V1 ∧ Sat Z1 V1 H [pts b1 (.rw 0 [vi a0.Terms, vi a0.Nons, vi a0.Start, (vS d1 a0.Rules)]), pts b2 (.rw 0 [(vS d2 a1)]), pts b3 (.rw 0 (aU .u64 s4.1))] ∧ tm 2 = (pV b1 0) ∧ tm 3 = (pV b2 0) ∧ tm 5 = (pV b3 0) ∧ tm 6 = (.func (.func I.guess_accepts_1) #[] #[(pV b3 0), (pV b2 0)]) ∧ tm 7 = (.bool s4.2)) (fun s4 y2 tm H5 j1 e1 k1 k2 k3 => ?_) q3 ⟨_, _, Gw.refl _ _, (s3.pick [2, 1, 0] rfl), rfl, rfl, rfl, rfl, rfl⟩
  obtain ⟨Z1, V1, g1, s5, h1, h2, h3, h4, h5⟩ := j1
  unfold P.guess_accepts.b0 at e1
  refine c_sq (c_sr (o_mv h5 (c_nil ?_)))
  refine c_if rfl (fun q4 => ?_) (fun q4 => ?_)
  ·replace e1 := if_t q4 e1
   refine c_sk (c_bk (c_sr ?_))
   refine o_mv (v := (.bool false)) rfl ?_
   refine c_nil (c_sr (o_fad h1 (o_ldB 0 s5 rfl rfl rfl rfl (o_len rfl ((hp1.mono g1.v)).len ?_))))
   refine o_mv (v := (vi 0)) rfl ?_
   refine c_nil ?_
   obtain ⟨y3, q7, e1⟩ := oB e1
   refine c_bk ?_
   refine l_forP (xs := a0.Rules) (fun (i2 : Nat) (s8 : ((List Int) × Bool)) tm H => tm 21 = vi i2 ∧ ∃ (Z3 V3 : PH), Gw Z1 V1 Z3 V3 ∧ Sat Z3 V3 H [pts b1 (.rw 0 [vi a0.Terms, vi a0.Nons, vi a0.Start, (vS d1 a0.Rules)]), pts b2 (.rw 0 [(vS d2 a1)]), pts b3 (.rw 0 (aU .u64 s8.1))] ∧ tm 2 = (pV b1 0) ∧ tm 3 = (pV b2 0) ∧ tm 5 = (pV b3 0) ∧ tm 6 = (.func (.func I.guess_accepts_1) #[] #[(pV b3 0), (pV b2 0)]) ∧ tm 7 = (.bool s8.2) ∧ tm 19 = (vS d1 a0.Rules) ∧ tm 20 = (vN a0.Rules)) (fun i2 x2 s8 s10 tm H8 q5 q6 j2 e2 k5 => ?_) (fun tm H7 jd => ?_) q7 ⟨rfl, _, _, Gw.refl _ _, s5, h1, h2, h3, h4, rfl, rfl, rfl⟩
   ·obtain ⟨hti1, Z3, V3, g3, s9, h11, h12, h13, h14, h15, h16, h17⟩ := j2
    unfold P.guess_accepts.b1 at e2
    refine c_sr (o_lss hti1 h17 (c_nil (c_sq ?_)))
    refine c_ift rfl (Int.ofNat_lt.2 q6) ?_
    refine c_sk (c_sq (c_bk (c_sr ?_)))
    refine o_idx (v := (vS d1 a0.Rules)) h16 hti1 (hp1.mono (g1.trans g3).v) rfl (Pu.ix_nat.trans q5) fun p1 q8 => ?_
    refine o_lda rfl (hp1.mono (g1.trans g3).v) s9.v rfl q8 (Pu.ix_nat.trans q5) fun c1 h18 => ?_
    obtain ⟨w1, rfl, h19⟩ := Sh.api_Rule_op h18
    refine o_new s9 fun b4 H9 s11 => ?_
    obtain ⟨d3, rfl⟩ := (h19).val
    refine o_stB (us' := [vi x2.Left, (vS d3 x2.Right)]) 0 s11 rfl rfl rfl rfl rfl rfl rfl fun H10 s12 => ?_
    refine c_nil (c_sr (o_ldB 2 s12 rfl h12 rfl rfl (o_len rfl ((hp2.mono (g1.trans g3).v)).len (o_add rfl rfl ?_))))
    refine o_mv (v := (vi 0)) rfl ?_
    refine c_nil ?_
    obtain ⟨x4, q11, e2⟩ := oB e2
    obtain ⟨rfl, q13⟩ := ranO_some q11
    obtain ⟨y4, q14, e2⟩ := oB e2
    refine c_bk ?_
    refine l_forP (xs := (Pu.ran (Pu.W ((a1.length : Int) + 1)))) (fun (i3 : Nat) (s13 : ((List Int) × Bool)) tm H => tm 28 = vi i3 ∧ ∃ (Z4 V4 : PH), Gw Z3 V3 Z4 V4 ∧ Sat Z4 V4 H [pts b1 (.rw 0 [vi a0.Terms, vi a0.Nons, vi a0.Start, (vS d1 a0.Rules)]), pts b2 (.rw 0 [(vS d2 a1)]), pts b3 (.rw 0 (aU .u64 s13.1)), pts b4 (.rw 0 [vi x2.Left, (vS d3 x2.Right)])] ∧ tm 2 = (pV b1 0) ∧ tm 3 = (pV b2 0) ∧ tm 5 = (pV b3 0) ∧ tm 6 = (.func (.func I.guess_accepts_1) #[] #[(pV b3 0), (pV b2 0)]) ∧ tm 7 = (.bool s13.2) ∧ tm 9 = (pV b4 0) ∧ tm 19 = (vS d1 a0.Rules) ∧ tm 20 = (vN a0.Rules) ∧ tm 21 = (vJ i2) ∧ tm 27 = (vi (Pu.W ((a1.length : Int) + 1)))) (fun i3 x3 s13 s15 tm H12 q9 q10 j3 e3 k6 => ?_) (fun tm H11 jd => ?_) q14 ⟨rfl, _, _, Gw.refl _ _, (s12.pick [1, 2, 3, 0] rfl), h11, h12, h13, h14, h15, rfl, h16, h17, hti1, rfl⟩
    ·obtain ⟨hti2, Z4, V4, g4, s14, h20, h21, h22, h23, h24, h25, h26, h27, h28, h29⟩ := j3
     unfold P.guess_accepts.b2 at e3
     have hti2 := iv hti2 (ran_x q9).symm
     refine c_sr (o_lss hti2 h29 (c_nil (c_sq ?_)))
     refine c_ift rfl (ran_lt q9) ?_
     refine c_sk (c_sq (c_bk (c_sr (o_mv hti2 ?_))))
     refine o_mv (v := (vi x3)) rfl ?_
     refine c_nil (c_sr ?_)
     refine o_mv (v := (vi x3)) rfl ?_
     obtain ⟨x5, q15, e3⟩ := oB e3
     refine o_shl rfl rfl q15 ?_
     refine o_mv (v := (.int .u64 x5)) rfl ?_
     refine c_nil (c_sq (c_sr (o_fad h25 (o_ldB 3 s14 rfl rfl rfl rfl ?_))))
     refine o_len rfl ((h19.mono g4.v)).len ?_
     refine o_mv (v := (vi 0)) rfl ?_
     refine c_nil ?_
     refine c_gen (P := fun tm => tm 2 = (pV b1 0) ∧ tm 3 = (pV b2 0) ∧ tm 5 = (pV b3 0) ∧ tm 6 = (.func (.func I.guess_accepts_1) #[] #[(pV b3 0), (pV b2 0)]) ∧ tm 7 = (.bool s13.2) ∧ tm 9 = (pV b4 0) ∧ tm 10 = (vi x3) ∧ tm 11 = (.int .u64 x5) ∧ tm 19 = (vS d1 a0.Rules) ∧ tm 20 = (vN a0.Rules) ∧ tm 21 = (vJ i2) ∧ tm 27 = (vi (Pu.W ((a1.length : Int) + 1))) ∧ tm 28 = (vi x3) ∧ tm 34 = (vS d3 x2.Right) ∧ tm 35 = (vN x2.Right) ∧ tm 36 = (vi 0) ∧ True) ⟨h20, h21, h22, h23, h24, h25, rfl, rfl, h26, h27, h28, h29, hti2, rfl, rfl, rfl, trivial⟩ ?_
     intro _ i4
     obtain ⟨h30, h31, h32, h33, h34, h35, h36, h37, h38, h39, h40, h41, h42, h43, h44, h45, -⟩ := i4
     obtain ⟨y5, q18, e3⟩ := oB e3
     refine c_bk ?_
     refine l_forP (xs := x2.Right) (fun (i5 : Nat) (s16 : Int) tm H => tm 36 = vi i5 ∧ ∃ (Z5 V5 : PH), Gw Z4 V4 Z5 V5 ∧ Sat Z5 V5 H [pts b1 (.rw 0 [vi a0.Terms, vi a0.Nons, vi a0.Start, (vS d1 a0.Rules)]), pts b2 (.rw 0 [(vS d2 a1)]), pts b3 (.rw 0 (aU .u64 s13.1)), pts b4 (.rw 0 [vi x2.Left, (vS d3 x2.Right)])] ∧ tm 2 = (pV b1 0) ∧ tm 3 = (pV b2 0) ∧ tm 5 = (pV b3 0) ∧ tm 6 = (.func (.func I.guess_accepts_1) #[] #[(pV b3 0), (pV b2 0)]) ∧ tm 7 = (.bool s13.2) ∧ tm 9 = (pV b4 0) ∧ tm 10 = (vi x3) ∧ tm 11 = (.int .u64 s16) ∧ tm 19 = (vS d1 a0.Rules) ∧ tm 20 = (vN a0.Rules) ∧ tm 21 = (vJ i2) ∧ tm 27 = (vi (Pu.W ((a1.length : Int) + 1))) ∧ tm 28 = (vi x3) ∧ tm 34 = (vS d3 x2.Right) ∧ tm 35 = (vN x2.Right)) (fun i5 x6 s16 s18 tm H14 q16 q17 j4 e4 k7 => ?_) (fun tm H13 jd => ?_) q18 ⟨h45, _, _, Gw.refl _ _, s14, h30, h31, h32, h33, h34, h35, h36, h37, h38, h39, h40, h41, h42, h43, h44⟩
     ·obtain ⟨hti3, Z5, V5, g5, s17, h46, h47, h48, h49, h50, h51, h52, h53, h54, h55, h56, h57, h58, h59, h60⟩ := j4
      unfold P.guess_accepts.b3 at e4
      refine c_sr (o_lss hti3 h60 (c_nil (c_sq ?_)))
      refine c_ift rfl (Int.ofNat_lt.2 q17) ?_
      refine c_sk (c_sq (c_bk (c_sr ?_)))
      refine o_idx (v := (vS d3 x2.Right)) h59 hti3 (h19.mono (g4.trans g5).v) rfl (Pu.ix_nat.trans q16) fun p2 q19 => ?_
      refine o_lda rfl (h19.mono (g4.trans g5).v) s17.v rfl q19 (Pu.ix_nat.trans q16) fun c2 h61 => ?_
      obtain rfl := h61
      refine o_new s17 fun b5 H15 s19 => ?_
      refine o_stB (us' := [(.bool x6.Term), vi x6.N]) 0 s19 rfl rfl rfl rfl rfl rfl rfl fun H16 s20 => ?_
      refine c_nil (c_sr ?_)
      refine o_mv (v := (.int .u64 0)) rfl ?_
      refine c_nil (c_sq (c_sr (o_mv h52 ?_)))
      refine o_mv (v := (vi x3)) rfl ?_
      refine c_nil ?_
      obtain ⟨y6, q22, e4⟩ := oB e4
      refine c_jn (I := fun tm H => ∃ (s23 : (Int × Int)), y6 = .out s23 ∧ (∃ (Z7 V7 : PH), Gw Z5 V5 Z7 V7 ∧ Sat Z7 V7 H [pts b1 (.rw 0 [vi a0.Terms, vi a0.Nons, vi a0.Start, (vS d1 a0.Rules)]), pts b2 (.rw 0 [(vS d2 a1)]), pts b3 (.rw 0 (aU .u64 s13.1)), pts b4 (.rw 0 [vi x2.Left, (vS d3 x2.Right)]), pts b5 (.rw 0 [(.bool x6.Term), vi x6.N])] ∧ tm 2 = (pV b1 0) ∧ tm 3 = (pV b2 0) ∧ tm 5 = (pV b3 0) ∧ tm 6 = (.func (.func I.guess_accepts_1) #[] #[(pV b3 0), (pV b2 0)]) ∧ tm 7 = (.bool s13.2) ∧ tm 9 = (pV b4 0) ∧ tm 10 = (vi x3) ∧ tm 11 = (.int .u64 s16) ∧ tm 13 = (pV b5 0) ∧ tm 14 = (.int .u64 s23.1) ∧ tm 15 = (vi s23.2) ∧ tm 19 = (vS d1 a0.Rules) ∧ tm 20 = (vN a0.Rules) ∧ tm 21 = (vJ i2) ∧ tm 27 = (vi (Pu.W ((a1.length : Int) + 1))) ∧ tm 28 = (vi x3) ∧ tm 34 = (vS d3 x2.Right) ∧ tm 35 = (vN x2.Right) ∧ tm 36 = (vJ i5))) (fun k11 => ?_) ?_
      ·refine c_bk ?_
       refine l_whl (fun (s21 : (Int × Int)) tm H => ∃ (Z6 V6 : PH), Gw Z5 V5 Z6 V6 ∧ Sat Z6 V6 H [pts b1 (.rw 0 [vi a0.Terms, vi a0.Nons, vi a0.Start, (vS d1 a0.Rules)]), pts b2 (.rw 0 [(vS d2 a1)]), pts b3 (.rw 0 (aU .u64 s13.1)), pts b4 (.rw 0 [vi x2.Left, (vS d3 x2.Right)]), pts b5 (.rw 0 [(.bool x6.Term), vi x6.N])] ∧ tm 2 = (pV b1 0) ∧ tm 3 = (pV b2 0) ∧ tm 5 = (pV b3 0) ∧ tm 6 = (.func (.func I.guess_accepts_1) #[] #[(pV b3 0), (pV b2 0)]) ∧ tm 7 = (.bool s13.2) ∧ tm 9 = (pV b4 0) ∧ tm 10 = (vi x3) ∧ tm 11 = (.int .u64 s16) ∧ tm 13 = (pV b5 0) ∧ tm 14 = (.int .u64 s21.1) ∧ tm 15 = (vi s21.2) ∧ tm 19 = (vS d1 a0.Rules) ∧ tm 20 = (vN a0.Rules) ∧ tm 21 = (vJ i2) ∧ tm 27 = (vi (Pu.W ((a1.length : Int) + 1))) ∧ tm 28 = (vi x3) ∧ tm 34 = (vS d3 x2.Right) ∧ tm 35 = (vN x2.Right) ∧ tm 36 = (vJ i5)) (fun s21 y7 tm H18 j5 e5 k8 k9 k10 => ?_) q22 ⟨_, _, Gw.refl _ _, (s20.pick [1, 2, 3, 4, 0] rfl), h46, h47, h48, h49, h50, h51, h52, h53, rfl, rfl, rfl, h54, h55, h56, h57, h58, h59, h60, hti3⟩
       obtain ⟨Z6, V6, g6, s22, h62, h63, h64, h65, h66, h67, h68, h69, h70, h71, h72, h73, h74, h75, h76, h77, h78, h79, h80⟩ := j5
       unfold P.guess_accepts.b4 at e5
       refine c_sq (c_sr (o_mv h72 (o_ldB 1 s22 rfl h63 rfl rfl (o_len rfl ((hp2.mono (g1.trans (g3.trans (g4.trans (g5.trans g6)))).v)).len ?_))))
       refine o_leq rfl rfl (c_nil ?_)
       refine c_ifd rfl (fun q23 => ?_) (fun q23 => ?_)
       ·replace e5 := if_t q23 e5
        refine c_sk (c_sq (c_bk (c_sr (o_mv h69 ?_))))
        refine o_mv h72 ?_
        obtain ⟨x8, q24, e5⟩ := oB e5
        refine o_shr rfl rfl q24 (o_and rfl rfl (o_eql rfl rfl (c_nil ?_)))
        obtain ⟨y8, e6, e5⟩ := oB e5
        refine c_jn (I := fun tm H => ∃ (Z8 V8 : PH), Gw Z6 V6 Z8 V8 ∧ Sat Z8 V8 H [pts b1 (.rw 0 [vi a0.Terms, vi a0.Nons, vi a0.Start, (vS d1 a0.Rules)]), pts b2 (.rw 0 [(vS d2 a1)]), pts b3 (.rw 0 (aU .u64 s13.1)), pts b4 (.rw 0 [vi x2.Left, (vS d3 x2.Right)]), pts b5 (.rw 0 [(.bool x6.Term), vi x6.N])] ∧ tm 2 = (pV b1 0) ∧ tm 3 = (pV b2 0) ∧ tm 5 = (pV b3 0) ∧ tm 6 = (.func (.func I.guess_accepts_1) #[] #[(pV b3 0), (pV b2 0)]) ∧ tm 7 = (.bool s13.2) ∧ tm 9 = (pV b4 0) ∧ tm 10 = (vi x3) ∧ tm 11 = (.int .u64 s16) ∧ tm 13 = (pV b5 0) ∧ tm 14 = (.int .u64 y8) ∧ tm 15 = (vi s21.2) ∧ tm 19 = (vS d1 a0.Rules) ∧ tm 20 = (vN a0.Rules) ∧ tm 21 = (vJ i2) ∧ tm 27 = (vi (Pu.W ((a1.length : Int) + 1))) ∧ tm 28 = (vi x3) ∧ tm 34 = (vS d3 x2.Right) ∧ tm 35 = (vN x2.Right) ∧ tm 36 = (vJ i5)) (fun k12 => ?_) ?_
        ·refine c_ifd rfl (fun q25 => ?_) (fun q25 => ?_)
         ·replace e6 := if_t q25 e6
          refine c_r (o_mv h71 (o_mv h65 (o_ldB 4 s22 rfl h70 rfl rfl (o_mv h72 ?_))))
          obtain ⟨x9, q26, e6⟩ := oB e6
          obtain ⟨Z9, V9, W1, g9, u1, c3, c4, -, c6, c5⟩ := Sat.call (l1 := [pts b3 (.rw 0 (aU .u64 s13.1)), pts b2 (.rw 0 [(vS d2 a1)])]) (l2 := [pts b1 (.rw 0 [vi a0.Terms, vi a0.Nons, vi a0.Start, (vS d1 a0.Rules)]), pts b4 (.rw 0 [vi x2.Left, (vS d3 x2.Right)]), pts b5 (.rw 0 [(.bool x6.Term), vi x6.N])]) (s22.pick [2, 1, 0, 3, 4] rfl)
          refine o_callv rfl (mc rfl (mc rfl m0)) (X.guess_accepts_1 nd.guess_accepts_1 (a2 := s13.1) (a3 := a1) c3 (hp2.mono (((g1.trans (g3.trans (g4.trans (g5.trans g6)))).trans g9).v.trans u1)) q26) fun _ H21 i7 => ?_
          obtain ⟨rfl, s26⟩ := i7
          have s27 := c5 _ _ s26
          refine o_or rfl rfl ?_
          refine o_mv (v := (.int .u64 (Pu.bor .u64 s21.1 x9))) rfl ?_
          refine c_nil ?_
          obtain rfl := oJ e6
          exact k12 _ _ ⟨_, _, g9, (s27.pick [2, 1, 0, 3, 4] rfl), h62, h63, h64, h65, h66, h67, h68, h69, h70, rfl, h72, h73, h74, h75, h76, h77, h78, h79, h80⟩
         replace e6 := if_f q25 e6
         refine c_sk ?_
         obtain rfl := oJ e6
         exact k12 _ _ ⟨_, _, Gw.refl _ _, s22, h62, h63, h64, h65, h66, h67, h68, h69, h70, h71, h72, h73, h74, h75, h76, h77, h78, h79, h80⟩
        intro _ H20 i8
        obtain ⟨Z8, V8, g8, s25, h100, h101, h102, h103, h104, h105, h106, h107, h108, h109, h110, h111, h112, h113, h114, h115, h116, h117, h118⟩ := i8
        refine c_end (c_r (o_mv h110 (o_add rfl rfl ?_)))
        refine o_mv (v := (vi (Pu.W (s21.2 + 1)))) rfl ?_
        refine c_nil ?_
        exact k8 _ _ _ (sJ e5) ⟨_, _, (g6.trans g8), s25, h100, h101, h102, h103, h104, h105, h106, h107, h108, h109, rfl, h111, h112, h113, h114, h115, h116, h117, h118⟩
       replace e5 := if_f q23 e5
       refine c_ex ?_
       refine e_c ?_
       refine e_c ?_
       refine e_h ?_
       exact k11 _ _ ⟨_, k9 _ (sJ e5), _, _, g6, s22, h62, h63, h64, h65, h66, h67, h68, h69, h70, h71, h72, h73, h74, h75, h76, h77, h78, h79, h80⟩
      intro _ H19 i9
      obtain ⟨s23, f1, Z7, V7, g7, s24, h81, h82, h83, h84, h85, h86, h87, h88, h89, h90, h91, h92, h93, h94, h95, h96, h97, h98, h99⟩ := i9
      replace e4 := fin_o f1 e4
      refine c_r (o_mv h90 ?_)
      refine o_mv (v := (.int .u64 s23.1)) rfl ?_
      refine c_nil (c_end (c_r (o_add h99 rfl ?_)))
      refine o_mv (v := (vi (Pu.W ((i5 : Int) + 1)))) rfl ?_
      refine c_nil ?_
      obtain rfl := oJ e4
      exact k7 _ _ ⟨(iv rfl (w_suc q17 ((h19.mono g4.v)).bd)), _, _, (g5.trans g7), (s24.pick [0, 1, 2, 3] rfl), h81, h82, h83, h84, h85, h86, h87, rfl, h92, h93, h94, h95, h96, h97, h98⟩
     obtain ⟨hte3, Z10, V10, g10, s28, h119, h120, h121, h122, h123, h124, h125, h126, h127, h128, h129, h130, h131, h132, h133⟩ := jd
     refine c_sr (o_lss hte3 h133 (c_nil (c_sq ?_)))
     refine c_iff rfl (Int.lt_irrefl _) ?_
     refine c_ex ?_
     refine e_c ?_
     refine e_c ?_
     refine e_h ?_
     refine c_sr (o_mv h126 (o_fad h124 (o_ldB 3 s28 rfl rfl rfl rfl (o_mv h125 ?_))))
     obtain ⟨x10, q27, e3⟩ := oB e3
     refine o_idxa h121 rfl q27 ?_
     obtain ⟨x11, q28, e3⟩ := oB e3
     refine o_idxa rfl rfl q28 ?_
     obtain ⟨x12, q29, e3⟩ := oB e3
     refine o_ldar 2 s28 rfl rfl q29 (o_andNot rfl rfl (o_neq rfl rfl (c_nil ?_)))
     refine c_gen (P := fun tm => tm 2 = (pV b1 0) ∧ tm 3 = (pV b2 0) ∧ tm 5 = (pV b3 0) ∧ tm 6 = (.func (.func I.guess_accepts_1) #[] #[(pV b3 0), (pV b2 0)]) ∧ tm 7 = (.bool s13.2) ∧ tm 9 = (pV b4 0) ∧ tm 10 = (vi x3) ∧ tm 11 = (.int .u64 y5) ∧ tm 19 = (vS d1 a0.Rules) ∧ tm 20 = (vN a0.Rules) ∧ tm 21 = (vJ i2) ∧ tm 27 = (vi (Pu.W ((a1.length : Int) + 1))) ∧ tm 28 = (vi x3) ∧ tm 68 = (.bool (decide ((Pu.bandn .u64 y5 x12) ≠ 0))) ∧ True) ⟨h119, h120, h121, h122, h123, h124, h125, h126, h127, h128, h129, h130, h131, rfl, trivial⟩ ?_
     intro _ i10
     obtain ⟨h134, h135, h136, h137, h138, h139, h140, h141, h142, h143, h144, h145, h146, h147, -⟩ := i10
     obtain ⟨y9, e7, e3⟩ := oB e3
     refine c_jn (I := fun tm H => ∃ (Z11 V11 : PH), Gw Z10 V10 Z11 V11 ∧ Sat Z11 V11 H [pts b1 (.rw 0 [vi a0.Terms, vi a0.Nons, vi a0.Start, (vS d1 a0.Rules)]), pts b2 (.rw 0 [(vS d2 a1)]), pts b3 (.rw 0 (aU .u64 y9.1)), pts b4 (.rw 0 [vi x2.Left, (vS d3 x2.Right)])] ∧ tm 2 = (pV b1 0) ∧ tm 3 = (pV b2 0) ∧ tm 5 = (pV b3 0) ∧ tm 6 = (.func (.func I.guess_accepts_1) #[] #[(pV b3 0), (pV b2 0)]) ∧ tm 7 = (.bool y9.2) ∧ tm 9 = (pV b4 0) ∧ tm 19 = (vS d1 a0.Rules) ∧ tm 20 = (vN a0.Rules) ∧ tm 21 = (vJ i2) ∧ tm 27 = (vi (Pu.W ((a1.length : Int) + 1))) ∧ tm 28 = (vi x3)) (fun k13 => ?_) ?_
     ·refine c_ifd h147 (fun q30 => ?_) (fun q30 => ?_)
      ·replace e7 := if_t q30 e7
       refine c_sq ?_
       refine d_start s28 fun n1 H24 s30 q31 d4 => ?_
       refine d_fad h139 ?_
       refine d_ldB (q31 _ _ (ph_some.2 ⟨s30.curB 3 rfl, by simp⟩)) 3 s30 rfl rfl rfl rfl ?_
       refine d_mv h140 ?_
       obtain ⟨x13, q32, e7⟩ := oB e7
       refine d_idxa h136 rfl q32 ?_
       obtain ⟨x14, q33, e7⟩ := oB e7
       refine d_idxa rfl rfl q33 ?_
       obtain ⟨x15, q34, e7⟩ := oB e7
       refine d_ldar (q31 _ _ (ph_some.2 ⟨s30.curB 2 rfl, by simp⟩)) 2 s30 rfl rfl q34 ?_
       refine d_mv h141 ?_
       refine d_or rfl rfl ?_
       obtain ⟨x16, q35, e7⟩ := oB e7
       refine d_idxa h136 rfl q35 ?_
       obtain ⟨x17, q36, e7⟩ := oB e7
       refine d_idxa rfl rfl q36 ?_
       obtain ⟨x18, q37, e7⟩ := oB e7
       refine d_star 2 s30 rfl rfl rfl q37 fun H25 s31 k14 => ?_
       have d5 := d4.keep k14
       refine d_nil dc_nil ?_
       refine c_gen (P := fun tm => tm 2 = (pV b1 0) ∧ tm 3 = (pV b2 0) ∧ tm 5 = (pV b3 0) ∧ tm 6 = (.func (.func I.guess_accepts_1) #[] #[(pV b3 0), (pV b2 0)]) ∧ tm 9 = (pV b4 0) ∧ tm 19 = (vS d1 a0.Rules) ∧ tm 20 = (vN a0.Rules) ∧ tm 21 = (vJ i2) ∧ tm 27 = (vi (Pu.W ((a1.length : Int) + 1))) ∧ tm 28 = (vi x3) ∧ True) ⟨h134, h135, h136, h137, h139, h142, h143, h144, h145, h146, trivial⟩ ?_
       intro _ i11
       obtain ⟨h159, h160, h161, h162, h163, h164, h165, h166, h167, h168, -⟩ := i11
       refine c_r ?_
       refine o_mv (v := (.bool true)) rfl ?_
       refine c_nil ?_
       obtain rfl := oJ e7
       exact k13 _ _ ⟨_, _, Gw.refl _ _, s31, h159, h160, h161, h162, rfl, h163, h164, h165, h166, h167, h168⟩
      replace e7 := if_f q30 e7
      refine c_sk ?_
      obtain rfl := oJ e7
      exact k13 _ _ ⟨_, _, Gw.refl _ _, s28, h134, h135, h136, h137, h138, h139, h142, h143, h144, h145, h146⟩
     intro _ H23 i12
     obtain ⟨Z11, V11, g11, s29, h148, h149, h150, h151, h152, h153, h154, h155, h156, h157, h158⟩ := i12
     refine c_end (c_r (o_add h158 rfl ?_))
     refine o_mv (v := (vi (Pu.W (x3 + 1)))) rfl ?_
     refine c_nil ?_
     obtain rfl := oJ e3
     exact k6 _ _ ⟨(iv rfl (w_sucR q9 q13)), _, _, (g4.trans (g10.trans g11)), s29, h148, h149, h150, h151, h152, h153, h154, h155, h156, h157⟩
    obtain ⟨hte2, Z12, V12, g12, s32, h169, h170, h171, h172, h173, h174, h175, h176, h177, h178⟩ := jd
    refine c_sr (o_lss hte2 h178 (c_nil (c_sq ?_)))
    refine c_iff rfl (ran_done _) ?_
    refine c_ex ?_
    refine e_c ?_
    refine e_c ?_
    refine e_h ?_
    refine c_end (c_r (o_add h177 rfl ?_))
    refine o_mv (v := (vi (Pu.W ((i2 : Int) + 1)))) rfl ?_
    refine c_nil ?_
    obtain rfl := oJ e2
    exact k5 _ _ ⟨(iv rfl (w_suc q6 ((hp1.mono g1.v)).bd)), _, _, (g3.trans g12), (s32.pick [0, 1, 2] rfl), h169, h170, h171, h172, h173, h175, h176⟩
   obtain ⟨hte1, Z13, V13, g13, s33, h179, h180, h181, h182, h183, h184, h185⟩ := jd
   refine c_sr (o_lss hte1 h185 (c_nil (c_sq ?_)))
   refine c_iff rfl (Int.lt_irrefl _) ?_
   refine c_ex ?_
   refine e_c ?_
   refine e_c ?_
   refine e_h ?_
   refine c_end ?_
   exact k1 _ _ _ (sJ e1) ⟨_, _, (g1.trans g13), s33, h179, h180, h181, h182, h183⟩
  replace e1 := ib_f q4 e1
  refine c_ex ?_
  refine e_c ?_
  refine e_c ?_
  refine e_h ?_
  exact k4 _ _ ⟨_, k2 _ (sJ e1), _, _, g1, s5, h1, h2, h3, h4, h5⟩
 intro _ H6 i13
 obtain ⟨s6, f2, Z2, V2, g2, s7, h6, h7, h8, h9, h10⟩ := i13
 replace e := fin_o f2 e
 refine c_sr ?_
 obtain ⟨x19, q38, e⟩ := oB e
 refine o_idxa h8 rfl q38 ?_
 obtain ⟨x20, q39, e⟩ := oB e
 refine o_idxa rfl rfl q39 ?_
 obtain ⟨x21, q40, e⟩ := oB e
 refine o_ldar 2 s7 rfl rfl q40 (o_ldB 1 s7 rfl h7 rfl rfl (o_len rfl ((hp2.mono g2.v)).len ?_))
 obtain ⟨x22, q41, e⟩ := oB e
 refine o_shr rfl rfl q41 (o_and rfl rfl (o_eql rfl rfl ?_))
 refine o_mv (v := (.bool (decide ((Pu.band .u64 x22 1) = 1)))) rfl ?_
 refine c_nil (c_rt ?_)
 obtain rfl := oJ e
 exact ⟨.inr rfl, _, (ar1 rfl), rfl, ((s7.pick [] rfl).weak g2 hs.zv)⟩
/-! guess_agrees -/
structure Nd.guess_agrees (T : FuncId → Option AFunc) : Prop where
  own : Has T I.guess_agrees F.guess_agrees
  guess_accepts : Nd.guess_accepts T
set_option maxHeartbeats 1000000 in
theorem X.guess_agrees {T : FuncId → Option AFunc} (nd : Nd.guess_agrees T) {φ : Nat} {Z V : PH} {H : Hp} {v1 : Value} {v2 : Value} {v3 : Value} {a0 : Ty.api_Grammar} {a1 : (List (List Int))} {a2 : (List (List Int))} (hs : Sat Z V H []) (hp1 : RdS Sh.api_Rule V v1 a0.Rules) (hp2 : RdS sI1 V v2 a1) (hp3 : RdS sI1 V v3 a2) {r : Bool} (e : P.guess_agrees φ a0 a1 a2 = some r) :
    G T I.guess_agrees [(.agg #[vi a0.Terms, vi a0.Nons, vi a0.Start, v1]), v2, v3] H (fun rv H' => rv = (.bool r) ∧ Sat Z V H' []) := by
 unfold P.guess_agrees at e
 refine f_mk nd.own ?_
 refine c_sr ?_
 obtain ⟨d1, rfl⟩ := (hp1).val
 refine o_box hs rfl rfl fun b1 H1 s1 => ?_
 refine o_mv (v := (.bool false)) rfl ?_
 refine c_nil (c_sq (c_sr ?_))
 refine o_mv (v := v2) rfl ?_
 refine o_len rfl (hp2).len ?_
 refine o_mv (v := (vi 0)) rfl ?_
 refine c_nil ?_
 obtain ⟨y1, q3, e⟩ := oB e
 refine c_jn (I := fun tm H => ∃ (s4 : Unit), y1 = .out s4 ∧ (∃ (Z2 V2 : PH), Gw Z V Z2 V2 ∧ Sat Z2 V2 H [pts b1 (.rw 0 [vi a0.Terms, vi a0.Nons, vi a0.Start, (vS d1 a0.Rules)])] ∧ tm 2 = v3 ∧ tm 3 = (pV b1 0) ∧ tm 11 = v2 ∧ tm 12 = (vN a1))) (fun k4 => ?_) ?_
 ·refine c_bk ?_
  refine l_forL (xs := a1) (fun (i1 : Nat) (s2 : Unit) tm H => tm 13 = vi i1 ∧ ∃ (Z1 V1 : PH), Gw Z V Z1 V1 ∧ Sat Z1 V1 H [pts b1 (.rw 0 [vi a0.Terms, vi a0.Nons, vi a0.Start, (vS d1 a0.Rules)])] ∧ tm 2 = v3 ∧ tm 3 = (pV b1 0) ∧ tm 11 = v2 ∧ tm 12 = (vN a1)) (fun i1 x1 s2 y2 tm H3 q1 q2 j1 e1 k1 k2 k3 => ?_) (fun s2 tm H2 jf jd => ?_) q3 ⟨rfl, _, _, Gw.refl _ _, s1, rfl, rfl, rfl, rfl⟩
  ·obtain ⟨hti0, Z1, V1, g1, s3, h1, h2, h3, h4⟩ := j1
   unfold P.guess_agrees.b0 at e1
   refine c_sr (o_lss hti0 h4 (c_nil (c_sq ?_)))
   refine c_ift rfl (Int.ofNat_lt.2 q2) ?_
   refine c_sk (c_sq (c_bk (c_sr ?_)))
   refine o_idx (v := v2) h3 hti0 (hp2.mono g1.v) rfl (Pu.ix_nat.trans q1) fun p1 q4 => ?_
   refine o_lds rfl (hp2.mono g1.v) s3.v q4 (Pu.ix_nat.trans q1) fun w1 h9 => ?_
   refine o_mv (v := w1) rfl ?_
   refine c_nil (c_sr (o_ldB 0 s3 rfl h2 rfl rfl ?_))
   refine o_mv (v := w1) rfl ?_
   obtain ⟨x2, q5, e1⟩ := oB e1
   obtain ⟨Z3, V3, W1, g3, u1, c1, c2, -, c4, c3⟩ := Sat.call (l1 := []) s3
   refine o_call (mc rfl (mc rfl m0)) (X.guess_accepts nd.guess_accepts c1 (hp1.mono ((g1.trans g3).v.trans u1)) (h9.mono (g3.v.trans u1)) q5) fun _ H5 i2 => ?_
   obtain ⟨rfl, s6⟩ := i2
   have s7 := c3 _ _ s6
   refine o_not rfl (c_nil ?_)
   refine c_if rfl (fun q6 => ?_) (fun q6 => ?_)
   ·replace e1 := if_t q6 e1
    refine c_sr ?_
    refine o_mv (v := (.bool false)) rfl ?_
    refine c_nil (c_rt ?_)
    have e2 := fin_r (k3 _ (sJ e1)) e
    obtain rfl := oJ e2
    exact ⟨.inr rfl, _, (ar1 rfl), rfl, ((s7.pick [] rfl).weak (g1.trans g3) hs.zv)⟩
   replace e1 := ib_f q6 e1
   refine c_sk (c_end (c_r (o_add hti0 rfl ?_)))
   refine o_mv (v := (vi (Pu.W ((i1 : Int) + 1)))) rfl ?_
   refine c_nil ?_
   exact k1 _ _ _ (sJ e1) ⟨(iv rfl (w_suc q2 (hp2).bd)), _, _, (g1.trans g3), s7, h1, h2, h3, h4⟩
  ·obtain ⟨hte0, Z4, V4, g4, s8, h10, h11, h12, h13⟩ := jd
   refine c_sr (o_lss hte0 h13 (c_nil (c_sq ?_)))
   refine c_iff rfl (Int.lt_irrefl _) ?_
   refine c_ex ?_
   refine e_c ?_
   refine e_c ?_
   refine e_h ?_
   exact k4 _ _ ⟨_, jf, _, _, g4, s8, h10, h11, h12, h13⟩
 intro _ H4 i3
 obtain ⟨s4, f1, Z2, V2, g2, s5, h5, h6, h7, h8⟩ := i3
 replace e := fin_o f1 e
 refine c_sq (c_sr (o_mv h5 (o_len rfl ((hp3.mono g2.v)).len ?_)))
 refine o_mv (v := (vi 0)) rfl ?_
 refine c_nil ?_
 obtain ⟨y3, q9, e⟩ := oB e
 refine c_jn (I := fun tm H => ∃ (s11 : Unit), y3 = .out s11 ∧ (∃ (Z6 V6 : PH), Gw Z2 V2 Z6 V6 ∧ Sat Z6 V6 H [pts b1 (.rw 0 [vi a0.Terms, vi a0.Nons, vi a0.Start, (vS d1 a0.Rules)])] ∧ tm 3 = (pV b1 0) ∧ tm 22 = v3 ∧ tm 23 = (vN a2))) (fun k8 => ?_) ?_
 ·refine c_bk ?_
  refine l_forL (xs := a2) (fun (i4 : Nat) (s9 : Unit) tm H => tm 24 = vi i4 ∧ ∃ (Z5 V5 : PH), Gw Z2 V2 Z5 V5 ∧ Sat Z5 V5 H [pts b1 (.rw 0 [vi a0.Terms, vi a0.Nons, vi a0.Start, (vS d1 a0.Rules)])] ∧ tm 3 = (pV b1 0) ∧ tm 22 = v3 ∧ tm 23 = (vN a2)) (fun i4 x3 s9 y4 tm H8 q7 q8 j2 e3 k5 k6 k7 => ?_) (fun s9 tm H7 jf jd => ?_) q9 ⟨rfl, _, _, Gw.refl _ _, s5, h6, rfl, rfl⟩
  ·obtain ⟨hti1, Z5, V5, g5, s10, h14, h15, h16⟩ := j2
   unfold P.guess_agrees.b1 at e3
   refine c_sr (o_lss hti1 h16 (c_nil (c_sq ?_)))
   refine c_ift rfl (Int.ofNat_lt.2 q8) ?_
   refine c_sk (c_sq (c_bk (c_sr ?_)))
   refine o_idx (v := v3) h15 hti1 (hp3.mono (g2.trans g5).v) rfl (Pu.ix_nat.trans q7) fun p2 q10 => ?_
   refine o_lds rfl (hp3.mono (g2.trans g5).v) s10.v q10 (Pu.ix_nat.trans q7) fun w2 h20 => ?_
   refine o_mv (v := w2) rfl ?_
   refine c_nil (c_sr (o_ldB 0 s10 rfl h14 rfl rfl ?_))
   refine o_mv (v := w2) rfl ?_
   obtain ⟨x4, q11, e3⟩ := oB e3
   obtain ⟨Z7, V7, W2, g7, u2, c5, c6, -, c8, c7⟩ := Sat.call (l1 := []) s10
   refine o_call (mc rfl (mc rfl m0)) (X.guess_accepts nd.guess_accepts c5 (hp1.mono (((g2.trans g5).trans g7).v.trans u2)) (h20.mono (g7.v.trans u2)) q11) fun _ H10 i5 => ?_
   obtain ⟨rfl, s13⟩ := i5
   have s14 := c7 _ _ s13
   refine c_nil ?_
   refine c_if rfl (fun q12 => ?_) (fun q12 => ?_)
   ·replace e3 := if_t q12 e3
    refine c_sr ?_
    refine o_mv (v := (.bool false)) rfl ?_
    refine c_nil (c_rt ?_)
    have e4 := fin_r (k7 _ (sJ e3)) e
    obtain rfl := oJ e4
    exact ⟨.inr rfl, _, (ar1 rfl), rfl, ((s14.pick [] rfl).weak (g2.trans (g5.trans g7)) hs.zv)⟩
   replace e3 := ib_f q12 e3
   refine c_sk (c_end (c_r (o_add hti1 rfl ?_)))
   refine o_mv (v := (vi (Pu.W ((i4 : Int) + 1)))) rfl ?_
   refine c_nil ?_
   exact k5 _ _ _ (sJ e3) ⟨(iv rfl (w_suc q8 ((hp3.mono g2.v)).bd)), _, _, (g5.trans g7), s14, h14, h15, h16⟩
  ·obtain ⟨hte1, Z8, V8, g8, s15, h21, h22, h23⟩ := jd
   refine c_sr (o_lss hte1 h23 (c_nil (c_sq ?_)))
   refine c_iff rfl (Int.lt_irrefl _) ?_
   refine c_ex ?_
   refine e_c ?_
   refine e_c ?_
   refine e_h ?_
   exact k8 _ _ ⟨_, jf, _, _, g8, s15, h21, h22, h23⟩
 intro _ H9 i6
 obtain ⟨s11, f2, Z6, V6, g6, s12, h17, h18, h19⟩ := i6
 replace e := fin_o f2 e
 refine c_sr ?_
 refine o_mv (v := (.bool true)) rfl ?_
 refine c_nil (c_rt ?_)
 obtain rfl := oJ e
 exact ⟨.inr rfl, _, (ar1 rfl), rfl, ((s12.pick [] rfl).weak (g2.trans g6) hs.zv)⟩
/-! guess_Of -/
structure Nd.guess_Of (T : FuncId → Option AFunc) : Prop where
  own : Has T I.guess_Of F.guess_Of
  guess_Rules : Nd.guess_Rules T
  guess_Check : Nd.guess_Check T
  guess_first : Nd.guess_first T
  slices_Clone_api_Sym_api_Sym : Nd.slices_Clone_api_Sym_api_Sym T
  guess_agrees : Nd.guess_agrees T
  guess_next : Nd.guess_next T
set_option maxHeartbeats 1000000 in
theorem X.guess_Of {T : FuncId → Option AFunc} (nd : Nd.guess_Of T) {φ : Nat} {Z V : PH} {H : Hp} {v1 : Value} {v2 : Value} {a0 : Int} {a1 : Int} {a2 : (List (List Int))} {a3 : (List (List Int))} (hs : Sat Z V H []) (hp1 : RdS sI1 Z v1 a2) (hp2 : RdS sI1 Z v2 a3) {r : (Ty.api_Grammar × Int)} (e : P.guess_Of φ a0 a1 a2 a3 = some r) :
    G T I.guess_Of [vi a0, vi a1, v1, v2] H (fun rv H' => ∃ (u1 : Value), rv = (.tuple #[(.agg #[vi r.1.Terms, vi r.1.Nons, vi r.1.Start, u1]), vi r.2]) ∧ Sat Z V H' [It.sl (Sh.ro Sh.api_Rule) u1 r.1.Rules]) := by
 unfold P.guess_Of at e
 refine f_mk nd.own ?_
 refine c_sr ?_
 refine o_new hs fun b1 H1 s1 => ?_
 refine o_mv (v := (vi 0)) rfl ?_
 refine c_nil (c_sr ?_)
 refine o_mv (v := (vi a0)) rfl ?_
 refine o_mv (v := (vi a1)) rfl ?_
 obtain ⟨x1, q1, e⟩ := oB e
 obtain ⟨Z1, V1, W1, g1, u1, c1, c2, -, c4, c3⟩ := Sat.call (l1 := []) s1
 refine o_call (mc rfl (mc rfl m0)) (X.guess_Rules nd.guess_Rules c1 q1) fun _ H2 i1 => ?_
 obtain ⟨w1, rfl, s2⟩ := i1
 have s3 := c3 _ _ s2
 obtain ⟨Z2, V2, g2, s4, h1⟩ := s3.frzS 0 rfl
 replace h1 := h1.of_ro
 refine o_mv (v := (.tuple #[w1, vi x1.2])) rfl ?_
 refine o_ext rfl rfl (o_ext rfl rfl ?_)
 refine o_mv (v := w1) rfl ?_
 refine o_mv (v := (vi x1.2)) rfl ?_
 refine c_nil ?_
 refine c_gen (P := fun tm => tm 0 = (vi a0) ∧ tm 1 = (vi a1) ∧ tm 2 = v1 ∧ tm 3 = v2 ∧ tm 8 = (pV b1 0) ∧ tm 10 = w1 ∧ tm 11 = (vi x1.2) ∧ True) ⟨rfl, rfl, rfl, rfl, rfl, rfl, rfl, trivial⟩ ?_
 intro _ i2
 obtain ⟨h2, h3, h4, h5, h6, h7, h8, -⟩ := i2
 refine c_sq (c_sr (o_mv h8 (o_neq rfl rfl (c_nil ?_))))
 refine c_ifd rfl (fun q2 => ?_) (fun q2 => ?_)
 ·replace e := if_t q2 e
  refine c_sr ?_
  refine o_bld (qs := []) rfl rfl ?_
  refine o_mv h8 ?_
  refine o_stB (us' := [vi 0, vi 0, vi 0, (.slice none 0 0)]) 0 s4 rfl h6 rfl rfl rfl rfl rfl fun H3 s5 => ?_
  refine o_mv (v := (vi x1.2)) rfl ?_
  refine c_nil (c_rt ?_)
  obtain rfl := oJ e
  exact ⟨.inr rfl, _, (ra2 (rac 0 s5 rfl h6 rfl rfl) (rat rfl)), _, rfl, (((s5.push (sl_nil (s := (Sh.ro Sh.api_Rule)))).pick [0] rfl).weak (g1.trans g2) hs.zv)⟩
 replace e := if_f q2 e
 refine c_sk (c_sq (c_sr (o_mv h2 (o_mv h4 ?_))))
 refine o_mv h5 ?_
 obtain ⟨x2, q3, e⟩ := oB e
 obtain ⟨Z3, V3, W2, g3, u2, c5, c6, -, c8, c7⟩ := Sat.call (l1 := []) s4
 refine o_call (mc rfl (mc rfl (mc rfl m0))) (X.guess_Check nd.guess_Check c5 (hp1.mono ((g1.trans g2).trans g3).z) (hp2.mono ((g1.trans g2).trans g3).z) q3) fun _ H4 i3 => ?_
 obtain ⟨rfl, s6⟩ := i3
 have s7 := c7 _ _ s6
 refine o_mv (v := (vi x2)) rfl ?_
 refine c_nil (c_sr ?_)
 refine o_mv (v := (vi x2)) rfl ?_
 refine o_neq rfl rfl (c_nil ?_)
 refine c_ifd rfl (fun q4 => ?_) (fun q4 => ?_)
 ·replace e := if_t q4 e
  refine c_sr ?_
  refine o_bld (qs := []) rfl rfl ?_
  refine o_mv (v := (vi x2)) rfl ?_
  refine o_stB (us' := [vi 0, vi 0, vi 0, (.slice none 0 0)]) 0 s7 rfl h6 rfl rfl rfl rfl rfl fun H5 s8 => ?_
  refine o_mv (v := (vi x2)) rfl ?_
  refine c_nil ?_
  refine c_gen (P := fun tm => tm 8 = (pV b1 0) ∧ tm 9 = (vi x2) ∧ True) ⟨h6, rfl, trivial⟩ ?_
  intro _ i4
  obtain ⟨h9, h10, -⟩ := i4
  refine c_rt ?_
  obtain rfl := oJ e
  exact ⟨.inr rfl, _, (ra2 (rac 0 s8 rfl h9 rfl rfl) (rat h10)), _, rfl, (((s8.push (sl_nil (s := (Sh.ro Sh.api_Rule)))).pick [0] rfl).weak (g1.trans (g2.trans g3)) hs.zv)⟩
 replace e := if_f q4 e
 refine c_sk (c_sq (c_sr ?_))
 refine o_mv (v := (vi 0)) rfl ?_
 refine c_nil ?_
 refine c_gen (P := fun tm => tm 0 = (vi a0) ∧ tm 1 = (vi a1) ∧ tm 2 = v1 ∧ tm 3 = v2 ∧ tm 8 = (pV b1 0) ∧ tm 10 = w1 ∧ tm 36 = (vi 0) ∧ True) ⟨h2, h3, h4, h5, h6, h7, rfl, trivial⟩ ?_
 intro _ i5
 obtain ⟨h11, h12, h13, h14, h15, h16, h17, -⟩ := i5
 obtain ⟨x4, q7, e⟩ := oB e
 obtain ⟨rfl, q9⟩ := ranO_some q7
 obtain ⟨y1, q10, e⟩ := oB e
 refine c_jn (I := fun tm H => ∃ (s11 : Unit), y1 = .out s11 ∧ (∃ (Z5 V5 : PH), Gw Z3 V3 Z5 V5 ∧ Sat Z5 V5 H [pts b1 (.rw 0 [vi 0, vi 0, vi 0, (.slice none 0 0)])] ∧ tm 0 = (vi a0) ∧ tm 1 = (vi a1) ∧ tm 2 = v1 ∧ tm 3 = v2 ∧ tm 8 = (pV b1 0) ∧ tm 10 = w1)) (fun k4 => ?_) ?_
 ·refine c_bk ?_
  refine l_forL (xs := (Pu.ran 4)) (fun (i6 : Nat) (s9 : Unit) tm H => tm 36 = vi i6 ∧ ∃ (Z4 V4 : PH), Gw Z3 V3 Z4 V4 ∧ Sat Z4 V4 H [pts b1 (.rw 0 [vi 0, vi 0, vi 0, (.slice none 0 0)])] ∧ tm 0 = (vi a0) ∧ tm 1 = (vi a1) ∧ tm 2 = v1 ∧ tm 3 = v2 ∧ tm 8 = (pV b1 0) ∧ tm 10 = w1) (fun i6 x3 s9 y2 tm H7 q5 q6 j1 e1 k1 k2 k3 => ?_) (fun s9 tm H6 jf jd => ?_) q10 ⟨h17, _, _, Gw.refl _ _, s7, h11, h12, h13, h14, h15, h16⟩
  ·obtain ⟨hti0, Z4, V4, g4, s10, h18, h19, h20, h21, h22, h23⟩ := j1
   unfold P.guess_Of.b0 at e1
   have hti0 := iv hti0 (ran_x q5).symm
   refine c_sr (o_lss hti0 rfl (c_nil (c_sq ?_)))
   refine c_ift rfl (ran_lt q5) ?_
   refine c_sk (c_sq (c_bk (c_sr (o_mv hti0 ?_))))
   refine o_mv (v := (vi x3)) rfl ?_
   refine c_nil (c_sr ?_)
   refine o_mv (v := (vi x3)) rfl ?_
   obtain ⟨x5, q11, e1⟩ := oB e1
   obtain ⟨Z6, V6, W3, g6, u3, c9, c10, -, c12, c11⟩ := Sat.call (l1 := []) s10
   refine o_call (mc rfl m0) (X.guess_first nd.guess_first c9 q11) fun w2 H9 i7 => ?_
   obtain ⟨_, rfl, s13, nn1⟩ := i7
   have s14 := c11 _ _ s13
   refine o_mv (v := w2) rfl ?_
   refine c_nil ?_
   obtain ⟨y3, q14, e1⟩ := oB e1
   refine c_jn (I := fun tm H => ∃ (s17 : ((List Int) × Bool)), y3 = .out s17 ∧ (∃ (Z8 V8 : PH) (w4 : Value), Gw Z6 V6 Z8 V8 ∧ Sat Z8 V8 H [pts b1 (.rw 0 [vi 0, vi 0, vi 0, (.slice none 0 0)]), It.sl Sh.int w4 s17.1] ∧ tm 0 = (vi a0) ∧ tm 1 = (vi a1) ∧ tm 2 = v1 ∧ tm 3 = v2 ∧ tm 8 = (pV b1 0) ∧ tm 10 = w1 ∧ tm 14 = w4 ∧ tm 36 = (vi x3))) (fun k8 => ?_) ?_
   ·refine c_bk ?_
    refine l_whl (fun (s15 : ((List Int) × Bool)) tm H => ∃ (Z7 V7 : PH) (w3 : Value), Gw Z6 V6 Z7 V7 ∧ Sat Z7 V7 H [pts b1 (.rw 0 [vi 0, vi 0, vi 0, (.slice none 0 0)]), It.sl Sh.int w3 s15.1] ∧ tm 0 = (vi a0) ∧ tm 1 = (vi a1) ∧ tm 2 = v1 ∧ tm 3 = v2 ∧ tm 8 = (pV b1 0) ∧ tm 10 = w1 ∧ tm 14 = w3 ∧ tm 36 = (vi x3) ∧ (s15.2 = false ↔ w3 = .slice none 0 0)) (fun s15 y4 tm H11 j2 e2 k5 k6 k7 => ?_) q14 ⟨_, _, _, Gw.refl _ _, (s14.pick [1, 0] rfl), h18, h19, h20, h21, h22, h23, rfl, hti0, nn_t nn1⟩
    obtain ⟨Z7, V7, w3, g7, s16, h30, h31, h32, h33, h34, h35, h36, h37, nn0⟩ := j2
    unfold P.guess_Of.b1 at e2
    refine c_sq (c_sr (o_mv h36 ?_))
    refine o_eq (p := s15.2) (nn_eq (s16.curS (s := Sh.int) 1 rfl) nn0) rfl rfl ?_
    refine c_nil ?_
    refine c_if rfl (fun q15 => ?_) (fun q15 => ?_)
    ·replace e2 := if_t q15 e2
     refine c_sk (c_sq (c_bk (c_sr (o_mv h30 ?_))))
     refine o_mv h31 ?_
     refine o_bld (qs := [(0, 1, (vi a0)), (1, 1, (vi a1))]) rfl rfl ?_
     refine o_new s16 fun b2 H13 s19 => ?_
     refine o_stB (us' := [vi a0, vi a1, vi 0, (.slice none 0 0)]) 0 s19 rfl rfl rfl rfl rfl rfl rfl fun H14 s20 => ?_
     refine c_nil (c_sq (c_sr (o_mv h36 ?_)))
     refine o_len rfl ((s20.curS (s := Sh.int) 2 rfl)).len ?_
     refine o_mv (v := (vi 0)) rfl ?_
     refine c_nil ?_
     obtain ⟨y5, q18, e2⟩ := oB e2
     refine c_bk ?_
     refine l_forP (xs := s15.1) (fun (i9 : Nat) (s21 : (List Ty.api_Rule)) tm H => tm 52 = vi i9 ∧ ∃ (Z9 V9 : PH) (w5 : Value), Gw Z7 V7 Z9 V9 ∧ Sat Z9 V9 H [pts b1 (.rw 0 [vi 0, vi 0, vi 0, (.slice none 0 0)]), It.sl Sh.int w3 s15.1, pts b2 (.rw 0 [vi a0, vi a1, vi 0, w5]), It.sl (Sh.ro Sh.api_Rule) w5 s21] ∧ tm 0 = (vi a0) ∧ tm 1 = (vi a1) ∧ tm 2 = v1 ∧ tm 3 = v2 ∧ tm 8 = (pV b1 0) ∧ tm 10 = w1 ∧ tm 14 = w3 ∧ tm 15 = (pV b2 0) ∧ tm 36 = (vi x3) ∧ tm 50 = w3 ∧ tm 51 = (vN s15.1)) (fun i9 x7 s21 s23 tm H16 q16 q17 j3 e3 k9 => ?_) (fun tm H15 jd => ?_) q18 ⟨rfl, _, _, _, Gw.refl _ _, ((s20.push (sl_nil (s := (Sh.ro Sh.api_Rule)))).pick [2, 3, 1, 0] rfl), h30, h31, h32, h33, h34, h35, h36, rfl, h37, rfl, rfl⟩
     ·obtain ⟨hti2, Z9, V9, w5, g9, s22, h46, h47, h48, h49, h50, h51, h52, h53, h54, h55, h56⟩ := j3
      unfold P.guess_Of.b2 at e3
      refine c_sr (o_lss hti2 h56 (c_nil (c_sq ?_)))
      refine c_ift rfl (Int.ofNat_lt.2 q17) ?_
      refine c_sk (c_sq (c_bk (c_sr ?_)))
      refine o_idx (v := w3) h55 hti2 (s22.curS (s := Sh.int) 1 rfl) rfl (Pu.ix_nat.trans q16) fun p1 q19 => ?_
      refine o_ldi rfl (s22.curS (s := Sh.int) 1 rfl) pR q19 (Pu.ix_nat.trans q16) ?_
      refine o_mv (v := (vi x7)) rfl ?_
      refine c_nil ?_
      refine d_start s22 fun n1 H17 s24 q20 d1 => ?_
      refine d_fad h53 ?_
      obtain ⟨d2, rfl⟩ := ((s24.curS (s := (Sh.ro Sh.api_Rule)) 3 rfl)).val
      refine d_ldB (q20 _ _ (ph_some.2 ⟨s24.curB 2 rfl, by simp⟩)) 2 s24 rfl rfl rfl rfl ?_
      refine d_mv h51 ?_
      refine d_mv (v := (vi x7)) rfl ?_
      obtain ⟨x8, q21, e3⟩ := oB e3
      refine d_idx (v := w1) rfl rfl (h1.mono (g3.trans (g4.trans (g6.trans (g7.trans g9)))).z) rfl q21 fun p2 q22 => ?_
      refine d_fadE rfl q22 fun p3 q23 => ?_
      refine d_ldF (RdS.low (h1.mono (g3.trans (g4.trans (g6.trans (g7.trans g9)))).z) s24.z q20) rfl (h1.mono (g3.trans (g4.trans (g6.trans (g7.trans g9)))).z) s24.z rfl q22 q23 q21 rfl fun c13 h57 => ?_
      obtain ⟨w6, rfl, h58⟩ := Sh.api_Rule_op h57
      refine ⟨_, rfl, ?_⟩
      refine d_mv h51 ?_
      refine d_mv (v := (vi x7)) rfl ?_
      obtain ⟨x9, q24, e3⟩ := oB e3
      refine d_idx (v := w1) rfl rfl (h1.mono (g3.trans (g4.trans (g6.trans (g7.trans g9)))).z) rfl q24 fun p4 q25 => ?_
      refine d_fadE rfl q25 fun p5 q26 => ?_
      refine d_ldF (RdS.low (h1.mono (g3.trans (g4.trans (g6.trans (g7.trans g9)))).z) s24.z q20) rfl (h1.mono (g3.trans (g4.trans (g6.trans (g7.trans g9)))).z) s24.z rfl q25 q26 q24 rfl fun c14 h59 => ?_
      obtain ⟨w7, rfl, h60⟩ := Sh.api_Rule_op h59
      refine ⟨_, rfl, ?_⟩
      obtain ⟨x10, q27, e3⟩ := oB e3
      obtain ⟨Z10, V10, W4, g10, u4, c15, c16, -, c18, c17⟩ := Sat.call (l1 := []) s24
      refine d_call (mc rfl m0) (X.slices_Clone_api_Sym_api_Sym nd.slices_Clone_api_Sym_api_Sym c15 (h60.mono g10.z) q27) fun w8 H18 i10 k10 => ?_
      have d3 := d1.keep k10
      obtain ⟨_, rfl, s25⟩ := i10
      have s26 := c17 _ _ s25
      obtain ⟨d4, rfl⟩ := ((s26.curS (s := (Sh.ro Sh.api_Sym)) 0 rfl)).val
      refine d_bld (qs := [(0, 1, (vi x8.Left)), (1, 1, (vS d4 x10))]) rfl rfl ?_
      obtain ⟨Z11, V11, g11, s27, h61⟩ := s26.frzS 0 rfl
      replace h61 := h61.of_ro
      refine d_bsl (s := (Sh.ro Sh.api_Rule)) (us := [vi x8.Left, (vS d4 x10)]) (qs := [(0, 2, (.agg #[vi x8.Left, (vS d4 x10)]))]) (xs := [(Ty.api_Rule.mk x8.Left x10)]) (d3.get 14 rfl rfl) s27 (Sh.ro_lt _) rfl rfl rfl (Els.cons (c := [vi x8.Left, (vS d4 x10)]) (Sh.api_Rule_cl (x := (Ty.api_Rule.mk x8.Left x10)) h61) Els.nil) rfl rfl fun w9 H19 s28 k11 => ?_
      have d5 := d3.next 14 rfl k11
      obtain ⟨Z12, V12, g12, s29, h62⟩ := s28.frzS 0 rfl
      replace h62 := h62.of_ro
      obtain ⟨x11, q28, e3⟩ := oB e3
      refine d_app 3 s29 rfl (Sh.ro_lt _) rfl rfl rfl rfl h62 s29.z (fun h => h) (by decide) q28 fun w10 H20 s30 k12 => ?_
      have d6 := d5.keep k12
      refine d_fad h53 ?_
      obtain ⟨d7, rfl⟩ := ((s30.curS (s := (Sh.ro Sh.api_Rule)) 3 rfl)).val
      refine d_stB (us' := [vi a0, vi a1, vi 0, (vS d7 x11)]) 2 s30 rfl rfl rfl rfl rfl rfl rfl fun H21 s31 k13 => ?_
      have d8 := d6.keep k13
      refine d_nil (dc_mk rfl (ta16 (tra (tre (trl tr0)))) (ta4 (ta2 (tre (tl8 (tl4 tr0))))) (ta4 (tra (tre (tl8 (tl4 (trl tr0)))))) (ag_ldx (w := (vS d2 s21)) w_0 rfl (ldB_v 2 s24 rfl rfl rfl) (ldB_v 2 s24 rfl rfl rfl) (by simp [vsame, vsame1])) (ag_ldx (w := (vS d2 s21)) w_0 rfl (ldB_v 2 s24 rfl rfl rfl) (ldB_v 3 s26 rfl rfl rfl) (by simp [vsame, vsame1])) (dc_mk rfl (ta8 (ta4 (tre (tl4 (tl2 tr0))))) (ta4 (ta2 (tre (tl8 (tl4 tr0))))) (ta4 (tra (tre (tl8 (tl4 (trl tr0)))))) (ag_ldF w_0 h1 q21 rfl q22 q23 rfl rfl (g3.z.trans (g4.z.trans (g6.z.trans (g7.z.trans (g9.z.trans s24.z))))) (g3.z.trans (g4.z.trans (g6.z.trans (g7.z.trans (g9.z.trans s24.z))))) (fun cs h => by obtain ⟨_, rfl, h0⟩ := Sh.api_Rule_op h; obtain ⟨_, rfl⟩ := h0.val; exact ⟨_, rfl, by simp [vsame, vsame1]⟩)) (ag_ldF w_0 h1 q21 rfl q22 q23 rfl rfl (g3.z.trans (g4.z.trans (g6.z.trans (g7.z.trans (g9.z.trans s24.z))))) (g3.z.trans (g4.z.trans (g6.z.trans (g7.z.trans (g9.z.trans (g10.z.trans s26.z)))))) (fun cs h => by obtain ⟨_, rfl, h0⟩ := Sh.api_Rule_op h; obtain ⟨_, rfl⟩ := h0.val; exact ⟨_, rfl, by simp [vsame, vsame1]⟩)) dc_nil)) ?_
      refine c_end (c_r (o_add hti2 rfl ?_))
      refine o_mv (v := (vi (Pu.W ((i9 : Int) + 1)))) rfl ?_
      refine c_nil ?_
      obtain rfl := oJ e3
      exact k9 _ _ ⟨(iv rfl (w_suc q17 ((s20.curS (s := Sh.int) 2 rfl)).bd)), _, _, _, (g9.trans (g10.trans (g11.trans g12))), s31, h46, h47, h48, h49, h50, h51, h52, h53, h54, h55, h56⟩
     obtain ⟨hte2, Z13, V13, w11, g13, s32, h63, h64, h65, h66, h67, h68, h69, h70, h71, h72, h73⟩ := jd
     refine c_sr (o_lss hte2 h73 (c_nil (c_sq ?_)))
     refine c_iff rfl (Int.lt_irrefl _) ?_
     refine c_ex ?_
     refine e_c ?_
     refine e_c ?_
     refine e_h ?_
     refine c_sr ?_
     obtain ⟨d9, rfl⟩ := ((s32.curS (s := (Sh.ro Sh.api_Rule)) 3 rfl)).val
     refine o_ldB 2 s32 rfl h70 rfl rfl (o_mv h65 (o_mv h66 ?_))
     obtain ⟨x12, q29, e2⟩ := oB e2
     obtain ⟨Z14, V14, W5, g14, u5, c19, c20, -, c22, c21⟩ := Sat.call (l1 := []) s32
     refine o_call (mc rfl (mc rfl (mc rfl m0))) (X.guess_agrees nd.guess_agrees (a0 := (Ty.api_Grammar.mk a0 a1 0 y5)) c19 (c20 3 _ (Sh.ro Sh.api_Rule) _ _ rfl) (hp1.mono (((g1.trans (g2.trans (g3.trans (g4.trans (g6.trans (g7.trans g13)))))).trans g14).z.trans c19.zv)) (hp2.mono (((g1.trans (g2.trans (g3.trans (g4.trans (g6.trans (g7.trans g13)))))).trans g14).z.trans c19.zv)) q29) fun _ H23 i11 => ?_
     obtain ⟨rfl, s33⟩ := i11
     have s34 := c21 _ _ s33
     refine c_nil ?_
     refine c_if rfl (fun q30 => ?_) (fun q30 => ?_)
     ·replace e2 := if_t q30 e2
      refine c_sr (o_ldB 2 s34 rfl h70 rfl rfl ?_)
      refine o_stB (us' := [vi a0, vi a1, vi 0, (vS d9 y5)]) 0 s34 rfl h67 rfl rfl rfl rfl rfl fun H24 s35 => ?_
      refine o_mv (v := (vi 0)) rfl ?_
      refine c_nil (c_rt ?_)
      have e4 := fin_r (k7 _ (sJ e2)) e1
      have e5 := fin_r (k3 _ (sJ e4)) e
      obtain rfl := oJ e5
      exact ⟨.inr rfl, _, (ra2 (rac 0 s35 rfl h67 rfl rfl) (rat rfl)), _, rfl, ((s35.pick [3] rfl).weak (g1.trans (g2.trans (g3.trans (g4.trans (g6.trans (g7.trans (g13.trans g14))))))) hs.zv)⟩
     replace e2 := ib_f q30 e2
     refine c_sk (c_end (c_r (o_mv h69 (o_mv h68 ?_))))
     refine o_len rfl ((h1.mono (g3.trans (g4.trans (g6.trans (g7.trans (g13.trans g14))))).z)).len ?_
     obtain ⟨x13, q31, e2⟩ := oB e2
     obtain ⟨Z15, V15, W6, g15, u6, c23, c24, -, c26, c25⟩ := Sat.call (l1 := []) s34
     refine o_call (mc rfl (mc rfl m0)) (X.guess_next nd.guess_next c23 (c24 1 _ Sh.int _ _ rfl) q31) fun w12 H25 i12 => ?_
     obtain ⟨_, rfl, s36, nn2⟩ := i12
     have s37 := c25 _ _ s36
     refine o_mv (v := w12) rfl ?_
     refine c_nil ?_
     exact k5 _ _ _ (sJ e2) ⟨_, _, _, (g7.trans (g13.trans (g14.trans g15))), (s37.pick [1, 0] rfl), h63, h64, h65, h66, h67, h68, rfl, h71, nn_d nn2⟩
    replace e2 := ib_f q15 e2
    refine c_ex ?_
    refine e_c ?_
    refine e_c ?_
    refine e_h ?_
    exact k8 _ _ ⟨_, k6 _ (sJ e2), _, _, _, g7, s16, h30, h31, h32, h33, h34, h35, h36, h37⟩
   intro _ H12 i13
   obtain ⟨s17, f1, Z8, V8, w4, g8, s18, h38, h39, h40, h41, h42, h43, h44, h45⟩ := i13
   replace e1 := fin_o f1 e1
   refine c_end (c_r (o_add h45 rfl ?_))
   refine o_mv (v := (vi (Pu.W (x3 + 1)))) rfl ?_
   refine c_nil ?_
   exact k1 _ _ _ (sJ e1) ⟨(iv rfl (w_sucR q5 q9)), _, _, (g4.trans (g6.trans g8)), (s18.pick [0] rfl), h38, h39, h40, h41, h42, h43⟩
  ·obtain ⟨hte0, Z16, V16, g16, s38, h74, h75, h76, h77, h78, h79⟩ := jd
   refine c_sr (o_lss hte0 rfl (c_nil (c_sq ?_)))
   refine c_iff rfl (ran_done _) ?_
   refine c_ex ?_
   refine e_c ?_
   refine e_c ?_
   refine e_h ?_
   exact k4 _ _ ⟨_, jf, _, _, g16, s38, h74, h75, h76, h77, h78, h79⟩
 intro _ H8 i14
 obtain ⟨s11, f2, Z5, V5, g5, s12, h24, h25, h26, h27, h28, h29⟩ := i14
 replace e := fin_o f2 e
 refine c_sr ?_
 refine o_bld (qs := []) rfl rfl ?_
 refine o_stB (us' := [vi 0, vi 0, vi 0, (.slice none 0 0)]) 0 s12 rfl h28 rfl rfl rfl rfl rfl fun H27 s39 => ?_
 refine o_mv (v := (vi 5)) rfl ?_
 refine c_nil (c_rt ?_)
 obtain rfl := oJ e
 exact ⟨.inr rfl, _, (ra2 (rac 0 s39 rfl h28 rfl rfl) (rat rfl)), _, rfl, (((s39.push (sl_nil (s := (Sh.ro Sh.api_Rule)))).pick [0] rfl).weak (g1.trans (g2.trans (g3.trans g5))) hs.zv)⟩
/-! parlkeep5_below -/
structure Nd.parlkeep5_below (T : FuncId → Option AFunc) : Prop where
  own : Has T I.parlkeep5_below F.parlkeep5_below
  parlmake_Below : Nd.parlmake_Below T
set_option maxHeartbeats 1000000 in
theorem X.parlkeep5_below {T : FuncId → Option AFunc} (nd : Nd.parlkeep5_below T) {Z V : PH} {H : Hp} {a0 : Int} {a1 : Int} (hs : Sat Z V H []) {r : Int} (e : P.parlkeep5_below a0 a1 = some r) :
    G T I.parlkeep5_below [vi a0, vi a1] H (fun rv H' => rv = (vi r) ∧ Sat Z V H' []) := by
 unfold P.parlkeep5_below at e
 refine f_mk nd.own ?_
 refine c_sr ?_
 refine o_mv (v := (vi 0)) rfl ?_
 refine c_nil (c_sr ?_)
 refine o_mv (v := (vi a0)) rfl ?_
 refine o_mv (v := (vi a1)) rfl ?_
 obtain ⟨x1, q1, e⟩ := oB e
 obtain ⟨Z1, V1, W1, g1, u1, c1, c2, -, c4, c3⟩ := Sat.call (l1 := []) hs
 refine o_call (mc rfl (mc rfl m0)) (X.parlmake_Below nd.parlmake_Below c1 q1) fun _ H1 i1 => ?_
 obtain ⟨rfl, s1⟩ := i1
 have s2 := c3 _ _ s1
 refine o_mv (v := (vi x1)) rfl ?_
 refine c_nil (c_rt ?_)
 obtain rfl := oJ e
 exact ⟨.inr rfl, _, (ar1 rfl), rfl, (s2.weak g1 hs.zv)⟩
/-! parlmake_Word -/
structure Nd.parlmake_Word (T : FuncId → Option AFunc) : Prop where
  own : Has T I.parlmake_Word F.parlmake_Word
  parlmake_Below : Nd.parlmake_Below T
set_option maxHeartbeats 1000000 in
theorem X.parlmake_Word {T : FuncId → Option AFunc} (nd : Nd.parlmake_Word T) {Z V : PH} {H : Hp} {v1 : Value} {a0 : Int} {a1 : Int} {a2 : (List Int)} (hs : Sat Z V H []) (hp1 : RdS Sh.int V v1 a2) {r : (List Int)} (e : P.parlmake_Word a0 a1 a2 = some r) :
    G T I.parlmake_Word [vi a0, vi a1, v1] H (fun rv H' => ∃ (u1 : Value), rv = u1 ∧ Sat Z V H' [It.sl Sh.int u1 r]) := by
 unfold P.parlmake_Word at e
 refine f_mk nd.own ?_
 refine c_sr ?_
 refine o_mv (v := (.slice none 0 0)) rfl ?_
 refine c_nil (c_sr ?_)
 refine o_mv (v := (.slice none 0 0)) rfl ?_
 refine c_nil (c_sq (c_sr ?_))
 refine o_mv (v := v1) rfl ?_
 refine o_len rfl (hp1).len ?_
 refine o_mv (v := (vi 0)) rfl ?_
 refine c_nil ?_
 obtain ⟨y1, q3, e⟩ := oB e
 refine c_jn (I := fun tm H => ∃ (s3 : (List Int)), y1 = .out s3 ∧ (∃ (Z2 V2 : PH) (w2 : Value), Gw Z V Z2 V2 ∧ Sat Z2 V2 H [It.sl Sh.int w2 s3] ∧ tm 0 = (vi a0) ∧ tm 1 = (vi a1) ∧ tm 7 = w2 ∧ tm 10 = v1 ∧ tm 11 = (vN a2))) (fun k4 => ?_) ?_
 ·refine c_bk ?_
  refine l_forL (xs := a2) (fun (i1 : Nat) (s1 : (List Int)) tm H => tm 12 = vi i1 ∧ ∃ (Z1 V1 : PH) (w1 : Value), Gw Z V Z1 V1 ∧ Sat Z1 V1 H [It.sl Sh.int w1 s1] ∧ tm 0 = (vi a0) ∧ tm 1 = (vi a1) ∧ tm 7 = w1 ∧ tm 10 = v1 ∧ tm 11 = (vN a2)) (fun i1 x1 s1 y2 tm H2 q1 q2 j1 e1 k1 k2 k3 => ?_) (fun s1 tm H1 jf jd => ?_) q3 ⟨rfl, _, _, _, Gw.refl _ _, (hs.push (sl_nil (s := Sh.int))), rfl, rfl, rfl, rfl, rfl⟩
  ·obtain ⟨hti0, Z1, V1, w1, g1, s2, h1, h2, h3, h4, h5⟩ := j1
   unfold P.parlmake_Word.b0 at e1
   refine c_sr (o_lss hti0 h5 (c_nil (c_sq ?_)))
   refine c_ift rfl (Int.ofNat_lt.2 q2) ?_
   refine c_sk (c_sq (c_bk (c_sr ?_)))
   refine o_idx (v := v1) h4 hti0 (hp1.mono g1.v) rfl (Pu.ix_nat.trans q1) fun p1 q4 => ?_
   refine o_ldi rfl (hp1.mono g1.v) s2.v q4 (Pu.ix_nat.trans q1) ?_
   refine o_mv (v := (vi x1)) rfl ?_
   refine c_nil (c_sq (c_sr (o_mv h3 ?_)))
   refine o_len rfl ((s2.curS (s := Sh.int) 0 rfl)).len ?_
   refine o_mv h2 (o_eql rfl rfl (c_nil ?_))
   refine c_ifd rfl (fun q5 => ?_) (fun q5 => ?_)
   ·replace e1 := if_t q5 e1
    refine c_ex ?_
    refine e_c ?_
    refine e_f rfl ?_
    refine e_c ?_
    refine e_c ?_
    refine e_h ?_
    exact k4 _ _ ⟨_, k2 _ (sJ e1), _, _, _, g1, s2, h1, h2, h3, h4, h5⟩
   replace e1 := if_f q5 e1
   refine c_sk (c_r (o_mv h3 ?_))
   refine o_mv (v := (vi x1)) rfl ?_
   refine o_mv h1 ?_
   obtain ⟨x2, q6, e1⟩ := oB e1
   obtain ⟨Z3, V3, W1, g3, u1, c1, c2, -, c4, c3⟩ := Sat.call (l1 := []) s2
   refine o_call (mc rfl (mc rfl m0)) (X.parlmake_Below nd.parlmake_Below c1 q6) fun _ H4 i2 => ?_
   obtain ⟨rfl, s5⟩ := i2
   have s6 := c3 _ _ s5
   refine o_bsl (s := Sh.int) (us := [vi x2]) (qs := [(0, 1, (vi x2))]) (xs := [x2]) s6 Sh.flat_lt rfl rfl rfl (Els.cons (c := [vi x2]) rfl Els.nil) rfl rfl fun w3 H5 s7 => ?_
   obtain ⟨x3, q7, e1⟩ := oB e1
   refine o_app 1 s7 rfl Sh.flat_lt rfl rfl rfl rfl (s7.curS (s := Sh.int) 0 rfl) pR (fun h => h) (by decide) q7 fun w4 H6 s8 => ?_
   refine o_mv (v := w4) rfl ?_
   refine c_nil (c_end (c_r (o_add hti0 rfl ?_)))
   refine o_mv (v := (vi (Pu.W ((i1 : Int) + 1)))) rfl ?_
   refine c_nil ?_
   exact k1 _ _ _ (sJ e1) ⟨(iv rfl (w_suc q2 (hp1).bd)), _, _, _, (g1.trans g3), (s8.pick [1] rfl), h1, h2, rfl, h4, h5⟩
  ·obtain ⟨hte0, Z4, V4, w5, g4, s9, h11, h12, h13, h14, h15⟩ := jd
   refine c_sr (o_lss hte0 h15 (c_nil (c_sq ?_)))
   refine c_iff rfl (Int.lt_irrefl _) ?_
   refine c_ex ?_
   refine e_c ?_
   refine e_c ?_
   refine e_h ?_
   exact k4 _ _ ⟨_, jf, _, _, _, g4, s9, h11, h12, h13, h14, h15⟩
 intro _ H3 i3
 obtain ⟨s3, f1, Z2, V2, w2, g2, s4, h6, h7, h8, h9, h10⟩ := i3
 replace e := fin_o f1 e
 refine c_sr (o_mv h8 ?_)
 refine o_mv (v := w2) rfl ?_
 refine c_nil (c_rt ?_)
 obtain rfl := oJ e
 exact ⟨.inr rfl, _, (ar1 rfl), _, rfl, (s4.weak g2 hs.zv)⟩
/-! dfa_Check -/
structure Nd.dfa_Check (T : FuncId → Option AFunc) : Prop where
  own : Has T I.dfa_Check F.dfa_Check
set_option maxHeartbeats 1000000 in
theorem X.dfa_Check {T : FuncId → Option AFunc} (nd : Nd.dfa_Check T) {Z V : PH} {H : Hp} {v1 : Value} {v2 : Value} {a0 : Ty.api_Dfa} (hs : Sat Z V H []) (hp1 : RdS Sh.int V v1 a0.Accept) (hp2 : RdS sI1 V v2 a0.Next) {r : Int} (e : P.dfa_Check a0 = some r) :
    G T I.dfa_Check [(.agg #[vi a0.Start, v1, v2])] H (fun rv H' => rv = (vi r) ∧ Sat Z V H' []) := by
 unfold P.dfa_Check at e
 refine f_mk nd.own ?_
 refine c_sr ?_
 obtain ⟨d1, rfl⟩ := (hp1).val
 obtain ⟨d2, rfl⟩ := (hp2).val
 refine o_box hs rfl rfl fun b1 H1 s1 => ?_
 refine o_mv (v := (vi 0)) rfl ?_
 refine c_nil (c_sq (c_sr (o_fad rfl (o_ldB 0 s1 rfl rfl rfl rfl ?_))))
 refine o_len rfl (hp2).len (o_gtr rfl rfl (c_nil ?_))
 refine c_ifd rfl (fun q1 => ?_) (fun q1 => ?_)
 ·replace e := if_t q1 e
  refine c_sr ?_
  refine o_mv (v := (vi 2)) rfl ?_
  refine c_nil (c_rt ?_)
  obtain rfl := oJ e
  exact ⟨.inr rfl, _, (ar1 rfl), rfl, (s1.pick [] rfl)⟩
 replace e := if_f q1 e
 refine c_sk (c_sq (c_sr (o_fad rfl (o_ldB 0 s1 rfl rfl rfl rfl ?_))))
 refine o_len rfl (hp2).len (o_eql rfl rfl ?_)
 refine o_mv (v := (.bool (decide ((a0.Next.length : Int) = 0)))) rfl ?_
 refine o_jn 8 (I := fun tm H => tm 26 = .bool ((decide ((a0.Next.length : Int) = 0)) || (decide ((a0.Accept.length : Int) ≠ (a0.Next.length : Int)))) ∧ (∃ (Z1 V1 : PH), Gw Z V Z1 V1 ∧ Sat Z1 V1 H [pts b1 (.rw 0 [vi a0.Start, (vS d1 a0.Accept), (vS d2 a0.Next)])] ∧ tm 1 = (pV b1 0))) (fun k1 => ?_) ?_
 ·rcases Bool.eq_false_or_eq_true (decide ((a0.Next.length : Int) = 0)) with q2 | q2
  ·refine o_gn rfl q2 (o_gn rfl q2 (o_gn rfl q2 (o_gn rfl q2 (o_gn rfl q2 ?_))))
   refine o_gn rfl q2 (o_gn rfl q2 ?_)
   refine o_pickt (a := (.bool true)) rfl q2 rfl ?_
   exact k1 _ _ ⟨gf rfl (by first | (rw [q2]; first | done | rfl) | simp [q2]), _, _, Gw.refl _ _, s1, rfl⟩
  refine o_gy rfl q2 (o_fad rfl (o_gy rfl q2 (o_ldB 0 s1 rfl rfl rfl rfl (o_gy rfl q2 ?_))))
  refine o_len rfl (hp1).len (o_gy rfl q2 (o_fad rfl (o_gy rfl q2 (o_ldB 0 s1 rfl rfl rfl rfl ?_))))
  refine o_gy rfl q2 (o_len rfl (hp2).len (o_gy rfl q2 (o_neq rfl rfl ?_)))
  refine o_pickf (b := (.bool (decide ((a0.Accept.length : Int) ≠ (a0.Next.length : Int))))) rfl q2 rfl ?_
  exact k1 _ _ ⟨gf rfl (by first | (rw [q2]; first | done | rfl) | simp [q2]), _, _, Gw.refl _ _, s1, rfl⟩
 intro _ H2 i1
 obtain ⟨h2, Z1, V1, g1, s2, h1⟩ := i1
 refine c_nil ?_
 refine c_if h2 (fun q3 => ?_) (fun q3 => ?_)
 ·replace e := if_t q3 e
  refine c_sr ?_
  refine o_mv (v := (vi 3)) rfl ?_
  refine c_nil (c_rt ?_)
  obtain rfl := oJ e
  exact ⟨.inr rfl, _, (ar1 rfl), rfl, ((s2.pick [] rfl).weak g1 hs.zv)⟩
 replace e := ib_f q3 e
 refine c_sk (c_sr (o_fad h1 (o_ldB 0 s2 rfl rfl rfl rfl ?_)))
 obtain ⟨x1, q4, e⟩ := oB e
 refine o_idx (v := (vS d2 a0.Next)) rfl rfl (hp2.mono g1.v) rfl q4 fun p1 q5 => ?_
 refine o_lds rfl (hp2.mono g1.v) s2.v q5 q4 fun w1 h3 => ?_
 refine o_len rfl (h3).len ?_
 refine o_mv (v := (vN x1)) rfl ?_
 refine c_nil (c_sq (c_sr ?_))
 refine o_mv (v := (vN x1)) rfl ?_
 refine o_gtr rfl rfl (c_nil ?_)
 refine c_ifd rfl (fun q6 => ?_) (fun q6 => ?_)
 ·replace e := if_t q6 e
  refine c_sr ?_
  refine o_mv (v := (vi 2)) rfl ?_
  refine c_nil (c_rt ?_)
  obtain rfl := oJ e
  exact ⟨.inr rfl, _, (ar1 rfl), rfl, ((s2.pick [] rfl).weak g1 hs.zv)⟩
 replace e := if_f q6 e
 refine c_sk (c_sq (c_sr (o_fad h1 (o_ldB 0 s2 rfl rfl rfl rfl ?_))))
 refine o_len rfl ((hp2.mono g1.v)).len ?_
 refine o_mv (v := (vi 0)) rfl ?_
 refine c_nil ?_
 refine c_gen (P := fun tm => tm 1 = (pV b1 0) ∧ tm 3 = (vN x1) ∧ tm 35 = (vS d2 a0.Next) ∧ tm 36 = (vN a0.Next) ∧ tm 37 = (vi 0) ∧ True) ⟨h1, rfl, rfl, rfl, rfl, trivial⟩ ?_
 intro _ i2
 obtain ⟨h4, h5, h6, h7, h8, -⟩ := i2
 obtain ⟨y1, q9, e⟩ := oB e
 refine c_jn (I := fun tm H => ∃ (s5 : Unit), y1 = .out s5 ∧ (∃ (Z3 V3 : PH), Gw Z1 V1 Z3 V3 ∧ Sat Z3 V3 H [pts b1 (.rw 0 [vi a0.Start, (vS d1 a0.Accept), (vS d2 a0.Next)])] ∧ tm 1 = (pV b1 0) ∧ tm 3 = (vN x1) ∧ tm 35 = (vS d2 a0.Next) ∧ tm 36 = (vN a0.Next))) (fun k5 => ?_) ?_
 ·refine c_bk ?_
  refine l_forL (xs := a0.Next) (fun (i3 : Nat) (s3 : Unit) tm H => tm 37 = vi i3 ∧ ∃ (Z2 V2 : PH), Gw Z1 V1 Z2 V2 ∧ Sat Z2 V2 H [pts b1 (.rw 0 [vi a0.Start, (vS d1 a0.Accept), (vS d2 a0.Next)])] ∧ tm 1 = (pV b1 0) ∧ tm 3 = (vN x1) ∧ tm 35 = (vS d2 a0.Next) ∧ tm 36 = (vN a0.Next)) (fun i3 x2 s3 y2 tm H4 q7 q8 j1 e1 k2 k3 k4 => ?_) (fun s3 tm H3 jf jd => ?_) q9 ⟨h8, _, _, Gw.refl _ _, s2, h4, h5, h6, h7⟩
  ·obtain ⟨hti0, Z2, V2, g2, s4, h9, h10, h11, h12⟩ := j1
   unfold P.dfa_Check.b0 at e1
   refine c_sr (o_lss hti0 h12 (c_nil (c_sq ?_)))
   refine c_ift rfl (Int.ofNat_lt.2 q8) ?_
   refine c_sk (c_sq (c_bk (c_sr ?_)))
   refine o_idx (v := (vS d2 a0.Next)) h11 hti0 (hp2.mono (g1.trans g2).v) rfl (Pu.ix_nat.trans q7) fun p2 q10 => ?_
   refine o_lds rfl (hp2.mono (g1.trans g2).v) s4.v q10 (Pu.ix_nat.trans q7) fun w2 h17 => ?_
   refine o_mv (v := w2) rfl ?_
   refine c_nil (c_sr ?_)
   refine o_mv (v := w2) rfl ?_
   refine o_len rfl (h17).len (o_mv h10 (o_neq rfl rfl ?_))
   refine o_mv (v := (.bool (decide ((x2.length : Int) ≠ (x1.length : Int))))) rfl ?_
   refine o_jn 3 (I := fun tm H => tm 48 = .bool ((decide ((x2.length : Int) ≠ (x1.length : Int))) || (decide ((x1.length : Int) = 0))) ∧ (∃ (Z4 V4 : PH), Gw Z2 V2 Z4 V4 ∧ Sat Z4 V4 H [pts b1 (.rw 0 [vi a0.Start, (vS d1 a0.Accept), (vS d2 a0.Next)])] ∧ tm 1 = (pV b1 0) ∧ tm 3 = (vN x1) ∧ tm 35 = (vS d2 a0.Next) ∧ tm 36 = (vN a0.Next) ∧ tm 37 = (vJ i3))) (fun k6 => ?_) ?_
   ·rcases Bool.eq_false_or_eq_true (decide ((x2.length : Int) ≠ (x1.length : Int))) with q11 | q11
    ·refine o_gn rfl q11 (o_gn rfl q11 ?_)
     refine o_pickt (a := (.bool true)) rfl q11 rfl ?_
     exact k6 _ _ ⟨gf rfl (by first | (rw [q11]; first | done | rfl) | simp [q11]), _, _, Gw.refl _ _, s4, h9, h10, h11, h12, hti0⟩
    refine o_gy rfl q11 (o_mv h10 (o_gy rfl q11 (o_eql rfl rfl ?_)))
    refine o_pickf (b := (.bool (decide ((x1.length : Int) = 0)))) rfl q11 rfl ?_
    exact k6 _ _ ⟨gf rfl (by first | (rw [q11]; first | done | rfl) | simp [q11]), _, _, Gw.refl _ _, s4, h9, h10, h11, h12, hti0⟩
   intro _ H6 i4
   obtain ⟨h23, Z4, V4, g4, s7, h18, h19, h20, h21, h22⟩ := i4
   refine c_nil ?_
   refine c_if h23 (fun q12 => ?_) (fun q12 => ?_)
   ·replace e1 := if_t q12 e1
    refine c_sr ?_
    refine o_mv (v := (vi 3)) rfl ?_
    refine c_nil (c_rt ?_)
    have e2 := fin_r (k4 _ (sJ e1)) e
    obtain rfl := oJ e2
    exact ⟨.inr rfl, _, (ar1 rfl), rfl, ((s7.pick [] rfl).weak (g1.trans (g2.trans g4)) hs.zv)⟩
   replace e1 := ib_f q12 e1
   refine c_sk (c_end (c_r (o_add h22 rfl ?_)))
   refine o_mv (v := (vi (Pu.W ((i3 : Int) + 1)))) rfl ?_
   refine c_nil ?_
   exact k2 _ _ _ (sJ e1) ⟨(iv rfl (w_suc q8 ((hp2.mono g1.v)).bd)), _, _, (g2.trans g4), s7, h18, h19, h20, h21⟩
  ·obtain ⟨hte0, Z5, V5, g5, s8, h24, h25, h26, h27⟩ := jd
   refine c_sr (o_lss hte0 h27 (c_nil (c_sq ?_)))
   refine c_iff rfl (Int.lt_irrefl _) ?_
   refine c_ex ?_
   refine e_c ?_
   refine e_c ?_
   refine e_h ?_
   exact k5 _ _ ⟨_, jf, _, _, g5, s8, h24, h25, h26, h27⟩
 intro _ H5 i5
 obtain ⟨s5, f1, Z3, V3, g3, s6, h13, h14, h15, h16⟩ := i5
 replace e := fin_o f1 e
 refine c_sq (c_sr (o_fad h13 (o_ldB 0 s6 rfl rfl rfl rfl (o_lss rfl rfl ?_))))
 refine o_mv (v := (.bool (decide (a0.Start < 0)))) rfl ?_
 refine o_jn 7 (I := fun tm H => tm 60 = .bool ((decide (a0.Start < 0)) || (decide ((a0.Next.length : Int) ≤ a0.Start))) ∧ (∃ (Z6 V6 : PH), Gw Z3 V3 Z6 V6 ∧ Sat Z6 V6 H [pts b1 (.rw 0 [vi a0.Start, (vS d1 a0.Accept), (vS d2 a0.Next)])] ∧ tm 1 = (pV b1 0))) (fun k7 => ?_) ?_
 ·rcases Bool.eq_false_or_eq_true (decide (a0.Start < 0)) with q13 | q13
  ·refine o_gn rfl q13 (o_gn rfl q13 (o_gn rfl q13 (o_gn rfl q13 (o_gn rfl q13 ?_))))
   refine o_gn rfl q13 ?_
   refine o_pickt (a := (.bool true)) rfl q13 rfl ?_
   exact k7 _ _ ⟨gf rfl (by first | (rw [q13]; first | done | rfl) | simp [q13]), _, _, Gw.refl _ _, s6, h13⟩
  refine o_gy rfl q13 (o_fad h13 (o_gy rfl q13 (o_ldB 0 s6 rfl rfl rfl rfl (o_gy rfl q13 ?_))))
  refine o_fad h13 (o_gy rfl q13 (o_ldB 0 s6 rfl rfl rfl rfl (o_gy rfl q13 (o_len rfl ((hp2.mono (g1.trans g3).v)).len ?_))))
  refine o_gy rfl q13 (o_geq rfl rfl ?_)
  refine o_pickf (b := (.bool (decide ((a0.Next.length : Int) ≤ a0.Start)))) rfl q13 rfl ?_
  exact k7 _ _ ⟨gf rfl (by first | (rw [q13]; first | done | rfl) | simp [q13]), _, _, Gw.refl _ _, s6, h13⟩
 intro _ H8 i6
 obtain ⟨h29, Z6, V6, g6, s9, h28⟩ := i6
 refine c_nil ?_
 refine c_if h29 (fun q14 => ?_) (fun q14 => ?_)
 ·replace e := if_t q14 e
  refine c_sr ?_
  refine o_mv (v := (vi 1)) rfl ?_
  refine c_nil (c_rt ?_)
  obtain rfl := oJ e
  exact ⟨.inr rfl, _, (ar1 rfl), rfl, ((s9.pick [] rfl).weak (g1.trans (g3.trans g6)) hs.zv)⟩
 replace e := ib_f q14 e
 refine c_sk (c_sq (c_sr (o_fad h28 (o_ldB 0 s9 rfl rfl rfl rfl ?_))))
 refine o_len rfl ((hp2.mono (g1.trans (g3.trans g6)).v)).len ?_
 refine o_mv (v := (vi 0)) rfl ?_
 refine c_nil ?_
 obtain ⟨y3, q17, e⟩ := oB e
 refine c_jn (I := fun tm H => ∃ (s12 : Unit), y3 = .out s12 ∧ (∃ (Z8 V8 : PH), Gw Z6 V6 Z8 V8 ∧ Sat Z8 V8 H [pts b1 (.rw 0 [vi a0.Start, (vS d1 a0.Accept), (vS d2 a0.Next)])] ∧ tm 1 = (pV b1 0) ∧ tm 62 = (vS d2 a0.Next) ∧ tm 63 = (vN a0.Next))) (fun k11 => ?_) ?_
 ·refine c_bk ?_
  refine l_forL (xs := a0.Next) (fun (i7 : Nat) (s10 : Unit) tm H => tm 64 = vi i7 ∧ ∃ (Z7 V7 : PH), Gw Z6 V6 Z7 V7 ∧ Sat Z7 V7 H [pts b1 (.rw 0 [vi a0.Start, (vS d1 a0.Accept), (vS d2 a0.Next)])] ∧ tm 1 = (pV b1 0) ∧ tm 62 = (vS d2 a0.Next) ∧ tm 63 = (vN a0.Next)) (fun i7 x3 s10 y4 tm H10 q15 q16 j2 e3 k8 k9 k10 => ?_) (fun s10 tm H9 jf jd => ?_) q17 ⟨rfl, _, _, Gw.refl _ _, s9, h28, rfl, rfl⟩
  ·obtain ⟨hti1, Z7, V7, g7, s11, h30, h31, h32⟩ := j2
   unfold P.dfa_Check.b1 at e3
   refine c_sr (o_lss hti1 h32 (c_nil (c_sq ?_)))
   refine c_ift rfl (Int.ofNat_lt.2 q16) ?_
   refine c_sk (c_sq (c_bk (c_sr (o_mv hti1 ?_))))
   refine o_idx (v := (vS d2 a0.Next)) h31 hti1 (hp2.mono (g1.trans (g3.trans (g6.trans g7))).v) rfl (Pu.ix_nat.trans q15) fun p3 q18 => ?_
   refine o_lds rfl (hp2.mono (g1.trans (g3.trans (g6.trans g7))).v) s11.v q18 (Pu.ix_nat.trans q15) fun w3 h36 => ?_
   refine o_mv (v := (vJ i7)) rfl ?_
   refine o_mv (v := w3) rfl ?_
   refine c_nil (c_sq (c_sr (o_fad h30 (o_ldB 0 s11 rfl rfl rfl rfl ?_))))
   refine o_mv (v := (vJ i7)) rfl ?_
   obtain ⟨x4, q19, e3⟩ := oB e3
   refine o_idx (v := (vS d1 a0.Accept)) rfl rfl (hp1.mono (g1.trans (g3.trans (g6.trans g7))).v) rfl q19 fun p4 q20 => ?_
   refine o_ldi rfl (hp1.mono (g1.trans (g3.trans (g6.trans g7))).v) s11.v q20 q19 (o_lss rfl rfl (c_nil ?_))
   refine c_gen (P := fun tm => tm 1 = (pV b1 0) ∧ tm 7 = w3 ∧ tm 62 = (vS d2 a0.Next) ∧ tm 63 = (vN a0.Next) ∧ tm 64 = (vJ i7) ∧ tm 74 = (.bool (decide (x4 < (-1)))) ∧ True) ⟨h30, rfl, h31, h32, hti1, rfl, trivial⟩ ?_
   intro _ i8
   obtain ⟨h37, h38, h39, h40, h41, h42, -⟩ := i8
   refine c_ifd h42 (fun q21 => ?_) (fun q21 => ?_)
   ·replace e3 := if_t q21 e3
    refine c_sr ?_
    refine o_mv (v := (vi 1)) rfl ?_
    refine c_nil (c_rt ?_)
    have e4 := fin_r (k10 _ (sJ e3)) e
    obtain rfl := oJ e4
    exact ⟨.inr rfl, _, (ar1 rfl), rfl, ((s11.pick [] rfl).weak (g1.trans (g3.trans (g6.trans g7))) hs.zv)⟩
   replace e3 := if_f q21 e3
   refine c_sk (c_sr (o_mv h38 (o_len rfl (h36).len ?_)))
   refine o_mv (v := (vi 0)) rfl ?_
   refine c_nil ?_
   obtain ⟨y5, q24, e3⟩ := oB e3
   refine c_jn (I := fun tm H => ∃ (s16 : Unit), y5 = .out s16 ∧ (∃ (Z10 V10 : PH), Gw Z7 V7 Z10 V10 ∧ Sat Z10 V10 H [pts b1 (.rw 0 [vi a0.Start, (vS d1 a0.Accept), (vS d2 a0.Next)])] ∧ tm 1 = (pV b1 0) ∧ tm 62 = (vS d2 a0.Next) ∧ tm 63 = (vN a0.Next) ∧ tm 64 = (vJ i7) ∧ tm 75 = w3 ∧ tm 76 = (vN x3))) (fun k15 => ?_) ?_
   ·refine c_bk ?_
    refine l_forL (xs := x3) (fun (i9 : Nat) (s14 : Unit) tm H => tm 77 = vi i9 ∧ ∃ (Z9 V9 : PH), Gw Z7 V7 Z9 V9 ∧ Sat Z9 V9 H [pts b1 (.rw 0 [vi a0.Start, (vS d1 a0.Accept), (vS d2 a0.Next)])] ∧ tm 1 = (pV b1 0) ∧ tm 62 = (vS d2 a0.Next) ∧ tm 63 = (vN a0.Next) ∧ tm 64 = (vJ i7) ∧ tm 75 = w3 ∧ tm 76 = (vN x3)) (fun i9 x5 s14 y6 tm H13 q22 q23 j3 e5 k12 k13 k14 => ?_) (fun s14 tm H12 jf jd => ?_) q24 ⟨rfl, _, _, Gw.refl _ _, s11, h37, h39, h40, h41, rfl, rfl⟩
    ·obtain ⟨hti2, Z9, V9, g9, s15, h43, h44, h45, h46, h47, h48⟩ := j3
     unfold P.dfa_Check.b2 at e5
     refine c_sr (o_lss hti2 h48 (c_nil (c_sq ?_)))
     refine c_ift rfl (Int.ofNat_lt.2 q23) ?_
     refine c_sk (c_sq (c_bk (c_sr ?_)))
     refine o_idx (v := w3) h47 hti2 (h36.mono g9.v) rfl (Pu.ix_nat.trans q22) fun p5 q25 => ?_
     refine o_ldi rfl (h36.mono g9.v) s15.v q25 (Pu.ix_nat.trans q22) ?_
     refine o_mv (v := (vi x5)) rfl ?_
     refine c_nil (c_sr ?_)
     refine o_mv (v := (vi x5)) rfl ?_
     refine o_lss rfl rfl ?_
     refine o_mv (v := (.bool (decide (x5 < (-1))))) rfl ?_
     refine o_jn 6 (I := fun tm H => tm 89 = .bool ((decide (x5 < (-1))) || (decide ((a0.Next.length : Int) ≤ x5))) ∧ (∃ (Z11 V11 : PH), Gw Z9 V9 Z11 V11 ∧ Sat Z11 V11 H [pts b1 (.rw 0 [vi a0.Start, (vS d1 a0.Accept), (vS d2 a0.Next)])] ∧ tm 1 = (pV b1 0) ∧ tm 62 = (vS d2 a0.Next) ∧ tm 63 = (vN a0.Next) ∧ tm 64 = (vJ i7) ∧ tm 75 = w3 ∧ tm 76 = (vN x3) ∧ tm 77 = (vJ i9))) (fun k16 => ?_) ?_
     ·rcases Bool.eq_false_or_eq_true (decide (x5 < (-1))) with q26 | q26
      ·refine o_gn rfl q26 (o_gn rfl q26 (o_gn rfl q26 (o_gn rfl q26 (o_gn rfl q26 ?_))))
       refine o_pickt (a := (.bool true)) rfl q26 rfl ?_
       exact k16 _ _ ⟨gf rfl (by first | (rw [q26]; first | done | rfl) | simp [q26]), _, _, Gw.refl _ _, s15, h43, h44, h45, h46, h47, h48, hti2⟩
      refine o_gy rfl q26 ?_
      refine o_mv (v := (vi x5)) rfl ?_
      refine o_gy rfl q26 (o_fad h43 (o_gy rfl q26 (o_ldB 0 s15 rfl rfl rfl rfl (o_gy rfl q26 ?_))))
      refine o_len rfl ((hp2.mono (g1.trans (g3.trans (g6.trans (g7.trans g9)))).v)).len (o_gy rfl q26 (o_geq rfl rfl ?_))
      refine o_pickf (b := (.bool (decide ((a0.Next.length : Int) ≤ x5)))) rfl q26 rfl ?_
      exact k16 _ _ ⟨gf rfl (by first | (rw [q26]; first | done | rfl) | simp [q26]), _, _, Gw.refl _ _, s15, h43, h44, h45, h46, h47, h48, hti2⟩
     intro _ H15 i10
     obtain ⟨h62, Z11, V11, g11, s18, h55, h56, h57, h58, h59, h60, h61⟩ := i10
     refine c_nil ?_
     refine c_if h62 (fun q27 => ?_) (fun q27 => ?_)
     ·replace e5 := if_t q27 e5
      refine c_sr ?_
      refine o_mv (v := (vi 1)) rfl ?_
      refine c_nil (c_rt ?_)
      have e6 := fin_r (k14 _ (sJ e5)) e3
      have e7 := fin_r (k10 _ (sJ e6)) e
      obtain rfl := oJ e7
      exact ⟨.inr rfl, _, (ar1 rfl), rfl, ((s18.pick [] rfl).weak (g1.trans (g3.trans (g6.trans (g7.trans (g9.trans g11))))) hs.zv)⟩
     replace e5 := ib_f q27 e5
     refine c_sk (c_end (c_r (o_add h61 rfl ?_)))
     refine o_mv (v := (vi (Pu.W ((i9 : Int) + 1)))) rfl ?_
     refine c_nil ?_
     exact k12 _ _ _ (sJ e5) ⟨(iv rfl (w_suc q23 (h36).bd)), _, _, (g9.trans g11), s18, h55, h56, h57, h58, h59, h60⟩
    ·obtain ⟨hte2, Z12, V12, g12, s19, h63, h64, h65, h66, h67, h68⟩ := jd
     refine c_sr (o_lss hte2 h68 (c_nil (c_sq ?_)))
     refine c_iff rfl (Int.lt_irrefl _) ?_
     refine c_ex ?_
     refine e_c ?_
     refine e_c ?_
     refine e_h ?_
     exact k15 _ _ ⟨_, jf, _, _, g12, s19, h63, h64, h65, h66, h67, h68⟩
   intro _ H14 i11
   obtain ⟨s16, f2, Z10, V10, g10, s17, h49, h50, h51, h52, h53, h54⟩ := i11
   replace e3 := fin_o f2 e3
   refine c_end (c_r (o_add h52 rfl ?_))
   refine o_mv (v := (vi (Pu.W ((i7 : Int) + 1)))) rfl ?_
   refine c_nil ?_
   exact k8 _ _ _ (sJ e3) ⟨(iv rfl (w_suc q16 ((hp2.mono (g1.trans (g3.trans g6)).v)).bd)), _, _, (g7.trans g10), s17, h49, h50, h51⟩
  ·obtain ⟨hte1, Z13, V13, g13, s20, h69, h70, h71⟩ := jd
   refine c_sr (o_lss hte1 h71 (c_nil (c_sq ?_)))
   refine c_iff rfl (Int.lt_irrefl _) ?_
   refine c_ex ?_
   refine e_c ?_
   refine e_c ?_
   refine e_h ?_
   exact k11 _ _ ⟨_, jf, _, _, g13, s20, h69, h70, h71⟩
 intro _ H11 i12
 obtain ⟨s12, f3, Z8, V8, g8, s13, h33, h34, h35⟩ := i12
 replace e := fin_o f3 e
 refine c_sr ?_
 refine o_mv (v := (vi 0)) rfl ?_
 refine c_nil (c_rt ?_)
 obtain rfl := oJ e
 exact ⟨.inr rfl, _, (ar1 rfl), rfl, ((s13.pick [] rfl).weak (g1.trans (g3.trans (g6.trans g8))) hs.zv)⟩
/-! dfa_Run -/
structure Nd.dfa_Run (T : FuncId → Option AFunc) : Prop where
  own : Has T I.dfa_Run F.dfa_Run
  dfa_Check : Nd.dfa_Check T
set_option maxHeartbeats 1000000 in
theorem X.dfa_Run {T : FuncId → Option AFunc} (nd : Nd.dfa_Run T) {Z V : PH} {H : Hp} {v1 : Value} {v2 : Value} {v3 : Value} {a0 : Ty.api_Dfa} {a1 : (List Int)} (hs : Sat Z V H []) (hp1 : RdS Sh.int V v1 a0.Accept) (hp2 : RdS sI1 V v2 a0.Next) (hp3 : RdS Sh.int V v3 a1) {r : (Int × Int)} (e : P.dfa_Run a0 a1 = some r) :
    G T I.dfa_Run [(.agg #[vi a0.Start, v1, v2]), v3] H (fun rv H' => rv = (.tuple #[vi r.1, vi r.2]) ∧ Sat Z V H' []) := by
 unfold P.dfa_Run at e
 refine f_mk nd.own ?_
 refine c_sr ?_
 obtain ⟨d1, rfl⟩ := (hp1).val
 obtain ⟨d2, rfl⟩ := (hp2).val
 refine o_box hs rfl rfl fun b1 H1 s1 => ?_
 refine o_mv (v := (vi 0)) rfl ?_
 refine o_mv (v := (vi 0)) rfl ?_
 refine c_nil (c_sq (c_sr (o_ldB 0 s1 rfl rfl rfl rfl ?_)))
 obtain ⟨x1, q1, e⟩ := oB e
 obtain ⟨Z1, V1, W1, g1, u1, c1, c2, -, c4, c3⟩ := Sat.call (l1 := []) s1
 refine o_call (mc rfl m0) (X.dfa_Check nd.dfa_Check c1 (hp1.mono (g1.v.trans u1)) (hp2.mono (g1.v.trans u1)) q1) fun _ H2 i1 => ?_
 obtain ⟨rfl, s2⟩ := i1
 have s3 := c3 _ _ s2
 refine o_mv (v := (vi x1)) rfl ?_
 refine c_nil (c_sr ?_)
 refine o_mv (v := (vi x1)) rfl ?_
 refine o_neq rfl rfl (c_nil ?_)
 refine c_ifd rfl (fun q2 => ?_) (fun q2 => ?_)
 ·replace e := if_t q2 e
  refine c_sr ?_
  refine o_mv (v := (vi x1)) rfl ?_
  refine o_mv (v := (vi 0)) rfl ?_
  refine o_mv (v := (vi x1)) rfl ?_
  refine c_nil ?_
  refine c_gen (P := fun tm => tm 4 = (vi 0) ∧ tm 5 = (vi x1) ∧ True) ⟨rfl, rfl, trivial⟩ ?_
  intro _ i2
  obtain ⟨h1, h2, -⟩ := i2
  refine c_rt ?_
  obtain rfl := oJ e
  exact ⟨.inr rfl, _, (ar2 h1 h2), rfl, ((s3.pick [] rfl).weak g1 hs.zv)⟩
 replace e := if_f q2 e
 refine c_sk (c_sq (c_sr ?_))
 refine o_mv (v := v3) rfl ?_
 refine o_len rfl ((hp3.mono g1.v)).len (o_gtr rfl rfl (c_nil ?_))
 refine c_gen (P := fun tm => tm 1 = v3 ∧ tm 2 = (pV b1 0) ∧ tm 19 = (.bool (decide (4000 < (a1.length : Int)))) ∧ True) ⟨rfl, rfl, rfl, trivial⟩ ?_
 intro _ i3
 obtain ⟨h3, h4, h5, -⟩ := i3
 refine c_ifd h5 (fun q3 => ?_) (fun q3 => ?_)
 ·replace e := if_t q3 e
  refine c_sr ?_
  refine o_mv (v := (vi 0)) rfl ?_
  refine o_mv (v := (vi 2)) rfl ?_
  refine c_nil (c_rt ?_)
  obtain rfl := oJ e
  exact ⟨.inr rfl, _, (ar2 rfl rfl), rfl, ((s3.pick [] rfl).weak g1 hs.zv)⟩
 replace e := if_f q3 e
 refine c_sk (c_sq (c_sr (o_mv h3 (o_len rfl ((hp3.mono g1.v)).len ?_))))
 refine o_mv (v := (vi 0)) rfl ?_
 refine c_nil ?_
 obtain ⟨y1, q6, e⟩ := oB e
 refine c_jn (I := fun tm H => ∃ (s6 : Unit), y1 = .out s6 ∧ (∃ (Z3 V3 : PH), Gw Z1 V1 Z3 V3 ∧ Sat Z3 V3 H [pts b1 (.rw 0 [vi a0.Start, (vS d1 a0.Accept), (vS d2 a0.Next)])] ∧ tm 1 = v3 ∧ tm 2 = (pV b1 0) ∧ tm 20 = v3 ∧ tm 21 = (vN a1))) (fun k4 => ?_) ?_
 ·refine c_bk ?_
  refine l_forL (xs := a1) (fun (i4 : Nat) (s4 : Unit) tm H => tm 22 = vi i4 ∧ ∃ (Z2 V2 : PH), Gw Z1 V1 Z2 V2 ∧ Sat Z2 V2 H [pts b1 (.rw 0 [vi a0.Start, (vS d1 a0.Accept), (vS d2 a0.Next)])] ∧ tm 1 = v3 ∧ tm 2 = (pV b1 0) ∧ tm 20 = v3 ∧ tm 21 = (vN a1)) (fun i4 x2 s4 y2 tm H4 q4 q5 j1 e1 k1 k2 k3 => ?_) (fun s4 tm H3 jf jd => ?_) q6 ⟨rfl, _, _, Gw.refl _ _, s3, h3, h4, rfl, rfl⟩
  ·obtain ⟨hti0, Z2, V2, g2, s5, h6, h7, h8, h9⟩ := j1
   unfold P.dfa_Run.b0 at e1
   refine c_sr (o_lss hti0 h9 (c_nil (c_sq ?_)))
   refine c_ift rfl (Int.ofNat_lt.2 q5) ?_
   refine c_sk (c_sq (c_bk (c_sr ?_)))
   refine o_idx (v := v3) h8 hti0 (hp3.mono (g1.trans g2).v) rfl (Pu.ix_nat.trans q4) fun p1 q7 => ?_
   refine o_ldi rfl (hp3.mono (g1.trans g2).v) s5.v q7 (Pu.ix_nat.trans q4) ?_
   refine o_mv (v := (vi x2)) rfl ?_
   refine c_nil (c_sr ?_)
   refine o_mv (v := (vi x2)) rfl ?_
   refine o_lss rfl rfl ?_
   refine o_mv (v := (.bool (decide (x2 < 0)))) rfl ?_
   obtain ⟨y3, e2, e1⟩ := oB e1
   refine o_jn 8 (I := fun tm H => ∃ (Z4 V4 : PH), Gw Z2 V2 Z4 V4 ∧ Sat Z4 V4 H [pts b1 (.rw 0 [vi a0.Start, (vS d1 a0.Accept), (vS d2 a0.Next)])] ∧ tm 1 = v3 ∧ tm 2 = (pV b1 0) ∧ tm 20 = v3 ∧ tm 21 = (vN a1) ∧ tm 22 = (vJ i4) ∧ tm 36 = (.bool y3)) (fun k5 => ?_) ?_
   ·rcases Bool.eq_false_or_eq_true (decide (x2 < 0)) with q8 | q8
    ·replace e2 := if_t q8 e2
     refine o_gn rfl q8 (o_gn rfl q8 (o_gn rfl q8 (o_gn rfl q8 (o_gn rfl q8 ?_))))
     refine o_gn rfl q8 (o_gn rfl q8 ?_)
     refine o_pickt (a := (.bool true)) rfl q8 rfl ?_
     obtain rfl := oJ e2
     exact k5 _ _ ⟨_, _, Gw.refl _ _, s5, h6, h7, h8, h9, hti0, rfl⟩
    replace e2 := ib_f q8 e2
    refine o_gy rfl q8 ?_
    refine o_mv (v := (vi x2)) rfl ?_
    refine o_gy rfl q8 (o_fad h7 (o_gy rfl q8 (o_ldB 0 s5 rfl rfl rfl rfl (o_gy rfl q8 ?_))))
    obtain ⟨x3, q9, e2⟩ := oB e2
    refine o_idx (v := (vS d2 a0.Next)) rfl rfl (hp2.mono (g1.trans g2).v) rfl q9 fun p2 q10 => ?_
    refine o_gy rfl q8 ?_
    refine o_lds rfl (hp2.mono (g1.trans g2).v) s5.v q10 q9 fun w1 h20 => ?_
    refine o_gy rfl q8 (o_len rfl (h20).len (o_gy rfl q8 (o_geq rfl rfl ?_)))
    refine o_pickf (b := (.bool (decide ((x3.length : Int) ≤ x2)))) rfl q8 rfl ?_
    obtain rfl := oJ e2
    exact k5 _ _ ⟨_, _, Gw.refl _ _, s5, h6, h7, h8, h9, hti0, rfl⟩
   intro _ H6 i5
   obtain ⟨Z4, V4, g4, s8, h14, h15, h16, h17, h18, h19⟩ := i5
   refine c_nil ?_
   refine c_if h19 (fun q11 => ?_) (fun q11 => ?_)
   ·replace e1 := if_t q11 e1
    refine c_sr ?_
    refine o_mv (v := (vi 0)) rfl ?_
    refine o_mv (v := (vi 1)) rfl ?_
    refine c_nil (c_rt ?_)
    have e3 := fin_r (k3 _ (sJ e1)) e
    obtain rfl := oJ e3
    exact ⟨.inr rfl, _, (ar2 rfl rfl), rfl, ((s8.pick [] rfl).weak (g1.trans (g2.trans g4)) hs.zv)⟩
   replace e1 := ib_f q11 e1
   refine c_sk (c_end (c_r (o_add h18 rfl ?_)))
   refine o_mv (v := (vi (Pu.W ((i4 : Int) + 1)))) rfl ?_
   refine c_nil ?_
   exact k1 _ _ _ (sJ e1) ⟨(iv rfl (w_suc q5 ((hp3.mono g1.v)).bd)), _, _, (g2.trans g4), s8, h14, h15, h16, h17⟩
  ·obtain ⟨hte0, Z5, V5, g5, s9, h21, h22, h23, h24⟩ := jd
   refine c_sr (o_lss hte0 h24 (c_nil (c_sq ?_)))
   refine c_iff rfl (Int.lt_irrefl _) ?_
   refine c_ex ?_
   refine e_c ?_
   refine e_c ?_
   refine e_h ?_
   exact k4 _ _ ⟨_, jf, _, _, g5, s9, h21, h22, h23, h24⟩
 intro _ H5 i6
 obtain ⟨s6, f1, Z3, V3, g3, s7, h10, h11, h12, h13⟩ := i6
 replace e := fin_o f1 e
 refine c_sr (o_fad h11 (o_ldB 0 s7 rfl rfl rfl rfl ?_))
 refine o_mv (v := (vi a0.Start)) rfl ?_
 refine c_nil (c_sq (c_sr (o_mv h10 (o_len rfl ((hp3.mono (g1.trans g3).v)).len ?_))))
 refine o_mv (v := (vi 0)) rfl ?_
 refine c_nil ?_
 obtain ⟨y4, q14, e⟩ := oB e
 refine c_jn (I := fun tm H => ∃ (s12 : Int), y4 = .out s12 ∧ (∃ (Z7 V7 : PH), Gw Z3 V3 Z7 V7 ∧ Sat Z7 V7 H [pts b1 (.rw 0 [vi a0.Start, (vS d1 a0.Accept), (vS d2 a0.Next)])] ∧ tm 2 = (pV b1 0) ∧ tm 9 = (vi s12) ∧ tm 40 = v3 ∧ tm 41 = (vN a1))) (fun k9 => ?_) ?_
 ·refine c_bk ?_
  refine l_forL (xs := a1) (fun (i7 : Nat) (s10 : Int) tm H => tm 42 = vi i7 ∧ ∃ (Z6 V6 : PH), Gw Z3 V3 Z6 V6 ∧ Sat Z6 V6 H [pts b1 (.rw 0 [vi a0.Start, (vS d1 a0.Accept), (vS d2 a0.Next)])] ∧ tm 2 = (pV b1 0) ∧ tm 9 = (vi s10) ∧ tm 40 = v3 ∧ tm 41 = (vN a1)) (fun i7 x4 s10 y5 tm H9 q12 q13 j2 e4 k6 k7 k8 => ?_) (fun s10 tm H8 jf jd => ?_) q14 ⟨rfl, _, _, Gw.refl _ _, s7, h11, rfl, rfl, rfl⟩
  ·obtain ⟨hti1, Z6, V6, g6, s11, h25, h26, h27, h28⟩ := j2
   unfold P.dfa_Run.b1 at e4
   refine c_sr (o_lss hti1 h28 (c_nil (c_sq ?_)))
   refine c_ift rfl (Int.ofNat_lt.2 q13) ?_
   refine c_sk (c_sq (c_bk (c_sr ?_)))
   refine o_idx (v := v3) h27 hti1 (hp3.mono (g1.trans (g3.trans g6)).v) rfl (Pu.ix_nat.trans q12) fun p3 q15 => ?_
   refine o_ldi rfl (hp3.mono (g1.trans (g3.trans g6)).v) s11.v q15 (Pu.ix_nat.trans q12) ?_
   refine o_mv (v := (vi x4)) rfl ?_
   refine c_nil (c_sr (o_fad h25 (o_ldB 0 s11 rfl rfl rfl rfl (o_mv h26 ?_))))
   obtain ⟨x5, q16, e4⟩ := oB e4
   refine o_idx (v := (vS d2 a0.Next)) rfl rfl (hp2.mono (g1.trans (g3.trans g6)).v) rfl q16 fun p4 q17 => ?_
   refine o_lds rfl (hp2.mono (g1.trans (g3.trans g6)).v) s11.v q17 q16 fun w2 h33 => ?_
   refine o_mv (v := (vi x4)) rfl ?_
   obtain ⟨x6, q18, e4⟩ := oB e4
   refine o_idx (v := w2) rfl rfl h33 rfl q18 fun p5 q19 => ?_
   refine o_ldi rfl h33 s11.v q19 q18 ?_
   refine o_mv (v := (vi x6)) rfl ?_
   refine c_nil ?_
   refine c_gen (P := fun tm => tm 2 = (pV b1 0) ∧ tm 9 = (vi x6) ∧ tm 40 = v3 ∧ tm 41 = (vN a1) ∧ tm 42 = (vJ i7) ∧ True) ⟨h25, rfl, h27, h28, hti1, trivial⟩ ?_
   intro _ i8
   obtain ⟨h34, h35, h36, h37, h38, -⟩ := i8
   refine c_sr (o_mv h35 (o_lss rfl rfl (c_nil ?_)))
   refine c_ifd rfl (fun q20 => ?_) (fun q20 => ?_)
   ·replace e4 := if_t q20 e4
    refine c_sr ?_
    refine o_mv (v := (vi (-1))) rfl ?_
    refine o_mv (v := (vi 0)) rfl ?_
    refine c_nil (c_rt ?_)
    have e5 := fin_r (k8 _ (sJ e4)) e
    obtain rfl := oJ e5
    exact ⟨.inr rfl, _, (ar2 rfl rfl), rfl, ((s11.pick [] rfl).weak (g1.trans (g3.trans g6)) hs.zv)⟩
   replace e4 := if_f q20 e4
   refine c_sk (c_end (c_r (o_add h38 rfl ?_)))
   refine o_mv (v := (vi (Pu.W ((i7 : Int) + 1)))) rfl ?_
   refine c_nil ?_
   exact k6 _ _ _ (sJ e4) ⟨(iv rfl (w_suc q13 ((hp3.mono (g1.trans g3).v)).bd)), _, _, g6, s11, h34, h35, h36, h37⟩
  ·obtain ⟨hte1, Z8, V8, g8, s14, h39, h40, h41, h42⟩ := jd
   refine c_sr (o_lss hte1 h42 (c_nil (c_sq ?_)))
   refine c_iff rfl (Int.lt_irrefl _) ?_
   refine c_ex ?_
   refine e_c ?_
   refine e_c ?_
   refine e_h ?_
   exact k9 _ _ ⟨_, jf, _, _, g8, s14, h39, h40, h41, h42⟩
 intro _ H10 i9
 obtain ⟨s12, f2, Z7, V7, g7, s13, h29, h30, h31, h32⟩ := i9
 replace e := fin_o f2 e
 refine c_sr (o_fad h29 (o_ldB 0 s13 rfl rfl rfl rfl (o_mv h30 ?_)))
 obtain ⟨x7, q21, e⟩ := oB e
 refine o_idx (v := (vS d1 a0.Accept)) rfl rfl (hp1.mono (g1.trans (g3.trans g7)).v) rfl q21 fun p6 q22 => ?_
 refine o_ldi rfl (hp1.mono (g1.trans (g3.trans g7)).v) s13.v q22 q21 ?_
 refine o_mv (v := (vi x7)) rfl ?_
 refine o_mv (v := (vi 0)) rfl ?_
 refine c_nil (c_rt ?_)
 obtain rfl := oJ e
 exact ⟨.inr rfl, _, (ar2 rfl rfl), rfl, ((s13.pick [] rfl).weak (g1.trans (g3.trans g7)) hs.zv)⟩
/-! parlkeep5_accepts -/
structure Nd.parlkeep5_accepts (T : FuncId → Option AFunc) : Prop where
  own : Has T I.parlkeep5_accepts F.parlkeep5_accepts
  dfa_Run : Nd.dfa_Run T
set_option maxHeartbeats 1000000 in
theorem X.parlkeep5_accepts {T : FuncId → Option AFunc} (nd : Nd.parlkeep5_accepts T) {Z V : PH} {H : Hp} {v1 : Value} {v2 : Value} {v3 : Value} {a0 : Ty.api_Dfa} {a1 : (List Int)} (hs : Sat Z V H []) (hp1 : RdS Sh.int V v1 a0.Accept) (hp2 : RdS sI1 V v2 a0.Next) (hp3 : RdS Sh.int V v3 a1) {r : Bool} (e : P.parlkeep5_accepts a0 a1 = some r) :
    G T I.parlkeep5_accepts [(.agg #[vi a0.Start, v1, v2]), v3] H (fun rv H' => rv = (.bool r) ∧ Sat Z V H' []) := by
 unfold P.parlkeep5_accepts at e
 refine f_mk nd.own ?_
 refine c_sr ?_
 obtain ⟨d1, rfl⟩ := (hp1).val
 obtain ⟨d2, rfl⟩ := (hp2).val
 refine o_box hs rfl rfl fun b1 H1 s1 => ?_
 refine o_mv (v := (.bool false)) rfl ?_
 refine c_nil (c_sr (o_ldB 0 s1 rfl rfl rfl rfl ?_))
 refine o_mv (v := v3) rfl ?_
 obtain ⟨x1, q1, e⟩ := oB e
 obtain ⟨Z1, V1, W1, g1, u1, c1, c2, -, c4, c3⟩ := Sat.call (l1 := []) s1
 refine o_call (mc rfl (mc rfl m0)) (X.dfa_Run nd.dfa_Run c1 (hp1.mono (g1.v.trans u1)) (hp2.mono (g1.v.trans u1)) (hp3.mono (g1.v.trans u1)) q1) fun _ H2 i1 => ?_
 obtain ⟨rfl, s2⟩ := i1
 have s3 := c3 _ _ s2
 refine o_mv (v := (.tuple #[vi x1.1, vi x1.2])) rfl ?_
 refine o_ext rfl rfl (o_ext rfl rfl ?_)
 refine o_mv (v := (vi x1.1)) rfl ?_
 refine o_mv (v := (vi x1.2)) rfl ?_
 refine c_nil ?_
 refine c_gen (P := fun tm => tm 5 = (vi x1.1) ∧ tm 6 = (vi x1.2) ∧ True) ⟨rfl, rfl, trivial⟩ ?_
 intro _ i2
 obtain ⟨h1, h2, -⟩ := i2
 refine c_sr (o_mv h2 (o_eql rfl rfl ?_))
 refine o_mv (v := (.bool (decide (x1.2 = 0)))) rfl ?_
 refine o_jn 3 (I := fun tm H => tm 18 = .bool ((decide (x1.2 = 0)) && (decide (0 ≤ x1.1))) ∧ (∃ (Z2 V2 : PH), Gw Z1 V1 Z2 V2 ∧ Sat Z2 V2 H [])) (fun k1 => ?_) ?_
 ·rcases Bool.eq_false_or_eq_true (decide (x1.2 = 0)) with q2 | q2
  ·refine o_gy rfl q2 (o_mv h1 (o_gy rfl q2 (o_geq rfl rfl ?_)))
   refine o_pickt (a := (.bool (decide (0 ≤ x1.1)))) rfl q2 rfl ?_
   exact k1 _ _ ⟨gf rfl (by first | (rw [q2]; first | done | rfl) | simp [q2]), _, _, Gw.refl _ _, (s3.pick [] rfl)⟩
  refine o_gn rfl q2 (o_gn rfl q2 ?_)
  refine o_pickf (b := (.bool false)) rfl q2 rfl ?_
  exact k1 _ _ ⟨gf rfl (by first | (rw [q2]; first | done | rfl) | simp [q2]), _, _, Gw.refl _ _, (s3.pick [] rfl)⟩
 intro _ H3 i3
 obtain ⟨h3, Z2, V2, g2, s4⟩ := i3
 refine o_mv h3 (c_nil (c_rt ?_))
 obtain rfl := oJ e
 exact ⟨.inr rfl, _, (ar1 rfl), rfl, (s4.weak (g1.trans g2) hs.zv)⟩
/-! parlkeep5_examples -/
structure Nd.parlkeep5_examples (T : FuncId → Option AFunc) : Prop where
  own : Has T I.parlkeep5_examples F.parlkeep5_examples
  parlkeep5_below : Nd.parlkeep5_below T
  parlmake_Word : Nd.parlmake_Word T
  parlkeep5_accepts : Nd.parlkeep5_accepts T
set_option maxHeartbeats 1000000 in
theorem X.parlkeep5_examples {T : FuncId → Option AFunc} (nd : Nd.parlkeep5_examples T) {φ : Nat} {Z V : PH} {H : Hp} {v1 : Value} {v2 : Value} {v3 : Value} {a0 : Ty.api_Dfa} {a1 : (List Int)} (hs : Sat Z V H []) (hp1 : RdS Sh.int V v1 a0.Accept) (hp2 : RdS sI1 V v2 a0.Next) (hp3 : RdS Sh.int V v3 a1) {r : ((List (List Int)) × (List (List Int)))} (e : P.parlkeep5_examples φ a0 a1 = some r) :
    G T I.parlkeep5_examples [(.agg #[vi a0.Start, v1, v2]), v3] H (fun rv H' => ∃ (u1 : Value) (u2 : Value), rv = (.tuple #[u1, u2]) ∧ Sat Z V H' [It.sl (Sh.ro sI1) u1 r.1, It.sl (Sh.ro sI1) u2 r.2]) := by
 unfold P.parlkeep5_examples at e
 refine f_mk nd.own ?_
 refine c_sr ?_
 obtain ⟨d1, rfl⟩ := (hp1).val
 obtain ⟨d2, rfl⟩ := (hp2).val
 refine o_box hs rfl rfl fun b1 H1 s1 => ?_
 refine o_mv (v := (.slice none 0 0)) rfl ?_
 refine o_mv (v := (.slice none 0 0)) rfl ?_
 refine c_nil (c_sr ?_)
 refine o_mv (v := (.slice none 0 0)) rfl ?_
 refine o_mv (v := (.slice none 0 0)) rfl ?_
 refine c_nil (c_sq ?_)
 obtain ⟨y1, q3, e⟩ := oB e
 refine c_jn (I := fun tm H => ∃ (s4 : ((List Int) × (List (List Int)) × (List (List Int)))), y1 = .out s4 ∧ (∃ (Z2 V2 : PH) (w4 : Value) (w5 : Value) (w6 : Value), Gw Z V Z2 V2 ∧ Sat Z2 V2 H [pts b1 (.rw 0 [vi a0.Start, (vS d1 a0.Accept), (vS d2 a0.Next)]), It.sl (Sh.ro sI1) w4 s4.2.1, It.sl (Sh.ro sI1) w5 s4.2.2] ∧ tm 1 = w6 ∧ tm 2 = (pV b1 0) ∧ tm 6 = w4 ∧ tm 7 = w5 ∧ RdS Sh.int V2 w6 s4.1)) (fun k4 => ?_) ?_
 ·refine c_bk ?_
  refine l_whl (fun (s2 : ((List Int) × (List (List Int)) × (List (List Int)))) tm H => ∃ (Z1 V1 : PH) (w1 : Value) (w2 : Value) (w3 : Value), Gw Z V Z1 V1 ∧ Sat Z1 V1 H [pts b1 (.rw 0 [vi a0.Start, (vS d1 a0.Accept), (vS d2 a0.Next)]), It.sl (Sh.ro sI1) w1 s2.2.1, It.sl (Sh.ro sI1) w2 s2.2.2] ∧ tm 1 = w3 ∧ tm 2 = (pV b1 0) ∧ tm 6 = w1 ∧ tm 7 = w2 ∧ RdS Sh.int V1 w3 s2.1) (fun s2 y2 tm H3 j1 e1 k1 k2 k3 => ?_) q3 ⟨_, _, _, _, _, Gw.refl _ _, (((s1.push (sl_nil (s := (Sh.ro sI1)))).push (sl_nil (s := (Sh.ro sI1)))).pick [2, 1, 0] rfl), rfl, rfl, rfl, rfl, hp3⟩
  obtain ⟨Z1, V1, w1, w2, w3, g1, s3, h2, h3, h4, h5, h1⟩ := j1
  unfold P.parlkeep5_examples.b0 at e1
  refine c_sq (c_sr (o_mv h2 (o_len rfl (h1).len (o_gtr rfl rfl ?_))))
  refine o_mv (v := (.bool (decide (0 < (s2.1.length : Int))))) rfl ?_
  refine o_jn 7 (I := fun tm H => tm 20 = .bool ((decide (0 < (s2.1.length : Int))) && (decide ((Pu.W ((s2.2.1.length : Int) + (s2.2.2.length : Int))) < 12))) ∧ (∃ (Z3 V3 : PH), Gw Z1 V1 Z3 V3 ∧ Sat Z3 V3 H [pts b1 (.rw 0 [vi a0.Start, (vS d1 a0.Accept), (vS d2 a0.Next)]), It.sl (Sh.ro sI1) w1 s2.2.1, It.sl (Sh.ro sI1) w2 s2.2.2] ∧ tm 1 = w3 ∧ tm 2 = (pV b1 0) ∧ tm 6 = w1 ∧ tm 7 = w2)) (fun k5 => ?_) ?_
  ·rcases Bool.eq_false_or_eq_true (decide (0 < (s2.1.length : Int))) with q4 | q4
   ·refine o_gy rfl q4 (o_mv h4 (o_gy rfl q4 ?_))
    refine o_len rfl ((s3.curS (s := (Sh.ro sI1)) 1 rfl)).len ?_
    refine o_gy rfl q4 (o_mv h5 (o_gy rfl q4 ?_))
    refine o_len rfl ((s3.curS (s := (Sh.ro sI1)) 2 rfl)).len ?_
    refine o_gy rfl q4 (o_add rfl rfl (o_gy rfl q4 (o_lss rfl rfl ?_)))
    refine o_pickt (a := (.bool (decide ((Pu.W ((s2.2.1.length : Int) + (s2.2.2.length : Int))) < 12)))) rfl q4 rfl ?_
    exact k5 _ _ ⟨gf rfl (by first | (rw [q4]; first | done | rfl) | simp [q4]), _, _, Gw.refl _ _, s3, h2, h3, h4, h5⟩
   refine o_gn rfl q4 (o_gn rfl q4 (o_gn rfl q4 (o_gn rfl q4 (o_gn rfl q4 ?_))))
   refine o_gn rfl q4 ?_
   refine o_pickf (b := (.bool false)) rfl q4 rfl ?_
   exact k5 _ _ ⟨gf rfl (by first | (rw [q4]; first | done | rfl) | simp [q4]), _, _, Gw.refl _ _, s3, h2, h3, h4, h5⟩
  intro _ H5 i2
  obtain ⟨h15, Z3, V3, g3, s6, h11, h12, h13, h14⟩ := i2
  refine c_nil ?_
  refine c_if h15 (fun q5 => ?_) (fun q5 => ?_)
  ·replace e1 := if_t q5 e1
   refine c_sk (c_bk (c_sr (o_mv h11 ?_)))
   obtain ⟨x2, q6, e1⟩ := oB e1
   refine o_idx (v := w3) rfl rfl (h1.mono g3.v) rfl q6 fun p1 q7 => ?_
   refine o_ldi rfl (h1.mono g3.v) s6.v q7 q6 ?_
   obtain ⟨x3, q8, e1⟩ := oB e1
   obtain ⟨Z4, V4, W1, g4, u1, c1, c2, -, c4, c3⟩ := Sat.call (l1 := []) s6
   refine o_call (mc rfl (mc rfl m0)) (X.parlkeep5_below nd.parlkeep5_below c1 q8) fun _ H6 i3 => ?_
   obtain ⟨rfl, s7⟩ := i3
   have s8 := c3 _ _ s7
   refine o_mv (v := (vi x3)) rfl ?_
   refine c_nil (c_sr (o_mv h11 ?_))
   obtain ⟨x4, q9, e1⟩ := oB e1
   refine o_slcl rfl rfl (h1.mono (g3.trans g4).v) s8.v rfl q9 fun w7 h16 => ?_
   refine o_mv (v := w7) rfl ?_
   refine c_nil (c_sr (o_fad h12 (o_ldB 0 s8 rfl rfl rfl rfl ?_)))
   obtain ⟨x5, q10, e1⟩ := oB e1
   refine o_idx (v := (vS d2 a0.Next)) rfl rfl (hp2.mono (g1.trans (g3.trans g4)).v) rfl q10 fun p2 q11 => ?_
   refine o_lds rfl (hp2.mono (g1.trans (g3.trans g4)).v) s8.v q11 q10 fun w8 h17 => ?_
   refine o_len rfl (h17).len ?_
   refine o_mv (v := (vi x3)) rfl ?_
   refine o_mv (v := w7) rfl ?_
   obtain ⟨x6, q12, e1⟩ := oB e1
   obtain ⟨Z5, V5, W2, g5, u2, c5, c6, -, c8, c7⟩ := Sat.call (l1 := []) s8
   refine o_call (mc rfl (mc rfl (mc rfl m0))) (X.parlmake_Word nd.parlmake_Word c5 (h16.mono (g5.v.trans u2)) q12) fun w9 H7 i4 => ?_
   obtain ⟨_, rfl, s9⟩ := i4
   have s10 := c7 _ _ s9
   refine o_mv (v := w9) rfl ?_
   refine c_nil ?_
   refine c_gen (P := fun tm => tm 1 = w7 ∧ tm 2 = (pV b1 0) ∧ tm 6 = w1 ∧ tm 7 = w2 ∧ tm 8 = (vi x3) ∧ tm 9 = w9 ∧ True) ⟨rfl, h12, h13, h14, rfl, rfl, trivial⟩ ?_
   intro _ i5
   obtain ⟨h18, h19, h20, h21, h22, h23, -⟩ := i5
   refine c_sr (o_mv h18 (o_mv h18 (o_len rfl ((h16.mono g5.v)).len (o_mv h22 ?_))))
   refine o_min rfl rfl ?_
   obtain ⟨x7, q13, e1⟩ := oB e1
   refine o_slcl rfl rfl (h16.mono g5.v) s10.v rfl q13 fun w10 h24 => ?_
   refine o_mv (v := w10) rfl ?_
   refine c_nil (c_sr (o_ldB 1 s10 rfl h19 rfl rfl (o_mv h23 ?_)))
   obtain ⟨x8, q14, e1⟩ := oB e1
   obtain ⟨Z6, V6, W3, g6, u3, c9, c10, -, c12, c11⟩ := Sat.call (l1 := []) s10
   refine o_call (mc rfl (mc rfl m0)) (X.parlkeep5_accepts nd.parlkeep5_accepts c9 (hp1.mono (((g1.trans (g3.trans (g4.trans g5))).trans g6).v.trans u3)) (hp2.mono (((g1.trans (g3.trans (g4.trans g5))).trans g6).v.trans u3)) (c10 0 _ Sh.int _ _ rfl) q14) fun _ H8 i6 => ?_
   obtain ⟨rfl, s11⟩ := i6
   have s12 := c11 _ _ s11
   refine c_nil ?_
   refine c_gen (P := fun tm => tm 1 = w10 ∧ tm 2 = (pV b1 0) ∧ tm 6 = w1 ∧ tm 7 = w2 ∧ tm 9 = w9 ∧ tm 43 = (.bool x8) ∧ True) ⟨rfl, h19, h20, h21, h23, rfl, trivial⟩ ?_
   intro _ i7
   obtain ⟨h25, h26, h27, h28, h29, h30, -⟩ := i7
   obtain ⟨y3, e2, e1⟩ := oB e1
   refine c_jn (I := fun tm H => ∃ (Z7 V7 : PH) (w11 : Value) (w12 : Value), Gw Z6 V6 Z7 V7 ∧ Sat Z7 V7 H [pts b1 (.rw 0 [vi a0.Start, (vS d1 a0.Accept), (vS d2 a0.Next)]), It.sl (Sh.ro sI1) w11 y3.1, It.sl (Sh.ro sI1) w12 y3.2] ∧ tm 1 = w10 ∧ tm 2 = (pV b1 0) ∧ tm 6 = w11 ∧ tm 7 = w12) (fun k6 => ?_) ?_
   ·refine c_if h30 (fun q15 => ?_) (fun q15 => ?_)
    ·replace e2 := if_t q15 e2
     refine c_r (o_mv h27 (o_mv h29 ?_))
     obtain ⟨Z8, V8, g8, s14, h35⟩ := s12.frzS 0 rfl
     obtain ⟨d3, rfl⟩ := (h35).val
     refine o_bsl (s := (Sh.ro sI1)) (us := [(vS d3 x6)]) (qs := [(0, 1, (vS d3 x6))]) (xs := [x6]) s14 (Sh.ro_lt _) rfl rfl rfl (Els.cons (c := [(vS d3 x6)]) (sl_ro h35) Els.nil) rfl rfl fun w13 H10 s15 => ?_
     obtain ⟨Z9, V9, g9, s16, h36⟩ := s15.frzS 0 rfl
     replace h36 := h36.of_ro
     obtain ⟨x9, q16, e2⟩ := oB e2
     refine o_app 1 s16 rfl (Sh.ro_lt _) rfl rfl rfl rfl h36 s16.z (fun h => h) (by decide) q16 fun w14 H11 s17 => ?_
     refine o_mv (v := w14) rfl ?_
     refine c_nil ?_
     obtain rfl := oJ e2
     exact k6 _ _ ⟨_, _, _, _, (g8.trans g9), s17, h25, h26, rfl, h28⟩
    replace e2 := ib_f q15 e2
    refine c_r (o_mv h28 (o_mv h29 ?_))
    obtain ⟨Z10, V10, g10, s18, h37⟩ := s12.frzS 0 rfl
    obtain ⟨d4, rfl⟩ := (h37).val
    refine o_bsl (s := (Sh.ro sI1)) (us := [(vS d4 x6)]) (qs := [(0, 1, (vS d4 x6))]) (xs := [x6]) s18 (Sh.ro_lt _) rfl rfl rfl (Els.cons (c := [(vS d4 x6)]) (sl_ro h37) Els.nil) rfl rfl fun w15 H12 s19 => ?_
    obtain ⟨Z11, V11, g11, s20, h38⟩ := s19.frzS 0 rfl
    replace h38 := h38.of_ro
    obtain ⟨x10, q17, e2⟩ := oB e2
    refine o_app 2 s20 rfl (Sh.ro_lt _) rfl rfl rfl rfl h38 s20.z (fun h => h) (by decide) q17 fun w16 H13 s21 => ?_
    refine o_mv (v := w16) rfl ?_
    refine c_nil ?_
    obtain rfl := oJ e2
    exact k6 _ _ ⟨_, _, _, _, (g10.trans g11), s21, h25, h26, h27, rfl⟩
   intro _ H9 i8
   obtain ⟨Z7, V7, w11, w12, g7, s13, h31, h32, h33, h34⟩ := i8
   refine c_end ?_
   exact k1 _ _ _ (sJ e1) ⟨_, _, _, _, _, (g1.trans (g3.trans (g4.trans (g5.trans (g6.trans g7))))), s13, h31, h32, h33, h34, (h24.mono (g6.trans g7).v)⟩
  replace e1 := ib_f q5 e1
  refine c_ex ?_
  refine e_c ?_
  refine e_c ?_
  refine e_h ?_
  exact k4 _ _ ⟨_, k2 _ (sJ e1), _, _, _, _, _, (g1.trans g3), s6, h11, h12, h13, h14, (h1.mono g3.v)⟩
 intro _ H4 i9
 obtain ⟨s4, f1, Z2, V2, w4, w5, w6, g2, s5, h7, h8, h9, h10, h6⟩ := i9
 replace e := fin_o f1 e
 refine c_sr (o_mv h9 (o_mv h10 ?_))
 refine o_mv (v := w4) rfl ?_
 refine o_mv (v := w5) rfl ?_
 refine c_nil (c_rt ?_)
 obtain rfl := oJ e
 exact ⟨.inr rfl, _, (ar2 rfl rfl), _, _, rfl, ((s5.pick [1, 2] rfl).weak g2 hs.zv)⟩
/-! parlkeep5_fewer_1_1 -/
structure Nd.parlkeep5_fewer_1_1 (T : FuncId → Option AFunc) : Prop where
  own : Has T I.parlkeep5_fewer_1_1 F.parlkeep5_fewer_1_1
set_option maxHeartbeats 1000000 in
theorem X.parlkeep5_fewer_1_1 {T : FuncId → Option AFunc} (nd : Nd.parlkeep5_fewer_1_1 T) {Z V : PH} {H : Hp} {o1 : Nat} {a0 : Int} {a1 : Int} (hs : Sat Z V H [pts o1 (.rw 0 [vi a1])]) {r : Bool} (e : P.parlkeep5_fewer_1_1 a0 a1 = some r) :
    G T I.parlkeep5_fewer_1_1 [vi a0, (pV o1 0)] H (fun rv H' => rv = (.bool r) ∧ Sat Z V H' [pts o1 (.rw 0 [vi a1])]) := by
 unfold P.parlkeep5_fewer_1_1 at e
 refine f_mk nd.own ?_
 refine c_sr ?_
 refine o_mv (v := (.bool false)) rfl ?_
 refine c_nil (c_sr ?_)
 refine o_mv (v := (vi a0)) rfl ?_
 refine o_ldB 0 hs rfl rfl rfl rfl (o_geq rfl rfl ?_)
 refine o_mv (v := (.bool (decide (a1 ≤ a0)))) rfl ?_
 refine c_nil (c_rt ?_)
 obtain rfl := oJ e
 exact ⟨.inr rfl, _, (ar1 rfl), rfl, hs⟩
/-! slices_IndexFunc_int_int__parlkeep5_fewer_1_1 -/
structure Nd.slices_IndexFunc_int_int__parlkeep5_fewer_1_1 (T : FuncId → Option AFunc) : Prop where
  own : Has T I.slices_IndexFunc_int_int F.slices_IndexFunc_int_int
  parlkeep5_fewer_1_1 : Nd.parlkeep5_fewer_1_1 T
set_option maxHeartbeats 1000000 in
theorem X.slices_IndexFunc_int_int__parlkeep5_fewer_1_1 {T : FuncId → Option AFunc} (nd : Nd.slices_IndexFunc_int_int__parlkeep5_fewer_1_1 T) {Z V : PH} {H : Hp} {v1 : Value} {o1 : Nat} {a0 : (List Int)} {a1c0 : Int} (hs : Sat Z V H [pts o1 (.rw 0 [vi a1c0])]) (hp1 : RdS Sh.int V v1 a0) {r : Int} (e : P.slices_IndexFunc_int_int__parlkeep5_fewer_1_1 a0 a1c0 = some r) :
    G T I.slices_IndexFunc_int_int [v1, (.func (.func I.parlkeep5_fewer_1_1) #[] #[(pV o1 0)])] H (fun rv H' => rv = (vi r) ∧ Sat Z V H' [pts o1 (.rw 0 [vi a1c0])]) := by
 unfold P.slices_IndexFunc_int_int__parlkeep5_fewer_1_1 at e
 refine f_mk nd.own ?_
 refine c_sr ?_
 refine o_mv (v := (vi 0)) rfl ?_
 refine c_nil (c_sq (c_sr ?_))
 refine o_mv (v := v1) rfl ?_
 refine o_len rfl (hp1).len ?_
 refine o_mv (v := (vi 0)) rfl ?_
 refine c_nil ?_
 obtain ⟨x2, q3, e⟩ := oB e
 obtain ⟨rfl, q5⟩ := ranO_some q3
 obtain ⟨y1, q6, e⟩ := oB e
 refine c_jn (I := fun tm H => ∃ (s3 : Unit), y1 = .out s3 ∧ (∃ (Z2 V2 : PH), Gw Z V Z2 V2 ∧ Sat Z2 V2 H [pts o1 (.rw 0 [vi a1c0])] ∧ tm 0 = v1 ∧ tm 1 = (.func (.func I.parlkeep5_fewer_1_1) #[] #[(pV o1 0)]) ∧ tm 7 = (vN a0))) (fun k4 => ?_) ?_
 ·refine c_bk ?_
  refine l_forL (xs := (Pu.ran (a0.length : Int))) (fun (i1 : Nat) (s1 : Unit) tm H => tm 8 = vi i1 ∧ ∃ (Z1 V1 : PH), Gw Z V Z1 V1 ∧ Sat Z1 V1 H [pts o1 (.rw 0 [vi a1c0])] ∧ tm 0 = v1 ∧ tm 1 = (.func (.func I.parlkeep5_fewer_1_1) #[] #[(pV o1 0)]) ∧ tm 7 = (vN a0)) (fun i1 x1 s1 y2 tm H2 q1 q2 j1 e1 k1 k2 k3 => ?_) (fun s1 tm H1 jf jd => ?_) q6 ⟨rfl, _, _, Gw.refl _ _, hs, rfl, rfl, rfl⟩
  ·obtain ⟨hti0, Z1, V1, g1, s2, h1, h2, h3⟩ := j1
   unfold P.slices_IndexFunc_int_int__parlkeep5_fewer_1_1.b0 at e1
   have hti0 := iv hti0 (ran_x q1).symm
   refine c_sr (o_lss hti0 h3 (c_nil (c_sq ?_)))
   refine c_ift rfl (ran_lt q1) ?_
   refine c_sk (c_sq (c_bk (c_sr (o_mv hti0 ?_))))
   refine o_mv (v := (vi x1)) rfl ?_
   refine c_nil (c_sr (o_mv h2 (o_mv h1 ?_)))
   refine o_mv (v := (vi x1)) rfl ?_
   obtain ⟨x3, q7, e1⟩ := oB e1
   refine o_idx (v := v1) rfl rfl (hp1.mono g1.v) rfl q7 fun p1 q8 => ?_
   refine o_ldi rfl (hp1.mono g1.v) s2.v q8 q7 ?_
   obtain ⟨x4, q9, e1⟩ := oB e1
   obtain ⟨Z3, V3, W1, g3, u1, c1, c2, -, c4, c3⟩ := Sat.call (l1 := [pts o1 (.rw 0 [vi a1c0])]) (l2 := []) s2
   refine o_callv rfl (mc rfl m0) (X.parlkeep5_fewer_1_1 nd.parlkeep5_fewer_1_1 (a1 := a1c0) c1 q9) fun _ H4 i2 => ?_
   obtain ⟨rfl, s5⟩ := i2
   have s6 := c3 _ _ s5
   refine c_nil ?_
   refine c_if rfl (fun q10 => ?_) (fun q10 => ?_)
   ·replace e1 := if_t q10 e1
    refine c_sr ?_
    refine o_mv (v := (vi x1)) rfl ?_
    refine o_mv (v := (vi x1)) rfl ?_
    refine c_nil ?_
    refine c_gen (P := fun tm => tm 4 = (vi x1) ∧ True) ⟨rfl, trivial⟩ ?_
    intro _ i3
    obtain ⟨h7, -⟩ := i3
    refine c_rt ?_
    have e2 := fin_r (k3 _ (sJ e1)) e
    obtain rfl := oJ e2
    exact ⟨.inr rfl, _, (ar1 h7), rfl, (s6.weak (g1.trans g3) hs.zv)⟩
   replace e1 := ib_f q10 e1
   refine c_sk (c_end (c_r (o_add hti0 rfl ?_)))
   refine o_mv (v := (vi (Pu.W (x1 + 1)))) rfl ?_
   refine c_nil ?_
   exact k1 _ _ _ (sJ e1) ⟨(iv rfl (w_sucR q1 q5)), _, _, (g1.trans g3), s6, h1, h2, h3⟩
  ·obtain ⟨hte0, Z4, V4, g4, s7, h8, h9, h10⟩ := jd
   refine c_sr (o_lss hte0 h10 (c_nil (c_sq ?_)))
   refine c_iff rfl (ran_done _) ?_
   refine c_ex ?_
   refine e_c ?_
   refine e_c ?_
   refine e_h ?_
   exact k4 _ _ ⟨_, jf, _, _, g4, s7, h8, h9, h10⟩
 intro _ H3 i4
 obtain ⟨s3, f1, Z2, V2, g2, s4, h4, h5, h6⟩ := i4
 replace e := fin_o f1 e
 refine c_sr ?_
 refine o_mv (v := (vi (-1))) rfl ?_
 refine c_nil (c_rt ?_)
 obtain rfl := oJ e
 exact ⟨.inr rfl, _, (ar1 rfl), rfl, (s4.weak g2 hs.zv)⟩
/-! slices_ContainsFunc_int_int__parlkeep5_fewer_1_1 -/
structure Nd.slices_ContainsFunc_int_int__parlkeep5_fewer_1_1 (T : FuncId → Option AFunc) : Prop where
  own : Has T I.slices_ContainsFunc_int_int F.slices_ContainsFunc_int_int
  slices_IndexFunc_int_int__parlkeep5_fewer_1_1 : Nd.slices_IndexFunc_int_int__parlkeep5_fewer_1_1 T
set_option maxHeartbeats 1000000 in
theorem X.slices_ContainsFunc_int_int__parlkeep5_fewer_1_1 {T : FuncId → Option AFunc} (nd : Nd.slices_ContainsFunc_int_int__parlkeep5_fewer_1_1 T) {Z V : PH} {H : Hp} {v1 : Value} {o1 : Nat} {a0 : (List Int)} {a1c0 : Int} (hs : Sat Z V H [pts o1 (.rw 0 [vi a1c0])]) (hp1 : RdS Sh.int V v1 a0) {r : Bool} (e : P.slices_ContainsFunc_int_int__parlkeep5_fewer_1_1 a0 a1c0 = some r) :
    G T I.slices_ContainsFunc_int_int [v1, (.func (.func I.parlkeep5_fewer_1_1) #[] #[(pV o1 0)])] H (fun rv H' => rv = (.bool r) ∧ Sat Z V H' [pts o1 (.rw 0 [vi a1c0])]) := by
 unfold P.slices_ContainsFunc_int_int__parlkeep5_fewer_1_1 at e
 refine f_mk nd.own ?_
 refine c_sr ?_
 refine o_mv (v := (.bool false)) rfl ?_
 refine c_nil (c_sr ?_)
 refine o_mv (v := v1) rfl ?_
 refine o_mv (v := (.func (.func I.parlkeep5_fewer_1_1) #[] #[(pV o1 0)])) rfl ?_
 obtain ⟨x1, q1, e⟩ := oB e
 obtain ⟨Z1, V1, W1, g1, u1, c1, c2, -, c4, c3⟩ := Sat.call (l1 := [pts o1 (.rw 0 [vi a1c0])]) (l2 := []) hs
 refine o_call (mc rfl (mc rfl m0)) (X.slices_IndexFunc_int_int__parlkeep5_fewer_1_1 nd.slices_IndexFunc_int_int__parlkeep5_fewer_1_1 (a1c0 := a1c0) c1 (hp1.mono (g1.v.trans u1)) q1) fun _ H1 i1 => ?_
 obtain ⟨rfl, s1⟩ := i1
 have s2 := c3 _ _ s1
 refine o_geq rfl rfl ?_
 refine o_mv (v := (.bool (decide (0 ≤ x1)))) rfl ?_
 refine c_nil (c_rt ?_)
 obtain rfl := oJ e
 exact ⟨.inr rfl, _, (ar1 rfl), rfl, (s2.weak g1 hs.zv)⟩
/-! parlkeep5_fewer_1 -/
structure Nd.parlkeep5_fewer_1 (T : FuncId → Option AFunc) : Prop where
  own : Has T I.parlkeep5_fewer_1 F.parlkeep5_fewer_1
  slices_ContainsFunc_int_int__parlkeep5_fewer_1_1 : Nd.slices_ContainsFunc_int_int__parlkeep5_fewer_1_1 T
set_option maxHeartbeats 1000000 in
theorem X.parlkeep5_fewer_1 {T : FuncId → Option AFunc} (nd : Nd.parlkeep5_fewer_1 T) {Z V : PH} {H : Hp} {v1 : Value} {o1 : Nat} {a0 : (List Int)} {a1 : Int} (hs : Sat Z V H [pts o1 (.rw 0 [vi a1])]) (hp1 : RdS Sh.int V v1 a0) {r : Bool} (e : P.parlkeep5_fewer_1 a0 a1 = some r) :
    G T I.parlkeep5_fewer_1 [v1, (pV o1 0)] H (fun rv H' => rv = (.bool r) ∧ Sat Z V H' [pts o1 (.rw 0 [vi a1])]) := by
 unfold P.parlkeep5_fewer_1 at e
 refine f_mk nd.own ?_
 refine c_sr ?_
 refine o_mv (v := (.bool false)) rfl ?_
 refine c_nil (c_sr ?_)
 refine o_mv (v := v1) rfl ?_
 refine o_mkfn (mc rfl m0) ?_
 obtain ⟨x1, q1, e⟩ := oB e
 obtain ⟨Z1, V1, W1, g1, u1, c1, c2, -, c4, c3⟩ := Sat.call (l1 := [pts o1 (.rw 0 [vi a1])]) (l2 := []) hs
 refine o_call (mc rfl (mc rfl m0)) (X.slices_ContainsFunc_int_int__parlkeep5_fewer_1_1 nd.slices_ContainsFunc_int_int__parlkeep5_fewer_1_1 (a1c0 := a1) c1 (hp1.mono (g1.v.trans u1)) q1) fun _ H1 i1 => ?_
 obtain ⟨rfl, s1⟩ := i1
 have s2 := c3 _ _ s1
 refine o_mv (v := (.bool x1)) rfl ?_
 refine c_nil (c_rt ?_)
 obtain rfl := oJ e
 exact ⟨.inr rfl, _, (ar1 rfl), rfl, (s2.weak g1 hs.zv)⟩
/-! slices_IndexFunc_int_int_34__parlkeep5_fewer_1 -/
structure Nd.slices_IndexFunc_int_int_34__parlkeep5_fewer_1 (T : FuncId → Option AFunc) : Prop where
  own : Has T I.slices_IndexFunc_int_int_34 F.slices_IndexFunc_int_int_34
  parlkeep5_fewer_1 : Nd.parlkeep5_fewer_1 T
set_option maxHeartbeats 1000000 in
theorem X.slices_IndexFunc_int_int_34__parlkeep5_fewer_1 {T : FuncId → Option AFunc} (nd : Nd.slices_IndexFunc_int_int_34__parlkeep5_fewer_1 T) {Z V : PH} {H : Hp} {v1 : Value} {o1 : Nat} {a0 : (List (List Int))} {a1c0 : Int} (hs : Sat Z V H [pts o1 (.rw 0 [vi a1c0])]) (hp1 : RdS sI1 V v1 a0) {r : Int} (e : P.slices_IndexFunc_int_int_34__parlkeep5_fewer_1 a0 a1c0 = some r) :
    G T I.slices_IndexFunc_int_int_34 [v1, (.func (.func I.parlkeep5_fewer_1) #[] #[(pV o1 0)])] H (fun rv H' => rv = (vi r) ∧ Sat Z V H' [pts o1 (.rw 0 [vi a1c0])]) := by
 unfold P.slices_IndexFunc_int_int_34__parlkeep5_fewer_1 at e
 refine f_mk nd.own ?_
 refine c_sr ?_
 refine o_mv (v := (vi 0)) rfl ?_
 refine c_nil (c_sq (c_sr ?_))
 refine o_mv (v := v1) rfl ?_
 refine o_len rfl (hp1).len ?_
 refine o_mv (v := (vi 0)) rfl ?_
 refine c_nil ?_
 obtain ⟨x2, q3, e⟩ := oB e
 obtain ⟨rfl, q5⟩ := ranO_some q3
 obtain ⟨y1, q6, e⟩ := oB e
 refine c_jn (I := fun tm H => ∃ (s3 : Unit), y1 = .out s3 ∧ (∃ (Z2 V2 : PH), Gw Z V Z2 V2 ∧ Sat Z2 V2 H [pts o1 (.rw 0 [vi a1c0])] ∧ tm 0 = v1 ∧ tm 1 = (.func (.func I.parlkeep5_fewer_1) #[] #[(pV o1 0)]) ∧ tm 7 = (vN a0))) (fun k4 => ?_) ?_
 ·refine c_bk ?_
  refine l_forL (xs := (Pu.ran (a0.length : Int))) (fun (i1 : Nat) (s1 : Unit) tm H => tm 8 = vi i1 ∧ ∃ (Z1 V1 : PH), Gw Z V Z1 V1 ∧ Sat Z1 V1 H [pts o1 (.rw 0 [vi a1c0])] ∧ tm 0 = v1 ∧ tm 1 = (.func (.func I.parlkeep5_fewer_1) #[] #[(pV o1 0)]) ∧ tm 7 = (vN a0)) (fun i1 x1 s1 y2 tm H2 q1 q2 j1 e1 k1 k2 k3 => ?_) (fun s1 tm H1 jf jd => ?_) q6 ⟨rfl, _, _, Gw.refl _ _, hs, rfl, rfl, rfl⟩
  ·obtain ⟨hti0, Z1, V1, g1, s2, h1, h2, h3⟩ := j1
   unfold P.slices_IndexFunc_int_int_34__parlkeep5_fewer_1.b0 at e1
   have hti0 := iv hti0 (ran_x q1).symm
   refine c_sr (o_lss hti0 h3 (c_nil (c_sq ?_)))
   refine c_ift rfl (ran_lt q1) ?_
   refine c_sk (c_sq (c_bk (c_sr (o_mv hti0 ?_))))
   refine o_mv (v := (vi x1)) rfl ?_
   refine c_nil (c_sr (o_mv h2 (o_mv h1 ?_)))
   refine o_mv (v := (vi x1)) rfl ?_
   obtain ⟨x3, q7, e1⟩ := oB e1
   refine o_idx (v := v1) rfl rfl (hp1.mono g1.v) rfl q7 fun p1 q8 => ?_
   refine o_lds rfl (hp1.mono g1.v) s2.v q8 q7 fun w1 h7 => ?_
   obtain ⟨x4, q9, e1⟩ := oB e1
   obtain ⟨Z3, V3, W1, g3, u1, c1, c2, -, c4, c3⟩ := Sat.call (l1 := [pts o1 (.rw 0 [vi a1c0])]) (l2 := []) s2
   refine o_callv rfl (mc rfl m0) (X.parlkeep5_fewer_1 nd.parlkeep5_fewer_1 (a1 := a1c0) c1 (h7.mono (g3.v.trans u1)) q9) fun _ H4 i2 => ?_
   obtain ⟨rfl, s5⟩ := i2
   have s6 := c3 _ _ s5
   refine c_nil ?_
   refine c_if rfl (fun q10 => ?_) (fun q10 => ?_)
   ·replace e1 := if_t q10 e1
    refine c_sr ?_
    refine o_mv (v := (vi x1)) rfl ?_
    refine o_mv (v := (vi x1)) rfl ?_
    refine c_nil ?_
    refine c_gen (P := fun tm => tm 4 = (vi x1) ∧ True) ⟨rfl, trivial⟩ ?_
    intro _ i3
    obtain ⟨h8, -⟩ := i3
    refine c_rt ?_
    have e2 := fin_r (k3 _ (sJ e1)) e
    obtain rfl := oJ e2
    exact ⟨.inr rfl, _, (ar1 h8), rfl, (s6.weak (g1.trans g3) hs.zv)⟩
   replace e1 := ib_f q10 e1
   refine c_sk (c_end (c_r (o_add hti0 rfl ?_)))
   refine o_mv (v := (vi (Pu.W (x1 + 1)))) rfl ?_
   refine c_nil ?_
   exact k1 _ _ _ (sJ e1) ⟨(iv rfl (w_sucR q1 q5)), _, _, (g1.trans g3), s6, h1, h2, h3⟩
  ·obtain ⟨hte0, Z4, V4, g4, s7, h9, h10, h11⟩ := jd
   refine c_sr (o_lss hte0 h11 (c_nil (c_sq ?_)))
   refine c_iff rfl (ran_done _) ?_
   refine c_ex ?_
   refine e_c ?_
   refine e_c ?_
   refine e_h ?_
   exact k4 _ _ ⟨_, jf, _, _, g4, s7, h9, h10, h11⟩
 intro _ H3 i4
 obtain ⟨s3, f1, Z2, V2, g2, s4, h4, h5, h6⟩ := i4
 replace e := fin_o f1 e
 refine c_sr ?_
 refine o_mv (v := (vi (-1))) rfl ?_
 refine c_nil (c_rt ?_)
 obtain rfl := oJ e
 exact ⟨.inr rfl, _, (ar1 rfl), rfl, (s4.weak g2 hs.zv)⟩
/-! slices_DeleteFunc_int_int__parlkeep5_fewer_1 -/
structure Nd.slices_DeleteFunc_int_int__parlkeep5_fewer_1 (T : FuncId → Option AFunc) : Prop where
  own : Has T I.slices_DeleteFunc_int_int F.slices_DeleteFunc_int_int
  slices_IndexFunc_int_int_34__parlkeep5_fewer_1 : Nd.slices_IndexFunc_int_int_34__parlkeep5_fewer_1 T
  parlkeep5_fewer_1 : Nd.parlkeep5_fewer_1 T
set_option maxHeartbeats 1000000 in
theorem X.slices_DeleteFunc_int_int__parlkeep5_fewer_1 {T : FuncId → Option AFunc} (nd : Nd.slices_DeleteFunc_int_int__parlkeep5_fewer_1 T) {φ : Nat} {Z V : PH} {H : Hp} {v1 : Value} {o1 : Nat} {a0 : (List (List Int))} {a1c0 : Int} (hs : Sat Z V H [It.sl (Sh.ro sI1) v1 a0, pts o1 (.rw 0 [vi a1c0])]) {r : (List (List Int))} (e : P.slices_DeleteFunc_int_int__parlkeep5_fewer_1 φ a0 a1c0 = some r) :
    G T I.slices_DeleteFunc_int_int [v1, (.func (.func I.parlkeep5_fewer_1) #[] #[(pV o1 0)])] H (fun rv H' => ∃ (u1 : Value), rv = u1 ∧ Sat Z V H' [pts o1 (.rw 0 [vi a1c0]), It.sl (Sh.ro sI1) u1 r]) := by
 unfold P.slices_DeleteFunc_int_int__parlkeep5_fewer_1 at e
 refine f_mk nd.own ?_
 refine c_sr ?_
 refine o_mv (v := (.slice none 0 0)) rfl ?_
 refine c_nil (c_sr ?_)
 refine o_mv (v := v1) rfl ?_
 refine o_mv (v := (.func (.func I.parlkeep5_fewer_1) #[] #[(pV o1 0)])) rfl ?_
 obtain ⟨x1, q1, e⟩ := oB e
 obtain ⟨Z1, V1, W1, g1, u1, c1, c2, -, c4, c3⟩ := Sat.call (l1 := [pts o1 (.rw 0 [vi a1c0])]) (l2 := [It.sl (Sh.ro sI1) v1 a0]) (hs.pick [1, 0] rfl)
 refine o_call (mc rfl (mc rfl m0)) (X.slices_IndexFunc_int_int_34__parlkeep5_fewer_1 nd.slices_IndexFunc_int_int_34__parlkeep5_fewer_1 (a1c0 := a1c0) c1 (c2 0 _ (Sh.ro sI1) _ _ rfl) q1) fun _ H1 i1 => ?_
 obtain ⟨rfl, s1⟩ := i1
 have s2 := c3 _ _ s1
 refine o_mv (v := (vi x1)) rfl ?_
 refine c_nil (c_sq (c_sr ?_))
 refine o_mv (v := (vi x1)) rfl ?_
 refine o_eql rfl rfl (c_nil ?_)
 refine c_ifd rfl (fun q2 => ?_) (fun q2 => ?_)
 ·replace e := if_t q2 e
  refine c_sr ?_
  refine o_mv (v := v1) rfl ?_
  refine o_mv (v := v1) rfl ?_
  refine c_nil (c_rt ?_)
  obtain rfl := oJ e
  exact ⟨.inr rfl, _, (ar1 rfl), _, rfl, (s2.weak g1 hs.zv)⟩
 replace e := if_f q2 e
 refine c_sk (c_sq (c_sr ?_))
 refine o_mv (v := (vi x1)) rfl ?_
 refine o_add rfl rfl ?_
 refine o_mv (v := (vi (Pu.W (x1 + 1)))) rfl ?_
 refine c_nil ?_
 refine c_gen (P := fun tm => tm 0 = v1 ∧ tm 1 = (.func (.func I.parlkeep5_fewer_1) #[] #[(pV o1 0)]) ∧ tm 5 = (vi x1) ∧ tm 6 = (vi (Pu.W (x1 + 1))) ∧ True) ⟨rfl, rfl, rfl, rfl, trivial⟩ ?_
 intro _ i2
 obtain ⟨h1, h2, h3, h4, -⟩ := i2
 obtain ⟨y1, q5, e⟩ := oB e
 refine c_jn (I := fun tm H => ∃ (s5 : ((List (List Int)) × Int × Int)), y1 = .out s5 ∧ (∃ (Z3 V3 : PH), Gw Z1 V1 Z3 V3 ∧ Sat Z3 V3 H [pts o1 (.rw 0 [vi a1c0]), It.sl (Sh.ro sI1) v1 s5.1] ∧ tm 0 = v1 ∧ tm 1 = (.func (.func I.parlkeep5_fewer_1) #[] #[(pV o1 0)]) ∧ tm 5 = (vi s5.2.1) ∧ tm 6 = (vi s5.2.2))) (fun k4 => ?_) ?_
 ·refine c_bk ?_
  refine l_whl (fun (s3 : ((List (List Int)) × Int × Int)) tm H => ∃ (Z2 V2 : PH), Gw Z1 V1 Z2 V2 ∧ Sat Z2 V2 H [pts o1 (.rw 0 [vi a1c0]), It.sl (Sh.ro sI1) v1 s3.1] ∧ tm 0 = v1 ∧ tm 1 = (.func (.func I.parlkeep5_fewer_1) #[] #[(pV o1 0)]) ∧ tm 5 = (vi s3.2.1) ∧ tm 6 = (vi s3.2.2)) (fun s3 y2 tm H3 j1 e1 k1 k2 k3 => ?_) q5 ⟨_, _, Gw.refl _ _, s2, h1, h2, h3, h4⟩
  obtain ⟨Z2, V2, g2, s4, h5, h6, h7, h8⟩ := j1
  unfold P.slices_DeleteFunc_int_int__parlkeep5_fewer_1.b0 at e1
  refine c_sq (c_sr (o_mv h8 (o_mv h5 ?_)))
  refine o_len rfl ((s4.curS (s := (Sh.ro sI1)) 1 rfl)).len ?_
  refine o_lss rfl rfl (c_nil ?_)
  refine c_ifd rfl (fun q6 => ?_) (fun q6 => ?_)
  ·replace e1 := if_t q6 e1
   refine c_sk (c_sq (c_bk (c_sr (o_mv h5 ?_))))
   refine o_mv h8 ?_
   obtain ⟨x3, q7, e1⟩ := oB e1
   refine o_idx (v := v1) rfl rfl (s4.curS (s := (Sh.ro sI1)) 1 rfl) rfl q7 fun p1 q8 => ?_
   refine o_ldos 1 s4 rfl rfl q8 q7 fun Z4 V4 w1 g4 s7 h13 => ?_
   refine o_mv (v := w1) rfl ?_
   refine c_nil (c_sr (o_mv h6 ?_))
   refine o_mv (v := w1) rfl ?_
   obtain ⟨x4, q9, e1⟩ := oB e1
   obtain ⟨Z5, V5, W2, g5, u2, c5, c6, -, c8, c7⟩ := Sat.call (l1 := [pts o1 (.rw 0 [vi a1c0])]) (l2 := [It.sl (Sh.ro sI1) v1 s3.1]) s7
   refine o_callv rfl (mc rfl m0) (X.parlkeep5_fewer_1 nd.parlkeep5_fewer_1 (a1 := a1c0) c5 (h13.mono (g5.z.trans c5.zv)) q9) fun _ H5 i4 => ?_
   obtain ⟨rfl, s8⟩ := i4
   have s9 := c7 _ _ s8
   refine o_not rfl (c_nil ?_)
   refine c_gen (P := fun tm => tm 0 = v1 ∧ tm 1 = (.func (.func I.parlkeep5_fewer_1) #[] #[(pV o1 0)]) ∧ tm 5 = (vi s3.2.1) ∧ tm 6 = (vi s3.2.2) ∧ tm 7 = w1 ∧ tm 29 = (.bool (!x4)) ∧ True) ⟨h5, h6, h7, h8, rfl, rfl, trivial⟩ ?_
   intro _ i5
   obtain ⟨h14, h15, h16, h17, h18, h19, -⟩ := i5
   obtain ⟨y3, e2, e1⟩ := oB e1
   refine c_jn (I := fun tm H => ∃ (Z6 V6 : PH), Gw Z5 V5 Z6 V6 ∧ Sat Z6 V6 H [pts o1 (.rw 0 [vi a1c0]), It.sl (Sh.ro sI1) v1 y3.1] ∧ tm 0 = v1 ∧ tm 1 = (.func (.func I.parlkeep5_fewer_1) #[] #[(pV o1 0)]) ∧ tm 5 = (vi y3.2) ∧ tm 6 = (vi s3.2.2)) (fun k5 => ?_) ?_
   ·refine c_if h19 (fun q10 => ?_) (fun q10 => ?_)
    ·replace e2 := if_t q10 e2
     refine c_sr (o_mv h14 (o_mv h16 (o_mv h18 ?_)))
     obtain ⟨x5, q11, e2⟩ := oB e2
     refine o_idx (v := v1) rfl rfl (s9.curS (s := (Sh.ro sI1)) 1 rfl) rfl q11 fun p2 q12 => ?_
     obtain ⟨d1, rfl⟩ := ((h13.mono g5.z)).val
     refine o_st 1 s9 rfl (Sh.ro_lt _) rfl rfl rfl q12 q11 rfl (sl_ro (h13.mono g5.z)) fun H7 s11 => ?_
     refine c_nil (c_r (o_mv h16 (o_add rfl rfl ?_)))
     refine o_mv (v := (vi (Pu.W (s3.2.1 + 1)))) rfl ?_
     refine c_nil ?_
     obtain rfl := oJ e2
     exact k5 _ _ ⟨_, _, Gw.refl _ _, s11, h14, h15, rfl, h17⟩
    replace e2 := ib_f q10 e2
    refine c_sk ?_
    obtain rfl := oJ e2
    exact k5 _ _ ⟨_, _, Gw.refl _ _, s9, h14, h15, h16, h17⟩
   intro _ H6 i6
   obtain ⟨Z6, V6, g6, s10, h20, h21, h22, h23⟩ := i6
   refine c_end (c_r (o_mv h23 (o_add rfl rfl ?_)))
   refine o_mv (v := (vi (Pu.W (s3.2.2 + 1)))) rfl ?_
   refine c_nil ?_
   exact k1 _ _ _ (sJ e1) ⟨_, _, (g2.trans (g4.trans (g5.trans g6))), s10, h20, h21, h22, rfl⟩
  replace e1 := if_f q6 e1
  refine c_ex ?_
  refine e_c ?_
  refine e_c ?_
  refine e_h ?_
  exact k4 _ _ ⟨_, k2 _ (sJ e1), _, _, g2, s4, h5, h6, h7, h8⟩
 intro _ H4 i7
 obtain ⟨s5, f1, Z3, V3, g3, s6, h9, h10, h11, h12⟩ := i7
 replace e := fin_o f1 e
 refine c_sr (o_mv h9 (o_mv h11 ?_))
 obtain ⟨x6, q13, e⟩ := oB e
 refine o_slclY rfl rfl (s6.curS (s := (Sh.ro sI1)) 1 rfl) pR rfl q13 fun w2 h24 h25 h26 => ?_
 refine o_clrP 1 s6 rfl (Sh.ro_lt _) rfl rfl (sl_ro RdS.nil) q13 h26 fun H8 s12 => ?_
 refine c_nil (c_sr (o_mv h9 (o_mv h11 ?_)))
 obtain ⟨x7, q14, e⟩ := oB e
 refine o_slchX rfl rfl (s12.curS (s := (Sh.ro sI1)) 1 rfl) pR rfl q14 fun w3 h27 h28 => ?_
 have s13 := Sat.conv (u := It.sl (Sh.ro sI1) w3 x7) 1 rfl (fun F h _ q => h28.1 F h q) s12
 refine o_mv (v := w3) rfl ?_
 refine c_nil (c_rt ?_)
 obtain rfl := oJ e
 exact ⟨.inr rfl, _, (ar1 rfl), _, rfl, (s13.weak (g1.trans g3) hs.zv)⟩
/-! parlkeep5_fewer -/
structure Nd.parlkeep5_fewer (T : FuncId → Option AFunc) : Prop where
  own : Has T I.parlkeep5_fewer F.parlkeep5_fewer
  parlkeep5_examples : Nd.parlkeep5_examples T
  slices_DeleteFunc_int_int__parlkeep5_fewer_1 : Nd.slices_DeleteFunc_int_int__parlkeep5_fewer_1 T
set_option maxHeartbeats 1000000 in
theorem X.parlkeep5_fewer {T : FuncId → Option AFunc} (nd : Nd.parlkeep5_fewer T) {φ : Nat} {Z V : PH} {H : Hp} {v1 : Value} {v2 : Value} {v3 : Value} {a0 : Ty.api_Dfa} {a1 : Int} {a2 : (List Int)} (hs : Sat Z V H []) (hp1 : RdS Sh.int V v1 a0.Accept) (hp2 : RdS sI1 V v2 a0.Next) (hp3 : RdS Sh.int V v3 a2) {r : ((List (List Int)) × (List (List Int)))} (e : P.parlkeep5_fewer φ a0 a1 a2 = some r) :
    G T I.parlkeep5_fewer [(.agg #[vi a0.Start, v1, v2]), vi a1, v3] H (fun rv H' => ∃ (u1 : Value) (u2 : Value), rv = (.tuple #[u1, u2]) ∧ Sat Z V H' [It.sl (Sh.ro sI1) u1 r.1, It.sl (Sh.ro sI1) u2 r.2]) := by
 unfold P.parlkeep5_fewer at e
 refine f_mk nd.own ?_
 refine c_sr ?_
 obtain ⟨d1, rfl⟩ := (hp1).val
 obtain ⟨d2, rfl⟩ := (hp2).val
 refine o_box hs rfl rfl fun b1 H1 s1 => ?_
 refine o_box s1 rfl rfl fun b2 H2 s2 => ?_
 refine o_mv (v := (.slice none 0 0)) rfl ?_
 refine o_mv (v := (.slice none 0 0)) rfl ?_
 refine c_nil (c_sr (o_ldB 1 s2 rfl rfl rfl rfl ?_))
 refine o_mv (v := v3) rfl ?_
 obtain ⟨x1, q1, e⟩ := oB e
 obtain ⟨Z1, V1, W1, g1, u1, c1, c2, -, c4, c3⟩ := Sat.call (l1 := []) s2
 refine o_call (mc rfl (mc rfl m0)) (X.parlkeep5_examples nd.parlkeep5_examples c1 (hp1.mono (g1.v.trans u1)) (hp2.mono (g1.v.trans u1)) (hp3.mono (g1.v.trans u1)) q1) fun _ H3 i1 => ?_
 obtain ⟨w1, w2, rfl, s3⟩ := i1
 have s4 := c3 _ _ s3
 refine o_mv (v := (.tuple #[w1, w2])) rfl ?_
 refine o_ext rfl rfl (o_ext rfl rfl ?_)
 refine o_mv (v := w1) rfl ?_
 refine o_mv (v := w2) rfl ?_
 refine c_nil ?_
 refine c_gen (P := fun tm => tm 4 = (pV b2 0) ∧ tm 8 = w1 ∧ tm 9 = w2 ∧ True) ⟨rfl, rfl, rfl, trivial⟩ ?_
 intro _ i2
 obtain ⟨h1, h2, h3, -⟩ := i2
 refine c_sr (o_mkfn (mc h1 m0) ?_)
 refine o_mv (v := (.func (.func I.parlkeep5_fewer_1) #[] #[(pV b2 0)])) rfl ?_
 refine c_nil (c_sr (o_mv h2 ?_))
 refine o_mv (v := (.func (.func I.parlkeep5_fewer_1) #[] #[(pV b2 0)])) rfl ?_
 obtain ⟨x2, q2, e⟩ := oB e
 obtain ⟨Z2, V2, W2, g2, u2, c5, c6, -, c8, c7⟩ := Sat.call (l1 := [It.sl (Sh.ro sI1) w1 x1.1, pts b2 (.rw 0 [vi a1])]) (l2 := [It.sl (Sh.ro sI1) w2 x1.2, pts b1 (.rw 0 [vi a0.Start, (vS d1 a0.Accept), (vS d2 a0.Next)])]) (s4.pick [0, 2, 1, 3] rfl)
 refine o_call (mc rfl (mc rfl m0)) (X.slices_DeleteFunc_int_int__parlkeep5_fewer_1 nd.slices_DeleteFunc_int_int__parlkeep5_fewer_1 (a1c0 := a1) c5 q2) fun w3 H4 i3 => ?_
 obtain ⟨_, rfl, s5⟩ := i3
 have s6 := c7 _ _ s5
 refine o_mv h3 ?_
 refine o_mv (v := (.func (.func I.parlkeep5_fewer_1) #[] #[(pV b2 0)])) rfl ?_
 obtain ⟨x3, q3, e⟩ := oB e
 obtain ⟨Z3, V3, W3, g3, u3, c9, c10, -, c12, c11⟩ := Sat.call (l1 := [It.sl (Sh.ro sI1) w2 x1.2, pts b2 (.rw 0 [vi a1])]) (l2 := [It.sl (Sh.ro sI1) w3 x2, pts b1 (.rw 0 [vi a0.Start, (vS d1 a0.Accept), (vS d2 a0.Next)])]) (s6.pick [2, 0, 1, 3] rfl)
 refine o_call (mc rfl (mc rfl m0)) (X.slices_DeleteFunc_int_int__parlkeep5_fewer_1 nd.slices_DeleteFunc_int_int__parlkeep5_fewer_1 (a1c0 := a1) c9 q3) fun w4 H5 i4 => ?_
 obtain ⟨_, rfl, s7⟩ := i4
 have s8 := c11 _ _ s7
 refine o_mv (v := w3) rfl ?_
 refine o_mv (v := w4) rfl ?_
 refine c_nil ?_
 refine c_gen (P := fun tm => tm 8 = w3 ∧ tm 9 = w4 ∧ True) ⟨rfl, rfl, trivial⟩ ?_
 intro _ i5
 obtain ⟨h4, h5, -⟩ := i5
 refine c_sq ?_
 refine d_start s8 fun n1 H6 s9 q4 d3 => ?_
 refine d_mv h4 ?_
 refine d_mv h4 ?_
 refine d_len rfl ((s9.curS (s := (Sh.ro sI1)) 2 rfl)).len ?_
 refine d_min rfl rfl ?_
 obtain ⟨x4, q5, e⟩ := oB e
 refine d_slchX ((s9.curS 2 rfl).low pR q4) rfl rfl (s9.curS (s := (Sh.ro sI1)) 2 rfl) pR rfl q5 fun w5 h6 h7 => ?_
 have s10 := Sat.conv (u := It.sl (Sh.ro sI1) w5 x4) 2 rfl (fun F h _ q => h7.1 F h q) s9
 refine d_mv h5 ?_
 refine d_mv h5 ?_
 refine d_len rfl ((s10.curS (s := (Sh.ro sI1)) 1 rfl)).len ?_
 refine d_min rfl rfl ?_
 obtain ⟨x5, q6, e⟩ := oB e
 refine d_slchX ((s9.curS 1 rfl).low pR q4) rfl rfl (s10.curS (s := (Sh.ro sI1)) 1 rfl) pR rfl q6 fun w6 h8 h9 => ?_
 have s11 := Sat.conv (u := It.sl (Sh.ro sI1) w6 x5) 1 rfl (fun F h _ q => h9.1 F h q) s10
 refine d_mv (v := w5) rfl ?_
 refine d_mv (v := w6) rfl ?_
 refine d_nil dc_nil ?_
 refine c_gen (P := fun tm => tm 6 = w5 ∧ tm 7 = w6 ∧ True) ⟨rfl, rfl, trivial⟩ ?_
 intro _ i6
 obtain ⟨h10, h11, -⟩ := i6
 refine c_rt ?_
 obtain rfl := oJ e
 exact ⟨.inr rfl, _, (ar2 h10 h11), _, _, rfl, ((s11.pick [2, 1] rfl).weak (g1.trans (g2.trans g3)) hs.zv)⟩
/-! cmp_isNaN_int -/
structure Nd.cmp_isNaN_int (T : FuncId → Option AFunc) : Prop where
  own : Has T I.cmp_isNaN_int F.cmp_isNaN_int
set_option maxHeartbeats 1000000 in
theorem X.cmp_isNaN_int {T : FuncId → Option AFunc} (nd : Nd.cmp_isNaN_int T) {Z V : PH} {H : Hp} {a0 : Int} (hs : Sat Z V H []) {r : Bool} (e : P.cmp_isNaN_int a0 = some r) :
    G T I.cmp_isNaN_int [vi a0] H (fun rv H' => rv = (.bool r) ∧ Sat Z V H' []) := by
 unfold P.cmp_isNaN_int at e
 refine f_mk nd.own ?_
 refine c_sr ?_
 refine o_mv (v := (.bool false)) rfl ?_
 refine c_nil (c_sr ?_)
 refine o_mv (v := (vi a0)) rfl ?_
 refine o_mv (v := (vi a0)) rfl ?_
 refine o_neq rfl rfl ?_
 refine o_mv (v := (.bool (decide (a0 ≠ a0)))) rfl ?_
 refine c_nil (c_rt ?_)
 obtain rfl := oJ e
 exact ⟨.inr rfl, _, (ar1 rfl), rfl, hs⟩
/-! cmp_Compare_int -/
structure Nd.cmp_Compare_int (T : FuncId → Option AFunc) : Prop where
  own : Has T I.cmp_Compare_int F.cmp_Compare_int
  cmp_isNaN_int : Nd.cmp_isNaN_int T
set_option maxHeartbeats 1000000 in
theorem X.cmp_Compare_int {T : FuncId → Option AFunc} (nd : Nd.cmp_Compare_int T) {Z V : PH} {H : Hp} {a0 : Int} {a1 : Int} (hs : Sat Z V H []) {r : Int} (e : P.cmp_Compare_int a0 a1 = some r) :
    G T I.cmp_Compare_int [vi a0, vi a1] H (fun rv H' => rv = (vi r) ∧ Sat Z V H' []) := by
 unfold P.cmp_Compare_int at e
 refine f_mk nd.own ?_
 refine c_sr ?_
 refine o_mv (v := (vi 0)) rfl ?_
 refine c_nil (c_sr ?_)
 refine o_mv (v := (vi a0)) rfl ?_
 obtain ⟨x1, q1, e⟩ := oB e
 obtain ⟨Z1, V1, W1, g1, u1, c1, c2, -, c4, c3⟩ := Sat.call (l1 := []) hs
 refine o_call (mc rfl m0) (X.cmp_isNaN_int nd.cmp_isNaN_int c1 q1) fun _ H1 i1 => ?_
 obtain ⟨rfl, s1⟩ := i1
 have s2 := c3 _ _ s1
 refine o_mv (v := (.bool x1)) rfl ?_
 refine c_nil (c_sr ?_)
 refine o_mv (v := (vi a1)) rfl ?_
 obtain ⟨x2, q2, e⟩ := oB e
 obtain ⟨Z2, V2, W2, g2, u2, c5, c6, -, c8, c7⟩ := Sat.call (l1 := []) s2
 refine o_call (mc rfl m0) (X.cmp_isNaN_int nd.cmp_isNaN_int c5 q2) fun _ H2 i2 => ?_
 obtain ⟨rfl, s3⟩ := i2
 have s4 := c7 _ _ s3
 refine o_mv (v := (.bool x2)) rfl ?_
 refine c_nil (c_sq (c_sr ?_))
 refine o_mv (v := (.bool x1)) rfl ?_
 refine c_nil ?_
 refine c_if rfl (fun q3 => ?_) (fun q3 => ?_)
 ·replace e := if_t q3 e
  refine c_sq (c_sr ?_)
  refine o_mv (v := (.bool x2)) rfl ?_
  refine c_nil ?_
  refine c_if rfl (fun q4 => ?_) (fun q4 => ?_)
  ·replace e := if_t q4 e
   refine c_sr ?_
   refine o_mv (v := (vi 0)) rfl ?_
   refine c_nil ?_
   refine c_gen (P := fun tm => tm 4 = (vi 0) ∧ True) ⟨rfl, trivial⟩ ?_
   intro _ i3
   obtain ⟨h1, -⟩ := i3
   refine c_rt ?_
   obtain rfl := oJ e
   exact ⟨.inr rfl, _, (ar1 h1), rfl, (s4.weak (g1.trans g2) hs.zv)⟩
  replace e := ib_f q4 e
  refine c_sk (c_sr ?_)
  refine o_mv (v := (vi (-1))) rfl ?_
  refine c_nil ?_
  refine c_gen (P := fun tm => tm 4 = (vi (-1)) ∧ True) ⟨rfl, trivial⟩ ?_
  intro _ i4
  obtain ⟨h2, -⟩ := i4
  refine c_rt ?_
  obtain rfl := oJ e
  exact ⟨.inr rfl, _, (ar1 h2), rfl, (s4.weak (g1.trans g2) hs.zv)⟩
 replace e := ib_f q3 e
 refine c_sk (c_sq (c_sr ?_))
 refine o_mv (v := (.bool x2)) rfl ?_
 refine c_nil ?_
 refine c_if rfl (fun q5 => ?_) (fun q5 => ?_)
 ·replace e := if_t q5 e
  refine c_sr ?_
  refine o_mv (v := (vi 1)) rfl ?_
  refine c_nil ?_
  refine c_gen (P := fun tm => tm 4 = (vi 1) ∧ True) ⟨rfl, trivial⟩ ?_
  intro _ i5
  obtain ⟨h3, -⟩ := i5
  refine c_rt ?_
  obtain rfl := oJ e
  exact ⟨.inr rfl, _, (ar1 h3), rfl, (s4.weak (g1.trans g2) hs.zv)⟩
 replace e := ib_f q5 e
 refine c_sk (c_sq (c_sr ?_))
 refine o_mv (v := (vi a0)) rfl ?_
 refine o_mv (v := (vi a1)) rfl ?_
 refine o_lss rfl rfl (c_nil ?_)
 refine c_gen (P := fun tm => tm 0 = (vi a0) ∧ tm 1 = (vi a1) ∧ tm 16 = (.bool (decide (a0 < a1))) ∧ True) ⟨rfl, rfl, rfl, trivial⟩ ?_
 intro _ i6
 obtain ⟨h4, h5, h6, -⟩ := i6
 refine c_ifd h6 (fun q6 => ?_) (fun q6 => ?_)
 ·replace e := if_t q6 e
  refine c_sr ?_
  refine o_mv (v := (vi (-1))) rfl ?_
  refine c_nil (c_rt ?_)
  obtain rfl := oJ e
  exact ⟨.inr rfl, _, (ar1 rfl), rfl, (s4.weak (g1.trans g2) hs.zv)⟩
 replace e := if_f q6 e
 refine c_sk (c_sq (c_sr (o_mv h4 (o_mv h5 ?_))))
 refine o_gtr rfl rfl (c_nil ?_)
 refine c_ifd rfl (fun q7 => ?_) (fun q7 => ?_)
 ·replace e := if_t q7 e
  refine c_sr ?_
  refine o_mv (v := (vi 1)) rfl ?_
  refine c_nil (c_rt ?_)
  obtain rfl := oJ e
  exact ⟨.inr rfl, _, (ar1 rfl), rfl, (s4.weak (g1.trans g2) hs.zv)⟩
 replace e := if_f q7 e
 refine c_sk (c_sr ?_)
 refine o_mv (v := (vi 0)) rfl ?_
 refine c_nil (c_rt ?_)
 obtain rfl := oJ e
 exact ⟨.inr rfl, _, (ar1 rfl), rfl, (s4.weak (g1.trans g2) hs.zv)⟩
/-! gram_Order -/
structure Nd.gram_Order (T : FuncId → Option AFunc) : Prop where
  own : Has T I.gram_Order F.gram_Order
  cmp_Compare_int : Nd.cmp_Compare_int T
set_option maxHeartbeats 1000000 in
theorem X.gram_Order {T : FuncId → Option AFunc} (nd : Nd.gram_Order T) {Z V : PH} {H : Hp} {a0 : Ty.api_Sym} {a1 : Ty.api_Sym} (hs : Sat Z V H []) {r : Int} (e : P.gram_Order a0 a1 = some r) :
    G T I.gram_Order [(.agg #[(.bool a0.Term), vi a0.N]), (.agg #[(.bool a1.Term), vi a1.N])] H (fun rv H' => rv = (vi r) ∧ Sat Z V H' []) := by
 unfold P.gram_Order at e
 refine f_mk nd.own ?_
 refine c_sr ?_
 refine o_box hs rfl rfl fun b1 H1 s1 => ?_
 refine o_box s1 rfl rfl fun b2 H2 s2 => ?_
 refine o_mv (v := (vi 0)) rfl ?_
 refine c_nil (c_sq (c_bk (c_sr (o_fad rfl ?_))))
 refine o_ldB 1 s2 rfl rfl rfl rfl ?_
 refine o_mv (v := (.bool a0.Term)) rfl ?_
 refine o_jn 4 (I := fun tm H => tm 12 = .bool (a0.Term && (!a1.Term)) ∧ (∃ (Z1 V1 : PH), Gw Z V Z1 V1 ∧ Sat Z1 V1 H [pts b1 (.rw 0 [(.bool a0.Term), vi a0.N]), pts b2 (.rw 0 [(.bool a1.Term), vi a1.N])] ∧ tm 2 = (pV b1 0) ∧ tm 3 = (pV b2 0))) (fun k1 => ?_) ?_
 ·rcases Bool.eq_false_or_eq_true a0.Term with q1 | q1
  ·refine o_gy rfl q1 (o_fad rfl (o_gy rfl q1 (o_ldB 0 s2 rfl rfl rfl rfl (o_gy rfl q1 ?_))))
   refine o_not rfl ?_
   refine o_pickt (a := (.bool (!a1.Term))) rfl q1 rfl ?_
   exact k1 _ _ ⟨gf rfl (by first | (rw [q1]; first | done | rfl) | simp [q1]), _, _, Gw.refl _ _, (s2.pick [1, 0] rfl), rfl, rfl⟩
  refine o_gn rfl q1 (o_gn rfl q1 (o_gn rfl q1 ?_))
  refine o_pickf (b := (.bool false)) rfl q1 rfl ?_
  exact k1 _ _ ⟨gf rfl (by first | (rw [q1]; first | done | rfl) | simp [q1]), _, _, Gw.refl _ _, (s2.pick [1, 0] rfl), rfl, rfl⟩
 intro _ H3 i1
 obtain ⟨h3, Z1, V1, g1, s3, h1, h2⟩ := i1
 refine o_mv h3 (c_nil ?_)
 refine c_if rfl (fun q2 => ?_) (fun q2 => ?_)
 ·replace e := if_t q2 e
  refine c_sr ?_
  refine o_mv (v := (vi (-1))) rfl ?_
  refine c_nil (c_rt ?_)
  obtain rfl := oJ e
  exact ⟨.inr rfl, _, (ar1 rfl), rfl, ((s3.pick [] rfl).weak g1 hs.zv)⟩
 replace e := ib_f q2 e
 refine c_sr (o_fad h1 (o_ldB 0 s3 rfl rfl rfl rfl (o_not rfl ?_)))
 refine o_mv (v := (.bool (!a0.Term))) rfl ?_
 refine o_jn 3 (I := fun tm H => tm 20 = .bool ((!a0.Term) && a1.Term) ∧ (∃ (Z2 V2 : PH), Gw Z1 V1 Z2 V2 ∧ Sat Z2 V2 H [pts b1 (.rw 0 [(.bool a0.Term), vi a0.N]), pts b2 (.rw 0 [(.bool a1.Term), vi a1.N])] ∧ tm 2 = (pV b1 0) ∧ tm 3 = (pV b2 0))) (fun k2 => ?_) ?_
 ·rcases Bool.eq_false_or_eq_true (!a0.Term) with q3 | q3
  ·refine o_gy rfl q3 (o_fad h2 (o_gy rfl q3 (o_ldB 1 s3 rfl rfl rfl rfl ?_)))
   refine o_pickt (a := (.bool a1.Term)) rfl q3 rfl ?_
   exact k2 _ _ ⟨gf rfl (by first | (rw [q3]; first | done | rfl) | simp [q3]), _, _, Gw.refl _ _, s3, h1, h2⟩
  refine o_gn rfl q3 (o_gn rfl q3 ?_)
  refine o_pickf (b := (.bool false)) rfl q3 rfl ?_
  exact k2 _ _ ⟨gf rfl (by first | (rw [q3]; first | done | rfl) | simp [q3]), _, _, Gw.refl _ _, s3, h1, h2⟩
 intro _ H4 i2
 obtain ⟨h6, Z2, V2, g2, s4, h4, h5⟩ := i2
 refine o_mv h6 (c_nil ?_)
 refine c_if rfl (fun q4 => ?_) (fun q4 => ?_)
 ·replace e := if_t q4 e
  refine c_sr ?_
  refine o_mv (v := (vi 1)) rfl ?_
  refine c_nil (c_rt ?_)
  obtain rfl := oJ e
  exact ⟨.inr rfl, _, (ar1 rfl), rfl, ((s4.pick [] rfl).weak (g1.trans g2) hs.zv)⟩
 replace e := ib_f q4 e
 refine c_sk (c_end (c_sr (o_fad h4 (o_ldB 0 s4 rfl rfl rfl rfl ?_))))
 refine o_fad h5 (o_ldB 1 s4 rfl rfl rfl rfl ?_)
 obtain ⟨x1, q5, e⟩ := oB e
 obtain ⟨Z3, V3, W1, g3, u1, c1, c2, -, c4, c3⟩ := Sat.call (l1 := []) s4
 refine o_call (mc rfl (mc rfl m0)) (X.cmp_Compare_int nd.cmp_Compare_int c1 q5) fun _ H5 i3 => ?_
 obtain ⟨rfl, s5⟩ := i3
 have s6 := c3 _ _ s5
 refine o_mv (v := (vi x1)) rfl ?_
 refine c_nil (c_rt ?_)
 obtain rfl := oJ e
 exact ⟨.inr rfl, _, (ar1 rfl), rfl, ((s6.pick [] rfl).weak (g1.trans (g2.trans g3)) hs.zv)⟩
/-! slices_CompareFunc_api_Sym_api_Sym_api_Sym_api_Sym__gram_Order -/
structure Nd.slices_CompareFunc_api_Sym_api_Sym_api_Sym_api_Sym__gram_Order (T : FuncId → Option AFunc) : Prop where
  own : Has T I.slices_CompareFunc_api_Sym_api_Sym_api_Sym_api_Sym F.slices_CompareFunc_api_Sym_api_Sym_api_Sym_api_Sym
  gram_Order : Nd.gram_Order T
set_option maxHeartbeats 1000000 in
theorem X.slices_CompareFunc_api_Sym_api_Sym_api_Sym_api_Sym__gram_Order {T : FuncId → Option AFunc} (nd : Nd.slices_CompareFunc_api_Sym_api_Sym_api_Sym_api_Sym__gram_Order T) {Z V : PH} {H : Hp} {v1 : Value} {v2 : Value} {a0 : (List Ty.api_Sym)} {a1 : (List Ty.api_Sym)} (hs : Sat Z V H []) (hp1 : RdS Sh.api_Sym V v1 a0) (hp2 : RdS Sh.api_Sym V v2 a1) {r : Int} (e : P.slices_CompareFunc_api_Sym_api_Sym_api_Sym_api_Sym__gram_Order a0 a1 = some r) :
    G T I.slices_CompareFunc_api_Sym_api_Sym_api_Sym_api_Sym [v1, v2, (.func (.func I.gram_Order) #[] #[])] H (fun rv H' => rv = (vi r) ∧ Sat Z V H' []) := by
 unfold P.slices_CompareFunc_api_Sym_api_Sym_api_Sym_api_Sym__gram_Order at e
 refine f_mk nd.own ?_
 refine c_sr ?_
 refine o_mv (v := (vi 0)) rfl ?_
 refine c_nil (c_sq (c_sr ?_))
 refine o_mv (v := v1) rfl ?_
 refine o_len rfl (hp1).len ?_
 refine o_mv (v := (vi 0)) rfl ?_
 refine c_nil ?_
 obtain ⟨y1, q3, e⟩ := oB e
 refine c_jn (I := fun tm H => ∃ (s3 : Unit), y1 = .out s3 ∧ (∃ (Z2 V2 : PH), Gw Z V Z2 V2 ∧ Sat Z2 V2 H [] ∧ tm 0 = v1 ∧ tm 1 = v2 ∧ tm 2 = (.func (.func I.gram_Order) #[] #[]) ∧ tm 11 = v1 ∧ tm 12 = (vN a0))) (fun k4 => ?_) ?_
 ·refine c_bk ?_
  refine l_forL (xs := a0) (fun (i1 : Nat) (s1 : Unit) tm H => tm 13 = vi i1 ∧ ∃ (Z1 V1 : PH), Gw Z V Z1 V1 ∧ Sat Z1 V1 H [] ∧ tm 0 = v1 ∧ tm 1 = v2 ∧ tm 2 = (.func (.func I.gram_Order) #[] #[]) ∧ tm 11 = v1 ∧ tm 12 = (vN a0)) (fun i1 x1 s1 y2 tm H2 q1 q2 j1 e1 k1 k2 k3 => ?_) (fun s1 tm H1 jf jd => ?_) q3 ⟨rfl, _, _, Gw.refl _ _, hs, rfl, rfl, rfl, rfl, rfl⟩
  ·obtain ⟨hti0, Z1, V1, g1, s2, h1, h2, h3, h4, h5⟩ := j1
   unfold P.slices_CompareFunc_api_Sym_api_Sym_api_Sym_api_Sym__gram_Order.b0 at e1
   refine c_sr (o_lss hti0 h5 (c_nil (c_sq ?_)))
   refine c_ift rfl (Int.ofNat_lt.2 q2) ?_
   refine c_sk (c_sq (c_bk (c_sr (o_mv hti0 ?_))))
   refine o_idx (v := v1) h4 hti0 (hp1.mono g1.v) rfl (Pu.ix_nat.trans q1) fun p1 q4 => ?_
   refine o_lda rfl (hp1.mono g1.v) s2.v rfl q4 (Pu.ix_nat.trans q1) fun c1 h11 => ?_
   obtain rfl := h11
   refine o_new s2 fun b1 H4 s5 => ?_
   refine o_mv (v := (vJ i1)) rfl ?_
   refine o_stB (us' := [(.bool x1.Term), vi x1.N]) 0 s5 rfl rfl rfl rfl rfl rfl rfl fun H5 s6 => ?_
   refine c_nil (c_sq (c_sr ?_))
   refine o_mv (v := (vJ i1)) rfl ?_
   refine o_mv h2 (o_len rfl ((hp2.mono g1.v)).len (o_geq rfl rfl (c_nil ?_)))
   refine c_gen (P := fun tm => tm 0 = v1 ∧ tm 1 = v2 ∧ tm 2 = (.func (.func I.gram_Order) #[] #[]) ∧ tm 7 = (vJ i1) ∧ tm 8 = (pV b1 0) ∧ tm 11 = v1 ∧ tm 12 = (vN a0) ∧ tm 13 = (vJ i1) ∧ tm 21 = (.bool (decide ((a1.length : Int) ≤ (i1 : Int)))) ∧ True) ⟨h1, h2, h3, rfl, rfl, h4, h5, hti0, rfl, trivial⟩ ?_
   intro _ i2
   obtain ⟨h12, h13, h14, h15, h16, h17, h18, h19, h20, -⟩ := i2
   refine c_ifd h20 (fun q5 => ?_) (fun q5 => ?_)
   ·replace e1 := if_t q5 e1
    refine c_sr ?_
    refine o_mv (v := (vi 1)) rfl ?_
    refine c_nil (c_rt ?_)
    have e2 := fin_r (k3 _ (sJ e1)) e
    obtain rfl := oJ e2
    exact ⟨.inr rfl, _, (ar1 rfl), rfl, ((s6.pick [] rfl).weak g1 hs.zv)⟩
   replace e1 := if_f q5 e1
   refine c_sk (c_sr (o_mv h13 (o_mv h15 ?_)))
   obtain ⟨x2, q6, e1⟩ := oB e1
   refine o_idx (v := v2) rfl rfl (hp2.mono g1.v) rfl q6 fun p2 q7 => ?_
   refine o_lda rfl (hp2.mono g1.v) s6.v rfl q7 q6 fun c2 h21 => ?_
   obtain rfl := h21
   refine o_new s6 fun b2 H6 s7 => ?_
   refine o_stB (us' := [(.bool x2.Term), vi x2.N]) 0 s7 rfl rfl rfl rfl rfl rfl rfl fun H7 s8 => ?_
   refine c_nil (c_sr (o_mv h14 (o_ldB 1 s8 rfl h16 rfl rfl (o_ldB 0 s8 rfl rfl rfl rfl ?_))))
   obtain ⟨x3, q8, e1⟩ := oB e1
   obtain ⟨Z3, V3, W1, g3, u1, c3, c4, -, c6, c5⟩ := Sat.call (l1 := []) s8
   refine o_callv rfl (mc rfl (mc rfl m0)) (X.gram_Order nd.gram_Order c3 q8) fun _ H8 i3 => ?_
   obtain ⟨rfl, s9⟩ := i3
   have s10 := c5 _ _ s9
   refine o_mv (v := (vi x3)) rfl ?_
   refine c_nil ?_
   refine c_gen (P := fun tm => tm 0 = v1 ∧ tm 1 = v2 ∧ tm 2 = (.func (.func I.gram_Order) #[] #[]) ∧ tm 10 = (vi x3) ∧ tm 11 = v1 ∧ tm 12 = (vN a0) ∧ tm 13 = (vJ i1) ∧ True) ⟨h12, h13, h14, rfl, h17, h18, h19, trivial⟩ ?_
   intro _ i4
   obtain ⟨h22, h23, h24, h25, h26, h27, h28, -⟩ := i4
   refine c_sr (o_mv h25 (o_neq rfl rfl (c_nil ?_)))
   refine c_ifd rfl (fun q9 => ?_) (fun q9 => ?_)
   ·replace e1 := if_t q9 e1
    refine c_sr (o_mv h25 ?_)
    refine o_mv (v := (vi x3)) rfl ?_
    refine c_nil (c_rt ?_)
    have e3 := fin_r (k3 _ (sJ e1)) e
    obtain rfl := oJ e3
    exact ⟨.inr rfl, _, (ar1 rfl), rfl, ((s10.pick [] rfl).weak (g1.trans g3) hs.zv)⟩
   replace e1 := if_f q9 e1
   refine c_sk (c_end (c_r (o_add h28 rfl ?_)))
   refine o_mv (v := (vi (Pu.W ((i1 : Int) + 1)))) rfl ?_
   refine c_nil ?_
   exact k1 _ _ _ (sJ e1) ⟨(iv rfl (w_suc q2 (hp1).bd)), _, _, (g1.trans g3), (s10.pick [] rfl), h22, h23, h24, h26, h27⟩
  ·obtain ⟨hte0, Z4, V4, g4, s11, h29, h30, h31, h32, h33⟩ := jd
   refine c_sr (o_lss hte0 h33 (c_nil (c_sq ?_)))
   refine c_iff rfl (Int.lt_irrefl _) ?_
   refine c_ex ?_
   refine e_c ?_
   refine e_c ?_
   refine e_h ?_
   exact k4 _ _ ⟨_, jf, _, _, g4, s11, h29, h30, h31, h32, h33⟩
 intro _ H3 i5
 obtain ⟨s3, f1, Z2, V2, g2, s4, h6, h7, h8, h9, h10⟩ := i5
 replace e := fin_o f1 e
 refine c_sq (c_sr (o_mv h6 (o_len rfl ((hp1.mono g2.v)).len (o_mv h7 ?_))))
 refine o_len rfl ((hp2.mono g2.v)).len (o_lss rfl rfl (c_nil ?_))
 refine c_ifd rfl (fun q10 => ?_) (fun q10 => ?_)
 ·replace e := if_t q10 e
  refine c_sr ?_
  refine o_mv (v := (vi (-1))) rfl ?_
  refine c_nil (c_rt ?_)
  obtain rfl := oJ e
  exact ⟨.inr rfl, _, (ar1 rfl), rfl, (s4.weak g2 hs.zv)⟩
 replace e := if_f q10 e
 refine c_sk (c_sr ?_)
 refine o_mv (v := (vi 0)) rfl ?_
 refine c_nil (c_rt ?_)
 obtain rfl := oJ e
 exact ⟨.inr rfl, _, (ar1 rfl), rfl, (s4.weak g2 hs.zv)⟩
/-! gram_Compare -/
structure Nd.gram_Compare (T : FuncId → Option AFunc) : Prop where
  own : Has T I.gram_Compare F.gram_Compare
  cmp_Compare_int : Nd.cmp_Compare_int T
  slices_CompareFunc_api_Sym_api_Sym_api_Sym_api_Sym__gram_Order : Nd.slices_CompareFunc_api_Sym_api_Sym_api_Sym_api_Sym__gram_Order T
set_option maxHeartbeats 1000000 in
theorem X.gram_Compare {T : FuncId → Option AFunc} (nd : Nd.gram_Compare T) {Z V : PH} {H : Hp} {v1 : Value} {v2 : Value} {a0 : Ty.api_Rule} {a1 : Ty.api_Rule} (hs : Sat Z V H []) (hp1 : RdS Sh.api_Sym V v1 a0.Right) (hp2 : RdS Sh.api_Sym V v2 a1.Right) {r : Int} (e : P.gram_Compare a0 a1 = some r) :
    G T I.gram_Compare [(.agg #[vi a0.Left, v1]), (.agg #[vi a1.Left, v2])] H (fun rv H' => rv = (vi r) ∧ Sat Z V H' []) := by
 unfold P.gram_Compare at e
 refine f_mk nd.own ?_
 refine c_sr ?_
 obtain ⟨d1, rfl⟩ := (hp1).val
 refine o_box hs rfl rfl fun b1 H1 s1 => ?_
 obtain ⟨d2, rfl⟩ := (hp2).val
 refine o_box s1 rfl rfl fun b2 H2 s2 => ?_
 refine o_mv (v := (vi 0)) rfl ?_
 refine c_nil (c_sq (c_sr (o_fad rfl (o_ldB 1 s2 rfl rfl rfl rfl ?_))))
 refine o_fad rfl (o_ldB 0 s2 rfl rfl rfl rfl ?_)
 obtain ⟨x1, q1, e⟩ := oB e
 obtain ⟨Z1, V1, W1, g1, u1, c1, c2, -, c4, c3⟩ := Sat.call (l1 := []) s2
 refine o_call (mc rfl (mc rfl m0)) (X.cmp_Compare_int nd.cmp_Compare_int c1 q1) fun _ H3 i1 => ?_
 obtain ⟨rfl, s3⟩ := i1
 have s4 := c3 _ _ s3
 refine o_mv (v := (vi x1)) rfl ?_
 refine c_nil (c_sr ?_)
 refine o_mv (v := (vi x1)) rfl ?_
 refine o_neq rfl rfl (c_nil ?_)
 refine c_gen (P := fun tm => tm 2 = (pV b1 0) ∧ tm 3 = (pV b2 0) ∧ tm 5 = (vi x1) ∧ tm 12 = (.bool (decide (x1 ≠ 0))) ∧ True) ⟨rfl, rfl, rfl, rfl, trivial⟩ ?_
 intro _ i2
 obtain ⟨h1, h2, h3, h4, -⟩ := i2
 refine c_ifd h4 (fun q2 => ?_) (fun q2 => ?_)
 ·replace e := if_t q2 e
  refine c_sr (o_mv h3 ?_)
  refine o_mv (v := (vi x1)) rfl ?_
  refine c_nil (c_rt ?_)
  obtain rfl := oJ e
  exact ⟨.inr rfl, _, (ar1 rfl), rfl, ((s4.pick [] rfl).weak g1 hs.zv)⟩
 replace e := if_f q2 e
 refine c_sk (c_sr (o_fad h1 (o_ldB 1 s4 rfl rfl rfl rfl (o_fad h2 ?_))))
 refine o_ldB 0 s4 rfl rfl rfl rfl ?_
 obtain ⟨x2, q3, e⟩ := oB e
 obtain ⟨Z2, V2, W2, g2, u2, c5, c6, -, c8, c7⟩ := Sat.call (l1 := []) s4
 refine o_call (mc rfl (mc rfl (mc rfl m0))) (X.slices_CompareFunc_api_Sym_api_Sym_api_Sym_api_Sym__gram_Order nd.slices_CompareFunc_api_Sym_api_Sym_api_Sym_api_Sym__gram_Order c5 (hp1.mono ((g1.trans g2).v.trans u2)) (hp2.mono ((g1.trans g2).v.trans u2)) q3) fun _ H4 i3 => ?_
 obtain ⟨rfl, s5⟩ := i3
 have s6 := c7 _ _ s5
 refine o_mv (v := (vi x2)) rfl ?_
 refine c_nil (c_rt ?_)
 obtain rfl := oJ e
 exact ⟨.inr rfl, _, (ar1 rfl), rfl, ((s6.pick [] rfl).weak (g1.trans g2) hs.zv)⟩
/-! gram_Check -/
structure Nd.gram_Check (T : FuncId → Option AFunc) : Prop where
  own : Has T I.gram_Check F.gram_Check
  gram_Compare : Nd.gram_Compare T
set_option maxHeartbeats 1000000 in
theorem X.gram_Check {T : FuncId → Option AFunc} (nd : Nd.gram_Check T) {Z V : PH} {H : Hp} {v1 : Value} {a0 : Ty.api_Grammar} (hs : Sat Z V H []) (hp1 : RdS Sh.api_Rule V v1 a0.Rules) {r : Int} (e : P.gram_Check a0 = some r) :
    G T I.gram_Check [(.agg #[vi a0.Terms, vi a0.Nons, vi a0.Start, v1])] H (fun rv H' => rv = (vi r) ∧ Sat Z V H' []) := by
 unfold P.gram_Check at e
 refine f_mk nd.own ?_
 refine c_sr ?_
 obtain ⟨d1, rfl⟩ := (hp1).val
 refine o_box hs rfl rfl fun b1 H1 s1 => ?_
 refine o_mv (v := (vi 0)) rfl ?_
 refine c_nil (c_sq (c_sr (o_fad rfl (o_ldB 0 s1 rfl rfl rfl rfl ?_))))
 refine o_lss rfl rfl ?_
 refine o_mv (v := (.bool (decide (a0.Terms < 1)))) rfl ?_
 refine o_jn 4 (I := fun tm H => tm 16 = .bool ((decide (a0.Terms < 1)) || (decide (8 < a0.Terms))) ∧ (∃ (Z1 V1 : PH), Gw Z V Z1 V1 ∧ Sat Z1 V1 H [pts b1 (.rw 0 [vi a0.Terms, vi a0.Nons, vi a0.Start, (vS d1 a0.Rules)])] ∧ tm 1 = (pV b1 0))) (fun k1 => ?_) ?_
 ·rcases Bool.eq_false_or_eq_true (decide (a0.Terms < 1)) with q1 | q1
  ·refine o_gn rfl q1 (o_gn rfl q1 (o_gn rfl q1 ?_))
   refine o_pickt (a := (.bool true)) rfl q1 rfl ?_
   exact k1 _ _ ⟨gf rfl (by first | (rw [q1]; first | done | rfl) | simp [q1]), _, _, Gw.refl _ _, s1, rfl⟩
  refine o_gy rfl q1 (o_fad rfl (o_gy rfl q1 (o_ldB 0 s1 rfl rfl rfl rfl (o_gy rfl q1 ?_))))
  refine o_gtr rfl rfl ?_
  refine o_pickf (b := (.bool (decide (8 < a0.Terms)))) rfl q1 rfl ?_
  exact k1 _ _ ⟨gf rfl (by first | (rw [q1]; first | done | rfl) | simp [q1]), _, _, Gw.refl _ _, s1, rfl⟩
 intro _ H2 i1
 obtain ⟨h2, Z1, V1, g1, s2, h1⟩ := i1
 refine o_mv h2 ?_
 refine o_jn 4 (I := fun tm H => tm 21 = .bool (((decide (a0.Terms < 1)) || (decide (8 < a0.Terms))) || (decide (a0.Nons < 1))) ∧ (∃ (Z2 V2 : PH), Gw Z1 V1 Z2 V2 ∧ Sat Z2 V2 H [pts b1 (.rw 0 [vi a0.Terms, vi a0.Nons, vi a0.Start, (vS d1 a0.Rules)])] ∧ tm 1 = (pV b1 0))) (fun k2 => ?_) ?_
 ·rcases Bool.eq_false_or_eq_true ((decide (a0.Terms < 1)) || (decide (8 < a0.Terms))) with q2 | q2
  ·refine o_gn rfl q2 (o_gn rfl q2 (o_gn rfl q2 ?_))
   refine o_pickt (a := (.bool true)) rfl q2 rfl ?_
   exact k2 _ _ ⟨gf rfl (by first | (rw [q2]; first | done | rfl) | simp [q2]), _, _, Gw.refl _ _, s2, h1⟩
  refine o_gy rfl q2 (o_fad h1 (o_gy rfl q2 (o_ldB 0 s2 rfl rfl rfl rfl (o_gy rfl q2 ?_))))
  refine o_lss rfl rfl ?_
  refine o_pickf (b := (.bool (decide (a0.Nons < 1)))) rfl q2 rfl ?_
  exact k2 _ _ ⟨gf rfl (by first | (rw [q2]; first | done | rfl) | simp [q2]), _, _, Gw.refl _ _, s2, h1⟩
 intro _ H3 i2
 obtain ⟨h4, Z2, V2, g2, s3, h3⟩ := i2
 refine o_mv h4 ?_
 refine o_jn 4 (I := fun tm H => tm 26 = .bool ((((decide (a0.Terms < 1)) || (decide (8 < a0.Terms))) || (decide (a0.Nons < 1))) || (decide (10 < a0.Nons))) ∧ (∃ (Z3 V3 : PH), Gw Z2 V2 Z3 V3 ∧ Sat Z3 V3 H [pts b1 (.rw 0 [vi a0.Terms, vi a0.Nons, vi a0.Start, (vS d1 a0.Rules)])] ∧ tm 1 = (pV b1 0))) (fun k3 => ?_) ?_
 ·rcases Bool.eq_false_or_eq_true (((decide (a0.Terms < 1)) || (decide (8 < a0.Terms))) || (decide (a0.Nons < 1))) with q3 | q3
  ·refine o_gn rfl q3 (o_gn rfl q3 (o_gn rfl q3 ?_))
   refine o_pickt (a := (.bool true)) rfl q3 rfl ?_
   exact k3 _ _ ⟨gf rfl (by first | (rw [q3]; first | done | rfl) | simp [q3]), _, _, Gw.refl _ _, s3, h3⟩
  refine o_gy rfl q3 (o_fad h3 (o_gy rfl q3 (o_ldB 0 s3 rfl rfl rfl rfl (o_gy rfl q3 ?_))))
  refine o_gtr rfl rfl ?_
  refine o_pickf (b := (.bool (decide (10 < a0.Nons)))) rfl q3 rfl ?_
  exact k3 _ _ ⟨gf rfl (by first | (rw [q3]; first | done | rfl) | simp [q3]), _, _, Gw.refl _ _, s3, h3⟩
 intro _ H4 i3
 obtain ⟨h6, Z3, V3, g3, s4, h5⟩ := i3
 refine o_mv h6 ?_
 refine o_jn 4 (I := fun tm H => tm 31 = .bool (((((decide (a0.Terms < 1)) || (decide (8 < a0.Terms))) || (decide (a0.Nons < 1))) || (decide (10 < a0.Nons))) || (decide (a0.Start < 0))) ∧ (∃ (Z4 V4 : PH), Gw Z3 V3 Z4 V4 ∧ Sat Z4 V4 H [pts b1 (.rw 0 [vi a0.Terms, vi a0.Nons, vi a0.Start, (vS d1 a0.Rules)])] ∧ tm 1 = (pV b1 0))) (fun k4 => ?_) ?_
 ·rcases Bool.eq_false_or_eq_true ((((decide (a0.Terms < 1)) || (decide (8 < a0.Terms))) || (decide (a0.Nons < 1))) || (decide (10 < a0.Nons))) with q4 | q4
  ·refine o_gn rfl q4 (o_gn rfl q4 (o_gn rfl q4 ?_))
   refine o_pickt (a := (.bool true)) rfl q4 rfl ?_
   exact k4 _ _ ⟨gf rfl (by first | (rw [q4]; first | done | rfl) | simp [q4]), _, _, Gw.refl _ _, s4, h5⟩
  refine o_gy rfl q4 (o_fad h5 (o_gy rfl q4 (o_ldB 0 s4 rfl rfl rfl rfl (o_gy rfl q4 ?_))))
  refine o_lss rfl rfl ?_
  refine o_pickf (b := (.bool (decide (a0.Start < 0)))) rfl q4 rfl ?_
  exact k4 _ _ ⟨gf rfl (by first | (rw [q4]; first | done | rfl) | simp [q4]), _, _, Gw.refl _ _, s4, h5⟩
 intro _ H5 i4
 obtain ⟨h8, Z4, V4, g4, s5, h7⟩ := i4
 refine o_mv h8 ?_
 refine o_jn 6 (I := fun tm H => tm 38 = .bool ((((((decide (a0.Terms < 1)) || (decide (8 < a0.Terms))) || (decide (a0.Nons < 1))) || (decide (10 < a0.Nons))) || (decide (a0.Start < 0))) || (decide (a0.Nons ≤ a0.Start))) ∧ (∃ (Z5 V5 : PH), Gw Z4 V4 Z5 V5 ∧ Sat Z5 V5 H [pts b1 (.rw 0 [vi a0.Terms, vi a0.Nons, vi a0.Start, (vS d1 a0.Rules)])] ∧ tm 1 = (pV b1 0))) (fun k5 => ?_) ?_
 ·rcases Bool.eq_false_or_eq_true (((((decide (a0.Terms < 1)) || (decide (8 < a0.Terms))) || (decide (a0.Nons < 1))) || (decide (10 < a0.Nons))) || (decide (a0.Start < 0))) with q5 | q5
  ·refine o_gn rfl q5 (o_gn rfl q5 (o_gn rfl q5 (o_gn rfl q5 (o_gn rfl q5 ?_))))
   refine o_pickt (a := (.bool true)) rfl q5 rfl ?_
   exact k5 _ _ ⟨gf rfl (by first | (rw [q5]; first | done | rfl) | simp [q5]), _, _, Gw.refl _ _, s5, h7⟩
  refine o_gy rfl q5 (o_fad h7 (o_gy rfl q5 (o_ldB 0 s5 rfl rfl rfl rfl (o_gy rfl q5 ?_))))
  refine o_fad h7 (o_gy rfl q5 (o_ldB 0 s5 rfl rfl rfl rfl (o_gy rfl q5 (o_geq rfl rfl ?_))))
  refine o_pickf (b := (.bool (decide (a0.Nons ≤ a0.Start)))) rfl q5 rfl ?_
  exact k5 _ _ ⟨gf rfl (by first | (rw [q5]; first | done | rfl) | simp [q5]), _, _, Gw.refl _ _, s5, h7⟩
 intro _ H6 i5
 obtain ⟨h10, Z5, V5, g5, s6, h9⟩ := i5
 refine c_nil ?_
 refine c_if h10 (fun q6 => ?_) (fun q6 => ?_)
 ·replace e := if_t q6 e
  refine c_sr ?_
  refine o_mv (v := (vi 1)) rfl ?_
  refine c_nil (c_rt ?_)
  obtain rfl := oJ e
  exact ⟨.inr rfl, _, (ar1 rfl), rfl, ((s6.pick [] rfl).weak (g1.trans (g2.trans (g3.trans (g4.trans g5)))) hs.zv)⟩
 replace e := ib_f q6 e
 refine c_sk (c_sq (c_sr (o_fad h9 (o_ldB 0 s6 rfl rfl rfl rfl ?_))))
 refine o_len rfl ((hp1.mono (g1.trans (g2.trans (g3.trans (g4.trans g5)))).v)).len (o_gtr rfl rfl (c_nil ?_))
 refine c_ifd rfl (fun q7 => ?_) (fun q7 => ?_)
 ·replace e := if_t q7 e
  refine c_sr ?_
  refine o_mv (v := (vi 2)) rfl ?_
  refine c_nil (c_rt ?_)
  obtain rfl := oJ e
  exact ⟨.inr rfl, _, (ar1 rfl), rfl, ((s6.pick [] rfl).weak (g1.trans (g2.trans (g3.trans (g4.trans g5)))) hs.zv)⟩
 replace e := if_f q7 e
 refine c_sk (c_sq (c_sr (o_fad h9 (o_ldB 0 s6 rfl rfl rfl rfl ?_))))
 refine o_len rfl ((hp1.mono (g1.trans (g2.trans (g3.trans (g4.trans g5)))).v)).len ?_
 refine o_mv (v := (vi 0)) rfl ?_
 refine c_nil ?_
 obtain ⟨y1, q10, e⟩ := oB e
 refine c_jn (I := fun tm H => ∃ (s9 : Unit), y1 = .out s9 ∧ (∃ (Z7 V7 : PH), Gw Z5 V5 Z7 V7 ∧ Sat Z7 V7 H [pts b1 (.rw 0 [vi a0.Terms, vi a0.Nons, vi a0.Start, (vS d1 a0.Rules)])] ∧ tm 1 = (pV b1 0) ∧ tm 44 = (vS d1 a0.Rules) ∧ tm 45 = (vN a0.Rules))) (fun k9 => ?_) ?_
 ·refine c_bk ?_
  refine l_forL (xs := a0.Rules) (fun (i6 : Nat) (s7 : Unit) tm H => tm 46 = vi i6 ∧ ∃ (Z6 V6 : PH), Gw Z5 V5 Z6 V6 ∧ Sat Z6 V6 H [pts b1 (.rw 0 [vi a0.Terms, vi a0.Nons, vi a0.Start, (vS d1 a0.Rules)])] ∧ tm 1 = (pV b1 0) ∧ tm 44 = (vS d1 a0.Rules) ∧ tm 45 = (vN a0.Rules)) (fun i6 x1 s7 y2 tm H8 q8 q9 j1 e1 k6 k7 k8 => ?_) (fun s7 tm H7 jf jd => ?_) q10 ⟨rfl, _, _, Gw.refl _ _, s6, h9, rfl, rfl⟩
  ·obtain ⟨hti0, Z6, V6, g6, s8, h11, h12, h13⟩ := j1
   unfold P.gram_Check.b0 at e1
   refine c_sr (o_lss hti0 h13 (c_nil (c_sq ?_)))
   refine c_ift rfl (Int.ofNat_lt.2 q9) ?_
   refine c_sk (c_sq (c_bk (c_sr (o_mv hti0 ?_))))
   refine o_idx (v := (vS d1 a0.Rules)) h12 hti0 (hp1.mono (g1.trans (g2.trans (g3.trans (g4.trans (g5.trans g6))))).v) rfl (Pu.ix_nat.trans q8) fun p1 q11 => ?_
   refine o_lda rfl (hp1.mono (g1.trans (g2.trans (g3.trans (g4.trans (g5.trans g6))))).v) s8.v rfl q11 (Pu.ix_nat.trans q8) fun c1 h17 => ?_
   obtain ⟨w1, rfl, h18⟩ := Sh.api_Rule_op h17
   refine o_new s8 fun b2 H10 s11 => ?_
   refine o_mv (v := (vJ i6)) rfl ?_
   obtain ⟨d2, rfl⟩ := (h18).val
   refine o_stB (us' := [vi x1.Left, (vS d2 x1.Right)]) 0 s11 rfl rfl rfl rfl rfl rfl rfl fun H11 s12 => ?_
   refine c_nil (c_sq (c_sr (o_fad rfl (o_ldB 0 s12 rfl rfl rfl rfl ?_))))
   refine o_lss rfl rfl ?_
   refine o_mv (v := (.bool (decide (x1.Left < 0)))) rfl ?_
   refine o_jn 6 (I := fun tm H => tm 60 = .bool ((decide (x1.Left < 0)) || (decide (a0.Nons ≤ x1.Left))) ∧ (∃ (Z8 V8 : PH), Gw Z6 V6 Z8 V8 ∧ Sat Z8 V8 H [pts b1 (.rw 0 [vi a0.Terms, vi a0.Nons, vi a0.Start, (vS d1 a0.Rules)]), pts b2 (.rw 0 [vi x1.Left, (vS d2 x1.Right)])] ∧ tm 1 = (pV b1 0) ∧ tm 3 = (vJ i6) ∧ tm 4 = (pV b2 0) ∧ tm 44 = (vS d1 a0.Rules) ∧ tm 45 = (vN a0.Rules) ∧ tm 46 = (vJ i6))) (fun k10 => ?_) ?_
   ·rcases Bool.eq_false_or_eq_true (decide (x1.Left < 0)) with q12 | q12
    ·refine o_gn rfl q12 (o_gn rfl q12 (o_gn rfl q12 (o_gn rfl q12 (o_gn rfl q12 ?_))))
     refine o_pickt (a := (.bool true)) rfl q12 rfl ?_
     exact k10 _ _ ⟨gf rfl (by first | (rw [q12]; first | done | rfl) | simp [q12]), _, _, Gw.refl _ _, (s12.pick [1, 0] rfl), h11, rfl, rfl, h12, h13, hti0⟩
    refine o_gy rfl q12 (o_fad rfl (o_gy rfl q12 (o_ldB 0 s12 rfl rfl rfl rfl (o_gy rfl q12 ?_))))
    refine o_fad h11 (o_gy rfl q12 (o_ldB 1 s12 rfl rfl rfl rfl (o_gy rfl q12 (o_geq rfl rfl ?_))))
    refine o_pickf (b := (.bool (decide (a0.Nons ≤ x1.Left)))) rfl q12 rfl ?_
    exact k10 _ _ ⟨gf rfl (by first | (rw [q12]; first | done | rfl) | simp [q12]), _, _, Gw.refl _ _, (s12.pick [1, 0] rfl), h11, rfl, rfl, h12, h13, hti0⟩
   intro _ H12 i7
   obtain ⟨h25, Z8, V8, g8, s13, h19, h20, h21, h22, h23, h24⟩ := i7
   refine c_nil ?_
   refine c_if h25 (fun q13 => ?_) (fun q13 => ?_)
   ·replace e1 := if_t q13 e1
    refine c_sr ?_
    refine o_mv (v := (vi 3)) rfl ?_
    refine c_nil (c_rt ?_)
    have e2 := fin_r (k8 _ (sJ e1)) e
    obtain rfl := oJ e2
    exact ⟨.inr rfl, _, (ar1 rfl), rfl, ((s13.pick [] rfl).weak (g1.trans (g2.trans (g3.trans (g4.trans (g5.trans (g6.trans g8)))))) hs.zv)⟩
   replace e1 := ib_f q13 e1
   refine c_sk (c_sq (c_sr (o_fad h21 (o_ldB 1 s13 rfl rfl rfl rfl ?_))))
   refine o_len rfl ((h18.mono g8.v)).len (o_gtr rfl rfl (c_nil ?_))
   refine c_ifd rfl (fun q14 => ?_) (fun q14 => ?_)
   ·replace e1 := if_t q14 e1
    refine c_sr ?_
    refine o_mv (v := (vi 2)) rfl ?_
    refine c_nil (c_rt ?_)
    have e3 := fin_r (k8 _ (sJ e1)) e
    obtain rfl := oJ e3
    exact ⟨.inr rfl, _, (ar1 rfl), rfl, ((s13.pick [] rfl).weak (g1.trans (g2.trans (g3.trans (g4.trans (g5.trans (g6.trans g8)))))) hs.zv)⟩
   replace e1 := if_f q14 e1
   refine c_sk (c_sq (c_sr (o_fad h21 (o_ldB 1 s13 rfl rfl rfl rfl ?_))))
   refine o_len rfl ((h18.mono g8.v)).len ?_
   refine o_mv (v := (vi 0)) rfl ?_
   refine c_nil ?_
   obtain ⟨y3, q17, e1⟩ := oB e1
   refine c_jn (I := fun tm H => ∃ (s16 : Unit), y3 = .out s16 ∧ (∃ (Z10 V10 : PH), Gw Z8 V8 Z10 V10 ∧ Sat Z10 V10 H [pts b1 (.rw 0 [vi a0.Terms, vi a0.Nons, vi a0.Start, (vS d1 a0.Rules)]), pts b2 (.rw 0 [vi x1.Left, (vS d2 x1.Right)])] ∧ tm 1 = (pV b1 0) ∧ tm 3 = (vJ i6) ∧ tm 4 = (pV b2 0) ∧ tm 44 = (vS d1 a0.Rules) ∧ tm 45 = (vN a0.Rules) ∧ tm 46 = (vJ i6) ∧ tm 66 = (vS d2 x1.Right) ∧ tm 67 = (vN x1.Right))) (fun k14 => ?_) ?_
   ·refine c_bk ?_
    refine l_forL (xs := x1.Right) (fun (i8 : Nat) (s14 : Unit) tm H => tm 68 = vi i8 ∧ ∃ (Z9 V9 : PH), Gw Z8 V8 Z9 V9 ∧ Sat Z9 V9 H [pts b1 (.rw 0 [vi a0.Terms, vi a0.Nons, vi a0.Start, (vS d1 a0.Rules)]), pts b2 (.rw 0 [vi x1.Left, (vS d2 x1.Right)])] ∧ tm 1 = (pV b1 0) ∧ tm 3 = (vJ i6) ∧ tm 4 = (pV b2 0) ∧ tm 44 = (vS d1 a0.Rules) ∧ tm 45 = (vN a0.Rules) ∧ tm 46 = (vJ i6) ∧ tm 66 = (vS d2 x1.Right) ∧ tm 67 = (vN x1.Right)) (fun i8 x2 s14 y4 tm H14 q15 q16 j2 e4 k11 k12 k13 => ?_) (fun s14 tm H13 jf jd => ?_) q17 ⟨rfl, _, _, Gw.refl _ _, s13, h19, h20, h21, h22, h23, h24, rfl, rfl⟩
    ·obtain ⟨hti1, Z9, V9, g9, s15, h26, h27, h28, h29, h30, h31, h32, h33⟩ := j2
     unfold P.gram_Check.b1 at e4
     refine c_sr (o_lss hti1 h33 (c_nil (c_sq ?_)))
     refine c_ift rfl (Int.ofNat_lt.2 q16) ?_
     refine c_sk (c_sq (c_bk (c_sr ?_)))
     refine o_idx (v := (vS d2 x1.Right)) h32 hti1 (h18.mono (g8.trans g9).v) rfl (Pu.ix_nat.trans q15) fun p2 q18 => ?_
     refine o_lda rfl (h18.mono (g8.trans g9).v) s15.v rfl q18 (Pu.ix_nat.trans q15) fun c2 h42 => ?_
     obtain rfl := h42
     refine o_new s15 fun b3 H16 s18 => ?_
     refine o_stB (us' := [(.bool x2.Term), vi x2.N]) 0 s18 rfl rfl rfl rfl rfl rfl rfl fun H17 s19 => ?_
     refine c_nil (c_sr (o_fad rfl (o_ldB 0 s19 rfl rfl rfl rfl (o_lss rfl rfl ?_))))
     refine o_mv (v := (.bool (decide (x2.N < 0)))) rfl ?_
     obtain ⟨y5, e5, e4⟩ := oB e4
     refine o_jn 10 (I := fun tm H => ∃ (Z11 V11 : PH), Gw Z9 V9 Z11 V11 ∧ Sat Z11 V11 H [pts b1 (.rw 0 [vi a0.Terms, vi a0.Nons, vi a0.Start, (vS d1 a0.Rules)]), pts b2 (.rw 0 [vi x1.Left, (vS d2 x1.Right)]), pts b3 (.rw 0 [(.bool x2.Term), vi x2.N])] ∧ tm 1 = (pV b1 0) ∧ tm 3 = (vJ i6) ∧ tm 4 = (pV b2 0) ∧ tm 6 = (pV b3 0) ∧ tm 44 = (vS d1 a0.Rules) ∧ tm 45 = (vN a0.Rules) ∧ tm 46 = (vJ i6) ∧ tm 66 = (vS d2 x1.Right) ∧ tm 67 = (vN x1.Right) ∧ tm 68 = (vJ i8) ∧ tm 85 = (.bool y5)) (fun k15 => ?_) ?_
     ·rcases Bool.eq_false_or_eq_true (decide (x2.N < 0)) with q19 | q19
      ·replace e5 := if_t q19 e5
       refine o_gn rfl q19 (o_gn rfl q19 (o_gn rfl q19 (o_gu rfl (o_gu rfl ?_))))
       refine o_gu rfl (o_gu rfl (o_gu rfl (o_gn rfl q19 ?_)))
       refine o_pickt (a := (.bool true)) rfl q19 rfl ?_
       obtain rfl := oJ e5
       exact k15 _ _ ⟨_, _, Gw.refl _ _, (s19.pick [1, 2, 0] rfl), h26, h27, h28, rfl, h29, h30, h31, h32, h33, hti1, rfl⟩
      replace e5 := ib_f q19 e5
      refine o_gy rfl q19 (o_fad rfl (o_gy rfl q19 (o_ldB 0 s19 rfl rfl rfl rfl (o_gy rfl q19 ?_))))
      refine o_mv (v := (.bool x2.Term)) rfl ?_
      refine o_jn 6 (I := fun tm H => tm 84 = .bool (x2.Term && (decide (a0.Terms ≤ x2.N))) ∧ (∃ (Z12 V12 : PH), Gw Z9 V9 Z12 V12 ∧ Sat Z12 V12 H [pts b1 (.rw 0 [vi a0.Terms, vi a0.Nons, vi a0.Start, (vS d1 a0.Rules)]), pts b2 (.rw 0 [vi x1.Left, (vS d2 x1.Right)]), pts b3 (.rw 0 [(.bool x2.Term), vi x2.N])] ∧ tm 1 = (pV b1 0) ∧ tm 3 = (vJ i6) ∧ tm 4 = (pV b2 0) ∧ tm 6 = (pV b3 0) ∧ tm 44 = (vS d1 a0.Rules) ∧ tm 45 = (vN a0.Rules) ∧ tm 46 = (vJ i6) ∧ tm 66 = (vS d2 x1.Right) ∧ tm 67 = (vN x1.Right) ∧ tm 68 = (vJ i8) ∧ tm 75 = (.bool (decide (x2.N < 0))) ∧ tm 76 = (pV b3 0) ∧ tm 77 = (.bool x2.Term) ∧ tm 78 = (.bool x2.Term))) (fun k16 => ?_) ?_
      ·rcases Bool.eq_false_or_eq_true x2.Term with q20 | q20
       ·refine o_gy rfl q20 (o_fad rfl (o_gy rfl q20 (o_ldB 0 s19 rfl rfl rfl rfl (o_gy rfl q20 ?_))))
        refine o_fad h26 (o_gy rfl q20 (o_ldB 1 s19 rfl rfl rfl rfl (o_gy rfl q20 (o_geq rfl rfl ?_))))
        refine o_gy rfl q19 ?_
        refine o_pickt (a := (.bool (decide (a0.Terms ≤ x2.N)))) rfl q20 rfl ?_
        exact k16 _ _ ⟨gf rfl (by first | (rw [q20]; first | done | rfl) | simp [q20]), _, _, Gw.refl _ _, (s19.pick [1, 2, 0] rfl), h26, h27, h28, rfl, h29, h30, h31, h32, h33, hti1, rfl, rfl, rfl, rfl⟩
       refine o_gn rfl q20 (o_gn rfl q20 (o_gn rfl q20 (o_gn rfl q20 (o_gn rfl q20 ?_))))
       refine o_gy rfl q19 ?_
       refine o_pickf (b := (.bool false)) rfl q20 rfl ?_
       exact k16 _ _ ⟨gf rfl (by first | (rw [q20]; first | done | rfl) | simp [q20]), _, _, Gw.refl _ _, (s19.pick [1, 2, 0] rfl), h26, h27, h28, rfl, h29, h30, h31, h32, h33, hti1, rfl, rfl, rfl, rfl⟩
      intro _ H19 i9
      obtain ⟨h68, Z12, V12, g12, s21, h54, h55, h56, h57, h58, h59, h60, h61, h62, h63, h64, h65, h66, h67⟩ := i9
      refine o_pickf (b := (.bool (x2.Term && (decide (a0.Terms ≤ x2.N))))) h64 q19 h68 ?_
      obtain rfl := oJ e5
      exact k15 _ _ ⟨_, _, g12, s21, h54, h55, h56, h57, h58, h59, h60, h61, h62, h63, rfl⟩
     intro _ H18 i10
     obtain ⟨Z11, V11, g11, s20, h43, h44, h45, h46, h47, h48, h49, h50, h51, h52, h53⟩ := i10
     refine o_mv h53 ?_
     obtain ⟨y6, e6, e4⟩ := oB e4
     refine o_jn 11 (I := fun tm H => ∃ (Z13 V13 : PH), Gw Z11 V11 Z13 V13 ∧ Sat Z13 V13 H [pts b1 (.rw 0 [vi a0.Terms, vi a0.Nons, vi a0.Start, (vS d1 a0.Rules)]), pts b2 (.rw 0 [vi x1.Left, (vS d2 x1.Right)])] ∧ tm 1 = (pV b1 0) ∧ tm 3 = (vJ i6) ∧ tm 4 = (pV b2 0) ∧ tm 44 = (vS d1 a0.Rules) ∧ tm 45 = (vN a0.Rules) ∧ tm 46 = (vJ i6) ∧ tm 66 = (vS d2 x1.Right) ∧ tm 67 = (vN x1.Right) ∧ tm 68 = (vJ i8) ∧ tm 97 = (.bool y6)) (fun k17 => ?_) ?_
     ·rcases Bool.eq_false_or_eq_true y5 with q21 | q21
      ·replace e6 := if_t q21 e6
       refine o_gn rfl q21 (o_gn rfl q21 (o_gn rfl q21 (o_gn rfl q21 (o_gu rfl ?_))))
       refine o_gu rfl (o_gu rfl (o_gu rfl (o_gu rfl (o_gn rfl q21 ?_))))
       refine o_pickt (a := (.bool true)) rfl q21 rfl ?_
       obtain rfl := oJ e6
       exact k17 _ _ ⟨_, _, Gw.refl _ _, (s20.pick [0, 1] rfl), h43, h44, h45, h47, h48, h49, h50, h51, h52, rfl⟩
      replace e6 := ib_f q21 e6
      refine o_gy rfl q21 (o_fad h46 (o_gy rfl q21 (o_ldB 2 s20 rfl rfl rfl rfl (o_gy rfl q21 ?_))))
      refine o_not rfl (o_gy rfl q21 ?_)
      refine o_mv (v := (.bool (!x2.Term))) rfl ?_
      refine o_jn 6 (I := fun tm H => tm 96 = .bool ((!x2.Term) && (decide (a0.Nons ≤ x2.N))) ∧ (∃ (Z14 V14 : PH), Gw Z11 V11 Z14 V14 ∧ Sat Z14 V14 H [pts b1 (.rw 0 [vi a0.Terms, vi a0.Nons, vi a0.Start, (vS d1 a0.Rules)]), pts b2 (.rw 0 [vi x1.Left, (vS d2 x1.Right)]), pts b3 (.rw 0 [(.bool x2.Term), vi x2.N])] ∧ tm 1 = (pV b1 0) ∧ tm 3 = (vJ i6) ∧ tm 4 = (pV b2 0) ∧ tm 44 = (vS d1 a0.Rules) ∧ tm 45 = (vN a0.Rules) ∧ tm 46 = (vJ i6) ∧ tm 66 = (vS d2 x1.Right) ∧ tm 67 = (vN x1.Right) ∧ tm 68 = (vJ i8) ∧ tm 86 = (.bool y5) ∧ tm 87 = (pV b3 0) ∧ tm 88 = (.bool x2.Term) ∧ tm 89 = (.bool (!x2.Term)) ∧ tm 90 = (.bool (!x2.Term)))) (fun k18 => ?_) ?_
      ·rcases Bool.eq_false_or_eq_true (!x2.Term) with q22 | q22
       ·refine o_gy rfl q22 (o_fad h46 (o_gy rfl q22 (o_ldB 2 s20 rfl rfl rfl rfl (o_gy rfl q22 ?_))))
        refine o_fad h43 (o_gy rfl q22 (o_ldB 0 s20 rfl rfl rfl rfl (o_gy rfl q22 (o_geq rfl rfl ?_))))
        refine o_gy rfl q21 ?_
        refine o_pickt (a := (.bool (decide (a0.Nons ≤ x2.N)))) rfl q22 rfl ?_
        exact k18 _ _ ⟨gf rfl (by first | (rw [q22]; first | done | rfl) | simp [q22]), _, _, Gw.refl _ _, s20, h43, h44, h45, h47, h48, h49, h50, h51, h52, rfl, rfl, rfl, rfl, rfl⟩
       refine o_gn rfl q22 (o_gn rfl q22 (o_gn rfl q22 (o_gn rfl q22 (o_gn rfl q22 ?_))))
       refine o_gy rfl q21 ?_
       refine o_pickf (b := (.bool false)) rfl q22 rfl ?_
       exact k18 _ _ ⟨gf rfl (by first | (rw [q22]; first | done | rfl) | simp [q22]), _, _, Gw.refl _ _, s20, h43, h44, h45, h47, h48, h49, h50, h51, h52, rfl, rfl, rfl, rfl, rfl⟩
      intro _ H21 i11
      obtain ⟨h93, Z14, V14, g14, s23, h79, h80, h81, h82, h83, h84, h85, h86, h87, h88, h89, h90, h91, h92⟩ := i11
      refine o_pickf (b := (.bool ((!x2.Term) && (decide (a0.Nons ≤ x2.N))))) h88 q21 h93 ?_
      obtain rfl := oJ e6
      exact k17 _ _ ⟨_, _, g14, (s23.pick [0, 1] rfl), h79, h80, h81, h82, h83, h84, h85, h86, h87, rfl⟩
     intro _ H20 i12
     obtain ⟨Z13, V13, g13, s22, h69, h70, h71, h72, h73, h74, h75, h76, h77, h78⟩ := i12
     refine c_nil ?_
     refine c_if h78 (fun q23 => ?_) (fun q23 => ?_)
     ·replace e4 := if_t q23 e4
      refine c_sr ?_
      refine o_mv (v := (vi 3)) rfl ?_
      refine c_nil (c_rt ?_)
      have e7 := fin_r (k13 _ (sJ e4)) e1
      have e8 := fin_r (k8 _ (sJ e7)) e
      obtain rfl := oJ e8
      exact ⟨.inr rfl, _, (ar1 rfl), rfl, ((s22.pick [] rfl).weak (g1.trans (g2.trans (g3.trans (g4.trans (g5.trans (g6.trans (g8.trans (g9.trans (g11.trans g13))))))))) hs.zv)⟩
     replace e4 := ib_f q23 e4
     refine c_sk (c_end (c_r (o_add h77 rfl ?_)))
     refine o_mv (v := (vi (Pu.W ((i8 : Int) + 1)))) rfl ?_
     refine c_nil ?_
     exact k11 _ _ _ (sJ e4) ⟨(iv rfl (w_suc q16 ((h18.mono g8.v)).bd)), _, _, (g9.trans (g11.trans g13)), s22, h69, h70, h71, h72, h73, h74, h75, h76⟩
    ·obtain ⟨hte1, Z15, V15, g15, s24, h94, h95, h96, h97, h98, h99, h100, h101⟩ := jd
     refine c_sr (o_lss hte1 h101 (c_nil (c_sq ?_)))
     refine c_iff rfl (Int.lt_irrefl _) ?_
     refine c_ex ?_
     refine e_c ?_
     refine e_c ?_
     refine e_h ?_
     exact k14 _ _ ⟨_, jf, _, _, g15, s24, h94, h95, h96, h97, h98, h99, h100, h101⟩
   intro _ H15 i13
   obtain ⟨s16, f1, Z10, V10, g10, s17, h34, h35, h36, h37, h38, h39, h40, h41⟩ := i13
   replace e1 := fin_o f1 e1
   refine c_sr (o_fad h34 (o_ldB 0 s17 rfl rfl rfl rfl (o_mv h35 ?_)))
   obtain ⟨x3, q24, e1⟩ := oB e1
   refine o_slch rfl rfl (hp1.mono (g1.trans (g2.trans (g3.trans (g4.trans (g5.trans (g6.trans (g8.trans g10))))))).v) s17.v rfl q24 fun w2 h102 => ?_
   refine o_len rfl (h102).len ?_
   refine o_mv (v := (vi 0)) rfl ?_
   refine c_nil ?_
   obtain ⟨y7, q27, e1⟩ := oB e1
   refine c_jn (I := fun tm H => ∃ (s27 : Unit), y7 = .out s27 ∧ (∃ (Z17 V17 : PH), Gw Z10 V10 Z17 V17 ∧ Sat Z17 V17 H [pts b1 (.rw 0 [vi a0.Terms, vi a0.Nons, vi a0.Start, (vS d1 a0.Rules)]), pts b2 (.rw 0 [vi x1.Left, (vS d2 x1.Right)])] ∧ tm 1 = (pV b1 0) ∧ tm 4 = (pV b2 0) ∧ tm 44 = (vS d1 a0.Rules) ∧ tm 45 = (vN a0.Rules) ∧ tm 46 = (vJ i6) ∧ tm 102 = w2 ∧ tm 103 = (vN x3))) (fun k22 => ?_) ?_
   ·refine c_bk ?_
    refine l_forL (xs := x3) (fun (i14 : Nat) (s25 : Unit) tm H => tm 104 = vi i14 ∧ ∃ (Z16 V16 : PH), Gw Z10 V10 Z16 V16 ∧ Sat Z16 V16 H [pts b1 (.rw 0 [vi a0.Terms, vi a0.Nons, vi a0.Start, (vS d1 a0.Rules)]), pts b2 (.rw 0 [vi x1.Left, (vS d2 x1.Right)])] ∧ tm 1 = (pV b1 0) ∧ tm 4 = (pV b2 0) ∧ tm 44 = (vS d1 a0.Rules) ∧ tm 45 = (vN a0.Rules) ∧ tm 46 = (vJ i6) ∧ tm 102 = w2 ∧ tm 103 = (vN x3)) (fun i14 x4 s25 y8 tm H24 q25 q26 j3 e9 k19 k20 k21 => ?_) (fun s25 tm H23 jf jd => ?_) q27 ⟨rfl, _, _, Gw.refl _ _, s17, h34, h36, h37, h38, h39, rfl, rfl⟩
    ·obtain ⟨hti2, Z16, V16, g16, s26, h103, h104, h105, h106, h107, h108, h109⟩ := j3
     unfold P.gram_Check.b2 at e9
     refine c_sr (o_lss hti2 h109 (c_nil (c_sq ?_)))
     refine c_ift rfl (Int.ofNat_lt.2 q26) ?_
     refine c_sk (c_sq (c_bk (c_sr ?_)))
     refine o_idx (v := w2) h108 hti2 (h102.mono g16.v) rfl (Pu.ix_nat.trans q25) fun p3 q28 => ?_
     refine o_lda rfl (h102.mono g16.v) s26.v rfl q28 (Pu.ix_nat.trans q25) fun c3 h117 => ?_
     obtain ⟨w3, rfl, h118⟩ := Sh.api_Rule_op h117
     refine o_new s26 fun b4 H26 s29 => ?_
     obtain ⟨d3, rfl⟩ := (h118).val
     refine o_stB (us' := [vi x4.Left, (vS d3 x4.Right)]) 0 s29 rfl rfl rfl rfl rfl rfl rfl fun H27 s30 => ?_
     refine c_nil (c_sr (o_ldB 0 s30 rfl rfl rfl rfl (o_ldB 2 s30 rfl h104 rfl rfl ?_)))
     obtain ⟨x5, q29, e9⟩ := oB e9
     obtain ⟨Z18, V18, W1, g18, u1, c4, c5, -, c7, c6⟩ := Sat.call (l1 := []) s30
     refine o_call (mc rfl (mc rfl m0)) (X.gram_Compare nd.gram_Compare c4 (h118.mono (g18.v.trans u1)) (h18.mono (((g8.trans (g10.trans g16)).trans g18).v.trans u1)) q29) fun _ H28 i15 => ?_
     obtain ⟨rfl, s31⟩ := i15
     have s32 := c6 _ _ s31
     refine o_eql rfl rfl (c_nil ?_)
     refine c_ifd rfl (fun q30 => ?_) (fun q30 => ?_)
     ·replace e9 := if_t q30 e9
      refine c_sr ?_
      refine o_mv (v := (vi 6)) rfl ?_
      refine c_nil (c_rt ?_)
      have e10 := fin_r (k21 _ (sJ e9)) e1
      have e11 := fin_r (k8 _ (sJ e10)) e
      obtain rfl := oJ e11
      exact ⟨.inr rfl, _, (ar1 rfl), rfl, ((s32.pick [] rfl).weak (g1.trans (g2.trans (g3.trans (g4.trans (g5.trans (g6.trans (g8.trans (g10.trans (g16.trans g18))))))))) hs.zv)⟩
     replace e9 := if_f q30 e9
     refine c_sk (c_end (c_r (o_add hti2 rfl ?_)))
     refine o_mv (v := (vi (Pu.W ((i14 : Int) + 1)))) rfl ?_
     refine c_nil ?_
     exact k19 _ _ _ (sJ e9) ⟨(iv rfl (w_suc q26 (h102).bd)), _, _, (g16.trans g18), (s32.pick [1, 2] rfl), h103, h104, h105, h106, h107, h108, h109⟩
    ·obtain ⟨hte2, Z19, V19, g19, s33, h119, h120, h121, h122, h123, h124, h125⟩ := jd
     refine c_sr (o_lss hte2 h125 (c_nil (c_sq ?_)))
     refine c_iff rfl (Int.lt_irrefl _) ?_
     refine c_ex ?_
     refine e_c ?_
     refine e_c ?_
     refine e_h ?_
     exact k22 _ _ ⟨_, jf, _, _, g19, s33, h119, h120, h121, h122, h123, h124, h125⟩
   intro _ H25 i16
   obtain ⟨s27, f2, Z17, V17, g17, s28, h110, h111, h112, h113, h114, h115, h116⟩ := i16
   replace e1 := fin_o f2 e1
   refine c_end (c_r (o_add h114 rfl ?_))
   refine o_mv (v := (vi (Pu.W ((i6 : Int) + 1)))) rfl ?_
   refine c_nil ?_
   exact k6 _ _ _ (sJ e1) ⟨(iv rfl (w_suc q9 ((hp1.mono (g1.trans (g2.trans (g3.trans (g4.trans g5)))).v)).bd)), _, _, (g6.trans (g8.trans (g10.trans g17))), (s28.pick [0] rfl), h110, h112, h113⟩
  ·obtain ⟨hte0, Z20, V20, g20, s34, h126, h127, h128⟩ := jd
   refine c_sr (o_lss hte0 h128 (c_nil (c_sq ?_)))
   refine c_iff rfl (Int.lt_irrefl _) ?_
   refine c_ex ?_
   refine e_c ?_
   refine e_c ?_
   refine e_h ?_
   exact k9 _ _ ⟨_, jf, _, _, g20, s34, h126, h127, h128⟩
 intro _ H9 i17
 obtain ⟨s9, f3, Z7, V7, g7, s10, h14, h15, h16⟩ := i17
 replace e := fin_o f3 e
 refine c_sr ?_
 refine o_mv (v := (vi 0)) rfl ?_
 refine c_nil (c_rt ?_)
 obtain rfl := oJ e
 exact ⟨.inr rfl, _, (ar1 rfl), rfl, ((s10.pick [] rfl).weak (g1.trans (g2.trans (g3.trans (g4.trans (g5.trans g7))))) hs.zv)⟩
/-! gram_Word -/
structure Nd.gram_Word (T : FuncId → Option AFunc) : Prop where
  own : Has T I.gram_Word F.gram_Word
set_option maxHeartbeats 1000000 in
theorem X.gram_Word {T : FuncId → Option AFunc} (nd : Nd.gram_Word T) {Z V : PH} {H : Hp} {v1 : Value} {v2 : Value} {a0 : Ty.api_Grammar} {a1 : (List Int)} {a2 : Int} (hs : Sat Z V H []) (hp1 : RdS Sh.api_Rule V v1 a0.Rules) (hp2 : RdS Sh.int V v2 a1) {r : Int} (e : P.gram_Word a0 a1 a2 = some r) :
    G T I.gram_Word [(.agg #[vi a0.Terms, vi a0.Nons, vi a0.Start, v1]), v2, vi a2] H (fun rv H' => rv = (vi r) ∧ Sat Z V H' []) := by
 unfold P.gram_Word at e
 refine f_mk nd.own ?_
 refine c_sr ?_
 obtain ⟨d1, rfl⟩ := (hp1).val
 refine o_box hs rfl rfl fun b1 H1 s1 => ?_
 refine o_mv (v := (vi 0)) rfl ?_
 refine c_nil (c_sq (c_sr ?_))
 refine o_mv (v := v2) rfl ?_
 refine o_len rfl (hp2).len ?_
 refine o_mv (v := (vi a2)) rfl ?_
 refine o_gtr rfl rfl (c_nil ?_)
 refine c_ifd rfl (fun q1 => ?_) (fun q1 => ?_)
 ·replace e := if_t q1 e
  refine c_sr ?_
  refine o_mv (v := (vi 2)) rfl ?_
  refine c_nil (c_rt ?_)
  obtain rfl := oJ e
  exact ⟨.inr rfl, _, (ar1 rfl), rfl, (s1.pick [] rfl)⟩
 replace e := if_f q1 e
 refine c_sk (c_sq (c_sr ?_))
 refine o_mv (v := v2) rfl ?_
 refine o_len rfl (hp2).len ?_
 refine o_mv (v := (vi 0)) rfl ?_
 refine c_nil ?_
 obtain ⟨y1, q4, e⟩ := oB e
 refine c_jn (I := fun tm H => ∃ (s4 : Unit), y1 = .out s4 ∧ (∃ (Z2 V2 : PH), Gw Z V Z2 V2 ∧ Sat Z2 V2 H [pts b1 (.rw 0 [vi a0.Terms, vi a0.Nons, vi a0.Start, (vS d1 a0.Rules)])] ∧ tm 3 = (pV b1 0) ∧ tm 13 = v2 ∧ tm 14 = (vN a1))) (fun k4 => ?_) ?_
 ·refine c_bk ?_
  refine l_forL (xs := a1) (fun (i1 : Nat) (s2 : Unit) tm H => tm 15 = vi i1 ∧ ∃ (Z1 V1 : PH), Gw Z V Z1 V1 ∧ Sat Z1 V1 H [pts b1 (.rw 0 [vi a0.Terms, vi a0.Nons, vi a0.Start, (vS d1 a0.Rules)])] ∧ tm 3 = (pV b1 0) ∧ tm 13 = v2 ∧ tm 14 = (vN a1)) (fun i1 x1 s2 y2 tm H3 q2 q3 j1 e1 k1 k2 k3 => ?_) (fun s2 tm H2 jf jd => ?_) q4 ⟨rfl, _, _, Gw.refl _ _, s1, rfl, rfl, rfl⟩
  ·obtain ⟨hti0, Z1, V1, g1, s3, h1, h2, h3⟩ := j1
   unfold P.gram_Word.b0 at e1
   refine c_sr (o_lss hti0 h3 (c_nil (c_sq ?_)))
   refine c_ift rfl (Int.ofNat_lt.2 q3) ?_
   refine c_sk (c_sq (c_bk (c_sr ?_)))
   refine o_idx (v := v2) h2 hti0 (hp2.mono g1.v) rfl (Pu.ix_nat.trans q2) fun p1 q5 => ?_
   refine o_ldi rfl (hp2.mono g1.v) s3.v q5 (Pu.ix_nat.trans q2) ?_
   refine o_mv (v := (vi x1)) rfl ?_
   refine c_nil (c_sr ?_)
   refine o_mv (v := (vi x1)) rfl ?_
   refine o_lss rfl rfl ?_
   refine o_mv (v := (.bool (decide (x1 < 0)))) rfl ?_
   refine o_jn 5 (I := fun tm H => tm 26 = .bool ((decide (x1 < 0)) || (decide (a0.Terms ≤ x1))) ∧ (∃ (Z3 V3 : PH), Gw Z1 V1 Z3 V3 ∧ Sat Z3 V3 H [pts b1 (.rw 0 [vi a0.Terms, vi a0.Nons, vi a0.Start, (vS d1 a0.Rules)])] ∧ tm 3 = (pV b1 0) ∧ tm 13 = v2 ∧ tm 14 = (vN a1) ∧ tm 15 = (vJ i1))) (fun k5 => ?_) ?_
   ·rcases Bool.eq_false_or_eq_true (decide (x1 < 0)) with q6 | q6
    ·refine o_gn rfl q6 (o_gn rfl q6 (o_gn rfl q6 (o_gn rfl q6 ?_)))
     refine o_pickt (a := (.bool true)) rfl q6 rfl ?_
     exact k5 _ _ ⟨gf rfl (by first | (rw [q6]; first | done | rfl) | simp [q6]), _, _, Gw.refl _ _, s3, h1, h2, h3, hti0⟩
    refine o_gy rfl q6 ?_
    refine o_mv (v := (vi x1)) rfl ?_
    refine o_gy rfl q6 (o_fad h1 (o_gy rfl q6 (o_ldB 0 s3 rfl rfl rfl rfl (o_gy rfl q6 ?_))))
    refine o_geq rfl rfl ?_
    refine o_pickf (b := (.bool (decide (a0.Terms ≤ x1)))) rfl q6 rfl ?_
    exact k5 _ _ ⟨gf rfl (by first | (rw [q6]; first | done | rfl) | simp [q6]), _, _, Gw.refl _ _, s3, h1, h2, h3, hti0⟩
   intro _ H5 i2
   obtain ⟨h11, Z3, V3, g3, s6, h7, h8, h9, h10⟩ := i2
   refine c_nil ?_
   refine c_if h11 (fun q7 => ?_) (fun q7 => ?_)
   ·replace e1 := if_t q7 e1
    refine c_sr ?_
    refine o_mv (v := (vi 1)) rfl ?_
    refine c_nil (c_rt ?_)
    have e2 := fin_r (k3 _ (sJ e1)) e
    obtain rfl := oJ e2
    exact ⟨.inr rfl, _, (ar1 rfl), rfl, ((s6.pick [] rfl).weak (g1.trans g3) hs.zv)⟩
   replace e1 := ib_f q7 e1
   refine c_sk (c_end (c_r (o_add h10 rfl ?_)))
   refine o_mv (v := (vi (Pu.W ((i1 : Int) + 1)))) rfl ?_
   refine c_nil ?_
   exact k1 _ _ _ (sJ e1) ⟨(iv rfl (w_suc q3 (hp2).bd)), _, _, (g1.trans g3), s6, h7, h8, h9⟩
  ·obtain ⟨hte0, Z4, V4, g4, s7, h12, h13, h14⟩ := jd
   refine c_sr (o_lss hte0 h14 (c_nil (c_sq ?_)))
   refine c_iff rfl (Int.lt_irrefl _) ?_
   refine c_ex ?_
   refine e_c ?_
   refine e_c ?_
   refine e_h ?_
   exact k4 _ _ ⟨_, jf, _, _, g4, s7, h12, h13, h14⟩
 intro _ H4 i3
 obtain ⟨s4, f1, Z2, V2, g2, s5, h4, h5, h6⟩ := i3
 replace e := fin_o f1 e
 refine c_sr ?_
 refine o_mv (v := (vi 0)) rfl ?_
 refine c_nil (c_rt ?_)
 obtain rfl := oJ e
 exact ⟨.inr rfl, _, (ar1 rfl), rfl, ((s5.pick [] rfl).weak g2 hs.zv)⟩
/-! mean_check -/
structure Nd.mean_check (T : FuncId → Option AFunc) : Prop where
  own : Has T I.mean_check F.mean_check
  gram_Check : Nd.gram_Check T
  gram_Word : Nd.gram_Word T
set_option maxHeartbeats 1000000 in
theorem X.mean_check {T : FuncId → Option AFunc} (nd : Nd.mean_check T) {Z V : PH} {H : Hp} {v1 : Value} {v2 : Value} {a0 : Ty.api_Grammar} {a1 : (List Int)} (hs : Sat Z V H []) (hp1 : RdS Sh.api_Rule V v1 a0.Rules) (hp2 : RdS Sh.int V v2 a1) {r : Int} (e : P.mean_check a0 a1 = some r) :
    G T I.mean_check [(.agg #[vi a0.Terms, vi a0.Nons, vi a0.Start, v1]), v2] H (fun rv H' => rv = (vi r) ∧ Sat Z V H' []) := by
 unfold P.mean_check at e
 refine f_mk nd.own ?_
 refine c_sr ?_
 obtain ⟨d1, rfl⟩ := (hp1).val
 refine o_box hs rfl rfl fun b1 H1 s1 => ?_
 refine o_mv (v := (vi 0)) rfl ?_
 refine c_nil (c_sq (c_sr (o_ldB 0 s1 rfl rfl rfl rfl ?_)))
 obtain ⟨x1, q1, e⟩ := oB e
 obtain ⟨Z1, V1, W1, g1, u1, c1, c2, -, c4, c3⟩ := Sat.call (l1 := []) s1
 refine o_call (mc rfl m0) (X.gram_Check nd.gram_Check c1 (hp1.mono (g1.v.trans u1)) q1) fun _ H2 i1 => ?_
 obtain ⟨rfl, s2⟩ := i1
 have s3 := c3 _ _ s2
 refine o_mv (v := (vi x1)) rfl ?_
 refine c_nil (c_sr ?_)
 refine o_mv (v := (vi x1)) rfl ?_
 refine o_neq rfl rfl (c_nil ?_)
 refine c_ifd rfl (fun q2 => ?_) (fun q2 => ?_)
 ·replace e := if_t q2 e
  refine c_sr ?_
  refine o_mv (v := (vi x1)) rfl ?_
  refine o_mv (v := (vi x1)) rfl ?_
  refine c_nil (c_rt ?_)
  obtain rfl := oJ e
  exact ⟨.inr rfl, _, (ar1 rfl), rfl, ((s3.pick [] rfl).weak g1 hs.zv)⟩
 replace e := if_f q2 e
 refine c_sk (c_sr (o_ldB 0 s3 rfl rfl rfl rfl ?_))
 refine o_mv (v := v2) rfl ?_
 obtain ⟨x2, q3, e⟩ := oB e
 obtain ⟨Z2, V2, W2, g2, u2, c5, c6, -, c8, c7⟩ := Sat.call (l1 := []) s3
 refine o_call (mc rfl (mc rfl (mc rfl m0))) (X.gram_Word nd.gram_Word c5 (hp1.mono ((g1.trans g2).v.trans u2)) (hp2.mono ((g1.trans g2).v.trans u2)) q3) fun _ H3 i2 => ?_
 obtain ⟨rfl, s4⟩ := i2
 have s5 := c7 _ _ s4
 refine o_mv (v := (vi x2)) rfl ?_
 refine c_nil ?_
 refine c_gen (P := fun tm => tm 4 = (vi x2) ∧ True) ⟨rfl, trivial⟩ ?_
 intro _ i3
 obtain ⟨h1, -⟩ := i3
 refine c_rt ?_
 obtain rfl := oJ e
 exact ⟨.inr rfl, _, (ar1 h1), rfl, ((s5.pick [] rfl).weak (g1.trans g2) hs.zv)⟩
/-! mean_ends_after -/
structure Nd.mean_ends_after (T : FuncId → Option AFunc) : Prop where
  own : Has T I.mean_ends_after F.mean_ends_after
set_option maxHeartbeats 1000000 in
theorem X.mean_ends_after {T : FuncId → Option AFunc} (nd : Nd.mean_ends_after T) {φ : Nat} {Z V : PH} {H : Hp} {v1 : Value} {v2 : Value} {v3 : Value} {o1 : Nat} {a0 : Ty.mean_ends} {a1 : Ty.api_Sym} {a2 : Int} (hs : Sat Z V H [pts o1 (.rw 0 [vi a0.g.Terms, vi a0.g.Nons, vi a0.g.Start, v1, v2, v3]), It.sl (Sh.sl (Sh.ik .u32)) v3 a0.of_]) (hp1 : RdS Sh.api_Rule V v1 a0.g.Rules) (hp2 : RdS Sh.int V v2 a0.w) {r : Int} (e : P.mean_ends_after φ a0 a1 a2 = some r) :
    G T I.mean_ends_after [(pV o1 0), (.agg #[(.bool a1.Term), vi a1.N]), (.int .u32 a2)] H (fun rv H' => rv = (.int .u32 r) ∧ Sat Z V H' [pts o1 (.rw 0 [vi a0.g.Terms, vi a0.g.Nons, vi a0.g.Start, v1, v2, v3]), It.sl (Sh.sl (Sh.ik .u32)) v3 a0.of_]) := by
 unfold P.mean_ends_after at e
 refine f_mk nd.own ?_
 refine c_sr ?_
 refine o_box hs rfl rfl fun b1 H1 s1 => ?_
 refine o_mv (v := (.int .u32 0)) rfl ?_
 refine c_nil (c_sr ?_)
 refine o_mv (v := (.int .u32 0)) rfl ?_
 refine c_nil (c_sq (c_sr ?_))
 refine o_mv (v := (vi 0)) rfl ?_
 refine c_nil ?_
 obtain ⟨y1, q3, e⟩ := oB e
 refine c_jn (I := fun tm H => ∃ (s4 : (Int × Int)), y1 = .out s4 ∧ (∃ (Z2 V2 : PH), Gw Z V Z2 V2 ∧ Sat Z2 V2 H [pts o1 (.rw 0 [vi a0.g.Terms, vi a0.g.Nons, vi a0.g.Start, v1, v2, v3]), It.sl (Sh.sl (Sh.ik .u32)) v3 a0.of_, pts b1 (.rw 0 [(.bool a1.Term), vi a1.N])] ∧ tm 0 = (pV o1 0) ∧ tm 2 = (.int .u32 a2) ∧ tm 4 = (pV b1 0) ∧ tm 7 = (.int .u32 s4.1) ∧ tm 8 = (vi s4.2))) (fun k4 => ?_) ?_
 ·refine c_bk ?_
  refine l_whl (fun (s2 : (Int × Int)) tm H => ∃ (Z1 V1 : PH), Gw Z V Z1 V1 ∧ Sat Z1 V1 H [pts o1 (.rw 0 [vi a0.g.Terms, vi a0.g.Nons, vi a0.g.Start, v1, v2, v3]), It.sl (Sh.sl (Sh.ik .u32)) v3 a0.of_, pts b1 (.rw 0 [(.bool a1.Term), vi a1.N])] ∧ tm 0 = (pV o1 0) ∧ tm 2 = (.int .u32 a2) ∧ tm 4 = (pV b1 0) ∧ tm 7 = (.int .u32 s2.1) ∧ tm 8 = (vi s2.2)) (fun s2 y2 tm H3 j1 e1 k1 k2 k3 => ?_) q3 ⟨_, _, Gw.refl _ _, (s1.pick [1, 2, 0] rfl), rfl, rfl, rfl, rfl, rfl⟩
  obtain ⟨Z1, V1, g1, s3, h1, h2, h3, h4, h5⟩ := j1
  unfold P.mean_ends_after.b0 at e1
  refine c_sq (c_sr (o_mv h5 (o_mv h1 (o_nck rfl ?_))))
  refine o_fad rfl ?_
  obtain ⟨d1, rfl⟩ := ((hp1.mono g1.v)).val
  obtain ⟨d2, rfl⟩ := ((hp2.mono g1.v)).val
  obtain ⟨d3, rfl⟩ := ((s3.curS (s := (Sh.sl (Sh.ik .u32))) 1 rfl)).val
  refine o_ldB 0 s3 rfl rfl rfl rfl (o_len rfl ((hp2.mono g1.v)).len (o_leq rfl rfl (c_nil ?_)))
  refine c_ifd rfl (fun q4 => ?_) (fun q4 => ?_)
  ·replace e1 := if_t q4 e1
   refine c_sk (c_sq (c_bk (c_sq (c_sr ?_))))
   refine o_mv h2 (o_mv h5 ?_)
   obtain ⟨x2, q5, e1⟩ := oB e1
   refine o_shr rfl rfl q5 (o_and rfl rfl (o_eql rfl rfl (c_nil ?_)))
   refine c_gen (P := fun tm => tm 0 = (pV o1 0) ∧ tm 2 = (.int .u32 a2) ∧ tm 4 = (pV b1 0) ∧ tm 7 = (.int .u32 s2.1) ∧ tm 8 = (vi s2.2) ∧ tm 22 = (.bool (decide ((Pu.band .u32 x2 1) = 0))) ∧ True) ⟨h1, h2, h3, h4, h5, rfl, trivial⟩ ?_
   intro _ i2
   obtain ⟨h11, h12, h13, h14, h15, h16, -⟩ := i2
   refine c_ifd h16 (fun q6 => ?_) (fun q6 => ?_)
   ·replace e1 := if_t q6 e1
    refine c_ex ?_
    refine e_c ?_
    refine e_h ?_
    refine c_r (o_mv h15 (o_add rfl rfl ?_))
    refine o_mv (v := (vi (Pu.W (s2.2 + 1)))) rfl ?_
    refine c_nil ?_
    exact k1 _ _ _ (sJ e1) ⟨_, _, g1, s3, h11, h12, h13, h14, rfl⟩
   replace e1 := if_f q6 e1
   refine c_sk (c_bk (c_sr (o_fad h13 (o_ldB 2 s3 rfl rfl rfl rfl ?_))))
   refine o_not rfl ?_
   refine o_mv (v := (.bool (!a1.Term))) rfl ?_
   refine c_nil ?_
   obtain ⟨y3, e2, e1⟩ := oB e1
   refine c_jn (I := fun tm H => ∃ (Z3 V3 : PH), Gw Z1 V1 Z3 V3 ∧ Sat Z3 V3 H [pts o1 (.rw 0 [vi a0.g.Terms, vi a0.g.Nons, vi a0.g.Start, (vS d1 a0.g.Rules), (vS d2 a0.w), (vS d3 a0.of_)]), It.sl (Sh.sl (Sh.ik .u32)) (vS d3 a0.of_) a0.of_, pts b1 (.rw 0 [(.bool a1.Term), vi a1.N])] ∧ tm 0 = (pV o1 0) ∧ tm 2 = (.int .u32 a2) ∧ tm 4 = (pV b1 0) ∧ tm 7 = (.int .u32 y3) ∧ tm 8 = (vi s2.2)) (fun k5 => ?_) ?_
   ·refine c_if rfl (fun q7 => ?_) (fun q7 => ?_)
    ·replace e2 := if_t q7 e2
     refine d_start s3 fun n1 H6 s7 q8 d4 => ?_
     refine d_mv h14 ?_
     refine d_mv h11 ?_
     refine d_nck rfl ?_
     refine d_fad rfl ?_
     refine d_ldB (q8 _ _ (ph_some.2 ⟨s7.curB 0 rfl, by simp⟩)) 0 s7 rfl rfl rfl rfl ?_
     refine d_fad h13 ?_
     refine d_ldB (q8 _ _ (ph_some.2 ⟨s7.curB 2 rfl, by simp⟩)) 2 s7 rfl rfl rfl rfl ?_
     obtain ⟨x3, q9, e2⟩ := oB e2
     refine d_idx (v := (vS d3 a0.of_)) rfl rfl (s7.curS (s := (Sh.sl (Sh.ik .u32))) 1 rfl) rfl q9 fun p1 q10 => ?_
     refine d_ldsv ((s7.curS 1 rfl).low pR q8) rfl (s7.curS (s := (Sh.sl (Sh.ik .u32))) 1 rfl) pR q10 q9 fun w1 h22 h23 => ?_
     refine d_mv h15 ?_
     obtain ⟨x4, q11, e2⟩ := oB e2
     refine d_idx (v := w1) rfl rfl h22 rfl q11 fun p2 q12 => ?_
     refine d_ldi (RdS.low h22 pR q8) rfl h22 pR q12 q11 ?_
     have h24 := vl_ik h22 pR q12 q11
     refine d_or rfl rfl ?_
     refine d_mv (v := (.int .u32 (Pu.bor .u32 s2.1 x4))) rfl ?_
     refine d_nil dc_nil ?_
     obtain rfl := oJ e2
     exact k5 _ _ ⟨_, _, Gw.refl _ _, s7, h11, h12, h13, rfl, h15⟩
    replace e2 := ib_f q7 e2
    refine c_sq ?_
    refine d_start s3 fun n2 H7 s8 q13 d5 => ?_
    refine d_mv h15 ?_
    refine d_mv h11 ?_
    refine d_nck rfl ?_
    refine d_fad rfl ?_
    refine d_ldB (q13 _ _ (ph_some.2 ⟨s8.curB 0 rfl, by simp⟩)) 0 s8 rfl rfl rfl rfl ?_
    refine d_len rfl ((hp2.mono g1.v)).len ?_
    refine d_lss rfl rfl ?_
    refine d_mv (v := (.bool (decide (s2.2 < (a0.w.length : Int))))) rfl ?_
    obtain ⟨y4, e3, e2⟩ := oB e2
    refine d_jn 11 (I := fun tm H => DD n2 19 (List.length F.mean_ends_after.r8) H ∧ (∃ (Z4 V4 : PH), Gw Z1 V1 Z4 V4 ∧ Sat Z4 V4 H [pts o1 (.rw 0 [vi a0.g.Terms, vi a0.g.Nons, vi a0.g.Start, (vS d1 a0.g.Rules), (vS d2 a0.w), (vS d3 a0.of_)]), It.sl (Sh.sl (Sh.ik .u32)) (vS d3 a0.of_) a0.of_, pts b1 (.rw 0 [(.bool a1.Term), vi a1.N])] ∧ tm 0 = (pV o1 0) ∧ tm 2 = (.int .u32 a2) ∧ tm 4 = (pV b1 0) ∧ tm 7 = (.int .u32 s2.1) ∧ tm 8 = (vi s2.2) ∧ tm 59 = (.bool y4))) (fun k6 => ?_) ?_
    ·rcases Bool.eq_false_or_eq_true (decide (s2.2 < (a0.w.length : Int))) with q14 | q14
     ·replace e3 := if_t q14 e3
      refine d_want rfl q14 ?_
      refine d_mv h11 ?_
      refine d_want rfl q14 ?_
      refine d_nck rfl ?_
      refine d_want rfl q14 ?_
      refine d_fad rfl ?_
      refine d_want rfl q14 ?_
      refine d_ldB (q13 _ _ (ph_some.2 ⟨s8.curB 0 rfl, by simp⟩)) 0 s8 rfl rfl rfl rfl ?_
      refine d_want rfl q14 ?_
      refine d_mv h15 ?_
      refine d_want rfl q14 ?_
      obtain ⟨x5, q15, e3⟩ := oB e3
      refine d_idx (v := (vS d2 a0.w)) rfl rfl (hp2.mono g1.v) rfl q15 fun p3 q16 => ?_
      refine d_want rfl q14 ?_
      refine d_ldi (RdS.low (hp2.mono g1.v) s8.v q13) rfl hp2 (g1.v.trans s8.v) q16 q15 ?_
      refine d_want rfl q14 ?_
      refine d_fad h13 ?_
      refine d_want rfl q14 ?_
      refine d_ldB (q13 _ _ (ph_some.2 ⟨s8.curB 2 rfl, by simp⟩)) 2 s8 rfl rfl rfl rfl ?_
      refine d_want rfl q14 ?_
      refine d_eql rfl rfl ?_
      refine d_pickt (a := (.bool (decide (x5 = a1.N)))) rfl q14 rfl ?_
      obtain rfl := oJ e3
      exact k6 _ _ _ ⟨d5.up rfl, _, _, Gw.refl _ _, s8, h11, h12, h13, h14, h15, rfl⟩
     replace e3 := ib_f q14 e3
     refine d_gn rfl q14 ?_
     refine d_gn rfl q14 ?_
     refine d_gn rfl q14 ?_
     refine d_gn rfl q14 ?_
     refine d_gn rfl q14 ?_
     refine d_gn rfl q14 ?_
     refine d_gn rfl q14 ?_
     refine d_gn rfl q14 ?_
     refine d_gn rfl q14 ?_
     refine d_gn rfl q14 ?_
     refine d_pickf (b := (.bool false)) rfl q14 rfl ?_
     obtain rfl := oJ e3
     exact k6 _ _ _ ⟨d5.up rfl, _, _, Gw.refl _ _, s8, h11, h12, h13, h14, h15, rfl⟩
    intro _ H8 _ i3
    obtain ⟨d6, Z4, V4, g4, s9, h25, h26, h27, h28, h29, h30⟩ := i3
    refine d_mv h30 ?_
    refine d_nil dc_nil ?_
    obtain ⟨y5, e4, e2⟩ := oB e2
    refine c_jn (I := fun tm H => ∃ (Z5 V5 : PH), Gw Z4 V4 Z5 V5 ∧ Sat Z5 V5 H [pts o1 (.rw 0 [vi a0.g.Terms, vi a0.g.Nons, vi a0.g.Start, (vS d1 a0.g.Rules), (vS d2 a0.w), (vS d3 a0.of_)]), It.sl (Sh.sl (Sh.ik .u32)) (vS d3 a0.of_) a0.of_, pts b1 (.rw 0 [(.bool a1.Term), vi a1.N])] ∧ tm 0 = (pV o1 0) ∧ tm 2 = (.int .u32 a2) ∧ tm 4 = (pV b1 0) ∧ tm 7 = (.int .u32 y5) ∧ tm 8 = (vi s2.2)) (fun k7 => ?_) ?_
    ·refine c_if rfl (fun q17 => ?_) (fun q17 => ?_)
     ·replace e4 := if_t q17 e4
      refine c_r (o_mv h28 (o_mv h29 (o_add rfl rfl ?_)))
      obtain ⟨x6, q18, e4⟩ := oB e4
      refine o_shl rfl rfl q18 (o_or rfl rfl ?_)
      refine o_mv (v := (.int .u32 (Pu.bor .u32 s2.1 x6))) rfl ?_
      refine c_nil ?_
      obtain rfl := oJ e4
      exact k7 _ _ ⟨_, _, Gw.refl _ _, s9, h25, h26, h27, rfl, h29⟩
     replace e4 := ib_f q17 e4
     refine c_sk ?_
     obtain rfl := oJ e4
     exact k7 _ _ ⟨_, _, Gw.refl _ _, s9, h25, h26, h27, h28, h29⟩
    intro _ H9 i4
    obtain ⟨Z5, V5, g5, s10, h31, h32, h33, h34, h35⟩ := i4
    obtain rfl := oJ e2
    exact k5 _ _ ⟨_, _, (g4.trans g5), s10, h31, h32, h33, h34, h35⟩
   intro _ H5 i5
   obtain ⟨Z3, V3, g3, s6, h17, h18, h19, h20, h21⟩ := i5
   refine c_end (c_end (c_r (o_mv h21 (o_add rfl rfl ?_))))
   refine o_mv (v := (vi (Pu.W (s2.2 + 1)))) rfl ?_
   refine c_nil ?_
   exact k1 _ _ _ (sJ e1) ⟨_, _, (g1.trans g3), s6, h17, h18, h19, h20, rfl⟩
  replace e1 := if_f q4 e1
  refine c_ex ?_
  refine e_c ?_
  refine e_c ?_
  refine e_h ?_
  exact k4 _ _ ⟨_, k2 _ (sJ e1), _, _, g1, s3, h1, h2, h3, h4, h5⟩
 intro _ H4 i6
 obtain ⟨s4, f1, Z2, V2, g2, s5, h6, h7, h8, h9, h10⟩ := i6
 replace e := fin_o f1 e
 refine c_sr (o_mv h9 ?_)
 refine o_mv (v := (.int .u32 s4.1)) rfl ?_
 refine c_nil (c_rt ?_)
 obtain ⟨d7, rfl⟩ := ((hp1.mono g2.v)).val
 obtain ⟨d8, rfl⟩ := ((hp2.mono g2.v)).val
 obtain ⟨d9, rfl⟩ := ((s5.curS (s := (Sh.sl (Sh.ik .u32))) 1 rfl)).val
 obtain rfl := oJ e
 exact ⟨.inr rfl, _, (ar1 rfl), rfl, ((s5.pick [0, 1] rfl).weak g2 hs.zv)⟩
end Go.Proofs.Ytcdhhelgoppleaa
