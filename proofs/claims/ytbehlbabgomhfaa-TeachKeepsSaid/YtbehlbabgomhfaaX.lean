/- The abstract code comes to the plain functions: printed by wip/tools/lift.py. -/
import Derived.Test.YtbehlbabgomhfaaP
import Derived.Test.YtbehlbabgomhfaaGdfa
import Derived.Test.YtbehlbabgomhfaaGparlkeep5
import Derived.Test.YtbehlbabgomhfaaGparlmake
import Derived.Test.YtbehlbabgomhfaaGteach
namespace Go.Proofs.Ytbehlbabgomhfaa
open Go Go.Ab
/-! parlmake_Below -/
structure Nd.parlmake_Below (T : FuncId → Option AFunc) : Prop where
  own : Has T I.parlmake_Below F.parlmake_Below
set_option maxHeartbeats 1000000 in
theorem X.parlmake_Below {T : FuncId → Option AFunc} (nd : Nd.parlmake_Below T) {Z V : PH} {H : Hp} {a0 : Int} {a1 : Int} (hs : Sat Z V H []) {r : Int} (e : P.parlmake_Below a0 a1 = some r) :
    G T I.parlmake_Below [(vi a0), (vi a1)] H (fun rv H' => rv = (vi r) ∧ Sat Z V H' []) := by
 unfold P.parlmake_Below at e
 refine f_mk nd.own ?_
 refine c_sr ?_
 refine o_mv (v := (vi 0)) rfl ?_
 refine c_nil ?_
 refine c_sr ?_
 refine o_mv (v := (vi a0)) rfl ?_
 refine o_mv (v := (vi a1)) rfl ?_
 obtain ⟨x1, q1, e⟩ := Pu.bind_some e
 refine o_rem rfl rfl q1 ?_
 refine o_mv (v := (vi x1)) rfl ?_
 refine c_nil ?_
 refine c_sq ?_
 refine c_sr ?_
 refine o_mv (v := (vi x1)) rfl ?_
 refine o_lss rfl rfl ?_
 refine c_nil ?_
 obtain ⟨y1, e1, e⟩ := Pu.bind_some e
 refine c_jn (I := fun tm H => ∃ (Z1 V1 : PH), Gw Z V Z1 V1 ∧ Sat Z1 V1 H [] ∧ tm 0 = (vi y1)) (fun k1 => ?_) ?_
 ·refine c_ifd rfl (fun q2 => ?_) (fun q2 => ?_)
  ·replace e1 := if_t q2 e1
   refine c_r ?_
   refine o_mv (v := (vi x1)) rfl ?_
   refine o_mv (v := (vi a1)) rfl ?_
   refine o_add rfl rfl ?_
   refine o_mv (v := (vi (Pu.W (x1 + a1)))) rfl ?_
   refine c_nil ?_
   obtain rfl := Option.some.inj e1
   exact k1 _ _ ⟨_, _, Gw.refl _ _, hs, rfl⟩
  replace e1 := if_f q2 e1
  refine c_sk ?_
  obtain rfl := Option.some.inj e1
  exact k1 _ _ ⟨_, _, Gw.refl _ _, hs, rfl⟩
 intro _ H1 i1
 obtain ⟨Z1, V1, g1, s1, h1⟩ := i1
 refine c_sr ?_
 refine o_mv (v := (vi y1)) h1 ?_
 refine o_mv (v := (vi y1)) rfl ?_
 refine c_nil ?_
 refine c_rt ?_
 obtain rfl := Option.some.inj e
 exact ⟨.inr rfl, _, (ar1 rfl), rfl, (s1.weak g1 hs.zv)⟩
/-! parlmake_stream_next -/
structure Nd.parlmake_stream_next (T : FuncId → Option AFunc) : Prop where
  own : Has T I.parlmake_stream_next F.parlmake_stream_next
  parlmake_Below : Nd.parlmake_Below T
set_option maxHeartbeats 1000000 in
theorem X.parlmake_stream_next {T : FuncId → Option AFunc} (nd : Nd.parlmake_stream_next T) {Z V : PH} {H : Hp} {v1 : Value} {o1 : Nat} {a0 : Ty.parlmake_stream} {a1 : Int} (hs : Sat Z V H [pts o1 (.rw 0 [v1])]) (hp1 : RdS Sh.int Z v1 a0.l) {r : (Ty.parlmake_stream × Int)} (e : P.parlmake_stream_next a0 a1 = some r) :
    G T I.parlmake_stream_next [(.pointer (some ⟨o1, 0, none⟩)), (vi a1)] H (fun rv H' => ∃ (u1 : Value), rv = (vi r.2) ∧ Sat Z V H' [pts o1 (.rw 0 [u1]), Sh.it (Sh.ro (Sh.sl Sh.int)) [u1] r.1.l]) := by
 unfold P.parlmake_stream_next at e
 refine f_mk nd.own ?_
 refine c_sr ?_
 refine o_mv (v := (vi 0)) rfl ?_
 refine c_nil ?_
 refine c_sq ?_
 refine c_sr ?_
 refine o_mv (v := (.pointer (some ⟨o1, 0, none⟩))) rfl ?_
 refine o_nck rfl ?_
 refine o_fad rfl ?_
 obtain ⟨d1, rfl⟩ := (hp1).val
 refine o_ldB 0 hs rfl rfl rfl rfl ?_
 refine o_len rfl (hp1).len ?_
 refine o_eql rfl rfl ?_
 refine c_nil ?_
 refine c_ifd rfl (fun q1 => ?_) (fun q1 => ?_)
 ·replace e := if_t q1 e
  refine c_sr ?_
  refine o_mv (v := (vi 0)) rfl ?_
  refine c_nil ?_
  refine c_rt ?_
  obtain rfl := Option.some.inj e
  exact ⟨.inr rfl, _, (ar1 rfl), _, rfl, ((hs.push (ro_it (sl_ro hp1))).pick [1, 0] rfl)⟩
 replace e := if_f q1 e
 refine c_sk ?_
 refine c_sr ?_
 refine o_mv (v := (.pointer (some ⟨o1, 0, none⟩))) rfl ?_
 refine o_nck rfl ?_
 refine o_fad rfl ?_
 refine o_ldB 0 hs rfl rfl rfl rfl ?_
 obtain ⟨x1, q2, e⟩ := Pu.bind_some e
 refine o_idx (v := (.slice d1 a0.l.length a0.l.length)) rfl rfl hp1 rfl q2 fun p1 q3 => ?_
 refine o_ldi rfl hp1 hs.z q3 q2 ?_
 refine o_mv (v := (vi x1)) rfl ?_
 refine c_nil ?_
 refine c_gen (P := fun tm => tm 0 = (.pointer (some ⟨o1, 0, none⟩)) ∧ tm 1 = (vi a1) ∧ tm 5 = (vi x1) ∧ True) ⟨rfl, rfl, rfl, trivial⟩ ?_
 intro _ i1
 obtain ⟨h1, h2, h3, -⟩ := i1
 refine c_sr ?_
 refine o_mv (v := (.pointer (some ⟨o1, 0, none⟩))) h1 ?_
 refine o_mv (v := (.pointer (some ⟨o1, 0, none⟩))) h1 ?_
 refine o_nck rfl ?_
 refine o_fad rfl ?_
 refine o_ldB 0 hs rfl rfl rfl rfl ?_
 obtain ⟨x2, q4, e⟩ := Pu.bind_some e
 refine o_slcl rfl rfl hp1 hs.z rfl q4 fun w1 h4 => ?_
 refine o_nck rfl ?_
 refine o_fad rfl ?_
 obtain ⟨d2, rfl⟩ := (h4).val
 refine o_stB (us' := [(.slice d2 x2.length x2.length)]) 0 hs rfl rfl rfl rfl rfl rfl rfl fun H1 s1 => ?_
 refine c_nil ?_
 refine c_sr ?_
 refine o_mv (v := (vi x1)) h3 ?_
 refine o_mv (v := (vi a1)) h2 ?_
 obtain ⟨x3, q5, e⟩ := Pu.bind_some e
 obtain ⟨Z1, V1, W1, g1, u1, c1, c2, -, c4, c3⟩ := Sat.call (l1 := []) s1
 refine o_call (mc rfl (mc rfl m0)) (X.parlmake_Below nd.parlmake_Below c1 q5) fun _ H2 i2 => ?_
 obtain ⟨rfl, s2⟩ := i2
 have s3 := c3 _ _ s2
 refine o_mv (v := (vi x3)) rfl ?_
 refine c_nil ?_
 refine c_gen (P := fun tm => tm 4 = (vi x3) ∧ True) ⟨rfl, trivial⟩ ?_
 intro _ i3
 obtain ⟨h5, -⟩ := i3
 refine c_rt ?_
 obtain rfl := Option.some.inj e
 exact ⟨.inr rfl, _, (ar1 h5), _, rfl, (((s3.push (ro_it (sl_ro (h4.mono g1.z)))).pick [1, 0] rfl).weak g1 hs.zv)⟩
/-! parlmake_Dfa -/
structure Nd.parlmake_Dfa (T : FuncId → Option AFunc) : Prop where
  own : Has T I.parlmake_Dfa F.parlmake_Dfa
  parlmake_stream_next : Nd.parlmake_stream_next T
set_option maxHeartbeats 1000000 in
theorem X.parlmake_Dfa {T : FuncId → Option AFunc} (nd : Nd.parlmake_Dfa T) {Z V : PH} {H : Hp} {v1 : Value} {a0 : (List Int)} (hs : Sat Z V H []) (hp1 : RdS Sh.int Z v1 a0) {r : Ty.api_Dfa} (e : P.parlmake_Dfa a0 = some r) :
    G T I.parlmake_Dfa [v1] H (fun rv H' => ∃ (u1 : Value) (u2 : Value), rv = (.agg #[(vi r.Start), u1, u2]) ∧ Sat Z V H' [It.sl Sh.int u1 r.Accept, It.sl (Sh.sl Sh.int) u2 r.Next]) := by
 unfold P.parlmake_Dfa at e
 refine f_mk nd.own ?_
 refine c_sr ?_
 refine o_new hs fun b1 H1 s1 => ?_
 refine c_nil ?_
 refine c_sr ?_
 refine o_mv (v := v1) rfl ?_
 obtain ⟨d1, rfl⟩ := (hp1).val
 refine o_bld (qs := [(0, 1, (.slice d1 a0.length a0.length))]) rfl rfl ?_
 refine o_box s1 rfl rfl fun b2 H2 s2 => ?_
 refine o_mv (v := (.pointer (some ⟨b2, 0, none⟩))) rfl ?_
 refine c_nil ?_
 refine c_sr ?_
 refine o_mv (v := (.pointer (some ⟨b2, 0, none⟩))) rfl ?_
 obtain ⟨x1, q1, e⟩ := Pu.bind_some e
 obtain ⟨Z1, V1, W1, g1, u1, c1, c2, -, c4, c3⟩ := Sat.call (l1 := [pts b2 (.rw 0 [(.slice d1 a0.length a0.length)])]) (l2 := [pts b1 (.rw 0 [(vi 0), (.slice none 0 0), (.slice none 0 0)])]) s2
 refine o_call (mc rfl (mc rfl m0)) (X.parlmake_stream_next nd.parlmake_stream_next (a0 := (Ty.parlmake_stream.mk a0)) c1 (hp1.mono g1.z) q1) fun _ H3 i1 => ?_
 obtain ⟨w1, rfl, s3⟩ := i1
 have s4 := c3 _ _ s3
 obtain ⟨Z2, V2, g2, s5, h1⟩ := (s4.pull 1 rfl).frzR
 refine o_add rfl rfl ?_
 refine o_mv (v := (.pointer (some ⟨b2, 0, none⟩))) rfl ?_
 obtain ⟨x2, q2, e⟩ := Pu.bind_some e
 obtain ⟨d2, rfl⟩ := (h1).val
 obtain ⟨Z3, V3, W2, g3, u2, c5, c6, -, c8, c7⟩ := Sat.call (l1 := [pts b2 (.rw 0 [(.slice d2 x1.1.l.length x1.1.l.length)])]) (l2 := [pts b1 (.rw 0 [(vi 0), (.slice none 0 0), (.slice none 0 0)])]) s5
 refine o_call (mc rfl (mc rfl m0)) (X.parlmake_stream_next nd.parlmake_stream_next (a0 := x1.1) c5 (h1.mono g3.z) q2) fun _ H4 i2 => ?_
 obtain ⟨w2, rfl, s6⟩ := i2
 have s7 := c7 _ _ s6
 obtain ⟨Z4, V4, g4, s8, h2⟩ := (s7.pull 1 rfl).frzR
 refine o_add rfl rfl ?_
 refine o_mv (v := (vi (Pu.W (1 + x1.2)))) rfl ?_
 refine o_mv (v := (vi (Pu.W (1 + x2.2)))) rfl ?_
 refine c_nil ?_
 refine c_gen (P := fun tm => tm 2 = (.pointer (some ⟨b1, 0, none⟩)) ∧ tm 3 = (.pointer (some ⟨b2, 0, none⟩)) ∧ tm 4 = (vi (Pu.W (1 + x1.2))) ∧ tm 5 = (vi (Pu.W (1 + x2.2))) ∧ True) ⟨rfl, rfl, rfl, rfl, trivial⟩ ?_
 intro _ i3
 obtain ⟨h3, h4, h5, h6, -⟩ := i3
 refine c_sr ?_
 refine o_mv (v := (.pointer (some ⟨b2, 0, none⟩))) h4 ?_
 refine o_mv (v := (vi (Pu.W (1 + x1.2)))) h5 ?_
 obtain ⟨x3, q3, e⟩ := Pu.bind_some e
 obtain ⟨d3, rfl⟩ := (h2).val
 obtain ⟨Z5, V5, W3, g5, u3, c9, c10, -, c12, c11⟩ := Sat.call (l1 := [pts b2 (.rw 0 [(.slice d3 x2.1.l.length x2.1.l.length)])]) (l2 := [pts b1 (.rw 0 [(vi 0), (.slice none 0 0), (.slice none 0 0)])]) s8
 refine o_call (mc rfl (mc rfl m0)) (X.parlmake_stream_next nd.parlmake_stream_next (a0 := x2.1) c9 (h2.mono g5.z) q3) fun _ H5 i4 => ?_
 obtain ⟨w3, rfl, s9⟩ := i4
 have s10 := c11 _ _ s9
 obtain ⟨Z6, V6, g6, s11, h7⟩ := (s10.pull 1 rfl).frzR
 refine o_bld (qs := [(0, 1, (vi x3.2))]) rfl rfl ?_
 refine o_new s11 fun b3 H6 s12 => ?_
 refine o_stB (us' := [(vi x3.2), (.slice none 0 0), (.slice none 0 0)]) 0 s12 rfl rfl rfl rfl rfl rfl rfl fun H7 s13 => ?_
 refine c_nil ?_
 refine c_sq ?_
 refine c_sr ?_
 refine o_mv (v := (vi (Pu.W (1 + x1.2)))) h5 ?_
 refine o_mv (v := (vi 0)) rfl ?_
 refine c_nil ?_
 obtain ⟨x5, q6, e⟩ := Pu.bind_some e
 obtain ⟨rfl, q8⟩ := ranO_some q6
 obtain ⟨y1, q9, e⟩ := Pu.bind_some e
 refine c_bk ?_
 refine l_forP (xs := (Pu.ran (Pu.W (1 + x1.2)))) (fun (i5 : Nat) (s14 : ((List Int) × (List Int) × (List (List Int)))) tm H => tm 22 = vi i5 ∧ ∃ (Z7 V7 : PH) (w4 : Value) (w5 : Value) (w6 : Value), Gw Z6 V6 Z7 V7 ∧ Sat Z7 V7 H [pts b1 (.rw 0 [(vi 0), (.slice none 0 0), (.slice none 0 0)]), pts b2 (.rw 0 [w6]), pts b3 (.rw 0 [(vi x3.2), w4, w5]), It.sl Sh.int w4 s14.2.1, It.sl (Sh.sl Sh.int) w5 s14.2.2] ∧ tm 2 = (.pointer (some ⟨b1, 0, none⟩)) ∧ tm 3 = (.pointer (some ⟨b2, 0, none⟩)) ∧ tm 4 = (vi (Pu.W (1 + x1.2))) ∧ tm 5 = (vi (Pu.W (1 + x2.2))) ∧ tm 6 = (.pointer (some ⟨b3, 0, none⟩)) ∧ tm 21 = (vi (Pu.W (1 + x1.2))) ∧ RdS Sh.int Z7 w6 s14.1) (fun i5 x4 s14 s16 tm H9 q4 q5 j1 e1 k1 => ?_) (fun tm H8 jd => ?_) q9 ⟨rfl, _, _, _, _, _, Gw.refl _ _, (((s13.push (sl_nil (s := Sh.int))).push (sl_nil (s := (Sh.sl Sh.int)))).pick [4, 3, 2, 1, 0] rfl), h3, h4, h5, h6, rfl, rfl, h7⟩
 ·obtain ⟨hti0, Z7, V7, w4, w5, w6, g7, s15, h9, h10, h11, h12, h13, h14, h8⟩ := j1
  unfold P.parlmake_Dfa.b0 at e1
  have hti0 := iv hti0 (ran_x q4).symm
  refine c_sr ?_
  refine o_lss hti0 h14 ?_
  refine c_nil ?_
  refine c_sq ?_
  refine c_ift rfl (ran_lt q4) ?_
  refine c_sk ?_
  refine c_sq ?_
  refine c_bk ?_
  refine c_sq ?_
  refine d_start s15 fun n1 H10 s17 q10 d4 => ?_
  refine d_fad h13 ?_
  obtain ⟨d5, rfl⟩ := ((s17.curS (s := Sh.int) 3 rfl)).val
  obtain ⟨d6, rfl⟩ := ((s17.curS (s := (Sh.sl Sh.int)) 4 rfl)).val
  refine d_ldB (q10 _ _ (ph_some.2 ⟨s17.curB 2 rfl, by simp⟩)) 2 s17 rfl rfl rfl rfl ?_
  refine d_mv (v := (.pointer (some ⟨b2, 0, none⟩))) h10 ?_
  obtain ⟨x6, q11, e1⟩ := Pu.bind_some e1
  obtain ⟨d7, rfl⟩ := (h8).val
  obtain ⟨Z8, V8, W4, g8, u4, c13, c14, -, c16, c15⟩ := Sat.call (l1 := [pts b2 (.rw 0 [(.slice d7 s14.1.length s14.1.length)])]) (l2 := [pts b1 (.rw 0 [(vi 0), (.slice none 0 0), (.slice none 0 0)]), pts b3 (.rw 0 [(vi x3.2), (.slice d5 s14.2.1.length s14.2.1.length), (.slice d6 s14.2.2.length s14.2.2.length)]), It.sl Sh.int (.slice d5 s14.2.1.length s14.2.1.length) s14.2.1, It.sl (Sh.sl Sh.int) (.slice d6 s14.2.2.length s14.2.2.length) s14.2.2]) (s17.pick [1, 0, 2, 3, 4] rfl)
  refine d_call (mc rfl (mc rfl m0)) (X.parlmake_stream_next nd.parlmake_stream_next (a0 := (Ty.parlmake_stream.mk s14.1)) c13 (h8.mono g8.z) q11) fun _ H11 i6 k2 => ?_
  have d8 := d4.keep k2
  obtain ⟨w7, rfl, s18⟩ := i6
  have s19 := c15 _ _ s18
  obtain ⟨Z9, V9, g9, s20, h15⟩ := (s19.pull 1 rfl).frzR
  refine d_sub rfl rfl ?_
  refine d_bsl (s := Sh.int) (us := [(vi (Pu.W (x6.2 - 1)))]) (qs := [(0, 1, (vi (Pu.W (x6.2 - 1))))]) (xs := [(Pu.W (x6.2 - 1))]) (d8.get 5 rfl rfl) s20 Sh.flat_lt rfl rfl rfl (Els.cons (c := [(vi (Pu.W (x6.2 - 1)))]) rfl Els.nil) rfl rfl fun w8 H12 s21 k3 => ?_
  have d9 := d8.next 5 rfl k3
  obtain ⟨x7, q12, e1⟩ := Pu.bind_some e1
  refine d_app 4 s21 rfl Sh.flat_lt rfl rfl rfl rfl (s21.curS (s := Sh.int) 0 rfl) (PH.le.refl _) (fun h => h) (by decide) q12 fun w9 H13 s22 k4 => ?_
  have d10 := d9.keep k4
  refine d_fad h13 ?_
  obtain ⟨d11, rfl⟩ := ((s22.curS (s := Sh.int) 4 rfl)).val
  refine d_stB (us' := [(vi x3.2), (.slice d11 x7.length x7.length), (.slice d6 s14.2.2.length s14.2.2.length)]) 3 s22 rfl rfl rfl rfl rfl rfl rfl fun H14 s23 k5 => ?_
  have d12 := d10.keep k5
  refine d_nil (dc_mk rfl (tra (tra (tra (tra (tra (tra (tra (tra (tre (trl tr0)))))))))) (tra (tra (tra (tra (tra (tra (tre (trl (trl (trl tr0)))))))))) (tra (tra (tra (tra (tra (tre (trl (trl (trl (trl tr0)))))))))) (ag_ldx (w := (.slice d5 s14.2.1.length s14.2.1.length)) w_0 rfl (ldB_v 2 s17 rfl rfl rfl) (ldB_v 2 s17 rfl rfl rfl) (by simp [vsame, vsame1])) (ag_ldx (w := (.slice d5 s14.2.1.length s14.2.1.length)) w_0 rfl (ldB_v 2 s17 rfl rfl rfl) (ldB_v 2 s20 rfl rfl rfl) (by simp [vsame, vsame1])) dc_nil) ?_
  refine c_sr ?_
  refine o_mv (v := (.slice none 0 0)) rfl ?_
  refine c_nil ?_
  refine c_gen (P := fun tm => tm 2 = (.pointer (some ⟨b1, 0, none⟩)) ∧ tm 3 = (.pointer (some ⟨b2, 0, none⟩)) ∧ tm 4 = (vi (Pu.W (1 + x1.2))) ∧ tm 5 = (vi (Pu.W (1 + x2.2))) ∧ tm 6 = (.pointer (some ⟨b3, 0, none⟩)) ∧ tm 7 = (.slice none 0 0) ∧ tm 21 = (vi (Pu.W (1 + x1.2))) ∧ tm 22 = (vi x4) ∧ True) ⟨h9, h10, h11, h12, h13, rfl, h14, hti0, trivial⟩ ?_
  intro _ i7
  obtain ⟨h16, h17, h18, h19, h20, h21, h22, h23, -⟩ := i7
  refine c_sq ?_
  refine c_sr ?_
  refine o_mv (v := (vi (Pu.W (1 + x2.2)))) h19 ?_
  refine o_mv (v := (vi 0)) rfl ?_
  refine c_nil ?_
  obtain ⟨x9, q15, e1⟩ := Pu.bind_some e1
  obtain ⟨rfl, q17⟩ := ranO_some q15
  obtain ⟨y2, q18, e1⟩ := Pu.bind_some e1
  refine c_bk ?_
  refine l_forP (xs := (Pu.ran (Pu.W (1 + x2.2)))) (fun (i8 : Nat) (s24 : ((List Int) × (List Int))) tm H => tm 33 = vi i8 ∧ ∃ (Z10 V10 : PH) (w10 : Value) (w11 : Value), Gw Z9 V9 Z10 V10 ∧ Sat Z10 V10 H [pts b1 (.rw 0 [(vi 0), (.slice none 0 0), (.slice none 0 0)]), pts b2 (.rw 0 [w11]), pts b3 (.rw 0 [(vi x3.2), (.slice d11 x7.length x7.length), (.slice d6 s14.2.2.length s14.2.2.length)]), It.sl Sh.int (.slice d11 x7.length x7.length) x7, It.sl (Sh.sl Sh.int) (.slice d6 s14.2.2.length s14.2.2.length) s14.2.2, It.sl Sh.int w10 s24.2] ∧ tm 2 = (.pointer (some ⟨b1, 0, none⟩)) ∧ tm 3 = (.pointer (some ⟨b2, 0, none⟩)) ∧ tm 4 = (vi (Pu.W (1 + x1.2))) ∧ tm 5 = (vi (Pu.W (1 + x2.2))) ∧ tm 6 = (.pointer (some ⟨b3, 0, none⟩)) ∧ tm 7 = w10 ∧ tm 21 = (vi (Pu.W (1 + x1.2))) ∧ tm 22 = (vi x4) ∧ tm 32 = (vi (Pu.W (1 + x2.2))) ∧ RdS Sh.int Z10 w11 s24.1) (fun i8 x8 s24 s26 tm H16 q13 q14 j2 e2 k6 => ?_) (fun tm H15 jd => ?_) q18 ⟨rfl, _, _, _, _, Gw.refl _ _, ((s23.push (sl_nil (s := Sh.int))).pick [3, 2, 4, 5, 6, 0] rfl), h16, h17, h18, h19, h20, h21, h22, h23, rfl, h15⟩
  ·obtain ⟨hti1, Z10, V10, w10, w11, g10, s25, h25, h26, h27, h28, h29, h30, h31, h32, h33, h24⟩ := j2
   unfold P.parlmake_Dfa.b1 at e2
   have hti1 := iv hti1 (ran_x q13).symm
   refine c_sr ?_
   refine o_lss hti1 h33 ?_
   refine c_nil ?_
   refine c_sq ?_
   refine c_ift rfl (ran_lt q13) ?_
   refine c_sk ?_
   refine c_sq ?_
   refine c_bk ?_
   refine c_r ?_
   refine o_mv (v := w10) h30 ?_
   refine o_mv (v := (.pointer (some ⟨b2, 0, none⟩))) h26 ?_
   refine o_mv (v := (vi (Pu.W (1 + x1.2)))) h27 ?_
   refine o_add rfl rfl ?_
   obtain ⟨x10, q19, e2⟩ := Pu.bind_some e2
   obtain ⟨d13, rfl⟩ := (h24).val
   obtain ⟨Z11, V11, W5, g11, u5, c17, c18, -, c20, c19⟩ := Sat.call (l1 := [pts b2 (.rw 0 [(.slice d13 s24.1.length s24.1.length)])]) (l2 := [pts b1 (.rw 0 [(vi 0), (.slice none 0 0), (.slice none 0 0)]), pts b3 (.rw 0 [(vi x3.2), (.slice d11 x7.length x7.length), (.slice d6 s14.2.2.length s14.2.2.length)]), It.sl Sh.int (.slice d11 x7.length x7.length) x7, It.sl (Sh.sl Sh.int) (.slice d6 s14.2.2.length s14.2.2.length) s14.2.2, It.sl Sh.int w10 s24.2]) (s25.pick [1, 0, 2, 3, 4, 5] rfl)
   refine o_call (mc rfl (mc rfl m0)) (X.parlmake_stream_next nd.parlmake_stream_next (a0 := (Ty.parlmake_stream.mk s24.1)) c17 (h24.mono g11.z) q19) fun _ H17 i9 => ?_
   obtain ⟨w12, rfl, s27⟩ := i9
   have s28 := c19 _ _ s27
   obtain ⟨Z12, V12, g12, s29, h34⟩ := (s28.pull 1 rfl).frzR
   refine o_sub rfl rfl ?_
   refine o_bsl (s := Sh.int) (us := [(vi (Pu.W (x10.2 - 1)))]) (qs := [(0, 1, (vi (Pu.W (x10.2 - 1))))]) (xs := [(Pu.W (x10.2 - 1))]) s29 Sh.flat_lt rfl rfl rfl (Els.cons (c := [(vi (Pu.W (x10.2 - 1)))]) rfl Els.nil) rfl rfl fun w13 H18 s30 => ?_
   obtain ⟨x11, q20, e2⟩ := Pu.bind_some e2
   refine o_app 6 s30 rfl Sh.flat_lt rfl rfl rfl rfl (s30.curS (s := Sh.int) 0 rfl) (PH.le.refl _) (fun h => h) (by decide) q20 fun w14 H19 s31 => ?_
   refine o_mv (v := w14) rfl ?_
   refine c_nil ?_
   refine c_end ?_
   refine c_r ?_
   refine o_add hti1 rfl ?_
   refine o_mv (v := (vi (Pu.W (x8 + 1)))) rfl ?_
   refine c_nil ?_
   obtain rfl := Option.some.inj e2
   exact k6 _ _ ⟨(iv rfl (w_sucR q13 q17)), _, _, _, _, (g10.trans (g11.trans g12)), (s31.pick [2, 1, 3, 4, 5, 6] rfl), h25, h26, h27, h28, h29, rfl, h31, h32, h33, h34⟩
  obtain ⟨hte1, Z13, V13, w15, w16, g13, s32, h36, h37, h38, h39, h40, h41, h42, h43, h44, h35⟩ := jd
  refine c_sr ?_
  refine o_lss hte1 h44 ?_
  refine c_nil ?_
  refine c_sq ?_
  refine c_iff rfl (ran_done _) ?_
  refine c_ex ?_
  refine e_c ?_
  refine e_c ?_
  refine e_h ?_
  refine c_r ?_
  refine o_fad h40 ?_
  refine o_ldB 2 s32 rfl rfl rfl rfl ?_
  refine o_mv (v := w15) h41 ?_
  have s33 := s32.pull 5 rfl
  refine o_bslH s33 rfl fun w17 H21 s34 => ?_
  obtain ⟨x12, q21, e1⟩ := Pu.bind_some e1
  refine o_appH 4 s34 rfl rfl rfl (by decide) q21 (List.cons_ne_nil _ _) fun w18 H22 s35 => ?_
  refine o_fad h40 ?_
  obtain ⟨d14, rfl⟩ := ((s35.curS (s := (Sh.sl Sh.int)) 4 rfl)).val
  refine o_stB (us' := [(vi x3.2), (.slice d11 x7.length x7.length), (.slice d14 x12.length x12.length)]) 2 s35 rfl rfl rfl rfl rfl rfl rfl fun H23 s36 => ?_
  refine c_nil ?_
  refine c_end ?_
  refine c_r ?_
  refine o_add h43 rfl ?_
  refine o_mv (v := (vi (Pu.W (x4 + 1)))) rfl ?_
  refine c_nil ?_
  obtain rfl := Option.some.inj e1
  exact k1 _ _ ⟨(iv rfl (w_sucR q4 q8)), _, _, _, _, _, (g7.trans (g8.trans (g9.trans g13))), s36, h36, h37, h38, h39, h40, h42, h35⟩
 obtain ⟨hte0, Z14, V14, w19, w20, w21, g14, s37, h46, h47, h48, h49, h50, h51, h45⟩ := jd
 refine c_sr ?_
 refine o_lss hte0 h51 ?_
 refine c_nil ?_
 refine c_sq ?_
 refine c_iff rfl (ran_done _) ?_
 refine c_ex ?_
 refine e_c ?_
 refine e_c ?_
 refine e_h ?_
 refine c_sr ?_
 obtain ⟨d15, rfl⟩ := ((s37.curS (s := Sh.int) 3 rfl)).val
 obtain ⟨d16, rfl⟩ := ((s37.curS (s := (Sh.sl Sh.int)) 4 rfl)).val
 refine o_ldB 2 s37 rfl h50 rfl rfl ?_
 refine o_stB (us' := [(vi x3.2), (.slice d15 y1.2.1.length y1.2.1.length), (.slice d16 y1.2.2.length y1.2.2.length)]) 0 s37 rfl h46 rfl rfl rfl rfl rfl fun H25 s38 => ?_
 refine c_nil ?_
 refine c_rt ?_
 obtain rfl := Option.some.inj e
 exact ⟨.inr rfl, _, (arB 0 s38 rfl h46 rfl rfl), _, _, rfl, ((s38.pick [3, 4] rfl).weak (g1.trans (g2.trans (g3.trans (g4.trans (g5.trans (g6.trans g14)))))) hs.zv)⟩
/-! dfa_Check -/
structure Nd.dfa_Check (T : FuncId → Option AFunc) : Prop where
  own : Has T I.dfa_Check F.dfa_Check
set_option maxHeartbeats 1000000 in
theorem X.dfa_Check {T : FuncId → Option AFunc} (nd : Nd.dfa_Check T) {Z V : PH} {H : Hp} {v1 : Value} {v2 : Value} {a0 : Ty.api_Dfa} (hs : Sat Z V H []) (hp1 : RdS Sh.int V v1 a0.Accept) (hp2 : RdS (Sh.sl Sh.int) V v2 a0.Next) {r : Int} (e : P.dfa_Check a0 = some r) :
    G T I.dfa_Check [(.agg #[(vi a0.Start), v1, v2])] H (fun rv H' => rv = (vi r) ∧ Sat Z V H' []) := by
 unfold P.dfa_Check at e
 refine f_mk nd.own ?_
 refine c_sr ?_
 obtain ⟨d1, rfl⟩ := (hp1).val
 obtain ⟨d2, rfl⟩ := (hp2).val
 refine o_box hs rfl rfl fun b1 H1 s1 => ?_
 refine o_mv (v := (vi 0)) rfl ?_
 refine c_nil ?_
 refine c_sq ?_
 refine c_sr ?_
 refine o_fad rfl ?_
 refine o_ldB 0 s1 rfl rfl rfl rfl ?_
 refine o_len rfl (hp2).len ?_
 refine o_gtr rfl rfl ?_
 refine c_nil ?_
 refine c_ifd rfl (fun q1 => ?_) (fun q1 => ?_)
 ·replace e := if_t q1 e
  refine c_sr ?_
  refine o_mv (v := (vi 2)) rfl ?_
  refine c_nil ?_
  refine c_rt ?_
  obtain rfl := Option.some.inj e
  exact ⟨.inr rfl, _, (ar1 rfl), rfl, (s1.pick [] rfl)⟩
 replace e := if_f q1 e
 refine c_sk ?_
 refine c_sq ?_
 refine c_sr ?_
 refine o_fad rfl ?_
 refine o_ldB 0 s1 rfl rfl rfl rfl ?_
 refine o_len rfl (hp2).len ?_
 refine o_eql rfl rfl ?_
 refine o_mv (v := (.bool (decide ((a0.Next.length : Int) = 0)))) rfl ?_
 refine o_jn 8 (I := fun tm H => tm 26 = .bool ((decide ((a0.Next.length : Int) = 0)) || (decide ((a0.Accept.length : Int) ≠ (a0.Next.length : Int)))) ∧ (∃ (Z1 V1 : PH), Gw Z V Z1 V1 ∧ Sat Z1 V1 H [pts b1 (.rw 0 [(vi a0.Start), (.slice d1 a0.Accept.length a0.Accept.length), (.slice d2 a0.Next.length a0.Next.length)])] ∧ tm 1 = (.pointer (some ⟨b1, 0, none⟩)))) (fun k1 => ?_) ?_
 ·rcases Bool.eq_false_or_eq_true (decide ((a0.Next.length : Int) = 0)) with q2 | q2
  ·refine o_gn rfl q2 ?_
   refine o_gn rfl q2 ?_
   refine o_gn rfl q2 ?_
   refine o_gn rfl q2 ?_
   refine o_gn rfl q2 ?_
   refine o_gn rfl q2 ?_
   refine o_gn rfl q2 ?_
   refine o_pickt (a := (.bool true)) rfl q2 rfl ?_
   exact k1 _ _ ⟨gf rfl (by first | (rw [q2]; first | done | rfl) | simp [q2]), _, _, Gw.refl _ _, s1, rfl⟩
  refine o_gy rfl q2 ?_
  refine o_fad rfl ?_
  refine o_gy rfl q2 ?_
  refine o_ldB 0 s1 rfl rfl rfl rfl ?_
  refine o_gy rfl q2 ?_
  refine o_len rfl (hp1).len ?_
  refine o_gy rfl q2 ?_
  refine o_fad rfl ?_
  refine o_gy rfl q2 ?_
  refine o_ldB 0 s1 rfl rfl rfl rfl ?_
  refine o_gy rfl q2 ?_
  refine o_len rfl (hp2).len ?_
  refine o_gy rfl q2 ?_
  refine o_neq rfl rfl ?_
  refine o_pickf (b := (.bool (decide ((a0.Accept.length : Int) ≠ (a0.Next.length : Int))))) rfl q2 rfl ?_
  exact k1 _ _ ⟨gf rfl (by first | (rw [q2]; first | done | rfl) | simp [q2]), _, _, Gw.refl _ _, s1, rfl⟩
 intro _ H2 i1
 obtain ⟨h2, Z1, V1, g1, s2, h1⟩ := i1
 refine c_nil ?_
 refine c_if h2 (fun q3 => ?_) (fun q3 => ?_)
 ·replace e := if_t q3 e
  refine c_sr ?_
  refine o_mv (v := (vi 3)) rfl ?_
  refine c_nil ?_
  refine c_rt ?_
  obtain rfl := Option.some.inj e
  exact ⟨.inr rfl, _, (ar1 rfl), rfl, ((s2.pick [] rfl).weak g1 hs.zv)⟩
 replace e := ib_f q3 e
 refine c_sk ?_
 refine c_sr ?_
 refine o_fad h1 ?_
 refine o_ldB 0 s2 rfl rfl rfl rfl ?_
 obtain ⟨x1, q4, e⟩ := Pu.bind_some e
 refine o_idx (v := (.slice d2 a0.Next.length a0.Next.length)) rfl rfl (hp2.mono g1.v) rfl q4 fun p1 q5 => ?_
 refine o_lds rfl (hp2.mono g1.v) s2.v q5 q4 fun w1 h3 => ?_
 refine o_len rfl (h3).len ?_
 refine o_mv (v := (vi (x1.length : Int))) rfl ?_
 refine c_nil ?_
 refine c_sq ?_
 refine c_sr ?_
 refine o_mv (v := (vi (x1.length : Int))) rfl ?_
 refine o_gtr rfl rfl ?_
 refine c_nil ?_
 refine c_ifd rfl (fun q6 => ?_) (fun q6 => ?_)
 ·replace e := if_t q6 e
  refine c_sr ?_
  refine o_mv (v := (vi 2)) rfl ?_
  refine c_nil ?_
  refine c_rt ?_
  obtain rfl := Option.some.inj e
  exact ⟨.inr rfl, _, (ar1 rfl), rfl, ((s2.pick [] rfl).weak g1 hs.zv)⟩
 replace e := if_f q6 e
 refine c_sk ?_
 refine c_sq ?_
 refine c_sr ?_
 refine o_fad h1 ?_
 refine o_ldB 0 s2 rfl rfl rfl rfl ?_
 refine o_len rfl ((hp2.mono g1.v)).len ?_
 refine o_mv (v := (vi 0)) rfl ?_
 refine c_nil ?_
 refine c_gen (P := fun tm => tm 1 = (.pointer (some ⟨b1, 0, none⟩)) ∧ tm 3 = (vi (x1.length : Int)) ∧ tm 35 = (.slice d2 a0.Next.length a0.Next.length) ∧ tm 36 = (vi (a0.Next.length : Int)) ∧ tm 37 = (vi 0) ∧ True) ⟨h1, rfl, rfl, rfl, rfl, trivial⟩ ?_
 intro _ i2
 obtain ⟨h4, h5, h6, h7, h8, -⟩ := i2
 obtain ⟨y1, q9, e⟩ := Pu.bind_some e
 refine c_jn (I := fun tm H => ∃ (s5 : Unit), y1 = .out s5 ∧ (∃ (Z3 V3 : PH), Gw Z1 V1 Z3 V3 ∧ Sat Z3 V3 H [pts b1 (.rw 0 [(vi a0.Start), (.slice d1 a0.Accept.length a0.Accept.length), (.slice d2 a0.Next.length a0.Next.length)])] ∧ tm 1 = (.pointer (some ⟨b1, 0, none⟩)) ∧ tm 3 = (vi (x1.length : Int)) ∧ tm 35 = (.slice d2 a0.Next.length a0.Next.length) ∧ tm 36 = (vi (a0.Next.length : Int)))) (fun k5 => ?_) ?_
 ·refine c_bk ?_
  refine l_forL (xs := a0.Next) (fun (i3 : Nat) (s3 : Unit) tm H => tm 37 = vi i3 ∧ ∃ (Z2 V2 : PH), Gw Z1 V1 Z2 V2 ∧ Sat Z2 V2 H [pts b1 (.rw 0 [(vi a0.Start), (.slice d1 a0.Accept.length a0.Accept.length), (.slice d2 a0.Next.length a0.Next.length)])] ∧ tm 1 = (.pointer (some ⟨b1, 0, none⟩)) ∧ tm 3 = (vi (x1.length : Int)) ∧ tm 35 = (.slice d2 a0.Next.length a0.Next.length) ∧ tm 36 = (vi (a0.Next.length : Int))) (fun i3 x2 s3 y2 tm H4 q7 q8 j1 e1 k2 k3 k4 => ?_) (fun s3 tm H3 jf jd => ?_) q9 ⟨h8, _, _, Gw.refl _ _, s2, h4, h5, h6, h7⟩
  ·obtain ⟨hti0, Z2, V2, g2, s4, h9, h10, h11, h12⟩ := j1
   unfold P.dfa_Check.b0 at e1
   refine c_sr ?_
   refine o_lss hti0 h12 ?_
   refine c_nil ?_
   refine c_sq ?_
   refine c_ift rfl (Int.ofNat_lt.2 q8) ?_
   refine c_sk ?_
   refine c_sq ?_
   refine c_bk ?_
   refine c_sr ?_
   refine o_idx (v := (.slice d2 a0.Next.length a0.Next.length)) h11 hti0 (hp2.mono (g1.trans g2).v) rfl (Pu.ix_nat.trans q7) fun p2 q10 => ?_
   refine o_lds rfl (hp2.mono (g1.trans g2).v) s4.v q10 (Pu.ix_nat.trans q7) fun w2 h17 => ?_
   refine o_mv (v := w2) rfl ?_
   refine c_nil ?_
   refine c_sr ?_
   refine o_mv (v := w2) rfl ?_
   refine o_len rfl (h17).len ?_
   refine o_mv (v := (vi (x1.length : Int))) h10 ?_
   refine o_neq rfl rfl ?_
   refine o_mv (v := (.bool (decide ((x2.length : Int) ≠ (x1.length : Int))))) rfl ?_
   refine o_jn 3 (I := fun tm H => tm 48 = .bool ((decide ((x2.length : Int) ≠ (x1.length : Int))) || (decide ((x1.length : Int) = 0))) ∧ (∃ (Z4 V4 : PH), Gw Z2 V2 Z4 V4 ∧ Sat Z4 V4 H [pts b1 (.rw 0 [(vi a0.Start), (.slice d1 a0.Accept.length a0.Accept.length), (.slice d2 a0.Next.length a0.Next.length)])] ∧ tm 1 = (.pointer (some ⟨b1, 0, none⟩)) ∧ tm 3 = (vi (x1.length : Int)) ∧ tm 35 = (.slice d2 a0.Next.length a0.Next.length) ∧ tm 36 = (vi (a0.Next.length : Int)) ∧ tm 37 = (vi (i3 : Int)))) (fun k6 => ?_) ?_
   ·rcases Bool.eq_false_or_eq_true (decide ((x2.length : Int) ≠ (x1.length : Int))) with q11 | q11
    ·refine o_gn rfl q11 ?_
     refine o_gn rfl q11 ?_
     refine o_pickt (a := (.bool true)) rfl q11 rfl ?_
     exact k6 _ _ ⟨gf rfl (by first | (rw [q11]; first | done | rfl) | simp [q11]), _, _, Gw.refl _ _, s4, h9, h10, h11, h12, hti0⟩
    refine o_gy rfl q11 ?_
    refine o_mv (v := (vi (x1.length : Int))) h10 ?_
    refine o_gy rfl q11 ?_
    refine o_eql rfl rfl ?_
    refine o_pickf (b := (.bool (decide ((x1.length : Int) = 0)))) rfl q11 rfl ?_
    exact k6 _ _ ⟨gf rfl (by first | (rw [q11]; first | done | rfl) | simp [q11]), _, _, Gw.refl _ _, s4, h9, h10, h11, h12, hti0⟩
   intro _ H6 i4
   obtain ⟨h23, Z4, V4, g4, s7, h18, h19, h20, h21, h22⟩ := i4
   refine c_nil ?_
   refine c_if h23 (fun q12 => ?_) (fun q12 => ?_)
   ·replace e1 := if_t q12 e1
    refine c_sr ?_
    refine o_mv (v := (vi 3)) rfl ?_
    refine c_nil ?_
    refine c_rt ?_
    have e2 := fin_r (k4 _ (Option.some.inj e1).symm) e
    obtain rfl := Option.some.inj e2
    exact ⟨.inr rfl, _, (ar1 rfl), rfl, ((s7.pick [] rfl).weak (g1.trans (g2.trans g4)) hs.zv)⟩
   replace e1 := ib_f q12 e1
   refine c_sk ?_
   refine c_end ?_
   refine c_r ?_
   refine o_add h22 rfl ?_
   refine o_mv (v := (vi (Pu.W ((i3 : Int) + 1)))) rfl ?_
   refine c_nil ?_
   exact k2 _ _ _ (Option.some.inj e1).symm ⟨(iv rfl (w_suc q8 ((hp2.mono g1.v)).bd)), _, _, (g2.trans g4), s7, h18, h19, h20, h21⟩
  ·obtain ⟨hte0, Z5, V5, g5, s8, h24, h25, h26, h27⟩ := jd
   refine c_sr ?_
   refine o_lss hte0 h27 ?_
   refine c_nil ?_
   refine c_sq ?_
   refine c_iff rfl (Int.lt_irrefl _) ?_
   refine c_ex ?_
   refine e_c ?_
   refine e_c ?_
   refine e_h ?_
   exact k5 _ _ ⟨_, jf, _, _, g5, s8, h24, h25, h26, h27⟩
 intro _ H5 i5
 obtain ⟨s5, f1, Z3, V3, g3, s6, h13, h14, h15, h16⟩ := i5
 replace e := fin_o f1 e
 refine c_sq ?_
 refine c_sr ?_
 refine o_fad h13 ?_
 refine o_ldB 0 s6 rfl rfl rfl rfl ?_
 refine o_lss rfl rfl ?_
 refine o_mv (v := (.bool (decide (a0.Start < 0)))) rfl ?_
 refine o_jn 7 (I := fun tm H => tm 60 = .bool ((decide (a0.Start < 0)) || (decide ((a0.Next.length : Int) ≤ a0.Start))) ∧ (∃ (Z6 V6 : PH), Gw Z3 V3 Z6 V6 ∧ Sat Z6 V6 H [pts b1 (.rw 0 [(vi a0.Start), (.slice d1 a0.Accept.length a0.Accept.length), (.slice d2 a0.Next.length a0.Next.length)])] ∧ tm 1 = (.pointer (some ⟨b1, 0, none⟩)))) (fun k7 => ?_) ?_
 ·rcases Bool.eq_false_or_eq_true (decide (a0.Start < 0)) with q13 | q13
  ·refine o_gn rfl q13 ?_
   refine o_gn rfl q13 ?_
   refine o_gn rfl q13 ?_
   refine o_gn rfl q13 ?_
   refine o_gn rfl q13 ?_
   refine o_gn rfl q13 ?_
   refine o_pickt (a := (.bool true)) rfl q13 rfl ?_
   exact k7 _ _ ⟨gf rfl (by first | (rw [q13]; first | done | rfl) | simp [q13]), _, _, Gw.refl _ _, s6, h13⟩
  refine o_gy rfl q13 ?_
  refine o_fad h13 ?_
  refine o_gy rfl q13 ?_
  refine o_ldB 0 s6 rfl rfl rfl rfl ?_
  refine o_gy rfl q13 ?_
  refine o_fad h13 ?_
  refine o_gy rfl q13 ?_
  refine o_ldB 0 s6 rfl rfl rfl rfl ?_
  refine o_gy rfl q13 ?_
  refine o_len rfl ((hp2.mono (g1.trans g3).v)).len ?_
  refine o_gy rfl q13 ?_
  refine o_geq rfl rfl ?_
  refine o_pickf (b := (.bool (decide ((a0.Next.length : Int) ≤ a0.Start)))) rfl q13 rfl ?_
  exact k7 _ _ ⟨gf rfl (by first | (rw [q13]; first | done | rfl) | simp [q13]), _, _, Gw.refl _ _, s6, h13⟩
 intro _ H8 i6
 obtain ⟨h29, Z6, V6, g6, s9, h28⟩ := i6
 refine c_nil ?_
 refine c_if h29 (fun q14 => ?_) (fun q14 => ?_)
 ·replace e := if_t q14 e
  refine c_sr ?_
  refine o_mv (v := (vi 1)) rfl ?_
  refine c_nil ?_
  refine c_rt ?_
  obtain rfl := Option.some.inj e
  exact ⟨.inr rfl, _, (ar1 rfl), rfl, ((s9.pick [] rfl).weak (g1.trans (g3.trans g6)) hs.zv)⟩
 replace e := ib_f q14 e
 refine c_sk ?_
 refine c_sq ?_
 refine c_sr ?_
 refine o_fad h28 ?_
 refine o_ldB 0 s9 rfl rfl rfl rfl ?_
 refine o_len rfl ((hp2.mono (g1.trans (g3.trans g6)).v)).len ?_
 refine o_mv (v := (vi 0)) rfl ?_
 refine c_nil ?_
 obtain ⟨y3, q17, e⟩ := Pu.bind_some e
 refine c_jn (I := fun tm H => ∃ (s12 : Unit), y3 = .out s12 ∧ (∃ (Z8 V8 : PH), Gw Z6 V6 Z8 V8 ∧ Sat Z8 V8 H [pts b1 (.rw 0 [(vi a0.Start), (.slice d1 a0.Accept.length a0.Accept.length), (.slice d2 a0.Next.length a0.Next.length)])] ∧ tm 1 = (.pointer (some ⟨b1, 0, none⟩)) ∧ tm 62 = (.slice d2 a0.Next.length a0.Next.length) ∧ tm 63 = (vi (a0.Next.length : Int)))) (fun k11 => ?_) ?_
 ·refine c_bk ?_
  refine l_forL (xs := a0.Next) (fun (i7 : Nat) (s10 : Unit) tm H => tm 64 = vi i7 ∧ ∃ (Z7 V7 : PH), Gw Z6 V6 Z7 V7 ∧ Sat Z7 V7 H [pts b1 (.rw 0 [(vi a0.Start), (.slice d1 a0.Accept.length a0.Accept.length), (.slice d2 a0.Next.length a0.Next.length)])] ∧ tm 1 = (.pointer (some ⟨b1, 0, none⟩)) ∧ tm 62 = (.slice d2 a0.Next.length a0.Next.length) ∧ tm 63 = (vi (a0.Next.length : Int))) (fun i7 x3 s10 y4 tm H10 q15 q16 j2 e3 k8 k9 k10 => ?_) (fun s10 tm H9 jf jd => ?_) q17 ⟨rfl, _, _, Gw.refl _ _, s9, h28, rfl, rfl⟩
  ·obtain ⟨hti1, Z7, V7, g7, s11, h30, h31, h32⟩ := j2
   unfold P.dfa_Check.b1 at e3
   refine c_sr ?_
   refine o_lss hti1 h32 ?_
   refine c_nil ?_
   refine c_sq ?_
   refine c_ift rfl (Int.ofNat_lt.2 q16) ?_
   refine c_sk ?_
   refine c_sq ?_
   refine c_bk ?_
   refine c_sr ?_
   refine o_mv (v := (vi (i7 : Int))) hti1 ?_
   refine o_idx (v := (.slice d2 a0.Next.length a0.Next.length)) h31 hti1 (hp2.mono (g1.trans (g3.trans (g6.trans g7))).v) rfl (Pu.ix_nat.trans q15) fun p3 q18 => ?_
   refine o_lds rfl (hp2.mono (g1.trans (g3.trans (g6.trans g7))).v) s11.v q18 (Pu.ix_nat.trans q15) fun w3 h36 => ?_
   refine o_mv (v := (vi (i7 : Int))) rfl ?_
   refine o_mv (v := w3) rfl ?_
   refine c_nil ?_
   refine c_sq ?_
   refine c_sr ?_
   refine o_fad h30 ?_
   refine o_ldB 0 s11 rfl rfl rfl rfl ?_
   refine o_mv (v := (vi (i7 : Int))) rfl ?_
   obtain ⟨x4, q19, e3⟩ := Pu.bind_some e3
   refine o_idx (v := (.slice d1 a0.Accept.length a0.Accept.length)) rfl rfl (hp1.mono (g1.trans (g3.trans (g6.trans g7))).v) rfl q19 fun p4 q20 => ?_
   refine o_ldi rfl (hp1.mono (g1.trans (g3.trans (g6.trans g7))).v) s11.v q20 q19 ?_
   refine o_lss rfl rfl ?_
   refine c_nil ?_
   refine c_gen (P := fun tm => tm 1 = (.pointer (some ⟨b1, 0, none⟩)) ∧ tm 7 = w3 ∧ tm 62 = (.slice d2 a0.Next.length a0.Next.length) ∧ tm 63 = (vi (a0.Next.length : Int)) ∧ tm 64 = (vi (i7 : Int)) ∧ tm 74 = (.bool (decide (x4 < (-1)))) ∧ True) ⟨h30, rfl, h31, h32, hti1, rfl, trivial⟩ ?_
   intro _ i8
   obtain ⟨h37, h38, h39, h40, h41, h42, -⟩ := i8
   refine c_ifd h42 (fun q21 => ?_) (fun q21 => ?_)
   ·replace e3 := if_t q21 e3
    refine c_sr ?_
    refine o_mv (v := (vi 1)) rfl ?_
    refine c_nil ?_
    refine c_rt ?_
    have e4 := fin_r (k10 _ (Option.some.inj e3).symm) e
    obtain rfl := Option.some.inj e4
    exact ⟨.inr rfl, _, (ar1 rfl), rfl, ((s11.pick [] rfl).weak (g1.trans (g3.trans (g6.trans g7))) hs.zv)⟩
   replace e3 := if_f q21 e3
   refine c_sk ?_
   refine c_sr ?_
   refine o_mv (v := w3) h38 ?_
   refine o_len rfl (h36).len ?_
   refine o_mv (v := (vi 0)) rfl ?_
   refine c_nil ?_
   obtain ⟨y5, q24, e3⟩ := Pu.bind_some e3
   refine c_jn (I := fun tm H => ∃ (s16 : Unit), y5 = .out s16 ∧ (∃ (Z10 V10 : PH), Gw Z7 V7 Z10 V10 ∧ Sat Z10 V10 H [pts b1 (.rw 0 [(vi a0.Start), (.slice d1 a0.Accept.length a0.Accept.length), (.slice d2 a0.Next.length a0.Next.length)])] ∧ tm 1 = (.pointer (some ⟨b1, 0, none⟩)) ∧ tm 62 = (.slice d2 a0.Next.length a0.Next.length) ∧ tm 63 = (vi (a0.Next.length : Int)) ∧ tm 64 = (vi (i7 : Int)) ∧ tm 75 = w3 ∧ tm 76 = (vi (x3.length : Int)))) (fun k15 => ?_) ?_
   ·refine c_bk ?_
    refine l_forL (xs := x3) (fun (i9 : Nat) (s14 : Unit) tm H => tm 77 = vi i9 ∧ ∃ (Z9 V9 : PH), Gw Z7 V7 Z9 V9 ∧ Sat Z9 V9 H [pts b1 (.rw 0 [(vi a0.Start), (.slice d1 a0.Accept.length a0.Accept.length), (.slice d2 a0.Next.length a0.Next.length)])] ∧ tm 1 = (.pointer (some ⟨b1, 0, none⟩)) ∧ tm 62 = (.slice d2 a0.Next.length a0.Next.length) ∧ tm 63 = (vi (a0.Next.length : Int)) ∧ tm 64 = (vi (i7 : Int)) ∧ tm 75 = w3 ∧ tm 76 = (vi (x3.length : Int))) (fun i9 x5 s14 y6 tm H13 q22 q23 j3 e5 k12 k13 k14 => ?_) (fun s14 tm H12 jf jd => ?_) q24 ⟨rfl, _, _, Gw.refl _ _, s11, h37, h39, h40, h41, rfl, rfl⟩
    ·obtain ⟨hti2, Z9, V9, g9, s15, h43, h44, h45, h46, h47, h48⟩ := j3
     unfold P.dfa_Check.b2 at e5
     refine c_sr ?_
     refine o_lss hti2 h48 ?_
     refine c_nil ?_
     refine c_sq ?_
     refine c_ift rfl (Int.ofNat_lt.2 q23) ?_
     refine c_sk ?_
     refine c_sq ?_
     refine c_bk ?_
     refine c_sr ?_
     refine o_idx (v := w3) h47 hti2 (h36.mono g9.v) rfl (Pu.ix_nat.trans q22) fun p5 q25 => ?_
     refine o_ldi rfl (h36.mono g9.v) s15.v q25 (Pu.ix_nat.trans q22) ?_
     refine o_mv (v := (vi x5)) rfl ?_
     refine c_nil ?_
     refine c_sr ?_
     refine o_mv (v := (vi x5)) rfl ?_
     refine o_lss rfl rfl ?_
     refine o_mv (v := (.bool (decide (x5 < (-1))))) rfl ?_
     refine o_jn 6 (I := fun tm H => tm 89 = .bool ((decide (x5 < (-1))) || (decide ((a0.Next.length : Int) ≤ x5))) ∧ (∃ (Z11 V11 : PH), Gw Z9 V9 Z11 V11 ∧ Sat Z11 V11 H [pts b1 (.rw 0 [(vi a0.Start), (.slice d1 a0.Accept.length a0.Accept.length), (.slice d2 a0.Next.length a0.Next.length)])] ∧ tm 1 = (.pointer (some ⟨b1, 0, none⟩)) ∧ tm 62 = (.slice d2 a0.Next.length a0.Next.length) ∧ tm 63 = (vi (a0.Next.length : Int)) ∧ tm 64 = (vi (i7 : Int)) ∧ tm 75 = w3 ∧ tm 76 = (vi (x3.length : Int)) ∧ tm 77 = (vi (i9 : Int)))) (fun k16 => ?_) ?_
     ·rcases Bool.eq_false_or_eq_true (decide (x5 < (-1))) with q26 | q26
      ·refine o_gn rfl q26 ?_
       refine o_gn rfl q26 ?_
       refine o_gn rfl q26 ?_
       refine o_gn rfl q26 ?_
       refine o_gn rfl q26 ?_
       refine o_pickt (a := (.bool true)) rfl q26 rfl ?_
       exact k16 _ _ ⟨gf rfl (by first | (rw [q26]; first | done | rfl) | simp [q26]), _, _, Gw.refl _ _, s15, h43, h44, h45, h46, h47, h48, hti2⟩
      refine o_gy rfl q26 ?_
      refine o_mv (v := (vi x5)) rfl ?_
      refine o_gy rfl q26 ?_
      refine o_fad h43 ?_
      refine o_gy rfl q26 ?_
      refine o_ldB 0 s15 rfl rfl rfl rfl ?_
      refine o_gy rfl q26 ?_
      refine o_len rfl ((hp2.mono (g1.trans (g3.trans (g6.trans (g7.trans g9)))).v)).len ?_
      refine o_gy rfl q26 ?_
      refine o_geq rfl rfl ?_
      refine o_pickf (b := (.bool (decide ((a0.Next.length : Int) ≤ x5)))) rfl q26 rfl ?_
      exact k16 _ _ ⟨gf rfl (by first | (rw [q26]; first | done | rfl) | simp [q26]), _, _, Gw.refl _ _, s15, h43, h44, h45, h46, h47, h48, hti2⟩
     intro _ H15 i10
     obtain ⟨h62, Z11, V11, g11, s18, h55, h56, h57, h58, h59, h60, h61⟩ := i10
     refine c_nil ?_
     refine c_if h62 (fun q27 => ?_) (fun q27 => ?_)
     ·replace e5 := if_t q27 e5
      refine c_sr ?_
      refine o_mv (v := (vi 1)) rfl ?_
      refine c_nil ?_
      refine c_rt ?_
      have e6 := fin_r (k14 _ (Option.some.inj e5).symm) e3
      have e7 := fin_r (k10 _ (Option.some.inj e6).symm) e
      obtain rfl := Option.some.inj e7
      exact ⟨.inr rfl, _, (ar1 rfl), rfl, ((s18.pick [] rfl).weak (g1.trans (g3.trans (g6.trans (g7.trans (g9.trans g11))))) hs.zv)⟩
     replace e5 := ib_f q27 e5
     refine c_sk ?_
     refine c_end ?_
     refine c_r ?_
     refine o_add h61 rfl ?_
     refine o_mv (v := (vi (Pu.W ((i9 : Int) + 1)))) rfl ?_
     refine c_nil ?_
     exact k12 _ _ _ (Option.some.inj e5).symm ⟨(iv rfl (w_suc q23 (h36).bd)), _, _, (g9.trans g11), s18, h55, h56, h57, h58, h59, h60⟩
    ·obtain ⟨hte2, Z12, V12, g12, s19, h63, h64, h65, h66, h67, h68⟩ := jd
     refine c_sr ?_
     refine o_lss hte2 h68 ?_
     refine c_nil ?_
     refine c_sq ?_
     refine c_iff rfl (Int.lt_irrefl _) ?_
     refine c_ex ?_
     refine e_c ?_
     refine e_c ?_
     refine e_h ?_
     exact k15 _ _ ⟨_, jf, _, _, g12, s19, h63, h64, h65, h66, h67, h68⟩
   intro _ H14 i11
   obtain ⟨s16, f2, Z10, V10, g10, s17, h49, h50, h51, h52, h53, h54⟩ := i11
   replace e3 := fin_o f2 e3
   refine c_end ?_
   refine c_r ?_
   refine o_add h52 rfl ?_
   refine o_mv (v := (vi (Pu.W ((i7 : Int) + 1)))) rfl ?_
   refine c_nil ?_
   exact k8 _ _ _ (Option.some.inj e3).symm ⟨(iv rfl (w_suc q16 ((hp2.mono (g1.trans (g3.trans g6)).v)).bd)), _, _, (g7.trans g10), s17, h49, h50, h51⟩
  ·obtain ⟨hte1, Z13, V13, g13, s20, h69, h70, h71⟩ := jd
   refine c_sr ?_
   refine o_lss hte1 h71 ?_
   refine c_nil ?_
   refine c_sq ?_
   refine c_iff rfl (Int.lt_irrefl _) ?_
   refine c_ex ?_
   refine e_c ?_
   refine e_c ?_
   refine e_h ?_
   exact k11 _ _ ⟨_, jf, _, _, g13, s20, h69, h70, h71⟩
 intro _ H11 i12
 obtain ⟨s12, f3, Z8, V8, g8, s13, h33, h34, h35⟩ := i12
 replace e := fin_o f3 e
 refine c_sr ?_
 refine o_mv (v := (vi 0)) rfl ?_
 refine c_nil ?_
 refine c_rt ?_
 obtain rfl := Option.some.inj e
 exact ⟨.inr rfl, _, (ar1 rfl), rfl, ((s13.pick [] rfl).weak (g1.trans (g3.trans (g6.trans g8))) hs.zv)⟩
/-! teach_New -/
structure Nd.teach_New (T : FuncId → Option AFunc) : Prop where
  own : Has T I.teach_New F.teach_New
  dfa_Check : Nd.dfa_Check T
set_option maxHeartbeats 1000000 in
theorem X.teach_New {T : FuncId → Option AFunc} (nd : Nd.teach_New T) {Z V : PH} {H : Hp} {v1 : Value} {v2 : Value} {a0 : Ty.api_Dfa} (hs : Sat Z V H []) (hp1 : RdS Sh.int V v1 a0.Accept) (hp2 : RdS (Sh.sl Sh.int) V v2 a0.Next) {r : ((Option Ty.teach_Teacher) × Int)} (e : P.teach_New a0 = some r) :
    G T I.teach_New [(.agg #[(vi a0.Start), v1, v2])] H (fun rv H' => ∃ (o101 : Nat) (u2 : Value) (u3 : Value), rv = (.tuple #[(ov r.1 o101), (vi r.2)]) ∧ Sat Z V H' (oi r.1 (fun y => [pts o101 (.rw 0 [(vi y.d.Start), u2, u3, (vi y.members), (vi y.equal)]), It.sl Sh.int u2 y.d.Accept, It.sl (Sh.sl Sh.int) u3 y.d.Next]))) := by
 unfold P.teach_New at e
 refine f_mk nd.own ?_
 refine c_sr ?_
 obtain ⟨d1, rfl⟩ := (hp1).val
 obtain ⟨d2, rfl⟩ := (hp2).val
 refine o_box hs rfl rfl fun b1 H1 s1 => ?_
 refine o_mv (v := (.pointer none)) rfl ?_
 refine o_mv (v := (vi 0)) rfl ?_
 refine c_nil ?_
 refine c_sq ?_
 refine c_sr ?_
 refine o_ldB 0 s1 rfl rfl rfl rfl ?_
 obtain ⟨x1, q1, e⟩ := Pu.bind_some e
 obtain ⟨Z1, V1, W1, g1, u1, c1, c2, -, c4, c3⟩ := Sat.call (l1 := []) s1
 refine o_call (mc rfl m0) (X.dfa_Check nd.dfa_Check c1 (hp1.mono (g1.v.trans u1)) (hp2.mono (g1.v.trans u1)) q1) fun _ H2 i1 => ?_
 obtain ⟨rfl, s2⟩ := i1
 have s3 := c3 _ _ s2
 refine o_mv (v := (vi x1)) rfl ?_
 refine c_nil ?_
 refine c_sr ?_
 refine o_mv (v := (vi x1)) rfl ?_
 refine o_neq rfl rfl ?_
 refine c_nil ?_
 refine c_ifd rfl (fun q2 => ?_) (fun q2 => ?_)
 ·replace e := if_t q2 e
  refine c_sr ?_
  refine o_mv (v := (vi x1)) rfl ?_
  refine o_mv (v := (.pointer none)) rfl ?_
  refine o_mv (v := (vi x1)) rfl ?_
  refine c_nil ?_
  refine c_gen (P := fun tm => tm 2 = (.pointer none) ∧ tm 3 = (vi x1) ∧ True) ⟨rfl, rfl, trivial⟩ ?_
  intro _ i2
  obtain ⟨h1, h2, -⟩ := i2
  refine c_rt ?_
  obtain rfl := Option.some.inj e
  exact ⟨.inr rfl, _, (ar2 h1 h2), 0, undef, undef, rfl, ((s3.pick [] rfl).weak g1 hs.zv)⟩
 replace e := if_f q2 e
 refine c_sk ?_
 refine c_sq ?_
 refine c_gen (P := fun tm => tm 1 = (.pointer (some ⟨b1, 0, none⟩)) ∧ True) ⟨rfl, trivial⟩ ?_
 intro _ i3
 obtain ⟨h3, -⟩ := i3
 refine d_start s3 fun n1 H3 s4 q3 d3 => ?_
 refine d_fad h3 ?_
 refine d_ldB (q3 _ _ (ph_some.2 ⟨s4.curB 0 rfl, by simp⟩)) 0 s4 rfl rfl rfl rfl ?_
 refine d_fad h3 ?_
 refine d_ldB (q3 _ _ (ph_some.2 ⟨s4.curB 0 rfl, by simp⟩)) 0 s4 rfl rfl rfl rfl ?_
 have s5 := s4.push (sl_nil (s := Sh.int))
 obtain ⟨x2, q4, e⟩ := Pu.bind_some e
 refine d_app 0 s5 rfl Sh.flat_lt rfl rfl rfl rfl (hp1.mono g1.v) s5.v (fun h => h) (by decide) q4 fun w1 H4 s6 k1 => ?_
 have d4 := d3.keep k1
 obtain ⟨d5, rfl⟩ := ((s6.curS (s := Sh.int) 0 rfl)).val
 refine d_bld (qs := [(0, 1, (vi a0.Start)), (1, 1, (.slice d5 x2.length x2.length))]) rfl rfl ?_
 refine d_bld (qs := [(0, 3, (.agg #[(vi a0.Start), (.slice d5 x2.length x2.length), (.slice none 0 0)]))]) rfl rfl ?_
 refine d_box (d4.get 7 rfl rfl) s6 rfl rfl fun b2 H5 s7 k2 => ?_
 have d6 := d4.next 7 rfl k2
 refine d_mv (v := (.pointer (some ⟨b2, 0, none⟩))) rfl ?_
 refine d_nil (dc_mk rfl (tra (tra (tra (tra (tra (tra (tra (tra (tre (trl tr0)))))))))) (tra (tra (tra (tra (tra (tre (trl (trl (trl (trl tr0)))))))))) (tra (tra (tra (tra (tre (trl (trl (trl (trl (trl tr0)))))))))) (ag_ldx (w := (vi a0.Start)) w_0 rfl (ldB_v 0 s4 rfl rfl rfl) (ldB_v 0 s4 rfl rfl rfl) (by simp [vsame, vsame1])) (ag_ldx (w := (vi a0.Start)) w_0 rfl (ldB_v 0 s4 rfl rfl rfl) (ldB_v 1 s6 rfl rfl rfl) (by simp [vsame, vsame1])) dc_nil) ?_
 refine c_sq ?_
 refine c_sr ?_
 refine o_fad h3 ?_
 refine o_ldB 2 s7 rfl rfl rfl rfl ?_
 refine o_len rfl ((hp2.mono g1.v)).len ?_
 refine o_mv (v := (vi 0)) rfl ?_
 refine c_nil ?_
 refine c_gen (P := fun tm => tm 5 = (.pointer (some ⟨b2, 0, none⟩)) ∧ tm 22 = (.slice d2 a0.Next.length a0.Next.length) ∧ tm 23 = (vi (a0.Next.length : Int)) ∧ tm 24 = (vi 0) ∧ True) ⟨rfl, rfl, rfl, rfl, trivial⟩ ?_
 intro _ i4
 obtain ⟨h4, h5, h6, h7, -⟩ := i4
 obtain ⟨y1, q7, e⟩ := Pu.bind_some e
 refine c_bk ?_
 refine l_forP (xs := a0.Next) (fun (i5 : Nat) (s8 : (List (List Int))) tm H => tm 24 = vi i5 ∧ ∃ (Z2 V2 : PH) (w2 : Value), Gw Z1 V1 Z2 V2 ∧ Sat Z2 V2 H [pts b2 (.rw 0 [(vi a0.Start), (.slice d5 x2.length x2.length), w2, (vi 0), (vi 0)]), It.sl Sh.int (.slice d5 x2.length x2.length) x2, It.sl (Sh.sl Sh.int) w2 s8] ∧ tm 5 = (.pointer (some ⟨b2, 0, none⟩)) ∧ tm 22 = (.slice d2 a0.Next.length a0.Next.length) ∧ tm 23 = (vi (a0.Next.length : Int))) (fun i5 x3 s8 s10 tm H7 q5 q6 j1 e1 k3 => ?_) (fun tm H6 jd => ?_) q7 ⟨h7, _, _, _, Gw.refl _ _, ((s7.push (sl_nil (s := (Sh.sl Sh.int)))).pick [1, 2, 0] rfl), h4, h5, h6⟩
 ·obtain ⟨hti0, Z2, V2, w2, g2, s9, h8, h9, h10⟩ := j1
  unfold P.teach_New.b0 at e1
  refine c_sr ?_
  refine o_lss hti0 h10 ?_
  refine c_nil ?_
  refine c_sq ?_
  refine c_ift rfl (Int.ofNat_lt.2 q6) ?_
  refine c_sk ?_
  refine c_sq ?_
  refine c_bk ?_
  refine c_sr ?_
  refine o_idx (v := (.slice d2 a0.Next.length a0.Next.length)) h9 hti0 (hp2.mono (g1.trans g2).v) rfl (Pu.ix_nat.trans q5) fun p1 q8 => ?_
  refine o_lds rfl (hp2.mono (g1.trans g2).v) s9.v q8 (Pu.ix_nat.trans q5) fun w3 h11 => ?_
  refine o_mv (v := w3) rfl ?_
  refine c_nil ?_
  refine d_start s9 fun n2 H8 s11 q9 d7 => ?_
  refine d_mv (v := (.pointer (some ⟨b2, 0, none⟩))) h8 ?_
  refine d_mv (v := (.pointer (some ⟨b2, 0, none⟩))) h8 ?_
  refine d_nck rfl ?_
  refine d_fad rfl ?_
  refine d_fad rfl ?_
  obtain ⟨d8, rfl⟩ := ((s11.curS (s := (Sh.sl Sh.int)) 2 rfl)).val
  refine d_ldB (q9 _ _ (ph_some.2 ⟨s11.curB 0 rfl, by simp⟩)) 0 s11 rfl rfl rfl rfl ?_
  refine d_mv (v := w3) rfl ?_
  have s12 := s11.push (sl_nil (s := Sh.int))
  obtain ⟨x4, q10, e1⟩ := Pu.bind_some e1
  refine d_app 0 s12 rfl Sh.flat_lt rfl rfl rfl rfl h11 s12.v (fun h => h) (by decide) q10 fun w4 H9 s13 k4 => ?_
  have d9 := d7.keep k4
  refine d_bslH (d9.get 8 rfl rfl) s13 rfl fun w5 H10 s14 k5 => ?_
  have d10 := d9.next 8 rfl k5
  obtain ⟨x5, q11, e1⟩ := Pu.bind_some e1
  refine d_appH 2 s14 rfl rfl rfl (by decide) q11 (List.cons_ne_nil _ _) fun w6 H11 s15 k6 => ?_
  have d11 := d10.keep k6
  refine d_nck rfl ?_
  refine d_fad rfl ?_
  refine d_fad rfl ?_
  obtain ⟨d12, rfl⟩ := ((s15.curS (s := (Sh.sl Sh.int)) 2 rfl)).val
  refine d_stB (us' := [(vi a0.Start), (.slice d5 x2.length x2.length), (.slice d12 x5.length x5.length), (vi 0), (vi 0)]) 0 s15 rfl rfl rfl rfl rfl rfl rfl fun H12 s16 k7 => ?_
  have d13 := d11.keep k7
  refine d_nil (dc_mk rfl (tra (tra (tra (tra (tra (tra (tra (tra (tra (tre (trl (trl (trl (trl (trl tr0))))))))))))))) (tra (tra (tra (tra (tra (tra (tra (tre (trl (trl (trl (trl (trl (trl (trl tr0))))))))))))))) (tra (tra (tra (tra (tra (tra (tre (trl (trl (trl (trl (trl (trl (trl (trl tr0))))))))))))))) (ag_ldx (w := (.slice d8 s8.length s8.length)) w_0 rfl (ldB_v 0 s11 rfl rfl rfl) (ldB_v 0 s11 rfl rfl rfl) (by simp [vsame, vsame1])) (ag_ldx (w := (.slice d8 s8.length s8.length)) w_0 rfl (ldB_v 0 s11 rfl rfl rfl) (ldB_v 1 s13 rfl rfl rfl) (by simp [vsame, vsame1])) dc_nil) ?_
  refine c_end ?_
  refine c_r ?_
  refine o_add hti0 rfl ?_
  refine o_mv (v := (vi (Pu.W ((i5 : Int) + 1)))) rfl ?_
  refine c_nil ?_
  obtain rfl := Option.some.inj e1
  exact k3 _ _ ⟨(iv rfl (w_suc q6 ((hp2.mono g1.v)).bd)), _, _, _, g2, s16, h8, h9, h10⟩
 obtain ⟨hte0, Z3, V3, w7, g3, s17, h12, h13, h14⟩ := jd
 refine c_sr ?_
 refine o_lss hte0 h14 ?_
 refine c_nil ?_
 refine c_sq ?_
 refine c_iff rfl (Int.lt_irrefl _) ?_
 refine c_ex ?_
 refine e_c ?_
 refine e_c ?_
 refine e_h ?_
 refine c_sr ?_
 refine o_mv (v := (.pointer (some ⟨b2, 0, none⟩))) h12 ?_
 refine o_mv (v := (.pointer (some ⟨b2, 0, none⟩))) rfl ?_
 refine o_mv (v := (vi 0)) rfl ?_
 refine c_nil ?_
 refine c_rt ?_
 obtain ⟨d14, rfl⟩ := ((s17.curS (s := (Sh.sl Sh.int)) 2 rfl)).val
 obtain rfl := Option.some.inj e
 exact ⟨.inr rfl, _, (ar2 rfl rfl), _, _, _, rfl, (s17.weak (g1.trans g3) hs.zv)⟩
/-! teach_Teacher_Symbols -/
structure Nd.teach_Teacher_Symbols (T : FuncId → Option AFunc) : Prop where
  own : Has T I.teach_Teacher_Symbols F.teach_Teacher_Symbols
set_option maxHeartbeats 1000000 in
theorem X.teach_Teacher_Symbols {T : FuncId → Option AFunc} (nd : Nd.teach_Teacher_Symbols T) {Z V : PH} {H : Hp} {v1 : Value} {v2 : Value} {o1 : Nat} {a0 : Ty.teach_Teacher} (hs : Sat Z V H [pts o1 (.rw 0 [(vi a0.d.Start), v1, v2, (vi a0.members), (vi a0.equal)])]) (hp1 : RdS Sh.int V v1 a0.d.Accept) (hp2 : RdS (Sh.sl Sh.int) V v2 a0.d.Next) {r : Int} (e : P.teach_Teacher_Symbols a0 = some r) :
    G T I.teach_Teacher_Symbols [(.pointer (some ⟨o1, 0, none⟩))] H (fun rv H' => rv = (vi r) ∧ Sat Z V H' [pts o1 (.rw 0 [(vi a0.d.Start), v1, v2, (vi a0.members), (vi a0.equal)])]) := by
 unfold P.teach_Teacher_Symbols at e
 refine f_mk nd.own ?_
 refine c_sr ?_
 refine o_mv (v := (vi 0)) rfl ?_
 refine c_nil ?_
 refine c_sr ?_
 refine o_mv (v := (.pointer (some ⟨o1, 0, none⟩))) rfl ?_
 refine o_nck rfl ?_
 refine o_fad rfl ?_
 refine o_fad rfl ?_
 obtain ⟨d1, rfl⟩ := (hp1).val
 obtain ⟨d2, rfl⟩ := (hp2).val
 refine o_ldB 0 hs rfl rfl rfl rfl ?_
 obtain ⟨x1, q1, e⟩ := Pu.bind_some e
 refine o_idx (v := (.slice d2 a0.d.Next.length a0.d.Next.length)) rfl rfl hp2 rfl q1 fun p1 q2 => ?_
 refine o_lds rfl hp2 hs.v q2 q1 fun w1 h1 => ?_
 refine o_len rfl (h1).len ?_
 refine o_mv (v := (vi (x1.length : Int))) rfl ?_
 refine c_nil ?_
 refine c_gen (P := fun tm => tm 2 = (vi (x1.length : Int)) ∧ True) ⟨rfl, trivial⟩ ?_
 intro _ i1
 obtain ⟨h2, -⟩ := i1
 refine c_rt ?_
 obtain rfl := Option.some.inj e
 exact ⟨.inr rfl, _, (ar1 h2), rfl, hs⟩
/-! parlmake_Word -/
structure Nd.parlmake_Word (T : FuncId → Option AFunc) : Prop where
  own : Has T I.parlmake_Word F.parlmake_Word
  parlmake_Below : Nd.parlmake_Below T
set_option maxHeartbeats 1000000 in
theorem X.parlmake_Word {T : FuncId → Option AFunc} (nd : Nd.parlmake_Word T) {Z V : PH} {H : Hp} {v1 : Value} {a0 : Int} {a1 : Int} {a2 : (List Int)} (hs : Sat Z V H []) (hp1 : RdS Sh.int V v1 a2) {r : (List Int)} (e : P.parlmake_Word a0 a1 a2 = some r) :
    G T I.parlmake_Word [(vi a0), (vi a1), v1] H (fun rv H' => ∃ (u1 : Value), rv = u1 ∧ Sat Z V H' [It.sl Sh.int u1 r]) := by
 unfold P.parlmake_Word at e
 refine f_mk nd.own ?_
 refine c_sr ?_
 refine o_mv (v := (.slice none 0 0)) rfl ?_
 refine c_nil ?_
 refine c_sr ?_
 refine o_mv (v := (.slice none 0 0)) rfl ?_
 refine c_nil ?_
 refine c_sq ?_
 refine c_sr ?_
 refine o_mv (v := v1) rfl ?_
 refine o_len rfl (hp1).len ?_
 refine o_mv (v := (vi 0)) rfl ?_
 refine c_nil ?_
 obtain ⟨y1, q3, e⟩ := Pu.bind_some e
 refine c_jn (I := fun tm H => ∃ (s3 : (List Int)), y1 = .out s3 ∧ (∃ (Z2 V2 : PH) (w2 : Value), Gw Z V Z2 V2 ∧ Sat Z2 V2 H [It.sl Sh.int w2 s3] ∧ tm 0 = (vi a0) ∧ tm 1 = (vi a1) ∧ tm 7 = w2 ∧ tm 10 = v1 ∧ tm 11 = (vi (a2.length : Int)))) (fun k4 => ?_) ?_
 ·refine c_bk ?_
  refine l_forL (xs := a2) (fun (i1 : Nat) (s1 : (List Int)) tm H => tm 12 = vi i1 ∧ ∃ (Z1 V1 : PH) (w1 : Value), Gw Z V Z1 V1 ∧ Sat Z1 V1 H [It.sl Sh.int w1 s1] ∧ tm 0 = (vi a0) ∧ tm 1 = (vi a1) ∧ tm 7 = w1 ∧ tm 10 = v1 ∧ tm 11 = (vi (a2.length : Int))) (fun i1 x1 s1 y2 tm H2 q1 q2 j1 e1 k1 k2 k3 => ?_) (fun s1 tm H1 jf jd => ?_) q3 ⟨rfl, _, _, _, Gw.refl _ _, (hs.push (sl_nil (s := Sh.int))), rfl, rfl, rfl, rfl, rfl⟩
  ·obtain ⟨hti0, Z1, V1, w1, g1, s2, h1, h2, h3, h4, h5⟩ := j1
   unfold P.parlmake_Word.b0 at e1
   refine c_sr ?_
   refine o_lss hti0 h5 ?_
   refine c_nil ?_
   refine c_sq ?_
   refine c_ift rfl (Int.ofNat_lt.2 q2) ?_
   refine c_sk ?_
   refine c_sq ?_
   refine c_bk ?_
   refine c_sr ?_
   refine o_idx (v := v1) h4 hti0 (hp1.mono g1.v) rfl (Pu.ix_nat.trans q1) fun p1 q4 => ?_
   refine o_ldi rfl (hp1.mono g1.v) s2.v q4 (Pu.ix_nat.trans q1) ?_
   refine o_mv (v := (vi x1)) rfl ?_
   refine c_nil ?_
   refine c_sq ?_
   refine c_sr ?_
   refine o_mv (v := w1) h3 ?_
   refine o_len rfl ((s2.curS (s := Sh.int) 0 rfl)).len ?_
   refine o_mv (v := (vi a1)) h2 ?_
   refine o_eql rfl rfl ?_
   refine c_nil ?_
   refine c_ifd rfl (fun q5 => ?_) (fun q5 => ?_)
   ·replace e1 := if_t q5 e1
    refine c_ex ?_
    refine e_c ?_
    refine e_f rfl ?_
    refine e_c ?_
    refine e_c ?_
    refine e_h ?_
    exact k4 _ _ ⟨_, k2 _ (Option.some.inj e1).symm, _, _, _, g1, s2, h1, h2, h3, h4, h5⟩
   replace e1 := if_f q5 e1
   refine c_sk ?_
   refine c_r ?_
   refine o_mv (v := w1) h3 ?_
   refine o_mv (v := (vi x1)) rfl ?_
   refine o_mv (v := (vi a0)) h1 ?_
   obtain ⟨x2, q6, e1⟩ := Pu.bind_some e1
   obtain ⟨Z3, V3, W1, g3, u1, c1, c2, -, c4, c3⟩ := Sat.call (l1 := []) s2
   refine o_call (mc rfl (mc rfl m0)) (X.parlmake_Below nd.parlmake_Below c1 q6) fun _ H4 i2 => ?_
   obtain ⟨rfl, s5⟩ := i2
   have s6 := c3 _ _ s5
   refine o_bsl (s := Sh.int) (us := [(vi x2)]) (qs := [(0, 1, (vi x2))]) (xs := [x2]) s6 Sh.flat_lt rfl rfl rfl (Els.cons (c := [(vi x2)]) rfl Els.nil) rfl rfl fun w3 H5 s7 => ?_
   obtain ⟨x3, q7, e1⟩ := Pu.bind_some e1
   refine o_app 1 s7 rfl Sh.flat_lt rfl rfl rfl rfl (s7.curS (s := Sh.int) 0 rfl) (PH.le.refl _) (fun h => h) (by decide) q7 fun w4 H6 s8 => ?_
   refine o_mv (v := w4) rfl ?_
   refine c_nil ?_
   refine c_end ?_
   refine c_r ?_
   refine o_add hti0 rfl ?_
   refine o_mv (v := (vi (Pu.W ((i1 : Int) + 1)))) rfl ?_
   refine c_nil ?_
   exact k1 _ _ _ (Option.some.inj e1).symm ⟨(iv rfl (w_suc q2 (hp1).bd)), _, _, _, (g1.trans g3), (s8.pick [1] rfl), h1, h2, rfl, h4, h5⟩
  ·obtain ⟨hte0, Z4, V4, w5, g4, s9, h11, h12, h13, h14, h15⟩ := jd
   refine c_sr ?_
   refine o_lss hte0 h15 ?_
   refine c_nil ?_
   refine c_sq ?_
   refine c_iff rfl (Int.lt_irrefl _) ?_
   refine c_ex ?_
   refine e_c ?_
   refine e_c ?_
   refine e_h ?_
   exact k4 _ _ ⟨_, jf, _, _, _, g4, s9, h11, h12, h13, h14, h15⟩
 intro _ H3 i3
 obtain ⟨s3, f1, Z2, V2, w2, g2, s4, h6, h7, h8, h9, h10⟩ := i3
 replace e := fin_o f1 e
 refine c_sr ?_
 refine o_mv (v := w2) h8 ?_
 refine o_mv (v := w2) rfl ?_
 refine c_nil ?_
 refine c_rt ?_
 obtain rfl := Option.some.inj e
 exact ⟨.inr rfl, _, (ar1 rfl), _, rfl, (s4.weak g2 hs.zv)⟩
/-! dfa_Run -/
structure Nd.dfa_Run (T : FuncId → Option AFunc) : Prop where
  own : Has T I.dfa_Run F.dfa_Run
  dfa_Check : Nd.dfa_Check T
set_option maxHeartbeats 1000000 in
theorem X.dfa_Run {T : FuncId → Option AFunc} (nd : Nd.dfa_Run T) {Z V : PH} {H : Hp} {v1 : Value} {v2 : Value} {v3 : Value} {a0 : Ty.api_Dfa} {a1 : (List Int)} (hs : Sat Z V H []) (hp1 : RdS Sh.int V v1 a0.Accept) (hp2 : RdS (Sh.sl Sh.int) V v2 a0.Next) (hp3 : RdS Sh.int V v3 a1) {r : (Int × Int)} (e : P.dfa_Run a0 a1 = some r) :
    G T I.dfa_Run [(.agg #[(vi a0.Start), v1, v2]), v3] H (fun rv H' => rv = (.tuple #[(vi r.1), (vi r.2)]) ∧ Sat Z V H' []) := by
 unfold P.dfa_Run at e
 refine f_mk nd.own ?_
 refine c_sr ?_
 obtain ⟨d1, rfl⟩ := (hp1).val
 obtain ⟨d2, rfl⟩ := (hp2).val
 refine o_box hs rfl rfl fun b1 H1 s1 => ?_
 refine o_mv (v := (vi 0)) rfl ?_
 refine o_mv (v := (vi 0)) rfl ?_
 refine c_nil ?_
 refine c_sq ?_
 refine c_sr ?_
 refine o_ldB 0 s1 rfl rfl rfl rfl ?_
 obtain ⟨x1, q1, e⟩ := Pu.bind_some e
 obtain ⟨Z1, V1, W1, g1, u1, c1, c2, -, c4, c3⟩ := Sat.call (l1 := []) s1
 refine o_call (mc rfl m0) (X.dfa_Check nd.dfa_Check c1 (hp1.mono (g1.v.trans u1)) (hp2.mono (g1.v.trans u1)) q1) fun _ H2 i1 => ?_
 obtain ⟨rfl, s2⟩ := i1
 have s3 := c3 _ _ s2
 refine o_mv (v := (vi x1)) rfl ?_
 refine c_nil ?_
 refine c_sr ?_
 refine o_mv (v := (vi x1)) rfl ?_
 refine o_neq rfl rfl ?_
 refine c_nil ?_
 refine c_ifd rfl (fun q2 => ?_) (fun q2 => ?_)
 ·replace e := if_t q2 e
  refine c_sr ?_
  refine o_mv (v := (vi x1)) rfl ?_
  refine o_mv (v := (vi 0)) rfl ?_
  refine o_mv (v := (vi x1)) rfl ?_
  refine c_nil ?_
  refine c_gen (P := fun tm => tm 4 = (vi 0) ∧ tm 5 = (vi x1) ∧ True) ⟨rfl, rfl, trivial⟩ ?_
  intro _ i2
  obtain ⟨h1, h2, -⟩ := i2
  refine c_rt ?_
  obtain rfl := Option.some.inj e
  exact ⟨.inr rfl, _, (ar2 h1 h2), rfl, ((s3.pick [] rfl).weak g1 hs.zv)⟩
 replace e := if_f q2 e
 refine c_sk ?_
 refine c_sq ?_
 refine c_sr ?_
 refine o_mv (v := v3) rfl ?_
 refine o_len rfl ((hp3.mono g1.v)).len ?_
 refine o_gtr rfl rfl ?_
 refine c_nil ?_
 refine c_gen (P := fun tm => tm 1 = v3 ∧ tm 2 = (.pointer (some ⟨b1, 0, none⟩)) ∧ tm 19 = (.bool (decide (4000 < (a1.length : Int)))) ∧ True) ⟨rfl, rfl, rfl, trivial⟩ ?_
 intro _ i3
 obtain ⟨h3, h4, h5, -⟩ := i3
 refine c_ifd h5 (fun q3 => ?_) (fun q3 => ?_)
 ·replace e := if_t q3 e
  refine c_sr ?_
  refine o_mv (v := (vi 0)) rfl ?_
  refine o_mv (v := (vi 2)) rfl ?_
  refine c_nil ?_
  refine c_rt ?_
  obtain rfl := Option.some.inj e
  exact ⟨.inr rfl, _, (ar2 rfl rfl), rfl, ((s3.pick [] rfl).weak g1 hs.zv)⟩
 replace e := if_f q3 e
 refine c_sk ?_
 refine c_sq ?_
 refine c_sr ?_
 refine o_mv (v := v3) h3 ?_
 refine o_len rfl ((hp3.mono g1.v)).len ?_
 refine o_mv (v := (vi 0)) rfl ?_
 refine c_nil ?_
 obtain ⟨y1, q6, e⟩ := Pu.bind_some e
 refine c_jn (I := fun tm H => ∃ (s6 : Unit), y1 = .out s6 ∧ (∃ (Z3 V3 : PH), Gw Z1 V1 Z3 V3 ∧ Sat Z3 V3 H [pts b1 (.rw 0 [(vi a0.Start), (.slice d1 a0.Accept.length a0.Accept.length), (.slice d2 a0.Next.length a0.Next.length)])] ∧ tm 1 = v3 ∧ tm 2 = (.pointer (some ⟨b1, 0, none⟩)) ∧ tm 20 = v3 ∧ tm 21 = (vi (a1.length : Int)))) (fun k4 => ?_) ?_
 ·refine c_bk ?_
  refine l_forL (xs := a1) (fun (i4 : Nat) (s4 : Unit) tm H => tm 22 = vi i4 ∧ ∃ (Z2 V2 : PH), Gw Z1 V1 Z2 V2 ∧ Sat Z2 V2 H [pts b1 (.rw 0 [(vi a0.Start), (.slice d1 a0.Accept.length a0.Accept.length), (.slice d2 a0.Next.length a0.Next.length)])] ∧ tm 1 = v3 ∧ tm 2 = (.pointer (some ⟨b1, 0, none⟩)) ∧ tm 20 = v3 ∧ tm 21 = (vi (a1.length : Int))) (fun i4 x2 s4 y2 tm H4 q4 q5 j1 e1 k1 k2 k3 => ?_) (fun s4 tm H3 jf jd => ?_) q6 ⟨rfl, _, _, Gw.refl _ _, s3, h3, h4, rfl, rfl⟩
  ·obtain ⟨hti0, Z2, V2, g2, s5, h6, h7, h8, h9⟩ := j1
   unfold P.dfa_Run.b0 at e1
   refine c_sr ?_
   refine o_lss hti0 h9 ?_
   refine c_nil ?_
   refine c_sq ?_
   refine c_ift rfl (Int.ofNat_lt.2 q5) ?_
   refine c_sk ?_
   refine c_sq ?_
   refine c_bk ?_
   refine c_sr ?_
   refine o_idx (v := v3) h8 hti0 (hp3.mono (g1.trans g2).v) rfl (Pu.ix_nat.trans q4) fun p1 q7 => ?_
   refine o_ldi rfl (hp3.mono (g1.trans g2).v) s5.v q7 (Pu.ix_nat.trans q4) ?_
   refine o_mv (v := (vi x2)) rfl ?_
   refine c_nil ?_
   refine c_sr ?_
   refine o_mv (v := (vi x2)) rfl ?_
   refine o_lss rfl rfl ?_
   refine o_mv (v := (.bool (decide (x2 < 0)))) rfl ?_
   obtain ⟨y3, e2, e1⟩ := Pu.bind_some e1
   refine o_jn 8 (I := fun tm H => ∃ (Z4 V4 : PH), Gw Z2 V2 Z4 V4 ∧ Sat Z4 V4 H [pts b1 (.rw 0 [(vi a0.Start), (.slice d1 a0.Accept.length a0.Accept.length), (.slice d2 a0.Next.length a0.Next.length)])] ∧ tm 1 = v3 ∧ tm 2 = (.pointer (some ⟨b1, 0, none⟩)) ∧ tm 20 = v3 ∧ tm 21 = (vi (a1.length : Int)) ∧ tm 22 = (vi (i4 : Int)) ∧ tm 36 = (.bool y3)) (fun k5 => ?_) ?_
   ·rcases Bool.eq_false_or_eq_true (decide (x2 < 0)) with q8 | q8
    ·replace e2 := if_t q8 e2
     refine o_gn rfl q8 ?_
     refine o_gn rfl q8 ?_
     refine o_gn rfl q8 ?_
     refine o_gn rfl q8 ?_
     refine o_gn rfl q8 ?_
     refine o_gn rfl q8 ?_
     refine o_gn rfl q8 ?_
     refine o_pickt (a := (.bool true)) rfl q8 rfl ?_
     obtain rfl := Option.some.inj e2
     exact k5 _ _ ⟨_, _, Gw.refl _ _, s5, h6, h7, h8, h9, hti0, rfl⟩
    replace e2 := ib_f q8 e2
    refine o_gy rfl q8 ?_
    refine o_mv (v := (vi x2)) rfl ?_
    refine o_gy rfl q8 ?_
    refine o_fad h7 ?_
    refine o_gy rfl q8 ?_
    refine o_ldB 0 s5 rfl rfl rfl rfl ?_
    refine o_gy rfl q8 ?_
    obtain ⟨x3, q9, e2⟩ := Pu.bind_some e2
    refine o_idx (v := (.slice d2 a0.Next.length a0.Next.length)) rfl rfl (hp2.mono (g1.trans g2).v) rfl q9 fun p2 q10 => ?_
    refine o_gy rfl q8 ?_
    refine o_lds rfl (hp2.mono (g1.trans g2).v) s5.v q10 q9 fun w1 h20 => ?_
    refine o_gy rfl q8 ?_
    refine o_len rfl (h20).len ?_
    refine o_gy rfl q8 ?_
    refine o_geq rfl rfl ?_
    refine o_pickf (b := (.bool (decide ((x3.length : Int) ≤ x2)))) rfl q8 rfl ?_
    obtain rfl := Option.some.inj e2
    exact k5 _ _ ⟨_, _, Gw.refl _ _, s5, h6, h7, h8, h9, hti0, rfl⟩
   intro _ H6 i5
   obtain ⟨Z4, V4, g4, s8, h14, h15, h16, h17, h18, h19⟩ := i5
   refine c_nil ?_
   refine c_if h19 (fun q11 => ?_) (fun q11 => ?_)
   ·replace e1 := if_t q11 e1
    refine c_sr ?_
    refine o_mv (v := (vi 0)) rfl ?_
    refine o_mv (v := (vi 1)) rfl ?_
    refine c_nil ?_
    refine c_rt ?_
    have e3 := fin_r (k3 _ (Option.some.inj e1).symm) e
    obtain rfl := Option.some.inj e3
    exact ⟨.inr rfl, _, (ar2 rfl rfl), rfl, ((s8.pick [] rfl).weak (g1.trans (g2.trans g4)) hs.zv)⟩
   replace e1 := ib_f q11 e1
   refine c_sk ?_
   refine c_end ?_
   refine c_r ?_
   refine o_add h18 rfl ?_
   refine o_mv (v := (vi (Pu.W ((i4 : Int) + 1)))) rfl ?_
   refine c_nil ?_
   exact k1 _ _ _ (Option.some.inj e1).symm ⟨(iv rfl (w_suc q5 ((hp3.mono g1.v)).bd)), _, _, (g2.trans g4), s8, h14, h15, h16, h17⟩
  ·obtain ⟨hte0, Z5, V5, g5, s9, h21, h22, h23, h24⟩ := jd
   refine c_sr ?_
   refine o_lss hte0 h24 ?_
   refine c_nil ?_
   refine c_sq ?_
   refine c_iff rfl (Int.lt_irrefl _) ?_
   refine c_ex ?_
   refine e_c ?_
   refine e_c ?_
   refine e_h ?_
   exact k4 _ _ ⟨_, jf, _, _, g5, s9, h21, h22, h23, h24⟩
 intro _ H5 i6
 obtain ⟨s6, f1, Z3, V3, g3, s7, h10, h11, h12, h13⟩ := i6
 replace e := fin_o f1 e
 refine c_sr ?_
 refine o_fad h11 ?_
 refine o_ldB 0 s7 rfl rfl rfl rfl ?_
 refine o_mv (v := (vi a0.Start)) rfl ?_
 refine c_nil ?_
 refine c_sq ?_
 refine c_sr ?_
 refine o_mv (v := v3) h10 ?_
 refine o_len rfl ((hp3.mono (g1.trans g3).v)).len ?_
 refine o_mv (v := (vi 0)) rfl ?_
 refine c_nil ?_
 obtain ⟨y4, q14, e⟩ := Pu.bind_some e
 refine c_jn (I := fun tm H => ∃ (s12 : Int), y4 = .out s12 ∧ (∃ (Z7 V7 : PH), Gw Z3 V3 Z7 V7 ∧ Sat Z7 V7 H [pts b1 (.rw 0 [(vi a0.Start), (.slice d1 a0.Accept.length a0.Accept.length), (.slice d2 a0.Next.length a0.Next.length)])] ∧ tm 2 = (.pointer (some ⟨b1, 0, none⟩)) ∧ tm 9 = (vi s12) ∧ tm 40 = v3 ∧ tm 41 = (vi (a1.length : Int)))) (fun k9 => ?_) ?_
 ·refine c_bk ?_
  refine l_forL (xs := a1) (fun (i7 : Nat) (s10 : Int) tm H => tm 42 = vi i7 ∧ ∃ (Z6 V6 : PH), Gw Z3 V3 Z6 V6 ∧ Sat Z6 V6 H [pts b1 (.rw 0 [(vi a0.Start), (.slice d1 a0.Accept.length a0.Accept.length), (.slice d2 a0.Next.length a0.Next.length)])] ∧ tm 2 = (.pointer (some ⟨b1, 0, none⟩)) ∧ tm 9 = (vi s10) ∧ tm 40 = v3 ∧ tm 41 = (vi (a1.length : Int))) (fun i7 x4 s10 y5 tm H9 q12 q13 j2 e4 k6 k7 k8 => ?_) (fun s10 tm H8 jf jd => ?_) q14 ⟨rfl, _, _, Gw.refl _ _, s7, h11, rfl, rfl, rfl⟩
  ·obtain ⟨hti1, Z6, V6, g6, s11, h25, h26, h27, h28⟩ := j2
   unfold P.dfa_Run.b1 at e4
   refine c_sr ?_
   refine o_lss hti1 h28 ?_
   refine c_nil ?_
   refine c_sq ?_
   refine c_ift rfl (Int.ofNat_lt.2 q13) ?_
   refine c_sk ?_
   refine c_sq ?_
   refine c_bk ?_
   refine c_sr ?_
   refine o_idx (v := v3) h27 hti1 (hp3.mono (g1.trans (g3.trans g6)).v) rfl (Pu.ix_nat.trans q12) fun p3 q15 => ?_
   refine o_ldi rfl (hp3.mono (g1.trans (g3.trans g6)).v) s11.v q15 (Pu.ix_nat.trans q12) ?_
   refine o_mv (v := (vi x4)) rfl ?_
   refine c_nil ?_
   refine c_sr ?_
   refine o_fad h25 ?_
   refine o_ldB 0 s11 rfl rfl rfl rfl ?_
   refine o_mv (v := (vi s10)) h26 ?_
   obtain ⟨x5, q16, e4⟩ := Pu.bind_some e4
   refine o_idx (v := (.slice d2 a0.Next.length a0.Next.length)) rfl rfl (hp2.mono (g1.trans (g3.trans g6)).v) rfl q16 fun p4 q17 => ?_
   refine o_lds rfl (hp2.mono (g1.trans (g3.trans g6)).v) s11.v q17 q16 fun w2 h33 => ?_
   refine o_mv (v := (vi x4)) rfl ?_
   obtain ⟨x6, q18, e4⟩ := Pu.bind_some e4
   refine o_idx (v := w2) rfl rfl h33 rfl q18 fun p5 q19 => ?_
   refine o_ldi rfl h33 s11.v q19 q18 ?_
   refine o_mv (v := (vi x6)) rfl ?_
   refine c_nil ?_
   refine c_gen (P := fun tm => tm 2 = (.pointer (some ⟨b1, 0, none⟩)) ∧ tm 9 = (vi x6) ∧ tm 40 = v3 ∧ tm 41 = (vi (a1.length : Int)) ∧ tm 42 = (vi (i7 : Int)) ∧ True) ⟨h25, rfl, h27, h28, hti1, trivial⟩ ?_
   intro _ i8
   obtain ⟨h34, h35, h36, h37, h38, -⟩ := i8
   refine c_sr ?_
   refine o_mv (v := (vi x6)) h35 ?_
   refine o_lss rfl rfl ?_
   refine c_nil ?_
   refine c_ifd rfl (fun q20 => ?_) (fun q20 => ?_)
   ·replace e4 := if_t q20 e4
    refine c_sr ?_
    refine o_mv (v := (vi (-1))) rfl ?_
    refine o_mv (v := (vi 0)) rfl ?_
    refine c_nil ?_
    refine c_rt ?_
    have e5 := fin_r (k8 _ (Option.some.inj e4).symm) e
    obtain rfl := Option.some.inj e5
    exact ⟨.inr rfl, _, (ar2 rfl rfl), rfl, ((s11.pick [] rfl).weak (g1.trans (g3.trans g6)) hs.zv)⟩
   replace e4 := if_f q20 e4
   refine c_sk ?_
   refine c_end ?_
   refine c_r ?_
   refine o_add h38 rfl ?_
   refine o_mv (v := (vi (Pu.W ((i7 : Int) + 1)))) rfl ?_
   refine c_nil ?_
   exact k6 _ _ _ (Option.some.inj e4).symm ⟨(iv rfl (w_suc q13 ((hp3.mono (g1.trans g3).v)).bd)), _, _, g6, s11, h34, h35, h36, h37⟩
  ·obtain ⟨hte1, Z8, V8, g8, s14, h39, h40, h41, h42⟩ := jd
   refine c_sr ?_
   refine o_lss hte1 h42 ?_
   refine c_nil ?_
   refine c_sq ?_
   refine c_iff rfl (Int.lt_irrefl _) ?_
   refine c_ex ?_
   refine e_c ?_
   refine e_c ?_
   refine e_h ?_
   exact k9 _ _ ⟨_, jf, _, _, g8, s14, h39, h40, h41, h42⟩
 intro _ H10 i9
 obtain ⟨s12, f2, Z7, V7, g7, s13, h29, h30, h31, h32⟩ := i9
 replace e := fin_o f2 e
 refine c_sr ?_
 refine o_fad h29 ?_
 refine o_ldB 0 s13 rfl rfl rfl rfl ?_
 refine o_mv (v := (vi s12)) h30 ?_
 obtain ⟨x7, q21, e⟩ := Pu.bind_some e
 refine o_idx (v := (.slice d1 a0.Accept.length a0.Accept.length)) rfl rfl (hp1.mono (g1.trans (g3.trans g7)).v) rfl q21 fun p6 q22 => ?_
 refine o_ldi rfl (hp1.mono (g1.trans (g3.trans g7)).v) s13.v q22 q21 ?_
 refine o_mv (v := (vi x7)) rfl ?_
 refine o_mv (v := (vi 0)) rfl ?_
 refine c_nil ?_
 refine c_rt ?_
 obtain rfl := Option.some.inj e
 exact ⟨.inr rfl, _, (ar2 rfl rfl), rfl, ((s13.pick [] rfl).weak (g1.trans (g3.trans g7)) hs.zv)⟩
/-! parlkeep5_accepts -/
structure Nd.parlkeep5_accepts (T : FuncId → Option AFunc) : Prop where
  own : Has T I.parlkeep5_accepts F.parlkeep5_accepts
  dfa_Run : Nd.dfa_Run T
set_option maxHeartbeats 1000000 in
theorem X.parlkeep5_accepts {T : FuncId → Option AFunc} (nd : Nd.parlkeep5_accepts T) {Z V : PH} {H : Hp} {v1 : Value} {v2 : Value} {v3 : Value} {a0 : Ty.api_Dfa} {a1 : (List Int)} (hs : Sat Z V H []) (hp1 : RdS Sh.int V v1 a0.Accept) (hp2 : RdS (Sh.sl Sh.int) V v2 a0.Next) (hp3 : RdS Sh.int V v3 a1) {r : Bool} (e : P.parlkeep5_accepts a0 a1 = some r) :
    G T I.parlkeep5_accepts [(.agg #[(vi a0.Start), v1, v2]), v3] H (fun rv H' => rv = (.bool r) ∧ Sat Z V H' []) := by
 unfold P.parlkeep5_accepts at e
 refine f_mk nd.own ?_
 refine c_sr ?_
 obtain ⟨d1, rfl⟩ := (hp1).val
 obtain ⟨d2, rfl⟩ := (hp2).val
 refine o_box hs rfl rfl fun b1 H1 s1 => ?_
 refine o_mv (v := (.bool false)) rfl ?_
 refine c_nil ?_
 refine c_sr ?_
 refine o_ldB 0 s1 rfl rfl rfl rfl ?_
 refine o_mv (v := v3) rfl ?_
 obtain ⟨x1, q1, e⟩ := Pu.bind_some e
 obtain ⟨Z1, V1, W1, g1, u1, c1, c2, -, c4, c3⟩ := Sat.call (l1 := []) s1
 refine o_call (mc rfl (mc rfl m0)) (X.dfa_Run nd.dfa_Run c1 (hp1.mono (g1.v.trans u1)) (hp2.mono (g1.v.trans u1)) (hp3.mono (g1.v.trans u1)) q1) fun _ H2 i1 => ?_
 obtain ⟨rfl, s2⟩ := i1
 have s3 := c3 _ _ s2
 refine o_mv (v := (.tuple #[(vi x1.1), (vi x1.2)])) rfl ?_
 refine o_ext rfl rfl ?_
 refine o_ext rfl rfl ?_
 refine o_mv (v := (vi x1.1)) rfl ?_
 refine o_mv (v := (vi x1.2)) rfl ?_
 refine c_nil ?_
 refine c_gen (P := fun tm => tm 5 = (vi x1.1) ∧ tm 6 = (vi x1.2) ∧ True) ⟨rfl, rfl, trivial⟩ ?_
 intro _ i2
 obtain ⟨h1, h2, -⟩ := i2
 refine c_sr ?_
 refine o_mv (v := (vi x1.2)) h2 ?_
 refine o_eql rfl rfl ?_
 refine o_mv (v := (.bool (decide (x1.2 = 0)))) rfl ?_
 refine o_jn 3 (I := fun tm H => tm 18 = .bool ((decide (x1.2 = 0)) && (decide (0 ≤ x1.1))) ∧ (∃ (Z2 V2 : PH), Gw Z1 V1 Z2 V2 ∧ Sat Z2 V2 H [])) (fun k1 => ?_) ?_
 ·rcases Bool.eq_false_or_eq_true (decide (x1.2 = 0)) with q2 | q2
  ·refine o_gy rfl q2 ?_
   refine o_mv (v := (vi x1.1)) h1 ?_
   refine o_gy rfl q2 ?_
   refine o_geq rfl rfl ?_
   refine o_pickt (a := (.bool (decide (0 ≤ x1.1)))) rfl q2 rfl ?_
   exact k1 _ _ ⟨gf rfl (by first | (rw [q2]; first | done | rfl) | simp [q2]), _, _, Gw.refl _ _, (s3.pick [] rfl)⟩
  refine o_gn rfl q2 ?_
  refine o_gn rfl q2 ?_
  refine o_pickf (b := (.bool false)) rfl q2 rfl ?_
  exact k1 _ _ ⟨gf rfl (by first | (rw [q2]; first | done | rfl) | simp [q2]), _, _, Gw.refl _ _, (s3.pick [] rfl)⟩
 intro _ H3 i3
 obtain ⟨h3, Z2, V2, g2, s4⟩ := i3
 refine o_mv (v := (.bool ((decide (x1.2 = 0)) && (decide (0 ≤ x1.1))))) h3 ?_
 refine c_nil ?_
 refine c_rt ?_
 obtain rfl := Option.some.inj e
 exact ⟨.inr rfl, _, (ar1 rfl), rfl, (s4.weak (g1.trans g2) hs.zv)⟩
/-! teach_Teacher_Member -/
structure Nd.teach_Teacher_Member (T : FuncId → Option AFunc) : Prop where
  own : Has T I.teach_Teacher_Member F.teach_Teacher_Member
  dfa_Run : Nd.dfa_Run T
set_option maxHeartbeats 1000000 in
theorem X.teach_Teacher_Member {T : FuncId → Option AFunc} (nd : Nd.teach_Teacher_Member T) {Z V : PH} {H : Hp} {v1 : Value} {v2 : Value} {o1 : Nat} {v3 : Value} {a0 : Ty.teach_Teacher} {a1 : (List Int)} (hs : Sat Z V H [pts o1 (.rw 0 [(vi a0.d.Start), v1, v2, (vi a0.members), (vi a0.equal)])]) (hp1 : RdS Sh.int Z v1 a0.d.Accept) (hp2 : RdS (Sh.sl Sh.int) Z v2 a0.d.Next) (hp3 : RdS Sh.int Z v3 a1) {r : (Ty.teach_Teacher × Bool × Int)} (e : P.teach_Teacher_Member a0 a1 = some r) :
    G T I.teach_Teacher_Member [(.pointer (some ⟨o1, 0, none⟩)), v3] H (fun rv H' => ∃ (u1 : Value) (u2 : Value), rv = (.tuple #[(.bool r.2.1), (vi r.2.2)]) ∧ Sat Z V H' [pts o1 (.rw 0 [(vi r.1.d.Start), u1, u2, (vi r.1.members), (vi r.1.equal)]), Sh.it (Sh.ro (Sh.sl Sh.int)) [u1] r.1.d.Accept, Sh.it (Sh.ro (Sh.sl (Sh.sl Sh.int))) [u2] r.1.d.Next]) := by
 unfold P.teach_Teacher_Member at e
 refine f_mk nd.own ?_
 refine c_sr ?_
 refine o_mv (v := (.bool false)) rfl ?_
 refine o_mv (v := (vi 0)) rfl ?_
 refine c_nil ?_
 refine c_sq ?_
 refine c_sr ?_
 refine o_mv (v := v3) rfl ?_
 refine o_len rfl (hp3).len ?_
 refine o_gtr rfl rfl ?_
 refine c_nil ?_
 refine c_ifd rfl (fun q1 => ?_) (fun q1 => ?_)
 ·replace e := if_t q1 e
  refine c_sr ?_
  refine o_mv (v := (.bool false)) rfl ?_
  refine o_mv (v := (vi 2)) rfl ?_
  refine c_nil ?_
  refine c_rt ?_
  obtain ⟨d1, rfl⟩ := (hp1).val
  obtain ⟨d2, rfl⟩ := (hp2).val
  obtain rfl := Option.some.inj e
  exact ⟨.inr rfl, _, (ar2 rfl rfl), _, _, rfl, (((hs.push (ro_it (sl_ro hp1))).push (ro_it (sl_ro hp2))).pick [2, 1, 0] rfl)⟩
 replace e := if_f q1 e
 refine c_sk ?_
 refine c_sr ?_
 refine o_mv (v := (.pointer (some ⟨o1, 0, none⟩))) rfl ?_
 refine o_nck rfl ?_
 refine o_fad rfl ?_
 obtain ⟨d3, rfl⟩ := (hp1).val
 obtain ⟨d4, rfl⟩ := (hp2).val
 refine o_ldB 0 hs rfl rfl rfl rfl ?_
 refine o_mv (v := v3) rfl ?_
 obtain ⟨x1, q2, e⟩ := Pu.bind_some e
 obtain ⟨Z1, V1, W1, g1, u1, c1, c2, -, c4, c3⟩ := Sat.call (l1 := []) hs
 refine o_call (mc rfl (mc rfl m0)) (X.dfa_Run nd.dfa_Run c1 (hp1.mono (g1.z.trans c1.zv)) (hp2.mono (g1.z.trans c1.zv)) (hp3.mono (g1.z.trans c1.zv)) q2) fun _ H1 i1 => ?_
 obtain ⟨rfl, s1⟩ := i1
 have s2 := c3 _ _ s1
 refine o_mv (v := (.tuple #[(vi x1.1), (vi x1.2)])) rfl ?_
 refine o_ext rfl rfl ?_
 refine o_ext rfl rfl ?_
 refine o_mv (v := (vi x1.1)) rfl ?_
 refine o_mv (v := (vi x1.2)) rfl ?_
 refine c_nil ?_
 refine c_gen (P := fun tm => tm 0 = (.pointer (some ⟨o1, 0, none⟩)) ∧ tm 6 = (vi x1.1) ∧ tm 7 = (vi x1.2) ∧ True) ⟨rfl, rfl, rfl, trivial⟩ ?_
 intro _ i2
 obtain ⟨h1, h2, h3, -⟩ := i2
 refine c_sq ?_
 refine c_sr ?_
 refine o_mv (v := (vi x1.2)) h3 ?_
 refine o_neq rfl rfl ?_
 refine c_nil ?_
 refine c_ifd rfl (fun q3 => ?_) (fun q3 => ?_)
 ·replace e := if_t q3 e
  refine c_sr ?_
  refine o_mv (v := (vi x1.2)) h3 ?_
  refine o_mv (v := (.bool false)) rfl ?_
  refine o_mv (v := (vi x1.2)) rfl ?_
  refine c_nil ?_
  refine c_rt ?_
  obtain rfl := Option.some.inj e
  exact ⟨.inr rfl, _, (ar2 rfl rfl), _, _, rfl, ((((s2.push (ro_it (sl_ro (hp1.mono g1.z)))).push (ro_it (sl_ro (hp2.mono g1.z)))).pick [2, 1, 0] rfl).weak g1 hs.zv)⟩
 replace e := if_f q3 e
 refine c_sk ?_
 refine c_sr ?_
 refine o_mv (v := (.pointer (some ⟨o1, 0, none⟩))) h1 ?_
 refine o_nck rfl ?_
 refine o_fad rfl ?_
 refine o_ldB 0 s2 rfl rfl rfl rfl ?_
 refine o_add rfl rfl ?_
 refine o_nck rfl ?_
 refine o_fad rfl ?_
 refine o_stB (us' := [(vi a0.d.Start), (.slice d3 a0.d.Accept.length a0.d.Accept.length), (.slice d4 a0.d.Next.length a0.d.Next.length), (vi (Pu.W (a0.members + 1))), (vi a0.equal)]) 0 s2 rfl rfl rfl rfl rfl rfl rfl fun H2 s3 => ?_
 refine c_nil ?_
 refine c_sr ?_
 refine o_mv (v := (vi x1.1)) h2 ?_
 refine o_geq rfl rfl ?_
 refine o_mv (v := (.bool (decide (0 ≤ x1.1)))) rfl ?_
 refine o_mv (v := (vi 0)) rfl ?_
 refine c_nil ?_
 refine c_gen (P := fun tm => tm 4 = (.bool (decide (0 ≤ x1.1))) ∧ tm 5 = (vi 0) ∧ True) ⟨rfl, rfl, trivial⟩ ?_
 intro _ i3
 obtain ⟨h4, h5, -⟩ := i3
 refine c_rt ?_
 obtain rfl := Option.some.inj e
 exact ⟨.inr rfl, _, (ar2 h4 h5), _, _, rfl, ((((s3.push (ro_it (sl_ro (hp1.mono g1.z)))).push (ro_it (sl_ro (hp2.mono g1.z)))).pick [2, 1, 0] rfl).weak g1 hs.zv)⟩
/-! teach_Teacher_Asked -/
structure Nd.teach_Teacher_Asked (T : FuncId → Option AFunc) : Prop where
  own : Has T I.teach_Teacher_Asked F.teach_Teacher_Asked
set_option maxHeartbeats 1000000 in
theorem X.teach_Teacher_Asked {T : FuncId → Option AFunc} (nd : Nd.teach_Teacher_Asked T) {Z V : PH} {H : Hp} {v1 : Value} {v2 : Value} {o1 : Nat} {a0 : Ty.teach_Teacher} (hs : Sat Z V H [pts o1 (.rw 0 [(vi a0.d.Start), v1, v2, (vi a0.members), (vi a0.equal)])]) (hp1 : RdS Sh.int V v1 a0.d.Accept) (hp2 : RdS (Sh.sl Sh.int) V v2 a0.d.Next) {r : (Int × Int)} (e : P.teach_Teacher_Asked a0 = some r) :
    G T I.teach_Teacher_Asked [(.pointer (some ⟨o1, 0, none⟩))] H (fun rv H' => rv = (.tuple #[(vi r.1), (vi r.2)]) ∧ Sat Z V H' [pts o1 (.rw 0 [(vi a0.d.Start), v1, v2, (vi a0.members), (vi a0.equal)])]) := by
 unfold P.teach_Teacher_Asked at e
 refine f_mk nd.own ?_
 refine c_sr ?_
 refine o_mv (v := (vi 0)) rfl ?_
 refine o_mv (v := (vi 0)) rfl ?_
 refine c_nil ?_
 refine c_sq ?_
 refine d_start hs fun n1 H1 s1 q1 d1 => ?_
 refine d_mv (v := (.pointer (some ⟨o1, 0, none⟩))) rfl ?_
 refine d_nck rfl ?_
 refine d_fad rfl ?_
 obtain ⟨d2, rfl⟩ := (hp1).val
 obtain ⟨d3, rfl⟩ := (hp2).val
 refine d_ldB (q1 _ _ (ph_some.2 ⟨s1.curB 0 rfl, by simp⟩)) 0 s1 rfl rfl rfl rfl ?_
 refine d_mv (v := (.pointer (some ⟨o1, 0, none⟩))) rfl ?_
 refine d_nck rfl ?_
 refine d_fad rfl ?_
 refine d_ldB (q1 _ _ (ph_some.2 ⟨s1.curB 0 rfl, by simp⟩)) 0 s1 rfl rfl rfl rfl ?_
 refine d_mv (v := (vi a0.members)) rfl ?_
 refine d_mv (v := (vi a0.equal)) rfl ?_
 refine d_nil dc_nil ?_
 refine c_gen (P := fun tm => tm 2 = (vi a0.members) ∧ tm 3 = (vi a0.equal) ∧ True) ⟨rfl, rfl, trivial⟩ ?_
 intro _ i1
 obtain ⟨h1, h2, -⟩ := i1
 refine c_rt ?_
 obtain rfl := Option.some.inj e
 exact ⟨.inr rfl, _, (ar2 h1 h2), rfl, s1⟩
/-! parlkeep5_TeachKeeps -/
structure Nd.parlkeep5_TeachKeeps (T : FuncId → Option AFunc) : Prop where
  own : Has T I.parlkeep5_TeachKeeps F.parlkeep5_TeachKeeps
  parlmake_Dfa : Nd.parlmake_Dfa T
  teach_New : Nd.teach_New T
  teach_Teacher_Symbols : Nd.teach_Teacher_Symbols T
  parlmake_Word : Nd.parlmake_Word T
  parlkeep5_accepts : Nd.parlkeep5_accepts T
  teach_Teacher_Member : Nd.teach_Teacher_Member T
  teach_Teacher_Asked : Nd.teach_Teacher_Asked T
set_option maxHeartbeats 1000000 in
theorem X.parlkeep5_TeachKeeps {T : FuncId → Option AFunc} (nd : Nd.parlkeep5_TeachKeeps T) {Z V : PH} {H : Hp} {v1 : Value} {v2 : Value} {a0 : (List Int)} {a1 : (List Int)} (hs : Sat Z V H []) (hp1 : RdS Sh.int Z v1 a0) (hp2 : RdS Sh.int Z v2 a1) {r : Bool} (e : P.parlkeep5_TeachKeeps a0 a1 = some r) :
    G T I.parlkeep5_TeachKeeps [v1, v2] H (fun rv H' => rv = (.bool r) ∧ Sat Z V H' []) := by
 unfold P.parlkeep5_TeachKeeps at e
 refine f_mk nd.own ?_
 refine c_sr ?_
 refine o_mv (v := (.bool false)) rfl ?_
 refine c_nil ?_
 refine c_sr ?_
 refine o_mv (v := v1) rfl ?_
 obtain ⟨x1, q1, e⟩ := Pu.bind_some e
 obtain ⟨Z1, V1, W1, g1, u1, c1, c2, -, c4, c3⟩ := Sat.call (l1 := []) hs
 refine o_call (mc rfl m0) (X.parlmake_Dfa nd.parlmake_Dfa c1 (hp1.mono g1.z) q1) fun _ H1 i1 => ?_
 obtain ⟨w1, w2, rfl, s1⟩ := i1
 have s2 := c3 _ _ s1
 refine o_new s2 fun b1 H2 s3 => ?_
 obtain ⟨d1, rfl⟩ := ((s3.curS (s := Sh.int) 1 rfl)).val
 obtain ⟨d2, rfl⟩ := ((s3.curS (s := (Sh.sl Sh.int)) 2 rfl)).val
 refine o_stB (us' := [(vi x1.Start), (.slice d1 x1.Accept.length x1.Accept.length), (.slice d2 x1.Next.length x1.Next.length)]) 0 s3 rfl rfl rfl rfl rfl rfl rfl fun H3 s4 => ?_
 refine c_nil ?_
 refine c_sr ?_
 refine o_ldB 0 s4 rfl rfl rfl rfl ?_
 obtain ⟨x2, q2, e⟩ := Pu.bind_some e
 rcases x2 with ⟨_ | y1, x3⟩
 ·rw [Pu.oc2_none] at e
  obtain ⟨Z2, V2, W2, g2, u2, c5, c6, -, c8, c7⟩ := Sat.call (l1 := []) s4
  refine o_call (mc rfl m0) (X.teach_New nd.teach_New c5 (c6 1 _ Sh.int _ _ rfl) (c6 2 _ (Sh.sl Sh.int) _ _ rfl) q2) fun _ H4 i2 => ?_
  dsimp only [ov, oi, List.nil_append, List.append_nil, List.cons_append] at i2
  obtain ⟨b2, u3, u4, rfl, s5⟩ := i2
  have s6 := c7 _ _ s5
  refine o_mv (v := (.tuple #[(.pointer none), (vi x3)])) rfl ?_
  refine o_ext rfl rfl ?_
  refine o_ext rfl rfl ?_
  refine o_mv (v := (.pointer none)) rfl ?_
  refine o_mv (v := (vi x3)) rfl ?_
  refine c_nil ?_
  refine c_gen (P := fun tm => tm 1 = v2 ∧ tm 5 = (.pointer (some ⟨b1, 0, none⟩)) ∧ tm 6 = (.pointer none) ∧ tm 7 = (vi x3) ∧ True) ⟨rfl, rfl, rfl, rfl, trivial⟩ ?_
  intro _ i3
  obtain ⟨h1, h2, h3, h4, -⟩ := i3
  refine c_sq ?_
  refine c_sq ?_
  obtain ⟨y2, e1, e⟩ := Pu.bind_some e
  refine c_jn (I := fun tm H => ∃ (Z3 V3 : PH), Gw Z2 V2 Z3 V3 ∧ Sat Z3 V3 H [pts b1 (.rw 0 [(vi x1.Start), (.slice d1 x1.Accept.length x1.Accept.length), (.slice d2 x1.Next.length x1.Next.length)]), It.sl Sh.int (.slice d1 x1.Accept.length x1.Accept.length) x1.Accept, It.sl (Sh.sl Sh.int) (.slice d2 x1.Next.length x1.Next.length) x1.Next] ∧ tm 1 = v2 ∧ tm 5 = (.pointer (some ⟨b1, 0, none⟩)) ∧ tm 6 = (.pointer none) ∧ tm 37 = (.bool true)) (fun k1 => ?_) ?_
  ·refine d_start s6 fun n1 H6 s8 q3 d3 => ?_
   refine d_mv (v := (vi x3)) h4 ?_
   refine d_neq rfl rfl ?_
   refine d_mv (v := (.bool (decide (x3 ≠ 0)))) rfl ?_
   rcases Bool.eq_false_or_eq_true (decide (x3 ≠ 0)) with q4 | q4
   ·replace e1 := if_t q4 e1
    refine d_gn rfl q4 ?_
    refine d_gn rfl q4 ?_
    refine d_pickt (a := (.bool true)) rfl q4 rfl ?_
    refine d_mv (v := (.bool true)) rfl ?_
    refine d_gn rfl rfl ?_
    refine d_gn rfl rfl ?_
    refine d_gn rfl rfl ?_
    refine d_gn rfl rfl ?_
    refine d_gn rfl rfl ?_
    refine d_gn rfl rfl ?_
    refine d_gn rfl rfl ?_
    refine d_gn rfl rfl ?_
    refine d_pickt (a := (.bool true)) rfl rfl rfl ?_
    refine d_nil (dc_mk rfl (tra (tra (tra (tra (tra (tra (tre (trl (trl (trl (trl (trl (trl (trl (trl (trl (trl tr0))))))))))))))))) (tra (tra (tra (tra (tra (tra (tra (tra (tre (trl (trl (trl (trl (trl (trl (trl (trl tr0))))))))))))))))) (tra (tra (tra (tra (tra (tra (tra (tre (trl (trl (trl (trl (trl (trl (trl (trl (trl tr0))))))))))))))))) (ag_no (w_n rfl rfl)) (ag_no (w_n rfl rfl)) (dc_mk rfl (tra (tra (tra (tra (tre (trl (trl (trl (trl (trl (trl (trl (trl (trl (trl (trl (trl tr0))))))))))))))))) (tra (tra (tra (tra (tra (tra (tra (tra (tre (trl (trl (trl (trl (trl (trl (trl (trl tr0))))))))))))))))) (tra (tra (tra (tra (tra (tra (tra (tre (trl (trl (trl (trl (trl (trl (trl (trl (trl tr0))))))))))))))))) (ag_no (w_n rfl rfl)) (ag_no (w_n rfl rfl)) dc_nil)) ?_
    obtain rfl := Option.some.inj e1
    exact k1 _ _ ⟨_, _, Gw.refl _ _, s8, h1, h2, h3, rfl⟩
   replace e1 := ib_f q4 e1
   refine d_want rfl q4 ?_
   refine d_mv (v := (.pointer none)) h3 ?_
   refine d_want rfl q4 ?_
   refine d_eq (p := true) rfl rfl rfl ?_
   refine d_pickf (b := (.bool true)) rfl q4 rfl ?_
   refine d_mv (v := (.bool true)) rfl ?_
   refine d_gn rfl rfl ?_
   refine d_gn rfl rfl ?_
   refine d_gn rfl rfl ?_
   refine d_gn rfl rfl ?_
   refine d_gn rfl rfl ?_
   refine d_gn rfl rfl ?_
   refine d_gn rfl rfl ?_
   refine d_gn rfl rfl ?_
   refine d_pickt (a := (.bool true)) rfl rfl rfl ?_
   refine d_nil (dc_mk rfl (tra (tra (tra (tra (tra (tra (tre (trl (trl (trl (trl (trl (trl (trl (trl (trl (trl tr0))))))))))))))))) (tra (tra (tra (tra (tra (tra (tra (tra (tre (trl (trl (trl (trl (trl (trl (trl (trl tr0))))))))))))))))) (tra (tra (tra (tra (tra (tra (tra (tre (trl (trl (trl (trl (trl (trl (trl (trl (trl tr0))))))))))))))))) (ag_no (w_n rfl rfl)) (ag_no (w_n rfl rfl)) (dc_mk rfl (tra (tra (tra (tra (tre (trl (trl (trl (trl (trl (trl (trl (trl (trl (trl (trl (trl tr0))))))))))))))))) (tra (tra (tra (tra (tra (tra (tra (tra (tre (trl (trl (trl (trl (trl (trl (trl (trl tr0))))))))))))))))) (tra (tra (tra (tra (tra (tra (tra (tre (trl (trl (trl (trl (trl (trl (trl (trl (trl tr0))))))))))))))))) (ag_no (w_n rfl rfl)) (ag_no (w_n rfl rfl)) dc_nil)) ?_
   obtain rfl := Option.some.inj e1
   exact k1 _ _ ⟨_, _, Gw.refl _ _, s8, h1, h2, h3, rfl⟩
  intro _ H5 i4
  obtain ⟨Z3, V3, g3, s7, h5, h6, h7, h8⟩ := i4
  refine c_bt h8 ?_
  refine c_sr ?_
  refine o_mv (v := (.bool false)) rfl ?_
  refine c_nil ?_
  refine c_rt ?_
  obtain rfl := Option.some.inj e
  exact ⟨.inr rfl, _, (ar1 rfl), rfl, ((s7.pick [] rfl).weak (g1.trans (g2.trans g3)) hs.zv)⟩
 rw [Pu.oc2_some] at e
 obtain ⟨Z4, V4, W3, g4, u5, c9, c10, -, c12, c11⟩ := Sat.call (l1 := []) s4
 refine o_call (mc rfl m0) (X.teach_New nd.teach_New c9 (c10 1 _ Sh.int _ _ rfl) (c10 2 _ (Sh.sl Sh.int) _ _ rfl) q2) fun _ H7 i5 => ?_
 dsimp only [ov, oi, List.nil_append, List.append_nil, List.cons_append] at i5
 obtain ⟨b3, w3, w4, rfl, s9⟩ := i5
 have s10 := c11 _ _ s9
 refine o_mv (v := (.tuple #[(.pointer (some ⟨b3, 0, none⟩)), (vi x3)])) rfl ?_
 refine o_ext rfl rfl ?_
 refine o_ext rfl rfl ?_
 refine o_mv (v := (.pointer (some ⟨b3, 0, none⟩))) rfl ?_
 refine o_mv (v := (vi x3)) rfl ?_
 refine c_nil ?_
 refine c_gen (P := fun tm => tm 1 = v2 ∧ tm 5 = (.pointer (some ⟨b1, 0, none⟩)) ∧ tm 6 = (.pointer (some ⟨b3, 0, none⟩)) ∧ tm 7 = (vi x3) ∧ True) ⟨rfl, rfl, rfl, rfl, trivial⟩ ?_
 intro _ i6
 obtain ⟨h9, h10, h11, h12, -⟩ := i6
 refine c_sq ?_
 refine c_sq ?_
 obtain ⟨y3, e2, e⟩ := Pu.bind_some e
 refine c_jn (I := fun tm H => ∃ (Z5 V5 : PH) (w5 : Value) (w6 : Value), Gw Z4 V4 Z5 V5 ∧ Sat Z5 V5 H [pts b1 (.rw 0 [(vi x1.Start), (.slice d1 x1.Accept.length x1.Accept.length), (.slice d2 x1.Next.length x1.Next.length)]), It.sl Sh.int (.slice d1 x1.Accept.length x1.Accept.length) x1.Accept, It.sl (Sh.sl Sh.int) (.slice d2 x1.Next.length x1.Next.length) x1.Next, pts b3 (.rw 0 [(vi y1.d.Start), w5, w6, (vi y1.members), (vi y1.equal)])] ∧ tm 1 = v2 ∧ tm 5 = (.pointer (some ⟨b1, 0, none⟩)) ∧ tm 6 = (.pointer (some ⟨b3, 0, none⟩)) ∧ tm 37 = (.bool y3) ∧ RdS Sh.int Z5 w5 y1.d.Accept ∧ RdS (Sh.sl Sh.int) Z5 w6 y1.d.Next) (fun k2 => ?_) ?_
 ·refine d_start s10 fun n2 H9 s12 q5 d4 => ?_
  refine d_mv (v := (vi x3)) h12 ?_
  refine d_neq rfl rfl ?_
  refine d_mv (v := (.bool (decide (x3 ≠ 0)))) rfl ?_
  rcases Bool.eq_false_or_eq_true (decide (x3 ≠ 0)) with q6 | q6
  ·replace e2 := if_t q6 e2
   refine d_gn rfl q6 ?_
   refine d_gn rfl q6 ?_
   refine d_pickt (a := (.bool true)) rfl q6 rfl ?_
   refine d_mv (v := (.bool true)) rfl ?_
   refine d_gn rfl rfl ?_
   refine d_gn rfl rfl ?_
   refine d_gn rfl rfl ?_
   refine d_gn rfl rfl ?_
   refine d_gn rfl rfl ?_
   refine d_gn rfl rfl ?_
   refine d_gn rfl rfl ?_
   refine d_gn rfl rfl ?_
   refine d_pickt (a := (.bool true)) rfl rfl rfl ?_
   refine d_nil (dc_mk rfl (tra (tra (tra (tra (tra (tra (tre (trl (trl (trl (trl (trl (trl (trl (trl (trl (trl tr0))))))))))))))))) (tra (tra (tra (tra (tra (tra (tra (tra (tre (trl (trl (trl (trl (trl (trl (trl (trl tr0))))))))))))))))) (tra (tra (tra (tra (tra (tra (tra (tre (trl (trl (trl (trl (trl (trl (trl (trl (trl tr0))))))))))))))))) (ag_no (w_n rfl rfl)) (ag_no (w_n rfl rfl)) (dc_mk rfl (tra (tra (tra (tra (tre (trl (trl (trl (trl (trl (trl (trl (trl (trl (trl (trl (trl tr0))))))))))))))))) (tra (tra (tra (tra (tra (tra (tra (tra (tre (trl (trl (trl (trl (trl (trl (trl (trl tr0))))))))))))))))) (tra (tra (tra (tra (tra (tra (tra (tre (trl (trl (trl (trl (trl (trl (trl (trl (trl tr0))))))))))))))))) (ag_no (w_n rfl rfl)) (ag_no (w_n rfl rfl)) dc_nil)) ?_
   obtain rfl := Option.some.inj e2
   obtain ⟨Z6, V6, g6, s13, h19⟩ := s12.frzS 1 rfl
   obtain ⟨Z7, V7, g7, s14, h20⟩ := s13.frzS 1 rfl
   exact k2 _ _ ⟨_, _, _, _, (g6.trans g7), (s14.pick [1, 2, 3, 0] rfl), h9, h10, h11, rfl, (h19.mono g7.z), h20⟩
  replace e2 := ib_f q6 e2
  refine d_want rfl q6 ?_
  refine d_mv (v := (.pointer (some ⟨b3, 0, none⟩))) h11 ?_
  refine d_want rfl q6 ?_
  refine d_eq (p := false) rfl rfl rfl ?_
  refine d_pickf (b := (.bool false)) rfl q6 rfl ?_
  refine d_mv (v := (.bool false)) rfl ?_
  refine d_want rfl rfl ?_
  refine d_mv (v := (.pointer (some ⟨b3, 0, none⟩))) h11 ?_
  refine d_want rfl rfl ?_
  obtain ⟨Z8, V8, g8, s15, h21⟩ := s12.frzS 1 rfl
  obtain ⟨Z9, V9, g9, s16, h22⟩ := s15.frzS 1 rfl
  obtain ⟨x4, q7, e2⟩ := Pu.bind_some e2
  obtain ⟨d5, rfl⟩ := ((h21.mono g9.z)).val
  obtain ⟨d6, rfl⟩ := (h22).val
  obtain ⟨Z10, V10, W4, g10, u6, c13, c14, -, c16, c15⟩ := Sat.call (l1 := [pts b3 (.rw 0 [(vi y1.d.Start), (.slice d5 y1.d.Accept.length y1.d.Accept.length), (.slice d6 y1.d.Next.length y1.d.Next.length), (vi y1.members), (vi y1.equal)])]) (l2 := [pts b1 (.rw 0 [(vi x1.Start), (.slice d1 x1.Accept.length x1.Accept.length), (.slice d2 x1.Next.length x1.Next.length)]), It.sl Sh.int (.slice d1 x1.Accept.length x1.Accept.length) x1.Accept, It.sl (Sh.sl Sh.int) (.slice d2 x1.Next.length x1.Next.length) x1.Next]) s16
  refine d_call (mc rfl m0) (X.teach_Teacher_Symbols nd.teach_Teacher_Symbols (a0 := y1) c13 (h21.mono ((g9.trans g10).z.trans c13.zv)) (h22.mono (g10.z.trans c13.zv)) q7) fun _ H10 i7 k3 => ?_
  have d7 := d4.keep k3
  obtain ⟨rfl, s17⟩ := i7
  have s18 := c15 _ _ s17
  refine d_want rfl rfl ?_
  refine d_fad h10 ?_
  refine d_want rfl rfl ?_
  refine d_ldB (q5 _ _ (ph_some.2 ⟨s12.curB 3 rfl, by simp⟩)) 1 s18 rfl rfl rfl rfl ?_
  refine d_want rfl rfl ?_
  obtain ⟨x5, q8, e2⟩ := Pu.bind_some e2
  refine d_idx (v := (.slice d2 x1.Next.length x1.Next.length)) rfl rfl (s18.curS (s := (Sh.sl Sh.int)) 3 rfl) rfl q8 fun p1 q9 => ?_
  refine d_want rfl rfl ?_
  refine d_ldsv ((s12.curS 5 rfl).low (PH.le.refl _) q5) rfl (c14 2 _ (Sh.sl Sh.int) _ _ rfl) s17.v q9 q8 fun w7 h23 h24 => ?_
  have h25 := h23.mono s17.v
  refine d_want rfl rfl ?_
  refine d_len rfl (h25).len ?_
  refine d_want rfl rfl ?_
  refine d_neq rfl rfl ?_
  refine d_pickf (b := (.bool (decide (x4 ≠ (x5.length : Int))))) rfl rfl rfl ?_
  refine d_nil (dc_mk rfl (tra (tra (tra (tra (tra (tra (tre (trl (trl (trl (trl (trl (trl (trl (trl (trl (trl tr0))))))))))))))))) (tra (tra (tra (tra (tra (tra (tra (tra (tre (trl (trl (trl (trl (trl (trl (trl (trl tr0))))))))))))))))) (tra (tra (tra (tra (tra (tra (tra (tre (trl (trl (trl (trl (trl (trl (trl (trl (trl tr0))))))))))))))))) (ag_ldx (w := (.slice d2 x1.Next.length x1.Next.length)) (w_y rfl rfl) rfl (ldB_v 1 s18 rfl rfl rfl) (ldB_v 3 s12 rfl rfl rfl) (by simp [vsame, vsame1])) (ag_ldx (w := (.slice d2 x1.Next.length x1.Next.length)) (w_y rfl rfl) rfl (ldB_v 1 s18 rfl rfl rfl) (ldB_v 1 s18 rfl rfl rfl) (by simp [vsame, vsame1])) (dc_mk rfl (tra (tra (tra (tra (tre (trl (trl (trl (trl (trl (trl (trl (trl (trl (trl (trl (trl tr0))))))))))))))))) (tra (tra (tra (tra (tra (tra (tra (tra (tre (trl (trl (trl (trl (trl (trl (trl (trl tr0))))))))))))))))) (tra (tra (tra (tra (tra (tra (tra (tre (trl (trl (trl (trl (trl (trl (trl (trl (trl tr0))))))))))))))))) (ag_ldx (w := w7) (w_y rfl rfl) rfl h24 ((RdS.redo (c14 2 _ (Sh.sl Sh.int) _ _ rfl) s17.v q9 q8 h24).2 _ c13.v) (vs_rd h23)) (ag_ldx (w := w7) (w_y rfl rfl) rfl h24 h24 (vs_rd h23)) dc_nil)) ?_
  obtain rfl := Option.some.inj e2
  exact k2 _ _ ⟨_, _, _, _, (g8.trans (g9.trans g10)), (s18.pick [1, 2, 3, 0] rfl), h9, h10, h11, rfl, (h21.mono (g9.trans g10).z), (h22.mono g10.z)⟩
 intro _ H8 i8
 obtain ⟨Z5, V5, w5, w6, g5, s11, h15, h16, h17, h18, h13, h14⟩ := i8
 refine c_if h18 (fun q10 => ?_) (fun q10 => ?_)
 ·replace e := if_t q10 e
  refine c_sr ?_
  refine o_mv (v := (.bool false)) rfl ?_
  refine c_nil ?_
  refine c_rt ?_
  obtain rfl := Option.some.inj e
  exact ⟨.inr rfl, _, (ar1 rfl), rfl, ((s11.pick [] rfl).weak (g1.trans (g4.trans g5)) hs.zv)⟩
 replace e := ib_f q10 e
 refine c_sk ?_
 refine c_sr ?_
 refine o_mv (v := (.pointer (some ⟨b3, 0, none⟩))) h17 ?_
 obtain ⟨x6, q11, e⟩ := Pu.bind_some e
 obtain ⟨d8, rfl⟩ := (h13).val
 obtain ⟨d9, rfl⟩ := (h14).val
 obtain ⟨Z11, V11, W5, g11, u7, c17, c18, -, c20, c19⟩ := Sat.call (l1 := [pts b3 (.rw 0 [(vi y1.d.Start), (.slice d8 y1.d.Accept.length y1.d.Accept.length), (.slice d9 y1.d.Next.length y1.d.Next.length), (vi y1.members), (vi y1.equal)])]) (l2 := [pts b1 (.rw 0 [(vi x1.Start), (.slice d1 x1.Accept.length x1.Accept.length), (.slice d2 x1.Next.length x1.Next.length)]), It.sl Sh.int (.slice d1 x1.Accept.length x1.Accept.length) x1.Accept, It.sl (Sh.sl Sh.int) (.slice d2 x1.Next.length x1.Next.length) x1.Next]) (s11.pick [3, 0, 1, 2] rfl)
 refine o_call (mc rfl m0) (X.teach_Teacher_Symbols nd.teach_Teacher_Symbols (a0 := y1) c17 (h13.mono (g11.z.trans c17.zv)) (h14.mono (g11.z.trans c17.zv)) q11) fun _ H11 i9 => ?_
 obtain ⟨rfl, s19⟩ := i9
 have s20 := c19 _ _ s19
 refine o_mv (v := v2) h15 ?_
 obtain ⟨x7, q12, e⟩ := Pu.bind_some e
 obtain ⟨Z12, V12, W6, g12, u8, c21, c22, -, c24, c23⟩ := Sat.call (l1 := []) s20
 refine o_call (mc rfl (mc rfl (mc rfl m0))) (X.parlmake_Word nd.parlmake_Word c21 (hp2.mono (((g1.trans (g4.trans (g5.trans g11))).trans g12).z.trans c21.zv)) q12) fun w8 H12 i10 => ?_
 obtain ⟨_, rfl, s21⟩ := i10
 have s22 := c23 _ _ s21
 refine o_mv (v := w8) rfl ?_
 refine c_nil ?_
 refine c_sr ?_
 refine o_ldB 2 s22 rfl h16 rfl rfl ?_
 refine o_mv (v := w8) rfl ?_
 obtain ⟨x8, q13, e⟩ := Pu.bind_some e
 obtain ⟨Z13, V13, W7, g13, u9, c25, c26, -, c28, c27⟩ := Sat.call (l1 := []) s22
 refine o_call (mc rfl (mc rfl m0)) (X.parlkeep5_accepts nd.parlkeep5_accepts c25 (c26 3 _ Sh.int _ _ rfl) (c26 4 _ (Sh.sl Sh.int) _ _ rfl) (c26 0 _ Sh.int _ _ rfl) q13) fun _ H13 i11 => ?_
 obtain ⟨rfl, s23⟩ := i11
 have s24 := c27 _ _ s23
 refine o_mv (v := (.bool x8)) rfl ?_
 refine c_nil ?_
 refine c_sq ?_
 refine c_sr ?_
 refine o_fad h16 ?_
 refine o_ldB 2 s24 rfl rfl rfl rfl ?_
 refine o_len rfl ((s24.curS (s := Sh.int) 3 rfl)).len ?_
 refine o_mv (v := (vi 0)) rfl ?_
 refine c_nil ?_
 refine c_gen (P := fun tm => tm 5 = (.pointer (some ⟨b1, 0, none⟩)) ∧ tm 6 = (.pointer (some ⟨b3, 0, none⟩)) ∧ tm 8 = w8 ∧ tm 9 = (.bool x8) ∧ tm 47 = (vi (x1.Accept.length : Int)) ∧ tm 48 = (vi 0) ∧ True) ⟨h16, h17, rfl, rfl, rfl, rfl, trivial⟩ ?_
 intro _ i12
 obtain ⟨h26, h27, h28, h29, h30, h31, -⟩ := i12
 obtain ⟨x10, q16, e⟩ := Pu.bind_some e
 obtain ⟨rfl, q18⟩ := ranO_some q16
 obtain ⟨y4, q19, e⟩ := Pu.bind_some e
 refine c_bk ?_
 refine l_forP (xs := (Pu.ran (x1.Accept.length : Int))) (fun (i13 : Nat) (s25 : ((List Int) × (List (List Int)))) tm H => tm 48 = vi i13 ∧ ∃ (Z14 V14 : PH), Gw Z13 V13 Z14 V14 ∧ Sat Z14 V14 H [pts b1 (.rw 0 [(vi x1.Start), (.slice d1 x1.Accept.length x1.Accept.length), (.slice d2 x1.Next.length x1.Next.length)]), It.sl Sh.int (.slice d1 x1.Accept.length x1.Accept.length) s25.1, It.sl (Sh.sl Sh.int) (.slice d2 x1.Next.length x1.Next.length) s25.2, pts b3 (.rw 0 [(vi y1.d.Start), (.slice d8 y1.d.Accept.length y1.d.Accept.length), (.slice d9 y1.d.Next.length y1.d.Next.length), (vi y1.members), (vi y1.equal)]), It.sl Sh.int w8 x7] ∧ tm 5 = (.pointer (some ⟨b1, 0, none⟩)) ∧ tm 6 = (.pointer (some ⟨b3, 0, none⟩)) ∧ tm 8 = w8 ∧ tm 9 = (.bool x8) ∧ tm 47 = (vi (x1.Accept.length : Int))) (fun i13 x9 s25 s27 tm H15 q14 q15 j1 e3 k4 => ?_) (fun tm H14 jd => ?_) q19 ⟨h31, _, _, Gw.refl _ _, (s24.pick [2, 3, 4, 1, 0] rfl), h26, h27, h28, h29, h30⟩
 ·obtain ⟨hti0, Z14, V14, g14, s26, h32, h33, h34, h35, h36⟩ := j1
  unfold P.parlkeep5_TeachKeeps.b0 at e3
  have hti0 := iv hti0 (ran_x q14).symm
  refine c_sr ?_
  refine o_lss hti0 h36 ?_
  refine c_nil ?_
  refine c_sq ?_
  refine c_ift rfl (ran_lt q14) ?_
  refine c_sk ?_
  refine c_sq ?_
  refine c_bk ?_
  refine c_sr ?_
  refine o_mv (v := (vi x9)) hti0 ?_
  refine o_mv (v := (vi x9)) rfl ?_
  refine c_nil ?_
  refine c_sq ?_
  refine d_start s26 fun n3 H16 s28 q20 d10 => ?_
  refine d_fad h32 ?_
  refine d_ldB (q20 _ _ (ph_some.2 ⟨s28.curB 0 rfl, by simp⟩)) 0 s28 rfl rfl rfl rfl ?_
  refine d_mv (v := (vi x9)) rfl ?_
  refine d_fad h32 ?_
  refine d_ldB (q20 _ _ (ph_some.2 ⟨s28.curB 0 rfl, by simp⟩)) 0 s28 rfl rfl rfl rfl ?_
  refine d_mv (v := (vi x9)) rfl ?_
  obtain ⟨x11, q21, e3⟩ := Pu.bind_some e3
  refine d_idx (v := (.slice d1 x1.Accept.length x1.Accept.length)) rfl rfl (s28.curS (s := Sh.int) 1 rfl) rfl q21 fun p2 q22 => ?_
  refine d_ldi ((s28.curS 1 rfl).low (PH.le.refl _) q20) rfl (s28.curS (s := Sh.int) 1 rfl) (PH.le.refl _) q22 q21 ?_
  have h37 := vl_ik (s28.curS (s := Sh.int) 1 rfl) (PH.le.refl _) q22 q21
  refine d_sub rfl rfl ?_
  obtain ⟨x12, q23, e3⟩ := Pu.bind_some e3
  refine d_idx (v := (.slice d1 x1.Accept.length x1.Accept.length)) rfl rfl (s28.curS (s := Sh.int) 1 rfl) rfl q23 fun p3 q24 => ?_
  refine d_st 1 s28 rfl Sh.flat_lt rfl rfl rfl q24 q23 rfl rfl fun H17 s29 k5 => ?_
  have d11 := d10.keep k5
  refine d_nil dc_nil ?_
  refine c_gen (P := fun tm => tm 5 = (.pointer (some ⟨b1, 0, none⟩)) ∧ tm 6 = (.pointer (some ⟨b3, 0, none⟩)) ∧ tm 8 = w8 ∧ tm 9 = (.bool x8) ∧ tm 10 = (vi x9) ∧ tm 47 = (vi (x1.Accept.length : Int)) ∧ tm 48 = (vi x9) ∧ True) ⟨h32, h33, h34, h35, rfl, h36, hti0, trivial⟩ ?_
  intro _ i14
  obtain ⟨h38, h39, h40, h41, h42, h43, h44, -⟩ := i14
  refine c_r ?_
  refine o_fad h38 ?_
  refine o_ldB 0 s29 rfl rfl rfl rfl ?_
  refine o_mv (v := (vi x9)) h42 ?_
  obtain ⟨x13, q25, e3⟩ := Pu.bind_some e3
  refine o_idx (v := (.slice d2 x1.Next.length x1.Next.length)) rfl rfl (s29.curS (s := (Sh.sl Sh.int)) 2 rfl) rfl q25 fun p4 q26 => ?_
  refine o_foc 2 s29 rfl rfl q26 q25 fun w9 s30 => ?_
  refine o_clr 0 s30 rfl Sh.flat_lt rfl rfl rfl fun H18 s31 => ?_
  have s32 := Sat.unfoc 2 rfl s31
  refine c_nil ?_
  refine c_end ?_
  refine c_r ?_
  refine o_add h44 rfl ?_
  refine o_mv (v := (vi (Pu.W (x9 + 1)))) rfl ?_
  refine c_nil ?_
  obtain rfl := Option.some.inj e3
  exact k4 _ _ ⟨(iv rfl (w_sucR q14 q18)), _, _, g14, s32, h38, h39, h40, h41, h43⟩
 obtain ⟨hte0, Z15, V15, g15, s33, h45, h46, h47, h48, h49⟩ := jd
 refine c_sr ?_
 refine o_lss hte0 h49 ?_
 refine c_nil ?_
 refine c_sq ?_
 refine c_iff rfl (ran_done _) ?_
 refine c_ex ?_
 refine e_c ?_
 refine e_c ?_
 refine e_h ?_
 refine c_sr ?_
 refine o_mv (v := (.pointer (some ⟨b3, 0, none⟩))) h46 ?_
 refine o_mv (v := w8) h47 ?_
 obtain ⟨Z16, V16, g16, s34, h50⟩ := s33.frzS 4 rfl
 obtain ⟨x14, q27, e⟩ := Pu.bind_some e
 obtain ⟨Z17, V17, W8, g17, u10, c29, c30, -, c32, c31⟩ := Sat.call (l1 := [pts b3 (.rw 0 [(vi y1.d.Start), (.slice d8 y1.d.Accept.length y1.d.Accept.length), (.slice d9 y1.d.Next.length y1.d.Next.length), (vi y1.members), (vi y1.equal)])]) (l2 := [pts b1 (.rw 0 [(vi x1.Start), (.slice d1 x1.Accept.length x1.Accept.length), (.slice d2 x1.Next.length x1.Next.length)]), It.sl Sh.int (.slice d1 x1.Accept.length x1.Accept.length) y4.1, It.sl (Sh.sl Sh.int) (.slice d2 x1.Next.length x1.Next.length) y4.2]) (s34.pick [3, 0, 1, 2] rfl)
 refine o_call (mc rfl (mc rfl m0)) (X.teach_Teacher_Member nd.teach_Teacher_Member (a0 := y1) c29 (h13.mono ((g11.trans (g12.trans (g13.trans (g15.trans g16)))).trans g17).z) (h14.mono ((g11.trans (g12.trans (g13.trans (g15.trans g16)))).trans g17).z) (h50.mono g17.z) q27) fun _ H20 i15 => ?_
 obtain ⟨w10, w11, rfl, s35⟩ := i15
 have s36 := c31 _ _ s35
 obtain ⟨Z18, V18, g18, s37, h51⟩ := (s36.pull 1 rfl).frzR
 obtain ⟨Z19, V19, g19, s38, h52⟩ := (s37.pull 1 rfl).frzR
 refine o_mv (v := (.tuple #[(.bool x14.2.1), (vi x14.2.2)])) rfl ?_
 refine o_ext rfl rfl ?_
 refine o_ext rfl rfl ?_
 refine o_mv (v := (.bool x14.2.1)) rfl ?_
 refine o_mv (v := (vi x14.2.2)) rfl ?_
 refine c_nil ?_
 refine c_sr ?_
 refine o_mv (v := (.pointer (some ⟨b3, 0, none⟩))) h46 ?_
 obtain ⟨x15, q28, e⟩ := Pu.bind_some e
 obtain ⟨d12, rfl⟩ := ((h51.mono g19.z)).val
 obtain ⟨d13, rfl⟩ := (h52).val
 obtain ⟨Z20, V20, W9, g20, u11, c33, c34, -, c36, c35⟩ := Sat.call (l1 := [pts b3 (.rw 0 [(vi x14.1.d.Start), (.slice d12 x14.1.d.Accept.length x14.1.d.Accept.length), (.slice d13 x14.1.d.Next.length x14.1.d.Next.length), (vi x14.1.members), (vi x14.1.equal)])]) (l2 := [pts b1 (.rw 0 [(vi x1.Start), (.slice d1 x1.Accept.length x1.Accept.length), (.slice d2 x1.Next.length x1.Next.length)]), It.sl Sh.int (.slice d1 x1.Accept.length x1.Accept.length) y4.1, It.sl (Sh.sl Sh.int) (.slice d2 x1.Next.length x1.Next.length) y4.2]) s38
 refine o_call (mc rfl m0) (X.teach_Teacher_Asked nd.teach_Teacher_Asked (a0 := x14.1) c33 (h51.mono ((g19.trans g20).z.trans c33.zv)) (h52.mono (g20.z.trans c33.zv)) q28) fun _ H21 i16 => ?_
 obtain ⟨rfl, s39⟩ := i16
 have s40 := c35 _ _ s39
 refine o_mv (v := (.tuple #[(vi x15.1), (vi x15.2)])) rfl ?_
 refine o_ext rfl rfl ?_
 refine o_ext rfl rfl ?_
 refine o_mv (v := (vi x15.1)) rfl ?_
 refine o_mv (v := (vi x15.2)) rfl ?_
 refine c_nil ?_
 refine c_gen (P := fun tm => tm 9 = (.bool x8) ∧ tm 11 = (.bool x14.2.1) ∧ tm 12 = (vi x14.2.2) ∧ tm 13 = (vi x15.1) ∧ tm 14 = (vi x15.2) ∧ True) ⟨h48, rfl, rfl, rfl, rfl, trivial⟩ ?_
 intro _ i17
 obtain ⟨h53, h54, h55, h56, h57, -⟩ := i17
 refine c_sr ?_
 refine o_mv (v := (vi x14.2.2)) h55 ?_
 refine o_eql rfl rfl ?_
 refine o_mv (v := (.bool (decide (x14.2.2 = 0)))) rfl ?_
 refine o_jn 4 (I := fun tm H => tm 84 = .bool ((decide (x14.2.2 = 0)) && (x8 == x14.2.1)) ∧ (∃ (Z21 V21 : PH), Gw Z20 V20 Z21 V21 ∧ Sat Z21 V21 H [] ∧ tm 13 = (vi x15.1) ∧ tm 14 = (vi x15.2))) (fun k6 => ?_) ?_
 ·rcases Bool.eq_false_or_eq_true (decide (x14.2.2 = 0)) with q29 | q29
  ·refine o_gy rfl q29 ?_
   refine o_mv (v := (.bool x8)) h53 ?_
   refine o_gy rfl q29 ?_
   refine o_mv (v := (.bool x14.2.1)) h54 ?_
   refine o_gy rfl q29 ?_
   refine o_eq (q_bool _ _) rfl rfl ?_
   refine o_pickt (a := (.bool (x8 == x14.2.1))) rfl q29 rfl ?_
   exact k6 _ _ ⟨gf rfl (by first | (rw [q29]; first | done | rfl) | simp [q29]), _, _, Gw.refl _ _, (s40.pick [] rfl), h56, h57⟩
  refine o_gn rfl q29 ?_
  refine o_gn rfl q29 ?_
  refine o_gn rfl q29 ?_
  refine o_pickf (b := (.bool false)) rfl q29 rfl ?_
  exact k6 _ _ ⟨gf rfl (by first | (rw [q29]; first | done | rfl) | simp [q29]), _, _, Gw.refl _ _, (s40.pick [] rfl), h56, h57⟩
 intro _ H22 i18
 obtain ⟨h60, Z21, V21, g21, s41, h58, h59⟩ := i18
 refine o_mv (v := (.bool ((decide (x14.2.2 = 0)) && (x8 == x14.2.1)))) h60 ?_
 refine o_jn 3 (I := fun tm H => tm 88 = .bool (((decide (x14.2.2 = 0)) && (x8 == x14.2.1)) && (decide (x15.1 = 1))) ∧ (∃ (Z22 V22 : PH), Gw Z21 V21 Z22 V22 ∧ Sat Z22 V22 H [] ∧ tm 14 = (vi x15.2))) (fun k7 => ?_) ?_
 ·rcases Bool.eq_false_or_eq_true ((decide (x14.2.2 = 0)) && (x8 == x14.2.1)) with q30 | q30
  ·refine o_gy rfl q30 ?_
   refine o_mv (v := (vi x15.1)) h58 ?_
   refine o_gy rfl q30 ?_
   refine o_eql rfl rfl ?_
   refine o_pickt (a := (.bool (decide (x15.1 = 1)))) rfl q30 rfl ?_
   exact k7 _ _ ⟨gf rfl (by first | (rw [q30]; first | done | rfl) | simp [q30]), _, _, Gw.refl _ _, s41, h59⟩
  refine o_gn rfl q30 ?_
  refine o_gn rfl q30 ?_
  refine o_pickf (b := (.bool false)) rfl q30 rfl ?_
  exact k7 _ _ ⟨gf rfl (by first | (rw [q30]; first | done | rfl) | simp [q30]), _, _, Gw.refl _ _, s41, h59⟩
 intro _ H23 i19
 obtain ⟨h62, Z22, V22, g22, s42, h61⟩ := i19
 refine o_mv (v := (.bool (((decide (x14.2.2 = 0)) && (x8 == x14.2.1)) && (decide (x15.1 = 1))))) h62 ?_
 refine o_jn 3 (I := fun tm H => tm 92 = .bool ((((decide (x14.2.2 = 0)) && (x8 == x14.2.1)) && (decide (x15.1 = 1))) && (decide (x15.2 = 0))) ∧ (∃ (Z23 V23 : PH), Gw Z22 V22 Z23 V23 ∧ Sat Z23 V23 H [])) (fun k8 => ?_) ?_
 ·rcases Bool.eq_false_or_eq_true (((decide (x14.2.2 = 0)) && (x8 == x14.2.1)) && (decide (x15.1 = 1))) with q31 | q31
  ·refine o_gy rfl q31 ?_
   refine o_mv (v := (vi x15.2)) h61 ?_
   refine o_gy rfl q31 ?_
   refine o_eql rfl rfl ?_
   refine o_pickt (a := (.bool (decide (x15.2 = 0)))) rfl q31 rfl ?_
   exact k8 _ _ ⟨gf rfl (by first | (rw [q31]; first | done | rfl) | simp [q31]), _, _, Gw.refl _ _, s42⟩
  refine o_gn rfl q31 ?_
  refine o_gn rfl q31 ?_
  refine o_pickf (b := (.bool false)) rfl q31 rfl ?_
  exact k8 _ _ ⟨gf rfl (by first | (rw [q31]; first | done | rfl) | simp [q31]), _, _, Gw.refl _ _, s42⟩
 intro _ H24 i20
 obtain ⟨h63, Z23, V23, g23, s43⟩ := i20
 refine o_mv (v := (.bool ((((decide (x14.2.2 = 0)) && (x8 == x14.2.1)) && (decide (x15.1 = 1))) && (decide (x15.2 = 0))))) h63 ?_
 refine c_nil ?_
 refine c_rt ?_
 obtain rfl := Option.some.inj e
 exact ⟨.inr rfl, _, (ar1 rfl), rfl, (s43.weak (g1.trans (g4.trans (g5.trans (g11.trans (g12.trans (g13.trans (g15.trans (g16.trans (g17.trans (g18.trans (g19.trans (g20.trans (g21.trans (g22.trans g23)))))))))))))) hs.zv)⟩
end Go.Proofs.Ytbehlbabgomhfaa
