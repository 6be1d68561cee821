/- The abstract code comes to the plain functions: printed by wip/tools/lift.py. -/
import Derived.Test.YthgdobdhdfjhfaaP
import Derived.Test.YthgdobdhdfjhfaaGcmp
import Derived.Test.YthgdobdhdfjhfaaGgram
import Derived.Test.YthgdobdhdfjhfaaGparlkeep5
import Derived.Test.YthgdobdhdfjhfaaGparlmake
import Derived.Test.YthgdobdhdfjhfaaGshrink
import Derived.Test.YthgdobdhdfjhfaaGslices
import Derived.Test.YthgdobdhdfjhfaaGtree
namespace Go.Proofs.Ythgdobdhdfjhfaa
open Go Go.Ab
/-! parlmake_Below -/
structure Nd.parlmake_Below (T : FuncId → Option AFunc) : Prop where
  own : Has T I.parlmake_Below F.parlmake_Below
set_option maxHeartbeats 1000000 in
theorem X.parlmake_Below {T : FuncId → Option AFunc} (nd : Nd.parlmake_Below T) {Z V : PH} {H : Hp} {a0 : Int} {a1 : Int} (hs : Sat Z V H []) {r : Int} (e : P.parlmake_Below a0 a1 = some r) :
    G T I.parlmake_Below [(vi a0), (vi a1)] H (fun rv H' => rv = (vi r) ∧ Sat Z V H' []) := by
 unfold P.parlmake_Below at e
 refine f_mk nd.own ?_
 refine c_sr ?_
 refine o_mv (v := (vi 0)) rfl ?_
 refine c_nil ?_
 refine c_sr ?_
 refine o_mv (v := (vi a0)) rfl ?_
 refine o_mv (v := (vi a1)) rfl ?_
 obtain ⟨x1, q1, e⟩ := Pu.bind_some e
 refine o_rem rfl rfl q1 ?_
 refine o_mv (v := (vi x1)) rfl ?_
 refine c_nil ?_
 refine c_sq ?_
 refine c_sr ?_
 refine o_mv (v := (vi x1)) rfl ?_
 refine o_lss rfl rfl ?_
 refine c_nil ?_
 obtain ⟨y1, e1, e⟩ := Pu.bind_some e
 refine c_jn (I := fun tm H => ∃ (Z1 V1 : PH), Gw Z V Z1 V1 ∧ Sat Z1 V1 H [] ∧ tm 0 = (vi y1)) (fun k1 => ?_) ?_
 ·refine c_ifd rfl (fun q2 => ?_) (fun q2 => ?_)
  ·replace e1 := if_t q2 e1
   refine c_r ?_
   refine o_mv (v := (vi x1)) rfl ?_
   refine o_mv (v := (vi a1)) rfl ?_
   refine o_add rfl rfl ?_
   refine o_mv (v := (vi (Pu.W (x1 + a1)))) rfl ?_
   refine c_nil ?_
   obtain rfl := Option.some.inj e1
   exact k1 _ _ ⟨_, _, Gw.refl _ _, hs, rfl⟩
  replace e1 := if_f q2 e1
  refine c_sk ?_
  obtain rfl := Option.some.inj e1
  exact k1 _ _ ⟨_, _, Gw.refl _ _, hs, rfl⟩
 intro _ H1 i1
 obtain ⟨Z1, V1, g1, s1, h1⟩ := i1
 refine c_sr ?_
 refine o_mv (v := (vi y1)) h1 ?_
 refine o_mv (v := (vi y1)) rfl ?_
 refine c_nil ?_
 refine c_rt ?_
 obtain rfl := Option.some.inj e
 exact ⟨.inr rfl, _, (ar1 rfl), rfl, (s1.weak g1 hs.zv)⟩
/-! parlmake_stream_next -/
structure Nd.parlmake_stream_next (T : FuncId → Option AFunc) : Prop where
  own : Has T I.parlmake_stream_next F.parlmake_stream_next
  parlmake_Below : Nd.parlmake_Below T
set_option maxHeartbeats 1000000 in
theorem X.parlmake_stream_next {T : FuncId → Option AFunc} (nd : Nd.parlmake_stream_next T) {Z V : PH} {H : Hp} {v1 : Value} {o1 : Nat} {a0 : Ty.parlmake_stream} {a1 : Int} (hs : Sat Z V H [pts o1 (.rw 0 [v1])]) (hp1 : RdS Sh.int Z v1 a0.l) {r : (Ty.parlmake_stream × Int)} (e : P.parlmake_stream_next a0 a1 = some r) :
    G T I.parlmake_stream_next [(.pointer (some ⟨o1, 0, none⟩)), (vi a1)] H (fun rv H' => ∃ (u1 : Value), rv = (vi r.2) ∧ Sat Z V H' [pts o1 (.rw 0 [u1]), Sh.it (Sh.ro (Sh.sl Sh.int)) [u1] r.1.l]) := by
 unfold P.parlmake_stream_next at e
 refine f_mk nd.own ?_
 refine c_sr ?_
 refine o_mv (v := (vi 0)) rfl ?_
 refine c_nil ?_
 refine c_sq ?_
 refine c_sr ?_
 refine o_mv (v := (.pointer (some ⟨o1, 0, none⟩))) rfl ?_
 refine o_nck rfl ?_
 refine o_fad rfl ?_
 obtain ⟨d1, rfl⟩ := (hp1).val
 refine o_ldB 0 hs rfl rfl rfl rfl ?_
 refine o_len rfl (hp1).len ?_
 refine o_eql rfl rfl ?_
 refine c_nil ?_
 refine c_ifd rfl (fun q1 => ?_) (fun q1 => ?_)
 ·replace e := if_t q1 e
  refine c_sr ?_
  refine o_mv (v := (vi 0)) rfl ?_
  refine c_nil ?_
  refine c_rt ?_
  obtain rfl := Option.some.inj e
  exact ⟨.inr rfl, _, (ar1 rfl), _, rfl, ((hs.push (ro_it (sl_ro hp1))).pick [1, 0] rfl)⟩
 replace e := if_f q1 e
 refine c_sk ?_
 refine c_sr ?_
 refine o_mv (v := (.pointer (some ⟨o1, 0, none⟩))) rfl ?_
 refine o_nck rfl ?_
 refine o_fad rfl ?_
 refine o_ldB 0 hs rfl rfl rfl rfl ?_
 obtain ⟨x1, q2, e⟩ := Pu.bind_some e
 refine o_idx (v := (.slice d1 a0.l.length a0.l.length)) rfl rfl hp1 rfl q2 fun p1 q3 => ?_
 refine o_ldi rfl hp1 hs.z q3 q2 ?_
 refine o_mv (v := (vi x1)) rfl ?_
 refine c_nil ?_
 refine c_gen (P := fun tm => tm 0 = (.pointer (some ⟨o1, 0, none⟩)) ∧ tm 1 = (vi a1) ∧ tm 5 = (vi x1) ∧ True) ⟨rfl, rfl, rfl, trivial⟩ ?_
 intro _ i1
 obtain ⟨h1, h2, h3, -⟩ := i1
 refine c_sr ?_
 refine o_mv (v := (.pointer (some ⟨o1, 0, none⟩))) h1 ?_
 refine o_mv (v := (.pointer (some ⟨o1, 0, none⟩))) h1 ?_
 refine o_nck rfl ?_
 refine o_fad rfl ?_
 refine o_ldB 0 hs rfl rfl rfl rfl ?_
 obtain ⟨x2, q4, e⟩ := Pu.bind_some e
 refine o_slcl rfl rfl hp1 hs.z rfl q4 fun w1 h4 => ?_
 refine o_nck rfl ?_
 refine o_fad rfl ?_
 obtain ⟨d2, rfl⟩ := (h4).val
 refine o_stB (us' := [(.slice d2 x2.length x2.length)]) 0 hs rfl rfl rfl rfl rfl rfl rfl fun H1 s1 => ?_
 refine c_nil ?_
 refine c_sr ?_
 refine o_mv (v := (vi x1)) h3 ?_
 refine o_mv (v := (vi a1)) h2 ?_
 obtain ⟨x3, q5, e⟩ := Pu.bind_some e
 obtain ⟨Z1, V1, W1, g1, u1, c1, c2, -, c4, c3⟩ := Sat.call (l1 := []) s1
 refine o_call (mc rfl (mc rfl m0)) (X.parlmake_Below nd.parlmake_Below c1 q5) fun _ H2 i2 => ?_
 obtain ⟨rfl, s2⟩ := i2
 have s3 := c3 _ _ s2
 refine o_mv (v := (vi x3)) rfl ?_
 refine c_nil ?_
 refine c_gen (P := fun tm => tm 4 = (vi x3) ∧ True) ⟨rfl, trivial⟩ ?_
 intro _ i3
 obtain ⟨h5, -⟩ := i3
 refine c_rt ?_
 obtain rfl := Option.some.inj e
 exact ⟨.inr rfl, _, (ar1 h5), _, rfl, (((s3.push (ro_it (sl_ro (h4.mono g1.z)))).pick [1, 0] rfl).weak g1 hs.zv)⟩
/-! parlmake_has -/
structure Nd.parlmake_has (T : FuncId → Option AFunc) : Prop where
  own : Has T I.parlmake_has F.parlmake_has
set_option maxHeartbeats 1000000 in
theorem X.parlmake_has {T : FuncId → Option AFunc} (nd : Nd.parlmake_has T) {Z V : PH} {H : Hp} {v1 : Value} {v2 : Value} {a0 : (List Ty.api_Rule)} {a1 : Ty.api_Rule} (hs : Sat Z V H []) (hp1 : RdS Sh.api_Rule V v1 a0) (hp2 : RdS Sh.api_Sym V v2 a1.Right) {r : Bool} (e : P.parlmake_has a0 a1 = some r) :
    G T I.parlmake_has [v1, (.agg #[(vi a1.Left), v2])] H (fun rv H' => rv = (.bool r) ∧ Sat Z V H' []) := by
 unfold P.parlmake_has at e
 refine f_mk nd.own ?_
 refine c_sr ?_
 obtain ⟨d1, rfl⟩ := (hp2).val
 refine o_box hs rfl rfl fun b1 H1 s1 => ?_
 refine o_mv (v := (.bool false)) rfl ?_
 refine c_nil ?_
 refine c_sq ?_
 refine c_sr ?_
 refine o_mv (v := v1) rfl ?_
 refine o_len rfl (hp1).len ?_
 refine o_mv (v := (vi 0)) rfl ?_
 refine c_nil ?_
 obtain ⟨y1, q3, e⟩ := Pu.bind_some e
 refine c_jn (I := fun tm H => ∃ (s4 : Unit), y1 = .out s4 ∧ (∃ (Z2 V2 : PH), Gw Z V Z2 V2 ∧ Sat Z2 V2 H [pts b1 (.rw 0 [(vi a1.Left), (.slice d1 a1.Right.length a1.Right.length)])] ∧ tm 3 = (.pointer (some ⟨b1, 0, none⟩)) ∧ tm 9 = v1 ∧ tm 10 = (vi (a0.length : Int)))) (fun k4 => ?_) ?_
 ·refine c_bk ?_
  refine l_forL (xs := a0) (fun (i1 : Nat) (s2 : Unit) tm H => tm 11 = vi i1 ∧ ∃ (Z1 V1 : PH), Gw Z V Z1 V1 ∧ Sat Z1 V1 H [pts b1 (.rw 0 [(vi a1.Left), (.slice d1 a1.Right.length a1.Right.length)])] ∧ tm 3 = (.pointer (some ⟨b1, 0, none⟩)) ∧ tm 9 = v1 ∧ tm 10 = (vi (a0.length : Int))) (fun i1 x1 s2 y2 tm H3 q1 q2 j1 e1 k1 k2 k3 => ?_) (fun s2 tm H2 jf jd => ?_) q3 ⟨rfl, _, _, Gw.refl _ _, s1, rfl, rfl, rfl⟩
  ·obtain ⟨hti0, Z1, V1, g1, s3, h1, h2, h3⟩ := j1
   unfold P.parlmake_has.b0 at e1
   refine c_sr ?_
   refine o_lss hti0 h3 ?_
   refine c_nil ?_
   refine c_sq ?_
   refine c_ift rfl (Int.ofNat_lt.2 q2) ?_
   refine c_sk ?_
   refine c_sq ?_
   refine c_bk ?_
   refine c_sr ?_
   refine o_idx (v := v1) h2 hti0 (hp1.mono g1.v) rfl (Pu.ix_nat.trans q1) fun p1 q4 => ?_
   refine o_lda rfl (hp1.mono g1.v) s3.v rfl q4 (Pu.ix_nat.trans q1) fun c1 h7 => ?_
   obtain ⟨w1, rfl, h8⟩ := Sh.api_Rule_op h7
   refine o_new s3 fun b2 H5 s6 => ?_
   obtain ⟨d2, rfl⟩ := (h8).val
   refine o_stB (us' := [(vi x1.Left), (.slice d2 x1.Right.length x1.Right.length)]) 0 s6 rfl rfl rfl rfl rfl rfl rfl fun H6 s7 => ?_
   refine c_nil ?_
   refine c_sq ?_
   refine c_sr ?_
   refine o_fad rfl ?_
   refine o_ldB 0 s7 rfl rfl rfl rfl ?_
   refine o_fad h1 ?_
   refine o_ldB 1 s7 rfl rfl rfl rfl ?_
   refine o_neq rfl rfl ?_
   refine o_mv (v := (.bool (decide (x1.Left ≠ a1.Left)))) rfl ?_
   refine o_jn 8 (I := fun tm H => tm 28 = .bool ((decide (x1.Left ≠ a1.Left)) || (decide ((x1.Right.length : Int) ≠ (a1.Right.length : Int)))) ∧ (∃ (Z3 V3 : PH), Gw Z1 V1 Z3 V3 ∧ Sat Z3 V3 H [pts b1 (.rw 0 [(vi a1.Left), (.slice d1 a1.Right.length a1.Right.length)]), pts b2 (.rw 0 [(vi x1.Left), (.slice d2 x1.Right.length x1.Right.length)])] ∧ tm 3 = (.pointer (some ⟨b1, 0, none⟩)) ∧ tm 6 = (.pointer (some ⟨b2, 0, none⟩)) ∧ tm 9 = v1 ∧ tm 10 = (vi (a0.length : Int)) ∧ tm 11 = (vi (i1 : Int)))) (fun k5 => ?_) ?_
   ·rcases Bool.eq_false_or_eq_true (decide (x1.Left ≠ a1.Left)) with q5 | q5
    ·refine o_gn rfl q5 ?_
     refine o_gn rfl q5 ?_
     refine o_gn rfl q5 ?_
     refine o_gn rfl q5 ?_
     refine o_gn rfl q5 ?_
     refine o_gn rfl q5 ?_
     refine o_gn rfl q5 ?_
     refine o_pickt (a := (.bool true)) rfl q5 rfl ?_
     exact k5 _ _ ⟨gf rfl (by first | (rw [q5]; first | done | rfl) | simp [q5]), _, _, Gw.refl _ _, (s7.pick [1, 0] rfl), h1, rfl, h2, h3, hti0⟩
    refine o_gy rfl q5 ?_
    refine o_fad rfl ?_
    refine o_gy rfl q5 ?_
    refine o_ldB 0 s7 rfl rfl rfl rfl ?_
    refine o_gy rfl q5 ?_
    refine o_len rfl (h8).len ?_
    refine o_gy rfl q5 ?_
    refine o_fad h1 ?_
    refine o_gy rfl q5 ?_
    refine o_ldB 1 s7 rfl rfl rfl rfl ?_
    refine o_gy rfl q5 ?_
    refine o_len rfl ((hp2.mono g1.v)).len ?_
    refine o_gy rfl q5 ?_
    refine o_neq rfl rfl ?_
    refine o_pickf (b := (.bool (decide ((x1.Right.length : Int) ≠ (a1.Right.length : Int))))) rfl q5 rfl ?_
    exact k5 _ _ ⟨gf rfl (by first | (rw [q5]; first | done | rfl) | simp [q5]), _, _, Gw.refl _ _, (s7.pick [1, 0] rfl), h1, rfl, h2, h3, hti0⟩
   intro _ H7 i2
   obtain ⟨h14, Z3, V3, g3, s8, h9, h10, h11, h12, h13⟩ := i2
   refine c_nil ?_
   refine c_if h14 (fun q6 => ?_) (fun q6 => ?_)
   ·replace e1 := if_t q6 e1
    refine c_ex ?_
    refine e_c ?_
    refine e_h ?_
    refine c_r ?_
    refine o_add h13 rfl ?_
    refine o_mv (v := (vi (Pu.W ((i1 : Int) + 1)))) rfl ?_
    refine c_nil ?_
    exact k1 _ _ _ (Option.some.inj e1).symm ⟨(iv rfl (w_suc q2 (hp1).bd)), _, _, (g1.trans g3), (s8.pick [0] rfl), h9, h11, h12⟩
   replace e1 := ib_f q6 e1
   refine c_sk ?_
   refine c_sr ?_
   refine o_mv (v := (.bool true)) rfl ?_
   refine c_nil ?_
   refine c_sq ?_
   refine c_sr ?_
   refine o_fad h10 ?_
   refine o_ldB 1 s8 rfl rfl rfl rfl ?_
   refine o_len rfl ((h8.mono g3.v)).len ?_
   refine o_mv (v := (vi 0)) rfl ?_
   refine c_nil ?_
   obtain ⟨x3, q9, e1⟩ := Pu.bind_some e1
   obtain ⟨rfl, q11⟩ := ranO_some q9
   obtain ⟨y3, q12, e1⟩ := Pu.bind_some e1
   refine c_bk ?_
   refine l_forP (xs := (Pu.ran (x1.Right.length : Int))) (fun (i3 : Nat) (s9 : Bool) tm H => tm 32 = vi i3 ∧ ∃ (Z4 V4 : PH), Gw Z3 V3 Z4 V4 ∧ Sat Z4 V4 H [pts b1 (.rw 0 [(vi a1.Left), (.slice d1 a1.Right.length a1.Right.length)]), pts b2 (.rw 0 [(vi x1.Left), (.slice d2 x1.Right.length x1.Right.length)])] ∧ tm 3 = (.pointer (some ⟨b1, 0, none⟩)) ∧ tm 6 = (.pointer (some ⟨b2, 0, none⟩)) ∧ tm 7 = (.bool s9) ∧ tm 9 = v1 ∧ tm 10 = (vi (a0.length : Int)) ∧ tm 11 = (vi (i1 : Int)) ∧ tm 31 = (vi (x1.Right.length : Int))) (fun i3 x2 s9 s11 tm H9 q7 q8 j2 e2 k6 => ?_) (fun tm H8 jd => ?_) q12 ⟨rfl, _, _, Gw.refl _ _, s8, h9, h10, rfl, h11, h12, h13, rfl⟩
   ·obtain ⟨hti1, Z4, V4, g4, s10, h15, h16, h17, h18, h19, h20, h21⟩ := j2
    unfold P.parlmake_has.b1 at e2
    have hti1 := iv hti1 (ran_x q7).symm
    refine c_sr ?_
    refine o_lss hti1 h21 ?_
    refine c_nil ?_
    refine c_sq ?_
    refine c_ift rfl (ran_lt q7) ?_
    refine c_sk ?_
    refine c_sq ?_
    refine c_bk ?_
    refine c_sr ?_
    refine o_mv (v := (vi x2)) hti1 ?_
    refine o_mv (v := (vi x2)) rfl ?_
    refine c_nil ?_
    refine d_start s10 fun n1 H10 s12 q13 d3 => ?_
    refine d_mv (v := (.bool s9)) h17 ?_
    refine d_mv (v := (.bool s9)) rfl ?_
    obtain ⟨y4, e3, e2⟩ := Pu.bind_some e2
    refine d_jn 12 (I := fun tm H => DD n1 14 (List.length F.parlmake_has.r9) H ∧ (∃ (Z5 V5 : PH), Gw Z4 V4 Z5 V5 ∧ Sat Z5 V5 H [pts b1 (.rw 0 [(vi a1.Left), (.slice d1 a1.Right.length a1.Right.length)]), pts b2 (.rw 0 [(vi x1.Left), (.slice d2 x1.Right.length x1.Right.length)])] ∧ tm 3 = (.pointer (some ⟨b1, 0, none⟩)) ∧ tm 6 = (.pointer (some ⟨b2, 0, none⟩)) ∧ tm 9 = v1 ∧ tm 10 = (vi (a0.length : Int)) ∧ tm 11 = (vi (i1 : Int)) ∧ tm 31 = (vi (x1.Right.length : Int)) ∧ tm 32 = (vi x2) ∧ tm 48 = (.bool y4))) (fun k7 => ?_) ?_
    ·rcases Bool.eq_false_or_eq_true s9 with q14 | q14
     ·replace e3 := if_t q14 e3
      refine d_want rfl q14 ?_
      refine d_fad h16 ?_
      refine d_want rfl q14 ?_
      refine d_ldB (q13 _ _ (ph_some.2 ⟨s12.curB 1 rfl, by simp⟩)) 1 s12 rfl rfl rfl rfl ?_
      refine d_want rfl q14 ?_
      refine d_mv (v := (vi x2)) rfl ?_
      refine d_want rfl q14 ?_
      obtain ⟨x4, q15, e3⟩ := Pu.bind_some e3
      refine d_idx (v := (.slice d2 x1.Right.length x1.Right.length)) rfl rfl (h8.mono (g3.trans g4).v) rfl q15 fun p2 q16 => ?_
      refine d_want rfl q14 ?_
      refine d_lda (RdS.low (h8.mono (g3.trans g4).v) s12.v q13) rfl h8 ((g3.trans g4).v.trans s12.v) rfl q16 q15 fun c2 h30 => ?_
      obtain rfl := h30
      refine d_want rfl q14 ?_
      refine d_fad h15 ?_
      refine d_want rfl q14 ?_
      refine d_ldB (q13 _ _ (ph_some.2 ⟨s12.curB 0 rfl, by simp⟩)) 0 s12 rfl rfl rfl rfl ?_
      refine d_want rfl q14 ?_
      refine d_mv (v := (vi x2)) rfl ?_
      refine d_want rfl q14 ?_
      obtain ⟨x5, q17, e3⟩ := Pu.bind_some e3
      refine d_idx (v := (.slice d1 a1.Right.length a1.Right.length)) rfl rfl (hp2.mono (g1.trans (g3.trans g4)).v) rfl q17 fun p3 q18 => ?_
      refine d_want rfl q14 ?_
      refine d_lda (RdS.low (hp2.mono (g1.trans (g3.trans g4)).v) s12.v q13) rfl hp2 ((g1.trans (g3.trans g4)).v.trans s12.v) rfl q18 q17 fun c3 h31 => ?_
      obtain rfl := h31
      refine d_want rfl q14 ?_
      refine d_eq (q_api_Sym ..) rfl rfl ?_
      refine d_pickt (a := (.bool ((x4.Term == x5.Term) && (x4.N == x5.N)))) rfl q14 rfl ?_
      obtain rfl := Option.some.inj e3
      exact k7 _ _ _ ⟨d3.up rfl, _, _, Gw.refl _ _, s12, h15, h16, h18, h19, h20, h21, hti1, rfl⟩
     replace e3 := ib_f q14 e3
     refine d_gn rfl q14 ?_
     refine d_gn rfl q14 ?_
     refine d_gn rfl q14 ?_
     refine d_gn rfl q14 ?_
     refine d_gn rfl q14 ?_
     refine d_gn rfl q14 ?_
     refine d_gn rfl q14 ?_
     refine d_gn rfl q14 ?_
     refine d_gn rfl q14 ?_
     refine d_gn rfl q14 ?_
     refine d_gn rfl q14 ?_
     refine d_pickf (b := (.bool false)) rfl q14 rfl ?_
     obtain rfl := Option.some.inj e3
     exact k7 _ _ _ ⟨d3.up rfl, _, _, Gw.refl _ _, s12, h15, h16, h18, h19, h20, h21, hti1, rfl⟩
    intro _ H11 _ i4
    obtain ⟨d4, Z5, V5, g5, s13, h22, h23, h24, h25, h26, h27, h28, h29⟩ := i4
    refine d_mv (v := (.bool y4)) h29 ?_
    refine d_nil dc_nil ?_
    refine c_end ?_
    refine c_r ?_
    refine o_add h28 rfl ?_
    refine o_mv (v := (vi (Pu.W (x2 + 1)))) rfl ?_
    refine c_nil ?_
    obtain rfl := Option.some.inj e2
    exact k6 _ _ ⟨(iv rfl (w_sucR q7 q11)), _, _, (g4.trans g5), s13, h22, h23, rfl, h24, h25, h26, h27⟩
   obtain ⟨hte1, Z6, V6, g6, s14, h32, h33, h34, h35, h36, h37, h38⟩ := jd
   refine c_sr ?_
   refine o_lss hte1 h38 ?_
   refine c_nil ?_
   refine c_sq ?_
   refine c_iff rfl (ran_done _) ?_
   refine c_ex ?_
   refine e_c ?_
   refine e_c ?_
   refine e_h ?_
   refine c_sr ?_
   refine o_mv (v := (.bool y3)) h34 ?_
   refine c_nil ?_
   refine c_if rfl (fun q19 => ?_) (fun q19 => ?_)
   ·replace e1 := if_t q19 e1
    refine c_sr ?_
    refine o_mv (v := (.bool true)) rfl ?_
    refine c_nil ?_
    refine c_rt ?_
    have e4 := fin_r (k3 _ (Option.some.inj e1).symm) e
    obtain rfl := Option.some.inj e4
    exact ⟨.inr rfl, _, (ar1 rfl), rfl, ((s14.pick [] rfl).weak (g1.trans (g3.trans g6)) hs.zv)⟩
   replace e1 := ib_f q19 e1
   refine c_sk ?_
   refine c_end ?_
   refine c_r ?_
   refine o_add h37 rfl ?_
   refine o_mv (v := (vi (Pu.W ((i1 : Int) + 1)))) rfl ?_
   refine c_nil ?_
   exact k1 _ _ _ (Option.some.inj e1).symm ⟨(iv rfl (w_suc q2 (hp1).bd)), _, _, (g1.trans (g3.trans g6)), (s14.pick [0] rfl), h32, h35, h36⟩
  ·obtain ⟨hte0, Z7, V7, g7, s15, h39, h40, h41⟩ := jd
   refine c_sr ?_
   refine o_lss hte0 h41 ?_
   refine c_nil ?_
   refine c_sq ?_
   refine c_iff rfl (Int.lt_irrefl _) ?_
   refine c_ex ?_
   refine e_c ?_
   refine e_c ?_
   refine e_h ?_
   exact k4 _ _ ⟨_, jf, _, _, g7, s15, h39, h40, h41⟩
 intro _ H4 i5
 obtain ⟨s4, f1, Z2, V2, g2, s5, h4, h5, h6⟩ := i5
 replace e := fin_o f1 e
 refine c_sr ?_
 refine o_mv (v := (.bool false)) rfl ?_
 refine c_nil ?_
 refine c_rt ?_
 obtain rfl := Option.some.inj e
 exact ⟨.inr rfl, _, (ar1 rfl), rfl, ((s5.pick [] rfl).weak g2 hs.zv)⟩
/-! parlmake_Grammar -/
structure Nd.parlmake_Grammar (T : FuncId → Option AFunc) : Prop where
  own : Has T I.parlmake_Grammar F.parlmake_Grammar
  parlmake_stream_next : Nd.parlmake_stream_next T
  parlmake_has : Nd.parlmake_has T
set_option maxHeartbeats 1000000 in
theorem X.parlmake_Grammar {T : FuncId → Option AFunc} (nd : Nd.parlmake_Grammar T) {Z V : PH} {H : Hp} {v1 : Value} {a0 : (List Int)} (hs : Sat Z V H []) (hp1 : RdS Sh.int Z v1 a0) {r : Ty.api_Grammar} (e : P.parlmake_Grammar a0 = some r) :
    G T I.parlmake_Grammar [v1] H (fun rv H' => ∃ (u1 : Value), rv = (.agg #[(vi r.Terms), (vi r.Nons), (vi r.Start), u1]) ∧ Sat Z V H' [It.sl (Sh.ro Sh.api_Rule) u1 r.Rules]) := by
 unfold P.parlmake_Grammar at e
 refine f_mk nd.own ?_
 refine c_sr ?_
 refine o_new hs fun b1 H1 s1 => ?_
 refine c_nil ?_
 refine c_sr ?_
 refine o_mv (v := v1) rfl ?_
 obtain ⟨d1, rfl⟩ := (hp1).val
 refine o_bld (qs := [(0, 1, (.slice d1 a0.length a0.length))]) rfl rfl ?_
 refine o_box s1 rfl rfl fun b2 H2 s2 => ?_
 refine o_mv (v := (.pointer (some ⟨b2, 0, none⟩))) rfl ?_
 refine c_nil ?_
 refine c_sr ?_
 refine o_mv (v := (.pointer (some ⟨b2, 0, none⟩))) rfl ?_
 obtain ⟨x1, q1, e⟩ := Pu.bind_some e
 obtain ⟨Z1, V1, W1, g1, u1, c1, c2, -, c4, c3⟩ := Sat.call (l1 := [pts b2 (.rw 0 [(.slice d1 a0.length a0.length)])]) (l2 := [pts b1 (.rw 0 [(vi 0), (vi 0), (vi 0), (.slice none 0 0)])]) s2
 refine o_call (mc rfl (mc rfl m0)) (X.parlmake_stream_next nd.parlmake_stream_next (a0 := (Ty.parlmake_stream.mk a0)) c1 (hp1.mono g1.z) q1) fun _ H3 i1 => ?_
 obtain ⟨w1, rfl, s3⟩ := i1
 have s4 := c3 _ _ s3
 obtain ⟨Z2, V2, g2, s5, h1⟩ := (s4.pull 1 rfl).frzR
 refine o_add rfl rfl ?_
 refine o_mv (v := (.pointer (some ⟨b2, 0, none⟩))) rfl ?_
 obtain ⟨x2, q2, e⟩ := Pu.bind_some e
 obtain ⟨d2, rfl⟩ := (h1).val
 obtain ⟨Z3, V3, W2, g3, u2, c5, c6, -, c8, c7⟩ := Sat.call (l1 := [pts b2 (.rw 0 [(.slice d2 x1.1.l.length x1.1.l.length)])]) (l2 := [pts b1 (.rw 0 [(vi 0), (vi 0), (vi 0), (.slice none 0 0)])]) s5
 refine o_call (mc rfl (mc rfl m0)) (X.parlmake_stream_next nd.parlmake_stream_next (a0 := x1.1) c5 (h1.mono g3.z) q2) fun _ H4 i2 => ?_
 obtain ⟨w2, rfl, s6⟩ := i2
 have s7 := c7 _ _ s6
 obtain ⟨Z4, V4, g4, s8, h2⟩ := (s7.pull 1 rfl).frzR
 refine o_add rfl rfl ?_
 refine o_bld (qs := [(0, 1, (vi (Pu.W (1 + x1.2)))), (1, 1, (vi (Pu.W (1 + x2.2))))]) rfl rfl ?_
 refine o_new s8 fun b3 H5 s9 => ?_
 refine o_stB (us' := [(vi (Pu.W (1 + x1.2))), (vi (Pu.W (1 + x2.2))), (vi 0), (.slice none 0 0)]) 0 s9 rfl rfl rfl rfl rfl rfl rfl fun H6 s10 => ?_
 refine c_nil ?_
 refine c_gen (P := fun tm => tm 2 = (.pointer (some ⟨b1, 0, none⟩)) ∧ tm 3 = (.pointer (some ⟨b2, 0, none⟩)) ∧ tm 4 = (.pointer (some ⟨b3, 0, none⟩)) ∧ True) ⟨rfl, rfl, rfl, trivial⟩ ?_
 intro _ i3
 obtain ⟨h3, h4, h5, -⟩ := i3
 refine c_sr ?_
 refine o_mv (v := (.pointer (some ⟨b2, 0, none⟩))) h4 ?_
 refine o_fad h5 ?_
 refine o_ldB 0 s10 rfl rfl rfl rfl ?_
 obtain ⟨x3, q3, e⟩ := Pu.bind_some e
 obtain ⟨d3, rfl⟩ := (h2).val
 obtain ⟨Z5, V5, W3, g5, u3, c9, c10, -, c12, c11⟩ := Sat.call (l1 := [pts b2 (.rw 0 [(.slice d3 x2.1.l.length x2.1.l.length)])]) (l2 := [pts b3 (.rw 0 [(vi (Pu.W (1 + x1.2))), (vi (Pu.W (1 + x2.2))), (vi 0), (.slice none 0 0)]), pts b1 (.rw 0 [(vi 0), (vi 0), (vi 0), (.slice none 0 0)])]) (s10.pick [1, 0, 2] rfl)
 refine o_call (mc rfl (mc rfl m0)) (X.parlmake_stream_next nd.parlmake_stream_next (a0 := x2.1) c9 (h2.mono g5.z) q3) fun _ H7 i4 => ?_
 obtain ⟨w3, rfl, s11⟩ := i4
 have s12 := c11 _ _ s11
 obtain ⟨Z6, V6, g6, s13, h6⟩ := (s12.pull 1 rfl).frzR
 refine o_fad h5 ?_
 refine o_stB (us' := [(vi (Pu.W (1 + x1.2))), (vi (Pu.W (1 + x2.2))), (vi x3.2), (.slice none 0 0)]) 1 s13 rfl rfl rfl rfl rfl rfl rfl fun H8 s14 => ?_
 refine c_nil ?_
 refine c_sq ?_
 refine c_sr ?_
 refine o_mv (v := (.pointer (some ⟨b2, 0, none⟩))) h4 ?_
 obtain ⟨x4, q4, e⟩ := Pu.bind_some e
 obtain ⟨d4, rfl⟩ := (h6).val
 obtain ⟨Z7, V7, W4, g7, u4, c13, c14, -, c16, c15⟩ := Sat.call (l1 := [pts b2 (.rw 0 [(.slice d4 x3.1.l.length x3.1.l.length)])]) (l2 := [pts b3 (.rw 0 [(vi (Pu.W (1 + x1.2))), (vi (Pu.W (1 + x2.2))), (vi x3.2), (.slice none 0 0)]), pts b1 (.rw 0 [(vi 0), (vi 0), (vi 0), (.slice none 0 0)])]) s14
 refine o_call (mc rfl (mc rfl m0)) (X.parlmake_stream_next nd.parlmake_stream_next (a0 := x3.1) c13 (h6.mono g7.z) q4) fun _ H9 i5 => ?_
 obtain ⟨w4, rfl, s15⟩ := i5
 have s16 := c15 _ _ s15
 obtain ⟨Z8, V8, g8, s17, h7⟩ := (s16.pull 1 rfl).frzR
 refine o_add rfl rfl ?_
 refine o_mv (v := (vi 0)) rfl ?_
 refine c_nil ?_
 obtain ⟨x6, q7, e⟩ := Pu.bind_some e
 obtain ⟨rfl, q9⟩ := ranO_some q7
 obtain ⟨y1, q10, e⟩ := Pu.bind_some e
 refine c_bk ?_
 refine l_forP (xs := (Pu.ran (Pu.W (1 + x4.2)))) (fun (i6 : Nat) (s18 : ((List Int) × (List Ty.api_Rule))) tm H => tm 24 = vi i6 ∧ ∃ (Z9 V9 : PH) (w5 : Value) (w6 : Value), Gw Z8 V8 Z9 V9 ∧ Sat Z9 V9 H [pts b1 (.rw 0 [(vi 0), (vi 0), (vi 0), (.slice none 0 0)]), pts b2 (.rw 0 [w6]), pts b3 (.rw 0 [(vi (Pu.W (1 + x1.2))), (vi (Pu.W (1 + x2.2))), (vi x3.2), w5]), It.sl (Sh.ro Sh.api_Rule) w5 s18.2] ∧ tm 2 = (.pointer (some ⟨b1, 0, none⟩)) ∧ tm 3 = (.pointer (some ⟨b2, 0, none⟩)) ∧ tm 4 = (.pointer (some ⟨b3, 0, none⟩)) ∧ tm 23 = (vi (Pu.W (1 + x4.2))) ∧ RdS Sh.int Z9 w6 s18.1) (fun i6 x5 s18 s20 tm H11 q5 q6 j1 e1 k1 => ?_) (fun tm H10 jd => ?_) q10 ⟨rfl, _, _, _, _, Gw.refl _ _, ((s17.push (sl_nil (s := (Sh.ro Sh.api_Rule)))).pick [3, 1, 2, 0] rfl), h3, h4, h5, rfl, h7⟩
 ·obtain ⟨hti0, Z9, V9, w5, w6, g9, s19, h9, h10, h11, h12, h8⟩ := j1
  unfold P.parlmake_Grammar.b0 at e1
  have hti0 := iv hti0 (ran_x q5).symm
  refine c_sr ?_
  refine o_lss hti0 h12 ?_
  refine c_nil ?_
  refine c_sq ?_
  refine c_ift rfl (ran_lt q5) ?_
  refine c_sk ?_
  refine c_sq ?_
  refine c_bk ?_
  refine c_sr ?_
  refine o_mv (v := (.pointer (some ⟨b2, 0, none⟩))) h10 ?_
  refine o_fad h11 ?_
  obtain ⟨d5, rfl⟩ := ((s19.curS (s := (Sh.ro Sh.api_Rule)) 3 rfl)).val
  refine o_ldB 2 s19 rfl rfl rfl rfl ?_
  obtain ⟨x7, q11, e1⟩ := Pu.bind_some e1
  obtain ⟨d6, rfl⟩ := (h8).val
  obtain ⟨Z10, V10, W5, g10, u5, c17, c18, -, c20, c19⟩ := Sat.call (l1 := [pts b2 (.rw 0 [(.slice d6 s18.1.length s18.1.length)])]) (l2 := [pts b1 (.rw 0 [(vi 0), (vi 0), (vi 0), (.slice none 0 0)]), pts b3 (.rw 0 [(vi (Pu.W (1 + x1.2))), (vi (Pu.W (1 + x2.2))), (vi x3.2), (.slice d5 s18.2.length s18.2.length)]), It.sl (Sh.ro Sh.api_Rule) (.slice d5 s18.2.length s18.2.length) s18.2]) (s19.pick [1, 0, 2, 3] rfl)
  refine o_call (mc rfl (mc rfl m0)) (X.parlmake_stream_next nd.parlmake_stream_next (a0 := (Ty.parlmake_stream.mk s18.1)) c17 (h8.mono g10.z) q11) fun _ H12 i7 => ?_
  obtain ⟨w7, rfl, s21⟩ := i7
  have s22 := c19 _ _ s21
  obtain ⟨Z11, V11, g11, s23, h13⟩ := (s22.pull 1 rfl).frzR
  refine o_bld (qs := [(0, 1, (vi x7.2))]) rfl rfl ?_
  refine o_new s23 fun b4 H13 s24 => ?_
  refine o_stB (us' := [(vi x7.2), (.slice none 0 0)]) 0 s24 rfl rfl rfl rfl rfl rfl rfl fun H14 s25 => ?_
  refine c_nil ?_
  refine c_sq ?_
  refine c_sr ?_
  refine o_mv (v := (.pointer (some ⟨b2, 0, none⟩))) h10 ?_
  obtain ⟨x8, q12, e1⟩ := Pu.bind_some e1
  obtain ⟨d7, rfl⟩ := (h13).val
  obtain ⟨Z12, V12, W6, g12, u6, c21, c22, -, c24, c23⟩ := Sat.call (l1 := [pts b2 (.rw 0 [(.slice d7 x7.1.l.length x7.1.l.length)])]) (l2 := [pts b4 (.rw 0 [(vi x7.2), (.slice none 0 0)]), pts b1 (.rw 0 [(vi 0), (vi 0), (vi 0), (.slice none 0 0)]), pts b3 (.rw 0 [(vi (Pu.W (1 + x1.2))), (vi (Pu.W (1 + x2.2))), (vi x3.2), (.slice d5 s18.2.length s18.2.length)]), It.sl (Sh.ro Sh.api_Rule) (.slice d5 s18.2.length s18.2.length) s18.2]) (s25.pick [1, 0, 2, 3, 4] rfl)
  refine o_call (mc rfl (mc rfl m0)) (X.parlmake_stream_next nd.parlmake_stream_next (a0 := x7.1) c21 (h13.mono g12.z) q12) fun _ H15 i8 => ?_
  obtain ⟨w8, rfl, s26⟩ := i8
  have s27 := c23 _ _ s26
  obtain ⟨Z13, V13, g13, s28, h14⟩ := (s27.pull 1 rfl).frzR
  refine o_mv (v := (vi 0)) rfl ?_
  refine c_nil ?_
  refine c_gen (P := fun tm => tm 2 = (.pointer (some ⟨b1, 0, none⟩)) ∧ tm 3 = (.pointer (some ⟨b2, 0, none⟩)) ∧ tm 4 = (.pointer (some ⟨b3, 0, none⟩)) ∧ tm 5 = (.pointer (some ⟨b4, 0, none⟩)) ∧ tm 23 = (vi (Pu.W (1 + x4.2))) ∧ tm 24 = (vi x5) ∧ tm 32 = (vi x8.2) ∧ tm 33 = (vi 0) ∧ True) ⟨h9, h10, h11, rfl, h12, hti0, rfl, rfl, trivial⟩ ?_
  intro _ i9
  obtain ⟨h15, h16, h17, h18, h19, h20, h21, h22, -⟩ := i9
  obtain ⟨x10, q15, e1⟩ := Pu.bind_some e1
  obtain ⟨rfl, q17⟩ := ranO_some q15
  obtain ⟨y2, q18, e1⟩ := Pu.bind_some e1
  refine c_bk ?_
  refine l_forP (xs := (Pu.ran x8.2)) (fun (i10 : Nat) (s29 : ((List Int) × (List Ty.api_Sym))) tm H => tm 33 = vi i10 ∧ ∃ (Z14 V14 : PH) (w9 : Value) (w10 : Value), Gw Z13 V13 Z14 V14 ∧ Sat Z14 V14 H [pts b1 (.rw 0 [(vi 0), (vi 0), (vi 0), (.slice none 0 0)]), pts b2 (.rw 0 [w10]), pts b3 (.rw 0 [(vi (Pu.W (1 + x1.2))), (vi (Pu.W (1 + x2.2))), (vi x3.2), (.slice d5 s18.2.length s18.2.length)]), It.sl (Sh.ro Sh.api_Rule) (.slice d5 s18.2.length s18.2.length) s18.2, pts b4 (.rw 0 [(vi x7.2), w9]), It.sl (Sh.ro Sh.api_Sym) w9 s29.2] ∧ tm 2 = (.pointer (some ⟨b1, 0, none⟩)) ∧ tm 3 = (.pointer (some ⟨b2, 0, none⟩)) ∧ tm 4 = (.pointer (some ⟨b3, 0, none⟩)) ∧ tm 5 = (.pointer (some ⟨b4, 0, none⟩)) ∧ tm 23 = (vi (Pu.W (1 + x4.2))) ∧ tm 24 = (vi x5) ∧ tm 32 = (vi x8.2) ∧ RdS Sh.int Z14 w10 s29.1) (fun i10 x9 s29 s31 tm H17 q13 q14 j2 e2 k2 => ?_) (fun tm H16 jd => ?_) q18 ⟨h22, _, _, _, _, Gw.refl _ _, ((s28.push (sl_nil (s := (Sh.ro Sh.api_Sym)))).pick [3, 1, 4, 5, 2, 0] rfl), h15, h16, h17, h18, h19, h20, h21, h14⟩
  ·obtain ⟨hti1, Z14, V14, w9, w10, g14, s30, h24, h25, h26, h27, h28, h29, h30, h23⟩ := j2
   unfold P.parlmake_Grammar.b1 at e2
   have hti1 := iv hti1 (ran_x q13).symm
   refine c_sr ?_
   refine o_lss hti1 h30 ?_
   refine c_nil ?_
   refine c_sq ?_
   refine c_ift rfl (ran_lt q13) ?_
   refine c_sk ?_
   refine c_sq ?_
   refine c_bk ?_
   refine c_sr ?_
   refine o_mv (v := (.pointer (some ⟨b2, 0, none⟩))) h25 ?_
   obtain ⟨x11, q19, e2⟩ := Pu.bind_some e2
   obtain ⟨d8, rfl⟩ := (h23).val
   obtain ⟨Z15, V15, W7, g15, u7, c25, c26, -, c28, c27⟩ := Sat.call (l1 := [pts b2 (.rw 0 [(.slice d8 s29.1.length s29.1.length)])]) (l2 := [pts b1 (.rw 0 [(vi 0), (vi 0), (vi 0), (.slice none 0 0)]), pts b3 (.rw 0 [(vi (Pu.W (1 + x1.2))), (vi (Pu.W (1 + x2.2))), (vi x3.2), (.slice d5 s18.2.length s18.2.length)]), It.sl (Sh.ro Sh.api_Rule) (.slice d5 s18.2.length s18.2.length) s18.2, pts b4 (.rw 0 [(vi x7.2), w9]), It.sl (Sh.ro Sh.api_Sym) w9 s29.2]) (s30.pick [1, 0, 2, 3, 4, 5] rfl)
   refine o_call (mc rfl (mc rfl m0)) (X.parlmake_stream_next nd.parlmake_stream_next (a0 := (Ty.parlmake_stream.mk s29.1)) c25 (h23.mono g15.z) q19) fun _ H18 i11 => ?_
   obtain ⟨w11, rfl, s32⟩ := i11
   have s33 := c27 _ _ s32
   obtain ⟨Z16, V16, g16, s34, h31⟩ := (s33.pull 1 rfl).frzR
   refine o_eql rfl rfl ?_
   refine c_nil ?_
   obtain ⟨y3, e3, e2⟩ := Pu.bind_some e2
   refine c_jn (I := fun tm H => ∃ (Z17 V17 : PH) (w12 : Value) (w13 : Value), Gw Z16 V16 Z17 V17 ∧ Sat Z17 V17 H [pts b1 (.rw 0 [(vi 0), (vi 0), (vi 0), (.slice none 0 0)]), pts b2 (.rw 0 [w13]), pts b3 (.rw 0 [(vi (Pu.W (1 + x1.2))), (vi (Pu.W (1 + x2.2))), (vi x3.2), (.slice d5 s18.2.length s18.2.length)]), It.sl (Sh.ro Sh.api_Rule) (.slice d5 s18.2.length s18.2.length) s18.2, pts b4 (.rw 0 [(vi x7.2), w12]), It.sl (Sh.ro Sh.api_Sym) w12 y3.2] ∧ tm 2 = (.pointer (some ⟨b1, 0, none⟩)) ∧ tm 3 = (.pointer (some ⟨b2, 0, none⟩)) ∧ tm 4 = (.pointer (some ⟨b3, 0, none⟩)) ∧ tm 5 = (.pointer (some ⟨b4, 0, none⟩)) ∧ tm 23 = (vi (Pu.W (1 + x4.2))) ∧ tm 24 = (vi x5) ∧ tm 32 = (vi x8.2) ∧ tm 33 = (vi x9) ∧ RdS Sh.int Z17 w13 y3.1) (fun k3 => ?_) ?_
   ·refine c_ifd rfl (fun q20 => ?_) (fun q20 => ?_)
    ·replace e3 := if_t q20 e3
     refine d_start s34 fun n1 H20 s36 q21 d9 => ?_
     refine d_fad h27 ?_
     obtain ⟨d10, rfl⟩ := ((s36.curS (s := (Sh.ro Sh.api_Sym)) 5 rfl)).val
     refine d_ldB (q21 _ _ (ph_some.2 ⟨s36.curB 4 rfl, by simp⟩)) 4 s36 rfl rfl rfl rfl ?_
     refine d_mv (v := (.pointer (some ⟨b2, 0, none⟩))) h25 ?_
     refine d_fad h26 ?_
     refine d_ldB (q21 _ _ (ph_some.2 ⟨s36.curB 2 rfl, by simp⟩)) 2 s36 rfl rfl rfl rfl ?_
     obtain ⟨x12, q22, e3⟩ := Pu.bind_some e3
     obtain ⟨d11, rfl⟩ := (h31).val
     obtain ⟨Z18, V18, W8, g18, u8, c29, c30, -, c32, c31⟩ := Sat.call (l1 := [pts b2 (.rw 0 [(.slice d11 x11.1.l.length x11.1.l.length)])]) (l2 := [pts b1 (.rw 0 [(vi 0), (vi 0), (vi 0), (.slice none 0 0)]), pts b3 (.rw 0 [(vi (Pu.W (1 + x1.2))), (vi (Pu.W (1 + x2.2))), (vi x3.2), (.slice d5 s18.2.length s18.2.length)]), It.sl (Sh.ro Sh.api_Rule) (.slice d5 s18.2.length s18.2.length) s18.2, pts b4 (.rw 0 [(vi x7.2), (.slice d10 s29.2.length s29.2.length)]), It.sl (Sh.ro Sh.api_Sym) (.slice d10 s29.2.length s29.2.length) s29.2]) s36
     refine d_call (mc rfl (mc rfl m0)) (X.parlmake_stream_next nd.parlmake_stream_next (a0 := x11.1) c29 (h31.mono g18.z) q22) fun _ H21 i12 k4 => ?_
     have d12 := d9.keep k4
     obtain ⟨w14, rfl, s37⟩ := i12
     have s38 := c31 _ _ s37
     obtain ⟨Z19, V19, g19, s39, h41⟩ := (s38.pull 1 rfl).frzR
     refine d_bld (qs := [(0, 1, (.bool true)), (1, 1, (vi x12.2))]) rfl rfl ?_
     refine d_bsl (s := (Sh.ro Sh.api_Sym)) (us := [(.bool true), (vi x12.2)]) (qs := [(0, 2, (.agg #[(.bool true), (vi x12.2)]))]) (xs := [(Ty.api_Sym.mk true x12.2)]) (d12.get 7 rfl rfl) s39 (Sh.ro_lt _) rfl rfl rfl (Els.cons (c := [(.bool true), (vi x12.2)]) rfl Els.nil) rfl rfl fun w15 H22 s40 k5 => ?_
     have d13 := d12.next 7 rfl k5
     obtain ⟨Z20, V20, g20, s41, h42⟩ := s40.frzS 0 rfl
     replace h42 := h42.of_ro
     obtain ⟨x13, q23, e3⟩ := Pu.bind_some e3
     refine d_app 5 s41 rfl (Sh.ro_lt _) rfl rfl rfl rfl h42 s41.z (fun h => h) (by decide) q23 fun w16 H23 s42 k6 => ?_
     have d14 := d13.keep k6
     refine d_fad h27 ?_
     obtain ⟨d15, rfl⟩ := ((s42.curS (s := (Sh.ro Sh.api_Sym)) 5 rfl)).val
     refine d_stB (us' := [(vi x7.2), (.slice d15 x13.length x13.length)]) 4 s42 rfl rfl rfl rfl rfl rfl rfl fun H24 s43 k7 => ?_
     have d16 := d14.keep k7
     refine d_nil (dc_mk rfl (tra (tra (tra (tra (tra (tra (tra (tra (tra (tra (tre (trl tr0)))))))))))) (tra (tra (tra (tra (tra (tra (tre (trl (trl (trl (trl (trl tr0)))))))))))) (tra (tra (tra (tra (tra (tre (trl (trl (trl (trl (trl (trl tr0)))))))))))) (ag_ldx (w := (.slice d10 s29.2.length s29.2.length)) w_0 rfl (ldB_v 4 s36 rfl rfl rfl) (ldB_v 4 s36 rfl rfl rfl) (by simp [vsame, vsame1])) (ag_ldx (w := (.slice d10 s29.2.length s29.2.length)) w_0 rfl (ldB_v 4 s36 rfl rfl rfl) (ldB_v 4 s39 rfl rfl rfl) (by simp [vsame, vsame1])) dc_nil) ?_
     obtain rfl := Option.some.inj e3
     exact k3 _ _ ⟨_, _, _, _, (g18.trans (g19.trans g20)), (s43.pick [1, 0, 2, 3, 4, 5] rfl), h24, h25, h26, h27, h28, h29, h30, hti1, (h41.mono g20.z)⟩
    replace e3 := if_f q20 e3
    refine d_start s34 fun n2 H25 s44 q24 d17 => ?_
    refine d_fad h27 ?_
    obtain ⟨d18, rfl⟩ := ((s44.curS (s := (Sh.ro Sh.api_Sym)) 5 rfl)).val
    refine d_ldB (q24 _ _ (ph_some.2 ⟨s44.curB 4 rfl, by simp⟩)) 4 s44 rfl rfl rfl rfl ?_
    refine d_mv (v := (.pointer (some ⟨b2, 0, none⟩))) h25 ?_
    refine d_fad h26 ?_
    refine d_ldB (q24 _ _ (ph_some.2 ⟨s44.curB 2 rfl, by simp⟩)) 2 s44 rfl rfl rfl rfl ?_
    obtain ⟨x14, q25, e3⟩ := Pu.bind_some e3
    obtain ⟨d19, rfl⟩ := (h31).val
    obtain ⟨Z21, V21, W9, g21, u9, c33, c34, -, c36, c35⟩ := Sat.call (l1 := [pts b2 (.rw 0 [(.slice d19 x11.1.l.length x11.1.l.length)])]) (l2 := [pts b1 (.rw 0 [(vi 0), (vi 0), (vi 0), (.slice none 0 0)]), pts b3 (.rw 0 [(vi (Pu.W (1 + x1.2))), (vi (Pu.W (1 + x2.2))), (vi x3.2), (.slice d5 s18.2.length s18.2.length)]), It.sl (Sh.ro Sh.api_Rule) (.slice d5 s18.2.length s18.2.length) s18.2, pts b4 (.rw 0 [(vi x7.2), (.slice d18 s29.2.length s29.2.length)]), It.sl (Sh.ro Sh.api_Sym) (.slice d18 s29.2.length s29.2.length) s29.2]) s44
    refine d_call (mc rfl (mc rfl m0)) (X.parlmake_stream_next nd.parlmake_stream_next (a0 := x11.1) c33 (h31.mono g21.z) q25) fun _ H26 i13 k8 => ?_
    have d20 := d17.keep k8
    obtain ⟨w17, rfl, s45⟩ := i13
    have s46 := c35 _ _ s45
    obtain ⟨Z22, V22, g22, s47, h43⟩ := (s46.pull 1 rfl).frzR
    refine d_bld (qs := [(1, 1, (vi x14.2))]) rfl rfl ?_
    refine d_bsl (s := (Sh.ro Sh.api_Sym)) (us := [(.bool false), (vi x14.2)]) (qs := [(0, 2, (.agg #[(.bool false), (vi x14.2)]))]) (xs := [(Ty.api_Sym.mk false x14.2)]) (d20.get 7 rfl rfl) s47 (Sh.ro_lt _) rfl rfl rfl (Els.cons (c := [(.bool false), (vi x14.2)]) rfl Els.nil) rfl rfl fun w18 H27 s48 k9 => ?_
    have d21 := d20.next 7 rfl k9
    obtain ⟨Z23, V23, g23, s49, h44⟩ := s48.frzS 0 rfl
    replace h44 := h44.of_ro
    obtain ⟨x15, q26, e3⟩ := Pu.bind_some e3
    refine d_app 5 s49 rfl (Sh.ro_lt _) rfl rfl rfl rfl h44 s49.z (fun h => h) (by decide) q26 fun w19 H28 s50 k10 => ?_
    have d22 := d21.keep k10
    refine d_fad h27 ?_
    obtain ⟨d23, rfl⟩ := ((s50.curS (s := (Sh.ro Sh.api_Sym)) 5 rfl)).val
    refine d_stB (us' := [(vi x7.2), (.slice d23 x15.length x15.length)]) 4 s50 rfl rfl rfl rfl rfl rfl rfl fun H29 s51 k11 => ?_
    have d24 := d22.keep k11
    refine d_nil (dc_mk rfl (tra (tra (tra (tra (tra (tra (tra (tra (tra (tra (tre (trl tr0)))))))))))) (tra (tra (tra (tra (tra (tra (tre (trl (trl (trl (trl (trl tr0)))))))))))) (tra (tra (tra (tra (tra (tre (trl (trl (trl (trl (trl (trl tr0)))))))))))) (ag_ldx (w := (.slice d18 s29.2.length s29.2.length)) w_0 rfl (ldB_v 4 s44 rfl rfl rfl) (ldB_v 4 s44 rfl rfl rfl) (by simp [vsame, vsame1])) (ag_ldx (w := (.slice d18 s29.2.length s29.2.length)) w_0 rfl (ldB_v 4 s44 rfl rfl rfl) (ldB_v 4 s47 rfl rfl rfl) (by simp [vsame, vsame1])) dc_nil) ?_
    obtain rfl := Option.some.inj e3
    exact k3 _ _ ⟨_, _, _, _, (g21.trans (g22.trans g23)), (s51.pick [1, 0, 2, 3, 4, 5] rfl), h24, h25, h26, h27, h28, h29, h30, hti1, (h43.mono g23.z)⟩
   intro _ H19 i14
   obtain ⟨Z17, V17, w12, w13, g17, s35, h33, h34, h35, h36, h37, h38, h39, h40, h32⟩ := i14
   refine c_end ?_
   refine c_r ?_
   refine o_add h40 rfl ?_
   refine o_mv (v := (vi (Pu.W (x9 + 1)))) rfl ?_
   refine c_nil ?_
   obtain rfl := Option.some.inj e2
   exact k2 _ _ ⟨(iv rfl (w_sucR q13 q17)), _, _, _, _, (g14.trans (g15.trans (g16.trans g17))), s35, h33, h34, h35, h36, h37, h38, h39, h32⟩
  obtain ⟨hte1, Z24, V24, w20, w21, g24, s52, h46, h47, h48, h49, h50, h51, h52, h45⟩ := jd
  refine c_sr ?_
  refine o_lss hte1 h52 ?_
  refine c_nil ?_
  refine c_sq ?_
  refine c_iff rfl (ran_done _) ?_
  refine c_ex ?_
  refine e_c ?_
  refine e_c ?_
  refine e_h ?_
  refine c_sr ?_
  refine o_fad h48 ?_
  refine o_ldB 2 s52 rfl rfl rfl rfl ?_
  obtain ⟨d25, rfl⟩ := ((s52.curS (s := (Sh.ro Sh.api_Sym)) 5 rfl)).val
  refine o_ldB 4 s52 rfl h49 rfl rfl ?_
  obtain ⟨x16, q27, e1⟩ := Pu.bind_some e1
  obtain ⟨Z25, V25, W10, g25, u10, c37, c38, -, c40, c39⟩ := Sat.call (l1 := []) s52
  refine o_call (mc rfl (mc rfl m0)) (X.parlmake_has nd.parlmake_has (a1 := (Ty.api_Rule.mk x7.2 y2.2)) c37 (c38 3 _ (Sh.ro Sh.api_Rule) _ _ rfl) (c38 5 _ (Sh.ro Sh.api_Sym) _ _ rfl) q27) fun _ H31 i15 => ?_
  obtain ⟨rfl, s53⟩ := i15
  have s54 := c39 _ _ s53
  refine o_not rfl ?_
  refine c_nil ?_
  obtain ⟨y4, e4, e1⟩ := Pu.bind_some e1
  refine c_jn (I := fun tm H => ∃ (Z26 V26 : PH) (w22 : Value), Gw Z25 V25 Z26 V26 ∧ Sat Z26 V26 H [pts b1 (.rw 0 [(vi 0), (vi 0), (vi 0), (.slice none 0 0)]), pts b2 (.rw 0 [w21]), pts b3 (.rw 0 [(vi (Pu.W (1 + x1.2))), (vi (Pu.W (1 + x2.2))), (vi x3.2), w22]), It.sl (Sh.ro Sh.api_Rule) w22 y4] ∧ tm 2 = (.pointer (some ⟨b1, 0, none⟩)) ∧ tm 3 = (.pointer (some ⟨b2, 0, none⟩)) ∧ tm 4 = (.pointer (some ⟨b3, 0, none⟩)) ∧ tm 23 = (vi (Pu.W (1 + x4.2))) ∧ tm 24 = (vi x5)) (fun k12 => ?_) ?_
  ·refine c_if rfl (fun q28 => ?_) (fun q28 => ?_)
   ·replace e4 := if_t q28 e4
    refine c_r ?_
    refine o_fad h48 ?_
    refine o_ldB 2 s54 rfl rfl rfl rfl ?_
    refine o_ldB 4 s54 rfl h49 rfl rfl ?_
    obtain ⟨Z27, V27, g27, s56, h58⟩ := s54.frzS 5 rfl
    replace h58 := h58.of_ro
    refine o_bsl (s := (Sh.ro Sh.api_Rule)) (us := [(vi x7.2), (.slice d25 y2.2.length y2.2.length)]) (qs := [(0, 2, (.agg #[(vi x7.2), (.slice d25 y2.2.length y2.2.length)]))]) (xs := [(Ty.api_Rule.mk x7.2 y2.2)]) s56 (Sh.ro_lt _) rfl rfl rfl (Els.cons (c := [(vi x7.2), (.slice d25 y2.2.length y2.2.length)]) (Sh.api_Rule_cl (x := (Ty.api_Rule.mk x7.2 y2.2)) h58) Els.nil) rfl rfl fun w23 H33 s57 => ?_
    obtain ⟨Z28, V28, g28, s58, h59⟩ := s57.frzS 0 rfl
    replace h59 := h59.of_ro
    obtain ⟨x17, q29, e4⟩ := Pu.bind_some e4
    refine o_app 3 s58 rfl (Sh.ro_lt _) rfl rfl rfl rfl h59 s58.z (fun h => h) (by decide) q29 fun w24 H34 s59 => ?_
    refine o_fad h48 ?_
    obtain ⟨d26, rfl⟩ := ((s59.curS (s := (Sh.ro Sh.api_Rule)) 3 rfl)).val
    refine o_stB (us' := [(vi (Pu.W (1 + x1.2))), (vi (Pu.W (1 + x2.2))), (vi x3.2), (.slice d26 x17.length x17.length)]) 2 s59 rfl rfl rfl rfl rfl rfl rfl fun H35 s60 => ?_
    refine c_nil ?_
    obtain rfl := Option.some.inj e4
    exact k12 _ _ ⟨_, _, _, (g27.trans g28), (s60.pick [0, 1, 2, 3] rfl), h46, h47, h48, h50, h51⟩
   replace e4 := ib_f q28 e4
   refine c_sk ?_
   obtain rfl := Option.some.inj e4
   exact k12 _ _ ⟨_, _, _, Gw.refl _ _, (s54.pick [0, 1, 2, 3] rfl), h46, h47, h48, h50, h51⟩
  intro _ H32 i16
  obtain ⟨Z26, V26, w22, g26, s55, h53, h54, h55, h56, h57⟩ := i16
  refine c_end ?_
  refine c_r ?_
  refine o_add h57 rfl ?_
  refine o_mv (v := (vi (Pu.W (x5 + 1)))) rfl ?_
  refine c_nil ?_
  obtain rfl := Option.some.inj e1
  exact k1 _ _ ⟨(iv rfl (w_sucR q5 q9)), _, _, _, _, (g9.trans (g10.trans (g11.trans (g12.trans (g13.trans (g24.trans (g25.trans g26))))))), s55, h53, h54, h55, h56, (h45.mono (g25.trans g26).z)⟩
 obtain ⟨hte0, Z29, V29, w25, w26, g29, s61, h61, h62, h63, h64, h60⟩ := jd
 refine c_sr ?_
 refine o_lss hte0 h64 ?_
 refine c_nil ?_
 refine c_sq ?_
 refine c_iff rfl (ran_done _) ?_
 refine c_ex ?_
 refine e_c ?_
 refine e_c ?_
 refine e_h ?_
 refine c_sr ?_
 obtain ⟨d27, rfl⟩ := ((s61.curS (s := (Sh.ro Sh.api_Rule)) 3 rfl)).val
 refine o_ldB 2 s61 rfl h63 rfl rfl ?_
 refine o_stB (us' := [(vi (Pu.W (1 + x1.2))), (vi (Pu.W (1 + x2.2))), (vi x3.2), (.slice d27 y1.2.length y1.2.length)]) 0 s61 rfl h61 rfl rfl rfl rfl rfl fun H37 s62 => ?_
 refine c_nil ?_
 refine c_rt ?_
 obtain rfl := Option.some.inj e
 exact ⟨.inr rfl, _, (arB 0 s62 rfl h61 rfl rfl), _, rfl, ((s62.pick [3] rfl).weak (g1.trans (g2.trans (g3.trans (g4.trans (g5.trans (g6.trans (g7.trans (g8.trans g29)))))))) hs.zv)⟩
/-! tree_leaf -/
structure Nd.tree_leaf (T : FuncId → Option AFunc) : Prop where
  own : Has T I.tree_leaf F.tree_leaf
set_option maxHeartbeats 1000000 in
theorem X.tree_leaf {T : FuncId → Option AFunc} (nd : Nd.tree_leaf T) {Z V : PH} {H : Hp} {v1 : Value} {a0 : Ty.api_Tree} (hs : Sat Z V H []) (hp1 : RdS Sh.api_Tree V v1 a0.Kids) {r : Bool} (e : P.tree_leaf a0 = some r) :
    G T I.tree_leaf [(.agg #[(vi a0.Rule), (vi a0.Term), v1])] H (fun rv H' => rv = (.bool r) ∧ Sat Z V H' []) := by
 unfold P.tree_leaf at e
 refine f_mk nd.own ?_
 refine c_sr ?_
 obtain ⟨d1, rfl⟩ := (hp1).val
 refine o_box hs rfl rfl fun b1 H1 s1 => ?_
 refine o_mv (v := (.bool false)) rfl ?_
 refine c_nil ?_
 refine c_sr ?_
 refine o_fad rfl ?_
 refine o_ldB 0 s1 rfl rfl rfl rfl ?_
 refine o_eql rfl rfl ?_
 refine o_mv (v := (.bool (decide (a0.Rule = (-1))))) rfl ?_
 refine c_nil ?_
 refine c_rt ?_
 obtain rfl := Option.some.inj e
 exact ⟨.inr rfl, _, (ar1 rfl), rfl, (s1.pick [] rfl)⟩
/-! tree_Size -/
structure Nd.tree_Size (T : FuncId → Option AFunc) : Prop where
  own_tree_Size : Has T I.tree_Size F.tree_Size
  tree_leaf : Nd.tree_leaf T
set_option maxHeartbeats 1000000 in
theorem X.tree_Size_rec {T : FuncId → Option AFunc} (nd : Nd.tree_Size T) : ∀ φ : Nat, (∀ {Z V : PH} {H : Hp} {v1 : Value} {a0 : Ty.api_Tree} (hs : Sat Z V H []) (hp1 : RdS Sh.api_Tree V v1 a0.Kids) {r : Int} (e : P.tree_Size φ a0 = some r), G T I.tree_Size [(.agg #[(vi a0.Rule), (vi a0.Term), v1])] H (fun rv H' => rv = (vi r) ∧ Sat Z V H' [])) := by
  intro φ
  induction φ with
  | zero =>
    intro Z V H v1 a0 hs hp1 r e
    rw [P.tree_Size] at e; cases e
  | succ φ ih =>
    intro Z V H v1 a0 hs hp1 r e
    rw [P.tree_Size] at e
    refine f_mk nd.own_tree_Size ?_
    refine c_sr ?_
    obtain ⟨d1, rfl⟩ := (hp1).val
    refine o_box hs rfl rfl fun b1 H1 s1 => ?_
    refine o_mv (v := (vi 0)) rfl ?_
    refine c_nil ?_
    refine c_sr ?_
    refine o_mv (v := (vi 1)) rfl ?_
    refine c_nil ?_
    refine c_sq ?_
    refine c_sr ?_
    refine o_ldB 0 s1 rfl rfl rfl rfl ?_
    obtain ⟨x1, q1, e⟩ := Pu.bind_some e
    obtain ⟨Z1, V1, W1, g1, u1, c1, c2, -, c4, c3⟩ := Sat.call (l1 := []) s1
    refine o_call (mc rfl m0) (X.tree_leaf nd.tree_leaf c1 (hp1.mono (g1.v.trans u1)) q1) fun _ H2 i1 => ?_
    obtain ⟨rfl, s2⟩ := i1
    have s3 := c3 _ _ s2
    refine c_nil ?_
    refine c_if rfl (fun q2 => ?_) (fun q2 => ?_)
    ·replace e := if_t q2 e
     refine c_sr ?_
     refine o_mv (v := (vi 1)) rfl ?_
     refine o_mv (v := (vi 1)) rfl ?_
     refine c_nil ?_
     refine c_rt ?_
     obtain rfl := Option.some.inj e
     exact ⟨.inr rfl, _, (ar1 rfl), rfl, ((s3.pick [] rfl).weak g1 hs.zv)⟩
    replace e := ib_f q2 e
    refine c_sk ?_
    refine c_sq ?_
    refine c_sr ?_
    refine o_fad rfl ?_
    refine o_ldB 0 s3 rfl rfl rfl rfl ?_
    refine o_len rfl ((hp1.mono g1.v)).len ?_
    refine o_mv (v := (vi 0)) rfl ?_
    refine c_nil ?_
    obtain ⟨y1, q5, e⟩ := Pu.bind_some e
    refine c_bk ?_
    refine l_forP (xs := a0.Kids) (fun (i2 : Nat) (s4 : Int) tm H => tm 12 = vi i2 ∧ ∃ (Z2 V2 : PH), Gw Z1 V1 Z2 V2 ∧ Sat Z2 V2 H [] ∧ tm 3 = (vi s4) ∧ tm 10 = (.slice d1 a0.Kids.length a0.Kids.length) ∧ tm 11 = (vi (a0.Kids.length : Int))) (fun i2 x2 s4 s6 tm H4 q3 q4 j1 e1 k1 => ?_) (fun tm H3 jd => ?_) q5 ⟨rfl, _, _, Gw.refl _ _, (s3.pick [] rfl), rfl, rfl, rfl⟩
    ·obtain ⟨hti0, Z2, V2, g2, s5, h1, h2, h3⟩ := j1
     unfold P.tree_Size.b0 at e1
     refine c_sr ?_
     refine o_lss hti0 h3 ?_
     refine c_nil ?_
     refine c_sq ?_
     refine c_ift rfl (Int.ofNat_lt.2 q4) ?_
     refine c_sk ?_
     refine c_sq ?_
     refine c_bk ?_
     refine c_sr ?_
     refine o_idx (v := (.slice d1 a0.Kids.length a0.Kids.length)) h2 hti0 (hp1.mono (g1.trans g2).v) rfl (Pu.ix_nat.trans q3) fun p1 q6 => ?_
     refine o_lda rfl (hp1.mono (g1.trans g2).v) s5.v rfl q6 (Pu.ix_nat.trans q3) fun c5 h4 => ?_
     obtain ⟨w1, rfl, h5⟩ := Sh.api_Tree_op h4
     refine o_new s5 fun b2 H5 s7 => ?_
     obtain ⟨d2, rfl⟩ := (h5).val
     refine o_stB (us' := [(vi x2.Rule), (vi x2.Term), (.slice d2 x2.Kids.length x2.Kids.length)]) 0 s7 rfl rfl rfl rfl rfl rfl rfl fun H6 s8 => ?_
     refine c_nil ?_
     refine c_r ?_
     refine o_mv (v := (vi s4)) h1 ?_
     refine o_ldB 0 s8 rfl rfl rfl rfl ?_
     obtain ⟨x3, q7, e1⟩ := Pu.bind_some e1
     obtain ⟨Z3, V3, W2, g3, u2, c6, c7, -, c9, c8⟩ := Sat.call (l1 := []) s8
     refine o_call (mc rfl m0) (ih c6 (h5.mono (g3.v.trans u2)) q7) fun _ H7 i3 => ?_
     obtain ⟨rfl, s9⟩ := i3
     have s10 := c8 _ _ s9
     refine o_add rfl rfl ?_
     refine o_mv (v := (vi (Pu.W (s4 + x3)))) rfl ?_
     refine c_nil ?_
     refine c_end ?_
     refine c_r ?_
     refine o_add hti0 rfl ?_
     refine o_mv (v := (vi (Pu.W ((i2 : Int) + 1)))) rfl ?_
     refine c_nil ?_
     obtain rfl := Option.some.inj e1
     exact k1 _ _ ⟨(iv rfl (w_suc q4 ((hp1.mono g1.v)).bd)), _, _, (g2.trans g3), (s10.pick [] rfl), rfl, h2, h3⟩
    obtain ⟨hte0, Z4, V4, g4, s11, h6, h7, h8⟩ := jd
    refine c_sr ?_
    refine o_lss hte0 h8 ?_
    refine c_nil ?_
    refine c_sq ?_
    refine c_iff rfl (Int.lt_irrefl _) ?_
    refine c_ex ?_
    refine e_c ?_
    refine e_c ?_
    refine e_h ?_
    refine c_sr ?_
    refine o_mv (v := (vi y1)) h6 ?_
    refine o_mv (v := (vi y1)) rfl ?_
    refine c_nil ?_
    refine c_rt ?_
    obtain rfl := Option.some.inj e
    exact ⟨.inr rfl, _, (ar1 rfl), rfl, (s11.weak (g1.trans g4) hs.zv)⟩
theorem X.tree_Size {T : FuncId → Option AFunc} (nd : Nd.tree_Size T) {φ : Nat} {Z V : PH} {H : Hp} {v1 : Value} {a0 : Ty.api_Tree} (hs : Sat Z V H []) (hp1 : RdS Sh.api_Tree V v1 a0.Kids) {r : Int} (e : P.tree_Size φ a0 = some r) :
    G T I.tree_Size [(.agg #[(vi a0.Rule), (vi a0.Term), v1])] H (fun rv H' => rv = (vi r) ∧ Sat Z V H' []) := (X.tree_Size_rec nd φ) hs hp1 e
/-! cmp_isNaN_int -/
structure Nd.cmp_isNaN_int (T : FuncId → Option AFunc) : Prop where
  own : Has T I.cmp_isNaN_int F.cmp_isNaN_int
set_option maxHeartbeats 1000000 in
theorem X.cmp_isNaN_int {T : FuncId → Option AFunc} (nd : Nd.cmp_isNaN_int T) {Z V : PH} {H : Hp} {a0 : Int} (hs : Sat Z V H []) {r : Bool} (e : P.cmp_isNaN_int a0 = some r) :
    G T I.cmp_isNaN_int [(vi a0)] H (fun rv H' => rv = (.bool r) ∧ Sat Z V H' []) := by
 unfold P.cmp_isNaN_int at e
 refine f_mk nd.own ?_
 refine c_sr ?_
 refine o_mv (v := (.bool false)) rfl ?_
 refine c_nil ?_
 refine c_sr ?_
 refine o_mv (v := (vi a0)) rfl ?_
 refine o_mv (v := (vi a0)) rfl ?_
 refine o_neq rfl rfl ?_
 refine o_mv (v := (.bool (decide (a0 ≠ a0)))) rfl ?_
 refine c_nil ?_
 refine c_rt ?_
 obtain rfl := Option.some.inj e
 exact ⟨.inr rfl, _, (ar1 rfl), rfl, hs⟩
/-! cmp_Compare_int -/
structure Nd.cmp_Compare_int (T : FuncId → Option AFunc) : Prop where
  own : Has T I.cmp_Compare_int F.cmp_Compare_int
  cmp_isNaN_int : Nd.cmp_isNaN_int T
set_option maxHeartbeats 1000000 in
theorem X.cmp_Compare_int {T : FuncId → Option AFunc} (nd : Nd.cmp_Compare_int T) {Z V : PH} {H : Hp} {a0 : Int} {a1 : Int} (hs : Sat Z V H []) {r : Int} (e : P.cmp_Compare_int a0 a1 = some r) :
    G T I.cmp_Compare_int [(vi a0), (vi a1)] H (fun rv H' => rv = (vi r) ∧ Sat Z V H' []) := by
 unfold P.cmp_Compare_int at e
 refine f_mk nd.own ?_
 refine c_sr ?_
 refine o_mv (v := (vi 0)) rfl ?_
 refine c_nil ?_
 refine c_sr ?_
 refine o_mv (v := (vi a0)) rfl ?_
 obtain ⟨x1, q1, e⟩ := Pu.bind_some e
 obtain ⟨Z1, V1, W1, g1, u1, c1, c2, -, c4, c3⟩ := Sat.call (l1 := []) hs
 refine o_call (mc rfl m0) (X.cmp_isNaN_int nd.cmp_isNaN_int c1 q1) fun _ H1 i1 => ?_
 obtain ⟨rfl, s1⟩ := i1
 have s2 := c3 _ _ s1
 refine o_mv (v := (.bool x1)) rfl ?_
 refine c_nil ?_
 refine c_sr ?_
 refine o_mv (v := (vi a1)) rfl ?_
 obtain ⟨x2, q2, e⟩ := Pu.bind_some e
 obtain ⟨Z2, V2, W2, g2, u2, c5, c6, -, c8, c7⟩ := Sat.call (l1 := []) s2
 refine o_call (mc rfl m0) (X.cmp_isNaN_int nd.cmp_isNaN_int c5 q2) fun _ H2 i2 => ?_
 obtain ⟨rfl, s3⟩ := i2
 have s4 := c7 _ _ s3
 refine o_mv (v := (.bool x2)) rfl ?_
 refine c_nil ?_
 refine c_sq ?_
 refine c_sr ?_
 refine o_mv (v := (.bool x1)) rfl ?_
 refine c_nil ?_
 refine c_if rfl (fun q3 => ?_) (fun q3 => ?_)
 ·replace e := if_t q3 e
  refine c_sq ?_
  refine c_sr ?_
  refine o_mv (v := (.bool x2)) rfl ?_
  refine c_nil ?_
  refine c_if rfl (fun q4 => ?_) (fun q4 => ?_)
  ·replace e := if_t q4 e
   refine c_sr ?_
   refine o_mv (v := (vi 0)) rfl ?_
   refine c_nil ?_
   refine c_gen (P := fun tm => tm 4 = (vi 0) ∧ True) ⟨rfl, trivial⟩ ?_
   intro _ i3
   obtain ⟨h1, -⟩ := i3
   refine c_rt ?_
   obtain rfl := Option.some.inj e
   exact ⟨.inr rfl, _, (ar1 h1), rfl, (s4.weak (g1.trans g2) hs.zv)⟩
  replace e := ib_f q4 e
  refine c_sk ?_
  refine c_sr ?_
  refine o_mv (v := (vi (-1))) rfl ?_
  refine c_nil ?_
  refine c_gen (P := fun tm => tm 4 = (vi (-1)) ∧ True) ⟨rfl, trivial⟩ ?_
  intro _ i4
  obtain ⟨h2, -⟩ := i4
  refine c_rt ?_
  obtain rfl := Option.some.inj e
  exact ⟨.inr rfl, _, (ar1 h2), rfl, (s4.weak (g1.trans g2) hs.zv)⟩
 replace e := ib_f q3 e
 refine c_sk ?_
 refine c_sq ?_
 refine c_sr ?_
 refine o_mv (v := (.bool x2)) rfl ?_
 refine c_nil ?_
 refine c_if rfl (fun q5 => ?_) (fun q5 => ?_)
 ·replace e := if_t q5 e
  refine c_sr ?_
  refine o_mv (v := (vi 1)) rfl ?_
  refine c_nil ?_
  refine c_gen (P := fun tm => tm 4 = (vi 1) ∧ True) ⟨rfl, trivial⟩ ?_
  intro _ i5
  obtain ⟨h3, -⟩ := i5
  refine c_rt ?_
  obtain rfl := Option.some.inj e
  exact ⟨.inr rfl, _, (ar1 h3), rfl, (s4.weak (g1.trans g2) hs.zv)⟩
 replace e := ib_f q5 e
 refine c_sk ?_
 refine c_sq ?_
 refine c_sr ?_
 refine o_mv (v := (vi a0)) rfl ?_
 refine o_mv (v := (vi a1)) rfl ?_
 refine o_lss rfl rfl ?_
 refine c_nil ?_
 refine c_gen (P := fun tm => tm 0 = (vi a0) ∧ tm 1 = (vi a1) ∧ tm 16 = (.bool (decide (a0 < a1))) ∧ True) ⟨rfl, rfl, rfl, trivial⟩ ?_
 intro _ i6
 obtain ⟨h4, h5, h6, -⟩ := i6
 refine c_ifd h6 (fun q6 => ?_) (fun q6 => ?_)
 ·replace e := if_t q6 e
  refine c_sr ?_
  refine o_mv (v := (vi (-1))) rfl ?_
  refine c_nil ?_
  refine c_rt ?_
  obtain rfl := Option.some.inj e
  exact ⟨.inr rfl, _, (ar1 rfl), rfl, (s4.weak (g1.trans g2) hs.zv)⟩
 replace e := if_f q6 e
 refine c_sk ?_
 refine c_sq ?_
 refine c_sr ?_
 refine o_mv (v := (vi a0)) h4 ?_
 refine o_mv (v := (vi a1)) h5 ?_
 refine o_gtr rfl rfl ?_
 refine c_nil ?_
 refine c_ifd rfl (fun q7 => ?_) (fun q7 => ?_)
 ·replace e := if_t q7 e
  refine c_sr ?_
  refine o_mv (v := (vi 1)) rfl ?_
  refine c_nil ?_
  refine c_rt ?_
  obtain rfl := Option.some.inj e
  exact ⟨.inr rfl, _, (ar1 rfl), rfl, (s4.weak (g1.trans g2) hs.zv)⟩
 replace e := if_f q7 e
 refine c_sk ?_
 refine c_sr ?_
 refine o_mv (v := (vi 0)) rfl ?_
 refine c_nil ?_
 refine c_rt ?_
 obtain rfl := Option.some.inj e
 exact ⟨.inr rfl, _, (ar1 rfl), rfl, (s4.weak (g1.trans g2) hs.zv)⟩
/-! gram_Order -/
structure Nd.gram_Order (T : FuncId → Option AFunc) : Prop where
  own : Has T I.gram_Order F.gram_Order
  cmp_Compare_int : Nd.cmp_Compare_int T
set_option maxHeartbeats 1000000 in
theorem X.gram_Order {T : FuncId → Option AFunc} (nd : Nd.gram_Order T) {Z V : PH} {H : Hp} {a0 : Ty.api_Sym} {a1 : Ty.api_Sym} (hs : Sat Z V H []) {r : Int} (e : P.gram_Order a0 a1 = some r) :
    G T I.gram_Order [(.agg #[(.bool a0.Term), (vi a0.N)]), (.agg #[(.bool a1.Term), (vi a1.N)])] H (fun rv H' => rv = (vi r) ∧ Sat Z V H' []) := by
 unfold P.gram_Order at e
 refine f_mk nd.own ?_
 refine c_sr ?_
 refine o_box hs rfl rfl fun b1 H1 s1 => ?_
 refine o_box s1 rfl rfl fun b2 H2 s2 => ?_
 refine o_mv (v := (vi 0)) rfl ?_
 refine c_nil ?_
 refine c_sq ?_
 refine c_bk ?_
 refine c_sr ?_
 refine o_fad rfl ?_
 refine o_ldB 1 s2 rfl rfl rfl rfl ?_
 refine o_mv (v := (.bool a0.Term)) rfl ?_
 refine o_jn 4 (I := fun tm H => tm 12 = .bool (a0.Term && (!a1.Term)) ∧ (∃ (Z1 V1 : PH), Gw Z V Z1 V1 ∧ Sat Z1 V1 H [pts b1 (.rw 0 [(.bool a0.Term), (vi a0.N)]), pts b2 (.rw 0 [(.bool a1.Term), (vi a1.N)])] ∧ tm 2 = (.pointer (some ⟨b1, 0, none⟩)) ∧ tm 3 = (.pointer (some ⟨b2, 0, none⟩)))) (fun k1 => ?_) ?_
 ·rcases Bool.eq_false_or_eq_true a0.Term with q1 | q1
  ·refine o_gy rfl q1 ?_
   refine o_fad rfl ?_
   refine o_gy rfl q1 ?_
   refine o_ldB 0 s2 rfl rfl rfl rfl ?_
   refine o_gy rfl q1 ?_
   refine o_not rfl ?_
   refine o_pickt (a := (.bool (!a1.Term))) rfl q1 rfl ?_
   exact k1 _ _ ⟨gf rfl (by first | (rw [q1]; first | done | rfl) | simp [q1]), _, _, Gw.refl _ _, (s2.pick [1, 0] rfl), rfl, rfl⟩
  refine o_gn rfl q1 ?_
  refine o_gn rfl q1 ?_
  refine o_gn rfl q1 ?_
  refine o_pickf (b := (.bool false)) rfl q1 rfl ?_
  exact k1 _ _ ⟨gf rfl (by first | (rw [q1]; first | done | rfl) | simp [q1]), _, _, Gw.refl _ _, (s2.pick [1, 0] rfl), rfl, rfl⟩
 intro _ H3 i1
 obtain ⟨h3, Z1, V1, g1, s3, h1, h2⟩ := i1
 refine o_mv (v := (.bool (a0.Term && (!a1.Term)))) h3 ?_
 refine c_nil ?_
 refine c_if rfl (fun q2 => ?_) (fun q2 => ?_)
 ·replace e := if_t q2 e
  refine c_sr ?_
  refine o_mv (v := (vi (-1))) rfl ?_
  refine c_nil ?_
  refine c_rt ?_
  obtain rfl := Option.some.inj e
  exact ⟨.inr rfl, _, (ar1 rfl), rfl, ((s3.pick [] rfl).weak g1 hs.zv)⟩
 replace e := ib_f q2 e
 refine c_sr ?_
 refine o_fad h1 ?_
 refine o_ldB 0 s3 rfl rfl rfl rfl ?_
 refine o_not rfl ?_
 refine o_mv (v := (.bool (!a0.Term))) rfl ?_
 refine o_jn 3 (I := fun tm H => tm 20 = .bool ((!a0.Term) && a1.Term) ∧ (∃ (Z2 V2 : PH), Gw Z1 V1 Z2 V2 ∧ Sat Z2 V2 H [pts b1 (.rw 0 [(.bool a0.Term), (vi a0.N)]), pts b2 (.rw 0 [(.bool a1.Term), (vi a1.N)])] ∧ tm 2 = (.pointer (some ⟨b1, 0, none⟩)) ∧ tm 3 = (.pointer (some ⟨b2, 0, none⟩)))) (fun k2 => ?_) ?_
 ·rcases Bool.eq_false_or_eq_true (!a0.Term) with q3 | q3
  ·refine o_gy rfl q3 ?_
   refine o_fad h2 ?_
   refine o_gy rfl q3 ?_
   refine o_ldB 1 s3 rfl rfl rfl rfl ?_
   refine o_pickt (a := (.bool a1.Term)) rfl q3 rfl ?_
   exact k2 _ _ ⟨gf rfl (by first | (rw [q3]; first | done | rfl) | simp [q3]), _, _, Gw.refl _ _, s3, h1, h2⟩
  refine o_gn rfl q3 ?_
  refine o_gn rfl q3 ?_
  refine o_pickf (b := (.bool false)) rfl q3 rfl ?_
  exact k2 _ _ ⟨gf rfl (by first | (rw [q3]; first | done | rfl) | simp [q3]), _, _, Gw.refl _ _, s3, h1, h2⟩
 intro _ H4 i2
 obtain ⟨h6, Z2, V2, g2, s4, h4, h5⟩ := i2
 refine o_mv (v := (.bool ((!a0.Term) && a1.Term))) h6 ?_
 refine c_nil ?_
 refine c_if rfl (fun q4 => ?_) (fun q4 => ?_)
 ·replace e := if_t q4 e
  refine c_sr ?_
  refine o_mv (v := (vi 1)) rfl ?_
  refine c_nil ?_
  refine c_rt ?_
  obtain rfl := Option.some.inj e
  exact ⟨.inr rfl, _, (ar1 rfl), rfl, ((s4.pick [] rfl).weak (g1.trans g2) hs.zv)⟩
 replace e := ib_f q4 e
 refine c_sk ?_
 refine c_end ?_
 refine c_sr ?_
 refine o_fad h4 ?_
 refine o_ldB 0 s4 rfl rfl rfl rfl ?_
 refine o_fad h5 ?_
 refine o_ldB 1 s4 rfl rfl rfl rfl ?_
 obtain ⟨x1, q5, e⟩ := Pu.bind_some e
 obtain ⟨Z3, V3, W1, g3, u1, c1, c2, -, c4, c3⟩ := Sat.call (l1 := []) s4
 refine o_call (mc rfl (mc rfl m0)) (X.cmp_Compare_int nd.cmp_Compare_int c1 q5) fun _ H5 i3 => ?_
 obtain ⟨rfl, s5⟩ := i3
 have s6 := c3 _ _ s5
 refine o_mv (v := (vi x1)) rfl ?_
 refine c_nil ?_
 refine c_rt ?_
 obtain rfl := Option.some.inj e
 exact ⟨.inr rfl, _, (ar1 rfl), rfl, ((s6.pick [] rfl).weak (g1.trans (g2.trans g3)) hs.zv)⟩
/-! slices_CompareFunc_api_Sym_api_Sym_api_Sym_api_Sym__gram_Order -/
structure Nd.slices_CompareFunc_api_Sym_api_Sym_api_Sym_api_Sym__gram_Order (T : FuncId → Option AFunc) : Prop where
  own : Has T I.slices_CompareFunc_api_Sym_api_Sym_api_Sym_api_Sym F.slices_CompareFunc_api_Sym_api_Sym_api_Sym_api_Sym
  gram_Order : Nd.gram_Order T
set_option maxHeartbeats 1000000 in
theorem X.slices_CompareFunc_api_Sym_api_Sym_api_Sym_api_Sym__gram_Order {T : FuncId → Option AFunc} (nd : Nd.slices_CompareFunc_api_Sym_api_Sym_api_Sym_api_Sym__gram_Order T) {Z V : PH} {H : Hp} {v1 : Value} {v2 : Value} {a0 : (List Ty.api_Sym)} {a1 : (List Ty.api_Sym)} (hs : Sat Z V H []) (hp1 : RdS Sh.api_Sym V v1 a0) (hp2 : RdS Sh.api_Sym V v2 a1) {r : Int} (e : P.slices_CompareFunc_api_Sym_api_Sym_api_Sym_api_Sym__gram_Order a0 a1 = some r) :
    G T I.slices_CompareFunc_api_Sym_api_Sym_api_Sym_api_Sym [v1, v2, (.func (.func I.gram_Order) #[] #[])] H (fun rv H' => rv = (vi r) ∧ Sat Z V H' []) := by
 unfold P.slices_CompareFunc_api_Sym_api_Sym_api_Sym_api_Sym__gram_Order at e
 refine f_mk nd.own ?_
 refine c_sr ?_
 refine o_mv (v := (vi 0)) rfl ?_
 refine c_nil ?_
 refine c_sq ?_
 refine c_sr ?_
 refine o_mv (v := v1) rfl ?_
 refine o_len rfl (hp1).len ?_
 refine o_mv (v := (vi 0)) rfl ?_
 refine c_nil ?_
 obtain ⟨y1, q3, e⟩ := Pu.bind_some e
 refine c_jn (I := fun tm H => ∃ (s3 : Unit), y1 = .out s3 ∧ (∃ (Z2 V2 : PH), Gw Z V Z2 V2 ∧ Sat Z2 V2 H [] ∧ tm 0 = v1 ∧ tm 1 = v2 ∧ tm 2 = (.func (.func I.gram_Order) #[] #[]) ∧ tm 11 = v1 ∧ tm 12 = (vi (a0.length : Int)))) (fun k4 => ?_) ?_
 ·refine c_bk ?_
  refine l_forL (xs := a0) (fun (i1 : Nat) (s1 : Unit) tm H => tm 13 = vi i1 ∧ ∃ (Z1 V1 : PH), Gw Z V Z1 V1 ∧ Sat Z1 V1 H [] ∧ tm 0 = v1 ∧ tm 1 = v2 ∧ tm 2 = (.func (.func I.gram_Order) #[] #[]) ∧ tm 11 = v1 ∧ tm 12 = (vi (a0.length : Int))) (fun i1 x1 s1 y2 tm H2 q1 q2 j1 e1 k1 k2 k3 => ?_) (fun s1 tm H1 jf jd => ?_) q3 ⟨rfl, _, _, Gw.refl _ _, hs, rfl, rfl, rfl, rfl, rfl⟩
  ·obtain ⟨hti0, Z1, V1, g1, s2, h1, h2, h3, h4, h5⟩ := j1
   unfold P.slices_CompareFunc_api_Sym_api_Sym_api_Sym_api_Sym__gram_Order.b0 at e1
   refine c_sr ?_
   refine o_lss hti0 h5 ?_
   refine c_nil ?_
   refine c_sq ?_
   refine c_ift rfl (Int.ofNat_lt.2 q2) ?_
   refine c_sk ?_
   refine c_sq ?_
   refine c_bk ?_
   refine c_sr ?_
   refine o_mv (v := (vi (i1 : Int))) hti0 ?_
   refine o_idx (v := v1) h4 hti0 (hp1.mono g1.v) rfl (Pu.ix_nat.trans q1) fun p1 q4 => ?_
   refine o_lda rfl (hp1.mono g1.v) s2.v rfl q4 (Pu.ix_nat.trans q1) fun c1 h11 => ?_
   obtain rfl := h11
   refine o_new s2 fun b1 H4 s5 => ?_
   refine o_mv (v := (vi (i1 : Int))) rfl ?_
   refine o_stB (us' := [(.bool x1.Term), (vi x1.N)]) 0 s5 rfl rfl rfl rfl rfl rfl rfl fun H5 s6 => ?_
   refine c_nil ?_
   refine c_sq ?_
   refine c_sr ?_
   refine o_mv (v := (vi (i1 : Int))) rfl ?_
   refine o_mv (v := v2) h2 ?_
   refine o_len rfl ((hp2.mono g1.v)).len ?_
   refine o_geq rfl rfl ?_
   refine c_nil ?_
   refine c_gen (P := fun tm => tm 0 = v1 ∧ tm 1 = v2 ∧ tm 2 = (.func (.func I.gram_Order) #[] #[]) ∧ tm 7 = (vi (i1 : Int)) ∧ tm 8 = (.pointer (some ⟨b1, 0, none⟩)) ∧ tm 11 = v1 ∧ tm 12 = (vi (a0.length : Int)) ∧ tm 13 = (vi (i1 : Int)) ∧ tm 21 = (.bool (decide ((a1.length : Int) ≤ (i1 : Int)))) ∧ True) ⟨h1, h2, h3, rfl, rfl, h4, h5, hti0, rfl, trivial⟩ ?_
   intro _ i2
   obtain ⟨h12, h13, h14, h15, h16, h17, h18, h19, h20, -⟩ := i2
   refine c_ifd h20 (fun q5 => ?_) (fun q5 => ?_)
   ·replace e1 := if_t q5 e1
    refine c_sr ?_
    refine o_mv (v := (vi 1)) rfl ?_
    refine c_nil ?_
    refine c_rt ?_
    have e2 := fin_r (k3 _ (Option.some.inj e1).symm) e
    obtain rfl := Option.some.inj e2
    exact ⟨.inr rfl, _, (ar1 rfl), rfl, ((s6.pick [] rfl).weak g1 hs.zv)⟩
   replace e1 := if_f q5 e1
   refine c_sk ?_
   refine c_sr ?_
   refine o_mv (v := v2) h13 ?_
   refine o_mv (v := (vi (i1 : Int))) h15 ?_
   obtain ⟨x2, q6, e1⟩ := Pu.bind_some e1
   refine o_idx (v := v2) rfl rfl (hp2.mono g1.v) rfl q6 fun p2 q7 => ?_
   refine o_lda rfl (hp2.mono g1.v) s6.v rfl q7 q6 fun c2 h21 => ?_
   obtain rfl := h21
   refine o_new s6 fun b2 H6 s7 => ?_
   refine o_stB (us' := [(.bool x2.Term), (vi x2.N)]) 0 s7 rfl rfl rfl rfl rfl rfl rfl fun H7 s8 => ?_
   refine c_nil ?_
   refine c_sr ?_
   refine o_mv (v := (.func (.func I.gram_Order) #[] #[])) h14 ?_
   refine o_ldB 1 s8 rfl h16 rfl rfl ?_
   refine o_ldB 0 s8 rfl rfl rfl rfl ?_
   obtain ⟨x3, q8, e1⟩ := Pu.bind_some e1
   obtain ⟨Z3, V3, W1, g3, u1, c3, c4, -, c6, c5⟩ := Sat.call (l1 := []) s8
   refine o_callv rfl (mc rfl (mc rfl m0)) (X.gram_Order nd.gram_Order c3 q8) fun _ H8 i3 => ?_
   obtain ⟨rfl, s9⟩ := i3
   have s10 := c5 _ _ s9
   refine o_mv (v := (vi x3)) rfl ?_
   refine c_nil ?_
   refine c_gen (P := fun tm => tm 0 = v1 ∧ tm 1 = v2 ∧ tm 2 = (.func (.func I.gram_Order) #[] #[]) ∧ tm 10 = (vi x3) ∧ tm 11 = v1 ∧ tm 12 = (vi (a0.length : Int)) ∧ tm 13 = (vi (i1 : Int)) ∧ True) ⟨h12, h13, h14, rfl, h17, h18, h19, trivial⟩ ?_
   intro _ i4
   obtain ⟨h22, h23, h24, h25, h26, h27, h28, -⟩ := i4
   refine c_sr ?_
   refine o_mv (v := (vi x3)) h25 ?_
   refine o_neq rfl rfl ?_
   refine c_nil ?_
   refine c_ifd rfl (fun q9 => ?_) (fun q9 => ?_)
   ·replace e1 := if_t q9 e1
    refine c_sr ?_
    refine o_mv (v := (vi x3)) h25 ?_
    refine o_mv (v := (vi x3)) rfl ?_
    refine c_nil ?_
    refine c_rt ?_
    have e3 := fin_r (k3 _ (Option.some.inj e1).symm) e
    obtain rfl := Option.some.inj e3
    exact ⟨.inr rfl, _, (ar1 rfl), rfl, ((s10.pick [] rfl).weak (g1.trans g3) hs.zv)⟩
   replace e1 := if_f q9 e1
   refine c_sk ?_
   refine c_end ?_
   refine c_r ?_
   refine o_add h28 rfl ?_
   refine o_mv (v := (vi (Pu.W ((i1 : Int) + 1)))) rfl ?_
   refine c_nil ?_
   exact k1 _ _ _ (Option.some.inj e1).symm ⟨(iv rfl (w_suc q2 (hp1).bd)), _, _, (g1.trans g3), (s10.pick [] rfl), h22, h23, h24, h26, h27⟩
  ·obtain ⟨hte0, Z4, V4, g4, s11, h29, h30, h31, h32, h33⟩ := jd
   refine c_sr ?_
   refine o_lss hte0 h33 ?_
   refine c_nil ?_
   refine c_sq ?_
   refine c_iff rfl (Int.lt_irrefl _) ?_
   refine c_ex ?_
   refine e_c ?_
   refine e_c ?_
   refine e_h ?_
   exact k4 _ _ ⟨_, jf, _, _, g4, s11, h29, h30, h31, h32, h33⟩
 intro _ H3 i5
 obtain ⟨s3, f1, Z2, V2, g2, s4, h6, h7, h8, h9, h10⟩ := i5
 replace e := fin_o f1 e
 refine c_sq ?_
 refine c_sr ?_
 refine o_mv (v := v1) h6 ?_
 refine o_len rfl ((hp1.mono g2.v)).len ?_
 refine o_mv (v := v2) h7 ?_
 refine o_len rfl ((hp2.mono g2.v)).len ?_
 refine o_lss rfl rfl ?_
 refine c_nil ?_
 refine c_ifd rfl (fun q10 => ?_) (fun q10 => ?_)
 ·replace e := if_t q10 e
  refine c_sr ?_
  refine o_mv (v := (vi (-1))) rfl ?_
  refine c_nil ?_
  refine c_rt ?_
  obtain rfl := Option.some.inj e
  exact ⟨.inr rfl, _, (ar1 rfl), rfl, (s4.weak g2 hs.zv)⟩
 replace e := if_f q10 e
 refine c_sk ?_
 refine c_sr ?_
 refine o_mv (v := (vi 0)) rfl ?_
 refine c_nil ?_
 refine c_rt ?_
 obtain rfl := Option.some.inj e
 exact ⟨.inr rfl, _, (ar1 rfl), rfl, (s4.weak g2 hs.zv)⟩
/-! gram_Compare -/
structure Nd.gram_Compare (T : FuncId → Option AFunc) : Prop where
  own : Has T I.gram_Compare F.gram_Compare
  cmp_Compare_int : Nd.cmp_Compare_int T
  slices_CompareFunc_api_Sym_api_Sym_api_Sym_api_Sym__gram_Order : Nd.slices_CompareFunc_api_Sym_api_Sym_api_Sym_api_Sym__gram_Order T
set_option maxHeartbeats 1000000 in
theorem X.gram_Compare {T : FuncId → Option AFunc} (nd : Nd.gram_Compare T) {Z V : PH} {H : Hp} {v1 : Value} {v2 : Value} {a0 : Ty.api_Rule} {a1 : Ty.api_Rule} (hs : Sat Z V H []) (hp1 : RdS Sh.api_Sym V v1 a0.Right) (hp2 : RdS Sh.api_Sym V v2 a1.Right) {r : Int} (e : P.gram_Compare a0 a1 = some r) :
    G T I.gram_Compare [(.agg #[(vi a0.Left), v1]), (.agg #[(vi a1.Left), v2])] H (fun rv H' => rv = (vi r) ∧ Sat Z V H' []) := by
 unfold P.gram_Compare at e
 refine f_mk nd.own ?_
 refine c_sr ?_
 obtain ⟨d1, rfl⟩ := (hp1).val
 refine o_box hs rfl rfl fun b1 H1 s1 => ?_
 obtain ⟨d2, rfl⟩ := (hp2).val
 refine o_box s1 rfl rfl fun b2 H2 s2 => ?_
 refine o_mv (v := (vi 0)) rfl ?_
 refine c_nil ?_
 refine c_sq ?_
 refine c_sr ?_
 refine o_fad rfl ?_
 refine o_ldB 1 s2 rfl rfl rfl rfl ?_
 refine o_fad rfl ?_
 refine o_ldB 0 s2 rfl rfl rfl rfl ?_
 obtain ⟨x1, q1, e⟩ := Pu.bind_some e
 obtain ⟨Z1, V1, W1, g1, u1, c1, c2, -, c4, c3⟩ := Sat.call (l1 := []) s2
 refine o_call (mc rfl (mc rfl m0)) (X.cmp_Compare_int nd.cmp_Compare_int c1 q1) fun _ H3 i1 => ?_
 obtain ⟨rfl, s3⟩ := i1
 have s4 := c3 _ _ s3
 refine o_mv (v := (vi x1)) rfl ?_
 refine c_nil ?_
 refine c_sr ?_
 refine o_mv (v := (vi x1)) rfl ?_
 refine o_neq rfl rfl ?_
 refine c_nil ?_
 refine c_gen (P := fun tm => tm 2 = (.pointer (some ⟨b1, 0, none⟩)) ∧ tm 3 = (.pointer (some ⟨b2, 0, none⟩)) ∧ tm 5 = (vi x1) ∧ tm 12 = (.bool (decide (x1 ≠ 0))) ∧ True) ⟨rfl, rfl, rfl, rfl, trivial⟩ ?_
 intro _ i2
 obtain ⟨h1, h2, h3, h4, -⟩ := i2
 refine c_ifd h4 (fun q2 => ?_) (fun q2 => ?_)
 ·replace e := if_t q2 e
  refine c_sr ?_
  refine o_mv (v := (vi x1)) h3 ?_
  refine o_mv (v := (vi x1)) rfl ?_
  refine c_nil ?_
  refine c_rt ?_
  obtain rfl := Option.some.inj e
  exact ⟨.inr rfl, _, (ar1 rfl), rfl, ((s4.pick [] rfl).weak g1 hs.zv)⟩
 replace e := if_f q2 e
 refine c_sk ?_
 refine c_sr ?_
 refine o_fad h1 ?_
 refine o_ldB 1 s4 rfl rfl rfl rfl ?_
 refine o_fad h2 ?_
 refine o_ldB 0 s4 rfl rfl rfl rfl ?_
 obtain ⟨x2, q3, e⟩ := Pu.bind_some e
 obtain ⟨Z2, V2, W2, g2, u2, c5, c6, -, c8, c7⟩ := Sat.call (l1 := []) s4
 refine o_call (mc rfl (mc rfl (mc rfl m0))) (X.slices_CompareFunc_api_Sym_api_Sym_api_Sym_api_Sym__gram_Order nd.slices_CompareFunc_api_Sym_api_Sym_api_Sym_api_Sym__gram_Order c5 (hp1.mono ((g1.trans g2).v.trans u2)) (hp2.mono ((g1.trans g2).v.trans u2)) q3) fun _ H4 i3 => ?_
 obtain ⟨rfl, s5⟩ := i3
 have s6 := c7 _ _ s5
 refine o_mv (v := (vi x2)) rfl ?_
 refine c_nil ?_
 refine c_rt ?_
 obtain rfl := Option.some.inj e
 exact ⟨.inr rfl, _, (ar1 rfl), rfl, ((s6.pick [] rfl).weak (g1.trans g2) hs.zv)⟩
/-! gram_Check -/
structure Nd.gram_Check (T : FuncId → Option AFunc) : Prop where
  own : Has T I.gram_Check F.gram_Check
  gram_Compare : Nd.gram_Compare T
set_option maxHeartbeats 1000000 in
theorem X.gram_Check {T : FuncId → Option AFunc} (nd : Nd.gram_Check T) {Z V : PH} {H : Hp} {v1 : Value} {a0 : Ty.api_Grammar} (hs : Sat Z V H []) (hp1 : RdS Sh.api_Rule V v1 a0.Rules) {r : Int} (e : P.gram_Check a0 = some r) :
    G T I.gram_Check [(.agg #[(vi a0.Terms), (vi a0.Nons), (vi a0.Start), v1])] H (fun rv H' => rv = (vi r) ∧ Sat Z V H' []) := by
 unfold P.gram_Check at e
 refine f_mk nd.own ?_
 refine c_sr ?_
 obtain ⟨d1, rfl⟩ := (hp1).val
 refine o_box hs rfl rfl fun b1 H1 s1 => ?_
 refine o_mv (v := (vi 0)) rfl ?_
 refine c_nil ?_
 refine c_sq ?_
 refine c_sr ?_
 refine o_fad rfl ?_
 refine o_ldB 0 s1 rfl rfl rfl rfl ?_
 refine o_lss rfl rfl ?_
 refine o_mv (v := (.bool (decide (a0.Terms < 1)))) rfl ?_
 refine o_jn 4 (I := fun tm H => tm 16 = .bool ((decide (a0.Terms < 1)) || (decide (8 < a0.Terms))) ∧ (∃ (Z1 V1 : PH), Gw Z V Z1 V1 ∧ Sat Z1 V1 H [pts b1 (.rw 0 [(vi a0.Terms), (vi a0.Nons), (vi a0.Start), (.slice d1 a0.Rules.length a0.Rules.length)])] ∧ tm 1 = (.pointer (some ⟨b1, 0, none⟩)))) (fun k1 => ?_) ?_
 ·rcases Bool.eq_false_or_eq_true (decide (a0.Terms < 1)) with q1 | q1
  ·refine o_gn rfl q1 ?_
   refine o_gn rfl q1 ?_
   refine o_gn rfl q1 ?_
   refine o_pickt (a := (.bool true)) rfl q1 rfl ?_
   exact k1 _ _ ⟨gf rfl (by first | (rw [q1]; first | done | rfl) | simp [q1]), _, _, Gw.refl _ _, s1, rfl⟩
  refine o_gy rfl q1 ?_
  refine o_fad rfl ?_
  refine o_gy rfl q1 ?_
  refine o_ldB 0 s1 rfl rfl rfl rfl ?_
  refine o_gy rfl q1 ?_
  refine o_gtr rfl rfl ?_
  refine o_pickf (b := (.bool (decide (8 < a0.Terms)))) rfl q1 rfl ?_
  exact k1 _ _ ⟨gf rfl (by first | (rw [q1]; first | done | rfl) | simp [q1]), _, _, Gw.refl _ _, s1, rfl⟩
 intro _ H2 i1
 obtain ⟨h2, Z1, V1, g1, s2, h1⟩ := i1
 refine o_mv (v := (.bool ((decide (a0.Terms < 1)) || (decide (8 < a0.Terms))))) h2 ?_
 refine o_jn 4 (I := fun tm H => tm 21 = .bool (((decide (a0.Terms < 1)) || (decide (8 < a0.Terms))) || (decide (a0.Nons < 1))) ∧ (∃ (Z2 V2 : PH), Gw Z1 V1 Z2 V2 ∧ Sat Z2 V2 H [pts b1 (.rw 0 [(vi a0.Terms), (vi a0.Nons), (vi a0.Start), (.slice d1 a0.Rules.length a0.Rules.length)])] ∧ tm 1 = (.pointer (some ⟨b1, 0, none⟩)))) (fun k2 => ?_) ?_
 ·rcases Bool.eq_false_or_eq_true ((decide (a0.Terms < 1)) || (decide (8 < a0.Terms))) with q2 | q2
  ·refine o_gn rfl q2 ?_
   refine o_gn rfl q2 ?_
   refine o_gn rfl q2 ?_
   refine o_pickt (a := (.bool true)) rfl q2 rfl ?_
   exact k2 _ _ ⟨gf rfl (by first | (rw [q2]; first | done | rfl) | simp [q2]), _, _, Gw.refl _ _, s2, h1⟩
  refine o_gy rfl q2 ?_
  refine o_fad h1 ?_
  refine o_gy rfl q2 ?_
  refine o_ldB 0 s2 rfl rfl rfl rfl ?_
  refine o_gy rfl q2 ?_
  refine o_lss rfl rfl ?_
  refine o_pickf (b := (.bool (decide (a0.Nons < 1)))) rfl q2 rfl ?_
  exact k2 _ _ ⟨gf rfl (by first | (rw [q2]; first | done | rfl) | simp [q2]), _, _, Gw.refl _ _, s2, h1⟩
 intro _ H3 i2
 obtain ⟨h4, Z2, V2, g2, s3, h3⟩ := i2
 refine o_mv (v := (.bool (((decide (a0.Terms < 1)) || (decide (8 < a0.Terms))) || (decide (a0.Nons < 1))))) h4 ?_
 refine o_jn 4 (I := fun tm H => tm 26 = .bool ((((decide (a0.Terms < 1)) || (decide (8 < a0.Terms))) || (decide (a0.Nons < 1))) || (decide (10 < a0.Nons))) ∧ (∃ (Z3 V3 : PH), Gw Z2 V2 Z3 V3 ∧ Sat Z3 V3 H [pts b1 (.rw 0 [(vi a0.Terms), (vi a0.Nons), (vi a0.Start), (.slice d1 a0.Rules.length a0.Rules.length)])] ∧ tm 1 = (.pointer (some ⟨b1, 0, none⟩)))) (fun k3 => ?_) ?_
 ·rcases Bool.eq_false_or_eq_true (((decide (a0.Terms < 1)) || (decide (8 < a0.Terms))) || (decide (a0.Nons < 1))) with q3 | q3
  ·refine o_gn rfl q3 ?_
   refine o_gn rfl q3 ?_
   refine o_gn rfl q3 ?_
   refine o_pickt (a := (.bool true)) rfl q3 rfl ?_
   exact k3 _ _ ⟨gf rfl (by first | (rw [q3]; first | done | rfl) | simp [q3]), _, _, Gw.refl _ _, s3, h3⟩
  refine o_gy rfl q3 ?_
  refine o_fad h3 ?_
  refine o_gy rfl q3 ?_
  refine o_ldB 0 s3 rfl rfl rfl rfl ?_
  refine o_gy rfl q3 ?_
  refine o_gtr rfl rfl ?_
  refine o_pickf (b := (.bool (decide (10 < a0.Nons)))) rfl q3 rfl ?_
  exact k3 _ _ ⟨gf rfl (by first | (rw [q3]; first | done | rfl) | simp [q3]), _, _, Gw.refl _ _, s3, h3⟩
 intro _ H4 i3
 obtain ⟨h6, Z3, V3, g3, s4, h5⟩ := i3
 refine o_mv (v := (.bool ((((decide (a0.Terms < 1)) || (decide (8 < a0.Terms))) || (decide (a0.Nons < 1))) || (decide (10 < a0.Nons))))) h6 ?_
 refine o_jn 4 (I := fun tm H => tm 31 = .bool (((((decide (a0.Terms < 1)) || (decide (8 < a0.Terms))) || (decide (a0.Nons < 1))) || (decide (10 < a0.Nons))) || (decide (a0.Start < 0))) ∧ (∃ (Z4 V4 : PH), Gw Z3 V3 Z4 V4 ∧ Sat Z4 V4 H [pts b1 (.rw 0 [(vi a0.Terms), (vi a0.Nons), (vi a0.Start), (.slice d1 a0.Rules.length a0.Rules.length)])] ∧ tm 1 = (.pointer (some ⟨b1, 0, none⟩)))) (fun k4 => ?_) ?_
 ·rcases Bool.eq_false_or_eq_true ((((decide (a0.Terms < 1)) || (decide (8 < a0.Terms))) || (decide (a0.Nons < 1))) || (decide (10 < a0.Nons))) with q4 | q4
  ·refine o_gn rfl q4 ?_
   refine o_gn rfl q4 ?_
   refine o_gn rfl q4 ?_
   refine o_pickt (a := (.bool true)) rfl q4 rfl ?_
   exact k4 _ _ ⟨gf rfl (by first | (rw [q4]; first | done | rfl) | simp [q4]), _, _, Gw.refl _ _, s4, h5⟩
  refine o_gy rfl q4 ?_
  refine o_fad h5 ?_
  refine o_gy rfl q4 ?_
  refine o_ldB 0 s4 rfl rfl rfl rfl ?_
  refine o_gy rfl q4 ?_
  refine o_lss rfl rfl ?_
  refine o_pickf (b := (.bool (decide (a0.Start < 0)))) rfl q4 rfl ?_
  exact k4 _ _ ⟨gf rfl (by first | (rw [q4]; first | done | rfl) | simp [q4]), _, _, Gw.refl _ _, s4, h5⟩
 intro _ H5 i4
 obtain ⟨h8, Z4, V4, g4, s5, h7⟩ := i4
 refine o_mv (v := (.bool (((((decide (a0.Terms < 1)) || (decide (8 < a0.Terms))) || (decide (a0.Nons < 1))) || (decide (10 < a0.Nons))) || (decide (a0.Start < 0))))) h8 ?_
 refine o_jn 6 (I := fun tm H => tm 38 = .bool ((((((decide (a0.Terms < 1)) || (decide (8 < a0.Terms))) || (decide (a0.Nons < 1))) || (decide (10 < a0.Nons))) || (decide (a0.Start < 0))) || (decide (a0.Nons ≤ a0.Start))) ∧ (∃ (Z5 V5 : PH), Gw Z4 V4 Z5 V5 ∧ Sat Z5 V5 H [pts b1 (.rw 0 [(vi a0.Terms), (vi a0.Nons), (vi a0.Start), (.slice d1 a0.Rules.length a0.Rules.length)])] ∧ tm 1 = (.pointer (some ⟨b1, 0, none⟩)))) (fun k5 => ?_) ?_
 ·rcases Bool.eq_false_or_eq_true (((((decide (a0.Terms < 1)) || (decide (8 < a0.Terms))) || (decide (a0.Nons < 1))) || (decide (10 < a0.Nons))) || (decide (a0.Start < 0))) with q5 | q5
  ·refine o_gn rfl q5 ?_
   refine o_gn rfl q5 ?_
   refine o_gn rfl q5 ?_
   refine o_gn rfl q5 ?_
   refine o_gn rfl q5 ?_
   refine o_pickt (a := (.bool true)) rfl q5 rfl ?_
   exact k5 _ _ ⟨gf rfl (by first | (rw [q5]; first | done | rfl) | simp [q5]), _, _, Gw.refl _ _, s5, h7⟩
  refine o_gy rfl q5 ?_
  refine o_fad h7 ?_
  refine o_gy rfl q5 ?_
  refine o_ldB 0 s5 rfl rfl rfl rfl ?_
  refine o_gy rfl q5 ?_
  refine o_fad h7 ?_
  refine o_gy rfl q5 ?_
  refine o_ldB 0 s5 rfl rfl rfl rfl ?_
  refine o_gy rfl q5 ?_
  refine o_geq rfl rfl ?_
  refine o_pickf (b := (.bool (decide (a0.Nons ≤ a0.Start)))) rfl q5 rfl ?_
  exact k5 _ _ ⟨gf rfl (by first | (rw [q5]; first | done | rfl) | simp [q5]), _, _, Gw.refl _ _, s5, h7⟩
 intro _ H6 i5
 obtain ⟨h10, Z5, V5, g5, s6, h9⟩ := i5
 refine c_nil ?_
 refine c_if h10 (fun q6 => ?_) (fun q6 => ?_)
 ·replace e := if_t q6 e
  refine c_sr ?_
  refine o_mv (v := (vi 1)) rfl ?_
  refine c_nil ?_
  refine c_rt ?_
  obtain rfl := Option.some.inj e
  exact ⟨.inr rfl, _, (ar1 rfl), rfl, ((s6.pick [] rfl).weak (g1.trans (g2.trans (g3.trans (g4.trans g5)))) hs.zv)⟩
 replace e := ib_f q6 e
 refine c_sk ?_
 refine c_sq ?_
 refine c_sr ?_
 refine o_fad h9 ?_
 refine o_ldB 0 s6 rfl rfl rfl rfl ?_
 refine o_len rfl ((hp1.mono (g1.trans (g2.trans (g3.trans (g4.trans g5)))).v)).len ?_
 refine o_gtr rfl rfl ?_
 refine c_nil ?_
 refine c_ifd rfl (fun q7 => ?_) (fun q7 => ?_)
 ·replace e := if_t q7 e
  refine c_sr ?_
  refine o_mv (v := (vi 2)) rfl ?_
  refine c_nil ?_
  refine c_rt ?_
  obtain rfl := Option.some.inj e
  exact ⟨.inr rfl, _, (ar1 rfl), rfl, ((s6.pick [] rfl).weak (g1.trans (g2.trans (g3.trans (g4.trans g5)))) hs.zv)⟩
 replace e := if_f q7 e
 refine c_sk ?_
 refine c_sq ?_
 refine c_sr ?_
 refine o_fad h9 ?_
 refine o_ldB 0 s6 rfl rfl rfl rfl ?_
 refine o_len rfl ((hp1.mono (g1.trans (g2.trans (g3.trans (g4.trans g5)))).v)).len ?_
 refine o_mv (v := (vi 0)) rfl ?_
 refine c_nil ?_
 obtain ⟨y1, q10, e⟩ := Pu.bind_some e
 refine c_jn (I := fun tm H => ∃ (s9 : Unit), y1 = .out s9 ∧ (∃ (Z7 V7 : PH), Gw Z5 V5 Z7 V7 ∧ Sat Z7 V7 H [pts b1 (.rw 0 [(vi a0.Terms), (vi a0.Nons), (vi a0.Start), (.slice d1 a0.Rules.length a0.Rules.length)])] ∧ tm 1 = (.pointer (some ⟨b1, 0, none⟩)) ∧ tm 44 = (.slice d1 a0.Rules.length a0.Rules.length) ∧ tm 45 = (vi (a0.Rules.length : Int)))) (fun k9 => ?_) ?_
 ·refine c_bk ?_
  refine l_forL (xs := a0.Rules) (fun (i6 : Nat) (s7 : Unit) tm H => tm 46 = vi i6 ∧ ∃ (Z6 V6 : PH), Gw Z5 V5 Z6 V6 ∧ Sat Z6 V6 H [pts b1 (.rw 0 [(vi a0.Terms), (vi a0.Nons), (vi a0.Start), (.slice d1 a0.Rules.length a0.Rules.length)])] ∧ tm 1 = (.pointer (some ⟨b1, 0, none⟩)) ∧ tm 44 = (.slice d1 a0.Rules.length a0.Rules.length) ∧ tm 45 = (vi (a0.Rules.length : Int))) (fun i6 x1 s7 y2 tm H8 q8 q9 j1 e1 k6 k7 k8 => ?_) (fun s7 tm H7 jf jd => ?_) q10 ⟨rfl, _, _, Gw.refl _ _, s6, h9, rfl, rfl⟩
  ·obtain ⟨hti0, Z6, V6, g6, s8, h11, h12, h13⟩ := j1
   unfold P.gram_Check.b0 at e1
   refine c_sr ?_
   refine o_lss hti0 h13 ?_
   refine c_nil ?_
   refine c_sq ?_
   refine c_ift rfl (Int.ofNat_lt.2 q9) ?_
   refine c_sk ?_
   refine c_sq ?_
   refine c_bk ?_
   refine c_sr ?_
   refine o_mv (v := (vi (i6 : Int))) hti0 ?_
   refine o_idx (v := (.slice d1 a0.Rules.length a0.Rules.length)) h12 hti0 (hp1.mono (g1.trans (g2.trans (g3.trans (g4.trans (g5.trans g6))))).v) rfl (Pu.ix_nat.trans q8) fun p1 q11 => ?_
   refine o_lda rfl (hp1.mono (g1.trans (g2.trans (g3.trans (g4.trans (g5.trans g6))))).v) s8.v rfl q11 (Pu.ix_nat.trans q8) fun c1 h17 => ?_
   obtain ⟨w1, rfl, h18⟩ := Sh.api_Rule_op h17
   refine o_new s8 fun b2 H10 s11 => ?_
   refine o_mv (v := (vi (i6 : Int))) rfl ?_
   obtain ⟨d2, rfl⟩ := (h18).val
   refine o_stB (us' := [(vi x1.Left), (.slice d2 x1.Right.length x1.Right.length)]) 0 s11 rfl rfl rfl rfl rfl rfl rfl fun H11 s12 => ?_
   refine c_nil ?_
   refine c_sq ?_
   refine c_sr ?_
   refine o_fad rfl ?_
   refine o_ldB 0 s12 rfl rfl rfl rfl ?_
   refine o_lss rfl rfl ?_
   refine o_mv (v := (.bool (decide (x1.Left < 0)))) rfl ?_
   refine o_jn 6 (I := fun tm H => tm 60 = .bool ((decide (x1.Left < 0)) || (decide (a0.Nons ≤ x1.Left))) ∧ (∃ (Z8 V8 : PH), Gw Z6 V6 Z8 V8 ∧ Sat Z8 V8 H [pts b1 (.rw 0 [(vi a0.Terms), (vi a0.Nons), (vi a0.Start), (.slice d1 a0.Rules.length a0.Rules.length)]), pts b2 (.rw 0 [(vi x1.Left), (.slice d2 x1.Right.length x1.Right.length)])] ∧ tm 1 = (.pointer (some ⟨b1, 0, none⟩)) ∧ tm 3 = (vi (i6 : Int)) ∧ tm 4 = (.pointer (some ⟨b2, 0, none⟩)) ∧ tm 44 = (.slice d1 a0.Rules.length a0.Rules.length) ∧ tm 45 = (vi (a0.Rules.length : Int)) ∧ tm 46 = (vi (i6 : Int)))) (fun k10 => ?_) ?_
   ·rcases Bool.eq_false_or_eq_true (decide (x1.Left < 0)) with q12 | q12
    ·refine o_gn rfl q12 ?_
     refine o_gn rfl q12 ?_
     refine o_gn rfl q12 ?_
     refine o_gn rfl q12 ?_
     refine o_gn rfl q12 ?_
     refine o_pickt (a := (.bool true)) rfl q12 rfl ?_
     exact k10 _ _ ⟨gf rfl (by first | (rw [q12]; first | done | rfl) | simp [q12]), _, _, Gw.refl _ _, (s12.pick [1, 0] rfl), h11, rfl, rfl, h12, h13, hti0⟩
    refine o_gy rfl q12 ?_
    refine o_fad rfl ?_
    refine o_gy rfl q12 ?_
    refine o_ldB 0 s12 rfl rfl rfl rfl ?_
    refine o_gy rfl q12 ?_
    refine o_fad h11 ?_
    refine o_gy rfl q12 ?_
    refine o_ldB 1 s12 rfl rfl rfl rfl ?_
    refine o_gy rfl q12 ?_
    refine o_geq rfl rfl ?_
    refine o_pickf (b := (.bool (decide (a0.Nons ≤ x1.Left)))) rfl q12 rfl ?_
    exact k10 _ _ ⟨gf rfl (by first | (rw [q12]; first | done | rfl) | simp [q12]), _, _, Gw.refl _ _, (s12.pick [1, 0] rfl), h11, rfl, rfl, h12, h13, hti0⟩
   intro _ H12 i7
   obtain ⟨h25, Z8, V8, g8, s13, h19, h20, h21, h22, h23, h24⟩ := i7
   refine c_nil ?_
   refine c_if h25 (fun q13 => ?_) (fun q13 => ?_)
   ·replace e1 := if_t q13 e1
    refine c_sr ?_
    refine o_mv (v := (vi 3)) rfl ?_
    refine c_nil ?_
    refine c_rt ?_
    have e2 := fin_r (k8 _ (Option.some.inj e1).symm) e
    obtain rfl := Option.some.inj e2
    exact ⟨.inr rfl, _, (ar1 rfl), rfl, ((s13.pick [] rfl).weak (g1.trans (g2.trans (g3.trans (g4.trans (g5.trans (g6.trans g8)))))) hs.zv)⟩
   replace e1 := ib_f q13 e1
   refine c_sk ?_
   refine c_sq ?_
   refine c_sr ?_
   refine o_fad h21 ?_
   refine o_ldB 1 s13 rfl rfl rfl rfl ?_
   refine o_len rfl ((h18.mono g8.v)).len ?_
   refine o_gtr rfl rfl ?_
   refine c_nil ?_
   refine c_ifd rfl (fun q14 => ?_) (fun q14 => ?_)
   ·replace e1 := if_t q14 e1
    refine c_sr ?_
    refine o_mv (v := (vi 2)) rfl ?_
    refine c_nil ?_
    refine c_rt ?_
    have e3 := fin_r (k8 _ (Option.some.inj e1).symm) e
    obtain rfl := Option.some.inj e3
    exact ⟨.inr rfl, _, (ar1 rfl), rfl, ((s13.pick [] rfl).weak (g1.trans (g2.trans (g3.trans (g4.trans (g5.trans (g6.trans g8)))))) hs.zv)⟩
   replace e1 := if_f q14 e1
   refine c_sk ?_
   refine c_sq ?_
   refine c_sr ?_
   refine o_fad h21 ?_
   refine o_ldB 1 s13 rfl rfl rfl rfl ?_
   refine o_len rfl ((h18.mono g8.v)).len ?_
   refine o_mv (v := (vi 0)) rfl ?_
   refine c_nil ?_
   obtain ⟨y3, q17, e1⟩ := Pu.bind_some e1
   refine c_jn (I := fun tm H => ∃ (s16 : Unit), y3 = .out s16 ∧ (∃ (Z10 V10 : PH), Gw Z8 V8 Z10 V10 ∧ Sat Z10 V10 H [pts b1 (.rw 0 [(vi a0.Terms), (vi a0.Nons), (vi a0.Start), (.slice d1 a0.Rules.length a0.Rules.length)]), pts b2 (.rw 0 [(vi x1.Left), (.slice d2 x1.Right.length x1.Right.length)])] ∧ tm 1 = (.pointer (some ⟨b1, 0, none⟩)) ∧ tm 3 = (vi (i6 : Int)) ∧ tm 4 = (.pointer (some ⟨b2, 0, none⟩)) ∧ tm 44 = (.slice d1 a0.Rules.length a0.Rules.length) ∧ tm 45 = (vi (a0.Rules.length : Int)) ∧ tm 46 = (vi (i6 : Int)) ∧ tm 66 = (.slice d2 x1.Right.length x1.Right.length) ∧ tm 67 = (vi (x1.Right.length : Int)))) (fun k14 => ?_) ?_
   ·refine c_bk ?_
    refine l_forL (xs := x1.Right) (fun (i8 : Nat) (s14 : Unit) tm H => tm 68 = vi i8 ∧ ∃ (Z9 V9 : PH), Gw Z8 V8 Z9 V9 ∧ Sat Z9 V9 H [pts b1 (.rw 0 [(vi a0.Terms), (vi a0.Nons), (vi a0.Start), (.slice d1 a0.Rules.length a0.Rules.length)]), pts b2 (.rw 0 [(vi x1.Left), (.slice d2 x1.Right.length x1.Right.length)])] ∧ tm 1 = (.pointer (some ⟨b1, 0, none⟩)) ∧ tm 3 = (vi (i6 : Int)) ∧ tm 4 = (.pointer (some ⟨b2, 0, none⟩)) ∧ tm 44 = (.slice d1 a0.Rules.length a0.Rules.length) ∧ tm 45 = (vi (a0.Rules.length : Int)) ∧ tm 46 = (vi (i6 : Int)) ∧ tm 66 = (.slice d2 x1.Right.length x1.Right.length) ∧ tm 67 = (vi (x1.Right.length : Int))) (fun i8 x2 s14 y4 tm H14 q15 q16 j2 e4 k11 k12 k13 => ?_) (fun s14 tm H13 jf jd => ?_) q17 ⟨rfl, _, _, Gw.refl _ _, s13, h19, h20, h21, h22, h23, h24, rfl, rfl⟩
    ·obtain ⟨hti1, Z9, V9, g9, s15, h26, h27, h28, h29, h30, h31, h32, h33⟩ := j2
     unfold P.gram_Check.b1 at e4
     refine c_sr ?_
     refine o_lss hti1 h33 ?_
     refine c_nil ?_
     refine c_sq ?_
     refine c_ift rfl (Int.ofNat_lt.2 q16) ?_
     refine c_sk ?_
     refine c_sq ?_
     refine c_bk ?_
     refine c_sr ?_
     refine o_idx (v := (.slice d2 x1.Right.length x1.Right.length)) h32 hti1 (h18.mono (g8.trans g9).v) rfl (Pu.ix_nat.trans q15) fun p2 q18 => ?_
     refine o_lda rfl (h18.mono (g8.trans g9).v) s15.v rfl q18 (Pu.ix_nat.trans q15) fun c2 h42 => ?_
     obtain rfl := h42
     refine o_new s15 fun b3 H16 s18 => ?_
     refine o_stB (us' := [(.bool x2.Term), (vi x2.N)]) 0 s18 rfl rfl rfl rfl rfl rfl rfl fun H17 s19 => ?_
     refine c_nil ?_
     refine c_sr ?_
     refine o_fad rfl ?_
     refine o_ldB 0 s19 rfl rfl rfl rfl ?_
     refine o_lss rfl rfl ?_
     refine o_mv (v := (.bool (decide (x2.N < 0)))) rfl ?_
     obtain ⟨y5, e5, e4⟩ := Pu.bind_some e4
     refine o_jn 10 (I := fun tm H => ∃ (Z11 V11 : PH), Gw Z9 V9 Z11 V11 ∧ Sat Z11 V11 H [pts b1 (.rw 0 [(vi a0.Terms), (vi a0.Nons), (vi a0.Start), (.slice d1 a0.Rules.length a0.Rules.length)]), pts b2 (.rw 0 [(vi x1.Left), (.slice d2 x1.Right.length x1.Right.length)]), pts b3 (.rw 0 [(.bool x2.Term), (vi x2.N)])] ∧ tm 1 = (.pointer (some ⟨b1, 0, none⟩)) ∧ tm 3 = (vi (i6 : Int)) ∧ tm 4 = (.pointer (some ⟨b2, 0, none⟩)) ∧ tm 6 = (.pointer (some ⟨b3, 0, none⟩)) ∧ tm 44 = (.slice d1 a0.Rules.length a0.Rules.length) ∧ tm 45 = (vi (a0.Rules.length : Int)) ∧ tm 46 = (vi (i6 : Int)) ∧ tm 66 = (.slice d2 x1.Right.length x1.Right.length) ∧ tm 67 = (vi (x1.Right.length : Int)) ∧ tm 68 = (vi (i8 : Int)) ∧ tm 85 = (.bool y5)) (fun k15 => ?_) ?_
     ·rcases Bool.eq_false_or_eq_true (decide (x2.N < 0)) with q19 | q19
      ·replace e5 := if_t q19 e5
       refine o_gn rfl q19 ?_
       refine o_gn rfl q19 ?_
       refine o_gn rfl q19 ?_
       refine o_gu rfl ?_
       refine o_gu rfl ?_
       refine o_gu rfl ?_
       refine o_gu rfl ?_
       refine o_gu rfl ?_
       refine o_gn rfl q19 ?_
       refine o_pickt (a := (.bool true)) rfl q19 rfl ?_
       obtain rfl := Option.some.inj e5
       exact k15 _ _ ⟨_, _, Gw.refl _ _, (s19.pick [1, 2, 0] rfl), h26, h27, h28, rfl, h29, h30, h31, h32, h33, hti1, rfl⟩
      replace e5 := ib_f q19 e5
      refine o_gy rfl q19 ?_
      refine o_fad rfl ?_
      refine o_gy rfl q19 ?_
      refine o_ldB 0 s19 rfl rfl rfl rfl ?_
      refine o_gy rfl q19 ?_
      refine o_mv (v := (.bool x2.Term)) rfl ?_
      refine o_jn 6 (I := fun tm H => tm 84 = .bool (x2.Term && (decide (a0.Terms ≤ x2.N))) ∧ (∃ (Z12 V12 : PH), Gw Z9 V9 Z12 V12 ∧ Sat Z12 V12 H [pts b1 (.rw 0 [(vi a0.Terms), (vi a0.Nons), (vi a0.Start), (.slice d1 a0.Rules.length a0.Rules.length)]), pts b2 (.rw 0 [(vi x1.Left), (.slice d2 x1.Right.length x1.Right.length)]), pts b3 (.rw 0 [(.bool x2.Term), (vi x2.N)])] ∧ tm 1 = (.pointer (some ⟨b1, 0, none⟩)) ∧ tm 3 = (vi (i6 : Int)) ∧ tm 4 = (.pointer (some ⟨b2, 0, none⟩)) ∧ tm 6 = (.pointer (some ⟨b3, 0, none⟩)) ∧ tm 44 = (.slice d1 a0.Rules.length a0.Rules.length) ∧ tm 45 = (vi (a0.Rules.length : Int)) ∧ tm 46 = (vi (i6 : Int)) ∧ tm 66 = (.slice d2 x1.Right.length x1.Right.length) ∧ tm 67 = (vi (x1.Right.length : Int)) ∧ tm 68 = (vi (i8 : Int)) ∧ tm 75 = (.bool (decide (x2.N < 0))) ∧ tm 76 = (.pointer (some ⟨b3, 0, none⟩)) ∧ tm 77 = (.bool x2.Term) ∧ tm 78 = (.bool x2.Term))) (fun k16 => ?_) ?_
      ·rcases Bool.eq_false_or_eq_true x2.Term with q20 | q20
       ·refine o_gy rfl q20 ?_
        refine o_fad rfl ?_
        refine o_gy rfl q20 ?_
        refine o_ldB 0 s19 rfl rfl rfl rfl ?_
        refine o_gy rfl q20 ?_
        refine o_fad h26 ?_
        refine o_gy rfl q20 ?_
        refine o_ldB 1 s19 rfl rfl rfl rfl ?_
        refine o_gy rfl q20 ?_
        refine o_geq rfl rfl ?_
        refine o_gy rfl q19 ?_
        refine o_pickt (a := (.bool (decide (a0.Terms ≤ x2.N)))) rfl q20 rfl ?_
        exact k16 _ _ ⟨gf rfl (by first | (rw [q20]; first | done | rfl) | simp [q20]), _, _, Gw.refl _ _, (s19.pick [1, 2, 0] rfl), h26, h27, h28, rfl, h29, h30, h31, h32, h33, hti1, rfl, rfl, rfl, rfl⟩
       refine o_gn rfl q20 ?_
       refine o_gn rfl q20 ?_
       refine o_gn rfl q20 ?_
       refine o_gn rfl q20 ?_
       refine o_gn rfl q20 ?_
       refine o_gy rfl q19 ?_
       refine o_pickf (b := (.bool false)) rfl q20 rfl ?_
       exact k16 _ _ ⟨gf rfl (by first | (rw [q20]; first | done | rfl) | simp [q20]), _, _, Gw.refl _ _, (s19.pick [1, 2, 0] rfl), h26, h27, h28, rfl, h29, h30, h31, h32, h33, hti1, rfl, rfl, rfl, rfl⟩
      intro _ H19 i9
      obtain ⟨h68, Z12, V12, g12, s21, h54, h55, h56, h57, h58, h59, h60, h61, h62, h63, h64, h65, h66, h67⟩ := i9
      refine o_pickf (b := (.bool (x2.Term && (decide (a0.Terms ≤ x2.N))))) h64 q19 h68 ?_
      obtain rfl := Option.some.inj e5
      exact k15 _ _ ⟨_, _, g12, s21, h54, h55, h56, h57, h58, h59, h60, h61, h62, h63, rfl⟩
     intro _ H18 i10
     obtain ⟨Z11, V11, g11, s20, h43, h44, h45, h46, h47, h48, h49, h50, h51, h52, h53⟩ := i10
     refine o_mv (v := (.bool y5)) h53 ?_
     obtain ⟨y6, e6, e4⟩ := Pu.bind_some e4
     refine o_jn 11 (I := fun tm H => ∃ (Z13 V13 : PH), Gw Z11 V11 Z13 V13 ∧ Sat Z13 V13 H [pts b1 (.rw 0 [(vi a0.Terms), (vi a0.Nons), (vi a0.Start), (.slice d1 a0.Rules.length a0.Rules.length)]), pts b2 (.rw 0 [(vi x1.Left), (.slice d2 x1.Right.length x1.Right.length)])] ∧ tm 1 = (.pointer (some ⟨b1, 0, none⟩)) ∧ tm 3 = (vi (i6 : Int)) ∧ tm 4 = (.pointer (some ⟨b2, 0, none⟩)) ∧ tm 44 = (.slice d1 a0.Rules.length a0.Rules.length) ∧ tm 45 = (vi (a0.Rules.length : Int)) ∧ tm 46 = (vi (i6 : Int)) ∧ tm 66 = (.slice d2 x1.Right.length x1.Right.length) ∧ tm 67 = (vi (x1.Right.length : Int)) ∧ tm 68 = (vi (i8 : Int)) ∧ tm 97 = (.bool y6)) (fun k17 => ?_) ?_
     ·rcases Bool.eq_false_or_eq_true y5 with q21 | q21
      ·replace e6 := if_t q21 e6
       refine o_gn rfl q21 ?_
       refine o_gn rfl q21 ?_
       refine o_gn rfl q21 ?_
       refine o_gn rfl q21 ?_
       refine o_gu rfl ?_
       refine o_gu rfl ?_
       refine o_gu rfl ?_
       refine o_gu rfl ?_
       refine o_gu rfl ?_
       refine o_gn rfl q21 ?_
       refine o_pickt (a := (.bool true)) rfl q21 rfl ?_
       obtain rfl := Option.some.inj e6
       exact k17 _ _ ⟨_, _, Gw.refl _ _, (s20.pick [0, 1] rfl), h43, h44, h45, h47, h48, h49, h50, h51, h52, rfl⟩
      replace e6 := ib_f q21 e6
      refine o_gy rfl q21 ?_
      refine o_fad h46 ?_
      refine o_gy rfl q21 ?_
      refine o_ldB 2 s20 rfl rfl rfl rfl ?_
      refine o_gy rfl q21 ?_
      refine o_not rfl ?_
      refine o_gy rfl q21 ?_
      refine o_mv (v := (.bool (!x2.Term))) rfl ?_
      refine o_jn 6 (I := fun tm H => tm 96 = .bool ((!x2.Term) && (decide (a0.Nons ≤ x2.N))) ∧ (∃ (Z14 V14 : PH), Gw Z11 V11 Z14 V14 ∧ Sat Z14 V14 H [pts b1 (.rw 0 [(vi a0.Terms), (vi a0.Nons), (vi a0.Start), (.slice d1 a0.Rules.length a0.Rules.length)]), pts b2 (.rw 0 [(vi x1.Left), (.slice d2 x1.Right.length x1.Right.length)]), pts b3 (.rw 0 [(.bool x2.Term), (vi x2.N)])] ∧ tm 1 = (.pointer (some ⟨b1, 0, none⟩)) ∧ tm 3 = (vi (i6 : Int)) ∧ tm 4 = (.pointer (some ⟨b2, 0, none⟩)) ∧ tm 44 = (.slice d1 a0.Rules.length a0.Rules.length) ∧ tm 45 = (vi (a0.Rules.length : Int)) ∧ tm 46 = (vi (i6 : Int)) ∧ tm 66 = (.slice d2 x1.Right.length x1.Right.length) ∧ tm 67 = (vi (x1.Right.length : Int)) ∧ tm 68 = (vi (i8 : Int)) ∧ tm 86 = (.bool y5) ∧ tm 87 = (.pointer (some ⟨b3, 0, none⟩)) ∧ tm 88 = (.bool x2.Term) ∧ tm 89 = (.bool (!x2.Term)) ∧ tm 90 = (.bool (!x2.Term)))) (fun k18 => ?_) ?_
      ·rcases Bool.eq_false_or_eq_true (!x2.Term) with q22 | q22
       ·refine o_gy rfl q22 ?_
        refine o_fad h46 ?_
        refine o_gy rfl q22 ?_
        refine o_ldB 2 s20 rfl rfl rfl rfl ?_
        refine o_gy rfl q22 ?_
        refine o_fad h43 ?_
        refine o_gy rfl q22 ?_
        refine o_ldB 0 s20 rfl rfl rfl rfl ?_
        refine o_gy rfl q22 ?_
        refine o_geq rfl rfl ?_
        refine o_gy rfl q21 ?_
        refine o_pickt (a := (.bool (decide (a0.Nons ≤ x2.N)))) rfl q22 rfl ?_
        exact k18 _ _ ⟨gf rfl (by first | (rw [q22]; first | done | rfl) | simp [q22]), _, _, Gw.refl _ _, s20, h43, h44, h45, h47, h48, h49, h50, h51, h52, rfl, rfl, rfl, rfl, rfl⟩
       refine o_gn rfl q22 ?_
       refine o_gn rfl q22 ?_
       refine o_gn rfl q22 ?_
       refine o_gn rfl q22 ?_
       refine o_gn rfl q22 ?_
       refine o_gy rfl q21 ?_
       refine o_pickf (b := (.bool false)) rfl q22 rfl ?_
       exact k18 _ _ ⟨gf rfl (by first | (rw [q22]; first | done | rfl) | simp [q22]), _, _, Gw.refl _ _, s20, h43, h44, h45, h47, h48, h49, h50, h51, h52, rfl, rfl, rfl, rfl, rfl⟩
      intro _ H21 i11
      obtain ⟨h93, Z14, V14, g14, s23, h79, h80, h81, h82, h83, h84, h85, h86, h87, h88, h89, h90, h91, h92⟩ := i11
      refine o_pickf (b := (.bool ((!x2.Term) && (decide (a0.Nons ≤ x2.N))))) h88 q21 h93 ?_
      obtain rfl := Option.some.inj e6
      exact k17 _ _ ⟨_, _, g14, (s23.pick [0, 1] rfl), h79, h80, h81, h82, h83, h84, h85, h86, h87, rfl⟩
     intro _ H20 i12
     obtain ⟨Z13, V13, g13, s22, h69, h70, h71, h72, h73, h74, h75, h76, h77, h78⟩ := i12
     refine c_nil ?_
     refine c_if h78 (fun q23 => ?_) (fun q23 => ?_)
     ·replace e4 := if_t q23 e4
      refine c_sr ?_
      refine o_mv (v := (vi 3)) rfl ?_
      refine c_nil ?_
      refine c_rt ?_
      have e7 := fin_r (k13 _ (Option.some.inj e4).symm) e1
      have e8 := fin_r (k8 _ (Option.some.inj e7).symm) e
      obtain rfl := Option.some.inj e8
      exact ⟨.inr rfl, _, (ar1 rfl), rfl, ((s22.pick [] rfl).weak (g1.trans (g2.trans (g3.trans (g4.trans (g5.trans (g6.trans (g8.trans (g9.trans (g11.trans g13))))))))) hs.zv)⟩
     replace e4 := ib_f q23 e4
     refine c_sk ?_
     refine c_end ?_
     refine c_r ?_
     refine o_add h77 rfl ?_
     refine o_mv (v := (vi (Pu.W ((i8 : Int) + 1)))) rfl ?_
     refine c_nil ?_
     exact k11 _ _ _ (Option.some.inj e4).symm ⟨(iv rfl (w_suc q16 ((h18.mono g8.v)).bd)), _, _, (g9.trans (g11.trans g13)), s22, h69, h70, h71, h72, h73, h74, h75, h76⟩
    ·obtain ⟨hte1, Z15, V15, g15, s24, h94, h95, h96, h97, h98, h99, h100, h101⟩ := jd
     refine c_sr ?_
     refine o_lss hte1 h101 ?_
     refine c_nil ?_
     refine c_sq ?_
     refine c_iff rfl (Int.lt_irrefl _) ?_
     refine c_ex ?_
     refine e_c ?_
     refine e_c ?_
     refine e_h ?_
     exact k14 _ _ ⟨_, jf, _, _, g15, s24, h94, h95, h96, h97, h98, h99, h100, h101⟩
   intro _ H15 i13
   obtain ⟨s16, f1, Z10, V10, g10, s17, h34, h35, h36, h37, h38, h39, h40, h41⟩ := i13
   replace e1 := fin_o f1 e1
   refine c_sr ?_
   refine o_fad h34 ?_
   refine o_ldB 0 s17 rfl rfl rfl rfl ?_
   refine o_mv (v := (vi (i6 : Int))) h35 ?_
   obtain ⟨x3, q24, e1⟩ := Pu.bind_some e1
   refine o_slch rfl rfl (hp1.mono (g1.trans (g2.trans (g3.trans (g4.trans (g5.trans (g6.trans (g8.trans g10))))))).v) s17.v rfl q24 fun w2 h102 => ?_
   refine o_len rfl (h102).len ?_
   refine o_mv (v := (vi 0)) rfl ?_
   refine c_nil ?_
   obtain ⟨y7, q27, e1⟩ := Pu.bind_some e1
   refine c_jn (I := fun tm H => ∃ (s27 : Unit), y7 = .out s27 ∧ (∃ (Z17 V17 : PH), Gw Z10 V10 Z17 V17 ∧ Sat Z17 V17 H [pts b1 (.rw 0 [(vi a0.Terms), (vi a0.Nons), (vi a0.Start), (.slice d1 a0.Rules.length a0.Rules.length)]), pts b2 (.rw 0 [(vi x1.Left), (.slice d2 x1.Right.length x1.Right.length)])] ∧ tm 1 = (.pointer (some ⟨b1, 0, none⟩)) ∧ tm 4 = (.pointer (some ⟨b2, 0, none⟩)) ∧ tm 44 = (.slice d1 a0.Rules.length a0.Rules.length) ∧ tm 45 = (vi (a0.Rules.length : Int)) ∧ tm 46 = (vi (i6 : Int)) ∧ tm 102 = w2 ∧ tm 103 = (vi (x3.length : Int)))) (fun k22 => ?_) ?_
   ·refine c_bk ?_
    refine l_forL (xs := x3) (fun (i14 : Nat) (s25 : Unit) tm H => tm 104 = vi i14 ∧ ∃ (Z16 V16 : PH), Gw Z10 V10 Z16 V16 ∧ Sat Z16 V16 H [pts b1 (.rw 0 [(vi a0.Terms), (vi a0.Nons), (vi a0.Start), (.slice d1 a0.Rules.length a0.Rules.length)]), pts b2 (.rw 0 [(vi x1.Left), (.slice d2 x1.Right.length x1.Right.length)])] ∧ tm 1 = (.pointer (some ⟨b1, 0, none⟩)) ∧ tm 4 = (.pointer (some ⟨b2, 0, none⟩)) ∧ tm 44 = (.slice d1 a0.Rules.length a0.Rules.length) ∧ tm 45 = (vi (a0.Rules.length : Int)) ∧ tm 46 = (vi (i6 : Int)) ∧ tm 102 = w2 ∧ tm 103 = (vi (x3.length : Int))) (fun i14 x4 s25 y8 tm H24 q25 q26 j3 e9 k19 k20 k21 => ?_) (fun s25 tm H23 jf jd => ?_) q27 ⟨rfl, _, _, Gw.refl _ _, s17, h34, h36, h37, h38, h39, rfl, rfl⟩
    ·obtain ⟨hti2, Z16, V16, g16, s26, h103, h104, h105, h106, h107, h108, h109⟩ := j3
     unfold P.gram_Check.b2 at e9
     refine c_sr ?_
     refine o_lss hti2 h109 ?_
     refine c_nil ?_
     refine c_sq ?_
     refine c_ift rfl (Int.ofNat_lt.2 q26) ?_
     refine c_sk ?_
     refine c_sq ?_
     refine c_bk ?_
     refine c_sr ?_
     refine o_idx (v := w2) h108 hti2 (h102.mono g16.v) rfl (Pu.ix_nat.trans q25) fun p3 q28 => ?_
     refine o_lda rfl (h102.mono g16.v) s26.v rfl q28 (Pu.ix_nat.trans q25) fun c3 h117 => ?_
     obtain ⟨w3, rfl, h118⟩ := Sh.api_Rule_op h117
     refine o_new s26 fun b4 H26 s29 => ?_
     obtain ⟨d3, rfl⟩ := (h118).val
     refine o_stB (us' := [(vi x4.Left), (.slice d3 x4.Right.length x4.Right.length)]) 0 s29 rfl rfl rfl rfl rfl rfl rfl fun H27 s30 => ?_
     refine c_nil ?_
     refine c_sr ?_
     refine o_ldB 0 s30 rfl rfl rfl rfl ?_
     refine o_ldB 2 s30 rfl h104 rfl rfl ?_
     obtain ⟨x5, q29, e9⟩ := Pu.bind_some e9
     obtain ⟨Z18, V18, W1, g18, u1, c4, c5, -, c7, c6⟩ := Sat.call (l1 := []) s30
     refine o_call (mc rfl (mc rfl m0)) (X.gram_Compare nd.gram_Compare c4 (h118.mono (g18.v.trans u1)) (h18.mono (((g8.trans (g10.trans g16)).trans g18).v.trans u1)) q29) fun _ H28 i15 => ?_
     obtain ⟨rfl, s31⟩ := i15
     have s32 := c6 _ _ s31
     refine o_eql rfl rfl ?_
     refine c_nil ?_
     refine c_ifd rfl (fun q30 => ?_) (fun q30 => ?_)
     ·replace e9 := if_t q30 e9
      refine c_sr ?_
      refine o_mv (v := (vi 6)) rfl ?_
      refine c_nil ?_
      refine c_rt ?_
      have e10 := fin_r (k21 _ (Option.some.inj e9).symm) e1
      have e11 := fin_r (k8 _ (Option.some.inj e10).symm) e
      obtain rfl := Option.some.inj e11
      exact ⟨.inr rfl, _, (ar1 rfl), rfl, ((s32.pick [] rfl).weak (g1.trans (g2.trans (g3.trans (g4.trans (g5.trans (g6.trans (g8.trans (g10.trans (g16.trans g18))))))))) hs.zv)⟩
     replace e9 := if_f q30 e9
     refine c_sk ?_
     refine c_end ?_
     refine c_r ?_
     refine o_add hti2 rfl ?_
     refine o_mv (v := (vi (Pu.W ((i14 : Int) + 1)))) rfl ?_
     refine c_nil ?_
     exact k19 _ _ _ (Option.some.inj e9).symm ⟨(iv rfl (w_suc q26 (h102).bd)), _, _, (g16.trans g18), (s32.pick [1, 2] rfl), h103, h104, h105, h106, h107, h108, h109⟩
    ·obtain ⟨hte2, Z19, V19, g19, s33, h119, h120, h121, h122, h123, h124, h125⟩ := jd
     refine c_sr ?_
     refine o_lss hte2 h125 ?_
     refine c_nil ?_
     refine c_sq ?_
     refine c_iff rfl (Int.lt_irrefl _) ?_
     refine c_ex ?_
     refine e_c ?_
     refine e_c ?_
     refine e_h ?_
     exact k22 _ _ ⟨_, jf, _, _, g19, s33, h119, h120, h121, h122, h123, h124, h125⟩
   intro _ H25 i16
   obtain ⟨s27, f2, Z17, V17, g17, s28, h110, h111, h112, h113, h114, h115, h116⟩ := i16
   replace e1 := fin_o f2 e1
   refine c_end ?_
   refine c_r ?_
   refine o_add h114 rfl ?_
   refine o_mv (v := (vi (Pu.W ((i6 : Int) + 1)))) rfl ?_
   refine c_nil ?_
   exact k6 _ _ _ (Option.some.inj e1).symm ⟨(iv rfl (w_suc q9 ((hp1.mono (g1.trans (g2.trans (g3.trans (g4.trans g5)))).v)).bd)), _, _, (g6.trans (g8.trans (g10.trans g17))), (s28.pick [0] rfl), h110, h112, h113⟩
  ·obtain ⟨hte0, Z20, V20, g20, s34, h126, h127, h128⟩ := jd
   refine c_sr ?_
   refine o_lss hte0 h128 ?_
   refine c_nil ?_
   refine c_sq ?_
   refine c_iff rfl (Int.lt_irrefl _) ?_
   refine c_ex ?_
   refine e_c ?_
   refine e_c ?_
   refine e_h ?_
   exact k9 _ _ ⟨_, jf, _, _, g20, s34, h126, h127, h128⟩
 intro _ H9 i17
 obtain ⟨s9, f3, Z7, V7, g7, s10, h14, h15, h16⟩ := i17
 replace e := fin_o f3 e
 refine c_sr ?_
 refine o_mv (v := (vi 0)) rfl ?_
 refine c_nil ?_
 refine c_rt ?_
 obtain rfl := Option.some.inj e
 exact ⟨.inr rfl, _, (ar1 rfl), rfl, ((s10.pick [] rfl).weak (g1.trans (g2.trans (g3.trans (g4.trans (g5.trans g7))))) hs.zv)⟩
/-! tree_symbol -/
structure Nd.tree_symbol (T : FuncId → Option AFunc) : Prop where
  own : Has T I.tree_symbol F.tree_symbol
  tree_leaf : Nd.tree_leaf T
set_option maxHeartbeats 1000000 in
theorem X.tree_symbol {T : FuncId → Option AFunc} (nd : Nd.tree_symbol T) {Z V : PH} {H : Hp} {v1 : Value} {v2 : Value} {a0 : Ty.api_Grammar} {a1 : Ty.api_Tree} (hs : Sat Z V H []) (hp1 : RdS Sh.api_Rule V v1 a0.Rules) (hp2 : RdS Sh.api_Tree V v2 a1.Kids) {r : (Ty.api_Sym × Bool)} (e : P.tree_symbol a0 a1 = some r) :
    G T I.tree_symbol [(.agg #[(vi a0.Terms), (vi a0.Nons), (vi a0.Start), v1]), (.agg #[(vi a1.Rule), (vi a1.Term), v2])] H (fun rv H' => rv = (.tuple #[(.agg #[(.bool r.1.Term), (vi r.1.N)]), (.bool r.2)]) ∧ Sat Z V H' []) := by
 unfold P.tree_symbol at e
 refine f_mk nd.own ?_
 refine c_sr ?_
 obtain ⟨d1, rfl⟩ := (hp1).val
 refine o_box hs rfl rfl fun b1 H1 s1 => ?_
 obtain ⟨d2, rfl⟩ := (hp2).val
 refine o_box s1 rfl rfl fun b2 H2 s2 => ?_
 refine o_new s2 fun b3 H3 s3 => ?_
 refine o_mv (v := (.bool false)) rfl ?_
 refine c_nil ?_
 refine c_sq ?_
 refine c_sr ?_
 refine o_ldB 1 s3 rfl rfl rfl rfl ?_
 obtain ⟨x1, q1, e⟩ := Pu.bind_some e
 obtain ⟨Z1, V1, W1, g1, u1, c1, c2, -, c4, c3⟩ := Sat.call (l1 := []) s3
 refine o_call (mc rfl m0) (X.tree_leaf nd.tree_leaf c1 (hp2.mono (g1.v.trans u1)) q1) fun _ H4 i1 => ?_
 obtain ⟨rfl, s4⟩ := i1
 have s5 := c3 _ _ s4
 refine c_nil ?_
 refine c_if rfl (fun q2 => ?_) (fun q2 => ?_)
 ·replace e := if_t q2 e
  refine c_sq ?_
  obtain ⟨y1, e1, e⟩ := Pu.bind_some e
  refine c_jn (I := fun tm H => ∃ (Z2 V2 : PH), Gw Z1 V1 Z2 V2 ∧ Sat Z2 V2 H [pts b3 (.rw 0 [(.bool true), (vi a1.Term)])] ∧ tm 4 = (.pointer (some ⟨b3, 0, none⟩)) ∧ tm 5 = (.bool y1)) (fun k1 => ?_) ?_
  ·refine c_gen (P := fun tm => tm 2 = (.pointer (some ⟨b1, 0, none⟩)) ∧ tm 3 = (.pointer (some ⟨b2, 0, none⟩)) ∧ tm 4 = (.pointer (some ⟨b3, 0, none⟩)) ∧ True) ⟨rfl, rfl, rfl, trivial⟩ ?_
   intro _ i2
   obtain ⟨h3, h4, h5, -⟩ := i2
   refine d_start s5 fun n1 H6 s7 q3 d3 => ?_
   refine d_fad h4 ?_
   refine d_ldB (q3 _ _ (ph_some.2 ⟨s7.curB 1 rfl, by simp⟩)) 1 s7 rfl rfl rfl rfl ?_
   refine d_bld (qs := [(0, 1, (.bool true)), (1, 1, (vi a1.Term))]) rfl rfl ?_
   refine d_fad h4 ?_
   refine d_ldB (q3 _ _ (ph_some.2 ⟨s7.curB 1 rfl, by simp⟩)) 1 s7 rfl rfl rfl rfl ?_
   refine d_geq rfl rfl ?_
   refine d_mv (v := (.bool (decide (0 ≤ a1.Term)))) rfl ?_
   rcases Bool.eq_false_or_eq_true (decide (0 ≤ a1.Term)) with q4 | q4
   ·replace e1 := if_t q4 e1
    refine d_want rfl q4 ?_
    refine d_fad h4 ?_
    refine d_want rfl q4 ?_
    refine d_ldB (q3 _ _ (ph_some.2 ⟨s7.curB 1 rfl, by simp⟩)) 1 s7 rfl rfl rfl rfl ?_
    refine d_want rfl q4 ?_
    refine d_fad h3 ?_
    refine d_want rfl q4 ?_
    refine d_ldB (q3 _ _ (ph_some.2 ⟨s7.curB 2 rfl, by simp⟩)) 2 s7 rfl rfl rfl rfl ?_
    refine d_want rfl q4 ?_
    refine d_lss rfl rfl ?_
    refine d_pickt (a := (.bool (decide (a1.Term < a0.Terms)))) rfl q4 rfl ?_
    refine d_mv (v := (.bool (decide (a1.Term < a0.Terms)))) rfl ?_
    rcases Bool.eq_false_or_eq_true (decide (a1.Term < a0.Terms)) with q5 | q5
    ·replace e1 := if_t q5 e1
     refine d_want rfl q5 ?_
     refine d_fad h4 ?_
     refine d_want rfl q5 ?_
     refine d_ldB (q3 _ _ (ph_some.2 ⟨s7.curB 1 rfl, by simp⟩)) 1 s7 rfl rfl rfl rfl ?_
     refine d_want rfl q5 ?_
     refine d_len rfl ((hp2.mono g1.v)).len ?_
     refine d_want rfl q5 ?_
     refine d_eql rfl rfl ?_
     refine d_pickt (a := (.bool (decide ((a1.Kids.length : Int) = 0)))) rfl q5 rfl ?_
     refine d_stB (us' := [(.bool true), (vi a1.Term)]) 0 s7 rfl h5 rfl rfl rfl rfl rfl fun H7 s8 k2 => ?_
     have d4 := d3.keep k2
     refine d_mv (v := (.bool (decide ((a1.Kids.length : Int) = 0)))) rfl ?_
     refine d_nil (dc_mk rfl (tra (tra (tra (tra (tra (tra (tre (trl (trl (trl (trl (trl (trl (trl (trl (trl (trl (trl (trl (trl (trl (trl tr0)))))))))))))))))))))) (tra (tra (tre (trl (trl (trl (trl (trl (trl (trl (trl (trl (trl (trl (trl (trl (trl (trl (trl (trl (trl (trl tr0)))))))))))))))))))))) (tra (tre (trl (trl (trl (trl (trl (trl (trl (trl (trl (trl (trl (trl (trl (trl (trl (trl (trl (trl (trl (trl tr0)))))))))))))))))))))) (ag_ldx (w := (.slice d2 a1.Kids.length a1.Kids.length)) (w_y rfl q5) rfl (ldB_v 1 s7 rfl rfl rfl) (ldB_v 1 s7 rfl rfl rfl) (by simp [vsame, vsame1])) (ag_ldx (w := (.slice d2 a1.Kids.length a1.Kids.length)) (w_y rfl q5) rfl (ldB_v 1 s7 rfl rfl rfl) (ldB_v 1 s8 rfl rfl rfl) (by simp [vsame, vsame1])) dc_nil) ?_
     obtain rfl := Option.some.inj e1
     exact k1 _ _ ⟨_, _, Gw.refl _ _, (s8.pick [0] rfl), h5, rfl⟩
    replace e1 := ib_f q5 e1
    refine d_gn rfl q5 ?_
    refine d_gn rfl q5 ?_
    refine d_gn rfl q5 ?_
    refine d_gn rfl q5 ?_
    refine d_pickf (b := (.bool false)) rfl q5 rfl ?_
    refine d_stB (us' := [(.bool true), (vi a1.Term)]) 0 s7 rfl h5 rfl rfl rfl rfl rfl fun H8 s9 k3 => ?_
    have d5 := d3.keep k3
    refine d_mv (v := (.bool false)) rfl ?_
    refine d_nil (dc_mk rfl (tra (tra (tra (tra (tra (tra (tre (trl (trl (trl (trl (trl (trl (trl (trl (trl (trl (trl (trl (trl (trl (trl tr0)))))))))))))))))))))) (tra (tra (tre (trl (trl (trl (trl (trl (trl (trl (trl (trl (trl (trl (trl (trl (trl (trl (trl (trl (trl (trl tr0)))))))))))))))))))))) (tra (tre (trl (trl (trl (trl (trl (trl (trl (trl (trl (trl (trl (trl (trl (trl (trl (trl (trl (trl (trl (trl tr0)))))))))))))))))))))) (ag_no (w_n rfl q5)) (ag_no (w_n rfl q5)) dc_nil) ?_
    obtain rfl := Option.some.inj e1
    exact k1 _ _ ⟨_, _, Gw.refl _ _, (s9.pick [0] rfl), h5, rfl⟩
   replace e1 := ib_f q4 e1
   refine d_gn rfl q4 ?_
   refine d_gn rfl q4 ?_
   refine d_gn rfl q4 ?_
   refine d_gn rfl q4 ?_
   refine d_gn rfl q4 ?_
   refine d_pickf (b := (.bool false)) rfl q4 rfl ?_
   refine d_mv (v := (.bool false)) rfl ?_
   refine d_gn rfl rfl ?_
   refine d_gn rfl rfl ?_
   refine d_gn rfl rfl ?_
   refine d_gn rfl rfl ?_
   refine d_pickf (b := (.bool false)) rfl rfl rfl ?_
   refine d_stB (us' := [(.bool true), (vi a1.Term)]) 0 s7 rfl h5 rfl rfl rfl rfl rfl fun H9 s10 k4 => ?_
   have d6 := d3.keep k4
   refine d_mv (v := (.bool false)) rfl ?_
   refine d_nil (dc_mk rfl (tra (tra (tra (tra (tra (tra (tre (trl (trl (trl (trl (trl (trl (trl (trl (trl (trl (trl (trl (trl (trl (trl tr0)))))))))))))))))))))) (tra (tra (tre (trl (trl (trl (trl (trl (trl (trl (trl (trl (trl (trl (trl (trl (trl (trl (trl (trl (trl (trl tr0)))))))))))))))))))))) (tra (tre (trl (trl (trl (trl (trl (trl (trl (trl (trl (trl (trl (trl (trl (trl (trl (trl (trl (trl (trl (trl tr0)))))))))))))))))))))) (ag_no (w_n rfl rfl)) (ag_no (w_n rfl rfl)) dc_nil) ?_
   obtain rfl := Option.some.inj e1
   exact k1 _ _ ⟨_, _, Gw.refl _ _, (s10.pick [0] rfl), h5, rfl⟩
  intro _ H5 i3
  obtain ⟨Z2, V2, g2, s6, h1, h2⟩ := i3
  refine c_rt ?_
  obtain rfl := Option.some.inj e
  exact ⟨.inr rfl, _, (ra2 (rac 0 s6 rfl h1 rfl rfl) (rat h2)), rfl, ((s6.pick [] rfl).weak (g1.trans g2) hs.zv)⟩
 replace e := ib_f q2 e
 refine c_sk ?_
 refine c_sq ?_
 refine c_sr ?_
 refine o_fad rfl ?_
 refine o_ldB 1 s5 rfl rfl rfl rfl ?_
 refine o_lss rfl rfl ?_
 refine o_mv (v := (.bool (decide (a1.Rule < 0)))) rfl ?_
 refine o_jn 7 (I := fun tm H => tm 37 = .bool ((decide (a1.Rule < 0)) || (decide ((a0.Rules.length : Int) ≤ a1.Rule))) ∧ (∃ (Z3 V3 : PH), Gw Z1 V1 Z3 V3 ∧ Sat Z3 V3 H [pts b1 (.rw 0 [(vi a0.Terms), (vi a0.Nons), (vi a0.Start), (.slice d1 a0.Rules.length a0.Rules.length)]), pts b2 (.rw 0 [(vi a1.Rule), (vi a1.Term), (.slice d2 a1.Kids.length a1.Kids.length)]), pts b3 (.rw 0 [(.bool false), (vi 0)])] ∧ tm 2 = (.pointer (some ⟨b1, 0, none⟩)) ∧ tm 3 = (.pointer (some ⟨b2, 0, none⟩)) ∧ tm 4 = (.pointer (some ⟨b3, 0, none⟩)))) (fun k5 => ?_) ?_
 ·rcases Bool.eq_false_or_eq_true (decide (a1.Rule < 0)) with q6 | q6
  ·refine o_gn rfl q6 ?_
   refine o_gn rfl q6 ?_
   refine o_gn rfl q6 ?_
   refine o_gn rfl q6 ?_
   refine o_gn rfl q6 ?_
   refine o_gn rfl q6 ?_
   refine o_pickt (a := (.bool true)) rfl q6 rfl ?_
   exact k5 _ _ ⟨gf rfl (by first | (rw [q6]; first | done | rfl) | simp [q6]), _, _, Gw.refl _ _, (s5.pick [2, 1, 0] rfl), rfl, rfl, rfl⟩
  refine o_gy rfl q6 ?_
  refine o_fad rfl ?_
  refine o_gy rfl q6 ?_
  refine o_ldB 1 s5 rfl rfl rfl rfl ?_
  refine o_gy rfl q6 ?_
  refine o_fad rfl ?_
  refine o_gy rfl q6 ?_
  refine o_ldB 2 s5 rfl rfl rfl rfl ?_
  refine o_gy rfl q6 ?_
  refine o_len rfl ((hp1.mono g1.v)).len ?_
  refine o_gy rfl q6 ?_
  refine o_geq rfl rfl ?_
  refine o_pickf (b := (.bool (decide ((a0.Rules.length : Int) ≤ a1.Rule)))) rfl q6 rfl ?_
  exact k5 _ _ ⟨gf rfl (by first | (rw [q6]; first | done | rfl) | simp [q6]), _, _, Gw.refl _ _, (s5.pick [2, 1, 0] rfl), rfl, rfl, rfl⟩
 intro _ H10 i4
 obtain ⟨h9, Z3, V3, g3, s11, h6, h7, h8⟩ := i4
 refine c_nil ?_
 refine c_if h9 (fun q7 => ?_) (fun q7 => ?_)
 ·replace e := if_t q7 e
  refine c_sr ?_
  refine o_bld (qs := []) rfl rfl ?_
  refine o_stB (us' := [(.bool false), (vi 0)]) 2 s11 rfl h8 rfl rfl rfl rfl rfl fun H11 s12 => ?_
  refine o_mv (v := (.bool false)) rfl ?_
  refine c_nil ?_
  refine c_rt ?_
  obtain rfl := Option.some.inj e
  exact ⟨.inr rfl, _, (ra2 (rac 2 s12 rfl h8 rfl rfl) (rat rfl)), rfl, ((s12.pick [] rfl).weak (g1.trans g3) hs.zv)⟩
 replace e := ib_f q7 e
 refine c_sk ?_
 refine c_sq ?_
 refine d_start s11 fun n2 H12 s13 q8 d7 => ?_
 refine d_fad h6 ?_
 refine d_ldB (q8 _ _ (ph_some.2 ⟨s13.curB 0 rfl, by simp⟩)) 0 s13 rfl rfl rfl rfl ?_
 refine d_fad h7 ?_
 refine d_ldB (q8 _ _ (ph_some.2 ⟨s13.curB 1 rfl, by simp⟩)) 1 s13 rfl rfl rfl rfl ?_
 obtain ⟨x2, q9, e⟩ := Pu.bind_some e
 refine d_idx (v := (.slice d1 a0.Rules.length a0.Rules.length)) rfl rfl (hp1.mono (g1.trans g3).v) rfl q9 fun p1 q10 => ?_
 refine d_fadE rfl q10 fun p2 q11 => ?_
 refine d_ldF (RdS.low (hp1.mono (g1.trans g3).v) s13.v q8) rfl (hp1.mono (g1.trans g3).v) s13.v rfl q10 q11 q9 rfl fun c5 h10 => ?_
 obtain ⟨w1, rfl, h11⟩ := Sh.api_Rule_op h10
 refine ⟨_, rfl, ?_⟩
 refine d_bld (qs := [(1, 1, (vi x2.Left))]) rfl rfl ?_
 refine d_fad h7 ?_
 refine d_ldB (q8 _ _ (ph_some.2 ⟨s13.curB 1 rfl, by simp⟩)) 1 s13 rfl rfl rfl rfl ?_
 refine d_eql rfl rfl ?_
 refine d_stB (us' := [(.bool false), (vi x2.Left)]) 2 s13 rfl h8 rfl rfl rfl rfl rfl fun H13 s14 k6 => ?_
 have d8 := d7.keep k6
 refine d_mv (v := (.bool (decide (a1.Term = 0)))) rfl ?_
 refine d_nil (dc_mk rfl (tra (tra (tra (tra (tre (trl (trl (trl (trl (trl (trl (trl (trl (trl tr0)))))))))))))) (tra (tra (tre (trl (trl (trl (trl (trl (trl (trl (trl (trl (trl (trl tr0)))))))))))))) (tra (tre (trl (trl (trl (trl (trl (trl (trl (trl (trl (trl (trl (trl tr0)))))))))))))) (ag_ldx (w := (vi a1.Term)) w_0 rfl (ldB_v 1 s13 rfl rfl rfl) (ldB_v 1 s13 rfl rfl rfl) (by simp [vsame, vsame1])) (ag_ldx (w := (vi a1.Term)) w_0 rfl (ldB_v 1 s13 rfl rfl rfl) (ldB_v 1 s14 rfl rfl rfl) (by simp [vsame, vsame1])) dc_nil) ?_
 refine c_gen (P := fun tm => tm 4 = (.pointer (some ⟨b3, 0, none⟩)) ∧ tm 5 = (.bool (decide (a1.Term = 0))) ∧ True) ⟨h8, rfl, trivial⟩ ?_
 intro _ i5
 obtain ⟨h12, h13, -⟩ := i5
 refine c_rt ?_
 obtain rfl := Option.some.inj e
 exact ⟨.inr rfl, _, (ra2 (rac 2 s14 rfl h12 rfl rfl) (rat h13)), rfl, ((s14.pick [] rfl).weak (g1.trans g3) hs.zv)⟩
/-! tree_valid -/
structure Nd.tree_valid (T : FuncId → Option AFunc) : Prop where
  own_tree_valid : Has T I.tree_valid F.tree_valid
  tree_symbol : Nd.tree_symbol T
  tree_leaf : Nd.tree_leaf T
set_option maxHeartbeats 1000000 in
theorem X.tree_valid_rec {T : FuncId → Option AFunc} (nd : Nd.tree_valid T) : ∀ φ : Nat, (∀ {Z V : PH} {H : Hp} {v1 : Value} {v2 : Value} {a0 : Ty.api_Grammar} {a1 : Ty.api_Tree} (hs : Sat Z V H []) (hp1 : RdS Sh.api_Rule V v1 a0.Rules) (hp2 : RdS Sh.api_Tree V v2 a1.Kids) {r : Bool} (e : P.tree_valid φ a0 a1 = some r), G T I.tree_valid [(.agg #[(vi a0.Terms), (vi a0.Nons), (vi a0.Start), v1]), (.agg #[(vi a1.Rule), (vi a1.Term), v2])] H (fun rv H' => rv = (.bool r) ∧ Sat Z V H' [])) := by
  intro φ
  induction φ with
  | zero =>
    intro Z V H v1 v2 a0 a1 hs hp1 hp2 r e
    rw [P.tree_valid] at e; cases e
  | succ φ ih =>
    intro Z V H v1 v2 a0 a1 hs hp1 hp2 r e
    rw [P.tree_valid] at e
    refine f_mk nd.own_tree_valid ?_
    refine c_sr ?_
    obtain ⟨d1, rfl⟩ := (hp1).val
    refine o_box hs rfl rfl fun b1 H1 s1 => ?_
    obtain ⟨d2, rfl⟩ := (hp2).val
    refine o_box s1 rfl rfl fun b2 H2 s2 => ?_
    refine o_mv (v := (.bool false)) rfl ?_
    refine c_nil ?_
    refine c_sq ?_
    refine c_sr ?_
    refine o_ldB 1 s2 rfl rfl rfl rfl ?_
    refine o_ldB 0 s2 rfl rfl rfl rfl ?_
    obtain ⟨x1, q1, e⟩ := Pu.bind_some e
    obtain ⟨Z1, V1, W1, g1, u1, c1, c2, -, c4, c3⟩ := Sat.call (l1 := []) s2
    refine o_call (mc rfl (mc rfl m0)) (X.tree_symbol nd.tree_symbol c1 (hp1.mono (g1.v.trans u1)) (hp2.mono (g1.v.trans u1)) q1) fun _ H3 i1 => ?_
    obtain ⟨rfl, s3⟩ := i1
    have s4 := c3 _ _ s3
    refine o_mv (v := (.tuple #[(.agg #[(.bool x1.1.Term), (vi x1.1.N)]), (.bool x1.2)])) rfl ?_
    refine o_ext rfl rfl ?_
    refine o_ext rfl rfl ?_
    refine o_new s4 fun b3 H4 s5 => ?_
    refine o_stB (us' := [(.bool x1.1.Term), (vi x1.1.N)]) 0 s5 rfl rfl rfl rfl rfl rfl rfl fun H5 s6 => ?_
    refine o_mv (v := (.bool x1.2)) rfl ?_
    refine c_nil ?_
    refine c_gen (P := fun tm => tm 2 = (.pointer (some ⟨b1, 0, none⟩)) ∧ tm 3 = (.pointer (some ⟨b2, 0, none⟩)) ∧ tm 6 = (.bool x1.2) ∧ True) ⟨rfl, rfl, rfl, trivial⟩ ?_
    intro _ i2
    obtain ⟨h1, h2, h3, -⟩ := i2
    refine c_sr ?_
    refine o_mv (v := (.bool x1.2)) h3 ?_
    refine o_not rfl ?_
    refine o_mv (v := (.bool (!x1.2))) rfl ?_
    obtain ⟨y1, e1, e⟩ := Pu.bind_some e
    refine o_jn 3 (I := fun tm H => ∃ (Z2 V2 : PH), Gw Z1 V1 Z2 V2 ∧ Sat Z2 V2 H [pts b1 (.rw 0 [(vi a0.Terms), (vi a0.Nons), (vi a0.Start), (.slice d1 a0.Rules.length a0.Rules.length)]), pts b2 (.rw 0 [(vi a1.Rule), (vi a1.Term), (.slice d2 a1.Kids.length a1.Kids.length)])] ∧ tm 2 = (.pointer (some ⟨b1, 0, none⟩)) ∧ tm 3 = (.pointer (some ⟨b2, 0, none⟩)) ∧ tm 6 = (.bool x1.2) ∧ tm 23 = (.bool y1)) (fun k1 => ?_) ?_
    ·rcases Bool.eq_false_or_eq_true (!x1.2) with q2 | q2
     ·replace e1 := if_t q2 e1
      refine o_gn rfl q2 ?_
      refine o_gn rfl q2 ?_
      refine o_pickt (a := (.bool true)) rfl q2 rfl ?_
      obtain rfl := Option.some.inj e1
      exact k1 _ _ ⟨_, _, Gw.refl _ _, (s6.pick [2, 1] rfl), h1, h2, h3, rfl⟩
     replace e1 := ib_f q2 e1
     refine o_gy rfl q2 ?_
     refine o_ldB 1 s6 rfl h2 rfl rfl ?_
     refine o_gy rfl q2 ?_
     obtain ⟨x2, q3, e1⟩ := Pu.bind_some e1
     obtain ⟨Z3, V3, W2, g3, u2, c5, c6, -, c8, c7⟩ := Sat.call (l1 := []) s6
     refine o_call (mc rfl m0) (X.tree_leaf nd.tree_leaf c5 (hp2.mono ((g1.trans g3).v.trans u2)) q3) fun _ H7 i3 => ?_
     obtain ⟨rfl, s8⟩ := i3
     have s9 := c7 _ _ s8
     refine o_pickf (b := (.bool x2)) rfl q2 rfl ?_
     obtain rfl := Option.some.inj e1
     exact k1 _ _ ⟨_, _, g3, (s9.pick [2, 1] rfl), h1, h2, h3, rfl⟩
    intro _ H6 i4
    obtain ⟨Z2, V2, g2, s7, h4, h5, h6, h7⟩ := i4
    refine c_nil ?_
    refine c_if h7 (fun q4 => ?_) (fun q4 => ?_)
    ·replace e := if_t q4 e
     refine c_sr ?_
     refine o_mv (v := (.bool x1.2)) h6 ?_
     refine o_mv (v := (.bool x1.2)) rfl ?_
     refine c_nil ?_
     refine c_rt ?_
     obtain rfl := Option.some.inj e
     exact ⟨.inr rfl, _, (ar1 rfl), rfl, ((s7.pick [] rfl).weak (g1.trans g2) hs.zv)⟩
    replace e := ib_f q4 e
    refine c_sk ?_
    refine c_sr ?_
    refine o_fad h4 ?_
    refine o_ldB 0 s7 rfl rfl rfl rfl ?_
    refine o_fad h5 ?_
    refine o_ldB 1 s7 rfl rfl rfl rfl ?_
    obtain ⟨x3, q5, e⟩ := Pu.bind_some e
    refine o_idx (v := (.slice d1 a0.Rules.length a0.Rules.length)) rfl rfl (hp1.mono (g1.trans g2).v) rfl q5 fun p1 q6 => ?_
    refine o_fadE rfl q6 fun p2 q7 => ?_
    refine o_ldF rfl (hp1.mono (g1.trans g2).v) s7.v rfl q6 q7 q5 rfl fun c9 h8 => ?_
    obtain ⟨w1, rfl, h9⟩ := Sh.api_Rule_op h8
    refine ⟨_, rfl, ?_⟩
    refine o_mv (v := w1) rfl ?_
    refine c_nil ?_
    refine c_sq ?_
    refine c_sr ?_
    refine o_fad h5 ?_
    refine o_ldB 1 s7 rfl rfl rfl rfl ?_
    refine o_len rfl ((hp2.mono (g1.trans g2).v)).len ?_
    refine o_mv (v := w1) rfl ?_
    refine o_len rfl (h9).len ?_
    refine o_neq rfl rfl ?_
    refine c_nil ?_
    refine c_gen (P := fun tm => tm 2 = (.pointer (some ⟨b1, 0, none⟩)) ∧ tm 3 = (.pointer (some ⟨b2, 0, none⟩)) ∧ tm 7 = w1 ∧ tm 37 = (.bool (decide ((a1.Kids.length : Int) ≠ (x3.Right.length : Int)))) ∧ True) ⟨h4, h5, rfl, rfl, trivial⟩ ?_
    intro _ i5
    obtain ⟨h10, h11, h12, h13, -⟩ := i5
    refine c_ifd h13 (fun q8 => ?_) (fun q8 => ?_)
    ·replace e := if_t q8 e
     refine c_sr ?_
     refine o_mv (v := (.bool false)) rfl ?_
     refine c_nil ?_
     refine c_rt ?_
     obtain rfl := Option.some.inj e
     exact ⟨.inr rfl, _, (ar1 rfl), rfl, ((s7.pick [] rfl).weak (g1.trans g2) hs.zv)⟩
    replace e := if_f q8 e
    refine c_sk ?_
    refine c_sq ?_
    refine c_sr ?_
    refine o_fad h11 ?_
    refine o_ldB 1 s7 rfl rfl rfl rfl ?_
    refine o_len rfl ((hp2.mono (g1.trans g2).v)).len ?_
    refine o_mv (v := (vi 0)) rfl ?_
    refine c_nil ?_
    obtain ⟨y2, q11, e⟩ := Pu.bind_some e
    refine c_jn (I := fun tm H => ∃ (s12 : Unit), y2 = .out s12 ∧ (∃ (Z5 V5 : PH), Gw Z2 V2 Z5 V5 ∧ Sat Z5 V5 H [pts b1 (.rw 0 [(vi a0.Terms), (vi a0.Nons), (vi a0.Start), (.slice d1 a0.Rules.length a0.Rules.length)])] ∧ tm 2 = (.pointer (some ⟨b1, 0, none⟩)) ∧ tm 7 = w1 ∧ tm 39 = (.slice d2 a1.Kids.length a1.Kids.length) ∧ tm 40 = (vi (a1.Kids.length : Int)))) (fun k5 => ?_) ?_
    ·refine c_bk ?_
     refine l_forL (xs := a1.Kids) (fun (i6 : Nat) (s10 : Unit) tm H => tm 41 = vi i6 ∧ ∃ (Z4 V4 : PH), Gw Z2 V2 Z4 V4 ∧ Sat Z4 V4 H [pts b1 (.rw 0 [(vi a0.Terms), (vi a0.Nons), (vi a0.Start), (.slice d1 a0.Rules.length a0.Rules.length)])] ∧ tm 2 = (.pointer (some ⟨b1, 0, none⟩)) ∧ tm 7 = w1 ∧ tm 39 = (.slice d2 a1.Kids.length a1.Kids.length) ∧ tm 40 = (vi (a1.Kids.length : Int))) (fun i6 x4 s10 y3 tm H9 q9 q10 j1 e2 k2 k3 k4 => ?_) (fun s10 tm H8 jf jd => ?_) q11 ⟨rfl, _, _, Gw.refl _ _, (s7.pick [0] rfl), h10, h12, rfl, rfl⟩
     ·obtain ⟨hti0, Z4, V4, g4, s11, h14, h15, h16, h17⟩ := j1
      unfold P.tree_valid.b0 at e2
      refine c_sr ?_
      refine o_lss hti0 h17 ?_
      refine c_nil ?_
      refine c_sq ?_
      refine c_ift rfl (Int.ofNat_lt.2 q10) ?_
      refine c_sk ?_
      refine c_sq ?_
      refine c_bk ?_
      refine c_sr ?_
      refine o_mv (v := (vi (i6 : Int))) hti0 ?_
      refine o_idx (v := (.slice d2 a1.Kids.length a1.Kids.length)) h16 hti0 (hp2.mono (g1.trans (g2.trans g4)).v) rfl (Pu.ix_nat.trans q9) fun p3 q12 => ?_
      refine o_lda rfl (hp2.mono (g1.trans (g2.trans g4)).v) s11.v rfl q12 (Pu.ix_nat.trans q9) fun c10 h22 => ?_
      obtain ⟨w2, rfl, h23⟩ := Sh.api_Tree_op h22
      refine o_new s11 fun b4 H11 s14 => ?_
      refine o_mv (v := (vi (i6 : Int))) rfl ?_
      obtain ⟨d3, rfl⟩ := (h23).val
      refine o_stB (us' := [(vi x4.Rule), (vi x4.Term), (.slice d3 x4.Kids.length x4.Kids.length)]) 0 s14 rfl rfl rfl rfl rfl rfl rfl fun H12 s15 => ?_
      refine c_nil ?_
      refine c_sr ?_
      refine o_ldB 1 s15 rfl h14 rfl rfl ?_
      refine o_ldB 0 s15 rfl rfl rfl rfl ?_
      obtain ⟨x5, q13, e2⟩ := Pu.bind_some e2
      obtain ⟨Z6, V6, W3, g6, u3, c11, c12, -, c14, c13⟩ := Sat.call (l1 := []) s15
      refine o_call (mc rfl (mc rfl m0)) (X.tree_symbol nd.tree_symbol c11 (hp1.mono (((g1.trans (g2.trans g4)).trans g6).v.trans u3)) (h23.mono (g6.v.trans u3)) q13) fun _ H13 i7 => ?_
      obtain ⟨rfl, s16⟩ := i7
      have s17 := c13 _ _ s16
      refine o_mv (v := (.tuple #[(.agg #[(.bool x5.1.Term), (vi x5.1.N)]), (.bool x5.2)])) rfl ?_
      refine o_ext rfl rfl ?_
      refine o_ext rfl rfl ?_
      refine o_new s17 fun b5 H14 s18 => ?_
      refine o_stB (us' := [(.bool x5.1.Term), (vi x5.1.N)]) 0 s18 rfl rfl rfl rfl rfl rfl rfl fun H15 s19 => ?_
      refine o_mv (v := (.bool x5.2)) rfl ?_
      refine c_nil ?_
      refine c_gen (P := fun tm => tm 2 = (.pointer (some ⟨b1, 0, none⟩)) ∧ tm 7 = w1 ∧ tm 8 = (vi (i6 : Int)) ∧ tm 9 = (.pointer (some ⟨b4, 0, none⟩)) ∧ tm 10 = (.pointer (some ⟨b5, 0, none⟩)) ∧ tm 11 = (.bool x5.2) ∧ tm 39 = (.slice d2 a1.Kids.length a1.Kids.length) ∧ tm 40 = (vi (a1.Kids.length : Int)) ∧ tm 41 = (vi (i6 : Int)) ∧ True) ⟨h14, h15, rfl, rfl, rfl, rfl, h16, h17, hti0, trivial⟩ ?_
      intro _ i8
      obtain ⟨h24, h25, h26, h27, h28, h29, h30, h31, h32, -⟩ := i8
      refine c_sq ?_
      refine d_start s19 fun n1 H16 s20 q14 d4 => ?_
      refine d_mv (v := (.bool x5.2)) h29 ?_
      refine d_not rfl ?_
      refine d_mv (v := (.bool (!x5.2))) rfl ?_
      obtain ⟨y4, e3, e2⟩ := Pu.bind_some e2
      refine d_jn 7 (I := fun tm H => DD n1 10 (List.length F.tree_valid.r11) H ∧ (∃ (Z7 V7 : PH), Gw Z6 V6 Z7 V7 ∧ Sat Z7 V7 H [pts b1 (.rw 0 [(vi a0.Terms), (vi a0.Nons), (vi a0.Start), (.slice d1 a0.Rules.length a0.Rules.length)]), pts b4 (.rw 0 [(vi x4.Rule), (vi x4.Term), (.slice d3 x4.Kids.length x4.Kids.length)])] ∧ tm 2 = (.pointer (some ⟨b1, 0, none⟩)) ∧ tm 7 = w1 ∧ tm 9 = (.pointer (some ⟨b4, 0, none⟩)) ∧ tm 39 = (.slice d2 a1.Kids.length a1.Kids.length) ∧ tm 40 = (vi (a1.Kids.length : Int)) ∧ tm 41 = (vi (i6 : Int)) ∧ tm 61 = (.bool y4))) (fun k6 => ?_) ?_
      ·rcases Bool.eq_false_or_eq_true (!x5.2) with q15 | q15
       ·replace e3 := if_t q15 e3
        refine d_gn rfl q15 ?_
        refine d_gn rfl q15 ?_
        refine d_gn rfl q15 ?_
        refine d_gn rfl q15 ?_
        refine d_gn rfl q15 ?_
        refine d_gn rfl q15 ?_
        refine d_pickt (a := (.bool true)) rfl q15 rfl ?_
        obtain rfl := Option.some.inj e3
        exact k6 _ _ _ ⟨d4.up rfl, _, _, Gw.refl _ _, (s20.pick [2, 1] rfl), h24, h25, h27, h30, h31, h32, rfl⟩
       replace e3 := ib_f q15 e3
       refine d_want rfl q15 ?_
       refine d_ldB (q14 _ _ (ph_some.2 ⟨s20.curB 0 rfl, by simp⟩)) 0 s20 rfl h28 rfl rfl ?_
       refine d_want rfl q15 ?_
       refine d_mv (v := w1) h25 ?_
       refine d_want rfl q15 ?_
       refine d_mv (v := (vi (i6 : Int))) h26 ?_
       refine d_want rfl q15 ?_
       obtain ⟨x6, q16, e3⟩ := Pu.bind_some e3
       refine d_idx (v := w1) rfl rfl (h9.mono (g4.trans g6).v) rfl q16 fun p4 q17 => ?_
       refine d_want rfl q15 ?_
       refine d_lda (RdS.low (h9.mono (g4.trans g6).v) s20.v q14) rfl h9 ((g4.trans g6).v.trans s20.v) rfl q17 q16 fun c15 h40 => ?_
       obtain rfl := h40
       refine d_want rfl q15 ?_
       refine d_eq (q_napi_Sym ..) rfl rfl ?_
       refine d_pickf (b := (.bool (!((x5.1.Term == x6.Term) && (x5.1.N == x6.N))))) rfl q15 rfl ?_
       obtain rfl := Option.some.inj e3
       exact k6 _ _ _ ⟨d4.up rfl, _, _, Gw.refl _ _, (s20.pick [2, 1] rfl), h24, h25, h27, h30, h31, h32, rfl⟩
      intro _ H17 _ i9
      obtain ⟨d5, Z7, V7, g7, s21, h33, h34, h35, h36, h37, h38, h39⟩ := i9
      refine d_mv (v := (.bool y4)) h39 ?_
      obtain ⟨y5, e4, e2⟩ := Pu.bind_some e2
      refine d_jn 5 (I := fun tm H => DD n1 16 (List.length F.tree_valid.r11) H ∧ (∃ (Z8 V8 : PH), Gw Z7 V7 Z8 V8 ∧ Sat Z8 V8 H [pts b1 (.rw 0 [(vi a0.Terms), (vi a0.Nons), (vi a0.Start), (.slice d1 a0.Rules.length a0.Rules.length)])] ∧ tm 2 = (.pointer (some ⟨b1, 0, none⟩)) ∧ tm 7 = w1 ∧ tm 39 = (.slice d2 a1.Kids.length a1.Kids.length) ∧ tm 40 = (vi (a1.Kids.length : Int)) ∧ tm 41 = (vi (i6 : Int)) ∧ tm 67 = (.bool y5))) (fun k7 => ?_) ?_
      ·rcases Bool.eq_false_or_eq_true y4 with q18 | q18
       ·replace e4 := if_t q18 e4
        refine d_gn rfl q18 ?_
        refine d_gn rfl q18 ?_
        refine d_gn rfl q18 ?_
        refine d_gn rfl q18 ?_
        refine d_pickt (a := (.bool true)) rfl q18 rfl ?_
        obtain rfl := Option.some.inj e4
        exact k7 _ _ _ ⟨d5.up rfl, _, _, Gw.refl _ _, (s21.pick [0] rfl), h33, h34, h36, h37, h38, rfl⟩
       replace e4 := ib_f q18 e4
       refine d_want rfl q18 ?_
       refine d_ldB (q14 _ _ (ph_some.2 ⟨s20.curB 2 rfl, by simp⟩)) 0 s21 rfl h33 rfl rfl ?_
       refine d_want rfl q18 ?_
       refine d_ldB (q14 _ _ (ph_some.2 ⟨s20.curB 1 rfl, by simp⟩)) 1 s21 rfl h35 rfl rfl ?_
       refine d_want rfl q18 ?_
       obtain ⟨x7, q19, e4⟩ := Pu.bind_some e4
       obtain ⟨Z9, V9, W4, g9, u4, c16, c17, -, c19, c18⟩ := Sat.call (l1 := []) s21
       refine d_call (mc rfl (mc rfl m0)) (ih c16 (hp1.mono (((g1.trans (g2.trans (g4.trans (g6.trans g7)))).trans g9).v.trans u4)) (h23.mono (((g6.trans g7).trans g9).v.trans u4)) q19) fun _ H19 i10 k8 => ?_
       have d6 := d5.keep k8
       obtain ⟨rfl, s23⟩ := i10
       have s24 := c18 _ _ s23
       refine d_want rfl q18 ?_
       refine d_not rfl ?_
       refine d_pickf (b := (.bool (!x7))) rfl q18 rfl ?_
       obtain rfl := Option.some.inj e4
       exact k7 _ _ _ ⟨d6.up rfl, _, _, g9, (s24.pick [0] rfl), h33, h34, h36, h37, h38, rfl⟩
      intro _ H18 _ i11
      obtain ⟨d7, Z8, V8, g8, s22, h41, h42, h43, h44, h45, h46⟩ := i11
      refine d_nil dc_nil ?_
      refine c_if h46 (fun q20 => ?_) (fun q20 => ?_)
      ·replace e2 := if_t q20 e2
       refine c_sr ?_
       refine o_mv (v := (.bool false)) rfl ?_
       refine c_nil ?_
       refine c_rt ?_
       have e5 := fin_r (k4 _ (Option.some.inj e2).symm) e
       obtain rfl := Option.some.inj e5
       exact ⟨.inr rfl, _, (ar1 rfl), rfl, ((s22.pick [] rfl).weak (g1.trans (g2.trans (g4.trans (g6.trans (g7.trans g8))))) hs.zv)⟩
      replace e2 := ib_f q20 e2
      refine c_sk ?_
      refine c_end ?_
      refine c_r ?_
      refine o_add h45 rfl ?_
      refine o_mv (v := (vi (Pu.W ((i6 : Int) + 1)))) rfl ?_
      refine c_nil ?_
      exact k2 _ _ _ (Option.some.inj e2).symm ⟨(iv rfl (w_suc q10 ((hp2.mono (g1.trans g2).v)).bd)), _, _, (g4.trans (g6.trans (g7.trans g8))), s22, h41, h42, h43, h44⟩
     ·obtain ⟨hte0, Z10, V10, g10, s25, h47, h48, h49, h50⟩ := jd
      refine c_sr ?_
      refine o_lss hte0 h50 ?_
      refine c_nil ?_
      refine c_sq ?_
      refine c_iff rfl (Int.lt_irrefl _) ?_
      refine c_ex ?_
      refine e_c ?_
      refine e_c ?_
      refine e_h ?_
      exact k5 _ _ ⟨_, jf, _, _, g10, s25, h47, h48, h49, h50⟩
    intro _ H10 i12
    obtain ⟨s12, f1, Z5, V5, g5, s13, h18, h19, h20, h21⟩ := i12
    replace e := fin_o f1 e
    refine c_sr ?_
    refine o_mv (v := (.bool true)) rfl ?_
    refine c_nil ?_
    refine c_rt ?_
    obtain rfl := Option.some.inj e
    exact ⟨.inr rfl, _, (ar1 rfl), rfl, ((s13.pick [] rfl).weak (g1.trans (g2.trans g5)) hs.zv)⟩
theorem X.tree_valid {T : FuncId → Option AFunc} (nd : Nd.tree_valid T) {φ : Nat} {Z V : PH} {H : Hp} {v1 : Value} {v2 : Value} {a0 : Ty.api_Grammar} {a1 : Ty.api_Tree} (hs : Sat Z V H []) (hp1 : RdS Sh.api_Rule V v1 a0.Rules) (hp2 : RdS Sh.api_Tree V v2 a1.Kids) {r : Bool} (e : P.tree_valid φ a0 a1 = some r) :
    G T I.tree_valid [(.agg #[(vi a0.Terms), (vi a0.Nons), (vi a0.Start), v1]), (.agg #[(vi a1.Rule), (vi a1.Term), v2])] H (fun rv H' => rv = (.bool r) ∧ Sat Z V H' []) := (X.tree_valid_rec nd φ) hs hp1 hp2 e
/-! tree_Check -/
structure Nd.tree_Check (T : FuncId → Option AFunc) : Prop where
  own : Has T I.tree_Check F.tree_Check
  gram_Check : Nd.gram_Check T
  tree_Size : Nd.tree_Size T
  tree_valid : Nd.tree_valid T
set_option maxHeartbeats 1000000 in
theorem X.tree_Check {T : FuncId → Option AFunc} (nd : Nd.tree_Check T) {φ : Nat} {Z V : PH} {H : Hp} {v1 : Value} {v2 : Value} {a0 : Ty.api_Grammar} {a1 : Ty.api_Tree} (hs : Sat Z V H []) (hp1 : RdS Sh.api_Rule V v1 a0.Rules) (hp2 : RdS Sh.api_Tree V v2 a1.Kids) {r : Int} (e : P.tree_Check φ a0 a1 = some r) :
    G T I.tree_Check [(.agg #[(vi a0.Terms), (vi a0.Nons), (vi a0.Start), v1]), (.agg #[(vi a1.Rule), (vi a1.Term), v2])] H (fun rv H' => rv = (vi r) ∧ Sat Z V H' []) := by
 unfold P.tree_Check at e
 refine f_mk nd.own ?_
 refine c_sr ?_
 obtain ⟨d1, rfl⟩ := (hp1).val
 refine o_box hs rfl rfl fun b1 H1 s1 => ?_
 obtain ⟨d2, rfl⟩ := (hp2).val
 refine o_box s1 rfl rfl fun b2 H2 s2 => ?_
 refine o_mv (v := (vi 0)) rfl ?_
 refine c_nil ?_
 refine c_sq ?_
 refine c_sr ?_
 refine o_ldB 1 s2 rfl rfl rfl rfl ?_
 obtain ⟨x1, q1, e⟩ := Pu.bind_some e
 obtain ⟨Z1, V1, W1, g1, u1, c1, c2, -, c4, c3⟩ := Sat.call (l1 := []) s2
 refine o_call (mc rfl m0) (X.gram_Check nd.gram_Check c1 (hp1.mono (g1.v.trans u1)) q1) fun _ H3 i1 => ?_
 obtain ⟨rfl, s3⟩ := i1
 have s4 := c3 _ _ s3
 refine o_mv (v := (vi x1)) rfl ?_
 refine c_nil ?_
 refine c_sr ?_
 refine o_mv (v := (vi x1)) rfl ?_
 refine o_neq rfl rfl ?_
 refine c_nil ?_
 refine c_ifd rfl (fun q2 => ?_) (fun q2 => ?_)
 ·replace e := if_t q2 e
  refine c_sr ?_
  refine o_mv (v := (vi x1)) rfl ?_
  refine o_mv (v := (vi x1)) rfl ?_
  refine c_nil ?_
  refine c_gen (P := fun tm => tm 4 = (vi x1) ∧ True) ⟨rfl, trivial⟩ ?_
  intro _ i2
  obtain ⟨h1, -⟩ := i2
  refine c_rt ?_
  obtain rfl := Option.some.inj e
  exact ⟨.inr rfl, _, (ar1 h1), rfl, ((s4.pick [] rfl).weak g1 hs.zv)⟩
 replace e := if_f q2 e
 refine c_sk ?_
 refine c_sq ?_
 refine c_sr ?_
 refine o_ldB 0 s4 rfl rfl rfl rfl ?_
 obtain ⟨x2, q3, e⟩ := Pu.bind_some e
 obtain ⟨Z2, V2, W2, g2, u2, c5, c6, -, c8, c7⟩ := Sat.call (l1 := []) s4
 refine o_call (mc rfl m0) (X.tree_Size nd.tree_Size c5 (hp2.mono ((g1.trans g2).v.trans u2)) q3) fun _ H4 i3 => ?_
 obtain ⟨rfl, s5⟩ := i3
 have s6 := c7 _ _ s5
 refine o_gtr rfl rfl ?_
 refine c_nil ?_
 refine c_gen (P := fun tm => tm 2 = (.pointer (some ⟨b1, 0, none⟩)) ∧ tm 3 = (.pointer (some ⟨b2, 0, none⟩)) ∧ tm 13 = (.bool (decide (5000 < x2))) ∧ True) ⟨rfl, rfl, rfl, trivial⟩ ?_
 intro _ i4
 obtain ⟨h2, h3, h4, -⟩ := i4
 refine c_ifd h4 (fun q4 => ?_) (fun q4 => ?_)
 ·replace e := if_t q4 e
  refine c_sr ?_
  refine o_mv (v := (vi 2)) rfl ?_
  refine c_nil ?_
  refine c_rt ?_
  obtain rfl := Option.some.inj e
  exact ⟨.inr rfl, _, (ar1 rfl), rfl, ((s6.pick [] rfl).weak (g1.trans g2) hs.zv)⟩
 replace e := if_f q4 e
 refine c_sk ?_
 refine c_sq ?_
 refine c_sr ?_
 refine o_ldB 1 s6 rfl h2 rfl rfl ?_
 refine o_ldB 0 s6 rfl h3 rfl rfl ?_
 obtain ⟨x3, q5, e⟩ := Pu.bind_some e
 obtain ⟨Z3, V3, W3, g3, u3, c9, c10, -, c12, c11⟩ := Sat.call (l1 := []) s6
 refine o_call (mc rfl (mc rfl m0)) (X.tree_valid nd.tree_valid c9 (hp1.mono (((g1.trans g2).trans g3).v.trans u3)) (hp2.mono (((g1.trans g2).trans g3).v.trans u3)) q5) fun _ H5 i5 => ?_
 obtain ⟨rfl, s7⟩ := i5
 have s8 := c11 _ _ s7
 refine o_not rfl ?_
 refine c_nil ?_
 refine c_if rfl (fun q6 => ?_) (fun q6 => ?_)
 ·replace e := if_t q6 e
  refine c_sr ?_
  refine o_mv (v := (vi 3)) rfl ?_
  refine c_nil ?_
  refine c_rt ?_
  obtain rfl := Option.some.inj e
  exact ⟨.inr rfl, _, (ar1 rfl), rfl, ((s8.pick [] rfl).weak (g1.trans (g2.trans g3)) hs.zv)⟩
 replace e := ib_f q6 e
 refine c_sk ?_
 refine c_sr ?_
 refine o_mv (v := (vi 0)) rfl ?_
 refine c_nil ?_
 refine c_rt ?_
 obtain rfl := Option.some.inj e
 exact ⟨.inr rfl, _, (ar1 rfl), rfl, ((s8.pick [] rfl).weak (g1.trans (g2.trans g3)) hs.zv)⟩
/-! slices_Clone_api_Tree_api_Tree -/
structure Nd.slices_Clone_api_Tree_api_Tree (T : FuncId → Option AFunc) : Prop where
  own : Has T I.slices_Clone_api_Tree_api_Tree F.slices_Clone_api_Tree_api_Tree
set_option maxHeartbeats 1000000 in
theorem X.slices_Clone_api_Tree_api_Tree {T : FuncId → Option AFunc} (nd : Nd.slices_Clone_api_Tree_api_Tree T) {Z V : PH} {H : Hp} {v1 : Value} {a0 : (List Ty.api_Tree)} (hs : Sat Z V H []) (hp1 : RdS Sh.api_Tree Z v1 a0) {r : (List Ty.api_Tree)} (e : P.slices_Clone_api_Tree_api_Tree a0 = some r) :
    G T I.slices_Clone_api_Tree_api_Tree [v1] H (fun rv H' => ∃ (u1 : Value), rv = u1 ∧ Sat Z V H' [It.sl (Sh.ro Sh.api_Tree) u1 r]) := by
 unfold P.slices_Clone_api_Tree_api_Tree at e
 refine f_mk nd.own ?_
 refine c_sr ?_
 refine o_mv (v := (.slice none 0 0)) rfl ?_
 refine c_nil ?_
 refine c_sq ?_
 refine c_sr ?_
 refine o_mv (v := v1) rfl ?_
 have h1 := hp1
 rcases h1 with ⟨rfl, rfl⟩ | ⟨b0, o0, us0, x0, rfl, hn0⟩
 ·refine o_eq (p := true) rfl rfl rfl ?_
  have e1 : some [] = some r := by simpa [Pu.app] using e
  refine c_nil ?_
  refine c_bt rfl ?_
  refine c_sr ?_
  refine o_mv (v := (.slice none 0 0)) rfl ?_
  refine c_nil ?_
  refine c_rt ?_
  obtain rfl := Option.some.inj e1
  exact ⟨.inr rfl, _, (ar1 rfl), _, rfl, (hs.push (sl_nil (s := (Sh.ro Sh.api_Tree))))⟩
 refine o_eq (p := false) rfl rfl rfl ?_
 refine c_nil ?_
 refine c_bf rfl ?_
 refine c_sk ?_
 refine c_sr ?_
 refine o_bsl (s := (Sh.ro Sh.api_Tree)) (us := []) (qs := []) (xs := []) hs (Sh.ro_lt _) rfl rfl rfl Els.nil rfl rfl fun w1 H1 s1 => ?_
 refine o_mv (v := (.slice (some ⟨b0, o0, none⟩) a0.length a0.length)) rfl ?_
 obtain ⟨x1, q1, e⟩ := Pu.bind_some e
 refine o_app 0 s1 rfl (Sh.ro_lt _) rfl rfl rfl rfl hp1 s1.z (fun h => h) (by decide) q1 fun w2 H2 s2 => ?_
 refine o_mv (v := w2) rfl ?_
 refine c_nil ?_
 refine c_rt ?_
 obtain rfl := Option.some.inj e
 exact ⟨.inr rfl, _, (ar1 rfl), _, rfl, s2⟩
/-! tree_Clone -/
structure Nd.tree_Clone (T : FuncId → Option AFunc) : Prop where
  own_tree_Clone : Has T I.tree_Clone F.tree_Clone
  slices_Clone_api_Tree_api_Tree : Nd.slices_Clone_api_Tree_api_Tree T
set_option maxHeartbeats 1000000 in
theorem X.tree_Clone_rec {T : FuncId → Option AFunc} (nd : Nd.tree_Clone T) : ∀ φ : Nat, (∀ {Z V : PH} {H : Hp} {v1 : Value} {a0 : Ty.api_Tree} (hs : Sat Z V H []) (hp1 : RdS Sh.api_Tree Z v1 a0.Kids) {r : Ty.api_Tree} (e : P.tree_Clone φ a0 = some r), G T I.tree_Clone [(.agg #[(vi a0.Rule), (vi a0.Term), v1])] H (fun rv H' => ∃ (u1 : Value), rv = (.agg #[(vi r.Rule), (vi r.Term), u1]) ∧ Sat Z V H' [It.sl (Sh.ro Sh.api_Tree) u1 r.Kids])) := by
  intro φ
  induction φ with
  | zero =>
    intro Z V H v1 a0 hs hp1 r e
    rw [P.tree_Clone] at e; cases e
  | succ φ ih =>
    intro Z V H v1 a0 hs hp1 r e
    rw [P.tree_Clone] at e
    refine f_mk nd.own_tree_Clone ?_
    refine c_sr ?_
    obtain ⟨d1, rfl⟩ := (hp1).val
    refine o_box hs rfl rfl fun b1 H1 s1 => ?_
    refine o_new s1 fun b2 H2 s2 => ?_
    refine c_nil ?_
    refine c_sr ?_
    refine o_fad rfl ?_
    refine o_ldB 1 s2 rfl rfl rfl rfl ?_
    obtain ⟨x1, q1, e⟩ := Pu.bind_some e
    obtain ⟨Z1, V1, W1, g1, u1, c1, c2, -, c4, c3⟩ := Sat.call (l1 := []) s2
    refine o_call (mc rfl m0) (X.slices_Clone_api_Tree_api_Tree nd.slices_Clone_api_Tree_api_Tree c1 (hp1.mono g1.z) q1) fun w1 H3 i1 => ?_
    obtain ⟨_, rfl, s3⟩ := i1
    have s4 := c3 _ _ s3
    refine o_fad rfl ?_
    obtain ⟨d2, rfl⟩ := ((s4.curS (s := (Sh.ro Sh.api_Tree)) 0 rfl)).val
    refine o_stB (us' := [(vi a0.Rule), (vi a0.Term), (.slice d2 x1.length x1.length)]) 2 s4 rfl rfl rfl rfl rfl rfl rfl fun H4 s5 => ?_
    refine c_nil ?_
    refine c_sq ?_
    refine c_sr ?_
    refine o_fad rfl ?_
    refine o_ldB 2 s5 rfl rfl rfl rfl ?_
    refine o_len rfl ((s5.curS (s := (Sh.ro Sh.api_Tree)) 0 rfl)).len ?_
    refine o_mv (v := (vi 0)) rfl ?_
    refine c_nil ?_
    refine c_gen (P := fun tm => tm 1 = (.pointer (some ⟨b1, 0, none⟩)) ∧ tm 2 = (.pointer (some ⟨b2, 0, none⟩)) ∧ tm 10 = (vi (x1.length : Int)) ∧ tm 11 = (vi 0) ∧ True) ⟨rfl, rfl, rfl, rfl, trivial⟩ ?_
    intro _ i2
    obtain ⟨h1, h2, h3, h4, -⟩ := i2
    obtain ⟨x3, q4, e⟩ := Pu.bind_some e
    obtain ⟨rfl, q6⟩ := ranO_some q4
    obtain ⟨y1, q7, e⟩ := Pu.bind_some e
    refine c_bk ?_
    refine l_forP (xs := (Pu.ran (x1.length : Int))) (fun (i3 : Nat) (s6 : (List Ty.api_Tree)) tm H => tm 11 = vi i3 ∧ ∃ (Z2 V2 : PH), Gw Z1 V1 Z2 V2 ∧ Sat Z2 V2 H [pts b1 (.rw 0 [(vi a0.Rule), (vi a0.Term), (.slice d2 x1.length x1.length)]), It.sl (Sh.ro Sh.api_Tree) (.slice d2 x1.length x1.length) s6, pts b2 (.rw 0 [(vi 0), (vi 0), (.slice none 0 0)])] ∧ tm 1 = (.pointer (some ⟨b1, 0, none⟩)) ∧ tm 2 = (.pointer (some ⟨b2, 0, none⟩)) ∧ tm 10 = (vi (x1.length : Int))) (fun i3 x2 s6 s8 tm H6 q2 q3 j1 e1 k1 => ?_) (fun tm H5 jd => ?_) q7 ⟨h4, _, _, Gw.refl _ _, (s5.pick [2, 0, 1] rfl), h1, h2, h3⟩
    ·obtain ⟨hti0, Z2, V2, g2, s7, h5, h6, h7⟩ := j1
     unfold P.tree_Clone.b0 at e1
     have hti0 := iv hti0 (ran_x q2).symm
     refine c_sr ?_
     refine o_lss hti0 h7 ?_
     refine c_nil ?_
     refine c_sq ?_
     refine c_ift rfl (ran_lt q2) ?_
     refine c_sk ?_
     refine c_sq ?_
     refine c_bk ?_
     refine c_sr ?_
     refine o_mv (v := (vi x2)) hti0 ?_
     refine o_mv (v := (vi x2)) rfl ?_
     refine c_nil ?_
     refine d_start s7 fun n1 H7 s9 q8 d3 => ?_
     refine d_fad h5 ?_
     refine d_ldB (q8 _ _ (ph_some.2 ⟨s9.curB 0 rfl, by simp⟩)) 0 s9 rfl rfl rfl rfl ?_
     refine d_mv (v := (vi x2)) rfl ?_
     refine d_fad h5 ?_
     refine d_ldB (q8 _ _ (ph_some.2 ⟨s9.curB 0 rfl, by simp⟩)) 0 s9 rfl rfl rfl rfl ?_
     refine d_mv (v := (vi x2)) rfl ?_
     obtain ⟨x4, q9, e1⟩ := Pu.bind_some e1
     refine d_idx (v := (.slice d2 x1.length x1.length)) rfl rfl (s9.curS (s := (Sh.ro Sh.api_Tree)) 1 rfl) rfl q9 fun p1 q10 => ?_
     refine d_ldoa ((s9.curS 1 rfl).low (PH.le.refl _) q8) (p := p1) 1 s9 rfl rfl rfl q10 q9 fun Z3 V3 c5 g3 s10 h8 => ?_
     obtain ⟨w2, rfl, h9⟩ := Sh.api_Tree_op h8
     obtain ⟨x5, q11, e1⟩ := Pu.bind_some e1
     obtain ⟨Z4, V4, W2, g4, u2, c6, c7, -, c9, c8⟩ := Sat.call (l1 := []) s10
     refine d_call (mc rfl m0) (ih c6 (h9.mono g4.z) q11) fun _ H8 i4 k2 => ?_
     have d4 := d3.keep k2
     obtain ⟨w3, rfl, s11⟩ := i4
     have s12 := c8 _ _ s11
     obtain ⟨x6, q12, e1⟩ := Pu.bind_some e1
     refine d_idx (v := (.slice d2 x1.length x1.length)) rfl rfl (s12.curS (s := (Sh.ro Sh.api_Tree)) 2 rfl) rfl q12 fun p2 q13 => ?_
     obtain ⟨Z5, V5, g5, s13, h10⟩ := s12.frzS 0 rfl
     replace h10 := h10.of_ro
     obtain ⟨d5, rfl⟩ := (h10).val
     refine d_st 1 s13 rfl (Sh.ro_lt _) rfl rfl rfl q13 q12 rfl (Sh.api_Tree_cl (x := x5) h10) fun H9 s14 k3 => ?_
     have d6 := d4.keep k3
     refine d_nil (dc_mk rfl (tra (tra (tra (tra (tra (tra (tra (tra (tra (tra (tre (trl tr0)))))))))))) (tra (tra (tra (tre (trl (trl (trl (trl (trl (trl (trl (trl tr0)))))))))))) (tra (tra (tre (trl (trl (trl (trl (trl (trl (trl (trl (trl tr0)))))))))))) (ag_ldx (w := (.slice d2 x1.length x1.length)) w_0 rfl (ldB_v 0 s9 rfl rfl rfl) (ldB_v 0 s10 rfl rfl rfl) (by simp [vsame, vsame1])) (ag_ldx (w := (.slice d2 x1.length x1.length)) w_0 rfl (ldB_v 0 s9 rfl rfl rfl) (ldB_v 1 s12 rfl rfl rfl) (by simp [vsame, vsame1])) dc_nil) ?_
     refine c_end ?_
     refine c_r ?_
     refine o_add hti0 rfl ?_
     refine o_mv (v := (vi (Pu.W (x2 + 1)))) rfl ?_
     refine c_nil ?_
     obtain rfl := Option.some.inj e1
     exact k1 _ _ ⟨(iv rfl (w_sucR q2 q6)), _, _, (g2.trans (g3.trans (g4.trans g5))), s14, h5, h6, h7⟩
    obtain ⟨hte0, Z6, V6, g6, s15, h11, h12, h13⟩ := jd
    refine c_sr ?_
    refine o_lss hte0 h13 ?_
    refine c_nil ?_
    refine c_sq ?_
    refine c_iff rfl (ran_done _) ?_
    refine c_ex ?_
    refine e_c ?_
    refine e_c ?_
    refine e_h ?_
    refine c_sr ?_
    refine o_ldB 0 s15 rfl h11 rfl rfl ?_
    refine o_stB (us' := [(vi a0.Rule), (vi a0.Term), (.slice d2 x1.length x1.length)]) 2 s15 rfl h12 rfl rfl rfl rfl rfl fun H11 s16 => ?_
    refine c_nil ?_
    refine c_rt ?_
    obtain rfl := Option.some.inj e
    exact ⟨.inr rfl, _, (arB 2 s16 rfl h12 rfl rfl), _, rfl, ((s16.pick [1] rfl).weak (g1.trans g6) hs.zv)⟩
theorem X.tree_Clone {T : FuncId → Option AFunc} (nd : Nd.tree_Clone T) {φ : Nat} {Z V : PH} {H : Hp} {v1 : Value} {a0 : Ty.api_Tree} (hs : Sat Z V H []) (hp1 : RdS Sh.api_Tree Z v1 a0.Kids) {r : Ty.api_Tree} (e : P.tree_Clone φ a0 = some r) :
    G T I.tree_Clone [(.agg #[(vi a0.Rule), (vi a0.Term), v1])] H (fun rv H' => ∃ (u1 : Value), rv = (.agg #[(vi r.Rule), (vi r.Term), u1]) ∧ Sat Z V H' [It.sl (Sh.ro Sh.api_Tree) u1 r.Kids]) := (X.tree_Clone_rec nd φ) hs hp1 e
/-! shrink_below -/
structure Nd.shrink_below (T : FuncId → Option AFunc) : Prop where
  own_shrink_below : Has T I.shrink_below F.shrink_below
  tree_Clone : Nd.tree_Clone T
set_option maxHeartbeats 1000000 in
theorem X.shrink_below_rec {T : FuncId → Option AFunc} (nd : Nd.shrink_below T) : ∀ φ : Nat, (∀ {Z V : PH} {H : Hp} {v1 : Value} {v2 : Value} {a0 : Ty.api_Grammar} {a1 : Ty.api_Tree} {a2 : Int} (hs : Sat Z V H []) (hp1 : RdS Sh.api_Rule Z v1 a0.Rules) (hp2 : RdS Sh.api_Tree Z v2 a1.Kids) {r : (List Ty.api_Tree)} (e : P.shrink_below φ a0 a1 a2 = some r), G T I.shrink_below [(.agg #[(vi a0.Terms), (vi a0.Nons), (vi a0.Start), v1]), (.agg #[(vi a1.Rule), (vi a1.Term), v2]), (vi a2)] H (fun rv H' => ∃ (u1 : Value), rv = u1 ∧ Sat Z V H' [It.sl (Sh.ro Sh.api_Tree) u1 r])) := by
  intro φ
  induction φ with
  | zero =>
    intro Z V H v1 v2 a0 a1 a2 hs hp1 hp2 r e
    rw [P.shrink_below] at e; cases e
  | succ φ ih =>
    intro Z V H v1 v2 a0 a1 a2 hs hp1 hp2 r e
    rw [P.shrink_below] at e
    refine f_mk nd.own_shrink_below ?_
    refine c_sr ?_
    obtain ⟨d1, rfl⟩ := (hp1).val
    refine o_box hs rfl rfl fun b1 H1 s1 => ?_
    obtain ⟨d2, rfl⟩ := (hp2).val
    refine o_box s1 rfl rfl fun b2 H2 s2 => ?_
    refine o_mv (v := (.slice none 0 0)) rfl ?_
    refine c_nil ?_
    refine c_sq ?_
    refine c_sr ?_
    refine o_fad rfl ?_
    refine o_ldB 0 s2 rfl rfl rfl rfl ?_
    refine o_lss rfl rfl ?_
    refine c_nil ?_
    refine c_ifd rfl (fun q1 => ?_) (fun q1 => ?_)
    ·replace e := if_t q1 e
     refine c_sr ?_
     refine o_mv (v := (.slice none 0 0)) rfl ?_
     refine c_nil ?_
     refine c_rt ?_
     obtain rfl := Option.some.inj e
     exact ⟨.inr rfl, _, (ar1 rfl), _, rfl, ((s2.push (sl_nil (s := (Sh.ro Sh.api_Tree)))).pick [0] rfl)⟩
    replace e := if_f q1 e
    refine c_sk ?_
    refine c_sr ?_
    refine o_mv (v := (.slice none 0 0)) rfl ?_
    refine c_nil ?_
    refine c_sq ?_
    refine c_sr ?_
    refine o_fad rfl ?_
    refine o_ldB 1 s2 rfl rfl rfl rfl ?_
    refine o_fad rfl ?_
    refine o_ldB 0 s2 rfl rfl rfl rfl ?_
    obtain ⟨x1, q2, e⟩ := Pu.bind_some e
    refine o_idx (v := (.slice d1 a0.Rules.length a0.Rules.length)) rfl rfl hp1 rfl q2 fun p1 q3 => ?_
    refine o_fadE rfl q3 fun p2 q4 => ?_
    refine o_ldF rfl hp1 s2.z rfl q3 q4 q2 rfl fun c1 h1 => ?_
    obtain ⟨w1, rfl, h2⟩ := Sh.api_Rule_op h1
    refine ⟨_, rfl, ?_⟩
    refine o_mv (v := (vi a2)) rfl ?_
    refine o_eql rfl rfl ?_
    refine c_nil ?_
    refine c_gen (P := fun tm => tm 2 = (vi a2) ∧ tm 3 = (.pointer (some ⟨b1, 0, none⟩)) ∧ tm 4 = (.pointer (some ⟨b2, 0, none⟩)) ∧ tm 7 = (.slice none 0 0) ∧ tm 21 = (.bool (decide (x1.Left = a2))) ∧ True) ⟨rfl, rfl, rfl, rfl, rfl, trivial⟩ ?_
    intro _ i1
    obtain ⟨h3, h4, h5, h6, h7, -⟩ := i1
    obtain ⟨y1, e1, e⟩ := Pu.bind_some e
    refine c_jn (I := fun tm H => ∃ (Z1 V1 : PH) (w2 : Value), Gw Z V Z1 V1 ∧ Sat Z1 V1 H [pts b1 (.rw 0 [(vi a0.Terms), (vi a0.Nons), (vi a0.Start), (.slice d1 a0.Rules.length a0.Rules.length)]), pts b2 (.rw 0 [(vi a1.Rule), (vi a1.Term), (.slice d2 a1.Kids.length a1.Kids.length)]), It.sl (Sh.ro Sh.api_Tree) w2 y1] ∧ tm 2 = (vi a2) ∧ tm 3 = (.pointer (some ⟨b1, 0, none⟩)) ∧ tm 4 = (.pointer (some ⟨b2, 0, none⟩)) ∧ tm 7 = w2) (fun k1 => ?_) ?_
    ·refine c_ifd h7 (fun q5 => ?_) (fun q5 => ?_)
     ·replace e1 := if_t q5 e1
      refine c_r ?_
      refine o_mv (v := (.slice none 0 0)) h6 ?_
      refine o_ldB 0 s2 rfl h5 rfl rfl ?_
      obtain ⟨x2, q6, e1⟩ := Pu.bind_some e1
      obtain ⟨Z2, V2, W1, g2, u1, c2, c3, -, c5, c4⟩ := Sat.call (l1 := []) s2
      refine o_call (mc rfl m0) (X.tree_Clone nd.tree_Clone c2 (hp2.mono g2.z) q6) fun _ H4 i2 => ?_
      obtain ⟨w3, rfl, s4⟩ := i2
      have s5 := c4 _ _ s4
      obtain ⟨Z3, V3, g3, s6, h12⟩ := s5.frzS 0 rfl
      replace h12 := h12.of_ro
      obtain ⟨d3, rfl⟩ := (h12).val
      refine o_bsl (s := (Sh.ro Sh.api_Tree)) (us := [(vi x2.Rule), (vi x2.Term), (.slice d3 x2.Kids.length x2.Kids.length)]) (qs := [(0, 3, (.agg #[(vi x2.Rule), (vi x2.Term), (.slice d3 x2.Kids.length x2.Kids.length)]))]) (xs := [x2]) s6 (Sh.ro_lt _) rfl rfl rfl (Els.cons (c := [(vi x2.Rule), (vi x2.Term), (.slice d3 x2.Kids.length x2.Kids.length)]) (Sh.api_Tree_cl (x := x2) h12) Els.nil) rfl rfl fun w4 H5 s7 => ?_
      have s8 := s7.push (sl_nil (s := (Sh.ro Sh.api_Tree)))
      obtain ⟨Z4, V4, g4, s9, h13⟩ := s8.frzS 1 rfl
      replace h13 := h13.of_ro
      obtain ⟨x3, q7, e1⟩ := Pu.bind_some e1
      refine o_app 0 s9 rfl (Sh.ro_lt _) rfl rfl rfl rfl h13 s9.z (fun h => h) (by decide) q7 fun w5 H6 s10 => ?_
      refine o_mv (v := w5) rfl ?_
      refine c_nil ?_
      obtain rfl := Option.some.inj e1
      exact k1 _ _ ⟨_, _, _, (g2.trans (g3.trans g4)), (s10.pick [2, 1, 0] rfl), h3, h4, h5, rfl⟩
     replace e1 := if_f q5 e1
     refine c_sk ?_
     obtain rfl := Option.some.inj e1
     exact k1 _ _ ⟨_, _, _, Gw.refl _ _, ((s2.push (sl_nil (s := (Sh.ro Sh.api_Tree)))).pick [2, 1, 0] rfl), h3, h4, h5, h6⟩
    intro _ H3 i3
    obtain ⟨Z1, V1, w2, g1, s3, h8, h9, h10, h11⟩ := i3
    refine c_sq ?_
    refine c_sr ?_
    refine o_fad h10 ?_
    refine o_ldB 1 s3 rfl rfl rfl rfl ?_
    refine o_len rfl ((hp2.mono g1.z)).len ?_
    refine o_mv (v := (vi 0)) rfl ?_
    refine c_nil ?_
    obtain ⟨y2, q10, e⟩ := Pu.bind_some e
    refine c_bk ?_
    refine l_forP (xs := a1.Kids) (fun (i4 : Nat) (s11 : (List Ty.api_Tree)) tm H => tm 30 = vi i4 ∧ ∃ (Z5 V5 : PH) (w6 : Value), Gw Z1 V1 Z5 V5 ∧ Sat Z5 V5 H [pts b1 (.rw 0 [(vi a0.Terms), (vi a0.Nons), (vi a0.Start), (.slice d1 a0.Rules.length a0.Rules.length)]), It.sl (Sh.ro Sh.api_Tree) w6 s11] ∧ tm 2 = (vi a2) ∧ tm 3 = (.pointer (some ⟨b1, 0, none⟩)) ∧ tm 7 = w6 ∧ tm 28 = (.slice d2 a1.Kids.length a1.Kids.length) ∧ tm 29 = (vi (a1.Kids.length : Int))) (fun i4 x4 s11 s13 tm H8 q8 q9 j1 e2 k2 => ?_) (fun tm H7 jd => ?_) q10 ⟨rfl, _, _, _, Gw.refl _ _, (s3.pick [0, 2] rfl), h8, h9, h11, rfl, rfl⟩
    ·obtain ⟨hti0, Z5, V5, w6, g5, s12, h14, h15, h16, h17, h18⟩ := j1
     unfold P.shrink_below.b0 at e2
     refine c_sr ?_
     refine o_lss hti0 h18 ?_
     refine c_nil ?_
     refine c_sq ?_
     refine c_ift rfl (Int.ofNat_lt.2 q9) ?_
     refine c_sk ?_
     refine c_sq ?_
     refine c_bk ?_
     refine c_sr ?_
     refine o_idx (v := (.slice d2 a1.Kids.length a1.Kids.length)) h17 hti0 (hp2.mono (g1.trans g5).z) rfl (Pu.ix_nat.trans q8) fun p3 q11 => ?_
     refine o_lda rfl (hp2.mono (g1.trans g5).z) s12.z rfl q11 (Pu.ix_nat.trans q8) fun c6 h19 => ?_
     obtain ⟨w7, rfl, h20⟩ := Sh.api_Tree_op h19
     refine o_new s12 fun b3 H9 s14 => ?_
     obtain ⟨d4, rfl⟩ := (h20).val
     refine o_stB (us' := [(vi x4.Rule), (vi x4.Term), (.slice d4 x4.Kids.length x4.Kids.length)]) 0 s14 rfl rfl rfl rfl rfl rfl rfl fun H10 s15 => ?_
     refine c_nil ?_
     refine c_r ?_
     refine o_mv (v := w6) h16 ?_
     refine o_ldB 1 s15 rfl h15 rfl rfl ?_
     refine o_ldB 0 s15 rfl rfl rfl rfl ?_
     refine o_mv (v := (vi a2)) h14 ?_
     obtain ⟨x5, q12, e2⟩ := Pu.bind_some e2
     obtain ⟨Z6, V6, W2, g6, u2, c7, c8, -, c10, c9⟩ := Sat.call (l1 := []) s15
     refine o_call (mc rfl (mc rfl (mc rfl m0))) (ih c7 (hp1.mono ((g1.trans g5).trans g6).z) (h20.mono g6.z) q12) fun w8 H11 i5 => ?_
     obtain ⟨_, rfl, s16⟩ := i5
     have s17 := c9 _ _ s16
     obtain ⟨Z7, V7, g7, s18, h21⟩ := s17.frzS 0 rfl
     replace h21 := h21.of_ro
     obtain ⟨x6, q13, e2⟩ := Pu.bind_some e2
     refine o_app 2 s18 rfl (Sh.ro_lt _) rfl rfl rfl rfl h21 s18.z (fun h => h) (by decide) q13 fun w9 H12 s19 => ?_
     refine o_mv (v := w9) rfl ?_
     refine c_nil ?_
     refine c_end ?_
     refine c_r ?_
     refine o_add hti0 rfl ?_
     refine o_mv (v := (vi (Pu.W ((i4 : Int) + 1)))) rfl ?_
     refine c_nil ?_
     obtain rfl := Option.some.inj e2
     exact k2 _ _ ⟨(iv rfl (w_suc q9 ((hp2.mono g1.z)).bd)), _, _, _, (g5.trans (g6.trans g7)), (s19.pick [1, 2] rfl), h14, h15, rfl, h17, h18⟩
    obtain ⟨hte0, Z8, V8, w10, g8, s20, h22, h23, h24, h25, h26⟩ := jd
    refine c_sr ?_
    refine o_lss hte0 h26 ?_
    refine c_nil ?_
    refine c_sq ?_
    refine c_iff rfl (Int.lt_irrefl _) ?_
    refine c_ex ?_
    refine e_c ?_
    refine e_c ?_
    refine e_h ?_
    refine c_sr ?_
    refine o_mv (v := w10) h24 ?_
    refine o_mv (v := w10) rfl ?_
    refine c_nil ?_
    refine c_rt ?_
    obtain rfl := Option.some.inj e
    exact ⟨.inr rfl, _, (ar1 rfl), _, rfl, ((s20.pick [1] rfl).weak (g1.trans g8) hs.zv)⟩
theorem X.shrink_below {T : FuncId → Option AFunc} (nd : Nd.shrink_below T) {φ : Nat} {Z V : PH} {H : Hp} {v1 : Value} {v2 : Value} {a0 : Ty.api_Grammar} {a1 : Ty.api_Tree} {a2 : Int} (hs : Sat Z V H []) (hp1 : RdS Sh.api_Rule Z v1 a0.Rules) (hp2 : RdS Sh.api_Tree Z v2 a1.Kids) {r : (List Ty.api_Tree)} (e : P.shrink_below φ a0 a1 a2 = some r) :
    G T I.shrink_below [(.agg #[(vi a0.Terms), (vi a0.Nons), (vi a0.Start), v1]), (.agg #[(vi a1.Rule), (vi a1.Term), v2]), (vi a2)] H (fun rv H' => ∃ (u1 : Value), rv = u1 ∧ Sat Z V H' [It.sl (Sh.ro Sh.api_Tree) u1 r]) := (X.shrink_below_rec nd φ) hs hp1 hp2 e
/-! shrink_Smaller -/
structure Nd.shrink_Smaller (T : FuncId → Option AFunc) : Prop where
  own_shrink_Smaller : Has T I.shrink_Smaller F.shrink_Smaller
  tree_Check : Nd.tree_Check T
  tree_Size : Nd.tree_Size T
  shrink_below : Nd.shrink_below T
  tree_Clone : Nd.tree_Clone T
set_option maxHeartbeats 1000000 in
theorem X.shrink_Smaller_rec {T : FuncId → Option AFunc} (nd : Nd.shrink_Smaller T) : ∀ φ : Nat, (∀ {Z V : PH} {H : Hp} {v1 : Value} {v2 : Value} {a0 : Ty.api_Grammar} {a1 : Ty.api_Tree} (hs : Sat Z V H []) (hp1 : RdS Sh.api_Rule Z v1 a0.Rules) (hp2 : RdS Sh.api_Tree Z v2 a1.Kids) {r : (List Ty.api_Tree)} (e : P.shrink_Smaller φ a0 a1 = some r), G T I.shrink_Smaller [(.agg #[(vi a0.Terms), (vi a0.Nons), (vi a0.Start), v1]), (.agg #[(vi a1.Rule), (vi a1.Term), v2])] H (fun rv H' => ∃ (u1 : Value), rv = u1 ∧ Sat Z V H' [It.sl (Sh.ro Sh.api_Tree) u1 r])) := by
  intro φ
  induction φ with
  | zero =>
    intro Z V H v1 v2 a0 a1 hs hp1 hp2 r e
    rw [P.shrink_Smaller] at e; cases e
  | succ φ ih =>
    intro Z V H v1 v2 a0 a1 hs hp1 hp2 r e
    rw [P.shrink_Smaller] at e
    refine f_mk nd.own_shrink_Smaller ?_
    refine c_sr ?_
    obtain ⟨d1, rfl⟩ := (hp1).val
    refine o_box hs rfl rfl fun b1 H1 s1 => ?_
    obtain ⟨d2, rfl⟩ := (hp2).val
    refine o_box s1 rfl rfl fun b2 H2 s2 => ?_
    refine o_mv (v := (.slice none 0 0)) rfl ?_
    refine c_nil ?_
    refine c_sq ?_
    refine c_sr ?_
    refine o_ldB 1 s2 rfl rfl rfl rfl ?_
    refine o_ldB 0 s2 rfl rfl rfl rfl ?_
    obtain ⟨x1, q1, e⟩ := Pu.bind_some e
    obtain ⟨Z1, V1, W1, g1, u1, c1, c2, -, c4, c3⟩ := Sat.call (l1 := []) s2
    refine o_call (mc rfl (mc rfl m0)) (X.tree_Check nd.tree_Check c1 (hp1.mono (g1.z.trans c1.zv)) (hp2.mono (g1.z.trans c1.zv)) q1) fun _ H3 i1 => ?_
    obtain ⟨rfl, s3⟩ := i1
    have s4 := c3 _ _ s3
    refine o_neq rfl rfl ?_
    refine o_mv (v := (.bool (decide (x1 ≠ 0)))) rfl ?_
    refine o_jn 4 (I := fun tm H => tm 21 = .bool ((decide (x1 ≠ 0)) || (decide (a1.Rule < 0))) ∧ (∃ (Z2 V2 : PH), Gw Z1 V1 Z2 V2 ∧ Sat Z2 V2 H [pts b1 (.rw 0 [(vi a0.Terms), (vi a0.Nons), (vi a0.Start), (.slice d1 a0.Rules.length a0.Rules.length)]), pts b2 (.rw 0 [(vi a1.Rule), (vi a1.Term), (.slice d2 a1.Kids.length a1.Kids.length)])] ∧ tm 2 = (.pointer (some ⟨b1, 0, none⟩)) ∧ tm 3 = (.pointer (some ⟨b2, 0, none⟩)))) (fun k1 => ?_) ?_
    ·rcases Bool.eq_false_or_eq_true (decide (x1 ≠ 0)) with q2 | q2
     ·refine o_gn rfl q2 ?_
      refine o_gn rfl q2 ?_
      refine o_gn rfl q2 ?_
      refine o_pickt (a := (.bool true)) rfl q2 rfl ?_
      exact k1 _ _ ⟨gf rfl (by first | (rw [q2]; first | done | rfl) | simp [q2]), _, _, Gw.refl _ _, (s4.pick [1, 0] rfl), rfl, rfl⟩
     refine o_gy rfl q2 ?_
     refine o_fad rfl ?_
     refine o_gy rfl q2 ?_
     refine o_ldB 0 s4 rfl rfl rfl rfl ?_
     refine o_gy rfl q2 ?_
     refine o_lss rfl rfl ?_
     refine o_pickf (b := (.bool (decide (a1.Rule < 0)))) rfl q2 rfl ?_
     exact k1 _ _ ⟨gf rfl (by first | (rw [q2]; first | done | rfl) | simp [q2]), _, _, Gw.refl _ _, (s4.pick [1, 0] rfl), rfl, rfl⟩
    intro _ H4 i2
    obtain ⟨h3, Z2, V2, g2, s5, h1, h2⟩ := i2
    refine o_mv (v := (.bool ((decide (x1 ≠ 0)) || (decide (a1.Rule < 0))))) h3 ?_
    obtain ⟨y1, e1, e⟩ := Pu.bind_some e
    refine o_jn 4 (I := fun tm H => ∃ (Z3 V3 : PH), Gw Z2 V2 Z3 V3 ∧ Sat Z3 V3 H [pts b1 (.rw 0 [(vi a0.Terms), (vi a0.Nons), (vi a0.Start), (.slice d1 a0.Rules.length a0.Rules.length)]), pts b2 (.rw 0 [(vi a1.Rule), (vi a1.Term), (.slice d2 a1.Kids.length a1.Kids.length)])] ∧ tm 2 = (.pointer (some ⟨b1, 0, none⟩)) ∧ tm 3 = (.pointer (some ⟨b2, 0, none⟩)) ∧ tm 26 = (.bool y1)) (fun k2 => ?_) ?_
    ·rcases Bool.eq_false_or_eq_true ((decide (x1 ≠ 0)) || (decide (a1.Rule < 0))) with q3 | q3
     ·replace e1 := if_t q3 e1
      refine o_gn rfl q3 ?_
      refine o_gn rfl q3 ?_
      refine o_gn rfl q3 ?_
      refine o_pickt (a := (.bool true)) rfl q3 rfl ?_
      obtain rfl := Option.some.inj e1
      exact k2 _ _ ⟨_, _, Gw.refl _ _, s5, h1, h2, rfl⟩
     replace e1 := ib_f q3 e1
     refine o_gy rfl q3 ?_
     refine o_ldB 1 s5 rfl h2 rfl rfl ?_
     refine o_gy rfl q3 ?_
     obtain ⟨x2, q4, e1⟩ := Pu.bind_some e1
     obtain ⟨Z4, V4, W2, g4, u2, c5, c6, -, c8, c7⟩ := Sat.call (l1 := []) s5
     refine o_call (mc rfl m0) (X.tree_Size nd.tree_Size c5 (hp2.mono (((g1.trans g2).trans g4).z.trans c5.zv)) q4) fun _ H6 i3 => ?_
     obtain ⟨rfl, s7⟩ := i3
     have s8 := c7 _ _ s7
     refine o_gy rfl q3 ?_
     refine o_gtr rfl rfl ?_
     refine o_pickf (b := (.bool (decide (60 < x2)))) rfl q3 rfl ?_
     obtain rfl := Option.some.inj e1
     exact k2 _ _ ⟨_, _, g4, s8, h1, h2, rfl⟩
    intro _ H5 i4
    obtain ⟨Z3, V3, g3, s6, h4, h5, h6⟩ := i4
    refine c_nil ?_
    refine c_if h6 (fun q5 => ?_) (fun q5 => ?_)
    ·replace e := if_t q5 e
     refine c_sr ?_
     refine o_mv (v := (.slice none 0 0)) rfl ?_
     refine c_nil ?_
     refine c_rt ?_
     obtain rfl := Option.some.inj e
     exact ⟨.inr rfl, _, (ar1 rfl), _, rfl, (((s6.push (sl_nil (s := (Sh.ro Sh.api_Tree)))).pick [0] rfl).weak (g1.trans (g2.trans g3)) hs.zv)⟩
    replace e := ib_f q5 e
    refine c_sk ?_
    refine c_sr ?_
    refine o_mv (v := (.slice none 0 0)) rfl ?_
    refine c_nil ?_
    refine c_sq ?_
    refine c_sr ?_
    refine o_fad h5 ?_
    refine o_ldB 1 s6 rfl rfl rfl rfl ?_
    refine o_len rfl ((hp2.mono (g1.trans (g2.trans g3)).z)).len ?_
    refine o_mv (v := (vi 0)) rfl ?_
    refine c_nil ?_
    obtain ⟨y2, q8, e⟩ := Pu.bind_some e
    refine c_bk ?_
    refine l_forP (xs := a1.Kids) (fun (i5 : Nat) (s9 : (List Ty.api_Tree)) tm H => tm 30 = vi i5 ∧ ∃ (Z5 V5 : PH) (w1 : Value), Gw Z3 V3 Z5 V5 ∧ Sat Z5 V5 H [pts b1 (.rw 0 [(vi a0.Terms), (vi a0.Nons), (vi a0.Start), (.slice d1 a0.Rules.length a0.Rules.length)]), pts b2 (.rw 0 [(vi a1.Rule), (vi a1.Term), (.slice d2 a1.Kids.length a1.Kids.length)]), It.sl (Sh.ro Sh.api_Tree) w1 s9] ∧ tm 2 = (.pointer (some ⟨b1, 0, none⟩)) ∧ tm 3 = (.pointer (some ⟨b2, 0, none⟩)) ∧ tm 5 = w1 ∧ tm 28 = (.slice d2 a1.Kids.length a1.Kids.length) ∧ tm 29 = (vi (a1.Kids.length : Int))) (fun i5 x3 s9 s11 tm H8 q6 q7 j1 e2 k3 => ?_) (fun tm H7 jd => ?_) q8 ⟨rfl, _, _, _, Gw.refl _ _, ((s6.push (sl_nil (s := (Sh.ro Sh.api_Tree)))).pick [1, 2, 0] rfl), h4, h5, rfl, rfl, rfl⟩
    ·obtain ⟨hti0, Z5, V5, w1, g5, s10, h7, h8, h9, h10, h11⟩ := j1
     unfold P.shrink_Smaller.b0 at e2
     refine c_sr ?_
     refine o_lss hti0 h11 ?_
     refine c_nil ?_
     refine c_sq ?_
     refine c_ift rfl (Int.ofNat_lt.2 q7) ?_
     refine c_sk ?_
     refine c_sq ?_
     refine c_bk ?_
     refine c_sr ?_
     refine o_idx (v := (.slice d2 a1.Kids.length a1.Kids.length)) h10 hti0 (hp2.mono (g1.trans (g2.trans (g3.trans g5))).z) rfl (Pu.ix_nat.trans q6) fun p1 q9 => ?_
     refine o_lda rfl (hp2.mono (g1.trans (g2.trans (g3.trans g5))).z) s10.z rfl q9 (Pu.ix_nat.trans q6) fun c9 h12 => ?_
     obtain ⟨w2, rfl, h13⟩ := Sh.api_Tree_op h12
     refine o_new s10 fun b3 H9 s12 => ?_
     obtain ⟨d3, rfl⟩ := (h13).val
     refine o_stB (us' := [(vi x3.Rule), (vi x3.Term), (.slice d3 x3.Kids.length x3.Kids.length)]) 0 s12 rfl rfl rfl rfl rfl rfl rfl fun H10 s13 => ?_
     refine c_nil ?_
     refine d_start s13 fun n1 H11 s14 q10 d4 => ?_
     refine d_mv (v := w1) h9 ?_
     refine d_ldB (q10 _ _ (ph_some.2 ⟨s14.curB 1 rfl, by simp⟩)) 1 s14 rfl h7 rfl rfl ?_
     refine d_ldB (q10 _ _ (ph_some.2 ⟨s14.curB 0 rfl, by simp⟩)) 0 s14 rfl rfl rfl rfl ?_
     refine d_fad h7 ?_
     refine d_ldB (q10 _ _ (ph_some.2 ⟨s14.curB 1 rfl, by simp⟩)) 1 s14 rfl rfl rfl rfl ?_
     refine d_fad h8 ?_
     refine d_ldB (q10 _ _ (ph_some.2 ⟨s14.curB 2 rfl, by simp⟩)) 2 s14 rfl rfl rfl rfl ?_
     obtain ⟨x4, q11, e2⟩ := Pu.bind_some e2
     refine d_idx (v := (.slice d1 a0.Rules.length a0.Rules.length)) rfl rfl (hp1.mono (g1.trans (g2.trans (g3.trans g5))).z) rfl q11 fun p2 q12 => ?_
     refine d_fadE rfl q12 fun p3 q13 => ?_
     refine d_ldF (RdS.low (hp1.mono (g1.trans (g2.trans (g3.trans g5))).z) s14.z q10) rfl (hp1.mono (g1.trans (g2.trans (g3.trans g5))).z) s14.z rfl q12 q13 q11 rfl fun c10 h14 => ?_
     obtain ⟨w3, rfl, h15⟩ := Sh.api_Rule_op h14
     refine ⟨_, rfl, ?_⟩
     obtain ⟨x5, q14, e2⟩ := Pu.bind_some e2
     obtain ⟨Z6, V6, W3, g6, u3, c11, c12, -, c14, c13⟩ := Sat.call (l1 := []) s14
     refine d_call (mc rfl (mc rfl (mc rfl m0))) (X.shrink_below nd.shrink_below c11 (hp1.mono ((g1.trans (g2.trans (g3.trans g5))).trans g6).z) (h13.mono g6.z) q14) fun w4 H12 i6 k4 => ?_
     have d5 := d4.keep k4
     obtain ⟨_, rfl, s15⟩ := i6
     have s16 := c13 _ _ s15
     obtain ⟨Z7, V7, g7, s17, h16⟩ := s16.frzS 0 rfl
     replace h16 := h16.of_ro
     obtain ⟨x6, q15, e2⟩ := Pu.bind_some e2
     refine d_app 3 s17 rfl (Sh.ro_lt _) rfl rfl rfl rfl h16 s17.z (fun h => h) (by decide) q15 fun w5 H13 s18 k5 => ?_
     have d6 := d5.keep k5
     refine d_mv (v := w5) rfl ?_
     refine d_nil dc_nil ?_
     refine c_end ?_
     refine c_r ?_
     refine o_add hti0 rfl ?_
     refine o_mv (v := (vi (Pu.W ((i5 : Int) + 1)))) rfl ?_
     refine c_nil ?_
     obtain rfl := Option.some.inj e2
     exact k3 _ _ ⟨(iv rfl (w_suc q7 ((hp2.mono (g1.trans (g2.trans g3)).z)).bd)), _, _, _, (g5.trans (g6.trans g7)), (s18.pick [1, 2, 3] rfl), h7, h8, rfl, h10, h11⟩
    obtain ⟨hte0, Z8, V8, w6, g8, s19, h17, h18, h19, h20, h21⟩ := jd
    refine c_sr ?_
    refine o_lss hte0 h21 ?_
    refine c_nil ?_
    refine c_sq ?_
    refine c_iff rfl (Int.lt_irrefl _) ?_
    refine c_ex ?_
    refine e_c ?_
    refine e_c ?_
    refine e_h ?_
    refine c_sq ?_
    refine c_sr ?_
    refine o_fad h18 ?_
    refine o_ldB 1 s19 rfl rfl rfl rfl ?_
    refine o_len rfl ((hp2.mono (g1.trans (g2.trans (g3.trans g8))).z)).len ?_
    refine o_mv (v := (vi 0)) rfl ?_
    refine c_nil ?_
    obtain ⟨y3, q18, e⟩ := Pu.bind_some e
    refine c_bk ?_
    refine l_forP (xs := a1.Kids) (fun (i7 : Nat) (s20 : (List Ty.api_Tree)) tm H => tm 50 = vi i7 ∧ ∃ (Z9 V9 : PH) (w7 : Value), Gw Z8 V8 Z9 V9 ∧ Sat Z9 V9 H [pts b1 (.rw 0 [(vi a0.Terms), (vi a0.Nons), (vi a0.Start), (.slice d1 a0.Rules.length a0.Rules.length)]), pts b2 (.rw 0 [(vi a1.Rule), (vi a1.Term), (.slice d2 a1.Kids.length a1.Kids.length)]), It.sl (Sh.ro Sh.api_Tree) w7 s20] ∧ tm 2 = (.pointer (some ⟨b1, 0, none⟩)) ∧ tm 3 = (.pointer (some ⟨b2, 0, none⟩)) ∧ tm 5 = w7 ∧ tm 48 = (.slice d2 a1.Kids.length a1.Kids.length) ∧ tm 49 = (vi (a1.Kids.length : Int))) (fun i7 x7 s20 s22 tm H16 q16 q17 j2 e3 k6 => ?_) (fun tm H15 jd => ?_) q18 ⟨rfl, _, _, _, Gw.refl _ _, s19, h17, h18, h19, rfl, rfl⟩
    ·obtain ⟨hti1, Z9, V9, w7, g9, s21, h22, h23, h24, h25, h26⟩ := j2
     unfold P.shrink_Smaller.b1 at e3
     refine c_sr ?_
     refine o_lss hti1 h26 ?_
     refine c_nil ?_
     refine c_sq ?_
     refine c_ift rfl (Int.ofNat_lt.2 q17) ?_
     refine c_sk ?_
     refine c_sq ?_
     refine c_bk ?_
     refine c_sr ?_
     refine o_mv (v := (vi (i7 : Int))) hti1 ?_
     refine o_idx (v := (.slice d2 a1.Kids.length a1.Kids.length)) h25 hti1 (hp2.mono (g1.trans (g2.trans (g3.trans (g8.trans g9)))).z) rfl (Pu.ix_nat.trans q16) fun p4 q19 => ?_
     refine o_lda rfl (hp2.mono (g1.trans (g2.trans (g3.trans (g8.trans g9)))).z) s21.z rfl q19 (Pu.ix_nat.trans q16) fun c15 h27 => ?_
     obtain ⟨w8, rfl, h28⟩ := Sh.api_Tree_op h27
     refine o_new s21 fun b4 H17 s23 => ?_
     refine o_mv (v := (vi (i7 : Int))) rfl ?_
     obtain ⟨d7, rfl⟩ := (h28).val
     refine o_stB (us' := [(vi x7.Rule), (vi x7.Term), (.slice d7 x7.Kids.length x7.Kids.length)]) 0 s23 rfl rfl rfl rfl rfl rfl rfl fun H18 s24 => ?_
     refine c_nil ?_
     refine c_sr ?_
     refine o_ldB 1 s24 rfl h22 rfl rfl ?_
     refine o_ldB 0 s24 rfl rfl rfl rfl ?_
     obtain ⟨x8, q20, e3⟩ := Pu.bind_some e3
     obtain ⟨Z10, V10, W4, g10, u4, c16, c17, -, c19, c18⟩ := Sat.call (l1 := []) s24
     refine o_call (mc rfl (mc rfl m0)) (ih c16 (hp1.mono ((g1.trans (g2.trans (g3.trans (g8.trans g9)))).trans g10).z) (h28.mono g10.z) q20) fun w9 H19 i8 => ?_
     obtain ⟨_, rfl, s25⟩ := i8
     have s26 := c18 _ _ s25
     refine o_len rfl ((s26.curS (s := (Sh.ro Sh.api_Tree)) 0 rfl)).len ?_
     refine o_mv (v := (vi 0)) rfl ?_
     refine c_nil ?_
     refine c_gen (P := fun tm => tm 2 = (.pointer (some ⟨b1, 0, none⟩)) ∧ tm 3 = (.pointer (some ⟨b2, 0, none⟩)) ∧ tm 5 = w7 ∧ tm 8 = (vi (i7 : Int)) ∧ tm 48 = (.slice d2 a1.Kids.length a1.Kids.length) ∧ tm 49 = (vi (a1.Kids.length : Int)) ∧ tm 50 = (vi (i7 : Int)) ∧ tm 57 = w9 ∧ tm 58 = (vi (x8.length : Int)) ∧ tm 59 = (vi 0) ∧ True) ⟨h22, h23, h24, rfl, h25, h26, hti1, rfl, rfl, rfl, trivial⟩ ?_
     intro _ i9
     obtain ⟨h29, h30, h31, h32, h33, h34, h35, h36, h37, h38, -⟩ := i9
     obtain ⟨y4, q23, e3⟩ := Pu.bind_some e3
     refine c_bk ?_
     refine l_forP (xs := x8) (fun (i10 : Nat) (s27 : (List Ty.api_Tree)) tm H => tm 59 = vi i10 ∧ ∃ (Z11 V11 : PH) (w10 : Value), Gw Z10 V10 Z11 V11 ∧ Sat Z11 V11 H [pts b1 (.rw 0 [(vi a0.Terms), (vi a0.Nons), (vi a0.Start), (.slice d1 a0.Rules.length a0.Rules.length)]), pts b2 (.rw 0 [(vi a1.Rule), (vi a1.Term), (.slice d2 a1.Kids.length a1.Kids.length)]), It.sl (Sh.ro Sh.api_Tree) w10 s27, It.sl (Sh.ro Sh.api_Tree) w9 x8] ∧ tm 2 = (.pointer (some ⟨b1, 0, none⟩)) ∧ tm 3 = (.pointer (some ⟨b2, 0, none⟩)) ∧ tm 5 = w10 ∧ tm 8 = (vi (i7 : Int)) ∧ tm 48 = (.slice d2 a1.Kids.length a1.Kids.length) ∧ tm 49 = (vi (a1.Kids.length : Int)) ∧ tm 50 = (vi (i7 : Int)) ∧ tm 57 = w9 ∧ tm 58 = (vi (x8.length : Int))) (fun i10 x9 s27 s29 tm H21 q21 q22 j3 e4 k7 => ?_) (fun tm H20 jd => ?_) q23 ⟨h38, _, _, _, Gw.refl _ _, (s26.pick [2, 3, 4, 0] rfl), h29, h30, h31, h32, h33, h34, h35, h36, h37⟩
     ·obtain ⟨hti2, Z11, V11, w10, g11, s28, h39, h40, h41, h42, h43, h44, h45, h46, h47⟩ := j3
      unfold P.shrink_Smaller.b2 at e4
      refine c_sr ?_
      refine o_lss hti2 h47 ?_
      refine c_nil ?_
      refine c_sq ?_
      refine c_ift rfl (Int.ofNat_lt.2 q22) ?_
      refine c_sk ?_
      refine c_sq ?_
      refine c_bk ?_
      refine c_sr ?_
      refine o_idx (v := w9) h46 hti2 (s28.curS (s := (Sh.ro Sh.api_Tree)) 3 rfl) rfl (Pu.ix_nat.trans q21) fun p5 q24 => ?_
      refine o_ldoa (p := p5) 3 s28 rfl rfl rfl q24 (Pu.ix_nat.trans q21) fun Z12 V12 c20 g12 s30 h48 => ?_
      obtain ⟨w11, rfl, h49⟩ := Sh.api_Tree_op h48
      refine o_new s30 fun b5 H22 s31 => ?_
      obtain ⟨d8, rfl⟩ := (h49).val
      refine o_stB (us' := [(vi x9.Rule), (vi x9.Term), (.slice d8 x9.Kids.length x9.Kids.length)]) 0 s31 rfl rfl rfl rfl rfl rfl rfl fun H23 s32 => ?_
      refine c_nil ?_
      refine c_sr ?_
      refine o_ldB 2 s32 rfl h40 rfl rfl ?_
      obtain ⟨x10, q25, e4⟩ := Pu.bind_some e4
      obtain ⟨Z13, V13, W5, g13, u5, c21, c22, -, c24, c23⟩ := Sat.call (l1 := []) s32
      refine o_call (mc rfl m0) (X.tree_Clone nd.tree_Clone c21 (hp2.mono ((g1.trans (g2.trans (g3.trans (g8.trans (g9.trans (g10.trans (g11.trans g12))))))).trans g13).z) q25) fun _ H24 i11 => ?_
      obtain ⟨w12, rfl, s33⟩ := i11
      have s34 := c23 _ _ s33
      refine o_new s34 fun b6 H25 s35 => ?_
      obtain ⟨d9, rfl⟩ := ((s35.curS (s := (Sh.ro Sh.api_Tree)) 1 rfl)).val
      refine o_stB (us' := [(vi x10.Rule), (vi x10.Term), (.slice d9 x10.Kids.length x10.Kids.length)]) 0 s35 rfl rfl rfl rfl rfl rfl rfl fun H26 s36 => ?_
      refine c_nil ?_
      refine c_sr ?_
      refine o_fad rfl ?_
      refine o_ldB 0 s36 rfl rfl rfl rfl ?_
      refine o_mv (v := (vi (i7 : Int))) h42 ?_
      refine o_ldB 2 s36 rfl rfl rfl rfl ?_
      obtain ⟨x11, q26, e4⟩ := Pu.bind_some e4
      refine o_idx (v := (.slice d9 x10.Kids.length x10.Kids.length)) rfl rfl (s36.curS (s := (Sh.ro Sh.api_Tree)) 1 rfl) rfl q26 fun p6 q27 => ?_
      refine o_st 1 s36 rfl (Sh.ro_lt _) rfl rfl rfl q27 q26 rfl (Sh.api_Tree_cl (x := x9) (h49.mono g13.z)) fun H27 s37 => ?_
      refine c_nil ?_
      refine c_gen (P := fun tm => tm 2 = (.pointer (some ⟨b1, 0, none⟩)) ∧ tm 3 = (.pointer (some ⟨b2, 0, none⟩)) ∧ tm 5 = w10 ∧ tm 8 = (vi (i7 : Int)) ∧ tm 12 = (.pointer (some ⟨b6, 0, none⟩)) ∧ tm 48 = (.slice d2 a1.Kids.length a1.Kids.length) ∧ tm 49 = (vi (a1.Kids.length : Int)) ∧ tm 50 = (vi (i7 : Int)) ∧ tm 57 = w9 ∧ tm 58 = (vi (x8.length : Int)) ∧ tm 59 = (vi (i10 : Int)) ∧ True) ⟨h39, h40, h41, h42, rfl, h43, h44, h45, h46, h47, hti2, trivial⟩ ?_
      intro _ i12
      obtain ⟨h50, h51, h52, h53, h54, h55, h56, h57, h58, h59, h60, -⟩ := i12
      refine c_r ?_
      refine o_mv (v := w10) h52 ?_
      refine o_ldB 0 s37 rfl h54 rfl rfl ?_
      obtain ⟨Z14, V14, g14, s38, h61⟩ := s37.frzS 1 rfl
      replace h61 := h61.of_ro
      refine o_bsl (s := (Sh.ro Sh.api_Tree)) (us := [(vi x10.Rule), (vi x10.Term), (.slice d9 x10.Kids.length x10.Kids.length)]) (qs := [(0, 3, (.agg #[(vi x10.Rule), (vi x10.Term), (.slice d9 x10.Kids.length x10.Kids.length)]))]) (xs := [(Ty.api_Tree.mk x10.Rule x10.Term (Pu.st x10.Kids (i7 : Int) x9))]) s38 (Sh.ro_lt _) rfl rfl rfl (Els.cons (c := [(vi x10.Rule), (vi x10.Term), (.slice d9 x10.Kids.length x10.Kids.length)]) (Sh.api_Tree_cl (x := (Ty.api_Tree.mk x10.Rule x10.Term (Pu.st x10.Kids (i7 : Int) x9))) h61) Els.nil) rfl rfl fun w13 H28 s39 => ?_
      obtain ⟨Z15, V15, g15, s40, h62⟩ := s39.frzS 0 rfl
      replace h62 := h62.of_ro
      obtain ⟨x12, q28, e4⟩ := Pu.bind_some e4
      refine o_app 4 s40 rfl (Sh.ro_lt _) rfl rfl rfl rfl h62 s40.z (fun h => h) (by decide) q28 fun w14 H29 s41 => ?_
      refine o_mv (v := w14) rfl ?_
      refine c_nil ?_
      refine c_end ?_
      refine c_r ?_
      refine o_add h60 rfl ?_
      refine o_mv (v := (vi (Pu.W ((i10 : Int) + 1)))) rfl ?_
      refine c_nil ?_
      obtain rfl := Option.some.inj e4
      exact k7 _ _ ⟨(iv rfl (w_suc q22 ((s26.curS (s := (Sh.ro Sh.api_Tree)) 0 rfl)).bd)), _, _, _, (g11.trans (g12.trans (g13.trans (g14.trans g15)))), (s41.pick [2, 3, 4, 5] rfl), h50, h51, rfl, h53, h55, h56, h57, h58, h59⟩
     obtain ⟨hte2, Z16, V16, w15, g16, s42, h63, h64, h65, h66, h67, h68, h69, h70, h71⟩ := jd
     refine c_sr ?_
     refine o_lss hte2 h71 ?_
     refine c_nil ?_
     refine c_sq ?_
     refine c_iff rfl (Int.lt_irrefl _) ?_
     refine c_ex ?_
     refine e_c ?_
     refine e_c ?_
     refine e_h ?_
     refine c_end ?_
     refine c_r ?_
     refine o_add h69 rfl ?_
     refine o_mv (v := (vi (Pu.W ((i7 : Int) + 1)))) rfl ?_
     refine c_nil ?_
     obtain rfl := Option.some.inj e3
     exact k6 _ _ ⟨(iv rfl (w_suc q17 ((hp2.mono (g1.trans (g2.trans (g3.trans g8))).z)).bd)), _, _, _, (g9.trans (g10.trans g16)), (s42.pick [0, 1, 2] rfl), h63, h64, h65, h67, h68⟩
    obtain ⟨hte1, Z17, V17, w16, g17, s43, h72, h73, h74, h75, h76⟩ := jd
    refine c_sr ?_
    refine o_lss hte1 h76 ?_
    refine c_nil ?_
    refine c_sq ?_
    refine c_iff rfl (Int.lt_irrefl _) ?_
    refine c_ex ?_
    refine e_c ?_
    refine e_c ?_
    refine e_h ?_
    refine c_sr ?_
    refine o_mv (v := w16) h74 ?_
    refine o_mv (v := w16) rfl ?_
    refine c_nil ?_
    refine c_rt ?_
    obtain rfl := Option.some.inj e
    exact ⟨.inr rfl, _, (ar1 rfl), _, rfl, ((s43.pick [2] rfl).weak (g1.trans (g2.trans (g3.trans (g8.trans g17)))) hs.zv)⟩
theorem X.shrink_Smaller {T : FuncId → Option AFunc} (nd : Nd.shrink_Smaller T) {φ : Nat} {Z V : PH} {H : Hp} {v1 : Value} {v2 : Value} {a0 : Ty.api_Grammar} {a1 : Ty.api_Tree} (hs : Sat Z V H []) (hp1 : RdS Sh.api_Rule Z v1 a0.Rules) (hp2 : RdS Sh.api_Tree Z v2 a1.Kids) {r : (List Ty.api_Tree)} (e : P.shrink_Smaller φ a0 a1 = some r) :
    G T I.shrink_Smaller [(.agg #[(vi a0.Terms), (vi a0.Nons), (vi a0.Start), v1]), (.agg #[(vi a1.Rule), (vi a1.Term), v2])] H (fun rv H' => ∃ (u1 : Value), rv = u1 ∧ Sat Z V H' [It.sl (Sh.ro Sh.api_Tree) u1 r]) := (X.shrink_Smaller_rec nd φ) hs hp1 hp2 e
/-! parlkeep5_plain -/
structure Nd.parlkeep5_plain (T : FuncId → Option AFunc) : Prop where
  own : Has T I.parlkeep5_plain F.parlkeep5_plain
set_option maxHeartbeats 1000000 in
theorem X.parlkeep5_plain {T : FuncId → Option AFunc} (nd : Nd.parlkeep5_plain T) {Z V : PH} {H : Hp} (hs : Sat Z V H []) {r : Ty.api_Grammar} (e : P.parlkeep5_plain = some r) :
    G T I.parlkeep5_plain [] H (fun rv H' => ∃ (u1 : Value), rv = (.agg #[(vi r.Terms), (vi r.Nons), (vi r.Start), u1]) ∧ Sat Z V H' [It.sl (Sh.ro Sh.api_Rule) u1 r.Rules]) := by
 unfold P.parlkeep5_plain at e
 refine f_mk nd.own ?_
 refine c_sr ?_
 refine o_new hs fun b1 H1 s1 => ?_
 refine c_nil ?_
 refine c_sr ?_
 refine o_bld (qs := [(0, 1, (.bool true))]) rfl rfl ?_
 refine o_bsl (s := (Sh.ro Sh.api_Sym)) (us := [(.bool true), (vi 0)]) (qs := [(0, 2, (.agg #[(.bool true), (vi 0)]))]) (xs := [(Ty.api_Sym.mk true 0)]) s1 (Sh.ro_lt _) rfl rfl rfl (Els.cons (c := [(.bool true), (vi 0)]) rfl Els.nil) rfl rfl fun w1 H2 s2 => ?_
 obtain ⟨d1, rfl⟩ := ((s2.curS (s := (Sh.ro Sh.api_Sym)) 0 rfl)).val
 refine o_bld (qs := [(1, 1, (.slice d1 [(Ty.api_Sym.mk true 0)].length [(Ty.api_Sym.mk true 0)].length))]) rfl rfl ?_
 refine o_bld (qs := [(0, 1, (.bool true)), (1, 1, (vi 1))]) rfl rfl ?_
 refine o_bld (qs := []) rfl rfl ?_
 refine o_bsl (s := (Sh.ro Sh.api_Sym)) (us := [(.bool true), (vi 1), (.bool false), (vi 0)]) (qs := [(0, 2, (.agg #[(.bool true), (vi 1)])), (2, 2, (.agg #[(.bool false), (vi 0)]))]) (xs := [(Ty.api_Sym.mk true 1), (Ty.api_Sym.mk false 0)]) s2 (Sh.ro_lt _) rfl rfl rfl (Els.cons (c := [(.bool true), (vi 1)]) rfl (Els.cons (c := [(.bool false), (vi 0)]) rfl Els.nil)) rfl rfl fun w2 H3 s3 => ?_
 obtain ⟨d2, rfl⟩ := ((s3.curS (s := (Sh.ro Sh.api_Sym)) 0 rfl)).val
 refine o_bld (qs := [(1, 1, (.slice d2 [(Ty.api_Sym.mk true 1), (Ty.api_Sym.mk false 0)].length [(Ty.api_Sym.mk true 1), (Ty.api_Sym.mk false 0)].length))]) rfl rfl ?_
 obtain ⟨Z1, V1, g1, s4, h1⟩ := s3.frzS 1 rfl
 replace h1 := h1.of_ro
 obtain ⟨Z2, V2, g2, s5, h2⟩ := s4.frzS 0 rfl
 replace h2 := h2.of_ro
 refine o_bsl (s := (Sh.ro Sh.api_Rule)) (us := [(vi 0), (.slice d1 [(Ty.api_Sym.mk true 0)].length [(Ty.api_Sym.mk true 0)].length), (vi 0), (.slice d2 [(Ty.api_Sym.mk true 1), (Ty.api_Sym.mk false 0)].length [(Ty.api_Sym.mk true 1), (Ty.api_Sym.mk false 0)].length)]) (qs := [(0, 2, (.agg #[(vi 0), (.slice d1 [(Ty.api_Sym.mk true 0)].length [(Ty.api_Sym.mk true 0)].length)])), (2, 2, (.agg #[(vi 0), (.slice d2 [(Ty.api_Sym.mk true 1), (Ty.api_Sym.mk false 0)].length [(Ty.api_Sym.mk true 1), (Ty.api_Sym.mk false 0)].length)]))]) (xs := [(Ty.api_Rule.mk 0 [(Ty.api_Sym.mk true 0)]), (Ty.api_Rule.mk 0 [(Ty.api_Sym.mk true 1), (Ty.api_Sym.mk false 0)])]) s5 (Sh.ro_lt _) rfl rfl rfl (Els.cons (c := [(vi 0), (.slice d1 [(Ty.api_Sym.mk true 0)].length [(Ty.api_Sym.mk true 0)].length)]) (Sh.api_Rule_cl (x := (Ty.api_Rule.mk 0 [(Ty.api_Sym.mk true 0)])) (h1.mono g2.z)) (Els.cons (c := [(vi 0), (.slice d2 [(Ty.api_Sym.mk true 1), (Ty.api_Sym.mk false 0)].length [(Ty.api_Sym.mk true 1), (Ty.api_Sym.mk false 0)].length)]) (Sh.api_Rule_cl (x := (Ty.api_Rule.mk 0 [(Ty.api_Sym.mk true 1), (Ty.api_Sym.mk false 0)])) h2) Els.nil)) rfl rfl fun w3 H4 s6 => ?_
 obtain ⟨d3, rfl⟩ := ((s6.curS (s := (Sh.ro Sh.api_Rule)) 0 rfl)).val
 refine o_bld (qs := [(0, 1, (vi 2)), (1, 1, (vi 1)), (3, 1, (.slice d3 [(Ty.api_Rule.mk 0 [(Ty.api_Sym.mk true 0)]), (Ty.api_Rule.mk 0 [(Ty.api_Sym.mk true 1), (Ty.api_Sym.mk false 0)])].length [(Ty.api_Rule.mk 0 [(Ty.api_Sym.mk true 0)]), (Ty.api_Rule.mk 0 [(Ty.api_Sym.mk true 1), (Ty.api_Sym.mk false 0)])].length))]) rfl rfl ?_
 refine o_stB (us' := [(vi 2), (vi 1), (vi 0), (.slice d3 [(Ty.api_Rule.mk 0 [(Ty.api_Sym.mk true 0)]), (Ty.api_Rule.mk 0 [(Ty.api_Sym.mk true 1), (Ty.api_Sym.mk false 0)])].length [(Ty.api_Rule.mk 0 [(Ty.api_Sym.mk true 0)]), (Ty.api_Rule.mk 0 [(Ty.api_Sym.mk true 1), (Ty.api_Sym.mk false 0)])].length)]) 1 s6 rfl rfl rfl rfl rfl rfl rfl fun H5 s7 => ?_
 refine c_nil ?_
 refine c_gen (P := fun tm => tm 0 = (.pointer (some ⟨b1, 0, none⟩)) ∧ True) ⟨rfl, trivial⟩ ?_
 intro _ i1
 obtain ⟨h3, -⟩ := i1
 refine c_rt ?_
 obtain rfl := Option.some.inj e
 exact ⟨.inr rfl, _, (arB 1 s7 rfl h3 rfl rfl), _, rfl, ((s7.pick [0] rfl).weak (g1.trans g2) hs.zv)⟩
/-! parlmake_tree -/
structure Nd.parlmake_tree (T : FuncId → Option AFunc) : Prop where
  own_parlmake_tree : Has T I.parlmake_tree F.parlmake_tree
  parlmake_stream_next : Nd.parlmake_stream_next T
set_option maxHeartbeats 1000000 in
theorem X.parlmake_tree_rec {T : FuncId → Option AFunc} (nd : Nd.parlmake_tree T) : ∀ φ : Nat, (∀ {Z V : PH} {H : Hp} {v1 : Value} {v2 : Value} {o1 : Nat} {o2 : Nat} {a0 : Ty.api_Grammar} {a1 : Ty.api_Sym} {a2 : Ty.parlmake_stream} {a3 : Int} {a4 : Int} (hs : Sat Z V H [pts o1 (.rw 0 [v2]), pts o2 (.rw 0 [(vi a3)])]) (hp1 : RdS Sh.api_Rule Z v1 a0.Rules) (hp2 : RdS Sh.int Z v2 a2.l) {r : (Ty.parlmake_stream × Int × Ty.api_Tree × Bool)} (e : P.parlmake_tree φ a0 a1 a2 a3 a4 = some r), G T I.parlmake_tree [(.agg #[(vi a0.Terms), (vi a0.Nons), (vi a0.Start), v1]), (.agg #[(.bool a1.Term), (vi a1.N)]), (.pointer (some ⟨o1, 0, none⟩)), (.pointer (some ⟨o2, 0, none⟩)), (vi a4)] H (fun rv H' => ∃ (u1 : Value) (u2 : Value), rv = (.tuple #[(.agg #[(vi r.2.2.1.Rule), (vi r.2.2.1.Term), u2]), (.bool r.2.2.2)]) ∧ Sat Z V H' [pts o1 (.rw 0 [u1]), Sh.it (Sh.ro (Sh.sl Sh.int)) [u1] r.1.l, pts o2 (.rw 0 [(vi r.2.1)]), It.sl (Sh.ro Sh.api_Tree) u2 r.2.2.1.Kids])) := by
  intro φ
  induction φ with
  | zero =>
    intro Z V H v1 v2 o1 o2 a0 a1 a2 a3 a4 hs hp1 hp2 r e
    rw [P.parlmake_tree] at e; cases e
  | succ φ ih =>
    intro Z V H v1 v2 o1 o2 a0 a1 a2 a3 a4 hs hp1 hp2 r e
    rw [P.parlmake_tree] at e
    refine f_mk nd.own_parlmake_tree ?_
    refine c_sr ?_
    obtain ⟨d1, rfl⟩ := (hp1).val
    refine o_box hs rfl rfl fun b1 H1 s1 => ?_
    refine o_box s1 rfl rfl fun b2 H2 s2 => ?_
    refine o_new s2 fun b3 H3 s3 => ?_
    refine o_mv (v := (.bool false)) rfl ?_
    refine c_nil ?_
    refine c_sq ?_
    refine c_sr ?_
    refine o_mv (v := (.pointer (some ⟨o2, 0, none⟩))) rfl ?_
    refine o_nck rfl ?_
    refine o_ldB 4 s3 rfl rfl rfl rfl ?_
    refine o_sub rfl rfl ?_
    refine o_nck rfl ?_
    refine o_stB (us' := [(vi (Pu.W (a3 - 1)))]) 4 s3 rfl rfl rfl rfl rfl rfl rfl fun H4 s4 => ?_
    refine c_nil ?_
    refine c_sr ?_
    refine o_mv (v := (.pointer (some ⟨o2, 0, none⟩))) rfl ?_
    refine o_nck rfl ?_
    refine o_ldB 4 s4 rfl rfl rfl rfl ?_
    refine o_lss rfl rfl ?_
    refine o_mv (v := (.bool (decide ((Pu.W (a3 - 1)) < 0)))) rfl ?_
    refine o_jn 3 (I := fun tm H => tm 32 = .bool ((decide ((Pu.W (a3 - 1)) < 0)) || (decide (a4 < 0))) ∧ (∃ (Z1 V1 : PH), Gw Z V Z1 V1 ∧ Sat Z1 V1 H [pts o1 (.rw 0 [v2]), pts o2 (.rw 0 [(vi (Pu.W (a3 - 1)))]), pts b1 (.rw 0 [(vi a0.Terms), (vi a0.Nons), (vi a0.Start), (.slice d1 a0.Rules.length a0.Rules.length)]), pts b2 (.rw 0 [(.bool a1.Term), (vi a1.N)]), pts b3 (.rw 0 [(vi 0), (vi 0), (.slice none 0 0)])] ∧ tm 2 = (.pointer (some ⟨o1, 0, none⟩)) ∧ tm 3 = (.pointer (some ⟨o2, 0, none⟩)) ∧ tm 4 = (vi a4) ∧ tm 5 = (.pointer (some ⟨b1, 0, none⟩)) ∧ tm 6 = (.pointer (some ⟨b2, 0, none⟩)) ∧ tm 10 = (.pointer (some ⟨b3, 0, none⟩)))) (fun k1 => ?_) ?_
    ·rcases Bool.eq_false_or_eq_true (decide ((Pu.W (a3 - 1)) < 0)) with q1 | q1
     ·refine o_gn rfl q1 ?_
      refine o_gn rfl q1 ?_
      refine o_pickt (a := (.bool true)) rfl q1 rfl ?_
      exact k1 _ _ ⟨gf rfl (by first | (rw [q1]; first | done | rfl) | simp [q1]), _, _, Gw.refl _ _, (s4.pick [3, 4, 2, 1, 0] rfl), rfl, rfl, rfl, rfl, rfl, rfl⟩
     refine o_gy rfl q1 ?_
     refine o_mv (v := (vi a4)) rfl ?_
     refine o_gy rfl q1 ?_
     refine o_lss rfl rfl ?_
     refine o_pickf (b := (.bool (decide (a4 < 0)))) rfl q1 rfl ?_
     exact k1 _ _ ⟨gf rfl (by first | (rw [q1]; first | done | rfl) | simp [q1]), _, _, Gw.refl _ _, (s4.pick [3, 4, 2, 1, 0] rfl), rfl, rfl, rfl, rfl, rfl, rfl⟩
    intro _ H5 i1
    obtain ⟨h7, Z1, V1, g1, s5, h1, h2, h3, h4, h5, h6⟩ := i1
    refine c_nil ?_
    refine c_if h7 (fun q2 => ?_) (fun q2 => ?_)
    ·replace e := if_t q2 e
     refine c_sr ?_
     refine o_bld (qs := []) rfl rfl ?_
     refine o_stB (us' := [(vi 0), (vi 0), (.slice none 0 0)]) 4 s5 rfl h6 rfl rfl rfl rfl rfl fun H6 s6 => ?_
     refine o_mv (v := (.bool false)) rfl ?_
     refine c_nil ?_
     refine c_rt ?_
     obtain ⟨d2, rfl⟩ := ((hp2.mono g1.z)).val
     obtain rfl := Option.some.inj e
     exact ⟨.inr rfl, _, (ra2 (rac 4 s6 rfl h6 rfl rfl) (rat rfl)), _, _, rfl, ((((s6.push (ro_it (sl_ro (hp2.mono g1.z)))).push (sl_nil (s := (Sh.ro Sh.api_Tree)))).pick [2, 1, 3, 0] rfl).weak g1 hs.zv)⟩
    replace e := ib_f q2 e
    refine c_sk ?_
    refine c_sq ?_
    refine c_sr ?_
    refine o_fad h5 ?_
    refine o_ldB 3 s5 rfl rfl rfl rfl ?_
    refine c_nil ?_
    refine c_if rfl (fun q3 => ?_) (fun q3 => ?_)
    ·replace e := if_t q3 e
     refine c_sr ?_
     refine o_fad h5 ?_
     refine o_ldB 3 s5 rfl rfl rfl rfl ?_
     refine o_bld (qs := [(0, 1, (vi (-1))), (1, 1, (vi a1.N))]) rfl rfl ?_
     refine o_stB (us' := [(vi (-1)), (vi a1.N), (.slice none 0 0)]) 4 s5 rfl h6 rfl rfl rfl rfl rfl fun H7 s7 => ?_
     refine o_mv (v := (.bool true)) rfl ?_
     refine c_nil ?_
     refine c_rt ?_
     obtain ⟨d3, rfl⟩ := ((hp2.mono g1.z)).val
     obtain rfl := Option.some.inj e
     exact ⟨.inr rfl, _, (ra2 (rac 4 s7 rfl h6 rfl rfl) (rat rfl)), _, _, rfl, ((((s7.push (ro_it (sl_ro (hp2.mono g1.z)))).push (sl_nil (s := (Sh.ro Sh.api_Tree)))).pick [2, 1, 3, 0] rfl).weak g1 hs.zv)⟩
    replace e := ib_f q3 e
    refine c_sk ?_
    refine c_sr ?_
    refine o_mv (v := (.slice none 0 0)) rfl ?_
    refine c_nil ?_
    refine c_sq ?_
    refine c_sr ?_
    refine o_fad h4 ?_
    refine o_ldB 2 s5 rfl rfl rfl rfl ?_
    refine o_len rfl ((hp1.mono g1.z)).len ?_
    refine o_mv (v := (vi 0)) rfl ?_
    refine c_nil ?_
    obtain ⟨y1, q6, e⟩ := Pu.bind_some e
    refine c_bk ?_
    refine l_forP (xs := a0.Rules) (fun (i2 : Nat) (s8 : (List Int)) tm H => tm 42 = vi i2 ∧ ∃ (Z2 V2 : PH) (w1 : Value), Gw Z1 V1 Z2 V2 ∧ Sat Z2 V2 H [pts o1 (.rw 0 [v2]), pts o2 (.rw 0 [(vi (Pu.W (a3 - 1)))]), pts b1 (.rw 0 [(vi a0.Terms), (vi a0.Nons), (vi a0.Start), (.slice d1 a0.Rules.length a0.Rules.length)]), pts b2 (.rw 0 [(.bool a1.Term), (vi a1.N)]), pts b3 (.rw 0 [(vi 0), (vi 0), (.slice none 0 0)]), It.sl Sh.int w1 s8] ∧ tm 2 = (.pointer (some ⟨o1, 0, none⟩)) ∧ tm 3 = (.pointer (some ⟨o2, 0, none⟩)) ∧ tm 4 = (vi a4) ∧ tm 5 = (.pointer (some ⟨b1, 0, none⟩)) ∧ tm 6 = (.pointer (some ⟨b2, 0, none⟩)) ∧ tm 10 = (.pointer (some ⟨b3, 0, none⟩)) ∧ tm 12 = w1 ∧ tm 40 = (.slice d1 a0.Rules.length a0.Rules.length) ∧ tm 41 = (vi (a0.Rules.length : Int))) (fun i2 x1 s8 s10 tm H9 q4 q5 j1 e1 k2 => ?_) (fun tm H8 jd => ?_) q6 ⟨rfl, _, _, _, Gw.refl _ _, ((s5.push (sl_nil (s := Sh.int))).pick [1, 2, 3, 4, 5, 0] rfl), h1, h2, h3, h4, h5, h6, rfl, rfl, rfl⟩
    ·obtain ⟨hti0, Z2, V2, w1, g2, s9, h8, h9, h10, h11, h12, h13, h14, h15, h16⟩ := j1
     unfold P.parlmake_tree.b0 at e1
     refine c_sr ?_
     refine o_lss hti0 h16 ?_
     refine c_nil ?_
     refine c_sq ?_
     refine c_ift rfl (Int.ofNat_lt.2 q5) ?_
     refine c_sk ?_
     refine c_sq ?_
     refine c_bk ?_
     refine c_sr ?_
     refine o_mv (v := (vi (i2 : Int))) hti0 ?_
     refine o_idx (v := (.slice d1 a0.Rules.length a0.Rules.length)) h15 hti0 (hp1.mono (g1.trans g2).z) rfl (Pu.ix_nat.trans q4) fun p1 q7 => ?_
     refine o_lda rfl (hp1.mono (g1.trans g2).z) s9.z rfl q7 (Pu.ix_nat.trans q4) fun c1 h17 => ?_
     obtain ⟨w2, rfl, h18⟩ := Sh.api_Rule_op h17
     refine o_new s9 fun b4 H10 s11 => ?_
     refine o_mv (v := (vi (i2 : Int))) rfl ?_
     obtain ⟨d4, rfl⟩ := (h18).val
     refine o_stB (us' := [(vi x1.Left), (.slice d4 x1.Right.length x1.Right.length)]) 0 s11 rfl rfl rfl rfl rfl rfl rfl fun H11 s12 => ?_
     refine c_nil ?_
     refine c_sr ?_
     refine o_fad rfl ?_
     refine o_ldB 0 s12 rfl rfl rfl rfl ?_
     refine o_fad h12 ?_
     refine o_ldB 4 s12 rfl rfl rfl rfl ?_
     refine o_eql rfl rfl ?_
     refine c_nil ?_
     refine c_gen (P := fun tm => tm 2 = (.pointer (some ⟨o1, 0, none⟩)) ∧ tm 3 = (.pointer (some ⟨o2, 0, none⟩)) ∧ tm 4 = (vi a4) ∧ tm 5 = (.pointer (some ⟨b1, 0, none⟩)) ∧ tm 6 = (.pointer (some ⟨b2, 0, none⟩)) ∧ tm 10 = (.pointer (some ⟨b3, 0, none⟩)) ∧ tm 12 = w1 ∧ tm 13 = (vi (i2 : Int)) ∧ tm 40 = (.slice d1 a0.Rules.length a0.Rules.length) ∧ tm 41 = (vi (a0.Rules.length : Int)) ∧ tm 42 = (vi (i2 : Int)) ∧ tm 51 = (.bool (decide (x1.Left = a1.N))) ∧ True) ⟨h8, h9, h10, h11, h12, h13, h14, rfl, h15, h16, hti0, rfl, trivial⟩ ?_
     intro _ i3
     obtain ⟨h19, h20, h21, h22, h23, h24, h25, h26, h27, h28, h29, h30, -⟩ := i3
     obtain ⟨y2, e2, e1⟩ := Pu.bind_some e1
     refine c_jn (I := fun tm H => ∃ (Z3 V3 : PH) (w3 : Value), Gw Z2 V2 Z3 V3 ∧ Sat Z3 V3 H [pts o1 (.rw 0 [v2]), pts o2 (.rw 0 [(vi (Pu.W (a3 - 1)))]), pts b1 (.rw 0 [(vi a0.Terms), (vi a0.Nons), (vi a0.Start), (.slice d1 a0.Rules.length a0.Rules.length)]), pts b2 (.rw 0 [(.bool a1.Term), (vi a1.N)]), pts b3 (.rw 0 [(vi 0), (vi 0), (.slice none 0 0)]), It.sl Sh.int w3 y2] ∧ tm 2 = (.pointer (some ⟨o1, 0, none⟩)) ∧ tm 3 = (.pointer (some ⟨o2, 0, none⟩)) ∧ tm 4 = (vi a4) ∧ tm 5 = (.pointer (some ⟨b1, 0, none⟩)) ∧ tm 6 = (.pointer (some ⟨b2, 0, none⟩)) ∧ tm 10 = (.pointer (some ⟨b3, 0, none⟩)) ∧ tm 12 = w3 ∧ tm 40 = (.slice d1 a0.Rules.length a0.Rules.length) ∧ tm 41 = (vi (a0.Rules.length : Int)) ∧ tm 42 = (vi (i2 : Int))) (fun k3 => ?_) ?_
     ·refine c_ifd h30 (fun q8 => ?_) (fun q8 => ?_)
      ·replace e2 := if_t q8 e2
       refine c_r ?_
       refine o_mv (v := w1) h25 ?_
       refine o_mv (v := (vi (i2 : Int))) h26 ?_
       refine o_bsl (s := Sh.int) (us := [(vi (i2 : Int))]) (qs := [(0, 1, (vi (i2 : Int)))]) (xs := [(i2 : Int)]) s12 Sh.flat_lt rfl rfl rfl (Els.cons (c := [(vi (i2 : Int))]) rfl Els.nil) rfl rfl fun w4 H13 s14 => ?_
       obtain ⟨x2, q9, e2⟩ := Pu.bind_some e2
       refine o_app 7 s14 rfl Sh.flat_lt rfl rfl rfl rfl (s14.curS (s := Sh.int) 0 rfl) (PH.le.refl _) (fun h => h) (by decide) q9 fun w5 H14 s15 => ?_
       refine o_mv (v := w5) rfl ?_
       refine c_nil ?_
       obtain rfl := Option.some.inj e2
       exact k3 _ _ ⟨_, _, _, Gw.refl _ _, (s15.pick [2, 3, 4, 5, 6, 7] rfl), h19, h20, h21, h22, h23, h24, rfl, h27, h28, h29⟩
      replace e2 := if_f q8 e2
      refine c_sk ?_
      obtain rfl := Option.some.inj e2
      exact k3 _ _ ⟨_, _, _, Gw.refl _ _, (s12.pick [1, 2, 3, 4, 5, 6] rfl), h19, h20, h21, h22, h23, h24, h25, h27, h28, h29⟩
     intro _ H12 i4
     obtain ⟨Z3, V3, w3, g3, s13, h31, h32, h33, h34, h35, h36, h37, h38, h39, h40⟩ := i4
     refine c_end ?_
     refine c_r ?_
     refine o_add h40 rfl ?_
     refine o_mv (v := (vi (Pu.W ((i2 : Int) + 1)))) rfl ?_
     refine c_nil ?_
     obtain rfl := Option.some.inj e1
     exact k2 _ _ ⟨(iv rfl (w_suc q5 ((hp1.mono g1.z)).bd)), _, _, _, (g2.trans g3), s13, h31, h32, h33, h34, h35, h36, h37, h38, h39⟩
    obtain ⟨hte0, Z4, V4, w6, g4, s16, h41, h42, h43, h44, h45, h46, h47, h48, h49⟩ := jd
    refine c_sr ?_
    refine o_lss hte0 h49 ?_
    refine c_nil ?_
    refine c_sq ?_
    refine c_iff rfl (Int.lt_irrefl _) ?_
    refine c_ex ?_
    refine e_c ?_
    refine e_c ?_
    refine e_h ?_
    refine c_sq ?_
    refine c_sr ?_
    refine o_mv (v := w6) h47 ?_
    refine o_len rfl ((s16.curS (s := Sh.int) 5 rfl)).len ?_
    refine o_eql rfl rfl ?_
    refine c_nil ?_
    refine c_ifd rfl (fun q10 => ?_) (fun q10 => ?_)
    ·replace e := if_t q10 e
     refine c_sr ?_
     refine o_bld (qs := []) rfl rfl ?_
     refine o_stB (us' := [(vi 0), (vi 0), (.slice none 0 0)]) 4 s16 rfl h46 rfl rfl rfl rfl rfl fun H16 s17 => ?_
     refine o_mv (v := (.bool false)) rfl ?_
     refine c_nil ?_
     refine c_rt ?_
     obtain ⟨d5, rfl⟩ := ((hp2.mono (g1.trans g4).z)).val
     obtain rfl := Option.some.inj e
     exact ⟨.inr rfl, _, (ra2 (rac 4 s17 rfl h46 rfl rfl) (rat rfl)), _, _, rfl, ((((s17.push (ro_it (sl_ro (hp2.mono (g1.trans g4).z)))).push (sl_nil (s := (Sh.ro Sh.api_Tree)))).pick [2, 1, 3, 0] rfl).weak (g1.trans g4) hs.zv)⟩
    replace e := if_f q10 e
    refine c_sk ?_
    refine c_sr ?_
    refine o_mv (v := w6) h47 ?_
    refine o_mv (v := (.pointer (some ⟨o1, 0, none⟩))) h41 ?_
    refine o_mv (v := w6) h47 ?_
    refine o_len rfl ((s16.curS (s := Sh.int) 5 rfl)).len ?_
    obtain ⟨x3, q11, e⟩ := Pu.bind_some e
    obtain ⟨d6, rfl⟩ := ((hp2.mono (g1.trans g4).z)).val
    obtain ⟨Z5, V5, W1, g5, u1, c2, c3, -, c5, c4⟩ := Sat.call (l1 := [pts o1 (.rw 0 [(.slice d6 a2.l.length a2.l.length)])]) (l2 := [pts o2 (.rw 0 [(vi (Pu.W (a3 - 1)))]), pts b1 (.rw 0 [(vi a0.Terms), (vi a0.Nons), (vi a0.Start), (.slice d1 a0.Rules.length a0.Rules.length)]), pts b2 (.rw 0 [(.bool a1.Term), (vi a1.N)]), pts b3 (.rw 0 [(vi 0), (vi 0), (.slice none 0 0)]), It.sl Sh.int w6 y1]) s16
    refine o_call (mc rfl (mc rfl m0)) (X.parlmake_stream_next nd.parlmake_stream_next (a0 := a2) c2 (hp2.mono ((g1.trans g4).trans g5).z) q11) fun _ H17 i5 => ?_
    obtain ⟨w7, rfl, s18⟩ := i5
    have s19 := c4 _ _ s18
    obtain ⟨Z6, V6, g6, s20, h50⟩ := (s19.pull 1 rfl).frzR
    obtain ⟨x4, q12, e⟩ := Pu.bind_some e
    refine o_idx (v := w6) rfl rfl (s20.curS (s := Sh.int) 5 rfl) rfl q12 fun p2 q13 => ?_
    refine o_ldi rfl (s20.curS (s := Sh.int) 5 rfl) (PH.le.refl _) q13 q12 ?_
    refine o_bld (qs := [(0, 1, (vi x4))]) rfl rfl ?_
    refine o_new s20 fun b5 H18 s21 => ?_
    refine o_stB (us' := [(vi x4), (vi 0), (.slice none 0 0)]) 0 s21 rfl rfl rfl rfl rfl rfl rfl fun H19 s22 => ?_
    refine c_nil ?_
    refine c_gen (P := fun tm => tm 2 = (.pointer (some ⟨o1, 0, none⟩)) ∧ tm 3 = (.pointer (some ⟨o2, 0, none⟩)) ∧ tm 4 = (vi a4) ∧ tm 5 = (.pointer (some ⟨b1, 0, none⟩)) ∧ tm 10 = (.pointer (some ⟨b3, 0, none⟩)) ∧ tm 15 = (.pointer (some ⟨b5, 0, none⟩)) ∧ True) ⟨h41, h42, h43, h44, h46, rfl, trivial⟩ ?_
    intro _ i6
    obtain ⟨h51, h52, h53, h54, h55, h56, -⟩ := i6
    refine c_sq ?_
    refine c_sr ?_
    refine o_fad h54 ?_
    refine o_ldB 3 s22 rfl rfl rfl rfl ?_
    refine o_fad h56 ?_
    refine o_ldB 0 s22 rfl rfl rfl rfl ?_
    obtain ⟨x5, q14, e⟩ := Pu.bind_some e
    refine o_idx (v := (.slice d1 a0.Rules.length a0.Rules.length)) rfl rfl (hp1.mono (g1.trans (g4.trans (g5.trans g6))).z) rfl q14 fun p3 q15 => ?_
    refine o_fadE rfl q15 fun p4 q16 => ?_
    refine o_ldF rfl (hp1.mono (g1.trans (g4.trans (g5.trans g6))).z) s22.z rfl q15 q16 q14 rfl fun c6 h57 => ?_
    obtain ⟨w8, rfl, h58⟩ := Sh.api_Rule_op h57
    refine ⟨_, rfl, ?_⟩
    refine o_len rfl (h58).len ?_
    refine o_mv (v := (vi 0)) rfl ?_
    refine c_nil ?_
    obtain ⟨y3, q19, e⟩ := Pu.bind_some e
    refine c_jn (I := fun tm H => ∃ (s25 : ((List Int) × Int × (List Ty.api_Tree))), y3 = .out s25 ∧ (∃ (Z8 V8 : PH) (w11 : Value) (w12 : Value), Gw Z6 V6 Z8 V8 ∧ Sat Z8 V8 H [pts o1 (.rw 0 [w12]), pts o2 (.rw 0 [(vi s25.2.1)]), pts b1 (.rw 0 [(vi a0.Terms), (vi a0.Nons), (vi a0.Start), (.slice d1 a0.Rules.length a0.Rules.length)]), pts b3 (.rw 0 [(vi 0), (vi 0), (.slice none 0 0)]), pts b5 (.rw 0 [(vi x4), (vi 0), w11]), It.sl (Sh.ro Sh.api_Tree) w11 s25.2.2] ∧ tm 2 = (.pointer (some ⟨o1, 0, none⟩)) ∧ tm 3 = (.pointer (some ⟨o2, 0, none⟩)) ∧ tm 4 = (vi a4) ∧ tm 5 = (.pointer (some ⟨b1, 0, none⟩)) ∧ tm 10 = (.pointer (some ⟨b3, 0, none⟩)) ∧ tm 15 = (.pointer (some ⟨b5, 0, none⟩)) ∧ tm 75 = w8 ∧ tm 76 = (vi (x5.Right.length : Int)) ∧ RdS Sh.int Z8 w12 s25.1)) (fun k7 => ?_) ?_
    ·refine c_bk ?_
     refine l_forL (xs := x5.Right) (fun (i7 : Nat) (s23 : ((List Int) × Int × (List Ty.api_Tree))) tm H => tm 77 = vi i7 ∧ ∃ (Z7 V7 : PH) (w9 : Value) (w10 : Value), Gw Z6 V6 Z7 V7 ∧ Sat Z7 V7 H [pts o1 (.rw 0 [w10]), pts o2 (.rw 0 [(vi s23.2.1)]), pts b1 (.rw 0 [(vi a0.Terms), (vi a0.Nons), (vi a0.Start), (.slice d1 a0.Rules.length a0.Rules.length)]), pts b3 (.rw 0 [(vi 0), (vi 0), (.slice none 0 0)]), pts b5 (.rw 0 [(vi x4), (vi 0), w9]), It.sl (Sh.ro Sh.api_Tree) w9 s23.2.2] ∧ tm 2 = (.pointer (some ⟨o1, 0, none⟩)) ∧ tm 3 = (.pointer (some ⟨o2, 0, none⟩)) ∧ tm 4 = (vi a4) ∧ tm 5 = (.pointer (some ⟨b1, 0, none⟩)) ∧ tm 10 = (.pointer (some ⟨b3, 0, none⟩)) ∧ tm 15 = (.pointer (some ⟨b5, 0, none⟩)) ∧ tm 75 = w8 ∧ tm 76 = (vi (x5.Right.length : Int)) ∧ RdS Sh.int Z7 w10 s23.1) (fun i7 x6 s23 y4 tm H21 q17 q18 j2 e3 k4 k5 k6 => ?_) (fun s23 tm H20 jf jd => ?_) q19 ⟨rfl, _, _, _, _, Gw.refl _ _, ((s22.push (sl_nil (s := (Sh.ro Sh.api_Tree)))).pick [2, 3, 4, 6, 1, 0] rfl), h51, h52, h53, h54, h55, h56, rfl, rfl, h50⟩
     ·obtain ⟨hti1, Z7, V7, w9, w10, g7, s24, h60, h61, h62, h63, h64, h65, h66, h67, h59⟩ := j2
      unfold P.parlmake_tree.b1 at e3
      refine c_sr ?_
      refine o_lss hti1 h67 ?_
      refine c_nil ?_
      refine c_sq ?_
      refine c_ift rfl (Int.ofNat_lt.2 q18) ?_
      refine c_sk ?_
      refine c_sq ?_
      refine c_bk ?_
      refine c_sr ?_
      refine o_idx (v := w8) h66 hti1 (h58.mono g7.z) rfl (Pu.ix_nat.trans q17) fun p5 q20 => ?_
      refine o_lda rfl (h58.mono g7.z) s24.z rfl q20 (Pu.ix_nat.trans q17) fun c7 h77 => ?_
      obtain rfl := h77
      refine o_new s24 fun b6 H23 s27 => ?_
      refine o_stB (us' := [(.bool x6.Term), (vi x6.N)]) 0 s27 rfl rfl rfl rfl rfl rfl rfl fun H24 s28 => ?_
      refine c_nil ?_
      refine c_sr ?_
      refine o_ldB 3 s28 rfl h63 rfl rfl ?_
      refine o_ldB 0 s28 rfl rfl rfl rfl ?_
      refine o_mv (v := (.pointer (some ⟨o1, 0, none⟩))) h60 ?_
      refine o_mv (v := (.pointer (some ⟨o2, 0, none⟩))) h61 ?_
      refine o_mv (v := (vi a4)) h62 ?_
      refine o_sub rfl rfl ?_
      obtain ⟨x7, q21, e3⟩ := Pu.bind_some e3
      obtain ⟨d7, rfl⟩ := (h59).val
      obtain ⟨Z9, V9, W2, g9, u2, c8, c9, -, c11, c10⟩ := Sat.call (l1 := [pts o1 (.rw 0 [(.slice d7 s23.1.length s23.1.length)]), pts o2 (.rw 0 [(vi s23.2.1)])]) (l2 := [pts b6 (.rw 0 [(.bool x6.Term), (vi x6.N)]), pts b1 (.rw 0 [(vi a0.Terms), (vi a0.Nons), (vi a0.Start), (.slice d1 a0.Rules.length a0.Rules.length)]), pts b3 (.rw 0 [(vi 0), (vi 0), (.slice none 0 0)]), pts b5 (.rw 0 [(vi x4), (vi 0), w9]), It.sl (Sh.ro Sh.api_Tree) w9 s23.2.2]) (s28.pick [1, 2, 0, 3, 4, 5, 6] rfl)
      refine o_call (mc rfl (mc rfl (mc rfl (mc rfl (mc rfl m0))))) (ih (a2 := (Ty.parlmake_stream.mk s23.1)) (a3 := s23.2.1) c8 (hp1.mono ((g1.trans (g4.trans (g5.trans (g6.trans g7)))).trans g9).z) (h59.mono g9.z) q21) fun _ H25 i8 => ?_
      obtain ⟨w13, w14, rfl, s29⟩ := i8
      have s30 := c10 _ _ s29
      obtain ⟨Z10, V10, g10, s31, h78⟩ := (s30.pull 1 rfl).frzR
      refine o_mv (v := (.tuple #[(.agg #[(vi x7.2.2.1.Rule), (vi x7.2.2.1.Term), w14]), (.bool x7.2.2.2)])) rfl ?_
      refine o_ext rfl rfl ?_
      refine o_ext rfl rfl ?_
      refine o_new s31 fun b7 H26 s32 => ?_
      obtain ⟨d8, rfl⟩ := ((s32.curS (s := (Sh.ro Sh.api_Tree)) 3 rfl)).val
      refine o_stB (us' := [(vi x7.2.2.1.Rule), (vi x7.2.2.1.Term), (.slice d8 x7.2.2.1.Kids.length x7.2.2.1.Kids.length)]) 0 s32 rfl rfl rfl rfl rfl rfl rfl fun H27 s33 => ?_
      refine o_mv (v := (.bool x7.2.2.2)) rfl ?_
      refine c_nil ?_
      refine c_gen (P := fun tm => tm 2 = (.pointer (some ⟨o1, 0, none⟩)) ∧ tm 3 = (.pointer (some ⟨o2, 0, none⟩)) ∧ tm 4 = (vi a4) ∧ tm 5 = (.pointer (some ⟨b1, 0, none⟩)) ∧ tm 10 = (.pointer (some ⟨b3, 0, none⟩)) ∧ tm 15 = (.pointer (some ⟨b5, 0, none⟩)) ∧ tm 18 = (.pointer (some ⟨b7, 0, none⟩)) ∧ tm 19 = (.bool x7.2.2.2) ∧ tm 75 = w8 ∧ tm 76 = (vi (x5.Right.length : Int)) ∧ tm 77 = (vi (i7 : Int)) ∧ True) ⟨h60, h61, h62, h63, h64, h65, rfl, rfl, h66, h67, hti1, trivial⟩ ?_
      intro _ i9
      obtain ⟨h79, h80, h81, h82, h83, h84, h85, h86, h87, h88, h89, -⟩ := i9
      refine c_sq ?_
      refine c_sr ?_
      refine o_mv (v := (.bool x7.2.2.2)) h86 ?_
      refine o_not rfl ?_
      refine c_nil ?_
      refine c_if rfl (fun q22 => ?_) (fun q22 => ?_)
      ·replace e3 := if_t q22 e3
       refine c_sr ?_
       refine o_bld (qs := []) rfl rfl ?_
       refine o_stB (us' := [(vi 0), (vi 0), (.slice none 0 0)]) 6 s33 rfl h83 rfl rfl rfl rfl rfl fun H28 s34 => ?_
       refine o_mv (v := (.bool false)) rfl ?_
       refine c_nil ?_
       refine c_rt ?_
       have e4 := fin_r (k6 _ (Option.some.inj e3).symm) e
       obtain ⟨d9, rfl⟩ := (h78).val
       obtain rfl := Option.some.inj e4
       exact ⟨.inr rfl, _, (ra2 (rac 6 s34 rfl h83 rfl rfl) (rat rfl)), _, _, rfl, ((((s34.push (ro_it (sl_ro h78))).push (sl_nil (s := (Sh.ro Sh.api_Tree)))).pick [3, 1, 4, 0] rfl).weak (g1.trans (g4.trans (g5.trans (g6.trans (g7.trans (g9.trans g10)))))) hs.zv)⟩
      replace e3 := ib_f q22 e3
      refine c_sk ?_
      refine c_r ?_
      refine o_fad h84 ?_
      obtain ⟨d10, rfl⟩ := ((s33.curS (s := (Sh.ro Sh.api_Tree)) 8 rfl)).val
      refine o_ldB 7 s33 rfl rfl rfl rfl ?_
      refine o_ldB 0 s33 rfl h85 rfl rfl ?_
      obtain ⟨Z11, V11, g11, s35, h90⟩ := s33.frzS 3 rfl
      replace h90 := h90.of_ro
      refine o_bsl (s := (Sh.ro Sh.api_Tree)) (us := [(vi x7.2.2.1.Rule), (vi x7.2.2.1.Term), (.slice d8 x7.2.2.1.Kids.length x7.2.2.1.Kids.length)]) (qs := [(0, 3, (.agg #[(vi x7.2.2.1.Rule), (vi x7.2.2.1.Term), (.slice d8 x7.2.2.1.Kids.length x7.2.2.1.Kids.length)]))]) (xs := [x7.2.2.1]) s35 (Sh.ro_lt _) rfl rfl rfl (Els.cons (c := [(vi x7.2.2.1.Rule), (vi x7.2.2.1.Term), (.slice d8 x7.2.2.1.Kids.length x7.2.2.1.Kids.length)]) (Sh.api_Tree_cl (x := x7.2.2.1) h90) Els.nil) rfl rfl fun w15 H29 s36 => ?_
      obtain ⟨Z12, V12, g12, s37, h91⟩ := s36.frzS 0 rfl
      replace h91 := h91.of_ro
      obtain ⟨x8, q23, e3⟩ := Pu.bind_some e3
      refine o_app 7 s37 rfl (Sh.ro_lt _) rfl rfl rfl rfl h91 s37.z (fun h => h) (by decide) q23 fun w16 H30 s38 => ?_
      refine o_fad h84 ?_
      obtain ⟨d11, rfl⟩ := ((s38.curS (s := (Sh.ro Sh.api_Tree)) 7 rfl)).val
      refine o_stB (us' := [(vi x4), (vi 0), (.slice d11 x8.length x8.length)]) 6 s38 rfl rfl rfl rfl rfl rfl rfl fun H31 s39 => ?_
      refine c_nil ?_
      refine c_end ?_
      refine c_r ?_
      refine o_add h89 rfl ?_
      refine o_mv (v := (vi (Pu.W ((i7 : Int) + 1)))) rfl ?_
      refine c_nil ?_
      exact k4 _ _ _ (Option.some.inj e3).symm ⟨(iv rfl (w_suc q18 (h58).bd)), _, _, _, _, (g7.trans (g9.trans (g10.trans (g11.trans g12)))), (s39.pick [1, 2, 4, 5, 6, 7] rfl), h79, h80, h81, h82, h83, h84, h87, h88, (h78.mono (g11.trans g12).z)⟩
     ·obtain ⟨hte1, Z13, V13, w17, w18, g13, s40, h93, h94, h95, h96, h97, h98, h99, h100, h92⟩ := jd
      refine c_sr ?_
      refine o_lss hte1 h100 ?_
      refine c_nil ?_
      refine c_sq ?_
      refine c_iff rfl (Int.lt_irrefl _) ?_
      refine c_ex ?_
      refine e_c ?_
      refine e_c ?_
      refine e_h ?_
      exact k7 _ _ ⟨_, jf, _, _, _, _, g13, s40, h93, h94, h95, h96, h97, h98, h99, h100, h92⟩
    intro _ H22 i10
    obtain ⟨s25, f1, Z8, V8, w11, w12, g8, s26, h69, h70, h71, h72, h73, h74, h75, h76, h68⟩ := i10
    replace e := fin_o f1 e
    refine c_sr ?_
    obtain ⟨d12, rfl⟩ := ((s26.curS (s := (Sh.ro Sh.api_Tree)) 5 rfl)).val
    refine o_ldB 4 s26 rfl h74 rfl rfl ?_
    refine o_stB (us' := [(vi x4), (vi 0), (.slice d12 s25.2.2.length s25.2.2.length)]) 3 s26 rfl h73 rfl rfl rfl rfl rfl fun H33 s41 => ?_
    refine o_mv (v := (.bool true)) rfl ?_
    refine c_nil ?_
    refine c_rt ?_
    obtain ⟨d13, rfl⟩ := (h68).val
    obtain rfl := Option.some.inj e
    exact ⟨.inr rfl, _, (ra2 (rac 3 s41 rfl h73 rfl rfl) (rat rfl)), _, _, rfl, (((s41.push (ro_it (sl_ro h68))).pick [1, 0, 2, 6] rfl).weak (g1.trans (g4.trans (g5.trans (g6.trans g8)))) hs.zv)⟩
theorem X.parlmake_tree {T : FuncId → Option AFunc} (nd : Nd.parlmake_tree T) {φ : Nat} {Z V : PH} {H : Hp} {v1 : Value} {v2 : Value} {o1 : Nat} {o2 : Nat} {a0 : Ty.api_Grammar} {a1 : Ty.api_Sym} {a2 : Ty.parlmake_stream} {a3 : Int} {a4 : Int} (hs : Sat Z V H [pts o1 (.rw 0 [v2]), pts o2 (.rw 0 [(vi a3)])]) (hp1 : RdS Sh.api_Rule Z v1 a0.Rules) (hp2 : RdS Sh.int Z v2 a2.l) {r : (Ty.parlmake_stream × Int × Ty.api_Tree × Bool)} (e : P.parlmake_tree φ a0 a1 a2 a3 a4 = some r) :
    G T I.parlmake_tree [(.agg #[(vi a0.Terms), (vi a0.Nons), (vi a0.Start), v1]), (.agg #[(.bool a1.Term), (vi a1.N)]), (.pointer (some ⟨o1, 0, none⟩)), (.pointer (some ⟨o2, 0, none⟩)), (vi a4)] H (fun rv H' => ∃ (u1 : Value) (u2 : Value), rv = (.tuple #[(.agg #[(vi r.2.2.1.Rule), (vi r.2.2.1.Term), u2]), (.bool r.2.2.2)]) ∧ Sat Z V H' [pts o1 (.rw 0 [u1]), Sh.it (Sh.ro (Sh.sl Sh.int)) [u1] r.1.l, pts o2 (.rw 0 [(vi r.2.1)]), It.sl (Sh.ro Sh.api_Tree) u2 r.2.2.1.Kids]) := (X.parlmake_tree_rec nd φ) hs hp1 hp2 e
/-! parlmake_Tree -/
structure Nd.parlmake_Tree (T : FuncId → Option AFunc) : Prop where
  own : Has T I.parlmake_Tree F.parlmake_Tree
  parlmake_tree : Nd.parlmake_tree T
set_option maxHeartbeats 1000000 in
theorem X.parlmake_Tree {T : FuncId → Option AFunc} (nd : Nd.parlmake_Tree T) {φ : Nat} {Z V : PH} {H : Hp} {v1 : Value} {v2 : Value} {a0 : Ty.api_Grammar} {a1 : (List Int)} (hs : Sat Z V H []) (hp1 : RdS Sh.api_Rule Z v1 a0.Rules) (hp2 : RdS Sh.int Z v2 a1) {r : (Ty.api_Tree × Bool)} (e : P.parlmake_Tree φ a0 a1 = some r) :
    G T I.parlmake_Tree [(.agg #[(vi a0.Terms), (vi a0.Nons), (vi a0.Start), v1]), v2] H (fun rv H' => ∃ (u1 : Value), rv = (.tuple #[(.agg #[(vi r.1.Rule), (vi r.1.Term), u1]), (.bool r.2)]) ∧ Sat Z V H' [It.sl (Sh.ro Sh.api_Tree) u1 r.1.Kids]) := by
 unfold P.parlmake_Tree at e
 refine f_mk nd.own ?_
 refine c_sr ?_
 obtain ⟨d1, rfl⟩ := (hp1).val
 refine o_box hs rfl rfl fun b1 H1 s1 => ?_
 refine o_new s1 fun b2 H2 s2 => ?_
 refine o_mv (v := (.bool false)) rfl ?_
 refine c_nil ?_
 refine c_sr ?_
 refine o_new s2 fun b3 H3 s3 => ?_
 refine o_stB (us' := [(vi 60)]) 0 s3 rfl rfl rfl rfl rfl rfl rfl fun H4 s4 => ?_
 refine c_nil ?_
 refine c_sr ?_
 refine o_ldB 2 s4 rfl rfl rfl rfl ?_
 refine o_fad rfl ?_
 refine o_ldB 2 s4 rfl rfl rfl rfl ?_
 refine o_bld (qs := [(1, 1, (vi a0.Start))]) rfl rfl ?_
 refine o_mv (v := v2) rfl ?_
 obtain ⟨d2, rfl⟩ := (hp2).val
 refine o_bld (qs := [(0, 1, (.slice d2 a1.length a1.length))]) rfl rfl ?_
 refine o_box s4 rfl rfl fun b4 H5 s5 => ?_
 obtain ⟨x1, q1, e⟩ := Pu.bind_some e
 obtain ⟨Z1, V1, W1, g1, u1, c1, c2, -, c4, c3⟩ := Sat.call (l1 := [pts b4 (.rw 0 [(.slice d2 a1.length a1.length)]), pts b3 (.rw 0 [(vi 60)])]) (l2 := [pts b2 (.rw 0 [(vi 0), (vi 0), (.slice none 0 0)]), pts b1 (.rw 0 [(vi a0.Terms), (vi a0.Nons), (vi a0.Start), (.slice d1 a0.Rules.length a0.Rules.length)])]) s5
 refine o_call (mc rfl (mc rfl (mc rfl (mc rfl (mc rfl m0))))) (X.parlmake_tree nd.parlmake_tree (a1 := (Ty.api_Sym.mk false a0.Start)) (a2 := (Ty.parlmake_stream.mk a1)) (a3 := 60) c1 (hp1.mono g1.z) (hp2.mono g1.z) q1) fun _ H6 i1 => ?_
 obtain ⟨w1, w2, rfl, s6⟩ := i1
 have s7 := c3 _ _ s6
 obtain ⟨Z2, V2, g2, s8, h1⟩ := (s7.pull 1 rfl).frzR
 refine o_ext rfl rfl ?_
 refine o_ext rfl rfl ?_
 obtain ⟨d3, rfl⟩ := ((s8.curS (s := (Sh.ro Sh.api_Tree)) 2 rfl)).val
 refine o_stB (us' := [(vi x1.2.2.1.Rule), (vi x1.2.2.1.Term), (.slice d3 x1.2.2.1.Kids.length x1.2.2.1.Kids.length)]) 3 s8 rfl rfl rfl rfl rfl rfl rfl fun H7 s9 => ?_
 refine o_mv (v := (.bool x1.2.2.2)) rfl ?_
 refine c_nil ?_
 refine c_gen (P := fun tm => tm 4 = (.pointer (some ⟨b2, 0, none⟩)) ∧ tm 5 = (.bool x1.2.2.2) ∧ True) ⟨rfl, rfl, trivial⟩ ?_
 intro _ i2
 obtain ⟨h2, h3, -⟩ := i2
 refine c_rt ?_
 obtain rfl := Option.some.inj e
 exact ⟨.inr rfl, _, (ra2 (rac 3 s9 rfl h2 rfl rfl) (rat h3)), _, rfl, ((s9.pick [2] rfl).weak (g1.trans g2) hs.zv)⟩
/-! parlkeep5_below -/
structure Nd.parlkeep5_below (T : FuncId → Option AFunc) : Prop where
  own : Has T I.parlkeep5_below F.parlkeep5_below
  parlmake_Below : Nd.parlmake_Below T
set_option maxHeartbeats 1000000 in
theorem X.parlkeep5_below {T : FuncId → Option AFunc} (nd : Nd.parlkeep5_below T) {Z V : PH} {H : Hp} {a0 : Int} {a1 : Int} (hs : Sat Z V H []) {r : Int} (e : P.parlkeep5_below a0 a1 = some r) :
    G T I.parlkeep5_below [(vi a0), (vi a1)] H (fun rv H' => rv = (vi r) ∧ Sat Z V H' []) := by
 unfold P.parlkeep5_below at e
 refine f_mk nd.own ?_
 refine c_sr ?_
 refine o_mv (v := (vi 0)) rfl ?_
 refine c_nil ?_
 refine c_sr ?_
 refine o_mv (v := (vi a0)) rfl ?_
 refine o_mv (v := (vi a1)) rfl ?_
 obtain ⟨x1, q1, e⟩ := Pu.bind_some e
 obtain ⟨Z1, V1, W1, g1, u1, c1, c2, -, c4, c3⟩ := Sat.call (l1 := []) hs
 refine o_call (mc rfl (mc rfl m0)) (X.parlmake_Below nd.parlmake_Below c1 q1) fun _ H1 i1 => ?_
 obtain ⟨rfl, s1⟩ := i1
 have s2 := c3 _ _ s1
 refine o_mv (v := (vi x1)) rfl ?_
 refine c_nil ?_
 refine c_rt ?_
 obtain rfl := Option.some.inj e
 exact ⟨.inr rfl, _, (ar1 rfl), rfl, (s2.weak g1 hs.zv)⟩
/-! tree_word -/
structure Nd.tree_word (T : FuncId → Option AFunc) : Prop where
  own_tree_word : Has T I.tree_word F.tree_word
  tree_leaf : Nd.tree_leaf T
set_option maxHeartbeats 1000000 in
theorem X.tree_word_rec {T : FuncId → Option AFunc} (nd : Nd.tree_word T) : ∀ φ : Nat, (∀ {Z V : PH} {H : Hp} {v1 : Value} {v2 : Value} {a0 : (List Int)} {a1 : Ty.api_Tree} (hs : Sat Z V H [It.sl Sh.int v1 a0]) (hp2 : RdS Sh.api_Tree V v2 a1.Kids) {r : (List Int)} (e : P.tree_word φ a0 a1 = some r), G T I.tree_word [v1, (.agg #[(vi a1.Rule), (vi a1.Term), v2])] H (fun rv H' => ∃ (u1 : Value), rv = u1 ∧ Sat Z V H' [It.sl Sh.int u1 r])) := by
  intro φ
  induction φ with
  | zero =>
    intro Z V H v1 v2 a0 a1 hs hp2 r e
    rw [P.tree_word] at e; cases e
  | succ φ ih =>
    intro Z V H v1 v2 a0 a1 hs hp2 r e
    rw [P.tree_word] at e
    refine f_mk nd.own_tree_word ?_
    refine c_sr ?_
    obtain ⟨d1, rfl⟩ := (hp2).val
    refine o_box hs rfl rfl fun b1 H1 s1 => ?_
    refine o_mv (v := (.slice none 0 0)) rfl ?_
    refine c_nil ?_
    refine c_sq ?_
    refine c_sr ?_
    refine o_ldB 0 s1 rfl rfl rfl rfl ?_
    obtain ⟨x1, q1, e⟩ := Pu.bind_some e
    obtain ⟨Z1, V1, W1, g1, u1, c1, c2, -, c4, c3⟩ := Sat.call (l1 := []) s1
    refine o_call (mc rfl m0) (X.tree_leaf nd.tree_leaf c1 (hp2.mono (g1.v.trans u1)) q1) fun _ H2 i1 => ?_
    obtain ⟨rfl, s2⟩ := i1
    have s3 := c3 _ _ s2
    refine c_nil ?_
    refine c_if rfl (fun q2 => ?_) (fun q2 => ?_)
    ·replace e := if_t q2 e
     refine c_sr ?_
     refine o_mv (v := v1) rfl ?_
     refine o_fad rfl ?_
     refine o_ldB 0 s3 rfl rfl rfl rfl ?_
     refine o_bsl (s := Sh.int) (us := [(vi a1.Term)]) (qs := [(0, 1, (vi a1.Term))]) (xs := [a1.Term]) s3 Sh.flat_lt rfl rfl rfl (Els.cons (c := [(vi a1.Term)]) rfl Els.nil) rfl rfl fun w1 H3 s4 => ?_
     obtain ⟨x2, q3, e⟩ := Pu.bind_some e
     refine o_app 2 s4 rfl Sh.flat_lt rfl rfl rfl rfl (s4.curS (s := Sh.int) 0 rfl) (PH.le.refl _) (fun h => h) (by decide) q3 fun w2 H4 s5 => ?_
     refine o_mv (v := w2) rfl ?_
     refine c_nil ?_
     refine c_gen (P := fun tm => tm 4 = w2 ∧ True) ⟨rfl, trivial⟩ ?_
     intro _ i2
     obtain ⟨h1, -⟩ := i2
     refine c_rt ?_
     obtain rfl := Option.some.inj e
     exact ⟨.inr rfl, _, (ar1 h1), _, rfl, ((s5.pick [2] rfl).weak g1 hs.zv)⟩
    replace e := ib_f q2 e
    refine c_sk ?_
    refine c_sq ?_
    refine c_sr ?_
    refine o_fad rfl ?_
    refine o_ldB 0 s3 rfl rfl rfl rfl ?_
    refine o_len rfl ((hp2.mono g1.v)).len ?_
    refine o_mv (v := (vi 0)) rfl ?_
    refine c_nil ?_
    obtain ⟨y1, q6, e⟩ := Pu.bind_some e
    refine c_bk ?_
    refine l_forP (xs := a1.Kids) (fun (i3 : Nat) (s6 : (List Int)) tm H => tm 17 = vi i3 ∧ ∃ (Z2 V2 : PH) (w3 : Value), Gw Z1 V1 Z2 V2 ∧ Sat Z2 V2 H [It.sl Sh.int w3 s6] ∧ tm 0 = w3 ∧ tm 15 = (.slice d1 a1.Kids.length a1.Kids.length) ∧ tm 16 = (vi (a1.Kids.length : Int))) (fun i3 x3 s6 s8 tm H6 q4 q5 j1 e1 k1 => ?_) (fun tm H5 jd => ?_) q6 ⟨rfl, _, _, _, Gw.refl _ _, (s3.pick [1] rfl), rfl, rfl, rfl⟩
    ·obtain ⟨hti0, Z2, V2, w3, g2, s7, h2, h3, h4⟩ := j1
     unfold P.tree_word.b0 at e1
     refine c_sr ?_
     refine o_lss hti0 h4 ?_
     refine c_nil ?_
     refine c_sq ?_
     refine c_ift rfl (Int.ofNat_lt.2 q5) ?_
     refine c_sk ?_
     refine c_sq ?_
     refine c_bk ?_
     refine c_sr ?_
     refine o_idx (v := (.slice d1 a1.Kids.length a1.Kids.length)) h3 hti0 (hp2.mono (g1.trans g2).v) rfl (Pu.ix_nat.trans q4) fun p1 q7 => ?_
     refine o_lda rfl (hp2.mono (g1.trans g2).v) s7.v rfl q7 (Pu.ix_nat.trans q4) fun c5 h5 => ?_
     obtain ⟨w4, rfl, h6⟩ := Sh.api_Tree_op h5
     refine o_new s7 fun b2 H7 s9 => ?_
     obtain ⟨d2, rfl⟩ := (h6).val
     refine o_stB (us' := [(vi x3.Rule), (vi x3.Term), (.slice d2 x3.Kids.length x3.Kids.length)]) 0 s9 rfl rfl rfl rfl rfl rfl rfl fun H8 s10 => ?_
     refine c_nil ?_
     refine c_r ?_
     refine o_mv (v := w3) h2 ?_
     refine o_ldB 0 s10 rfl rfl rfl rfl ?_
     obtain ⟨x4, q8, e1⟩ := Pu.bind_some e1
     obtain ⟨Z3, V3, W2, g3, u2, c6, c7, -, c9, c8⟩ := Sat.call (l1 := [It.sl Sh.int w3 s6]) (l2 := [pts b2 (.rw 0 [(vi x3.Rule), (vi x3.Term), (.slice d2 x3.Kids.length x3.Kids.length)])]) (s10.pick [1, 0] rfl)
     refine o_call (mc rfl (mc rfl m0)) (ih c6 (h6.mono (g3.v.trans u2)) q8) fun w5 H9 i4 => ?_
     obtain ⟨_, rfl, s11⟩ := i4
     have s12 := c8 _ _ s11
     refine o_mv (v := w5) rfl ?_
     refine c_nil ?_
     refine c_end ?_
     refine c_r ?_
     refine o_add hti0 rfl ?_
     refine o_mv (v := (vi (Pu.W ((i3 : Int) + 1)))) rfl ?_
     refine c_nil ?_
     obtain rfl := Option.some.inj e1
     exact k1 _ _ ⟨(iv rfl (w_suc q5 ((hp2.mono g1.v)).bd)), _, _, _, (g2.trans g3), (s12.pick [0] rfl), rfl, h3, h4⟩
    obtain ⟨hte0, Z4, V4, w6, g4, s13, h7, h8, h9⟩ := jd
    refine c_sr ?_
    refine o_lss hte0 h9 ?_
    refine c_nil ?_
    refine c_sq ?_
    refine c_iff rfl (Int.lt_irrefl _) ?_
    refine c_ex ?_
    refine e_c ?_
    refine e_c ?_
    refine e_h ?_
    refine c_sr ?_
    refine o_mv (v := w6) h7 ?_
    refine o_mv (v := w6) rfl ?_
    refine c_nil ?_
    refine c_rt ?_
    obtain rfl := Option.some.inj e
    exact ⟨.inr rfl, _, (ar1 rfl), _, rfl, (s13.weak (g1.trans g4) hs.zv)⟩
theorem X.tree_word {T : FuncId → Option AFunc} (nd : Nd.tree_word T) {φ : Nat} {Z V : PH} {H : Hp} {v1 : Value} {v2 : Value} {a0 : (List Int)} {a1 : Ty.api_Tree} (hs : Sat Z V H [It.sl Sh.int v1 a0]) (hp2 : RdS Sh.api_Tree V v2 a1.Kids) {r : (List Int)} (e : P.tree_word φ a0 a1 = some r) :
    G T I.tree_word [v1, (.agg #[(vi a1.Rule), (vi a1.Term), v2])] H (fun rv H' => ∃ (u1 : Value), rv = u1 ∧ Sat Z V H' [It.sl Sh.int u1 r]) := (X.tree_word_rec nd φ) hs hp2 e
/-! tree_Word -/
structure Nd.tree_Word (T : FuncId → Option AFunc) : Prop where
  own : Has T I.tree_Word F.tree_Word
  tree_word : Nd.tree_word T
set_option maxHeartbeats 1000000 in
theorem X.tree_Word {T : FuncId → Option AFunc} (nd : Nd.tree_Word T) {φ : Nat} {Z V : PH} {H : Hp} {v1 : Value} {a0 : Ty.api_Tree} (hs : Sat Z V H []) (hp1 : RdS Sh.api_Tree V v1 a0.Kids) {r : (List Int)} (e : P.tree_Word φ a0 = some r) :
    G T I.tree_Word [(.agg #[(vi a0.Rule), (vi a0.Term), v1])] H (fun rv H' => ∃ (u1 : Value), rv = u1 ∧ Sat Z V H' [It.sl Sh.int u1 r]) := by
 unfold P.tree_Word at e
 refine f_mk nd.own ?_
 refine c_sr ?_
 obtain ⟨d1, rfl⟩ := (hp1).val
 refine o_box hs rfl rfl fun b1 H1 s1 => ?_
 refine o_mv (v := (.slice none 0 0)) rfl ?_
 refine c_nil ?_
 refine c_sr ?_
 refine o_ldB 0 s1 rfl rfl rfl rfl ?_
 obtain ⟨x1, q1, e⟩ := Pu.bind_some e
 have s2 := s1.push (sl_nil (s := Sh.int))
 obtain ⟨Z1, V1, W1, g1, u1, c1, c2, -, c4, c3⟩ := Sat.call (l1 := [It.sl Sh.int (.slice none 0 0) []]) (l2 := [pts b1 (.rw 0 [(vi a0.Rule), (vi a0.Term), (.slice d1 a0.Kids.length a0.Kids.length)])]) s2
 refine o_call (mc rfl (mc rfl m0)) (X.tree_word nd.tree_word c1 (hp1.mono (g1.v.trans u1)) q1) fun w1 H2 i1 => ?_
 obtain ⟨_, rfl, s3⟩ := i1
 have s4 := c3 _ _ s3
 refine o_mv (v := w1) rfl ?_
 refine c_nil ?_
 refine c_rt ?_
 obtain rfl := Option.some.inj e
 exact ⟨.inr rfl, _, (ar1 rfl), _, rfl, ((s4.pick [0] rfl).weak g1 hs.zv)⟩
/-! parlkeep5_ShrinkTree_1 -/
structure Nd.parlkeep5_ShrinkTree_1 (T : FuncId → Option AFunc) : Prop where
  own : Has T I.parlkeep5_ShrinkTree_1 F.parlkeep5_ShrinkTree_1
  tree_Word : Nd.tree_Word T
  tree_Size : Nd.tree_Size T
set_option maxHeartbeats 1000000 in
theorem X.parlkeep5_ShrinkTree_1 {T : FuncId → Option AFunc} (nd : Nd.parlkeep5_ShrinkTree_1 T) {φ : Nat} {Z V : PH} {H : Hp} {v1 : Value} {o1 : Nat} {a0 : Ty.api_Tree} {a1 : Int} (hs : Sat Z V H [pts o1 (.rw 0 [(vi a1)])]) (hp1 : RdS Sh.api_Tree V v1 a0.Kids) {r : Bool} (e : P.parlkeep5_ShrinkTree_1 φ a0 a1 = some r) :
    G T I.parlkeep5_ShrinkTree_1 [(.agg #[(vi a0.Rule), (vi a0.Term), v1]), (.pointer (some ⟨o1, 0, none⟩))] H (fun rv H' => rv = (.bool r) ∧ Sat Z V H' [pts o1 (.rw 0 [(vi a1)])]) := by
 unfold P.parlkeep5_ShrinkTree_1 at e
 refine f_mk nd.own ?_
 refine c_sr ?_
 obtain ⟨d1, rfl⟩ := (hp1).val
 refine o_box hs rfl rfl fun b1 H1 s1 => ?_
 refine o_mv (v := (.bool false)) rfl ?_
 refine c_nil ?_
 refine c_sq ?_
 obtain ⟨y1, e1, e⟩ := Pu.bind_some e
 refine c_jn (I := fun tm H => ∃ (Z1 V1 : PH), Gw Z V Z1 V1 ∧ Sat Z1 V1 H [pts o1 (.rw 0 [(vi a1)])] ∧ tm 3 = (.bool y1)) (fun k1 => ?_) ?_
 ·refine d_start s1 fun n1 H3 s3 q1 d2 => ?_
  refine d_ldB (q1 _ _ (ph_some.2 ⟨s3.curB 0 rfl, by simp⟩)) 0 s3 rfl rfl rfl rfl ?_
  obtain ⟨x1, q2, e1⟩ := Pu.bind_some e1
  obtain ⟨Z2, V2, W1, g2, u1, c1, c2, -, c4, c3⟩ := Sat.call (l1 := []) s3
  refine d_call (mc rfl m0) (X.tree_Word nd.tree_Word c1 (hp1.mono (g2.v.trans u1)) q2) fun w1 H4 i1 k2 => ?_
  have d3 := d2.keep k2
  obtain ⟨_, rfl, s4⟩ := i1
  have s5 := c3 _ _ s4
  refine d_len rfl ((s5.curS (s := Sh.int) 0 rfl)).len ?_
  refine d_ldB (q1 _ _ (ph_some.2 ⟨s3.curB 1 rfl, by simp⟩)) 2 s5 rfl rfl rfl rfl ?_
  refine d_add rfl rfl ?_
  obtain ⟨x2, q3, e1⟩ := Pu.bind_some e1
  refine d_rem rfl rfl q3 ?_
  refine d_eql rfl rfl ?_
  refine d_mv (v := (.bool (decide (x2 = 0)))) rfl ?_
  rcases Bool.eq_false_or_eq_true (decide (x2 = 0)) with q4 | q4
  ·replace e1 := if_t q4 e1
   refine d_gn rfl q4 ?_
   refine d_gn rfl q4 ?_
   refine d_gn rfl q4 ?_
   refine d_pickt (a := (.bool true)) rfl q4 rfl ?_
   refine d_mv (v := (.bool true)) rfl ?_
   refine d_nil (dc_mk rfl (tra (tra (tra (tra (tra (tra (tra (tra (tra (tra (tre (trl (trl (trl tr0)))))))))))))) (tra (tra (tra (tra (tra (tra (tra (tra (tra (tra (tra (tra (tre (trl tr0)))))))))))))) (tra (tra (tra (tra (tra (tra (tra (tra (tra (tra (tra (tre (trl (trl tr0)))))))))))))) (ag_ldx (w := (vi a1)) w_0 rfl (ldB_v 2 s5 rfl rfl rfl) (ldB_v 1 s3 rfl rfl rfl) (by simp [vsame, vsame1])) (ag_ldx (w := (vi a1)) w_0 rfl (ldB_v 2 s5 rfl rfl rfl) (ldB_v 2 s5 rfl rfl rfl) (by simp [vsame, vsame1])) dc_nil) ?_
   obtain rfl := Option.some.inj e1
   exact k1 _ _ ⟨_, _, g2, (s5.pick [2] rfl), rfl⟩
  replace e1 := ib_f q4 e1
  refine d_want rfl q4 ?_
  refine d_ldB (q1 _ _ (ph_some.2 ⟨s3.curB 0 rfl, by simp⟩)) 1 s5 rfl rfl rfl rfl ?_
  refine d_want rfl q4 ?_
  obtain ⟨x3, q5, e1⟩ := Pu.bind_some e1
  obtain ⟨Z3, V3, W2, g3, u2, c5, c6, -, c8, c7⟩ := Sat.call (l1 := []) s5
  refine d_call (mc rfl m0) (X.tree_Size nd.tree_Size c5 (hp1.mono ((g2.trans g3).v.trans u2)) q5) fun _ H5 i2 k3 => ?_
  have d4 := d3.keep k3
  obtain ⟨rfl, s6⟩ := i2
  have s7 := c7 _ _ s6
  refine d_want rfl q4 ?_
  refine d_gtr rfl rfl ?_
  refine d_pickf (b := (.bool (decide (9 < x3)))) rfl q4 rfl ?_
  refine d_mv (v := (.bool (decide (9 < x3)))) rfl ?_
  refine d_nil (dc_mk rfl (tra (tra (tra (tra (tra (tra (tra (tra (tra (tra (tre (trl (trl (trl tr0)))))))))))))) (tra (tra (tra (tra (tra (tra (tra (tra (tra (tra (tra (tra (tre (trl tr0)))))))))))))) (tra (tra (tra (tra (tra (tra (tra (tra (tra (tra (tra (tre (trl (trl tr0)))))))))))))) (ag_ldx (w := (vi a1)) w_0 rfl (ldB_v 2 s5 rfl rfl rfl) (ldB_v 1 s3 rfl rfl rfl) (by simp [vsame, vsame1])) (ag_ldx (w := (vi a1)) w_0 rfl (ldB_v 2 s5 rfl rfl rfl) (ldB_v 2 s5 rfl rfl rfl) (by simp [vsame, vsame1])) dc_nil) ?_
  obtain rfl := Option.some.inj e1
  exact k1 _ _ ⟨_, _, (g2.trans g3), (s7.pick [2] rfl), rfl⟩
 intro _ H2 i3
 obtain ⟨Z1, V1, g1, s2, h1⟩ := i3
 refine c_rt ?_
 obtain rfl := Option.some.inj e
 exact ⟨.inr rfl, _, (ar1 h1), rfl, (s2.weak g1 hs.zv)⟩
/-! shrink_Tree__parlkeep5_ShrinkTree_1 -/
structure Nd.shrink_Tree__parlkeep5_ShrinkTree_1 (T : FuncId → Option AFunc) : Prop where
  own : Has T I.shrink_Tree F.shrink_Tree
  tree_Check : Nd.tree_Check T
  tree_Size : Nd.tree_Size T
  tree_Clone : Nd.tree_Clone T
  parlkeep5_ShrinkTree_1 : Nd.parlkeep5_ShrinkTree_1 T
  shrink_Smaller : Nd.shrink_Smaller T
set_option maxHeartbeats 1000000 in
theorem X.shrink_Tree__parlkeep5_ShrinkTree_1 {T : FuncId → Option AFunc} (nd : Nd.shrink_Tree__parlkeep5_ShrinkTree_1 T) {φ : Nat} {Z V : PH} {H : Hp} {v1 : Value} {v2 : Value} {o1 : Nat} {a0 : Ty.api_Grammar} {a1 : Ty.api_Tree} {a2c0 : Int} (hs : Sat Z V H [pts o1 (.rw 0 [(vi a2c0)])]) (hp1 : RdS Sh.api_Rule Z v1 a0.Rules) (hp2 : RdS Sh.api_Tree Z v2 a1.Kids) {r : (Ty.api_Tree × Int)} (e : P.shrink_Tree__parlkeep5_ShrinkTree_1 φ a0 a1 a2c0 = some r) :
    G T I.shrink_Tree [(.agg #[(vi a0.Terms), (vi a0.Nons), (vi a0.Start), v1]), (.agg #[(vi a1.Rule), (vi a1.Term), v2]), (.func (.func I.parlkeep5_ShrinkTree_1) #[] #[(.pointer (some ⟨o1, 0, none⟩))])] H (fun rv H' => ∃ (u1 : Value), rv = (.tuple #[(.agg #[(vi r.1.Rule), (vi r.1.Term), u1]), (vi r.2)]) ∧ Sat Z V H' [pts o1 (.rw 0 [(vi a2c0)]), Sh.it (Sh.ro (Sh.sl Sh.api_Tree)) [u1] r.1.Kids]) := by
 unfold P.shrink_Tree__parlkeep5_ShrinkTree_1 at e
 refine f_mk nd.own ?_
 refine c_sr ?_
 obtain ⟨d1, rfl⟩ := (hp1).val
 refine o_box hs rfl rfl fun b1 H1 s1 => ?_
 obtain ⟨d2, rfl⟩ := (hp2).val
 refine o_box s1 rfl rfl fun b2 H2 s2 => ?_
 refine o_new s2 fun b3 H3 s3 => ?_
 refine o_mv (v := (vi 0)) rfl ?_
 refine c_nil ?_
 refine c_sq ?_
 refine c_sr ?_
 refine o_ldB 2 s3 rfl rfl rfl rfl ?_
 refine o_ldB 1 s3 rfl rfl rfl rfl ?_
 obtain ⟨x1, q1, e⟩ := Pu.bind_some e
 obtain ⟨Z1, V1, W1, g1, u1, c1, c2, -, c4, c3⟩ := Sat.call (l1 := []) s3
 refine o_call (mc rfl (mc rfl m0)) (X.tree_Check nd.tree_Check c1 (hp1.mono (g1.z.trans c1.zv)) (hp2.mono (g1.z.trans c1.zv)) q1) fun _ H4 i1 => ?_
 obtain ⟨rfl, s4⟩ := i1
 have s5 := c3 _ _ s4
 refine o_mv (v := (vi x1)) rfl ?_
 refine c_nil ?_
 refine c_sr ?_
 refine o_mv (v := (vi x1)) rfl ?_
 refine o_neq rfl rfl ?_
 refine c_nil ?_
 refine c_gen (P := fun tm => tm 2 = (.func (.func I.parlkeep5_ShrinkTree_1) #[] #[(.pointer (some ⟨o1, 0, none⟩))]) ∧ tm 3 = (.pointer (some ⟨b1, 0, none⟩)) ∧ tm 4 = (.pointer (some ⟨b2, 0, none⟩)) ∧ tm 6 = (.pointer (some ⟨b3, 0, none⟩)) ∧ tm 8 = (vi x1) ∧ tm 16 = (.bool (decide (x1 ≠ 0))) ∧ True) ⟨rfl, rfl, rfl, rfl, rfl, rfl, trivial⟩ ?_
 intro _ i2
 obtain ⟨h1, h2, h3, h4, h5, h6, -⟩ := i2
 refine c_ifd h6 (fun q2 => ?_) (fun q2 => ?_)
 ·replace e := if_t q2 e
  refine c_sr ?_
  refine o_bld (qs := []) rfl rfl ?_
  refine o_mv (v := (vi x1)) h5 ?_
  refine o_stB (us' := [(vi 0), (vi 0), (.slice none 0 0)]) 0 s5 rfl h4 rfl rfl rfl rfl rfl fun H5 s6 => ?_
  refine o_mv (v := (vi x1)) rfl ?_
  refine c_nil ?_
  refine c_rt ?_
  obtain rfl := Option.some.inj e
  exact ⟨.inr rfl, _, (ra2 (rac 0 s6 rfl h4 rfl rfl) (rat rfl)), _, rfl, (((s6.push (ro_it (sl_ro RdS.nil))).pick [4, 0] rfl).weak g1 hs.zv)⟩
 replace e := if_f q2 e
 refine c_sk ?_
 refine c_sq ?_
 refine c_sr ?_
 refine o_ldB 1 s5 rfl h3 rfl rfl ?_
 obtain ⟨x2, q3, e⟩ := Pu.bind_some e
 obtain ⟨Z2, V2, W2, g2, u2, c5, c6, -, c8, c7⟩ := Sat.call (l1 := []) s5
 refine o_call (mc rfl m0) (X.tree_Size nd.tree_Size c5 (hp2.mono ((g1.trans g2).z.trans c5.zv)) q3) fun _ H6 i3 => ?_
 obtain ⟨rfl, s7⟩ := i3
 have s8 := c7 _ _ s7
 refine o_gtr rfl rfl ?_
 refine c_nil ?_
 refine c_ifd rfl (fun q4 => ?_) (fun q4 => ?_)
 ·replace e := if_t q4 e
  refine c_sr ?_
  refine o_bld (qs := []) rfl rfl ?_
  refine o_stB (us' := [(vi 0), (vi 0), (.slice none 0 0)]) 0 s8 rfl h4 rfl rfl rfl rfl rfl fun H7 s9 => ?_
  refine o_mv (v := (vi 2)) rfl ?_
  refine c_nil ?_
  refine c_rt ?_
  obtain rfl := Option.some.inj e
  exact ⟨.inr rfl, _, (ra2 (rac 0 s9 rfl h4 rfl rfl) (rat rfl)), _, rfl, (((s9.push (ro_it (sl_ro RdS.nil))).pick [4, 0] rfl).weak (g1.trans g2) hs.zv)⟩
 replace e := if_f q4 e
 refine c_sk ?_
 refine c_sq ?_
 refine c_sr ?_
 refine o_mv (v := (.func (.func I.parlkeep5_ShrinkTree_1) #[] #[(.pointer (some ⟨o1, 0, none⟩))])) h1 ?_
 refine o_ldB 1 s8 rfl h3 rfl rfl ?_
 obtain ⟨x3, q5, e⟩ := Pu.bind_some e
 obtain ⟨Z3, V3, W3, g3, u3, c9, c10, -, c12, c11⟩ := Sat.call (l1 := []) s8
 refine o_call (mc rfl m0) (X.tree_Clone nd.tree_Clone c9 (hp2.mono ((g1.trans g2).trans g3).z) q5) fun _ H8 i4 => ?_
 obtain ⟨w1, rfl, s10⟩ := i4
 have s11 := c11 _ _ s10
 obtain ⟨x4, q6, e⟩ := Pu.bind_some e
 obtain ⟨Z4, V4, W4, g4, u4, c13, c14, -, c16, c15⟩ := Sat.call (l1 := [pts o1 (.rw 0 [(vi a2c0)])]) (l2 := [It.sl (Sh.ro Sh.api_Tree) w1 x3.Kids, pts b3 (.rw 0 [(vi 0), (vi 0), (.slice none 0 0)]), pts b2 (.rw 0 [(vi a1.Rule), (vi a1.Term), (.slice d2 a1.Kids.length a1.Kids.length)]), pts b1 (.rw 0 [(vi a0.Terms), (vi a0.Nons), (vi a0.Start), (.slice d1 a0.Rules.length a0.Rules.length)])]) (s11.pick [4, 0, 1, 2, 3] rfl)
 refine o_callv rfl (mc rfl m0) (X.parlkeep5_ShrinkTree_1 nd.parlkeep5_ShrinkTree_1 (a1 := a2c0) c13 (c14 0 _ (Sh.ro Sh.api_Tree) _ _ rfl) q6) fun _ H9 i5 => ?_
 obtain ⟨rfl, s12⟩ := i5
 have s13 := c15 _ _ s12
 refine o_not rfl ?_
 refine c_nil ?_
 refine c_if rfl (fun q7 => ?_) (fun q7 => ?_)
 ·replace e := if_t q7 e
  refine c_sr ?_
  refine o_bld (qs := []) rfl rfl ?_
  refine o_stB (us' := [(vi 0), (vi 0), (.slice none 0 0)]) 2 s13 rfl h4 rfl rfl rfl rfl rfl fun H10 s14 => ?_
  refine o_mv (v := (vi 7)) rfl ?_
  refine c_nil ?_
  refine c_gen (P := fun tm => tm 6 = (.pointer (some ⟨b3, 0, none⟩)) ∧ tm 7 = (vi 7) ∧ True) ⟨h4, rfl, trivial⟩ ?_
  intro _ i6
  obtain ⟨h7, h8, -⟩ := i6
  refine c_rt ?_
  obtain rfl := Option.some.inj e
  exact ⟨.inr rfl, _, (ra2 (rac 2 s14 rfl h7 rfl rfl) (rat h8)), _, rfl, (((s14.push (ro_it (sl_ro RdS.nil))).pick [1, 0] rfl).weak (g1.trans (g2.trans (g3.trans g4))) hs.zv)⟩
 replace e := ib_f q7 e
 refine c_sk ?_
 refine c_sr ?_
 refine o_ldB 3 s13 rfl h3 rfl rfl ?_
 obtain ⟨x5, q8, e⟩ := Pu.bind_some e
 obtain ⟨Z5, V5, W5, g5, u5, c17, c18, -, c20, c19⟩ := Sat.call (l1 := []) s13
 refine o_call (mc rfl m0) (X.tree_Clone nd.tree_Clone c17 (hp2.mono ((g1.trans (g2.trans (g3.trans g4))).trans g5).z) q8) fun _ H11 i7 => ?_
 obtain ⟨w2, rfl, s15⟩ := i7
 have s16 := c19 _ _ s15
 obtain ⟨d3, rfl⟩ := ((s16.curS (s := (Sh.ro Sh.api_Tree)) 0 rfl)).val
 refine o_stB (us' := [(vi x5.Rule), (vi x5.Term), (.slice d3 x5.Kids.length x5.Kids.length)]) 4 s16 rfl h3 rfl rfl rfl rfl rfl fun H12 s17 => ?_
 refine c_nil ?_
 refine c_gen (P := fun tm => tm 2 = (.func (.func I.parlkeep5_ShrinkTree_1) #[] #[(.pointer (some ⟨o1, 0, none⟩))]) ∧ tm 3 = (.pointer (some ⟨b1, 0, none⟩)) ∧ tm 4 = (.pointer (some ⟨b2, 0, none⟩)) ∧ tm 6 = (.pointer (some ⟨b3, 0, none⟩)) ∧ True) ⟨h1, h2, h3, h4, trivial⟩ ?_
 intro _ i8
 obtain ⟨h9, h10, h11, h12, -⟩ := i8
 refine c_sq ?_
 refine c_sr ?_
 refine o_mv (v := (.bool true)) rfl ?_
 refine c_nil ?_
 obtain ⟨Z6, V6, g6, s18, h13⟩ := s17.frzS 0 rfl
 replace h13 := h13.of_ro
 obtain ⟨y1, q11, e⟩ := Pu.bind_some e
 refine c_jn (I := fun tm H => ∃ (s21 : (Int × Int × (List Ty.api_Tree) × Bool)), y1 = .out s21 ∧ (∃ (Z8 V8 : PH) (w4 : Value), Gw Z6 V6 Z8 V8 ∧ Sat Z8 V8 H [pts o1 (.rw 0 [(vi a2c0)]), pts b1 (.rw 0 [(vi a0.Terms), (vi a0.Nons), (vi a0.Start), (.slice d1 a0.Rules.length a0.Rules.length)]), pts b2 (.rw 0 [(vi s21.1), (vi s21.2.1), w4]), pts b3 (.rw 0 [(vi 0), (vi 0), (.slice none 0 0)])] ∧ tm 2 = (.func (.func I.parlkeep5_ShrinkTree_1) #[] #[(.pointer (some ⟨o1, 0, none⟩))]) ∧ tm 3 = (.pointer (some ⟨b1, 0, none⟩)) ∧ tm 4 = (.pointer (some ⟨b2, 0, none⟩)) ∧ tm 6 = (.pointer (some ⟨b3, 0, none⟩)) ∧ tm 9 = (.bool s21.2.2.2) ∧ RdS Sh.api_Tree Z8 w4 s21.2.2.1)) (fun k4 => ?_) ?_
 ·refine c_bk ?_
  refine l_whl (fun (s19 : (Int × Int × (List Ty.api_Tree) × Bool)) tm H => ∃ (Z7 V7 : PH) (w3 : Value), Gw Z6 V6 Z7 V7 ∧ Sat Z7 V7 H [pts o1 (.rw 0 [(vi a2c0)]), pts b1 (.rw 0 [(vi a0.Terms), (vi a0.Nons), (vi a0.Start), (.slice d1 a0.Rules.length a0.Rules.length)]), pts b2 (.rw 0 [(vi s19.1), (vi s19.2.1), w3]), pts b3 (.rw 0 [(vi 0), (vi 0), (.slice none 0 0)])] ∧ tm 2 = (.func (.func I.parlkeep5_ShrinkTree_1) #[] #[(.pointer (some ⟨o1, 0, none⟩))]) ∧ tm 3 = (.pointer (some ⟨b1, 0, none⟩)) ∧ tm 4 = (.pointer (some ⟨b2, 0, none⟩)) ∧ tm 6 = (.pointer (some ⟨b3, 0, none⟩)) ∧ tm 9 = (.bool s19.2.2.2) ∧ RdS Sh.api_Tree Z7 w3 s19.2.2.1) (fun s19 y2 tm H14 j1 e1 k1 k2 k3 => ?_) q11 ⟨_, _, _, Gw.refl _ _, (s18.pick [0, 4, 3, 2] rfl), h9, h10, h11, h12, rfl, h13⟩
  obtain ⟨Z7, V7, w3, g7, s20, h15, h16, h17, h18, h19, h14⟩ := j1
  unfold P.shrink_Tree__parlkeep5_ShrinkTree_1.b0 at e1
  refine c_sq ?_
  refine c_sr ?_
  refine o_mv (v := (.bool s19.2.2.2)) h19 ?_
  refine c_nil ?_
  refine c_if rfl (fun q12 => ?_) (fun q12 => ?_)
  ·replace e1 := if_t q12 e1
   refine c_sk ?_
   refine c_bk ?_
   refine c_sr ?_
   refine o_mv (v := (.bool false)) rfl ?_
   refine c_nil ?_
   refine c_sr ?_
   refine o_ldB 1 s20 rfl h16 rfl rfl ?_
   obtain ⟨d4, rfl⟩ := (h14).val
   refine o_ldB 2 s20 rfl h17 rfl rfl ?_
   obtain ⟨x7, q13, e1⟩ := Pu.bind_some e1
   obtain ⟨Z9, V9, W6, g9, u6, c21, c22, -, c24, c23⟩ := Sat.call (l1 := []) s20
   refine o_call (mc rfl (mc rfl m0)) (X.shrink_Smaller nd.shrink_Smaller (a1 := (Ty.api_Tree.mk s19.1 s19.2.1 s19.2.2.1)) c21 (hp1.mono ((g1.trans (g2.trans (g3.trans (g4.trans (g5.trans (g6.trans g7)))))).trans g9).z) (h14.mono g9.z) q13) fun w5 H16 i10 => ?_
   obtain ⟨_, rfl, s23⟩ := i10
   have s24 := c23 _ _ s23
   refine o_len rfl ((s24.curS (s := (Sh.ro Sh.api_Tree)) 0 rfl)).len ?_
   refine o_mv (v := (vi 0)) rfl ?_
   refine c_nil ?_
   obtain ⟨y3, q16, e1⟩ := Pu.bind_some e1
   refine c_jn (I := fun tm H => ∃ (s27 : (Int × Int × (List Ty.api_Tree) × Bool)), y3 = .out s27 ∧ (∃ (Z11 V11 : PH) (w7 : Value), Gw Z9 V9 Z11 V11 ∧ Sat Z11 V11 H [pts o1 (.rw 0 [(vi a2c0)]), pts b1 (.rw 0 [(vi a0.Terms), (vi a0.Nons), (vi a0.Start), (.slice d1 a0.Rules.length a0.Rules.length)]), pts b2 (.rw 0 [(vi s27.1), (vi s27.2.1), w7]), pts b3 (.rw 0 [(vi 0), (vi 0), (.slice none 0 0)]), It.sl (Sh.ro Sh.api_Tree) w5 x7] ∧ tm 2 = (.func (.func I.parlkeep5_ShrinkTree_1) #[] #[(.pointer (some ⟨o1, 0, none⟩))]) ∧ tm 3 = (.pointer (some ⟨b1, 0, none⟩)) ∧ tm 4 = (.pointer (some ⟨b2, 0, none⟩)) ∧ tm 6 = (.pointer (some ⟨b3, 0, none⟩)) ∧ tm 9 = (.bool s27.2.2.2) ∧ tm 34 = w5 ∧ tm 35 = (vi (x7.length : Int)) ∧ RdS Sh.api_Tree Z11 w7 s27.2.2.1)) (fun k8 => ?_) ?_
   ·refine c_bk ?_
    refine l_forL (xs := x7) (fun (i11 : Nat) (s25 : (Int × Int × (List Ty.api_Tree) × Bool)) tm H => tm 36 = vi i11 ∧ ∃ (Z10 V10 : PH) (w6 : Value), Gw Z9 V9 Z10 V10 ∧ Sat Z10 V10 H [pts o1 (.rw 0 [(vi a2c0)]), pts b1 (.rw 0 [(vi a0.Terms), (vi a0.Nons), (vi a0.Start), (.slice d1 a0.Rules.length a0.Rules.length)]), pts b2 (.rw 0 [(vi s25.1), (vi s25.2.1), w6]), pts b3 (.rw 0 [(vi 0), (vi 0), (.slice none 0 0)]), It.sl (Sh.ro Sh.api_Tree) w5 x7] ∧ tm 2 = (.func (.func I.parlkeep5_ShrinkTree_1) #[] #[(.pointer (some ⟨o1, 0, none⟩))]) ∧ tm 3 = (.pointer (some ⟨b1, 0, none⟩)) ∧ tm 4 = (.pointer (some ⟨b2, 0, none⟩)) ∧ tm 6 = (.pointer (some ⟨b3, 0, none⟩)) ∧ tm 9 = (.bool s25.2.2.2) ∧ tm 34 = w5 ∧ tm 35 = (vi (x7.length : Int)) ∧ RdS Sh.api_Tree Z10 w6 s25.2.2.1) (fun i11 x8 s25 y4 tm H18 q14 q15 j2 e2 k5 k6 k7 => ?_) (fun s25 tm H17 jf jd => ?_) q16 ⟨rfl, _, _, _, Gw.refl _ _, (s24.pick [1, 2, 3, 4, 0] rfl), h15, h16, h17, h18, rfl, rfl, rfl, (h14.mono g9.z)⟩
    ·obtain ⟨hti1, Z10, V10, w6, g10, s26, h27, h28, h29, h30, h31, h32, h33, h26⟩ := j2
     unfold P.shrink_Tree__parlkeep5_ShrinkTree_1.b1 at e2
     refine c_sr ?_
     refine o_lss hti1 h33 ?_
     refine c_nil ?_
     refine c_sq ?_
     refine c_ift rfl (Int.ofNat_lt.2 q15) ?_
     refine c_sk ?_
     refine c_sq ?_
     refine c_bk ?_
     refine c_sr ?_
     refine o_idx (v := w5) h32 hti1 (s26.curS (s := (Sh.ro Sh.api_Tree)) 4 rfl) rfl (Pu.ix_nat.trans q14) fun p1 q17 => ?_
     refine o_ldoa (p := p1) 4 s26 rfl rfl rfl q17 (Pu.ix_nat.trans q14) fun Z12 V12 c25 g12 s29 h42 => ?_
     obtain ⟨w8, rfl, h43⟩ := Sh.api_Tree_op h42
     refine o_new s29 fun b4 H20 s30 => ?_
     obtain ⟨d5, rfl⟩ := (h43).val
     refine o_stB (us' := [(vi x8.Rule), (vi x8.Term), (.slice d5 x8.Kids.length x8.Kids.length)]) 0 s30 rfl rfl rfl rfl rfl rfl rfl fun H21 s31 => ?_
     refine c_nil ?_
     refine c_sr ?_
     refine o_mv (v := (.func (.func I.parlkeep5_ShrinkTree_1) #[] #[(.pointer (some ⟨o1, 0, none⟩))])) h27 ?_
     refine o_ldB 0 s31 rfl rfl rfl rfl ?_
     obtain ⟨x9, q18, e2⟩ := Pu.bind_some e2
     obtain ⟨Z13, V13, W7, g13, u7, c26, c27, -, c29, c28⟩ := Sat.call (l1 := []) s31
     refine o_call (mc rfl m0) (X.tree_Clone nd.tree_Clone c26 (h43.mono g13.z) q18) fun _ H22 i12 => ?_
     obtain ⟨w9, rfl, s32⟩ := i12
     have s33 := c28 _ _ s32
     obtain ⟨x10, q19, e2⟩ := Pu.bind_some e2
     obtain ⟨Z14, V14, W8, g14, u8, c30, c31, -, c33, c32⟩ := Sat.call (l1 := [pts o1 (.rw 0 [(vi a2c0)])]) (l2 := [It.sl (Sh.ro Sh.api_Tree) w9 x9.Kids, pts b4 (.rw 0 [(vi x8.Rule), (vi x8.Term), (.slice d5 x8.Kids.length x8.Kids.length)]), pts b1 (.rw 0 [(vi a0.Terms), (vi a0.Nons), (vi a0.Start), (.slice d1 a0.Rules.length a0.Rules.length)]), pts b2 (.rw 0 [(vi s25.1), (vi s25.2.1), w6]), pts b3 (.rw 0 [(vi 0), (vi 0), (.slice none 0 0)]), It.sl (Sh.ro Sh.api_Tree) w5 x7]) (s33.pick [2, 0, 1, 3, 4, 5, 6] rfl)
     refine o_callv rfl (mc rfl m0) (X.parlkeep5_ShrinkTree_1 nd.parlkeep5_ShrinkTree_1 (a1 := a2c0) c30 (c31 0 _ (Sh.ro Sh.api_Tree) _ _ rfl) q19) fun _ H23 i13 => ?_
     obtain ⟨rfl, s34⟩ := i13
     have s35 := c32 _ _ s34
     refine c_nil ?_
     refine c_if rfl (fun q20 => ?_) (fun q20 => ?_)
     ·replace e2 := if_t q20 e2
      refine c_sr ?_
      refine o_ldB 2 s35 rfl rfl rfl rfl ?_
      obtain ⟨d6, rfl⟩ := ((h26.mono (g12.trans (g13.trans g14)).z)).val
      refine o_stB (us' := [(vi x8.Rule), (vi x8.Term), (.slice d5 x8.Kids.length x8.Kids.length)]) 4 s35 rfl h29 rfl rfl rfl rfl rfl fun H24 s36 => ?_
      refine o_mv (v := (.bool true)) rfl ?_
      refine c_nil ?_
      refine c_gen (P := fun tm => tm 2 = (.func (.func I.parlkeep5_ShrinkTree_1) #[] #[(.pointer (some ⟨o1, 0, none⟩))]) ∧ tm 3 = (.pointer (some ⟨b1, 0, none⟩)) ∧ tm 4 = (.pointer (some ⟨b2, 0, none⟩)) ∧ tm 6 = (.pointer (some ⟨b3, 0, none⟩)) ∧ tm 9 = (.bool true) ∧ tm 34 = w5 ∧ tm 35 = (vi (x7.length : Int)) ∧ tm 36 = (vi (i11 : Int)) ∧ True) ⟨h27, h28, h29, h30, rfl, h32, h33, hti1, trivial⟩ ?_
      intro _ i14
      obtain ⟨h44, h45, h46, h47, h48, h49, h50, h51, -⟩ := i14
      refine c_ex ?_
      refine e_f rfl ?_
      refine e_c ?_
      refine e_c ?_
      refine e_h ?_
      exact k8 _ _ ⟨_, k6 _ (Option.some.inj e2).symm, _, _, _, (g10.trans (g12.trans (g13.trans g14))), (s36.pick [0, 3, 4, 5, 6] rfl), h44, h45, h46, h47, h48, h49, h50, (h43.mono (g13.trans g14).z)⟩
     replace e2 := ib_f q20 e2
     refine c_sk ?_
     refine c_end ?_
     refine c_r ?_
     refine o_add hti1 rfl ?_
     refine o_mv (v := (vi (Pu.W ((i11 : Int) + 1)))) rfl ?_
     refine c_nil ?_
     exact k5 _ _ _ (Option.some.inj e2).symm ⟨(iv rfl (w_suc q15 ((s24.curS (s := (Sh.ro Sh.api_Tree)) 0 rfl)).bd)), _, _, _, (g10.trans (g12.trans (g13.trans g14))), (s35.pick [0, 3, 4, 5, 6] rfl), h27, h28, h29, h30, h31, h32, h33, (h26.mono (g12.trans (g13.trans g14)).z)⟩
    ·obtain ⟨hte1, Z15, V15, w10, g15, s37, h53, h54, h55, h56, h57, h58, h59, h52⟩ := jd
     refine c_sr ?_
     refine o_lss hte1 h59 ?_
     refine c_nil ?_
     refine c_sq ?_
     refine c_iff rfl (Int.lt_irrefl _) ?_
     refine c_ex ?_
     refine e_c ?_
     refine e_c ?_
     refine e_h ?_
     exact k8 _ _ ⟨_, jf, _, _, _, g15, s37, h53, h54, h55, h56, h57, h58, h59, h52⟩
   intro _ H19 i15
   obtain ⟨s27, f1, Z11, V11, w7, g11, s28, h35, h36, h37, h38, h39, h40, h41, h34⟩ := i15
   replace e1 := fin_o f1 e1
   refine c_end ?_
   exact k1 _ _ _ (Option.some.inj e1).symm ⟨_, _, _, (g7.trans (g9.trans g11)), (s28.pick [0, 1, 2, 3] rfl), h35, h36, h37, h38, h39, h34⟩
  replace e1 := ib_f q12 e1
  refine c_ex ?_
  refine e_c ?_
  refine e_c ?_
  refine e_h ?_
  exact k4 _ _ ⟨_, k2 _ (Option.some.inj e1).symm, _, _, _, g7, s20, h15, h16, h17, h18, h19, h14⟩
 intro _ H15 i16
 obtain ⟨s21, f2, Z8, V8, w4, g8, s22, h21, h22, h23, h24, h25, h20⟩ := i16
 replace e := fin_o f2 e
 refine c_sr ?_
 obtain ⟨d7, rfl⟩ := (h20).val
 refine o_ldB 2 s22 rfl h23 rfl rfl ?_
 refine o_stB (us' := [(vi s21.1), (vi s21.2.1), (.slice d7 s21.2.2.1.length s21.2.2.1.length)]) 3 s22 rfl h24 rfl rfl rfl rfl rfl fun H26 s38 => ?_
 refine o_mv (v := (vi 0)) rfl ?_
 refine c_nil ?_
 refine c_rt ?_
 obtain rfl := Option.some.inj e
 exact ⟨.inr rfl, _, (ra2 (rac 3 s38 rfl h24 rfl rfl) (rat rfl)), _, rfl, (((s38.push (ro_it (sl_ro h20))).pick [1, 0] rfl).weak (g1.trans (g2.trans (g3.trans (g4.trans (g5.trans (g6.trans g8)))))) hs.zv)⟩
/-! parlkeep5_ShrinkTree -/
structure Nd.parlkeep5_ShrinkTree (T : FuncId → Option AFunc) : Prop where
  own : Has T I.parlkeep5_ShrinkTree F.parlkeep5_ShrinkTree
  parlmake_Grammar : Nd.parlmake_Grammar T
  parlkeep5_plain : Nd.parlkeep5_plain T
  shrink_Smaller : Nd.shrink_Smaller T
  parlmake_Tree : Nd.parlmake_Tree T
  tree_Size : Nd.tree_Size T
  parlkeep5_below : Nd.parlkeep5_below T
  shrink_Tree__parlkeep5_ShrinkTree_1 : Nd.shrink_Tree__parlkeep5_ShrinkTree_1 T
  parlkeep5_ShrinkTree_1 : Nd.parlkeep5_ShrinkTree_1 T
  tree_Check : Nd.tree_Check T
set_option maxHeartbeats 1000000 in
theorem X.parlkeep5_ShrinkTree {T : FuncId → Option AFunc} (nd : Nd.parlkeep5_ShrinkTree T) {φ : Nat} {Z V : PH} {H : Hp} {v1 : Value} {v2 : Value} {a0 : (List Int)} {a1 : (List Int)} {a2 : Int} (hs : Sat Z V H []) (hp1 : RdS Sh.int Z v1 a0) (hp2 : RdS Sh.int Z v2 a1) {r : Bool} (e : P.parlkeep5_ShrinkTree φ a0 a1 a2 = some r) :
    G T I.parlkeep5_ShrinkTree [v1, v2, (vi a2)] H (fun rv H' => rv = (.bool r) ∧ Sat Z V H' []) := by
 unfold P.parlkeep5_ShrinkTree at e
 refine f_mk nd.own ?_
 refine c_sr ?_
 refine o_box hs rfl rfl fun b1 H1 s1 => ?_
 refine o_mv (v := (.bool false)) rfl ?_
 refine c_nil ?_
 refine c_sr ?_
 refine o_mv (v := v1) rfl ?_
 obtain ⟨x1, q1, e⟩ := Pu.bind_some e
 obtain ⟨Z1, V1, W1, g1, u1, c1, c2, -, c4, c3⟩ := Sat.call (l1 := []) s1
 refine o_call (mc rfl m0) (X.parlmake_Grammar nd.parlmake_Grammar c1 (hp1.mono g1.z) q1) fun _ H2 i1 => ?_
 obtain ⟨w1, rfl, s2⟩ := i1
 have s3 := c3 _ _ s2
 refine o_new s3 fun b2 H3 s4 => ?_
 obtain ⟨d1, rfl⟩ := ((s4.curS (s := (Sh.ro Sh.api_Rule)) 1 rfl)).val
 refine o_stB (us' := [(vi x1.Terms), (vi x1.Nons), (vi x1.Start), (.slice d1 x1.Rules.length x1.Rules.length)]) 0 s4 rfl rfl rfl rfl rfl rfl rfl fun H4 s5 => ?_
 refine c_nil ?_
 refine c_sq ?_
 refine c_sr ?_
 obtain ⟨x2, q2, e⟩ := Pu.bind_some e
 obtain ⟨Z2, V2, W2, g2, u2, c5, c6, -, c8, c7⟩ := Sat.call (l1 := []) s5
 refine o_call m0 (X.parlkeep5_plain nd.parlkeep5_plain c5 q2) fun _ H5 i2 => ?_
 obtain ⟨w2, rfl, s6⟩ := i2
 have s7 := c7 _ _ s6
 refine o_bld (qs := [(0, 1, (vi (-1))), (1, 1, (vi 1))]) rfl rfl ?_
 refine o_bld (qs := [(0, 1, (vi (-1)))]) rfl rfl ?_
 refine o_bsl (s := (Sh.ro Sh.api_Tree)) (us := [(vi (-1)), (vi 0), (.slice none 0 0)]) (qs := [(0, 3, (.agg #[(vi (-1)), (vi 0), (.slice none 0 0)]))]) (xs := [(Ty.api_Tree.mk (-1) 0 [])]) s7 (Sh.ro_lt _) rfl rfl rfl (Els.cons (c := [(vi (-1)), (vi 0), (.slice none 0 0)]) (Sh.api_Tree_cl (x := (Ty.api_Tree.mk (-1) 0 [])) RdS.nil) Els.nil) rfl rfl fun w3 H6 s8 => ?_
 obtain ⟨d2, rfl⟩ := ((s8.curS (s := (Sh.ro Sh.api_Tree)) 0 rfl)).val
 refine o_bld (qs := [(2, 1, (.slice d2 [(Ty.api_Tree.mk (-1) 0 [])].length [(Ty.api_Tree.mk (-1) 0 [])].length))]) rfl rfl ?_
 obtain ⟨Z3, V3, g3, s9, h1⟩ := s8.frzS 0 rfl
 replace h1 := h1.of_ro
 refine o_bsl (s := (Sh.ro Sh.api_Tree)) (us := [(vi (-1)), (vi 1), (.slice none 0 0), (vi 0), (vi 0), (.slice d2 [(Ty.api_Tree.mk (-1) 0 [])].length [(Ty.api_Tree.mk (-1) 0 [])].length)]) (qs := [(0, 3, (.agg #[(vi (-1)), (vi 1), (.slice none 0 0)])), (3, 3, (.agg #[(vi 0), (vi 0), (.slice d2 [(Ty.api_Tree.mk (-1) 0 [])].length [(Ty.api_Tree.mk (-1) 0 [])].length)]))]) (xs := [(Ty.api_Tree.mk (-1) 1 []), (Ty.api_Tree.mk 0 0 [(Ty.api_Tree.mk (-1) 0 [])])]) s9 (Sh.ro_lt _) rfl rfl rfl (Els.cons (c := [(vi (-1)), (vi 1), (.slice none 0 0)]) (Sh.api_Tree_cl (x := (Ty.api_Tree.mk (-1) 1 [])) RdS.nil) (Els.cons (c := [(vi 0), (vi 0), (.slice d2 [(Ty.api_Tree.mk (-1) 0 [])].length [(Ty.api_Tree.mk (-1) 0 [])].length)]) (Sh.api_Tree_cl (x := (Ty.api_Tree.mk 0 0 [(Ty.api_Tree.mk (-1) 0 [])])) h1) Els.nil)) rfl rfl fun w4 H7 s10 => ?_
 obtain ⟨d3, rfl⟩ := ((s10.curS (s := (Sh.ro Sh.api_Tree)) 0 rfl)).val
 refine o_bld (qs := [(0, 1, (vi 1)), (2, 1, (.slice d3 [(Ty.api_Tree.mk (-1) 1 []), (Ty.api_Tree.mk 0 0 [(Ty.api_Tree.mk (-1) 0 [])])].length [(Ty.api_Tree.mk (-1) 1 []), (Ty.api_Tree.mk 0 0 [(Ty.api_Tree.mk (-1) 0 [])])].length))]) rfl rfl ?_
 obtain ⟨Z4, V4, g4, s11, h2⟩ := s10.frzS 1 rfl
 replace h2 := h2.of_ro
 obtain ⟨Z5, V5, g5, s12, h3⟩ := s11.frzS 0 rfl
 replace h3 := h3.of_ro
 obtain ⟨x3, q3, e⟩ := Pu.bind_some e
 obtain ⟨Z6, V6, W3, g6, u3, c9, c10, -, c12, c11⟩ := Sat.call (l1 := []) s12
 refine o_call (mc rfl (mc rfl m0)) (X.shrink_Smaller nd.shrink_Smaller (a1 := (Ty.api_Tree.mk 1 0 [(Ty.api_Tree.mk (-1) 1 []), (Ty.api_Tree.mk 0 0 [(Ty.api_Tree.mk (-1) 0 [])])])) c9 (h2.mono (g5.trans g6).z) (h3.mono g6.z) q3) fun w5 H8 i3 => ?_
 obtain ⟨_, rfl, s13⟩ := i3
 have s14 := c11 _ _ s13
 refine o_mv (v := w5) rfl ?_
 refine c_nil ?_
 refine c_gen (P := fun tm => tm 1 = v2 ∧ tm 5 = (.pointer (some ⟨b1, 0, none⟩)) ∧ tm 7 = (.pointer (some ⟨b2, 0, none⟩)) ∧ tm 8 = w5 ∧ True) ⟨rfl, rfl, rfl, rfl, trivial⟩ ?_
 intro _ i4
 obtain ⟨h4, h5, h6, h7, -⟩ := i4
 refine c_sr ?_
 refine o_mv (v := w5) h7 ?_
 refine o_len rfl ((s14.curS (s := (Sh.ro Sh.api_Tree)) 0 rfl)).len ?_
 refine o_neq rfl rfl ?_
 refine c_nil ?_
 refine c_ifd rfl (fun q4 => ?_) (fun q4 => ?_)
 ·replace e := if_t q4 e
  refine c_sr ?_
  refine o_mv (v := (.bool false)) rfl ?_
  refine c_nil ?_
  refine c_rt ?_
  obtain rfl := Option.some.inj e
  exact ⟨.inr rfl, _, (ar1 rfl), rfl, ((s14.pick [] rfl).weak (g1.trans (g2.trans (g3.trans (g4.trans (g5.trans g6))))) hs.zv)⟩
 replace e := if_f q4 e
 refine c_sk ?_
 refine c_sr ?_
 refine o_ldB 1 s14 rfl h6 rfl rfl ?_
 refine o_mv (v := v2) h4 ?_
 obtain ⟨Z7, V7, g7, s15, h8⟩ := s14.frzS 2 rfl
 replace h8 := h8.of_ro
 obtain ⟨x4, q5, e⟩ := Pu.bind_some e
 obtain ⟨Z8, V8, W4, g8, u4, c13, c14, -, c16, c15⟩ := Sat.call (l1 := []) s15
 refine o_call (mc rfl (mc rfl m0)) (X.parlmake_Tree nd.parlmake_Tree c13 (h8.mono g8.z) (hp2.mono ((g1.trans (g2.trans (g3.trans (g4.trans (g5.trans (g6.trans g7)))))).trans g8).z) q5) fun _ H9 i5 => ?_
 obtain ⟨w6, rfl, s16⟩ := i5
 have s17 := c15 _ _ s16
 refine o_mv (v := (.tuple #[(.agg #[(vi x4.1.Rule), (vi x4.1.Term), w6]), (.bool x4.2)])) rfl ?_
 refine o_ext rfl rfl ?_
 refine o_ext rfl rfl ?_
 refine o_new s17 fun b3 H10 s18 => ?_
 obtain ⟨d4, rfl⟩ := ((s18.curS (s := (Sh.ro Sh.api_Tree)) 1 rfl)).val
 refine o_stB (us' := [(vi x4.1.Rule), (vi x4.1.Term), (.slice d4 x4.1.Kids.length x4.1.Kids.length)]) 0 s18 rfl rfl rfl rfl rfl rfl rfl fun H11 s19 => ?_
 refine o_mv (v := (.bool x4.2)) rfl ?_
 refine c_nil ?_
 refine c_gen (P := fun tm => tm 5 = (.pointer (some ⟨b1, 0, none⟩)) ∧ tm 7 = (.pointer (some ⟨b2, 0, none⟩)) ∧ tm 9 = (.pointer (some ⟨b3, 0, none⟩)) ∧ tm 10 = (.bool x4.2) ∧ True) ⟨h5, h6, rfl, rfl, trivial⟩ ?_
 intro _ i6
 obtain ⟨h9, h10, h11, h12, -⟩ := i6
 refine c_sq ?_
 refine c_sr ?_
 refine o_mv (v := (.bool x4.2)) h12 ?_
 refine o_not rfl ?_
 refine o_mv (v := (.bool (!x4.2))) rfl ?_
 obtain ⟨y1, e1, e⟩ := Pu.bind_some e
 refine o_jn 4 (I := fun tm H => ∃ (Z9 V9 : PH), Gw Z8 V8 Z9 V9 ∧ Sat Z9 V9 H [pts b1 (.rw 0 [(vi a2)]), pts b2 (.rw 0 [(vi x1.Terms), (vi x1.Nons), (vi x1.Start), (.slice d1 x1.Rules.length x1.Rules.length)]), pts b3 (.rw 0 [(vi x4.1.Rule), (vi x4.1.Term), (.slice d4 x4.1.Kids.length x4.1.Kids.length)]), It.sl (Sh.ro Sh.api_Tree) (.slice d4 x4.1.Kids.length x4.1.Kids.length) x4.1.Kids] ∧ tm 5 = (.pointer (some ⟨b1, 0, none⟩)) ∧ tm 7 = (.pointer (some ⟨b2, 0, none⟩)) ∧ tm 9 = (.pointer (some ⟨b3, 0, none⟩)) ∧ tm 41 = (.bool y1)) (fun k1 => ?_) ?_
 ·rcases Bool.eq_false_or_eq_true (!x4.2) with q6 | q6
  ·replace e1 := if_t q6 e1
   refine o_gn rfl q6 ?_
   refine o_gn rfl q6 ?_
   refine o_gn rfl q6 ?_
   refine o_pickt (a := (.bool true)) rfl q6 rfl ?_
   obtain rfl := Option.some.inj e1
   exact k1 _ _ ⟨_, _, Gw.refl _ _, (s19.pick [4, 3, 0, 1] rfl), h9, h10, h11, rfl⟩
  replace e1 := ib_f q6 e1
  refine o_gy rfl q6 ?_
  refine o_ldB 0 s19 rfl h11 rfl rfl ?_
  refine o_gy rfl q6 ?_
  obtain ⟨x5, q7, e1⟩ := Pu.bind_some e1
  obtain ⟨Z10, V10, W5, g10, u5, c17, c18, -, c20, c19⟩ := Sat.call (l1 := []) s19
  refine o_call (mc rfl m0) (X.tree_Size nd.tree_Size c17 (c18 1 _ (Sh.ro Sh.api_Tree) _ _ rfl) q7) fun _ H13 i7 => ?_
  obtain ⟨rfl, s21⟩ := i7
  have s22 := c19 _ _ s21
  refine o_gy rfl q6 ?_
  refine o_gtr rfl rfl ?_
  refine o_pickf (b := (.bool (decide (60 < x5)))) rfl q6 rfl ?_
  obtain rfl := Option.some.inj e1
  exact k1 _ _ ⟨_, _, g10, (s22.pick [4, 3, 0, 1] rfl), h9, h10, h11, rfl⟩
 intro _ H12 i8
 obtain ⟨Z9, V9, g9, s20, h13, h14, h15, h16⟩ := i8
 refine c_nil ?_
 refine c_if h16 (fun q8 => ?_) (fun q8 => ?_)
 ·replace e := if_t q8 e
  refine c_sr ?_
  refine o_mv (v := (.bool true)) rfl ?_
  refine c_nil ?_
  refine c_rt ?_
  obtain rfl := Option.some.inj e
  exact ⟨.inr rfl, _, (ar1 rfl), rfl, ((s20.pick [] rfl).weak (g1.trans (g2.trans (g3.trans (g4.trans (g5.trans (g6.trans (g7.trans (g8.trans g9)))))))) hs.zv)⟩
 replace e := ib_f q8 e
 refine c_sk ?_
 refine c_sr ?_
 refine o_ldB 0 s20 rfl h13 rfl rfl ?_
 obtain ⟨x6, q9, e⟩ := Pu.bind_some e
 obtain ⟨Z11, V11, W6, g11, u6, c21, c22, -, c24, c23⟩ := Sat.call (l1 := []) s20
 refine o_call (mc rfl (mc rfl m0)) (X.parlkeep5_below nd.parlkeep5_below c21 q9) fun _ H14 i9 => ?_
 obtain ⟨rfl, s23⟩ := i9
 have s24 := c23 _ _ s23
 refine o_stB (us' := [(vi x6)]) 0 s24 rfl h13 rfl rfl rfl rfl rfl fun H15 s25 => ?_
 refine c_nil ?_
 refine c_sr ?_
 refine o_mkfn (mc h13 m0) ?_
 refine o_mv (v := (.func (.func I.parlkeep5_ShrinkTree_1) #[] #[(.pointer (some ⟨b1, 0, none⟩))])) rfl ?_
 refine c_nil ?_
 refine c_sr ?_
 refine o_ldB 1 s25 rfl h14 rfl rfl ?_
 refine o_ldB 2 s25 rfl h15 rfl rfl ?_
 refine o_mv (v := (.func (.func I.parlkeep5_ShrinkTree_1) #[] #[(.pointer (some ⟨b1, 0, none⟩))])) rfl ?_
 obtain ⟨Z12, V12, g12, s26, h17⟩ := s25.frzS 3 rfl
 replace h17 := h17.of_ro
 obtain ⟨x7, q10, e⟩ := Pu.bind_some e
 obtain ⟨Z13, V13, W7, g13, u7, c25, c26, -, c28, c27⟩ := Sat.call (l1 := [pts b1 (.rw 0 [(vi x6)])]) (l2 := [pts b2 (.rw 0 [(vi x1.Terms), (vi x1.Nons), (vi x1.Start), (.slice d1 x1.Rules.length x1.Rules.length)]), pts b3 (.rw 0 [(vi x4.1.Rule), (vi x4.1.Term), (.slice d4 x4.1.Kids.length x4.1.Kids.length)])]) s26
 refine o_call (mc rfl (mc rfl (mc rfl m0))) (X.shrink_Tree__parlkeep5_ShrinkTree_1 nd.shrink_Tree__parlkeep5_ShrinkTree_1 (a2c0 := x6) c25 (h8.mono ((g8.trans (g9.trans (g11.trans g12))).trans g13).z) (h17.mono g13.z) q10) fun _ H16 i10 => ?_
 obtain ⟨w7, rfl, s27⟩ := i10
 have s28 := c27 _ _ s27
 obtain ⟨Z14, V14, g14, s29, h18⟩ := (s28.pull 1 rfl).frzR
 refine o_mv (v := (.tuple #[(.agg #[(vi x7.1.Rule), (vi x7.1.Term), w7]), (vi x7.2)])) rfl ?_
 refine o_ext rfl rfl ?_
 refine o_ext rfl rfl ?_
 refine o_new s29 fun b4 H17 s30 => ?_
 obtain ⟨d5, rfl⟩ := (h18).val
 refine o_stB (us' := [(vi x7.1.Rule), (vi x7.1.Term), (.slice d5 x7.1.Kids.length x7.1.Kids.length)]) 0 s30 rfl rfl rfl rfl rfl rfl rfl fun H18 s31 => ?_
 refine o_mv (v := (vi x7.2)) rfl ?_
 refine c_nil ?_
 refine c_gen (P := fun tm => tm 7 = (.pointer (some ⟨b2, 0, none⟩)) ∧ tm 9 = (.pointer (some ⟨b3, 0, none⟩)) ∧ tm 11 = (.func (.func I.parlkeep5_ShrinkTree_1) #[] #[(.pointer (some ⟨b1, 0, none⟩))]) ∧ tm 12 = (.pointer (some ⟨b4, 0, none⟩)) ∧ tm 13 = (vi x7.2) ∧ True) ⟨h14, h15, rfl, rfl, rfl, trivial⟩ ?_
 intro _ i11
 obtain ⟨h19, h20, h21, h22, h23, -⟩ := i11
 refine c_sq ?_
 refine c_sr ?_
 refine o_mv (v := (.func (.func I.parlkeep5_ShrinkTree_1) #[] #[(.pointer (some ⟨b1, 0, none⟩))])) h21 ?_
 refine o_ldB 3 s31 rfl h20 rfl rfl ?_
 obtain ⟨x8, q11, e⟩ := Pu.bind_some e
 obtain ⟨Z15, V15, W8, g15, u8, c29, c30, -, c32, c31⟩ := Sat.call (l1 := [pts b1 (.rw 0 [(vi x6)])]) (l2 := [pts b4 (.rw 0 [(vi x7.1.Rule), (vi x7.1.Term), (.slice d5 x7.1.Kids.length x7.1.Kids.length)]), pts b2 (.rw 0 [(vi x1.Terms), (vi x1.Nons), (vi x1.Start), (.slice d1 x1.Rules.length x1.Rules.length)]), pts b3 (.rw 0 [(vi x4.1.Rule), (vi x4.1.Term), (.slice d4 x4.1.Kids.length x4.1.Kids.length)])]) (s31.pick [1, 0, 2, 3] rfl)
 refine o_callv rfl (mc rfl m0) (X.parlkeep5_ShrinkTree_1 nd.parlkeep5_ShrinkTree_1 (a1 := x6) c29 (h17.mono (((g13.trans g14).trans g15).z.trans c29.zv)) q11) fun _ H19 i12 => ?_
 obtain ⟨rfl, s32⟩ := i12
 have s33 := c31 _ _ s32
 refine o_not rfl ?_
 refine c_nil ?_
 refine c_if rfl (fun q12 => ?_) (fun q12 => ?_)
 ·replace e := if_t q12 e
  refine c_sr ?_
  refine o_mv (v := (vi x7.2)) h23 ?_
  refine o_eql rfl rfl ?_
  refine o_mv (v := (.bool (decide (x7.2 = 7)))) rfl ?_
  refine c_nil ?_
  refine c_rt ?_
  obtain rfl := Option.some.inj e
  exact ⟨.inr rfl, _, (ar1 rfl), rfl, ((s33.pick [] rfl).weak (g1.trans (g2.trans (g3.trans (g4.trans (g5.trans (g6.trans (g7.trans (g8.trans (g9.trans (g11.trans (g12.trans (g13.trans (g14.trans g15))))))))))))) hs.zv)⟩
 replace e := ib_f q12 e
 refine c_sk ?_
 refine c_sq ?_
 refine c_sq ?_
 obtain ⟨y2, e2, e⟩ := Pu.bind_some e
 refine c_jn (I := fun tm H => ∃ (Z16 V16 : PH), Gw Z15 V15 Z16 V16 ∧ Sat Z16 V16 H [pts b2 (.rw 0 [(vi x1.Terms), (vi x1.Nons), (vi x1.Start), (.slice d1 x1.Rules.length x1.Rules.length)]), pts b1 (.rw 0 [(vi x6)]), pts b4 (.rw 0 [(vi x7.1.Rule), (vi x7.1.Term), (.slice d5 x7.1.Kids.length x7.1.Kids.length)])] ∧ tm 7 = (.pointer (some ⟨b2, 0, none⟩)) ∧ tm 11 = (.func (.func I.parlkeep5_ShrinkTree_1) #[] #[(.pointer (some ⟨b1, 0, none⟩))]) ∧ tm 12 = (.pointer (some ⟨b4, 0, none⟩)) ∧ tm 90 = (.bool y2)) (fun k2 => ?_) ?_
 ·refine d_start s33 fun n1 H21 s35 q13 d6 => ?_
  refine d_mv (v := (vi x7.2)) h23 ?_
  refine d_neq rfl rfl ?_
  refine d_mv (v := (.bool (decide (x7.2 ≠ 0)))) rfl ?_
  rcases Bool.eq_false_or_eq_true (decide (x7.2 ≠ 0)) with q14 | q14
  ·replace e2 := if_t q14 e2
   refine d_gn rfl q14 ?_
   refine d_gn rfl q14 ?_
   refine d_gn rfl q14 ?_
   refine d_gn rfl q14 ?_
   refine d_pickt (a := (.bool true)) rfl q14 rfl ?_
   refine d_mv (v := (.bool true)) rfl ?_
   refine d_gn rfl rfl ?_
   refine d_gn rfl rfl ?_
   refine d_gn rfl rfl ?_
   refine d_gn rfl rfl ?_
   refine d_pickt (a := (.bool true)) rfl rfl rfl ?_
   refine d_mv (v := (.bool true)) rfl ?_
   refine d_gn rfl rfl ?_
   refine d_gn rfl rfl ?_
   refine d_gn rfl rfl ?_
   refine d_gn rfl rfl ?_
   refine d_gn rfl rfl ?_
   refine d_gn rfl rfl ?_
   refine d_gn rfl rfl ?_
   refine d_gn rfl rfl ?_
   refine d_gn rfl rfl ?_
   refine d_gn rfl rfl ?_
   refine d_pickt (a := (.bool true)) rfl rfl rfl ?_
   refine d_mv (v := (.bool true)) rfl ?_
   refine d_gn rfl rfl ?_
   refine d_gn rfl rfl ?_
   refine d_gn rfl rfl ?_
   refine d_gn rfl rfl ?_
   refine d_gn rfl rfl ?_
   refine d_pickt (a := (.bool true)) rfl rfl rfl ?_
   refine d_nil (dc_mk rfl (tra (tra (tra (tra (tre (trl (trl (trl (trl (trl (trl (trl (trl (trl (trl (trl (trl (trl (trl (trl (trl (trl (trl (trl (trl (trl (trl (trl (trl (trl (trl (trl (trl (trl tr0)))))))))))))))))))))))))))))))))) (tra (tra (tra (tra (tra (tre (trl (trl (trl (trl (trl (trl (trl (trl (trl (trl (trl (trl (trl (trl (trl (trl (trl (trl (trl (trl (trl (trl (trl (trl (trl (trl (trl (trl tr0)))))))))))))))))))))))))))))))))) (tra (tra (tra (tra (tre (trl (trl (trl (trl (trl (trl (trl (trl (trl (trl (trl (trl (trl (trl (trl (trl (trl (trl (trl (trl (trl (trl (trl (trl (trl (trl (trl (trl (trl tr0)))))))))))))))))))))))))))))))))) (ag_no (w_n rfl rfl)) (ag_no (w_n rfl rfl)) dc_nil) ?_
   obtain rfl := Option.some.inj e2
   exact k2 _ _ ⟨_, _, Gw.refl _ _, (s35.pick [2, 0, 1] rfl), h19, h21, h22, rfl⟩
  replace e2 := ib_f q14 e2
  refine d_want rfl q14 ?_
  refine d_mv (v := (.func (.func I.parlkeep5_ShrinkTree_1) #[] #[(.pointer (some ⟨b1, 0, none⟩))])) h21 ?_
  refine d_want rfl q14 ?_
  refine d_ldB (q13 _ _ (ph_some.2 ⟨s35.curB 1 rfl, by simp⟩)) 1 s35 rfl h22 rfl rfl ?_
  refine d_want rfl q14 ?_
  obtain ⟨x9, q15, e2⟩ := Pu.bind_some e2
  obtain ⟨Z17, V17, W9, g17, u9, c33, c34, -, c36, c35⟩ := Sat.call (l1 := [pts b1 (.rw 0 [(vi x6)])]) (l2 := [pts b4 (.rw 0 [(vi x7.1.Rule), (vi x7.1.Term), (.slice d5 x7.1.Kids.length x7.1.Kids.length)]), pts b2 (.rw 0 [(vi x1.Terms), (vi x1.Nons), (vi x1.Start), (.slice d1 x1.Rules.length x1.Rules.length)]), pts b3 (.rw 0 [(vi x4.1.Rule), (vi x4.1.Term), (.slice d4 x4.1.Kids.length x4.1.Kids.length)])]) s35
  refine d_callv rfl (mc rfl m0) (X.parlkeep5_ShrinkTree_1 nd.parlkeep5_ShrinkTree_1 (a1 := x6) c33 (h18.mono ((g15.trans g17).z.trans c33.zv)) q15) fun _ H22 i13 k3 => ?_
  have d7 := d6.keep k3
  obtain ⟨rfl, s36⟩ := i13
  have s37 := c35 _ _ s36
  refine d_want rfl q14 ?_
  refine d_not rfl ?_
  refine d_pickf (b := (.bool (!x9))) rfl q14 rfl ?_
  refine d_mv (v := (.bool (!x9))) rfl ?_
  rcases Bool.eq_false_or_eq_true (!x9) with q16 | q16
  ·replace e2 := if_t q16 e2
   refine d_gn rfl q16 ?_
   refine d_gn rfl q16 ?_
   refine d_gn rfl q16 ?_
   refine d_gn rfl q16 ?_
   refine d_pickt (a := (.bool true)) rfl q16 rfl ?_
   refine d_mv (v := (.bool true)) rfl ?_
   refine d_gn rfl rfl ?_
   refine d_gn rfl rfl ?_
   refine d_gn rfl rfl ?_
   refine d_gn rfl rfl ?_
   refine d_gn rfl rfl ?_
   refine d_gn rfl rfl ?_
   refine d_gn rfl rfl ?_
   refine d_gn rfl rfl ?_
   refine d_gn rfl rfl ?_
   refine d_gn rfl rfl ?_
   refine d_pickt (a := (.bool true)) rfl rfl rfl ?_
   refine d_mv (v := (.bool true)) rfl ?_
   refine d_gn rfl rfl ?_
   refine d_gn rfl rfl ?_
   refine d_gn rfl rfl ?_
   refine d_gn rfl rfl ?_
   refine d_gn rfl rfl ?_
   refine d_pickt (a := (.bool true)) rfl rfl rfl ?_
   refine d_nil (dc_mk rfl (tra (tra (tra (tra (tre (trl (trl (trl (trl (trl (trl (trl (trl (trl (trl (trl (trl (trl (trl (trl (trl (trl (trl (trl (trl (trl (trl (trl (trl (trl (trl (trl (trl (trl tr0)))))))))))))))))))))))))))))))))) (tra (tra (tra (tra (tra (tre (trl (trl (trl (trl (trl (trl (trl (trl (trl (trl (trl (trl (trl (trl (trl (trl (trl (trl (trl (trl (trl (trl (trl (trl (trl (trl (trl (trl tr0)))))))))))))))))))))))))))))))))) (tra (tra (tra (tra (tre (trl (trl (trl (trl (trl (trl (trl (trl (trl (trl (trl (trl (trl (trl (trl (trl (trl (trl (trl (trl (trl (trl (trl (trl (trl (trl (trl (trl (trl tr0)))))))))))))))))))))))))))))))))) (ag_no (w_n rfl rfl)) (ag_no (w_n rfl rfl)) dc_nil) ?_
   obtain rfl := Option.some.inj e2
   exact k2 _ _ ⟨_, _, g17, (s37.pick [2, 0, 1] rfl), h19, h21, h22, rfl⟩
  replace e2 := ib_f q16 e2
  refine d_want rfl q16 ?_
  refine d_ldB (q13 _ _ (ph_some.2 ⟨s35.curB 2 rfl, by simp⟩)) 2 s37 rfl h19 rfl rfl ?_
  refine d_want rfl q16 ?_
  refine d_ldB (q13 _ _ (ph_some.2 ⟨s35.curB 1 rfl, by simp⟩)) 1 s37 rfl h22 rfl rfl ?_
  refine d_want rfl q16 ?_
  obtain ⟨x10, q17, e2⟩ := Pu.bind_some e2
  obtain ⟨Z18, V18, W10, g18, u10, c37, c38, -, c40, c39⟩ := Sat.call (l1 := []) s37
  refine d_call (mc rfl (mc rfl m0)) (X.tree_Check nd.tree_Check c37 (h8.mono (((g8.trans (g9.trans (g11.trans (g12.trans (g13.trans (g14.trans (g15.trans g17))))))).trans g18).z.trans c37.zv)) (h18.mono (((g15.trans g17).trans g18).z.trans c37.zv)) q17) fun _ H23 i14 k4 => ?_
  have d8 := d7.keep k4
  obtain ⟨rfl, s38⟩ := i14
  have s39 := c39 _ _ s38
  refine d_want rfl q16 ?_
  refine d_neq rfl rfl ?_
  refine d_pickf (b := (.bool (decide (x10 ≠ 0)))) rfl q16 rfl ?_
  refine d_mv (v := (.bool (decide (x10 ≠ 0)))) rfl ?_
  rcases Bool.eq_false_or_eq_true (decide (x10 ≠ 0)) with q18 | q18
  ·replace e2 := if_t q18 e2
   refine d_gn rfl q18 ?_
   refine d_gn rfl q18 ?_
   refine d_gn rfl q18 ?_
   refine d_gn rfl q18 ?_
   refine d_gn rfl q18 ?_
   refine d_gn rfl q18 ?_
   refine d_gn rfl q18 ?_
   refine d_gn rfl q18 ?_
   refine d_gn rfl q18 ?_
   refine d_gn rfl q18 ?_
   refine d_pickt (a := (.bool true)) rfl q18 rfl ?_
   refine d_mv (v := (.bool true)) rfl ?_
   refine d_gn rfl rfl ?_
   refine d_gn rfl rfl ?_
   refine d_gn rfl rfl ?_
   refine d_gn rfl rfl ?_
   refine d_gn rfl rfl ?_
   refine d_pickt (a := (.bool true)) rfl rfl rfl ?_
   refine d_nil (dc_mk rfl (tra (tra (tra (tra (tre (trl (trl (trl (trl (trl (trl (trl (trl (trl (trl (trl (trl (trl (trl (trl (trl (trl (trl (trl (trl (trl (trl (trl (trl (trl (trl (trl (trl (trl tr0)))))))))))))))))))))))))))))))))) (tra (tra (tra (tra (tra (tre (trl (trl (trl (trl (trl (trl (trl (trl (trl (trl (trl (trl (trl (trl (trl (trl (trl (trl (trl (trl (trl (trl (trl (trl (trl (trl (trl (trl tr0)))))))))))))))))))))))))))))))))) (tra (tra (tra (tra (tre (trl (trl (trl (trl (trl (trl (trl (trl (trl (trl (trl (trl (trl (trl (trl (trl (trl (trl (trl (trl (trl (trl (trl (trl (trl (trl (trl (trl (trl tr0)))))))))))))))))))))))))))))))))) (ag_no (w_n rfl rfl)) (ag_no (w_n rfl rfl)) dc_nil) ?_
   obtain rfl := Option.some.inj e2
   exact k2 _ _ ⟨_, _, (g17.trans g18), (s39.pick [2, 0, 1] rfl), h19, h21, h22, rfl⟩
  replace e2 := ib_f q18 e2
  refine d_want rfl q18 ?_
  refine d_fad h19 ?_
  refine d_want rfl q18 ?_
  refine d_ldB (q13 _ _ (ph_some.2 ⟨s35.curB 2 rfl, by simp⟩)) 2 s39 rfl rfl rfl rfl ?_
  refine d_want rfl q18 ?_
  refine d_fad h22 ?_
  refine d_want rfl q18 ?_
  refine d_ldB (q13 _ _ (ph_some.2 ⟨s35.curB 1 rfl, by simp⟩)) 1 s39 rfl rfl rfl rfl ?_
  refine d_want rfl q18 ?_
  obtain ⟨x11, q19, e2⟩ := Pu.bind_some e2
  refine d_idx (v := (.slice d1 x1.Rules.length x1.Rules.length)) rfl rfl (h8.mono (g8.trans (g9.trans (g11.trans (g12.trans (g13.trans (g14.trans (g15.trans (g17.trans g18)))))))).z) rfl q19 fun p1 q20 => ?_
  refine d_want rfl q18 ?_
  refine d_fadE rfl q20 fun p2 q21 => ?_
  refine d_want rfl q18 ?_
  refine d_ldF (RdS.low (h8.mono (g8.trans (g9.trans (g11.trans (g12.trans (g13.trans (g14.trans g15)))))).z) s35.z q13) rfl (h8.mono (g8.trans (g9.trans (g11.trans (g12.trans (g13.trans (g14.trans (g15.trans (g17.trans g18)))))))).z) s39.z rfl q20 q21 q19 rfl fun c41 h28 => ?_
  obtain ⟨w8, rfl, h29⟩ := Sh.api_Rule_op h28
  refine ⟨_, rfl, ?_⟩
  refine d_want rfl q18 ?_
  refine d_fad h19 ?_
  refine d_want rfl q18 ?_
  refine d_ldB (q13 _ _ (ph_some.2 ⟨s35.curB 2 rfl, by simp⟩)) 2 s39 rfl rfl rfl rfl ?_
  refine d_want rfl q18 ?_
  refine d_neq rfl rfl ?_
  refine d_pickf (b := (.bool (decide (x11.Left ≠ x1.Start)))) rfl q18 rfl ?_
  refine d_mv (v := (.bool (decide (x11.Left ≠ x1.Start)))) rfl ?_
  rcases Bool.eq_false_or_eq_true (decide (x11.Left ≠ x1.Start)) with q22 | q22
  ·replace e2 := if_t q22 e2
   refine d_gn rfl q22 ?_
   refine d_gn rfl q22 ?_
   refine d_gn rfl q22 ?_
   refine d_gn rfl q22 ?_
   refine d_gn rfl q22 ?_
   refine d_pickt (a := (.bool true)) rfl q22 rfl ?_
   refine d_nil (dc_mk rfl (tra (tra (tra (tra (tre (trl (trl (trl (trl (trl (trl (trl (trl (trl (trl (trl (trl (trl (trl (trl (trl (trl (trl (trl (trl (trl (trl (trl (trl (trl (trl (trl (trl (trl tr0)))))))))))))))))))))))))))))))))) (tra (tra (tra (tra (tra (tre (trl (trl (trl (trl (trl (trl (trl (trl (trl (trl (trl (trl (trl (trl (trl (trl (trl (trl (trl (trl (trl (trl (trl (trl (trl (trl (trl (trl tr0)))))))))))))))))))))))))))))))))) (tra (tra (tra (tra (tre (trl (trl (trl (trl (trl (trl (trl (trl (trl (trl (trl (trl (trl (trl (trl (trl (trl (trl (trl (trl (trl (trl (trl (trl (trl (trl (trl (trl (trl tr0)))))))))))))))))))))))))))))))))) (ag_no (w_n rfl q22)) (ag_no (w_n rfl q22)) dc_nil) ?_
   obtain rfl := Option.some.inj e2
   exact k2 _ _ ⟨_, _, (g17.trans g18), (s39.pick [2, 0, 1] rfl), h19, h21, h22, rfl⟩
  replace e2 := ib_f q22 e2
  refine d_want rfl q22 ?_
  refine d_ldB (q13 _ _ (ph_some.2 ⟨s35.curB 1 rfl, by simp⟩)) 1 s39 rfl h22 rfl rfl ?_
  refine d_want rfl q22 ?_
  obtain ⟨x12, q23, e2⟩ := Pu.bind_some e2
  obtain ⟨Z19, V19, W11, g19, u11, c42, c43, -, c45, c44⟩ := Sat.call (l1 := []) s39
  refine d_call (mc rfl m0) (X.tree_Size nd.tree_Size c42 (h18.mono (((g15.trans (g17.trans g18)).trans g19).z.trans c42.zv)) q23) fun _ H24 i15 k5 => ?_
  have d9 := d8.keep k5
  obtain ⟨rfl, s40⟩ := i15
  have s41 := c44 _ _ s40
  refine d_want rfl q22 ?_
  refine d_ldB (q13 _ _ (ph_some.2 ⟨s35.curB 3 rfl, by simp⟩)) 3 s41 rfl h20 rfl rfl ?_
  refine d_want rfl q22 ?_
  obtain ⟨x13, q24, e2⟩ := Pu.bind_some e2
  obtain ⟨Z20, V20, W12, g20, u12, c46, c47, -, c49, c48⟩ := Sat.call (l1 := []) s41
  refine d_call (mc rfl m0) (X.tree_Size nd.tree_Size c46 (h17.mono (((g13.trans (g14.trans (g15.trans (g17.trans (g18.trans g19))))).trans g20).z.trans c46.zv)) q24) fun _ H25 i16 k6 => ?_
  have d10 := d9.keep k6
  obtain ⟨rfl, s42⟩ := i16
  have s43 := c48 _ _ s42
  refine d_want rfl q22 ?_
  refine d_gtr rfl rfl ?_
  refine d_pickf (b := (.bool (decide (x13 < x12)))) rfl q22 rfl ?_
  refine d_nil (dc_mk rfl (tra (tra (tra (tra (tre (trl (trl (trl (trl (trl (trl (trl (trl (trl (trl (trl (trl (trl (trl (trl (trl (trl (trl (trl (trl (trl (trl (trl (trl (trl (trl (trl (trl (trl tr0)))))))))))))))))))))))))))))))))) (tra (tra (tra (tra (tra (tre (trl (trl (trl (trl (trl (trl (trl (trl (trl (trl (trl (trl (trl (trl (trl (trl (trl (trl (trl (trl (trl (trl (trl (trl (trl (trl (trl (trl tr0)))))))))))))))))))))))))))))))))) (tra (tra (tra (tra (tre (trl (trl (trl (trl (trl (trl (trl (trl (trl (trl (trl (trl (trl (trl (trl (trl (trl (trl (trl (trl (trl (trl (trl (trl (trl (trl (trl (trl (trl tr0)))))))))))))))))))))))))))))))))) (ag_ldx (w := (.agg #[(vi x4.1.Rule), (vi x4.1.Term), (.slice d4 x4.1.Kids.length x4.1.Kids.length)])) (w_y rfl q22) h20 (ldB_v 3 s41 rfl rfl rfl) (ldB_v 3 s39 rfl rfl rfl) (by simp [vsame, vsame1])) (ag_ldx (w := (.agg #[(vi x4.1.Rule), (vi x4.1.Term), (.slice d4 x4.1.Kids.length x4.1.Kids.length)])) (w_y rfl q22) h20 (ldB_v 3 s41 rfl rfl rfl) (ldB_v 3 s41 rfl rfl rfl) (by simp [vsame, vsame1])) dc_nil) ?_
  obtain rfl := Option.some.inj e2
  exact k2 _ _ ⟨_, _, (g17.trans (g18.trans (g19.trans g20))), (s43.pick [2, 0, 1] rfl), h19, h21, h22, rfl⟩
 intro _ H20 i17
 obtain ⟨Z16, V16, g16, s34, h24, h25, h26, h27⟩ := i17
 refine c_if h27 (fun q25 => ?_) (fun q25 => ?_)
 ·replace e := if_t q25 e
  refine c_sr ?_
  refine o_mv (v := (.bool false)) rfl ?_
  refine c_nil ?_
  refine c_rt ?_
  obtain rfl := Option.some.inj e
  exact ⟨.inr rfl, _, (ar1 rfl), rfl, ((s34.pick [] rfl).weak (g1.trans (g2.trans (g3.trans (g4.trans (g5.trans (g6.trans (g7.trans (g8.trans (g9.trans (g11.trans (g12.trans (g13.trans (g14.trans (g15.trans g16)))))))))))))) hs.zv)⟩
 replace e := ib_f q25 e
 refine c_sk ?_
 refine c_sq ?_
 refine c_sr ?_
 refine o_ldB 0 s34 rfl h24 rfl rfl ?_
 refine o_ldB 2 s34 rfl h26 rfl rfl ?_
 obtain ⟨x14, q26, e⟩ := Pu.bind_some e
 obtain ⟨Z21, V21, W13, g21, u13, c50, c51, -, c53, c52⟩ := Sat.call (l1 := []) s34
 refine o_call (mc rfl (mc rfl m0)) (X.shrink_Smaller nd.shrink_Smaller c50 (h8.mono ((g8.trans (g9.trans (g11.trans (g12.trans (g13.trans (g14.trans (g15.trans g16))))))).trans g21).z) (h18.mono ((g15.trans g16).trans g21).z) q26) fun w9 H26 i18 => ?_
 obtain ⟨_, rfl, s44⟩ := i18
 have s45 := c52 _ _ s44
 refine o_len rfl ((s45.curS (s := (Sh.ro Sh.api_Tree)) 0 rfl)).len ?_
 refine o_mv (v := (vi 0)) rfl ?_
 refine c_nil ?_
 obtain ⟨y3, q29, e⟩ := Pu.bind_some e
 refine c_jn (I := fun tm H => ∃ (s48 : Unit), y3 = .out s48 ∧ (∃ (Z23 V23 : PH), Gw Z21 V21 Z23 V23 ∧ Sat Z23 V23 H [pts b2 (.rw 0 [(vi x1.Terms), (vi x1.Nons), (vi x1.Start), (.slice d1 x1.Rules.length x1.Rules.length)]), pts b1 (.rw 0 [(vi x6)]), pts b4 (.rw 0 [(vi x7.1.Rule), (vi x7.1.Term), (.slice d5 x7.1.Kids.length x7.1.Kids.length)]), It.sl (Sh.ro Sh.api_Tree) w9 x14] ∧ tm 7 = (.pointer (some ⟨b2, 0, none⟩)) ∧ tm 11 = (.func (.func I.parlkeep5_ShrinkTree_1) #[] #[(.pointer (some ⟨b1, 0, none⟩))]) ∧ tm 12 = (.pointer (some ⟨b4, 0, none⟩)) ∧ tm 93 = w9 ∧ tm 94 = (vi (x14.length : Int)))) (fun k10 => ?_) ?_
 ·refine c_bk ?_
  refine l_forL (xs := x14) (fun (i19 : Nat) (s46 : Unit) tm H => tm 95 = vi i19 ∧ ∃ (Z22 V22 : PH), Gw Z21 V21 Z22 V22 ∧ Sat Z22 V22 H [pts b2 (.rw 0 [(vi x1.Terms), (vi x1.Nons), (vi x1.Start), (.slice d1 x1.Rules.length x1.Rules.length)]), pts b1 (.rw 0 [(vi x6)]), pts b4 (.rw 0 [(vi x7.1.Rule), (vi x7.1.Term), (.slice d5 x7.1.Kids.length x7.1.Kids.length)]), It.sl (Sh.ro Sh.api_Tree) w9 x14] ∧ tm 7 = (.pointer (some ⟨b2, 0, none⟩)) ∧ tm 11 = (.func (.func I.parlkeep5_ShrinkTree_1) #[] #[(.pointer (some ⟨b1, 0, none⟩))]) ∧ tm 12 = (.pointer (some ⟨b4, 0, none⟩)) ∧ tm 93 = w9 ∧ tm 94 = (vi (x14.length : Int))) (fun i19 x15 s46 y4 tm H28 q27 q28 j1 e3 k7 k8 k9 => ?_) (fun s46 tm H27 jf jd => ?_) q29 ⟨rfl, _, _, Gw.refl _ _, (s45.pick [1, 2, 3, 0] rfl), h24, h25, h26, rfl, rfl⟩
  ·obtain ⟨hti0, Z22, V22, g22, s47, h30, h31, h32, h33, h34⟩ := j1
   unfold P.parlkeep5_ShrinkTree.b0 at e3
   refine c_sr ?_
   refine o_lss hti0 h34 ?_
   refine c_nil ?_
   refine c_sq ?_
   refine c_ift rfl (Int.ofNat_lt.2 q28) ?_
   refine c_sk ?_
   refine c_sq ?_
   refine c_bk ?_
   refine c_sr ?_
   refine o_idx (v := w9) h33 hti0 (s47.curS (s := (Sh.ro Sh.api_Tree)) 3 rfl) rfl (Pu.ix_nat.trans q27) fun p3 q30 => ?_
   refine o_ldoa (p := p3) 3 s47 rfl rfl rfl q30 (Pu.ix_nat.trans q27) fun Z24 V24 c54 g24 s50 h40 => ?_
   obtain ⟨w10, rfl, h41⟩ := Sh.api_Tree_op h40
   refine o_new s50 fun b5 H30 s51 => ?_
   obtain ⟨d11, rfl⟩ := (h41).val
   refine o_stB (us' := [(vi x15.Rule), (vi x15.Term), (.slice d11 x15.Kids.length x15.Kids.length)]) 0 s51 rfl rfl rfl rfl rfl rfl rfl fun H31 s52 => ?_
   refine c_nil ?_
   refine c_sq ?_
   obtain ⟨y5, e4, e3⟩ := Pu.bind_some e3
   refine c_jn (I := fun tm H => ∃ (Z25 V25 : PH), Gw Z24 V24 Z25 V25 ∧ Sat Z25 V25 H [pts b2 (.rw 0 [(vi x1.Terms), (vi x1.Nons), (vi x1.Start), (.slice d1 x1.Rules.length x1.Rules.length)]), pts b1 (.rw 0 [(vi x6)]), pts b4 (.rw 0 [(vi x7.1.Rule), (vi x7.1.Term), (.slice d5 x7.1.Kids.length x7.1.Kids.length)]), It.sl (Sh.ro Sh.api_Tree) w9 x14] ∧ tm 7 = (.pointer (some ⟨b2, 0, none⟩)) ∧ tm 11 = (.func (.func I.parlkeep5_ShrinkTree_1) #[] #[(.pointer (some ⟨b1, 0, none⟩))]) ∧ tm 12 = (.pointer (some ⟨b4, 0, none⟩)) ∧ tm 93 = w9 ∧ tm 94 = (vi (x14.length : Int)) ∧ tm 95 = (vi (i19 : Int)) ∧ tm 114 = (.bool y5)) (fun k11 => ?_) ?_
   ·refine d_start s52 fun n2 H33 s54 q31 d12 => ?_
    refine d_mv (v := (.func (.func I.parlkeep5_ShrinkTree_1) #[] #[(.pointer (some ⟨b1, 0, none⟩))])) h31 ?_
    refine d_ldB (q31 _ _ (ph_some.2 ⟨s54.curB 0 rfl, by simp⟩)) 0 s54 rfl rfl rfl rfl ?_
    obtain ⟨x16, q32, e4⟩ := Pu.bind_some e4
    obtain ⟨Z26, V26, W14, g26, u14, c55, c56, -, c58, c57⟩ := Sat.call (l1 := [pts b1 (.rw 0 [(vi x6)])]) (l2 := [pts b5 (.rw 0 [(vi x15.Rule), (vi x15.Term), (.slice d11 x15.Kids.length x15.Kids.length)]), pts b2 (.rw 0 [(vi x1.Terms), (vi x1.Nons), (vi x1.Start), (.slice d1 x1.Rules.length x1.Rules.length)]), pts b4 (.rw 0 [(vi x7.1.Rule), (vi x7.1.Term), (.slice d5 x7.1.Kids.length x7.1.Kids.length)]), It.sl (Sh.ro Sh.api_Tree) w9 x14]) (s54.pick [2, 0, 1, 3, 4] rfl)
    refine d_callv rfl (mc rfl m0) (X.parlkeep5_ShrinkTree_1 nd.parlkeep5_ShrinkTree_1 (a1 := x6) c55 (h41.mono (g26.z.trans c55.zv)) q32) fun _ H34 i20 k12 => ?_
    have d13 := d12.keep k12
    obtain ⟨rfl, s55⟩ := i20
    have s56 := c57 _ _ s55
    refine d_mv (v := (.bool x16)) rfl ?_
    rcases Bool.eq_false_or_eq_true x16 with q33 | q33
    ·replace e4 := if_t q33 e4
     refine d_gn rfl q33 ?_
     refine d_gn rfl q33 ?_
     refine d_gn rfl q33 ?_
     refine d_gn rfl q33 ?_
     refine d_gn rfl q33 ?_
     refine d_pickt (a := (.bool true)) rfl q33 rfl ?_
     refine d_mv (v := (.bool true)) rfl ?_
     refine d_gn rfl rfl ?_
     refine d_gn rfl rfl ?_
     refine d_gn rfl rfl ?_
     refine d_gn rfl rfl ?_
     refine d_pickt (a := (.bool true)) rfl rfl rfl ?_
     refine d_nil (dc_mk rfl (tra (tra (tra (tra (tra (tra (tra (tra (tra (tra (tre (trl (trl (trl (trl (trl (trl tr0))))))))))))))))) (tra (tra (tra (tra (tra (tra (tra (tra (tra (tra (tra (tre (trl (trl (trl (trl (trl tr0))))))))))))))))) (tra (tra (tra (tra (tra (tra (tra (tra (tra (tra (tre (trl (trl (trl (trl (trl (trl tr0))))))))))))))))) (ag_no (w_n rfl q33)) (ag_no (w_n rfl q33)) dc_nil) ?_
     obtain rfl := Option.some.inj e4
     exact k11 _ _ ⟨_, _, g26, (s56.pick [2, 0, 3, 4] rfl), h30, h31, h32, h33, h34, hti0, rfl⟩
    replace e4 := ib_f q33 e4
    refine d_want rfl q33 ?_
    refine d_ldB (q31 _ _ (ph_some.2 ⟨s54.curB 0 rfl, by simp⟩)) 1 s56 rfl rfl rfl rfl ?_
    refine d_want rfl q33 ?_
    obtain ⟨x17, q34, e4⟩ := Pu.bind_some e4
    obtain ⟨Z27, V27, W15, g27, u15, c59, c60, -, c62, c61⟩ := Sat.call (l1 := []) s56
    refine d_call (mc rfl m0) (X.tree_Size nd.tree_Size c59 (h41.mono ((g26.trans g27).z.trans c59.zv)) q34) fun _ H35 i21 k13 => ?_
    have d14 := d13.keep k13
    obtain ⟨rfl, s57⟩ := i21
    have s58 := c61 _ _ s57
    refine d_want rfl q33 ?_
    refine d_ldB (q31 _ _ (ph_some.2 ⟨s54.curB 3 rfl, by simp⟩)) 3 s58 rfl h32 rfl rfl ?_
    refine d_want rfl q33 ?_
    obtain ⟨x18, q35, e4⟩ := Pu.bind_some e4
    obtain ⟨Z28, V28, W16, g28, u16, c63, c64, -, c66, c65⟩ := Sat.call (l1 := []) s58
    refine d_call (mc rfl m0) (X.tree_Size nd.tree_Size c63 (h18.mono (((g15.trans (g16.trans (g21.trans (g22.trans (g24.trans (g26.trans g27)))))).trans g28).z.trans c63.zv)) q35) fun _ H36 i22 k14 => ?_
    have d15 := d14.keep k14
    obtain ⟨rfl, s59⟩ := i22
    have s60 := c65 _ _ s59
    refine d_want rfl q33 ?_
    refine d_geq rfl rfl ?_
    refine d_pickf (b := (.bool (decide (x18 ≤ x17)))) rfl q33 rfl ?_
    refine d_mv (v := (.bool (decide (x18 ≤ x17)))) rfl ?_
    rcases Bool.eq_false_or_eq_true (decide (x18 ≤ x17)) with q36 | q36
    ·replace e4 := if_t q36 e4
     refine d_gn rfl q36 ?_
     refine d_gn rfl q36 ?_
     refine d_gn rfl q36 ?_
     refine d_gn rfl q36 ?_
     refine d_pickt (a := (.bool true)) rfl q36 rfl ?_
     refine d_nil (dc_mk rfl (tra (tra (tra (tra (tra (tra (tra (tra (tra (tra (tre (trl (trl (trl (trl (trl (trl tr0))))))))))))))))) (tra (tra (tra (tra (tra (tra (tra (tra (tra (tra (tra (tre (trl (trl (trl (trl (trl tr0))))))))))))))))) (tra (tra (tra (tra (tra (tra (tra (tra (tra (tra (tre (trl (trl (trl (trl (trl (trl tr0))))))))))))))))) (ag_ldx (w := (.agg #[(vi x7.1.Rule), (vi x7.1.Term), (.slice d5 x7.1.Kids.length x7.1.Kids.length)])) (w_y rfl q33) h32 (ldB_v 3 s58 rfl rfl rfl) (ldB_v 3 s56 rfl rfl rfl) (by simp [vsame, vsame1])) (ag_ldx (w := (.agg #[(vi x7.1.Rule), (vi x7.1.Term), (.slice d5 x7.1.Kids.length x7.1.Kids.length)])) (w_y rfl q33) h32 (ldB_v 3 s58 rfl rfl rfl) (ldB_v 3 s58 rfl rfl rfl) (by simp [vsame, vsame1])) dc_nil) ?_
     obtain rfl := Option.some.inj e4
     exact k11 _ _ ⟨_, _, (g26.trans (g27.trans g28)), (s60.pick [2, 0, 3, 4] rfl), h30, h31, h32, h33, h34, hti0, rfl⟩
    replace e4 := ib_f q36 e4
    refine d_want rfl q36 ?_
    refine d_ldB (q31 _ _ (ph_some.2 ⟨s54.curB 1 rfl, by simp⟩)) 2 s60 rfl h30 rfl rfl ?_
    refine d_want rfl q36 ?_
    refine d_ldB (q31 _ _ (ph_some.2 ⟨s54.curB 0 rfl, by simp⟩)) 1 s60 rfl rfl rfl rfl ?_
    refine d_want rfl q36 ?_
    obtain ⟨x19, q37, e4⟩ := Pu.bind_some e4
    obtain ⟨Z29, V29, W17, g29, u17, c67, c68, -, c70, c69⟩ := Sat.call (l1 := []) s60
    refine d_call (mc rfl (mc rfl m0)) (X.tree_Check nd.tree_Check c67 (h8.mono (((g8.trans (g9.trans (g11.trans (g12.trans (g13.trans (g14.trans (g15.trans (g16.trans (g21.trans (g22.trans (g24.trans (g26.trans (g27.trans g28))))))))))))).trans g29).z.trans c67.zv)) (h41.mono (((g26.trans (g27.trans g28)).trans g29).z.trans c67.zv)) q37) fun _ H37 i23 k15 => ?_
    have d16 := d15.keep k15
    obtain ⟨rfl, s61⟩ := i23
    have s62 := c69 _ _ s61
    refine d_want rfl q36 ?_
    refine d_neq rfl rfl ?_
    refine d_pickf (b := (.bool (decide (x19 ≠ 0)))) rfl q36 rfl ?_
    refine d_nil (dc_mk rfl (tra (tra (tra (tra (tra (tra (tra (tra (tra (tra (tre (trl (trl (trl (trl (trl (trl tr0))))))))))))))))) (tra (tra (tra (tra (tra (tra (tra (tra (tra (tra (tra (tre (trl (trl (trl (trl (trl tr0))))))))))))))))) (tra (tra (tra (tra (tra (tra (tra (tra (tra (tra (tre (trl (trl (trl (trl (trl (trl tr0))))))))))))))))) (ag_ldx (w := (.agg #[(vi x7.1.Rule), (vi x7.1.Term), (.slice d5 x7.1.Kids.length x7.1.Kids.length)])) (w_y rfl q33) h32 (ldB_v 3 s58 rfl rfl rfl) (ldB_v 3 s56 rfl rfl rfl) (by simp [vsame, vsame1])) (ag_ldx (w := (.agg #[(vi x7.1.Rule), (vi x7.1.Term), (.slice d5 x7.1.Kids.length x7.1.Kids.length)])) (w_y rfl q33) h32 (ldB_v 3 s58 rfl rfl rfl) (ldB_v 3 s58 rfl rfl rfl) (by simp [vsame, vsame1])) dc_nil) ?_
    obtain rfl := Option.some.inj e4
    exact k11 _ _ ⟨_, _, (g26.trans (g27.trans (g28.trans g29))), (s62.pick [2, 0, 3, 4] rfl), h30, h31, h32, h33, h34, hti0, rfl⟩
   intro _ H32 i24
   obtain ⟨Z25, V25, g25, s53, h42, h43, h44, h45, h46, h47, h48⟩ := i24
   refine c_if h48 (fun q38 => ?_) (fun q38 => ?_)
   ·replace e3 := if_t q38 e3
    refine c_sr ?_
    refine o_mv (v := (.bool false)) rfl ?_
    refine c_nil ?_
    refine c_rt ?_
    have e5 := fin_r (k9 _ (Option.some.inj e3).symm) e
    obtain rfl := Option.some.inj e5
    exact ⟨.inr rfl, _, (ar1 rfl), rfl, ((s53.pick [] rfl).weak (g1.trans (g2.trans (g3.trans (g4.trans (g5.trans (g6.trans (g7.trans (g8.trans (g9.trans (g11.trans (g12.trans (g13.trans (g14.trans (g15.trans (g16.trans (g21.trans (g22.trans (g24.trans g25)))))))))))))))))) hs.zv)⟩
   replace e3 := ib_f q38 e3
   refine c_sk ?_
   refine c_end ?_
   refine c_r ?_
   refine o_add h47 rfl ?_
   refine o_mv (v := (vi (Pu.W ((i19 : Int) + 1)))) rfl ?_
   refine c_nil ?_
   exact k7 _ _ _ (Option.some.inj e3).symm ⟨(iv rfl (w_suc q28 ((s45.curS (s := (Sh.ro Sh.api_Tree)) 0 rfl)).bd)), _, _, (g22.trans (g24.trans g25)), s53, h42, h43, h44, h45, h46⟩
  ·obtain ⟨hte0, Z30, V30, g30, s63, h49, h50, h51, h52, h53⟩ := jd
   refine c_sr ?_
   refine o_lss hte0 h53 ?_
   refine c_nil ?_
   refine c_sq ?_
   refine c_iff rfl (Int.lt_irrefl _) ?_
   refine c_ex ?_
   refine e_c ?_
   refine e_c ?_
   refine e_h ?_
   exact k10 _ _ ⟨_, jf, _, _, g30, s63, h49, h50, h51, h52, h53⟩
 intro _ H29 i25
 obtain ⟨s48, f1, Z23, V23, g23, s49, h35, h36, h37, h38, h39⟩ := i25
 replace e := fin_o f1 e
 refine c_sr ?_
 refine o_mv (v := (.bool true)) rfl ?_
 refine c_nil ?_
 refine c_rt ?_
 obtain rfl := Option.some.inj e
 exact ⟨.inr rfl, _, (ar1 rfl), rfl, ((s49.pick [] rfl).weak (g1.trans (g2.trans (g3.trans (g4.trans (g5.trans (g6.trans (g7.trans (g8.trans (g9.trans (g11.trans (g12.trans (g13.trans (g14.trans (g15.trans (g16.trans (g21.trans g23)))))))))))))))) hs.zv)⟩
end Go.Proofs.Ythgdobdhdfjhfaa
