/- The abstract code comes to the plain functions: printed by wip/tools/lift.py. -/
import Derived.Test.YthgdobdhdfjhfaaP
import Derived.Test.YthgdobdhdfjhfaaGcmp
import Derived.Test.YthgdobdhdfjhfaaGgram
import Derived.Test.YthgdobdhdfjhfaaGlens
import Derived.Test.YthgdobdhdfjhfaaGparlkeep5
import Derived.Test.YthgdobdhdfjhfaaGparlmake
import Derived.Test.YthgdobdhdfjhfaaGslices
import Derived.Test.YthgdobdhdfjhfaaGtree
namespace Go.Proofs.Ythgdobdhdfjhfaa
open Go Go.Ab
/-! parlmake_Below -/
structure Nd.parlmake_Below (T : FuncId → Option AFunc) : Prop where
  own : Has T I.parlmake_Below F.parlmake_Below
set_option maxHeartbeats 1000000 in
theorem X.parlmake_Below {T : FuncId → Option AFunc} (nd : Nd.parlmake_Below T) {Z V : PH} {H : Hp} {a0 : Int} {a1 : Int} (hs : Sat Z V H []) {r : Int} (e : P.parlmake_Below a0 a1 = some r) :
    G T I.parlmake_Below [(vi a0), (vi a1)] H (fun rv H' => rv = (vi r) ∧ Sat Z V H' []) := by
  unfold P.parlmake_Below at e
  refine f_mk nd.own ?_
  refine c_sr ?_
  refine o_mv (v := (vi 0)) rfl ?_
  refine c_nil ?_
  refine c_sr ?_
  refine o_mv (v := (vi a0)) rfl ?_
  refine o_mv (v := (vi a1)) rfl ?_
  obtain ⟨x1, q1, e⟩ := Pu.bind_some e
  refine o_rem rfl rfl q1 ?_
  refine o_mv (v := (vi x1)) rfl ?_
  refine c_nil ?_
  refine c_sq ?_
  refine c_sr ?_
  refine o_mv (v := (vi x1)) rfl ?_
  refine o_lss rfl rfl ?_
  refine c_nil ?_
  obtain ⟨y1, e1, e⟩ := Pu.bind_some e
  refine c_jn (I := fun tm H => ∃ (Z1 V1 : PH), Gw Z V Z1 V1 ∧ Sat Z1 V1 H [] ∧ tm 0 = (vi y1)) (fun k1 => ?_) ?_
  · refine c_ifd rfl (fun q2 => ?_) (fun q2 => ?_)
    · replace e1 := if_t q2 e1
      refine c_r ?_
      refine o_mv (v := (vi x1)) rfl ?_
      refine o_mv (v := (vi a1)) rfl ?_
      refine o_add rfl rfl ?_
      refine o_mv (v := (vi (Pu.W (x1 + a1)))) rfl ?_
      refine c_nil ?_
      obtain rfl := Option.some.inj e1
      exact k1 _ _ ⟨_, _, Gw.refl _ _, hs, rfl⟩
    replace e1 := if_f q2 e1
    refine c_sk ?_
    obtain rfl := Option.some.inj e1
    exact k1 _ _ ⟨_, _, Gw.refl _ _, hs, rfl⟩
  intro _ H1 i1
  obtain ⟨Z1, V1, g1, s1, h1⟩ := i1
  refine c_sr ?_
  refine o_mv (v := (vi y1)) h1 ?_
  refine o_mv (v := (vi y1)) rfl ?_
  refine c_nil ?_
  refine c_rt ?_
  obtain rfl := Option.some.inj e
  exact ⟨.inr rfl, _, (ar1 rfl), rfl, (s1.weak g1 hs.zv)⟩
/-! parlmake_stream_next -/
structure Nd.parlmake_stream_next (T : FuncId → Option AFunc) : Prop where
  own : Has T I.parlmake_stream_next F.parlmake_stream_next
  parlmake_Below : Nd.parlmake_Below T
set_option maxHeartbeats 1000000 in
theorem X.parlmake_stream_next {T : FuncId → Option AFunc} (nd : Nd.parlmake_stream_next T) {Z V : PH} {H : Hp} {v1 : Value} {o1 : Nat} {a0 : Ty.parlmake_stream} {a1 : Int} (hs : Sat Z V H [pts o1 (.rw 0 [v1])]) (hp1 : RdS Sh.int Z v1 a0.l) {r : (Ty.parlmake_stream × Int)} (e : P.parlmake_stream_next a0 a1 = some r) :
    G T I.parlmake_stream_next [(.pointer (some ⟨o1, 0, none⟩)), (vi a1)] H (fun rv H' => ∃ (u1 : Value), rv = (vi r.2) ∧ Sat Z V H' [pts o1 (.rw 0 [u1]), Sh.it (Sh.ro (Sh.sl Sh.int)) [u1] r.1.l]) := by
  unfold P.parlmake_stream_next at e
  refine f_mk nd.own ?_
  refine c_sr ?_
  refine o_mv (v := (vi 0)) rfl ?_
  refine c_nil ?_
  refine c_sq ?_
  refine c_sr ?_
  refine o_mv (v := (.pointer (some ⟨o1, 0, none⟩))) rfl ?_
  refine o_nck rfl ?_
  refine o_fad rfl ?_
  obtain ⟨d1, rfl⟩ := (hp1).val
  refine o_ldB 0 hs rfl rfl rfl rfl ?_
  refine o_len rfl (hp1).len ?_
  refine o_eql rfl rfl ?_
  refine c_nil ?_
  refine c_ifd rfl (fun q1 => ?_) (fun q1 => ?_)
  · replace e := if_t q1 e
    refine c_sr ?_
    refine o_mv (v := (vi 0)) rfl ?_
    refine c_nil ?_
    refine c_rt ?_
    obtain rfl := Option.some.inj e
    exact ⟨.inr rfl, _, (ar1 rfl), _, rfl, ((hs.push (ro_it (sl_ro hp1))).pick [1, 0] rfl)⟩
  replace e := if_f q1 e
  refine c_sk ?_
  refine c_sr ?_
  refine o_mv (v := (.pointer (some ⟨o1, 0, none⟩))) rfl ?_
  refine o_nck rfl ?_
  refine o_fad rfl ?_
  refine o_ldB 0 hs rfl rfl rfl rfl ?_
  obtain ⟨x1, q2, e⟩ := Pu.bind_some e
  refine o_idx (v := (.slice d1 a0.l.length a0.l.length)) rfl rfl hp1 rfl q2 fun p1 q3 => ?_
  refine o_ldi rfl hp1 hs.z q3 q2 ?_
  refine o_mv (v := (vi x1)) rfl ?_
  refine c_nil ?_
  refine c_gen (P := fun tm => tm 0 = (.pointer (some ⟨o1, 0, none⟩)) ∧ tm 1 = (vi a1) ∧ tm 5 = (vi x1) ∧ True) ⟨rfl, rfl, rfl, trivial⟩ ?_
  intro _ i1
  obtain ⟨h1, h2, h3, -⟩ := i1
  refine c_sr ?_
  refine o_mv (v := (.pointer (some ⟨o1, 0, none⟩))) h1 ?_
  refine o_mv (v := (.pointer (some ⟨o1, 0, none⟩))) h1 ?_
  refine o_nck rfl ?_
  refine o_fad rfl ?_
  refine o_ldB 0 hs rfl rfl rfl rfl ?_
  obtain ⟨x2, q4, e⟩ := Pu.bind_some e
  refine o_slcl rfl rfl hp1 hs.z rfl q4 fun w1 h4 => ?_
  refine o_nck rfl ?_
  refine o_fad rfl ?_
  obtain ⟨d2, rfl⟩ := (h4).val
  refine o_stB (us' := [(.slice d2 x2.length x2.length)]) 0 hs rfl rfl rfl rfl rfl rfl rfl fun H1 s1 => ?_
  refine c_nil ?_
  refine c_sr ?_
  refine o_mv (v := (vi x1)) h3 ?_
  refine o_mv (v := (vi a1)) h2 ?_
  obtain ⟨x3, q5, e⟩ := Pu.bind_some e
  obtain ⟨Z1, V1, W1, g1, u1, c1, c2, -, c4, c3⟩ := Sat.call (l1 := []) s1
  refine o_call (mc rfl (mc rfl m0)) (X.parlmake_Below nd.parlmake_Below c1 q5) fun _ H2 i2 => ?_
  obtain ⟨rfl, s2⟩ := i2
  have s3 := c3 _ _ s2
  refine o_mv (v := (vi x3)) rfl ?_
  refine c_nil ?_
  refine c_gen (P := fun tm => tm 4 = (vi x3) ∧ True) ⟨rfl, trivial⟩ ?_
  intro _ i3
  obtain ⟨h5, -⟩ := i3
  refine c_rt ?_
  obtain rfl := Option.some.inj e
  exact ⟨.inr rfl, _, (ar1 h5), _, rfl, (((s3.push (ro_it (sl_ro (h4.mono g1.z)))).pick [1, 0] rfl).weak g1 hs.zv)⟩
/-! parlmake_has -/
structure Nd.parlmake_has (T : FuncId → Option AFunc) : Prop where
  own : Has T I.parlmake_has F.parlmake_has
set_option maxHeartbeats 1000000 in
theorem X.parlmake_has {T : FuncId → Option AFunc} (nd : Nd.parlmake_has T) {Z V : PH} {H : Hp} {v1 : Value} {v2 : Value} {a0 : (List Ty.api_Rule)} {a1 : Ty.api_Rule} (hs : Sat Z V H []) (hp1 : RdS Sh.api_Rule V v1 a0) (hp2 : RdS Sh.api_Sym V v2 a1.Right) {r : Bool} (e : P.parlmake_has a0 a1 = some r) :
    G T I.parlmake_has [v1, (.agg #[(vi a1.Left), v2])] H (fun rv H' => rv = (.bool r) ∧ Sat Z V H' []) := by
  unfold P.parlmake_has at e
  refine f_mk nd.own ?_
  refine c_sr ?_
  obtain ⟨d1, rfl⟩ := (hp2).val
  refine o_box hs rfl rfl fun b1 H1 s1 => ?_
  refine o_mv (v := (.bool false)) rfl ?_
  refine c_nil ?_
  refine c_sq ?_
  refine c_sr ?_
  refine o_mv (v := v1) rfl ?_
  refine o_len rfl (hp1).len ?_
  refine o_mv (v := (vi 0)) rfl ?_
  refine c_nil ?_
  obtain ⟨y1, q3, e⟩ := Pu.bind_some e
  refine c_jn (I := fun tm H => ∃ (s4 : Unit), y1 = .out s4 ∧ (∃ (Z2 V2 : PH), Gw Z V Z2 V2 ∧ Sat Z2 V2 H [pts b1 (.rw 0 [(vi a1.Left), (.slice d1 a1.Right.length a1.Right.length)])] ∧ tm 3 = (.pointer (some ⟨b1, 0, none⟩)) ∧ tm 9 = v1 ∧ tm 10 = (vi (a0.length : Int)))) (fun k4 => ?_) ?_
  · refine c_bk ?_
    refine l_forL (xs := a0) (fun (i1 : Nat) (s2 : Unit) tm H => tm 11 = vi i1 ∧ ∃ (Z1 V1 : PH), Gw Z V Z1 V1 ∧ Sat Z1 V1 H [pts b1 (.rw 0 [(vi a1.Left), (.slice d1 a1.Right.length a1.Right.length)])] ∧ tm 3 = (.pointer (some ⟨b1, 0, none⟩)) ∧ tm 9 = v1 ∧ tm 10 = (vi (a0.length : Int))) (fun i1 x1 s2 y2 tm H3 q1 q2 j1 e1 k1 k2 k3 => ?_) (fun s2 tm H2 jf jd => ?_) q3 ⟨rfl, _, _, Gw.refl _ _, s1, rfl, rfl, rfl⟩
    · obtain ⟨hti0, Z1, V1, g1, s3, h1, h2, h3⟩ := j1
      unfold P.parlmake_has.b0 at e1
      refine c_sr ?_
      refine o_lss hti0 h3 ?_
      refine c_nil ?_
      refine c_sq ?_
      refine c_ift rfl (Int.ofNat_lt.2 q2) ?_
      refine c_sk ?_
      refine c_sq ?_
      refine c_bk ?_
      refine c_sr ?_
      refine o_idx (v := v1) h2 hti0 (hp1.mono g1.v) rfl (Pu.ix_nat.trans q1) fun p1 q4 => ?_
      refine o_lda rfl (hp1.mono g1.v) s3.v rfl q4 (Pu.ix_nat.trans q1) fun c1 h7 => ?_
      obtain ⟨w1, rfl, h8⟩ := Sh.api_Rule_op h7
      refine o_new s3 fun b2 H5 s6 => ?_
      obtain ⟨d2, rfl⟩ := (h8).val
      refine o_stB (us' := [(vi x1.Left), (.slice d2 x1.Right.length x1.Right.length)]) 0 s6 rfl rfl rfl rfl rfl rfl rfl fun H6 s7 => ?_
      refine c_nil ?_
      refine c_sq ?_
      refine c_sr ?_
      refine o_fad rfl ?_
      refine o_ldB 0 s7 rfl rfl rfl rfl ?_
      refine o_fad h1 ?_
      refine o_ldB 1 s7 rfl rfl rfl rfl ?_
      refine o_neq rfl rfl ?_
      refine o_mv (v := (.bool (decide (x1.Left ≠ a1.Left)))) rfl ?_
      refine o_jn 8 (I := fun tm H => tm 28 = .bool ((decide (x1.Left ≠ a1.Left)) || (decide ((x1.Right.length : Int) ≠ (a1.Right.length : Int)))) ∧ (∃ (Z3 V3 : PH), Gw Z1 V1 Z3 V3 ∧ Sat Z3 V3 H [pts b1 (.rw 0 [(vi a1.Left), (.slice d1 a1.Right.length a1.Right.length)]), pts b2 (.rw 0 [(vi x1.Left), (.slice d2 x1.Right.length x1.Right.length)])] ∧ tm 3 = (.pointer (some ⟨b1, 0, none⟩)) ∧ tm 6 = (.pointer (some ⟨b2, 0, none⟩)) ∧ tm 9 = v1 ∧ tm 10 = (vi (a0.length : Int)) ∧ tm 11 = (vi (i1 : Int)))) (fun k5 => ?_) ?_
      · rcases Bool.eq_false_or_eq_true (decide (x1.Left ≠ a1.Left)) with q5 | q5
        · refine o_gn rfl q5 ?_
          refine o_gn rfl q5 ?_
          refine o_gn rfl q5 ?_
          refine o_gn rfl q5 ?_
          refine o_gn rfl q5 ?_
          refine o_gn rfl q5 ?_
          refine o_gn rfl q5 ?_
          refine o_pickt (a := (.bool true)) rfl q5 rfl ?_
          exact k5 _ _ ⟨gf rfl (by first | (rw [q5]; first | done | rfl) | simp [q5]), _, _, Gw.refl _ _, (s7.pick [1, 0] rfl), h1, rfl, h2, h3, hti0⟩
        refine o_gy rfl q5 ?_
        refine o_fad rfl ?_
        refine o_gy rfl q5 ?_
        refine o_ldB 0 s7 rfl rfl rfl rfl ?_
        refine o_gy rfl q5 ?_
        refine o_len rfl (h8).len ?_
        refine o_gy rfl q5 ?_
        refine o_fad h1 ?_
        refine o_gy rfl q5 ?_
        refine o_ldB 1 s7 rfl rfl rfl rfl ?_
        refine o_gy rfl q5 ?_
        refine o_len rfl ((hp2.mono g1.v)).len ?_
        refine o_gy rfl q5 ?_
        refine o_neq rfl rfl ?_
        refine o_pickf (b := (.bool (decide ((x1.Right.length : Int) ≠ (a1.Right.length : Int))))) rfl q5 rfl ?_
        exact k5 _ _ ⟨gf rfl (by first | (rw [q5]; first | done | rfl) | simp [q5]), _, _, Gw.refl _ _, (s7.pick [1, 0] rfl), h1, rfl, h2, h3, hti0⟩
      intro _ H7 i2
      obtain ⟨h14, Z3, V3, g3, s8, h9, h10, h11, h12, h13⟩ := i2
      refine c_nil ?_
      refine c_if h14 (fun q6 => ?_) (fun q6 => ?_)
      · replace e1 := if_t q6 e1
        refine c_ex ?_
        refine e_c ?_
        refine e_h ?_
        refine c_r ?_
        refine o_add h13 rfl ?_
        refine o_mv (v := (vi (Pu.W ((i1 : Int) + 1)))) rfl ?_
        refine c_nil ?_
        exact k1 _ _ _ (Option.some.inj e1).symm ⟨(iv rfl (w_suc q2 (hp1).bd)), _, _, (g1.trans g3), (s8.pick [0] rfl), h9, h11, h12⟩
      replace e1 := ib_f q6 e1
      refine c_sk ?_
      refine c_sr ?_
      refine o_mv (v := (.bool true)) rfl ?_
      refine c_nil ?_
      refine c_sq ?_
      refine c_sr ?_
      refine o_fad h10 ?_
      refine o_ldB 1 s8 rfl rfl rfl rfl ?_
      refine o_len rfl ((h8.mono g3.v)).len ?_
      refine o_mv (v := (vi 0)) rfl ?_
      refine c_nil ?_
      obtain ⟨x3, q9, e1⟩ := Pu.bind_some e1
      obtain ⟨rfl, q11⟩ := ranO_some q9
      obtain ⟨y3, q12, e1⟩ := Pu.bind_some e1
      refine c_bk ?_
      refine l_forP (xs := (Pu.ran (x1.Right.length : Int))) (fun (i3 : Nat) (s9 : Bool) tm H => tm 32 = vi i3 ∧ ∃ (Z4 V4 : PH), Gw Z3 V3 Z4 V4 ∧ Sat Z4 V4 H [pts b1 (.rw 0 [(vi a1.Left), (.slice d1 a1.Right.length a1.Right.length)]), pts b2 (.rw 0 [(vi x1.Left), (.slice d2 x1.Right.length x1.Right.length)])] ∧ tm 3 = (.pointer (some ⟨b1, 0, none⟩)) ∧ tm 6 = (.pointer (some ⟨b2, 0, none⟩)) ∧ tm 7 = (.bool s9) ∧ tm 9 = v1 ∧ tm 10 = (vi (a0.length : Int)) ∧ tm 11 = (vi (i1 : Int)) ∧ tm 31 = (vi (x1.Right.length : Int))) (fun i3 x2 s9 s11 tm H9 q7 q8 j2 e2 k6 => ?_) (fun tm H8 jd => ?_) q12 ⟨rfl, _, _, Gw.refl _ _, s8, h9, h10, rfl, h11, h12, h13, rfl⟩
      · obtain ⟨hti1, Z4, V4, g4, s10, h15, h16, h17, h18, h19, h20, h21⟩ := j2
        unfold P.parlmake_has.b1 at e2
        have hti1 := iv hti1 (ran_x q7).symm
        refine c_sr ?_
        refine o_lss hti1 h21 ?_
        refine c_nil ?_
        refine c_sq ?_
        refine c_ift rfl (ran_lt q7) ?_
        refine c_sk ?_
        refine c_sq ?_
        refine c_bk ?_
        refine c_sr ?_
        refine o_mv (v := (vi x2)) hti1 ?_
        refine o_mv (v := (vi x2)) rfl ?_
        refine c_nil ?_
        refine d_start s10 fun n1 H10 s12 q13 d3 => ?_
        refine d_mv (v := (.bool s9)) h17 ?_
        refine d_mv (v := (.bool s9)) rfl ?_
        obtain ⟨y4, e3, e2⟩ := Pu.bind_some e2
        refine d_jn 12 (I := fun tm H => DD n1 14 (List.length F.parlmake_has.r9) H ∧ (∃ (Z5 V5 : PH), Gw Z4 V4 Z5 V5 ∧ Sat Z5 V5 H [pts b1 (.rw 0 [(vi a1.Left), (.slice d1 a1.Right.length a1.Right.length)]), pts b2 (.rw 0 [(vi x1.Left), (.slice d2 x1.Right.length x1.Right.length)])] ∧ tm 3 = (.pointer (some ⟨b1, 0, none⟩)) ∧ tm 6 = (.pointer (some ⟨b2, 0, none⟩)) ∧ tm 9 = v1 ∧ tm 10 = (vi (a0.length : Int)) ∧ tm 11 = (vi (i1 : Int)) ∧ tm 31 = (vi (x1.Right.length : Int)) ∧ tm 32 = (vi x2) ∧ tm 48 = (.bool y4))) (fun k7 => ?_) ?_
        · rcases Bool.eq_false_or_eq_true s9 with q14 | q14
          · replace e3 := if_t q14 e3
            refine d_want rfl q14 ?_
            refine d_fad h16 ?_
            refine d_want rfl q14 ?_
            refine d_ldB (q13 _ _ (ph_some.2 ⟨s12.curB 1 rfl, by simp⟩)) 1 s12 rfl rfl rfl rfl ?_
            refine d_want rfl q14 ?_
            refine d_mv (v := (vi x2)) rfl ?_
            refine d_want rfl q14 ?_
            obtain ⟨x4, q15, e3⟩ := Pu.bind_some e3
            refine d_idx (v := (.slice d2 x1.Right.length x1.Right.length)) rfl rfl (h8.mono (g3.trans g4).v) rfl q15 fun p2 q16 => ?_
            refine d_want rfl q14 ?_
            refine d_lda (RdS.low (h8.mono (g3.trans g4).v) s12.v q13) rfl (h8.mono (g3.trans g4).v) s12.v rfl q16 q15 fun c2 h30 => ?_
            obtain rfl := h30
            refine d_want rfl q14 ?_
            refine d_fad h15 ?_
            refine d_want rfl q14 ?_
            refine d_ldB (q13 _ _ (ph_some.2 ⟨s12.curB 0 rfl, by simp⟩)) 0 s12 rfl rfl rfl rfl ?_
            refine d_want rfl q14 ?_
            refine d_mv (v := (vi x2)) rfl ?_
            refine d_want rfl q14 ?_
            obtain ⟨x5, q17, e3⟩ := Pu.bind_some e3
            refine d_idx (v := (.slice d1 a1.Right.length a1.Right.length)) rfl rfl (hp2.mono (g1.trans (g3.trans g4)).v) rfl q17 fun p3 q18 => ?_
            refine d_want rfl q14 ?_
            refine d_lda (RdS.low (hp2.mono (g1.trans (g3.trans g4)).v) s12.v q13) rfl (hp2.mono (g1.trans (g3.trans g4)).v) s12.v rfl q18 q17 fun c3 h31 => ?_
            obtain rfl := h31
            refine d_want rfl q14 ?_
            refine d_eq (q_api_Sym ..) rfl rfl ?_
            refine d_pickt (a := (.bool ((x4.Term == x5.Term) && (x4.N == x5.N)))) rfl q14 rfl ?_
            obtain rfl := Option.some.inj e3
            exact k7 _ _ _ ⟨d3.up rfl, _, _, Gw.refl _ _, s12, h15, h16, h18, h19, h20, h21, hti1, rfl⟩
          replace e3 := ib_f q14 e3
          refine d_gn rfl q14 ?_
          refine d_gn rfl q14 ?_
          refine d_gn rfl q14 ?_
          refine d_gn rfl q14 ?_
          refine d_gn rfl q14 ?_
          refine d_gn rfl q14 ?_
          refine d_gn rfl q14 ?_
          refine d_gn rfl q14 ?_
          refine d_gn rfl q14 ?_
          refine d_gn rfl q14 ?_
          refine d_gn rfl q14 ?_
          refine d_pickf (b := (.bool false)) rfl q14 rfl ?_
          obtain rfl := Option.some.inj e3
          exact k7 _ _ _ ⟨d3.up rfl, _, _, Gw.refl _ _, s12, h15, h16, h18, h19, h20, h21, hti1, rfl⟩
        intro _ H11 _ i4
        obtain ⟨d4, Z5, V5, g5, s13, h22, h23, h24, h25, h26, h27, h28, h29⟩ := i4
        refine d_mv (v := (.bool y4)) h29 ?_
        refine d_nil dc_nil ?_
        refine c_end ?_
        refine c_r ?_
        refine o_add h28 rfl ?_
        refine o_mv (v := (vi (Pu.W (x2 + 1)))) rfl ?_
        refine c_nil ?_
        obtain rfl := Option.some.inj e2
        exact k6 _ _ ⟨(iv rfl (w_sucR q7 q11)), _, _, (g4.trans g5), s13, h22, h23, rfl, h24, h25, h26, h27⟩
      obtain ⟨hte1, Z6, V6, g6, s14, h32, h33, h34, h35, h36, h37, h38⟩ := jd
      refine c_sr ?_
      refine o_lss hte1 h38 ?_
      refine c_nil ?_
      refine c_sq ?_
      refine c_iff rfl (ran_done _) ?_
      refine c_ex ?_
      refine e_c ?_
      refine e_c ?_
      refine e_h ?_
      refine c_sr ?_
      refine o_mv (v := (.bool y3)) h34 ?_
      refine c_nil ?_
      refine c_if rfl (fun q19 => ?_) (fun q19 => ?_)
      · replace e1 := if_t q19 e1
        refine c_sr ?_
        refine o_mv (v := (.bool true)) rfl ?_
        refine c_nil ?_
        refine c_rt ?_
        have e4 := fin_r (k3 _ (Option.some.inj e1).symm) e
        obtain rfl := Option.some.inj e4
        exact ⟨.inr rfl, _, (ar1 rfl), rfl, ((s14.pick [] rfl).weak (g1.trans (g3.trans g6)) hs.zv)⟩
      replace e1 := ib_f q19 e1
      refine c_sk ?_
      refine c_end ?_
      refine c_r ?_
      refine o_add h37 rfl ?_
      refine o_mv (v := (vi (Pu.W ((i1 : Int) + 1)))) rfl ?_
      refine c_nil ?_
      exact k1 _ _ _ (Option.some.inj e1).symm ⟨(iv rfl (w_suc q2 (hp1).bd)), _, _, (g1.trans (g3.trans g6)), (s14.pick [0] rfl), h32, h35, h36⟩
    · obtain ⟨hte0, Z7, V7, g7, s15, h39, h40, h41⟩ := jd
      refine c_sr ?_
      refine o_lss hte0 h41 ?_
      refine c_nil ?_
      refine c_sq ?_
      refine c_iff rfl (Int.lt_irrefl _) ?_
      refine c_ex ?_
      refine e_c ?_
      refine e_c ?_
      refine e_h ?_
      exact k4 _ _ ⟨_, jf, _, _, g7, s15, h39, h40, h41⟩
  intro _ H4 i5
  obtain ⟨s4, f1, Z2, V2, g2, s5, h4, h5, h6⟩ := i5
  replace e := fin_o f1 e
  refine c_sr ?_
  refine o_mv (v := (.bool false)) rfl ?_
  refine c_nil ?_
  refine c_rt ?_
  obtain rfl := Option.some.inj e
  exact ⟨.inr rfl, _, (ar1 rfl), rfl, ((s5.pick [] rfl).weak g2 hs.zv)⟩
/-! parlmake_Grammar -/
structure Nd.parlmake_Grammar (T : FuncId → Option AFunc) : Prop where
  own : Has T I.parlmake_Grammar F.parlmake_Grammar
  parlmake_stream_next : Nd.parlmake_stream_next T
  parlmake_has : Nd.parlmake_has T
set_option maxHeartbeats 1000000 in
theorem X.parlmake_Grammar {T : FuncId → Option AFunc} (nd : Nd.parlmake_Grammar T) {Z V : PH} {H : Hp} {v1 : Value} {a0 : (List Int)} (hs : Sat Z V H []) (hp1 : RdS Sh.int Z v1 a0) {r : Ty.api_Grammar} (e : P.parlmake_Grammar a0 = some r) :
    G T I.parlmake_Grammar [v1] H (fun rv H' => ∃ (u1 : Value), rv = (.agg #[(vi r.Terms), (vi r.Nons), (vi r.Start), u1]) ∧ Sat Z V H' [It.sl (Sh.ro Sh.api_Rule) u1 r.Rules]) := by
  unfold P.parlmake_Grammar at e
  refine f_mk nd.own ?_
  refine c_sr ?_
  refine o_new hs fun b1 H1 s1 => ?_
  refine c_nil ?_
  refine c_sr ?_
  refine o_mv (v := v1) rfl ?_
  obtain ⟨d1, rfl⟩ := (hp1).val
  refine o_bld (qs := [(0, 1, (.slice d1 a0.length a0.length))]) rfl rfl ?_
  refine o_box s1 rfl rfl fun b2 H2 s2 => ?_
  refine o_mv (v := (.pointer (some ⟨b2, 0, none⟩))) rfl ?_
  refine c_nil ?_
  refine c_sr ?_
  refine o_mv (v := (.pointer (some ⟨b2, 0, none⟩))) rfl ?_
  obtain ⟨x1, q1, e⟩ := Pu.bind_some e
  obtain ⟨Z1, V1, W1, g1, u1, c1, c2, -, c4, c3⟩ := Sat.call (l1 := [pts b2 (.rw 0 [(.slice d1 a0.length a0.length)])]) (l2 := [pts b1 (.rw 0 [(vi 0), (vi 0), (vi 0), (.slice none 0 0)])]) s2
  refine o_call (mc rfl (mc rfl m0)) (X.parlmake_stream_next nd.parlmake_stream_next (a0 := (Ty.parlmake_stream.mk a0)) c1 (hp1.mono g1.z) q1) fun _ H3 i1 => ?_
  obtain ⟨w1, rfl, s3⟩ := i1
  have s4 := c3 _ _ s3
  obtain ⟨Z2, V2, g2, s5, h1⟩ := (s4.pull 1 rfl).frzR
  refine o_add rfl rfl ?_
  refine o_mv (v := (.pointer (some ⟨b2, 0, none⟩))) rfl ?_
  obtain ⟨x2, q2, e⟩ := Pu.bind_some e
  obtain ⟨d2, rfl⟩ := (h1).val
  obtain ⟨Z3, V3, W2, g3, u2, c5, c6, -, c8, c7⟩ := Sat.call (l1 := [pts b2 (.rw 0 [(.slice d2 x1.1.l.length x1.1.l.length)])]) (l2 := [pts b1 (.rw 0 [(vi 0), (vi 0), (vi 0), (.slice none 0 0)])]) s5
  refine o_call (mc rfl (mc rfl m0)) (X.parlmake_stream_next nd.parlmake_stream_next (a0 := x1.1) c5 (h1.mono g3.z) q2) fun _ H4 i2 => ?_
  obtain ⟨w2, rfl, s6⟩ := i2
  have s7 := c7 _ _ s6
  obtain ⟨Z4, V4, g4, s8, h2⟩ := (s7.pull 1 rfl).frzR
  refine o_add rfl rfl ?_
  refine o_bld (qs := [(0, 1, (vi (Pu.W (1 + x1.2)))), (1, 1, (vi (Pu.W (1 + x2.2))))]) rfl rfl ?_
  refine o_new s8 fun b3 H5 s9 => ?_
  refine o_stB (us' := [(vi (Pu.W (1 + x1.2))), (vi (Pu.W (1 + x2.2))), (vi 0), (.slice none 0 0)]) 0 s9 rfl rfl rfl rfl rfl rfl rfl fun H6 s10 => ?_
  refine c_nil ?_
  refine c_gen (P := fun tm => tm 2 = (.pointer (some ⟨b1, 0, none⟩)) ∧ tm 3 = (.pointer (some ⟨b2, 0, none⟩)) ∧ tm 4 = (.pointer (some ⟨b3, 0, none⟩)) ∧ True) ⟨rfl, rfl, rfl, trivial⟩ ?_
  intro _ i3
  obtain ⟨h3, h4, h5, -⟩ := i3
  refine c_sr ?_
  refine o_mv (v := (.pointer (some ⟨b2, 0, none⟩))) h4 ?_
  refine o_fad h5 ?_
  refine o_ldB 0 s10 rfl rfl rfl rfl ?_
  obtain ⟨x3, q3, e⟩ := Pu.bind_some e
  obtain ⟨d3, rfl⟩ := (h2).val
  obtain ⟨Z5, V5, W3, g5, u3, c9, c10, -, c12, c11⟩ := Sat.call (l1 := [pts b2 (.rw 0 [(.slice d3 x2.1.l.length x2.1.l.length)])]) (l2 := [pts b3 (.rw 0 [(vi (Pu.W (1 + x1.2))), (vi (Pu.W (1 + x2.2))), (vi 0), (.slice none 0 0)]), pts b1 (.rw 0 [(vi 0), (vi 0), (vi 0), (.slice none 0 0)])]) (s10.pick [1, 0, 2] rfl)
  refine o_call (mc rfl (mc rfl m0)) (X.parlmake_stream_next nd.parlmake_stream_next (a0 := x2.1) c9 (h2.mono g5.z) q3) fun _ H7 i4 => ?_
  obtain ⟨w3, rfl, s11⟩ := i4
  have s12 := c11 _ _ s11
  obtain ⟨Z6, V6, g6, s13, h6⟩ := (s12.pull 1 rfl).frzR
  refine o_fad h5 ?_
  refine o_stB (us' := [(vi (Pu.W (1 + x1.2))), (vi (Pu.W (1 + x2.2))), (vi x3.2), (.slice none 0 0)]) 1 s13 rfl rfl rfl rfl rfl rfl rfl fun H8 s14 => ?_
  refine c_nil ?_
  refine c_sq ?_
  refine c_sr ?_
  refine o_mv (v := (.pointer (some ⟨b2, 0, none⟩))) h4 ?_
  obtain ⟨x4, q4, e⟩ := Pu.bind_some e
  obtain ⟨d4, rfl⟩ := (h6).val
  obtain ⟨Z7, V7, W4, g7, u4, c13, c14, -, c16, c15⟩ := Sat.call (l1 := [pts b2 (.rw 0 [(.slice d4 x3.1.l.length x3.1.l.length)])]) (l2 := [pts b3 (.rw 0 [(vi (Pu.W (1 + x1.2))), (vi (Pu.W (1 + x2.2))), (vi x3.2), (.slice none 0 0)]), pts b1 (.rw 0 [(vi 0), (vi 0), (vi 0), (.slice none 0 0)])]) s14
  refine o_call (mc rfl (mc rfl m0)) (X.parlmake_stream_next nd.parlmake_stream_next (a0 := x3.1) c13 (h6.mono g7.z) q4) fun _ H9 i5 => ?_
  obtain ⟨w4, rfl, s15⟩ := i5
  have s16 := c15 _ _ s15
  obtain ⟨Z8, V8, g8, s17, h7⟩ := (s16.pull 1 rfl).frzR
  refine o_add rfl rfl ?_
  refine o_mv (v := (vi 0)) rfl ?_
  refine c_nil ?_
  obtain ⟨x6, q7, e⟩ := Pu.bind_some e
  obtain ⟨rfl, q9⟩ := ranO_some q7
  obtain ⟨y1, q10, e⟩ := Pu.bind_some e
  refine c_bk ?_
  refine l_forP (xs := (Pu.ran (Pu.W (1 + x4.2)))) (fun (i6 : Nat) (s18 : ((List Int) × (List Ty.api_Rule))) tm H => tm 24 = vi i6 ∧ ∃ (Z9 V9 : PH) (w5 : Value) (w6 : Value), Gw Z8 V8 Z9 V9 ∧ Sat Z9 V9 H [pts b1 (.rw 0 [(vi 0), (vi 0), (vi 0), (.slice none 0 0)]), pts b2 (.rw 0 [w6]), pts b3 (.rw 0 [(vi (Pu.W (1 + x1.2))), (vi (Pu.W (1 + x2.2))), (vi x3.2), w5]), It.sl (Sh.ro Sh.api_Rule) w5 s18.2] ∧ tm 2 = (.pointer (some ⟨b1, 0, none⟩)) ∧ tm 3 = (.pointer (some ⟨b2, 0, none⟩)) ∧ tm 4 = (.pointer (some ⟨b3, 0, none⟩)) ∧ tm 23 = (vi (Pu.W (1 + x4.2))) ∧ RdS Sh.int Z9 w6 s18.1) (fun i6 x5 s18 s20 tm H11 q5 q6 j1 e1 k1 => ?_) (fun tm H10 jd => ?_) q10 ⟨rfl, _, _, _, _, Gw.refl _ _, ((s17.push (sl_nil (s := (Sh.ro Sh.api_Rule)))).pick [3, 1, 2, 0] rfl), h3, h4, h5, rfl, h7⟩
  · obtain ⟨hti0, Z9, V9, w5, w6, g9, s19, h9, h10, h11, h12, h8⟩ := j1
    unfold P.parlmake_Grammar.b0 at e1
    have hti0 := iv hti0 (ran_x q5).symm
    refine c_sr ?_
    refine o_lss hti0 h12 ?_
    refine c_nil ?_
    refine c_sq ?_
    refine c_ift rfl (ran_lt q5) ?_
    refine c_sk ?_
    refine c_sq ?_
    refine c_bk ?_
    refine c_sr ?_
    refine o_mv (v := (.pointer (some ⟨b2, 0, none⟩))) h10 ?_
    refine o_fad h11 ?_
    obtain ⟨d5, rfl⟩ := ((s19.curS (s := (Sh.ro Sh.api_Rule)) 3 rfl)).val
    refine o_ldB 2 s19 rfl rfl rfl rfl ?_
    obtain ⟨x7, q11, e1⟩ := Pu.bind_some e1
    obtain ⟨d6, rfl⟩ := (h8).val
    obtain ⟨Z10, V10, W5, g10, u5, c17, c18, -, c20, c19⟩ := Sat.call (l1 := [pts b2 (.rw 0 [(.slice d6 s18.1.length s18.1.length)])]) (l2 := [pts b1 (.rw 0 [(vi 0), (vi 0), (vi 0), (.slice none 0 0)]), pts b3 (.rw 0 [(vi (Pu.W (1 + x1.2))), (vi (Pu.W (1 + x2.2))), (vi x3.2), (.slice d5 s18.2.length s18.2.length)]), It.sl (Sh.ro Sh.api_Rule) (.slice d5 s18.2.length s18.2.length) s18.2]) (s19.pick [1, 0, 2, 3] rfl)
    refine o_call (mc rfl (mc rfl m0)) (X.parlmake_stream_next nd.parlmake_stream_next (a0 := (Ty.parlmake_stream.mk s18.1)) c17 (h8.mono g10.z) q11) fun _ H12 i7 => ?_
    obtain ⟨w7, rfl, s21⟩ := i7
    have s22 := c19 _ _ s21
    obtain ⟨Z11, V11, g11, s23, h13⟩ := (s22.pull 1 rfl).frzR
    refine o_bld (qs := [(0, 1, (vi x7.2))]) rfl rfl ?_
    refine o_new s23 fun b4 H13 s24 => ?_
    refine o_stB (us' := [(vi x7.2), (.slice none 0 0)]) 0 s24 rfl rfl rfl rfl rfl rfl rfl fun H14 s25 => ?_
    refine c_nil ?_
    refine c_sq ?_
    refine c_sr ?_
    refine o_mv (v := (.pointer (some ⟨b2, 0, none⟩))) h10 ?_
    obtain ⟨x8, q12, e1⟩ := Pu.bind_some e1
    obtain ⟨d7, rfl⟩ := (h13).val
    obtain ⟨Z12, V12, W6, g12, u6, c21, c22, -, c24, c23⟩ := Sat.call (l1 := [pts b2 (.rw 0 [(.slice d7 x7.1.l.length x7.1.l.length)])]) (l2 := [pts b4 (.rw 0 [(vi x7.2), (.slice none 0 0)]), pts b1 (.rw 0 [(vi 0), (vi 0), (vi 0), (.slice none 0 0)]), pts b3 (.rw 0 [(vi (Pu.W (1 + x1.2))), (vi (Pu.W (1 + x2.2))), (vi x3.2), (.slice d5 s18.2.length s18.2.length)]), It.sl (Sh.ro Sh.api_Rule) (.slice d5 s18.2.length s18.2.length) s18.2]) (s25.pick [1, 0, 2, 3, 4] rfl)
    refine o_call (mc rfl (mc rfl m0)) (X.parlmake_stream_next nd.parlmake_stream_next (a0 := x7.1) c21 (h13.mono g12.z) q12) fun _ H15 i8 => ?_
    obtain ⟨w8, rfl, s26⟩ := i8
    have s27 := c23 _ _ s26
    obtain ⟨Z13, V13, g13, s28, h14⟩ := (s27.pull 1 rfl).frzR
    refine o_mv (v := (vi 0)) rfl ?_
    refine c_nil ?_
    refine c_gen (P := fun tm => tm 2 = (.pointer (some ⟨b1, 0, none⟩)) ∧ tm 3 = (.pointer (some ⟨b2, 0, none⟩)) ∧ tm 4 = (.pointer (some ⟨b3, 0, none⟩)) ∧ tm 5 = (.pointer (some ⟨b4, 0, none⟩)) ∧ tm 23 = (vi (Pu.W (1 + x4.2))) ∧ tm 24 = (vi x5) ∧ tm 32 = (vi x8.2) ∧ tm 33 = (vi 0) ∧ True) ⟨h9, h10, h11, rfl, h12, hti0, rfl, rfl, trivial⟩ ?_
    intro _ i9
    obtain ⟨h15, h16, h17, h18, h19, h20, h21, h22, -⟩ := i9
    obtain ⟨x10, q15, e1⟩ := Pu.bind_some e1
    obtain ⟨rfl, q17⟩ := ranO_some q15
    obtain ⟨y2, q18, e1⟩ := Pu.bind_some e1
    refine c_bk ?_
    refine l_forP (xs := (Pu.ran x8.2)) (fun (i10 : Nat) (s29 : ((List Int) × (List Ty.api_Sym))) tm H => tm 33 = vi i10 ∧ ∃ (Z14 V14 : PH) (w9 : Value) (w10 : Value), Gw Z13 V13 Z14 V14 ∧ Sat Z14 V14 H [pts b1 (.rw 0 [(vi 0), (vi 0), (vi 0), (.slice none 0 0)]), pts b2 (.rw 0 [w10]), pts b3 (.rw 0 [(vi (Pu.W (1 + x1.2))), (vi (Pu.W (1 + x2.2))), (vi x3.2), (.slice d5 s18.2.length s18.2.length)]), It.sl (Sh.ro Sh.api_Rule) (.slice d5 s18.2.length s18.2.length) s18.2, pts b4 (.rw 0 [(vi x7.2), w9]), It.sl (Sh.ro Sh.api_Sym) w9 s29.2] ∧ tm 2 = (.pointer (some ⟨b1, 0, none⟩)) ∧ tm 3 = (.pointer (some ⟨b2, 0, none⟩)) ∧ tm 4 = (.pointer (some ⟨b3, 0, none⟩)) ∧ tm 5 = (.pointer (some ⟨b4, 0, none⟩)) ∧ tm 23 = (vi (Pu.W (1 + x4.2))) ∧ tm 24 = (vi x5) ∧ tm 32 = (vi x8.2) ∧ RdS Sh.int Z14 w10 s29.1) (fun i10 x9 s29 s31 tm H17 q13 q14 j2 e2 k2 => ?_) (fun tm H16 jd => ?_) q18 ⟨h22, _, _, _, _, Gw.refl _ _, ((s28.push (sl_nil (s := (Sh.ro Sh.api_Sym)))).pick [3, 1, 4, 5, 2, 0] rfl), h15, h16, h17, h18, h19, h20, h21, h14⟩
    · obtain ⟨hti1, Z14, V14, w9, w10, g14, s30, h24, h25, h26, h27, h28, h29, h30, h23⟩ := j2
      unfold P.parlmake_Grammar.b1 at e2
      have hti1 := iv hti1 (ran_x q13).symm
      refine c_sr ?_
      refine o_lss hti1 h30 ?_
      refine c_nil ?_
      refine c_sq ?_
      refine c_ift rfl (ran_lt q13) ?_
      refine c_sk ?_
      refine c_sq ?_
      refine c_bk ?_
      refine c_sr ?_
      refine o_mv (v := (.pointer (some ⟨b2, 0, none⟩))) h25 ?_
      obtain ⟨x11, q19, e2⟩ := Pu.bind_some e2
      obtain ⟨d8, rfl⟩ := (h23).val
      obtain ⟨Z15, V15, W7, g15, u7, c25, c26, -, c28, c27⟩ := Sat.call (l1 := [pts b2 (.rw 0 [(.slice d8 s29.1.length s29.1.length)])]) (l2 := [pts b1 (.rw 0 [(vi 0), (vi 0), (vi 0), (.slice none 0 0)]), pts b3 (.rw 0 [(vi (Pu.W (1 + x1.2))), (vi (Pu.W (1 + x2.2))), (vi x3.2), (.slice d5 s18.2.length s18.2.length)]), It.sl (Sh.ro Sh.api_Rule) (.slice d5 s18.2.length s18.2.length) s18.2, pts b4 (.rw 0 [(vi x7.2), w9]), It.sl (Sh.ro Sh.api_Sym) w9 s29.2]) (s30.pick [1, 0, 2, 3, 4, 5] rfl)
      refine o_call (mc rfl (mc rfl m0)) (X.parlmake_stream_next nd.parlmake_stream_next (a0 := (Ty.parlmake_stream.mk s29.1)) c25 (h23.mono g15.z) q19) fun _ H18 i11 => ?_
      obtain ⟨w11, rfl, s32⟩ := i11
      have s33 := c27 _ _ s32
      obtain ⟨Z16, V16, g16, s34, h31⟩ := (s33.pull 1 rfl).frzR
      refine o_eql rfl rfl ?_
      refine c_nil ?_
      obtain ⟨y3, e3, e2⟩ := Pu.bind_some e2
      refine c_jn (I := fun tm H => ∃ (Z17 V17 : PH) (w12 : Value) (w13 : Value), Gw Z16 V16 Z17 V17 ∧ Sat Z17 V17 H [pts b1 (.rw 0 [(vi 0), (vi 0), (vi 0), (.slice none 0 0)]), pts b2 (.rw 0 [w13]), pts b3 (.rw 0 [(vi (Pu.W (1 + x1.2))), (vi (Pu.W (1 + x2.2))), (vi x3.2), (.slice d5 s18.2.length s18.2.length)]), It.sl (Sh.ro Sh.api_Rule) (.slice d5 s18.2.length s18.2.length) s18.2, pts b4 (.rw 0 [(vi x7.2), w12]), It.sl (Sh.ro Sh.api_Sym) w12 y3.2] ∧ tm 2 = (.pointer (some ⟨b1, 0, none⟩)) ∧ tm 3 = (.pointer (some ⟨b2, 0, none⟩)) ∧ tm 4 = (.pointer (some ⟨b3, 0, none⟩)) ∧ tm 5 = (.pointer (some ⟨b4, 0, none⟩)) ∧ tm 23 = (vi (Pu.W (1 + x4.2))) ∧ tm 24 = (vi x5) ∧ tm 32 = (vi x8.2) ∧ tm 33 = (vi x9) ∧ RdS Sh.int Z17 w13 y3.1) (fun k3 => ?_) ?_
      · refine c_ifd rfl (fun q20 => ?_) (fun q20 => ?_)
        · replace e3 := if_t q20 e3
          refine d_start s34 fun n1 H20 s36 q21 d9 => ?_
          refine d_fad h27 ?_
          obtain ⟨d10, rfl⟩ := ((s36.curS (s := (Sh.ro Sh.api_Sym)) 5 rfl)).val
          refine d_ldB (q21 _ _ (ph_some.2 ⟨s36.curB 4 rfl, by simp⟩)) 4 s36 rfl rfl rfl rfl ?_
          refine d_mv (v := (.pointer (some ⟨b2, 0, none⟩))) h25 ?_
          refine d_fad h26 ?_
          refine d_ldB (q21 _ _ (ph_some.2 ⟨s36.curB 2 rfl, by simp⟩)) 2 s36 rfl rfl rfl rfl ?_
          obtain ⟨x12, q22, e3⟩ := Pu.bind_some e3
          obtain ⟨d11, rfl⟩ := (h31).val
          obtain ⟨Z18, V18, W8, g18, u8, c29, c30, -, c32, c31⟩ := Sat.call (l1 := [pts b2 (.rw 0 [(.slice d11 x11.1.l.length x11.1.l.length)])]) (l2 := [pts b1 (.rw 0 [(vi 0), (vi 0), (vi 0), (.slice none 0 0)]), pts b3 (.rw 0 [(vi (Pu.W (1 + x1.2))), (vi (Pu.W (1 + x2.2))), (vi x3.2), (.slice d5 s18.2.length s18.2.length)]), It.sl (Sh.ro Sh.api_Rule) (.slice d5 s18.2.length s18.2.length) s18.2, pts b4 (.rw 0 [(vi x7.2), (.slice d10 s29.2.length s29.2.length)]), It.sl (Sh.ro Sh.api_Sym) (.slice d10 s29.2.length s29.2.length) s29.2]) s36
          refine d_call (mc rfl (mc rfl m0)) (X.parlmake_stream_next nd.parlmake_stream_next (a0 := x11.1) c29 (h31.mono g18.z) q22) fun _ H21 i12 k4 => ?_
          have d12 := d9.keep k4
          obtain ⟨w14, rfl, s37⟩ := i12
          have s38 := c31 _ _ s37
          obtain ⟨Z19, V19, g19, s39, h41⟩ := (s38.pull 1 rfl).frzR
          refine d_bld (qs := [(0, 1, (.bool true)), (1, 1, (vi x12.2))]) rfl rfl ?_
          refine d_bsl (s := (Sh.ro Sh.api_Sym)) (us := [(.bool true), (vi x12.2)]) (qs := [(0, 2, (.agg #[(.bool true), (vi x12.2)]))]) (xs := [(Ty.api_Sym.mk true x12.2)]) (d12.get 7 rfl rfl) s39 (Sh.ro_lt _) rfl rfl rfl (Els.cons (c := [(.bool true), (vi x12.2)]) rfl Els.nil) rfl rfl fun w15 H22 s40 k5 => ?_
          have d13 := d12.next 7 rfl k5
          obtain ⟨Z20, V20, g20, s41, h42⟩ := s40.frzS 0 rfl
          replace h42 := h42.of_ro
          obtain ⟨x13, q23, e3⟩ := Pu.bind_some e3
          refine d_app 5 s41 rfl (Sh.ro_lt _) rfl rfl rfl rfl h42 s41.z (fun h => h) (by decide) q23 fun w16 H23 s42 k6 => ?_
          have d14 := d13.keep k6
          refine d_fad h27 ?_
          obtain ⟨d15, rfl⟩ := ((s42.curS (s := (Sh.ro Sh.api_Sym)) 5 rfl)).val
          refine d_stB (us' := [(vi x7.2), (.slice d15 x13.length x13.length)]) 4 s42 rfl rfl rfl rfl rfl rfl rfl fun H24 s43 k7 => ?_
          have d16 := d14.keep k7
          refine d_nil (dc_mk rfl (tra (tra (tra (tra (tra (tra (tra (tra (tra (tra (tre (trl tr0)))))))))))) (tra (tra (tra (tra (tra (tra (tre (trl (trl (trl (trl (trl tr0)))))))))))) (tra (tra (tra (tra (tra (tre (trl (trl (trl (trl (trl (trl tr0)))))))))))) (ag_ldx (w := (.slice d10 s29.2.length s29.2.length)) w_0 rfl (ldB_v 4 s36 rfl rfl rfl) (ldB_v 4 s36 rfl rfl rfl) (by simp [vsame, vsame1])) (ag_ldx (w := (.slice d10 s29.2.length s29.2.length)) w_0 rfl (ldB_v 4 s36 rfl rfl rfl) (ldB_v 4 s39 rfl rfl rfl) (by simp [vsame, vsame1])) dc_nil) ?_
          obtain rfl := Option.some.inj e3
          exact k3 _ _ ⟨_, _, _, _, (g18.trans (g19.trans g20)), (s43.pick [1, 0, 2, 3, 4, 5] rfl), h24, h25, h26, h27, h28, h29, h30, hti1, (h41.mono g20.z)⟩
        replace e3 := if_f q20 e3
        refine d_start s34 fun n2 H25 s44 q24 d17 => ?_
        refine d_fad h27 ?_
        obtain ⟨d18, rfl⟩ := ((s44.curS (s := (Sh.ro Sh.api_Sym)) 5 rfl)).val
        refine d_ldB (q24 _ _ (ph_some.2 ⟨s44.curB 4 rfl, by simp⟩)) 4 s44 rfl rfl rfl rfl ?_
        refine d_mv (v := (.pointer (some ⟨b2, 0, none⟩))) h25 ?_
        refine d_fad h26 ?_
        refine d_ldB (q24 _ _ (ph_some.2 ⟨s44.curB 2 rfl, by simp⟩)) 2 s44 rfl rfl rfl rfl ?_
        obtain ⟨x14, q25, e3⟩ := Pu.bind_some e3
        obtain ⟨d19, rfl⟩ := (h31).val
        obtain ⟨Z21, V21, W9, g21, u9, c33, c34, -, c36, c35⟩ := Sat.call (l1 := [pts b2 (.rw 0 [(.slice d19 x11.1.l.length x11.1.l.length)])]) (l2 := [pts b1 (.rw 0 [(vi 0), (vi 0), (vi 0), (.slice none 0 0)]), pts b3 (.rw 0 [(vi (Pu.W (1 + x1.2))), (vi (Pu.W (1 + x2.2))), (vi x3.2), (.slice d5 s18.2.length s18.2.length)]), It.sl (Sh.ro Sh.api_Rule) (.slice d5 s18.2.length s18.2.length) s18.2, pts b4 (.rw 0 [(vi x7.2), (.slice d18 s29.2.length s29.2.length)]), It.sl (Sh.ro Sh.api_Sym) (.slice d18 s29.2.length s29.2.length) s29.2]) s44
        refine d_call (mc rfl (mc rfl m0)) (X.parlmake_stream_next nd.parlmake_stream_next (a0 := x11.1) c33 (h31.mono g21.z) q25) fun _ H26 i13 k8 => ?_
        have d20 := d17.keep k8
        obtain ⟨w17, rfl, s45⟩ := i13
        have s46 := c35 _ _ s45
        obtain ⟨Z22, V22, g22, s47, h43⟩ := (s46.pull 1 rfl).frzR
        refine d_bld (qs := [(1, 1, (vi x14.2))]) rfl rfl ?_
        refine d_bsl (s := (Sh.ro Sh.api_Sym)) (us := [(.bool false), (vi x14.2)]) (qs := [(0, 2, (.agg #[(.bool false), (vi x14.2)]))]) (xs := [(Ty.api_Sym.mk false x14.2)]) (d20.get 7 rfl rfl) s47 (Sh.ro_lt _) rfl rfl rfl (Els.cons (c := [(.bool false), (vi x14.2)]) rfl Els.nil) rfl rfl fun w18 H27 s48 k9 => ?_
        have d21 := d20.next 7 rfl k9
        obtain ⟨Z23, V23, g23, s49, h44⟩ := s48.frzS 0 rfl
        replace h44 := h44.of_ro
        obtain ⟨x15, q26, e3⟩ := Pu.bind_some e3
        refine d_app 5 s49 rfl (Sh.ro_lt _) rfl rfl rfl rfl h44 s49.z (fun h => h) (by decide) q26 fun w19 H28 s50 k10 => ?_
        have d22 := d21.keep k10
        refine d_fad h27 ?_
        obtain ⟨d23, rfl⟩ := ((s50.curS (s := (Sh.ro Sh.api_Sym)) 5 rfl)).val
        refine d_stB (us' := [(vi x7.2), (.slice d23 x15.length x15.length)]) 4 s50 rfl rfl rfl rfl rfl rfl rfl fun H29 s51 k11 => ?_
        have d24 := d22.keep k11
        refine d_nil (dc_mk rfl (tra (tra (tra (tra (tra (tra (tra (tra (tra (tra (tre (trl tr0)))))))))))) (tra (tra (tra (tra (tra (tra (tre (trl (trl (trl (trl (trl tr0)))))))))))) (tra (tra (tra (tra (tra (tre (trl (trl (trl (trl (trl (trl tr0)))))))))))) (ag_ldx (w := (.slice d18 s29.2.length s29.2.length)) w_0 rfl (ldB_v 4 s44 rfl rfl rfl) (ldB_v 4 s44 rfl rfl rfl) (by simp [vsame, vsame1])) (ag_ldx (w := (.slice d18 s29.2.length s29.2.length)) w_0 rfl (ldB_v 4 s44 rfl rfl rfl) (ldB_v 4 s47 rfl rfl rfl) (by simp [vsame, vsame1])) dc_nil) ?_
        obtain rfl := Option.some.inj e3
        exact k3 _ _ ⟨_, _, _, _, (g21.trans (g22.trans g23)), (s51.pick [1, 0, 2, 3, 4, 5] rfl), h24, h25, h26, h27, h28, h29, h30, hti1, (h43.mono g23.z)⟩
      intro _ H19 i14
      obtain ⟨Z17, V17, w12, w13, g17, s35, h33, h34, h35, h36, h37, h38, h39, h40, h32⟩ := i14
      refine c_end ?_
      refine c_r ?_
      refine o_add h40 rfl ?_
      refine o_mv (v := (vi (Pu.W (x9 + 1)))) rfl ?_
      refine c_nil ?_
      obtain rfl := Option.some.inj e2
      exact k2 _ _ ⟨(iv rfl (w_sucR q13 q17)), _, _, _, _, (g14.trans (g15.trans (g16.trans g17))), s35, h33, h34, h35, h36, h37, h38, h39, h32⟩
    obtain ⟨hte1, Z24, V24, w20, w21, g24, s52, h46, h47, h48, h49, h50, h51, h52, h45⟩ := jd
    refine c_sr ?_
    refine o_lss hte1 h52 ?_
    refine c_nil ?_
    refine c_sq ?_
    refine c_iff rfl (ran_done _) ?_
    refine c_ex ?_
    refine e_c ?_
    refine e_c ?_
    refine e_h ?_
    refine c_sr ?_
    refine o_fad h48 ?_
    refine o_ldB 2 s52 rfl rfl rfl rfl ?_
    obtain ⟨d25, rfl⟩ := ((s52.curS (s := (Sh.ro Sh.api_Sym)) 5 rfl)).val
    refine o_ldB 4 s52 rfl h49 rfl rfl ?_
    obtain ⟨x16, q27, e1⟩ := Pu.bind_some e1
    obtain ⟨Z25, V25, W10, g25, u10, c37, c38, -, c40, c39⟩ := Sat.call (l1 := []) s52
    refine o_call (mc rfl (mc rfl m0)) (X.parlmake_has nd.parlmake_has c37 (c38 3 _ (Sh.ro Sh.api_Rule) _ _ rfl) (c38 5 _ (Sh.ro Sh.api_Sym) _ _ rfl) q27) fun _ H31 i15 => ?_
    obtain ⟨rfl, s53⟩ := i15
    have s54 := c39 _ _ s53
    refine o_not rfl ?_
    refine c_nil ?_
    obtain ⟨y4, e4, e1⟩ := Pu.bind_some e1
    refine c_jn (I := fun tm H => ∃ (Z26 V26 : PH) (w22 : Value), Gw Z25 V25 Z26 V26 ∧ Sat Z26 V26 H [pts b1 (.rw 0 [(vi 0), (vi 0), (vi 0), (.slice none 0 0)]), pts b2 (.rw 0 [w21]), pts b3 (.rw 0 [(vi (Pu.W (1 + x1.2))), (vi (Pu.W (1 + x2.2))), (vi x3.2), w22]), It.sl (Sh.ro Sh.api_Rule) w22 y4] ∧ tm 2 = (.pointer (some ⟨b1, 0, none⟩)) ∧ tm 3 = (.pointer (some ⟨b2, 0, none⟩)) ∧ tm 4 = (.pointer (some ⟨b3, 0, none⟩)) ∧ tm 23 = (vi (Pu.W (1 + x4.2))) ∧ tm 24 = (vi x5)) (fun k12 => ?_) ?_
    · refine c_if rfl (fun q28 => ?_) (fun q28 => ?_)
      · replace e4 := if_t q28 e4
        refine c_r ?_
        refine o_fad h48 ?_
        refine o_ldB 2 s54 rfl rfl rfl rfl ?_
        refine o_ldB 4 s54 rfl h49 rfl rfl ?_
        obtain ⟨Z27, V27, g27, s56, h58⟩ := s54.frzS 5 rfl
        replace h58 := h58.of_ro
        refine o_bsl (s := (Sh.ro Sh.api_Rule)) (us := [(vi x7.2), (.slice d25 y2.2.length y2.2.length)]) (qs := [(0, 2, (.agg #[(vi x7.2), (.slice d25 y2.2.length y2.2.length)]))]) (xs := [(Ty.api_Rule.mk x7.2 y2.2)]) s56 (Sh.ro_lt _) rfl rfl rfl (Els.cons (c := [(vi x7.2), (.slice d25 y2.2.length y2.2.length)]) (Sh.api_Rule_cl (x := (Ty.api_Rule.mk x7.2 y2.2)) h58) Els.nil) rfl rfl fun w23 H33 s57 => ?_
        obtain ⟨Z28, V28, g28, s58, h59⟩ := s57.frzS 0 rfl
        replace h59 := h59.of_ro
        obtain ⟨x17, q29, e4⟩ := Pu.bind_some e4
        refine o_app 3 s58 rfl (Sh.ro_lt _) rfl rfl rfl rfl h59 s58.z (fun h => h) (by decide) q29 fun w24 H34 s59 => ?_
        refine o_fad h48 ?_
        obtain ⟨d26, rfl⟩ := ((s59.curS (s := (Sh.ro Sh.api_Rule)) 3 rfl)).val
        refine o_stB (us' := [(vi (Pu.W (1 + x1.2))), (vi (Pu.W (1 + x2.2))), (vi x3.2), (.slice d26 x17.length x17.length)]) 2 s59 rfl rfl rfl rfl rfl rfl rfl fun H35 s60 => ?_
        refine c_nil ?_
        obtain rfl := Option.some.inj e4
        exact k12 _ _ ⟨_, _, _, (g27.trans g28), (s60.pick [0, 1, 2, 3] rfl), h46, h47, h48, h50, h51⟩
      replace e4 := ib_f q28 e4
      refine c_sk ?_
      obtain rfl := Option.some.inj e4
      exact k12 _ _ ⟨_, _, _, Gw.refl _ _, (s54.pick [0, 1, 2, 3] rfl), h46, h47, h48, h50, h51⟩
    intro _ H32 i16
    obtain ⟨Z26, V26, w22, g26, s55, h53, h54, h55, h56, h57⟩ := i16
    refine c_end ?_
    refine c_r ?_
    refine o_add h57 rfl ?_
    refine o_mv (v := (vi (Pu.W (x5 + 1)))) rfl ?_
    refine c_nil ?_
    obtain rfl := Option.some.inj e1
    exact k1 _ _ ⟨(iv rfl (w_sucR q5 q9)), _, _, _, _, (g9.trans (g10.trans (g11.trans (g12.trans (g13.trans (g24.trans (g25.trans g26))))))), s55, h53, h54, h55, h56, (h45.mono (g25.trans g26).z)⟩
  obtain ⟨hte0, Z29, V29, w25, w26, g29, s61, h61, h62, h63, h64, h60⟩ := jd
  refine c_sr ?_
  refine o_lss hte0 h64 ?_
  refine c_nil ?_
  refine c_sq ?_
  refine c_iff rfl (ran_done _) ?_
  refine c_ex ?_
  refine e_c ?_
  refine e_c ?_
  refine e_h ?_
  refine c_sr ?_
  obtain ⟨d27, rfl⟩ := ((s61.curS (s := (Sh.ro Sh.api_Rule)) 3 rfl)).val
  refine o_ldB 2 s61 rfl h63 rfl rfl ?_
  refine o_stB (us' := [(vi (Pu.W (1 + x1.2))), (vi (Pu.W (1 + x2.2))), (vi x3.2), (.slice d27 y1.2.length y1.2.length)]) 0 s61 rfl h61 rfl rfl rfl rfl rfl fun H37 s62 => ?_
  refine c_nil ?_
  refine c_rt ?_
  obtain rfl := Option.some.inj e
  exact ⟨.inr rfl, _, (arB 0 s62 rfl h61 rfl rfl), _, rfl, ((s62.pick [3] rfl).weak (g1.trans (g2.trans (g3.trans (g4.trans (g5.trans (g6.trans (g7.trans (g8.trans g29)))))))) hs.zv)⟩
/-! parlkeep5_plain -/
structure Nd.parlkeep5_plain (T : FuncId → Option AFunc) : Prop where
  own : Has T I.parlkeep5_plain F.parlkeep5_plain
set_option maxHeartbeats 1000000 in
theorem X.parlkeep5_plain {T : FuncId → Option AFunc} (nd : Nd.parlkeep5_plain T) {Z V : PH} {H : Hp} (hs : Sat Z V H []) {r : Ty.api_Grammar} (e : P.parlkeep5_plain = some r) :
    G T I.parlkeep5_plain [] H (fun rv H' => ∃ (u1 : Value), rv = (.agg #[(vi r.Terms), (vi r.Nons), (vi r.Start), u1]) ∧ Sat Z V H' [It.sl (Sh.ro Sh.api_Rule) u1 r.Rules]) := by
  unfold P.parlkeep5_plain at e
  refine f_mk nd.own ?_
  refine c_sr ?_
  refine o_new hs fun b1 H1 s1 => ?_
  refine c_nil ?_
  refine c_sr ?_
  refine o_bld (qs := [(0, 1, (.bool true))]) rfl rfl ?_
  refine o_bsl (s := (Sh.ro Sh.api_Sym)) (us := [(.bool true), (vi 0)]) (qs := [(0, 2, (.agg #[(.bool true), (vi 0)]))]) (xs := [(Ty.api_Sym.mk true 0)]) s1 (Sh.ro_lt _) rfl rfl rfl (Els.cons (c := [(.bool true), (vi 0)]) rfl Els.nil) rfl rfl fun w1 H2 s2 => ?_
  obtain ⟨d1, rfl⟩ := ((s2.curS (s := (Sh.ro Sh.api_Sym)) 0 rfl)).val
  refine o_bld (qs := [(1, 1, (.slice d1 [(Ty.api_Sym.mk true 0)].length [(Ty.api_Sym.mk true 0)].length))]) rfl rfl ?_
  refine o_bld (qs := [(0, 1, (.bool true)), (1, 1, (vi 1))]) rfl rfl ?_
  refine o_bld (qs := []) rfl rfl ?_
  refine o_bsl (s := (Sh.ro Sh.api_Sym)) (us := [(.bool true), (vi 1), (.bool false), (vi 0)]) (qs := [(0, 2, (.agg #[(.bool true), (vi 1)])), (2, 2, (.agg #[(.bool false), (vi 0)]))]) (xs := [(Ty.api_Sym.mk true 1), (Ty.api_Sym.mk false 0)]) s2 (Sh.ro_lt _) rfl rfl rfl (Els.cons (c := [(.bool true), (vi 1)]) rfl (Els.cons (c := [(.bool false), (vi 0)]) rfl Els.nil)) rfl rfl fun w2 H3 s3 => ?_
  obtain ⟨d2, rfl⟩ := ((s3.curS (s := (Sh.ro Sh.api_Sym)) 0 rfl)).val
  refine o_bld (qs := [(1, 1, (.slice d2 [(Ty.api_Sym.mk true 1), (Ty.api_Sym.mk false 0)].length [(Ty.api_Sym.mk true 1), (Ty.api_Sym.mk false 0)].length))]) rfl rfl ?_
  obtain ⟨Z1, V1, g1, s4, h1⟩ := s3.frzS 1 rfl
  replace h1 := h1.of_ro
  obtain ⟨Z2, V2, g2, s5, h2⟩ := s4.frzS 0 rfl
  replace h2 := h2.of_ro
  refine o_bsl (s := (Sh.ro Sh.api_Rule)) (us := [(vi 0), (.slice d1 [(Ty.api_Sym.mk true 0)].length [(Ty.api_Sym.mk true 0)].length), (vi 0), (.slice d2 [(Ty.api_Sym.mk true 1), (Ty.api_Sym.mk false 0)].length [(Ty.api_Sym.mk true 1), (Ty.api_Sym.mk false 0)].length)]) (qs := [(0, 2, (.agg #[(vi 0), (.slice d1 [(Ty.api_Sym.mk true 0)].length [(Ty.api_Sym.mk true 0)].length)])), (2, 2, (.agg #[(vi 0), (.slice d2 [(Ty.api_Sym.mk true 1), (Ty.api_Sym.mk false 0)].length [(Ty.api_Sym.mk true 1), (Ty.api_Sym.mk false 0)].length)]))]) (xs := [(Ty.api_Rule.mk 0 [(Ty.api_Sym.mk true 0)]), (Ty.api_Rule.mk 0 [(Ty.api_Sym.mk true 1), (Ty.api_Sym.mk false 0)])]) s5 (Sh.ro_lt _) rfl rfl rfl (Els.cons (c := [(vi 0), (.slice d1 [(Ty.api_Sym.mk true 0)].length [(Ty.api_Sym.mk true 0)].length)]) (Sh.api_Rule_cl (x := (Ty.api_Rule.mk 0 [(Ty.api_Sym.mk true 0)])) (h1.mono g2.z)) (Els.cons (c := [(vi 0), (.slice d2 [(Ty.api_Sym.mk true 1), (Ty.api_Sym.mk false 0)].length [(Ty.api_Sym.mk true 1), (Ty.api_Sym.mk false 0)].length)]) (Sh.api_Rule_cl (x := (Ty.api_Rule.mk 0 [(Ty.api_Sym.mk true 1), (Ty.api_Sym.mk false 0)])) h2) Els.nil)) rfl rfl fun w3 H4 s6 => ?_
  obtain ⟨d3, rfl⟩ := ((s6.curS (s := (Sh.ro Sh.api_Rule)) 0 rfl)).val
  refine o_bld (qs := [(0, 1, (vi 2)), (1, 1, (vi 1)), (3, 1, (.slice d3 [(Ty.api_Rule.mk 0 [(Ty.api_Sym.mk true 0)]), (Ty.api_Rule.mk 0 [(Ty.api_Sym.mk true 1), (Ty.api_Sym.mk false 0)])].length [(Ty.api_Rule.mk 0 [(Ty.api_Sym.mk true 0)]), (Ty.api_Rule.mk 0 [(Ty.api_Sym.mk true 1), (Ty.api_Sym.mk false 0)])].length))]) rfl rfl ?_
  refine o_stB (us' := [(vi 2), (vi 1), (vi 0), (.slice d3 [(Ty.api_Rule.mk 0 [(Ty.api_Sym.mk true 0)]), (Ty.api_Rule.mk 0 [(Ty.api_Sym.mk true 1), (Ty.api_Sym.mk false 0)])].length [(Ty.api_Rule.mk 0 [(Ty.api_Sym.mk true 0)]), (Ty.api_Rule.mk 0 [(Ty.api_Sym.mk true 1), (Ty.api_Sym.mk false 0)])].length)]) 1 s6 rfl rfl rfl rfl rfl rfl rfl fun H5 s7 => ?_
  refine c_nil ?_
  refine c_gen (P := fun tm => tm 0 = (.pointer (some ⟨b1, 0, none⟩)) ∧ True) ⟨rfl, trivial⟩ ?_
  intro _ i1
  obtain ⟨h3, -⟩ := i1
  refine c_rt ?_
  obtain rfl := Option.some.inj e
  exact ⟨.inr rfl, _, (arB 1 s7 rfl h3 rfl rfl), _, rfl, ((s7.pick [0] rfl).weak (g1.trans g2) hs.zv)⟩
/-! parlmake_tree -/
structure Nd.parlmake_tree (T : FuncId → Option AFunc) : Prop where
  own_parlmake_tree : Has T I.parlmake_tree F.parlmake_tree
  parlmake_stream_next : Nd.parlmake_stream_next T
set_option maxHeartbeats 1000000 in
theorem X.parlmake_tree_rec {T : FuncId → Option AFunc} (nd : Nd.parlmake_tree T) : ∀ φ : Nat, (∀ {Z V : PH} {H : Hp} {v1 : Value} {v2 : Value} {o1 : Nat} {o2 : Nat} {a0 : Ty.api_Grammar} {a1 : Ty.api_Sym} {a2 : Ty.parlmake_stream} {a3 : Int} {a4 : Int} (hs : Sat Z V H [pts o1 (.rw 0 [v2]), pts o2 (.rw 0 [(vi a3)])]) (hp1 : RdS Sh.api_Rule Z v1 a0.Rules) (hp2 : RdS Sh.int Z v2 a2.l) {r : (Ty.parlmake_stream × Int × Ty.api_Tree × Bool)} (e : P.parlmake_tree φ a0 a1 a2 a3 a4 = some r), G T I.parlmake_tree [(.agg #[(vi a0.Terms), (vi a0.Nons), (vi a0.Start), v1]), (.agg #[(.bool a1.Term), (vi a1.N)]), (.pointer (some ⟨o1, 0, none⟩)), (.pointer (some ⟨o2, 0, none⟩)), (vi a4)] H (fun rv H' => ∃ (u1 : Value) (u2 : Value), rv = (.tuple #[(.agg #[(vi r.2.2.1.Rule), (vi r.2.2.1.Term), u2]), (.bool r.2.2.2)]) ∧ Sat Z V H' [pts o1 (.rw 0 [u1]), Sh.it (Sh.ro (Sh.sl Sh.int)) [u1] r.1.l, pts o2 (.rw 0 [(vi r.2.1)]), It.sl (Sh.ro Sh.api_Tree) u2 r.2.2.1.Kids])) := by
  intro φ
  induction φ with
  | zero =>
    intro Z V H v1 v2 o1 o2 a0 a1 a2 a3 a4 hs hp1 hp2 r e
    rw [P.parlmake_tree] at e; cases e
  | succ φ ih =>
    intro Z V H v1 v2 o1 o2 a0 a1 a2 a3 a4 hs hp1 hp2 r e
    rw [P.parlmake_tree] at e
    refine f_mk nd.own_parlmake_tree ?_
    refine c_sr ?_
    obtain ⟨d1, rfl⟩ := (hp1).val
    refine o_box hs rfl rfl fun b1 H1 s1 => ?_
    refine o_box s1 rfl rfl fun b2 H2 s2 => ?_
    refine o_new s2 fun b3 H3 s3 => ?_
    refine o_mv (v := (.bool false)) rfl ?_
    refine c_nil ?_
    refine c_sq ?_
    refine c_sr ?_
    refine o_mv (v := (.pointer (some ⟨o2, 0, none⟩))) rfl ?_
    refine o_nck rfl ?_
    refine o_ldB 4 s3 rfl rfl rfl rfl ?_
    refine o_sub rfl rfl ?_
    refine o_nck rfl ?_
    refine o_stB (us' := [(vi (Pu.W (a3 - 1)))]) 4 s3 rfl rfl rfl rfl rfl rfl rfl fun H4 s4 => ?_
    refine c_nil ?_
    refine c_sr ?_
    refine o_mv (v := (.pointer (some ⟨o2, 0, none⟩))) rfl ?_
    refine o_nck rfl ?_
    refine o_ldB 4 s4 rfl rfl rfl rfl ?_
    refine o_lss rfl rfl ?_
    refine o_mv (v := (.bool (decide ((Pu.W (a3 - 1)) < 0)))) rfl ?_
    refine o_jn 3 (I := fun tm H => tm 32 = .bool ((decide ((Pu.W (a3 - 1)) < 0)) || (decide (a4 < 0))) ∧ (∃ (Z1 V1 : PH), Gw Z V Z1 V1 ∧ Sat Z1 V1 H [pts o1 (.rw 0 [v2]), pts o2 (.rw 0 [(vi (Pu.W (a3 - 1)))]), pts b1 (.rw 0 [(vi a0.Terms), (vi a0.Nons), (vi a0.Start), (.slice d1 a0.Rules.length a0.Rules.length)]), pts b2 (.rw 0 [(.bool a1.Term), (vi a1.N)]), pts b3 (.rw 0 [(vi 0), (vi 0), (.slice none 0 0)])] ∧ tm 2 = (.pointer (some ⟨o1, 0, none⟩)) ∧ tm 3 = (.pointer (some ⟨o2, 0, none⟩)) ∧ tm 4 = (vi a4) ∧ tm 5 = (.pointer (some ⟨b1, 0, none⟩)) ∧ tm 6 = (.pointer (some ⟨b2, 0, none⟩)) ∧ tm 10 = (.pointer (some ⟨b3, 0, none⟩)))) (fun k1 => ?_) ?_
    · rcases Bool.eq_false_or_eq_true (decide ((Pu.W (a3 - 1)) < 0)) with q1 | q1
      · refine o_gn rfl q1 ?_
        refine o_gn rfl q1 ?_
        refine o_pickt (a := (.bool true)) rfl q1 rfl ?_
        exact k1 _ _ ⟨gf rfl (by first | (rw [q1]; first | done | rfl) | simp [q1]), _, _, Gw.refl _ _, (s4.pick [3, 4, 2, 1, 0] rfl), rfl, rfl, rfl, rfl, rfl, rfl⟩
      refine o_gy rfl q1 ?_
      refine o_mv (v := (vi a4)) rfl ?_
      refine o_gy rfl q1 ?_
      refine o_lss rfl rfl ?_
      refine o_pickf (b := (.bool (decide (a4 < 0)))) rfl q1 rfl ?_
      exact k1 _ _ ⟨gf rfl (by first | (rw [q1]; first | done | rfl) | simp [q1]), _, _, Gw.refl _ _, (s4.pick [3, 4, 2, 1, 0] rfl), rfl, rfl, rfl, rfl, rfl, rfl⟩
    intro _ H5 i1
    obtain ⟨h7, Z1, V1, g1, s5, h1, h2, h3, h4, h5, h6⟩ := i1
    refine c_nil ?_
    refine c_if h7 (fun q2 => ?_) (fun q2 => ?_)
    · replace e := if_t q2 e
      refine c_sr ?_
      refine o_bld (qs := []) rfl rfl ?_
      refine o_stB (us' := [(vi 0), (vi 0), (.slice none 0 0)]) 4 s5 rfl h6 rfl rfl rfl rfl rfl fun H6 s6 => ?_
      refine o_mv (v := (.bool false)) rfl ?_
      refine c_nil ?_
      refine c_rt ?_
      obtain ⟨d2, rfl⟩ := ((hp2.mono g1.z)).val
      obtain rfl := Option.some.inj e
      exact ⟨.inr rfl, _, (ra2 (rac 4 s6 rfl h6 rfl rfl) (rat rfl)), _, _, rfl, ((((s6.push (ro_it (sl_ro (hp2.mono g1.z)))).push (sl_nil (s := (Sh.ro Sh.api_Tree)))).pick [2, 1, 3, 0] rfl).weak g1 hs.zv)⟩
    replace e := ib_f q2 e
    refine c_sk ?_
    refine c_sq ?_
    refine c_sr ?_
    refine o_fad h5 ?_
    refine o_ldB 3 s5 rfl rfl rfl rfl ?_
    refine c_nil ?_
    refine c_if rfl (fun q3 => ?_) (fun q3 => ?_)
    · replace e := if_t q3 e
      refine c_sr ?_
      refine o_fad h5 ?_
      refine o_ldB 3 s5 rfl rfl rfl rfl ?_
      refine o_bld (qs := [(0, 1, (vi (-1))), (1, 1, (vi a1.N))]) rfl rfl ?_
      refine o_stB (us' := [(vi (-1)), (vi a1.N), (.slice none 0 0)]) 4 s5 rfl h6 rfl rfl rfl rfl rfl fun H7 s7 => ?_
      refine o_mv (v := (.bool true)) rfl ?_
      refine c_nil ?_
      refine c_rt ?_
      obtain ⟨d3, rfl⟩ := ((hp2.mono g1.z)).val
      obtain rfl := Option.some.inj e
      exact ⟨.inr rfl, _, (ra2 (rac 4 s7 rfl h6 rfl rfl) (rat rfl)), _, _, rfl, ((((s7.push (ro_it (sl_ro (hp2.mono g1.z)))).push (sl_nil (s := (Sh.ro Sh.api_Tree)))).pick [2, 1, 3, 0] rfl).weak g1 hs.zv)⟩
    replace e := ib_f q3 e
    refine c_sk ?_
    refine c_sr ?_
    refine o_mv (v := (.slice none 0 0)) rfl ?_
    refine c_nil ?_
    refine c_sq ?_
    refine c_sr ?_
    refine o_fad h4 ?_
    refine o_ldB 2 s5 rfl rfl rfl rfl ?_
    refine o_len rfl ((hp1.mono g1.z)).len ?_
    refine o_mv (v := (vi 0)) rfl ?_
    refine c_nil ?_
    obtain ⟨y1, q6, e⟩ := Pu.bind_some e
    refine c_bk ?_
    refine l_forP (xs := a0.Rules) (fun (i2 : Nat) (s8 : (List Int)) tm H => tm 42 = vi i2 ∧ ∃ (Z2 V2 : PH) (w1 : Value), Gw Z1 V1 Z2 V2 ∧ Sat Z2 V2 H [pts o1 (.rw 0 [v2]), pts o2 (.rw 0 [(vi (Pu.W (a3 - 1)))]), pts b1 (.rw 0 [(vi a0.Terms), (vi a0.Nons), (vi a0.Start), (.slice d1 a0.Rules.length a0.Rules.length)]), pts b2 (.rw 0 [(.bool a1.Term), (vi a1.N)]), pts b3 (.rw 0 [(vi 0), (vi 0), (.slice none 0 0)]), It.sl Sh.int w1 s8] ∧ tm 2 = (.pointer (some ⟨o1, 0, none⟩)) ∧ tm 3 = (.pointer (some ⟨o2, 0, none⟩)) ∧ tm 4 = (vi a4) ∧ tm 5 = (.pointer (some ⟨b1, 0, none⟩)) ∧ tm 6 = (.pointer (some ⟨b2, 0, none⟩)) ∧ tm 10 = (.pointer (some ⟨b3, 0, none⟩)) ∧ tm 12 = w1 ∧ tm 40 = (.slice d1 a0.Rules.length a0.Rules.length) ∧ tm 41 = (vi (a0.Rules.length : Int))) (fun i2 x1 s8 s10 tm H9 q4 q5 j1 e1 k2 => ?_) (fun tm H8 jd => ?_) q6 ⟨rfl, _, _, _, Gw.refl _ _, ((s5.push (sl_nil (s := Sh.int))).pick [1, 2, 3, 4, 5, 0] rfl), h1, h2, h3, h4, h5, h6, rfl, rfl, rfl⟩
    · obtain ⟨hti0, Z2, V2, w1, g2, s9, h8, h9, h10, h11, h12, h13, h14, h15, h16⟩ := j1
      unfold P.parlmake_tree.b0 at e1
      refine c_sr ?_
      refine o_lss hti0 h16 ?_
      refine c_nil ?_
      refine c_sq ?_
      refine c_ift rfl (Int.ofNat_lt.2 q5) ?_
      refine c_sk ?_
      refine c_sq ?_
      refine c_bk ?_
      refine c_sr ?_
      refine o_mv (v := (vi (i2 : Int))) hti0 ?_
      refine o_idx (v := (.slice d1 a0.Rules.length a0.Rules.length)) h15 hti0 (hp1.mono (g1.trans g2).z) rfl (Pu.ix_nat.trans q4) fun p1 q7 => ?_
      refine o_lda rfl (hp1.mono (g1.trans g2).z) s9.z rfl q7 (Pu.ix_nat.trans q4) fun c1 h17 => ?_
      obtain ⟨w2, rfl, h18⟩ := Sh.api_Rule_op h17
      refine o_new s9 fun b4 H10 s11 => ?_
      refine o_mv (v := (vi (i2 : Int))) rfl ?_
      obtain ⟨d4, rfl⟩ := (h18).val
      refine o_stB (us' := [(vi x1.Left), (.slice d4 x1.Right.length x1.Right.length)]) 0 s11 rfl rfl rfl rfl rfl rfl rfl fun H11 s12 => ?_
      refine c_nil ?_
      refine c_sr ?_
      refine o_fad rfl ?_
      refine o_ldB 0 s12 rfl rfl rfl rfl ?_
      refine o_fad h12 ?_
      refine o_ldB 4 s12 rfl rfl rfl rfl ?_
      refine o_eql rfl rfl ?_
      refine c_nil ?_
      refine c_gen (P := fun tm => tm 2 = (.pointer (some ⟨o1, 0, none⟩)) ∧ tm 3 = (.pointer (some ⟨o2, 0, none⟩)) ∧ tm 4 = (vi a4) ∧ tm 5 = (.pointer (some ⟨b1, 0, none⟩)) ∧ tm 6 = (.pointer (some ⟨b2, 0, none⟩)) ∧ tm 10 = (.pointer (some ⟨b3, 0, none⟩)) ∧ tm 12 = w1 ∧ tm 13 = (vi (i2 : Int)) ∧ tm 40 = (.slice d1 a0.Rules.length a0.Rules.length) ∧ tm 41 = (vi (a0.Rules.length : Int)) ∧ tm 42 = (vi (i2 : Int)) ∧ tm 51 = (.bool (decide (x1.Left = a1.N))) ∧ True) ⟨h8, h9, h10, h11, h12, h13, h14, rfl, h15, h16, hti0, rfl, trivial⟩ ?_
      intro _ i3
      obtain ⟨h19, h20, h21, h22, h23, h24, h25, h26, h27, h28, h29, h30, -⟩ := i3
      obtain ⟨y2, e2, e1⟩ := Pu.bind_some e1
      refine c_jn (I := fun tm H => ∃ (Z3 V3 : PH) (w3 : Value), Gw Z2 V2 Z3 V3 ∧ Sat Z3 V3 H [pts o1 (.rw 0 [v2]), pts o2 (.rw 0 [(vi (Pu.W (a3 - 1)))]), pts b1 (.rw 0 [(vi a0.Terms), (vi a0.Nons), (vi a0.Start), (.slice d1 a0.Rules.length a0.Rules.length)]), pts b2 (.rw 0 [(.bool a1.Term), (vi a1.N)]), pts b3 (.rw 0 [(vi 0), (vi 0), (.slice none 0 0)]), It.sl Sh.int w3 y2] ∧ tm 2 = (.pointer (some ⟨o1, 0, none⟩)) ∧ tm 3 = (.pointer (some ⟨o2, 0, none⟩)) ∧ tm 4 = (vi a4) ∧ tm 5 = (.pointer (some ⟨b1, 0, none⟩)) ∧ tm 6 = (.pointer (some ⟨b2, 0, none⟩)) ∧ tm 10 = (.pointer (some ⟨b3, 0, none⟩)) ∧ tm 12 = w3 ∧ tm 40 = (.slice d1 a0.Rules.length a0.Rules.length) ∧ tm 41 = (vi (a0.Rules.length : Int)) ∧ tm 42 = (vi (i2 : Int))) (fun k3 => ?_) ?_
      · refine c_ifd h30 (fun q8 => ?_) (fun q8 => ?_)
        · replace e2 := if_t q8 e2
          refine c_r ?_
          refine o_mv (v := w1) h25 ?_
          refine o_mv (v := (vi (i2 : Int))) h26 ?_
          refine o_bsl (s := Sh.int) (us := [(vi (i2 : Int))]) (qs := [(0, 1, (vi (i2 : Int)))]) (xs := [(i2 : Int)]) s12 Sh.flat_lt rfl rfl rfl (Els.cons (c := [(vi (i2 : Int))]) rfl Els.nil) rfl rfl fun w4 H13 s14 => ?_
          obtain ⟨x2, q9, e2⟩ := Pu.bind_some e2
          refine o_app 7 s14 rfl Sh.flat_lt rfl rfl rfl rfl (s14.curS (s := Sh.int) 0 rfl) (PH.le.refl _) (fun h => h) (by decide) q9 fun w5 H14 s15 => ?_
          refine o_mv (v := w5) rfl ?_
          refine c_nil ?_
          obtain rfl := Option.some.inj e2
          exact k3 _ _ ⟨_, _, _, Gw.refl _ _, (s15.pick [2, 3, 4, 5, 6, 7] rfl), h19, h20, h21, h22, h23, h24, rfl, h27, h28, h29⟩
        replace e2 := if_f q8 e2
        refine c_sk ?_
        obtain rfl := Option.some.inj e2
        exact k3 _ _ ⟨_, _, _, Gw.refl _ _, (s12.pick [1, 2, 3, 4, 5, 6] rfl), h19, h20, h21, h22, h23, h24, h25, h27, h28, h29⟩
      intro _ H12 i4
      obtain ⟨Z3, V3, w3, g3, s13, h31, h32, h33, h34, h35, h36, h37, h38, h39, h40⟩ := i4
      refine c_end ?_
      refine c_r ?_
      refine o_add h40 rfl ?_
      refine o_mv (v := (vi (Pu.W ((i2 : Int) + 1)))) rfl ?_
      refine c_nil ?_
      obtain rfl := Option.some.inj e1
      exact k2 _ _ ⟨(iv rfl (w_suc q5 ((hp1.mono g1.z)).bd)), _, _, _, (g2.trans g3), s13, h31, h32, h33, h34, h35, h36, h37, h38, h39⟩
    obtain ⟨hte0, Z4, V4, w6, g4, s16, h41, h42, h43, h44, h45, h46, h47, h48, h49⟩ := jd
    refine c_sr ?_
    refine o_lss hte0 h49 ?_
    refine c_nil ?_
    refine c_sq ?_
    refine c_iff rfl (Int.lt_irrefl _) ?_
    refine c_ex ?_
    refine e_c ?_
    refine e_c ?_
    refine e_h ?_
    refine c_sq ?_
    refine c_sr ?_
    refine o_mv (v := w6) h47 ?_
    refine o_len rfl ((s16.curS (s := Sh.int) 5 rfl)).len ?_
    refine o_eql rfl rfl ?_
    refine c_nil ?_
    refine c_ifd rfl (fun q10 => ?_) (fun q10 => ?_)
    · replace e := if_t q10 e
      refine c_sr ?_
      refine o_bld (qs := []) rfl rfl ?_
      refine o_stB (us' := [(vi 0), (vi 0), (.slice none 0 0)]) 4 s16 rfl h46 rfl rfl rfl rfl rfl fun H16 s17 => ?_
      refine o_mv (v := (.bool false)) rfl ?_
      refine c_nil ?_
      refine c_rt ?_
      obtain ⟨d5, rfl⟩ := ((hp2.mono (g1.trans g4).z)).val
      obtain rfl := Option.some.inj e
      exact ⟨.inr rfl, _, (ra2 (rac 4 s17 rfl h46 rfl rfl) (rat rfl)), _, _, rfl, ((((s17.push (ro_it (sl_ro (hp2.mono (g1.trans g4).z)))).push (sl_nil (s := (Sh.ro Sh.api_Tree)))).pick [2, 1, 3, 0] rfl).weak (g1.trans g4) hs.zv)⟩
    replace e := if_f q10 e
    refine c_sk ?_
    refine c_sr ?_
    refine o_mv (v := w6) h47 ?_
    refine o_mv (v := (.pointer (some ⟨o1, 0, none⟩))) h41 ?_
    refine o_mv (v := w6) h47 ?_
    refine o_len rfl ((s16.curS (s := Sh.int) 5 rfl)).len ?_
    obtain ⟨x3, q11, e⟩ := Pu.bind_some e
    obtain ⟨d6, rfl⟩ := ((hp2.mono (g1.trans g4).z)).val
    obtain ⟨Z5, V5, W1, g5, u1, c2, c3, -, c5, c4⟩ := Sat.call (l1 := [pts o1 (.rw 0 [(.slice d6 a2.l.length a2.l.length)])]) (l2 := [pts o2 (.rw 0 [(vi (Pu.W (a3 - 1)))]), pts b1 (.rw 0 [(vi a0.Terms), (vi a0.Nons), (vi a0.Start), (.slice d1 a0.Rules.length a0.Rules.length)]), pts b2 (.rw 0 [(.bool a1.Term), (vi a1.N)]), pts b3 (.rw 0 [(vi 0), (vi 0), (.slice none 0 0)]), It.sl Sh.int w6 y1]) s16
    refine o_call (mc rfl (mc rfl m0)) (X.parlmake_stream_next nd.parlmake_stream_next (a0 := a2) c2 (hp2.mono ((g1.trans g4).trans g5).z) q11) fun _ H17 i5 => ?_
    obtain ⟨w7, rfl, s18⟩ := i5
    have s19 := c4 _ _ s18
    obtain ⟨Z6, V6, g6, s20, h50⟩ := (s19.pull 1 rfl).frzR
    obtain ⟨x4, q12, e⟩ := Pu.bind_some e
    refine o_idx (v := w6) rfl rfl (s20.curS (s := Sh.int) 5 rfl) rfl q12 fun p2 q13 => ?_
    refine o_ldi rfl (s20.curS (s := Sh.int) 5 rfl) (PH.le.refl _) q13 q12 ?_
    refine o_bld (qs := [(0, 1, (vi x4))]) rfl rfl ?_
    refine o_new s20 fun b5 H18 s21 => ?_
    refine o_stB (us' := [(vi x4), (vi 0), (.slice none 0 0)]) 0 s21 rfl rfl rfl rfl rfl rfl rfl fun H19 s22 => ?_
    refine c_nil ?_
    refine c_gen (P := fun tm => tm 2 = (.pointer (some ⟨o1, 0, none⟩)) ∧ tm 3 = (.pointer (some ⟨o2, 0, none⟩)) ∧ tm 4 = (vi a4) ∧ tm 5 = (.pointer (some ⟨b1, 0, none⟩)) ∧ tm 10 = (.pointer (some ⟨b3, 0, none⟩)) ∧ tm 15 = (.pointer (some ⟨b5, 0, none⟩)) ∧ True) ⟨h41, h42, h43, h44, h46, rfl, trivial⟩ ?_
    intro _ i6
    obtain ⟨h51, h52, h53, h54, h55, h56, -⟩ := i6
    refine c_sq ?_
    refine c_sr ?_
    refine o_fad h54 ?_
    refine o_ldB 3 s22 rfl rfl rfl rfl ?_
    refine o_fad h56 ?_
    refine o_ldB 0 s22 rfl rfl rfl rfl ?_
    obtain ⟨x5, q14, e⟩ := Pu.bind_some e
    refine o_idx (v := (.slice d1 a0.Rules.length a0.Rules.length)) rfl rfl (hp1.mono (g1.trans (g4.trans (g5.trans g6))).z) rfl q14 fun p3 q15 => ?_
    refine o_fadE rfl q15 fun p4 q16 => ?_
    refine o_ldF rfl (hp1.mono (g1.trans (g4.trans (g5.trans g6))).z) s22.z rfl q15 q16 q14 rfl fun c6 h57 => ?_
    obtain ⟨w8, rfl, h58⟩ := Sh.api_Rule_op h57
    refine ⟨_, rfl, ?_⟩
    refine o_len rfl (h58).len ?_
    refine o_mv (v := (vi 0)) rfl ?_
    refine c_nil ?_
    obtain ⟨y3, q19, e⟩ := Pu.bind_some e
    refine c_jn (I := fun tm H => ∃ (s25 : ((List Int) × Int × (List Ty.api_Tree))), y3 = .out s25 ∧ (∃ (Z8 V8 : PH) (w11 : Value) (w12 : Value), Gw Z6 V6 Z8 V8 ∧ Sat Z8 V8 H [pts o1 (.rw 0 [w12]), pts o2 (.rw 0 [(vi s25.2.1)]), pts b1 (.rw 0 [(vi a0.Terms), (vi a0.Nons), (vi a0.Start), (.slice d1 a0.Rules.length a0.Rules.length)]), pts b3 (.rw 0 [(vi 0), (vi 0), (.slice none 0 0)]), pts b5 (.rw 0 [(vi x4), (vi 0), w11]), It.sl (Sh.ro Sh.api_Tree) w11 s25.2.2] ∧ tm 2 = (.pointer (some ⟨o1, 0, none⟩)) ∧ tm 3 = (.pointer (some ⟨o2, 0, none⟩)) ∧ tm 4 = (vi a4) ∧ tm 5 = (.pointer (some ⟨b1, 0, none⟩)) ∧ tm 10 = (.pointer (some ⟨b3, 0, none⟩)) ∧ tm 15 = (.pointer (some ⟨b5, 0, none⟩)) ∧ tm 75 = w8 ∧ tm 76 = (vi (x5.Right.length : Int)) ∧ RdS Sh.int Z8 w12 s25.1)) (fun k7 => ?_) ?_
    · refine c_bk ?_
      refine l_forL (xs := x5.Right) (fun (i7 : Nat) (s23 : ((List Int) × Int × (List Ty.api_Tree))) tm H => tm 77 = vi i7 ∧ ∃ (Z7 V7 : PH) (w9 : Value) (w10 : Value), Gw Z6 V6 Z7 V7 ∧ Sat Z7 V7 H [pts o1 (.rw 0 [w10]), pts o2 (.rw 0 [(vi s23.2.1)]), pts b1 (.rw 0 [(vi a0.Terms), (vi a0.Nons), (vi a0.Start), (.slice d1 a0.Rules.length a0.Rules.length)]), pts b3 (.rw 0 [(vi 0), (vi 0), (.slice none 0 0)]), pts b5 (.rw 0 [(vi x4), (vi 0), w9]), It.sl (Sh.ro Sh.api_Tree) w9 s23.2.2] ∧ tm 2 = (.pointer (some ⟨o1, 0, none⟩)) ∧ tm 3 = (.pointer (some ⟨o2, 0, none⟩)) ∧ tm 4 = (vi a4) ∧ tm 5 = (.pointer (some ⟨b1, 0, none⟩)) ∧ tm 10 = (.pointer (some ⟨b3, 0, none⟩)) ∧ tm 15 = (.pointer (some ⟨b5, 0, none⟩)) ∧ tm 75 = w8 ∧ tm 76 = (vi (x5.Right.length : Int)) ∧ RdS Sh.int Z7 w10 s23.1) (fun i7 x6 s23 y4 tm H21 q17 q18 j2 e3 k4 k5 k6 => ?_) (fun s23 tm H20 jf jd => ?_) q19 ⟨rfl, _, _, _, _, Gw.refl _ _, ((s22.push (sl_nil (s := (Sh.ro Sh.api_Tree)))).pick [2, 3, 4, 6, 1, 0] rfl), h51, h52, h53, h54, h55, h56, rfl, rfl, h50⟩
      · obtain ⟨hti1, Z7, V7, w9, w10, g7, s24, h60, h61, h62, h63, h64, h65, h66, h67, h59⟩ := j2
        unfold P.parlmake_tree.b1 at e3
        refine c_sr ?_
        refine o_lss hti1 h67 ?_
        refine c_nil ?_
        refine c_sq ?_
        refine c_ift rfl (Int.ofNat_lt.2 q18) ?_
        refine c_sk ?_
        refine c_sq ?_
        refine c_bk ?_
        refine c_sr ?_
        refine o_idx (v := w8) h66 hti1 (h58.mono g7.z) rfl (Pu.ix_nat.trans q17) fun p5 q20 => ?_
        refine o_lda rfl (h58.mono g7.z) s24.z rfl q20 (Pu.ix_nat.trans q17) fun c7 h77 => ?_
        obtain rfl := h77
        refine o_new s24 fun b6 H23 s27 => ?_
        refine o_stB (us' := [(.bool x6.Term), (vi x6.N)]) 0 s27 rfl rfl rfl rfl rfl rfl rfl fun H24 s28 => ?_
        refine c_nil ?_
        refine c_sr ?_
        refine o_ldB 3 s28 rfl h63 rfl rfl ?_
        refine o_ldB 0 s28 rfl rfl rfl rfl ?_
        refine o_mv (v := (.pointer (some ⟨o1, 0, none⟩))) h60 ?_
        refine o_mv (v := (.pointer (some ⟨o2, 0, none⟩))) h61 ?_
        refine o_mv (v := (vi a4)) h62 ?_
        refine o_sub rfl rfl ?_
        obtain ⟨x7, q21, e3⟩ := Pu.bind_some e3
        obtain ⟨d7, rfl⟩ := (h59).val
        obtain ⟨Z9, V9, W2, g9, u2, c8, c9, -, c11, c10⟩ := Sat.call (l1 := [pts o1 (.rw 0 [(.slice d7 s23.1.length s23.1.length)]), pts o2 (.rw 0 [(vi s23.2.1)])]) (l2 := [pts b6 (.rw 0 [(.bool x6.Term), (vi x6.N)]), pts b1 (.rw 0 [(vi a0.Terms), (vi a0.Nons), (vi a0.Start), (.slice d1 a0.Rules.length a0.Rules.length)]), pts b3 (.rw 0 [(vi 0), (vi 0), (.slice none 0 0)]), pts b5 (.rw 0 [(vi x4), (vi 0), w9]), It.sl (Sh.ro Sh.api_Tree) w9 s23.2.2]) (s28.pick [1, 2, 0, 3, 4, 5, 6] rfl)
        refine o_call (mc rfl (mc rfl (mc rfl (mc rfl (mc rfl m0))))) (ih (a2 := (Ty.parlmake_stream.mk s23.1)) (a3 := s23.2.1) c8 (hp1.mono ((g1.trans (g4.trans (g5.trans (g6.trans g7)))).trans g9).z) (h59.mono g9.z) q21) fun _ H25 i8 => ?_
        obtain ⟨w13, w14, rfl, s29⟩ := i8
        have s30 := c10 _ _ s29
        obtain ⟨Z10, V10, g10, s31, h78⟩ := (s30.pull 1 rfl).frzR
        refine o_mv (v := (.tuple #[(.agg #[(vi x7.2.2.1.Rule), (vi x7.2.2.1.Term), w14]), (.bool x7.2.2.2)])) rfl ?_
        refine o_ext rfl rfl ?_
        refine o_ext rfl rfl ?_
        refine o_new s31 fun b7 H26 s32 => ?_
        obtain ⟨d8, rfl⟩ := ((s32.curS (s := (Sh.ro Sh.api_Tree)) 3 rfl)).val
        refine o_stB (us' := [(vi x7.2.2.1.Rule), (vi x7.2.2.1.Term), (.slice d8 x7.2.2.1.Kids.length x7.2.2.1.Kids.length)]) 0 s32 rfl rfl rfl rfl rfl rfl rfl fun H27 s33 => ?_
        refine o_mv (v := (.bool x7.2.2.2)) rfl ?_
        refine c_nil ?_
        refine c_gen (P := fun tm => tm 2 = (.pointer (some ⟨o1, 0, none⟩)) ∧ tm 3 = (.pointer (some ⟨o2, 0, none⟩)) ∧ tm 4 = (vi a4) ∧ tm 5 = (.pointer (some ⟨b1, 0, none⟩)) ∧ tm 10 = (.pointer (some ⟨b3, 0, none⟩)) ∧ tm 15 = (.pointer (some ⟨b5, 0, none⟩)) ∧ tm 18 = (.pointer (some ⟨b7, 0, none⟩)) ∧ tm 19 = (.bool x7.2.2.2) ∧ tm 75 = w8 ∧ tm 76 = (vi (x5.Right.length : Int)) ∧ tm 77 = (vi (i7 : Int)) ∧ True) ⟨h60, h61, h62, h63, h64, h65, rfl, rfl, h66, h67, hti1, trivial⟩ ?_
        intro _ i9
        obtain ⟨h79, h80, h81, h82, h83, h84, h85, h86, h87, h88, h89, -⟩ := i9
        refine c_sq ?_
        refine c_sr ?_
        refine o_mv (v := (.bool x7.2.2.2)) h86 ?_
        refine o_not rfl ?_
        refine c_nil ?_
        refine c_if rfl (fun q22 => ?_) (fun q22 => ?_)
        · replace e3 := if_t q22 e3
          refine c_sr ?_
          refine o_bld (qs := []) rfl rfl ?_
          refine o_stB (us' := [(vi 0), (vi 0), (.slice none 0 0)]) 6 s33 rfl h83 rfl rfl rfl rfl rfl fun H28 s34 => ?_
          refine o_mv (v := (.bool false)) rfl ?_
          refine c_nil ?_
          refine c_rt ?_
          have e4 := fin_r (k6 _ (Option.some.inj e3).symm) e
          obtain ⟨d9, rfl⟩ := (h78).val
          obtain rfl := Option.some.inj e4
          exact ⟨.inr rfl, _, (ra2 (rac 6 s34 rfl h83 rfl rfl) (rat rfl)), _, _, rfl, ((((s34.push (ro_it (sl_ro h78))).push (sl_nil (s := (Sh.ro Sh.api_Tree)))).pick [3, 1, 4, 0] rfl).weak (g1.trans (g4.trans (g5.trans (g6.trans (g7.trans (g9.trans g10)))))) hs.zv)⟩
        replace e3 := ib_f q22 e3
        refine c_sk ?_
        refine c_r ?_
        refine o_fad h84 ?_
        obtain ⟨d10, rfl⟩ := ((s33.curS (s := (Sh.ro Sh.api_Tree)) 8 rfl)).val
        refine o_ldB 7 s33 rfl rfl rfl rfl ?_
        refine o_ldB 0 s33 rfl h85 rfl rfl ?_
        obtain ⟨Z11, V11, g11, s35, h90⟩ := s33.frzS 3 rfl
        replace h90 := h90.of_ro
        refine o_bsl (s := (Sh.ro Sh.api_Tree)) (us := [(vi x7.2.2.1.Rule), (vi x7.2.2.1.Term), (.slice d8 x7.2.2.1.Kids.length x7.2.2.1.Kids.length)]) (qs := [(0, 3, (.agg #[(vi x7.2.2.1.Rule), (vi x7.2.2.1.Term), (.slice d8 x7.2.2.1.Kids.length x7.2.2.1.Kids.length)]))]) (xs := [x7.2.2.1]) s35 (Sh.ro_lt _) rfl rfl rfl (Els.cons (c := [(vi x7.2.2.1.Rule), (vi x7.2.2.1.Term), (.slice d8 x7.2.2.1.Kids.length x7.2.2.1.Kids.length)]) (Sh.api_Tree_cl (x := x7.2.2.1) h90) Els.nil) rfl rfl fun w15 H29 s36 => ?_
        obtain ⟨Z12, V12, g12, s37, h91⟩ := s36.frzS 0 rfl
        replace h91 := h91.of_ro
        obtain ⟨x8, q23, e3⟩ := Pu.bind_some e3
        refine o_app 7 s37 rfl (Sh.ro_lt _) rfl rfl rfl rfl h91 s37.z (fun h => h) (by decide) q23 fun w16 H30 s38 => ?_
        refine o_fad h84 ?_
        obtain ⟨d11, rfl⟩ := ((s38.curS (s := (Sh.ro Sh.api_Tree)) 7 rfl)).val
        refine o_stB (us' := [(vi x4), (vi 0), (.slice d11 x8.length x8.length)]) 6 s38 rfl rfl rfl rfl rfl rfl rfl fun H31 s39 => ?_
        refine c_nil ?_
        refine c_end ?_
        refine c_r ?_
        refine o_add h89 rfl ?_
        refine o_mv (v := (vi (Pu.W ((i7 : Int) + 1)))) rfl ?_
        refine c_nil ?_
        exact k4 _ _ _ (Option.some.inj e3).symm ⟨(iv rfl (w_suc q18 (h58).bd)), _, _, _, _, (g7.trans (g9.trans (g10.trans (g11.trans g12)))), (s39.pick [1, 2, 4, 5, 6, 7] rfl), h79, h80, h81, h82, h83, h84, h87, h88, (h78.mono (g11.trans g12).z)⟩
      · obtain ⟨hte1, Z13, V13, w17, w18, g13, s40, h93, h94, h95, h96, h97, h98, h99, h100, h92⟩ := jd
        refine c_sr ?_
        refine o_lss hte1 h100 ?_
        refine c_nil ?_
        refine c_sq ?_
        refine c_iff rfl (Int.lt_irrefl _) ?_
        refine c_ex ?_
        refine e_c ?_
        refine e_c ?_
        refine e_h ?_
        exact k7 _ _ ⟨_, jf, _, _, _, _, g13, s40, h93, h94, h95, h96, h97, h98, h99, h100, h92⟩
    intro _ H22 i10
    obtain ⟨s25, f1, Z8, V8, w11, w12, g8, s26, h69, h70, h71, h72, h73, h74, h75, h76, h68⟩ := i10
    replace e := fin_o f1 e
    refine c_sr ?_
    obtain ⟨d12, rfl⟩ := ((s26.curS (s := (Sh.ro Sh.api_Tree)) 5 rfl)).val
    refine o_ldB 4 s26 rfl h74 rfl rfl ?_
    refine o_stB (us' := [(vi x4), (vi 0), (.slice d12 s25.2.2.length s25.2.2.length)]) 3 s26 rfl h73 rfl rfl rfl rfl rfl fun H33 s41 => ?_
    refine o_mv (v := (.bool true)) rfl ?_
    refine c_nil ?_
    refine c_rt ?_
    obtain ⟨d13, rfl⟩ := (h68).val
    obtain rfl := Option.some.inj e
    exact ⟨.inr rfl, _, (ra2 (rac 3 s41 rfl h73 rfl rfl) (rat rfl)), _, _, rfl, (((s41.push (ro_it (sl_ro h68))).pick [1, 0, 2, 6] rfl).weak (g1.trans (g4.trans (g5.trans (g6.trans g8)))) hs.zv)⟩
theorem X.parlmake_tree {T : FuncId → Option AFunc} (nd : Nd.parlmake_tree T) {φ : Nat} {Z V : PH} {H : Hp} {v1 : Value} {v2 : Value} {o1 : Nat} {o2 : Nat} {a0 : Ty.api_Grammar} {a1 : Ty.api_Sym} {a2 : Ty.parlmake_stream} {a3 : Int} {a4 : Int} (hs : Sat Z V H [pts o1 (.rw 0 [v2]), pts o2 (.rw 0 [(vi a3)])]) (hp1 : RdS Sh.api_Rule Z v1 a0.Rules) (hp2 : RdS Sh.int Z v2 a2.l) {r : (Ty.parlmake_stream × Int × Ty.api_Tree × Bool)} (e : P.parlmake_tree φ a0 a1 a2 a3 a4 = some r) :
    G T I.parlmake_tree [(.agg #[(vi a0.Terms), (vi a0.Nons), (vi a0.Start), v1]), (.agg #[(.bool a1.Term), (vi a1.N)]), (.pointer (some ⟨o1, 0, none⟩)), (.pointer (some ⟨o2, 0, none⟩)), (vi a4)] H (fun rv H' => ∃ (u1 : Value) (u2 : Value), rv = (.tuple #[(.agg #[(vi r.2.2.1.Rule), (vi r.2.2.1.Term), u2]), (.bool r.2.2.2)]) ∧ Sat Z V H' [pts o1 (.rw 0 [u1]), Sh.it (Sh.ro (Sh.sl Sh.int)) [u1] r.1.l, pts o2 (.rw 0 [(vi r.2.1)]), It.sl (Sh.ro Sh.api_Tree) u2 r.2.2.1.Kids]) := (X.parlmake_tree_rec nd φ) hs hp1 hp2 e
/-! parlmake_Tree -/
structure Nd.parlmake_Tree (T : FuncId → Option AFunc) : Prop where
  own : Has T I.parlmake_Tree F.parlmake_Tree
  parlmake_tree : Nd.parlmake_tree T
set_option maxHeartbeats 1000000 in
theorem X.parlmake_Tree {T : FuncId → Option AFunc} (nd : Nd.parlmake_Tree T) {φ : Nat} {Z V : PH} {H : Hp} {v1 : Value} {v2 : Value} {a0 : Ty.api_Grammar} {a1 : (List Int)} (hs : Sat Z V H []) (hp1 : RdS Sh.api_Rule Z v1 a0.Rules) (hp2 : RdS Sh.int Z v2 a1) {r : (Ty.api_Tree × Bool)} (e : P.parlmake_Tree φ a0 a1 = some r) :
    G T I.parlmake_Tree [(.agg #[(vi a0.Terms), (vi a0.Nons), (vi a0.Start), v1]), v2] H (fun rv H' => ∃ (u1 : Value), rv = (.tuple #[(.agg #[(vi r.1.Rule), (vi r.1.Term), u1]), (.bool r.2)]) ∧ Sat Z V H' [It.sl (Sh.ro Sh.api_Tree) u1 r.1.Kids]) := by
  unfold P.parlmake_Tree at e
  refine f_mk nd.own ?_
  refine c_sr ?_
  obtain ⟨d1, rfl⟩ := (hp1).val
  refine o_box hs rfl rfl fun b1 H1 s1 => ?_
  refine o_new s1 fun b2 H2 s2 => ?_
  refine o_mv (v := (.bool false)) rfl ?_
  refine c_nil ?_
  refine c_sr ?_
  refine o_new s2 fun b3 H3 s3 => ?_
  refine o_stB (us' := [(vi 60)]) 0 s3 rfl rfl rfl rfl rfl rfl rfl fun H4 s4 => ?_
  refine c_nil ?_
  refine c_sr ?_
  refine o_ldB 2 s4 rfl rfl rfl rfl ?_
  refine o_fad rfl ?_
  refine o_ldB 2 s4 rfl rfl rfl rfl ?_
  refine o_bld (qs := [(1, 1, (vi a0.Start))]) rfl rfl ?_
  refine o_mv (v := v2) rfl ?_
  obtain ⟨d2, rfl⟩ := (hp2).val
  refine o_bld (qs := [(0, 1, (.slice d2 a1.length a1.length))]) rfl rfl ?_
  refine o_box s4 rfl rfl fun b4 H5 s5 => ?_
  obtain ⟨x1, q1, e⟩ := Pu.bind_some e
  obtain ⟨Z1, V1, W1, g1, u1, c1, c2, -, c4, c3⟩ := Sat.call (l1 := [pts b4 (.rw 0 [(.slice d2 a1.length a1.length)]), pts b3 (.rw 0 [(vi 60)])]) (l2 := [pts b2 (.rw 0 [(vi 0), (vi 0), (.slice none 0 0)]), pts b1 (.rw 0 [(vi a0.Terms), (vi a0.Nons), (vi a0.Start), (.slice d1 a0.Rules.length a0.Rules.length)])]) s5
  refine o_call (mc rfl (mc rfl (mc rfl (mc rfl (mc rfl m0))))) (X.parlmake_tree nd.parlmake_tree (a2 := (Ty.parlmake_stream.mk a1)) (a3 := 60) c1 (hp1.mono g1.z) (hp2.mono g1.z) q1) fun _ H6 i1 => ?_
  obtain ⟨w1, w2, rfl, s6⟩ := i1
  have s7 := c3 _ _ s6
  obtain ⟨Z2, V2, g2, s8, h1⟩ := (s7.pull 1 rfl).frzR
  refine o_ext rfl rfl ?_
  refine o_ext rfl rfl ?_
  obtain ⟨d3, rfl⟩ := ((s8.curS (s := (Sh.ro Sh.api_Tree)) 2 rfl)).val
  refine o_stB (us' := [(vi x1.2.2.1.Rule), (vi x1.2.2.1.Term), (.slice d3 x1.2.2.1.Kids.length x1.2.2.1.Kids.length)]) 3 s8 rfl rfl rfl rfl rfl rfl rfl fun H7 s9 => ?_
  refine o_mv (v := (.bool x1.2.2.2)) rfl ?_
  refine c_nil ?_
  refine c_gen (P := fun tm => tm 4 = (.pointer (some ⟨b2, 0, none⟩)) ∧ tm 5 = (.bool x1.2.2.2) ∧ True) ⟨rfl, rfl, trivial⟩ ?_
  intro _ i2
  obtain ⟨h2, h3, -⟩ := i2
  refine c_rt ?_
  obtain rfl := Option.some.inj e
  exact ⟨.inr rfl, _, (ra2 (rac 3 s9 rfl h2 rfl rfl) (rat h3)), _, rfl, ((s9.pick [2] rfl).weak (g1.trans g2) hs.zv)⟩
/-! tree_leaf -/
structure Nd.tree_leaf (T : FuncId → Option AFunc) : Prop where
  own : Has T I.tree_leaf F.tree_leaf
set_option maxHeartbeats 1000000 in
theorem X.tree_leaf {T : FuncId → Option AFunc} (nd : Nd.tree_leaf T) {Z V : PH} {H : Hp} {v1 : Value} {a0 : Ty.api_Tree} (hs : Sat Z V H []) (hp1 : RdS Sh.api_Tree V v1 a0.Kids) {r : Bool} (e : P.tree_leaf a0 = some r) :
    G T I.tree_leaf [(.agg #[(vi a0.Rule), (vi a0.Term), v1])] H (fun rv H' => rv = (.bool r) ∧ Sat Z V H' []) := by
  unfold P.tree_leaf at e
  refine f_mk nd.own ?_
  refine c_sr ?_
  obtain ⟨d1, rfl⟩ := (hp1).val
  refine o_box hs rfl rfl fun b1 H1 s1 => ?_
  refine o_mv (v := (.bool false)) rfl ?_
  refine c_nil ?_
  refine c_sr ?_
  refine o_fad rfl ?_
  refine o_ldB 0 s1 rfl rfl rfl rfl ?_
  refine o_eql rfl rfl ?_
  refine o_mv (v := (.bool (decide (a0.Rule = (-1))))) rfl ?_
  refine c_nil ?_
  refine c_rt ?_
  obtain rfl := Option.some.inj e
  exact ⟨.inr rfl, _, (ar1 rfl), rfl, (s1.pick [] rfl)⟩
/-! tree_word -/
structure Nd.tree_word (T : FuncId → Option AFunc) : Prop where
  own_tree_word : Has T I.tree_word F.tree_word
  tree_leaf : Nd.tree_leaf T
set_option maxHeartbeats 1000000 in
theorem X.tree_word_rec {T : FuncId → Option AFunc} (nd : Nd.tree_word T) : ∀ φ : Nat, (∀ {Z V : PH} {H : Hp} {v1 : Value} {v2 : Value} {a0 : (List Int)} {a1 : Ty.api_Tree} (hs : Sat Z V H [It.sl Sh.int v1 a0]) (hp2 : RdS Sh.api_Tree V v2 a1.Kids) {r : (List Int)} (e : P.tree_word φ a0 a1 = some r), G T I.tree_word [v1, (.agg #[(vi a1.Rule), (vi a1.Term), v2])] H (fun rv H' => ∃ (u1 : Value), rv = u1 ∧ Sat Z V H' [It.sl Sh.int u1 r])) := by
  intro φ
  induction φ with
  | zero =>
    intro Z V H v1 v2 a0 a1 hs hp2 r e
    rw [P.tree_word] at e; cases e
  | succ φ ih =>
    intro Z V H v1 v2 a0 a1 hs hp2 r e
    rw [P.tree_word] at e
    refine f_mk nd.own_tree_word ?_
    refine c_sr ?_
    obtain ⟨d1, rfl⟩ := (hp2).val
    refine o_box hs rfl rfl fun b1 H1 s1 => ?_
    refine o_mv (v := (.slice none 0 0)) rfl ?_
    refine c_nil ?_
    refine c_sq ?_
    refine c_sr ?_
    refine o_ldB 0 s1 rfl rfl rfl rfl ?_
    obtain ⟨x1, q1, e⟩ := Pu.bind_some e
    obtain ⟨Z1, V1, W1, g1, u1, c1, c2, -, c4, c3⟩ := Sat.call (l1 := []) s1
    refine o_call (mc rfl m0) (X.tree_leaf nd.tree_leaf c1 (hp2.mono (g1.v.trans u1)) q1) fun _ H2 i1 => ?_
    obtain ⟨rfl, s2⟩ := i1
    have s3 := c3 _ _ s2
    refine c_nil ?_
    refine c_if rfl (fun q2 => ?_) (fun q2 => ?_)
    · replace e := if_t q2 e
      refine c_sr ?_
      refine o_mv (v := v1) rfl ?_
      refine o_fad rfl ?_
      refine o_ldB 0 s3 rfl rfl rfl rfl ?_
      refine o_bsl (s := Sh.int) (us := [(vi a1.Term)]) (qs := [(0, 1, (vi a1.Term))]) (xs := [a1.Term]) s3 Sh.flat_lt rfl rfl rfl (Els.cons (c := [(vi a1.Term)]) rfl Els.nil) rfl rfl fun w1 H3 s4 => ?_
      obtain ⟨x2, q3, e⟩ := Pu.bind_some e
      refine o_app 2 s4 rfl Sh.flat_lt rfl rfl rfl rfl (s4.curS (s := Sh.int) 0 rfl) (PH.le.refl _) (fun h => h) (by decide) q3 fun w2 H4 s5 => ?_
      refine o_mv (v := w2) rfl ?_
      refine c_nil ?_
      refine c_gen (P := fun tm => tm 4 = w2 ∧ True) ⟨rfl, trivial⟩ ?_
      intro _ i2
      obtain ⟨h1, -⟩ := i2
      refine c_rt ?_
      obtain rfl := Option.some.inj e
      exact ⟨.inr rfl, _, (ar1 h1), _, rfl, ((s5.pick [2] rfl).weak g1 hs.zv)⟩
    replace e := ib_f q2 e
    refine c_sk ?_
    refine c_sq ?_
    refine c_sr ?_
    refine o_fad rfl ?_
    refine o_ldB 0 s3 rfl rfl rfl rfl ?_
    refine o_len rfl ((hp2.mono g1.v)).len ?_
    refine o_mv (v := (vi 0)) rfl ?_
    refine c_nil ?_
    obtain ⟨y1, q6, e⟩ := Pu.bind_some e
    refine c_bk ?_
    refine l_forP (xs := a1.Kids) (fun (i3 : Nat) (s6 : (List Int)) tm H => tm 17 = vi i3 ∧ ∃ (Z2 V2 : PH) (w3 : Value), Gw Z1 V1 Z2 V2 ∧ Sat Z2 V2 H [It.sl Sh.int w3 s6] ∧ tm 0 = w3 ∧ tm 15 = (.slice d1 a1.Kids.length a1.Kids.length) ∧ tm 16 = (vi (a1.Kids.length : Int))) (fun i3 x3 s6 s8 tm H6 q4 q5 j1 e1 k1 => ?_) (fun tm H5 jd => ?_) q6 ⟨rfl, _, _, _, Gw.refl _ _, (s3.pick [1] rfl), rfl, rfl, rfl⟩
    · obtain ⟨hti0, Z2, V2, w3, g2, s7, h2, h3, h4⟩ := j1
      unfold P.tree_word.b0 at e1
      refine c_sr ?_
      refine o_lss hti0 h4 ?_
      refine c_nil ?_
      refine c_sq ?_
      refine c_ift rfl (Int.ofNat_lt.2 q5) ?_
      refine c_sk ?_
      refine c_sq ?_
      refine c_bk ?_
      refine c_sr ?_
      refine o_idx (v := (.slice d1 a1.Kids.length a1.Kids.length)) h3 hti0 (hp2.mono (g1.trans g2).v) rfl (Pu.ix_nat.trans q4) fun p1 q7 => ?_
      refine o_lda rfl (hp2.mono (g1.trans g2).v) s7.v rfl q7 (Pu.ix_nat.trans q4) fun c5 h5 => ?_
      obtain ⟨w4, rfl, h6⟩ := Sh.api_Tree_op h5
      refine o_new s7 fun b2 H7 s9 => ?_
      obtain ⟨d2, rfl⟩ := (h6).val
      refine o_stB (us' := [(vi x3.Rule), (vi x3.Term), (.slice d2 x3.Kids.length x3.Kids.length)]) 0 s9 rfl rfl rfl rfl rfl rfl rfl fun H8 s10 => ?_
      refine c_nil ?_
      refine c_r ?_
      refine o_mv (v := w3) h2 ?_
      refine o_ldB 0 s10 rfl rfl rfl rfl ?_
      obtain ⟨x4, q8, e1⟩ := Pu.bind_some e1
      obtain ⟨Z3, V3, W2, g3, u2, c6, c7, -, c9, c8⟩ := Sat.call (l1 := [It.sl Sh.int w3 s6]) (l2 := [pts b2 (.rw 0 [(vi x3.Rule), (vi x3.Term), (.slice d2 x3.Kids.length x3.Kids.length)])]) (s10.pick [1, 0] rfl)
      refine o_call (mc rfl (mc rfl m0)) (ih c6 (h6.mono (g3.v.trans u2)) q8) fun w5 H9 i4 => ?_
      obtain ⟨_, rfl, s11⟩ := i4
      have s12 := c8 _ _ s11
      refine o_mv (v := w5) rfl ?_
      refine c_nil ?_
      refine c_end ?_
      refine c_r ?_
      refine o_add hti0 rfl ?_
      refine o_mv (v := (vi (Pu.W ((i3 : Int) + 1)))) rfl ?_
      refine c_nil ?_
      obtain rfl := Option.some.inj e1
      exact k1 _ _ ⟨(iv rfl (w_suc q5 ((hp2.mono g1.v)).bd)), _, _, _, (g2.trans g3), (s12.pick [0] rfl), rfl, h3, h4⟩
    obtain ⟨hte0, Z4, V4, w6, g4, s13, h7, h8, h9⟩ := jd
    refine c_sr ?_
    refine o_lss hte0 h9 ?_
    refine c_nil ?_
    refine c_sq ?_
    refine c_iff rfl (Int.lt_irrefl _) ?_
    refine c_ex ?_
    refine e_c ?_
    refine e_c ?_
    refine e_h ?_
    refine c_sr ?_
    refine o_mv (v := w6) h7 ?_
    refine o_mv (v := w6) rfl ?_
    refine c_nil ?_
    refine c_rt ?_
    obtain rfl := Option.some.inj e
    exact ⟨.inr rfl, _, (ar1 rfl), _, rfl, (s13.weak (g1.trans g4) hs.zv)⟩
theorem X.tree_word {T : FuncId → Option AFunc} (nd : Nd.tree_word T) {φ : Nat} {Z V : PH} {H : Hp} {v1 : Value} {v2 : Value} {a0 : (List Int)} {a1 : Ty.api_Tree} (hs : Sat Z V H [It.sl Sh.int v1 a0]) (hp2 : RdS Sh.api_Tree V v2 a1.Kids) {r : (List Int)} (e : P.tree_word φ a0 a1 = some r) :
    G T I.tree_word [v1, (.agg #[(vi a1.Rule), (vi a1.Term), v2])] H (fun rv H' => ∃ (u1 : Value), rv = u1 ∧ Sat Z V H' [It.sl Sh.int u1 r]) := (X.tree_word_rec nd φ) hs hp2 e
/-! tree_Word -/
structure Nd.tree_Word (T : FuncId → Option AFunc) : Prop where
  own : Has T I.tree_Word F.tree_Word
  tree_word : Nd.tree_word T
set_option maxHeartbeats 1000000 in
theorem X.tree_Word {T : FuncId → Option AFunc} (nd : Nd.tree_Word T) {φ : Nat} {Z V : PH} {H : Hp} {v1 : Value} {a0 : Ty.api_Tree} (hs : Sat Z V H []) (hp1 : RdS Sh.api_Tree V v1 a0.Kids) {r : (List Int)} (e : P.tree_Word φ a0 = some r) :
    G T I.tree_Word [(.agg #[(vi a0.Rule), (vi a0.Term), v1])] H (fun rv H' => ∃ (u1 : Value), rv = u1 ∧ Sat Z V H' [It.sl Sh.int u1 r]) := by
  unfold P.tree_Word at e
  refine f_mk nd.own ?_
  refine c_sr ?_
  obtain ⟨d1, rfl⟩ := (hp1).val
  refine o_box hs rfl rfl fun b1 H1 s1 => ?_
  refine o_mv (v := (.slice none 0 0)) rfl ?_
  refine c_nil ?_
  refine c_sr ?_
  refine o_ldB 0 s1 rfl rfl rfl rfl ?_
  obtain ⟨x1, q1, e⟩ := Pu.bind_some e
  have s2 := s1.push (sl_nil (s := Sh.int))
  obtain ⟨Z1, V1, W1, g1, u1, c1, c2, -, c4, c3⟩ := Sat.call (l1 := [It.sl Sh.int (.slice none 0 0) []]) (l2 := [pts b1 (.rw 0 [(vi a0.Rule), (vi a0.Term), (.slice d1 a0.Kids.length a0.Kids.length)])]) s2
  refine o_call (mc rfl (mc rfl m0)) (X.tree_word nd.tree_word c1 (hp1.mono (g1.v.trans u1)) q1) fun w1 H2 i1 => ?_
  obtain ⟨_, rfl, s3⟩ := i1
  have s4 := c3 _ _ s3
  refine o_mv (v := w1) rfl ?_
  refine c_nil ?_
  refine c_rt ?_
  obtain rfl := Option.some.inj e
  exact ⟨.inr rfl, _, (ar1 rfl), _, rfl, ((s4.pick [0] rfl).weak g1 hs.zv)⟩
/-! cmp_isNaN_int -/
structure Nd.cmp_isNaN_int (T : FuncId → Option AFunc) : Prop where
  own : Has T I.cmp_isNaN_int F.cmp_isNaN_int
set_option maxHeartbeats 1000000 in
theorem X.cmp_isNaN_int {T : FuncId → Option AFunc} (nd : Nd.cmp_isNaN_int T) {Z V : PH} {H : Hp} {a0 : Int} (hs : Sat Z V H []) {r : Bool} (e : P.cmp_isNaN_int a0 = some r) :
    G T I.cmp_isNaN_int [(vi a0)] H (fun rv H' => rv = (.bool r) ∧ Sat Z V H' []) := by
  unfold P.cmp_isNaN_int at e
  refine f_mk nd.own ?_
  refine c_sr ?_
  refine o_mv (v := (.bool false)) rfl ?_
  refine c_nil ?_
  refine c_sr ?_
  refine o_mv (v := (vi a0)) rfl ?_
  refine o_mv (v := (vi a0)) rfl ?_
  refine o_neq rfl rfl ?_
  refine o_mv (v := (.bool (decide (a0 ≠ a0)))) rfl ?_
  refine c_nil ?_
  refine c_rt ?_
  obtain rfl := Option.some.inj e
  exact ⟨.inr rfl, _, (ar1 rfl), rfl, hs⟩
/-! cmp_Compare_int -/
structure Nd.cmp_Compare_int (T : FuncId → Option AFunc) : Prop where
  own : Has T I.cmp_Compare_int F.cmp_Compare_int
  cmp_isNaN_int : Nd.cmp_isNaN_int T
set_option maxHeartbeats 1000000 in
theorem X.cmp_Compare_int {T : FuncId → Option AFunc} (nd : Nd.cmp_Compare_int T) {Z V : PH} {H : Hp} {a0 : Int} {a1 : Int} (hs : Sat Z V H []) {r : Int} (e : P.cmp_Compare_int a0 a1 = some r) :
    G T I.cmp_Compare_int [(vi a0), (vi a1)] H (fun rv H' => rv = (vi r) ∧ Sat Z V H' []) := by
  unfold P.cmp_Compare_int at e
  refine f_mk nd.own ?_
  refine c_sr ?_
  refine o_mv (v := (vi 0)) rfl ?_
  refine c_nil ?_
  refine c_sr ?_
  refine o_mv (v := (vi a0)) rfl ?_
  obtain ⟨x1, q1, e⟩ := Pu.bind_some e
  obtain ⟨Z1, V1, W1, g1, u1, c1, c2, -, c4, c3⟩ := Sat.call (l1 := []) hs
  refine o_call (mc rfl m0) (X.cmp_isNaN_int nd.cmp_isNaN_int c1 q1) fun _ H1 i1 => ?_
  obtain ⟨rfl, s1⟩ := i1
  have s2 := c3 _ _ s1
  refine o_mv (v := (.bool x1)) rfl ?_
  refine c_nil ?_
  refine c_sr ?_
  refine o_mv (v := (vi a1)) rfl ?_
  obtain ⟨x2, q2, e⟩ := Pu.bind_some e
  obtain ⟨Z2, V2, W2, g2, u2, c5, c6, -, c8, c7⟩ := Sat.call (l1 := []) s2
  refine o_call (mc rfl m0) (X.cmp_isNaN_int nd.cmp_isNaN_int c5 q2) fun _ H2 i2 => ?_
  obtain ⟨rfl, s3⟩ := i2
  have s4 := c7 _ _ s3
  refine o_mv (v := (.bool x2)) rfl ?_
  refine c_nil ?_
  refine c_sq ?_
  refine c_sr ?_
  refine o_mv (v := (.bool x1)) rfl ?_
  refine c_nil ?_
  refine c_if rfl (fun q3 => ?_) (fun q3 => ?_)
  · replace e := if_t q3 e
    refine c_sq ?_
    refine c_sr ?_
    refine o_mv (v := (.bool x2)) rfl ?_
    refine c_nil ?_
    refine c_if rfl (fun q4 => ?_) (fun q4 => ?_)
    · replace e := if_t q4 e
      refine c_sr ?_
      refine o_mv (v := (vi 0)) rfl ?_
      refine c_nil ?_
      refine c_gen (P := fun tm => tm 4 = (vi 0) ∧ True) ⟨rfl, trivial⟩ ?_
      intro _ i3
      obtain ⟨h1, -⟩ := i3
      refine c_rt ?_
      obtain rfl := Option.some.inj e
      exact ⟨.inr rfl, _, (ar1 h1), rfl, (s4.weak (g1.trans g2) hs.zv)⟩
    replace e := ib_f q4 e
    refine c_sk ?_
    refine c_sr ?_
    refine o_mv (v := (vi (-1))) rfl ?_
    refine c_nil ?_
    refine c_gen (P := fun tm => tm 4 = (vi (-1)) ∧ True) ⟨rfl, trivial⟩ ?_
    intro _ i4
    obtain ⟨h2, -⟩ := i4
    refine c_rt ?_
    obtain rfl := Option.some.inj e
    exact ⟨.inr rfl, _, (ar1 h2), rfl, (s4.weak (g1.trans g2) hs.zv)⟩
  replace e := ib_f q3 e
  refine c_sk ?_
  refine c_sq ?_
  refine c_sr ?_
  refine o_mv (v := (.bool x2)) rfl ?_
  refine c_nil ?_
  refine c_if rfl (fun q5 => ?_) (fun q5 => ?_)
  · replace e := if_t q5 e
    refine c_sr ?_
    refine o_mv (v := (vi 1)) rfl ?_
    refine c_nil ?_
    refine c_gen (P := fun tm => tm 4 = (vi 1) ∧ True) ⟨rfl, trivial⟩ ?_
    intro _ i5
    obtain ⟨h3, -⟩ := i5
    refine c_rt ?_
    obtain rfl := Option.some.inj e
    exact ⟨.inr rfl, _, (ar1 h3), rfl, (s4.weak (g1.trans g2) hs.zv)⟩
  replace e := ib_f q5 e
  refine c_sk ?_
  refine c_sq ?_
  refine c_sr ?_
  refine o_mv (v := (vi a0)) rfl ?_
  refine o_mv (v := (vi a1)) rfl ?_
  refine o_lss rfl rfl ?_
  refine c_nil ?_
  refine c_gen (P := fun tm => tm 0 = (vi a0) ∧ tm 1 = (vi a1) ∧ tm 16 = (.bool (decide (a0 < a1))) ∧ True) ⟨rfl, rfl, rfl, trivial⟩ ?_
  intro _ i6
  obtain ⟨h4, h5, h6, -⟩ := i6
  refine c_ifd h6 (fun q6 => ?_) (fun q6 => ?_)
  · replace e := if_t q6 e
    refine c_sr ?_
    refine o_mv (v := (vi (-1))) rfl ?_
    refine c_nil ?_
    refine c_rt ?_
    obtain rfl := Option.some.inj e
    exact ⟨.inr rfl, _, (ar1 rfl), rfl, (s4.weak (g1.trans g2) hs.zv)⟩
  replace e := if_f q6 e
  refine c_sk ?_
  refine c_sq ?_
  refine c_sr ?_
  refine o_mv (v := (vi a0)) h4 ?_
  refine o_mv (v := (vi a1)) h5 ?_
  refine o_gtr rfl rfl ?_
  refine c_nil ?_
  refine c_ifd rfl (fun q7 => ?_) (fun q7 => ?_)
  · replace e := if_t q7 e
    refine c_sr ?_
    refine o_mv (v := (vi 1)) rfl ?_
    refine c_nil ?_
    refine c_rt ?_
    obtain rfl := Option.some.inj e
    exact ⟨.inr rfl, _, (ar1 rfl), rfl, (s4.weak (g1.trans g2) hs.zv)⟩
  replace e := if_f q7 e
  refine c_sk ?_
  refine c_sr ?_
  refine o_mv (v := (vi 0)) rfl ?_
  refine c_nil ?_
  refine c_rt ?_
  obtain rfl := Option.some.inj e
  exact ⟨.inr rfl, _, (ar1 rfl), rfl, (s4.weak (g1.trans g2) hs.zv)⟩
/-! gram_Order -/
structure Nd.gram_Order (T : FuncId → Option AFunc) : Prop where
  own : Has T I.gram_Order F.gram_Order
  cmp_Compare_int : Nd.cmp_Compare_int T
set_option maxHeartbeats 1000000 in
theorem X.gram_Order {T : FuncId → Option AFunc} (nd : Nd.gram_Order T) {Z V : PH} {H : Hp} {a0 : Ty.api_Sym} {a1 : Ty.api_Sym} (hs : Sat Z V H []) {r : Int} (e : P.gram_Order a0 a1 = some r) :
    G T I.gram_Order [(.agg #[(.bool a0.Term), (vi a0.N)]), (.agg #[(.bool a1.Term), (vi a1.N)])] H (fun rv H' => rv = (vi r) ∧ Sat Z V H' []) := by
  unfold P.gram_Order at e
  refine f_mk nd.own ?_
  refine c_sr ?_
  refine o_box hs rfl rfl fun b1 H1 s1 => ?_
  refine o_box s1 rfl rfl fun b2 H2 s2 => ?_
  refine o_mv (v := (vi 0)) rfl ?_
  refine c_nil ?_
  refine c_sq ?_
  refine c_bk ?_
  refine c_sr ?_
  refine o_fad rfl ?_
  refine o_ldB 1 s2 rfl rfl rfl rfl ?_
  refine o_mv (v := (.bool a0.Term)) rfl ?_
  refine o_jn 4 (I := fun tm H => tm 12 = .bool (a0.Term && (!a1.Term)) ∧ (∃ (Z1 V1 : PH), Gw Z V Z1 V1 ∧ Sat Z1 V1 H [pts b1 (.rw 0 [(.bool a0.Term), (vi a0.N)]), pts b2 (.rw 0 [(.bool a1.Term), (vi a1.N)])] ∧ tm 2 = (.pointer (some ⟨b1, 0, none⟩)) ∧ tm 3 = (.pointer (some ⟨b2, 0, none⟩)))) (fun k1 => ?_) ?_
  · rcases Bool.eq_false_or_eq_true a0.Term with q1 | q1
    · refine o_gy rfl q1 ?_
      refine o_fad rfl ?_
      refine o_gy rfl q1 ?_
      refine o_ldB 0 s2 rfl rfl rfl rfl ?_
      refine o_gy rfl q1 ?_
      refine o_not rfl ?_
      refine o_pickt (a := (.bool (!a1.Term))) rfl q1 rfl ?_
      exact k1 _ _ ⟨gf rfl (by first | (rw [q1]; first | done | rfl) | simp [q1]), _, _, Gw.refl _ _, (s2.pick [1, 0] rfl), rfl, rfl⟩
    refine o_gn rfl q1 ?_
    refine o_gn rfl q1 ?_
    refine o_gn rfl q1 ?_
    refine o_pickf (b := (.bool false)) rfl q1 rfl ?_
    exact k1 _ _ ⟨gf rfl (by first | (rw [q1]; first | done | rfl) | simp [q1]), _, _, Gw.refl _ _, (s2.pick [1, 0] rfl), rfl, rfl⟩
  intro _ H3 i1
  obtain ⟨h3, Z1, V1, g1, s3, h1, h2⟩ := i1
  refine o_mv (v := (.bool (a0.Term && (!a1.Term)))) h3 ?_
  refine c_nil ?_
  refine c_if rfl (fun q2 => ?_) (fun q2 => ?_)
  · replace e := if_t q2 e
    refine c_sr ?_
    refine o_mv (v := (vi (-1))) rfl ?_
    refine c_nil ?_
    refine c_rt ?_
    obtain rfl := Option.some.inj e
    exact ⟨.inr rfl, _, (ar1 rfl), rfl, ((s3.pick [] rfl).weak g1 hs.zv)⟩
  replace e := ib_f q2 e
  refine c_sr ?_
  refine o_fad h1 ?_
  refine o_ldB 0 s3 rfl rfl rfl rfl ?_
  refine o_not rfl ?_
  refine o_mv (v := (.bool (!a0.Term))) rfl ?_
  refine o_jn 3 (I := fun tm H => tm 20 = .bool ((!a0.Term) && a1.Term) ∧ (∃ (Z2 V2 : PH), Gw Z1 V1 Z2 V2 ∧ Sat Z2 V2 H [pts b1 (.rw 0 [(.bool a0.Term), (vi a0.N)]), pts b2 (.rw 0 [(.bool a1.Term), (vi a1.N)])] ∧ tm 2 = (.pointer (some ⟨b1, 0, none⟩)) ∧ tm 3 = (.pointer (some ⟨b2, 0, none⟩)))) (fun k2 => ?_) ?_
  · rcases Bool.eq_false_or_eq_true (!a0.Term) with q3 | q3
    · refine o_gy rfl q3 ?_
      refine o_fad h2 ?_
      refine o_gy rfl q3 ?_
      refine o_ldB 1 s3 rfl rfl rfl rfl ?_
      refine o_pickt (a := (.bool a1.Term)) rfl q3 rfl ?_
      exact k2 _ _ ⟨gf rfl (by first | (rw [q3]; first | done | rfl) | simp [q3]), _, _, Gw.refl _ _, s3, h1, h2⟩
    refine o_gn rfl q3 ?_
    refine o_gn rfl q3 ?_
    refine o_pickf (b := (.bool false)) rfl q3 rfl ?_
    exact k2 _ _ ⟨gf rfl (by first | (rw [q3]; first | done | rfl) | simp [q3]), _, _, Gw.refl _ _, s3, h1, h2⟩
  intro _ H4 i2
  obtain ⟨h6, Z2, V2, g2, s4, h4, h5⟩ := i2
  refine o_mv (v := (.bool ((!a0.Term) && a1.Term))) h6 ?_
  refine c_nil ?_
  refine c_if rfl (fun q4 => ?_) (fun q4 => ?_)
  · replace e := if_t q4 e
    refine c_sr ?_
    refine o_mv (v := (vi 1)) rfl ?_
    refine c_nil ?_
    refine c_rt ?_
    obtain rfl := Option.some.inj e
    exact ⟨.inr rfl, _, (ar1 rfl), rfl, ((s4.pick [] rfl).weak (g1.trans g2) hs.zv)⟩
  replace e := ib_f q4 e
  refine c_sk ?_
  refine c_end ?_
  refine c_sr ?_
  refine o_fad h4 ?_
  refine o_ldB 0 s4 rfl rfl rfl rfl ?_
  refine o_fad h5 ?_
  refine o_ldB 1 s4 rfl rfl rfl rfl ?_
  obtain ⟨x1, q5, e⟩ := Pu.bind_some e
  obtain ⟨Z3, V3, W1, g3, u1, c1, c2, -, c4, c3⟩ := Sat.call (l1 := []) s4
  refine o_call (mc rfl (mc rfl m0)) (X.cmp_Compare_int nd.cmp_Compare_int c1 q5) fun _ H5 i3 => ?_
  obtain ⟨rfl, s5⟩ := i3
  have s6 := c3 _ _ s5
  refine o_mv (v := (vi x1)) rfl ?_
  refine c_nil ?_
  refine c_rt ?_
  obtain rfl := Option.some.inj e
  exact ⟨.inr rfl, _, (ar1 rfl), rfl, ((s6.pick [] rfl).weak (g1.trans (g2.trans g3)) hs.zv)⟩
/-! slices_CompareFunc_api_Sym_api_Sym_api_Sym_api_Sym__gram_Order -/
structure Nd.slices_CompareFunc_api_Sym_api_Sym_api_Sym_api_Sym__gram_Order (T : FuncId → Option AFunc) : Prop where
  own : Has T I.slices_CompareFunc_api_Sym_api_Sym_api_Sym_api_Sym F.slices_CompareFunc_api_Sym_api_Sym_api_Sym_api_Sym
  gram_Order : Nd.gram_Order T
set_option maxHeartbeats 1000000 in
theorem X.slices_CompareFunc_api_Sym_api_Sym_api_Sym_api_Sym__gram_Order {T : FuncId → Option AFunc} (nd : Nd.slices_CompareFunc_api_Sym_api_Sym_api_Sym_api_Sym__gram_Order T) {Z V : PH} {H : Hp} {v1 : Value} {v2 : Value} {a0 : (List Ty.api_Sym)} {a1 : (List Ty.api_Sym)} (hs : Sat Z V H []) (hp1 : RdS Sh.api_Sym V v1 a0) (hp2 : RdS Sh.api_Sym V v2 a1) {r : Int} (e : P.slices_CompareFunc_api_Sym_api_Sym_api_Sym_api_Sym__gram_Order a0 a1 = some r) :
    G T I.slices_CompareFunc_api_Sym_api_Sym_api_Sym_api_Sym [v1, v2, (.func (.func I.gram_Order) #[] #[])] H (fun rv H' => rv = (vi r) ∧ Sat Z V H' []) := by
  unfold P.slices_CompareFunc_api_Sym_api_Sym_api_Sym_api_Sym__gram_Order at e
  refine f_mk nd.own ?_
  refine c_sr ?_
  refine o_mv (v := (vi 0)) rfl ?_
  refine c_nil ?_
  refine c_sq ?_
  refine c_sr ?_
  refine o_mv (v := v1) rfl ?_
  refine o_len rfl (hp1).len ?_
  refine o_mv (v := (vi 0)) rfl ?_
  refine c_nil ?_
  obtain ⟨y1, q3, e⟩ := Pu.bind_some e
  refine c_jn (I := fun tm H => ∃ (s3 : Unit), y1 = .out s3 ∧ (∃ (Z2 V2 : PH), Gw Z V Z2 V2 ∧ Sat Z2 V2 H [] ∧ tm 0 = v1 ∧ tm 1 = v2 ∧ tm 2 = (.func (.func I.gram_Order) #[] #[]) ∧ tm 11 = v1 ∧ tm 12 = (vi (a0.length : Int)))) (fun k4 => ?_) ?_
  · refine c_bk ?_
    refine l_forL (xs := a0) (fun (i1 : Nat) (s1 : Unit) tm H => tm 13 = vi i1 ∧ ∃ (Z1 V1 : PH), Gw Z V Z1 V1 ∧ Sat Z1 V1 H [] ∧ tm 0 = v1 ∧ tm 1 = v2 ∧ tm 2 = (.func (.func I.gram_Order) #[] #[]) ∧ tm 11 = v1 ∧ tm 12 = (vi (a0.length : Int))) (fun i1 x1 s1 y2 tm H2 q1 q2 j1 e1 k1 k2 k3 => ?_) (fun s1 tm H1 jf jd => ?_) q3 ⟨rfl, _, _, Gw.refl _ _, hs, rfl, rfl, rfl, rfl, rfl⟩
    · obtain ⟨hti0, Z1, V1, g1, s2, h1, h2, h3, h4, h5⟩ := j1
      unfold P.slices_CompareFunc_api_Sym_api_Sym_api_Sym_api_Sym__gram_Order.b0 at e1
      refine c_sr ?_
      refine o_lss hti0 h5 ?_
      refine c_nil ?_
      refine c_sq ?_
      refine c_ift rfl (Int.ofNat_lt.2 q2) ?_
      refine c_sk ?_
      refine c_sq ?_
      refine c_bk ?_
      refine c_sr ?_
      refine o_mv (v := (vi (i1 : Int))) hti0 ?_
      refine o_idx (v := v1) h4 hti0 (hp1.mono g1.v) rfl (Pu.ix_nat.trans q1) fun p1 q4 => ?_
      refine o_lda rfl (hp1.mono g1.v) s2.v rfl q4 (Pu.ix_nat.trans q1) fun c1 h11 => ?_
      obtain rfl := h11
      refine o_new s2 fun b1 H4 s5 => ?_
      refine o_mv (v := (vi (i1 : Int))) rfl ?_
      refine o_stB (us' := [(.bool x1.Term), (vi x1.N)]) 0 s5 rfl rfl rfl rfl rfl rfl rfl fun H5 s6 => ?_
      refine c_nil ?_
      refine c_sq ?_
      refine c_sr ?_
      refine o_mv (v := (vi (i1 : Int))) rfl ?_
      refine o_mv (v := v2) h2 ?_
      refine o_len rfl ((hp2.mono g1.v)).len ?_
      refine o_geq rfl rfl ?_
      refine c_nil ?_
      refine c_gen (P := fun tm => tm 0 = v1 ∧ tm 1 = v2 ∧ tm 2 = (.func (.func I.gram_Order) #[] #[]) ∧ tm 7 = (vi (i1 : Int)) ∧ tm 8 = (.pointer (some ⟨b1, 0, none⟩)) ∧ tm 11 = v1 ∧ tm 12 = (vi (a0.length : Int)) ∧ tm 13 = (vi (i1 : Int)) ∧ tm 21 = (.bool (decide ((a1.length : Int) ≤ (i1 : Int)))) ∧ True) ⟨h1, h2, h3, rfl, rfl, h4, h5, hti0, rfl, trivial⟩ ?_
      intro _ i2
      obtain ⟨h12, h13, h14, h15, h16, h17, h18, h19, h20, -⟩ := i2
      refine c_ifd h20 (fun q5 => ?_) (fun q5 => ?_)
      · replace e1 := if_t q5 e1
        refine c_sr ?_
        refine o_mv (v := (vi 1)) rfl ?_
        refine c_nil ?_
        refine c_rt ?_
        have e2 := fin_r (k3 _ (Option.some.inj e1).symm) e
        obtain rfl := Option.some.inj e2
        exact ⟨.inr rfl, _, (ar1 rfl), rfl, ((s6.pick [] rfl).weak g1 hs.zv)⟩
      replace e1 := if_f q5 e1
      refine c_sk ?_
      refine c_sr ?_
      refine o_mv (v := v2) h13 ?_
      refine o_mv (v := (vi (i1 : Int))) h15 ?_
      obtain ⟨x2, q6, e1⟩ := Pu.bind_some e1
      refine o_idx (v := v2) rfl rfl (hp2.mono g1.v) rfl q6 fun p2 q7 => ?_
      refine o_lda rfl (hp2.mono g1.v) s6.v rfl q7 q6 fun c2 h21 => ?_
      obtain rfl := h21
      refine o_new s6 fun b2 H6 s7 => ?_
      refine o_stB (us' := [(.bool x2.Term), (vi x2.N)]) 0 s7 rfl rfl rfl rfl rfl rfl rfl fun H7 s8 => ?_
      refine c_nil ?_
      refine c_sr ?_
      refine o_mv (v := (.func (.func I.gram_Order) #[] #[])) h14 ?_
      refine o_ldB 1 s8 rfl h16 rfl rfl ?_
      refine o_ldB 0 s8 rfl rfl rfl rfl ?_
      obtain ⟨x3, q8, e1⟩ := Pu.bind_some e1
      obtain ⟨Z3, V3, W1, g3, u1, c3, c4, -, c6, c5⟩ := Sat.call (l1 := []) s8
      refine o_callv rfl (mc rfl (mc rfl m0)) (X.gram_Order nd.gram_Order c3 q8) fun _ H8 i3 => ?_
      obtain ⟨rfl, s9⟩ := i3
      have s10 := c5 _ _ s9
      refine o_mv (v := (vi x3)) rfl ?_
      refine c_nil ?_
      refine c_gen (P := fun tm => tm 0 = v1 ∧ tm 1 = v2 ∧ tm 2 = (.func (.func I.gram_Order) #[] #[]) ∧ tm 10 = (vi x3) ∧ tm 11 = v1 ∧ tm 12 = (vi (a0.length : Int)) ∧ tm 13 = (vi (i1 : Int)) ∧ True) ⟨h12, h13, h14, rfl, h17, h18, h19, trivial⟩ ?_
      intro _ i4
      obtain ⟨h22, h23, h24, h25, h26, h27, h28, -⟩ := i4
      refine c_sr ?_
      refine o_mv (v := (vi x3)) h25 ?_
      refine o_neq rfl rfl ?_
      refine c_nil ?_
      refine c_ifd rfl (fun q9 => ?_) (fun q9 => ?_)
      · replace e1 := if_t q9 e1
        refine c_sr ?_
        refine o_mv (v := (vi x3)) h25 ?_
        refine o_mv (v := (vi x3)) rfl ?_
        refine c_nil ?_
        refine c_rt ?_
        have e3 := fin_r (k3 _ (Option.some.inj e1).symm) e
        obtain rfl := Option.some.inj e3
        exact ⟨.inr rfl, _, (ar1 rfl), rfl, ((s10.pick [] rfl).weak (g1.trans g3) hs.zv)⟩
      replace e1 := if_f q9 e1
      refine c_sk ?_
      refine c_end ?_
      refine c_r ?_
      refine o_add h28 rfl ?_
      refine o_mv (v := (vi (Pu.W ((i1 : Int) + 1)))) rfl ?_
      refine c_nil ?_
      exact k1 _ _ _ (Option.some.inj e1).symm ⟨(iv rfl (w_suc q2 (hp1).bd)), _, _, (g1.trans g3), (s10.pick [] rfl), h22, h23, h24, h26, h27⟩
    · obtain ⟨hte0, Z4, V4, g4, s11, h29, h30, h31, h32, h33⟩ := jd
      refine c_sr ?_
      refine o_lss hte0 h33 ?_
      refine c_nil ?_
      refine c_sq ?_
      refine c_iff rfl (Int.lt_irrefl _) ?_
      refine c_ex ?_
      refine e_c ?_
      refine e_c ?_
      refine e_h ?_
      exact k4 _ _ ⟨_, jf, _, _, g4, s11, h29, h30, h31, h32, h33⟩
  intro _ H3 i5
  obtain ⟨s3, f1, Z2, V2, g2, s4, h6, h7, h8, h9, h10⟩ := i5
  replace e := fin_o f1 e
  refine c_sq ?_
  refine c_sr ?_
  refine o_mv (v := v1) h6 ?_
  refine o_len rfl ((hp1.mono g2.v)).len ?_
  refine o_mv (v := v2) h7 ?_
  refine o_len rfl ((hp2.mono g2.v)).len ?_
  refine o_lss rfl rfl ?_
  refine c_nil ?_
  refine c_ifd rfl (fun q10 => ?_) (fun q10 => ?_)
  · replace e := if_t q10 e
    refine c_sr ?_
    refine o_mv (v := (vi (-1))) rfl ?_
    refine c_nil ?_
    refine c_rt ?_
    obtain rfl := Option.some.inj e
    exact ⟨.inr rfl, _, (ar1 rfl), rfl, (s4.weak g2 hs.zv)⟩
  replace e := if_f q10 e
  refine c_sk ?_
  refine c_sr ?_
  refine o_mv (v := (vi 0)) rfl ?_
  refine c_nil ?_
  refine c_rt ?_
  obtain rfl := Option.some.inj e
  exact ⟨.inr rfl, _, (ar1 rfl), rfl, (s4.weak g2 hs.zv)⟩
/-! gram_Compare -/
structure Nd.gram_Compare (T : FuncId → Option AFunc) : Prop where
  own : Has T I.gram_Compare F.gram_Compare
  cmp_Compare_int : Nd.cmp_Compare_int T
  slices_CompareFunc_api_Sym_api_Sym_api_Sym_api_Sym__gram_Order : Nd.slices_CompareFunc_api_Sym_api_Sym_api_Sym_api_Sym__gram_Order T
set_option maxHeartbeats 1000000 in
theorem X.gram_Compare {T : FuncId → Option AFunc} (nd : Nd.gram_Compare T) {Z V : PH} {H : Hp} {v1 : Value} {v2 : Value} {a0 : Ty.api_Rule} {a1 : Ty.api_Rule} (hs : Sat Z V H []) (hp1 : RdS Sh.api_Sym V v1 a0.Right) (hp2 : RdS Sh.api_Sym V v2 a1.Right) {r : Int} (e : P.gram_Compare a0 a1 = some r) :
    G T I.gram_Compare [(.agg #[(vi a0.Left), v1]), (.agg #[(vi a1.Left), v2])] H (fun rv H' => rv = (vi r) ∧ Sat Z V H' []) := by
  unfold P.gram_Compare at e
  refine f_mk nd.own ?_
  refine c_sr ?_
  obtain ⟨d1, rfl⟩ := (hp1).val
  refine o_box hs rfl rfl fun b1 H1 s1 => ?_
  obtain ⟨d2, rfl⟩ := (hp2).val
  refine o_box s1 rfl rfl fun b2 H2 s2 => ?_
  refine o_mv (v := (vi 0)) rfl ?_
  refine c_nil ?_
  refine c_sq ?_
  refine c_sr ?_
  refine o_fad rfl ?_
  refine o_ldB 1 s2 rfl rfl rfl rfl ?_
  refine o_fad rfl ?_
  refine o_ldB 0 s2 rfl rfl rfl rfl ?_
  obtain ⟨x1, q1, e⟩ := Pu.bind_some e
  obtain ⟨Z1, V1, W1, g1, u1, c1, c2, -, c4, c3⟩ := Sat.call (l1 := []) s2
  refine o_call (mc rfl (mc rfl m0)) (X.cmp_Compare_int nd.cmp_Compare_int c1 q1) fun _ H3 i1 => ?_
  obtain ⟨rfl, s3⟩ := i1
  have s4 := c3 _ _ s3
  refine o_mv (v := (vi x1)) rfl ?_
  refine c_nil ?_
  refine c_sr ?_
  refine o_mv (v := (vi x1)) rfl ?_
  refine o_neq rfl rfl ?_
  refine c_nil ?_
  refine c_gen (P := fun tm => tm 2 = (.pointer (some ⟨b1, 0, none⟩)) ∧ tm 3 = (.pointer (some ⟨b2, 0, none⟩)) ∧ tm 5 = (vi x1) ∧ tm 12 = (.bool (decide (x1 ≠ 0))) ∧ True) ⟨rfl, rfl, rfl, rfl, trivial⟩ ?_
  intro _ i2
  obtain ⟨h1, h2, h3, h4, -⟩ := i2
  refine c_ifd h4 (fun q2 => ?_) (fun q2 => ?_)
  · replace e := if_t q2 e
    refine c_sr ?_
    refine o_mv (v := (vi x1)) h3 ?_
    refine o_mv (v := (vi x1)) rfl ?_
    refine c_nil ?_
    refine c_rt ?_
    obtain rfl := Option.some.inj e
    exact ⟨.inr rfl, _, (ar1 rfl), rfl, ((s4.pick [] rfl).weak g1 hs.zv)⟩
  replace e := if_f q2 e
  refine c_sk ?_
  refine c_sr ?_
  refine o_fad h1 ?_
  refine o_ldB 1 s4 rfl rfl rfl rfl ?_
  refine o_fad h2 ?_
  refine o_ldB 0 s4 rfl rfl rfl rfl ?_
  obtain ⟨x2, q3, e⟩ := Pu.bind_some e
  obtain ⟨Z2, V2, W2, g2, u2, c5, c6, -, c8, c7⟩ := Sat.call (l1 := []) s4
  refine o_call (mc rfl (mc rfl (mc rfl m0))) (X.slices_CompareFunc_api_Sym_api_Sym_api_Sym_api_Sym__gram_Order nd.slices_CompareFunc_api_Sym_api_Sym_api_Sym_api_Sym__gram_Order c5 (hp1.mono ((g1.trans g2).v.trans u2)) (hp2.mono ((g1.trans g2).v.trans u2)) q3) fun _ H4 i3 => ?_
  obtain ⟨rfl, s5⟩ := i3
  have s6 := c7 _ _ s5
  refine o_mv (v := (vi x2)) rfl ?_
  refine c_nil ?_
  refine c_rt ?_
  obtain rfl := Option.some.inj e
  exact ⟨.inr rfl, _, (ar1 rfl), rfl, ((s6.pick [] rfl).weak (g1.trans g2) hs.zv)⟩
/-! gram_Check -/
structure Nd.gram_Check (T : FuncId → Option AFunc) : Prop where
  own : Has T I.gram_Check F.gram_Check
  gram_Compare : Nd.gram_Compare T
set_option maxHeartbeats 1000000 in
theorem X.gram_Check {T : FuncId → Option AFunc} (nd : Nd.gram_Check T) {Z V : PH} {H : Hp} {v1 : Value} {a0 : Ty.api_Grammar} (hs : Sat Z V H []) (hp1 : RdS Sh.api_Rule V v1 a0.Rules) {r : Int} (e : P.gram_Check a0 = some r) :
    G T I.gram_Check [(.agg #[(vi a0.Terms), (vi a0.Nons), (vi a0.Start), v1])] H (fun rv H' => rv = (vi r) ∧ Sat Z V H' []) := by
  unfold P.gram_Check at e
  refine f_mk nd.own ?_
  refine c_sr ?_
  obtain ⟨d1, rfl⟩ := (hp1).val
  refine o_box hs rfl rfl fun b1 H1 s1 => ?_
  refine o_mv (v := (vi 0)) rfl ?_
  refine c_nil ?_
  refine c_sq ?_
  refine c_sr ?_
  refine o_fad rfl ?_
  refine o_ldB 0 s1 rfl rfl rfl rfl ?_
  refine o_lss rfl rfl ?_
  refine o_mv (v := (.bool (decide (a0.Terms < 1)))) rfl ?_
  refine o_jn 4 (I := fun tm H => tm 16 = .bool ((decide (a0.Terms < 1)) || (decide (8 < a0.Terms))) ∧ (∃ (Z1 V1 : PH), Gw Z V Z1 V1 ∧ Sat Z1 V1 H [pts b1 (.rw 0 [(vi a0.Terms), (vi a0.Nons), (vi a0.Start), (.slice d1 a0.Rules.length a0.Rules.length)])] ∧ tm 1 = (.pointer (some ⟨b1, 0, none⟩)))) (fun k1 => ?_) ?_
  · rcases Bool.eq_false_or_eq_true (decide (a0.Terms < 1)) with q1 | q1
    · refine o_gn rfl q1 ?_
      refine o_gn rfl q1 ?_
      refine o_gn rfl q1 ?_
      refine o_pickt (a := (.bool true)) rfl q1 rfl ?_
      exact k1 _ _ ⟨gf rfl (by first | (rw [q1]; first | done | rfl) | simp [q1]), _, _, Gw.refl _ _, s1, rfl⟩
    refine o_gy rfl q1 ?_
    refine o_fad rfl ?_
    refine o_gy rfl q1 ?_
    refine o_ldB 0 s1 rfl rfl rfl rfl ?_
    refine o_gy rfl q1 ?_
    refine o_gtr rfl rfl ?_
    refine o_pickf (b := (.bool (decide (8 < a0.Terms)))) rfl q1 rfl ?_
    exact k1 _ _ ⟨gf rfl (by first | (rw [q1]; first | done | rfl) | simp [q1]), _, _, Gw.refl _ _, s1, rfl⟩
  intro _ H2 i1
  obtain ⟨h2, Z1, V1, g1, s2, h1⟩ := i1
  refine o_mv (v := (.bool ((decide (a0.Terms < 1)) || (decide (8 < a0.Terms))))) h2 ?_
  refine o_jn 4 (I := fun tm H => tm 21 = .bool (((decide (a0.Terms < 1)) || (decide (8 < a0.Terms))) || (decide (a0.Nons < 1))) ∧ (∃ (Z2 V2 : PH), Gw Z1 V1 Z2 V2 ∧ Sat Z2 V2 H [pts b1 (.rw 0 [(vi a0.Terms), (vi a0.Nons), (vi a0.Start), (.slice d1 a0.Rules.length a0.Rules.length)])] ∧ tm 1 = (.pointer (some ⟨b1, 0, none⟩)))) (fun k2 => ?_) ?_
  · rcases Bool.eq_false_or_eq_true ((decide (a0.Terms < 1)) || (decide (8 < a0.Terms))) with q2 | q2
    · refine o_gn rfl q2 ?_
      refine o_gn rfl q2 ?_
      refine o_gn rfl q2 ?_
      refine o_pickt (a := (.bool true)) rfl q2 rfl ?_
      exact k2 _ _ ⟨gf rfl (by first | (rw [q2]; first | done | rfl) | simp [q2]), _, _, Gw.refl _ _, s2, h1⟩
    refine o_gy rfl q2 ?_
    refine o_fad h1 ?_
    refine o_gy rfl q2 ?_
    refine o_ldB 0 s2 rfl rfl rfl rfl ?_
    refine o_gy rfl q2 ?_
    refine o_lss rfl rfl ?_
    refine o_pickf (b := (.bool (decide (a0.Nons < 1)))) rfl q2 rfl ?_
    exact k2 _ _ ⟨gf rfl (by first | (rw [q2]; first | done | rfl) | simp [q2]), _, _, Gw.refl _ _, s2, h1⟩
  intro _ H3 i2
  obtain ⟨h4, Z2, V2, g2, s3, h3⟩ := i2
  refine o_mv (v := (.bool (((decide (a0.Terms < 1)) || (decide (8 < a0.Terms))) || (decide (a0.Nons < 1))))) h4 ?_
  refine o_jn 4 (I := fun tm H => tm 26 = .bool ((((decide (a0.Terms < 1)) || (decide (8 < a0.Terms))) || (decide (a0.Nons < 1))) || (decide (10 < a0.Nons))) ∧ (∃ (Z3 V3 : PH), Gw Z2 V2 Z3 V3 ∧ Sat Z3 V3 H [pts b1 (.rw 0 [(vi a0.Terms), (vi a0.Nons), (vi a0.Start), (.slice d1 a0.Rules.length a0.Rules.length)])] ∧ tm 1 = (.pointer (some ⟨b1, 0, none⟩)))) (fun k3 => ?_) ?_
  · rcases Bool.eq_false_or_eq_true (((decide (a0.Terms < 1)) || (decide (8 < a0.Terms))) || (decide (a0.Nons < 1))) with q3 | q3
    · refine o_gn rfl q3 ?_
      refine o_gn rfl q3 ?_
      refine o_gn rfl q3 ?_
      refine o_pickt (a := (.bool true)) rfl q3 rfl ?_
      exact k3 _ _ ⟨gf rfl (by first | (rw [q3]; first | done | rfl) | simp [q3]), _, _, Gw.refl _ _, s3, h3⟩
    refine o_gy rfl q3 ?_
    refine o_fad h3 ?_
    refine o_gy rfl q3 ?_
    refine o_ldB 0 s3 rfl rfl rfl rfl ?_
    refine o_gy rfl q3 ?_
    refine o_gtr rfl rfl ?_
    refine o_pickf (b := (.bool (decide (10 < a0.Nons)))) rfl q3 rfl ?_
    exact k3 _ _ ⟨gf rfl (by first | (rw [q3]; first | done | rfl) | simp [q3]), _, _, Gw.refl _ _, s3, h3⟩
  intro _ H4 i3
  obtain ⟨h6, Z3, V3, g3, s4, h5⟩ := i3
  refine o_mv (v := (.bool ((((decide (a0.Terms < 1)) || (decide (8 < a0.Terms))) || (decide (a0.Nons < 1))) || (decide (10 < a0.Nons))))) h6 ?_
  refine o_jn 4 (I := fun tm H => tm 31 = .bool (((((decide (a0.Terms < 1)) || (decide (8 < a0.Terms))) || (decide (a0.Nons < 1))) || (decide (10 < a0.Nons))) || (decide (a0.Start < 0))) ∧ (∃ (Z4 V4 : PH), Gw Z3 V3 Z4 V4 ∧ Sat Z4 V4 H [pts b1 (.rw 0 [(vi a0.Terms), (vi a0.Nons), (vi a0.Start), (.slice d1 a0.Rules.length a0.Rules.length)])] ∧ tm 1 = (.pointer (some ⟨b1, 0, none⟩)))) (fun k4 => ?_) ?_
  · rcases Bool.eq_false_or_eq_true ((((decide (a0.Terms < 1)) || (decide (8 < a0.Terms))) || (decide (a0.Nons < 1))) || (decide (10 < a0.Nons))) with q4 | q4
    · refine o_gn rfl q4 ?_
      refine o_gn rfl q4 ?_
      refine o_gn rfl q4 ?_
      refine o_pickt (a := (.bool true)) rfl q4 rfl ?_
      exact k4 _ _ ⟨gf rfl (by first | (rw [q4]; first | done | rfl) | simp [q4]), _, _, Gw.refl _ _, s4, h5⟩
    refine o_gy rfl q4 ?_
    refine o_fad h5 ?_
    refine o_gy rfl q4 ?_
    refine o_ldB 0 s4 rfl rfl rfl rfl ?_
    refine o_gy rfl q4 ?_
    refine o_lss rfl rfl ?_
    refine o_pickf (b := (.bool (decide (a0.Start < 0)))) rfl q4 rfl ?_
    exact k4 _ _ ⟨gf rfl (by first | (rw [q4]; first | done | rfl) | simp [q4]), _, _, Gw.refl _ _, s4, h5⟩
  intro _ H5 i4
  obtain ⟨h8, Z4, V4, g4, s5, h7⟩ := i4
  refine o_mv (v := (.bool (((((decide (a0.Terms < 1)) || (decide (8 < a0.Terms))) || (decide (a0.Nons < 1))) || (decide (10 < a0.Nons))) || (decide (a0.Start < 0))))) h8 ?_
  refine o_jn 6 (I := fun tm H => tm 38 = .bool ((((((decide (a0.Terms < 1)) || (decide (8 < a0.Terms))) || (decide (a0.Nons < 1))) || (decide (10 < a0.Nons))) || (decide (a0.Start < 0))) || (decide (a0.Nons ≤ a0.Start))) ∧ (∃ (Z5 V5 : PH), Gw Z4 V4 Z5 V5 ∧ Sat Z5 V5 H [pts b1 (.rw 0 [(vi a0.Terms), (vi a0.Nons), (vi a0.Start), (.slice d1 a0.Rules.length a0.Rules.length)])] ∧ tm 1 = (.pointer (some ⟨b1, 0, none⟩)))) (fun k5 => ?_) ?_
  · rcases Bool.eq_false_or_eq_true (((((decide (a0.Terms < 1)) || (decide (8 < a0.Terms))) || (decide (a0.Nons < 1))) || (decide (10 < a0.Nons))) || (decide (a0.Start < 0))) with q5 | q5
    · refine o_gn rfl q5 ?_
      refine o_gn rfl q5 ?_
      refine o_gn rfl q5 ?_
      refine o_gn rfl q5 ?_
      refine o_gn rfl q5 ?_
      refine o_pickt (a := (.bool true)) rfl q5 rfl ?_
      exact k5 _ _ ⟨gf rfl (by first | (rw [q5]; first | done | rfl) | simp [q5]), _, _, Gw.refl _ _, s5, h7⟩
    refine o_gy rfl q5 ?_
    refine o_fad h7 ?_
    refine o_gy rfl q5 ?_
    refine o_ldB 0 s5 rfl rfl rfl rfl ?_
    refine o_gy rfl q5 ?_
    refine o_fad h7 ?_
    refine o_gy rfl q5 ?_
    refine o_ldB 0 s5 rfl rfl rfl rfl ?_
    refine o_gy rfl q5 ?_
    refine o_geq rfl rfl ?_
    refine o_pickf (b := (.bool (decide (a0.Nons ≤ a0.Start)))) rfl q5 rfl ?_
    exact k5 _ _ ⟨gf rfl (by first | (rw [q5]; first | done | rfl) | simp [q5]), _, _, Gw.refl _ _, s5, h7⟩
  intro _ H6 i5
  obtain ⟨h10, Z5, V5, g5, s6, h9⟩ := i5
  refine c_nil ?_
  refine c_if h10 (fun q6 => ?_) (fun q6 => ?_)
  · replace e := if_t q6 e
    refine c_sr ?_
    refine o_mv (v := (vi 1)) rfl ?_
    refine c_nil ?_
    refine c_rt ?_
    obtain rfl := Option.some.inj e
    exact ⟨.inr rfl, _, (ar1 rfl), rfl, ((s6.pick [] rfl).weak (g1.trans (g2.trans (g3.trans (g4.trans g5)))) hs.zv)⟩
  replace e := ib_f q6 e
  refine c_sk ?_
  refine c_sq ?_
  refine c_sr ?_
  refine o_fad h9 ?_
  refine o_ldB 0 s6 rfl rfl rfl rfl ?_
  refine o_len rfl ((hp1.mono (g1.trans (g2.trans (g3.trans (g4.trans g5)))).v)).len ?_
  refine o_gtr rfl rfl ?_
  refine c_nil ?_
  refine c_ifd rfl (fun q7 => ?_) (fun q7 => ?_)
  · replace e := if_t q7 e
    refine c_sr ?_
    refine o_mv (v := (vi 2)) rfl ?_
    refine c_nil ?_
    refine c_rt ?_
    obtain rfl := Option.some.inj e
    exact ⟨.inr rfl, _, (ar1 rfl), rfl, ((s6.pick [] rfl).weak (g1.trans (g2.trans (g3.trans (g4.trans g5)))) hs.zv)⟩
  replace e := if_f q7 e
  refine c_sk ?_
  refine c_sq ?_
  refine c_sr ?_
  refine o_fad h9 ?_
  refine o_ldB 0 s6 rfl rfl rfl rfl ?_
  refine o_len rfl ((hp1.mono (g1.trans (g2.trans (g3.trans (g4.trans g5)))).v)).len ?_
  refine o_mv (v := (vi 0)) rfl ?_
  refine c_nil ?_
  obtain ⟨y1, q10, e⟩ := Pu.bind_some e
  refine c_jn (I := fun tm H => ∃ (s9 : Unit), y1 = .out s9 ∧ (∃ (Z7 V7 : PH), Gw Z5 V5 Z7 V7 ∧ Sat Z7 V7 H [pts b1 (.rw 0 [(vi a0.Terms), (vi a0.Nons), (vi a0.Start), (.slice d1 a0.Rules.length a0.Rules.length)])] ∧ tm 1 = (.pointer (some ⟨b1, 0, none⟩)) ∧ tm 44 = (.slice d1 a0.Rules.length a0.Rules.length) ∧ tm 45 = (vi (a0.Rules.length : Int)))) (fun k9 => ?_) ?_
  · refine c_bk ?_
    refine l_forL (xs := a0.Rules) (fun (i6 : Nat) (s7 : Unit) tm H => tm 46 = vi i6 ∧ ∃ (Z6 V6 : PH), Gw Z5 V5 Z6 V6 ∧ Sat Z6 V6 H [pts b1 (.rw 0 [(vi a0.Terms), (vi a0.Nons), (vi a0.Start), (.slice d1 a0.Rules.length a0.Rules.length)])] ∧ tm 1 = (.pointer (some ⟨b1, 0, none⟩)) ∧ tm 44 = (.slice d1 a0.Rules.length a0.Rules.length) ∧ tm 45 = (vi (a0.Rules.length : Int))) (fun i6 x1 s7 y2 tm H8 q8 q9 j1 e1 k6 k7 k8 => ?_) (fun s7 tm H7 jf jd => ?_) q10 ⟨rfl, _, _, Gw.refl _ _, s6, h9, rfl, rfl⟩
    · obtain ⟨hti0, Z6, V6, g6, s8, h11, h12, h13⟩ := j1
      unfold P.gram_Check.b0 at e1
      refine c_sr ?_
      refine o_lss hti0 h13 ?_
      refine c_nil ?_
      refine c_sq ?_
      refine c_ift rfl (Int.ofNat_lt.2 q9) ?_
      refine c_sk ?_
      refine c_sq ?_
      refine c_bk ?_
      refine c_sr ?_
      refine o_mv (v := (vi (i6 : Int))) hti0 ?_
      refine o_idx (v := (.slice d1 a0.Rules.length a0.Rules.length)) h12 hti0 (hp1.mono (g1.trans (g2.trans (g3.trans (g4.trans (g5.trans g6))))).v) rfl (Pu.ix_nat.trans q8) fun p1 q11 => ?_
      refine o_lda rfl (hp1.mono (g1.trans (g2.trans (g3.trans (g4.trans (g5.trans g6))))).v) s8.v rfl q11 (Pu.ix_nat.trans q8) fun c1 h17 => ?_
      obtain ⟨w1, rfl, h18⟩ := Sh.api_Rule_op h17
      refine o_new s8 fun b2 H10 s11 => ?_
      refine o_mv (v := (vi (i6 : Int))) rfl ?_
      obtain ⟨d2, rfl⟩ := (h18).val
      refine o_stB (us' := [(vi x1.Left), (.slice d2 x1.Right.length x1.Right.length)]) 0 s11 rfl rfl rfl rfl rfl rfl rfl fun H11 s12 => ?_
      refine c_nil ?_
      refine c_sq ?_
      refine c_sr ?_
      refine o_fad rfl ?_
      refine o_ldB 0 s12 rfl rfl rfl rfl ?_
      refine o_lss rfl rfl ?_
      refine o_mv (v := (.bool (decide (x1.Left < 0)))) rfl ?_
      refine o_jn 6 (I := fun tm H => tm 60 = .bool ((decide (x1.Left < 0)) || (decide (a0.Nons ≤ x1.Left))) ∧ (∃ (Z8 V8 : PH), Gw Z6 V6 Z8 V8 ∧ Sat Z8 V8 H [pts b1 (.rw 0 [(vi a0.Terms), (vi a0.Nons), (vi a0.Start), (.slice d1 a0.Rules.length a0.Rules.length)]), pts b2 (.rw 0 [(vi x1.Left), (.slice d2 x1.Right.length x1.Right.length)])] ∧ tm 1 = (.pointer (some ⟨b1, 0, none⟩)) ∧ tm 3 = (vi (i6 : Int)) ∧ tm 4 = (.pointer (some ⟨b2, 0, none⟩)) ∧ tm 44 = (.slice d1 a0.Rules.length a0.Rules.length) ∧ tm 45 = (vi (a0.Rules.length : Int)) ∧ tm 46 = (vi (i6 : Int)))) (fun k10 => ?_) ?_
      · rcases Bool.eq_false_or_eq_true (decide (x1.Left < 0)) with q12 | q12
        · refine o_gn rfl q12 ?_
          refine o_gn rfl q12 ?_
          refine o_gn rfl q12 ?_
          refine o_gn rfl q12 ?_
          refine o_gn rfl q12 ?_
          refine o_pickt (a := (.bool true)) rfl q12 rfl ?_
          exact k10 _ _ ⟨gf rfl (by first | (rw [q12]; first | done | rfl) | simp [q12]), _, _, Gw.refl _ _, (s12.pick [1, 0] rfl), h11, rfl, rfl, h12, h13, hti0⟩
        refine o_gy rfl q12 ?_
        refine o_fad rfl ?_
        refine o_gy rfl q12 ?_
        refine o_ldB 0 s12 rfl rfl rfl rfl ?_
        refine o_gy rfl q12 ?_
        refine o_fad h11 ?_
        refine o_gy rfl q12 ?_
        refine o_ldB 1 s12 rfl rfl rfl rfl ?_
        refine o_gy rfl q12 ?_
        refine o_geq rfl rfl ?_
        refine o_pickf (b := (.bool (decide (a0.Nons ≤ x1.Left)))) rfl q12 rfl ?_
        exact k10 _ _ ⟨gf rfl (by first | (rw [q12]; first | done | rfl) | simp [q12]), _, _, Gw.refl _ _, (s12.pick [1, 0] rfl), h11, rfl, rfl, h12, h13, hti0⟩
      intro _ H12 i7
      obtain ⟨h25, Z8, V8, g8, s13, h19, h20, h21, h22, h23, h24⟩ := i7
      refine c_nil ?_
      refine c_if h25 (fun q13 => ?_) (fun q13 => ?_)
      · replace e1 := if_t q13 e1
        refine c_sr ?_
        refine o_mv (v := (vi 3)) rfl ?_
        refine c_nil ?_
        refine c_rt ?_
        have e2 := fin_r (k8 _ (Option.some.inj e1).symm) e
        obtain rfl := Option.some.inj e2
        exact ⟨.inr rfl, _, (ar1 rfl), rfl, ((s13.pick [] rfl).weak (g1.trans (g2.trans (g3.trans (g4.trans (g5.trans (g6.trans g8)))))) hs.zv)⟩
      replace e1 := ib_f q13 e1
      refine c_sk ?_
      refine c_sq ?_
      refine c_sr ?_
      refine o_fad h21 ?_
      refine o_ldB 1 s13 rfl rfl rfl rfl ?_
      refine o_len rfl ((h18.mono g8.v)).len ?_
      refine o_gtr rfl rfl ?_
      refine c_nil ?_
      refine c_ifd rfl (fun q14 => ?_) (fun q14 => ?_)
      · replace e1 := if_t q14 e1
        refine c_sr ?_
        refine o_mv (v := (vi 2)) rfl ?_
        refine c_nil ?_
        refine c_rt ?_
        have e3 := fin_r (k8 _ (Option.some.inj e1).symm) e
        obtain rfl := Option.some.inj e3
        exact ⟨.inr rfl, _, (ar1 rfl), rfl, ((s13.pick [] rfl).weak (g1.trans (g2.trans (g3.trans (g4.trans (g5.trans (g6.trans g8)))))) hs.zv)⟩
      replace e1 := if_f q14 e1
      refine c_sk ?_
      refine c_sq ?_
      refine c_sr ?_
      refine o_fad h21 ?_
      refine o_ldB 1 s13 rfl rfl rfl rfl ?_
      refine o_len rfl ((h18.mono g8.v)).len ?_
      refine o_mv (v := (vi 0)) rfl ?_
      refine c_nil ?_
      obtain ⟨y3, q17, e1⟩ := Pu.bind_some e1
      refine c_jn (I := fun tm H => ∃ (s16 : Unit), y3 = .out s16 ∧ (∃ (Z10 V10 : PH), Gw Z8 V8 Z10 V10 ∧ Sat Z10 V10 H [pts b1 (.rw 0 [(vi a0.Terms), (vi a0.Nons), (vi a0.Start), (.slice d1 a0.Rules.length a0.Rules.length)]), pts b2 (.rw 0 [(vi x1.Left), (.slice d2 x1.Right.length x1.Right.length)])] ∧ tm 1 = (.pointer (some ⟨b1, 0, none⟩)) ∧ tm 3 = (vi (i6 : Int)) ∧ tm 4 = (.pointer (some ⟨b2, 0, none⟩)) ∧ tm 44 = (.slice d1 a0.Rules.length a0.Rules.length) ∧ tm 45 = (vi (a0.Rules.length : Int)) ∧ tm 46 = (vi (i6 : Int)) ∧ tm 66 = (.slice d2 x1.Right.length x1.Right.length) ∧ tm 67 = (vi (x1.Right.length : Int)))) (fun k14 => ?_) ?_
      · refine c_bk ?_
        refine l_forL (xs := x1.Right) (fun (i8 : Nat) (s14 : Unit) tm H => tm 68 = vi i8 ∧ ∃ (Z9 V9 : PH), Gw Z8 V8 Z9 V9 ∧ Sat Z9 V9 H [pts b1 (.rw 0 [(vi a0.Terms), (vi a0.Nons), (vi a0.Start), (.slice d1 a0.Rules.length a0.Rules.length)]), pts b2 (.rw 0 [(vi x1.Left), (.slice d2 x1.Right.length x1.Right.length)])] ∧ tm 1 = (.pointer (some ⟨b1, 0, none⟩)) ∧ tm 3 = (vi (i6 : Int)) ∧ tm 4 = (.pointer (some ⟨b2, 0, none⟩)) ∧ tm 44 = (.slice d1 a0.Rules.length a0.Rules.length) ∧ tm 45 = (vi (a0.Rules.length : Int)) ∧ tm 46 = (vi (i6 : Int)) ∧ tm 66 = (.slice d2 x1.Right.length x1.Right.length) ∧ tm 67 = (vi (x1.Right.length : Int))) (fun i8 x2 s14 y4 tm H14 q15 q16 j2 e4 k11 k12 k13 => ?_) (fun s14 tm H13 jf jd => ?_) q17 ⟨rfl, _, _, Gw.refl _ _, s13, h19, h20, h21, h22, h23, h24, rfl, rfl⟩
        · obtain ⟨hti1, Z9, V9, g9, s15, h26, h27, h28, h29, h30, h31, h32, h33⟩ := j2
          unfold P.gram_Check.b1 at e4
          refine c_sr ?_
          refine o_lss hti1 h33 ?_
          refine c_nil ?_
          refine c_sq ?_
          refine c_ift rfl (Int.ofNat_lt.2 q16) ?_
          refine c_sk ?_
          refine c_sq ?_
          refine c_bk ?_
          refine c_sr ?_
          refine o_idx (v := (.slice d2 x1.Right.length x1.Right.length)) h32 hti1 (h18.mono (g8.trans g9).v) rfl (Pu.ix_nat.trans q15) fun p2 q18 => ?_
          refine o_lda rfl (h18.mono (g8.trans g9).v) s15.v rfl q18 (Pu.ix_nat.trans q15) fun c2 h42 => ?_
          obtain rfl := h42
          refine o_new s15 fun b3 H16 s18 => ?_
          refine o_stB (us' := [(.bool x2.Term), (vi x2.N)]) 0 s18 rfl rfl rfl rfl rfl rfl rfl fun H17 s19 => ?_
          refine c_nil ?_
          refine c_sr ?_
          refine o_fad rfl ?_
          refine o_ldB 0 s19 rfl rfl rfl rfl ?_
          refine o_lss rfl rfl ?_
          refine o_mv (v := (.bool (decide (x2.N < 0)))) rfl ?_
          obtain ⟨y5, e5, e4⟩ := Pu.bind_some e4
          refine o_jn 10 (I := fun tm H => ∃ (Z11 V11 : PH), Gw Z9 V9 Z11 V11 ∧ Sat Z11 V11 H [pts b1 (.rw 0 [(vi a0.Terms), (vi a0.Nons), (vi a0.Start), (.slice d1 a0.Rules.length a0.Rules.length)]), pts b2 (.rw 0 [(vi x1.Left), (.slice d2 x1.Right.length x1.Right.length)]), pts b3 (.rw 0 [(.bool x2.Term), (vi x2.N)])] ∧ tm 1 = (.pointer (some ⟨b1, 0, none⟩)) ∧ tm 3 = (vi (i6 : Int)) ∧ tm 4 = (.pointer (some ⟨b2, 0, none⟩)) ∧ tm 6 = (.pointer (some ⟨b3, 0, none⟩)) ∧ tm 44 = (.slice d1 a0.Rules.length a0.Rules.length) ∧ tm 45 = (vi (a0.Rules.length : Int)) ∧ tm 46 = (vi (i6 : Int)) ∧ tm 66 = (.slice d2 x1.Right.length x1.Right.length) ∧ tm 67 = (vi (x1.Right.length : Int)) ∧ tm 68 = (vi (i8 : Int)) ∧ tm 85 = (.bool y5)) (fun k15 => ?_) ?_
          · rcases Bool.eq_false_or_eq_true (decide (x2.N < 0)) with q19 | q19
            · replace e5 := if_t q19 e5
              refine o_gn rfl q19 ?_
              refine o_gn rfl q19 ?_
              refine o_gn rfl q19 ?_
              refine o_gu rfl ?_
              refine o_gu rfl ?_
              refine o_gu rfl ?_
              refine o_gu rfl ?_
              refine o_gu rfl ?_
              refine o_gn rfl q19 ?_
              refine o_pickt (a := (.bool true)) rfl q19 rfl ?_
              obtain rfl := Option.some.inj e5
              exact k15 _ _ ⟨_, _, Gw.refl _ _, (s19.pick [1, 2, 0] rfl), h26, h27, h28, rfl, h29, h30, h31, h32, h33, hti1, rfl⟩
            replace e5 := ib_f q19 e5
            refine o_gy rfl q19 ?_
            refine o_fad rfl ?_
            refine o_gy rfl q19 ?_
            refine o_ldB 0 s19 rfl rfl rfl rfl ?_
            refine o_gy rfl q19 ?_
            refine o_mv (v := (.bool x2.Term)) rfl ?_
            refine o_jn 6 (I := fun tm H => tm 84 = .bool (x2.Term && (decide (a0.Terms ≤ x2.N))) ∧ (∃ (Z12 V12 : PH), Gw Z9 V9 Z12 V12 ∧ Sat Z12 V12 H [pts b1 (.rw 0 [(vi a0.Terms), (vi a0.Nons), (vi a0.Start), (.slice d1 a0.Rules.length a0.Rules.length)]), pts b2 (.rw 0 [(vi x1.Left), (.slice d2 x1.Right.length x1.Right.length)]), pts b3 (.rw 0 [(.bool x2.Term), (vi x2.N)])] ∧ tm 1 = (.pointer (some ⟨b1, 0, none⟩)) ∧ tm 3 = (vi (i6 : Int)) ∧ tm 4 = (.pointer (some ⟨b2, 0, none⟩)) ∧ tm 6 = (.pointer (some ⟨b3, 0, none⟩)) ∧ tm 44 = (.slice d1 a0.Rules.length a0.Rules.length) ∧ tm 45 = (vi (a0.Rules.length : Int)) ∧ tm 46 = (vi (i6 : Int)) ∧ tm 66 = (.slice d2 x1.Right.length x1.Right.length) ∧ tm 67 = (vi (x1.Right.length : Int)) ∧ tm 68 = (vi (i8 : Int)) ∧ tm 75 = (.bool (decide (x2.N < 0))) ∧ tm 76 = (.pointer (some ⟨b3, 0, none⟩)) ∧ tm 77 = (.bool x2.Term) ∧ tm 78 = (.bool x2.Term))) (fun k16 => ?_) ?_
            · rcases Bool.eq_false_or_eq_true x2.Term with q20 | q20
              · refine o_gy rfl q20 ?_
                refine o_fad rfl ?_
                refine o_gy rfl q20 ?_
                refine o_ldB 0 s19 rfl rfl rfl rfl ?_
                refine o_gy rfl q20 ?_
                refine o_fad h26 ?_
                refine o_gy rfl q20 ?_
                refine o_ldB 1 s19 rfl rfl rfl rfl ?_
                refine o_gy rfl q20 ?_
                refine o_geq rfl rfl ?_
                refine o_gy rfl q19 ?_
                refine o_pickt (a := (.bool (decide (a0.Terms ≤ x2.N)))) rfl q20 rfl ?_
                exact k16 _ _ ⟨gf rfl (by first | (rw [q20]; first | done | rfl) | simp [q20]), _, _, Gw.refl _ _, (s19.pick [1, 2, 0] rfl), h26, h27, h28, rfl, h29, h30, h31, h32, h33, hti1, rfl, rfl, rfl, rfl⟩
              refine o_gn rfl q20 ?_
              refine o_gn rfl q20 ?_
              refine o_gn rfl q20 ?_
              refine o_gn rfl q20 ?_
              refine o_gn rfl q20 ?_
              refine o_gy rfl q19 ?_
              refine o_pickf (b := (.bool false)) rfl q20 rfl ?_
              exact k16 _ _ ⟨gf rfl (by first | (rw [q20]; first | done | rfl) | simp [q20]), _, _, Gw.refl _ _, (s19.pick [1, 2, 0] rfl), h26, h27, h28, rfl, h29, h30, h31, h32, h33, hti1, rfl, rfl, rfl, rfl⟩
            intro _ H19 i9
            obtain ⟨h68, Z12, V12, g12, s21, h54, h55, h56, h57, h58, h59, h60, h61, h62, h63, h64, h65, h66, h67⟩ := i9
            refine o_pickf (b := (.bool (x2.Term && (decide (a0.Terms ≤ x2.N))))) h64 q19 h68 ?_
            obtain rfl := Option.some.inj e5
            exact k15 _ _ ⟨_, _, g12, s21, h54, h55, h56, h57, h58, h59, h60, h61, h62, h63, rfl⟩
          intro _ H18 i10
          obtain ⟨Z11, V11, g11, s20, h43, h44, h45, h46, h47, h48, h49, h50, h51, h52, h53⟩ := i10
          refine o_mv (v := (.bool y5)) h53 ?_
          obtain ⟨y6, e6, e4⟩ := Pu.bind_some e4
          refine o_jn 11 (I := fun tm H => ∃ (Z13 V13 : PH), Gw Z11 V11 Z13 V13 ∧ Sat Z13 V13 H [pts b1 (.rw 0 [(vi a0.Terms), (vi a0.Nons), (vi a0.Start), (.slice d1 a0.Rules.length a0.Rules.length)]), pts b2 (.rw 0 [(vi x1.Left), (.slice d2 x1.Right.length x1.Right.length)])] ∧ tm 1 = (.pointer (some ⟨b1, 0, none⟩)) ∧ tm 3 = (vi (i6 : Int)) ∧ tm 4 = (.pointer (some ⟨b2, 0, none⟩)) ∧ tm 44 = (.slice d1 a0.Rules.length a0.Rules.length) ∧ tm 45 = (vi (a0.Rules.length : Int)) ∧ tm 46 = (vi (i6 : Int)) ∧ tm 66 = (.slice d2 x1.Right.length x1.Right.length) ∧ tm 67 = (vi (x1.Right.length : Int)) ∧ tm 68 = (vi (i8 : Int)) ∧ tm 97 = (.bool y6)) (fun k17 => ?_) ?_
          · rcases Bool.eq_false_or_eq_true y5 with q21 | q21
            · replace e6 := if_t q21 e6
              refine o_gn rfl q21 ?_
              refine o_gn rfl q21 ?_
              refine o_gn rfl q21 ?_
              refine o_gn rfl q21 ?_
              refine o_gu rfl ?_
              refine o_gu rfl ?_
              refine o_gu rfl ?_
              refine o_gu rfl ?_
              refine o_gu rfl ?_
              refine o_gn rfl q21 ?_
              refine o_pickt (a := (.bool true)) rfl q21 rfl ?_
              obtain rfl := Option.some.inj e6
              exact k17 _ _ ⟨_, _, Gw.refl _ _, (s20.pick [0, 1] rfl), h43, h44, h45, h47, h48, h49, h50, h51, h52, rfl⟩
            replace e6 := ib_f q21 e6
            refine o_gy rfl q21 ?_
            refine o_fad h46 ?_
            refine o_gy rfl q21 ?_
            refine o_ldB 2 s20 rfl rfl rfl rfl ?_
            refine o_gy rfl q21 ?_
            refine o_not rfl ?_
            refine o_gy rfl q21 ?_
            refine o_mv (v := (.bool (!x2.Term))) rfl ?_
            refine o_jn 6 (I := fun tm H => tm 96 = .bool ((!x2.Term) && (decide (a0.Nons ≤ x2.N))) ∧ (∃ (Z14 V14 : PH), Gw Z11 V11 Z14 V14 ∧ Sat Z14 V14 H [pts b1 (.rw 0 [(vi a0.Terms), (vi a0.Nons), (vi a0.Start), (.slice d1 a0.Rules.length a0.Rules.length)]), pts b2 (.rw 0 [(vi x1.Left), (.slice d2 x1.Right.length x1.Right.length)]), pts b3 (.rw 0 [(.bool x2.Term), (vi x2.N)])] ∧ tm 1 = (.pointer (some ⟨b1, 0, none⟩)) ∧ tm 3 = (vi (i6 : Int)) ∧ tm 4 = (.pointer (some ⟨b2, 0, none⟩)) ∧ tm 44 = (.slice d1 a0.Rules.length a0.Rules.length) ∧ tm 45 = (vi (a0.Rules.length : Int)) ∧ tm 46 = (vi (i6 : Int)) ∧ tm 66 = (.slice d2 x1.Right.length x1.Right.length) ∧ tm 67 = (vi (x1.Right.length : Int)) ∧ tm 68 = (vi (i8 : Int)) ∧ tm 86 = (.bool y5) ∧ tm 87 = (.pointer (some ⟨b3, 0, none⟩)) ∧ tm 88 = (.bool x2.Term) ∧ tm 89 = (.bool (!x2.Term)) ∧ tm 90 = (.bool (!x2.Term)))) (fun k18 => ?_) ?_
            · rcases Bool.eq_false_or_eq_true (!x2.Term) with q22 | q22
              · refine o_gy rfl q22 ?_
                refine o_fad h46 ?_
                refine o_gy rfl q22 ?_
                refine o_ldB 2 s20 rfl rfl rfl rfl ?_
                refine o_gy rfl q22 ?_
                refine o_fad h43 ?_
                refine o_gy rfl q22 ?_
                refine o_ldB 0 s20 rfl rfl rfl rfl ?_
                refine o_gy rfl q22 ?_
                refine o_geq rfl rfl ?_
                refine o_gy rfl q21 ?_
                refine o_pickt (a := (.bool (decide (a0.Nons ≤ x2.N)))) rfl q22 rfl ?_
                exact k18 _ _ ⟨gf rfl (by first | (rw [q22]; first | done | rfl) | simp [q22]), _, _, Gw.refl _ _, s20, h43, h44, h45, h47, h48, h49, h50, h51, h52, rfl, rfl, rfl, rfl, rfl⟩
              refine o_gn rfl q22 ?_
              refine o_gn rfl q22 ?_
              refine o_gn rfl q22 ?_
              refine o_gn rfl q22 ?_
              refine o_gn rfl q22 ?_
              refine o_gy rfl q21 ?_
              refine o_pickf (b := (.bool false)) rfl q22 rfl ?_
              exact k18 _ _ ⟨gf rfl (by first | (rw [q22]; first | done | rfl) | simp [q22]), _, _, Gw.refl _ _, s20, h43, h44, h45, h47, h48, h49, h50, h51, h52, rfl, rfl, rfl, rfl, rfl⟩
            intro _ H21 i11
            obtain ⟨h93, Z14, V14, g14, s23, h79, h80, h81, h82, h83, h84, h85, h86, h87, h88, h89, h90, h91, h92⟩ := i11
            refine o_pickf (b := (.bool ((!x2.Term) && (decide (a0.Nons ≤ x2.N))))) h88 q21 h93 ?_
            obtain rfl := Option.some.inj e6
            exact k17 _ _ ⟨_, _, g14, (s23.pick [0, 1] rfl), h79, h80, h81, h82, h83, h84, h85, h86, h87, rfl⟩
          intro _ H20 i12
          obtain ⟨Z13, V13, g13, s22, h69, h70, h71, h72, h73, h74, h75, h76, h77, h78⟩ := i12
          refine c_nil ?_
          refine c_if h78 (fun q23 => ?_) (fun q23 => ?_)
          · replace e4 := if_t q23 e4
            refine c_sr ?_
            refine o_mv (v := (vi 3)) rfl ?_
            refine c_nil ?_
            refine c_rt ?_
            have e7 := fin_r (k13 _ (Option.some.inj e4).symm) e1
            have e8 := fin_r (k8 _ (Option.some.inj e7).symm) e
            obtain rfl := Option.some.inj e8
            exact ⟨.inr rfl, _, (ar1 rfl), rfl, ((s22.pick [] rfl).weak (g1.trans (g2.trans (g3.trans (g4.trans (g5.trans (g6.trans (g8.trans (g9.trans (g11.trans g13))))))))) hs.zv)⟩
          replace e4 := ib_f q23 e4
          refine c_sk ?_
          refine c_end ?_
          refine c_r ?_
          refine o_add h77 rfl ?_
          refine o_mv (v := (vi (Pu.W ((i8 : Int) + 1)))) rfl ?_
          refine c_nil ?_
          exact k11 _ _ _ (Option.some.inj e4).symm ⟨(iv rfl (w_suc q16 ((h18.mono g8.v)).bd)), _, _, (g9.trans (g11.trans g13)), s22, h69, h70, h71, h72, h73, h74, h75, h76⟩
        · obtain ⟨hte1, Z15, V15, g15, s24, h94, h95, h96, h97, h98, h99, h100, h101⟩ := jd
          refine c_sr ?_
          refine o_lss hte1 h101 ?_
          refine c_nil ?_
          refine c_sq ?_
          refine c_iff rfl (Int.lt_irrefl _) ?_
          refine c_ex ?_
          refine e_c ?_
          refine e_c ?_
          refine e_h ?_
          exact k14 _ _ ⟨_, jf, _, _, g15, s24, h94, h95, h96, h97, h98, h99, h100, h101⟩
      intro _ H15 i13
      obtain ⟨s16, f1, Z10, V10, g10, s17, h34, h35, h36, h37, h38, h39, h40, h41⟩ := i13
      replace e1 := fin_o f1 e1
      refine c_sr ?_
      refine o_fad h34 ?_
      refine o_ldB 0 s17 rfl rfl rfl rfl ?_
      refine o_mv (v := (vi (i6 : Int))) h35 ?_
      obtain ⟨x3, q24, e1⟩ := Pu.bind_some e1
      refine o_slch rfl rfl (hp1.mono (g1.trans (g2.trans (g3.trans (g4.trans (g5.trans (g6.trans (g8.trans g10))))))).v) s17.v rfl q24 fun w2 h102 => ?_
      refine o_len rfl (h102).len ?_
      refine o_mv (v := (vi 0)) rfl ?_
      refine c_nil ?_
      obtain ⟨y7, q27, e1⟩ := Pu.bind_some e1
      refine c_jn (I := fun tm H => ∃ (s27 : Unit), y7 = .out s27 ∧ (∃ (Z17 V17 : PH), Gw Z10 V10 Z17 V17 ∧ Sat Z17 V17 H [pts b1 (.rw 0 [(vi a0.Terms), (vi a0.Nons), (vi a0.Start), (.slice d1 a0.Rules.length a0.Rules.length)]), pts b2 (.rw 0 [(vi x1.Left), (.slice d2 x1.Right.length x1.Right.length)])] ∧ tm 1 = (.pointer (some ⟨b1, 0, none⟩)) ∧ tm 4 = (.pointer (some ⟨b2, 0, none⟩)) ∧ tm 44 = (.slice d1 a0.Rules.length a0.Rules.length) ∧ tm 45 = (vi (a0.Rules.length : Int)) ∧ tm 46 = (vi (i6 : Int)) ∧ tm 102 = w2 ∧ tm 103 = (vi (x3.length : Int)))) (fun k22 => ?_) ?_
      · refine c_bk ?_
        refine l_forL (xs := x3) (fun (i14 : Nat) (s25 : Unit) tm H => tm 104 = vi i14 ∧ ∃ (Z16 V16 : PH), Gw Z10 V10 Z16 V16 ∧ Sat Z16 V16 H [pts b1 (.rw 0 [(vi a0.Terms), (vi a0.Nons), (vi a0.Start), (.slice d1 a0.Rules.length a0.Rules.length)]), pts b2 (.rw 0 [(vi x1.Left), (.slice d2 x1.Right.length x1.Right.length)])] ∧ tm 1 = (.pointer (some ⟨b1, 0, none⟩)) ∧ tm 4 = (.pointer (some ⟨b2, 0, none⟩)) ∧ tm 44 = (.slice d1 a0.Rules.length a0.Rules.length) ∧ tm 45 = (vi (a0.Rules.length : Int)) ∧ tm 46 = (vi (i6 : Int)) ∧ tm 102 = w2 ∧ tm 103 = (vi (x3.length : Int))) (fun i14 x4 s25 y8 tm H24 q25 q26 j3 e9 k19 k20 k21 => ?_) (fun s25 tm H23 jf jd => ?_) q27 ⟨rfl, _, _, Gw.refl _ _, s17, h34, h36, h37, h38, h39, rfl, rfl⟩
        · obtain ⟨hti2, Z16, V16, g16, s26, h103, h104, h105, h106, h107, h108, h109⟩ := j3
          unfold P.gram_Check.b2 at e9
          refine c_sr ?_
          refine o_lss hti2 h109 ?_
          refine c_nil ?_
          refine c_sq ?_
          refine c_ift rfl (Int.ofNat_lt.2 q26) ?_
          refine c_sk ?_
          refine c_sq ?_
          refine c_bk ?_
          refine c_sr ?_
          refine o_idx (v := w2) h108 hti2 (h102.mono g16.v) rfl (Pu.ix_nat.trans q25) fun p3 q28 => ?_
          refine o_lda rfl (h102.mono g16.v) s26.v rfl q28 (Pu.ix_nat.trans q25) fun c3 h117 => ?_
          obtain ⟨w3, rfl, h118⟩ := Sh.api_Rule_op h117
          refine o_new s26 fun b4 H26 s29 => ?_
          obtain ⟨d3, rfl⟩ := (h118).val
          refine o_stB (us' := [(vi x4.Left), (.slice d3 x4.Right.length x4.Right.length)]) 0 s29 rfl rfl rfl rfl rfl rfl rfl fun H27 s30 => ?_
          refine c_nil ?_
          refine c_sr ?_
          refine o_ldB 0 s30 rfl rfl rfl rfl ?_
          refine o_ldB 2 s30 rfl h104 rfl rfl ?_
          obtain ⟨x5, q29, e9⟩ := Pu.bind_some e9
          obtain ⟨Z18, V18, W1, g18, u1, c4, c5, -, c7, c6⟩ := Sat.call (l1 := []) s30
          refine o_call (mc rfl (mc rfl m0)) (X.gram_Compare nd.gram_Compare c4 (h118.mono (g18.v.trans u1)) (h18.mono (((g8.trans (g10.trans g16)).trans g18).v.trans u1)) q29) fun _ H28 i15 => ?_
          obtain ⟨rfl, s31⟩ := i15
          have s32 := c6 _ _ s31
          refine o_eql rfl rfl ?_
          refine c_nil ?_
          refine c_ifd rfl (fun q30 => ?_) (fun q30 => ?_)
          · replace e9 := if_t q30 e9
            refine c_sr ?_
            refine o_mv (v := (vi 6)) rfl ?_
            refine c_nil ?_
            refine c_rt ?_
            have e10 := fin_r (k21 _ (Option.some.inj e9).symm) e1
            have e11 := fin_r (k8 _ (Option.some.inj e10).symm) e
            obtain rfl := Option.some.inj e11
            exact ⟨.inr rfl, _, (ar1 rfl), rfl, ((s32.pick [] rfl).weak (g1.trans (g2.trans (g3.trans (g4.trans (g5.trans (g6.trans (g8.trans (g10.trans (g16.trans g18))))))))) hs.zv)⟩
          replace e9 := if_f q30 e9
          refine c_sk ?_
          refine c_end ?_
          refine c_r ?_
          refine o_add hti2 rfl ?_
          refine o_mv (v := (vi (Pu.W ((i14 : Int) + 1)))) rfl ?_
          refine c_nil ?_
          exact k19 _ _ _ (Option.some.inj e9).symm ⟨(iv rfl (w_suc q26 (h102).bd)), _, _, (g16.trans g18), (s32.pick [1, 2] rfl), h103, h104, h105, h106, h107, h108, h109⟩
        · obtain ⟨hte2, Z19, V19, g19, s33, h119, h120, h121, h122, h123, h124, h125⟩ := jd
          refine c_sr ?_
          refine o_lss hte2 h125 ?_
          refine c_nil ?_
          refine c_sq ?_
          refine c_iff rfl (Int.lt_irrefl _) ?_
          refine c_ex ?_
          refine e_c ?_
          refine e_c ?_
          refine e_h ?_
          exact k22 _ _ ⟨_, jf, _, _, g19, s33, h119, h120, h121, h122, h123, h124, h125⟩
      intro _ H25 i16
      obtain ⟨s27, f2, Z17, V17, g17, s28, h110, h111, h112, h113, h114, h115, h116⟩ := i16
      replace e1 := fin_o f2 e1
      refine c_end ?_
      refine c_r ?_
      refine o_add h114 rfl ?_
      refine o_mv (v := (vi (Pu.W ((i6 : Int) + 1)))) rfl ?_
      refine c_nil ?_
      exact k6 _ _ _ (Option.some.inj e1).symm ⟨(iv rfl (w_suc q9 ((hp1.mono (g1.trans (g2.trans (g3.trans (g4.trans g5)))).v)).bd)), _, _, (g6.trans (g8.trans (g10.trans g17))), (s28.pick [0] rfl), h110, h112, h113⟩
    · obtain ⟨hte0, Z20, V20, g20, s34, h126, h127, h128⟩ := jd
      refine c_sr ?_
      refine o_lss hte0 h128 ?_
      refine c_nil ?_
      refine c_sq ?_
      refine c_iff rfl (Int.lt_irrefl _) ?_
      refine c_ex ?_
      refine e_c ?_
      refine e_c ?_
      refine e_h ?_
      exact k9 _ _ ⟨_, jf, _, _, g20, s34, h126, h127, h128⟩
  intro _ H9 i17
  obtain ⟨s9, f3, Z7, V7, g7, s10, h14, h15, h16⟩ := i17
  replace e := fin_o f3 e
  refine c_sr ?_
  refine o_mv (v := (vi 0)) rfl ?_
  refine c_nil ?_
  refine c_rt ?_
  obtain rfl := Option.some.inj e
  exact ⟨.inr rfl, _, (ar1 rfl), rfl, ((s10.pick [] rfl).weak (g1.trans (g2.trans (g3.trans (g4.trans (g5.trans g7))))) hs.zv)⟩
/-! lens_sums -/
structure Nd.lens_sums (T : FuncId → Option AFunc) : Prop where
  own : Has T I.lens_sums F.lens_sums
set_option maxHeartbeats 1000000 in
theorem X.lens_sums {T : FuncId → Option AFunc} (nd : Nd.lens_sums T) {Z V : PH} {H : Hp} {v1 : Value} {v2 : Value} {a0 : (List Ty.api_Sym)} {a1 : (List (List Bool))} {a2 : Int} (hs : Sat Z V H []) (hp1 : RdS Sh.api_Sym V v1 a0) (hp2 : RdS (Sh.sl Sh.bool) V v2 a1) {r : (List Bool)} (e : P.lens_sums a0 a1 a2 = some r) :
    G T I.lens_sums [v1, v2, (vi a2)] H (fun rv H' => ∃ (u1 : Value), rv = u1 ∧ Sat Z V H' [It.sl Sh.bool u1 r]) := by
  unfold P.lens_sums at e
  refine f_mk nd.own ?_
  refine c_sr ?_
  refine o_mv (v := (.slice none 0 0)) rfl ?_
  refine c_nil ?_
  refine c_sr ?_
  refine o_mv (v := (vi a2)) rfl ?_
  refine o_add rfl rfl ?_
  obtain ⟨x1, q1, e⟩ := Pu.bind_some e
  refine o_mks (s := Sh.bool) hs Sh.flat_lt rfl rfl rfl rfl q1 fun w1 H1 s1 => ?_
  refine o_mv (v := w1) rfl ?_
  refine c_nil ?_
  refine c_sr ?_
  refine o_mv (v := w1) rfl ?_
  obtain ⟨x2, q2, e⟩ := Pu.bind_some e
  refine o_idx (v := w1) rfl rfl (s1.curS (s := Sh.bool) 0 rfl) rfl q2 fun p1 q3 => ?_
  refine o_st 0 s1 rfl Sh.flat_lt rfl rfl rfl q3 q2 rfl rfl fun H2 s2 => ?_
  refine c_nil ?_
  refine c_sq ?_
  refine c_sr ?_
  refine o_mv (v := v1) rfl ?_
  refine o_len rfl (hp1).len ?_
  refine o_mv (v := (vi 0)) rfl ?_
  refine c_nil ?_
  refine c_gen (P := fun tm => tm 1 = v2 ∧ tm 2 = (vi a2) ∧ tm 7 = w1 ∧ tm 19 = v1 ∧ tm 20 = (vi (a0.length : Int)) ∧ tm 21 = (vi 0) ∧ True) ⟨rfl, rfl, rfl, rfl, rfl, rfl, trivial⟩ ?_
  intro _ i1
  obtain ⟨h1, h2, h3, h4, h5, h6, -⟩ := i1
  obtain ⟨y1, q6, e⟩ := Pu.bind_some e
  refine c_bk ?_
  refine l_forP (xs := a0) (fun (i2 : Nat) (s3 : (List Bool)) tm H => tm 21 = vi i2 ∧ ∃ (Z1 V1 : PH) (w2 : Value), Gw Z V Z1 V1 ∧ Sat Z1 V1 H [It.sl Sh.bool w2 s3] ∧ tm 1 = v2 ∧ tm 2 = (vi a2) ∧ tm 7 = w2 ∧ tm 19 = v1 ∧ tm 20 = (vi (a0.length : Int))) (fun i2 x3 s3 s5 tm H4 q4 q5 j1 e1 k1 => ?_) (fun tm H3 jd => ?_) q6 ⟨h6, _, _, _, Gw.refl _ _, s2, h1, h2, h3, h4, h5⟩
  · obtain ⟨hti0, Z1, V1, w2, g1, s4, h7, h8, h9, h10, h11⟩ := j1
    unfold P.lens_sums.b0 at e1
    refine c_sr ?_
    refine o_lss hti0 h11 ?_
    refine c_nil ?_
    refine c_sq ?_
    refine c_ift rfl (Int.ofNat_lt.2 q5) ?_
    refine c_sk ?_
    refine c_sq ?_
    refine c_bk ?_
    refine c_sr ?_
    refine o_idx (v := v1) h10 hti0 (hp1.mono g1.v) rfl (Pu.ix_nat.trans q4) fun p2 q7 => ?_
    refine o_lda rfl (hp1.mono g1.v) s4.v rfl q7 (Pu.ix_nat.trans q4) fun c1 h12 => ?_
    obtain rfl := h12
    refine o_new s4 fun b1 H5 s6 => ?_
    refine o_stB (us' := [(.bool x3.Term), (vi x3.N)]) 0 s6 rfl rfl rfl rfl rfl rfl rfl fun H6 s7 => ?_
    refine c_nil ?_
    refine c_sr ?_
    refine o_mv (v := (vi a2)) h8 ?_
    refine o_add rfl rfl ?_
    obtain ⟨x4, q8, e1⟩ := Pu.bind_some e1
    refine o_mks (s := Sh.bool) s7 Sh.flat_lt rfl rfl rfl rfl q8 fun w3 H7 s8 => ?_
    refine o_mv (v := w3) rfl ?_
    refine c_nil ?_
    refine c_sq ?_
    refine c_sr ?_
    refine o_mv (v := w2) h9 ?_
    refine o_len rfl ((s8.curS (s := Sh.bool) 2 rfl)).len ?_
    refine o_mv (v := (vi 0)) rfl ?_
    refine c_nil ?_
    refine c_gen (P := fun tm => tm 1 = v2 ∧ tm 2 = (vi a2) ∧ tm 9 = (.pointer (some ⟨b1, 0, none⟩)) ∧ tm 10 = w3 ∧ tm 19 = v1 ∧ tm 20 = (vi (a0.length : Int)) ∧ tm 21 = (vi (i2 : Int)) ∧ tm 28 = w2 ∧ tm 29 = (vi (s3.length : Int)) ∧ tm 30 = (vi 0) ∧ True) ⟨h7, h8, rfl, rfl, h10, h11, hti0, rfl, rfl, rfl, trivial⟩ ?_
    intro _ i3
    obtain ⟨h13, h14, h15, h16, h17, h18, h19, h20, h21, h22, -⟩ := i3
    obtain ⟨y2, q11, e1⟩ := Pu.bind_some e1
    refine c_bk ?_
    refine l_forP (xs := s3) (fun (i4 : Nat) (s9 : (List Bool)) tm H => tm 30 = vi i4 ∧ ∃ (Z2 V2 : PH), Gw Z1 V1 Z2 V2 ∧ Sat Z2 V2 H [pts b1 (.rw 0 [(.bool x3.Term), (vi x3.N)]), It.sl Sh.bool w3 s9, It.sl Sh.bool w2 s3] ∧ tm 1 = v2 ∧ tm 2 = (vi a2) ∧ tm 9 = (.pointer (some ⟨b1, 0, none⟩)) ∧ tm 10 = w3 ∧ tm 19 = v1 ∧ tm 20 = (vi (a0.length : Int)) ∧ tm 21 = (vi (i2 : Int)) ∧ tm 28 = w2 ∧ tm 29 = (vi (s3.length : Int))) (fun i4 x5 s9 s11 tm H9 q9 q10 j2 e2 k2 => ?_) (fun tm H8 jd => ?_) q11 ⟨h22, _, _, Gw.refl _ _, (s8.pick [1, 0, 2] rfl), h13, h14, h15, h16, h17, h18, h19, h20, h21⟩
    · obtain ⟨hti1, Z2, V2, g2, s10, h23, h24, h25, h26, h27, h28, h29, h30, h31⟩ := j2
      unfold P.lens_sums.b1 at e2
      refine c_sr ?_
      refine o_lss hti1 h31 ?_
      refine c_nil ?_
      refine c_sq ?_
      refine c_ift rfl (Int.ofNat_lt.2 q10) ?_
      refine c_sk ?_
      refine c_sq ?_
      refine c_bk ?_
      refine c_sr ?_
      refine o_mv (v := (vi (i4 : Int))) hti1 ?_
      refine o_idx (v := w2) h30 hti1 (s10.curS (s := Sh.bool) 2 rfl) rfl (Pu.ix_nat.trans q9) fun p3 q12 => ?_
      refine o_ldb rfl (s10.curS (s := Sh.bool) 2 rfl) (PH.le.refl _) q12 (Pu.ix_nat.trans q9) ?_
      refine o_mv (v := (vi (i4 : Int))) rfl ?_
      refine o_mv (v := (.bool x5)) rfl ?_
      refine c_nil ?_
      refine c_sq ?_
      refine c_sr ?_
      refine o_mv (v := (.bool x5)) rfl ?_
      refine o_not rfl ?_
      refine c_nil ?_
      refine c_if rfl (fun q13 => ?_) (fun q13 => ?_)
      · replace e2 := if_t q13 e2
        refine c_ex ?_
        refine e_c ?_
        refine e_h ?_
        refine c_r ?_
        refine o_add hti1 rfl ?_
        refine o_mv (v := (vi (Pu.W ((i4 : Int) + 1)))) rfl ?_
        refine c_nil ?_
        obtain rfl := Option.some.inj e2
        exact k2 _ _ ⟨(iv rfl (w_suc q10 ((s8.curS (s := Sh.bool) 2 rfl)).bd)), _, _, g2, s10, h23, h24, h25, h26, h27, h28, h29, h30, h31⟩
      replace e2 := ib_f q13 e2
      refine c_sk ?_
      refine c_sr ?_
      refine o_mv (v := (vi a2)) h24 ?_
      refine o_add rfl rfl ?_
      refine o_mv (v := (vi (i4 : Int))) rfl ?_
      refine o_sub rfl rfl ?_
      refine o_mv (v := (vi 0)) rfl ?_
      refine c_nil ?_
      refine c_gen (P := fun tm => tm 1 = v2 ∧ tm 2 = (vi a2) ∧ tm 9 = (.pointer (some ⟨b1, 0, none⟩)) ∧ tm 10 = w3 ∧ tm 11 = (vi (i4 : Int)) ∧ tm 19 = v1 ∧ tm 20 = (vi (a0.length : Int)) ∧ tm 21 = (vi (i2 : Int)) ∧ tm 28 = w2 ∧ tm 29 = (vi (s3.length : Int)) ∧ tm 30 = (vi (i4 : Int)) ∧ tm 40 = (vi (Pu.W ((Pu.W (a2 + 1)) - (i4 : Int)))) ∧ tm 41 = (vi 0) ∧ True) ⟨h23, h24, h25, h26, rfl, h27, h28, h29, h30, h31, hti1, rfl, rfl, trivial⟩ ?_
      intro _ i5
      obtain ⟨h32, h33, h34, h35, h36, h37, h38, h39, h40, h41, h42, h43, h44, -⟩ := i5
      obtain ⟨x7, q16, e2⟩ := Pu.bind_some e2
      obtain ⟨rfl, q18⟩ := ranO_some q16
      obtain ⟨y3, q19, e2⟩ := Pu.bind_some e2
      refine c_bk ?_
      refine l_forP (xs := (Pu.ran (Pu.W ((Pu.W (a2 + 1)) - (i4 : Int))))) (fun (i6 : Nat) (s12 : (List Bool)) tm H => tm 41 = vi i6 ∧ ∃ (Z3 V3 : PH), Gw Z2 V2 Z3 V3 ∧ Sat Z3 V3 H [pts b1 (.rw 0 [(.bool x3.Term), (vi x3.N)]), It.sl Sh.bool w3 s12, It.sl Sh.bool w2 s3] ∧ tm 1 = v2 ∧ tm 2 = (vi a2) ∧ tm 9 = (.pointer (some ⟨b1, 0, none⟩)) ∧ tm 10 = w3 ∧ tm 11 = (vi (i4 : Int)) ∧ tm 19 = v1 ∧ tm 20 = (vi (a0.length : Int)) ∧ tm 21 = (vi (i2 : Int)) ∧ tm 28 = w2 ∧ tm 29 = (vi (s3.length : Int)) ∧ tm 30 = (vi (i4 : Int)) ∧ tm 40 = (vi (Pu.W ((Pu.W (a2 + 1)) - (i4 : Int))))) (fun i6 x6 s12 s14 tm H11 q14 q15 j3 e3 k3 => ?_) (fun tm H10 jd => ?_) q19 ⟨h44, _, _, Gw.refl _ _, s10, h32, h33, h34, h35, h36, h37, h38, h39, h40, h41, h42, h43⟩
      · obtain ⟨hti2, Z3, V3, g3, s13, h45, h46, h47, h48, h49, h50, h51, h52, h53, h54, h55, h56⟩ := j3
        unfold P.lens_sums.b2 at e3
        have hti2 := iv hti2 (ran_x q14).symm
        refine c_sr ?_
        refine o_lss hti2 h56 ?_
        refine c_nil ?_
        refine c_sq ?_
        refine c_ift rfl (ran_lt q14) ?_
        refine c_sk ?_
        refine c_sq ?_
        refine c_bk ?_
        refine c_sr ?_
        refine o_mv (v := (vi x6)) hti2 ?_
        refine o_mv (v := (vi x6)) rfl ?_
        refine c_nil ?_
        refine c_r ?_
        refine o_mv (v := w3) h48 ?_
        refine o_mv (v := (vi (i4 : Int))) h49 ?_
        refine o_mv (v := (vi x6)) rfl ?_
        refine o_add rfl rfl ?_
        refine o_mv (v := w3) h48 ?_
        refine o_mv (v := (vi (i4 : Int))) h49 ?_
        refine o_mv (v := (vi x6)) rfl ?_
        refine o_add rfl rfl ?_
        obtain ⟨x8, q20, e3⟩ := Pu.bind_some e3
        refine o_idx (v := w3) rfl rfl (s13.curS (s := Sh.bool) 1 rfl) rfl q20 fun p4 q21 => ?_
        refine o_ldb rfl (s13.curS (s := Sh.bool) 1 rfl) (PH.le.refl _) q21 q20 ?_
        refine o_mv (v := (.bool x8)) rfl ?_
        obtain ⟨y4, e4, e3⟩ := Pu.bind_some e3
        refine o_jn 7 (I := fun tm H => ∃ (Z4 V4 : PH), Gw Z3 V3 Z4 V4 ∧ Sat Z4 V4 H [pts b1 (.rw 0 [(.bool x3.Term), (vi x3.N)]), It.sl Sh.bool w3 s12, It.sl Sh.bool w2 s3] ∧ tm 1 = v2 ∧ tm 2 = (vi a2) ∧ tm 9 = (.pointer (some ⟨b1, 0, none⟩)) ∧ tm 10 = w3 ∧ tm 11 = (vi (i4 : Int)) ∧ tm 13 = (vi x6) ∧ tm 19 = v1 ∧ tm 20 = (vi (a0.length : Int)) ∧ tm 21 = (vi (i2 : Int)) ∧ tm 28 = w2 ∧ tm 29 = (vi (s3.length : Int)) ∧ tm 30 = (vi (i4 : Int)) ∧ tm 40 = (vi (Pu.W ((Pu.W (a2 + 1)) - (i4 : Int)))) ∧ tm 41 = (vi x6) ∧ tm 44 = w3 ∧ tm 47 = (vi (Pu.W ((i4 : Int) + x6))) ∧ tm 61 = (.bool y4)) (fun k4 => ?_) ?_
        · rcases Bool.eq_false_or_eq_true x8 with q22 | q22
          · replace e4 := if_t q22 e4
            refine o_gn rfl q22 ?_
            refine o_gn rfl q22 ?_
            refine o_gn rfl q22 ?_
            refine o_gu rfl ?_
            refine o_gu rfl ?_
            refine o_gn rfl q22 ?_
            refine o_pickt (a := (.bool true)) rfl q22 rfl ?_
            obtain rfl := Option.some.inj e4
            exact k4 _ _ ⟨_, _, Gw.refl _ _, s13, h45, h46, h47, h48, h49, rfl, h50, h51, h52, h53, h54, h55, h56, hti2, rfl, rfl, rfl⟩
          replace e4 := ib_f q22 e4
          refine o_gy rfl q22 ?_
          refine o_fad h47 ?_
          refine o_gy rfl q22 ?_
          refine o_ldB 0 s13 rfl rfl rfl rfl ?_
          refine o_gy rfl q22 ?_
          refine o_mv (v := (.bool x3.Term)) rfl ?_
          refine o_jn 3 (I := fun tm H => tm 60 = .bool (x3.Term && (decide (x6 = 1))) ∧ (∃ (Z5 V5 : PH), Gw Z3 V3 Z5 V5 ∧ Sat Z5 V5 H [pts b1 (.rw 0 [(.bool x3.Term), (vi x3.N)]), It.sl Sh.bool w3 s12, It.sl Sh.bool w2 s3] ∧ tm 1 = v2 ∧ tm 2 = (vi a2) ∧ tm 9 = (.pointer (some ⟨b1, 0, none⟩)) ∧ tm 10 = w3 ∧ tm 11 = (vi (i4 : Int)) ∧ tm 13 = (vi x6) ∧ tm 19 = v1 ∧ tm 20 = (vi (a0.length : Int)) ∧ tm 21 = (vi (i2 : Int)) ∧ tm 28 = w2 ∧ tm 29 = (vi (s3.length : Int)) ∧ tm 30 = (vi (i4 : Int)) ∧ tm 40 = (vi (Pu.W ((Pu.W (a2 + 1)) - (i4 : Int)))) ∧ tm 41 = (vi x6) ∧ tm 44 = w3 ∧ tm 47 = (vi (Pu.W ((i4 : Int) + x6))) ∧ tm 54 = (.bool x8) ∧ tm 55 = (.pointer (some ⟨b1, 0, none⟩)) ∧ tm 56 = (.bool x3.Term) ∧ tm 57 = (.bool x3.Term))) (fun k5 => ?_) ?_
          · rcases Bool.eq_false_or_eq_true x3.Term with q23 | q23
            · refine o_gy rfl q23 ?_
              refine o_mv (v := (vi x6)) rfl ?_
              refine o_gy rfl q23 ?_
              refine o_eql rfl rfl ?_
              refine o_gy rfl q22 ?_
              refine o_pickt (a := (.bool (decide (x6 = 1)))) rfl q23 rfl ?_
              exact k5 _ _ ⟨gf rfl (by first | (rw [q23]; first | done | rfl) | simp [q23]), _, _, Gw.refl _ _, s13, h45, h46, h47, h48, h49, rfl, h50, h51, h52, h53, h54, h55, h56, hti2, rfl, rfl, rfl, rfl, rfl, rfl⟩
            refine o_gn rfl q23 ?_
            refine o_gn rfl q23 ?_
            refine o_gy rfl q22 ?_
            refine o_pickf (b := (.bool false)) rfl q23 rfl ?_
            exact k5 _ _ ⟨gf rfl (by first | (rw [q23]; first | done | rfl) | simp [q23]), _, _, Gw.refl _ _, s13, h45, h46, h47, h48, h49, rfl, h50, h51, h52, h53, h54, h55, h56, hti2, rfl, rfl, rfl, rfl, rfl, rfl⟩
          intro _ H13 i7
          obtain ⟨h94, Z5, V5, g5, s16, h74, h75, h76, h77, h78, h79, h80, h81, h82, h83, h84, h85, h86, h87, h88, h89, h90, h91, h92, h93⟩ := i7
          refine o_pickf (b := (.bool (x3.Term && (decide (x6 = 1))))) h90 q22 h94 ?_
          obtain rfl := Option.some.inj e4
          exact k4 _ _ ⟨_, _, g5, s16, h74, h75, h76, h77, h78, h79, h80, h81, h82, h83, h84, h85, h86, h87, h88, h89, rfl⟩
        intro _ H12 i8
        obtain ⟨Z4, V4, g4, s15, h57, h58, h59, h60, h61, h62, h63, h64, h65, h66, h67, h68, h69, h70, h71, h72, h73⟩ := i8
        refine o_mv (v := (.bool y4)) h73 ?_
        obtain ⟨y5, e5, e3⟩ := Pu.bind_some e3
        refine o_jn 14 (I := fun tm H => ∃ (Z6 V6 : PH), Gw Z4 V4 Z6 V6 ∧ Sat Z6 V6 H [pts b1 (.rw 0 [(.bool x3.Term), (vi x3.N)]), It.sl Sh.bool w3 s12, It.sl Sh.bool w2 s3] ∧ tm 1 = v2 ∧ tm 2 = (vi a2) ∧ tm 9 = (.pointer (some ⟨b1, 0, none⟩)) ∧ tm 10 = w3 ∧ tm 11 = (vi (i4 : Int)) ∧ tm 19 = v1 ∧ tm 20 = (vi (a0.length : Int)) ∧ tm 21 = (vi (i2 : Int)) ∧ tm 28 = w2 ∧ tm 29 = (vi (s3.length : Int)) ∧ tm 30 = (vi (i4 : Int)) ∧ tm 40 = (vi (Pu.W ((Pu.W (a2 + 1)) - (i4 : Int)))) ∧ tm 41 = (vi x6) ∧ tm 44 = w3 ∧ tm 47 = (vi (Pu.W ((i4 : Int) + x6))) ∧ tm 76 = (.bool y5)) (fun k6 => ?_) ?_
        · rcases Bool.eq_false_or_eq_true y4 with q24 | q24
          · replace e5 := if_t q24 e5
            refine o_gn rfl q24 ?_
            refine o_gn rfl q24 ?_
            refine o_gn rfl q24 ?_
            refine o_gn rfl q24 ?_
            refine o_gu rfl ?_
            refine o_gu rfl ?_
            refine o_gu rfl ?_
            refine o_gu rfl ?_
            refine o_gu rfl ?_
            refine o_gu rfl ?_
            refine o_gu rfl ?_
            refine o_gu rfl ?_
            refine o_gn rfl q24 ?_
            refine o_pickt (a := (.bool true)) rfl q24 rfl ?_
            obtain rfl := Option.some.inj e5
            exact k6 _ _ ⟨_, _, Gw.refl _ _, s15, h57, h58, h59, h60, h61, h63, h64, h65, h66, h67, h68, h69, h70, h71, h72, rfl⟩
          replace e5 := ib_f q24 e5
          refine o_gy rfl q24 ?_
          refine o_fad h59 ?_
          refine o_gy rfl q24 ?_
          refine o_ldB 0 s15 rfl rfl rfl rfl ?_
          refine o_gy rfl q24 ?_
          refine o_not rfl ?_
          refine o_gy rfl q24 ?_
          refine o_mv (v := (.bool (!x3.Term))) rfl ?_
          obtain ⟨y6, e6, e5⟩ := Pu.bind_some e5
          refine o_jn 9 (I := fun tm H => ∃ (Z7 V7 : PH), Gw Z4 V4 Z7 V7 ∧ Sat Z7 V7 H [pts b1 (.rw 0 [(.bool x3.Term), (vi x3.N)]), It.sl Sh.bool w3 s12, It.sl Sh.bool w2 s3] ∧ tm 1 = v2 ∧ tm 2 = (vi a2) ∧ tm 9 = (.pointer (some ⟨b1, 0, none⟩)) ∧ tm 10 = w3 ∧ tm 11 = (vi (i4 : Int)) ∧ tm 19 = v1 ∧ tm 20 = (vi (a0.length : Int)) ∧ tm 21 = (vi (i2 : Int)) ∧ tm 28 = w2 ∧ tm 29 = (vi (s3.length : Int)) ∧ tm 30 = (vi (i4 : Int)) ∧ tm 40 = (vi (Pu.W ((Pu.W (a2 + 1)) - (i4 : Int)))) ∧ tm 41 = (vi x6) ∧ tm 44 = w3 ∧ tm 47 = (vi (Pu.W ((i4 : Int) + x6))) ∧ tm 62 = (.bool y4) ∧ tm 63 = (.pointer (some ⟨b1, 0, none⟩)) ∧ tm 64 = (.bool x3.Term) ∧ tm 65 = (.bool (!x3.Term)) ∧ tm 66 = (.bool (!x3.Term)) ∧ tm 75 = (.bool y6)) (fun k7 => ?_) ?_
          · rcases Bool.eq_false_or_eq_true (!x3.Term) with q25 | q25
            · replace e6 := if_t q25 e6
              refine o_gy rfl q25 ?_
              refine o_mv (v := v2) h57 ?_
              refine o_gy rfl q25 ?_
              refine o_fad h59 ?_
              refine o_gy rfl q25 ?_
              refine o_ldB 0 s15 rfl rfl rfl rfl ?_
              refine o_gy rfl q25 ?_
              obtain ⟨x9, q26, e6⟩ := Pu.bind_some e6
              refine o_idx (v := v2) rfl rfl (hp2.mono (g1.trans (g2.trans (g3.trans g4))).v) rfl q26 fun p5 q27 => ?_
              refine o_gy rfl q25 ?_
              refine o_lds rfl (hp2.mono (g1.trans (g2.trans (g3.trans g4))).v) s15.v q27 q26 fun w4 h132 => ?_
              refine o_gy rfl q25 ?_
              refine o_mv (v := (vi x6)) h62 ?_
              refine o_gy rfl q25 ?_
              obtain ⟨x10, q28, e6⟩ := Pu.bind_some e6
              refine o_idx (v := w4) rfl rfl h132 rfl q28 fun p6 q29 => ?_
              refine o_gy rfl q25 ?_
              refine o_ldb rfl h132 s15.v q29 q28 ?_
              refine o_gy rfl q24 ?_
              refine o_pickt (a := (.bool x10)) rfl q25 rfl ?_
              obtain rfl := Option.some.inj e6
              exact k7 _ _ ⟨_, _, Gw.refl _ _, s15, h57, h58, h59, h60, h61, h63, h64, h65, h66, h67, h68, h69, h70, h71, h72, rfl, rfl, rfl, rfl, rfl, rfl⟩
            replace e6 := ib_f q25 e6
            refine o_gn rfl q25 ?_
            refine o_gn rfl q25 ?_
            refine o_gn rfl q25 ?_
            refine o_gn rfl q25 ?_
            refine o_gn rfl q25 ?_
            refine o_gn rfl q25 ?_
            refine o_gn rfl q25 ?_
            refine o_gn rfl q25 ?_
            refine o_gy rfl q24 ?_
            refine o_pickf (b := (.bool false)) rfl q25 rfl ?_
            obtain rfl := Option.some.inj e6
            exact k7 _ _ ⟨_, _, Gw.refl _ _, s15, h57, h58, h59, h60, h61, h63, h64, h65, h66, h67, h68, h69, h70, h71, h72, rfl, rfl, rfl, rfl, rfl, rfl⟩
          intro _ H15 i9
          obtain ⟨Z7, V7, g7, s18, h111, h112, h113, h114, h115, h116, h117, h118, h119, h120, h121, h122, h123, h124, h125, h126, h127, h128, h129, h130, h131⟩ := i9
          refine o_pickf (b := (.bool y6)) h126 q24 h131 ?_
          obtain rfl := Option.some.inj e5
          exact k6 _ _ ⟨_, _, g7, s18, h111, h112, h113, h114, h115, h116, h117, h118, h119, h120, h121, h122, h123, h124, h125, rfl⟩
        intro _ H14 i10
        obtain ⟨Z6, V6, g6, s17, h95, h96, h97, h98, h99, h100, h101, h102, h103, h104, h105, h106, h107, h108, h109, h110⟩ := i10
        obtain ⟨x11, q30, e3⟩ := Pu.bind_some e3
        refine o_idx (v := w3) h108 h109 (s17.curS (s := Sh.bool) 1 rfl) rfl q30 fun p7 q31 => ?_
        refine o_st 1 s17 rfl Sh.flat_lt rfl rfl h110 q31 q30 rfl rfl fun H16 s19 => ?_
        refine c_nil ?_
        refine c_end ?_
        refine c_r ?_
        refine o_add h107 rfl ?_
        refine o_mv (v := (vi (Pu.W (x6 + 1)))) rfl ?_
        refine c_nil ?_
        obtain rfl := Option.some.inj e3
        exact k3 _ _ ⟨(iv rfl (w_sucR q14 q18)), _, _, (g3.trans (g4.trans g6)), s19, h95, h96, h97, h98, h99, h100, h101, h102, h103, h104, h105, h106⟩
      obtain ⟨hte2, Z8, V8, g8, s20, h133, h134, h135, h136, h137, h138, h139, h140, h141, h142, h143, h144⟩ := jd
      refine c_sr ?_
      refine o_lss hte2 h144 ?_
      refine c_nil ?_
      refine c_sq ?_
      refine c_iff rfl (ran_done _) ?_
      refine c_ex ?_
      refine e_c ?_
      refine e_c ?_
      refine e_h ?_
      refine c_end ?_
      refine c_r ?_
      refine o_add h143 rfl ?_
      refine o_mv (v := (vi (Pu.W ((i4 : Int) + 1)))) rfl ?_
      refine c_nil ?_
      obtain rfl := Option.some.inj e2
      exact k2 _ _ ⟨(iv rfl (w_suc q10 ((s8.curS (s := Sh.bool) 2 rfl)).bd)), _, _, (g2.trans g8), s20, h133, h134, h135, h136, h138, h139, h140, h141, h142⟩
    obtain ⟨hte1, Z9, V9, g9, s21, h145, h146, h147, h148, h149, h150, h151, h152, h153⟩ := jd
    refine c_sr ?_
    refine o_lss hte1 h153 ?_
    refine c_nil ?_
    refine c_sq ?_
    refine c_iff rfl (Int.lt_irrefl _) ?_
    refine c_ex ?_
    refine e_c ?_
    refine e_c ?_
    refine e_h ?_
    refine c_r ?_
    refine o_mv (v := w3) h148 ?_
    refine o_mv (v := w3) rfl ?_
    refine c_nil ?_
    refine c_end ?_
    refine c_r ?_
    refine o_add h151 rfl ?_
    refine o_mv (v := (vi (Pu.W ((i2 : Int) + 1)))) rfl ?_
    refine c_nil ?_
    obtain rfl := Option.some.inj e1
    exact k1 _ _ ⟨(iv rfl (w_suc q5 (hp1).bd)), _, _, _, (g1.trans g9), (s21.pick [1] rfl), h145, h146, rfl, h149, h150⟩
  obtain ⟨hte0, Z10, V10, w5, g10, s22, h154, h155, h156, h157, h158⟩ := jd
  refine c_sr ?_
  refine o_lss hte0 h158 ?_
  refine c_nil ?_
  refine c_sq ?_
  refine c_iff rfl (Int.lt_irrefl _) ?_
  refine c_ex ?_
  refine e_c ?_
  refine e_c ?_
  refine e_h ?_
  refine c_sr ?_
  refine o_mv (v := w5) h156 ?_
  refine o_mv (v := w5) rfl ?_
  refine c_nil ?_
  refine c_rt ?_
  obtain rfl := Option.some.inj e
  exact ⟨.inr rfl, _, (ar1 rfl), _, rfl, (s22.weak g10 hs.zv)⟩
/-! lens_Set -/
structure Nd.lens_Set (T : FuncId → Option AFunc) : Prop where
  own : Has T I.lens_Set F.lens_Set
  gram_Check : Nd.gram_Check T
  lens_sums : Nd.lens_sums T
set_option maxHeartbeats 1000000 in
theorem X.lens_Set {T : FuncId → Option AFunc} (nd : Nd.lens_Set T) {φ : Nat} {Z V : PH} {H : Hp} {v1 : Value} {a0 : Ty.api_Grammar} {a1 : Int} (hs : Sat Z V H []) (hp1 : RdS Sh.api_Rule V v1 a0.Rules) {r : ((List Bool) × Int)} (e : P.lens_Set φ a0 a1 = some r) :
    G T I.lens_Set [(.agg #[(vi a0.Terms), (vi a0.Nons), (vi a0.Start), v1]), (vi a1)] H (fun rv H' => ∃ (u1 : Value), rv = (.tuple #[u1, (vi r.2)]) ∧ Sat Z V H' [Sh.it (Sh.ro (Sh.sl Sh.bool)) [u1] r.1]) := by
  unfold P.lens_Set at e
  refine f_mk nd.own ?_
  refine c_sr ?_
  obtain ⟨d1, rfl⟩ := (hp1).val
  refine o_box hs rfl rfl fun b1 H1 s1 => ?_
  refine o_mv (v := (.slice none 0 0)) rfl ?_
  refine o_mv (v := (vi 0)) rfl ?_
  refine c_nil ?_
  refine c_sq ?_
  refine c_sr ?_
  refine o_ldB 0 s1 rfl rfl rfl rfl ?_
  obtain ⟨x1, q1, e⟩ := Pu.bind_some e
  obtain ⟨Z1, V1, W1, g1, u1, c1, c2, -, c4, c3⟩ := Sat.call (l1 := []) s1
  refine o_call (mc rfl m0) (X.gram_Check nd.gram_Check c1 (hp1.mono (g1.v.trans u1)) q1) fun _ H2 i1 => ?_
  obtain ⟨rfl, s2⟩ := i1
  have s3 := c3 _ _ s2
  refine o_mv (v := (vi x1)) rfl ?_
  refine c_nil ?_
  refine c_sr ?_
  refine o_mv (v := (vi x1)) rfl ?_
  refine o_neq rfl rfl ?_
  refine c_nil ?_
  refine c_ifd rfl (fun q2 => ?_) (fun q2 => ?_)
  · replace e := if_t q2 e
    refine c_sr ?_
    refine o_mv (v := (vi x1)) rfl ?_
    refine o_mv (v := (.slice none 0 0)) rfl ?_
    refine o_mv (v := (vi x1)) rfl ?_
    refine c_nil ?_
    refine c_gen (P := fun tm => tm 4 = (.slice none 0 0) ∧ tm 5 = (vi x1) ∧ True) ⟨rfl, rfl, trivial⟩ ?_
    intro _ i2
    obtain ⟨h1, h2, -⟩ := i2
    refine c_rt ?_
    obtain rfl := Option.some.inj e
    exact ⟨.inr rfl, _, (ar2 h1 h2), _, rfl, (((s3.push (ro_it (sl_ro RdS.nil))).pick [0] rfl).weak g1 hs.zv)⟩
  replace e := if_f q2 e
  refine c_sk ?_
  refine c_sq ?_
  refine c_sr ?_
  refine o_mv (v := (vi a1)) rfl ?_
  refine o_lss rfl rfl ?_
  refine o_mv (v := (.bool (decide (a1 < 0)))) rfl ?_
  refine o_jn 3 (I := fun tm H => tm 24 = .bool ((decide (a1 < 0)) || (decide (200 < a1))) ∧ (∃ (Z2 V2 : PH), Gw Z1 V1 Z2 V2 ∧ Sat Z2 V2 H [pts b1 (.rw 0 [(vi a0.Terms), (vi a0.Nons), (vi a0.Start), (.slice d1 a0.Rules.length a0.Rules.length)])] ∧ tm 1 = (vi a1) ∧ tm 2 = (.pointer (some ⟨b1, 0, none⟩)))) (fun k1 => ?_) ?_
  · rcases Bool.eq_false_or_eq_true (decide (a1 < 0)) with q3 | q3
    · refine o_gn rfl q3 ?_
      refine o_gn rfl q3 ?_
      refine o_pickt (a := (.bool true)) rfl q3 rfl ?_
      exact k1 _ _ ⟨gf rfl (by first | (rw [q3]; first | done | rfl) | simp [q3]), _, _, Gw.refl _ _, s3, rfl, rfl⟩
    refine o_gy rfl q3 ?_
    refine o_mv (v := (vi a1)) rfl ?_
    refine o_gy rfl q3 ?_
    refine o_gtr rfl rfl ?_
    refine o_pickf (b := (.bool (decide (200 < a1)))) rfl q3 rfl ?_
    exact k1 _ _ ⟨gf rfl (by first | (rw [q3]; first | done | rfl) | simp [q3]), _, _, Gw.refl _ _, s3, rfl, rfl⟩
  intro _ H3 i3
  obtain ⟨h5, Z2, V2, g2, s4, h3, h4⟩ := i3
  refine c_nil ?_
  refine c_if h5 (fun q4 => ?_) (fun q4 => ?_)
  · replace e := if_t q4 e
    refine c_sr ?_
    refine o_mv (v := (.slice none 0 0)) rfl ?_
    refine o_mv (v := (vi 1)) rfl ?_
    refine c_nil ?_
    refine c_rt ?_
    obtain rfl := Option.some.inj e
    exact ⟨.inr rfl, _, (ar2 rfl rfl), _, rfl, (((s4.push (ro_it (sl_ro RdS.nil))).pick [0] rfl).weak (g1.trans g2) hs.zv)⟩
  replace e := ib_f q4 e
  refine c_sk ?_
  refine c_sr ?_
  refine o_fad h4 ?_
  refine o_ldB 0 s4 rfl rfl rfl rfl ?_
  obtain ⟨x2, q5, e⟩ := Pu.bind_some e
  refine o_mksH (s := Sh.bool) s4 rfl rfl q5 fun w1 H4 s5 => ?_
  refine o_mv (v := w1) rfl ?_
  refine c_nil ?_
  refine c_sq ?_
  refine c_sr ?_
  refine o_mv (v := w1) rfl ?_
  refine o_len rfl ((s5.curS (s := (Sh.sl Sh.bool)) 0 rfl)).len ?_
  refine o_mv (v := (vi 0)) rfl ?_
  refine c_nil ?_
  obtain ⟨x4, q8, e⟩ := Pu.bind_some e
  obtain ⟨rfl, q10⟩ := ranO_some q8
  obtain ⟨y1, q11, e⟩ := Pu.bind_some e
  refine c_bk ?_
  refine l_forP (xs := (Pu.ran (x2.length : Int))) (fun (i4 : Nat) (s6 : (List (List Bool))) tm H => tm 30 = vi i4 ∧ ∃ (Z3 V3 : PH), Gw Z2 V2 Z3 V3 ∧ Sat Z3 V3 H [pts b1 (.rw 0 [(vi a0.Terms), (vi a0.Nons), (vi a0.Start), (.slice d1 a0.Rules.length a0.Rules.length)]), It.sl (Sh.sl Sh.bool) w1 s6] ∧ tm 1 = (vi a1) ∧ tm 2 = (.pointer (some ⟨b1, 0, none⟩)) ∧ tm 7 = w1 ∧ tm 29 = (vi (x2.length : Int))) (fun i4 x3 s6 s8 tm H6 q6 q7 j1 e1 k2 => ?_) (fun tm H5 jd => ?_) q11 ⟨rfl, _, _, Gw.refl _ _, (s5.pick [1, 0] rfl), h3, h4, rfl, rfl⟩
  · obtain ⟨hti0, Z3, V3, g3, s7, h6, h7, h8, h9⟩ := j1
    unfold P.lens_Set.b0 at e1
    have hti0 := iv hti0 (ran_x q6).symm
    refine c_sr ?_
    refine o_lss hti0 h9 ?_
    refine c_nil ?_
    refine c_sq ?_
    refine c_ift rfl (ran_lt q6) ?_
    refine c_sk ?_
    refine c_sq ?_
    refine c_bk ?_
    refine c_sr ?_
    refine o_mv (v := (vi x3)) hti0 ?_
    refine o_mv (v := (vi x3)) rfl ?_
    refine c_nil ?_
    refine c_r ?_
    refine o_mv (v := w1) h8 ?_
    refine o_mv (v := (vi x3)) rfl ?_
    refine o_mv (v := (vi a1)) h6 ?_
    refine o_add rfl rfl ?_
    obtain ⟨x5, q12, e1⟩ := Pu.bind_some e1
    refine o_mks (s := Sh.bool) s7 Sh.flat_lt rfl rfl rfl rfl q12 fun w2 H7 s9 => ?_
    obtain ⟨x6, q13, e1⟩ := Pu.bind_some e1
    refine o_idx (v := w1) rfl rfl (s9.curS (s := (Sh.sl Sh.bool)) 2 rfl) rfl q13 fun p1 q14 => ?_
    refine o_stH 1 s9 rfl rfl rfl q14 q13 fun H8 s10 => ?_
    refine c_nil ?_
    refine c_end ?_
    refine c_r ?_
    refine o_add hti0 rfl ?_
    refine o_mv (v := (vi (Pu.W (x3 + 1)))) rfl ?_
    refine c_nil ?_
    obtain rfl := Option.some.inj e1
    exact k2 _ _ ⟨(iv rfl (w_sucR q6 q10)), _, _, g3, s10, h6, h7, h8, h9⟩
  obtain ⟨hte0, Z4, V4, g4, s11, h10, h11, h12, h13⟩ := jd
  refine c_sr ?_
  refine o_lss hte0 h13 ?_
  refine c_nil ?_
  refine c_sq ?_
  refine c_iff rfl (ran_done _) ?_
  refine c_ex ?_
  refine e_c ?_
  refine e_c ?_
  refine e_h ?_
  refine c_sq ?_
  refine c_sr ?_
  refine o_mv (v := (.bool true)) rfl ?_
  refine c_nil ?_
  obtain ⟨y2, q17, e⟩ := Pu.bind_some e
  refine c_jn (I := fun tm H => ∃ (s14 : ((List (List Bool)) × Bool)), y2 = .out s14 ∧ (∃ (Z6 V6 : PH), Gw Z4 V4 Z6 V6 ∧ Sat Z6 V6 H [pts b1 (.rw 0 [(vi a0.Terms), (vi a0.Nons), (vi a0.Start), (.slice d1 a0.Rules.length a0.Rules.length)]), It.sl (Sh.sl Sh.bool) w1 s14.1] ∧ tm 1 = (vi a1) ∧ tm 2 = (.pointer (some ⟨b1, 0, none⟩)) ∧ tm 7 = w1 ∧ tm 9 = (.bool s14.2))) (fun k6 => ?_) ?_
  · refine c_bk ?_
    refine l_whl (fun (s12 : ((List (List Bool)) × Bool)) tm H => ∃ (Z5 V5 : PH), Gw Z4 V4 Z5 V5 ∧ Sat Z5 V5 H [pts b1 (.rw 0 [(vi a0.Terms), (vi a0.Nons), (vi a0.Start), (.slice d1 a0.Rules.length a0.Rules.length)]), It.sl (Sh.sl Sh.bool) w1 s12.1] ∧ tm 1 = (vi a1) ∧ tm 2 = (.pointer (some ⟨b1, 0, none⟩)) ∧ tm 7 = w1 ∧ tm 9 = (.bool s12.2)) (fun s12 y3 tm H11 j2 e2 k3 k4 k5 => ?_) q17 ⟨_, _, Gw.refl _ _, s11, h10, h11, h12, rfl⟩
    obtain ⟨Z5, V5, g5, s13, h14, h15, h16, h17⟩ := j2
    unfold P.lens_Set.b1 at e2
    refine c_sq ?_
    refine c_sr ?_
    refine o_mv (v := (.bool s12.2)) h17 ?_
    refine c_nil ?_
    refine c_if rfl (fun q18 => ?_) (fun q18 => ?_)
    · replace e2 := if_t q18 e2
      refine c_sk ?_
      refine c_bk ?_
      refine c_sr ?_
      refine o_mv (v := (.bool false)) rfl ?_
      refine c_nil ?_
      refine c_sr ?_
      refine o_fad h15 ?_
      refine o_ldB 0 s13 rfl rfl rfl rfl ?_
      refine o_len rfl ((hp1.mono (g1.trans (g2.trans (g4.trans g5))).v)).len ?_
      refine o_mv (v := (vi 0)) rfl ?_
      refine c_nil ?_
      obtain ⟨y4, q21, e2⟩ := Pu.bind_some e2
      refine c_bk ?_
      refine l_forP (xs := a0.Rules) (fun (i6 : Nat) (s16 : ((List (List Bool)) × Bool)) tm H => tm 44 = vi i6 ∧ ∃ (Z7 V7 : PH), Gw Z5 V5 Z7 V7 ∧ Sat Z7 V7 H [pts b1 (.rw 0 [(vi a0.Terms), (vi a0.Nons), (vi a0.Start), (.slice d1 a0.Rules.length a0.Rules.length)]), It.sl (Sh.sl Sh.bool) w1 s16.1] ∧ tm 1 = (vi a1) ∧ tm 2 = (.pointer (some ⟨b1, 0, none⟩)) ∧ tm 7 = w1 ∧ tm 9 = (.bool s16.2) ∧ tm 42 = (.slice d1 a0.Rules.length a0.Rules.length) ∧ tm 43 = (vi (a0.Rules.length : Int))) (fun i6 x8 s16 s18 tm H14 q19 q20 j3 e3 k7 => ?_) (fun tm H13 jd => ?_) q21 ⟨rfl, _, _, Gw.refl _ _, s13, h14, h15, h16, rfl, rfl, rfl⟩
      · obtain ⟨hti2, Z7, V7, g7, s17, h22, h23, h24, h25, h26, h27⟩ := j3
        unfold P.lens_Set.b2 at e3
        refine c_sr ?_
        refine o_lss hti2 h27 ?_
        refine c_nil ?_
        refine c_sq ?_
        refine c_ift rfl (Int.ofNat_lt.2 q20) ?_
        refine c_sk ?_
        refine c_sq ?_
        refine c_bk ?_
        refine c_sr ?_
        refine o_idx (v := (.slice d1 a0.Rules.length a0.Rules.length)) h26 hti2 (hp1.mono (g1.trans (g2.trans (g4.trans (g5.trans g7)))).v) rfl (Pu.ix_nat.trans q19) fun p2 q22 => ?_
        refine o_lda rfl (hp1.mono (g1.trans (g2.trans (g4.trans (g5.trans g7)))).v) s17.v rfl q22 (Pu.ix_nat.trans q19) fun c5 h28 => ?_
        obtain ⟨w3, rfl, h29⟩ := Sh.api_Rule_op h28
        refine o_new s17 fun b2 H15 s19 => ?_
        obtain ⟨d2, rfl⟩ := (h29).val
        refine o_stB (us' := [(vi x8.Left), (.slice d2 x8.Right.length x8.Right.length)]) 0 s19 rfl rfl rfl rfl rfl rfl rfl fun H16 s20 => ?_
        refine c_nil ?_
        refine c_sr ?_
        refine o_fad rfl ?_
        refine o_ldB 0 s20 rfl rfl rfl rfl ?_
        refine o_mv (v := w1) h24 ?_
        refine o_mv (v := (vi a1)) h22 ?_
        obtain ⟨x9, q23, e3⟩ := Pu.bind_some e3
        obtain ⟨Z8, V8, W2, g8, u2, c6, c7, -, c9, c8⟩ := Sat.call (l1 := []) s20
        refine o_call (mc rfl (mc rfl (mc rfl m0))) (X.lens_sums nd.lens_sums c6 (h29.mono (g8.v.trans u2)) (c7 2 _ (Sh.sl Sh.bool) _ _ rfl) q23) fun w4 H17 i7 => ?_
        obtain ⟨_, rfl, s21⟩ := i7
        have s22 := c8 _ _ s21
        refine o_len rfl ((s22.curS (s := Sh.bool) 0 rfl)).len ?_
        refine o_mv (v := (vi 0)) rfl ?_
        refine c_nil ?_
        refine c_gen (P := fun tm => tm 1 = (vi a1) ∧ tm 2 = (.pointer (some ⟨b1, 0, none⟩)) ∧ tm 7 = w1 ∧ tm 9 = (.bool s16.2) ∧ tm 11 = (.pointer (some ⟨b2, 0, none⟩)) ∧ tm 42 = (.slice d1 a0.Rules.length a0.Rules.length) ∧ tm 43 = (vi (a0.Rules.length : Int)) ∧ tm 44 = (vi (i6 : Int)) ∧ tm 52 = w4 ∧ tm 53 = (vi (x9.length : Int)) ∧ tm 54 = (vi 0) ∧ True) ⟨h22, h23, h24, h25, rfl, h26, h27, hti2, rfl, rfl, rfl, trivial⟩ ?_
        intro _ i8
        obtain ⟨h30, h31, h32, h33, h34, h35, h36, h37, h38, h39, h40, -⟩ := i8
        obtain ⟨y5, q26, e3⟩ := Pu.bind_some e3
        refine c_bk ?_
        refine l_forP (xs := x9) (fun (i9 : Nat) (s23 : ((List (List Bool)) × Bool)) tm H => tm 54 = vi i9 ∧ ∃ (Z9 V9 : PH), Gw Z8 V8 Z9 V9 ∧ Sat Z9 V9 H [pts b1 (.rw 0 [(vi a0.Terms), (vi a0.Nons), (vi a0.Start), (.slice d1 a0.Rules.length a0.Rules.length)]), It.sl (Sh.sl Sh.bool) w1 s23.1, pts b2 (.rw 0 [(vi x8.Left), (.slice d2 x8.Right.length x8.Right.length)]), It.sl Sh.bool w4 x9] ∧ tm 1 = (vi a1) ∧ tm 2 = (.pointer (some ⟨b1, 0, none⟩)) ∧ tm 7 = w1 ∧ tm 9 = (.bool s23.2) ∧ tm 11 = (.pointer (some ⟨b2, 0, none⟩)) ∧ tm 42 = (.slice d1 a0.Rules.length a0.Rules.length) ∧ tm 43 = (vi (a0.Rules.length : Int)) ∧ tm 44 = (vi (i6 : Int)) ∧ tm 52 = w4 ∧ tm 53 = (vi (x9.length : Int))) (fun i9 x10 s23 s25 tm H19 q24 q25 j4 e4 k8 => ?_) (fun tm H18 jd => ?_) q26 ⟨h40, _, _, Gw.refl _ _, (s22.pick [2, 3, 1, 0] rfl), h30, h31, h32, h33, h34, h35, h36, h37, h38, h39⟩
        · obtain ⟨hti3, Z9, V9, g9, s24, h41, h42, h43, h44, h45, h46, h47, h48, h49, h50⟩ := j4
          unfold P.lens_Set.b3 at e4
          refine c_sr ?_
          refine o_lss hti3 h50 ?_
          refine c_nil ?_
          refine c_sq ?_
          refine c_ift rfl (Int.ofNat_lt.2 q25) ?_
          refine c_sk ?_
          refine c_sq ?_
          refine c_bk ?_
          refine c_sr ?_
          refine o_mv (v := (vi (i9 : Int))) hti3 ?_
          refine o_idx (v := w4) h49 hti3 (s24.curS (s := Sh.bool) 3 rfl) rfl (Pu.ix_nat.trans q24) fun p3 q27 => ?_
          refine o_ldb rfl (s24.curS (s := Sh.bool) 3 rfl) (PH.le.refl _) q27 (Pu.ix_nat.trans q24) ?_
          refine o_mv (v := (vi (i9 : Int))) rfl ?_
          refine o_mv (v := (.bool x10)) rfl ?_
          refine c_nil ?_
          refine c_sr ?_
          refine o_mv (v := (.bool x10)) rfl ?_
          refine o_mv (v := (.bool x10)) rfl ?_
          obtain ⟨y6, e5, e4⟩ := Pu.bind_some e4
          refine o_jn 10 (I := fun tm H => ∃ (Z10 V10 : PH), Gw Z9 V9 Z10 V10 ∧ Sat Z10 V10 H [pts b1 (.rw 0 [(vi a0.Terms), (vi a0.Nons), (vi a0.Start), (.slice d1 a0.Rules.length a0.Rules.length)]), It.sl (Sh.sl Sh.bool) w1 s23.1, pts b2 (.rw 0 [(vi x8.Left), (.slice d2 x8.Right.length x8.Right.length)]), It.sl Sh.bool w4 x9] ∧ tm 1 = (vi a1) ∧ tm 2 = (.pointer (some ⟨b1, 0, none⟩)) ∧ tm 7 = w1 ∧ tm 9 = (.bool s23.2) ∧ tm 11 = (.pointer (some ⟨b2, 0, none⟩)) ∧ tm 12 = (vi (i9 : Int)) ∧ tm 42 = (.slice d1 a0.Rules.length a0.Rules.length) ∧ tm 43 = (vi (a0.Rules.length : Int)) ∧ tm 44 = (vi (i6 : Int)) ∧ tm 52 = w4 ∧ tm 53 = (vi (x9.length : Int)) ∧ tm 54 = (vi (i9 : Int)) ∧ tm 70 = (.bool y6)) (fun k9 => ?_) ?_
          · rcases Bool.eq_false_or_eq_true x10 with q28 | q28
            · replace e5 := if_t q28 e5
              refine o_gy rfl q28 ?_
              refine o_mv (v := w1) h43 ?_
              refine o_gy rfl q28 ?_
              refine o_fad h45 ?_
              refine o_gy rfl q28 ?_
              refine o_ldB 2 s24 rfl rfl rfl rfl ?_
              refine o_gy rfl q28 ?_
              obtain ⟨x11, q29, e5⟩ := Pu.bind_some e5
              refine o_idx (v := w1) rfl rfl (s24.curS (s := (Sh.sl Sh.bool)) 1 rfl) rfl q29 fun p4 q30 => ?_
              refine o_gy rfl q28 ?_
              refine o_ldsv rfl (s24.curS (s := (Sh.sl Sh.bool)) 1 rfl) (PH.le.refl _) q30 q29 fun w5 h64 h65 => ?_
              refine o_gy rfl q28 ?_
              refine o_mv (v := (vi (i9 : Int))) rfl ?_
              refine o_gy rfl q28 ?_
              obtain ⟨x12, q31, e5⟩ := Pu.bind_some e5
              refine o_idx (v := w5) rfl rfl h64 rfl q31 fun p5 q32 => ?_
              refine o_gy rfl q28 ?_
              refine o_ldb rfl h64 (PH.le.refl _) q32 q31 ?_
              refine o_gy rfl q28 ?_
              refine o_not rfl ?_
              refine o_pickt (a := (.bool (!x12))) rfl q28 rfl ?_
              obtain rfl := Option.some.inj e5
              exact k9 _ _ ⟨_, _, Gw.refl _ _, s24, h41, h42, h43, h44, h45, rfl, h46, h47, h48, h49, h50, hti3, rfl⟩
            replace e5 := ib_f q28 e5
            refine o_gn rfl q28 ?_
            refine o_gn rfl q28 ?_
            refine o_gn rfl q28 ?_
            refine o_gn rfl q28 ?_
            refine o_gn rfl q28 ?_
            refine o_gn rfl q28 ?_
            refine o_gn rfl q28 ?_
            refine o_gn rfl q28 ?_
            refine o_gn rfl q28 ?_
            refine o_pickf (b := (.bool false)) rfl q28 rfl ?_
            obtain rfl := Option.some.inj e5
            exact k9 _ _ ⟨_, _, Gw.refl _ _, s24, h41, h42, h43, h44, h45, rfl, h46, h47, h48, h49, h50, hti3, rfl⟩
          intro _ H20 i10
          obtain ⟨Z10, V10, g10, s26, h51, h52, h53, h54, h55, h56, h57, h58, h59, h60, h61, h62, h63⟩ := i10
          refine c_nil ?_
          obtain ⟨y7, e6, e4⟩ := Pu.bind_some e4
          refine c_jn (I := fun tm H => ∃ (Z11 V11 : PH), Gw Z10 V10 Z11 V11 ∧ Sat Z11 V11 H [pts b1 (.rw 0 [(vi a0.Terms), (vi a0.Nons), (vi a0.Start), (.slice d1 a0.Rules.length a0.Rules.length)]), It.sl (Sh.sl Sh.bool) w1 y7.1, pts b2 (.rw 0 [(vi x8.Left), (.slice d2 x8.Right.length x8.Right.length)]), It.sl Sh.bool w4 x9] ∧ tm 1 = (vi a1) ∧ tm 2 = (.pointer (some ⟨b1, 0, none⟩)) ∧ tm 7 = w1 ∧ tm 9 = (.bool y7.2) ∧ tm 11 = (.pointer (some ⟨b2, 0, none⟩)) ∧ tm 42 = (.slice d1 a0.Rules.length a0.Rules.length) ∧ tm 43 = (vi (a0.Rules.length : Int)) ∧ tm 44 = (vi (i6 : Int)) ∧ tm 52 = w4 ∧ tm 53 = (vi (x9.length : Int)) ∧ tm 54 = (vi (i9 : Int))) (fun k10 => ?_) ?_
          · refine c_if h63 (fun q33 => ?_) (fun q33 => ?_)
            · replace e6 := if_t q33 e6
              refine c_r ?_
              refine o_mv (v := w1) h53 ?_
              refine o_fad h55 ?_
              refine o_ldB 2 s26 rfl rfl rfl rfl ?_
              obtain ⟨x13, q34, e6⟩ := Pu.bind_some e6
              refine o_idx (v := w1) rfl rfl (s26.curS (s := (Sh.sl Sh.bool)) 1 rfl) rfl q34 fun p6 q35 => ?_
              refine o_ldsv rfl (s26.curS (s := (Sh.sl Sh.bool)) 1 rfl) (PH.le.refl _) q35 q34 fun w6 h77 h78 => ?_
              refine o_mv (v := (vi (i9 : Int))) h56 ?_
              obtain ⟨x14, q36, e6⟩ := Pu.bind_some e6
              refine o_idx (v := w6) rfl rfl h77 rfl q36 fun p7 q37 => ?_
              refine o_st2 1 s26 rfl Sh.flat_lt rfl rfl rfl q35 q34 h78 q37 q36 rfl rfl fun H22 s28 => ?_
              refine o_mv (v := (.bool true)) rfl ?_
              refine c_nil ?_
              obtain rfl := Option.some.inj e6
              exact k10 _ _ ⟨_, _, Gw.refl _ _, s28, h51, h52, h53, rfl, h55, h57, h58, h59, h60, h61, h62⟩
            replace e6 := ib_f q33 e6
            refine c_sk ?_
            obtain rfl := Option.some.inj e6
            exact k10 _ _ ⟨_, _, Gw.refl _ _, s26, h51, h52, h53, h54, h55, h57, h58, h59, h60, h61, h62⟩
          intro _ H21 i11
          obtain ⟨Z11, V11, g11, s27, h66, h67, h68, h69, h70, h71, h72, h73, h74, h75, h76⟩ := i11
          refine c_end ?_
          refine c_r ?_
          refine o_add h76 rfl ?_
          refine o_mv (v := (vi (Pu.W ((i9 : Int) + 1)))) rfl ?_
          refine c_nil ?_
          obtain rfl := Option.some.inj e4
          exact k8 _ _ ⟨(iv rfl (w_suc q25 ((s22.curS (s := Sh.bool) 0 rfl)).bd)), _, _, (g9.trans (g10.trans g11)), s27, h66, h67, h68, h69, h70, h71, h72, h73, h74, h75⟩
        obtain ⟨hte3, Z12, V12, g12, s29, h79, h80, h81, h82, h83, h84, h85, h86, h87, h88⟩ := jd
        refine c_sr ?_
        refine o_lss hte3 h88 ?_
        refine c_nil ?_
        refine c_sq ?_
        refine c_iff rfl (Int.lt_irrefl _) ?_
        refine c_ex ?_
        refine e_c ?_
        refine e_c ?_
        refine e_h ?_
        refine c_end ?_
        refine c_r ?_
        refine o_add h86 rfl ?_
        refine o_mv (v := (vi (Pu.W ((i6 : Int) + 1)))) rfl ?_
        refine c_nil ?_
        obtain rfl := Option.some.inj e3
        exact k7 _ _ ⟨(iv rfl (w_suc q20 ((hp1.mono (g1.trans (g2.trans (g4.trans g5))).v)).bd)), _, _, (g7.trans (g8.trans g12)), (s29.pick [0, 1] rfl), h79, h80, h81, h82, h84, h85⟩
      obtain ⟨hte2, Z13, V13, g13, s30, h89, h90, h91, h92, h93, h94⟩ := jd
      refine c_sr ?_
      refine o_lss hte2 h94 ?_
      refine c_nil ?_
      refine c_sq ?_
      refine c_iff rfl (Int.lt_irrefl _) ?_
      refine c_ex ?_
      refine e_c ?_
      refine e_c ?_
      refine e_h ?_
      refine c_end ?_
      exact k3 _ _ _ (Option.some.inj e2).symm ⟨_, _, (g5.trans g13), s30, h89, h90, h91, h92⟩
    replace e2 := ib_f q18 e2
    refine c_ex ?_
    refine e_c ?_
    refine e_c ?_
    refine e_h ?_
    exact k6 _ _ ⟨_, k4 _ (Option.some.inj e2).symm, _, _, g5, s13, h14, h15, h16, h17⟩
  intro _ H12 i12
  obtain ⟨s14, f1, Z6, V6, g6, s15, h18, h19, h20, h21⟩ := i12
  replace e := fin_o f1 e
  refine c_sr ?_
  obtain ⟨Z14, V14, g14, s31, h95⟩ := s15.frzS 1 rfl
  refine o_mv (v := w1) h20 ?_
  refine o_fad h19 ?_
  refine o_ldB 0 s31 rfl rfl rfl rfl ?_
  obtain ⟨x15, q38, e⟩ := Pu.bind_some e
  refine o_idx (v := w1) rfl rfl h95 rfl q38 fun p8 q39 => ?_
  refine o_lds rfl h95 s31.z q39 q38 fun w7 h96 => ?_
  refine o_mv (v := w7) rfl ?_
  refine o_mv (v := (vi 0)) rfl ?_
  refine c_nil ?_
  refine c_rt ?_
  obtain rfl := Option.some.inj e
  exact ⟨.inr rfl, _, (ar2 rfl rfl), _, rfl, (((s31.push (ro_it (sl_ro h96))).pick [0] rfl).weak (g1.trans (g2.trans (g4.trans (g6.trans g14)))) hs.zv)⟩
/-! lens_total -/
structure Nd.lens_total (T : FuncId → Option AFunc) : Prop where
  own : Has T I.lens_total F.lens_total
set_option maxHeartbeats 1000000 in
theorem X.lens_total {T : FuncId → Option AFunc} (nd : Nd.lens_total T) {Z V : PH} {H : Hp} {v1 : Value} {v2 : Value} {a0 : (List Ty.api_Sym)} {a1 : (List Int)} (hs : Sat Z V H []) (hp1 : RdS Sh.api_Sym V v1 a0) (hp2 : RdS Sh.int V v2 a1) {r : Int} (e : P.lens_total a0 a1 = some r) :
    G T I.lens_total [v1, v2] H (fun rv H' => rv = (vi r) ∧ Sat Z V H' []) := by
  unfold P.lens_total at e
  refine f_mk nd.own ?_
  refine c_sr ?_
  refine o_mv (v := (vi 0)) rfl ?_
  refine c_nil ?_
  refine c_sr ?_
  refine o_mv (v := (vi 0)) rfl ?_
  refine c_nil ?_
  refine c_sq ?_
  refine c_sr ?_
  refine o_mv (v := v1) rfl ?_
  refine o_len rfl (hp1).len ?_
  refine o_mv (v := (vi 0)) rfl ?_
  refine c_nil ?_
  obtain ⟨y1, q3, e⟩ := Pu.bind_some e
  refine c_jn (I := fun tm H => ∃ (s3 : Int), y1 = .out s3 ∧ (∃ (Z2 V2 : PH), Gw Z V Z2 V2 ∧ Sat Z2 V2 H [] ∧ tm 1 = v2 ∧ tm 5 = (vi s3) ∧ tm 8 = v1 ∧ tm 9 = (vi (a0.length : Int)))) (fun k4 => ?_) ?_
  · refine c_bk ?_
    refine l_forL (xs := a0) (fun (i1 : Nat) (s1 : Int) tm H => tm 10 = vi i1 ∧ ∃ (Z1 V1 : PH), Gw Z V Z1 V1 ∧ Sat Z1 V1 H [] ∧ tm 1 = v2 ∧ tm 5 = (vi s1) ∧ tm 8 = v1 ∧ tm 9 = (vi (a0.length : Int))) (fun i1 x1 s1 y2 tm H2 q1 q2 j1 e1 k1 k2 k3 => ?_) (fun s1 tm H1 jf jd => ?_) q3 ⟨rfl, _, _, Gw.refl _ _, hs, rfl, rfl, rfl, rfl⟩
    · obtain ⟨hti0, Z1, V1, g1, s2, h1, h2, h3, h4⟩ := j1
      unfold P.lens_total.b0 at e1
      refine c_sr ?_
      refine o_lss hti0 h4 ?_
      refine c_nil ?_
      refine c_sq ?_
      refine c_ift rfl (Int.ofNat_lt.2 q2) ?_
      refine c_sk ?_
      refine c_sq ?_
      refine c_bk ?_
      refine c_sr ?_
      refine o_idx (v := v1) h3 hti0 (hp1.mono g1.v) rfl (Pu.ix_nat.trans q1) fun p1 q4 => ?_
      refine o_lda rfl (hp1.mono g1.v) s2.v rfl q4 (Pu.ix_nat.trans q1) fun c1 h9 => ?_
      obtain rfl := h9
      refine o_new s2 fun b1 H4 s5 => ?_
      refine o_stB (us' := [(.bool x1.Term), (vi x1.N)]) 0 s5 rfl rfl rfl rfl rfl rfl rfl fun H5 s6 => ?_
      refine c_nil ?_
      refine c_bk ?_
      refine c_sr ?_
      refine o_fad rfl ?_
      refine o_ldB 0 s6 rfl rfl rfl rfl ?_
      refine o_mv (v := (.bool x1.Term)) rfl ?_
      refine c_nil ?_
      obtain ⟨y3, e2, e1⟩ := Pu.bind_some e1
      refine c_jn (I := fun tm H => ∃ (y4 : Int), y3 = .out y4 ∧ (∃ (Z3 V3 : PH), Gw Z1 V1 Z3 V3 ∧ Sat Z3 V3 H [] ∧ tm 1 = v2 ∧ tm 5 = (vi y4) ∧ tm 8 = v1 ∧ tm 9 = (vi (a0.length : Int)) ∧ tm 10 = (vi (i1 : Int)))) (fun k5 => ?_) ?_
      · refine c_if rfl (fun q5 => ?_) (fun q5 => ?_)
        · replace e2 := if_t q5 e2
          refine c_r ?_
          refine o_mv (v := (vi s1)) h2 ?_
          refine o_add rfl rfl ?_
          refine o_mv (v := (vi (Pu.W (s1 + 1)))) rfl ?_
          refine c_nil ?_
          exact k5 _ _ ⟨_, (Option.some.inj e2).symm, _, _, Gw.refl _ _, (s6.pick [] rfl), h1, rfl, h3, h4, hti0⟩
        replace e2 := ib_f q5 e2
        refine c_sr ?_
        refine o_mv (v := v2) h1 ?_
        refine o_fad rfl ?_
        refine o_ldB 0 s6 rfl rfl rfl rfl ?_
        obtain ⟨x2, q6, e2⟩ := Pu.bind_some e2
        refine o_idx (v := v2) rfl rfl (hp2.mono g1.v) rfl q6 fun p2 q7 => ?_
        refine o_ldi rfl (hp2.mono g1.v) s6.v q7 q6 ?_
        refine o_lss rfl rfl ?_
        refine o_mv (v := (.bool (decide (x2 < 0)))) rfl ?_
        refine c_nil ?_
        refine c_gen (P := fun tm => tm 1 = v2 ∧ tm 5 = (vi s1) ∧ tm 7 = (.pointer (some ⟨b1, 0, none⟩)) ∧ tm 8 = v1 ∧ tm 9 = (vi (a0.length : Int)) ∧ tm 10 = (vi (i1 : Int)) ∧ tm 26 = (.bool (decide (x2 < 0))) ∧ True) ⟨h1, h2, rfl, h3, h4, hti0, rfl, trivial⟩ ?_
        intro _ i2
        obtain ⟨h15, h16, h17, h18, h19, h20, h21, -⟩ := i2
        refine c_ifd h21 (fun q8 => ?_) (fun q8 => ?_)
        · replace e2 := if_t q8 e2
          refine c_sr ?_
          refine o_mv (v := (vi (-1))) rfl ?_
          refine c_nil ?_
          refine c_rt ?_
          have e3 := fin_r (Option.some.inj e2).symm e1
          have e4 := fin_r (k3 _ (Option.some.inj e3).symm) e
          obtain rfl := Option.some.inj e4
          exact ⟨.inr rfl, _, (ar1 rfl), rfl, ((s6.pick [] rfl).weak g1 hs.zv)⟩
        replace e2 := if_f q8 e2
        refine c_r ?_
        refine o_mv (v := (vi s1)) h16 ?_
        refine o_mv (v := v2) h15 ?_
        refine o_fad h17 ?_
        refine o_ldB 0 s6 rfl rfl rfl rfl ?_
        obtain ⟨x3, q9, e2⟩ := Pu.bind_some e2
        refine o_idx (v := v2) rfl rfl (hp2.mono g1.v) rfl q9 fun p3 q10 => ?_
        refine o_ldi rfl (hp2.mono g1.v) s6.v q10 q9 ?_
        refine o_add rfl rfl ?_
        refine o_mv (v := (vi (Pu.W (s1 + x3)))) rfl ?_
        refine c_nil ?_
        exact k5 _ _ ⟨_, (Option.some.inj e2).symm, _, _, Gw.refl _ _, (s6.pick [] rfl), h15, rfl, h18, h19, h20⟩
      intro _ H6 i3
      obtain ⟨y4, f1, Z3, V3, g3, s7, h10, h11, h12, h13, h14⟩ := i3
      replace e1 := fin_o f1 e1
      refine c_end ?_
      refine c_end ?_
      refine c_r ?_
      refine o_add h14 rfl ?_
      refine o_mv (v := (vi (Pu.W ((i1 : Int) + 1)))) rfl ?_
      refine c_nil ?_
      exact k1 _ _ _ (Option.some.inj e1).symm ⟨(iv rfl (w_suc q2 (hp1).bd)), _, _, (g1.trans g3), s7, h10, h11, h12, h13⟩
    · obtain ⟨hte0, Z4, V4, g4, s8, h22, h23, h24, h25⟩ := jd
      refine c_sr ?_
      refine o_lss hte0 h25 ?_
      refine c_nil ?_
      refine c_sq ?_
      refine c_iff rfl (Int.lt_irrefl _) ?_
      refine c_ex ?_
      refine e_c ?_
      refine e_c ?_
      refine e_h ?_
      exact k4 _ _ ⟨_, jf, _, _, g4, s8, h22, h23, h24, h25⟩
  intro _ H3 i4
  obtain ⟨s3, f2, Z2, V2, g2, s4, h5, h6, h7, h8⟩ := i4
  replace e := fin_o f2 e
  refine c_sr ?_
  refine o_mv (v := (vi s3)) h6 ?_
  refine o_mv (v := (vi s3)) rfl ?_
  refine c_nil ?_
  refine c_rt ?_
  obtain rfl := Option.some.inj e
  exact ⟨.inr rfl, _, (ar1 rfl), rfl, (s4.weak g2 hs.zv)⟩
/-! lens_Greatest_1 -/
structure Nd.lens_Greatest_1 (T : FuncId → Option AFunc) : Prop where
  own : Has T I.lens_Greatest_1 F.lens_Greatest_1
  lens_total : Nd.lens_total T
set_option maxHeartbeats 1000000 in
theorem X.lens_Greatest_1 {T : FuncId → Option AFunc} (nd : Nd.lens_Greatest_1 T) {Z V : PH} {H : Hp} {v1 : Value} {o1 : Nat} {v2 : Value} {o2 : Nat} {a0 : Int} {a1 : Ty.api_Grammar} {a2 : (List Int)} (hs : Sat Z V H [pts o1 (.rw 0 [(vi a1.Terms), (vi a1.Nons), (vi a1.Start), v1]), pts o2 (.rw 0 [v2]), It.sl Sh.int v2 a2]) (hp1 : RdS Sh.api_Rule V v1 a1.Rules) {r : ((List Int) × Bool)} (e : P.lens_Greatest_1 a0 a1 a2 = some r) :
    G T I.lens_Greatest_1 [(vi a0), (.pointer (some ⟨o1, 0, none⟩)), (.pointer (some ⟨o2, 0, none⟩))] H (fun rv H' => ∃ (u1 : Value), rv = (.bool r.2) ∧ Sat Z V H' [pts o1 (.rw 0 [(vi a1.Terms), (vi a1.Nons), (vi a1.Start), v1]), pts o2 (.rw 0 [u1]), It.sl Sh.int u1 r.1]) := by
  unfold P.lens_Greatest_1 at e
  refine f_mk nd.own ?_
  refine c_sr ?_
  refine o_mv (v := (.bool false)) rfl ?_
  refine c_nil ?_
  refine c_sr ?_
  refine o_mv (v := (.bool false)) rfl ?_
  refine c_nil ?_
  refine c_sq ?_
  refine c_sr ?_
  refine o_fad rfl ?_
  obtain ⟨d1, rfl⟩ := (hp1).val
  refine o_ldB 0 hs rfl rfl rfl rfl ?_
  refine o_len rfl (hp1).len ?_
  refine o_mv (v := (vi 0)) rfl ?_
  refine c_nil ?_
  obtain ⟨y1, q3, e⟩ := Pu.bind_some e
  refine c_bk ?_
  refine l_forP (xs := a1.Rules) (fun (i1 : Nat) (s1 : ((List Int) × Bool)) tm H => tm 12 = vi i1 ∧ ∃ (Z1 V1 : PH), Gw Z V Z1 V1 ∧ Sat Z1 V1 H [pts o1 (.rw 0 [(vi a1.Terms), (vi a1.Nons), (vi a1.Start), (.slice d1 a1.Rules.length a1.Rules.length)]), pts o2 (.rw 0 [v2]), It.sl Sh.int v2 s1.1] ∧ tm 0 = (vi a0) ∧ tm 2 = (.pointer (some ⟨o2, 0, none⟩)) ∧ tm 5 = (.bool s1.2) ∧ tm 10 = (.slice d1 a1.Rules.length a1.Rules.length) ∧ tm 11 = (vi (a1.Rules.length : Int))) (fun i1 x1 s1 s3 tm H2 q1 q2 j1 e1 k1 => ?_) (fun tm H1 jd => ?_) q3 ⟨rfl, _, _, Gw.refl _ _, hs, rfl, rfl, rfl, rfl, rfl⟩
  · obtain ⟨hti0, Z1, V1, g1, s2, h1, h2, h3, h4, h5⟩ := j1
    unfold P.lens_Greatest_1.b0 at e1
    refine c_sr ?_
    refine o_lss hti0 h5 ?_
    refine c_nil ?_
    refine c_sq ?_
    refine c_ift rfl (Int.ofNat_lt.2 q2) ?_
    refine c_sk ?_
    refine c_sq ?_
    refine c_bk ?_
    refine c_sr ?_
    refine o_idx (v := (.slice d1 a1.Rules.length a1.Rules.length)) h4 hti0 (hp1.mono g1.v) rfl (Pu.ix_nat.trans q1) fun p1 q4 => ?_
    refine o_lda rfl (hp1.mono g1.v) s2.v rfl q4 (Pu.ix_nat.trans q1) fun c1 h6 => ?_
    obtain ⟨w1, rfl, h7⟩ := Sh.api_Rule_op h6
    refine o_new s2 fun b1 H3 s4 => ?_
    obtain ⟨d2, rfl⟩ := (h7).val
    refine o_stB (us' := [(vi x1.Left), (.slice d2 x1.Right.length x1.Right.length)]) 0 s4 rfl rfl rfl rfl rfl rfl rfl fun H4 s5 => ?_
    refine c_nil ?_
    refine c_sr ?_
    refine o_fad rfl ?_
    refine o_ldB 0 s5 rfl rfl rfl rfl ?_
    obtain ⟨d3, rfl⟩ := ((s5.curS (s := Sh.int) 3 rfl)).val
    refine o_ldB 2 s5 rfl h2 rfl rfl ?_
    obtain ⟨x2, q5, e1⟩ := Pu.bind_some e1
    obtain ⟨Z2, V2, W1, g2, u1, c2, c3, -, c5, c4⟩ := Sat.call (l1 := []) s5
    refine o_call (mc rfl (mc rfl m0)) (X.lens_total nd.lens_total c2 (h7.mono (g2.v.trans u1)) (c3 3 _ Sh.int _ _ rfl) q5) fun _ H5 i2 => ?_
    obtain ⟨rfl, s6⟩ := i2
    have s7 := c4 _ _ s6
    refine o_mv (v := (vi x2)) rfl ?_
    refine c_nil ?_
    refine c_sr ?_
    refine o_mv (v := (vi x2)) rfl ?_
    refine o_geq rfl rfl ?_
    refine o_mv (v := (.bool (decide (0 ≤ x2)))) rfl ?_
    obtain ⟨y2, e2, e1⟩ := Pu.bind_some e1
    refine o_jn 10 (I := fun tm H => ∃ (Z3 V3 : PH), Gw Z2 V2 Z3 V3 ∧ Sat Z3 V3 H [pts o1 (.rw 0 [(vi a1.Terms), (vi a1.Nons), (vi a1.Start), (.slice d1 a1.Rules.length a1.Rules.length)]), pts o2 (.rw 0 [(.slice d3 s1.1.length s1.1.length)]), It.sl Sh.int (.slice d3 s1.1.length s1.1.length) s1.1, pts b1 (.rw 0 [(vi x1.Left), (.slice d2 x1.Right.length x1.Right.length)])] ∧ tm 0 = (vi a0) ∧ tm 2 = (.pointer (some ⟨o2, 0, none⟩)) ∧ tm 5 = (.bool s1.2) ∧ tm 7 = (.pointer (some ⟨b1, 0, none⟩)) ∧ tm 8 = (vi x2) ∧ tm 10 = (.slice d1 a1.Rules.length a1.Rules.length) ∧ tm 11 = (vi (a1.Rules.length : Int)) ∧ tm 12 = (vi (i1 : Int)) ∧ tm 32 = (.bool y2)) (fun k2 => ?_) ?_
    · rcases Bool.eq_false_or_eq_true (decide (0 ≤ x2)) with q6 | q6
      · replace e2 := if_t q6 e2
        refine o_gy rfl q6 ?_
        refine o_mv (v := (vi x2)) rfl ?_
        refine o_gy rfl q6 ?_
        refine o_mv (v := (vi a0)) h1 ?_
        refine o_gy rfl q6 ?_
        refine o_min rfl rfl ?_
        refine o_gy rfl q6 ?_
        refine o_ldB 2 s7 rfl h2 rfl rfl ?_
        refine o_gy rfl q6 ?_
        refine o_fad rfl ?_
        refine o_gy rfl q6 ?_
        refine o_ldB 0 s7 rfl rfl rfl rfl ?_
        refine o_gy rfl q6 ?_
        obtain ⟨x3, q7, e2⟩ := Pu.bind_some e2
        refine o_idx (v := (.slice d3 s1.1.length s1.1.length)) rfl rfl (s7.curS (s := Sh.int) 3 rfl) rfl q7 fun p2 q8 => ?_
        refine o_gy rfl q6 ?_
        refine o_ldi rfl (s7.curS (s := Sh.int) 3 rfl) (PH.le.refl _) q8 q7 ?_
        refine o_gy rfl q6 ?_
        refine o_gtr rfl rfl ?_
        refine o_pickt (a := (.bool (decide (x3 < (Pu.imin x2 a0))))) rfl q6 rfl ?_
        obtain rfl := Option.some.inj e2
        exact k2 _ _ ⟨_, _, Gw.refl _ _, (s7.pick [1, 2, 3, 0] rfl), h1, h2, h3, rfl, rfl, h4, h5, hti0, rfl⟩
      replace e2 := ib_f q6 e2
      refine o_gn rfl q6 ?_
      refine o_gn rfl q6 ?_
      refine o_gn rfl q6 ?_
      refine o_gn rfl q6 ?_
      refine o_gn rfl q6 ?_
      refine o_gn rfl q6 ?_
      refine o_gn rfl q6 ?_
      refine o_gn rfl q6 ?_
      refine o_gn rfl q6 ?_
      refine o_pickf (b := (.bool false)) rfl q6 rfl ?_
      obtain rfl := Option.some.inj e2
      exact k2 _ _ ⟨_, _, Gw.refl _ _, (s7.pick [1, 2, 3, 0] rfl), h1, h2, h3, rfl, rfl, h4, h5, hti0, rfl⟩
    intro _ H6 i3
    obtain ⟨Z3, V3, g3, s8, h8, h9, h10, h11, h12, h13, h14, h15, h16⟩ := i3
    refine c_nil ?_
    obtain ⟨y3, e3, e1⟩ := Pu.bind_some e1
    refine c_jn (I := fun tm H => ∃ (Z4 V4 : PH), Gw Z3 V3 Z4 V4 ∧ Sat Z4 V4 H [pts o1 (.rw 0 [(vi a1.Terms), (vi a1.Nons), (vi a1.Start), (.slice d1 a1.Rules.length a1.Rules.length)]), pts o2 (.rw 0 [(.slice d3 s1.1.length s1.1.length)]), It.sl Sh.int (.slice d3 s1.1.length s1.1.length) y3.1] ∧ tm 0 = (vi a0) ∧ tm 2 = (.pointer (some ⟨o2, 0, none⟩)) ∧ tm 5 = (.bool y3.2) ∧ tm 10 = (.slice d1 a1.Rules.length a1.Rules.length) ∧ tm 11 = (vi (a1.Rules.length : Int)) ∧ tm 12 = (vi (i1 : Int))) (fun k3 => ?_) ?_
    · refine c_if h16 (fun q9 => ?_) (fun q9 => ?_)
      · replace e3 := if_t q9 e3
        refine c_r ?_
        refine o_ldB 1 s8 rfl h9 rfl rfl ?_
        refine o_fad h11 ?_
        refine o_ldB 3 s8 rfl rfl rfl rfl ?_
        refine o_mv (v := (vi x2)) h12 ?_
        refine o_mv (v := (vi a0)) h8 ?_
        refine o_min rfl rfl ?_
        obtain ⟨x4, q10, e3⟩ := Pu.bind_some e3
        refine o_idx (v := (.slice d3 s1.1.length s1.1.length)) rfl rfl (s8.curS (s := Sh.int) 2 rfl) rfl q10 fun p3 q11 => ?_
        refine o_st 2 s8 rfl Sh.flat_lt rfl rfl rfl q11 q10 rfl rfl fun H8 s10 => ?_
        refine o_mv (v := (.bool true)) rfl ?_
        refine c_nil ?_
        obtain rfl := Option.some.inj e3
        exact k3 _ _ ⟨_, _, Gw.refl _ _, (s10.pick [0, 1, 2] rfl), h8, h9, rfl, h13, h14, h15⟩
      replace e3 := ib_f q9 e3
      refine c_sk ?_
      obtain rfl := Option.some.inj e3
      exact k3 _ _ ⟨_, _, Gw.refl _ _, (s8.pick [0, 1, 2] rfl), h8, h9, h10, h13, h14, h15⟩
    intro _ H7 i4
    obtain ⟨Z4, V4, g4, s9, h17, h18, h19, h20, h21, h22⟩ := i4
    refine c_end ?_
    refine c_r ?_
    refine o_add h22 rfl ?_
    refine o_mv (v := (vi (Pu.W ((i1 : Int) + 1)))) rfl ?_
    refine c_nil ?_
    obtain rfl := Option.some.inj e1
    exact k1 _ _ ⟨(iv rfl (w_suc q2 (hp1).bd)), _, _, (g1.trans (g2.trans (g3.trans g4))), s9, h17, h18, h19, h20, h21⟩
  obtain ⟨hte0, Z5, V5, g5, s11, h23, h24, h25, h26, h27⟩ := jd
  refine c_sr ?_
  refine o_lss hte0 h27 ?_
  refine c_nil ?_
  refine c_sq ?_
  refine c_iff rfl (Int.lt_irrefl _) ?_
  refine c_ex ?_
  refine e_c ?_
  refine e_c ?_
  refine e_h ?_
  refine c_sr ?_
  refine o_mv (v := (.bool y1.2)) h25 ?_
  refine o_mv (v := (.bool y1.2)) rfl ?_
  refine c_nil ?_
  refine c_rt ?_
  obtain ⟨d4, rfl⟩ := ((s11.curS (s := Sh.int) 2 rfl)).val
  obtain rfl := Option.some.inj e
  exact ⟨.inr rfl, _, (ar1 rfl), _, rfl, (s11.weak g5 hs.zv)⟩
/-! lens_square -/
structure Nd.lens_square (T : FuncId → Option AFunc) : Prop where
  own : Has T I.lens_square F.lens_square
set_option maxHeartbeats 1000000 in
theorem X.lens_square {T : FuncId → Option AFunc} (nd : Nd.lens_square T) {Z V : PH} {H : Hp} {a0 : Int} (hs : Sat Z V H []) {r : (List (List Bool))} (e : P.lens_square a0 = some r) :
    G T I.lens_square [(vi a0)] H (fun rv H' => ∃ (u1 : Value), rv = u1 ∧ Sat Z V H' [It.sl (Sh.sl Sh.bool) u1 r]) := by
  unfold P.lens_square at e
  refine f_mk nd.own ?_
  refine c_sr ?_
  refine o_mv (v := (.slice none 0 0)) rfl ?_
  refine c_nil ?_
  refine c_sr ?_
  refine o_mv (v := (vi a0)) rfl ?_
  obtain ⟨x1, q1, e⟩ := Pu.bind_some e
  refine o_mksH (s := Sh.bool) hs rfl rfl q1 fun w1 H1 s1 => ?_
  refine o_mv (v := w1) rfl ?_
  refine c_nil ?_
  refine c_sq ?_
  refine c_sr ?_
  refine o_mv (v := w1) rfl ?_
  refine o_len rfl ((s1.curS (s := (Sh.sl Sh.bool)) 0 rfl)).len ?_
  refine o_mv (v := (vi 0)) rfl ?_
  refine c_nil ?_
  obtain ⟨x3, q4, e⟩ := Pu.bind_some e
  obtain ⟨rfl, q6⟩ := ranO_some q4
  obtain ⟨y1, q7, e⟩ := Pu.bind_some e
  refine c_bk ?_
  refine l_forP (xs := (Pu.ran (x1.length : Int))) (fun (i1 : Nat) (s2 : (List (List Bool))) tm H => tm 9 = vi i1 ∧ ∃ (Z1 V1 : PH), Gw Z V Z1 V1 ∧ Sat Z1 V1 H [It.sl (Sh.sl Sh.bool) w1 s2] ∧ tm 0 = (vi a0) ∧ tm 3 = w1 ∧ tm 8 = (vi (x1.length : Int))) (fun i1 x2 s2 s4 tm H3 q2 q3 j1 e1 k1 => ?_) (fun tm H2 jd => ?_) q7 ⟨rfl, _, _, Gw.refl _ _, s1, rfl, rfl, rfl⟩
  · obtain ⟨hti0, Z1, V1, g1, s3, h1, h2, h3⟩ := j1
    unfold P.lens_square.b0 at e1
    have hti0 := iv hti0 (ran_x q2).symm
    refine c_sr ?_
    refine o_lss hti0 h3 ?_
    refine c_nil ?_
    refine c_sq ?_
    refine c_ift rfl (ran_lt q2) ?_
    refine c_sk ?_
    refine c_sq ?_
    refine c_bk ?_
    refine c_sr ?_
    refine o_mv (v := (vi x2)) hti0 ?_
    refine o_mv (v := (vi x2)) rfl ?_
    refine c_nil ?_
    refine c_r ?_
    refine o_mv (v := w1) h2 ?_
    refine o_mv (v := (vi x2)) rfl ?_
    refine o_mv (v := (vi a0)) h1 ?_
    obtain ⟨x4, q8, e1⟩ := Pu.bind_some e1
    refine o_mks (s := Sh.bool) s3 Sh.flat_lt rfl rfl rfl rfl q8 fun w2 H4 s5 => ?_
    obtain ⟨x5, q9, e1⟩ := Pu.bind_some e1
    refine o_idx (v := w1) rfl rfl (s5.curS (s := (Sh.sl Sh.bool)) 1 rfl) rfl q9 fun p1 q10 => ?_
    refine o_stH 0 s5 rfl rfl rfl q10 q9 fun H5 s6 => ?_
    refine c_nil ?_
    refine c_end ?_
    refine c_r ?_
    refine o_add hti0 rfl ?_
    refine o_mv (v := (vi (Pu.W (x2 + 1)))) rfl ?_
    refine c_nil ?_
    obtain rfl := Option.some.inj e1
    exact k1 _ _ ⟨(iv rfl (w_sucR q2 q6)), _, _, g1, s6, h1, h2, h3⟩
  obtain ⟨hte0, Z2, V2, g2, s7, h4, h5, h6⟩ := jd
  refine c_sr ?_
  refine o_lss hte0 h6 ?_
  refine c_nil ?_
  refine c_sq ?_
  refine c_iff rfl (ran_done _) ?_
  refine c_ex ?_
  refine e_c ?_
  refine e_c ?_
  refine e_h ?_
  refine c_sr ?_
  refine o_mv (v := w1) h5 ?_
  refine o_mv (v := w1) rfl ?_
  refine c_nil ?_
  refine c_rt ?_
  obtain rfl := Option.some.inj e
  exact ⟨.inr rfl, _, (ar1 rfl), _, rfl, (s7.weak g2 hs.zv)⟩
/-! lens_endless -/
structure Nd.lens_endless (T : FuncId → Option AFunc) : Prop where
  own : Has T I.lens_endless F.lens_endless
  lens_square : Nd.lens_square T
  lens_total : Nd.lens_total T
set_option maxHeartbeats 1000000 in
theorem X.lens_endless {T : FuncId → Option AFunc} (nd : Nd.lens_endless T) {Z V : PH} {H : Hp} {v1 : Value} {v2 : Value} {a0 : Ty.api_Grammar} {a1 : (List Int)} (hs : Sat Z V H []) (hp1 : RdS Sh.api_Rule V v1 a0.Rules) (hp2 : RdS Sh.int V v2 a1) {r : Bool} (e : P.lens_endless a0 a1 = some r) :
    G T I.lens_endless [(.agg #[(vi a0.Terms), (vi a0.Nons), (vi a0.Start), v1]), v2] H (fun rv H' => rv = (.bool r) ∧ Sat Z V H' []) := by
  unfold P.lens_endless at e
  refine f_mk nd.own ?_
  refine c_sr ?_
  obtain ⟨d1, rfl⟩ := (hp1).val
  refine o_box hs rfl rfl fun b1 H1 s1 => ?_
  refine o_mv (v := (.bool false)) rfl ?_
  refine c_nil ?_
  refine c_sq ?_
  refine d_start s1 fun n1 H2 s2 q1 d2 => ?_
  refine d_fad rfl ?_
  refine d_ldB (q1 _ _ (ph_some.2 ⟨s2.curB 0 rfl, by simp⟩)) 0 s2 rfl rfl rfl rfl ?_
  obtain ⟨x1, q2, e⟩ := Pu.bind_some e
  obtain ⟨Z1, V1, W1, g1, u1, c1, c2, -, c4, c3⟩ := Sat.call (l1 := []) s2
  refine d_call (mc rfl m0) (X.lens_square nd.lens_square c1 q2) fun w1 H3 i1 k1 => ?_
  have d3 := d2.keep k1
  obtain ⟨_, rfl, s3⟩ := i1
  have s4 := c3 _ _ s3
  refine d_fad rfl ?_
  refine d_ldB (q1 _ _ (ph_some.2 ⟨s2.curB 0 rfl, by simp⟩)) 1 s4 rfl rfl rfl rfl ?_
  obtain ⟨x2, q3, e⟩ := Pu.bind_some e
  obtain ⟨Z2, V2, W2, g2, u2, c5, c6, -, c8, c7⟩ := Sat.call (l1 := []) s4
  refine d_call (mc rfl m0) (X.lens_square nd.lens_square c5 q3) fun w2 H4 i2 k2 => ?_
  have d4 := d3.keep k2
  obtain ⟨_, rfl, s5⟩ := i2
  have s6 := c7 _ _ s5
  refine d_mv (v := w1) rfl ?_
  refine d_mv (v := w2) rfl ?_
  refine d_nil (dc_mk rfl (tra (tra (tra (tra (tre (trl (trl (trl (trl tr0))))))))) (tra (tra (tra (tra (tra (tra (tre (trl (trl tr0))))))))) (tra (tra (tra (tra (tra (tre (trl (trl (trl tr0))))))))) (ag_ldx (w := (vi a0.Nons)) w_0 rfl (ldB_v 1 s4 rfl rfl rfl) (ldB_v 0 s2 rfl rfl rfl) (by simp [vsame, vsame1])) (ag_ldx (w := (vi a0.Nons)) w_0 rfl (ldB_v 1 s4 rfl rfl rfl) (ldB_v 1 s4 rfl rfl rfl) (by simp [vsame, vsame1])) dc_nil) ?_
  refine c_gen (P := fun tm => tm 1 = v2 ∧ tm 2 = (.pointer (some ⟨b1, 0, none⟩)) ∧ tm 5 = w1 ∧ tm 6 = w2 ∧ True) ⟨rfl, rfl, rfl, rfl, trivial⟩ ?_
  intro _ i3
  obtain ⟨h1, h2, h3, h4, -⟩ := i3
  refine c_sq ?_
  refine c_sr ?_
  refine o_fad h2 ?_
  refine o_ldB 2 s6 rfl rfl rfl rfl ?_
  refine o_len rfl ((hp1.mono (g1.trans g2).v)).len ?_
  refine o_mv (v := (vi 0)) rfl ?_
  refine c_nil ?_
  obtain ⟨y1, q6, e⟩ := Pu.bind_some e
  refine c_bk ?_
  refine l_forP (xs := a0.Rules) (fun (i4 : Nat) (s7 : ((List (List Bool)) × (List (List Bool)))) tm H => tm 27 = vi i4 ∧ ∃ (Z3 V3 : PH), Gw Z2 V2 Z3 V3 ∧ Sat Z3 V3 H [pts b1 (.rw 0 [(vi a0.Terms), (vi a0.Nons), (vi a0.Start), (.slice d1 a0.Rules.length a0.Rules.length)]), It.sl (Sh.sl Sh.bool) w1 s7.1, It.sl (Sh.sl Sh.bool) w2 s7.2] ∧ tm 1 = v2 ∧ tm 2 = (.pointer (some ⟨b1, 0, none⟩)) ∧ tm 5 = w1 ∧ tm 6 = w2 ∧ tm 25 = (.slice d1 a0.Rules.length a0.Rules.length) ∧ tm 26 = (vi (a0.Rules.length : Int))) (fun i4 x3 s7 s9 tm H6 q4 q5 j1 e1 k3 => ?_) (fun tm H5 jd => ?_) q6 ⟨rfl, _, _, Gw.refl _ _, (s6.pick [2, 1, 0] rfl), h1, h2, h3, h4, rfl, rfl⟩
  · obtain ⟨hti0, Z3, V3, g3, s8, h5, h6, h7, h8, h9, h10⟩ := j1
    unfold P.lens_endless.b0 at e1
    refine c_sr ?_
    refine o_lss hti0 h10 ?_
    refine c_nil ?_
    refine c_sq ?_
    refine c_ift rfl (Int.ofNat_lt.2 q5) ?_
    refine c_sk ?_
    refine c_sq ?_
    refine c_bk ?_
    refine c_sr ?_
    refine o_idx (v := (.slice d1 a0.Rules.length a0.Rules.length)) h9 hti0 (hp1.mono (g1.trans (g2.trans g3)).v) rfl (Pu.ix_nat.trans q4) fun p1 q7 => ?_
    refine o_lda rfl (hp1.mono (g1.trans (g2.trans g3)).v) s8.v rfl q7 (Pu.ix_nat.trans q4) fun c9 h11 => ?_
    obtain ⟨w3, rfl, h12⟩ := Sh.api_Rule_op h11
    refine o_new s8 fun b2 H7 s10 => ?_
    obtain ⟨d5, rfl⟩ := (h12).val
    refine o_stB (us' := [(vi x3.Left), (.slice d5 x3.Right.length x3.Right.length)]) 0 s10 rfl rfl rfl rfl rfl rfl rfl fun H8 s11 => ?_
    refine c_nil ?_
    refine c_sq ?_
    refine c_sr ?_
    refine o_fad rfl ?_
    refine o_ldB 0 s11 rfl rfl rfl rfl ?_
    refine o_mv (v := v2) h5 ?_
    obtain ⟨x4, q8, e1⟩ := Pu.bind_some e1
    obtain ⟨Z4, V4, W3, g4, u3, c10, c11, -, c13, c12⟩ := Sat.call (l1 := []) s11
    refine o_call (mc rfl (mc rfl m0)) (X.lens_total nd.lens_total c10 (h12.mono (g4.v.trans u3)) (hp2.mono (((g1.trans (g2.trans g3)).trans g4).v.trans u3)) q8) fun _ H9 i5 => ?_
    obtain ⟨rfl, s12⟩ := i5
    have s13 := c12 _ _ s12
    refine o_lss rfl rfl ?_
    refine c_nil ?_
    refine c_ifd rfl (fun q9 => ?_) (fun q9 => ?_)
    · replace e1 := if_t q9 e1
      refine c_ex ?_
      refine e_c ?_
      refine e_h ?_
      refine c_r ?_
      refine o_add hti0 rfl ?_
      refine o_mv (v := (vi (Pu.W ((i4 : Int) + 1)))) rfl ?_
      refine c_nil ?_
      obtain rfl := Option.some.inj e1
      exact k3 _ _ ⟨(iv rfl (w_suc q5 ((hp1.mono (g1.trans g2).v)).bd)), _, _, (g3.trans g4), (s13.pick [1, 2, 3] rfl), h5, h6, h7, h8, h9, h10⟩
    replace e1 := if_f q9 e1
    refine c_sk ?_
    refine c_sr ?_
    refine o_fad rfl ?_
    refine o_ldB 0 s13 rfl rfl rfl rfl ?_
    refine o_len rfl ((h12.mono g4.v)).len ?_
    refine o_mv (v := (vi 0)) rfl ?_
    refine c_nil ?_
    refine c_gen (P := fun tm => tm 1 = v2 ∧ tm 2 = (.pointer (some ⟨b1, 0, none⟩)) ∧ tm 5 = w1 ∧ tm 6 = w2 ∧ tm 8 = (.pointer (some ⟨b2, 0, none⟩)) ∧ tm 25 = (.slice d1 a0.Rules.length a0.Rules.length) ∧ tm 26 = (vi (a0.Rules.length : Int)) ∧ tm 27 = (vi (i4 : Int)) ∧ tm 37 = (.slice d5 x3.Right.length x3.Right.length) ∧ tm 38 = (vi (x3.Right.length : Int)) ∧ tm 39 = (vi 0) ∧ True) ⟨h5, h6, h7, h8, rfl, h9, h10, hti0, rfl, rfl, rfl, trivial⟩ ?_
    intro _ i6
    obtain ⟨h13, h14, h15, h16, h17, h18, h19, h20, h21, h22, h23, -⟩ := i6
    obtain ⟨y2, q12, e1⟩ := Pu.bind_some e1
    refine c_bk ?_
    refine l_forP (xs := x3.Right) (fun (i7 : Nat) (s14 : ((List (List Bool)) × (List (List Bool)))) tm H => tm 39 = vi i7 ∧ ∃ (Z5 V5 : PH), Gw Z4 V4 Z5 V5 ∧ Sat Z5 V5 H [pts b1 (.rw 0 [(vi a0.Terms), (vi a0.Nons), (vi a0.Start), (.slice d1 a0.Rules.length a0.Rules.length)]), It.sl (Sh.sl Sh.bool) w1 s14.1, It.sl (Sh.sl Sh.bool) w2 s14.2, pts b2 (.rw 0 [(vi x3.Left), (.slice d5 x3.Right.length x3.Right.length)])] ∧ tm 1 = v2 ∧ tm 2 = (.pointer (some ⟨b1, 0, none⟩)) ∧ tm 5 = w1 ∧ tm 6 = w2 ∧ tm 8 = (.pointer (some ⟨b2, 0, none⟩)) ∧ tm 25 = (.slice d1 a0.Rules.length a0.Rules.length) ∧ tm 26 = (vi (a0.Rules.length : Int)) ∧ tm 27 = (vi (i4 : Int)) ∧ tm 37 = (.slice d5 x3.Right.length x3.Right.length) ∧ tm 38 = (vi (x3.Right.length : Int))) (fun i7 x5 s14 s16 tm H11 q10 q11 j2 e2 k4 => ?_) (fun tm H10 jd => ?_) q12 ⟨h23, _, _, Gw.refl _ _, (s13.pick [1, 2, 3, 0] rfl), h13, h14, h15, h16, h17, h18, h19, h20, h21, h22⟩
    · obtain ⟨hti1, Z5, V5, g5, s15, h24, h25, h26, h27, h28, h29, h30, h31, h32, h33⟩ := j2
      unfold P.lens_endless.b1 at e2
      refine c_sr ?_
      refine o_lss hti1 h33 ?_
      refine c_nil ?_
      refine c_sq ?_
      refine c_ift rfl (Int.ofNat_lt.2 q11) ?_
      refine c_sk ?_
      refine c_sq ?_
      refine c_bk ?_
      refine c_sr ?_
      refine o_mv (v := (vi (i7 : Int))) hti1 ?_
      refine o_idx (v := (.slice d5 x3.Right.length x3.Right.length)) h32 hti1 (h12.mono (g4.trans g5).v) rfl (Pu.ix_nat.trans q10) fun p2 q13 => ?_
      refine o_lda rfl (h12.mono (g4.trans g5).v) s15.v rfl q13 (Pu.ix_nat.trans q10) fun c14 h34 => ?_
      obtain rfl := h34
      refine o_new s15 fun b3 H12 s17 => ?_
      refine o_mv (v := (vi (i7 : Int))) rfl ?_
      refine o_stB (us' := [(.bool x5.Term), (vi x5.N)]) 0 s17 rfl rfl rfl rfl rfl rfl rfl fun H13 s18 => ?_
      refine c_nil ?_
      refine c_sq ?_
      refine c_sr ?_
      refine o_fad rfl ?_
      refine o_ldB 0 s18 rfl rfl rfl rfl ?_
      refine c_nil ?_
      refine c_if rfl (fun q14 => ?_) (fun q14 => ?_)
      · replace e2 := if_t q14 e2
        refine c_ex ?_
        refine e_c ?_
        refine e_h ?_
        refine c_r ?_
        refine o_add hti1 rfl ?_
        refine o_mv (v := (vi (Pu.W ((i7 : Int) + 1)))) rfl ?_
        refine c_nil ?_
        obtain rfl := Option.some.inj e2
        exact k4 _ _ ⟨(iv rfl (w_suc q11 ((h12.mono g4.v)).bd)), _, _, g5, (s18.pick [1, 2, 3, 4] rfl), h24, h25, h26, h27, h28, h29, h30, h31, h32, h33⟩
      replace e2 := ib_f q14 e2
      refine c_sk ?_
      refine c_sq ?_
      refine c_gen (P := fun tm => tm 1 = v2 ∧ tm 2 = (.pointer (some ⟨b1, 0, none⟩)) ∧ tm 5 = w1 ∧ tm 6 = w2 ∧ tm 8 = (.pointer (some ⟨b2, 0, none⟩)) ∧ tm 9 = (vi (i7 : Int)) ∧ tm 10 = (.pointer (some ⟨b3, 0, none⟩)) ∧ tm 25 = (.slice d1 a0.Rules.length a0.Rules.length) ∧ tm 26 = (vi (a0.Rules.length : Int)) ∧ tm 27 = (vi (i4 : Int)) ∧ tm 37 = (.slice d5 x3.Right.length x3.Right.length) ∧ tm 38 = (vi (x3.Right.length : Int)) ∧ tm 39 = (vi (i7 : Int)) ∧ True) ⟨h24, h25, h26, h27, h28, rfl, rfl, h29, h30, h31, h32, h33, hti1, trivial⟩ ?_
      intro _ i8
      obtain ⟨h35, h36, h37, h38, h39, h40, h41, h42, h43, h44, h45, h46, h47, -⟩ := i8
      refine d_start s18 fun n2 H14 s19 q15 d6 => ?_
      refine d_mv (v := w1) h37 ?_
      refine d_fad h39 ?_
      refine d_ldB (q15 _ _ (ph_some.2 ⟨s19.curB 4 rfl, by simp⟩)) 4 s19 rfl rfl rfl rfl ?_
      obtain ⟨x6, q16, e2⟩ := Pu.bind_some e2
      refine d_idx (v := w1) rfl rfl (s19.curS (s := (Sh.sl Sh.bool)) 2 rfl) rfl q16 fun p3 q17 => ?_
      refine d_ldsv ((s19.curS 2 rfl).low (PH.le.refl _) q15) rfl (s19.curS (s := (Sh.sl Sh.bool)) 2 rfl) (PH.le.refl _) q17 q16 fun w4 h48 h49 => ?_
      refine d_fad h41 ?_
      refine d_ldB (q15 _ _ (ph_some.2 ⟨s19.curB 0 rfl, by simp⟩)) 0 s19 rfl rfl rfl rfl ?_
      obtain ⟨x7, q18, e2⟩ := Pu.bind_some e2
      refine d_idx (v := w4) rfl rfl h48 rfl q18 fun p4 q19 => ?_
      refine d_st2 2 s19 rfl Sh.flat_lt rfl rfl rfl q17 q16 h49 q19 q18 rfl rfl fun H15 s20 k5 => ?_
      have d7 := d6.keep k5
      refine d_nil dc_nil ?_
      refine c_sr ?_
      refine o_fad h39 ?_
      refine o_ldB 4 s20 rfl rfl rfl rfl ?_
      refine o_len rfl ((h12.mono (g4.trans g5).v)).len ?_
      refine o_mv (v := (vi 0)) rfl ?_
      refine c_nil ?_
      refine c_gen (P := fun tm => tm 1 = v2 ∧ tm 2 = (.pointer (some ⟨b1, 0, none⟩)) ∧ tm 5 = w1 ∧ tm 6 = w2 ∧ tm 8 = (.pointer (some ⟨b2, 0, none⟩)) ∧ tm 9 = (vi (i7 : Int)) ∧ tm 10 = (.pointer (some ⟨b3, 0, none⟩)) ∧ tm 25 = (.slice d1 a0.Rules.length a0.Rules.length) ∧ tm 26 = (vi (a0.Rules.length : Int)) ∧ tm 27 = (vi (i4 : Int)) ∧ tm 37 = (.slice d5 x3.Right.length x3.Right.length) ∧ tm 38 = (vi (x3.Right.length : Int)) ∧ tm 39 = (vi (i7 : Int)) ∧ tm 55 = (.slice d5 x3.Right.length x3.Right.length) ∧ tm 56 = (vi (x3.Right.length : Int)) ∧ tm 57 = (vi 0) ∧ True) ⟨h35, h36, h37, h38, h39, h40, h41, h42, h43, h44, h45, h46, h47, rfl, rfl, rfl, trivial⟩ ?_
      intro _ i9
      obtain ⟨h50, h51, h52, h53, h54, h55, h56, h57, h58, h59, h60, h61, h62, h63, h64, h65, -⟩ := i9
      obtain ⟨y3, q22, e2⟩ := Pu.bind_some e2
      refine c_bk ?_
      refine l_forP (xs := x3.Right) (fun (i10 : Nat) (s21 : (List (List Bool))) tm H => tm 57 = vi i10 ∧ ∃ (Z6 V6 : PH), Gw Z5 V5 Z6 V6 ∧ Sat Z6 V6 H [pts b1 (.rw 0 [(vi a0.Terms), (vi a0.Nons), (vi a0.Start), (.slice d1 a0.Rules.length a0.Rules.length)]), It.sl (Sh.sl Sh.bool) w1 (Pu.st s14.1 x3.Left (Pu.st x6 x5.N true)), It.sl (Sh.sl Sh.bool) w2 s21, pts b2 (.rw 0 [(vi x3.Left), (.slice d5 x3.Right.length x3.Right.length)]), pts b3 (.rw 0 [(.bool x5.Term), (vi x5.N)])] ∧ tm 1 = v2 ∧ tm 2 = (.pointer (some ⟨b1, 0, none⟩)) ∧ tm 5 = w1 ∧ tm 6 = w2 ∧ tm 8 = (.pointer (some ⟨b2, 0, none⟩)) ∧ tm 9 = (vi (i7 : Int)) ∧ tm 10 = (.pointer (some ⟨b3, 0, none⟩)) ∧ tm 25 = (.slice d1 a0.Rules.length a0.Rules.length) ∧ tm 26 = (vi (a0.Rules.length : Int)) ∧ tm 27 = (vi (i4 : Int)) ∧ tm 37 = (.slice d5 x3.Right.length x3.Right.length) ∧ tm 38 = (vi (x3.Right.length : Int)) ∧ tm 39 = (vi (i7 : Int)) ∧ tm 55 = (.slice d5 x3.Right.length x3.Right.length) ∧ tm 56 = (vi (x3.Right.length : Int))) (fun i10 x8 s21 s23 tm H17 q20 q21 j3 e3 k6 => ?_) (fun tm H16 jd => ?_) q22 ⟨h65, _, _, Gw.refl _ _, (s20.pick [1, 2, 3, 4, 0] rfl), h50, h51, h52, h53, h54, h55, h56, h57, h58, h59, h60, h61, h62, h63, h64⟩
      · obtain ⟨hti2, Z6, V6, g6, s22, h66, h67, h68, h69, h70, h71, h72, h73, h74, h75, h76, h77, h78, h79, h80⟩ := j3
        unfold P.lens_endless.b2 at e3
        refine c_sr ?_
        refine o_lss hti2 h80 ?_
        refine c_nil ?_
        refine c_sq ?_
        refine c_ift rfl (Int.ofNat_lt.2 q21) ?_
        refine c_sk ?_
        refine c_sq ?_
        refine c_bk ?_
        refine c_sr ?_
        refine o_mv (v := (vi (i10 : Int))) hti2 ?_
        refine o_idx (v := (.slice d5 x3.Right.length x3.Right.length)) h79 hti2 (h12.mono (g4.trans (g5.trans g6)).v) rfl (Pu.ix_nat.trans q20) fun p5 q23 => ?_
        refine o_lda rfl (h12.mono (g4.trans (g5.trans g6)).v) s22.v rfl q23 (Pu.ix_nat.trans q20) fun c15 h81 => ?_
        obtain rfl := h81
        refine o_new s22 fun b4 H18 s24 => ?_
        refine o_mv (v := (vi (i10 : Int))) rfl ?_
        refine o_stB (us' := [(.bool x8.Term), (vi x8.N)]) 0 s24 rfl rfl rfl rfl rfl rfl rfl fun H19 s25 => ?_
        refine c_nil ?_
        refine c_gen (P := fun tm => tm 1 = v2 ∧ tm 2 = (.pointer (some ⟨b1, 0, none⟩)) ∧ tm 5 = w1 ∧ tm 6 = w2 ∧ tm 8 = (.pointer (some ⟨b2, 0, none⟩)) ∧ tm 9 = (vi (i7 : Int)) ∧ tm 10 = (.pointer (some ⟨b3, 0, none⟩)) ∧ tm 11 = (vi (i10 : Int)) ∧ tm 12 = (.pointer (some ⟨b4, 0, none⟩)) ∧ tm 25 = (.slice d1 a0.Rules.length a0.Rules.length) ∧ tm 26 = (vi (a0.Rules.length : Int)) ∧ tm 27 = (vi (i4 : Int)) ∧ tm 37 = (.slice d5 x3.Right.length x3.Right.length) ∧ tm 38 = (vi (x3.Right.length : Int)) ∧ tm 39 = (vi (i7 : Int)) ∧ tm 55 = (.slice d5 x3.Right.length x3.Right.length) ∧ tm 56 = (vi (x3.Right.length : Int)) ∧ tm 57 = (vi (i10 : Int)) ∧ True) ⟨h66, h67, h68, h69, h70, h71, h72, rfl, rfl, h73, h74, h75, h76, h77, h78, h79, h80, hti2, trivial⟩ ?_
        intro _ i11
        obtain ⟨h82, h83, h84, h85, h86, h87, h88, h89, h90, h91, h92, h93, h94, h95, h96, h97, h98, h99, -⟩ := i11
        refine d_start s25 fun n3 H20 s26 q24 d8 => ?_
        refine d_mv (v := w2) h85 ?_
        refine d_fad h86 ?_
        refine d_ldB (q24 _ _ (ph_some.2 ⟨s26.curB 4 rfl, by simp⟩)) 4 s26 rfl rfl rfl rfl ?_
        obtain ⟨x9, q25, e3⟩ := Pu.bind_some e3
        refine d_idx (v := w2) rfl rfl (s26.curS (s := (Sh.sl Sh.bool)) 3 rfl) rfl q25 fun p6 q26 => ?_
        refine d_ldsv ((s26.curS 3 rfl).low (PH.le.refl _) q24) rfl (s26.curS (s := (Sh.sl Sh.bool)) 3 rfl) (PH.le.refl _) q26 q25 fun w5 h100 h101 => ?_
        refine d_fad h88 ?_
        refine d_ldB (q24 _ _ (ph_some.2 ⟨s26.curB 5 rfl, by simp⟩)) 5 s26 rfl rfl rfl rfl ?_
        refine d_mv (v := w2) h85 ?_
        refine d_fad h86 ?_
        refine d_ldB (q24 _ _ (ph_some.2 ⟨s26.curB 4 rfl, by simp⟩)) 4 s26 rfl rfl rfl rfl ?_
        obtain ⟨x10, q27, e3⟩ := Pu.bind_some e3
        refine d_idx (v := w2) rfl rfl (s26.curS (s := (Sh.sl Sh.bool)) 3 rfl) rfl q27 fun p7 q28 => ?_
        refine d_ldsv ((s26.curS 3 rfl).low (PH.le.refl _) q24) rfl (s26.curS (s := (Sh.sl Sh.bool)) 3 rfl) (PH.le.refl _) q28 q27 fun w6 h102 h103 => ?_
        refine d_fad h88 ?_
        refine d_ldB (q24 _ _ (ph_some.2 ⟨s26.curB 5 rfl, by simp⟩)) 5 s26 rfl rfl rfl rfl ?_
        obtain ⟨x11, q29, e3⟩ := Pu.bind_some e3
        refine d_idx (v := w6) rfl rfl h102 rfl q29 fun p8 q30 => ?_
        refine d_ldb (RdS.low h102 (PH.le.refl _) q24) rfl h102 (PH.le.refl _) q30 q29 ?_
        have h104 := vl_bool h102 (PH.le.refl _) q30 q29
        refine d_mv (v := (.bool x11)) rfl ?_
        obtain ⟨y4, e4, e3⟩ := Pu.bind_some e3
        refine d_jn 16 (I := fun tm H => DD n3 33 (List.length F.lens_endless.r14) H ∧ (∃ (Z7 V7 : PH), Gw Z6 V6 Z7 V7 ∧ Sat Z7 V7 H [pts b1 (.rw 0 [(vi a0.Terms), (vi a0.Nons), (vi a0.Start), (.slice d1 a0.Rules.length a0.Rules.length)]), It.sl (Sh.sl Sh.bool) w1 (Pu.st s14.1 x3.Left (Pu.st x6 x5.N true)), It.sl (Sh.sl Sh.bool) w2 s21, pts b2 (.rw 0 [(vi x3.Left), (.slice d5 x3.Right.length x3.Right.length)]), pts b3 (.rw 0 [(.bool x5.Term), (vi x5.N)])] ∧ tm 1 = v2 ∧ tm 2 = (.pointer (some ⟨b1, 0, none⟩)) ∧ tm 5 = w1 ∧ tm 6 = w2 ∧ tm 8 = (.pointer (some ⟨b2, 0, none⟩)) ∧ tm 9 = (vi (i7 : Int)) ∧ tm 10 = (.pointer (some ⟨b3, 0, none⟩)) ∧ tm 25 = (.slice d1 a0.Rules.length a0.Rules.length) ∧ tm 26 = (vi (a0.Rules.length : Int)) ∧ tm 27 = (vi (i4 : Int)) ∧ tm 37 = (.slice d5 x3.Right.length x3.Right.length) ∧ tm 38 = (vi (x3.Right.length : Int)) ∧ tm 39 = (vi (i7 : Int)) ∧ tm 55 = (.slice d5 x3.Right.length x3.Right.length) ∧ tm 56 = (vi (x3.Right.length : Int)) ∧ tm 57 = (vi (i10 : Int)) ∧ tm 66 = w5 ∧ tm 68 = (vi x5.N) ∧ tm 94 = (.bool y4) ∧ RdS Sh.bool (Hp.ph H) w5 x9 ∧ vload H 1 false p6 = some w5)) (fun k7 => ?_) ?_
        · rcases Bool.eq_false_or_eq_true x11 with q31 | q31
          · replace e4 := if_t q31 e4
            refine d_gn rfl q31 ?_
            refine d_gn rfl q31 ?_
            refine d_gn rfl q31 ?_
            refine d_gn rfl q31 ?_
            refine d_gu rfl ?_
            refine d_gu rfl ?_
            refine d_gu rfl ?_
            refine d_gu rfl ?_
            refine d_gu rfl ?_
            refine d_gu rfl ?_
            refine d_gu rfl ?_
            refine d_gu rfl ?_
            refine d_gu rfl ?_
            refine d_gu rfl ?_
            refine d_gn rfl q31 ?_
            refine d_pickt (a := (.bool true)) rfl q31 rfl ?_
            obtain rfl := Option.some.inj e4
            exact k7 _ _ _ ⟨d8.up rfl, _, _, Gw.refl _ _, (s26.pick [1, 2, 3, 4, 5] rfl), h82, h83, h84, h85, h86, h87, h88, h91, h92, h93, h94, h95, h96, h97, h98, h99, rfl, rfl, rfl, h100, h101⟩
          replace e4 := ib_f q31 e4
          refine d_want rfl q31 ?_
          refine d_mv (v := (vi (i10 : Int))) h89 ?_
          refine d_want rfl q31 ?_
          refine d_mv (v := (vi (i7 : Int))) h87 ?_
          refine d_want rfl q31 ?_
          refine d_neq rfl rfl ?_
          refine d_want rfl q31 ?_
          refine d_mv (v := (.bool (decide ((i10 : Int) ≠ (i7 : Int))))) rfl ?_
          obtain ⟨y5, e5, e4⟩ := Pu.bind_some e4
          refine d_jn 11 (I := fun tm H => DD n3 32 (List.length F.lens_endless.r14) H ∧ (∃ (Z8 V8 : PH), Gw Z6 V6 Z8 V8 ∧ Sat Z8 V8 H [pts b1 (.rw 0 [(vi a0.Terms), (vi a0.Nons), (vi a0.Start), (.slice d1 a0.Rules.length a0.Rules.length)]), It.sl (Sh.sl Sh.bool) w1 (Pu.st s14.1 x3.Left (Pu.st x6 x5.N true)), It.sl (Sh.sl Sh.bool) w2 s21, pts b2 (.rw 0 [(vi x3.Left), (.slice d5 x3.Right.length x3.Right.length)]), pts b3 (.rw 0 [(.bool x5.Term), (vi x5.N)])] ∧ tm 1 = v2 ∧ tm 2 = (.pointer (some ⟨b1, 0, none⟩)) ∧ tm 5 = w1 ∧ tm 6 = w2 ∧ tm 8 = (.pointer (some ⟨b2, 0, none⟩)) ∧ tm 9 = (vi (i7 : Int)) ∧ tm 10 = (.pointer (some ⟨b3, 0, none⟩)) ∧ tm 25 = (.slice d1 a0.Rules.length a0.Rules.length) ∧ tm 26 = (vi (a0.Rules.length : Int)) ∧ tm 27 = (vi (i4 : Int)) ∧ tm 37 = (.slice d5 x3.Right.length x3.Right.length) ∧ tm 38 = (vi (x3.Right.length : Int)) ∧ tm 39 = (vi (i7 : Int)) ∧ tm 55 = (.slice d5 x3.Right.length x3.Right.length) ∧ tm 56 = (vi (x3.Right.length : Int)) ∧ tm 57 = (vi (i10 : Int)) ∧ tm 66 = w5 ∧ tm 68 = (vi x5.N) ∧ tm 78 = (.bool x11) ∧ tm 79 = (vi (i10 : Int)) ∧ tm 80 = (vi (i7 : Int)) ∧ tm 81 = (.bool (decide ((i10 : Int) ≠ (i7 : Int)))) ∧ tm 82 = (.bool (decide ((i10 : Int) ≠ (i7 : Int)))) ∧ tm 93 = (.bool y5) ∧ RdS Sh.bool (Hp.ph H) w5 x9 ∧ vload H 1 false p6 = some w5)) (fun k8 => ?_) ?_
          · rcases Bool.eq_false_or_eq_true (decide ((i10 : Int) ≠ (i7 : Int))) with q32 | q32
            · replace e5 := if_t q32 e5
              refine d_want rfl q32 ?_
              refine d_fad h90 ?_
              refine d_want rfl q32 ?_
              refine d_ldB (q24 _ _ (ph_some.2 ⟨s26.curB 0 rfl, by simp⟩)) 0 s26 rfl rfl rfl rfl ?_
              refine d_want rfl q32 ?_
              refine d_mv (v := (.bool x8.Term)) rfl ?_
              obtain ⟨y6, e6, e5⟩ := Pu.bind_some e5
              refine d_jn 7 (I := fun tm H => DD n3 31 (List.length F.lens_endless.r14) H ∧ (∃ (Z9 V9 : PH), Gw Z6 V6 Z9 V9 ∧ Sat Z9 V9 H [pts b1 (.rw 0 [(vi a0.Terms), (vi a0.Nons), (vi a0.Start), (.slice d1 a0.Rules.length a0.Rules.length)]), It.sl (Sh.sl Sh.bool) w1 (Pu.st s14.1 x3.Left (Pu.st x6 x5.N true)), It.sl (Sh.sl Sh.bool) w2 s21, pts b2 (.rw 0 [(vi x3.Left), (.slice d5 x3.Right.length x3.Right.length)]), pts b3 (.rw 0 [(.bool x5.Term), (vi x5.N)]), pts b4 (.rw 0 [(.bool x8.Term), (vi x8.N)])] ∧ tm 1 = v2 ∧ tm 2 = (.pointer (some ⟨b1, 0, none⟩)) ∧ tm 5 = w1 ∧ tm 6 = w2 ∧ tm 8 = (.pointer (some ⟨b2, 0, none⟩)) ∧ tm 9 = (vi (i7 : Int)) ∧ tm 10 = (.pointer (some ⟨b3, 0, none⟩)) ∧ tm 25 = (.slice d1 a0.Rules.length a0.Rules.length) ∧ tm 26 = (vi (a0.Rules.length : Int)) ∧ tm 27 = (vi (i4 : Int)) ∧ tm 37 = (.slice d5 x3.Right.length x3.Right.length) ∧ tm 38 = (vi (x3.Right.length : Int)) ∧ tm 39 = (vi (i7 : Int)) ∧ tm 55 = (.slice d5 x3.Right.length x3.Right.length) ∧ tm 56 = (vi (x3.Right.length : Int)) ∧ tm 57 = (vi (i10 : Int)) ∧ tm 66 = w5 ∧ tm 68 = (vi x5.N) ∧ tm 78 = (.bool x11) ∧ tm 79 = (vi (i10 : Int)) ∧ tm 80 = (vi (i7 : Int)) ∧ tm 81 = (.bool (decide ((i10 : Int) ≠ (i7 : Int)))) ∧ tm 82 = (.bool (decide ((i10 : Int) ≠ (i7 : Int)))) ∧ tm 83 = (.pointer (some ⟨b4, 0, none⟩)) ∧ tm 84 = (.bool x8.Term) ∧ tm 85 = (.bool x8.Term) ∧ tm 92 = (.bool y6) ∧ RdS Sh.bool (Hp.ph H) w5 x9 ∧ vload H 1 false p6 = some w5)) (fun k9 => ?_) ?_
              · rcases Bool.eq_false_or_eq_true x8.Term with q33 | q33
                · replace e6 := if_t q33 e6
                  refine d_gn rfl q33 ?_
                  refine d_gn rfl q33 ?_
                  refine d_gn rfl q33 ?_
                  refine d_gn rfl q33 ?_
                  refine d_gn rfl q33 ?_
                  refine d_gn rfl q33 ?_
                  refine d_want rfl q32 ?_
                  refine d_pickt (a := (.bool true)) rfl q33 rfl ?_
                  obtain rfl := Option.some.inj e6
                  exact k9 _ _ _ ⟨d8.up rfl, _, _, Gw.refl _ _, (s26.pick [1, 2, 3, 4, 5, 0] rfl), h82, h83, h84, h85, h86, h87, h88, h91, h92, h93, h94, h95, h96, h97, h98, h99, rfl, rfl, rfl, rfl, rfl, rfl, rfl, rfl, rfl, rfl, rfl, h100, h101⟩
                replace e6 := ib_f q33 e6
                refine d_want rfl q33 ?_
                refine d_mv (v := v2) h82 ?_
                refine d_want rfl q33 ?_
                refine d_fad h90 ?_
                refine d_want rfl q33 ?_
                refine d_ldB (q24 _ _ (ph_some.2 ⟨s26.curB 0 rfl, by simp⟩)) 0 s26 rfl rfl rfl rfl ?_
                refine d_want rfl q33 ?_
                obtain ⟨x12, q34, e6⟩ := Pu.bind_some e6
                refine d_idx (v := v2) rfl rfl (hp2.mono (g1.trans (g2.trans (g3.trans (g4.trans (g5.trans g6))))).v) rfl q34 fun p9 q35 => ?_
                refine d_want rfl q33 ?_
                refine d_ldi (RdS.low (hp2.mono (g1.trans (g2.trans (g3.trans (g4.trans (g5.trans g6))))).v) s26.v q24) rfl (hp2.mono (g1.trans (g2.trans (g3.trans (g4.trans (g5.trans g6))))).v) s26.v q35 q34 ?_
                refine d_want rfl q33 ?_
                refine d_gtr rfl rfl ?_
                refine d_want rfl q32 ?_
                refine d_pickf (b := (.bool (decide (0 < x12)))) rfl q33 rfl ?_
                obtain rfl := Option.some.inj e6
                exact k9 _ _ _ ⟨d8.up rfl, _, _, Gw.refl _ _, (s26.pick [1, 2, 3, 4, 5, 0] rfl), h82, h83, h84, h85, h86, h87, h88, h91, h92, h93, h94, h95, h96, h97, h98, h99, rfl, rfl, rfl, rfl, rfl, rfl, rfl, rfl, rfl, rfl, rfl, h100, h101⟩
              intro _ H23 _ i12
              obtain ⟨d9, Z9, V9, g9, s29, h154, h155, h156, h157, h158, h159, h160, h161, h162, h163, h164, h165, h166, h167, h168, h169, h170, h171, h172, h173, h174, h175, h176, h177, h178, h179, h180, h152, h153⟩ := i12
              refine d_want h172 q31 ?_
              refine d_pickt (a := (.bool y6)) h176 q32 h180 ?_
              obtain rfl := Option.some.inj e5
              exact k8 _ _ _ ⟨d9.up rfl, _, _, g9, (s29.pick [0, 1, 2, 3, 4] rfl), h154, h155, h156, h157, h158, h159, h160, h161, h162, h163, h164, h165, h166, h167, h168, h169, h170, h171, h172, h173, h174, h175, h176, rfl, h152, h153⟩
            replace e5 := ib_f q32 e5
            refine d_gn rfl q32 ?_
            refine d_gn rfl q32 ?_
            refine d_gn rfl q32 ?_
            refine d_gu rfl ?_
            refine d_gu rfl ?_
            refine d_gu rfl ?_
            refine d_gu rfl ?_
            refine d_gu rfl ?_
            refine d_gu rfl ?_
            refine d_gn rfl q32 ?_
            refine d_want rfl q31 ?_
            refine d_pickf (b := (.bool false)) rfl q32 rfl ?_
            obtain rfl := Option.some.inj e5
            exact k8 _ _ _ ⟨d8.up rfl, _, _, Gw.refl _ _, (s26.pick [1, 2, 3, 4, 5] rfl), h82, h83, h84, h85, h86, h87, h88, h91, h92, h93, h94, h95, h96, h97, h98, h99, rfl, rfl, rfl, rfl, rfl, rfl, rfl, rfl, h100, h101⟩
          intro _ H22 _ i13
          obtain ⟨d10, Z8, V8, g8, s28, h128, h129, h130, h131, h132, h133, h134, h135, h136, h137, h138, h139, h140, h141, h142, h143, h144, h145, h146, h147, h148, h149, h150, h151, h126, h127⟩ := i13
          refine d_pickf (b := (.bool y5)) h146 q31 h151 ?_
          obtain rfl := Option.some.inj e4
          exact k7 _ _ _ ⟨d10.up rfl, _, _, g8, s28, h128, h129, h130, h131, h132, h133, h134, h135, h136, h137, h138, h139, h140, h141, h142, h143, h144, h145, rfl, h126, h127⟩
        intro _ H21 _ i14
        obtain ⟨d11, Z7, V7, g7, s27, h107, h108, h109, h110, h111, h112, h113, h114, h115, h116, h117, h118, h119, h120, h121, h122, h123, h124, h125, h105, h106⟩ := i14
        obtain ⟨x13, q36, e3⟩ := Pu.bind_some e3
        refine d_idx (v := w5) h123 h124 h105 rfl q36 fun p10 q37 => ?_
        refine d_st2 2 s27 rfl Sh.flat_lt rfl rfl h125 q26 q25 h106 q37 q36 rfl rfl fun H24 s30 k10 => ?_
        have d12 := d11.keep k10
        refine d_nil dc_nil ?_
        refine c_end ?_
        refine c_r ?_
        refine o_add h122 rfl ?_
        refine o_mv (v := (vi (Pu.W ((i10 : Int) + 1)))) rfl ?_
        refine c_nil ?_
        obtain rfl := Option.some.inj e3
        exact k6 _ _ ⟨(iv rfl (w_suc q21 ((h12.mono (g4.trans g5).v)).bd)), _, _, (g6.trans g7), s30, h107, h108, h109, h110, h111, h112, h113, h114, h115, h116, h117, h118, h119, h120, h121⟩
      obtain ⟨hte2, Z10, V10, g10, s31, h181, h182, h183, h184, h185, h186, h187, h188, h189, h190, h191, h192, h193, h194, h195⟩ := jd
      refine c_sr ?_
      refine o_lss hte2 h195 ?_
      refine c_nil ?_
      refine c_sq ?_
      refine c_iff rfl (Int.lt_irrefl _) ?_
      refine c_ex ?_
      refine e_c ?_
      refine e_c ?_
      refine e_h ?_
      refine c_end ?_
      refine c_r ?_
      refine o_add h193 rfl ?_
      refine o_mv (v := (vi (Pu.W ((i7 : Int) + 1)))) rfl ?_
      refine c_nil ?_
      obtain rfl := Option.some.inj e2
      exact k4 _ _ ⟨(iv rfl (w_suc q11 ((h12.mono g4.v)).bd)), _, _, (g5.trans g10), (s31.pick [0, 1, 2, 3] rfl), h181, h182, h183, h184, h185, h188, h189, h190, h191, h192⟩
    obtain ⟨hte1, Z11, V11, g11, s32, h196, h197, h198, h199, h200, h201, h202, h203, h204, h205⟩ := jd
    refine c_sr ?_
    refine o_lss hte1 h205 ?_
    refine c_nil ?_
    refine c_sq ?_
    refine c_iff rfl (Int.lt_irrefl _) ?_
    refine c_ex ?_
    refine e_c ?_
    refine e_c ?_
    refine e_h ?_
    refine c_end ?_
    refine c_r ?_
    refine o_add h203 rfl ?_
    refine o_mv (v := (vi (Pu.W ((i4 : Int) + 1)))) rfl ?_
    refine c_nil ?_
    obtain rfl := Option.some.inj e1
    exact k3 _ _ ⟨(iv rfl (w_suc q5 ((hp1.mono (g1.trans g2).v)).bd)), _, _, (g3.trans (g4.trans g11)), (s32.pick [0, 1, 2] rfl), h196, h197, h198, h199, h201, h202⟩
  obtain ⟨hte0, Z12, V12, g12, s33, h206, h207, h208, h209, h210, h211⟩ := jd
  refine c_sr ?_
  refine o_lss hte0 h211 ?_
  refine c_nil ?_
  refine c_sq ?_
  refine c_iff rfl (Int.lt_irrefl _) ?_
  refine c_ex ?_
  refine e_c ?_
  refine e_c ?_
  refine e_h ?_
  refine c_sq ?_
  refine c_sr ?_
  refine o_mv (v := w1) h208 ?_
  refine o_len rfl ((s33.curS (s := (Sh.sl Sh.bool)) 1 rfl)).len ?_
  refine o_mv (v := (vi 0)) rfl ?_
  refine c_nil ?_
  obtain ⟨x15, q40, e⟩ := Pu.bind_some e
  obtain ⟨rfl, q42⟩ := ranO_some q40
  obtain ⟨y7, q43, e⟩ := Pu.bind_some e
  refine c_bk ?_
  refine l_forP (xs := (Pu.ran (y1.1.length : Int))) (fun (i15 : Nat) (s34 : (List (List Bool))) tm H => tm 101 = vi i15 ∧ ∃ (Z13 V13 : PH), Gw Z12 V12 Z13 V13 ∧ Sat Z13 V13 H [pts b1 (.rw 0 [(vi a0.Terms), (vi a0.Nons), (vi a0.Start), (.slice d1 a0.Rules.length a0.Rules.length)]), It.sl (Sh.sl Sh.bool) w1 s34, It.sl (Sh.sl Sh.bool) w2 y1.2] ∧ tm 2 = (.pointer (some ⟨b1, 0, none⟩)) ∧ tm 5 = w1 ∧ tm 6 = w2 ∧ tm 100 = (vi (y1.1.length : Int))) (fun i15 x14 s34 s36 tm H29 q38 q39 j4 e7 k11 => ?_) (fun tm H28 jd => ?_) q43 ⟨rfl, _, _, Gw.refl _ _, s33, h207, h208, h209, rfl⟩
  · obtain ⟨hti3, Z13, V13, g13, s35, h212, h213, h214, h215⟩ := j4
    unfold P.lens_endless.b3 at e7
    have hti3 := iv hti3 (ran_x q38).symm
    refine c_sr ?_
    refine o_lss hti3 h215 ?_
    refine c_nil ?_
    refine c_sq ?_
    refine c_ift rfl (ran_lt q38) ?_
    refine c_sk ?_
    refine c_sq ?_
    refine c_bk ?_
    refine c_sr ?_
    refine o_mv (v := (vi x14)) hti3 ?_
    refine o_mv (v := (vi x14)) rfl ?_
    refine c_nil ?_
    refine c_sr ?_
    refine o_mv (v := w1) h213 ?_
    refine o_len rfl ((s35.curS (s := (Sh.sl Sh.bool)) 1 rfl)).len ?_
    refine o_mv (v := (vi 0)) rfl ?_
    refine c_nil ?_
    obtain ⟨x17, q46, e7⟩ := Pu.bind_some e7
    obtain ⟨rfl, q48⟩ := ranO_some q46
    obtain ⟨y8, q49, e7⟩ := Pu.bind_some e7
    refine c_bk ?_
    refine l_forP (xs := (Pu.ran (s34.length : Int))) (fun (i16 : Nat) (s37 : (List (List Bool))) tm H => tm 106 = vi i16 ∧ ∃ (Z14 V14 : PH), Gw Z13 V13 Z14 V14 ∧ Sat Z14 V14 H [pts b1 (.rw 0 [(vi a0.Terms), (vi a0.Nons), (vi a0.Start), (.slice d1 a0.Rules.length a0.Rules.length)]), It.sl (Sh.sl Sh.bool) w1 s37, It.sl (Sh.sl Sh.bool) w2 y1.2] ∧ tm 2 = (.pointer (some ⟨b1, 0, none⟩)) ∧ tm 5 = w1 ∧ tm 6 = w2 ∧ tm 13 = (vi x14) ∧ tm 100 = (vi (y1.1.length : Int)) ∧ tm 101 = (vi x14) ∧ tm 105 = (vi (s34.length : Int))) (fun i16 x16 s37 s39 tm H31 q44 q45 j5 e8 k12 => ?_) (fun tm H30 jd => ?_) q49 ⟨rfl, _, _, Gw.refl _ _, s35, h212, h213, h214, rfl, h215, hti3, rfl⟩
    · obtain ⟨hti4, Z14, V14, g14, s38, h216, h217, h218, h219, h220, h221, h222⟩ := j5
      unfold P.lens_endless.b4 at e8
      have hti4 := iv hti4 (ran_x q44).symm
      refine c_sr ?_
      refine o_lss hti4 h222 ?_
      refine c_nil ?_
      refine c_sq ?_
      refine c_ift rfl (ran_lt q44) ?_
      refine c_sk ?_
      refine c_sq ?_
      refine c_bk ?_
      refine c_sr ?_
      refine o_mv (v := (vi x16)) hti4 ?_
      refine o_mv (v := (vi x16)) rfl ?_
      refine c_nil ?_
      refine c_sr ?_
      refine o_mv (v := w1) h217 ?_
      refine o_len rfl ((s38.curS (s := (Sh.sl Sh.bool)) 1 rfl)).len ?_
      refine o_mv (v := (vi 0)) rfl ?_
      refine c_nil ?_
      obtain ⟨x19, q52, e8⟩ := Pu.bind_some e8
      obtain ⟨rfl, q54⟩ := ranO_some q52
      obtain ⟨y9, q55, e8⟩ := Pu.bind_some e8
      refine c_bk ?_
      refine l_forP (xs := (Pu.ran (s37.length : Int))) (fun (i17 : Nat) (s40 : (List (List Bool))) tm H => tm 111 = vi i17 ∧ ∃ (Z15 V15 : PH), Gw Z14 V14 Z15 V15 ∧ Sat Z15 V15 H [pts b1 (.rw 0 [(vi a0.Terms), (vi a0.Nons), (vi a0.Start), (.slice d1 a0.Rules.length a0.Rules.length)]), It.sl (Sh.sl Sh.bool) w1 s40, It.sl (Sh.sl Sh.bool) w2 y1.2] ∧ tm 2 = (.pointer (some ⟨b1, 0, none⟩)) ∧ tm 5 = w1 ∧ tm 6 = w2 ∧ tm 13 = (vi x14) ∧ tm 14 = (vi x16) ∧ tm 100 = (vi (y1.1.length : Int)) ∧ tm 101 = (vi x14) ∧ tm 105 = (vi (s34.length : Int)) ∧ tm 106 = (vi x16) ∧ tm 110 = (vi (s37.length : Int))) (fun i17 x18 s40 s42 tm H33 q50 q51 j6 e9 k13 => ?_) (fun tm H32 jd => ?_) q55 ⟨rfl, _, _, Gw.refl _ _, s38, h216, h217, h218, h219, rfl, h220, h221, h222, hti4, rfl⟩
      · obtain ⟨hti5, Z15, V15, g15, s41, h223, h224, h225, h226, h227, h228, h229, h230, h231, h232⟩ := j6
        unfold P.lens_endless.b5 at e9
        have hti5 := iv hti5 (ran_x q50).symm
        refine c_sr ?_
        refine o_lss hti5 h232 ?_
        refine c_nil ?_
        refine c_sq ?_
        refine c_ift rfl (ran_lt q50) ?_
        refine c_sk ?_
        refine c_sq ?_
        refine c_bk ?_
        refine c_sr ?_
        refine o_mv (v := (vi x18)) hti5 ?_
        refine o_mv (v := (vi x18)) rfl ?_
        refine c_nil ?_
        refine d_start s41 fun n4 H34 s43 q56 d13 => ?_
        refine d_mv (v := w1) h224 ?_
        refine d_mv (v := (vi x16)) h227 ?_
        obtain ⟨x20, q57, e9⟩ := Pu.bind_some e9
        refine d_idx (v := w1) rfl rfl (s43.curS (s := (Sh.sl Sh.bool)) 1 rfl) rfl q57 fun p11 q58 => ?_
        refine d_ldsv ((s43.curS 1 rfl).low (PH.le.refl _) q56) rfl (s43.curS (s := (Sh.sl Sh.bool)) 1 rfl) (PH.le.refl _) q58 q57 fun w7 h233 h234 => ?_
        refine d_mv (v := (vi x18)) rfl ?_
        refine d_mv (v := w1) h224 ?_
        refine d_mv (v := (vi x16)) h227 ?_
        obtain ⟨x21, q59, e9⟩ := Pu.bind_some e9
        refine d_idx (v := w1) rfl rfl (s43.curS (s := (Sh.sl Sh.bool)) 1 rfl) rfl q59 fun p12 q60 => ?_
        refine d_ldsv ((s43.curS 1 rfl).low (PH.le.refl _) q56) rfl (s43.curS (s := (Sh.sl Sh.bool)) 1 rfl) (PH.le.refl _) q60 q59 fun w8 h235 h236 => ?_
        refine d_mv (v := (vi x18)) rfl ?_
        obtain ⟨x22, q61, e9⟩ := Pu.bind_some e9
        refine d_idx (v := w8) rfl rfl h235 rfl q61 fun p13 q62 => ?_
        refine d_ldb (RdS.low h235 (PH.le.refl _) q56) rfl h235 (PH.le.refl _) q62 q61 ?_
        have h237 := vl_bool h235 (PH.le.refl _) q62 q61
        refine d_mv (v := (.bool x22)) rfl ?_
        obtain ⟨y10, e10, e9⟩ := Pu.bind_some e9
        refine d_jn 17 (I := fun tm H => DD n4 30 (List.length F.lens_endless.r27) H ∧ (∃ (Z16 V16 : PH), Gw Z15 V15 Z16 V16 ∧ Sat Z16 V16 H [pts b1 (.rw 0 [(vi a0.Terms), (vi a0.Nons), (vi a0.Start), (.slice d1 a0.Rules.length a0.Rules.length)]), It.sl (Sh.sl Sh.bool) w1 s40, It.sl (Sh.sl Sh.bool) w2 y1.2] ∧ tm 2 = (.pointer (some ⟨b1, 0, none⟩)) ∧ tm 5 = w1 ∧ tm 6 = w2 ∧ tm 13 = (vi x14) ∧ tm 14 = (vi x16) ∧ tm 100 = (vi (y1.1.length : Int)) ∧ tm 101 = (vi x14) ∧ tm 105 = (vi (s34.length : Int)) ∧ tm 106 = (vi x16) ∧ tm 110 = (vi (s37.length : Int)) ∧ tm 111 = (vi x18) ∧ tm 117 = w7 ∧ tm 118 = (vi x18) ∧ tm 143 = (.bool y10) ∧ RdS Sh.bool (Hp.ph H) w7 x20 ∧ vload H 1 false p11 = some w7)) (fun k14 => ?_) ?_
        · rcases Bool.eq_false_or_eq_true x22 with q63 | q63
          · replace e10 := if_t q63 e10
            refine d_gn rfl q63 ?_
            refine d_gn rfl q63 ?_
            refine d_gn rfl q63 ?_
            refine d_gn rfl q63 ?_
            refine d_gn rfl q63 ?_
            refine d_gn rfl q63 ?_
            refine d_gn rfl q63 ?_
            refine d_gn rfl q63 ?_
            refine d_gu rfl ?_
            refine d_gu rfl ?_
            refine d_gu rfl ?_
            refine d_gu rfl ?_
            refine d_gu rfl ?_
            refine d_gu rfl ?_
            refine d_gu rfl ?_
            refine d_gn rfl q63 ?_
            refine d_pickt (a := (.bool true)) rfl q63 rfl ?_
            obtain rfl := Option.some.inj e10
            exact k14 _ _ _ ⟨d13.up rfl, _, _, Gw.refl _ _, s43, h223, h224, h225, h226, h227, h228, h229, h230, h231, h232, hti5, rfl, rfl, rfl, h233, h234⟩
          replace e10 := ib_f q63 e10
          refine d_want rfl q63 ?_
          refine d_mv (v := w1) h224 ?_
          refine d_want rfl q63 ?_
          refine d_mv (v := (vi x16)) h227 ?_
          refine d_want rfl q63 ?_
          obtain ⟨x23, q64, e10⟩ := Pu.bind_some e10
          refine d_idx (v := w1) rfl rfl (s43.curS (s := (Sh.sl Sh.bool)) 1 rfl) rfl q64 fun p14 q65 => ?_
          refine d_want rfl q63 ?_
          refine d_ldsv ((s43.curS 1 rfl).low (PH.le.refl _) q56) rfl (s43.curS (s := (Sh.sl Sh.bool)) 1 rfl) (PH.le.refl _) q65 q64 fun w9 h254 h255 => ?_
          refine d_want rfl q63 ?_
          refine d_mv (v := (vi x14)) h226 ?_
          refine d_want rfl q63 ?_
          obtain ⟨x24, q66, e10⟩ := Pu.bind_some e10
          refine d_idx (v := w9) rfl rfl h254 rfl q66 fun p15 q67 => ?_
          refine d_want rfl q63 ?_
          refine d_ldb (RdS.low h254 (PH.le.refl _) q56) rfl h254 (PH.le.refl _) q67 q66 ?_
          have h256 := vl_bool h254 (PH.le.refl _) q67 q66
          refine d_want rfl q63 ?_
          refine d_mv (v := (.bool x24)) rfl ?_
          obtain ⟨y11, e11, e10⟩ := Pu.bind_some e10
          refine d_jn 8 (I := fun tm H => DD n4 29 (List.length F.lens_endless.r27) H ∧ (∃ (Z17 V17 : PH), Gw Z15 V15 Z17 V17 ∧ Sat Z17 V17 H [pts b1 (.rw 0 [(vi a0.Terms), (vi a0.Nons), (vi a0.Start), (.slice d1 a0.Rules.length a0.Rules.length)]), It.sl (Sh.sl Sh.bool) w1 s40, It.sl (Sh.sl Sh.bool) w2 y1.2] ∧ tm 2 = (.pointer (some ⟨b1, 0, none⟩)) ∧ tm 5 = w1 ∧ tm 6 = w2 ∧ tm 13 = (vi x14) ∧ tm 14 = (vi x16) ∧ tm 100 = (vi (y1.1.length : Int)) ∧ tm 101 = (vi x14) ∧ tm 105 = (vi (s34.length : Int)) ∧ tm 106 = (vi x16) ∧ tm 110 = (vi (s37.length : Int)) ∧ tm 111 = (vi x18) ∧ tm 117 = w7 ∧ tm 118 = (vi x18) ∧ tm 126 = (.bool x22) ∧ tm 127 = w1 ∧ tm 128 = (vi x16) ∧ tm 129 = p14 ∧ tm 130 = w9 ∧ tm 131 = (vi x14) ∧ tm 132 = p15 ∧ tm 133 = (.bool x24) ∧ tm 134 = (.bool x24) ∧ tm 142 = (.bool y11) ∧ RdS Sh.bool (Hp.ph H) w7 x20 ∧ vload H 1 false p11 = some w7 ∧ RdS Sh.bool (Hp.ph H) w9 x23 ∧ vload H 1 false p14 = some w9 ∧ RdS Sh.bool (Hp.ph H) w9 x23 ∧ vload H 1 false p14 = some w9)) (fun k15 => ?_) ?_
          · rcases Bool.eq_false_or_eq_true x24 with q68 | q68
            · replace e11 := if_t q68 e11
              refine d_want rfl q68 ?_
              refine d_mv (v := w1) h224 ?_
              refine d_want rfl q68 ?_
              refine d_mv (v := (vi x14)) h226 ?_
              refine d_want rfl q68 ?_
              obtain ⟨x25, q69, e11⟩ := Pu.bind_some e11
              refine d_idx (v := w1) rfl rfl (s43.curS (s := (Sh.sl Sh.bool)) 1 rfl) rfl q69 fun p16 q70 => ?_
              refine d_want rfl q68 ?_
              refine d_ldsv ((s43.curS 1 rfl).low (PH.le.refl _) q56) rfl (s43.curS (s := (Sh.sl Sh.bool)) 1 rfl) (PH.le.refl _) q70 q69 fun w10 h286 h287 => ?_
              refine d_want rfl q68 ?_
              refine d_mv (v := (vi x18)) rfl ?_
              refine d_want rfl q68 ?_
              obtain ⟨x26, q71, e11⟩ := Pu.bind_some e11
              refine d_idx (v := w10) rfl rfl h286 rfl q71 fun p17 q72 => ?_
              refine d_want rfl q68 ?_
              refine d_ldb (RdS.low h286 (PH.le.refl _) q56) rfl h286 (PH.le.refl _) q72 q71 ?_
              have h288 := vl_bool h286 (PH.le.refl _) q72 q71
              refine d_want rfl q63 ?_
              refine d_pickt (a := (.bool x26)) rfl q68 rfl ?_
              obtain rfl := Option.some.inj e11
              exact k15 _ _ _ ⟨d13.up rfl, _, _, Gw.refl _ _, s43, h223, h224, h225, h226, h227, h228, h229, h230, h231, h232, hti5, rfl, rfl, rfl, rfl, rfl, rfl, rfl, rfl, rfl, rfl, rfl, rfl, h233, h234, h254, h255, h254, h255⟩
            replace e11 := ib_f q68 e11
            refine d_gn rfl q68 ?_
            refine d_gn rfl q68 ?_
            refine d_gn rfl q68 ?_
            refine d_gn rfl q68 ?_
            refine d_gn rfl q68 ?_
            refine d_gn rfl q68 ?_
            refine d_gn rfl q68 ?_
            refine d_want rfl q63 ?_
            refine d_pickf (b := (.bool false)) rfl q68 rfl ?_
            obtain rfl := Option.some.inj e11
            exact k15 _ _ _ ⟨d13.up rfl, _, _, Gw.refl _ _, s43, h223, h224, h225, h226, h227, h228, h229, h230, h231, h232, hti5, rfl, rfl, rfl, rfl, rfl, rfl, rfl, rfl, rfl, rfl, rfl, rfl, h233, h234, h254, h255, h254, h255⟩
          intro _ H36 _ i18
          obtain ⟨d14, Z17, V17, g17, s45, h263, h264, h265, h266, h267, h268, h269, h270, h271, h272, h273, h274, h275, h276, h277, h278, h279, h280, h281, h282, h283, h284, h285, h257, h258, h259, h260, h261, h262⟩ := i18
          refine d_pickf (b := (.bool y11)) h276 q63 h285 ?_
          obtain rfl := Option.some.inj e10
          exact k14 _ _ _ ⟨d14.up rfl, _, _, g17, s45, h263, h264, h265, h266, h267, h268, h269, h270, h271, h272, h273, h274, h275, rfl, h257, h258⟩
        intro _ H35 _ i19
        obtain ⟨d15, Z16, V16, g16, s44, h240, h241, h242, h243, h244, h245, h246, h247, h248, h249, h250, h251, h252, h253, h238, h239⟩ := i19
        obtain ⟨x27, q73, e9⟩ := Pu.bind_some e9
        refine d_idx (v := w7) h251 h252 h238 rfl q73 fun p18 q74 => ?_
        refine d_st2 1 s44 rfl Sh.flat_lt rfl rfl h253 q58 q57 h239 q74 q73 rfl rfl fun H37 s46 k16 => ?_
        have d16 := d15.keep k16
        refine d_nil dc_nil ?_
        refine c_end ?_
        refine c_r ?_
        refine o_add h250 rfl ?_
        refine o_mv (v := (vi (Pu.W (x18 + 1)))) rfl ?_
        refine c_nil ?_
        obtain rfl := Option.some.inj e9
        exact k13 _ _ ⟨(iv rfl (w_sucR q50 q54)), _, _, (g15.trans g16), s46, h240, h241, h242, h243, h244, h245, h246, h247, h248, h249⟩
      obtain ⟨hte5, Z18, V18, g18, s47, h289, h290, h291, h292, h293, h294, h295, h296, h297, h298⟩ := jd
      refine c_sr ?_
      refine o_lss hte5 h298 ?_
      refine c_nil ?_
      refine c_sq ?_
      refine c_iff rfl (ran_done _) ?_
      refine c_ex ?_
      refine e_c ?_
      refine e_c ?_
      refine e_h ?_
      refine c_end ?_
      refine c_r ?_
      refine o_add h297 rfl ?_
      refine o_mv (v := (vi (Pu.W (x16 + 1)))) rfl ?_
      refine c_nil ?_
      obtain rfl := Option.some.inj e8
      exact k12 _ _ ⟨(iv rfl (w_sucR q44 q48)), _, _, (g14.trans g18), s47, h289, h290, h291, h292, h294, h295, h296⟩
    obtain ⟨hte4, Z19, V19, g19, s48, h299, h300, h301, h302, h303, h304, h305⟩ := jd
    refine c_sr ?_
    refine o_lss hte4 h305 ?_
    refine c_nil ?_
    refine c_sq ?_
    refine c_iff rfl (ran_done _) ?_
    refine c_ex ?_
    refine e_c ?_
    refine e_c ?_
    refine e_h ?_
    refine c_end ?_
    refine c_r ?_
    refine o_add h304 rfl ?_
    refine o_mv (v := (vi (Pu.W (x14 + 1)))) rfl ?_
    refine c_nil ?_
    obtain rfl := Option.some.inj e7
    exact k11 _ _ ⟨(iv rfl (w_sucR q38 q42)), _, _, (g13.trans g19), s48, h299, h300, h301, h303⟩
  obtain ⟨hte3, Z20, V20, g20, s49, h306, h307, h308, h309⟩ := jd
  refine c_sr ?_
  refine o_lss hte3 h309 ?_
  refine c_nil ?_
  refine c_sq ?_
  refine c_iff rfl (ran_done _) ?_
  refine c_ex ?_
  refine e_c ?_
  refine e_c ?_
  refine e_h ?_
  refine c_sq ?_
  refine c_sr ?_
  refine o_mv (v := w1) h307 ?_
  refine o_len rfl ((s49.curS (s := (Sh.sl Sh.bool)) 1 rfl)).len ?_
  refine o_mv (v := (vi 0)) rfl ?_
  refine c_nil ?_
  obtain ⟨x29, q77, e⟩ := Pu.bind_some e
  obtain ⟨rfl, q79⟩ := ranO_some q77
  obtain ⟨y12, q80, e⟩ := Pu.bind_some e
  refine c_jn (I := fun tm H => ∃ (s52 : Unit), y12 = .out s52 ∧ (∃ (Z22 V22 : PH), Gw Z20 V20 Z22 V22 ∧ Sat Z22 V22 H [pts b1 (.rw 0 [(vi a0.Terms), (vi a0.Nons), (vi a0.Start), (.slice d1 a0.Rules.length a0.Rules.length)]), It.sl (Sh.sl Sh.bool) w1 y7, It.sl (Sh.sl Sh.bool) w2 y1.2] ∧ tm 2 = (.pointer (some ⟨b1, 0, none⟩)) ∧ tm 5 = w1 ∧ tm 6 = w2 ∧ tm 149 = (vi (y7.length : Int)))) (fun k20 => ?_) ?_
  · refine c_bk ?_
    refine l_forL (xs := (Pu.ran (y7.length : Int))) (fun (i20 : Nat) (s50 : Unit) tm H => tm 150 = vi i20 ∧ ∃ (Z21 V21 : PH), Gw Z20 V20 Z21 V21 ∧ Sat Z21 V21 H [pts b1 (.rw 0 [(vi a0.Terms), (vi a0.Nons), (vi a0.Start), (.slice d1 a0.Rules.length a0.Rules.length)]), It.sl (Sh.sl Sh.bool) w1 y7, It.sl (Sh.sl Sh.bool) w2 y1.2] ∧ tm 2 = (.pointer (some ⟨b1, 0, none⟩)) ∧ tm 5 = w1 ∧ tm 6 = w2 ∧ tm 149 = (vi (y7.length : Int))) (fun i20 x28 s50 y13 tm H42 q75 q76 j7 e12 k17 k18 k19 => ?_) (fun s50 tm H41 jf jd => ?_) q80 ⟨rfl, _, _, Gw.refl _ _, s49, h306, h307, h308, rfl⟩
    · obtain ⟨hti6, Z21, V21, g21, s51, h310, h311, h312, h313⟩ := j7
      unfold P.lens_endless.b6 at e12
      have hti6 := iv hti6 (ran_x q75).symm
      refine c_sr ?_
      refine o_lss hti6 h313 ?_
      refine c_nil ?_
      refine c_sq ?_
      refine c_ift rfl (ran_lt q75) ?_
      refine c_sk ?_
      refine c_sq ?_
      refine c_bk ?_
      refine c_sr ?_
      refine o_mv (v := (vi x28)) hti6 ?_
      refine o_mv (v := (vi x28)) rfl ?_
      refine c_nil ?_
      refine c_sr ?_
      refine o_mv (v := w1) h311 ?_
      refine o_len rfl ((s51.curS (s := (Sh.sl Sh.bool)) 1 rfl)).len ?_
      refine o_mv (v := (vi 0)) rfl ?_
      refine c_nil ?_
      obtain ⟨x31, q83, e12⟩ := Pu.bind_some e12
      obtain ⟨rfl, q85⟩ := ranO_some q83
      obtain ⟨y14, q86, e12⟩ := Pu.bind_some e12
      refine c_jn (I := fun tm H => ∃ (s56 : Unit), y14 = .out s56 ∧ (∃ (Z24 V24 : PH), Gw Z21 V21 Z24 V24 ∧ Sat Z24 V24 H [pts b1 (.rw 0 [(vi a0.Terms), (vi a0.Nons), (vi a0.Start), (.slice d1 a0.Rules.length a0.Rules.length)]), It.sl (Sh.sl Sh.bool) w1 y7, It.sl (Sh.sl Sh.bool) w2 y1.2] ∧ tm 2 = (.pointer (some ⟨b1, 0, none⟩)) ∧ tm 5 = w1 ∧ tm 6 = w2 ∧ tm 16 = (vi x28) ∧ tm 149 = (vi (y7.length : Int)) ∧ tm 150 = (vi x28) ∧ tm 154 = (vi (y7.length : Int)))) (fun k24 => ?_) ?_
      · refine c_bk ?_
        refine l_forL (xs := (Pu.ran (y7.length : Int))) (fun (i21 : Nat) (s54 : Unit) tm H => tm 155 = vi i21 ∧ ∃ (Z23 V23 : PH), Gw Z21 V21 Z23 V23 ∧ Sat Z23 V23 H [pts b1 (.rw 0 [(vi a0.Terms), (vi a0.Nons), (vi a0.Start), (.slice d1 a0.Rules.length a0.Rules.length)]), It.sl (Sh.sl Sh.bool) w1 y7, It.sl (Sh.sl Sh.bool) w2 y1.2] ∧ tm 2 = (.pointer (some ⟨b1, 0, none⟩)) ∧ tm 5 = w1 ∧ tm 6 = w2 ∧ tm 16 = (vi x28) ∧ tm 149 = (vi (y7.length : Int)) ∧ tm 150 = (vi x28) ∧ tm 154 = (vi (y7.length : Int))) (fun i21 x30 s54 y15 tm H45 q81 q82 j8 e13 k21 k22 k23 => ?_) (fun s54 tm H44 jf jd => ?_) q86 ⟨rfl, _, _, Gw.refl _ _, s51, h310, h311, h312, rfl, h313, hti6, rfl⟩
        · obtain ⟨hti7, Z23, V23, g23, s55, h318, h319, h320, h321, h322, h323, h324⟩ := j8
          unfold P.lens_endless.b7 at e13
          have hti7 := iv hti7 (ran_x q81).symm
          refine c_sr ?_
          refine o_lss hti7 h324 ?_
          refine c_nil ?_
          refine c_sq ?_
          refine c_ift rfl (ran_lt q81) ?_
          refine c_sk ?_
          refine c_sq ?_
          refine c_bk ?_
          refine c_sr ?_
          refine o_mv (v := (vi x30)) hti7 ?_
          refine o_mv (v := (vi x30)) rfl ?_
          refine c_nil ?_
          refine c_sr ?_
          refine o_mv (v := w2) h320 ?_
          refine o_mv (v := (vi x28)) h321 ?_
          obtain ⟨x32, q87, e13⟩ := Pu.bind_some e13
          refine o_idx (v := w2) rfl rfl (s55.curS (s := (Sh.sl Sh.bool)) 2 rfl) rfl q87 fun p19 q88 => ?_
          refine o_ldsv rfl (s55.curS (s := (Sh.sl Sh.bool)) 2 rfl) (PH.le.refl _) q88 q87 fun w11 h332 h333 => ?_
          refine o_mv (v := (vi x30)) rfl ?_
          obtain ⟨x33, q89, e13⟩ := Pu.bind_some e13
          refine o_idx (v := w11) rfl rfl h332 rfl q89 fun p20 q90 => ?_
          refine o_ldb rfl h332 (PH.le.refl _) q90 q89 ?_
          refine o_mv (v := (.bool x33)) rfl ?_
          obtain ⟨y16, e14, e13⟩ := Pu.bind_some e13
          refine o_jn 13 (I := fun tm H => ∃ (Z25 V25 : PH), Gw Z23 V23 Z25 V25 ∧ Sat Z25 V25 H [pts b1 (.rw 0 [(vi a0.Terms), (vi a0.Nons), (vi a0.Start), (.slice d1 a0.Rules.length a0.Rules.length)]), It.sl (Sh.sl Sh.bool) w1 y7, It.sl (Sh.sl Sh.bool) w2 y1.2] ∧ tm 2 = (.pointer (some ⟨b1, 0, none⟩)) ∧ tm 5 = w1 ∧ tm 6 = w2 ∧ tm 16 = (vi x28) ∧ tm 149 = (vi (y7.length : Int)) ∧ tm 150 = (vi x28) ∧ tm 154 = (vi (y7.length : Int)) ∧ tm 155 = (vi x30) ∧ tm 178 = (.bool y16)) (fun k25 => ?_) ?_
          · rcases Bool.eq_false_or_eq_true x33 with q91 | q91
            · replace e14 := if_t q91 e14
              refine o_gy rfl q91 ?_
              refine o_mv (v := (vi x28)) h321 ?_
              refine o_gy rfl q91 ?_
              refine o_mv (v := (vi x30)) rfl ?_
              refine o_gy rfl q91 ?_
              refine o_eql rfl rfl ?_
              refine o_gy rfl q91 ?_
              refine o_mv (v := (.bool (decide (x28 = x30)))) rfl ?_
              obtain ⟨y17, e15, e14⟩ := Pu.bind_some e14
              refine o_jn 8 (I := fun tm H => ∃ (Z26 V26 : PH), Gw Z23 V23 Z26 V26 ∧ Sat Z26 V26 H [pts b1 (.rw 0 [(vi a0.Terms), (vi a0.Nons), (vi a0.Start), (.slice d1 a0.Rules.length a0.Rules.length)]), It.sl (Sh.sl Sh.bool) w1 y7, It.sl (Sh.sl Sh.bool) w2 y1.2] ∧ tm 2 = (.pointer (some ⟨b1, 0, none⟩)) ∧ tm 5 = w1 ∧ tm 6 = w2 ∧ tm 16 = (vi x28) ∧ tm 149 = (vi (y7.length : Int)) ∧ tm 150 = (vi x28) ∧ tm 154 = (vi (y7.length : Int)) ∧ tm 155 = (vi x30) ∧ tm 165 = (.bool x33) ∧ tm 166 = (vi x28) ∧ tm 167 = (vi x30) ∧ tm 168 = (.bool (decide (x28 = x30))) ∧ tm 169 = (.bool (decide (x28 = x30))) ∧ tm 177 = (.bool y17)) (fun k26 => ?_) ?_
              · rcases Bool.eq_false_or_eq_true (decide (x28 = x30)) with q92 | q92
                · replace e15 := if_t q92 e15
                  refine o_gn rfl q92 ?_
                  refine o_gn rfl q92 ?_
                  refine o_gn rfl q92 ?_
                  refine o_gn rfl q92 ?_
                  refine o_gn rfl q92 ?_
                  refine o_gn rfl q92 ?_
                  refine o_gn rfl q92 ?_
                  refine o_gy rfl q91 ?_
                  refine o_pickt (a := (.bool true)) rfl q92 rfl ?_
                  obtain rfl := Option.some.inj e15
                  exact k26 _ _ ⟨_, _, Gw.refl _ _, s55, h318, h319, h320, h321, h322, h323, h324, hti7, rfl, rfl, rfl, rfl, rfl, rfl⟩
                replace e15 := ib_f q92 e15
                refine o_gy rfl q92 ?_
                refine o_mv (v := w1) h319 ?_
                refine o_gy rfl q92 ?_
                refine o_mv (v := (vi x30)) rfl ?_
                refine o_gy rfl q92 ?_
                obtain ⟨x34, q93, e15⟩ := Pu.bind_some e15
                refine o_idx (v := w1) rfl rfl (s55.curS (s := (Sh.sl Sh.bool)) 1 rfl) rfl q93 fun p21 q94 => ?_
                refine o_gy rfl q92 ?_
                refine o_ldsv rfl (s55.curS (s := (Sh.sl Sh.bool)) 1 rfl) (PH.le.refl _) q94 q93 fun w12 h357 h358 => ?_
                refine o_gy rfl q92 ?_
                refine o_mv (v := (vi x28)) h321 ?_
                refine o_gy rfl q92 ?_
                obtain ⟨x35, q95, e15⟩ := Pu.bind_some e15
                refine o_idx (v := w12) rfl rfl h357 rfl q95 fun p22 q96 => ?_
                refine o_gy rfl q92 ?_
                refine o_ldb rfl h357 (PH.le.refl _) q96 q95 ?_
                refine o_gy rfl q91 ?_
                refine o_pickf (b := (.bool x35)) rfl q92 rfl ?_
                obtain rfl := Option.some.inj e15
                exact k26 _ _ ⟨_, _, Gw.refl _ _, s55, h318, h319, h320, h321, h322, h323, h324, hti7, rfl, rfl, rfl, rfl, rfl, rfl⟩
              intro _ H48 i22
              obtain ⟨Z26, V26, g26, s59, h343, h344, h345, h346, h347, h348, h349, h350, h351, h352, h353, h354, h355, h356⟩ := i22
              refine o_pickt (a := (.bool y17)) h351 q91 h356 ?_
              obtain rfl := Option.some.inj e14
              exact k25 _ _ ⟨_, _, g26, s59, h343, h344, h345, h346, h347, h348, h349, h350, rfl⟩
            replace e14 := ib_f q91 e14
            refine o_gn rfl q91 ?_
            refine o_gn rfl q91 ?_
            refine o_gn rfl q91 ?_
            refine o_gn rfl q91 ?_
            refine o_gu rfl ?_
            refine o_gu rfl ?_
            refine o_gu rfl ?_
            refine o_gu rfl ?_
            refine o_gu rfl ?_
            refine o_gu rfl ?_
            refine o_gu rfl ?_
            refine o_gn rfl q91 ?_
            refine o_pickf (b := (.bool false)) rfl q91 rfl ?_
            obtain rfl := Option.some.inj e14
            exact k25 _ _ ⟨_, _, Gw.refl _ _, s55, h318, h319, h320, h321, h322, h323, h324, hti7, rfl⟩
          intro _ H47 i23
          obtain ⟨Z25, V25, g25, s58, h334, h335, h336, h337, h338, h339, h340, h341, h342⟩ := i23
          refine o_mv (v := (.bool y16)) h342 ?_
          obtain ⟨y18, e16, e13⟩ := Pu.bind_some e13
          refine o_jn 15 (I := fun tm H => ∃ (Z27 V27 : PH), Gw Z25 V25 Z27 V27 ∧ Sat Z27 V27 H [pts b1 (.rw 0 [(vi a0.Terms), (vi a0.Nons), (vi a0.Start), (.slice d1 a0.Rules.length a0.Rules.length)]), It.sl (Sh.sl Sh.bool) w1 y7, It.sl (Sh.sl Sh.bool) w2 y1.2] ∧ tm 2 = (.pointer (some ⟨b1, 0, none⟩)) ∧ tm 5 = w1 ∧ tm 6 = w2 ∧ tm 16 = (vi x28) ∧ tm 149 = (vi (y7.length : Int)) ∧ tm 150 = (vi x28) ∧ tm 154 = (vi (y7.length : Int)) ∧ tm 155 = (vi x30) ∧ tm 194 = (.bool y18)) (fun k27 => ?_) ?_
          · rcases Bool.eq_false_or_eq_true y16 with q97 | q97
            · replace e16 := if_t q97 e16
              refine o_gy rfl q97 ?_
              refine o_mv (v := (vi x28)) h337 ?_
              refine o_gy rfl q97 ?_
              refine o_fad h334 ?_
              refine o_gy rfl q97 ?_
              refine o_ldB 0 s58 rfl rfl rfl rfl ?_
              refine o_gy rfl q97 ?_
              refine o_eql rfl rfl ?_
              refine o_gy rfl q97 ?_
              refine o_mv (v := (.bool (decide (x28 = a0.Start)))) rfl ?_
              obtain ⟨y19, e17, e16⟩ := Pu.bind_some e16
              refine o_jn 9 (I := fun tm H => ∃ (Z28 V28 : PH), Gw Z25 V25 Z28 V28 ∧ Sat Z28 V28 H [pts b1 (.rw 0 [(vi a0.Terms), (vi a0.Nons), (vi a0.Start), (.slice d1 a0.Rules.length a0.Rules.length)]), It.sl (Sh.sl Sh.bool) w1 y7, It.sl (Sh.sl Sh.bool) w2 y1.2] ∧ tm 2 = (.pointer (some ⟨b1, 0, none⟩)) ∧ tm 5 = w1 ∧ tm 6 = w2 ∧ tm 16 = (vi x28) ∧ tm 149 = (vi (y7.length : Int)) ∧ tm 150 = (vi x28) ∧ tm 154 = (vi (y7.length : Int)) ∧ tm 155 = (vi x30) ∧ tm 179 = (.bool y16) ∧ tm 180 = (vi x28) ∧ tm 181 = (.pointer (some ⟨b1, 2, none⟩)) ∧ tm 182 = (vi a0.Start) ∧ tm 183 = (.bool (decide (x28 = a0.Start))) ∧ tm 184 = (.bool (decide (x28 = a0.Start))) ∧ tm 193 = (.bool y19)) (fun k28 => ?_) ?_
              · rcases Bool.eq_false_or_eq_true (decide (x28 = a0.Start)) with q98 | q98
                · replace e17 := if_t q98 e17
                  refine o_gn rfl q98 ?_
                  refine o_gn rfl q98 ?_
                  refine o_gn rfl q98 ?_
                  refine o_gn rfl q98 ?_
                  refine o_gn rfl q98 ?_
                  refine o_gn rfl q98 ?_
                  refine o_gn rfl q98 ?_
                  refine o_gn rfl q98 ?_
                  refine o_gy rfl q97 ?_
                  refine o_pickt (a := (.bool true)) rfl q98 rfl ?_
                  obtain rfl := Option.some.inj e17
                  exact k28 _ _ ⟨_, _, Gw.refl _ _, s58, h334, h335, h336, h337, h338, h339, h340, h341, rfl, rfl, rfl, rfl, rfl, rfl, rfl⟩
                replace e17 := ib_f q98 e17
                refine o_gy rfl q98 ?_
                refine o_mv (v := w1) h335 ?_
                refine o_gy rfl q98 ?_
                refine o_fad h334 ?_
                refine o_gy rfl q98 ?_
                refine o_ldB 0 s58 rfl rfl rfl rfl ?_
                refine o_gy rfl q98 ?_
                obtain ⟨x36, q99, e17⟩ := Pu.bind_some e17
                refine o_idx (v := w1) rfl rfl (s58.curS (s := (Sh.sl Sh.bool)) 1 rfl) rfl q99 fun p23 q100 => ?_
                refine o_gy rfl q98 ?_
                refine o_ldsv rfl (s58.curS (s := (Sh.sl Sh.bool)) 1 rfl) (PH.le.refl _) q100 q99 fun w13 h383 h384 => ?_
                refine o_gy rfl q98 ?_
                refine o_mv (v := (vi x28)) h337 ?_
                refine o_gy rfl q98 ?_
                obtain ⟨x37, q101, e17⟩ := Pu.bind_some e17
                refine o_idx (v := w13) rfl rfl h383 rfl q101 fun p24 q102 => ?_
                refine o_gy rfl q98 ?_
                refine o_ldb rfl h383 (PH.le.refl _) q102 q101 ?_
                refine o_gy rfl q97 ?_
                refine o_pickf (b := (.bool x37)) rfl q98 rfl ?_
                obtain rfl := Option.some.inj e17
                exact k28 _ _ ⟨_, _, Gw.refl _ _, s58, h334, h335, h336, h337, h338, h339, h340, h341, rfl, rfl, rfl, rfl, rfl, rfl, rfl⟩
              intro _ H50 i24
              obtain ⟨Z28, V28, g28, s61, h368, h369, h370, h371, h372, h373, h374, h375, h376, h377, h378, h379, h380, h381, h382⟩ := i24
              refine o_pickt (a := (.bool y19)) h376 q97 h382 ?_
              obtain rfl := Option.some.inj e16
              exact k27 _ _ ⟨_, _, g28, s61, h368, h369, h370, h371, h372, h373, h374, h375, rfl⟩
            replace e16 := ib_f q97 e16
            refine o_gn rfl q97 ?_
            refine o_gn rfl q97 ?_
            refine o_gn rfl q97 ?_
            refine o_gn rfl q97 ?_
            refine o_gn rfl q97 ?_
            refine o_gu rfl ?_
            refine o_gu rfl ?_
            refine o_gu rfl ?_
            refine o_gu rfl ?_
            refine o_gu rfl ?_
            refine o_gu rfl ?_
            refine o_gu rfl ?_
            refine o_gu rfl ?_
            refine o_gn rfl q97 ?_
            refine o_pickf (b := (.bool false)) rfl q97 rfl ?_
            obtain rfl := Option.some.inj e16
            exact k27 _ _ ⟨_, _, Gw.refl _ _, s58, h334, h335, h336, h337, h338, h339, h340, h341, rfl⟩
          intro _ H49 i25
          obtain ⟨Z27, V27, g27, s60, h359, h360, h361, h362, h363, h364, h365, h366, h367⟩ := i25
          refine c_nil ?_
          refine c_if h367 (fun q103 => ?_) (fun q103 => ?_)
          · replace e13 := if_t q103 e13
            refine c_sr ?_
            refine o_mv (v := (.bool true)) rfl ?_
            refine c_nil ?_
            refine c_rt ?_
            have e18 := fin_r (k23 _ (Option.some.inj e13).symm) e12
            have e19 := fin_r (k19 _ (Option.some.inj e18).symm) e
            obtain rfl := Option.some.inj e19
            exact ⟨.inr rfl, _, (ar1 rfl), rfl, ((s60.pick [] rfl).weak (g1.trans (g2.trans (g12.trans (g20.trans (g21.trans (g23.trans (g25.trans g27))))))) hs.zv)⟩
          replace e13 := ib_f q103 e13
          refine c_sk ?_
          refine c_end ?_
          refine c_r ?_
          refine o_add h366 rfl ?_
          refine o_mv (v := (vi (Pu.W (x30 + 1)))) rfl ?_
          refine c_nil ?_
          exact k21 _ _ _ (Option.some.inj e13).symm ⟨(iv rfl (w_sucR q81 q85)), _, _, (g23.trans (g25.trans g27)), s60, h359, h360, h361, h362, h363, h364, h365⟩
        · obtain ⟨hte7, Z29, V29, g29, s62, h385, h386, h387, h388, h389, h390, h391⟩ := jd
          refine c_sr ?_
          refine o_lss hte7 h391 ?_
          refine c_nil ?_
          refine c_sq ?_
          refine c_iff rfl (ran_done _) ?_
          refine c_ex ?_
          refine e_c ?_
          refine e_c ?_
          refine e_h ?_
          exact k24 _ _ ⟨_, jf, _, _, g29, s62, h385, h386, h387, h388, h389, h390, h391⟩
      intro _ H46 i26
      obtain ⟨s56, f1, Z24, V24, g24, s57, h325, h326, h327, h328, h329, h330, h331⟩ := i26
      replace e12 := fin_o f1 e12
      refine c_end ?_
      refine c_r ?_
      refine o_add h330 rfl ?_
      refine o_mv (v := (vi (Pu.W (x28 + 1)))) rfl ?_
      refine c_nil ?_
      exact k17 _ _ _ (Option.some.inj e12).symm ⟨(iv rfl (w_sucR q75 q79)), _, _, (g21.trans g24), s57, h325, h326, h327, h329⟩
    · obtain ⟨hte6, Z30, V30, g30, s63, h392, h393, h394, h395⟩ := jd
      refine c_sr ?_
      refine o_lss hte6 h395 ?_
      refine c_nil ?_
      refine c_sq ?_
      refine c_iff rfl (ran_done _) ?_
      refine c_ex ?_
      refine e_c ?_
      refine e_c ?_
      refine e_h ?_
      exact k20 _ _ ⟨_, jf, _, _, g30, s63, h392, h393, h394, h395⟩
  intro _ H43 i27
  obtain ⟨s52, f2, Z22, V22, g22, s53, h314, h315, h316, h317⟩ := i27
  replace e := fin_o f2 e
  refine c_sr ?_
  refine o_mv (v := (.bool false)) rfl ?_
  refine c_nil ?_
  refine c_rt ?_
  obtain rfl := Option.some.inj e
  exact ⟨.inr rfl, _, (ar1 rfl), rfl, ((s53.pick [] rfl).weak (g1.trans (g2.trans (g12.trans (g20.trans g22)))) hs.zv)⟩
/-! lens_Greatest -/
structure Nd.lens_Greatest (T : FuncId → Option AFunc) : Prop where
  own : Has T I.lens_Greatest F.lens_Greatest
  gram_Check : Nd.gram_Check T
  lens_Greatest_1 : Nd.lens_Greatest_1 T
  lens_endless : Nd.lens_endless T
set_option maxHeartbeats 1000000 in
theorem X.lens_Greatest {T : FuncId → Option AFunc} (nd : Nd.lens_Greatest T) {φ : Nat} {Z V : PH} {H : Hp} {v1 : Value} {a0 : Ty.api_Grammar} (hs : Sat Z V H []) (hp1 : RdS Sh.api_Rule V v1 a0.Rules) {r : (Int × Int)} (e : P.lens_Greatest φ a0 = some r) :
    G T I.lens_Greatest [(.agg #[(vi a0.Terms), (vi a0.Nons), (vi a0.Start), v1])] H (fun rv H' => rv = (.tuple #[(vi r.1), (vi r.2)]) ∧ Sat Z V H' []) := by
  unfold P.lens_Greatest at e
  refine f_mk nd.own ?_
  refine c_sr ?_
  obtain ⟨d1, rfl⟩ := (hp1).val
  refine o_box hs rfl rfl fun b1 H1 s1 => ?_
  refine o_mv (v := (vi 0)) rfl ?_
  refine o_mv (v := (vi 0)) rfl ?_
  refine c_nil ?_
  refine c_sq ?_
  refine c_sr ?_
  refine o_ldB 0 s1 rfl rfl rfl rfl ?_
  obtain ⟨x1, q1, e⟩ := Pu.bind_some e
  obtain ⟨Z1, V1, W1, g1, u1, c1, c2, -, c4, c3⟩ := Sat.call (l1 := []) s1
  refine o_call (mc rfl m0) (X.gram_Check nd.gram_Check c1 (hp1.mono (g1.v.trans u1)) q1) fun _ H2 i1 => ?_
  obtain ⟨rfl, s2⟩ := i1
  have s3 := c3 _ _ s2
  refine o_mv (v := (vi x1)) rfl ?_
  refine c_nil ?_
  refine c_sr ?_
  refine o_mv (v := (vi x1)) rfl ?_
  refine o_neq rfl rfl ?_
  refine c_nil ?_
  refine c_ifd rfl (fun q2 => ?_) (fun q2 => ?_)
  · replace e := if_t q2 e
    refine c_sr ?_
    refine o_mv (v := (vi x1)) rfl ?_
    refine o_mv (v := (vi 0)) rfl ?_
    refine o_mv (v := (vi x1)) rfl ?_
    refine c_nil ?_
    refine c_gen (P := fun tm => tm 2 = (vi 0) ∧ tm 3 = (vi x1) ∧ True) ⟨rfl, rfl, trivial⟩ ?_
    intro _ i2
    obtain ⟨h1, h2, -⟩ := i2
    refine c_rt ?_
    obtain rfl := Option.some.inj e
    exact ⟨.inr rfl, _, (ar2 h1 h2), rfl, ((s3.pick [] rfl).weak g1 hs.zv)⟩
  replace e := if_f q2 e
  refine c_sk ?_
  refine c_sr ?_
  refine o_fad rfl ?_
  refine o_ldB 0 s3 rfl rfl rfl rfl ?_
  obtain ⟨x2, q3, e⟩ := Pu.bind_some e
  refine o_mks (s := Sh.int) s3 Sh.flat_lt rfl rfl rfl rfl q3 fun w1 H3 s4 => ?_
  refine o_new s4 fun b2 H4 s5 => ?_
  obtain ⟨d2, rfl⟩ := ((s5.curS (s := Sh.int) 1 rfl)).val
  refine o_stB (us' := [(.slice d2 x2.length x2.length)]) 0 s5 rfl rfl rfl rfl rfl rfl rfl fun H5 s6 => ?_
  refine c_nil ?_
  refine c_gen (P := fun tm => tm 1 = (.pointer (some ⟨b1, 0, none⟩)) ∧ tm 5 = (.pointer (some ⟨b2, 0, none⟩)) ∧ True) ⟨rfl, rfl, trivial⟩ ?_
  intro _ i3
  obtain ⟨h3, h4, -⟩ := i3
  refine c_sq ?_
  refine c_sr ?_
  refine o_ldB 0 s6 rfl h4 rfl rfl ?_
  refine o_len rfl ((s6.curS (s := Sh.int) 1 rfl)).len ?_
  refine o_mv (v := (vi 0)) rfl ?_
  refine c_nil ?_
  obtain ⟨x4, q6, e⟩ := Pu.bind_some e
  obtain ⟨rfl, q8⟩ := ranO_some q6
  obtain ⟨y1, q9, e⟩ := Pu.bind_some e
  refine c_bk ?_
  refine l_forP (xs := (Pu.ran (x2.length : Int))) (fun (i4 : Nat) (s7 : (List Int)) tm H => tm 18 = vi i4 ∧ ∃ (Z2 V2 : PH), Gw Z1 V1 Z2 V2 ∧ Sat Z2 V2 H [pts b1 (.rw 0 [(vi a0.Terms), (vi a0.Nons), (vi a0.Start), (.slice d1 a0.Rules.length a0.Rules.length)]), pts b2 (.rw 0 [(.slice d2 x2.length x2.length)]), It.sl Sh.int (.slice d2 x2.length x2.length) s7] ∧ tm 1 = (.pointer (some ⟨b1, 0, none⟩)) ∧ tm 5 = (.pointer (some ⟨b2, 0, none⟩)) ∧ tm 17 = (vi (x2.length : Int))) (fun i4 x3 s7 s9 tm H7 q4 q5 j1 e1 k1 => ?_) (fun tm H6 jd => ?_) q9 ⟨rfl, _, _, Gw.refl _ _, (s6.pick [2, 0, 1] rfl), h3, h4, rfl⟩
  · obtain ⟨hti0, Z2, V2, g2, s8, h5, h6, h7⟩ := j1
    unfold P.lens_Greatest.b0 at e1
    have hti0 := iv hti0 (ran_x q4).symm
    refine c_sr ?_
    refine o_lss hti0 h7 ?_
    refine c_nil ?_
    refine c_sq ?_
    refine c_ift rfl (ran_lt q4) ?_
    refine c_sk ?_
    refine c_sq ?_
    refine c_bk ?_
    refine c_sr ?_
    refine o_mv (v := (vi x3)) hti0 ?_
    refine o_mv (v := (vi x3)) rfl ?_
    refine c_nil ?_
    refine c_r ?_
    refine o_ldB 1 s8 rfl h6 rfl rfl ?_
    refine o_mv (v := (vi x3)) rfl ?_
    obtain ⟨x5, q10, e1⟩ := Pu.bind_some e1
    refine o_idx (v := (.slice d2 x2.length x2.length)) rfl rfl (s8.curS (s := Sh.int) 2 rfl) rfl q10 fun p1 q11 => ?_
    refine o_st 2 s8 rfl Sh.flat_lt rfl rfl rfl q11 q10 rfl rfl fun H8 s10 => ?_
    refine c_nil ?_
    refine c_end ?_
    refine c_r ?_
    refine o_add hti0 rfl ?_
    refine o_mv (v := (vi (Pu.W (x3 + 1)))) rfl ?_
    refine c_nil ?_
    obtain rfl := Option.some.inj e1
    exact k1 _ _ ⟨(iv rfl (w_sucR q4 q8)), _, _, g2, s10, h5, h6, h7⟩
  obtain ⟨hte0, Z3, V3, g3, s11, h8, h9, h10⟩ := jd
  refine c_sr ?_
  refine o_lss hte0 h10 ?_
  refine c_nil ?_
  refine c_sq ?_
  refine c_iff rfl (ran_done _) ?_
  refine c_ex ?_
  refine e_c ?_
  refine e_c ?_
  refine e_h ?_
  refine c_sr ?_
  refine o_mkfn (mc h8 (mc h9 m0)) ?_
  refine o_mv (v := (.func (.func I.lens_Greatest_1) #[] #[(.pointer (some ⟨b1, 0, none⟩)), (.pointer (some ⟨b2, 0, none⟩))])) rfl ?_
  refine c_nil ?_
  refine c_sq ?_
  obtain ⟨y2, q14, e⟩ := Pu.bind_some e
  refine c_jn (I := fun tm H => ∃ (s14 : (List Int)), y2 = .out s14 ∧ (∃ (Z5 V5 : PH) (w3 : Value), Gw Z3 V3 Z5 V5 ∧ Sat Z5 V5 H [pts b1 (.rw 0 [(vi a0.Terms), (vi a0.Nons), (vi a0.Start), (.slice d1 a0.Rules.length a0.Rules.length)]), pts b2 (.rw 0 [w3]), It.sl Sh.int w3 s14] ∧ tm 1 = (.pointer (some ⟨b1, 0, none⟩)) ∧ tm 5 = (.pointer (some ⟨b2, 0, none⟩)) ∧ tm 7 = (.func (.func I.lens_Greatest_1) #[] #[(.pointer (some ⟨b1, 0, none⟩)), (.pointer (some ⟨b2, 0, none⟩))]))) (fun k5 => ?_) ?_
  · refine c_bk ?_
    refine l_whl (fun (s12 : (List Int)) tm H => ∃ (Z4 V4 : PH) (w2 : Value), Gw Z3 V3 Z4 V4 ∧ Sat Z4 V4 H [pts b1 (.rw 0 [(vi a0.Terms), (vi a0.Nons), (vi a0.Start), (.slice d1 a0.Rules.length a0.Rules.length)]), pts b2 (.rw 0 [w2]), It.sl Sh.int w2 s12] ∧ tm 1 = (.pointer (some ⟨b1, 0, none⟩)) ∧ tm 5 = (.pointer (some ⟨b2, 0, none⟩)) ∧ tm 7 = (.func (.func I.lens_Greatest_1) #[] #[(.pointer (some ⟨b1, 0, none⟩)), (.pointer (some ⟨b2, 0, none⟩))])) (fun s12 y3 tm H11 j2 e2 k2 k3 k4 => ?_) q14 ⟨_, _, _, Gw.refl _ _, s11, h8, h9, rfl⟩
    obtain ⟨Z4, V4, w2, g4, s13, h11, h12, h13⟩ := j2
    unfold P.lens_Greatest.b1 at e2
    refine c_sq ?_
    refine c_sr ?_
    refine o_mv (v := (.func (.func I.lens_Greatest_1) #[] #[(.pointer (some ⟨b1, 0, none⟩)), (.pointer (some ⟨b2, 0, none⟩))])) h13 ?_
    obtain ⟨x7, q15, e2⟩ := Pu.bind_some e2
    obtain ⟨d3, rfl⟩ := ((s13.curS (s := Sh.int) 2 rfl)).val
    obtain ⟨Z6, V6, W2, g6, u2, c5, c6, -, c8, c7⟩ := Sat.call (l1 := [pts b1 (.rw 0 [(vi a0.Terms), (vi a0.Nons), (vi a0.Start), (.slice d1 a0.Rules.length a0.Rules.length)]), pts b2 (.rw 0 [(.slice d3 s12.length s12.length)]), It.sl Sh.int (.slice d3 s12.length s12.length) s12]) (l2 := []) s13
    refine o_callv rfl (mc rfl m0) (X.lens_Greatest_1 nd.lens_Greatest_1 (a1 := a0) (a2 := s12) c5 (hp1.mono (((g1.trans (g3.trans g4)).trans g6).v.trans u2)) q15) fun _ H13 i6 => ?_
    obtain ⟨w4, rfl, s16⟩ := i6
    have s17 := c7 _ _ s16
    refine c_nil ?_
    refine c_if rfl (fun q16 => ?_) (fun q16 => ?_)
    · replace e2 := if_t q16 e2
      refine c_sk ?_
      refine c_bk ?_
      refine c_sk ?_
      refine c_end ?_
      exact k2 _ _ _ (Option.some.inj e2).symm ⟨_, _, _, (g4.trans g6), s17, h11, h12, h13⟩
    replace e2 := ib_f q16 e2
    refine c_ex ?_
    refine e_c ?_
    refine e_c ?_
    refine e_h ?_
    exact k5 _ _ ⟨_, k3 _ (Option.some.inj e2).symm, _, _, _, (g4.trans g6), s17, h11, h12, h13⟩
  intro _ H12 i7
  obtain ⟨s14, f1, Z5, V5, w3, g5, s15, h14, h15, h16⟩ := i7
  replace e := fin_o f1 e
  refine c_sq ?_
  refine c_sr ?_
  refine o_ldB 0 s15 rfl h14 rfl rfl ?_
  obtain ⟨d4, rfl⟩ := ((s15.curS (s := Sh.int) 2 rfl)).val
  refine o_ldB 1 s15 rfl h15 rfl rfl ?_
  obtain ⟨x8, q17, e⟩ := Pu.bind_some e
  obtain ⟨Z7, V7, W3, g7, u3, c9, c10, -, c12, c11⟩ := Sat.call (l1 := []) s15
  refine o_call (mc rfl (mc rfl m0)) (X.lens_endless nd.lens_endless c9 (hp1.mono (((g1.trans (g3.trans g5)).trans g7).v.trans u3)) (c10 2 _ Sh.int _ _ rfl) q17) fun _ H14 i8 => ?_
  obtain ⟨rfl, s18⟩ := i8
  have s19 := c11 _ _ s18
  refine c_nil ?_
  refine c_if rfl (fun q18 => ?_) (fun q18 => ?_)
  · replace e := if_t q18 e
    refine c_sr ?_
    refine o_mv (v := (vi (-2))) rfl ?_
    refine o_mv (v := (vi 0)) rfl ?_
    refine c_nil ?_
    refine c_rt ?_
    obtain rfl := Option.some.inj e
    exact ⟨.inr rfl, _, (ar2 rfl rfl), rfl, ((s19.pick [] rfl).weak (g1.trans (g3.trans (g5.trans g7))) hs.zv)⟩
  replace e := ib_f q18 e
  refine c_sk ?_
  refine c_sq ?_
  refine c_sr ?_
  refine o_fad h14 ?_
  refine o_ldB 0 s19 rfl rfl rfl rfl ?_
  refine o_add rfl rfl ?_
  refine o_mv (v := (vi 0)) rfl ?_
  refine c_nil ?_
  obtain ⟨x10, q21, e⟩ := Pu.bind_some e
  obtain ⟨rfl, q23⟩ := ranO_some q21
  obtain ⟨y4, q24, e⟩ := Pu.bind_some e
  refine c_bk ?_
  refine l_forP (xs := (Pu.ran (Pu.W (a0.Nons + 1)))) (fun (i9 : Nat) (s20 : (List Int)) tm H => tm 34 = vi i9 ∧ ∃ (Z8 V8 : PH) (w5 : Value), Gw Z7 V7 Z8 V8 ∧ Sat Z8 V8 H [pts b1 (.rw 0 [(vi a0.Terms), (vi a0.Nons), (vi a0.Start), (.slice d1 a0.Rules.length a0.Rules.length)]), pts b2 (.rw 0 [w5]), It.sl Sh.int w5 s20] ∧ tm 1 = (.pointer (some ⟨b1, 0, none⟩)) ∧ tm 5 = (.pointer (some ⟨b2, 0, none⟩)) ∧ tm 7 = (.func (.func I.lens_Greatest_1) #[] #[(.pointer (some ⟨b1, 0, none⟩)), (.pointer (some ⟨b2, 0, none⟩))]) ∧ tm 33 = (vi (Pu.W (a0.Nons + 1)))) (fun i9 x9 s20 s22 tm H16 q19 q20 j3 e3 k6 => ?_) (fun tm H15 jd => ?_) q24 ⟨rfl, _, _, _, Gw.refl _ _, s19, h14, h15, h16, rfl⟩
  · obtain ⟨hti2, Z8, V8, w5, g8, s21, h17, h18, h19, h20⟩ := j3
    unfold P.lens_Greatest.b2 at e3
    have hti2 := iv hti2 (ran_x q19).symm
    refine c_sr ?_
    refine o_lss hti2 h20 ?_
    refine c_nil ?_
    refine c_sq ?_
    refine c_ift rfl (ran_lt q19) ?_
    refine c_sk ?_
    refine c_sq ?_
    refine c_bk ?_
    refine c_r ?_
    refine o_mv (v := (.func (.func I.lens_Greatest_1) #[] #[(.pointer (some ⟨b1, 0, none⟩)), (.pointer (some ⟨b2, 0, none⟩))])) h19 ?_
    obtain ⟨x11, q25, e3⟩ := Pu.bind_some e3
    obtain ⟨d5, rfl⟩ := ((s21.curS (s := Sh.int) 2 rfl)).val
    obtain ⟨Z9, V9, W4, g9, u4, c13, c14, -, c16, c15⟩ := Sat.call (l1 := [pts b1 (.rw 0 [(vi a0.Terms), (vi a0.Nons), (vi a0.Start), (.slice d1 a0.Rules.length a0.Rules.length)]), pts b2 (.rw 0 [(.slice d5 s20.length s20.length)]), It.sl Sh.int (.slice d5 s20.length s20.length) s20]) (l2 := []) s21
    refine o_callv rfl (mc rfl m0) (X.lens_Greatest_1 nd.lens_Greatest_1 (a1 := a0) (a2 := s20) c13 (hp1.mono (((g1.trans (g3.trans (g5.trans (g7.trans g8)))).trans g9).v.trans u4)) q25) fun _ H17 i10 => ?_
    obtain ⟨w6, rfl, s23⟩ := i10
    have s24 := c15 _ _ s23
    refine c_nil ?_
    refine c_end ?_
    refine c_r ?_
    refine o_add hti2 rfl ?_
    refine o_mv (v := (vi (Pu.W (x9 + 1)))) rfl ?_
    refine c_nil ?_
    obtain rfl := Option.some.inj e3
    exact k6 _ _ ⟨(iv rfl (w_sucR q19 q23)), _, _, _, (g8.trans g9), s24, h17, h18, h19, h20⟩
  obtain ⟨hte2, Z10, V10, w7, g10, s25, h21, h22, h23, h24⟩ := jd
  refine c_sr ?_
  refine o_lss hte2 h24 ?_
  refine c_nil ?_
  refine c_sq ?_
  refine c_iff rfl (ran_done _) ?_
  refine c_ex ?_
  refine e_c ?_
  refine e_c ?_
  refine e_h ?_
  refine c_sr ?_
  obtain ⟨d6, rfl⟩ := ((s25.curS (s := Sh.int) 2 rfl)).val
  refine o_ldB 1 s25 rfl h22 rfl rfl ?_
  refine o_fad h21 ?_
  refine o_ldB 0 s25 rfl rfl rfl rfl ?_
  obtain ⟨x12, q26, e⟩ := Pu.bind_some e
  refine o_idx (v := (.slice d6 y4.length y4.length)) rfl rfl (s25.curS (s := Sh.int) 2 rfl) rfl q26 fun p2 q27 => ?_
  refine o_ldi rfl (s25.curS (s := Sh.int) 2 rfl) (PH.le.refl _) q27 q26 ?_
  refine o_mv (v := (vi x12)) rfl ?_
  refine o_mv (v := (vi 0)) rfl ?_
  refine c_nil ?_
  refine c_rt ?_
  obtain rfl := Option.some.inj e
  exact ⟨.inr rfl, _, (ar2 rfl rfl), rfl, ((s25.pick [] rfl).weak (g1.trans (g3.trans (g5.trans (g7.trans g10)))) hs.zv)⟩
end Go.Proofs.Ythgdobdhdfjhfaa
