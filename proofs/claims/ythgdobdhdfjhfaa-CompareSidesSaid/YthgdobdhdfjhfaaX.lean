/- The abstract code comes to the plain functions: printed by wip/tools/lift.py. -/
import Derived.Test.YthgdobdhdfjhfaaP
import Derived.Test.YthgdobdhdfjhfaaGcmp
import Derived.Test.YthgdobdhdfjhfaaGcompare
import Derived.Test.YthgdobdhdfjhfaaGgram
import Derived.Test.YthgdobdhdfjhfaaGmean
import Derived.Test.YthgdobdhdfjhfaaGparlkeep5
import Derived.Test.YthgdobdhdfjhfaaGparlmake
import Derived.Test.YthgdobdhdfjhfaaGslices
namespace Go.Proofs.Ythgdobdhdfjhfaa
open Go Go.Ab
/-! parlmake_Below -/
structure Nd.parlmake_Below (T : FuncId → Option AFunc) : Prop where
  own : Has T I.parlmake_Below F.parlmake_Below
set_option maxHeartbeats 1000000 in
theorem X.parlmake_Below {T : FuncId → Option AFunc} (nd : Nd.parlmake_Below T) {Z V : PH} {H : Hp} {a0 : Int} {a1 : Int} (hs : Sat Z V H []) {r : Int} (e : P.parlmake_Below a0 a1 = some r) :
    G T I.parlmake_Below [vi a0, vi a1] H (fun rv H' => rv = (vi r) ∧ Sat Z V H' []) := by
 unfold P.parlmake_Below at e
 refine f_mk nd.own ?_
 refine c_sr ?_
 refine o_mv (v := (vi 0)) rfl ?_
 refine c_nil (c_sr ?_)
 refine o_mv (v := (vi a0)) rfl ?_
 refine o_mv (v := (vi a1)) rfl ?_
 obtain ⟨x1, q1, e⟩ := oB e
 refine o_rem rfl rfl q1 ?_
 refine o_mv (v := (vi x1)) rfl ?_
 refine c_nil (c_sq (c_sr ?_))
 refine o_mv (v := (vi x1)) rfl ?_
 refine o_lss rfl rfl (c_nil ?_)
 obtain ⟨y1, e1, e⟩ := oB e
 refine c_jn (I := fun tm H => ∃ (Z1 V1 : PH), Gw Z V Z1 V1 ∧ Sat Z1 V1 H [] ∧ tm 0 = (vi y1)) (fun k1 => ?_) ?_
 ·refine c_ifd rfl (fun q2 => ?_) (fun q2 => ?_)
  ·replace e1 := if_t q2 e1
   refine c_r ?_
   refine o_mv (v := (vi x1)) rfl ?_
   refine o_mv (v := (vi a1)) rfl ?_
   refine o_add rfl rfl ?_
   refine o_mv (v := (vi (Pu.W (x1 + a1)))) rfl ?_
   refine c_nil ?_
   obtain rfl := oJ e1
   exact k1 _ _ ⟨_, _, Gw.refl _ _, hs, rfl⟩
  replace e1 := if_f q2 e1
  refine c_sk ?_
  obtain rfl := oJ e1
  exact k1 _ _ ⟨_, _, Gw.refl _ _, hs, rfl⟩
 intro _ H1 i1
 obtain ⟨Z1, V1, g1, s1, h1⟩ := i1
 refine c_sr (o_mv h1 ?_)
 refine o_mv (v := (vi y1)) rfl ?_
 refine c_nil (c_rt ?_)
 obtain rfl := oJ e
 exact ⟨.inr rfl, _, (ar1 rfl), rfl, (s1.weak g1 hs.zv)⟩
/-! parlmake_stream_next -/
structure Nd.parlmake_stream_next (T : FuncId → Option AFunc) : Prop where
  own : Has T I.parlmake_stream_next F.parlmake_stream_next
  parlmake_Below : Nd.parlmake_Below T
set_option maxHeartbeats 1000000 in
theorem X.parlmake_stream_next {T : FuncId → Option AFunc} (nd : Nd.parlmake_stream_next T) {Z V : PH} {H : Hp} {v1 : Value} {o1 : Nat} {a0 : Ty.parlmake_stream} {a1 : Int} (hs : Sat Z V H [pts o1 (.rw 0 [v1])]) (hp1 : RdS Sh.int Z v1 a0.l) {r : (Ty.parlmake_stream × Int)} (e : P.parlmake_stream_next a0 a1 = some r) :
    G T I.parlmake_stream_next [(pV o1 0), vi a1] H (fun rv H' => ∃ (u1 : Value), rv = (vi r.2) ∧ Sat Z V H' [pts o1 (.rw 0 [u1]), Sh.it (Sh.ro sI1) [u1] r.1.l]) := by
 unfold P.parlmake_stream_next at e
 refine f_mk nd.own ?_
 refine c_sr ?_
 refine o_mv (v := (vi 0)) rfl ?_
 refine c_nil (c_sq (c_sr ?_))
 refine o_mv (v := (pV o1 0)) rfl ?_
 refine o_nck rfl (o_fad rfl ?_)
 obtain ⟨d1, rfl⟩ := (hp1).val
 refine o_ldB 0 hs rfl rfl rfl rfl (o_len rfl (hp1).len (o_eql rfl rfl (c_nil ?_)))
 refine c_ifd rfl (fun q1 => ?_) (fun q1 => ?_)
 ·replace e := if_t q1 e
  refine c_sr ?_
  refine o_mv (v := (vi 0)) rfl ?_
  refine c_nil (c_rt ?_)
  obtain rfl := oJ e
  exact ⟨.inr rfl, _, (ar1 rfl), _, rfl, ((hs.push (ro_it (sl_ro hp1))).pick [1, 0] rfl)⟩
 replace e := if_f q1 e
 refine c_sk (c_sr ?_)
 refine o_mv (v := (pV o1 0)) rfl ?_
 refine o_nck rfl (o_fad rfl (o_ldB 0 hs rfl rfl rfl rfl ?_))
 obtain ⟨x1, q2, e⟩ := oB e
 refine o_idx (v := (vS d1 a0.l)) rfl rfl hp1 rfl q2 fun p1 q3 => ?_
 refine o_ldi rfl hp1 hs.z q3 q2 ?_
 refine o_mv (v := (vi x1)) rfl ?_
 refine c_nil ?_
 refine c_gen (P := fun tm => tm 0 = (pV o1 0) ∧ tm 1 = (vi a1) ∧ tm 5 = (vi x1) ∧ True) ⟨rfl, rfl, rfl, trivial⟩ ?_
 intro _ i1
 obtain ⟨h1, h2, h3, -⟩ := i1
 refine c_sr (o_mv h1 (o_mv h1 (o_nck rfl (o_fad rfl ?_))))
 refine o_ldB 0 hs rfl rfl rfl rfl ?_
 obtain ⟨x2, q4, e⟩ := oB e
 refine o_slcl rfl rfl hp1 hs.z rfl q4 fun w1 h4 => ?_
 refine o_nck rfl (o_fad rfl ?_)
 obtain ⟨d2, rfl⟩ := (h4).val
 refine o_stB (us' := [(vS d2 x2)]) 0 hs rfl rfl rfl rfl rfl rfl rfl fun H1 s1 => ?_
 refine c_nil (c_sr (o_mv h3 (o_mv h2 ?_)))
 obtain ⟨x3, q5, e⟩ := oB e
 obtain ⟨Z1, V1, W1, g1, u1, c1, c2, -, c4, c3⟩ := Sat.call (l1 := []) s1
 refine o_call (mc rfl (mc rfl m0)) (X.parlmake_Below nd.parlmake_Below c1 q5) fun _ H2 i2 => ?_
 obtain ⟨rfl, s2⟩ := i2
 have s3 := c3 _ _ s2
 refine o_mv (v := (vi x3)) rfl ?_
 refine c_nil ?_
 refine c_gen (P := fun tm => tm 4 = (vi x3) ∧ True) ⟨rfl, trivial⟩ ?_
 intro _ i3
 obtain ⟨h5, -⟩ := i3
 refine c_rt ?_
 obtain rfl := oJ e
 exact ⟨.inr rfl, _, (ar1 h5), _, rfl, (((s3.push (ro_it (sl_ro (h4.mono g1.z)))).pick [1, 0] rfl).weak g1 hs.zv)⟩
/-! parlmake_has -/
structure Nd.parlmake_has (T : FuncId → Option AFunc) : Prop where
  own : Has T I.parlmake_has F.parlmake_has
set_option maxHeartbeats 1000000 in
theorem X.parlmake_has {T : FuncId → Option AFunc} (nd : Nd.parlmake_has T) {Z V : PH} {H : Hp} {v1 : Value} {v2 : Value} {a0 : (List Ty.api_Rule)} {a1 : Ty.api_Rule} (hs : Sat Z V H []) (hp1 : RdS Sh.api_Rule V v1 a0) (hp2 : RdS Sh.api_Sym V v2 a1.Right) {r : Bool} (e : P.parlmake_has a0 a1 = some r) :
    G T I.parlmake_has [v1, (.agg #[vi a1.Left, v2])] H (fun rv H' => rv = (.bool r) ∧ Sat Z V H' []) := by
 unfold P.parlmake_has at e
 refine f_mk nd.own ?_
 refine c_sr ?_
 obtain ⟨d1, rfl⟩ := (hp2).val
 refine o_box hs rfl rfl fun b1 H1 s1 => ?_
 refine o_mv (v := (.bool false)) rfl ?_
 refine c_nil (c_sq (c_sr ?_))
 refine o_mv (v := v1) rfl ?_
 refine o_len rfl (hp1).len ?_
 refine o_mv (v := (vi 0)) rfl ?_
 refine c_nil ?_
 obtain ⟨y1, q3, e⟩ := oB e
 refine c_jn (I := fun tm H => ∃ (s4 : Unit), y1 = .out s4 ∧ (∃ (Z2 V2 : PH), Gw Z V Z2 V2 ∧ Sat Z2 V2 H [pts b1 (.rw 0 [vi a1.Left, (vS d1 a1.Right)])] ∧ tm 3 = (pV b1 0) ∧ tm 9 = v1 ∧ tm 10 = (vN a0))) (fun k4 => ?_) ?_
 ·refine c_bk ?_
  refine l_forL (xs := a0) (fun (i1 : Nat) (s2 : Unit) tm H => tm 11 = vi i1 ∧ ∃ (Z1 V1 : PH), Gw Z V Z1 V1 ∧ Sat Z1 V1 H [pts b1 (.rw 0 [vi a1.Left, (vS d1 a1.Right)])] ∧ tm 3 = (pV b1 0) ∧ tm 9 = v1 ∧ tm 10 = (vN a0)) (fun i1 x1 s2 y2 tm H3 q1 q2 j1 e1 k1 k2 k3 => ?_) (fun s2 tm H2 jf jd => ?_) q3 ⟨rfl, _, _, Gw.refl _ _, s1, rfl, rfl, rfl⟩
  ·obtain ⟨hti0, Z1, V1, g1, s3, h1, h2, h3⟩ := j1
   unfold P.parlmake_has.b0 at e1
   refine c_sr (o_lss hti0 h3 (c_nil (c_sq ?_)))
   refine c_ift rfl (Int.ofNat_lt.2 q2) ?_
   refine c_sk (c_sq (c_bk (c_sr ?_)))
   refine o_idx (v := v1) h2 hti0 (hp1.mono g1.v) rfl (Pu.ix_nat.trans q1) fun p1 q4 => ?_
   refine o_lda rfl (hp1.mono g1.v) s3.v rfl q4 (Pu.ix_nat.trans q1) fun c1 h7 => ?_
   obtain ⟨w1, rfl, h8⟩ := Sh.api_Rule_op h7
   refine o_new s3 fun b2 H5 s6 => ?_
   obtain ⟨d2, rfl⟩ := (h8).val
   refine o_stB (us' := [vi x1.Left, (vS d2 x1.Right)]) 0 s6 rfl rfl rfl rfl rfl rfl rfl fun H6 s7 => ?_
   refine c_nil (c_sq (c_sr (o_fad rfl (o_ldB 0 s7 rfl rfl rfl rfl ?_))))
   refine o_fad h1 (o_ldB 1 s7 rfl rfl rfl rfl (o_neq rfl rfl ?_))
   refine o_mv (v := (.bool (decide (x1.Left ≠ a1.Left)))) rfl ?_
   refine o_jn 8 (I := fun tm H => tm 28 = .bool ((decide (x1.Left ≠ a1.Left)) || (decide ((x1.Right.length : Int) ≠ (a1.Right.length : Int)))) ∧ (∃ (Z3 V3 : PH), Gw Z1 V1 Z3 V3 ∧ Sat Z3 V3 H [pts b1 (.rw 0 [vi a1.Left, (vS d1 a1.Right)]), pts b2 (.rw 0 [vi x1.Left, (vS d2 x1.Right)])] ∧ tm 3 = (pV b1 0) ∧ tm 6 = (pV b2 0) ∧ tm 9 = v1 ∧ tm 10 = (vN a0) ∧ tm 11 = (vJ i1))) (fun k5 => ?_) ?_
   ·rcases Bool.eq_false_or_eq_true (decide (x1.Left ≠ a1.Left)) with q5 | q5
    ·refine o_gn rfl q5 (o_gn rfl q5 (o_gn rfl q5 (o_gn rfl q5 (o_gn rfl q5 ?_))))
     refine o_gn rfl q5 (o_gn rfl q5 ?_)
     refine o_pickt (a := (.bool true)) rfl q5 rfl ?_
     exact k5 _ _ ⟨gf rfl (by first | (rw [q5]; first | done | rfl) | simp [q5]), _, _, Gw.refl _ _, (s7.pick [1, 0] rfl), h1, rfl, h2, h3, hti0⟩
    refine o_gy rfl q5 (o_fad rfl (o_gy rfl q5 (o_ldB 0 s7 rfl rfl rfl rfl (o_gy rfl q5 ?_))))
    refine o_len rfl (h8).len (o_gy rfl q5 (o_fad h1 (o_gy rfl q5 (o_ldB 1 s7 rfl rfl rfl rfl ?_))))
    refine o_gy rfl q5 (o_len rfl ((hp2.mono g1.v)).len (o_gy rfl q5 (o_neq rfl rfl ?_)))
    refine o_pickf (b := (.bool (decide ((x1.Right.length : Int) ≠ (a1.Right.length : Int))))) rfl q5 rfl ?_
    exact k5 _ _ ⟨gf rfl (by first | (rw [q5]; first | done | rfl) | simp [q5]), _, _, Gw.refl _ _, (s7.pick [1, 0] rfl), h1, rfl, h2, h3, hti0⟩
   intro _ H7 i2
   obtain ⟨h14, Z3, V3, g3, s8, h9, h10, h11, h12, h13⟩ := i2
   refine c_nil ?_
   refine c_if h14 (fun q6 => ?_) (fun q6 => ?_)
   ·replace e1 := if_t q6 e1
    refine c_ex ?_
    refine e_c ?_
    refine e_h ?_
    refine c_r (o_add h13 rfl ?_)
    refine o_mv (v := (vi (Pu.W ((i1 : Int) + 1)))) rfl ?_
    refine c_nil ?_
    exact k1 _ _ _ (sJ e1) ⟨(iv rfl (w_suc q2 (hp1).bd)), _, _, (g1.trans g3), (s8.pick [0] rfl), h9, h11, h12⟩
   replace e1 := ib_f q6 e1
   refine c_sk (c_sr ?_)
   refine o_mv (v := (.bool true)) rfl ?_
   refine c_nil (c_sq (c_sr (o_fad h10 (o_ldB 1 s8 rfl rfl rfl rfl ?_))))
   refine o_len rfl ((h8.mono g3.v)).len ?_
   refine o_mv (v := (vi 0)) rfl ?_
   refine c_nil ?_
   obtain ⟨x3, q9, e1⟩ := oB e1
   obtain ⟨rfl, q11⟩ := ranO_some q9
   obtain ⟨y3, q12, e1⟩ := oB e1
   refine c_bk ?_
   refine l_forP (xs := (Pu.ran (x1.Right.length : Int))) (fun (i3 : Nat) (s9 : Bool) tm H => tm 32 = vi i3 ∧ ∃ (Z4 V4 : PH), Gw Z3 V3 Z4 V4 ∧ Sat Z4 V4 H [pts b1 (.rw 0 [vi a1.Left, (vS d1 a1.Right)]), pts b2 (.rw 0 [vi x1.Left, (vS d2 x1.Right)])] ∧ tm 3 = (pV b1 0) ∧ tm 6 = (pV b2 0) ∧ tm 7 = (.bool s9) ∧ tm 9 = v1 ∧ tm 10 = (vN a0) ∧ tm 11 = (vJ i1) ∧ tm 31 = (vN x1.Right)) (fun i3 x2 s9 s11 tm H9 q7 q8 j2 e2 k6 => ?_) (fun tm H8 jd => ?_) q12 ⟨rfl, _, _, Gw.refl _ _, s8, h9, h10, rfl, h11, h12, h13, rfl⟩
   ·obtain ⟨hti1, Z4, V4, g4, s10, h15, h16, h17, h18, h19, h20, h21⟩ := j2
    unfold P.parlmake_has.b1 at e2
    have hti1 := iv hti1 (ran_x q7).symm
    refine c_sr (o_lss hti1 h21 (c_nil (c_sq ?_)))
    refine c_ift rfl (ran_lt q7) ?_
    refine c_sk (c_sq (c_bk (c_sr (o_mv hti1 ?_))))
    refine o_mv (v := (vi x2)) rfl ?_
    refine c_nil ?_
    refine d_start s10 fun n1 H10 s12 q13 d3 => ?_
    refine d_mv h17 ?_
    refine d_mv (v := (.bool s9)) rfl ?_
    obtain ⟨y4, e3, e2⟩ := oB e2
    refine d_jn 12 (I := fun tm H => DD n1 14 (List.length F.parlmake_has.r9) H ∧ (∃ (Z5 V5 : PH), Gw Z4 V4 Z5 V5 ∧ Sat Z5 V5 H [pts b1 (.rw 0 [vi a1.Left, (vS d1 a1.Right)]), pts b2 (.rw 0 [vi x1.Left, (vS d2 x1.Right)])] ∧ tm 3 = (pV b1 0) ∧ tm 6 = (pV b2 0) ∧ tm 9 = v1 ∧ tm 10 = (vN a0) ∧ tm 11 = (vJ i1) ∧ tm 31 = (vN x1.Right) ∧ tm 32 = (vi x2) ∧ tm 48 = (.bool y4))) (fun k7 => ?_) ?_
    ·rcases Bool.eq_false_or_eq_true s9 with q14 | q14
     ·replace e3 := if_t q14 e3
      refine d_want rfl q14 ?_
      refine d_fad h16 ?_
      refine d_want rfl q14 ?_
      refine d_ldB (q13 _ _ (ph_some.2 ⟨s12.curB 1 rfl, by simp⟩)) 1 s12 rfl rfl rfl rfl ?_
      refine d_want rfl q14 ?_
      refine d_mv (v := (vi x2)) rfl ?_
      refine d_want rfl q14 ?_
      obtain ⟨x4, q15, e3⟩ := oB e3
      refine d_idx (v := (vS d2 x1.Right)) rfl rfl (h8.mono (g3.trans g4).v) rfl q15 fun p2 q16 => ?_
      refine d_want rfl q14 ?_
      refine d_lda (RdS.low (h8.mono (g3.trans g4).v) s12.v q13) rfl h8 ((g3.trans g4).v.trans s12.v) rfl q16 q15 fun c2 h30 => ?_
      obtain rfl := h30
      refine d_want rfl q14 ?_
      refine d_fad h15 ?_
      refine d_want rfl q14 ?_
      refine d_ldB (q13 _ _ (ph_some.2 ⟨s12.curB 0 rfl, by simp⟩)) 0 s12 rfl rfl rfl rfl ?_
      refine d_want rfl q14 ?_
      refine d_mv (v := (vi x2)) rfl ?_
      refine d_want rfl q14 ?_
      obtain ⟨x5, q17, e3⟩ := oB e3
      refine d_idx (v := (vS d1 a1.Right)) rfl rfl (hp2.mono (g1.trans (g3.trans g4)).v) rfl q17 fun p3 q18 => ?_
      refine d_want rfl q14 ?_
      refine d_lda (RdS.low (hp2.mono (g1.trans (g3.trans g4)).v) s12.v q13) rfl hp2 ((g1.trans (g3.trans g4)).v.trans s12.v) rfl q18 q17 fun c3 h31 => ?_
      obtain rfl := h31
      refine d_want rfl q14 ?_
      refine d_eq (q_api_Sym ..) rfl rfl ?_
      refine d_pickt (a := (.bool ((x4.Term == x5.Term) && (x4.N == x5.N)))) rfl q14 rfl ?_
      obtain rfl := oJ e3
      exact k7 _ _ _ ⟨d3.up rfl, _, _, Gw.refl _ _, s12, h15, h16, h18, h19, h20, h21, hti1, rfl⟩
     replace e3 := ib_f q14 e3
     refine d_gn rfl q14 ?_
     refine d_gn rfl q14 ?_
     refine d_gn rfl q14 ?_
     refine d_gn rfl q14 ?_
     refine d_gn rfl q14 ?_
     refine d_gn rfl q14 ?_
     refine d_gn rfl q14 ?_
     refine d_gn rfl q14 ?_
     refine d_gn rfl q14 ?_
     refine d_gn rfl q14 ?_
     refine d_gn rfl q14 ?_
     refine d_pickf (b := (.bool false)) rfl q14 rfl ?_
     obtain rfl := oJ e3
     exact k7 _ _ _ ⟨d3.up rfl, _, _, Gw.refl _ _, s12, h15, h16, h18, h19, h20, h21, hti1, rfl⟩
    intro _ H11 _ i4
    obtain ⟨d4, Z5, V5, g5, s13, h22, h23, h24, h25, h26, h27, h28, h29⟩ := i4
    refine d_mv h29 ?_
    refine d_nil dc_nil ?_
    refine c_end (c_r (o_add h28 rfl ?_))
    refine o_mv (v := (vi (Pu.W (x2 + 1)))) rfl ?_
    refine c_nil ?_
    obtain rfl := oJ e2
    exact k6 _ _ ⟨(iv rfl (w_sucR q7 q11)), _, _, (g4.trans g5), s13, h22, h23, rfl, h24, h25, h26, h27⟩
   obtain ⟨hte1, Z6, V6, g6, s14, h32, h33, h34, h35, h36, h37, h38⟩ := jd
   refine c_sr (o_lss hte1 h38 (c_nil (c_sq ?_)))
   refine c_iff rfl (ran_done _) ?_
   refine c_ex ?_
   refine e_c ?_
   refine e_c ?_
   refine e_h ?_
   refine c_sr (o_mv h34 (c_nil ?_))
   refine c_if rfl (fun q19 => ?_) (fun q19 => ?_)
   ·replace e1 := if_t q19 e1
    refine c_sr ?_
    refine o_mv (v := (.bool true)) rfl ?_
    refine c_nil (c_rt ?_)
    have e4 := fin_r (k3 _ (sJ e1)) e
    obtain rfl := oJ e4
    exact ⟨.inr rfl, _, (ar1 rfl), rfl, ((s14.pick [] rfl).weak (g1.trans (g3.trans g6)) hs.zv)⟩
   replace e1 := ib_f q19 e1
   refine c_sk (c_end (c_r (o_add h37 rfl ?_)))
   refine o_mv (v := (vi (Pu.W ((i1 : Int) + 1)))) rfl ?_
   refine c_nil ?_
   exact k1 _ _ _ (sJ e1) ⟨(iv rfl (w_suc q2 (hp1).bd)), _, _, (g1.trans (g3.trans g6)), (s14.pick [0] rfl), h32, h35, h36⟩
  ·obtain ⟨hte0, Z7, V7, g7, s15, h39, h40, h41⟩ := jd
   refine c_sr (o_lss hte0 h41 (c_nil (c_sq ?_)))
   refine c_iff rfl (Int.lt_irrefl _) ?_
   refine c_ex ?_
   refine e_c ?_
   refine e_c ?_
   refine e_h ?_
   exact k4 _ _ ⟨_, jf, _, _, g7, s15, h39, h40, h41⟩
 intro _ H4 i5
 obtain ⟨s4, f1, Z2, V2, g2, s5, h4, h5, h6⟩ := i5
 replace e := fin_o f1 e
 refine c_sr ?_
 refine o_mv (v := (.bool false)) rfl ?_
 refine c_nil (c_rt ?_)
 obtain rfl := oJ e
 exact ⟨.inr rfl, _, (ar1 rfl), rfl, ((s5.pick [] rfl).weak g2 hs.zv)⟩
/-! parlmake_Grammar -/
structure Nd.parlmake_Grammar (T : FuncId → Option AFunc) : Prop where
  own : Has T I.parlmake_Grammar F.parlmake_Grammar
  parlmake_stream_next : Nd.parlmake_stream_next T
  parlmake_has : Nd.parlmake_has T
set_option maxHeartbeats 1000000 in
theorem X.parlmake_Grammar {T : FuncId → Option AFunc} (nd : Nd.parlmake_Grammar T) {Z V : PH} {H : Hp} {v1 : Value} {a0 : (List Int)} (hs : Sat Z V H []) (hp1 : RdS Sh.int Z v1 a0) {r : Ty.api_Grammar} (e : P.parlmake_Grammar a0 = some r) :
    G T I.parlmake_Grammar [v1] H (fun rv H' => ∃ (u1 : Value), rv = (.agg #[vi r.Terms, vi r.Nons, vi r.Start, u1]) ∧ Sat Z V H' [It.sl (Sh.ro Sh.api_Rule) u1 r.Rules]) := by
 unfold P.parlmake_Grammar at e
 refine f_mk nd.own ?_
 refine c_sr ?_
 refine o_new hs fun b1 H1 s1 => ?_
 refine c_nil (c_sr ?_)
 refine o_mv (v := v1) rfl ?_
 obtain ⟨d1, rfl⟩ := (hp1).val
 refine o_bld (qs := [(0, 1, (vS d1 a0))]) rfl rfl ?_
 refine o_box s1 rfl rfl fun b2 H2 s2 => ?_
 refine o_mv (v := (pV b2 0)) rfl ?_
 refine c_nil (c_sr ?_)
 refine o_mv (v := (pV b2 0)) rfl ?_
 obtain ⟨x1, q1, e⟩ := oB e
 obtain ⟨Z1, V1, W1, g1, u1, c1, c2, -, c4, c3⟩ := Sat.call (l1 := [pts b2 (.rw 0 [(vS d1 a0)])]) (l2 := [pts b1 (.rw 0 [vi 0, vi 0, vi 0, (.slice none 0 0)])]) s2
 refine o_call (mc rfl (mc rfl m0)) (X.parlmake_stream_next nd.parlmake_stream_next (a0 := (Ty.parlmake_stream.mk a0)) c1 (hp1.mono g1.z) q1) fun _ H3 i1 => ?_
 obtain ⟨w1, rfl, s3⟩ := i1
 have s4 := c3 _ _ s3
 obtain ⟨Z2, V2, g2, s5, h1⟩ := (s4.pull 1 rfl).frzR
 refine o_add rfl rfl ?_
 refine o_mv (v := (pV b2 0)) rfl ?_
 obtain ⟨x2, q2, e⟩ := oB e
 obtain ⟨d2, rfl⟩ := (h1).val
 obtain ⟨Z3, V3, W2, g3, u2, c5, c6, -, c8, c7⟩ := Sat.call (l1 := [pts b2 (.rw 0 [(vS d2 x1.1.l)])]) (l2 := [pts b1 (.rw 0 [vi 0, vi 0, vi 0, (.slice none 0 0)])]) s5
 refine o_call (mc rfl (mc rfl m0)) (X.parlmake_stream_next nd.parlmake_stream_next (a0 := x1.1) c5 (h1.mono g3.z) q2) fun _ H4 i2 => ?_
 obtain ⟨w2, rfl, s6⟩ := i2
 have s7 := c7 _ _ s6
 obtain ⟨Z4, V4, g4, s8, h2⟩ := (s7.pull 1 rfl).frzR
 refine o_add rfl rfl ?_
 refine o_bld (qs := [(0, 1, (vi (Pu.W (1 + x1.2)))), (1, 1, (vi (Pu.W (1 + x2.2))))]) rfl rfl ?_
 refine o_new s8 fun b3 H5 s9 => ?_
 refine o_stB (us' := [(vi (Pu.W (1 + x1.2))), (vi (Pu.W (1 + x2.2))), vi 0, (.slice none 0 0)]) 0 s9 rfl rfl rfl rfl rfl rfl rfl fun H6 s10 => ?_
 refine c_nil ?_
 refine c_gen (P := fun tm => tm 2 = (pV b1 0) ∧ tm 3 = (pV b2 0) ∧ tm 4 = (pV b3 0) ∧ True) ⟨rfl, rfl, rfl, trivial⟩ ?_
 intro _ i3
 obtain ⟨h3, h4, h5, -⟩ := i3
 refine c_sr (o_mv h4 (o_fad h5 (o_ldB 0 s10 rfl rfl rfl rfl ?_)))
 obtain ⟨x3, q3, e⟩ := oB e
 obtain ⟨d3, rfl⟩ := (h2).val
 obtain ⟨Z5, V5, W3, g5, u3, c9, c10, -, c12, c11⟩ := Sat.call (l1 := [pts b2 (.rw 0 [(vS d3 x2.1.l)])]) (l2 := [pts b3 (.rw 0 [(vi (Pu.W (1 + x1.2))), (vi (Pu.W (1 + x2.2))), vi 0, (.slice none 0 0)]), pts b1 (.rw 0 [vi 0, vi 0, vi 0, (.slice none 0 0)])]) (s10.pick [1, 0, 2] rfl)
 refine o_call (mc rfl (mc rfl m0)) (X.parlmake_stream_next nd.parlmake_stream_next (a0 := x2.1) c9 (h2.mono g5.z) q3) fun _ H7 i4 => ?_
 obtain ⟨w3, rfl, s11⟩ := i4
 have s12 := c11 _ _ s11
 obtain ⟨Z6, V6, g6, s13, h6⟩ := (s12.pull 1 rfl).frzR
 refine o_fad h5 ?_
 refine o_stB (us' := [(vi (Pu.W (1 + x1.2))), (vi (Pu.W (1 + x2.2))), vi x3.2, (.slice none 0 0)]) 1 s13 rfl rfl rfl rfl rfl rfl rfl fun H8 s14 => ?_
 refine c_nil (c_sq (c_sr (o_mv h4 ?_)))
 obtain ⟨x4, q4, e⟩ := oB e
 obtain ⟨d4, rfl⟩ := (h6).val
 obtain ⟨Z7, V7, W4, g7, u4, c13, c14, -, c16, c15⟩ := Sat.call (l1 := [pts b2 (.rw 0 [(vS d4 x3.1.l)])]) (l2 := [pts b3 (.rw 0 [(vi (Pu.W (1 + x1.2))), (vi (Pu.W (1 + x2.2))), vi x3.2, (.slice none 0 0)]), pts b1 (.rw 0 [vi 0, vi 0, vi 0, (.slice none 0 0)])]) s14
 refine o_call (mc rfl (mc rfl m0)) (X.parlmake_stream_next nd.parlmake_stream_next (a0 := x3.1) c13 (h6.mono g7.z) q4) fun _ H9 i5 => ?_
 obtain ⟨w4, rfl, s15⟩ := i5
 have s16 := c15 _ _ s15
 obtain ⟨Z8, V8, g8, s17, h7⟩ := (s16.pull 1 rfl).frzR
 refine o_add rfl rfl ?_
 refine o_mv (v := (vi 0)) rfl ?_
 refine c_nil ?_
 obtain ⟨x6, q7, e⟩ := oB e
 obtain ⟨rfl, q9⟩ := ranO_some q7
 obtain ⟨y1, q10, e⟩ := oB e
 refine c_bk ?_
 refine l_forP (xs := (Pu.ran (Pu.W (1 + x4.2)))) (fun (i6 : Nat) (s18 : ((List Int) × (List Ty.api_Rule))) tm H => tm 24 = vi i6 ∧ ∃ (Z9 V9 : PH) (w5 : Value) (w6 : Value), Gw Z8 V8 Z9 V9 ∧ Sat Z9 V9 H [pts b1 (.rw 0 [vi 0, vi 0, vi 0, (.slice none 0 0)]), pts b2 (.rw 0 [w6]), pts b3 (.rw 0 [(vi (Pu.W (1 + x1.2))), (vi (Pu.W (1 + x2.2))), vi x3.2, w5]), It.sl (Sh.ro Sh.api_Rule) w5 s18.2] ∧ tm 2 = (pV b1 0) ∧ tm 3 = (pV b2 0) ∧ tm 4 = (pV b3 0) ∧ tm 23 = (vi (Pu.W (1 + x4.2))) ∧ RdS Sh.int Z9 w6 s18.1) (fun i6 x5 s18 s20 tm H11 q5 q6 j1 e1 k1 => ?_) (fun tm H10 jd => ?_) q10 ⟨rfl, _, _, _, _, Gw.refl _ _, ((s17.push (sl_nil (s := (Sh.ro Sh.api_Rule)))).pick [3, 1, 2, 0] rfl), h3, h4, h5, rfl, h7⟩
 ·obtain ⟨hti0, Z9, V9, w5, w6, g9, s19, h9, h10, h11, h12, h8⟩ := j1
  unfold P.parlmake_Grammar.b0 at e1
  have hti0 := iv hti0 (ran_x q5).symm
  refine c_sr (o_lss hti0 h12 (c_nil (c_sq ?_)))
  refine c_ift rfl (ran_lt q5) ?_
  refine c_sk (c_sq (c_bk (c_sr (o_mv h10 ?_))))
  refine o_fad h11 ?_
  obtain ⟨d5, rfl⟩ := ((s19.curS (s := (Sh.ro Sh.api_Rule)) 3 rfl)).val
  refine o_ldB 2 s19 rfl rfl rfl rfl ?_
  obtain ⟨x7, q11, e1⟩ := oB e1
  obtain ⟨d6, rfl⟩ := (h8).val
  obtain ⟨Z10, V10, W5, g10, u5, c17, c18, -, c20, c19⟩ := Sat.call (l1 := [pts b2 (.rw 0 [(vS d6 s18.1)])]) (l2 := [pts b1 (.rw 0 [vi 0, vi 0, vi 0, (.slice none 0 0)]), pts b3 (.rw 0 [(vi (Pu.W (1 + x1.2))), (vi (Pu.W (1 + x2.2))), vi x3.2, (vS d5 s18.2)]), It.sl (Sh.ro Sh.api_Rule) (vS d5 s18.2) s18.2]) (s19.pick [1, 0, 2, 3] rfl)
  refine o_call (mc rfl (mc rfl m0)) (X.parlmake_stream_next nd.parlmake_stream_next (a0 := (Ty.parlmake_stream.mk s18.1)) c17 (h8.mono g10.z) q11) fun _ H12 i7 => ?_
  obtain ⟨w7, rfl, s21⟩ := i7
  have s22 := c19 _ _ s21
  obtain ⟨Z11, V11, g11, s23, h13⟩ := (s22.pull 1 rfl).frzR
  refine o_bld (qs := [(0, 1, (vi x7.2))]) rfl rfl ?_
  refine o_new s23 fun b4 H13 s24 => ?_
  refine o_stB (us' := [vi x7.2, (.slice none 0 0)]) 0 s24 rfl rfl rfl rfl rfl rfl rfl fun H14 s25 => ?_
  refine c_nil (c_sq (c_sr (o_mv h10 ?_)))
  obtain ⟨x8, q12, e1⟩ := oB e1
  obtain ⟨d7, rfl⟩ := (h13).val
  obtain ⟨Z12, V12, W6, g12, u6, c21, c22, -, c24, c23⟩ := Sat.call (l1 := [pts b2 (.rw 0 [(vS d7 x7.1.l)])]) (l2 := [pts b4 (.rw 0 [vi x7.2, (.slice none 0 0)]), pts b1 (.rw 0 [vi 0, vi 0, vi 0, (.slice none 0 0)]), pts b3 (.rw 0 [(vi (Pu.W (1 + x1.2))), (vi (Pu.W (1 + x2.2))), vi x3.2, (vS d5 s18.2)]), It.sl (Sh.ro Sh.api_Rule) (vS d5 s18.2) s18.2]) (s25.pick [1, 0, 2, 3, 4] rfl)
  refine o_call (mc rfl (mc rfl m0)) (X.parlmake_stream_next nd.parlmake_stream_next (a0 := x7.1) c21 (h13.mono g12.z) q12) fun _ H15 i8 => ?_
  obtain ⟨w8, rfl, s26⟩ := i8
  have s27 := c23 _ _ s26
  obtain ⟨Z13, V13, g13, s28, h14⟩ := (s27.pull 1 rfl).frzR
  refine o_mv (v := (vi 0)) rfl ?_
  refine c_nil ?_
  refine c_gen (P := fun tm => tm 2 = (pV b1 0) ∧ tm 3 = (pV b2 0) ∧ tm 4 = (pV b3 0) ∧ tm 5 = (pV b4 0) ∧ tm 23 = (vi (Pu.W (1 + x4.2))) ∧ tm 24 = (vi x5) ∧ tm 32 = (vi x8.2) ∧ tm 33 = (vi 0) ∧ True) ⟨h9, h10, h11, rfl, h12, hti0, rfl, rfl, trivial⟩ ?_
  intro _ i9
  obtain ⟨h15, h16, h17, h18, h19, h20, h21, h22, -⟩ := i9
  obtain ⟨x10, q15, e1⟩ := oB e1
  obtain ⟨rfl, q17⟩ := ranO_some q15
  obtain ⟨y2, q18, e1⟩ := oB e1
  refine c_bk ?_
  refine l_forP (xs := (Pu.ran x8.2)) (fun (i10 : Nat) (s29 : ((List Int) × (List Ty.api_Sym))) tm H => tm 33 = vi i10 ∧ ∃ (Z14 V14 : PH) (w9 : Value) (w10 : Value), Gw Z13 V13 Z14 V14 ∧ Sat Z14 V14 H [pts b1 (.rw 0 [vi 0, vi 0, vi 0, (.slice none 0 0)]), pts b2 (.rw 0 [w10]), pts b3 (.rw 0 [(vi (Pu.W (1 + x1.2))), (vi (Pu.W (1 + x2.2))), vi x3.2, (vS d5 s18.2)]), It.sl (Sh.ro Sh.api_Rule) (vS d5 s18.2) s18.2, pts b4 (.rw 0 [vi x7.2, w9]), It.sl (Sh.ro Sh.api_Sym) w9 s29.2] ∧ tm 2 = (pV b1 0) ∧ tm 3 = (pV b2 0) ∧ tm 4 = (pV b3 0) ∧ tm 5 = (pV b4 0) ∧ tm 23 = (vi (Pu.W (1 + x4.2))) ∧ tm 24 = (vi x5) ∧ tm 32 = (vi x8.2) ∧ RdS Sh.int Z14 w10 s29.1) (fun i10 x9 s29 s31 tm H17 q13 q14 j2 e2 k2 => ?_) (fun tm H16 jd => ?_) q18 ⟨h22, _, _, _, _, Gw.refl _ _, ((s28.push (sl_nil (s := (Sh.ro Sh.api_Sym)))).pick [3, 1, 4, 5, 2, 0] rfl), h15, h16, h17, h18, h19, h20, h21, h14⟩
  ·obtain ⟨hti1, Z14, V14, w9, w10, g14, s30, h24, h25, h26, h27, h28, h29, h30, h23⟩ := j2
   unfold P.parlmake_Grammar.b1 at e2
   have hti1 := iv hti1 (ran_x q13).symm
   refine c_sr (o_lss hti1 h30 (c_nil (c_sq ?_)))
   refine c_ift rfl (ran_lt q13) ?_
   refine c_sk (c_sq (c_bk (c_sr (o_mv h25 ?_))))
   obtain ⟨x11, q19, e2⟩ := oB e2
   obtain ⟨d8, rfl⟩ := (h23).val
   obtain ⟨Z15, V15, W7, g15, u7, c25, c26, -, c28, c27⟩ := Sat.call (l1 := [pts b2 (.rw 0 [(vS d8 s29.1)])]) (l2 := [pts b1 (.rw 0 [vi 0, vi 0, vi 0, (.slice none 0 0)]), pts b3 (.rw 0 [(vi (Pu.W (1 + x1.2))), (vi (Pu.W (1 + x2.2))), vi x3.2, (vS d5 s18.2)]), It.sl (Sh.ro Sh.api_Rule) (vS d5 s18.2) s18.2, pts b4 (.rw 0 [vi x7.2, w9]), It.sl (Sh.ro Sh.api_Sym) w9 s29.2]) (s30.pick [1, 0, 2, 3, 4, 5] rfl)
   refine o_call (mc rfl (mc rfl m0)) (X.parlmake_stream_next nd.parlmake_stream_next (a0 := (Ty.parlmake_stream.mk s29.1)) c25 (h23.mono g15.z) q19) fun _ H18 i11 => ?_
   obtain ⟨w11, rfl, s32⟩ := i11
   have s33 := c27 _ _ s32
   obtain ⟨Z16, V16, g16, s34, h31⟩ := (s33.pull 1 rfl).frzR
   refine o_eql rfl rfl (c_nil ?_)
   obtain ⟨y3, e3, e2⟩ := oB e2
   refine c_jn (I := fun tm H => ∃ (Z17 V17 : PH) (w12 : Value) (w13 : Value), Gw Z16 V16 Z17 V17 ∧ Sat Z17 V17 H [pts b1 (.rw 0 [vi 0, vi 0, vi 0, (.slice none 0 0)]), pts b2 (.rw 0 [w13]), pts b3 (.rw 0 [(vi (Pu.W (1 + x1.2))), (vi (Pu.W (1 + x2.2))), vi x3.2, (vS d5 s18.2)]), It.sl (Sh.ro Sh.api_Rule) (vS d5 s18.2) s18.2, pts b4 (.rw 0 [vi x7.2, w12]), It.sl (Sh.ro Sh.api_Sym) w12 y3.2] ∧ tm 2 = (pV b1 0) ∧ tm 3 = (pV b2 0) ∧ tm 4 = (pV b3 0) ∧ tm 5 = (pV b4 0) ∧ tm 23 = (vi (Pu.W (1 + x4.2))) ∧ tm 24 = (vi x5) ∧ tm 32 = (vi x8.2) ∧ tm 33 = (vi x9) ∧ RdS Sh.int Z17 w13 y3.1) (fun k3 => ?_) ?_
   ·refine c_ifd rfl (fun q20 => ?_) (fun q20 => ?_)
    ·replace e3 := if_t q20 e3
     refine d_start s34 fun n1 H20 s36 q21 d9 => ?_
     refine d_fad h27 ?_
     obtain ⟨d10, rfl⟩ := ((s36.curS (s := (Sh.ro Sh.api_Sym)) 5 rfl)).val
     refine d_ldB (q21 _ _ (ph_some.2 ⟨s36.curB 4 rfl, by simp⟩)) 4 s36 rfl rfl rfl rfl ?_
     refine d_mv h25 ?_
     refine d_fad h26 ?_
     refine d_ldB (q21 _ _ (ph_some.2 ⟨s36.curB 2 rfl, by simp⟩)) 2 s36 rfl rfl rfl rfl ?_
     obtain ⟨x12, q22, e3⟩ := oB e3
     obtain ⟨d11, rfl⟩ := (h31).val
     obtain ⟨Z18, V18, W8, g18, u8, c29, c30, -, c32, c31⟩ := Sat.call (l1 := [pts b2 (.rw 0 [(vS d11 x11.1.l)])]) (l2 := [pts b1 (.rw 0 [vi 0, vi 0, vi 0, (.slice none 0 0)]), pts b3 (.rw 0 [(vi (Pu.W (1 + x1.2))), (vi (Pu.W (1 + x2.2))), vi x3.2, (vS d5 s18.2)]), It.sl (Sh.ro Sh.api_Rule) (vS d5 s18.2) s18.2, pts b4 (.rw 0 [vi x7.2, (vS d10 s29.2)]), It.sl (Sh.ro Sh.api_Sym) (vS d10 s29.2) s29.2]) s36
     refine d_call (mc rfl (mc rfl m0)) (X.parlmake_stream_next nd.parlmake_stream_next (a0 := x11.1) c29 (h31.mono g18.z) q22) fun _ H21 i12 k4 => ?_
     have d12 := d9.keep k4
     obtain ⟨w14, rfl, s37⟩ := i12
     have s38 := c31 _ _ s37
     obtain ⟨Z19, V19, g19, s39, h41⟩ := (s38.pull 1 rfl).frzR
     refine d_bld (qs := [(0, 1, (.bool true)), (1, 1, (vi x12.2))]) rfl rfl ?_
     refine d_bsl (s := (Sh.ro Sh.api_Sym)) (us := [(.bool true), vi x12.2]) (qs := [(0, 2, (.agg #[(.bool true), vi x12.2]))]) (xs := [(Ty.api_Sym.mk true x12.2)]) (d12.get 7 rfl rfl) s39 (Sh.ro_lt _) rfl rfl rfl (Els.cons (c := [(.bool true), vi x12.2]) rfl Els.nil) rfl rfl fun w15 H22 s40 k5 => ?_
     have d13 := d12.next 7 rfl k5
     obtain ⟨Z20, V20, g20, s41, h42⟩ := s40.frzS 0 rfl
     replace h42 := h42.of_ro
     obtain ⟨x13, q23, e3⟩ := oB e3
     refine d_app 5 s41 rfl (Sh.ro_lt _) rfl rfl rfl rfl h42 s41.z (fun h => h) (by decide) q23 fun w16 H23 s42 k6 => ?_
     have d14 := d13.keep k6
     refine d_fad h27 ?_
     obtain ⟨d15, rfl⟩ := ((s42.curS (s := (Sh.ro Sh.api_Sym)) 5 rfl)).val
     refine d_stB (us' := [vi x7.2, (vS d15 x13)]) 4 s42 rfl rfl rfl rfl rfl rfl rfl fun H24 s43 k7 => ?_
     have d16 := d14.keep k7
     refine d_nil (dc_mk rfl (ta8 (ta2 (tre (trl tr0)))) (ta4 (ta2 (tre (tl4 (trl tr0))))) (ta4 (tra (tre (tl4 (tl2 tr0))))) (ag_ldx (w := (vS d10 s29.2)) w_0 rfl (ldB_v 4 s36 rfl rfl rfl) (ldB_v 4 s36 rfl rfl rfl) (by simp [vsame, vsame1])) (ag_ldx (w := (vS d10 s29.2)) w_0 rfl (ldB_v 4 s36 rfl rfl rfl) (ldB_v 4 s39 rfl rfl rfl) (by simp [vsame, vsame1])) dc_nil) ?_
     obtain rfl := oJ e3
     exact k3 _ _ ⟨_, _, _, _, (g18.trans (g19.trans g20)), (s43.pick [1, 0, 2, 3, 4, 5] rfl), h24, h25, h26, h27, h28, h29, h30, hti1, (h41.mono g20.z)⟩
    replace e3 := if_f q20 e3
    refine d_start s34 fun n2 H25 s44 q24 d17 => ?_
    refine d_fad h27 ?_
    obtain ⟨d18, rfl⟩ := ((s44.curS (s := (Sh.ro Sh.api_Sym)) 5 rfl)).val
    refine d_ldB (q24 _ _ (ph_some.2 ⟨s44.curB 4 rfl, by simp⟩)) 4 s44 rfl rfl rfl rfl ?_
    refine d_mv h25 ?_
    refine d_fad h26 ?_
    refine d_ldB (q24 _ _ (ph_some.2 ⟨s44.curB 2 rfl, by simp⟩)) 2 s44 rfl rfl rfl rfl ?_
    obtain ⟨x14, q25, e3⟩ := oB e3
    obtain ⟨d19, rfl⟩ := (h31).val
    obtain ⟨Z21, V21, W9, g21, u9, c33, c34, -, c36, c35⟩ := Sat.call (l1 := [pts b2 (.rw 0 [(vS d19 x11.1.l)])]) (l2 := [pts b1 (.rw 0 [vi 0, vi 0, vi 0, (.slice none 0 0)]), pts b3 (.rw 0 [(vi (Pu.W (1 + x1.2))), (vi (Pu.W (1 + x2.2))), vi x3.2, (vS d5 s18.2)]), It.sl (Sh.ro Sh.api_Rule) (vS d5 s18.2) s18.2, pts b4 (.rw 0 [vi x7.2, (vS d18 s29.2)]), It.sl (Sh.ro Sh.api_Sym) (vS d18 s29.2) s29.2]) s44
    refine d_call (mc rfl (mc rfl m0)) (X.parlmake_stream_next nd.parlmake_stream_next (a0 := x11.1) c33 (h31.mono g21.z) q25) fun _ H26 i13 k8 => ?_
    have d20 := d17.keep k8
    obtain ⟨w17, rfl, s45⟩ := i13
    have s46 := c35 _ _ s45
    obtain ⟨Z22, V22, g22, s47, h43⟩ := (s46.pull 1 rfl).frzR
    refine d_bld (qs := [(1, 1, (vi x14.2))]) rfl rfl ?_
    refine d_bsl (s := (Sh.ro Sh.api_Sym)) (us := [(.bool false), vi x14.2]) (qs := [(0, 2, (.agg #[(.bool false), vi x14.2]))]) (xs := [(Ty.api_Sym.mk false x14.2)]) (d20.get 7 rfl rfl) s47 (Sh.ro_lt _) rfl rfl rfl (Els.cons (c := [(.bool false), vi x14.2]) rfl Els.nil) rfl rfl fun w18 H27 s48 k9 => ?_
    have d21 := d20.next 7 rfl k9
    obtain ⟨Z23, V23, g23, s49, h44⟩ := s48.frzS 0 rfl
    replace h44 := h44.of_ro
    obtain ⟨x15, q26, e3⟩ := oB e3
    refine d_app 5 s49 rfl (Sh.ro_lt _) rfl rfl rfl rfl h44 s49.z (fun h => h) (by decide) q26 fun w19 H28 s50 k10 => ?_
    have d22 := d21.keep k10
    refine d_fad h27 ?_
    obtain ⟨d23, rfl⟩ := ((s50.curS (s := (Sh.ro Sh.api_Sym)) 5 rfl)).val
    refine d_stB (us' := [vi x7.2, (vS d23 x15)]) 4 s50 rfl rfl rfl rfl rfl rfl rfl fun H29 s51 k11 => ?_
    have d24 := d22.keep k11
    refine d_nil (dc_mk rfl (ta8 (ta2 (tre (trl tr0)))) (ta4 (ta2 (tre (tl4 (trl tr0))))) (ta4 (tra (tre (tl4 (tl2 tr0))))) (ag_ldx (w := (vS d18 s29.2)) w_0 rfl (ldB_v 4 s44 rfl rfl rfl) (ldB_v 4 s44 rfl rfl rfl) (by simp [vsame, vsame1])) (ag_ldx (w := (vS d18 s29.2)) w_0 rfl (ldB_v 4 s44 rfl rfl rfl) (ldB_v 4 s47 rfl rfl rfl) (by simp [vsame, vsame1])) dc_nil) ?_
    obtain rfl := oJ e3
    exact k3 _ _ ⟨_, _, _, _, (g21.trans (g22.trans g23)), (s51.pick [1, 0, 2, 3, 4, 5] rfl), h24, h25, h26, h27, h28, h29, h30, hti1, (h43.mono g23.z)⟩
   intro _ H19 i14
   obtain ⟨Z17, V17, w12, w13, g17, s35, h33, h34, h35, h36, h37, h38, h39, h40, h32⟩ := i14
   refine c_end (c_r (o_add h40 rfl ?_))
   refine o_mv (v := (vi (Pu.W (x9 + 1)))) rfl ?_
   refine c_nil ?_
   obtain rfl := oJ e2
   exact k2 _ _ ⟨(iv rfl (w_sucR q13 q17)), _, _, _, _, (g14.trans (g15.trans (g16.trans g17))), s35, h33, h34, h35, h36, h37, h38, h39, h32⟩
  obtain ⟨hte1, Z24, V24, w20, w21, g24, s52, h46, h47, h48, h49, h50, h51, h52, h45⟩ := jd
  refine c_sr (o_lss hte1 h52 (c_nil (c_sq ?_)))
  refine c_iff rfl (ran_done _) ?_
  refine c_ex ?_
  refine e_c ?_
  refine e_c ?_
  refine e_h ?_
  refine c_sr (o_fad h48 (o_ldB 2 s52 rfl rfl rfl rfl ?_))
  obtain ⟨d25, rfl⟩ := ((s52.curS (s := (Sh.ro Sh.api_Sym)) 5 rfl)).val
  refine o_ldB 4 s52 rfl h49 rfl rfl ?_
  obtain ⟨x16, q27, e1⟩ := oB e1
  obtain ⟨Z25, V25, W10, g25, u10, c37, c38, -, c40, c39⟩ := Sat.call (l1 := []) s52
  refine o_call (mc rfl (mc rfl m0)) (X.parlmake_has nd.parlmake_has (a1 := (Ty.api_Rule.mk x7.2 y2.2)) c37 (c38 3 _ (Sh.ro Sh.api_Rule) _ _ rfl) (c38 5 _ (Sh.ro Sh.api_Sym) _ _ rfl) q27) fun _ H31 i15 => ?_
  obtain ⟨rfl, s53⟩ := i15
  have s54 := c39 _ _ s53
  refine o_not rfl (c_nil ?_)
  obtain ⟨y4, e4, e1⟩ := oB e1
  refine c_jn (I := fun tm H => ∃ (Z26 V26 : PH) (w22 : Value), Gw Z25 V25 Z26 V26 ∧ Sat Z26 V26 H [pts b1 (.rw 0 [vi 0, vi 0, vi 0, (.slice none 0 0)]), pts b2 (.rw 0 [w21]), pts b3 (.rw 0 [(vi (Pu.W (1 + x1.2))), (vi (Pu.W (1 + x2.2))), vi x3.2, w22]), It.sl (Sh.ro Sh.api_Rule) w22 y4] ∧ tm 2 = (pV b1 0) ∧ tm 3 = (pV b2 0) ∧ tm 4 = (pV b3 0) ∧ tm 23 = (vi (Pu.W (1 + x4.2))) ∧ tm 24 = (vi x5)) (fun k12 => ?_) ?_
  ·refine c_if rfl (fun q28 => ?_) (fun q28 => ?_)
   ·replace e4 := if_t q28 e4
    refine c_r (o_fad h48 (o_ldB 2 s54 rfl rfl rfl rfl (o_ldB 4 s54 rfl h49 rfl rfl ?_)))
    obtain ⟨Z27, V27, g27, s56, h58⟩ := s54.frzS 5 rfl
    replace h58 := h58.of_ro
    refine o_bsl (s := (Sh.ro Sh.api_Rule)) (us := [vi x7.2, (vS d25 y2.2)]) (qs := [(0, 2, (.agg #[vi x7.2, (vS d25 y2.2)]))]) (xs := [(Ty.api_Rule.mk x7.2 y2.2)]) s56 (Sh.ro_lt _) rfl rfl rfl (Els.cons (c := [vi x7.2, (vS d25 y2.2)]) (Sh.api_Rule_cl (x := (Ty.api_Rule.mk x7.2 y2.2)) h58) Els.nil) rfl rfl fun w23 H33 s57 => ?_
    obtain ⟨Z28, V28, g28, s58, h59⟩ := s57.frzS 0 rfl
    replace h59 := h59.of_ro
    obtain ⟨x17, q29, e4⟩ := oB e4
    refine o_app 3 s58 rfl (Sh.ro_lt _) rfl rfl rfl rfl h59 s58.z (fun h => h) (by decide) q29 fun w24 H34 s59 => ?_
    refine o_fad h48 ?_
    obtain ⟨d26, rfl⟩ := ((s59.curS (s := (Sh.ro Sh.api_Rule)) 3 rfl)).val
    refine o_stB (us' := [(vi (Pu.W (1 + x1.2))), (vi (Pu.W (1 + x2.2))), vi x3.2, (vS d26 x17)]) 2 s59 rfl rfl rfl rfl rfl rfl rfl fun H35 s60 => ?_
    refine c_nil ?_
    obtain rfl := oJ e4
    exact k12 _ _ ⟨_, _, _, (g27.trans g28), (s60.pick [0, 1, 2, 3] rfl), h46, h47, h48, h50, h51⟩
   replace e4 := ib_f q28 e4
   refine c_sk ?_
   obtain rfl := oJ e4
   exact k12 _ _ ⟨_, _, _, Gw.refl _ _, (s54.pick [0, 1, 2, 3] rfl), h46, h47, h48, h50, h51⟩
  intro _ H32 i16
  obtain ⟨Z26, V26, w22, g26, s55, h53, h54, h55, h56, h57⟩ := i16
  refine c_end (c_r (o_add h57 rfl ?_))
  refine o_mv (v := (vi (Pu.W (x5 + 1)))) rfl ?_
  refine c_nil ?_
  obtain rfl := oJ e1
  exact k1 _ _ ⟨(iv rfl (w_sucR q5 q9)), _, _, _, _, (g9.trans (g10.trans (g11.trans (g12.trans (g13.trans (g24.trans (g25.trans g26))))))), s55, h53, h54, h55, h56, (h45.mono (g25.trans g26).z)⟩
 obtain ⟨hte0, Z29, V29, w25, w26, g29, s61, h61, h62, h63, h64, h60⟩ := jd
 refine c_sr (o_lss hte0 h64 (c_nil (c_sq ?_)))
 refine c_iff rfl (ran_done _) ?_
 refine c_ex ?_
 refine e_c ?_
 refine e_c ?_
 refine e_h ?_
 refine c_sr ?_
 obtain ⟨d27, rfl⟩ := ((s61.curS (s := (Sh.ro Sh.api_Rule)) 3 rfl)).val
 refine o_ldB 2 s61 rfl h63 rfl rfl ?_
 refine o_stB (us' := [(vi (Pu.W (1 + x1.2))), (vi (Pu.W (1 + x2.2))), vi x3.2, (vS d27 y1.2)]) 0 s61 rfl h61 rfl rfl rfl rfl rfl fun H37 s62 => ?_
 refine c_nil (c_rt ?_)
 obtain rfl := oJ e
 exact ⟨.inr rfl, _, (arB 0 s62 rfl h61 rfl rfl), _, rfl, ((s62.pick [3] rfl).weak (g1.trans (g2.trans (g3.trans (g4.trans (g5.trans (g6.trans (g7.trans (g8.trans g29)))))))) hs.zv)⟩
set_option maxHeartbeats 1000000 in
theorem X.parlmake_GrammarO {T : FuncId → Option AFunc} (nd : Nd.parlmake_Grammar T) {Z V : PH} {H : Hp} {v1 : Value} {a0 : (List Int)} (hs : Sat Z V H []) (hp1 : RdS Sh.int Z v1 a0) {r : Ty.api_Grammar} (e : P.parlmake_Grammar a0 = some r) :
    G T I.parlmake_Grammar [v1] H (fun rv H' => ∃ (u1 : Value), rv = (.agg #[vi r.Terms, vi r.Nons, vi r.Start, u1]) ∧ Sat Z V H' [It.sl Sh.api_RuleO u1 r.Rules]) := by
 unfold P.parlmake_Grammar at e
 refine f_mk nd.own ?_
 refine c_sr ?_
 refine o_new hs fun b1 H1 s1 => ?_
 refine c_nil (c_sr ?_)
 refine o_mv (v := v1) rfl ?_
 obtain ⟨d1, rfl⟩ := (hp1).val
 refine o_bld (qs := [(0, 1, (vS d1 a0))]) rfl rfl ?_
 refine o_box s1 rfl rfl fun b2 H2 s2 => ?_
 refine o_mv (v := (pV b2 0)) rfl ?_
 refine c_nil (c_sr ?_)
 refine o_mv (v := (pV b2 0)) rfl ?_
 obtain ⟨x1, q1, e⟩ := oB e
 obtain ⟨Z1, V1, W1, g1, u1, c1, c2, -, c4, c3⟩ := Sat.call (l1 := [pts b2 (.rw 0 [(vS d1 a0)])]) (l2 := [pts b1 (.rw 0 [vi 0, vi 0, vi 0, (.slice none 0 0)])]) s2
 refine o_call (mc rfl (mc rfl m0)) (X.parlmake_stream_next nd.parlmake_stream_next (a0 := (Ty.parlmake_stream.mk a0)) c1 (hp1.mono g1.z) q1) fun _ H3 i1 => ?_
 obtain ⟨w1, rfl, s3⟩ := i1
 have s4 := c3 _ _ s3
 obtain ⟨Z2, V2, g2, s5, h1⟩ := (s4.pull 1 rfl).frzR
 refine o_add rfl rfl ?_
 refine o_mv (v := (pV b2 0)) rfl ?_
 obtain ⟨x2, q2, e⟩ := oB e
 obtain ⟨d2, rfl⟩ := (h1).val
 obtain ⟨Z3, V3, W2, g3, u2, c5, c6, -, c8, c7⟩ := Sat.call (l1 := [pts b2 (.rw 0 [(vS d2 x1.1.l)])]) (l2 := [pts b1 (.rw 0 [vi 0, vi 0, vi 0, (.slice none 0 0)])]) s5
 refine o_call (mc rfl (mc rfl m0)) (X.parlmake_stream_next nd.parlmake_stream_next (a0 := x1.1) c5 (h1.mono g3.z) q2) fun _ H4 i2 => ?_
 obtain ⟨w2, rfl, s6⟩ := i2
 have s7 := c7 _ _ s6
 obtain ⟨Z4, V4, g4, s8, h2⟩ := (s7.pull 1 rfl).frzR
 refine o_add rfl rfl ?_
 refine o_bld (qs := [(0, 1, (vi (Pu.W (1 + x1.2)))), (1, 1, (vi (Pu.W (1 + x2.2))))]) rfl rfl ?_
 refine o_new s8 fun b3 H5 s9 => ?_
 refine o_stB (us' := [(vi (Pu.W (1 + x1.2))), (vi (Pu.W (1 + x2.2))), vi 0, (.slice none 0 0)]) 0 s9 rfl rfl rfl rfl rfl rfl rfl fun H6 s10 => ?_
 refine c_nil ?_
 refine c_gen (P := fun tm => tm 2 = (pV b1 0) ∧ tm 3 = (pV b2 0) ∧ tm 4 = (pV b3 0) ∧ True) ⟨rfl, rfl, rfl, trivial⟩ ?_
 intro _ i3
 obtain ⟨h3, h4, h5, -⟩ := i3
 refine c_sr (o_mv h4 (o_fad h5 (o_ldB 0 s10 rfl rfl rfl rfl ?_)))
 obtain ⟨x3, q3, e⟩ := oB e
 obtain ⟨d3, rfl⟩ := (h2).val
 obtain ⟨Z5, V5, W3, g5, u3, c9, c10, -, c12, c11⟩ := Sat.call (l1 := [pts b2 (.rw 0 [(vS d3 x2.1.l)])]) (l2 := [pts b3 (.rw 0 [(vi (Pu.W (1 + x1.2))), (vi (Pu.W (1 + x2.2))), vi 0, (.slice none 0 0)]), pts b1 (.rw 0 [vi 0, vi 0, vi 0, (.slice none 0 0)])]) (s10.pick [1, 0, 2] rfl)
 refine o_call (mc rfl (mc rfl m0)) (X.parlmake_stream_next nd.parlmake_stream_next (a0 := x2.1) c9 (h2.mono g5.z) q3) fun _ H7 i4 => ?_
 obtain ⟨w3, rfl, s11⟩ := i4
 have s12 := c11 _ _ s11
 obtain ⟨Z6, V6, g6, s13, h6⟩ := (s12.pull 1 rfl).frzR
 refine o_fad h5 ?_
 refine o_stB (us' := [(vi (Pu.W (1 + x1.2))), (vi (Pu.W (1 + x2.2))), vi x3.2, (.slice none 0 0)]) 1 s13 rfl rfl rfl rfl rfl rfl rfl fun H8 s14 => ?_
 refine c_nil (c_sq (c_sr (o_mv h4 ?_)))
 obtain ⟨x4, q4, e⟩ := oB e
 obtain ⟨d4, rfl⟩ := (h6).val
 obtain ⟨Z7, V7, W4, g7, u4, c13, c14, -, c16, c15⟩ := Sat.call (l1 := [pts b2 (.rw 0 [(vS d4 x3.1.l)])]) (l2 := [pts b3 (.rw 0 [(vi (Pu.W (1 + x1.2))), (vi (Pu.W (1 + x2.2))), vi x3.2, (.slice none 0 0)]), pts b1 (.rw 0 [vi 0, vi 0, vi 0, (.slice none 0 0)])]) s14
 refine o_call (mc rfl (mc rfl m0)) (X.parlmake_stream_next nd.parlmake_stream_next (a0 := x3.1) c13 (h6.mono g7.z) q4) fun _ H9 i5 => ?_
 obtain ⟨w4, rfl, s15⟩ := i5
 have s16 := c15 _ _ s15
 obtain ⟨Z8, V8, g8, s17, h7⟩ := (s16.pull 1 rfl).frzR
 refine o_add rfl rfl ?_
 refine o_mv (v := (vi 0)) rfl ?_
 refine c_nil ?_
 obtain ⟨x6, q7, e⟩ := oB e
 obtain ⟨rfl, q9⟩ := ranO_some q7
 obtain ⟨y1, q10, e⟩ := oB e
 refine c_bk ?_
 refine l_forP (xs := (Pu.ran (Pu.W (1 + x4.2)))) (fun (i6 : Nat) (s18 : ((List Int) × (List Ty.api_Rule))) tm H => tm 24 = vi i6 ∧ ∃ (Z9 V9 : PH) (w5 : Value) (w6 : Value), Gw Z8 V8 Z9 V9 ∧ Sat Z9 V9 H [pts b1 (.rw 0 [vi 0, vi 0, vi 0, (.slice none 0 0)]), pts b2 (.rw 0 [w6]), pts b3 (.rw 0 [(vi (Pu.W (1 + x1.2))), (vi (Pu.W (1 + x2.2))), vi x3.2, w5]), It.sl Sh.api_RuleO w5 s18.2] ∧ tm 2 = (pV b1 0) ∧ tm 3 = (pV b2 0) ∧ tm 4 = (pV b3 0) ∧ tm 23 = (vi (Pu.W (1 + x4.2))) ∧ RdS Sh.int Z9 w6 s18.1) (fun i6 x5 s18 s20 tm H11 q5 q6 j1 e1 k1 => ?_) (fun tm H10 jd => ?_) q10 ⟨rfl, _, _, _, _, Gw.refl _ _, ((s17.push (sl_nil (s := Sh.api_RuleO))).pick [3, 1, 2, 0] rfl), h3, h4, h5, rfl, h7⟩
 ·obtain ⟨hti0, Z9, V9, w5, w6, g9, s19, h9, h10, h11, h12, h8⟩ := j1
  unfold P.parlmake_Grammar.b0 at e1
  have hti0 := iv hti0 (ran_x q5).symm
  refine c_sr (o_lss hti0 h12 (c_nil (c_sq ?_)))
  refine c_ift rfl (ran_lt q5) ?_
  refine c_sk (c_sq (c_bk (c_sr (o_mv h10 ?_))))
  refine o_fad h11 ?_
  obtain ⟨d5, rfl⟩ := ((s19.curS (s := Sh.api_RuleO) 3 rfl)).val
  refine o_ldB 2 s19 rfl rfl rfl rfl ?_
  obtain ⟨x7, q11, e1⟩ := oB e1
  obtain ⟨d6, rfl⟩ := (h8).val
  obtain ⟨Z10, V10, W5, g10, u5, c17, c18, -, c20, c19⟩ := Sat.call (l1 := [pts b2 (.rw 0 [(vS d6 s18.1)])]) (l2 := [pts b1 (.rw 0 [vi 0, vi 0, vi 0, (.slice none 0 0)]), pts b3 (.rw 0 [(vi (Pu.W (1 + x1.2))), (vi (Pu.W (1 + x2.2))), vi x3.2, (vS d5 s18.2)]), Is Sh.api_RuleO d5 s18.2]) (s19.pick [1, 0, 2, 3] rfl)
  refine o_call (mc rfl (mc rfl m0)) (X.parlmake_stream_next nd.parlmake_stream_next (a0 := (Ty.parlmake_stream.mk s18.1)) c17 (h8.mono g10.z) q11) fun _ H12 i7 => ?_
  obtain ⟨w7, rfl, s21⟩ := i7
  have s22 := c19 _ _ s21
  obtain ⟨Z11, V11, g11, s23, h13⟩ := (s22.pull 1 rfl).frzR
  refine o_bld (qs := [(0, 1, (vi x7.2))]) rfl rfl ?_
  refine o_new s23 fun b4 H13 s24 => ?_
  refine o_stB (us' := [vi x7.2, (.slice none 0 0)]) 0 s24 rfl rfl rfl rfl rfl rfl rfl fun H14 s25 => ?_
  refine c_nil (c_sq (c_sr (o_mv h10 ?_)))
  obtain ⟨x8, q12, e1⟩ := oB e1
  obtain ⟨d7, rfl⟩ := (h13).val
  obtain ⟨Z12, V12, W6, g12, u6, c21, c22, -, c24, c23⟩ := Sat.call (l1 := [pts b2 (.rw 0 [(vS d7 x7.1.l)])]) (l2 := [pts b4 (.rw 0 [vi x7.2, (.slice none 0 0)]), pts b1 (.rw 0 [vi 0, vi 0, vi 0, (.slice none 0 0)]), pts b3 (.rw 0 [(vi (Pu.W (1 + x1.2))), (vi (Pu.W (1 + x2.2))), vi x3.2, (vS d5 s18.2)]), Is Sh.api_RuleO d5 s18.2]) (s25.pick [1, 0, 2, 3, 4] rfl)
  refine o_call (mc rfl (mc rfl m0)) (X.parlmake_stream_next nd.parlmake_stream_next (a0 := x7.1) c21 (h13.mono g12.z) q12) fun _ H15 i8 => ?_
  obtain ⟨w8, rfl, s26⟩ := i8
  have s27 := c23 _ _ s26
  obtain ⟨Z13, V13, g13, s28, h14⟩ := (s27.pull 1 rfl).frzR
  refine o_mv (v := (vi 0)) rfl ?_
  refine c_nil ?_
  refine c_gen (P := fun tm => tm 2 = (pV b1 0) ∧ tm 3 = (pV b2 0) ∧ tm 4 = (pV b3 0) ∧ tm 5 = (pV b4 0) ∧ tm 23 = (vi (Pu.W (1 + x4.2))) ∧ tm 24 = (vi x5) ∧ tm 32 = (vi x8.2) ∧ tm 33 = (vi 0) ∧ True) ⟨h9, h10, h11, rfl, h12, hti0, rfl, rfl, trivial⟩ ?_
  intro _ i9
  obtain ⟨h15, h16, h17, h18, h19, h20, h21, h22, -⟩ := i9
  obtain ⟨x10, q15, e1⟩ := oB e1
  obtain ⟨rfl, q17⟩ := ranO_some q15
  obtain ⟨y2, q18, e1⟩ := oB e1
  refine c_bk ?_
  refine l_forP (xs := (Pu.ran x8.2)) (fun (i10 : Nat) (s29 : ((List Int) × (List Ty.api_Sym))) tm H => tm 33 = vi i10 ∧ ∃ (Z14 V14 : PH) (w9 : Value) (w10 : Value), Gw Z13 V13 Z14 V14 ∧ Sat Z14 V14 H [pts b1 (.rw 0 [vi 0, vi 0, vi 0, (.slice none 0 0)]), pts b2 (.rw 0 [w10]), pts b3 (.rw 0 [(vi (Pu.W (1 + x1.2))), (vi (Pu.W (1 + x2.2))), vi x3.2, (vS d5 s18.2)]), Is Sh.api_RuleO d5 s18.2, pts b4 (.rw 0 [vi x7.2, w9]), It.sl (Sh.ro Sh.api_Sym) w9 s29.2] ∧ tm 2 = (pV b1 0) ∧ tm 3 = (pV b2 0) ∧ tm 4 = (pV b3 0) ∧ tm 5 = (pV b4 0) ∧ tm 23 = (vi (Pu.W (1 + x4.2))) ∧ tm 24 = (vi x5) ∧ tm 32 = (vi x8.2) ∧ RdS Sh.int Z14 w10 s29.1) (fun i10 x9 s29 s31 tm H17 q13 q14 j2 e2 k2 => ?_) (fun tm H16 jd => ?_) q18 ⟨h22, _, _, _, _, Gw.refl _ _, ((s28.push (sl_nil (s := (Sh.ro Sh.api_Sym)))).pick [3, 1, 4, 5, 2, 0] rfl), h15, h16, h17, h18, h19, h20, h21, h14⟩
  ·obtain ⟨hti1, Z14, V14, w9, w10, g14, s30, h24, h25, h26, h27, h28, h29, h30, h23⟩ := j2
   unfold P.parlmake_Grammar.b1 at e2
   have hti1 := iv hti1 (ran_x q13).symm
   refine c_sr (o_lss hti1 h30 (c_nil (c_sq ?_)))
   refine c_ift rfl (ran_lt q13) ?_
   refine c_sk (c_sq (c_bk (c_sr (o_mv h25 ?_))))
   obtain ⟨x11, q19, e2⟩ := oB e2
   obtain ⟨d8, rfl⟩ := (h23).val
   obtain ⟨Z15, V15, W7, g15, u7, c25, c26, -, c28, c27⟩ := Sat.call (l1 := [pts b2 (.rw 0 [(vS d8 s29.1)])]) (l2 := [pts b1 (.rw 0 [vi 0, vi 0, vi 0, (.slice none 0 0)]), pts b3 (.rw 0 [(vi (Pu.W (1 + x1.2))), (vi (Pu.W (1 + x2.2))), vi x3.2, (vS d5 s18.2)]), Is Sh.api_RuleO d5 s18.2, pts b4 (.rw 0 [vi x7.2, w9]), It.sl (Sh.ro Sh.api_Sym) w9 s29.2]) (s30.pick [1, 0, 2, 3, 4, 5] rfl)
   refine o_call (mc rfl (mc rfl m0)) (X.parlmake_stream_next nd.parlmake_stream_next (a0 := (Ty.parlmake_stream.mk s29.1)) c25 (h23.mono g15.z) q19) fun _ H18 i11 => ?_
   obtain ⟨w11, rfl, s32⟩ := i11
   have s33 := c27 _ _ s32
   obtain ⟨Z16, V16, g16, s34, h31⟩ := (s33.pull 1 rfl).frzR
   refine o_eql rfl rfl (c_nil ?_)
   obtain ⟨y3, e3, e2⟩ := oB e2
   refine c_jn (I := fun tm H => ∃ (Z17 V17 : PH) (w12 : Value) (w13 : Value), Gw Z16 V16 Z17 V17 ∧ Sat Z17 V17 H [pts b1 (.rw 0 [vi 0, vi 0, vi 0, (.slice none 0 0)]), pts b2 (.rw 0 [w13]), pts b3 (.rw 0 [(vi (Pu.W (1 + x1.2))), (vi (Pu.W (1 + x2.2))), vi x3.2, (vS d5 s18.2)]), Is Sh.api_RuleO d5 s18.2, pts b4 (.rw 0 [vi x7.2, w12]), It.sl (Sh.ro Sh.api_Sym) w12 y3.2] ∧ tm 2 = (pV b1 0) ∧ tm 3 = (pV b2 0) ∧ tm 4 = (pV b3 0) ∧ tm 5 = (pV b4 0) ∧ tm 23 = (vi (Pu.W (1 + x4.2))) ∧ tm 24 = (vi x5) ∧ tm 32 = (vi x8.2) ∧ tm 33 = (vi x9) ∧ RdS Sh.int Z17 w13 y3.1) (fun k3 => ?_) ?_
   ·refine c_ifd rfl (fun q20 => ?_) (fun q20 => ?_)
    ·replace e3 := if_t q20 e3
     refine d_start s34 fun n1 H20 s36 q21 d9 => ?_
     refine d_fad h27 ?_
     obtain ⟨d10, rfl⟩ := ((s36.curS (s := (Sh.ro Sh.api_Sym)) 5 rfl)).val
     refine d_ldB (q21 _ _ (ph_some.2 ⟨s36.curB 4 rfl, by simp⟩)) 4 s36 rfl rfl rfl rfl ?_
     refine d_mv h25 ?_
     refine d_fad h26 ?_
     refine d_ldB (q21 _ _ (ph_some.2 ⟨s36.curB 2 rfl, by simp⟩)) 2 s36 rfl rfl rfl rfl ?_
     obtain ⟨x12, q22, e3⟩ := oB e3
     obtain ⟨d11, rfl⟩ := (h31).val
     obtain ⟨Z18, V18, W8, g18, u8, c29, c30, -, c32, c31⟩ := Sat.call (l1 := [pts b2 (.rw 0 [(vS d11 x11.1.l)])]) (l2 := [pts b1 (.rw 0 [vi 0, vi 0, vi 0, (.slice none 0 0)]), pts b3 (.rw 0 [(vi (Pu.W (1 + x1.2))), (vi (Pu.W (1 + x2.2))), vi x3.2, (vS d5 s18.2)]), Is Sh.api_RuleO d5 s18.2, pts b4 (.rw 0 [vi x7.2, (vS d10 s29.2)]), It.sl (Sh.ro Sh.api_Sym) (vS d10 s29.2) s29.2]) s36
     refine d_call (mc rfl (mc rfl m0)) (X.parlmake_stream_next nd.parlmake_stream_next (a0 := x11.1) c29 (h31.mono g18.z) q22) fun _ H21 i12 k4 => ?_
     have d12 := d9.keep k4
     obtain ⟨w14, rfl, s37⟩ := i12
     have s38 := c31 _ _ s37
     obtain ⟨Z19, V19, g19, s39, h41⟩ := (s38.pull 1 rfl).frzR
     refine d_bld (qs := [(0, 1, (.bool true)), (1, 1, (vi x12.2))]) rfl rfl ?_
     refine d_bsl (s := (Sh.ro Sh.api_Sym)) (us := [(.bool true), vi x12.2]) (qs := [(0, 2, (.agg #[(.bool true), vi x12.2]))]) (xs := [(Ty.api_Sym.mk true x12.2)]) (d12.get 7 rfl rfl) s39 (Sh.ro_lt _) rfl rfl rfl (Els.cons (c := [(.bool true), vi x12.2]) rfl Els.nil) rfl rfl fun w15 H22 s40 k5 => ?_
     have d13 := d12.next 7 rfl k5
     obtain ⟨Z20, V20, g20, s41, h42⟩ := s40.frzS 0 rfl
     replace h42 := h42.of_ro
     obtain ⟨x13, q23, e3⟩ := oB e3
     refine d_app 5 s41 rfl (Sh.ro_lt _) rfl rfl rfl rfl h42 s41.z (fun h => h) (by decide) q23 fun w16 H23 s42 k6 => ?_
     have d14 := d13.keep k6
     refine d_fad h27 ?_
     obtain ⟨d15, rfl⟩ := ((s42.curS (s := (Sh.ro Sh.api_Sym)) 5 rfl)).val
     refine d_stB (us' := [vi x7.2, (vS d15 x13)]) 4 s42 rfl rfl rfl rfl rfl rfl rfl fun H24 s43 k7 => ?_
     have d16 := d14.keep k7
     refine d_nil (dc_mk rfl (ta8 (ta2 (tre (trl tr0)))) (ta4 (ta2 (tre (tl4 (trl tr0))))) (ta4 (tra (tre (tl4 (tl2 tr0))))) (ag_ldx (w := (vS d10 s29.2)) w_0 rfl (ldB_v 4 s36 rfl rfl rfl) (ldB_v 4 s36 rfl rfl rfl) (by simp [vsame, vsame1])) (ag_ldx (w := (vS d10 s29.2)) w_0 rfl (ldB_v 4 s36 rfl rfl rfl) (ldB_v 4 s39 rfl rfl rfl) (by simp [vsame, vsame1])) dc_nil) ?_
     obtain rfl := oJ e3
     exact k3 _ _ ⟨_, _, _, _, (g18.trans (g19.trans g20)), (s43.pick [1, 0, 2, 3, 4, 5] rfl), h24, h25, h26, h27, h28, h29, h30, hti1, (h41.mono g20.z)⟩
    replace e3 := if_f q20 e3
    refine d_start s34 fun n2 H25 s44 q24 d17 => ?_
    refine d_fad h27 ?_
    obtain ⟨d18, rfl⟩ := ((s44.curS (s := (Sh.ro Sh.api_Sym)) 5 rfl)).val
    refine d_ldB (q24 _ _ (ph_some.2 ⟨s44.curB 4 rfl, by simp⟩)) 4 s44 rfl rfl rfl rfl ?_
    refine d_mv h25 ?_
    refine d_fad h26 ?_
    refine d_ldB (q24 _ _ (ph_some.2 ⟨s44.curB 2 rfl, by simp⟩)) 2 s44 rfl rfl rfl rfl ?_
    obtain ⟨x14, q25, e3⟩ := oB e3
    obtain ⟨d19, rfl⟩ := (h31).val
    obtain ⟨Z21, V21, W9, g21, u9, c33, c34, -, c36, c35⟩ := Sat.call (l1 := [pts b2 (.rw 0 [(vS d19 x11.1.l)])]) (l2 := [pts b1 (.rw 0 [vi 0, vi 0, vi 0, (.slice none 0 0)]), pts b3 (.rw 0 [(vi (Pu.W (1 + x1.2))), (vi (Pu.W (1 + x2.2))), vi x3.2, (vS d5 s18.2)]), Is Sh.api_RuleO d5 s18.2, pts b4 (.rw 0 [vi x7.2, (vS d18 s29.2)]), It.sl (Sh.ro Sh.api_Sym) (vS d18 s29.2) s29.2]) s44
    refine d_call (mc rfl (mc rfl m0)) (X.parlmake_stream_next nd.parlmake_stream_next (a0 := x11.1) c33 (h31.mono g21.z) q25) fun _ H26 i13 k8 => ?_
    have d20 := d17.keep k8
    obtain ⟨w17, rfl, s45⟩ := i13
    have s46 := c35 _ _ s45
    obtain ⟨Z22, V22, g22, s47, h43⟩ := (s46.pull 1 rfl).frzR
    refine d_bld (qs := [(1, 1, (vi x14.2))]) rfl rfl ?_
    refine d_bsl (s := (Sh.ro Sh.api_Sym)) (us := [(.bool false), vi x14.2]) (qs := [(0, 2, (.agg #[(.bool false), vi x14.2]))]) (xs := [(Ty.api_Sym.mk false x14.2)]) (d20.get 7 rfl rfl) s47 (Sh.ro_lt _) rfl rfl rfl (Els.cons (c := [(.bool false), vi x14.2]) rfl Els.nil) rfl rfl fun w18 H27 s48 k9 => ?_
    have d21 := d20.next 7 rfl k9
    obtain ⟨Z23, V23, g23, s49, h44⟩ := s48.frzS 0 rfl
    replace h44 := h44.of_ro
    obtain ⟨x15, q26, e3⟩ := oB e3
    refine d_app 5 s49 rfl (Sh.ro_lt _) rfl rfl rfl rfl h44 s49.z (fun h => h) (by decide) q26 fun w19 H28 s50 k10 => ?_
    have d22 := d21.keep k10
    refine d_fad h27 ?_
    obtain ⟨d23, rfl⟩ := ((s50.curS (s := (Sh.ro Sh.api_Sym)) 5 rfl)).val
    refine d_stB (us' := [vi x7.2, (vS d23 x15)]) 4 s50 rfl rfl rfl rfl rfl rfl rfl fun H29 s51 k11 => ?_
    have d24 := d22.keep k11
    refine d_nil (dc_mk rfl (ta8 (ta2 (tre (trl tr0)))) (ta4 (ta2 (tre (tl4 (trl tr0))))) (ta4 (tra (tre (tl4 (tl2 tr0))))) (ag_ldx (w := (vS d18 s29.2)) w_0 rfl (ldB_v 4 s44 rfl rfl rfl) (ldB_v 4 s44 rfl rfl rfl) (by simp [vsame, vsame1])) (ag_ldx (w := (vS d18 s29.2)) w_0 rfl (ldB_v 4 s44 rfl rfl rfl) (ldB_v 4 s47 rfl rfl rfl) (by simp [vsame, vsame1])) dc_nil) ?_
    obtain rfl := oJ e3
    exact k3 _ _ ⟨_, _, _, _, (g21.trans (g22.trans g23)), (s51.pick [1, 0, 2, 3, 4, 5] rfl), h24, h25, h26, h27, h28, h29, h30, hti1, (h43.mono g23.z)⟩
   intro _ H19 i14
   obtain ⟨Z17, V17, w12, w13, g17, s35, h33, h34, h35, h36, h37, h38, h39, h40, h32⟩ := i14
   refine c_end (c_r (o_add h40 rfl ?_))
   refine o_mv (v := (vi (Pu.W (x9 + 1)))) rfl ?_
   refine c_nil ?_
   obtain rfl := oJ e2
   exact k2 _ _ ⟨(iv rfl (w_sucR q13 q17)), _, _, _, _, (g14.trans (g15.trans (g16.trans g17))), s35, h33, h34, h35, h36, h37, h38, h39, h32⟩
  obtain ⟨hte1, Z24, V24, w20, w21, g24, s52, h46, h47, h48, h49, h50, h51, h52, h45⟩ := jd
  refine c_sr (o_lss hte1 h52 (c_nil (c_sq ?_)))
  refine c_iff rfl (ran_done _) ?_
  refine c_ex ?_
  refine e_c ?_
  refine e_c ?_
  refine e_h ?_
  refine c_sr (o_fad h48 (o_ldB 2 s52 rfl rfl rfl rfl ?_))
  obtain ⟨d25, rfl⟩ := ((s52.curS (s := (Sh.ro Sh.api_Sym)) 5 rfl)).val
  refine o_ldB 4 s52 rfl h49 rfl rfl ?_
  obtain ⟨x16, q27, e1⟩ := oB e1
  obtain ⟨Z25, V25, W10, g25, u10, c37, c38, -, c40, c39⟩ := Sat.call (l1 := []) s52
  refine o_call (mc rfl (mc rfl m0)) (X.parlmake_has nd.parlmake_has (a1 := (Ty.api_Rule.mk x7.2 y2.2)) c37 (c38 3 _ Sh.api_RuleO _ _ rfl) (c38 5 _ (Sh.ro Sh.api_Sym) _ _ rfl) q27) fun _ H31 i15 => ?_
  obtain ⟨rfl, s53⟩ := i15
  have s54 := c39 _ _ s53
  refine o_not rfl (c_nil ?_)
  obtain ⟨y4, e4, e1⟩ := oB e1
  refine c_jn (I := fun tm H => ∃ (Z26 V26 : PH) (w22 : Value), Gw Z25 V25 Z26 V26 ∧ Sat Z26 V26 H [pts b1 (.rw 0 [vi 0, vi 0, vi 0, (.slice none 0 0)]), pts b2 (.rw 0 [w21]), pts b3 (.rw 0 [(vi (Pu.W (1 + x1.2))), (vi (Pu.W (1 + x2.2))), vi x3.2, w22]), It.sl Sh.api_RuleO w22 y4] ∧ tm 2 = (pV b1 0) ∧ tm 3 = (pV b2 0) ∧ tm 4 = (pV b3 0) ∧ tm 23 = (vi (Pu.W (1 + x4.2))) ∧ tm 24 = (vi x5)) (fun k12 => ?_) ?_
  ·refine c_if rfl (fun q28 => ?_) (fun q28 => ?_)
   ·replace e4 := if_t q28 e4
    refine c_r (o_fad h48 (o_ldB 2 s54 rfl rfl rfl rfl (o_ldB 4 s54 rfl h49 rfl rfl ?_)))
    refine o_bslR (a := x7.2) 5 s54 rfl rfl rfl fun w23 H33 s57 => ?_
    obtain ⟨x17, q29, e4⟩ := oB e4
    refine o_appR 3 s57 rfl rfl rfl (by decide) q29 (by simp) fun w24 H34 s59 => ?_
    refine o_fad h48 ?_
    obtain ⟨d26, rfl⟩ := ((s59.curS (s := Sh.api_RuleO) 3 rfl)).val
    refine o_stB (us' := [(vi (Pu.W (1 + x1.2))), (vi (Pu.W (1 + x2.2))), vi x3.2, (vS d26 x17)]) 2 s59 rfl rfl rfl rfl rfl rfl rfl fun H35 s60 => ?_
    refine c_nil ?_
    obtain rfl := oJ e4
    exact k12 _ _ ⟨_, _, _, (Gw.refl _ _), (s60.pick [0, 1, 2, 3] rfl), h46, h47, h48, h50, h51⟩
   replace e4 := ib_f q28 e4
   refine c_sk ?_
   obtain rfl := oJ e4
   exact k12 _ _ ⟨_, _, _, Gw.refl _ _, (s54.pick [0, 1, 2, 3] rfl), h46, h47, h48, h50, h51⟩
  intro _ H32 i16
  obtain ⟨Z26, V26, w22, g26, s55, h53, h54, h55, h56, h57⟩ := i16
  refine c_end (c_r (o_add h57 rfl ?_))
  refine o_mv (v := (vi (Pu.W (x5 + 1)))) rfl ?_
  refine c_nil ?_
  obtain rfl := oJ e1
  exact k1 _ _ ⟨(iv rfl (w_sucR q5 q9)), _, _, _, _, (g9.trans (g10.trans (g11.trans (g12.trans (g13.trans (g24.trans (g25.trans g26))))))), s55, h53, h54, h55, h56, (h45.mono (g25.trans g26).z)⟩
 obtain ⟨hte0, Z29, V29, w25, w26, g29, s61, h61, h62, h63, h64, h60⟩ := jd
 refine c_sr (o_lss hte0 h64 (c_nil (c_sq ?_)))
 refine c_iff rfl (ran_done _) ?_
 refine c_ex ?_
 refine e_c ?_
 refine e_c ?_
 refine e_h ?_
 refine c_sr ?_
 obtain ⟨d27, rfl⟩ := ((s61.curS (s := Sh.api_RuleO) 3 rfl)).val
 refine o_ldB 2 s61 rfl h63 rfl rfl ?_
 refine o_stB (us' := [(vi (Pu.W (1 + x1.2))), (vi (Pu.W (1 + x2.2))), vi x3.2, (vS d27 y1.2)]) 0 s61 rfl h61 rfl rfl rfl rfl rfl fun H37 s62 => ?_
 refine c_nil (c_rt ?_)
 obtain rfl := oJ e
 exact ⟨.inr rfl, _, (arB 0 s62 rfl h61 rfl rfl), _, rfl, ((s62.pick [3] rfl).weak (g1.trans (g2.trans (g3.trans (g4.trans (g5.trans (g6.trans (g7.trans (g8.trans g29)))))))) hs.zv)⟩
/-! parlkeep5_plain -/
structure Nd.parlkeep5_plain (T : FuncId → Option AFunc) : Prop where
  own : Has T I.parlkeep5_plain F.parlkeep5_plain
set_option maxHeartbeats 1000000 in
theorem X.parlkeep5_plain {T : FuncId → Option AFunc} (nd : Nd.parlkeep5_plain T) {Z V : PH} {H : Hp} (hs : Sat Z V H []) {r : Ty.api_Grammar} (e : P.parlkeep5_plain = some r) :
    G T I.parlkeep5_plain [] H (fun rv H' => ∃ (u1 : Value), rv = (.agg #[vi r.Terms, vi r.Nons, vi r.Start, u1]) ∧ Sat Z V H' [It.sl (Sh.ro Sh.api_Rule) u1 r.Rules]) := by
 unfold P.parlkeep5_plain at e
 refine f_mk nd.own ?_
 refine c_sr ?_
 refine o_new hs fun b1 H1 s1 => ?_
 refine c_nil (c_sr ?_)
 refine o_bld (qs := [(0, 1, (.bool true))]) rfl rfl ?_
 refine o_bsl (s := (Sh.ro Sh.api_Sym)) (us := [(.bool true), vi 0]) (qs := [(0, 2, (.agg #[(.bool true), vi 0]))]) (xs := [(Ty.api_Sym.mk true 0)]) s1 (Sh.ro_lt _) rfl rfl rfl (Els.cons (c := [(.bool true), vi 0]) rfl Els.nil) rfl rfl fun w1 H2 s2 => ?_
 obtain ⟨d1, rfl⟩ := ((s2.curS (s := (Sh.ro Sh.api_Sym)) 0 rfl)).val
 refine o_bld (qs := [(1, 1, (.slice d1 [(Ty.api_Sym.mk true 0)].length [(Ty.api_Sym.mk true 0)].length))]) rfl rfl ?_
 refine o_bld (qs := [(0, 1, (.bool true)), (1, 1, (vi 1))]) rfl rfl ?_
 refine o_bld (qs := []) rfl rfl ?_
 refine o_bsl (s := (Sh.ro Sh.api_Sym)) (us := [(.bool true), vi 1, (.bool false), vi 0]) (qs := [(0, 2, (.agg #[(.bool true), vi 1])), (2, 2, (.agg #[(.bool false), vi 0]))]) (xs := [(Ty.api_Sym.mk true 1), (Ty.api_Sym.mk false 0)]) s2 (Sh.ro_lt _) rfl rfl rfl (Els.cons (c := [(.bool true), vi 1]) rfl (Els.cons (c := [(.bool false), vi 0]) rfl Els.nil)) rfl rfl fun w2 H3 s3 => ?_
 obtain ⟨d2, rfl⟩ := ((s3.curS (s := (Sh.ro Sh.api_Sym)) 0 rfl)).val
 refine o_bld (qs := [(1, 1, (.slice d2 [(Ty.api_Sym.mk true 1), (Ty.api_Sym.mk false 0)].length [(Ty.api_Sym.mk true 1), (Ty.api_Sym.mk false 0)].length))]) rfl rfl ?_
 obtain ⟨Z1, V1, g1, s4, h1⟩ := s3.frzS 1 rfl
 replace h1 := h1.of_ro
 obtain ⟨Z2, V2, g2, s5, h2⟩ := s4.frzS 0 rfl
 replace h2 := h2.of_ro
 refine o_bsl (s := (Sh.ro Sh.api_Rule)) (us := [vi 0, (.slice d1 [(Ty.api_Sym.mk true 0)].length [(Ty.api_Sym.mk true 0)].length), vi 0, (.slice d2 [(Ty.api_Sym.mk true 1), (Ty.api_Sym.mk false 0)].length [(Ty.api_Sym.mk true 1), (Ty.api_Sym.mk false 0)].length)]) (qs := [(0, 2, (.agg #[vi 0, (.slice d1 [(Ty.api_Sym.mk true 0)].length [(Ty.api_Sym.mk true 0)].length)])), (2, 2, (.agg #[vi 0, (.slice d2 [(Ty.api_Sym.mk true 1), (Ty.api_Sym.mk false 0)].length [(Ty.api_Sym.mk true 1), (Ty.api_Sym.mk false 0)].length)]))]) (xs := [(Ty.api_Rule.mk 0 [(Ty.api_Sym.mk true 0)]), (Ty.api_Rule.mk 0 [(Ty.api_Sym.mk true 1), (Ty.api_Sym.mk false 0)])]) s5 (Sh.ro_lt _) rfl rfl rfl (Els.cons (c := [vi 0, (.slice d1 [(Ty.api_Sym.mk true 0)].length [(Ty.api_Sym.mk true 0)].length)]) (Sh.api_Rule_cl (x := (Ty.api_Rule.mk 0 [(Ty.api_Sym.mk true 0)])) (h1.mono g2.z)) (Els.cons (c := [vi 0, (.slice d2 [(Ty.api_Sym.mk true 1), (Ty.api_Sym.mk false 0)].length [(Ty.api_Sym.mk true 1), (Ty.api_Sym.mk false 0)].length)]) (Sh.api_Rule_cl (x := (Ty.api_Rule.mk 0 [(Ty.api_Sym.mk true 1), (Ty.api_Sym.mk false 0)])) h2) Els.nil)) rfl rfl fun w3 H4 s6 => ?_
 obtain ⟨d3, rfl⟩ := ((s6.curS (s := (Sh.ro Sh.api_Rule)) 0 rfl)).val
 refine o_bld (qs := [(0, 1, (vi 2)), (1, 1, (vi 1)), (3, 1, (.slice d3 [(Ty.api_Rule.mk 0 [(Ty.api_Sym.mk true 0)]), (Ty.api_Rule.mk 0 [(Ty.api_Sym.mk true 1), (Ty.api_Sym.mk false 0)])].length [(Ty.api_Rule.mk 0 [(Ty.api_Sym.mk true 0)]), (Ty.api_Rule.mk 0 [(Ty.api_Sym.mk true 1), (Ty.api_Sym.mk false 0)])].length))]) rfl rfl ?_
 refine o_stB (us' := [vi 2, vi 1, vi 0, (.slice d3 [(Ty.api_Rule.mk 0 [(Ty.api_Sym.mk true 0)]), (Ty.api_Rule.mk 0 [(Ty.api_Sym.mk true 1), (Ty.api_Sym.mk false 0)])].length [(Ty.api_Rule.mk 0 [(Ty.api_Sym.mk true 0)]), (Ty.api_Rule.mk 0 [(Ty.api_Sym.mk true 1), (Ty.api_Sym.mk false 0)])].length)]) 1 s6 rfl rfl rfl rfl rfl rfl rfl fun H5 s7 => ?_
 refine c_nil ?_
 refine c_gen (P := fun tm => tm 0 = (pV b1 0) ∧ True) ⟨rfl, trivial⟩ ?_
 intro _ i1
 obtain ⟨h3, -⟩ := i1
 refine c_rt ?_
 obtain rfl := oJ e
 exact ⟨.inr rfl, _, (arB 1 s7 rfl h3 rfl rfl), _, rfl, ((s7.pick [0] rfl).weak (g1.trans g2) hs.zv)⟩
/-! parlkeep5_below -/
structure Nd.parlkeep5_below (T : FuncId → Option AFunc) : Prop where
  own : Has T I.parlkeep5_below F.parlkeep5_below
  parlmake_Below : Nd.parlmake_Below T
set_option maxHeartbeats 1000000 in
theorem X.parlkeep5_below {T : FuncId → Option AFunc} (nd : Nd.parlkeep5_below T) {Z V : PH} {H : Hp} {a0 : Int} {a1 : Int} (hs : Sat Z V H []) {r : Int} (e : P.parlkeep5_below a0 a1 = some r) :
    G T I.parlkeep5_below [vi a0, vi a1] H (fun rv H' => rv = (vi r) ∧ Sat Z V H' []) := by
 unfold P.parlkeep5_below at e
 refine f_mk nd.own ?_
 refine c_sr ?_
 refine o_mv (v := (vi 0)) rfl ?_
 refine c_nil (c_sr ?_)
 refine o_mv (v := (vi a0)) rfl ?_
 refine o_mv (v := (vi a1)) rfl ?_
 obtain ⟨x1, q1, e⟩ := oB e
 obtain ⟨Z1, V1, W1, g1, u1, c1, c2, -, c4, c3⟩ := Sat.call (l1 := []) hs
 refine o_call (mc rfl (mc rfl m0)) (X.parlmake_Below nd.parlmake_Below c1 q1) fun _ H1 i1 => ?_
 obtain ⟨rfl, s1⟩ := i1
 have s2 := c3 _ _ s1
 refine o_mv (v := (vi x1)) rfl ?_
 refine c_nil (c_rt ?_)
 obtain rfl := oJ e
 exact ⟨.inr rfl, _, (ar1 rfl), rfl, (s2.weak g1 hs.zv)⟩
/-! slices_Equal_api_Sym_api_Sym -/
structure Nd.slices_Equal_api_Sym_api_Sym (T : FuncId → Option AFunc) : Prop where
  own : Has T I.slices_Equal_api_Sym_api_Sym F.slices_Equal_api_Sym_api_Sym
set_option maxHeartbeats 1000000 in
theorem X.slices_Equal_api_Sym_api_Sym {T : FuncId → Option AFunc} (nd : Nd.slices_Equal_api_Sym_api_Sym T) {Z V : PH} {H : Hp} {v1 : Value} {v2 : Value} {a0 : (List Ty.api_Sym)} {a1 : (List Ty.api_Sym)} (hs : Sat Z V H []) (hp1 : RdS Sh.api_Sym V v1 a0) (hp2 : RdS Sh.api_Sym V v2 a1) {r : Bool} (e : P.slices_Equal_api_Sym_api_Sym a0 a1 = some r) :
    G T I.slices_Equal_api_Sym_api_Sym [v1, v2] H (fun rv H' => rv = (.bool r) ∧ Sat Z V H' []) := by
 unfold P.slices_Equal_api_Sym_api_Sym at e
 refine f_mk nd.own ?_
 refine c_sr ?_
 refine o_mv (v := (.bool false)) rfl ?_
 refine c_nil (c_sq (c_sr ?_))
 refine o_mv (v := v1) rfl ?_
 refine o_len rfl (hp1).len ?_
 refine o_mv (v := v2) rfl ?_
 refine o_len rfl (hp2).len (o_neq rfl rfl (c_nil ?_))
 refine c_ifd rfl (fun q1 => ?_) (fun q1 => ?_)
 ·replace e := if_t q1 e
  refine c_sr ?_
  refine o_mv (v := (.bool false)) rfl ?_
  refine c_nil (c_rt ?_)
  obtain rfl := oJ e
  exact ⟨.inr rfl, _, (ar1 rfl), rfl, hs⟩
 replace e := if_f q1 e
 refine c_sk (c_sq (c_sr ?_))
 refine o_mv (v := v1) rfl ?_
 refine o_len rfl (hp1).len ?_
 refine o_mv (v := (vi 0)) rfl ?_
 refine c_nil ?_
 obtain ⟨x2, q4, e⟩ := oB e
 obtain ⟨rfl, q6⟩ := ranO_some q4
 obtain ⟨y1, q7, e⟩ := oB e
 refine c_jn (I := fun tm H => ∃ (s3 : Unit), y1 = .out s3 ∧ (∃ (Z2 V2 : PH), Gw Z V Z2 V2 ∧ Sat Z2 V2 H [] ∧ tm 0 = v1 ∧ tm 1 = v2 ∧ tm 12 = (vN a0))) (fun k4 => ?_) ?_
 ·refine c_bk ?_
  refine l_forL (xs := (Pu.ran (a0.length : Int))) (fun (i1 : Nat) (s1 : Unit) tm H => tm 13 = vi i1 ∧ ∃ (Z1 V1 : PH), Gw Z V Z1 V1 ∧ Sat Z1 V1 H [] ∧ tm 0 = v1 ∧ tm 1 = v2 ∧ tm 12 = (vN a0)) (fun i1 x1 s1 y2 tm H2 q2 q3 j1 e1 k1 k2 k3 => ?_) (fun s1 tm H1 jf jd => ?_) q7 ⟨rfl, _, _, Gw.refl _ _, hs, rfl, rfl, rfl⟩
  ·obtain ⟨hti0, Z1, V1, g1, s2, h1, h2, h3⟩ := j1
   unfold P.slices_Equal_api_Sym_api_Sym.b0 at e1
   have hti0 := iv hti0 (ran_x q2).symm
   refine c_sr (o_lss hti0 h3 (c_nil (c_sq ?_)))
   refine c_ift rfl (ran_lt q2) ?_
   refine c_sk (c_sq (c_bk (c_sr (o_mv hti0 ?_))))
   refine o_mv (v := (vi x1)) rfl ?_
   refine c_nil (c_sq ?_)
   refine d_start s2 fun n1 H4 s5 q8 d1 => ?_
   refine d_mv h1 ?_
   refine d_mv (v := (vi x1)) rfl ?_
   obtain ⟨x3, q9, e1⟩ := oB e1
   refine d_idx (v := v1) rfl rfl (hp1.mono g1.v) rfl q9 fun p1 q10 => ?_
   refine d_lda (RdS.low (hp1.mono g1.v) s5.v q8) rfl hp1 (g1.v.trans s5.v) rfl q10 q9 fun c1 h7 => ?_
   obtain rfl := h7
   refine d_mv h2 ?_
   refine d_mv (v := (vi x1)) rfl ?_
   obtain ⟨x4, q11, e1⟩ := oB e1
   refine d_idx (v := v2) rfl rfl (hp2.mono g1.v) rfl q11 fun p2 q12 => ?_
   refine d_lda (RdS.low (hp2.mono g1.v) s5.v q8) rfl hp2 (g1.v.trans s5.v) rfl q12 q11 fun c2 h8 => ?_
   obtain rfl := h8
   refine d_eq (q_napi_Sym ..) rfl rfl ?_
   refine d_nil dc_nil ?_
   refine c_gen (P := fun tm => tm 0 = v1 ∧ tm 1 = v2 ∧ tm 12 = (vN a0) ∧ tm 13 = (vi x1) ∧ tm 24 = (.bool (!((x3.Term == x4.Term) && (x3.N == x4.N)))) ∧ True) ⟨h1, h2, h3, hti0, rfl, trivial⟩ ?_
   intro _ i2
   obtain ⟨h9, h10, h11, h12, h13, -⟩ := i2
   refine c_if h13 (fun q13 => ?_) (fun q13 => ?_)
   ·replace e1 := if_t q13 e1
    refine c_sr ?_
    refine o_mv (v := (.bool false)) rfl ?_
    refine c_nil (c_rt ?_)
    have e2 := fin_r (k3 _ (sJ e1)) e
    obtain rfl := oJ e2
    exact ⟨.inr rfl, _, (ar1 rfl), rfl, (s5.weak g1 hs.zv)⟩
   replace e1 := ib_f q13 e1
   refine c_sk (c_end (c_r (o_add h12 rfl ?_)))
   refine o_mv (v := (vi (Pu.W (x1 + 1)))) rfl ?_
   refine c_nil ?_
   exact k1 _ _ _ (sJ e1) ⟨(iv rfl (w_sucR q2 q6)), _, _, g1, s5, h9, h10, h11⟩
  ·obtain ⟨hte0, Z3, V3, g3, s6, h14, h15, h16⟩ := jd
   refine c_sr (o_lss hte0 h16 (c_nil (c_sq ?_)))
   refine c_iff rfl (ran_done _) ?_
   refine c_ex ?_
   refine e_c ?_
   refine e_c ?_
   refine e_h ?_
   exact k4 _ _ ⟨_, jf, _, _, g3, s6, h14, h15, h16⟩
 intro _ H3 i3
 obtain ⟨s3, f1, Z2, V2, g2, s4, h4, h5, h6⟩ := i3
 replace e := fin_o f1 e
 refine c_sr ?_
 refine o_mv (v := (.bool true)) rfl ?_
 refine c_nil (c_rt ?_)
 obtain rfl := oJ e
 exact ⟨.inr rfl, _, (ar1 rfl), rfl, (s4.weak g2 hs.zv)⟩
/-! parlkeep5_distinct_1 -/
structure Nd.parlkeep5_distinct_1 (T : FuncId → Option AFunc) : Prop where
  own : Has T I.parlkeep5_distinct_1 F.parlkeep5_distinct_1
  slices_Equal_api_Sym_api_Sym : Nd.slices_Equal_api_Sym_api_Sym T
set_option maxHeartbeats 1000000 in
theorem X.parlkeep5_distinct_1 {T : FuncId → Option AFunc} (nd : Nd.parlkeep5_distinct_1 T) {Z V : PH} {H : Hp} {v1 : Value} {v2 : Value} {o1 : Nat} {a0 : Ty.api_Rule} {a1 : Ty.api_Rule} (hs : Sat Z V H [pts o1 (.rw 0 [vi a1.Left, v2])]) (hp1 : RdS Sh.api_Sym V v1 a0.Right) (hp2 : RdS Sh.api_Sym V v2 a1.Right) {r : Bool} (e : P.parlkeep5_distinct_1 a0 a1 = some r) :
    G T I.parlkeep5_distinct_1 [(.agg #[vi a0.Left, v1]), (pV o1 0)] H (fun rv H' => rv = (.bool r) ∧ Sat Z V H' [pts o1 (.rw 0 [vi a1.Left, v2])]) := by
 unfold P.parlkeep5_distinct_1 at e
 refine f_mk nd.own ?_
 refine c_sr ?_
 obtain ⟨d1, rfl⟩ := (hp1).val
 refine o_box hs rfl rfl fun b1 H1 s1 => ?_
 refine o_mv (v := (.bool false)) rfl ?_
 refine c_nil (c_sr (o_fad rfl (o_ldB 0 s1 rfl rfl rfl rfl (o_fad rfl ?_))))
 obtain ⟨d2, rfl⟩ := (hp2).val
 refine o_ldB 1 s1 rfl rfl rfl rfl (o_eql rfl rfl ?_)
 refine o_mv (v := (.bool (decide (a0.Left = a1.Left)))) rfl ?_
 obtain ⟨y1, e1, e⟩ := oB e
 refine o_jn 6 (I := fun tm H => ∃ (Z1 V1 : PH), Gw Z V Z1 V1 ∧ Sat Z1 V1 H [pts o1 (.rw 0 [vi a1.Left, (vS d2 a1.Right)])] ∧ tm 15 = (.bool y1)) (fun k1 => ?_) ?_
 ·rcases Bool.eq_false_or_eq_true (decide (a0.Left = a1.Left)) with q1 | q1
  ·replace e1 := if_t q1 e1
   refine o_gy rfl q1 (o_fad rfl (o_gy rfl q1 (o_ldB 0 s1 rfl rfl rfl rfl (o_gy rfl q1 ?_))))
   refine o_fad rfl (o_gy rfl q1 (o_ldB 1 s1 rfl rfl rfl rfl (o_gy rfl q1 ?_)))
   obtain ⟨x1, q2, e1⟩ := oB e1
   obtain ⟨Z2, V2, W1, g2, u1, c1, c2, -, c4, c3⟩ := Sat.call (l1 := []) s1
   refine o_call (mc rfl (mc rfl m0)) (X.slices_Equal_api_Sym_api_Sym nd.slices_Equal_api_Sym_api_Sym c1 (hp1.mono (g2.v.trans u1)) (hp2.mono (g2.v.trans u1)) q2) fun _ H3 i1 => ?_
   obtain ⟨rfl, s3⟩ := i1
   have s4 := c3 _ _ s3
   refine o_pickt (a := (.bool x1)) rfl q1 rfl ?_
   obtain rfl := oJ e1
   exact k1 _ _ ⟨_, _, g2, (s4.pick [1] rfl), rfl⟩
  replace e1 := ib_f q1 e1
  refine o_gn rfl q1 (o_gn rfl q1 (o_gn rfl q1 (o_gn rfl q1 (o_gn rfl q1 ?_))))
  refine o_pickf (b := (.bool false)) rfl q1 rfl ?_
  obtain rfl := oJ e1
  exact k1 _ _ ⟨_, _, Gw.refl _ _, (s1.pick [1] rfl), rfl⟩
 intro _ H2 i2
 obtain ⟨Z1, V1, g1, s2, h1⟩ := i2
 refine o_mv h1 (c_nil (c_rt ?_))
 obtain rfl := oJ e
 exact ⟨.inr rfl, _, (ar1 rfl), rfl, (s2.weak g1 hs.zv)⟩
/-! slices_IndexFunc_api_Rule_api_Rule__parlkeep5_distinct_1 -/
structure Nd.slices_IndexFunc_api_Rule_api_Rule__parlkeep5_distinct_1 (T : FuncId → Option AFunc) : Prop where
  own : Has T I.slices_IndexFunc_api_Rule_api_Rule F.slices_IndexFunc_api_Rule_api_Rule
  parlkeep5_distinct_1 : Nd.parlkeep5_distinct_1 T
set_option maxHeartbeats 1000000 in
theorem X.slices_IndexFunc_api_Rule_api_Rule__parlkeep5_distinct_1 {T : FuncId → Option AFunc} (nd : Nd.slices_IndexFunc_api_Rule_api_Rule__parlkeep5_distinct_1 T) {Z V : PH} {H : Hp} {v1 : Value} {v2 : Value} {o1 : Nat} {a0 : (List Ty.api_Rule)} {a1c0 : Ty.api_Rule} (hs : Sat Z V H [pts o1 (.rw 0 [vi a1c0.Left, v2])]) (hp1 : RdS Sh.api_Rule V v1 a0) (hp2 : RdS Sh.api_Sym V v2 a1c0.Right) {r : Int} (e : P.slices_IndexFunc_api_Rule_api_Rule__parlkeep5_distinct_1 a0 a1c0 = some r) :
    G T I.slices_IndexFunc_api_Rule_api_Rule [v1, (.func (.func I.parlkeep5_distinct_1) #[] #[(pV o1 0)])] H (fun rv H' => rv = (vi r) ∧ Sat Z V H' [pts o1 (.rw 0 [vi a1c0.Left, v2])]) := by
 unfold P.slices_IndexFunc_api_Rule_api_Rule__parlkeep5_distinct_1 at e
 refine f_mk nd.own ?_
 refine c_sr ?_
 refine o_mv (v := (vi 0)) rfl ?_
 refine c_nil (c_sq (c_sr ?_))
 refine o_mv (v := v1) rfl ?_
 refine o_len rfl (hp1).len ?_
 refine o_mv (v := (vi 0)) rfl ?_
 refine c_nil ?_
 obtain ⟨x2, q3, e⟩ := oB e
 obtain ⟨rfl, q5⟩ := ranO_some q3
 obtain ⟨y1, q6, e⟩ := oB e
 refine c_jn (I := fun tm H => ∃ (s3 : Unit), y1 = .out s3 ∧ (∃ (Z2 V2 : PH), Gw Z V Z2 V2 ∧ Sat Z2 V2 H [pts o1 (.rw 0 [vi a1c0.Left, v2])] ∧ tm 0 = v1 ∧ tm 1 = (.func (.func I.parlkeep5_distinct_1) #[] #[(pV o1 0)]) ∧ tm 7 = (vN a0))) (fun k4 => ?_) ?_
 ·refine c_bk ?_
  refine l_forL (xs := (Pu.ran (a0.length : Int))) (fun (i1 : Nat) (s1 : Unit) tm H => tm 8 = vi i1 ∧ ∃ (Z1 V1 : PH), Gw Z V Z1 V1 ∧ Sat Z1 V1 H [pts o1 (.rw 0 [vi a1c0.Left, v2])] ∧ tm 0 = v1 ∧ tm 1 = (.func (.func I.parlkeep5_distinct_1) #[] #[(pV o1 0)]) ∧ tm 7 = (vN a0)) (fun i1 x1 s1 y2 tm H2 q1 q2 j1 e1 k1 k2 k3 => ?_) (fun s1 tm H1 jf jd => ?_) q6 ⟨rfl, _, _, Gw.refl _ _, hs, rfl, rfl, rfl⟩
  ·obtain ⟨hti0, Z1, V1, g1, s2, h1, h2, h3⟩ := j1
   unfold P.slices_IndexFunc_api_Rule_api_Rule__parlkeep5_distinct_1.b0 at e1
   have hti0 := iv hti0 (ran_x q1).symm
   refine c_sr (o_lss hti0 h3 (c_nil (c_sq ?_)))
   refine c_ift rfl (ran_lt q1) ?_
   refine c_sk (c_sq (c_bk (c_sr (o_mv hti0 ?_))))
   refine o_mv (v := (vi x1)) rfl ?_
   refine c_nil (c_sr (o_mv h2 (o_mv h1 ?_)))
   refine o_mv (v := (vi x1)) rfl ?_
   obtain ⟨x3, q7, e1⟩ := oB e1
   refine o_idx (v := v1) rfl rfl (hp1.mono g1.v) rfl q7 fun p1 q8 => ?_
   refine o_lda rfl (hp1.mono g1.v) s2.v rfl q8 q7 fun c1 h7 => ?_
   obtain ⟨w1, rfl, h8⟩ := Sh.api_Rule_op h7
   obtain ⟨x4, q9, e1⟩ := oB e1
   obtain ⟨d1, rfl⟩ := ((hp2.mono g1.v)).val
   obtain ⟨Z3, V3, W1, g3, u1, c2, c3, -, c5, c4⟩ := Sat.call (l1 := [pts o1 (.rw 0 [vi a1c0.Left, (vS d1 a1c0.Right)])]) (l2 := []) s2
   refine o_callv rfl (mc rfl m0) (X.parlkeep5_distinct_1 nd.parlkeep5_distinct_1 (a1 := a1c0) c2 (h8.mono (g3.v.trans u1)) (hp2.mono ((g1.trans g3).v.trans u1)) q9) fun _ H4 i2 => ?_
   obtain ⟨rfl, s5⟩ := i2
   have s6 := c4 _ _ s5
   refine c_nil ?_
   refine c_if rfl (fun q10 => ?_) (fun q10 => ?_)
   ·replace e1 := if_t q10 e1
    refine c_sr ?_
    refine o_mv (v := (vi x1)) rfl ?_
    refine o_mv (v := (vi x1)) rfl ?_
    refine c_nil ?_
    refine c_gen (P := fun tm => tm 4 = (vi x1) ∧ True) ⟨rfl, trivial⟩ ?_
    intro _ i3
    obtain ⟨h9, -⟩ := i3
    refine c_rt ?_
    have e2 := fin_r (k3 _ (sJ e1)) e
    obtain rfl := oJ e2
    exact ⟨.inr rfl, _, (ar1 h9), rfl, (s6.weak (g1.trans g3) hs.zv)⟩
   replace e1 := ib_f q10 e1
   refine c_sk (c_end (c_r (o_add hti0 rfl ?_)))
   refine o_mv (v := (vi (Pu.W (x1 + 1)))) rfl ?_
   refine c_nil ?_
   exact k1 _ _ _ (sJ e1) ⟨(iv rfl (w_sucR q1 q5)), _, _, (g1.trans g3), s6, h1, h2, h3⟩
  ·obtain ⟨hte0, Z4, V4, g4, s7, h10, h11, h12⟩ := jd
   refine c_sr (o_lss hte0 h12 (c_nil (c_sq ?_)))
   refine c_iff rfl (ran_done _) ?_
   refine c_ex ?_
   refine e_c ?_
   refine e_c ?_
   refine e_h ?_
   exact k4 _ _ ⟨_, jf, _, _, g4, s7, h10, h11, h12⟩
 intro _ H3 i4
 obtain ⟨s3, f1, Z2, V2, g2, s4, h4, h5, h6⟩ := i4
 replace e := fin_o f1 e
 refine c_sr ?_
 refine o_mv (v := (vi (-1))) rfl ?_
 refine c_nil (c_rt ?_)
 obtain ⟨d2, rfl⟩ := ((hp2.mono g2.v)).val
 obtain rfl := oJ e
 exact ⟨.inr rfl, _, (ar1 rfl), rfl, (s4.weak g2 hs.zv)⟩
/-! slices_ContainsFunc_api_Rule_api_Rule__parlkeep5_distinct_1 -/
structure Nd.slices_ContainsFunc_api_Rule_api_Rule__parlkeep5_distinct_1 (T : FuncId → Option AFunc) : Prop where
  own : Has T I.slices_ContainsFunc_api_Rule_api_Rule F.slices_ContainsFunc_api_Rule_api_Rule
  slices_IndexFunc_api_Rule_api_Rule__parlkeep5_distinct_1 : Nd.slices_IndexFunc_api_Rule_api_Rule__parlkeep5_distinct_1 T
set_option maxHeartbeats 1000000 in
theorem X.slices_ContainsFunc_api_Rule_api_Rule__parlkeep5_distinct_1 {T : FuncId → Option AFunc} (nd : Nd.slices_ContainsFunc_api_Rule_api_Rule__parlkeep5_distinct_1 T) {Z V : PH} {H : Hp} {v1 : Value} {v2 : Value} {o1 : Nat} {a0 : (List Ty.api_Rule)} {a1c0 : Ty.api_Rule} (hs : Sat Z V H [pts o1 (.rw 0 [vi a1c0.Left, v2])]) (hp1 : RdS Sh.api_Rule V v1 a0) (hp2 : RdS Sh.api_Sym V v2 a1c0.Right) {r : Bool} (e : P.slices_ContainsFunc_api_Rule_api_Rule__parlkeep5_distinct_1 a0 a1c0 = some r) :
    G T I.slices_ContainsFunc_api_Rule_api_Rule [v1, (.func (.func I.parlkeep5_distinct_1) #[] #[(pV o1 0)])] H (fun rv H' => rv = (.bool r) ∧ Sat Z V H' [pts o1 (.rw 0 [vi a1c0.Left, v2])]) := by
 unfold P.slices_ContainsFunc_api_Rule_api_Rule__parlkeep5_distinct_1 at e
 refine f_mk nd.own ?_
 refine c_sr ?_
 refine o_mv (v := (.bool false)) rfl ?_
 refine c_nil (c_sr ?_)
 refine o_mv (v := v1) rfl ?_
 refine o_mv (v := (.func (.func I.parlkeep5_distinct_1) #[] #[(pV o1 0)])) rfl ?_
 obtain ⟨x1, q1, e⟩ := oB e
 obtain ⟨d1, rfl⟩ := (hp2).val
 obtain ⟨Z1, V1, W1, g1, u1, c1, c2, -, c4, c3⟩ := Sat.call (l1 := [pts o1 (.rw 0 [vi a1c0.Left, (vS d1 a1c0.Right)])]) (l2 := []) hs
 refine o_call (mc rfl (mc rfl m0)) (X.slices_IndexFunc_api_Rule_api_Rule__parlkeep5_distinct_1 nd.slices_IndexFunc_api_Rule_api_Rule__parlkeep5_distinct_1 (a1c0 := a1c0) c1 (hp1.mono (g1.v.trans u1)) (hp2.mono (g1.v.trans u1)) q1) fun _ H1 i1 => ?_
 obtain ⟨rfl, s1⟩ := i1
 have s2 := c3 _ _ s1
 refine o_geq rfl rfl ?_
 refine o_mv (v := (.bool (decide (0 ≤ x1)))) rfl ?_
 refine c_nil (c_rt ?_)
 obtain rfl := oJ e
 exact ⟨.inr rfl, _, (ar1 rfl), rfl, (s2.weak g1 hs.zv)⟩
/-! parlkeep5_distinct -/
structure Nd.parlkeep5_distinct (T : FuncId → Option AFunc) : Prop where
  own : Has T I.parlkeep5_distinct F.parlkeep5_distinct
  slices_ContainsFunc_api_Rule_api_Rule__parlkeep5_distinct_1 : Nd.slices_ContainsFunc_api_Rule_api_Rule__parlkeep5_distinct_1 T
set_option maxHeartbeats 1000000 in
theorem X.parlkeep5_distinct {T : FuncId → Option AFunc} (nd : Nd.parlkeep5_distinct T) {Z V : PH} {H : Hp} {v1 : Value} {a0 : (List Ty.api_Rule)} (hs : Sat Z V H []) (hp1 : RdS Sh.api_Rule Z v1 a0) {r : (List Ty.api_Rule)} (e : P.parlkeep5_distinct a0 = some r) :
    G T I.parlkeep5_distinct [v1] H (fun rv H' => ∃ (u1 : Value), rv = u1 ∧ Sat Z V H' [It.sl (Sh.ro Sh.api_Rule) u1 r]) := by
 unfold P.parlkeep5_distinct at e
 refine f_mk nd.own ?_
 refine c_sr ?_
 refine o_mv (v := (.slice none 0 0)) rfl ?_
 refine c_nil (c_sr ?_)
 refine o_mv (v := (.slice none 0 0)) rfl ?_
 refine c_nil (c_sq (c_sr ?_))
 refine o_mv (v := v1) rfl ?_
 refine o_len rfl (hp1).len ?_
 refine o_mv (v := (vi 0)) rfl ?_
 refine c_nil ?_
 obtain ⟨y1, q3, e⟩ := oB e
 refine c_bk ?_
 refine l_forP (xs := a0) (fun (i1 : Nat) (s1 : (List Ty.api_Rule)) tm H => tm 8 = vi i1 ∧ ∃ (Z1 V1 : PH) (w1 : Value), Gw Z V Z1 V1 ∧ Sat Z1 V1 H [It.sl (Sh.ro Sh.api_Rule) w1 s1] ∧ tm 3 = w1 ∧ tm 6 = v1 ∧ tm 7 = (vN a0)) (fun i1 x1 s1 s3 tm H2 q1 q2 j1 e1 k1 => ?_) (fun tm H1 jd => ?_) q3 ⟨rfl, _, _, _, Gw.refl _ _, (hs.push (sl_nil (s := (Sh.ro Sh.api_Rule)))), rfl, rfl, rfl⟩
 ·obtain ⟨hti0, Z1, V1, w1, g1, s2, h1, h2, h3⟩ := j1
  unfold P.parlkeep5_distinct.b0 at e1
  refine c_sr (o_lss hti0 h3 (c_nil (c_sq ?_)))
  refine c_ift rfl (Int.ofNat_lt.2 q2) ?_
  refine c_sk (c_sq (c_bk (c_sr ?_)))
  refine o_idx (v := v1) h2 hti0 (hp1.mono g1.z) rfl (Pu.ix_nat.trans q1) fun p1 q4 => ?_
  refine o_lda rfl (hp1.mono g1.z) s2.z rfl q4 (Pu.ix_nat.trans q1) fun c1 h4 => ?_
  obtain ⟨w2, rfl, h5⟩ := Sh.api_Rule_op h4
  refine o_new s2 fun b1 H3 s4 => ?_
  obtain ⟨d1, rfl⟩ := (h5).val
  refine o_stB (us' := [vi x1.Left, (vS d1 x1.Right)]) 0 s4 rfl rfl rfl rfl rfl rfl rfl fun H4 s5 => ?_
  refine c_nil (c_sr (o_mv h1 (o_mkfn (mc rfl m0) ?_)))
  obtain ⟨x2, q5, e1⟩ := oB e1
  obtain ⟨Z2, V2, W1, g2, u1, c2, c3, -, c5, c4⟩ := Sat.call (l1 := [pts b1 (.rw 0 [vi x1.Left, (vS d1 x1.Right)])]) (l2 := [It.sl (Sh.ro Sh.api_Rule) w1 s1]) s5
  refine o_call (mc rfl (mc rfl m0)) (X.slices_ContainsFunc_api_Rule_api_Rule__parlkeep5_distinct_1 nd.slices_ContainsFunc_api_Rule_api_Rule__parlkeep5_distinct_1 (a1c0 := x1) c2 (c3 0 _ (Sh.ro Sh.api_Rule) _ _ rfl) (h5.mono (g2.z.trans c2.zv)) q5) fun _ H5 i2 => ?_
  obtain ⟨rfl, s6⟩ := i2
  have s7 := c4 _ _ s6
  refine o_not rfl (c_nil ?_)
  obtain ⟨y2, e2, e1⟩ := oB e1
  refine c_jn (I := fun tm H => ∃ (Z3 V3 : PH) (w3 : Value), Gw Z2 V2 Z3 V3 ∧ Sat Z3 V3 H [It.sl (Sh.ro Sh.api_Rule) w3 y2] ∧ tm 3 = w3 ∧ tm 6 = v1 ∧ tm 7 = (vN a0) ∧ tm 8 = (vJ i1)) (fun k2 => ?_) ?_
  ·refine c_if rfl (fun q6 => ?_) (fun q6 => ?_)
   ·replace e2 := if_t q6 e2
    refine c_r (o_mv h1 (o_ldB 0 s7 rfl rfl rfl rfl ?_))
    refine o_bsl (s := (Sh.ro Sh.api_Rule)) (us := [vi x1.Left, (vS d1 x1.Right)]) (qs := [(0, 2, (.agg #[vi x1.Left, (vS d1 x1.Right)]))]) (xs := [x1]) s7 (Sh.ro_lt _) rfl rfl rfl (Els.cons (c := [vi x1.Left, (vS d1 x1.Right)]) (Sh.api_Rule_cl (x := x1) (h5.mono g2.z)) Els.nil) rfl rfl fun w4 H7 s9 => ?_
    obtain ⟨Z4, V4, g4, s10, h10⟩ := s9.frzS 0 rfl
    replace h10 := h10.of_ro
    obtain ⟨x3, q7, e2⟩ := oB e2
    refine o_app 1 s10 rfl (Sh.ro_lt _) rfl rfl rfl rfl h10 s10.z (fun h => h) (by decide) q7 fun w5 H8 s11 => ?_
    refine o_mv (v := w5) rfl ?_
    refine c_nil ?_
    obtain rfl := oJ e2
    exact k2 _ _ ⟨_, _, _, g4, (s11.pick [1] rfl), rfl, h2, h3, hti0⟩
   replace e2 := ib_f q6 e2
   refine c_sk ?_
   obtain rfl := oJ e2
   exact k2 _ _ ⟨_, _, _, Gw.refl _ _, (s7.pick [1] rfl), h1, h2, h3, hti0⟩
  intro _ H6 i3
  obtain ⟨Z3, V3, w3, g3, s8, h6, h7, h8, h9⟩ := i3
  refine c_end (c_r (o_add h9 rfl ?_))
  refine o_mv (v := (vi (Pu.W ((i1 : Int) + 1)))) rfl ?_
  refine c_nil ?_
  obtain rfl := oJ e1
  exact k1 _ _ ⟨(iv rfl (w_suc q2 (hp1).bd)), _, _, _, (g1.trans (g2.trans g3)), s8, h6, h7, h8⟩
 obtain ⟨hte0, Z5, V5, w6, g5, s12, h11, h12, h13⟩ := jd
 refine c_sr (o_lss hte0 h13 (c_nil (c_sq ?_)))
 refine c_iff rfl (Int.lt_irrefl _) ?_
 refine c_ex ?_
 refine e_c ?_
 refine e_c ?_
 refine e_h ?_
 refine c_sr (o_mv h11 ?_)
 refine o_mv (v := w6) rfl ?_
 refine c_nil (c_rt ?_)
 obtain rfl := oJ e
 exact ⟨.inr rfl, _, (ar1 rfl), _, rfl, (s12.weak g5 hs.zv)⟩
/-! cmp_isNaN_int -/
structure Nd.cmp_isNaN_int (T : FuncId → Option AFunc) : Prop where
  own : Has T I.cmp_isNaN_int F.cmp_isNaN_int
set_option maxHeartbeats 1000000 in
theorem X.cmp_isNaN_int {T : FuncId → Option AFunc} (nd : Nd.cmp_isNaN_int T) {Z V : PH} {H : Hp} {a0 : Int} (hs : Sat Z V H []) {r : Bool} (e : P.cmp_isNaN_int a0 = some r) :
    G T I.cmp_isNaN_int [vi a0] H (fun rv H' => rv = (.bool r) ∧ Sat Z V H' []) := by
 unfold P.cmp_isNaN_int at e
 refine f_mk nd.own ?_
 refine c_sr ?_
 refine o_mv (v := (.bool false)) rfl ?_
 refine c_nil (c_sr ?_)
 refine o_mv (v := (vi a0)) rfl ?_
 refine o_mv (v := (vi a0)) rfl ?_
 refine o_neq rfl rfl ?_
 refine o_mv (v := (.bool (decide (a0 ≠ a0)))) rfl ?_
 refine c_nil (c_rt ?_)
 obtain rfl := oJ e
 exact ⟨.inr rfl, _, (ar1 rfl), rfl, hs⟩
/-! cmp_Compare_int -/
structure Nd.cmp_Compare_int (T : FuncId → Option AFunc) : Prop where
  own : Has T I.cmp_Compare_int F.cmp_Compare_int
  cmp_isNaN_int : Nd.cmp_isNaN_int T
set_option maxHeartbeats 1000000 in
theorem X.cmp_Compare_int {T : FuncId → Option AFunc} (nd : Nd.cmp_Compare_int T) {Z V : PH} {H : Hp} {a0 : Int} {a1 : Int} (hs : Sat Z V H []) {r : Int} (e : P.cmp_Compare_int a0 a1 = some r) :
    G T I.cmp_Compare_int [vi a0, vi a1] H (fun rv H' => rv = (vi r) ∧ Sat Z V H' []) := by
 unfold P.cmp_Compare_int at e
 refine f_mk nd.own ?_
 refine c_sr ?_
 refine o_mv (v := (vi 0)) rfl ?_
 refine c_nil (c_sr ?_)
 refine o_mv (v := (vi a0)) rfl ?_
 obtain ⟨x1, q1, e⟩ := oB e
 obtain ⟨Z1, V1, W1, g1, u1, c1, c2, -, c4, c3⟩ := Sat.call (l1 := []) hs
 refine o_call (mc rfl m0) (X.cmp_isNaN_int nd.cmp_isNaN_int c1 q1) fun _ H1 i1 => ?_
 obtain ⟨rfl, s1⟩ := i1
 have s2 := c3 _ _ s1
 refine o_mv (v := (.bool x1)) rfl ?_
 refine c_nil (c_sr ?_)
 refine o_mv (v := (vi a1)) rfl ?_
 obtain ⟨x2, q2, e⟩ := oB e
 obtain ⟨Z2, V2, W2, g2, u2, c5, c6, -, c8, c7⟩ := Sat.call (l1 := []) s2
 refine o_call (mc rfl m0) (X.cmp_isNaN_int nd.cmp_isNaN_int c5 q2) fun _ H2 i2 => ?_
 obtain ⟨rfl, s3⟩ := i2
 have s4 := c7 _ _ s3
 refine o_mv (v := (.bool x2)) rfl ?_
 refine c_nil (c_sq (c_sr ?_))
 refine o_mv (v := (.bool x1)) rfl ?_
 refine c_nil ?_
 refine c_if rfl (fun q3 => ?_) (fun q3 => ?_)
 ·replace e := if_t q3 e
  refine c_sq (c_sr ?_)
  refine o_mv (v := (.bool x2)) rfl ?_
  refine c_nil ?_
  refine c_if rfl (fun q4 => ?_) (fun q4 => ?_)
  ·replace e := if_t q4 e
   refine c_sr ?_
   refine o_mv (v := (vi 0)) rfl ?_
   refine c_nil ?_
   refine c_gen (P := fun tm => tm 4 = (vi 0) ∧ True) ⟨rfl, trivial⟩ ?_
   intro _ i3
   obtain ⟨h1, -⟩ := i3
   refine c_rt ?_
   obtain rfl := oJ e
   exact ⟨.inr rfl, _, (ar1 h1), rfl, (s4.weak (g1.trans g2) hs.zv)⟩
  replace e := ib_f q4 e
  refine c_sk (c_sr ?_)
  refine o_mv (v := (vi (-1))) rfl ?_
  refine c_nil ?_
  refine c_gen (P := fun tm => tm 4 = (vi (-1)) ∧ True) ⟨rfl, trivial⟩ ?_
  intro _ i4
  obtain ⟨h2, -⟩ := i4
  refine c_rt ?_
  obtain rfl := oJ e
  exact ⟨.inr rfl, _, (ar1 h2), rfl, (s4.weak (g1.trans g2) hs.zv)⟩
 replace e := ib_f q3 e
 refine c_sk (c_sq (c_sr ?_))
 refine o_mv (v := (.bool x2)) rfl ?_
 refine c_nil ?_
 refine c_if rfl (fun q5 => ?_) (fun q5 => ?_)
 ·replace e := if_t q5 e
  refine c_sr ?_
  refine o_mv (v := (vi 1)) rfl ?_
  refine c_nil ?_
  refine c_gen (P := fun tm => tm 4 = (vi 1) ∧ True) ⟨rfl, trivial⟩ ?_
  intro _ i5
  obtain ⟨h3, -⟩ := i5
  refine c_rt ?_
  obtain rfl := oJ e
  exact ⟨.inr rfl, _, (ar1 h3), rfl, (s4.weak (g1.trans g2) hs.zv)⟩
 replace e := ib_f q5 e
 refine c_sk (c_sq (c_sr ?_))
 refine o_mv (v := (vi a0)) rfl ?_
 refine o_mv (v := (vi a1)) rfl ?_
 refine o_lss rfl rfl (c_nil ?_)
 refine c_gen (P := fun tm => tm 0 = (vi a0) ∧ tm 1 = (vi a1) ∧ tm 16 = (.bool (decide (a0 < a1))) ∧ True) ⟨rfl, rfl, rfl, trivial⟩ ?_
 intro _ i6
 obtain ⟨h4, h5, h6, -⟩ := i6
 refine c_ifd h6 (fun q6 => ?_) (fun q6 => ?_)
 ·replace e := if_t q6 e
  refine c_sr ?_
  refine o_mv (v := (vi (-1))) rfl ?_
  refine c_nil (c_rt ?_)
  obtain rfl := oJ e
  exact ⟨.inr rfl, _, (ar1 rfl), rfl, (s4.weak (g1.trans g2) hs.zv)⟩
 replace e := if_f q6 e
 refine c_sk (c_sq (c_sr (o_mv h4 (o_mv h5 ?_))))
 refine o_gtr rfl rfl (c_nil ?_)
 refine c_ifd rfl (fun q7 => ?_) (fun q7 => ?_)
 ·replace e := if_t q7 e
  refine c_sr ?_
  refine o_mv (v := (vi 1)) rfl ?_
  refine c_nil (c_rt ?_)
  obtain rfl := oJ e
  exact ⟨.inr rfl, _, (ar1 rfl), rfl, (s4.weak (g1.trans g2) hs.zv)⟩
 replace e := if_f q7 e
 refine c_sk (c_sr ?_)
 refine o_mv (v := (vi 0)) rfl ?_
 refine c_nil (c_rt ?_)
 obtain rfl := oJ e
 exact ⟨.inr rfl, _, (ar1 rfl), rfl, (s4.weak (g1.trans g2) hs.zv)⟩
/-! gram_Order -/
structure Nd.gram_Order (T : FuncId → Option AFunc) : Prop where
  own : Has T I.gram_Order F.gram_Order
  cmp_Compare_int : Nd.cmp_Compare_int T
set_option maxHeartbeats 1000000 in
theorem X.gram_Order {T : FuncId → Option AFunc} (nd : Nd.gram_Order T) {Z V : PH} {H : Hp} {a0 : Ty.api_Sym} {a1 : Ty.api_Sym} (hs : Sat Z V H []) {r : Int} (e : P.gram_Order a0 a1 = some r) :
    G T I.gram_Order [(.agg #[(.bool a0.Term), vi a0.N]), (.agg #[(.bool a1.Term), vi a1.N])] H (fun rv H' => rv = (vi r) ∧ Sat Z V H' []) := by
 unfold P.gram_Order at e
 refine f_mk nd.own ?_
 refine c_sr ?_
 refine o_box hs rfl rfl fun b1 H1 s1 => ?_
 refine o_box s1 rfl rfl fun b2 H2 s2 => ?_
 refine o_mv (v := (vi 0)) rfl ?_
 refine c_nil (c_sq (c_bk (c_sr (o_fad rfl ?_))))
 refine o_ldB 1 s2 rfl rfl rfl rfl ?_
 refine o_mv (v := (.bool a0.Term)) rfl ?_
 refine o_jn 4 (I := fun tm H => tm 12 = .bool (a0.Term && (!a1.Term)) ∧ (∃ (Z1 V1 : PH), Gw Z V Z1 V1 ∧ Sat Z1 V1 H [pts b1 (.rw 0 [(.bool a0.Term), vi a0.N]), pts b2 (.rw 0 [(.bool a1.Term), vi a1.N])] ∧ tm 2 = (pV b1 0) ∧ tm 3 = (pV b2 0))) (fun k1 => ?_) ?_
 ·rcases Bool.eq_false_or_eq_true a0.Term with q1 | q1
  ·refine o_gy rfl q1 (o_fad rfl (o_gy rfl q1 (o_ldB 0 s2 rfl rfl rfl rfl (o_gy rfl q1 ?_))))
   refine o_not rfl ?_
   refine o_pickt (a := (.bool (!a1.Term))) rfl q1 rfl ?_
   exact k1 _ _ ⟨gf rfl (by first | (rw [q1]; first | done | rfl) | simp [q1]), _, _, Gw.refl _ _, (s2.pick [1, 0] rfl), rfl, rfl⟩
  refine o_gn rfl q1 (o_gn rfl q1 (o_gn rfl q1 ?_))
  refine o_pickf (b := (.bool false)) rfl q1 rfl ?_
  exact k1 _ _ ⟨gf rfl (by first | (rw [q1]; first | done | rfl) | simp [q1]), _, _, Gw.refl _ _, (s2.pick [1, 0] rfl), rfl, rfl⟩
 intro _ H3 i1
 obtain ⟨h3, Z1, V1, g1, s3, h1, h2⟩ := i1
 refine o_mv h3 (c_nil ?_)
 refine c_if rfl (fun q2 => ?_) (fun q2 => ?_)
 ·replace e := if_t q2 e
  refine c_sr ?_
  refine o_mv (v := (vi (-1))) rfl ?_
  refine c_nil (c_rt ?_)
  obtain rfl := oJ e
  exact ⟨.inr rfl, _, (ar1 rfl), rfl, ((s3.pick [] rfl).weak g1 hs.zv)⟩
 replace e := ib_f q2 e
 refine c_sr (o_fad h1 (o_ldB 0 s3 rfl rfl rfl rfl (o_not rfl ?_)))
 refine o_mv (v := (.bool (!a0.Term))) rfl ?_
 refine o_jn 3 (I := fun tm H => tm 20 = .bool ((!a0.Term) && a1.Term) ∧ (∃ (Z2 V2 : PH), Gw Z1 V1 Z2 V2 ∧ Sat Z2 V2 H [pts b1 (.rw 0 [(.bool a0.Term), vi a0.N]), pts b2 (.rw 0 [(.bool a1.Term), vi a1.N])] ∧ tm 2 = (pV b1 0) ∧ tm 3 = (pV b2 0))) (fun k2 => ?_) ?_
 ·rcases Bool.eq_false_or_eq_true (!a0.Term) with q3 | q3
  ·refine o_gy rfl q3 (o_fad h2 (o_gy rfl q3 (o_ldB 1 s3 rfl rfl rfl rfl ?_)))
   refine o_pickt (a := (.bool a1.Term)) rfl q3 rfl ?_
   exact k2 _ _ ⟨gf rfl (by first | (rw [q3]; first | done | rfl) | simp [q3]), _, _, Gw.refl _ _, s3, h1, h2⟩
  refine o_gn rfl q3 (o_gn rfl q3 ?_)
  refine o_pickf (b := (.bool false)) rfl q3 rfl ?_
  exact k2 _ _ ⟨gf rfl (by first | (rw [q3]; first | done | rfl) | simp [q3]), _, _, Gw.refl _ _, s3, h1, h2⟩
 intro _ H4 i2
 obtain ⟨h6, Z2, V2, g2, s4, h4, h5⟩ := i2
 refine o_mv h6 (c_nil ?_)
 refine c_if rfl (fun q4 => ?_) (fun q4 => ?_)
 ·replace e := if_t q4 e
  refine c_sr ?_
  refine o_mv (v := (vi 1)) rfl ?_
  refine c_nil (c_rt ?_)
  obtain rfl := oJ e
  exact ⟨.inr rfl, _, (ar1 rfl), rfl, ((s4.pick [] rfl).weak (g1.trans g2) hs.zv)⟩
 replace e := ib_f q4 e
 refine c_sk (c_end (c_sr (o_fad h4 (o_ldB 0 s4 rfl rfl rfl rfl ?_))))
 refine o_fad h5 (o_ldB 1 s4 rfl rfl rfl rfl ?_)
 obtain ⟨x1, q5, e⟩ := oB e
 obtain ⟨Z3, V3, W1, g3, u1, c1, c2, -, c4, c3⟩ := Sat.call (l1 := []) s4
 refine o_call (mc rfl (mc rfl m0)) (X.cmp_Compare_int nd.cmp_Compare_int c1 q5) fun _ H5 i3 => ?_
 obtain ⟨rfl, s5⟩ := i3
 have s6 := c3 _ _ s5
 refine o_mv (v := (vi x1)) rfl ?_
 refine c_nil (c_rt ?_)
 obtain rfl := oJ e
 exact ⟨.inr rfl, _, (ar1 rfl), rfl, ((s6.pick [] rfl).weak (g1.trans (g2.trans g3)) hs.zv)⟩
/-! slices_CompareFunc_api_Sym_api_Sym_api_Sym_api_Sym__gram_Order -/
structure Nd.slices_CompareFunc_api_Sym_api_Sym_api_Sym_api_Sym__gram_Order (T : FuncId → Option AFunc) : Prop where
  own : Has T I.slices_CompareFunc_api_Sym_api_Sym_api_Sym_api_Sym F.slices_CompareFunc_api_Sym_api_Sym_api_Sym_api_Sym
  gram_Order : Nd.gram_Order T
set_option maxHeartbeats 1000000 in
theorem X.slices_CompareFunc_api_Sym_api_Sym_api_Sym_api_Sym__gram_Order {T : FuncId → Option AFunc} (nd : Nd.slices_CompareFunc_api_Sym_api_Sym_api_Sym_api_Sym__gram_Order T) {Z V : PH} {H : Hp} {v1 : Value} {v2 : Value} {a0 : (List Ty.api_Sym)} {a1 : (List Ty.api_Sym)} (hs : Sat Z V H []) (hp1 : RdS Sh.api_Sym V v1 a0) (hp2 : RdS Sh.api_Sym V v2 a1) {r : Int} (e : P.slices_CompareFunc_api_Sym_api_Sym_api_Sym_api_Sym__gram_Order a0 a1 = some r) :
    G T I.slices_CompareFunc_api_Sym_api_Sym_api_Sym_api_Sym [v1, v2, (.func (.func I.gram_Order) #[] #[])] H (fun rv H' => rv = (vi r) ∧ Sat Z V H' []) := by
 unfold P.slices_CompareFunc_api_Sym_api_Sym_api_Sym_api_Sym__gram_Order at e
 refine f_mk nd.own ?_
 refine c_sr ?_
 refine o_mv (v := (vi 0)) rfl ?_
 refine c_nil (c_sq (c_sr ?_))
 refine o_mv (v := v1) rfl ?_
 refine o_len rfl (hp1).len ?_
 refine o_mv (v := (vi 0)) rfl ?_
 refine c_nil ?_
 obtain ⟨y1, q3, e⟩ := oB e
 refine c_jn (I := fun tm H => ∃ (s3 : Unit), y1 = .out s3 ∧ (∃ (Z2 V2 : PH), Gw Z V Z2 V2 ∧ Sat Z2 V2 H [] ∧ tm 0 = v1 ∧ tm 1 = v2 ∧ tm 2 = (.func (.func I.gram_Order) #[] #[]) ∧ tm 11 = v1 ∧ tm 12 = (vN a0))) (fun k4 => ?_) ?_
 ·refine c_bk ?_
  refine l_forL (xs := a0) (fun (i1 : Nat) (s1 : Unit) tm H => tm 13 = vi i1 ∧ ∃ (Z1 V1 : PH), Gw Z V Z1 V1 ∧ Sat Z1 V1 H [] ∧ tm 0 = v1 ∧ tm 1 = v2 ∧ tm 2 = (.func (.func I.gram_Order) #[] #[]) ∧ tm 11 = v1 ∧ tm 12 = (vN a0)) (fun i1 x1 s1 y2 tm H2 q1 q2 j1 e1 k1 k2 k3 => ?_) (fun s1 tm H1 jf jd => ?_) q3 ⟨rfl, _, _, Gw.refl _ _, hs, rfl, rfl, rfl, rfl, rfl⟩
  ·obtain ⟨hti0, Z1, V1, g1, s2, h1, h2, h3, h4, h5⟩ := j1
   unfold P.slices_CompareFunc_api_Sym_api_Sym_api_Sym_api_Sym__gram_Order.b0 at e1
   refine c_sr (o_lss hti0 h5 (c_nil (c_sq ?_)))
   refine c_ift rfl (Int.ofNat_lt.2 q2) ?_
   refine c_sk (c_sq (c_bk (c_sr (o_mv hti0 ?_))))
   refine o_idx (v := v1) h4 hti0 (hp1.mono g1.v) rfl (Pu.ix_nat.trans q1) fun p1 q4 => ?_
   refine o_lda rfl (hp1.mono g1.v) s2.v rfl q4 (Pu.ix_nat.trans q1) fun c1 h11 => ?_
   obtain rfl := h11
   refine o_new s2 fun b1 H4 s5 => ?_
   refine o_mv (v := (vJ i1)) rfl ?_
   refine o_stB (us' := [(.bool x1.Term), vi x1.N]) 0 s5 rfl rfl rfl rfl rfl rfl rfl fun H5 s6 => ?_
   refine c_nil (c_sq (c_sr ?_))
   refine o_mv (v := (vJ i1)) rfl ?_
   refine o_mv h2 (o_len rfl ((hp2.mono g1.v)).len (o_geq rfl rfl (c_nil ?_)))
   refine c_gen (P := fun tm => tm 0 = v1 ∧ tm 1 = v2 ∧ tm 2 = (.func (.func I.gram_Order) #[] #[]) ∧ tm 7 = (vJ i1) ∧ tm 8 = (pV b1 0) ∧ tm 11 = v1 ∧ tm 12 = (vN a0) ∧ tm 13 = (vJ i1) ∧ tm 21 = (.bool (decide ((a1.length : Int) ≤ (i1 : Int)))) ∧ True) ⟨h1, h2, h3, rfl, rfl, h4, h5, hti0, rfl, trivial⟩ ?_
   intro _ i2
   obtain ⟨h12, h13, h14, h15, h16, h17, h18, h19, h20, -⟩ := i2
   refine c_ifd h20 (fun q5 => ?_) (fun q5 => ?_)
   ·replace e1 := if_t q5 e1
    refine c_sr ?_
    refine o_mv (v := (vi 1)) rfl ?_
    refine c_nil (c_rt ?_)
    have e2 := fin_r (k3 _ (sJ e1)) e
    obtain rfl := oJ e2
    exact ⟨.inr rfl, _, (ar1 rfl), rfl, ((s6.pick [] rfl).weak g1 hs.zv)⟩
   replace e1 := if_f q5 e1
   refine c_sk (c_sr (o_mv h13 (o_mv h15 ?_)))
   obtain ⟨x2, q6, e1⟩ := oB e1
   refine o_idx (v := v2) rfl rfl (hp2.mono g1.v) rfl q6 fun p2 q7 => ?_
   refine o_lda rfl (hp2.mono g1.v) s6.v rfl q7 q6 fun c2 h21 => ?_
   obtain rfl := h21
   refine o_new s6 fun b2 H6 s7 => ?_
   refine o_stB (us' := [(.bool x2.Term), vi x2.N]) 0 s7 rfl rfl rfl rfl rfl rfl rfl fun H7 s8 => ?_
   refine c_nil (c_sr (o_mv h14 (o_ldB 1 s8 rfl h16 rfl rfl (o_ldB 0 s8 rfl rfl rfl rfl ?_))))
   obtain ⟨x3, q8, e1⟩ := oB e1
   obtain ⟨Z3, V3, W1, g3, u1, c3, c4, -, c6, c5⟩ := Sat.call (l1 := []) s8
   refine o_callv rfl (mc rfl (mc rfl m0)) (X.gram_Order nd.gram_Order c3 q8) fun _ H8 i3 => ?_
   obtain ⟨rfl, s9⟩ := i3
   have s10 := c5 _ _ s9
   refine o_mv (v := (vi x3)) rfl ?_
   refine c_nil ?_
   refine c_gen (P := fun tm => tm 0 = v1 ∧ tm 1 = v2 ∧ tm 2 = (.func (.func I.gram_Order) #[] #[]) ∧ tm 10 = (vi x3) ∧ tm 11 = v1 ∧ tm 12 = (vN a0) ∧ tm 13 = (vJ i1) ∧ True) ⟨h12, h13, h14, rfl, h17, h18, h19, trivial⟩ ?_
   intro _ i4
   obtain ⟨h22, h23, h24, h25, h26, h27, h28, -⟩ := i4
   refine c_sr (o_mv h25 (o_neq rfl rfl (c_nil ?_)))
   refine c_ifd rfl (fun q9 => ?_) (fun q9 => ?_)
   ·replace e1 := if_t q9 e1
    refine c_sr (o_mv h25 ?_)
    refine o_mv (v := (vi x3)) rfl ?_
    refine c_nil (c_rt ?_)
    have e3 := fin_r (k3 _ (sJ e1)) e
    obtain rfl := oJ e3
    exact ⟨.inr rfl, _, (ar1 rfl), rfl, ((s10.pick [] rfl).weak (g1.trans g3) hs.zv)⟩
   replace e1 := if_f q9 e1
   refine c_sk (c_end (c_r (o_add h28 rfl ?_)))
   refine o_mv (v := (vi (Pu.W ((i1 : Int) + 1)))) rfl ?_
   refine c_nil ?_
   exact k1 _ _ _ (sJ e1) ⟨(iv rfl (w_suc q2 (hp1).bd)), _, _, (g1.trans g3), (s10.pick [] rfl), h22, h23, h24, h26, h27⟩
  ·obtain ⟨hte0, Z4, V4, g4, s11, h29, h30, h31, h32, h33⟩ := jd
   refine c_sr (o_lss hte0 h33 (c_nil (c_sq ?_)))
   refine c_iff rfl (Int.lt_irrefl _) ?_
   refine c_ex ?_
   refine e_c ?_
   refine e_c ?_
   refine e_h ?_
   exact k4 _ _ ⟨_, jf, _, _, g4, s11, h29, h30, h31, h32, h33⟩
 intro _ H3 i5
 obtain ⟨s3, f1, Z2, V2, g2, s4, h6, h7, h8, h9, h10⟩ := i5
 replace e := fin_o f1 e
 refine c_sq (c_sr (o_mv h6 (o_len rfl ((hp1.mono g2.v)).len (o_mv h7 ?_))))
 refine o_len rfl ((hp2.mono g2.v)).len (o_lss rfl rfl (c_nil ?_))
 refine c_ifd rfl (fun q10 => ?_) (fun q10 => ?_)
 ·replace e := if_t q10 e
  refine c_sr ?_
  refine o_mv (v := (vi (-1))) rfl ?_
  refine c_nil (c_rt ?_)
  obtain rfl := oJ e
  exact ⟨.inr rfl, _, (ar1 rfl), rfl, (s4.weak g2 hs.zv)⟩
 replace e := if_f q10 e
 refine c_sk (c_sr ?_)
 refine o_mv (v := (vi 0)) rfl ?_
 refine c_nil (c_rt ?_)
 obtain rfl := oJ e
 exact ⟨.inr rfl, _, (ar1 rfl), rfl, (s4.weak g2 hs.zv)⟩
/-! gram_Compare -/
structure Nd.gram_Compare (T : FuncId → Option AFunc) : Prop where
  own : Has T I.gram_Compare F.gram_Compare
  cmp_Compare_int : Nd.cmp_Compare_int T
  slices_CompareFunc_api_Sym_api_Sym_api_Sym_api_Sym__gram_Order : Nd.slices_CompareFunc_api_Sym_api_Sym_api_Sym_api_Sym__gram_Order T
set_option maxHeartbeats 1000000 in
theorem X.gram_Compare {T : FuncId → Option AFunc} (nd : Nd.gram_Compare T) {Z V : PH} {H : Hp} {v1 : Value} {v2 : Value} {a0 : Ty.api_Rule} {a1 : Ty.api_Rule} (hs : Sat Z V H []) (hp1 : RdS Sh.api_Sym V v1 a0.Right) (hp2 : RdS Sh.api_Sym V v2 a1.Right) {r : Int} (e : P.gram_Compare a0 a1 = some r) :
    G T I.gram_Compare [(.agg #[vi a0.Left, v1]), (.agg #[vi a1.Left, v2])] H (fun rv H' => rv = (vi r) ∧ Sat Z V H' []) := by
 unfold P.gram_Compare at e
 refine f_mk nd.own ?_
 refine c_sr ?_
 obtain ⟨d1, rfl⟩ := (hp1).val
 refine o_box hs rfl rfl fun b1 H1 s1 => ?_
 obtain ⟨d2, rfl⟩ := (hp2).val
 refine o_box s1 rfl rfl fun b2 H2 s2 => ?_
 refine o_mv (v := (vi 0)) rfl ?_
 refine c_nil (c_sq (c_sr (o_fad rfl (o_ldB 1 s2 rfl rfl rfl rfl ?_))))
 refine o_fad rfl (o_ldB 0 s2 rfl rfl rfl rfl ?_)
 obtain ⟨x1, q1, e⟩ := oB e
 obtain ⟨Z1, V1, W1, g1, u1, c1, c2, -, c4, c3⟩ := Sat.call (l1 := []) s2
 refine o_call (mc rfl (mc rfl m0)) (X.cmp_Compare_int nd.cmp_Compare_int c1 q1) fun _ H3 i1 => ?_
 obtain ⟨rfl, s3⟩ := i1
 have s4 := c3 _ _ s3
 refine o_mv (v := (vi x1)) rfl ?_
 refine c_nil (c_sr ?_)
 refine o_mv (v := (vi x1)) rfl ?_
 refine o_neq rfl rfl (c_nil ?_)
 refine c_gen (P := fun tm => tm 2 = (pV b1 0) ∧ tm 3 = (pV b2 0) ∧ tm 5 = (vi x1) ∧ tm 12 = (.bool (decide (x1 ≠ 0))) ∧ True) ⟨rfl, rfl, rfl, rfl, trivial⟩ ?_
 intro _ i2
 obtain ⟨h1, h2, h3, h4, -⟩ := i2
 refine c_ifd h4 (fun q2 => ?_) (fun q2 => ?_)
 ·replace e := if_t q2 e
  refine c_sr (o_mv h3 ?_)
  refine o_mv (v := (vi x1)) rfl ?_
  refine c_nil (c_rt ?_)
  obtain rfl := oJ e
  exact ⟨.inr rfl, _, (ar1 rfl), rfl, ((s4.pick [] rfl).weak g1 hs.zv)⟩
 replace e := if_f q2 e
 refine c_sk (c_sr (o_fad h1 (o_ldB 1 s4 rfl rfl rfl rfl (o_fad h2 ?_))))
 refine o_ldB 0 s4 rfl rfl rfl rfl ?_
 obtain ⟨x2, q3, e⟩ := oB e
 obtain ⟨Z2, V2, W2, g2, u2, c5, c6, -, c8, c7⟩ := Sat.call (l1 := []) s4
 refine o_call (mc rfl (mc rfl (mc rfl m0))) (X.slices_CompareFunc_api_Sym_api_Sym_api_Sym_api_Sym__gram_Order nd.slices_CompareFunc_api_Sym_api_Sym_api_Sym_api_Sym__gram_Order c5 (hp1.mono ((g1.trans g2).v.trans u2)) (hp2.mono ((g1.trans g2).v.trans u2)) q3) fun _ H4 i3 => ?_
 obtain ⟨rfl, s5⟩ := i3
 have s6 := c7 _ _ s5
 refine o_mv (v := (vi x2)) rfl ?_
 refine c_nil (c_rt ?_)
 obtain rfl := oJ e
 exact ⟨.inr rfl, _, (ar1 rfl), rfl, ((s6.pick [] rfl).weak (g1.trans g2) hs.zv)⟩
/-! gram_Check -/
structure Nd.gram_Check (T : FuncId → Option AFunc) : Prop where
  own : Has T I.gram_Check F.gram_Check
  gram_Compare : Nd.gram_Compare T
set_option maxHeartbeats 1000000 in
theorem X.gram_Check {T : FuncId → Option AFunc} (nd : Nd.gram_Check T) {Z V : PH} {H : Hp} {v1 : Value} {a0 : Ty.api_Grammar} (hs : Sat Z V H []) (hp1 : RdS Sh.api_Rule V v1 a0.Rules) {r : Int} (e : P.gram_Check a0 = some r) :
    G T I.gram_Check [(.agg #[vi a0.Terms, vi a0.Nons, vi a0.Start, v1])] H (fun rv H' => rv = (vi r) ∧ Sat Z V H' []) := by
 unfold P.gram_Check at e
 refine f_mk nd.own ?_
 refine c_sr ?_
 obtain ⟨d1, rfl⟩ := (hp1).val
 refine o_box hs rfl rfl fun b1 H1 s1 => ?_
 refine o_mv (v := (vi 0)) rfl ?_
 refine c_nil (c_sq (c_sr (o_fad rfl (o_ldB 0 s1 rfl rfl rfl rfl ?_))))
 refine o_lss rfl rfl ?_
 refine o_mv (v := (.bool (decide (a0.Terms < 1)))) rfl ?_
 refine o_jn 4 (I := fun tm H => tm 16 = .bool ((decide (a0.Terms < 1)) || (decide (8 < a0.Terms))) ∧ (∃ (Z1 V1 : PH), Gw Z V Z1 V1 ∧ Sat Z1 V1 H [pts b1 (.rw 0 [vi a0.Terms, vi a0.Nons, vi a0.Start, (vS d1 a0.Rules)])] ∧ tm 1 = (pV b1 0))) (fun k1 => ?_) ?_
 ·rcases Bool.eq_false_or_eq_true (decide (a0.Terms < 1)) with q1 | q1
  ·refine o_gn rfl q1 (o_gn rfl q1 (o_gn rfl q1 ?_))
   refine o_pickt (a := (.bool true)) rfl q1 rfl ?_
   exact k1 _ _ ⟨gf rfl (by first | (rw [q1]; first | done | rfl) | simp [q1]), _, _, Gw.refl _ _, s1, rfl⟩
  refine o_gy rfl q1 (o_fad rfl (o_gy rfl q1 (o_ldB 0 s1 rfl rfl rfl rfl (o_gy rfl q1 ?_))))
  refine o_gtr rfl rfl ?_
  refine o_pickf (b := (.bool (decide (8 < a0.Terms)))) rfl q1 rfl ?_
  exact k1 _ _ ⟨gf rfl (by first | (rw [q1]; first | done | rfl) | simp [q1]), _, _, Gw.refl _ _, s1, rfl⟩
 intro _ H2 i1
 obtain ⟨h2, Z1, V1, g1, s2, h1⟩ := i1
 refine o_mv h2 ?_
 refine o_jn 4 (I := fun tm H => tm 21 = .bool (((decide (a0.Terms < 1)) || (decide (8 < a0.Terms))) || (decide (a0.Nons < 1))) ∧ (∃ (Z2 V2 : PH), Gw Z1 V1 Z2 V2 ∧ Sat Z2 V2 H [pts b1 (.rw 0 [vi a0.Terms, vi a0.Nons, vi a0.Start, (vS d1 a0.Rules)])] ∧ tm 1 = (pV b1 0))) (fun k2 => ?_) ?_
 ·rcases Bool.eq_false_or_eq_true ((decide (a0.Terms < 1)) || (decide (8 < a0.Terms))) with q2 | q2
  ·refine o_gn rfl q2 (o_gn rfl q2 (o_gn rfl q2 ?_))
   refine o_pickt (a := (.bool true)) rfl q2 rfl ?_
   exact k2 _ _ ⟨gf rfl (by first | (rw [q2]; first | done | rfl) | simp [q2]), _, _, Gw.refl _ _, s2, h1⟩
  refine o_gy rfl q2 (o_fad h1 (o_gy rfl q2 (o_ldB 0 s2 rfl rfl rfl rfl (o_gy rfl q2 ?_))))
  refine o_lss rfl rfl ?_
  refine o_pickf (b := (.bool (decide (a0.Nons < 1)))) rfl q2 rfl ?_
  exact k2 _ _ ⟨gf rfl (by first | (rw [q2]; first | done | rfl) | simp [q2]), _, _, Gw.refl _ _, s2, h1⟩
 intro _ H3 i2
 obtain ⟨h4, Z2, V2, g2, s3, h3⟩ := i2
 refine o_mv h4 ?_
 refine o_jn 4 (I := fun tm H => tm 26 = .bool ((((decide (a0.Terms < 1)) || (decide (8 < a0.Terms))) || (decide (a0.Nons < 1))) || (decide (10 < a0.Nons))) ∧ (∃ (Z3 V3 : PH), Gw Z2 V2 Z3 V3 ∧ Sat Z3 V3 H [pts b1 (.rw 0 [vi a0.Terms, vi a0.Nons, vi a0.Start, (vS d1 a0.Rules)])] ∧ tm 1 = (pV b1 0))) (fun k3 => ?_) ?_
 ·rcases Bool.eq_false_or_eq_true (((decide (a0.Terms < 1)) || (decide (8 < a0.Terms))) || (decide (a0.Nons < 1))) with q3 | q3
  ·refine o_gn rfl q3 (o_gn rfl q3 (o_gn rfl q3 ?_))
   refine o_pickt (a := (.bool true)) rfl q3 rfl ?_
   exact k3 _ _ ⟨gf rfl (by first | (rw [q3]; first | done | rfl) | simp [q3]), _, _, Gw.refl _ _, s3, h3⟩
  refine o_gy rfl q3 (o_fad h3 (o_gy rfl q3 (o_ldB 0 s3 rfl rfl rfl rfl (o_gy rfl q3 ?_))))
  refine o_gtr rfl rfl ?_
  refine o_pickf (b := (.bool (decide (10 < a0.Nons)))) rfl q3 rfl ?_
  exact k3 _ _ ⟨gf rfl (by first | (rw [q3]; first | done | rfl) | simp [q3]), _, _, Gw.refl _ _, s3, h3⟩
 intro _ H4 i3
 obtain ⟨h6, Z3, V3, g3, s4, h5⟩ := i3
 refine o_mv h6 ?_
 refine o_jn 4 (I := fun tm H => tm 31 = .bool (((((decide (a0.Terms < 1)) || (decide (8 < a0.Terms))) || (decide (a0.Nons < 1))) || (decide (10 < a0.Nons))) || (decide (a0.Start < 0))) ∧ (∃ (Z4 V4 : PH), Gw Z3 V3 Z4 V4 ∧ Sat Z4 V4 H [pts b1 (.rw 0 [vi a0.Terms, vi a0.Nons, vi a0.Start, (vS d1 a0.Rules)])] ∧ tm 1 = (pV b1 0))) (fun k4 => ?_) ?_
 ·rcases Bool.eq_false_or_eq_true ((((decide (a0.Terms < 1)) || (decide (8 < a0.Terms))) || (decide (a0.Nons < 1))) || (decide (10 < a0.Nons))) with q4 | q4
  ·refine o_gn rfl q4 (o_gn rfl q4 (o_gn rfl q4 ?_))
   refine o_pickt (a := (.bool true)) rfl q4 rfl ?_
   exact k4 _ _ ⟨gf rfl (by first | (rw [q4]; first | done | rfl) | simp [q4]), _, _, Gw.refl _ _, s4, h5⟩
  refine o_gy rfl q4 (o_fad h5 (o_gy rfl q4 (o_ldB 0 s4 rfl rfl rfl rfl (o_gy rfl q4 ?_))))
  refine o_lss rfl rfl ?_
  refine o_pickf (b := (.bool (decide (a0.Start < 0)))) rfl q4 rfl ?_
  exact k4 _ _ ⟨gf rfl (by first | (rw [q4]; first | done | rfl) | simp [q4]), _, _, Gw.refl _ _, s4, h5⟩
 intro _ H5 i4
 obtain ⟨h8, Z4, V4, g4, s5, h7⟩ := i4
 refine o_mv h8 ?_
 refine o_jn 6 (I := fun tm H => tm 38 = .bool ((((((decide (a0.Terms < 1)) || (decide (8 < a0.Terms))) || (decide (a0.Nons < 1))) || (decide (10 < a0.Nons))) || (decide (a0.Start < 0))) || (decide (a0.Nons ≤ a0.Start))) ∧ (∃ (Z5 V5 : PH), Gw Z4 V4 Z5 V5 ∧ Sat Z5 V5 H [pts b1 (.rw 0 [vi a0.Terms, vi a0.Nons, vi a0.Start, (vS d1 a0.Rules)])] ∧ tm 1 = (pV b1 0))) (fun k5 => ?_) ?_
 ·rcases Bool.eq_false_or_eq_true (((((decide (a0.Terms < 1)) || (decide (8 < a0.Terms))) || (decide (a0.Nons < 1))) || (decide (10 < a0.Nons))) || (decide (a0.Start < 0))) with q5 | q5
  ·refine o_gn rfl q5 (o_gn rfl q5 (o_gn rfl q5 (o_gn rfl q5 (o_gn rfl q5 ?_))))
   refine o_pickt (a := (.bool true)) rfl q5 rfl ?_
   exact k5 _ _ ⟨gf rfl (by first | (rw [q5]; first | done | rfl) | simp [q5]), _, _, Gw.refl _ _, s5, h7⟩
  refine o_gy rfl q5 (o_fad h7 (o_gy rfl q5 (o_ldB 0 s5 rfl rfl rfl rfl (o_gy rfl q5 ?_))))
  refine o_fad h7 (o_gy rfl q5 (o_ldB 0 s5 rfl rfl rfl rfl (o_gy rfl q5 (o_geq rfl rfl ?_))))
  refine o_pickf (b := (.bool (decide (a0.Nons ≤ a0.Start)))) rfl q5 rfl ?_
  exact k5 _ _ ⟨gf rfl (by first | (rw [q5]; first | done | rfl) | simp [q5]), _, _, Gw.refl _ _, s5, h7⟩
 intro _ H6 i5
 obtain ⟨h10, Z5, V5, g5, s6, h9⟩ := i5
 refine c_nil ?_
 refine c_if h10 (fun q6 => ?_) (fun q6 => ?_)
 ·replace e := if_t q6 e
  refine c_sr ?_
  refine o_mv (v := (vi 1)) rfl ?_
  refine c_nil (c_rt ?_)
  obtain rfl := oJ e
  exact ⟨.inr rfl, _, (ar1 rfl), rfl, ((s6.pick [] rfl).weak (g1.trans (g2.trans (g3.trans (g4.trans g5)))) hs.zv)⟩
 replace e := ib_f q6 e
 refine c_sk (c_sq (c_sr (o_fad h9 (o_ldB 0 s6 rfl rfl rfl rfl ?_))))
 refine o_len rfl ((hp1.mono (g1.trans (g2.trans (g3.trans (g4.trans g5)))).v)).len (o_gtr rfl rfl (c_nil ?_))
 refine c_ifd rfl (fun q7 => ?_) (fun q7 => ?_)
 ·replace e := if_t q7 e
  refine c_sr ?_
  refine o_mv (v := (vi 2)) rfl ?_
  refine c_nil (c_rt ?_)
  obtain rfl := oJ e
  exact ⟨.inr rfl, _, (ar1 rfl), rfl, ((s6.pick [] rfl).weak (g1.trans (g2.trans (g3.trans (g4.trans g5)))) hs.zv)⟩
 replace e := if_f q7 e
 refine c_sk (c_sq (c_sr (o_fad h9 (o_ldB 0 s6 rfl rfl rfl rfl ?_))))
 refine o_len rfl ((hp1.mono (g1.trans (g2.trans (g3.trans (g4.trans g5)))).v)).len ?_
 refine o_mv (v := (vi 0)) rfl ?_
 refine c_nil ?_
 obtain ⟨y1, q10, e⟩ := oB e
 refine c_jn (I := fun tm H => ∃ (s9 : Unit), y1 = .out s9 ∧ (∃ (Z7 V7 : PH), Gw Z5 V5 Z7 V7 ∧ Sat Z7 V7 H [pts b1 (.rw 0 [vi a0.Terms, vi a0.Nons, vi a0.Start, (vS d1 a0.Rules)])] ∧ tm 1 = (pV b1 0) ∧ tm 44 = (vS d1 a0.Rules) ∧ tm 45 = (vN a0.Rules))) (fun k9 => ?_) ?_
 ·refine c_bk ?_
  refine l_forL (xs := a0.Rules) (fun (i6 : Nat) (s7 : Unit) tm H => tm 46 = vi i6 ∧ ∃ (Z6 V6 : PH), Gw Z5 V5 Z6 V6 ∧ Sat Z6 V6 H [pts b1 (.rw 0 [vi a0.Terms, vi a0.Nons, vi a0.Start, (vS d1 a0.Rules)])] ∧ tm 1 = (pV b1 0) ∧ tm 44 = (vS d1 a0.Rules) ∧ tm 45 = (vN a0.Rules)) (fun i6 x1 s7 y2 tm H8 q8 q9 j1 e1 k6 k7 k8 => ?_) (fun s7 tm H7 jf jd => ?_) q10 ⟨rfl, _, _, Gw.refl _ _, s6, h9, rfl, rfl⟩
  ·obtain ⟨hti0, Z6, V6, g6, s8, h11, h12, h13⟩ := j1
   unfold P.gram_Check.b0 at e1
   refine c_sr (o_lss hti0 h13 (c_nil (c_sq ?_)))
   refine c_ift rfl (Int.ofNat_lt.2 q9) ?_
   refine c_sk (c_sq (c_bk (c_sr (o_mv hti0 ?_))))
   refine o_idx (v := (vS d1 a0.Rules)) h12 hti0 (hp1.mono (g1.trans (g2.trans (g3.trans (g4.trans (g5.trans g6))))).v) rfl (Pu.ix_nat.trans q8) fun p1 q11 => ?_
   refine o_lda rfl (hp1.mono (g1.trans (g2.trans (g3.trans (g4.trans (g5.trans g6))))).v) s8.v rfl q11 (Pu.ix_nat.trans q8) fun c1 h17 => ?_
   obtain ⟨w1, rfl, h18⟩ := Sh.api_Rule_op h17
   refine o_new s8 fun b2 H10 s11 => ?_
   refine o_mv (v := (vJ i6)) rfl ?_
   obtain ⟨d2, rfl⟩ := (h18).val
   refine o_stB (us' := [vi x1.Left, (vS d2 x1.Right)]) 0 s11 rfl rfl rfl rfl rfl rfl rfl fun H11 s12 => ?_
   refine c_nil (c_sq (c_sr (o_fad rfl (o_ldB 0 s12 rfl rfl rfl rfl ?_))))
   refine o_lss rfl rfl ?_
   refine o_mv (v := (.bool (decide (x1.Left < 0)))) rfl ?_
   refine o_jn 6 (I := fun tm H => tm 60 = .bool ((decide (x1.Left < 0)) || (decide (a0.Nons ≤ x1.Left))) ∧ (∃ (Z8 V8 : PH), Gw Z6 V6 Z8 V8 ∧ Sat Z8 V8 H [pts b1 (.rw 0 [vi a0.Terms, vi a0.Nons, vi a0.Start, (vS d1 a0.Rules)]), pts b2 (.rw 0 [vi x1.Left, (vS d2 x1.Right)])] ∧ tm 1 = (pV b1 0) ∧ tm 3 = (vJ i6) ∧ tm 4 = (pV b2 0) ∧ tm 44 = (vS d1 a0.Rules) ∧ tm 45 = (vN a0.Rules) ∧ tm 46 = (vJ i6))) (fun k10 => ?_) ?_
   ·rcases Bool.eq_false_or_eq_true (decide (x1.Left < 0)) with q12 | q12
    ·refine o_gn rfl q12 (o_gn rfl q12 (o_gn rfl q12 (o_gn rfl q12 (o_gn rfl q12 ?_))))
     refine o_pickt (a := (.bool true)) rfl q12 rfl ?_
     exact k10 _ _ ⟨gf rfl (by first | (rw [q12]; first | done | rfl) | simp [q12]), _, _, Gw.refl _ _, (s12.pick [1, 0] rfl), h11, rfl, rfl, h12, h13, hti0⟩
    refine o_gy rfl q12 (o_fad rfl (o_gy rfl q12 (o_ldB 0 s12 rfl rfl rfl rfl (o_gy rfl q12 ?_))))
    refine o_fad h11 (o_gy rfl q12 (o_ldB 1 s12 rfl rfl rfl rfl (o_gy rfl q12 (o_geq rfl rfl ?_))))
    refine o_pickf (b := (.bool (decide (a0.Nons ≤ x1.Left)))) rfl q12 rfl ?_
    exact k10 _ _ ⟨gf rfl (by first | (rw [q12]; first | done | rfl) | simp [q12]), _, _, Gw.refl _ _, (s12.pick [1, 0] rfl), h11, rfl, rfl, h12, h13, hti0⟩
   intro _ H12 i7
   obtain ⟨h25, Z8, V8, g8, s13, h19, h20, h21, h22, h23, h24⟩ := i7
   refine c_nil ?_
   refine c_if h25 (fun q13 => ?_) (fun q13 => ?_)
   ·replace e1 := if_t q13 e1
    refine c_sr ?_
    refine o_mv (v := (vi 3)) rfl ?_
    refine c_nil (c_rt ?_)
    have e2 := fin_r (k8 _ (sJ e1)) e
    obtain rfl := oJ e2
    exact ⟨.inr rfl, _, (ar1 rfl), rfl, ((s13.pick [] rfl).weak (g1.trans (g2.trans (g3.trans (g4.trans (g5.trans (g6.trans g8)))))) hs.zv)⟩
   replace e1 := ib_f q13 e1
   refine c_sk (c_sq (c_sr (o_fad h21 (o_ldB 1 s13 rfl rfl rfl rfl ?_))))
   refine o_len rfl ((h18.mono g8.v)).len (o_gtr rfl rfl (c_nil ?_))
   refine c_ifd rfl (fun q14 => ?_) (fun q14 => ?_)
   ·replace e1 := if_t q14 e1
    refine c_sr ?_
    refine o_mv (v := (vi 2)) rfl ?_
    refine c_nil (c_rt ?_)
    have e3 := fin_r (k8 _ (sJ e1)) e
    obtain rfl := oJ e3
    exact ⟨.inr rfl, _, (ar1 rfl), rfl, ((s13.pick [] rfl).weak (g1.trans (g2.trans (g3.trans (g4.trans (g5.trans (g6.trans g8)))))) hs.zv)⟩
   replace e1 := if_f q14 e1
   refine c_sk (c_sq (c_sr (o_fad h21 (o_ldB 1 s13 rfl rfl rfl rfl ?_))))
   refine o_len rfl ((h18.mono g8.v)).len ?_
   refine o_mv (v := (vi 0)) rfl ?_
   refine c_nil ?_
   obtain ⟨y3, q17, e1⟩ := oB e1
   refine c_jn (I := fun tm H => ∃ (s16 : Unit), y3 = .out s16 ∧ (∃ (Z10 V10 : PH), Gw Z8 V8 Z10 V10 ∧ Sat Z10 V10 H [pts b1 (.rw 0 [vi a0.Terms, vi a0.Nons, vi a0.Start, (vS d1 a0.Rules)]), pts b2 (.rw 0 [vi x1.Left, (vS d2 x1.Right)])] ∧ tm 1 = (pV b1 0) ∧ tm 3 = (vJ i6) ∧ tm 4 = (pV b2 0) ∧ tm 44 = (vS d1 a0.Rules) ∧ tm 45 = (vN a0.Rules) ∧ tm 46 = (vJ i6) ∧ tm 66 = (vS d2 x1.Right) ∧ tm 67 = (vN x1.Right))) (fun k14 => ?_) ?_
   ·refine c_bk ?_
    refine l_forL (xs := x1.Right) (fun (i8 : Nat) (s14 : Unit) tm H => tm 68 = vi i8 ∧ ∃ (Z9 V9 : PH), Gw Z8 V8 Z9 V9 ∧ Sat Z9 V9 H [pts b1 (.rw 0 [vi a0.Terms, vi a0.Nons, vi a0.Start, (vS d1 a0.Rules)]), pts b2 (.rw 0 [vi x1.Left, (vS d2 x1.Right)])] ∧ tm 1 = (pV b1 0) ∧ tm 3 = (vJ i6) ∧ tm 4 = (pV b2 0) ∧ tm 44 = (vS d1 a0.Rules) ∧ tm 45 = (vN a0.Rules) ∧ tm 46 = (vJ i6) ∧ tm 66 = (vS d2 x1.Right) ∧ tm 67 = (vN x1.Right)) (fun i8 x2 s14 y4 tm H14 q15 q16 j2 e4 k11 k12 k13 => ?_) (fun s14 tm H13 jf jd => ?_) q17 ⟨rfl, _, _, Gw.refl _ _, s13, h19, h20, h21, h22, h23, h24, rfl, rfl⟩
    ·obtain ⟨hti1, Z9, V9, g9, s15, h26, h27, h28, h29, h30, h31, h32, h33⟩ := j2
     unfold P.gram_Check.b1 at e4
     refine c_sr (o_lss hti1 h33 (c_nil (c_sq ?_)))
     refine c_ift rfl (Int.ofNat_lt.2 q16) ?_
     refine c_sk (c_sq (c_bk (c_sr ?_)))
     refine o_idx (v := (vS d2 x1.Right)) h32 hti1 (h18.mono (g8.trans g9).v) rfl (Pu.ix_nat.trans q15) fun p2 q18 => ?_
     refine o_lda rfl (h18.mono (g8.trans g9).v) s15.v rfl q18 (Pu.ix_nat.trans q15) fun c2 h42 => ?_
     obtain rfl := h42
     refine o_new s15 fun b3 H16 s18 => ?_
     refine o_stB (us' := [(.bool x2.Term), vi x2.N]) 0 s18 rfl rfl rfl rfl rfl rfl rfl fun H17 s19 => ?_
     refine c_nil (c_sr (o_fad rfl (o_ldB 0 s19 rfl rfl rfl rfl (o_lss rfl rfl ?_))))
     refine o_mv (v := (.bool (decide (x2.N < 0)))) rfl ?_
     obtain ⟨y5, e5, e4⟩ := oB e4
     refine o_jn 10 (I := fun tm H => ∃ (Z11 V11 : PH), Gw Z9 V9 Z11 V11 ∧ Sat Z11 V11 H [pts b1 (.rw 0 [vi a0.Terms, vi a0.Nons, vi a0.Start, (vS d1 a0.Rules)]), pts b2 (.rw 0 [vi x1.Left, (vS d2 x1.Right)]), pts b3 (.rw 0 [(.bool x2.Term), vi x2.N])] ∧ tm 1 = (pV b1 0) ∧ tm 3 = (vJ i6) ∧ tm 4 = (pV b2 0) ∧ tm 6 = (pV b3 0) ∧ tm 44 = (vS d1 a0.Rules) ∧ tm 45 = (vN a0.Rules) ∧ tm 46 = (vJ i6) ∧ tm 66 = (vS d2 x1.Right) ∧ tm 67 = (vN x1.Right) ∧ tm 68 = (vJ i8) ∧ tm 85 = (.bool y5)) (fun k15 => ?_) ?_
     ·rcases Bool.eq_false_or_eq_true (decide (x2.N < 0)) with q19 | q19
      ·replace e5 := if_t q19 e5
       refine o_gn rfl q19 (o_gn rfl q19 (o_gn rfl q19 (o_gu rfl (o_gu rfl ?_))))
       refine o_gu rfl (o_gu rfl (o_gu rfl (o_gn rfl q19 ?_)))
       refine o_pickt (a := (.bool true)) rfl q19 rfl ?_
       obtain rfl := oJ e5
       exact k15 _ _ ⟨_, _, Gw.refl _ _, (s19.pick [1, 2, 0] rfl), h26, h27, h28, rfl, h29, h30, h31, h32, h33, hti1, rfl⟩
      replace e5 := ib_f q19 e5
      refine o_gy rfl q19 (o_fad rfl (o_gy rfl q19 (o_ldB 0 s19 rfl rfl rfl rfl (o_gy rfl q19 ?_))))
      refine o_mv (v := (.bool x2.Term)) rfl ?_
      refine o_jn 6 (I := fun tm H => tm 84 = .bool (x2.Term && (decide (a0.Terms ≤ x2.N))) ∧ (∃ (Z12 V12 : PH), Gw Z9 V9 Z12 V12 ∧ Sat Z12 V12 H [pts b1 (.rw 0 [vi a0.Terms, vi a0.Nons, vi a0.Start, (vS d1 a0.Rules)]), pts b2 (.rw 0 [vi x1.Left, (vS d2 x1.Right)]), pts b3 (.rw 0 [(.bool x2.Term), vi x2.N])] ∧ tm 1 = (pV b1 0) ∧ tm 3 = (vJ i6) ∧ tm 4 = (pV b2 0) ∧ tm 6 = (pV b3 0) ∧ tm 44 = (vS d1 a0.Rules) ∧ tm 45 = (vN a0.Rules) ∧ tm 46 = (vJ i6) ∧ tm 66 = (vS d2 x1.Right) ∧ tm 67 = (vN x1.Right) ∧ tm 68 = (vJ i8) ∧ tm 75 = (.bool (decide (x2.N < 0))) ∧ tm 76 = (pV b3 0) ∧ tm 77 = (.bool x2.Term) ∧ tm 78 = (.bool x2.Term))) (fun k16 => ?_) ?_
      ·rcases Bool.eq_false_or_eq_true x2.Term with q20 | q20
       ·refine o_gy rfl q20 (o_fad rfl (o_gy rfl q20 (o_ldB 0 s19 rfl rfl rfl rfl (o_gy rfl q20 ?_))))
        refine o_fad h26 (o_gy rfl q20 (o_ldB 1 s19 rfl rfl rfl rfl (o_gy rfl q20 (o_geq rfl rfl ?_))))
        refine o_gy rfl q19 ?_
        refine o_pickt (a := (.bool (decide (a0.Terms ≤ x2.N)))) rfl q20 rfl ?_
        exact k16 _ _ ⟨gf rfl (by first | (rw [q20]; first | done | rfl) | simp [q20]), _, _, Gw.refl _ _, (s19.pick [1, 2, 0] rfl), h26, h27, h28, rfl, h29, h30, h31, h32, h33, hti1, rfl, rfl, rfl, rfl⟩
       refine o_gn rfl q20 (o_gn rfl q20 (o_gn rfl q20 (o_gn rfl q20 (o_gn rfl q20 ?_))))
       refine o_gy rfl q19 ?_
       refine o_pickf (b := (.bool false)) rfl q20 rfl ?_
       exact k16 _ _ ⟨gf rfl (by first | (rw [q20]; first | done | rfl) | simp [q20]), _, _, Gw.refl _ _, (s19.pick [1, 2, 0] rfl), h26, h27, h28, rfl, h29, h30, h31, h32, h33, hti1, rfl, rfl, rfl, rfl⟩
      intro _ H19 i9
      obtain ⟨h68, Z12, V12, g12, s21, h54, h55, h56, h57, h58, h59, h60, h61, h62, h63, h64, h65, h66, h67⟩ := i9
      refine o_pickf (b := (.bool (x2.Term && (decide (a0.Terms ≤ x2.N))))) h64 q19 h68 ?_
      obtain rfl := oJ e5
      exact k15 _ _ ⟨_, _, g12, s21, h54, h55, h56, h57, h58, h59, h60, h61, h62, h63, rfl⟩
     intro _ H18 i10
     obtain ⟨Z11, V11, g11, s20, h43, h44, h45, h46, h47, h48, h49, h50, h51, h52, h53⟩ := i10
     refine o_mv h53 ?_
     obtain ⟨y6, e6, e4⟩ := oB e4
     refine o_jn 11 (I := fun tm H => ∃ (Z13 V13 : PH), Gw Z11 V11 Z13 V13 ∧ Sat Z13 V13 H [pts b1 (.rw 0 [vi a0.Terms, vi a0.Nons, vi a0.Start, (vS d1 a0.Rules)]), pts b2 (.rw 0 [vi x1.Left, (vS d2 x1.Right)])] ∧ tm 1 = (pV b1 0) ∧ tm 3 = (vJ i6) ∧ tm 4 = (pV b2 0) ∧ tm 44 = (vS d1 a0.Rules) ∧ tm 45 = (vN a0.Rules) ∧ tm 46 = (vJ i6) ∧ tm 66 = (vS d2 x1.Right) ∧ tm 67 = (vN x1.Right) ∧ tm 68 = (vJ i8) ∧ tm 97 = (.bool y6)) (fun k17 => ?_) ?_
     ·rcases Bool.eq_false_or_eq_true y5 with q21 | q21
      ·replace e6 := if_t q21 e6
       refine o_gn rfl q21 (o_gn rfl q21 (o_gn rfl q21 (o_gn rfl q21 (o_gu rfl ?_))))
       refine o_gu rfl (o_gu rfl (o_gu rfl (o_gu rfl (o_gn rfl q21 ?_))))
       refine o_pickt (a := (.bool true)) rfl q21 rfl ?_
       obtain rfl := oJ e6
       exact k17 _ _ ⟨_, _, Gw.refl _ _, (s20.pick [0, 1] rfl), h43, h44, h45, h47, h48, h49, h50, h51, h52, rfl⟩
      replace e6 := ib_f q21 e6
      refine o_gy rfl q21 (o_fad h46 (o_gy rfl q21 (o_ldB 2 s20 rfl rfl rfl rfl (o_gy rfl q21 ?_))))
      refine o_not rfl (o_gy rfl q21 ?_)
      refine o_mv (v := (.bool (!x2.Term))) rfl ?_
      refine o_jn 6 (I := fun tm H => tm 96 = .bool ((!x2.Term) && (decide (a0.Nons ≤ x2.N))) ∧ (∃ (Z14 V14 : PH), Gw Z11 V11 Z14 V14 ∧ Sat Z14 V14 H [pts b1 (.rw 0 [vi a0.Terms, vi a0.Nons, vi a0.Start, (vS d1 a0.Rules)]), pts b2 (.rw 0 [vi x1.Left, (vS d2 x1.Right)]), pts b3 (.rw 0 [(.bool x2.Term), vi x2.N])] ∧ tm 1 = (pV b1 0) ∧ tm 3 = (vJ i6) ∧ tm 4 = (pV b2 0) ∧ tm 44 = (vS d1 a0.Rules) ∧ tm 45 = (vN a0.Rules) ∧ tm 46 = (vJ i6) ∧ tm 66 = (vS d2 x1.Right) ∧ tm 67 = (vN x1.Right) ∧ tm 68 = (vJ i8) ∧ tm 86 = (.bool y5) ∧ tm 87 = (pV b3 0) ∧ tm 88 = (.bool x2.Term) ∧ tm 89 = (.bool (!x2.Term)) ∧ tm 90 = (.bool (!x2.Term)))) (fun k18 => ?_) ?_
      ·rcases Bool.eq_false_or_eq_true (!x2.Term) with q22 | q22
       ·refine o_gy rfl q22 (o_fad h46 (o_gy rfl q22 (o_ldB 2 s20 rfl rfl rfl rfl (o_gy rfl q22 ?_))))
        refine o_fad h43 (o_gy rfl q22 (o_ldB 0 s20 rfl rfl rfl rfl (o_gy rfl q22 (o_geq rfl rfl ?_))))
        refine o_gy rfl q21 ?_
        refine o_pickt (a := (.bool (decide (a0.Nons ≤ x2.N)))) rfl q22 rfl ?_
        exact k18 _ _ ⟨gf rfl (by first | (rw [q22]; first | done | rfl) | simp [q22]), _, _, Gw.refl _ _, s20, h43, h44, h45, h47, h48, h49, h50, h51, h52, rfl, rfl, rfl, rfl, rfl⟩
       refine o_gn rfl q22 (o_gn rfl q22 (o_gn rfl q22 (o_gn rfl q22 (o_gn rfl q22 ?_))))
       refine o_gy rfl q21 ?_
       refine o_pickf (b := (.bool false)) rfl q22 rfl ?_
       exact k18 _ _ ⟨gf rfl (by first | (rw [q22]; first | done | rfl) | simp [q22]), _, _, Gw.refl _ _, s20, h43, h44, h45, h47, h48, h49, h50, h51, h52, rfl, rfl, rfl, rfl, rfl⟩
      intro _ H21 i11
      obtain ⟨h93, Z14, V14, g14, s23, h79, h80, h81, h82, h83, h84, h85, h86, h87, h88, h89, h90, h91, h92⟩ := i11
      refine o_pickf (b := (.bool ((!x2.Term) && (decide (a0.Nons ≤ x2.N))))) h88 q21 h93 ?_
      obtain rfl := oJ e6
      exact k17 _ _ ⟨_, _, g14, (s23.pick [0, 1] rfl), h79, h80, h81, h82, h83, h84, h85, h86, h87, rfl⟩
     intro _ H20 i12
     obtain ⟨Z13, V13, g13, s22, h69, h70, h71, h72, h73, h74, h75, h76, h77, h78⟩ := i12
     refine c_nil ?_
     refine c_if h78 (fun q23 => ?_) (fun q23 => ?_)
     ·replace e4 := if_t q23 e4
      refine c_sr ?_
      refine o_mv (v := (vi 3)) rfl ?_
      refine c_nil (c_rt ?_)
      have e7 := fin_r (k13 _ (sJ e4)) e1
      have e8 := fin_r (k8 _ (sJ e7)) e
      obtain rfl := oJ e8
      exact ⟨.inr rfl, _, (ar1 rfl), rfl, ((s22.pick [] rfl).weak (g1.trans (g2.trans (g3.trans (g4.trans (g5.trans (g6.trans (g8.trans (g9.trans (g11.trans g13))))))))) hs.zv)⟩
     replace e4 := ib_f q23 e4
     refine c_sk (c_end (c_r (o_add h77 rfl ?_)))
     refine o_mv (v := (vi (Pu.W ((i8 : Int) + 1)))) rfl ?_
     refine c_nil ?_
     exact k11 _ _ _ (sJ e4) ⟨(iv rfl (w_suc q16 ((h18.mono g8.v)).bd)), _, _, (g9.trans (g11.trans g13)), s22, h69, h70, h71, h72, h73, h74, h75, h76⟩
    ·obtain ⟨hte1, Z15, V15, g15, s24, h94, h95, h96, h97, h98, h99, h100, h101⟩ := jd
     refine c_sr (o_lss hte1 h101 (c_nil (c_sq ?_)))
     refine c_iff rfl (Int.lt_irrefl _) ?_
     refine c_ex ?_
     refine e_c ?_
     refine e_c ?_
     refine e_h ?_
     exact k14 _ _ ⟨_, jf, _, _, g15, s24, h94, h95, h96, h97, h98, h99, h100, h101⟩
   intro _ H15 i13
   obtain ⟨s16, f1, Z10, V10, g10, s17, h34, h35, h36, h37, h38, h39, h40, h41⟩ := i13
   replace e1 := fin_o f1 e1
   refine c_sr (o_fad h34 (o_ldB 0 s17 rfl rfl rfl rfl (o_mv h35 ?_)))
   obtain ⟨x3, q24, e1⟩ := oB e1
   refine o_slch rfl rfl (hp1.mono (g1.trans (g2.trans (g3.trans (g4.trans (g5.trans (g6.trans (g8.trans g10))))))).v) s17.v rfl q24 fun w2 h102 => ?_
   refine o_len rfl (h102).len ?_
   refine o_mv (v := (vi 0)) rfl ?_
   refine c_nil ?_
   obtain ⟨y7, q27, e1⟩ := oB e1
   refine c_jn (I := fun tm H => ∃ (s27 : Unit), y7 = .out s27 ∧ (∃ (Z17 V17 : PH), Gw Z10 V10 Z17 V17 ∧ Sat Z17 V17 H [pts b1 (.rw 0 [vi a0.Terms, vi a0.Nons, vi a0.Start, (vS d1 a0.Rules)]), pts b2 (.rw 0 [vi x1.Left, (vS d2 x1.Right)])] ∧ tm 1 = (pV b1 0) ∧ tm 4 = (pV b2 0) ∧ tm 44 = (vS d1 a0.Rules) ∧ tm 45 = (vN a0.Rules) ∧ tm 46 = (vJ i6) ∧ tm 102 = w2 ∧ tm 103 = (vN x3))) (fun k22 => ?_) ?_
   ·refine c_bk ?_
    refine l_forL (xs := x3) (fun (i14 : Nat) (s25 : Unit) tm H => tm 104 = vi i14 ∧ ∃ (Z16 V16 : PH), Gw Z10 V10 Z16 V16 ∧ Sat Z16 V16 H [pts b1 (.rw 0 [vi a0.Terms, vi a0.Nons, vi a0.Start, (vS d1 a0.Rules)]), pts b2 (.rw 0 [vi x1.Left, (vS d2 x1.Right)])] ∧ tm 1 = (pV b1 0) ∧ tm 4 = (pV b2 0) ∧ tm 44 = (vS d1 a0.Rules) ∧ tm 45 = (vN a0.Rules) ∧ tm 46 = (vJ i6) ∧ tm 102 = w2 ∧ tm 103 = (vN x3)) (fun i14 x4 s25 y8 tm H24 q25 q26 j3 e9 k19 k20 k21 => ?_) (fun s25 tm H23 jf jd => ?_) q27 ⟨rfl, _, _, Gw.refl _ _, s17, h34, h36, h37, h38, h39, rfl, rfl⟩
    ·obtain ⟨hti2, Z16, V16, g16, s26, h103, h104, h105, h106, h107, h108, h109⟩ := j3
     unfold P.gram_Check.b2 at e9
     refine c_sr (o_lss hti2 h109 (c_nil (c_sq ?_)))
     refine c_ift rfl (Int.ofNat_lt.2 q26) ?_
     refine c_sk (c_sq (c_bk (c_sr ?_)))
     refine o_idx (v := w2) h108 hti2 (h102.mono g16.v) rfl (Pu.ix_nat.trans q25) fun p3 q28 => ?_
     refine o_lda rfl (h102.mono g16.v) s26.v rfl q28 (Pu.ix_nat.trans q25) fun c3 h117 => ?_
     obtain ⟨w3, rfl, h118⟩ := Sh.api_Rule_op h117
     refine o_new s26 fun b4 H26 s29 => ?_
     obtain ⟨d3, rfl⟩ := (h118).val
     refine o_stB (us' := [vi x4.Left, (vS d3 x4.Right)]) 0 s29 rfl rfl rfl rfl rfl rfl rfl fun H27 s30 => ?_
     refine c_nil (c_sr (o_ldB 0 s30 rfl rfl rfl rfl (o_ldB 2 s30 rfl h104 rfl rfl ?_)))
     obtain ⟨x5, q29, e9⟩ := oB e9
     obtain ⟨Z18, V18, W1, g18, u1, c4, c5, -, c7, c6⟩ := Sat.call (l1 := []) s30
     refine o_call (mc rfl (mc rfl m0)) (X.gram_Compare nd.gram_Compare c4 (h118.mono (g18.v.trans u1)) (h18.mono (((g8.trans (g10.trans g16)).trans g18).v.trans u1)) q29) fun _ H28 i15 => ?_
     obtain ⟨rfl, s31⟩ := i15
     have s32 := c6 _ _ s31
     refine o_eql rfl rfl (c_nil ?_)
     refine c_ifd rfl (fun q30 => ?_) (fun q30 => ?_)
     ·replace e9 := if_t q30 e9
      refine c_sr ?_
      refine o_mv (v := (vi 6)) rfl ?_
      refine c_nil (c_rt ?_)
      have e10 := fin_r (k21 _ (sJ e9)) e1
      have e11 := fin_r (k8 _ (sJ e10)) e
      obtain rfl := oJ e11
      exact ⟨.inr rfl, _, (ar1 rfl), rfl, ((s32.pick [] rfl).weak (g1.trans (g2.trans (g3.trans (g4.trans (g5.trans (g6.trans (g8.trans (g10.trans (g16.trans g18))))))))) hs.zv)⟩
     replace e9 := if_f q30 e9
     refine c_sk (c_end (c_r (o_add hti2 rfl ?_)))
     refine o_mv (v := (vi (Pu.W ((i14 : Int) + 1)))) rfl ?_
     refine c_nil ?_
     exact k19 _ _ _ (sJ e9) ⟨(iv rfl (w_suc q26 (h102).bd)), _, _, (g16.trans g18), (s32.pick [1, 2] rfl), h103, h104, h105, h106, h107, h108, h109⟩
    ·obtain ⟨hte2, Z19, V19, g19, s33, h119, h120, h121, h122, h123, h124, h125⟩ := jd
     refine c_sr (o_lss hte2 h125 (c_nil (c_sq ?_)))
     refine c_iff rfl (Int.lt_irrefl _) ?_
     refine c_ex ?_
     refine e_c ?_
     refine e_c ?_
     refine e_h ?_
     exact k22 _ _ ⟨_, jf, _, _, g19, s33, h119, h120, h121, h122, h123, h124, h125⟩
   intro _ H25 i16
   obtain ⟨s27, f2, Z17, V17, g17, s28, h110, h111, h112, h113, h114, h115, h116⟩ := i16
   replace e1 := fin_o f2 e1
   refine c_end (c_r (o_add h114 rfl ?_))
   refine o_mv (v := (vi (Pu.W ((i6 : Int) + 1)))) rfl ?_
   refine c_nil ?_
   exact k6 _ _ _ (sJ e1) ⟨(iv rfl (w_suc q9 ((hp1.mono (g1.trans (g2.trans (g3.trans (g4.trans g5)))).v)).bd)), _, _, (g6.trans (g8.trans (g10.trans g17))), (s28.pick [0] rfl), h110, h112, h113⟩
  ·obtain ⟨hte0, Z20, V20, g20, s34, h126, h127, h128⟩ := jd
   refine c_sr (o_lss hte0 h128 (c_nil (c_sq ?_)))
   refine c_iff rfl (Int.lt_irrefl _) ?_
   refine c_ex ?_
   refine e_c ?_
   refine e_c ?_
   refine e_h ?_
   exact k9 _ _ ⟨_, jf, _, _, g20, s34, h126, h127, h128⟩
 intro _ H9 i17
 obtain ⟨s9, f3, Z7, V7, g7, s10, h14, h15, h16⟩ := i17
 replace e := fin_o f3 e
 refine c_sr ?_
 refine o_mv (v := (vi 0)) rfl ?_
 refine c_nil (c_rt ?_)
 obtain rfl := oJ e
 exact ⟨.inr rfl, _, (ar1 rfl), rfl, ((s10.pick [] rfl).weak (g1.trans (g2.trans (g3.trans (g4.trans (g5.trans g7))))) hs.zv)⟩
/-! gram_Word -/
structure Nd.gram_Word (T : FuncId → Option AFunc) : Prop where
  own : Has T I.gram_Word F.gram_Word
set_option maxHeartbeats 1000000 in
theorem X.gram_Word {T : FuncId → Option AFunc} (nd : Nd.gram_Word T) {Z V : PH} {H : Hp} {v1 : Value} {v2 : Value} {a0 : Ty.api_Grammar} {a1 : (List Int)} {a2 : Int} (hs : Sat Z V H []) (hp1 : RdS Sh.api_Rule V v1 a0.Rules) (hp2 : RdS Sh.int V v2 a1) {r : Int} (e : P.gram_Word a0 a1 a2 = some r) :
    G T I.gram_Word [(.agg #[vi a0.Terms, vi a0.Nons, vi a0.Start, v1]), v2, vi a2] H (fun rv H' => rv = (vi r) ∧ Sat Z V H' []) := by
 unfold P.gram_Word at e
 refine f_mk nd.own ?_
 refine c_sr ?_
 obtain ⟨d1, rfl⟩ := (hp1).val
 refine o_box hs rfl rfl fun b1 H1 s1 => ?_
 refine o_mv (v := (vi 0)) rfl ?_
 refine c_nil (c_sq (c_sr ?_))
 refine o_mv (v := v2) rfl ?_
 refine o_len rfl (hp2).len ?_
 refine o_mv (v := (vi a2)) rfl ?_
 refine o_gtr rfl rfl (c_nil ?_)
 refine c_ifd rfl (fun q1 => ?_) (fun q1 => ?_)
 ·replace e := if_t q1 e
  refine c_sr ?_
  refine o_mv (v := (vi 2)) rfl ?_
  refine c_nil (c_rt ?_)
  obtain rfl := oJ e
  exact ⟨.inr rfl, _, (ar1 rfl), rfl, (s1.pick [] rfl)⟩
 replace e := if_f q1 e
 refine c_sk (c_sq (c_sr ?_))
 refine o_mv (v := v2) rfl ?_
 refine o_len rfl (hp2).len ?_
 refine o_mv (v := (vi 0)) rfl ?_
 refine c_nil ?_
 obtain ⟨y1, q4, e⟩ := oB e
 refine c_jn (I := fun tm H => ∃ (s4 : Unit), y1 = .out s4 ∧ (∃ (Z2 V2 : PH), Gw Z V Z2 V2 ∧ Sat Z2 V2 H [pts b1 (.rw 0 [vi a0.Terms, vi a0.Nons, vi a0.Start, (vS d1 a0.Rules)])] ∧ tm 3 = (pV b1 0) ∧ tm 13 = v2 ∧ tm 14 = (vN a1))) (fun k4 => ?_) ?_
 ·refine c_bk ?_
  refine l_forL (xs := a1) (fun (i1 : Nat) (s2 : Unit) tm H => tm 15 = vi i1 ∧ ∃ (Z1 V1 : PH), Gw Z V Z1 V1 ∧ Sat Z1 V1 H [pts b1 (.rw 0 [vi a0.Terms, vi a0.Nons, vi a0.Start, (vS d1 a0.Rules)])] ∧ tm 3 = (pV b1 0) ∧ tm 13 = v2 ∧ tm 14 = (vN a1)) (fun i1 x1 s2 y2 tm H3 q2 q3 j1 e1 k1 k2 k3 => ?_) (fun s2 tm H2 jf jd => ?_) q4 ⟨rfl, _, _, Gw.refl _ _, s1, rfl, rfl, rfl⟩
  ·obtain ⟨hti0, Z1, V1, g1, s3, h1, h2, h3⟩ := j1
   unfold P.gram_Word.b0 at e1
   refine c_sr (o_lss hti0 h3 (c_nil (c_sq ?_)))
   refine c_ift rfl (Int.ofNat_lt.2 q3) ?_
   refine c_sk (c_sq (c_bk (c_sr ?_)))
   refine o_idx (v := v2) h2 hti0 (hp2.mono g1.v) rfl (Pu.ix_nat.trans q2) fun p1 q5 => ?_
   refine o_ldi rfl (hp2.mono g1.v) s3.v q5 (Pu.ix_nat.trans q2) ?_
   refine o_mv (v := (vi x1)) rfl ?_
   refine c_nil (c_sr ?_)
   refine o_mv (v := (vi x1)) rfl ?_
   refine o_lss rfl rfl ?_
   refine o_mv (v := (.bool (decide (x1 < 0)))) rfl ?_
   refine o_jn 5 (I := fun tm H => tm 26 = .bool ((decide (x1 < 0)) || (decide (a0.Terms ≤ x1))) ∧ (∃ (Z3 V3 : PH), Gw Z1 V1 Z3 V3 ∧ Sat Z3 V3 H [pts b1 (.rw 0 [vi a0.Terms, vi a0.Nons, vi a0.Start, (vS d1 a0.Rules)])] ∧ tm 3 = (pV b1 0) ∧ tm 13 = v2 ∧ tm 14 = (vN a1) ∧ tm 15 = (vJ i1))) (fun k5 => ?_) ?_
   ·rcases Bool.eq_false_or_eq_true (decide (x1 < 0)) with q6 | q6
    ·refine o_gn rfl q6 (o_gn rfl q6 (o_gn rfl q6 (o_gn rfl q6 ?_)))
     refine o_pickt (a := (.bool true)) rfl q6 rfl ?_
     exact k5 _ _ ⟨gf rfl (by first | (rw [q6]; first | done | rfl) | simp [q6]), _, _, Gw.refl _ _, s3, h1, h2, h3, hti0⟩
    refine o_gy rfl q6 ?_
    refine o_mv (v := (vi x1)) rfl ?_
    refine o_gy rfl q6 (o_fad h1 (o_gy rfl q6 (o_ldB 0 s3 rfl rfl rfl rfl (o_gy rfl q6 ?_))))
    refine o_geq rfl rfl ?_
    refine o_pickf (b := (.bool (decide (a0.Terms ≤ x1)))) rfl q6 rfl ?_
    exact k5 _ _ ⟨gf rfl (by first | (rw [q6]; first | done | rfl) | simp [q6]), _, _, Gw.refl _ _, s3, h1, h2, h3, hti0⟩
   intro _ H5 i2
   obtain ⟨h11, Z3, V3, g3, s6, h7, h8, h9, h10⟩ := i2
   refine c_nil ?_
   refine c_if h11 (fun q7 => ?_) (fun q7 => ?_)
   ·replace e1 := if_t q7 e1
    refine c_sr ?_
    refine o_mv (v := (vi 1)) rfl ?_
    refine c_nil (c_rt ?_)
    have e2 := fin_r (k3 _ (sJ e1)) e
    obtain rfl := oJ e2
    exact ⟨.inr rfl, _, (ar1 rfl), rfl, ((s6.pick [] rfl).weak (g1.trans g3) hs.zv)⟩
   replace e1 := ib_f q7 e1
   refine c_sk (c_end (c_r (o_add h10 rfl ?_)))
   refine o_mv (v := (vi (Pu.W ((i1 : Int) + 1)))) rfl ?_
   refine c_nil ?_
   exact k1 _ _ _ (sJ e1) ⟨(iv rfl (w_suc q3 (hp2).bd)), _, _, (g1.trans g3), s6, h7, h8, h9⟩
  ·obtain ⟨hte0, Z4, V4, g4, s7, h12, h13, h14⟩ := jd
   refine c_sr (o_lss hte0 h14 (c_nil (c_sq ?_)))
   refine c_iff rfl (Int.lt_irrefl _) ?_
   refine c_ex ?_
   refine e_c ?_
   refine e_c ?_
   refine e_h ?_
   exact k4 _ _ ⟨_, jf, _, _, g4, s7, h12, h13, h14⟩
 intro _ H4 i3
 obtain ⟨s4, f1, Z2, V2, g2, s5, h4, h5, h6⟩ := i3
 replace e := fin_o f1 e
 refine c_sr ?_
 refine o_mv (v := (vi 0)) rfl ?_
 refine c_nil (c_rt ?_)
 obtain rfl := oJ e
 exact ⟨.inr rfl, _, (ar1 rfl), rfl, ((s5.pick [] rfl).weak g2 hs.zv)⟩
/-! mean_check -/
structure Nd.mean_check (T : FuncId → Option AFunc) : Prop where
  own : Has T I.mean_check F.mean_check
  gram_Check : Nd.gram_Check T
  gram_Word : Nd.gram_Word T
set_option maxHeartbeats 1000000 in
theorem X.mean_check {T : FuncId → Option AFunc} (nd : Nd.mean_check T) {Z V : PH} {H : Hp} {v1 : Value} {v2 : Value} {a0 : Ty.api_Grammar} {a1 : (List Int)} (hs : Sat Z V H []) (hp1 : RdS Sh.api_Rule V v1 a0.Rules) (hp2 : RdS Sh.int V v2 a1) {r : Int} (e : P.mean_check a0 a1 = some r) :
    G T I.mean_check [(.agg #[vi a0.Terms, vi a0.Nons, vi a0.Start, v1]), v2] H (fun rv H' => rv = (vi r) ∧ Sat Z V H' []) := by
 unfold P.mean_check at e
 refine f_mk nd.own ?_
 refine c_sr ?_
 obtain ⟨d1, rfl⟩ := (hp1).val
 refine o_box hs rfl rfl fun b1 H1 s1 => ?_
 refine o_mv (v := (vi 0)) rfl ?_
 refine c_nil (c_sq (c_sr (o_ldB 0 s1 rfl rfl rfl rfl ?_)))
 obtain ⟨x1, q1, e⟩ := oB e
 obtain ⟨Z1, V1, W1, g1, u1, c1, c2, -, c4, c3⟩ := Sat.call (l1 := []) s1
 refine o_call (mc rfl m0) (X.gram_Check nd.gram_Check c1 (hp1.mono (g1.v.trans u1)) q1) fun _ H2 i1 => ?_
 obtain ⟨rfl, s2⟩ := i1
 have s3 := c3 _ _ s2
 refine o_mv (v := (vi x1)) rfl ?_
 refine c_nil (c_sr ?_)
 refine o_mv (v := (vi x1)) rfl ?_
 refine o_neq rfl rfl (c_nil ?_)
 refine c_ifd rfl (fun q2 => ?_) (fun q2 => ?_)
 ·replace e := if_t q2 e
  refine c_sr ?_
  refine o_mv (v := (vi x1)) rfl ?_
  refine o_mv (v := (vi x1)) rfl ?_
  refine c_nil (c_rt ?_)
  obtain rfl := oJ e
  exact ⟨.inr rfl, _, (ar1 rfl), rfl, ((s3.pick [] rfl).weak g1 hs.zv)⟩
 replace e := if_f q2 e
 refine c_sk (c_sr (o_ldB 0 s3 rfl rfl rfl rfl ?_))
 refine o_mv (v := v2) rfl ?_
 obtain ⟨x2, q3, e⟩ := oB e
 obtain ⟨Z2, V2, W2, g2, u2, c5, c6, -, c8, c7⟩ := Sat.call (l1 := []) s3
 refine o_call (mc rfl (mc rfl (mc rfl m0))) (X.gram_Word nd.gram_Word c5 (hp1.mono ((g1.trans g2).v.trans u2)) (hp2.mono ((g1.trans g2).v.trans u2)) q3) fun _ H3 i2 => ?_
 obtain ⟨rfl, s4⟩ := i2
 have s5 := c7 _ _ s4
 refine o_mv (v := (vi x2)) rfl ?_
 refine c_nil ?_
 refine c_gen (P := fun tm => tm 4 = (vi x2) ∧ True) ⟨rfl, trivial⟩ ?_
 intro _ i3
 obtain ⟨h1, -⟩ := i3
 refine c_rt ?_
 obtain rfl := oJ e
 exact ⟨.inr rfl, _, (ar1 h1), rfl, ((s5.pick [] rfl).weak (g1.trans g2) hs.zv)⟩
/-! mean_ends_after -/
structure Nd.mean_ends_after (T : FuncId → Option AFunc) : Prop where
  own : Has T I.mean_ends_after F.mean_ends_after
set_option maxHeartbeats 1000000 in
theorem X.mean_ends_after {T : FuncId → Option AFunc} (nd : Nd.mean_ends_after T) {φ : Nat} {Z V : PH} {H : Hp} {v1 : Value} {v2 : Value} {v3 : Value} {o1 : Nat} {a0 : Ty.mean_ends} {a1 : Ty.api_Sym} {a2 : Int} (hs : Sat Z V H [pts o1 (.rw 0 [vi a0.g.Terms, vi a0.g.Nons, vi a0.g.Start, v1, v2, v3]), It.sl (Sh.sl (Sh.ik .u32)) v3 a0.of_]) (hp1 : RdS Sh.api_Rule V v1 a0.g.Rules) (hp2 : RdS Sh.int V v2 a0.w) {r : Int} (e : P.mean_ends_after φ a0 a1 a2 = some r) :
    G T I.mean_ends_after [(pV o1 0), (.agg #[(.bool a1.Term), vi a1.N]), (.int .u32 a2)] H (fun rv H' => rv = (.int .u32 r) ∧ Sat Z V H' [pts o1 (.rw 0 [vi a0.g.Terms, vi a0.g.Nons, vi a0.g.Start, v1, v2, v3]), It.sl (Sh.sl (Sh.ik .u32)) v3 a0.of_]) := by
 unfold P.mean_ends_after at e
 refine f_mk nd.own ?_
 refine c_sr ?_
 refine o_box hs rfl rfl fun b1 H1 s1 => ?_
 refine o_mv (v := (.int .u32 0)) rfl ?_
 refine c_nil (c_sr ?_)
 refine o_mv (v := (.int .u32 0)) rfl ?_
 refine c_nil (c_sq (c_sr ?_))
 refine o_mv (v := (vi 0)) rfl ?_
 refine c_nil ?_
 obtain ⟨y1, q3, e⟩ := oB e
 refine c_jn (I := fun tm H => ∃ (s4 : (Int × Int)), y1 = .out s4 ∧ (∃ (Z2 V2 : PH), Gw Z V Z2 V2 ∧ Sat Z2 V2 H [pts o1 (.rw 0 [vi a0.g.Terms, vi a0.g.Nons, vi a0.g.Start, v1, v2, v3]), It.sl (Sh.sl (Sh.ik .u32)) v3 a0.of_, pts b1 (.rw 0 [(.bool a1.Term), vi a1.N])] ∧ tm 0 = (pV o1 0) ∧ tm 2 = (.int .u32 a2) ∧ tm 4 = (pV b1 0) ∧ tm 7 = (.int .u32 s4.1) ∧ tm 8 = (vi s4.2))) (fun k4 => ?_) ?_
 ·refine c_bk ?_
  refine l_whl (fun (s2 : (Int × Int)) tm H => ∃ (Z1 V1 : PH), Gw Z V Z1 V1 ∧ Sat Z1 V1 H [pts o1 (.rw 0 [vi a0.g.Terms, vi a0.g.Nons, vi a0.g.Start, v1, v2, v3]), It.sl (Sh.sl (Sh.ik .u32)) v3 a0.of_, pts b1 (.rw 0 [(.bool a1.Term), vi a1.N])] ∧ tm 0 = (pV o1 0) ∧ tm 2 = (.int .u32 a2) ∧ tm 4 = (pV b1 0) ∧ tm 7 = (.int .u32 s2.1) ∧ tm 8 = (vi s2.2)) (fun s2 y2 tm H3 j1 e1 k1 k2 k3 => ?_) q3 ⟨_, _, Gw.refl _ _, (s1.pick [1, 2, 0] rfl), rfl, rfl, rfl, rfl, rfl⟩
  obtain ⟨Z1, V1, g1, s3, h1, h2, h3, h4, h5⟩ := j1
  unfold P.mean_ends_after.b0 at e1
  refine c_sq (c_sr (o_mv h5 (o_mv h1 (o_nck rfl ?_))))
  refine o_fad rfl ?_
  obtain ⟨d1, rfl⟩ := ((hp1.mono g1.v)).val
  obtain ⟨d2, rfl⟩ := ((hp2.mono g1.v)).val
  obtain ⟨d3, rfl⟩ := ((s3.curS (s := (Sh.sl (Sh.ik .u32))) 1 rfl)).val
  refine o_ldB 0 s3 rfl rfl rfl rfl (o_len rfl ((hp2.mono g1.v)).len (o_leq rfl rfl (c_nil ?_)))
  refine c_ifd rfl (fun q4 => ?_) (fun q4 => ?_)
  ·replace e1 := if_t q4 e1
   refine c_sk (c_sq (c_bk (c_sq (c_sr ?_))))
   refine o_mv h2 (o_mv h5 ?_)
   obtain ⟨x2, q5, e1⟩ := oB e1
   refine o_shr rfl rfl q5 (o_and rfl rfl (o_eql rfl rfl (c_nil ?_)))
   refine c_gen (P := fun tm => tm 0 = (pV o1 0) ∧ tm 2 = (.int .u32 a2) ∧ tm 4 = (pV b1 0) ∧ tm 7 = (.int .u32 s2.1) ∧ tm 8 = (vi s2.2) ∧ tm 22 = (.bool (decide ((Pu.band .u32 x2 1) = 0))) ∧ True) ⟨h1, h2, h3, h4, h5, rfl, trivial⟩ ?_
   intro _ i2
   obtain ⟨h11, h12, h13, h14, h15, h16, -⟩ := i2
   refine c_ifd h16 (fun q6 => ?_) (fun q6 => ?_)
   ·replace e1 := if_t q6 e1
    refine c_ex ?_
    refine e_c ?_
    refine e_h ?_
    refine c_r (o_mv h15 (o_add rfl rfl ?_))
    refine o_mv (v := (vi (Pu.W (s2.2 + 1)))) rfl ?_
    refine c_nil ?_
    exact k1 _ _ _ (sJ e1) ⟨_, _, g1, s3, h11, h12, h13, h14, rfl⟩
   replace e1 := if_f q6 e1
   refine c_sk (c_bk (c_sr (o_fad h13 (o_ldB 2 s3 rfl rfl rfl rfl ?_))))
   refine o_not rfl ?_
   refine o_mv (v := (.bool (!a1.Term))) rfl ?_
   refine c_nil ?_
   obtain ⟨y3, e2, e1⟩ := oB e1
   refine c_jn (I := fun tm H => ∃ (Z3 V3 : PH), Gw Z1 V1 Z3 V3 ∧ Sat Z3 V3 H [pts o1 (.rw 0 [vi a0.g.Terms, vi a0.g.Nons, vi a0.g.Start, (vS d1 a0.g.Rules), (vS d2 a0.w), (vS d3 a0.of_)]), It.sl (Sh.sl (Sh.ik .u32)) (vS d3 a0.of_) a0.of_, pts b1 (.rw 0 [(.bool a1.Term), vi a1.N])] ∧ tm 0 = (pV o1 0) ∧ tm 2 = (.int .u32 a2) ∧ tm 4 = (pV b1 0) ∧ tm 7 = (.int .u32 y3) ∧ tm 8 = (vi s2.2)) (fun k5 => ?_) ?_
   ·refine c_if rfl (fun q7 => ?_) (fun q7 => ?_)
    ·replace e2 := if_t q7 e2
     refine d_start s3 fun n1 H6 s7 q8 d4 => ?_
     refine d_mv h14 ?_
     refine d_mv h11 ?_
     refine d_nck rfl ?_
     refine d_fad rfl ?_
     refine d_ldB (q8 _ _ (ph_some.2 ⟨s7.curB 0 rfl, by simp⟩)) 0 s7 rfl rfl rfl rfl ?_
     refine d_fad h13 ?_
     refine d_ldB (q8 _ _ (ph_some.2 ⟨s7.curB 2 rfl, by simp⟩)) 2 s7 rfl rfl rfl rfl ?_
     obtain ⟨x3, q9, e2⟩ := oB e2
     refine d_idx (v := (vS d3 a0.of_)) rfl rfl (s7.curS (s := (Sh.sl (Sh.ik .u32))) 1 rfl) rfl q9 fun p1 q10 => ?_
     refine d_ldsv ((s7.curS 1 rfl).low pR q8) rfl (s7.curS (s := (Sh.sl (Sh.ik .u32))) 1 rfl) pR q10 q9 fun w1 h22 h23 => ?_
     refine d_mv h15 ?_
     obtain ⟨x4, q11, e2⟩ := oB e2
     refine d_idx (v := w1) rfl rfl h22 rfl q11 fun p2 q12 => ?_
     refine d_ldi (RdS.low h22 pR q8) rfl h22 pR q12 q11 ?_
     have h24 := vl_ik h22 pR q12 q11
     refine d_or rfl rfl ?_
     refine d_mv (v := (.int .u32 (Pu.bor .u32 s2.1 x4))) rfl ?_
     refine d_nil dc_nil ?_
     obtain rfl := oJ e2
     exact k5 _ _ ⟨_, _, Gw.refl _ _, s7, h11, h12, h13, rfl, h15⟩
    replace e2 := ib_f q7 e2
    refine c_sq ?_
    refine d_start s3 fun n2 H7 s8 q13 d5 => ?_
    refine d_mv h15 ?_
    refine d_mv h11 ?_
    refine d_nck rfl ?_
    refine d_fad rfl ?_
    refine d_ldB (q13 _ _ (ph_some.2 ⟨s8.curB 0 rfl, by simp⟩)) 0 s8 rfl rfl rfl rfl ?_
    refine d_len rfl ((hp2.mono g1.v)).len ?_
    refine d_lss rfl rfl ?_
    refine d_mv (v := (.bool (decide (s2.2 < (a0.w.length : Int))))) rfl ?_
    obtain ⟨y4, e3, e2⟩ := oB e2
    refine d_jn 11 (I := fun tm H => DD n2 19 (List.length F.mean_ends_after.r8) H ∧ (∃ (Z4 V4 : PH), Gw Z1 V1 Z4 V4 ∧ Sat Z4 V4 H [pts o1 (.rw 0 [vi a0.g.Terms, vi a0.g.Nons, vi a0.g.Start, (vS d1 a0.g.Rules), (vS d2 a0.w), (vS d3 a0.of_)]), It.sl (Sh.sl (Sh.ik .u32)) (vS d3 a0.of_) a0.of_, pts b1 (.rw 0 [(.bool a1.Term), vi a1.N])] ∧ tm 0 = (pV o1 0) ∧ tm 2 = (.int .u32 a2) ∧ tm 4 = (pV b1 0) ∧ tm 7 = (.int .u32 s2.1) ∧ tm 8 = (vi s2.2) ∧ tm 59 = (.bool y4))) (fun k6 => ?_) ?_
    ·rcases Bool.eq_false_or_eq_true (decide (s2.2 < (a0.w.length : Int))) with q14 | q14
     ·replace e3 := if_t q14 e3
      refine d_want rfl q14 ?_
      refine d_mv h11 ?_
      refine d_want rfl q14 ?_
      refine d_nck rfl ?_
      refine d_want rfl q14 ?_
      refine d_fad rfl ?_
      refine d_want rfl q14 ?_
      refine d_ldB (q13 _ _ (ph_some.2 ⟨s8.curB 0 rfl, by simp⟩)) 0 s8 rfl rfl rfl rfl ?_
      refine d_want rfl q14 ?_
      refine d_mv h15 ?_
      refine d_want rfl q14 ?_
      obtain ⟨x5, q15, e3⟩ := oB e3
      refine d_idx (v := (vS d2 a0.w)) rfl rfl (hp2.mono g1.v) rfl q15 fun p3 q16 => ?_
      refine d_want rfl q14 ?_
      refine d_ldi (RdS.low (hp2.mono g1.v) s8.v q13) rfl hp2 (g1.v.trans s8.v) q16 q15 ?_
      refine d_want rfl q14 ?_
      refine d_fad h13 ?_
      refine d_want rfl q14 ?_
      refine d_ldB (q13 _ _ (ph_some.2 ⟨s8.curB 2 rfl, by simp⟩)) 2 s8 rfl rfl rfl rfl ?_
      refine d_want rfl q14 ?_
      refine d_eql rfl rfl ?_
      refine d_pickt (a := (.bool (decide (x5 = a1.N)))) rfl q14 rfl ?_
      obtain rfl := oJ e3
      exact k6 _ _ _ ⟨d5.up rfl, _, _, Gw.refl _ _, s8, h11, h12, h13, h14, h15, rfl⟩
     replace e3 := ib_f q14 e3
     refine d_gn rfl q14 ?_
     refine d_gn rfl q14 ?_
     refine d_gn rfl q14 ?_
     refine d_gn rfl q14 ?_
     refine d_gn rfl q14 ?_
     refine d_gn rfl q14 ?_
     refine d_gn rfl q14 ?_
     refine d_gn rfl q14 ?_
     refine d_gn rfl q14 ?_
     refine d_gn rfl q14 ?_
     refine d_pickf (b := (.bool false)) rfl q14 rfl ?_
     obtain rfl := oJ e3
     exact k6 _ _ _ ⟨d5.up rfl, _, _, Gw.refl _ _, s8, h11, h12, h13, h14, h15, rfl⟩
    intro _ H8 _ i3
    obtain ⟨d6, Z4, V4, g4, s9, h25, h26, h27, h28, h29, h30⟩ := i3
    refine d_mv h30 ?_
    refine d_nil dc_nil ?_
    obtain ⟨y5, e4, e2⟩ := oB e2
    refine c_jn (I := fun tm H => ∃ (Z5 V5 : PH), Gw Z4 V4 Z5 V5 ∧ Sat Z5 V5 H [pts o1 (.rw 0 [vi a0.g.Terms, vi a0.g.Nons, vi a0.g.Start, (vS d1 a0.g.Rules), (vS d2 a0.w), (vS d3 a0.of_)]), It.sl (Sh.sl (Sh.ik .u32)) (vS d3 a0.of_) a0.of_, pts b1 (.rw 0 [(.bool a1.Term), vi a1.N])] ∧ tm 0 = (pV o1 0) ∧ tm 2 = (.int .u32 a2) ∧ tm 4 = (pV b1 0) ∧ tm 7 = (.int .u32 y5) ∧ tm 8 = (vi s2.2)) (fun k7 => ?_) ?_
    ·refine c_if rfl (fun q17 => ?_) (fun q17 => ?_)
     ·replace e4 := if_t q17 e4
      refine c_r (o_mv h28 (o_mv h29 (o_add rfl rfl ?_)))
      obtain ⟨x6, q18, e4⟩ := oB e4
      refine o_shl rfl rfl q18 (o_or rfl rfl ?_)
      refine o_mv (v := (.int .u32 (Pu.bor .u32 s2.1 x6))) rfl ?_
      refine c_nil ?_
      obtain rfl := oJ e4
      exact k7 _ _ ⟨_, _, Gw.refl _ _, s9, h25, h26, h27, rfl, h29⟩
     replace e4 := ib_f q17 e4
     refine c_sk ?_
     obtain rfl := oJ e4
     exact k7 _ _ ⟨_, _, Gw.refl _ _, s9, h25, h26, h27, h28, h29⟩
    intro _ H9 i4
    obtain ⟨Z5, V5, g5, s10, h31, h32, h33, h34, h35⟩ := i4
    obtain rfl := oJ e2
    exact k5 _ _ ⟨_, _, (g4.trans g5), s10, h31, h32, h33, h34, h35⟩
   intro _ H5 i5
   obtain ⟨Z3, V3, g3, s6, h17, h18, h19, h20, h21⟩ := i5
   refine c_end (c_end (c_r (o_mv h21 (o_add rfl rfl ?_))))
   refine o_mv (v := (vi (Pu.W (s2.2 + 1)))) rfl ?_
   refine c_nil ?_
   exact k1 _ _ _ (sJ e1) ⟨_, _, (g1.trans g3), s6, h17, h18, h19, h20, rfl⟩
  replace e1 := if_f q4 e1
  refine c_ex ?_
  refine e_c ?_
  refine e_c ?_
  refine e_h ?_
  exact k4 _ _ ⟨_, k2 _ (sJ e1), _, _, g1, s3, h1, h2, h3, h4, h5⟩
 intro _ H4 i6
 obtain ⟨s4, f1, Z2, V2, g2, s5, h6, h7, h8, h9, h10⟩ := i6
 replace e := fin_o f1 e
 refine c_sr (o_mv h9 ?_)
 refine o_mv (v := (.int .u32 s4.1)) rfl ?_
 refine c_nil (c_rt ?_)
 obtain ⟨d7, rfl⟩ := ((hp1.mono g2.v)).val
 obtain ⟨d8, rfl⟩ := ((hp2.mono g2.v)).val
 obtain ⟨d9, rfl⟩ := ((s5.curS (s := (Sh.sl (Sh.ik .u32))) 1 rfl)).val
 obtain rfl := oJ e
 exact ⟨.inr rfl, _, (ar1 rfl), rfl, ((s5.pick [0, 1] rfl).weak g2 hs.zv)⟩
/-! mean_derived -/
structure Nd.mean_derived (T : FuncId → Option AFunc) : Prop where
  own : Has T I.mean_derived F.mean_derived
  mean_ends_after : Nd.mean_ends_after T
set_option maxHeartbeats 1000000 in
theorem X.mean_derived {T : FuncId → Option AFunc} (nd : Nd.mean_derived T) {φ : Nat} {Z V : PH} {H : Hp} {v1 : Value} {v2 : Value} {a0 : Ty.api_Grammar} {a1 : (List Int)} (hs : Sat Z V H []) (hp1 : RdS Sh.api_Rule V v1 a0.Rules) (hp2 : RdS Sh.int V v2 a1) {r : Ty.mean_ends} (e : P.mean_derived φ a0 a1 = some r) :
    G T I.mean_derived [(.agg #[vi a0.Terms, vi a0.Nons, vi a0.Start, v1]), v2] H (fun rv H' => ∃ (o101 : Nat) (u2 : Value), rv = (pV o101 0) ∧ Sat Z V H' [pts o101 (.rw 0 [vi r.g.Terms, vi r.g.Nons, vi r.g.Start, v1, v2, u2]), It.sl (Sh.sl (Sh.ik .u32)) u2 r.of_]) := by
 unfold P.mean_derived at e
 refine f_mk nd.own ?_
 refine c_sr ?_
 obtain ⟨d1, rfl⟩ := (hp1).val
 refine o_box hs rfl rfl fun b1 H1 s1 => ?_
 refine o_mv (v := (.pointer none)) rfl ?_
 refine c_nil (c_sq ?_)
 refine d_start s1 fun n1 H2 s2 q1 d2 => ?_
 refine d_ldB (q1 _ _ (ph_some.2 ⟨s2.curB 0 rfl, by simp⟩)) 0 s2 rfl rfl rfl rfl ?_
 refine d_mv (v := v2) rfl ?_
 refine d_fad rfl ?_
 refine d_ldB (q1 _ _ (ph_some.2 ⟨s2.curB 0 rfl, by simp⟩)) 0 s2 rfl rfl rfl rfl ?_
 obtain ⟨x1, q2, e⟩ := oB e
 refine d_mksH (s := (Sh.ik .u32)) (d2.get 4 rfl rfl) s2 rfl rfl q2 fun w1 H3 s3 k1 => ?_
 have d3 := d2.next 4 rfl k1
 obtain ⟨d4, rfl⟩ := (hp2).val
 obtain ⟨d5, rfl⟩ := ((s3.curS (s := (Sh.sl (Sh.ik .u32))) 0 rfl)).val
 refine d_bld (qs := [(0, 4, (.agg #[vi a0.Terms, vi a0.Nons, vi a0.Start, (vS d1 a0.Rules)])), (4, 1, (vS d4 a1)), (5, 1, (vS d5 x1))]) rfl rfl ?_
 refine d_box (d3.get 6 rfl rfl) s3 rfl rfl fun b2 H4 s4 k2 => ?_
 have d6 := d3.next 6 rfl k2
 refine d_mv (v := (pV b2 0)) rfl ?_
 refine d_nil dc_nil ?_
 refine c_gen (P := fun tm => tm 1 = (vS d4 a1) ∧ tm 2 = (pV b1 0) ∧ tm 5 = (pV b2 0) ∧ True) ⟨rfl, rfl, rfl, trivial⟩ ?_
 intro _ i1
 obtain ⟨h1, h2, h3, -⟩ := i1
 refine c_sq (c_sr (o_mv h3 (o_nck rfl (o_fad rfl ?_))))
 refine o_ldB 0 s4 rfl rfl rfl rfl ?_
 refine o_len rfl ((s4.curS (s := (Sh.sl (Sh.ik .u32))) 1 rfl)).len ?_
 refine o_mv (v := (vi 0)) rfl ?_
 refine c_nil ?_
 obtain ⟨x3, q5, e⟩ := oB e
 obtain ⟨rfl, q7⟩ := ranO_some q5
 obtain ⟨y1, q8, e⟩ := oB e
 refine c_bk ?_
 refine l_forP (xs := (Pu.ran (x1.length : Int))) (fun (i2 : Nat) (s5 : (List (List Int))) tm H => tm 26 = vi i2 ∧ ∃ (Z1 V1 : PH), Gw Z V Z1 V1 ∧ Sat Z1 V1 H [pts b1 (.rw 0 [vi a0.Terms, vi a0.Nons, vi a0.Start, (vS d1 a0.Rules)]), pts b2 (.rw 0 [vi a0.Terms, vi a0.Nons, vi a0.Start, (vS d1 a0.Rules), (vS d4 a1), (vS d5 x1)]), It.sl (Sh.sl (Sh.ik .u32)) (vS d5 x1) s5] ∧ tm 1 = (vS d4 a1) ∧ tm 2 = (pV b1 0) ∧ tm 5 = (pV b2 0) ∧ tm 25 = (vN x1)) (fun i2 x2 s5 s7 tm H6 q3 q4 j1 e1 k3 => ?_) (fun tm H5 jd => ?_) q8 ⟨rfl, _, _, Gw.refl _ _, (s4.pick [2, 0, 1] rfl), h1, h2, h3, rfl⟩
 ·obtain ⟨hti0, Z1, V1, g1, s6, h4, h5, h6, h7⟩ := j1
  unfold P.mean_derived.b0 at e1
  have hti0 := iv hti0 (ran_x q3).symm
  refine c_sr (o_lss hti0 h7 (c_nil (c_sq ?_)))
  refine c_ift rfl (ran_lt q3) ?_
  refine c_sk (c_sq (c_bk (c_sr (o_mv hti0 ?_))))
  refine o_mv (v := (vi x2)) rfl ?_
  refine c_nil ?_
  refine d_start s6 fun n2 H7 s8 q9 d7 => ?_
  refine d_mv h6 ?_
  refine d_nck rfl ?_
  refine d_fad rfl ?_
  refine d_ldB (q9 _ _ (ph_some.2 ⟨s8.curB 1 rfl, by simp⟩)) 1 s8 rfl rfl rfl rfl ?_
  refine d_mv (v := (vi x2)) rfl ?_
  refine d_mv h4 ?_
  refine d_len rfl ((hp2.mono g1.v)).len ?_
  refine d_add rfl rfl ?_
  obtain ⟨x4, q10, e1⟩ := oB e1
  refine d_mks (s := (Sh.ik .u32)) (d7.get 8 rfl rfl) s8 Sh.flat_lt rfl rfl rfl rfl q10 fun w2 H8 s9 k4 => ?_
  have d8 := d7.next 8 rfl k4
  obtain ⟨x5, q11, e1⟩ := oB e1
  refine d_idx (v := (vS d5 x1)) rfl rfl (s9.curS (s := (Sh.sl (Sh.ik .u32))) 3 rfl) rfl q11 fun p1 q12 => ?_
  refine d_stH 2 s9 rfl rfl rfl q12 q11 fun H9 s10 k5 => ?_
  have d9 := d8.keep k5
  refine d_nil dc_nil ?_
  refine c_end (c_r (o_add hti0 rfl ?_))
  refine o_mv (v := (vi (Pu.W (x2 + 1)))) rfl ?_
  refine c_nil ?_
  obtain rfl := oJ e1
  exact k3 _ _ ⟨(iv rfl (w_sucR q3 q7)), _, _, g1, s10, h4, h5, h6, h7⟩
 obtain ⟨hte0, Z2, V2, g2, s11, h8, h9, h10, h11⟩ := jd
 refine c_sr (o_lss hte0 h11 (c_nil (c_sq ?_)))
 refine c_iff rfl (ran_done _) ?_
 refine c_ex ?_
 refine e_c ?_
 refine e_c ?_
 refine e_h ?_
 refine c_sq (c_sr ?_)
 refine o_mv (v := (.bool true)) rfl ?_
 refine c_nil ?_
 obtain ⟨y2, q15, e⟩ := oB e
 refine c_jn (I := fun tm H => ∃ (s14 : ((List (List Int)) × Bool)), y2 = .out s14 ∧ (∃ (Z4 V4 : PH), Gw Z2 V2 Z4 V4 ∧ Sat Z4 V4 H [pts b1 (.rw 0 [vi a0.Terms, vi a0.Nons, vi a0.Start, (vS d1 a0.Rules)]), pts b2 (.rw 0 [vi a0.Terms, vi a0.Nons, vi a0.Start, (vS d1 a0.Rules), (vS d4 a1), (vS d5 x1)]), It.sl (Sh.sl (Sh.ik .u32)) (vS d5 x1) s14.1] ∧ tm 2 = (pV b1 0) ∧ tm 5 = (pV b2 0) ∧ tm 7 = (.bool s14.2))) (fun k9 => ?_) ?_
 ·refine c_bk ?_
  refine l_whl (fun (s12 : ((List (List Int)) × Bool)) tm H => ∃ (Z3 V3 : PH), Gw Z2 V2 Z3 V3 ∧ Sat Z3 V3 H [pts b1 (.rw 0 [vi a0.Terms, vi a0.Nons, vi a0.Start, (vS d1 a0.Rules)]), pts b2 (.rw 0 [vi a0.Terms, vi a0.Nons, vi a0.Start, (vS d1 a0.Rules), (vS d4 a1), (vS d5 x1)]), It.sl (Sh.sl (Sh.ik .u32)) (vS d5 x1) s12.1] ∧ tm 2 = (pV b1 0) ∧ tm 5 = (pV b2 0) ∧ tm 7 = (.bool s12.2)) (fun s12 y3 tm H12 j2 e2 k6 k7 k8 => ?_) q15 ⟨_, _, Gw.refl _ _, s11, h9, h10, rfl⟩
  obtain ⟨Z3, V3, g3, s13, h12, h13, h14⟩ := j2
  unfold P.mean_derived.b1 at e2
  refine c_sq (c_sr (o_mv h14 (c_nil ?_)))
  refine c_if rfl (fun q16 => ?_) (fun q16 => ?_)
  ·replace e2 := if_t q16 e2
   refine c_sk (c_bk (c_sr ?_))
   refine o_mv (v := (.bool false)) rfl ?_
   refine c_nil (c_sr (o_fad h12 (o_ldB 0 s13 rfl rfl rfl rfl (o_len rfl ((hp1.mono (g2.trans g3).v)).len ?_))))
   refine o_mv (v := (vi 0)) rfl ?_
   refine c_nil ?_
   obtain ⟨y4, q19, e2⟩ := oB e2
   refine c_bk ?_
   refine l_forP (xs := a0.Rules) (fun (i4 : Nat) (s16 : ((List (List Int)) × Bool)) tm H => tm 44 = vi i4 ∧ ∃ (Z5 V5 : PH), Gw Z3 V3 Z5 V5 ∧ Sat Z5 V5 H [pts b1 (.rw 0 [vi a0.Terms, vi a0.Nons, vi a0.Start, (vS d1 a0.Rules)]), pts b2 (.rw 0 [vi a0.Terms, vi a0.Nons, vi a0.Start, (vS d1 a0.Rules), (vS d4 a1), (vS d5 x1)]), It.sl (Sh.sl (Sh.ik .u32)) (vS d5 x1) s16.1] ∧ tm 2 = (pV b1 0) ∧ tm 5 = (pV b2 0) ∧ tm 7 = (.bool s16.2) ∧ tm 42 = (vS d1 a0.Rules) ∧ tm 43 = (vN a0.Rules)) (fun i4 x7 s16 s18 tm H15 q17 q18 j3 e3 k10 => ?_) (fun tm H14 jd => ?_) q19 ⟨rfl, _, _, Gw.refl _ _, s13, h12, h13, rfl, rfl, rfl⟩
   ·obtain ⟨hti2, Z5, V5, g5, s17, h18, h19, h20, h21, h22⟩ := j3
    unfold P.mean_derived.b2 at e3
    refine c_sr (o_lss hti2 h22 (c_nil (c_sq ?_)))
    refine c_ift rfl (Int.ofNat_lt.2 q18) ?_
    refine c_sk (c_sq (c_bk (c_sr ?_)))
    refine o_idx (v := (vS d1 a0.Rules)) h21 hti2 (hp1.mono (g2.trans (g3.trans g5)).v) rfl (Pu.ix_nat.trans q17) fun p2 q20 => ?_
    refine o_lda rfl (hp1.mono (g2.trans (g3.trans g5)).v) s17.v rfl q20 (Pu.ix_nat.trans q17) fun c1 h23 => ?_
    obtain ⟨w3, rfl, h24⟩ := Sh.api_Rule_op h23
    refine o_new s17 fun b3 H16 s19 => ?_
    obtain ⟨d10, rfl⟩ := (h24).val
    refine o_stB (us' := [vi x7.Left, (vS d10 x7.Right)]) 0 s19 rfl rfl rfl rfl rfl rfl rfl fun H17 s20 => ?_
    refine c_nil (c_sq ?_)
    refine d_start s20 fun n3 H18 s21 q21 d11 => ?_
    refine d_mv h19 ?_
    refine d_nck rfl ?_
    refine d_fad rfl ?_
    refine d_ldB (q21 _ _ (ph_some.2 ⟨s21.curB 2 rfl, by simp⟩)) 2 s21 rfl rfl rfl rfl ?_
    refine d_fad rfl ?_
    refine d_ldB (q21 _ _ (ph_some.2 ⟨s21.curB 0 rfl, by simp⟩)) 0 s21 rfl rfl rfl rfl ?_
    obtain ⟨x8, q22, e3⟩ := oB e3
    refine d_idx (v := (vS d5 x1)) rfl rfl (s21.curS (s := (Sh.sl (Sh.ik .u32))) 3 rfl) rfl q22 fun p3 q23 => ?_
    refine d_ldsv ((s21.curS 3 rfl).low pR q21) rfl (s21.curS (s := (Sh.sl (Sh.ik .u32))) 3 rfl) pR q23 q22 fun w4 h25 h26 => ?_
    refine d_len rfl (h25).len ?_
    refine d_mv (v := (vi 0)) rfl ?_
    refine d_nil dc_nil ?_
    refine c_gen (P := fun tm => tm 2 = (pV b1 0) ∧ tm 5 = (pV b2 0) ∧ tm 7 = (.bool s16.2) ∧ tm 9 = (pV b3 0) ∧ tm 42 = (vS d1 a0.Rules) ∧ tm 43 = (vN a0.Rules) ∧ tm 44 = (vJ i4) ∧ tm 56 = (vN x8) ∧ tm 57 = (vi 0) ∧ True) ⟨h18, h19, h20, rfl, h21, h22, hti2, rfl, rfl, trivial⟩ ?_
    intro _ i5
    obtain ⟨h27, h28, h29, h30, h31, h32, h33, h34, h35, -⟩ := i5
    obtain ⟨x10, q26, e3⟩ := oB e3
    obtain ⟨rfl, q28⟩ := ranO_some q26
    obtain ⟨y5, q29, e3⟩ := oB e3
    refine c_bk ?_
    refine l_forP (xs := (Pu.ran (x8.length : Int))) (fun (i6 : Nat) (s22 : ((List (List Int)) × Bool)) tm H => tm 57 = vi i6 ∧ ∃ (Z6 V6 : PH), Gw Z5 V5 Z6 V6 ∧ Sat Z6 V6 H [pts b1 (.rw 0 [vi a0.Terms, vi a0.Nons, vi a0.Start, (vS d1 a0.Rules)]), pts b2 (.rw 0 [vi a0.Terms, vi a0.Nons, vi a0.Start, (vS d1 a0.Rules), (vS d4 a1), (vS d5 x1)]), It.sl (Sh.sl (Sh.ik .u32)) (vS d5 x1) s22.1, pts b3 (.rw 0 [vi x7.Left, (vS d10 x7.Right)])] ∧ tm 2 = (pV b1 0) ∧ tm 5 = (pV b2 0) ∧ tm 7 = (.bool s22.2) ∧ tm 9 = (pV b3 0) ∧ tm 42 = (vS d1 a0.Rules) ∧ tm 43 = (vN a0.Rules) ∧ tm 44 = (vJ i4) ∧ tm 56 = (vN x8)) (fun i6 x9 s22 s24 tm H20 q24 q25 j4 e4 k11 => ?_) (fun tm H19 jd => ?_) q29 ⟨h35, _, _, Gw.refl _ _, (s21.pick [1, 2, 3, 0] rfl), h27, h28, h29, h30, h31, h32, h33, h34⟩
    ·obtain ⟨hti3, Z6, V6, g6, s23, h36, h37, h38, h39, h40, h41, h42, h43⟩ := j4
     unfold P.mean_derived.b3 at e4
     have hti3 := iv hti3 (ran_x q24).symm
     refine c_sr (o_lss hti3 h43 (c_nil (c_sq ?_)))
     refine c_ift rfl (ran_lt q24) ?_
     refine c_sk (c_sq (c_bk (c_sr (o_mv hti3 ?_))))
     refine o_mv (v := (vi x9)) rfl ?_
     refine c_nil (c_sr ?_)
     refine o_mv (v := (vi x9)) rfl ?_
     obtain ⟨x11, q30, e4⟩ := oB e4
     refine o_shl rfl rfl q30 ?_
     refine o_mv (v := (.int .u32 x11)) rfl ?_
     refine c_nil (c_sq (c_sr (o_fad h39 (o_ldB 3 s23 rfl rfl rfl rfl ?_))))
     refine o_len rfl ((h24.mono g6.v)).len ?_
     refine o_mv (v := (vi 0)) rfl ?_
     refine c_nil ?_
     refine c_gen (P := fun tm => tm 2 = (pV b1 0) ∧ tm 5 = (pV b2 0) ∧ tm 7 = (.bool s22.2) ∧ tm 9 = (pV b3 0) ∧ tm 10 = (vi x9) ∧ tm 11 = (.int .u32 x11) ∧ tm 42 = (vS d1 a0.Rules) ∧ tm 43 = (vN a0.Rules) ∧ tm 44 = (vJ i4) ∧ tm 56 = (vN x8) ∧ tm 57 = (vi x9) ∧ tm 63 = (vS d10 x7.Right) ∧ tm 64 = (vN x7.Right) ∧ tm 65 = (vi 0) ∧ True) ⟨h36, h37, h38, h39, rfl, rfl, h40, h41, h42, h43, hti3, rfl, rfl, rfl, trivial⟩ ?_
     intro _ i7
     obtain ⟨h44, h45, h46, h47, h48, h49, h50, h51, h52, h53, h54, h55, h56, h57, -⟩ := i7
     obtain ⟨y6, q33, e4⟩ := oB e4
     refine c_bk ?_
     refine l_forP (xs := x7.Right) (fun (i8 : Nat) (s25 : Int) tm H => tm 65 = vi i8 ∧ ∃ (Z7 V7 : PH), Gw Z6 V6 Z7 V7 ∧ Sat Z7 V7 H [pts b1 (.rw 0 [vi a0.Terms, vi a0.Nons, vi a0.Start, (vS d1 a0.Rules)]), pts b2 (.rw 0 [vi a0.Terms, vi a0.Nons, vi a0.Start, (vS d1 a0.Rules), (vS d4 a1), (vS d5 x1)]), It.sl (Sh.sl (Sh.ik .u32)) (vS d5 x1) s22.1, pts b3 (.rw 0 [vi x7.Left, (vS d10 x7.Right)])] ∧ tm 2 = (pV b1 0) ∧ tm 5 = (pV b2 0) ∧ tm 7 = (.bool s22.2) ∧ tm 9 = (pV b3 0) ∧ tm 10 = (vi x9) ∧ tm 11 = (.int .u32 s25) ∧ tm 42 = (vS d1 a0.Rules) ∧ tm 43 = (vN a0.Rules) ∧ tm 44 = (vJ i4) ∧ tm 56 = (vN x8) ∧ tm 57 = (vi x9) ∧ tm 63 = (vS d10 x7.Right) ∧ tm 64 = (vN x7.Right)) (fun i8 x12 s25 s27 tm H22 q31 q32 j5 e5 k12 => ?_) (fun tm H21 jd => ?_) q33 ⟨h57, _, _, Gw.refl _ _, s23, h44, h45, h46, h47, h48, h49, h50, h51, h52, h53, h54, h55, h56⟩
     ·obtain ⟨hti4, Z7, V7, g7, s26, h58, h59, h60, h61, h62, h63, h64, h65, h66, h67, h68, h69, h70⟩ := j5
      unfold P.mean_derived.b4 at e5
      refine c_sr (o_lss hti4 h70 (c_nil (c_sq ?_)))
      refine c_ift rfl (Int.ofNat_lt.2 q32) ?_
      refine c_sk (c_sq (c_bk (c_sr ?_)))
      refine o_idx (v := (vS d10 x7.Right)) h69 hti4 (h24.mono (g6.trans g7).v) rfl (Pu.ix_nat.trans q31) fun p4 q34 => ?_
      refine o_lda rfl (h24.mono (g6.trans g7).v) s26.v rfl q34 (Pu.ix_nat.trans q31) fun c2 h71 => ?_
      obtain rfl := h71
      refine o_new s26 fun b4 H23 s28 => ?_
      refine o_stB (us' := [(.bool x12.Term), vi x12.N]) 0 s28 rfl rfl rfl rfl rfl rfl rfl fun H24 s29 => ?_
      refine c_nil (c_r (o_mv h59 (o_ldB 0 s29 rfl rfl rfl rfl (o_mv h63 ?_))))
      obtain ⟨x13, q35, e5⟩ := oB e5
      obtain ⟨Z8, V8, W1, g8, u1, c3, c4, -, c6, c5⟩ := Sat.call (l1 := [pts b2 (.rw 0 [vi a0.Terms, vi a0.Nons, vi a0.Start, (vS d1 a0.Rules), (vS d4 a1), (vS d5 x1)]), It.sl (Sh.sl (Sh.ik .u32)) (vS d5 x1) s22.1]) (l2 := [pts b4 (.rw 0 [(.bool x12.Term), vi x12.N]), pts b1 (.rw 0 [vi a0.Terms, vi a0.Nons, vi a0.Start, (vS d1 a0.Rules)]), pts b3 (.rw 0 [vi x7.Left, (vS d10 x7.Right)])]) (s29.pick [2, 3, 0, 1, 4] rfl)
      refine o_call (mc rfl (mc rfl (mc rfl m0))) (X.mean_ends_after nd.mean_ends_after (a0 := (Ty.mean_ends.mk a0 a1 s22.1)) c3 (hp1.mono (((g2.trans (g3.trans (g5.trans (g6.trans g7)))).trans g8).v.trans u1)) (hp2.mono (((g2.trans (g3.trans (g5.trans (g6.trans g7)))).trans g8).v.trans u1)) q35) fun _ H25 i9 => ?_
      obtain ⟨rfl, s30⟩ := i9
      have s31 := c5 _ _ s30
      refine o_mv (v := (.int .u32 x13)) rfl ?_
      refine c_nil (c_end (c_r (o_add hti4 rfl ?_)))
      refine o_mv (v := (vi (Pu.W ((i8 : Int) + 1)))) rfl ?_
      refine c_nil ?_
      obtain rfl := oJ e5
      exact k12 _ _ ⟨(iv rfl (w_suc q32 ((h24.mono g6.v)).bd)), _, _, (g7.trans g8), (s31.pick [3, 0, 1, 4] rfl), h58, h59, h60, h61, h62, rfl, h64, h65, h66, h67, h68, h69, h70⟩
     obtain ⟨hte4, Z9, V9, g9, s32, h72, h73, h74, h75, h76, h77, h78, h79, h80, h81, h82, h83, h84⟩ := jd
     refine c_sr (o_lss hte4 h84 (c_nil (c_sq ?_)))
     refine c_iff rfl (Int.lt_irrefl _) ?_
     refine c_ex ?_
     refine e_c ?_
     refine e_c ?_
     refine e_h ?_
     refine c_sq ?_
     refine d_start s32 fun n4 H27 s33 q36 d12 => ?_
     refine d_mv h77 ?_
     refine d_mv h73 ?_
     refine d_nck rfl ?_
     refine d_fad rfl ?_
     refine d_ldB (q36 _ _ (ph_some.2 ⟨s33.curB 1 rfl, by simp⟩)) 1 s33 rfl rfl rfl rfl ?_
     refine d_fad h75 ?_
     refine d_ldB (q36 _ _ (ph_some.2 ⟨s33.curB 3 rfl, by simp⟩)) 3 s33 rfl rfl rfl rfl ?_
     obtain ⟨x14, q37, e4⟩ := oB e4
     refine d_idx (v := (vS d5 x1)) rfl rfl (s33.curS (s := (Sh.sl (Sh.ik .u32))) 2 rfl) rfl q37 fun p5 q38 => ?_
     refine d_ldsv ((s33.curS 2 rfl).low pR q36) rfl (s33.curS (s := (Sh.sl (Sh.ik .u32))) 2 rfl) pR q38 q37 fun w5 h85 h86 => ?_
     refine d_mv h76 ?_
     obtain ⟨x15, q39, e4⟩ := oB e4
     refine d_idx (v := w5) rfl rfl h85 rfl q39 fun p6 q40 => ?_
     refine d_ldi (RdS.low h85 pR q36) rfl h85 pR q40 q39 ?_
     have h87 := vl_ik h85 pR q40 q39
     refine d_andNot rfl rfl ?_
     refine d_neq rfl rfl ?_
     refine d_nil dc_nil ?_
     refine c_gen (P := fun tm => tm 2 = (pV b1 0) ∧ tm 5 = (pV b2 0) ∧ tm 7 = (.bool s22.2) ∧ tm 9 = (pV b3 0) ∧ tm 10 = (vi x9) ∧ tm 11 = (.int .u32 y6) ∧ tm 42 = (vS d1 a0.Rules) ∧ tm 43 = (vN a0.Rules) ∧ tm 44 = (vJ i4) ∧ tm 56 = (vN x8) ∧ tm 57 = (vi x9) ∧ tm 87 = (.bool (decide ((Pu.bandn .u32 y6 x15) ≠ 0))) ∧ True) ⟨h72, h73, h74, h75, h76, h77, h78, h79, h80, h81, h82, rfl, trivial⟩ ?_
     intro _ i10
     obtain ⟨h88, h89, h90, h91, h92, h93, h94, h95, h96, h97, h98, h99, -⟩ := i10
     obtain ⟨y7, e6, e4⟩ := oB e4
     refine c_jn (I := fun tm H => ∃ (Z10 V10 : PH), Gw Z9 V9 Z10 V10 ∧ Sat Z10 V10 H [pts b1 (.rw 0 [vi a0.Terms, vi a0.Nons, vi a0.Start, (vS d1 a0.Rules)]), pts b2 (.rw 0 [vi a0.Terms, vi a0.Nons, vi a0.Start, (vS d1 a0.Rules), (vS d4 a1), (vS d5 x1)]), It.sl (Sh.sl (Sh.ik .u32)) (vS d5 x1) y7.1, pts b3 (.rw 0 [vi x7.Left, (vS d10 x7.Right)])] ∧ tm 2 = (pV b1 0) ∧ tm 5 = (pV b2 0) ∧ tm 7 = (.bool y7.2) ∧ tm 9 = (pV b3 0) ∧ tm 42 = (vS d1 a0.Rules) ∧ tm 43 = (vN a0.Rules) ∧ tm 44 = (vJ i4) ∧ tm 56 = (vN x8) ∧ tm 57 = (vi x9)) (fun k13 => ?_) ?_
     ·refine c_ifd h99 (fun q41 => ?_) (fun q41 => ?_)
      ·replace e6 := if_t q41 e6
       refine c_sq ?_
       refine d_start s33 fun n5 H29 s35 q42 d13 => ?_
       refine d_mv h89 ?_
       refine d_nck rfl ?_
       refine d_fad rfl ?_
       refine d_ldB (q42 _ _ (ph_some.2 ⟨s35.curB 1 rfl, by simp⟩)) 1 s35 rfl rfl rfl rfl ?_
       refine d_fad h91 ?_
       refine d_ldB (q42 _ _ (ph_some.2 ⟨s35.curB 3 rfl, by simp⟩)) 3 s35 rfl rfl rfl rfl ?_
       obtain ⟨x16, q43, e6⟩ := oB e6
       refine d_idx (v := (vS d5 x1)) rfl rfl (s35.curS (s := (Sh.sl (Sh.ik .u32))) 2 rfl) rfl q43 fun p7 q44 => ?_
       refine d_ldsv ((s35.curS 2 rfl).low pR q42) rfl (s35.curS (s := (Sh.sl (Sh.ik .u32))) 2 rfl) pR q44 q43 fun w6 h109 h110 => ?_
       refine d_mv h92 ?_
       obtain ⟨x17, q45, e6⟩ := oB e6
       refine d_idx (v := w6) rfl rfl h109 rfl q45 fun p8 q46 => ?_
       refine d_ldi (RdS.low h109 pR q42) rfl h109 pR q46 q45 ?_
       have h111 := vl_ik h109 pR q46 q45
       refine d_mv h93 ?_
       refine d_or rfl rfl ?_
       obtain ⟨x18, q47, e6⟩ := oB e6
       refine d_idx (v := w6) rfl rfl h109 rfl q47 fun p9 q48 => ?_
       refine d_st2 2 s35 rfl Sh.flat_lt rfl rfl rfl q44 q43 h110 q48 q47 rfl rfl fun H30 s36 k14 => ?_
       have d14 := d13.keep k14
       refine d_nil dc_nil ?_
       refine c_gen (P := fun tm => tm 2 = (pV b1 0) ∧ tm 5 = (pV b2 0) ∧ tm 9 = (pV b3 0) ∧ tm 42 = (vS d1 a0.Rules) ∧ tm 43 = (vN a0.Rules) ∧ tm 44 = (vJ i4) ∧ tm 56 = (vN x8) ∧ tm 57 = (vi x9) ∧ True) ⟨h88, h89, h91, h94, h95, h96, h97, h98, trivial⟩ ?_
       intro _ i11
       obtain ⟨h112, h113, h114, h115, h116, h117, h118, h119, -⟩ := i11
       refine c_r ?_
       refine o_mv (v := (.bool true)) rfl ?_
       refine c_nil ?_
       obtain rfl := oJ e6
       exact k13 _ _ ⟨_, _, Gw.refl _ _, s36, h112, h113, rfl, h114, h115, h116, h117, h118, h119⟩
      replace e6 := if_f q41 e6
      refine c_sk ?_
      obtain rfl := oJ e6
      exact k13 _ _ ⟨_, _, Gw.refl _ _, s33, h88, h89, h90, h91, h94, h95, h96, h97, h98⟩
     intro _ H28 i12
     obtain ⟨Z10, V10, g10, s34, h100, h101, h102, h103, h104, h105, h106, h107, h108⟩ := i12
     refine c_end (c_r (o_add h108 rfl ?_))
     refine o_mv (v := (vi (Pu.W (x9 + 1)))) rfl ?_
     refine c_nil ?_
     obtain rfl := oJ e4
     exact k11 _ _ ⟨(iv rfl (w_sucR q24 q28)), _, _, (g6.trans (g9.trans g10)), s34, h100, h101, h102, h103, h104, h105, h106, h107⟩
    obtain ⟨hte3, Z11, V11, g11, s37, h120, h121, h122, h123, h124, h125, h126, h127⟩ := jd
    refine c_sr (o_lss hte3 h127 (c_nil (c_sq ?_)))
    refine c_iff rfl (ran_done _) ?_
    refine c_ex ?_
    refine e_c ?_
    refine e_c ?_
    refine e_h ?_
    refine c_end (c_r (o_add h126 rfl ?_))
    refine o_mv (v := (vi (Pu.W ((i4 : Int) + 1)))) rfl ?_
    refine c_nil ?_
    obtain rfl := oJ e3
    exact k10 _ _ ⟨(iv rfl (w_suc q18 ((hp1.mono (g2.trans g3).v)).bd)), _, _, (g5.trans g11), (s37.pick [0, 1, 2] rfl), h120, h121, h122, h124, h125⟩
   obtain ⟨hte2, Z12, V12, g12, s38, h128, h129, h130, h131, h132⟩ := jd
   refine c_sr (o_lss hte2 h132 (c_nil (c_sq ?_)))
   refine c_iff rfl (Int.lt_irrefl _) ?_
   refine c_ex ?_
   refine e_c ?_
   refine e_c ?_
   refine e_h ?_
   refine c_end ?_
   exact k6 _ _ _ (sJ e2) ⟨_, _, (g3.trans g12), s38, h128, h129, h130⟩
  replace e2 := ib_f q16 e2
  refine c_ex ?_
  refine e_c ?_
  refine e_c ?_
  refine e_h ?_
  exact k9 _ _ ⟨_, k7 _ (sJ e2), _, _, g3, s13, h12, h13, h14⟩
 intro _ H13 i13
 obtain ⟨s14, f1, Z4, V4, g4, s15, h15, h16, h17⟩ := i13
 replace e := fin_o f1 e
 refine c_sr (o_mv h16 ?_)
 refine o_mv (v := (pV b2 0)) rfl ?_
 refine c_nil (c_rt ?_)
 obtain rfl := oJ e
 exact ⟨.inr rfl, _, (ar1 rfl), _, _, rfl, ((s15.pick [1, 2] rfl).weak (g2.trans g4) hs.zv)⟩
/-! mean_ends_is -/
structure Nd.mean_ends_is (T : FuncId → Option AFunc) : Prop where
  own : Has T I.mean_ends_is F.mean_ends_is
  mean_ends_after : Nd.mean_ends_after T
set_option maxHeartbeats 1000000 in
theorem X.mean_ends_is {T : FuncId → Option AFunc} (nd : Nd.mean_ends_is T) {φ : Nat} {Z V : PH} {H : Hp} {v1 : Value} {v2 : Value} {v3 : Value} {o1 : Nat} {a0 : Ty.mean_ends} {a1 : Ty.api_Sym} {a2 : Int} {a3 : Int} (hs : Sat Z V H [pts o1 (.rw 0 [vi a0.g.Terms, vi a0.g.Nons, vi a0.g.Start, v1, v2, v3]), It.sl (Sh.sl (Sh.ik .u32)) v3 a0.of_]) (hp1 : RdS Sh.api_Rule V v1 a0.g.Rules) (hp2 : RdS Sh.int V v2 a0.w) {r : Bool} (e : P.mean_ends_is φ a0 a1 a2 a3 = some r) :
    G T I.mean_ends_is [(pV o1 0), (.agg #[(.bool a1.Term), vi a1.N]), vi a2, vi a3] H (fun rv H' => rv = (.bool r) ∧ Sat Z V H' [pts o1 (.rw 0 [vi a0.g.Terms, vi a0.g.Nons, vi a0.g.Start, v1, v2, v3]), It.sl (Sh.sl (Sh.ik .u32)) v3 a0.of_]) := by
 unfold P.mean_ends_is at e
 refine f_mk nd.own ?_
 refine c_sr ?_
 refine o_box hs rfl rfl fun b1 H1 s1 => ?_
 refine o_mv (v := (.bool false)) rfl ?_
 refine c_nil (c_sq ?_)
 refine d_start s1 fun n1 H2 s2 q1 d1 => ?_
 refine d_mv (v := (pV o1 0)) rfl ?_
 refine d_ldB (q1 _ _ (ph_some.2 ⟨s2.curB 0 rfl, by simp⟩)) 0 s2 rfl rfl rfl rfl ?_
 refine d_mv (v := (vi a2)) rfl ?_
 obtain ⟨x1, q2, e⟩ := oB e
 refine d_shl rfl rfl q2 ?_
 obtain ⟨x2, q3, e⟩ := oB e
 obtain ⟨d2, rfl⟩ := (hp1).val
 obtain ⟨d3, rfl⟩ := (hp2).val
 obtain ⟨d4, rfl⟩ := ((s2.curS (s := (Sh.sl (Sh.ik .u32))) 2 rfl)).val
 obtain ⟨Z1, V1, W1, g1, u1, c1, c2, -, c4, c3⟩ := Sat.call (l1 := [pts o1 (.rw 0 [vi a0.g.Terms, vi a0.g.Nons, vi a0.g.Start, (vS d2 a0.g.Rules), (vS d3 a0.w), (vS d4 a0.of_)]), It.sl (Sh.sl (Sh.ik .u32)) (vS d4 a0.of_) a0.of_]) (l2 := [pts b1 (.rw 0 [(.bool a1.Term), vi a1.N])]) (s2.pick [1, 2, 0] rfl)
 refine d_call (mc rfl (mc rfl (mc rfl m0))) (X.mean_ends_after nd.mean_ends_after (a0 := a0) c1 (hp1.mono (g1.v.trans u1)) (hp2.mono (g1.v.trans u1)) q3) fun _ H3 i1 k1 => ?_
 have d5 := d1.keep k1
 obtain ⟨rfl, s3⟩ := i1
 have s4 := c3 _ _ s3
 refine d_mv (v := (vi a3)) rfl ?_
 obtain ⟨x3, q4, e⟩ := oB e
 refine d_shr rfl rfl q4 ?_
 refine d_and rfl rfl ?_
 refine d_eql rfl rfl ?_
 refine d_mv (v := (.bool (decide ((Pu.band .u32 x3 1) = 1)))) rfl ?_
 refine d_nil dc_nil ?_
 refine c_gen (P := fun tm => tm 8 = (.bool (decide ((Pu.band .u32 x3 1) = 1))) ∧ True) ⟨rfl, trivial⟩ ?_
 intro _ i2
 obtain ⟨h1, -⟩ := i2
 refine c_rt ?_
 obtain rfl := oJ e
 exact ⟨.inr rfl, _, (ar1 h1), rfl, ((s4.pick [0, 1] rfl).weak g1 hs.zv)⟩
/-! mean_Accepts -/
structure Nd.mean_Accepts (T : FuncId → Option AFunc) : Prop where
  own : Has T I.mean_Accepts F.mean_Accepts
  mean_check : Nd.mean_check T
  mean_derived : Nd.mean_derived T
  mean_ends_is : Nd.mean_ends_is T
set_option maxHeartbeats 1000000 in
theorem X.mean_Accepts {T : FuncId → Option AFunc} (nd : Nd.mean_Accepts T) {φ : Nat} {Z V : PH} {H : Hp} {v1 : Value} {v2 : Value} {a0 : Ty.api_Grammar} {a1 : (List Int)} (hs : Sat Z V H []) (hp1 : RdS Sh.api_Rule V v1 a0.Rules) (hp2 : RdS Sh.int V v2 a1) {r : (Bool × Int)} (e : P.mean_Accepts φ a0 a1 = some r) :
    G T I.mean_Accepts [(.agg #[vi a0.Terms, vi a0.Nons, vi a0.Start, v1]), v2] H (fun rv H' => rv = (.tuple #[(.bool r.1), vi r.2]) ∧ Sat Z V H' []) := by
 unfold P.mean_Accepts at e
 refine f_mk nd.own ?_
 refine c_sr ?_
 obtain ⟨d1, rfl⟩ := (hp1).val
 refine o_box hs rfl rfl fun b1 H1 s1 => ?_
 refine o_mv (v := (.bool false)) rfl ?_
 refine o_mv (v := (vi 0)) rfl ?_
 refine c_nil (c_sq (c_sr (o_ldB 0 s1 rfl rfl rfl rfl ?_)))
 refine o_mv (v := v2) rfl ?_
 obtain ⟨x1, q1, e⟩ := oB e
 obtain ⟨Z1, V1, W1, g1, u1, c1, c2, -, c4, c3⟩ := Sat.call (l1 := []) s1
 refine o_call (mc rfl (mc rfl m0)) (X.mean_check nd.mean_check c1 (hp1.mono (g1.v.trans u1)) (hp2.mono (g1.v.trans u1)) q1) fun _ H2 i1 => ?_
 obtain ⟨rfl, s2⟩ := i1
 have s3 := c3 _ _ s2
 refine o_mv (v := (vi x1)) rfl ?_
 refine c_nil (c_sr ?_)
 refine o_mv (v := (vi x1)) rfl ?_
 refine o_neq rfl rfl (c_nil ?_)
 refine c_ifd rfl (fun q2 => ?_) (fun q2 => ?_)
 ·replace e := if_t q2 e
  refine c_sr ?_
  refine o_mv (v := (vi x1)) rfl ?_
  refine o_mv (v := (.bool false)) rfl ?_
  refine o_mv (v := (vi x1)) rfl ?_
  refine c_nil ?_
  refine c_gen (P := fun tm => tm 4 = (.bool false) ∧ tm 5 = (vi x1) ∧ True) ⟨rfl, rfl, trivial⟩ ?_
  intro _ i2
  obtain ⟨h1, h2, -⟩ := i2
  refine c_rt ?_
  obtain rfl := oJ e
  exact ⟨.inr rfl, _, (ar2 h1 h2), rfl, ((s3.pick [] rfl).weak g1 hs.zv)⟩
 replace e := if_f q2 e
 refine c_sk (c_sq ?_)
 refine c_gen (P := fun tm => tm 1 = v2 ∧ tm 2 = (pV b1 0) ∧ True) ⟨rfl, rfl, trivial⟩ ?_
 intro _ i3
 obtain ⟨h3, h4, -⟩ := i3
 refine d_start s3 fun n1 H3 s4 q3 d2 => ?_
 refine d_ldB (q3 _ _ (ph_some.2 ⟨s4.curB 0 rfl, by simp⟩)) 0 s4 rfl h4 rfl rfl ?_
 refine d_mv h3 ?_
 obtain ⟨x2, q4, e⟩ := oB e
 obtain ⟨Z2, V2, W2, g2, u2, c5, c6, -, c8, c7⟩ := Sat.call (l1 := []) s4
 refine d_call (mc rfl (mc rfl m0)) (X.mean_derived nd.mean_derived c5 (hp1.mono ((g1.trans g2).v.trans u2)) (hp2.mono ((g1.trans g2).v.trans u2)) q4) fun _ H4 i4 k1 => ?_
 have d3 := d2.keep k1
 obtain ⟨b2, w1, rfl, s5⟩ := i4
 have s6 := c7 _ _ s5
 refine d_fad h4 ?_
 refine d_ldB (q3 _ _ (ph_some.2 ⟨s4.curB 0 rfl, by simp⟩)) 2 s6 rfl rfl rfl rfl ?_
 refine d_bld (qs := [(1, 1, (vi a0.Start))]) rfl rfl ?_
 refine d_mv h3 ?_
 refine d_len rfl ((hp2.mono (g1.trans g2).v)).len ?_
 obtain ⟨x3, q5, e⟩ := oB e
 obtain ⟨d4, rfl⟩ := ((hp2.mono (g1.trans g2).v)).val
 obtain ⟨d5, rfl⟩ := ((s6.curS (s := (Sh.sl (Sh.ik .u32))) 1 rfl)).val
 obtain ⟨Z3, V3, W3, g3, u3, c9, c10, -, c12, c11⟩ := Sat.call (l1 := [pts b2 (.rw 0 [vi x2.g.Terms, vi x2.g.Nons, vi x2.g.Start, (vS d1 a0.Rules), (vS d4 a1), (vS d5 x2.of_)]), It.sl (Sh.sl (Sh.ik .u32)) (vS d5 x2.of_) x2.of_]) (l2 := [pts b1 (.rw 0 [vi a0.Terms, vi a0.Nons, vi a0.Start, (vS d1 a0.Rules)])]) s6
 refine d_call (mc rfl (mc rfl (mc rfl (mc rfl m0)))) (X.mean_ends_is nd.mean_ends_is (a0 := (Ty.mean_ends.mk (Ty.api_Grammar.mk x2.g.Terms x2.g.Nons x2.g.Start a0.Rules) a1 x2.of_)) (a1 := (Ty.api_Sym.mk false a0.Start)) c9 (hp1.mono (((g1.trans g2).trans g3).v.trans u3)) (hp2.mono (((g1.trans g2).trans g3).v.trans u3)) q5) fun _ H5 i5 k2 => ?_
 have d6 := d3.keep k2
 obtain ⟨rfl, s7⟩ := i5
 have s8 := c11 _ _ s7
 refine d_mv (v := (.bool x3)) rfl ?_
 refine d_mv (v := (vi 0)) rfl ?_
 refine d_nil (dc_mk rfl (ta4 (ta2 (tra (tre (tl4 tr0))))) (ta8 (tra (tre (tl2 tr0)))) (ta8 (tre (tl2 (trl tr0)))) (ag_ldx (w := (vi a0.Start)) w_0 rfl (ldB_v 2 s6 rfl rfl rfl) (ldB_v 0 s4 rfl rfl rfl) (by simp [vsame, vsame1])) (ag_ldx (w := (vi a0.Start)) w_0 rfl (ldB_v 2 s6 rfl rfl rfl) (ldB_v 2 s6 rfl rfl rfl) (by simp [vsame, vsame1])) dc_nil) ?_
 refine c_gen (P := fun tm => tm 4 = (.bool x3) ∧ tm 5 = (vi 0) ∧ True) ⟨rfl, rfl, trivial⟩ ?_
 intro _ i6
 obtain ⟨h5, h6, -⟩ := i6
 refine c_rt ?_
 obtain rfl := oJ e
 exact ⟨.inr rfl, _, (ar2 h5 h6), rfl, ((s8.pick [] rfl).weak (g1.trans (g2.trans g3)) hs.zv)⟩
/-! compare_words -/
structure Nd.compare_words (T : FuncId → Option AFunc) : Prop where
  own : Has T I.compare_words F.compare_words
set_option maxHeartbeats 1000000 in
theorem X.compare_words {T : FuncId → Option AFunc} (nd : Nd.compare_words T) {Z V : PH} {H : Hp} {a0 : Int} {a1 : Int} (hs : Sat Z V H []) {r : Int} (e : P.compare_words a0 a1 = some r) :
    G T I.compare_words [vi a0, vi a1] H (fun rv H' => rv = (vi r) ∧ Sat Z V H' []) := by
 unfold P.compare_words at e
 refine f_mk nd.own ?_
 refine c_sr ?_
 refine o_mv (v := (vi 0)) rfl ?_
 refine c_nil (c_sr ?_)
 refine o_mv (v := (vi 0)) rfl ?_
 refine o_mv (v := (vi 1)) rfl ?_
 refine c_nil (c_sq (c_sr ?_))
 refine o_mv (v := (vi a1)) rfl ?_
 refine o_add rfl rfl ?_
 refine o_mv (v := (vi 0)) rfl ?_
 refine c_nil ?_
 obtain ⟨x2, q3, e⟩ := oB e
 obtain ⟨rfl, q5⟩ := ranO_some q3
 obtain ⟨y1, q6, e⟩ := oB e
 refine c_bk ?_
 refine l_forP (xs := (Pu.ran (Pu.W (a1 + 1)))) (fun (i1 : Nat) (s1 : (Int × Int)) tm H => tm 9 = vi i1 ∧ ∃ (Z1 V1 : PH), Gw Z V Z1 V1 ∧ Sat Z1 V1 H [] ∧ tm 0 = (vi a0) ∧ tm 5 = (vi s1.1) ∧ tm 6 = (vi s1.2) ∧ tm 8 = (vi (Pu.W (a1 + 1)))) (fun i1 x1 s1 s3 tm H2 q1 q2 j1 e1 k1 => ?_) (fun tm H1 jd => ?_) q6 ⟨rfl, _, _, Gw.refl _ _, hs, rfl, rfl, rfl, rfl⟩
 ·obtain ⟨hti0, Z1, V1, g1, s2, h1, h2, h3, h4⟩ := j1
  unfold P.compare_words.b0 at e1
  have hti0 := iv hti0 (ran_x q1).symm
  refine c_sr (o_lss hti0 h4 (c_nil (c_sq ?_)))
  refine c_ift rfl (ran_lt q1) ?_
  refine c_sk (c_sq (c_bk (c_sr (o_mv h2 ?_))))
  refine o_mv h3 (o_add rfl rfl (o_min rfl rfl ?_))
  refine o_mv (v := (vi (Pu.imin 501 (Pu.W (s1.1 + s1.2))))) rfl ?_
  refine c_nil (c_r (o_mv h3 (o_mv h1 (o_mul rfl rfl ?_))))
  refine o_min rfl rfl ?_
  refine o_mv (v := (vi (Pu.imin 501 (Pu.W (s1.2 * a0))))) rfl ?_
  refine c_nil (c_end (c_r (o_add hti0 rfl ?_)))
  refine o_mv (v := (vi (Pu.W (x1 + 1)))) rfl ?_
  refine c_nil ?_
  obtain rfl := oJ e1
  exact k1 _ _ ⟨(iv rfl (w_sucR q1 q5)), _, _, g1, s2, h1, rfl, rfl, h4⟩
 obtain ⟨hte0, Z2, V2, g2, s4, h5, h6, h7, h8⟩ := jd
 refine c_sr (o_lss hte0 h8 (c_nil (c_sq ?_)))
 refine c_iff rfl (ran_done _) ?_
 refine c_ex ?_
 refine e_c ?_
 refine e_c ?_
 refine e_h ?_
 refine c_sr (o_mv h6 ?_)
 refine o_mv (v := (vi y1.1)) rfl ?_
 refine c_nil (c_rt ?_)
 obtain rfl := oJ e
 exact ⟨.inr rfl, _, (ar1 rfl), rfl, (s4.weak g2 hs.zv)⟩
/-! compare_next -/
structure Nd.compare_next (T : FuncId → Option AFunc) : Prop where
  own : Has T I.compare_next F.compare_next
set_option maxHeartbeats 1000000 in
theorem X.compare_next {T : FuncId → Option AFunc} (nd : Nd.compare_next T) {φ : Nat} {Z V : PH} {H : Hp} {v1 : Value} {a0 : (List Int)} {a1 : Int} (hs : Sat Z V H [It.sl Sh.int v1 a0]) {r : ((List Int) × Bool)} (e : P.compare_next φ a0 a1 = some r) :
    G T I.compare_next [v1, vi a1] H (fun rv H' => rv = (.bool r.2) ∧ Sat Z V H' [It.sl Sh.int v1 r.1]) := by
 unfold P.compare_next at e
 refine f_mk nd.own ?_
 refine c_sr ?_
 refine o_mv (v := (.bool false)) rfl ?_
 refine c_nil (c_sq (c_sr ?_))
 refine o_mv (v := v1) rfl ?_
 refine o_len rfl ((hs.curS (s := Sh.int) 0 rfl)).len ?_
 refine o_sub rfl rfl ?_
 refine o_mv (v := (vi (Pu.W ((a0.length : Int) - 1)))) rfl ?_
 refine c_nil ?_
 obtain ⟨y1, q3, e⟩ := oB e
 refine c_jn (I := fun tm H => ∃ (s3 : ((List Int) × Int)), y1 = .out s3 ∧ (∃ (Z2 V2 : PH), Gw Z V Z2 V2 ∧ Sat Z2 V2 H [It.sl Sh.int v1 s3.1] ∧ tm 0 = v1 ∧ tm 1 = (vi a1) ∧ tm 5 = (vi s3.2))) (fun k4 => ?_) ?_
 ·refine c_bk ?_
  refine l_whl (fun (s1 : ((List Int) × Int)) tm H => ∃ (Z1 V1 : PH), Gw Z V Z1 V1 ∧ Sat Z1 V1 H [It.sl Sh.int v1 s1.1] ∧ tm 0 = v1 ∧ tm 1 = (vi a1) ∧ tm 5 = (vi s1.2)) (fun s1 y2 tm H2 j1 e1 k1 k2 k3 => ?_) q3 ⟨_, _, Gw.refl _ _, hs, rfl, rfl, rfl⟩
  obtain ⟨Z1, V1, g1, s2, h1, h2, h3⟩ := j1
  unfold P.compare_next.b0 at e1
  refine c_sq (c_sr (o_mv h3 (o_geq rfl rfl (c_nil ?_))))
  refine c_ifd rfl (fun q4 => ?_) (fun q4 => ?_)
  ·replace e1 := if_t q4 e1
   refine c_sk (c_sq (c_bk (c_sq (c_sr ?_))))
   refine o_mv h1 (o_mv h3 ?_)
   obtain ⟨x2, q5, e1⟩ := oB e1
   refine o_idx (v := v1) rfl rfl (s2.curS (s := Sh.int) 0 rfl) rfl q5 fun p1 q6 => ?_
   refine o_ldi rfl (s2.curS (s := Sh.int) 0 rfl) pR q6 q5 ?_
   refine o_add rfl rfl (o_mv h2 (o_lss rfl rfl (c_nil ?_)))
   refine c_ifd rfl (fun q7 => ?_) (fun q7 => ?_)
   ·replace e1 := if_t q7 e1
    refine c_sr (o_mv h1 (o_mv h3 ?_))
    obtain ⟨x3, q8, e1⟩ := oB e1
    refine o_idx (v := v1) rfl rfl (s2.curS (s := Sh.int) 0 rfl) rfl q8 fun p2 q9 => ?_
    refine o_ldi rfl (s2.curS (s := Sh.int) 0 rfl) pR q9 q8 ?_
    refine o_add rfl rfl ?_
    obtain ⟨x4, q10, e1⟩ := oB e1
    refine o_idx (v := v1) rfl rfl (s2.curS (s := Sh.int) 0 rfl) rfl q10 fun p3 q11 => ?_
    refine o_st 0 s2 rfl Sh.flat_lt rfl rfl rfl q11 q10 rfl rfl fun H4 s5 => ?_
    refine c_nil ?_
    refine c_gen (P := fun tm => True) trivial ?_
    intro _ i2
    refine c_sr ?_
    refine o_mv (v := (.bool true)) rfl ?_
    refine c_nil (c_rt ?_)
    have e2 := fin_r (k3 _ (sJ e1)) e
    obtain rfl := oJ e2
    exact ⟨.inr rfl, _, (ar1 rfl), rfl, (s5.weak g1 hs.zv)⟩
   replace e1 := if_f q7 e1
   refine c_sk (c_r (o_mv h1 (o_mv h3 ?_)))
   obtain ⟨x5, q12, e1⟩ := oB e1
   refine o_idx (v := v1) rfl rfl (s2.curS (s := Sh.int) 0 rfl) rfl q12 fun p4 q13 => ?_
   refine o_st 0 s2 rfl Sh.flat_lt rfl rfl rfl q13 q12 rfl rfl fun H5 s6 => ?_
   refine c_nil (c_end (c_r (o_mv h3 (o_sub rfl rfl ?_))))
   refine o_mv (v := (vi (Pu.W (s1.2 - 1)))) rfl ?_
   refine c_nil ?_
   exact k1 _ _ _ (sJ e1) ⟨_, _, g1, s6, h1, h2, rfl⟩
  replace e1 := if_f q4 e1
  refine c_ex ?_
  refine e_c ?_
  refine e_c ?_
  refine e_h ?_
  exact k4 _ _ ⟨_, k2 _ (sJ e1), _, _, g1, s2, h1, h2, h3⟩
 intro _ H3 i3
 obtain ⟨s3, f1, Z2, V2, g2, s4, h4, h5, h6⟩ := i3
 replace e := fin_o f1 e
 refine c_sr ?_
 refine o_mv (v := (.bool false)) rfl ?_
 refine c_nil (c_rt ?_)
 obtain rfl := oJ e
 exact ⟨.inr rfl, _, (ar1 rfl), rfl, (s4.weak g2 hs.zv)⟩
/-! compare_Least -/
structure Nd.compare_Least (T : FuncId → Option AFunc) : Prop where
  own : Has T I.compare_Least F.compare_Least
  gram_Check : Nd.gram_Check T
  compare_words : Nd.compare_words T
  mean_Accepts : Nd.mean_Accepts T
  compare_next : Nd.compare_next T
set_option maxHeartbeats 1000000 in
theorem X.compare_Least {T : FuncId → Option AFunc} (nd : Nd.compare_Least T) {φ : Nat} {Z V : PH} {H : Hp} {v1 : Value} {v2 : Value} {a0 : Ty.api_Grammar} {a1 : Ty.api_Grammar} {a2 : Int} (hs : Sat Z V H []) (hp1 : RdS Sh.api_Rule V v1 a0.Rules) (hp2 : RdS Sh.api_Rule V v2 a1.Rules) {r : ((List Int) × Int × Int)} (e : P.compare_Least φ a0 a1 a2 = some r) :
    G T I.compare_Least [(.agg #[vi a0.Terms, vi a0.Nons, vi a0.Start, v1]), (.agg #[vi a1.Terms, vi a1.Nons, vi a1.Start, v2]), vi a2] H (fun rv H' => ∃ (u1 : Value), rv = (.tuple #[u1, vi r.2.1, vi r.2.2]) ∧ Sat Z V H' [It.sl Sh.int u1 r.1]) := by
 unfold P.compare_Least at e
 refine f_mk nd.own ?_
 refine c_sr ?_
 obtain ⟨d1, rfl⟩ := (hp1).val
 refine o_box hs rfl rfl fun b1 H1 s1 => ?_
 obtain ⟨d2, rfl⟩ := (hp2).val
 refine o_box s1 rfl rfl fun b2 H2 s2 => ?_
 refine o_mv (v := (.slice none 0 0)) rfl ?_
 refine o_mv (v := (vi 0)) rfl ?_
 refine o_mv (v := (vi 0)) rfl ?_
 refine c_nil (c_sq (c_sr (o_ldB 1 s2 rfl rfl rfl rfl ?_)))
 obtain ⟨x1, q1, e⟩ := oB e
 obtain ⟨Z1, V1, W1, g1, u1, c1, c2, -, c4, c3⟩ := Sat.call (l1 := []) s2
 refine o_call (mc rfl m0) (X.gram_Check nd.gram_Check c1 (hp1.mono (g1.v.trans u1)) q1) fun _ H3 i1 => ?_
 obtain ⟨rfl, s3⟩ := i1
 have s4 := c3 _ _ s3
 refine o_mv (v := (vi x1)) rfl ?_
 refine c_nil (c_sr ?_)
 refine o_mv (v := (vi x1)) rfl ?_
 refine o_neq rfl rfl (c_nil ?_)
 refine c_gen (P := fun tm => tm 2 = (vi a2) ∧ tm 3 = (pV b1 0) ∧ tm 4 = (pV b2 0) ∧ tm 9 = (vi x1) ∧ tm 20 = (.bool (decide (x1 ≠ 0))) ∧ True) ⟨rfl, rfl, rfl, rfl, rfl, trivial⟩ ?_
 intro _ i2
 obtain ⟨h1, h2, h3, h4, h5, -⟩ := i2
 refine c_ifd h5 (fun q2 => ?_) (fun q2 => ?_)
 ·replace e := if_t q2 e
  refine c_sr (o_mv h4 ?_)
  refine o_mv (v := (.slice none 0 0)) rfl ?_
  refine o_mv (v := (vi 0)) rfl ?_
  refine o_mv (v := (vi x1)) rfl ?_
  refine c_nil (c_rt ?_)
  obtain rfl := oJ e
  exact ⟨.inr rfl, _, (ar3 rfl rfl rfl), _, rfl, (((s4.push (sl_nil (s := Sh.int))).pick [0] rfl).weak g1 hs.zv)⟩
 replace e := if_f q2 e
 refine c_sk (c_sq (c_sr (o_ldB 0 s4 rfl h3 rfl rfl ?_)))
 obtain ⟨x2, q3, e⟩ := oB e
 obtain ⟨Z2, V2, W2, g2, u2, c5, c6, -, c8, c7⟩ := Sat.call (l1 := []) s4
 refine o_call (mc rfl m0) (X.gram_Check nd.gram_Check c5 (hp2.mono ((g1.trans g2).v.trans u2)) q3) fun _ H4 i3 => ?_
 obtain ⟨rfl, s5⟩ := i3
 have s6 := c7 _ _ s5
 refine o_mv (v := (vi x2)) rfl ?_
 refine c_nil (c_sr ?_)
 refine o_mv (v := (vi x2)) rfl ?_
 refine o_neq rfl rfl (c_nil ?_)
 refine c_ifd rfl (fun q4 => ?_) (fun q4 => ?_)
 ·replace e := if_t q4 e
  refine c_sr ?_
  refine o_mv (v := (vi x2)) rfl ?_
  refine o_mv (v := (.slice none 0 0)) rfl ?_
  refine o_mv (v := (vi 0)) rfl ?_
  refine o_mv (v := (vi x2)) rfl ?_
  refine c_nil (c_rt ?_)
  obtain rfl := oJ e
  exact ⟨.inr rfl, _, (ar3 rfl rfl rfl), _, rfl, (((s6.push (sl_nil (s := Sh.int))).pick [0] rfl).weak (g1.trans g2) hs.zv)⟩
 replace e := if_f q4 e
 refine c_sk (c_sq (c_sr (o_fad h2 (o_ldB 1 s6 rfl rfl rfl rfl ?_))))
 refine o_fad h3 (o_ldB 0 s6 rfl rfl rfl rfl (o_neq rfl rfl ?_))
 refine o_mv (v := (.bool (decide (a0.Terms ≠ a1.Terms)))) rfl ?_
 refine o_jn 3 (I := fun tm H => tm 35 = .bool ((decide (a0.Terms ≠ a1.Terms)) || (decide (a2 < 0))) ∧ (∃ (Z3 V3 : PH), Gw Z2 V2 Z3 V3 ∧ Sat Z3 V3 H [pts b1 (.rw 0 [vi a0.Terms, vi a0.Nons, vi a0.Start, (vS d1 a0.Rules)]), pts b2 (.rw 0 [vi a1.Terms, vi a1.Nons, vi a1.Start, (vS d2 a1.Rules)])] ∧ tm 2 = (vi a2) ∧ tm 3 = (pV b1 0) ∧ tm 4 = (pV b2 0))) (fun k1 => ?_) ?_
 ·rcases Bool.eq_false_or_eq_true (decide (a0.Terms ≠ a1.Terms)) with q5 | q5
  ·refine o_gn rfl q5 (o_gn rfl q5 ?_)
   refine o_pickt (a := (.bool true)) rfl q5 rfl ?_
   exact k1 _ _ ⟨gf rfl (by first | (rw [q5]; first | done | rfl) | simp [q5]), _, _, Gw.refl _ _, (s6.pick [1, 0] rfl), h1, h2, h3⟩
  refine o_gy rfl q5 (o_mv h1 (o_gy rfl q5 (o_lss rfl rfl ?_)))
  refine o_pickf (b := (.bool (decide (a2 < 0)))) rfl q5 rfl ?_
  exact k1 _ _ ⟨gf rfl (by first | (rw [q5]; first | done | rfl) | simp [q5]), _, _, Gw.refl _ _, (s6.pick [1, 0] rfl), h1, h2, h3⟩
 intro _ H5 i4
 obtain ⟨h9, Z3, V3, g3, s7, h6, h7, h8⟩ := i4
 refine o_mv h9 ?_
 refine o_jn 3 (I := fun tm H => tm 39 = .bool (((decide (a0.Terms ≠ a1.Terms)) || (decide (a2 < 0))) || (decide (12 < a2))) ∧ (∃ (Z4 V4 : PH), Gw Z3 V3 Z4 V4 ∧ Sat Z4 V4 H [pts b1 (.rw 0 [vi a0.Terms, vi a0.Nons, vi a0.Start, (vS d1 a0.Rules)]), pts b2 (.rw 0 [vi a1.Terms, vi a1.Nons, vi a1.Start, (vS d2 a1.Rules)])] ∧ tm 2 = (vi a2) ∧ tm 3 = (pV b1 0) ∧ tm 4 = (pV b2 0))) (fun k2 => ?_) ?_
 ·rcases Bool.eq_false_or_eq_true ((decide (a0.Terms ≠ a1.Terms)) || (decide (a2 < 0))) with q6 | q6
  ·refine o_gn rfl q6 (o_gn rfl q6 ?_)
   refine o_pickt (a := (.bool true)) rfl q6 rfl ?_
   exact k2 _ _ ⟨gf rfl (by first | (rw [q6]; first | done | rfl) | simp [q6]), _, _, Gw.refl _ _, s7, h6, h7, h8⟩
  refine o_gy rfl q6 (o_mv h6 (o_gy rfl q6 (o_gtr rfl rfl ?_)))
  refine o_pickf (b := (.bool (decide (12 < a2)))) rfl q6 rfl ?_
  exact k2 _ _ ⟨gf rfl (by first | (rw [q6]; first | done | rfl) | simp [q6]), _, _, Gw.refl _ _, s7, h6, h7, h8⟩
 intro _ H6 i5
 obtain ⟨h13, Z4, V4, g4, s8, h10, h11, h12⟩ := i5
 refine c_nil ?_
 refine c_if h13 (fun q7 => ?_) (fun q7 => ?_)
 ·replace e := if_t q7 e
  refine c_sr ?_
  refine o_mv (v := (.slice none 0 0)) rfl ?_
  refine o_mv (v := (vi 0)) rfl ?_
  refine o_mv (v := (vi 1)) rfl ?_
  refine c_nil (c_rt ?_)
  obtain rfl := oJ e
  exact ⟨.inr rfl, _, (ar3 rfl rfl rfl), _, rfl, (((s8.push (sl_nil (s := Sh.int))).pick [0] rfl).weak (g1.trans (g2.trans (g3.trans g4))) hs.zv)⟩
 replace e := ib_f q7 e
 refine c_sk (c_sq (c_sr (o_fad h11 (o_ldB 0 s8 rfl rfl rfl rfl ?_))))
 refine o_mv h10 ?_
 obtain ⟨x3, q8, e⟩ := oB e
 obtain ⟨Z5, V5, W3, g5, u3, c9, c10, -, c12, c11⟩ := Sat.call (l1 := []) s8
 refine o_call (mc rfl (mc rfl m0)) (X.compare_words nd.compare_words c9 q8) fun _ H7 i6 => ?_
 obtain ⟨rfl, s9⟩ := i6
 have s10 := c11 _ _ s9
 refine o_gtr rfl rfl (c_nil ?_)
 refine c_ifd rfl (fun q9 => ?_) (fun q9 => ?_)
 ·replace e := if_t q9 e
  refine c_sr ?_
  refine o_mv (v := (.slice none 0 0)) rfl ?_
  refine o_mv (v := (vi 0)) rfl ?_
  refine o_mv (v := (vi 2)) rfl ?_
  refine c_nil (c_rt ?_)
  obtain rfl := oJ e
  exact ⟨.inr rfl, _, (ar3 rfl rfl rfl), _, rfl, (((s10.push (sl_nil (s := Sh.int))).pick [0] rfl).weak (g1.trans (g2.trans (g3.trans (g4.trans g5)))) hs.zv)⟩
 replace e := if_f q9 e
 refine c_sk (c_sq (c_sr (o_mv h10 (o_add rfl rfl ?_))))
 refine o_mv (v := (vi 0)) rfl ?_
 refine c_nil ?_
 obtain ⟨x5, q12, e⟩ := oB e
 obtain ⟨rfl, q14⟩ := ranO_some q12
 obtain ⟨y1, q15, e⟩ := oB e
 refine c_jn (I := fun tm H => ∃ (s13 : Unit), y1 = .out s13 ∧ (∃ (Z7 V7 : PH), Gw Z5 V5 Z7 V7 ∧ Sat Z7 V7 H [pts b1 (.rw 0 [vi a0.Terms, vi a0.Nons, vi a0.Start, (vS d1 a0.Rules)]), pts b2 (.rw 0 [vi a1.Terms, vi a1.Nons, vi a1.Start, (vS d2 a1.Rules)])] ∧ tm 3 = (pV b1 0) ∧ tm 4 = (pV b2 0) ∧ tm 46 = (vi (Pu.W (a2 + 1))))) (fun k6 => ?_) ?_
 ·refine c_bk ?_
  refine l_forL (xs := (Pu.ran (Pu.W (a2 + 1)))) (fun (i7 : Nat) (s11 : Unit) tm H => tm 47 = vi i7 ∧ ∃ (Z6 V6 : PH), Gw Z5 V5 Z6 V6 ∧ Sat Z6 V6 H [pts b1 (.rw 0 [vi a0.Terms, vi a0.Nons, vi a0.Start, (vS d1 a0.Rules)]), pts b2 (.rw 0 [vi a1.Terms, vi a1.Nons, vi a1.Start, (vS d2 a1.Rules)])] ∧ tm 3 = (pV b1 0) ∧ tm 4 = (pV b2 0) ∧ tm 46 = (vi (Pu.W (a2 + 1)))) (fun i7 x4 s11 y2 tm H9 q10 q11 j1 e1 k3 k4 k5 => ?_) (fun s11 tm H8 jf jd => ?_) q15 ⟨rfl, _, _, Gw.refl _ _, s10, h11, h12, rfl⟩
  ·obtain ⟨hti0, Z6, V6, g6, s12, h14, h15, h16⟩ := j1
   unfold P.compare_Least.b0 at e1
   have hti0 := iv hti0 (ran_x q10).symm
   refine c_sr (o_lss hti0 h16 (c_nil (c_sq ?_)))
   refine c_ift rfl (ran_lt q10) ?_
   refine c_sk (c_sq (c_bk (c_sr (o_mv hti0 ?_))))
   refine o_mv (v := (vi x4)) rfl ?_
   refine c_nil (c_sr ?_)
   refine o_mv (v := (vi x4)) rfl ?_
   obtain ⟨x6, q16, e1⟩ := oB e1
   refine o_mks (s := Sh.int) s12 Sh.flat_lt rfl rfl rfl rfl q16 fun w1 H11 s15 => ?_
   refine o_mv (v := w1) rfl ?_
   refine c_nil ?_
   obtain ⟨y3, q19, e1⟩ := oB e1
   refine c_jn (I := fun tm H => ∃ (s18 : (List Int)), y3 = .out s18 ∧ (∃ (Z9 V9 : PH), Gw Z6 V6 Z9 V9 ∧ Sat Z9 V9 H [pts b1 (.rw 0 [vi a0.Terms, vi a0.Nons, vi a0.Start, (vS d1 a0.Rules)]), pts b2 (.rw 0 [vi a1.Terms, vi a1.Nons, vi a1.Start, (vS d2 a1.Rules)]), It.sl Sh.int w1 s18] ∧ tm 3 = (pV b1 0) ∧ tm 4 = (pV b2 0) ∧ tm 12 = w1 ∧ tm 46 = (vi (Pu.W (a2 + 1))) ∧ tm 47 = (vi x4))) (fun k10 => ?_) ?_
   ·refine c_bk ?_
    refine l_whl (fun (s16 : (List Int)) tm H => ∃ (Z8 V8 : PH), Gw Z6 V6 Z8 V8 ∧ Sat Z8 V8 H [pts b1 (.rw 0 [vi a0.Terms, vi a0.Nons, vi a0.Start, (vS d1 a0.Rules)]), pts b2 (.rw 0 [vi a1.Terms, vi a1.Nons, vi a1.Start, (vS d2 a1.Rules)]), It.sl Sh.int w1 s16] ∧ tm 3 = (pV b1 0) ∧ tm 4 = (pV b2 0) ∧ tm 12 = w1 ∧ tm 46 = (vi (Pu.W (a2 + 1))) ∧ tm 47 = (vi x4)) (fun s16 y4 tm H13 j2 e2 k7 k8 k9 => ?_) q19 ⟨_, _, Gw.refl _ _, (s15.pick [1, 2, 0] rfl), h14, h15, rfl, h16, hti0⟩
    obtain ⟨Z8, V8, g8, s17, h20, h21, h22, h23, h24⟩ := j2
    unfold P.compare_Least.b1 at e2
    refine c_bk (c_sr (o_ldB 0 s17 rfl h20 rfl rfl (o_mv h22 ?_)))
    obtain ⟨x8, q20, e2⟩ := oB e2
    obtain ⟨Z10, V10, W4, g10, u4, c13, c14, -, c16, c15⟩ := Sat.call (l1 := []) s17
    refine o_call (mc rfl (mc rfl m0)) (X.mean_Accepts nd.mean_Accepts c13 (hp1.mono (((g1.trans (g2.trans (g3.trans (g4.trans (g5.trans (g6.trans g8)))))).trans g10).v.trans u4)) (c14 2 _ Sh.int _ _ rfl) q20) fun _ H15 i9 => ?_
    obtain ⟨rfl, s20⟩ := i9
    have s21 := c15 _ _ s20
    refine o_mv (v := (.tuple #[(.bool x8.1), vi x8.2])) rfl ?_
    refine o_ext rfl rfl (o_ext rfl rfl ?_)
    refine o_mv (v := (.bool x8.1)) rfl ?_
    refine o_mv (v := (vi x8.2)) rfl ?_
    refine c_nil (c_sr (o_ldB 1 s21 rfl h21 rfl rfl (o_mv h22 ?_)))
    obtain ⟨x9, q21, e2⟩ := oB e2
    obtain ⟨Z11, V11, W5, g11, u5, c17, c18, -, c20, c19⟩ := Sat.call (l1 := []) s21
    refine o_call (mc rfl (mc rfl m0)) (X.mean_Accepts nd.mean_Accepts c17 (hp2.mono (((g1.trans (g2.trans (g3.trans (g4.trans (g5.trans (g6.trans (g8.trans g10))))))).trans g11).v.trans u5)) (c18 2 _ Sh.int _ _ rfl) q21) fun _ H16 i10 => ?_
    obtain ⟨rfl, s22⟩ := i10
    have s23 := c19 _ _ s22
    refine o_mv (v := (.tuple #[(.bool x9.1), vi x9.2])) rfl ?_
    refine o_ext rfl rfl (o_ext rfl rfl ?_)
    refine o_mv (v := (.bool x9.1)) rfl ?_
    refine o_mv (v := (vi x9.2)) rfl ?_
    refine c_nil ?_
    refine c_gen (P := fun tm => tm 3 = (pV b1 0) ∧ tm 4 = (pV b2 0) ∧ tm 12 = w1 ∧ tm 13 = (.bool x8.1) ∧ tm 15 = (.bool x9.1) ∧ tm 46 = (vi (Pu.W (a2 + 1))) ∧ tm 47 = (vi x4) ∧ True) ⟨h20, h21, h22, rfl, rfl, h23, h24, trivial⟩ ?_
    intro _ i11
    obtain ⟨h30, h31, h32, h33, h34, h35, h36, -⟩ := i11
    refine c_sq (c_bk (c_sr (o_mv h33 ?_)))
    refine o_mv (v := (.bool x8.1)) rfl ?_
    refine o_jn 3 (I := fun tm H => tm 69 = .bool (x8.1 && (!x9.1)) ∧ (∃ (Z12 V12 : PH), Gw Z11 V11 Z12 V12 ∧ Sat Z12 V12 H [pts b1 (.rw 0 [vi a0.Terms, vi a0.Nons, vi a0.Start, (vS d1 a0.Rules)]), pts b2 (.rw 0 [vi a1.Terms, vi a1.Nons, vi a1.Start, (vS d2 a1.Rules)]), It.sl Sh.int w1 s16] ∧ tm 3 = (pV b1 0) ∧ tm 4 = (pV b2 0) ∧ tm 12 = w1 ∧ tm 13 = (.bool x8.1) ∧ tm 15 = (.bool x9.1) ∧ tm 46 = (vi (Pu.W (a2 + 1))) ∧ tm 47 = (vi x4))) (fun k11 => ?_) ?_
    ·rcases Bool.eq_false_or_eq_true x8.1 with q22 | q22
     ·refine o_gy rfl q22 (o_mv h34 (o_gy rfl q22 (o_not rfl ?_)))
      refine o_pickt (a := (.bool (!x9.1))) rfl q22 rfl ?_
      exact k11 _ _ ⟨gf rfl (by first | (rw [q22]; first | done | rfl) | simp [q22]), _, _, Gw.refl _ _, s23, h30, h31, h32, h33, h34, h35, h36⟩
     refine o_gn rfl q22 (o_gn rfl q22 ?_)
     refine o_pickf (b := (.bool false)) rfl q22 rfl ?_
     exact k11 _ _ ⟨gf rfl (by first | (rw [q22]; first | done | rfl) | simp [q22]), _, _, Gw.refl _ _, s23, h30, h31, h32, h33, h34, h35, h36⟩
    intro _ H17 i12
    obtain ⟨h44, Z12, V12, g12, s24, h37, h38, h39, h40, h41, h42, h43⟩ := i12
    refine o_mv h44 (c_nil ?_)
    refine c_if rfl (fun q23 => ?_) (fun q23 => ?_)
    ·replace e2 := if_t q23 e2
     refine c_sr (o_mv h39 ?_)
     refine o_mv (v := w1) rfl ?_
     refine o_mv (v := (vi 1)) rfl ?_
     refine o_mv (v := (vi 0)) rfl ?_
     refine c_nil (c_rt ?_)
     have e3 := fin_r (k9 _ (sJ e2)) e1
     have e4 := fin_r (k5 _ (sJ e3)) e
     obtain rfl := oJ e4
     exact ⟨.inr rfl, _, (ar3 rfl rfl rfl), _, rfl, ((s24.pick [2] rfl).weak (g1.trans (g2.trans (g3.trans (g4.trans (g5.trans (g6.trans (g8.trans (g10.trans (g11.trans g12))))))))) hs.zv)⟩
    replace e2 := ib_f q23 e2
    refine c_sr (o_mv h41 ?_)
    refine o_mv (v := (.bool x9.1)) rfl ?_
    refine o_jn 3 (I := fun tm H => tm 76 = .bool (x9.1 && (!x8.1)) ∧ (∃ (Z13 V13 : PH), Gw Z12 V12 Z13 V13 ∧ Sat Z13 V13 H [pts b1 (.rw 0 [vi a0.Terms, vi a0.Nons, vi a0.Start, (vS d1 a0.Rules)]), pts b2 (.rw 0 [vi a1.Terms, vi a1.Nons, vi a1.Start, (vS d2 a1.Rules)]), It.sl Sh.int w1 s16] ∧ tm 3 = (pV b1 0) ∧ tm 4 = (pV b2 0) ∧ tm 12 = w1 ∧ tm 46 = (vi (Pu.W (a2 + 1))) ∧ tm 47 = (vi x4))) (fun k12 => ?_) ?_
    ·rcases Bool.eq_false_or_eq_true x9.1 with q24 | q24
     ·refine o_gy rfl q24 (o_mv h40 (o_gy rfl q24 (o_not rfl ?_)))
      refine o_pickt (a := (.bool (!x8.1))) rfl q24 rfl ?_
      exact k12 _ _ ⟨gf rfl (by first | (rw [q24]; first | done | rfl) | simp [q24]), _, _, Gw.refl _ _, s24, h37, h38, h39, h42, h43⟩
     refine o_gn rfl q24 (o_gn rfl q24 ?_)
     refine o_pickf (b := (.bool false)) rfl q24 rfl ?_
     exact k12 _ _ ⟨gf rfl (by first | (rw [q24]; first | done | rfl) | simp [q24]), _, _, Gw.refl _ _, s24, h37, h38, h39, h42, h43⟩
    intro _ H18 i13
    obtain ⟨h50, Z13, V13, g13, s25, h45, h46, h47, h48, h49⟩ := i13
    refine o_mv h50 (c_nil ?_)
    refine c_if rfl (fun q25 => ?_) (fun q25 => ?_)
    ·replace e2 := if_t q25 e2
     refine c_sr (o_mv h47 ?_)
     refine o_mv (v := w1) rfl ?_
     refine o_mv (v := (vi 2)) rfl ?_
     refine o_mv (v := (vi 0)) rfl ?_
     refine c_nil (c_rt ?_)
     have e5 := fin_r (k9 _ (sJ e2)) e1
     have e6 := fin_r (k5 _ (sJ e5)) e
     obtain rfl := oJ e6
     exact ⟨.inr rfl, _, (ar3 rfl rfl rfl), _, rfl, ((s25.pick [2] rfl).weak (g1.trans (g2.trans (g3.trans (g4.trans (g5.trans (g6.trans (g8.trans (g10.trans (g11.trans (g12.trans g13)))))))))) hs.zv)⟩
    replace e2 := ib_f q25 e2
    refine c_sk (c_end (c_sr (o_mv h47 (o_fad h45 ?_))))
    refine o_ldB 0 s25 rfl rfl rfl rfl ?_
    obtain ⟨x10, q26, e2⟩ := oB e2
    obtain ⟨Z14, V14, W6, g14, u6, c21, c22, -, c24, c23⟩ := Sat.call (l1 := [It.sl Sh.int w1 s16]) (l2 := [pts b1 (.rw 0 [vi a0.Terms, vi a0.Nons, vi a0.Start, (vS d1 a0.Rules)]), pts b2 (.rw 0 [vi a1.Terms, vi a1.Nons, vi a1.Start, (vS d2 a1.Rules)])]) (s25.pick [2, 0, 1] rfl)
    refine o_call (mc rfl (mc rfl m0)) (X.compare_next nd.compare_next c21 q26) fun _ H19 i14 => ?_
    obtain ⟨rfl, s26⟩ := i14
    have s27 := c23 _ _ s26
    refine o_not rfl (c_nil ?_)
    refine c_if rfl (fun q27 => ?_) (fun q27 => ?_)
    ·replace e2 := if_t q27 e2
     refine c_ex ?_
     refine e_f rfl ?_
     refine e_c ?_
     refine e_h ?_
     exact k10 _ _ ⟨_, k8 _ (sJ e2), _, _, (g8.trans (g10.trans (g11.trans (g12.trans (g13.trans g14))))), (s27.pick [1, 2, 0] rfl), h45, h46, h47, h48, h49⟩
    replace e2 := ib_f q27 e2
    refine c_sk (c_end ?_)
    exact k7 _ _ _ (sJ e2) ⟨_, _, (g8.trans (g10.trans (g11.trans (g12.trans (g13.trans g14))))), (s27.pick [1, 2, 0] rfl), h45, h46, h47, h48, h49⟩
   intro _ H14 i15
   obtain ⟨s18, f1, Z9, V9, g9, s19, h25, h26, h27, h28, h29⟩ := i15
   replace e1 := fin_o f1 e1
   refine c_end (c_r (o_add h29 rfl ?_))
   refine o_mv (v := (vi (Pu.W (x4 + 1)))) rfl ?_
   refine c_nil ?_
   exact k3 _ _ _ (sJ e1) ⟨(iv rfl (w_sucR q10 q14)), _, _, (g6.trans g9), (s19.pick [0, 1] rfl), h25, h26, h28⟩
  ·obtain ⟨hte0, Z15, V15, g15, s28, h51, h52, h53⟩ := jd
   refine c_sr (o_lss hte0 h53 (c_nil (c_sq ?_)))
   refine c_iff rfl (ran_done _) ?_
   refine c_ex ?_
   refine e_c ?_
   refine e_c ?_
   refine e_h ?_
   exact k6 _ _ ⟨_, jf, _, _, g15, s28, h51, h52, h53⟩
 intro _ H10 i16
 obtain ⟨s13, f2, Z7, V7, g7, s14, h17, h18, h19⟩ := i16
 replace e := fin_o f2 e
 refine c_sr ?_
 refine o_mv (v := (.slice none 0 0)) rfl ?_
 refine o_mv (v := (vi 0)) rfl ?_
 refine o_mv (v := (vi 5)) rfl ?_
 refine c_nil (c_rt ?_)
 obtain rfl := oJ e
 exact ⟨.inr rfl, _, (ar3 rfl rfl rfl), _, rfl, (((s14.push (sl_nil (s := Sh.int))).pick [0] rfl).weak (g1.trans (g2.trans (g3.trans (g4.trans (g5.trans g7))))) hs.zv)⟩
/-! slices_Equal_int_int -/
structure Nd.slices_Equal_int_int (T : FuncId → Option AFunc) : Prop where
  own : Has T I.slices_Equal_int_int F.slices_Equal_int_int
set_option maxHeartbeats 1000000 in
theorem X.slices_Equal_int_int {T : FuncId → Option AFunc} (nd : Nd.slices_Equal_int_int T) {Z V : PH} {H : Hp} {v1 : Value} {v2 : Value} {a0 : (List Int)} {a1 : (List Int)} (hs : Sat Z V H []) (hp1 : RdS Sh.int V v1 a0) (hp2 : RdS Sh.int V v2 a1) {r : Bool} (e : P.slices_Equal_int_int a0 a1 = some r) :
    G T I.slices_Equal_int_int [v1, v2] H (fun rv H' => rv = (.bool r) ∧ Sat Z V H' []) := by
 unfold P.slices_Equal_int_int at e
 refine f_mk nd.own ?_
 refine c_sr ?_
 refine o_mv (v := (.bool false)) rfl ?_
 refine c_nil (c_sq (c_sr ?_))
 refine o_mv (v := v1) rfl ?_
 refine o_len rfl (hp1).len ?_
 refine o_mv (v := v2) rfl ?_
 refine o_len rfl (hp2).len (o_neq rfl rfl (c_nil ?_))
 refine c_ifd rfl (fun q1 => ?_) (fun q1 => ?_)
 ·replace e := if_t q1 e
  refine c_sr ?_
  refine o_mv (v := (.bool false)) rfl ?_
  refine c_nil (c_rt ?_)
  obtain rfl := oJ e
  exact ⟨.inr rfl, _, (ar1 rfl), rfl, hs⟩
 replace e := if_f q1 e
 refine c_sk (c_sq (c_sr ?_))
 refine o_mv (v := v1) rfl ?_
 refine o_len rfl (hp1).len ?_
 refine o_mv (v := (vi 0)) rfl ?_
 refine c_nil ?_
 obtain ⟨x2, q4, e⟩ := oB e
 obtain ⟨rfl, q6⟩ := ranO_some q4
 obtain ⟨y1, q7, e⟩ := oB e
 refine c_jn (I := fun tm H => ∃ (s3 : Unit), y1 = .out s3 ∧ (∃ (Z2 V2 : PH), Gw Z V Z2 V2 ∧ Sat Z2 V2 H [] ∧ tm 0 = v1 ∧ tm 1 = v2 ∧ tm 12 = (vN a0))) (fun k4 => ?_) ?_
 ·refine c_bk ?_
  refine l_forL (xs := (Pu.ran (a0.length : Int))) (fun (i1 : Nat) (s1 : Unit) tm H => tm 13 = vi i1 ∧ ∃ (Z1 V1 : PH), Gw Z V Z1 V1 ∧ Sat Z1 V1 H [] ∧ tm 0 = v1 ∧ tm 1 = v2 ∧ tm 12 = (vN a0)) (fun i1 x1 s1 y2 tm H2 q2 q3 j1 e1 k1 k2 k3 => ?_) (fun s1 tm H1 jf jd => ?_) q7 ⟨rfl, _, _, Gw.refl _ _, hs, rfl, rfl, rfl⟩
  ·obtain ⟨hti0, Z1, V1, g1, s2, h1, h2, h3⟩ := j1
   unfold P.slices_Equal_int_int.b0 at e1
   have hti0 := iv hti0 (ran_x q2).symm
   refine c_sr (o_lss hti0 h3 (c_nil (c_sq ?_)))
   refine c_ift rfl (ran_lt q2) ?_
   refine c_sk (c_sq (c_bk (c_sr (o_mv hti0 ?_))))
   refine o_mv (v := (vi x1)) rfl ?_
   refine c_nil (c_sq ?_)
   refine d_start s2 fun n1 H4 s5 q8 d1 => ?_
   refine d_mv h1 ?_
   refine d_mv (v := (vi x1)) rfl ?_
   obtain ⟨x3, q9, e1⟩ := oB e1
   refine d_idx (v := v1) rfl rfl (hp1.mono g1.v) rfl q9 fun p1 q10 => ?_
   refine d_ldi (RdS.low (hp1.mono g1.v) s5.v q8) rfl hp1 (g1.v.trans s5.v) q10 q9 ?_
   refine d_mv h2 ?_
   refine d_mv (v := (vi x1)) rfl ?_
   obtain ⟨x4, q11, e1⟩ := oB e1
   refine d_idx (v := v2) rfl rfl (hp2.mono g1.v) rfl q11 fun p2 q12 => ?_
   refine d_ldi (RdS.low (hp2.mono g1.v) s5.v q8) rfl hp2 (g1.v.trans s5.v) q12 q11 ?_
   refine d_neq rfl rfl ?_
   refine d_nil dc_nil ?_
   refine c_gen (P := fun tm => tm 0 = v1 ∧ tm 1 = v2 ∧ tm 12 = (vN a0) ∧ tm 13 = (vi x1) ∧ tm 24 = (.bool (decide (x3 ≠ x4))) ∧ True) ⟨h1, h2, h3, hti0, rfl, trivial⟩ ?_
   intro _ i2
   obtain ⟨h7, h8, h9, h10, h11, -⟩ := i2
   refine c_ifd h11 (fun q13 => ?_) (fun q13 => ?_)
   ·replace e1 := if_t q13 e1
    refine c_sr ?_
    refine o_mv (v := (.bool false)) rfl ?_
    refine c_nil (c_rt ?_)
    have e2 := fin_r (k3 _ (sJ e1)) e
    obtain rfl := oJ e2
    exact ⟨.inr rfl, _, (ar1 rfl), rfl, (s5.weak g1 hs.zv)⟩
   replace e1 := if_f q13 e1
   refine c_sk (c_end (c_r (o_add h10 rfl ?_)))
   refine o_mv (v := (vi (Pu.W (x1 + 1)))) rfl ?_
   refine c_nil ?_
   exact k1 _ _ _ (sJ e1) ⟨(iv rfl (w_sucR q2 q6)), _, _, g1, s5, h7, h8, h9⟩
  ·obtain ⟨hte0, Z3, V3, g3, s6, h12, h13, h14⟩ := jd
   refine c_sr (o_lss hte0 h14 (c_nil (c_sq ?_)))
   refine c_iff rfl (ran_done _) ?_
   refine c_ex ?_
   refine e_c ?_
   refine e_c ?_
   refine e_h ?_
   exact k4 _ _ ⟨_, jf, _, _, g3, s6, h12, h13, h14⟩
 intro _ H3 i3
 obtain ⟨s3, f1, Z2, V2, g2, s4, h4, h5, h6⟩ := i3
 replace e := fin_o f1 e
 refine c_sr ?_
 refine o_mv (v := (.bool true)) rfl ?_
 refine c_nil (c_rt ?_)
 obtain rfl := oJ e
 exact ⟨.inr rfl, _, (ar1 rfl), rfl, (s4.weak g2 hs.zv)⟩
/-! parlkeep5_CompareSides -/
structure Nd.parlkeep5_CompareSides (T : FuncId → Option AFunc) : Prop where
  own : Has T I.parlkeep5_CompareSides F.parlkeep5_CompareSides
  parlmake_Grammar : Nd.parlmake_Grammar T
  parlkeep5_distinct : Nd.parlkeep5_distinct T
  parlkeep5_plain : Nd.parlkeep5_plain T
  compare_Least : Nd.compare_Least T
  slices_Equal_int_int : Nd.slices_Equal_int_int T
  parlkeep5_below : Nd.parlkeep5_below T
  mean_Accepts : Nd.mean_Accepts T
set_option maxHeartbeats 1000000 in
theorem X.parlkeep5_CompareSides {T : FuncId → Option AFunc} (nd : Nd.parlkeep5_CompareSides T) {φ : Nat} {Z V : PH} {H : Hp} {v1 : Value} {v2 : Value} {a0 : (List Int)} {a1 : (List Int)} {a2 : Int} (hs : Sat Z V H []) (hp1 : RdS Sh.int Z v1 a0) (hp2 : RdS Sh.int Z v2 a1) {r : Bool} (e : P.parlkeep5_CompareSides φ a0 a1 a2 = some r) :
    G T I.parlkeep5_CompareSides [v1, v2, vi a2] H (fun rv H' => rv = (.bool r) ∧ Sat Z V H' []) := by
 unfold P.parlkeep5_CompareSides at e
 refine f_mk nd.own ?_
 refine c_sr ?_
 refine o_mv (v := (.bool false)) rfl ?_
 refine c_nil (c_sr ?_)
 refine o_mv (v := v1) rfl ?_
 obtain ⟨x1, q1, e⟩ := oB e
 obtain ⟨Z1, V1, W1, g1, u1, c1, c2, -, c4, c3⟩ := Sat.call (l1 := []) hs
 refine o_call (mc rfl m0) (X.parlmake_GrammarO nd.parlmake_Grammar c1 (hp1.mono g1.z) q1) fun _ H1 i1 => ?_
 obtain ⟨w1, rfl, s1⟩ := i1
 have s2 := c3 _ _ s1
 refine o_mv (v := v2) rfl ?_
 obtain ⟨x2, q2, e⟩ := oB e
 obtain ⟨Z2, V2, W2, g2, u2, c5, c6, -, c8, c7⟩ := Sat.call (l1 := []) s2
 refine o_call (mc rfl m0) (X.parlmake_GrammarO nd.parlmake_Grammar c5 (hp2.mono (g1.trans g2).z) q2) fun _ H2 i2 => ?_
 obtain ⟨w2, rfl, s3⟩ := i2
 have s4 := c7 _ _ s3
 refine o_new s4 fun b1 H3 s5 => ?_
 refine o_new s5 fun b2 H4 s6 => ?_
 obtain ⟨d1, rfl⟩ := ((s6.curS (s := Sh.api_RuleO) 3 rfl)).val
 refine o_stB (us' := [vi x1.Terms, vi x1.Nons, vi x1.Start, (vS d1 x1.Rules)]) 1 s6 rfl rfl rfl rfl rfl rfl rfl fun H5 s7 => ?_
 obtain ⟨d2, rfl⟩ := ((s7.curS (s := Sh.api_RuleO) 2 rfl)).val
 refine o_stB (us' := [vi x2.Terms, vi x2.Nons, vi x2.Start, (vS d2 x2.Rules)]) 0 s7 rfl rfl rfl rfl rfl rfl rfl fun H6 s8 => ?_
 refine c_nil (c_sr (o_fad rfl (o_ldB 1 s8 rfl rfl rfl rfl (o_fad rfl ?_))))
 refine o_stB (us' := [vi x1.Terms, vi x2.Nons, vi x2.Start, (vS d2 x2.Rules)]) 0 s8 rfl rfl rfl rfl rfl rfl rfl fun H7 s9 => ?_
 refine c_nil ?_
 refine c_gen (P := fun tm => tm 2 = (vi a2) ∧ tm 7 = (pV b1 0) ∧ tm 8 = (pV b2 0) ∧ True) ⟨rfl, rfl, rfl, trivial⟩ ?_
 intro _ i3
 obtain ⟨h1, h2, h3, -⟩ := i3
 refine c_sq (c_sr (o_fad h3 (o_ldB 0 s9 rfl rfl rfl rfl ?_)))
 refine o_len rfl ((s9.curS (s := Sh.api_RuleO) 2 rfl)).len ?_
 refine o_mv (v := (vi 0)) rfl ?_
 refine c_nil ?_
 obtain ⟨x3, q3, e⟩ := oB e
 refine X.cs_fix (s9.pick [2, 1, 0, 3] rfl) h1 h2 h3 rfl rfl rfl q3 fun _ H8 s10 h4 h5 h6 => ?_
 refine c_sr (o_fad h6 (o_ldB 2 s10 rfl rfl rfl rfl ?_))
 obtain ⟨Z3, V3, g3, s11, h7⟩ := s10.frzS 0 rfl
 replace h7 := h7.ofO
 obtain ⟨x4, q4, e⟩ := oB e
 obtain ⟨Z4, V4, W3, g4, u3, c9, c10, -, c12, c11⟩ := Sat.call (l1 := []) s11
 refine o_call (mc rfl m0) (X.parlkeep5_distinct nd.parlkeep5_distinct c9 (h7.mono g4.z) q4) fun w3 H9 i4 => ?_
 obtain ⟨_, rfl, s12⟩ := i4
 have s13 := c11 _ _ s12
 refine o_fad h6 ?_
 obtain ⟨d3, rfl⟩ := ((s13.curS (s := (Sh.ro Sh.api_Rule)) 0 rfl)).val
 refine o_stB (us' := [vi x1.Terms, vi x2.Nons, vi x2.Start, (vS d3 x4)]) 2 s13 rfl rfl rfl rfl rfl rfl rfl fun H10 s14 => ?_
 refine c_nil (c_sq (c_sr ?_))
 obtain ⟨x5, q5, e⟩ := oB e
 obtain ⟨Z5, V5, W4, g5, u4, c13, c14, -, c16, c15⟩ := Sat.call (l1 := []) s14
 refine o_call m0 (X.parlkeep5_plain nd.parlkeep5_plain c13 q5) fun _ H11 i5 => ?_
 obtain ⟨w4, rfl, s15⟩ := i5
 have s16 := c15 _ _ s15
 refine o_bld (qs := [(0, 1, (vi 2)), (1, 1, (vi 1))]) rfl rfl ?_
 obtain ⟨x6, q6, e⟩ := oB e
 obtain ⟨Z6, V6, W5, g6, u5, c17, c18, -, c20, c19⟩ := Sat.call (l1 := []) s16
 refine o_call (mc rfl (mc rfl (mc rfl m0))) (X.compare_Least nd.compare_Least (a1 := (Ty.api_Grammar.mk 2 1 0 [])) c17 (c18 0 _ (Sh.ro Sh.api_Rule) _ _ rfl) RdS.nil q6) fun _ H12 i6 => ?_
 obtain ⟨w5, rfl, s17⟩ := i6
 have s18 := c19 _ _ s17
 refine o_mv (v := (.tuple #[w5, vi x6.2.1, vi x6.2.2])) rfl ?_
 refine o_ext rfl rfl (o_ext rfl rfl (o_ext rfl rfl ?_))
 refine o_mv (v := w5) rfl ?_
 refine o_mv (v := (vi x6.2.1)) rfl ?_
 refine o_mv (v := (vi x6.2.2)) rfl ?_
 refine c_nil ?_
 refine c_gen (P := fun tm => tm 2 = (vi a2) ∧ tm 7 = (pV b1 0) ∧ tm 8 = (pV b2 0) ∧ tm 13 = w5 ∧ tm 14 = (vi x6.2.1) ∧ tm 15 = (vi x6.2.2) ∧ True) ⟨h4, h5, h6, rfl, rfl, rfl, trivial⟩ ?_
 intro _ i7
 obtain ⟨h8, h9, h10, h11, h12, h13, -⟩ := i7
 refine c_sr (o_mv h13 (o_neq rfl rfl ?_))
 refine o_mv (v := (.bool (decide (x6.2.2 ≠ 0)))) rfl ?_
 refine o_jn 3 (I := fun tm H => tm 78 = .bool ((decide (x6.2.2 ≠ 0)) || (decide (x6.2.1 ≠ 1))) ∧ (∃ (Z7 V7 : PH), Gw Z6 V6 Z7 V7 ∧ Sat Z7 V7 H [pts b1 (.rw 0 [vi x1.Terms, vi x1.Nons, vi x1.Start, (vS d1 x1.Rules)]), Is Sh.api_RuleO d1 x1.Rules, pts b2 (.rw 0 [vi x1.Terms, vi x2.Nons, vi x2.Start, (vS d3 x4)]), It.sl (Sh.ro Sh.api_Rule) (vS d3 x4) x4, It.sl Sh.int w5 x6.1] ∧ tm 2 = (vi a2) ∧ tm 7 = (pV b1 0) ∧ tm 8 = (pV b2 0) ∧ tm 13 = w5)) (fun k1 => ?_) ?_
 ·rcases Bool.eq_false_or_eq_true (decide (x6.2.2 ≠ 0)) with q7 | q7
  ·refine o_gn rfl q7 (o_gn rfl q7 ?_)
   refine o_pickt (a := (.bool true)) rfl q7 rfl ?_
   exact k1 _ _ ⟨gf rfl (by first | (rw [q7]; first | done | rfl) | simp [q7]), _, _, Gw.refl _ _, (s18.pick [3, 5, 4, 2, 0] rfl), h8, h9, h10, h11⟩
  refine o_gy rfl q7 (o_mv h12 (o_gy rfl q7 (o_neq rfl rfl ?_)))
  refine o_pickf (b := (.bool (decide (x6.2.1 ≠ 1)))) rfl q7 rfl ?_
  exact k1 _ _ ⟨gf rfl (by first | (rw [q7]; first | done | rfl) | simp [q7]), _, _, Gw.refl _ _, (s18.pick [3, 5, 4, 2, 0] rfl), h8, h9, h10, h11⟩
 intro _ H13 i8
 obtain ⟨h18, Z7, V7, g7, s19, h14, h15, h16, h17⟩ := i8
 refine o_mv h18 ?_
 obtain ⟨y1, e1, e⟩ := oB e
 refine o_jn 5 (I := fun tm H => ∃ (Z8 V8 : PH), Gw Z7 V7 Z8 V8 ∧ Sat Z8 V8 H [pts b1 (.rw 0 [vi x1.Terms, vi x1.Nons, vi x1.Start, (vS d1 x1.Rules)]), Is Sh.api_RuleO d1 x1.Rules, pts b2 (.rw 0 [vi x1.Terms, vi x2.Nons, vi x2.Start, (vS d3 x4)]), It.sl (Sh.ro Sh.api_Rule) (vS d3 x4) x4] ∧ tm 2 = (vi a2) ∧ tm 7 = (pV b1 0) ∧ tm 8 = (pV b2 0) ∧ tm 84 = (.bool y1)) (fun k2 => ?_) ?_
 ·rcases Bool.eq_false_or_eq_true ((decide (x6.2.2 ≠ 0)) || (decide (x6.2.1 ≠ 1))) with q8 | q8
  ·replace e1 := if_t q8 e1
   refine o_gn rfl q8 (o_gn rfl q8 (o_gn rfl q8 (o_gn rfl q8 ?_)))
   refine o_pickt (a := (.bool true)) rfl q8 rfl ?_
   obtain rfl := oJ e1
   exact k2 _ _ ⟨_, _, Gw.refl _ _, (s19.pick [0, 1, 2, 3] rfl), h14, h15, h16, rfl⟩
  replace e1 := ib_f q8 e1
  refine o_gy rfl q8 (o_mv h17 (o_gy rfl q8 ?_))
  refine o_bsl (s := Sh.int) (us := [vi 0]) (qs := [(0, 1, (vi 0))]) (xs := [0]) s19 Sh.flat_lt rfl rfl rfl (Els.cons (c := [vi 0]) rfl Els.nil) rfl rfl fun w6 H15 s21 => ?_
  refine o_gy rfl q8 ?_
  obtain ⟨x7, q9, e1⟩ := oB e1
  obtain ⟨Z9, V9, W6, g9, u6, c21, c22, -, c24, c23⟩ := Sat.call (l1 := []) s21
  refine o_call (mc rfl (mc rfl m0)) (X.slices_Equal_int_int nd.slices_Equal_int_int c21 (c22 5 _ Sh.int _ _ rfl) (c22 0 _ Sh.int _ _ rfl) q9) fun _ H16 i9 => ?_
  obtain ⟨rfl, s22⟩ := i9
  have s23 := c23 _ _ s22
  refine o_gy rfl q8 (o_not rfl ?_)
  refine o_pickf (b := (.bool (!x7))) rfl q8 rfl ?_
  obtain rfl := oJ e1
  exact k2 _ _ ⟨_, _, g9, (s23.pick [1, 2, 3, 4] rfl), h14, h15, h16, rfl⟩
 intro _ H14 i10
 obtain ⟨Z8, V8, g8, s20, h19, h20, h21, h22⟩ := i10
 refine c_nil ?_
 refine c_if h22 (fun q10 => ?_) (fun q10 => ?_)
 ·replace e := if_t q10 e
  refine c_sr ?_
  refine o_mv (v := (.bool false)) rfl ?_
  refine c_nil (c_rt ?_)
  obtain rfl := oJ e
  exact ⟨.inr rfl, _, (ar1 rfl), rfl, ((s20.pick [] rfl).weak (g1.trans (g2.trans (g3.trans (g4.trans (g5.trans (g6.trans (g7.trans g8))))))) hs.zv)⟩
 replace e := ib_f q10 e
 refine c_sk (c_sr (o_mv h19 ?_))
 obtain ⟨x8, q11, e⟩ := oB e
 obtain ⟨Z10, V10, W7, g10, u7, c25, c26, -, c28, c27⟩ := Sat.call (l1 := []) s20
 refine o_call (mc rfl (mc rfl m0)) (X.parlkeep5_below nd.parlkeep5_below c25 q11) fun _ H17 i11 => ?_
 obtain ⟨rfl, s24⟩ := i11
 have s25 := c27 _ _ s24
 refine o_mv (v := (vi x8)) rfl ?_
 refine c_nil (c_sr (o_ldB 0 s25 rfl h20 rfl rfl (o_ldB 2 s25 rfl h21 rfl rfl ?_)))
 refine o_mv (v := (vi x8)) rfl ?_
 obtain ⟨x9, q12, e⟩ := oB e
 obtain ⟨Z11, V11, W8, g11, u8, c29, c30, -, c32, c31⟩ := Sat.call (l1 := []) s25
 refine o_call (mc rfl (mc rfl (mc rfl m0))) (X.compare_Least nd.compare_Least (a1 := (Ty.api_Grammar.mk x1.Terms x2.Nons x2.Start x4)) c29 (c30 1 _ Sh.api_RuleO _ _ rfl) (c30 3 _ (Sh.ro Sh.api_Rule) _ _ rfl) q12) fun _ H18 i12 => ?_
 obtain ⟨w7, rfl, s26⟩ := i12
 have s27 := c31 _ _ s26
 refine o_mv (v := (.tuple #[w7, vi x9.2.1, vi x9.2.2])) rfl ?_
 refine o_ext rfl rfl (o_ext rfl rfl (o_ext rfl rfl ?_))
 refine o_mv (v := w7) rfl ?_
 refine o_mv (v := (vi x9.2.1)) rfl ?_
 refine o_mv (v := (vi x9.2.2)) rfl ?_
 refine c_nil ?_
 refine c_gen (P := fun tm => tm 2 = (vi x8) ∧ tm 7 = (pV b1 0) ∧ tm 8 = (pV b2 0) ∧ tm 16 = w7 ∧ tm 17 = (vi x9.2.1) ∧ tm 18 = (vi x9.2.2) ∧ True) ⟨rfl, h20, h21, rfl, rfl, rfl, trivial⟩ ?_
 intro _ i13
 obtain ⟨h23, h24, h25, h26, h27, h28, -⟩ := i13
 refine c_sr (o_ldB 3 s27 rfl h25 rfl rfl (o_ldB 1 s27 rfl h24 rfl rfl (o_mv h23 ?_)))
 obtain ⟨x10, q13, e⟩ := oB e
 obtain ⟨Z12, V12, W9, g12, u9, c33, c34, -, c36, c35⟩ := Sat.call (l1 := []) s27
 refine o_call (mc rfl (mc rfl (mc rfl m0))) (X.compare_Least nd.compare_Least (a0 := (Ty.api_Grammar.mk x1.Terms x2.Nons x2.Start x4)) c33 (c34 4 _ (Sh.ro Sh.api_Rule) _ _ rfl) (c34 2 _ Sh.api_RuleO _ _ rfl) q13) fun _ H19 i14 => ?_
 obtain ⟨w8, rfl, s28⟩ := i14
 have s29 := c35 _ _ s28
 refine o_mv (v := (.tuple #[w8, vi x10.2.1, vi x10.2.2])) rfl ?_
 refine o_ext rfl rfl (o_ext rfl rfl (o_ext rfl rfl ?_))
 refine o_mv (v := w8) rfl ?_
 refine o_mv (v := (vi x10.2.1)) rfl ?_
 refine o_mv (v := (vi x10.2.2)) rfl ?_
 refine c_nil ?_
 refine c_gen (P := fun tm => tm 7 = (pV b1 0) ∧ tm 8 = (pV b2 0) ∧ tm 16 = w7 ∧ tm 17 = (vi x9.2.1) ∧ tm 18 = (vi x9.2.2) ∧ tm 19 = w8 ∧ tm 20 = (vi x10.2.1) ∧ tm 21 = (vi x10.2.2) ∧ True) ⟨h24, h25, h26, h27, h28, rfl, rfl, rfl, trivial⟩ ?_
 intro _ i15
 obtain ⟨h29, h30, h31, h32, h33, h34, h35, h36, -⟩ := i15
 refine c_sq (c_sr (o_mv h33 (o_mv h36 (o_neq rfl rfl ?_))))
 refine o_mv (v := (.bool (decide (x9.2.2 ≠ x10.2.2)))) rfl ?_
 obtain ⟨y2, e2, e⟩ := oB e
 refine o_jn 7 (I := fun tm H => ∃ (Z13 V13 : PH), Gw Z12 V12 Z13 V13 ∧ Sat Z13 V13 H [pts b1 (.rw 0 [vi x1.Terms, vi x1.Nons, vi x1.Start, (vS d1 x1.Rules)]), Is Sh.api_RuleO d1 x1.Rules, pts b2 (.rw 0 [vi x1.Terms, vi x2.Nons, vi x2.Start, (vS d3 x4)]), It.sl (Sh.ro Sh.api_Rule) (vS d3 x4) x4, It.sl Sh.int w7 x9.1, It.sl Sh.int w8 x10.1] ∧ tm 7 = (pV b1 0) ∧ tm 8 = (pV b2 0) ∧ tm 16 = w7 ∧ tm 17 = (vi x9.2.1) ∧ tm 18 = (vi x9.2.2) ∧ tm 19 = w8 ∧ tm 20 = (vi x10.2.1) ∧ tm 113 = (.bool y2)) (fun k3 => ?_) ?_
 ·rcases Bool.eq_false_or_eq_true (decide (x9.2.2 ≠ x10.2.2)) with q14 | q14
  ·replace e2 := if_t q14 e2
   refine o_gn rfl q14 (o_gn rfl q14 (o_gn rfl q14 (o_gu rfl (o_gu rfl ?_))))
   refine o_gn rfl q14 ?_
   refine o_pickt (a := (.bool true)) rfl q14 rfl ?_
   obtain rfl := oJ e2
   exact k3 _ _ ⟨_, _, Gw.refl _ _, (s29.pick [2, 3, 4, 5, 1, 0] rfl), h29, h30, h31, h32, h33, h34, h35, rfl⟩
  replace e2 := ib_f q14 e2
  refine o_gy rfl q14 (o_mv h33 (o_gy rfl q14 (o_neq rfl rfl (o_gy rfl q14 ?_))))
  refine o_mv (v := (.bool (decide (x9.2.2 ≠ 0)))) rfl ?_
  refine o_jn 3 (I := fun tm H => tm 112 = .bool ((decide (x9.2.2 ≠ 0)) && (decide (x9.2.2 ≠ 5))) ∧ (∃ (Z14 V14 : PH), Gw Z12 V12 Z14 V14 ∧ Sat Z14 V14 H [pts b1 (.rw 0 [vi x1.Terms, vi x1.Nons, vi x1.Start, (vS d1 x1.Rules)]), Is Sh.api_RuleO d1 x1.Rules, pts b2 (.rw 0 [vi x1.Terms, vi x2.Nons, vi x2.Start, (vS d3 x4)]), It.sl (Sh.ro Sh.api_Rule) (vS d3 x4) x4, It.sl Sh.int w7 x9.1, It.sl Sh.int w8 x10.1] ∧ tm 7 = (pV b1 0) ∧ tm 8 = (pV b2 0) ∧ tm 16 = w7 ∧ tm 17 = (vi x9.2.1) ∧ tm 18 = (vi x9.2.2) ∧ tm 19 = w8 ∧ tm 20 = (vi x10.2.1) ∧ tm 106 = (.bool (decide (x9.2.2 ≠ x10.2.2))))) (fun k4 => ?_) ?_
  ·rcases Bool.eq_false_or_eq_true (decide (x9.2.2 ≠ 0)) with q15 | q15
   ·refine o_gy rfl q15 (o_mv h33 (o_gy rfl q15 (o_neq rfl rfl (o_gy rfl q14 ?_))))
    refine o_pickt (a := (.bool (decide (x9.2.2 ≠ 5)))) rfl q15 rfl ?_
    exact k4 _ _ ⟨gf rfl (by first | (rw [q15]; first | done | rfl) | simp [q15]), _, _, Gw.refl _ _, (s29.pick [2, 3, 4, 5, 1, 0] rfl), h29, h30, h31, h32, h33, h34, h35, rfl⟩
   refine o_gn rfl q15 (o_gn rfl q15 (o_gy rfl q14 ?_))
   refine o_pickf (b := (.bool false)) rfl q15 rfl ?_
   exact k4 _ _ ⟨gf rfl (by first | (rw [q15]; first | done | rfl) | simp [q15]), _, _, Gw.refl _ _, (s29.pick [2, 3, 4, 5, 1, 0] rfl), h29, h30, h31, h32, h33, h34, h35, rfl⟩
  intro _ H21 i16
  obtain ⟨h53, Z14, V14, g14, s31, h45, h46, h47, h48, h49, h50, h51, h52⟩ := i16
  refine o_pickf (b := (.bool ((decide (x9.2.2 ≠ 0)) && (decide (x9.2.2 ≠ 5))))) h52 q14 h53 ?_
  obtain rfl := oJ e2
  exact k3 _ _ ⟨_, _, g14, s31, h45, h46, h47, h48, h49, h50, h51, rfl⟩
 intro _ H20 i17
 obtain ⟨Z13, V13, g13, s30, h37, h38, h39, h40, h41, h42, h43, h44⟩ := i17
 refine c_nil ?_
 refine c_if h44 (fun q16 => ?_) (fun q16 => ?_)
 ·replace e := if_t q16 e
  refine c_sr ?_
  refine o_mv (v := (.bool false)) rfl ?_
  refine c_nil (c_rt ?_)
  obtain rfl := oJ e
  exact ⟨.inr rfl, _, (ar1 rfl), rfl, ((s30.pick [] rfl).weak (g1.trans (g2.trans (g3.trans (g4.trans (g5.trans (g6.trans (g7.trans (g8.trans (g10.trans (g11.trans (g12.trans g13))))))))))) hs.zv)⟩
 replace e := ib_f q16 e
 refine c_sk (c_sq (c_sr (o_mv h41 (o_eql rfl rfl ?_))))
 refine c_nil ?_
 refine c_ifd rfl (fun q17 => ?_) (fun q17 => ?_)
 ·replace e := if_t q17 e
  refine c_sr (o_mv h40 (o_eql rfl rfl ?_))
  refine o_mv (v := (.bool (decide (x9.2.1 = 0)))) rfl ?_
  refine o_jn 3 (I := fun tm H => tm 121 = .bool ((decide (x9.2.1 = 0)) && (decide (x10.2.1 = 0))) ∧ (∃ (Z15 V15 : PH), Gw Z13 V13 Z15 V15 ∧ Sat Z15 V15 H [])) (fun k5 => ?_) ?_
  ·rcases Bool.eq_false_or_eq_true (decide (x9.2.1 = 0)) with q18 | q18
   ·refine o_gy rfl q18 (o_mv h43 (o_gy rfl q18 (o_eql rfl rfl ?_)))
    refine o_pickt (a := (.bool (decide (x10.2.1 = 0)))) rfl q18 rfl ?_
    exact k5 _ _ ⟨gf rfl (by first | (rw [q18]; first | done | rfl) | simp [q18]), _, _, Gw.refl _ _, (s30.pick [] rfl)⟩
   refine o_gn rfl q18 (o_gn rfl q18 ?_)
   refine o_pickf (b := (.bool false)) rfl q18 rfl ?_
   exact k5 _ _ ⟨gf rfl (by first | (rw [q18]; first | done | rfl) | simp [q18]), _, _, Gw.refl _ _, (s30.pick [] rfl)⟩
  intro _ H22 i18
  obtain ⟨h54, Z15, V15, g15, s32⟩ := i18
  refine o_mv h54 (c_nil (c_rt ?_))
  obtain rfl := oJ e
  exact ⟨.inr rfl, _, (ar1 rfl), rfl, (s32.weak (g1.trans (g2.trans (g3.trans (g4.trans (g5.trans (g6.trans (g7.trans (g8.trans (g10.trans (g11.trans (g12.trans (g13.trans g15)))))))))))) hs.zv)⟩
 replace e := if_f q17 e
 refine c_sk (c_sr (o_ldB 0 s30 rfl h37 rfl rfl (o_mv h39 ?_)))
 obtain ⟨x11, q19, e⟩ := oB e
 obtain ⟨Z16, V16, W10, g16, u10, c37, c38, -, c40, c39⟩ := Sat.call (l1 := []) s30
 refine o_call (mc rfl (mc rfl m0)) (X.mean_Accepts nd.mean_Accepts c37 (c38 1 _ Sh.api_RuleO _ _ rfl) (c38 4 _ Sh.int _ _ rfl) q19) fun _ H23 i19 => ?_
 obtain ⟨rfl, s33⟩ := i19
 have s34 := c39 _ _ s33
 refine o_mv (v := (.tuple #[(.bool x11.1), vi x11.2])) rfl ?_
 refine o_ext rfl rfl (o_ext rfl rfl ?_)
 refine o_mv (v := (.bool x11.1)) rfl ?_
 refine o_mv (v := (vi x11.2)) rfl ?_
 refine c_nil ?_
 refine c_gen (P := fun tm => tm 8 = (pV b2 0) ∧ tm 16 = w7 ∧ tm 17 = (vi x9.2.1) ∧ tm 19 = w8 ∧ tm 20 = (vi x10.2.1) ∧ tm 22 = (.bool x11.1) ∧ True) ⟨h38, h39, h40, h42, h43, rfl, trivial⟩ ?_
 intro _ i20
 obtain ⟨h55, h56, h57, h58, h59, h60, -⟩ := i20
 refine c_sr (o_ldB 2 s34 rfl h55 rfl rfl (o_mv h56 ?_))
 obtain ⟨x12, q20, e⟩ := oB e
 obtain ⟨Z17, V17, W11, g17, u11, c41, c42, -, c44, c43⟩ := Sat.call (l1 := []) s34
 refine o_call (mc rfl (mc rfl m0)) (X.mean_Accepts nd.mean_Accepts (a0 := (Ty.api_Grammar.mk x1.Terms x2.Nons x2.Start x4)) c41 (c42 3 _ (Sh.ro Sh.api_Rule) _ _ rfl) (c42 4 _ Sh.int _ _ rfl) q20) fun _ H24 i21 => ?_
 obtain ⟨rfl, s35⟩ := i21
 have s36 := c43 _ _ s35
 refine o_mv (v := (.tuple #[(.bool x12.1), vi x12.2])) rfl ?_
 refine o_ext rfl rfl (o_ext rfl rfl ?_)
 refine o_mv (v := (.bool x12.1)) rfl ?_
 refine o_mv (v := (vi x12.2)) rfl ?_
 refine c_nil (c_sr (o_mv h56 (o_mv h58 ?_)))
 obtain ⟨x13, q21, e⟩ := oB e
 obtain ⟨Z18, V18, W12, g18, u12, c45, c46, -, c48, c47⟩ := Sat.call (l1 := []) s36
 refine o_call (mc rfl (mc rfl m0)) (X.slices_Equal_int_int nd.slices_Equal_int_int c45 (c46 4 _ Sh.int _ _ rfl) (c46 5 _ Sh.int _ _ rfl) q21) fun _ H25 i22 => ?_
 obtain ⟨rfl, s37⟩ := i22
 have s38 := c47 _ _ s37
 refine o_mv (v := (.bool x13)) rfl ?_
 refine o_jn 4 (I := fun tm H => tm 141 = .bool (x13 && (decide (x9.2.1 ≠ x10.2.1))) ∧ (∃ (Z19 V19 : PH), Gw Z18 V18 Z19 V19 ∧ Sat Z19 V19 H [] ∧ tm 17 = (vi x9.2.1) ∧ tm 22 = (.bool x11.1) ∧ tm 24 = (.bool x12.1))) (fun k6 => ?_) ?_
 ·rcases Bool.eq_false_or_eq_true x13 with q22 | q22
  ·refine o_gy rfl q22 (o_mv h57 (o_gy rfl q22 (o_mv h59 (o_gy rfl q22 ?_))))
   refine o_neq rfl rfl ?_
   refine o_pickt (a := (.bool (decide (x9.2.1 ≠ x10.2.1)))) rfl q22 rfl ?_
   exact k6 _ _ ⟨gf rfl (by first | (rw [q22]; first | done | rfl) | simp [q22]), _, _, Gw.refl _ _, (s38.pick [] rfl), h57, h60, rfl⟩
  refine o_gn rfl q22 (o_gn rfl q22 (o_gn rfl q22 ?_))
  refine o_pickf (b := (.bool false)) rfl q22 rfl ?_
  exact k6 _ _ ⟨gf rfl (by first | (rw [q22]; first | done | rfl) | simp [q22]), _, _, Gw.refl _ _, (s38.pick [] rfl), h57, h60, rfl⟩
 intro _ H26 i23
 obtain ⟨h64, Z19, V19, g19, s39, h61, h62, h63⟩ := i23
 refine o_mv h64 ?_
 refine o_jn 4 (I := fun tm H => tm 146 = .bool ((x13 && (decide (x9.2.1 ≠ x10.2.1))) && (!(x11.1 == x12.1))) ∧ (∃ (Z20 V20 : PH), Gw Z19 V19 Z20 V20 ∧ Sat Z20 V20 H [] ∧ tm 17 = (vi x9.2.1) ∧ tm 22 = (.bool x11.1))) (fun k7 => ?_) ?_
 ·rcases Bool.eq_false_or_eq_true (x13 && (decide (x9.2.1 ≠ x10.2.1))) with q23 | q23
  ·refine o_gy rfl q23 (o_mv h62 (o_gy rfl q23 (o_mv h63 (o_gy rfl q23 ?_))))
   refine o_eq (q_nbool _ _) rfl rfl ?_
   refine o_pickt (a := (.bool (!(x11.1 == x12.1)))) rfl q23 rfl ?_
   exact k7 _ _ ⟨gf rfl (by first | (rw [q23]; first | done | rfl) | simp [q23]), _, _, Gw.refl _ _, s39, h61, h62⟩
  refine o_gn rfl q23 (o_gn rfl q23 (o_gn rfl q23 ?_))
  refine o_pickf (b := (.bool false)) rfl q23 rfl ?_
  exact k7 _ _ ⟨gf rfl (by first | (rw [q23]; first | done | rfl) | simp [q23]), _, _, Gw.refl _ _, s39, h61, h62⟩
 intro _ H27 i24
 obtain ⟨h67, Z20, V20, g20, s40, h65, h66⟩ := i24
 refine o_mv h67 ?_
 refine o_jn 5 (I := fun tm H => tm 152 = .bool (((x13 && (decide (x9.2.1 ≠ x10.2.1))) && (!(x11.1 == x12.1))) && ((decide (x9.2.1 = 1)) == x11.1)) ∧ (∃ (Z21 V21 : PH), Gw Z20 V20 Z21 V21 ∧ Sat Z21 V21 H [])) (fun k8 => ?_) ?_
 ·rcases Bool.eq_false_or_eq_true ((x13 && (decide (x9.2.1 ≠ x10.2.1))) && (!(x11.1 == x12.1))) with q24 | q24
  ·refine o_gy rfl q24 (o_mv h65 (o_gy rfl q24 (o_eql rfl rfl (o_gy rfl q24 ?_))))
   refine o_mv h66 (o_gy rfl q24 (o_eq (q_bool _ _) rfl rfl ?_))
   refine o_pickt (a := (.bool ((decide (x9.2.1 = 1)) == x11.1))) rfl q24 rfl ?_
   exact k8 _ _ ⟨gf rfl (by first | (rw [q24]; first | done | rfl) | simp [q24]), _, _, Gw.refl _ _, s40⟩
  refine o_gn rfl q24 (o_gn rfl q24 (o_gn rfl q24 (o_gn rfl q24 ?_)))
  refine o_pickf (b := (.bool false)) rfl q24 rfl ?_
  exact k8 _ _ ⟨gf rfl (by first | (rw [q24]; first | done | rfl) | simp [q24]), _, _, Gw.refl _ _, s40⟩
 intro _ H28 i25
 obtain ⟨h68, Z21, V21, g21, s41⟩ := i25
 refine o_mv h68 (c_nil (c_rt ?_))
 obtain rfl := oJ e
 exact ⟨.inr rfl, _, (ar1 rfl), rfl, (s41.weak (g1.trans (g2.trans (g3.trans (g4.trans (g5.trans (g6.trans (g7.trans (g8.trans (g10.trans (g11.trans (g12.trans (g13.trans (g16.trans (g17.trans (g18.trans (g19.trans (g20.trans g21))))))))))))))))) hs.zv)⟩
end Go.Proofs.Ythgdobdhdfjhfaa
