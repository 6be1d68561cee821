import Derived.Test.YtmeigkelacoibaaP
import Derived.Test.YtmeigkelacoibaaGcensus
import Derived.Test.YtmeigkelacoibaaGcmp
import Derived.Test.YtmeigkelacoibaaGgram
import Derived.Test.YtmeigkelacoibaaGparlkeep5
import Derived.Test.YtmeigkelacoibaaGparlmake
import Derived.Test.YtmeigkelacoibaaGrank
import Derived.Test.YtmeigkelacoibaaGslices
import Derived.Test.YtmeigkelacoibaaGtree
namespace Go.Proofs.Ytmeigkelacoibaa
open Go Go.Ab
structure Nd.E3 (T : FuncId → Option AFunc) : Prop where
 own : Has T I.E3 F.E3
set_option maxHeartbeats 1000000 in
theorem X.E3 {T : FuncId → Option AFunc} (nd : Nd.E3 T) {Z V : PH} {H : Hp} {a0 : Int} {a1 : Int} (hs : Sat Z V H []) {r : Int} (e : P.E3 a0 a1 = some r) :
 G T I.E3 [vi a0, vi a1] H (fun rv H' => rv = (vi r) ∧ Sat Z V H' []) := by
 unfold P.E3 at e
 refine f_mk nd.own ?_
 refine c_sr ?_
 refine o_mv (v := (vi 0)) rfl ?_
 refine c_nil (c_sr ?_)
 refine o_mv (v := (vi a0)) rfl ?_
 refine o_mv (v := (vi a1)) rfl ?_
 obtain ⟨x1, q1, e⟩ := oB e
 refine o_rem rfl rfl q1 ?_
 refine o_mv (v := (vi x1)) rfl ?_
 refine c_nil (c_sq (c_sr ?_))
 refine o_mv (v := (vi x1)) rfl ?_
 refine o_lss rfl rfl (c_nil ?_)
 obtain ⟨y1, e1, e⟩ := oB e
 refine c_jn (I := fun tm H => ∃ (Z1 V1 : PH), Gw Z V Z1 V1 ∧ Sat Z1 V1 H [] ∧ tm 0 = (vi y1)) (fun k1 => ?_) ?_
 ·refine c_ifd rfl (fun q2 => ?_) (fun q2 => ?_)
  ·replace e1 := if_t q2 e1
   refine c_r ?_
   refine o_mv (v := (vi x1)) rfl ?_
   refine o_mv (v := (vi a1)) rfl ?_
   refine o_add rfl rfl ?_
   refine o_mv (v := (vi (Pu.W (x1 + a1)))) rfl ?_
   refine c_nil ?_
   obtain rfl := oJ e1
   exact k1 _ _ ⟨_, _, Gw.refl _ _, hs, rfl⟩
  replace e1 := if_f q2 e1
  refine c_sk ?_
  obtain rfl := oJ e1
  exact k1 _ _ ⟨_, _, Gw.refl _ _, hs, rfl⟩
 intro _ H1 i1
 obtain ⟨Z1, V1, g1, s1, h1⟩ := i1
 refine c_sr (o_mv h1 ?_)
 refine o_mv (v := (vi y1)) rfl ?_
 refine c_nil (c_rt ?_)
 obtain rfl := oJ e
 exact ⟨.inr rfl, _, (ar1 rfl), rfl, (s1.weak g1 hs.zv)⟩
structure Nd.A8 (T : FuncId → Option AFunc) : Prop where
 own : Has T I.A8 F.A8
 E3 : Nd.E3 T
set_option maxHeartbeats 1000000 in
theorem X.A8 {T : FuncId → Option AFunc} (nd : Nd.A8 T) {Z V : PH} {H : Hp} {v1 : Value} {o1 : Nat} {a0 : Ty.E9} {a1 : Int} (hs : Sat Z V H [pts o1 (.rw 0 [v1])]) (hp1 : RdS Sh.int Z v1 a0.l) {r : (Ty.E9 × Int)} (e : P.A8 a0 a1 = some r) :
 G T I.A8 [(pV o1 0), vi a1] H (fun rv H' => ∃ (u1 : Value), rv = (vi r.2) ∧ Sat Z V H' [pts o1 (.rw 0 [u1]), Sh.it (Sh.ro sI1) [u1] r.1.l]) := by
 unfold P.A8 at e
 refine f_mk nd.own ?_
 refine c_sr ?_
 refine o_mv (v := (vi 0)) rfl ?_
 refine c_nil (c_sq (c_sr ?_))
 refine o_mv (v := (pV o1 0)) rfl ?_
 refine o_nck rfl (o_fad rfl ?_)
 obtain ⟨d1, rfl⟩ := (hp1).val
 refine o_ldB 0 hs rfl rfl rfl rfl (o_len rfl (hp1).len (o_eql rfl rfl (c_nil ?_)))
 refine c_ifd rfl (fun q1 => ?_) (fun q1 => ?_)
 ·replace e := if_t q1 e
  refine c_sr ?_
  refine o_mv (v := (vi 0)) rfl ?_
  refine c_nil (c_rt ?_)
  obtain rfl := oJ e
  exact ⟨.inr rfl, _, (ar1 rfl), _, rfl, ((hs.push (ro_it (sl_ro hp1))).pick [1, 0] rfl)⟩
 replace e := if_f q1 e
 refine c_sk (c_sr ?_)
 refine o_mv (v := (pV o1 0)) rfl ?_
 refine o_nck rfl (o_fad rfl (o_ldB 0 hs rfl rfl rfl rfl ?_))
 obtain ⟨x1, q2, e⟩ := oB e
 refine o_idx (v := (vS d1 a0.l)) rfl rfl hp1 rfl q2 fun p1 q3 => ?_
 refine o_ldi rfl hp1 hs.z q3 q2 ?_
 refine o_mv (v := (vi x1)) rfl ?_
 refine c_nil ?_
 refine c_gen (P := fun tm => tm 0 = (pV o1 0) ∧ tm 1 = (vi a1) ∧ tm 5 = (vi x1) ∧ True) ⟨rfl, rfl, rfl, trivial⟩ ?_
 intro _ i1
 obtain ⟨h1, h2, h3, -⟩ := i1
 refine c_sr (o_mv h1 (o_mv h1 (o_nck rfl (o_fad rfl ?_))))
 refine o_ldB 0 hs rfl rfl rfl rfl ?_
 obtain ⟨x2, q4, e⟩ := oB e
 refine o_slcl rfl rfl hp1 hs.z rfl q4 fun w1 h4 => ?_
 refine o_nck rfl (o_fad rfl ?_)
 obtain ⟨d2, rfl⟩ := (h4).val
 refine o_stB (us' := [(vS d2 x2)]) 0 hs rfl rfl rfl rfl rfl rfl rfl fun H1 s1 => ?_
 refine c_nil (c_sr (o_mv h3 (o_mv h2 ?_)))
 obtain ⟨x3, q5, e⟩ := oB e
 obtain ⟨Z1, V1, W1, g1, u1, c1, c2, -, c4, c3⟩ := Sat.call (l1 := []) s1
 refine o_call (mc rfl (mc rfl m0)) (X.E3 nd.E3 c1 q5) fun _ H2 i2 => ?_
 obtain ⟨rfl, s2⟩ := i2
 have s3 := c3 _ _ s2
 refine o_mv (v := (vi x3)) rfl ?_
 refine c_nil ?_
 refine c_gen (P := fun tm => tm 4 = (vi x3) ∧ True) ⟨rfl, trivial⟩ ?_
 intro _ i3
 obtain ⟨h5, -⟩ := i3
 refine c_rt ?_
 obtain rfl := oJ e
 exact ⟨.inr rfl, _, (ar1 h5), _, rfl, (((s3.push (ro_it (sl_ro (h4.mono g1.z)))).pick [1, 0] rfl).weak g1 hs.zv)⟩
structure Nd.D2 (T : FuncId → Option AFunc) : Prop where
 own : Has T I.D2 F.D2
set_option maxHeartbeats 1000000 in
theorem X.D2 {T : FuncId → Option AFunc} (nd : Nd.D2 T) {Z V : PH} {H : Hp} {v1 : Value} {v2 : Value} {a0 : (List Ty.A6)} {a1 : Ty.A6} (hs : Sat Z V H []) (hp1 : RdS Sh.A6 V v1 a0) (hp2 : RdS Sh.D1 V v2 a1.Right) {r : Bool} (e : P.D2 a0 a1 = some r) :
 G T I.D2 [v1, (.agg #[vi a1.Left, v2])] H (fun rv H' => rv = (.bool r) ∧ Sat Z V H' []) := by
 unfold P.D2 at e
 refine f_mk nd.own ?_
 refine c_sr ?_
 obtain ⟨d1, rfl⟩ := (hp2).val
 refine o_box hs rfl rfl fun b1 H1 s1 => ?_
 refine o_mv (v := (.bool false)) rfl ?_
 refine c_nil (c_sq (c_sr ?_))
 refine o_mv (v := v1) rfl ?_
 refine o_len rfl (hp1).len ?_
 refine o_mv (v := (vi 0)) rfl ?_
 refine c_nil ?_
 obtain ⟨y1, q3, e⟩ := oB e
 refine c_jn (I := fun tm H => ∃ (s4 : Unit), y1 = .out s4 ∧ (∃ (Z2 V2 : PH), Gw Z V Z2 V2 ∧ Sat Z2 V2 H [pts b1 (.rw 0 [vi a1.Left, (vS d1 a1.Right)])] ∧ tm 3 = (pV b1 0) ∧ tm 9 = v1 ∧ tm 10 = (vN a0))) (fun k4 => ?_) ?_
 ·refine c_bk ?_
  refine l_forL (xs := a0) (fun (i1 : Nat) (s2 : Unit) tm H => tm 11 = vi i1 ∧ ∃ (Z1 V1 : PH), Gw Z V Z1 V1 ∧ Sat Z1 V1 H [pts b1 (.rw 0 [vi a1.Left, (vS d1 a1.Right)])] ∧ tm 3 = (pV b1 0) ∧ tm 9 = v1 ∧ tm 10 = (vN a0)) (fun i1 x1 s2 y2 tm H3 q1 q2 j1 e1 k1 k2 k3 => ?_) (fun s2 tm H2 jf jd => ?_) q3 ⟨rfl, _, _, Gw.refl _ _, s1, rfl, rfl, rfl⟩
  ·obtain ⟨hti0, Z1, V1, g1, s3, h1, h2, h3⟩ := j1
   unfold P.D2.b0 at e1
   refine c_sr (o_lss hti0 h3 (c_nil (c_sq ?_)))
   refine c_ift rfl (Int.ofNat_lt.2 q2) ?_
   refine c_sk (c_sq (c_bk (c_sr ?_)))
   refine o_idx (v := v1) h2 hti0 (hp1.mono g1.v) rfl (Pu.ix_nat.trans q1) fun p1 q4 => ?_
   refine o_lda rfl (hp1.mono g1.v) s3.v rfl q4 (Pu.ix_nat.trans q1) fun c1 h7 => ?_
   obtain ⟨w1, rfl, h8⟩ := Sh.G2 h7
   refine o_new s3 fun b2 H5 s6 => ?_
   obtain ⟨d2, rfl⟩ := (h8).val
   refine o_stB (us' := [vi x1.Left, (vS d2 x1.Right)]) 0 s6 rfl rfl rfl rfl rfl rfl rfl fun H6 s7 => ?_
   refine c_nil (c_sq (c_sr (o_fad rfl (o_ldB 0 s7 rfl rfl rfl rfl ?_))))
   refine o_fad h1 (o_ldB 1 s7 rfl rfl rfl rfl (o_neq rfl rfl ?_))
   refine o_mv (v := (.bool (decide (x1.Left ≠ a1.Left)))) rfl ?_
   refine o_jn 8 (I := fun tm H => tm 28 = .bool ((decide (x1.Left ≠ a1.Left)) || (decide ((x1.Right.length : Int) ≠ (a1.Right.length : Int)))) ∧ (∃ (Z3 V3 : PH), Gw Z1 V1 Z3 V3 ∧ Sat Z3 V3 H [pts b1 (.rw 0 [vi a1.Left, (vS d1 a1.Right)]), pts b2 (.rw 0 [vi x1.Left, (vS d2 x1.Right)])] ∧ tm 3 = (pV b1 0) ∧ tm 6 = (pV b2 0) ∧ tm 9 = v1 ∧ tm 10 = (vN a0) ∧ tm 11 = (vJ i1))) (fun k5 => ?_) ?_
   ·rcases Bool.eq_false_or_eq_true (decide (x1.Left ≠ a1.Left)) with q5 | q5
    ·refine o_gn rfl q5 (o_gn rfl q5 (o_gn rfl q5 (o_gn rfl q5 (o_gn rfl q5 ?_))))
     refine o_gn rfl q5 (o_gn rfl q5 ?_)
     refine o_pickt (a := (.bool true)) rfl q5 rfl ?_
     exact k5 _ _ ⟨gf rfl (by first | (rw [q5]; first | done | rfl) | simp [q5]), _, _, Gw.refl _ _, (s7.pick [1, 0] rfl), h1, rfl, h2, h3, hti0⟩
    refine o_gy rfl q5 (o_fad rfl (o_gy rfl q5 (o_ldB 0 s7 rfl rfl rfl rfl (o_gy rfl q5 ?_))))
    refine o_len rfl (h8).len (o_gy rfl q5 (o_fad h1 (o_gy rfl q5 (o_ldB 1 s7 rfl rfl rfl rfl ?_))))
    refine o_gy rfl q5 (o_len rfl ((hp2.mono g1.v)).len (o_gy rfl q5 (o_neq rfl rfl ?_)))
    refine o_pickf (b := (.bool (decide ((x1.Right.length : Int) ≠ (a1.Right.length : Int))))) rfl q5 rfl ?_
    exact k5 _ _ ⟨gf rfl (by first | (rw [q5]; first | done | rfl) | simp [q5]), _, _, Gw.refl _ _, (s7.pick [1, 0] rfl), h1, rfl, h2, h3, hti0⟩
   intro _ H7 i2
   obtain ⟨h14, Z3, V3, g3, s8, h9, h10, h11, h12, h13⟩ := i2
   refine c_nil ?_
   refine c_if h14 (fun q6 => ?_) (fun q6 => ?_)
   ·replace e1 := if_t q6 e1
    refine c_ex ?_
    refine e_c ?_
    refine e_h ?_
    refine c_r (o_add h13 rfl ?_)
    refine o_mv (v := (vi (Pu.W ((i1 : Int) + 1)))) rfl ?_
    refine c_nil ?_
    exact k1 _ _ _ (sJ e1) ⟨(iv rfl (w_suc q2 (hp1).bd)), _, _, (g1.trans g3), (s8.pick [0] rfl), h9, h11, h12⟩
   replace e1 := ib_f q6 e1
   refine c_sk (c_sr ?_)
   refine o_mv (v := (.bool true)) rfl ?_
   refine c_nil (c_sq (c_sr (o_fad h10 (o_ldB 1 s8 rfl rfl rfl rfl ?_))))
   refine o_len rfl ((h8.mono g3.v)).len ?_
   refine o_mv (v := (vi 0)) rfl ?_
   refine c_nil ?_
   obtain ⟨x3, q9, e1⟩ := oB e1
   obtain ⟨rfl, q11⟩ := ranO_some q9
   obtain ⟨y3, q12, e1⟩ := oB e1
   refine c_bk ?_
   refine l_forP (xs := (Pu.ran (x1.Right.length : Int))) (fun (i3 : Nat) (s9 : Bool) tm H => tm 32 = vi i3 ∧ ∃ (Z4 V4 : PH), Gw Z3 V3 Z4 V4 ∧ Sat Z4 V4 H [pts b1 (.rw 0 [vi a1.Left, (vS d1 a1.Right)]), pts b2 (.rw 0 [vi x1.Left, (vS d2 x1.Right)])] ∧ tm 3 = (pV b1 0) ∧ tm 6 = (pV b2 0) ∧ tm 7 = (.bool s9) ∧ tm 9 = v1 ∧ tm 10 = (vN a0) ∧ tm 11 = (vJ i1) ∧ tm 31 = (vN x1.Right)) (fun i3 x2 s9 s11 tm H9 q7 q8 j2 e2 k6 => ?_) (fun tm H8 jd => ?_) q12 ⟨rfl, _, _, Gw.refl _ _, s8, h9, h10, rfl, h11, h12, h13, rfl⟩
   ·obtain ⟨hti1, Z4, V4, g4, s10, h15, h16, h17, h18, h19, h20, h21⟩ := j2
    unfold P.D2.b1 at e2
    have hti1 := iv hti1 (ran_x q7).symm
    refine c_sr (o_lss hti1 h21 (c_nil (c_sq ?_)))
    refine c_ift rfl (ran_lt q7) ?_
    refine c_sk (c_sq (c_bk (c_sr (o_mv hti1 ?_))))
    refine o_mv (v := (vi x2)) rfl ?_
    refine c_nil ?_
    refine d_start s10 fun n1 H10 s12 q13 d3 => ?_
    refine d_mv h17 ?_
    refine d_mv (v := (.bool s9)) rfl ?_
    obtain ⟨y4, e3, e2⟩ := oB e2
    refine d_jn 12 (I := fun tm H => DD n1 14 (List.length F.D2.r9) H ∧ (∃ (Z5 V5 : PH), Gw Z4 V4 Z5 V5 ∧ Sat Z5 V5 H [pts b1 (.rw 0 [vi a1.Left, (vS d1 a1.Right)]), pts b2 (.rw 0 [vi x1.Left, (vS d2 x1.Right)])] ∧ tm 3 = (pV b1 0) ∧ tm 6 = (pV b2 0) ∧ tm 9 = v1 ∧ tm 10 = (vN a0) ∧ tm 11 = (vJ i1) ∧ tm 31 = (vN x1.Right) ∧ tm 32 = (vi x2) ∧ tm 48 = (.bool y4))) (fun k7 => ?_) ?_
    ·rcases Bool.eq_false_or_eq_true s9 with q14 | q14
     ·replace e3 := if_t q14 e3
      refine d_want rfl q14 ?_
      refine d_fad h16 ?_
      refine d_want rfl q14 ?_
      refine d_ldB (q13 _ _ (ph_some.2 ⟨s12.curB 1 rfl, by simp⟩)) 1 s12 rfl rfl rfl rfl ?_
      refine d_want rfl q14 ?_
      refine d_mv (v := (vi x2)) rfl ?_
      refine d_want rfl q14 ?_
      obtain ⟨x4, q15, e3⟩ := oB e3
      refine d_idx (v := (vS d2 x1.Right)) rfl rfl (h8.mono (g3.trans g4).v) rfl q15 fun p2 q16 => ?_
      refine d_want rfl q14 ?_
      refine d_lda (RdS.low (h8.mono (g3.trans g4).v) s12.v q13) rfl h8 ((g3.trans g4).v.trans s12.v) rfl q16 q15 fun c2 h30 => ?_
      obtain rfl := h30
      refine d_want rfl q14 ?_
      refine d_fad h15 ?_
      refine d_want rfl q14 ?_
      refine d_ldB (q13 _ _ (ph_some.2 ⟨s12.curB 0 rfl, by simp⟩)) 0 s12 rfl rfl rfl rfl ?_
      refine d_want rfl q14 ?_
      refine d_mv (v := (vi x2)) rfl ?_
      refine d_want rfl q14 ?_
      obtain ⟨x5, q17, e3⟩ := oB e3
      refine d_idx (v := (vS d1 a1.Right)) rfl rfl (hp2.mono (g1.trans (g3.trans g4)).v) rfl q17 fun p3 q18 => ?_
      refine d_want rfl q14 ?_
      refine d_lda (RdS.low (hp2.mono (g1.trans (g3.trans g4)).v) s12.v q13) rfl hp2 ((g1.trans (g3.trans g4)).v.trans s12.v) rfl q18 q17 fun c3 h31 => ?_
      obtain rfl := h31
      refine d_want rfl q14 ?_
      refine d_eq (q_api_Sym ..) rfl rfl ?_
      refine d_pickt (a := (.bool ((x4.Term == x5.Term) && (x4.N == x5.N)))) rfl q14 rfl ?_
      obtain rfl := oJ e3
      exact k7 _ _ _ ⟨d3.up rfl, _, _, Gw.refl _ _, s12, h15, h16, h18, h19, h20, h21, hti1, rfl⟩
     replace e3 := ib_f q14 e3
     refine d_gn rfl q14 ?_
     refine d_gn rfl q14 ?_
     refine d_gn rfl q14 ?_
     refine d_gn rfl q14 ?_
     refine d_gn rfl q14 ?_
     refine d_gn rfl q14 ?_
     refine d_gn rfl q14 ?_
     refine d_gn rfl q14 ?_
     refine d_gn rfl q14 ?_
     refine d_gn rfl q14 ?_
     refine d_gn rfl q14 ?_
     refine d_pickf (b := (.bool false)) rfl q14 rfl ?_
     obtain rfl := oJ e3
     exact k7 _ _ _ ⟨d3.up rfl, _, _, Gw.refl _ _, s12, h15, h16, h18, h19, h20, h21, hti1, rfl⟩
    intro _ H11 _ i4
    obtain ⟨d4, Z5, V5, g5, s13, h22, h23, h24, h25, h26, h27, h28, h29⟩ := i4
    refine d_mv h29 ?_
    refine d_nil dc_nil ?_
    refine c_end (c_r (o_add h28 rfl ?_))
    refine o_mv (v := (vi (Pu.W (x2 + 1)))) rfl ?_
    refine c_nil ?_
    obtain rfl := oJ e2
    exact k6 _ _ ⟨(iv rfl (w_sucR q7 q11)), _, _, (g4.trans g5), s13, h22, h23, rfl, h24, h25, h26, h27⟩
   obtain ⟨hte1, Z6, V6, g6, s14, h32, h33, h34, h35, h36, h37, h38⟩ := jd
   refine c_sr (o_lss hte1 h38 (c_nil (c_sq ?_)))
   refine c_iff rfl (ran_done _) ?_
   refine c_ex ?_
   refine e_c ?_
   refine e_c ?_
   refine e_h ?_
   refine c_sr (o_mv h34 (c_nil ?_))
   refine c_if rfl (fun q19 => ?_) (fun q19 => ?_)
   ·replace e1 := if_t q19 e1
    refine c_sr ?_
    refine o_mv (v := (.bool true)) rfl ?_
    refine c_nil (c_rt ?_)
    have e4 := fin_r (k3 _ (sJ e1)) e
    obtain rfl := oJ e4
    exact ⟨.inr rfl, _, (ar1 rfl), rfl, ((s14.pick [] rfl).weak (g1.trans (g3.trans g6)) hs.zv)⟩
   replace e1 := ib_f q19 e1
   refine c_sk (c_end (c_r (o_add h37 rfl ?_)))
   refine o_mv (v := (vi (Pu.W ((i1 : Int) + 1)))) rfl ?_
   refine c_nil ?_
   exact k1 _ _ _ (sJ e1) ⟨(iv rfl (w_suc q2 (hp1).bd)), _, _, (g1.trans (g3.trans g6)), (s14.pick [0] rfl), h32, h35, h36⟩
  ·obtain ⟨hte0, Z7, V7, g7, s15, h39, h40, h41⟩ := jd
   refine c_sr (o_lss hte0 h41 (c_nil (c_sq ?_)))
   refine c_iff rfl (Int.lt_irrefl _) ?_
   refine c_ex ?_
   refine e_c ?_
   refine e_c ?_
   refine e_h ?_
   exact k4 _ _ ⟨_, jf, _, _, g7, s15, h39, h40, h41⟩
 intro _ H4 i5
 obtain ⟨s4, f1, Z2, V2, g2, s5, h4, h5, h6⟩ := i5
 replace e := fin_o f1 e
 refine c_sr ?_
 refine o_mv (v := (.bool false)) rfl ?_
 refine c_nil (c_rt ?_)
 obtain rfl := oJ e
 exact ⟨.inr rfl, _, (ar1 rfl), rfl, ((s5.pick [] rfl).weak g2 hs.zv)⟩
structure Nd.B9 (T : FuncId → Option AFunc) : Prop where
 own : Has T I.B9 F.B9
 A8 : Nd.A8 T
 D2 : Nd.D2 T
set_option maxHeartbeats 1000000 in
theorem X.B9 {T : FuncId → Option AFunc} (nd : Nd.B9 T) {Z V : PH} {H : Hp} {v1 : Value} {a0 : (List Int)} (hs : Sat Z V H []) (hp1 : RdS Sh.int Z v1 a0) {r : Ty.B2} (e : P.B9 a0 = some r) :
 G T I.B9 [v1] H (fun rv H' => ∃ (u1 : Value), rv = (.agg #[vi r.Terms, vi r.Nons, vi r.Start, u1]) ∧ Sat Z V H' [It.sl (Sh.ro Sh.A6) u1 r.Rules]) := by
 unfold P.B9 at e
 refine f_mk nd.own ?_
 refine c_sr ?_
 refine o_new hs fun b1 H1 s1 => ?_
 refine c_nil (c_sr ?_)
 refine o_mv (v := v1) rfl ?_
 obtain ⟨d1, rfl⟩ := (hp1).val
 refine o_bld (qs := [(0, 1, (vS d1 a0))]) rfl rfl ?_
 refine o_box s1 rfl rfl fun b2 H2 s2 => ?_
 refine o_mv (v := (pV b2 0)) rfl ?_
 refine c_nil (c_sr ?_)
 refine o_mv (v := (pV b2 0)) rfl ?_
 obtain ⟨x1, q1, e⟩ := oB e
 obtain ⟨Z1, V1, W1, g1, u1, c1, c2, -, c4, c3⟩ := Sat.call (l1 := [pts b2 (.rw 0 [(vS d1 a0)])]) (l2 := [pts b1 (.rw 0 [vi 0, vi 0, vi 0, (.slice none 0 0)])]) s2
 refine o_call (mc rfl (mc rfl m0)) (X.A8 nd.A8 (a0 := (Ty.E9.mk a0)) c1 (hp1.mono g1.z) q1) fun _ H3 i1 => ?_
 obtain ⟨w1, rfl, s3⟩ := i1
 have s4 := c3 _ _ s3
 obtain ⟨Z2, V2, g2, s5, h1⟩ := (s4.pull 1 rfl).frzR
 refine o_add rfl rfl ?_
 refine o_mv (v := (pV b2 0)) rfl ?_
 obtain ⟨x2, q2, e⟩ := oB e
 obtain ⟨d2, rfl⟩ := (h1).val
 obtain ⟨Z3, V3, W2, g3, u2, c5, c6, -, c8, c7⟩ := Sat.call (l1 := [pts b2 (.rw 0 [(vS d2 x1.1.l)])]) (l2 := [pts b1 (.rw 0 [vi 0, vi 0, vi 0, (.slice none 0 0)])]) s5
 refine o_call (mc rfl (mc rfl m0)) (X.A8 nd.A8 (a0 := x1.1) c5 (h1.mono g3.z) q2) fun _ H4 i2 => ?_
 obtain ⟨w2, rfl, s6⟩ := i2
 have s7 := c7 _ _ s6
 obtain ⟨Z4, V4, g4, s8, h2⟩ := (s7.pull 1 rfl).frzR
 refine o_add rfl rfl ?_
 refine o_bld (qs := [(0, 1, (vi (Pu.W (1 + x1.2)))), (1, 1, (vi (Pu.W (1 + x2.2))))]) rfl rfl ?_
 refine o_new s8 fun b3 H5 s9 => ?_
 refine o_stB (us' := [(vi (Pu.W (1 + x1.2))), (vi (Pu.W (1 + x2.2))), vi 0, (.slice none 0 0)]) 0 s9 rfl rfl rfl rfl rfl rfl rfl fun H6 s10 => ?_
 refine c_nil ?_
 refine c_gen (P := fun tm => tm 2 = (pV b1 0) ∧ tm 3 = (pV b2 0) ∧ tm 4 = (pV b3 0) ∧ True) ⟨rfl, rfl, rfl, trivial⟩ ?_
 intro _ i3
 obtain ⟨h3, h4, h5, -⟩ := i3
 refine c_sr (o_mv h4 (o_fad h5 (o_ldB 0 s10 rfl rfl rfl rfl ?_)))
 obtain ⟨x3, q3, e⟩ := oB e
 obtain ⟨d3, rfl⟩ := (h2).val
 obtain ⟨Z5, V5, W3, g5, u3, c9, c10, -, c12, c11⟩ := Sat.call (l1 := [pts b2 (.rw 0 [(vS d3 x2.1.l)])]) (l2 := [pts b3 (.rw 0 [(vi (Pu.W (1 + x1.2))), (vi (Pu.W (1 + x2.2))), vi 0, (.slice none 0 0)]), pts b1 (.rw 0 [vi 0, vi 0, vi 0, (.slice none 0 0)])]) (s10.pick [1, 0, 2] rfl)
 refine o_call (mc rfl (mc rfl m0)) (X.A8 nd.A8 (a0 := x2.1) c9 (h2.mono g5.z) q3) fun _ H7 i4 => ?_
 obtain ⟨w3, rfl, s11⟩ := i4
 have s12 := c11 _ _ s11
 obtain ⟨Z6, V6, g6, s13, h6⟩ := (s12.pull 1 rfl).frzR
 refine o_fad h5 ?_
 refine o_stB (us' := [(vi (Pu.W (1 + x1.2))), (vi (Pu.W (1 + x2.2))), vi x3.2, (.slice none 0 0)]) 1 s13 rfl rfl rfl rfl rfl rfl rfl fun H8 s14 => ?_
 refine c_nil (c_sq (c_sr (o_mv h4 ?_)))
 obtain ⟨x4, q4, e⟩ := oB e
 obtain ⟨d4, rfl⟩ := (h6).val
 obtain ⟨Z7, V7, W4, g7, u4, c13, c14, -, c16, c15⟩ := Sat.call (l1 := [pts b2 (.rw 0 [(vS d4 x3.1.l)])]) (l2 := [pts b3 (.rw 0 [(vi (Pu.W (1 + x1.2))), (vi (Pu.W (1 + x2.2))), vi x3.2, (.slice none 0 0)]), pts b1 (.rw 0 [vi 0, vi 0, vi 0, (.slice none 0 0)])]) s14
 refine o_call (mc rfl (mc rfl m0)) (X.A8 nd.A8 (a0 := x3.1) c13 (h6.mono g7.z) q4) fun _ H9 i5 => ?_
 obtain ⟨w4, rfl, s15⟩ := i5
 have s16 := c15 _ _ s15
 obtain ⟨Z8, V8, g8, s17, h7⟩ := (s16.pull 1 rfl).frzR
 refine o_add rfl rfl ?_
 refine o_mv (v := (vi 0)) rfl ?_
 refine c_nil ?_
 obtain ⟨x6, q7, e⟩ := oB e
 obtain ⟨rfl, q9⟩ := ranO_some q7
 obtain ⟨y1, q10, e⟩ := oB e
 refine c_bk ?_
 refine l_forP (xs := (Pu.ran (Pu.W (1 + x4.2)))) (fun (i6 : Nat) (s18 : ((List Int) × (List Ty.A6))) tm H => tm 24 = vi i6 ∧ ∃ (Z9 V9 : PH) (w5 : Value) (w6 : Value), Gw Z8 V8 Z9 V9 ∧ Sat Z9 V9 H [pts b1 (.rw 0 [vi 0, vi 0, vi 0, (.slice none 0 0)]), pts b2 (.rw 0 [w6]), pts b3 (.rw 0 [(vi (Pu.W (1 + x1.2))), (vi (Pu.W (1 + x2.2))), vi x3.2, w5]), It.sl (Sh.ro Sh.A6) w5 s18.2] ∧ tm 2 = (pV b1 0) ∧ tm 3 = (pV b2 0) ∧ tm 4 = (pV b3 0) ∧ tm 23 = (vi (Pu.W (1 + x4.2))) ∧ RdS Sh.int Z9 w6 s18.1) (fun i6 x5 s18 s20 tm H11 q5 q6 j1 e1 k1 => ?_) (fun tm H10 jd => ?_) q10 ⟨rfl, _, _, _, _, Gw.refl _ _, ((s17.push (sl_nil (s := (Sh.ro Sh.A6)))).pick [3, 1, 2, 0] rfl), h3, h4, h5, rfl, h7⟩
 ·obtain ⟨hti0, Z9, V9, w5, w6, g9, s19, h9, h10, h11, h12, h8⟩ := j1
  unfold P.B9.b0 at e1
  have hti0 := iv hti0 (ran_x q5).symm
  refine c_sr (o_lss hti0 h12 (c_nil (c_sq ?_)))
  refine c_ift rfl (ran_lt q5) ?_
  refine c_sk (c_sq (c_bk (c_sr (o_mv h10 ?_))))
  refine o_fad h11 ?_
  obtain ⟨d5, rfl⟩ := ((s19.curS (s := (Sh.ro Sh.A6)) 3 rfl)).val
  refine o_ldB 2 s19 rfl rfl rfl rfl ?_
  obtain ⟨x7, q11, e1⟩ := oB e1
  obtain ⟨d6, rfl⟩ := (h8).val
  obtain ⟨Z10, V10, W5, g10, u5, c17, c18, -, c20, c19⟩ := Sat.call (l1 := [pts b2 (.rw 0 [(vS d6 s18.1)])]) (l2 := [pts b1 (.rw 0 [vi 0, vi 0, vi 0, (.slice none 0 0)]), pts b3 (.rw 0 [(vi (Pu.W (1 + x1.2))), (vi (Pu.W (1 + x2.2))), vi x3.2, (vS d5 s18.2)]), It.sl (Sh.ro Sh.A6) (vS d5 s18.2) s18.2]) (s19.pick [1, 0, 2, 3] rfl)
  refine o_call (mc rfl (mc rfl m0)) (X.A8 nd.A8 (a0 := (Ty.E9.mk s18.1)) c17 (h8.mono g10.z) q11) fun _ H12 i7 => ?_
  obtain ⟨w7, rfl, s21⟩ := i7
  have s22 := c19 _ _ s21
  obtain ⟨Z11, V11, g11, s23, h13⟩ := (s22.pull 1 rfl).frzR
  refine o_bld (qs := [(0, 1, (vi x7.2))]) rfl rfl ?_
  refine o_new s23 fun b4 H13 s24 => ?_
  refine o_stB (us' := [vi x7.2, (.slice none 0 0)]) 0 s24 rfl rfl rfl rfl rfl rfl rfl fun H14 s25 => ?_
  refine c_nil (c_sq (c_sr (o_mv h10 ?_)))
  obtain ⟨x8, q12, e1⟩ := oB e1
  obtain ⟨d7, rfl⟩ := (h13).val
  obtain ⟨Z12, V12, W6, g12, u6, c21, c22, -, c24, c23⟩ := Sat.call (l1 := [pts b2 (.rw 0 [(vS d7 x7.1.l)])]) (l2 := [pts b4 (.rw 0 [vi x7.2, (.slice none 0 0)]), pts b1 (.rw 0 [vi 0, vi 0, vi 0, (.slice none 0 0)]), pts b3 (.rw 0 [(vi (Pu.W (1 + x1.2))), (vi (Pu.W (1 + x2.2))), vi x3.2, (vS d5 s18.2)]), It.sl (Sh.ro Sh.A6) (vS d5 s18.2) s18.2]) (s25.pick [1, 0, 2, 3, 4] rfl)
  refine o_call (mc rfl (mc rfl m0)) (X.A8 nd.A8 (a0 := x7.1) c21 (h13.mono g12.z) q12) fun _ H15 i8 => ?_
  obtain ⟨w8, rfl, s26⟩ := i8
  have s27 := c23 _ _ s26
  obtain ⟨Z13, V13, g13, s28, h14⟩ := (s27.pull 1 rfl).frzR
  refine o_mv (v := (vi 0)) rfl ?_
  refine c_nil ?_
  refine c_gen (P := fun tm => tm 2 = (pV b1 0) ∧ tm 3 = (pV b2 0) ∧ tm 4 = (pV b3 0) ∧ tm 5 = (pV b4 0) ∧ tm 23 = (vi (Pu.W (1 + x4.2))) ∧ tm 24 = (vi x5) ∧ tm 32 = (vi x8.2) ∧ tm 33 = (vi 0) ∧ True) ⟨h9, h10, h11, rfl, h12, hti0, rfl, rfl, trivial⟩ ?_
  intro _ i9
  obtain ⟨h15, h16, h17, h18, h19, h20, h21, h22, -⟩ := i9
  obtain ⟨x10, q15, e1⟩ := oB e1
  obtain ⟨rfl, q17⟩ := ranO_some q15
  obtain ⟨y2, q18, e1⟩ := oB e1
  refine c_bk ?_
  refine l_forP (xs := (Pu.ran x8.2)) (fun (i10 : Nat) (s29 : ((List Int) × (List Ty.D1))) tm H => tm 33 = vi i10 ∧ ∃ (Z14 V14 : PH) (w9 : Value) (w10 : Value), Gw Z13 V13 Z14 V14 ∧ Sat Z14 V14 H [pts b1 (.rw 0 [vi 0, vi 0, vi 0, (.slice none 0 0)]), pts b2 (.rw 0 [w10]), pts b3 (.rw 0 [(vi (Pu.W (1 + x1.2))), (vi (Pu.W (1 + x2.2))), vi x3.2, (vS d5 s18.2)]), It.sl (Sh.ro Sh.A6) (vS d5 s18.2) s18.2, pts b4 (.rw 0 [vi x7.2, w9]), It.sl (Sh.ro Sh.D1) w9 s29.2] ∧ tm 2 = (pV b1 0) ∧ tm 3 = (pV b2 0) ∧ tm 4 = (pV b3 0) ∧ tm 5 = (pV b4 0) ∧ tm 23 = (vi (Pu.W (1 + x4.2))) ∧ tm 24 = (vi x5) ∧ tm 32 = (vi x8.2) ∧ RdS Sh.int Z14 w10 s29.1) (fun i10 x9 s29 s31 tm H17 q13 q14 j2 e2 k2 => ?_) (fun tm H16 jd => ?_) q18 ⟨h22, _, _, _, _, Gw.refl _ _, ((s28.push (sl_nil (s := (Sh.ro Sh.D1)))).pick [3, 1, 4, 5, 2, 0] rfl), h15, h16, h17, h18, h19, h20, h21, h14⟩
  ·obtain ⟨hti1, Z14, V14, w9, w10, g14, s30, h24, h25, h26, h27, h28, h29, h30, h23⟩ := j2
   unfold P.B9.b1 at e2
   have hti1 := iv hti1 (ran_x q13).symm
   refine c_sr (o_lss hti1 h30 (c_nil (c_sq ?_)))
   refine c_ift rfl (ran_lt q13) ?_
   refine c_sk (c_sq (c_bk (c_sr (o_mv h25 ?_))))
   obtain ⟨x11, q19, e2⟩ := oB e2
   obtain ⟨d8, rfl⟩ := (h23).val
   obtain ⟨Z15, V15, W7, g15, u7, c25, c26, -, c28, c27⟩ := Sat.call (l1 := [pts b2 (.rw 0 [(vS d8 s29.1)])]) (l2 := [pts b1 (.rw 0 [vi 0, vi 0, vi 0, (.slice none 0 0)]), pts b3 (.rw 0 [(vi (Pu.W (1 + x1.2))), (vi (Pu.W (1 + x2.2))), vi x3.2, (vS d5 s18.2)]), It.sl (Sh.ro Sh.A6) (vS d5 s18.2) s18.2, pts b4 (.rw 0 [vi x7.2, w9]), It.sl (Sh.ro Sh.D1) w9 s29.2]) (s30.pick [1, 0, 2, 3, 4, 5] rfl)
   refine o_call (mc rfl (mc rfl m0)) (X.A8 nd.A8 (a0 := (Ty.E9.mk s29.1)) c25 (h23.mono g15.z) q19) fun _ H18 i11 => ?_
   obtain ⟨w11, rfl, s32⟩ := i11
   have s33 := c27 _ _ s32
   obtain ⟨Z16, V16, g16, s34, h31⟩ := (s33.pull 1 rfl).frzR
   refine o_eql rfl rfl (c_nil ?_)
   obtain ⟨y3, e3, e2⟩ := oB e2
   refine c_jn (I := fun tm H => ∃ (Z17 V17 : PH) (w12 : Value) (w13 : Value), Gw Z16 V16 Z17 V17 ∧ Sat Z17 V17 H [pts b1 (.rw 0 [vi 0, vi 0, vi 0, (.slice none 0 0)]), pts b2 (.rw 0 [w13]), pts b3 (.rw 0 [(vi (Pu.W (1 + x1.2))), (vi (Pu.W (1 + x2.2))), vi x3.2, (vS d5 s18.2)]), It.sl (Sh.ro Sh.A6) (vS d5 s18.2) s18.2, pts b4 (.rw 0 [vi x7.2, w12]), It.sl (Sh.ro Sh.D1) w12 y3.2] ∧ tm 2 = (pV b1 0) ∧ tm 3 = (pV b2 0) ∧ tm 4 = (pV b3 0) ∧ tm 5 = (pV b4 0) ∧ tm 23 = (vi (Pu.W (1 + x4.2))) ∧ tm 24 = (vi x5) ∧ tm 32 = (vi x8.2) ∧ tm 33 = (vi x9) ∧ RdS Sh.int Z17 w13 y3.1) (fun k3 => ?_) ?_
   ·refine c_ifd rfl (fun q20 => ?_) (fun q20 => ?_)
    ·replace e3 := if_t q20 e3
     refine d_start s34 fun n1 H20 s36 q21 d9 => ?_
     refine d_fad h27 ?_
     obtain ⟨d10, rfl⟩ := ((s36.curS (s := (Sh.ro Sh.D1)) 5 rfl)).val
     refine d_ldB (q21 _ _ (ph_some.2 ⟨s36.curB 4 rfl, by simp⟩)) 4 s36 rfl rfl rfl rfl ?_
     refine d_mv h25 ?_
     refine d_fad h26 ?_
     refine d_ldB (q21 _ _ (ph_some.2 ⟨s36.curB 2 rfl, by simp⟩)) 2 s36 rfl rfl rfl rfl ?_
     obtain ⟨x12, q22, e3⟩ := oB e3
     obtain ⟨d11, rfl⟩ := (h31).val
     obtain ⟨Z18, V18, W8, g18, u8, c29, c30, -, c32, c31⟩ := Sat.call (l1 := [pts b2 (.rw 0 [(vS d11 x11.1.l)])]) (l2 := [pts b1 (.rw 0 [vi 0, vi 0, vi 0, (.slice none 0 0)]), pts b3 (.rw 0 [(vi (Pu.W (1 + x1.2))), (vi (Pu.W (1 + x2.2))), vi x3.2, (vS d5 s18.2)]), It.sl (Sh.ro Sh.A6) (vS d5 s18.2) s18.2, pts b4 (.rw 0 [vi x7.2, (vS d10 s29.2)]), It.sl (Sh.ro Sh.D1) (vS d10 s29.2) s29.2]) s36
     refine d_call (mc rfl (mc rfl m0)) (X.A8 nd.A8 (a0 := x11.1) c29 (h31.mono g18.z) q22) fun _ H21 i12 k4 => ?_
     have d12 := d9.keep k4
     obtain ⟨w14, rfl, s37⟩ := i12
     have s38 := c31 _ _ s37
     obtain ⟨Z19, V19, g19, s39, h41⟩ := (s38.pull 1 rfl).frzR
     refine d_bld (qs := [(0, 1, (.bool true)), (1, 1, (vi x12.2))]) rfl rfl ?_
     refine d_bsl (s := (Sh.ro Sh.D1)) (us := [(.bool true), vi x12.2]) (qs := [(0, 2, (.agg #[(.bool true), vi x12.2]))]) (xs := [(Ty.D1.mk true x12.2)]) (d12.get 7 rfl rfl) s39 (Sh.ro_lt _) rfl rfl rfl (Els.cons (c := [(.bool true), vi x12.2]) rfl Els.nil) rfl rfl fun w15 H22 s40 k5 => ?_
     have d13 := d12.next 7 rfl k5
     obtain ⟨Z20, V20, g20, s41, h42⟩ := s40.frzS 0 rfl
     replace h42 := h42.of_ro
     obtain ⟨x13, q23, e3⟩ := oB e3
     refine d_app 5 s41 rfl (Sh.ro_lt _) rfl rfl rfl rfl h42 s41.z (fun h => h) (by decide) q23 fun w16 H23 s42 k6 => ?_
     have d14 := d13.keep k6
     refine d_fad h27 ?_
     obtain ⟨d15, rfl⟩ := ((s42.curS (s := (Sh.ro Sh.D1)) 5 rfl)).val
     refine d_stB (us' := [vi x7.2, (vS d15 x13)]) 4 s42 rfl rfl rfl rfl rfl rfl rfl fun H24 s43 k7 => ?_
     have d16 := d14.keep k7
     refine d_nil (dc_mk rfl (ta8 (ta2 (tre (trl tr0)))) (ta4 (ta2 (tre (tl4 (trl tr0))))) (ta4 (tra (tre (tl4 (tl2 tr0))))) (ag_ldx (w := (vS d10 s29.2)) w_0 rfl (ldB_v 4 s36 rfl rfl rfl) (ldB_v 4 s36 rfl rfl rfl) (by simp [vsame, vsame1])) (ag_ldx (w := (vS d10 s29.2)) w_0 rfl (ldB_v 4 s36 rfl rfl rfl) (ldB_v 4 s39 rfl rfl rfl) (by simp [vsame, vsame1])) dc_nil) ?_
     obtain rfl := oJ e3
     exact k3 _ _ ⟨_, _, _, _, (g18.trans (g19.trans g20)), (s43.pick [1, 0, 2, 3, 4, 5] rfl), h24, h25, h26, h27, h28, h29, h30, hti1, (h41.mono g20.z)⟩
    replace e3 := if_f q20 e3
    refine d_start s34 fun n2 H25 s44 q24 d17 => ?_
    refine d_fad h27 ?_
    obtain ⟨d18, rfl⟩ := ((s44.curS (s := (Sh.ro Sh.D1)) 5 rfl)).val
    refine d_ldB (q24 _ _ (ph_some.2 ⟨s44.curB 4 rfl, by simp⟩)) 4 s44 rfl rfl rfl rfl ?_
    refine d_mv h25 ?_
    refine d_fad h26 ?_
    refine d_ldB (q24 _ _ (ph_some.2 ⟨s44.curB 2 rfl, by simp⟩)) 2 s44 rfl rfl rfl rfl ?_
    obtain ⟨x14, q25, e3⟩ := oB e3
    obtain ⟨d19, rfl⟩ := (h31).val
    obtain ⟨Z21, V21, W9, g21, u9, c33, c34, -, c36, c35⟩ := Sat.call (l1 := [pts b2 (.rw 0 [(vS d19 x11.1.l)])]) (l2 := [pts b1 (.rw 0 [vi 0, vi 0, vi 0, (.slice none 0 0)]), pts b3 (.rw 0 [(vi (Pu.W (1 + x1.2))), (vi (Pu.W (1 + x2.2))), vi x3.2, (vS d5 s18.2)]), It.sl (Sh.ro Sh.A6) (vS d5 s18.2) s18.2, pts b4 (.rw 0 [vi x7.2, (vS d18 s29.2)]), It.sl (Sh.ro Sh.D1) (vS d18 s29.2) s29.2]) s44
    refine d_call (mc rfl (mc rfl m0)) (X.A8 nd.A8 (a0 := x11.1) c33 (h31.mono g21.z) q25) fun _ H26 i13 k8 => ?_
    have d20 := d17.keep k8
    obtain ⟨w17, rfl, s45⟩ := i13
    have s46 := c35 _ _ s45
    obtain ⟨Z22, V22, g22, s47, h43⟩ := (s46.pull 1 rfl).frzR
    refine d_bld (qs := [(1, 1, (vi x14.2))]) rfl rfl ?_
    refine d_bsl (s := (Sh.ro Sh.D1)) (us := [(.bool false), vi x14.2]) (qs := [(0, 2, (.agg #[(.bool false), vi x14.2]))]) (xs := [(Ty.D1.mk false x14.2)]) (d20.get 7 rfl rfl) s47 (Sh.ro_lt _) rfl rfl rfl (Els.cons (c := [(.bool false), vi x14.2]) rfl Els.nil) rfl rfl fun w18 H27 s48 k9 => ?_
    have d21 := d20.next 7 rfl k9
    obtain ⟨Z23, V23, g23, s49, h44⟩ := s48.frzS 0 rfl
    replace h44 := h44.of_ro
    obtain ⟨x15, q26, e3⟩ := oB e3
    refine d_app 5 s49 rfl (Sh.ro_lt _) rfl rfl rfl rfl h44 s49.z (fun h => h) (by decide) q26 fun w19 H28 s50 k10 => ?_
    have d22 := d21.keep k10
    refine d_fad h27 ?_
    obtain ⟨d23, rfl⟩ := ((s50.curS (s := (Sh.ro Sh.D1)) 5 rfl)).val
    refine d_stB (us' := [vi x7.2, (vS d23 x15)]) 4 s50 rfl rfl rfl rfl rfl rfl rfl fun H29 s51 k11 => ?_
    have d24 := d22.keep k11
    refine d_nil (dc_mk rfl (ta8 (ta2 (tre (trl tr0)))) (ta4 (ta2 (tre (tl4 (trl tr0))))) (ta4 (tra (tre (tl4 (tl2 tr0))))) (ag_ldx (w := (vS d18 s29.2)) w_0 rfl (ldB_v 4 s44 rfl rfl rfl) (ldB_v 4 s44 rfl rfl rfl) (by simp [vsame, vsame1])) (ag_ldx (w := (vS d18 s29.2)) w_0 rfl (ldB_v 4 s44 rfl rfl rfl) (ldB_v 4 s47 rfl rfl rfl) (by simp [vsame, vsame1])) dc_nil) ?_
    obtain rfl := oJ e3
    exact k3 _ _ ⟨_, _, _, _, (g21.trans (g22.trans g23)), (s51.pick [1, 0, 2, 3, 4, 5] rfl), h24, h25, h26, h27, h28, h29, h30, hti1, (h43.mono g23.z)⟩
   intro _ H19 i14
   obtain ⟨Z17, V17, w12, w13, g17, s35, h33, h34, h35, h36, h37, h38, h39, h40, h32⟩ := i14
   refine c_end (c_r (o_add h40 rfl ?_))
   refine o_mv (v := (vi (Pu.W (x9 + 1)))) rfl ?_
   refine c_nil ?_
   obtain rfl := oJ e2
   exact k2 _ _ ⟨(iv rfl (w_sucR q13 q17)), _, _, _, _, (g14.trans (g15.trans (g16.trans g17))), s35, h33, h34, h35, h36, h37, h38, h39, h32⟩
  obtain ⟨hte1, Z24, V24, w20, w21, g24, s52, h46, h47, h48, h49, h50, h51, h52, h45⟩ := jd
  refine c_sr (o_lss hte1 h52 (c_nil (c_sq ?_)))
  refine c_iff rfl (ran_done _) ?_
  refine c_ex ?_
  refine e_c ?_
  refine e_c ?_
  refine e_h ?_
  refine c_sr (o_fad h48 (o_ldB 2 s52 rfl rfl rfl rfl ?_))
  obtain ⟨d25, rfl⟩ := ((s52.curS (s := (Sh.ro Sh.D1)) 5 rfl)).val
  refine o_ldB 4 s52 rfl h49 rfl rfl ?_
  obtain ⟨x16, q27, e1⟩ := oB e1
  obtain ⟨Z25, V25, W10, g25, u10, c37, c38, -, c40, c39⟩ := Sat.call (l1 := []) s52
  refine o_call (mc rfl (mc rfl m0)) (X.D2 nd.D2 (a1 := (Ty.A6.mk x7.2 y2.2)) c37 (c38 3 _ (Sh.ro Sh.A6) _ _ rfl) (c38 5 _ (Sh.ro Sh.D1) _ _ rfl) q27) fun _ H31 i15 => ?_
  obtain ⟨rfl, s53⟩ := i15
  have s54 := c39 _ _ s53
  refine o_not rfl (c_nil ?_)
  obtain ⟨y4, e4, e1⟩ := oB e1
  refine c_jn (I := fun tm H => ∃ (Z26 V26 : PH) (w22 : Value), Gw Z25 V25 Z26 V26 ∧ Sat Z26 V26 H [pts b1 (.rw 0 [vi 0, vi 0, vi 0, (.slice none 0 0)]), pts b2 (.rw 0 [w21]), pts b3 (.rw 0 [(vi (Pu.W (1 + x1.2))), (vi (Pu.W (1 + x2.2))), vi x3.2, w22]), It.sl (Sh.ro Sh.A6) w22 y4] ∧ tm 2 = (pV b1 0) ∧ tm 3 = (pV b2 0) ∧ tm 4 = (pV b3 0) ∧ tm 23 = (vi (Pu.W (1 + x4.2))) ∧ tm 24 = (vi x5)) (fun k12 => ?_) ?_
  ·refine c_if rfl (fun q28 => ?_) (fun q28 => ?_)
   ·replace e4 := if_t q28 e4
    refine c_r (o_fad h48 (o_ldB 2 s54 rfl rfl rfl rfl (o_ldB 4 s54 rfl h49 rfl rfl ?_)))
    obtain ⟨Z27, V27, g27, s56, h58⟩ := s54.frzS 5 rfl
    replace h58 := h58.of_ro
    refine o_bsl (s := (Sh.ro Sh.A6)) (us := [vi x7.2, (vS d25 y2.2)]) (qs := [(0, 2, (.agg #[vi x7.2, (vS d25 y2.2)]))]) (xs := [(Ty.A6.mk x7.2 y2.2)]) s56 (Sh.ro_lt _) rfl rfl rfl (Els.cons (c := [vi x7.2, (vS d25 y2.2)]) (Sh.G9 (x := (Ty.A6.mk x7.2 y2.2)) h58) Els.nil) rfl rfl fun w23 H33 s57 => ?_
    obtain ⟨Z28, V28, g28, s58, h59⟩ := s57.frzS 0 rfl
    replace h59 := h59.of_ro
    obtain ⟨x17, q29, e4⟩ := oB e4
    refine o_app 3 s58 rfl (Sh.ro_lt _) rfl rfl rfl rfl h59 s58.z (fun h => h) (by decide) q29 fun w24 H34 s59 => ?_
    refine o_fad h48 ?_
    obtain ⟨d26, rfl⟩ := ((s59.curS (s := (Sh.ro Sh.A6)) 3 rfl)).val
    refine o_stB (us' := [(vi (Pu.W (1 + x1.2))), (vi (Pu.W (1 + x2.2))), vi x3.2, (vS d26 x17)]) 2 s59 rfl rfl rfl rfl rfl rfl rfl fun H35 s60 => ?_
    refine c_nil ?_
    obtain rfl := oJ e4
    exact k12 _ _ ⟨_, _, _, (g27.trans g28), (s60.pick [0, 1, 2, 3] rfl), h46, h47, h48, h50, h51⟩
   replace e4 := ib_f q28 e4
   refine c_sk ?_
   obtain rfl := oJ e4
   exact k12 _ _ ⟨_, _, _, Gw.refl _ _, (s54.pick [0, 1, 2, 3] rfl), h46, h47, h48, h50, h51⟩
  intro _ H32 i16
  obtain ⟨Z26, V26, w22, g26, s55, h53, h54, h55, h56, h57⟩ := i16
  refine c_end (c_r (o_add h57 rfl ?_))
  refine o_mv (v := (vi (Pu.W (x5 + 1)))) rfl ?_
  refine c_nil ?_
  obtain rfl := oJ e1
  exact k1 _ _ ⟨(iv rfl (w_sucR q5 q9)), _, _, _, _, (g9.trans (g10.trans (g11.trans (g12.trans (g13.trans (g24.trans (g25.trans g26))))))), s55, h53, h54, h55, h56, (h45.mono (g25.trans g26).z)⟩
 obtain ⟨hte0, Z29, V29, w25, w26, g29, s61, h61, h62, h63, h64, h60⟩ := jd
 refine c_sr (o_lss hte0 h64 (c_nil (c_sq ?_)))
 refine c_iff rfl (ran_done _) ?_
 refine c_ex ?_
 refine e_c ?_
 refine e_c ?_
 refine e_h ?_
 refine c_sr ?_
 obtain ⟨d27, rfl⟩ := ((s61.curS (s := (Sh.ro Sh.A6)) 3 rfl)).val
 refine o_ldB 2 s61 rfl h63 rfl rfl ?_
 refine o_stB (us' := [(vi (Pu.W (1 + x1.2))), (vi (Pu.W (1 + x2.2))), vi x3.2, (vS d27 y1.2)]) 0 s61 rfl h61 rfl rfl rfl rfl rfl fun H37 s62 => ?_
 refine c_nil (c_rt ?_)
 obtain rfl := oJ e
 exact ⟨.inr rfl, _, (arB 0 s62 rfl h61 rfl rfl), _, rfl, ((s62.pick [3] rfl).weak (g1.trans (g2.trans (g3.trans (g4.trans (g5.trans (g6.trans (g7.trans (g8.trans g29)))))))) hs.zv)⟩
structure Nd.F3 (T : FuncId → Option AFunc) : Prop where
 own : Has T I.F3 F.F3
 E3 : Nd.E3 T
set_option maxHeartbeats 1000000 in
theorem X.F3 {T : FuncId → Option AFunc} (nd : Nd.F3 T) {Z V : PH} {H : Hp} {a0 : Int} {a1 : Int} (hs : Sat Z V H []) {r : Int} (e : P.F3 a0 a1 = some r) :
 G T I.F3 [vi a0, vi a1] H (fun rv H' => rv = (vi r) ∧ Sat Z V H' []) := by
 unfold P.F3 at e
 refine f_mk nd.own ?_
 refine c_sr ?_
 refine o_mv (v := (vi 0)) rfl ?_
 refine c_nil (c_sr ?_)
 refine o_mv (v := (vi a0)) rfl ?_
 refine o_mv (v := (vi a1)) rfl ?_
 obtain ⟨x1, q1, e⟩ := oB e
 obtain ⟨Z1, V1, W1, g1, u1, c1, c2, -, c4, c3⟩ := Sat.call (l1 := []) hs
 refine o_call (mc rfl (mc rfl m0)) (X.E3 nd.E3 c1 q1) fun _ H1 i1 => ?_
 obtain ⟨rfl, s1⟩ := i1
 have s2 := c3 _ _ s1
 refine o_mv (v := (vi x1)) rfl ?_
 refine c_nil (c_rt ?_)
 obtain rfl := oJ e
 exact ⟨.inr rfl, _, (ar1 rfl), rfl, (s2.weak g1 hs.zv)⟩
structure Nd.F7 (T : FuncId → Option AFunc) : Prop where
 own : Has T I.F7 F.F7
set_option maxHeartbeats 1000000 in
theorem X.F7 {T : FuncId → Option AFunc} (nd : Nd.F7 T) {Z V : PH} {H : Hp} {a0 : Int} (hs : Sat Z V H []) {r : Bool} (e : P.F7 a0 = some r) :
 G T I.F7 [vi a0] H (fun rv H' => rv = (.bool r) ∧ Sat Z V H' []) := by
 unfold P.F7 at e
 refine f_mk nd.own ?_
 refine c_sr ?_
 refine o_mv (v := (.bool false)) rfl ?_
 refine c_nil (c_sr ?_)
 refine o_mv (v := (vi a0)) rfl ?_
 refine o_mv (v := (vi a0)) rfl ?_
 refine o_neq rfl rfl ?_
 refine o_mv (v := (.bool (decide (a0 ≠ a0)))) rfl ?_
 refine c_nil (c_rt ?_)
 obtain rfl := oJ e
 exact ⟨.inr rfl, _, (ar1 rfl), rfl, hs⟩
structure Nd.C2 (T : FuncId → Option AFunc) : Prop where
 own : Has T I.C2 F.C2
 F7 : Nd.F7 T
set_option maxHeartbeats 1000000 in
theorem X.C2 {T : FuncId → Option AFunc} (nd : Nd.C2 T) {Z V : PH} {H : Hp} {a0 : Int} {a1 : Int} (hs : Sat Z V H []) {r : Int} (e : P.C2 a0 a1 = some r) :
 G T I.C2 [vi a0, vi a1] H (fun rv H' => rv = (vi r) ∧ Sat Z V H' []) := by
 unfold P.C2 at e
 refine f_mk nd.own ?_
 refine c_sr ?_
 refine o_mv (v := (vi 0)) rfl ?_
 refine c_nil (c_sr ?_)
 refine o_mv (v := (vi a0)) rfl ?_
 obtain ⟨x1, q1, e⟩ := oB e
 obtain ⟨Z1, V1, W1, g1, u1, c1, c2, -, c4, c3⟩ := Sat.call (l1 := []) hs
 refine o_call (mc rfl m0) (X.F7 nd.F7 c1 q1) fun _ H1 i1 => ?_
 obtain ⟨rfl, s1⟩ := i1
 have s2 := c3 _ _ s1
 refine o_mv (v := (.bool x1)) rfl ?_
 refine c_nil (c_sr ?_)
 refine o_mv (v := (vi a1)) rfl ?_
 obtain ⟨x2, q2, e⟩ := oB e
 obtain ⟨Z2, V2, W2, g2, u2, c5, c6, -, c8, c7⟩ := Sat.call (l1 := []) s2
 refine o_call (mc rfl m0) (X.F7 nd.F7 c5 q2) fun _ H2 i2 => ?_
 obtain ⟨rfl, s3⟩ := i2
 have s4 := c7 _ _ s3
 refine o_mv (v := (.bool x2)) rfl ?_
 refine c_nil (c_sq (c_sr ?_))
 refine o_mv (v := (.bool x1)) rfl ?_
 refine c_nil ?_
 refine c_if rfl (fun q3 => ?_) (fun q3 => ?_)
 ·replace e := if_t q3 e
  refine c_sq (c_sr ?_)
  refine o_mv (v := (.bool x2)) rfl ?_
  refine c_nil ?_
  refine c_if rfl (fun q4 => ?_) (fun q4 => ?_)
  ·replace e := if_t q4 e
   refine c_sr ?_
   refine o_mv (v := (vi 0)) rfl ?_
   refine c_nil ?_
   refine c_gen (P := fun tm => tm 4 = (vi 0) ∧ True) ⟨rfl, trivial⟩ ?_
   intro _ i3
   obtain ⟨h1, -⟩ := i3
   refine c_rt ?_
   obtain rfl := oJ e
   exact ⟨.inr rfl, _, (ar1 h1), rfl, (s4.weak (g1.trans g2) hs.zv)⟩
  replace e := ib_f q4 e
  refine c_sk (c_sr ?_)
  refine o_mv (v := (vi (-1))) rfl ?_
  refine c_nil ?_
  refine c_gen (P := fun tm => tm 4 = (vi (-1)) ∧ True) ⟨rfl, trivial⟩ ?_
  intro _ i4
  obtain ⟨h2, -⟩ := i4
  refine c_rt ?_
  obtain rfl := oJ e
  exact ⟨.inr rfl, _, (ar1 h2), rfl, (s4.weak (g1.trans g2) hs.zv)⟩
 replace e := ib_f q3 e
 refine c_sk (c_sq (c_sr ?_))
 refine o_mv (v := (.bool x2)) rfl ?_
 refine c_nil ?_
 refine c_if rfl (fun q5 => ?_) (fun q5 => ?_)
 ·replace e := if_t q5 e
  refine c_sr ?_
  refine o_mv (v := (vi 1)) rfl ?_
  refine c_nil ?_
  refine c_gen (P := fun tm => tm 4 = (vi 1) ∧ True) ⟨rfl, trivial⟩ ?_
  intro _ i5
  obtain ⟨h3, -⟩ := i5
  refine c_rt ?_
  obtain rfl := oJ e
  exact ⟨.inr rfl, _, (ar1 h3), rfl, (s4.weak (g1.trans g2) hs.zv)⟩
 replace e := ib_f q5 e
 refine c_sk (c_sq (c_sr ?_))
 refine o_mv (v := (vi a0)) rfl ?_
 refine o_mv (v := (vi a1)) rfl ?_
 refine o_lss rfl rfl (c_nil ?_)
 refine c_gen (P := fun tm => tm 0 = (vi a0) ∧ tm 1 = (vi a1) ∧ tm 16 = (.bool (decide (a0 < a1))) ∧ True) ⟨rfl, rfl, rfl, trivial⟩ ?_
 intro _ i6
 obtain ⟨h4, h5, h6, -⟩ := i6
 refine c_ifd h6 (fun q6 => ?_) (fun q6 => ?_)
 ·replace e := if_t q6 e
  refine c_sr ?_
  refine o_mv (v := (vi (-1))) rfl ?_
  refine c_nil (c_rt ?_)
  obtain rfl := oJ e
  exact ⟨.inr rfl, _, (ar1 rfl), rfl, (s4.weak (g1.trans g2) hs.zv)⟩
 replace e := if_f q6 e
 refine c_sk (c_sq (c_sr (o_mv h4 (o_mv h5 ?_))))
 refine o_gtr rfl rfl (c_nil ?_)
 refine c_ifd rfl (fun q7 => ?_) (fun q7 => ?_)
 ·replace e := if_t q7 e
  refine c_sr ?_
  refine o_mv (v := (vi 1)) rfl ?_
  refine c_nil (c_rt ?_)
  obtain rfl := oJ e
  exact ⟨.inr rfl, _, (ar1 rfl), rfl, (s4.weak (g1.trans g2) hs.zv)⟩
 replace e := if_f q7 e
 refine c_sk (c_sr ?_)
 refine o_mv (v := (vi 0)) rfl ?_
 refine c_nil (c_rt ?_)
 obtain rfl := oJ e
 exact ⟨.inr rfl, _, (ar1 rfl), rfl, (s4.weak (g1.trans g2) hs.zv)⟩
structure Nd.F6 (T : FuncId → Option AFunc) : Prop where
 own : Has T I.F6 F.F6
 C2 : Nd.C2 T
set_option maxHeartbeats 1000000 in
theorem X.F6 {T : FuncId → Option AFunc} (nd : Nd.F6 T) {Z V : PH} {H : Hp} {a0 : Ty.D1} {a1 : Ty.D1} (hs : Sat Z V H []) {r : Int} (e : P.F6 a0 a1 = some r) :
 G T I.F6 [(.agg #[(.bool a0.Term), vi a0.N]), (.agg #[(.bool a1.Term), vi a1.N])] H (fun rv H' => rv = (vi r) ∧ Sat Z V H' []) := by
 unfold P.F6 at e
 refine f_mk nd.own ?_
 refine c_sr ?_
 refine o_box hs rfl rfl fun b1 H1 s1 => ?_
 refine o_box s1 rfl rfl fun b2 H2 s2 => ?_
 refine o_mv (v := (vi 0)) rfl ?_
 refine c_nil (c_sq (c_bk (c_sr (o_fad rfl ?_))))
 refine o_ldB 1 s2 rfl rfl rfl rfl ?_
 refine o_mv (v := (.bool a0.Term)) rfl ?_
 refine o_jn 4 (I := fun tm H => tm 12 = .bool (a0.Term && (!a1.Term)) ∧ (∃ (Z1 V1 : PH), Gw Z V Z1 V1 ∧ Sat Z1 V1 H [pts b1 (.rw 0 [(.bool a0.Term), vi a0.N]), pts b2 (.rw 0 [(.bool a1.Term), vi a1.N])] ∧ tm 2 = (pV b1 0) ∧ tm 3 = (pV b2 0))) (fun k1 => ?_) ?_
 ·rcases Bool.eq_false_or_eq_true a0.Term with q1 | q1
  ·refine o_gy rfl q1 (o_fad rfl (o_gy rfl q1 (o_ldB 0 s2 rfl rfl rfl rfl (o_gy rfl q1 ?_))))
   refine o_not rfl ?_
   refine o_pickt (a := (.bool (!a1.Term))) rfl q1 rfl ?_
   exact k1 _ _ ⟨gf rfl (by first | (rw [q1]; first | done | rfl) | simp [q1]), _, _, Gw.refl _ _, (s2.pick [1, 0] rfl), rfl, rfl⟩
  refine o_gn rfl q1 (o_gn rfl q1 (o_gn rfl q1 ?_))
  refine o_pickf (b := (.bool false)) rfl q1 rfl ?_
  exact k1 _ _ ⟨gf rfl (by first | (rw [q1]; first | done | rfl) | simp [q1]), _, _, Gw.refl _ _, (s2.pick [1, 0] rfl), rfl, rfl⟩
 intro _ H3 i1
 obtain ⟨h3, Z1, V1, g1, s3, h1, h2⟩ := i1
 refine o_mv h3 (c_nil ?_)
 refine c_if rfl (fun q2 => ?_) (fun q2 => ?_)
 ·replace e := if_t q2 e
  refine c_sr ?_
  refine o_mv (v := (vi (-1))) rfl ?_
  refine c_nil (c_rt ?_)
  obtain rfl := oJ e
  exact ⟨.inr rfl, _, (ar1 rfl), rfl, ((s3.pick [] rfl).weak g1 hs.zv)⟩
 replace e := ib_f q2 e
 refine c_sr (o_fad h1 (o_ldB 0 s3 rfl rfl rfl rfl (o_not rfl ?_)))
 refine o_mv (v := (.bool (!a0.Term))) rfl ?_
 refine o_jn 3 (I := fun tm H => tm 20 = .bool ((!a0.Term) && a1.Term) ∧ (∃ (Z2 V2 : PH), Gw Z1 V1 Z2 V2 ∧ Sat Z2 V2 H [pts b1 (.rw 0 [(.bool a0.Term), vi a0.N]), pts b2 (.rw 0 [(.bool a1.Term), vi a1.N])] ∧ tm 2 = (pV b1 0) ∧ tm 3 = (pV b2 0))) (fun k2 => ?_) ?_
 ·rcases Bool.eq_false_or_eq_true (!a0.Term) with q3 | q3
  ·refine o_gy rfl q3 (o_fad h2 (o_gy rfl q3 (o_ldB 1 s3 rfl rfl rfl rfl ?_)))
   refine o_pickt (a := (.bool a1.Term)) rfl q3 rfl ?_
   exact k2 _ _ ⟨gf rfl (by first | (rw [q3]; first | done | rfl) | simp [q3]), _, _, Gw.refl _ _, s3, h1, h2⟩
  refine o_gn rfl q3 (o_gn rfl q3 ?_)
  refine o_pickf (b := (.bool false)) rfl q3 rfl ?_
  exact k2 _ _ ⟨gf rfl (by first | (rw [q3]; first | done | rfl) | simp [q3]), _, _, Gw.refl _ _, s3, h1, h2⟩
 intro _ H4 i2
 obtain ⟨h6, Z2, V2, g2, s4, h4, h5⟩ := i2
 refine o_mv h6 (c_nil ?_)
 refine c_if rfl (fun q4 => ?_) (fun q4 => ?_)
 ·replace e := if_t q4 e
  refine c_sr ?_
  refine o_mv (v := (vi 1)) rfl ?_
  refine c_nil (c_rt ?_)
  obtain rfl := oJ e
  exact ⟨.inr rfl, _, (ar1 rfl), rfl, ((s4.pick [] rfl).weak (g1.trans g2) hs.zv)⟩
 replace e := ib_f q4 e
 refine c_sk (c_end (c_sr (o_fad h4 (o_ldB 0 s4 rfl rfl rfl rfl ?_))))
 refine o_fad h5 (o_ldB 1 s4 rfl rfl rfl rfl ?_)
 obtain ⟨x1, q5, e⟩ := oB e
 obtain ⟨Z3, V3, W1, g3, u1, c1, c2, -, c4, c3⟩ := Sat.call (l1 := []) s4
 refine o_call (mc rfl (mc rfl m0)) (X.C2 nd.C2 c1 q5) fun _ H5 i3 => ?_
 obtain ⟨rfl, s5⟩ := i3
 have s6 := c3 _ _ s5
 refine o_mv (v := (vi x1)) rfl ?_
 refine c_nil (c_rt ?_)
 obtain rfl := oJ e
 exact ⟨.inr rfl, _, (ar1 rfl), rfl, ((s6.pick [] rfl).weak (g1.trans (g2.trans g3)) hs.zv)⟩
structure Nd.C1 (T : FuncId → Option AFunc) : Prop where
 own : Has T I.A3 F.A3
 F6 : Nd.F6 T
set_option maxHeartbeats 1000000 in
theorem X.C1 {T : FuncId → Option AFunc} (nd : Nd.C1 T) {Z V : PH} {H : Hp} {v1 : Value} {v2 : Value} {a0 : (List Ty.D1)} {a1 : (List Ty.D1)} (hs : Sat Z V H []) (hp1 : RdS Sh.D1 V v1 a0) (hp2 : RdS Sh.D1 V v2 a1) {r : Int} (e : P.C1 a0 a1 = some r) :
 G T I.A3 [v1, v2, (.func (.func I.F6) #[] #[])] H (fun rv H' => rv = (vi r) ∧ Sat Z V H' []) := by
 unfold P.C1 at e
 refine f_mk nd.own ?_
 refine c_sr ?_
 refine o_mv (v := (vi 0)) rfl ?_
 refine c_nil (c_sq (c_sr ?_))
 refine o_mv (v := v1) rfl ?_
 refine o_len rfl (hp1).len ?_
 refine o_mv (v := (vi 0)) rfl ?_
 refine c_nil ?_
 obtain ⟨y1, q3, e⟩ := oB e
 refine c_jn (I := fun tm H => ∃ (s3 : Unit), y1 = .out s3 ∧ (∃ (Z2 V2 : PH), Gw Z V Z2 V2 ∧ Sat Z2 V2 H [] ∧ tm 0 = v1 ∧ tm 1 = v2 ∧ tm 2 = (.func (.func I.F6) #[] #[]) ∧ tm 11 = v1 ∧ tm 12 = (vN a0))) (fun k4 => ?_) ?_
 ·refine c_bk ?_
  refine l_forL (xs := a0) (fun (i1 : Nat) (s1 : Unit) tm H => tm 13 = vi i1 ∧ ∃ (Z1 V1 : PH), Gw Z V Z1 V1 ∧ Sat Z1 V1 H [] ∧ tm 0 = v1 ∧ tm 1 = v2 ∧ tm 2 = (.func (.func I.F6) #[] #[]) ∧ tm 11 = v1 ∧ tm 12 = (vN a0)) (fun i1 x1 s1 y2 tm H2 q1 q2 j1 e1 k1 k2 k3 => ?_) (fun s1 tm H1 jf jd => ?_) q3 ⟨rfl, _, _, Gw.refl _ _, hs, rfl, rfl, rfl, rfl, rfl⟩
  ·obtain ⟨hti0, Z1, V1, g1, s2, h1, h2, h3, h4, h5⟩ := j1
   unfold P.C1.b0 at e1
   refine c_sr (o_lss hti0 h5 (c_nil (c_sq ?_)))
   refine c_ift rfl (Int.ofNat_lt.2 q2) ?_
   refine c_sk (c_sq (c_bk (c_sr (o_mv hti0 ?_))))
   refine o_idx (v := v1) h4 hti0 (hp1.mono g1.v) rfl (Pu.ix_nat.trans q1) fun p1 q4 => ?_
   refine o_lda rfl (hp1.mono g1.v) s2.v rfl q4 (Pu.ix_nat.trans q1) fun c1 h11 => ?_
   obtain rfl := h11
   refine o_new s2 fun b1 H4 s5 => ?_
   refine o_mv (v := (vJ i1)) rfl ?_
   refine o_stB (us' := [(.bool x1.Term), vi x1.N]) 0 s5 rfl rfl rfl rfl rfl rfl rfl fun H5 s6 => ?_
   refine c_nil (c_sq (c_sr ?_))
   refine o_mv (v := (vJ i1)) rfl ?_
   refine o_mv h2 (o_len rfl ((hp2.mono g1.v)).len (o_geq rfl rfl (c_nil ?_)))
   refine c_gen (P := fun tm => tm 0 = v1 ∧ tm 1 = v2 ∧ tm 2 = (.func (.func I.F6) #[] #[]) ∧ tm 7 = (vJ i1) ∧ tm 8 = (pV b1 0) ∧ tm 11 = v1 ∧ tm 12 = (vN a0) ∧ tm 13 = (vJ i1) ∧ tm 21 = (.bool (decide ((a1.length : Int) ≤ (i1 : Int)))) ∧ True) ⟨h1, h2, h3, rfl, rfl, h4, h5, hti0, rfl, trivial⟩ ?_
   intro _ i2
   obtain ⟨h12, h13, h14, h15, h16, h17, h18, h19, h20, -⟩ := i2
   refine c_ifd h20 (fun q5 => ?_) (fun q5 => ?_)
   ·replace e1 := if_t q5 e1
    refine c_sr ?_
    refine o_mv (v := (vi 1)) rfl ?_
    refine c_nil (c_rt ?_)
    have e2 := fin_r (k3 _ (sJ e1)) e
    obtain rfl := oJ e2
    exact ⟨.inr rfl, _, (ar1 rfl), rfl, ((s6.pick [] rfl).weak g1 hs.zv)⟩
   replace e1 := if_f q5 e1
   refine c_sk (c_sr (o_mv h13 (o_mv h15 ?_)))
   obtain ⟨x2, q6, e1⟩ := oB e1
   refine o_idx (v := v2) rfl rfl (hp2.mono g1.v) rfl q6 fun p2 q7 => ?_
   refine o_lda rfl (hp2.mono g1.v) s6.v rfl q7 q6 fun c2 h21 => ?_
   obtain rfl := h21
   refine o_new s6 fun b2 H6 s7 => ?_
   refine o_stB (us' := [(.bool x2.Term), vi x2.N]) 0 s7 rfl rfl rfl rfl rfl rfl rfl fun H7 s8 => ?_
   refine c_nil (c_sr (o_mv h14 (o_ldB 1 s8 rfl h16 rfl rfl (o_ldB 0 s8 rfl rfl rfl rfl ?_))))
   obtain ⟨x3, q8, e1⟩ := oB e1
   obtain ⟨Z3, V3, W1, g3, u1, c3, c4, -, c6, c5⟩ := Sat.call (l1 := []) s8
   refine o_callv rfl (mc rfl (mc rfl m0)) (X.F6 nd.F6 c3 q8) fun _ H8 i3 => ?_
   obtain ⟨rfl, s9⟩ := i3
   have s10 := c5 _ _ s9
   refine o_mv (v := (vi x3)) rfl ?_
   refine c_nil ?_
   refine c_gen (P := fun tm => tm 0 = v1 ∧ tm 1 = v2 ∧ tm 2 = (.func (.func I.F6) #[] #[]) ∧ tm 10 = (vi x3) ∧ tm 11 = v1 ∧ tm 12 = (vN a0) ∧ tm 13 = (vJ i1) ∧ True) ⟨h12, h13, h14, rfl, h17, h18, h19, trivial⟩ ?_
   intro _ i4
   obtain ⟨h22, h23, h24, h25, h26, h27, h28, -⟩ := i4
   refine c_sr (o_mv h25 (o_neq rfl rfl (c_nil ?_)))
   refine c_ifd rfl (fun q9 => ?_) (fun q9 => ?_)
   ·replace e1 := if_t q9 e1
    refine c_sr (o_mv h25 ?_)
    refine o_mv (v := (vi x3)) rfl ?_
    refine c_nil (c_rt ?_)
    have e3 := fin_r (k3 _ (sJ e1)) e
    obtain rfl := oJ e3
    exact ⟨.inr rfl, _, (ar1 rfl), rfl, ((s10.pick [] rfl).weak (g1.trans g3) hs.zv)⟩
   replace e1 := if_f q9 e1
   refine c_sk (c_end (c_r (o_add h28 rfl ?_)))
   refine o_mv (v := (vi (Pu.W ((i1 : Int) + 1)))) rfl ?_
   refine c_nil ?_
   exact k1 _ _ _ (sJ e1) ⟨(iv rfl (w_suc q2 (hp1).bd)), _, _, (g1.trans g3), (s10.pick [] rfl), h22, h23, h24, h26, h27⟩
  ·obtain ⟨hte0, Z4, V4, g4, s11, h29, h30, h31, h32, h33⟩ := jd
   refine c_sr (o_lss hte0 h33 (c_nil (c_sq ?_)))
   refine c_iff rfl (Int.lt_irrefl _) ?_
   refine c_ex ?_
   refine e_c ?_
   refine e_c ?_
   refine e_h ?_
   exact k4 _ _ ⟨_, jf, _, _, g4, s11, h29, h30, h31, h32, h33⟩
 intro _ H3 i5
 obtain ⟨s3, f1, Z2, V2, g2, s4, h6, h7, h8, h9, h10⟩ := i5
 replace e := fin_o f1 e
 refine c_sq (c_sr (o_mv h6 (o_len rfl ((hp1.mono g2.v)).len (o_mv h7 ?_))))
 refine o_len rfl ((hp2.mono g2.v)).len (o_lss rfl rfl (c_nil ?_))
 refine c_ifd rfl (fun q10 => ?_) (fun q10 => ?_)
 ·replace e := if_t q10 e
  refine c_sr ?_
  refine o_mv (v := (vi (-1))) rfl ?_
  refine c_nil (c_rt ?_)
  obtain rfl := oJ e
  exact ⟨.inr rfl, _, (ar1 rfl), rfl, (s4.weak g2 hs.zv)⟩
 replace e := if_f q10 e
 refine c_sk (c_sr ?_)
 refine o_mv (v := (vi 0)) rfl ?_
 refine c_nil (c_rt ?_)
 obtain rfl := oJ e
 exact ⟨.inr rfl, _, (ar1 rfl), rfl, (s4.weak g2 hs.zv)⟩
structure Nd.F5 (T : FuncId → Option AFunc) : Prop where
 own : Has T I.F5 F.F5
 C2 : Nd.C2 T
 C1 : Nd.C1 T
set_option maxHeartbeats 1000000 in
theorem X.F5 {T : FuncId → Option AFunc} (nd : Nd.F5 T) {Z V : PH} {H : Hp} {v1 : Value} {v2 : Value} {a0 : Ty.A6} {a1 : Ty.A6} (hs : Sat Z V H []) (hp1 : RdS Sh.D1 V v1 a0.Right) (hp2 : RdS Sh.D1 V v2 a1.Right) {r : Int} (e : P.F5 a0 a1 = some r) :
 G T I.F5 [(.agg #[vi a0.Left, v1]), (.agg #[vi a1.Left, v2])] H (fun rv H' => rv = (vi r) ∧ Sat Z V H' []) := by
 unfold P.F5 at e
 refine f_mk nd.own ?_
 refine c_sr ?_
 obtain ⟨d1, rfl⟩ := (hp1).val
 refine o_box hs rfl rfl fun b1 H1 s1 => ?_
 obtain ⟨d2, rfl⟩ := (hp2).val
 refine o_box s1 rfl rfl fun b2 H2 s2 => ?_
 refine o_mv (v := (vi 0)) rfl ?_
 refine c_nil (c_sq (c_sr (o_fad rfl (o_ldB 1 s2 rfl rfl rfl rfl ?_))))
 refine o_fad rfl (o_ldB 0 s2 rfl rfl rfl rfl ?_)
 obtain ⟨x1, q1, e⟩ := oB e
 obtain ⟨Z1, V1, W1, g1, u1, c1, c2, -, c4, c3⟩ := Sat.call (l1 := []) s2
 refine o_call (mc rfl (mc rfl m0)) (X.C2 nd.C2 c1 q1) fun _ H3 i1 => ?_
 obtain ⟨rfl, s3⟩ := i1
 have s4 := c3 _ _ s3
 refine o_mv (v := (vi x1)) rfl ?_
 refine c_nil (c_sr ?_)
 refine o_mv (v := (vi x1)) rfl ?_
 refine o_neq rfl rfl (c_nil ?_)
 refine c_gen (P := fun tm => tm 2 = (pV b1 0) ∧ tm 3 = (pV b2 0) ∧ tm 5 = (vi x1) ∧ tm 12 = (.bool (decide (x1 ≠ 0))) ∧ True) ⟨rfl, rfl, rfl, rfl, trivial⟩ ?_
 intro _ i2
 obtain ⟨h1, h2, h3, h4, -⟩ := i2
 refine c_ifd h4 (fun q2 => ?_) (fun q2 => ?_)
 ·replace e := if_t q2 e
  refine c_sr (o_mv h3 ?_)
  refine o_mv (v := (vi x1)) rfl ?_
  refine c_nil (c_rt ?_)
  obtain rfl := oJ e
  exact ⟨.inr rfl, _, (ar1 rfl), rfl, ((s4.pick [] rfl).weak g1 hs.zv)⟩
 replace e := if_f q2 e
 refine c_sk (c_sr (o_fad h1 (o_ldB 1 s4 rfl rfl rfl rfl (o_fad h2 ?_))))
 refine o_ldB 0 s4 rfl rfl rfl rfl ?_
 obtain ⟨x2, q3, e⟩ := oB e
 obtain ⟨Z2, V2, W2, g2, u2, c5, c6, -, c8, c7⟩ := Sat.call (l1 := []) s4
 refine o_call (mc rfl (mc rfl (mc rfl m0))) (X.C1 nd.C1 c5 (hp1.mono ((g1.trans g2).v.trans u2)) (hp2.mono ((g1.trans g2).v.trans u2)) q3) fun _ H4 i3 => ?_
 obtain ⟨rfl, s5⟩ := i3
 have s6 := c7 _ _ s5
 refine o_mv (v := (vi x2)) rfl ?_
 refine c_nil (c_rt ?_)
 obtain rfl := oJ e
 exact ⟨.inr rfl, _, (ar1 rfl), rfl, ((s6.pick [] rfl).weak (g1.trans g2) hs.zv)⟩
structure Nd.C4 (T : FuncId → Option AFunc) : Prop where
 own : Has T I.C4 F.C4
 F5 : Nd.F5 T
set_option maxHeartbeats 1000000 in
theorem X.C4 {T : FuncId → Option AFunc} (nd : Nd.C4 T) {Z V : PH} {H : Hp} {v1 : Value} {a0 : Ty.B2} (hs : Sat Z V H []) (hp1 : RdS Sh.A6 V v1 a0.Rules) {r : Int} (e : P.C4 a0 = some r) :
 G T I.C4 [(.agg #[vi a0.Terms, vi a0.Nons, vi a0.Start, v1])] H (fun rv H' => rv = (vi r) ∧ Sat Z V H' []) := by
 unfold P.C4 at e
 refine f_mk nd.own ?_
 refine c_sr ?_
 obtain ⟨d1, rfl⟩ := (hp1).val
 refine o_box hs rfl rfl fun b1 H1 s1 => ?_
 refine o_mv (v := (vi 0)) rfl ?_
 refine c_nil (c_sq (c_sr (o_fad rfl (o_ldB 0 s1 rfl rfl rfl rfl ?_))))
 refine o_lss rfl rfl ?_
 refine o_mv (v := (.bool (decide (a0.Terms < 1)))) rfl ?_
 refine o_jn 4 (I := fun tm H => tm 16 = .bool ((decide (a0.Terms < 1)) || (decide (8 < a0.Terms))) ∧ (∃ (Z1 V1 : PH), Gw Z V Z1 V1 ∧ Sat Z1 V1 H [pts b1 (.rw 0 [vi a0.Terms, vi a0.Nons, vi a0.Start, (vS d1 a0.Rules)])] ∧ tm 1 = (pV b1 0))) (fun k1 => ?_) ?_
 ·rcases Bool.eq_false_or_eq_true (decide (a0.Terms < 1)) with q1 | q1
  ·refine o_gn rfl q1 (o_gn rfl q1 (o_gn rfl q1 ?_))
   refine o_pickt (a := (.bool true)) rfl q1 rfl ?_
   exact k1 _ _ ⟨gf rfl (by first | (rw [q1]; first | done | rfl) | simp [q1]), _, _, Gw.refl _ _, s1, rfl⟩
  refine o_gy rfl q1 (o_fad rfl (o_gy rfl q1 (o_ldB 0 s1 rfl rfl rfl rfl (o_gy rfl q1 ?_))))
  refine o_gtr rfl rfl ?_
  refine o_pickf (b := (.bool (decide (8 < a0.Terms)))) rfl q1 rfl ?_
  exact k1 _ _ ⟨gf rfl (by first | (rw [q1]; first | done | rfl) | simp [q1]), _, _, Gw.refl _ _, s1, rfl⟩
 intro _ H2 i1
 obtain ⟨h2, Z1, V1, g1, s2, h1⟩ := i1
 refine o_mv h2 ?_
 refine o_jn 4 (I := fun tm H => tm 21 = .bool (((decide (a0.Terms < 1)) || (decide (8 < a0.Terms))) || (decide (a0.Nons < 1))) ∧ (∃ (Z2 V2 : PH), Gw Z1 V1 Z2 V2 ∧ Sat Z2 V2 H [pts b1 (.rw 0 [vi a0.Terms, vi a0.Nons, vi a0.Start, (vS d1 a0.Rules)])] ∧ tm 1 = (pV b1 0))) (fun k2 => ?_) ?_
 ·rcases Bool.eq_false_or_eq_true ((decide (a0.Terms < 1)) || (decide (8 < a0.Terms))) with q2 | q2
  ·refine o_gn rfl q2 (o_gn rfl q2 (o_gn rfl q2 ?_))
   refine o_pickt (a := (.bool true)) rfl q2 rfl ?_
   exact k2 _ _ ⟨gf rfl (by first | (rw [q2]; first | done | rfl) | simp [q2]), _, _, Gw.refl _ _, s2, h1⟩
  refine o_gy rfl q2 (o_fad h1 (o_gy rfl q2 (o_ldB 0 s2 rfl rfl rfl rfl (o_gy rfl q2 ?_))))
  refine o_lss rfl rfl ?_
  refine o_pickf (b := (.bool (decide (a0.Nons < 1)))) rfl q2 rfl ?_
  exact k2 _ _ ⟨gf rfl (by first | (rw [q2]; first | done | rfl) | simp [q2]), _, _, Gw.refl _ _, s2, h1⟩
 intro _ H3 i2
 obtain ⟨h4, Z2, V2, g2, s3, h3⟩ := i2
 refine o_mv h4 ?_
 refine o_jn 4 (I := fun tm H => tm 26 = .bool ((((decide (a0.Terms < 1)) || (decide (8 < a0.Terms))) || (decide (a0.Nons < 1))) || (decide (10 < a0.Nons))) ∧ (∃ (Z3 V3 : PH), Gw Z2 V2 Z3 V3 ∧ Sat Z3 V3 H [pts b1 (.rw 0 [vi a0.Terms, vi a0.Nons, vi a0.Start, (vS d1 a0.Rules)])] ∧ tm 1 = (pV b1 0))) (fun k3 => ?_) ?_
 ·rcases Bool.eq_false_or_eq_true (((decide (a0.Terms < 1)) || (decide (8 < a0.Terms))) || (decide (a0.Nons < 1))) with q3 | q3
  ·refine o_gn rfl q3 (o_gn rfl q3 (o_gn rfl q3 ?_))
   refine o_pickt (a := (.bool true)) rfl q3 rfl ?_
   exact k3 _ _ ⟨gf rfl (by first | (rw [q3]; first | done | rfl) | simp [q3]), _, _, Gw.refl _ _, s3, h3⟩
  refine o_gy rfl q3 (o_fad h3 (o_gy rfl q3 (o_ldB 0 s3 rfl rfl rfl rfl (o_gy rfl q3 ?_))))
  refine o_gtr rfl rfl ?_
  refine o_pickf (b := (.bool (decide (10 < a0.Nons)))) rfl q3 rfl ?_
  exact k3 _ _ ⟨gf rfl (by first | (rw [q3]; first | done | rfl) | simp [q3]), _, _, Gw.refl _ _, s3, h3⟩
 intro _ H4 i3
 obtain ⟨h6, Z3, V3, g3, s4, h5⟩ := i3
 refine o_mv h6 ?_
 refine o_jn 4 (I := fun tm H => tm 31 = .bool (((((decide (a0.Terms < 1)) || (decide (8 < a0.Terms))) || (decide (a0.Nons < 1))) || (decide (10 < a0.Nons))) || (decide (a0.Start < 0))) ∧ (∃ (Z4 V4 : PH), Gw Z3 V3 Z4 V4 ∧ Sat Z4 V4 H [pts b1 (.rw 0 [vi a0.Terms, vi a0.Nons, vi a0.Start, (vS d1 a0.Rules)])] ∧ tm 1 = (pV b1 0))) (fun k4 => ?_) ?_
 ·rcases Bool.eq_false_or_eq_true ((((decide (a0.Terms < 1)) || (decide (8 < a0.Terms))) || (decide (a0.Nons < 1))) || (decide (10 < a0.Nons))) with q4 | q4
  ·refine o_gn rfl q4 (o_gn rfl q4 (o_gn rfl q4 ?_))
   refine o_pickt (a := (.bool true)) rfl q4 rfl ?_
   exact k4 _ _ ⟨gf rfl (by first | (rw [q4]; first | done | rfl) | simp [q4]), _, _, Gw.refl _ _, s4, h5⟩
  refine o_gy rfl q4 (o_fad h5 (o_gy rfl q4 (o_ldB 0 s4 rfl rfl rfl rfl (o_gy rfl q4 ?_))))
  refine o_lss rfl rfl ?_
  refine o_pickf (b := (.bool (decide (a0.Start < 0)))) rfl q4 rfl ?_
  exact k4 _ _ ⟨gf rfl (by first | (rw [q4]; first | done | rfl) | simp [q4]), _, _, Gw.refl _ _, s4, h5⟩
 intro _ H5 i4
 obtain ⟨h8, Z4, V4, g4, s5, h7⟩ := i4
 refine o_mv h8 ?_
 refine o_jn 6 (I := fun tm H => tm 38 = .bool ((((((decide (a0.Terms < 1)) || (decide (8 < a0.Terms))) || (decide (a0.Nons < 1))) || (decide (10 < a0.Nons))) || (decide (a0.Start < 0))) || (decide (a0.Nons ≤ a0.Start))) ∧ (∃ (Z5 V5 : PH), Gw Z4 V4 Z5 V5 ∧ Sat Z5 V5 H [pts b1 (.rw 0 [vi a0.Terms, vi a0.Nons, vi a0.Start, (vS d1 a0.Rules)])] ∧ tm 1 = (pV b1 0))) (fun k5 => ?_) ?_
 ·rcases Bool.eq_false_or_eq_true (((((decide (a0.Terms < 1)) || (decide (8 < a0.Terms))) || (decide (a0.Nons < 1))) || (decide (10 < a0.Nons))) || (decide (a0.Start < 0))) with q5 | q5
  ·refine o_gn rfl q5 (o_gn rfl q5 (o_gn rfl q5 (o_gn rfl q5 (o_gn rfl q5 ?_))))
   refine o_pickt (a := (.bool true)) rfl q5 rfl ?_
   exact k5 _ _ ⟨gf rfl (by first | (rw [q5]; first | done | rfl) | simp [q5]), _, _, Gw.refl _ _, s5, h7⟩
  refine o_gy rfl q5 (o_fad h7 (o_gy rfl q5 (o_ldB 0 s5 rfl rfl rfl rfl (o_gy rfl q5 ?_))))
  refine o_fad h7 (o_gy rfl q5 (o_ldB 0 s5 rfl rfl rfl rfl (o_gy rfl q5 (o_geq rfl rfl ?_))))
  refine o_pickf (b := (.bool (decide (a0.Nons ≤ a0.Start)))) rfl q5 rfl ?_
  exact k5 _ _ ⟨gf rfl (by first | (rw [q5]; first | done | rfl) | simp [q5]), _, _, Gw.refl _ _, s5, h7⟩
 intro _ H6 i5
 obtain ⟨h10, Z5, V5, g5, s6, h9⟩ := i5
 refine c_nil ?_
 refine c_if h10 (fun q6 => ?_) (fun q6 => ?_)
 ·replace e := if_t q6 e
  refine c_sr ?_
  refine o_mv (v := (vi 1)) rfl ?_
  refine c_nil (c_rt ?_)
  obtain rfl := oJ e
  exact ⟨.inr rfl, _, (ar1 rfl), rfl, ((s6.pick [] rfl).weak (g1.trans (g2.trans (g3.trans (g4.trans g5)))) hs.zv)⟩
 replace e := ib_f q6 e
 refine c_sk (c_sq (c_sr (o_fad h9 (o_ldB 0 s6 rfl rfl rfl rfl ?_))))
 refine o_len rfl ((hp1.mono (g1.trans (g2.trans (g3.trans (g4.trans g5)))).v)).len (o_gtr rfl rfl (c_nil ?_))
 refine c_ifd rfl (fun q7 => ?_) (fun q7 => ?_)
 ·replace e := if_t q7 e
  refine c_sr ?_
  refine o_mv (v := (vi 2)) rfl ?_
  refine c_nil (c_rt ?_)
  obtain rfl := oJ e
  exact ⟨.inr rfl, _, (ar1 rfl), rfl, ((s6.pick [] rfl).weak (g1.trans (g2.trans (g3.trans (g4.trans g5)))) hs.zv)⟩
 replace e := if_f q7 e
 refine c_sk (c_sq (c_sr (o_fad h9 (o_ldB 0 s6 rfl rfl rfl rfl ?_))))
 refine o_len rfl ((hp1.mono (g1.trans (g2.trans (g3.trans (g4.trans g5)))).v)).len ?_
 refine o_mv (v := (vi 0)) rfl ?_
 refine c_nil ?_
 obtain ⟨y1, q10, e⟩ := oB e
 refine c_jn (I := fun tm H => ∃ (s9 : Unit), y1 = .out s9 ∧ (∃ (Z7 V7 : PH), Gw Z5 V5 Z7 V7 ∧ Sat Z7 V7 H [pts b1 (.rw 0 [vi a0.Terms, vi a0.Nons, vi a0.Start, (vS d1 a0.Rules)])] ∧ tm 1 = (pV b1 0) ∧ tm 44 = (vS d1 a0.Rules) ∧ tm 45 = (vN a0.Rules))) (fun k9 => ?_) ?_
 ·refine c_bk ?_
  refine l_forL (xs := a0.Rules) (fun (i6 : Nat) (s7 : Unit) tm H => tm 46 = vi i6 ∧ ∃ (Z6 V6 : PH), Gw Z5 V5 Z6 V6 ∧ Sat Z6 V6 H [pts b1 (.rw 0 [vi a0.Terms, vi a0.Nons, vi a0.Start, (vS d1 a0.Rules)])] ∧ tm 1 = (pV b1 0) ∧ tm 44 = (vS d1 a0.Rules) ∧ tm 45 = (vN a0.Rules)) (fun i6 x1 s7 y2 tm H8 q8 q9 j1 e1 k6 k7 k8 => ?_) (fun s7 tm H7 jf jd => ?_) q10 ⟨rfl, _, _, Gw.refl _ _, s6, h9, rfl, rfl⟩
  ·obtain ⟨hti0, Z6, V6, g6, s8, h11, h12, h13⟩ := j1
   unfold P.C4.b0 at e1
   refine c_sr (o_lss hti0 h13 (c_nil (c_sq ?_)))
   refine c_ift rfl (Int.ofNat_lt.2 q9) ?_
   refine c_sk (c_sq (c_bk (c_sr (o_mv hti0 ?_))))
   refine o_idx (v := (vS d1 a0.Rules)) h12 hti0 (hp1.mono (g1.trans (g2.trans (g3.trans (g4.trans (g5.trans g6))))).v) rfl (Pu.ix_nat.trans q8) fun p1 q11 => ?_
   refine o_lda rfl (hp1.mono (g1.trans (g2.trans (g3.trans (g4.trans (g5.trans g6))))).v) s8.v rfl q11 (Pu.ix_nat.trans q8) fun c1 h17 => ?_
   obtain ⟨w1, rfl, h18⟩ := Sh.G2 h17
   refine o_new s8 fun b2 H10 s11 => ?_
   refine o_mv (v := (vJ i6)) rfl ?_
   obtain ⟨d2, rfl⟩ := (h18).val
   refine o_stB (us' := [vi x1.Left, (vS d2 x1.Right)]) 0 s11 rfl rfl rfl rfl rfl rfl rfl fun H11 s12 => ?_
   refine c_nil (c_sq (c_sr (o_fad rfl (o_ldB 0 s12 rfl rfl rfl rfl ?_))))
   refine o_lss rfl rfl ?_
   refine o_mv (v := (.bool (decide (x1.Left < 0)))) rfl ?_
   refine o_jn 6 (I := fun tm H => tm 60 = .bool ((decide (x1.Left < 0)) || (decide (a0.Nons ≤ x1.Left))) ∧ (∃ (Z8 V8 : PH), Gw Z6 V6 Z8 V8 ∧ Sat Z8 V8 H [pts b1 (.rw 0 [vi a0.Terms, vi a0.Nons, vi a0.Start, (vS d1 a0.Rules)]), pts b2 (.rw 0 [vi x1.Left, (vS d2 x1.Right)])] ∧ tm 1 = (pV b1 0) ∧ tm 3 = (vJ i6) ∧ tm 4 = (pV b2 0) ∧ tm 44 = (vS d1 a0.Rules) ∧ tm 45 = (vN a0.Rules) ∧ tm 46 = (vJ i6))) (fun k10 => ?_) ?_
   ·rcases Bool.eq_false_or_eq_true (decide (x1.Left < 0)) with q12 | q12
    ·refine o_gn rfl q12 (o_gn rfl q12 (o_gn rfl q12 (o_gn rfl q12 (o_gn rfl q12 ?_))))
     refine o_pickt (a := (.bool true)) rfl q12 rfl ?_
     exact k10 _ _ ⟨gf rfl (by first | (rw [q12]; first | done | rfl) | simp [q12]), _, _, Gw.refl _ _, (s12.pick [1, 0] rfl), h11, rfl, rfl, h12, h13, hti0⟩
    refine o_gy rfl q12 (o_fad rfl (o_gy rfl q12 (o_ldB 0 s12 rfl rfl rfl rfl (o_gy rfl q12 ?_))))
    refine o_fad h11 (o_gy rfl q12 (o_ldB 1 s12 rfl rfl rfl rfl (o_gy rfl q12 (o_geq rfl rfl ?_))))
    refine o_pickf (b := (.bool (decide (a0.Nons ≤ x1.Left)))) rfl q12 rfl ?_
    exact k10 _ _ ⟨gf rfl (by first | (rw [q12]; first | done | rfl) | simp [q12]), _, _, Gw.refl _ _, (s12.pick [1, 0] rfl), h11, rfl, rfl, h12, h13, hti0⟩
   intro _ H12 i7
   obtain ⟨h25, Z8, V8, g8, s13, h19, h20, h21, h22, h23, h24⟩ := i7
   refine c_nil ?_
   refine c_if h25 (fun q13 => ?_) (fun q13 => ?_)
   ·replace e1 := if_t q13 e1
    refine c_sr ?_
    refine o_mv (v := (vi 3)) rfl ?_
    refine c_nil (c_rt ?_)
    have e2 := fin_r (k8 _ (sJ e1)) e
    obtain rfl := oJ e2
    exact ⟨.inr rfl, _, (ar1 rfl), rfl, ((s13.pick [] rfl).weak (g1.trans (g2.trans (g3.trans (g4.trans (g5.trans (g6.trans g8)))))) hs.zv)⟩
   replace e1 := ib_f q13 e1
   refine c_sk (c_sq (c_sr (o_fad h21 (o_ldB 1 s13 rfl rfl rfl rfl ?_))))
   refine o_len rfl ((h18.mono g8.v)).len (o_gtr rfl rfl (c_nil ?_))
   refine c_ifd rfl (fun q14 => ?_) (fun q14 => ?_)
   ·replace e1 := if_t q14 e1
    refine c_sr ?_
    refine o_mv (v := (vi 2)) rfl ?_
    refine c_nil (c_rt ?_)
    have e3 := fin_r (k8 _ (sJ e1)) e
    obtain rfl := oJ e3
    exact ⟨.inr rfl, _, (ar1 rfl), rfl, ((s13.pick [] rfl).weak (g1.trans (g2.trans (g3.trans (g4.trans (g5.trans (g6.trans g8)))))) hs.zv)⟩
   replace e1 := if_f q14 e1
   refine c_sk (c_sq (c_sr (o_fad h21 (o_ldB 1 s13 rfl rfl rfl rfl ?_))))
   refine o_len rfl ((h18.mono g8.v)).len ?_
   refine o_mv (v := (vi 0)) rfl ?_
   refine c_nil ?_
   obtain ⟨y3, q17, e1⟩ := oB e1
   refine c_jn (I := fun tm H => ∃ (s16 : Unit), y3 = .out s16 ∧ (∃ (Z10 V10 : PH), Gw Z8 V8 Z10 V10 ∧ Sat Z10 V10 H [pts b1 (.rw 0 [vi a0.Terms, vi a0.Nons, vi a0.Start, (vS d1 a0.Rules)]), pts b2 (.rw 0 [vi x1.Left, (vS d2 x1.Right)])] ∧ tm 1 = (pV b1 0) ∧ tm 3 = (vJ i6) ∧ tm 4 = (pV b2 0) ∧ tm 44 = (vS d1 a0.Rules) ∧ tm 45 = (vN a0.Rules) ∧ tm 46 = (vJ i6) ∧ tm 66 = (vS d2 x1.Right) ∧ tm 67 = (vN x1.Right))) (fun k14 => ?_) ?_
   ·refine c_bk ?_
    refine l_forL (xs := x1.Right) (fun (i8 : Nat) (s14 : Unit) tm H => tm 68 = vi i8 ∧ ∃ (Z9 V9 : PH), Gw Z8 V8 Z9 V9 ∧ Sat Z9 V9 H [pts b1 (.rw 0 [vi a0.Terms, vi a0.Nons, vi a0.Start, (vS d1 a0.Rules)]), pts b2 (.rw 0 [vi x1.Left, (vS d2 x1.Right)])] ∧ tm 1 = (pV b1 0) ∧ tm 3 = (vJ i6) ∧ tm 4 = (pV b2 0) ∧ tm 44 = (vS d1 a0.Rules) ∧ tm 45 = (vN a0.Rules) ∧ tm 46 = (vJ i6) ∧ tm 66 = (vS d2 x1.Right) ∧ tm 67 = (vN x1.Right)) (fun i8 x2 s14 y4 tm H14 q15 q16 j2 e4 k11 k12 k13 => ?_) (fun s14 tm H13 jf jd => ?_) q17 ⟨rfl, _, _, Gw.refl _ _, s13, h19, h20, h21, h22, h23, h24, rfl, rfl⟩
    ·obtain ⟨hti1, Z9, V9, g9, s15, h26, h27, h28, h29, h30, h31, h32, h33⟩ := j2
     unfold P.C4.b1 at e4
     refine c_sr (o_lss hti1 h33 (c_nil (c_sq ?_)))
     refine c_ift rfl (Int.ofNat_lt.2 q16) ?_
     refine c_sk (c_sq (c_bk (c_sr ?_)))
     refine o_idx (v := (vS d2 x1.Right)) h32 hti1 (h18.mono (g8.trans g9).v) rfl (Pu.ix_nat.trans q15) fun p2 q18 => ?_
     refine o_lda rfl (h18.mono (g8.trans g9).v) s15.v rfl q18 (Pu.ix_nat.trans q15) fun c2 h42 => ?_
     obtain rfl := h42
     refine o_new s15 fun b3 H16 s18 => ?_
     refine o_stB (us' := [(.bool x2.Term), vi x2.N]) 0 s18 rfl rfl rfl rfl rfl rfl rfl fun H17 s19 => ?_
     refine c_nil (c_sr (o_fad rfl (o_ldB 0 s19 rfl rfl rfl rfl (o_lss rfl rfl ?_))))
     refine o_mv (v := (.bool (decide (x2.N < 0)))) rfl ?_
     obtain ⟨y5, e5, e4⟩ := oB e4
     refine o_jn 10 (I := fun tm H => ∃ (Z11 V11 : PH), Gw Z9 V9 Z11 V11 ∧ Sat Z11 V11 H [pts b1 (.rw 0 [vi a0.Terms, vi a0.Nons, vi a0.Start, (vS d1 a0.Rules)]), pts b2 (.rw 0 [vi x1.Left, (vS d2 x1.Right)]), pts b3 (.rw 0 [(.bool x2.Term), vi x2.N])] ∧ tm 1 = (pV b1 0) ∧ tm 3 = (vJ i6) ∧ tm 4 = (pV b2 0) ∧ tm 6 = (pV b3 0) ∧ tm 44 = (vS d1 a0.Rules) ∧ tm 45 = (vN a0.Rules) ∧ tm 46 = (vJ i6) ∧ tm 66 = (vS d2 x1.Right) ∧ tm 67 = (vN x1.Right) ∧ tm 68 = (vJ i8) ∧ tm 85 = (.bool y5)) (fun k15 => ?_) ?_
     ·rcases Bool.eq_false_or_eq_true (decide (x2.N < 0)) with q19 | q19
      ·replace e5 := if_t q19 e5
       refine o_gn rfl q19 (o_gn rfl q19 (o_gn rfl q19 (o_gu rfl (o_gu rfl ?_))))
       refine o_gu rfl (o_gu rfl (o_gu rfl (o_gn rfl q19 ?_)))
       refine o_pickt (a := (.bool true)) rfl q19 rfl ?_
       obtain rfl := oJ e5
       exact k15 _ _ ⟨_, _, Gw.refl _ _, (s19.pick [1, 2, 0] rfl), h26, h27, h28, rfl, h29, h30, h31, h32, h33, hti1, rfl⟩
      replace e5 := ib_f q19 e5
      refine o_gy rfl q19 (o_fad rfl (o_gy rfl q19 (o_ldB 0 s19 rfl rfl rfl rfl (o_gy rfl q19 ?_))))
      refine o_mv (v := (.bool x2.Term)) rfl ?_
      refine o_jn 6 (I := fun tm H => tm 84 = .bool (x2.Term && (decide (a0.Terms ≤ x2.N))) ∧ (∃ (Z12 V12 : PH), Gw Z9 V9 Z12 V12 ∧ Sat Z12 V12 H [pts b1 (.rw 0 [vi a0.Terms, vi a0.Nons, vi a0.Start, (vS d1 a0.Rules)]), pts b2 (.rw 0 [vi x1.Left, (vS d2 x1.Right)]), pts b3 (.rw 0 [(.bool x2.Term), vi x2.N])] ∧ tm 1 = (pV b1 0) ∧ tm 3 = (vJ i6) ∧ tm 4 = (pV b2 0) ∧ tm 6 = (pV b3 0) ∧ tm 44 = (vS d1 a0.Rules) ∧ tm 45 = (vN a0.Rules) ∧ tm 46 = (vJ i6) ∧ tm 66 = (vS d2 x1.Right) ∧ tm 67 = (vN x1.Right) ∧ tm 68 = (vJ i8) ∧ tm 75 = (.bool (decide (x2.N < 0))) ∧ tm 76 = (pV b3 0) ∧ tm 77 = (.bool x2.Term) ∧ tm 78 = (.bool x2.Term))) (fun k16 => ?_) ?_
      ·rcases Bool.eq_false_or_eq_true x2.Term with q20 | q20
       ·refine o_gy rfl q20 (o_fad rfl (o_gy rfl q20 (o_ldB 0 s19 rfl rfl rfl rfl (o_gy rfl q20 ?_))))
        refine o_fad h26 (o_gy rfl q20 (o_ldB 1 s19 rfl rfl rfl rfl (o_gy rfl q20 (o_geq rfl rfl ?_))))
        refine o_gy rfl q19 ?_
        refine o_pickt (a := (.bool (decide (a0.Terms ≤ x2.N)))) rfl q20 rfl ?_
        exact k16 _ _ ⟨gf rfl (by first | (rw [q20]; first | done | rfl) | simp [q20]), _, _, Gw.refl _ _, (s19.pick [1, 2, 0] rfl), h26, h27, h28, rfl, h29, h30, h31, h32, h33, hti1, rfl, rfl, rfl, rfl⟩
       refine o_gn rfl q20 (o_gn rfl q20 (o_gn rfl q20 (o_gn rfl q20 (o_gn rfl q20 ?_))))
       refine o_gy rfl q19 ?_
       refine o_pickf (b := (.bool false)) rfl q20 rfl ?_
       exact k16 _ _ ⟨gf rfl (by first | (rw [q20]; first | done | rfl) | simp [q20]), _, _, Gw.refl _ _, (s19.pick [1, 2, 0] rfl), h26, h27, h28, rfl, h29, h30, h31, h32, h33, hti1, rfl, rfl, rfl, rfl⟩
      intro _ H19 i9
      obtain ⟨h68, Z12, V12, g12, s21, h54, h55, h56, h57, h58, h59, h60, h61, h62, h63, h64, h65, h66, h67⟩ := i9
      refine o_pickf (b := (.bool (x2.Term && (decide (a0.Terms ≤ x2.N))))) h64 q19 h68 ?_
      obtain rfl := oJ e5
      exact k15 _ _ ⟨_, _, g12, s21, h54, h55, h56, h57, h58, h59, h60, h61, h62, h63, rfl⟩
     intro _ H18 i10
     obtain ⟨Z11, V11, g11, s20, h43, h44, h45, h46, h47, h48, h49, h50, h51, h52, h53⟩ := i10
     refine o_mv h53 ?_
     obtain ⟨y6, e6, e4⟩ := oB e4
     refine o_jn 11 (I := fun tm H => ∃ (Z13 V13 : PH), Gw Z11 V11 Z13 V13 ∧ Sat Z13 V13 H [pts b1 (.rw 0 [vi a0.Terms, vi a0.Nons, vi a0.Start, (vS d1 a0.Rules)]), pts b2 (.rw 0 [vi x1.Left, (vS d2 x1.Right)])] ∧ tm 1 = (pV b1 0) ∧ tm 3 = (vJ i6) ∧ tm 4 = (pV b2 0) ∧ tm 44 = (vS d1 a0.Rules) ∧ tm 45 = (vN a0.Rules) ∧ tm 46 = (vJ i6) ∧ tm 66 = (vS d2 x1.Right) ∧ tm 67 = (vN x1.Right) ∧ tm 68 = (vJ i8) ∧ tm 97 = (.bool y6)) (fun k17 => ?_) ?_
     ·rcases Bool.eq_false_or_eq_true y5 with q21 | q21
      ·replace e6 := if_t q21 e6
       refine o_gn rfl q21 (o_gn rfl q21 (o_gn rfl q21 (o_gn rfl q21 (o_gu rfl ?_))))
       refine o_gu rfl (o_gu rfl (o_gu rfl (o_gu rfl (o_gn rfl q21 ?_))))
       refine o_pickt (a := (.bool true)) rfl q21 rfl ?_
       obtain rfl := oJ e6
       exact k17 _ _ ⟨_, _, Gw.refl _ _, (s20.pick [0, 1] rfl), h43, h44, h45, h47, h48, h49, h50, h51, h52, rfl⟩
      replace e6 := ib_f q21 e6
      refine o_gy rfl q21 (o_fad h46 (o_gy rfl q21 (o_ldB 2 s20 rfl rfl rfl rfl (o_gy rfl q21 ?_))))
      refine o_not rfl (o_gy rfl q21 ?_)
      refine o_mv (v := (.bool (!x2.Term))) rfl ?_
      refine o_jn 6 (I := fun tm H => tm 96 = .bool ((!x2.Term) && (decide (a0.Nons ≤ x2.N))) ∧ (∃ (Z14 V14 : PH), Gw Z11 V11 Z14 V14 ∧ Sat Z14 V14 H [pts b1 (.rw 0 [vi a0.Terms, vi a0.Nons, vi a0.Start, (vS d1 a0.Rules)]), pts b2 (.rw 0 [vi x1.Left, (vS d2 x1.Right)]), pts b3 (.rw 0 [(.bool x2.Term), vi x2.N])] ∧ tm 1 = (pV b1 0) ∧ tm 3 = (vJ i6) ∧ tm 4 = (pV b2 0) ∧ tm 44 = (vS d1 a0.Rules) ∧ tm 45 = (vN a0.Rules) ∧ tm 46 = (vJ i6) ∧ tm 66 = (vS d2 x1.Right) ∧ tm 67 = (vN x1.Right) ∧ tm 68 = (vJ i8) ∧ tm 86 = (.bool y5) ∧ tm 87 = (pV b3 0) ∧ tm 88 = (.bool x2.Term) ∧ tm 89 = (.bool (!x2.Term)) ∧ tm 90 = (.bool (!x2.Term)))) (fun k18 => ?_) ?_
      ·rcases Bool.eq_false_or_eq_true (!x2.Term) with q22 | q22
       ·refine o_gy rfl q22 (o_fad h46 (o_gy rfl q22 (o_ldB 2 s20 rfl rfl rfl rfl (o_gy rfl q22 ?_))))
        refine o_fad h43 (o_gy rfl q22 (o_ldB 0 s20 rfl rfl rfl rfl (o_gy rfl q22 (o_geq rfl rfl ?_))))
        refine o_gy rfl q21 ?_
        refine o_pickt (a := (.bool (decide (a0.Nons ≤ x2.N)))) rfl q22 rfl ?_
        exact k18 _ _ ⟨gf rfl (by first | (rw [q22]; first | done | rfl) | simp [q22]), _, _, Gw.refl _ _, s20, h43, h44, h45, h47, h48, h49, h50, h51, h52, rfl, rfl, rfl, rfl, rfl⟩
       refine o_gn rfl q22 (o_gn rfl q22 (o_gn rfl q22 (o_gn rfl q22 (o_gn rfl q22 ?_))))
       refine o_gy rfl q21 ?_
       refine o_pickf (b := (.bool false)) rfl q22 rfl ?_
       exact k18 _ _ ⟨gf rfl (by first | (rw [q22]; first | done | rfl) | simp [q22]), _, _, Gw.refl _ _, s20, h43, h44, h45, h47, h48, h49, h50, h51, h52, rfl, rfl, rfl, rfl, rfl⟩
      intro _ H21 i11
      obtain ⟨h93, Z14, V14, g14, s23, h79, h80, h81, h82, h83, h84, h85, h86, h87, h88, h89, h90, h91, h92⟩ := i11
      refine o_pickf (b := (.bool ((!x2.Term) && (decide (a0.Nons ≤ x2.N))))) h88 q21 h93 ?_
      obtain rfl := oJ e6
      exact k17 _ _ ⟨_, _, g14, (s23.pick [0, 1] rfl), h79, h80, h81, h82, h83, h84, h85, h86, h87, rfl⟩
     intro _ H20 i12
     obtain ⟨Z13, V13, g13, s22, h69, h70, h71, h72, h73, h74, h75, h76, h77, h78⟩ := i12
     refine c_nil ?_
     refine c_if h78 (fun q23 => ?_) (fun q23 => ?_)
     ·replace e4 := if_t q23 e4
      refine c_sr ?_
      refine o_mv (v := (vi 3)) rfl ?_
      refine c_nil (c_rt ?_)
      have e7 := fin_r (k13 _ (sJ e4)) e1
      have e8 := fin_r (k8 _ (sJ e7)) e
      obtain rfl := oJ e8
      exact ⟨.inr rfl, _, (ar1 rfl), rfl, ((s22.pick [] rfl).weak (g1.trans (g2.trans (g3.trans (g4.trans (g5.trans (g6.trans (g8.trans (g9.trans (g11.trans g13))))))))) hs.zv)⟩
     replace e4 := ib_f q23 e4
     refine c_sk (c_end (c_r (o_add h77 rfl ?_)))
     refine o_mv (v := (vi (Pu.W ((i8 : Int) + 1)))) rfl ?_
     refine c_nil ?_
     exact k11 _ _ _ (sJ e4) ⟨(iv rfl (w_suc q16 ((h18.mono g8.v)).bd)), _, _, (g9.trans (g11.trans g13)), s22, h69, h70, h71, h72, h73, h74, h75, h76⟩
    ·obtain ⟨hte1, Z15, V15, g15, s24, h94, h95, h96, h97, h98, h99, h100, h101⟩ := jd
     refine c_sr (o_lss hte1 h101 (c_nil (c_sq ?_)))
     refine c_iff rfl (Int.lt_irrefl _) ?_
     refine c_ex ?_
     refine e_c ?_
     refine e_c ?_
     refine e_h ?_
     exact k14 _ _ ⟨_, jf, _, _, g15, s24, h94, h95, h96, h97, h98, h99, h100, h101⟩
   intro _ H15 i13
   obtain ⟨s16, f1, Z10, V10, g10, s17, h34, h35, h36, h37, h38, h39, h40, h41⟩ := i13
   replace e1 := fin_o f1 e1
   refine c_sr (o_fad h34 (o_ldB 0 s17 rfl rfl rfl rfl (o_mv h35 ?_)))
   obtain ⟨x3, q24, e1⟩ := oB e1
   refine o_slch rfl rfl (hp1.mono (g1.trans (g2.trans (g3.trans (g4.trans (g5.trans (g6.trans (g8.trans g10))))))).v) s17.v rfl q24 fun w2 h102 => ?_
   refine o_len rfl (h102).len ?_
   refine o_mv (v := (vi 0)) rfl ?_
   refine c_nil ?_
   obtain ⟨y7, q27, e1⟩ := oB e1
   refine c_jn (I := fun tm H => ∃ (s27 : Unit), y7 = .out s27 ∧ (∃ (Z17 V17 : PH), Gw Z10 V10 Z17 V17 ∧ Sat Z17 V17 H [pts b1 (.rw 0 [vi a0.Terms, vi a0.Nons, vi a0.Start, (vS d1 a0.Rules)]), pts b2 (.rw 0 [vi x1.Left, (vS d2 x1.Right)])] ∧ tm 1 = (pV b1 0) ∧ tm 4 = (pV b2 0) ∧ tm 44 = (vS d1 a0.Rules) ∧ tm 45 = (vN a0.Rules) ∧ tm 46 = (vJ i6) ∧ tm 102 = w2 ∧ tm 103 = (vN x3))) (fun k22 => ?_) ?_
   ·refine c_bk ?_
    refine l_forL (xs := x3) (fun (i14 : Nat) (s25 : Unit) tm H => tm 104 = vi i14 ∧ ∃ (Z16 V16 : PH), Gw Z10 V10 Z16 V16 ∧ Sat Z16 V16 H [pts b1 (.rw 0 [vi a0.Terms, vi a0.Nons, vi a0.Start, (vS d1 a0.Rules)]), pts b2 (.rw 0 [vi x1.Left, (vS d2 x1.Right)])] ∧ tm 1 = (pV b1 0) ∧ tm 4 = (pV b2 0) ∧ tm 44 = (vS d1 a0.Rules) ∧ tm 45 = (vN a0.Rules) ∧ tm 46 = (vJ i6) ∧ tm 102 = w2 ∧ tm 103 = (vN x3)) (fun i14 x4 s25 y8 tm H24 q25 q26 j3 e9 k19 k20 k21 => ?_) (fun s25 tm H23 jf jd => ?_) q27 ⟨rfl, _, _, Gw.refl _ _, s17, h34, h36, h37, h38, h39, rfl, rfl⟩
    ·obtain ⟨hti2, Z16, V16, g16, s26, h103, h104, h105, h106, h107, h108, h109⟩ := j3
     unfold P.C4.b2 at e9
     refine c_sr (o_lss hti2 h109 (c_nil (c_sq ?_)))
     refine c_ift rfl (Int.ofNat_lt.2 q26) ?_
     refine c_sk (c_sq (c_bk (c_sr ?_)))
     refine o_idx (v := w2) h108 hti2 (h102.mono g16.v) rfl (Pu.ix_nat.trans q25) fun p3 q28 => ?_
     refine o_lda rfl (h102.mono g16.v) s26.v rfl q28 (Pu.ix_nat.trans q25) fun c3 h117 => ?_
     obtain ⟨w3, rfl, h118⟩ := Sh.G2 h117
     refine o_new s26 fun b4 H26 s29 => ?_
     obtain ⟨d3, rfl⟩ := (h118).val
     refine o_stB (us' := [vi x4.Left, (vS d3 x4.Right)]) 0 s29 rfl rfl rfl rfl rfl rfl rfl fun H27 s30 => ?_
     refine c_nil (c_sr (o_ldB 0 s30 rfl rfl rfl rfl (o_ldB 2 s30 rfl h104 rfl rfl ?_)))
     obtain ⟨x5, q29, e9⟩ := oB e9
     obtain ⟨Z18, V18, W1, g18, u1, c4, c5, -, c7, c6⟩ := Sat.call (l1 := []) s30
     refine o_call (mc rfl (mc rfl m0)) (X.F5 nd.F5 c4 (h118.mono (g18.v.trans u1)) (h18.mono (((g8.trans (g10.trans g16)).trans g18).v.trans u1)) q29) fun _ H28 i15 => ?_
     obtain ⟨rfl, s31⟩ := i15
     have s32 := c6 _ _ s31
     refine o_eql rfl rfl (c_nil ?_)
     refine c_ifd rfl (fun q30 => ?_) (fun q30 => ?_)
     ·replace e9 := if_t q30 e9
      refine c_sr ?_
      refine o_mv (v := (vi 6)) rfl ?_
      refine c_nil (c_rt ?_)
      have e10 := fin_r (k21 _ (sJ e9)) e1
      have e11 := fin_r (k8 _ (sJ e10)) e
      obtain rfl := oJ e11
      exact ⟨.inr rfl, _, (ar1 rfl), rfl, ((s32.pick [] rfl).weak (g1.trans (g2.trans (g3.trans (g4.trans (g5.trans (g6.trans (g8.trans (g10.trans (g16.trans g18))))))))) hs.zv)⟩
     replace e9 := if_f q30 e9
     refine c_sk (c_end (c_r (o_add hti2 rfl ?_)))
     refine o_mv (v := (vi (Pu.W ((i14 : Int) + 1)))) rfl ?_
     refine c_nil ?_
     exact k19 _ _ _ (sJ e9) ⟨(iv rfl (w_suc q26 (h102).bd)), _, _, (g16.trans g18), (s32.pick [1, 2] rfl), h103, h104, h105, h106, h107, h108, h109⟩
    ·obtain ⟨hte2, Z19, V19, g19, s33, h119, h120, h121, h122, h123, h124, h125⟩ := jd
     refine c_sr (o_lss hte2 h125 (c_nil (c_sq ?_)))
     refine c_iff rfl (Int.lt_irrefl _) ?_
     refine c_ex ?_
     refine e_c ?_
     refine e_c ?_
     refine e_h ?_
     exact k22 _ _ ⟨_, jf, _, _, g19, s33, h119, h120, h121, h122, h123, h124, h125⟩
   intro _ H25 i16
   obtain ⟨s27, f2, Z17, V17, g17, s28, h110, h111, h112, h113, h114, h115, h116⟩ := i16
   replace e1 := fin_o f2 e1
   refine c_end (c_r (o_add h114 rfl ?_))
   refine o_mv (v := (vi (Pu.W ((i6 : Int) + 1)))) rfl ?_
   refine c_nil ?_
   exact k6 _ _ _ (sJ e1) ⟨(iv rfl (w_suc q9 ((hp1.mono (g1.trans (g2.trans (g3.trans (g4.trans g5)))).v)).bd)), _, _, (g6.trans (g8.trans (g10.trans g17))), (s28.pick [0] rfl), h110, h112, h113⟩
  ·obtain ⟨hte0, Z20, V20, g20, s34, h126, h127, h128⟩ := jd
   refine c_sr (o_lss hte0 h128 (c_nil (c_sq ?_)))
   refine c_iff rfl (Int.lt_irrefl _) ?_
   refine c_ex ?_
   refine e_c ?_
   refine e_c ?_
   refine e_h ?_
   exact k9 _ _ ⟨_, jf, _, _, g20, s34, h126, h127, h128⟩
 intro _ H9 i17
 obtain ⟨s9, f3, Z7, V7, g7, s10, h14, h15, h16⟩ := i17
 replace e := fin_o f3 e
 refine c_sr ?_
 refine o_mv (v := (vi 0)) rfl ?_
 refine c_nil (c_rt ?_)
 obtain rfl := oJ e
 exact ⟨.inr rfl, _, (ar1 rfl), rfl, ((s10.pick [] rfl).weak (g1.trans (g2.trans (g3.trans (g4.trans (g5.trans g7))))) hs.zv)⟩
structure Nd.B5 (T : FuncId → Option AFunc) : Prop where
 own : Has T I.B5 F.B5
set_option maxHeartbeats 1000000 in
theorem X.B5 {T : FuncId → Option AFunc} (nd : Nd.B5 T) {Z V : PH} {H : Hp} {a0 : Int} {a1 : Int} {a2 : Bool} (hs : Sat Z V H []) {r : (List (List Bool))} (e : P.B5 a0 a1 a2 = some r) :
 G T I.B5 [vi a0, vi a1, (.bool a2)] H (fun rv H' => ∃ (u1 : Value), rv = u1 ∧ Sat Z V H' [It.sl sB u1 r]) := by
 unfold P.B5 at e
 refine f_mk nd.own ?_
 refine c_sr ?_
 refine o_mv (v := (.slice none 0 0)) rfl ?_
 refine c_nil (c_sr ?_)
 refine o_mv (v := (vi a0)) rfl ?_
 obtain ⟨x1, q1, e⟩ := oB e
 refine o_mksH (s := Sh.bool) hs rfl rfl q1 fun w1 H1 s1 => ?_
 refine o_mv (v := w1) rfl ?_
 refine c_nil (c_sq (c_sr ?_))
 refine o_mv (v := w1) rfl ?_
 refine o_len rfl ((s1.curS (s := sB) 0 rfl)).len ?_
 refine o_mv (v := (vi 0)) rfl ?_
 refine c_nil ?_
 obtain ⟨x3, q4, e⟩ := oB e
 obtain ⟨rfl, q6⟩ := ranO_some q4
 obtain ⟨y1, q7, e⟩ := oB e
 refine c_bk ?_
 refine l_forP (xs := (Pu.ran (x1.length : Int))) (fun (i1 : Nat) (s2 : (List (List Bool))) tm H => tm 14 = vi i1 ∧ ∃ (Z1 V1 : PH), Gw Z V Z1 V1 ∧ Sat Z1 V1 H [It.sl sB w1 s2] ∧ tm 1 = (vi a1) ∧ tm 2 = (.bool a2) ∧ tm 7 = w1 ∧ tm 13 = (vN x1)) (fun i1 x2 s2 s4 tm H3 q2 q3 j1 e1 k1 => ?_) (fun tm H2 jd => ?_) q7 ⟨rfl, _, _, Gw.refl _ _, s1, rfl, rfl, rfl, rfl⟩
 ·obtain ⟨hti0, Z1, V1, g1, s3, h1, h2, h3, h4⟩ := j1
  unfold P.B5.b0 at e1
  have hti0 := iv hti0 (ran_x q2).symm
  refine c_sr (o_lss hti0 h4 (c_nil (c_sq ?_)))
  refine c_ift rfl (ran_lt q2) ?_
  refine c_sk (c_sq (c_bk (c_sr (o_mv hti0 ?_))))
  refine o_mv (v := (vi x2)) rfl ?_
  refine c_nil (c_sr (o_mv h3 ?_))
  refine o_mv (v := (vi x2)) rfl ?_
  refine o_mv h1 ?_
  obtain ⟨x4, q8, e1⟩ := oB e1
  refine o_mks (s := Sh.bool) s3 Sh.G3 rfl rfl rfl rfl q8 fun w2 H4 s5 => ?_
  obtain ⟨x5, q9, e1⟩ := oB e1
  refine o_idx (v := w1) rfl rfl (s5.curS (s := sB) 1 rfl) rfl q9 fun p1 q10 => ?_
  refine o_stH 0 s5 rfl rfl rfl q10 q9 fun H5 s6 => ?_
  refine c_nil (c_sr (o_mv h3 ?_))
  refine o_mv (v := (vi x2)) rfl ?_
  obtain ⟨x6, q11, e1⟩ := oB e1
  refine o_idx (v := w1) rfl rfl (s6.curS (s := sB) 0 rfl) rfl q11 fun p2 q12 => ?_
  refine o_ldsv rfl (s6.curS (s := sB) 0 rfl) pR q12 q11 fun w3 h5 h6 => ?_
  refine o_len rfl (h5).len ?_
  refine o_mv (v := (vi 0)) rfl ?_
  refine c_nil ?_
  refine c_gen (P := fun tm => tm 1 = (vi a1) ∧ tm 2 = (.bool a2) ∧ tm 7 = w1 ∧ tm 8 = (vi x2) ∧ tm 13 = (vN x1) ∧ tm 14 = (vi x2) ∧ tm 26 = (vN x6) ∧ tm 27 = (vi 0) ∧ True) ⟨h1, h2, h3, rfl, h4, hti0, rfl, rfl, trivial⟩ ?_
  intro _ i2
  obtain ⟨h7, h8, h9, h10, h11, h12, h13, h14, -⟩ := i2
  obtain ⟨x8, q15, e1⟩ := oB e1
  obtain ⟨rfl, q17⟩ := ranO_some q15
  obtain ⟨y2, q18, e1⟩ := oB e1
  refine c_bk ?_
  refine l_forP (xs := (Pu.ran (x6.length : Int))) (fun (i3 : Nat) (s7 : (List (List Bool))) tm H => tm 27 = vi i3 ∧ ∃ (Z2 V2 : PH), Gw Z1 V1 Z2 V2 ∧ Sat Z2 V2 H [It.sl sB w1 s7] ∧ tm 1 = (vi a1) ∧ tm 2 = (.bool a2) ∧ tm 7 = w1 ∧ tm 8 = (vi x2) ∧ tm 13 = (vN x1) ∧ tm 14 = (vi x2) ∧ tm 26 = (vN x6)) (fun i3 x7 s7 s9 tm H7 q13 q14 j2 e2 k2 => ?_) (fun tm H6 jd => ?_) q18 ⟨h14, _, _, Gw.refl _ _, s6, h7, h8, h9, h10, h11, h12, h13⟩
  ·obtain ⟨hti1, Z2, V2, g2, s8, h15, h16, h17, h18, h19, h20, h21⟩ := j2
   unfold P.B5.b1 at e2
   have hti1 := iv hti1 (ran_x q13).symm
   refine c_sr (o_lss hti1 h21 (c_nil (c_sq ?_)))
   refine c_ift rfl (ran_lt q13) ?_
   refine c_sk (c_sq (c_bk (c_sr (o_mv hti1 ?_))))
   refine o_mv (v := (vi x7)) rfl ?_
   refine c_nil (c_r (o_mv h17 (o_mv h18 ?_)))
   obtain ⟨x9, q19, e2⟩ := oB e2
   refine o_idx (v := w1) rfl rfl (s8.curS (s := sB) 0 rfl) rfl q19 fun p3 q20 => ?_
   refine o_ldsv rfl (s8.curS (s := sB) 0 rfl) pR q20 q19 fun w4 h22 h23 => ?_
   refine o_mv (v := (vi x7)) rfl ?_
   refine o_mv h16 ?_
   obtain ⟨x10, q21, e2⟩ := oB e2
   refine o_idx (v := w4) rfl rfl h22 rfl q21 fun p4 q22 => ?_
   refine o_st2 0 s8 rfl Sh.G3 rfl rfl rfl q20 q19 h23 q22 q21 rfl rfl fun H8 s10 => ?_
   refine c_nil (c_end (c_r (o_add hti1 rfl ?_)))
   refine o_mv (v := (vi (Pu.W (x7 + 1)))) rfl ?_
   refine c_nil ?_
   obtain rfl := oJ e2
   exact k2 _ _ ⟨(iv rfl (w_sucR q13 q17)), _, _, g2, s10, h15, h16, h17, h18, h19, h20, h21⟩
  obtain ⟨hte1, Z3, V3, g3, s11, h24, h25, h26, h27, h28, h29, h30⟩ := jd
  refine c_sr (o_lss hte1 h30 (c_nil (c_sq ?_)))
  refine c_iff rfl (ran_done _) ?_
  refine c_ex ?_
  refine e_c ?_
  refine e_c ?_
  refine e_h ?_
  refine c_end (c_r (o_add h29 rfl ?_))
  refine o_mv (v := (vi (Pu.W (x2 + 1)))) rfl ?_
  refine c_nil ?_
  obtain rfl := oJ e1
  exact k1 _ _ ⟨(iv rfl (w_sucR q2 q6)), _, _, (g1.trans g3), s11, h24, h25, h26, h28⟩
 obtain ⟨hte0, Z4, V4, g4, s12, h31, h32, h33, h34⟩ := jd
 refine c_sr (o_lss hte0 h34 (c_nil (c_sq ?_)))
 refine c_iff rfl (ran_done _) ?_
 refine c_ex ?_
 refine e_c ?_
 refine e_c ?_
 refine e_h ?_
 refine c_sr (o_mv h33 ?_)
 refine o_mv (v := w1) rfl ?_
 refine c_nil (c_rt ?_)
 obtain rfl := oJ e
 exact ⟨.inr rfl, _, (ar1 rfl), _, rfl, (s12.weak g4 hs.zv)⟩
structure Nd.C7 (T : FuncId → Option AFunc) : Prop where
 own : Has T I.C7 F.C7
set_option maxHeartbeats 1000000 in
theorem X.C7 {T : FuncId → Option AFunc} (nd : Nd.C7 T) {Z V : PH} {H : Hp} {a0 : Int} {a1 : Int} {a2 : Int} (hs : Sat Z V H []) {r : (List (List Int))} (e : P.C7 a0 a1 a2 = some r) :
 G T I.C7 [vi a0, vi a1, vi a2] H (fun rv H' => ∃ (u1 : Value), rv = u1 ∧ Sat Z V H' [It.sl sI1 u1 r]) := by
 unfold P.C7 at e
 refine f_mk nd.own ?_
 refine c_sr ?_
 refine o_mv (v := (.slice none 0 0)) rfl ?_
 refine c_nil (c_sr ?_)
 refine o_mv (v := (vi a0)) rfl ?_
 obtain ⟨x1, q1, e⟩ := oB e
 refine o_mksH (s := Sh.int) hs rfl rfl q1 fun w1 H1 s1 => ?_
 refine o_mv (v := w1) rfl ?_
 refine c_nil (c_sq (c_sr ?_))
 refine o_mv (v := w1) rfl ?_
 refine o_len rfl ((s1.curS (s := sI1) 0 rfl)).len ?_
 refine o_mv (v := (vi 0)) rfl ?_
 refine c_nil ?_
 obtain ⟨x3, q4, e⟩ := oB e
 obtain ⟨rfl, q6⟩ := ranO_some q4
 obtain ⟨y1, q7, e⟩ := oB e
 refine c_bk ?_
 refine l_forP (xs := (Pu.ran (x1.length : Int))) (fun (i1 : Nat) (s2 : (List (List Int))) tm H => tm 14 = vi i1 ∧ ∃ (Z1 V1 : PH), Gw Z V Z1 V1 ∧ Sat Z1 V1 H [It.sl sI1 w1 s2] ∧ tm 1 = (vi a1) ∧ tm 2 = (vi a2) ∧ tm 7 = w1 ∧ tm 13 = (vN x1)) (fun i1 x2 s2 s4 tm H3 q2 q3 j1 e1 k1 => ?_) (fun tm H2 jd => ?_) q7 ⟨rfl, _, _, Gw.refl _ _, s1, rfl, rfl, rfl, rfl⟩
 ·obtain ⟨hti0, Z1, V1, g1, s3, h1, h2, h3, h4⟩ := j1
  unfold P.C7.b0 at e1
  have hti0 := iv hti0 (ran_x q2).symm
  refine c_sr (o_lss hti0 h4 (c_nil (c_sq ?_)))
  refine c_ift rfl (ran_lt q2) ?_
  refine c_sk (c_sq (c_bk (c_sr (o_mv hti0 ?_))))
  refine o_mv (v := (vi x2)) rfl ?_
  refine c_nil (c_sr (o_mv h3 ?_))
  refine o_mv (v := (vi x2)) rfl ?_
  refine o_mv h1 ?_
  obtain ⟨x4, q8, e1⟩ := oB e1
  refine o_mks (s := Sh.int) s3 Sh.G3 rfl rfl rfl rfl q8 fun w2 H4 s5 => ?_
  obtain ⟨x5, q9, e1⟩ := oB e1
  refine o_idx (v := w1) rfl rfl (s5.curS (s := sI1) 1 rfl) rfl q9 fun p1 q10 => ?_
  refine o_stH 0 s5 rfl rfl rfl q10 q9 fun H5 s6 => ?_
  refine c_nil (c_sr (o_mv h3 ?_))
  refine o_mv (v := (vi x2)) rfl ?_
  obtain ⟨x6, q11, e1⟩ := oB e1
  refine o_idx (v := w1) rfl rfl (s6.curS (s := sI1) 0 rfl) rfl q11 fun p2 q12 => ?_
  refine o_ldsv rfl (s6.curS (s := sI1) 0 rfl) pR q12 q11 fun w3 h5 h6 => ?_
  refine o_len rfl (h5).len ?_
  refine o_mv (v := (vi 0)) rfl ?_
  refine c_nil ?_
  refine c_gen (P := fun tm => tm 1 = (vi a1) ∧ tm 2 = (vi a2) ∧ tm 7 = w1 ∧ tm 8 = (vi x2) ∧ tm 13 = (vN x1) ∧ tm 14 = (vi x2) ∧ tm 26 = (vN x6) ∧ tm 27 = (vi 0) ∧ True) ⟨h1, h2, h3, rfl, h4, hti0, rfl, rfl, trivial⟩ ?_
  intro _ i2
  obtain ⟨h7, h8, h9, h10, h11, h12, h13, h14, -⟩ := i2
  obtain ⟨x8, q15, e1⟩ := oB e1
  obtain ⟨rfl, q17⟩ := ranO_some q15
  obtain ⟨y2, q18, e1⟩ := oB e1
  refine c_bk ?_
  refine l_forP (xs := (Pu.ran (x6.length : Int))) (fun (i3 : Nat) (s7 : (List (List Int))) tm H => tm 27 = vi i3 ∧ ∃ (Z2 V2 : PH), Gw Z1 V1 Z2 V2 ∧ Sat Z2 V2 H [It.sl sI1 w1 s7] ∧ tm 1 = (vi a1) ∧ tm 2 = (vi a2) ∧ tm 7 = w1 ∧ tm 8 = (vi x2) ∧ tm 13 = (vN x1) ∧ tm 14 = (vi x2) ∧ tm 26 = (vN x6)) (fun i3 x7 s7 s9 tm H7 q13 q14 j2 e2 k2 => ?_) (fun tm H6 jd => ?_) q18 ⟨h14, _, _, Gw.refl _ _, s6, h7, h8, h9, h10, h11, h12, h13⟩
  ·obtain ⟨hti1, Z2, V2, g2, s8, h15, h16, h17, h18, h19, h20, h21⟩ := j2
   unfold P.C7.b1 at e2
   have hti1 := iv hti1 (ran_x q13).symm
   refine c_sr (o_lss hti1 h21 (c_nil (c_sq ?_)))
   refine c_ift rfl (ran_lt q13) ?_
   refine c_sk (c_sq (c_bk (c_sr (o_mv hti1 ?_))))
   refine o_mv (v := (vi x7)) rfl ?_
   refine c_nil (c_r (o_mv h17 (o_mv h18 ?_)))
   obtain ⟨x9, q19, e2⟩ := oB e2
   refine o_idx (v := w1) rfl rfl (s8.curS (s := sI1) 0 rfl) rfl q19 fun p3 q20 => ?_
   refine o_ldsv rfl (s8.curS (s := sI1) 0 rfl) pR q20 q19 fun w4 h22 h23 => ?_
   refine o_mv (v := (vi x7)) rfl ?_
   refine o_mv h16 ?_
   obtain ⟨x10, q21, e2⟩ := oB e2
   refine o_idx (v := w4) rfl rfl h22 rfl q21 fun p4 q22 => ?_
   refine o_st2 0 s8 rfl Sh.G3 rfl rfl rfl q20 q19 h23 q22 q21 rfl rfl fun H8 s10 => ?_
   refine c_nil (c_end (c_r (o_add hti1 rfl ?_)))
   refine o_mv (v := (vi (Pu.W (x7 + 1)))) rfl ?_
   refine c_nil ?_
   obtain rfl := oJ e2
   exact k2 _ _ ⟨(iv rfl (w_sucR q13 q17)), _, _, g2, s10, h15, h16, h17, h18, h19, h20, h21⟩
  obtain ⟨hte1, Z3, V3, g3, s11, h24, h25, h26, h27, h28, h29, h30⟩ := jd
  refine c_sr (o_lss hte1 h30 (c_nil (c_sq ?_)))
  refine c_iff rfl (ran_done _) ?_
  refine c_ex ?_
  refine e_c ?_
  refine e_c ?_
  refine e_h ?_
  refine c_end (c_r (o_add h29 rfl ?_))
  refine o_mv (v := (vi (Pu.W (x2 + 1)))) rfl ?_
  refine c_nil ?_
  obtain rfl := oJ e1
  exact k1 _ _ ⟨(iv rfl (w_sucR q2 q6)), _, _, (g1.trans g3), s11, h24, h25, h26, h28⟩
 obtain ⟨hte0, Z4, V4, g4, s12, h31, h32, h33, h34⟩ := jd
 refine c_sr (o_lss hte0 h34 (c_nil (c_sq ?_)))
 refine c_iff rfl (ran_done _) ?_
 refine c_ex ?_
 refine e_c ?_
 refine e_c ?_
 refine e_h ?_
 refine c_sr (o_mv h33 ?_)
 refine o_mv (v := w1) rfl ?_
 refine c_nil (c_rt ?_)
 obtain rfl := oJ e
 exact ⟨.inr rfl, _, (ar1 rfl), _, rfl, (s12.weak g4 hs.zv)⟩
structure Nd.D5 (T : FuncId → Option AFunc) : Prop where
 own : Has T I.D5 F.D5
 B5 : Nd.B5 T
 C7 : Nd.C7 T
set_option maxHeartbeats 1000000 in
theorem X.D5 {T : FuncId → Option AFunc} (nd : Nd.D5 T) {Z V : PH} {H : Hp} {v1 : Value} {a0 : Ty.B2} {a1 : Int} (hs : Sat Z V H []) (hp1 : RdS Sh.A6 Z v1 a0.Rules) {r : Ty.C3} (e : P.D5 a0 a1 = some r) :
 G T I.D5 [(.agg #[vi a0.Terms, vi a0.Nons, vi a0.Start, v1]), vi a1] H (fun rv H' => ∃ (o101 : Nat) (u2 : Value) (u3 : Value) (u4 : Value) (u5 : Value) (u6 : Value) (u7 : Value), rv = (pV o101 0) ∧ Sat Z V H' [pts o101 (.rw 0 [vi r.g.Terms, vi r.g.Nons, vi r.g.Start, u2, vi r.n, u3, u4, u5, u6, u7]), Sh.it (Sh.ro (Sh.sl Sh.A6)) [u2] r.g.Rules, It.sl sB u3 r.has_, It.sl sB u4 r.loop_, It.sl sI1 u5 r.known_, It.sl sB2 u6 r.ends, It.sl sI2 u7 r.ways]) := by
 unfold P.D5 at e
 refine f_mk nd.own ?_
 refine c_sr ?_
 obtain ⟨d1, rfl⟩ := (hp1).val
 refine o_box hs rfl rfl fun b1 H1 s1 => ?_
 refine o_mv (v := (.pointer none)) rfl ?_
 refine c_nil (c_sq ?_)
 refine d_start s1 fun n1 H2 s2 q1 d2 => ?_
 refine d_ldB (q1 _ _ (ph_some.2 ⟨s2.curB 0 rfl, by simp⟩)) 0 s2 rfl rfl rfl rfl ?_
 refine d_mv (v := (vi a1)) rfl ?_
 refine d_fad rfl ?_
 refine d_ldB (q1 _ _ (ph_some.2 ⟨s2.curB 0 rfl, by simp⟩)) 0 s2 rfl rfl rfl rfl ?_
 refine d_mv (v := (vi a1)) rfl ?_
 refine d_add rfl rfl ?_
 obtain ⟨x1, q2, e⟩ := oB e
 obtain ⟨Z1, V1, W1, g1, u1, c1, c2, -, c4, c3⟩ := Sat.call (l1 := []) s2
 refine d_call (mc rfl (mc rfl (mc rfl m0))) (X.B5 nd.B5 c1 q2) fun w1 H3 i1 k1 => ?_
 have d3 := d2.keep k1
 obtain ⟨_, rfl, s3⟩ := i1
 have s4 := c3 _ _ s3
 refine d_fad rfl ?_
 refine d_ldB (q1 _ _ (ph_some.2 ⟨s2.curB 0 rfl, by simp⟩)) 1 s4 rfl rfl rfl rfl ?_
 refine d_mv (v := (vi a1)) rfl ?_
 refine d_add rfl rfl ?_
 obtain ⟨x2, q3, e⟩ := oB e
 obtain ⟨Z2, V2, W2, g2, u2, c5, c6, -, c8, c7⟩ := Sat.call (l1 := []) s4
 refine d_call (mc rfl (mc rfl (mc rfl m0))) (X.B5 nd.B5 c5 q3) fun w2 H4 i2 k2 => ?_
 have d4 := d3.keep k2
 obtain ⟨_, rfl, s5⟩ := i2
 have s6 := c7 _ _ s5
 refine d_fad rfl ?_
 refine d_ldB (q1 _ _ (ph_some.2 ⟨s2.curB 0 rfl, by simp⟩)) 2 s6 rfl rfl rfl rfl ?_
 refine d_mv (v := (vi a1)) rfl ?_
 refine d_add rfl rfl ?_
 obtain ⟨x3, q4, e⟩ := oB e
 obtain ⟨Z3, V3, W3, g3, u3, c9, c10, -, c12, c11⟩ := Sat.call (l1 := []) s6
 refine d_call (mc rfl (mc rfl (mc rfl m0))) (X.C7 nd.C7 c9 q4) fun w3 H5 i3 k3 => ?_
 have d5 := d4.keep k3
 obtain ⟨_, rfl, s7⟩ := i3
 have s8 := c11 _ _ s7
 obtain ⟨d6, rfl⟩ := ((s8.curS (s := sB) 2 rfl)).val
 obtain ⟨d7, rfl⟩ := ((s8.curS (s := sB) 1 rfl)).val
 obtain ⟨d8, rfl⟩ := ((s8.curS (s := sI1) 0 rfl)).val
 refine d_bld (qs := [(0, 4, (.agg #[vi a0.Terms, vi a0.Nons, vi a0.Start, (vS d1 a0.Rules)])), (4, 1, (vi a1)), (5, 1, (vS d6 x1)), (6, 1, (vS d7 x2)), (7, 1, (vS d8 x3))]) rfl rfl ?_
 refine d_box (d5.get 18 rfl rfl) s8 rfl rfl fun b2 H6 s9 k4 => ?_
 have d9 := d5.next 18 rfl k4
 refine d_mv (v := (pV b2 0)) rfl ?_
 refine d_nil (dc_mk rfl (ta16 (ta4 (tre tr0))) (ta8 (ta4 (ta2 (tre (tl4 (tl2 tr0)))))) (ta8 (ta4 (tra (tre (tl4 (tl2 (trl tr0))))))) (ag_ldx (w := (.agg #[vi a0.Terms, vi a0.Nons, vi a0.Start, (vS d1 a0.Rules)])) w_0 rfl (ldB_v 0 s2 rfl rfl rfl) (ldB_v 0 s2 rfl rfl rfl) (by simp [vsame, vsame1])) (ag_ldx (w := (.agg #[vi a0.Terms, vi a0.Nons, vi a0.Start, (vS d1 a0.Rules)])) w_0 rfl (ldB_v 0 s2 rfl rfl rfl) (ldB_v 1 s4 rfl rfl rfl) (by simp [vsame, vsame1])) (dc_mk rfl (ta16 (ta4 (tre tr0))) (ta8 (tra (tre (tl8 (tl2 (trl tr0)))))) (ta8 (tre (tl8 (tl4 tr0)))) (ag_ldx (w := (.agg #[vi a0.Terms, vi a0.Nons, vi a0.Start, (vS d1 a0.Rules)])) w_0 rfl (ldB_v 0 s2 rfl rfl rfl) (ldB_v 1 s4 rfl rfl rfl) (by simp [vsame, vsame1])) (ag_ldx (w := (.agg #[vi a0.Terms, vi a0.Nons, vi a0.Start, (vS d1 a0.Rules)])) w_0 rfl (ldB_v 0 s2 rfl rfl rfl) (ldB_v 2 s6 rfl rfl rfl) (by simp [vsame, vsame1])) (dc_mk rfl (ta16 (ta4 (tre tr0))) (ta4 (tre (tl16 tr0))) (ta2 (tra (tre (tl16 (trl tr0))))) (ag_ldx (w := (.agg #[vi a0.Terms, vi a0.Nons, vi a0.Start, (vS d1 a0.Rules)])) w_0 rfl (ldB_v 0 s2 rfl rfl rfl) (ldB_v 2 s6 rfl rfl rfl) (by simp [vsame, vsame1])) (ag_ldx (w := (.agg #[vi a0.Terms, vi a0.Nons, vi a0.Start, (vS d1 a0.Rules)])) w_0 rfl (ldB_v 0 s2 rfl rfl rfl) (ldB_v 3 s8 rfl rfl rfl) (by simp [vsame, vsame1])) (dc_mk rfl (ta8 (ta4 (tre (tl8 tr0)))) (ta8 (ta4 (ta2 (tre (tl4 (tl2 tr0)))))) (ta8 (ta4 (tra (tre (tl4 (tl2 (trl tr0))))))) (ag_ldx (w := (vi a0.Nons)) w_0 rfl (ldB_v 1 s4 rfl rfl rfl) (ldB_v 0 s2 rfl rfl rfl) (by simp [vsame, vsame1])) (ag_ldx (w := (vi a0.Nons)) w_0 rfl (ldB_v 1 s4 rfl rfl rfl) (ldB_v 1 s4 rfl rfl rfl) (by simp [vsame, vsame1])) (dc_mk rfl (ta4 (ta2 (tra (tre (tl8 (tl4 (trl tr0))))))) (ta8 (ta4 (ta2 (tre (tl4 (tl2 tr0)))))) (ta8 (ta4 (tra (tre (tl4 (tl2 (trl tr0))))))) (ag_ldx (w := (vi a0.Nons)) w_0 rfl (ldB_v 2 s6 rfl rfl rfl) (ldB_v 0 s2 rfl rfl rfl) (by simp [vsame, vsame1])) (ag_ldx (w := (vi a0.Nons)) w_0 rfl (ldB_v 2 s6 rfl rfl rfl) (ldB_v 1 s4 rfl rfl rfl) (by simp [vsame, vsame1])) (dc_mk rfl (ta4 (ta2 (tra (tre (tl8 (tl4 (trl tr0))))))) (ta8 (tra (tre (tl8 (tl2 (trl tr0)))))) (ta8 (tre (tl8 (tl4 tr0)))) (ag_ldx (w := (vi a0.Nons)) w_0 rfl (ldB_v 2 s6 rfl rfl rfl) (ldB_v 1 s4 rfl rfl rfl) (by simp [vsame, vsame1])) (ag_ldx (w := (vi a0.Nons)) w_0 rfl (ldB_v 2 s6 rfl rfl rfl) (ldB_v 2 s6 rfl rfl rfl) (by simp [vsame, vsame1])) dc_nil)))))) ?_
 refine c_gen (P := fun tm => tm 1 = (vi a1) ∧ tm 2 = (pV b1 0) ∧ tm 5 = (pV b2 0) ∧ True) ⟨rfl, rfl, rfl, trivial⟩ ?_
 intro _ i4
 obtain ⟨h1, h2, h3, -⟩ := i4
 refine c_sq (c_sr (o_fad h2 (o_ldB 4 s9 rfl rfl rfl rfl (o_len rfl ((hp1.mono (g1.trans (g2.trans g3)).z)).len ?_))))
 refine o_mv (v := (vi 0)) rfl ?_
 refine c_nil ?_
 obtain ⟨y1, q7, e⟩ := oB e
 refine c_bk ?_
 refine l_forP (xs := a0.Rules) (fun (i5 : Nat) (s10 : ((List (List (List Bool))) × (List (List (List Int))))) tm H => tm 30 = vi i5 ∧ ∃ (Z4 V4 : PH) (w4 : Value) (w5 : Value), Gw Z3 V3 Z4 V4 ∧ Sat Z4 V4 H [pts b2 (.rw 0 [vi a0.Terms, vi a0.Nons, vi a0.Start, (vS d1 a0.Rules), vi a1, (vS d6 x1), (vS d7 x2), (vS d8 x3), w4, w5]), Is sB d6 x1, Is sB d7 x2, Is sI1 d8 x3, It.sl sB2 w4 s10.1, It.sl sI2 w5 s10.2] ∧ tm 1 = (vi a1) ∧ tm 5 = (pV b2 0) ∧ tm 28 = (vS d1 a0.Rules) ∧ tm 29 = (vN a0.Rules)) (fun i5 x4 s10 s12 tm H8 q5 q6 j1 e1 k5 => ?_) (fun tm H7 jd => ?_) q7 ⟨rfl, _, _, _, _, Gw.refl _ _, (((s9.push (sl_nil (s := sB2))).push (sl_nil (s := sI2))).pick [2, 5, 4, 3, 1, 0] rfl), h1, h3, rfl, rfl⟩
 ·obtain ⟨hti0, Z4, V4, w4, w5, g4, s11, h4, h5, h6, h7⟩ := j1
  unfold P.D5.b0 at e1
  refine c_sr (o_lss hti0 h7 (c_nil (c_sq ?_)))
  refine c_ift rfl (Int.ofNat_lt.2 q6) ?_
  refine c_sk (c_sq (c_bk (c_sr ?_)))
  refine o_idx (v := (vS d1 a0.Rules)) h6 hti0 (hp1.mono (g1.trans (g2.trans (g3.trans g4))).z) rfl (Pu.ix_nat.trans q5) fun p1 q8 => ?_
  refine o_lda rfl (hp1.mono (g1.trans (g2.trans (g3.trans g4))).z) s11.z rfl q8 (Pu.ix_nat.trans q5) fun c13 h8 => ?_
  obtain ⟨w6, rfl, h9⟩ := Sh.G2 h8
  refine o_new s11 fun b3 H9 s13 => ?_
  obtain ⟨d10, rfl⟩ := (h9).val
  refine o_stB (us' := [vi x4.Left, (vS d10 x4.Right)]) 0 s13 rfl rfl rfl rfl rfl rfl rfl fun H10 s14 => ?_
  refine c_nil (c_sq ?_)
  refine d_start s14 fun n2 H11 s15 q9 d11 => ?_
  refine d_mv h5 ?_
  refine d_mv h5 ?_
  refine d_nck rfl ?_
  refine d_fad rfl ?_
  obtain ⟨d12, rfl⟩ := ((s15.curS (s := sB2) 5 rfl)).val
  obtain ⟨d13, rfl⟩ := ((s15.curS (s := sI2) 6 rfl)).val
  refine d_ldB (q9 _ _ (ph_some.2 ⟨s15.curB 1 rfl, by simp⟩)) 1 s15 rfl rfl rfl rfl ?_
  refine d_fad rfl ?_
  refine d_ldB (q9 _ _ (ph_some.2 ⟨s15.curB 0 rfl, by simp⟩)) 0 s15 rfl rfl rfl rfl ?_
  refine d_len rfl (h9).len ?_
  refine d_add rfl rfl ?_
  refine d_mv h4 ?_
  refine d_add rfl rfl ?_
  obtain ⟨x5, q10, e1⟩ := oB e1
  obtain ⟨Z5, V5, W4, g5, u4, c14, c15, -, c17, c16⟩ := Sat.call (l1 := []) s15
  refine d_call (mc rfl (mc rfl (mc rfl m0))) (X.B5 nd.B5 c14 q10) fun w7 H12 i6 k6 => ?_
  have d14 := d11.keep k6
  obtain ⟨_, rfl, s16⟩ := i6
  have s17 := c16 _ _ s16
  refine d_bslH (d14.get 12 rfl rfl) s17 rfl fun w8 H13 s18 k7 => ?_
  have d15 := d14.next 12 rfl k7
  obtain ⟨x6, q11, e1⟩ := oB e1
  refine d_appH 5 s18 rfl rfl rfl (by decide) q11 (List.cons_ne_nil _ _) fun w9 H14 s19 k8 => ?_
  have d16 := d15.keep k8
  refine d_nck rfl ?_
  refine d_fad rfl ?_
  obtain ⟨d17, rfl⟩ := ((s19.curS (s := sB2) 5 rfl)).val
  refine d_stB (us' := [vi a0.Terms, vi a0.Nons, vi a0.Start, (vS d1 a0.Rules), vi a1, (vS d6 x1), (vS d7 x2), (vS d8 x3), (vS d17 x6), (vS d13 s10.2)]) 1 s19 rfl rfl rfl rfl rfl rfl rfl fun H15 s20 k9 => ?_
  have d18 := d16.keep k9
  refine d_nil (dc_mk rfl (ta8 (ta4 (tra (tre (tl4 tr0))))) (ta4 (ta2 (tre (tl8 (tl2 (trl tr0)))))) (ta4 (tra (tre (tl8 (tl4 tr0))))) (ag_ldx (w := (vS d12 s10.1)) w_0 rfl (ldB_v 1 s15 rfl rfl rfl) (ldB_v 1 s15 rfl rfl rfl) (by simp [vsame, vsame1])) (ag_ldx (w := (vS d12 s10.1)) w_0 rfl (ldB_v 1 s15 rfl rfl rfl) (ldB_v 2 s17 rfl rfl rfl) (by simp [vsame, vsame1])) dc_nil) ?_
  refine c_gen (P := fun tm => tm 1 = (vi a1) ∧ tm 5 = (pV b2 0) ∧ tm 7 = (pV b3 0) ∧ tm 28 = (vS d1 a0.Rules) ∧ tm 29 = (vN a0.Rules) ∧ tm 30 = (vJ i5) ∧ True) ⟨h4, h5, rfl, h6, h7, hti0, trivial⟩ ?_
  intro _ i7
  obtain ⟨h10, h11, h12, h13, h14, h15, -⟩ := i7
  refine d_start s20 fun n3 H16 s21 q12 d19 => ?_
  refine d_mv h11 ?_
  refine d_mv h11 ?_
  refine d_nck rfl ?_
  refine d_fad rfl ?_
  refine d_ldB (q12 _ _ (ph_some.2 ⟨s21.curB 1 rfl, by simp⟩)) 1 s21 rfl rfl rfl rfl ?_
  refine d_fad h12 ?_
  refine d_ldB (q12 _ _ (ph_some.2 ⟨s21.curB 0 rfl, by simp⟩)) 0 s21 rfl rfl rfl rfl ?_
  refine d_len rfl ((h9.mono g5.z)).len ?_
  refine d_add rfl rfl ?_
  refine d_mv h10 ?_
  refine d_add rfl rfl ?_
  obtain ⟨x7, q13, e1⟩ := oB e1
  obtain ⟨Z6, V6, W5, g6, u5, c18, c19, -, c21, c20⟩ := Sat.call (l1 := []) s21
  refine d_call (mc rfl (mc rfl (mc rfl m0))) (X.C7 nd.C7 c18 q13) fun w10 H17 i8 k10 => ?_
  have d20 := d19.keep k10
  obtain ⟨_, rfl, s22⟩ := i8
  have s23 := c20 _ _ s22
  refine d_bslH (d20.get 12 rfl rfl) s23 rfl fun w11 H18 s24 k11 => ?_
  have d21 := d20.next 12 rfl k11
  obtain ⟨x8, q14, e1⟩ := oB e1
  refine d_appH 6 s24 rfl rfl rfl (by decide) q14 (List.cons_ne_nil _ _) fun w12 H19 s25 k12 => ?_
  have d22 := d21.keep k12
  refine d_nck rfl ?_
  refine d_fad rfl ?_
  obtain ⟨d23, rfl⟩ := ((s25.curS (s := sI2) 6 rfl)).val
  refine d_stB (us' := [vi a0.Terms, vi a0.Nons, vi a0.Start, (vS d1 a0.Rules), vi a1, (vS d6 x1), (vS d7 x2), (vS d8 x3), (vS d17 x6), (vS d23 x8)]) 1 s25 rfl rfl rfl rfl rfl rfl rfl fun H20 s26 k13 => ?_
  have d24 := d22.keep k13
  refine d_nil (dc_mk rfl (ta8 (ta4 (tra (tre (tl4 tr0))))) (ta4 (ta2 (tre (tl8 (tl2 (trl tr0)))))) (ta4 (tra (tre (tl8 (tl4 tr0))))) (ag_ldx (w := (vS d13 s10.2)) w_0 rfl (ldB_v 1 s21 rfl rfl rfl) (ldB_v 1 s21 rfl rfl rfl) (by simp [vsame, vsame1])) (ag_ldx (w := (vS d13 s10.2)) w_0 rfl (ldB_v 1 s21 rfl rfl rfl) (ldB_v 2 s23 rfl rfl rfl) (by simp [vsame, vsame1])) dc_nil) ?_
  refine c_end (c_r (o_add h15 rfl ?_))
  refine o_mv (v := (vi (Pu.W ((i5 : Int) + 1)))) rfl ?_
  refine c_nil ?_
  obtain rfl := oJ e1
  exact k5 _ _ ⟨(iv rfl (w_suc q6 ((hp1.mono (g1.trans (g2.trans g3)).z)).bd)), _, _, _, _, (g4.trans (g5.trans g6)), (s26.pick [1, 2, 3, 4, 5, 6] rfl), h10, h11, h13, h14⟩
 obtain ⟨hte0, Z7, V7, w13, w14, g7, s27, h16, h17, h18, h19⟩ := jd
 refine c_sr (o_lss hte0 h19 (c_nil (c_sq ?_)))
 refine c_iff rfl (Int.lt_irrefl _) ?_
 refine c_ex ?_
 refine e_c ?_
 refine e_c ?_
 refine e_h ?_
 refine c_sr (o_mv h17 ?_)
 refine o_mv (v := (pV b2 0)) rfl ?_
 refine c_nil (c_rt ?_)
 obtain ⟨d25, rfl⟩ := ((s27.curS (s := sB2) 4 rfl)).val
 obtain ⟨d26, rfl⟩ := ((s27.curS (s := sI2) 5 rfl)).val
 obtain rfl := oJ e
 exact ⟨.inr rfl, _, (ar1 rfl), _, _, _, _, _, _, _, rfl, (((s27.push (ro_it (sl_ro (hp1.mono (g1.trans (g2.trans (g3.trans g7))).z)))).pick [1, 0, 2, 3, 4, 5, 6] rfl).weak (g1.trans (g2.trans (g3.trans g7))) hs.zv)⟩
structure Nd.D0 (T : FuncId → Option AFunc) : Prop where
 own : Has T I.D0 F.D0
set_option maxHeartbeats 1000000 in
theorem X.D0 {T : FuncId → Option AFunc} (nd : Nd.D0 T) {Z V : PH} {H : Hp} {v1 : Value} {v2 : Value} {v3 : Value} {v4 : Value} {v5 : Value} {v6 : Value} {p1 : Nat} {a0 : Ty.C3} {a1 : Ty.D1} {a2 : Int} (hs : Sat Z V H []) (hp1 : RdS Sh.A6 V v1 a0.g.Rules) (hp2 : RdS sB V v2 a0.has_) (hp3 : RdS sB V v3 a0.loop_) (hp4 : RdS sI1 V v4 a0.known_) (hp5 : RdS sB2 V v5 a0.ends) (hp6 : RdS sI2 V v6 a0.ways) (hp7 : V p1 = some (.rw 0 [vi a0.g.Terms, vi a0.g.Nons, vi a0.g.Start, v1, vi a0.n, v2, v3, v4, v5, v6])) {r : Bool} (e : P.D0 a0 a1 a2 = some r) :
 G T I.D0 [(pV p1 0), (.agg #[(.bool a1.Term), vi a1.N]), vi a2] H (fun rv H' => rv = (.bool r) ∧ Sat Z V H' []) := by
 unfold P.D0 at e
 refine f_mk nd.own ?_
 refine c_sr ?_
 refine o_box hs rfl rfl fun b1 H1 s1 => ?_
 refine o_mv (v := (.bool false)) rfl ?_
 refine c_nil (c_sq (c_sr (o_fad rfl (o_ldB 0 s1 rfl rfl rfl rfl ?_))))
 refine c_nil ?_
 refine c_if rfl (fun q1 => ?_) (fun q1 => ?_)
 ·replace e := if_t q1 e
  refine c_sr ?_
  refine o_mv (v := (vi a2)) rfl ?_
  refine o_eql rfl rfl ?_
  refine o_mv (v := (.bool (decide (a2 = 1)))) rfl ?_
  refine c_nil (c_rt ?_)
  obtain rfl := oJ e
  exact ⟨.inr rfl, _, (ar1 rfl), rfl, (s1.pick [] rfl)⟩
 replace e := ib_f q1 e
 refine c_sk (c_sq ?_)
 refine d_start s1 fun n1 H2 s2 q2 d1 => ?_
 refine d_mv (v := (pV p1 0)) rfl ?_
 refine d_nck rfl ?_
 refine d_fad rfl ?_
 refine d_ldR (q2 _ _ (s2.v _ _ hp7)) hp7 s2.v rfl rfl rfl ?_
 refine d_fad rfl ?_
 refine d_ldB (q2 _ _ (ph_some.2 ⟨s2.curB 0 rfl, by simp⟩)) 0 s2 rfl rfl rfl rfl ?_
 obtain ⟨x1, q3, e⟩ := oB e
 refine d_idx (v := v2) rfl rfl hp2 rfl q3 fun p1 q4 => ?_
 refine d_lds (RdS.low hp2 s2.v q2) rfl hp2 s2.v q4 q3 fun w1 h1 => ?_
 refine d_mv (v := (vi a2)) rfl ?_
 obtain ⟨x2, q5, e⟩ := oB e
 refine d_idx (v := w1) rfl rfl h1 rfl q5 fun p2 q6 => ?_
 refine d_ldb (RdS.low h1 s2.v q2) rfl h1 s2.v q6 q5 ?_
 refine d_mv (v := (.bool x2)) rfl ?_
 refine d_nil dc_nil ?_
 refine c_gen (P := fun tm => tm 6 = (.bool x2) ∧ True) ⟨rfl, trivial⟩ ?_
 intro _ i1
 obtain ⟨h2, -⟩ := i1
 refine c_rt ?_
 obtain rfl := oJ e
 exact ⟨.inr rfl, _, (ar1 h2), rfl, (s2.pick [] rfl)⟩
structure Nd.B7 (T : FuncId → Option AFunc) : Prop where
 own : Has T I.B7 F.B7
 D0 : Nd.D0 T
set_option maxHeartbeats 1000000 in
theorem X.B7 {T : FuncId → Option AFunc} (nd : Nd.B7 T) {φ : Nat} {Z V : PH} {H : Hp} {v1 : Value} {v2 : Value} {v3 : Value} {v4 : Value} {v5 : Value} {v6 : Value} {o1 : Nat} {a0 : Ty.C3} {a1 : Int} (hs : Sat Z V H [pts o1 (.rw 0 [vi a0.g.Terms, vi a0.g.Nons, vi a0.g.Start, v1, vi a0.n, v2, v3, v4, v5, v6]), It.sl sB v2 a0.has_, It.sl sB v3 a0.loop_, It.sl sI1 v4 a0.known_, It.sl sB2 v5 a0.ends, It.sl sI2 v6 a0.ways]) (hp1 : RdS Sh.A6 Z v1 a0.g.Rules) {r : Ty.C3} (e : P.B7 φ a0 a1 = some r) :
 G T I.B7 [(pV o1 0), vi a1] H (fun rv H' => ∃ (u1 : Value) (u2 : Value) (u3 : Value) (u4 : Value) (u5 : Value) (u6 : Value), rv = undef ∧ Sat Z V H' [pts o1 (.rw 0 [vi r.g.Terms, vi r.g.Nons, vi r.g.Start, u1, vi r.n, u2, u3, u4, u5, u6]), Sh.it (Sh.ro (Sh.sl Sh.A6)) [u1] r.g.Rules, It.sl sB u2 r.has_, It.sl sB u3 r.loop_, It.sl sI1 u4 r.known_, It.sl sB2 u5 r.ends, It.sl sI2 u6 r.ways]) := by
 unfold P.B7 at e
 refine f_mk nd.own ?_
 refine c_sr ?_
 refine o_mv (v := (pV o1 0)) rfl ?_
 refine o_nck rfl (o_fad rfl (o_fad rfl ?_))
 obtain ⟨d1, rfl⟩ := (hp1).val
 obtain ⟨d2, rfl⟩ := ((hs.curS (s := sB) 1 rfl)).val
 obtain ⟨d3, rfl⟩ := ((hs.curS (s := sB) 2 rfl)).val
 obtain ⟨d4, rfl⟩ := ((hs.curS (s := sI1) 3 rfl)).val
 obtain ⟨d5, rfl⟩ := ((hs.curS (s := sB2) 4 rfl)).val
 obtain ⟨d6, rfl⟩ := ((hs.curS (s := sI2) 5 rfl)).val
 refine o_ldB 0 hs rfl rfl rfl rfl ?_
 refine o_mv (v := (vi a1)) rfl ?_
 obtain ⟨x1, q1, e⟩ := oB e
 refine o_idx (v := (vS d1 a0.g.Rules)) rfl rfl hp1 rfl q1 fun p1 q2 => ?_
 refine o_fadE rfl q2 fun p2 q3 => ?_
 refine o_ldF rfl hp1 hs.z rfl q2 q3 q1 rfl fun c1 h1 => ?_
 obtain ⟨w1, rfl, h2⟩ := Sh.G2 h1
 refine ⟨_, rfl, ?_⟩
 refine o_mv (v := w1) rfl ?_
 refine c_nil ?_
 refine c_gen (P := fun tm => tm 0 = (pV o1 0) ∧ tm 1 = (vi a1) ∧ tm 4 = w1 ∧ True) ⟨rfl, rfl, rfl, trivial⟩ ?_
 intro _ i1
 obtain ⟨h3, h4, h5, -⟩ := i1
 refine c_sr (o_mv h3 (o_nck rfl (o_fad rfl (o_ldB 0 hs rfl rfl rfl rfl ?_))))
 refine o_mv h4 ?_
 obtain ⟨x2, q4, e⟩ := oB e
 refine o_idx (v := (vS d5 a0.ends)) rfl rfl (hs.curS (s := sB2) 4 rfl) rfl q4 fun p3 q5 => ?_
 refine o_ldsv rfl (hs.curS (s := sB2) 4 rfl) pR q5 q4 fun w2 h6 h7 => ?_
 refine o_mv h5 (o_len rfl (h2).len ?_)
 obtain ⟨x3, q6, e⟩ := oB e
 refine o_idx (v := w2) rfl rfl h6 rfl q6 fun p4 q7 => ?_
 refine o_ldsv rfl h6 pR q7 q6 fun w3 h8 h9 => ?_
 obtain ⟨x4, q8, e⟩ := oB e
 refine o_idx (v := w3) rfl rfl h8 rfl q8 fun p5 q9 => ?_
 refine o_st3 4 hs rfl Sh.G3 rfl rfl rfl q5 q4 h7 q7 q6 h9 q9 q8 rfl rfl fun H1 s1 => ?_
 refine c_nil ?_
 refine c_gen (P := fun tm => tm 0 = (pV o1 0) ∧ tm 1 = (vi a1) ∧ tm 4 = w1 ∧ True) ⟨h3, h4, h5, trivial⟩ ?_
 intro _ i2
 obtain ⟨h10, h11, h12, -⟩ := i2
 refine c_sr (o_mv h12 (o_len rfl (h2).len (o_sub rfl rfl ?_)))
 refine o_mv (v := (vi (Pu.W ((x1.Right.length : Int) - 1)))) rfl ?_
 refine c_nil ?_
 obtain ⟨y1, q12, e⟩ := oB e
 refine c_jn (I := fun tm H => ∃ (s4 : ((List (List (List Bool))) × Int)), y1 = .out s4 ∧ (∃ (Z2 V2 : PH), Gw Z V Z2 V2 ∧ Sat Z2 V2 H [pts o1 (.rw 0 [vi a0.g.Terms, vi a0.g.Nons, vi a0.g.Start, (vS d1 a0.g.Rules), vi a0.n, (vS d2 a0.has_), (vS d3 a0.loop_), (vS d4 a0.known_), (vS d5 a0.ends), (vS d6 a0.ways)]), Is sB d2 a0.has_, Is sB d3 a0.loop_, Is sI1 d4 a0.known_, It.sl sB2 (vS d5 a0.ends) s4.1, Is sI2 d6 a0.ways] ∧ tm 0 = (pV o1 0) ∧ tm 1 = (vi a1) ∧ tm 4 = w1 ∧ tm 5 = (vi s4.2))) (fun k4 => ?_) ?_
 ·refine c_bk ?_
  refine l_whl (fun (s2 : ((List (List (List Bool))) × Int)) tm H => ∃ (Z1 V1 : PH), Gw Z V Z1 V1 ∧ Sat Z1 V1 H [pts o1 (.rw 0 [vi a0.g.Terms, vi a0.g.Nons, vi a0.g.Start, (vS d1 a0.g.Rules), vi a0.n, (vS d2 a0.has_), (vS d3 a0.loop_), (vS d4 a0.known_), (vS d5 a0.ends), (vS d6 a0.ways)]), Is sB d2 a0.has_, Is sB d3 a0.loop_, Is sI1 d4 a0.known_, It.sl sB2 (vS d5 a0.ends) s2.1, Is sI2 d6 a0.ways] ∧ tm 0 = (pV o1 0) ∧ tm 1 = (vi a1) ∧ tm 4 = w1 ∧ tm 5 = (vi s2.2)) (fun s2 y2 tm H3 j1 e1 k1 k2 k3 => ?_) q12 ⟨_, _, Gw.refl _ _, s1, h10, h11, h12, rfl⟩
  obtain ⟨Z1, V1, g1, s3, h13, h14, h15, h16⟩ := j1
  unfold P.B7.b0 at e1
  refine c_sq (c_sr (o_mv h16 (o_geq rfl rfl (c_nil ?_))))
  refine c_ifd rfl (fun q13 => ?_) (fun q13 => ?_)
  ·replace e1 := if_t q13 e1
   refine c_sk (c_sq (c_bk (c_sr (o_mv h13 ?_))))
   refine o_nck rfl (o_fad rfl (o_ldB 0 s3 rfl rfl rfl rfl (o_add rfl rfl ?_)))
   refine o_mv (v := (vi 0)) rfl ?_
   refine c_nil ?_
   obtain ⟨x7, q16, e1⟩ := oB e1
   obtain ⟨rfl, q18⟩ := ranO_some q16
   obtain ⟨y3, q19, e1⟩ := oB e1
   refine c_bk ?_
   refine l_forP (xs := (Pu.ran (Pu.W (a0.n + 1)))) (fun (i4 : Nat) (s6 : (List (List (List Bool)))) tm H => tm 41 = vi i4 ∧ ∃ (Z3 V3 : PH), Gw Z1 V1 Z3 V3 ∧ Sat Z3 V3 H [pts o1 (.rw 0 [vi a0.g.Terms, vi a0.g.Nons, vi a0.g.Start, (vS d1 a0.g.Rules), vi a0.n, (vS d2 a0.has_), (vS d3 a0.loop_), (vS d4 a0.known_), (vS d5 a0.ends), (vS d6 a0.ways)]), Is sB d2 a0.has_, Is sB d3 a0.loop_, Is sI1 d4 a0.known_, It.sl sB2 (vS d5 a0.ends) s6, Is sI2 d6 a0.ways] ∧ tm 0 = (pV o1 0) ∧ tm 1 = (vi a1) ∧ tm 4 = w1 ∧ tm 5 = (vi s2.2) ∧ tm 40 = (vi (Pu.W (a0.n + 1)))) (fun i4 x6 s6 s8 tm H6 q14 q15 j2 e2 k5 => ?_) (fun tm H5 jd => ?_) q19 ⟨rfl, _, _, Gw.refl _ _, s3, h13, h14, h15, h16, rfl⟩
   ·obtain ⟨hti1, Z3, V3, g3, s7, h21, h22, h23, h24, h25⟩ := j2
    unfold P.B7.b1 at e2
    have hti1 := iv hti1 (ran_x q14).symm
    refine c_sr (o_lss hti1 h25 (c_nil (c_sq ?_)))
    refine c_ift rfl (ran_lt q14) ?_
    refine c_sk (c_sq (c_bk (c_sr (o_mv hti1 ?_))))
    refine o_mv (v := (vi x6)) rfl ?_
    refine c_nil (c_sr ?_)
    refine o_mv (v := (vi x6)) rfl ?_
    refine o_add rfl rfl ?_
    refine o_mv (v := (vi 0)) rfl ?_
    refine c_nil ?_
    obtain ⟨x9, q22, e2⟩ := oB e2
    obtain ⟨rfl, q24⟩ := ranO_some q22
    obtain ⟨y4, q25, e2⟩ := oB e2
    refine c_bk ?_
    refine l_forP (xs := (Pu.ran (Pu.W (x6 + 1)))) (fun (i5 : Nat) (s9 : (List (List (List Bool)))) tm H => tm 46 = vi i5 ∧ ∃ (Z4 V4 : PH), Gw Z3 V3 Z4 V4 ∧ Sat Z4 V4 H [pts o1 (.rw 0 [vi a0.g.Terms, vi a0.g.Nons, vi a0.g.Start, (vS d1 a0.g.Rules), vi a0.n, (vS d2 a0.has_), (vS d3 a0.loop_), (vS d4 a0.known_), (vS d5 a0.ends), (vS d6 a0.ways)]), Is sB d2 a0.has_, Is sB d3 a0.loop_, Is sI1 d4 a0.known_, It.sl sB2 (vS d5 a0.ends) s9, Is sI2 d6 a0.ways] ∧ tm 0 = (pV o1 0) ∧ tm 1 = (vi a1) ∧ tm 4 = w1 ∧ tm 5 = (vi s2.2) ∧ tm 6 = (vi x6) ∧ tm 40 = (vi (Pu.W (a0.n + 1))) ∧ tm 41 = (vi x6) ∧ tm 45 = (vi (Pu.W (x6 + 1)))) (fun i5 x8 s9 s11 tm H8 q20 q21 j3 e3 k6 => ?_) (fun tm H7 jd => ?_) q25 ⟨rfl, _, _, Gw.refl _ _, s7, h21, h22, h23, h24, rfl, h25, hti1, rfl⟩
    ·obtain ⟨hti2, Z4, V4, g4, s10, h26, h27, h28, h29, h30, h31, h32, h33⟩ := j3
     unfold P.B7.b2 at e3
     have hti2 := iv hti2 (ran_x q20).symm
     refine c_sr (o_lss hti2 h33 (c_nil (c_sq ?_)))
     refine c_ift rfl (ran_lt q20) ?_
     refine c_sk (c_sq (c_bk (c_sr (o_mv hti2 ?_))))
     refine o_mv (v := (vi x8)) rfl ?_
     refine c_nil ?_
     obtain ⟨y5, e4, e3⟩ := oB e3
     refine c_jn (I := fun tm H => ∃ (Z5 V5 : PH), Gw Z4 V4 Z5 V5 ∧ Sat Z5 V5 H [pts o1 (.rw 0 [vi a0.g.Terms, vi a0.g.Nons, vi a0.g.Start, (vS d1 a0.g.Rules), vi a0.n, (vS d2 a0.has_), (vS d3 a0.loop_), (vS d4 a0.known_), (vS d5 a0.ends), (vS d6 a0.ways)]), Is sB d2 a0.has_, Is sB d3 a0.loop_, Is sI1 d4 a0.known_, It.sl sB2 (vS d5 a0.ends) y5, Is sI2 d6 a0.ways] ∧ tm 0 = (pV o1 0) ∧ tm 1 = (vi a1) ∧ tm 4 = w1 ∧ tm 5 = (vi s2.2) ∧ tm 6 = (vi x6) ∧ tm 40 = (vi (Pu.W (a0.n + 1))) ∧ tm 41 = (vi x6) ∧ tm 45 = (vi (Pu.W (x6 + 1))) ∧ tm 46 = (vi x8)) (fun k7 => ?_) ?_
     ·refine d_start s10 fun n1 H10 s13 q26 d7 => ?_
      refine d_mv h26 ?_
      refine d_nck rfl ?_
      refine d_fad rfl ?_
      refine d_ldB (q26 _ _ (ph_some.2 ⟨s13.curB 0 rfl, by simp⟩)) 0 s13 rfl rfl rfl rfl ?_
      refine d_mv h27 ?_
      obtain ⟨x10, q27, e4⟩ := oB e4
      refine d_idx (v := (vS d5 a0.ends)) rfl rfl (s13.curS (s := sB2) 4 rfl) rfl q27 fun p6 q28 => ?_
      refine d_ldsv ((s13.curS 4 rfl).low pR q26) rfl (s13.curS (s := sB2) 4 rfl) pR q28 q27 fun w4 h43 h44 => ?_
      refine d_mv h29 ?_
      obtain ⟨x11, q29, e4⟩ := oB e4
      refine d_idx (v := w4) rfl rfl h43 rfl q29 fun p7 q30 => ?_
      refine d_ldsv (RdS.low h43 pR q26) rfl h43 pR q30 q29 fun w5 h45 h46 => ?_
      refine d_mv h30 ?_
      refine d_mv h26 ?_
      refine d_nck rfl ?_
      refine d_fad rfl ?_
      refine d_ldB (q26 _ _ (ph_some.2 ⟨s13.curB 0 rfl, by simp⟩)) 0 s13 rfl rfl rfl rfl ?_
      refine d_mv h27 ?_
      obtain ⟨x12, q31, e4⟩ := oB e4
      refine d_idx (v := (vS d5 a0.ends)) rfl rfl (s13.curS (s := sB2) 4 rfl) rfl q31 fun p8 q32 => ?_
      refine d_ldsv ((s13.curS 4 rfl).low pR q26) rfl (s13.curS (s := sB2) 4 rfl) pR q32 q31 fun w6 h47 h48 => ?_
      refine d_mv h29 ?_
      obtain ⟨x13, q33, e4⟩ := oB e4
      refine d_idx (v := w6) rfl rfl h47 rfl q33 fun p9 q34 => ?_
      refine d_ldsv (RdS.low h47 pR q26) rfl h47 pR q34 q33 fun w7 h49 h50 => ?_
      refine d_mv h30 ?_
      obtain ⟨x14, q35, e4⟩ := oB e4
      refine d_idx (v := w7) rfl rfl h49 rfl q35 fun p10 q36 => ?_
      refine d_ldb (RdS.low h49 pR q26) rfl h49 pR q36 q35 ?_
      have h51 := vl_bool h49 pR q36 q35
      refine d_mv (v := (.bool x14)) rfl ?_
      rcases Bool.eq_false_or_eq_true x14 with q37 | q37
      ·replace e4 := if_t q37 e4
       refine d_gn rfl q37 ?_
       refine d_gn rfl q37 ?_
       refine d_gn rfl q37 ?_
       refine d_gn rfl q37 ?_
       refine d_gn rfl q37 ?_
       refine d_gn rfl q37 ?_
       refine d_gn rfl q37 ?_
       refine d_gn rfl q37 ?_
       refine d_gu rfl ?_
       refine d_gu rfl ?_
       refine d_gu rfl ?_
       refine d_gu rfl ?_
       refine d_gu rfl ?_
       refine d_gu rfl ?_
       refine d_gu rfl ?_
       refine d_gu rfl ?_
       refine d_gu rfl ?_
       refine d_gu rfl ?_
       refine d_gu rfl ?_
       refine d_gu rfl ?_
       refine d_gu rfl ?_
       refine d_gu rfl ?_
       refine d_gu rfl ?_
       refine d_gu rfl ?_
       refine d_gn rfl q37 ?_
       refine d_pickt (a := (.bool true)) rfl q37 rfl ?_
       obtain ⟨x15, q38, e4⟩ := oB e4
       refine d_idx (v := w5) rfl rfl h45 rfl q38 fun p11 q39 => ?_
       refine d_st3 4 s13 rfl Sh.G3 rfl rfl rfl q28 q27 h44 q30 q29 h46 q39 q38 rfl rfl fun H11 s14 k8 => ?_
       have d8 := d7.keep k8
       refine d_nil (dc_mk rfl (ta16 (ta16 (ta16 (ta2 (tre (tl2 (trl tr0))))))) (ta16 (ta4 (ta2 (tre (tl16 (tl8 (tl4 (tl2 (trl tr0))))))))) (ta16 (ta4 (tra (tre (tl16 (tl16 tr0)))))) (ag_ldx (w := (vS d5 a0.ends)) w_0 rfl (ldB_v 0 s13 rfl rfl rfl) (ldB_v 0 s13 rfl rfl rfl) (by simp [vsame, vsame1])) (ag_ldx (w := (vS d5 a0.ends)) w_0 rfl (ldB_v 0 s13 rfl rfl rfl) (ldB_v 0 s13 rfl rfl rfl) (by simp [vsame, vsame1])) (dc_mk rfl (ta16 (ta16 (ta8 (ta4 (ta2 (tra (tre (tl4 (tl2 tr0))))))))) (ta16 (ta4 (ta2 (tre (tl16 (tl8 (tl4 (tl2 (trl tr0))))))))) (ta16 (ta4 (tra (tre (tl16 (tl16 tr0)))))) (ag_ldx (w := w4) w_0 rfl h44 h44 (vs_rd h43)) (ag_ldx (w := w4) w_0 rfl h44 h44 (vs_rd h43)) (dc_mk rfl (ta16 (ta16 (ta8 (ta4 (tre (tl8 (trl tr0))))))) (ta16 (ta4 (ta2 (tre (tl16 (tl8 (tl4 (tl2 (trl tr0))))))))) (ta16 (ta4 (tra (tre (tl16 (tl16 tr0)))))) (ag_ldx (w := w5) w_0 rfl h46 h46 (vs_rd h45)) (ag_ldx (w := w5) w_0 rfl h46 h46 (vs_rd h45)) dc_nil))) ?_
       obtain rfl := oJ e4
       exact k7 _ _ ⟨_, _, Gw.refl _ _, s14, h26, h27, h28, h29, h30, h31, h32, h33, hti2⟩
      replace e4 := ib_f q37 e4
      refine d_want rfl q37 ?_
      refine d_mv h26 ?_
      refine d_want rfl q37 ?_
      refine d_mv h28 ?_
      refine d_want rfl q37 ?_
      refine d_mv h29 ?_
      refine d_want rfl q37 ?_
      obtain ⟨x16, q40, e4⟩ := oB e4
      refine d_idx (v := w1) rfl rfl (h2.mono (g1.trans (g3.trans g4)).z) rfl q40 fun p12 q41 => ?_
      refine d_want rfl q37 ?_
      refine d_lda (RdS.low (h2.mono (g1.trans (g3.trans g4)).z) s13.z q26) rfl h2 ((g1.trans (g3.trans g4)).z.trans s13.z) rfl q41 q40 fun c2 h52 => ?_
      obtain rfl := h52
      refine d_want rfl q37 ?_
      refine d_mv (v := (vi x8)) rfl ?_
      refine d_want rfl q37 ?_
      obtain ⟨x17, q42, e4⟩ := oB e4
      obtain ⟨Z6, V6, W1, g6, u1, c3, c4, -, c6, c5⟩ := Sat.call (l1 := []) s13
      have r1 := RdS.redo (c4 4 _ sB2 _ _ rfl) c3.v q28 q27 h44
      have r2 := RdS.redo r1.1 c3.v q30 q29 h46
      have r3 := RdS.redo (c4 4 _ sB2 _ _ rfl) c3.v q28 q27 h44
      have r4 := RdS.redo r3.1 c3.v q30 q29 h46
      have r5 := RdS.redo (c4 4 _ sB2 _ _ rfl) c3.v q32 q31 h48
      have r6 := RdS.redo r5.1 c3.v q34 q33 h50
      refine d_call (mc rfl (mc rfl (mc rfl m0))) (X.D0 nd.D0 (a0 := (Ty.C3.mk a0.g a0.n a0.has_ a0.loop_ a0.known_ s9 a0.ways)) c3 (hp1.mono (((g1.trans (g3.trans g4)).trans g6).z.trans c3.zv)) (c4 1 _ sB _ _ rfl) (c4 2 _ sB _ _ rfl) (c4 3 _ sI1 _ _ rfl) (c4 4 _ sB2 _ _ rfl) (c4 5 _ sI2 _ _ rfl) (c6 0 _ _ rfl) q42) fun _ H12 i6 k9 => ?_
      have d9 := d7.keep k9
      obtain ⟨rfl, s15⟩ := i6
      have s16 := c5 _ _ s15
      have h53 := r3.2 _ s15.v
      have h54 := r4.2 _ s15.v
      have h55 := r5.2 _ s15.v
      have h56 := r6.2 _ s15.v
      have h57 := vl_bool r6.1 s15.v q36 q35
      have h58 := r2.1.mono s15.v
      have h59 := r1.2 _ s15.v
      have h60 := r2.2 _ s15.v
      refine d_want rfl q37 ?_
      refine d_mv (v := (.bool x17)) rfl ?_
      rcases Bool.eq_false_or_eq_true x17 with q43 | q43
      ·replace e4 := if_t q43 e4
       refine d_want rfl q43 ?_
       refine d_mv h26 ?_
       refine d_want rfl q43 ?_
       refine d_nck rfl ?_
       refine d_want rfl q43 ?_
       refine d_fad rfl ?_
       refine d_want rfl q43 ?_
       refine d_ldB (q26 _ _ (ph_some.2 ⟨s13.curB 0 rfl, by simp⟩)) 0 s16 rfl rfl rfl rfl ?_
       refine d_want rfl q43 ?_
       refine d_mv h27 ?_
       refine d_want rfl q43 ?_
       obtain ⟨x18, q44, e4⟩ := oB e4
       refine d_idx (v := (vS d5 a0.ends)) rfl rfl (s16.curS (s := sB2) 4 rfl) rfl q44 fun p13 q45 => ?_
       refine d_want rfl q43 ?_
       refine d_ldsv ((s13.curS 4 rfl).low pR q26) rfl (c4 4 _ sB2 _ _ rfl) s15.v q45 q44 fun w8 h61 h62 => ?_
       have h63 := h61.mono s15.v
       refine d_want rfl q43 ?_
       refine d_mv h29 ?_
       refine d_want rfl q43 ?_
       refine d_add rfl rfl ?_
       refine d_want rfl q43 ?_
       obtain ⟨x19, q46, e4⟩ := oB e4
       refine d_idx (v := w8) rfl rfl h63 rfl q46 fun p14 q47 => ?_
       refine d_want rfl q43 ?_
       refine d_ldsv (RdS.low h61 c3.v q26) rfl h61 s15.v q47 q46 fun w9 h64 h65 => ?_
       have h66 := h64.mono s15.v
       refine d_want rfl q43 ?_
       refine d_mv h30 ?_
       refine d_want rfl q43 ?_
       refine d_mv (v := (vi x8)) rfl ?_
       refine d_want rfl q43 ?_
       refine d_sub rfl rfl ?_
       refine d_want rfl q43 ?_
       obtain ⟨x20, q48, e4⟩ := oB e4
       refine d_idx (v := w9) rfl rfl h66 rfl q48 fun p15 q49 => ?_
       refine d_want rfl q43 ?_
       refine d_ldb (RdS.low h64 c3.v q26) rfl h66 pR q49 q48 ?_
       have h67 := vl_bool h66 pR q49 q48
       refine d_want rfl q37 ?_
       refine d_pickt (a := (.bool x20)) rfl q43 rfl ?_
       refine d_pickf (b := (.bool x20)) rfl q37 rfl ?_
       obtain ⟨x21, q50, e4⟩ := oB e4
       refine d_idx (v := w5) rfl rfl h58 rfl q50 fun p16 q51 => ?_
       refine d_st3 4 s16 rfl Sh.G3 rfl rfl rfl q28 q27 h59 q30 q29 h60 q51 q50 rfl rfl fun H13 s17 k10 => ?_
       have d10 := d9.keep k10
       refine d_nil (dc_mk rfl (ta16 (ta16 (ta16 (ta2 (tre (tl2 (trl tr0))))))) (ta16 (ta4 (ta2 (tre (tl16 (tl8 (tl4 (tl2 (trl tr0))))))))) (ta16 (ta4 (tra (tre (tl16 (tl16 tr0)))))) (ag_ldx (w := (vS d5 a0.ends)) w_0 rfl (ldB_v 0 s13 rfl rfl rfl) (ldB_v 0 s13 rfl rfl rfl) (by simp [vsame, vsame1])) (ag_ldx (w := (vS d5 a0.ends)) w_0 rfl (ldB_v 0 s13 rfl rfl rfl) (ldB_v 0 s16 rfl rfl rfl) (by simp [vsame, vsame1])) (dc_mk rfl (ta16 (ta16 (ta8 (ta4 (ta2 (tra (tre (tl4 (tl2 tr0))))))))) (ta16 (ta4 (ta2 (tre (tl16 (tl8 (tl4 (tl2 (trl tr0))))))))) (ta16 (ta4 (tra (tre (tl16 (tl16 tr0)))))) (ag_ldx (w := w4) w_0 rfl h44 h44 (vs_rd h43)) (ag_ldx (w := w4) w_0 rfl h44 h53 (vs_rd h43)) (dc_mk rfl (ta16 (ta16 (ta8 (ta4 (tre (tl8 (trl tr0))))))) (ta16 (ta4 (ta2 (tre (tl16 (tl8 (tl4 (tl2 (trl tr0))))))))) (ta16 (ta4 (tra (tre (tl16 (tl16 tr0)))))) (ag_ldx (w := w5) w_0 rfl h46 h46 (vs_rd h45)) (ag_ldx (w := w5) w_0 rfl h46 h54 (vs_rd h45)) dc_nil))) ?_
       obtain rfl := oJ e4
       exact k7 _ _ ⟨_, _, g6, s17, h26, h27, h28, h29, h30, h31, h32, h33, hti2⟩
      replace e4 := ib_f q43 e4
      refine d_gn rfl q43 ?_
      refine d_gn rfl q43 ?_
      refine d_gn rfl q43 ?_
      refine d_gn rfl q43 ?_
      refine d_gn rfl q43 ?_
      refine d_gn rfl q43 ?_
      refine d_gn rfl q43 ?_
      refine d_gn rfl q43 ?_
      refine d_gn rfl q43 ?_
      refine d_gn rfl q43 ?_
      refine d_gn rfl q43 ?_
      refine d_gn rfl q43 ?_
      refine d_gn rfl q43 ?_
      refine d_gn rfl q43 ?_
      refine d_gn rfl q43 ?_
      refine d_gn rfl q43 ?_
      refine d_want rfl q37 ?_
      refine d_pickf (b := (.bool false)) rfl q43 rfl ?_
      refine d_pickf (b := (.bool false)) rfl q37 rfl ?_
      obtain ⟨x22, q52, e4⟩ := oB e4
      refine d_idx (v := w5) rfl rfl h58 rfl q52 fun p17 q53 => ?_
      refine d_st3 4 s16 rfl Sh.G3 rfl rfl rfl q28 q27 h59 q30 q29 h60 q53 q52 rfl rfl fun H14 s18 k11 => ?_
      have d11 := d9.keep k11
      refine d_nil (dc_mk rfl (ta16 (ta16 (ta16 (ta2 (tre (tl2 (trl tr0))))))) (ta16 (ta4 (ta2 (tre (tl16 (tl8 (tl4 (tl2 (trl tr0))))))))) (ta16 (ta4 (tra (tre (tl16 (tl16 tr0)))))) (ag_ldx (w := (vS d5 a0.ends)) w_0 rfl (ldB_v 0 s13 rfl rfl rfl) (ldB_v 0 s13 rfl rfl rfl) (by simp [vsame, vsame1])) (ag_ldx (w := (vS d5 a0.ends)) w_0 rfl (ldB_v 0 s13 rfl rfl rfl) (ldB_v 0 s16 rfl rfl rfl) (by simp [vsame, vsame1])) (dc_mk rfl (ta16 (ta16 (ta8 (ta4 (ta2 (tra (tre (tl4 (tl2 tr0))))))))) (ta16 (ta4 (ta2 (tre (tl16 (tl8 (tl4 (tl2 (trl tr0))))))))) (ta16 (ta4 (tra (tre (tl16 (tl16 tr0)))))) (ag_ldx (w := w4) w_0 rfl h44 h44 (vs_rd h43)) (ag_ldx (w := w4) w_0 rfl h44 h53 (vs_rd h43)) (dc_mk rfl (ta16 (ta16 (ta8 (ta4 (tre (tl8 (trl tr0))))))) (ta16 (ta4 (ta2 (tre (tl16 (tl8 (tl4 (tl2 (trl tr0))))))))) (ta16 (ta4 (tra (tre (tl16 (tl16 tr0)))))) (ag_ldx (w := w5) w_0 rfl h46 h46 (vs_rd h45)) (ag_ldx (w := w5) w_0 rfl h46 h54 (vs_rd h45)) dc_nil))) ?_
      obtain rfl := oJ e4
      exact k7 _ _ ⟨_, _, g6, s18, h26, h27, h28, h29, h30, h31, h32, h33, hti2⟩
     intro _ H9 i7
     obtain ⟨Z5, V5, g5, s12, h34, h35, h36, h37, h38, h39, h40, h41, h42⟩ := i7
     refine c_end (c_r (o_add h42 rfl ?_))
     refine o_mv (v := (vi (Pu.W (x8 + 1)))) rfl ?_
     refine c_nil ?_
     obtain rfl := oJ e3
     exact k6 _ _ ⟨(iv rfl (w_sucR q20 q24)), _, _, (g4.trans g5), s12, h34, h35, h36, h37, h38, h39, h40, h41⟩
    obtain ⟨hte2, Z7, V7, g7, s19, h68, h69, h70, h71, h72, h73, h74, h75⟩ := jd
    refine c_sr (o_lss hte2 h75 (c_nil (c_sq ?_)))
    refine c_iff rfl (ran_done _) ?_
    refine c_ex ?_
    refine e_c ?_
    refine e_c ?_
    refine e_h ?_
    refine c_end (c_r (o_add h74 rfl ?_))
    refine o_mv (v := (vi (Pu.W (x6 + 1)))) rfl ?_
    refine c_nil ?_
    obtain rfl := oJ e2
    exact k5 _ _ ⟨(iv rfl (w_sucR q14 q18)), _, _, (g3.trans g7), s19, h68, h69, h70, h71, h73⟩
   obtain ⟨hte1, Z8, V8, g8, s20, h76, h77, h78, h79, h80⟩ := jd
   refine c_sr (o_lss hte1 h80 (c_nil (c_sq ?_)))
   refine c_iff rfl (ran_done _) ?_
   refine c_ex ?_
   refine e_c ?_
   refine e_c ?_
   refine e_h ?_
   refine c_end (c_r (o_mv h79 (o_sub rfl rfl ?_)))
   refine o_mv (v := (vi (Pu.W (s2.2 - 1)))) rfl ?_
   refine c_nil ?_
   exact k1 _ _ _ (sJ e1) ⟨_, _, (g1.trans g8), s20, h76, h77, h78, rfl⟩
  replace e1 := if_f q13 e1
  refine c_ex ?_
  refine e_c ?_
  refine e_c ?_
  refine e_h ?_
  exact k4 _ _ ⟨_, k2 _ (sJ e1), _, _, g1, s3, h13, h14, h15, h16⟩
 intro _ H4 i8
 obtain ⟨s4, f1, Z2, V2, g2, s5, h17, h18, h19, h20⟩ := i8
 replace e := fin_o f1 e
 obtain rfl := oJ e
 refine c_done ?_
 exact ⟨.inl rfl, _, rfl, _, _, _, _, _, _, rfl, (((s5.push (ro_it (sl_ro (hp1.mono g2.z)))).pick [1, 0, 2, 3, 4, 5, 6] rfl).weak g2 hs.zv)⟩
structure Nd.B4 (T : FuncId → Option AFunc) : Prop where
 own : Has T I.B4 F.B4
 B7 : Nd.B7 T
set_option maxHeartbeats 1000000 in
theorem X.B4 {T : FuncId → Option AFunc} (nd : Nd.B4 T) {φ : Nat} {Z V : PH} {H : Hp} {v1 : Value} {v2 : Value} {v3 : Value} {v4 : Value} {v5 : Value} {v6 : Value} {o1 : Nat} {a0 : Ty.C3} (hs : Sat Z V H [pts o1 (.rw 0 [vi a0.g.Terms, vi a0.g.Nons, vi a0.g.Start, v1, vi a0.n, v2, v3, v4, v5, v6]), It.sl sB v2 a0.has_, It.sl sB v3 a0.loop_, It.sl sI1 v4 a0.known_, It.sl sB2 v5 a0.ends, It.sl sI2 v6 a0.ways]) (hp1 : RdS Sh.A6 Z v1 a0.g.Rules) {r : Ty.C3} (e : P.B4 φ a0 = some r) :
 G T I.B4 [(pV o1 0)] H (fun rv H' => ∃ (u1 : Value) (u2 : Value) (u3 : Value) (u4 : Value) (u5 : Value) (u6 : Value), rv = undef ∧ Sat Z V H' [pts o1 (.rw 0 [vi r.g.Terms, vi r.g.Nons, vi r.g.Start, u1, vi r.n, u2, u3, u4, u5, u6]), Sh.it (Sh.ro (Sh.sl Sh.A6)) [u1] r.g.Rules, It.sl sB u2 r.has_, It.sl sB u3 r.loop_, It.sl sI1 u4 r.known_, It.sl sB2 u5 r.ends, It.sl sI2 u6 r.ways]) := by
 unfold P.B4 at e
 refine f_mk nd.own ?_
 refine c_sr ?_
 refine o_mv (v := (.bool true)) rfl ?_
 refine c_nil ?_
 obtain ⟨y1, q3, e⟩ := oB e
 refine c_jn (I := fun tm H => ∃ (s3 : (Int × Int × Int × (List Ty.A6) × Int × (List (List Bool)) × (List (List Bool)) × (List (List Int)) × (List (List (List Bool))) × (List (List (List Int))) × Bool)), y1 = .out s3 ∧ (∃ (Z2 V2 : PH) (w7 : Value) (w8 : Value) (w9 : Value) (w10 : Value) (w11 : Value) (w12 : Value), Gw Z V Z2 V2 ∧ Sat Z2 V2 H [pts o1 (.rw 0 [vi s3.1, vi s3.2.1, vi s3.2.2.1, w12, vi s3.2.2.2.2.1, w7, w8, w9, w10, w11]), It.sl sB w7 s3.2.2.2.2.2.1, It.sl sB w8 s3.2.2.2.2.2.2.1, It.sl sI1 w9 s3.2.2.2.2.2.2.2.1, It.sl sB2 w10 s3.2.2.2.2.2.2.2.2.1, It.sl sI2 w11 s3.2.2.2.2.2.2.2.2.2.1] ∧ tm 0 = (pV o1 0) ∧ tm 2 = (.bool s3.2.2.2.2.2.2.2.2.2.2) ∧ RdS Sh.A6 Z2 w12 s3.2.2.2.1)) (fun k4 => ?_) ?_
 ·refine c_bk ?_
  refine l_whl (fun (s1 : (Int × Int × Int × (List Ty.A6) × Int × (List (List Bool)) × (List (List Bool)) × (List (List Int)) × (List (List (List Bool))) × (List (List (List Int))) × Bool)) tm H => ∃ (Z1 V1 : PH) (w1 : Value) (w2 : Value) (w3 : Value) (w4 : Value) (w5 : Value) (w6 : Value), Gw Z V Z1 V1 ∧ Sat Z1 V1 H [pts o1 (.rw 0 [vi s1.1, vi s1.2.1, vi s1.2.2.1, w6, vi s1.2.2.2.2.1, w1, w2, w3, w4, w5]), It.sl sB w1 s1.2.2.2.2.2.1, It.sl sB w2 s1.2.2.2.2.2.2.1, It.sl sI1 w3 s1.2.2.2.2.2.2.2.1, It.sl sB2 w4 s1.2.2.2.2.2.2.2.2.1, It.sl sI2 w5 s1.2.2.2.2.2.2.2.2.2.1] ∧ tm 0 = (pV o1 0) ∧ tm 2 = (.bool s1.2.2.2.2.2.2.2.2.2.2) ∧ RdS Sh.A6 Z1 w6 s1.2.2.2.1) (fun s1 y2 tm H2 j1 e1 k1 k2 k3 => ?_) q3 ⟨_, _, _, _, _, _, _, _, Gw.refl _ _, hs, rfl, rfl, hp1⟩
  obtain ⟨Z1, V1, w1, w2, w3, w4, w5, w6, g1, s2, h2, h3, h1⟩ := j1
  unfold P.B4.b0 at e1
  refine c_sq (c_sr (o_mv h3 (c_nil ?_)))
  refine c_if rfl (fun q4 => ?_) (fun q4 => ?_)
  ·replace e1 := if_t q4 e1
   refine c_sk (c_bk (c_sr ?_))
   refine o_mv (v := (.bool false)) rfl ?_
   refine c_nil (c_sr (o_mv h2 (o_nck rfl (o_fad rfl ?_))))
   refine o_fad rfl ?_
   obtain ⟨d1, rfl⟩ := (h1).val
   obtain ⟨d2, rfl⟩ := ((s2.curS (s := sB) 1 rfl)).val
   obtain ⟨d3, rfl⟩ := ((s2.curS (s := sB) 2 rfl)).val
   obtain ⟨d4, rfl⟩ := ((s2.curS (s := sI1) 3 rfl)).val
   obtain ⟨d5, rfl⟩ := ((s2.curS (s := sB2) 4 rfl)).val
   obtain ⟨d6, rfl⟩ := ((s2.curS (s := sI2) 5 rfl)).val
   refine o_ldB 0 s2 rfl rfl rfl rfl (o_len rfl (h1).len ?_)
   refine o_mv (v := (vi 0)) rfl ?_
   refine c_nil ?_
   obtain ⟨y3, q7, e1⟩ := oB e1
   refine c_bk ?_
   refine l_forP (xs := s1.2.2.2.1) (fun (i2 : Nat) (s5 : (Int × Int × Int × (List Ty.A6) × Int × (List (List Bool)) × (List (List Bool)) × (List (List Int)) × (List (List (List Bool))) × (List (List (List Int))) × Bool)) tm H => tm 14 = vi i2 ∧ ∃ (Z3 V3 : PH) (w13 : Value) (w14 : Value) (w15 : Value) (w16 : Value) (w17 : Value) (w18 : Value), Gw Z1 V1 Z3 V3 ∧ Sat Z3 V3 H [pts o1 (.rw 0 [vi s5.1, vi s5.2.1, vi s5.2.2.1, w18, vi s5.2.2.2.2.1, w13, w14, w15, w16, w17]), It.sl sB w13 s5.2.2.2.2.2.1, It.sl sB w14 s5.2.2.2.2.2.2.1, It.sl sI1 w15 s5.2.2.2.2.2.2.2.1, It.sl sB2 w16 s5.2.2.2.2.2.2.2.2.1, It.sl sI2 w17 s5.2.2.2.2.2.2.2.2.2.1] ∧ tm 0 = (pV o1 0) ∧ tm 2 = (.bool s5.2.2.2.2.2.2.2.2.2.2) ∧ tm 12 = (vS d1 s1.2.2.2.1) ∧ tm 13 = (vN s1.2.2.2.1) ∧ RdS Sh.A6 Z3 w18 s5.2.2.2.1) (fun i2 x2 s5 s7 tm H5 q5 q6 j2 e2 k5 => ?_) (fun tm H4 jd => ?_) q7 ⟨rfl, _, _, _, _, _, _, _, _, Gw.refl _ _, s2, h2, rfl, rfl, rfl, h1⟩
   ·obtain ⟨hti1, Z3, V3, w13, w14, w15, w16, w17, w18, g3, s6, h8, h9, h10, h11, h7⟩ := j2
    unfold P.B4.b1 at e2
    refine c_sr (o_lss hti1 h11 (c_nil (c_sq ?_)))
    refine c_ift rfl (Int.ofNat_lt.2 q6) ?_
    refine c_sk (c_sq (c_bk (c_sr (o_mv hti1 ?_))))
    refine o_idx (v := (vS d1 s1.2.2.2.1)) h10 hti1 (h1.mono g3.z) rfl (Pu.ix_nat.trans q5) fun p1 q8 => ?_
    refine o_lda rfl (h1.mono g3.z) s6.z rfl q8 (Pu.ix_nat.trans q5) fun c1 h12 => ?_
    obtain ⟨w19, rfl, h13⟩ := Sh.G2 h12
    refine o_new s6 fun b1 H6 s8 => ?_
    refine o_mv (v := (vJ i2)) rfl ?_
    obtain ⟨d7, rfl⟩ := (h13).val
    refine o_stB (us' := [vi x2.Left, (vS d7 x2.Right)]) 0 s8 rfl rfl rfl rfl rfl rfl rfl fun H7 s9 => ?_
    refine c_nil (c_sr (o_mv h8 ?_))
    refine o_mv (v := (vJ i2)) rfl ?_
    obtain ⟨x3, q9, e2⟩ := oB e2
    obtain ⟨d8, rfl⟩ := (h7).val
    obtain ⟨d9, rfl⟩ := ((s9.curS (s := sB) 2 rfl)).val
    obtain ⟨d10, rfl⟩ := ((s9.curS (s := sB) 3 rfl)).val
    obtain ⟨d11, rfl⟩ := ((s9.curS (s := sI1) 4 rfl)).val
    obtain ⟨d12, rfl⟩ := ((s9.curS (s := sB2) 5 rfl)).val
    obtain ⟨d13, rfl⟩ := ((s9.curS (s := sI2) 6 rfl)).val
    obtain ⟨Z4, V4, W1, g4, u1, c2, c3, -, c5, c4⟩ := Sat.call (l1 := [pts o1 (.rw 0 [vi s5.1, vi s5.2.1, vi s5.2.2.1, (vS d8 s5.2.2.2.1), vi s5.2.2.2.2.1, (vS d9 s5.2.2.2.2.2.1), (vS d10 s5.2.2.2.2.2.2.1), (vS d11 s5.2.2.2.2.2.2.2.1), (vS d12 s5.2.2.2.2.2.2.2.2.1), (vS d13 s5.2.2.2.2.2.2.2.2.2.1)]), Is sB d9 s5.2.2.2.2.2.1, Is sB d10 s5.2.2.2.2.2.2.1, Is sI1 d11 s5.2.2.2.2.2.2.2.1, Is sB2 d12 s5.2.2.2.2.2.2.2.2.1, Is sI2 d13 s5.2.2.2.2.2.2.2.2.2.1]) (l2 := [pts b1 (.rw 0 [vi x2.Left, (vS d7 x2.Right)])]) (s9.pick [1, 2, 3, 4, 5, 6, 0] rfl)
    refine o_call (mc rfl (mc rfl m0)) (X.B7 nd.B7 (a0 := (Ty.C3.mk (Ty.B2.mk s5.1 s5.2.1 s5.2.2.1 s5.2.2.2.1) s5.2.2.2.2.1 s5.2.2.2.2.2.1 s5.2.2.2.2.2.2.1 s5.2.2.2.2.2.2.2.1 s5.2.2.2.2.2.2.2.2.1 s5.2.2.2.2.2.2.2.2.2.1)) c2 (h7.mono g4.z) q9) fun _ H8 i3 => ?_
    obtain ⟨w20, w21, w22, w23, w24, w25, rfl, s10⟩ := i3
    have s11 := c4 _ _ s10
    obtain ⟨Z5, V5, g5, s12, h14⟩ := (s11.pull 1 rfl).frzR
    refine c_nil (c_sr (o_mv h8 (o_nck rfl (o_fad rfl ?_))))
    obtain ⟨d14, rfl⟩ := (h14).val
    obtain ⟨d15, rfl⟩ := ((s12.curS (s := sB) 1 rfl)).val
    obtain ⟨d16, rfl⟩ := ((s12.curS (s := sB) 2 rfl)).val
    obtain ⟨d17, rfl⟩ := ((s12.curS (s := sI1) 3 rfl)).val
    obtain ⟨d18, rfl⟩ := ((s12.curS (s := sB2) 4 rfl)).val
    obtain ⟨d19, rfl⟩ := ((s12.curS (s := sI2) 5 rfl)).val
    refine o_ldB 0 s12 rfl rfl rfl rfl ?_
    refine o_mv (v := (vJ i2)) rfl ?_
    obtain ⟨x4, q10, e2⟩ := oB e2
    refine o_idx (v := (vS d18 x3.ends)) rfl rfl (s12.curS (s := sB2) 4 rfl) rfl q10 fun p2 q11 => ?_
    refine o_ldsv rfl (s12.curS (s := sB2) 4 rfl) pR q11 q10 fun w26 h15 h16 => ?_
    obtain ⟨x5, q12, e2⟩ := oB e2
    refine o_idx (v := w26) rfl rfl h15 rfl q12 fun p3 q13 => ?_
    refine o_ldsv rfl h15 pR q13 q12 fun w27 h17 h18 => ?_
    refine o_len rfl (h17).len ?_
    refine o_mv (v := (vi 0)) rfl ?_
    refine c_nil ?_
    refine c_gen (P := fun tm => tm 0 = (pV o1 0) ∧ tm 2 = (.bool s5.2.2.2.2.2.2.2.2.2.2) ∧ tm 4 = (pV b1 0) ∧ tm 12 = (vS d1 s1.2.2.2.1) ∧ tm 13 = (vN s1.2.2.2.1) ∧ tm 14 = (vJ i2) ∧ tm 30 = w27 ∧ tm 31 = (vN x5) ∧ tm 32 = (vi 0) ∧ True) ⟨h8, h9, rfl, h10, h11, hti1, rfl, rfl, rfl, trivial⟩ ?_
    intro _ i4
    obtain ⟨h19, h20, h21, h22, h23, h24, h25, h26, h27, -⟩ := i4
    obtain ⟨Z6, V6, W2, g6, u2, c6, c7, -, -, c8⟩ := Sat.call (l1 := [pts o1 (.rw 0 [vi x3.g.Terms, vi x3.g.Nons, vi x3.g.Start, (vS d14 x3.g.Rules), vi x3.n, (vS d15 x3.has_), (vS d16 x3.loop_), (vS d17 x3.known_), (vS d18 x3.ends), (vS d19 x3.ways)]), Is sB d15 x3.has_, Is sB d16 x3.loop_, Is sI1 d17 x3.known_, Is sI2 d19 x3.ways, pts b1 (.rw 0 [vi x2.Left, (vS d7 x2.Right)])]) (l2 := [Is sB2 d18 x3.ends]) (s12.pick [0, 1, 2, 3, 5, 6, 4] rfl)
    have h28 := c7 0 _ sB2 _ _ rfl
    have g7 : Gw Z5 V5 Z6 W2 := ⟨g6.z, g6.v.trans u2, g6.o⟩
    have r1 := RdS.redo h28 c6.v q11 q10 h16
    have r2 := RdS.redo r1.1 c6.v q13 q12 h18
    have z1 := c6.zv
    obtain ⟨y4, q16, e2⟩ := oB e2
    refine c_bk ?_
    refine l_forP (xs := x5) (fun (i5 : Nat) (s13 : ((List (List Bool)) × Bool)) tm H => tm 32 = vi i5 ∧ ∃ (Z7 V7 : PH), Gw Z6 W2 Z7 V7 ∧ Sat Z7 V7 H [pts o1 (.rw 0 [vi x3.g.Terms, vi x3.g.Nons, vi x3.g.Start, (vS d14 x3.g.Rules), vi x3.n, (vS d15 x3.has_), (vS d16 x3.loop_), (vS d17 x3.known_), (vS d18 x3.ends), (vS d19 x3.ways)]), It.sl sB (vS d15 x3.has_) s13.1, Is sB d16 x3.loop_, Is sI1 d17 x3.known_, Is sI2 d19 x3.ways, pts b1 (.rw 0 [vi x2.Left, (vS d7 x2.Right)])] ∧ tm 0 = (pV o1 0) ∧ tm 2 = (.bool s13.2) ∧ tm 4 = (pV b1 0) ∧ tm 12 = (vS d1 s1.2.2.2.1) ∧ tm 13 = (vN s1.2.2.2.1) ∧ tm 14 = (vJ i2) ∧ tm 30 = w27 ∧ tm 31 = (vN x5)) (fun i5 x6 s13 s15 tm H10 q14 q15 j3 e3 k6 => ?_) (fun tm H9 jd => ?_) q16 ⟨h27, _, _, Gw.refl _ _, c6, h19, h20, h21, h22, h23, h24, h25, h26⟩
    ·obtain ⟨hti2, Z7, V7, g8, s14, h29, h30, h31, h32, h33, h34, h35, h36⟩ := j3
     unfold P.B4.b2 at e3
     refine c_sr (o_lss hti2 h36 (c_nil (c_sq ?_)))
     refine c_ift rfl (Int.ofNat_lt.2 q15) ?_
     refine c_sk (c_sq (c_bk (c_sr (o_mv hti2 ?_))))
     refine o_idx (v := w27) h35 hti2 (r2.1.mono g8.v) rfl (Pu.ix_nat.trans q14) fun p4 q17 => ?_
     refine o_ldb rfl (r2.1.mono g8.v) s14.v q17 (Pu.ix_nat.trans q14) ?_
     refine o_mv (v := (vJ i5)) rfl ?_
     refine o_mv (v := (.bool x6)) rfl ?_
     refine c_nil (c_sq ?_)
     refine c_gen (P := fun tm => tm 0 = (pV o1 0) ∧ tm 2 = (.bool s13.2) ∧ tm 4 = (pV b1 0) ∧ tm 5 = (vJ i5) ∧ tm 6 = (.bool x6) ∧ tm 12 = (vS d1 s1.2.2.2.1) ∧ tm 13 = (vN s1.2.2.2.1) ∧ tm 14 = (vJ i2) ∧ tm 30 = w27 ∧ tm 31 = (vN x5) ∧ tm 32 = (vJ i5) ∧ True) ⟨h29, h30, h31, rfl, rfl, h32, h33, h34, h35, h36, hti2, trivial⟩ ?_
     intro _ i6
     obtain ⟨h37, h38, h39, h40, h41, h42, h43, h44, h45, h46, h47, -⟩ := i6
     refine d_start s14 fun n1 H11 s16 q18 d20 => ?_
     refine d_mv h41 ?_
     refine d_mv (v := (.bool x6)) rfl ?_
     obtain ⟨y5, e4, e3⟩ := oB e3
     refine d_jn 13 (I := fun tm H => DD n1 15 (List.length F.B4.r10) H ∧ (∃ (Z8 V8 : PH), Gw Z7 V7 Z8 V8 ∧ Sat Z8 V8 H [pts o1 (.rw 0 [vi x3.g.Terms, vi x3.g.Nons, vi x3.g.Start, (vS d14 x3.g.Rules), vi x3.n, (vS d15 x3.has_), (vS d16 x3.loop_), (vS d17 x3.known_), (vS d18 x3.ends), (vS d19 x3.ways)]), It.sl sB (vS d15 x3.has_) s13.1, Is sB d16 x3.loop_, Is sI1 d17 x3.known_, Is sI2 d19 x3.ways, pts b1 (.rw 0 [vi x2.Left, (vS d7 x2.Right)])] ∧ tm 0 = (pV o1 0) ∧ tm 2 = (.bool s13.2) ∧ tm 4 = (pV b1 0) ∧ tm 5 = (vJ i5) ∧ tm 12 = (vS d1 s1.2.2.2.1) ∧ tm 13 = (vN s1.2.2.2.1) ∧ tm 14 = (vJ i2) ∧ tm 30 = w27 ∧ tm 31 = (vN x5) ∧ tm 32 = (vJ i5) ∧ tm 51 = (.bool y5))) (fun k7 => ?_) ?_
     ·rcases Bool.eq_false_or_eq_true x6 with q19 | q19
      ·replace e4 := if_t q19 e4
       refine d_want rfl q19 ?_
       refine d_mv h37 ?_
       refine d_want rfl q19 ?_
       refine d_nck rfl ?_
       refine d_want rfl q19 ?_
       refine d_fad rfl ?_
       refine d_want rfl q19 ?_
       refine d_ldB (q18 _ _ (ph_some.2 ⟨s16.curB 0 rfl, by simp⟩)) 0 s16 rfl rfl rfl rfl ?_
       refine d_want rfl q19 ?_
       refine d_fad h39 ?_
       refine d_want rfl q19 ?_
       refine d_ldB (q18 _ _ (ph_some.2 ⟨s16.curB 5 rfl, by simp⟩)) 5 s16 rfl rfl rfl rfl ?_
       refine d_want rfl q19 ?_
       obtain ⟨x7, q20, e4⟩ := oB e4
       refine d_idx (v := (vS d15 x3.has_)) rfl rfl (s16.curS (s := sB) 1 rfl) rfl q20 fun p5 q21 => ?_
       refine d_want rfl q19 ?_
       refine d_ldsv ((s16.curS 1 rfl).low pR q18) rfl (s16.curS (s := sB) 1 rfl) pR q21 q20 fun w28 h59 h60 => ?_
       refine d_want rfl q19 ?_
       refine d_mv h40 ?_
       refine d_want rfl q19 ?_
       obtain ⟨x8, q22, e4⟩ := oB e4
       refine d_idx (v := w28) rfl rfl h59 rfl q22 fun p6 q23 => ?_
       refine d_want rfl q19 ?_
       refine d_ldb (RdS.low h59 pR q18) rfl h59 pR q23 q22 ?_
       have h61 := vl_bool h59 pR q23 q22
       refine d_want rfl q19 ?_
       refine d_not rfl ?_
       refine d_pickt (a := (.bool (!x8))) rfl q19 rfl ?_
       obtain rfl := oJ e4
       exact k7 _ _ _ ⟨d20.up rfl, _, _, Gw.refl _ _, s16, h37, h38, h39, h40, h42, h43, h44, h45, h46, h47, rfl⟩
      replace e4 := ib_f q19 e4
      refine d_gn rfl q19 ?_
      refine d_gn rfl q19 ?_
      refine d_gn rfl q19 ?_
      refine d_gn rfl q19 ?_
      refine d_gn rfl q19 ?_
      refine d_gn rfl q19 ?_
      refine d_gn rfl q19 ?_
      refine d_gn rfl q19 ?_
      refine d_gn rfl q19 ?_
      refine d_gn rfl q19 ?_
      refine d_gn rfl q19 ?_
      refine d_gn rfl q19 ?_
      refine d_pickf (b := (.bool false)) rfl q19 rfl ?_
      obtain rfl := oJ e4
      exact k7 _ _ _ ⟨d20.up rfl, _, _, Gw.refl _ _, s16, h37, h38, h39, h40, h42, h43, h44, h45, h46, h47, rfl⟩
     intro _ H12 _ i7
     obtain ⟨d21, Z8, V8, g9, s17, h48, h49, h50, h51, h52, h53, h54, h55, h56, h57, h58⟩ := i7
     refine d_nil dc_nil ?_
     obtain ⟨y6, e5, e3⟩ := oB e3
     refine c_jn (I := fun tm H => ∃ (Z9 V9 : PH), Gw Z8 V8 Z9 V9 ∧ Sat Z9 V9 H [pts o1 (.rw 0 [vi x3.g.Terms, vi x3.g.Nons, vi x3.g.Start, (vS d14 x3.g.Rules), vi x3.n, (vS d15 x3.has_), (vS d16 x3.loop_), (vS d17 x3.known_), (vS d18 x3.ends), (vS d19 x3.ways)]), It.sl sB (vS d15 x3.has_) y6.1, Is sB d16 x3.loop_, Is sI1 d17 x3.known_, Is sI2 d19 x3.ways, pts b1 (.rw 0 [vi x2.Left, (vS d7 x2.Right)])] ∧ tm 0 = (pV o1 0) ∧ tm 2 = (.bool y6.2) ∧ tm 4 = (pV b1 0) ∧ tm 12 = (vS d1 s1.2.2.2.1) ∧ tm 13 = (vN s1.2.2.2.1) ∧ tm 14 = (vJ i2) ∧ tm 30 = w27 ∧ tm 31 = (vN x5) ∧ tm 32 = (vJ i5)) (fun k8 => ?_) ?_
     ·refine c_if h58 (fun q24 => ?_) (fun q24 => ?_)
      ·replace e5 := if_t q24 e5
       refine d_start s17 fun n2 H14 s19 q25 d22 => ?_
       refine d_mv h48 ?_
       refine d_nck rfl ?_
       refine d_fad rfl ?_
       refine d_ldB (q25 _ _ (ph_some.2 ⟨s19.curB 0 rfl, by simp⟩)) 0 s19 rfl rfl rfl rfl ?_
       refine d_fad h50 ?_
       refine d_ldB (q25 _ _ (ph_some.2 ⟨s19.curB 5 rfl, by simp⟩)) 5 s19 rfl rfl rfl rfl ?_
       obtain ⟨x9, q26, e5⟩ := oB e5
       refine d_idx (v := (vS d15 x3.has_)) rfl rfl (s19.curS (s := sB) 1 rfl) rfl q26 fun p7 q27 => ?_
       refine d_ldsv ((s19.curS 1 rfl).low pR q25) rfl (s19.curS (s := sB) 1 rfl) pR q27 q26 fun w29 h71 h72 => ?_
       refine d_mv h51 ?_
       obtain ⟨x10, q28, e5⟩ := oB e5
       refine d_idx (v := w29) rfl rfl h71 rfl q28 fun p8 q29 => ?_
       refine d_st2 1 s19 rfl Sh.G3 rfl rfl rfl q27 q26 h72 q29 q28 rfl rfl fun H15 s20 k9 => ?_
       have d23 := d22.keep k9
       refine d_mv (v := (.bool true)) rfl ?_
       refine d_nil dc_nil ?_
       obtain rfl := oJ e5
       exact k8 _ _ ⟨_, _, Gw.refl _ _, s20, h48, rfl, h50, h52, h53, h54, h55, h56, h57⟩
      replace e5 := ib_f q24 e5
      refine c_sk ?_
      obtain rfl := oJ e5
      exact k8 _ _ ⟨_, _, Gw.refl _ _, s17, h48, h49, h50, h52, h53, h54, h55, h56, h57⟩
     intro _ H13 i8
     obtain ⟨Z9, V9, g10, s18, h62, h63, h64, h65, h66, h67, h68, h69, h70⟩ := i8
     refine c_end (c_r (o_add h70 rfl ?_))
     refine o_mv (v := (vi (Pu.W ((i5 : Int) + 1)))) rfl ?_
     refine c_nil ?_
     obtain rfl := oJ e3
     exact k6 _ _ ⟨(iv rfl (w_suc q15 (r2.1).bd)), _, _, (g8.trans (g9.trans g10)), s18, h62, h63, h64, h65, h66, h67, h68, h69⟩
    obtain ⟨hte2, Z10, V10, g11, s21, h73, h74, h75, h76, h77, h78, h79, h80⟩ := jd
    refine c_sr (o_lss hte2 h80 (c_nil (c_sq ?_)))
    refine c_iff rfl (Int.lt_irrefl _) ?_
    refine c_ex ?_
    refine e_c ?_
    refine e_c ?_
    refine e_h ?_
    have s22 := c8 _ _ (Sat.weak g11 z1 s21)
    refine c_end (c_r (o_add h78 rfl ?_))
    refine o_mv (v := (vi (Pu.W ((i2 : Int) + 1)))) rfl ?_
    refine c_nil ?_
    obtain rfl := oJ e2
    exact k5 _ _ ⟨(iv rfl (w_suc q6 (h1).bd)), _, _, _, _, _, _, _, _, (g3.trans (g4.trans (g5.trans g6))), (s22.pick [0, 1, 2, 3, 6, 4] rfl), h73, h74, h76, h77, (h14.mono g6.z)⟩
   obtain ⟨hte1, Z11, V11, w30, w31, w32, w33, w34, w35, g12, s23, h82, h83, h84, h85, h81⟩ := jd
   refine c_sr (o_lss hte1 h85 (c_nil (c_sq ?_)))
   refine c_iff rfl (Int.lt_irrefl _) ?_
   refine c_ex ?_
   refine e_c ?_
   refine e_c ?_
   refine e_h ?_
   refine c_end ?_
   exact k1 _ _ _ (sJ e1) ⟨_, _, _, _, _, _, _, _, (g1.trans g12), s23, h82, h83, h81⟩
  replace e1 := ib_f q4 e1
  refine c_ex ?_
  refine e_c ?_
  refine e_c ?_
  refine e_h ?_
  exact k4 _ _ ⟨_, k2 _ (sJ e1), _, _, _, _, _, _, _, _, g1, s2, h2, h3, h1⟩
 intro _ H3 i9
 obtain ⟨s3, f1, Z2, V2, w7, w8, w9, w10, w11, w12, g2, s4, h5, h6, h4⟩ := i9
 replace e := fin_o f1 e
 obtain ⟨d24, rfl⟩ := (h4).val
 obtain ⟨d25, rfl⟩ := ((s4.curS (s := sB) 1 rfl)).val
 obtain ⟨d26, rfl⟩ := ((s4.curS (s := sB) 2 rfl)).val
 obtain ⟨d27, rfl⟩ := ((s4.curS (s := sI1) 3 rfl)).val
 obtain ⟨d28, rfl⟩ := ((s4.curS (s := sB2) 4 rfl)).val
 obtain ⟨d29, rfl⟩ := ((s4.curS (s := sI2) 5 rfl)).val
 obtain rfl := oJ e
 refine c_done ?_
 exact ⟨.inl rfl, _, rfl, _, _, _, _, _, _, rfl, (((s4.push (ro_it (sl_ro h4))).pick [1, 0, 2, 3, 4, 5, 6] rfl).weak g2 hs.zv)⟩
structure Nd.A9 (T : FuncId → Option AFunc) : Prop where
 own : Has T I.A9 F.A9
 B5 : Nd.B5 T
 D0 : Nd.D0 T
set_option maxHeartbeats 1000000 in
theorem X.A9 {T : FuncId → Option AFunc} (nd : Nd.A9 T) {Z V : PH} {H : Hp} {v1 : Value} {v2 : Value} {v3 : Value} {v4 : Value} {v5 : Value} {v6 : Value} {o1 : Nat} {a0 : Ty.C3} {a1 : Int} (hs : Sat Z V H [pts o1 (.rw 0 [vi a0.g.Terms, vi a0.g.Nons, vi a0.g.Start, v1, vi a0.n, v2, v3, v4, v5, v6]), It.sl sB v2 a0.has_, It.sl sB v3 a0.loop_, It.sl sI1 v4 a0.known_, It.sl sB2 v5 a0.ends, It.sl sI2 v6 a0.ways]) (hp1 : RdS Sh.A6 V v1 a0.g.Rules) {r : (List (List Bool))} (e : P.A9 a0 a1 = some r) :
 G T I.A9 [(pV o1 0), vi a1] H (fun rv H' => ∃ (u1 : Value), rv = u1 ∧ Sat Z V H' [pts o1 (.rw 0 [vi a0.g.Terms, vi a0.g.Nons, vi a0.g.Start, v1, vi a0.n, v2, v3, v4, v5, v6]), It.sl sB v2 a0.has_, It.sl sB v3 a0.loop_, It.sl sI1 v4 a0.known_, It.sl sB2 v5 a0.ends, It.sl sI2 v6 a0.ways, It.sl sB u1 r]) := by
 unfold P.A9 at e
 refine f_mk nd.own ?_
 refine c_sr ?_
 refine o_mv (v := (.slice none 0 0)) rfl ?_
 refine c_nil (c_sq ?_)
 refine d_start hs fun n1 H1 s1 q1 d1 => ?_
 refine d_mv (v := (pV o1 0)) rfl ?_
 refine d_nck rfl ?_
 refine d_fad rfl ?_
 refine d_fad rfl ?_
 obtain ⟨d2, rfl⟩ := (hp1).val
 obtain ⟨d3, rfl⟩ := ((s1.curS (s := sB) 1 rfl)).val
 obtain ⟨d4, rfl⟩ := ((s1.curS (s := sB) 2 rfl)).val
 obtain ⟨d5, rfl⟩ := ((s1.curS (s := sI1) 3 rfl)).val
 obtain ⟨d6, rfl⟩ := ((s1.curS (s := sB2) 4 rfl)).val
 obtain ⟨d7, rfl⟩ := ((s1.curS (s := sI2) 5 rfl)).val
 refine d_ldB (q1 _ _ (ph_some.2 ⟨s1.curB 0 rfl, by simp⟩)) 0 s1 rfl rfl rfl rfl ?_
 refine d_mv (v := (pV o1 0)) rfl ?_
 refine d_nck rfl ?_
 refine d_fad rfl ?_
 refine d_fad rfl ?_
 refine d_ldB (q1 _ _ (ph_some.2 ⟨s1.curB 0 rfl, by simp⟩)) 0 s1 rfl rfl rfl rfl ?_
 obtain ⟨x1, q2, e⟩ := oB e
 obtain ⟨Z1, V1, W1, g1, u1, c1, c2, -, c4, c3⟩ := Sat.call (l1 := []) s1
 refine d_call (mc rfl (mc rfl (mc rfl m0))) (X.B5 nd.B5 c1 q2) fun w1 H2 i1 k1 => ?_
 have d8 := d1.keep k1
 obtain ⟨_, rfl, s2⟩ := i1
 have s3 := c3 _ _ s2
 refine d_mv (v := w1) rfl ?_
 refine d_nil dc_nil ?_
 refine c_gen (P := fun tm => tm 0 = (pV o1 0) ∧ tm 1 = (vi a1) ∧ tm 5 = w1 ∧ True) ⟨rfl, rfl, rfl, trivial⟩ ?_
 intro _ i2
 obtain ⟨h1, h2, h3, -⟩ := i2
 refine c_sq (c_sr (o_mv h1 (o_nck rfl (o_fad rfl ?_))))
 refine o_fad rfl (o_ldB 1 s3 rfl rfl rfl rfl (o_len rfl ((hp1.mono g1.v)).len ?_))
 refine o_mv (v := (vi 0)) rfl ?_
 refine c_nil ?_
 obtain ⟨y1, q5, e⟩ := oB e
 refine c_bk ?_
 refine l_forP (xs := a0.g.Rules) (fun (i3 : Nat) (s4 : (List (List Bool))) tm H => tm 30 = vi i3 ∧ ∃ (Z2 V2 : PH), Gw Z1 V1 Z2 V2 ∧ Sat Z2 V2 H [pts o1 (.rw 0 [vi a0.g.Terms, vi a0.g.Nons, vi a0.g.Start, (vS d2 a0.g.Rules), vi a0.n, (vS d3 a0.has_), (vS d4 a0.loop_), (vS d5 a0.known_), (vS d6 a0.ends), (vS d7 a0.ways)]), Is sB d3 a0.has_, Is sB d4 a0.loop_, Is sI1 d5 a0.known_, Is sB2 d6 a0.ends, Is sI2 d7 a0.ways, It.sl sB w1 s4] ∧ tm 0 = (pV o1 0) ∧ tm 1 = (vi a1) ∧ tm 5 = w1 ∧ tm 28 = (vS d2 a0.g.Rules) ∧ tm 29 = (vN a0.g.Rules)) (fun i3 x2 s4 s6 tm H4 q3 q4 j1 e1 k2 => ?_) (fun tm H3 jd => ?_) q5 ⟨rfl, _, _, Gw.refl _ _, (s3.pick [1, 2, 3, 4, 5, 6, 0] rfl), h1, h2, h3, rfl, rfl⟩
 ·obtain ⟨hti0, Z2, V2, g2, s5, h4, h5, h6, h7, h8⟩ := j1
  unfold P.A9.b0 at e1
  refine c_sr (o_lss hti0 h8 (c_nil (c_sq ?_)))
  refine c_ift rfl (Int.ofNat_lt.2 q4) ?_
  refine c_sk (c_sq (c_bk (c_sr ?_)))
  refine o_idx (v := (vS d2 a0.g.Rules)) h7 hti0 (hp1.mono (g1.trans g2).v) rfl (Pu.ix_nat.trans q3) fun p1 q6 => ?_
  refine o_lda rfl (hp1.mono (g1.trans g2).v) s5.v rfl q6 (Pu.ix_nat.trans q3) fun c5 h9 => ?_
  obtain ⟨w2, rfl, h10⟩ := Sh.G2 h9
  refine o_new s5 fun b1 H5 s7 => ?_
  obtain ⟨d9, rfl⟩ := (h10).val
  refine o_stB (us' := [vi x2.Left, (vS d9 x2.Right)]) 0 s7 rfl rfl rfl rfl rfl rfl rfl fun H6 s8 => ?_
  refine c_nil (c_sr (o_fad rfl (o_ldB 0 s8 rfl rfl rfl rfl (o_len rfl (h10).len ?_))))
  refine o_mv (v := (vi 0)) rfl ?_
  refine c_nil ?_
  obtain ⟨y2, q9, e1⟩ := oB e1
  refine c_bk ?_
  refine l_forP (xs := x2.Right) (fun (i4 : Nat) (s9 : (List (List Bool))) tm H => tm 37 = vi i4 ∧ ∃ (Z3 V3 : PH), Gw Z2 V2 Z3 V3 ∧ Sat Z3 V3 H [pts o1 (.rw 0 [vi a0.g.Terms, vi a0.g.Nons, vi a0.g.Start, (vS d2 a0.g.Rules), vi a0.n, (vS d3 a0.has_), (vS d4 a0.loop_), (vS d5 a0.known_), (vS d6 a0.ends), (vS d7 a0.ways)]), Is sB d3 a0.has_, Is sB d4 a0.loop_, Is sI1 d5 a0.known_, Is sB2 d6 a0.ends, Is sI2 d7 a0.ways, It.sl sB w1 s9, pts b1 (.rw 0 [vi x2.Left, (vS d9 x2.Right)])] ∧ tm 0 = (pV o1 0) ∧ tm 1 = (vi a1) ∧ tm 5 = w1 ∧ tm 7 = (pV b1 0) ∧ tm 28 = (vS d2 a0.g.Rules) ∧ tm 29 = (vN a0.g.Rules) ∧ tm 30 = (vJ i3) ∧ tm 35 = (vS d9 x2.Right) ∧ tm 36 = (vN x2.Right)) (fun i4 x3 s9 s11 tm H8 q7 q8 j2 e2 k3 => ?_) (fun tm H7 jd => ?_) q9 ⟨rfl, _, _, Gw.refl _ _, (s8.pick [1, 2, 3, 4, 5, 6, 7, 0] rfl), h4, h5, h6, rfl, h7, h8, hti0, rfl, rfl⟩
  ·obtain ⟨hti1, Z3, V3, g3, s10, h11, h12, h13, h14, h15, h16, h17, h18, h19⟩ := j2
   unfold P.A9.b1 at e2
   refine c_sr (o_lss hti1 h19 (c_nil (c_sq ?_)))
   refine c_ift rfl (Int.ofNat_lt.2 q8) ?_
   refine c_sk (c_sq (c_bk (c_sr (o_mv hti1 ?_))))
   refine o_idx (v := (vS d9 x2.Right)) h18 hti1 (h10.mono g3.v) rfl (Pu.ix_nat.trans q7) fun p2 q10 => ?_
   refine o_lda rfl (h10.mono g3.v) s10.v rfl q10 (Pu.ix_nat.trans q7) fun c6 h20 => ?_
   obtain rfl := h20
   refine o_new s10 fun b2 H9 s12 => ?_
   refine o_mv (v := (vJ i4)) rfl ?_
   refine o_stB (us' := [(.bool x3.Term), vi x3.N]) 0 s12 rfl rfl rfl rfl rfl rfl rfl fun H10 s13 => ?_
   refine c_nil (c_sq (c_sq ?_))
   refine c_gen (P := fun tm => tm 0 = (pV o1 0) ∧ tm 1 = (vi a1) ∧ tm 5 = w1 ∧ tm 7 = (pV b1 0) ∧ tm 8 = (vJ i4) ∧ tm 9 = (pV b2 0) ∧ tm 28 = (vS d2 a0.g.Rules) ∧ tm 29 = (vN a0.g.Rules) ∧ tm 30 = (vJ i3) ∧ tm 35 = (vS d9 x2.Right) ∧ tm 36 = (vN x2.Right) ∧ tm 37 = (vJ i4) ∧ True) ⟨h11, h12, h13, h14, rfl, rfl, h15, h16, h17, h18, h19, hti1, trivial⟩ ?_
   intro _ i5
   obtain ⟨h21, h22, h23, h24, h25, h26, h27, h28, h29, h30, h31, h32, -⟩ := i5
   refine d_start s13 fun n2 H11 s14 q11 d10 => ?_
   refine d_fad h26 ?_
   refine d_ldB (q11 _ _ (ph_some.2 ⟨s14.curB 0 rfl, by simp⟩)) 0 s14 rfl rfl rfl rfl ?_
   refine d_mv (v := (.bool x3.Term)) rfl ?_
   obtain ⟨y3, e3, e2⟩ := oB e2
   refine d_jn 13 (I := fun tm H => DD n2 16 (List.length F.A9.r8) H ∧ (∃ (Z4 V4 : PH), Gw Z3 V3 Z4 V4 ∧ Sat Z4 V4 H [pts o1 (.rw 0 [vi a0.g.Terms, vi a0.g.Nons, vi a0.g.Start, (vS d2 a0.g.Rules), vi a0.n, (vS d3 a0.has_), (vS d4 a0.loop_), (vS d5 a0.known_), (vS d6 a0.ends), (vS d7 a0.ways)]), Is sB d3 a0.has_, Is sB d4 a0.loop_, Is sI1 d5 a0.known_, Is sB2 d6 a0.ends, Is sI2 d7 a0.ways, It.sl sB w1 s9, pts b1 (.rw 0 [vi x2.Left, (vS d9 x2.Right)]), pts b2 (.rw 0 [(.bool x3.Term), vi x3.N])] ∧ tm 0 = (pV o1 0) ∧ tm 1 = (vi a1) ∧ tm 5 = w1 ∧ tm 7 = (pV b1 0) ∧ tm 8 = (vJ i4) ∧ tm 9 = (pV b2 0) ∧ tm 28 = (vS d2 a0.g.Rules) ∧ tm 29 = (vN a0.g.Rules) ∧ tm 30 = (vJ i3) ∧ tm 35 = (vS d9 x2.Right) ∧ tm 36 = (vN x2.Right) ∧ tm 37 = (vJ i4) ∧ tm 57 = (.bool y3))) (fun k4 => ?_) ?_
   ·rcases Bool.eq_false_or_eq_true x3.Term with q12 | q12
    ·replace e3 := if_t q12 e3
     refine d_gn rfl q12 ?_
     refine d_gn rfl q12 ?_
     refine d_gn rfl q12 ?_
     refine d_gn rfl q12 ?_
     refine d_gn rfl q12 ?_
     refine d_gn rfl q12 ?_
     refine d_gn rfl q12 ?_
     refine d_gn rfl q12 ?_
     refine d_gn rfl q12 ?_
     refine d_gn rfl q12 ?_
     refine d_gn rfl q12 ?_
     refine d_gn rfl q12 ?_
     refine d_pickt (a := (.bool true)) rfl q12 rfl ?_
     obtain rfl := oJ e3
     exact k4 _ _ _ ⟨d10.up rfl, _, _, Gw.refl _ _, (s14.pick [1, 2, 3, 4, 5, 6, 7, 8, 0] rfl), h21, h22, h23, h24, h25, h26, h27, h28, h29, h30, h31, h32, rfl⟩
    replace e3 := ib_f q12 e3
    refine d_want rfl q12 ?_
    refine d_mv h21 ?_
    refine d_want rfl q12 ?_
    refine d_nck rfl ?_
    refine d_want rfl q12 ?_
    refine d_fad rfl ?_
    refine d_want rfl q12 ?_
    refine d_ldB (q11 _ _ (ph_some.2 ⟨s14.curB 1 rfl, by simp⟩)) 1 s14 rfl rfl rfl rfl ?_
    refine d_want rfl q12 ?_
    refine d_fad h26 ?_
    refine d_want rfl q12 ?_
    refine d_ldB (q11 _ _ (ph_some.2 ⟨s14.curB 0 rfl, by simp⟩)) 0 s14 rfl rfl rfl rfl ?_
    refine d_want rfl q12 ?_
    obtain ⟨x4, q13, e3⟩ := oB e3
    refine d_idx (v := (vS d3 a0.has_)) rfl rfl (s14.curS (s := sB) 2 rfl) rfl q13 fun p3 q14 => ?_
    refine d_want rfl q12 ?_
    refine d_ldsv ((s14.curS 2 rfl).low pR q11) rfl (s14.curS (s := sB) 2 rfl) pR q14 q13 fun w3 h46 h47 => ?_
    refine d_want rfl q12 ?_
    refine d_mv h22 ?_
    refine d_want rfl q12 ?_
    obtain ⟨x5, q15, e3⟩ := oB e3
    refine d_idx (v := w3) rfl rfl h46 rfl q15 fun p4 q16 => ?_
    refine d_want rfl q12 ?_
    refine d_ldb (RdS.low h46 pR q11) rfl h46 pR q16 q15 ?_
    have h48 := vl_bool h46 pR q16 q15
    refine d_want rfl q12 ?_
    refine d_not rfl ?_
    refine d_pickf (b := (.bool (!x5))) rfl q12 rfl ?_
    obtain rfl := oJ e3
    exact k4 _ _ _ ⟨d10.up rfl, _, _, Gw.refl _ _, (s14.pick [1, 2, 3, 4, 5, 6, 7, 8, 0] rfl), h21, h22, h23, h24, h25, h26, h27, h28, h29, h30, h31, h32, rfl⟩
   intro _ H12 _ i6
   obtain ⟨d11, Z4, V4, g4, s15, h33, h34, h35, h36, h37, h38, h39, h40, h41, h42, h43, h44, h45⟩ := i6
   refine d_nil dc_nil ?_
   refine c_if h45 (fun q17 => ?_) (fun q17 => ?_)
   ·replace e2 := if_t q17 e2
    refine c_ex ?_
    refine e_c ?_
    refine e_h ?_
    refine c_r (o_add h44 rfl ?_)
    refine o_mv (v := (vi (Pu.W ((i4 : Int) + 1)))) rfl ?_
    refine c_nil ?_
    obtain rfl := oJ e2
    exact k3 _ _ ⟨(iv rfl (w_suc q8 (h10).bd)), _, _, (g3.trans g4), (s15.pick [0, 1, 2, 3, 4, 5, 6, 7] rfl), h33, h34, h35, h36, h39, h40, h41, h42, h43⟩
   replace e2 := ib_f q17 e2
   refine c_sk (c_sr ?_)
   refine o_mv (v := (.bool true)) rfl ?_
   refine c_nil (c_sq (c_sr (o_fad h36 (o_ldB 7 s15 rfl rfl rfl rfl ?_))))
   refine o_len rfl ((h10.mono (g3.trans g4).v)).len ?_
   refine o_mv (v := (vi 0)) rfl ?_
   refine c_nil ?_
   obtain ⟨y4, q20, e2⟩ := oB e2
   refine c_bk ?_
   refine l_forP (xs := x2.Right) (fun (i7 : Nat) (s16 : Bool) tm H => tm 61 = vi i7 ∧ ∃ (Z5 V5 : PH), Gw Z4 V4 Z5 V5 ∧ Sat Z5 V5 H [pts o1 (.rw 0 [vi a0.g.Terms, vi a0.g.Nons, vi a0.g.Start, (vS d2 a0.g.Rules), vi a0.n, (vS d3 a0.has_), (vS d4 a0.loop_), (vS d5 a0.known_), (vS d6 a0.ends), (vS d7 a0.ways)]), Is sB d3 a0.has_, Is sB d4 a0.loop_, Is sI1 d5 a0.known_, Is sB2 d6 a0.ends, Is sI2 d7 a0.ways, It.sl sB w1 s9, pts b1 (.rw 0 [vi x2.Left, (vS d9 x2.Right)]), pts b2 (.rw 0 [(.bool x3.Term), vi x3.N])] ∧ tm 0 = (pV o1 0) ∧ tm 1 = (vi a1) ∧ tm 5 = w1 ∧ tm 7 = (pV b1 0) ∧ tm 8 = (vJ i4) ∧ tm 9 = (pV b2 0) ∧ tm 10 = (.bool s16) ∧ tm 28 = (vS d2 a0.g.Rules) ∧ tm 29 = (vN a0.g.Rules) ∧ tm 30 = (vJ i3) ∧ tm 35 = (vS d9 x2.Right) ∧ tm 36 = (vN x2.Right) ∧ tm 37 = (vJ i4) ∧ tm 59 = (vS d9 x2.Right) ∧ tm 60 = (vN x2.Right)) (fun i7 x6 s16 s18 tm H14 q18 q19 j3 e4 k5 => ?_) (fun tm H13 jd => ?_) q20 ⟨rfl, _, _, Gw.refl _ _, s15, h33, h34, h35, h36, h37, h38, rfl, h39, h40, h41, h42, h43, h44, rfl, rfl⟩
   ·obtain ⟨hti2, Z5, V5, g5, s17, h49, h50, h51, h52, h53, h54, h55, h56, h57, h58, h59, h60, h61, h62, h63⟩ := j3
    unfold P.A9.b2 at e4
    refine c_sr (o_lss hti2 h63 (c_nil (c_sq ?_)))
    refine c_ift rfl (Int.ofNat_lt.2 q19) ?_
    refine c_sk (c_sq (c_bk (c_sr (o_mv hti2 ?_))))
    refine o_idx (v := (vS d9 x2.Right)) h62 hti2 (h10.mono (g3.trans (g4.trans g5)).v) rfl (Pu.ix_nat.trans q18) fun p5 q21 => ?_
    refine o_lda rfl (h10.mono (g3.trans (g4.trans g5)).v) s17.v rfl q21 (Pu.ix_nat.trans q18) fun c7 h64 => ?_
    obtain rfl := h64
    refine o_new s17 fun b3 H15 s19 => ?_
    refine o_mv (v := (vJ i7)) rfl ?_
    refine o_stB (us' := [(.bool x6.Term), vi x6.N]) 0 s19 rfl rfl rfl rfl rfl rfl rfl fun H16 s20 => ?_
    refine c_nil (c_r (o_mv h55 ?_))
    refine o_mv (v := (.bool s16)) rfl ?_
    obtain ⟨y5, e5, e4⟩ := oB e4
    refine o_jn 9 (I := fun tm H => ∃ (Z6 V6 : PH), Gw Z5 V5 Z6 V6 ∧ Sat Z6 V6 H [pts o1 (.rw 0 [vi a0.g.Terms, vi a0.g.Nons, vi a0.g.Start, (vS d2 a0.g.Rules), vi a0.n, (vS d3 a0.has_), (vS d4 a0.loop_), (vS d5 a0.known_), (vS d6 a0.ends), (vS d7 a0.ways)]), Is sB d3 a0.has_, Is sB d4 a0.loop_, Is sI1 d5 a0.known_, Is sB2 d6 a0.ends, Is sI2 d7 a0.ways, It.sl sB w1 s9, pts b1 (.rw 0 [vi x2.Left, (vS d9 x2.Right)]), pts b2 (.rw 0 [(.bool x3.Term), vi x3.N])] ∧ tm 0 = (pV o1 0) ∧ tm 1 = (vi a1) ∧ tm 5 = w1 ∧ tm 7 = (pV b1 0) ∧ tm 8 = (vJ i4) ∧ tm 9 = (pV b2 0) ∧ tm 28 = (vS d2 a0.g.Rules) ∧ tm 29 = (vN a0.g.Rules) ∧ tm 30 = (vJ i3) ∧ tm 35 = (vS d9 x2.Right) ∧ tm 36 = (vN x2.Right) ∧ tm 37 = (vJ i4) ∧ tm 59 = (vS d9 x2.Right) ∧ tm 60 = (vN x2.Right) ∧ tm 61 = (vJ i7) ∧ tm 76 = (.bool y5)) (fun k6 => ?_) ?_
    ·rcases Bool.eq_false_or_eq_true s16 with q22 | q22
     ·replace e5 := if_t q22 e5
      refine o_gy rfl q22 ?_
      refine o_mv (v := (vJ i7)) rfl ?_
      refine o_gy rfl q22 (o_mv h53 (o_gy rfl q22 (o_eql rfl rfl (o_gy rfl q22 ?_))))
      refine o_mv (v := (.bool (decide ((i7 : Int) = (i4 : Int))))) rfl ?_
      obtain ⟨y6, e6, e5⟩ := oB e5
      refine o_jn 4 (I := fun tm H => ∃ (Z7 V7 : PH), Gw Z5 V5 Z7 V7 ∧ Sat Z7 V7 H [pts o1 (.rw 0 [vi a0.g.Terms, vi a0.g.Nons, vi a0.g.Start, (vS d2 a0.g.Rules), vi a0.n, (vS d3 a0.has_), (vS d4 a0.loop_), (vS d5 a0.known_), (vS d6 a0.ends), (vS d7 a0.ways)]), Is sB d3 a0.has_, Is sB d4 a0.loop_, Is sI1 d5 a0.known_, Is sB2 d6 a0.ends, Is sI2 d7 a0.ways, It.sl sB w1 s9, pts b1 (.rw 0 [vi x2.Left, (vS d9 x2.Right)]), pts b2 (.rw 0 [(.bool x3.Term), vi x3.N])] ∧ tm 0 = (pV o1 0) ∧ tm 1 = (vi a1) ∧ tm 5 = w1 ∧ tm 7 = (pV b1 0) ∧ tm 8 = (vJ i4) ∧ tm 9 = (pV b2 0) ∧ tm 28 = (vS d2 a0.g.Rules) ∧ tm 29 = (vN a0.g.Rules) ∧ tm 30 = (vJ i3) ∧ tm 35 = (vS d9 x2.Right) ∧ tm 36 = (vN x2.Right) ∧ tm 37 = (vJ i4) ∧ tm 59 = (vS d9 x2.Right) ∧ tm 60 = (vN x2.Right) ∧ tm 61 = (vJ i7) ∧ tm 67 = (.bool s16) ∧ tm 68 = (vJ i7) ∧ tm 69 = (vJ i4) ∧ tm 70 = (.bool (decide ((i7 : Int) = (i4 : Int)))) ∧ tm 71 = (.bool (decide ((i7 : Int) = (i4 : Int)))) ∧ tm 75 = (.bool y6)) (fun k7 => ?_) ?_
      ·rcases Bool.eq_false_or_eq_true (decide ((i7 : Int) = (i4 : Int))) with q23 | q23
       ·replace e6 := if_t q23 e6
        refine o_gn rfl q23 (o_gn rfl q23 (o_gn rfl q23 (o_gy rfl q22 ?_)))
        refine o_pickt (a := (.bool true)) rfl q23 rfl ?_
        obtain rfl := oJ e6
        exact k7 _ _ ⟨_, _, Gw.refl _ _, (s20.pick [1, 2, 3, 4, 5, 6, 7, 8, 9] rfl), h49, h50, h51, h52, h53, h54, h56, h57, h58, h59, h60, h61, h62, h63, hti2, rfl, rfl, rfl, rfl, rfl, rfl⟩
       replace e6 := ib_f q23 e6
       refine o_gy rfl q23 (o_mv h49 (o_gy rfl q23 (o_ldB 0 s20 rfl rfl rfl rfl (o_gy rfl q23 ?_))))
       obtain ⟨x7, q24, e6⟩ := oB e6
       obtain ⟨Z8, V8, W2, g8, u2, c8, c9, -, c11, c10⟩ := Sat.call (l1 := []) s20
       refine o_call (mc rfl (mc rfl (mc rfl m0))) (X.D0 nd.D0 (a0 := a0) c8 (hp1.mono (((g1.trans (g2.trans (g3.trans (g4.trans g5)))).trans g8).v.trans u2)) (c9 2 _ sB _ _ rfl) (c9 3 _ sB _ _ rfl) (c9 4 _ sI1 _ _ rfl) (c9 5 _ sB2 _ _ rfl) (c9 6 _ sI2 _ _ rfl) (c11 1 _ _ rfl) q24) fun _ H19 i8 => ?_
       obtain ⟨rfl, s23⟩ := i8
       have s24 := c10 _ _ s23
       refine o_gy rfl q22 ?_
       refine o_pickf (b := (.bool x7)) rfl q23 rfl ?_
       obtain rfl := oJ e6
       exact k7 _ _ ⟨_, _, g8, (s24.pick [1, 2, 3, 4, 5, 6, 7, 8, 9] rfl), h49, h50, h51, h52, h53, h54, h56, h57, h58, h59, h60, h61, h62, h63, hti2, rfl, rfl, rfl, rfl, rfl, rfl⟩
      intro _ H18 i9
      obtain ⟨Z7, V7, g7, s22, h81, h82, h83, h84, h85, h86, h87, h88, h89, h90, h91, h92, h93, h94, h95, h96, h97, h98, h99, h100, h101⟩ := i9
      refine o_pickt (a := (.bool y6)) h96 q22 h101 ?_
      obtain rfl := oJ e5
      exact k6 _ _ ⟨_, _, g7, s22, h81, h82, h83, h84, h85, h86, h87, h88, h89, h90, h91, h92, h93, h94, h95, rfl⟩
     replace e5 := ib_f q22 e5
     refine o_gn rfl q22 (o_gn rfl q22 (o_gn rfl q22 (o_gn rfl q22 (o_gu rfl ?_))))
     refine o_gu rfl (o_gu rfl (o_gn rfl q22 ?_))
     refine o_pickf (b := (.bool false)) rfl q22 rfl ?_
     obtain rfl := oJ e5
     exact k6 _ _ ⟨_, _, Gw.refl _ _, (s20.pick [1, 2, 3, 4, 5, 6, 7, 8, 9] rfl), h49, h50, h51, h52, h53, h54, h56, h57, h58, h59, h60, h61, h62, h63, hti2, rfl⟩
    intro _ H17 i10
    obtain ⟨Z6, V6, g6, s21, h65, h66, h67, h68, h69, h70, h71, h72, h73, h74, h75, h76, h77, h78, h79, h80⟩ := i10
    refine o_mv h80 (c_nil (c_end (c_r (o_add h79 rfl ?_))))
    refine o_mv (v := (vi (Pu.W ((i7 : Int) + 1)))) rfl ?_
    refine c_nil ?_
    obtain rfl := oJ e4
    exact k5 _ _ ⟨(iv rfl (w_suc q19 ((h10.mono (g3.trans g4).v)).bd)), _, _, (g5.trans g6), s21, h65, h66, h67, h68, h69, h70, rfl, h71, h72, h73, h74, h75, h76, h77, h78⟩
   obtain ⟨hte2, Z9, V9, g9, s25, h102, h103, h104, h105, h106, h107, h108, h109, h110, h111, h112, h113, h114, h115, h116⟩ := jd
   refine c_sr (o_lss hte2 h116 (c_nil (c_sq ?_)))
   refine c_iff rfl (Int.lt_irrefl _) ?_
   refine c_ex ?_
   refine e_c ?_
   refine e_c ?_
   refine e_h ?_
   refine d_start s25 fun n3 H21 s26 q25 d12 => ?_
   refine d_mv h104 ?_
   refine d_fad h105 ?_
   refine d_ldB (q25 _ _ (ph_some.2 ⟨s26.curB 7 rfl, by simp⟩)) 7 s26 rfl rfl rfl rfl ?_
   obtain ⟨x8, q26, e2⟩ := oB e2
   refine d_idx (v := w1) rfl rfl (s26.curS (s := sB) 6 rfl) rfl q26 fun p6 q27 => ?_
   refine d_ldsv ((s26.curS 6 rfl).low pR q25) rfl (s26.curS (s := sB) 6 rfl) pR q27 q26 fun w4 h117 h118 => ?_
   refine d_fad h107 ?_
   refine d_ldB (q25 _ _ (ph_some.2 ⟨s26.curB 8 rfl, by simp⟩)) 8 s26 rfl rfl rfl rfl ?_
   refine d_mv h104 ?_
   refine d_fad h105 ?_
   refine d_ldB (q25 _ _ (ph_some.2 ⟨s26.curB 7 rfl, by simp⟩)) 7 s26 rfl rfl rfl rfl ?_
   obtain ⟨x9, q28, e2⟩ := oB e2
   refine d_idx (v := w1) rfl rfl (s26.curS (s := sB) 6 rfl) rfl q28 fun p7 q29 => ?_
   refine d_ldsv ((s26.curS 6 rfl).low pR q25) rfl (s26.curS (s := sB) 6 rfl) pR q29 q28 fun w5 h119 h120 => ?_
   refine d_fad h107 ?_
   refine d_ldB (q25 _ _ (ph_some.2 ⟨s26.curB 8 rfl, by simp⟩)) 8 s26 rfl rfl rfl rfl ?_
   obtain ⟨x10, q30, e2⟩ := oB e2
   refine d_idx (v := w5) rfl rfl h119 rfl q30 fun p8 q31 => ?_
   refine d_ldb (RdS.low h119 pR q25) rfl h119 pR q31 q30 ?_
   have h121 := vl_bool h119 pR q31 q30
   refine d_mv (v := (.bool x10)) rfl ?_
   refine d_jn 2 (I := fun tm H => DD n3 19 (List.length F.A9.r15) H ∧ tm 96 = .bool (x10 || y4) ∧ (∃ (Z10 V10 : PH), Gw Z9 V9 Z10 V10 ∧ Sat Z10 V10 H [pts o1 (.rw 0 [vi a0.g.Terms, vi a0.g.Nons, vi a0.g.Start, (vS d2 a0.g.Rules), vi a0.n, (vS d3 a0.has_), (vS d4 a0.loop_), (vS d5 a0.known_), (vS d6 a0.ends), (vS d7 a0.ways)]), Is sB d3 a0.has_, Is sB d4 a0.loop_, Is sI1 d5 a0.known_, Is sB2 d6 a0.ends, Is sI2 d7 a0.ways, It.sl sB w1 s9, pts b1 (.rw 0 [vi x2.Left, (vS d9 x2.Right)])] ∧ tm 0 = (pV o1 0) ∧ tm 1 = (vi a1) ∧ tm 5 = w1 ∧ tm 7 = (pV b1 0) ∧ tm 28 = (vS d2 a0.g.Rules) ∧ tm 29 = (vN a0.g.Rules) ∧ tm 30 = (vJ i3) ∧ tm 35 = (vS d9 x2.Right) ∧ tm 36 = (vN x2.Right) ∧ tm 37 = (vJ i4) ∧ tm 82 = w4 ∧ tm 84 = (vi x3.N) ∧ RdS Sh.bool (Hp.ph H) w4 x8 ∧ vload H 1 false p6 = some w4)) (fun k8 => ?_) ?_
   ·rcases Bool.eq_false_or_eq_true x10 with q32 | q32
    ·refine d_gn rfl q32 ?_
     refine d_pickt (a := (.bool true)) rfl q32 rfl ?_
     exact k8 _ _ _ ⟨d12.up rfl, gf rfl (by first | (rw [q32]; first | done | rfl) | simp [q32]), _, _, Gw.refl _ _, (s26.pick [0, 1, 2, 3, 4, 5, 6, 7] rfl), h102, h103, h104, h105, h109, h110, h111, h112, h113, h114, rfl, rfl, h117, h118⟩
    refine d_want rfl q32 ?_
    refine d_mv h108 ?_
    refine d_pickf (b := (.bool y4)) rfl q32 rfl ?_
    exact k8 _ _ _ ⟨d12.up rfl, gf rfl (by first | (rw [q32]; first | done | rfl) | simp [q32]), _, _, Gw.refl _ _, (s26.pick [0, 1, 2, 3, 4, 5, 6, 7] rfl), h102, h103, h104, h105, h109, h110, h111, h112, h113, h114, rfl, rfl, h117, h118⟩
   intro _ H22 _ i11
   obtain ⟨d13, h136, Z10, V10, g10, s27, h124, h125, h126, h127, h128, h129, h130, h131, h132, h133, h134, h135, h122, h123⟩ := i11
   obtain ⟨x11, q33, e2⟩ := oB e2
   refine d_idx (v := w4) h134 h135 h122 rfl q33 fun p9 q34 => ?_
   refine d_st2 6 s27 rfl Sh.G3 rfl rfl h136 q27 q26 h123 q34 q33 rfl rfl fun H23 s28 k9 => ?_
   have d14 := d13.keep k9
   refine d_nil dc_nil ?_
   refine c_end (c_r (o_add h133 rfl ?_))
   refine o_mv (v := (vi (Pu.W ((i4 : Int) + 1)))) rfl ?_
   refine c_nil ?_
   obtain rfl := oJ e2
   exact k3 _ _ ⟨(iv rfl (w_suc q8 (h10).bd)), _, _, (g3.trans (g4.trans (g9.trans g10))), s28, h124, h125, h126, h127, h128, h129, h130, h131, h132⟩
  obtain ⟨hte1, Z11, V11, g11, s29, h137, h138, h139, h140, h141, h142, h143, h144, h145⟩ := jd
  refine c_sr (o_lss hte1 h145 (c_nil (c_sq ?_)))
  refine c_iff rfl (Int.lt_irrefl _) ?_
  refine c_ex ?_
  refine e_c ?_
  refine e_c ?_
  refine e_h ?_
  refine c_end (c_r (o_add h143 rfl ?_))
  refine o_mv (v := (vi (Pu.W ((i3 : Int) + 1)))) rfl ?_
  refine c_nil ?_
  obtain rfl := oJ e1
  exact k2 _ _ ⟨(iv rfl (w_suc q4 ((hp1.mono g1.v)).bd)), _, _, (g2.trans g11), (s29.pick [0, 1, 2, 3, 4, 5, 6] rfl), h137, h138, h139, h141, h142⟩
 obtain ⟨hte0, Z12, V12, g12, s30, h146, h147, h148, h149, h150⟩ := jd
 refine c_sr (o_lss hte0 h150 (c_nil (c_sq ?_)))
 refine c_iff rfl (Int.lt_irrefl _) ?_
 refine c_ex ?_
 refine e_c ?_
 refine e_c ?_
 refine e_h ?_
 refine c_sr (o_mv h148 ?_)
 refine o_mv (v := w1) rfl ?_
 refine c_nil (c_rt ?_)
 obtain rfl := oJ e
 exact ⟨.inr rfl, _, (ar1 rfl), _, rfl, (s30.weak (g1.trans g12) hs.zv)⟩
structure Nd.B3 (T : FuncId → Option AFunc) : Prop where
 own_census_table_endless : Has T I.B3 F.B3
 D0 : Nd.D0 T
set_option maxHeartbeats 1000000 in
theorem X.census_table_endless_rec {T : FuncId → Option AFunc} (nd : Nd.B3 T) : ∀ φ : Nat, (∀ {Z V : PH} {H : Hp} {v1 : Value} {v2 : Value} {v3 : Value} {v4 : Value} {v5 : Value} {v6 : Value} {o1 : Nat} {a0 : Ty.C3} {a1 : Int} {a2 : Int} {a3 : Int} (hs : Sat Z V H [pts o1 (.rw 0 [vi a0.g.Terms, vi a0.g.Nons, vi a0.g.Start, v1, vi a0.n, v2, v3, v4, v5, v6]), It.sl sB v2 a0.has_, It.sl sB v3 a0.loop_, It.sl sI1 v4 a0.known_, It.sl sB2 v5 a0.ends, It.sl sI2 v6 a0.ways]) (hp1 : RdS Sh.A6 Z v1 a0.g.Rules) {r : (Ty.C3 × Bool)} (e : P.B3 φ a0 a1 a2 a3 = some r), G T I.B3 [(pV o1 0), vi a1, vi a2, vi a3] H (fun rv H' => ∃ (u1 : Value) (u2 : Value) (u3 : Value) (u4 : Value) (u5 : Value) (u6 : Value), rv = (.bool r.2) ∧ Sat Z V H' [pts o1 (.rw 0 [vi r.1.g.Terms, vi r.1.g.Nons, vi r.1.g.Start, u1, vi r.1.n, u2, u3, u4, u5, u6]), Sh.it (Sh.ro (Sh.sl Sh.A6)) [u1] r.1.g.Rules, It.sl sB u2 r.1.has_, It.sl sB u3 r.1.loop_, It.sl sI1 u4 r.1.known_, It.sl sB2 u5 r.1.ends, It.sl sI2 u6 r.1.ways])) := by
 intro φ
 induction φ with
 | zero =>
   intro Z V H v1 v2 v3 v4 v5 v6 o1 a0 a1 a2 a3 hs hp1 r e
   rw [P.B3] at e; cases e
 | succ φ ih =>
   intro Z V H v1 v2 v3 v4 v5 v6 o1 a0 a1 a2 a3 hs hp1 r e
   rw [P.B3] at e
   refine f_mk nd.own_census_table_endless ?_
   refine c_sr ?_
   refine o_mv (v := (.bool false)) rfl ?_
   refine c_nil (c_sr ?_)
   refine o_mv (v := (pV o1 0)) rfl ?_
   refine o_nck rfl (o_fad rfl (o_fad rfl ?_))
   obtain ⟨d1, rfl⟩ := (hp1).val
   obtain ⟨d2, rfl⟩ := ((hs.curS (s := sB) 1 rfl)).val
   obtain ⟨d3, rfl⟩ := ((hs.curS (s := sB) 2 rfl)).val
   obtain ⟨d4, rfl⟩ := ((hs.curS (s := sI1) 3 rfl)).val
   obtain ⟨d5, rfl⟩ := ((hs.curS (s := sB2) 4 rfl)).val
   obtain ⟨d6, rfl⟩ := ((hs.curS (s := sI2) 5 rfl)).val
   refine o_ldB 0 hs rfl rfl rfl rfl ?_
   refine o_mv (v := (vi a1)) rfl ?_
   obtain ⟨x1, q1, e⟩ := oB e
   refine o_idx (v := (vS d1 a0.g.Rules)) rfl rfl hp1 rfl q1 fun p1 q2 => ?_
   refine o_fadE rfl q2 fun p2 q3 => ?_
   refine o_ldF rfl hp1 hs.z rfl q2 q3 q1 rfl fun c1 h1 => ?_
   obtain ⟨w1, rfl, h2⟩ := Sh.G2 h1
   refine ⟨_, rfl, ?_⟩
   refine o_mv (v := w1) rfl ?_
   refine c_nil ?_
   refine c_gen (P := fun tm => tm 0 = (pV o1 0) ∧ tm 1 = (vi a1) ∧ tm 2 = (vi a2) ∧ tm 3 = (vi a3) ∧ tm 9 = w1 ∧ True) ⟨rfl, rfl, rfl, rfl, rfl, trivial⟩ ?_
   intro _ i1
   obtain ⟨h3, h4, h5, h6, h7, -⟩ := i1
   refine c_sq (c_sr (o_mv h5 (o_mv h7 (o_len rfl (h2).len ?_))))
   refine o_eql rfl rfl ?_
   refine o_mv (v := (.bool (decide (a2 = (x1.Right.length : Int))))) rfl ?_
   obtain ⟨y1, e1, e⟩ := oB e
   refine o_jn 15 (I := fun tm H => ∃ (Z1 V1 : PH), Gw Z V Z1 V1 ∧ Sat Z1 V1 H [pts o1 (.rw 0 [vi a0.g.Terms, vi a0.g.Nons, vi a0.g.Start, (vS d1 a0.g.Rules), vi a0.n, (vS d2 a0.has_), (vS d3 a0.loop_), (vS d4 a0.known_), (vS d5 a0.ends), (vS d6 a0.ways)]), Is sB d2 a0.has_, Is sB d3 a0.loop_, Is sI1 d4 a0.known_, Is sB2 d5 a0.ends, Is sI2 d6 a0.ways] ∧ tm 0 = (pV o1 0) ∧ tm 1 = (vi a1) ∧ tm 2 = (vi a2) ∧ tm 3 = (vi a3) ∧ tm 9 = w1 ∧ tm 39 = (.bool y1)) (fun k1 => ?_) ?_
   ·rcases Bool.eq_false_or_eq_true (decide (a2 = (x1.Right.length : Int))) with q4 | q4
    ·replace e1 := if_t q4 e1
     refine o_gn rfl q4 (o_gn rfl q4 (o_gn rfl q4 (o_gn rfl q4 (o_gn rfl q4 ?_))))
     refine o_gn rfl q4 (o_gn rfl q4 (o_gn rfl q4 (o_gn rfl q4 (o_gn rfl q4 ?_))))
     refine o_gn rfl q4 (o_gn rfl q4 (o_gn rfl q4 (o_gn rfl q4 ?_)))
     refine o_pickt (a := (.bool true)) rfl q4 rfl ?_
     obtain rfl := oJ e1
     exact k1 _ _ ⟨_, _, Gw.refl _ _, hs, h3, h4, h5, h6, h7, rfl⟩
    replace e1 := ib_f q4 e1
    refine o_gy rfl q4 (o_mv h3 (o_gy rfl q4 (o_nck rfl (o_gy rfl q4 ?_))))
    refine o_fad rfl (o_gy rfl q4 (o_ldB 0 hs rfl rfl rfl rfl (o_gy rfl q4 (o_mv h4 ?_))))
    refine o_gy rfl q4 ?_
    obtain ⟨x2, q5, e1⟩ := oB e1
    refine o_idx (v := (vS d5 a0.ends)) rfl rfl (hs.curS (s := sB2) 4 rfl) rfl q5 fun p3 q6 => ?_
    refine o_gy rfl q4 ?_
    refine o_ldsv rfl (hs.curS (s := sB2) 4 rfl) pR q6 q5 fun w2 h14 h15 => ?_
    refine o_gy rfl q4 (o_mv h5 (o_gy rfl q4 ?_))
    obtain ⟨x3, q7, e1⟩ := oB e1
    refine o_idx (v := w2) rfl rfl h14 rfl q7 fun p4 q8 => ?_
    refine o_gy rfl q4 ?_
    refine o_ldsv rfl h14 pR q8 q7 fun w3 h16 h17 => ?_
    refine o_gy rfl q4 (o_mv h6 (o_gy rfl q4 ?_))
    obtain ⟨x4, q9, e1⟩ := oB e1
    refine o_idx (v := w3) rfl rfl h16 rfl q9 fun p5 q10 => ?_
    refine o_gy rfl q4 (o_ldb rfl h16 pR q10 q9 (o_gy rfl q4 (o_not rfl ?_)))
    refine o_pickf (b := (.bool (!x4))) rfl q4 rfl ?_
    obtain rfl := oJ e1
    exact k1 _ _ ⟨_, _, Gw.refl _ _, hs, h3, h4, h5, h6, h7, rfl⟩
   intro _ H1 i2
   obtain ⟨Z1, V1, g1, s1, h8, h9, h10, h11, h12, h13⟩ := i2
   refine c_nil ?_
   refine c_if h13 (fun q11 => ?_) (fun q11 => ?_)
   ·replace e := if_t q11 e
    refine c_sr ?_
    refine o_mv (v := (.bool false)) rfl ?_
    refine c_nil (c_rt ?_)
    obtain rfl := oJ e
    exact ⟨.inr rfl, _, (ar1 rfl), _, _, _, _, _, _, rfl, (((s1.push (ro_it (sl_ro (hp1.mono g1.z)))).pick [1, 0, 2, 3, 4, 5, 6] rfl).weak g1 hs.zv)⟩
   replace e := ib_f q11 e
   refine c_sk (c_sq (c_sr (o_mv h11 (o_add rfl rfl ?_))))
   refine o_mv (v := (vi 0)) rfl ?_
   refine c_nil ?_
   obtain ⟨x6, q14, e⟩ := oB e
   obtain ⟨rfl, q16⟩ := ranO_some q14
   obtain ⟨y2, q17, e⟩ := oB e
   refine c_jn (I := fun tm H => ∃ (s4 : (Int × Int × Int × (List Ty.A6) × Int × (List (List Bool)) × (List (List Bool)) × (List (List Int)) × (List (List (List Bool))) × (List (List (List Int))))), y2 = .out s4 ∧ (∃ (Z3 V3 : PH) (w10 : Value) (w11 : Value) (w12 : Value) (w13 : Value) (w14 : Value) (w15 : Value), Gw Z1 V1 Z3 V3 ∧ Sat Z3 V3 H [pts o1 (.rw 0 [vi s4.1, vi s4.2.1, vi s4.2.2.1, w15, vi s4.2.2.2.2.1, w10, w11, w12, w13, w14]), It.sl sB w10 s4.2.2.2.2.2.1, It.sl sB w11 s4.2.2.2.2.2.2.1, It.sl sI1 w12 s4.2.2.2.2.2.2.2.1, It.sl sB2 w13 s4.2.2.2.2.2.2.2.2.1, It.sl sI2 w14 s4.2.2.2.2.2.2.2.2.2] ∧ tm 0 = (pV o1 0) ∧ tm 1 = (vi a1) ∧ tm 2 = (vi a2) ∧ tm 3 = (vi a3) ∧ tm 9 = w1 ∧ tm 41 = (vi (Pu.W (a3 + 1))) ∧ RdS Sh.A6 Z3 w15 s4.2.2.2.1)) (fun k5 => ?_) ?_
   ·refine c_bk ?_
    refine l_forL (xs := (Pu.ran (Pu.W (a3 + 1)))) (fun (i3 : Nat) (s2 : (Int × Int × Int × (List Ty.A6) × Int × (List (List Bool)) × (List (List Bool)) × (List (List Int)) × (List (List (List Bool))) × (List (List (List Int))))) tm H => tm 42 = vi i3 ∧ ∃ (Z2 V2 : PH) (w4 : Value) (w5 : Value) (w6 : Value) (w7 : Value) (w8 : Value) (w9 : Value), Gw Z1 V1 Z2 V2 ∧ Sat Z2 V2 H [pts o1 (.rw 0 [vi s2.1, vi s2.2.1, vi s2.2.2.1, w9, vi s2.2.2.2.2.1, w4, w5, w6, w7, w8]), It.sl sB w4 s2.2.2.2.2.2.1, It.sl sB w5 s2.2.2.2.2.2.2.1, It.sl sI1 w6 s2.2.2.2.2.2.2.2.1, It.sl sB2 w7 s2.2.2.2.2.2.2.2.2.1, It.sl sI2 w8 s2.2.2.2.2.2.2.2.2.2] ∧ tm 0 = (pV o1 0) ∧ tm 1 = (vi a1) ∧ tm 2 = (vi a2) ∧ tm 3 = (vi a3) ∧ tm 9 = w1 ∧ tm 41 = (vi (Pu.W (a3 + 1))) ∧ RdS Sh.A6 Z2 w9 s2.2.2.2.1) (fun i3 x5 s2 y3 tm H3 q12 q13 j1 e2 k2 k3 k4 => ?_) (fun s2 tm H2 jf jd => ?_) q17 ⟨rfl, _, _, _, _, _, _, _, _, Gw.refl _ _, s1, h8, h9, h10, h11, h12, rfl, (hp1.mono g1.z)⟩
    ·obtain ⟨hti0, Z2, V2, w4, w5, w6, w7, w8, w9, g2, s3, h19, h20, h21, h22, h23, h24, h18⟩ := j1
     unfold P.B3.b0 at e2
     have hti0 := iv hti0 (ran_x q12).symm
     refine c_sr (o_lss hti0 h24 (c_nil (c_sq ?_)))
     refine c_ift rfl (ran_lt q12) ?_
     refine c_sk (c_sq (c_bk (c_sr (o_mv hti0 ?_))))
     refine o_mv (v := (vi x5)) rfl ?_
     refine c_nil (c_sq (c_sr (o_mv h19 (o_mv h23 ?_))))
     refine o_mv h21 ?_
     obtain ⟨x7, q18, e2⟩ := oB e2
     refine o_idx (v := w1) rfl rfl (h2.mono (g1.trans g2).z) rfl q18 fun p6 q19 => ?_
     refine o_lda rfl (h2.mono (g1.trans g2).z) s3.z rfl q19 q18 fun c2 h32 => ?_
     obtain rfl := h32
     refine o_mv (v := (vi x5)) rfl ?_
     obtain ⟨x8, q20, e2⟩ := oB e2
     obtain ⟨d7, rfl⟩ := (h18).val
     obtain ⟨d8, rfl⟩ := ((s3.curS (s := sB) 1 rfl)).val
     obtain ⟨d9, rfl⟩ := ((s3.curS (s := sB) 2 rfl)).val
     obtain ⟨d10, rfl⟩ := ((s3.curS (s := sI1) 3 rfl)).val
     obtain ⟨d11, rfl⟩ := ((s3.curS (s := sB2) 4 rfl)).val
     obtain ⟨d12, rfl⟩ := ((s3.curS (s := sI2) 5 rfl)).val
     obtain ⟨Z4, V4, W1, g4, u1, c3, c4, -, c6, c5⟩ := Sat.call (l1 := []) s3
     refine o_call (mc rfl (mc rfl (mc rfl m0))) (X.D0 nd.D0 (a0 := (Ty.C3.mk (Ty.B2.mk s2.1 s2.2.1 s2.2.2.1 s2.2.2.2.1) s2.2.2.2.2.1 s2.2.2.2.2.2.1 s2.2.2.2.2.2.2.1 s2.2.2.2.2.2.2.2.1 s2.2.2.2.2.2.2.2.2.1 s2.2.2.2.2.2.2.2.2.2)) c3 (h18.mono (g4.z.trans c3.zv)) (c4 1 _ sB _ _ rfl) (c4 2 _ sB _ _ rfl) (c4 3 _ sI1 _ _ rfl) (c4 4 _ sB2 _ _ rfl) (c4 5 _ sI2 _ _ rfl) (c6 0 _ _ rfl) q20) fun _ H5 i4 => ?_
     obtain ⟨rfl, s6⟩ := i4
     have s7 := c5 _ _ s6
     refine o_not rfl ?_
     refine o_mv (v := (.bool (!x8))) rfl ?_
     obtain ⟨y4, e3, e2⟩ := oB e2
     refine o_jn 18 (I := fun tm H => ∃ (Z5 V5 : PH), Gw Z4 V4 Z5 V5 ∧ Sat Z5 V5 H [pts o1 (.rw 0 [vi s2.1, vi s2.2.1, vi s2.2.2.1, (vS d7 s2.2.2.2.1), vi s2.2.2.2.2.1, (vS d8 s2.2.2.2.2.2.1), (vS d9 s2.2.2.2.2.2.2.1), (vS d10 s2.2.2.2.2.2.2.2.1), (vS d11 s2.2.2.2.2.2.2.2.2.1), (vS d12 s2.2.2.2.2.2.2.2.2.2)]), Is sB d8 s2.2.2.2.2.2.1, Is sB d9 s2.2.2.2.2.2.2.1, Is sI1 d10 s2.2.2.2.2.2.2.2.1, Is sB2 d11 s2.2.2.2.2.2.2.2.2.1, Is sI2 d12 s2.2.2.2.2.2.2.2.2.2] ∧ tm 0 = (pV o1 0) ∧ tm 1 = (vi a1) ∧ tm 2 = (vi a2) ∧ tm 3 = (vi a3) ∧ tm 9 = w1 ∧ tm 10 = (vi x5) ∧ tm 41 = (vi (Pu.W (a3 + 1))) ∧ tm 42 = (vi x5) ∧ tm 71 = (.bool y4)) (fun k6 => ?_) ?_
     ·rcases Bool.eq_false_or_eq_true (!x8) with q21 | q21
      ·replace e3 := if_t q21 e3
       refine o_gn rfl q21 (o_gn rfl q21 (o_gn rfl q21 (o_gn rfl q21 (o_gn rfl q21 ?_))))
       refine o_gn rfl q21 (o_gn rfl q21 (o_gn rfl q21 (o_gn rfl q21 (o_gn rfl q21 ?_))))
       refine o_gn rfl q21 (o_gn rfl q21 (o_gn rfl q21 (o_gn rfl q21 (o_gn rfl q21 ?_))))
       refine o_gn rfl q21 (o_gn rfl q21 ?_)
       refine o_pickt (a := (.bool true)) rfl q21 rfl ?_
       obtain rfl := oJ e3
       exact k6 _ _ ⟨_, _, Gw.refl _ _, s7, h19, h20, h21, h22, h23, rfl, h24, hti0, rfl⟩
      replace e3 := ib_f q21 e3
      refine o_gy rfl q21 (o_mv h19 (o_gy rfl q21 (o_nck rfl (o_gy rfl q21 ?_))))
      refine o_fad rfl (o_gy rfl q21 (o_ldB 0 s7 rfl rfl rfl rfl (o_gy rfl q21 (o_mv h20 ?_))))
      refine o_gy rfl q21 ?_
      obtain ⟨x9, q22, e3⟩ := oB e3
      refine o_idx (v := (vS d11 s2.2.2.2.2.2.2.2.2.1)) rfl rfl (s7.curS (s := sB2) 4 rfl) rfl q22 fun p7 q23 => ?_
      refine o_gy rfl q21 ?_
      refine o_ldsv rfl (s7.curS (s := sB2) 4 rfl) pR q23 q22 fun w16 h42 h43 => ?_
      refine o_gy rfl q21 (o_mv h21 (o_gy rfl q21 (o_add rfl rfl (o_gy rfl q21 ?_))))
      obtain ⟨x10, q24, e3⟩ := oB e3
      refine o_idx (v := w16) rfl rfl h42 rfl q24 fun p8 q25 => ?_
      refine o_gy rfl q21 ?_
      refine o_ldsv rfl h42 pR q25 q24 fun w17 h44 h45 => ?_
      refine o_gy rfl q21 (o_mv h22 (o_gy rfl q21 ?_))
      refine o_mv (v := (vi x5)) rfl ?_
      refine o_gy rfl q21 (o_sub rfl rfl (o_gy rfl q21 ?_))
      obtain ⟨x11, q26, e3⟩ := oB e3
      refine o_idx (v := w17) rfl rfl h44 rfl q26 fun p9 q27 => ?_
      refine o_gy rfl q21 (o_ldb rfl h44 pR q27 q26 (o_gy rfl q21 (o_not rfl ?_)))
      refine o_pickf (b := (.bool (!x11))) rfl q21 rfl ?_
      obtain rfl := oJ e3
      exact k6 _ _ ⟨_, _, Gw.refl _ _, s7, h19, h20, h21, h22, h23, rfl, h24, hti0, rfl⟩
     intro _ H6 i5
     obtain ⟨Z5, V5, g5, s8, h33, h34, h35, h36, h37, h38, h39, h40, h41⟩ := i5
     refine c_nil ?_
     refine c_if h41 (fun q28 => ?_) (fun q28 => ?_)
     ·replace e2 := if_t q28 e2
      refine c_ex ?_
      refine e_c ?_
      refine e_h ?_
      refine c_r (o_add h40 rfl ?_)
      refine o_mv (v := (vi (Pu.W (x5 + 1)))) rfl ?_
      refine c_nil ?_
      exact k2 _ _ _ (sJ e2) ⟨(iv rfl (w_sucR q12 q16)), _, _, _, _, _, _, _, _, (g2.trans (g4.trans g5)), s8, h33, h34, h35, h36, h37, h39, (h18.mono (g4.trans g5).z)⟩
     replace e2 := ib_f q28 e2
     refine c_sk (c_sq ?_)
     refine d_start s8 fun n1 H7 s9 q29 d13 => ?_
     refine d_mv h37 ?_
     refine d_mv h35 ?_
     obtain ⟨x12, q30, e2⟩ := oB e2
     refine d_idx (v := w1) rfl rfl (h2.mono (g1.trans (g2.trans (g4.trans g5))).z) rfl q30 fun p10 q31 => ?_
     refine d_fadE rfl q31 fun p11 q32 => ?_
     refine d_ldF (RdS.low (h2.mono (g1.trans (g2.trans (g4.trans g5))).z) s9.z q29) rfl (h2.mono (g1.trans (g2.trans (g4.trans g5))).z) s9.z rfl q31 q32 q30 rfl fun c7 h46 => ?_
     obtain rfl := h46
     refine ⟨_, rfl, ?_⟩
     refine d_not rfl ?_
     refine d_mv (v := (.bool (!x12.Term))) rfl ?_
     obtain ⟨y5, e4, e2⟩ := oB e2
     refine d_jn 15 (I := fun tm H => DD n1 22 (List.length F.B3.r8) H ∧ (∃ (Z6 V6 : PH), Gw Z5 V5 Z6 V6 ∧ Sat Z6 V6 H [pts o1 (.rw 0 [vi s2.1, vi s2.2.1, vi s2.2.2.1, (vS d7 s2.2.2.2.1), vi s2.2.2.2.2.1, (vS d8 s2.2.2.2.2.2.1), (vS d9 s2.2.2.2.2.2.2.1), (vS d10 s2.2.2.2.2.2.2.2.1), (vS d11 s2.2.2.2.2.2.2.2.2.1), (vS d12 s2.2.2.2.2.2.2.2.2.2)]), Is sB d8 s2.2.2.2.2.2.1, Is sB d9 s2.2.2.2.2.2.2.1, Is sI1 d10 s2.2.2.2.2.2.2.2.1, Is sB2 d11 s2.2.2.2.2.2.2.2.2.1, Is sI2 d12 s2.2.2.2.2.2.2.2.2.2] ∧ tm 0 = (pV o1 0) ∧ tm 1 = (vi a1) ∧ tm 2 = (vi a2) ∧ tm 3 = (vi a3) ∧ tm 9 = w1 ∧ tm 10 = (vi x5) ∧ tm 41 = (vi (Pu.W (a3 + 1))) ∧ tm 42 = (vi x5) ∧ tm 93 = (.bool y5))) (fun k7 => ?_) ?_
     ·rcases Bool.eq_false_or_eq_true (!x12.Term) with q33 | q33
      ·replace e4 := if_t q33 e4
       refine d_want rfl q33 ?_
       refine d_mv h33 ?_
       refine d_want rfl q33 ?_
       refine d_nck rfl ?_
       refine d_want rfl q33 ?_
       refine d_fad rfl ?_
       refine d_want rfl q33 ?_
       refine d_ldB (q29 _ _ (ph_some.2 ⟨s9.curB 0 rfl, by simp⟩)) 0 s9 rfl rfl rfl rfl ?_
       refine d_want rfl q33 ?_
       refine d_mv h37 ?_
       refine d_want rfl q33 ?_
       refine d_mv h35 ?_
       refine d_want rfl q33 ?_
       obtain ⟨x13, q34, e4⟩ := oB e4
       refine d_idx (v := w1) rfl rfl (h2.mono (g1.trans (g2.trans (g4.trans g5))).z) rfl q34 fun p12 q35 => ?_
       refine d_want rfl q33 ?_
       refine d_fadE rfl q35 fun p13 q36 => ?_
       refine d_want rfl q33 ?_
       refine d_ldF (RdS.low (h2.mono (g1.trans (g2.trans (g4.trans g5))).z) s9.z q29) rfl (h2.mono (g1.trans (g2.trans (g4.trans g5))).z) s9.z rfl q35 q36 q34 rfl fun c8 h56 => ?_
       obtain rfl := h56
       refine ⟨_, rfl, ?_⟩
       refine d_want rfl q33 ?_
       obtain ⟨x14, q37, e4⟩ := oB e4
       refine d_idx (v := (vS d9 s2.2.2.2.2.2.2.1)) rfl rfl (s9.curS (s := sB) 2 rfl) rfl q37 fun p14 q38 => ?_
       refine d_want rfl q33 ?_
       refine d_ldsv ((s9.curS 2 rfl).low pR q29) rfl (s9.curS (s := sB) 2 rfl) pR q38 q37 fun w18 h57 h58 => ?_
       refine d_want rfl q33 ?_
       refine d_mv h38 ?_
       refine d_want rfl q33 ?_
       obtain ⟨x15, q39, e4⟩ := oB e4
       refine d_idx (v := w18) rfl rfl h57 rfl q39 fun p15 q40 => ?_
       refine d_want rfl q33 ?_
       refine d_ldb (RdS.low h57 pR q29) rfl h57 pR q40 q39 ?_
       have h59 := vl_bool h57 pR q40 q39
       refine d_pickt (a := (.bool x15)) rfl q33 rfl ?_
       obtain rfl := oJ e4
       exact k7 _ _ _ ⟨d13.up rfl, _, _, Gw.refl _ _, s9, h33, h34, h35, h36, h37, h38, h39, h40, rfl⟩
      replace e4 := ib_f q33 e4
      refine d_gn rfl q33 ?_
      refine d_gn rfl q33 ?_
      refine d_gn rfl q33 ?_
      refine d_gn rfl q33 ?_
      refine d_gn rfl q33 ?_
      refine d_gn rfl q33 ?_
      refine d_gn rfl q33 ?_
      refine d_gn rfl q33 ?_
      refine d_gn rfl q33 ?_
      refine d_gn rfl q33 ?_
      refine d_gn rfl q33 ?_
      refine d_gn rfl q33 ?_
      refine d_gn rfl q33 ?_
      refine d_gn rfl q33 ?_
      refine d_pickf (b := (.bool false)) rfl q33 rfl ?_
      obtain rfl := oJ e4
      exact k7 _ _ _ ⟨d13.up rfl, _, _, Gw.refl _ _, s9, h33, h34, h35, h36, h37, h38, h39, h40, rfl⟩
     intro _ H8 _ i6
     obtain ⟨d14, Z6, V6, g6, s10, h47, h48, h49, h50, h51, h52, h53, h54, h55⟩ := i6
     refine d_mv h55 ?_
     obtain ⟨y6, e5, e2⟩ := oB e2
     refine d_jn 9 (I := fun tm H => DD n1 32 (List.length F.B3.r8) H ∧ (∃ (Z7 V7 : PH) (w19 : Value) (w20 : Value) (w21 : Value) (w22 : Value) (w23 : Value) (w24 : Value), Gw Z6 V6 Z7 V7 ∧ Sat Z7 V7 H [pts o1 (.rw 0 [vi y6.1, vi y6.2.1, vi y6.2.2.1, w24, vi y6.2.2.2.2.1, w19, w20, w21, w22, w23]), It.sl sB w19 y6.2.2.2.2.2.1, It.sl sB w20 y6.2.2.2.2.2.2.1, It.sl sI1 w21 y6.2.2.2.2.2.2.2.1, It.sl sB2 w22 y6.2.2.2.2.2.2.2.2.1, It.sl sI2 w23 y6.2.2.2.2.2.2.2.2.2.1] ∧ tm 0 = (pV o1 0) ∧ tm 1 = (vi a1) ∧ tm 2 = (vi a2) ∧ tm 3 = (vi a3) ∧ tm 9 = w1 ∧ tm 41 = (vi (Pu.W (a3 + 1))) ∧ tm 42 = (vi x5) ∧ tm 103 = (.bool y6.2.2.2.2.2.2.2.2.2.2) ∧ RdS Sh.A6 Z7 w24 y6.2.2.2.1)) (fun k8 => ?_) ?_
     ·rcases Bool.eq_false_or_eq_true y5 with q41 | q41
      ·replace e5 := if_t q41 e5
       refine d_gn rfl q41 ?_
       refine d_gn rfl q41 ?_
       refine d_gn rfl q41 ?_
       refine d_gn rfl q41 ?_
       refine d_gn rfl q41 ?_
       refine d_gn rfl q41 ?_
       refine d_gn rfl q41 ?_
       refine d_gn rfl q41 ?_
       refine d_pickt (a := (.bool true)) rfl q41 rfl ?_
       obtain rfl := oJ e5
       exact k8 _ _ _ ⟨d14.up rfl, _, _, _, _, _, _, _, _, Gw.refl _ _, s10, h47, h48, h49, h50, h51, h53, h54, rfl, (h18.mono (g4.trans (g5.trans g6)).z)⟩
      replace e5 := ib_f q41 e5
      refine d_want rfl q41 ?_
      refine d_mv h47 ?_
      refine d_want rfl q41 ?_
      refine d_mv h48 ?_
      refine d_want rfl q41 ?_
      refine d_mv h49 ?_
      refine d_want rfl q41 ?_
      refine d_add rfl rfl ?_
      refine d_want rfl q41 ?_
      refine d_mv h50 ?_
      refine d_want rfl q41 ?_
      refine d_mv h52 ?_
      refine d_want rfl q41 ?_
      refine d_sub rfl rfl ?_
      refine d_want rfl q41 ?_
      obtain ⟨x16, q42, e5⟩ := oB e5
      obtain ⟨Z8, V8, W2, g8, u2, c9, c10, -, c12, c11⟩ := Sat.call (l1 := [pts o1 (.rw 0 [vi s2.1, vi s2.2.1, vi s2.2.2.1, (vS d7 s2.2.2.2.1), vi s2.2.2.2.2.1, (vS d8 s2.2.2.2.2.2.1), (vS d9 s2.2.2.2.2.2.2.1), (vS d10 s2.2.2.2.2.2.2.2.1), (vS d11 s2.2.2.2.2.2.2.2.2.1), (vS d12 s2.2.2.2.2.2.2.2.2.2)]), Is sB d8 s2.2.2.2.2.2.1, Is sB d9 s2.2.2.2.2.2.2.1, Is sI1 d10 s2.2.2.2.2.2.2.2.1, Is sB2 d11 s2.2.2.2.2.2.2.2.2.1, Is sI2 d12 s2.2.2.2.2.2.2.2.2.2]) (l2 := []) s10
      refine d_call (mc rfl (mc rfl (mc rfl (mc rfl m0)))) (ih (a0 := (Ty.C3.mk (Ty.B2.mk s2.1 s2.2.1 s2.2.2.1 s2.2.2.2.1) s2.2.2.2.2.1 s2.2.2.2.2.2.1 s2.2.2.2.2.2.2.1 s2.2.2.2.2.2.2.2.1 s2.2.2.2.2.2.2.2.2.1 s2.2.2.2.2.2.2.2.2.2)) c9 (h18.mono ((g4.trans (g5.trans g6)).trans g8).z) q42) fun _ H10 i7 k9 => ?_
      have d15 := d14.keep k9
      obtain ⟨w25, w26, w27, w28, w29, w30, rfl, s12⟩ := i7
      have s13 := c11 _ _ s12
      obtain ⟨Z9, V9, g9, s14, h69⟩ := (s13.pull 1 rfl).frzR
      refine d_pickf (b := (.bool x16.2)) rfl q41 rfl ?_
      obtain rfl := oJ e5
      exact k8 _ _ _ ⟨d15.up rfl, _, _, _, _, _, _, _, _, (g8.trans g9), s14, h47, h48, h49, h50, h51, h53, h54, rfl, h69⟩
     intro _ H9 _ i8
     obtain ⟨d16, Z7, V7, w19, w20, w21, w22, w23, w24, g7, s11, h61, h62, h63, h64, h65, h66, h67, h68, h60⟩ := i8
     refine d_nil dc_nil ?_
     refine c_if h68 (fun q43 => ?_) (fun q43 => ?_)
     ·replace e2 := if_t q43 e2
      refine c_sr ?_
      refine o_mv (v := (.bool true)) rfl ?_
      refine c_nil (c_rt ?_)
      have e6 := fin_r (k4 _ (sJ e2)) e
      obtain ⟨d17, rfl⟩ := (h60).val
      obtain ⟨d18, rfl⟩ := ((s11.curS (s := sB) 1 rfl)).val
      obtain ⟨d19, rfl⟩ := ((s11.curS (s := sB) 2 rfl)).val
      obtain ⟨d20, rfl⟩ := ((s11.curS (s := sI1) 3 rfl)).val
      obtain ⟨d21, rfl⟩ := ((s11.curS (s := sB2) 4 rfl)).val
      obtain ⟨d22, rfl⟩ := ((s11.curS (s := sI2) 5 rfl)).val
      obtain rfl := oJ e6
      exact ⟨.inr rfl, _, (ar1 rfl), _, _, _, _, _, _, rfl, (((s11.push (ro_it (sl_ro h60))).pick [1, 0, 2, 3, 4, 5, 6] rfl).weak (g1.trans (g2.trans (g4.trans (g5.trans (g6.trans g7))))) hs.zv)⟩
     replace e2 := ib_f q43 e2
     refine c_sk (c_end (c_r (o_add h67 rfl ?_)))
     refine o_mv (v := (vi (Pu.W (x5 + 1)))) rfl ?_
     refine c_nil ?_
     exact k2 _ _ _ (sJ e2) ⟨(iv rfl (w_sucR q12 q16)), _, _, _, _, _, _, _, _, (g2.trans (g4.trans (g5.trans (g6.trans g7)))), s11, h61, h62, h63, h64, h65, h66, h60⟩
    ·obtain ⟨hte0, Z10, V10, w31, w32, w33, w34, w35, w36, g10, s15, h71, h72, h73, h74, h75, h76, h70⟩ := jd
     refine c_sr (o_lss hte0 h76 (c_nil (c_sq ?_)))
     refine c_iff rfl (ran_done _) ?_
     refine c_ex ?_
     refine e_c ?_
     refine e_c ?_
     refine e_h ?_
     exact k5 _ _ ⟨_, jf, _, _, _, _, _, _, _, _, g10, s15, h71, h72, h73, h74, h75, h76, h70⟩
   intro _ H4 i9
   obtain ⟨s4, f1, Z3, V3, w10, w11, w12, w13, w14, w15, g3, s5, h26, h27, h28, h29, h30, h31, h25⟩ := i9
   replace e := fin_o f1 e
   refine c_sr ?_
   refine o_mv (v := (.bool false)) rfl ?_
   refine c_nil (c_rt ?_)
   obtain ⟨d23, rfl⟩ := (h25).val
   obtain ⟨d24, rfl⟩ := ((s5.curS (s := sB) 1 rfl)).val
   obtain ⟨d25, rfl⟩ := ((s5.curS (s := sB) 2 rfl)).val
   obtain ⟨d26, rfl⟩ := ((s5.curS (s := sI1) 3 rfl)).val
   obtain ⟨d27, rfl⟩ := ((s5.curS (s := sB2) 4 rfl)).val
   obtain ⟨d28, rfl⟩ := ((s5.curS (s := sI2) 5 rfl)).val
   obtain rfl := oJ e
   exact ⟨.inr rfl, _, (ar1 rfl), _, _, _, _, _, _, rfl, (((s5.push (ro_it (sl_ro h25))).pick [1, 0, 2, 3, 4, 5, 6] rfl).weak (g1.trans g3) hs.zv)⟩
theorem X.B3 {T : FuncId → Option AFunc} (nd : Nd.B3 T) {φ : Nat} {Z V : PH} {H : Hp} {v1 : Value} {v2 : Value} {v3 : Value} {v4 : Value} {v5 : Value} {v6 : Value} {o1 : Nat} {a0 : Ty.C3} {a1 : Int} {a2 : Int} {a3 : Int} (hs : Sat Z V H [pts o1 (.rw 0 [vi a0.g.Terms, vi a0.g.Nons, vi a0.g.Start, v1, vi a0.n, v2, v3, v4, v5, v6]), It.sl sB v2 a0.has_, It.sl sB v3 a0.loop_, It.sl sI1 v4 a0.known_, It.sl sB2 v5 a0.ends, It.sl sI2 v6 a0.ways]) (hp1 : RdS Sh.A6 Z v1 a0.g.Rules) {r : (Ty.C3 × Bool)} (e : P.B3 φ a0 a1 a2 a3 = some r) :
 G T I.B3 [(pV o1 0), vi a1, vi a2, vi a3] H (fun rv H' => ∃ (u1 : Value) (u2 : Value) (u3 : Value) (u4 : Value) (u5 : Value) (u6 : Value), rv = (.bool r.2) ∧ Sat Z V H' [pts o1 (.rw 0 [vi r.1.g.Terms, vi r.1.g.Nons, vi r.1.g.Start, u1, vi r.1.n, u2, u3, u4, u5, u6]), Sh.it (Sh.ro (Sh.sl Sh.A6)) [u1] r.1.g.Rules, It.sl sB u2 r.1.has_, It.sl sB u3 r.1.loop_, It.sl sI1 u4 r.1.known_, It.sl sB2 u5 r.1.ends, It.sl sI2 u6 r.1.ways]) := (X.census_table_endless_rec nd φ) hs hp1 e
structure Nd.A1 (T : FuncId → Option AFunc) : Prop where
 own : Has T I.A1 F.A1
 A9 : Nd.A9 T
 B3 : Nd.B3 T
set_option maxHeartbeats 1000000 in
theorem X.A1 {T : FuncId → Option AFunc} (nd : Nd.A1 T) {φ : Nat} {Z V : PH} {H : Hp} {v1 : Value} {v2 : Value} {v3 : Value} {v4 : Value} {v5 : Value} {v6 : Value} {o1 : Nat} {a0 : Ty.C3} (hs : Sat Z V H [pts o1 (.rw 0 [vi a0.g.Terms, vi a0.g.Nons, vi a0.g.Start, v1, vi a0.n, v2, v3, v4, v5, v6]), It.sl sB v2 a0.has_, It.sl sB v3 a0.loop_, It.sl sI1 v4 a0.known_, It.sl sB2 v5 a0.ends, It.sl sI2 v6 a0.ways]) (hp1 : RdS Sh.A6 Z v1 a0.g.Rules) {r : Ty.C3} (e : P.A1 φ a0 = some r) :
 G T I.A1 [(pV o1 0)] H (fun rv H' => ∃ (u1 : Value) (u2 : Value) (u3 : Value) (u4 : Value) (u5 : Value) (u6 : Value), rv = undef ∧ Sat Z V H' [pts o1 (.rw 0 [vi r.g.Terms, vi r.g.Nons, vi r.g.Start, u1, vi r.n, u2, u3, u4, u5, u6]), Sh.it (Sh.ro (Sh.sl Sh.A6)) [u1] r.g.Rules, It.sl sB u2 r.has_, It.sl sB u3 r.loop_, It.sl sI1 u4 r.known_, It.sl sB2 u5 r.ends, It.sl sI2 u6 r.ways]) := by
 unfold P.A1 at e
 refine f_mk nd.own ?_
 refine c_sq (c_sr ?_)
 refine o_mv (v := (pV o1 0)) rfl ?_
 refine o_nck rfl (o_fad rfl ?_)
 obtain ⟨d1, rfl⟩ := (hp1).val
 obtain ⟨d2, rfl⟩ := ((hs.curS (s := sB) 1 rfl)).val
 obtain ⟨d3, rfl⟩ := ((hs.curS (s := sB) 2 rfl)).val
 obtain ⟨d4, rfl⟩ := ((hs.curS (s := sI1) 3 rfl)).val
 obtain ⟨d5, rfl⟩ := ((hs.curS (s := sB2) 4 rfl)).val
 obtain ⟨d6, rfl⟩ := ((hs.curS (s := sI2) 5 rfl)).val
 refine o_ldB 0 hs rfl rfl rfl rfl (o_add rfl rfl ?_)
 refine o_mv (v := (vi 0)) rfl ?_
 refine c_nil ?_
 obtain ⟨x2, q3, e⟩ := oB e
 obtain ⟨rfl, q5⟩ := ranO_some q3
 obtain ⟨y1, q6, e⟩ := oB e
 refine c_bk ?_
 refine l_forP (xs := (Pu.ran (Pu.W (a0.n + 1)))) (fun (i1 : Nat) (s1 : (List (List Bool))) tm H => tm 17 = vi i1 ∧ ∃ (Z1 V1 : PH), Gw Z V Z1 V1 ∧ Sat Z1 V1 H [pts o1 (.rw 0 [vi a0.g.Terms, vi a0.g.Nons, vi a0.g.Start, (vS d1 a0.g.Rules), vi a0.n, (vS d2 a0.has_), (vS d3 a0.loop_), (vS d4 a0.known_), (vS d5 a0.ends), (vS d6 a0.ways)]), Is sB d2 a0.has_, It.sl sB (vS d3 a0.loop_) s1, Is sI1 d4 a0.known_, Is sB2 d5 a0.ends, Is sI2 d6 a0.ways] ∧ tm 0 = (pV o1 0) ∧ tm 16 = (vi (Pu.W (a0.n + 1)))) (fun i1 x1 s1 s3 tm H2 q1 q2 j1 e1 k1 => ?_) (fun tm H1 jd => ?_) q6 ⟨rfl, _, _, Gw.refl _ _, hs, rfl, rfl⟩
 ·obtain ⟨hti0, Z1, V1, g1, s2, h1, h2⟩ := j1
  unfold P.A1.b0 at e1
  have hti0 := iv hti0 (ran_x q1).symm
  refine c_sr (o_lss hti0 h2 (c_nil (c_sq ?_)))
  refine c_ift rfl (ran_lt q1) ?_
  refine c_sk (c_sq (c_bk (c_sr (o_mv hti0 ?_))))
  refine o_mv (v := (vi x1)) rfl ?_
  refine c_nil (c_sr (o_mv h1 ?_))
  refine o_mv (v := (vi x1)) rfl ?_
  obtain ⟨x3, q7, e1⟩ := oB e1
  obtain ⟨Z2, V2, W1, g2, u1, c1, c2, -, c4, c3⟩ := Sat.call (l1 := [pts o1 (.rw 0 [vi a0.g.Terms, vi a0.g.Nons, vi a0.g.Start, (vS d1 a0.g.Rules), vi a0.n, (vS d2 a0.has_), (vS d3 a0.loop_), (vS d4 a0.known_), (vS d5 a0.ends), (vS d6 a0.ways)]), Is sB d2 a0.has_, It.sl sB (vS d3 a0.loop_) s1, Is sI1 d4 a0.known_, Is sB2 d5 a0.ends, Is sI2 d6 a0.ways]) (l2 := []) s2
  refine o_call (mc rfl (mc rfl m0)) (X.A9 nd.A9 (a0 := (Ty.C3.mk a0.g a0.n a0.has_ s1 a0.known_ a0.ends a0.ways)) c1 (hp1.mono ((g1.trans g2).z.trans c1.zv)) q7) fun w1 H3 i2 => ?_
  obtain ⟨_, rfl, s4⟩ := i2
  have s5 := c3 _ _ s4
  refine o_mv (v := w1) rfl ?_
  refine c_nil (c_sq (c_sr ?_))
  refine o_mv (v := w1) rfl ?_
  refine o_len rfl ((s5.curS (s := sB) 6 rfl)).len ?_
  refine o_mv (v := (vi 0)) rfl ?_
  refine c_nil ?_
  refine c_gen (P := fun tm => tm 0 = (pV o1 0) ∧ tm 2 = (vi x1) ∧ tm 3 = w1 ∧ tm 16 = (vi (Pu.W (a0.n + 1))) ∧ tm 17 = (vi x1) ∧ tm 24 = (vN x3) ∧ tm 25 = (vi 0) ∧ True) ⟨h1, rfl, rfl, h2, hti0, rfl, rfl, trivial⟩ ?_
  intro _ i3
  obtain ⟨h3, h4, h5, h6, h7, h8, h9, -⟩ := i3
  obtain ⟨x5, q10, e1⟩ := oB e1
  obtain ⟨rfl, q12⟩ := ranO_some q10
  obtain ⟨y2, q13, e1⟩ := oB e1
  refine c_bk ?_
  refine l_forP (xs := (Pu.ran (x3.length : Int))) (fun (i4 : Nat) (s6 : (List (List Bool))) tm H => tm 25 = vi i4 ∧ ∃ (Z3 V3 : PH), Gw Z2 V2 Z3 V3 ∧ Sat Z3 V3 H [pts o1 (.rw 0 [vi a0.g.Terms, vi a0.g.Nons, vi a0.g.Start, (vS d1 a0.g.Rules), vi a0.n, (vS d2 a0.has_), (vS d3 a0.loop_), (vS d4 a0.known_), (vS d5 a0.ends), (vS d6 a0.ways)]), Is sB d2 a0.has_, It.sl sB (vS d3 a0.loop_) s1, Is sI1 d4 a0.known_, Is sB2 d5 a0.ends, Is sI2 d6 a0.ways, It.sl sB w1 s6] ∧ tm 0 = (pV o1 0) ∧ tm 2 = (vi x1) ∧ tm 3 = w1 ∧ tm 16 = (vi (Pu.W (a0.n + 1))) ∧ tm 17 = (vi x1) ∧ tm 24 = (vN x3)) (fun i4 x4 s6 s8 tm H5 q8 q9 j2 e2 k2 => ?_) (fun tm H4 jd => ?_) q13 ⟨h9, _, _, Gw.refl _ _, s5, h3, h4, h5, h6, h7, h8⟩
  ·obtain ⟨hti1, Z3, V3, g3, s7, h10, h11, h12, h13, h14, h15⟩ := j2
   unfold P.A1.b1 at e2
   have hti1 := iv hti1 (ran_x q8).symm
   refine c_sr (o_lss hti1 h15 (c_nil (c_sq ?_)))
   refine c_ift rfl (ran_lt q8) ?_
   refine c_sk (c_sq (c_bk (c_sr (o_mv hti1 ?_))))
   refine o_mv (v := (vi x4)) rfl ?_
   refine c_nil (c_sr (o_mv h12 ?_))
   refine o_len rfl ((s7.curS (s := sB) 6 rfl)).len ?_
   refine o_mv (v := (vi 0)) rfl ?_
   refine c_nil ?_
   obtain ⟨x7, q16, e2⟩ := oB e2
   obtain ⟨rfl, q18⟩ := ranO_some q16
   obtain ⟨y3, q19, e2⟩ := oB e2
   refine c_bk ?_
   refine l_forP (xs := (Pu.ran (s6.length : Int))) (fun (i5 : Nat) (s9 : (List (List Bool))) tm H => tm 30 = vi i5 ∧ ∃ (Z4 V4 : PH), Gw Z3 V3 Z4 V4 ∧ Sat Z4 V4 H [pts o1 (.rw 0 [vi a0.g.Terms, vi a0.g.Nons, vi a0.g.Start, (vS d1 a0.g.Rules), vi a0.n, (vS d2 a0.has_), (vS d3 a0.loop_), (vS d4 a0.known_), (vS d5 a0.ends), (vS d6 a0.ways)]), Is sB d2 a0.has_, It.sl sB (vS d3 a0.loop_) s1, Is sI1 d4 a0.known_, Is sB2 d5 a0.ends, Is sI2 d6 a0.ways, It.sl sB w1 s9] ∧ tm 0 = (pV o1 0) ∧ tm 2 = (vi x1) ∧ tm 3 = w1 ∧ tm 4 = (vi x4) ∧ tm 16 = (vi (Pu.W (a0.n + 1))) ∧ tm 17 = (vi x1) ∧ tm 24 = (vN x3) ∧ tm 25 = (vi x4) ∧ tm 29 = (vN s6)) (fun i5 x6 s9 s11 tm H7 q14 q15 j3 e3 k3 => ?_) (fun tm H6 jd => ?_) q19 ⟨rfl, _, _, Gw.refl _ _, s7, h10, h11, h12, rfl, h13, h14, h15, hti1, rfl⟩
   ·obtain ⟨hti2, Z4, V4, g4, s10, h16, h17, h18, h19, h20, h21, h22, h23, h24⟩ := j3
    unfold P.A1.b2 at e3
    have hti2 := iv hti2 (ran_x q14).symm
    refine c_sr (o_lss hti2 h24 (c_nil (c_sq ?_)))
    refine c_ift rfl (ran_lt q14) ?_
    refine c_sk (c_sq (c_bk (c_sr (o_mv hti2 ?_))))
    refine o_mv (v := (vi x6)) rfl ?_
    refine c_nil (c_sr (o_mv h18 ?_))
    refine o_len rfl ((s10.curS (s := sB) 6 rfl)).len ?_
    refine o_mv (v := (vi 0)) rfl ?_
    refine c_nil ?_
    obtain ⟨x9, q22, e3⟩ := oB e3
    obtain ⟨rfl, q24⟩ := ranO_some q22
    obtain ⟨y4, q25, e3⟩ := oB e3
    refine c_bk ?_
    refine l_forP (xs := (Pu.ran (s9.length : Int))) (fun (i6 : Nat) (s12 : (List (List Bool))) tm H => tm 35 = vi i6 ∧ ∃ (Z5 V5 : PH), Gw Z4 V4 Z5 V5 ∧ Sat Z5 V5 H [pts o1 (.rw 0 [vi a0.g.Terms, vi a0.g.Nons, vi a0.g.Start, (vS d1 a0.g.Rules), vi a0.n, (vS d2 a0.has_), (vS d3 a0.loop_), (vS d4 a0.known_), (vS d5 a0.ends), (vS d6 a0.ways)]), Is sB d2 a0.has_, It.sl sB (vS d3 a0.loop_) s1, Is sI1 d4 a0.known_, Is sB2 d5 a0.ends, Is sI2 d6 a0.ways, It.sl sB w1 s12] ∧ tm 0 = (pV o1 0) ∧ tm 2 = (vi x1) ∧ tm 3 = w1 ∧ tm 4 = (vi x4) ∧ tm 5 = (vi x6) ∧ tm 16 = (vi (Pu.W (a0.n + 1))) ∧ tm 17 = (vi x1) ∧ tm 24 = (vN x3) ∧ tm 25 = (vi x4) ∧ tm 29 = (vN s6) ∧ tm 30 = (vi x6) ∧ tm 34 = (vN s9)) (fun i6 x8 s12 s14 tm H9 q20 q21 j4 e4 k4 => ?_) (fun tm H8 jd => ?_) q25 ⟨rfl, _, _, Gw.refl _ _, s10, h16, h17, h18, h19, rfl, h20, h21, h22, h23, h24, hti2, rfl⟩
    ·obtain ⟨hti3, Z5, V5, g5, s13, h25, h26, h27, h28, h29, h30, h31, h32, h33, h34, h35, h36⟩ := j4
     unfold P.A1.b3 at e4
     have hti3 := iv hti3 (ran_x q20).symm
     refine c_sr (o_lss hti3 h36 (c_nil (c_sq ?_)))
     refine c_ift rfl (ran_lt q20) ?_
     refine c_sk (c_sq (c_bk (c_sr (o_mv hti3 ?_))))
     refine o_mv (v := (vi x8)) rfl ?_
     refine c_nil ?_
     refine d_start s13 fun n1 H10 s15 q26 d7 => ?_
     refine d_mv h27 ?_
     refine d_mv h29 ?_
     obtain ⟨x10, q27, e4⟩ := oB e4
     refine d_idx (v := w1) rfl rfl (s15.curS (s := sB) 6 rfl) rfl q27 fun p1 q28 => ?_
     refine d_ldsv ((s15.curS 6 rfl).low pR q26) rfl (s15.curS (s := sB) 6 rfl) pR q28 q27 fun w2 h37 h38 => ?_
     refine d_mv (v := (vi x8)) rfl ?_
     refine d_mv h27 ?_
     refine d_mv h29 ?_
     obtain ⟨x11, q29, e4⟩ := oB e4
     refine d_idx (v := w1) rfl rfl (s15.curS (s := sB) 6 rfl) rfl q29 fun p2 q30 => ?_
     refine d_ldsv ((s15.curS 6 rfl).low pR q26) rfl (s15.curS (s := sB) 6 rfl) pR q30 q29 fun w3 h39 h40 => ?_
     refine d_mv (v := (vi x8)) rfl ?_
     obtain ⟨x12, q31, e4⟩ := oB e4
     refine d_idx (v := w3) rfl rfl h39 rfl q31 fun p3 q32 => ?_
     refine d_ldb (RdS.low h39 pR q26) rfl h39 pR q32 q31 ?_
     have h41 := vl_bool h39 pR q32 q31
     refine d_mv (v := (.bool x12)) rfl ?_
     obtain ⟨y5, e5, e4⟩ := oB e4
     refine d_jn 17 (I := fun tm H => DD n1 30 (List.length F.A1.r13) H ∧ (∃ (Z6 V6 : PH), Gw Z5 V5 Z6 V6 ∧ Sat Z6 V6 H [pts o1 (.rw 0 [vi a0.g.Terms, vi a0.g.Nons, vi a0.g.Start, (vS d1 a0.g.Rules), vi a0.n, (vS d2 a0.has_), (vS d3 a0.loop_), (vS d4 a0.known_), (vS d5 a0.ends), (vS d6 a0.ways)]), Is sB d2 a0.has_, It.sl sB (vS d3 a0.loop_) s1, Is sI1 d4 a0.known_, Is sB2 d5 a0.ends, Is sI2 d6 a0.ways, It.sl sB w1 s12] ∧ tm 0 = (pV o1 0) ∧ tm 2 = (vi x1) ∧ tm 3 = w1 ∧ tm 4 = (vi x4) ∧ tm 5 = (vi x6) ∧ tm 16 = (vi (Pu.W (a0.n + 1))) ∧ tm 17 = (vi x1) ∧ tm 24 = (vN x3) ∧ tm 25 = (vi x4) ∧ tm 29 = (vN s6) ∧ tm 30 = (vi x6) ∧ tm 34 = (vN s9) ∧ tm 35 = (vi x8) ∧ tm 41 = w2 ∧ tm 42 = (vi x8) ∧ tm 67 = (.bool y5) ∧ RdS Sh.bool (Hp.ph H) w2 x10 ∧ vload H 1 false p1 = some w2)) (fun k5 => ?_) ?_
     ·rcases Bool.eq_false_or_eq_true x12 with q33 | q33
      ·replace e5 := if_t q33 e5
       refine d_gn rfl q33 ?_
       refine d_gn rfl q33 ?_
       refine d_gn rfl q33 ?_
       refine d_gn rfl q33 ?_
       refine d_gn rfl q33 ?_
       refine d_gn rfl q33 ?_
       refine d_gn rfl q33 ?_
       refine d_gn rfl q33 ?_
       refine d_gu rfl ?_
       refine d_gu rfl ?_
       refine d_gu rfl ?_
       refine d_gu rfl ?_
       refine d_gu rfl ?_
       refine d_gu rfl ?_
       refine d_gu rfl ?_
       refine d_gn rfl q33 ?_
       refine d_pickt (a := (.bool true)) rfl q33 rfl ?_
       obtain rfl := oJ e5
       exact k5 _ _ _ ⟨d7.up rfl, _, _, Gw.refl _ _, s15, h25, h26, h27, h28, h29, h30, h31, h32, h33, h34, h35, h36, hti3, rfl, rfl, rfl, h37, h38⟩
      replace e5 := ib_f q33 e5
      refine d_want rfl q33 ?_
      refine d_mv h27 ?_
      refine d_want rfl q33 ?_
      refine d_mv h29 ?_
      refine d_want rfl q33 ?_
      obtain ⟨x13, q34, e5⟩ := oB e5
      refine d_idx (v := w1) rfl rfl (s15.curS (s := sB) 6 rfl) rfl q34 fun p4 q35 => ?_
      refine d_want rfl q33 ?_
      refine d_ldsv ((s15.curS 6 rfl).low pR q26) rfl (s15.curS (s := sB) 6 rfl) pR q35 q34 fun w4 h60 h61 => ?_
      refine d_want rfl q33 ?_
      refine d_mv h28 ?_
      refine d_want rfl q33 ?_
      obtain ⟨x14, q36, e5⟩ := oB e5
      refine d_idx (v := w4) rfl rfl h60 rfl q36 fun p5 q37 => ?_
      refine d_want rfl q33 ?_
      refine d_ldb (RdS.low h60 pR q26) rfl h60 pR q37 q36 ?_
      have h62 := vl_bool h60 pR q37 q36
      refine d_want rfl q33 ?_
      refine d_mv (v := (.bool x14)) rfl ?_
      obtain ⟨y6, e6, e5⟩ := oB e5
      refine d_jn 8 (I := fun tm H => DD n1 29 (List.length F.A1.r13) H ∧ (∃ (Z7 V7 : PH), Gw Z5 V5 Z7 V7 ∧ Sat Z7 V7 H [pts o1 (.rw 0 [vi a0.g.Terms, vi a0.g.Nons, vi a0.g.Start, (vS d1 a0.g.Rules), vi a0.n, (vS d2 a0.has_), (vS d3 a0.loop_), (vS d4 a0.known_), (vS d5 a0.ends), (vS d6 a0.ways)]), Is sB d2 a0.has_, It.sl sB (vS d3 a0.loop_) s1, Is sI1 d4 a0.known_, Is sB2 d5 a0.ends, Is sI2 d6 a0.ways, It.sl sB w1 s12] ∧ tm 0 = (pV o1 0) ∧ tm 2 = (vi x1) ∧ tm 3 = w1 ∧ tm 4 = (vi x4) ∧ tm 5 = (vi x6) ∧ tm 16 = (vi (Pu.W (a0.n + 1))) ∧ tm 17 = (vi x1) ∧ tm 24 = (vN x3) ∧ tm 25 = (vi x4) ∧ tm 29 = (vN s6) ∧ tm 30 = (vi x6) ∧ tm 34 = (vN s9) ∧ tm 35 = (vi x8) ∧ tm 41 = w2 ∧ tm 42 = (vi x8) ∧ tm 50 = (.bool x12) ∧ tm 51 = w1 ∧ tm 52 = (vi x6) ∧ tm 53 = p4 ∧ tm 54 = w4 ∧ tm 55 = (vi x4) ∧ tm 56 = p5 ∧ tm 57 = (.bool x14) ∧ tm 58 = (.bool x14) ∧ tm 66 = (.bool y6) ∧ RdS Sh.bool (Hp.ph H) w2 x10 ∧ vload H 1 false p1 = some w2 ∧ RdS Sh.bool (Hp.ph H) w4 x13 ∧ vload H 1 false p4 = some w4 ∧ RdS Sh.bool (Hp.ph H) w4 x13 ∧ vload H 1 false p4 = some w4)) (fun k6 => ?_) ?_
      ·rcases Bool.eq_false_or_eq_true x14 with q38 | q38
       ·replace e6 := if_t q38 e6
        refine d_want rfl q38 ?_
        refine d_mv h27 ?_
        refine d_want rfl q38 ?_
        refine d_mv h28 ?_
        refine d_want rfl q38 ?_
        obtain ⟨x15, q39, e6⟩ := oB e6
        refine d_idx (v := w1) rfl rfl (s15.curS (s := sB) 6 rfl) rfl q39 fun p6 q40 => ?_
        refine d_want rfl q38 ?_
        refine d_ldsv ((s15.curS 6 rfl).low pR q26) rfl (s15.curS (s := sB) 6 rfl) pR q40 q39 fun w5 h94 h95 => ?_
        refine d_want rfl q38 ?_
        refine d_mv (v := (vi x8)) rfl ?_
        refine d_want rfl q38 ?_
        obtain ⟨x16, q41, e6⟩ := oB e6
        refine d_idx (v := w5) rfl rfl h94 rfl q41 fun p7 q42 => ?_
        refine d_want rfl q38 ?_
        refine d_ldb (RdS.low h94 pR q26) rfl h94 pR q42 q41 ?_
        have h96 := vl_bool h94 pR q42 q41
        refine d_want rfl q33 ?_
        refine d_pickt (a := (.bool x16)) rfl q38 rfl ?_
        obtain rfl := oJ e6
        exact k6 _ _ _ ⟨d7.up rfl, _, _, Gw.refl _ _, s15, h25, h26, h27, h28, h29, h30, h31, h32, h33, h34, h35, h36, hti3, rfl, rfl, rfl, rfl, rfl, rfl, rfl, rfl, rfl, rfl, rfl, rfl, h37, h38, h60, h61, h60, h61⟩
       replace e6 := ib_f q38 e6
       refine d_gn rfl q38 ?_
       refine d_gn rfl q38 ?_
       refine d_gn rfl q38 ?_
       refine d_gn rfl q38 ?_
       refine d_gn rfl q38 ?_
       refine d_gn rfl q38 ?_
       refine d_gn rfl q38 ?_
       refine d_want rfl q33 ?_
       refine d_pickf (b := (.bool false)) rfl q38 rfl ?_
       obtain rfl := oJ e6
       exact k6 _ _ _ ⟨d7.up rfl, _, _, Gw.refl _ _, s15, h25, h26, h27, h28, h29, h30, h31, h32, h33, h34, h35, h36, hti3, rfl, rfl, rfl, rfl, rfl, rfl, rfl, rfl, rfl, rfl, rfl, rfl, h37, h38, h60, h61, h60, h61⟩
      intro _ H12 _ i7
      obtain ⟨d8, Z7, V7, g7, s17, h69, h70, h71, h72, h73, h74, h75, h76, h77, h78, h79, h80, h81, h82, h83, h84, h85, h86, h87, h88, h89, h90, h91, h92, h93, h63, h64, h65, h66, h67, h68⟩ := i7
      refine d_pickf (b := (.bool y6)) h84 q33 h93 ?_
      obtain rfl := oJ e5
      exact k5 _ _ _ ⟨d8.up rfl, _, _, g7, s17, h69, h70, h71, h72, h73, h74, h75, h76, h77, h78, h79, h80, h81, h82, h83, rfl, h63, h64⟩
     intro _ H11 _ i8
     obtain ⟨d9, Z6, V6, g6, s16, h44, h45, h46, h47, h48, h49, h50, h51, h52, h53, h54, h55, h56, h57, h58, h59, h42, h43⟩ := i8
     obtain ⟨x17, q43, e4⟩ := oB e4
     refine d_idx (v := w2) h57 h58 h42 rfl q43 fun p8 q44 => ?_
     refine d_st2 6 s16 rfl Sh.G3 rfl rfl h59 q28 q27 h43 q44 q43 rfl rfl fun H13 s18 k7 => ?_
     have d10 := d9.keep k7
     refine d_nil dc_nil ?_
     refine c_end (c_r (o_add h56 rfl ?_))
     refine o_mv (v := (vi (Pu.W (x8 + 1)))) rfl ?_
     refine c_nil ?_
     obtain rfl := oJ e4
     exact k4 _ _ ⟨(iv rfl (w_sucR q20 q24)), _, _, (g5.trans g6), s18, h44, h45, h46, h47, h48, h49, h50, h51, h52, h53, h54, h55⟩
    obtain ⟨hte3, Z8, V8, g8, s19, h97, h98, h99, h100, h101, h102, h103, h104, h105, h106, h107, h108⟩ := jd
    refine c_sr (o_lss hte3 h108 (c_nil (c_sq ?_)))
    refine c_iff rfl (ran_done _) ?_
    refine c_ex ?_
    refine e_c ?_
    refine e_c ?_
    refine e_h ?_
    refine c_end (c_r (o_add h107 rfl ?_))
    refine o_mv (v := (vi (Pu.W (x6 + 1)))) rfl ?_
    refine c_nil ?_
    obtain rfl := oJ e3
    exact k3 _ _ ⟨(iv rfl (w_sucR q14 q18)), _, _, (g4.trans g8), s19, h97, h98, h99, h100, h102, h103, h104, h105, h106⟩
   obtain ⟨hte2, Z9, V9, g9, s20, h109, h110, h111, h112, h113, h114, h115, h116, h117⟩ := jd
   refine c_sr (o_lss hte2 h117 (c_nil (c_sq ?_)))
   refine c_iff rfl (ran_done _) ?_
   refine c_ex ?_
   refine e_c ?_
   refine e_c ?_
   refine e_h ?_
   refine c_end (c_r (o_add h116 rfl ?_))
   refine o_mv (v := (vi (Pu.W (x4 + 1)))) rfl ?_
   refine c_nil ?_
   obtain rfl := oJ e2
   exact k2 _ _ ⟨(iv rfl (w_sucR q8 q12)), _, _, (g3.trans g9), s20, h109, h110, h111, h113, h114, h115⟩
  obtain ⟨hte1, Z10, V10, g10, s21, h118, h119, h120, h121, h122, h123⟩ := jd
  refine c_sr (o_lss hte1 h123 (c_nil (c_sq ?_)))
  refine c_iff rfl (ran_done _) ?_
  refine c_ex ?_
  refine e_c ?_
  refine e_c ?_
  refine e_h ?_
  refine c_sr (o_mv h120 ?_)
  refine o_len rfl ((s21.curS (s := sB) 6 rfl)).len ?_
  refine o_mv (v := (vi 0)) rfl ?_
  refine c_nil ?_
  obtain ⟨x19, q47, e1⟩ := oB e1
  obtain ⟨rfl, q49⟩ := ranO_some q47
  obtain ⟨y7, q50, e1⟩ := oB e1
  refine c_bk ?_
  refine l_forP (xs := (Pu.ran (y2.length : Int))) (fun (i9 : Nat) (s22 : (List (List Bool))) tm H => tm 74 = vi i9 ∧ ∃ (Z11 V11 : PH), Gw Z10 V10 Z11 V11 ∧ Sat Z11 V11 H [pts o1 (.rw 0 [vi a0.g.Terms, vi a0.g.Nons, vi a0.g.Start, (vS d1 a0.g.Rules), vi a0.n, (vS d2 a0.has_), (vS d3 a0.loop_), (vS d4 a0.known_), (vS d5 a0.ends), (vS d6 a0.ways)]), Is sB d2 a0.has_, It.sl sB (vS d3 a0.loop_) s22, Is sI1 d4 a0.known_, Is sB2 d5 a0.ends, Is sI2 d6 a0.ways, It.sl sB w1 y2] ∧ tm 0 = (pV o1 0) ∧ tm 2 = (vi x1) ∧ tm 3 = w1 ∧ tm 16 = (vi (Pu.W (a0.n + 1))) ∧ tm 17 = (vi x1) ∧ tm 73 = (vN y2)) (fun i9 x18 s22 s24 tm H18 q45 q46 j5 e7 k8 => ?_) (fun tm H17 jd => ?_) q50 ⟨rfl, _, _, Gw.refl _ _, s21, h118, h119, h120, h121, h122, rfl⟩
  ·obtain ⟨hti4, Z11, V11, g11, s23, h124, h125, h126, h127, h128, h129⟩ := j5
   unfold P.A1.b4 at e7
   have hti4 := iv hti4 (ran_x q45).symm
   refine c_sr (o_lss hti4 h129 (c_nil (c_sq ?_)))
   refine c_ift rfl (ran_lt q45) ?_
   refine c_sk (c_sq (c_bk (c_sr (o_mv hti4 ?_))))
   refine o_mv (v := (vi x18)) rfl ?_
   refine c_nil ?_
   refine d_start s23 fun n2 H19 s25 q51 d11 => ?_
   refine d_mv h124 ?_
   refine d_nck rfl ?_
   refine d_fad rfl ?_
   refine d_ldB (q51 _ _ (ph_some.2 ⟨s25.curB 0 rfl, by simp⟩)) 0 s25 rfl rfl rfl rfl ?_
   refine d_mv (v := (vi x18)) rfl ?_
   obtain ⟨x20, q52, e7⟩ := oB e7
   refine d_idx (v := (vS d3 a0.loop_)) rfl rfl (s25.curS (s := sB) 2 rfl) rfl q52 fun p9 q53 => ?_
   refine d_ldsv ((s25.curS 2 rfl).low pR q51) rfl (s25.curS (s := sB) 2 rfl) pR q53 q52 fun w6 h130 h131 => ?_
   refine d_mv h125 ?_
   refine d_mv h126 ?_
   refine d_mv (v := (vi x18)) rfl ?_
   obtain ⟨x21, q54, e7⟩ := oB e7
   refine d_idx (v := w1) rfl rfl (s25.curS (s := sB) 6 rfl) rfl q54 fun p10 q55 => ?_
   refine d_ldsv ((s25.curS 6 rfl).low pR q51) rfl (s25.curS (s := sB) 6 rfl) pR q55 q54 fun w7 h132 h133 => ?_
   refine d_mv (v := (vi x18)) rfl ?_
   obtain ⟨x22, q56, e7⟩ := oB e7
   refine d_idx (v := w7) rfl rfl h132 rfl q56 fun p11 q57 => ?_
   refine d_ldb (RdS.low h132 pR q51) rfl h132 pR q57 q56 ?_
   have h134 := vl_bool h132 pR q57 q56
   obtain ⟨x23, q58, e7⟩ := oB e7
   refine d_idx (v := w6) rfl rfl h130 rfl q58 fun p12 q59 => ?_
   refine d_st2 2 s25 rfl Sh.G3 rfl rfl rfl q53 q52 h131 q59 q58 rfl rfl fun H20 s26 k9 => ?_
   have d12 := d11.keep k9
   refine d_nil dc_nil ?_
   refine c_end (c_r (o_add hti4 rfl ?_))
   refine o_mv (v := (vi (Pu.W (x18 + 1)))) rfl ?_
   refine c_nil ?_
   obtain rfl := oJ e7
   exact k8 _ _ ⟨(iv rfl (w_sucR q45 q49)), _, _, g11, s26, h124, h125, h126, h127, h128, h129⟩
  obtain ⟨hte4, Z12, V12, g12, s27, h135, h136, h137, h138, h139, h140⟩ := jd
  refine c_sr (o_lss hte4 h140 (c_nil (c_sq ?_)))
  refine c_iff rfl (ran_done _) ?_
  refine c_ex ?_
  refine e_c ?_
  refine e_c ?_
  refine e_h ?_
  refine c_end (c_r (o_add h139 rfl ?_))
  refine o_mv (v := (vi (Pu.W (x1 + 1)))) rfl ?_
  refine c_nil ?_
  obtain rfl := oJ e1
  exact k1 _ _ ⟨(iv rfl (w_sucR q1 q5)), _, _, (g1.trans (g2.trans (g10.trans g12))), (s27.pick [0, 1, 2, 3, 4, 5] rfl), h135, h138⟩
 obtain ⟨hte0, Z13, V13, g13, s28, h141, h142⟩ := jd
 refine c_sr (o_lss hte0 h142 (c_nil (c_sq ?_)))
 refine c_iff rfl (ran_done _) ?_
 refine c_ex ?_
 refine e_c ?_
 refine e_c ?_
 refine e_h ?_
 refine c_sr ?_
 refine o_mv (v := (.bool true)) rfl ?_
 refine c_nil ?_
 obtain ⟨y8, q62, e⟩ := oB e
 refine c_jn (I := fun tm H => ∃ (s31 : (Int × Int × Int × (List Ty.A6) × Int × (List (List Bool)) × (List (List Bool)) × (List (List Int)) × (List (List (List Bool))) × (List (List (List Int))) × Bool)), y8 = .out s31 ∧ (∃ (Z15 V15 : PH) (w14 : Value) (w15 : Value) (w16 : Value) (w17 : Value) (w18 : Value) (w19 : Value), Gw Z13 V13 Z15 V15 ∧ Sat Z15 V15 H [pts o1 (.rw 0 [vi s31.1, vi s31.2.1, vi s31.2.2.1, w19, vi s31.2.2.2.2.1, w14, w15, w16, w17, w18]), It.sl sB w14 s31.2.2.2.2.2.1, It.sl sB w15 s31.2.2.2.2.2.2.1, It.sl sI1 w16 s31.2.2.2.2.2.2.2.1, It.sl sB2 w17 s31.2.2.2.2.2.2.2.2.1, It.sl sI2 w18 s31.2.2.2.2.2.2.2.2.2.1] ∧ tm 0 = (pV o1 0) ∧ tm 8 = (.bool s31.2.2.2.2.2.2.2.2.2.2) ∧ RdS Sh.A6 Z15 w19 s31.2.2.2.1)) (fun k13 => ?_) ?_
 ·refine c_bk ?_
  refine l_whl (fun (s29 : (Int × Int × Int × (List Ty.A6) × Int × (List (List Bool)) × (List (List Bool)) × (List (List Int)) × (List (List (List Bool))) × (List (List (List Int))) × Bool)) tm H => ∃ (Z14 V14 : PH) (w8 : Value) (w9 : Value) (w10 : Value) (w11 : Value) (w12 : Value) (w13 : Value), Gw Z13 V13 Z14 V14 ∧ Sat Z14 V14 H [pts o1 (.rw 0 [vi s29.1, vi s29.2.1, vi s29.2.2.1, w13, vi s29.2.2.2.2.1, w8, w9, w10, w11, w12]), It.sl sB w8 s29.2.2.2.2.2.1, It.sl sB w9 s29.2.2.2.2.2.2.1, It.sl sI1 w10 s29.2.2.2.2.2.2.2.1, It.sl sB2 w11 s29.2.2.2.2.2.2.2.2.1, It.sl sI2 w12 s29.2.2.2.2.2.2.2.2.2.1] ∧ tm 0 = (pV o1 0) ∧ tm 8 = (.bool s29.2.2.2.2.2.2.2.2.2.2) ∧ RdS Sh.A6 Z14 w13 s29.2.2.2.1) (fun s29 y9 tm H24 j6 e8 k10 k11 k12 => ?_) q62 ⟨_, _, _, _, _, _, _, _, Gw.refl _ _, s28, h141, rfl, (hp1.mono g13.z)⟩
  obtain ⟨Z14, V14, w8, w9, w10, w11, w12, w13, g14, s30, h144, h145, h143⟩ := j6
  unfold P.A1.b5 at e8
  refine c_sq (c_sr (o_mv h145 (c_nil ?_)))
  refine c_if rfl (fun q63 => ?_) (fun q63 => ?_)
  ·replace e8 := if_t q63 e8
   refine c_sk (c_bk (c_sr ?_))
   refine o_mv (v := (.bool false)) rfl ?_
   refine c_nil (c_sr (o_mv h144 (o_nck rfl (o_fad rfl ?_))))
   refine o_fad rfl ?_
   obtain ⟨d13, rfl⟩ := (h143).val
   obtain ⟨d14, rfl⟩ := ((s30.curS (s := sB) 1 rfl)).val
   obtain ⟨d15, rfl⟩ := ((s30.curS (s := sB) 2 rfl)).val
   obtain ⟨d16, rfl⟩ := ((s30.curS (s := sI1) 3 rfl)).val
   obtain ⟨d17, rfl⟩ := ((s30.curS (s := sB2) 4 rfl)).val
   obtain ⟨d18, rfl⟩ := ((s30.curS (s := sI2) 5 rfl)).val
   refine o_ldB 0 s30 rfl rfl rfl rfl (o_len rfl (h143).len ?_)
   refine o_mv (v := (vi 0)) rfl ?_
   refine c_nil ?_
   obtain ⟨y10, q66, e8⟩ := oB e8
   refine c_bk ?_
   refine l_forP (xs := s29.2.2.2.1) (fun (i11 : Nat) (s33 : (Int × Int × Int × (List Ty.A6) × Int × (List (List Bool)) × (List (List Bool)) × (List (List Int)) × (List (List (List Bool))) × (List (List (List Int))) × Bool)) tm H => tm 102 = vi i11 ∧ ∃ (Z16 V16 : PH) (w20 : Value) (w21 : Value) (w22 : Value) (w23 : Value) (w24 : Value) (w25 : Value), Gw Z14 V14 Z16 V16 ∧ Sat Z16 V16 H [pts o1 (.rw 0 [vi s33.1, vi s33.2.1, vi s33.2.2.1, w25, vi s33.2.2.2.2.1, w20, w21, w22, w23, w24]), It.sl sB w20 s33.2.2.2.2.2.1, It.sl sB w21 s33.2.2.2.2.2.2.1, It.sl sI1 w22 s33.2.2.2.2.2.2.2.1, It.sl sB2 w23 s33.2.2.2.2.2.2.2.2.1, It.sl sI2 w24 s33.2.2.2.2.2.2.2.2.2.1] ∧ tm 0 = (pV o1 0) ∧ tm 8 = (.bool s33.2.2.2.2.2.2.2.2.2.2) ∧ tm 100 = (vS d13 s29.2.2.2.1) ∧ tm 101 = (vN s29.2.2.2.1) ∧ RdS Sh.A6 Z16 w25 s33.2.2.2.1) (fun i11 x25 s33 s35 tm H27 q64 q65 j7 e9 k14 => ?_) (fun tm H26 jd => ?_) q66 ⟨rfl, _, _, _, _, _, _, _, _, Gw.refl _ _, s30, h144, rfl, rfl, rfl, h143⟩
   ·obtain ⟨hti6, Z16, V16, w20, w21, w22, w23, w24, w25, g16, s34, h150, h151, h152, h153, h149⟩ := j7
    unfold P.A1.b6 at e9
    refine c_sr (o_lss hti6 h153 (c_nil (c_sq ?_)))
    refine c_ift rfl (Int.ofNat_lt.2 q65) ?_
    refine c_sk (c_sq (c_bk (c_sr (o_mv hti6 ?_))))
    refine o_idx (v := (vS d13 s29.2.2.2.1)) h152 hti6 (h143.mono g16.z) rfl (Pu.ix_nat.trans q64) fun p13 q67 => ?_
    refine o_lda rfl (h143.mono g16.z) s34.z rfl q67 (Pu.ix_nat.trans q64) fun c5 h154 => ?_
    obtain ⟨w26, rfl, h155⟩ := Sh.G2 h154
    refine o_new s34 fun b1 H28 s36 => ?_
    refine o_mv (v := (vJ i11)) rfl ?_
    obtain ⟨d19, rfl⟩ := (h155).val
    refine o_stB (us' := [vi x25.Left, (vS d19 x25.Right)]) 0 s36 rfl rfl rfl rfl rfl rfl rfl fun H29 s37 => ?_
    refine c_nil (c_sr (o_mv h150 (o_nck rfl (o_fad rfl ?_))))
    obtain ⟨d20, rfl⟩ := (h149).val
    obtain ⟨d21, rfl⟩ := ((s37.curS (s := sB) 2 rfl)).val
    obtain ⟨d22, rfl⟩ := ((s37.curS (s := sB) 3 rfl)).val
    obtain ⟨d23, rfl⟩ := ((s37.curS (s := sI1) 4 rfl)).val
    obtain ⟨d24, rfl⟩ := ((s37.curS (s := sB2) 5 rfl)).val
    obtain ⟨d25, rfl⟩ := ((s37.curS (s := sI2) 6 rfl)).val
    refine o_ldB 1 s37 rfl rfl rfl rfl (o_add rfl rfl ?_)
    refine o_mv (v := (vi 0)) rfl ?_
    refine c_nil ?_
    refine c_gen (P := fun tm => tm 0 = (pV o1 0) ∧ tm 8 = (.bool s33.2.2.2.2.2.2.2.2.2.2) ∧ tm 9 = (vJ i11) ∧ tm 10 = (pV b1 0) ∧ tm 100 = (vS d13 s29.2.2.2.1) ∧ tm 101 = (vN s29.2.2.2.1) ∧ tm 102 = (vJ i11) ∧ tm 111 = (vi (Pu.W (s33.2.2.2.2.1 + 1))) ∧ tm 112 = (vi 0) ∧ True) ⟨h150, h151, rfl, rfl, h152, h153, hti6, rfl, rfl, trivial⟩ ?_
    intro _ i12
    obtain ⟨h156, h157, h158, h159, h160, h161, h162, h163, h164, -⟩ := i12
    obtain ⟨x27, q70, e9⟩ := oB e9
    obtain ⟨rfl, q72⟩ := ranO_some q70
    obtain ⟨y11, q73, e9⟩ := oB e9
    refine c_bk ?_
    refine l_forP (xs := (Pu.ran (Pu.W (s33.2.2.2.2.1 + 1)))) (fun (i13 : Nat) (s38 : (Int × Int × Int × (List Ty.A6) × Int × (List (List Bool)) × (List (List Bool)) × (List (List Int)) × (List (List (List Bool))) × (List (List (List Int))) × Bool)) tm H => tm 112 = vi i13 ∧ ∃ (Z17 V17 : PH) (w27 : Value) (w28 : Value) (w29 : Value) (w30 : Value) (w31 : Value) (w32 : Value), Gw Z16 V16 Z17 V17 ∧ Sat Z17 V17 H [pts o1 (.rw 0 [vi s38.1, vi s38.2.1, vi s38.2.2.1, w32, vi s38.2.2.2.2.1, w27, w28, w29, w30, w31]), It.sl sB w27 s38.2.2.2.2.2.1, It.sl sB w28 s38.2.2.2.2.2.2.1, It.sl sI1 w29 s38.2.2.2.2.2.2.2.1, It.sl sB2 w30 s38.2.2.2.2.2.2.2.2.1, It.sl sI2 w31 s38.2.2.2.2.2.2.2.2.2.1, pts b1 (.rw 0 [vi x25.Left, (vS d19 x25.Right)])] ∧ tm 0 = (pV o1 0) ∧ tm 8 = (.bool s38.2.2.2.2.2.2.2.2.2.2) ∧ tm 9 = (vJ i11) ∧ tm 10 = (pV b1 0) ∧ tm 100 = (vS d13 s29.2.2.2.1) ∧ tm 101 = (vN s29.2.2.2.1) ∧ tm 102 = (vJ i11) ∧ tm 111 = (vi (Pu.W (s33.2.2.2.2.1 + 1))) ∧ RdS Sh.A6 Z17 w32 s38.2.2.2.1) (fun i13 x26 s38 s40 tm H31 q68 q69 j8 e10 k15 => ?_) (fun tm H30 jd => ?_) q73 ⟨h164, _, _, _, _, _, _, _, _, Gw.refl _ _, (s37.pick [1, 2, 3, 4, 5, 6, 0] rfl), h156, h157, h158, h159, h160, h161, h162, h163, h149⟩
    ·obtain ⟨hti7, Z17, V17, w27, w28, w29, w30, w31, w32, g17, s39, h166, h167, h168, h169, h170, h171, h172, h173, h165⟩ := j8
     unfold P.A1.b7 at e10
     have hti7 := iv hti7 (ran_x q68).symm
     refine c_sr (o_lss hti7 h173 (c_nil (c_sq ?_)))
     refine c_ift rfl (ran_lt q68) ?_
     refine c_sk (c_sq (c_bk (c_sr (o_mv hti7 ?_))))
     refine o_mv (v := (vi x26)) rfl ?_
     refine c_nil (c_sq ?_)
     refine d_start s39 fun n3 H32 s41 q74 d26 => ?_
     refine d_mv h166 ?_
     refine d_nck rfl ?_
     refine d_fad rfl ?_
     obtain ⟨d27, rfl⟩ := (h165).val
     obtain ⟨d28, rfl⟩ := ((s41.curS (s := sB) 1 rfl)).val
     obtain ⟨d29, rfl⟩ := ((s41.curS (s := sB) 2 rfl)).val
     obtain ⟨d30, rfl⟩ := ((s41.curS (s := sI1) 3 rfl)).val
     obtain ⟨d31, rfl⟩ := ((s41.curS (s := sB2) 4 rfl)).val
     obtain ⟨d32, rfl⟩ := ((s41.curS (s := sI2) 5 rfl)).val
     refine d_ldB (q74 _ _ (ph_some.2 ⟨s41.curB 0 rfl, by simp⟩)) 0 s41 rfl rfl rfl rfl ?_
     refine d_fad h169 ?_
     refine d_ldB (q74 _ _ (ph_some.2 ⟨s41.curB 6 rfl, by simp⟩)) 6 s41 rfl rfl rfl rfl ?_
     obtain ⟨x28, q75, e10⟩ := oB e10
     refine d_idx (v := (vS d29 s38.2.2.2.2.2.2.1)) rfl rfl (s41.curS (s := sB) 2 rfl) rfl q75 fun p14 q76 => ?_
     refine d_ldsv ((s41.curS 2 rfl).low pR q74) rfl (s41.curS (s := sB) 2 rfl) pR q76 q75 fun w33 h174 h175 => ?_
     refine d_mv (v := (vi x26)) rfl ?_
     obtain ⟨x29, q77, e10⟩ := oB e10
     refine d_idx (v := w33) rfl rfl h174 rfl q77 fun p15 q78 => ?_
     refine d_ldb (RdS.low h174 pR q74) rfl h174 pR q78 q77 ?_
     have h176 := vl_bool h174 pR q78 q77
     refine d_not rfl ?_
     refine d_mv (v := (.bool (!x29))) rfl ?_
     obtain ⟨y12, e11, e10⟩ := oB e10
     refine d_jn 5 (I := fun tm H => DD n3 18 (List.length F.A1.r32) H ∧ (∃ (Z18 V18 : PH) (w34 : Value) (w35 : Value) (w36 : Value) (w37 : Value) (w38 : Value) (w39 : Value), Gw Z17 V17 Z18 V18 ∧ Sat Z18 V18 H [pts o1 (.rw 0 [vi y12.1, vi y12.2.1, vi y12.2.2.1, w39, vi y12.2.2.2.2.1, w34, w35, w36, w37, w38]), It.sl sB w34 y12.2.2.2.2.2.1, It.sl sB w35 y12.2.2.2.2.2.2.1, It.sl sI1 w36 y12.2.2.2.2.2.2.2.1, It.sl sB2 w37 y12.2.2.2.2.2.2.2.2.1, It.sl sI2 w38 y12.2.2.2.2.2.2.2.2.2.1, pts b1 (.rw 0 [vi x25.Left, (vS d19 x25.Right)])] ∧ tm 0 = (pV o1 0) ∧ tm 8 = (.bool s38.2.2.2.2.2.2.2.2.2.2) ∧ tm 9 = (vJ i11) ∧ tm 10 = (pV b1 0) ∧ tm 11 = (vi x26) ∧ tm 100 = (vS d13 s29.2.2.2.1) ∧ tm 101 = (vN s29.2.2.2.1) ∧ tm 102 = (vJ i11) ∧ tm 111 = (vi (Pu.W (s33.2.2.2.2.1 + 1))) ∧ tm 112 = (vi x26) ∧ tm 132 = (.bool y12.2.2.2.2.2.2.2.2.2.2) ∧ RdS Sh.A6 Z18 w39 y12.2.2.2.1)) (fun k16 => ?_) ?_
     ·rcases Bool.eq_false_or_eq_true (!x29) with q79 | q79
      ·replace e11 := if_t q79 e11
       refine d_want rfl q79 ?_
       refine d_mv h166 ?_
       refine d_want rfl q79 ?_
       refine d_mv h168 ?_
       refine d_want rfl q79 ?_
       refine d_mv (v := (vi x26)) rfl ?_
       refine d_want rfl q79 ?_
       obtain ⟨x30, q80, e11⟩ := oB e11
       obtain ⟨Z19, V19, W2, g19, u2, c6, c7, -, c9, c8⟩ := Sat.call (l1 := [pts o1 (.rw 0 [vi s38.1, vi s38.2.1, vi s38.2.2.1, (vS d27 s38.2.2.2.1), vi s38.2.2.2.2.1, (vS d28 s38.2.2.2.2.2.1), (vS d29 s38.2.2.2.2.2.2.1), (vS d30 s38.2.2.2.2.2.2.2.1), (vS d31 s38.2.2.2.2.2.2.2.2.1), (vS d32 s38.2.2.2.2.2.2.2.2.2.1)]), Is sB d28 s38.2.2.2.2.2.1, Is sB d29 s38.2.2.2.2.2.2.1, Is sI1 d30 s38.2.2.2.2.2.2.2.1, Is sB2 d31 s38.2.2.2.2.2.2.2.2.1, Is sI2 d32 s38.2.2.2.2.2.2.2.2.2.1]) (l2 := [pts b1 (.rw 0 [vi x25.Left, (vS d19 x25.Right)])]) s41
       refine d_call (mc rfl (mc rfl (mc rfl (mc rfl m0)))) (X.B3 nd.B3 (a0 := (Ty.C3.mk (Ty.B2.mk s38.1 s38.2.1 s38.2.2.1 s38.2.2.2.1) s38.2.2.2.2.1 s38.2.2.2.2.2.1 s38.2.2.2.2.2.2.1 s38.2.2.2.2.2.2.2.1 s38.2.2.2.2.2.2.2.2.1 s38.2.2.2.2.2.2.2.2.2.1)) c6 (h165.mono g19.z) q80) fun _ H34 i14 k17 => ?_
       have d33 := d26.keep k17
       obtain ⟨w40, w41, w42, w43, w44, w45, rfl, s43⟩ := i14
       have s44 := c8 _ _ s43
       obtain ⟨Z20, V20, g20, s45, h189⟩ := (s44.pull 1 rfl).frzR
       refine d_pickt (a := (.bool x30.2)) rfl q79 rfl ?_
       obtain rfl := oJ e11
       exact k16 _ _ _ ⟨d33.up rfl, _, _, _, _, _, _, _, _, (g19.trans g20), s45, h166, h167, h168, h169, rfl, h170, h171, h172, h173, hti7, rfl, h189⟩
      replace e11 := ib_f q79 e11
      refine d_gn rfl q79 ?_
      refine d_gn rfl q79 ?_
      refine d_gn rfl q79 ?_
      refine d_gn rfl q79 ?_
      refine d_pickf (b := (.bool false)) rfl q79 rfl ?_
      obtain rfl := oJ e11
      exact k16 _ _ _ ⟨d26.up rfl, _, _, _, _, _, _, _, _, Gw.refl _ _, s41, h166, h167, h168, h169, rfl, h170, h171, h172, h173, hti7, rfl, h165⟩
     intro _ H33 _ i15
     obtain ⟨d34, Z18, V18, w34, w35, w36, w37, w38, w39, g18, s42, h178, h179, h180, h181, h182, h183, h184, h185, h186, h187, h188, h177⟩ := i15
     refine d_nil dc_nil ?_
     obtain ⟨y13, e12, e10⟩ := oB e10
     refine c_jn (I := fun tm H => ∃ (Z21 V21 : PH), Gw Z18 V18 Z21 V21 ∧ Sat Z21 V21 H [pts o1 (.rw 0 [vi y12.1, vi y12.2.1, vi y12.2.2.1, w39, vi y12.2.2.2.2.1, w34, w35, w36, w37, w38]), It.sl sB w34 y12.2.2.2.2.2.1, It.sl sB w35 y13.1, It.sl sI1 w36 y12.2.2.2.2.2.2.2.1, It.sl sB2 w37 y12.2.2.2.2.2.2.2.2.1, It.sl sI2 w38 y12.2.2.2.2.2.2.2.2.2.1, pts b1 (.rw 0 [vi x25.Left, (vS d19 x25.Right)])] ∧ tm 0 = (pV o1 0) ∧ tm 8 = (.bool y13.2) ∧ tm 9 = (vJ i11) ∧ tm 10 = (pV b1 0) ∧ tm 100 = (vS d13 s29.2.2.2.1) ∧ tm 101 = (vN s29.2.2.2.1) ∧ tm 102 = (vJ i11) ∧ tm 111 = (vi (Pu.W (s33.2.2.2.2.1 + 1))) ∧ tm 112 = (vi x26)) (fun k18 => ?_) ?_
     ·refine c_if h188 (fun q81 => ?_) (fun q81 => ?_)
      ·replace e12 := if_t q81 e12
       refine d_start s42 fun n4 H36 s47 q82 d35 => ?_
       refine d_mv h178 ?_
       refine d_nck rfl ?_
       refine d_fad rfl ?_
       obtain ⟨d36, rfl⟩ := (h177).val
       obtain ⟨d37, rfl⟩ := ((s47.curS (s := sB) 1 rfl)).val
       obtain ⟨d38, rfl⟩ := ((s47.curS (s := sB) 2 rfl)).val
       obtain ⟨d39, rfl⟩ := ((s47.curS (s := sI1) 3 rfl)).val
       obtain ⟨d40, rfl⟩ := ((s47.curS (s := sB2) 4 rfl)).val
       obtain ⟨d41, rfl⟩ := ((s47.curS (s := sI2) 5 rfl)).val
       refine d_ldB (q82 _ _ (ph_some.2 ⟨s47.curB 0 rfl, by simp⟩)) 0 s47 rfl rfl rfl rfl ?_
       refine d_fad h181 ?_
       refine d_ldB (q82 _ _ (ph_some.2 ⟨s47.curB 6 rfl, by simp⟩)) 6 s47 rfl rfl rfl rfl ?_
       obtain ⟨x31, q83, e12⟩ := oB e12
       refine d_idx (v := (vS d38 y12.2.2.2.2.2.2.1)) rfl rfl (s47.curS (s := sB) 2 rfl) rfl q83 fun p16 q84 => ?_
       refine d_ldsv ((s47.curS 2 rfl).low pR q82) rfl (s47.curS (s := sB) 2 rfl) pR q84 q83 fun w46 h199 h200 => ?_
       refine d_mv h182 ?_
       obtain ⟨x32, q85, e12⟩ := oB e12
       refine d_idx (v := w46) rfl rfl h199 rfl q85 fun p17 q86 => ?_
       refine d_st2 2 s47 rfl Sh.G3 rfl rfl rfl q84 q83 h200 q86 q85 rfl rfl fun H37 s48 k19 => ?_
       have d42 := d35.keep k19
       refine d_mv (v := (.bool true)) rfl ?_
       refine d_nil dc_nil ?_
       obtain rfl := oJ e12
       exact k18 _ _ ⟨_, _, Gw.refl _ _, s48, h178, rfl, h180, h181, h183, h184, h185, h186, h187⟩
      replace e12 := ib_f q81 e12
      refine c_sk ?_
      obtain rfl := oJ e12
      exact k18 _ _ ⟨_, _, Gw.refl _ _, s42, h178, h179, h180, h181, h183, h184, h185, h186, h187⟩
     intro _ H35 i16
     obtain ⟨Z21, V21, g21, s46, h190, h191, h192, h193, h194, h195, h196, h197, h198⟩ := i16
     refine c_end (c_r (o_add h198 rfl ?_))
     refine o_mv (v := (vi (Pu.W (x26 + 1)))) rfl ?_
     refine c_nil ?_
     obtain rfl := oJ e10
     exact k15 _ _ ⟨(iv rfl (w_sucR q68 q72)), _, _, _, _, _, _, _, _, (g17.trans (g18.trans g21)), s46, h190, h191, h192, h193, h194, h195, h196, h197, (h177.mono g21.z)⟩
    obtain ⟨hte7, Z22, V22, w47, w48, w49, w50, w51, w52, g22, s49, h202, h203, h204, h205, h206, h207, h208, h209, h201⟩ := jd
    refine c_sr (o_lss hte7 h209 (c_nil (c_sq ?_)))
    refine c_iff rfl (ran_done _) ?_
    refine c_ex ?_
    refine e_c ?_
    refine e_c ?_
    refine e_h ?_
    refine c_end (c_r (o_add h208 rfl ?_))
    refine o_mv (v := (vi (Pu.W ((i11 : Int) + 1)))) rfl ?_
    refine c_nil ?_
    obtain rfl := oJ e9
    exact k14 _ _ ⟨(iv rfl (w_suc q65 (h143).bd)), _, _, _, _, _, _, _, _, (g16.trans g22), (s49.pick [0, 1, 2, 3, 4, 5] rfl), h202, h203, h206, h207, h201⟩
   obtain ⟨hte6, Z23, V23, w53, w54, w55, w56, w57, w58, g23, s50, h211, h212, h213, h214, h210⟩ := jd
   refine c_sr (o_lss hte6 h214 (c_nil (c_sq ?_)))
   refine c_iff rfl (Int.lt_irrefl _) ?_
   refine c_ex ?_
   refine e_c ?_
   refine e_c ?_
   refine e_h ?_
   refine c_end ?_
   exact k10 _ _ _ (sJ e8) ⟨_, _, _, _, _, _, _, _, (g14.trans g23), s50, h211, h212, h210⟩
  replace e8 := ib_f q63 e8
  refine c_ex ?_
  refine e_c ?_
  refine e_c ?_
  refine e_h ?_
  exact k13 _ _ ⟨_, k11 _ (sJ e8), _, _, _, _, _, _, _, _, g14, s30, h144, h145, h143⟩
 intro _ H25 i17
 obtain ⟨s31, f1, Z15, V15, w14, w15, w16, w17, w18, w19, g15, s32, h147, h148, h146⟩ := i17
 replace e := fin_o f1 e
 obtain ⟨d43, rfl⟩ := (h146).val
 obtain ⟨d44, rfl⟩ := ((s32.curS (s := sB) 1 rfl)).val
 obtain ⟨d45, rfl⟩ := ((s32.curS (s := sB) 2 rfl)).val
 obtain ⟨d46, rfl⟩ := ((s32.curS (s := sI1) 3 rfl)).val
 obtain ⟨d47, rfl⟩ := ((s32.curS (s := sB2) 4 rfl)).val
 obtain ⟨d48, rfl⟩ := ((s32.curS (s := sI2) 5 rfl)).val
 obtain rfl := oJ e
 refine c_done ?_
 exact ⟨.inl rfl, _, rfl, _, _, _, _, _, _, rfl, (((s32.push (ro_it (sl_ro h146))).pick [1, 0, 2, 3, 4, 5, 6] rfl).weak (g13.trans g15) hs.zv)⟩
structure Nd.B1 (T : FuncId → Option AFunc) : Prop where
 own_census_table_count : Has T I.B1 F.B1
 own_census_table_way : Has T I.B8 F.B8
 D0 : Nd.D0 T
abbrev Nd.B8 := Nd.B1
set_option maxHeartbeats 1000000 in
theorem X.G5 {T : FuncId → Option AFunc} (nd : Nd.B1 T) : ∀ φ : Nat, (∀ {Z V : PH} {H : Hp} {v1 : Value} {v2 : Value} {v3 : Value} {v4 : Value} {v5 : Value} {v6 : Value} {o1 : Nat} {a0 : Ty.C3} {a1 : Int} {a2 : Int} (hs : Sat Z V H [pts o1 (.rw 0 [vi a0.g.Terms, vi a0.g.Nons, vi a0.g.Start, v1, vi a0.n, v2, v3, v4, v5, v6]), It.sl sB v2 a0.has_, It.sl sB v3 a0.loop_, It.sl sI1 v4 a0.known_, It.sl sB2 v5 a0.ends, It.sl sI2 v6 a0.ways]) (hp1 : RdS Sh.A6 Z v1 a0.g.Rules) {r : (Ty.C3 × Int)} (e : P.B1 φ a0 a1 a2 = some r), G T I.B1 [(pV o1 0), vi a1, vi a2] H (fun rv H' => ∃ (u1 : Value) (u2 : Value) (u3 : Value) (u4 : Value) (u5 : Value) (u6 : Value), rv = (vi r.2) ∧ Sat Z V H' [pts o1 (.rw 0 [vi r.1.g.Terms, vi r.1.g.Nons, vi r.1.g.Start, u1, vi r.1.n, u2, u3, u4, u5, u6]), Sh.it (Sh.ro (Sh.sl Sh.A6)) [u1] r.1.g.Rules, It.sl sB u2 r.1.has_, It.sl sB u3 r.1.loop_, It.sl sI1 u4 r.1.known_, It.sl sB2 u5 r.1.ends, It.sl sI2 u6 r.1.ways])) ∧ (∀ {Z V : PH} {H : Hp} {v1 : Value} {v2 : Value} {v3 : Value} {v4 : Value} {v5 : Value} {v6 : Value} {o1 : Nat} {a0 : Ty.C3} {a1 : Int} {a2 : Int} {a3 : Int} (hs : Sat Z V H [pts o1 (.rw 0 [vi a0.g.Terms, vi a0.g.Nons, vi a0.g.Start, v1, vi a0.n, v2, v3, v4, v5, v6]), It.sl sB v2 a0.has_, It.sl sB v3 a0.loop_, It.sl sI1 v4 a0.known_, It.sl sB2 v5 a0.ends, It.sl sI2 v6 a0.ways]) (hp1 : RdS Sh.A6 Z v1 a0.g.Rules) {r : (Ty.C3 × Int)} (e : P.B8 φ a0 a1 a2 a3 = some r), G T I.B8 [(pV o1 0), vi a1, vi a2, vi a3] H (fun rv H' => ∃ (u1 : Value) (u2 : Value) (u3 : Value) (u4 : Value) (u5 : Value) (u6 : Value), rv = (vi r.2) ∧ Sat Z V H' [pts o1 (.rw 0 [vi r.1.g.Terms, vi r.1.g.Nons, vi r.1.g.Start, u1, vi r.1.n, u2, u3, u4, u5, u6]), Sh.it (Sh.ro (Sh.sl Sh.A6)) [u1] r.1.g.Rules, It.sl sB u2 r.1.has_, It.sl sB u3 r.1.loop_, It.sl sI1 u4 r.1.known_, It.sl sB2 u5 r.1.ends, It.sl sI2 u6 r.1.ways])) := by
 intro φ
 induction φ with
 | zero =>
   refine ⟨?_, ?_⟩
   ·intro Z V H v1 v2 v3 v4 v5 v6 o1 a0 a1 a2 hs hp1 r e
    rw [P.B1] at e; cases e
   ·intro Z V H v1 v2 v3 v4 v5 v6 o1 a0 a1 a2 a3 hs hp1 r e
    rw [P.B8] at e; cases e
 | succ φ ih =>
   refine ⟨?_, ?_⟩
   ·intro Z V H v1 v2 v3 v4 v5 v6 o1 a0 a1 a2 hs hp1 r e
    rw [P.B1] at e
    refine f_mk nd.own_census_table_count ?_
    refine c_sr ?_
    refine o_mv (v := (vi 0)) rfl ?_
    refine c_nil (c_sq (c_bk (c_sr ?_)))
    refine o_mv (v := (pV o1 0)) rfl ?_
    refine o_nck rfl (o_fad rfl ?_)
    obtain ⟨d1, rfl⟩ := (hp1).val
    obtain ⟨d2, rfl⟩ := ((hs.curS (s := sB) 1 rfl)).val
    obtain ⟨d3, rfl⟩ := ((hs.curS (s := sB) 2 rfl)).val
    obtain ⟨d4, rfl⟩ := ((hs.curS (s := sI1) 3 rfl)).val
    obtain ⟨d5, rfl⟩ := ((hs.curS (s := sB2) 4 rfl)).val
    obtain ⟨d6, rfl⟩ := ((hs.curS (s := sI2) 5 rfl)).val
    refine o_ldB 0 hs rfl rfl rfl rfl ?_
    refine o_mv (v := (vi a1)) rfl ?_
    obtain ⟨x1, q1, e⟩ := oB e
    refine o_idx (v := (vS d2 a0.has_)) rfl rfl (hs.curS (s := sB) 1 rfl) rfl q1 fun p1 q2 => ?_
    refine o_ldsv rfl (hs.curS (s := sB) 1 rfl) pR q2 q1 fun w1 h1 h2 => ?_
    refine o_mv (v := (vi a2)) rfl ?_
    obtain ⟨x2, q3, e⟩ := oB e
    refine o_idx (v := w1) rfl rfl h1 rfl q3 fun p2 q4 => ?_
    refine o_ldb rfl h1 pR q4 q3 (o_not rfl ?_)
    refine o_mv (v := (.bool (!x2))) rfl ?_
    refine c_nil ?_
    refine c_gen (P := fun tm => tm 0 = (pV o1 0) ∧ tm 1 = (vi a1) ∧ tm 2 = (vi a2) ∧ tm 10 = (.bool (!x2)) ∧ True) ⟨rfl, rfl, rfl, rfl, trivial⟩ ?_
    intro _ i1
    obtain ⟨h3, h4, h5, h6, -⟩ := i1
    refine c_if h6 (fun q5 => ?_) (fun q5 => ?_)
    ·replace e := if_t q5 e
     refine c_sr ?_
     refine o_mv (v := (vi 0)) rfl ?_
     refine c_nil (c_rt ?_)
     obtain rfl := oJ e
     exact ⟨.inr rfl, _, (ar1 rfl), _, _, _, _, _, _, rfl, ((hs.push (ro_it (sl_ro hp1))).pick [1, 0, 2, 3, 4, 5, 6] rfl)⟩
    replace e := ib_f q5 e
    refine c_sr (o_mv h3 (o_nck rfl (o_fad rfl (o_ldB 0 hs rfl rfl rfl rfl ?_))))
    refine o_mv h4 ?_
    obtain ⟨x3, q6, e⟩ := oB e
    refine o_idx (v := (vS d3 a0.loop_)) rfl rfl (hs.curS (s := sB) 2 rfl) rfl q6 fun p3 q7 => ?_
    refine o_ldsv rfl (hs.curS (s := sB) 2 rfl) pR q7 q6 fun w2 h7 h8 => ?_
    refine o_mv h5 ?_
    obtain ⟨x4, q8, e⟩ := oB e
    refine o_idx (v := w2) rfl rfl h7 rfl q8 fun p4 q9 => ?_
    refine o_ldb rfl h7 pR q9 q8 ?_
    refine o_mv (v := (.bool x4)) rfl ?_
    refine c_nil ?_
    refine c_gen (P := fun tm => tm 0 = (pV o1 0) ∧ tm 1 = (vi a1) ∧ tm 2 = (vi a2) ∧ tm 22 = (.bool x4) ∧ True) ⟨h3, h4, h5, rfl, trivial⟩ ?_
    intro _ i2
    obtain ⟨h9, h10, h11, h12, -⟩ := i2
    refine c_if h12 (fun q10 => ?_) (fun q10 => ?_)
    ·replace e := if_t q10 e
     refine c_sr ?_
     refine o_mv (v := (vi (-1))) rfl ?_
     refine c_nil (c_rt ?_)
     obtain rfl := oJ e
     exact ⟨.inr rfl, _, (ar1 rfl), _, _, _, _, _, _, rfl, ((hs.push (ro_it (sl_ro hp1))).pick [1, 0, 2, 3, 4, 5, 6] rfl)⟩
    replace e := ib_f q10 e
    refine c_sr (o_mv h9 (o_nck rfl (o_fad rfl (o_ldB 0 hs rfl rfl rfl rfl ?_))))
    refine o_mv h10 ?_
    obtain ⟨x5, q11, e⟩ := oB e
    refine o_idx (v := (vS d4 a0.known_)) rfl rfl (hs.curS (s := sI1) 3 rfl) rfl q11 fun p5 q12 => ?_
    refine o_ldsv rfl (hs.curS (s := sI1) 3 rfl) pR q12 q11 fun w3 h13 h14 => ?_
    refine o_mv h11 ?_
    obtain ⟨x6, q13, e⟩ := oB e
    refine o_idx (v := w3) rfl rfl h13 rfl q13 fun p6 q14 => ?_
    refine o_ldi rfl h13 pR q14 q13 (o_geq rfl rfl ?_)
    refine o_mv (v := (.bool (decide (0 ≤ x6)))) rfl ?_
    refine c_nil ?_
    refine c_gen (P := fun tm => tm 0 = (pV o1 0) ∧ tm 1 = (vi a1) ∧ tm 2 = (vi a2) ∧ tm 33 = (.bool (decide (0 ≤ x6))) ∧ True) ⟨h9, h10, h11, rfl, trivial⟩ ?_
    intro _ i3
    obtain ⟨h15, h16, h17, h18, -⟩ := i3
    refine c_ifd h18 (fun q15 => ?_) (fun q15 => ?_)
    ·replace e := if_t q15 e
     refine c_sr (o_mv h15 (o_nck rfl (o_fad rfl (o_ldB 0 hs rfl rfl rfl rfl ?_))))
     refine o_mv h16 ?_
     obtain ⟨x7, q16, e⟩ := oB e
     refine o_idx (v := (vS d4 a0.known_)) rfl rfl (hs.curS (s := sI1) 3 rfl) rfl q16 fun p7 q17 => ?_
     refine o_ldsv rfl (hs.curS (s := sI1) 3 rfl) pR q17 q16 fun w4 h19 h20 => ?_
     refine o_mv h17 ?_
     obtain ⟨x8, q18, e⟩ := oB e
     refine o_idx (v := w4) rfl rfl h19 rfl q18 fun p8 q19 => ?_
     refine o_ldi rfl h19 pR q19 q18 ?_
     refine o_mv (v := (vi x8)) rfl ?_
     refine c_nil ?_
     refine c_gen (P := fun tm => tm 6 = (vi x8) ∧ True) ⟨rfl, trivial⟩ ?_
     intro _ i4
     obtain ⟨h21, -⟩ := i4
     refine c_rt ?_
     obtain rfl := oJ e
     exact ⟨.inr rfl, _, (ar1 h21), _, _, _, _, _, _, rfl, ((hs.push (ro_it (sl_ro hp1))).pick [1, 0, 2, 3, 4, 5, 6] rfl)⟩
    replace e := if_f q15 e
    refine c_sk (c_end (c_sr ?_))
    refine o_mv (v := (vi 0)) rfl ?_
    refine c_nil (c_sq (c_sr (o_mv h15 (o_nck rfl ?_))))
    refine o_fad rfl (o_fad rfl (o_ldB 0 hs rfl rfl rfl rfl (o_len rfl (hp1).len ?_)))
    refine o_mv (v := (vi 0)) rfl ?_
    refine c_nil ?_
    obtain ⟨y1, q22, e⟩ := oB e
    refine c_bk ?_
    refine l_forP (xs := a0.g.Rules) (fun (i5 : Nat) (s1 : (Int × Int × Int × (List Ty.A6) × Int × (List (List Bool)) × (List (List Bool)) × (List (List Int)) × (List (List (List Bool))) × (List (List (List Int))) × Int)) tm H => tm 61 = vi i5 ∧ ∃ (Z1 V1 : PH) (w5 : Value) (w6 : Value) (w7 : Value) (w8 : Value) (w9 : Value) (w10 : Value), Gw Z V Z1 V1 ∧ Sat Z1 V1 H [pts o1 (.rw 0 [vi s1.1, vi s1.2.1, vi s1.2.2.1, w10, vi s1.2.2.2.2.1, w5, w6, w7, w8, w9]), It.sl sB w5 s1.2.2.2.2.2.1, It.sl sB w6 s1.2.2.2.2.2.2.1, It.sl sI1 w7 s1.2.2.2.2.2.2.2.1, It.sl sB2 w8 s1.2.2.2.2.2.2.2.2.1, It.sl sI2 w9 s1.2.2.2.2.2.2.2.2.2.1] ∧ tm 0 = (pV o1 0) ∧ tm 1 = (vi a1) ∧ tm 2 = (vi a2) ∧ tm 7 = (vi s1.2.2.2.2.2.2.2.2.2.2) ∧ tm 59 = (vS d1 a0.g.Rules) ∧ tm 60 = (vN a0.g.Rules) ∧ RdS Sh.A6 Z1 w10 s1.2.2.2.1) (fun i5 x9 s1 s3 tm H2 q20 q21 j1 e1 k1 => ?_) (fun tm H1 jd => ?_) q22 ⟨rfl, _, _, _, _, _, _, _, _, Gw.refl _ _, hs, h15, h16, h17, rfl, rfl, rfl, hp1⟩
    ·obtain ⟨hti0, Z1, V1, w5, w6, w7, w8, w9, w10, g1, s2, h23, h24, h25, h26, h27, h28, h22⟩ := j1
     unfold P.B1.b0 at e1
     refine c_sr (o_lss hti0 h28 (c_nil (c_sq ?_)))
     refine c_ift rfl (Int.ofNat_lt.2 q21) ?_
     refine c_sk (c_sq (c_bk (c_sr (o_mv hti0 ?_))))
     refine o_idx (v := (vS d1 a0.g.Rules)) h27 hti0 (hp1.mono g1.z) rfl (Pu.ix_nat.trans q20) fun p9 q23 => ?_
     refine o_lda rfl (hp1.mono g1.z) s2.z rfl q23 (Pu.ix_nat.trans q20) fun c1 h29 => ?_
     obtain ⟨w11, rfl, h30⟩ := Sh.G2 h29
     refine o_new s2 fun b1 H3 s4 => ?_
     refine o_mv (v := (vJ i5)) rfl ?_
     obtain ⟨d7, rfl⟩ := (h30).val
     refine o_stB (us' := [vi x9.Left, (vS d7 x9.Right)]) 0 s4 rfl rfl rfl rfl rfl rfl rfl fun H4 s5 => ?_
     refine c_nil (c_sr (o_fad rfl (o_ldB 0 s5 rfl rfl rfl rfl (o_mv h24 ?_))))
     refine o_eql rfl rfl (c_nil ?_)
     refine c_gen (P := fun tm => tm 0 = (pV o1 0) ∧ tm 1 = (vi a1) ∧ tm 2 = (vi a2) ∧ tm 7 = (vi s1.2.2.2.2.2.2.2.2.2.2) ∧ tm 8 = (vJ i5) ∧ tm 59 = (vS d1 a0.g.Rules) ∧ tm 60 = (vN a0.g.Rules) ∧ tm 61 = (vJ i5) ∧ tm 69 = (.bool (decide (x9.Left = a1))) ∧ True) ⟨h23, h24, h25, h26, rfl, h27, h28, hti0, rfl, trivial⟩ ?_
     intro _ i6
     obtain ⟨h31, h32, h33, h34, h35, h36, h37, h38, h39, -⟩ := i6
     obtain ⟨y2, e2, e1⟩ := oB e1
     refine c_jn (I := fun tm H => ∃ (Z2 V2 : PH) (w12 : Value) (w13 : Value) (w14 : Value) (w15 : Value) (w16 : Value) (w17 : Value), Gw Z1 V1 Z2 V2 ∧ Sat Z2 V2 H [pts o1 (.rw 0 [vi y2.1, vi y2.2.1, vi y2.2.2.1, w17, vi y2.2.2.2.2.1, w12, w13, w14, w15, w16]), It.sl sB w12 y2.2.2.2.2.2.1, It.sl sB w13 y2.2.2.2.2.2.2.1, It.sl sI1 w14 y2.2.2.2.2.2.2.2.1, It.sl sB2 w15 y2.2.2.2.2.2.2.2.2.1, It.sl sI2 w16 y2.2.2.2.2.2.2.2.2.2.1] ∧ tm 0 = (pV o1 0) ∧ tm 1 = (vi a1) ∧ tm 2 = (vi a2) ∧ tm 7 = (vi y2.2.2.2.2.2.2.2.2.2.2) ∧ tm 59 = (vS d1 a0.g.Rules) ∧ tm 60 = (vN a0.g.Rules) ∧ tm 61 = (vJ i5) ∧ RdS Sh.A6 Z2 w17 y2.2.2.2.1) (fun k2 => ?_) ?_
     ·refine c_ifd h39 (fun q24 => ?_) (fun q24 => ?_)
      ·replace e2 := if_t q24 e2
       refine c_r (o_mv h34 (o_mv h31 (o_mv h35 (o_mv h33 ?_))))
       obtain ⟨x10, q25, e2⟩ := oB e2
       obtain ⟨d8, rfl⟩ := (h22).val
       obtain ⟨d9, rfl⟩ := ((s5.curS (s := sB) 2 rfl)).val
       obtain ⟨d10, rfl⟩ := ((s5.curS (s := sB) 3 rfl)).val
       obtain ⟨d11, rfl⟩ := ((s5.curS (s := sI1) 4 rfl)).val
       obtain ⟨d12, rfl⟩ := ((s5.curS (s := sB2) 5 rfl)).val
       obtain ⟨d13, rfl⟩ := ((s5.curS (s := sI2) 6 rfl)).val
       obtain ⟨Z3, V3, W1, g3, u1, c2, c3, -, c5, c4⟩ := Sat.call (l1 := [pts o1 (.rw 0 [vi s1.1, vi s1.2.1, vi s1.2.2.1, (vS d8 s1.2.2.2.1), vi s1.2.2.2.2.1, (vS d9 s1.2.2.2.2.2.1), (vS d10 s1.2.2.2.2.2.2.1), (vS d11 s1.2.2.2.2.2.2.2.1), (vS d12 s1.2.2.2.2.2.2.2.2.1), (vS d13 s1.2.2.2.2.2.2.2.2.2.1)]), Is sB d9 s1.2.2.2.2.2.1, Is sB d10 s1.2.2.2.2.2.2.1, Is sI1 d11 s1.2.2.2.2.2.2.2.1, Is sB2 d12 s1.2.2.2.2.2.2.2.2.1, Is sI2 d13 s1.2.2.2.2.2.2.2.2.2.1]) (l2 := [pts b1 (.rw 0 [vi x9.Left, (vS d7 x9.Right)])]) (s5.pick [1, 2, 3, 4, 5, 6, 0] rfl)
       refine o_call (mc rfl (mc rfl (mc rfl (mc rfl m0)))) (ih.2 (a0 := (Ty.C3.mk (Ty.B2.mk s1.1 s1.2.1 s1.2.2.1 s1.2.2.2.1) s1.2.2.2.2.1 s1.2.2.2.2.2.1 s1.2.2.2.2.2.2.1 s1.2.2.2.2.2.2.2.1 s1.2.2.2.2.2.2.2.2.1 s1.2.2.2.2.2.2.2.2.2.1)) c2 (h22.mono g3.z) q25) fun _ H6 i7 => ?_
       obtain ⟨w18, w19, w20, w21, w22, w23, rfl, s7⟩ := i7
       have s8 := c4 _ _ s7
       obtain ⟨Z4, V4, g4, s9, h48⟩ := (s8.pull 1 rfl).frzR
       refine o_add rfl rfl (o_min rfl rfl ?_)
       refine o_mv (v := (vi (Pu.imin 1000000000 (Pu.W (s1.2.2.2.2.2.2.2.2.2.2 + x10.2))))) rfl ?_
       refine c_nil ?_
       obtain rfl := oJ e2
       exact k2 _ _ ⟨_, _, _, _, _, _, _, _, (g3.trans g4), (s9.pick [0, 1, 2, 3, 4, 5] rfl), h31, h32, h33, rfl, h36, h37, h38, h48⟩
      replace e2 := if_f q24 e2
      refine c_sk ?_
      obtain rfl := oJ e2
      exact k2 _ _ ⟨_, _, _, _, _, _, _, _, Gw.refl _ _, (s5.pick [1, 2, 3, 4, 5, 6] rfl), h31, h32, h33, h34, h36, h37, h38, h22⟩
     intro _ H5 i8
     obtain ⟨Z2, V2, w12, w13, w14, w15, w16, w17, g2, s6, h41, h42, h43, h44, h45, h46, h47, h40⟩ := i8
     refine c_end (c_r (o_add h47 rfl ?_))
     refine o_mv (v := (vi (Pu.W ((i5 : Int) + 1)))) rfl ?_
     refine c_nil ?_
     obtain rfl := oJ e1
     exact k1 _ _ ⟨(iv rfl (w_suc q21 (hp1).bd)), _, _, _, _, _, _, _, _, (g1.trans g2), s6, h41, h42, h43, h44, h45, h46, h40⟩
    obtain ⟨hte0, Z5, V5, w24, w25, w26, w27, w28, w29, g5, s10, h50, h51, h52, h53, h54, h55, h49⟩ := jd
    refine c_sr (o_lss hte0 h55 (c_nil (c_sq ?_)))
    refine c_iff rfl (Int.lt_irrefl _) ?_
    refine c_ex ?_
    refine e_c ?_
    refine e_c ?_
    refine e_h ?_
    refine c_sr (o_mv h50 (o_nck rfl (o_fad rfl ?_)))
    obtain ⟨d14, rfl⟩ := (h49).val
    obtain ⟨d15, rfl⟩ := ((s10.curS (s := sB) 1 rfl)).val
    obtain ⟨d16, rfl⟩ := ((s10.curS (s := sB) 2 rfl)).val
    obtain ⟨d17, rfl⟩ := ((s10.curS (s := sI1) 3 rfl)).val
    obtain ⟨d18, rfl⟩ := ((s10.curS (s := sB2) 4 rfl)).val
    obtain ⟨d19, rfl⟩ := ((s10.curS (s := sI2) 5 rfl)).val
    refine o_ldB 0 s10 rfl rfl rfl rfl (o_mv h51 ?_)
    obtain ⟨x11, q26, e⟩ := oB e
    refine o_idx (v := (vS d17 y1.2.2.2.2.2.2.2.1)) rfl rfl (s10.curS (s := sI1) 3 rfl) rfl q26 fun p10 q27 => ?_
    refine o_ldsv rfl (s10.curS (s := sI1) 3 rfl) pR q27 q26 fun w30 h56 h57 => ?_
    refine o_mv h52 (o_mv h53 ?_)
    obtain ⟨x12, q28, e⟩ := oB e
    refine o_idx (v := w30) rfl rfl h56 rfl q28 fun p11 q29 => ?_
    refine o_st2 3 s10 rfl Sh.G3 rfl rfl rfl q27 q26 h57 q29 q28 rfl rfl fun H8 s11 => ?_
    refine c_nil ?_
    refine c_gen (P := fun tm => tm 7 = (vi y1.2.2.2.2.2.2.2.2.2.2) ∧ True) ⟨h53, trivial⟩ ?_
    intro _ i9
    obtain ⟨h58, -⟩ := i9
    refine c_sr (o_mv h58 ?_)
    refine o_mv (v := (vi y1.2.2.2.2.2.2.2.2.2.2)) rfl ?_
    refine c_nil (c_rt ?_)
    obtain rfl := oJ e
    exact ⟨.inr rfl, _, (ar1 rfl), _, _, _, _, _, _, rfl, (((s11.push (ro_it (sl_ro h49))).pick [1, 0, 2, 3, 4, 5, 6] rfl).weak g5 hs.zv)⟩
   ·intro Z V H v1 v2 v3 v4 v5 v6 o1 a0 a1 a2 a3 hs hp1 r e
    rw [P.B8] at e
    refine f_mk nd.own_census_table_way ?_
    refine c_sr ?_
    refine o_mv (v := (vi 0)) rfl ?_
    refine c_nil (c_sr ?_)
    refine o_mv (v := (pV o1 0)) rfl ?_
    refine o_nck rfl (o_fad rfl (o_fad rfl ?_))
    obtain ⟨d1, rfl⟩ := (hp1).val
    obtain ⟨d2, rfl⟩ := ((hs.curS (s := sB) 1 rfl)).val
    obtain ⟨d3, rfl⟩ := ((hs.curS (s := sB) 2 rfl)).val
    obtain ⟨d4, rfl⟩ := ((hs.curS (s := sI1) 3 rfl)).val
    obtain ⟨d5, rfl⟩ := ((hs.curS (s := sB2) 4 rfl)).val
    obtain ⟨d6, rfl⟩ := ((hs.curS (s := sI2) 5 rfl)).val
    refine o_ldB 0 hs rfl rfl rfl rfl ?_
    refine o_mv (v := (vi a1)) rfl ?_
    obtain ⟨x1, q1, e⟩ := oB e
    refine o_idx (v := (vS d1 a0.g.Rules)) rfl rfl hp1 rfl q1 fun p1 q2 => ?_
    refine o_fadE rfl q2 fun p2 q3 => ?_
    refine o_ldF rfl hp1 hs.z rfl q2 q3 q1 rfl fun c1 h1 => ?_
    obtain ⟨w1, rfl, h2⟩ := Sh.G2 h1
    refine ⟨_, rfl, ?_⟩
    refine o_mv (v := w1) rfl ?_
    refine c_nil ?_
    refine c_gen (P := fun tm => tm 0 = (pV o1 0) ∧ tm 1 = (vi a1) ∧ tm 2 = (vi a2) ∧ tm 3 = (vi a3) ∧ tm 9 = w1 ∧ True) ⟨rfl, rfl, rfl, rfl, rfl, trivial⟩ ?_
    intro _ i1
    obtain ⟨h3, h4, h5, h6, h7, -⟩ := i1
    refine c_sq (c_bk (c_sr (o_mv h3 (o_nck rfl ?_))))
    refine o_fad rfl (o_ldB 0 hs rfl rfl rfl rfl (o_mv h4 ?_))
    obtain ⟨x2, q4, e⟩ := oB e
    refine o_idx (v := (vS d5 a0.ends)) rfl rfl (hs.curS (s := sB2) 4 rfl) rfl q4 fun p3 q5 => ?_
    refine o_ldsv rfl (hs.curS (s := sB2) 4 rfl) pR q5 q4 fun w2 h8 h9 => ?_
    refine o_mv h5 ?_
    obtain ⟨x3, q6, e⟩ := oB e
    refine o_idx (v := w2) rfl rfl h8 rfl q6 fun p4 q7 => ?_
    refine o_ldsv rfl h8 pR q7 q6 fun w3 h10 h11 => ?_
    refine o_mv h6 ?_
    obtain ⟨x4, q8, e⟩ := oB e
    refine o_idx (v := w3) rfl rfl h10 rfl q8 fun p5 q9 => ?_
    refine o_ldb rfl h10 pR q9 q8 (o_not rfl ?_)
    refine o_mv (v := (.bool (!x4))) rfl ?_
    refine c_nil ?_
    refine c_gen (P := fun tm => tm 0 = (pV o1 0) ∧ tm 1 = (vi a1) ∧ tm 2 = (vi a2) ∧ tm 3 = (vi a3) ∧ tm 9 = w1 ∧ tm 22 = (.bool (!x4)) ∧ True) ⟨h3, h4, h5, h6, h7, rfl, trivial⟩ ?_
    intro _ i2
    obtain ⟨h12, h13, h14, h15, h16, h17, -⟩ := i2
    refine c_if h17 (fun q10 => ?_) (fun q10 => ?_)
    ·replace e := if_t q10 e
     refine c_sr ?_
     refine o_mv (v := (vi 0)) rfl ?_
     refine c_nil (c_rt ?_)
     obtain rfl := oJ e
     exact ⟨.inr rfl, _, (ar1 rfl), _, _, _, _, _, _, rfl, ((hs.push (ro_it (sl_ro hp1))).pick [1, 0, 2, 3, 4, 5, 6] rfl)⟩
    replace e := ib_f q10 e
    refine c_sr (o_mv h14 (o_mv h16 (o_len rfl (h2).len (o_eql rfl rfl ?_))))
    refine o_mv (v := (.bool (decide (a2 = (x1.Right.length : Int))))) rfl ?_
    refine c_nil ?_
    refine c_ifd rfl (fun q11 => ?_) (fun q11 => ?_)
    ·replace e := if_t q11 e
     refine c_sr ?_
     refine o_mv (v := (vi 1)) rfl ?_
     refine c_nil (c_rt ?_)
     obtain rfl := oJ e
     exact ⟨.inr rfl, _, (ar1 rfl), _, _, _, _, _, _, rfl, ((hs.push (ro_it (sl_ro hp1))).pick [1, 0, 2, 3, 4, 5, 6] rfl)⟩
    replace e := if_f q11 e
    refine c_sr (o_mv h12 (o_nck rfl (o_fad rfl (o_ldB 0 hs rfl rfl rfl rfl ?_))))
    refine o_mv h13 ?_
    obtain ⟨x5, q12, e⟩ := oB e
    refine o_idx (v := (vS d6 a0.ways)) rfl rfl (hs.curS (s := sI2) 5 rfl) rfl q12 fun p6 q13 => ?_
    refine o_ldsv rfl (hs.curS (s := sI2) 5 rfl) pR q13 q12 fun w4 h18 h19 => ?_
    refine o_mv h14 ?_
    obtain ⟨x6, q14, e⟩ := oB e
    refine o_idx (v := w4) rfl rfl h18 rfl q14 fun p7 q15 => ?_
    refine o_ldsv rfl h18 pR q15 q14 fun w5 h20 h21 => ?_
    refine o_mv h15 ?_
    obtain ⟨x7, q16, e⟩ := oB e
    refine o_idx (v := w5) rfl rfl h20 rfl q16 fun p8 q17 => ?_
    refine o_ldi rfl h20 pR q17 q16 (o_geq rfl rfl ?_)
    refine o_mv (v := (.bool (decide (0 ≤ x7)))) rfl ?_
    refine c_nil ?_
    refine c_gen (P := fun tm => tm 0 = (pV o1 0) ∧ tm 1 = (vi a1) ∧ tm 2 = (vi a2) ∧ tm 3 = (vi a3) ∧ tm 9 = w1 ∧ tm 42 = (.bool (decide (0 ≤ x7))) ∧ True) ⟨h12, h13, h14, h15, h16, rfl, trivial⟩ ?_
    intro _ i3
    obtain ⟨h22, h23, h24, h25, h26, h27, -⟩ := i3
    refine c_ifd h27 (fun q18 => ?_) (fun q18 => ?_)
    ·replace e := if_t q18 e
     refine c_sr (o_mv h22 (o_nck rfl (o_fad rfl (o_ldB 0 hs rfl rfl rfl rfl ?_))))
     refine o_mv h23 ?_
     obtain ⟨x8, q19, e⟩ := oB e
     refine o_idx (v := (vS d6 a0.ways)) rfl rfl (hs.curS (s := sI2) 5 rfl) rfl q19 fun p9 q20 => ?_
     refine o_ldsv rfl (hs.curS (s := sI2) 5 rfl) pR q20 q19 fun w6 h28 h29 => ?_
     refine o_mv h24 ?_
     obtain ⟨x9, q21, e⟩ := oB e
     refine o_idx (v := w6) rfl rfl h28 rfl q21 fun p10 q22 => ?_
     refine o_ldsv rfl h28 pR q22 q21 fun w7 h30 h31 => ?_
     refine o_mv h25 ?_
     obtain ⟨x10, q23, e⟩ := oB e
     refine o_idx (v := w7) rfl rfl h30 rfl q23 fun p11 q24 => ?_
     refine o_ldi rfl h30 pR q24 q23 ?_
     refine o_mv (v := (vi x10)) rfl ?_
     refine c_nil ?_
     refine c_gen (P := fun tm => tm 8 = (vi x10) ∧ True) ⟨rfl, trivial⟩ ?_
     intro _ i4
     obtain ⟨h32, -⟩ := i4
     refine c_rt ?_
     obtain rfl := oJ e
     exact ⟨.inr rfl, _, (ar1 h32), _, _, _, _, _, _, rfl, ((hs.push (ro_it (sl_ro hp1))).pick [1, 0, 2, 3, 4, 5, 6] rfl)⟩
    replace e := if_f q18 e
    refine c_sk (c_end (c_sr ?_))
    refine o_mv (v := (vi 0)) rfl ?_
    refine c_nil (c_sq (c_sr (o_mv h25 (o_add rfl rfl ?_))))
    refine o_mv (v := (vi 0)) rfl ?_
    refine c_nil ?_
    obtain ⟨x12, q27, e⟩ := oB e
    obtain ⟨rfl, q29⟩ := ranO_some q27
    obtain ⟨y1, q30, e⟩ := oB e
    refine c_bk ?_
    refine l_forP (xs := (Pu.ran (Pu.W (a3 + 1)))) (fun (i5 : Nat) (s1 : (Int × Int × Int × (List Ty.A6) × Int × (List (List Bool)) × (List (List Bool)) × (List (List Int)) × (List (List (List Bool))) × (List (List (List Int))) × Int)) tm H => tm 72 = vi i5 ∧ ∃ (Z1 V1 : PH) (w8 : Value) (w9 : Value) (w10 : Value) (w11 : Value) (w12 : Value) (w13 : Value), Gw Z V Z1 V1 ∧ Sat Z1 V1 H [pts o1 (.rw 0 [vi s1.1, vi s1.2.1, vi s1.2.2.1, w13, vi s1.2.2.2.2.1, w8, w9, w10, w11, w12]), It.sl sB w8 s1.2.2.2.2.2.1, It.sl sB w9 s1.2.2.2.2.2.2.1, It.sl sI1 w10 s1.2.2.2.2.2.2.2.1, It.sl sB2 w11 s1.2.2.2.2.2.2.2.2.1, It.sl sI2 w12 s1.2.2.2.2.2.2.2.2.2.1] ∧ tm 0 = (pV o1 0) ∧ tm 1 = (vi a1) ∧ tm 2 = (vi a2) ∧ tm 3 = (vi a3) ∧ tm 9 = w1 ∧ tm 10 = (vi s1.2.2.2.2.2.2.2.2.2.2) ∧ tm 71 = (vi (Pu.W (a3 + 1))) ∧ RdS Sh.A6 Z1 w13 s1.2.2.2.1) (fun i5 x11 s1 s3 tm H2 q25 q26 j1 e1 k1 => ?_) (fun tm H1 jd => ?_) q30 ⟨rfl, _, _, _, _, _, _, _, _, Gw.refl _ _, hs, h22, h23, h24, h25, h26, rfl, rfl, hp1⟩
    ·obtain ⟨hti0, Z1, V1, w8, w9, w10, w11, w12, w13, g1, s2, h34, h35, h36, h37, h38, h39, h40, h33⟩ := j1
     unfold P.B8.b0 at e1
     have hti0 := iv hti0 (ran_x q25).symm
     refine c_sr (o_lss hti0 h40 (c_nil (c_sq ?_)))
     refine c_ift rfl (ran_lt q25) ?_
     refine c_sk (c_sq (c_bk (c_sr (o_mv hti0 ?_))))
     refine o_mv (v := (vi x11)) rfl ?_
     refine c_nil (c_sq (c_sr (o_mv h34 (o_mv h38 ?_))))
     refine o_mv h36 ?_
     obtain ⟨x13, q31, e1⟩ := oB e1
     refine o_idx (v := w1) rfl rfl (h2.mono g1.z) rfl q31 fun p12 q32 => ?_
     refine o_lda rfl (h2.mono g1.z) s2.z rfl q32 q31 fun c2 h41 => ?_
     obtain rfl := h41
     refine o_mv (v := (vi x11)) rfl ?_
     obtain ⟨x14, q33, e1⟩ := oB e1
     obtain ⟨d7, rfl⟩ := (h33).val
     obtain ⟨d8, rfl⟩ := ((s2.curS (s := sB) 1 rfl)).val
     obtain ⟨d9, rfl⟩ := ((s2.curS (s := sB) 2 rfl)).val
     obtain ⟨d10, rfl⟩ := ((s2.curS (s := sI1) 3 rfl)).val
     obtain ⟨d11, rfl⟩ := ((s2.curS (s := sB2) 4 rfl)).val
     obtain ⟨d12, rfl⟩ := ((s2.curS (s := sI2) 5 rfl)).val
     obtain ⟨Z2, V2, W1, g2, u1, c3, c4, -, c6, c5⟩ := Sat.call (l1 := []) s2
     refine o_call (mc rfl (mc rfl (mc rfl m0))) (X.D0 nd.D0 (a0 := (Ty.C3.mk (Ty.B2.mk s1.1 s1.2.1 s1.2.2.1 s1.2.2.2.1) s1.2.2.2.2.1 s1.2.2.2.2.2.1 s1.2.2.2.2.2.2.1 s1.2.2.2.2.2.2.2.1 s1.2.2.2.2.2.2.2.2.1 s1.2.2.2.2.2.2.2.2.2.1)) c3 (h33.mono (g2.z.trans c3.zv)) (c4 1 _ sB _ _ rfl) (c4 2 _ sB _ _ rfl) (c4 3 _ sI1 _ _ rfl) (c4 4 _ sB2 _ _ rfl) (c4 5 _ sI2 _ _ rfl) (c6 0 _ _ rfl) q33) fun _ H3 i6 => ?_
     obtain ⟨rfl, s4⟩ := i6
     have s5 := c5 _ _ s4
     refine o_not rfl ?_
     refine o_mv (v := (.bool (!x14))) rfl ?_
     obtain ⟨y2, e2, e1⟩ := oB e1
     refine o_jn 18 (I := fun tm H => ∃ (Z3 V3 : PH), Gw Z2 V2 Z3 V3 ∧ Sat Z3 V3 H [pts o1 (.rw 0 [vi s1.1, vi s1.2.1, vi s1.2.2.1, (vS d7 s1.2.2.2.1), vi s1.2.2.2.2.1, (vS d8 s1.2.2.2.2.2.1), (vS d9 s1.2.2.2.2.2.2.1), (vS d10 s1.2.2.2.2.2.2.2.1), (vS d11 s1.2.2.2.2.2.2.2.2.1), (vS d12 s1.2.2.2.2.2.2.2.2.2.1)]), Is sB d8 s1.2.2.2.2.2.1, Is sB d9 s1.2.2.2.2.2.2.1, Is sI1 d10 s1.2.2.2.2.2.2.2.1, Is sB2 d11 s1.2.2.2.2.2.2.2.2.1, Is sI2 d12 s1.2.2.2.2.2.2.2.2.2.1] ∧ tm 0 = (pV o1 0) ∧ tm 1 = (vi a1) ∧ tm 2 = (vi a2) ∧ tm 3 = (vi a3) ∧ tm 9 = w1 ∧ tm 10 = (vi s1.2.2.2.2.2.2.2.2.2.2) ∧ tm 11 = (vi x11) ∧ tm 71 = (vi (Pu.W (a3 + 1))) ∧ tm 72 = (vi x11) ∧ tm 101 = (.bool y2)) (fun k2 => ?_) ?_
     ·rcases Bool.eq_false_or_eq_true (!x14) with q34 | q34
      ·replace e2 := if_t q34 e2
       refine o_gn rfl q34 (o_gn rfl q34 (o_gn rfl q34 (o_gn rfl q34 (o_gn rfl q34 ?_))))
       refine o_gn rfl q34 (o_gn rfl q34 (o_gn rfl q34 (o_gn rfl q34 (o_gn rfl q34 ?_))))
       refine o_gn rfl q34 (o_gn rfl q34 (o_gn rfl q34 (o_gn rfl q34 (o_gn rfl q34 ?_))))
       refine o_gn rfl q34 (o_gn rfl q34 ?_)
       refine o_pickt (a := (.bool true)) rfl q34 rfl ?_
       obtain rfl := oJ e2
       exact k2 _ _ ⟨_, _, Gw.refl _ _, s5, h34, h35, h36, h37, h38, h39, rfl, h40, hti0, rfl⟩
      replace e2 := ib_f q34 e2
      refine o_gy rfl q34 (o_mv h34 (o_gy rfl q34 (o_nck rfl (o_gy rfl q34 ?_))))
      refine o_fad rfl (o_gy rfl q34 (o_ldB 0 s5 rfl rfl rfl rfl (o_gy rfl q34 (o_mv h35 ?_))))
      refine o_gy rfl q34 ?_
      obtain ⟨x15, q35, e2⟩ := oB e2
      refine o_idx (v := (vS d11 s1.2.2.2.2.2.2.2.2.1)) rfl rfl (s5.curS (s := sB2) 4 rfl) rfl q35 fun p13 q36 => ?_
      refine o_gy rfl q34 ?_
      refine o_ldsv rfl (s5.curS (s := sB2) 4 rfl) pR q36 q35 fun w14 h52 h53 => ?_
      refine o_gy rfl q34 (o_mv h36 (o_gy rfl q34 (o_add rfl rfl (o_gy rfl q34 ?_))))
      obtain ⟨x16, q37, e2⟩ := oB e2
      refine o_idx (v := w14) rfl rfl h52 rfl q37 fun p14 q38 => ?_
      refine o_gy rfl q34 ?_
      refine o_ldsv rfl h52 pR q38 q37 fun w15 h54 h55 => ?_
      refine o_gy rfl q34 (o_mv h37 (o_gy rfl q34 ?_))
      refine o_mv (v := (vi x11)) rfl ?_
      refine o_gy rfl q34 (o_sub rfl rfl (o_gy rfl q34 ?_))
      obtain ⟨x17, q39, e2⟩ := oB e2
      refine o_idx (v := w15) rfl rfl h54 rfl q39 fun p15 q40 => ?_
      refine o_gy rfl q34 (o_ldb rfl h54 pR q40 q39 (o_gy rfl q34 (o_not rfl ?_)))
      refine o_pickf (b := (.bool (!x17))) rfl q34 rfl ?_
      obtain rfl := oJ e2
      exact k2 _ _ ⟨_, _, Gw.refl _ _, s5, h34, h35, h36, h37, h38, h39, rfl, h40, hti0, rfl⟩
     intro _ H4 i7
     obtain ⟨Z3, V3, g3, s6, h42, h43, h44, h45, h46, h47, h48, h49, h50, h51⟩ := i7
     refine c_nil ?_
     refine c_if h51 (fun q41 => ?_) (fun q41 => ?_)
     ·replace e1 := if_t q41 e1
      refine c_ex ?_
      refine e_c ?_
      refine e_h ?_
      refine c_r (o_add h50 rfl ?_)
      refine o_mv (v := (vi (Pu.W (x11 + 1)))) rfl ?_
      refine c_nil ?_
      obtain rfl := oJ e1
      exact k1 _ _ ⟨(iv rfl (w_sucR q25 q29)), _, _, _, _, _, _, _, _, (g1.trans (g2.trans g3)), s6, h42, h43, h44, h45, h46, h47, h49, (h33.mono (g2.trans g3).z)⟩
     replace e1 := ib_f q41 e1
     refine c_sk (c_sr ?_)
     refine o_mv (v := (vi 1)) rfl ?_
     refine c_nil (c_sq (c_sr (o_mv h46 (o_mv h44 ?_))))
     obtain ⟨x18, q42, e1⟩ := oB e1
     refine o_idx (v := w1) rfl rfl (h2.mono (g1.trans (g2.trans g3)).z) rfl q42 fun p16 q43 => ?_
     refine o_fadE rfl q43 fun p17 q44 => ?_
     refine o_ldF rfl (h2.mono (g1.trans (g2.trans g3)).z) s6.z rfl q43 q44 q42 rfl fun c7 h56 => ?_
     obtain rfl := h56
     refine ⟨_, rfl, ?_⟩
     refine o_not rfl (c_nil ?_)
     obtain ⟨y3, e3, e1⟩ := oB e1
     refine c_jn (I := fun tm H => ∃ (Z4 V4 : PH) (w16 : Value) (w17 : Value) (w18 : Value) (w19 : Value) (w20 : Value) (w21 : Value), Gw Z3 V3 Z4 V4 ∧ Sat Z4 V4 H [pts o1 (.rw 0 [vi y3.1, vi y3.2.1, vi y3.2.2.1, w21, vi y3.2.2.2.2.1, w16, w17, w18, w19, w20]), It.sl sB w16 y3.2.2.2.2.2.1, It.sl sB w17 y3.2.2.2.2.2.2.1, It.sl sI1 w18 y3.2.2.2.2.2.2.2.1, It.sl sB2 w19 y3.2.2.2.2.2.2.2.2.1, It.sl sI2 w20 y3.2.2.2.2.2.2.2.2.2.1] ∧ tm 0 = (pV o1 0) ∧ tm 1 = (vi a1) ∧ tm 2 = (vi a2) ∧ tm 3 = (vi a3) ∧ tm 9 = w1 ∧ tm 10 = (vi s1.2.2.2.2.2.2.2.2.2.2) ∧ tm 11 = (vi x11) ∧ tm 12 = (vi y3.2.2.2.2.2.2.2.2.2.2) ∧ tm 71 = (vi (Pu.W (a3 + 1))) ∧ tm 72 = (vi x11) ∧ RdS Sh.A6 Z4 w21 y3.2.2.2.1) (fun k3 => ?_) ?_
     ·refine c_if rfl (fun q45 => ?_) (fun q45 => ?_)
      ·replace e3 := if_t q45 e3
       refine c_r (o_mv h42 (o_mv h46 (o_mv h44 ?_)))
       obtain ⟨x19, q46, e3⟩ := oB e3
       refine o_idx (v := w1) rfl rfl (h2.mono (g1.trans (g2.trans g3)).z) rfl q46 fun p18 q47 => ?_
       refine o_fadE rfl q47 fun p19 q48 => ?_
       refine o_ldF rfl (h2.mono (g1.trans (g2.trans g3)).z) s6.z rfl q47 q48 q46 rfl fun c8 h68 => ?_
       obtain rfl := h68
       refine ⟨_, rfl, ?_⟩
       refine o_mv h48 ?_
       obtain ⟨x20, q49, e3⟩ := oB e3
       obtain ⟨Z5, V5, W2, g5, u2, c9, c10, -, c12, c11⟩ := Sat.call (l1 := [pts o1 (.rw 0 [vi s1.1, vi s1.2.1, vi s1.2.2.1, (vS d7 s1.2.2.2.1), vi s1.2.2.2.2.1, (vS d8 s1.2.2.2.2.2.1), (vS d9 s1.2.2.2.2.2.2.1), (vS d10 s1.2.2.2.2.2.2.2.1), (vS d11 s1.2.2.2.2.2.2.2.2.1), (vS d12 s1.2.2.2.2.2.2.2.2.2.1)]), Is sB d8 s1.2.2.2.2.2.1, Is sB d9 s1.2.2.2.2.2.2.1, Is sI1 d10 s1.2.2.2.2.2.2.2.1, Is sB2 d11 s1.2.2.2.2.2.2.2.2.1, Is sI2 d12 s1.2.2.2.2.2.2.2.2.2.1]) (l2 := []) s6
       refine o_call (mc rfl (mc rfl (mc rfl m0))) (ih.1 (a0 := (Ty.C3.mk (Ty.B2.mk s1.1 s1.2.1 s1.2.2.1 s1.2.2.2.1) s1.2.2.2.2.1 s1.2.2.2.2.2.1 s1.2.2.2.2.2.2.1 s1.2.2.2.2.2.2.2.1 s1.2.2.2.2.2.2.2.2.1 s1.2.2.2.2.2.2.2.2.2.1)) c9 (h33.mono ((g2.trans g3).trans g5).z) q49) fun _ H6 i8 => ?_
       obtain ⟨w22, w23, w24, w25, w26, w27, rfl, s8⟩ := i8
       have s9 := c11 _ _ s8
       obtain ⟨Z6, V6, g6, s10, h69⟩ := (s9.pull 1 rfl).frzR
       refine o_mv (v := (vi x20.2)) rfl ?_
       refine c_nil ?_
       obtain rfl := oJ e3
       exact k3 _ _ ⟨_, _, _, _, _, _, _, _, (g5.trans g6), s10, h42, h43, h44, h45, h46, h47, h48, rfl, h49, h50, h69⟩
      replace e3 := ib_f q45 e3
      refine c_sk ?_
      obtain rfl := oJ e3
      exact k3 _ _ ⟨_, _, _, _, _, _, _, _, Gw.refl _ _, s6, h42, h43, h44, h45, h46, h47, h48, rfl, h49, h50, (h33.mono (g2.trans g3).z)⟩
     intro _ H5 i9
     obtain ⟨Z4, V4, w16, w17, w18, w19, w20, w21, g4, s7, h58, h59, h60, h61, h62, h63, h64, h65, h66, h67, h57⟩ := i9
     refine c_r (o_mv h63 (o_mv h65 (o_mv h58 (o_mv h59 ?_))))
     refine o_mv h60 (o_add rfl rfl (o_mv h61 (o_mv h64 (o_sub rfl rfl ?_))))
     obtain ⟨x21, q50, e1⟩ := oB e1
     obtain ⟨d13, rfl⟩ := (h57).val
     obtain ⟨d14, rfl⟩ := ((s7.curS (s := sB) 1 rfl)).val
     obtain ⟨d15, rfl⟩ := ((s7.curS (s := sB) 2 rfl)).val
     obtain ⟨d16, rfl⟩ := ((s7.curS (s := sI1) 3 rfl)).val
     obtain ⟨d17, rfl⟩ := ((s7.curS (s := sB2) 4 rfl)).val
     obtain ⟨d18, rfl⟩ := ((s7.curS (s := sI2) 5 rfl)).val
     obtain ⟨Z7, V7, W3, g7, u3, c13, c14, -, c16, c15⟩ := Sat.call (l1 := [pts o1 (.rw 0 [vi y3.1, vi y3.2.1, vi y3.2.2.1, (vS d13 y3.2.2.2.1), vi y3.2.2.2.2.1, (vS d14 y3.2.2.2.2.2.1), (vS d15 y3.2.2.2.2.2.2.1), (vS d16 y3.2.2.2.2.2.2.2.1), (vS d17 y3.2.2.2.2.2.2.2.2.1), (vS d18 y3.2.2.2.2.2.2.2.2.2.1)]), Is sB d14 y3.2.2.2.2.2.1, Is sB d15 y3.2.2.2.2.2.2.1, Is sI1 d16 y3.2.2.2.2.2.2.2.1, Is sB2 d17 y3.2.2.2.2.2.2.2.2.1, Is sI2 d18 y3.2.2.2.2.2.2.2.2.2.1]) (l2 := []) s7
     refine o_call (mc rfl (mc rfl (mc rfl (mc rfl m0)))) (ih.2 (a0 := (Ty.C3.mk (Ty.B2.mk y3.1 y3.2.1 y3.2.2.1 y3.2.2.2.1) y3.2.2.2.2.1 y3.2.2.2.2.2.1 y3.2.2.2.2.2.2.1 y3.2.2.2.2.2.2.2.1 y3.2.2.2.2.2.2.2.2.1 y3.2.2.2.2.2.2.2.2.2.1)) c13 (h57.mono g7.z) q50) fun _ H7 i10 => ?_
     obtain ⟨w28, w29, w30, w31, w32, w33, rfl, s11⟩ := i10
     have s12 := c15 _ _ s11
     obtain ⟨Z8, V8, g8, s13, h70⟩ := (s12.pull 1 rfl).frzR
     refine o_mul rfl rfl (o_min rfl rfl (o_add rfl rfl (o_min rfl rfl ?_)))
     refine o_mv (v := (vi (Pu.imin 1000000000 (Pu.W (s1.2.2.2.2.2.2.2.2.2.2 + (Pu.imin 1000000000 (Pu.W (y3.2.2.2.2.2.2.2.2.2.2 * x21.2)))))))) rfl ?_
     refine c_nil (c_end (c_r (o_add h67 rfl ?_)))
     refine o_mv (v := (vi (Pu.W (x11 + 1)))) rfl ?_
     refine c_nil ?_
     obtain rfl := oJ e1
     exact k1 _ _ ⟨(iv rfl (w_sucR q25 q29)), _, _, _, _, _, _, _, _, (g1.trans (g2.trans (g3.trans (g4.trans (g7.trans g8))))), s13, h58, h59, h60, h61, h62, rfl, h66, h70⟩
    obtain ⟨hte0, Z9, V9, w34, w35, w36, w37, w38, w39, g9, s14, h72, h73, h74, h75, h76, h77, h78, h71⟩ := jd
    refine c_sr (o_lss hte0 h78 (c_nil (c_sq ?_)))
    refine c_iff rfl (ran_done _) ?_
    refine c_ex ?_
    refine e_c ?_
    refine e_c ?_
    refine e_h ?_
    refine c_sr (o_mv h72 (o_nck rfl (o_fad rfl ?_)))
    obtain ⟨d19, rfl⟩ := (h71).val
    obtain ⟨d20, rfl⟩ := ((s14.curS (s := sB) 1 rfl)).val
    obtain ⟨d21, rfl⟩ := ((s14.curS (s := sB) 2 rfl)).val
    obtain ⟨d22, rfl⟩ := ((s14.curS (s := sI1) 3 rfl)).val
    obtain ⟨d23, rfl⟩ := ((s14.curS (s := sB2) 4 rfl)).val
    obtain ⟨d24, rfl⟩ := ((s14.curS (s := sI2) 5 rfl)).val
    refine o_ldB 0 s14 rfl rfl rfl rfl (o_mv h73 ?_)
    obtain ⟨x22, q51, e⟩ := oB e
    refine o_idx (v := (vS d24 y1.2.2.2.2.2.2.2.2.2.1)) rfl rfl (s14.curS (s := sI2) 5 rfl) rfl q51 fun p20 q52 => ?_
    refine o_ldsv rfl (s14.curS (s := sI2) 5 rfl) pR q52 q51 fun w40 h79 h80 => ?_
    refine o_mv h74 ?_
    obtain ⟨x23, q53, e⟩ := oB e
    refine o_idx (v := w40) rfl rfl h79 rfl q53 fun p21 q54 => ?_
    refine o_ldsv rfl h79 pR q54 q53 fun w41 h81 h82 => ?_
    refine o_mv h75 (o_mv h77 ?_)
    obtain ⟨x24, q55, e⟩ := oB e
    refine o_idx (v := w41) rfl rfl h81 rfl q55 fun p22 q56 => ?_
    refine o_st3 5 s14 rfl Sh.G3 rfl rfl rfl q52 q51 h80 q54 q53 h82 q56 q55 rfl rfl fun H9 s15 => ?_
    refine c_nil ?_
    refine c_gen (P := fun tm => tm 10 = (vi y1.2.2.2.2.2.2.2.2.2.2) ∧ True) ⟨h77, trivial⟩ ?_
    intro _ i11
    obtain ⟨h83, -⟩ := i11
    refine c_sr (o_mv h83 ?_)
    refine o_mv (v := (vi y1.2.2.2.2.2.2.2.2.2.2)) rfl ?_
    refine c_nil (c_rt ?_)
    obtain rfl := oJ e
    exact ⟨.inr rfl, _, (ar1 rfl), _, _, _, _, _, _, rfl, (((s15.push (ro_it (sl_ro h71))).pick [1, 0, 2, 3, 4, 5, 6] rfl).weak g9 hs.zv)⟩
theorem X.B1 {T : FuncId → Option AFunc} (nd : Nd.B1 T) {φ : Nat} {Z V : PH} {H : Hp} {v1 : Value} {v2 : Value} {v3 : Value} {v4 : Value} {v5 : Value} {v6 : Value} {o1 : Nat} {a0 : Ty.C3} {a1 : Int} {a2 : Int} (hs : Sat Z V H [pts o1 (.rw 0 [vi a0.g.Terms, vi a0.g.Nons, vi a0.g.Start, v1, vi a0.n, v2, v3, v4, v5, v6]), It.sl sB v2 a0.has_, It.sl sB v3 a0.loop_, It.sl sI1 v4 a0.known_, It.sl sB2 v5 a0.ends, It.sl sI2 v6 a0.ways]) (hp1 : RdS Sh.A6 Z v1 a0.g.Rules) {r : (Ty.C3 × Int)} (e : P.B1 φ a0 a1 a2 = some r) :
 G T I.B1 [(pV o1 0), vi a1, vi a2] H (fun rv H' => ∃ (u1 : Value) (u2 : Value) (u3 : Value) (u4 : Value) (u5 : Value) (u6 : Value), rv = (vi r.2) ∧ Sat Z V H' [pts o1 (.rw 0 [vi r.1.g.Terms, vi r.1.g.Nons, vi r.1.g.Start, u1, vi r.1.n, u2, u3, u4, u5, u6]), Sh.it (Sh.ro (Sh.sl Sh.A6)) [u1] r.1.g.Rules, It.sl sB u2 r.1.has_, It.sl sB u3 r.1.loop_, It.sl sI1 u4 r.1.known_, It.sl sB2 u5 r.1.ends, It.sl sI2 u6 r.1.ways]) := (X.G5 nd φ).1 hs hp1 e
theorem X.B8 {T : FuncId → Option AFunc} (nd : Nd.B8 T) {φ : Nat} {Z V : PH} {H : Hp} {v1 : Value} {v2 : Value} {v3 : Value} {v4 : Value} {v5 : Value} {v6 : Value} {o1 : Nat} {a0 : Ty.C3} {a1 : Int} {a2 : Int} {a3 : Int} (hs : Sat Z V H [pts o1 (.rw 0 [vi a0.g.Terms, vi a0.g.Nons, vi a0.g.Start, v1, vi a0.n, v2, v3, v4, v5, v6]), It.sl sB v2 a0.has_, It.sl sB v3 a0.loop_, It.sl sI1 v4 a0.known_, It.sl sB2 v5 a0.ends, It.sl sI2 v6 a0.ways]) (hp1 : RdS Sh.A6 Z v1 a0.g.Rules) {r : (Ty.C3 × Int)} (e : P.B8 φ a0 a1 a2 a3 = some r) :
 G T I.B8 [(pV o1 0), vi a1, vi a2, vi a3] H (fun rv H' => ∃ (u1 : Value) (u2 : Value) (u3 : Value) (u4 : Value) (u5 : Value) (u6 : Value), rv = (vi r.2) ∧ Sat Z V H' [pts o1 (.rw 0 [vi r.1.g.Terms, vi r.1.g.Nons, vi r.1.g.Start, u1, vi r.1.n, u2, u3, u4, u5, u6]), Sh.it (Sh.ro (Sh.sl Sh.A6)) [u1] r.1.g.Rules, It.sl sB u2 r.1.has_, It.sl sB u3 r.1.loop_, It.sl sI1 u4 r.1.known_, It.sl sB2 u5 r.1.ends, It.sl sI2 u6 r.1.ways]) := (X.G5 nd φ).2 hs hp1 e
end Go.Proofs.Ytmeigkelacoibaa
