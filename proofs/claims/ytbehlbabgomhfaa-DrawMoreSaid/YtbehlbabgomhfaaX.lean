/- The abstract code comes to the plain functions: printed by wip/tools/lift.py. -/
import Derived.Test.YtbehlbabgomhfaaP
import Derived.Test.YtbehlbabgomhfaaGdraw
import Derived.Test.YtbehlbabgomhfaaGparlkeep5
import Derived.Test.YtbehlbabgomhfaaGparlmake
import Derived.Test.YtbehlbabgomhfaaGslices
namespace Go.Proofs.Ytbehlbabgomhfaa
open Go Go.Ab
/-! parlmake_Below -/
structure Nd.parlmake_Below (T : FuncId → Option AFunc) : Prop where
  own : Has T I.parlmake_Below F.parlmake_Below
set_option maxHeartbeats 1000000 in
theorem X.parlmake_Below {T : FuncId → Option AFunc} (nd : Nd.parlmake_Below T) {Z V : PH} {H : Hp} {a0 : Int} {a1 : Int} (hs : Sat Z V H []) {r : Int} (e : P.parlmake_Below a0 a1 = some r) :
    G T I.parlmake_Below [vi a0, vi a1] H (fun rv H' => rv = (vi r) ∧ Sat Z V H' []) := by
 unfold P.parlmake_Below at e
 refine f_mk nd.own ?_
 refine c_sr ?_
 refine o_mv (v := (vi 0)) rfl ?_
 refine c_nil (c_sr ?_)
 refine o_mv (v := (vi a0)) rfl ?_
 refine o_mv (v := (vi a1)) rfl ?_
 obtain ⟨x1, q1, e⟩ := oB e
 refine o_rem rfl rfl q1 ?_
 refine o_mv (v := (vi x1)) rfl ?_
 refine c_nil (c_sq (c_sr ?_))
 refine o_mv (v := (vi x1)) rfl ?_
 refine o_lss rfl rfl (c_nil ?_)
 obtain ⟨y1, e1, e⟩ := oB e
 refine c_jn (I := fun tm H => ∃ (Z1 V1 : PH), Gw Z V Z1 V1 ∧ Sat Z1 V1 H [] ∧ tm 0 = (vi y1)) (fun k1 => ?_) ?_
 ·refine c_ifd rfl (fun q2 => ?_) (fun q2 => ?_)
  ·replace e1 := if_t q2 e1
   refine c_r ?_
   refine o_mv (v := (vi x1)) rfl ?_
   refine o_mv (v := (vi a1)) rfl ?_
   refine o_add rfl rfl ?_
   refine o_mv (v := (vi (Pu.W (x1 + a1)))) rfl ?_
   refine c_nil ?_
   obtain rfl := oJ e1
   exact k1 _ _ ⟨_, _, Gw.refl _ _, hs, rfl⟩
  replace e1 := if_f q2 e1
  refine c_sk ?_
  obtain rfl := oJ e1
  exact k1 _ _ ⟨_, _, Gw.refl _ _, hs, rfl⟩
 intro _ H1 i1
 obtain ⟨Z1, V1, g1, s1, h1⟩ := i1
 refine c_sr (o_mv h1 ?_)
 refine o_mv (v := (vi y1)) rfl ?_
 refine c_nil (c_rt ?_)
 obtain rfl := oJ e
 exact ⟨.inr rfl, _, (ar1 rfl), rfl, (s1.weak g1 hs.zv)⟩
/-! parlkeep5_below -/
structure Nd.parlkeep5_below (T : FuncId → Option AFunc) : Prop where
  own : Has T I.parlkeep5_below F.parlkeep5_below
  parlmake_Below : Nd.parlmake_Below T
set_option maxHeartbeats 1000000 in
theorem X.parlkeep5_below {T : FuncId → Option AFunc} (nd : Nd.parlkeep5_below T) {Z V : PH} {H : Hp} {a0 : Int} {a1 : Int} (hs : Sat Z V H []) {r : Int} (e : P.parlkeep5_below a0 a1 = some r) :
    G T I.parlkeep5_below [vi a0, vi a1] H (fun rv H' => rv = (vi r) ∧ Sat Z V H' []) := by
 unfold P.parlkeep5_below at e
 refine f_mk nd.own ?_
 refine c_sr ?_
 refine o_mv (v := (vi 0)) rfl ?_
 refine c_nil (c_sr ?_)
 refine o_mv (v := (vi a0)) rfl ?_
 refine o_mv (v := (vi a1)) rfl ?_
 obtain ⟨x1, q1, e⟩ := oB e
 obtain ⟨Z1, V1, W1, g1, u1, c1, c2, -, c4, c3⟩ := Sat.call (l1 := []) hs
 refine o_call (mc rfl (mc rfl m0)) (X.parlmake_Below nd.parlmake_Below c1 q1) fun _ H1 i1 => ?_
 obtain ⟨rfl, s1⟩ := i1
 have s2 := c3 _ _ s1
 refine o_mv (v := (vi x1)) rfl ?_
 refine c_nil (c_rt ?_)
 obtain rfl := oJ e
 exact ⟨.inr rfl, _, (ar1 rfl), rfl, (s2.weak g1 hs.zv)⟩
/-! draw_Number -/
structure Nd.draw_Number (T : FuncId → Option AFunc) : Prop where
  own : Has T I.draw_Number F.draw_Number
set_option maxHeartbeats 1000000 in
theorem X.draw_Number {T : FuncId → Option AFunc} (nd : Nd.draw_Number T) {φ : Nat} {Z V : PH} {H : Hp} {v1 : Value} {a0 : Int} {a1 : (List Bool)} (hs : Sat Z V H []) (hp1 : RdS Sh.bool V v1 a1) {r : (Int × Int × Int)} (e : P.draw_Number φ a0 a1 = some r) :
    G T I.draw_Number [vi a0, v1] H (fun rv H' => rv = (.tuple #[vi r.1, vi r.2.1, vi r.2.2]) ∧ Sat Z V H' []) := by
 unfold P.draw_Number at e
 refine f_mk nd.own ?_
 refine c_sr ?_
 refine o_mv (v := (vi 0)) rfl ?_
 refine o_mv (v := (vi 0)) rfl ?_
 refine o_mv (v := (vi 0)) rfl ?_
 refine c_nil (c_sq (c_sr ?_))
 refine o_mv (v := (vi a0)) rfl ?_
 refine o_lss rfl rfl ?_
 refine o_mv (v := (.bool (decide (a0 < 1)))) rfl ?_
 refine o_jn 3 (I := fun tm H => tm 17 = .bool ((decide (a0 < 1)) || (decide (1000000000 < a0))) ∧ (∃ (Z1 V1 : PH), Gw Z V Z1 V1 ∧ Sat Z1 V1 H [] ∧ tm 0 = (vi a0) ∧ tm 1 = v1)) (fun k1 => ?_) ?_
 ·rcases Bool.eq_false_or_eq_true (decide (a0 < 1)) with q1 | q1
  ·refine o_gn rfl q1 (o_gn rfl q1 ?_)
   refine o_pickt (a := (.bool true)) rfl q1 rfl ?_
   exact k1 _ _ ⟨gf rfl (by first | (rw [q1]; first | done | rfl) | simp [q1]), _, _, Gw.refl _ _, hs, rfl, rfl⟩
  refine o_gy rfl q1 ?_
  refine o_mv (v := (vi a0)) rfl ?_
  refine o_gy rfl q1 (o_gtr rfl rfl ?_)
  refine o_pickf (b := (.bool (decide (1000000000 < a0)))) rfl q1 rfl ?_
  exact k1 _ _ ⟨gf rfl (by first | (rw [q1]; first | done | rfl) | simp [q1]), _, _, Gw.refl _ _, hs, rfl, rfl⟩
 intro _ H1 i1
 obtain ⟨h3, Z1, V1, g1, s1, h1, h2⟩ := i1
 refine c_nil ?_
 refine c_if h3 (fun q2 => ?_) (fun q2 => ?_)
 ·replace e := if_t q2 e
  refine c_sr ?_
  refine o_mv (v := (vi 0)) rfl ?_
  refine o_mv (v := (vi 0)) rfl ?_
  refine o_mv (v := (vi 1)) rfl ?_
  refine c_nil (c_rt ?_)
  obtain rfl := oJ e
  exact ⟨.inr rfl, _, (ar3 rfl rfl rfl), rfl, (s1.weak g1 hs.zv)⟩
 replace e := ib_f q2 e
 refine c_sk (c_sr ?_)
 refine o_mv (v := (vi 0)) rfl ?_
 refine c_nil (c_sq ?_)
 obtain ⟨y1, q5, e⟩ := oB e
 refine c_jn (I := fun tm H => ∃ (s4 : Int), y1 = .out s4 ∧ (∃ (Z3 V3 : PH), Gw Z1 V1 Z3 V3 ∧ Sat Z3 V3 H [] ∧ tm 0 = (vi a0) ∧ tm 1 = v1 ∧ tm 7 = (vi s4))) (fun k5 => ?_) ?_
 ·refine c_bk ?_
  refine l_whl (fun (s2 : Int) tm H => ∃ (Z2 V2 : PH), Gw Z1 V1 Z2 V2 ∧ Sat Z2 V2 H [] ∧ tm 0 = (vi a0) ∧ tm 1 = v1 ∧ tm 7 = (vi s2)) (fun s2 y2 tm H3 j1 e1 k2 k3 k4 => ?_) q5 ⟨_, _, Gw.refl _ _, s1, h1, h2, rfl⟩
  obtain ⟨Z2, V2, g2, s3, h4, h5, h6⟩ := j1
  unfold P.draw_Number.b0 at e1
  refine c_sq (c_sr (o_mv h6 ?_))
  obtain ⟨x2, q6, e1⟩ := oB e1
  refine o_shl rfl rfl q6 (o_mv h4 (o_lss rfl rfl (c_nil ?_)))
  refine c_ifd rfl (fun q7 => ?_) (fun q7 => ?_)
  ·replace e1 := if_t q7 e1
   refine c_sk (c_bk (c_r (o_mv h6 (o_add rfl rfl ?_))))
   refine o_mv (v := (vi (Pu.W (s2 + 1)))) rfl ?_
   refine c_nil (c_end ?_)
   exact k2 _ _ _ (sJ e1) ⟨_, _, g2, s3, h4, h5, rfl⟩
  replace e1 := if_f q7 e1
  refine c_ex ?_
  refine e_c ?_
  refine e_c ?_
  refine e_h ?_
  exact k5 _ _ ⟨_, k3 _ (sJ e1), _, _, g2, s3, h4, h5, h6⟩
 intro _ H4 i3
 obtain ⟨s4, f1, Z3, V3, g3, s5, h7, h8, h9⟩ := i3
 replace e := fin_o f1 e
 refine c_sq (c_sr ?_)
 refine o_mv (v := (vi 0)) rfl ?_
 refine c_nil ?_
 obtain ⟨y3, q10, e⟩ := oB e
 refine c_jn (I := fun tm H => ∃ (s8 : Int), y3 = .out s8 ∧ (∃ (Z5 V5 : PH), Gw Z3 V3 Z5 V5 ∧ Sat Z5 V5 H [] ∧ tm 0 = (vi a0) ∧ tm 1 = v1 ∧ tm 7 = (vi s4) ∧ tm 8 = (vi s8))) (fun k9 => ?_) ?_
 ·refine c_bk ?_
  refine l_whl (fun (s6 : Int) tm H => ∃ (Z4 V4 : PH), Gw Z3 V3 Z4 V4 ∧ Sat Z4 V4 H [] ∧ tm 0 = (vi a0) ∧ tm 1 = v1 ∧ tm 7 = (vi s4) ∧ tm 8 = (vi s6)) (fun s6 y4 tm H6 j2 e2 k6 k7 k8 => ?_) q10 ⟨_, _, Gw.refl _ _, s5, h7, h8, h9, rfl⟩
  obtain ⟨Z4, V4, g4, s7, h10, h11, h12, h13⟩ := j2
  unfold P.draw_Number.b1 at e2
  refine c_sq (c_sr (o_mv h13 (o_mv h12 (o_add rfl rfl ?_))))
  refine o_mv h11 (o_len rfl ((hp1.mono (g1.trans (g3.trans g4)).v)).len (o_leq rfl rfl (c_nil ?_)))
  refine c_ifd rfl (fun q11 => ?_) (fun q11 => ?_)
  ·replace e2 := if_t q11 e2
   refine c_sk (c_bk (c_sr ?_))
   refine o_mv (v := (vi 0)) rfl ?_
   refine c_nil (c_sq (c_sr (o_mv h11 (o_mv h13 ?_))))
   refine o_mv h13 (o_mv h12 (o_add rfl rfl ?_))
   obtain ⟨x4, q12, e2⟩ := oB e2
   refine o_slc rfl rfl rfl (hp1.mono (g1.trans (g3.trans g4)).v) s7.v rfl q12 fun w1 h18 => ?_
   refine o_len rfl (h18).len ?_
   refine o_mv (v := (vi 0)) rfl ?_
   refine c_nil ?_
   refine c_gen (P := fun tm => tm 0 = (vi a0) ∧ tm 1 = v1 ∧ tm 7 = (vi s4) ∧ tm 8 = (vi s6) ∧ tm 9 = (vi 0) ∧ tm 35 = w1 ∧ tm 36 = (vN x4) ∧ tm 37 = (vi 0) ∧ True) ⟨h10, h11, h12, h13, rfl, rfl, rfl, rfl, trivial⟩ ?_
   intro _ i5
   obtain ⟨h19, h20, h21, h22, h23, h24, h25, h26, -⟩ := i5
   obtain ⟨y5, q15, e2⟩ := oB e2
   refine c_bk ?_
   refine l_forP (xs := x4) (fun (i6 : Nat) (s10 : Int) tm H => tm 37 = vi i6 ∧ ∃ (Z6 V6 : PH), Gw Z4 V4 Z6 V6 ∧ Sat Z6 V6 H [] ∧ tm 0 = (vi a0) ∧ tm 1 = v1 ∧ tm 7 = (vi s4) ∧ tm 8 = (vi s6) ∧ tm 9 = (vi s10) ∧ tm 35 = w1 ∧ tm 36 = (vN x4)) (fun i6 x5 s10 s12 tm H9 q13 q14 j3 e3 k10 => ?_) (fun tm H8 jd => ?_) q15 ⟨h26, _, _, Gw.refl _ _, s7, h19, h20, h21, h22, h23, h24, h25⟩
   ·obtain ⟨hti2, Z6, V6, g6, s11, h27, h28, h29, h30, h31, h32, h33⟩ := j3
    unfold P.draw_Number.b2 at e3
    refine c_sr (o_lss hti2 h33 (c_nil (c_sq ?_)))
    refine c_ift rfl (Int.ofNat_lt.2 q14) ?_
    refine c_sk (c_sq (c_bk (c_sr ?_)))
    refine o_idx (v := w1) h32 hti2 (h18.mono g6.v) rfl (Pu.ix_nat.trans q13) fun p1 q16 => ?_
    refine o_ldb rfl (h18.mono g6.v) s11.v q16 (Pu.ix_nat.trans q13) ?_
    refine o_mv (v := (.bool x5)) rfl ?_
    refine c_nil (c_sr (o_mv h31 (o_mul rfl rfl ?_)))
    refine o_mv (v := (vi (Pu.W (s10 * 2)))) rfl ?_
    refine c_nil (c_sr ?_)
    refine o_mv (v := (.bool x5)) rfl ?_
    refine c_nil ?_
    obtain ⟨y6, e4, e3⟩ := oB e3
    refine c_jn (I := fun tm H => ∃ (Z7 V7 : PH), Gw Z6 V6 Z7 V7 ∧ Sat Z7 V7 H [] ∧ tm 0 = (vi a0) ∧ tm 1 = v1 ∧ tm 7 = (vi s4) ∧ tm 8 = (vi s6) ∧ tm 9 = (vi y6) ∧ tm 35 = w1 ∧ tm 36 = (vN x4) ∧ tm 37 = (vJ i6)) (fun k11 => ?_) ?_
    ·refine c_if rfl (fun q17 => ?_) (fun q17 => ?_)
     ·replace e4 := if_t q17 e4
      refine c_r ?_
      refine o_mv (v := (vi (Pu.W (s10 * 2)))) rfl ?_
      refine o_add rfl rfl ?_
      refine o_mv (v := (vi (Pu.W ((Pu.W (s10 * 2)) + 1)))) rfl ?_
      refine c_nil ?_
      obtain rfl := oJ e4
      exact k11 _ _ ⟨_, _, Gw.refl _ _, s11, h27, h28, h29, h30, rfl, h32, h33, hti2⟩
     replace e4 := ib_f q17 e4
     refine c_sk ?_
     obtain rfl := oJ e4
     exact k11 _ _ ⟨_, _, Gw.refl _ _, s11, h27, h28, h29, h30, rfl, h32, h33, hti2⟩
    intro _ H10 i7
    obtain ⟨Z7, V7, g7, s13, h34, h35, h36, h37, h38, h39, h40, h41⟩ := i7
    refine c_end (c_r (o_add h41 rfl ?_))
    refine o_mv (v := (vi (Pu.W ((i6 : Int) + 1)))) rfl ?_
    refine c_nil ?_
    obtain rfl := oJ e3
    exact k10 _ _ ⟨(iv rfl (w_suc q14 (h18).bd)), _, _, (g6.trans g7), s13, h34, h35, h36, h37, h38, h39, h40⟩
   obtain ⟨hte2, Z8, V8, g8, s14, h42, h43, h44, h45, h46, h47, h48⟩ := jd
   refine c_sr (o_lss hte2 h48 (c_nil (c_sq ?_)))
   refine c_iff rfl (Int.lt_irrefl _) ?_
   refine c_ex ?_
   refine e_c ?_
   refine e_c ?_
   refine e_h ?_
   refine c_sr (o_mv h45 (o_mv h44 (o_add rfl rfl ?_)))
   refine o_mv (v := (vi (Pu.W (s6 + s4)))) rfl ?_
   refine c_nil (c_sr (o_mv h46 (o_mv h42 (o_lss rfl rfl ?_))))
   refine c_nil ?_
   refine c_ifd rfl (fun q18 => ?_) (fun q18 => ?_)
   ·replace e2 := if_t q18 e2
    refine c_sr (o_mv h46 ?_)
    refine o_mv (v := (vi (Pu.W (s6 + s4)))) rfl ?_
    refine o_mv (v := (vi y5)) rfl ?_
    refine o_mv (v := (vi (Pu.W (s6 + s4)))) rfl ?_
    refine o_mv (v := (vi 0)) rfl ?_
    refine c_nil ?_
    refine c_gen (P := fun tm => tm 4 = (vi y5) ∧ tm 5 = (vi (Pu.W (s6 + s4))) ∧ tm 6 = (vi 0) ∧ True) ⟨rfl, rfl, rfl, trivial⟩ ?_
    intro _ i8
    obtain ⟨h49, h50, h51, -⟩ := i8
    refine c_rt ?_
    have e5 := fin_r (k8 _ (sJ e2)) e
    obtain rfl := oJ e5
    exact ⟨.inr rfl, _, (ar3 h49 h50 h51), rfl, (s14.weak (g1.trans (g3.trans (g4.trans g8))) hs.zv)⟩
   replace e2 := if_f q18 e2
   refine c_sk (c_end ?_)
   exact k6 _ _ _ (sJ e2) ⟨_, _, (g4.trans g8), s14, h42, h43, h44, rfl⟩
  replace e2 := if_f q11 e2
  refine c_ex ?_
  refine e_c ?_
  refine e_c ?_
  refine e_h ?_
  exact k9 _ _ ⟨_, k7 _ (sJ e2), _, _, g4, s7, h10, h11, h12, h13⟩
 intro _ H7 i9
 obtain ⟨s8, f2, Z5, V5, g5, s9, h14, h15, h16, h17⟩ := i9
 replace e := fin_o f2 e
 refine c_sr ?_
 refine o_mv (v := (vi 0)) rfl ?_
 refine o_mv (v := (vi 0)) rfl ?_
 refine o_mv (v := (vi 5)) rfl ?_
 refine c_nil (c_rt ?_)
 obtain rfl := oJ e
 exact ⟨.inr rfl, _, (ar3 rfl rfl rfl), rfl, (s9.weak (g1.trans (g3.trans g5)) hs.zv)⟩
/-! parlkeep5_DrawMore -/
structure Nd.parlkeep5_DrawMore (T : FuncId → Option AFunc) : Prop where
  own : Has T I.parlkeep5_DrawMore F.parlkeep5_DrawMore
  parlkeep5_below : Nd.parlkeep5_below T
  draw_Number : Nd.draw_Number T
  slices_Concat_bool_bool : Nd.slices_Concat_bool_bool T
set_option maxHeartbeats 1000000 in
theorem X.parlkeep5_DrawMore {T : FuncId → Option AFunc} (nd : Nd.parlkeep5_DrawMore T) {φ : Nat} {Z V : PH} {H : Hp} {v1 : Value} {v2 : Value} {a0 : Int} {a1 : (List Bool)} {a2 : (List Bool)} (hs : Sat Z V H []) (hp1 : RdS Sh.bool Z v1 a1) (hp2 : RdS Sh.bool Z v2 a2) {r : Bool} (e : P.parlkeep5_DrawMore φ a0 a1 a2 = some r) :
    G T I.parlkeep5_DrawMore [vi a0, v1, v2] H (fun rv H' => rv = (.bool r) ∧ Sat Z V H' []) := by
 unfold P.parlkeep5_DrawMore at e
 refine f_mk nd.own ?_
 refine c_sr ?_
 refine o_mv (v := (.bool false)) rfl ?_
 refine c_nil (c_sr ?_)
 refine o_mv (v := (vi a0)) rfl ?_
 obtain ⟨x1, q1, e⟩ := oB e
 obtain ⟨Z1, V1, W1, g1, u1, c1, c2, -, c4, c3⟩ := Sat.call (l1 := []) hs
 refine o_call (mc rfl (mc rfl m0)) (X.parlkeep5_below nd.parlkeep5_below c1 q1) fun _ H1 i1 => ?_
 obtain ⟨rfl, s1⟩ := i1
 have s2 := c3 _ _ s1
 refine o_add rfl rfl ?_
 refine o_mv (v := (vi (Pu.W (1 + x1)))) rfl ?_
 refine c_nil (c_sq (c_sr ?_))
 refine o_bsl (s := Sh.bool) (us := [(.bool true)]) (qs := [(0, 1, (.bool true))]) (xs := [true]) s2 Sh.flat_lt rfl rfl rfl (Els.cons (c := [(.bool true)]) rfl Els.nil) rfl rfl fun w1 H2 s3 => ?_
 obtain ⟨x2, q2, e⟩ := oB e
 obtain ⟨Z2, V2, W2, g2, u2, c5, c6, -, c8, c7⟩ := Sat.call (l1 := []) s3
 refine o_call (mc rfl (mc rfl m0)) (X.draw_Number nd.draw_Number c5 (c6 0 _ Sh.bool _ _ rfl) q2) fun _ H3 i2 => ?_
 obtain ⟨rfl, s4⟩ := i2
 have s5 := c7 _ _ s4
 refine o_mv (v := (.tuple #[vi x2.1, vi x2.2.1, vi x2.2.2])) rfl ?_
 refine o_ext rfl rfl (o_ext rfl rfl (o_ext rfl rfl ?_))
 refine o_mv (v := (vi x2.1)) rfl ?_
 refine o_mv (v := (vi x2.2.1)) rfl ?_
 refine o_mv (v := (vi x2.2.2)) rfl ?_
 refine c_nil ?_
 refine c_gen (P := fun tm => tm 0 = (vi (Pu.W (1 + x1))) ∧ tm 1 = v1 ∧ tm 2 = v2 ∧ tm 7 = (vi x2.1) ∧ tm 9 = (vi x2.2.2) ∧ True) ⟨rfl, rfl, rfl, rfl, rfl, trivial⟩ ?_
 intro _ i3
 obtain ⟨h1, h2, h3, h4, h5, -⟩ := i3
 refine c_sr (o_mv h4 (o_neq rfl rfl ?_))
 refine o_mv (v := (.bool (decide (x2.1 ≠ 1)))) rfl ?_
 refine o_jn 3 (I := fun tm H => tm 33 = .bool ((decide (x2.1 ≠ 1)) || (decide (x2.2.2 ≠ 0))) ∧ (∃ (Z3 V3 : PH), Gw Z2 V2 Z3 V3 ∧ Sat Z3 V3 H [] ∧ tm 0 = (vi (Pu.W (1 + x1))) ∧ tm 1 = v1 ∧ tm 2 = v2)) (fun k1 => ?_) ?_
 ·rcases Bool.eq_false_or_eq_true (decide (x2.1 ≠ 1)) with q3 | q3
  ·refine o_gn rfl q3 (o_gn rfl q3 ?_)
   refine o_pickt (a := (.bool true)) rfl q3 rfl ?_
   exact k1 _ _ ⟨gf rfl (by first | (rw [q3]; first | done | rfl) | simp [q3]), _, _, Gw.refl _ _, (s5.pick [] rfl), h1, h2, h3⟩
  refine o_gy rfl q3 (o_mv h5 (o_gy rfl q3 (o_neq rfl rfl ?_)))
  refine o_pickf (b := (.bool (decide (x2.2.2 ≠ 0)))) rfl q3 rfl ?_
  exact k1 _ _ ⟨gf rfl (by first | (rw [q3]; first | done | rfl) | simp [q3]), _, _, Gw.refl _ _, (s5.pick [] rfl), h1, h2, h3⟩
 intro _ H4 i4
 obtain ⟨h9, Z3, V3, g3, s6, h6, h7, h8⟩ := i4
 refine c_nil ?_
 refine c_if h9 (fun q4 => ?_) (fun q4 => ?_)
 ·replace e := if_t q4 e
  refine c_sr ?_
  refine o_mv (v := (.bool false)) rfl ?_
  refine c_nil (c_rt ?_)
  obtain rfl := oJ e
  exact ⟨.inr rfl, _, (ar1 rfl), rfl, (s6.weak (g1.trans (g2.trans g3)) hs.zv)⟩
 replace e := ib_f q4 e
 refine c_sk (c_sr (o_mv h6 (o_mv h7 ?_)))
 obtain ⟨x3, q5, e⟩ := oB e
 obtain ⟨Z4, V4, W3, g4, u3, c9, c10, -, c12, c11⟩ := Sat.call (l1 := []) s6
 refine o_call (mc rfl (mc rfl m0)) (X.draw_Number nd.draw_Number c9 (hp1.mono (((g1.trans (g2.trans g3)).trans g4).z.trans c9.zv)) q5) fun _ H5 i5 => ?_
 obtain ⟨rfl, s7⟩ := i5
 have s8 := c11 _ _ s7
 refine o_mv (v := (.tuple #[vi x3.1, vi x3.2.1, vi x3.2.2])) rfl ?_
 refine o_ext rfl rfl (o_ext rfl rfl (o_ext rfl rfl ?_))
 refine o_mv (v := (vi x3.1)) rfl ?_
 refine o_mv (v := (vi x3.2.1)) rfl ?_
 refine o_mv (v := (vi x3.2.2)) rfl ?_
 refine c_nil ?_
 refine c_gen (P := fun tm => tm 0 = (vi (Pu.W (1 + x1))) ∧ tm 1 = v1 ∧ tm 2 = v2 ∧ tm 10 = (vi x3.1) ∧ tm 11 = (vi x3.2.1) ∧ tm 12 = (vi x3.2.2) ∧ True) ⟨h6, h7, h8, rfl, rfl, rfl, trivial⟩ ?_
 intro _ i6
 obtain ⟨h10, h11, h12, h13, h14, h15, -⟩ := i6
 refine c_sq (c_sr (o_mv h15 (o_neq rfl rfl (c_nil ?_))))
 refine c_ifd rfl (fun q6 => ?_) (fun q6 => ?_)
 ·replace e := if_t q6 e
  refine c_sr (o_mv h15 (o_eql rfl rfl ?_))
  refine o_mv (v := (.bool (decide (x3.2.2 = 5)))) rfl ?_
  refine o_jn 3 (I := fun tm H => tm 48 = .bool ((decide (x3.2.2 = 5)) && (decide (x3.2.1 = 0))) ∧ (∃ (Z5 V5 : PH), Gw Z4 V4 Z5 V5 ∧ Sat Z5 V5 H [])) (fun k2 => ?_) ?_
  ·rcases Bool.eq_false_or_eq_true (decide (x3.2.2 = 5)) with q7 | q7
   ·refine o_gy rfl q7 (o_mv h14 (o_gy rfl q7 (o_eql rfl rfl ?_)))
    refine o_pickt (a := (.bool (decide (x3.2.1 = 0)))) rfl q7 rfl ?_
    exact k2 _ _ ⟨gf rfl (by first | (rw [q7]; first | done | rfl) | simp [q7]), _, _, Gw.refl _ _, s8⟩
   refine o_gn rfl q7 (o_gn rfl q7 ?_)
   refine o_pickf (b := (.bool false)) rfl q7 rfl ?_
   exact k2 _ _ ⟨gf rfl (by first | (rw [q7]; first | done | rfl) | simp [q7]), _, _, Gw.refl _ _, s8⟩
  intro _ H6 i7
  obtain ⟨h16, Z5, V5, g5, s9⟩ := i7
  refine o_mv h16 (c_nil (c_rt ?_))
  obtain rfl := oJ e
  exact ⟨.inr rfl, _, (ar1 rfl), rfl, (s9.weak (g1.trans (g2.trans (g3.trans (g4.trans g5)))) hs.zv)⟩
 replace e := if_f q6 e
 refine c_sk (c_sq (c_sr (o_mv h14 (o_lss rfl rfl ?_))))
 refine o_mv (v := (.bool (decide (x3.2.1 < 0)))) rfl ?_
 refine o_jn 5 (I := fun tm H => tm 56 = .bool ((decide (x3.2.1 < 0)) || (decide ((a1.length : Int) < x3.2.1))) ∧ (∃ (Z6 V6 : PH), Gw Z4 V4 Z6 V6 ∧ Sat Z6 V6 H [] ∧ tm 0 = (vi (Pu.W (1 + x1))) ∧ tm 1 = v1 ∧ tm 2 = v2 ∧ tm 10 = (vi x3.1) ∧ tm 11 = (vi x3.2.1))) (fun k3 => ?_) ?_
 ·rcases Bool.eq_false_or_eq_true (decide (x3.2.1 < 0)) with q8 | q8
  ·refine o_gn rfl q8 (o_gn rfl q8 (o_gn rfl q8 (o_gn rfl q8 ?_)))
   refine o_pickt (a := (.bool true)) rfl q8 rfl ?_
   exact k3 _ _ ⟨gf rfl (by first | (rw [q8]; first | done | rfl) | simp [q8]), _, _, Gw.refl _ _, s8, h10, h11, h12, h13, h14⟩
  refine o_gy rfl q8 (o_mv h14 (o_gy rfl q8 (o_mv h11 (o_gy rfl q8 ?_))))
  refine o_len rfl ((hp1.mono (g1.trans (g2.trans (g3.trans g4))).z)).len (o_gy rfl q8 (o_gtr rfl rfl ?_))
  refine o_pickf (b := (.bool (decide ((a1.length : Int) < x3.2.1)))) rfl q8 rfl ?_
  exact k3 _ _ ⟨gf rfl (by first | (rw [q8]; first | done | rfl) | simp [q8]), _, _, Gw.refl _ _, s8, h10, h11, h12, h13, h14⟩
 intro _ H7 i8
 obtain ⟨h22, Z6, V6, g6, s10, h17, h18, h19, h20, h21⟩ := i8
 refine c_nil ?_
 refine c_if h22 (fun q9 => ?_) (fun q9 => ?_)
 ·replace e := if_t q9 e
  refine c_sr ?_
  refine o_mv (v := (.bool false)) rfl ?_
  refine c_nil (c_rt ?_)
  obtain rfl := oJ e
  exact ⟨.inr rfl, _, (ar1 rfl), rfl, (s10.weak (g1.trans (g2.trans (g3.trans (g4.trans g6)))) hs.zv)⟩
 replace e := ib_f q9 e
 refine c_sk (c_sr (o_mv h17 (o_mv h18 (o_mv h21 ?_))))
 obtain ⟨x4, q10, e⟩ := oB e
 refine o_slch rfl rfl (hp1.mono (g1.trans (g2.trans (g3.trans (g4.trans g6)))).z) s10.z rfl q10 fun w2 h23 => ?_
 refine o_mv h19 ?_
 obtain ⟨d1, rfl⟩ := (h23).val
 obtain ⟨d2, rfl⟩ := ((hp2.mono (g1.trans (g2.trans (g3.trans (g4.trans g6)))).z)).val
 refine o_bsl (s := (Sh.ro sB)) (us := [(vS d1 x4), (vS d2 a2)]) (qs := [(0, 1, (vS d1 x4)), (1, 1, (vS d2 a2))]) (xs := [x4, a2]) s10 (Sh.ro_lt _) rfl rfl rfl (Els.cons (c := [(vS d1 x4)]) (sl_ro h23) (Els.cons (c := [(vS d2 a2)]) (sl_ro (hp2.mono (g1.trans (g2.trans (g3.trans (g4.trans g6)))).z)) Els.nil)) rfl rfl fun w3 H8 s11 => ?_
 obtain ⟨x5, q11, e⟩ := oB e
 obtain ⟨Z7, V7, W4, g7, u4, c13, c14, -, c16, c15⟩ := Sat.call (l1 := []) s11
 refine o_call (mc rfl m0) (X.slices_Concat_bool_bool nd.slices_Concat_bool_bool c13 (c14 0 _ (Sh.ro sB) _ _ rfl) q11) fun w4 H9 i9 => ?_
 obtain ⟨_, rfl, s12⟩ := i9
 have s13 := c15 _ _ s12
 obtain ⟨x6, q12, e⟩ := oB e
 obtain ⟨Z8, V8, W5, g8, u5, c17, c18, -, c20, c19⟩ := Sat.call (l1 := []) s13
 refine o_call (mc rfl (mc rfl m0)) (X.draw_Number nd.draw_Number c17 (c18 0 _ Sh.bool _ _ rfl) q12) fun _ H10 i10 => ?_
 obtain ⟨rfl, s14⟩ := i10
 have s15 := c19 _ _ s14
 refine o_mv (v := (.tuple #[vi x6.1, vi x6.2.1, vi x6.2.2])) rfl ?_
 refine o_ext rfl rfl (o_ext rfl rfl (o_ext rfl rfl ?_))
 refine o_mv (v := (vi x6.1)) rfl ?_
 refine o_mv (v := (vi x6.2.1)) rfl ?_
 refine o_mv (v := (vi x6.2.2)) rfl ?_
 refine c_nil ?_
 refine c_gen (P := fun tm => tm 0 = (vi (Pu.W (1 + x1))) ∧ tm 1 = v1 ∧ tm 10 = (vi x3.1) ∧ tm 11 = (vi x3.2.1) ∧ tm 13 = (vi x6.1) ∧ tm 14 = (vi x6.2.1) ∧ tm 15 = (vi x6.2.2) ∧ True) ⟨h17, h18, h20, h21, rfl, rfl, rfl, trivial⟩ ?_
 intro _ i11
 obtain ⟨h24, h25, h26, h27, h28, h29, h30, -⟩ := i11
 refine c_sq (c_sr (o_mv h30 (o_neq rfl rfl ?_)))
 refine o_mv (v := (.bool (decide (x6.2.2 ≠ 0)))) rfl ?_
 refine o_jn 4 (I := fun tm H => tm 75 = .bool ((decide (x6.2.2 ≠ 0)) || (decide (x3.1 ≠ x6.1))) ∧ (∃ (Z9 V9 : PH), Gw Z8 V8 Z9 V9 ∧ Sat Z9 V9 H [] ∧ tm 0 = (vi (Pu.W (1 + x1))) ∧ tm 1 = v1 ∧ tm 11 = (vi x3.2.1) ∧ tm 14 = (vi x6.2.1))) (fun k4 => ?_) ?_
 ·rcases Bool.eq_false_or_eq_true (decide (x6.2.2 ≠ 0)) with q13 | q13
  ·refine o_gn rfl q13 (o_gn rfl q13 (o_gn rfl q13 ?_))
   refine o_pickt (a := (.bool true)) rfl q13 rfl ?_
   exact k4 _ _ ⟨gf rfl (by first | (rw [q13]; first | done | rfl) | simp [q13]), _, _, Gw.refl _ _, (s15.pick [] rfl), h24, h25, h27, h29⟩
  refine o_gy rfl q13 (o_mv h26 (o_gy rfl q13 (o_mv h28 (o_gy rfl q13 ?_))))
  refine o_neq rfl rfl ?_
  refine o_pickf (b := (.bool (decide (x3.1 ≠ x6.1)))) rfl q13 rfl ?_
  exact k4 _ _ ⟨gf rfl (by first | (rw [q13]; first | done | rfl) | simp [q13]), _, _, Gw.refl _ _, (s15.pick [] rfl), h24, h25, h27, h29⟩
 intro _ H11 i12
 obtain ⟨h35, Z9, V9, g9, s16, h31, h32, h33, h34⟩ := i12
 refine o_mv h35 ?_
 refine o_jn 4 (I := fun tm H => tm 80 = .bool (((decide (x6.2.2 ≠ 0)) || (decide (x3.1 ≠ x6.1))) || (decide (x6.2.1 ≠ x3.2.1))) ∧ (∃ (Z10 V10 : PH), Gw Z9 V9 Z10 V10 ∧ Sat Z10 V10 H [] ∧ tm 0 = (vi (Pu.W (1 + x1))) ∧ tm 1 = v1 ∧ tm 11 = (vi x3.2.1))) (fun k5 => ?_) ?_
 ·rcases Bool.eq_false_or_eq_true ((decide (x6.2.2 ≠ 0)) || (decide (x3.1 ≠ x6.1))) with q14 | q14
  ·refine o_gn rfl q14 (o_gn rfl q14 (o_gn rfl q14 ?_))
   refine o_pickt (a := (.bool true)) rfl q14 rfl ?_
   exact k5 _ _ ⟨gf rfl (by first | (rw [q14]; first | done | rfl) | simp [q14]), _, _, Gw.refl _ _, s16, h31, h32, h33⟩
  refine o_gy rfl q14 (o_mv h34 (o_gy rfl q14 (o_mv h33 (o_gy rfl q14 ?_))))
  refine o_neq rfl rfl ?_
  refine o_pickf (b := (.bool (decide (x6.2.1 ≠ x3.2.1)))) rfl q14 rfl ?_
  exact k5 _ _ ⟨gf rfl (by first | (rw [q14]; first | done | rfl) | simp [q14]), _, _, Gw.refl _ _, s16, h31, h32, h33⟩
 intro _ H12 i13
 obtain ⟨h39, Z10, V10, g10, s17, h36, h37, h38⟩ := i13
 refine c_nil ?_
 refine c_if h39 (fun q15 => ?_) (fun q15 => ?_)
 ·replace e := if_t q15 e
  refine c_sr ?_
  refine o_mv (v := (.bool false)) rfl ?_
  refine c_nil (c_rt ?_)
  obtain rfl := oJ e
  exact ⟨.inr rfl, _, (ar1 rfl), rfl, (s17.weak (g1.trans (g2.trans (g3.trans (g4.trans (g6.trans (g7.trans (g8.trans (g9.trans g10)))))))) hs.zv)⟩
 replace e := ib_f q15 e
 refine c_sk (c_sq (c_sr (o_mv h38 (o_eql rfl rfl ?_))))
 refine c_nil ?_
 refine c_ifd rfl (fun q16 => ?_) (fun q16 => ?_)
 ·replace e := if_t q16 e
  refine c_sr ?_
  refine o_mv (v := (.bool true)) rfl ?_
  refine c_nil (c_rt ?_)
  obtain rfl := oJ e
  exact ⟨.inr rfl, _, (ar1 rfl), rfl, (s17.weak (g1.trans (g2.trans (g3.trans (g4.trans (g6.trans (g7.trans (g8.trans (g9.trans g10)))))))) hs.zv)⟩
 replace e := if_f q16 e
 refine c_sk (c_sr (o_mv h36 (o_mv h37 (o_mv h38 ?_))))
 refine o_sub rfl rfl ?_
 obtain ⟨x7, q17, e⟩ := oB e
 refine o_slch rfl rfl (hp1.mono (g1.trans (g2.trans (g3.trans (g4.trans (g6.trans (g7.trans (g8.trans (g9.trans g10)))))))).z) s17.z rfl q17 fun w5 h40 => ?_
 obtain ⟨x8, q18, e⟩ := oB e
 obtain ⟨Z11, V11, W6, g11, u6, c21, c22, -, c24, c23⟩ := Sat.call (l1 := []) s17
 refine o_call (mc rfl (mc rfl m0)) (X.draw_Number nd.draw_Number c21 (h40.mono (g11.z.trans c21.zv)) q18) fun _ H13 i14 => ?_
 obtain ⟨rfl, s18⟩ := i14
 have s19 := c23 _ _ s18
 refine o_mv (v := (.tuple #[vi x8.1, vi x8.2.1, vi x8.2.2])) rfl ?_
 refine o_ext rfl rfl (o_ext rfl rfl (o_ext rfl rfl ?_))
 refine o_mv (v := (vi x8.1)) rfl ?_
 refine o_mv (v := (vi x8.2.1)) rfl ?_
 refine o_mv (v := (vi x8.2.2)) rfl ?_
 refine c_nil ?_
 refine c_gen (P := fun tm => tm 18 = (vi x8.2.2) ∧ True) ⟨rfl, trivial⟩ ?_
 intro _ i15
 obtain ⟨h41, -⟩ := i15
 refine c_sr (o_mv h41 (o_eql rfl rfl ?_))
 refine o_mv (v := (.bool (decide (x8.2.2 = 5)))) rfl ?_
 refine c_nil (c_rt ?_)
 obtain rfl := oJ e
 exact ⟨.inr rfl, _, (ar1 rfl), rfl, (s19.weak (g1.trans (g2.trans (g3.trans (g4.trans (g6.trans (g7.trans (g8.trans (g9.trans (g10.trans g11))))))))) hs.zv)⟩
end Go.Proofs.Ytbehlbabgomhfaa
