/- The abstract code comes to the plain functions: printed by wip/tools/lift.py. -/
import Derived.Test.YtbehlbabgomhfaaP
import Derived.Test.YtbehlbabgomhfaaGcmp
import Derived.Test.YtbehlbabgomhfaaGdraw
import Derived.Test.YtbehlbabgomhfaaGmathbits
import Derived.Test.YtbehlbabgomhfaaGparlkeep5
import Derived.Test.YtbehlbabgomhfaaGparlmake
import Derived.Test.YtbehlbabgomhfaaGslices
namespace Go.Proofs.Ytbehlbabgomhfaa
open Go Go.Ab
/-! parlmake_Below -/
structure Nd.parlmake_Below (T : FuncId → Option AFunc) : Prop where
  own : Has T I.parlmake_Below F.parlmake_Below
set_option maxHeartbeats 1000000 in
theorem X.parlmake_Below {T : FuncId → Option AFunc} (nd : Nd.parlmake_Below T) {Z V : PH} {H : Hp} {a0 : Int} {a1 : Int} (hs : Sat Z V H []) {r : Int} (e : P.parlmake_Below a0 a1 = some r) :
    G T I.parlmake_Below [vi a0, vi a1] H (fun rv H' => rv = (vi r) ∧ Sat Z V H' []) := by
 unfold P.parlmake_Below at e
 refine f_mk nd.own ?_
 refine c_sr ?_
 refine o_mv (v := (vi 0)) rfl ?_
 refine c_nil (c_sr ?_)
 refine o_mv (v := (vi a0)) rfl ?_
 refine o_mv (v := (vi a1)) rfl ?_
 obtain ⟨x1, q1, e⟩ := oB e
 refine o_rem rfl rfl q1 ?_
 refine o_mv (v := (vi x1)) rfl ?_
 refine c_nil (c_sq (c_sr ?_))
 refine o_mv (v := (vi x1)) rfl ?_
 refine o_lss rfl rfl (c_nil ?_)
 obtain ⟨y1, e1, e⟩ := oB e
 refine c_jn (I := fun tm H => ∃ (Z1 V1 : PH), Gw Z V Z1 V1 ∧ Sat Z1 V1 H [] ∧ tm 0 = (vi y1)) (fun k1 => ?_) ?_
 ·refine c_ifd rfl (fun q2 => ?_) (fun q2 => ?_)
  ·replace e1 := if_t q2 e1
   refine c_r ?_
   refine o_mv (v := (vi x1)) rfl ?_
   refine o_mv (v := (vi a1)) rfl ?_
   refine o_add rfl rfl ?_
   refine o_mv (v := (vi (Pu.W (x1 + a1)))) rfl ?_
   refine c_nil ?_
   obtain rfl := oJ e1
   exact k1 _ _ ⟨_, _, Gw.refl _ _, hs, rfl⟩
  replace e1 := if_f q2 e1
  refine c_sk ?_
  obtain rfl := oJ e1
  exact k1 _ _ ⟨_, _, Gw.refl _ _, hs, rfl⟩
 intro _ H1 i1
 obtain ⟨Z1, V1, g1, s1, h1⟩ := i1
 refine c_sr (o_mv h1 ?_)
 refine o_mv (v := (vi y1)) rfl ?_
 refine c_nil (c_rt ?_)
 obtain rfl := oJ e
 exact ⟨.inr rfl, _, (ar1 rfl), rfl, (s1.weak g1 hs.zv)⟩
/-! parlkeep5_below -/
structure Nd.parlkeep5_below (T : FuncId → Option AFunc) : Prop where
  own : Has T I.parlkeep5_below F.parlkeep5_below
  parlmake_Below : Nd.parlmake_Below T
set_option maxHeartbeats 1000000 in
theorem X.parlkeep5_below {T : FuncId → Option AFunc} (nd : Nd.parlkeep5_below T) {Z V : PH} {H : Hp} {a0 : Int} {a1 : Int} (hs : Sat Z V H []) {r : Int} (e : P.parlkeep5_below a0 a1 = some r) :
    G T I.parlkeep5_below [vi a0, vi a1] H (fun rv H' => rv = (vi r) ∧ Sat Z V H' []) := by
 unfold P.parlkeep5_below at e
 refine f_mk nd.own ?_
 refine c_sr ?_
 refine o_mv (v := (vi 0)) rfl ?_
 refine c_nil (c_sr ?_)
 refine o_mv (v := (vi a0)) rfl ?_
 refine o_mv (v := (vi a1)) rfl ?_
 obtain ⟨x1, q1, e⟩ := oB e
 obtain ⟨Z1, V1, W1, g1, u1, c1, c2, -, c4, c3⟩ := Sat.call (l1 := []) hs
 refine o_call (mc rfl (mc rfl m0)) (X.parlmake_Below nd.parlmake_Below c1 q1) fun _ H1 i1 => ?_
 obtain ⟨rfl, s1⟩ := i1
 have s2 := c3 _ _ s1
 refine o_mv (v := (vi x1)) rfl ?_
 refine c_nil (c_rt ?_)
 obtain rfl := oJ e
 exact ⟨.inr rfl, _, (ar1 rfl), rfl, (s2.weak g1 hs.zv)⟩
/-! slices_Clone_bool_bool -/
structure Nd.slices_Clone_bool_bool (T : FuncId → Option AFunc) : Prop where
  own : Has T I.slices_Clone_bool_bool F.slices_Clone_bool_bool
set_option maxHeartbeats 1000000 in
theorem X.slices_Clone_bool_bool {T : FuncId → Option AFunc} (nd : Nd.slices_Clone_bool_bool T) {Z V : PH} {H : Hp} {v1 : Value} {a0 : (List Bool)} (hs : Sat Z V H []) (hp1 : RdS Sh.bool V v1 a0) {r : (List Bool)} (e : P.slices_Clone_bool_bool a0 = some r) :
    G T I.slices_Clone_bool_bool [v1] H (fun rv H' => ∃ (u1 : Value), rv = u1 ∧ Sat Z V H' [It.sl Sh.bool u1 r]) := by
 unfold P.slices_Clone_bool_bool at e
 refine f_mk nd.own ?_
 refine c_sr ?_
 refine o_mv (v := (.slice none 0 0)) rfl ?_
 refine c_nil (c_sq (c_sr ?_))
 refine o_mv (v := v1) rfl ?_
 have h1 := hp1
 rcases h1 with ⟨rfl, rfl⟩ | ⟨b0, o0, us0, x0, rfl, hn0⟩
 ·refine o_eq (p := true) rfl rfl rfl ?_
  have e1 : some [] = some r := by simpa [Pu.app] using e
  refine c_nil (c_bt rfl (c_sr ?_))
  refine o_mv (v := (.slice none 0 0)) rfl ?_
  refine c_nil (c_rt ?_)
  obtain rfl := oJ e1
  exact ⟨.inr rfl, _, (ar1 rfl), _, rfl, (hs.push (sl_nil (s := Sh.bool)))⟩
 refine o_eq (p := false) rfl rfl rfl ?_
 refine c_nil (c_bf rfl (c_sk (c_sr ?_)))
 refine o_bsl (s := Sh.bool) (us := []) (qs := []) (xs := []) hs Sh.flat_lt rfl rfl rfl Els.nil rfl rfl fun w1 H1 s1 => ?_
 refine o_mv (v := (.slice (some ⟨b0, o0, none⟩) a0.length a0.length)) rfl ?_
 obtain ⟨x1, q1, e⟩ := oB e
 refine o_app 0 s1 rfl Sh.flat_lt rfl rfl rfl rfl hp1 s1.v (fun h => h) (by decide) q1 fun w2 H2 s2 => ?_
 refine o_mv (v := w2) rfl ?_
 refine c_nil (c_rt ?_)
 obtain rfl := oJ e
 exact ⟨.inr rfl, _, (ar1 rfl), _, rfl, s2⟩
/-! parlkeep5_coins -/
structure Nd.parlkeep5_coins (T : FuncId → Option AFunc) : Prop where
  own : Has T I.parlkeep5_coins F.parlkeep5_coins
  slices_Clone_bool_bool : Nd.slices_Clone_bool_bool T
set_option maxHeartbeats 1000000 in
theorem X.parlkeep5_coins {T : FuncId → Option AFunc} (nd : Nd.parlkeep5_coins T) {Z V : PH} {H : Hp} {a0 : Int} (hs : Sat Z V H []) {r : (List (List Bool))} (e : P.parlkeep5_coins a0 = some r) :
    G T I.parlkeep5_coins [vi a0] H (fun rv H' => ∃ (u1 : Value), rv = u1 ∧ Sat Z V H' [It.sl (Sh.ro sB) u1 r]) := by
 unfold P.parlkeep5_coins at e
 refine f_mk nd.own ?_
 refine c_sr ?_
 refine o_mv (v := (.slice none 0 0)) rfl ?_
 refine c_nil (c_sr ?_)
 refine o_bsl (s := (Sh.ro sB)) (us := [(.slice none 0 0)]) (qs := [(0, 1, (.slice none 0 0))]) (xs := [[]]) hs (Sh.ro_lt _) rfl rfl rfl (Els.cons (c := [(.slice none 0 0)]) (sl_ro RdS.nil) Els.nil) rfl rfl fun w1 H1 s1 => ?_
 refine o_mv (v := w1) rfl ?_
 refine c_nil (c_sq (c_sr ?_))
 refine o_mv (v := (vi a0)) rfl ?_
 refine o_mv (v := (vi 0)) rfl ?_
 refine c_nil ?_
 obtain ⟨x2, q3, e⟩ := oB e
 obtain ⟨rfl, q5⟩ := ranO_some q3
 obtain ⟨y1, q6, e⟩ := oB e
 refine c_bk ?_
 refine l_forP (xs := (Pu.ran a0)) (fun (i1 : Nat) (s2 : (List (List Bool))) tm H => tm 9 = vi i1 ∧ ∃ (Z1 V1 : PH) (w2 : Value), Gw Z V Z1 V1 ∧ Sat Z1 V1 H [It.sl (Sh.ro sB) w2 s2] ∧ tm 3 = w2 ∧ tm 8 = (vi a0)) (fun i1 x1 s2 s4 tm H3 q1 q2 j1 e1 k1 => ?_) (fun tm H2 jd => ?_) q6 ⟨rfl, _, _, _, Gw.refl _ _, s1, rfl, rfl⟩
 ·obtain ⟨hti0, Z1, V1, w2, g1, s3, h1, h2⟩ := j1
  unfold P.parlkeep5_coins.b0 at e1
  have hti0 := iv hti0 (ran_x q1).symm
  refine c_sr (o_lss hti0 h2 (c_nil (c_sq ?_)))
  refine c_ift rfl (ran_lt q1) ?_
  refine c_sk (c_sq (c_bk (c_sr ?_)))
  refine o_mv (v := (.slice none 0 0)) rfl ?_
  refine c_nil (c_sq (c_sr (o_mv h1 ?_)))
  refine o_len rfl ((s3.curS (s := (Sh.ro sB)) 0 rfl)).len ?_
  refine o_mv (v := (vi 0)) rfl ?_
  refine c_nil ?_
  obtain ⟨y2, q9, e1⟩ := oB e1
  refine c_bk ?_
  refine l_forP (xs := s2) (fun (i2 : Nat) (s5 : (List (List Bool))) tm H => tm 13 = vi i2 ∧ ∃ (Z2 V2 : PH) (w3 : Value), Gw Z1 V1 Z2 V2 ∧ Sat Z2 V2 H [It.sl (Sh.ro sB) w3 s5, It.sl (Sh.ro sB) w2 s2] ∧ tm 4 = w3 ∧ tm 8 = (vi a0) ∧ tm 9 = (vi x1) ∧ tm 11 = w2 ∧ tm 12 = (vN s2)) (fun i2 x3 s5 s7 tm H5 q7 q8 j2 e2 k2 => ?_) (fun tm H4 jd => ?_) q9 ⟨rfl, _, _, _, Gw.refl _ _, (s3.push (sl_nil (s := (Sh.ro sB)))), rfl, h2, hti0, rfl, rfl⟩
  ·obtain ⟨hti1, Z2, V2, w3, g2, s6, h3, h4, h5, h6, h7⟩ := j2
   unfold P.parlkeep5_coins.b1 at e2
   refine c_sr (o_lss hti1 h7 (c_nil (c_sq ?_)))
   refine c_ift rfl (Int.ofNat_lt.2 q8) ?_
   refine c_sk (c_sq (c_bk (c_sr ?_)))
   refine o_idx (v := w2) h6 hti1 (s6.curS (s := (Sh.ro sB)) 1 rfl) rfl (Pu.ix_nat.trans q7) fun p1 q10 => ?_
   refine o_ldos 1 s6 rfl rfl q10 (Pu.ix_nat.trans q7) fun Z3 V3 w4 g3 s8 h8 => ?_
   refine o_mv (v := w4) rfl ?_
   refine c_nil (c_r (o_mv h3 ?_))
   refine o_mv (v := w4) rfl ?_
   obtain ⟨x4, q11, e2⟩ := oB e2
   obtain ⟨Z4, V4, W1, g4, u1, c1, c2, -, c4, c3⟩ := Sat.call (l1 := []) s8
   refine o_call (mc rfl m0) (X.slices_Clone_bool_bool nd.slices_Clone_bool_bool c1 (h8.mono (g4.z.trans c1.zv)) q11) fun w5 H6 i3 => ?_
   obtain ⟨_, rfl, s9⟩ := i3
   have s10 := c3 _ _ s9
   refine o_bsl (s := Sh.bool) (us := [(.bool false)]) (qs := [(0, 1, (.bool false))]) (xs := [false]) s10 Sh.flat_lt rfl rfl rfl (Els.cons (c := [(.bool false)]) rfl Els.nil) rfl rfl fun w6 H7 s11 => ?_
   obtain ⟨x5, q12, e2⟩ := oB e2
   refine o_app 1 s11 rfl Sh.flat_lt rfl rfl rfl rfl (s11.curS (s := Sh.bool) 0 rfl) pR (fun h => h) (by decide) q12 fun w7 H8 s12 => ?_
   refine o_mv (v := w4) rfl ?_
   obtain ⟨x6, q13, e2⟩ := oB e2
   obtain ⟨Z5, V5, W2, g5, u2, c5, c6, -, c8, c7⟩ := Sat.call (l1 := []) s12
   refine o_call (mc rfl m0) (X.slices_Clone_bool_bool nd.slices_Clone_bool_bool c5 (h8.mono ((g4.trans g5).z.trans c5.zv)) q13) fun w8 H9 i4 => ?_
   obtain ⟨_, rfl, s13⟩ := i4
   have s14 := c7 _ _ s13
   refine o_bsl (s := Sh.bool) (us := [(.bool true)]) (qs := [(0, 1, (.bool true))]) (xs := [true]) s14 Sh.flat_lt rfl rfl rfl (Els.cons (c := [(.bool true)]) rfl Els.nil) rfl rfl fun w9 H10 s15 => ?_
   obtain ⟨x7, q14, e2⟩ := oB e2
   refine o_app 1 s15 rfl Sh.flat_lt rfl rfl rfl rfl (s15.curS (s := Sh.bool) 0 rfl) pR (fun h => h) (by decide) q14 fun w10 H11 s16 => ?_
   obtain ⟨Z6, V6, g6, s17, h9⟩ := s16.frzS 3 rfl
   obtain ⟨Z7, V7, g7, s18, h10⟩ := s17.frzS 1 rfl
   obtain ⟨d1, rfl⟩ := ((h9.mono g7.z)).val
   obtain ⟨d2, rfl⟩ := (h10).val
   refine o_bsl (s := (Sh.ro sB)) (us := [(vS d1 x5), (vS d2 x7)]) (qs := [(0, 1, (vS d1 x5)), (1, 1, (vS d2 x7))]) (xs := [x5, x7]) s18 (Sh.ro_lt _) rfl rfl rfl (Els.cons (c := [(vS d1 x5)]) (sl_ro (h9.mono g7.z)) (Els.cons (c := [(vS d2 x7)]) (sl_ro h10) Els.nil)) rfl rfl fun w11 H12 s19 => ?_
   obtain ⟨Z8, V8, g8, s20, h11⟩ := s19.frzS 0 rfl
   replace h11 := h11.of_ro
   obtain ⟨x8, q15, e2⟩ := oB e2
   refine o_app 2 s20 rfl (Sh.ro_lt _) rfl rfl rfl rfl h11 s20.z (fun h => h) (by decide) q15 fun w12 H13 s21 => ?_
   refine o_mv (v := w12) rfl ?_
   refine c_nil (c_end (c_r (o_add hti1 rfl ?_)))
   refine o_mv (v := (vi (Pu.W ((i2 : Int) + 1)))) rfl ?_
   refine c_nil ?_
   obtain rfl := oJ e2
   exact k2 _ _ ⟨(iv rfl (w_suc q8 ((s3.curS (s := (Sh.ro sB)) 0 rfl)).bd)), _, _, _, (g2.trans (g3.trans (g4.trans (g5.trans (g6.trans (g7.trans g8)))))), (s21.pick [2, 3] rfl), rfl, h4, h5, h6, h7⟩
  obtain ⟨hte1, Z9, V9, w13, g9, s22, h12, h13, h14, h15, h16⟩ := jd
  refine c_sr (o_lss hte1 h16 (c_nil (c_sq ?_)))
  refine c_iff rfl (Int.lt_irrefl _) ?_
  refine c_ex ?_
  refine e_c ?_
  refine e_c ?_
  refine e_h ?_
  refine c_r (o_mv h12 ?_)
  refine o_mv (v := w13) rfl ?_
  refine c_nil (c_end (c_r (o_add h14 rfl ?_)))
  refine o_mv (v := (vi (Pu.W (x1 + 1)))) rfl ?_
  refine c_nil ?_
  obtain rfl := oJ e1
  exact k1 _ _ ⟨(iv rfl (w_sucR q1 q5)), _, _, _, (g1.trans g9), (s22.pick [0] rfl), rfl, h13⟩
 obtain ⟨hte0, Z10, V10, w14, g10, s23, h17, h18⟩ := jd
 refine c_sr (o_lss hte0 h18 (c_nil (c_sq ?_)))
 refine c_iff rfl (ran_done _) ?_
 refine c_ex ?_
 refine e_c ?_
 refine e_c ?_
 refine e_h ?_
 refine c_sr (o_mv h17 ?_)
 refine o_mv (v := w14) rfl ?_
 refine c_nil (c_rt ?_)
 obtain rfl := oJ e
 exact ⟨.inr rfl, _, (ar1 rfl), _, rfl, (s23.weak g10 hs.zv)⟩
/-! draw_Number -/
structure Nd.draw_Number (T : FuncId → Option AFunc) : Prop where
  own : Has T I.draw_Number F.draw_Number
set_option maxHeartbeats 1000000 in
theorem X.draw_Number {T : FuncId → Option AFunc} (nd : Nd.draw_Number T) {φ : Nat} {Z V : PH} {H : Hp} {v1 : Value} {a0 : Int} {a1 : (List Bool)} (hs : Sat Z V H []) (hp1 : RdS Sh.bool V v1 a1) {r : (Int × Int × Int)} (e : P.draw_Number φ a0 a1 = some r) :
    G T I.draw_Number [vi a0, v1] H (fun rv H' => rv = (.tuple #[vi r.1, vi r.2.1, vi r.2.2]) ∧ Sat Z V H' []) := by
 unfold P.draw_Number at e
 refine f_mk nd.own ?_
 refine c_sr ?_
 refine o_mv (v := (vi 0)) rfl ?_
 refine o_mv (v := (vi 0)) rfl ?_
 refine o_mv (v := (vi 0)) rfl ?_
 refine c_nil (c_sq (c_sr ?_))
 refine o_mv (v := (vi a0)) rfl ?_
 refine o_lss rfl rfl ?_
 refine o_mv (v := (.bool (decide (a0 < 1)))) rfl ?_
 refine o_jn 3 (I := fun tm H => tm 17 = .bool ((decide (a0 < 1)) || (decide (1000000000 < a0))) ∧ (∃ (Z1 V1 : PH), Gw Z V Z1 V1 ∧ Sat Z1 V1 H [] ∧ tm 0 = (vi a0) ∧ tm 1 = v1)) (fun k1 => ?_) ?_
 ·rcases Bool.eq_false_or_eq_true (decide (a0 < 1)) with q1 | q1
  ·refine o_gn rfl q1 (o_gn rfl q1 ?_)
   refine o_pickt (a := (.bool true)) rfl q1 rfl ?_
   exact k1 _ _ ⟨gf rfl (by first | (rw [q1]; first | done | rfl) | simp [q1]), _, _, Gw.refl _ _, hs, rfl, rfl⟩
  refine o_gy rfl q1 ?_
  refine o_mv (v := (vi a0)) rfl ?_
  refine o_gy rfl q1 (o_gtr rfl rfl ?_)
  refine o_pickf (b := (.bool (decide (1000000000 < a0)))) rfl q1 rfl ?_
  exact k1 _ _ ⟨gf rfl (by first | (rw [q1]; first | done | rfl) | simp [q1]), _, _, Gw.refl _ _, hs, rfl, rfl⟩
 intro _ H1 i1
 obtain ⟨h3, Z1, V1, g1, s1, h1, h2⟩ := i1
 refine c_nil ?_
 refine c_if h3 (fun q2 => ?_) (fun q2 => ?_)
 ·replace e := if_t q2 e
  refine c_sr ?_
  refine o_mv (v := (vi 0)) rfl ?_
  refine o_mv (v := (vi 0)) rfl ?_
  refine o_mv (v := (vi 1)) rfl ?_
  refine c_nil (c_rt ?_)
  obtain rfl := oJ e
  exact ⟨.inr rfl, _, (ar3 rfl rfl rfl), rfl, (s1.weak g1 hs.zv)⟩
 replace e := ib_f q2 e
 refine c_sk (c_sr ?_)
 refine o_mv (v := (vi 0)) rfl ?_
 refine c_nil (c_sq ?_)
 obtain ⟨y1, q5, e⟩ := oB e
 refine c_jn (I := fun tm H => ∃ (s4 : Int), y1 = .out s4 ∧ (∃ (Z3 V3 : PH), Gw Z1 V1 Z3 V3 ∧ Sat Z3 V3 H [] ∧ tm 0 = (vi a0) ∧ tm 1 = v1 ∧ tm 7 = (vi s4))) (fun k5 => ?_) ?_
 ·refine c_bk ?_
  refine l_whl (fun (s2 : Int) tm H => ∃ (Z2 V2 : PH), Gw Z1 V1 Z2 V2 ∧ Sat Z2 V2 H [] ∧ tm 0 = (vi a0) ∧ tm 1 = v1 ∧ tm 7 = (vi s2)) (fun s2 y2 tm H3 j1 e1 k2 k3 k4 => ?_) q5 ⟨_, _, Gw.refl _ _, s1, h1, h2, rfl⟩
  obtain ⟨Z2, V2, g2, s3, h4, h5, h6⟩ := j1
  unfold P.draw_Number.b0 at e1
  refine c_sq (c_sr (o_mv h6 ?_))
  obtain ⟨x2, q6, e1⟩ := oB e1
  refine o_shl rfl rfl q6 (o_mv h4 (o_lss rfl rfl (c_nil ?_)))
  refine c_ifd rfl (fun q7 => ?_) (fun q7 => ?_)
  ·replace e1 := if_t q7 e1
   refine c_sk (c_bk (c_r (o_mv h6 (o_add rfl rfl ?_))))
   refine o_mv (v := (vi (Pu.W (s2 + 1)))) rfl ?_
   refine c_nil (c_end ?_)
   exact k2 _ _ _ (sJ e1) ⟨_, _, g2, s3, h4, h5, rfl⟩
  replace e1 := if_f q7 e1
  refine c_ex ?_
  refine e_c ?_
  refine e_c ?_
  refine e_h ?_
  exact k5 _ _ ⟨_, k3 _ (sJ e1), _, _, g2, s3, h4, h5, h6⟩
 intro _ H4 i3
 obtain ⟨s4, f1, Z3, V3, g3, s5, h7, h8, h9⟩ := i3
 replace e := fin_o f1 e
 refine c_sq (c_sr ?_)
 refine o_mv (v := (vi 0)) rfl ?_
 refine c_nil ?_
 obtain ⟨y3, q10, e⟩ := oB e
 refine c_jn (I := fun tm H => ∃ (s8 : Int), y3 = .out s8 ∧ (∃ (Z5 V5 : PH), Gw Z3 V3 Z5 V5 ∧ Sat Z5 V5 H [] ∧ tm 0 = (vi a0) ∧ tm 1 = v1 ∧ tm 7 = (vi s4) ∧ tm 8 = (vi s8))) (fun k9 => ?_) ?_
 ·refine c_bk ?_
  refine l_whl (fun (s6 : Int) tm H => ∃ (Z4 V4 : PH), Gw Z3 V3 Z4 V4 ∧ Sat Z4 V4 H [] ∧ tm 0 = (vi a0) ∧ tm 1 = v1 ∧ tm 7 = (vi s4) ∧ tm 8 = (vi s6)) (fun s6 y4 tm H6 j2 e2 k6 k7 k8 => ?_) q10 ⟨_, _, Gw.refl _ _, s5, h7, h8, h9, rfl⟩
  obtain ⟨Z4, V4, g4, s7, h10, h11, h12, h13⟩ := j2
  unfold P.draw_Number.b1 at e2
  refine c_sq (c_sr (o_mv h13 (o_mv h12 (o_add rfl rfl ?_))))
  refine o_mv h11 (o_len rfl ((hp1.mono (g1.trans (g3.trans g4)).v)).len (o_leq rfl rfl (c_nil ?_)))
  refine c_ifd rfl (fun q11 => ?_) (fun q11 => ?_)
  ·replace e2 := if_t q11 e2
   refine c_sk (c_bk (c_sr ?_))
   refine o_mv (v := (vi 0)) rfl ?_
   refine c_nil (c_sq (c_sr (o_mv h11 (o_mv h13 ?_))))
   refine o_mv h13 (o_mv h12 (o_add rfl rfl ?_))
   obtain ⟨x4, q12, e2⟩ := oB e2
   refine o_slc rfl rfl rfl (hp1.mono (g1.trans (g3.trans g4)).v) s7.v rfl q12 fun w1 h18 => ?_
   refine o_len rfl (h18).len ?_
   refine o_mv (v := (vi 0)) rfl ?_
   refine c_nil ?_
   refine c_gen (P := fun tm => tm 0 = (vi a0) ∧ tm 1 = v1 ∧ tm 7 = (vi s4) ∧ tm 8 = (vi s6) ∧ tm 9 = (vi 0) ∧ tm 35 = w1 ∧ tm 36 = (vN x4) ∧ tm 37 = (vi 0) ∧ True) ⟨h10, h11, h12, h13, rfl, rfl, rfl, rfl, trivial⟩ ?_
   intro _ i5
   obtain ⟨h19, h20, h21, h22, h23, h24, h25, h26, -⟩ := i5
   obtain ⟨y5, q15, e2⟩ := oB e2
   refine c_bk ?_
   refine l_forP (xs := x4) (fun (i6 : Nat) (s10 : Int) tm H => tm 37 = vi i6 ∧ ∃ (Z6 V6 : PH), Gw Z4 V4 Z6 V6 ∧ Sat Z6 V6 H [] ∧ tm 0 = (vi a0) ∧ tm 1 = v1 ∧ tm 7 = (vi s4) ∧ tm 8 = (vi s6) ∧ tm 9 = (vi s10) ∧ tm 35 = w1 ∧ tm 36 = (vN x4)) (fun i6 x5 s10 s12 tm H9 q13 q14 j3 e3 k10 => ?_) (fun tm H8 jd => ?_) q15 ⟨h26, _, _, Gw.refl _ _, s7, h19, h20, h21, h22, h23, h24, h25⟩
   ·obtain ⟨hti2, Z6, V6, g6, s11, h27, h28, h29, h30, h31, h32, h33⟩ := j3
    unfold P.draw_Number.b2 at e3
    refine c_sr (o_lss hti2 h33 (c_nil (c_sq ?_)))
    refine c_ift rfl (Int.ofNat_lt.2 q14) ?_
    refine c_sk (c_sq (c_bk (c_sr ?_)))
    refine o_idx (v := w1) h32 hti2 (h18.mono g6.v) rfl (Pu.ix_nat.trans q13) fun p1 q16 => ?_
    refine o_ldb rfl (h18.mono g6.v) s11.v q16 (Pu.ix_nat.trans q13) ?_
    refine o_mv (v := (.bool x5)) rfl ?_
    refine c_nil (c_sr (o_mv h31 (o_mul rfl rfl ?_)))
    refine o_mv (v := (vi (Pu.W (s10 * 2)))) rfl ?_
    refine c_nil (c_sr ?_)
    refine o_mv (v := (.bool x5)) rfl ?_
    refine c_nil ?_
    obtain ⟨y6, e4, e3⟩ := oB e3
    refine c_jn (I := fun tm H => ∃ (Z7 V7 : PH), Gw Z6 V6 Z7 V7 ∧ Sat Z7 V7 H [] ∧ tm 0 = (vi a0) ∧ tm 1 = v1 ∧ tm 7 = (vi s4) ∧ tm 8 = (vi s6) ∧ tm 9 = (vi y6) ∧ tm 35 = w1 ∧ tm 36 = (vN x4) ∧ tm 37 = (vJ i6)) (fun k11 => ?_) ?_
    ·refine c_if rfl (fun q17 => ?_) (fun q17 => ?_)
     ·replace e4 := if_t q17 e4
      refine c_r ?_
      refine o_mv (v := (vi (Pu.W (s10 * 2)))) rfl ?_
      refine o_add rfl rfl ?_
      refine o_mv (v := (vi (Pu.W ((Pu.W (s10 * 2)) + 1)))) rfl ?_
      refine c_nil ?_
      obtain rfl := oJ e4
      exact k11 _ _ ⟨_, _, Gw.refl _ _, s11, h27, h28, h29, h30, rfl, h32, h33, hti2⟩
     replace e4 := ib_f q17 e4
     refine c_sk ?_
     obtain rfl := oJ e4
     exact k11 _ _ ⟨_, _, Gw.refl _ _, s11, h27, h28, h29, h30, rfl, h32, h33, hti2⟩
    intro _ H10 i7
    obtain ⟨Z7, V7, g7, s13, h34, h35, h36, h37, h38, h39, h40, h41⟩ := i7
    refine c_end (c_r (o_add h41 rfl ?_))
    refine o_mv (v := (vi (Pu.W ((i6 : Int) + 1)))) rfl ?_
    refine c_nil ?_
    obtain rfl := oJ e3
    exact k10 _ _ ⟨(iv rfl (w_suc q14 (h18).bd)), _, _, (g6.trans g7), s13, h34, h35, h36, h37, h38, h39, h40⟩
   obtain ⟨hte2, Z8, V8, g8, s14, h42, h43, h44, h45, h46, h47, h48⟩ := jd
   refine c_sr (o_lss hte2 h48 (c_nil (c_sq ?_)))
   refine c_iff rfl (Int.lt_irrefl _) ?_
   refine c_ex ?_
   refine e_c ?_
   refine e_c ?_
   refine e_h ?_
   refine c_sr (o_mv h45 (o_mv h44 (o_add rfl rfl ?_)))
   refine o_mv (v := (vi (Pu.W (s6 + s4)))) rfl ?_
   refine c_nil (c_sr (o_mv h46 (o_mv h42 (o_lss rfl rfl ?_))))
   refine c_nil ?_
   refine c_ifd rfl (fun q18 => ?_) (fun q18 => ?_)
   ·replace e2 := if_t q18 e2
    refine c_sr (o_mv h46 ?_)
    refine o_mv (v := (vi (Pu.W (s6 + s4)))) rfl ?_
    refine o_mv (v := (vi y5)) rfl ?_
    refine o_mv (v := (vi (Pu.W (s6 + s4)))) rfl ?_
    refine o_mv (v := (vi 0)) rfl ?_
    refine c_nil ?_
    refine c_gen (P := fun tm => tm 4 = (vi y5) ∧ tm 5 = (vi (Pu.W (s6 + s4))) ∧ tm 6 = (vi 0) ∧ True) ⟨rfl, rfl, rfl, trivial⟩ ?_
    intro _ i8
    obtain ⟨h49, h50, h51, -⟩ := i8
    refine c_rt ?_
    have e5 := fin_r (k8 _ (sJ e2)) e
    obtain rfl := oJ e5
    exact ⟨.inr rfl, _, (ar3 h49 h50 h51), rfl, (s14.weak (g1.trans (g3.trans (g4.trans g8))) hs.zv)⟩
   replace e2 := if_f q18 e2
   refine c_sk (c_end ?_)
   exact k6 _ _ _ (sJ e2) ⟨_, _, (g4.trans g8), s14, h42, h43, h44, rfl⟩
  replace e2 := if_f q11 e2
  refine c_ex ?_
  refine e_c ?_
  refine e_c ?_
  refine e_h ?_
  exact k9 _ _ ⟨_, k7 _ (sJ e2), _, _, g4, s7, h10, h11, h12, h13⟩
 intro _ H7 i9
 obtain ⟨s8, f2, Z5, V5, g5, s9, h14, h15, h16, h17⟩ := i9
 replace e := fin_o f2 e
 refine c_sr ?_
 refine o_mv (v := (vi 0)) rfl ?_
 refine o_mv (v := (vi 0)) rfl ?_
 refine o_mv (v := (vi 5)) rfl ?_
 refine c_nil (c_rt ?_)
 obtain rfl := oJ e
 exact ⟨.inr rfl, _, (ar3 rfl rfl rfl), rfl, (s9.weak (g1.trans (g3.trans g5)) hs.zv)⟩
/-! draw_Order -/
structure Nd.draw_Order (T : FuncId → Option AFunc) : Prop where
  own : Has T I.draw_Order F.draw_Order
  draw_Number : Nd.draw_Number T
set_option maxHeartbeats 1000000 in
theorem X.draw_Order {T : FuncId → Option AFunc} (nd : Nd.draw_Order T) {φ : Nat} {Z V : PH} {H : Hp} {v1 : Value} {a0 : Int} {a1 : (List Bool)} (hs : Sat Z V H []) (hp1 : RdS Sh.bool V v1 a1) {r : ((List Int) × Int × Int)} (e : P.draw_Order φ a0 a1 = some r) :
    G T I.draw_Order [vi a0, v1] H (fun rv H' => ∃ (u1 : Value), rv = (.tuple #[u1, vi r.2.1, vi r.2.2]) ∧ Sat Z V H' [It.sl Sh.int u1 r.1]) := by
 unfold P.draw_Order at e
 refine f_mk nd.own ?_
 refine c_sr ?_
 refine o_mv (v := (.slice none 0 0)) rfl ?_
 refine o_mv (v := (vi 0)) rfl ?_
 refine o_mv (v := (vi 0)) rfl ?_
 refine c_nil (c_sq (c_sr ?_))
 refine o_mv (v := (vi a0)) rfl ?_
 refine o_lss rfl rfl ?_
 refine o_mv (v := (.bool (decide (a0 < 0)))) rfl ?_
 refine o_jn 3 (I := fun tm H => tm 19 = .bool ((decide (a0 < 0)) || (decide (100 < a0))) ∧ (∃ (Z1 V1 : PH), Gw Z V Z1 V1 ∧ Sat Z1 V1 H [] ∧ tm 0 = (vi a0) ∧ tm 1 = v1)) (fun k1 => ?_) ?_
 ·rcases Bool.eq_false_or_eq_true (decide (a0 < 0)) with q1 | q1
  ·refine o_gn rfl q1 (o_gn rfl q1 ?_)
   refine o_pickt (a := (.bool true)) rfl q1 rfl ?_
   exact k1 _ _ ⟨gf rfl (by first | (rw [q1]; first | done | rfl) | simp [q1]), _, _, Gw.refl _ _, hs, rfl, rfl⟩
  refine o_gy rfl q1 ?_
  refine o_mv (v := (vi a0)) rfl ?_
  refine o_gy rfl q1 (o_gtr rfl rfl ?_)
  refine o_pickf (b := (.bool (decide (100 < a0)))) rfl q1 rfl ?_
  exact k1 _ _ ⟨gf rfl (by first | (rw [q1]; first | done | rfl) | simp [q1]), _, _, Gw.refl _ _, hs, rfl, rfl⟩
 intro _ H1 i1
 obtain ⟨h3, Z1, V1, g1, s1, h1, h2⟩ := i1
 refine c_nil ?_
 refine c_if h3 (fun q2 => ?_) (fun q2 => ?_)
 ·replace e := if_t q2 e
  refine c_sr ?_
  refine o_mv (v := (.slice none 0 0)) rfl ?_
  refine o_mv (v := (vi 0)) rfl ?_
  refine o_mv (v := (vi 1)) rfl ?_
  refine c_nil (c_rt ?_)
  obtain rfl := oJ e
  exact ⟨.inr rfl, _, (ar3 rfl rfl rfl), _, rfl, ((s1.push (sl_nil (s := Sh.int))).weak g1 hs.zv)⟩
 replace e := ib_f q2 e
 refine c_sk (c_sr ?_)
 refine o_mv (v := (.slice none 0 0)) rfl ?_
 refine o_mv (v := (.slice none 0 0)) rfl ?_
 refine c_nil (c_sq (c_sr (o_mv h1 ?_)))
 refine o_mv (v := (vi 0)) rfl ?_
 refine c_nil ?_
 obtain ⟨x2, q5, e⟩ := oB e
 obtain ⟨rfl, q7⟩ := ranO_some q5
 obtain ⟨y1, q8, e⟩ := oB e
 refine c_bk ?_
 refine l_forP (xs := (Pu.ran a0)) (fun (i2 : Nat) (s2 : (List Int)) tm H => tm 21 = vi i2 ∧ ∃ (Z2 V2 : PH) (w1 : Value), Gw Z1 V1 Z2 V2 ∧ Sat Z2 V2 H [It.sl Sh.int w1 s2] ∧ tm 1 = v1 ∧ tm 7 = w1 ∧ tm 8 = (.slice none 0 0) ∧ tm 20 = (vi a0)) (fun i2 x1 s2 s4 tm H3 q3 q4 j1 e1 k2 => ?_) (fun tm H2 jd => ?_) q8 ⟨rfl, _, _, _, Gw.refl _ _, (s1.push (sl_nil (s := Sh.int))), h2, rfl, rfl, rfl⟩
 ·obtain ⟨hti0, Z2, V2, w1, g2, s3, h4, h5, h6, h7⟩ := j1
  unfold P.draw_Order.b0 at e1
  have hti0 := iv hti0 (ran_x q3).symm
  refine c_sr (o_lss hti0 h7 (c_nil (c_sq ?_)))
  refine c_ift rfl (ran_lt q3) ?_
  refine c_sk (c_sq (c_bk (c_sr (o_mv hti0 ?_))))
  refine o_mv (v := (vi x1)) rfl ?_
  refine c_nil (c_r (o_mv h5 ?_))
  refine o_mv (v := (vi x1)) rfl ?_
  refine o_bsl (s := Sh.int) (us := [vi x1]) (qs := [(0, 1, (vi x1))]) (xs := [x1]) s3 Sh.flat_lt rfl rfl rfl (Els.cons (c := [vi x1]) rfl Els.nil) rfl rfl fun w2 H4 s5 => ?_
  obtain ⟨x3, q9, e1⟩ := oB e1
  refine o_app 1 s5 rfl Sh.flat_lt rfl rfl rfl rfl (s5.curS (s := Sh.int) 0 rfl) pR (fun h => h) (by decide) q9 fun w3 H5 s6 => ?_
  refine o_mv (v := w3) rfl ?_
  refine c_nil (c_end (c_r (o_add hti0 rfl ?_)))
  refine o_mv (v := (vi (Pu.W (x1 + 1)))) rfl ?_
  refine c_nil ?_
  obtain rfl := oJ e1
  exact k2 _ _ ⟨(iv rfl (w_sucR q3 q7)), _, _, _, g2, (s6.pick [1] rfl), h4, rfl, h6, h7⟩
 obtain ⟨hte0, Z3, V3, w4, g3, s7, h8, h9, h10, h11⟩ := jd
 refine c_sr (o_lss hte0 h11 (c_nil (c_sq ?_)))
 refine c_iff rfl (ran_done _) ?_
 refine c_ex ?_
 refine e_c ?_
 refine e_c ?_
 refine e_h ?_
 refine c_sr ?_
 refine o_mv (v := (vi 0)) rfl ?_
 refine c_nil (c_sq ?_)
 obtain ⟨y2, q12, e⟩ := oB e
 refine c_jn (I := fun tm H => ∃ (s10 : ((List Int) × (List Int) × Int)), y2 = .out s10 ∧ (∃ (Z5 V5 : PH) (w7 : Value) (w8 : Value), Gw Z3 V3 Z5 V5 ∧ Sat Z5 V5 H [It.sl Sh.int w7 s10.1, It.sl Sh.int w8 s10.2.1] ∧ tm 1 = v1 ∧ tm 7 = w7 ∧ tm 8 = w8 ∧ tm 10 = (vi s10.2.2))) (fun k6 => ?_) ?_
 ·refine c_bk ?_
  refine l_whl (fun (s8 : ((List Int) × (List Int) × Int)) tm H => ∃ (Z4 V4 : PH) (w5 : Value) (w6 : Value), Gw Z3 V3 Z4 V4 ∧ Sat Z4 V4 H [It.sl Sh.int w5 s8.1, It.sl Sh.int w6 s8.2.1] ∧ tm 1 = v1 ∧ tm 7 = w5 ∧ tm 8 = w6 ∧ tm 10 = (vi s8.2.2)) (fun s8 y3 tm H8 j2 e2 k3 k4 k5 => ?_) q12 ⟨_, _, _, _, Gw.refl _ _, ((s7.push (sl_nil (s := Sh.int))).pick [1, 0] rfl), h8, h9, h10, rfl⟩
  obtain ⟨Z4, V4, w5, w6, g4, s9, h12, h13, h14, h15⟩ := j2
  unfold P.draw_Order.b1 at e2
  refine c_sq (c_sr (o_mv h13 ?_))
  refine o_len rfl ((s9.curS (s := Sh.int) 0 rfl)).len ?_
  refine o_gtr rfl rfl (c_nil ?_)
  refine c_ifd rfl (fun q13 => ?_) (fun q13 => ?_)
  ·replace e2 := if_t q13 e2
   refine c_sk (c_bk (c_sr (o_mv h13 ?_)))
   refine o_len rfl ((s9.curS (s := Sh.int) 0 rfl)).len ?_
   refine o_mv h12 (o_mv h15 ?_)
   obtain ⟨x5, q14, e2⟩ := oB e2
   refine o_slcl rfl rfl (hp1.mono (g1.trans (g3.trans g4)).v) s9.v rfl q14 fun w9 h20 => ?_
   obtain ⟨x6, q15, e2⟩ := oB e2
   obtain ⟨Z6, V6, W1, g6, u1, c1, c2, -, c4, c3⟩ := Sat.call (l1 := []) s9
   refine o_call (mc rfl (mc rfl m0)) (X.draw_Number nd.draw_Number c1 (h20.mono (g6.v.trans u1)) q15) fun _ H10 i4 => ?_
   obtain ⟨rfl, s12⟩ := i4
   have s13 := c3 _ _ s12
   refine o_mv (v := (.tuple #[vi x6.1, vi x6.2.1, vi x6.2.2])) rfl ?_
   refine o_ext rfl rfl (o_ext rfl rfl (o_ext rfl rfl ?_))
   refine o_mv (v := (vi x6.1)) rfl ?_
   refine o_mv (v := (vi x6.2.1)) rfl ?_
   refine o_mv (v := (vi x6.2.2)) rfl ?_
   refine c_nil ?_
   refine c_gen (P := fun tm => tm 1 = v1 ∧ tm 7 = w5 ∧ tm 8 = w6 ∧ tm 10 = (vi s8.2.2) ∧ tm 11 = (vi x6.1) ∧ tm 12 = (vi x6.2.1) ∧ tm 13 = (vi x6.2.2) ∧ True) ⟨h12, h13, h14, h15, rfl, rfl, rfl, trivial⟩ ?_
   intro _ i5
   obtain ⟨h21, h22, h23, h24, h25, h26, h27, -⟩ := i5
   refine c_sq (c_sr (o_mv h27 (o_neq rfl rfl (c_nil ?_))))
   refine c_ifd rfl (fun q16 => ?_) (fun q16 => ?_)
   ·replace e2 := if_t q16 e2
    refine c_sr (o_mv h27 ?_)
    refine o_mv (v := (.slice none 0 0)) rfl ?_
    refine o_mv (v := (vi 0)) rfl ?_
    refine o_mv (v := (vi x6.2.2)) rfl ?_
    refine c_nil (c_rt ?_)
    have e3 := fin_r (k5 _ (sJ e2)) e
    obtain rfl := oJ e3
    exact ⟨.inr rfl, _, (ar3 rfl rfl rfl), _, rfl, (((s13.push (sl_nil (s := Sh.int))).pick [0] rfl).weak (g1.trans (g3.trans (g4.trans g6))) hs.zv)⟩
   replace e2 := if_f q16 e2
   refine c_sk (c_sr (o_mv h24 (o_mv h26 (o_add rfl rfl ?_))))
   refine o_mv (v := (vi (Pu.W (s8.2.2 + x6.2.1)))) rfl ?_
   refine c_nil (c_sr (o_mv h23 (o_mv h22 (o_mv h25 ?_))))
   obtain ⟨x7, q17, e2⟩ := oB e2
   refine o_idx (v := w5) rfl rfl (s13.curS (s := Sh.int) 0 rfl) rfl q17 fun p1 q18 => ?_
   refine o_ldi rfl (s13.curS (s := Sh.int) 0 rfl) pR q18 q17 ?_
   refine o_bsl (s := Sh.int) (us := [vi x7]) (qs := [(0, 1, (vi x7))]) (xs := [x7]) s13 Sh.flat_lt rfl rfl rfl (Els.cons (c := [vi x7]) rfl Els.nil) rfl rfl fun w10 H11 s14 => ?_
   obtain ⟨x8, q19, e2⟩ := oB e2
   refine o_app 2 s14 rfl Sh.flat_lt rfl rfl rfl rfl (s14.curS (s := Sh.int) 0 rfl) pR (fun h => h) (by decide) q19 fun w11 H12 s15 => ?_
   refine o_mv (v := w11) rfl ?_
   refine c_nil ?_
   refine c_gen (P := fun tm => tm 1 = v1 ∧ tm 7 = w5 ∧ tm 8 = w11 ∧ tm 10 = (vi (Pu.W (s8.2.2 + x6.2.1))) ∧ tm 11 = (vi x6.1) ∧ True) ⟨h21, h22, rfl, rfl, h25, trivial⟩ ?_
   intro _ i6
   obtain ⟨h28, h29, h30, h31, h32, -⟩ := i6
   refine d_start s15 fun n1 H13 s16 q20 d1 => ?_
   refine d_mv h29 ?_
   refine d_mv h32 ?_
   obtain ⟨x9, q21, e2⟩ := oB e2
   refine d_slchX ((s16.curS 1 rfl).low pR q20) rfl rfl (s16.curS (s := Sh.int) 1 rfl) pR rfl q21 fun w12 h33 h34 => ?_
   refine d_mv h29 ?_
   refine d_mv h32 ?_
   refine d_add rfl rfl ?_
   obtain ⟨x10, q22, e2⟩ := oB e2
   refine d_slclX ((s16.curS 1 rfl).low pR q20) rfl rfl (s16.curS (s := Sh.int) 1 rfl) pR rfl q22 fun w13 h35 h36 => ?_
   have s17 := Sat.conv (u := It.sl Sh.int w12 x9) 1 rfl (fun F h _ q => h34.1 F h q) s16
   obtain ⟨x11, q23, e2⟩ := oB e2
   refine d_app 1 s17 rfl Sh.flat_lt rfl rfl rfl rfl h35 pR (fun h => h) (by decide) q23 fun w14 H14 s18 k7 => ?_
   have d2 := d1.keep k7
   refine d_mv (v := w14) rfl ?_
   refine d_nil dc_nil ?_
   refine c_end ?_
   exact k3 _ _ _ (sJ e2) ⟨_, _, _, _, (g4.trans g6), (s18.pick [1, 2] rfl), h28, rfl, h30, h31⟩
  replace e2 := if_f q13 e2
  refine c_ex ?_
  refine e_c ?_
  refine e_c ?_
  refine e_h ?_
  exact k6 _ _ ⟨_, k4 _ (sJ e2), _, _, _, _, g4, s9, h12, h13, h14, h15⟩
 intro _ H9 i7
 obtain ⟨s10, f1, Z5, V5, w7, w8, g5, s11, h16, h17, h18, h19⟩ := i7
 replace e := fin_o f1 e
 refine c_sr (o_mv h18 (o_mv h19 ?_))
 refine o_mv (v := w8) rfl ?_
 refine o_mv (v := (vi s10.2.2)) rfl ?_
 refine o_mv (v := (vi 0)) rfl ?_
 refine c_nil (c_rt ?_)
 obtain rfl := oJ e
 exact ⟨.inr rfl, _, (ar3 rfl rfl rfl), _, rfl, ((s11.pick [1] rfl).weak (g1.trans (g3.trans g5)) hs.zv)⟩
/-! slices_Clone_int_int -/
structure Nd.slices_Clone_int_int (T : FuncId → Option AFunc) : Prop where
  own : Has T I.slices_Clone_int_int F.slices_Clone_int_int
set_option maxHeartbeats 1000000 in
theorem X.slices_Clone_int_int {T : FuncId → Option AFunc} (nd : Nd.slices_Clone_int_int T) {Z V : PH} {H : Hp} {v1 : Value} {a0 : (List Int)} (hs : Sat Z V H []) (hp1 : RdS Sh.int V v1 a0) {r : (List Int)} (e : P.slices_Clone_int_int a0 = some r) :
    G T I.slices_Clone_int_int [v1] H (fun rv H' => ∃ (u1 : Value), rv = u1 ∧ Sat Z V H' [It.sl Sh.int u1 r]) := by
 unfold P.slices_Clone_int_int at e
 refine f_mk nd.own ?_
 refine c_sr ?_
 refine o_mv (v := (.slice none 0 0)) rfl ?_
 refine c_nil (c_sq (c_sr ?_))
 refine o_mv (v := v1) rfl ?_
 have h1 := hp1
 rcases h1 with ⟨rfl, rfl⟩ | ⟨b0, o0, us0, x0, rfl, hn0⟩
 ·refine o_eq (p := true) rfl rfl rfl ?_
  have e1 : some [] = some r := by simpa [Pu.app] using e
  refine c_nil (c_bt rfl (c_sr ?_))
  refine o_mv (v := (.slice none 0 0)) rfl ?_
  refine c_nil (c_rt ?_)
  obtain rfl := oJ e1
  exact ⟨.inr rfl, _, (ar1 rfl), _, rfl, (hs.push (sl_nil (s := Sh.int)))⟩
 refine o_eq (p := false) rfl rfl rfl ?_
 refine c_nil (c_bf rfl (c_sk (c_sr ?_)))
 refine o_bsl (s := Sh.int) (us := []) (qs := []) (xs := []) hs Sh.flat_lt rfl rfl rfl Els.nil rfl rfl fun w1 H1 s1 => ?_
 refine o_mv (v := (.slice (some ⟨b0, o0, none⟩) a0.length a0.length)) rfl ?_
 obtain ⟨x1, q1, e⟩ := oB e
 refine o_app 0 s1 rfl Sh.flat_lt rfl rfl rfl rfl hp1 s1.v (fun h => h) (by decide) q1 fun w2 H2 s2 => ?_
 refine o_mv (v := w2) rfl ?_
 refine c_nil (c_rt ?_)
 obtain rfl := oJ e
 exact ⟨.inr rfl, _, (ar1 rfl), _, rfl, s2⟩
/-! cmp_isNaN_int -/
structure Nd.cmp_isNaN_int (T : FuncId → Option AFunc) : Prop where
  own : Has T I.cmp_isNaN_int F.cmp_isNaN_int
set_option maxHeartbeats 1000000 in
theorem X.cmp_isNaN_int {T : FuncId → Option AFunc} (nd : Nd.cmp_isNaN_int T) {Z V : PH} {H : Hp} {a0 : Int} (hs : Sat Z V H []) {r : Bool} (e : P.cmp_isNaN_int a0 = some r) :
    G T I.cmp_isNaN_int [vi a0] H (fun rv H' => rv = (.bool r) ∧ Sat Z V H' []) := by
 unfold P.cmp_isNaN_int at e
 refine f_mk nd.own ?_
 refine c_sr ?_
 refine o_mv (v := (.bool false)) rfl ?_
 refine c_nil (c_sr ?_)
 refine o_mv (v := (vi a0)) rfl ?_
 refine o_mv (v := (vi a0)) rfl ?_
 refine o_neq rfl rfl ?_
 refine o_mv (v := (.bool (decide (a0 ≠ a0)))) rfl ?_
 refine c_nil (c_rt ?_)
 obtain rfl := oJ e
 exact ⟨.inr rfl, _, (ar1 rfl), rfl, hs⟩
/-! cmp_Less_int -/
structure Nd.cmp_Less_int (T : FuncId → Option AFunc) : Prop where
  own : Has T I.cmp_Less_int F.cmp_Less_int
  cmp_isNaN_int : Nd.cmp_isNaN_int T
set_option maxHeartbeats 1000000 in
theorem X.cmp_Less_int {T : FuncId → Option AFunc} (nd : Nd.cmp_Less_int T) {Z V : PH} {H : Hp} {a0 : Int} {a1 : Int} (hs : Sat Z V H []) {r : Bool} (e : P.cmp_Less_int a0 a1 = some r) :
    G T I.cmp_Less_int [vi a0, vi a1] H (fun rv H' => rv = (.bool r) ∧ Sat Z V H' []) := by
 unfold P.cmp_Less_int at e
 refine f_mk nd.own ?_
 refine c_sr ?_
 refine o_mv (v := (.bool false)) rfl ?_
 refine c_nil (c_sr ?_)
 refine o_mv (v := (vi a0)) rfl ?_
 obtain ⟨x1, q1, e⟩ := oB e
 obtain ⟨Z1, V1, W1, g1, u1, c1, c2, -, c4, c3⟩ := Sat.call (l1 := []) hs
 refine o_call (mc rfl m0) (X.cmp_isNaN_int nd.cmp_isNaN_int c1 q1) fun _ H1 i1 => ?_
 obtain ⟨rfl, s1⟩ := i1
 have s2 := c3 _ _ s1
 refine o_mv (v := (.bool x1)) rfl ?_
 obtain ⟨y1, e1, e⟩ := oB e
 refine o_jn 4 (I := fun tm H => ∃ (Z2 V2 : PH), Gw Z1 V1 Z2 V2 ∧ Sat Z2 V2 H [] ∧ tm 0 = (vi a0) ∧ tm 1 = (vi a1) ∧ tm 11 = (.bool y1)) (fun k1 => ?_) ?_
 ·rcases Bool.eq_false_or_eq_true x1 with q2 | q2
  ·replace e1 := if_t q2 e1
   refine o_gy rfl q2 ?_
   refine o_mv (v := (vi a1)) rfl ?_
   refine o_gy rfl q2 ?_
   obtain ⟨x2, q3, e1⟩ := oB e1
   obtain ⟨Z3, V3, W2, g3, u2, c5, c6, -, c8, c7⟩ := Sat.call (l1 := []) s2
   refine o_call (mc rfl m0) (X.cmp_isNaN_int nd.cmp_isNaN_int c5 q3) fun _ H3 i2 => ?_
   obtain ⟨rfl, s4⟩ := i2
   have s5 := c7 _ _ s4
   refine o_gy rfl q2 (o_not rfl ?_)
   refine o_pickt (a := (.bool (!x2))) rfl q2 rfl ?_
   obtain rfl := oJ e1
   exact k1 _ _ ⟨_, _, g3, s5, rfl, rfl, rfl⟩
  replace e1 := ib_f q2 e1
  refine o_gn rfl q2 (o_gn rfl q2 (o_gn rfl q2 ?_))
  refine o_pickf (b := (.bool false)) rfl q2 rfl ?_
  obtain rfl := oJ e1
  exact k1 _ _ ⟨_, _, Gw.refl _ _, s2, rfl, rfl, rfl⟩
 intro _ H2 i3
 obtain ⟨Z2, V2, g2, s3, h1, h2, h3⟩ := i3
 refine o_mv h3 ?_
 refine o_jn 4 (I := fun tm H => tm 16 = .bool (y1 || (decide (a0 < a1))) ∧ (∃ (Z4 V4 : PH), Gw Z2 V2 Z4 V4 ∧ Sat Z4 V4 H [])) (fun k2 => ?_) ?_
 ·rcases Bool.eq_false_or_eq_true y1 with q4 | q4
  ·refine o_gn rfl q4 (o_gn rfl q4 (o_gn rfl q4 ?_))
   refine o_pickt (a := (.bool true)) rfl q4 rfl ?_
   exact k2 _ _ ⟨gf rfl (by first | (rw [q4]; first | done | rfl) | simp [q4]), _, _, Gw.refl _ _, s3⟩
  refine o_gy rfl q4 (o_mv h1 (o_gy rfl q4 (o_mv h2 (o_gy rfl q4 ?_))))
  refine o_lss rfl rfl ?_
  refine o_pickf (b := (.bool (decide (a0 < a1)))) rfl q4 rfl ?_
  exact k2 _ _ ⟨gf rfl (by first | (rw [q4]; first | done | rfl) | simp [q4]), _, _, Gw.refl _ _, s3⟩
 intro _ H4 i4
 obtain ⟨h4, Z4, V4, g4, s6⟩ := i4
 refine o_mv h4 (c_nil (c_rt ?_))
 obtain rfl := oJ e
 exact ⟨.inr rfl, _, (ar1 rfl), rfl, (s6.weak (g1.trans (g2.trans g4)) hs.zv)⟩
/-! slices_insertionSortOrdered_int -/
structure Nd.slices_insertionSortOrdered_int (T : FuncId → Option AFunc) : Prop where
  own : Has T I.slices_insertionSortOrdered_int F.slices_insertionSortOrdered_int
  cmp_Less_int : Nd.cmp_Less_int T
set_option maxHeartbeats 1000000 in
theorem X.slices_insertionSortOrdered_int {T : FuncId → Option AFunc} (nd : Nd.slices_insertionSortOrdered_int T) {φ : Nat} {Z V : PH} {H : Hp} {v1 : Value} {a0 : (List Int)} {a1 : Int} {a2 : Int} (hs : Sat Z V H [It.sl Sh.int v1 a0]) {r : (List Int)} (e : P.slices_insertionSortOrdered_int φ a0 a1 a2 = some r) :
    G T I.slices_insertionSortOrdered_int [v1, vi a1, vi a2] H (fun rv H' => rv = undef ∧ Sat Z V H' [It.sl Sh.int v1 r]) := by
 unfold P.slices_insertionSortOrdered_int at e
 refine f_mk nd.own ?_
 refine c_sr ?_
 refine o_mv (v := (vi a1)) rfl ?_
 refine o_add rfl rfl ?_
 refine o_mv (v := (vi (Pu.W (a1 + 1)))) rfl ?_
 refine c_nil ?_
 obtain ⟨y1, q3, e⟩ := oB e
 refine c_jn (I := fun tm H => ∃ (s3 : ((List Int) × Int)), y1 = .out s3 ∧ (∃ (Z2 V2 : PH), Gw Z V Z2 V2 ∧ Sat Z2 V2 H [It.sl Sh.int v1 s3.1] ∧ tm 0 = v1 ∧ tm 1 = (vi a1) ∧ tm 2 = (vi a2) ∧ tm 6 = (vi s3.2))) (fun k4 => ?_) ?_
 ·refine c_bk ?_
  refine l_whl (fun (s1 : ((List Int) × Int)) tm H => ∃ (Z1 V1 : PH), Gw Z V Z1 V1 ∧ Sat Z1 V1 H [It.sl Sh.int v1 s1.1] ∧ tm 0 = v1 ∧ tm 1 = (vi a1) ∧ tm 2 = (vi a2) ∧ tm 6 = (vi s1.2)) (fun s1 y2 tm H2 j1 e1 k1 k2 k3 => ?_) q3 ⟨_, _, Gw.refl _ _, hs, rfl, rfl, rfl, rfl⟩
  obtain ⟨Z1, V1, g1, s2, h1, h2, h3, h4⟩ := j1
  unfold P.slices_insertionSortOrdered_int.b0 at e1
  refine c_sq (c_sr (o_mv h4 (o_mv h3 (o_lss rfl rfl ?_))))
  refine c_nil ?_
  refine c_ifd rfl (fun q4 => ?_) (fun q4 => ?_)
  ·replace e1 := if_t q4 e1
   refine c_sk (c_sq (c_bk (c_sr (o_mv h4 ?_))))
   refine o_mv (v := (vi s1.2)) rfl ?_
   refine c_nil ?_
   obtain ⟨y3, q7, e1⟩ := oB e1
   refine c_jn (I := fun tm H => ∃ (s7 : ((List Int) × Int)), y3 = .out s7 ∧ (∃ (Z4 V4 : PH), Gw Z1 V1 Z4 V4 ∧ Sat Z4 V4 H [It.sl Sh.int v1 s7.1] ∧ tm 0 = v1 ∧ tm 1 = (vi a1) ∧ tm 2 = (vi a2) ∧ tm 6 = (vi s1.2) ∧ tm 7 = (vi s7.2))) (fun k8 => ?_) ?_
   ·refine c_bk ?_
    refine l_whl (fun (s5 : ((List Int) × Int)) tm H => ∃ (Z3 V3 : PH), Gw Z1 V1 Z3 V3 ∧ Sat Z3 V3 H [It.sl Sh.int v1 s5.1] ∧ tm 0 = v1 ∧ tm 1 = (vi a1) ∧ tm 2 = (vi a2) ∧ tm 6 = (vi s1.2) ∧ tm 7 = (vi s5.2)) (fun s5 y4 tm H5 j2 e2 k5 k6 k7 => ?_) q7 ⟨_, _, Gw.refl _ _, s2, h1, h2, h3, h4, rfl⟩
    obtain ⟨Z3, V3, g3, s6, h9, h10, h11, h12, h13⟩ := j2
    unfold P.slices_insertionSortOrdered_int.b1 at e2
    refine c_sq (c_sq ?_)
    refine d_start s6 fun n1 H7 s9 q8 d1 => ?_
    refine d_mv h13 ?_
    refine d_mv h10 ?_
    refine d_gtr rfl rfl ?_
    refine d_mv (v := (.bool (decide (a1 < s5.2)))) rfl ?_
    obtain ⟨y5, e3, e2⟩ := oB e2
    refine d_jn 11 (I := fun tm H => DD n1 15 (List.length F.slices_insertionSortOrdered_int.r4) H ∧ (∃ (Z5 V5 : PH), Gw Z3 V3 Z5 V5 ∧ Sat Z5 V5 H [It.sl Sh.int v1 s5.1] ∧ tm 0 = v1 ∧ tm 1 = (vi a1) ∧ tm 2 = (vi a2) ∧ tm 6 = (vi s1.2) ∧ tm 7 = (vi s5.2) ∧ tm 30 = (.bool y5))) (fun k9 => ?_) ?_
    ·rcases Bool.eq_false_or_eq_true (decide (a1 < s5.2)) with q9 | q9
     ·replace e3 := if_t q9 e3
      refine d_want rfl q9 ?_
      refine d_mv h9 ?_
      refine d_want rfl q9 ?_
      refine d_mv h13 ?_
      refine d_want rfl q9 ?_
      obtain ⟨x3, q10, e3⟩ := oB e3
      refine d_idx (v := v1) rfl rfl (s9.curS (s := Sh.int) 0 rfl) rfl q10 fun p1 q11 => ?_
      refine d_want rfl q9 ?_
      refine d_ldi ((s9.curS 0 rfl).low pR q8) rfl (s9.curS (s := Sh.int) 0 rfl) pR q11 q10 ?_
      have h25 := vl_ik (s9.curS (s := Sh.int) 0 rfl) pR q11 q10
      refine d_want rfl q9 ?_
      refine d_mv h9 ?_
      refine d_want rfl q9 ?_
      refine d_mv h13 ?_
      refine d_want rfl q9 ?_
      refine d_sub rfl rfl ?_
      refine d_want rfl q9 ?_
      obtain ⟨x4, q12, e3⟩ := oB e3
      refine d_idx (v := v1) rfl rfl (s9.curS (s := Sh.int) 0 rfl) rfl q12 fun p2 q13 => ?_
      refine d_want rfl q9 ?_
      refine d_ldi ((s9.curS 0 rfl).low pR q8) rfl (s9.curS (s := Sh.int) 0 rfl) pR q13 q12 ?_
      have h26 := vl_ik (s9.curS (s := Sh.int) 0 rfl) pR q13 q12
      refine d_want rfl q9 ?_
      obtain ⟨x5, q14, e3⟩ := oB e3
      obtain ⟨Z6, V6, W1, g6, u1, c1, c2, -, c4, c3⟩ := Sat.call (l1 := []) s9
      refine d_call (mc rfl (mc rfl m0)) (X.cmp_Less_int nd.cmp_Less_int c1 q14) fun _ H9 i3 k10 => ?_
      have d2 := d1.keep k10
      obtain ⟨rfl, s11⟩ := i3
      have s12 := c3 _ _ s11
      have h27 := vl_ik (c2 0 _ Sh.int _ _ rfl) s11.v q11 q10
      have h28 := vl_ik (c2 0 _ Sh.int _ _ rfl) s11.v q13 q12
      refine d_pickt (a := (.bool x5)) rfl q9 rfl ?_
      obtain rfl := oJ e3
      exact k9 _ _ _ ⟨d2.up rfl, _, _, g6, s12, h9, h10, h11, h12, h13, rfl⟩
     replace e3 := ib_f q9 e3
     refine d_gn rfl q9 ?_
     refine d_gn rfl q9 ?_
     refine d_gn rfl q9 ?_
     refine d_gn rfl q9 ?_
     refine d_gn rfl q9 ?_
     refine d_gn rfl q9 ?_
     refine d_gn rfl q9 ?_
     refine d_gn rfl q9 ?_
     refine d_gn rfl q9 ?_
     refine d_gn rfl q9 ?_
     refine d_pickf (b := (.bool false)) rfl q9 rfl ?_
     obtain rfl := oJ e3
     exact k9 _ _ _ ⟨d1.up rfl, _, _, Gw.refl _ _, s9, h9, h10, h11, h12, h13, rfl⟩
    intro _ H8 _ i4
    obtain ⟨d3, Z5, V5, g5, s10, h19, h20, h21, h22, h23, h24⟩ := i4
    refine d_nil dc_nil ?_
    refine c_if h24 (fun q15 => ?_) (fun q15 => ?_)
    ·replace e2 := if_t q15 e2
     refine c_sk (c_sq (c_bk ?_))
     refine d_start s10 fun n2 H10 s13 q16 d4 => ?_
     refine d_mv h19 ?_
     refine d_mv h23 ?_
     refine d_mv h19 ?_
     refine d_mv h23 ?_
     refine d_sub rfl rfl ?_
     refine d_mv h19 ?_
     refine d_mv h23 ?_
     refine d_sub rfl rfl ?_
     obtain ⟨x6, q17, e2⟩ := oB e2
     refine d_idx (v := v1) rfl rfl (s13.curS (s := Sh.int) 0 rfl) rfl q17 fun p3 q18 => ?_
     refine d_ldi ((s13.curS 0 rfl).low pR q16) rfl (s13.curS (s := Sh.int) 0 rfl) pR q18 q17 ?_
     have h29 := vl_ik (s13.curS (s := Sh.int) 0 rfl) pR q18 q17
     refine d_mv h19 ?_
     refine d_mv h23 ?_
     obtain ⟨x7, q19, e2⟩ := oB e2
     refine d_idx (v := v1) rfl rfl (s13.curS (s := Sh.int) 0 rfl) rfl q19 fun p4 q20 => ?_
     refine d_ldi ((s13.curS 0 rfl).low pR q16) rfl (s13.curS (s := Sh.int) 0 rfl) pR q20 q19 ?_
     have h30 := vl_ik (s13.curS (s := Sh.int) 0 rfl) pR q20 q19
     obtain ⟨x8, q21, e2⟩ := oB e2
     refine d_idx (v := v1) rfl rfl (s13.curS (s := Sh.int) 0 rfl) rfl q21 fun p5 q22 => ?_
     refine d_st 0 s13 rfl Sh.flat_lt rfl rfl rfl q22 q21 rfl rfl fun H11 s14 k11 => ?_
     have d5 := d4.keep k11
     obtain ⟨x9, q23, e2⟩ := oB e2
     refine d_idx (v := v1) rfl rfl (s14.curS (s := Sh.int) 0 rfl) rfl q23 fun p6 q24 => ?_
     refine d_st 0 s14 rfl Sh.flat_lt rfl rfl rfl q24 q23 rfl rfl fun H12 s15 k12 => ?_
     have d6 := d5.keep k12
     refine d_nil dc_nil ?_
     refine c_end (c_r (o_mv h23 (o_sub rfl rfl ?_)))
     refine o_mv (v := (vi (Pu.W (s5.2 - 1)))) rfl ?_
     refine c_nil ?_
     exact k5 _ _ _ (sJ e2) ⟨_, _, (g3.trans g5), s15, h19, h20, h21, h22, rfl⟩
    replace e2 := ib_f q15 e2
    refine c_ex ?_
    refine e_c ?_
    refine e_c ?_
    refine e_h ?_
    exact k8 _ _ ⟨_, k6 _ (sJ e2), _, _, (g3.trans g5), s10, h19, h20, h21, h22, h23⟩
   intro _ H6 i5
   obtain ⟨s7, f1, Z4, V4, g4, s8, h14, h15, h16, h17, h18⟩ := i5
   replace e1 := fin_o f1 e1
   refine c_end (c_r (o_mv h17 (o_add rfl rfl ?_)))
   refine o_mv (v := (vi (Pu.W (s1.2 + 1)))) rfl ?_
   refine c_nil ?_
   exact k1 _ _ _ (sJ e1) ⟨_, _, (g1.trans g4), s8, h14, h15, h16, rfl⟩
  replace e1 := if_f q4 e1
  refine c_ex ?_
  refine e_c ?_
  refine e_c ?_
  refine e_h ?_
  exact k4 _ _ ⟨_, k2 _ (sJ e1), _, _, g1, s2, h1, h2, h3, h4⟩
 intro _ H3 i6
 obtain ⟨s3, f2, Z2, V2, g2, s4, h5, h6, h7, h8⟩ := i6
 replace e := fin_o f2 e
 obtain rfl := oJ e
 refine c_done ?_
 exact ⟨.inl rfl, _, rfl, rfl, (s4.weak g2 hs.zv)⟩
/-! math_bits_Len32 -/
structure Nd.math_bits_Len32 (T : FuncId → Option AFunc) : Prop where
  own : Has T I.math_bits_Len32 F.math_bits_Len32
set_option maxHeartbeats 1000000 in
theorem X.math_bits_Len32 {T : FuncId → Option AFunc} (nd : Nd.math_bits_Len32 T) {Z V : PH} {H : Hp} {a0 : Int} (hs : Sat Z V H []) {r : Int} (e : P.math_bits_Len32 a0 = some r) :
    G T I.math_bits_Len32 [(.int .u32 a0)] H (fun rv H' => rv = (vi r) ∧ Sat Z V H' []) := by
 unfold P.math_bits_Len32 at e
 refine f_mk nd.own ?_
 refine c_sr ?_
 refine o_mv (v := (vi 0)) rfl ?_
 refine c_nil (c_sq (c_sr ?_))
 refine o_mv (v := (.int .u32 a0)) rfl ?_
 refine o_geq rfl rfl (c_nil ?_)
 obtain ⟨y1, e1, e⟩ := oB e
 refine c_jn (I := fun tm H => ∃ (Z1 V1 : PH), Gw Z V Z1 V1 ∧ Sat Z1 V1 H [] ∧ tm 0 = (.int .u32 y1.1) ∧ tm 2 = (vi y1.2)) (fun k1 => ?_) ?_
 ·refine c_ifd rfl (fun q1 => ?_) (fun q1 => ?_)
  ·replace e1 := if_t q1 e1
   refine c_sr ?_
   refine o_mv (v := (.int .u32 a0)) rfl ?_
   obtain ⟨x1, q2, e1⟩ := oB e1
   refine o_shr rfl rfl q2 ?_
   refine o_mv (v := (.int .u32 x1)) rfl ?_
   refine c_nil (c_r ?_)
   refine o_mv (v := (vi 16)) rfl ?_
   refine c_nil ?_
   obtain rfl := oJ e1
   exact k1 _ _ ⟨_, _, Gw.refl _ _, hs, rfl, rfl⟩
  replace e1 := if_f q1 e1
  refine c_sk ?_
  obtain rfl := oJ e1
  exact k1 _ _ ⟨_, _, Gw.refl _ _, hs, rfl, rfl⟩
 intro _ H1 i1
 obtain ⟨Z1, V1, g1, s1, h1, h2⟩ := i1
 refine c_sq (c_sr (o_mv h1 (o_geq rfl rfl (c_nil ?_))))
 obtain ⟨y2, e2, e⟩ := oB e
 refine c_jn (I := fun tm H => ∃ (Z2 V2 : PH), Gw Z1 V1 Z2 V2 ∧ Sat Z2 V2 H [] ∧ tm 0 = (.int .u32 y2.1) ∧ tm 2 = (vi y2.2)) (fun k2 => ?_) ?_
 ·refine c_ifd rfl (fun q3 => ?_) (fun q3 => ?_)
  ·replace e2 := if_t q3 e2
   refine c_sr (o_mv h1 ?_)
   obtain ⟨x2, q4, e2⟩ := oB e2
   refine o_shr rfl rfl q4 ?_
   refine o_mv (v := (.int .u32 x2)) rfl ?_
   refine c_nil (c_r (o_mv h2 (o_add rfl rfl ?_)))
   refine o_mv (v := (vi (Pu.W (y1.2 + 8)))) rfl ?_
   refine c_nil ?_
   obtain rfl := oJ e2
   exact k2 _ _ ⟨_, _, Gw.refl _ _, s1, rfl, rfl⟩
  replace e2 := if_f q3 e2
  refine c_sk ?_
  obtain rfl := oJ e2
  exact k2 _ _ ⟨_, _, Gw.refl _ _, s1, h1, h2⟩
 intro _ H2 i2
 obtain ⟨Z2, V2, g2, s2, h3, h4⟩ := i2
 refine c_sr (o_mv h4 (o_mv h3 (o_conv rfl ?_)))
 obtain ⟨x3, q5, e⟩ := oB e
 refine o_sidx rfl rfl q5 (o_conv rfl (o_add rfl rfl ?_))
 refine o_mv (v := (vi (Pu.W (y2.2 + (Pu.W x3))))) rfl ?_
 refine c_nil (c_rt ?_)
 obtain rfl := oJ e
 exact ⟨.inr rfl, _, (ar1 rfl), rfl, (s2.weak (g1.trans g2) hs.zv)⟩
/-! math_bits_Len64 -/
structure Nd.math_bits_Len64 (T : FuncId → Option AFunc) : Prop where
  own : Has T I.math_bits_Len64 F.math_bits_Len64
set_option maxHeartbeats 1000000 in
theorem X.math_bits_Len64 {T : FuncId → Option AFunc} (nd : Nd.math_bits_Len64 T) {Z V : PH} {H : Hp} {a0 : Int} (hs : Sat Z V H []) {r : Int} (e : P.math_bits_Len64 a0 = some r) :
    G T I.math_bits_Len64 [(.int .u64 a0)] H (fun rv H' => rv = (vi r) ∧ Sat Z V H' []) := by
 unfold P.math_bits_Len64 at e
 refine f_mk nd.own ?_
 refine c_sr ?_
 refine o_mv (v := (vi 0)) rfl ?_
 refine c_nil (c_sq (c_sr ?_))
 refine o_mv (v := (.int .u64 a0)) rfl ?_
 refine o_geq rfl rfl (c_nil ?_)
 obtain ⟨y1, e1, e⟩ := oB e
 refine c_jn (I := fun tm H => ∃ (Z1 V1 : PH), Gw Z V Z1 V1 ∧ Sat Z1 V1 H [] ∧ tm 0 = (.int .u64 y1.1) ∧ tm 2 = (vi y1.2)) (fun k1 => ?_) ?_
 ·refine c_ifd rfl (fun q1 => ?_) (fun q1 => ?_)
  ·replace e1 := if_t q1 e1
   refine c_sr ?_
   refine o_mv (v := (.int .u64 a0)) rfl ?_
   obtain ⟨x1, q2, e1⟩ := oB e1
   refine o_shr rfl rfl q2 ?_
   refine o_mv (v := (.int .u64 x1)) rfl ?_
   refine c_nil (c_r ?_)
   refine o_mv (v := (vi 32)) rfl ?_
   refine c_nil ?_
   obtain rfl := oJ e1
   exact k1 _ _ ⟨_, _, Gw.refl _ _, hs, rfl, rfl⟩
  replace e1 := if_f q1 e1
  refine c_sk ?_
  obtain rfl := oJ e1
  exact k1 _ _ ⟨_, _, Gw.refl _ _, hs, rfl, rfl⟩
 intro _ H1 i1
 obtain ⟨Z1, V1, g1, s1, h1, h2⟩ := i1
 refine c_sq (c_sr (o_mv h1 (o_geq rfl rfl (c_nil ?_))))
 obtain ⟨y2, e2, e⟩ := oB e
 refine c_jn (I := fun tm H => ∃ (Z2 V2 : PH), Gw Z1 V1 Z2 V2 ∧ Sat Z2 V2 H [] ∧ tm 0 = (.int .u64 y2.1) ∧ tm 2 = (vi y2.2)) (fun k2 => ?_) ?_
 ·refine c_ifd rfl (fun q3 => ?_) (fun q3 => ?_)
  ·replace e2 := if_t q3 e2
   refine c_sr (o_mv h1 ?_)
   obtain ⟨x2, q4, e2⟩ := oB e2
   refine o_shr rfl rfl q4 ?_
   refine o_mv (v := (.int .u64 x2)) rfl ?_
   refine c_nil (c_r (o_mv h2 (o_add rfl rfl ?_)))
   refine o_mv (v := (vi (Pu.W (y1.2 + 16)))) rfl ?_
   refine c_nil ?_
   obtain rfl := oJ e2
   exact k2 _ _ ⟨_, _, Gw.refl _ _, s1, rfl, rfl⟩
  replace e2 := if_f q3 e2
  refine c_sk ?_
  obtain rfl := oJ e2
  exact k2 _ _ ⟨_, _, Gw.refl _ _, s1, h1, h2⟩
 intro _ H2 i2
 obtain ⟨Z2, V2, g2, s2, h3, h4⟩ := i2
 refine c_sq (c_sr (o_mv h3 (o_geq rfl rfl (c_nil ?_))))
 obtain ⟨y3, e3, e⟩ := oB e
 refine c_jn (I := fun tm H => ∃ (Z3 V3 : PH), Gw Z2 V2 Z3 V3 ∧ Sat Z3 V3 H [] ∧ tm 0 = (.int .u64 y3.1) ∧ tm 2 = (vi y3.2)) (fun k3 => ?_) ?_
 ·refine c_ifd rfl (fun q5 => ?_) (fun q5 => ?_)
  ·replace e3 := if_t q5 e3
   refine c_sr (o_mv h3 ?_)
   obtain ⟨x3, q6, e3⟩ := oB e3
   refine o_shr rfl rfl q6 ?_
   refine o_mv (v := (.int .u64 x3)) rfl ?_
   refine c_nil (c_r (o_mv h4 (o_add rfl rfl ?_)))
   refine o_mv (v := (vi (Pu.W (y2.2 + 8)))) rfl ?_
   refine c_nil ?_
   obtain rfl := oJ e3
   exact k3 _ _ ⟨_, _, Gw.refl _ _, s2, rfl, rfl⟩
  replace e3 := if_f q5 e3
  refine c_sk ?_
  obtain rfl := oJ e3
  exact k3 _ _ ⟨_, _, Gw.refl _ _, s2, h3, h4⟩
 intro _ H3 i3
 obtain ⟨Z3, V3, g3, s3, h5, h6⟩ := i3
 refine c_sr (o_mv h6 (o_mv h5 (o_conv rfl ?_)))
 obtain ⟨x4, q7, e⟩ := oB e
 refine o_sidx rfl rfl q7 (o_conv rfl (o_add rfl rfl ?_))
 refine o_mv (v := (vi (Pu.W (y3.2 + (Pu.W x4))))) rfl ?_
 refine c_nil (c_rt ?_)
 obtain rfl := oJ e
 exact ⟨.inr rfl, _, (ar1 rfl), rfl, (s3.weak (g1.trans (g2.trans g3)) hs.zv)⟩
/-! math_bits_Len -/
structure Nd.math_bits_Len (T : FuncId → Option AFunc) : Prop where
  own : Has T I.math_bits_Len F.math_bits_Len
  math_bits_Len64 : Nd.math_bits_Len64 T
set_option maxHeartbeats 1000000 in
theorem X.math_bits_Len {T : FuncId → Option AFunc} (nd : Nd.math_bits_Len T) {Z V : PH} {H : Hp} {a0 : Int} (hs : Sat Z V H []) {r : Int} (e : P.math_bits_Len a0 = some r) :
    G T I.math_bits_Len [(.int .u64 a0)] H (fun rv H' => rv = (vi r) ∧ Sat Z V H' []) := by
 unfold P.math_bits_Len at e
 refine f_mk nd.own ?_
 refine c_sr ?_
 refine o_mv (v := (vi 0)) rfl ?_
 refine c_nil (c_sq (c_bf rfl (c_sk (c_sr ?_))))
 refine o_mv (v := (.int .u64 a0)) rfl ?_
 obtain ⟨x1, q1, e⟩ := oB e
 obtain ⟨Z1, V1, W1, g1, u1, c1, c2, -, c4, c3⟩ := Sat.call (l1 := []) hs
 refine o_call (mc rfl m0) (X.math_bits_Len64 nd.math_bits_Len64 c1 q1) fun _ H1 i1 => ?_
 obtain ⟨rfl, s1⟩ := i1
 have s2 := c3 _ _ s1
 refine o_mv (v := (vi x1)) rfl ?_
 refine c_nil (c_rt ?_)
 obtain rfl := oJ e
 exact ⟨.inr rfl, _, (ar1 rfl), rfl, (s2.weak g1 hs.zv)⟩
/-! slices_nextPowerOfTwo -/
structure Nd.slices_nextPowerOfTwo (T : FuncId → Option AFunc) : Prop where
  own : Has T I.slices_nextPowerOfTwo F.slices_nextPowerOfTwo
  math_bits_Len : Nd.math_bits_Len T
set_option maxHeartbeats 1000000 in
theorem X.slices_nextPowerOfTwo {T : FuncId → Option AFunc} (nd : Nd.slices_nextPowerOfTwo T) {Z V : PH} {H : Hp} {a0 : Int} (hs : Sat Z V H []) {r : Int} (e : P.slices_nextPowerOfTwo a0 = some r) :
    G T I.slices_nextPowerOfTwo [vi a0] H (fun rv H' => rv = (.int .u64 r) ∧ Sat Z V H' []) := by
 unfold P.slices_nextPowerOfTwo at e
 refine f_mk nd.own ?_
 refine c_sr ?_
 refine o_mv (v := (.int .u64 0)) rfl ?_
 refine c_nil (c_sr ?_)
 refine o_mv (v := (vi a0)) rfl ?_
 refine o_conv rfl ?_
 obtain ⟨x1, q1, e⟩ := oB e
 obtain ⟨Z1, V1, W1, g1, u1, c1, c2, -, c4, c3⟩ := Sat.call (l1 := []) hs
 refine o_call (mc rfl m0) (X.math_bits_Len nd.math_bits_Len c1 q1) fun _ H1 i1 => ?_
 obtain ⟨rfl, s1⟩ := i1
 have s2 := c3 _ _ s1
 obtain ⟨x2, q2, e⟩ := oB e
 refine o_shl rfl rfl q2 ?_
 refine o_mv (v := (.int .u64 x2)) rfl ?_
 refine c_nil (c_rt ?_)
 obtain rfl := oJ e
 exact ⟨.inr rfl, _, (ar1 rfl), rfl, (s2.weak g1 hs.zv)⟩
/-! slices_xorshift_Next -/
structure Nd.slices_xorshift_Next (T : FuncId → Option AFunc) : Prop where
  own : Has T I.slices_xorshift_Next F.slices_xorshift_Next
set_option maxHeartbeats 1000000 in
theorem X.slices_xorshift_Next {T : FuncId → Option AFunc} (nd : Nd.slices_xorshift_Next T) {Z V : PH} {H : Hp} {o1 : Nat} {a0 : Int} (hs : Sat Z V H [pts o1 (.rw 0 [(.int .u64 a0)])]) {r : (Int × Int)} (e : P.slices_xorshift_Next a0 = some r) :
    G T I.slices_xorshift_Next [(pV o1 0)] H (fun rv H' => rv = (.int .u64 r.2) ∧ Sat Z V H' [pts o1 (.rw 0 [(.int .u64 r.1)])]) := by
 unfold P.slices_xorshift_Next at e
 refine f_mk nd.own ?_
 refine c_sr ?_
 refine o_mv (v := (.int .u64 0)) rfl ?_
 refine c_nil (c_sq ?_)
 refine d_start hs fun n1 H1 s1 q1 d1 => ?_
 refine d_mv (v := (pV o1 0)) rfl ?_
 refine d_nck rfl ?_
 refine d_ldB (q1 _ _ (ph_some.2 ⟨s1.curB 0 rfl, by simp⟩)) 0 s1 rfl rfl rfl rfl ?_
 refine d_mv (v := (pV o1 0)) rfl ?_
 refine d_nck rfl ?_
 refine d_ldB (q1 _ _ (ph_some.2 ⟨s1.curB 0 rfl, by simp⟩)) 0 s1 rfl rfl rfl rfl ?_
 obtain ⟨x1, q2, e⟩ := oB e
 refine d_shl rfl rfl q2 ?_
 refine d_xor rfl rfl ?_
 refine d_nck rfl ?_
 refine d_stB (us' := [(.int .u64 (Pu.bxor .u64 a0 x1))]) 0 s1 rfl rfl rfl rfl rfl rfl rfl fun H2 s2 k1 => ?_
 have d2 := d1.keep k1
 refine d_nil dc_nil ?_
 refine c_gen (P := fun tm => tm 0 = (pV o1 0) ∧ True) ⟨rfl, trivial⟩ ?_
 intro _ i1
 obtain ⟨h1, -⟩ := i1
 refine c_sq ?_
 refine d_start s2 fun n2 H3 s3 q3 d3 => ?_
 refine d_mv h1 ?_
 refine d_nck rfl ?_
 refine d_ldB (q3 _ _ (ph_some.2 ⟨s3.curB 0 rfl, by simp⟩)) 0 s3 rfl rfl rfl rfl ?_
 refine d_mv h1 ?_
 refine d_nck rfl ?_
 refine d_ldB (q3 _ _ (ph_some.2 ⟨s3.curB 0 rfl, by simp⟩)) 0 s3 rfl rfl rfl rfl ?_
 obtain ⟨x2, q4, e⟩ := oB e
 refine d_shr rfl rfl q4 ?_
 refine d_xor rfl rfl ?_
 refine d_nck rfl ?_
 refine d_stB (us' := [(.int .u64 (Pu.bxor .u64 (Pu.bxor .u64 a0 x1) x2))]) 0 s3 rfl rfl rfl rfl rfl rfl rfl fun H4 s4 k2 => ?_
 have d4 := d3.keep k2
 refine d_nil dc_nil ?_
 refine c_sq ?_
 refine c_gen (P := fun tm => tm 0 = (pV o1 0) ∧ True) ⟨h1, trivial⟩ ?_
 intro _ i2
 obtain ⟨h2, -⟩ := i2
 refine d_start s4 fun n3 H5 s5 q5 d5 => ?_
 refine d_mv h2 ?_
 refine d_nck rfl ?_
 refine d_ldB (q5 _ _ (ph_some.2 ⟨s5.curB 0 rfl, by simp⟩)) 0 s5 rfl rfl rfl rfl ?_
 refine d_mv h2 ?_
 refine d_nck rfl ?_
 refine d_ldB (q5 _ _ (ph_some.2 ⟨s5.curB 0 rfl, by simp⟩)) 0 s5 rfl rfl rfl rfl ?_
 obtain ⟨x3, q6, e⟩ := oB e
 refine d_shl rfl rfl q6 ?_
 refine d_xor rfl rfl ?_
 refine d_nck rfl ?_
 refine d_stB (us' := [(.int .u64 (Pu.bxor .u64 (Pu.bxor .u64 (Pu.bxor .u64 a0 x1) x2) x3))]) 0 s5 rfl rfl rfl rfl rfl rfl rfl fun H6 s6 k3 => ?_
 have d6 := d5.keep k3
 refine d_nil dc_nil ?_
 refine c_sr (o_mv h2 (o_nck rfl (o_ldB 0 s6 rfl rfl rfl rfl ?_)))
 refine o_mv (v := (.int .u64 (Pu.bxor .u64 (Pu.bxor .u64 (Pu.bxor .u64 a0 x1) x2) x3))) rfl ?_
 refine c_nil ?_
 refine c_gen (P := fun tm => tm 2 = (.int .u64 (Pu.bxor .u64 (Pu.bxor .u64 (Pu.bxor .u64 a0 x1) x2) x3)) ∧ True) ⟨rfl, trivial⟩ ?_
 intro _ i3
 obtain ⟨h3, -⟩ := i3
 refine c_rt ?_
 obtain rfl := oJ e
 exact ⟨.inr rfl, _, (ar1 h3), rfl, s6⟩
/-! slices_order2Ordered_int -/
structure Nd.slices_order2Ordered_int (T : FuncId → Option AFunc) : Prop where
  own : Has T I.slices_order2Ordered_int F.slices_order2Ordered_int
  cmp_Less_int : Nd.cmp_Less_int T
set_option maxHeartbeats 1000000 in
theorem X.slices_order2Ordered_int {T : FuncId → Option AFunc} (nd : Nd.slices_order2Ordered_int T) {Z V : PH} {H : Hp} {v1 : Value} {o1 : Nat} {a0 : (List Int)} {a1 : Int} {a2 : Int} {a3 : Int} (hs : Sat Z V H [pts o1 (.rw 0 [vi a3])]) (hp1 : RdS Sh.int V v1 a0) {r : (Int × Int × Int)} (e : P.slices_order2Ordered_int a0 a1 a2 a3 = some r) :
    G T I.slices_order2Ordered_int [v1, vi a1, vi a2, (pV o1 0)] H (fun rv H' => rv = (.tuple #[vi r.2.1, vi r.2.2]) ∧ Sat Z V H' [pts o1 (.rw 0 [vi r.1])]) := by
 unfold P.slices_order2Ordered_int at e
 refine f_mk nd.own ?_
 refine c_sr ?_
 refine o_mv (v := (vi 0)) rfl ?_
 refine o_mv (v := (vi 0)) rfl ?_
 refine c_nil (c_sq (c_sq ?_))
 refine d_start hs fun n1 H1 s1 q1 d1 => ?_
 refine d_mv (v := v1) rfl ?_
 refine d_mv (v := (vi a2)) rfl ?_
 obtain ⟨x1, q2, e⟩ := oB e
 refine d_idx (v := v1) rfl rfl hp1 rfl q2 fun p1 q3 => ?_
 refine d_ldi (RdS.low hp1 s1.v q1) rfl hp1 s1.v q3 q2 ?_
 refine d_mv (v := v1) rfl ?_
 refine d_mv (v := (vi a1)) rfl ?_
 obtain ⟨x2, q4, e⟩ := oB e
 refine d_idx (v := v1) rfl rfl hp1 rfl q4 fun p2 q5 => ?_
 refine d_ldi (RdS.low hp1 s1.v q1) rfl hp1 s1.v q5 q4 ?_
 obtain ⟨x3, q6, e⟩ := oB e
 obtain ⟨Z1, V1, W1, g1, u1, c1, c2, -, c4, c3⟩ := Sat.call (l1 := []) s1
 refine d_call (mc rfl (mc rfl m0)) (X.cmp_Less_int nd.cmp_Less_int c1 q6) fun _ H2 i1 k1 => ?_
 have d2 := d1.keep k1
 obtain ⟨rfl, s2⟩ := i1
 have s3 := c3 _ _ s2
 refine d_nil dc_nil ?_
 refine c_gen (P := fun tm => tm 1 = (vi a1) ∧ tm 2 = (vi a2) ∧ tm 3 = (pV o1 0) ∧ tm 18 = (.bool x3) ∧ True) ⟨rfl, rfl, rfl, rfl, trivial⟩ ?_
 intro _ i2
 obtain ⟨h1, h2, h3, h4, -⟩ := i2
 refine c_if h4 (fun q7 => ?_) (fun q7 => ?_)
 ·replace e := if_t q7 e
  refine c_sr (o_mv h3 (o_nck rfl (o_ldB 0 s3 rfl rfl rfl rfl (o_add rfl rfl ?_))))
  refine o_nck rfl ?_
  refine o_stB (us' := [(vi (Pu.W (a3 + 1)))]) 0 s3 rfl rfl rfl rfl rfl rfl rfl fun H3 s4 => ?_
  refine c_nil (c_sr (o_mv h2 (o_mv h1 ?_)))
  refine o_mv (v := (vi a2)) rfl ?_
  refine o_mv (v := (vi a1)) rfl ?_
  refine c_nil (c_rt ?_)
  obtain rfl := oJ e
  exact ⟨.inr rfl, _, (ar2 rfl rfl), rfl, (s4.weak g1 hs.zv)⟩
 replace e := ib_f q7 e
 refine c_sk (c_sr (o_mv h1 (o_mv h2 ?_)))
 refine o_mv (v := (vi a1)) rfl ?_
 refine o_mv (v := (vi a2)) rfl ?_
 refine c_nil (c_rt ?_)
 obtain rfl := oJ e
 exact ⟨.inr rfl, _, (ar2 rfl rfl), rfl, (s3.weak g1 hs.zv)⟩
/-! slices_medianOrdered_int -/
structure Nd.slices_medianOrdered_int (T : FuncId → Option AFunc) : Prop where
  own : Has T I.slices_medianOrdered_int F.slices_medianOrdered_int
  slices_order2Ordered_int : Nd.slices_order2Ordered_int T
set_option maxHeartbeats 1000000 in
theorem X.slices_medianOrdered_int {T : FuncId → Option AFunc} (nd : Nd.slices_medianOrdered_int T) {Z V : PH} {H : Hp} {v1 : Value} {o1 : Nat} {a0 : (List Int)} {a1 : Int} {a2 : Int} {a3 : Int} {a4 : Int} (hs : Sat Z V H [pts o1 (.rw 0 [vi a4])]) (hp1 : RdS Sh.int V v1 a0) {r : (Int × Int)} (e : P.slices_medianOrdered_int a0 a1 a2 a3 a4 = some r) :
    G T I.slices_medianOrdered_int [v1, vi a1, vi a2, vi a3, (pV o1 0)] H (fun rv H' => rv = (vi r.2) ∧ Sat Z V H' [pts o1 (.rw 0 [vi r.1])]) := by
 unfold P.slices_medianOrdered_int at e
 refine f_mk nd.own ?_
 refine c_sr ?_
 refine o_mv (v := (vi 0)) rfl ?_
 refine c_nil (c_sr ?_)
 refine o_mv (v := v1) rfl ?_
 refine o_mv (v := (vi a1)) rfl ?_
 refine o_mv (v := (vi a2)) rfl ?_
 refine o_mv (v := (pV o1 0)) rfl ?_
 obtain ⟨x1, q1, e⟩ := oB e
 obtain ⟨Z1, V1, W1, g1, u1, c1, c2, -, c4, c3⟩ := Sat.call (l1 := [pts o1 (.rw 0 [vi a4])]) (l2 := []) hs
 refine o_call (mc rfl (mc rfl (mc rfl (mc rfl m0)))) (X.slices_order2Ordered_int nd.slices_order2Ordered_int (a3 := a4) c1 (hp1.mono (g1.v.trans u1)) q1) fun _ H1 i1 => ?_
 obtain ⟨rfl, s1⟩ := i1
 have s2 := c3 _ _ s1
 refine o_mv (v := (.tuple #[vi x1.2.1, vi x1.2.2])) rfl ?_
 refine o_ext rfl rfl (o_ext rfl rfl ?_)
 refine o_mv (v := (vi x1.2.1)) rfl ?_
 refine o_mv (v := (vi x1.2.2)) rfl ?_
 refine c_nil ?_
 refine c_gen (P := fun tm => tm 0 = v1 ∧ tm 1 = (vi x1.2.1) ∧ tm 2 = (vi x1.2.2) ∧ tm 3 = (vi a3) ∧ tm 4 = (pV o1 0) ∧ True) ⟨rfl, rfl, rfl, rfl, rfl, trivial⟩ ?_
 intro _ i2
 obtain ⟨h1, h2, h3, h4, h5, -⟩ := i2
 refine c_sr (o_mv h1 (o_mv h3 (o_mv h4 (o_mv h5 ?_))))
 obtain ⟨x2, q2, e⟩ := oB e
 obtain ⟨Z2, V2, W2, g2, u2, c5, c6, -, c8, c7⟩ := Sat.call (l1 := [pts o1 (.rw 0 [vi x1.1])]) (l2 := []) s2
 refine o_call (mc rfl (mc rfl (mc rfl (mc rfl m0)))) (X.slices_order2Ordered_int nd.slices_order2Ordered_int (a3 := x1.1) c5 (hp1.mono ((g1.trans g2).v.trans u2)) q2) fun _ H2 i3 => ?_
 obtain ⟨rfl, s3⟩ := i3
 have s4 := c7 _ _ s3
 refine o_mv (v := (.tuple #[vi x2.2.1, vi x2.2.2])) rfl ?_
 refine o_ext rfl rfl (o_ext rfl rfl ?_)
 refine o_mv (v := (vi x2.2.1)) rfl ?_
 refine o_mv (v := (vi x2.2.2)) rfl ?_
 refine c_nil ?_
 refine c_gen (P := fun tm => tm 0 = v1 ∧ tm 1 = (vi x1.2.1) ∧ tm 2 = (vi x2.2.1) ∧ tm 4 = (pV o1 0) ∧ True) ⟨h1, h2, rfl, h5, trivial⟩ ?_
 intro _ i4
 obtain ⟨h6, h7, h8, h9, -⟩ := i4
 refine c_sr (o_mv h6 (o_mv h7 (o_mv h8 (o_mv h9 ?_))))
 obtain ⟨x3, q3, e⟩ := oB e
 obtain ⟨Z3, V3, W3, g3, u3, c9, c10, -, c12, c11⟩ := Sat.call (l1 := [pts o1 (.rw 0 [vi x2.1])]) (l2 := []) s4
 refine o_call (mc rfl (mc rfl (mc rfl (mc rfl m0)))) (X.slices_order2Ordered_int nd.slices_order2Ordered_int (a3 := x2.1) c9 (hp1.mono (((g1.trans g2).trans g3).v.trans u3)) q3) fun _ H3 i5 => ?_
 obtain ⟨rfl, s5⟩ := i5
 have s6 := c11 _ _ s5
 refine o_mv (v := (.tuple #[vi x3.2.1, vi x3.2.2])) rfl ?_
 refine o_ext rfl rfl (o_ext rfl rfl ?_)
 refine o_mv (v := (vi x3.2.1)) rfl ?_
 refine o_mv (v := (vi x3.2.2)) rfl ?_
 refine c_nil ?_
 refine c_gen (P := fun tm => tm 2 = (vi x3.2.2) ∧ True) ⟨rfl, trivial⟩ ?_
 intro _ i6
 obtain ⟨h10, -⟩ := i6
 refine c_sr (o_mv h10 ?_)
 refine o_mv (v := (vi x3.2.2)) rfl ?_
 refine c_nil (c_rt ?_)
 obtain rfl := oJ e
 exact ⟨.inr rfl, _, (ar1 rfl), rfl, (s6.weak (g1.trans (g2.trans g3)) hs.zv)⟩
/-! slices_medianAdjacentOrdered_int -/
structure Nd.slices_medianAdjacentOrdered_int (T : FuncId → Option AFunc) : Prop where
  own : Has T I.slices_medianAdjacentOrdered_int F.slices_medianAdjacentOrdered_int
  slices_medianOrdered_int : Nd.slices_medianOrdered_int T
set_option maxHeartbeats 1000000 in
theorem X.slices_medianAdjacentOrdered_int {T : FuncId → Option AFunc} (nd : Nd.slices_medianAdjacentOrdered_int T) {Z V : PH} {H : Hp} {v1 : Value} {o1 : Nat} {a0 : (List Int)} {a1 : Int} {a2 : Int} (hs : Sat Z V H [pts o1 (.rw 0 [vi a2])]) (hp1 : RdS Sh.int V v1 a0) {r : (Int × Int)} (e : P.slices_medianAdjacentOrdered_int a0 a1 a2 = some r) :
    G T I.slices_medianAdjacentOrdered_int [v1, vi a1, (pV o1 0)] H (fun rv H' => rv = (vi r.2) ∧ Sat Z V H' [pts o1 (.rw 0 [vi r.1])]) := by
 unfold P.slices_medianAdjacentOrdered_int at e
 refine f_mk nd.own ?_
 refine c_sr ?_
 refine o_mv (v := (vi 0)) rfl ?_
 refine c_nil (c_sr ?_)
 refine o_mv (v := v1) rfl ?_
 refine o_mv (v := (vi a1)) rfl ?_
 refine o_sub rfl rfl ?_
 refine o_mv (v := (vi a1)) rfl ?_
 refine o_mv (v := (vi a1)) rfl ?_
 refine o_add rfl rfl ?_
 refine o_mv (v := (pV o1 0)) rfl ?_
 obtain ⟨x1, q1, e⟩ := oB e
 obtain ⟨Z1, V1, W1, g1, u1, c1, c2, -, c4, c3⟩ := Sat.call (l1 := [pts o1 (.rw 0 [vi a2])]) (l2 := []) hs
 refine o_call (mc rfl (mc rfl (mc rfl (mc rfl (mc rfl m0))))) (X.slices_medianOrdered_int nd.slices_medianOrdered_int (a4 := a2) c1 (hp1.mono (g1.v.trans u1)) q1) fun _ H1 i1 => ?_
 obtain ⟨rfl, s1⟩ := i1
 have s2 := c3 _ _ s1
 refine o_mv (v := (vi x1.2)) rfl ?_
 refine c_nil ?_
 refine c_gen (P := fun tm => tm 6 = (vi x1.2) ∧ True) ⟨rfl, trivial⟩ ?_
 intro _ i2
 obtain ⟨h1, -⟩ := i2
 refine c_rt ?_
 obtain rfl := oJ e
 exact ⟨.inr rfl, _, (ar1 h1), rfl, (s2.weak g1 hs.zv)⟩
/-! slices_choosePivotOrdered_int -/
structure Nd.slices_choosePivotOrdered_int (T : FuncId → Option AFunc) : Prop where
  own : Has T I.slices_choosePivotOrdered_int F.slices_choosePivotOrdered_int
  slices_medianAdjacentOrdered_int : Nd.slices_medianAdjacentOrdered_int T
  slices_medianOrdered_int : Nd.slices_medianOrdered_int T
set_option maxHeartbeats 1000000 in
theorem X.slices_choosePivotOrdered_int {T : FuncId → Option AFunc} (nd : Nd.slices_choosePivotOrdered_int T) {Z V : PH} {H : Hp} {v1 : Value} {a0 : (List Int)} {a1 : Int} {a2 : Int} (hs : Sat Z V H []) (hp1 : RdS Sh.int V v1 a0) {r : (Int × Int)} (e : P.slices_choosePivotOrdered_int a0 a1 a2 = some r) :
    G T I.slices_choosePivotOrdered_int [v1, vi a1, vi a2] H (fun rv H' => rv = (.tuple #[vi r.1, vi r.2]) ∧ Sat Z V H' []) := by
 unfold P.slices_choosePivotOrdered_int at e
 refine f_mk nd.own ?_
 refine c_sr ?_
 refine o_mv (v := (vi 0)) rfl ?_
 refine o_mv (v := (vi 0)) rfl ?_
 refine c_nil (c_sr ?_)
 refine o_mv (v := (vi a2)) rfl ?_
 refine o_mv (v := (vi a1)) rfl ?_
 refine o_sub rfl rfl ?_
 refine o_mv (v := (vi (Pu.W (a2 - a1)))) rfl ?_
 refine c_nil (c_sr ?_)
 refine o_new hs fun b1 H1 s1 => ?_
 refine c_nil (c_sr ?_)
 refine o_mv (v := (vi a1)) rfl ?_
 refine o_mv (v := (vi (Pu.W (a2 - a1)))) rfl ?_
 obtain ⟨x1, q1, e⟩ := oB e
 refine o_quo rfl rfl q1 (o_mul rfl rfl (o_add rfl rfl ?_))
 refine o_mv (v := (vi (Pu.W (a1 + (Pu.W (x1 * 1)))))) rfl ?_
 refine c_nil ?_
 refine c_gen (P := fun tm => tm 0 = v1 ∧ tm 1 = (vi a1) ∧ tm 8 = (vi (Pu.W (a2 - a1))) ∧ tm 9 = (pV b1 0) ∧ tm 10 = (vi (Pu.W (a1 + (Pu.W (x1 * 1))))) ∧ True) ⟨rfl, rfl, rfl, rfl, rfl, trivial⟩ ?_
 intro _ i1
 obtain ⟨h1, h2, h3, h4, h5, -⟩ := i1
 refine c_sr (o_mv h2 (o_mv h3 ?_))
 obtain ⟨x2, q2, e⟩ := oB e
 refine o_quo rfl rfl q2 (o_mul rfl rfl (o_add rfl rfl ?_))
 refine o_mv (v := (vi (Pu.W (a1 + (Pu.W (x2 * 2)))))) rfl ?_
 refine c_nil (c_sr (o_mv h2 (o_mv h3 ?_)))
 obtain ⟨x3, q3, e⟩ := oB e
 refine o_quo rfl rfl q3 (o_mul rfl rfl (o_add rfl rfl ?_))
 refine o_mv (v := (vi (Pu.W (a1 + (Pu.W (x3 * 3)))))) rfl ?_
 refine c_nil ?_
 refine c_gen (P := fun tm => tm 0 = v1 ∧ tm 8 = (vi (Pu.W (a2 - a1))) ∧ tm 9 = (pV b1 0) ∧ tm 10 = (vi (Pu.W (a1 + (Pu.W (x1 * 1))))) ∧ tm 11 = (vi (Pu.W (a1 + (Pu.W (x2 * 2))))) ∧ tm 12 = (vi (Pu.W (a1 + (Pu.W (x3 * 3))))) ∧ True) ⟨h1, h3, h4, h5, rfl, rfl, trivial⟩ ?_
 intro _ i2
 obtain ⟨h6, h7, h8, h9, h10, h11, -⟩ := i2
 refine c_sq (c_sr (o_mv h7 (o_geq rfl rfl (c_nil ?_))))
 obtain ⟨y1, e1, e⟩ := oB e
 refine c_jn (I := fun tm H => ∃ (Z1 V1 : PH), Gw Z V Z1 V1 ∧ Sat Z1 V1 H [pts b1 (.rw 0 [vi y1.1])] ∧ tm 9 = (pV b1 0) ∧ tm 11 = (vi y1.2)) (fun k1 => ?_) ?_
 ·refine c_ifd rfl (fun q4 => ?_) (fun q4 => ?_)
  ·replace e1 := if_t q4 e1
   refine c_sq (c_sr (o_mv h7 (o_geq rfl rfl (c_nil ?_))))
   obtain ⟨y2, e2, e1⟩ := oB e1
   refine c_jn (I := fun tm H => ∃ (Z2 V2 : PH), Gw Z V Z2 V2 ∧ Sat Z2 V2 H [pts b1 (.rw 0 [vi y2.1])] ∧ tm 0 = v1 ∧ tm 9 = (pV b1 0) ∧ tm 10 = (vi y2.2.1) ∧ tm 11 = (vi y2.2.2.1) ∧ tm 12 = (vi y2.2.2.2)) (fun k2 => ?_) ?_
   ·refine c_ifd rfl (fun q5 => ?_) (fun q5 => ?_)
    ·replace e2 := if_t q5 e2
     refine c_sr (o_mv h6 (o_mv h9 ?_))
     obtain ⟨x4, q6, e2⟩ := oB e2
     obtain ⟨Z3, V3, W1, g3, u1, c1, c2, -, c4, c3⟩ := Sat.call (l1 := [pts b1 (.rw 0 [vi 0])]) (l2 := []) s1
     refine o_call (mc rfl (mc rfl (mc h8 m0))) (X.slices_medianAdjacentOrdered_int nd.slices_medianAdjacentOrdered_int (a2 := 0) c1 (hp1.mono (g3.v.trans u1)) q6) fun _ H4 i3 => ?_
     obtain ⟨rfl, s4⟩ := i3
     have s5 := c3 _ _ s4
     refine o_mv (v := (vi x4.2)) rfl ?_
     refine c_nil (c_sr (o_mv h6 (o_mv h10 ?_)))
     obtain ⟨x5, q7, e2⟩ := oB e2
     obtain ⟨Z4, V4, W2, g4, u2, c5, c6, -, c8, c7⟩ := Sat.call (l1 := [pts b1 (.rw 0 [vi x4.1])]) (l2 := []) s5
     refine o_call (mc rfl (mc rfl (mc h8 m0))) (X.slices_medianAdjacentOrdered_int nd.slices_medianAdjacentOrdered_int (a2 := x4.1) c5 (hp1.mono ((g3.trans g4).v.trans u2)) q7) fun _ H5 i4 => ?_
     obtain ⟨rfl, s6⟩ := i4
     have s7 := c7 _ _ s6
     refine o_mv (v := (vi x5.2)) rfl ?_
     refine c_nil ?_
     refine c_gen (P := fun tm => tm 0 = v1 ∧ tm 9 = (pV b1 0) ∧ tm 10 = (vi x4.2) ∧ tm 11 = (vi x5.2) ∧ tm 12 = (vi (Pu.W (a1 + (Pu.W (x3 * 3))))) ∧ True) ⟨h6, h8, rfl, rfl, h11, trivial⟩ ?_
     intro _ i5
     obtain ⟨h19, h20, h21, h22, h23, -⟩ := i5
     refine c_r (o_mv h19 (o_mv h23 ?_))
     obtain ⟨x6, q8, e2⟩ := oB e2
     obtain ⟨Z5, V5, W3, g5, u3, c9, c10, -, c12, c11⟩ := Sat.call (l1 := [pts b1 (.rw 0 [vi x5.1])]) (l2 := []) s7
     refine o_call (mc rfl (mc rfl (mc h20 m0))) (X.slices_medianAdjacentOrdered_int nd.slices_medianAdjacentOrdered_int (a2 := x5.1) c9 (hp1.mono (((g3.trans g4).trans g5).v.trans u3)) q8) fun _ H6 i6 => ?_
     obtain ⟨rfl, s8⟩ := i6
     have s9 := c11 _ _ s8
     refine o_mv (v := (vi x6.2)) rfl ?_
     refine c_nil ?_
     obtain rfl := oJ e2
     exact k2 _ _ ⟨_, _, (g3.trans (g4.trans g5)), s9, h19, h20, h21, h22, rfl⟩
    replace e2 := if_f q5 e2
    refine c_sk ?_
    obtain rfl := oJ e2
    exact k2 _ _ ⟨_, _, Gw.refl _ _, s1, h6, h8, h9, h10, h11⟩
   intro _ H3 i7
   obtain ⟨Z2, V2, g2, s3, h14, h15, h16, h17, h18⟩ := i7
   refine c_r (o_mv h14 (o_mv h16 (o_mv h17 (o_mv h18 ?_))))
   obtain ⟨x7, q9, e1⟩ := oB e1
   obtain ⟨Z6, V6, W4, g6, u4, c13, c14, -, c16, c15⟩ := Sat.call (l1 := [pts b1 (.rw 0 [vi y2.1])]) (l2 := []) s3
   refine o_call (mc rfl (mc rfl (mc rfl (mc rfl (mc h15 m0))))) (X.slices_medianOrdered_int nd.slices_medianOrdered_int (a4 := y2.1) c13 (hp1.mono ((g2.trans g6).v.trans u4)) q9) fun _ H7 i8 => ?_
   obtain ⟨rfl, s10⟩ := i8
   have s11 := c15 _ _ s10
   refine o_mv (v := (vi x7.2)) rfl ?_
   refine c_nil ?_
   obtain rfl := oJ e1
   exact k1 _ _ ⟨_, _, (g2.trans g6), s11, h15, rfl⟩
  replace e1 := if_f q4 e1
  refine c_sk ?_
  obtain rfl := oJ e1
  exact k1 _ _ ⟨_, _, Gw.refl _ _, s1, h8, h10⟩
 intro _ H2 i9
 obtain ⟨Z1, V1, g1, s2, h12, h13⟩ := i9
 refine c_sr (o_ldB 0 s2 rfl h12 rfl rfl (c_nil (c_bk (c_sr ?_))))
 refine o_eql rfl rfl ?_
 refine o_mv (v := (.bool (decide (y1.1 = 0)))) rfl ?_
 refine c_nil ?_
 refine c_ifd rfl (fun q10 => ?_) (fun q10 => ?_)
 ·replace e := if_t q10 e
  refine c_sr (o_mv h13 ?_)
  refine o_mv (v := (vi y1.2)) rfl ?_
  refine o_mv (v := (vi 1)) rfl ?_
  refine c_nil (c_rt ?_)
  obtain rfl := oJ e
  exact ⟨.inr rfl, _, (ar2 rfl rfl), rfl, ((s2.pick [] rfl).weak g1 hs.zv)⟩
 replace e := if_f q10 e
 refine c_sr (o_eql rfl rfl ?_)
 refine o_mv (v := (.bool (decide (y1.1 = 12)))) rfl ?_
 refine c_nil ?_
 refine c_ifd rfl (fun q11 => ?_) (fun q11 => ?_)
 ·replace e := if_t q11 e
  refine c_sr (o_mv h13 ?_)
  refine o_mv (v := (vi y1.2)) rfl ?_
  refine o_mv (v := (vi 2)) rfl ?_
  refine c_nil (c_rt ?_)
  obtain rfl := oJ e
  exact ⟨.inr rfl, _, (ar2 rfl rfl), rfl, ((s2.pick [] rfl).weak g1 hs.zv)⟩
 replace e := if_f q11 e
 refine c_sr (o_mv h13 ?_)
 refine o_mv (v := (vi y1.2)) rfl ?_
 refine o_mv (v := (vi 0)) rfl ?_
 refine c_nil (c_rt ?_)
 obtain rfl := oJ e
 exact ⟨.inr rfl, _, (ar2 rfl rfl), rfl, ((s2.pick [] rfl).weak g1 hs.zv)⟩
/-! slices_pdqsortOrdered_int -/
structure Nd.slices_pdqsortOrdered_int (T : FuncId → Option AFunc) : Prop where
  own : Has T I.slices_pdqsortOrdered_int F.slices_pdqsortOrdered_int
  slices_insertionSortOrdered_int : Nd.slices_insertionSortOrdered_int T
set_option maxHeartbeats 1000000 in
theorem X.slices_pdqsortOrdered_int {T : FuncId → Option AFunc} (nd : Nd.slices_pdqsortOrdered_int T) {φ : Nat} {Z V : PH} {H : Hp} {v1 : Value} {a0 : (List Int)} {a1 : Int} {a2 : Int} {a3 : Int} (hs : Sat Z V H [It.sl Sh.int v1 a0]) {r : (List Int)} (e : P.slices_pdqsortOrdered_int φ a0 a1 a2 a3 = some r) :
    G T I.slices_pdqsortOrdered_int [v1, vi a1, vi a2, vi a3] H (fun rv H' => rv = undef ∧ Sat Z V H' [It.sl Sh.int v1 r]) := by
 unfold P.slices_pdqsortOrdered_int at e
 refine f_mk nd.own ?_
 refine c_sr ?_
 refine o_mv (v := (.bool true)) rfl ?_
 refine c_nil (c_sr ?_)
 refine o_mv (v := (.bool true)) rfl ?_
 refine c_nil ?_
 obtain ⟨y1, q3, e⟩ := oB e
 refine c_jn (I := fun tm H => ∃ (s3 : Unit), y1 = .out s3 ∧ (∃ (Z2 V2 : PH), Gw Z V Z2 V2 ∧ Sat Z2 V2 H [It.sl Sh.int v1 a0] ∧ tm 0 = v1 ∧ tm 1 = (vi a1) ∧ tm 2 = (vi a2) ∧ tm 3 = (vi a3) ∧ tm 8 = (.bool true) ∧ tm 9 = (.bool true))) (fun k4 => ?_) ?_
 ·refine c_bk ?_
  refine l_whl (fun (s1 : Unit) tm H => ∃ (Z1 V1 : PH), Gw Z V Z1 V1 ∧ Sat Z1 V1 H [It.sl Sh.int v1 a0] ∧ tm 0 = v1 ∧ tm 1 = (vi a1) ∧ tm 2 = (vi a2) ∧ tm 3 = (vi a3) ∧ tm 8 = (.bool true) ∧ tm 9 = (.bool true)) (fun s1 y2 tm H2 j1 e1 k1 k2 k3 => ?_) q3 ⟨_, _, Gw.refl _ _, hs, rfl, rfl, rfl, rfl, rfl, rfl⟩
  obtain ⟨Z1, V1, g1, s2, h1, h2, h3, h4, h5, h6⟩ := j1
  unfold P.slices_pdqsortOrdered_int.b0 at e1
  refine c_bk (c_sr (o_mv h3 (o_mv h2 (o_sub rfl rfl ?_))))
  refine o_mv (v := (vi (Pu.W (a2 - a1)))) rfl ?_
  refine c_nil (c_sq (c_sr ?_))
  refine o_mv (v := (vi (Pu.W (a2 - a1)))) rfl ?_
  refine o_leq rfl rfl (c_nil ?_)
  refine c_ifd rfl (fun q4 => ?_) (fun q4 => ?_)
  ·replace e1 := if_t q4 e1
   refine c_sr (o_mv h1 (o_mv h2 (o_mv h3 ?_)))
   obtain ⟨x2, q5, e1⟩ := oB e1
   obtain ⟨Z3, V3, W1, g3, u1, c1, c2, -, c4, c3⟩ := Sat.call (l1 := [It.sl Sh.int v1 a0]) (l2 := []) s2
   refine o_call (mc rfl (mc rfl (mc rfl m0))) (X.slices_insertionSortOrdered_int nd.slices_insertionSortOrdered_int c1 q5) fun _ H4 i2 => ?_
   obtain ⟨rfl, s5⟩ := i2
   have s6 := c3 _ _ s5
   refine c_nil ?_
   refine c_gen (P := fun tm => True) trivial ?_
   intro _ i3
   refine c_rt ?_
   have e2 := fin_r (k3 _ (sJ e1)) e
   obtain rfl := oJ e2
   exact ⟨.inr rfl, _, rfl, rfl, (s6.weak (g1.trans g3) hs.zv)⟩
  replace e1 := if_f q4 e1
  cases e1
 intro _ H3 i4
 obtain ⟨s3, f1, Z2, V2, g2, s4, h7, h8, h9, h10, h11, h12⟩ := i4
 replace e := fin_o f1 e
 obtain rfl := oJ e
 refine c_done ?_
 exact ⟨.inl rfl, _, rfl, rfl, (s4.weak g2 hs.zv)⟩
/-! slices_Sort_int_int -/
structure Nd.slices_Sort_int_int (T : FuncId → Option AFunc) : Prop where
  own : Has T I.slices_Sort_int_int F.slices_Sort_int_int
  math_bits_Len : Nd.math_bits_Len T
  slices_pdqsortOrdered_int : Nd.slices_pdqsortOrdered_int T
set_option maxHeartbeats 1000000 in
theorem X.slices_Sort_int_int {T : FuncId → Option AFunc} (nd : Nd.slices_Sort_int_int T) {φ : Nat} {Z V : PH} {H : Hp} {v1 : Value} {a0 : (List Int)} (hs : Sat Z V H [It.sl Sh.int v1 a0]) {r : (List Int)} (e : P.slices_Sort_int_int φ a0 = some r) :
    G T I.slices_Sort_int_int [v1] H (fun rv H' => rv = undef ∧ Sat Z V H' [It.sl Sh.int v1 r]) := by
 unfold P.slices_Sort_int_int at e
 refine f_mk nd.own ?_
 refine c_sr ?_
 refine o_mv (v := v1) rfl ?_
 refine o_len rfl ((hs.curS (s := Sh.int) 0 rfl)).len ?_
 refine o_mv (v := (vN a0)) rfl ?_
 refine c_nil (c_r ?_)
 refine o_mv (v := v1) rfl ?_
 refine o_mv (v := (vN a0)) rfl ?_
 refine o_mv (v := (vN a0)) rfl ?_
 refine o_conv rfl ?_
 obtain ⟨x1, q1, e⟩ := oB e
 obtain ⟨Z1, V1, W1, g1, u1, c1, c2, -, c4, c3⟩ := Sat.call (l1 := []) hs
 refine o_call (mc rfl m0) (X.math_bits_Len nd.math_bits_Len c1 q1) fun _ H1 i1 => ?_
 obtain ⟨rfl, s1⟩ := i1
 have s2 := c3 _ _ s1
 obtain ⟨x2, q2, e⟩ := oB e
 obtain ⟨Z2, V2, W2, g2, u2, c5, c6, -, c8, c7⟩ := Sat.call (l1 := [It.sl Sh.int v1 a0]) (l2 := []) s2
 refine o_call (mc rfl (mc rfl (mc rfl (mc rfl m0)))) (X.slices_pdqsortOrdered_int nd.slices_pdqsortOrdered_int c5 q2) fun _ H2 i2 => ?_
 obtain ⟨rfl, s3⟩ := i2
 have s4 := c7 _ _ s3
 refine c_nil ?_
 obtain rfl := oJ e
 refine c_done ?_
 exact ⟨.inl rfl, _, rfl, rfl, (s4.weak (g1.trans g2) hs.zv)⟩
/-! parlkeep5_DrawEach -/
structure Nd.parlkeep5_DrawEach (T : FuncId → Option AFunc) : Prop where
  own : Has T I.parlkeep5_DrawEach F.parlkeep5_DrawEach
  parlkeep5_below : Nd.parlkeep5_below T
  draw_Order : Nd.draw_Order T
  parlkeep5_coins : Nd.parlkeep5_coins T
  slices_Clone_int_int : Nd.slices_Clone_int_int T
  slices_Sort_int_int : Nd.slices_Sort_int_int T
set_option maxHeartbeats 1000000 in
theorem X.parlkeep5_DrawEach {T : FuncId → Option AFunc} (nd : Nd.parlkeep5_DrawEach T) {φ : Nat} {Z V : PH} {H : Hp} {a0 : Int} {a1 : Int} (hs : Sat Z V H []) {r : Bool} (e : P.parlkeep5_DrawEach φ a0 a1 = some r) :
    G T I.parlkeep5_DrawEach [vi a0, vi a1] H (fun rv H' => rv = (.bool r) ∧ Sat Z V H' []) := by
 unfold P.parlkeep5_DrawEach at e
 refine f_mk nd.own ?_
 refine c_sr ?_
 refine o_mv (v := (.bool false)) rfl ?_
 refine c_nil (c_sr ?_)
 refine o_mv (v := (vi a0)) rfl ?_
 obtain ⟨x1, q1, e⟩ := oB e
 obtain ⟨Z1, V1, W1, g1, u1, c1, c2, -, c4, c3⟩ := Sat.call (l1 := []) hs
 refine o_call (mc rfl (mc rfl m0)) (X.parlkeep5_below nd.parlkeep5_below c1 q1) fun _ H1 i1 => ?_
 obtain ⟨rfl, s1⟩ := i1
 have s2 := c3 _ _ s1
 refine o_mv (v := (vi a1)) rfl ?_
 obtain ⟨x2, q2, e⟩ := oB e
 obtain ⟨Z2, V2, W2, g2, u2, c5, c6, -, c8, c7⟩ := Sat.call (l1 := []) s2
 refine o_call (mc rfl (mc rfl m0)) (X.parlkeep5_below nd.parlkeep5_below c5 q2) fun _ H2 i2 => ?_
 obtain ⟨rfl, s3⟩ := i2
 have s4 := c7 _ _ s3
 refine o_mv (v := (vi x1)) rfl ?_
 refine o_mv (v := (vi x2)) rfl ?_
 refine c_nil (c_sq (c_sr ?_))
 refine o_bsl (s := Sh.bool) (us := [(.bool false)]) (qs := [(0, 1, (.bool false))]) (xs := [false]) s4 Sh.flat_lt rfl rfl rfl (Els.cons (c := [(.bool false)]) rfl Els.nil) rfl rfl fun w1 H3 s5 => ?_
 obtain ⟨x3, q3, e⟩ := oB e
 obtain ⟨Z3, V3, W3, g3, u3, c9, c10, -, c12, c11⟩ := Sat.call (l1 := []) s5
 refine o_call (mc rfl (mc rfl m0)) (X.draw_Order nd.draw_Order c9 (c10 0 _ Sh.bool _ _ rfl) q3) fun _ H4 i3 => ?_
 obtain ⟨w2, rfl, s6⟩ := i3
 have s7 := c11 _ _ s6
 refine o_mv (v := (.tuple #[w2, vi x3.2.1, vi x3.2.2])) rfl ?_
 refine o_ext rfl rfl (o_ext rfl rfl (o_ext rfl rfl ?_))
 refine o_mv (v := w2) rfl ?_
 refine o_mv (v := (vi x3.2.1)) rfl ?_
 refine o_mv (v := (vi x3.2.2)) rfl ?_
 refine c_nil ?_
 refine c_gen (P := fun tm => tm 0 = (vi x1) ∧ tm 1 = (vi x2) ∧ tm 5 = w2 ∧ tm 7 = (vi x3.2.2) ∧ True) ⟨rfl, rfl, rfl, rfl, trivial⟩ ?_
 intro _ i4
 obtain ⟨h1, h2, h3, h4, -⟩ := i4
 refine c_sr (o_mv h4 (o_neq rfl rfl ?_))
 refine o_mv (v := (.bool (decide (x3.2.2 ≠ 0)))) rfl ?_
 refine o_jn 4 (I := fun tm H => tm 38 = .bool ((decide (x3.2.2 ≠ 0)) || (decide ((x3.1.length : Int) ≠ 2))) ∧ (∃ (Z4 V4 : PH), Gw Z3 V3 Z4 V4 ∧ Sat Z4 V4 H [] ∧ tm 0 = (vi x1) ∧ tm 1 = (vi x2))) (fun k1 => ?_) ?_
 ·rcases Bool.eq_false_or_eq_true (decide (x3.2.2 ≠ 0)) with q4 | q4
  ·refine o_gn rfl q4 (o_gn rfl q4 (o_gn rfl q4 ?_))
   refine o_pickt (a := (.bool true)) rfl q4 rfl ?_
   exact k1 _ _ ⟨gf rfl (by first | (rw [q4]; first | done | rfl) | simp [q4]), _, _, Gw.refl _ _, (s7.pick [] rfl), h1, h2⟩
  refine o_gy rfl q4 (o_mv h3 (o_gy rfl q4 ?_))
  refine o_len rfl ((s7.curS (s := Sh.int) 0 rfl)).len ?_
  refine o_gy rfl q4 (o_neq rfl rfl ?_)
  refine o_pickf (b := (.bool (decide ((x3.1.length : Int) ≠ 2)))) rfl q4 rfl ?_
  exact k1 _ _ ⟨gf rfl (by first | (rw [q4]; first | done | rfl) | simp [q4]), _, _, Gw.refl _ _, (s7.pick [] rfl), h1, h2⟩
 intro _ H5 i5
 obtain ⟨h7, Z4, V4, g4, s8, h5, h6⟩ := i5
 refine c_nil ?_
 refine c_if h7 (fun q5 => ?_) (fun q5 => ?_)
 ·replace e := if_t q5 e
  refine c_sr ?_
  refine o_mv (v := (.bool false)) rfl ?_
  refine c_nil (c_rt ?_)
  obtain rfl := oJ e
  exact ⟨.inr rfl, _, (ar1 rfl), rfl, (s8.weak (g1.trans (g2.trans (g3.trans g4))) hs.zv)⟩
 replace e := ib_f q5 e
 refine c_sk (c_sr ?_)
 refine o_mkmap (vi : Int → Value) (vi : Int → Value) s8 fun b1 H6 s9 => ?_
 refine o_mv (v := (.map (some b1))) rfl ?_
 refine c_nil (c_sq (c_sr (o_mv h6 ?_)))
 obtain ⟨x4, q6, e⟩ := oB e
 obtain ⟨Z5, V5, W4, g5, u4, c13, c14, -, c16, c15⟩ := Sat.call (l1 := []) s9
 refine o_call (mc rfl m0) (X.parlkeep5_coins nd.parlkeep5_coins c13 q6) fun w3 H7 i6 => ?_
 obtain ⟨_, rfl, s10⟩ := i6
 have s11 := c15 _ _ s10
 refine o_len rfl ((s11.curS (s := (Sh.ro sB)) 0 rfl)).len ?_
 refine o_mv (v := (vi 0)) rfl ?_
 refine c_nil ?_
 obtain ⟨y1, q9, e⟩ := oB e
 refine c_jn (I := fun tm H => ∃ (s14 : (List (Int × Int))), y1 = .out s14 ∧ (∃ (Z7 V7 : PH), Gw Z5 V5 Z7 V7 ∧ Sat Z7 V7 H [It.mp vi vi b1 s14, It.sl (Sh.ro sB) w3 x4] ∧ tm 0 = (vi x1) ∧ tm 8 = (.map (some b1)) ∧ tm 41 = w3 ∧ tm 42 = (vN x4))) (fun k5 => ?_) ?_
 ·refine c_bk ?_
  refine l_forL (xs := x4) (fun (i7 : Nat) (s12 : (List (Int × Int))) tm H => tm 43 = vi i7 ∧ ∃ (Z6 V6 : PH), Gw Z5 V5 Z6 V6 ∧ Sat Z6 V6 H [It.mp vi vi b1 s12, It.sl (Sh.ro sB) w3 x4] ∧ tm 0 = (vi x1) ∧ tm 8 = (.map (some b1)) ∧ tm 41 = w3 ∧ tm 42 = (vN x4)) (fun i7 x5 s12 y2 tm H9 q7 q8 j1 e1 k2 k3 k4 => ?_) (fun s12 tm H8 jf jd => ?_) q9 ⟨rfl, _, _, Gw.refl _ _, (s11.pick [1, 0] rfl), h5, rfl, rfl, rfl⟩
  ·obtain ⟨hti0, Z6, V6, g6, s13, h8, h9, h10, h11⟩ := j1
   unfold P.parlkeep5_DrawEach.b0 at e1
   refine c_sr (o_lss hti0 h11 (c_nil (c_sq ?_)))
   refine c_ift rfl (Int.ofNat_lt.2 q8) ?_
   refine c_sk (c_sq (c_bk (c_sr ?_)))
   refine o_idx (v := w3) h10 hti0 (s13.curS (s := (Sh.ro sB)) 1 rfl) rfl (Pu.ix_nat.trans q7) fun p1 q10 => ?_
   refine o_ldos 1 s13 rfl rfl q10 (Pu.ix_nat.trans q7) fun Z8 V8 w4 g8 s16 h16 => ?_
   refine o_mv (v := w4) rfl ?_
   refine c_nil (c_sr (o_mv h8 ?_))
   refine o_mv (v := w4) rfl ?_
   obtain ⟨x6, q11, e1⟩ := oB e1
   obtain ⟨Z9, V9, W5, g9, u5, c17, c18, -, c20, c19⟩ := Sat.call (l1 := []) s16
   refine o_call (mc rfl (mc rfl m0)) (X.draw_Order nd.draw_Order c17 (h16.mono (g9.z.trans c17.zv)) q11) fun _ H11 i8 => ?_
   obtain ⟨w5, rfl, s17⟩ := i8
   have s18 := c19 _ _ s17
   refine o_mv (v := (.tuple #[w5, vi x6.2.1, vi x6.2.2])) rfl ?_
   refine o_ext rfl rfl (o_ext rfl rfl (o_ext rfl rfl ?_))
   refine o_mv (v := w5) rfl ?_
   refine o_mv (v := (vi x6.2.1)) rfl ?_
   refine o_mv (v := (vi x6.2.2)) rfl ?_
   refine c_nil ?_
   refine c_gen (P := fun tm => tm 0 = (vi x1) ∧ tm 8 = (.map (some b1)) ∧ tm 11 = w5 ∧ tm 13 = (vi x6.2.2) ∧ tm 41 = w3 ∧ tm 42 = (vN x4) ∧ tm 43 = (vJ i7) ∧ True) ⟨h8, h9, rfl, rfl, h10, h11, hti0, trivial⟩ ?_
   intro _ i9
   obtain ⟨h17, h18, h19, h20, h21, h22, h23, -⟩ := i9
   refine c_sq (c_sr (o_mv h20 (o_neq rfl rfl (c_nil ?_))))
   refine c_ifd rfl (fun q12 => ?_) (fun q12 => ?_)
   ·replace e1 := if_t q12 e1
    refine c_ex ?_
    refine e_c ?_
    refine e_h ?_
    refine c_r (o_add h23 rfl ?_)
    refine o_mv (v := (vi (Pu.W ((i7 : Int) + 1)))) rfl ?_
    refine c_nil ?_
    exact k2 _ _ _ (sJ e1) ⟨(iv rfl (w_suc q8 ((s11.curS (s := (Sh.ro sB)) 0 rfl)).bd)), _, _, (g6.trans (g8.trans g9)), (s18.pick [1, 2] rfl), h17, h18, h21, h22⟩
   replace e1 := if_f q12 e1
   refine c_sk (c_sr ?_)
   refine o_mv (v := (vi 0)) rfl ?_
   refine c_nil (c_sr (o_mv h19 ?_))
   obtain ⟨x7, q13, e1⟩ := oB e1
   obtain ⟨Z10, V10, W6, g10, u6, c21, c22, -, c24, c23⟩ := Sat.call (l1 := []) s18
   refine o_call (mc rfl m0) (X.slices_Clone_int_int nd.slices_Clone_int_int c21 (c22 0 _ Sh.int _ _ rfl) q13) fun w6 H12 i10 => ?_
   obtain ⟨_, rfl, s19⟩ := i10
   have s20 := c23 _ _ s19
   refine o_mv (v := w6) rfl ?_
   refine c_nil (c_sr ?_)
   refine o_mv (v := w6) rfl ?_
   obtain ⟨x8, q14, e1⟩ := oB e1
   obtain ⟨Z11, V11, W7, g11, u7, c25, c26, -, c28, c27⟩ := Sat.call (l1 := [It.sl Sh.int w6 x7]) (l2 := [It.sl Sh.int w5 x6.1, It.mp vi vi b1 s12, It.sl (Sh.ro sB) w3 x4]) s20
   refine o_call (mc rfl m0) (X.slices_Sort_int_int nd.slices_Sort_int_int c25 q14) fun _ H13 i11 => ?_
   obtain ⟨rfl, s21⟩ := i11
   have s22 := c27 _ _ s21
   refine c_nil (c_sq (c_sr (o_mv h19 ?_)))
   refine o_len rfl ((s22.curS (s := Sh.int) 1 rfl)).len ?_
   refine o_mv (v := (vi 0)) rfl ?_
   refine c_nil ?_
   refine c_gen (P := fun tm => tm 0 = (vi x1) ∧ tm 8 = (.map (some b1)) ∧ tm 11 = w5 ∧ tm 14 = (vi 0) ∧ tm 15 = w6 ∧ tm 41 = w3 ∧ tm 42 = (vN x4) ∧ tm 43 = (vJ i7) ∧ tm 60 = w5 ∧ tm 61 = (vN x6.1) ∧ tm 62 = (vi 0) ∧ True) ⟨h17, h18, h19, rfl, rfl, h21, h22, h23, rfl, rfl, rfl, trivial⟩ ?_
   intro _ i12
   obtain ⟨h24, h25, h26, h27, h28, h29, h30, h31, h32, h33, h34, -⟩ := i12
   obtain ⟨y3, q17, e1⟩ := oB e1
   refine c_jn (I := fun tm H => ∃ (s25 : Int), y3 = .out s25 ∧ (∃ (Z13 V13 : PH), Gw Z11 V11 Z13 V13 ∧ Sat Z13 V13 H [It.mp vi vi b1 s12, It.sl Sh.int w5 x6.1, It.sl Sh.int w6 x8, It.sl (Sh.ro sB) w3 x4] ∧ tm 0 = (vi x1) ∧ tm 8 = (.map (some b1)) ∧ tm 11 = w5 ∧ tm 14 = (vi s25) ∧ tm 15 = w6 ∧ tm 41 = w3 ∧ tm 42 = (vN x4) ∧ tm 43 = (vJ i7) ∧ tm 60 = w5 ∧ tm 61 = (vN x6.1))) (fun k9 => ?_) ?_
   ·refine c_bk ?_
    refine l_forL (xs := x6.1) (fun (i13 : Nat) (s23 : Int) tm H => tm 62 = vi i13 ∧ ∃ (Z12 V12 : PH), Gw Z11 V11 Z12 V12 ∧ Sat Z12 V12 H [It.mp vi vi b1 s12, It.sl Sh.int w5 x6.1, It.sl Sh.int w6 x8, It.sl (Sh.ro sB) w3 x4] ∧ tm 0 = (vi x1) ∧ tm 8 = (.map (some b1)) ∧ tm 11 = w5 ∧ tm 14 = (vi s23) ∧ tm 15 = w6 ∧ tm 41 = w3 ∧ tm 42 = (vN x4) ∧ tm 43 = (vJ i7) ∧ tm 60 = w5 ∧ tm 61 = (vN x6.1)) (fun i13 x9 s23 y4 tm H15 q15 q16 j2 e2 k6 k7 k8 => ?_) (fun s23 tm H14 jf jd => ?_) q17 ⟨h34, _, _, Gw.refl _ _, (s22.pick [2, 1, 0, 3] rfl), h24, h25, h26, h27, h28, h29, h30, h31, h32, h33⟩
    ·obtain ⟨hti1, Z12, V12, g12, s24, h35, h36, h37, h38, h39, h40, h41, h42, h43, h44⟩ := j2
     unfold P.parlkeep5_DrawEach.b1 at e2
     refine c_sr (o_lss hti1 h44 (c_nil (c_sq ?_)))
     refine c_ift rfl (Int.ofNat_lt.2 q16) ?_
     refine c_sk (c_sq (c_bk (c_sr (o_mv hti1 ?_))))
     refine o_idx (v := w5) h43 hti1 (s24.curS (s := Sh.int) 1 rfl) rfl (Pu.ix_nat.trans q15) fun p2 q18 => ?_
     refine o_ldi rfl (s24.curS (s := Sh.int) 1 rfl) pR q18 (Pu.ix_nat.trans q15) ?_
     refine o_mv (v := (vJ i13)) rfl ?_
     refine o_mv (v := (vi x9)) rfl ?_
     refine c_nil (c_sq (c_sr (o_mv h39 ?_)))
     refine o_mv (v := (vJ i13)) rfl ?_
     obtain ⟨x10, q19, e2⟩ := oB e2
     refine o_idx (v := w6) rfl rfl (s24.curS (s := Sh.int) 2 rfl) rfl q19 fun p3 q20 => ?_
     refine o_ldi rfl (s24.curS (s := Sh.int) 2 rfl) pR q20 q19 ?_
     refine o_mv (v := (vJ i13)) rfl ?_
     refine o_neq rfl rfl (c_nil ?_)
     refine c_gen (P := fun tm => tm 0 = (vi x1) ∧ tm 8 = (.map (some b1)) ∧ tm 11 = w5 ∧ tm 14 = (vi s23) ∧ tm 15 = w6 ∧ tm 17 = (vi x9) ∧ tm 41 = w3 ∧ tm 42 = (vN x4) ∧ tm 43 = (vJ i7) ∧ tm 60 = w5 ∧ tm 61 = (vN x6.1) ∧ tm 62 = (vJ i13) ∧ tm 72 = (.bool (decide (x10 ≠ (i13 : Int)))) ∧ True) ⟨h35, h36, h37, h38, h39, rfl, h40, h41, h42, h43, h44, hti1, rfl, trivial⟩ ?_
     intro _ i14
     obtain ⟨h55, h56, h57, h58, h59, h60, h61, h62, h63, h64, h65, h66, h67, -⟩ := i14
     refine c_ifd h67 (fun q21 => ?_) (fun q21 => ?_)
     ·replace e2 := if_t q21 e2
      refine c_sr ?_
      refine o_mv (v := (.bool false)) rfl ?_
      refine c_nil (c_rt ?_)
      have e3 := fin_r (k8 _ (sJ e2)) e1
      have e4 := fin_r (k4 _ (sJ e3)) e
      obtain rfl := oJ e4
      exact ⟨.inr rfl, _, (ar1 rfl), rfl, ((s24.pick [] rfl).weak (g1.trans (g2.trans (g3.trans (g4.trans (g5.trans (g6.trans (g8.trans (g9.trans (g10.trans (g11.trans g12)))))))))) hs.zv)⟩
     replace e2 := if_f q21 e2
     refine c_sk (c_r (o_mv h58 (o_mv h55 (o_mul rfl rfl ?_))))
     refine o_mv h60 (o_add rfl rfl ?_)
     refine o_mv (v := (vi (Pu.W ((Pu.W (s23 * x1)) + x9)))) rfl ?_
     refine c_nil (c_end (c_r (o_add h66 rfl ?_)))
     refine o_mv (v := (vi (Pu.W ((i13 : Int) + 1)))) rfl ?_
     refine c_nil ?_
     exact k6 _ _ _ (sJ e2) ⟨(iv rfl (w_suc q16 ((s22.curS (s := Sh.int) 1 rfl)).bd)), _, _, g12, s24, h55, h56, h57, rfl, h59, h61, h62, h63, h64, h65⟩
    ·obtain ⟨hte1, Z14, V14, g14, s27, h68, h69, h70, h71, h72, h73, h74, h75, h76, h77⟩ := jd
     refine c_sr (o_lss hte1 h77 (c_nil (c_sq ?_)))
     refine c_iff rfl (Int.lt_irrefl _) ?_
     refine c_ex ?_
     refine e_c ?_
     refine e_c ?_
     refine e_h ?_
     exact k9 _ _ ⟨_, jf, _, _, g14, s27, h68, h69, h70, h71, h72, h73, h74, h75, h76, h77⟩
   intro _ H16 i15
   obtain ⟨s25, f1, Z13, V13, g13, s26, h45, h46, h47, h48, h49, h50, h51, h52, h53, h54⟩ := i15
   replace e1 := fin_o f1 e1
   refine c_sq (c_sr (o_mv h47 ?_))
   refine o_len rfl ((s26.curS (s := Sh.int) 1 rfl)).len ?_
   refine o_mv h45 (o_neq rfl rfl (c_nil ?_))
   refine c_ifd rfl (fun q22 => ?_) (fun q22 => ?_)
   ·replace e1 := if_t q22 e1
    refine c_sr ?_
    refine o_mv (v := (.bool false)) rfl ?_
    refine c_nil (c_rt ?_)
    have e5 := fin_r (k4 _ (sJ e1)) e
    obtain rfl := oJ e5
    exact ⟨.inr rfl, _, (ar1 rfl), rfl, ((s26.pick [] rfl).weak (g1.trans (g2.trans (g3.trans (g4.trans (g5.trans (g6.trans (g8.trans (g9.trans (g10.trans (g11.trans g13)))))))))) hs.zv)⟩
   replace e1 := if_f q22 e1
   refine c_sk (c_r (o_mv h46 (o_mv h48 ?_)))
   refine o_mlook1 Mk.i (q := s25) (z := 0) 0 s26 rfl rfl rfl rfl rfl ?_
   refine o_add rfl rfl ?_
   refine o_mset Mk.i (q := s25) (v := (Pu.W (((Pu.mget s25 s12).getD 0) + 1))) 0 s26 rfl rfl rfl rfl rfl rfl fun H18 s28 => ?_
   refine c_nil (c_end (c_r (o_add h52 rfl ?_)))
   refine o_mv (v := (vi (Pu.W ((i7 : Int) + 1)))) rfl ?_
   refine c_nil ?_
   exact k2 _ _ _ (sJ e1) ⟨(iv rfl (w_suc q8 ((s11.curS (s := (Sh.ro sB)) 0 rfl)).bd)), _, _, (g6.trans (g8.trans (g9.trans (g10.trans (g11.trans g13))))), (s28.pick [0, 3] rfl), h45, h46, h50, h51⟩
  ·obtain ⟨hte0, Z15, V15, g15, s29, h78, h79, h80, h81⟩ := jd
   refine c_sr (o_lss hte0 h81 (c_nil (c_sq ?_)))
   refine c_iff rfl (Int.lt_irrefl _) ?_
   refine c_ex ?_
   refine e_c ?_
   refine e_c ?_
   refine e_h ?_
   exact k5 _ _ ⟨_, jf, _, _, g15, s29, h78, h79, h80, h81⟩
 intro _ H10 i16
 obtain ⟨s14, f2, Z7, V7, g7, s15, h12, h13, h14, h15⟩ := i16
 replace e := fin_o f2 e
 refine c_sq (c_sr (o_mv h13 (o_lenm 0 s15 rfl rfl (o_eql rfl rfl ?_))))
 refine c_nil ?_
 refine c_ifd rfl (fun q23 => ?_) (fun q23 => ?_)
 ·replace e := if_t q23 e
  refine c_sr ?_
  refine o_mv (v := (.bool true)) rfl ?_
  refine c_nil (c_rt ?_)
  obtain rfl := oJ e
  exact ⟨.inr rfl, _, (ar1 rfl), rfl, ((s15.pick [] rfl).weak (g1.trans (g2.trans (g3.trans (g4.trans (g5.trans g7))))) hs.zv)⟩
 replace e := if_f q23 e
 refine c_sk (c_sr ?_)
 refine o_mv (v := (vi 1099511627776)) rfl ?_
 refine o_mv (v := (vi 0)) rfl ?_
 refine c_nil (c_sq (c_sr (o_mv h13 (c_nil ?_))))
 obtain ⟨x11, q24, e⟩ := oB e
 obtain ⟨x12, q25, e⟩ := oB e
 refine c_mapr (m := F.parlkeep5_DrawEach.m28) 0 s15 rfl rfl q24 q25 (fun s tm => tm 18 = vi s.1 ∧ tm 19 = vi s.2 ∧ tm 0 = (vi x1) ∧ tm 8 = (.map (some b1)) ∧ True) (fun s s' tm i f => ?_) (fun p => ⟨rfl, rfl, h12, h13, trivial⟩) fun t3 s30 i17 => ?_
 ·obtain ⟨i18, i19, i0, i8, -⟩ := i
  cases f
  refine ao_mv (v := vi x11.2) rfl rfl ?_
  refine ao_mv (v := vi s.1) i18 rfl ?_
  refine ao_mv (v := vi x11.2) rfl rfl ?_
  refine ao_min rfl rfl rfl ?_
  refine ao_mv (v := vi s.2) i19 rfl ?_
  refine ao_mv (v := vi x11.2) rfl rfl ?_
  refine ao_max rfl rfl rfl ?_
  refine ao_mv (v := vi (Pu.imin s.1 x11.2)) rfl rfl ?_
  refine ao_mv (v := vi (Pu.imax s.2 x11.2)) rfl rfl ?_
  exact ao_nil ⟨rfl, rfl, i0, i8, trivial⟩
 obtain ⟨t4, ⟨h82, h83, h84, h85, -⟩, h86⟩ := i17
 replace h82 := (h86 18 (by decide) (by decide)).trans h82
 replace h83 := (h86 19 (by decide) (by decide)).trans h83
 replace h84 := (h86 0 (by decide) (by decide)).trans h84
 replace h85 := (h86 8 (by decide) (by decide)).trans h85
 refine c_sq ?_
 refine c_gen (P := fun tm => tm 0 = (vi x1) ∧ tm 8 = (.map (some b1)) ∧ tm 18 = (vi x12.1) ∧ tm 19 = (vi x12.2) ∧ True) ⟨h84, h85, h82, h83, trivial⟩ ?_
 intro _ i18
 obtain ⟨h87, h88, h89, h90, -⟩ := i18
 refine d_start s30 fun n1 H20 s31 q26 d1 => ?_
 refine d_mv h89 ?_
 refine d_mv h90 ?_
 refine d_eql rfl rfl ?_
 refine d_mv (v := (.bool (decide (x12.1 = x12.2)))) rfl ?_
 obtain ⟨y5, e6, e⟩ := oB e
 refine d_jn 8 (I := fun tm H => DD n1 12 (List.length F.parlkeep5_DrawEach.r32) H ∧ (∃ (Z16 V16 : PH), Gw Z7 V7 Z16 V16 ∧ Sat Z16 V16 H [] ∧ tm 114 = (.bool y5))) (fun k10 => ?_) ?_
 ·rcases Bool.eq_false_or_eq_true (decide (x12.1 = x12.2)) with q27 | q27
  ·replace e6 := if_t q27 e6
   refine d_want rfl q27 ?_
   refine d_mv h88 ?_
   refine d_want rfl q27 ?_
   refine d_lenm (q26 _ _ (ph_some.2 ⟨s31.curB 0 rfl, by simp⟩)) 0 s31 rfl rfl ?_
   refine d_want rfl q27 ?_
   refine d_bslN (s := Sh.int) (us := [vi 1, vi 1, vi 2, vi 6]) (qs := [(0, 1, (vi 1)), (1, 1, (vi 1)), (2, 1, (vi 2)), (3, 1, (vi 6))]) (xs := [1, 1, 2, 6]) (d1.get 6 rfl rfl) s31 Sh.flat_lt rfl rfl rfl (Els.cons (c := [vi 1]) rfl (Els.cons (c := [vi 1]) rfl (Els.cons (c := [vi 2]) rfl (Els.cons (c := [vi 6]) rfl Els.nil)))) rfl rfl fun w7 H22 h92 s33 k11 => ?_
   have d2 := d1.next 6 rfl k11
   refine d_want rfl q27 ?_
   refine d_mv h87 ?_
   refine d_want rfl q27 ?_
   obtain ⟨x13, q28, e6⟩ := oB e6
   refine d_idx (v := w7) rfl rfl (s33.curS (s := Sh.int) 0 rfl) rfl q28 fun p4 q29 => ?_
   refine d_want rfl q27 ?_
   refine d_ldiN (k0 := 6) rfl h92 rfl (s33.curS (s := Sh.int) 0 rfl) pR q29 q28 ?_
   refine d_want rfl q27 ?_
   refine d_eql rfl rfl ?_
   refine d_pickt (a := (.bool (decide ((s14.length : Int) = x13)))) rfl q27 rfl ?_
   obtain rfl := oJ e6
   exact k10 _ _ _ ⟨d2.up rfl, _, _, Gw.refl _ _, (s33.pick [] rfl), rfl⟩
  replace e6 := ib_f q27 e6
  refine d_gn rfl q27 ?_
  refine d_gn rfl q27 ?_
  refine d_gn rfl q27 ?_
  refine d_gn rfl q27 ?_
  refine d_gn rfl q27 ?_
  refine d_gn rfl q27 ?_
  refine d_gn rfl q27 ?_
  refine d_pickf (b := (.bool false)) rfl q27 rfl ?_
  obtain rfl := oJ e6
  exact k10 _ _ _ ⟨d1.up rfl, _, _, Gw.refl _ _, (s31.pick [] rfl), rfl⟩
 intro _ H21 _ i19
 obtain ⟨d3, Z16, V16, g16, s32, h91⟩ := i19
 refine d_mv h91 ?_
 refine d_nil dc_nil ?_
 refine c_rt ?_
 obtain rfl := oJ e
 exact ⟨.inr rfl, _, (ar1 rfl), rfl, (s32.weak (g1.trans (g2.trans (g3.trans (g4.trans (g5.trans (g7.trans g16)))))) hs.zv)⟩
end Go.Proofs.Ytbehlbabgomhfaa
