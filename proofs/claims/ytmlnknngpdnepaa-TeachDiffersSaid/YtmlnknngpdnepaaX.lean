/- The abstract code comes to the plain functions: printed by wip/tools/lift.py. -/
import Derived.Test.YtmlnknngpdnepaaX1
import Derived.Test.YtmlnknngpdnepaaGdfa
import Derived.Test.YtmlnknngpdnepaaGmathbits
import Derived.Test.YtmlnknngpdnepaaGmini
import Derived.Test.YtmlnknngpdnepaaGparlkeep5
import Derived.Test.YtmlnknngpdnepaaGparlmake
import Derived.Test.YtmlnknngpdnepaaGslices
import Derived.Test.YtmlnknngpdnepaaGteach
namespace Go.Proofs.Ytmlnknngpdnepaa
open Go Go.Ab
/-! parlkeep5_TeachDiffers -/
structure Nd.parlkeep5_TeachDiffers (T : FuncId → Option AFunc) : Prop where
  own : Has T I.parlkeep5_TeachDiffers F.parlkeep5_TeachDiffers
  parlmake_Dfa : Nd.parlmake_Dfa T
  parlkeep5_ends : Nd.parlkeep5_ends T
  teach_New : Nd.teach_New T
  teach_Teacher_Symbols : Nd.teach_Teacher_Symbols T
  mini_Min : Nd.mini_Min T
  teach_Teacher_Equal : Nd.teach_Teacher_Equal T
  parlkeep5_accepts : Nd.parlkeep5_accepts T
  parlkeep5_words : Nd.parlkeep5_words T
  slices_Equal_int_int : Nd.slices_Equal_int_int T
set_option maxHeartbeats 1000000 in
theorem X.parlkeep5_TeachDiffers {T : FuncId → Option AFunc} (nd : Nd.parlkeep5_TeachDiffers T) {φ : Nat} {Z V : PH} {H : Hp} {v1 : Value} {v2 : Value} {a0 : (List Int)} {a1 : (List Int)} (hs : Sat Z V H []) (hp1 : RdS Sh.int Z v1 a0) (hp2 : RdS Sh.int Z v2 a1) {r : Bool} (e : P.parlkeep5_TeachDiffers φ a0 a1 = some r) :
    G T I.parlkeep5_TeachDiffers [v1, v2] H (fun rv H' => rv = (.bool r) ∧ Sat Z V H' []) := by
 unfold P.parlkeep5_TeachDiffers at e
 refine f_mk nd.own ?_
 refine c_sr ?_
 refine o_mv (v := (.bool false)) rfl ?_
 refine c_nil (c_sr ?_)
 refine o_mv (v := v1) rfl ?_
 obtain ⟨x1, q1, e⟩ := oB e
 obtain ⟨Z1, V1, W1, g1, u1, c1, c2, -, c4, c3⟩ := Sat.call (l1 := []) hs
 refine o_call (mc rfl m0) (X.parlmake_Dfa nd.parlmake_Dfa c1 (hp1.mono g1.z) q1) fun _ H1 i1 => ?_
 obtain ⟨w1, w2, rfl, s1⟩ := i1
 have s2 := c3 _ _ s1
 refine o_mv (v := v2) rfl ?_
 obtain ⟨x2, q2, e⟩ := oB e
 obtain ⟨Z2, V2, W2, g2, u2, c5, c6, -, c8, c7⟩ := Sat.call (l1 := []) s2
 refine o_call (mc rfl m0) (X.parlmake_Dfa nd.parlmake_Dfa c5 (hp2.mono (g1.trans g2).z) q2) fun _ H2 i2 => ?_
 obtain ⟨w3, w4, rfl, s3⟩ := i2
 have s4 := c7 _ _ s3
 refine o_new s4 fun b1 H3 s5 => ?_
 refine o_new s5 fun b2 H4 s6 => ?_
 obtain ⟨d1, rfl⟩ := ((s6.curS (s := Sh.int) 4 rfl)).val
 obtain ⟨d2, rfl⟩ := ((s6.curS (s := sI1) 5 rfl)).val
 refine o_stB (us' := [vi x1.Start, (vS d1 x1.Accept), (vS d2 x1.Next)]) 1 s6 rfl rfl rfl rfl rfl rfl rfl fun H5 s7 => ?_
 obtain ⟨d3, rfl⟩ := ((s7.curS (s := Sh.int) 2 rfl)).val
 obtain ⟨d4, rfl⟩ := ((s7.curS (s := sI1) 3 rfl)).val
 refine o_stB (us' := [vi x2.Start, (vS d3 x2.Accept), (vS d4 x2.Next)]) 0 s7 rfl rfl rfl rfl rfl rfl rfl fun H6 s8 => ?_
 refine c_nil (c_sr ?_)
 obtain ⟨x3, q3, e⟩ := oB e
 obtain ⟨Z3, V3, W3, g3, u3, c9, c10, -, c12, c11⟩ := Sat.call (l1 := []) s8
 refine o_call m0 (X.parlkeep5_ends nd.parlkeep5_ends c9 q3) fun _ H7 i3 => ?_
 obtain ⟨w5, w6, rfl, s9⟩ := i3
 have s10 := c11 _ _ s9
 obtain ⟨x4, q4, e⟩ := oB e
 rcases x4 with ⟨_ | y1, x5⟩
 ·rw [Pu.oc2_none] at e
  obtain ⟨Z4, V4, W4, g4, u4, c13, c14, -, c16, c15⟩ := Sat.call (l1 := []) s10
  refine o_call (mc rfl m0) (X.teach_New nd.teach_New c13 (c14 0 _ Sh.int _ _ rfl) (c14 1 _ (Sh.ro sI1) _ _ rfl) q4) fun _ H8 i4 => ?_
  dsimp only [ov, oi, List.nil_append, List.append_nil, List.cons_append] at i4
  obtain ⟨b3, u5, u6, rfl, s11⟩ := i4
  have s12 := c15 _ _ s11
  refine o_mv (v := (.tuple #[(.pointer none), vi x5])) rfl ?_
  refine o_ext rfl rfl (o_ext rfl rfl ?_)
  refine o_mv (v := (.pointer none)) rfl ?_
  refine o_mv (v := (vi x5)) rfl ?_
  refine c_nil ?_
  refine c_gen (P := fun tm => tm 5 = (pV b1 0) ∧ tm 6 = (pV b2 0) ∧ tm 7 = (.pointer none) ∧ tm 8 = (vi x5) ∧ True) ⟨rfl, rfl, rfl, rfl, trivial⟩ ?_
  intro _ i5
  obtain ⟨h1, h2, h3, h4, -⟩ := i5
  refine c_sq (c_sr (o_mv h4 (o_neq rfl rfl ?_)))
  refine o_mv (v := (.bool (decide (x5 ≠ 0)))) rfl ?_
  refine o_jn 3 (I := fun tm H => tm 32 = .bool true ∧ (∃ (Z5 V5 : PH), Gw Z4 V4 Z5 V5 ∧ Sat Z5 V5 H [pts b1 (.rw 0 [vi x1.Start, (vS d1 x1.Accept), (vS d2 x1.Next)]), Is Sh.int d1 x1.Accept, Is sI1 d2 x1.Next, pts b2 (.rw 0 [vi x2.Start, (vS d3 x2.Accept), (vS d4 x2.Next)]), Is Sh.int d3 x2.Accept, Is sI1 d4 x2.Next] ∧ tm 5 = (pV b1 0) ∧ tm 6 = (pV b2 0) ∧ tm 7 = (.pointer none))) (fun k1 => ?_) ?_
  ·rcases Bool.eq_false_or_eq_true (decide (x5 ≠ 0)) with q5 | q5
   ·refine o_gn rfl q5 (o_gn rfl q5 ?_)
    refine o_pickt (a := (.bool true)) rfl q5 rfl ?_
    exact k1 _ _ ⟨gf rfl (by first | (rw [q5]; first | done | rfl) | simp [q5]), _, _, Gw.refl _ _, (s12.pick [3, 6, 7, 2, 4, 5] rfl), h1, h2, h3⟩
   refine o_gy rfl q5 (o_mv h3 (o_gy rfl q5 ?_))
   refine o_eq (p := true) rfl rfl rfl ?_
   refine o_pickf (b := (.bool true)) rfl q5 rfl ?_
   exact k1 _ _ ⟨gf rfl (by first | (rw [q5]; first | done | rfl) | simp [q5]), _, _, Gw.refl _ _, (s12.pick [3, 6, 7, 2, 4, 5] rfl), h1, h2, h3⟩
  intro _ H9 i6
  obtain ⟨h8, Z5, V5, g5, s13, h5, h6, h7⟩ := i6
  refine o_mv h8 (o_gn rfl rfl (o_gn rfl rfl (o_gn rfl rfl ?_)))
  refine o_pickt (a := (.bool true)) rfl rfl rfl ?_
  refine c_nil (c_bt rfl (c_sr ?_))
  refine o_mv (v := (.bool false)) rfl ?_
  refine c_nil (c_rt ?_)
  obtain rfl := oJ e
  exact ⟨.inr rfl, _, (ar1 rfl), rfl, ((s13.pick [] rfl).weak (g1.trans (g2.trans (g3.trans (g4.trans g5)))) hs.zv)⟩
 rw [Pu.oc2_some] at e
 obtain ⟨Z6, V6, W5, g6, u7, c17, c18, -, c20, c19⟩ := Sat.call (l1 := []) s10
 refine o_call (mc rfl m0) (X.teach_New nd.teach_New c17 (c18 0 _ Sh.int _ _ rfl) (c18 1 _ (Sh.ro sI1) _ _ rfl) q4) fun _ H10 i7 => ?_
 dsimp only [ov, oi, List.nil_append, List.append_nil, List.cons_append] at i7
 obtain ⟨b4, w7, w8, rfl, s14⟩ := i7
 have s15 := c19 _ _ s14
 refine o_mv (v := (.tuple #[(pV b4 0), vi x5])) rfl ?_
 refine o_ext rfl rfl (o_ext rfl rfl ?_)
 refine o_mv (v := (pV b4 0)) rfl ?_
 refine o_mv (v := (vi x5)) rfl ?_
 refine c_nil ?_
 refine c_gen (P := fun tm => tm 5 = (pV b1 0) ∧ tm 6 = (pV b2 0) ∧ tm 7 = (pV b4 0) ∧ tm 8 = (vi x5) ∧ True) ⟨rfl, rfl, rfl, rfl, trivial⟩ ?_
 intro _ i8
 obtain ⟨h9, h10, h11, h12, -⟩ := i8
 refine c_sq (c_sr (o_mv h12 (o_neq rfl rfl ?_)))
 refine o_mv (v := (.bool (decide (x5 ≠ 0)))) rfl ?_
 refine o_jn 3 (I := fun tm H => tm 32 = .bool ((decide (x5 ≠ 0)) || false) ∧ (∃ (Z7 V7 : PH), Gw Z6 V6 Z7 V7 ∧ Sat Z7 V7 H [pts b1 (.rw 0 [vi x1.Start, (vS d1 x1.Accept), (vS d2 x1.Next)]), Is Sh.int d1 x1.Accept, Is sI1 d2 x1.Next, pts b2 (.rw 0 [vi x2.Start, (vS d3 x2.Accept), (vS d4 x2.Next)]), Is Sh.int d3 x2.Accept, Is sI1 d4 x2.Next, pts b4 (.rw 0 [vi y1.d.Start, w7, w8, vi y1.members, vi y1.equal]), It.sl Sh.int w7 y1.d.Accept, It.sl sI1 w8 y1.d.Next] ∧ tm 5 = (pV b1 0) ∧ tm 6 = (pV b2 0) ∧ tm 7 = (pV b4 0))) (fun k2 => ?_) ?_
 ·rcases Bool.eq_false_or_eq_true (decide (x5 ≠ 0)) with q6 | q6
  ·refine o_gn rfl q6 (o_gn rfl q6 ?_)
   refine o_pickt (a := (.bool true)) rfl q6 rfl ?_
   exact k2 _ _ ⟨gf rfl (by first | (rw [q6]; first | done | rfl) | simp [q6]), _, _, Gw.refl _ _, (s15.pick [6, 9, 10, 5, 7, 8, 0, 1, 2] rfl), h9, h10, h11⟩
  refine o_gy rfl q6 (o_mv h11 (o_gy rfl q6 ?_))
  refine o_eq (p := false) rfl rfl rfl ?_
  refine o_pickf (b := (.bool false)) rfl q6 rfl ?_
  exact k2 _ _ ⟨gf rfl (by first | (rw [q6]; first | done | rfl) | simp [q6]), _, _, Gw.refl _ _, (s15.pick [6, 9, 10, 5, 7, 8, 0, 1, 2] rfl), h9, h10, h11⟩
 intro _ H11 i9
 obtain ⟨h16, Z7, V7, g7, s16, h13, h14, h15⟩ := i9
 refine o_mv h16 ?_
 obtain ⟨y2, e1, e⟩ := oB e
 refine o_jn 4 (I := fun tm H => ∃ (Z8 V8 : PH), Gw Z7 V7 Z8 V8 ∧ Sat Z8 V8 H [pts b1 (.rw 0 [vi x1.Start, (vS d1 x1.Accept), (vS d2 x1.Next)]), Is Sh.int d1 x1.Accept, Is sI1 d2 x1.Next, pts b2 (.rw 0 [vi x2.Start, (vS d3 x2.Accept), (vS d4 x2.Next)]), Is Sh.int d3 x2.Accept, Is sI1 d4 x2.Next] ∧ tm 5 = (pV b1 0) ∧ tm 6 = (pV b2 0) ∧ tm 37 = (.bool y2)) (fun k3 => ?_) ?_
 ·rcases Bool.eq_false_or_eq_true ((decide (x5 ≠ 0)) || false) with q7 | q7
  ·replace e1 := if_t q7 e1
   refine o_gn rfl q7 (o_gn rfl q7 (o_gn rfl q7 ?_))
   refine o_pickt (a := (.bool true)) rfl q7 rfl ?_
   obtain rfl := oJ e1
   exact k3 _ _ ⟨_, _, Gw.refl _ _, (s16.pick [0, 1, 2, 3, 4, 5] rfl), h13, h14, rfl⟩
  replace e1 := ib_f q7 e1
  refine o_gy rfl q7 (o_mv h15 (o_gy rfl q7 ?_))
  obtain ⟨Z9, V9, g9, s18, h20⟩ := s16.frzS 7 rfl
  obtain ⟨Z10, V10, g10, s19, h21⟩ := s18.frzS 7 rfl
  obtain ⟨x6, q8, e1⟩ := oB e1
  obtain ⟨d5, rfl⟩ := ((h20.mono g10.z)).val
  obtain ⟨d6, rfl⟩ := (h21).val
  obtain ⟨Z11, V11, W6, g11, u8, c21, c22, -, c24, c23⟩ := Sat.call (l1 := [pts b4 (.rw 0 [vi y1.d.Start, (vS d5 y1.d.Accept), (vS d6 y1.d.Next), vi y1.members, vi y1.equal])]) (l2 := [pts b1 (.rw 0 [vi x1.Start, (vS d1 x1.Accept), (vS d2 x1.Next)]), Is Sh.int d1 x1.Accept, Is sI1 d2 x1.Next, pts b2 (.rw 0 [vi x2.Start, (vS d3 x2.Accept), (vS d4 x2.Next)]), Is Sh.int d3 x2.Accept, Is sI1 d4 x2.Next]) (s19.pick [6, 0, 1, 2, 3, 4, 5] rfl)
  refine o_call (mc rfl m0) (X.teach_Teacher_Symbols nd.teach_Teacher_Symbols (a0 := y1) c21 (h20.mono ((g10.trans g11).z.trans c21.zv)) (h21.mono (g11.z.trans c21.zv)) q8) fun _ H13 i10 => ?_
  obtain ⟨rfl, s20⟩ := i10
  have s21 := c23 _ _ s20
  refine o_gy rfl q7 (o_neq rfl rfl ?_)
  refine o_pickf (b := (.bool (decide (x6 ≠ 2)))) rfl q7 rfl ?_
  obtain rfl := oJ e1
  exact k3 _ _ ⟨_, _, (g9.trans (g10.trans g11)), (s21.pick [1, 2, 3, 4, 5, 6] rfl), h13, h14, rfl⟩
 intro _ H12 i11
 obtain ⟨Z8, V8, g8, s17, h17, h18, h19⟩ := i11
 refine c_nil ?_
 refine c_if h19 (fun q9 => ?_) (fun q9 => ?_)
 ·replace e := if_t q9 e
  refine c_sr ?_
  refine o_mv (v := (.bool false)) rfl ?_
  refine c_nil (c_rt ?_)
  obtain rfl := oJ e
  exact ⟨.inr rfl, _, (ar1 rfl), rfl, ((s17.pick [] rfl).weak (g1.trans (g2.trans (g3.trans (g6.trans (g7.trans g8))))) hs.zv)⟩
 replace e := ib_f q9 e
 refine c_sk (c_sr (o_ldB 0 s17 rfl h17 rfl rfl ?_))
 obtain ⟨x7, q10, e⟩ := oB e
 rcases x7 with ⟨_ | y3, x8⟩
 ·rw [Pu.oc2_none] at e
  obtain ⟨Z12, V12, W7, g12, u9, c25, c26, -, c28, c27⟩ := Sat.call (l1 := []) s17
  refine o_call (mc rfl m0) (X.teach_New nd.teach_New c25 (c26 1 _ Sh.int _ _ rfl) (c26 2 _ sI1 _ _ rfl) q10) fun _ H14 i12 => ?_
  dsimp only [ov, oi, List.nil_append, List.append_nil, List.cons_append] at i12
  obtain ⟨b5, u10, u11, rfl, s22⟩ := i12
  have s23 := c27 _ _ s22
  refine o_mv (v := (.tuple #[(.pointer none), vi x8])) rfl ?_
  refine o_ext rfl rfl (o_ext rfl rfl ?_)
  refine o_mv (v := (.pointer none)) rfl ?_
  refine o_mv (v := (vi x8)) rfl ?_
  refine c_nil (c_sq (c_sr ?_))
  refine o_mv (v := (vi x8)) rfl ?_
  refine o_neq rfl rfl ?_
  refine o_mv (v := (.bool (decide (x8 ≠ 0)))) rfl ?_
  refine o_jn 3 (I := fun tm H => tm 48 = .bool true ∧ (∃ (Z13 V13 : PH), Gw Z12 V12 Z13 V13 ∧ Sat Z13 V13 H [pts b1 (.rw 0 [vi x1.Start, (vS d1 x1.Accept), (vS d2 x1.Next)]), Is Sh.int d1 x1.Accept, Is sI1 d2 x1.Next, pts b2 (.rw 0 [vi x2.Start, (vS d3 x2.Accept), (vS d4 x2.Next)]), Is Sh.int d3 x2.Accept, Is sI1 d4 x2.Next] ∧ tm 5 = (pV b1 0) ∧ tm 6 = (pV b2 0) ∧ tm 7 = (.pointer none))) (fun k4 => ?_) ?_
  ·rcases Bool.eq_false_or_eq_true (decide (x8 ≠ 0)) with q11 | q11
   ·refine o_gn rfl q11 (o_gn rfl q11 ?_)
    refine o_pickt (a := (.bool true)) rfl q11 rfl ?_
    exact k4 _ _ ⟨gf rfl (by first | (rw [q11]; first | done | rfl) | simp [q11]), _, _, Gw.refl _ _, s23, h17, h18, rfl⟩
   refine o_gy rfl q11 ?_
   refine o_mv (v := (.pointer none)) rfl ?_
   refine o_gy rfl q11 ?_
   refine o_eq (p := true) rfl rfl rfl ?_
   refine o_pickf (b := (.bool true)) rfl q11 rfl ?_
   exact k4 _ _ ⟨gf rfl (by first | (rw [q11]; first | done | rfl) | simp [q11]), _, _, Gw.refl _ _, s23, h17, h18, rfl⟩
  intro _ H15 i13
  obtain ⟨h25, Z13, V13, g13, s24, h22, h23, h24⟩ := i13
  refine c_nil (c_bt h25 (c_sr ?_))
  refine o_mv (v := (.bool false)) rfl ?_
  refine c_nil (c_rt ?_)
  obtain rfl := oJ e
  exact ⟨.inr rfl, _, (ar1 rfl), rfl, ((s24.pick [] rfl).weak (g1.trans (g2.trans (g3.trans (g6.trans (g7.trans (g8.trans (g12.trans g13))))))) hs.zv)⟩
 rw [Pu.oc2_some] at e
 obtain ⟨Z14, V14, W8, g14, u12, c29, c30, -, c32, c31⟩ := Sat.call (l1 := []) s17
 refine o_call (mc rfl m0) (X.teach_New nd.teach_New c29 (c30 1 _ Sh.int _ _ rfl) (c30 2 _ sI1 _ _ rfl) q10) fun _ H16 i14 => ?_
 dsimp only [ov, oi, List.nil_append, List.append_nil, List.cons_append] at i14
 obtain ⟨b6, w9, w10, rfl, s25⟩ := i14
 have s26 := c31 _ _ s25
 refine o_mv (v := (.tuple #[(pV b6 0), vi x8])) rfl ?_
 refine o_ext rfl rfl (o_ext rfl rfl ?_)
 refine o_mv (v := (pV b6 0)) rfl ?_
 refine o_mv (v := (vi x8)) rfl ?_
 refine c_nil (c_sq (c_sr ?_))
 refine o_mv (v := (vi x8)) rfl ?_
 refine o_neq rfl rfl ?_
 refine o_mv (v := (.bool (decide (x8 ≠ 0)))) rfl ?_
 refine o_jn 3 (I := fun tm H => tm 48 = .bool ((decide (x8 ≠ 0)) || false) ∧ (∃ (Z15 V15 : PH), Gw Z14 V14 Z15 V15 ∧ Sat Z15 V15 H [pts b1 (.rw 0 [vi x1.Start, (vS d1 x1.Accept), (vS d2 x1.Next)]), Is Sh.int d1 x1.Accept, Is sI1 d2 x1.Next, pts b2 (.rw 0 [vi x2.Start, (vS d3 x2.Accept), (vS d4 x2.Next)]), Is Sh.int d3 x2.Accept, Is sI1 d4 x2.Next, pts b6 (.rw 0 [vi y3.d.Start, w9, w10, vi y3.members, vi y3.equal]), It.sl Sh.int w9 y3.d.Accept, It.sl sI1 w10 y3.d.Next] ∧ tm 5 = (pV b1 0) ∧ tm 6 = (pV b2 0) ∧ tm 7 = (pV b6 0))) (fun k5 => ?_) ?_
 ·rcases Bool.eq_false_or_eq_true (decide (x8 ≠ 0)) with q12 | q12
  ·refine o_gn rfl q12 (o_gn rfl q12 ?_)
   refine o_pickt (a := (.bool true)) rfl q12 rfl ?_
   exact k5 _ _ ⟨gf rfl (by first | (rw [q12]; first | done | rfl) | simp [q12]), _, _, Gw.refl _ _, (s26.pick [3, 4, 5, 6, 7, 8, 0, 1, 2] rfl), h17, h18, rfl⟩
  refine o_gy rfl q12 ?_
  refine o_mv (v := (pV b6 0)) rfl ?_
  refine o_gy rfl q12 ?_
  refine o_eq (p := false) rfl rfl rfl ?_
  refine o_pickf (b := (.bool false)) rfl q12 rfl ?_
  exact k5 _ _ ⟨gf rfl (by first | (rw [q12]; first | done | rfl) | simp [q12]), _, _, Gw.refl _ _, (s26.pick [3, 4, 5, 6, 7, 8, 0, 1, 2] rfl), h17, h18, rfl⟩
 intro _ H17 i15
 obtain ⟨h29, Z15, V15, g15, s27, h26, h27, h28⟩ := i15
 refine c_nil ?_
 refine c_if h29 (fun q13 => ?_) (fun q13 => ?_)
 ·replace e := if_t q13 e
  refine c_sr ?_
  refine o_mv (v := (.bool false)) rfl ?_
  refine c_nil (c_rt ?_)
  obtain rfl := oJ e
  exact ⟨.inr rfl, _, (ar1 rfl), rfl, ((s27.pick [] rfl).weak (g1.trans (g2.trans (g3.trans (g6.trans (g7.trans (g8.trans (g14.trans g15))))))) hs.zv)⟩
 replace e := ib_f q13 e
 refine c_sk (c_sr (o_ldB 0 s27 rfl h26 rfl rfl ?_))
 obtain ⟨x9, q14, e⟩ := oB e
 obtain ⟨Z16, V16, W9, g16, u13, c33, c34, -, c36, c35⟩ := Sat.call (l1 := []) s27
 refine o_call (mc rfl m0) (X.mini_Min nd.mini_Min c33 (c34 1 _ Sh.int _ _ rfl) (c34 2 _ sI1 _ _ rfl) q14) fun _ H18 i16 => ?_
 obtain ⟨w11, w12, rfl, s28⟩ := i16
 have s29 := c35 _ _ s28
 refine o_mv (v := (.tuple #[(.agg #[vi x9.1.Start, w11, w12]), vi x9.2])) rfl ?_
 refine o_ext rfl rfl (o_ext rfl rfl ?_)
 refine o_new s29 fun b7 H19 s30 => ?_
 obtain ⟨d7, rfl⟩ := ((s30.curS (s := Sh.int) 1 rfl)).val
 obtain ⟨d8, rfl⟩ := ((s30.curS (s := sI1) 2 rfl)).val
 refine o_stB (us' := [vi x9.1.Start, (vS d7 x9.1.Accept), (vS d8 x9.1.Next)]) 0 s30 rfl rfl rfl rfl rfl rfl rfl fun H20 s31 => ?_
 refine o_mv (v := (vi x9.2)) rfl ?_
 refine c_nil (c_sr (o_mv h28 (o_ldB 0 s31 rfl rfl rfl rfl ?_)))
 obtain ⟨Z17, V17, g17, s32, h30⟩ := s31.frzS 10 rfl
 obtain ⟨Z18, V18, g18, s33, h31⟩ := s32.frzS 10 rfl
 obtain ⟨Z19, V19, g19, s34, h32⟩ := s33.frzS 1 rfl
 obtain ⟨Z20, V20, g20, s35, h33⟩ := s34.frzS 1 rfl
 obtain ⟨x10, q15, e⟩ := oB e
 obtain ⟨d9, rfl⟩ := ((h30.mono (g18.trans (g19.trans g20)).z)).val
 obtain ⟨d10, rfl⟩ := ((h31.mono (g19.trans g20).z)).val
 obtain ⟨Z21, V21, W10, g21, u14, c37, c38, -, c40, c39⟩ := Sat.call (l1 := [pts b6 (.rw 0 [vi y3.d.Start, (vS d9 y3.d.Accept), (vS d10 y3.d.Next), vi y3.members, vi y3.equal])]) (l2 := [pts b7 (.rw 0 [vi x9.1.Start, (vS d7 x9.1.Accept), (vS d8 x9.1.Next)]), pts b1 (.rw 0 [vi x1.Start, (vS d1 x1.Accept), (vS d2 x1.Next)]), Is Sh.int d1 x1.Accept, Is sI1 d2 x1.Next, pts b2 (.rw 0 [vi x2.Start, (vS d3 x2.Accept), (vS d4 x2.Next)]), Is Sh.int d3 x2.Accept, Is sI1 d4 x2.Next]) (s35.pick [7, 0, 1, 2, 3, 4, 5, 6] rfl)
 refine o_call (mc rfl (mc rfl m0)) (X.teach_Teacher_Equal nd.teach_Teacher_Equal (a0 := y3) c37 (h30.mono ((g18.trans (g19.trans g20)).trans g21).z) (h31.mono ((g19.trans g20).trans g21).z) (h32.mono (g20.trans g21).z) (h33.mono g21.z) q15) fun _ H21 i17 => ?_
 obtain ⟨w13, w14, w15, rfl, s36⟩ := i17
 have s37 := c39 _ _ s36
 obtain ⟨Z22, V22, g22, s38, h34⟩ := (s37.pull 1 rfl).frzR
 obtain ⟨Z23, V23, g23, s39, h35⟩ := (s38.pull 1 rfl).frzR
 refine o_mv (v := (.tuple #[(.bool x10.2.1), w15, vi x10.2.2.2])) rfl ?_
 refine o_ext rfl rfl (o_ext rfl rfl (o_ext rfl rfl ?_))
 refine o_mv (v := (.bool x10.2.1)) rfl ?_
 refine o_mv (v := w15) rfl ?_
 refine o_mv (v := (vi x10.2.2.2)) rfl ?_
 refine c_nil ?_
 refine c_gen (P := fun tm => tm 5 = (pV b1 0) ∧ tm 6 = (pV b2 0) ∧ tm 7 = (pV b6 0) ∧ tm 10 = (vi x9.2) ∧ tm 11 = (.bool x10.2.1) ∧ tm 13 = (vi x10.2.2.2) ∧ True) ⟨h26, h27, h28, rfl, rfl, rfl, trivial⟩ ?_
 intro _ i18
 obtain ⟨h36, h37, h38, h39, h40, h41, -⟩ := i18
 refine c_sq (c_sr (o_mv h39 (o_neq rfl rfl ?_)))
 refine o_mv (v := (.bool (decide (x9.2 ≠ 0)))) rfl ?_
 refine o_jn 3 (I := fun tm H => tm 66 = .bool ((decide (x9.2 ≠ 0)) || (decide (x10.2.2.2 ≠ 0))) ∧ (∃ (Z24 V24 : PH), Gw Z23 V23 Z24 V24 ∧ Sat Z24 V24 H [pts b1 (.rw 0 [vi x1.Start, (vS d1 x1.Accept), (vS d2 x1.Next)]), Is Sh.int d1 x1.Accept, Is sI1 d2 x1.Next, pts b2 (.rw 0 [vi x2.Start, (vS d3 x2.Accept), (vS d4 x2.Next)]), Is Sh.int d3 x2.Accept, Is sI1 d4 x2.Next, pts b6 (.rw 0 [vi x10.1.d.Start, w13, w14, vi x10.1.members, vi x10.1.equal])] ∧ tm 5 = (pV b1 0) ∧ tm 6 = (pV b2 0) ∧ tm 7 = (pV b6 0) ∧ tm 11 = (.bool x10.2.1))) (fun k6 => ?_) ?_
 ·rcases Bool.eq_false_or_eq_true (decide (x9.2 ≠ 0)) with q16 | q16
  ·refine o_gn rfl q16 (o_gn rfl q16 ?_)
   refine o_pickt (a := (.bool true)) rfl q16 rfl ?_
   exact k6 _ _ ⟨gf rfl (by first | (rw [q16]; first | done | rfl) | simp [q16]), _, _, Gw.refl _ _, (s39.pick [3, 4, 5, 6, 7, 8, 0] rfl), h36, h37, h38, h40⟩
  refine o_gy rfl q16 (o_mv h41 (o_gy rfl q16 (o_neq rfl rfl ?_)))
  refine o_pickf (b := (.bool (decide (x10.2.2.2 ≠ 0)))) rfl q16 rfl ?_
  exact k6 _ _ ⟨gf rfl (by first | (rw [q16]; first | done | rfl) | simp [q16]), _, _, Gw.refl _ _, (s39.pick [3, 4, 5, 6, 7, 8, 0] rfl), h36, h37, h38, h40⟩
 intro _ H22 i19
 obtain ⟨h46, Z24, V24, g24, s40, h42, h43, h44, h45⟩ := i19
 refine o_mv h46 ?_
 refine o_jn 3 (I := fun tm H => tm 70 = .bool (((decide (x9.2 ≠ 0)) || (decide (x10.2.2.2 ≠ 0))) || (!x10.2.1)) ∧ (∃ (Z25 V25 : PH), Gw Z24 V24 Z25 V25 ∧ Sat Z25 V25 H [pts b1 (.rw 0 [vi x1.Start, (vS d1 x1.Accept), (vS d2 x1.Next)]), Is Sh.int d1 x1.Accept, Is sI1 d2 x1.Next, pts b2 (.rw 0 [vi x2.Start, (vS d3 x2.Accept), (vS d4 x2.Next)]), Is Sh.int d3 x2.Accept, Is sI1 d4 x2.Next, pts b6 (.rw 0 [vi x10.1.d.Start, w13, w14, vi x10.1.members, vi x10.1.equal])] ∧ tm 5 = (pV b1 0) ∧ tm 6 = (pV b2 0) ∧ tm 7 = (pV b6 0))) (fun k7 => ?_) ?_
 ·rcases Bool.eq_false_or_eq_true ((decide (x9.2 ≠ 0)) || (decide (x10.2.2.2 ≠ 0))) with q17 | q17
  ·refine o_gn rfl q17 (o_gn rfl q17 ?_)
   refine o_pickt (a := (.bool true)) rfl q17 rfl ?_
   exact k7 _ _ ⟨gf rfl (by first | (rw [q17]; first | done | rfl) | simp [q17]), _, _, Gw.refl _ _, s40, h42, h43, h44⟩
  refine o_gy rfl q17 (o_mv h45 (o_gy rfl q17 (o_not rfl ?_)))
  refine o_pickf (b := (.bool (!x10.2.1))) rfl q17 rfl ?_
  exact k7 _ _ ⟨gf rfl (by first | (rw [q17]; first | done | rfl) | simp [q17]), _, _, Gw.refl _ _, s40, h42, h43, h44⟩
 intro _ H23 i20
 obtain ⟨h50, Z25, V25, g25, s41, h47, h48, h49⟩ := i20
 refine c_nil ?_
 refine c_if h50 (fun q18 => ?_) (fun q18 => ?_)
 ·replace e := if_t q18 e
  refine c_sr ?_
  refine o_mv (v := (.bool false)) rfl ?_
  refine c_nil (c_rt ?_)
  obtain rfl := oJ e
  exact ⟨.inr rfl, _, (ar1 rfl), rfl, ((s41.pick [] rfl).weak (g1.trans (g2.trans (g3.trans (g6.trans (g7.trans (g8.trans (g14.trans (g15.trans (g16.trans (g17.trans (g18.trans (g19.trans (g20.trans (g21.trans (g22.trans (g23.trans (g24.trans g25))))))))))))))))) hs.zv)⟩
 replace e := ib_f q18 e
 refine c_sk (c_sr (o_mv h49 (o_ldB 3 s41 rfl h48 rfl rfl ?_)))
 obtain ⟨Z26, V26, g26, s42, h51⟩ := s41.frzS 4 rfl
 obtain ⟨Z27, V27, g27, s43, h52⟩ := s42.frzS 4 rfl
 obtain ⟨x11, q19, e⟩ := oB e
 obtain ⟨d11, rfl⟩ := ((h34.mono (g23.trans (g24.trans (g25.trans (g26.trans g27)))).z)).val
 obtain ⟨d12, rfl⟩ := ((h35.mono (g24.trans (g25.trans (g26.trans g27))).z)).val
 obtain ⟨Z28, V28, W11, g28, u15, c41, c42, -, c44, c43⟩ := Sat.call (l1 := [pts b6 (.rw 0 [vi x10.1.d.Start, (vS d11 x10.1.d.Accept), (vS d12 x10.1.d.Next), vi x10.1.members, vi x10.1.equal])]) (l2 := [pts b1 (.rw 0 [vi x1.Start, (vS d1 x1.Accept), (vS d2 x1.Next)]), Is Sh.int d1 x1.Accept, Is sI1 d2 x1.Next, pts b2 (.rw 0 [vi x2.Start, (vS d3 x2.Accept), (vS d4 x2.Next)])]) (s43.pick [4, 0, 1, 2, 3] rfl)
 refine o_call (mc rfl (mc rfl m0)) (X.teach_Teacher_Equal nd.teach_Teacher_Equal (a0 := x10.1) c41 (h34.mono ((g23.trans (g24.trans (g25.trans (g26.trans g27)))).trans g28).z) (h35.mono ((g24.trans (g25.trans (g26.trans g27))).trans g28).z) (h51.mono (g27.trans g28).z) (h52.mono g28.z) q19) fun _ H24 i21 => ?_
 obtain ⟨w16, w17, w18, rfl, s44⟩ := i21
 have s45 := c43 _ _ s44
 obtain ⟨Z29, V29, g29, s46, h53⟩ := (s45.pull 1 rfl).frzR
 obtain ⟨Z30, V30, g30, s47, h54⟩ := (s46.pull 1 rfl).frzR
 refine o_mv (v := (.tuple #[(.bool x11.2.1), w18, vi x11.2.2.2])) rfl ?_
 refine o_ext rfl rfl (o_ext rfl rfl (o_ext rfl rfl ?_))
 refine o_mv (v := (.bool x11.2.1)) rfl ?_
 refine o_mv (v := w18) rfl ?_
 refine o_mv (v := (vi x11.2.2.2)) rfl ?_
 refine c_nil ?_
 refine c_gen (P := fun tm => tm 5 = (pV b1 0) ∧ tm 6 = (pV b2 0) ∧ tm 7 = (pV b6 0) ∧ tm 11 = (.bool x11.2.1) ∧ tm 13 = (vi x11.2.2.2) ∧ tm 14 = w18 ∧ True) ⟨h47, h48, h49, rfl, rfl, rfl, trivial⟩ ?_
 intro _ i22
 obtain ⟨h55, h56, h57, h58, h59, h60, -⟩ := i22
 refine c_sq (c_sq ?_)
 refine d_start s47 fun n1 H25 s48 q20 d13 => ?_
 refine d_fad h56 ?_
 refine d_ldB (q20 _ _ (ph_some.2 ⟨s48.curB 5 rfl, by simp⟩)) 5 s48 rfl rfl rfl rfl ?_
 obtain ⟨x12, q21, e⟩ := oB e
 refine d_idx (v := (vS d4 x2.Next)) rfl rfl (h52.mono (g28.trans (g29.trans g30)).z) rfl q21 fun p1 q22 => ?_
 refine d_lds (RdS.low (h52.mono (g28.trans (g29.trans g30)).z) s48.z q20) rfl h52 ((g28.trans (g29.trans g30)).z.trans s48.z) q22 q21 fun w19 h61 => ?_
 refine d_len rfl ((h61.mono (g28.trans (g29.trans g30)).z)).len ?_
 refine d_mv h57 ?_
 obtain ⟨x13, q23, e⟩ := oB e
 obtain ⟨d14, rfl⟩ := ((h53.mono g30.z)).val
 obtain ⟨d15, rfl⟩ := (h54).val
 obtain ⟨Z31, V31, W12, g31, u16, c45, c46, -, c48, c47⟩ := Sat.call (l1 := [pts b6 (.rw 0 [vi x11.1.d.Start, (vS d14 x11.1.d.Accept), (vS d15 x11.1.d.Next), vi x11.1.members, vi x11.1.equal])]) (l2 := [It.sl Sh.int w18 x11.2.2.1, pts b1 (.rw 0 [vi x1.Start, (vS d1 x1.Accept), (vS d2 x1.Next)]), Is Sh.int d1 x1.Accept, Is sI1 d2 x1.Next, pts b2 (.rw 0 [vi x2.Start, (vS d3 x2.Accept), (vS d4 x2.Next)])]) s48
 refine d_call (mc rfl m0) (X.teach_Teacher_Symbols nd.teach_Teacher_Symbols (a0 := x11.1) c45 (h53.mono ((g30.trans g31).z.trans c45.zv)) (h54.mono (g31.z.trans c45.zv)) q23) fun _ H26 i23 k8 => ?_
 have d16 := d13.keep k8
 obtain ⟨rfl, s49⟩ := i23
 have s50 := c47 _ _ s49
 refine d_neq rfl rfl ?_
 refine d_nil (dc_mk rfl (ta4 (ta2 (tra (tre (trl tr0))))) (ta2 (tre (tl4 (tl2 tr0)))) (tra (tre (tl4 (tl2 (trl tr0))))) (ag_ldx (w := (vS d4 x2.Next)) w_0 rfl (ldB_v 5 s48 rfl rfl rfl) (ldB_v 5 s48 rfl rfl rfl) (by simp [vsame, vsame1])) (ag_ldx (w := (vS d4 x2.Next)) w_0 rfl (ldB_v 5 s48 rfl rfl rfl) (ldB_v 5 s50 rfl rfl rfl) (by simp [vsame, vsame1])) (dc_mk rfl (ta4 (tra (tre (tl2 (trl tr0))))) (ta2 (tre (tl4 (tl2 tr0)))) (tra (tre (tl4 (tl2 (trl tr0))))) (ag_ldE w_0 h52 q21 rfl q22 rfl (g28.z.trans (g29.z.trans (g30.z.trans s48.z))) (g28.z.trans (g29.z.trans (g30.z.trans s48.z))) vs_sl) (ag_ldE w_0 h52 q21 rfl q22 rfl (g28.z.trans (g29.z.trans (g30.z.trans s48.z))) (g28.z.trans (g29.z.trans (g30.z.trans (g31.z.trans s50.z)))) vs_sl) dc_nil)) ?_
 refine c_ifd rfl (fun q24 => ?_) (fun q24 => ?_)
 ·replace e := if_t q24 e
  refine c_sr (o_mv h59 (o_eql rfl rfl ?_))
  refine o_mv (v := (.bool (decide (x11.2.2.2 = 1)))) rfl ?_
  refine c_nil ?_
  refine c_gen (P := fun tm => tm 4 = (.bool (decide (x11.2.2.2 = 1))) ∧ True) ⟨rfl, trivial⟩ ?_
  intro _ i24
  obtain ⟨h62, -⟩ := i24
  refine c_rt ?_
  obtain rfl := oJ e
  exact ⟨.inr rfl, _, (ar1 h62), rfl, ((s50.pick [] rfl).weak (g1.trans (g2.trans (g3.trans (g6.trans (g7.trans (g8.trans (g14.trans (g15.trans (g16.trans (g17.trans (g18.trans (g19.trans (g20.trans (g21.trans (g22.trans (g23.trans (g24.trans (g25.trans (g26.trans (g27.trans (g28.trans (g29.trans (g30.trans g31))))))))))))))))))))))) hs.zv)⟩
 replace e := if_f q24 e
 refine c_sk (c_sq (c_sq ?_))
 obtain ⟨y4, e2, e⟩ := oB e
 refine c_jn (I := fun tm H => ∃ (Z32 V32 : PH), Gw Z31 V31 Z32 V32 ∧ Sat Z32 V32 H [pts b1 (.rw 0 [vi x1.Start, (vS d1 x1.Accept), (vS d2 x1.Next)]), Is Sh.int d1 x1.Accept, Is sI1 d2 x1.Next, pts b2 (.rw 0 [vi x2.Start, (vS d3 x2.Accept), (vS d4 x2.Next)]), pts b6 (.rw 0 [vi x11.1.d.Start, (vS d14 x11.1.d.Accept), (vS d15 x11.1.d.Next), vi x11.1.members, vi x11.1.equal]), It.sl Sh.int w18 x11.2.2.1] ∧ tm 5 = (pV b1 0) ∧ tm 6 = (pV b2 0) ∧ tm 7 = (pV b6 0) ∧ tm 11 = (.bool x11.2.1) ∧ tm 14 = w18 ∧ tm 103 = (.bool y4)) (fun k9 => ?_) ?_
 ·refine c_gen (P := fun tm => tm 5 = (pV b1 0) ∧ tm 6 = (pV b2 0) ∧ tm 7 = (pV b6 0) ∧ tm 11 = (.bool x11.2.1) ∧ tm 13 = (vi x11.2.2.2) ∧ tm 14 = w18 ∧ True) ⟨h55, h56, h57, h58, h59, h60, trivial⟩ ?_
  intro _ i25
  obtain ⟨h69, h70, h71, h72, h73, h74, -⟩ := i25
  refine d_start s50 fun n2 H28 s52 q25 d17 => ?_
  refine d_mv h73 ?_
  refine d_neq rfl rfl ?_
  refine d_mv (v := (.bool (decide (x11.2.2.2 ≠ 0)))) rfl ?_
  rcases Bool.eq_false_or_eq_true (decide (x11.2.2.2 ≠ 0)) with q26 | q26
  ·replace e2 := if_t q26 e2
   refine d_gn rfl q26 ?_
   refine d_gn rfl q26 ?_
   refine d_gn rfl q26 ?_
   refine d_gn rfl q26 ?_
   refine d_gn rfl q26 ?_
   refine d_gu rfl ?_
   refine d_gu rfl ?_
   refine d_gu rfl ?_
   refine d_gu rfl ?_
   refine d_gu rfl ?_
   refine d_gn rfl q26 ?_
   refine d_gn rfl q26 ?_
   refine d_pickt (a := (.bool true)) rfl q26 rfl ?_
   refine d_nil (dc_mk rfl (ta4 (ta2 (tre (tl8 (tl2 tr0))))) (ta4 (ta2 (tra (tre (tl8 (trl tr0)))))) (ta4 (ta2 (tre (tl8 (tl2 tr0))))) (ag_no (w_u rfl)) (ag_no (w_u rfl)) dc_nil) ?_
   obtain rfl := oJ e2
   exact k9 _ _ ⟨_, _, Gw.refl _ _, (s52.pick [2, 3, 4, 5, 0, 1] rfl), h69, h70, h71, h72, h74, rfl⟩
  replace e2 := ib_f q26 e2
  refine d_want rfl q26 ?_
  refine d_mv h72 ?_
  refine d_want rfl q26 ?_
  refine d_mv h74 ?_
  refine d_want rfl q26 ?_
  refine d_len rfl ((s52.curS (s := Sh.int) 1 rfl)).len ?_
  refine d_want rfl q26 ?_
  refine d_eql rfl rfl ?_
  refine d_want rfl q26 ?_
  refine d_mv (v := (.bool (decide ((x11.2.2.1.length : Int) = 0)))) rfl ?_
  rcases Bool.eq_false_or_eq_true (decide ((x11.2.2.1.length : Int) = 0)) with q27 | q27
  ·replace e2 := if_t q27 e2
   refine d_want rfl q27 ?_
   refine d_ldB (q25 _ _ (ph_some.2 ⟨s52.curB 2 rfl, by simp⟩)) 2 s52 rfl h69 rfl rfl ?_
   refine d_want rfl q27 ?_
   obtain ⟨x14, q28, e2⟩ := oB e2
   obtain ⟨Z33, V33, W13, g33, u17, c49, c50, -, c52, c51⟩ := Sat.call (l1 := []) s52
   refine d_call (mc rfl (mc rfl m0)) (X.parlkeep5_accepts nd.parlkeep5_accepts c49 (c50 3 _ Sh.int _ _ rfl) (c50 4 _ sI1 _ _ rfl) RdS.nil q28) fun _ H29 i26 k10 => ?_
   have d18 := d17.keep k10
   obtain ⟨rfl, s53⟩ := i26
   have s54 := c51 _ _ s53
   refine d_want rfl q27 ?_
   refine d_ldB (q25 _ _ (ph_some.2 ⟨s52.curB 5 rfl, by simp⟩)) 5 s54 rfl h70 rfl rfl ?_
   refine d_want rfl q27 ?_
   obtain ⟨x15, q29, e2⟩ := oB e2
   obtain ⟨Z34, V34, W14, g34, u18, c53, c54, -, c56, c55⟩ := Sat.call (l1 := []) s54
   refine d_call (mc rfl (mc rfl m0)) (X.parlkeep5_accepts nd.parlkeep5_accepts c53 (h51.mono (((g27.trans (g28.trans (g29.trans (g30.trans (g31.trans g33))))).trans g34).z.trans c53.zv)) (h52.mono (((g28.trans (g29.trans (g30.trans (g31.trans g33)))).trans g34).z.trans c53.zv)) RdS.nil q29) fun _ H30 i27 k11 => ?_
   have d19 := d18.keep k11
   obtain ⟨rfl, s55⟩ := i27
   have s56 := c55 _ _ s55
   refine d_want rfl q27 ?_
   refine d_eq (q_bool _ _) rfl rfl ?_
   refine d_want rfl q26 ?_
   refine d_pickt (a := (.bool (x14 == x15))) rfl q27 rfl ?_
   refine d_want rfl q26 ?_
   refine d_eq (q_nbool _ _) rfl rfl ?_
   refine d_pickf (b := (.bool (!(x11.2.1 == (x14 == x15))))) rfl q26 rfl ?_
   refine d_nil (dc_mk rfl (ta4 (ta2 (tre (tl8 (tl2 tr0))))) (ta4 (ta2 (tra (tre (tl8 (trl tr0)))))) (ta4 (ta2 (tre (tl8 (tl2 tr0))))) (ag_ldx (w := (.agg #[vi x2.Start, (vS d3 x2.Accept), (vS d4 x2.Next)])) (w_y rfl q27) h70 (ldB_v 5 s54 rfl rfl rfl) (ldB_v 5 s52 rfl rfl rfl) (by simp [vsame, vsame1])) (ag_ldx (w := (.agg #[vi x2.Start, (vS d3 x2.Accept), (vS d4 x2.Next)])) (w_y rfl q27) h70 (ldB_v 5 s54 rfl rfl rfl) (ldB_v 5 s54 rfl rfl rfl) (by simp [vsame, vsame1])) dc_nil) ?_
   obtain rfl := oJ e2
   exact k9 _ _ ⟨_, _, (g33.trans g34), (s56.pick [2, 3, 4, 5, 0, 1] rfl), h69, h70, h71, h72, h74, rfl⟩
  replace e2 := ib_f q27 e2
  refine d_gn rfl q27 ?_
  refine d_gn rfl q27 ?_
  refine d_gn rfl q27 ?_
  refine d_gn rfl q27 ?_
  refine d_gn rfl q27 ?_
  refine d_want rfl q26 ?_
  refine d_pickf (b := (.bool false)) rfl q27 rfl ?_
  refine d_want rfl q26 ?_
  refine d_eq (q_nbool _ _) rfl rfl ?_
  refine d_pickf (b := (.bool (!(x11.2.1 == false)))) rfl q26 rfl ?_
  refine d_nil (dc_mk rfl (ta4 (ta2 (tre (tl8 (tl2 tr0))))) (ta4 (ta2 (tra (tre (tl8 (trl tr0)))))) (ta4 (ta2 (tre (tl8 (tl2 tr0))))) (ag_no (w_n rfl q27)) (ag_no (w_n rfl q27)) dc_nil) ?_
  obtain rfl := oJ e2
  exact k9 _ _ ⟨_, _, Gw.refl _ _, (s52.pick [2, 3, 4, 5, 0, 1] rfl), h69, h70, h71, h72, h74, rfl⟩
 intro _ H27 i28
 obtain ⟨Z32, V32, g32, s51, h63, h64, h65, h66, h67, h68⟩ := i28
 refine c_if h68 (fun q30 => ?_) (fun q30 => ?_)
 ·replace e := if_t q30 e
  refine c_sr ?_
  refine o_mv (v := (.bool false)) rfl ?_
  refine c_nil (c_rt ?_)
  obtain rfl := oJ e
  exact ⟨.inr rfl, _, (ar1 rfl), rfl, ((s51.pick [] rfl).weak (g1.trans (g2.trans (g3.trans (g6.trans (g7.trans (g8.trans (g14.trans (g15.trans (g16.trans (g17.trans (g18.trans (g19.trans (g20.trans (g21.trans (g22.trans (g23.trans (g24.trans (g25.trans (g26.trans (g27.trans (g28.trans (g29.trans (g30.trans (g31.trans g32)))))))))))))))))))))))) hs.zv)⟩
 replace e := ib_f q30 e
 refine c_sk (c_sq (c_sr (o_mv h66 ?_)))
 refine o_mv (v := (.bool x11.2.1)) rfl ?_
 refine o_jn 4 (I := fun tm H => tm 109 = .bool (x11.2.1 || (decide (5 < (x11.2.2.1.length : Int)))) ∧ (∃ (Z35 V35 : PH), Gw Z32 V32 Z35 V35 ∧ Sat Z35 V35 H [pts b1 (.rw 0 [vi x1.Start, (vS d1 x1.Accept), (vS d2 x1.Next)]), Is Sh.int d1 x1.Accept, Is sI1 d2 x1.Next, pts b2 (.rw 0 [vi x2.Start, (vS d3 x2.Accept), (vS d4 x2.Next)]), pts b6 (.rw 0 [vi x11.1.d.Start, (vS d14 x11.1.d.Accept), (vS d15 x11.1.d.Next), vi x11.1.members, vi x11.1.equal]), It.sl Sh.int w18 x11.2.2.1] ∧ tm 5 = (pV b1 0) ∧ tm 6 = (pV b2 0) ∧ tm 7 = (pV b6 0) ∧ tm 11 = (.bool x11.2.1) ∧ tm 14 = w18)) (fun k12 => ?_) ?_
 ·rcases Bool.eq_false_or_eq_true x11.2.1 with q31 | q31
  ·refine o_gn rfl q31 (o_gn rfl q31 (o_gn rfl q31 ?_))
   refine o_pickt (a := (.bool true)) rfl q31 rfl ?_
   exact k12 _ _ ⟨gf rfl (by first | (rw [q31]; first | done | rfl) | simp [q31]), _, _, Gw.refl _ _, s51, h63, h64, h65, h66, h67⟩
  refine o_gy rfl q31 (o_mv h67 (o_gy rfl q31 ?_))
  refine o_len rfl ((s51.curS (s := Sh.int) 5 rfl)).len ?_
  refine o_gy rfl q31 (o_gtr rfl rfl ?_)
  refine o_pickf (b := (.bool (decide (5 < (x11.2.2.1.length : Int))))) rfl q31 rfl ?_
  exact k12 _ _ ⟨gf rfl (by first | (rw [q31]; first | done | rfl) | simp [q31]), _, _, Gw.refl _ _, s51, h63, h64, h65, h66, h67⟩
 intro _ H31 i29
 obtain ⟨h80, Z35, V35, g35, s57, h75, h76, h77, h78, h79⟩ := i29
 refine c_nil ?_
 refine c_if h80 (fun q32 => ?_) (fun q32 => ?_)
 ·replace e := if_t q32 e
  refine c_sq ?_
  obtain ⟨y5, e3, e⟩ := oB e
  refine c_jn (I := fun tm H => ∃ (Z36 V36 : PH), Gw Z35 V35 Z36 V36 ∧ Sat Z36 V36 H [] ∧ tm 4 = (.bool y5)) (fun k13 => ?_) ?_
  ·refine d_start s57 fun n3 H33 s59 q33 d20 => ?_
   refine d_mv h78 ?_
   refine d_mv (v := (.bool x11.2.1)) rfl ?_
   rcases Bool.eq_false_or_eq_true x11.2.1 with q34 | q34
   ·replace e3 := if_t q34 e3
    refine d_gn rfl q34 ?_
    refine d_gn rfl q34 ?_
    refine d_gn rfl q34 ?_
    refine d_gn rfl q34 ?_
    refine d_gn rfl q34 ?_
    refine d_gn rfl q34 ?_
    refine d_gn rfl q34 ?_
    refine d_pickt (a := (.bool true)) rfl q34 rfl ?_
    refine d_mv (v := (.bool true)) rfl ?_
    refine d_nil (dc_mk rfl (ta4 (ta2 (tre (tl4 (trl tr0))))) (ta4 (ta2 (tra (tre (tl4 tr0))))) (ta4 (ta2 (tre (tl4 (trl tr0))))) (ag_no (w_n rfl q34)) (ag_no (w_n rfl q34)) dc_nil) ?_
    obtain rfl := oJ e3
    exact k13 _ _ ⟨_, _, Gw.refl _ _, (s59.pick [] rfl), rfl⟩
   replace e3 := ib_f q34 e3
   refine d_want rfl q34 ?_
   refine d_ldB (q33 _ _ (ph_some.2 ⟨s59.curB 0 rfl, by simp⟩)) 0 s59 rfl h75 rfl rfl ?_
   refine d_want rfl q34 ?_
   refine d_mv h79 ?_
   refine d_want rfl q34 ?_
   obtain ⟨x16, q35, e3⟩ := oB e3
   obtain ⟨Z37, V37, W15, g37, u19, c57, c58, -, c60, c59⟩ := Sat.call (l1 := []) s59
   refine d_call (mc rfl (mc rfl m0)) (X.parlkeep5_accepts nd.parlkeep5_accepts c57 (c58 1 _ Sh.int _ _ rfl) (c58 2 _ sI1 _ _ rfl) (c58 5 _ Sh.int _ _ rfl) q35) fun _ H34 i30 k14 => ?_
   have d21 := d20.keep k14
   obtain ⟨rfl, s60⟩ := i30
   have s61 := c59 _ _ s60
   refine d_want rfl q34 ?_
   refine d_ldB (q33 _ _ (ph_some.2 ⟨s59.curB 3 rfl, by simp⟩)) 3 s61 rfl h76 rfl rfl ?_
   refine d_want rfl q34 ?_
   refine d_mv h79 ?_
   refine d_want rfl q34 ?_
   obtain ⟨x17, q36, e3⟩ := oB e3
   obtain ⟨Z38, V38, W16, g38, u20, c61, c62, -, c64, c63⟩ := Sat.call (l1 := []) s61
   refine d_call (mc rfl (mc rfl m0)) (X.parlkeep5_accepts nd.parlkeep5_accepts c61 (h51.mono (((g27.trans (g28.trans (g29.trans (g30.trans (g31.trans (g32.trans (g35.trans g37))))))).trans g38).z.trans c61.zv)) (h52.mono (((g28.trans (g29.trans (g30.trans (g31.trans (g32.trans (g35.trans g37)))))).trans g38).z.trans c61.zv)) (c62 5 _ Sh.int _ _ rfl) q36) fun _ H35 i31 k15 => ?_
   have d22 := d21.keep k15
   obtain ⟨rfl, s62⟩ := i31
   have s63 := c63 _ _ s62
   refine d_want rfl q34 ?_
   refine d_eq (q_nbool _ _) rfl rfl ?_
   refine d_pickf (b := (.bool (!(x16 == x17)))) rfl q34 rfl ?_
   refine d_mv (v := (.bool (!(x16 == x17)))) rfl ?_
   refine d_nil (dc_mk rfl (ta4 (ta2 (tre (tl4 (trl tr0))))) (ta4 (ta2 (tra (tre (tl4 tr0))))) (ta4 (ta2 (tre (tl4 (trl tr0))))) (ag_ldx (w := (.agg #[vi x2.Start, (vS d3 x2.Accept), (vS d4 x2.Next)])) (w_y rfl q34) h76 (ldB_v 3 s61 rfl rfl rfl) (ldB_v 3 s59 rfl rfl rfl) (by simp [vsame, vsame1])) (ag_ldx (w := (.agg #[vi x2.Start, (vS d3 x2.Accept), (vS d4 x2.Next)])) (w_y rfl q34) h76 (ldB_v 3 s61 rfl rfl rfl) (ldB_v 3 s61 rfl rfl rfl) (by simp [vsame, vsame1])) dc_nil) ?_
   obtain rfl := oJ e3
   exact k13 _ _ ⟨_, _, (g37.trans g38), (s63.pick [] rfl), rfl⟩
  intro _ H32 i32
  obtain ⟨Z36, V36, g36, s58, h81⟩ := i32
  refine c_rt ?_
  obtain rfl := oJ e
  exact ⟨.inr rfl, _, (ar1 h81), rfl, (s58.weak (g1.trans (g2.trans (g3.trans (g6.trans (g7.trans (g8.trans (g14.trans (g15.trans (g16.trans (g17.trans (g18.trans (g19.trans (g20.trans (g21.trans (g22.trans (g23.trans (g24.trans (g25.trans (g26.trans (g27.trans (g28.trans (g29.trans (g30.trans (g31.trans (g32.trans (g35.trans g36)))))))))))))))))))))))))) hs.zv)⟩
 replace e := ib_f q32 e
 refine c_sk (c_sq (c_sr (o_mv h79 ?_)))
 refine o_len rfl ((s57.curS (s := Sh.int) 5 rfl)).len ?_
 refine o_add rfl rfl ?_
 refine o_mv (v := (vi 0)) rfl ?_
 refine c_nil ?_
 obtain ⟨x19, q39, e⟩ := oB e
 obtain ⟨rfl, q41⟩ := ranO_some q39
 obtain ⟨y6, q42, e⟩ := oB e
 refine c_jn (I := fun tm H => ∃ (s66 : Unit), y6 = .out s66 ∧ (∃ (Z40 V40 : PH), Gw Z35 V35 Z40 V40 ∧ Sat Z40 V40 H [pts b1 (.rw 0 [vi x1.Start, (vS d1 x1.Accept), (vS d2 x1.Next)]), Is Sh.int d1 x1.Accept, Is sI1 d2 x1.Next, pts b2 (.rw 0 [vi x2.Start, (vS d3 x2.Accept), (vS d4 x2.Next)]), pts b6 (.rw 0 [vi x11.1.d.Start, (vS d14 x11.1.d.Accept), (vS d15 x11.1.d.Next), vi x11.1.members, vi x11.1.equal]), It.sl Sh.int w18 x11.2.2.1] ∧ tm 5 = (pV b1 0) ∧ tm 6 = (pV b2 0) ∧ tm 7 = (pV b6 0) ∧ tm 14 = w18 ∧ tm 122 = (vi (Pu.W ((x11.2.2.1.length : Int) + 1))))) (fun k19 => ?_) ?_
 ·refine c_bk ?_
  refine l_forL (xs := (Pu.ran (Pu.W ((x11.2.2.1.length : Int) + 1)))) (fun (i33 : Nat) (s64 : Unit) tm H => tm 123 = vi i33 ∧ ∃ (Z39 V39 : PH), Gw Z35 V35 Z39 V39 ∧ Sat Z39 V39 H [pts b1 (.rw 0 [vi x1.Start, (vS d1 x1.Accept), (vS d2 x1.Next)]), Is Sh.int d1 x1.Accept, Is sI1 d2 x1.Next, pts b2 (.rw 0 [vi x2.Start, (vS d3 x2.Accept), (vS d4 x2.Next)]), pts b6 (.rw 0 [vi x11.1.d.Start, (vS d14 x11.1.d.Accept), (vS d15 x11.1.d.Next), vi x11.1.members, vi x11.1.equal]), It.sl Sh.int w18 x11.2.2.1] ∧ tm 5 = (pV b1 0) ∧ tm 6 = (pV b2 0) ∧ tm 7 = (pV b6 0) ∧ tm 14 = w18 ∧ tm 122 = (vi (Pu.W ((x11.2.2.1.length : Int) + 1)))) (fun i33 x18 s64 y7 tm H37 q37 q38 j1 e4 k16 k17 k18 => ?_) (fun s64 tm H36 jf jd => ?_) q42 ⟨rfl, _, _, Gw.refl _ _, s57, h75, h76, h77, h79, rfl⟩
  ·obtain ⟨hti0, Z39, V39, g39, s65, h82, h83, h84, h85, h86⟩ := j1
   unfold P.parlkeep5_TeachDiffers.b0 at e4
   have hti0 := iv hti0 (ran_x q37).symm
   refine c_sr (o_lss hti0 h86 (c_nil (c_sq ?_)))
   refine c_ift rfl (ran_lt q37) ?_
   refine c_sk (c_sq (c_bk (c_sr (o_mv hti0 ?_))))
   refine o_mv (v := (vi x18)) rfl ?_
   refine c_nil (c_sr (o_mv h84 ?_))
   obtain ⟨x20, q43, e4⟩ := oB e4
   obtain ⟨Z41, V41, W17, g41, u21, c65, c66, -, c68, c67⟩ := Sat.call (l1 := [pts b6 (.rw 0 [vi x11.1.d.Start, (vS d14 x11.1.d.Accept), (vS d15 x11.1.d.Next), vi x11.1.members, vi x11.1.equal])]) (l2 := [pts b1 (.rw 0 [vi x1.Start, (vS d1 x1.Accept), (vS d2 x1.Next)]), Is Sh.int d1 x1.Accept, Is sI1 d2 x1.Next, pts b2 (.rw 0 [vi x2.Start, (vS d3 x2.Accept), (vS d4 x2.Next)]), It.sl Sh.int w18 x11.2.2.1]) (s65.pick [4, 0, 1, 2, 3, 5] rfl)
   refine o_call (mc rfl m0) (X.teach_Teacher_Symbols nd.teach_Teacher_Symbols (a0 := x11.1) c65 (h53.mono (((g30.trans (g31.trans (g32.trans (g35.trans g39)))).trans g41).z.trans c65.zv)) (h54.mono (((g31.trans (g32.trans (g35.trans g39))).trans g41).z.trans c65.zv)) q43) fun _ H39 i34 => ?_
   obtain ⟨rfl, s68⟩ := i34
   have s69 := c67 _ _ s68
   refine o_mv (v := (vi x18)) rfl ?_
   obtain ⟨x21, q44, e4⟩ := oB e4
   obtain ⟨Z42, V42, W18, g42, u22, c69, c70, -, c72, c71⟩ := Sat.call (l1 := []) s69
   refine o_call (mc rfl (mc rfl m0)) (X.parlkeep5_words nd.parlkeep5_words c69 q44) fun w20 H40 i35 => ?_
   obtain ⟨_, rfl, s70⟩ := i35
   have s71 := c71 _ _ s70
   refine o_len rfl ((s71.curS (s := (Sh.ro sI1)) 0 rfl)).len ?_
   refine o_mv (v := (vi 0)) rfl ?_
   refine c_nil ?_
   obtain ⟨y8, q47, e4⟩ := oB e4
   refine c_jn (I := fun tm H => ∃ (s74 : Unit), y8 = .out s74 ∧ (∃ (Z44 V44 : PH), Gw Z42 V42 Z44 V44 ∧ Sat Z44 V44 H [pts b1 (.rw 0 [vi x1.Start, (vS d1 x1.Accept), (vS d2 x1.Next)]), Is Sh.int d1 x1.Accept, Is sI1 d2 x1.Next, pts b2 (.rw 0 [vi x2.Start, (vS d3 x2.Accept), (vS d4 x2.Next)]), pts b6 (.rw 0 [vi x11.1.d.Start, (vS d14 x11.1.d.Accept), (vS d15 x11.1.d.Next), vi x11.1.members, vi x11.1.equal]), It.sl Sh.int w18 x11.2.2.1, It.sl (Sh.ro sI1) w20 x21] ∧ tm 5 = (pV b1 0) ∧ tm 6 = (pV b2 0) ∧ tm 7 = (pV b6 0) ∧ tm 14 = w18 ∧ tm 122 = (vi (Pu.W ((x11.2.2.1.length : Int) + 1))) ∧ tm 123 = (vi x18) ∧ tm 129 = w20 ∧ tm 130 = (vN x21))) (fun k23 => ?_) ?_
   ·refine c_bk ?_
    refine l_forL (xs := x21) (fun (i36 : Nat) (s72 : Unit) tm H => tm 131 = vi i36 ∧ ∃ (Z43 V43 : PH), Gw Z42 V42 Z43 V43 ∧ Sat Z43 V43 H [pts b1 (.rw 0 [vi x1.Start, (vS d1 x1.Accept), (vS d2 x1.Next)]), Is Sh.int d1 x1.Accept, Is sI1 d2 x1.Next, pts b2 (.rw 0 [vi x2.Start, (vS d3 x2.Accept), (vS d4 x2.Next)]), pts b6 (.rw 0 [vi x11.1.d.Start, (vS d14 x11.1.d.Accept), (vS d15 x11.1.d.Next), vi x11.1.members, vi x11.1.equal]), It.sl Sh.int w18 x11.2.2.1, It.sl (Sh.ro sI1) w20 x21] ∧ tm 5 = (pV b1 0) ∧ tm 6 = (pV b2 0) ∧ tm 7 = (pV b6 0) ∧ tm 14 = w18 ∧ tm 122 = (vi (Pu.W ((x11.2.2.1.length : Int) + 1))) ∧ tm 123 = (vi x18) ∧ tm 129 = w20 ∧ tm 130 = (vN x21)) (fun i36 x22 s72 y9 tm H42 q45 q46 j2 e5 k20 k21 k22 => ?_) (fun s72 tm H41 jf jd => ?_) q47 ⟨rfl, _, _, Gw.refl _ _, (s71.pick [2, 3, 4, 5, 1, 6, 0] rfl), h82, h83, h84, h85, h86, hti0, rfl, rfl⟩
    ·obtain ⟨hti1, Z43, V43, g43, s73, h92, h93, h94, h95, h96, h97, h98, h99⟩ := j2
     unfold P.parlkeep5_TeachDiffers.b1 at e5
     refine c_sr (o_lss hti1 h99 (c_nil (c_sq ?_)))
     refine c_ift rfl (Int.ofNat_lt.2 q46) ?_
     refine c_sk (c_sq (c_bk (c_sr ?_)))
     refine o_idx (v := w20) h98 hti1 (s73.curS (s := (Sh.ro sI1)) 6 rfl) rfl (Pu.ix_nat.trans q45) fun p2 q48 => ?_
     refine o_ldos 6 s73 rfl rfl q48 (Pu.ix_nat.trans q45) fun Z45 V45 w21 g45 s76 h108 => ?_
     refine o_mv (v := w21) rfl ?_
     refine c_nil (c_sq (c_sr ?_))
     refine o_mv (v := w21) rfl ?_
     refine o_mv h95 ?_
     obtain ⟨x23, q49, e5⟩ := oB e5
     obtain ⟨Z46, V46, W19, g46, u23, c73, c74, -, c76, c75⟩ := Sat.call (l1 := []) s76
     refine o_call (mc rfl (mc rfl m0)) (X.slices_Equal_int_int nd.slices_Equal_int_int c73 (h108.mono (g46.z.trans c73.zv)) (c74 5 _ Sh.int _ _ rfl) q49) fun _ H44 i37 => ?_
     obtain ⟨rfl, s77⟩ := i37
     have s78 := c75 _ _ s77
     refine c_nil ?_
     refine c_if rfl (fun q50 => ?_) (fun q50 => ?_)
     ·replace e5 := if_t q50 e5
      refine c_sq ?_
      refine c_gen (P := fun tm => tm 5 = (pV b1 0) ∧ tm 6 = (pV b2 0) ∧ tm 14 = w18 ∧ True) ⟨h92, h93, h95, trivial⟩ ?_
      intro _ i38
      obtain ⟨h109, h110, h111, -⟩ := i38
      refine d_start s78 fun n4 H45 s79 q51 d23 => ?_
      refine d_ldB (q51 _ _ (ph_some.2 ⟨s79.curB 0 rfl, by simp⟩)) 0 s79 rfl h109 rfl rfl ?_
      refine d_mv h111 ?_
      obtain ⟨x24, q52, e5⟩ := oB e5
      obtain ⟨Z47, V47, W20, g47, u24, c77, c78, -, c80, c79⟩ := Sat.call (l1 := []) s79
      refine d_call (mc rfl (mc rfl m0)) (X.parlkeep5_accepts nd.parlkeep5_accepts c77 (c78 1 _ Sh.int _ _ rfl) (c78 2 _ sI1 _ _ rfl) (c78 5 _ Sh.int _ _ rfl) q52) fun _ H46 i39 k24 => ?_
      have d24 := d23.keep k24
      obtain ⟨rfl, s80⟩ := i39
      have s81 := c79 _ _ s80
      refine d_ldB (q51 _ _ (ph_some.2 ⟨s79.curB 3 rfl, by simp⟩)) 3 s81 rfl h110 rfl rfl ?_
      refine d_mv h111 ?_
      obtain ⟨x25, q53, e5⟩ := oB e5
      obtain ⟨Z48, V48, W21, g48, u25, c81, c82, -, c84, c83⟩ := Sat.call (l1 := []) s81
      refine d_call (mc rfl (mc rfl m0)) (X.parlkeep5_accepts nd.parlkeep5_accepts c81 (h51.mono (((g27.trans (g28.trans (g29.trans (g30.trans (g31.trans (g32.trans (g35.trans (g39.trans (g41.trans (g42.trans (g43.trans (g45.trans (g46.trans g47))))))))))))).trans g48).z.trans c81.zv)) (h52.mono (((g28.trans (g29.trans (g30.trans (g31.trans (g32.trans (g35.trans (g39.trans (g41.trans (g42.trans (g43.trans (g45.trans (g46.trans g47)))))))))))).trans g48).z.trans c81.zv)) (c82 5 _ Sh.int _ _ rfl) q53) fun _ H47 i40 k25 => ?_
      have d25 := d24.keep k25
      obtain ⟨rfl, s82⟩ := i40
      have s83 := c83 _ _ s82
      refine d_eq (q_nbool _ _) rfl rfl ?_
      refine d_mv (v := (.bool (!(x24 == x25)))) rfl ?_
      refine d_nil (dc_mk rfl (ta4 (tra (tre (tl2 (trl tr0))))) (ta4 (ta2 (tre (tl2 tr0)))) (ta4 (tra (tre (tl2 (trl tr0))))) (ag_ldx (w := (.agg #[vi x2.Start, (vS d3 x2.Accept), (vS d4 x2.Next)])) w_0 h110 (ldB_v 3 s81 rfl rfl rfl) (ldB_v 3 s79 rfl rfl rfl) (by simp [vsame, vsame1])) (ag_ldx (w := (.agg #[vi x2.Start, (vS d3 x2.Accept), (vS d4 x2.Next)])) w_0 h110 (ldB_v 3 s81 rfl rfl rfl) (ldB_v 3 s81 rfl rfl rfl) (by simp [vsame, vsame1])) dc_nil) ?_
      refine c_rt ?_
      have e6 := fin_r (k22 _ (sJ e5)) e4
      have e7 := fin_r (k18 _ (sJ e6)) e
      obtain rfl := oJ e7
      exact ⟨.inr rfl, _, (ar1 rfl), rfl, ((s83.pick [] rfl).weak (g1.trans (g2.trans (g3.trans (g6.trans (g7.trans (g8.trans (g14.trans (g15.trans (g16.trans (g17.trans (g18.trans (g19.trans (g20.trans (g21.trans (g22.trans (g23.trans (g24.trans (g25.trans (g26.trans (g27.trans (g28.trans (g29.trans (g30.trans (g31.trans (g32.trans (g35.trans (g39.trans (g41.trans (g42.trans (g43.trans (g45.trans (g46.trans (g47.trans g48))))))))))))))))))))))))))))))))) hs.zv)⟩
     replace e5 := ib_f q50 e5
     refine c_sk (c_sq ?_)
     refine c_gen (P := fun tm => tm 5 = (pV b1 0) ∧ tm 6 = (pV b2 0) ∧ tm 7 = (pV b6 0) ∧ tm 14 = w18 ∧ tm 17 = w21 ∧ tm 122 = (vi (Pu.W ((x11.2.2.1.length : Int) + 1))) ∧ tm 123 = (vi x18) ∧ tm 129 = w20 ∧ tm 130 = (vN x21) ∧ tm 131 = (vJ i36) ∧ True) ⟨h92, h93, h94, h95, rfl, h96, h97, h98, h99, hti1, trivial⟩ ?_
     intro _ i41
     obtain ⟨h112, h113, h114, h115, h116, h117, h118, h119, h120, h121, -⟩ := i41
     refine d_start s78 fun n5 H48 s84 q54 d26 => ?_
     refine d_ldB (q54 _ _ (ph_some.2 ⟨s84.curB 0 rfl, by simp⟩)) 0 s84 rfl h112 rfl rfl ?_
     refine d_mv h116 ?_
     obtain ⟨x26, q55, e5⟩ := oB e5
     obtain ⟨Z49, V49, W22, g49, u26, c85, c86, -, c88, c87⟩ := Sat.call (l1 := []) s84
     refine d_call (mc rfl (mc rfl m0)) (X.parlkeep5_accepts nd.parlkeep5_accepts c85 (c86 1 _ Sh.int _ _ rfl) (c86 2 _ sI1 _ _ rfl) (h108.mono ((g46.trans g49).z.trans c85.zv)) q55) fun _ H49 i42 k26 => ?_
     have d27 := d26.keep k26
     obtain ⟨rfl, s85⟩ := i42
     have s86 := c87 _ _ s85
     refine d_ldB (q54 _ _ (ph_some.2 ⟨s84.curB 3 rfl, by simp⟩)) 3 s86 rfl h113 rfl rfl ?_
     refine d_mv h116 ?_
     obtain ⟨x27, q56, e5⟩ := oB e5
     obtain ⟨Z50, V50, W23, g50, u27, c89, c90, -, c92, c91⟩ := Sat.call (l1 := []) s86
     refine d_call (mc rfl (mc rfl m0)) (X.parlkeep5_accepts nd.parlkeep5_accepts c89 (h51.mono (((g27.trans (g28.trans (g29.trans (g30.trans (g31.trans (g32.trans (g35.trans (g39.trans (g41.trans (g42.trans (g43.trans (g45.trans (g46.trans g49))))))))))))).trans g50).z.trans c89.zv)) (h52.mono (((g28.trans (g29.trans (g30.trans (g31.trans (g32.trans (g35.trans (g39.trans (g41.trans (g42.trans (g43.trans (g45.trans (g46.trans g49)))))))))))).trans g50).z.trans c89.zv)) (h108.mono (((g46.trans g49).trans g50).z.trans c89.zv)) q56) fun _ H50 i43 k27 => ?_
     have d28 := d27.keep k27
     obtain ⟨rfl, s87⟩ := i43
     have s88 := c91 _ _ s87
     refine d_eq (q_nbool _ _) rfl rfl ?_
     refine d_nil (dc_mk rfl (ta4 (tre (tl2 (trl tr0)))) (ta4 (tra (tre (tl2 tr0)))) (ta4 (tre (tl2 (trl tr0)))) (ag_ldx (w := (.agg #[vi x2.Start, (vS d3 x2.Accept), (vS d4 x2.Next)])) w_0 h113 (ldB_v 3 s86 rfl rfl rfl) (ldB_v 3 s84 rfl rfl rfl) (by simp [vsame, vsame1])) (ag_ldx (w := (.agg #[vi x2.Start, (vS d3 x2.Accept), (vS d4 x2.Next)])) w_0 h113 (ldB_v 3 s86 rfl rfl rfl) (ldB_v 3 s86 rfl rfl rfl) (by simp [vsame, vsame1])) dc_nil) ?_
     refine c_if rfl (fun q57 => ?_) (fun q57 => ?_)
     ·replace e5 := if_t q57 e5
      refine c_sr ?_
      refine o_mv (v := (.bool false)) rfl ?_
      refine c_nil (c_rt ?_)
      have e8 := fin_r (k22 _ (sJ e5)) e4
      have e9 := fin_r (k18 _ (sJ e8)) e
      obtain rfl := oJ e9
      exact ⟨.inr rfl, _, (ar1 rfl), rfl, ((s88.pick [] rfl).weak (g1.trans (g2.trans (g3.trans (g6.trans (g7.trans (g8.trans (g14.trans (g15.trans (g16.trans (g17.trans (g18.trans (g19.trans (g20.trans (g21.trans (g22.trans (g23.trans (g24.trans (g25.trans (g26.trans (g27.trans (g28.trans (g29.trans (g30.trans (g31.trans (g32.trans (g35.trans (g39.trans (g41.trans (g42.trans (g43.trans (g45.trans (g46.trans (g49.trans g50))))))))))))))))))))))))))))))))) hs.zv)⟩
     replace e5 := ib_f q57 e5
     refine c_sk (c_end (c_r (o_add h121 rfl ?_)))
     refine o_mv (v := (vi (Pu.W ((i36 : Int) + 1)))) rfl ?_
     refine c_nil ?_
     exact k20 _ _ _ (sJ e5) ⟨(iv rfl (w_suc q46 ((s71.curS (s := (Sh.ro sI1)) 0 rfl)).bd)), _, _, (g43.trans (g45.trans (g46.trans (g49.trans g50)))), s88, h112, h113, h114, h115, h117, h118, h119, h120⟩
    ·obtain ⟨hte1, Z51, V51, g51, s89, h122, h123, h124, h125, h126, h127, h128, h129⟩ := jd
     refine c_sr (o_lss hte1 h129 (c_nil (c_sq ?_)))
     refine c_iff rfl (Int.lt_irrefl _) ?_
     refine c_ex ?_
     refine e_c ?_
     refine e_c ?_
     refine e_h ?_
     exact k23 _ _ ⟨_, jf, _, _, g51, s89, h122, h123, h124, h125, h126, h127, h128, h129⟩
   intro _ H43 i44
   obtain ⟨s74, f1, Z44, V44, g44, s75, h100, h101, h102, h103, h104, h105, h106, h107⟩ := i44
   replace e4 := fin_o f1 e4
   refine c_end (c_r (o_add h105 rfl ?_))
   refine o_mv (v := (vi (Pu.W (x18 + 1)))) rfl ?_
   refine c_nil ?_
   exact k16 _ _ _ (sJ e4) ⟨(iv rfl (w_sucR q37 q41)), _, _, (g39.trans (g41.trans (g42.trans g44))), (s75.pick [0, 1, 2, 3, 4, 5] rfl), h100, h101, h102, h103, h104⟩
  ·obtain ⟨hte0, Z52, V52, g52, s90, h130, h131, h132, h133, h134⟩ := jd
   refine c_sr (o_lss hte0 h134 (c_nil (c_sq ?_)))
   refine c_iff rfl (ran_done _) ?_
   refine c_ex ?_
   refine e_c ?_
   refine e_c ?_
   refine e_h ?_
   exact k19 _ _ ⟨_, jf, _, _, g52, s90, h130, h131, h132, h133, h134⟩
 intro _ H38 i45
 obtain ⟨s66, f2, Z40, V40, g40, s67, h87, h88, h89, h90, h91⟩ := i45
 replace e := fin_o f2 e
 refine c_sr ?_
 refine o_mv (v := (.bool false)) rfl ?_
 refine c_nil (c_rt ?_)
 obtain rfl := oJ e
 exact ⟨.inr rfl, _, (ar1 rfl), rfl, ((s67.pick [] rfl).weak (g1.trans (g2.trans (g3.trans (g6.trans (g7.trans (g8.trans (g14.trans (g15.trans (g16.trans (g17.trans (g18.trans (g19.trans (g20.trans (g21.trans (g22.trans (g23.trans (g24.trans (g25.trans (g26.trans (g27.trans (g28.trans (g29.trans (g30.trans (g31.trans (g32.trans (g35.trans g40)))))))))))))))))))))))))) hs.zv)⟩
end Go.Proofs.Ytmlnknngpdnepaa
