/- Rules that own their right sides: for CompareSides. Own work. -/
import Derived.Test.YthgdobdhdfjhfaaTy
import Derived.Test.YthgdobdhdfjhfaaGparlkeep5
namespace Go.Ab
open Go Go.Pu
def Sh.api_RuleO : Sh Ty.api_Rule where
  sz := 2
  rd := Sh.api_Rule.rd
  ow := fun Z h cs x => ∃ w, cs = [.int .i64 x.Left, w] ∧ OwS (Sh.ro Sh.api_Sym) Z h w x.Right
  rd_mono := Sh.api_Rule.rd_mono
  ow_mono := fun hz hh ⟨w, e, q⟩ => ⟨w, e, q.mono hz hh⟩
  ow_rd := fun hz hh ⟨w, e, q⟩ => ⟨w, e, (q.rd hz hh).of_ro⟩
  len := Sh.api_Rule.len
  one := Sh.api_Rule.one
theorem RdS.ofO {Z : PH} {v : Value} {xs : List Ty.api_Rule} (h : RdS Sh.api_RuleO Z v xs) : RdS Sh.api_Rule Z v xs := h
section
variable {T : FuncId → Option AFunc} {Q : AX → Tm → Hp → Prop} {K : List Fk} {tm : Tm} {H : Hp} {l : List DOp} {sl : List Nat} {t : Nat} {Z V : PH} {L : List It}
/-- A list of one rule whose right side is given away. -/
theorem ownR {u : List Ty.api_Sym} {a : Int} {w : Value} {k : Nat} (h : Sat Z V H (pts k (.rw 2 [vi a, w]) :: It.sl (Sh.ro Sh.api_Sym) w u :: L)) : Sat Z V H (It.sl Sh.api_RuleO (.slice (some ⟨k, 0, none⟩) 1 1) [⟨a, u⟩] :: L) := by
  refine h.join.conv 0 (t := (pts k (.rw 2 [vi a, w])).sep (It.sl (Sh.ro Sh.api_Sym) w u)) (u := It.sl Sh.api_RuleO (.slice (some ⟨k, 0, none⟩) 1 1) [⟨a, u⟩]) rfl fun F q hF ⟨q1, q2, a1, b, d, e1, e2⟩ => ?_
  have hk : q2 k = none := by
    cases e : q2 k with
    | none => rfl
    | some z => exact absurd (d _ _ _ e1 e) id
  refine .inr ⟨k, 0, [vi a, w], fun i => if i = 0 then q2 else .emp, rfl, a1 _ _ e1, ⟨by simp [Sh.api_RuleO], by simp⟩, fun i => ?_, fun i => ?_, fun i i' e => ?_, fun i y hy => ?_⟩
  · dsimp only; split
    · exact b
    · exact PH.emp_le _
  · dsimp only; split
    · exact hk
    · rfl
  · dsimp only; split
    · split
      · omega
      · exact PH.dis_emp _
    · exact PH.emp_dis _
  · cases i with
    | zero => simp at hy; subst hy; exact ⟨w, rfl, e2⟩
    | succ i => simp at hy
theorem bf2 {a : Int} {w : Value} {z : List Value} (hz : z.length = 2) : bfill z [(0, 2, .agg #[vi a, w])] = some [vi a, w] := by
  obtain ⟨x, y, rfl⟩ : ∃ x y, z = [x, y] := by
    match z, hz with
    | [x, y], _ => exact ⟨x, y, rfl⟩
  simp [bfill, splice, Value.cells]
theorem o_bslR {x : Operand} {z : List Value} {u : List Ty.api_Sym} {a : Int} {w : Value} (n : Nat) (hS : Sat Z V H L) (ht : L[n]? = some (It.sl (Sh.ro Sh.api_Sym) w u)) (hz : z.length = 2) (hx : ev tm x = .agg #[vi a, w]) (k : ∀ q H1, Sat Z V H1 (It.sl Sh.api_RuleO q [⟨a, u⟩] :: L.eraseIdx n) → R T Q (.ops l :: K) .normal (ub tm t q) H1) :
    R T Q (.ops (⟨some t, .bslice 2 1 z [(0, 2, x)], none, sl⟩ :: l) :: K) .normal tm H := by
  have h1 := hS.pull n ht
  exact o_of rfl (by rw [A_bslice]; simp only [List.map_cons, List.map_nil, hx, hbs, bf2 hz]; rfl) (k _ _ (ownR (h1.new' (by simp))))
theorem o_appR {x y : Operand} {bytes : Nat} {v q : Value} {xs ys zs : List Ty.api_Rule} (n : Nat) (hS : Sat Z V H (It.sl Sh.api_RuleO q ys :: L)) (ht : L[n]? = some (It.sl Sh.api_RuleO v xs)) (hx : ev tm x = v) (hy : ev tm y = q) (hby : 0 < bytes) (ha : Pu.app bytes xs ys = some zs) (hne : ys ≠ [])
    (k : ∀ w H1, Sat Z V H1 (L.set n (It.sl Sh.api_RuleO w zs)) → R T Q (.ops l :: K) .normal (ub tm t w) H1) : R T Q (.ops (⟨some t, .append 2 bytes x y, none, sl⟩ :: l) :: K) .normal tm H := by
  obtain ⟨w, H1, h1, h2⟩ := hS.appH (sz := 2) n ht rfl hby ha hne
  have h3 : aop (.append 2 bytes x y) tm H = some (w, H1) := by rw [A_append, hx, hy, h1]
  exact o_of rfl h3 (k w H1 h2)
/-- The number of a symbol is written. -/
theorem Sat.setF {v p p' : Value} {xs : List Ty.api_Sym} {y : Ty.api_Sym} {j z : Int} (n : Nat) (ht : L[n]? = some (It.sl (Sh.ro Sh.api_Sym) v xs)) (h : Sat Z V H L) (hj : ix xs j = some y) (hp : vidxs 2 v (vi j) = some p) (hf : vfaddr 1 p = some p') :
    ∃ H1, hstore 1 p' (vi z) H = some H1 ∧ Sat Z V H1 (L.set n (It.sl (Sh.ro Sh.api_Sym) v (Pu.st xs j ⟨y.Term, z⟩))) := by
  obtain ⟨H1, h1, h2⟩ := h.set (s := Sh.ro Sh.api_Sym) (u := (⟨y.Term, z⟩ : Ty.api_Sym)) n ht (Sh.ro_lt _) rfl hj hp (w := .agg #[.bool y.Term, vi z]) (cs := [.bool y.Term, vi z]) rfl rfl
  refine ⟨H1, ?_, h2⟩
  obtain ⟨i1, i2, i3⟩ := ix_lt hj
  obtain ⟨cs, c1, c2, c3⟩ := (h.curS n ht).at' (PH.le.refl _) hj rfl hp
  have c1 : cs = [.bool y.Term, vi y.N] := c1
  subst c1
  unfold vidxs at hp
  split at hp
  case h_2 => cases hp
  rename_i a m _ _ j' hj'
  cases hj'
  split at hp
  case isFalse => cases hp
  cases hp
  simp only [vfaddr, Option.some.injEq] at hf
  subst hf
  simp only [hstore] at h1 ⊢
  split at h1
  case h_2 => cases h1
  rename_i s vs hb
  split at h1
  case isFalse => cases h1
  rename_i hc
  cases h1
  have hlen : a.off + j.toNat * 2 + 2 ≤ vs.length := hc.2.2
  rw [if_pos ⟨rfl, rfl, by omega⟩]
  -- the first cell is as it was
  have hld := c3 true
  simp only [vload, Option.isNone_none, if_true, Hp.load, show Hp.cells H a.block = some vs by rw [cells_of hb]; rfl] at hld
  rw [if_pos hc.2.2] at hld
  simp only [mkv, if_true, Option.bind_some, Option.some.injEq, Value.agg.injEq] at hld
  have hld := congrArg Array.toList hld
  simp only [List.toList_toArray] at hld
  have hsp : splice vs (a.off + j.toNat * 2 + 1) [vi z] = splice vs (a.off + j.toNat * 2) [.bool y.Term, vi z] := by
    have hget : vs[a.off + j.toNat * 2]? = some (.bool y.Term) := by
      have := congrArg (·[0]?) hld
      simp [List.getElem?_take, List.getElem?_drop] at this
      exact this.2
    unfold splice
    rw [List.take_add_one, hget]
    simp
  simp only [Value.cells, hsp]
end
end Go.Ab
namespace Go.Proofs.Ythgdobdhdfjhfaa
open Go Go.Ab Go.Pu
def P.cs_fix.b1 (t : Int) (_ : Int) (x : Int) (s : List Ty.api_Sym) : Option (List Ty.api_Sym) :=
  (Pu.ix s x).bind fun y => if y.Term then (Pu.rem y.N t).bind fun z => some (Pu.st s x ⟨y.Term, z⟩) else some s
def P.cs_fix.b0 (t : Int) (_ : Int) (x : Int) (s : List Ty.api_Rule) : Option (List Ty.api_Rule) :=
  (Pu.ix s x).bind fun r => (Pu.ranO (r.Right.length : Int)).bind fun l => (Pu.forP (P.cs_fix.b1 t) 0 l r.Right).bind fun u => some (Pu.st s x ⟨r.Left, u⟩)
/-- The terminals of all rules, below t. -/
def P.cs_fix (t : Int) (rs : List Ty.api_Rule) : Option (List Ty.api_Rule) :=
  (Pu.ranO (rs.length : Int)).bind fun l => Pu.forP (P.cs_fix.b0 t) 0 l rs
section
variable {T : FuncId → Option AFunc} {Q : AX → Tm → Hp → Prop} {K : List Fk} {tm : Tm} {H : Hp} {Z V : PH} {L : List It}
theorem X.cs_fix {w n2 : Value} {bg b8 : Nat} {t : Int} {us : List Value} {rs rs' : List Ty.api_Rule}
    (hS : Sat Z V H (It.sl Sh.api_RuleO w rs :: pts bg (.rw 0 (vi t :: us)) :: L)) (h2 : tm 2 = n2) (h7 : tm 7 = pV bg 0) (h8 : tm 8 = pV b8 0) (h34 : tm 34 = w) (h35 : tm 35 = vi rs.length) (h36 : tm 36 = vi 0) (e : P.cs_fix t rs = some rs')
    (k : ∀ tm' H', Sat Z V H' (It.sl Sh.api_RuleO w rs' :: pts bg (.rw 0 (vi t :: us)) :: L) → tm' 2 = n2 → tm' 7 = pV bg 0 → tm' 8 = pV b8 0 → R T Q K .normal tm' H') :
    R T Q (.code (.block 0 (.loop F.parlkeep5_CompareSides.L0)) :: K) .normal tm H := by
  unfold P.cs_fix at e
  obtain ⟨l, q1, e⟩ := oB e
  obtain ⟨rfl, q2⟩ := ranO_some q1
  refine c_bk ?_
  refine l_forP (xs := Pu.ran rs.length) (fun (i : Nat) (s : List Ty.api_Rule) tm H => tm 36 = vi i ∧ s.length = rs.length ∧ Sat Z V H (It.sl Sh.api_RuleO w s :: pts bg (.rw 0 (vi t :: us)) :: L) ∧ tm 2 = n2 ∧ tm 7 = pV bg 0 ∧ tm 8 = pV b8 0 ∧ tm 34 = w ∧ tm 35 = vi rs.length) (fun i x s s' tm H qx _ hI e1 k1 => ?_) (fun tm H jd => ?_) e ⟨h36, rfl, hS, h2, h7, h8, h34, h35⟩
  · obtain ⟨hti, hl, s1, h2, h7, h8, h34, h35⟩ := hI
    unfold P.cs_fix.b0 at e1
    have hti := iv hti (ran_x qx).symm
    refine c_sr (o_lss hti h35 (c_nil (c_sq ?_)))
    refine c_ift rfl (ran_lt qx) ?_
    obtain ⟨r, q3, e1⟩ := oB e1
    refine c_sk (c_sq (c_bk (c_sr ?_)))
    refine o_idx h34 hti (s1.curS 0 rfl) rfl q3 fun p hp => ?_
    obtain ⟨cs, hcs, hld, s2⟩ := s1.focus 0 rfl q3 rfl hp
    obtain ⟨cs', ⟨w1, rfl, hw1⟩, -, hld'⟩ := (s1.curS 0 rfl).at' (PH.le.refl _) q3 rfl hp
    have ecs : cs = [.int .i64 r.Left, w1] := by
      have := (hld true).symm.trans (hld' true)
      simpa [mkv] using this
    subst ecs
    have s3 : Sat Z V H (It.sl (Sh.ro Sh.api_Sym) w1 r.Right :: It.hole Sh.api_RuleO w s x.toNat [.int .i64 r.Left, w1] :: pts bg (.rw 0 (vi t :: us)) :: L) :=
      s2.conv 0 rfl fun F h hF q => by
        obtain ⟨w', e', q'⟩ := q
        simp only [List.cons.injEq, and_true, true_and] at e'
        subst e'; exact q'
    obtain ⟨d1, rfl⟩ := hw1.val
    have hld2 : vload H 2 true p = some (.agg #[.int .i64 r.Left, vS d1 r.Right]) := hld true
    refine o_of rfl (v := .agg #[.int .i64 r.Left, vS d1 r.Right]) (H1 := H) (by rw [A_load, show ev _ (.tmp 38) = p from rfl, hld2]; rfl) ?_
    refine o_new s3 fun b10 H1 s4 => ?_
    refine o_stB (us' := [vi r.Left, vS d1 r.Right]) 0 s4 rfl rfl rfl rfl rfl rfl rfl fun H2 s5 => ?_
    refine c_nil (c_sr ?_)
    refine o_fad rfl ?_
    refine o_ldB 0 s5 rfl rfl rfl rfl ?_
    refine o_len rfl hw1.len ?_
    refine o_mv (v := vi 0) rfl ?_
    refine c_nil ?_
    obtain ⟨l2, q4, e1⟩ := oB e1
    obtain ⟨rfl, q5⟩ := ranO_some q4
    obtain ⟨u, q6, e1⟩ := oB e1
    obtain rfl := oJ e1
    refine c_bk ?_
    refine l_forP (xs := Pu.ran r.Right.length) (fun (i2 : Nat) (s2 : List Ty.api_Sym) tm H => tm 43 = vi i2 ∧ s2.length = r.Right.length ∧ Sat Z V H (pts b10 (.rw 0 [vi r.Left, vS d1 r.Right]) :: It.sl (Sh.ro Sh.api_Sym) (vS d1 r.Right) s2 :: It.hole Sh.api_RuleO w s x.toNat [.int .i64 r.Left, vS d1 r.Right] :: pts bg (.rw 0 (vi t :: us)) :: L) ∧ tm 2 = n2 ∧ tm 7 = pV bg 0 ∧ tm 8 = pV b8 0 ∧ tm 34 = w ∧ tm 35 = vi rs.length ∧ tm 36 = vi x ∧ tm 10 = pV b10 0 ∧ tm 41 = vS d1 r.Right ∧ tm 42 = vi r.Right.length) (fun i2 x2 s2 s2' tm H qx2 _ hI e2 k2 => ?_) (fun tm H jd => ?_) q6 ⟨rfl, rfl, s5, h2, h7, h8, h34, h35, hti, rfl, rfl, rfl⟩
    · obtain ⟨hti2, hl2, s6, h2, h7, h8, h34, h35, h36, h10, h41, h42⟩ := hI
      unfold P.cs_fix.b1 at e2
      have hti2 := iv hti2 (ran_x qx2).symm
      refine c_sr (o_lss hti2 h42 (c_nil (c_sq ?_)))
      refine c_ift rfl (ran_lt qx2) ?_
      obtain ⟨y, q7, e2⟩ := oB e2
      refine c_sk (c_sq (c_bk (c_sr ?_)))
      refine o_mv hti2 ?_
      refine o_idx h41 hti2 (s6.curS 1 rfl) rfl q7 fun p2 hp2 => ?_
      refine o_lda rfl (s6.curS 1 rfl) (PH.le.refl _) rfl hp2 q7 fun cs2 hcs2 => ?_
      have hcs2 : cs2 = [.bool y.Term, vi y.N] := hcs2
      subst hcs2
      refine o_new s6 fun b12 H3 s7 => ?_
      refine o_mv rfl ?_
      refine o_stB (us' := [.bool y.Term, vi y.N]) 0 s7 rfl rfl rfl rfl rfl rfl rfl fun H4 s8 => ?_
      refine c_nil (c_sr ?_)
      refine o_fad rfl ?_
      refine o_ldB 0 s8 rfl rfl rfl rfl ?_
      refine c_nil ?_
      refine c_jn (I := fun tm H => Sat Z V H (pts b10 (.rw 0 [vi r.Left, vS d1 r.Right]) :: It.sl (Sh.ro Sh.api_Sym) (vS d1 r.Right) s2' :: It.hole Sh.api_RuleO w s x.toNat [.int .i64 r.Left, vS d1 r.Right] :: pts bg (.rw 0 (vi t :: us)) :: L) ∧ tm 43 = vi x2 ∧ tm 2 = n2 ∧ tm 7 = pV bg 0 ∧ tm 8 = pV b8 0 ∧ tm 34 = w ∧ tm 35 = vi rs.length ∧ tm 36 = vi x ∧ tm 10 = pV b10 0 ∧ tm 41 = vS d1 r.Right ∧ tm 42 = vi r.Right.length) (fun k3 => ?_) ?_
      · refine c_if rfl (fun q20 => ?_) (fun q20 => ?_)
        · rw [if_pos q20] at e2
          obtain ⟨z, q8, e2⟩ := oB e2
          obtain rfl := oJ e2
          refine d_start s8 fun n1 H5 s9 lb dd => ?_
          refine d_fad h10 ?_
          refine d_ldB (lb _ _ (ph_some.2 ⟨s9.curB 1 rfl, by simp⟩)) 1 s9 rfl rfl rfl rfl ?_
          refine d_mv rfl ?_
          refine d_fad rfl ?_
          refine d_ldB (lb _ _ (ph_some.2 ⟨s9.curB 0 rfl, by simp⟩)) 0 s9 rfl rfl rfl rfl ?_
          refine d_fad h7 ?_
          refine d_ldB (lb _ _ (ph_some.2 ⟨s9.curB 4 rfl, by simp⟩)) 4 s9 rfl rfl (by simp) rfl ?_
          refine d_rem rfl rfl q8 ?_
          refine d_idx rfl rfl (s9.curS 2 rfl) rfl q7 fun p3 hp3 => ?_
          refine d_fadE rfl hp3 fun p4 hp4 => ?_
          obtain ⟨H6, h61, s10⟩ := Sat.setF (z := z) 2 rfl s9 q7 hp3 hp4
          refine d_of0 (o := .store 1 (.tmp 59) (.tmp 57)) (v := undef) (H1 := H6) rfl rfl (by rw [A_store, show ev _ (.tmp 59) = p4 from rfl, show ev _ (.tmp 57) = vi z from rfl, h61]; rfl) ?_
          refine d_nil dc_nil ?_
          exact k3 _ _ ⟨s10.drop 0, hti2, h2, h7, h8, h34, h35, h36, h10, h41, h42⟩
        · rw [if_neg (by rw [q20]; simp)] at e2
          obtain rfl := oJ e2
          exact c_sk (k3 _ _ ⟨s8.drop 0, hti2, h2, h7, h8, h34, h35, h36, h10, h41, h42⟩)
      · intro tm H ⟨s11, h43, h2, h7, h8, h34, h35, h36, h10, h41, h42⟩
        refine c_end (c_r (o_add h43 rfl ?_))
        refine o_mv (v := (vi (Pu.W (x2 + 1)))) rfl ?_
        refine c_nil ?_
        refine k2 _ _ ⟨(iv rfl (w_sucR qx2 q5)), ?_, s11, h2, h7, h8, h34, h35, h36, h10, h41, h42⟩
        split at e2
        · obtain ⟨z, -, e2⟩ := oB e2; obtain rfl := oJ e2; simpa [Pu.st] using hl2
        · obtain rfl := oJ e2; exact hl2
    · obtain ⟨hte, hle, s12, h2, h7, h8, h34, h35, h36, h10, h41, h42⟩ := jd
      refine c_sr (o_lss hte h42 (c_nil (c_sq ?_)))
      refine c_iff rfl (ran_done _) ?_
      refine c_ex ?_
      refine e_c ?_
      refine e_c ?_
      refine e_h ?_
      have s13 := s12.drop 0
      have s14 : Sat Z V H (Sh.api_RuleO.it [.int .i64 r.Left, vS d1 r.Right] ⟨r.Left, u⟩ :: It.hole Sh.api_RuleO w s x.toNat [.int .i64 r.Left, vS d1 r.Right] :: pts bg (.rw 0 (vi t :: us)) :: L) :=
        s13.conv 0 (u := Sh.api_RuleO.it [.int .i64 r.Left, vS d1 r.Right] ⟨r.Left, u⟩) rfl fun F h hF q => ⟨_, rfl, q⟩
      have s15 := s14.unfocus 0 rfl
      refine c_end (c_r (o_add h36 rfl ?_))
      refine o_mv (v := (vi (Pu.W (x + 1)))) rfl ?_
      refine c_nil ?_
      exact k1 _ _ ⟨(iv rfl (w_sucR qx q2)), by simpa [Pu.st] using hl, s15, h2, h7, h8, h34, h35⟩
  · obtain ⟨hte, hle, s12, h2, h7, h8, h34, h35⟩ := jd
    refine c_sr (o_lss hte h35 (c_nil (c_sq ?_)))
    refine c_iff rfl (ran_done _) ?_
    refine c_ex ?_
    refine e_c ?_
    refine e_c ?_
    refine e_h ?_
    exact k _ _ s12 h2 h7 h8
end
end Go.Proofs.Ythgdobdhdfjhfaa
