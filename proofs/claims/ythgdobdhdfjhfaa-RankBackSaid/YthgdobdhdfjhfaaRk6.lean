import Derived.Test.YthgdobdhdfjhfaaRk5
namespace Go.Proofs.Ythgdobdhdfjhfaa.Gr
open Go Go.Ab Go.Pu
section
variable {g : Ty.api_Grammar} {N : List (List Int)} {n : Nat}
theorem good_ok (E : Env g N n) {a : Int} {j : Nat} (a0 : 0 ≤ a) (a1 : a < g.Nons) (hj : j ≤ n) (h0 : 0 < sI N ⟨false, a⟩ j) (h1 : sI N ⟨false, a⟩ j < MC) : ∀ r ∈ g.Rules, r.Left = a → Fn N r.Right j := by
 have e : sI N ⟨false, a⟩ j = el2 N a (j : Int) := rfl
 rw [e] at h0 h1
 obtain ⟨c, e1, hn⟩ := num_of (E.c a j a0 a1 hj) (by omega) h1
 exact (rules_ok E.c E.nons hn hj).1
theorem offs_ok (E : Env g N n) {a : Int} {j : Nat} (hj : j ≤ n) (hfn : ∀ r ∈ g.Rules, r.Left = a → Fn N r.Right j) {i : Nat} {r : Ru} (hr : g.Rules[i]? = some r) (hra : r.Left = a) {v : Int} (hv : off g.Rules N a j i ≤ v) (hv2 : v < MC) {φ : Nat} (hφ : 20 ≤ φ) {b : Ty.rank_book} (hb : Bk g N b) :
 Ok (Pu.forP (P.rank_book_of.b0 φ (j : Int) r) 0 (g.Rules.take i) (b.g.Terms, b.g.Nons, b.g.Start, b.g.Rules, b.n, b.many_, 0)) fun q => Bk g N ⟨⟨q.1, q.2.1, q.2.2.1, q.2.2.2.1⟩, q.2.2.2.2.1, q.2.2.2.2.2.1⟩ ∧ q.2.2.2.2.2.2 = off g.Rules N a j i := by
 have hi := (List.getElem?_eq_some_iff.1 hr).1
 have hMC : (MC : Int) = 1000000000 := rfl
 have hnn : ∀ r ∈ g.Rules, r.Left = a → 0 ≤ wI N r.Right j := fun r hr hra => (hfn r hr hra).nonneg
 have hlen : (g.Rules.take i).length = i := by simp; omega
 refine (forP_ok (fun m (q : Int × Int × Int × List Ty.api_Rule × List (List Int) × List ((Int × Int × Int) × Int) × Int) => m ≤ i → Bk g N ⟨⟨q.1, q.2.1, q.2.2.1, q.2.2.2.1⟩, q.2.2.2.2.1, q.2.2.2.2.2.1⟩ ∧ q.2.2.2.2.2.2 = off g.Rules N a j m)
  (fun _ => ⟨⟨by rw [← hb.eg], hb.en, hb.em⟩, rfl⟩) (fun m x q hx hq => ?_) fun q hq => by rw [hlen] at hq; exact hq (by omega))
 have hm := (List.getElem?_eq_some_iff.1 hx).1
 rw [hlen] at hm
 have hx' : g.Rules[m]? = some x := by rw [List.getElem?_take, if_pos hm] at hx; exact hx
 obtain ⟨q1, q2⟩ := hq (by omega)
 have hxm := List.mem_of_getElem? hx'
 have hs := off_succ (N := N) (a := a) (k := j) hx'
 have b1 := off_le hnn (show m ≤ i by omega) (by omega)
 have b2 := off_le hnn (show m + 1 ≤ i by omega) (by omega)
 unfold P.rank_book_of.b0
 refine Ok.bind (Q := fun q => Bk g N ⟨⟨q.1, q.2.1, q.2.2.1, q.2.2.2.1⟩, q.2.2.2.2.1, q.2.2.2.2.2.1⟩ ∧ q.2.2.2.2.2.2 = off g.Rules N a j (m + 1)) (.ite (fun e => ?_) fun e => ?_) fun q hq => .some fun _ => hq
 ·rw [hra] at e
  rw [if_pos e] at hs
  refine (rways_ok E x.Right.length φ _ m 0 j x hx' (by omega) (by have := E.v.rgt x hxm; omega) hj (by simpa using hfn x hxm e) q1).bind fun z ⟨z1, z2⟩ => ?_
  rw [List.drop_zero] at z2
  refine .some ⟨⟨z1.eg, z1.en, z1.em⟩, ?_⟩
  show Pu.W (q.2.2.2.2.2.2 + z.2) = _
  rw [q2, z2, W_id, hs]
 ·rw [hra] at e
  rw [if_neg e] at hs
  exact .some ⟨q1, by rw [q2, hs]; omega⟩
theorem ofk_ok (E : Env g N n) {s k : Nat} {x : Int} {ts : List Ty.api_Tree} {l : List Sy} (h : Nb g.Rules N s ts l k x) : ∀ (φ : Nat) (b : Ty.rank_book) (i p : Nat) (r : Ru), g.Rules[i]? = some r → r.Right.drop p = l → r.Right.length = p + l.length → Fn N l k → k ≤ n → s ≤ 100000 → 40 + 2 * s ≤ φ → Bk g N b →
 Ok (P.rank_book_ofKids φ b (i : Int) ts (k : Int)) fun q => Bk g N q.1 ∧ q.2 = x := by
 have hMC : (MC : Int) = 1000000000 := rfl
 have hn9 := E.n9
 have loop : ∀ {φ : Nat} {b : Ty.rank_book} {i p : Nat} {r : Ru} {y : Sy} {l : List Sy} {k j : Nat} (ts : List Ty.api_Tree), g.Rules[i]? = some r → r.Right.drop p = y :: l → r.Right.length = p + ts.length → Fn N (y :: l) k → k ≤ n → j ≤ k → 20 ≤ φ → Bk g N b →
  Ok (Pu.forP (P.rank_book_ofKids.b0 φ (i : Int) ts (k : Int) r) 0 (Pu.ran (j : Int)) (b.g.Terms, b.g.Nons, b.g.Start, b.g.Rules, b.n, b.many_, 0)) fun q => Bk g N ⟨⟨q.1, q.2.1, q.2.2.1, q.2.2.2.1⟩, q.2.2.2.2.1, q.2.2.2.2.2.1⟩ ∧ q.2.2.2.2.2.2 = ps (fun j => sI N y j * wI N l (k - j)) j := by
  intro φ b i p r y l k j ts hr hd hlen hf hk hj hφ hb
  have h4 := E.v.rgt r (List.mem_of_getElem? hr)
  have hpl : p < r.Right.length := by
   rcases Nat.lt_or_ge p r.Right.length with q | q
   ·exact q
   ·rw [List.drop_eq_nil_of_le q] at hd; cases hd
  rw [List.drop_eq_getElem_cons hpl] at hd
  have hy : r.Right[p]? = some y := by rw [List.getElem?_eq_getElem hpl, (List.cons.inj hd).1]
  have hl2 : r.Right.drop (p + 1) = l := (List.cons.inj hd).2
  have hnn : ∀ m, m < k + 1 → 0 ≤ sI N y m * wI N l (k - m) := fun m hm => hf.part (by omega)
  have htot := hf.lt
  rw [wI_eq] at htot
  refine forP_ok (fun m (q : Int × Int × Int × List Ty.api_Rule × List (List Int) × List ((Int × Int × Int) × Int) × Int) => Bk g N ⟨⟨q.1, q.2.1, q.2.2.1, q.2.2.2.1⟩, q.2.2.2.2.1, q.2.2.2.2.2.1⟩ ∧ q.2.2.2.2.2.2 = ps (fun j => sI N y j * wI N l (k - j)) m)
   ⟨⟨by rw [← hb.eg], hb.en, hb.em⟩, rfl⟩ (fun m x q hx ⟨q1, q2⟩ => ?_) fun q hq => by rw [ran_length, Int.toNat_natCast] at hq; exact hq
  obtain ⟨rfl, hm⟩ := ran_at hx
  unfold P.rank_book_ofKids.b0
  rw [show Pu.W ((r.Right.length : Int) - (ts.length : Int)) = (p : Int) by rw [W_id]; omega]
  refine (part_ok E hr hy (by omega) hk (show m ≤ k by omega) (by rw [hl2]; exact hf) q1).bind fun z ⟨z1, z2⟩ => ?_
  rw [hl2] at z2
  have b1 := ps_le hnn (show m ≤ k + 1 by omega)
  have b2 := ps_le hnn (show m + 1 ≤ k + 1 by omega)
  have b3 : ps (fun j => sI N y j * wI N l (k - j)) (m + 1) = ps (fun j => sI N y j * wI N l (k - j)) m + sI N y m * wI N l (k - m) := rfl
  refine .some ⟨⟨z1.eg, z1.en, z1.em⟩, ?_⟩
  show Pu.W (q.2.2.2.2.2.2 + z.2) = _
  rw [q2, z2, W_id, b3]
 induction h with
 | nil =>
   intro φ b i p r hr hd hlen hf hk hs hφ hb
   obtain ⟨φ, rfl⟩ : ∃ f, φ = f + 1 := ⟨φ - 1, by omega⟩
   rw [P.rank_book_ofKids, if_pos (by simp)]
   exact .some ⟨hb, rfl⟩
 | @leaf s k m z ts l h1 z0 z1 ih =>
   intro φ b i p r hr hd hlen hf hk hs hφ hb
   obtain ⟨φ, rfl⟩ : ∃ f, φ = f + 2 := ⟨φ - 2, by omega⟩
   have h4 := E.v.rgt r (List.mem_of_getElem? hr)
   have htl := h1.len
   simp only [List.length_cons] at hlen
   have hd2 : r.Right.drop (p + 1) = l := by rw [← List.drop_drop, hd]; rfl
   have hw0 : wI N l (k + 1 - 1) ≠ 0 := by rw [Nat.add_sub_cancel]; omega
   obtain ⟨hfl, -⟩ := hf.1 1 (by omega) (by simp [sI])
   rw [Nat.add_sub_cancel] at hfl
   have hwlt := hfl.lt
   rw [P.rank_book_ofKids, if_neg (by simp; omega), hb.eg, ix_nat, hr, Option.bind_some, show Pu.ix ((⟨-1, m, []⟩ : Ty.api_Tree) :: ts) 0 = some ⟨-1, m, []⟩ from rfl, Option.bind_some]
   have hwd : P.tree_Word (φ + 1) ⟨-1, m, []⟩ = some [m] := (Tr.leaf (R := g.Rules) (n := m) (Tr.nil (d := 0))).word (by omega) (by omega)
   rw [hwd, Option.bind_some, ranO_eq (by simp), Option.bind_some]
   have := loop (φ := φ + 1) (b := b) (j := 1) (⟨-1, m, []⟩ :: ts) hr hd (by simp; omega) hf hk (by omega) (by omega) hb
   rw [hb.eg] at this
   refine this.bind fun q ⟨q1, q2⟩ => ?_
   have q3 : q.2.2.2.2.2.2 = 0 := by rw [q2]; simp [ps, sI]
   rw [Option.bind_some, P.rank_book_of, if_pos (by simp), Option.bind_some]
   simp only [List.length_cons, List.length_nil]
   rw [show Pu.W (Pu.W ((r.Right.length : Int) - ((ts.length + 1 : Nat) : Int)) + 1) = ((p + 1 : Nat) : Int) by rw [W_id (n := (r.Right.length : Int) - ((ts.length + 1 : Nat) : Int)), W_id] <;> omega, show Pu.W (((k + 1 : Nat) : Int) - ((0 + 1 : Nat) : Int)) = (k : Int) by rw [W_id] <;> omega]
   refine (rways_ok E l.length (φ + 1) _ i (p + 1) k r hr (by omega) (by omega) (by omega) (by rw [hd2]; exact hfl) q1).bind fun w ⟨w1, w2⟩ => ?_
   rw [sub_eq (by omega) (by omega) (by simp), Option.bind_some]
   rw [show (List.take ((ts.length + 1 : Nat) : Int).toNat ((⟨-1, m, []⟩ : Ty.api_Tree) :: ts)).drop (1 : Int).toNat = ts by simp]
   refine (ih (φ + 1) w.1 i (p + 1) r hr hd2 (by omega) hfl (by omega) (by omega) (by omega) w1).bind fun u ⟨u1, u2⟩ => .some ⟨u1, ?_⟩
   rw [q3, u2]
   simp only [Int.zero_mul, Int.zero_add]
   rw [W_id (n := 0), W_id (n := 0), Int.zero_add, W_id]
 | @node s1 s2 i' j k y z r' kids ts l hr' hkids y0 y1 hoff hy1 hy2 h2 z0 z1 ih1 ih2 =>
   intro φ b i p r hr hd hlen hf hk hs hφ hb
   obtain ⟨φ, rfl⟩ : ∃ f, φ = f + 2 := ⟨φ - 2, by omega⟩
   have h4 := E.v.rgt r (List.mem_of_getElem? hr)
   have htl := h2.len
   have hrm' := List.mem_of_getElem? hr'
   obtain ⟨a0, a1⟩ := E.v.lft r' hrm'
   simp only [List.length_cons] at hlen
   have hd2 : r.Right.drop (p + 1) = l := by rw [← List.drop_drop, hd]; rfl
   have hs0 : 0 < sI N ⟨false, r'.Left⟩ j := by omega
   obtain ⟨hfl, -⟩ := hf.1 j (by omega) (by omega)
   rw [Nat.add_sub_cancel_left] at hfl
   have hwlt := hfl.lt
   have hgood := good_ok E a0 a1 (by omega) hs0 hy2
   obtain ⟨v, hv1, hv2⟩ := hkids.tr
   have htr : Tr g.Rules (s1 + 1) (s1 + 1) [⟨(i' : Int), 0, kids⟩] [⟨false, r'.Left⟩] v := by have := Tr.node hr' hv1 .nil; simpa using this
   have hnn : ∀ m, m < j + k + 1 → 0 ≤ sI N ⟨false, r'.Left⟩ m * wI N l (j + k - m) := fun m hm => hf.part (by omega)
   have htot := hf.lt
   rw [wI_eq] at htot
   have hps1 := ps_le hnn (show j ≤ j + k + 1 by omega)
   have hps2 := ps_le hnn (show j + 1 ≤ j + k + 1 by omega)
   have hps3 : ps (fun m => sI N ⟨false, r'.Left⟩ m * wI N l (j + k - m)) (j + 1) = ps (fun m => sI N ⟨false, r'.Left⟩ m * wI N l (j + k - m)) j + sI N ⟨false, r'.Left⟩ j * wI N l (j + k - j) := rfl
   rw [Nat.add_sub_cancel_left] at hps3
   rw [P.rank_book_ofKids, if_neg (by simp; omega), hb.eg, ix_nat, hr, Option.bind_some, show Pu.ix ((⟨(i' : Int), 0, kids⟩ : Ty.api_Tree) :: ts) 0 = some ⟨(i' : Int), 0, kids⟩ from rfl, Option.bind_some]
   rw [htr.word (by omega) (by omega), Option.bind_some, hv2, ranO_eq (by omega), Option.bind_some]
   have := loop (φ := φ + 1) (b := b) (j := j) (⟨(i' : Int), 0, kids⟩ :: ts) hr hd (by simp; omega) hf hk (by omega) (by omega) hb
   rw [hb.eg] at this
   refine this.bind fun q ⟨q1, q2⟩ => ?_
   rw [Option.bind_some]
   have hof : Ok (P.rank_book_of (φ + 1) ⟨⟨q.1, q.2.1, q.2.2.1, q.2.2.2.1⟩, q.2.2.2.2.1, q.2.2.2.2.2.1⟩ ⟨(i' : Int), 0, kids⟩ (j : Int)) fun u => Bk g N u.1 ∧ u.2 = off g.Rules N r'.Left j i' + y := by
    have hi' := (List.getElem?_eq_some_iff.1 hr').1
    rw [P.rank_book_of, if_neg (by simp), q1.eg, ix_nat, hr', Option.bind_some]
    dsimp only
    rw [sub_eq (by omega) (by omega) (by omega), Option.bind_some]
    simp only [Int.toNat_natCast, Int.toNat_zero, List.drop_zero]
    have := offs_ok E (by omega) hgood hr' rfl (v := off g.Rules N r'.Left j i') (Int.le_refl _) (by omega) (φ := φ) (by omega) q1
    rw [q1.eg] at this
    refine this.bind fun c ⟨c1, c2⟩ => ?_
    refine (ih1 φ _ i' 0 r' hr' (by simp) (by omega) (hgood r' hrm' rfl) (by omega) (by omega) (by omega) c1).bind fun u ⟨u1, u2⟩ => .some ⟨u1, ?_⟩
    show Pu.W (c.2.2.2.2.2.2 + u.2) = _
    rw [c2, u2, W_id]
   refine hof.bind fun u ⟨u1, u2⟩ => ?_
   simp only [List.length_cons]
   rw [show Pu.W (Pu.W ((r.Right.length : Int) - ((ts.length + 1 : Nat) : Int)) + 1) = ((p + 1 : Nat) : Int) by rw [W_id (n := (r.Right.length : Int) - ((ts.length + 1 : Nat) : Int)), W_id] <;> omega, show Pu.W (((j + k : Nat) : Int) - (j : Int)) = (k : Int) by rw [W_id] <;> omega]
   refine (rways_ok E l.length (φ + 1) _ i (p + 1) k r hr (by omega) (by omega) (by omega) (by rw [hd2]; exact hfl) u1).bind fun w ⟨w1, w2⟩ => ?_
   rw [hd2] at w2
   rw [sub_eq (by omega) (by omega) (by simp), Option.bind_some]
   rw [show (List.take ((ts.length + 1 : Nat) : Int).toNat ((⟨(i' : Int), 0, kids⟩ : Ty.api_Tree) :: ts)).drop (1 : Int).toNat = ts by simp]
   refine (ih2 (φ + 1) w.1 i (p + 1) r hr hd2 (by omega) hfl (by omega) (by omega) (by omega) w1).bind fun e ⟨e1, e2⟩ => .some ⟨e1, ?_⟩
   have hm1 : (off g.Rules N r'.Left j i' + y) * wI N l k + wI N l k ≤ sI N ⟨false, r'.Left⟩ j * wI N l k := by
    have := Int.mul_le_mul_of_nonneg_right (show off g.Rules N r'.Left j i' + y + 1 ≤ sI N ⟨false, r'.Left⟩ j by omega) (show 0 ≤ wI N l k by omega)
    rwa [Int.add_mul, Int.one_mul] at this
   have hm0 : 0 ≤ (off g.Rules N r'.Left j i' + y) * wI N l k := Int.mul_nonneg (by omega) (by omega)
   rw [q2, u2, w2, e2]
   rw [W_id (n := (off g.Rules N r'.Left j i' + y) * wI N l k), W_id (n := _ + (off g.Rules N r'.Left j i' + y) * wI N l k), W_id]
end
end Go.Proofs.Ythgdobdhdfjhfaa.Gr
