import Derived.Test.YtmeigkelacoibaaRk7
import Derived.Test.YtmeigkelacoibaaRk5
import Derived.Test.YtmeigkelacoibaaTree1
import Derived.Test.YtmeigkelacoibaaTree2
import Derived.Test.YtmeigkelacoibaaRkQ
namespace Go.Proofs.Ytmeigkelacoibaa.Gr
open Go Go.Ab Go.Pu
theorem scompare_ok (a b : List Int) : Ok (P.B0 a b) fun c => c = 0 ↔ a = b := by
 unfold P.B0
 refine Ok.bind (Q := fun | .out _ => a.length ≤ b.length ∧ ∀ j, j < a.length → a[j]? = b[j]? | .rt c => c ≠ 0 ∧ a ≠ b) (forL_ok (fun i _ => i ≤ b.length ∧ ∀ j, j < i → a[j]? = b[j]?) ⟨by omega, fun j h => by omega⟩ ?_ (fun _ h => h)) ?_
 ·intro i x _ hx ⟨h1, h2⟩
  unfold P.B0.b0
  refine .ite (fun h => .some ⟨by simp, fun e => ?_⟩) fun h => ?_
  ·subst e; have := (List.getElem?_eq_some_iff.1 hx).1; omega
  ·have e : b[i]? = some (b[i]'(by omega)) := List.getElem?_eq_getElem _
   rw [ix_nat, e, Option.bind_some, cmp_ok, Option.bind_some]
   refine .ite (fun h => .some ⟨h, fun e2 => ?_⟩) fun hcz => .some ⟨by omega, fun j hj => ?_⟩
   ·rw [e2, e] at hx; cases hx; exact h (by simp)
   ·rcases Nat.lt_succ_iff_lt_or_eq.1 hj with q | rfl
    ·exact h2 j q
    ·rw [hx, e]
     split at hcz
     ·omega
     ·split at hcz
      ·omega
      ·congr 1; omega
 ·rintro (s | c) h
  ·obtain ⟨h1, h2⟩ := h
   refine .ite (fun h => .some ?_) fun h => .some ?_
   ·simp only [show ¬ ((-1 : Int) = 0) by omega, false_iff]
    intro e; subst e; omega
   ·simp only [true_iff]
    refine List.ext_getElem? fun i => ?_
    rcases Nat.lt_or_ge i a.length with e | e
    ·exact h2 i e
    ·rw [List.getElem?_eq_none e, List.getElem?_eq_none (by omega)]
  ·exact .some ⟨fun e => absurd e h.1, fun e => absurd e h.2⟩
inductive Rl : List Ty.A4 → List Int → Prop where
 | nil : Rl [] []
 | leaf {m : Int} {ts : List Ty.A4} {v : List Int} : Rl ts v → Rl (⟨-1, m, []⟩ :: ts) (-1 :: v)
 | node {k : Nat} {kids ts : List Ty.A4} {v w : List Int} : Rl kids v → Rl ts w → Rl (⟨(k : Int), 0, kids⟩ :: ts) ((k : Int) :: (v ++ w))
theorem Tr.rules_l {R : List Ru} {d s : Nat} {ts : List Ty.A4} {l : List Sy} {w : List Int} (h : Tr R d s ts l w) :
 ∃ v, v.length = s ∧ Rl ts v ∧ ∀ (φ : Nat) (i : Int) (out : List Int), d < φ → out.length + s ≤ 1000000 → Pu.forP (P.D7.b0 (P.D7 φ)) i ts out = some (out ++ v) := by
 induction h with
 | nil => exact ⟨[], rfl, .nil, fun φ i out _ _ => by simp [Pu.forP]⟩
 | @leaf d s n ts l w _ ih =>
   obtain ⟨v, hv, hr, ih⟩ := ih
   refine ⟨-1 :: v, by simp [hv], .leaf hr, fun φ i out hφ hl => ?_⟩
   obtain ⟨φ, rfl⟩ : ∃ φ', φ = φ' + 1 := ⟨φ - 1, by omega⟩
   have e : P.D7 (φ + 1) out ⟨-1, n, []⟩ = some (out ++ [-1]) := by
    simp only [P.D7, P.E4]
    rw [app_eq (by simp; omega)]; rfl
   unfold Pu.forP
   rw [P.D7.b0, e, Option.bind_some, Option.bind_some, ih _ _ _ hφ (by simp; omega)]
   simp [List.append_assoc]
 | @node d s1 s2 k r kids ts l v w _ _ _ ih1 ih2 =>
   obtain ⟨v1, hv1, hr1, ih1⟩ := ih1
   obtain ⟨v2, hv2, hr2, ih2⟩ := ih2
   refine ⟨(k : Int) :: (v1 ++ v2), by simp [hv1, hv2]; omega, .node hr1 hr2, fun φ i out hφ hl => ?_⟩
   obtain ⟨φ, rfl⟩ : ∃ φ', φ = φ' + 1 := ⟨φ - 1, by omega⟩
   have e : P.D7 (φ + 1) out ⟨(k : Int), 0, kids⟩ = some (out ++ [(k : Int)] ++ v1) := by
    simp only [P.D7, P.E4]
    rw [app_eq (by simp; omega), Option.bind_some, Option.bind_some, if_neg (by simp), ih1 _ _ _ (by omega) (by simp; omega)]; rfl
   unfold Pu.forP
   rw [P.D7.b0, e, Option.bind_some, Option.bind_some, ih2 _ _ _ hφ (by simp [hv1]; omega)]
   simp [List.append_assoc]
theorem Rl.inj {R : List Ru} {d s : Nat} {ts : List Ty.A4} {l : List Sy} {w : List Int} (h : Tr R d s ts l w) : ∀ {d' s' : Nat} {ts' : List Ty.A4} {w' v v' e e' : List Int}, Tr R d' s' ts' l w' → Rl ts v → Rl ts' v' → v ++ e = v' ++ e' → ts = ts' ∧ e = e' := by
 induction h with
 | nil =>
   intro d' s' ts' w' v v' e e' h' hr hr' hv
   have := h'.trees
   obtain rfl := List.eq_nil_of_length_eq_zero this
   cases hr; cases hr'; exact ⟨rfl, hv⟩
 | @leaf d s n ts l w _ ih =>
   intro d' s' ts' w' v v' e e' h' hr hr' hv
   cases h' with
   | leaf a =>
     cases hr with
     | leaf b =>
       cases hr' with
       | leaf c =>
         simp only [List.cons_append, List.cons.injEq, true_and] at hv
         obtain ⟨rfl, rfl⟩ := ih a b c hv
         exact ⟨rfl, rfl⟩
 | @node d s1 s2 k r kids ts l v0 w hk _ _ ih1 ih2 =>
   intro d' s' ts' w' v v' e e' h' hr hr' hv
   generalize hll : (⟨false, r.Left⟩ : Sy) :: l = ll at h'
   cases h' with
   | nil => cases hll
   | leaf _ => simp at hll
   | @node d2 s1' s2' k' r' kids' ts' l' v0' w' hk' a b =>
     simp only [List.cons.injEq, Ty.D1.mk.injEq, true_and] at hll
     obtain ⟨hl1, rfl⟩ := hll
     generalize htt : (⟨(k : Int), 0, kids⟩ : Ty.A4) :: ts = tt at hr
     generalize htt' : (⟨(k' : Int), 0, kids'⟩ : Ty.A4) :: ts' = tt' at hr'
     cases hr with
     | nil => cases htt
     | leaf _ => simp at htt
     | node p1 p2 =>
       cases hr' with
       | nil => cases htt'
       | leaf _ => simp at htt'
       | node q1 q2 =>
         simp only [List.cons.injEq, Ty.A4.mk.injEq, true_and, Int.natCast_inj] at htt htt'
         obtain ⟨⟨rfl, rfl⟩, rfl⟩ := htt
         obtain ⟨⟨rfl, rfl⟩, rfl⟩ := htt'
         simp only [List.cons_append, List.cons.injEq, Int.natCast_inj, List.append_assoc] at hv
         obtain ⟨rfl, hv⟩ := hv
         rw [hk] at hk'; cases hk'
         obtain ⟨rfl, hv⟩ := ih1 a p1 q1 hv
         obtain ⟨rfl, rfl⟩ := ih2 b p2 q2 hv
         exact ⟨rfl, rfl⟩
theorem tcompare_ok {R : List Ru} {d s d' s' : Nat} {t t' : Ty.A4} {y : Sy} {w w' : List Int} (h : Tr R d s [t] [y] w) (h' : Tr R d' s' [t'] [y] w') {φ : Nat} (hφ : d < φ) (hφ' : d' < φ) (hs : s ≤ 5000) (hs' : s' ≤ 5000) : Ok (P.E5 φ t t') fun c => c = 0 ↔ t = t' := by
 obtain ⟨v, hv, hr, e⟩ := h.rules_l
 obtain ⟨v', hv', hr', e'⟩ := h'.rules_l
 have e1 : P.D7 φ [] t = some v := by
  have h2 := e φ 0 [] hφ (by simp; omega)
  simp only [Pu.forP, P.D7.b0, Option.bind_assoc, Option.bind_some] at h2
  simpa using h2
 have e1' : P.D7 φ [] t' = some v' := by
  have h2 := e' φ 0 [] hφ' (by simp; omega)
  simp only [Pu.forP, P.D7.b0, Option.bind_assoc, Option.bind_some] at h2
  simpa using h2
 have z := h.size hφ (by omega)
 have z' := h'.size hφ' (by omega)
 unfold P.E5
 rw [z, Option.bind_some, z', Option.bind_some, cmp_ok, Option.bind_some]
 refine .ite (fun hc => .some ⟨fun q => absurd q hc, fun q => ?_⟩) fun hc => ?_
 ·subst q
  rw [z] at z'
  have : (s : Int) = s' := Option.some.inj z'
  rw [this] at hc
  simp at hc
 ·rw [e1, Option.bind_some, e1', Option.bind_some]
  refine (scompare_ok v v').bind fun c hc1 => .ite (fun hc => .some ⟨fun q => absurd q hc, fun q => ?_⟩) fun hc => ?_
  ·subst q
   rw [e1] at e1'
   exact absurd (hc1.2 (Option.some.inj e1')) hc
  ·obtain ⟨q, -⟩ := Rl.inj h h' hr hr' (e := []) (e' := []) (by rw [hc1.1 (Decidable.not_not.1 hc)])
   have q : t = t' := by cases q; rfl
   subst q
   have e3 := h.word hφ (by omega)
   rw [e3, Option.bind_some, Option.bind_some]
   refine (scompare_ok w w).bind fun c hc1 => .some ⟨fun _ => rfl, fun _ => hc1.2 rfl⟩
theorem rankTrees_plain (l m : List Int) (a2 : Int) : ∃ φ, P.A7 φ l m a2 = some true := by
 obtain ⟨g, eg, hg⟩ := grammar_ok l
 have hv := hg.toValid
 obtain ⟨n, en, n0, n1⟩ := pbelow_ok (x := a2) (n := 6) (by omega) (by omega)
 obtain ⟨n, rfl⟩ : ∃ m : Nat, n = m := ⟨n.toNat, by omega⟩
 obtain ⟨N, E, hN⟩ := env_ok hv (n := n) (by omega)
 have hMC : (MC : Int) = 1000000000 := rfl
 obtain ⟨φ0, hφ0⟩ : ∃ φ0, ∀ v : Nat, Num g.Rules g.Start n v → ∀ φ, φ0 ≤ φ → ∀ (x : Int) (b : Ty.E6), 0 ≤ x → x < v → Bk g N b → Ok (P.C8 φ b ⟨false, g.Start⟩ (n : Int) x) fun q => Bk g N q.1 ∧ ∃ s i, Nb1 g.Rules N s q.2 g.Start n x i := by
  by_cases h : ∃ v, Num g.Rules g.Start n v
  ·obtain ⟨v, hv2⟩ := h
   obtain ⟨φ0, h0⟩ := tree_ok E hv.s1 hv.s2 (Nat.le_refl _) hv2
   refine ⟨φ0, fun v' hv' => ?_⟩
   rw [hv'.lim.fn hv2.lim]
   exact h0
  ·exact ⟨0, fun v hv2 => absurd ⟨v, hv2⟩ h⟩
 refine ⟨max 200000 φ0, ?_⟩
 generalize hφ : max 200000 φ0 = φ
 have hφ1 : 10000 ≤ φ := by omega
 obtain ⟨q, eq, hq⟩ := count_of E (hN φ hφ1)
 refine Ok.eq ?_
 unfold P.A7
 rw [eg, Option.bind_some, en, Option.bind_some, plain_eq, Option.bind_some, first_count φ hφ1, Option.bind_some, if_neg (by simp), eq, Option.bind_some]
 refine .ite (fun _ => .some rfl) fun hne => ?_
 have hne' : q.2 = 0 ∧ q.1 ≤ 60 := by simp at hne; omega
 obtain ⟨v, e1, hnm, hsI, ho⟩ := hq hne'.1
 have hT := hφ0 v hnm φ (by omega)
 have hy : SyOk g ⟨false, g.Start⟩ := fun h => by cases h
 have good : ∀ {s : Nat} {t : Ty.A4} {x : Int} {i : Nat}, Nb1 g.Rules N s t g.Start n x i → ∃ w, Tr g.Rules s s [t] [⟨false, g.Start⟩] w ∧ w.length = n ∧ s ≤ 5000 := by
  intro s t x i b
  obtain ⟨w, htr, hw⟩ := b.tr
  exact ⟨w, htr, hw, size_ok hg htr ⟨hv.s1, hv.s2⟩ (by rw [hw]; exact hnm.nl) (by omega)⟩
 rw [ranO_eq (by omega), Option.bind_some]
 refine Ok.bind (Q := fun z => ∃ row : List Ty.A4, z = .out row ∧ row.length = v ∧ ∀ (m : Nat) t, row[m]? = some t → ∃ s i, Nb1 g.Rules N s t g.Start n m i) ?_ ?_
 ·refine forL_ok (fun i (row : List Ty.A4) => row.length = i ∧ ∀ (m : Nat) t, row[m]? = some t → ∃ s i, Nb1 g.Rules N s t g.Start n m i) ⟨rfl, fun m t h => by simp at h⟩ ?_ fun row h => ⟨row, rfl, by rw [h.1, ran_length, e1]; rfl, h.2⟩
  intro i x row hx ⟨r1, r2⟩
  obtain ⟨rfl, hi⟩ := ran_at hx
  unfold P.A7.b0
  obtain ⟨z, ez, hz⟩ := rtree_ok E ho hT (i : Int)
  rw [ez, Option.bind_some]
  rcases hz with ⟨-, -, z2, s, j, b⟩ | ⟨z2, -⟩
  ·obtain ⟨w, htr, hw, hs⟩ := good b
   rw [if_neg (by simp [z2]), tcheck_ok hv htr (by omega) hs hy, Option.bind_some, Option.bind_some, if_neg (by simp), htr.word (by omega) (by omega), Option.bind_some, Option.bind_some, if_neg (by simp [hw])]
   refine Ok.bind (Q := fun y => y = .out ()) ?_ fun y hy => ?_
   ·refine forL_ok (fun _ _ => True) trivial ?_ fun _ _ => rfl
    intro m t' _ ht' _
    unfold P.A7.b1
    obtain ⟨s', i', b'⟩ := r2 m t' ht'
    obtain ⟨w', htr', hw', hs'⟩ := good b'
    refine (tcompare_ok htr' htr (by omega) (by omega) hs' hs).bind fun c hc => .ite (fun h0 => ?_) fun _ => .some trivial
    have := hc.1 h0
    subst this
    have := b'.fn b
    have := (List.getElem?_eq_some_iff.1 ht').1
    omega
   ·subst hy
    dsimp only [Fin.cs]
    rw [app_eq (by simp; omega), Option.bind_some]
    refine .some ⟨by simp [r1], fun m t ht => ?_⟩
    rcases Nat.lt_or_ge m row.length with q1 | q1
    ·rw [List.getElem?_append_left q1] at ht; exact r2 m t ht
    ·rw [List.getElem?_append_right q1] at ht
     obtain ⟨h1, h2⟩ := List.getElem?_eq_some_iff.1 ht
     simp at h1
     have : m = i := by omega
     subst this
     simp at h2
     exact ⟨s, j, h2 ▸ b⟩
  ·omega
 ·rintro _ ⟨row, rfl, r1, r2⟩
  dsimp only [Fin.cs]
  have ht : Ok (P.F8 φ g m) fun r => r.2 = true → ∃ d sz w, Tr g.Rules d sz [r.1] [⟨false, g.Start⟩] w ∧ d ≤ 20 ∧ sz ≤ 60 := by
   unfold P.F8
   refine (mktree_ok hv φ _ _ 60 12 (by omega) (by omega) (by omega) (by omega) (by omega)).bind fun r hr => .some fun h => ?_
   obtain ⟨a, w, sz, b, c⟩ := hr h
   exact ⟨_, sz, w, b, by omega, by omega⟩
  refine ht.bind fun x hx => ?_
  obtain ⟨t, ok⟩ := x
  cases ok with
  | false => exact .some rfl
  | true =>
    obtain ⟨d, sz, w, htr, hd, hsz⟩ := hx rfl
    rw [if_neg (by simp), htr.word (by omega) (by omega), Option.bind_some, Option.bind_some]
    by_cases hw : w.length = n
    ·rw [if_neg (by simp [hw])]
     refine Ok.bind (Q := fun z => z = true) ?_ fun z hz => by subst hz; exact .some rfl
     refine Ok.bind (Q := fun z => z = true) ?_ fun z hz => by subst hz; exact .some rfl
     obtain ⟨x, s1, i1, b1, x0, x1⟩ : ∃ x s i, Nb1 g.Rules N s t g.Start n x i ∧ 0 ≤ x ∧ x < v := by
      rcases htr.one with ⟨_, _, h, _⟩ | ⟨d', k, s1, r, kids, rfl, hr, rfl, hyr, rfl, hk⟩
      ·cases h
      ·have hl : g.Start = r.Left := by simpa using hyr
       have hvl := hnm.lt
       obtain ⟨s', x, b, x0, x1, -⟩ := nb1_of E hr hk hw (Nat.le_refl _) (fun _ => by rw [← hl, hsI]; omega) fun hf => nb_of E hk hw (Nat.le_refl _) hf
       rw [← hl] at b x1
       exact ⟨x, s', k, b, x0, by omega⟩
     obtain ⟨x, rfl⟩ : ∃ m : Nat, x = m := ⟨x.toNat, by omega⟩
     have hxr : row[x]? = some (row[x]'(by omega)) := List.getElem?_eq_getElem _
     obtain ⟨s2, i2, b2⟩ := r2 x _ hxr
     have htx := b1.inj E b2 (Nat.le_refl _)
     unfold P.D3 P.C9
     refine Ok.bind (Q := fun z => 0 ≤ z) ?_ fun z hz => .some (by simpa using hz)
     rw [ranO_eq (by omega), Option.bind_some]
     refine Ok.bind (Q := fun z => ∃ c : Int, z = .rt c ∧ 0 ≤ c) (forL_ok (fun i _ => ∀ j, j < i → row[j]? ≠ some t) (fun j h => by omega) ?_ fun _ h => ?_) fun z ⟨c, e, hc⟩ => by subst e; exact .some hc
     ·intro i y _ hy hnot
      obtain ⟨rfl, hi⟩ := ran_at hy
      unfold P.C9.b0 P.D6
      have hyr : row[i]? = some (row[i]'(by omega)) := List.getElem?_eq_getElem _
      rw [ix_nat, hyr, Option.bind_some]
      obtain ⟨s3, i3, b3⟩ := r2 i _ hyr
      obtain ⟨w3, htr3, hw3, hs3⟩ := good b3
      refine Ok.bind (Q := fun z => z = true ∨ row[i]? ≠ some t) ((tcompare_ok htr3 htr (by omega) (by omega) hs3 (by omega)).bind fun c hc => .some ?_) fun z hz => .ite (fun _ => .some ⟨_, rfl, by omega⟩) fun hz2 => .some fun j hj => ?_
      ·by_cases h0 : c = 0
       ·exact .inl (by simp [h0])
       ·exact .inr fun h => h0 (hc.2 (by rw [hyr] at h; exact Option.some.inj h))
      ·rcases Nat.lt_succ_iff_lt_or_eq.1 hj with q | rfl
       ·exact hnot j q
       ·exact hz.resolve_left hz2
     ·exact absurd (by rw [hxr, ← htx]) (h x (by rw [ran_length]; omega))
    ·rw [if_pos (by simp; omega)]
     exact .some rfl
end Go.Proofs.Ytmeigkelacoibaa.Gr
