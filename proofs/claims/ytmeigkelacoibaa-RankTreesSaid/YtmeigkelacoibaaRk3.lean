import Derived.Test.YtmeigkelacoibaaRk2
namespace Go.Proofs.Ytmeigkelacoibaa.Gr
open Go Go.Ab Go.Pu
def Cx (N : List (List Int)) (f : Int → Nat → Nat) : List Sy → Nat → Prop
 | [], _ => True
 | s :: l, k => ∀ j, j ≤ k → sI N s j ≠ 0 → wI N l (k - j) ≠ 0 → (nS f s j : Int) = sI N s j ∧ Cx N f l (k - j)
theorem sum_eq_each {α : Type} {f g : α → Nat} : ∀ {l : List α}, (∀ x ∈ l, f x ≤ g x) → (l.map f).sum = (l.map g).sum → ∀ x ∈ l, f x = g x
 | [], _, _, x, hx => by cases hx
 | y :: l, h, e, x, hx => by
   simp only [List.map_cons, List.sum_cons] at e
   have h1 := h y (by simp)
   have h2 := sum_le (l := l) (f := f) (g := g) fun z hz => h z (by simp [hz])
   rcases List.mem_cons.1 hx with rfl | hx
   ·omega
   ·exact sum_eq_each (fun z hz => h z (by simp [hz])) (by omega) x hx
theorem mul_tight {a b A B : Nat} (h1 : a ≤ A) (h2 : b ≤ B) (h : a * b = A * B) (h0 : 0 < A * B) : a = A ∧ b = B := by
 have hA : 0 < A := Nat.pos_of_mul_pos_right h0
 have hB : 0 < B := Nat.pos_of_mul_pos_left h0
 constructor
 ·rcases Nat.lt_or_ge a A with q | q
  ·have e1 : a * b ≤ a * B := Nat.mul_le_mul_left _ h2
   have e2 : a * B < A * B := Nat.mul_lt_mul_of_pos_right q hB
   omega
  ·omega
 ·rcases Nat.lt_or_ge b B with q | q
  ·have e1 : a * b ≤ A * b := Nat.mul_le_mul_right _ h1
   have e2 : A * b < A * B := Nat.mul_lt_mul_of_pos_left q hA
   omega
  ·omega
def off (R : List Ru) (N : List (List Int)) (a : Int) (k i : Nat) : Int := ((R.take i).map fun r => if r.Left = a then wI N r.Right k else 0).sum
theorem off_succ {R : List Ru} {N : List (List Int)} {a : Int} {k i : Nat} {r : Ru} (hr : R[i]? = some r) : off R N a k (i + 1) = off R N a k i + (if r.Left = a then wI N r.Right k else 0) := by
 unfold off
 rw [List.take_add_one, hr]; simp
inductive Nb (R : List Ru) (N : List (List Int)) : Nat → List Ty.A4 → List Sy → Nat → Int → Prop where
 | nil : Nb R N 0 [] [] 0 0
 | leaf {s k : Nat} {m z : Int} {ts : List Ty.A4} {l : List Sy} : Nb R N s ts l k z → 0 ≤ z → z < wI N l k → Nb R N (s + 1) (⟨-1, m, []⟩ :: ts) (⟨true, m⟩ :: l) (k + 1) z
 | node {s1 s2 i j k : Nat} {y z : Int} {r : Ru} {kids ts : List Ty.A4} {l : List Sy} : R[i]? = some r → Nb R N s1 kids r.Right j y → 0 ≤ y → y < wI N r.Right j → 0 ≤ off R N r.Left j i →
  off R N r.Left j i + y < sI N ⟨false, r.Left⟩ j → sI N ⟨false, r.Left⟩ j < MC → Nb R N s2 ts l k z → 0 ≤ z → z < wI N l k →
  Nb R N (s1 + 1 + s2) (⟨(i : Int), 0, kids⟩ :: ts) (⟨false, r.Left⟩ :: l) (j + k) (ps (fun j' => sI N ⟨false, r.Left⟩ j' * wI N l (j + k - j')) j + (off R N r.Left j i + y) * wI N l k + z)
theorem Nb.len {R : List Ru} {N : List (List Int)} {s k : Nat} {x : Int} {ts : List Ty.A4} {l : List Sy} (h : Nb R N s ts l k x) : ts.length = l.length := by
 induction h with
 | nil => rfl
 | leaf _ _ _ ih => simp [ih]
 | node _ _ _ _ _ _ _ _ _ _ _ ih => simp [ih]
structure Nb1 (R : List Ru) (N : List (List Int)) (s : Nat) (t : Ty.A4) (a : Int) (j : Nat) (x : Int) (i : Nat) : Prop where
 h : ∃ (r : Ru) (kids : List Ty.A4) (s1 : Nat) (y : Int), s = s1 + 1 ∧ t = ⟨(i : Int), 0, kids⟩ ∧ R[i]? = some r ∧ r.Left = a ∧ Nb R N s1 kids r.Right j y ∧ 0 ≤ y ∧ y < wI N r.Right j ∧ 0 ≤ off R N a j i ∧ off R N a j i + y < sI N ⟨false, a⟩ j ∧
   sI N ⟨false, a⟩ j < MC ∧ x = off R N a j i + y
theorem Nb1.cons {R : List Ru} {N : List (List Int)} {s s2 i j k : Nat} {a x z : Int} {t : Ty.A4} {ts : List Ty.A4} {l : List Sy} (h : Nb1 R N s t a j x i) (h2 : Nb R N s2 ts l k z) (z0 : 0 ≤ z) (z1 : z < wI N l k) :
 Nb R N (s + s2) (t :: ts) (⟨false, a⟩ :: l) (j + k) (ps (fun j' => sI N ⟨false, a⟩ j' * wI N l (j + k - j')) j + x * wI N l k + z) := by
 obtain ⟨r, kids, s1, y, rfl, rfl, hr, rfl, b1, b2, b3, b4, b5, b6, rfl⟩ := h.h
 exact .node hr b1 b2 b3 b4 b5 b6 h2 z0 z1
section
variable {g : Ty.B2} {N : List (List Int)} {n : Nat}
theorem sym_lim (E : Env g N n) {s : Sy} {l : List Sy} {k j : Nat} (hf : Fn N (s :: l) k) (hs : s.Term = false → 0 ≤ s.N ∧ s.N < g.Nons) (hj : j ≤ k) (hk : k ≤ n) (h0 : sI N s j ≠ 0) (hw : wI N l (k - j) ≠ 0) :
 (∃ H, ∀ h, H ≤ h → sI N s j = (nS (nT g.Rules h) s j : Int)) ∧ (s.Term = false → ∃ c : Nat, sI N s j = c ∧ Num g.Rules s.N j c) := by
 obtain ⟨a1, a2⟩ := hf.sym hj h0 hw
 obtain ⟨t, m⟩ := s
 cases t with
 | true => exact ⟨⟨0, fun h _ => by simp only [sI, nS, if_true]; split <;> rfl⟩, fun h => by cases h⟩
 | false =>
   obtain ⟨b0, b1⟩ := hs rfl
   have e : sI N ⟨false, m⟩ j = el2 N m (j : Int) := rfl
   rw [e] at a1 a2
   obtain ⟨c, e1, hn⟩ := num_of (E.c m j b0 b1 (by omega)) (by omega) a2
   refine ⟨?_, fun _ => ⟨c, by rw [e, e1], hn⟩⟩
   obtain ⟨H, hH⟩ := hn.lim.eq_of_lt hn.lt
   exact ⟨H, fun h hh => by rw [e, e1]; have := hH h hh; show (c : Int) = (nT g.Rules h m j : Int); rw [← this]⟩
theorem ctx2 (E : Env g N n) {a : Int} {K v : Nat} (hn : Num g.Rules a K v) (hK : K ≤ n) {r : Ru} (hr : r ∈ g.Rules) (hra : r.Left = a) (h : Nat) : ∀ (l l1 : List Sy) (i k : Nat), r.Right = l1 ++ l → i + k = K → Le g.Rules l1 i →
 (nW (nT g.Rules h) l k : Int) ≤ wI N l k ∧ ((nW (nT g.Rules h) l k : Int) = wI N l k → Cx N (nT g.Rules h) l k) := by
 intro l
 induction l with
 | nil =>
   intro l1 i k e hik h1
   refine ⟨?_, fun _ => trivial⟩
   simp only [wI, nW]; split <;> simp
 | cons s l ih =>
   intro l1 i k e hik h1
   obtain ⟨hf, H, hH⟩ := ctx_ok E.c E.nons hn hK hr hra (s :: l) l1 i k e hik h1
   have hsm : s ∈ r.Right := by rw [e]; simp
   refine ⟨?_, fun heq j hj h0 hw => ?_⟩
   ·rw [hH (max H h) (by omega)]
    have := nW_mono (fun b m => nT_mono (R := g.Rules) (show h ≤ max H h by omega) b m) (s :: l) k
    omega
   ·have hle : Le g.Rules [s] j := by
     obtain ⟨t, m⟩ := s
     cases t with
     | true =>
       simp only [sI, if_true] at h0
       rw [Le.term_iff]
       split at h0 <;> first | assumption | exact absurd rfl h0
     | false =>
       obtain ⟨b0, b1⟩ := E.nons r hr _ hsm rfl
       exact (E.c m j b0 b1 (by omega)).zero.1 h0
    have hctx := ctx_ok E.c E.nons hn hK hr hra l (l1 ++ [s]) (i + j) (k - j) (by rw [e]; simp) (by omega) (Le.app_iff.2 ⟨i, j, rfl, h1, hle⟩)
    obtain ⟨-, H2, hH2⟩ := hctx
    obtain ⟨ih1, ih2⟩ := ih (l1 ++ [s]) (i + j) (k - j) (by rw [e]; simp) (by omega) (Le.app_iff.2 ⟨i, j, rfl, h1, hle⟩)
    obtain ⟨⟨H3, hH3⟩, -⟩ := sym_lim E hf (E.nons r hr s hsm) hj (by omega) h0 hw
    let h' := max (max H h) (max H2 H3)
    have m1 : ∀ b m, nT g.Rules h b m ≤ nT g.Rules h' b m := fun b m => nT_mono (by omega) b m
    have mS : ∀ j', nS (nT g.Rules h) s j' ≤ nS (nT g.Rules h') s j' := fun j' => by unfold nS; split <;> first | exact Nat.le_refl _ | exact m1 _ _
    have e1 : nW (nT g.Rules h) (s :: l) k = nW (nT g.Rules h') (s :: l) k := by have := hH h' (by omega); omega
    rw [nW, nW] at e1
    have e2 := sum_eq_each (fun j' _ => Nat.mul_le_mul (mS j') (nW_mono m1 l (k - j'))) e1 j (by simp; omega)
    have e3 := hH2 h' (by omega)
    have e4 := hH3 h' (by omega)
    have p1 : 0 < nS (nT g.Rules h') s j * nW (nT g.Rules h') l (k - j) := Nat.mul_pos (by omega) (by omega)
    obtain ⟨q1, q2⟩ := mul_tight (mS j) (nW_mono m1 l (k - j)) e2 p1
    exact ⟨by rw [e4]; omega, ih2 (by rw [e3]; omega)⟩
def TreeOk (g : Ty.B2) (N : List (List Int)) (n H : Nat) : Prop := ∀ (a : Int) (k v : Nat) (x : Int), 0 ≤ a → a < g.Nons → k ≤ n → Num g.Rules a k v → nT g.Rules H a k = v → 0 ≤ x → x < v → ∀ (φ : Nat) (b : Ty.E6), 50 + 8 * H ≤ φ → Bk g N b →
 Ok (P.C8 φ b ⟨false, a⟩ (k : Int) x) fun q => Bk g N q.1 ∧ ∃ s i, Nb1 g.Rules N s q.2 a k x i
theorem kids_ok (E : Env g N n) {H : Nat} (hT : TreeOk g N n H) : ∀ (d φ : Nat) (b : Ty.E6) (i p k : Nat) (r : Ru) (x : Int), g.Rules[i]? = some r → r.Right.length = p + d → 50 + 8 * H + d + 1 ≤ φ → k ≤ n → Fn N (r.Right.drop p) k → Cx N (nT g.Rules H) (r.Right.drop p) k →
 Bk g N b → 0 ≤ x → x < wI N (r.Right.drop p) k → Ok (P.D4 φ b (i : Int) (p : Int) (k : Int) x) fun q => Bk g N q.1 ∧ ∃ s, Nb g.Rules N s q.2 (r.Right.drop p) k x := by
 intro d
 induction d with
 | zero =>
   intro φ b i p k r x hr hl hφ hk hf hc hb x0 x1
   obtain ⟨φ, rfl⟩ : ∃ f, φ = f + 1 := ⟨φ - 1, by omega⟩
   rw [P.D4, hb.eg, ix_nat, hr, Option.bind_some, if_pos (by omega)]
   rw [List.drop_eq_nil_of_le (by omega)] at x1 ⊢
   unfold wI at x1
   split at x1
   ·rename_i hk0
    subst hk0
    obtain rfl : x = 0 := by omega
    exact .some ⟨hb, 0, .nil⟩
   ·omega
 | succ d ih =>
   intro φ b i p k r x hr hl hφ hk hf hc hb x0 x1
   obtain ⟨φ, rfl⟩ : ∃ f, φ = f + 1 := ⟨φ - 1, by omega⟩
   have hrm := List.mem_of_getElem? hr
   have h4 := E.v.rgt r hrm
   have hn9 := E.n9
   have hsp : p < r.Right.length := by omega
   have hdrop : r.Right.drop p = r.Right[p] :: r.Right.drop (p + 1) := List.drop_eq_getElem_cons hsp
   have hsg : r.Right[p]? = some r.Right[p] := List.getElem?_eq_getElem hsp
   generalize hs : r.Right[p] = s at hdrop hsg
   have hsm : s ∈ r.Right := by rw [← hs]; exact List.getElem_mem _
   rw [hdrop] at hf hc x1 ⊢
   generalize hL : r.Right.drop (p + 1) = l at *
   have hfs : ∀ j, j ≤ k → 0 ≤ sI N s j * wI N l (k - j) := fun j hj => hf.part hj
   have htot := hf.lt
   have hMC : (MC : Int) = 1000000000 := rfl
   rw [wI_eq] at x1 htot
   generalize hF : (fun j => sI N s j * wI N l (k - j)) = F at x1 htot
   have hFj : ∀ j, F j = sI N s j * wI N l (k - j) := fun j => by rw [← hF]
   have hpsb : ∀ j, j ≤ k + 1 → 0 ≤ ps F j ∧ ps F j ≤ ps F (k + 1) := fun j hj => ps_le (fun m hm => by rw [hFj]; exact hfs m (by omega)) hj
   rw [P.D4, hb.eg, ix_nat, hr, Option.bind_some, if_neg (by omega)]
   refine Ok.bind (Q := fun z => ∃ q : Int × Int × Int × List Ty.A6 × List (List Int) × List ((Int × Int × Int) × Int) × Int × Int, z = .out q ∧
    Bk g N ⟨⟨q.1, q.2.1, q.2.2.1, q.2.2.2.1⟩, q.2.2.2.2.1, q.2.2.2.2.2.1⟩ ∧ ∃ j : Nat, q.2.2.2.2.2.2.2 = j ∧ j ≤ k ∧ q.2.2.2.2.2.2.1 = x - ps F j ∧ 0 ≤ x - ps F j ∧ x - ps F j < F j)
    (whl_ok (fun (q : Int × Int × Int × List Ty.A6 × List (List Int) × List ((Int × Int × Int) × Int) × Int × Int) =>
      Bk g N ⟨⟨q.1, q.2.1, q.2.2.1, q.2.2.2.1⟩, q.2.2.2.2.1, q.2.2.2.2.2.1⟩ ∧ ∃ j : Nat, q.2.2.2.2.2.2.2 = j ∧ j ≤ k ∧ q.2.2.2.2.2.2.1 = x - ps F j ∧ 0 ≤ x - ps F j)
      (fun q => k - q.2.2.2.2.2.2.2.toNat) ⟨⟨by rw [← hb.eg], hb.en, hb.em⟩, 0, rfl, by omega, by show x = x - 0; omega, by show 0 ≤ x - 0; omega⟩ (fun q ⟨q1, j, q2, q3, q4, q5⟩ => ?_) (by dsimp only; omega)) fun z ⟨q, e, q1, j, q2, q3, q4, q5, q6⟩ => ?_
   ·have hpart : ∀ c : Ty.E6, Bk g N c → j < k → Ok (P.E1 φ c (i : Int) (p : Int) (j : Int) (k : Int)) fun z => Bk g N z.1 ∧ z.2 = F j := fun c hc' hjk => by
     rw [hFj, ← hL]
     exact part_ok E hr hsg (by omega) hk (by omega) (by rw [hL]; exact hf) hc'
    have hpj := hpsb (j + 1) (by omega)
    have hpj0 := hpsb j (by omega)
    have hpj1 : ps F (j + 1) = ps F j + F j := rfl
    have hFn : 0 ≤ F j := by rw [hFj]; exact hfs j q3
    unfold P.D4.b0
    rw [q2]
    refine Ok.bind (Q := fun y => Bk g N ⟨⟨y.1, y.2.1, y.2.2.1, y.2.2.2.1⟩, y.2.2.2.2.1, y.2.2.2.2.2.1⟩ ∧ ((y.2.2.2.2.2.2 = true ∧ j < k ∧ F j ≤ x - ps F j) ∨ (y.2.2.2.2.2.2 = false ∧ x - ps F j < F j))) ?_ fun y ⟨y1, y2⟩ => ?_
    ·by_cases hjk : j < k
     ·rw [if_pos (by simpa using hjk)]
      refine (hpart _ q1 hjk).bind fun z ⟨z1, z2⟩ => .some ⟨⟨z1.eg, z1.en, z1.em⟩, ?_⟩
      dsimp only
      rw [z2, q4]
      by_cases hx : F j ≤ x - ps F j
      ·exact .inl ⟨by simpa using hx, hjk, hx⟩
      ·exact .inr ⟨by simpa using hx, by omega⟩
     ·rw [if_neg (by simpa using hjk)]
      have : j = k := by omega
      subst this
      exact .some ⟨q1, .inr ⟨rfl, by omega⟩⟩
    ·rcases y2 with ⟨e1, e2, e3⟩ | ⟨e1, e2⟩
     ·rw [if_pos e1]
      refine (hpart _ y1 e2).bind fun z ⟨z1, z2⟩ => .some ⟨⟨⟨z1.eg, z1.en, z1.em⟩, j + 1, ?_, by omega, ?_, by omega⟩, ?_⟩
      ·show Pu.W ((j : Int) + 1) = _
       rw [W_id]; omega
      ·show Pu.W (q.2.2.2.2.2.2.1 - z.2) = _
       rw [q4, z2, W_id]; omega
      ·show k - (Pu.W ((j : Int) + 1)).toNat < k - (j : Int).toNat
       rw [W_id]; omega
     ·rw [if_neg (by simp [e1])]
      exact .some ⟨_, rfl, y1, j, rfl, q3, q4, q5, e2⟩
   ·subst e
    show Ok (Option.bind _ _) _
    have hpj := hpsb (j + 1) (by omega)
    have hpj0 := hpsb j (by omega)
    have hpj1 : ps F (j + 1) = ps F j + F j := rfl
    have hFpos : F j ≠ 0 := by omega
    rw [hFj] at hFpos q6
    have hs0 : sI N s j ≠ 0 := fun z => hFpos (by rw [z]; simp)
    have hw0 : wI N l (k - j) ≠ 0 := fun z => hFpos (by rw [z]; simp)
    obtain ⟨hfl, -⟩ := hf.1 j q3 hs0
    have hwn := hfl.nonneg
    have hwl := hfl.lt
    obtain ⟨hsy0, hsy1⟩ := hf.sym q3 hs0 hw0
    obtain ⟨hc1, hc2⟩ := hc j q3 hs0 hw0
    rw [q2, W_id, W_id, show (p : Int) + 1 = ((p + 1 : Nat) : Int) by omega, show (k : Int) - (j : Int) = ((k - j : Nat) : Int) by omega]
    refine (rways_ok E d φ _ i (p + 1) (k - j) r hr (by omega) (by omega) (by omega) (by rw [hL]; exact hfl) q1).bind fun x5 ⟨w1, w2⟩ => ?_
    rw [hL] at w2
    rw [ix_nat, hsg, Option.bind_some, q4]
    generalize hX : x - ps F j = X at *
    have hq : Pu.quo .i64 X x5.2 = some (X / wI N l (k - j)) := by
     unfold Pu.quo
     rw [w2, if_neg hw0, Int.tdiv_eq_ediv_of_nonneg q5]
     have h1 : 0 ≤ X / wI N l (k - j) := Int.ediv_nonneg q5 hwn
     have h2 : X / wI N l (k - j) ≤ X := Int.ediv_le_self _ q5
     congr 1
     exact W_of (by omega) (by omega)
    have hm : Pu.rem X x5.2 = some (X % wI N l (k - j)) := by
     unfold Pu.rem
     rw [w2, if_neg hw0, Int.tmod_eq_emod_of_nonneg q5]
    rw [hq, Option.bind_some]
    have y0 : 0 ≤ X / wI N l (k - j) := Int.ediv_nonneg q5 hwn
    have y1 : X / wI N l (k - j) < sI N s j := Int.ediv_lt_of_lt_mul (by omega) q6
    have z0 : 0 ≤ X % wI N l (k - j) := Int.emod_nonneg _ hw0
    have z1 : X % wI N l (k - j) < wI N l (k - j) := Int.emod_lt_of_pos _ (by omega)
    have hdm : X = X / wI N l (k - j) * wI N l (k - j) + X % wI N l (k - j) := by
     have := Int.mul_ediv_add_emod X (wI N l (k - j)); rw [Int.mul_comm] at this; omega
    generalize X / wI N l (k - j) = yy at *
    generalize X % wI N l (k - j) = zz at *
    have hnewx : ∀ b' : Ty.E6, Bk g N b' → Ok (P.D4 φ b' (i : Int) ((p + 1 : Nat) : Int) ((k - j : Nat) : Int) zz) fun q => Bk g N q.1 ∧ ∃ s, Nb g.Rules N s q.2 l (k - j) zz := fun b' hb' => by
     have := ih φ b' i (p + 1) (k - j) r zz hr (by omega) (by omega) (by omega) (by rw [hL]; exact hfl) (by rw [hL]; exact hc2) hb' z0 (by rw [hL]; exact z1)
     rwa [hL] at this
    obtain ⟨t, m⟩ := s
    cases t with
    | true =>
      have hj1 : j = 1 := by
       simp only [sI, if_true] at hs0
       split at hs0 <;> first | assumption | exact absurd rfl hs0
      subst hj1
      have hsi : sI N ⟨true, m⟩ 1 = 1 := rfl
      obtain ⟨φ, rfl⟩ : ∃ f, φ = f + 1 := ⟨φ - 1, by omega⟩
      have et : P.C8 (φ + 1) x5.1 ⟨true, m⟩ ((1 : Nat) : Int) yy = some (x5.1, ⟨-1, m, []⟩) := by rw [P.C8]; rfl
      rw [et, Option.bind_some, hm, Option.bind_some]
      refine (hnewx _ w1).bind fun q ⟨k1, s2, k2⟩ => ?_
      have hlen := k2.len
      have hl4 : l.length ≤ 4 := by rw [← hL]; simp; omega
      rw [app_eq (by simp; omega), Option.bind_some]
      refine .some ⟨k1, s2 + 1, ?_⟩
      have e0 : ps F 1 = 0 := by
       show 0 + F 0 = 0
       rw [hFj]; simp [sI]
      have : x = zz := by
       have : yy = 0 := by omega
       subst this
       omega
      rw [this]
      have h3 := Nb.leaf (m := m) k2 z0 z1
      rw [show k - 1 + 1 = k by omega] at h3
      simpa using h3
    | false =>
      obtain ⟨b0, b1⟩ := E.nons r hrm _ hsm rfl
      obtain ⟨-, hnum⟩ := sym_lim E hf (E.nons r hrm _ hsm) q3 hk hs0 hw0
      obtain ⟨c, ec, hnum⟩ := hnum rfl
      have hnt : nT g.Rules H m j = c := by
       have : (nT g.Rules H m j : Int) = sI N ⟨false, m⟩ j := hc1
       omega
      refine (hT m j c yy b0 b1 (by omega) hnum hnt y0 (by omega) φ x5.1 (by omega) w1).bind fun x8 ⟨t1, s1, i1, t2⟩ => ?_
      rw [hm, Option.bind_some]
      refine (hnewx _ t1).bind fun q ⟨k1, s2, k2⟩ => ?_
      have hlen := k2.len
      have hl4 : l.length ≤ 4 := by rw [← hL]; simp; omega
      rw [app_eq (by simp; omega), Option.bind_some]
      refine .some ⟨k1, s1 + s2, ?_⟩
      have h3 := t2.cons k2 z0 z1
      rw [show j + (k - j) = k by omega, hF] at h3
      have : x = ps F j + yy * wI N l (k - j) + zz := by omega
      rw [this]
      simpa using h3
theorem off_len {R : List Ru} {a : Int} {k : Nat} : off R N a k R.length = (R.map fun r => if r.Left = a then wI N r.Right k else 0).sum := by
 unfold off; rw [List.take_length]
theorem off_le {R : List Ru} {a : Int} {k : Nat} (h : ∀ r ∈ R, r.Left = a → 0 ≤ wI N r.Right k) {i j : Nat} (hij : i ≤ j) (hj : j ≤ R.length) : 0 ≤ off R N a k i ∧ off R N a k i ≤ off R N a k j := by
 have step : ∀ m, m < R.length → off R N a k m ≤ off R N a k (m + 1) := fun m hm => by
  have hr : R[m]? = some R[m] := by simp [hm]
  rw [off_succ hr]
  split
  ·have := h R[m] (by simp) (by assumption); omega
  ·omega
 have h1 : ∀ d, i + d ≤ R.length → off R N a k i ≤ off R N a k (i + d) := fun d => by
  induction d with
  | zero => intro _; exact Int.le_refl _
  | succ d ih => intro q; have := ih (by omega); have := step (i + d) (by omega); show _ ≤ off R N a k (i + d + 1); omega
 have h0 : ∀ d, d ≤ R.length → 0 ≤ off R N a k d := fun d => by
  induction d with
  | zero => intro _; exact Int.le_refl _
  | succ d ih => intro q; have := ih (by omega); have := step d (by omega); omega
 refine ⟨h0 i (by omega), ?_⟩
 have := h1 (j - i) (by omega)
 rwa [show i + (j - i) = j by omega] at this
theorem tree_step (E : Env g N n) {H : Nat} (hT : TreeOk g N n H) : TreeOk g N n (H + 1) := by
 intro a k v x a0 a1 hk hn hnt x0 x1 φ b hφ hb
 obtain ⟨φ, rfl⟩ : ∃ f, φ = f + 1 := ⟨φ - 1, by omega⟩
 obtain ⟨hfn, hsum⟩ := rules_ok E.c E.nons hn hk
 have hMC : (MC : Int) = 1000000000 := rfl
 have hvlt := hn.lt
 have hnl := E.v.len
 have hn9 := E.n9
 have hsI : sI N ⟨false, a⟩ k = v := by
  have h1 := hn.lim
  rcases E.c a k a0 a1 hk with ⟨q1, q2⟩ | ⟨q1, q2⟩ | ⟨q1, q2, c, q3, q4⟩
  ·have := h1.fn (lim_zero q1)
   show el2 N a (k : Int) = v
   omega
  ·exact absurd q1 hn.nl
  ·have := h1.fn q3
   show el2 N a (k : Int) = v
   omega
 have hcx : ∀ r ∈ g.Rules, r.Left = a → Cx N (nT g.Rules H) r.Right k := by
  intro r hr hra
  have hle : ∀ r ∈ g.Rules, (if r.Left = a then nW (nT g.Rules H) r.Right k else 0) ≤ (if r.Left = a then (wI N r.Right k).toNat else 0) := fun r hr => by
   split
   ·rename_i hra
    have := (ctx2 E hn hk hr hra H r.Right [] 0 k rfl (by omega) (Le.nil_iff.2 rfl)).1
    omega
   ·exact Nat.le_refl _
  have hs2 : (g.Rules.map fun r => if r.Left = a then (wI N r.Right k).toNat else 0).sum = v := by
   have : ∀ Q : List Ru, (∀ r ∈ Q, r ∈ g.Rules) → (((Q.map fun r => if r.Left = a then (wI N r.Right k).toNat else 0).sum : Nat) : Int) = (Q.map fun r => if r.Left = a then wI N r.Right k else 0).sum := by
    intro Q
    induction Q with
    | nil => intro _; rfl
    | cons r Q ih =>
      intro hQ
      have ih := ih fun z hz => hQ z (by simp [hz])
      simp only [List.map_cons, List.sum_cons]
      split
      ·have := (hfn r (hQ r (by simp)) (by assumption)).nonneg; omega
      ·omega
   have h5 := (this g.Rules fun _ h => h).trans hsum
   exact Int.ofNat.inj h5
  have hs1 : (g.Rules.map fun r => if r.Left = a then nW (nT g.Rules H) r.Right k else 0).sum = v := hnt
  have := sum_eq_each hle (hs1.trans hs2.symm) r hr
  rw [if_pos hra, if_pos hra] at this
  have h3 := (hfn r hr hra).nonneg
  exact (ctx2 E hn hk hr hra H r.Right [] 0 k rfl (by omega) (Le.nil_iff.2 rfl)).2 (by omega)
 have hnn : ∀ r ∈ g.Rules, r.Left = a → 0 ≤ wI N r.Right k := fun r hr hra => (hfn r hr hra).nonneg
 have htot : off g.Rules N a k g.Rules.length = v := by rw [off_len]; exact hsum
 rw [P.C8, if_neg (by simp), hb.eg]
 refine Ok.bind (forL_ok (fun i (q : Int × Int × Int × List Ty.A6 × List (List Int) × List ((Int × Int × Int) × Int) × Int) =>
  Bk g N ⟨⟨q.1, q.2.1, q.2.2.1, q.2.2.2.1⟩, q.2.2.2.2.1, q.2.2.2.2.2.1⟩ ∧ q.2.2.2.2.2.2 = x - off g.Rules N a k i ∧ 0 ≤ x - off g.Rules N a k i)
  (Q := fun z => ∃ q : Ty.E6 × Ty.A4, z = .rt q ∧ Bk g N q.1 ∧ ∃ s i, Nb1 g.Rules N s q.2 a k x i) ⟨⟨by rw [← hb.eg], hb.en, hb.em⟩, by show x = x - 0; omega, by show 0 ≤ x - 0; omega⟩ (fun i r q hr ⟨q1, q2, q3⟩ => ?_) fun q ⟨_, _, q3⟩ => ?_) fun z ⟨q, e, hq⟩ => by subst e; exact .some hq
 ·have hi := (List.getElem?_eq_some_iff.1 hr).1
  have hrm := List.mem_of_getElem? hr
  have hoff := off_succ (N := N) (a := a) (k := k) hr
  have hb1 := off_le hnn (show i + 1 ≤ g.Rules.length by omega) (Nat.le_refl _)
  have hb0 := off_le hnn (show i ≤ g.Rules.length by omega) (Nat.le_refl _)
  unfold P.C8.b0
  dsimp only
  by_cases hra : r.Left = a
  ·rw [if_neg (by simpa using hra)]
   rw [if_pos hra] at hoff
   have hw := rways_ok E r.Right.length φ _ i 0 k r hr (by omega) (by have := E.v.rgt r hrm; omega) hk (by simpa using hfn r hrm hra) q1
   refine hw.bind fun z ⟨z1, z2⟩ => ?_
   rw [List.drop_zero] at z2
   rw [q2, z2]
   refine .ite (fun hlt => ?_) fun hge => ?_
   ·refine (kids_ok E hT r.Right.length φ z.1 i 0 k r (x - off g.Rules N a k i) hr (by omega) (by have := E.v.rgt r hrm; omega) hk (by simpa using hfn r hrm hra) (by simpa using hcx r hrm hra) z1 q3 (by simpa using hlt)).bind fun w ⟨w1, s, w2⟩ => ?_
    rw [List.drop_zero] at w2
    refine .some ⟨_, rfl, w1, s + 1, i, ⟨r, w.2, s, x - off g.Rules N a k i, rfl, rfl, hr, hra, w2, q3, hlt, hb0.1, by rw [hsI]; omega, by rw [hsI]; omega, by omega⟩⟩
   ·refine .some ⟨⟨z1.eg, z1.en, z1.em⟩, ?_, by omega⟩
    have hwl := (hfn r hrm hra).lt
    have hwn := hnn r hrm hra
    show Pu.W (x - off g.Rules N a k i - wI N r.Right k) = _
    rw [W_id]; omega
  ·rw [if_pos (by simpa using hra)]
   rw [if_neg hra] at hoff
   exact .some ⟨q1, by rw [q2]; omega, by omega⟩
 ·exfalso; omega
theorem tree_all (E : Env g N n) : ∀ H, TreeOk g N n H
 | 0 => fun a k v x _ _ _ _ hnt x0 x1 => by
   have : nT g.Rules 0 a k = 0 := rfl
   omega
 | H + 1 => tree_step E (tree_all E H)
theorem tree_ok (E : Env g N n) {a : Int} {k v : Nat} (a0 : 0 ≤ a) (a1 : a < g.Nons) (hk : k ≤ n) (hn : Num g.Rules a k v) : ∃ φ0, ∀ φ, φ0 ≤ φ → ∀ (x : Int) (b : Ty.E6), 0 ≤ x → x < v → Bk g N b →
 Ok (P.C8 φ b ⟨false, a⟩ (k : Int) x) fun q => Bk g N q.1 ∧ ∃ s i, Nb1 g.Rules N s q.2 a k x i := by
 obtain ⟨H, hH⟩ := hn.lim.eq_of_lt hn.lt
 exact ⟨50 + 8 * H, fun φ hφ x b x0 x1 hb => tree_all E H a k v x a0 a1 hk hn (hH H (Nat.le_refl _)) x0 x1 φ b hφ hb⟩
end
end Go.Proofs.Ytmeigkelacoibaa.Gr
