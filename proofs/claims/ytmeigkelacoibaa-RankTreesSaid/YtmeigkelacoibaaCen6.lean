import Derived.Test.YtmeigkelacoibaaCen5
namespace Go.Proofs.Ytmeigkelacoibaa.Gr
open Go Go.Ab Go.Pu
open Relation
theorem nS_pos_le {R : List Ru} {h : Nat} {s : Sy} {j : Nat} (q : 0 < nS (nT R h) s j) : Le R [s] j := by
 obtain ⟨t, b⟩ := s
 unfold nS at q
 cases t with
 | true =>
   simp only [if_true] at q
   split at q
   ·exact Le.term_iff.2 ‹_›
   ·omega
 | false => exact nT_le h (by simpa using q)
theorem nW_le {R : List Ru} {h : Nat} {l : List Sy} {k : Nat} (q : 0 < nW (nT R h) l k) : Le R l k :=
 Le.sum.2 (SumL.mono (fun _ _ _ _ hs => nS_pos_le hs) (nW_pos.1 q))
theorem limW_zero {R : List Ru} {l : List Sy} {k : Nat} (q : ¬ Le R l k) : Lim (fun h => nW (nT R h) l k) 0 := by
 refine ⟨0, fun h _ => ?_⟩
 have : nW (nT R h) l k = 0 := Nat.eq_zero_of_not_pos fun e => q (nW_le e)
 show min MC (nW (nT R h) l k) = 0
 rw [this]; rfl
theorem le_zero_all {R : List Ru} {l : List Sy} (h : Le R l 0) : ∀ s ∈ l, Le R [s] 0 := by
 induction l with
 | nil => intro s hs; cases hs
 | cons x l ih =>
   obtain ⟨i, j, e, a, b⟩ := Le.cons_iff.1 h
   have hi : i = 0 := by omega
   have hj : j = 0 := by omega
   subst hi; subst hj
   intro s hs
   rcases List.mem_cons.1 hs with rfl | hs
   ·exact a
   ·exact ih b s hs
section
variable {g : Ty.B2} {n : Nat} {T : Tb}
def upK (T : Tb) (K : List (List Int)) (W : List (List (List Int))) : Tb := ⟨T.g, T.n, T.has_, T.loop_, K, T.ends, W⟩
structure KW (g : Ty.B2) (n : Nat) (K : List (List Int)) (W : List (List (List Int))) : Prop where
 k : Dim K g.Nons (n + 1)
 wl : W.length = g.Rules.length
 w : ∀ (i : Nat) (r : Ru), g.Rules[i]? = some r → Dim (el W (i : Int)) (r.Right.length + 1 : Nat) (n + 1)
 kv : ∀ (a : Int) (k : Nat), 0 ≤ a → a < g.Nons → k ≤ n → 0 ≤ el2 K a (k : Int) → ∃ c : Nat, el2 K a (k : Int) = c ∧ Lim (fun h => nT g.Rules h a k) c
 wv : ∀ (i : Nat) (r : Ru), g.Rules[i]? = some r → ∀ p k : Nat, p ≤ r.Right.length → k ≤ n → 0 ≤ el2 (el W (i : Int)) (p : Int) (k : Int) → ∃ c : Nat, el2 (el W (i : Int)) (p : Int) (k : Int) = c ∧ Lim (fun h => nW (nT g.Rules h) (r.Right.drop p) k) c
theorem Lpd.upK (hL : Lpd g n T) {K : List (List Int)} {W : List (List (List Int))} (h : KW g n K W) : Lpd g n (upK T K W) :=
 ⟨⟨⟨hL.f.ok.gE, hL.f.ok.nE, hL.f.ok.has, hL.f.ok.loop, h.k, hL.f.ok.endsL, hL.f.ok.ends, h.wl, h.w⟩, hL.f.has, hL.f.ends⟩, hL.loop⟩
structure Anc (g : Ty.B2) (X : List Int) (a : Int) (k : Nat) : Prop where
 nd : X.Nodup
 rg : ∀ x ∈ X, 0 ≤ x ∧ x < g.Nons
 up : ∀ x ∈ X, TransGen (Sm g.Rules k) x a
theorem Anc.nil {a : Int} {k : Nat} : Anc g [] a k := ⟨List.nodup_nil, (fun x hx => by cases hx), (fun x hx => by cases hx)⟩
def lvl (g : Ty.B2) (X : List Int) (k : Nat) : Nat := k * (g.Nons.toNat + 1) + (g.Nons.toNat - X.length)
theorem Anc.not {X : List Int} {a : Int} {k : Nat} (h : Anc g X a k) (h1 : Le g.Rules [⟨false, a⟩] k) (h2 : ¬ Lp g.Rules a k) : a ∉ X := fun q => h2 (.cyc h1 (h.up a q))
def CountAt (g : Ty.B2) (n : Nat) (T : Tb) (φ : Nat) : Prop := ∀ (K : List (List Int)) (W : List (List (List Int))) (X : List Int) (a : Int) (k : Nat), KW g n K W → 0 ≤ a → a < g.Nons → k ≤ n → Le g.Rules [⟨false, a⟩] k → ¬ Lp g.Rules a k → Anc g X a k → 7 * lvl g X k + 8 ≤ φ →
 Ok (P.B1 φ (upK T K W) a k) fun x => ∃ (K' : List (List Int)) (W' : List (List (List Int))) (c : Nat), x = (upK T K' W', (c : Int)) ∧ KW g n K' W' ∧ Lim (fun h => nT g.Rules h a k) c
def WayAt (g : Ty.B2) (n : Nat) (T : Tb) (φ : Nat) : Prop := ∀ (K : List (List Int)) (W : List (List (List Int))) (X : List Int) (i : Nat) (r : Ru) (p i0 k : Nat), KW g n K W → g.Rules[i]? = some r → p ≤ r.Right.length → i0 + k ≤ n → Le g.Rules (r.Right.take p) i0 → ¬ Lp g.Rules r.Left (i0 + k) → Anc g X r.Left (i0 + k) → r.Left ∉ X → 7 * lvl g X (i0 + k) + 7 ≤ φ + p →
 Ok (P.B8 φ (upK T K W) i p k) fun x => ∃ (K' : List (List Int)) (W' : List (List (List Int))) (c : Nat), x = (upK T K' W', (c : Int)) ∧ KW g n K' W' ∧ Lim (fun h => nW (nT g.Rules h) (r.Right.drop p) k) c
theorem imin_cap {x y : Nat} : Pu.imin 1000000000 ((x : Int) + y) = ((min MC (x + y) : Nat) : Int) := by
 rw [imin_eq]; show min (1000000000 : Int) _ = ((min 1000000000 (x + y) : Nat) : Int); omega
theorem imin_cap1 {x : Nat} : Pu.imin 1000000000 (x : Int) = ((min MC x : Nat) : Int) := by
 rw [imin_eq]; show min (1000000000 : Int) _ = ((min 1000000000 x : Nat) : Int); omega
theorem count_step (hv : Valid g) (hL : Lpd g n T) (hn : n ≤ 24) {φ : Nat} (hw : WayAt g n T φ) : CountAt g n T (φ + 1) := by
 intro K W X a k hK a0 a1 hk h1 h2 hX hφ
 have hrl := hv.len
 have hT := (hL.upK hK)
 have e1 : el2 (upK T K W).has_ a (k : Int) = true := (hL.f.has a k a0 a1 hk).2 h1
 have e2 : el2 (upK T K W).loop_ a (k : Int) = false := by
  cases h : el2 (upK T K W).loop_ a (k : Int) with
  | false => rfl
  | true => exact absurd ((hL.loop a k a0 a1 hk).1 h) h2
 have hnot := hX.not h1 h2
 rw [P.B1, hT.f.ok.has.ix a0 a1, Option.bind_some, hT.f.ok.has.ix2 a0 a1 (by omega) (by omega), Option.bind_some, e1, if_neg (by simp), hT.f.ok.loop.ix a0 a1, Option.bind_some, hT.f.ok.loop.ix2 a0 a1 (by omega) (by omega), Option.bind_some, e2, if_neg (by simp)]
 have k1 : Pu.ix (upK T K W).known_ a = some (el K a) := hK.k.ix a0 a1
 have k2 : Pu.ix (el K a) (k : Int) = some (el2 K a k) := hK.k.ix2 a0 a1 (by omega) (by omega)
 rw [k1, Option.bind_some, k2, Option.bind_some, Option.bind_some, k2, Option.bind_some]
 refine .ite (fun h => ?_) fun h => ?_
 ·obtain ⟨c, hc, hl⟩ := hK.kv a k a0 a1 hk h
  exact .some ⟨K, W, c, by rw [hc], hK, hl⟩
 ·have hRu : (upK T K W).g.Rules = g.Rules := by show T.g.Rules = g.Rules; rw [hL.f.ok.gE]
  rw [hRu]
  refine Ok.bind (forP_ok (fun m s => ∃ (K' : List (List Int)) (W' : List (List (List Int))) (c : Nat), s = tp (upK T K' W') (c : Int) ∧ KW g n K' W' ∧ Lim (fun h => ((g.Rules.take m).map fun r => if r.Left = a then nW (nT g.Rules h) r.Right k else 0).sum) c)
   ⟨K, W, 0, by unfold tp; rw [hRu]; rfl, hK, ⟨0, fun h _ => by simp⟩⟩ ?_ fun s h => h) ?_
  ·rintro m r _ hr ⟨K', W', c, rfl, hK', hc⟩
   have hm := List.mem_of_getElem? hr
   have hcl := hc.le
   unfold P.B1.b0
   have htk : ∀ h : Nat, ((g.Rules.take (m + 1)).map fun r => if r.Left = a then nW (nT g.Rules h) r.Right k else 0).sum = ((g.Rules.take m).map fun r => if r.Left = a then nW (nT g.Rules h) r.Right k else 0).sum + (if r.Left = a then nW (nT g.Rules h) r.Right k else 0) := fun h => by
    rw [List.take_add_one, hr, Option.toList_some, List.map_append, List.sum_append]; simp
   by_cases hla : r.Left = a
   ·rw [if_pos hla]
    have hway := hw K' W' X m r 0 0 k hK' hr (by omega) (by omega) (by rw [List.take_zero]; exact Le.nil_iff.2 rfl) (by rw [hla, Nat.zero_add]; exact h2) (by rw [hla, Nat.zero_add]; exact hX) (by rw [hla]; exact hnot) (by rw [Nat.zero_add]; omega)
    refine Ok.bind (Q := fun s => ∃ (K' : List (List Int)) (W' : List (List (List Int))) (c : Nat), s = tp (upK T K' W') (c : Int) ∧ KW g n K' W' ∧ Lim (fun h => ((g.Rules.take (m + 1)).map fun r => if r.Left = a then nW (nT g.Rules h) r.Right k else 0).sum) c) (Ok.bind hway ?_) fun s h => .some h
    rintro _ ⟨K2, W2, c2, rfl, hK2, hc2⟩
    have hcl2 := hc2.le
    refine .some ⟨K2, W2, min MC (c + c2), ?_, hK2, (hc.add hc2).congr fun h => by rw [htk, if_pos hla, List.drop_zero]⟩
    have e : Pu.imin 1000000000 (Pu.W ((c : Int) + (c2 : Int))) = ((min MC (c + c2) : Nat) : Int) := by
     have : MC = 1000000000 := rfl
     rw [W_id, imin_cap]
    show tp (upK T K2 W2) (Pu.imin 1000000000 (Pu.W ((c : Int) + (c2 : Int)))) = _
    rw [e]
   ·rw [if_neg hla]
    exact .some ⟨K', W', c, rfl, hK', hc.congr fun h => by rw [htk, if_neg hla, Nat.add_zero]⟩
  ·rintro _ ⟨K', W', c, rfl, hK', hc⟩
   rw [List.take_length] at hc
   have hc' : Lim (fun h => nT g.Rules h a k) c := Lim.shift (hc.congr fun h => rfl)
   have k1 : Pu.ix (tp (upK T K' W') (c : Int)).2.2.2.2.2.2.2.1 a = some (el K' a) := hK'.k.ix a0 a1
   have k2 : Pu.ix (el K' a) (k : Int) = some (el2 K' a k) := hK'.k.ix2 a0 a1 (by omega) (by omega)
   rw [k1, Option.bind_some, k2, Option.bind_some]
   refine .some ⟨st2 K' a (k : Int) c, W', c, rfl, ⟨hK'.k.st2 a0 a1, hK'.wl, hK'.w, fun b j b0 b1 hj h => ?_, hK'.wv⟩, hc'⟩
   rw [hK'.k.el_st2 a0 a1 (by omega) (by omega) b0 (by omega)] at h ⊢
   split
   ·rename_i e
    obtain ⟨rfl, e2⟩ := e
    obtain rfl : j = k := by omega
    exact ⟨c, rfl, hc'⟩
   ·rename_i e
    rw [if_neg e] at h
    exact hK'.kv b j b0 b1 hj h
theorem way_step (hv : Valid g) (hL : Lpd g n T) (hn : n ≤ 24) {φ : Nat} (hc : CountAt g n T φ) (hw : WayAt g n T φ) : WayAt g n T (φ + 1) := by
 intro K W X i r p i0 k hK hr hp hk hpre hnl hX hnot hφ
 have hm := List.mem_of_getElem? hr
 have hi := (List.getElem?_eq_some_iff.1 hr).1
 have hrl := hv.rgt r hm
 have hT := (hL.upK hK)
 have n1 := hv.n1
 have hRu : (upK T K W).g.Rules = g.Rules := by show T.g.Rules = g.Rules; rw [hL.f.ok.gE]
 rw [P.B8, hRu, ix_nat, hr, Option.bind_some, tends_eq hT.f hr hp (by omega)]
 have hend := hL.f.ends i r hr p k hp (by omega)
 cases hE : el2 (el (upK T K W).ends (i : Int)) (p : Int) (k : Int) with
 | false =>
   refine .some ⟨K, W, 0, rfl, hK, limW_zero fun h => ?_⟩
   have := hend.2 h
   rw [show el2 (el T.ends (i : Int)) (p : Int) (k : Int) = false from hE] at this; cases this
 | true =>
   have hle := hend.1 hE
   rw [if_neg (by simp)]
   by_cases hpl : p = r.Right.length
   ·rw [if_pos (by omega)]
    rw [List.drop_of_length_le (by omega)] at hle ⊢
    have := Le.nil_iff.1 hle
    subst this
    exact .some ⟨K, W, 1, rfl, hK, ⟨0, fun h _ => rfl⟩⟩
   ·rw [if_neg (by omega)]
    have hp1 : p + 1 ≤ r.Right.length := by omega
    obtain ⟨s, hps⟩ : ∃ s, r.Right[p]? = some s := ⟨_, List.getElem?_eq_getElem hp1⟩
    have hdr := drop_cons hps
    have hsm := hv.ins hm (List.mem_of_getElem? hps)
    have hWd := hK.w i r hr
    have hwl := hK.wl
    have w1 : Pu.ix (upK T K W).ways (i : Int) = some (el W (i : Int)) := ix_el (by omega) (by show (i : Int) < (W.length : Int); omega)
    have w2 : Pu.ix (el W (i : Int)) (p : Int) = some (el (el W (i : Int)) p) := hWd.ix (by omega) (by omega)
    have w3 : Pu.ix (el (el W (i : Int)) p) (k : Int) = some (el2 (el W (i : Int)) p k) := hWd.ix2 (by omega) (by omega) (by omega) (by omega)
    rw [w1, Option.bind_some, w2, Option.bind_some, w3, Option.bind_some]
    refine .ite (fun h => ?_) fun h => ?_
    ·rw [Option.bind_some, w2, Option.bind_some, w3, Option.bind_some]
     obtain ⟨c, e, hl⟩ := hK.wv i r hr p k hp (by omega) h
     exact .some ⟨K, W, c, by rw [e], hK, hl⟩
    ·rw [W_id, ranO_eq (by omega), Option.bind_some]
     refine Ok.bind (forP_ok (fun j st => ∃ (K' : List (List Int)) (W' : List (List (List Int))) (c : Nat), st = tp (upK T K' W') (c : Int) ∧ KW g n K' W' ∧ Lim (fun h => ((List.range j).map fun j' => nS (nT g.Rules h) s j' * nW (nT g.Rules h) (r.Right.drop (p + 1)) (k - j')).sum) c)
      ⟨K, W, 0, by unfold tp; rw [hRu]; rfl, hK, ⟨0, fun h _ => by simp⟩⟩ ?_ fun s h => h) ?_
     ·rintro j x _ hx ⟨K', W', c, rfl, hK', hlim⟩
      obtain ⟨rfl, hj⟩ := ran_at hx
      have hjk : j ≤ k := by omega
      have hT' := (hL.upK hK')
      have hcl := hlim.le
      have hMC : MC = 1000000000 := rfl
      have hrg : ∀ h : Nat, ((List.range (j + 1)).map fun j' => nS (nT g.Rules h) s j' * nW (nT g.Rules h) (r.Right.drop (p + 1)) (k - j')).sum = ((List.range j).map fun j' => nS (nT g.Rules h) s j' * nW (nT g.Rules h) (r.Right.drop (p + 1)) (k - j')).sum + nS (nT g.Rules h) s j * nW (nT g.Rules h) (r.Right.drop (p + 1)) (k - j) := fun h => by
       rw [List.range_succ, List.map_append, List.sum_append]; simp
      have e1 : Pu.ix r.Right (p : Int) = some s := ix_nat.trans hps
      have hsy : P.D0 (upK T K' W') s (j : Int) = some (symB T.has_ s j) := sym_eq (T := upK T K' W') hL.f.ok.has hsm (by omega)
      have hk1 : k - j ≤ n := by omega
      have he : ∀ (f : Bool → Option Bool), _ := fun f => tends_eq hT'.f hr (p := p + 1) (k := k - j) hp1 hk1 f
      rw [show ((p + 1 : Nat) : Int) = (p : Int) + 1 by omega, show ((k - j : Nat) : Int) = (k : Int) - j by omega] at he
      have hend2 := hL.f.ends i r hr (p + 1) (k - j) hp1 hk1
      rw [show ((p + 1 : Nat) : Int) = (p : Int) + 1 by omega, show ((k - j : Nat) : Int) = (k : Int) - j by omega] at hend2
      have hsb := symB_le hL.f hsm (j := j) (by omega)
      unfold P.B8.b0
      rw [e1, Option.bind_some]
      refine Ok.bind (o := P.D0 (upK T K' W') s (j : Int)) (Q := fun b => b = symB T.has_ s j) (.of_eq hsy rfl) ?_
      rintro _ rfl
      rw [W_id, W_id]
      have ev : ((if (!symB T.has_ s j) = true then some true else (Pu.ix (upK T K' W').ends (i : Int)).bind fun x9 => (Pu.ix x9 ((p : Int) + 1)).bind fun x10 => (Pu.ix x10 ((k : Int) - j)).bind fun x11 => some (!x11)) : Option Bool) = some (!symB T.has_ s j || !el2 (el T.ends (i : Int)) ((p : Int) + 1) ((k : Int) - j)) := by
       rw [he]
       cases symB T.has_ s j <;> rfl
      refine Ok.bind (Q := fun b => b = (!symB T.has_ s j || !el2 (el T.ends (i : Int)) ((p : Int) + 1) ((k : Int) - j))) (.of_eq ev rfl) ?_
      rintro _ rfl
      by_cases hcd : Le g.Rules [s] j ∧ Le g.Rules (r.Right.drop (p + 1)) (k - j)
      ·obtain ⟨hs1, hs2⟩ := hcd
       rw [hsb.2 hs1, hend2.2 hs2, if_neg (by simp), Option.bind_some]
       refine Ok.bind (Q := fun y => ∃ (K' : List (List Int)) (W' : List (List (List Int))) (c : Nat), y = tp (upK T K' W') (c : Int) ∧ KW g n K' W' ∧ Lim (fun h => nS (nT g.Rules h) s j) c) ?_ ?_
       ·cases ht : s.Term with
        | true =>
          refine .some ⟨K', W', 1, rfl, hK', ⟨0, fun h _ => ?_⟩⟩
          have hj1 : j = 1 := by
           obtain ⟨t, b⟩ := s
           simp only at ht; subst ht
           exact Le.term_iff.1 hs1
          show min MC (nS (nT g.Rules h) s j) = 1
          unfold nS; rw [ht, if_pos rfl, if_pos hj1]; rfl
        | false =>
          obtain ⟨b0, b1⟩ := hsm ht
          have hsx : s = ⟨false, s.N⟩ := by
           obtain ⟨t, b⟩ := s
           simp only at ht; subst ht; rfl
          have hb : Le g.Rules [⟨false, s.N⟩] j := by rw [← hsx]; exact hs1
          have hsplit : r.Right = r.Right.take p ++ (⟨false, s.N⟩ : Sy) :: r.Right.drop (p + 1) := by
           rw [← hsx, ← hdr, List.take_append_drop]
          have hnb : ¬ Lp g.Rules s.N j := fun q => hnl (by
           have := Lp.one hm hsplit hpre q hb hs2
           rwa [show i0 + j + (k - j) = i0 + k by omega] at this)
          rw [if_pos (show (!false) = true from rfl), Option.bind_some]
          have hcnt : ∃ X', Anc g X' s.N j ∧ 7 * lvl g X' j + 8 ≤ φ := by
           have hXl : X.length + 1 ≤ g.Nons.toNat := by
            have := nodup_range (N := g.Nons.toNat) (r.Left :: X) (List.nodup_cons.2 ⟨hnot, hX.nd⟩) (fun x hx => by
             rcases List.mem_cons.1 hx with rfl | hx
             ·have := hv.lft r hm; omega
             ·have := hX.rg x hx; omega)
            simpa using this
           by_cases hjj : j = i0 + k
           ·have hi0 : i0 = 0 := by omega
            have hkj : k - j = 0 := by omega
            have hsm' : Sm g.Rules (i0 + k) r.Left s.N := ⟨r, hm, rfl, _, _, hsplit, by rw [← hjj]; exact hb, fun x hx => by
             rcases List.mem_append.1 hx with hx | hx
             ·rw [hi0] at hpre; exact le_zero_all hpre x hx
             ·rw [hkj] at hs2; exact le_zero_all hs2 x hx⟩
            refine ⟨r.Left :: X, ⟨List.nodup_cons.2 ⟨hnot, hX.nd⟩, fun x hx => ?_, fun x hx => ?_⟩, ?_⟩
            ·rcases List.mem_cons.1 hx with rfl | hx
             ·exact hv.lft r hm
             ·exact hX.rg x hx
            ·rw [hjj]
             rcases List.mem_cons.1 hx with rfl | hx
             ·exact .single hsm'
             ·exact .tail (hX.up x hx) hsm'
            ·unfold lvl at hφ ⊢
             rw [hjj, List.length_cons]
             omega
           ·refine ⟨[], Anc.nil, ?_⟩
            unfold lvl at hφ ⊢
            have : (j + 1) * (g.Nons.toNat + 1) ≤ (i0 + k) * (g.Nons.toNat + 1) := Nat.mul_le_mul_right _ (by omega)
            rw [Nat.add_mul, Nat.one_mul] at this
            simp only [List.length_nil]
            omega
          obtain ⟨X', hX', hf⟩ := hcnt
          refine Ok.bind (hc K' W' X' s.N j hK' b0 b1 (by omega) hb hnb hX' hf) ?_
          rintro _ ⟨K2, W2, c2, rfl, hK2, hl2⟩
          refine .some ⟨K2, W2, c2, rfl, hK2, hl2.congr fun h => ?_⟩
          unfold nS; rw [ht]; rfl
       ·rintro _ ⟨K2, W2, c2, rfl, hK2, hl2⟩
        have hpre2 : Le g.Rules (r.Right.take (p + 1)) (i0 + j) := by
         rw [List.take_add_one, hps, Option.toList_some]
         exact Le.app_iff.2 ⟨i0, j, rfl, hpre, hs1⟩
        have hwy := hw K2 W2 X i r (p + 1) (i0 + j) (k - j) hK2 hr hp1 (by omega) hpre2 (by rwa [show i0 + j + (k - j) = i0 + k by omega]) (by rwa [show i0 + j + (k - j) = i0 + k by omega]) hnot (by rw [show i0 + j + (k - j) = i0 + k by omega]; omega)
        rw [show ((p + 1 : Nat) : Int) = (p : Int) + 1 by omega, show ((k - j : Nat) : Int) = (k : Int) - j by omega] at hwy
        refine Ok.bind hwy ?_
        rintro _ ⟨K3, W3, c3, rfl, hK3, hl3⟩
        have hcl2 := hl2.le
        have hcl3 := hl3.le
        have hmul : c2 * c3 ≤ 1000000000 * 1000000000 := Nat.mul_le_mul hcl2 hcl3
        refine .some ⟨K3, W3, min MC (c + min MC (c2 * c3)), ?_, hK3, (hlim.add (hl2.mul hl3)).congr fun h => by rw [hrg]⟩
        have e : Pu.imin 1000000000 (Pu.W ((c : Int) + Pu.imin 1000000000 (Pu.W ((c2 : Int) * (c3 : Int))))) = ((min MC (c + min MC (c2 * c3)) : Nat) : Int) := by
         rw [show (c2 : Int) * (c3 : Int) = ((c2 * c3 : Nat) : Int) by rw [Int.natCast_mul], W_id (n := ((c2 * c3 : Nat) : Int)), imin_cap1, W_id, imin_cap]
        show tp (upK T K3 W3) (Pu.imin 1000000000 (Pu.W ((c : Int) + Pu.imin 1000000000 (Pu.W ((c2 : Int) * (c3 : Int)))))) = _
        rw [e]
      ·have hcb : (!symB T.has_ s j || !el2 (el T.ends (i : Int)) ((p : Int) + 1) ((k : Int) - j)) = true := by
        cases h1 : symB T.has_ s j with
        | false => rfl
        | true =>
          cases h2 : el2 (el T.ends (i : Int)) ((p : Int) + 1) ((k : Int) - j) with
          | false => rfl
          | true => exact absurd ⟨hsb.1 h1, hend2.1 h2⟩ hcd
       rw [hcb, if_pos rfl]
       refine .some ⟨K', W', c, rfl, hK', hlim.congr fun h => ?_⟩
       rw [hrg]
       have : nS (nT g.Rules h) s j * nW (nT g.Rules h) (r.Right.drop (p + 1)) (k - j) = 0 := by
        refine Nat.eq_zero_of_not_pos fun e => hcd ⟨?_, ?_⟩
        ·exact nS_pos_le (Nat.pos_of_mul_pos_right e)
        ·exact nW_le (Nat.pos_of_mul_pos_left e)
       rw [this]; rfl
     ·rintro _ ⟨K', W', c, rfl, hK', hlim⟩
      rw [ran_length, show ((k : Int) + 1).toNat = k + 1 by omega] at hlim
      have hlim' : Lim (fun h => nW (nT g.Rules h) (r.Right.drop p) k) c := hlim.congr fun h => by rw [hdr]; rfl
      have hWd' := hK'.w i r hr
      have hwl' := hK'.wl
      have w1 : Pu.ix (tp (upK T K' W') (c : Int)).2.2.2.2.2.2.2.2.2.1 (i : Int) = some (el W' (i : Int)) := ix_el (by omega) (by show (i : Int) < (W'.length : Int); omega)
      have w2 : Pu.ix (el W' (i : Int)) (p : Int) = some (el (el W' (i : Int)) p) := hWd'.ix (by omega) (by omega)
      have w3 : Pu.ix (el (el W' (i : Int)) p) (k : Int) = some (el2 (el W' (i : Int)) p k) := hWd'.ix2 (by omega) (by omega) (by omega) (by omega)
      rw [w1, Option.bind_some, w2, Option.bind_some, w3, Option.bind_some]
      have hself : el (Pu.st W' (i : Int) (st2 (el W' (i : Int)) (p : Int) (k : Int) (c : Int))) (i : Int) = st2 (el W' (i : Int)) (p : Int) (k : Int) (c : Int) := el_same (by omega) (by omega)
      have hoth : ∀ i' : Nat, i' ≠ i → el (Pu.st W' (i : Int) (st2 (el W' (i : Int)) (p : Int) (k : Int) (c : Int))) (i' : Int) = el W' (i' : Int) := fun i' h => el_ne (by omega) (by omega) (by omega) (by omega)
      refine .some ⟨K', Pu.st W' (i : Int) (st2 (el W' (i : Int)) (p : Int) (k : Int) (c : Int)), c, rfl, ⟨hK'.k, by simpa using hwl', fun i' r' hr' => ?_, hK'.kv, fun i' r' hr' p' k' hp' hk' h => ?_⟩, hlim'⟩
      ·by_cases q : i' = i
       ·subst q; rw [hself]; rw [hr] at hr'; cases hr'; exact hWd'.st2 (by omega) (by omega)
       ·rw [hoth i' q]; exact hK'.w i' r' hr'
      ·by_cases q : i' = i
       ·subst q; rw [hself] at h ⊢; rw [hr] at hr'; cases hr'
        rw [hWd'.el_st2 (by omega) (by omega) (by omega) (by omega) (by omega) (by omega)] at h ⊢
        split
        ·rename_i e
         obtain rfl : p' = p := by omega
         obtain rfl : k' = k := by omega
         exact ⟨c, rfl, hlim'⟩
        ·rename_i e
         rw [if_neg e] at h
         exact hK'.wv _ r hr p' k' hp' hk' h
       ·rw [hoth i' q] at h ⊢; exact hK'.wv i' r' hr' p' k' hp' hk' h
theorem all_at (hv : Valid g) (hL : Lpd g n T) (hn : n ≤ 24) : ∀ φ : Nat, CountAt g n T φ ∧ WayAt g n T φ := by
 intro φ
 induction φ with
 | zero =>
   refine ⟨fun K W X a k _ _ _ _ _ _ _ h => by omega, fun K W X i r p i0 k _ hr hp _ _ _ _ _ h => ?_⟩
   have := hv.rgt r (List.mem_of_getElem? hr)
   omega
 | succ φ ih => exact ⟨count_step hv hL hn ih.2, way_step hv hL hn ih.1 ih.2⟩
theorem top_ok (hv : Valid g) (hL : Lpd g n T) (hn : n ≤ 24) {K : List (List Int)} {W : List (List (List Int))} (hK : KW g n K W) {a : Int} {k : Nat} (a0 : 0 ≤ a) (a1 : a < g.Nons) (hk : k ≤ n) {φ : Nat} (hφ : 10000 ≤ φ) :
 Ok (P.B1 φ (upK T K W) a k) fun x => ∃ (K' : List (List Int)) (W' : List (List (List Int))), x.1 = upK T K' W' ∧ KW g n K' W' ∧ Cen g.Rules a k x.2 := by
 have hT := hL.upK hK
 have n2 := hv.n2
 obtain ⟨φ, rfl⟩ : ∃ f, φ = f + 1 := ⟨φ - 1, by omega⟩
 by_cases h1 : Le g.Rules [⟨false, a⟩] k
 ·by_cases h2 : Lp g.Rules a k
  ·have e1 : el2 (upK T K W).has_ a (k : Int) = true := (hL.f.has a k a0 a1 hk).2 h1
   have e2 : el2 (upK T K W).loop_ a (k : Int) = true := (hL.loop a k a0 a1 hk).2 h2
   rw [P.B1, hT.f.ok.has.ix a0 a1, Option.bind_some, hT.f.ok.has.ix2 a0 a1 (by omega) (by omega), Option.bind_some, e1, if_neg (by simp), hT.f.ok.loop.ix a0 a1, Option.bind_some, hT.f.ok.loop.ix2 a0 a1 (by omega) (by omega), Option.bind_some, e2, if_pos rfl]
   exact .some ⟨K, W, rfl, hK, .inr (.inl ⟨h2, rfl⟩)⟩
  ·refine ((all_at hv hL hn (φ + 1)).1 K W [] a k hK a0 a1 hk h1 h2 Anc.nil ?_).mono ?_
   ·unfold lvl
    have : k * (g.Nons.toNat + 1) ≤ 24 * 11 := Nat.mul_le_mul (by omega) (by omega)
    simp only [List.length_nil]
    omega
   ·rintro _ ⟨K', W', c, rfl, hK', hl⟩
    exact ⟨K', W', rfl, hK', .inr (.inr ⟨h1, h2, c, hl, rfl⟩)⟩
 ·have e1 : el2 (upK T K W).has_ a (k : Int) = false := by
   cases h : el2 (upK T K W).has_ a (k : Int) with
   | false => rfl
   | true => exact absurd ((hL.f.has a k a0 a1 hk).1 h) h1
  rw [P.B1, hT.f.ok.has.ix a0 a1, Option.bind_some, hT.f.ok.has.ix2 a0 a1 (by omega) (by omega), Option.bind_some, e1, if_pos (by rfl)]
  exact .some ⟨K, W, rfl, hK, .inl ⟨h1, rfl⟩⟩
end
theorem trees_ok {g : Ty.B2} (hv : Valid g) {n : Nat} (hn : n ≤ 24) {φ : Nat} (hφ : 10000 ≤ φ) :
 Ok (P.C6 φ g n) fun r => r.2 = 0 ∧ Dim r.1 g.Nons (n + 1) ∧ ∀ (a : Int) (k : Nat), 0 ≤ a → a < g.Nons → k ≤ n → Cen g.Rules a k (el2 r.1 a (k : Int)) := by
 have n1 := hv.n1; have n2 := hv.n2
 unfold P.C6
 rw [check_ok hv, Option.bind_some, if_neg (by simp), if_neg (by simp; omega)]
 refine (newTable_ok hv hn).bind fun T0 ⟨t1, t2, t3, t4, t5, t6⟩ => ?_
 refine (find_ok hv hn t1 t2 t5 hφ).bind fun T1 ⟨f1, f2, f3, f4⟩ => ?_
 refine (loops_ok hv f1 hn (by rw [f2]; exact t3) hφ).bind fun T ⟨hL, g1, g2⟩ => ?_
 rw [mk_eq (by omega) (by omega) (by omega), Option.bind_some, List.length_replicate, show ((g.Nons.toNat : Nat) : Int) = g.Nons by omega, ranO_eq (by omega), Option.bind_some]
 have hK0 : KW g n T.known_ T.ways := ⟨hL.f.ok.known, hL.f.ok.waysL, hL.f.ok.ways, fun a k a0 a1 hk h => by
  rw [g1, f3, t4.2 a k a0 a1 (by omega) (by omega)] at h; omega, fun i r hr p k hp hk h => by
  rw [g2, f4, (t6 i r hr).2 p k (by omega) (by omega) (by omega) (by omega)] at h; omega⟩
 refine Ok.bind (forP_ok (fun m s => ∃ K W, ∃ O : List (List Int), s = tp (upK T K W) O ∧ KW g n K W ∧ (O.length : Int) = g.Nons ∧ (∀ a : Int, (m : Int) ≤ a → a < g.Nons → el O a = []) ∧ ∀ a : Int, 0 ≤ a → a < m → ((el O a).length : Int) = n + 1 ∧ ∀ k : Nat, k ≤ n → Cen g.Rules a k (el2 O a (k : Int)))
  ⟨T.known_, T.ways, _, rfl, hK0, by simp; omega, fun a h h' => el_rep (by omega) (by omega), fun a h h' => by omega⟩ ?_ fun s h => h) ?_
 ·rintro m x _ hx ⟨K, W, O, rfl, hK, o1, o2, o3⟩
  obtain ⟨rfl, hm⟩ := ran_at hx
  unfold P.C6.b0
  rw [W_id, ranO_eq (by omega), Option.bind_some]
  refine Ok.bind (forP_ok (fun j s => ∃ K W, ∃ O' : List (List Int), s = tp (upK T K W) O' ∧ KW g n K W ∧ (O'.length : Int) = g.Nons ∧ (∀ a : Int, 0 ≤ a → a ≠ m → el O' a = el O a) ∧ ((el O' (m : Int)).length : Int) = j ∧ ∀ k : Nat, k < j → Cen g.Rules m k (el2 O' (m : Int) (k : Int)))
   ⟨K, W, O, rfl, hK, o1, fun a _ _ => rfl, by rw [o2 m (by omega) (by omega)]; rfl, fun k h => by omega⟩ ?_ fun s h => h) ?_
  ·rintro j x _ hx ⟨K, W, O', rfl, hK, q1, q2, q3, q4⟩
   obtain ⟨rfl, hj⟩ := ran_at hx
   unfold P.C6.b1
   refine Ok.bind (o := Pu.ix O' (m : Int)) (Q := fun x => x = el O' (m : Int)) (.of_eq (ix_el (by omega) (by omega)) rfl) ?_
   rintro _ rfl
   refine Ok.bind (top_ok hv hL hn hK (a := m) (k := j) (by omega) (by omega) (by omega) hφ) ?_
   rintro ⟨T', v⟩ ⟨K', W', h1, hK', hc⟩
   simp only at h1; subst h1
   simp only at hc ⊢
   rw [app_eq (by simp; omega), Option.bind_some]
   refine Ok.bind (o := Pu.ix O' (m : Int)) (Q := fun _ => True) (.of_eq (ix_el (by omega) (by omega)) trivial) ?_
   intro _ _
   have hself : el (Pu.st O' (m : Int) (el O' (m : Int) ++ [v])) (m : Int) = el O' (m : Int) ++ [v] := el_same (by omega) (by omega)
   refine .some ⟨K', W', Pu.st O' (m : Int) (el O' (m : Int) ++ [v]), rfl, hK', by simpa using q1, fun a ha hne => by rw [el_ne (by omega) (by omega) ha hne]; exact q2 a ha hne, by rw [hself]; simp; omega, fun k hk => ?_⟩
   unfold el2
   rw [hself]
   rcases Nat.lt_succ_iff_lt_or_eq.1 hk with h | rfl
   ·rw [el_app_left (by simp; omega)]; exact q4 k h
   ·have hlk : (el O' (m : Int)).length = k := by omega
    have : el (el O' (m : Int) ++ [v]) (k : Int) = v := by rw [← hlk]; exact el_app_len
    rw [this]; exact hc
  ·rintro _ ⟨K, W, O', rfl, hK, q1, q2, q3, q4⟩
   rw [ran_length] at q3 q4
   refine .some ⟨K, W, O', rfl, hK, q1, fun a h h' => by rw [q2 a (by omega) (by omega)]; exact o2 a (by omega) h', fun a h h' => ?_⟩
   rcases (by omega : a < m ∨ a = m) with h2 | rfl
   ·unfold el2; rw [q2 a h (by omega)]; exact o3 a h h2
   ·exact ⟨by omega, fun k hk => q4 k (by omega)⟩
 ·rintro _ ⟨K, W, O, rfl, hK, o1, o2, o3⟩
  refine .some ⟨rfl, ⟨o1, fun a h h' => ?_⟩, fun a k a0 a1 hk => ?_⟩
  ·exact (o3 a h (by rw [ran_length]; omega)).1
  ·exact (o3 a a0 (by rw [ran_length]; omega)).2 k hk
end Go.Proofs.Ytmeigkelacoibaa.Gr
