import Derived.Test.YtmeigkelacoibaaRk3
import Derived.Test.YtmeigkelacoibaaTree2
namespace Go.Proofs.Ytmeigkelacoibaa.Gr
open Go Go.Ab Go.Pu
open Relation
theorem Nb.tr {R : List Ru} {N : List (List Int)} {s k : Nat} {x : Int} {ts : List Ty.A4} {l : List Sy} (h : Nb R N s ts l k x) : ∃ w, Tr R s s ts l w ∧ w.length = k := by
 induction h with
 | nil => exact ⟨[], .nil, rfl⟩
 | leaf _ _ _ ih =>
   obtain ⟨w, h1, h2⟩ := ih
   exact ⟨_, .leaf (h1.mono (by omega)), by simp [h2]⟩
 | @node s1 s2 i j k y z r kids ts l hr _ _ _ _ _ _ _ _ _ ih1 ih2 =>
   obtain ⟨v, h1, h2⟩ := ih1
   obtain ⟨w, h3, h4⟩ := ih2
   refine ⟨v ++ w, ?_, by simp [h2, h4]⟩
   have := Tr.node hr (h1.mono (show s1 ≤ s1 + s2 by omega)) (h3.mono (show s2 ≤ s1 + s2 + 1 by omega))
   rwa [show s1 + s2 + 1 = s1 + 1 + s2 by omega] at this
theorem Nb1.tr {R : List Ru} {N : List (List Int)} {s k i : Nat} {a x : Int} {t : Ty.A4} (h : Nb1 R N s t a k x i) : ∃ w, Tr R s s [t] [⟨false, a⟩] w ∧ w.length = k := by
 obtain ⟨r, kids, s1, y, rfl, rfl, hr, rfl, b1, -⟩ := h.h
 obtain ⟨v, h1, h2⟩ := b1.tr
 exact ⟨v, by have := Tr.node hr h1 .nil; simpa using this, h2⟩
theorem le_zero {R : List Ru} : ∀ {l : List Sy}, Le R l 0 → ∀ s ∈ l, Le R [s] 0
 | [], _, s, hs => by cases hs
 | y :: l, h, s, hs => by
   obtain ⟨i, j, e, h1, h2⟩ := Le.cons_iff.1 h
   obtain rfl : i = 0 := by omega
   obtain rfl : j = 0 := by omega
   rcases List.mem_cons.1 hs with rfl | hs
   ·exact h1
   ·exact le_zero h2 s hs
def Zb : Nat → Nat
 | 0 => 0
 | j + 1 => 1 + 3 * Zb j
def Sb (k j s : Nat) : Prop := (k = 0 → s ≤ Zb j) ∧ (1 ≤ k → s ≤ 81 * j + 1 + 609 * (k - 1))
variable {g : Ty.B2}
theorem child_ok (hg : Small g) {d : Nat} (ih : ∀ (s : Nat) (t : Ty.A4) (a : Int) (w : List Int), Tr g.Rules d s [t] [⟨false, a⟩] w → (0 ≤ a ∧ a < g.Nons) → ¬ Lp g.Rules a w.length → ∀ C : List Int, C.Nodup → (∀ c ∈ C, 0 ≤ c ∧ c < g.Nons) → (∀ c ∈ C, TransGen (Sm g.Rules w.length) c a) → Sb w.length (4 - C.length) s)
 {r : Ru} (hr : r ∈ g.Rules) {C : List Int} (c1 : C.Nodup) (c2 : ∀ c ∈ C, 0 ≤ c ∧ c < g.Nons) {k : Nat} (c3 : ∀ c ∈ C, TransGen (Sm g.Rules k) c r.Left) (hl : ¬ Lp g.Rules r.Left k) (hle : Le g.Rules [⟨false, r.Left⟩] k)
 {l1 l2 : List Sy} {y : Sy} (e : r.Right = l1 ++ y :: l2) {i m : Nat} (h1 : Le g.Rules l1 i) (h2 : Le g.Rules l2 m) {s : Nat} {t : Ty.A4} {w : List Int} (h : Tr g.Rules d s [t] [y] w) (hk : i + w.length + m = k) :
 (i + m = 0 → Sb w.length (4 - (C.length + 1)) s) ∧ Sb w.length 4 s := by
 have hym : y ∈ r.Right := by rw [e]; simp
 obtain ⟨tm, b⟩ := y
 cases tm with
 | true =>
   rcases h.one with ⟨n, -, -, rfl, rfl⟩ | ⟨_, _, _, _, _, _, _, _, q, _⟩
   ·exact ⟨fun _ => ⟨fun q => by simp at q, fun _ => by simp⟩, ⟨fun q => by simp at q, fun _ => by simp⟩⟩
   ·cases q
 | false =>
   have hb : 0 ≤ b ∧ b < g.Nons := ⟨(hg.sym r hr _ hym).1, (hg.sym r hr _ hym).2.2 rfl⟩
   have hleb := h.le
   have hlb : ¬ Lp g.Rules b w.length := fun q => hl (by have := Lp.one hr e h1 q hleb h2; rwa [hk] at this)
   refine ⟨fun h0 => ?_, by simpa using ih s t b w h hb hlb [] List.nodup_nil (by simp) (by simp)⟩
   have hwk : w.length = k := by omega
   have hi0 : i = 0 := by omega
   have hm0 : m = 0 := by omega
   subst hi0; subst hm0
   have hsm : Sm g.Rules k r.Left b := ⟨r, hr, rfl, l1, l2, e, by rw [← hwk]; exact hleb, fun z hz => by
    rcases List.mem_append.1 hz with hz | hz
    ·exact le_zero h1 z hz
    ·exact le_zero h2 z hz⟩
   have hnot : r.Left ∉ C := fun q => hl (.cyc hle (c3 _ q))
   have := ih s t b w h hb hlb (r.Left :: C) (List.nodup_cons.2 ⟨hnot, c1⟩) (fun c hc => by
    rcases List.mem_cons.1 hc with rfl | hc
    ·exact hg.lft r hr
    ·exact c2 c hc) (fun c hc => by
    rw [hwk]
    rcases List.mem_cons.1 hc with rfl | hc
    ·exact .single hsm
    ·exact .tail (c3 c hc) hsm)
   simpa using this
theorem size_bd (hg : Small g) : ∀ (d s : Nat) (t : Ty.A4) (a : Int) (w : List Int), Tr g.Rules d s [t] [⟨false, a⟩] w → (0 ≤ a ∧ a < g.Nons) → ¬ Lp g.Rules a w.length → ∀ C : List Int, C.Nodup → (∀ c ∈ C, 0 ≤ c ∧ c < g.Nons) → (∀ c ∈ C, TransGen (Sm g.Rules w.length) c a) → Sb w.length (4 - C.length) s := by
 intro d
 induction d with
 | zero =>
   intro s t a w h _ _ C _ _ _
   rcases h.one with ⟨n, -, q, -⟩ | ⟨d', _, _, _, _, q, _⟩
   ·cases q
   ·omega
 | succ d ih =>
   intro s t a w h ha hl C c1 c2 c3
   have hle := h.le
   rcases h.one with ⟨n, -, q, -⟩ | ⟨d', k, s1, r, kids, e, hr, rfl, q, rfl, hk⟩
   ·cases q
   ·obtain rfl : d' = d := by omega
    have hra : r.Left = a := (congrArg Ty.D1.N q).symm
    subst hra
    have hrm := List.mem_of_getElem? hr
    have hnot : r.Left ∉ C := fun q => hl (.cyc hle (c3 _ q))
    have hcl : (r.Left :: C).length ≤ g.Nons.toNat := nodup_range (N := g.Nons.toNat) (r.Left :: C) (List.nodup_cons.2 ⟨hnot, c1⟩) (fun c hc => by
     rcases List.mem_cons.1 hc with rfl | hc
     ·have := hg.lft r hrm; omega
     ·have := c2 c hc; omega)
    have hn4 := hg.n3
    simp only [List.length_cons] at hcl
    have hC : C.length ≤ 3 := by omega
    have h3 := hg.rgt3 r hrm
    have hz : Zb (4 - C.length) = 1 + 3 * Zb (4 - (C.length + 1)) := by
     rw [show 4 - C.length = (4 - (C.length + 1)) + 1 by omega]; rfl
    have z4 : Zb 4 = 40 := rfl
    have key := fun {l1 l2 : List Sy} {y : Sy} (e : r.Right = l1 ++ y :: l2) {i m : Nat} (h1 : Le g.Rules l1 i) (h2 : Le g.Rules l2 m) {s : Nat} {t : Ty.A4} {v : List Int} (h : Tr g.Rules d' s [t] [y] v) (hk : i + v.length + m = w.length) => child_ok hg ih hrm c1 c2 c3 hl hle e h1 h2 h hk
    unfold Sb at key ⊢
    generalize hZ : Zb (4 - (C.length + 1)) = Z at *
    rw [hz]
    have hlen := hk.trees
    generalize hRt : r.Right = rt at *
    match kids, hk with
    | [], hk => cases hk; exact ⟨fun _ => by omega, fun q => by simp at q⟩
    | [x], hk =>
      obtain ⟨s1, s2, y, l', w1, w2, rfl, rfl, rfl, k1, k2⟩ := hk.cons
      cases k2
      have b1 := key (l1 := []) (l2 := []) rfl (Le.nil_iff.2 rfl) (Le.nil_iff.2 rfl) k1 (by simp)
      simp only [List.append_nil, List.length_append, List.length_nil] at *
      have b3 := b1.1 trivial
      omega
    | [x, x'], hk =>
      obtain ⟨s1, s2, y, l', w1, w2, rfl, rfl, rfl, k1, k2⟩ := hk.cons
      obtain ⟨s3, s4, y', l'', w3, w4, rfl, rfl, rfl, k3, k4⟩ := k2.cons
      cases k4
      have b1 := key (l1 := []) (l2 := [y']) rfl (Le.nil_iff.2 rfl) k3.le k1 (by simp)
      have b2 := key (l1 := [y]) (l2 := []) rfl k1.le (Le.nil_iff.2 rfl) k3 (by simp)
      simp only [List.append_nil, List.length_append] at *
      omega
    | [x, x', x''], hk =>
      obtain ⟨s1, s2, y, l', w1, w2, rfl, rfl, rfl, k1, k2⟩ := hk.cons
      obtain ⟨s3, s4, y', l'', w3, w4, rfl, rfl, rfl, k3, k4⟩ := k2.cons
      obtain ⟨s5, s6, y'', l3, w5, w6, rfl, rfl, rfl, k5, k6⟩ := k4.cons
      cases k6
      have b1 := key (l1 := []) (l2 := [y', y'']) rfl (Le.nil_iff.2 rfl) (by have := (k3.app k5).le; simpa using this) k1 (by simp)
      have b2 := key (l1 := [y]) (l2 := [y'']) rfl k1.le k5.le k3 (by simp; omega)
      have b3 := key (l1 := [y, y']) (l2 := []) rfl (by have := (k1.app k3).le; simpa using this) (Le.nil_iff.2 rfl) k5 (by simp; omega)
      simp only [List.append_nil, List.length_append] at *
      omega
    | x :: x' :: x'' :: x3 :: rest, hk =>
      simp at hlen; omega
theorem size_ok (hg : Small g) {d s : Nat} {t : Ty.A4} {a : Int} {w : List Int} (h : Tr g.Rules d s [t] [⟨false, a⟩] w) (ha : 0 ≤ a ∧ a < g.Nons) (hl : ¬ Lp g.Rules a w.length) (hw : w.length ≤ 7) : s ≤ 5000 := by
 have := size_bd hg d s t a w h ha hl [] List.nodup_nil (by simp) (by simp)
 unfold Sb at this
 have z4 : Zb (4 - ([] : List Int).length) = 40 := rfl
 rw [z4] at this
 simp only [List.length_nil] at this
 omega
end Go.Proofs.Ytmeigkelacoibaa.Gr
