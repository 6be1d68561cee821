import Derived.Test.YtmeigkelacoibaaCen4
namespace Go.Proofs.Ytmeigkelacoibaa.Gr
open Go Go.Ab Go.Pu
open Relation
variable {g : Ty.B2} {n : Nat} {T : Tb}
structure Lpd (g : Ty.B2) (n : Nat) (T : Tb) : Prop where
 f : Fnd g n T
 loop : ∀ (a : Int) (k : Nat), 0 ≤ a → a < g.Nons → k ≤ n → (el2 T.loop_ a (k : Int) = true ↔ Lp g.Rules a k)
abbrev Mk (L : List (List Bool)) : Int → Nat → Prop := fun a j => el2 L a (j : Int) = true
structure LR (g : Ty.B2) (n : Nat) (L0 : List (List Bool)) (done : Nat → Nat → Prop) (L : List (List Bool)) (b : Bool) : Prop where
 dim : Dim L g.Nons (n + 1)
 snd : ∀ (a : Int) (k : Nat), 0 ≤ a → a < g.Nons → k ≤ n → el2 L a (k : Int) = true → Lp g.Rules a k
 up : ∀ (a : Int) (k : Nat), 0 ≤ a → a < g.Nons → k ≤ n → el2 L0 a (k : Int) = true → el2 L a (k : Int) = true
 w : wM L + (if b then 1 else 0) ≤ wM L0
 no : b = false → L = L0 ∧ ∀ (i k : Nat) (r : Ru), done i k → k ≤ n → g.Rules[i]? = some r → EndL g.Rules (Mk L0) r.Right k → el2 L0 r.Left (k : Int) = true
theorem mk_lp (hv : Valid g) {L : List (List Bool)} (h : ∀ (a : Int) (k : Nat), 0 ≤ a → a < g.Nons → k ≤ n → el2 L a (k : Int) = true → Lp g.Rules a k) {r : Ru} (hr : r ∈ g.Rules) {k : Nat} (hk : k ≤ n) (q : EndL g.Rules (Mk L) r.Right k) : Lp g.Rules r.Left k := by
 obtain ⟨l1, b, l2, i, j, m, e, rfl, h1, h2, h3, h4⟩ := endL_iff.1 q
 have hb := hv.ins hr (s := ⟨false, b⟩) (by rw [e]; simp) rfl
 exact .one hr e h1 (h b j hb.1 hb.2 (by omega) h2) h3 h4
theorem loopRound_ok (hv : Valid g) (hF : Fnd g n T) (hn : n ≤ 24) {L0 : List (List Bool)} (d0 : Dim L0 g.Nons (n + 1)) (s0 : ∀ (a : Int) (k : Nat), 0 ≤ a → a < g.Nons → k ≤ n → el2 L0 a (k : Int) = true → Lp g.Rules a k) {φ : Nat} (hφ : 10 ≤ φ) :
 Ok (Pu.forP (P.A1.b6 φ) 0 g.Rules (tp (upL T L0) false)) fun s => ∃ L b, s = tp (upL T L) b ∧ LR g n L0 (fun i _ => i < g.Rules.length) L b := by
 refine forP_ok (fun m s => ∃ L b, s = tp (upL T L) b ∧ LR g n L0 (fun i _ => i < m) L b) ⟨L0, false, rfl, d0, s0, fun _ _ _ _ _ h => h, by simp, fun _ => ⟨rfl, fun i k r h => by omega⟩⟩ ?_ fun s h => h
 rintro m r _ hr ⟨L, b, rfl, hI⟩
 have hm := List.mem_of_getElem? hr
 obtain ⟨l1, l2⟩ := hv.lft r hm
 have hrl := hv.rgt r hm
 unfold P.A1.b6
 rw [show (tp (upL T L) b).2.2.2.2.1 = (n : Int) from hF.ok.nE, W_id, ranO_eq (by omega), Option.bind_some]
 refine Ok.bind (forP_ok (fun k s => ∃ L b, s = tp (upL T L) b ∧ LR g n L0 (fun i k' => i < m ∨ (i = m ∧ k' < k)) L b) ⟨L, b, by unfold tp; rw [show (upL T L).n = (n : Int) from hF.ok.nE], hI.dim, hI.snd, hI.up, hI.w, fun e => ⟨(hI.no e).1, fun i k q h => (hI.no e).2 i k q (by omega)⟩⟩ ?_ fun s h => h) ?_
 ·rintro k x _ hx ⟨L, b, rfl, hJ⟩
  obtain ⟨rfl, hk⟩ := ran_at hx
  have hk' : k ≤ n := by omega
  have hFL := hF.upL hJ.dim
  unfold P.A1.b7
  refine Ok.bind (o := Pu.ix (upL T L).loop_ r.Left) (Q := fun x => x = el L r.Left) (.of_eq (hJ.dim.ix l1 l2) rfl) ?_
  rintro _ rfl
  rw [hJ.dim.ix2 l1 l2 (by omega) (by omega), Option.bind_some]
  refine Ok.bind (Q := fun y => ∃ e, y = tp (upL T L) e ∧ (e = true ↔ el2 L r.Left (k : Int) = false ∧ EndL g.Rules (Mk L) r.Right k)) ?_ ?_
  ·cases hl : el2 L r.Left (k : Int) with
   | true => exact .some ⟨false, rfl, by simp⟩
   | false =>
     rw [if_pos (show (!false) = true from rfl)]
     have he := tendless_ok hv hFL hn hr φ 0 k (by omega) (by omega) hk'
     refine Ok.bind he ?_
     rintro ⟨T', e⟩ ⟨h1, h2⟩
     simp only at h1; subst h1
     exact .some ⟨e, rfl, ⟨fun h => ⟨rfl, h2.1 h⟩, fun h => h2.2 h.2⟩⟩
  ·rintro _ ⟨e, rfl, he⟩
   refine Ok.bind (Q := fun y => y = (if e = true then st2 L r.Left (k : Int) true else L, if e = true then true else b)) ?_ ?_
   ·cases e with
    | true =>
      rw [if_pos (show (tp (upL T L) true).2.2.2.2.2.2.2.2.2.2 = true from rfl)]
      refine Ok.bind (o := Pu.ix (upL T L).loop_ r.Left) (Q := fun x => x = el L r.Left) (.of_eq (hJ.dim.ix l1 l2) rfl) ?_
      rintro _ rfl
      rw [hJ.dim.ix2 l1 l2 (by omega) (by omega), Option.bind_some]
      exact .some rfl
    | false =>
      rw [if_neg (show ¬ (tp (upL T L) false).2.2.2.2.2.2.2.2.2.2 = true by simp [tp])]
      exact .some rfl
   ·rintro _ rfl
    cases e with
    | true =>
      obtain ⟨h1, h2⟩ := he.1 rfl
      have hw : wM (st2 L r.Left (k : Int) true) + 1 = wM L := wM_st hJ.dim l1 l2 (by omega) (by omega) h1
      have hel2 : ∀ a j : Int, 0 ≤ a → 0 ≤ j → el2 (st2 L r.Left (k : Int) true) a j = if a = r.Left ∧ j = k then true else el2 L a j := fun a j h h' => hJ.dim.el_st2 l1 l2 (by omega) (by omega) h h'
      refine .some ⟨st2 L r.Left (k : Int) true, true, rfl, hJ.dim.st2 l1 l2, fun a j a0 a1 hj q => ?_, fun a j a0 a1 hj q => ?_, ?_, fun e => by cases e⟩
      ·rw [hel2 a j a0 (by omega)] at q
       split at q
       ·rename_i e
        obtain ⟨rfl, e2⟩ := e
        obtain rfl : j = k := by omega
        exact mk_lp hv hJ.snd hm hj h2
       ·exact hJ.snd a j a0 a1 hj q
      ·rw [hel2 a j a0 (by omega)]
       split
       ·rfl
       ·exact hJ.up a j a0 a1 hj q
      ·have := hJ.w
       simp only [if_true]
       split at this <;> omega
    | false =>
      refine .some ⟨L, b, rfl, hJ.dim, hJ.snd, hJ.up, hJ.w, fun e => ⟨(hJ.no e).1, fun i j q hij hj hq hend => ?_⟩⟩
      rcases hij with h | ⟨rfl, h⟩
      ·exact (hJ.no e).2 i j q (.inl h) hj hq hend
      ·rcases Nat.lt_succ_iff_lt_or_eq.1 h with h | rfl
       ·exact (hJ.no e).2 i j q (.inr ⟨rfl, h⟩) hj hq hend
       ·rw [hr] at hq; cases hq
        have hL : L = L0 := (hJ.no e).1
        cases hl : el2 L0 r.Left (j : Int) with
        | true => rfl
        | false => exact absurd (he.2 ⟨by rw [hL]; exact hl, by rw [hL]; exact hend⟩) (by simp)
 ·rintro _ ⟨L, b, rfl, hJ⟩
  refine .some ⟨L, b, rfl, hJ.dim, hJ.snd, hJ.up, hJ.w, fun e => ⟨(hJ.no e).1, fun i k q hi hk => (hJ.no e).2 i k q ?_ hk⟩⟩
  rw [ran_length]
  rcases Nat.lt_succ_iff_lt_or_eq.1 hi with h | h
  ·exact .inl h
  ·exact .inr ⟨h, by omega⟩
theorem loops_ok (hv : Valid g) (hF : Fnd g n T) (hn : n ≤ 24) (hL : All T.loop_ g.Nons (n + 1) false) {φ : Nat} (hφ : 10000 ≤ φ) :
 Ok (P.A1 φ T) fun T' => Lpd g n T' ∧ T'.known_ = T.known_ ∧ T'.ways = T.ways := by
 have n1 := hv.n1; have n2 := hv.n2
 unfold P.A1
 rw [hF.ok.nE, W_id, ranO_eq (by omega), Option.bind_some]
 refine (loops1_ok hv hF hn hL).bind fun L0 ⟨d0, c0⟩ => ?_
 have hw0 : wM L0 ≤ 10 * 25 := by
  have h1 := wt_le (wt wf) (n + 1) L0 fun r hr => by
   obtain ⟨j, hj, rfl⟩ := List.mem_iff_getElem.1 hr
   have hlen := d0.2 (j : Int) (by omega) (by have := d0.1; omega)
   rw [el_nat (List.getElem?_eq_getElem hj)] at hlen
   have := wt_le wf 1 L0[j] fun x _ => by unfold wf; split <;> omega
   omega
  have h2 := d0.1
  have h3 : L0.length * (n + 1) ≤ 10 * 25 := Nat.mul_le_mul (by omega) (by omega)
  have : wM L0 ≤ L0.length * (n + 1) := h1
  omega
 have s0 : ∀ (a : Int) (k : Nat), 0 ≤ a → a < g.Nons → k ≤ n → el2 L0 a (k : Int) = true → Lp g.Rules a k := fun a k a0 a1 hk h => by
  have t := (c0 a k a0 a1 hk).1 h
  refine .cyc ?_ t
  have : ∀ {x y : Int}, TransGen (Sm g.Rules k) x y → Le g.Rules [⟨false, y⟩] k := by
   intro x y t
   cases t with
   | single w => obtain ⟨_, _, _, _, _, _, h, _⟩ := w; exact h
   | tail _ w => obtain ⟨_, _, _, _, _, _, h, _⟩ := w; exact h
  exact this t
 refine Ok.bind (whl_ok (ρ := Unit) (Q := fun | .out s => ∃ L, s = tp (upL T L) false ∧ Dim L g.Nons (n + 1) ∧ (∀ (a : Int) (k : Nat), 0 ≤ a → a < g.Nons → k ≤ n → el2 L a (k : Int) = true → Lp g.Rules a k) ∧
  (∀ (a : Int) (k : Nat), 0 ≤ a → a < g.Nons → k ≤ n → el2 L0 a (k : Int) = true → el2 L a (k : Int) = true) ∧ (∀ (k : Nat) (r : Ru), k ≤ n → r ∈ g.Rules → EndL g.Rules (Mk L) r.Right k → el2 L r.Left (k : Int) = true) | .rt _ => False)
  (fun s => ∃ L b, s = tp (upL T L) b ∧ Dim L g.Nons (n + 1) ∧ (∀ (a : Int) (k : Nat), 0 ≤ a → a < g.Nons → k ≤ n → el2 L a (k : Int) = true → Lp g.Rules a k) ∧
    (∀ (a : Int) (k : Nat), 0 ≤ a → a < g.Nons → k ≤ n → el2 L0 a (k : Int) = true → el2 L a (k : Int) = true) ∧ (b = false → ∀ (k : Nat) (r : Ru), k ≤ n → r ∈ g.Rules → EndL g.Rules (Mk L) r.Right k → el2 L r.Left (k : Int) = true))
  (fun s => wM s.2.2.2.2.2.2.1 + (if s.2.2.2.2.2.2.2.2.2.2 then 1 else 0)) ⟨L0, true, by unfold tp; rw [show (upL T L0).n = (n : Int) from hF.ok.nE]; rfl, d0, s0, fun _ _ _ _ _ h => h, fun e => by cases e⟩ ?_ ?_) ?_
 ·rintro _ ⟨L, b, rfl, t1, t2, t3, t4⟩
  unfold P.A1.b5
  cases b with
  | false => exact .some ⟨L, rfl, t1, t2, t3, t4 rfl⟩
  | true =>
    have hR := loopRound_ok hv hF hn t1 t2 (φ := φ) (by omega)
    rw [if_pos (show (tp (upL T L) true).2.2.2.2.2.2.2.2.2.2 = true from rfl)]
    have hRu : g.Rules = T.g.Rules := by rw [hF.ok.gE]
    refine Ok.bind (o := Pu.forP (P.A1.b6 φ) 0 T.g.Rules (tp (upL T L) false)) (by rw [← hRu]; exact hR) ?_
    rintro _ ⟨L', b', rfl, f⟩
    refine .some ⟨⟨L', b', rfl, f.dim, f.snd, fun a k a0 a1 hk h => f.up a k a0 a1 hk (t3 a k a0 a1 hk h), fun e k r hk hr hend => ?_⟩, ?_⟩
    ·obtain ⟨q1, q2⟩ := f.no e
     obtain ⟨i, hi, e2⟩ := List.mem_iff_getElem.1 hr
     rw [q1] at hend ⊢
     exact q2 i k r hi hk (by rw [List.getElem?_eq_getElem hi, e2]) hend
    ·have : wM L' + (if b' = true then 1 else 0) ≤ wM L := f.w
     show wM L' + (if b' = true then 1 else 0) < wM L + 1
     omega
 ·show wM L0 + 1 < φ
  omega
 ·rintro (s | _) h
  ·obtain ⟨L, rfl, t1, t2, t3, t4⟩ := h
   refine .some ⟨⟨hF.upL t1, fun a k a0 a1 hk => ⟨fun h => t2 a k a0 a1 hk h, fun h => ?_⟩⟩, rfl, rfl⟩
   have all : ∀ {a : Int} {k : Nat}, Lp g.Rules a k → k ≤ n → 0 ≤ a → a < g.Nons → el2 L a (k : Int) = true := by
    intro a k h
    induction h with
    | cyc _ t => intro hk a0 a1; exact t3 _ _ a0 a1 hk ((c0 _ _ a0 a1 hk).2 t)
    | @one r l1 l2 b i j m hr e h1 _ h2 h3 ih =>
      intro hk a0 a1
      have hb := hv.ins hr (s := ⟨false, b⟩) (by rw [e]; simp) rfl
      exact t4 _ r hk hr (endL_iff.2 ⟨l1, b, l2, i, j, m, e, rfl, h1, ih (by omega) hb.1 hb.2, h2, h3⟩)
   exact all h hk a0 a1
  ·exact h.elim
end Go.Proofs.Ytmeigkelacoibaa.Gr
