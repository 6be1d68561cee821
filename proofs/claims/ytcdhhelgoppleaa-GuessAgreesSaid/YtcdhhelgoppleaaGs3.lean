/- guess.Of. Own work. -/
import Derived.Test.YtcdhhelgoppleaaGs2
namespace Go.Proofs.Ytcdhhelgoppleaa.Gr
open Go Go.Ab Go.Pu
section
variable {x1 : List Ru × Int} {t n : Int} {yes no yes' : List (List Int)}
/-- The grammar of the rules with these numbers. -/
def mkg (t n : Int) (R : List Ru) (l : List Int) : Ty.api_Grammar := ⟨t, n, 0, l.map fun i => el R i⟩
structure OfP (x1 : List Ru × Int) (yes no : List (List Int)) : Prop where
  gv : GV x1.1
  l1 : x1.1.length ≤ 50
  l2 : 3 < x1.1.length
  rg : ∀ r ∈ x1.1, r.Right.length ≤ 10
  y : ∀ w ∈ yes, w.length ≤ 5
  n : ∀ w ∈ no, w.length ≤ 5
theorem symc_eq {l : List Sy} (h : l.length ≤ 10) : P.slices_Clone_api_Sym_api_Sym l = some l := by
  unfold P.slices_Clone_api_Sym_api_Sym
  rw [app_eq (by simp; omega)]; rfl
theorem ofb2_ok (h : OfP x1 yes no) {l : List Int} (hl : ∀ x ∈ l, 0 ≤ x ∧ x < x1.1.length) (hn : l.length ≤ 10) : Pu.forP (P.guess_Of.b2 x1) 0 l [] = some (l.map fun i => el x1.1 i) := by
  refine Ok.eq (forP_ok (fun i s => s = (l.take i).map fun i => el x1.1 i) (by simp) (fun i x s hx hs => ?_) fun s hs => by rw [hs, List.take_length])
  obtain ⟨x0, x2⟩ := hl x (List.mem_of_getElem? hx)
  have hi := (List.getElem?_eq_some_iff.1 hx).1
  unfold P.guess_Of.b2
  rw [ix_el x0 x2, Option.bind_some, Option.bind_some, symc_eq (h.rg _ (el_mem x0 x2)), Option.bind_some, app_eq (by rw [hs]; simp; omega), Option.bind_some]
  refine .some ?_
  rw [hs, List.take_add_one, hx, List.map_append]; rfl
theorem mkg_gv (h : OfP x1 yes no) {l : List Int} (hl : ∀ x ∈ l, 0 ≤ x ∧ x < x1.1.length) : GV (mkg t n x1.1 l).Rules := by
  intro r hr
  obtain ⟨i, hi, rfl⟩ := List.mem_map.1 hr
  exact h.gv _ (el_mem (hl i hi).1 (hl i hi).2)
/-- What is found. -/
def Fnd (t n : Int) (x1 : List Ru × Int) (yes no : List (List Int)) (k : Int) (r : Ty.api_Grammar × Int) : Prop := r.2 = 0 ∧ ∃ l, At k x1.1.length l ∧ r.1 = mkg t n x1.1 l ∧ Agr r.1.Rules yes no
theorem Fnd.len {k : Int} {r : Ty.api_Grammar × Int} (h : Fnd t n x1 yes no k r) : (r.1.Rules.length : Int) = k := by
  obtain ⟨-, l, h1, h2, -⟩ := h
  rw [h2]; show ((l.map _).length : Int) = k; rw [List.length_map]; exact h1.len
/-- One grammar: it is looked at. -/
theorem ofb1_step (h : OfP x1 yes no) {k : Int} (hk : k ≤ 3) {φ : Nat} (hφ : 3000 < φ) {l : List Int} (hl : At k x1.1.length l) :
    (Agr (mkg t n x1.1 l).Rules yes no ∧ P.guess_Of.b1 φ t n yes no x1 (l, true) = some (.rt (.rt (mkg t n x1.1 l, 0)))) ∨
    (¬ Agr (mkg t n x1.1 l).Rules yes no ∧ ∃ l', P.guess_Of.b1 φ t n yes no x1 (l, true) = some (.nx (l', decide (¬ l' = []))) ∧ P.guess_next φ l x1.1.length = some l' ∧ (l' ≠ [] → At k x1.1.length l' ∧ num l < num l')) := by
  have h1 := h.l1
  have hlen := hl.len
  unfold P.guess_Of.b1
  rw [if_pos rfl]
  dsimp only
  rw [ofb2_ok h hl.mem (by omega), Option.bind_some]
  obtain ⟨b, hb, hb2⟩ := agrees_ok (g := mkg t n x1.1 l) (mkg_gv h hl.mem) h.y h.n (φ := φ) (by omega)
  have hb' : P.guess_agrees φ (Ty.api_Grammar.mk t n 0 (l.map fun i => el x1.1 i)) yes no = some b := hb
  rw [hb', Option.bind_some]
  cases b with
  | true => exact .inl ⟨hb2.1 rfl, rfl⟩
  | false =>
    obtain ⟨f, rfl⟩ : ∃ f, φ = f + 10 := ⟨φ - 10, by omega⟩
    obtain ⟨l', e1, e2⟩ := hl.next (by omega) f
    refine .inr ⟨(fun q => by cases hb2.2 q), l', ?_, e1, e2⟩
    rw [if_neg (by simp), e1, Option.bind_some]
theorem ofb1_out {φ : Nat} {l : List Int} : P.guess_Of.b1 φ t n yes no x1 (l, false) = some (.br (l, false)) := rfl
theorem ofw_ok (h : OfP x1 yes no) {k : Int} (hk : k ≤ 3) {φ ψ : Nat} (hφ : 3000 < φ) (hψ : 200000 < ψ) {l : List Int} (hl : At k x1.1.length l) :
    Ok (Pu.whl (P.guess_Of.b1 φ t n yes no x1) ψ (l, true)) fun | .out _ => True | .rt r => ∃ q, r = .rt q ∧ Fnd t n x1 yes no k q := by
  have h1 := h.l1
  refine whl_ok (fun s : List Int × Bool => s.2 = true → At k x1.1.length s.1) (fun s => if s.2 then 130001 - num s.1 else 0) (fun _ => hl) ?_ (by simp; omega)
  rintro ⟨l, b⟩ hs
  cases b with
  | false => rw [ofb1_out]; exact .some trivial
  | true =>
    have ha : At k x1.1.length l := hs rfl
    have hn := ha.num (by omega)
    change num l < 130000 at hn
    rcases ofb1_step (t := t) (n := n) h hk hφ ha with ⟨q1, q2⟩ | ⟨q1, l', q2, -, q3⟩
    · rw [q2]; exact .some ⟨_, rfl, rfl, _, ha, rfl, q1⟩
    · rw [q2]
      refine .some ⟨fun e => (q3 (by simpa using e)).1, ?_⟩
      dsimp only at hn ⊢
      rw [if_pos rfl]
      split
      · rename_i e
        have := (q3 (by simpa using e)).2
        omega
      · omega
theorem ofb0_ok (h : OfP x1 yes no) {k : Int} (h0 : 0 ≤ k) (hk : k ≤ 3) {φ : Nat} (hφ : 200000 < φ) (i : Int) :
    Ok (P.guess_Of.b0 φ t n yes no x1 i k ()) fun | .nx _ => True | .br _ => False | .rt r => Fnd t n x1 yes no k r := by
  unfold P.guess_Of.b0
  have h2 := h.l2
  obtain ⟨l, e, hl⟩ := first_ok (m := (x1.1.length : Int)) h0 hk (by omega)
  rw [e, Option.bind_some]
  refine (ofw_ok (t := t) (n := n) h hk (by omega) hφ hl).bind fun y hy => ?_
  cases y with
  | out s => exact .some trivial
  | rt r => obtain ⟨q, rfl, hq⟩ := hy; exact .some hq
theorem ofl_ok (h : OfP x1 yes no) {φ : Nat} (hφ : 200000 < φ) : ∀ (ks : List Int) (i : Int), (∀ k ∈ ks, 0 ≤ k ∧ k ≤ 3) →
    Ok (Pu.forL (P.guess_Of.b0 φ t n yes no x1) i ks ()) fun | .out _ => True | .rt r => ∃ k ∈ ks, Fnd t n x1 yes no k r := by
  intro ks
  induction ks with
  | nil => intro i _; exact .some trivial
  | cons k ks ih =>
    intro i hk
    obtain ⟨a, b⟩ := hk k (by simp)
    unfold Pu.forL
    obtain ⟨y, e, hy⟩ := ofb0_ok (t := t) (n := n) h a b hφ i
    rw [e]
    cases y with
    | nx _ =>
      refine (ih (i + 1) fun k hk' => hk k (List.mem_cons_of_mem _ hk')).mono fun z hz => ?_
      rcases z with _ | r
      · trivial
      · obtain ⟨q, q1, q2⟩ := hz; exact ⟨q, List.mem_cons_of_mem _ q1, q2⟩
    | br _ => exact hy.elim
    | rt r => exact .some ⟨k, by simp, hy⟩
theorem ran4 : Pu.ran 4 = [0, 1, 2, 3] := rfl
/-- guess.Of finds a grammar that has all of the words and none of the others, or says that there is none. -/
theorem of_ok (t1 : 1 ≤ t) (t2 : t ≤ 2) (n1 : 1 ≤ n) (n2 : n ≤ 2) (hc : P.guess_Check t yes no = some 0) (hy : ∀ w ∈ yes, w.length ≤ 5) (hn : ∀ w ∈ no, w.length ≤ 5) {φ : Nat} (hφ : 200000 < φ) :
    ∃ x1, P.guess_Rules t n = some x1 ∧ OfP x1 yes no ∧ Ok (P.guess_Of φ t n yes no) fun r => r.2 = 5 ∨ ∃ k, 0 ≤ k ∧ k ≤ 3 ∧ Fnd t n x1 yes no k r := by
  obtain ⟨x1, e1, z, g1, g2, g3, g4⟩ := grules_ok t1 t2 n1 n2
  have h : OfP x1 yes no := ⟨g1, g2, g3, g4, hy, hn⟩
  refine ⟨x1, e1, h, ?_⟩
  unfold P.guess_Of
  rw [e1, Option.bind_some, if_neg (by omega), hc, Option.bind_some, if_neg (by omega), ranO_eq (by omega), Option.bind_some]
  have hk : ∀ k ∈ Pu.ran 4, 0 ≤ k ∧ k ≤ 3 := by rw [ran4]; intro k hk; simp at hk; omega
  refine (ofl_ok (t := t) (n := n) h hφ _ 0 hk).bind fun y hy => ?_
  cases y with
  | out s => exact .some (.inl rfl)
  | rt r => obtain ⟨k, k1, k2⟩ := hy; exact .some (.inr ⟨k, (hk k k1).1, (hk k k1).2, k2⟩)
end
end Go.Proofs.Ytcdhhelgoppleaa.Gr
