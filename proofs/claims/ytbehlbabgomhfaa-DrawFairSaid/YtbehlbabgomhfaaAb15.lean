/- Reasoning about the abstract machine: code is carried out step by step, what is left of it stands in a list. Own work. -/
import Derived.Test.YtbehlbabgomhfaaAb14
namespace Go.Ab
open Go

/-- What is left to be carried out. -/
inductive Fk where
  | code (c : ACode)
  | ops (l : List DOp)
  | endb (id : Nat)
  | dops (base m : Nat) (all : List DOp) (pairs : List (Nat × Nat)) (i : Nat) (tr : List St) (l : List DOp)

def Arun (T : FuncId → Option AFunc) (o : AOp) (tm : Tm) (H : Hp) (v : Value) (H1 : Hp) : Prop := ∃ n0, ∀ n, n0 ≤ n → arun (callF T n) o tm H = some (v, H1)
def Dstep (T : FuncId → Option AFunc) (base m i : Nat) (o : DOp) (tm : Tm) (H : Hp) (v : Value) (H1 : Hp) : Prop := ∃ n0, ∀ n, n0 ≤ n → dstep (callF T n) base m i o (tm, H) = some (v, H1)

/-- What is left comes to an end in Q. -/
inductive R (T : FuncId → Option AFunc) (Q : AX → Tm → Hp → Prop) : List Fk → AX → Tm → Hp → Prop
  | done {x tm H} (h : Q x tm H) : R T Q [] x tm H
  | skip {K tm H} (h : R T Q K .normal tm H) : R T Q (.code .skip :: K) .normal tm H
  | seq {a b K tm H} (h : R T Q (.code a :: .code b :: K) .normal tm H) : R T Q (.code (.seq a b) :: K) .normal tm H
  | region {l K tm H} (h : R T Q (.ops l :: K) .normal tm H) : R T Q (.code (.region l) :: K) .normal tm H
  | draw {l p K tm H} (h : R T Q (.dops H.length l.length l p 0 [] l :: K) .normal tm (H ++ List.replicate l.length .dead)) : R T Q (.code (.draw l p) :: K) .normal tm H
  | cond {c a b K tm H} (t : Bool) (hc : ev tm c = .bool t) (h : R T Q (.code (if t then a else b) :: K) .normal tm H) : R T Q (.code (.cond c a b) :: K) .normal tm H
  | block {id c K tm H} (h : R T Q (.code c :: .endb id :: K) .normal tm H) : R T Q (.code (.block id c) :: K) .normal tm H
  | loop {c K tm H} (h : R T Q (.code c :: .code (.loop c) :: K) .normal tm H) : R T Q (.code (.loop c) :: K) .normal tm H
  | exit {id K tm H} (h : R T Q K (.exit id) tm H) : R T Q (.code (.exit id) :: K) .normal tm H
  | ret {K tm H} (h : R T Q K .ret tm H) : R T Q (.code .ret :: K) .normal tm H
  | past {x k K tm H} (hx : x ≠ .normal) (hk : ∀ id, k ≠ .endb id) (h : R T Q K x tm H) : R T Q (k :: K) x tm H
  | endn {id K tm H} (h : R T Q K .normal tm H) : R T Q (.endb id :: K) .normal tm H
  | here {id K tm H} (h : R T Q K .normal tm H) : R T Q (.endb id :: K) (.exit id) tm H
  | far {x id K tm H} (hx : x ≠ .normal) (hi : x ≠ .exit id) (h : R T Q K x tm H) : R T Q (.endb id :: K) x tm H
  | nil {K tm H} (h : R T Q K .normal tm H) : R T Q (.ops [] :: K) .normal tm H
  | op {dst o g sl l K tm H v H1} (hg : want tm g = true) (ho : Arun T o tm H v H1) (h : R T Q (.ops l :: K) .normal (put tm dst v) H1) : R T Q (.ops (⟨dst, o, g, sl⟩ :: l) :: K) .normal tm H
  | nop {dst o g sl l K tm H} (hg : want tm g = false) (h : R T Q (.ops l :: K) .normal (put tm dst undef) H) : R T Q (.ops (⟨dst, o, g, sl⟩ :: l) :: K) .normal tm H
  | dop {base m all p i tr o l K tm H v H1} (ho : Dstep T base m i o tm H v H1) (h : R T Q (.dops base m all p (i + 1) (tr ++ [(tm, H)]) l :: K) .normal (put tm o.dst v) H1) :
      R T Q (.dops base m all p i tr (o :: l) :: K) .normal tm H
  | dnil {base m all p i tr K tm H} (hp : p.all (dcheck all (tr ++ [(tm, H)])) = true) (h : R T Q K .normal tm H) : R T Q (.dops base m all p i tr [] :: K) .normal tm H

/-- Code that is carried out; of a loop: its rounds. -/
def CS (T : FuncId → Option AFunc) (c : ACode) (s : St) (x : AX) (s' : St) : Prop := match c with | .loop c => LR T c s x s' | c => CR T c s x s'
theorem CS.cr {T : FuncId → Option AFunc} {c : ACode} {s s' : St} {x : AX} (h : CS T c s x s') : CR T c s x s' := by
  cases c <;> first | exact CR.loop h | exact h
/-- What the rest does, from an outcome on. -/
def Ks (T : FuncId → Option AFunc) : List Fk → AX → St → AX → St → Prop
  | [], x, s, x', s' => x' = x ∧ s' = s
  | .code c :: K, x, s, x', s' => if x = .normal then ∃ x1 s1, CS T c s x1 s1 ∧ Ks T K x1 s1 x' s' else Ks T K x s x' s'
  | .ops l :: K, x, s, x', s' => if x = .normal then ∃ s1, RR T l s s1 ∧ Ks T K .normal s1 x' s' else Ks T K x s x' s'
  | .endb id :: K, x, s, x', s' => Ks T K (if x = .exit id then .normal else x) s x' s'
  | .dops base m all p i tr l :: K, x, s, x', s' =>
    if x = .normal then ∃ tr' s1, (∃ n0, ∀ n, n0 ≤ n → dtrace (callF T n) base m l i s = some tr') ∧ p.all (dcheck all (tr ++ tr')) = true ∧ tr'.getLast? = some s1 ∧ Ks T K .normal s1 x' s' else Ks T K x s x' s'

theorem Ks.past {T : FuncId → Option AFunc} {k : Fk} {K : List Fk} {x x' : AX} {s s' : St} (hx : x ≠ .normal) (hk : ∀ id, k ≠ .endb id) (h : Ks T K x s x' s') : Ks T (k :: K) x s x' s' := by
  cases k with
  | endb id => exact absurd rfl (hk id)
  | code c => simpa [Ks, hx] using h
  | ops l => simpa [Ks, hx] using h
  | dops base m all p i tr l => simpa [Ks, hx] using h

theorem dtrace_ne {call : CallF} {base m : Nat} : ∀ {l : List DOp} {i : Nat} {s : St} {tr : List St}, dtrace call base m l i s = some tr → tr ≠ []
  | [], i, s, tr, h => by simp [dtrace] at h; simp [← h]
  | o :: l, i, s, tr, h => by
    simp only [dtrace] at h
    split at h
    · cases hd : dtrace call base m l (i + 1) (put s.1 o.dst _, _) with
      | none => rw [hd] at h; cases h
      | some q => rw [hd] at h; cases h; simp
    · cases h

theorem R.sound {T : FuncId → Option AFunc} {Q : AX → Tm → Hp → Prop} {K : List Fk} {x : AX} {tm : Tm} {H : Hp} (h : R T Q K x tm H) : ∃ x' tm' H', Ks T K x (tm, H) x' (tm', H') ∧ Q x' tm' H' := by
  induction h with
  | done h => exact ⟨_, _, _, ⟨rfl, rfl⟩, h⟩
  | skip h ih => obtain ⟨x', t, H', hk, hq⟩ := ih; exact ⟨x', t, H', by simp only [Ks, if_true]; exact ⟨_, _, CR.skip, hk⟩, hq⟩
  | seq h ih =>
    obtain ⟨x', t, H', hk, hq⟩ := ih
    refine ⟨x', t, H', ?_, hq⟩
    simp only [Ks, if_true] at hk ⊢
    obtain ⟨x1, s1, h1, h2⟩ := hk
    by_cases hx : x1 = .normal
    · subst hx
      rw [if_pos rfl] at h2
      obtain ⟨x2, s2, h2, h3⟩ := h2
      exact ⟨x2, s2, h1.cr.seq h2.cr, h3⟩
    · rw [if_neg hx] at h2
      exact ⟨x1, s1, h1.cr.seq_out hx, h2⟩
  | region h ih =>
    obtain ⟨x', t, H', hk, hq⟩ := ih
    simp only [Ks, if_true] at hk
    obtain ⟨s1, h1, h2⟩ := hk
    exact ⟨x', t, H', by simp only [Ks, if_true]; exact ⟨_, _, CR.region h1, h2⟩, hq⟩
  | @draw l p K tm H h ih =>
    obtain ⟨x', t, H', hk, hq⟩ := ih
    simp only [Ks, if_true, List.nil_append] at hk
    obtain ⟨tr', s1, ⟨n0, hn⟩, hp, hl, h2⟩ := hk
    refine ⟨x', t, H', ?_, hq⟩
    simp only [Ks, if_true]
    refine ⟨_, s1, CR.drawn ⟨n0, fun n hle => ?_⟩, h2⟩
    simp only [adraw, hn n hle, hp, if_true, hl]
  | cond t hc h ih =>
    obtain ⟨x', t', H', hk, hq⟩ := ih
    simp only [Ks, if_true] at hk
    obtain ⟨x1, s1, h1, h2⟩ := hk
    exact ⟨x', t', H', by simp only [Ks, if_true]; exact ⟨_, _, CR.cond hc h1.cr, h2⟩, hq⟩
  | block h ih =>
    obtain ⟨x', t', H', hk, hq⟩ := ih
    simp only [Ks, if_true] at hk
    obtain ⟨x1, s1, h1, h2⟩ := hk
    refine ⟨x', t', H', ?_, hq⟩
    simp only [Ks, if_true]
    rename_i id _ _ _ _
    cases x1 with
    | normal => exact ⟨_, _, CR.block h1.cr, by simpa using h2⟩
    | ret => exact ⟨_, _, CR.block_ret h1.cr, by simpa using h2⟩
    | exit j =>
      by_cases hj : j = id
      · subst hj; exact ⟨_, _, CR.block_exit h1.cr, by simpa using h2⟩
      · refine ⟨_, _, CR.block_out h1.cr hj, ?_⟩
        rwa [if_neg (by simpa using hj)] at h2
  | @loop c K tm H h ih =>
    obtain ⟨x', t', H', hk, hq⟩ := ih
    simp only [Ks, if_true] at hk
    obtain ⟨x1, s1, h1, h2⟩ := hk
    refine ⟨x', t', H', ?_, hq⟩
    simp only [Ks, if_true]
    by_cases hx : x1 = .normal
    · subst hx
      rw [if_pos rfl] at h2
      obtain ⟨x2, s2, h2, h3⟩ := h2
      exact ⟨x2, s2, LR.step h1.cr h2, h3⟩
    · rw [if_neg hx] at h2
      exact ⟨x1, s1, LR.out h1.cr hx, h2⟩
  | exit h ih => obtain ⟨x', t, H', hk, hq⟩ := ih; exact ⟨x', t, H', by simp only [Ks, if_true]; exact ⟨_, _, CR.exit, hk⟩, hq⟩
  | ret h ih => obtain ⟨x', t, H', hk, hq⟩ := ih; exact ⟨x', t, H', by simp only [Ks, if_true]; exact ⟨_, _, CR.ret, hk⟩, hq⟩
  | past hx hk h ih => obtain ⟨x', t, H', h', hq⟩ := ih; exact ⟨x', t, H', Ks.past hx hk h', hq⟩
  | endn h ih => obtain ⟨x', t, H', h', hq⟩ := ih; exact ⟨x', t, H', by simpa [Ks] using h', hq⟩
  | here h ih => obtain ⟨x', t, H', h', hq⟩ := ih; exact ⟨x', t, H', by simpa [Ks] using h', hq⟩
  | far hx hi h ih => obtain ⟨x', t, H', h', hq⟩ := ih; exact ⟨x', t, H', by simpa [Ks, hi] using h', hq⟩
  | nil h ih => obtain ⟨x', t, H', h', hq⟩ := ih; exact ⟨x', t, H', by simp only [Ks, if_true]; exact ⟨_, RR.nil, h'⟩, hq⟩
  | op hg ho h ih =>
    obtain ⟨x', t, H', h', hq⟩ := ih
    simp only [Ks, if_true] at h'
    obtain ⟨s1, ⟨n1, h1⟩, h2⟩ := h'
    obtain ⟨n2, ho⟩ := ho
    refine ⟨x', t, H', ?_, hq⟩
    simp only [Ks, if_true]
    refine ⟨s1, ⟨max n1 n2, fun n hn => ?_⟩, h2⟩
    simp only [aregion, hg, if_true, ho n (by omega)]
    exact h1 n (by omega)
  | nop hg h ih =>
    obtain ⟨x', t, H', h', hq⟩ := ih
    simp only [Ks, if_true] at h'
    obtain ⟨s1, ⟨n1, h1⟩, h2⟩ := h'
    refine ⟨x', t, H', ?_, hq⟩
    simp only [Ks, if_true]
    refine ⟨s1, ⟨n1, fun n hn => ?_⟩, h2⟩
    simp only [aregion, hg]
    exact h1 n (by omega)
  | dop ho h ih =>
    obtain ⟨x', t, H', h', hq⟩ := ih
    simp only [Ks, if_true] at h'
    obtain ⟨tr', s1, ⟨n1, h1⟩, hp, hl, h2⟩ := h'
    obtain ⟨n2, ho⟩ := ho
    refine ⟨x', t, H', ?_, hq⟩
    simp only [Ks, if_true]
    refine ⟨_ :: tr', s1, ⟨max n1 n2, fun n hn => ?_⟩, by simpa using hp, ?_, h2⟩
    · simp only [dtrace, ho n (by omega), h1 n (by omega)]; rfl
    · have := dtrace_ne (h1 n1 (Nat.le_refl _))
      cases tr' with
      | nil => exact absurd rfl this
      | cons a b => simpa [List.getLast?_cons] using hl
  | dnil hp h ih =>
    obtain ⟨x', t, H', h', hq⟩ := ih
    refine ⟨x', t, H', ?_, hq⟩
    simp only [Ks, if_true]
    exact ⟨[_], _, ⟨0, fun n _ => rfl⟩, hp, rfl, h'⟩

/-- A call that comes to a result and a heap with a property. -/
def G (T : FuncId → Option AFunc) (f : FuncId) (args : List Value) (H : Hp) (Q : Value → Hp → Prop) : Prop := ∃ r H', Runs T f args H r H' ∧ Q r H'
theorem G.mk {T : FuncId → Option AFunc} {f : FuncId} {F : AFunc} [hf : Has T f F] {args : List Value} {H : Hp} {Q : Value → Hp → Prop}
    (h : R T (fun x tm H' => (x = .normal ∨ x = .ret) ∧ ∃ r, aresults F.results tm H' = some r ∧ Q r H') [.code F.body] .normal (initTm args) H) : G T f args H Q := by
  obtain ⟨x', t, H', hk, hx, r, hr, hq⟩ := h.sound
  simp only [Ks, if_true] at hk
  obtain ⟨x1, s1, h1, h2, h3⟩ := hk
  subst h2; subst h3
  exact ⟨r, H', Runs.mk h1.cr hx hr, hq⟩

/-! ### The rules as equations -/
section
variable {T : FuncId → Option AFunc} {Q : AX → Tm → Hp → Prop} {K : List Fk} {tm : Tm} {H : Hp} {l : List DOp} {sl : List Nat}
theorem R_done {x : AX} : R T Q [] x tm H ↔ Q x tm H := ⟨fun h => by cases h; assumption, .done⟩
theorem R_skip : R T Q (.code .skip :: K) .normal tm H ↔ R T Q K .normal tm H := ⟨fun h => by cases h <;> first | assumption | simp_all, .skip⟩
theorem R_seq {a b : ACode} : R T Q (.code (.seq a b) :: K) .normal tm H ↔ R T Q (.code a :: .code b :: K) .normal tm H := ⟨fun h => by cases h <;> first | assumption | simp_all, .seq⟩
theorem R_region : R T Q (.code (.region l) :: K) .normal tm H ↔ R T Q (.ops l :: K) .normal tm H := ⟨fun h => by cases h <;> first | assumption | simp_all, .region⟩
theorem R_draw {p : List (Nat × Nat)} : R T Q (.code (.draw l p) :: K) .normal tm H ↔ R T Q (.dops H.length l.length l p 0 [] l :: K) .normal tm (H ++ List.replicate l.length .dead) :=
  ⟨fun h => by cases h <;> first | assumption | simp_all, .draw⟩
theorem R_block {id : Nat} {c : ACode} : R T Q (.code (.block id c) :: K) .normal tm H ↔ R T Q (.code c :: .endb id :: K) .normal tm H := ⟨fun h => by cases h <;> first | assumption | simp_all, .block⟩
theorem R_loop {c : ACode} : R T Q (.code (.loop c) :: K) .normal tm H ↔ R T Q (.code c :: .code (.loop c) :: K) .normal tm H := ⟨fun h => by cases h <;> first | assumption | simp_all, .loop⟩
theorem R_exit {id : Nat} : R T Q (.code (.exit id) :: K) .normal tm H ↔ R T Q K (.exit id) tm H := ⟨fun h => by cases h <;> first | assumption | simp_all, .exit⟩
theorem R_ret : R T Q (.code .ret :: K) .normal tm H ↔ R T Q K .ret tm H := ⟨fun h => by cases h <;> first | assumption | simp_all, .ret⟩
theorem R_nil : R T Q (.ops [] :: K) .normal tm H ↔ R T Q K .normal tm H := ⟨fun h => by cases h <;> first | assumption | simp_all, .nil⟩
theorem R_endn {id : Nat} : R T Q (.endb id :: K) .normal tm H ↔ R T Q K .normal tm H := ⟨fun h => by cases h <;> first | assumption | simp_all, .endn⟩
theorem R_past_ret {c : ACode} : R T Q (.code c :: K) .ret tm H ↔ R T Q K .ret tm H := ⟨fun h => by cases h; assumption, .past (by simp) (by simp)⟩
theorem R_past_exit {c : ACode} {id : Nat} : R T Q (.code c :: K) (.exit id) tm H ↔ R T Q K (.exit id) tm H := ⟨fun h => by cases h; assumption, .past (by simp) (by simp)⟩
theorem R_end_ret {id : Nat} : R T Q (.endb id :: K) .ret tm H ↔ R T Q K .ret tm H := ⟨fun h => by cases h <;> first | assumption | simp_all, .far (by simp) (by simp)⟩
theorem R_end_exit {id j : Nat} : R T Q (.endb id :: K) (.exit j) tm H ↔ if j = id then R T Q K .normal tm H else R T Q K (.exit j) tm H := by
  by_cases h : j = id
  · subst h; rw [if_pos rfl]; exact ⟨fun h => by cases h <;> first | assumption | simp_all, .here⟩
  · rw [if_neg h]; exact ⟨fun h => by cases h <;> first | assumption | simp_all, .far (by simp) (by simpa using h)⟩
/-- A branch, on a value. -/
def Br (T : FuncId → Option AFunc) (Q : AX → Tm → Hp → Prop) (v : Value) (a b : ACode) (K : List Fk) (tm : Tm) (H : Hp) : Prop := ∃ t, v = .bool t ∧ R T Q (.code (if t then a else b) :: K) .normal tm H
theorem R_cond {c : Operand} {a b : ACode} : R T Q (.code (.cond c a b) :: K) .normal tm H ↔ Br T Q (ev tm c) a b K tm H :=
  ⟨fun h => by cases h with | cond t hc h => exact ⟨t, hc, h⟩ | past hx hk h => exact absurd rfl hx, fun ⟨t, hc, h⟩ => .cond t hc h⟩
theorem Br_true {a b : ACode} : Br T Q (.bool true) a b K tm H ↔ R T Q (.code a :: K) .normal tm H := ⟨fun ⟨t, h, k⟩ => by cases h; exact k, fun h => ⟨true, rfl, h⟩⟩
theorem Br_false {a b : ACode} : Br T Q (.bool false) a b K tm H ↔ R T Q (.code b :: K) .normal tm H := ⟨fun ⟨t, h, k⟩ => by cases h; exact k, fun h => ⟨false, rfl, h⟩⟩
theorem Br_split {t : Bool} {a b : ACode} (h1 : t = true → R T Q (.code a :: K) .normal tm H) (h2 : t = false → R T Q (.code b :: K) .normal tm H) : Br T Q (.bool t) a b K tm H := by
  cases t with
  | true => exact Br_true.2 (h1 rfl)
  | false => exact Br_false.2 (h2 rfl)
theorem Br_dec {p : Prop} [Decidable p] {a b : ACode} (h1 : p → R T Q (.code a :: K) .normal tm H) (h2 : ¬ p → R T Q (.code b :: K) .normal tm H) : Br T Q (.bool (decide p)) a b K tm H :=
  Br_split (fun h => h1 (of_decide_eq_true h)) (fun h => h2 (of_decide_eq_false h))

/-- The next operation's result. -/
def Nx (T : FuncId → Option AFunc) (Q : AX → Tm → Hp → Prop) (r : Option (Value × Hp)) (dst : Option Nat) (l : List DOp) (K : List Fk) (tm : Tm) : Prop :=
  ∃ v H1, r = some (v, H1) ∧ R T Q (.ops l :: K) .normal (put tm dst v) H1
theorem Nx_some {v : Value} {H1 : Hp} {dst : Option Nat} : Nx T Q (some (v, H1)) dst l K tm ↔ R T Q (.ops l :: K) .normal (put tm dst v) H1 := ⟨fun ⟨_, _, h, k⟩ => by cases h; exact k, fun h => ⟨_, _, rfl, h⟩⟩
theorem Nx_map {r : Option Value} {v : Value} {H1 : Hp} {dst : Option Nat} (h : r = some v) : Nx T Q (r.map fun v => (v, H1)) dst l K tm ↔ R T Q (.ops l :: K) .normal (put tm dst v) H1 := by
  subst h; exact Nx_some
def calls : AOp → Bool
  | .call .. | .callv .. => true
  | _ => false
theorem arun_calm {o : AOp} (h : calls o = false) (call : CallF) : arun call o tm H = aop o tm H := by cases o <;> first | rfl | cases h
theorem R_op {o : AOp} {dst : Option Nat} (hc : calls o = false) : R T Q (.ops (⟨dst, o, none, sl⟩ :: l) :: K) .normal tm H ↔ Nx T Q (aop o tm H) dst l K tm :=
  ⟨fun h => by
    cases h with
    | op hg ho h => obtain ⟨n, hn⟩ := ho; exact ⟨_, _, (arun_calm hc _).symm.trans (hn n (Nat.le_refl _)), h⟩
    | nop hg h => cases hg
    | past hx hk h => exact absurd rfl hx, fun ⟨v, H1, hv, h⟩ => .op rfl ⟨0, fun n _ => (arun_calm hc _).trans hv⟩ h⟩
theorem R_gop {o : AOp} {dst : Option Nat} {g : Nat} {b : Bool} (hc : calls o = false) : R T Q (.ops (⟨dst, o, some (g, b), sl⟩ :: l) :: K) .normal tm H ↔
    if want tm (some (g, b)) = true then Nx T Q (aop o tm H) dst l K tm else R T Q (.ops l :: K) .normal (put tm dst undef) H := by
  by_cases hw : want tm (some (g, b)) = true
  · rw [if_pos hw]
    exact ⟨fun h => by
      cases h with
      | op hg ho h => obtain ⟨n, hn⟩ := ho; exact ⟨_, _, (arun_calm hc _).symm.trans (hn n (Nat.le_refl _)), h⟩
      | nop hg h => simp [hw] at hg
      | past hx hk h => exact absurd rfl hx, fun ⟨v, H1, hv, h⟩ => .op hw ⟨0, fun n _ => (arun_calm hc _).trans hv⟩ h⟩
  · rw [if_neg hw]
    exact ⟨fun h => by
      cases h with
      | op hg ho h => exact absurd hg hw
      | nop hg h => exact h
      | past hx hk h => exact absurd rfl hx, fun h => .nop (by simpa using hw) h⟩
/-- A call, and what comes behind it. -/
theorem R_call {f : FuncId} {xs : List Operand} {dst : Option Nat} {P : Value → Hp → Prop} {args : List Value} (ha : xs.map (ev tm) = args) (hc : G T f args H P) (h : ∀ v H1, P v H1 → R T Q (.ops l :: K) .normal (put tm dst v) H1) :
    R T Q (.ops (⟨dst, .call f xs, none, sl⟩ :: l) :: K) .normal tm H := by
  subst ha
  obtain ⟨r, H', ⟨n, hn⟩, hp⟩ := hc
  exact .op rfl ⟨n, fun m hm => hn m hm⟩ (h r H' hp)
theorem R_gcall {f : FuncId} {xs : List Operand} {dst : Option Nat} {g : Option (Nat × Bool)} {P : Value → Hp → Prop} {args : List Value} (ha : xs.map (ev tm) = args) (hg : want tm g = true) (hc : G T f args H P)
    (h : ∀ v H1, P v H1 → R T Q (.ops l :: K) .normal (put tm dst v) H1) : R T Q (.ops (⟨dst, .call f xs, g, sl⟩ :: l) :: K) .normal tm H := by
  subst ha
  obtain ⟨r, H', ⟨n, hn⟩, hp⟩ := hc
  exact .op hg ⟨n, fun m hm => hn m hm⟩ (h r H' hp)
theorem R_callv {x : Operand} {f : FuncId} {caps first : Array Value} {xs : List Operand} {dst : Option Nat} {g : Option (Nat × Bool)} {P : Value → Hp → Prop} {args : List Value} (hx : ev tm x = .func (.func f) first caps)
    (ha : xs.map (ev tm) ++ caps.toList = args) (hg : want tm g = true) (hc : G T f args H P) (h : ∀ v H1, P v H1 → R T Q (.ops l :: K) .normal (put tm dst v) H1) : R T Q (.ops (⟨dst, .callv x xs, g, sl⟩ :: l) :: K) .normal tm H := by
  subst ha
  obtain ⟨r, H', ⟨n, hn⟩, hp⟩ := hc
  exact .op hg ⟨n, fun m hm => by simp only [arun, hx]; exact hn m hm⟩ (h r H' hp)

/-! Regions that draw their order -/
section
variable {base m i : Nat} {all : List DOp} {p : List (Nat × Nat)} {tr : List St}
def Dx (T : FuncId → Option AFunc) (Q : AX → Tm → Hp → Prop) (r : Option (Value × Hp)) (base m : Nat) (all : List DOp) (p : List (Nat × Nat)) (i : Nat) (tr : List St) (dst : Option Nat) (l : List DOp) (K : List Fk) (tm : Tm) : Prop :=
  ∃ v H1, r = some (v, H1) ∧ R T Q (.dops base m all p i tr l :: K) .normal (put tm dst v) H1
theorem Dx_some {v : Value} {H1 : Hp} {dst : Option Nat} : Dx T Q (some (v, H1)) base m all p i tr dst l K tm ↔ R T Q (.dops base m all p i tr l :: K) .normal (put tm dst v) H1 :=
  ⟨fun ⟨_, _, h, k⟩ => by cases h; exact k, fun h => ⟨_, _, rfl, h⟩⟩
theorem dstep_calm {o : DOp} (h : calls o.op = false) (call : CallF) (s : St) : dstep call base m i o s = dstep (fun _ _ _ => none) base m i o s := by
  unfold dstep
  split
  · split <;> first | rfl | (rw [arun_calm h, arun_calm h])
  · rfl
theorem R_dop {o : DOp} (hc : calls o.op = false) : R T Q (.dops base m all p i tr (o :: l) :: K) .normal tm H ↔ Dx T Q (dstep (fun _ _ _ => none) base m i o (tm, H)) base m all p (i + 1) (tr ++ [(tm, H)]) o.dst l K tm :=
  ⟨fun h => by
    cases h with
    | dop ho h => obtain ⟨n, hn⟩ := ho; exact ⟨_, _, (dstep_calm hc _ _).symm.trans (hn n (Nat.le_refl _)), h⟩
    | past hx hk h => exact absurd rfl hx, fun ⟨v, H1, hv, h⟩ => .dop ⟨0, fun n _ => (dstep_calm hc _ _).trans hv⟩ h⟩
theorem R_dnil : R T Q (.dops base m all p i tr [] :: K) .normal tm H ↔ (p.all (dcheck all (tr ++ [(tm, H)])) = true ∧ R T Q K .normal tm H) :=
  ⟨fun h => by
    cases h with
    | dnil hp h => exact ⟨hp, h⟩
    | past hx hk h => exact absurd rfl hx, fun h => .dnil h.1 h.2⟩
theorem R_dcall {f : FuncId} {xs : List Operand} {dst : Option Nat} {g : Option (Nat × Bool)} {P : Value → Hp → Prop} {args : List Value} (ha : xs.map (ev tm) = args) (hg : want tm g = true) (hc : G T f args H P)
    (h : ∀ v H1, P v H1 → R T Q (.dops base m all p (i + 1) (tr ++ [(tm, H)]) l :: K) .normal (put tm dst v) H1) : R T Q (.dops base m all p i tr (⟨dst, .call f xs, g, sl⟩ :: l) :: K) .normal tm H := by
  subst ha
  obtain ⟨r, H', ⟨n, hn⟩, hp⟩ := hc
  exact .dop ⟨n, fun k hk => by simp only [dstep, hg, if_true, kindOf, arun]; exact hn k hk⟩ (h r H' hp)
end
end

end Go.Ab
