/- The layer's texts Ab15 to Ab18 in one. Own work. -/
import Derived.Test.YtmlnknngpdnepaaAb14
import Derived.IntWalk
/- Reasoning about the abstract machine: code is carried out step by step, what is left of it stands in a list. Own work. -/
namespace Go.Ab
open Go

/-- What is left to be carried out. -/
inductive Fk where
  | code (c : ACode)
  | ops (l : List DOp)
  | endb (id : Nat)
  | dops (base m : Nat) (all : List DOp) (pairs : List (Nat × Nat)) (i : Nat) (tr : List St) (l : List DOp)

def Arun (T : FuncId → Option AFunc) (o : AOp) (tm : Tm) (H : Hp) (v : Value) (H1 : Hp) : Prop := ∃ n0, ∀ n, n0 ≤ n → arun (callF T n) o tm H = some (v, H1)
def Dstep (T : FuncId → Option AFunc) (base m i : Nat) (o : DOp) (tm : Tm) (H : Hp) (v : Value) (H1 : Hp) : Prop := ∃ n0, ∀ n, n0 ≤ n → dstep (callF T n) base m i o (tm, H) = some (v, H1)

/-- What is left comes to an end in Q. -/
inductive R (T : FuncId → Option AFunc) (Q : AX → Tm → Hp → Prop) : List Fk → AX → Tm → Hp → Prop
  | done {x tm H} (h : Q x tm H) : R T Q [] x tm H
  | skip {K tm H} (h : R T Q K .normal tm H) : R T Q (.code .skip :: K) .normal tm H
  | mapr {m K tm H tm' H'} (hm : amapr m tm H = some (tm', H')) (h : R T Q K .normal tm' H') : R T Q (.code (.mapr m) :: K) .normal tm H
  | seq {a b K tm H} (h : R T Q (.code a :: .code b :: K) .normal tm H) : R T Q (.code (.seq a b) :: K) .normal tm H
  | region {l K tm H} (h : R T Q (.ops l :: K) .normal tm H) : R T Q (.code (.region l) :: K) .normal tm H
  | draw {l p K tm H} (h : R T Q (.dops H.length l.length l p 0 [] l :: K) .normal tm (H ++ List.replicate l.length .dead)) : R T Q (.code (.draw l p) :: K) .normal tm H
  | cond {c a b K tm H} (t : Bool) (hc : ev tm c = .bool t) (h : R T Q (.code (if t then a else b) :: K) .normal tm H) : R T Q (.code (.cond c a b) :: K) .normal tm H
  | block {id c K tm H} (h : R T Q (.code c :: .endb id :: K) .normal tm H) : R T Q (.code (.block id c) :: K) .normal tm H
  | loop {c K tm H} (h : R T Q (.code c :: .code (.loop c) :: K) .normal tm H) : R T Q (.code (.loop c) :: K) .normal tm H
  | exit {id K tm H} (h : R T Q K (.exit id) tm H) : R T Q (.code (.exit id) :: K) .normal tm H
  | ret {K tm H} (h : R T Q K .ret tm H) : R T Q (.code .ret :: K) .normal tm H
  | past {x k K tm H} (hx : x ≠ .normal) (hk : ∀ id, k ≠ .endb id) (h : R T Q K x tm H) : R T Q (k :: K) x tm H
  | endn {id K tm H} (h : R T Q K .normal tm H) : R T Q (.endb id :: K) .normal tm H
  | here {id K tm H} (h : R T Q K .normal tm H) : R T Q (.endb id :: K) (.exit id) tm H
  | far {x id K tm H} (hx : x ≠ .normal) (hi : x ≠ .exit id) (h : R T Q K x tm H) : R T Q (.endb id :: K) x tm H
  | nil {K tm H} (h : R T Q K .normal tm H) : R T Q (.ops [] :: K) .normal tm H
  | op {dst o g sl l K tm H v H1} (hg : want tm g = true) (ho : Arun T o tm H v H1) (h : R T Q (.ops l :: K) .normal (put tm dst v) H1) : R T Q (.ops (⟨dst, o, g, sl⟩ :: l) :: K) .normal tm H
  | nop {dst o g sl l K tm H} (hg : want tm g = false) (h : R T Q (.ops l :: K) .normal (put tm dst undef) H) : R T Q (.ops (⟨dst, o, g, sl⟩ :: l) :: K) .normal tm H
  | dop {base m all p i tr o l K tm H v H1} (ho : Dstep T base m i o tm H v H1) (h : R T Q (.dops base m all p (i + 1) (tr ++ [(tm, H)]) l :: K) .normal (put tm o.dst v) H1) :
      R T Q (.dops base m all p i tr (o :: l) :: K) .normal tm H
  | dnil {base m all p i tr K tm H} (hp : p.all (dcheck all (tr ++ [(tm, H)])) = true) (h : R T Q K .normal tm H) : R T Q (.dops base m all p i tr [] :: K) .normal tm H

/-- Code that is carried out; of a loop: its rounds. -/
def CS (T : FuncId → Option AFunc) (c : ACode) (s : St) (x : AX) (s' : St) : Prop := match c with | .loop c => LR T c s x s' | c => CR T c s x s'
theorem CS.cr {T : FuncId → Option AFunc} {c : ACode} {s s' : St} {x : AX} (h : CS T c s x s') : CR T c s x s' := by
  cases c <;> first | exact CR.loop h | exact h
/-- What the rest does, from an outcome on. -/
def Ks (T : FuncId → Option AFunc) : List Fk → AX → St → AX → St → Prop
  | [], x, s, x', s' => x' = x ∧ s' = s
  | .code c :: K, x, s, x', s' => if x = .normal then ∃ x1 s1, CS T c s x1 s1 ∧ Ks T K x1 s1 x' s' else Ks T K x s x' s'
  | .ops l :: K, x, s, x', s' => if x = .normal then ∃ s1, RR T l s s1 ∧ Ks T K .normal s1 x' s' else Ks T K x s x' s'
  | .endb id :: K, x, s, x', s' => Ks T K (if x = .exit id then .normal else x) s x' s'
  | .dops base m all p i tr l :: K, x, s, x', s' =>
    if x = .normal then ∃ tr' s1, (∃ n0, ∀ n, n0 ≤ n → dtrace (callF T n) base m l i s = some tr') ∧ p.all (dcheck all (tr ++ tr')) = true ∧ tr'.getLast? = some s1 ∧ Ks T K .normal s1 x' s' else Ks T K x s x' s'

theorem Ks.past {T : FuncId → Option AFunc} {k : Fk} {K : List Fk} {x x' : AX} {s s' : St} (hx : x ≠ .normal) (hk : ∀ id, k ≠ .endb id) (h : Ks T K x s x' s') : Ks T (k :: K) x s x' s' := by
  cases k with
  | endb id => exact absurd rfl (hk id)
  | code c => simpa [Ks, hx] using h
  | ops l => simpa [Ks, hx] using h
  | dops base m all p i tr l => simpa [Ks, hx] using h

theorem dtrace_ne {call : CallF} {base m : Nat} : ∀ {l : List DOp} {i : Nat} {s : St} {tr : List St}, dtrace call base m l i s = some tr → tr ≠ []
  | [], i, s, tr, h => by simp [dtrace] at h; simp [← h]
  | o :: l, i, s, tr, h => by
    simp only [dtrace] at h
    split at h
    · cases hd : dtrace call base m l (i + 1) (put s.1 o.dst _, _) with
      | none => rw [hd] at h; cases h
      | some q => rw [hd] at h; cases h; simp
    · cases h

theorem R.sound {T : FuncId → Option AFunc} {Q : AX → Tm → Hp → Prop} {K : List Fk} {x : AX} {tm : Tm} {H : Hp} (h : R T Q K x tm H) : ∃ x' tm' H', Ks T K x (tm, H) x' (tm', H') ∧ Q x' tm' H' := by
  induction h with
  | done h => exact ⟨_, _, _, ⟨rfl, rfl⟩, h⟩
  | skip h ih => obtain ⟨x', t, H', hk, hq⟩ := ih; exact ⟨x', t, H', by simp only [Ks, if_true]; exact ⟨_, _, CR.skip, hk⟩, hq⟩
  | mapr hm h ih => obtain ⟨x', t, H', hk, hq⟩ := ih; exact ⟨x', t, H', by simp only [Ks, if_true]; exact ⟨_, _, CR.mapr hm, hk⟩, hq⟩
  | seq h ih =>
    obtain ⟨x', t, H', hk, hq⟩ := ih
    refine ⟨x', t, H', ?_, hq⟩
    simp only [Ks, if_true] at hk ⊢
    obtain ⟨x1, s1, h1, h2⟩ := hk
    by_cases hx : x1 = .normal
    · subst hx
      rw [if_pos rfl] at h2
      obtain ⟨x2, s2, h2, h3⟩ := h2
      exact ⟨x2, s2, h1.cr.seq h2.cr, h3⟩
    · rw [if_neg hx] at h2
      exact ⟨x1, s1, h1.cr.seq_out hx, h2⟩
  | region h ih =>
    obtain ⟨x', t, H', hk, hq⟩ := ih
    simp only [Ks, if_true] at hk
    obtain ⟨s1, h1, h2⟩ := hk
    exact ⟨x', t, H', by simp only [Ks, if_true]; exact ⟨_, _, CR.region h1, h2⟩, hq⟩
  | @draw l p K tm H h ih =>
    obtain ⟨x', t, H', hk, hq⟩ := ih
    simp only [Ks, if_true, List.nil_append] at hk
    obtain ⟨tr', s1, ⟨n0, hn⟩, hp, hl, h2⟩ := hk
    refine ⟨x', t, H', ?_, hq⟩
    simp only [Ks, if_true]
    refine ⟨_, s1, CR.drawn ⟨n0, fun n hle => ?_⟩, h2⟩
    simp only [adraw, hn n hle, hp, if_true, hl]
  | cond t hc h ih =>
    obtain ⟨x', t', H', hk, hq⟩ := ih
    simp only [Ks, if_true] at hk
    obtain ⟨x1, s1, h1, h2⟩ := hk
    exact ⟨x', t', H', by simp only [Ks, if_true]; exact ⟨_, _, CR.cond hc h1.cr, h2⟩, hq⟩
  | block h ih =>
    obtain ⟨x', t', H', hk, hq⟩ := ih
    simp only [Ks, if_true] at hk
    obtain ⟨x1, s1, h1, h2⟩ := hk
    refine ⟨x', t', H', ?_, hq⟩
    simp only [Ks, if_true]
    rename_i id _ _ _ _
    cases x1 with
    | normal => exact ⟨_, _, CR.block h1.cr, by simpa using h2⟩
    | ret => exact ⟨_, _, CR.block_ret h1.cr, by simpa using h2⟩
    | exit j =>
      by_cases hj : j = id
      · subst hj; exact ⟨_, _, CR.block_exit h1.cr, by simpa using h2⟩
      · refine ⟨_, _, CR.block_out h1.cr hj, ?_⟩
        rwa [if_neg (by simpa using hj)] at h2
  | @loop c K tm H h ih =>
    obtain ⟨x', t', H', hk, hq⟩ := ih
    simp only [Ks, if_true] at hk
    obtain ⟨x1, s1, h1, h2⟩ := hk
    refine ⟨x', t', H', ?_, hq⟩
    simp only [Ks, if_true]
    by_cases hx : x1 = .normal
    · subst hx
      rw [if_pos rfl] at h2
      obtain ⟨x2, s2, h2, h3⟩ := h2
      exact ⟨x2, s2, LR.step h1.cr h2, h3⟩
    · rw [if_neg hx] at h2
      exact ⟨x1, s1, LR.out h1.cr hx, h2⟩
  | exit h ih => obtain ⟨x', t, H', hk, hq⟩ := ih; exact ⟨x', t, H', by simp only [Ks, if_true]; exact ⟨_, _, CR.exit, hk⟩, hq⟩
  | ret h ih => obtain ⟨x', t, H', hk, hq⟩ := ih; exact ⟨x', t, H', by simp only [Ks, if_true]; exact ⟨_, _, CR.ret, hk⟩, hq⟩
  | past hx hk h ih => obtain ⟨x', t, H', h', hq⟩ := ih; exact ⟨x', t, H', Ks.past hx hk h', hq⟩
  | endn h ih => obtain ⟨x', t, H', h', hq⟩ := ih; exact ⟨x', t, H', by simpa [Ks] using h', hq⟩
  | here h ih => obtain ⟨x', t, H', h', hq⟩ := ih; exact ⟨x', t, H', by simpa [Ks] using h', hq⟩
  | far hx hi h ih => obtain ⟨x', t, H', h', hq⟩ := ih; exact ⟨x', t, H', by simpa [Ks, hi] using h', hq⟩
  | nil h ih => obtain ⟨x', t, H', h', hq⟩ := ih; exact ⟨x', t, H', by simp only [Ks, if_true]; exact ⟨_, RR.nil, h'⟩, hq⟩
  | op hg ho h ih =>
    obtain ⟨x', t, H', h', hq⟩ := ih
    simp only [Ks, if_true] at h'
    obtain ⟨s1, ⟨n1, h1⟩, h2⟩ := h'
    obtain ⟨n2, ho⟩ := ho
    refine ⟨x', t, H', ?_, hq⟩
    simp only [Ks, if_true]
    refine ⟨s1, ⟨max n1 n2, fun n hn => ?_⟩, h2⟩
    simp only [aregion, hg, if_true, ho n (by omega)]
    exact h1 n (by omega)
  | nop hg h ih =>
    obtain ⟨x', t, H', h', hq⟩ := ih
    simp only [Ks, if_true] at h'
    obtain ⟨s1, ⟨n1, h1⟩, h2⟩ := h'
    refine ⟨x', t, H', ?_, hq⟩
    simp only [Ks, if_true]
    refine ⟨s1, ⟨n1, fun n hn => ?_⟩, h2⟩
    simp only [aregion, hg]
    exact h1 n (by omega)
  | dop ho h ih =>
    obtain ⟨x', t, H', h', hq⟩ := ih
    simp only [Ks, if_true] at h'
    obtain ⟨tr', s1, ⟨n1, h1⟩, hp, hl, h2⟩ := h'
    obtain ⟨n2, ho⟩ := ho
    refine ⟨x', t, H', ?_, hq⟩
    simp only [Ks, if_true]
    refine ⟨_ :: tr', s1, ⟨max n1 n2, fun n hn => ?_⟩, by simpa using hp, ?_, h2⟩
    · simp only [dtrace, ho n (by omega), h1 n (by omega)]; rfl
    · have := dtrace_ne (h1 n1 (Nat.le_refl _))
      cases tr' with
      | nil => exact absurd rfl this
      | cons a b => simpa [List.getLast?_cons] using hl
  | dnil hp h ih =>
    obtain ⟨x', t, H', h', hq⟩ := ih
    refine ⟨x', t, H', ?_, hq⟩
    simp only [Ks, if_true]
    exact ⟨[_], _, ⟨0, fun n _ => rfl⟩, hp, rfl, h'⟩

/-- A call that comes to a result and a heap with a property. -/
def G (T : FuncId → Option AFunc) (f : FuncId) (args : List Value) (H : Hp) (Q : Value → Hp → Prop) : Prop := ∃ r H', Runs T f args H r H' ∧ Q r H'
theorem G.mk {T : FuncId → Option AFunc} {f : FuncId} {F : AFunc} [hf : Has T f F] {args : List Value} {H : Hp} {Q : Value → Hp → Prop}
    (h : R T (fun x tm H' => (x = .normal ∨ x = .ret) ∧ ∃ r, aresults F.results tm H' = some r ∧ Q r H') [.code F.body] .normal (initTm args) H) : G T f args H Q := by
  obtain ⟨x', t, H', hk, hx, r, hr, hq⟩ := h.sound
  simp only [Ks, if_true] at hk
  obtain ⟨x1, s1, h1, h2, h3⟩ := hk
  subst h2; subst h3
  exact ⟨r, H', Runs.mk h1.cr hx hr, hq⟩

/-! ### The rules as equations -/
section
variable {T : FuncId → Option AFunc} {Q : AX → Tm → Hp → Prop} {K : List Fk} {tm : Tm} {H : Hp} {l : List DOp} {sl : List Nat}
theorem R_done {x : AX} : R T Q [] x tm H ↔ Q x tm H := ⟨fun h => by cases h; assumption, .done⟩
theorem R_skip : R T Q (.code .skip :: K) .normal tm H ↔ R T Q K .normal tm H := ⟨fun h => by cases h <;> first | assumption | simp_all, .skip⟩
theorem R_seq {a b : ACode} : R T Q (.code (.seq a b) :: K) .normal tm H ↔ R T Q (.code a :: .code b :: K) .normal tm H := ⟨fun h => by cases h <;> first | assumption | simp_all, .seq⟩
theorem R_region : R T Q (.code (.region l) :: K) .normal tm H ↔ R T Q (.ops l :: K) .normal tm H := ⟨fun h => by cases h <;> first | assumption | simp_all, .region⟩
theorem R_draw {p : List (Nat × Nat)} : R T Q (.code (.draw l p) :: K) .normal tm H ↔ R T Q (.dops H.length l.length l p 0 [] l :: K) .normal tm (H ++ List.replicate l.length .dead) :=
  ⟨fun h => by cases h <;> first | assumption | simp_all, .draw⟩
theorem R_block {id : Nat} {c : ACode} : R T Q (.code (.block id c) :: K) .normal tm H ↔ R T Q (.code c :: .endb id :: K) .normal tm H := ⟨fun h => by cases h <;> first | assumption | simp_all, .block⟩
theorem R_exit {id : Nat} : R T Q (.code (.exit id) :: K) .normal tm H ↔ R T Q K (.exit id) tm H := ⟨fun h => by cases h <;> first | assumption | simp_all, .exit⟩
theorem R_ret : R T Q (.code .ret :: K) .normal tm H ↔ R T Q K .ret tm H := ⟨fun h => by cases h <;> first | assumption | simp_all, .ret⟩
theorem R_nil : R T Q (.ops [] :: K) .normal tm H ↔ R T Q K .normal tm H := ⟨fun h => by cases h <;> first | assumption | simp_all, .nil⟩
theorem R_endn {id : Nat} : R T Q (.endb id :: K) .normal tm H ↔ R T Q K .normal tm H := ⟨fun h => by cases h <;> first | assumption | simp_all, .endn⟩
theorem R_past_ret {c : ACode} : R T Q (.code c :: K) .ret tm H ↔ R T Q K .ret tm H := ⟨fun h => by cases h; assumption, .past (by simp) (by simp)⟩
theorem R_past_exit {c : ACode} {id : Nat} : R T Q (.code c :: K) (.exit id) tm H ↔ R T Q K (.exit id) tm H := ⟨fun h => by cases h; assumption, .past (by simp) (by simp)⟩
theorem R_end_ret {id : Nat} : R T Q (.endb id :: K) .ret tm H ↔ R T Q K .ret tm H := ⟨fun h => by cases h <;> first | assumption | simp_all, .far (by simp) (by simp)⟩
theorem R_end_exit {id j : Nat} : R T Q (.endb id :: K) (.exit j) tm H ↔ if j = id then R T Q K .normal tm H else R T Q K (.exit j) tm H := by
  by_cases h : j = id
  · subst h; rw [if_pos rfl]; exact ⟨fun h => by cases h <;> first | assumption | simp_all, .here⟩
  · rw [if_neg h]; exact ⟨fun h => by cases h <;> first | assumption | simp_all, .far (by simp) (by simpa using h)⟩
/-- A branch, on a value. -/
def Br (T : FuncId → Option AFunc) (Q : AX → Tm → Hp → Prop) (v : Value) (a b : ACode) (K : List Fk) (tm : Tm) (H : Hp) : Prop := ∃ t, v = .bool t ∧ R T Q (.code (if t then a else b) :: K) .normal tm H
theorem R_cond {c : Operand} {a b : ACode} : R T Q (.code (.cond c a b) :: K) .normal tm H ↔ Br T Q (ev tm c) a b K tm H :=
  ⟨fun h => by cases h with | cond t hc h => exact ⟨t, hc, h⟩ | past hx hk h => exact absurd rfl hx, fun ⟨t, hc, h⟩ => .cond t hc h⟩
theorem Br_true {a b : ACode} : Br T Q (.bool true) a b K tm H ↔ R T Q (.code a :: K) .normal tm H := ⟨fun ⟨t, h, k⟩ => by cases h; exact k, fun h => ⟨true, rfl, h⟩⟩
theorem Br_false {a b : ACode} : Br T Q (.bool false) a b K tm H ↔ R T Q (.code b :: K) .normal tm H := ⟨fun ⟨t, h, k⟩ => by cases h; exact k, fun h => ⟨false, rfl, h⟩⟩
/-- The next operation's result. -/
def Nx (T : FuncId → Option AFunc) (Q : AX → Tm → Hp → Prop) (r : Option (Value × Hp)) (dst : Option Nat) (l : List DOp) (K : List Fk) (tm : Tm) : Prop :=
  ∃ v H1, r = some (v, H1) ∧ R T Q (.ops l :: K) .normal (put tm dst v) H1
theorem Nx_some {v : Value} {H1 : Hp} {dst : Option Nat} : Nx T Q (some (v, H1)) dst l K tm ↔ R T Q (.ops l :: K) .normal (put tm dst v) H1 := ⟨fun ⟨_, _, h, k⟩ => by cases h; exact k, fun h => ⟨_, _, rfl, h⟩⟩
def calls : AOp → Bool
  | .call .. | .callv .. => true
  | _ => false
theorem arun_calm {o : AOp} (h : calls o = false) (call : CallF) : arun call o tm H = aop o tm H := by cases o <;> first | rfl | cases h
theorem R_op {o : AOp} {dst : Option Nat} (hc : calls o = false) : R T Q (.ops (⟨dst, o, none, sl⟩ :: l) :: K) .normal tm H ↔ Nx T Q (aop o tm H) dst l K tm :=
  ⟨fun h => by
    cases h with
    | op hg ho h => obtain ⟨n, hn⟩ := ho; exact ⟨_, _, (arun_calm hc _).symm.trans (hn n (Nat.le_refl _)), h⟩
    | nop hg h => cases hg
    | past hx hk h => exact absurd rfl hx, fun ⟨v, H1, hv, h⟩ => .op rfl ⟨0, fun n _ => (arun_calm hc _).trans hv⟩ h⟩
theorem R_gop {o : AOp} {dst : Option Nat} {g : Nat} {b : Bool} (hc : calls o = false) : R T Q (.ops (⟨dst, o, some (g, b), sl⟩ :: l) :: K) .normal tm H ↔
    if want tm (some (g, b)) = true then Nx T Q (aop o tm H) dst l K tm else R T Q (.ops l :: K) .normal (put tm dst undef) H := by
  by_cases hw : want tm (some (g, b)) = true
  · rw [if_pos hw]
    exact ⟨fun h => by
      cases h with
      | op hg ho h => obtain ⟨n, hn⟩ := ho; exact ⟨_, _, (arun_calm hc _).symm.trans (hn n (Nat.le_refl _)), h⟩
      | nop hg h => simp [hw] at hg
      | past hx hk h => exact absurd rfl hx, fun ⟨v, H1, hv, h⟩ => .op hw ⟨0, fun n _ => (arun_calm hc _).trans hv⟩ h⟩
  · rw [if_neg hw]
    exact ⟨fun h => by
      cases h with
      | op hg ho h => exact absurd hg hw
      | nop hg h => exact h
      | past hx hk h => exact absurd rfl hx, fun h => .nop (by simpa using hw) h⟩
/-- A call, and what comes behind it. -/
theorem R_call {f : FuncId} {xs : List Operand} {dst : Option Nat} {P : Value → Hp → Prop} {args : List Value} (ha : xs.map (ev tm) = args) (hc : G T f args H P) (h : ∀ v H1, P v H1 → R T Q (.ops l :: K) .normal (put tm dst v) H1) :
    R T Q (.ops (⟨dst, .call f xs, none, sl⟩ :: l) :: K) .normal tm H := by
  subst ha
  obtain ⟨r, H', ⟨n, hn⟩, hp⟩ := hc
  exact .op rfl ⟨n, fun m hm => hn m hm⟩ (h r H' hp)
/-! Regions that draw their order -/
section
variable {base m i : Nat} {all : List DOp} {p : List (Nat × Nat)} {tr : List St}
def Dx (T : FuncId → Option AFunc) (Q : AX → Tm → Hp → Prop) (r : Option (Value × Hp)) (base m : Nat) (all : List DOp) (p : List (Nat × Nat)) (i : Nat) (tr : List St) (dst : Option Nat) (l : List DOp) (K : List Fk) (tm : Tm) : Prop :=
  ∃ v H1, r = some (v, H1) ∧ R T Q (.dops base m all p i tr l :: K) .normal (put tm dst v) H1
theorem Dx_some {v : Value} {H1 : Hp} {dst : Option Nat} : Dx T Q (some (v, H1)) base m all p i tr dst l K tm ↔ R T Q (.dops base m all p i tr l :: K) .normal (put tm dst v) H1 :=
  ⟨fun ⟨_, _, h, k⟩ => by cases h; exact k, fun h => ⟨_, _, rfl, h⟩⟩
theorem dstep_calm {o : DOp} (h : calls o.op = false) (call : CallF) (s : St) : dstep call base m i o s = dstep (fun _ _ _ => none) base m i o s := by
  unfold dstep
  split
  · split <;> first | rfl | (rw [arun_calm h, arun_calm h])
  · rfl
theorem R_dop {o : DOp} (hc : calls o.op = false) : R T Q (.dops base m all p i tr (o :: l) :: K) .normal tm H ↔ Dx T Q (dstep (fun _ _ _ => none) base m i o (tm, H)) base m all p (i + 1) (tr ++ [(tm, H)]) o.dst l K tm :=
  ⟨fun h => by
    cases h with
    | dop ho h => obtain ⟨n, hn⟩ := ho; exact ⟨_, _, (dstep_calm hc _ _).symm.trans (hn n (Nat.le_refl _)), h⟩
    | past hx hk h => exact absurd rfl hx, fun ⟨v, H1, hv, h⟩ => .dop ⟨0, fun n _ => (dstep_calm hc _ _).trans hv⟩ h⟩
theorem R_dnil : R T Q (.dops base m all p i tr [] :: K) .normal tm H ↔ (p.all (dcheck all (tr ++ [(tm, H)])) = true ∧ R T Q K .normal tm H) :=
  ⟨fun h => by
    cases h with
    | dnil hp h => exact ⟨hp, h⟩
    | past hx hk h => exact absurd rfl hx, fun h => .dnil h.1 h.2⟩
theorem R_dcall {f : FuncId} {xs : List Operand} {dst : Option Nat} {g : Option (Nat × Bool)} {P : Value → Hp → Prop} {args : List Value} (ha : xs.map (ev tm) = args) (hg : want tm g = true) (hc : G T f args H P)
    (h : ∀ v H1, P v H1 → R T Q (.dops base m all p (i + 1) (tr ++ [(tm, H)]) l :: K) .normal (put tm dst v) H1) : R T Q (.dops base m all p i tr (⟨dst, .call f xs, g, sl⟩ :: l) :: K) .normal tm H := by
  subst ha
  obtain ⟨r, H', ⟨n, hn⟩, hp⟩ := hc
  exact .dop ⟨n, fun k hk => by simp only [dstep, hg, if_true, kindOf, arun]; exact hn k hk⟩ (h r H' hp)
end
end

end Go.Ab

/- Values and steps of the abstract machine, for simp (printed by wip/tools/mk16.py). Own work. -/
namespace Go.Ab
open Go

/-! ### Operations on values -/
def vbin (o : BinOp) : Value → Value → Option Value
  | .int k a, .int k' b => ibin o k a k' b
  | _, _ => none
def veq (neg : Bool) (k : EqK) (x y : Value) : Option Value := match x, y with
  | .int k a, .int k' b => ibin (if neg then .neq else .eql) k a k' b
  | u, v => (aEq k u v).map fun b => .bool (if neg then !b else b)
def vpick (c a b : Value) : Option Value := match c with
  | .bool t => some (if t then a else b)
  | _ => none
def vun (o : UnOp) (x : Value) : Option Value := match o, x with
  | .neg, .int k n => some (.int k (k.wrap (0 - n)))
  | .not, .bool b => some (.bool !b)
  | _, _ => none
def vconv (k : IntKind) : Value → Option Value
  | .int _ n => some (.int k (k.wrap n))
  | _ => none
def vbuild (z : List Value) (ps : List (Nat × Nat × Value)) : Option Value := (bfill z ps).map fun cs => .agg cs.toArray
def vext (i : Nat) : Value → Option Value
  | .tuple vs => vs[i]?
  | _ => none
def vfield (off n : Nat) (b : Bool) : Value → Option Value
  | .agg cs => if off + n ≤ cs.size then mkv b ((cs.toList.drop off).take n) else none
  | _ => none
def vnilchk : Value → Option Value
  | .pointer (some a) => some (.pointer (some a))
  | .func (.func f) a b => some (.func (.func f) a b)
  | _ => none
def vfaddr (off : Nat) : Value → Option Value
  | .pointer (some a) => some (.pointer (some ⟨a.block, a.off + off, none⟩))
  | _ => none
def vidxs (sz : Nat) : Value → Value → Option Value
  | .slice (some a) n _, .int _ j => if 0 ≤ j ∧ j < n then some (.pointer (some ⟨a.block, a.off + j.toNat * sz, none⟩)) else none
  | _, _ => none
def vidx (len sz : Nat) (b : Bool) : Value → Value → Option Value
  | .agg cs, .int _ j => if 0 ≤ j ∧ j < len ∧ (j.toNat * sz) + sz ≤ cs.size then mkv b ((cs.toList.drop (j.toNat * sz)).take sz) else none
  | _, _ => none
def vlen : Value → Option Value
  | .slice _ n _ => some (.int .i64 n)
  | _ => none
def vmm (m : Bool) : List Value → Option Value
  | v :: rest => mm2 m v rest
  | [] => none
def vload (H : Hp) (n : Nat) (b : Bool) : Value → Option Value
  | .pointer (some a) => if a.spot.isNone then (H.load a n).bind (mkv b) else none
  | _ => none
def hstore (n : Nat) (a x : Value) (H : Hp) : Option Hp := match a with
  | .pointer (some a) => match H[a.block]? with
    | some (.rw s vs) => if x.cells.size = n ∧ x.cells.toList.all Value.oneCell' ∧ a.off + n ≤ vs.length then some (H.set a.block (.rw s (splice vs a.off x.cells.toList))) else none
    | _ => none
  | _ => none
def hmks (sz bytes : Nat) (z : List Value) (l c : Value) (k : Nat) : Option (Value × Blk) := match l, c with
  | .int _ l, .int _ c =>
    if 0 ≤ l ∧ l ≤ c ∧ (bytes : Int) * c ≤ 281474976710656 ∧ c ≤ 9223372036854775807 then
      some (.slice (some ⟨k, 0, none⟩) l.toNat l.toNat, .rw sz (madeCells z.toArray (l.toNat * sz)).toList)
    else none
  | _, _ => none
def hbs (sz len : Nat) (z : List Value) (ps : List (Nat × Nat × Value)) (k : Nat) : Option (Value × Blk) := (bfill z ps).map fun cs => (.slice (some ⟨k, 0, none⟩) len len, .rw sz cs)

section
variable {T : FuncId → Option AFunc} {Q : AX → Tm → Hp → Prop} {K : List Fk} {tm : Tm} {H : Hp} {l : List DOp} {sl : List Nat} {dst : Option Nat} {g : Option (Nat × Bool)} {base m i : Nat} {all : List DOp} {p : List (Nat × Nat)} {tr : List St}
@[simp] theorem ev_tmp (t : Nat) : ev tm (.tmp t) = tm t := rfl
@[simp] theorem ev_const (v : Value) : ev tm (.const v) = v := rfl
@[simp] theorem ev_func (f : FuncId) : ev tm (.func f) = .func (.func f) #[] #[] := rfl
@[simp] theorem put_some (t : Nat) (v : Value) : put tm (some t) v = upd tm t v := rfl
@[simp] theorem put_none (v : Value) : put tm none v = tm := rfl
@[simp] theorem upd_app (t u : Nat) (v : Value) : upd tm t v u = if u = t then v else tm u := rfl
@[simp] theorem initTm_app (args : List Value) (t : Nat) : initTm args t = args.getD t undef := rfl

/-- A value comes next; the heap stays. -/
def Nv (T : FuncId → Option AFunc) (Q : AX → Tm → Hp → Prop) (r : Option Value) (dst : Option Nat) (l : List DOp) (K : List Fk) (tm : Tm) (H : Hp) : Prop := ∃ v, r = some v ∧ R T Q (.ops l :: K) .normal (put tm dst v) H
@[simp] theorem Nv_some {v : Value} : Nv T Q (some v) dst l K tm H ↔ R T Q (.ops l :: K) .normal (put tm dst v) H := ⟨fun ⟨_, h, k⟩ => by cases h; exact k, fun h => ⟨_, rfl, h⟩⟩
theorem Nx_nv {r : Option Value} : Nx T Q (r.map (·, H)) dst l K tm ↔ Nv T Q r dst l K tm H := by
  cases r with
  | none => exact ⟨fun ⟨_, _, h, _⟩ => by (cases h), fun ⟨_, h, _⟩ => by (cases h)⟩
  | some v => exact Nx_some.trans Nv_some.symm
def Nh (T : FuncId → Option AFunc) (Q : AX → Tm → Hp → Prop) (r : Option Hp) (dst : Option Nat) (l : List DOp) (K : List Fk) (tm : Tm) : Prop := ∃ H1, r = some H1 ∧ R T Q (.ops l :: K) .normal (put tm dst undef) H1
@[simp] theorem Nh_some {H1 : Hp} : Nh T Q (some H1) dst l K tm ↔ R T Q (.ops l :: K) .normal (put tm dst undef) H1 := ⟨fun ⟨_, h, k⟩ => by cases h; exact k, fun h => ⟨_, rfl, h⟩⟩
theorem Nx_nh {r : Option Hp} : Nx T Q (r.map (undef, ·)) dst l K tm ↔ Nh T Q r dst l K tm := by
  cases r with
  | none => exact ⟨fun ⟨_, _, h, _⟩ => by (cases h), fun ⟨_, h, _⟩ => by (cases h)⟩
  | some v => exact Nx_some.trans Nh_some.symm
def Nn (T : FuncId → Option AFunc) (Q : AX → Tm → Hp → Prop) (r : Option (Value × Blk)) (dst : Option Nat) (l : List DOp) (K : List Fk) (tm : Tm) (H : Hp) : Prop := ∃ v b, r = some (v, b) ∧ R T Q (.ops l :: K) .normal (put tm dst v) (H ++ [b])
@[simp] theorem Nn_some {v : Value} {b : Blk} : Nn T Q (some (v, b)) dst l K tm H ↔ R T Q (.ops l :: K) .normal (put tm dst v) (H ++ [b]) := ⟨fun ⟨_, _, h, k⟩ => by cases h; exact k, fun h => ⟨_, _, rfl, h⟩⟩
theorem Nx_nn {r : Option (Value × Blk)} : Nx T Q (r.map fun p => (p.1, H ++ [p.2])) dst l K tm ↔ Nn T Q r dst l K tm H := by
  cases r with
  | none => exact ⟨fun ⟨_, _, h, _⟩ => by (cases h), fun ⟨_, _, h, _⟩ => by (cases h)⟩
  | some v => exact Nx_some.trans Nn_some.symm

/-! ### What the operations are, by values -/
theorem A_mv {x : Operand} : aop (.mv x) tm H = (some (ev tm x)).map (·, H) := rfl
@[simp] theorem S_mv {x : Operand} : R T Q (.ops (⟨dst, .mv x, none, sl⟩ :: l) :: K) .normal tm H ↔ Nv T Q (some (ev tm x)) dst l K tm H := by rw [R_op rfl, A_mv]; exact Nx_nv
@[simp] theorem SG_mv {x : Operand} {gt : Nat} {gb : Bool} : R T Q (.ops (⟨dst, .mv x, some (gt, gb), sl⟩ :: l) :: K) .normal tm H ↔ if want tm (some (gt, gb)) = true then Nv T Q (some (ev tm x)) dst l K tm H else R T Q (.ops l :: K) .normal (put tm dst undef) H := by rw [R_gop rfl, A_mv]; simp only [Nx_nv]
theorem A_pick {c a b : Operand} : aop (.pick c a b) tm H = (vpick (ev tm c) (ev tm a) (ev tm b)).map (·, H) := by simp only [aop, vpick]; cases ev tm c <;> rfl
@[simp] theorem S_pick {c a b : Operand} : R T Q (.ops (⟨dst, .pick c a b, none, sl⟩ :: l) :: K) .normal tm H ↔ Nv T Q (vpick (ev tm c) (ev tm a) (ev tm b)) dst l K tm H := by rw [R_op rfl, A_pick]; exact Nx_nv
@[simp] theorem SG_pick {c a b : Operand} {gt : Nat} {gb : Bool} : R T Q (.ops (⟨dst, .pick c a b, some (gt, gb), sl⟩ :: l) :: K) .normal tm H ↔ if want tm (some (gt, gb)) = true then Nv T Q (vpick (ev tm c) (ev tm a) (ev tm b)) dst l K tm H else R T Q (.ops l :: K) .normal (put tm dst undef) H := by rw [R_gop rfl, A_pick]; simp only [Nx_nv]
theorem A_bin {o : BinOp} {x y : Operand} : aop (.bin o x y) tm H = (vbin o (ev tm x) (ev tm y)).map (·, H) := by simp only [aop, vbin]; split <;> simp_all
@[simp] theorem S_bin {o : BinOp} {x y : Operand} : R T Q (.ops (⟨dst, .bin o x y, none, sl⟩ :: l) :: K) .normal tm H ↔ Nv T Q (vbin o (ev tm x) (ev tm y)) dst l K tm H := by rw [R_op rfl, A_bin]; exact Nx_nv
@[simp] theorem SG_bin {o : BinOp} {x y : Operand} {gt : Nat} {gb : Bool} : R T Q (.ops (⟨dst, .bin o x y, some (gt, gb), sl⟩ :: l) :: K) .normal tm H ↔ if want tm (some (gt, gb)) = true then Nv T Q (vbin o (ev tm x) (ev tm y)) dst l K tm H else R T Q (.ops l :: K) .normal (put tm dst undef) H := by rw [R_gop rfl, A_bin]; simp only [Nx_nv]
theorem A_eq {n : Bool} {k : EqK} {x y : Operand} : aop (.eq n k x y) tm H = (veq n k (ev tm x) (ev tm y)).map (·, H) := by simp only [aop, veq]; split <;> simp_all [Function.comp_def]
@[simp] theorem S_eq {n : Bool} {k : EqK} {x y : Operand} : R T Q (.ops (⟨dst, .eq n k x y, none, sl⟩ :: l) :: K) .normal tm H ↔ Nv T Q (veq n k (ev tm x) (ev tm y)) dst l K tm H := by rw [R_op rfl, A_eq]; exact Nx_nv
@[simp] theorem SG_eq {n : Bool} {k : EqK} {x y : Operand} {gt : Nat} {gb : Bool} : R T Q (.ops (⟨dst, .eq n k x y, some (gt, gb), sl⟩ :: l) :: K) .normal tm H ↔ if want tm (some (gt, gb)) = true then Nv T Q (veq n k (ev tm x) (ev tm y)) dst l K tm H else R T Q (.ops l :: K) .normal (put tm dst undef) H := by rw [R_gop rfl, A_eq]; simp only [Nx_nv]
theorem A_un {o : UnOp} {x : Operand} : aop (.un o x) tm H = (vun o (ev tm x)).map (·, H) := by simp only [aop, vun]; split <;> simp_all
@[simp] theorem S_un {o : UnOp} {x : Operand} : R T Q (.ops (⟨dst, .un o x, none, sl⟩ :: l) :: K) .normal tm H ↔ Nv T Q (vun o (ev tm x)) dst l K tm H := by rw [R_op rfl, A_un]; exact Nx_nv
@[simp] theorem SG_un {o : UnOp} {x : Operand} {gt : Nat} {gb : Bool} : R T Q (.ops (⟨dst, .un o x, some (gt, gb), sl⟩ :: l) :: K) .normal tm H ↔ if want tm (some (gt, gb)) = true then Nv T Q (vun o (ev tm x)) dst l K tm H else R T Q (.ops l :: K) .normal (put tm dst undef) H := by rw [R_gop rfl, A_un]; simp only [Nx_nv]
theorem A_conv {k : IntKind} {x : Operand} : aop (.conv k x) tm H = (vconv k (ev tm x)).map (·, H) := by simp only [aop, vconv]; split <;> simp_all
@[simp] theorem S_conv {k : IntKind} {x : Operand} : R T Q (.ops (⟨dst, .conv k x, none, sl⟩ :: l) :: K) .normal tm H ↔ Nv T Q (vconv k (ev tm x)) dst l K tm H := by rw [R_op rfl, A_conv]; exact Nx_nv
@[simp] theorem SG_conv {k : IntKind} {x : Operand} {gt : Nat} {gb : Bool} : R T Q (.ops (⟨dst, .conv k x, some (gt, gb), sl⟩ :: l) :: K) .normal tm H ↔ if want tm (some (gt, gb)) = true then Nv T Q (vconv k (ev tm x)) dst l K tm H else R T Q (.ops l :: K) .normal (put tm dst undef) H := by rw [R_gop rfl, A_conv]; simp only [Nx_nv]
theorem A_build {z : List Value} {ps : List (Nat × Nat × Operand)} : aop (.build z ps) tm H = (vbuild z (ps.map fun p => (p.1, p.2.1, ev tm p.2.2))).map (·, H) := by simp only [aop, vbuild]; cases bfill z (ps.map fun p => (p.1, p.2.1, ev tm p.2.2)) <;> rfl
@[simp] theorem S_build {z : List Value} {ps : List (Nat × Nat × Operand)} : R T Q (.ops (⟨dst, .build z ps, none, sl⟩ :: l) :: K) .normal tm H ↔ Nv T Q (vbuild z (ps.map fun p => (p.1, p.2.1, ev tm p.2.2))) dst l K tm H := by rw [R_op rfl, A_build]; exact Nx_nv
@[simp] theorem SG_build {z : List Value} {ps : List (Nat × Nat × Operand)} {gt : Nat} {gb : Bool} : R T Q (.ops (⟨dst, .build z ps, some (gt, gb), sl⟩ :: l) :: K) .normal tm H ↔ if want tm (some (gt, gb)) = true then Nv T Q (vbuild z (ps.map fun p => (p.1, p.2.1, ev tm p.2.2))) dst l K tm H else R T Q (.ops l :: K) .normal (put tm dst undef) H := by rw [R_gop rfl, A_build]; simp only [Nx_nv]
theorem A_extract {x : Operand} {j : Nat} : aop (.extract x j) tm H = (vext j (ev tm x)).map (·, H) := by simp only [aop, vext]; split <;> simp_all
@[simp] theorem S_extract {x : Operand} {j : Nat} : R T Q (.ops (⟨dst, .extract x j, none, sl⟩ :: l) :: K) .normal tm H ↔ Nv T Q (vext j (ev tm x)) dst l K tm H := by rw [R_op rfl, A_extract]; exact Nx_nv
@[simp] theorem SG_extract {x : Operand} {j : Nat} {gt : Nat} {gb : Bool} : R T Q (.ops (⟨dst, .extract x j, some (gt, gb), sl⟩ :: l) :: K) .normal tm H ↔ if want tm (some (gt, gb)) = true then Nv T Q (vext j (ev tm x)) dst l K tm H else R T Q (.ops l :: K) .normal (put tm dst undef) H := by rw [R_gop rfl, A_extract]; simp only [Nx_nv]
theorem A_field {o n : Nat} {b : Bool} {x : Operand} : aop (.field o n b x) tm H = (vfield o n b (ev tm x)).map (·, H) := by simp only [aop, vfield]; split <;> simp_all; split <;> rfl
@[simp] theorem S_field {o n : Nat} {b : Bool} {x : Operand} : R T Q (.ops (⟨dst, .field o n b x, none, sl⟩ :: l) :: K) .normal tm H ↔ Nv T Q (vfield o n b (ev tm x)) dst l K tm H := by rw [R_op rfl, A_field]; exact Nx_nv
@[simp] theorem SG_field {o n : Nat} {b : Bool} {x : Operand} {gt : Nat} {gb : Bool} : R T Q (.ops (⟨dst, .field o n b x, some (gt, gb), sl⟩ :: l) :: K) .normal tm H ↔ if want tm (some (gt, gb)) = true then Nv T Q (vfield o n b (ev tm x)) dst l K tm H else R T Q (.ops l :: K) .normal (put tm dst undef) H := by rw [R_gop rfl, A_field]; simp only [Nx_nv]
theorem A_mkfn {f : Fn} {cs : List Operand} : aop (.mkfn f cs) tm H = (some (.func f #[] (cs.map (ev tm)).toArray)).map (·, H) := rfl
@[simp] theorem S_mkfn {f : Fn} {cs : List Operand} : R T Q (.ops (⟨dst, .mkfn f cs, none, sl⟩ :: l) :: K) .normal tm H ↔ Nv T Q (some (.func f #[] (cs.map (ev tm)).toArray)) dst l K tm H := by rw [R_op rfl, A_mkfn]; exact Nx_nv
@[simp] theorem SG_mkfn {f : Fn} {cs : List Operand} {gt : Nat} {gb : Bool} : R T Q (.ops (⟨dst, .mkfn f cs, some (gt, gb), sl⟩ :: l) :: K) .normal tm H ↔ if want tm (some (gt, gb)) = true then Nv T Q (some (.func f #[] (cs.map (ev tm)).toArray)) dst l K tm H else R T Q (.ops l :: K) .normal (put tm dst undef) H := by rw [R_gop rfl, A_mkfn]; simp only [Nx_nv]
theorem A_iface {t : TypeId} {x : Operand} : aop (.iface t x) tm H = (some (.iface t (ev tm x))).map (·, H) := rfl
@[simp] theorem S_iface {t : TypeId} {x : Operand} : R T Q (.ops (⟨dst, .iface t x, none, sl⟩ :: l) :: K) .normal tm H ↔ Nv T Q (some (.iface t (ev tm x))) dst l K tm H := by rw [R_op rfl, A_iface]; exact Nx_nv
@[simp] theorem SG_iface {t : TypeId} {x : Operand} {gt : Nat} {gb : Bool} : R T Q (.ops (⟨dst, .iface t x, some (gt, gb), sl⟩ :: l) :: K) .normal tm H ↔ if want tm (some (gt, gb)) = true then Nv T Q (some (.iface t (ev tm x))) dst l K tm H else R T Q (.ops l :: K) .normal (put tm dst undef) H := by rw [R_gop rfl, A_iface]; simp only [Nx_nv]
theorem A_nilchk {x : Operand} : aop (.nilchk x) tm H = (vnilchk (ev tm x)).map (·, H) := by simp only [aop, vnilchk]; split <;> simp_all
@[simp] theorem S_nilchk {x : Operand} : R T Q (.ops (⟨dst, .nilchk x, none, sl⟩ :: l) :: K) .normal tm H ↔ Nv T Q (vnilchk (ev tm x)) dst l K tm H := by rw [R_op rfl, A_nilchk]; exact Nx_nv
@[simp] theorem SG_nilchk {x : Operand} {gt : Nat} {gb : Bool} : R T Q (.ops (⟨dst, .nilchk x, some (gt, gb), sl⟩ :: l) :: K) .normal tm H ↔ if want tm (some (gt, gb)) = true then Nv T Q (vnilchk (ev tm x)) dst l K tm H else R T Q (.ops l :: K) .normal (put tm dst undef) H := by rw [R_gop rfl, A_nilchk]; simp only [Nx_nv]
theorem A_faddr {o : Nat} {x : Operand} : aop (.faddr o x) tm H = (vfaddr o (ev tm x)).map (·, H) := by simp only [aop, vfaddr]; split <;> simp_all
@[simp] theorem S_faddr {o : Nat} {x : Operand} : R T Q (.ops (⟨dst, .faddr o x, none, sl⟩ :: l) :: K) .normal tm H ↔ Nv T Q (vfaddr o (ev tm x)) dst l K tm H := by rw [R_op rfl, A_faddr]; exact Nx_nv
@[simp] theorem SG_faddr {o : Nat} {x : Operand} {gt : Nat} {gb : Bool} : R T Q (.ops (⟨dst, .faddr o x, some (gt, gb), sl⟩ :: l) :: K) .normal tm H ↔ if want tm (some (gt, gb)) = true then Nv T Q (vfaddr o (ev tm x)) dst l K tm H else R T Q (.ops l :: K) .normal (put tm dst undef) H := by rw [R_gop rfl, A_faddr]; simp only [Nx_nv]
theorem A_idxs {s : Nat} {x j : Operand} : aop (.idxs s x j) tm H = (vidxs s (ev tm x) (ev tm j)).map (·, H) := by simp only [aop, vidxs]; split <;> simp_all <;> (split <;> rfl)
@[simp] theorem S_idxs {s : Nat} {x j : Operand} : R T Q (.ops (⟨dst, .idxs s x j, none, sl⟩ :: l) :: K) .normal tm H ↔ Nv T Q (vidxs s (ev tm x) (ev tm j)) dst l K tm H := by rw [R_op rfl, A_idxs]; exact Nx_nv
@[simp] theorem SG_idxs {s : Nat} {x j : Operand} {gt : Nat} {gb : Bool} : R T Q (.ops (⟨dst, .idxs s x j, some (gt, gb), sl⟩ :: l) :: K) .normal tm H ↔ if want tm (some (gt, gb)) = true then Nv T Q (vidxs s (ev tm x) (ev tm j)) dst l K tm H else R T Q (.ops l :: K) .normal (put tm dst undef) H := by rw [R_gop rfl, A_idxs]; simp only [Nx_nv]
theorem A_idx {n s : Nat} {b : Bool} {x j : Operand} : aop (.idx n s b x j) tm H = (vidx n s b (ev tm x) (ev tm j)).map (·, H) := by simp only [aop, vidx]; split <;> simp_all <;> (split <;> rfl)
@[simp] theorem S_idx {n s : Nat} {b : Bool} {x j : Operand} : R T Q (.ops (⟨dst, .idx n s b x j, none, sl⟩ :: l) :: K) .normal tm H ↔ Nv T Q (vidx n s b (ev tm x) (ev tm j)) dst l K tm H := by rw [R_op rfl, A_idx]; exact Nx_nv
@[simp] theorem SG_idx {n s : Nat} {b : Bool} {x j : Operand} {gt : Nat} {gb : Bool} : R T Q (.ops (⟨dst, .idx n s b x j, some (gt, gb), sl⟩ :: l) :: K) .normal tm H ↔ if want tm (some (gt, gb)) = true then Nv T Q (vidx n s b (ev tm x) (ev tm j)) dst l K tm H else R T Q (.ops l :: K) .normal (put tm dst undef) H := by rw [R_gop rfl, A_idx]; simp only [Nx_nv]
theorem A_slice {s : Nat} {x : Operand} {a b : Option Operand} : aop (.slice s x a b) tm H = (aslice H s (ev tm x) (a.map (ev tm)) (b.map (ev tm))).map (·, H) := rfl
@[simp] theorem S_slice {s : Nat} {x : Operand} {a b : Option Operand} : R T Q (.ops (⟨dst, .slice s x a b, none, sl⟩ :: l) :: K) .normal tm H ↔ Nv T Q (aslice H s (ev tm x) (a.map (ev tm)) (b.map (ev tm))) dst l K tm H := by rw [R_op rfl, A_slice]; exact Nx_nv
@[simp] theorem SG_slice {s : Nat} {x : Operand} {a b : Option Operand} {gt : Nat} {gb : Bool} : R T Q (.ops (⟨dst, .slice s x a b, some (gt, gb), sl⟩ :: l) :: K) .normal tm H ↔ if want tm (some (gt, gb)) = true then Nv T Q (aslice H s (ev tm x) (a.map (ev tm)) (b.map (ev tm))) dst l K tm H else R T Q (.ops l :: K) .normal (put tm dst undef) H := by rw [R_gop rfl, A_slice]; simp only [Nx_nv]
theorem A_len {x : Operand} : aop (.len x) tm H = (vlen (ev tm x)).map (·, H) := by simp only [aop, vlen]; split <;> simp_all
@[simp] theorem S_len {x : Operand} : R T Q (.ops (⟨dst, .len x, none, sl⟩ :: l) :: K) .normal tm H ↔ Nv T Q (vlen (ev tm x)) dst l K tm H := by rw [R_op rfl, A_len]; exact Nx_nv
@[simp] theorem SG_len {x : Operand} {gt : Nat} {gb : Bool} : R T Q (.ops (⟨dst, .len x, some (gt, gb), sl⟩ :: l) :: K) .normal tm H ↔ if want tm (some (gt, gb)) = true then Nv T Q (vlen (ev tm x)) dst l K tm H else R T Q (.ops l :: K) .normal (put tm dst undef) H := by rw [R_gop rfl, A_len]; simp only [Nx_nv]
theorem A_mm {b : Bool} {xs : List Operand} : aop (.mm b xs) tm H = (vmm b (xs.map (ev tm))).map (·, H) := by simp only [aop, vmm]; split <;> simp_all
@[simp] theorem S_mm {b : Bool} {xs : List Operand} : R T Q (.ops (⟨dst, .mm b xs, none, sl⟩ :: l) :: K) .normal tm H ↔ Nv T Q (vmm b (xs.map (ev tm))) dst l K tm H := by rw [R_op rfl, A_mm]; exact Nx_nv
@[simp] theorem SG_mm {b : Bool} {xs : List Operand} {gt : Nat} {gb : Bool} : R T Q (.ops (⟨dst, .mm b xs, some (gt, gb), sl⟩ :: l) :: K) .normal tm H ↔ if want tm (some (gt, gb)) = true then Nv T Q (vmm b (xs.map (ev tm))) dst l K tm H else R T Q (.ops l :: K) .normal (put tm dst undef) H := by rw [R_gop rfl, A_mm]; simp only [Nx_nv]
theorem A_load {n : Nat} {b : Bool} {x : Operand} : aop (.load n b x) tm H = (vload H n b (ev tm x)).map (·, H) := by simp only [aop, vload]; split <;> simp_all <;> (split <;> simp [Option.map_bind])
@[simp] theorem S_load {n : Nat} {b : Bool} {x : Operand} : R T Q (.ops (⟨dst, .load n b x, none, sl⟩ :: l) :: K) .normal tm H ↔ Nv T Q (vload H n b (ev tm x)) dst l K tm H := by rw [R_op rfl, A_load]; exact Nx_nv
@[simp] theorem SG_load {n : Nat} {b : Bool} {x : Operand} {gt : Nat} {gb : Bool} : R T Q (.ops (⟨dst, .load n b x, some (gt, gb), sl⟩ :: l) :: K) .normal tm H ↔ if want tm (some (gt, gb)) = true then Nv T Q (vload H n b (ev tm x)) dst l K tm H else R T Q (.ops l :: K) .normal (put tm dst undef) H := by rw [R_gop rfl, A_load]; simp only [Nx_nv]
theorem A_store {n : Nat} {a x : Operand} : aop (.store n a x) tm H = (hstore n (ev tm a) (ev tm x) H).map (undef, ·) := by simp only [aop, hstore]; split <;> simp_all <;> (split <;> simp_all <;> (split <;> rfl))
@[simp] theorem S_store {n : Nat} {a x : Operand} : R T Q (.ops (⟨dst, .store n a x, none, sl⟩ :: l) :: K) .normal tm H ↔ Nh T Q (hstore n (ev tm a) (ev tm x) H) dst l K tm := by rw [R_op rfl, A_store]; exact Nx_nh
@[simp] theorem SG_store {n : Nat} {a x : Operand} {gt : Nat} {gb : Bool} : R T Q (.ops (⟨dst, .store n a x, some (gt, gb), sl⟩ :: l) :: K) .normal tm H ↔ if want tm (some (gt, gb)) = true then Nh T Q (hstore n (ev tm a) (ev tm x) H) dst l K tm else R T Q (.ops l :: K) .normal (put tm dst undef) H := by rw [R_gop rfl, A_store]; simp only [Nx_nh]
theorem A_alloc {z : List Value} : aop (.alloc z) tm H = (some (.pointer (some ⟨H.length, 0, none⟩), .rw 0 z)).map fun p => (p.1, H ++ [p.2]) := rfl
@[simp] theorem S_alloc {z : List Value} : R T Q (.ops (⟨dst, .alloc z, none, sl⟩ :: l) :: K) .normal tm H ↔ Nn T Q (some (.pointer (some ⟨H.length, 0, none⟩), .rw 0 z)) dst l K tm H := by rw [R_op rfl, A_alloc]; exact Nx_nn
@[simp] theorem SG_alloc {z : List Value} {gt : Nat} {gb : Bool} : R T Q (.ops (⟨dst, .alloc z, some (gt, gb), sl⟩ :: l) :: K) .normal tm H ↔ if want tm (some (gt, gb)) = true then Nn T Q (some (.pointer (some ⟨H.length, 0, none⟩), .rw 0 z)) dst l K tm H else R T Q (.ops l :: K) .normal (put tm dst undef) H := by rw [R_gop rfl, A_alloc]; simp only [Nx_nn]
theorem A_box {x : Operand} : aop (.box x) tm H = (some (.pointer (some ⟨H.length, 0, none⟩), .rw 0 (ev tm x).cells.toList)).map fun p => (p.1, H ++ [p.2]) := rfl
@[simp] theorem S_box {x : Operand} : R T Q (.ops (⟨dst, .box x, none, sl⟩ :: l) :: K) .normal tm H ↔ Nn T Q (some (.pointer (some ⟨H.length, 0, none⟩), .rw 0 (ev tm x).cells.toList)) dst l K tm H := by rw [R_op rfl, A_box]; exact Nx_nn
@[simp] theorem SG_box {x : Operand} {gt : Nat} {gb : Bool} : R T Q (.ops (⟨dst, .box x, some (gt, gb), sl⟩ :: l) :: K) .normal tm H ↔ if want tm (some (gt, gb)) = true then Nn T Q (some (.pointer (some ⟨H.length, 0, none⟩), .rw 0 (ev tm x).cells.toList)) dst l K tm H else R T Q (.ops l :: K) .normal (put tm dst undef) H := by rw [R_gop rfl, A_box]; simp only [Nx_nn]
theorem A_mkslice {s b : Nat} {z : List Value} {n c : Operand} : aop (.mkslice s b z n c) tm H = (hmks s b z (ev tm n) (ev tm c) H.length).map fun p => (p.1, H ++ [p.2]) := by simp only [aop, anew, hmks]; split <;> simp_all
@[simp] theorem S_mkslice {s b : Nat} {z : List Value} {n c : Operand} : R T Q (.ops (⟨dst, .mkslice s b z n c, none, sl⟩ :: l) :: K) .normal tm H ↔ Nn T Q (hmks s b z (ev tm n) (ev tm c) H.length) dst l K tm H := by rw [R_op rfl, A_mkslice]; exact Nx_nn
@[simp] theorem SG_mkslice {s b : Nat} {z : List Value} {n c : Operand} {gt : Nat} {gb : Bool} : R T Q (.ops (⟨dst, .mkslice s b z n c, some (gt, gb), sl⟩ :: l) :: K) .normal tm H ↔ if want tm (some (gt, gb)) = true then Nn T Q (hmks s b z (ev tm n) (ev tm c) H.length) dst l K tm H else R T Q (.ops l :: K) .normal (put tm dst undef) H := by rw [R_gop rfl, A_mkslice]; simp only [Nx_nn]
theorem A_bslice {s n : Nat} {z : List Value} {ps : List (Nat × Nat × Operand)} : aop (.bslice s n z ps) tm H = (hbs s n z (ps.map fun p => (p.1, p.2.1, ev tm p.2.2)) H.length).map fun p => (p.1, H ++ [p.2]) := rfl
@[simp] theorem S_bslice {s n : Nat} {z : List Value} {ps : List (Nat × Nat × Operand)} : R T Q (.ops (⟨dst, .bslice s n z ps, none, sl⟩ :: l) :: K) .normal tm H ↔ Nn T Q (hbs s n z (ps.map fun p => (p.1, p.2.1, ev tm p.2.2)) H.length) dst l K tm H := by rw [R_op rfl, A_bslice]; exact Nx_nn
@[simp] theorem SG_bslice {s n : Nat} {z : List Value} {ps : List (Nat × Nat × Operand)} {gt : Nat} {gb : Bool} : R T Q (.ops (⟨dst, .bslice s n z ps, some (gt, gb), sl⟩ :: l) :: K) .normal tm H ↔ if want tm (some (gt, gb)) = true then Nn T Q (hbs s n z (ps.map fun p => (p.1, p.2.1, ev tm p.2.2)) H.length) dst l K tm H else R T Q (.ops l :: K) .normal (put tm dst undef) H := by rw [R_gop rfl, A_bslice]; simp only [Nx_nn]
theorem A_append {s b : Nat} {x y : Operand} : aop (.append s b x y) tm H = aappend s b (ev tm x) (ev tm y) H := rfl
@[simp] theorem S_append {s b : Nat} {x y : Operand} : R T Q (.ops (⟨dst, .append s b x y, none, sl⟩ :: l) :: K) .normal tm H ↔ Nx T Q (aappend s b (ev tm x) (ev tm y) H) dst l K tm := by rw [R_op rfl, A_append]
@[simp] theorem SG_append {s b : Nat} {x y : Operand} {gt : Nat} {gb : Bool} : R T Q (.ops (⟨dst, .append s b x y, some (gt, gb), sl⟩ :: l) :: K) .normal tm H ↔ if want tm (some (gt, gb)) = true then Nx T Q (aappend s b (ev tm x) (ev tm y) H) dst l K tm else R T Q (.ops l :: K) .normal (put tm dst undef) H := by rw [R_gop rfl, A_append]

/-! ### Regions that draw their order -/
/-- What comes next in them. -/
def Dv (T : FuncId → Option AFunc) (Q : AX → Tm → Hp → Prop) (r : Option Value) (base m : Nat) (all : List DOp) (p : List (Nat × Nat)) (i : Nat) (tr : List St) (dst : Option Nat) (l : List DOp) (K : List Fk) (tm : Tm) (H : Hp) : Prop :=
  ∃ v, r = some v ∧ R T Q (.dops base m all p (i + 1) (tr ++ [(tm, H)]) l :: K) .normal (put tm dst v) H
@[simp] theorem Dv_some {v : Value} : Dv T Q (some v) base m all p i tr dst l K tm H ↔ R T Q (.dops base m all p (i + 1) (tr ++ [(tm, H)]) l :: K) .normal (put tm dst v) H := ⟨fun ⟨_, h, k⟩ => by cases h; exact k, fun h => ⟨_, rfl, h⟩⟩
theorem Dx_dv {r : Option Value} : Dx T Q (r.map (·, H)) base m all p (i + 1) (tr ++ [(tm, H)]) dst l K tm ↔ Dv T Q r base m all p i tr dst l K tm H := by
  cases r with
  | none => exact ⟨fun ⟨_, _, h, _⟩ => by (cases h), fun ⟨_, h, _⟩ => by (cases h)⟩
  | some v => exact Dx_some.trans Dv_some.symm
def Dh (T : FuncId → Option AFunc) (Q : AX → Tm → Hp → Prop) (r : Option Hp) (base m : Nat) (all : List DOp) (p : List (Nat × Nat)) (i : Nat) (tr : List St) (dst : Option Nat) (l : List DOp) (K : List Fk) (tm : Tm) (H : Hp) : Prop :=
  ∃ H1, r = some H1 ∧ R T Q (.dops base m all p (i + 1) (tr ++ [(tm, H)]) l :: K) .normal (put tm dst undef) H1
@[simp] theorem Dh_some {H1 : Hp} : Dh T Q (some H1) base m all p i tr dst l K tm H ↔ R T Q (.dops base m all p (i + 1) (tr ++ [(tm, H)]) l :: K) .normal (put tm dst undef) H1 := ⟨fun ⟨_, h, k⟩ => by cases h; exact k, fun h => ⟨_, rfl, h⟩⟩
theorem Dx_dh {r : Option Hp} : Dx T Q (r.map (undef, ·)) base m all p (i + 1) (tr ++ [(tm, H)]) dst l K tm ↔ Dh T Q r base m all p i tr dst l K tm H := by
  cases r with
  | none => exact ⟨fun ⟨_, _, h, _⟩ => by (cases h), fun ⟨_, h, _⟩ => by (cases h)⟩
  | some v => exact Dx_some.trans Dh_some.symm
def Dn (T : FuncId → Option AFunc) (Q : AX → Tm → Hp → Prop) (r : Option (Value × Blk)) (base m : Nat) (all : List DOp) (p : List (Nat × Nat)) (i : Nat) (tr : List St) (dst : Option Nat) (l : List DOp) (K : List Fk) (tm : Tm) (H : Hp) : Prop :=
  ∃ v b, r = some (v, b) ∧ R T Q (.dops base m all p (i + 1) (tr ++ [(tm, H)]) l :: K) .normal (put tm dst v) (H.set (base + i) b)
@[simp] theorem Dn_some {v : Value} {b : Blk} : Dn T Q (some (v, b)) base m all p i tr dst l K tm H ↔ R T Q (.dops base m all p (i + 1) (tr ++ [(tm, H)]) l :: K) .normal (put tm dst v) (H.set (base + i) b) := ⟨fun ⟨_, _, h, k⟩ => by cases h; exact k, fun h => ⟨_, _, rfl, h⟩⟩
theorem Dx_dn {r : Option (Value × Blk)} : Dx T Q (r.map fun p => (p.1, H.set (base + i) p.2)) base m all p (i + 1) (tr ++ [(tm, H)]) dst l K tm ↔ Dn T Q r base m all p i tr dst l K tm H := by
  cases r with
  | none => exact ⟨fun ⟨_, _, h, _⟩ => by (cases h), fun ⟨_, _, h, _⟩ => by (cases h)⟩
  | some v => exact Dx_some.trans Dn_some.symm
@[simp] theorem D_mv {x : Operand} : R T Q (.dops base m all p i tr (⟨dst, .mv x, none, sl⟩ :: l) :: K) .normal tm H ↔ Dv T Q (some (ev tm x)) base m all p i tr dst l K tm H := by rw [R_dop rfl]; simp only [dstep, want, kindOf, if_true, arun]; rw [A_mv]; exact Dx_dv
@[simp] theorem D_pick {c a b : Operand} : R T Q (.dops base m all p i tr (⟨dst, .pick c a b, none, sl⟩ :: l) :: K) .normal tm H ↔ Dv T Q (vpick (ev tm c) (ev tm a) (ev tm b)) base m all p i tr dst l K tm H := by rw [R_dop rfl]; simp only [dstep, want, kindOf, if_true, arun]; rw [A_pick]; exact Dx_dv
@[simp] theorem D_bin {o : BinOp} {x y : Operand} : R T Q (.dops base m all p i tr (⟨dst, .bin o x y, none, sl⟩ :: l) :: K) .normal tm H ↔ Dv T Q (vbin o (ev tm x) (ev tm y)) base m all p i tr dst l K tm H := by rw [R_dop rfl]; simp only [dstep, want, kindOf, if_true, arun]; rw [A_bin]; exact Dx_dv
@[simp] theorem D_eq {n : Bool} {k : EqK} {x y : Operand} : R T Q (.dops base m all p i tr (⟨dst, .eq n k x y, none, sl⟩ :: l) :: K) .normal tm H ↔ Dv T Q (veq n k (ev tm x) (ev tm y)) base m all p i tr dst l K tm H := by rw [R_dop rfl]; simp only [dstep, want, kindOf, if_true, arun]; rw [A_eq]; exact Dx_dv
@[simp] theorem D_un {o : UnOp} {x : Operand} : R T Q (.dops base m all p i tr (⟨dst, .un o x, none, sl⟩ :: l) :: K) .normal tm H ↔ Dv T Q (vun o (ev tm x)) base m all p i tr dst l K tm H := by rw [R_dop rfl]; simp only [dstep, want, kindOf, if_true, arun]; rw [A_un]; exact Dx_dv
@[simp] theorem D_conv {k : IntKind} {x : Operand} : R T Q (.dops base m all p i tr (⟨dst, .conv k x, none, sl⟩ :: l) :: K) .normal tm H ↔ Dv T Q (vconv k (ev tm x)) base m all p i tr dst l K tm H := by rw [R_dop rfl]; simp only [dstep, want, kindOf, if_true, arun]; rw [A_conv]; exact Dx_dv
@[simp] theorem D_build {z : List Value} {ps : List (Nat × Nat × Operand)} : R T Q (.dops base m all p i tr (⟨dst, .build z ps, none, sl⟩ :: l) :: K) .normal tm H ↔ Dv T Q (vbuild z (ps.map fun p => (p.1, p.2.1, ev tm p.2.2))) base m all p i tr dst l K tm H := by rw [R_dop rfl]; simp only [dstep, want, kindOf, if_true, arun]; rw [A_build]; exact Dx_dv
@[simp] theorem D_extract {x : Operand} {j : Nat} : R T Q (.dops base m all p i tr (⟨dst, .extract x j, none, sl⟩ :: l) :: K) .normal tm H ↔ Dv T Q (vext j (ev tm x)) base m all p i tr dst l K tm H := by rw [R_dop rfl]; simp only [dstep, want, kindOf, if_true, arun]; rw [A_extract]; exact Dx_dv
@[simp] theorem D_field {o n : Nat} {b : Bool} {x : Operand} : R T Q (.dops base m all p i tr (⟨dst, .field o n b x, none, sl⟩ :: l) :: K) .normal tm H ↔ Dv T Q (vfield o n b (ev tm x)) base m all p i tr dst l K tm H := by rw [R_dop rfl]; simp only [dstep, want, kindOf, if_true, arun]; rw [A_field]; exact Dx_dv
@[simp] theorem D_mkfn {f : Fn} {cs : List Operand} : R T Q (.dops base m all p i tr (⟨dst, .mkfn f cs, none, sl⟩ :: l) :: K) .normal tm H ↔ Dv T Q (some (.func f #[] (cs.map (ev tm)).toArray)) base m all p i tr dst l K tm H := by rw [R_dop rfl]; simp only [dstep, want, kindOf, if_true, arun]; rw [A_mkfn]; exact Dx_dv
@[simp] theorem D_iface {t : TypeId} {x : Operand} : R T Q (.dops base m all p i tr (⟨dst, .iface t x, none, sl⟩ :: l) :: K) .normal tm H ↔ Dv T Q (some (.iface t (ev tm x))) base m all p i tr dst l K tm H := by rw [R_dop rfl]; simp only [dstep, want, kindOf, if_true, arun]; rw [A_iface]; exact Dx_dv
@[simp] theorem D_nilchk {x : Operand} : R T Q (.dops base m all p i tr (⟨dst, .nilchk x, none, sl⟩ :: l) :: K) .normal tm H ↔ Dv T Q (vnilchk (ev tm x)) base m all p i tr dst l K tm H := by rw [R_dop rfl]; simp only [dstep, want, kindOf, if_true, arun]; rw [A_nilchk]; exact Dx_dv
@[simp] theorem D_faddr {o : Nat} {x : Operand} : R T Q (.dops base m all p i tr (⟨dst, .faddr o x, none, sl⟩ :: l) :: K) .normal tm H ↔ Dv T Q (vfaddr o (ev tm x)) base m all p i tr dst l K tm H := by rw [R_dop rfl]; simp only [dstep, want, kindOf, if_true, arun]; rw [A_faddr]; exact Dx_dv
@[simp] theorem D_idxs {s : Nat} {x j : Operand} : R T Q (.dops base m all p i tr (⟨dst, .idxs s x j, none, sl⟩ :: l) :: K) .normal tm H ↔ Dv T Q (vidxs s (ev tm x) (ev tm j)) base m all p i tr dst l K tm H := by rw [R_dop rfl]; simp only [dstep, want, kindOf, if_true, arun]; rw [A_idxs]; exact Dx_dv
@[simp] theorem D_idx {n s : Nat} {b : Bool} {x j : Operand} : R T Q (.dops base m all p i tr (⟨dst, .idx n s b x j, none, sl⟩ :: l) :: K) .normal tm H ↔ Dv T Q (vidx n s b (ev tm x) (ev tm j)) base m all p i tr dst l K tm H := by rw [R_dop rfl]; simp only [dstep, want, kindOf, if_true, arun]; rw [A_idx]; exact Dx_dv
@[simp] theorem D_slice {s : Nat} {x : Operand} {a b : Option Operand} : R T Q (.dops base m all p i tr (⟨dst, .slice s x a b, none, sl⟩ :: l) :: K) .normal tm H ↔ Dv T Q (if rdOk base m ⟨dst, .slice s x a b, none, sl⟩ tm = true then aslice H s (ev tm x) (a.map (ev tm)) (b.map (ev tm)) else none) base m all p i tr dst l K tm H := by
  rw [R_dop rfl]; simp only [dstep, want, kindOf, if_true]; rw [A_slice]; split
  · exact Dx_dv
  · exact ⟨fun ⟨_, _, h, _⟩ => by (cases h), fun ⟨_, h, _⟩ => by (cases h)⟩
@[simp] theorem D_len {x : Operand} : R T Q (.dops base m all p i tr (⟨dst, .len x, none, sl⟩ :: l) :: K) .normal tm H ↔ Dv T Q (vlen (ev tm x)) base m all p i tr dst l K tm H := by rw [R_dop rfl]; simp only [dstep, want, kindOf, if_true, arun]; rw [A_len]; exact Dx_dv
@[simp] theorem D_mm {b : Bool} {xs : List Operand} : R T Q (.dops base m all p i tr (⟨dst, .mm b xs, none, sl⟩ :: l) :: K) .normal tm H ↔ Dv T Q (vmm b (xs.map (ev tm))) base m all p i tr dst l K tm H := by rw [R_dop rfl]; simp only [dstep, want, kindOf, if_true, arun]; rw [A_mm]; exact Dx_dv
@[simp] theorem D_load {n : Nat} {b : Bool} {x : Operand} : R T Q (.dops base m all p i tr (⟨dst, .load n b x, none, sl⟩ :: l) :: K) .normal tm H ↔ Dv T Q (if rdOk base m ⟨dst, .load n b x, none, sl⟩ tm = true then vload H n b (ev tm x) else none) base m all p i tr dst l K tm H := by
  rw [R_dop rfl]; simp only [dstep, want, kindOf, if_true]; rw [A_load]; split
  · exact Dx_dv
  · exact ⟨fun ⟨_, _, h, _⟩ => by (cases h), fun ⟨_, h, _⟩ => by (cases h)⟩
@[simp] theorem D_store {n : Nat} {a x : Operand} : R T Q (.dops base m all p i tr (⟨dst, .store n a x, none, sl⟩ :: l) :: K) .normal tm H ↔ Dh T Q (hstore n (ev tm a) (ev tm x) H) base m all p i tr dst l K tm H := by rw [R_dop rfl]; simp only [dstep, want, kindOf, if_true, arun]; rw [A_store]; exact Dx_dh
theorem AN_alloc {z : List Value} {k : Nat} : anew (.alloc z) tm k = some (.pointer (some ⟨k, 0, none⟩), .rw 0 z) := rfl
@[simp] theorem D_alloc {z : List Value} : R T Q (.dops base m all p i tr (⟨dst, .alloc z, none, sl⟩ :: l) :: K) .normal tm H ↔ Dn T Q (some (.pointer (some ⟨(base + i), 0, none⟩), .rw 0 z)) base m all p i tr dst l K tm H := by rw [R_dop rfl]; simp only [dstep, want, kindOf, if_true]; rw [AN_alloc]; exact Dx_dn
theorem AN_box {x : Operand} {k : Nat} : anew (.box x) tm k = some (.pointer (some ⟨k, 0, none⟩), .rw 0 (ev tm x).cells.toList) := rfl
@[simp] theorem D_box {x : Operand} : R T Q (.dops base m all p i tr (⟨dst, .box x, none, sl⟩ :: l) :: K) .normal tm H ↔ Dn T Q (some (.pointer (some ⟨(base + i), 0, none⟩), .rw 0 (ev tm x).cells.toList)) base m all p i tr dst l K tm H := by rw [R_dop rfl]; simp only [dstep, want, kindOf, if_true]; rw [AN_box]; exact Dx_dn
theorem AN_mkslice {s b : Nat} {z : List Value} {n c : Operand} {k : Nat} : anew (.mkslice s b z n c) tm k = hmks s b z (ev tm n) (ev tm c) k := by simp only [anew, hmks]; split <;> simp_all
@[simp] theorem D_mkslice {s b : Nat} {z : List Value} {n c : Operand} : R T Q (.dops base m all p i tr (⟨dst, .mkslice s b z n c, none, sl⟩ :: l) :: K) .normal tm H ↔ Dn T Q (hmks s b z (ev tm n) (ev tm c) (base + i)) base m all p i tr dst l K tm H := by rw [R_dop rfl]; simp only [dstep, want, kindOf, if_true]; rw [AN_mkslice]; exact Dx_dn
theorem AN_bslice {s n : Nat} {z : List Value} {ps : List (Nat × Nat × Operand)} {k : Nat} : anew (.bslice s n z ps) tm k = hbs s n z (ps.map fun p => (p.1, p.2.1, ev tm p.2.2)) k := rfl
@[simp] theorem D_bslice {s n : Nat} {z : List Value} {ps : List (Nat × Nat × Operand)} : R T Q (.dops base m all p i tr (⟨dst, .bslice s n z ps, none, sl⟩ :: l) :: K) .normal tm H ↔ Dn T Q (hbs s n z (ps.map fun p => (p.1, p.2.1, ev tm p.2.2)) (base + i)) base m all p i tr dst l K tm H := by rw [R_dop rfl]; simp only [dstep, want, kindOf, if_true]; rw [AN_bslice]; exact Dx_dn
@[simp] theorem D_append {s b : Nat} {x y : Operand} : R T Q (.dops base m all p i tr (⟨dst, .append s b x y, none, sl⟩ :: l) :: K) .normal tm H ↔ Dx T Q (aappend s b (ev tm x) (ev tm y) H) base m all p (i + 1) (tr ++ [(tm, H)]) dst l K tm := by rw [R_dop rfl]; simp only [dstep, want, kindOf, if_true, arun]; rw [A_append]
@[simp] theorem want_some (t : Nat) (b c : Bool) (h : tm t = .bool c) : want tm (some (t, b)) = (c == b) := by simp only [want, h]
end
end Go.Ab


/- Values of the abstract machine for simp; slices and the heap. Own work. -/
namespace Go.Ab
open Go

attribute [simp] R_done R_skip R_seq R_region R_block R_exit R_ret R_nil R_endn R_past_ret R_past_exit R_end_ret R_end_exit R_cond Br_true Br_false Nx_some Dx_some R_dnil

/-- A whole number of Go's type int. -/
abbrev vi (n : Int) : Value := .int .i64 n
section
variable (a b : Int)
@[simp] theorem V_add : vbin .add (vi a) (vi b) = some (vi (IntKind.i64.wrap (a + b))) := rfl
@[simp] theorem V_sub : vbin .sub (vi a) (vi b) = some (vi (IntKind.i64.wrap (a - b))) := rfl
@[simp] theorem V_mul : vbin .mul (vi a) (vi b) = some (vi (IntKind.i64.wrap (a * b))) := rfl
@[simp] theorem V_rem : vbin .rem (vi a) (vi b) = if b = 0 then none else some (vi (a.tmod b)) := rfl
@[simp] theorem V_quo : vbin .quo (vi a) (vi b) = if b = 0 then none else some (vi (IntKind.i64.wrap (a.tdiv b))) := rfl
@[simp] theorem V_lss : vbin .lss (vi a) (vi b) = some (.bool (decide (a < b))) := rfl
@[simp] theorem V_leq : vbin .leq (vi a) (vi b) = some (.bool (decide (a ≤ b))) := rfl
@[simp] theorem V_gtr : vbin .gtr (vi a) (vi b) = some (.bool (decide (b < a))) := rfl
@[simp] theorem V_geq : vbin .geq (vi a) (vi b) = some (.bool (decide (b ≤ a))) := rfl
@[simp] theorem V_eql : vbin .eql (vi a) (vi b) = some (.bool (decide (a = b))) := rfl
@[simp] theorem V_neq : vbin .neq (vi a) (vi b) = some (.bool (decide (a ≠ b))) := by
  show some (Value.bool (a != b)) = _
  congr 2
  by_cases h : a = b <;> simp [h, bne]
theorem V_wrap {n : Int} (h1 : -9223372036854775808 ≤ n) (h2 : n ≤ 9223372036854775807) : IntKind.i64.wrap n = n := by rw [IntKind.wrap_i64]; omega
end
@[simp] theorem V_eqb (neg a b : Bool) : veq neg .bool (.bool a) (.bool b) = some (.bool (if neg then !(a == b) else (a == b))) := rfl
@[simp] theorem V_pick (t : Bool) (a b : Value) : vpick (.bool t) a b = some (if t then a else b) := rfl
@[simp] theorem V_not (t : Bool) : vun .not (.bool t) = some (.bool !t) := rfl
@[simp] theorem V_ext (i : Nat) (vs : Array Value) : vext i (.tuple vs) = vs[i]? := rfl
@[simp] theorem V_nilchk (a : Addr) : vnilchk (.pointer (some a)) = some (.pointer (some a)) := rfl
@[simp] theorem V_faddr (off : Nat) (b o : Nat) : vfaddr off (.pointer (some ⟨b, o, none⟩)) = some (.pointer (some ⟨b, o + off, none⟩)) := rfl
@[simp] theorem V_idxs (sz b o n m : Nat) (j : Int) : vidxs sz (.slice (some ⟨b, o, none⟩) n m) (vi j) = if 0 ≤ j ∧ j < n then some (.pointer (some ⟨b, o + j.toNat * sz, none⟩)) else none := rfl
@[simp] theorem V_len (a : Option Addr) (n m : Nat) : vlen (.slice a n m) = some (vi n) := rfl
@[simp] theorem V_load1 (H : Hp) (b o : Nat) : vload H 1 false (.pointer (some ⟨b, o, none⟩)) = (H.cells b).bind fun vs => vs[o]? := by
  simp only [vload, Option.isNone_none, if_true, Hp.load]
  cases H.cells b with
  | none => rfl
  | some vs =>
    simp only [Option.bind_some]
    by_cases h : o + 1 ≤ vs.length
    · rw [if_pos h]
      have h' : o < vs.length := h
      simp only [Option.bind_some, mkv, List.getElem?_eq_getElem h']
      rw [List.drop_eq_getElem_cons h']
      rfl
    · rw [if_neg h, List.getElem?_eq_none (by omega)]; rfl
theorem V_loadn (H : Hp) (n b o : Nat) : vload H n true (.pointer (some ⟨b, o, none⟩)) = (H.cells b).bind fun vs => if o + n ≤ vs.length then some (.agg ((vs.drop o).take n).toArray) else none := by
  simp only [vload, Option.isNone_none, if_true, Hp.load]
  cases H.cells b with
  | none => rfl
  | some vs =>
    simp only [Option.bind_some]
    by_cases h : o + n ≤ vs.length
    · rw [if_pos h, if_pos h]; rfl
    · rw [if_neg h, if_neg h]; rfl
attribute [simp] V_loadn

/-! ### The heap -/
@[simp] theorem cells_last (H : Hp) (x : Blk) : Hp.cells (H ++ [x]) H.length = x.cells := by simp [Hp.cells]
theorem get_left {H : Hp} {L : List Blk} {b : Nat} (h : b < H.length) : (H ++ L)[b]? = H[b]? := List.getElem?_append_left h
theorem get_at {H : Hp} {x : Blk} {b : Nat} (h : b = H.length) : (H ++ [x])[b]? = some x := by subst h; simp
theorem get_other {H : Hp} {x : Blk} {b c : Nat} (h : b ≠ c) : (H.set c x)[b]? = H[b]? := List.getElem?_set_ne (fun e => h e.symm)
theorem get_same {H : Hp} {x : Blk} {b : Nat} (h : b < H.length) : (H.set b x)[b]? = some x := by simp [h]
theorem cells_of {H : Hp} {b : Nat} {x : Blk} (h : H[b]? = some x) : Hp.cells H b = x.cells := by simp [Hp.cells, h]
@[simp] theorem rw_cells (z : Nat) (vs : List Value) : (Blk.rw z vs).cells = some vs := rfl
@[simp] theorem ro_cells (z : Nat) (vs : List Value) : (Blk.ro z vs).cells = some vs := rfl
@[simp] theorem agg_cells (cs : Array Value) : (Value.agg cs).cells = cs := rfl
@[simp] theorem int_cells (k : IntKind) (n : Int) : (Value.int k n).cells = #[.int k n] := rfl
@[simp] theorem bool_cells (b : Bool) : (Value.bool b).cells = #[.bool b] := rfl
@[simp] theorem slice_cells (a : Option Addr) (n m : Nat) : (Value.slice a n m).cells = #[.slice a n m] := rfl
@[simp] theorem ptr_cells (a : Option Addr) : (Value.pointer a).cells = #[.pointer a] := rfl

@[simp] theorem V_load_res (H : Hp) (tm : Tm) (t n : Nat) (agg : Bool) : ares tm H (.cell t n agg) = vload H n agg (tm t) := by
  simp only [ares, vload]; split <;> simp_all
@[simp] theorem ares_tmp (H : Hp) (tm : Tm) (t : Nat) : ares tm H (.tmp t) = some (tm t) := rfl
@[simp] theorem ares_one (H : Hp) (tm : Tm) (a : ARes) : aresults [a] tm H = ares tm H a := by
  simp only [aresults, List.mapM_cons, List.mapM_nil]; cases ares tm H a <;> rfl
@[simp] theorem ares_two (H : Hp) (tm : Tm) (t u : Nat) : aresults [.tmp t, .tmp u] tm H = some (.tuple #[tm t, tm u]) := rfl
@[simp] theorem ares_three (H : Hp) (tm : Tm) (t u w : Nat) : aresults [.tmp t, .tmp u, .tmp w] tm H = some (.tuple #[tm t, tm u, tm w]) := rfl
@[simp] theorem one_int (k : IntKind) (n : Int) : (Value.int k n).oneCell' = true := rfl
@[simp] theorem one_bool (b : Bool) : (Value.bool b).oneCell' = true := rfl
@[simp] theorem one_slice (a : Option Addr) (n m : Nat) : (Value.slice a n m).oneCell' = true := rfl
@[simp] theorem one_ptr (a : Option Addr) : (Value.pointer a).oneCell' = true := rfl
/-- The heap goes on: what was there below n is there still. -/
def Ext (n : Nat) (H H' : Hp) : Prop := H.length ≤ H'.length ∧ ∀ b : Nat, b < n → H'[b]? = H[b]?
theorem Ext.refl (n : Nat) (H : Hp) : Ext n H H := ⟨Nat.le_refl _, fun _ _ => rfl⟩
theorem Ext.trans {n m : Nat} {A B C : Hp} (h : Ext n A B) (k : Ext m B C) (hn : n ≤ m) : Ext n A C := ⟨Nat.le_trans h.1 k.1, fun b hb => (k.2 b (Nat.lt_of_lt_of_le hb hn)).trans (h.2 b hb)⟩
theorem Ext.app {n : Nat} (H : Hp) (L : List Blk) (hn : n ≤ H.length) : Ext n H (H ++ L) := ⟨by simp, fun b hb => get_left (Nat.lt_of_lt_of_le hb hn)⟩
theorem Ext.set {n b : Nat} (H : Hp) (x : Blk) (hb : n ≤ b) : Ext n H (H.set b x) := ⟨by simp, fun c hc => get_other (by omega)⟩
theorem Ext.get {n b : Nat} {H H' : Hp} (h : Ext n H H') (hb : b < n) : H'[b]? = H[b]? := h.2 b hb
theorem Ext.cells {n b : Nat} {H H' : Hp} (h : Ext n H H') (hb : b < n) : H'.cells b = H.cells b := by simp only [Hp.cells, h.2 b hb]

/-! ### Slices -/
/-- A slice of cells: v stands for the cells cs, of elements of size sz; ok: its block fulfils p. -/
structure Arr (H : Hp) (sz : Nat) (p : Nat → Prop) (v : Value) (cs : List Value) : Prop where
  at' : (v = .slice none 0 0 ∧ cs = []) ∨ ∃ b o n us, v = .slice (some ⟨b, o, none⟩) n n ∧ H.cells b = some us ∧ H.esz b = some sz ∧ o + n * sz ≤ us.length ∧ cs = (us.drop o).take (n * sz) ∧ p b
theorem Arr.nil (H : Hp) (sz : Nat) (p : Nat → Prop) : Arr H sz p (.slice none 0 0) [] := ⟨.inl ⟨rfl, rfl⟩⟩
theorem Arr.mono {H : Hp} {sz : Nat} {p q : Nat → Prop} {v : Value} {cs : List Value} (h : Arr H sz p v cs) (hp : ∀ b, p b → q b) : Arr H sz q v cs := by
  rcases h.at' with ⟨h1, h2⟩ | ⟨b, o, n, us, h1, h2, h3, h4, h5, h6⟩
  · exact ⟨.inl ⟨h1, h2⟩⟩
  · exact ⟨.inr ⟨b, o, n, us, h1, h2, h3, h4, h5, hp b h6⟩⟩
theorem Arr.congr {H H' : Hp} {sz : Nat} {p : Nat → Prop} {v : Value} {cs : List Value} (h : Arr H sz p v cs) (hh : ∀ b, p b → b < H.length → H'[b]? = H[b]?) : Arr H' sz p v cs := by
  rcases h.at' with ⟨h1, h2⟩ | ⟨b, o, n, us, h1, h2, h3, h4, h5, h6⟩
  · exact ⟨.inl ⟨h1, h2⟩⟩
  · have hb : b < H.length := by
      rcases Nat.lt_or_ge b H.length with h | h
      · exact h
      · simp [Hp.cells, List.getElem?_eq_none h] at h2
    have := hh b h6 hb
    exact ⟨.inr ⟨b, o, n, us, h1, by simpa only [Hp.cells, this] using h2, by simpa only [Hp.esz, this] using h3, h4, h5, h6⟩⟩
theorem Arr.one {H : Hp} {sz : Nat} {p : Nat → Prop} {v : Value} {cs : List Value} (h : Arr H sz p v cs) : v.cells = #[v] ∧ v.oneCell' = true := by
  rcases h.at' with ⟨rfl, rfl⟩ | ⟨b, o, n, us, rfl, h2, h3, h4, rfl, h6⟩ <;> exact ⟨rfl, rfl⟩
/-- Slices with elements of one cell. -/
theorem Arr.len {H : Hp} {p : Nat → Prop} {v : Value} {cs : List Value} (h : Arr H 1 p v cs) : vlen v = some (vi cs.length) := by
  rcases h.at' with ⟨rfl, rfl⟩ | ⟨b, o, n, us, rfl, h2, h3, h4, rfl, h6⟩
  · rfl
  · simp; omega
theorem Arr.get {H : Hp} {p : Nat → Prop} {v : Value} {cs : List Value} (h : Arr H 1 p v cs) {j : Nat} {u : Value} (hj : cs[j]? = some u) :
    ∃ b o, vidxs 1 v (vi j) = some (.pointer (some ⟨b, o, none⟩)) ∧ (∃ us, H.cells b = some us ∧ us[o]? = some u) ∧ p b := by
  rcases h.at' with ⟨rfl, rfl⟩ | ⟨b, o, n, us, rfl, h2, h3, h4, rfl, h6⟩
  · simp at hj
  · rw [List.getElem?_take] at hj
    split at hj
    · rename_i hlt
      rw [List.getElem?_drop] at hj
      refine ⟨b, o + j, ?_, ⟨us, h2, hj⟩, h6⟩
      rw [V_idxs, if_pos (by omega)]
      simp
    · cases hj
theorem Arr.mid {H : Hp} {p : Nat → Prop} {v : Value} {cs : List Value} (h : Arr H 1 p v cs) {a c : Nat} (hc : c ≤ cs.length) (ha : a ≤ c) :
    ∃ v', aslice H 1 v (some (vi a)) (some (vi c)) = some v' ∧ Arr H 1 p v' ((cs.take c).drop a) := by
  rcases h.at' with ⟨rfl, rfl⟩ | ⟨b, o, n, us, rfl, h2, h3, h4, rfl, h6⟩
  · simp at hc; subst hc
    obtain rfl : a = 0 := by omega
    exact ⟨.slice none 0 0, rfl, by simpa using Arr.nil H 1 p⟩
  · have hcn : c ≤ n := by simp at hc; omega
    refine ⟨.slice (some ⟨b, o + a, none⟩) (c - a) (c - a), ?_, ⟨.inr ⟨b, o + a, c - a, us, rfl, h2, h3, by omega, ?_, h6⟩⟩⟩
    · have hbl : H.blind ⟨b, o, none⟩ (n * 1) = false := by unfold Hp.blind; simp only [h2]; simp; omega
      simp only [aslice, h3, asNat, hbl]
      simp [hcn, ha]
    · rw [List.take_take, List.drop_take, List.drop_drop]
      congr 1
      omega
theorem aslice_lo {H : Hp} {p : Nat → Prop} {v : Value} {cs : List Value} (h : Arr H 1 p v cs) (x : Option Value) : aslice H 1 v none x = aslice H 1 v (some (vi (0 : Nat))) x := by
  rcases h.at' with ⟨rfl, rfl⟩ | ⟨b, o, n, us, rfl, h2, h3, h4, rfl, h6⟩
  · simp only [aslice, asNat]; cases asNat 0 0 x 0 <;> simp
  · simp only [aslice, asNat, h3]; cases asNat 0 n x n <;> simp
theorem aslice_hi {H : Hp} {p : Nat → Prop} {v : Value} {cs : List Value} (h : Arr H 1 p v cs) (x : Option Value) : aslice H 1 v x none = aslice H 1 v x (some (vi cs.length)) := by
  rcases h.at' with ⟨rfl, rfl⟩ | ⟨b, o, n, us, rfl, h2, h3, h4, rfl, h6⟩
  · rfl
  · have : ((us.drop o).take (n * 1)).length = n := by simp; omega
    rw [this]
    simp [aslice, asNat, h3]
theorem Arr.drop {H : Hp} {p : Nat → Prop} {v : Value} {cs : List Value} (h : Arr H 1 p v cs) {a : Nat} (ha : a ≤ cs.length) :
    ∃ v', aslice H 1 v (some (vi a)) none = some v' ∧ Arr H 1 p v' (cs.drop a) := by
  rw [aslice_hi h]
  obtain ⟨v', h1, h2⟩ := h.mid (Nat.le_refl _) ha
  exact ⟨v', h1, by simpa using h2⟩
theorem Arr.take {H : Hp} {p : Nat → Prop} {v : Value} {cs : List Value} (h : Arr H 1 p v cs) {c : Nat} (hc : c ≤ cs.length) :
    ∃ v', aslice H 1 v none (some (vi c)) = some v' ∧ Arr H 1 p v' (cs.take c) := by
  rw [aslice_lo h]
  obtain ⟨v', h1, h2⟩ := h.mid hc (Nat.zero_le _)
  exact ⟨v', h1, by simpa using h2⟩
/-- Something is appended. -/
theorem Arr.append {H : Hp} {p q : Nat → Prop} {s x : Value} {old new : List Value} {bytes : Nat} (hs : Arr H 1 p s old) (hx : Arr H 1 q x new) (hn : new ≠ [])
    (hrw : ∀ b, p b → ∃ vs, H[b]? = some (.rw 1 vs)) (hone : new.all Value.oneCell' = true) (hb : (old.length + new.length) * bytes ≤ 140737488355328) :
    ∃ v H', aappend 1 bytes s x H = some (v, H') ∧ H' = (match s with | .slice (some a) _ _ => H.set a.block .dead | _ => H) ++ [.rw 1 (old ++ new)] ∧ v = .slice (some ⟨H.length, 0, none⟩) (old.length + new.length) (old.length + new.length) := by
  have hxs : slcells H 1 x = some (new.length, new) := by
    rcases hx.at' with ⟨rfl, rfl⟩ | ⟨b, o, n, us, rfl, h2, h3, h4, rfl, h6⟩
    · exact absurd rfl hn
    · simp only [slcells, Option.isNone_none, if_true, Hp.load, h2, if_pos h4, Option.map_some]
      simp; omega
  have hl : new.length ≠ 0 := fun e => hn (List.eq_nil_of_length_eq_zero e)
  rcases hs.at' with ⟨rfl, rfl⟩ | ⟨b, o, n, us, rfl, h2, h3, h4, rfl, h6⟩
  · refine ⟨_, _, ?_, rfl, rfl⟩
    simp only [aappend, hxs, if_neg hl]
    rw [if_pos ⟨by simpa using hb, hone⟩]
    simp
  · obtain ⟨vs, hvs⟩ := hrw b h6
    have hcs : slcells H 1 (.slice (some ⟨b, o, none⟩) n n) = some (n, (us.drop o).take (n * 1)) := by
      simp only [slcells, Option.isNone_none, if_true, Hp.load, h2, if_pos h4, Option.map_some]
    have hlen : ((us.drop o).take (n * 1)).length = n := by simp; omega
    refine ⟨_, _, ?_, rfl, rfl⟩
    simp only [aappend, hxs, if_neg hl, hvs, hcs]
    rw [if_pos ⟨trivial, trivial, by rw [hlen] at hb; exact hb, hone⟩, hlen]
end Go.Ab

/- Slices that a function builds itself. Own work. -/
namespace Go.Ab
open Go

theorem lt_of_get {H : Hp} {b : Nat} {x : Blk} (h : H[b]? = some x) : b < H.length := (List.getElem?_eq_some_iff.1 h).1
/-- A slice of its own: nothing, or a whole block from number n on. -/
def Own (n : Nat) (H : Hp) (v : Value) (cs : List Value) : Prop :=
  (v = .slice none 0 0 ∧ cs = []) ∨ ∃ b, n ≤ b ∧ v = .slice (some ⟨b, 0, none⟩) cs.length cs.length ∧ H[b]? = some (.rw 1 cs)
/-- Its block. -/
def blkOf : Value → Option Nat
  | .slice (some a) _ _ => some a.block
  | _ => none
theorem Own.nil (n : Nat) (H : Hp) : Own n H (.slice none 0 0) [] := .inl ⟨rfl, rfl⟩
theorem Own.arr {n : Nat} {H : Hp} {v : Value} {cs : List Value} (h : Own n H v cs) : Arr H 1 (fun b => n ≤ b ∧ blkOf v = some b) v cs := by
  rcases h with ⟨rfl, rfl⟩ | ⟨b, hb, rfl, h⟩
  · exact .nil ..
  · exact ⟨.inr ⟨b, 0, _, cs, rfl, by simp [Hp.cells, h], by simp [Hp.esz, h, Blk.esz], by simp, by simp, hb, rfl⟩⟩
theorem Own.congr {n : Nat} {H H' : Hp} {v : Value} {cs : List Value} (h : Own n H v cs) (k : ∀ b, blkOf v = some b → b < H.length → H'[b]? = H[b]?) : Own n H' v cs := by
  rcases h with ⟨rfl, rfl⟩ | ⟨b, hb, rfl, h⟩
  · exact .nil ..
  · exact .inr ⟨b, hb, rfl, (k b rfl (lt_of_get h)).trans h⟩
theorem Own.lt {n : Nat} {H : Hp} {v : Value} {cs : List Value} (h : Own n H v cs) {b : Nat} (k : blkOf v = some b) : n ≤ b ∧ b < H.length := by
  rcases h with ⟨rfl, rfl⟩ | ⟨b, hb, rfl, h⟩
  · cases k
  · cases k; exact ⟨hb, lt_of_get h⟩
theorem Own.len {n : Nat} {H : Hp} {v : Value} {cs : List Value} (h : Own n H v cs) : vlen v = some (vi cs.length) := h.arr.len
theorem Own.one {n : Nat} {H : Hp} {v : Value} {cs : List Value} (h : Own n H v cs) : v.cells = #[v] ∧ v.oneCell' = true := h.arr.one

theorem R_draw' {T : FuncId → Option AFunc} {Q : AX → Tm → Hp → Prop} {K : List Fk} {tm : Tm} {H : Hp} {l : List DOp} {p : List (Nat × Nat)}
    (k : ∀ Hd : Hp, Hd.length = H.length + l.length → (∀ b : Nat, b < H.length → Hd[b]? = H[b]?) → (∀ b : Nat, H.length ≤ b → b < H.length + l.length → Hd[b]? = some .dead) →
      R T Q (.dops H.length l.length l p 0 [] l :: K) .normal tm Hd) : R T Q (.code (.draw l p) :: K) .normal tm H := by
  rw [R_draw]
  refine k _ (by simp) (fun b hb => get_left hb) (fun b hb hb' => ?_)
  rw [List.getElem?_append_right hb, List.getElem?_replicate, if_pos (by omega)]
section
variable {T : FuncId → Option AFunc} {Q : AX → Tm → Hp → Prop} {K : List Fk} {tm : Tm} {H : Hp} {l : List DOp} {base m i : Nat} {all : List DOp} {p : List (Nat × Nat)} {tr : List St} {dst : Option Nat} {o : AOp} {g : Nat × Bool} {sl : List Nat}
theorem dstep_want (h : want tm (some g) = true) (call : CallF) : dstep call base m i ⟨dst, o, some g, sl⟩ (tm, H) = dstep call base m i ⟨dst, o, none, sl⟩ (tm, H) := by
  simp only [dstep, h, if_true]
  rfl
/-- A guarded operation that is carried out. -/
@[simp] theorem R_dwant (h : want tm (some g) = true) : R T Q (.dops base m all p i tr (⟨dst, o, some g, sl⟩ :: l) :: K) .normal tm H ↔ R T Q (.dops base m all p i tr (⟨dst, o, none, sl⟩ :: l) :: K) .normal tm H := by
  constructor
  · intro k
    cases k with
    | dop ho k => obtain ⟨n, hn⟩ := ho; exact .dop ⟨n, fun q hq => (dstep_want h _).symm.trans (hn q hq)⟩ k
    | past hx hk k => exact absurd rfl hx
  · intro k
    cases k with
    | dop ho k => obtain ⟨n, hn⟩ := ho; exact .dop ⟨n, fun q hq => (dstep_want h _).trans (hn q hq)⟩ k
    | past hx hk k => exact absurd rfl hx
/-- One that is not. -/
theorem R_dnot (h : want tm (some g) = false) (k : R T Q (.dops base m all p (i + 1) (tr ++ [(tm, H)]) l :: K) .normal (put tm dst undef) H) : R T Q (.dops base m all p i tr (⟨dst, o, some g, sl⟩ :: l) :: K) .normal tm H :=
  .dop ⟨0, fun n _ => by simp only [dstep, h]; rfl⟩ k
/-- A guarded call that is carried out. -/
theorem R_want (h : want tm (some g) = true) (k : R T Q (.ops (⟨dst, o, none, sl⟩ :: l) :: K) .normal tm H) : R T Q (.ops (⟨dst, o, some g, sl⟩ :: l) :: K) .normal tm H := by
  cases k with
  | op hg ho k => exact .op h ho k
  | nop hg k => cases hg
  | past hx hk k => exact absurd rfl hx
end
theorem vsame1_slice (a : Option Addr) (n m : Nat) : vsame1 (.slice a n m) (.slice a n m) = true := by simp [vsame1]
theorem Arr.same {H : Hp} {sz : Nat} {p : Nat → Prop} {v : Value} {cs : List Value} (h : Arr H sz p v cs) : vsame v v = true := by
  rcases h.at' with ⟨rfl, rfl⟩ | ⟨b, o, n, us, rfl, h2, h3, h4, rfl, h6⟩ <;> (unfold vsame; exact vsame1_slice ..)
@[simp] theorem vsame1_int (k : IntKind) (n : Int) : vsame1 (.int k n) (.int k n) = true := by simp [vsame1]
end Go.Ab
