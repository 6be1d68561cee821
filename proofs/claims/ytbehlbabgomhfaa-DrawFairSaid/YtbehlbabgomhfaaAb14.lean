/- Reasoning about the abstract machine: runs of functions and of code. Own work. -/
import Derived.Test.YtbehlbabgomhfaaAb13
namespace Go.Ab
open Go

class Has (T : FuncId → Option AFunc) (i : FuncId) (F : outParam AFunc) : Prop where
  eq : T i = some F

/-- With enough fuel the call comes to r and the heap to H'. -/
def Runs (T : FuncId → Option AFunc) (f : FuncId) (args : List Value) (H : Hp) (r : Value) (H' : Hp) : Prop :=
  ∃ n0, ∀ n, n0 ≤ n → callF T n f args H = some (r, H')
/-- With enough fuel the code comes to x and to the state s'. -/
def CR (T : FuncId → Option AFunc) (c : ACode) (s : St) (x : AX) (s' : St) : Prop :=
  ∃ n0, ∀ n, n0 ≤ n → acode (callF T n) n c s = some (x, s')
/-- The rounds of a loop. -/
def LR (T : FuncId → Option AFunc) (c : ACode) (s : St) (x : AX) (s' : St) : Prop :=
  ∃ n0, ∀ n m, n0 ≤ n → n0 ≤ m → iter (acode (callF T n) n c) m s = some (x, s')
/-- Operations in the order of the text. -/
def RR (T : FuncId → Option AFunc) (ops : List DOp) (s s' : St) : Prop :=
  ∃ n0, ∀ n, n0 ≤ n → aregion (callF T n) ops s = some s'

section
variable {T : FuncId → Option AFunc} {s s1 s2 s' : St} {x : AX}

theorem Runs.mk {f : FuncId} {F : AFunc} [h : Has T f F] {args : List Value} {H H' : Hp} {r : Value} {x : AX} {tm : Tm} (hc : CR T F.body (initTm args, H) x (tm, H')) (hx : x = .normal ∨ x = .ret)
    (hr : aresults F.results tm H' = some r) : Runs T f args H r H' := by
  obtain ⟨n0, hn⟩ := hc
  refine ⟨n0 + 1, fun n hle => ?_⟩
  obtain ⟨m, rfl⟩ : ∃ m, n = m + 1 := ⟨n - 1, by omega⟩
  have := hn m (by omega)
  simp only [callF, h.eq, this]
  rcases hx with rfl | rfl <;> simp [hr]

theorem CR.seq {a b : ACode} (h1 : CR T a s .normal s1) (h2 : CR T b s1 x s') : CR T (.seq a b) s x s' := by
  obtain ⟨n1, h1⟩ := h1
  obtain ⟨n2, h2⟩ := h2
  exact ⟨max n1 n2, fun n hn => by simp only [acode, h1 n (by omega)]; exact h2 n (by omega)⟩
theorem CR.seq_out {a b : ACode} (h1 : CR T a s x s') (hx : x ≠ .normal) : CR T (.seq a b) s x s' := by
  obtain ⟨n1, h1⟩ := h1
  refine ⟨n1, fun n hn => ?_⟩
  simp only [acode, h1 n hn]
  cases x <;> first | rfl | exact absurd rfl hx
theorem CR.cond {c : Operand} {a b : ACode} {t : Bool} (hc : ev s.1 c = .bool t) (h : CR T (if t then a else b) s x s') : CR T (.cond c a b) s x s' := by
  obtain ⟨n1, h1⟩ := h
  refine ⟨n1, fun n hn => ?_⟩
  have := h1 n hn
  simp only [acode, hc]
  cases t <;> exact this
theorem CR.block {id : Nat} {c : ACode} (h : CR T c s .normal s') : CR T (.block id c) s .normal s' := by
  obtain ⟨n1, h1⟩ := h
  exact ⟨n1, fun n hn => by simp only [acode, h1 n hn]⟩
theorem CR.block_exit {id : Nat} {c : ACode} (h : CR T c s (.exit id) s') : CR T (.block id c) s .normal s' := by
  obtain ⟨n1, h1⟩ := h
  exact ⟨n1, fun n hn => by simp only [acode, h1 n hn, if_true]⟩
theorem CR.block_out {id j : Nat} {c : ACode} (h : CR T c s (.exit j) s') (hj : j ≠ id) : CR T (.block id c) s (.exit j) s' := by
  obtain ⟨n1, h1⟩ := h
  exact ⟨n1, fun n hn => by simp only [acode, h1 n hn, if_neg hj]⟩
theorem CR.block_ret {id : Nat} {c : ACode} (h : CR T c s .ret s') : CR T (.block id c) s .ret s' := by
  obtain ⟨n1, h1⟩ := h
  exact ⟨n1, fun n hn => by simp only [acode, h1 n hn]⟩
theorem CR.loop {c : ACode} (h : LR T c s x s') : CR T (.loop c) s x s' := by
  obtain ⟨n1, h1⟩ := h
  exact ⟨n1, fun n hn => by simp only [acode]; exact h1 n n hn hn⟩
theorem LR.step {c : ACode} (h1 : CR T c s .normal s1) (h2 : LR T c s1 x s') : LR T c s x s' := by
  obtain ⟨n1, h1⟩ := h1
  obtain ⟨n2, h2⟩ := h2
  refine ⟨max n1 n2 + 1, fun n m hn hm => ?_⟩
  obtain ⟨k, rfl⟩ : ∃ k, m = k + 1 := ⟨m - 1, by omega⟩
  simp only [iter, h1 n (by omega)]
  exact h2 n k (by omega) (by omega)
theorem LR.out {c : ACode} (h1 : CR T c s x s') (hx : x ≠ .normal) : LR T c s x s' := by
  obtain ⟨n1, h1⟩ := h1
  refine ⟨n1 + 1, fun n m hn hm => ?_⟩
  obtain ⟨k, rfl⟩ : ∃ k, m = k + 1 := ⟨m - 1, by omega⟩
  simp only [iter, h1 n (by omega)]
  cases x <;> first | rfl | exact absurd rfl hx
theorem CR.skip : CR T .skip s .normal s := ⟨0, fun n _ => rfl⟩
theorem CR.exit {id : Nat} : CR T (.exit id) s (.exit id) s := ⟨0, fun n _ => rfl⟩
theorem CR.ret : CR T .ret s .ret s := ⟨0, fun n _ => rfl⟩
theorem CR.region {ops : List DOp} (h : RR T ops s s') : CR T (.region ops) s .normal s' := by
  obtain ⟨n1, h1⟩ := h
  exact ⟨n1, fun n hn => by simp only [acode, h1 n hn]; rfl⟩
/-- A region without calls: it is computed. -/
theorem CR.calm {ops : List DOp} (h : ∀ call, aregion call ops s = some s') : CR T (.region ops) s .normal s' := CR.region ⟨0, fun n _ => h _⟩
theorem CR.drawn {ops : List DOp} {pairs : List (Nat × Nat)} (h : ∃ n0, ∀ n, n0 ≤ n → adraw (callF T n) ops pairs s = some s') : CR T (.draw ops pairs) s .normal s' := by
  obtain ⟨n1, h1⟩ := h
  exact ⟨n1, fun n hn => by simp only [acode, h1 n hn]; rfl⟩
theorem RR.nil : RR T [] s s := ⟨0, fun n _ => rfl⟩
theorem RR.op {o : AOp} {dst : Option Nat} {sl : List Nat} {ops : List DOp} {tm : Tm} {H H1 : Hp} {v : Value} (ho : aop o tm H = some (v, H1)) (h : RR T ops (put tm dst v, H1) s') : RR T (⟨dst, o, none, sl⟩ :: ops) (tm, H) s' := by
  obtain ⟨n1, h1⟩ := h
  refine ⟨n1, fun n hn => ?_⟩
  have ha : arun (callF T n) o tm H = some (v, H1) := by
    cases o <;> first | exact ho | (simp [aop] at ho; done)
  simp only [aregion, want, if_true, ha]
  exact h1 n hn
theorem RR.call {f : FuncId} {xs : List Operand} {dst : Option Nat} {sl : List Nat} {ops : List DOp} {tm : Tm} {H H1 : Hp} {v : Value} (hc : Runs T f (xs.map (ev tm)) H v H1) (h : RR T ops (put tm dst v, H1) s') :
    RR T (⟨dst, .call f xs, none, sl⟩ :: ops) (tm, H) s' := by
  obtain ⟨n1, h1⟩ := h
  obtain ⟨n2, h2⟩ := hc
  refine ⟨max n1 n2, fun n hn => ?_⟩
  simp only [aregion, want, if_true, arun, h2 n (by omega)]
  exact h1 n (by omega)
theorem RR.callv {x : Operand} {f : FuncId} {caps : Array Value} {first : Array Value} {xs : List Operand} {dst : Option Nat} {sl : List Nat} {ops : List DOp} {tm : Tm} {H H1 : Hp} {v : Value} (hx : ev tm x = .func (.func f) first caps)
    (hc : Runs T f (xs.map (ev tm) ++ caps.toList) H v H1) (h : RR T ops (put tm dst v, H1) s') : RR T (⟨dst, .callv x xs, none, sl⟩ :: ops) (tm, H) s' := by
  obtain ⟨n1, h1⟩ := h
  obtain ⟨n2, h2⟩ := hc
  refine ⟨max n1 n2, fun n hn => ?_⟩
  simp only [aregion, want, if_true, arun, hx, h2 n (by omega)]
  exact h1 n (by omega)
end

/-- The model follows a run. -/
theorem Runs.calls {P : Program} (hm : P.follows .mixedOrders = true) {T : FuncId → Option AFunc} (hT : ∀ f F, T f = some F → ∃ fn, P.funcs[f]? = some fn ∧ cFunc P fn = some F) {f : FuncId} {args : List Value} {H H' : Hp} {r : Value}
    (h : Runs T f args H r H') {ι : Emb} {w : World} {vargs : Array Value} (s : Sim ι H w) (hv : VRs ι args vargs.toList) :
    Calls P f vargs w (fun e w' => ∃ ι' v, e = .returned v ∧ VR ι' r v ∧ Sim ι' H' w' ∧ Fr ι H w ι' H' w') := by
  obtain ⟨n, hn⟩ := h
  exact (callF_ok hm hT n f args H r H' (hn n (Nat.le_refl _))).2 ι w vargs s hv

end Go.Ab
