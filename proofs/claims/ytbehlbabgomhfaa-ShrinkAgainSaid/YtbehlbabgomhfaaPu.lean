/- Plain counterparts of the program's operations: what printed functions are made of. Own work. -/
import Derived.Test.YtbehlbabgomhfaaAb18
namespace Go.Pu
open Go

abbrev W (n : Int) : Int := IntKind.i64.wrap n
theorem W_of {n : Int} (h1 : -9223372036854775808 ≤ n) (h2 : n ≤ 9223372036854775807) : W n = n := Ab.V_wrap h1 h2
section
variable {α σ ρ : Type}
def ix (xs : List α) (i : Int) : Option α := if 0 ≤ i then xs[i.toNat]? else none
def st (xs : List α) (i : Int) (y : α) : List α := xs.set i.toNat y
def sub (xs : List α) (lo hi : Int) : Option (List α) := if 0 ≤ lo ∧ lo ≤ hi ∧ hi ≤ xs.length then some ((xs.take hi.toNat).drop lo.toNat) else none
def app (bytes : Nat) (xs ys : List α) : Option (List α) := if (xs.length + ys.length) * bytes ≤ 140737488355328 then some (xs ++ ys) else none
def mk (bytes : Nat) (n c : Int) (z : α) : Option (List α) := if 0 ≤ n ∧ n ≤ c ∧ (bytes : Int) * c ≤ 281474976710656 ∧ c ≤ 281474976710656 then some (List.replicate n.toNat z) else none
def mkz (bytes : Nat) (n : Int) (z : α) : Option (List α) := if 0 < n ∧ n.toNat * bytes ≤ 140737488355328 ∧ n ≤ 281474976710656 then some (List.replicate n.toNat z) else none
def quo (k : IntKind) (a b : Int) : Option Int := if b = 0 then none else some (k.wrap (a.tdiv b))
def rem (a b : Int) : Option Int := if b = 0 then none else some (a.tmod b)
def shl (k : IntKind) (a b : Int) : Option Int := if b < 0 then none else some (k.wrap (a * 2 ^ (min b.toNat k.bits)))
def shr (k : IntKind) (a b : Int) : Option Int := if b < 0 then none else some (a.fdiv (2 ^ (min b.toNat k.bits)))
def band (k : IntKind) (a b : Int) : Int := k.wrap (BitVec.ofInt k.bits a &&& BitVec.ofInt k.bits b).toNat
def bor (k : IntKind) (a b : Int) : Int := k.wrap (BitVec.ofInt k.bits a ||| BitVec.ofInt k.bits b).toNat
def bxor (k : IntKind) (a b : Int) : Int := k.wrap (BitVec.ofInt k.bits a ^^^ BitVec.ofInt k.bits b).toNat
def bandn (k : IntKind) (a b : Int) : Int := k.wrap (BitVec.ofInt k.bits a &&& ~~~ BitVec.ofInt k.bits b).toNat
def imax (x y : Int) : Int := if y > x then y else x
def imin (x y : Int) : Int := if y < x then y else x
theorem imax_eq (x y : Int) : imax x y = max x y := by unfold imax; omega
theorem imin_eq (x y : Int) : imin x y = min x y := by unfold imin; omega
def ran (n : Int) : List Int := (List.range n.toNat).map Int.ofNat

def ranO (n : Int) : Option (List Int) := if n ≤ 4611686018427387904 then some (ran n) else none

/-- What a round of a loop comes to. -/
inductive Step (σ ρ : Type) where
  | nx (s : σ)
  | br (s : σ)
  | rt (r : ρ)
inductive Fin (σ ρ : Type) where
  | out (s : σ)
  | rt (r : ρ)
def Fin.cs {β : Type} (f : σ → β) (g : ρ → β) : Fin σ ρ → β
  | .out s => f s
  | .rt r => g r
def forP (body : Int → α → σ → Option σ) : Int → List α → σ → Option σ
  | _, [], s => some s
  | i, x :: xs, s => (body i x s).bind fun s' => forP body (i + 1) xs s'
def forL (body : Int → α → σ → Option (Step σ ρ)) : Int → List α → σ → Option (Fin σ ρ)
  | _, [], s => some (.out s)
  | i, x :: xs, s => match body i x s with
    | none => none
    | some (.nx s') => forL body (i + 1) xs s'
    | some (.br s') => some (.out s')
    | some (.rt r) => some (.rt r)
def whl (body : σ → Option (Step σ ρ)) : Nat → σ → Option (Fin σ ρ)
  | 0, _ => none
  | n + 1, s => match body s with
    | none => none
    | some (.nx s') => whl body n s'
    | some (.br s') => some (.out s')
    | some (.rt r) => some (.rt r)
theorem bind_some {α β : Type} {o : Option α} {f : α → Option β} {b : β} (h : (o.bind f) = some b) : ∃ a, o = some a ∧ f a = some b := Option.bind_eq_some_iff.1 h
theorem ix_lt {xs : List α} {i : Int} {x : α} (h : ix xs i = some x) : 0 ≤ i ∧ i < xs.length ∧ xs[i.toNat]? = some x := by
  unfold ix at h
  split at h
  · have := (List.getElem?_eq_some_iff.1 h).1
    exact ⟨by assumption, by omega, h⟩
  · cases h
theorem ix_nat {xs : List α} {i : Nat} : ix xs (i : Int) = xs[i]? := by simp [ix]
end
end Go.Pu
