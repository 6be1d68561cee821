/- The abstract machine, part 10: code, functions, and how they are read off a program. Own work. -/
import Derived.Test.YtbehlbabgomhfaaAb9
namespace Go.Ab
open Go

inductive K where
  | pure | read | new | loud
  deriving DecidableEq
def kindOf : AOp → K
  | .load .. | .slice .. => .read
  | .alloc _ | .box _ | .mkslice .. | .bslice .. => .new
  | .store .. | .append .. | .call .. | .callv .. | .bad => .loud
  | _ => .pure

/-- An operation with its place, its guard (a temporary and what it must hold), and for a reading one in a drawn region the new blocks that it may look into. -/
structure DOp where
  dst : Option Nat
  op : AOp
  guard : Option (Nat × Bool)
  slots : List Nat

inductive ACode where
  | skip
  | region (ops : List DOp)
  | draw (ops : List DOp) (pairs : List (Nat × Nat))
  | seq (a b : ACode)
  | cond (c : Operand) (x y : ACode)
  | block (id : Nat) (c : ACode)
  | loop (c : ACode)
  | exit (id : Nat)
  | ret
  | bad

inductive ARes where
  | tmp (t : Nat)
  | cell (t n : Nat) (agg : Bool)
structure AFunc where
  body : ACode
  results : List ARes

abbrev CallF := FuncId → List Value → Hp → Option (Value × Hp)
abbrev St := Tm × Hp
inductive AX where
  | normal | exit (id : Nat) | ret
  deriving DecidableEq

/-- Is an operation carried out? -/
def want (tm : Tm) : Option (Nat × Bool) → Bool
  | none => true
  | some (t, b) => match tm t with
    | .bool c => c == b
    | _ => false

def arun (call : CallF) (o : AOp) (tm : Tm) (H : Hp) : Option (Value × Hp) :=
  match o with
  | .call f args => call f (args.map (ev tm)) H
  | .callv x args => match ev tm x with
    | .func (.func f) _ caps => call f (args.map (ev tm) ++ caps.toList) H
    | _ => none
  | o => aop o tm H

def aregion (call : CallF) : List DOp → St → Option St
  | [], s => some s
  | o :: os, s =>
    if want s.1 o.guard then
      match arun call o.op s.1 s.2 with
      | some (v, H') => aregion call os (put s.1 o.dst v, H')
      | none => none
    else aregion call os (put s.1 o.dst undef, s.2)

/-! ### Regions that draw their order -/
/-- The block that a reading operation looks into. -/
def rblk (o : AOp) (tm : Tm) : Option Nat :=
  match o with
  | .load _ _ x => match ev tm x with
    | .pointer (some a) => some a.block
    | _ => none
  | .slice _ x _ _ => match ev tm x with
    | .slice (some a) _ _ => some a.block
    | _ => none
  | _ => none
def rdOk (base m : Nat) (o : DOp) (tm : Tm) : Bool :=
  match rblk o.op tm with
  | some b => decide (b < base) || decide (base + m ≤ b) || o.slots.contains (b - base)
  | none => true
def dstep (call : CallF) (base m i : Nat) (o : DOp) (s : St) : Option (Value × Hp) :=
  if want s.1 o.guard then
    match kindOf o.op with
    | .pure => aop o.op s.1 s.2
    | .read => if rdOk base m o s.1 then aop o.op s.1 s.2 else none
    | .new => (anew o.op s.1 (base + i)).map fun p => (p.1, s.2.set (base + i) p.2)
    | .loud => arun call o.op s.1 s.2
  else some (undef, s.2)
def dtrace (call : CallF) (base m : Nat) : List DOp → Nat → St → Option (List St)
  | [], _, s => some [s]
  | o :: os, i, s =>
    match dstep call base m i o s with
    | some (v, H') => (dtrace call base m os (i + 1) (put s.1 o.dst v, H')).map (s :: ·)
    | none => none

def vsame1 : Value → Value → Bool
  | .bool a, .bool b => a == b
  | .int k a, .int k' b => decide (k = k') && a == b
  | .string a, .string b => decide (a = b)
  | .pointer a, .pointer b => decide (a = b)
  | .slice a n c, .slice a' n' c' => decide (a = a') && n == n' && c == c'
  | .map a, .map b => decide (a = b)
  | .nilFunc, .nilFunc => true
  | .nilIface, .nilIface => true
  | _, _ => false
def vsame : Value → Value → Bool
  | .agg a, .agg b => a.size == b.size && (a.toList.zip b.toList).all fun p => vsame1 p.1 p.2
  | a, b => vsame1 a b
theorem vsame1_eq {a b : Value} (h : vsame1 a b = true) : a = b := by
  unfold vsame1 at h
  split at h <;> simp_all
theorem all_zip_eq : ∀ (l l' : List Value), l.length = l'.length → ((l.zip l').all fun p => vsame1 p.1 p.2) = true → l = l'
  | [], l', hl, _ => (List.eq_nil_of_length_eq_zero (by simpa using hl.symm)).symm
  | a :: l, [], hl, _ => by simp at hl
  | a :: l, b :: l', hl, h => by
    simp only [List.zip_cons_cons, List.all_cons, Bool.and_eq_true] at h
    rw [vsame1_eq h.1, all_zip_eq l l' (by simpa using hl) h.2]
theorem vsame_eq {a b : Value} (h : vsame a b = true) : a = b := by
  unfold vsame at h
  split at h
  · simp only [Bool.and_eq_true, beq_iff_eq] at h
    have := all_zip_eq _ _ (by simpa using h.1) h.2
    rw [Array.toList_inj] at this
    rw [this]
  · exact vsame1_eq h

/-- A reading gives the same in another heap. -/
def again (o : DOp) (s : St) (H : Hp) : Bool :=
  if want s.1 o.guard then
    match aop o.op s.1 s.2, aop o.op s.1 H with
    | some (v, _), some (v', _) => vsame v v'
    | _, _ => false
  else true
def dcheck (ops : List DOp) (tr : List St) (p : Nat × Nat) : Bool :=
  match ops[p.1]?, tr[p.1]?, tr[p.2]?, tr[p.2 + 1]? with
  | some o, some s, some l, some l' => again o s l.2 && again o s l'.2
  | _, _, _, _ => false
def adraw (call : CallF) (ops : List DOp) (pairs : List (Nat × Nat)) (s : St) : Option St :=
  match dtrace call s.2.length ops.length ops 0 (s.1, s.2 ++ List.replicate ops.length .dead) with
  | some tr => if pairs.all (dcheck ops tr) then tr.getLast? else none
  | none => none

/-! ### Code and functions -/
def iter (body : St → Option (AX × St)) : Nat → St → Option (AX × St)
  | 0, _ => none
  | n + 1, s => match body s with
    | some (.normal, s') => iter body n s'
    | r => r
def acode (call : CallF) (fuel : Nat) : ACode → St → Option (AX × St)
  | .skip, s => some (.normal, s)
  | .region ops, s => (aregion call ops s).map fun s' => (.normal, s')
  | .draw ops pairs, s => (adraw call ops pairs s).map fun s' => (.normal, s')
  | .seq a b, s => match acode call fuel a s with
    | some (.normal, s') => acode call fuel b s'
    | r => r
  | .cond c x y, s => match ev s.1 c with
    | .bool t => if t then acode call fuel x s else acode call fuel y s
    | _ => none
  | .block id c, s => match acode call fuel c s with
    | some (.exit j, s') => if j = id then some (.normal, s') else some (.exit j, s')
    | r => r
  | .loop c, s => iter (acode call fuel c) fuel s
  | .exit id, s => some (.exit id, s)
  | .ret, s => some (.ret, s)
  | .bad, _ => none

def ares (tm : Tm) (H : Hp) : ARes → Option Value
  | .tmp t => some (tm t)
  | .cell t n agg => match tm t with
    | .pointer (some a) => if a.spot.isNone then (H.load a n).bind (mkv agg) else none
    | _ => none
def aresults (rs : List ARes) (tm : Tm) (H : Hp) : Option Value :=
  match rs.mapM (ares tm H) with
  | some [v] => some v
  | some vs => some (.tuple vs.toArray)
  | none => none
def initTm (args : List Value) : Tm := fun t => args.getD t undef
def callF (T : FuncId → Option AFunc) : Nat → CallF
  | 0, _, _, _ => none
  | n + 1, f, args, H => match T f with
    | some F => match acode (callF T n) n F.body (initTm args, H) with
      | some (.normal, s) | some (.ret, s) => (aresults F.results s.1 s.2).map fun v => (v, s.2)
      | _ => none
    | none => none

/-! ### Read off a program -/
def gTmp (ops : Array Oper) (o : Oper) : Option (Option (Nat × Bool)) :=
  match o.guard with
  | none => some none
  | some (j, b) => match (ops[j]?).bind (·.dst) with
    | some t => some (some (t, b))
    | none => none
def dstOk (N : Nat) : Option Nat → Bool
  | some t => decide (t < N)
  | none => true
def cOper (P : Program) (N : Nat) (ops : Array Oper) (slots : List Nat) (o : Oper) : DOp :=
  match gTmp ops o with
  | some g => if dstOk N o.dst then { dst := o.dst, op := cOp P o, guard := g, slots } else { dst := none, op := .bad, guard := none, slots }
  | none => { dst := none, op := .bad, guard := none, slots }
/-- Of each operation, which ones are carried out before it in every order. -/
def anc1 (acc : List (List Nat)) (o : Oper) : List Nat := ((o.after.toList.filter (Region.binds .any)).flatMap fun e => e.on :: acc.getD e.on []).eraseDups
def ancsAux : List Oper → List (List Nat) → List (List Nat)
  | [], acc => acc
  | o :: os, acc => ancsAux os (acc ++ [anc1 acc o])
def ancs (ops : List Oper) : List (List Nat) := ancsAux ops []
def opTmps : AOp → List Operand
  | .mv x | .un _ x | .conv _ x | .extract x _ | .field _ _ _ x | .iface _ x | .nilchk x | .faddr _ x | .len x | .lens x | .box x | .load _ _ x => [x]
  | .pick c a b => [c, a, b]
  | .bin _ x y | .eq _ _ x y | .idxs _ x y | .idxa _ _ x y | .idx _ _ _ x y | .idxstr x y | .mkslice _ _ _ x y | .store _ x y | .append _ _ x y => [x, y]
  | .build _ ps | .bslice _ _ _ ps => ps.map (·.2.2)
  | .mkfn _ xs | .mm _ xs | .call _ xs => xs
  | .callv x xs => x :: xs
  | .slice _ x lo hi => x :: (lo.toList ++ hi.toList)
  | .alloc _ | .bad => []
/-- The temporaries that an operation looks at. -/
def looks (o : DOp) : List Nat :=
  ((opTmps o.op).filterMap fun | .tmp t => some t | _ => none) ++ (match o.guard with | some (t, _) => [t] | none => [])
def clash (x y : DOp) : Bool :=
  (match x.dst with | some d => (looks y).contains d || y.dst == some d | none => false) || (match y.dst with | some d => (looks x).contains d | none => false)
def louds (ops : List DOp) : List Nat := (List.range ops.length).filter fun i => ((ops[i]?).map fun o => decide (kindOf o.op = .loud)).getD false
def drawOk (as : List (List Nat)) (ops : List DOp) : Bool :=
  (List.range ops.length).all fun j => (List.range j).all fun i =>
    match ops[i]?, ops[j]? with
    | some x, some y =>
      (as.getD j []).contains i ||
        (!clash x y && !(decide (kindOf x.op = .loud) && decide (kindOf y.op = .loud)) && !(decide (kindOf x.op = .new) && decide (kindOf y.op = .loud)))
    | _, _ => false
def edgesOk (ops : List Oper) : Bool :=
  (List.range ops.length).all fun i => ((ops[i]?).map fun o => (o.after.toList.filter (Region.binds .any)).all fun e => decide (e.on < i)).getD false
def unordered (as : List (List Nat)) (i j : Nat) : Bool := i != j && !(as.getD i []).contains j && !(as.getD j []).contains i
def isNew (d0 : List DOp) (k : Nat) : Bool := ((d0[k]?).map fun q => decide (kindOf q.op = .new)).getD false
def withSlots (d0 : List DOp) (as : List (List Nat)) (o : DOp) (i : Nat) : DOp :=
  if kindOf o.op = .read then { o with slots := if (louds d0).any (unordered as i) then [] else (as.getD i []).filter (isNew d0) } else o
def dOps (d0 : List DOp) (as : List (List Nat)) : List DOp := d0.zipIdx.map fun x => withSlots d0 as x.1 x.2
def dPairs (d0 : List DOp) (as : List (List Nat)) : List (Nat × Nat) :=
  (List.range d0.length).flatMap fun i => match d0[i]? with
    | some o => if kindOf o.op = .read then ((louds d0).filter (unordered as i)).map fun l => (i, l) else []
    | none => []
def cDraw (P : Program) (N : Nat) (ops : Array Oper) : ACode :=
  let as := ancs ops.toList
  let d0 := ops.toList.map (cOper P N ops [])
  if edgesOk ops.toList && drawOk as (dOps d0 as) then .draw (dOps d0 as) (dPairs d0 as) else .bad
def cCode (P : Program) (N : Nat) : Code → ACode
  | .skip => .skip
  | .region _ ops false => .region (ops.toList.map (cOper P N ops []))
  | .region _ ops true => cDraw P N ops
  | .seq a b => .seq (cCode P N a) (cCode P N b)
  | .cond c x y => if okO c then .cond c (cCode P N x) (cCode P N y) else .bad
  | .block id c => .block id (cCode P N c)
  | .loop c => .loop (cCode P N c)
  | .exit id => .exit id
  | .ret => .ret
  | _ => .bad
def cRes (P : Program) : ResultVar → Option ARes
  | .tmp t => some (.tmp t)
  | .cell t ty => (szT P ty).map fun q => .cell t q.1 q.2
def cFunc (P : Program) (fn : Func) : Option AFunc :=
  match fn.body, fn.results.toList.mapM (cRes P) with
  | some c, some rs => if fn.name == "runtime.NumGoroutine" then none else some { body := cCode P fn.ntmps c, results := rs }
  | _, _ => none

end Go.Ab
