/- The abstract machine, part 5: all its operations but calls. Own work. -/
import Derived.Test.YtbehlbabgomhfaaAb4
namespace Go.Ab
open Go

inductive AOp where
  | mv (x : Operand)
  | pick (c a b : Operand)
  | bin (op : BinOp) (x y : Operand)
  | eq (neg : Bool) (k : EqK) (x y : Operand)
  | un (op : UnOp) (x : Operand)
  | conv (k : IntKind) (x : Operand)
  | build (zero : List Value) (parts : List (Nat × Nat × Operand))
  | extract (x : Operand) (i : Nat)
  | field (off size : Nat) (agg : Bool) (x : Operand)
  | mkfn (fn : Fn) (caps : List Operand)
  | iface (t : TypeId) (x : Operand)
  | nilchk (x : Operand)
  | faddr (off : Nat) (x : Operand)
  | idxs (sz : Nat) (x i : Operand)
  | idxa (len sz : Nat) (x i : Operand)
  | idx (len sz : Nat) (agg : Bool) (x i : Operand)
  | idxstr (x i : Operand)
  | slice (sz : Nat) (x : Operand) (lo hi : Option Operand)
  | len (x : Operand)
  | lens (x : Operand)
  | mm (isMax : Bool) (xs : List Operand)
  | alloc (cells : List Value)
  | box (x : Operand)
  | mkslice (sz bytes : Nat) (zero : List Value) (l c : Operand)
  | bslice (sz len : Nat) (tmpl : List Value) (parts : List (Nat × Nat × Operand))
  | load (sz : Nat) (agg : Bool) (x : Operand)
  | store (sz : Nat) (a x : Operand)
  | append (sz bytes : Nat) (s x : Operand)
  | call (f : FuncId) (args : List Operand)
  | callv (f : Operand) (args : List Operand)
  | bad

def okL (xs : List Operand) : Bool := xs.all okO
def okP (ps : List (Nat × Nat × Operand)) : Bool := ps.all fun p => okO p.2.2
def okz (cs : List Value) : Bool := cs.all okC

def aggT (P : Program) (t : TypeId) : Option Bool :=
  match P.underlying t with
  | some (.struct _) | some (.array _ _) => some true
  | some _ => some false
  | none => none
/-- A type's size, and whether it is an aggregate. -/
def szT (P : Program) (t : TypeId) : Option (Nat × Bool) :=
  match P.info? t, aggT P t with
  | some i, some b => if b || i.size == 1 then some (i.size, b) else none
  | _, _ => none
def zeroT (P : Program) (t : TypeId) : Option (List Value) :=
  match P.info? t with
  | some i => match i.zero with
    | some z => if okz z.cells.toList && z.cells.size == i.size then some z.cells.toList else none
    | none => none
  | none => none
def places (P : Program) (t : TypeId) : Option (List (Nat × Nat)) :=
  match P.underlying t with
  | some (.struct fs) => fs.toList.mapM fun f => (P.info? f.type).map fun i => (f.offset, i.size)
  | some (.array n e) => (P.info? e).map fun i => (List.range n).map fun j => (j * i.size, i.size)
  | _ => none

def cBuiltin (P : Program) (b : Builtin) (ty : List TypeId) (args : List Operand) : AOp :=
  match b, ty, args with
  | .len, [t], [x] => match P.underlying t with
    | some (.slice _) => .len x
    | some .string => .lens x
    | _ => .bad
  | .append, [t, u], [s, x] =>
    if t = u then match P.underlying t with
      | some (.slice e) => match P.info? e, zeroT P e with
        | some i, some _ => if 0 < i.size ∧ 0 < i.bytes then .append i.size i.bytes s x else .bad
        | _, _ => .bad
      | _ => .bad
    else .bad
  | .min, _, xs => .mm false xs
  | .max, _, xs => .mm true xs
  | _, _, _ => .bad

def cOp (P : Program) (o : Oper) : AOp :=
  match o.op with
  | .move x | .assign x => if okO x then .mv x else .bad
  | .pick c a b => if okL [c, a, b] then .pick c a b else .bad
  | .binOp op t x y _ =>
    if okL [x, y] then
      match op, eqKOf P t with
      | .eql, .other | .neq, .other => .bin op x y
      | .eql, k => .eq false k x y
      | .neq, k => .eq true k x y
      | op, _ => .bin op x y
    else .bad
  | .unOp op _ x => if okO x then .un op x else .bad
  | .convert src dst x =>
    if okO x then match P.underlying src, P.underlying dst with
      | some _, some (.int k) => .conv k x
      | _, _ => .bad
    else .bad
  | .build t ps =>
    match zeroT P t, places P t with
    | some z, some pl =>
      match ps.toList.mapM (fun p => (pl[p.1]?).map fun q => (q.1, q.2, p.2)) with
      | some l => if okP l then .build z l else .bad
      | none => .bad
    | _, _ => .bad
  | .extract x i => if okO x then .extract x i else .bad
  | .field t x f =>
    if okO x then match P.underlying t with
      | some (.struct fs) => match fs[f]? with
        | some fd => match szT P fd.type with
          | some (n, b) => .field fd.offset n b x
          | none => .bad
        | none => .bad
      | _ => .bad
    else .bad
  | .makeFunc fn first caps => if first.size = 0 ∧ okL caps.toList then .mkfn fn caps.toList else .bad
  | .makeInterface t x => if okO x ∧ P.concrete t then .iface t x else .bad
  | .nilCheck x => if okO x then .nilchk x else .bad
  | .fieldAddr t x f =>
    if okO x then match P.underlying t with
      | some (.struct fs) => match fs[f]? with
        | some fd => match P.info? fd.type with
          | some i => if i.size ≠ 0 then .faddr fd.offset x else .bad
          | none => .bad
        | none => .bad
      | _ => .bad
    else .bad
  | .indexAddr t x i =>
    if okL [x, i] then match P.underlying t with
      | some (.slice e) => match P.info? e with
        | some inf => .idxs inf.size x i
        | none => .bad
      | some (.array n e) => match P.info? e with
        | some inf => .idxa n inf.size x i
        | none => .bad
      | _ => .bad
    else .bad
  | .index t x i =>
    if okL [x, i] then match P.underlying t with
      | some .string => .idxstr x i
      | some (.array n e) => match szT P e with
        | some (m, b) => .idx n m b x i
        | none => .bad
      | _ => .bad
    else .bad
  | .slice t x lo hi none =>
    if okO x ∧ okL lo.toList ∧ okL hi.toList then match P.underlying t with
      | some (.slice e) => match P.info? e with
        | some inf => .slice inf.size x lo hi
        | none => .bad
      | _ => .bad
    else .bad
  | .alloc e => match zeroT P e with
    | some z => .alloc z
    | none => .bad
  | .box _ x => if okO x then .box x else .bad
  | .makeSlice t l c =>
    if okL [l, c] then match P.underlying t with
      | some (.slice e) => match P.info? e, zeroT P e with
        | some i, some z => .mkslice i.size i.bytes z l c
        | _, _ => .bad
      | _ => .bad
    else .bad
  | .buildSlice t len ps =>
    match P.underlying t with
    | some (.slice e) => match P.info? e, zeroT P e with
      | some i, some z =>
        if len * i.size ≤ 2 ^ 24 ∧ okL (ps.toList.map (·.2)) then
          .bslice i.size len (madeCells z.toArray (len * i.size)).toList (ps.toList.map fun p => (p.1 * i.size, i.size, p.2))
        else .bad
      | _, _ => .bad
    | _ => .bad
  | .load t x =>
    if okO x then match szT P t with
      | some (n, b) => .load n b x
      | none => .bad
    else .bad
  | .store t a x =>
    if okL [a, x] then match P.info? t with
      | some i => .store i.size a x
      | none => .bad
    else .bad
  | .call c =>
    if okL c.args.toList then match c.callee with
      | .builtin b => cBuiltin P b c.argTypes.toList c.args.toList
      | .value (.func f) => .call f c.args.toList
      | .value f => if okO f then .callv f c.args.toList else .bad
      | _ => .bad
    else .bad
  | _ => .bad

/-! ### What they do -/
def bfill : List Value → List (Nat × Nat × Value) → Option (List Value)
  | cs, [] => some cs
  | cs, (off, size, v) :: rest => if v.cells.size = size ∧ off + size ≤ cs.length then bfill (splice cs off v.cells.toList) rest else none

def mm2 (isMax : Bool) : Value → List Value → Option Value
  | v, [] => some v
  | .int k x, .int k' y :: rest => if k = k' then mm2 isMax (.int k (if isMax then (if y > x then y else x) else (if y < x then y else x))) rest else none
  | _, _ => none

def asNat (lo : Nat) (hi : Nat) : Option Value → (dflt : Nat) → Option Nat
  | none, d => if lo ≤ d ∧ d ≤ hi then some d else none
  | some (.int _ n), _ => if (lo : Int) ≤ n ∧ n ≤ hi then some n.toNat else none
  | _, _ => none

/-- A slice's part. -/
def aslice (H : Hp) (sz : Nat) (x : Value) (lo hi : Option Value) : Option Value :=
  match x with
  | .slice none 0 0 => do
    let h ← asNat 0 0 hi 0
    let _ ← asNat 0 h lo 0
    some (.slice none 0 0)
  | .slice (some a) n m => if n = m ∧ H.esz a.block = some sz then do
      let h ← asNat 0 n hi n
      let l ← asNat 0 h lo 0
      some (.slice (some ⟨a.block, a.off + l * sz, none⟩) (h - l) (h - l))
    else none
  | _ => none

/-- A new block, with number k. -/
def anew (o : AOp) (tm : Tm) (k : Nat) : Option (Value × Blk) :=
  match o with
  | .alloc z => some (.pointer (some ⟨k, 0, none⟩), .rw 0 z)
  | .box x => some (.pointer (some ⟨k, 0, none⟩), .rw 0 (ev tm x).cells.toList)
  | .mkslice sz bytes z l c => match ev tm l, ev tm c with
    | .int _ l, .int _ c =>
      if 0 ≤ l ∧ l ≤ c ∧ (bytes : Int) * c ≤ 281474976710656 ∧ c ≤ 9223372036854775807 then
        some (.slice (some ⟨k, 0, none⟩) l.toNat l.toNat, .rw sz (madeCells z.toArray (l.toNat * sz)).toList)
      else none
    | _, _ => none
  | .bslice sz len tm0 ps => (bfill tm0 (ps.map fun p => (p.1, p.2.1, ev tm p.2.2))).map fun cs => (.slice (some ⟨k, 0, none⟩) len len, .rw sz cs)
  | _ => none

def aop (o : AOp) (tm : Tm) (H : Hp) : Option (Value × Hp) :=
  match o with
  | .mv x => some (ev tm x, H)
  | .pick c a b => match ev tm c with
    | .bool t => some (if t then ev tm a else ev tm b, H)
    | _ => none
  | .bin op x y => match ev tm x, ev tm y with
    | .int k a, .int k' b => (ibin op k a k' b).map (·, H)
    | _, _ => none
  | .eq neg k x y => match ev tm x, ev tm y with
    | .int k a, .int k' b => (ibin (if neg then .neq else .eql) k a k' b).map (·, H)
    | u, v => (aEq k u v).map fun b => (.bool (if neg then !b else b), H)
  | .un op x => match op, ev tm x with
    | .neg, .int k n => some (.int k (k.wrap (0 - n)), H)
    | .not, .bool b => some (.bool !b, H)
    | _, _ => none
  | .conv k x => match ev tm x with
    | .int _ n => some (.int k (k.wrap n), H)
    | _ => none
  | .build z ps => (bfill z (ps.map fun p => (p.1, p.2.1, ev tm p.2.2))).map fun cs => (.agg cs.toArray, H)
  | .extract x i => match ev tm x with
    | .tuple vs => (vs[i]?).map (·, H)
    | _ => none
  | .field off n b x => match ev tm x with
    | .agg cs => if off + n ≤ cs.size then (mkv b ((cs.toList.drop off).take n)).map (·, H) else none
    | _ => none
  | .mkfn fn caps => some (.func fn #[] (caps.map (ev tm)).toArray, H)
  | .iface t x => some (.iface t (ev tm x), H)
  | .nilchk x => match ev tm x with
    | .pointer (some a) => some (.pointer (some a), H)
    | .func (.func f) a b => some (.func (.func f) a b, H)
    | _ => none
  | .faddr off x => match ev tm x with
    | .pointer (some a) => some (.pointer (some ⟨a.block, a.off + off, none⟩), H)
    | _ => none
  | .idxs sz x i => match ev tm x, ev tm i with
    | .slice (some a) n _, .int _ j => if 0 ≤ j ∧ j < n then some (.pointer (some ⟨a.block, a.off + j.toNat * sz, none⟩), H) else none
    | _, _ => none
  | .idxa len sz x i => match ev tm x, ev tm i with
    | .pointer (some a), .int _ j => if 0 ≤ j ∧ j < len then some (.pointer (some ⟨a.block, a.off + j.toNat * sz, none⟩), H) else none
    | _, _ => none
  | .idx len sz b x i => match ev tm x, ev tm i with
    | .agg cs, .int _ j => if 0 ≤ j ∧ j < len ∧ (j.toNat * sz) + sz ≤ cs.size then (mkv b ((cs.toList.drop (j.toNat * sz)).take sz)).map (·, H) else none
    | _, _ => none
  | .idxstr x i => match ev tm x, ev tm i with
    | .string s, .int _ j => if 0 ≤ j then (s[j.toNat]?).map fun b => (.int .u8 b.toNat, H) else none
    | _, _ => none
  | .slice sz x lo hi => (aslice H sz (ev tm x) (lo.map (ev tm)) (hi.map (ev tm))).map (·, H)
  | .len x => match ev tm x with
    | .slice _ n _ => some (.int .i64 n, H)
    | _ => none
  | .lens x => match ev tm x with
    | .string s => some (.int .i64 s.size, H)
    | _ => none
  | .mm isMax xs => match xs.map (ev tm) with
    | v :: rest => (mm2 isMax v rest).map (·, H)
    | [] => none
  | .alloc z => (anew (.alloc z) tm H.length).map fun p => (p.1, H ++ [p.2])
  | .box x => (anew (.box x) tm H.length).map fun p => (p.1, H ++ [p.2])
  | .mkslice sz bytes z l c => (anew (.mkslice sz bytes z l c) tm H.length).map fun p => (p.1, H ++ [p.2])
  | .bslice sz len tm0 ps => (anew (.bslice sz len tm0 ps) tm H.length).map fun p => (p.1, H ++ [p.2])
  | .load n b x => match ev tm x with
    | .pointer (some a) => if a.spot.isNone then ((H.load a n).bind (mkv b)).map (·, H) else none
    | _ => none
  | .store n a x => match ev tm a with
    | .pointer (some a) => match H[a.block]? with
      | some (.rw s vs) =>
        if (ev tm x).cells.size = n ∧ (ev tm x).cells.toList.all Value.oneCell' ∧ a.off + n ≤ vs.length then
          some (undef, H.set a.block (.rw s (splice vs a.off (ev tm x).cells.toList)))
        else none
      | _ => none
    | _ => none
  | .append sz bytes s x => aappend sz bytes (ev tm s) (ev tm x) H
  | .call _ _ | .callv _ _ | .bad => none

end Go.Ab
