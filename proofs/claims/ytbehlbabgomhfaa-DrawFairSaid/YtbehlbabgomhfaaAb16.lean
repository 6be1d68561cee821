/- Values and steps of the abstract machine, for simp (printed by wip/tools/mk16.py). Own work. -/
import Derived.Test.YtbehlbabgomhfaaAb15
namespace Go.Ab
open Go

/-! ### Operations on values -/
def vbin (o : BinOp) : Value → Value → Option Value
  | .int k a, .int k' b => ibin o k a k' b
  | _, _ => none
def veq (neg : Bool) (k : EqK) (x y : Value) : Option Value := match x, y with
  | .int k a, .int k' b => ibin (if neg then .neq else .eql) k a k' b
  | u, v => (aEq k u v).map fun b => .bool (if neg then !b else b)
def vpick (c a b : Value) : Option Value := match c with
  | .bool t => some (if t then a else b)
  | _ => none
def vun (o : UnOp) (x : Value) : Option Value := match o, x with
  | .neg, .int k n => some (.int k (k.wrap (0 - n)))
  | .not, .bool b => some (.bool !b)
  | _, _ => none
def vconv (k : IntKind) : Value → Option Value
  | .int _ n => some (.int k (k.wrap n))
  | _ => none
def vbuild (z : List Value) (ps : List (Nat × Nat × Value)) : Option Value := (bfill z ps).map fun cs => .agg cs.toArray
def vext (i : Nat) : Value → Option Value
  | .tuple vs => vs[i]?
  | _ => none
def vfield (off n : Nat) (b : Bool) : Value → Option Value
  | .agg cs => if off + n ≤ cs.size then mkv b ((cs.toList.drop off).take n) else none
  | _ => none
def vnilchk : Value → Option Value
  | .pointer (some a) => some (.pointer (some a))
  | .func (.func f) a b => some (.func (.func f) a b)
  | _ => none
def vfaddr (off : Nat) : Value → Option Value
  | .pointer (some a) => some (.pointer (some ⟨a.block, a.off + off, none⟩))
  | _ => none
def vidxs (sz : Nat) : Value → Value → Option Value
  | .slice (some a) n _, .int _ j => if 0 ≤ j ∧ j < n then some (.pointer (some ⟨a.block, a.off + j.toNat * sz, none⟩)) else none
  | _, _ => none
def vidx (len sz : Nat) (b : Bool) : Value → Value → Option Value
  | .agg cs, .int _ j => if 0 ≤ j ∧ j < len ∧ (j.toNat * sz) + sz ≤ cs.size then mkv b ((cs.toList.drop (j.toNat * sz)).take sz) else none
  | _, _ => none
def vlen : Value → Option Value
  | .slice _ n _ => some (.int .i64 n)
  | _ => none
def vmm (m : Bool) : List Value → Option Value
  | v :: rest => mm2 m v rest
  | [] => none
def vload (H : Hp) (n : Nat) (b : Bool) : Value → Option Value
  | .pointer (some a) => if a.spot.isNone then (H.load a n).bind (mkv b) else none
  | _ => none
def hstore (n : Nat) (a x : Value) (H : Hp) : Option Hp := match a with
  | .pointer (some a) => match H[a.block]? with
    | some (.rw s vs) => if x.cells.size = n ∧ x.cells.toList.all Value.oneCell' ∧ a.off + n ≤ vs.length then some (H.set a.block (.rw s (splice vs a.off x.cells.toList))) else none
    | _ => none
  | _ => none
def hmks (sz bytes : Nat) (z : List Value) (l c : Value) (k : Nat) : Option (Value × Blk) := match l, c with
  | .int _ l, .int _ c =>
    if 0 ≤ l ∧ l ≤ c ∧ (bytes : Int) * c ≤ 281474976710656 ∧ c ≤ 9223372036854775807 then
      some (.slice (some ⟨k, 0, none⟩) l.toNat l.toNat, .rw sz (madeCells z.toArray (l.toNat * sz)).toList)
    else none
  | _, _ => none
def hbs (sz len : Nat) (z : List Value) (ps : List (Nat × Nat × Value)) (k : Nat) : Option (Value × Blk) := (bfill z ps).map fun cs => (.slice (some ⟨k, 0, none⟩) len len, .rw sz cs)

section
variable {T : FuncId → Option AFunc} {Q : AX → Tm → Hp → Prop} {K : List Fk} {tm : Tm} {H : Hp} {l : List DOp} {sl : List Nat} {dst : Option Nat} {g : Option (Nat × Bool)} {base m i : Nat} {all : List DOp} {p : List (Nat × Nat)} {tr : List St}
@[simp] theorem ev_tmp (t : Nat) : ev tm (.tmp t) = tm t := rfl
@[simp] theorem ev_const (v : Value) : ev tm (.const v) = v := rfl
@[simp] theorem ev_func (f : FuncId) : ev tm (.func f) = .func (.func f) #[] #[] := rfl
@[simp] theorem put_some (t : Nat) (v : Value) : put tm (some t) v = upd tm t v := rfl
@[simp] theorem put_none (v : Value) : put tm none v = tm := rfl
@[simp] theorem upd_app (t u : Nat) (v : Value) : upd tm t v u = if u = t then v else tm u := rfl
@[simp] theorem initTm_app (args : List Value) (t : Nat) : initTm args t = args.getD t undef := rfl

/-- A value comes next; the heap stays. -/
def Nv (T : FuncId → Option AFunc) (Q : AX → Tm → Hp → Prop) (r : Option Value) (dst : Option Nat) (l : List DOp) (K : List Fk) (tm : Tm) (H : Hp) : Prop := ∃ v, r = some v ∧ R T Q (.ops l :: K) .normal (put tm dst v) H
@[simp] theorem Nv_some {v : Value} : Nv T Q (some v) dst l K tm H ↔ R T Q (.ops l :: K) .normal (put tm dst v) H := ⟨fun ⟨_, h, k⟩ => by cases h; exact k, fun h => ⟨_, rfl, h⟩⟩
theorem Nv_of {r : Option Value} {v : Value} (h : r = some v) (k : R T Q (.ops l :: K) .normal (put tm dst v) H) : Nv T Q r dst l K tm H := ⟨v, h, k⟩
theorem Nx_nv {r : Option Value} : Nx T Q (r.map (·, H)) dst l K tm ↔ Nv T Q r dst l K tm H := by
  cases r with
  | none => exact ⟨fun ⟨_, _, h, _⟩ => by (cases h), fun ⟨_, h, _⟩ => by (cases h)⟩
  | some v => exact Nx_some.trans Nv_some.symm
def Nh (T : FuncId → Option AFunc) (Q : AX → Tm → Hp → Prop) (r : Option Hp) (dst : Option Nat) (l : List DOp) (K : List Fk) (tm : Tm) : Prop := ∃ H1, r = some H1 ∧ R T Q (.ops l :: K) .normal (put tm dst undef) H1
@[simp] theorem Nh_some {H1 : Hp} : Nh T Q (some H1) dst l K tm ↔ R T Q (.ops l :: K) .normal (put tm dst undef) H1 := ⟨fun ⟨_, h, k⟩ => by cases h; exact k, fun h => ⟨_, rfl, h⟩⟩
theorem Nh_of {r : Option Hp} {H1 : Hp} (h : r = some H1) (k : R T Q (.ops l :: K) .normal (put tm dst undef) H1) : Nh T Q r dst l K tm := ⟨H1, h, k⟩
theorem Nx_nh {r : Option Hp} : Nx T Q (r.map (undef, ·)) dst l K tm ↔ Nh T Q r dst l K tm := by
  cases r with
  | none => exact ⟨fun ⟨_, _, h, _⟩ => by (cases h), fun ⟨_, h, _⟩ => by (cases h)⟩
  | some v => exact Nx_some.trans Nh_some.symm
def Nn (T : FuncId → Option AFunc) (Q : AX → Tm → Hp → Prop) (r : Option (Value × Blk)) (dst : Option Nat) (l : List DOp) (K : List Fk) (tm : Tm) (H : Hp) : Prop := ∃ v b, r = some (v, b) ∧ R T Q (.ops l :: K) .normal (put tm dst v) (H ++ [b])
@[simp] theorem Nn_some {v : Value} {b : Blk} : Nn T Q (some (v, b)) dst l K tm H ↔ R T Q (.ops l :: K) .normal (put tm dst v) (H ++ [b]) := ⟨fun ⟨_, _, h, k⟩ => by cases h; exact k, fun h => ⟨_, _, rfl, h⟩⟩
theorem Nx_nn {r : Option (Value × Blk)} : Nx T Q (r.map fun p => (p.1, H ++ [p.2])) dst l K tm ↔ Nn T Q r dst l K tm H := by
  cases r with
  | none => exact ⟨fun ⟨_, _, h, _⟩ => by (cases h), fun ⟨_, _, h, _⟩ => by (cases h)⟩
  | some v => exact Nx_some.trans Nn_some.symm

/-! ### What the operations are, by values -/
theorem A_mv {x : Operand} : aop (.mv x) tm H = (some (ev tm x)).map (·, H) := rfl
@[simp] theorem S_mv {x : Operand} : R T Q (.ops (⟨dst, .mv x, none, sl⟩ :: l) :: K) .normal tm H ↔ Nv T Q (some (ev tm x)) dst l K tm H := by rw [R_op rfl, A_mv]; exact Nx_nv
@[simp] theorem SG_mv {x : Operand} {gt : Nat} {gb : Bool} : R T Q (.ops (⟨dst, .mv x, some (gt, gb), sl⟩ :: l) :: K) .normal tm H ↔ if want tm (some (gt, gb)) = true then Nv T Q (some (ev tm x)) dst l K tm H else R T Q (.ops l :: K) .normal (put tm dst undef) H := by rw [R_gop rfl, A_mv]; simp only [Nx_nv]
theorem A_pick {c a b : Operand} : aop (.pick c a b) tm H = (vpick (ev tm c) (ev tm a) (ev tm b)).map (·, H) := by simp only [aop, vpick]; cases ev tm c <;> rfl
@[simp] theorem S_pick {c a b : Operand} : R T Q (.ops (⟨dst, .pick c a b, none, sl⟩ :: l) :: K) .normal tm H ↔ Nv T Q (vpick (ev tm c) (ev tm a) (ev tm b)) dst l K tm H := by rw [R_op rfl, A_pick]; exact Nx_nv
@[simp] theorem SG_pick {c a b : Operand} {gt : Nat} {gb : Bool} : R T Q (.ops (⟨dst, .pick c a b, some (gt, gb), sl⟩ :: l) :: K) .normal tm H ↔ if want tm (some (gt, gb)) = true then Nv T Q (vpick (ev tm c) (ev tm a) (ev tm b)) dst l K tm H else R T Q (.ops l :: K) .normal (put tm dst undef) H := by rw [R_gop rfl, A_pick]; simp only [Nx_nv]
theorem A_bin {o : BinOp} {x y : Operand} : aop (.bin o x y) tm H = (vbin o (ev tm x) (ev tm y)).map (·, H) := by simp only [aop, vbin]; split <;> simp_all
@[simp] theorem S_bin {o : BinOp} {x y : Operand} : R T Q (.ops (⟨dst, .bin o x y, none, sl⟩ :: l) :: K) .normal tm H ↔ Nv T Q (vbin o (ev tm x) (ev tm y)) dst l K tm H := by rw [R_op rfl, A_bin]; exact Nx_nv
@[simp] theorem SG_bin {o : BinOp} {x y : Operand} {gt : Nat} {gb : Bool} : R T Q (.ops (⟨dst, .bin o x y, some (gt, gb), sl⟩ :: l) :: K) .normal tm H ↔ if want tm (some (gt, gb)) = true then Nv T Q (vbin o (ev tm x) (ev tm y)) dst l K tm H else R T Q (.ops l :: K) .normal (put tm dst undef) H := by rw [R_gop rfl, A_bin]; simp only [Nx_nv]
theorem A_eq {n : Bool} {k : EqK} {x y : Operand} : aop (.eq n k x y) tm H = (veq n k (ev tm x) (ev tm y)).map (·, H) := by simp only [aop, veq]; split <;> simp_all [Function.comp_def]
@[simp] theorem S_eq {n : Bool} {k : EqK} {x y : Operand} : R T Q (.ops (⟨dst, .eq n k x y, none, sl⟩ :: l) :: K) .normal tm H ↔ Nv T Q (veq n k (ev tm x) (ev tm y)) dst l K tm H := by rw [R_op rfl, A_eq]; exact Nx_nv
@[simp] theorem SG_eq {n : Bool} {k : EqK} {x y : Operand} {gt : Nat} {gb : Bool} : R T Q (.ops (⟨dst, .eq n k x y, some (gt, gb), sl⟩ :: l) :: K) .normal tm H ↔ if want tm (some (gt, gb)) = true then Nv T Q (veq n k (ev tm x) (ev tm y)) dst l K tm H else R T Q (.ops l :: K) .normal (put tm dst undef) H := by rw [R_gop rfl, A_eq]; simp only [Nx_nv]
theorem A_un {o : UnOp} {x : Operand} : aop (.un o x) tm H = (vun o (ev tm x)).map (·, H) := by simp only [aop, vun]; split <;> simp_all
@[simp] theorem S_un {o : UnOp} {x : Operand} : R T Q (.ops (⟨dst, .un o x, none, sl⟩ :: l) :: K) .normal tm H ↔ Nv T Q (vun o (ev tm x)) dst l K tm H := by rw [R_op rfl, A_un]; exact Nx_nv
@[simp] theorem SG_un {o : UnOp} {x : Operand} {gt : Nat} {gb : Bool} : R T Q (.ops (⟨dst, .un o x, some (gt, gb), sl⟩ :: l) :: K) .normal tm H ↔ if want tm (some (gt, gb)) = true then Nv T Q (vun o (ev tm x)) dst l K tm H else R T Q (.ops l :: K) .normal (put tm dst undef) H := by rw [R_gop rfl, A_un]; simp only [Nx_nv]
theorem A_conv {k : IntKind} {x : Operand} : aop (.conv k x) tm H = (vconv k (ev tm x)).map (·, H) := by simp only [aop, vconv]; split <;> simp_all
@[simp] theorem S_conv {k : IntKind} {x : Operand} : R T Q (.ops (⟨dst, .conv k x, none, sl⟩ :: l) :: K) .normal tm H ↔ Nv T Q (vconv k (ev tm x)) dst l K tm H := by rw [R_op rfl, A_conv]; exact Nx_nv
@[simp] theorem SG_conv {k : IntKind} {x : Operand} {gt : Nat} {gb : Bool} : R T Q (.ops (⟨dst, .conv k x, some (gt, gb), sl⟩ :: l) :: K) .normal tm H ↔ if want tm (some (gt, gb)) = true then Nv T Q (vconv k (ev tm x)) dst l K tm H else R T Q (.ops l :: K) .normal (put tm dst undef) H := by rw [R_gop rfl, A_conv]; simp only [Nx_nv]
theorem A_build {z : List Value} {ps : List (Nat × Nat × Operand)} : aop (.build z ps) tm H = (vbuild z (ps.map fun p => (p.1, p.2.1, ev tm p.2.2))).map (·, H) := by simp only [aop, vbuild]; cases bfill z (ps.map fun p => (p.1, p.2.1, ev tm p.2.2)) <;> rfl
@[simp] theorem S_build {z : List Value} {ps : List (Nat × Nat × Operand)} : R T Q (.ops (⟨dst, .build z ps, none, sl⟩ :: l) :: K) .normal tm H ↔ Nv T Q (vbuild z (ps.map fun p => (p.1, p.2.1, ev tm p.2.2))) dst l K tm H := by rw [R_op rfl, A_build]; exact Nx_nv
@[simp] theorem SG_build {z : List Value} {ps : List (Nat × Nat × Operand)} {gt : Nat} {gb : Bool} : R T Q (.ops (⟨dst, .build z ps, some (gt, gb), sl⟩ :: l) :: K) .normal tm H ↔ if want tm (some (gt, gb)) = true then Nv T Q (vbuild z (ps.map fun p => (p.1, p.2.1, ev tm p.2.2))) dst l K tm H else R T Q (.ops l :: K) .normal (put tm dst undef) H := by rw [R_gop rfl, A_build]; simp only [Nx_nv]
theorem A_extract {x : Operand} {j : Nat} : aop (.extract x j) tm H = (vext j (ev tm x)).map (·, H) := by simp only [aop, vext]; split <;> simp_all
@[simp] theorem S_extract {x : Operand} {j : Nat} : R T Q (.ops (⟨dst, .extract x j, none, sl⟩ :: l) :: K) .normal tm H ↔ Nv T Q (vext j (ev tm x)) dst l K tm H := by rw [R_op rfl, A_extract]; exact Nx_nv
@[simp] theorem SG_extract {x : Operand} {j : Nat} {gt : Nat} {gb : Bool} : R T Q (.ops (⟨dst, .extract x j, some (gt, gb), sl⟩ :: l) :: K) .normal tm H ↔ if want tm (some (gt, gb)) = true then Nv T Q (vext j (ev tm x)) dst l K tm H else R T Q (.ops l :: K) .normal (put tm dst undef) H := by rw [R_gop rfl, A_extract]; simp only [Nx_nv]
theorem A_field {o n : Nat} {b : Bool} {x : Operand} : aop (.field o n b x) tm H = (vfield o n b (ev tm x)).map (·, H) := by simp only [aop, vfield]; split <;> simp_all; split <;> rfl
@[simp] theorem S_field {o n : Nat} {b : Bool} {x : Operand} : R T Q (.ops (⟨dst, .field o n b x, none, sl⟩ :: l) :: K) .normal tm H ↔ Nv T Q (vfield o n b (ev tm x)) dst l K tm H := by rw [R_op rfl, A_field]; exact Nx_nv
@[simp] theorem SG_field {o n : Nat} {b : Bool} {x : Operand} {gt : Nat} {gb : Bool} : R T Q (.ops (⟨dst, .field o n b x, some (gt, gb), sl⟩ :: l) :: K) .normal tm H ↔ if want tm (some (gt, gb)) = true then Nv T Q (vfield o n b (ev tm x)) dst l K tm H else R T Q (.ops l :: K) .normal (put tm dst undef) H := by rw [R_gop rfl, A_field]; simp only [Nx_nv]
theorem A_mkfn {f : Fn} {cs : List Operand} : aop (.mkfn f cs) tm H = (some (.func f #[] (cs.map (ev tm)).toArray)).map (·, H) := rfl
@[simp] theorem S_mkfn {f : Fn} {cs : List Operand} : R T Q (.ops (⟨dst, .mkfn f cs, none, sl⟩ :: l) :: K) .normal tm H ↔ Nv T Q (some (.func f #[] (cs.map (ev tm)).toArray)) dst l K tm H := by rw [R_op rfl, A_mkfn]; exact Nx_nv
@[simp] theorem SG_mkfn {f : Fn} {cs : List Operand} {gt : Nat} {gb : Bool} : R T Q (.ops (⟨dst, .mkfn f cs, some (gt, gb), sl⟩ :: l) :: K) .normal tm H ↔ if want tm (some (gt, gb)) = true then Nv T Q (some (.func f #[] (cs.map (ev tm)).toArray)) dst l K tm H else R T Q (.ops l :: K) .normal (put tm dst undef) H := by rw [R_gop rfl, A_mkfn]; simp only [Nx_nv]
theorem A_iface {t : TypeId} {x : Operand} : aop (.iface t x) tm H = (some (.iface t (ev tm x))).map (·, H) := rfl
@[simp] theorem S_iface {t : TypeId} {x : Operand} : R T Q (.ops (⟨dst, .iface t x, none, sl⟩ :: l) :: K) .normal tm H ↔ Nv T Q (some (.iface t (ev tm x))) dst l K tm H := by rw [R_op rfl, A_iface]; exact Nx_nv
@[simp] theorem SG_iface {t : TypeId} {x : Operand} {gt : Nat} {gb : Bool} : R T Q (.ops (⟨dst, .iface t x, some (gt, gb), sl⟩ :: l) :: K) .normal tm H ↔ if want tm (some (gt, gb)) = true then Nv T Q (some (.iface t (ev tm x))) dst l K tm H else R T Q (.ops l :: K) .normal (put tm dst undef) H := by rw [R_gop rfl, A_iface]; simp only [Nx_nv]
theorem A_nilchk {x : Operand} : aop (.nilchk x) tm H = (vnilchk (ev tm x)).map (·, H) := by simp only [aop, vnilchk]; split <;> simp_all
@[simp] theorem S_nilchk {x : Operand} : R T Q (.ops (⟨dst, .nilchk x, none, sl⟩ :: l) :: K) .normal tm H ↔ Nv T Q (vnilchk (ev tm x)) dst l K tm H := by rw [R_op rfl, A_nilchk]; exact Nx_nv
@[simp] theorem SG_nilchk {x : Operand} {gt : Nat} {gb : Bool} : R T Q (.ops (⟨dst, .nilchk x, some (gt, gb), sl⟩ :: l) :: K) .normal tm H ↔ if want tm (some (gt, gb)) = true then Nv T Q (vnilchk (ev tm x)) dst l K tm H else R T Q (.ops l :: K) .normal (put tm dst undef) H := by rw [R_gop rfl, A_nilchk]; simp only [Nx_nv]
theorem A_faddr {o : Nat} {x : Operand} : aop (.faddr o x) tm H = (vfaddr o (ev tm x)).map (·, H) := by simp only [aop, vfaddr]; split <;> simp_all
@[simp] theorem S_faddr {o : Nat} {x : Operand} : R T Q (.ops (⟨dst, .faddr o x, none, sl⟩ :: l) :: K) .normal tm H ↔ Nv T Q (vfaddr o (ev tm x)) dst l K tm H := by rw [R_op rfl, A_faddr]; exact Nx_nv
@[simp] theorem SG_faddr {o : Nat} {x : Operand} {gt : Nat} {gb : Bool} : R T Q (.ops (⟨dst, .faddr o x, some (gt, gb), sl⟩ :: l) :: K) .normal tm H ↔ if want tm (some (gt, gb)) = true then Nv T Q (vfaddr o (ev tm x)) dst l K tm H else R T Q (.ops l :: K) .normal (put tm dst undef) H := by rw [R_gop rfl, A_faddr]; simp only [Nx_nv]
theorem A_idxs {s : Nat} {x j : Operand} : aop (.idxs s x j) tm H = (vidxs s (ev tm x) (ev tm j)).map (·, H) := by simp only [aop, vidxs]; split <;> simp_all <;> (split <;> rfl)
@[simp] theorem S_idxs {s : Nat} {x j : Operand} : R T Q (.ops (⟨dst, .idxs s x j, none, sl⟩ :: l) :: K) .normal tm H ↔ Nv T Q (vidxs s (ev tm x) (ev tm j)) dst l K tm H := by rw [R_op rfl, A_idxs]; exact Nx_nv
@[simp] theorem SG_idxs {s : Nat} {x j : Operand} {gt : Nat} {gb : Bool} : R T Q (.ops (⟨dst, .idxs s x j, some (gt, gb), sl⟩ :: l) :: K) .normal tm H ↔ if want tm (some (gt, gb)) = true then Nv T Q (vidxs s (ev tm x) (ev tm j)) dst l K tm H else R T Q (.ops l :: K) .normal (put tm dst undef) H := by rw [R_gop rfl, A_idxs]; simp only [Nx_nv]
theorem A_idx {n s : Nat} {b : Bool} {x j : Operand} : aop (.idx n s b x j) tm H = (vidx n s b (ev tm x) (ev tm j)).map (·, H) := by simp only [aop, vidx]; split <;> simp_all <;> (split <;> rfl)
@[simp] theorem S_idx {n s : Nat} {b : Bool} {x j : Operand} : R T Q (.ops (⟨dst, .idx n s b x j, none, sl⟩ :: l) :: K) .normal tm H ↔ Nv T Q (vidx n s b (ev tm x) (ev tm j)) dst l K tm H := by rw [R_op rfl, A_idx]; exact Nx_nv
@[simp] theorem SG_idx {n s : Nat} {b : Bool} {x j : Operand} {gt : Nat} {gb : Bool} : R T Q (.ops (⟨dst, .idx n s b x j, some (gt, gb), sl⟩ :: l) :: K) .normal tm H ↔ if want tm (some (gt, gb)) = true then Nv T Q (vidx n s b (ev tm x) (ev tm j)) dst l K tm H else R T Q (.ops l :: K) .normal (put tm dst undef) H := by rw [R_gop rfl, A_idx]; simp only [Nx_nv]
theorem A_slice {s : Nat} {x : Operand} {a b : Option Operand} : aop (.slice s x a b) tm H = (aslice H s (ev tm x) (a.map (ev tm)) (b.map (ev tm))).map (·, H) := rfl
@[simp] theorem S_slice {s : Nat} {x : Operand} {a b : Option Operand} : R T Q (.ops (⟨dst, .slice s x a b, none, sl⟩ :: l) :: K) .normal tm H ↔ Nv T Q (aslice H s (ev tm x) (a.map (ev tm)) (b.map (ev tm))) dst l K tm H := by rw [R_op rfl, A_slice]; exact Nx_nv
@[simp] theorem SG_slice {s : Nat} {x : Operand} {a b : Option Operand} {gt : Nat} {gb : Bool} : R T Q (.ops (⟨dst, .slice s x a b, some (gt, gb), sl⟩ :: l) :: K) .normal tm H ↔ if want tm (some (gt, gb)) = true then Nv T Q (aslice H s (ev tm x) (a.map (ev tm)) (b.map (ev tm))) dst l K tm H else R T Q (.ops l :: K) .normal (put tm dst undef) H := by rw [R_gop rfl, A_slice]; simp only [Nx_nv]
theorem A_len {x : Operand} : aop (.len x) tm H = (vlen (ev tm x)).map (·, H) := by simp only [aop, vlen]; split <;> simp_all
@[simp] theorem S_len {x : Operand} : R T Q (.ops (⟨dst, .len x, none, sl⟩ :: l) :: K) .normal tm H ↔ Nv T Q (vlen (ev tm x)) dst l K tm H := by rw [R_op rfl, A_len]; exact Nx_nv
@[simp] theorem SG_len {x : Operand} {gt : Nat} {gb : Bool} : R T Q (.ops (⟨dst, .len x, some (gt, gb), sl⟩ :: l) :: K) .normal tm H ↔ if want tm (some (gt, gb)) = true then Nv T Q (vlen (ev tm x)) dst l K tm H else R T Q (.ops l :: K) .normal (put tm dst undef) H := by rw [R_gop rfl, A_len]; simp only [Nx_nv]
theorem A_mm {b : Bool} {xs : List Operand} : aop (.mm b xs) tm H = (vmm b (xs.map (ev tm))).map (·, H) := by simp only [aop, vmm]; split <;> simp_all
@[simp] theorem S_mm {b : Bool} {xs : List Operand} : R T Q (.ops (⟨dst, .mm b xs, none, sl⟩ :: l) :: K) .normal tm H ↔ Nv T Q (vmm b (xs.map (ev tm))) dst l K tm H := by rw [R_op rfl, A_mm]; exact Nx_nv
@[simp] theorem SG_mm {b : Bool} {xs : List Operand} {gt : Nat} {gb : Bool} : R T Q (.ops (⟨dst, .mm b xs, some (gt, gb), sl⟩ :: l) :: K) .normal tm H ↔ if want tm (some (gt, gb)) = true then Nv T Q (vmm b (xs.map (ev tm))) dst l K tm H else R T Q (.ops l :: K) .normal (put tm dst undef) H := by rw [R_gop rfl, A_mm]; simp only [Nx_nv]
theorem A_load {n : Nat} {b : Bool} {x : Operand} : aop (.load n b x) tm H = (vload H n b (ev tm x)).map (·, H) := by simp only [aop, vload]; split <;> simp_all <;> (split <;> simp [Option.map_bind])
@[simp] theorem S_load {n : Nat} {b : Bool} {x : Operand} : R T Q (.ops (⟨dst, .load n b x, none, sl⟩ :: l) :: K) .normal tm H ↔ Nv T Q (vload H n b (ev tm x)) dst l K tm H := by rw [R_op rfl, A_load]; exact Nx_nv
@[simp] theorem SG_load {n : Nat} {b : Bool} {x : Operand} {gt : Nat} {gb : Bool} : R T Q (.ops (⟨dst, .load n b x, some (gt, gb), sl⟩ :: l) :: K) .normal tm H ↔ if want tm (some (gt, gb)) = true then Nv T Q (vload H n b (ev tm x)) dst l K tm H else R T Q (.ops l :: K) .normal (put tm dst undef) H := by rw [R_gop rfl, A_load]; simp only [Nx_nv]
theorem A_store {n : Nat} {a x : Operand} : aop (.store n a x) tm H = (hstore n (ev tm a) (ev tm x) H).map (undef, ·) := by simp only [aop, hstore]; split <;> simp_all <;> (split <;> simp_all <;> (split <;> rfl))
@[simp] theorem S_store {n : Nat} {a x : Operand} : R T Q (.ops (⟨dst, .store n a x, none, sl⟩ :: l) :: K) .normal tm H ↔ Nh T Q (hstore n (ev tm a) (ev tm x) H) dst l K tm := by rw [R_op rfl, A_store]; exact Nx_nh
@[simp] theorem SG_store {n : Nat} {a x : Operand} {gt : Nat} {gb : Bool} : R T Q (.ops (⟨dst, .store n a x, some (gt, gb), sl⟩ :: l) :: K) .normal tm H ↔ if want tm (some (gt, gb)) = true then Nh T Q (hstore n (ev tm a) (ev tm x) H) dst l K tm else R T Q (.ops l :: K) .normal (put tm dst undef) H := by rw [R_gop rfl, A_store]; simp only [Nx_nh]
theorem A_alloc {z : List Value} : aop (.alloc z) tm H = (some (.pointer (some ⟨H.length, 0, none⟩), .rw 0 z)).map fun p => (p.1, H ++ [p.2]) := rfl
@[simp] theorem S_alloc {z : List Value} : R T Q (.ops (⟨dst, .alloc z, none, sl⟩ :: l) :: K) .normal tm H ↔ Nn T Q (some (.pointer (some ⟨H.length, 0, none⟩), .rw 0 z)) dst l K tm H := by rw [R_op rfl, A_alloc]; exact Nx_nn
@[simp] theorem SG_alloc {z : List Value} {gt : Nat} {gb : Bool} : R T Q (.ops (⟨dst, .alloc z, some (gt, gb), sl⟩ :: l) :: K) .normal tm H ↔ if want tm (some (gt, gb)) = true then Nn T Q (some (.pointer (some ⟨H.length, 0, none⟩), .rw 0 z)) dst l K tm H else R T Q (.ops l :: K) .normal (put tm dst undef) H := by rw [R_gop rfl, A_alloc]; simp only [Nx_nn]
theorem A_box {x : Operand} : aop (.box x) tm H = (some (.pointer (some ⟨H.length, 0, none⟩), .rw 0 (ev tm x).cells.toList)).map fun p => (p.1, H ++ [p.2]) := rfl
@[simp] theorem S_box {x : Operand} : R T Q (.ops (⟨dst, .box x, none, sl⟩ :: l) :: K) .normal tm H ↔ Nn T Q (some (.pointer (some ⟨H.length, 0, none⟩), .rw 0 (ev tm x).cells.toList)) dst l K tm H := by rw [R_op rfl, A_box]; exact Nx_nn
@[simp] theorem SG_box {x : Operand} {gt : Nat} {gb : Bool} : R T Q (.ops (⟨dst, .box x, some (gt, gb), sl⟩ :: l) :: K) .normal tm H ↔ if want tm (some (gt, gb)) = true then Nn T Q (some (.pointer (some ⟨H.length, 0, none⟩), .rw 0 (ev tm x).cells.toList)) dst l K tm H else R T Q (.ops l :: K) .normal (put tm dst undef) H := by rw [R_gop rfl, A_box]; simp only [Nx_nn]
theorem A_mkslice {s b : Nat} {z : List Value} {n c : Operand} : aop (.mkslice s b z n c) tm H = (hmks s b z (ev tm n) (ev tm c) H.length).map fun p => (p.1, H ++ [p.2]) := by simp only [aop, anew, hmks]; split <;> simp_all
@[simp] theorem S_mkslice {s b : Nat} {z : List Value} {n c : Operand} : R T Q (.ops (⟨dst, .mkslice s b z n c, none, sl⟩ :: l) :: K) .normal tm H ↔ Nn T Q (hmks s b z (ev tm n) (ev tm c) H.length) dst l K tm H := by rw [R_op rfl, A_mkslice]; exact Nx_nn
@[simp] theorem SG_mkslice {s b : Nat} {z : List Value} {n c : Operand} {gt : Nat} {gb : Bool} : R T Q (.ops (⟨dst, .mkslice s b z n c, some (gt, gb), sl⟩ :: l) :: K) .normal tm H ↔ if want tm (some (gt, gb)) = true then Nn T Q (hmks s b z (ev tm n) (ev tm c) H.length) dst l K tm H else R T Q (.ops l :: K) .normal (put tm dst undef) H := by rw [R_gop rfl, A_mkslice]; simp only [Nx_nn]
theorem A_bslice {s n : Nat} {z : List Value} {ps : List (Nat × Nat × Operand)} : aop (.bslice s n z ps) tm H = (hbs s n z (ps.map fun p => (p.1, p.2.1, ev tm p.2.2)) H.length).map fun p => (p.1, H ++ [p.2]) := rfl
@[simp] theorem S_bslice {s n : Nat} {z : List Value} {ps : List (Nat × Nat × Operand)} : R T Q (.ops (⟨dst, .bslice s n z ps, none, sl⟩ :: l) :: K) .normal tm H ↔ Nn T Q (hbs s n z (ps.map fun p => (p.1, p.2.1, ev tm p.2.2)) H.length) dst l K tm H := by rw [R_op rfl, A_bslice]; exact Nx_nn
@[simp] theorem SG_bslice {s n : Nat} {z : List Value} {ps : List (Nat × Nat × Operand)} {gt : Nat} {gb : Bool} : R T Q (.ops (⟨dst, .bslice s n z ps, some (gt, gb), sl⟩ :: l) :: K) .normal tm H ↔ if want tm (some (gt, gb)) = true then Nn T Q (hbs s n z (ps.map fun p => (p.1, p.2.1, ev tm p.2.2)) H.length) dst l K tm H else R T Q (.ops l :: K) .normal (put tm dst undef) H := by rw [R_gop rfl, A_bslice]; simp only [Nx_nn]
theorem A_append {s b : Nat} {x y : Operand} : aop (.append s b x y) tm H = aappend s b (ev tm x) (ev tm y) H := rfl
@[simp] theorem S_append {s b : Nat} {x y : Operand} : R T Q (.ops (⟨dst, .append s b x y, none, sl⟩ :: l) :: K) .normal tm H ↔ Nx T Q (aappend s b (ev tm x) (ev tm y) H) dst l K tm := by rw [R_op rfl, A_append]
@[simp] theorem SG_append {s b : Nat} {x y : Operand} {gt : Nat} {gb : Bool} : R T Q (.ops (⟨dst, .append s b x y, some (gt, gb), sl⟩ :: l) :: K) .normal tm H ↔ if want tm (some (gt, gb)) = true then Nx T Q (aappend s b (ev tm x) (ev tm y) H) dst l K tm else R T Q (.ops l :: K) .normal (put tm dst undef) H := by rw [R_gop rfl, A_append]

/-! ### Regions that draw their order -/
/-- What comes next in them. -/
def Dv (T : FuncId → Option AFunc) (Q : AX → Tm → Hp → Prop) (r : Option Value) (base m : Nat) (all : List DOp) (p : List (Nat × Nat)) (i : Nat) (tr : List St) (dst : Option Nat) (l : List DOp) (K : List Fk) (tm : Tm) (H : Hp) : Prop :=
  ∃ v, r = some v ∧ R T Q (.dops base m all p (i + 1) (tr ++ [(tm, H)]) l :: K) .normal (put tm dst v) H
@[simp] theorem Dv_some {v : Value} : Dv T Q (some v) base m all p i tr dst l K tm H ↔ R T Q (.dops base m all p (i + 1) (tr ++ [(tm, H)]) l :: K) .normal (put tm dst v) H := ⟨fun ⟨_, h, k⟩ => by cases h; exact k, fun h => ⟨_, rfl, h⟩⟩
theorem Dv_of {r : Option Value} {v : Value} (h : r = some v) (k : R T Q (.dops base m all p (i + 1) (tr ++ [(tm, H)]) l :: K) .normal (put tm dst v) H) : Dv T Q r base m all p i tr dst l K tm H := ⟨v, h, k⟩
theorem Dx_dv {r : Option Value} : Dx T Q (r.map (·, H)) base m all p (i + 1) (tr ++ [(tm, H)]) dst l K tm ↔ Dv T Q r base m all p i tr dst l K tm H := by
  cases r with
  | none => exact ⟨fun ⟨_, _, h, _⟩ => by (cases h), fun ⟨_, h, _⟩ => by (cases h)⟩
  | some v => exact Dx_some.trans Dv_some.symm
def Dh (T : FuncId → Option AFunc) (Q : AX → Tm → Hp → Prop) (r : Option Hp) (base m : Nat) (all : List DOp) (p : List (Nat × Nat)) (i : Nat) (tr : List St) (dst : Option Nat) (l : List DOp) (K : List Fk) (tm : Tm) (H : Hp) : Prop :=
  ∃ H1, r = some H1 ∧ R T Q (.dops base m all p (i + 1) (tr ++ [(tm, H)]) l :: K) .normal (put tm dst undef) H1
@[simp] theorem Dh_some {H1 : Hp} : Dh T Q (some H1) base m all p i tr dst l K tm H ↔ R T Q (.dops base m all p (i + 1) (tr ++ [(tm, H)]) l :: K) .normal (put tm dst undef) H1 := ⟨fun ⟨_, h, k⟩ => by cases h; exact k, fun h => ⟨_, rfl, h⟩⟩
theorem Dh_of {r : Option Hp} {H1 : Hp} (h : r = some H1) (k : R T Q (.dops base m all p (i + 1) (tr ++ [(tm, H)]) l :: K) .normal (put tm dst undef) H1) : Dh T Q r base m all p i tr dst l K tm H := ⟨H1, h, k⟩
theorem Dx_dh {r : Option Hp} : Dx T Q (r.map (undef, ·)) base m all p (i + 1) (tr ++ [(tm, H)]) dst l K tm ↔ Dh T Q r base m all p i tr dst l K tm H := by
  cases r with
  | none => exact ⟨fun ⟨_, _, h, _⟩ => by (cases h), fun ⟨_, h, _⟩ => by (cases h)⟩
  | some v => exact Dx_some.trans Dh_some.symm
def Dn (T : FuncId → Option AFunc) (Q : AX → Tm → Hp → Prop) (r : Option (Value × Blk)) (base m : Nat) (all : List DOp) (p : List (Nat × Nat)) (i : Nat) (tr : List St) (dst : Option Nat) (l : List DOp) (K : List Fk) (tm : Tm) (H : Hp) : Prop :=
  ∃ v b, r = some (v, b) ∧ R T Q (.dops base m all p (i + 1) (tr ++ [(tm, H)]) l :: K) .normal (put tm dst v) (H.set (base + i) b)
@[simp] theorem Dn_some {v : Value} {b : Blk} : Dn T Q (some (v, b)) base m all p i tr dst l K tm H ↔ R T Q (.dops base m all p (i + 1) (tr ++ [(tm, H)]) l :: K) .normal (put tm dst v) (H.set (base + i) b) := ⟨fun ⟨_, _, h, k⟩ => by cases h; exact k, fun h => ⟨_, _, rfl, h⟩⟩
theorem Dx_dn {r : Option (Value × Blk)} : Dx T Q (r.map fun p => (p.1, H.set (base + i) p.2)) base m all p (i + 1) (tr ++ [(tm, H)]) dst l K tm ↔ Dn T Q r base m all p i tr dst l K tm H := by
  cases r with
  | none => exact ⟨fun ⟨_, _, h, _⟩ => by (cases h), fun ⟨_, _, h, _⟩ => by (cases h)⟩
  | some v => exact Dx_some.trans Dn_some.symm
@[simp] theorem D_mv {x : Operand} : R T Q (.dops base m all p i tr (⟨dst, .mv x, none, sl⟩ :: l) :: K) .normal tm H ↔ Dv T Q (some (ev tm x)) base m all p i tr dst l K tm H := by rw [R_dop rfl]; simp only [dstep, want, kindOf, if_true, arun]; rw [A_mv]; exact Dx_dv
@[simp] theorem D_pick {c a b : Operand} : R T Q (.dops base m all p i tr (⟨dst, .pick c a b, none, sl⟩ :: l) :: K) .normal tm H ↔ Dv T Q (vpick (ev tm c) (ev tm a) (ev tm b)) base m all p i tr dst l K tm H := by rw [R_dop rfl]; simp only [dstep, want, kindOf, if_true, arun]; rw [A_pick]; exact Dx_dv
@[simp] theorem D_bin {o : BinOp} {x y : Operand} : R T Q (.dops base m all p i tr (⟨dst, .bin o x y, none, sl⟩ :: l) :: K) .normal tm H ↔ Dv T Q (vbin o (ev tm x) (ev tm y)) base m all p i tr dst l K tm H := by rw [R_dop rfl]; simp only [dstep, want, kindOf, if_true, arun]; rw [A_bin]; exact Dx_dv
@[simp] theorem D_eq {n : Bool} {k : EqK} {x y : Operand} : R T Q (.dops base m all p i tr (⟨dst, .eq n k x y, none, sl⟩ :: l) :: K) .normal tm H ↔ Dv T Q (veq n k (ev tm x) (ev tm y)) base m all p i tr dst l K tm H := by rw [R_dop rfl]; simp only [dstep, want, kindOf, if_true, arun]; rw [A_eq]; exact Dx_dv
@[simp] theorem D_un {o : UnOp} {x : Operand} : R T Q (.dops base m all p i tr (⟨dst, .un o x, none, sl⟩ :: l) :: K) .normal tm H ↔ Dv T Q (vun o (ev tm x)) base m all p i tr dst l K tm H := by rw [R_dop rfl]; simp only [dstep, want, kindOf, if_true, arun]; rw [A_un]; exact Dx_dv
@[simp] theorem D_conv {k : IntKind} {x : Operand} : R T Q (.dops base m all p i tr (⟨dst, .conv k x, none, sl⟩ :: l) :: K) .normal tm H ↔ Dv T Q (vconv k (ev tm x)) base m all p i tr dst l K tm H := by rw [R_dop rfl]; simp only [dstep, want, kindOf, if_true, arun]; rw [A_conv]; exact Dx_dv
@[simp] theorem D_build {z : List Value} {ps : List (Nat × Nat × Operand)} : R T Q (.dops base m all p i tr (⟨dst, .build z ps, none, sl⟩ :: l) :: K) .normal tm H ↔ Dv T Q (vbuild z (ps.map fun p => (p.1, p.2.1, ev tm p.2.2))) base m all p i tr dst l K tm H := by rw [R_dop rfl]; simp only [dstep, want, kindOf, if_true, arun]; rw [A_build]; exact Dx_dv
@[simp] theorem D_extract {x : Operand} {j : Nat} : R T Q (.dops base m all p i tr (⟨dst, .extract x j, none, sl⟩ :: l) :: K) .normal tm H ↔ Dv T Q (vext j (ev tm x)) base m all p i tr dst l K tm H := by rw [R_dop rfl]; simp only [dstep, want, kindOf, if_true, arun]; rw [A_extract]; exact Dx_dv
@[simp] theorem D_field {o n : Nat} {b : Bool} {x : Operand} : R T Q (.dops base m all p i tr (⟨dst, .field o n b x, none, sl⟩ :: l) :: K) .normal tm H ↔ Dv T Q (vfield o n b (ev tm x)) base m all p i tr dst l K tm H := by rw [R_dop rfl]; simp only [dstep, want, kindOf, if_true, arun]; rw [A_field]; exact Dx_dv
@[simp] theorem D_mkfn {f : Fn} {cs : List Operand} : R T Q (.dops base m all p i tr (⟨dst, .mkfn f cs, none, sl⟩ :: l) :: K) .normal tm H ↔ Dv T Q (some (.func f #[] (cs.map (ev tm)).toArray)) base m all p i tr dst l K tm H := by rw [R_dop rfl]; simp only [dstep, want, kindOf, if_true, arun]; rw [A_mkfn]; exact Dx_dv
@[simp] theorem D_iface {t : TypeId} {x : Operand} : R T Q (.dops base m all p i tr (⟨dst, .iface t x, none, sl⟩ :: l) :: K) .normal tm H ↔ Dv T Q (some (.iface t (ev tm x))) base m all p i tr dst l K tm H := by rw [R_dop rfl]; simp only [dstep, want, kindOf, if_true, arun]; rw [A_iface]; exact Dx_dv
@[simp] theorem D_nilchk {x : Operand} : R T Q (.dops base m all p i tr (⟨dst, .nilchk x, none, sl⟩ :: l) :: K) .normal tm H ↔ Dv T Q (vnilchk (ev tm x)) base m all p i tr dst l K tm H := by rw [R_dop rfl]; simp only [dstep, want, kindOf, if_true, arun]; rw [A_nilchk]; exact Dx_dv
@[simp] theorem D_faddr {o : Nat} {x : Operand} : R T Q (.dops base m all p i tr (⟨dst, .faddr o x, none, sl⟩ :: l) :: K) .normal tm H ↔ Dv T Q (vfaddr o (ev tm x)) base m all p i tr dst l K tm H := by rw [R_dop rfl]; simp only [dstep, want, kindOf, if_true, arun]; rw [A_faddr]; exact Dx_dv
@[simp] theorem D_idxs {s : Nat} {x j : Operand} : R T Q (.dops base m all p i tr (⟨dst, .idxs s x j, none, sl⟩ :: l) :: K) .normal tm H ↔ Dv T Q (vidxs s (ev tm x) (ev tm j)) base m all p i tr dst l K tm H := by rw [R_dop rfl]; simp only [dstep, want, kindOf, if_true, arun]; rw [A_idxs]; exact Dx_dv
@[simp] theorem D_idx {n s : Nat} {b : Bool} {x j : Operand} : R T Q (.dops base m all p i tr (⟨dst, .idx n s b x j, none, sl⟩ :: l) :: K) .normal tm H ↔ Dv T Q (vidx n s b (ev tm x) (ev tm j)) base m all p i tr dst l K tm H := by rw [R_dop rfl]; simp only [dstep, want, kindOf, if_true, arun]; rw [A_idx]; exact Dx_dv
@[simp] theorem D_slice {s : Nat} {x : Operand} {a b : Option Operand} : R T Q (.dops base m all p i tr (⟨dst, .slice s x a b, none, sl⟩ :: l) :: K) .normal tm H ↔ Dv T Q (if rdOk base m ⟨dst, .slice s x a b, none, sl⟩ tm = true then aslice H s (ev tm x) (a.map (ev tm)) (b.map (ev tm)) else none) base m all p i tr dst l K tm H := by
  rw [R_dop rfl]; simp only [dstep, want, kindOf, if_true]; rw [A_slice]; split
  · exact Dx_dv
  · exact ⟨fun ⟨_, _, h, _⟩ => by (cases h), fun ⟨_, h, _⟩ => by (cases h)⟩
@[simp] theorem D_len {x : Operand} : R T Q (.dops base m all p i tr (⟨dst, .len x, none, sl⟩ :: l) :: K) .normal tm H ↔ Dv T Q (vlen (ev tm x)) base m all p i tr dst l K tm H := by rw [R_dop rfl]; simp only [dstep, want, kindOf, if_true, arun]; rw [A_len]; exact Dx_dv
@[simp] theorem D_mm {b : Bool} {xs : List Operand} : R T Q (.dops base m all p i tr (⟨dst, .mm b xs, none, sl⟩ :: l) :: K) .normal tm H ↔ Dv T Q (vmm b (xs.map (ev tm))) base m all p i tr dst l K tm H := by rw [R_dop rfl]; simp only [dstep, want, kindOf, if_true, arun]; rw [A_mm]; exact Dx_dv
@[simp] theorem D_load {n : Nat} {b : Bool} {x : Operand} : R T Q (.dops base m all p i tr (⟨dst, .load n b x, none, sl⟩ :: l) :: K) .normal tm H ↔ Dv T Q (if rdOk base m ⟨dst, .load n b x, none, sl⟩ tm = true then vload H n b (ev tm x) else none) base m all p i tr dst l K tm H := by
  rw [R_dop rfl]; simp only [dstep, want, kindOf, if_true]; rw [A_load]; split
  · exact Dx_dv
  · exact ⟨fun ⟨_, _, h, _⟩ => by (cases h), fun ⟨_, h, _⟩ => by (cases h)⟩
@[simp] theorem D_store {n : Nat} {a x : Operand} : R T Q (.dops base m all p i tr (⟨dst, .store n a x, none, sl⟩ :: l) :: K) .normal tm H ↔ Dh T Q (hstore n (ev tm a) (ev tm x) H) base m all p i tr dst l K tm H := by rw [R_dop rfl]; simp only [dstep, want, kindOf, if_true, arun]; rw [A_store]; exact Dx_dh
theorem AN_alloc {z : List Value} {k : Nat} : anew (.alloc z) tm k = some (.pointer (some ⟨k, 0, none⟩), .rw 0 z) := rfl
@[simp] theorem D_alloc {z : List Value} : R T Q (.dops base m all p i tr (⟨dst, .alloc z, none, sl⟩ :: l) :: K) .normal tm H ↔ Dn T Q (some (.pointer (some ⟨(base + i), 0, none⟩), .rw 0 z)) base m all p i tr dst l K tm H := by rw [R_dop rfl]; simp only [dstep, want, kindOf, if_true]; rw [AN_alloc]; exact Dx_dn
theorem AN_box {x : Operand} {k : Nat} : anew (.box x) tm k = some (.pointer (some ⟨k, 0, none⟩), .rw 0 (ev tm x).cells.toList) := rfl
@[simp] theorem D_box {x : Operand} : R T Q (.dops base m all p i tr (⟨dst, .box x, none, sl⟩ :: l) :: K) .normal tm H ↔ Dn T Q (some (.pointer (some ⟨(base + i), 0, none⟩), .rw 0 (ev tm x).cells.toList)) base m all p i tr dst l K tm H := by rw [R_dop rfl]; simp only [dstep, want, kindOf, if_true]; rw [AN_box]; exact Dx_dn
theorem AN_mkslice {s b : Nat} {z : List Value} {n c : Operand} {k : Nat} : anew (.mkslice s b z n c) tm k = hmks s b z (ev tm n) (ev tm c) k := by simp only [anew, hmks]; split <;> simp_all
@[simp] theorem D_mkslice {s b : Nat} {z : List Value} {n c : Operand} : R T Q (.dops base m all p i tr (⟨dst, .mkslice s b z n c, none, sl⟩ :: l) :: K) .normal tm H ↔ Dn T Q (hmks s b z (ev tm n) (ev tm c) (base + i)) base m all p i tr dst l K tm H := by rw [R_dop rfl]; simp only [dstep, want, kindOf, if_true]; rw [AN_mkslice]; exact Dx_dn
theorem AN_bslice {s n : Nat} {z : List Value} {ps : List (Nat × Nat × Operand)} {k : Nat} : anew (.bslice s n z ps) tm k = hbs s n z (ps.map fun p => (p.1, p.2.1, ev tm p.2.2)) k := rfl
@[simp] theorem D_bslice {s n : Nat} {z : List Value} {ps : List (Nat × Nat × Operand)} : R T Q (.dops base m all p i tr (⟨dst, .bslice s n z ps, none, sl⟩ :: l) :: K) .normal tm H ↔ Dn T Q (hbs s n z (ps.map fun p => (p.1, p.2.1, ev tm p.2.2)) (base + i)) base m all p i tr dst l K tm H := by rw [R_dop rfl]; simp only [dstep, want, kindOf, if_true]; rw [AN_bslice]; exact Dx_dn
@[simp] theorem D_append {s b : Nat} {x y : Operand} : R T Q (.dops base m all p i tr (⟨dst, .append s b x y, none, sl⟩ :: l) :: K) .normal tm H ↔ Dx T Q (aappend s b (ev tm x) (ev tm y) H) base m all p (i + 1) (tr ++ [(tm, H)]) dst l K tm := by rw [R_dop rfl]; simp only [dstep, want, kindOf, if_true, arun]; rw [A_append]
@[simp] theorem want_some (t : Nat) (b c : Bool) (h : tm t = .bool c) : want tm (some (t, b)) = (c == b) := by simp only [want, h]
end
end Go.Ab

