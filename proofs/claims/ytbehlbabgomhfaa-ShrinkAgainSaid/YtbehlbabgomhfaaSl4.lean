/- Steps of code under the assertions, one rule an operation. Own work. -/
import Derived.Test.YtbehlbabgomhfaaSl3
namespace Go.Ab
open Go Go.Pu

def ub (tm : Tm) (t : Nat) (v : Value) : Tm := fun u => bif Nat.beq u t then v else tm u
theorem upd_ub (tm : Tm) (t : Nat) (v : Value) : upd tm t v = ub tm t v := by
  funext u
  unfold upd ub
  by_cases h : u = t
  · subst h; simp
  · have : Nat.beq u t = false := by
      rw [← Bool.not_eq_true]; intro e; exact h (Nat.eq_of_beq_eq_true e)
    simp [h, this]

variable {T : FuncId → Option AFunc} {Q : AX → Tm → Hp → Prop} {K : List Fk} {tm : Tm} {H : Hp} {l : List DOp} {sl : List Nat} {t : Nat}

/-! ### Code -/
theorem c_sr {r : List DOp} {b : ACode} (k : R T Q (.ops r :: .code b :: K) .normal tm H) : R T Q (.code (.seq (.region r) b) :: K) .normal tm H := .seq (.region k)
theorem c_r {r : List DOp} (k : R T Q (.ops r :: K) .normal tm H) : R T Q (.code (.region r) :: K) .normal tm H := .region k
theorem c_sq {a b : ACode} (k : R T Q (.code a :: .code b :: K) .normal tm H) : R T Q (.code (.seq a b) :: K) .normal tm H := .seq k
theorem c_bk {i : Nat} {c : ACode} (k : R T Q (.code c :: .endb i :: K) .normal tm H) : R T Q (.code (.block i c) :: K) .normal tm H := .block k
theorem c_sk (k : R T Q K .normal tm H) : R T Q (.code .skip :: K) .normal tm H := .skip k
theorem c_nil (k : R T Q K .normal tm H) : R T Q (.ops [] :: K) .normal tm H := .nil k
theorem c_end {i : Nat} (k : R T Q K .normal tm H) : R T Q (.endb i :: K) .normal tm H := .endn k
theorem c_any (k : Q .ret tm H) : ∀ K : List Fk, R T Q K .ret tm H
  | [] => .done k
  | .endb i :: K => .far (by simp) (by simp) (c_any k K)
  | .code c :: K => .past (by simp) (by simp) (c_any k K)
  | .ops c :: K => .past (by simp) (by simp) (c_any k K)
  | .dops .. :: K => .past (by simp) (by simp) (c_any k K)
theorem c_rt (k : Q .ret tm H) : R T Q (.code .ret :: K) .normal tm H := .ret (c_any k K)
theorem c_done (k : Q .normal tm H) : R T Q [] .normal tm H := .done k
theorem c_ex {i : Nat} (k : R T Q K (.exit i) tm H) : R T Q (.code (.exit i) :: K) .normal tm H := .exit k
theorem e_c {i : Nat} {c : ACode} (k : R T Q K (.exit i) tm H) : R T Q (.code c :: K) (.exit i) tm H := .past (by simp) (by simp) k
theorem e_h {i : Nat} (k : R T Q K .normal tm H) : R T Q (.endb i :: K) (.exit i) tm H := .here k
theorem e_f {i j : Nat} (h : Nat.beq i j = false) (k : R T Q K (.exit i) tm H) : R T Q (.endb j :: K) (.exit i) tm H :=
  .far (by simp) (by simp; intro e; subst e; simp at h) k
theorem c_if {c : Operand} {a b : ACode} {x : Bool} (hc : ev tm c = .bool x) (h1 : x = true → R T Q (.code a :: K) .normal tm H) (h2 : x = false → R T Q (.code b :: K) .normal tm H) : R T Q (.code (.cond c a b) :: K) .normal tm H := by
  refine .cond x hc ?_
  cases x
  · exact h2 rfl
  · exact h1 rfl
theorem c_ifd {c : Operand} {a b : ACode} {p : Prop} [Decidable p] (hc : ev tm c = .bool (decide p)) (h1 : p → R T Q (.code a :: K) .normal tm H) (h2 : ¬ p → R T Q (.code b :: K) .normal tm H) : R T Q (.code (.cond c a b) :: K) .normal tm H :=
  c_if hc (fun h => h1 (of_decide_eq_true h)) (fun h => h2 (of_decide_eq_false h))
theorem c_gen {P : Tm → Prop} (hp : P tm) (k : ∀ tm', P tm' → R T Q K .normal tm' H) : R T Q K .normal tm H := k tm hp
/-- What comes behind is shown first, for all ways that lead to it. -/
theorem c_join {c : Fk} {I : Tm → Hp → Prop} (k : ∀ tm' H', I tm' H' → R T Q K .normal tm' H') (h : (∀ tm' H', I tm' H' → R T Q K .normal tm' H') → R T Q (c :: K) .normal tm H) : R T Q (c :: K) .normal tm H := h k
theorem f_mk {f : FuncId} {F : AFunc} (hf : Has T f F) {args : List Value} {P : Value → Hp → Prop}
    (h : R T (fun x tm H' => (x = .normal ∨ x = .ret) ∧ ∃ r, aresults F.results tm H' = some r ∧ P r H') [.code F.body] .normal (initTm args) H) : G T f args H P := G.mk h
theorem ar1 {t : Nat} {v : Value} (h : tm t = v) : aresults [.tmp t] tm H = some v := by subst h; rfl
theorem ar2 {t u : Nat} {v w : Value} (h : tm t = v) (h' : tm u = w) : aresults [.tmp t, .tmp u] tm H = some (.tuple #[v, w]) := by subst h; subst h'; rfl
theorem ar3 {t u x : Nat} {v w y : Value} (h : tm t = v) (h' : tm u = w) (h'' : tm x = y) : aresults [.tmp t, .tmp u, .tmp x] tm H = some (.tuple #[v, w, y]) := by subst h; subst h'; subst h''; rfl
theorem ar4 {t u x z : Nat} {v w y a : Value} (h : tm t = v) (h' : tm u = w) (h'' : tm x = y) (h3 : tm z = a) : aresults [.tmp t, .tmp u, .tmp x, .tmp z] tm H = some (.tuple #[v, w, y, a]) := by subst h; subst h'; subst h''; subst h3; rfl
theorem m0 : ([] : List Operand).map (ev tm) = [] := rfl
theorem mc {x : Operand} {v : Value} {xs : List Operand} {vs : List Value} (h : ev tm x = v) (k : xs.map (ev tm) = vs) : (x :: xs).map (ev tm) = v :: vs := by simp [h, k]

/-! ### Values -/
theorem o_of {o : AOp} (hc : calls o = false) {v : Value} {H1 : Hp} (h : aop o tm H = some (v, H1)) (k : R T Q (.ops l :: K) .normal (ub tm t v) H1) : R T Q (.ops (⟨some t, o, none, sl⟩ :: l) :: K) .normal tm H := by
  rw [R_op hc, h, Nx_some, put_some, upd_ub]; exact k
theorem o_of0 {o : AOp} (hc : calls o = false) {v : Value} {H1 : Hp} (h : aop o tm H = some (v, H1)) (k : R T Q (.ops l :: K) .normal tm H1) : R T Q (.ops (⟨none, o, none, sl⟩ :: l) :: K) .normal tm H := by
  rw [R_op hc, h, Nx_some, put_none]; exact k
theorem o_mv {x : Operand} {v : Value} (hx : ev tm x = v) (k : R T Q (.ops l :: K) .normal (ub tm t v) H) : R T Q (.ops (⟨some t, .mv x, none, sl⟩ :: l) :: K) .normal tm H := o_of rfl (by simp [aop, hx]) k
theorem o_bin {o : BinOp} {x y : Operand} {a b v : Value} (h : vbin o a b = some v) (hx : ev tm x = a) (hy : ev tm y = b) (k : R T Q (.ops l :: K) .normal (ub tm t v) H) : R T Q (.ops (⟨some t, .bin o x y, none, sl⟩ :: l) :: K) .normal tm H :=
  o_of rfl (by rw [A_bin, hx, hy, h]; rfl) k
section
variable {x y : Operand} {kd : IntKind} {a b : Int}
theorem v_same {o : BinOp} {v : Option Value} (h : ibin o kd a kd b = v) : vbin o (.int kd a) (.int kd b) = v := h
theorem o_add (hx : ev tm x = .int kd a) (hy : ev tm y = .int kd b) (k : R T Q (.ops l :: K) .normal (ub tm t (.int kd (kd.wrap (a + b)))) H) : R T Q (.ops (⟨some t, .bin .add x y, none, sl⟩ :: l) :: K) .normal tm H := o_bin (by simp [vbin, ibin]) hx hy k
theorem o_sub (hx : ev tm x = .int kd a) (hy : ev tm y = .int kd b) (k : R T Q (.ops l :: K) .normal (ub tm t (.int kd (kd.wrap (a - b)))) H) : R T Q (.ops (⟨some t, .bin .sub x y, none, sl⟩ :: l) :: K) .normal tm H := o_bin (by simp [vbin, ibin]) hx hy k
theorem o_mul (hx : ev tm x = .int kd a) (hy : ev tm y = .int kd b) (k : R T Q (.ops l :: K) .normal (ub tm t (.int kd (kd.wrap (a * b)))) H) : R T Q (.ops (⟨some t, .bin .mul x y, none, sl⟩ :: l) :: K) .normal tm H := o_bin (by simp [vbin, ibin]) hx hy k
theorem o_and (hx : ev tm x = .int kd a) (hy : ev tm y = .int kd b) (k : R T Q (.ops l :: K) .normal (ub tm t (.int kd (band kd a b))) H) : R T Q (.ops (⟨some t, .bin .and x y, none, sl⟩ :: l) :: K) .normal tm H := o_bin (by simp [vbin, ibin, band]) hx hy k
theorem o_or (hx : ev tm x = .int kd a) (hy : ev tm y = .int kd b) (k : R T Q (.ops l :: K) .normal (ub tm t (.int kd (bor kd a b))) H) : R T Q (.ops (⟨some t, .bin .or x y, none, sl⟩ :: l) :: K) .normal tm H := o_bin (by simp [vbin, ibin, bor]) hx hy k
theorem o_xor (hx : ev tm x = .int kd a) (hy : ev tm y = .int kd b) (k : R T Q (.ops l :: K) .normal (ub tm t (.int kd (bxor kd a b))) H) : R T Q (.ops (⟨some t, .bin .xor x y, none, sl⟩ :: l) :: K) .normal tm H := o_bin (by simp [vbin, ibin, bxor]) hx hy k
theorem o_andNot (hx : ev tm x = .int kd a) (hy : ev tm y = .int kd b) (k : R T Q (.ops l :: K) .normal (ub tm t (.int kd (bandn kd a b))) H) : R T Q (.ops (⟨some t, .bin .andNot x y, none, sl⟩ :: l) :: K) .normal tm H := o_bin (by simp [vbin, ibin, bandn]) hx hy k
theorem o_lss (hx : ev tm x = .int kd a) (hy : ev tm y = .int kd b) (k : R T Q (.ops l :: K) .normal (ub tm t (.bool (decide (a < b)))) H) : R T Q (.ops (⟨some t, .bin .lss x y, none, sl⟩ :: l) :: K) .normal tm H := o_bin (by simp [vbin, ibin]) hx hy k
theorem o_leq (hx : ev tm x = .int kd a) (hy : ev tm y = .int kd b) (k : R T Q (.ops l :: K) .normal (ub tm t (.bool (decide (a ≤ b)))) H) : R T Q (.ops (⟨some t, .bin .leq x y, none, sl⟩ :: l) :: K) .normal tm H := o_bin (by simp [vbin, ibin]) hx hy k
theorem o_gtr (hx : ev tm x = .int kd a) (hy : ev tm y = .int kd b) (k : R T Q (.ops l :: K) .normal (ub tm t (.bool (decide (b < a)))) H) : R T Q (.ops (⟨some t, .bin .gtr x y, none, sl⟩ :: l) :: K) .normal tm H := o_bin (by simp [vbin, ibin]) hx hy k
theorem o_geq (hx : ev tm x = .int kd a) (hy : ev tm y = .int kd b) (k : R T Q (.ops l :: K) .normal (ub tm t (.bool (decide (b ≤ a)))) H) : R T Q (.ops (⟨some t, .bin .geq x y, none, sl⟩ :: l) :: K) .normal tm H := o_bin (by simp [vbin, ibin]) hx hy k
theorem o_eql (hx : ev tm x = .int kd a) (hy : ev tm y = .int kd b) (k : R T Q (.ops l :: K) .normal (ub tm t (.bool (decide (a = b)))) H) : R T Q (.ops (⟨some t, .bin .eql x y, none, sl⟩ :: l) :: K) .normal tm H := by
  refine o_bin (v := .bool (decide (a = b))) ?_ hx hy k
  simp only [vbin, ibin, if_true]; rfl
theorem o_neq (hx : ev tm x = .int kd a) (hy : ev tm y = .int kd b) (k : R T Q (.ops l :: K) .normal (ub tm t (.bool (decide (a ≠ b)))) H) : R T Q (.ops (⟨some t, .bin .neq x y, none, sl⟩ :: l) :: K) .normal tm H := by
  refine o_bin (v := .bool (decide (a ≠ b))) ?_ hx hy k
  simp only [vbin, ibin, if_true]
  congr 2
  by_cases h : a = b <;> simp [h, bne]
theorem o_quo {c : Int} (hx : ev tm x = .int kd a) (hy : ev tm y = .int kd b) (hc : Pu.quo kd a b = some c) (k : R T Q (.ops l :: K) .normal (ub tm t (.int kd c)) H) : R T Q (.ops (⟨some t, .bin .quo x y, none, sl⟩ :: l) :: K) .normal tm H := by
  refine o_bin ?_ hx hy k
  unfold Pu.quo at hc
  simp only [vbin, ibin, if_true]
  split at hc
  · cases hc
  · cases hc; rw [if_neg (by assumption)]
theorem o_rem {c : Int} (hx : ev tm x = .int kd a) (hy : ev tm y = .int kd b) (hc : Pu.rem a b = some c) (k : R T Q (.ops l :: K) .normal (ub tm t (.int kd c)) H) : R T Q (.ops (⟨some t, .bin .rem x y, none, sl⟩ :: l) :: K) .normal tm H := by
  refine o_bin ?_ hx hy k
  unfold Pu.rem at hc
  simp only [vbin, ibin, if_true]
  split at hc
  · cases hc
  · cases hc; rw [if_neg (by assumption)]
theorem o_shl {c : Int} {kd' : IntKind} (hx : ev tm x = .int kd a) (hy : ev tm y = .int kd' b) (hc : Pu.shl kd a b = some c) (k : R T Q (.ops l :: K) .normal (ub tm t (.int kd c)) H) : R T Q (.ops (⟨some t, .bin .shl x y, none, sl⟩ :: l) :: K) .normal tm H := by
  refine o_bin ?_ hx hy k
  unfold Pu.shl at hc
  simp only [vbin, ibin]
  split at hc
  · cases hc
  · cases hc; rw [if_neg (by assumption)]
theorem o_shr {c : Int} {kd' : IntKind} (hx : ev tm x = .int kd a) (hy : ev tm y = .int kd' b) (hc : Pu.shr kd a b = some c) (k : R T Q (.ops l :: K) .normal (ub tm t (.int kd c)) H) : R T Q (.ops (⟨some t, .bin .shr x y, none, sl⟩ :: l) :: K) .normal tm H := by
  refine o_bin ?_ hx hy k
  unfold Pu.shr at hc
  simp only [vbin, ibin]
  split at hc
  · cases hc
  · cases hc; rw [if_neg (by assumption)]
theorem o_neg (hx : ev tm x = .int kd a) (k : R T Q (.ops l :: K) .normal (ub tm t (.int kd (kd.wrap (0 - a)))) H) : R T Q (.ops (⟨some t, .un .neg x, none, sl⟩ :: l) :: K) .normal tm H := o_of rfl (by simp [aop, hx]) k
theorem o_not {p : Bool} (hx : ev tm x = .bool p) (k : R T Q (.ops l :: K) .normal (ub tm t (.bool !p)) H) : R T Q (.ops (⟨some t, .un .not x, none, sl⟩ :: l) :: K) .normal tm H := o_of rfl (by simp [aop, hx]) k
theorem o_conv {kd' : IntKind} (hx : ev tm x = .int kd a) (k : R T Q (.ops l :: K) .normal (ub tm t (.int kd' (kd'.wrap a))) H) : R T Q (.ops (⟨some t, .conv kd' x, none, sl⟩ :: l) :: K) .normal tm H := o_of rfl (by simp [aop, hx]) k
theorem o_max (hx : ev tm x = .int kd a) (hy : ev tm y = .int kd b) (k : R T Q (.ops l :: K) .normal (ub tm t (.int kd (imax a b))) H) : R T Q (.ops (⟨some t, .mm true [x, y], none, sl⟩ :: l) :: K) .normal tm H := o_of rfl (by simp [aop, hx, hy, mm2, imax]) k
theorem o_min (hx : ev tm x = .int kd a) (hy : ev tm y = .int kd b) (k : R T Q (.ops l :: K) .normal (ub tm t (.int kd (imin a b))) H) : R T Q (.ops (⟨some t, .mm false [x, y], none, sl⟩ :: l) :: K) .normal tm H := o_of rfl (by simp [aop, hx, hy, mm2, imin]) k
end
/-- Equality: its value is shown apart. -/
theorem o_eq {n : Bool} {e : EqK} {x y : Operand} {a b : Value} {p : Bool} (h : veq n e a b = some (.bool p)) (hx : ev tm x = a) (hy : ev tm y = b) (k : R T Q (.ops l :: K) .normal (ub tm t (.bool p)) H) : R T Q (.ops (⟨some t, .eq n e x y, none, sl⟩ :: l) :: K) .normal tm H :=
  o_of rfl (by rw [A_eq, hx, hy, h]; rfl) k
theorem q_bool (a b : Bool) : veq false .bool (.bool a) (.bool b) = some (.bool (a == b)) := rfl
theorem q_nbool (a b : Bool) : veq true .bool (.bool a) (.bool b) = some (.bool (!(a == b))) := rfl
theorem o_pick {c x y : Operand} {p : Bool} {a b : Value} (hc : ev tm c = .bool p) (hx : ev tm x = a) (hy : ev tm y = b) (k : R T Q (.ops l :: K) .normal (ub tm t (if p then a else b)) H) : R T Q (.ops (⟨some t, .pick c x y, none, sl⟩ :: l) :: K) .normal tm H := o_of rfl (by simp [aop, hc, hx, hy]) k
theorem o_pickt {c x y : Operand} {p : Bool} {a : Value} (hc : ev tm c = .bool p) (hp : p = true) (hx : ev tm x = a) (k : R T Q (.ops l :: K) .normal (ub tm t a) H) : R T Q (.ops (⟨some t, .pick c x y, none, sl⟩ :: l) :: K) .normal tm H := o_of rfl (by simp [aop, hc, hx, hp]) k
theorem o_pickf {c x y : Operand} {p : Bool} {b : Value} (hc : ev tm c = .bool p) (hp : p = false) (hy : ev tm y = b) (k : R T Q (.ops l :: K) .normal (ub tm t b) H) : R T Q (.ops (⟨some t, .pick c x y, none, sl⟩ :: l) :: K) .normal tm H := o_of rfl (by simp [aop, hc, hy, hp]) k
theorem o_ext {x : Operand} {vs : Array Value} {i : Nat} {v : Value} (hx : ev tm x = .tuple vs) (h : vs[i]? = some v) (k : R T Q (.ops l :: K) .normal (ub tm t v) H) : R T Q (.ops (⟨some t, .extract x i, none, sl⟩ :: l) :: K) .normal tm H := o_of rfl (by simp [aop, hx, h]) k
theorem o_fld {x : Operand} {cs : Array Value} {o n : Nat} {g : Bool} {v : Value} (hx : ev tm x = .agg cs) (h : vfield o n g (.agg cs) = some v) (k : R T Q (.ops l :: K) .normal (ub tm t v) H) : R T Q (.ops (⟨some t, .field o n g x, none, sl⟩ :: l) :: K) .normal tm H :=
  o_of rfl (by rw [A_field, hx, h]; rfl) k
theorem o_bld {z : List Value} {ps : List (Nat × Nat × Operand)} {qs : List (Nat × Nat × Value)} {v : Value} (hx : (ps.map fun p => (p.1, p.2.1, ev tm p.2.2)) = qs) (h : vbuild z qs = some v) (k : R T Q (.ops l :: K) .normal (ub tm t v) H) : R T Q (.ops (⟨some t, .build z ps, none, sl⟩ :: l) :: K) .normal tm H :=
  o_of rfl (by rw [A_build, hx, h]; rfl) k
theorem o_mkfn {f : Fn} {xs : List Operand} {vs : List Value} (hx : xs.map (ev tm) = vs) (k : R T Q (.ops l :: K) .normal (ub tm t (.func f #[] vs.toArray)) H) : R T Q (.ops (⟨some t, .mkfn f xs, none, sl⟩ :: l) :: K) .normal tm H := o_of rfl (by simp [aop, hx]) k
theorem o_nck {x : Operand} {a : Addr} (hx : ev tm x = .pointer (some a)) (k : R T Q (.ops l :: K) .normal (ub tm t (.pointer (some a))) H) : R T Q (.ops (⟨some t, .nilchk x, none, sl⟩ :: l) :: K) .normal tm H := o_of rfl (by simp [aop, hx]) k
theorem o_nckf {x : Operand} {f : FuncId} {a b : Array Value} (hx : ev tm x = .func (.func f) a b) (k : R T Q (.ops l :: K) .normal (ub tm t (.func (.func f) a b)) H) : R T Q (.ops (⟨some t, .nilchk x, none, sl⟩ :: l) :: K) .normal tm H := o_of rfl (by simp [aop, hx]) k
theorem o_fad {x : Operand} {b o n : Nat} (hx : ev tm x = .pointer (some ⟨b, o, none⟩)) (k : R T Q (.ops l :: K) .normal (ub tm t (.pointer (some ⟨b, o + n, none⟩))) H) : R T Q (.ops (⟨some t, .faddr n x, none, sl⟩ :: l) :: K) .normal tm H := o_of rfl (by simp [aop, hx]) k
theorem o_len {x : Operand} {v : Value} {n : Int} (hx : ev tm x = v) (h : vlen v = some (vi n)) (k : R T Q (.ops l :: K) .normal (ub tm t (vi n)) H) : R T Q (.ops (⟨some t, .len x, none, sl⟩ :: l) :: K) .normal tm H :=
  o_of rfl (by rw [A_len, hx, h]; rfl) k

/-! ### Slices that are read -/
section
variable {α : Type} {s : Sh α} {Z : PH} {v : Value} {xs : List α}
theorem o_idx {x y : Operand} {j : Int} {u : α} {sz : Nat} (hx : ev tm x = v) (hy : ev tm y = vi j) (hr : RdS s Z v xs) (hz : s.sz = sz) (hj : ix xs j = some u) (k : ∀ p, vidxs sz v (vi j) = some p → R T Q (.ops l :: K) .normal (ub tm t p) H) :
    R T Q (.ops (⟨some t, .idxs sz x y, none, sl⟩ :: l) :: K) .normal tm H := by
  obtain ⟨p, hp⟩ := hr.idx hj hz
  exact o_of rfl (by rw [A_idxs, hx, hy, hp]; rfl) (k p hp)
theorem o_ld {x : Operand} {j : Int} {u : α} {sz : Nat} {p : Value} {g : Bool} (hx : ev tm x = p) (hr : RdS s Z v xs) (hZ : Z.le (Hp.ph H)) (hz : s.sz = sz) (hp : vidxs sz v (vi j) = some p) (hj : ix xs j = some u)
    (k : ∀ cs, s.rd Z cs u → cs.length = sz → ∃ w, mkv g cs = some w ∧ R T Q (.ops l :: K) .normal (ub tm t w) H) : R T Q (.ops (⟨some t, .load sz g x, none, sl⟩ :: l) :: K) .normal tm H := by
  obtain ⟨cs, h1, h2, h3⟩ := hr.at' hZ hj hz hp
  obtain ⟨w, h4, h5⟩ := k cs h1 h2
  exact o_of rfl (by rw [A_load, hx, h3, h4]; rfl) h5
/-- One cell. -/
theorem o_ld1 {x : Operand} {j : Int} {u : α} {p : Value} (hx : ev tm x = p) (hr : RdS s Z v xs) (hZ : Z.le (Hp.ph H)) (hz : s.sz = 1) (hp : vidxs 1 v (vi j) = some p) (hj : ix xs j = some u)
    (k : ∀ w, s.rd Z [w] u → R T Q (.ops l :: K) .normal (ub tm t w) H) : R T Q (.ops (⟨some t, .load 1 false x, none, sl⟩ :: l) :: K) .normal tm H :=
  o_ld hx hr hZ hz hp hj fun cs h hl => by
    obtain ⟨w, rfl⟩ : ∃ w, cs = [w] := List.length_eq_one_iff.1 hl
    exact ⟨w, rfl, k w h⟩
theorem o_ldi {kd : IntKind} {x : Operand} {j u : Int} {p : Value} {xs : List Int} (hx : ev tm x = p) (hr : RdS (Sh.ik kd) Z v xs) (hZ : Z.le (Hp.ph H)) (hp : vidxs 1 v (vi j) = some p) (hj : ix xs j = some u)
    (k : R T Q (.ops l :: K) .normal (ub tm t (.int kd u)) H) : R T Q (.ops (⟨some t, .load 1 false x, none, sl⟩ :: l) :: K) .normal tm H := o_ld1 hx hr hZ rfl hp hj fun w h => by cases h; exact k
theorem o_ldb {x : Operand} {j : Int} {u : Bool} {p : Value} {xs : List Bool} (hx : ev tm x = p) (hr : RdS Sh.bool Z v xs) (hZ : Z.le (Hp.ph H)) (hp : vidxs 1 v (vi j) = some p) (hj : ix xs j = some u)
    (k : R T Q (.ops l :: K) .normal (ub tm t (.bool u)) H) : R T Q (.ops (⟨some t, .load 1 false x, none, sl⟩ :: l) :: K) .normal tm H := o_ld1 hx hr hZ rfl hp hj fun w h => by cases h; exact k
theorem o_lds {x : Operand} {j : Int} {u : List α} {p : Value} {xs : List (List α)} (hx : ev tm x = p) (hr : RdS s.sl Z v xs) (hZ : Z.le (Hp.ph H)) (hp : vidxs 1 v (vi j) = some p) (hj : ix xs j = some u)
    (k : ∀ w, RdS s Z w u → R T Q (.ops l :: K) .normal (ub tm t w) H) : R T Q (.ops (⟨some t, .load 1 false x, none, sl⟩ :: l) :: K) .normal tm H := o_ld1 hx hr hZ rfl hp hj fun w h => by obtain ⟨w', e, h⟩ := h; cases e; exact k w h
theorem o_lda {x : Operand} {j : Int} {u : α} {sz : Nat} {p : Value} (hx : ev tm x = p) (hr : RdS s Z v xs) (hZ : Z.le (Hp.ph H)) (hz : s.sz = sz) (hp : vidxs sz v (vi j) = some p) (hj : ix xs j = some u)
    (k : ∀ cs, s.rd Z cs u → R T Q (.ops l :: K) .normal (ub tm t (.agg cs.toArray)) H) : R T Q (.ops (⟨some t, .load sz true x, none, sl⟩ :: l) :: K) .normal tm H := o_ld hx hr hZ hz hp hj fun cs h _ => ⟨_, rfl, k cs h⟩
/-- A part of a slice. -/
theorem o_slc {x y z : Operand} {sz : Nat} {lo hi : Int} {ys : List α} (hx : ev tm x = v) (hy : ev tm y = vi lo) (hw : ev tm z = vi hi) (hr : RdS s Z v xs) (hZ : Z.le (Hp.ph H)) (hz : s.sz = sz) (hs : sub xs lo hi = some ys)
    (k : ∀ w, RdS s Z w ys → R T Q (.ops l :: K) .normal (ub tm t w) H) : R T Q (.ops (⟨some t, .slice sz x (some y) (some z), none, sl⟩ :: l) :: K) .normal tm H := by
  obtain ⟨w, h1, h2⟩ := hr.mid hZ hs hz
  exact o_of rfl (by simp only [aop, Option.map_some, hx, hy, hw, h1]) (k w h2)
theorem o_slcl {x y : Operand} {sz : Nat} {lo : Int} {ys : List α} (hx : ev tm x = v) (hy : ev tm y = vi lo) (hr : RdS s Z v xs) (hZ : Z.le (Hp.ph H)) (hz : s.sz = sz) (hs : sub xs lo xs.length = some ys)
    (k : ∀ w, RdS s Z w ys → R T Q (.ops l :: K) .normal (ub tm t w) H) : R T Q (.ops (⟨some t, .slice sz x (some y) none, none, sl⟩ :: l) :: K) .normal tm H := by
  obtain ⟨w, h1, h2⟩ := hr.mid hZ hs hz
  exact o_of rfl (by simp only [aop, Option.map_some, Option.map_none, hx, hy]; rw [hr.slice_hi hZ _ hz, h1]; rfl) (k w h2)
theorem o_slch {x z : Operand} {sz : Nat} {hi : Int} {ys : List α} (hx : ev tm x = v) (hw : ev tm z = vi hi) (hr : RdS s Z v xs) (hZ : Z.le (Hp.ph H)) (hz : s.sz = sz) (hs : sub xs 0 hi = some ys)
    (k : ∀ w, RdS s Z w ys → R T Q (.ops l :: K) .normal (ub tm t w) H) : R T Q (.ops (⟨some t, .slice sz x none (some z), none, sl⟩ :: l) :: K) .normal tm H := by
  obtain ⟨w, h1, h2⟩ := hr.mid hZ hs hz
  exact o_of rfl (by simp only [aop, Option.map_some, Option.map_none, hx, hw]; rw [hr.slice_lo hZ _ hz, h1]; rfl) (k w h2)
end

/-! ### What is owned -/
section
variable {α : Type} {s : Sh α} {Z V : PH} {v : Value} {xs : List α} {L : List It}
theorem o_st {x y : Operand} {sz : Nat} {j : Int} {u0 u : α} {p w : Value} {cs : List Value} (n : Nat) (hS : Sat Z V H L) (ht : L[n]? = some (It.sl s v xs)) (hl : s.Lt) (hz : s.sz = sz) (hx : ev tm x = p) (hy : ev tm y = w) (hp : vidxs sz v (vi j) = some p) (hj : ix xs j = some u0)
    (hc : w.cells.toList = cs) (hr : s.rd Z cs u) (k : ∀ H1, Sat Z V H1 (L.set n (It.sl s v (Pu.st xs j u))) → R T Q (.ops l :: K) .normal tm H1) : R T Q (.ops (⟨none, .store sz x y, none, sl⟩ :: l) :: K) .normal tm H := by
  obtain ⟨H1, h1, h2⟩ := hS.set n ht hl hz hj hp hc hr
  exact o_of0 rfl (by rw [A_store, hx, hy, h1]; rfl) (k H1 h2)
theorem o_app {x y : Operand} {sz bytes : Nat} {q : Value} {ys zs : List α} {s' : Sh α} {W : PH} (n : Nat) (hS : Sat Z V H L) (ht : L[n]? = some (It.sl s v xs)) (hl : s.Lt) (hz : s.sz = sz) (hz' : s'.sz = sz) (hx : ev tm x = v) (hy : ev tm y = q)
    (hq : RdS s' W q ys) (hW : W.le (Hp.ph H)) (hf : ∀ {cs : List Value} {x : α}, s'.rd W cs x → s.rd Z cs x) (hby : 0 < bytes) (ha : Pu.app bytes xs ys = some zs)
    (k : ∀ w H1, Sat Z V H1 (L.set n (It.sl s w zs)) → R T Q (.ops l :: K) .normal (ub tm t w) H1) : R T Q (.ops (⟨some t, .append sz bytes x y, none, sl⟩ :: l) :: K) .normal tm H := by
  obtain ⟨w, H1, h1, h2⟩ := hS.app n ht hl hz hz' hq hW hf hby ha
  exact o_of rfl (by rw [A_append, hx, hy, h1]) (k w H1 h2)
theorem o_mks {x y : Operand} {sz bytes : Nat} {z : List Value} {n c : Int} {e : α} (hS : Sat Z V H L) (hl : s.Lt) (hz : s.sz = sz) (hx : ev tm x = vi n) (hy : ev tm y = vi c) (he : s.rd Z z e) (hm : Pu.mk bytes n c e = some xs)
    (k : ∀ w H1, Sat Z V H1 (It.sl s w xs :: L) → R T Q (.ops l :: K) .normal (ub tm t w) H1) : R T Q (.ops (⟨some t, .mkslice sz bytes z x y, none, sl⟩ :: l) :: K) .normal tm H := by
  obtain ⟨w, b, h1, h2, h3⟩ := hS.mks hl hz he hm
  exact o_of rfl (by rw [A_mkslice, hx, hy, h1]; rfl) (k _ _ (h3 _ _ (hS.new' h2)))
theorem o_bsl {sz n : Nat} {z us : List Value} {ps : List (Nat × Nat × Operand)} {qs : List (Nat × Nat × Value)} (hS : Sat Z V H L) (hl : s.Lt) (hz : s.sz = sz) (hx : (ps.map fun p => (p.1, p.2.1, ev tm p.2.2)) = qs) (hb : bfill z qs = some us) (he : Els s Z us xs) (hn : n = xs.length) (hbd : Nat.ble n 281474976710656 = true)
    (k : ∀ w H1, Sat Z V H1 (It.sl s w xs :: L) → R T Q (.ops l :: K) .normal (ub tm t w) H1) : R T Q (.ops (⟨some t, .bslice sz n z ps, none, sl⟩ :: l) :: K) .normal tm H :=
  o_of rfl (by rw [A_bslice, hx, hbs, hb]; rfl) (k _ _ ((hS.new' (by simp)).conv 0 rfl (sl_of_pts hl he hn (Nat.le_of_ble_eq_true hbd) hz)))
theorem o_new {z : List Value} (hS : Sat Z V H L) (k : ∀ b H1, Sat Z V H1 (pts b (.rw 0 z) :: L) → R T Q (.ops l :: K) .normal (ub tm t (.pointer (some ⟨b, 0, none⟩))) H1) : R T Q (.ops (⟨some t, .alloc z, none, sl⟩ :: l) :: K) .normal tm H :=
  o_of rfl (by rw [A_alloc]; rfl) (k _ _ (hS.new' (by simp)))
theorem o_box {x : Operand} {w : Value} {z : List Value} (hS : Sat Z V H L) (hx : ev tm x = w) (hz : w.cells.toList = z) (k : ∀ b H1, Sat Z V H1 (pts b (.rw 0 z) :: L) → R T Q (.ops l :: K) .normal (ub tm t (.pointer (some ⟨b, 0, none⟩))) H1) : R T Q (.ops (⟨some t, .box x, none, sl⟩ :: l) :: K) .normal tm H :=
  o_of rfl (by rw [A_box, hx, hz]; rfl) (k _ _ (hS.new' (by simp)))
/-- A block's cells: read. -/
theorem o_ldB {x : Operand} {b o m z : Nat} {g : Bool} {us : List Value} {w : Value} (n : Nat) (hS : Sat Z V H L) (ht : L[n]? = some (pts b (.rw z us))) (hx : ev tm x = .pointer (some ⟨b, o, none⟩)) (hm : Nat.ble (o + m) us.length = true) (hw : mkv g ((us.drop o).take m) = some w)
    (k : R T Q (.ops l :: K) .normal (ub tm t w) H) : R T Q (.ops (⟨some t, .load m g x, none, sl⟩ :: l) :: K) .normal tm H := by
  have hb := hS.curB n ht
  refine o_of rfl ?_ k
  rw [A_load, hx]
  simp only [vload, Option.isNone_none, if_true, Hp.load, show Hp.cells H b = some us by rw [cells_of hb]; rfl]
  rw [if_pos (Nat.le_of_ble_eq_true hm), Option.bind_some, hw]; rfl
theorem o_stB {x y : Operand} {b o m z : Nat} {us us' : List Value} {w : Value} (n : Nat) (hS : Sat Z V H L) (ht : L[n]? = some (pts b (.rw z us))) (hx : ev tm x = .pointer (some ⟨b, o, none⟩)) (hy : ev tm y = w) (hm : Nat.ble (o + m) us.length = true) (hs : Nat.beq w.cells.size m = true)
    (h1 : w.cells.toList.all Value.oneCell' = true) (hu : splice us o w.cells.toList = us') (k : ∀ H1, Sat Z V H1 (L.set n (pts b (.rw z us'))) → R T Q (.ops l :: K) .normal tm H1) : R T Q (.ops (⟨none, .store m x y, none, sl⟩ :: l) :: K) .normal tm H := by
  have hb := hS.curB n ht
  subst hu
  refine o_of0 (H1 := H.set b (.rw z (splice us o w.cells.toList))) (v := undef) rfl ?_ (k _ (hS.wr n ht (by simp) (lt_of_get hb) fun F h _ _ q => ⟨⟨_, q⟩, PH.upd_same ..⟩))
  rw [A_store, hx, hy]
  simp only [hstore, hb]
  rw [if_pos ⟨Nat.eq_of_beq_eq_true hs, h1, Nat.le_of_ble_eq_true hm⟩]; rfl
end

/-! ### Guards -/
theorem o_gd {dst : Option Nat} {o : AOp} {g : Nat} {b x : Bool} (hg : tm g = .bool x) (h1 : x = b → R T Q (.ops (⟨dst, o, none, sl⟩ :: l) :: K) .normal tm H) (h2 : x = !b → R T Q (.ops l :: K) .normal (put tm dst undef) H) :
    R T Q (.ops (⟨dst, o, some (g, b), sl⟩ :: l) :: K) .normal tm H := by
  by_cases h : x = b
  · exact R_want (by simp [want, hg, h]) (h1 h)
  · exact .nop (by simp [want, hg, h]) (h2 (by cases x <;> cases b <;> simp_all))
theorem o_gy {dst : Option Nat} {o : AOp} {g : Nat} {b x : Bool} (hg : tm g = .bool x) (hx : x = b) (k : R T Q (.ops (⟨dst, o, none, sl⟩ :: l) :: K) .normal tm H) : R T Q (.ops (⟨dst, o, some (g, b), sl⟩ :: l) :: K) .normal tm H :=
  R_want (by simp [want, hg, hx]) k
theorem o_gn {o : AOp} {g : Nat} {b x : Bool} (hg : tm g = .bool x) (hx : x = !b) (k : R T Q (.ops l :: K) .normal (ub tm t undef) H) : R T Q (.ops (⟨some t, o, some (g, b), sl⟩ :: l) :: K) .normal tm H :=
  .nop (by rw [want, hg, hx]; cases b <;> rfl) (by rw [put_some, upd_ub]; exact k)
theorem o_gn0 {o : AOp} {g : Nat} {b x : Bool} (hg : tm g = .bool x) (hx : x = !b) (k : R T Q (.ops l :: K) .normal tm H) : R T Q (.ops (⟨none, o, some (g, b), sl⟩ :: l) :: K) .normal tm H :=
  .nop (by rw [want, hg, hx]; cases b <;> rfl) k

/-! ### Calls -/
theorem o_call {f : FuncId} {xs : List Operand} {P : Value → Hp → Prop} {args : List Value} (ha : xs.map (ev tm) = args) (hc : G T f args H P) (k : ∀ v H1, P v H1 → R T Q (.ops l :: K) .normal (ub tm t v) H1) : R T Q (.ops (⟨some t, .call f xs, none, sl⟩ :: l) :: K) .normal tm H :=
  R_call ha hc fun v H1 h => by rw [put_some, upd_ub]; exact k v H1 h
theorem o_call0 {f : FuncId} {xs : List Operand} {P : Value → Hp → Prop} {args : List Value} (ha : xs.map (ev tm) = args) (hc : G T f args H P) (k : ∀ v H1, P v H1 → R T Q (.ops l :: K) .normal tm H1) : R T Q (.ops (⟨none, .call f xs, none, sl⟩ :: l) :: K) .normal tm H :=
  R_call ha hc fun v H1 h => k v H1 h

/-! ### The plain side -/
section
variable {β σ ρ : Type}
theorem if_t {p : Prop} [Decidable p] {a b c : β} (h : p) (e : (if p then a else b) = c) : a = c := by rwa [if_pos h] at e
theorem if_f {p : Prop} [Decidable p] {a b c : β} (h : ¬ p) (e : (if p then a else b) = c) : b = c := by rwa [if_neg h] at e
theorem ib_f {p : Bool} {a b c : β} (h : p = false) (e : (if p = true then a else b) = c) : b = c := by subst h; simpa using e
theorem fin_o {f : σ → β} {g : ρ → β} {fin : Fin σ ρ} {s : σ} {c : β} (h : fin = .out s) (e : fin.cs f g = c) : f s = c := by subst h; exact e
theorem fin_r {f : σ → β} {g : ρ → β} {fin : Fin σ ρ} {r : ρ} {c : β} (h : fin = .rt r) (e : fin.cs f g = c) : g r = c := by subst h; exact e
end
theorem c_ift {c : Operand} {a b : ACode} {p : Prop} [Decidable p] (hc : ev tm c = .bool (decide p)) (hp : p) (k : R T Q (.code a :: K) .normal tm H) : R T Q (.code (.cond c a b) :: K) .normal tm H :=
  c_ifd hc (fun _ => k) fun h => absurd hp h
theorem c_iff {c : Operand} {a b : ACode} {p : Prop} [Decidable p] (hc : ev tm c = .bool (decide p)) (hp : ¬ p) (k : R T Q (.code b :: K) .normal tm H) : R T Q (.code (.cond c a b) :: K) .normal tm H :=
  c_ifd hc (fun h => absurd h hp) fun _ => k
theorem j_join {I : Tm → Hp → Prop} {K' : List Fk} {p : Prop} (h : (∀ tm' H', I tm' H' → R T Q K' .normal tm' H') → p) (k : ∀ tm' H', I tm' H' → R T Q K' .normal tm' H') : p := h k
theorem w_suc {i n : Nat} (h : i < n) (hn : n ≤ 281474976710656) : IntKind.i64.wrap ((i : Int) + 1) = ((i + 1 : Nat) : Int) := by rw [V_wrap (by omega) (by omega)]; rfl
theorem w_sucI {i : Nat} {n : Int} (h : (i : Int) < n) (hn : n ≤ 4611686018427387904) : IntKind.i64.wrap ((i : Int) + 1) = ((i + 1 : Nat) : Int) := by rw [V_wrap (by omega) (by omega)]; rfl

/-! ### Loops -/
section
variable {α σ ρ : Type} {L : ACode}
theorem l_forP {xs : List α} {body : Int → α → σ → Option σ} {s1 : σ} (I : Nat → σ → Tm → Hp → Prop)
    (step : ∀ (i : Nat) (x : α) (s s' : σ) tm H, xs[i]? = some x → i < xs.length → I i s tm H → body i x s = some s' → (∀ tm' H', I (i + 1) s' tm' H' → R T Q (.code (.loop L) :: K) .normal tm' H') → R T Q (.code L :: .code (.loop L) :: K) .normal tm H)
    (done : ∀ tm H, I xs.length s1 tm H → R T Q (.code L :: .code (.loop L) :: K) .normal tm H) {s0 : σ} (h : forP body 0 xs s0 = some s1) (hI : I 0 s0 tm H) : R T Q (.code (.loop L) :: K) .normal tm H := by
  have key : ∀ (ys : List α) (i : Nat) (s : σ) tm H, xs.drop i = ys → i ≤ xs.length → forP body i ys s = some s1 → I i s tm H → R T Q (.code (.loop L) :: K) .normal tm H := by
    intro ys
    induction ys with
    | nil =>
      intro i s tm H hd hi hf hI
      simp [forP] at hf; subst hf
      have : i = xs.length := by have := congrArg List.length hd; simp at this; omega
      subst this
      exact .loop (done tm H hI)
    | cons x ys ih =>
      intro i s tm H hd hi hf hI
      simp only [forP] at hf
      obtain ⟨s', h1, h2⟩ := Pu.bind_some hf
      have hx : xs[i]? = some x := by rw [← List.head?_drop, hd]; rfl
      have hlt := (List.getElem?_eq_some_iff.1 hx).1
      have hd2 : xs.drop (i + 1) = ys := by rw [← List.drop_drop, hd]; rfl
      exact .loop (step i x s s' tm H hx hlt hI h1 fun tm' H' hI' => ih (i + 1) s' tm' H' hd2 hlt (by simpa using h2) hI')
  exact key xs 0 s0 tm H rfl (Nat.zero_le _) h hI
theorem l_forL {xs : List α} {body : Int → α → σ → Option (Step σ ρ)} {fin : Fin σ ρ} (I : Nat → σ → Tm → Hp → Prop)
    (step : ∀ (i : Nat) (x : α) (s : σ) (st : Step σ ρ) tm H, xs[i]? = some x → i < xs.length → I i s tm H → body i x s = some st → (∀ s' tm' H', st = .nx s' → I (i + 1) s' tm' H' → R T Q (.code (.loop L) :: K) .normal tm' H') →
      (∀ s', st = .br s' → fin = .out s') → (∀ r, st = .rt r → fin = .rt r) → R T Q (.code L :: .code (.loop L) :: K) .normal tm H)
    (done : ∀ s tm H, fin = .out s → I xs.length s tm H → R T Q (.code L :: .code (.loop L) :: K) .normal tm H) {s0 : σ} (h : forL body 0 xs s0 = some fin) (hI : I 0 s0 tm H) : R T Q (.code (.loop L) :: K) .normal tm H := by
  have key : ∀ (ys : List α) (i : Nat) (s : σ) tm H, xs.drop i = ys → i ≤ xs.length → forL body i ys s = some fin → I i s tm H → R T Q (.code (.loop L) :: K) .normal tm H := by
    intro ys
    induction ys with
    | nil =>
      intro i s tm H hd hi hf hI
      simp [forL] at hf; subst hf
      have : i = xs.length := by have := congrArg List.length hd; simp at this; omega
      subst this
      exact .loop (done s tm H rfl hI)
    | cons x ys ih =>
      intro i s tm H hd hi hf hI
      simp only [forL] at hf
      have hx : xs[i]? = some x := by rw [← List.head?_drop, hd]; rfl
      have hlt := (List.getElem?_eq_some_iff.1 hx).1
      have hd2 : xs.drop (i + 1) = ys := by rw [← List.drop_drop, hd]; rfl
      cases hb : body i x s with
      | none => rw [hb] at hf; cases hf
      | some st =>
        rw [hb] at hf
        refine .loop (step i x s st tm H hx hlt hI hb (fun s' tm' H' e hI' => ?_) (fun s' e => ?_) fun r e => ?_)
        · subst e; exact ih (i + 1) s' tm' H' hd2 hlt (by simpa using hf) hI'
        · subst e; simp at hf; exact hf.symm
        · subst e; simp at hf; exact hf.symm
  exact key xs 0 s0 tm H rfl (Nat.zero_le _) h hI
theorem l_whl {body : σ → Option (Step σ ρ)} {fin : Fin σ ρ} (I : σ → Tm → Hp → Prop)
    (step : ∀ (s : σ) (st : Step σ ρ) tm H, I s tm H → body s = some st → (∀ s' tm' H', st = .nx s' → I s' tm' H' → R T Q (.code (.loop L) :: K) .normal tm' H') →
      (∀ s', st = .br s' → fin = .out s') → (∀ r, st = .rt r → fin = .rt r) → R T Q (.code L :: .code (.loop L) :: K) .normal tm H)
    {n : Nat} {s0 : σ} (h : whl body n s0 = some fin) (hI : I s0 tm H) : R T Q (.code (.loop L) :: K) .normal tm H := by
  induction n generalizing s0 tm H with
  | zero => cases h
  | succ n ih =>
    simp only [whl] at h
    cases hb : body s0 with
    | none => rw [hb] at h; cases h
    | some st =>
      rw [hb] at h
      refine .loop (step s0 st tm H hI hb (fun s' tm' H' e hI' => ?_) (fun s' e => ?_) fun r e => ?_)
      · subst e; exact ih h hI'
      · subst e; simp at h; exact h.symm
      · subst e; simp at h; exact h.symm
theorem ran_get {n : Int} {i : Nat} {x : Int} (h : (ran n)[i]? = some x) : x = i ∧ (i : Int) < n := by
  unfold ran at h
  rw [List.getElem?_map] at h
  by_cases hi : i < n.toNat
  · rw [List.getElem?_range hi] at h; simp at h; exact ⟨h.symm, by omega⟩
  · rw [List.getElem?_eq_none (by simpa using hi)] at h; simp at h
theorem ranO_some {n : Int} {l : List Int} (h : ranO n = some l) : l = ran n ∧ n ≤ 4611686018427387904 := by
  unfold ranO at h
  split at h
  · cases h; exact ⟨rfl, by assumption⟩
  · cases h
theorem ran_len (n : Int) : (ran n).length = n.toNat := by simp [ran]
end
end Go.Ab
