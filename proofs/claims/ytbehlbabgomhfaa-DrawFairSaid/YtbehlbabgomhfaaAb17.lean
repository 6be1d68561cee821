/- Values of the abstract machine for simp; slices and the heap. Own work. -/
import Derived.Test.YtbehlbabgomhfaaAb16
import Derived.IntWalk
namespace Go.Ab
open Go

attribute [simp] R_done R_skip R_seq R_region R_block R_exit R_ret R_nil R_endn R_past_ret R_past_exit R_end_ret R_end_exit R_cond Br_true Br_false Nx_some Dx_some R_dnil

/-- A whole number of Go's type int. -/
abbrev vi (n : Int) : Value := .int .i64 n
section
variable (a b : Int)
@[simp] theorem V_add : vbin .add (vi a) (vi b) = some (vi (IntKind.i64.wrap (a + b))) := rfl
@[simp] theorem V_sub : vbin .sub (vi a) (vi b) = some (vi (IntKind.i64.wrap (a - b))) := rfl
@[simp] theorem V_mul : vbin .mul (vi a) (vi b) = some (vi (IntKind.i64.wrap (a * b))) := rfl
@[simp] theorem V_rem : vbin .rem (vi a) (vi b) = if b = 0 then none else some (vi (a.tmod b)) := rfl
@[simp] theorem V_quo : vbin .quo (vi a) (vi b) = if b = 0 then none else some (vi (IntKind.i64.wrap (a.tdiv b))) := rfl
@[simp] theorem V_lss : vbin .lss (vi a) (vi b) = some (.bool (decide (a < b))) := rfl
@[simp] theorem V_leq : vbin .leq (vi a) (vi b) = some (.bool (decide (a ≤ b))) := rfl
@[simp] theorem V_gtr : vbin .gtr (vi a) (vi b) = some (.bool (decide (b < a))) := rfl
@[simp] theorem V_geq : vbin .geq (vi a) (vi b) = some (.bool (decide (b ≤ a))) := rfl
@[simp] theorem V_eql : vbin .eql (vi a) (vi b) = some (.bool (decide (a = b))) := rfl
@[simp] theorem V_neq : vbin .neq (vi a) (vi b) = some (.bool (decide (a ≠ b))) := by
  show some (Value.bool (a != b)) = _
  congr 2
  by_cases h : a = b <;> simp [h, bne]
theorem V_wrap {n : Int} (h1 : -9223372036854775808 ≤ n) (h2 : n ≤ 9223372036854775807) : IntKind.i64.wrap n = n := by rw [IntKind.wrap_i64]; omega
end
@[simp] theorem V_eqb (neg a b : Bool) : veq neg .bool (.bool a) (.bool b) = some (.bool (if neg then !(a == b) else (a == b))) := rfl
@[simp] theorem V_pick (t : Bool) (a b : Value) : vpick (.bool t) a b = some (if t then a else b) := rfl
@[simp] theorem V_not (t : Bool) : vun .not (.bool t) = some (.bool !t) := rfl
@[simp] theorem V_ext (i : Nat) (vs : Array Value) : vext i (.tuple vs) = vs[i]? := rfl
@[simp] theorem V_nilchk (a : Addr) : vnilchk (.pointer (some a)) = some (.pointer (some a)) := rfl
@[simp] theorem V_faddr (off : Nat) (b o : Nat) : vfaddr off (.pointer (some ⟨b, o, none⟩)) = some (.pointer (some ⟨b, o + off, none⟩)) := rfl
@[simp] theorem V_idxs (sz b o n m : Nat) (j : Int) : vidxs sz (.slice (some ⟨b, o, none⟩) n m) (vi j) = if 0 ≤ j ∧ j < n then some (.pointer (some ⟨b, o + j.toNat * sz, none⟩)) else none := rfl
@[simp] theorem V_len (a : Option Addr) (n m : Nat) : vlen (.slice a n m) = some (vi n) := rfl
@[simp] theorem V_load1 (H : Hp) (b o : Nat) : vload H 1 false (.pointer (some ⟨b, o, none⟩)) = (H.cells b).bind fun vs => vs[o]? := by
  simp only [vload, Option.isNone_none, if_true, Hp.load]
  cases H.cells b with
  | none => rfl
  | some vs =>
    simp only [Option.bind_some]
    by_cases h : o + 1 ≤ vs.length
    · rw [if_pos h]
      have h' : o < vs.length := h
      simp only [Option.bind_some, mkv, List.getElem?_eq_getElem h']
      rw [List.drop_eq_getElem_cons h']
      rfl
    · rw [if_neg h, List.getElem?_eq_none (by omega)]; rfl
theorem V_loadn (H : Hp) (n b o : Nat) : vload H n true (.pointer (some ⟨b, o, none⟩)) = (H.cells b).bind fun vs => if o + n ≤ vs.length then some (.agg ((vs.drop o).take n).toArray) else none := by
  simp only [vload, Option.isNone_none, if_true, Hp.load]
  cases H.cells b with
  | none => rfl
  | some vs =>
    simp only [Option.bind_some]
    by_cases h : o + n ≤ vs.length
    · rw [if_pos h, if_pos h]; rfl
    · rw [if_neg h, if_neg h]; rfl
attribute [simp] V_loadn

/-! ### The heap -/
@[simp] theorem cells_last (H : Hp) (x : Blk) : Hp.cells (H ++ [x]) H.length = x.cells := by simp [Hp.cells]
theorem get_left {H : Hp} {L : List Blk} {b : Nat} (h : b < H.length) : (H ++ L)[b]? = H[b]? := List.getElem?_append_left h
theorem cells_left {H : Hp} {L : List Blk} {b : Nat} (h : b < H.length) : Hp.cells (H ++ L) b = Hp.cells H b := by simp only [Hp.cells, get_left h]
theorem get_at {H : Hp} {x : Blk} {b : Nat} (h : b = H.length) : (H ++ [x])[b]? = some x := by subst h; simp
theorem cells_at {H : Hp} {x : Blk} {b : Nat} (h : b = H.length) : Hp.cells (H ++ [x]) b = x.cells := by subst h; simp
theorem get_other {H : Hp} {x : Blk} {b c : Nat} (h : b ≠ c) : (H.set c x)[b]? = H[b]? := List.getElem?_set_ne (fun e => h e.symm)
theorem cells_other {H : Hp} {x : Blk} {b c : Nat} (h : b ≠ c) : Hp.cells (H.set c x) b = Hp.cells H b := by simp only [Hp.cells, get_other h]
theorem get_same {H : Hp} {x : Blk} {b : Nat} (h : b < H.length) : (H.set b x)[b]? = some x := by simp [h]
theorem cells_same {H : Hp} {x : Blk} {b : Nat} (h : b < H.length) : Hp.cells (H.set b x) b = x.cells := by simp [Hp.cells, h]
theorem cells_of {H : Hp} {b : Nat} {x : Blk} (h : H[b]? = some x) : Hp.cells H b = x.cells := by simp [Hp.cells, h]
@[simp] theorem rw_cells (z : Nat) (vs : List Value) : (Blk.rw z vs).cells = some vs := rfl
@[simp] theorem ro_cells (z : Nat) (vs : List Value) : (Blk.ro z vs).cells = some vs := rfl
@[simp] theorem agg_cells (cs : Array Value) : (Value.agg cs).cells = cs := rfl
@[simp] theorem int_cells (k : IntKind) (n : Int) : (Value.int k n).cells = #[.int k n] := rfl
@[simp] theorem bool_cells (b : Bool) : (Value.bool b).cells = #[.bool b] := rfl
@[simp] theorem slice_cells (a : Option Addr) (n m : Nat) : (Value.slice a n m).cells = #[.slice a n m] := rfl
@[simp] theorem ptr_cells (a : Option Addr) : (Value.pointer a).cells = #[.pointer a] := rfl

@[simp] theorem V_load_res (H : Hp) (tm : Tm) (t n : Nat) (agg : Bool) : ares tm H (.cell t n agg) = vload H n agg (tm t) := by
  simp only [ares, vload]; split <;> simp_all
@[simp] theorem ares_tmp (H : Hp) (tm : Tm) (t : Nat) : ares tm H (.tmp t) = some (tm t) := rfl
@[simp] theorem ares_one (H : Hp) (tm : Tm) (a : ARes) : aresults [a] tm H = ares tm H a := by
  simp only [aresults, List.mapM_cons, List.mapM_nil]; cases ares tm H a <;> rfl
@[simp] theorem ares_two (H : Hp) (tm : Tm) (t u : Nat) : aresults [.tmp t, .tmp u] tm H = some (.tuple #[tm t, tm u]) := rfl
@[simp] theorem ares_three (H : Hp) (tm : Tm) (t u w : Nat) : aresults [.tmp t, .tmp u, .tmp w] tm H = some (.tuple #[tm t, tm u, tm w]) := rfl
theorem hstore_one {H : Hp} {b o : Nat} {x : Value} {s : Nat} {vs : List Value} (hb : H[b]? = some (.rw s vs)) (hx : x.cells = #[x]) (h1 : x.oneCell' = true) (ho : o < vs.length) :
    hstore 1 (.pointer (some ⟨b, o, none⟩)) x H = some (H.set b (.rw s (vs.set o x))) := by
  simp only [hstore, hb, hx]
  rw [if_pos ⟨rfl, by simp [h1], ho⟩]
  simp only [splice_one vs o x ho]
theorem hstore_all {H : Hp} {b n : Nat} {cs : Array Value} {s : Nat} {vs : List Value} (hb : H[b]? = some (.rw s vs)) (hn : cs.size = n) (h1 : cs.toList.all Value.oneCell' = true) (ho : vs.length = n) :
    hstore n (.pointer (some ⟨b, 0, none⟩)) (.agg cs) H = some (H.set b (.rw s cs.toList)) := by
  simp only [hstore, hb]
  rw [if_pos ⟨hn, h1, by simp only [Nat.zero_add]; omega⟩]
  simp only [splice, agg_cells, List.take_zero, List.nil_append, Nat.zero_add]
  rw [List.drop_eq_nil_of_le (by simp; omega), List.append_nil]
@[simp] theorem one_int (k : IntKind) (n : Int) : (Value.int k n).oneCell' = true := rfl
@[simp] theorem one_bool (b : Bool) : (Value.bool b).oneCell' = true := rfl
@[simp] theorem one_slice (a : Option Addr) (n m : Nat) : (Value.slice a n m).oneCell' = true := rfl
@[simp] theorem one_ptr (a : Option Addr) : (Value.pointer a).oneCell' = true := rfl
/-- The heap goes on: what was there below n is there still. -/
def Ext (n : Nat) (H H' : Hp) : Prop := H.length ≤ H'.length ∧ ∀ b : Nat, b < n → H'[b]? = H[b]?
theorem Ext.refl (n : Nat) (H : Hp) : Ext n H H := ⟨Nat.le_refl _, fun _ _ => rfl⟩
theorem Ext.trans {n m : Nat} {A B C : Hp} (h : Ext n A B) (k : Ext m B C) (hn : n ≤ m) : Ext n A C := ⟨Nat.le_trans h.1 k.1, fun b hb => (k.2 b (Nat.lt_of_lt_of_le hb hn)).trans (h.2 b hb)⟩
theorem Ext.less {n m : Nat} {A B : Hp} (h : Ext m A B) (hn : n ≤ m) : Ext n A B := ⟨h.1, fun b hb => h.2 b (Nat.lt_of_lt_of_le hb hn)⟩
theorem Ext.app {n : Nat} (H : Hp) (L : List Blk) (hn : n ≤ H.length) : Ext n H (H ++ L) := ⟨by simp, fun b hb => get_left (Nat.lt_of_lt_of_le hb hn)⟩
theorem Ext.set {n b : Nat} (H : Hp) (x : Blk) (hb : n ≤ b) : Ext n H (H.set b x) := ⟨by simp, fun c hc => get_other (by omega)⟩
theorem Ext.get {n b : Nat} {H H' : Hp} (h : Ext n H H') (hb : b < n) : H'[b]? = H[b]? := h.2 b hb
theorem Ext.cells {n b : Nat} {H H' : Hp} (h : Ext n H H') (hb : b < n) : H'.cells b = H.cells b := by simp only [Hp.cells, h.2 b hb]

/-! ### Slices -/
/-- A slice of cells: v stands for the cells cs, of elements of size sz; ok: its block fulfils p. -/
structure Arr (H : Hp) (sz : Nat) (p : Nat → Prop) (v : Value) (cs : List Value) : Prop where
  at' : (v = .slice none 0 0 ∧ cs = []) ∨ ∃ b o n us, v = .slice (some ⟨b, o, none⟩) n n ∧ H.cells b = some us ∧ H.esz b = some sz ∧ o + n * sz ≤ us.length ∧ cs = (us.drop o).take (n * sz) ∧ p b
theorem Arr.nil (H : Hp) (sz : Nat) (p : Nat → Prop) : Arr H sz p (.slice none 0 0) [] := ⟨.inl ⟨rfl, rfl⟩⟩
theorem Arr.mono {H : Hp} {sz : Nat} {p q : Nat → Prop} {v : Value} {cs : List Value} (h : Arr H sz p v cs) (hp : ∀ b, p b → q b) : Arr H sz q v cs := by
  rcases h.at' with ⟨h1, h2⟩ | ⟨b, o, n, us, h1, h2, h3, h4, h5, h6⟩
  · exact ⟨.inl ⟨h1, h2⟩⟩
  · exact ⟨.inr ⟨b, o, n, us, h1, h2, h3, h4, h5, hp b h6⟩⟩
theorem Arr.congr {H H' : Hp} {sz : Nat} {p : Nat → Prop} {v : Value} {cs : List Value} (h : Arr H sz p v cs) (hh : ∀ b, p b → b < H.length → H'[b]? = H[b]?) : Arr H' sz p v cs := by
  rcases h.at' with ⟨h1, h2⟩ | ⟨b, o, n, us, h1, h2, h3, h4, h5, h6⟩
  · exact ⟨.inl ⟨h1, h2⟩⟩
  · have hb : b < H.length := by
      rcases Nat.lt_or_ge b H.length with h | h
      · exact h
      · simp [Hp.cells, List.getElem?_eq_none h] at h2
    have := hh b h6 hb
    exact ⟨.inr ⟨b, o, n, us, h1, by simpa only [Hp.cells, this] using h2, by simpa only [Hp.esz, this] using h3, h4, h5, h6⟩⟩
theorem Arr.one {H : Hp} {sz : Nat} {p : Nat → Prop} {v : Value} {cs : List Value} (h : Arr H sz p v cs) : v.cells = #[v] ∧ v.oneCell' = true := by
  rcases h.at' with ⟨rfl, rfl⟩ | ⟨b, o, n, us, rfl, h2, h3, h4, rfl, h6⟩ <;> exact ⟨rfl, rfl⟩
/-- Slices with elements of one cell. -/
theorem Arr.len {H : Hp} {p : Nat → Prop} {v : Value} {cs : List Value} (h : Arr H 1 p v cs) : vlen v = some (vi cs.length) := by
  rcases h.at' with ⟨rfl, rfl⟩ | ⟨b, o, n, us, rfl, h2, h3, h4, rfl, h6⟩
  · rfl
  · simp; omega
theorem Arr.get {H : Hp} {p : Nat → Prop} {v : Value} {cs : List Value} (h : Arr H 1 p v cs) {j : Nat} {u : Value} (hj : cs[j]? = some u) :
    ∃ b o, vidxs 1 v (vi j) = some (.pointer (some ⟨b, o, none⟩)) ∧ (∃ us, H.cells b = some us ∧ us[o]? = some u) ∧ p b := by
  rcases h.at' with ⟨rfl, rfl⟩ | ⟨b, o, n, us, rfl, h2, h3, h4, rfl, h6⟩
  · simp at hj
  · rw [List.getElem?_take] at hj
    split at hj
    · rename_i hlt
      rw [List.getElem?_drop] at hj
      refine ⟨b, o + j, ?_, ⟨us, h2, hj⟩, h6⟩
      rw [V_idxs, if_pos (by omega)]
      simp
    · cases hj
theorem Arr.mid {H : Hp} {p : Nat → Prop} {v : Value} {cs : List Value} (h : Arr H 1 p v cs) {a c : Nat} (hc : c ≤ cs.length) (ha : a ≤ c) :
    ∃ v', aslice H 1 v (some (vi a)) (some (vi c)) = some v' ∧ Arr H 1 p v' ((cs.take c).drop a) := by
  rcases h.at' with ⟨rfl, rfl⟩ | ⟨b, o, n, us, rfl, h2, h3, h4, rfl, h6⟩
  · simp at hc; subst hc
    obtain rfl : a = 0 := by omega
    exact ⟨.slice none 0 0, rfl, by simpa using Arr.nil H 1 p⟩
  · have hcn : c ≤ n := by simp at hc; omega
    refine ⟨.slice (some ⟨b, o + a, none⟩) (c - a) (c - a), ?_, ⟨.inr ⟨b, o + a, c - a, us, rfl, h2, h3, by omega, ?_, h6⟩⟩⟩
    · simp only [aslice, h3, asNat]
      simp [hcn, ha]
    · rw [List.take_take, List.drop_take, List.drop_drop]
      congr 1
      omega
theorem aslice_lo {H : Hp} {p : Nat → Prop} {v : Value} {cs : List Value} (h : Arr H 1 p v cs) (x : Option Value) : aslice H 1 v none x = aslice H 1 v (some (vi (0 : Nat))) x := by
  rcases h.at' with ⟨rfl, rfl⟩ | ⟨b, o, n, us, rfl, h2, h3, h4, rfl, h6⟩
  · simp only [aslice, asNat]; cases asNat 0 0 x 0 <;> simp
  · simp only [aslice, asNat, h3]; cases asNat 0 n x n <;> simp
theorem aslice_hi {H : Hp} {p : Nat → Prop} {v : Value} {cs : List Value} (h : Arr H 1 p v cs) (x : Option Value) : aslice H 1 v x none = aslice H 1 v x (some (vi cs.length)) := by
  rcases h.at' with ⟨rfl, rfl⟩ | ⟨b, o, n, us, rfl, h2, h3, h4, rfl, h6⟩
  · rfl
  · have : ((us.drop o).take (n * 1)).length = n := by simp; omega
    rw [this]
    simp [aslice, asNat, h3]
theorem Arr.drop {H : Hp} {p : Nat → Prop} {v : Value} {cs : List Value} (h : Arr H 1 p v cs) {a : Nat} (ha : a ≤ cs.length) :
    ∃ v', aslice H 1 v (some (vi a)) none = some v' ∧ Arr H 1 p v' (cs.drop a) := by
  rw [aslice_hi h]
  obtain ⟨v', h1, h2⟩ := h.mid (Nat.le_refl _) ha
  exact ⟨v', h1, by simpa using h2⟩
theorem Arr.take {H : Hp} {p : Nat → Prop} {v : Value} {cs : List Value} (h : Arr H 1 p v cs) {c : Nat} (hc : c ≤ cs.length) :
    ∃ v', aslice H 1 v none (some (vi c)) = some v' ∧ Arr H 1 p v' (cs.take c) := by
  rw [aslice_lo h]
  obtain ⟨v', h1, h2⟩ := h.mid hc (Nat.zero_le _)
  exact ⟨v', h1, by simpa using h2⟩
/-- An element is looked up. -/
theorem N_at {T : FuncId → Option AFunc} {Q : AX → Tm → Hp → Prop} {K : List Fk} {tm : Tm} {H : Hp} {l : List DOp} {sl : List Nat} {t t' : Nat}
    {p : Nat → Prop} {v : Value} {cs : List Value} (h : Arr H 1 p v cs) {i : Int} {j : Nat} (hi : i = j) {u : Value} (hj : cs[j]? = some u)
    (k : ∀ q, R T Q (.ops l :: K) .normal (upd (upd tm t q) t' u) H) : Nv T Q (vidxs 1 v (.int .i64 i)) (some t) (⟨some t', .load 1 false (.tmp t), none, sl⟩ :: l) K tm H := by
  subst hi
  obtain ⟨b, o, h1, ⟨us, h2, h3⟩, -⟩ := h.get hj
  rw [h1, Nv_some, S_load]
  simp only [put_some, ev_tmp, upd_app, if_true, V_load1, h2, Option.bind_some, h3, Nv_some]
  exact k _
/-- Something is appended. -/
theorem Arr.append {H : Hp} {p q : Nat → Prop} {s x : Value} {old new : List Value} {bytes : Nat} (hs : Arr H 1 p s old) (hx : Arr H 1 q x new) (hn : new ≠ [])
    (hrw : ∀ b, p b → ∃ vs, H[b]? = some (.rw 1 vs)) (hone : new.all Value.oneCell' = true) (hb : (old.length + new.length) * bytes ≤ 140737488355328) :
    ∃ v H', aappend 1 bytes s x H = some (v, H') ∧ H' = (match s with | .slice (some a) _ _ => H.set a.block .dead | _ => H) ++ [.rw 1 (old ++ new)] ∧ v = .slice (some ⟨H.length, 0, none⟩) (old.length + new.length) (old.length + new.length) := by
  have hxs : slcells H 1 x = some (new.length, new) := by
    rcases hx.at' with ⟨rfl, rfl⟩ | ⟨b, o, n, us, rfl, h2, h3, h4, rfl, h6⟩
    · exact absurd rfl hn
    · simp only [slcells, Option.isNone_none, if_true, Hp.load, h2, if_pos h4, Option.map_some]
      simp; omega
  have hl : new.length ≠ 0 := fun e => hn (List.eq_nil_of_length_eq_zero e)
  rcases hs.at' with ⟨rfl, rfl⟩ | ⟨b, o, n, us, rfl, h2, h3, h4, rfl, h6⟩
  · refine ⟨_, _, ?_, rfl, rfl⟩
    simp only [aappend, hxs, if_neg hl]
    rw [if_pos ⟨by simpa using hb, hone⟩]
    simp
  · obtain ⟨vs, hvs⟩ := hrw b h6
    have hcs : slcells H 1 (.slice (some ⟨b, o, none⟩) n n) = some (n, (us.drop o).take (n * 1)) := by
      simp only [slcells, Option.isNone_none, if_true, Hp.load, h2, if_pos h4, Option.map_some]
    have hlen : ((us.drop o).take (n * 1)).length = n := by simp; omega
    refine ⟨_, _, ?_, rfl, rfl⟩
    simp only [aappend, hxs, if_neg hl, hvs, hcs]
    rw [if_pos ⟨trivial, trivial, by rw [hlen] at hb; exact hb, hone⟩, hlen]
end Go.Ab
