/- The abstract machine, part 1: how its values and its heap stand to the model's. Own work. -/
import Derived.Calls
import Derived.Orders
import Derived.Tactics
import Derived.Laws.CopyRow
import Derived.Laws.Cells
import Derived.Laws.NewBlocks
import Derived.Below
namespace Go.Ab
open Go

/-- Where a block of the abstract heap lies: its first cell, how many cells from there on are its own, the size of an element of the slices over it. -/
structure Loc where
  base : Addr
  ext : Nat
  sz : Nat

abbrev Emb := Nat → Option Loc
def Emb.le (i j : Emb) : Prop := ∀ b L, i b = some L → j b = some L
theorem Emb.le.refl (i : Emb) : i.le i := fun _ _ h => h
theorem Emb.le.trans {i j k : Emb} (h : i.le j) (h' : j.le k) : i.le k := fun b L hb => h' b L (h b L hb)

theorem add_add (a : Addr) (m n : Nat) : (a.add m).add n = a.add (m + n) := by
  unfold Addr.add
  by_cases h1 : m = 0 <;> by_cases h2 : n = 0 <;> simp [h1, h2, Nat.add_assoc]
theorem add_block (a : Addr) (m : Nat) : (a.add m).block = a.block := by unfold Addr.add; split <;> rfl
theorem add_none (g o m : Nat) : (⟨g, o, none⟩ : Addr).add m = ⟨g, o + m, none⟩ := by unfold Addr.add; split <;> simp_all

/-- An abstract value and the model's. Slices of the abstract machine have their length as capacity. -/
inductive VR (ι : Emb) : Value → Value → Prop
  | bool (b : Bool) : VR ι (.bool b) (.bool b)
  | int (k : IntKind) (n : Int) : VR ι (.int k n) (.int k n)
  | str (s : ByteArray) : VR ι (.string s) (.string s)
  | pnil : VR ι (.pointer none) (.pointer none)
  | ptr (b off : Nat) (L : Loc) (h : ι b = some L) : VR ι (.pointer (some ⟨b, off, none⟩)) (.pointer (some (L.base.add off)))
  | snil : VR ι (.slice none 0 0) (.slice none 0 0)
  | sl (b off n c : Nat) (L : Loc) (A : Addr) (h : ι b = some L) (hn : n ≤ c) (hc : c = 0 ∨ (A = L.base.add off ∧ off + c * L.sz ≤ L.ext)) :
      VR ι (.slice (some ⟨b, off, none⟩) n n) (.slice (some A) n c)
  | mnil : VR ι (.map none) (.map none)
  | mp (b : Nat) (L : Loc) (h : ι b = some L) : VR ι (.map (some b)) (.map (some L.base.block))
  | fnil : VR ι .nilFunc .nilFunc
  | fn (f : Fn) (cs cs' : Array Value) (hs : cs.size = cs'.size) (h : ∀ (j : Nat) (v v' : Value), cs[j]? = some v → cs'[j]? = some v' → VR ι v v') :
      VR ι (.func f #[] cs) (.func f #[] cs')
  | inil : VR ι .nilIface .nilIface
  | ifc (t : TypeId) (v v' : Value) (h : VR ι v v') : VR ι (.iface t v) (.iface t v')
  | agg (cs cs' : Array Value) (hs : cs.size = cs'.size) (h : ∀ (j : Nat) (v v' : Value), cs[j]? = some v → cs'[j]? = some v' → VR ι v v') : VR ι (.agg cs) (.agg cs')
  | tup (cs cs' : Array Value) (hs : cs.size = cs'.size) (h : ∀ (j : Nat) (v v' : Value), cs[j]? = some v → cs'[j]? = some v' → VR ι v v') : VR ι (.tuple cs) (.tuple cs')

theorem VR.mono {ι ι' : Emb} (hi : ι.le ι') {v v' : Value} (h : VR ι v v') : VR ι' v v' := by
  induction h with
  | bool b => exact .bool b
  | int k n => exact .int k n
  | str s => exact .str s
  | pnil => exact .pnil
  | ptr b off L h => exact .ptr b off L (hi _ _ h)
  | snil => exact .snil
  | sl b off n c L A h hn hc => exact .sl b off n c L A (hi _ _ h) hn hc
  | mnil => exact .mnil
  | mp b L h => exact .mp b L (hi _ _ h)
  | fnil => exact .fnil
  | fn f cs cs' hs _ ih => exact .fn f cs cs' hs ih
  | inil => exact .inil
  | ifc t v v' _ ih => exact .ifc t v v' ih
  | agg cs cs' hs _ ih => exact .agg cs cs' hs ih
  | tup cs cs' hs _ ih => exact .tup cs cs' hs ih

theorem VR.slice_inv {ι : Emb} {a : Addr} {n m : Nat} {v' : Value} (h : VR ι (.slice (some a) n m) v') : ∃ b off c L A, a = ⟨b, off, none⟩ ∧ m = n ∧ v' = .slice (some A) n c ∧
    ι b = some L ∧ n ≤ c ∧ (c = 0 ∨ (A = L.base.add off ∧ off + c * L.sz ≤ L.ext)) := by
  generalize hv : Value.slice (some a) n m = v at h
  cases h <;> cases hv
  exact ⟨_, _, _, _, _, rfl, rfl, rfl, by assumption, by assumption, by assumption⟩
theorem VR.snil_inv {ι : Emb} {n m : Nat} {v' : Value} (h : VR ι (.slice none n m) v') : v' = .slice none 0 0 ∧ n = 0 ∧ m = 0 := by
  generalize hv : Value.slice none n m = v at h
  cases h <;> cases hv
  exact ⟨rfl, rfl, rfl⟩
theorem VR.ptr_inv {ι : Emb} {a : Addr} {v' : Value} (h : VR ι (.pointer (some a)) v') : ∃ b off L, a = ⟨b, off, none⟩ ∧ v' = .pointer (some (L.base.add off)) ∧ ι b = some L := by
  generalize hv : Value.pointer (some a) = v at h
  cases h <;> cases hv
  exact ⟨_, _, _, rfl, rfl, by assumption⟩
theorem VR.one {ι : Emb} {v v' : Value} (h : VR ι v v') : v'.oneCell' = v.oneCell' := by cases h <;> rfl

/-- Lists of values, one by one. -/
def VRs (ι : Emb) (l l' : List Value) : Prop := l.length = l'.length ∧ ∀ (j : Nat) (v v' : Value), l[j]? = some v → l'[j]? = some v' → VR ι v v'
theorem VRs.mono {ι ι' : Emb} (hi : ι.le ι') {l l' : List Value} (h : VRs ι l l') : VRs ι' l l' := ⟨h.1, fun j v v' a b => (h.2 j v v' a b).mono hi⟩
theorem VRs.nil {ι : Emb} : VRs ι [] [] := ⟨rfl, fun _ _ _ h => by simp at h⟩
theorem VRs.cons {ι : Emb} {v v' : Value} {l l' : List Value} (h : VR ι v v') (hl : VRs ι l l') : VRs ι (v :: l) (v' :: l') :=
  ⟨by simp [hl.1], fun j => by
    cases j with
    | zero => intro u u' a b; simp at a b; subst a; subst b; exact h
    | succ j => intro u u' a b; exact hl.2 j u u' (by simpa using a) (by simpa using b)⟩
theorem VRs.cons_inv {ι : Emb} {v : Value} {l l' : List Value} (h : VRs ι (v :: l) l') : ∃ v' r, l' = v' :: r ∧ VR ι v v' ∧ VRs ι l r := by
  cases l' with
  | nil => simp [VRs] at h
  | cons v' r => exact ⟨v', r, rfl, h.2 0 _ _ rfl rfl, by have := h.1; simpa using this, fun j u u' a b => h.2 (j + 1) u u' (by simpa using a) (by simpa using b)⟩
theorem VRs.nil_inv {ι : Emb} {l' : List Value} (h : VRs ι [] l') : l' = [] := List.eq_nil_of_length_eq_zero h.1.symm
theorem VRs.get {ι : Emb} {l l' : List Value} (h : VRs ι l l') {j : Nat} {v : Value} (hv : l[j]? = some v) : ∃ v', l'[j]? = some v' ∧ VR ι v v' := by
  have hj : j < l.length := by
    rcases Nat.lt_or_ge j l.length with h | h
    · exact h
    · simp [List.getElem?_eq_none h] at hv
  have hj' : j < l'.length := h.1 ▸ hj
  exact ⟨l'[j], by simp [hj'], h.2 j v _ hv (by simp [hj'])⟩
theorem VRs.get' {ι : Emb} {l l' : List Value} (h : VRs ι l l') {j : Nat} {v' : Value} (hv : l'[j]? = some v') : ∃ v, l[j]? = some v ∧ VR ι v v' := by
  have hj : j < l'.length := by
    rcases Nat.lt_or_ge j l'.length with h | h
    · exact h
    · simp [List.getElem?_eq_none h] at hv
  have hj' : j < l.length := h.1 ▸ hj
  exact ⟨l[j], by simp [hj'], h.2 j _ v' (by simp [hj']) hv⟩
theorem VRs.append {ι : Emb} {a a' b b' : List Value} (h : VRs ι a a') (k : VRs ι b b') : VRs ι (a ++ b) (a' ++ b') := by
  refine ⟨by simp [h.1, k.1], fun j v v' hv hv' => ?_⟩
  by_cases hj : j < a.length
  · rw [List.getElem?_append_left hj] at hv
    rw [List.getElem?_append_left (h.1 ▸ hj)] at hv'
    exact h.2 j v v' hv hv'
  · rw [List.getElem?_append_right (by omega)] at hv
    rw [List.getElem?_append_right (by have := h.1; omega)] at hv'
    rw [h.1] at hv
    exact k.2 _ v v' hv hv'
theorem VRs.take {ι : Emb} {a a' : List Value} (h : VRs ι a a') (n : Nat) : VRs ι (a.take n) (a'.take n) := by
  refine ⟨by simp [h.1], fun j v v' hv hv' => ?_⟩
  rw [List.getElem?_take] at hv hv'
  split at hv
  · rename_i hj; rw [if_pos hj] at hv'; exact h.2 j v v' hv hv'
  · cases hv
theorem VRs.drop {ι : Emb} {a a' : List Value} (h : VRs ι a a') (n : Nat) : VRs ι (a.drop n) (a'.drop n) := by
  refine ⟨by simp [h.1], fun j v v' hv hv' => ?_⟩
  rw [List.getElem?_drop] at hv hv'
  exact h.2 _ v v' hv hv'
theorem VRs.one {ι : Emb} {l l' : List Value} (h : VRs ι l l') (h1 : l.all Value.oneCell' = true) : ∀ v ∈ l', v.oneCell' = true := by
  intro v hv
  obtain ⟨j, hj⟩ := List.getElem?_of_mem hv
  obtain ⟨u, hu, huv⟩ := h.get' hj
  rw [huv.one]
  exact List.all_eq_true.1 h1 u (List.mem_of_getElem? hu)

theorem VR.cells {ι : Emb} {v v' : Value} (h : VR ι v v') : VRs ι v.cells.toList v'.cells.toList := by
  cases h <;> first
    | (refine VRs.cons ?_ VRs.nil; constructor <;> assumption)
    | (rename_i cs cs' hs h; exact ⟨by simpa [Value.cells] using hs, fun j v v' a b => h j v v' (by simpa [Value.cells] using a) (by simpa [Value.cells] using b)⟩)
theorem VR.of_agg {ι : Emb} {l l' : List Value} (h : VRs ι l l') : VR ι (.agg l.toArray) (.agg l'.toArray) :=
  .agg _ _ (by simpa using h.1) fun j v v' a b => h.2 j v v' (by simpa using a) (by simpa using b)
theorem VR.of_tup {ι : Emb} {l l' : List Value} (h : VRs ι l l') : VR ι (.tuple l.toArray) (.tuple l'.toArray) :=
  .tup _ _ (by simpa using h.1) fun j v v' a b => h.2 j v v' (by simpa using a) (by simpa using b)

/-! ### The abstract heap -/
inductive Blk where
  | dead
  | ro (sz : Nat) (vs : List Value)
  | rw (sz : Nat) (vs : List Value)
  | mp (es : List (Value × Value))
abbrev Hp := List Blk
def Blk.cells : Blk → Option (List Value)
  | .ro _ vs => some vs
  | .rw _ vs => some vs
  | _ => none
def Blk.owned : Blk → Bool
  | .rw .. => true
  | .mp .. => true
  | _ => false
def Hp.cells (H : Hp) (b : Nat) : Option (List Value) := (H[b]?).bind Blk.cells
def Blk.esz : Blk → Option Nat
  | .ro z _ => some z
  | .rw z _ => some z
  | _ => none
def Hp.esz (H : Hp) (b : Nat) : Option Nat := (H[b]?).bind Blk.esz
def Hp.owned (H : Hp) (b : Nat) : Bool := ((H[b]?).map Blk.owned).getD false

/-- The entries of a map: keys and values one by one; the stamps grow. -/
def MapRel (ι : Emb) (es : List (Value × Value)) (entries : Array MapEntry) (clock : Nat) : Prop :=
  es.length = entries.size ∧ (∀ (j : Nat) (k v : Value) (e : MapEntry), es[j]? = some (k, v) → entries[j]? = some e → VR ι k e.key ∧ VR ι v e.val) ∧
  (∀ (j : Nat) (e : MapEntry), entries[j]? = some e → e.born < clock) ∧ (∀ (j j' : Nat) (e e' : MapEntry), j < j' → entries[j]? = some e → entries[j']? = some e' → e.born < e'.born)
theorem MapRel.mono {ι ι' : Emb} (hi : ι.le ι') {es : List (Value × Value)} {en : Array MapEntry} {c : Nat} (h : MapRel ι es en c) : MapRel ι' es en c :=
  ⟨h.1, fun j k v e a b => ⟨(h.2.1 j k v e a b).1.mono hi, (h.2.1 j k v e a b).2.mono hi⟩, h.2.2⟩

structure Sim (ι : Emb) (H : Hp) (w : World) : Prop where
  cells : ∀ b vs, H.cells b = some vs → ∃ L, ι b = some L ∧ ∀ (j : Nat) (v : Value), vs[j]? = some v → ∃ v', w.cell? (L.base.add j) = some v' ∧ VR ι v v'
  rosz : ∀ b sz vs, H[b]? = some (.ro sz vs) → ∃ L, ι b = some L ∧ L.sz = sz
  own : ∀ b sz vs, H[b]? = some (.rw sz vs) → ∃ L cur t, ι b = some L ∧ L.base.spot = none ∧ L.sz = sz ∧ w.heap[L.base.block]? = some (.cells cur t (0, 0)) ∧
    L.base.off + L.ext ≤ cur.size ∧ vs.length ≤ L.ext
  maps : ∀ b es, H[b]? = some (.mp es) → ∃ L entries clock, ι b = some L ∧ w.heap[L.base.block]? = some (.map entries clock) ∧ MapRel ι es entries clock
  dom : ∀ b L, ι b = some L → b < H.length
  sep : ∀ b b' L L', b ≠ b' → H.owned b = true → (H.owned b' = true ∨ ∃ z v vs, H[b']? = some (.ro z (v :: vs))) → ι b = some L → ι b' = some L' → L.base.block ≠ L'.base.block

/-- A block of the world that the abstract heap owns. -/
def OwnW (ι : Emb) (H : Hp) (g : Nat) : Prop := ∃ b L, ι b = some L ∧ L.base.block = g ∧ H.owned b = true

structure Fr (ι : Emb) (H : Hp) (w : World) (ι' : Emb) (H' : Hp) (w' : World) : Prop where
  os : w'.os = w.os
  tape : w'.tape = w.tape
  output : w'.output = w.output
  size : w.heap.size ≤ w'.heap.size
  emb : ι.le ι'
  len : H.length ≤ H'.length
  old : ∀ b, b < H.length → ι' b = ι b
  dead : ∀ b : Nat, H[b]? = some Blk.dead → H'[b]? = some Blk.dead
  ro : ∀ (b z : Nat) (vs : List Value), H'[b]? = some (Blk.ro z vs) → H[b]? = some (Blk.ro z vs)
  keep : ∀ g, g < w.heap.size → ¬ OwnW ι H g → w'.heap[g]? = w.heap[g]?
  own : ∀ g, g < w.heap.size → OwnW ι' H' g → OwnW ι H g

theorem Fr.refl (ι : Emb) (H : Hp) (w : World) : Fr ι H w ι H w := ⟨rfl, rfl, rfl, Nat.le_refl _, Emb.le.refl ι, Nat.le_refl _, fun _ _ => rfl, fun _ h => h, fun _ _ _ h => h, fun _ _ _ => rfl, fun _ _ h => h⟩
theorem Fr.trans {ι ι1 ι2 : Emb} {H H1 H2 : Hp} {w w1 w2 : World} (a : Fr ι H w ι1 H1 w1) (b : Fr ι1 H1 w1 ι2 H2 w2) : Fr ι H w ι2 H2 w2 :=
  ⟨b.os.trans a.os, b.tape.trans a.tape, b.output.trans a.output, Nat.le_trans a.size b.size, a.emb.trans b.emb, Nat.le_trans a.len b.len, fun x hx => (b.old x (Nat.lt_of_lt_of_le hx a.len)).trans (a.old x hx), fun x hx => b.dead x (a.dead x hx), fun x z vs h => a.ro x z vs (b.ro x z vs h),
    fun g hg hn => (b.keep g (Nat.lt_of_lt_of_le hg a.size) fun h => hn (a.own g hg h)).trans (a.keep g hg hn),
    fun g hg h => a.own g hg (b.own g (Nat.lt_of_lt_of_le hg a.size) h)⟩
/-- Nothing owned at the start: nothing that was there has changed. -/
theorem Fr.below {ι ι' : Emb} {H H' : Hp} {w w' : World} (f : Fr ι H w ι' H' w') (h : ∀ b, H.owned b = false) : Go.RowKit.Below w.heap.size w w' :=
  ⟨f.os, f.tape, f.output, f.size, fun g hg => f.keep g hg fun ⟨b, _, _, _, ho⟩ => by simp [h b] at ho⟩

theorem owned_of_rw {H : Hp} {b sz : Nat} {vs : List Value} (h : H[b]? = some (.rw sz vs)) : H.owned b = true := by simp [Hp.owned, h, Blk.owned]
theorem owned_of_mp {H : Hp} {b : Nat} {es : List (Value × Value)} (h : H[b]? = some (.mp es)) : H.owned b = true := by simp [Hp.owned, h, Blk.owned]

theorem Sim.drew {ι : Emb} {H : Hp} {w : World} (h : Sim ι H w) : Sim ι H w.drew :=
  ⟨h.cells, h.rosz, h.own, h.maps, h.dom, h.sep⟩
theorem Fr.drew {ι ι' : Emb} {H H' : Hp} {w w' : World} (h : Fr ι H w ι' H' w') : Fr ι H w ι' H' w'.drew :=
  ⟨h.os, h.tape, h.output, h.size, h.emb, h.len, h.old, h.dead, h.ro, h.keep, h.own⟩

theorem Fr.of_drew {ι ι' : Emb} {H H' : Hp} {w w' : World} (h : Fr ι H w.drew ι' H' w') : Fr ι H w ι' H' w' :=
  ⟨h.os, h.tape, h.output, h.size, h.emb, h.len, h.old, h.dead, h.ro, h.keep, h.own⟩

/-- An owned block's world block is there. -/
theorem Sim.own_lt {ι : Emb} {H : Hp} {w : World} (s : Sim ι H w) {b : Nat} {L : Loc} (ho : H.owned b = true) (hL : ι b = some L) : L.base.block < w.heap.size := by
  unfold Hp.owned at ho
  cases hb : H[b]? with
  | none => simp [hb] at ho
  | some x =>
    cases x with
    | dead => simp [hb, Blk.owned] at ho
    | ro z vs => simp [hb, Blk.owned] at ho
    | rw sz vs =>
      obtain ⟨L', cur, t, h1, _, _, h2, _⟩ := s.own b sz vs hb
      rw [hL] at h1; cases h1
      exact (Array.getElem?_eq_some_iff.1 h2).1
    | mp es =>
      obtain ⟨L', en, c, h1, h2, _⟩ := s.maps b es hb
      rw [hL] at h1; cases h1
      exact (Array.getElem?_eq_some_iff.1 h2).1

/-- The world's cells behind the cells of a block, as a list. -/
theorem Sim.read {ι : Emb} {H : Hp} {w : World} (s : Sim ι H w) {b : Nat} {vs : List Value} (hb : H.cells b = some vs) :
    ∃ L vs', ι b = some L ∧ VRs ι vs vs' ∧ ∀ (j : Nat) (v : Value), vs'[j]? = some v → w.cell? (L.base.add j) = some v := by
  obtain ⟨L, hL, hc⟩ := s.cells b vs hb
  refine ⟨L, (List.range vs.length).map fun j => (w.cell? (L.base.add j)).getD undef, hL, ⟨by simp, fun j v v' hv hv' => ?_⟩, fun j v hv => ?_⟩
  · obtain ⟨u, hu, huv⟩ := hc j v hv
    have hj : j < vs.length := by
      rcases Nat.lt_or_ge j vs.length with h | h
      · exact h
      · simp [List.getElem?_eq_none h] at hv
    simp [hj, hu] at hv'
    subst hv'; exact huv
  · have hj : j < vs.length := by
      rcases Nat.lt_or_ge j vs.length with h | h
      · exact h
      · rw [List.getElem?_eq_none (by simpa using h)] at hv; cases hv
    obtain ⟨u, hu, _⟩ := hc j vs[j] (by simp [hj])
    simp [hj, hu] at hv
    subst hv; exact hu

theorem Sim.esz {ι : Emb} {H : Hp} {w : World} (s : Sim ι H w) {b z : Nat} (h : H.esz b = some z) {L : Loc} (hL : ι b = some L) : L.sz = z := by
  unfold Hp.esz at h
  cases hb : H[b]? with
  | none => simp [hb] at h
  | some x =>
    cases x with
    | ro z' vs =>
      simp [hb, Blk.esz] at h
      obtain ⟨L', h1, h2⟩ := s.rosz b z' vs hb
      rw [hL] at h1; cases h1; exact h2.trans h
    | rw z' vs =>
      simp [hb, Blk.esz] at h
      obtain ⟨L', cur, t, h1, _, h2, _⟩ := s.own b z' vs hb
      rw [hL] at h1; cases h1; exact h2.trans h
    | dead => simp [hb, Blk.esz] at h
    | mp es => simp [hb, Blk.esz] at h

end Go.Ab
