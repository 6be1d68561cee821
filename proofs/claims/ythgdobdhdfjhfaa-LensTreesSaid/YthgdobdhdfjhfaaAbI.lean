/- The layer's texts Ab1 to AbI in one. Own work. -/
import Derived.Calls
import Derived.Orders
import Derived.Tactics
import Derived.Laws.CopyRow
import Derived.Laws.Cells
import Derived.Laws.NewBlocks
import Derived.Below
import Derived.Laws.AppendOwn
import Derived.Laws.StructEq
import Derived.Laws.MakeOwn
import Derived.Laws.Build
import Derived.Laws.Append
import Derived.IntWalk
/- The abstract machine, part 1: how its values and its heap stand to the model's. Own work. -/
namespace Go.Ab
open Go

/-- Where a block of the abstract heap lies: its first cell, how many cells from there on are its own, the size of an element of the slices over it. -/
structure Loc where
  base : Addr
  ext : Nat
  sz : Nat

abbrev Emb := Nat → Option Loc
def Emb.le (i j : Emb) : Prop := ∀ b L, i b = some L → j b = some L
theorem Emb.le.refl (i : Emb) : i.le i := fun _ _ h => h
theorem Emb.le.trans {i j k : Emb} (h : i.le j) (h' : j.le k) : i.le k := fun b L hb => h' b L (h b L hb)

theorem add_add (a : Addr) (m n : Nat) : (a.add m).add n = a.add (m + n) := by
  unfold Addr.add
  by_cases h1 : m = 0 <;> by_cases h2 : n = 0 <;> simp [h1, h2, Nat.add_assoc]
theorem add_block (a : Addr) (m : Nat) : (a.add m).block = a.block := by unfold Addr.add; split <;> rfl
theorem add_none (g o m : Nat) : (⟨g, o, none⟩ : Addr).add m = ⟨g, o + m, none⟩ := by unfold Addr.add; split <;> simp_all

/-- An abstract value and the model's. Slices of the abstract machine have their length as capacity. -/
inductive VR (ι : Emb) : Value → Value → Prop
  | bool (b : Bool) : VR ι (.bool b) (.bool b)
  | int (k : IntKind) (n : Int) : VR ι (.int k n) (.int k n)
  | str (s : ByteArray) : VR ι (.string s) (.string s)
  | pnil : VR ι (.pointer none) (.pointer none)
  | ptr (b off : Nat) (L : Loc) (h : ι b = some L) : VR ι (.pointer (some ⟨b, off, none⟩)) (.pointer (some (L.base.add off)))
  | snil : VR ι (.slice none 0 0) (.slice none 0 0)
  | sl (b off n c : Nat) (L : Loc) (A : Addr) (h : ι b = some L) (hn : n ≤ c) (hc : c = 0 ∨ (A = L.base.add off ∧ off + c * L.sz ≤ L.ext)) :
      VR ι (.slice (some ⟨b, off, none⟩) n n) (.slice (some A) n c)
  | mnil : VR ι (.map none) (.map none)
  | mp (b : Nat) (L : Loc) (h : ι b = some L) : VR ι (.map (some b)) (.map (some L.base.block))
  | fnil : VR ι .nilFunc .nilFunc
  | fn (f : Fn) (cs cs' : Array Value) (hs : cs.size = cs'.size) (h : ∀ (j : Nat) (v v' : Value), cs[j]? = some v → cs'[j]? = some v' → VR ι v v') :
      VR ι (.func f #[] cs) (.func f #[] cs')
  | inil : VR ι .nilIface .nilIface
  | ifc (t : TypeId) (v v' : Value) (h : VR ι v v') : VR ι (.iface t v) (.iface t v')
  | agg (cs cs' : Array Value) (hs : cs.size = cs'.size) (h : ∀ (j : Nat) (v v' : Value), cs[j]? = some v → cs'[j]? = some v' → VR ι v v') : VR ι (.agg cs) (.agg cs')
  | tup (cs cs' : Array Value) (hs : cs.size = cs'.size) (h : ∀ (j : Nat) (v v' : Value), cs[j]? = some v → cs'[j]? = some v' → VR ι v v') : VR ι (.tuple cs) (.tuple cs')

theorem VR.mono {ι ι' : Emb} (hi : ι.le ι') {v v' : Value} (h : VR ι v v') : VR ι' v v' := by
  induction h with
  | bool b => exact .bool b
  | int k n => exact .int k n
  | str s => exact .str s
  | pnil => exact .pnil
  | ptr b off L h => exact .ptr b off L (hi _ _ h)
  | snil => exact .snil
  | sl b off n c L A h hn hc => exact .sl b off n c L A (hi _ _ h) hn hc
  | mnil => exact .mnil
  | mp b L h => exact .mp b L (hi _ _ h)
  | fnil => exact .fnil
  | fn f cs cs' hs _ ih => exact .fn f cs cs' hs ih
  | inil => exact .inil
  | ifc t v v' _ ih => exact .ifc t v v' ih
  | agg cs cs' hs _ ih => exact .agg cs cs' hs ih
  | tup cs cs' hs _ ih => exact .tup cs cs' hs ih

theorem VR.slice_inv {ι : Emb} {a : Addr} {n m : Nat} {v' : Value} (h : VR ι (.slice (some a) n m) v') : ∃ b off c L A, a = ⟨b, off, none⟩ ∧ m = n ∧ v' = .slice (some A) n c ∧
    ι b = some L ∧ n ≤ c ∧ (c = 0 ∨ (A = L.base.add off ∧ off + c * L.sz ≤ L.ext)) := by
  generalize hv : Value.slice (some a) n m = v at h
  cases h <;> cases hv
  exact ⟨_, _, _, _, _, rfl, rfl, rfl, by assumption, by assumption, by assumption⟩
theorem VR.snil_inv {ι : Emb} {n m : Nat} {v' : Value} (h : VR ι (.slice none n m) v') : v' = .slice none 0 0 ∧ n = 0 ∧ m = 0 := by
  generalize hv : Value.slice none n m = v at h
  cases h <;> cases hv
  exact ⟨rfl, rfl, rfl⟩
theorem VR.ptr_inv {ι : Emb} {a : Addr} {v' : Value} (h : VR ι (.pointer (some a)) v') : ∃ b off L, a = ⟨b, off, none⟩ ∧ v' = .pointer (some (L.base.add off)) ∧ ι b = some L := by
  generalize hv : Value.pointer (some a) = v at h
  cases h <;> cases hv
  exact ⟨_, _, _, rfl, rfl, by assumption⟩
theorem VR.one {ι : Emb} {v v' : Value} (h : VR ι v v') : v'.oneCell' = v.oneCell' := by cases h <;> rfl

/-- Lists of values, one by one. -/
def VRs (ι : Emb) (l l' : List Value) : Prop := l.length = l'.length ∧ ∀ (j : Nat) (v v' : Value), l[j]? = some v → l'[j]? = some v' → VR ι v v'
theorem VRs.mono {ι ι' : Emb} (hi : ι.le ι') {l l' : List Value} (h : VRs ι l l') : VRs ι' l l' := ⟨h.1, fun j v v' a b => (h.2 j v v' a b).mono hi⟩
theorem VRs.nil {ι : Emb} : VRs ι [] [] := ⟨rfl, fun _ _ _ h => by simp at h⟩
theorem VRs.cons {ι : Emb} {v v' : Value} {l l' : List Value} (h : VR ι v v') (hl : VRs ι l l') : VRs ι (v :: l) (v' :: l') :=
  ⟨by simp [hl.1], fun j => by
    cases j with
    | zero => intro u u' a b; simp at a b; subst a; subst b; exact h
    | succ j => intro u u' a b; exact hl.2 j u u' (by simpa using a) (by simpa using b)⟩
theorem VRs.cons_inv {ι : Emb} {v : Value} {l l' : List Value} (h : VRs ι (v :: l) l') : ∃ v' r, l' = v' :: r ∧ VR ι v v' ∧ VRs ι l r := by
  cases l' with
  | nil => simp [VRs] at h
  | cons v' r => exact ⟨v', r, rfl, h.2 0 _ _ rfl rfl, by have := h.1; simpa using this, fun j u u' a b => h.2 (j + 1) u u' (by simpa using a) (by simpa using b)⟩
theorem VRs.nil_inv {ι : Emb} {l' : List Value} (h : VRs ι [] l') : l' = [] := List.eq_nil_of_length_eq_zero h.1.symm
theorem VRs.get {ι : Emb} {l l' : List Value} (h : VRs ι l l') {j : Nat} {v : Value} (hv : l[j]? = some v) : ∃ v', l'[j]? = some v' ∧ VR ι v v' := by
  have hj : j < l.length := by
    rcases Nat.lt_or_ge j l.length with h | h
    · exact h
    · simp [List.getElem?_eq_none h] at hv
  have hj' : j < l'.length := h.1 ▸ hj
  exact ⟨l'[j], by simp [hj'], h.2 j v _ hv (by simp [hj'])⟩
theorem VRs.get' {ι : Emb} {l l' : List Value} (h : VRs ι l l') {j : Nat} {v' : Value} (hv : l'[j]? = some v') : ∃ v, l[j]? = some v ∧ VR ι v v' := by
  have hj : j < l'.length := by
    rcases Nat.lt_or_ge j l'.length with h | h
    · exact h
    · simp [List.getElem?_eq_none h] at hv
  have hj' : j < l.length := h.1 ▸ hj
  exact ⟨l[j], by simp [hj'], h.2 j _ v' (by simp [hj']) hv⟩
theorem VRs.append {ι : Emb} {a a' b b' : List Value} (h : VRs ι a a') (k : VRs ι b b') : VRs ι (a ++ b) (a' ++ b') := by
  refine ⟨by simp [h.1, k.1], fun j v v' hv hv' => ?_⟩
  by_cases hj : j < a.length
  · rw [List.getElem?_append_left hj] at hv
    rw [List.getElem?_append_left (h.1 ▸ hj)] at hv'
    exact h.2 j v v' hv hv'
  · rw [List.getElem?_append_right (by omega)] at hv
    rw [List.getElem?_append_right (by have := h.1; omega)] at hv'
    rw [h.1] at hv
    exact k.2 _ v v' hv hv'
theorem VRs.take {ι : Emb} {a a' : List Value} (h : VRs ι a a') (n : Nat) : VRs ι (a.take n) (a'.take n) := by
  refine ⟨by simp [h.1], fun j v v' hv hv' => ?_⟩
  rw [List.getElem?_take] at hv hv'
  split at hv
  · rename_i hj; rw [if_pos hj] at hv'; exact h.2 j v v' hv hv'
  · cases hv
theorem VRs.drop {ι : Emb} {a a' : List Value} (h : VRs ι a a') (n : Nat) : VRs ι (a.drop n) (a'.drop n) := by
  refine ⟨by simp [h.1], fun j v v' hv hv' => ?_⟩
  rw [List.getElem?_drop] at hv hv'
  exact h.2 _ v v' hv hv'
theorem VRs.one {ι : Emb} {l l' : List Value} (h : VRs ι l l') (h1 : l.all Value.oneCell' = true) : ∀ v ∈ l', v.oneCell' = true := by
  intro v hv
  obtain ⟨j, hj⟩ := List.getElem?_of_mem hv
  obtain ⟨u, hu, huv⟩ := h.get' hj
  rw [huv.one]
  exact List.all_eq_true.1 h1 u (List.mem_of_getElem? hu)

theorem VR.cells {ι : Emb} {v v' : Value} (h : VR ι v v') : VRs ι v.cells.toList v'.cells.toList := by
  cases h <;> first
    | (refine VRs.cons ?_ VRs.nil; constructor <;> assumption)
    | (rename_i cs cs' hs h; exact ⟨by simpa [Value.cells] using hs, fun j v v' a b => h j v v' (by simpa [Value.cells] using a) (by simpa [Value.cells] using b)⟩)
theorem VR.of_agg {ι : Emb} {l l' : List Value} (h : VRs ι l l') : VR ι (.agg l.toArray) (.agg l'.toArray) :=
  .agg _ _ (by simpa using h.1) fun j v v' a b => h.2 j v v' (by simpa using a) (by simpa using b)
theorem VR.of_tup {ι : Emb} {l l' : List Value} (h : VRs ι l l') : VR ι (.tuple l.toArray) (.tuple l'.toArray) :=
  .tup _ _ (by simpa using h.1) fun j v v' a b => h.2 j v v' (by simpa using a) (by simpa using b)

/-! ### The abstract heap -/
inductive Blk where
  | dead
  | ro (sz : Nat) (vs : List Value)
  | rw (sz : Nat) (vs : List Value)
  | mp (es : List (Value × Value))
abbrev Hp := List Blk
def Blk.cells : Blk → Option (List Value)
  | .ro _ vs => some vs
  | .rw _ vs => some vs
  | _ => none
def Blk.owned : Blk → Bool
  | .rw .. => true
  | .mp .. => true
  | _ => false
def Hp.cells (H : Hp) (b : Nat) : Option (List Value) := (H[b]?).bind Blk.cells
def Blk.esz : Blk → Option Nat
  | .ro z _ => some z
  | .rw z _ => some z
  | _ => none
def Hp.esz (H : Hp) (b : Nat) : Option Nat := (H[b]?).bind Blk.esz
def Hp.owned (H : Hp) (b : Nat) : Bool := ((H[b]?).map Blk.owned).getD false

/-- The entries of a map: keys and values one by one; the stamps grow. -/
def MapRel (ι : Emb) (es : List (Value × Value)) (entries : Array MapEntry) (clock : Nat) : Prop :=
  es.length = entries.size ∧ (∀ (j : Nat) (k v : Value) (e : MapEntry), es[j]? = some (k, v) → entries[j]? = some e → VR ι k e.key ∧ VR ι v e.val) ∧
  (∀ (j : Nat) (e : MapEntry), entries[j]? = some e → e.born < clock) ∧ (∀ (j j' : Nat) (e e' : MapEntry), j < j' → entries[j]? = some e → entries[j']? = some e' → e.born < e'.born)
theorem MapRel.mono {ι ι' : Emb} (hi : ι.le ι') {es : List (Value × Value)} {en : Array MapEntry} {c : Nat} (h : MapRel ι es en c) : MapRel ι' es en c :=
  ⟨h.1, fun j k v e a b => ⟨(h.2.1 j k v e a b).1.mono hi, (h.2.1 j k v e a b).2.mono hi⟩, h.2.2⟩

structure Sim (ι : Emb) (H : Hp) (w : World) : Prop where
  cells : ∀ b vs, H.cells b = some vs → ∃ L, ι b = some L ∧ ∀ (j : Nat) (v : Value), vs[j]? = some v → ∃ v', w.cell? (L.base.add j) = some v' ∧ VR ι v v'
  rosz : ∀ b sz vs, H[b]? = some (.ro sz vs) → ∃ L, ι b = some L ∧ L.sz = sz
  own : ∀ b sz vs, H[b]? = some (.rw sz vs) → ∃ L cur t, ι b = some L ∧ L.base.spot = none ∧ L.sz = sz ∧ w.heap[L.base.block]? = some (.cells cur t (0, 0)) ∧
    L.base.off + L.ext ≤ cur.size ∧ vs.length ≤ L.ext
  maps : ∀ b es, H[b]? = some (.mp es) → ∃ L entries clock, ι b = some L ∧ w.heap[L.base.block]? = some (.map entries clock) ∧ MapRel ι es entries clock
  dom : ∀ b L, ι b = some L → b < H.length
  sep : ∀ b b' L L', b ≠ b' → H.owned b = true → (H.owned b' = true ∨ ∃ z v vs, H[b']? = some (.ro z (v :: vs))) → ι b = some L → ι b' = some L' → L.base.block ≠ L'.base.block

/-- A block of the world that the abstract heap owns. -/
def OwnW (ι : Emb) (H : Hp) (g : Nat) : Prop := ∃ b L, ι b = some L ∧ L.base.block = g ∧ H.owned b = true

structure Fr (ι : Emb) (H : Hp) (w : World) (ι' : Emb) (H' : Hp) (w' : World) : Prop where
  os : w'.os = w.os
  tape : w'.tape = w.tape
  output : w'.output = w.output
  size : w.heap.size ≤ w'.heap.size
  emb : ι.le ι'
  len : H.length ≤ H'.length
  old : ∀ b, b < H.length → ι' b = ι b
  dead : ∀ b : Nat, H[b]? = some Blk.dead → H'[b]? = some Blk.dead
  ro : ∀ (b z : Nat) (vs : List Value), H'[b]? = some (Blk.ro z vs) → H[b]? = some (Blk.ro z vs)
  keep : ∀ g, g < w.heap.size → ¬ OwnW ι H g → w'.heap[g]? = w.heap[g]?
  own : ∀ g, g < w.heap.size → OwnW ι' H' g → OwnW ι H g

theorem Fr.refl (ι : Emb) (H : Hp) (w : World) : Fr ι H w ι H w := ⟨rfl, rfl, rfl, Nat.le_refl _, Emb.le.refl ι, Nat.le_refl _, fun _ _ => rfl, fun _ h => h, fun _ _ _ h => h, fun _ _ _ => rfl, fun _ _ h => h⟩
theorem Fr.trans {ι ι1 ι2 : Emb} {H H1 H2 : Hp} {w w1 w2 : World} (a : Fr ι H w ι1 H1 w1) (b : Fr ι1 H1 w1 ι2 H2 w2) : Fr ι H w ι2 H2 w2 :=
  ⟨b.os.trans a.os, b.tape.trans a.tape, b.output.trans a.output, Nat.le_trans a.size b.size, a.emb.trans b.emb, Nat.le_trans a.len b.len, fun x hx => (b.old x (Nat.lt_of_lt_of_le hx a.len)).trans (a.old x hx), fun x hx => b.dead x (a.dead x hx), fun x z vs h => a.ro x z vs (b.ro x z vs h),
    fun g hg hn => (b.keep g (Nat.lt_of_lt_of_le hg a.size) fun h => hn (a.own g hg h)).trans (a.keep g hg hn),
    fun g hg h => a.own g hg (b.own g (Nat.lt_of_lt_of_le hg a.size) h)⟩
/-- Nothing owned at the start: nothing that was there has changed. -/
theorem Fr.below {ι ι' : Emb} {H H' : Hp} {w w' : World} (f : Fr ι H w ι' H' w') (h : ∀ b, H.owned b = false) : Go.RowKit.Below w.heap.size w w' :=
  ⟨f.os, f.tape, f.output, f.size, fun g hg => f.keep g hg fun ⟨b, _, _, _, ho⟩ => by simp [h b] at ho⟩

theorem owned_of_rw {H : Hp} {b sz : Nat} {vs : List Value} (h : H[b]? = some (.rw sz vs)) : H.owned b = true := by simp [Hp.owned, h, Blk.owned]
theorem owned_of_mp {H : Hp} {b : Nat} {es : List (Value × Value)} (h : H[b]? = some (.mp es)) : H.owned b = true := by simp [Hp.owned, h, Blk.owned]

theorem Sim.drew {ι : Emb} {H : Hp} {w : World} (h : Sim ι H w) : Sim ι H w.drew :=
  ⟨h.cells, h.rosz, h.own, h.maps, h.dom, h.sep⟩
theorem Fr.drew {ι ι' : Emb} {H H' : Hp} {w w' : World} (h : Fr ι H w ι' H' w') : Fr ι H w ι' H' w'.drew :=
  ⟨h.os, h.tape, h.output, h.size, h.emb, h.len, h.old, h.dead, h.ro, h.keep, h.own⟩

theorem Fr.of_drew {ι ι' : Emb} {H H' : Hp} {w w' : World} (h : Fr ι H w.drew ι' H' w') : Fr ι H w ι' H' w' :=
  ⟨h.os, h.tape, h.output, h.size, h.emb, h.len, h.old, h.dead, h.ro, h.keep, h.own⟩

/-- An owned block's world block is there. -/
theorem Sim.own_lt {ι : Emb} {H : Hp} {w : World} (s : Sim ι H w) {b : Nat} {L : Loc} (ho : H.owned b = true) (hL : ι b = some L) : L.base.block < w.heap.size := by
  unfold Hp.owned at ho
  cases hb : H[b]? with
  | none => simp [hb] at ho
  | some x =>
    cases x with
    | dead => simp [hb, Blk.owned] at ho
    | ro z vs => simp [hb, Blk.owned] at ho
    | rw sz vs =>
      obtain ⟨L', cur, t, h1, _, _, h2, _⟩ := s.own b sz vs hb
      rw [hL] at h1; cases h1
      exact (Array.getElem?_eq_some_iff.1 h2).1
    | mp es =>
      obtain ⟨L', en, c, h1, h2, _⟩ := s.maps b es hb
      rw [hL] at h1; cases h1
      exact (Array.getElem?_eq_some_iff.1 h2).1

/-- The world's cells behind the cells of a block, as a list. -/
theorem Sim.read {ι : Emb} {H : Hp} {w : World} (s : Sim ι H w) {b : Nat} {vs : List Value} (hb : H.cells b = some vs) :
    ∃ L vs', ι b = some L ∧ VRs ι vs vs' ∧ ∀ (j : Nat) (v : Value), vs'[j]? = some v → w.cell? (L.base.add j) = some v := by
  obtain ⟨L, hL, hc⟩ := s.cells b vs hb
  refine ⟨L, (List.range vs.length).map fun j => (w.cell? (L.base.add j)).getD undef, hL, ⟨by simp, fun j v v' hv hv' => ?_⟩, fun j v hv => ?_⟩
  · obtain ⟨u, hu, huv⟩ := hc j v hv
    have hj : j < vs.length := by
      rcases Nat.lt_or_ge j vs.length with h | h
      · exact h
      · simp [List.getElem?_eq_none h] at hv
    simp [hj, hu] at hv'
    subst hv'; exact huv
  · have hj : j < vs.length := by
      rcases Nat.lt_or_ge j vs.length with h | h
      · exact h
      · rw [List.getElem?_eq_none (by simpa using h)] at hv; cases hv
    obtain ⟨u, hu, _⟩ := hc j vs[j] (by simp [hj])
    simp [hj, hu] at hv
    subst hv; exact hu

theorem Sim.esz {ι : Emb} {H : Hp} {w : World} (s : Sim ι H w) {b z : Nat} (h : H.esz b = some z) {L : Loc} (hL : ι b = some L) : L.sz = z := by
  unfold Hp.esz at h
  cases hb : H[b]? with
  | none => simp [hb] at h
  | some x =>
    cases x with
    | ro z' vs =>
      simp [hb, Blk.esz] at h
      obtain ⟨L', h1, h2⟩ := s.rosz b z' vs hb
      rw [hL] at h1; cases h1; exact h2.trans h
    | rw z' vs =>
      simp [hb, Blk.esz] at h
      obtain ⟨L', cur, t, h1, _, h2, _⟩ := s.own b z' vs hb
      rw [hL] at h1; cases h1; exact h2.trans h
    | dead => simp [hb, Blk.esz] at h
    | mp es => simp [hb, Blk.esz] at h

end Go.Ab

/- The abstract machine, part 2: what a new block, a store, an append do to 'Sim'. Own work. -/
namespace Go.Ab
open Go

def Emb.put (ι : Emb) (n : Nat) (L : Loc) : Emb := fun b => if b = n then some L else ι b
theorem Emb.put_same (ι : Emb) (n : Nat) (L : Loc) : (ι.put n L) n = some L := by simp [Emb.put]
theorem Emb.put_other (ι : Emb) {n b : Nat} (L : Loc) (h : b ≠ n) : (ι.put n L) b = ι b := by simp [Emb.put, h]
theorem Emb.put_le {ι : Emb} {n : Nat} {L : Loc} (h : ι n = none) : ι.le (ι.put n L) := fun b K hb => by
  rw [Emb.put_other ι L (fun e => by subst e; rw [h] at hb; cases hb)]; exact hb
theorem Sim.new_none {ι : Emb} {H : Hp} {w : World} (s : Sim ι H w) : ι H.length = none := by
  cases h : ι H.length with
  | none => rfl
  | some L => exact absurd (s.dom _ _ h) (Nat.lt_irrefl _)

theorem cells_eq {H H' : Hp} {b : Nat} (h : H'[b]? = H[b]?) : H'.cells b = H.cells b := by unfold Hp.cells; rw [h]
theorem owned_eq {H H' : Hp} {b : Nat} (h : H'[b]? = H[b]?) : H'.owned b = H.owned b := by unfold Hp.owned; rw [h]
theorem cells_dead {H : Hp} {b : Nat} (h : H[b]? = some .dead) : H.cells b = none := by unfold Hp.cells; rw [h]; rfl
theorem owned_dead {H : Hp} {b : Nat} (h : H[b]? = some .dead) : H.owned b = false := by unfold Hp.owned; rw [h]; rfl

/-- One block changes or comes; the others stay, or die. -/
theorem Sim.step {ι ι' : Emb} {H H' : Hp} {w w' : World} (s : Sim ι H w) (b0 : Nat) (hle : ι.le ι')
    (hι : ∀ b L, b ≠ b0 → ι' b = some L → ι b = some L) (hdom : ∀ b L, ι' b = some L → b < H'.length)
    (hH : ∀ b, b ≠ b0 → H'[b]? = H[b]? ∨ H'[b]? = some .dead)
    (hw : ∀ b L, b ≠ b0 → ι b = some L → H'[b]? = H[b]? → H.owned b = true ∨ (∃ z v vs, H[b]? = some (.ro z (v :: vs))) → w'.heap[L.base.block]? = w.heap[L.base.block]?)
    (hcells : ∀ vs, H'.cells b0 = some vs → ∃ L, ι' b0 = some L ∧ ∀ (j : Nat) (v : Value), vs[j]? = some v → ∃ v', w'.cell? (L.base.add j) = some v' ∧ VR ι' v v')
    (hown : ∀ sz vs, H'[b0]? = some (.rw sz vs) → ∃ L cur t, ι' b0 = some L ∧ L.base.spot = none ∧ L.sz = sz ∧ w'.heap[L.base.block]? = some (.cells cur t (0, 0)) ∧
      L.base.off + L.ext ≤ cur.size ∧ vs.length ≤ L.ext)
    (hmaps : ∀ es, H'[b0]? = some (.mp es) → ∃ L entries clock, ι' b0 = some L ∧ w'.heap[L.base.block]? = some (.map entries clock) ∧ MapRel ι' es entries clock)
    (hsep : H'.owned b0 = true → ∀ b L0 L, b ≠ b0 → H'[b]? = H[b]? → (H.owned b = true ∨ ∃ z v vs, H[b]? = some (.ro z (v :: vs))) → ι' b0 = some L0 → ι b = some L → L0.base.block ≠ L.base.block)
    (hnew : ∀ z vs, H'[b0]? ≠ some (.ro z vs)) : Sim ι' H' w' := by
  refine ⟨fun b vs hb => ?_, fun b sz vs hb => ?_, fun b sz vs hb => ?_, fun b es hb => ?_, hdom, fun b b' L L' hne ho ho' hL hL' => ?_⟩
  · by_cases e : b = b0
    · subst e; exact hcells vs hb
    · rcases hH b e with h | h
      · rw [cells_eq h] at hb
        obtain ⟨L, hL, hc⟩ := s.cells b vs hb
        refine ⟨L, hle b L hL, fun j v hv => ?_⟩
        obtain ⟨v', hv', hr⟩ := hc j v hv
        refine ⟨v', ?_, hr.mono hle⟩
        rw [← hv']
        refine World.cell?_of_block (w := w) ?_
        rw [add_block]
        refine hw b L e hL h ?_
        unfold Hp.cells at hb
        cases hx : H[b]? with
        | none => simp [hx] at hb
        | some x =>
          cases x with
          | dead => simp [hx, Blk.cells] at hb
          | ro z us =>
            right
            simp [hx, Blk.cells] at hb
            subst hb
            cases us with
            | nil => simp at hv
            | cons u us => exact ⟨z, u, us, rfl⟩
          | rw sz us => exact .inl (owned_of_rw hx)
          | mp es => simp [hx, Blk.cells] at hb
      · rw [cells_dead h] at hb; cases hb
  · by_cases e : b = b0
    · subst e; exact absurd hb (hnew sz vs)
    · rcases hH b e with h | h
      · rw [h] at hb
        obtain ⟨L, h1, h2⟩ := s.rosz b sz vs hb
        exact ⟨L, hle b L h1, h2⟩
      · rw [h] at hb; cases hb
  · by_cases e : b = b0
    · subst e; exact hown sz vs hb
    · rcases hH b e with h | h
      · rw [h] at hb
        obtain ⟨L, cur, t, h1, h2, h3, h4, h5⟩ := s.own b sz vs hb
        refine ⟨L, cur, t, hle b L h1, h2, h3, ?_, h5⟩
        rw [← h4]
        exact hw b L e h1 h (.inl (owned_of_rw hb))
      · rw [h] at hb; cases hb
  · by_cases e : b = b0
    · subst e; exact hmaps es hb
    · rcases hH b e with h | h
      · rw [h] at hb
        obtain ⟨L, en, cl, h1, h2, h3⟩ := s.maps b es hb
        refine ⟨L, en, cl, hle b L h1, ?_, h3.mono hle⟩
        rw [← h2]
        exact hw b L e h1 h (.inl (owned_of_mp hb))
      · rw [h] at hb; cases hb
  · have old : ∀ c, c ≠ b0 → (H'.owned c = true ∨ ∃ z v vs, H'[c]? = some (.ro z (v :: vs))) → H'[c]? = H[c]? ∧ (H.owned c = true ∨ ∃ z v vs, H[c]? = some (.ro z (v :: vs))) := by
      intro c hc h
      rcases hH c hc with e | e
      · refine ⟨e, ?_⟩
        rw [owned_eq e] at h
        rw [e] at h
        exact h
      · rw [owned_dead e] at h
        rw [e] at h
        simp at h
    by_cases e : b = b0
    · subst e
      obtain ⟨h1, h2⟩ := old b' (fun e => hne e.symm) ho'
      exact hsep ho b' L L' (fun e => hne e.symm) h1 h2 hL (hι b' L' (fun e => hne e.symm) hL')
    · obtain ⟨h1, h2⟩ := old b e (.inl ho)
      by_cases e' : b' = b0
      · subst e'
        exact fun x => hsep (ho'.resolve_right fun ⟨z, v, vs, h⟩ => hnew z _ h) b L' L e h1 h2 hL' (hι b L e hL) x.symm
      · obtain ⟨h1', h2'⟩ := old b' e' ho'
        rw [owned_eq h1] at ho
        exact s.sep b b' L L' hne ho h2' (hι b L e hL) (hι b' L' e' hL')

theorem Sim.live_lt {ι : Emb} {H : Hp} {w : World} (s : Sim ι H w) {b : Nat} {L : Loc} (hL : ι b = some L)
    (h : H.owned b = true ∨ ∃ z v vs, H[b]? = some (.ro z (v :: vs))) : L.base.block < w.heap.size := by
  rcases h with h | ⟨z, v, vs, h⟩
  · exact s.own_lt h hL
  · obtain ⟨L', hL', hc⟩ := s.cells b (v :: vs) (by simp [Hp.cells, h, Blk.cells])
    rw [hL] at hL'; cases hL'
    obtain ⟨v', hv', _⟩ := hc 0 v rfl
    have := World.block_lt_of_cell? w _ hv'
    rwa [add_block] at this

/-- A new row. -/
theorem Sim.newRow {ι : Emb} {H : Hp} {w : World} (s : Sim ι H w) (sz : Nat) (vs : List Value) (c : Array Value) (t : TypeId)
    (hc : ∀ (j : Nat) (v : Value), vs[j]? = some v → ∃ v', c[j]? = some v' ∧ VR ι v v') (hl : vs.length ≤ c.size) :
    Sim (ι.put H.length ⟨⟨w.heap.size, 0, none⟩, c.size, sz⟩) (H ++ [.rw sz vs]) (w.alloc (.cells c t)) ∧
    Fr ι H w (ι.put H.length ⟨⟨w.heap.size, 0, none⟩, c.size, sz⟩) (H ++ [.rw sz vs]) (w.alloc (.cells c t)) := by
  have hle : ι.le (ι.put H.length ⟨⟨w.heap.size, 0, none⟩, c.size, sz⟩) := Emb.put_le s.new_none
  have hnew : (H ++ [Blk.rw sz vs])[H.length]? = some (.rw sz vs) := by simp
  have hold : ∀ b, b < H.length → (H ++ [Blk.rw sz vs])[b]? = H[b]? := fun b hb => List.getElem?_append_left hb
  have hheap : (w.alloc (.cells c t)).heap[w.heap.size]? = some (.cells c t (0, 0)) := by show (w.heap.push _)[w.heap.size]? = _; simp
  refine ⟨Sim.step s H.length hle (fun b L hb h => by rwa [Emb.put_other ι _ hb] at h) (fun b L h => ?_) (fun b hb => .inl ?_) (fun b L _ hL _ hlive => ?_) (fun us h => ?_)
    (fun sz' us h => ?_) (fun es h => ?_) (fun _ b L0 L hb _ hlive h0 hL => ?_) (fun v us h => ?_), ?_⟩
  · by_cases e : b = H.length
    · subst e; simp
    · rw [Emb.put_other ι _ e] at h; have := s.dom b L h; simp; omega
  · rcases Nat.lt_or_ge b H.length with h | h
    · exact hold b h
    · rw [List.getElem?_eq_none (by simp; omega), List.getElem?_eq_none h]
  · exact Below.heap_alloc' w _ _ (s.live_lt hL hlive)
  · have : us = vs := by simpa [Hp.cells, Blk.cells] using h.symm
    subst this
    refine ⟨_, Emb.put_same .., fun j v hv => ?_⟩
    obtain ⟨v', h1, h2⟩ := hc j v hv
    refine ⟨v', ?_, h2.mono hle⟩
    rw [add_none, Nat.zero_add, World.cell?_alloc_new]; exact h1
  · rw [hnew] at h; cases h
    exact ⟨_, c, t, Emb.put_same .., rfl, rfl, hheap, by simp, hl⟩
  · rw [hnew] at h; cases h
  · rw [Emb.put_same] at h0; cases h0
    exact Nat.ne_of_gt (s.live_lt hL hlive)
  · rw [hnew] at h; cases h
  · refine ⟨rfl, rfl, rfl, by simp, hle, by simp, fun b hb => Emb.put_other ι _ (Nat.ne_of_lt hb), fun b hb => by rw [hold b (List.getElem?_eq_some_iff.1 hb).1]; exact hb, fun b z us hb => by
      by_cases e : b = H.length
      · subst e; rw [hnew] at hb; cases hb
      · have hlt := (List.getElem?_eq_some_iff.1 hb).1
        rw [hold b (by simp at hlt; omega)] at hb; exact hb, fun g hg _ => Below.heap_alloc' w _ _ hg, fun g hg h => ?_⟩
    obtain ⟨b, L, hL, hb, ho⟩ := h
    by_cases e : b = H.length
    · subst e; rw [Emb.put_same] at hL; cases hL; simp at hb; omega
    · rw [Emb.put_other ι _ e] at hL
      refine ⟨b, L, hL, hb, ?_⟩
      rwa [owned_eq (hold b (s.dom b L hL))] at ho
where
  Below.heap_alloc' (w : World) (o : Obj) (k : Nat) (h : k < w.heap.size) : (w.alloc o).heap[k]? = w.heap[k]? := Go.RowKit.Below.heap_alloc w o k h

/-- A block's cells are written, in place: the same block, or one more with the old one dead. -/
theorem Sim.rewrite {ι : Emb} {H : Hp} {w : World} (s : Sim ι H w) {b sz : Nat} {vs : List Value} {L : Loc} (hb : H[b]? = some (.rw sz vs)) (hL : ι b = some L)
    {cur : Array Value} {t : TypeId} (hg : w.heap[L.base.block]? = some (.cells cur t (0, 0))) (c : Array Value) (hc : c.size = cur.size) (ws : List Value) (hfit : ws.length ≤ L.ext)
    (hcells : ∀ (j : Nat) (v : Value), ws[j]? = some v → ∃ v', c[L.base.off + j]? = some v' ∧ VR ι v v') :
    Sim ι (H.set b (.rw sz ws)) (w.setRow L.base.block c) ∧ Fr ι H w ι (H.set b (.rw sz ws)) (w.setRow L.base.block c) := by
  obtain ⟨L', cur', t', h1, h2, h3, h4, h5, h6⟩ := s.own b sz vs hb
  rw [hL] at h1; cases h1
  rw [hg] at h4; cases h4
  have hlt : b < H.length := s.dom b L hL
  have hnew : (H.set b (Blk.rw sz ws))[b]? = some (.rw sz ws) := by simp [hlt]
  have hold : ∀ x, x ≠ b → (H.set b (Blk.rw sz ws))[x]? = H[x]? := fun x hx => List.getElem?_set_ne (fun e => hx e.symm)
  have hbase : L.base = ⟨L.base.block, L.base.off, none⟩ := by cases hq : L.base; simp [hq] at h2; simp [h2]
  refine ⟨Sim.step s b (Emb.le.refl ι) (fun _ _ _ h => h) (fun x K h => by have := s.dom x K h; simpa using this) (fun x hx => .inl (hold x hx))
    (fun x K hx hK _ hlive => setRow_other w _ _ c ?_) (fun us h => ?_) (fun sz' us h => ?_) (fun es h => ?_) (fun ho x L0 K hx _ hlive h0 hK => ?_) (fun v us h => ?_), ?_⟩
  · exact fun e => s.sep b x L K (fun e => hx e.symm) (owned_of_rw hb) hlive hL hK e.symm
  · have : us = ws := by simpa [Hp.cells, hnew, Blk.cells] using h.symm
    subst this
    refine ⟨L, hL, fun j v hv => ?_⟩
    obtain ⟨v', h1, h2⟩ := hcells j v hv
    refine ⟨v', ?_, h2⟩
    rw [hbase, add_none, cell_setRow_same w _ _ cur c t (0, 0) hg]; exact h1
  · rw [hnew] at h; cases h
    exact ⟨L, c, t, hL, h2, h3, setRow_heap w _ cur c t _ hg, by rw [hc]; exact h5, hfit⟩
  · rw [hnew] at h; cases h
  · rw [hL] at h0; cases h0
    exact s.sep b x L K (fun e => hx e.symm) (owned_of_rw hb) hlive hL hK
  · rw [hnew] at h; cases h
  · refine ⟨rfl, rfl, rfl, by simp, Emb.le.refl ι, by simp, fun _ _ => rfl, fun x hx => by rw [hold x (fun e => by subst e; rw [hb] at hx; cases hx)]; exact hx, fun x z us hx => by
      by_cases e : x = b
      · subst e; rw [hnew] at hx; cases hx
      · rw [hold x e] at hx; exact hx, fun g hg' hn => setRow_other w _ _ c fun e => hn ⟨b, L, hL, e.symm, owned_of_rw hb⟩, fun g hg' h => ?_⟩
    obtain ⟨x, K, hK, hb', ho⟩ := h
    by_cases e : x = b
    · subst e; exact ⟨x, K, hK, hb', owned_of_rw hb⟩
    · exact ⟨x, K, hK, hb', by rwa [owned_eq (hold x e)] at ho⟩

/-- A block dies. -/
theorem Sim.kill {ι : Emb} {H : Hp} {w : World} (s : Sim ι H w) {b : Nat} (hlt : b < H.length) :
    Sim ι (H.set b .dead) w ∧ Fr ι H w ι (H.set b .dead) w := by
  have hnew : (H.set b Blk.dead)[b]? = some .dead := by simp [hlt]
  have hold : ∀ x, x ≠ b → (H.set b Blk.dead)[x]? = H[x]? := fun x hx => List.getElem?_set_ne (fun e => hx e.symm)
  refine ⟨Sim.step s b (Emb.le.refl ι) (fun _ _ _ h => h) (fun x K h => by have := s.dom x K h; simpa using this) (fun x hx => .inl (hold x hx))
    (fun _ _ _ _ _ _ => rfl) (fun us h => ?_) (fun sz' us h => ?_) (fun es h => ?_) (fun ho x L0 K hx _ hlive h0 hK => ?_) (fun v us h => ?_), ?_⟩
  · rw [cells_dead hnew] at h; cases h
  · rw [hnew] at h; cases h
  · rw [hnew] at h; cases h
  · rw [owned_dead hnew] at ho; cases ho
  · rw [hnew] at h; cases h
  · refine ⟨rfl, rfl, rfl, Nat.le_refl _, Emb.le.refl ι, by simp, fun _ _ => rfl, fun x hx => ?_, fun x z us hx => ?_, fun _ _ _ => rfl, fun g hg h => ?_⟩
    · by_cases e : x = b
      · subst e; exact hnew
      · rw [hold x e]; exact hx
    · by_cases e : x = b
      · subst e; rw [hnew] at hx; cases hx
      · rw [hold x e] at hx; exact hx
    obtain ⟨x, K, hK, hb', ho⟩ := h
    by_cases e : x = b
    · subst e; rw [owned_dead hnew] at ho; cases ho
    · exact ⟨x, K, hK, hb', by rwa [owned_eq (hold x e)] at ho⟩

end Go.Ab

/- The abstract machine, part 3: its operations, and that the model follows them. Own work. -/
namespace Go.Ab
open Go

abbrev Tm := Nat → Value
def upd (tm : Tm) (t : Nat) (v : Value) : Tm := fun u => if u = t then v else tm u
theorem upd_same (tm : Tm) (t : Nat) (v : Value) : upd tm t v t = v := by simp [upd]
theorem upd_ne (tm : Tm) {t u : Nat} (v : Value) (h : u ≠ t) : upd tm t v u = tm u := by simp [upd, h]
def put (tm : Tm) (d : Option Nat) (v : Value) : Tm := match d with | some t => upd tm t v | none => tm

/-- The temporaries of the abstract machine and those of the frame. -/
structure TR (ι : Emb) (N : Nat) (tm : Tm) (a : Act) : Prop where
  size : N ≤ a.tmps.size
  defers : a.defers = []
  val : ∀ t, VR ι (tm t) (a.tmps.getD t undef)
theorem TR.mono {ι ι' : Emb} (hi : ι.le ι') {N : Nat} {tm : Tm} {a : Act} (h : TR ι N tm a) : TR ι' N tm a := ⟨h.size, h.defers, fun t => (h.val t).mono hi⟩
theorem TR.put {ι : Emb} {N : Nat} {tm : Tm} {a : Act} (h : TR ι N tm a) {d : Option Nat} (hd : ∀ t, d = some t → t < N) {u v : Value} (hv : VR ι u v) :
    TR ι N (put tm d u) (a.put d v) := by
  cases d with
  | none => exact h
  | some t =>
    have ht := hd t rfl
    refine ⟨by simpa [Act.put] using h.size, h.defers, fun x => ?_⟩
    simp only [Ab.put, Act.put, upd]
    by_cases e : x = t
    · subst e
      have := Nat.lt_of_lt_of_le ht h.size
      simp [Array.getD_eq_getD_getElem?, this, hv]
    · rw [if_neg e]
      have := h.val x
      rw [Array.getD_eq_getD_getElem?, Array.getElem?_setIfInBounds_ne (fun q => e q.symm), ← Array.getD_eq_getD_getElem?]
      exact this

def okC : Value → Bool
  | .bool _ | .int _ _ | .string _ | .pointer none | .slice none 0 0 | .map none | .nilFunc | .nilIface => true
  | _ => false
theorem okC_vr {ι : Emb} {v : Value} (h : okC v = true) : VR ι v v := by
  unfold okC at h
  split at h <;> first | constructor | cases h
def okO : Operand → Bool
  | .tmp _ | .func _ => true
  | .const v => okC v
  | .global _ => false
def ev (tm : Tm) : Operand → Value
  | .tmp t => tm t
  | .const v => v
  | .func f => .func (.func f) #[] #[]
  | .global _ => undef
theorem ev_vr {ι : Emb} {N : Nat} {tm : Tm} {a : Act} (h : TR ι N tm a) {x : Operand} (hx : okO x = true) : VR ι (ev tm x) (a.eval x) := by
  cases x with
  | tmp t => exact h.val t
  | const v => exact okC_vr hx
  | func f => exact .fn _ _ _ rfl fun j v v' h => by simp at h
  | global g => cases hx

/-- What an operation of the model comes to, beside the abstract one. -/
def Good (P : Program) (m : Sem Next) (ι : Emb) (H : Hp) (w : World) (av : Value) (H' : Hp) : Prop :=
  ∃ nx ι' w' v, m.run P w = .ok nx w' ∧ (nx = .value v ∨ (nx = .skip ∧ v = undef)) ∧ VR ι' av v ∧ Sim ι' H' w' ∧ Fr ι H w ι' H' w'
theorem Good.pure {P : Program} {m : Sem Next} {ι : Emb} {H : Hp} {w : World} {av v : Value} (h : m.run P w = .ok (.value v) w) (hv : VR ι av v) (s : Sim ι H w) : Good P m ι H w av H :=
  ⟨_, ι, w, v, h, .inl rfl, hv, s, Fr.refl ι H w⟩
theorem undef_vr (ι : Emb) : VR ι undef undef := .tup _ _ rfl fun _ _ _ h => by simp at h

/-! ### Whole numbers -/
def ibin (op : BinOp) (k : IntKind) (a : Int) (k' : IntKind) (b : Int) : Option Value :=
  match op with
  | .shl => if b < 0 then none else some (.int k (k.wrap (a * 2 ^ (min b.toNat k.bits))))
  | .shr => if b < 0 then none else some (.int k (a.fdiv (2 ^ (min b.toNat k.bits))))
  | op => if k = k' then
      match op with
      | .add => some (.int k (k.wrap (a + b)))
      | .sub => some (.int k (k.wrap (a - b)))
      | .mul => some (.int k (k.wrap (a * b)))
      | .quo => if b = 0 then none else some (.int k (k.wrap (a.tdiv b)))
      | .rem => if b = 0 then none else some (.int k (a.tmod b))
      | .and => some (.int k (k.wrap (BitVec.ofInt k.bits a &&& BitVec.ofInt k.bits b).toNat))
      | .or => some (.int k (k.wrap (BitVec.ofInt k.bits a ||| BitVec.ofInt k.bits b).toNat))
      | .xor => some (.int k (k.wrap (BitVec.ofInt k.bits a ^^^ BitVec.ofInt k.bits b).toNat))
      | .andNot => some (.int k (k.wrap (BitVec.ofInt k.bits a &&& ~~~ BitVec.ofInt k.bits b).toNat))
      | .eql => some (.bool (a == b))
      | .neq => some (.bool (a != b))
      | .lss => some (.bool (decide (a < b)))
      | .leq => some (.bool (decide (a ≤ b)))
      | .gtr => some (.bool (decide (a > b)))
      | .geq => some (.bool (decide (a ≥ b)))
      | _ => none
    else none
theorem ibin_run {P : Program} {op : BinOp} {k k' : IntKind} {a b : Int} {v : Value} (h : ibin op k a k' b = some v) (t : TypeId) (x y : Operand) (w : World) :
    (do eqGuard op t x y (.int k a) (.int k' b); binOp op t (.int k a) (.int k' b) : Sem Value).run P w = .ok v w := by
  have hg : (eqGuard op t x y (.int k a) (.int k' b)).run P w = .ok () w := by cases op <;> simp [eqGuard]
  rw [Sem.run_bind, hg, Result.andThen_ok]
  unfold ibin at h
  split at h
  · split at h
    · cases h
    · rename_i hb; cases h; simp [binOp, Op.shift, hb]
  · split at h
    · cases h
    · rename_i hb; cases h; simp [binOp, Op.shift, hb]
  · split at h
    · rename_i hk
      subst hk
      split at h <;> first
        | (cases h; simp [binOp, Op.intArith, Op.intBits, Op.intCmp]; done)
        | (split at h <;> first | (cases h; done) | (rename_i hb; cases h; simp [binOp, Op.intDiv, hb]))
        | (cases h; done)
    · cases h
theorem ibin_vr {ι : Emb} {op : BinOp} {k k' : IntKind} {a b : Int} {v : Value} (h : ibin op k a k' b = some v) : VR ι v v := by
  refine okC_vr ?_
  unfold ibin at h
  (repeat' split at h) <;> cases h <;> rfl

/-! ### Equality of other values -/
inductive EqS where
  | int | bool | str
  deriving DecidableEq
inductive EqK where
  | bool | ptr | slice | map | func | iface
  | struct (fs : List (Nat × EqS))
  | other
def eqS : EqS → Value → Value → Option Bool
  | .int, .int k a, .int k' b => if k = k' then some (a == b) else none
  | .bool, .bool a, .bool b => some (a == b)
  | .str, .string a, .string b => some (a == b)
  | _, _, _ => none
def eqFs : List (Nat × EqS) → List Value → List Value → Option Bool
  | [], _, _ => some true
  | (o, e) :: fs, xs, ys => do
    let x ← xs[o]?
    let y ← ys[o]?
    let b ← eqS e x y
    if b then eqFs fs xs ys else some false
def aEq : EqK → Value → Value → Option Bool
  | .bool, .bool a, .bool b => some (a == b)
  | .ptr, .pointer none, .pointer none => some true
  | .ptr, .pointer none, .pointer (some _) => some false
  | .ptr, .pointer (some _), .pointer none => some false
  | .slice, .slice none _ _, .slice b _ _ => some b.isNone
  | .slice, .slice (some _) _ _, .slice none _ _ => some false
  | .map, .map none, .map b => some b.isNone
  | .map, .map (some _), .map none => some false
  | .func, .nilFunc, .nilFunc => some true
  | .func, .nilFunc, .func _ _ _ => some false
  | .func, .func _ _ _, .nilFunc => some false
  | .iface, .nilIface, .iface _ _ => some false
  | .iface, .iface _ _, .nilIface => some false
  | .struct fs, .agg xs, .agg ys => eqFs fs xs.toList ys.toList
  | _, _, _ => none
def eqSOf (P : Program) (t : TypeId) : Option EqS :=
  match P.underlying t with
  | some (.int _) => some .int
  | some .bool => some .bool
  | some .string => some .str
  | _ => none
def eqKOf (P : Program) (t : TypeId) : EqK :=
  match P.underlying t with
  | some .bool => .bool
  | some (.pointer _) => .ptr
  | some (.slice _) => .slice
  | some (.map _ _) => .map
  | some (.func _ _ _) => .func
  | some (.interface _) => .iface
  | some (.struct fs) =>
    if P.stoodInHeld t = false ∧ P.eqGuardType P.depth t = false ∧ fs.toList.all (fun f => f.name ≠ "_") then
      match fs.toList.mapM (fun f => (eqSOf P f.type).map fun e => (f.offset, e)) with
      | some l => .struct l
      | none => .other
    else .other
  | _ => .other

theorem eqS_run {P : Program} {t : TypeId} {e : EqS} (ht : eqSOf P t = some e) {x y : Value} {b : Bool} (h : eqS e x y = some b) (d : Nat) (w : World) :
    (Op.equalIn (d + 1) t x y).run P w = .ok b w := by
  unfold eqSOf at ht
  unfold eqS at h
  split at h
  · split at ht <;> cases ht
    split at h
    · rename_i hu hk; cases h; subst hk; simp [Op.equalIn, run_underlying hu]
    · cases h
  · split at ht <;> cases ht
    rename_i hu; cases h; simp [Op.equalIn, run_underlying hu]
  · split at ht <;> cases ht
    rename_i hu; cases h; simp [Op.equalIn, run_underlying hu]
  · cases h
theorem eqS_vr {ι : Emb} {e : EqS} {x y : Value} {b : Bool} (h : eqS e x y = some b) {x' y' : Value} (hx : VR ι x x') (hy : VR ι y y') : eqS e x' y' = some b := by
  unfold eqS at h
  split at h
  · cases hx; cases hy; exact h
  · cases hx; cases hy; exact h
  · cases hx; cases hy; exact h
  · cases h
theorem eqSOf_part {P : Program} {t : TypeId} {e : EqS} (ht : eqSOf P t = some e) {cs : Array Value} {o : Nat} {v : Value} (hv : cs[o]? = some v) (w : World) :
    (part t cs o).run P w = .ok v w := by
  unfold eqSOf at ht
  split at ht <;> cases ht <;> (rename_i hu; simp [part, isAgg, run_underlying hu, hv])

theorem eqFs_run {P : Program} (d : Nat) {xs ys : Array Value} (w : World) : ∀ (fs : List Field) (l : List (Nat × EqS)) (b : Bool), (∀ f ∈ fs, f.name ≠ "_") →
    fs.mapM (fun f => (eqSOf P f.type).map fun e => (f.offset, e)) = some l → eqFs l xs.toList ys.toList = some b →
    (Op.eqFields (d + 1) xs ys fs).run P w = .ok b w
  | [], l, b, _, hl, h => by
    simp at hl; subst hl
    simp [eqFs] at h; subst h
    simp [Op.eqFields]
  | f :: fs, l, b, hn, hl, h => by
    simp only [List.mapM_cons, Option.bind_eq_bind, Option.pure_def, Option.bind_eq_some_iff] at hl
    obtain ⟨e, he, r, hr, h3⟩ := hl
    cases h3
    obtain ⟨e0, he0, rfl⟩ := Option.map_eq_some_iff.1 he
    simp only [eqFs, Option.bind_eq_bind, Option.bind_eq_some_iff] at h
    obtain ⟨x, hx, y, hy, c, hc, h⟩ := h
    have hx' : xs[f.offset]? = some x := by simpa using hx
    have hy' : ys[f.offset]? = some y := by simpa using hy
    simp only [Op.eqFields, hn f (by simp), ne_eq, not_false_eq_true, if_true, Sem.run_bind, eqSOf_part he0 hx', eqSOf_part he0 hy', Result.andThen_ok, eqS_run he0 hc]
    cases c with
    | false => simp at h; subst h; simp
    | true =>
      simp at h
      simp only [Bool.not_true, Bool.false_eq_true, if_false]
      exact eqFs_run d w fs r b (fun g hg => hn g (by simp [hg])) hr h

theorem eqFs_vr {ι : Emb} {xs ys xs' ys' : List Value} (hx : VRs ι xs xs') (hy : VRs ι ys ys') : ∀ (l : List (Nat × EqS)) (b : Bool), eqFs l xs ys = some b → eqFs l xs' ys' = some b
  | [], b, h => h
  | (o, e) :: l, b, h => by
    simp only [eqFs, Option.bind_eq_bind, Option.bind_eq_some_iff] at h ⊢
    obtain ⟨x, h1, y, h2, c, h3, h4⟩ := h
    obtain ⟨x', h1', hxx⟩ := hx.get h1
    obtain ⟨y', h2', hyy⟩ := hy.get h2
    refine ⟨x', h1', y', h2', c, eqS_vr h3 hxx hyy, ?_⟩
    cases c with
    | false => exact h4
    | true => simp at h4 ⊢; exact eqFs_vr hx hy l b h4

theorem aEq_vr {ι : Emb} {k : EqK} {x y : Value} {b : Bool} (h : aEq k x y = some b) {x' y' : Value} (hx : VR ι x x') (hy : VR ι y y') : aEq k x' y' = some b := by
  unfold aEq at h
  split at h <;> first
    | (cases hx <;> cases hy <;> first | exact h | (cases h; rfl))
    | (cases h; done)
    | (cases hx; cases hy; rename_i hs1 h1 _ hs2 h2; exact eqFs_vr (VR.cells (.agg _ _ hs1 h1)) (VR.cells (.agg _ _ hs2 h2)) _ _ h)

theorem eqGuard_ok {P : Program} (o : BinOp) (t : TypeId) (ox oy : Operand) (x y : Value) (w : World) (h1 : ¬ (x = .nilIface ∧ y = .nilIface)) (h2 : ∀ a b, ¬ (x = .agg a ∧ y = .agg b)) :
    (eqGuard o t ox oy x y).run P w = .ok () w := by
  cases o <;> (cases x <;> cases y <;> first | rfl | (exact absurd ⟨rfl, rfl⟩ h1) | (exact absurd ⟨rfl, rfl⟩ (h2 _ _)))

theorem aEq_run {P : Program} {t : TypeId} {x y : Value} {b : Bool} (h : aEq (eqKOf P t) x y = some b) (neg : Bool) (ox oy : Operand) (w : World) :
    (do eqGuard (if neg then .neq else .eql) t ox oy x y; binOp (if neg then .neq else .eql) t x y : Sem Value).run P w = .ok (.bool (if neg then !b else b)) w := by
  have key : (∀ o : BinOp, (eqGuard o t ox oy x y).run P w = .ok () w) → (Op.equalIn 10000 t x y).run P w = .ok b w → (∀ k a, x ≠ .int k a) → (∀ a, x ≠ .string a) →
      (∀ k a, x ≠ .float k a) → (∀ k a c, x ≠ .complex k a c) →
      (do eqGuard (if neg then .neq else .eql) t ox oy x y; binOp (if neg then .neq else .eql) t x y : Sem Value).run P w = .ok (.bool (if neg then !b else b)) w := by
    intro hg he h1 h2 h3 h4
    rw [Sem.run_bind, hg, Result.andThen_ok]
    cases neg <;> cases x <;> first
      | (exact absurd rfl (h1 _ _)) | (exact absurd rfl (h2 _)) | (exact absurd rfl (h3 _ _)) | (exact absurd rfl (h4 _ _ _))
      | (cases y <;> simp [binOp, Op.equal, Op.maxDepth, he])
  unfold eqKOf at h
  split at h
  case h_7 fs hu =>
    split at h
    · rename_i hc
      split at h
      · rename_i l hl
        unfold aEq at h
        split at h <;> first | (rename_i hq; cases hq; done) | skip
        all_goals (first | (cases h; done) | skip)
        rename_i fs' xs ys hq
        cases hq
        refine key (fun o => ?_) ?_ (by simp) (by simp) (by simp) (by simp)
        · exact run_eqGuard_agg w o t ox oy xs ys hc.2.1
        · rw [run_equalIn_struct w 9999 t xs ys (by simp [Program.fieldsOf, hu]) hc.1]
          refine eqFs_run 9998 w _ l b ?_ (by simpa [Program.fieldsOf, hu] using hl) h
          intro f hf
          have := List.all_eq_true.1 hc.2.2 f (by simpa [Program.fieldsOf, hu] using hf)
          simpa using this
      · simp [aEq] at h
    · simp [aEq] at h
  all_goals (
    rename_i hu
    unfold aEq at h
    split at h <;> first | (rename_i hq; cases hq; done) | (cases h; done) | skip)
  all_goals (
    first
    | (refine key (fun o => ?_) ?_ (by simp) (by simp) (by simp) (by simp) <;> first
        | (exact eqGuard_ok o t ox oy _ _ w (by simp) (by simp))
        | (cases h; rw [show (10000 : Nat) = 9999 + 1 from rfl]; generalize 9999 = d; simp [Op.equalIn, run_underlying hu]; done)))

end Go.Ab

/- The abstract machine, part 4: operations over memory. Own work. -/
namespace Go.Ab
open Go

/-- A block goes over into a new one, from a cell on. -/
theorem Sim.move {ι : Emb} {H : Hp} {w : World} (s : Sim ι H w) {b sz : Nat} {vs : List Value} {L : Loc} (hb : H[b]? = some (.rw sz vs)) (hL : ι b = some L) (off : Nat) (ho : off ≤ L.ext) :
    Sim (ι.put H.length ⟨L.base.add off, L.ext - off, sz⟩) (H.set b .dead ++ [.rw sz (vs.drop off)]) w ∧
    Fr ι H w (ι.put H.length ⟨L.base.add off, L.ext - off, sz⟩) (H.set b .dead ++ [.rw sz (vs.drop off)]) w := by
  have hlt : b < H.length := s.dom b L hL
  obtain ⟨L', cur, t, h1, h2, h3, h4, h5, h6⟩ := s.own b sz vs hb
  rw [hL] at h1; cases h1
  have hbase : L.base = ⟨L.base.block, L.base.off, none⟩ := by cases hq : L.base; simp [hq] at h2; simp [h2]
  have hle : ι.le (ι.put H.length ⟨L.base.add off, L.ext - off, sz⟩) := Emb.put_le s.new_none
  have hnew : (H.set b .dead ++ [Blk.rw sz (vs.drop off)])[H.length]? = some (.rw sz (vs.drop off)) := by simp
  have hdead : (H.set b .dead ++ [Blk.rw sz (vs.drop off)])[b]? = some .dead := by rw [List.getElem?_append_left (by simpa using hlt)]; simp [hlt]
  have hold : ∀ x, x ≠ H.length → x ≠ b → (H.set b .dead ++ [Blk.rw sz (vs.drop off)])[x]? = H[x]? := fun x hx hxb => by
    rcases Nat.lt_or_ge x H.length with h | h
    · rw [List.getElem?_append_left (by simpa using h), List.getElem?_set_ne (fun e => hxb e.symm)]
    · rw [List.getElem?_eq_none (by simp; omega), List.getElem?_eq_none h]
  refine ⟨Sim.step s H.length hle (fun x K hx h => by rwa [Emb.put_other ι _ hx] at h) (fun x K h => ?_) (fun x hx => ?_) (fun _ _ _ _ _ _ => rfl) (fun us h => ?_)
    (fun sz' us h => ?_) (fun es h => ?_) (fun _ x L0 K hx he hlive h0 hK => ?_) (fun v us h => ?_), ?_⟩
  · by_cases e : x = H.length
    · subst e; simp
    · rw [Emb.put_other ι _ e] at h; have := s.dom x K h; simp; omega
  · by_cases e : x = b
    · subst e; exact .inr hdead
    · exact .inl (hold x hx e)
  · have : us = vs.drop off := by simpa [Hp.cells, hnew, Blk.cells] using h.symm
    subst this
    refine ⟨_, Emb.put_same .., fun j v hv => ?_⟩
    obtain ⟨K, hK, hc⟩ := s.cells b vs (by simp [Hp.cells, hb, Blk.cells])
    rw [hL] at hK; cases hK
    rw [List.getElem?_drop] at hv
    obtain ⟨v', h1, h2⟩ := hc _ v hv
    exact ⟨v', by rw [add_add]; exact h1, h2.mono hle⟩
  · rw [hnew] at h; cases h
    refine ⟨_, cur, t, Emb.put_same .., ?_, rfl, by rw [add_block]; exact h4, ?_, ?_⟩
    · show (L.base.add off).spot = none
      rw [hbase, add_none]
    · show (L.base.add off).off + (L.ext - off) ≤ cur.size
      rw [hbase, add_none]; simp; omega
    · simp; omega
  · rw [hnew] at h; cases h
  · rw [Emb.put_same] at h0; cases h0
    rw [add_block]
    refine s.sep b x L K (fun e => ?_) (owned_of_rw hb) hlive hL hK
    subst e
    rw [hdead, hb] at he; cases he
  · rw [hnew] at h; cases h
  · refine ⟨rfl, rfl, rfl, Nat.le_refl _, hle, by simp, fun x hx => Emb.put_other ι _ (Nat.ne_of_lt hx), fun x hx => ?_, fun x z us hx => ?_, fun _ _ _ => rfl, fun g hg h => ?_⟩
    · have hxl := (List.getElem?_eq_some_iff.1 hx).1
      rw [hold x (Nat.ne_of_lt hxl) (fun e => by subst e; rw [hb] at hx; cases hx)]; exact hx
    · by_cases e : x = H.length
      · subst e; rw [hnew] at hx; cases hx
      · by_cases e' : x = b
        · subst e'; rw [hdead] at hx; cases hx
        · rw [hold x e e'] at hx; exact hx
    obtain ⟨x, K, hK, hg', hox⟩ := h
    by_cases e : x = H.length
    · subst e; rw [Emb.put_same] at hK; cases hK
      rw [add_block] at hg'
      exact ⟨b, L, hL, hg', owned_of_rw hb⟩
    · rw [Emb.put_other ι _ e] at hK
      by_cases e' : x = b
      · subst e'; exact ⟨x, K, hK, hg', owned_of_rw hb⟩
      · exact ⟨x, K, hK, hg', by rwa [owned_eq (hold x e e')] at hox⟩

def splice (vs : List Value) (off : Nat) (cs : List Value) : List Value := vs.take off ++ cs ++ vs.drop (off + cs.length)
theorem splice_one (vs : List Value) (off : Nat) (v : Value) (h : off < vs.length) : splice vs off [v] = vs.set off v := by
  unfold splice
  rw [List.set_eq_take_append_cons_drop, if_pos h]
  simp
theorem splice_length (vs : List Value) (off : Nat) (cs : List Value) (h : off + cs.length ≤ vs.length) : (splice vs off cs).length = vs.length := by
  unfold splice; simp; omega
theorem splice_get {ι : Emb} {vs vs' cs cs' : List Value} (h : VRs ι vs vs') (hc : VRs ι cs cs') (off : Nat) : VRs ι (splice vs off cs) (splice vs' off cs') := by
  unfold splice
  rw [hc.1]
  exact ((h.take off).append hc).append (h.drop _)

def Hp.load (H : Hp) (a : Addr) (n : Nat) : Option (List Value) :=
  match H.cells a.block with
  | some vs => if a.off + n ≤ vs.length then some ((vs.drop a.off).take n) else none
  | none => none
theorem Hp.load_length {H : Hp} {a : Addr} {n : Nat} {cs : List Value} (h : H.load a n = some cs) : cs.length = n := by
  unfold Hp.load at h
  split at h
  · split at h
    · cases h; simp; omega
    · cases h
  · cases h
/-- What is loaded, in the world. -/
theorem Sim.load {ι : Emb} {H : Hp} {w : World} (s : Sim ι H w) {b off n : Nat} {cs : List Value} (h : H.load ⟨b, off, none⟩ n = some cs) {L : Loc} (hL : ι b = some L) :
    ∃ cs', VRs ι cs cs' ∧ cs'.length = n ∧ ∀ (j : Nat) (v : Value), cs'[j]? = some v → w.cell? ((L.base.add off).add j) = some v := by
  have hn := Hp.load_length h
  unfold Hp.load at h
  split at h
  · rename_i vs hvs
    split at h
    · rename_i hle
      cases h
      obtain ⟨K, vs', hK, hr, hc⟩ := s.read hvs
      rw [hL] at hK; cases hK
      have hr2 := (hr.drop off).take n
      refine ⟨(vs'.drop off).take n, hr2, by rw [← hr2.1]; exact hn, fun j v hv => ?_⟩
      rw [List.getElem?_take] at hv
      split at hv
      · rw [List.getElem?_drop] at hv
        rw [add_add]
        exact hc _ v hv
      · cases hv
    · cases h
  · cases h

def mkv (agg : Bool) (cs : List Value) : Option Value := if agg then some (.agg cs.toArray) else match cs with | [v] => some v | _ => none

/-- The cells of a slice. -/
def slcells (H : Hp) (sz : Nat) : Value → Option (Nat × List Value)
  | .slice none 0 0 => some (0, [])
  | .slice (some a) n _ => if a.spot.isNone then (H.load a (n * sz)).map fun cs => (n, cs) else none
  | _ => none

def aappend (sz bytes : Nat) (s x : Value) (H : Hp) : Option (Value × Hp) :=
  match slcells H sz x with
  | none => none
  | some (n, new) =>
    match s with
    | .slice none 0 0 =>
      if n = 0 then some (s, H)
      else if n * bytes ≤ 140737488355328 ∧ new.all Value.oneCell' then some (.slice (some ⟨H.length, 0, none⟩) n n, H ++ [.rw sz new]) else none
    | .slice (some a) m m' =>
      if n = 0 then some (s, H)
      else match H[a.block]?, slcells H sz s with
        | some (.rw sz' _), some (_, old) =>
          if sz' = sz ∧ m' = m ∧ (m + n) * bytes ≤ 140737488355328 ∧ new.all Value.oneCell' then
            some (.slice (some ⟨H.length, 0, none⟩) (m + n) (m + n), H.set a.block .dead ++ [.rw sz (old ++ new)])
          else none
        | _, _ => none
    | _ => none

theorem slcells_run {P : Program} {ι : Emb} {H : Hp} {w : World} (s : Sim ι H w) {sz n : Nat} {x x' : Value} {cs : List Value} (h : slcells H sz x = some (n, cs)) (hx : VR ι x x') :
    ∃ A c cs', x' = .slice A n c ∧ VRs ι cs cs' ∧ cs'.length = n * sz ∧ (∀ W : World, W.heap = w.heap → (Builtin.firstCells sz n x').run P W = .ok cs'.toArray W) ∧
      (∀ a, A = some a → ∀ (j : Nat) (v : Value), cs'[j]? = some v → w.cell? (a.add j) = some v) := by
  unfold slcells at h
  split at h
  · cases h; cases hx
    exact ⟨none, 0, [], rfl, VRs.nil, by simp, fun W _ => by simp [Builtin.firstCells], fun a h => by cases h⟩
  · rename_i ad m c0
    split at h
    · cases hl : H.load ad (m * sz) with
      | none => simp [hl] at h
      | some cs0 =>
        simp [hl] at h
        obtain ⟨rfl, rfl⟩ := h
        obtain ⟨b, off, c, L, A, rfl, _, rfl, hL, hn, hc⟩ := hx.slice_inv
        obtain ⟨cs', hr, hlen, hcell⟩ := s.load hl hL
        have hcell' : ∀ (j : Nat) (v : Value), cs'[j]? = some v → w.cell? (A.add j) = some v := by
          intro j v hv
          have hj : j < cs'.length := by
            rcases Nat.lt_or_ge j cs'.length with h | h
            · exact h
            · simp [List.getElem?_eq_none h] at hv
          rcases hc with h0 | ⟨hA, _⟩
          · have : m = 0 := by omega
            rw [hlen, this] at hj; simp at hj
          · subst hA; exact hcell j v hv
        refine ⟨some A, c, cs', rfl, hr, hlen, fun W hW => ?_, fun a ha => by cases ha; exact hcell'⟩
        have := run_loadCells_list (P := P) W A cs' (fun j v hv => by
          have := hcell' j v hv
          unfold World.cell? at this ⊢
          rw [hW]; exact this)
        rw [hlen] at this
        simpa [Builtin.firstCells] using this
    · cases h
  · cases h

theorem slcells_len {H : Hp} {sz n m mq : Nat} {a : Addr} {cs : List Value} (h : slcells H sz (.slice (some a) n m) = some (mq, cs)) : mq = n := by
  simp only [slcells] at h
  split at h
  · cases hl : H.load a (n * sz) with
    | none => rw [hl] at h; cases h
    | some q => rw [hl] at h; cases h; rfl
  · cases h
theorem run_append_at {P : Program} (w : World) (t ty e : TypeId) (i : TypeInfo) (ht : P.underlying t = some (.slice e)) (hi : P.info? e = some i)
    (g o sLen sCap : Nat) (cur : Array Value) (t' : TypeId) (hg : w.heap[g]? = some (.cells cur t' (0, 0)))
    (x : Value) (A : Option Addr) (m c : Nat) (hx : x = .slice A m c) (news : List Value) (hf : (Builtin.firstCells i.size m x).run P w = .ok news.toArray w) (h1 : ∀ u ∈ news, u.oneCell' = true)
    (hroom : sLen + m ≤ sCap) (hfit : o + sLen * i.size + news.length ≤ cur.size) :
    (Builtin.append_ #[t, t] ty #[.slice (some ⟨g, o, none⟩) sLen sCap, x]).run P w =
      .ok (.slice (some ⟨g, o, none⟩) (sLen + m) sCap) (w.setRow g (cur.toList.take (o + sLen * i.size) ++ news ++ cur.toList.drop (o + sLen * i.size + news.length)).toArray) := by
  have hst := run_storeCells_at P g (o + sLen * i.size) t' news 0 cur w hg (by simpa using hfit) h1
  simp only [Nat.add_zero] at hst
  subst hx
  simp [Builtin.append_, run_underlying ht, sizeOf, typeInfo, hi, Builtin.lenOf, hroom, hf, add_none, hst]

theorem run_append_new {P : Program} (w : World) (t ty e : TypeId) (i : TypeInfo) (z : Value) (ht : P.underlying t = some (.slice e)) (hi : P.info? e = some i) (hz : i.zero = some z)
    (s : Value) (B : Option Addr) (sLen sCap : Nat) (hs : s = .slice B sLen sCap) (olds : List Value) (hfo : (Builtin.firstCells i.size sLen s).run P w.drew = .ok olds.toArray w.drew)
    (x : Value) (A : Option Addr) (n c : Nat) (hx : x = .slice A n c) (news : List Value) (hf : (Builtin.firstCells i.size n x).run P w.drew = .ok news.toArray w.drew)
    (hg : sCap < sLen + n) (h63 : ((sLen + n : Nat) : Int) ≤ 9223372036854775807) (hfit : Builtin.nextslicecap (sLen + n) sCap * i.bytes ≤ 281474976710656) :
    (Builtin.append_ #[t, t] ty #[s, x]).run P w =
      .ok (.slice (some ⟨w.heap.size, 0, none⟩) (sLen + n) (grownCap w (sLen + n) sCap e))
        (w.drew.alloc (.cells (olds.toArray ++ news.toArray ++ Builtin.zeroCells z.cells (grownCap w (sLen + n) sCap e - (sLen + n))) e)) := by
  have hn : ¬ (sLen + n ≤ sCap) := by omega
  have h63' : ¬ (9223372036854775807 < ((sLen : Int) + (n : Int))) := by omega
  have h48' : ¬ (281474976710656 < Builtin.nextslicecap (sLen + n) sCap * i.bytes) := by omega
  subst hs; subst hx
  simp [Builtin.append_, run_underlying ht, sizeOf, typeInfo, zeroValue, hi, hz, Builtin.lenOf, hn, h63', h48', Question.forced, hf, hfo, newRow, grownCap]
  congr 2
  apply Array.ext'
  simp [List.append_assoc]

set_option maxHeartbeats 1000000 in
theorem aappend_run {P : Program} {ι : Emb} {H : Hp} {w : World} (s : Sim ι H w) {t ty e : TypeId} {i : TypeInfo} {z : Value} (ht : P.underlying t = some (.slice e)) (hi : P.info? e = some i) (hz : i.zero = some z)
    (hzs : z.cells.size = i.size) (hsz : 0 < i.size) (hby : 0 < i.bytes) {sv x sv' x' av : Value} {H' : Hp} (h : aappend i.size i.bytes sv x H = some (av, H')) (hs : VR ι sv sv') (hx : VR ι x x') :
    ∃ v ι' w', (Builtin.append_ #[t, t] ty #[sv', x']).run P w = .ok v w' ∧ VR ι' av v ∧ Sim ι' H' w' ∧ Fr ι H w ι' H' w' := by
  unfold aappend at h
  split at h
  · cases h
  · rename_i n new hnew
    obtain ⟨A, c, new', rfl, hr, hlen, hfc, hcell⟩ := slcells_run (P := P) s hnew hx
    have hfc0 := hfc w rfl
    have hfcd := hfc w.drew rfl
    split at h
    · -- append to nil
      cases hs
      split at h
      · rename_i h0
        cases h
        subst h0
        refine ⟨.slice none 0 0, ι, w, ?_, .snil, s, Fr.refl ..⟩
        have hn : new' = [] := List.eq_nil_of_length_eq_zero (by simpa using hlen)
        subst hn
        simp [Builtin.append_, run_underlying ht, sizeOf, typeInfo, hi, Builtin.lenOf, hfc0]
      · rename_i h0
        split at h
        · rename_i hc
          cases h
          have hnb : n ≤ n * i.bytes := Nat.le_mul_of_pos_right n hby
          have hrun := run_append_new (P := P) w t ty e i z ht hi hz (.slice none 0 0) none 0 0 rfl [] (by simp [Builtin.firstCells]) _ A n c rfl new' hfcd (by omega) (by omega)
            (by rw [Nat.zero_add]; rw [nextslicecap_zero (by omega)]; omega)
          rw [Nat.zero_add] at hrun
          have hge := grownCap_ge w n 0 e
          have hsize : (List.toArray ([] : List Value) ++ new'.toArray ++ Builtin.zeroCells z.cells (grownCap w n 0 e - n)).size = grownCap w n 0 e * i.size := by
            simp only [Array.size_append, List.size_toArray, List.length_nil, size_zeroCells, hzs, hlen, Nat.zero_add, ← Nat.add_mul]
            congr 1; omega
          obtain ⟨hsim, hfr⟩ := s.drew.newRow i.size new (List.toArray ([] : List Value) ++ new'.toArray ++ Builtin.zeroCells z.cells (grownCap w n 0 e - n)) e
            (fun j v hv => by
              obtain ⟨v', h1, h2⟩ := hr.get hv
              have hj : j < new'.length := by
                rcases Nat.lt_or_ge j new'.length with h | h
                · exact h
                · simp [List.getElem?_eq_none h] at h1
              refine ⟨v', ?_, h2⟩
              have : (List.toArray ([] : List Value) ++ new'.toArray)[j]? = some v' := by simpa using h1
              rw [Array.getElem?_append_left (by simpa using hj)]
              exact this)
            (by rw [hsize, hr.1, hlen]; exact Nat.mul_le_mul_right _ hge)
          refine ⟨_, _, _, hrun, ?_, hsim, ?_⟩
          · refine .sl _ 0 n _ _ _ (Emb.put_same ..) hge (.inr ⟨by simp [Addr.add], ?_⟩)
            show 0 + grownCap w n 0 e * i.size ≤ (List.toArray ([] : List Value) ++ new'.toArray ++ Builtin.zeroCells z.cells (grownCap w n 0 e - n)).size
            rw [hsize]; omega
          · exact Fr.of_drew hfr
        · cases h
    · -- append to a block
      rename_i a m m'
      split at h
      · rename_i h0
        cases h
        subst h0
        have hn : new' = [] := List.eq_nil_of_length_eq_zero (by simpa using hlen)
        subst hn
        obtain ⟨b, off, c2, L, A2, rfl, rfl, rfl, hL, hle, hc2⟩ := hs.slice_inv
        refine ⟨_, ι, w, ?_, .sl b off _ c2 L A2 hL hle hc2, s, Fr.refl ..⟩
        simp [Builtin.append_, run_underlying ht, sizeOf, typeInfo, hi, Builtin.lenOf, hfc0, hle, storeCells]
      · rename_i h0
        split at h
        · rename_i sz' vs0 mq old hblk hold
          split at h
          · rename_i hc
            obtain ⟨rfl, rfl, hbytes, hone⟩ := hc
            cases h
            have hone' : ∀ u ∈ new', u.oneCell' = true := hr.one hone
            obtain rfl : mq = m' := slcells_len hold
            obtain ⟨b, off, c2, L, A2, rfl, _, rfl, hL, hle, hc2⟩ := hs.slice_inv
            obtain ⟨A0, c0, old', hq, hro, hleno, hfo, _⟩ := slcells_run (P := P) s hold hs
            simp only [Value.slice.injEq] at hq
            obtain ⟨hq1, _, hq3⟩ := hq
            subst hq1
            subst hq3
            have hmb : mq + n ≤ (mq + n) * i.bytes := Nat.le_mul_of_pos_right _ hby
            simp only at hblk
            by_cases hroom : mq + n ≤ c2
            · have hc0 : c2 ≠ 0 := by omega
              obtain ⟨hA, hext⟩ := hc2.resolve_left hc0
              obtain ⟨L', cur, t', h1, h2, h3, h4, h5, h6⟩ := s.own b i.size vs0 hblk
              rw [hL] at h1; cases h1
              rw [h3] at hext
              have hbase : L.base = ⟨L.base.block, L.base.off, none⟩ := by cases hq : L.base; simp [hq] at h2; simp [h2]
              have hA2 : A2 = ⟨L.base.block, L.base.off + off, none⟩ := by rw [hA, hbase, add_none]
              have hmul : (mq + n) * i.size ≤ c2 * i.size := Nat.mul_le_mul_right _ hroom
              rw [Nat.add_mul] at hmul
              subst hA2
              have hrun := run_append_at (P := P) w t ty e i ht hi L.base.block (L.base.off + off) mq c2 cur t' h4 _ A n c rfl new' hfc0 hone' hroom (by rw [hlen]; omega)
              -- the prefix of the old block and what comes behind it
              have hvl : off + mq * i.size ≤ vs0.length := by
                unfold slcells Hp.load Hp.cells at hold
                simp only [hblk, Option.bind_some, Blk.cells, Option.isNone_none, if_true] at hold
                split at hold
                · assumption
                · simp at hold
              have holdv : old = (vs0.drop off).take (mq * i.size) := by
                unfold slcells Hp.load Hp.cells at hold
                simp only [hblk, Option.bind_some, Blk.cells, Option.isNone_none, if_true] at hold
                split at hold
                · simp at hold; exact hold.symm
                · first | (simp at hold; done) | (simp at hold; exact hold.symm)
              obtain ⟨K, vs', hK, hrv, hcv⟩ := s.read (b := b) (vs := vs0) (by simp [Hp.cells, hblk, Blk.cells])
              rw [hL] at hK; cases hK
              have hcur : ∀ (j : Nat) (v : Value), vs'[j]? = some v → cur[L.base.off + j]? = some v := by
                intro j v hv
                have := hcv j v hv
                rw [hbase, add_none] at this
                simpa [World.cell?, h4] using this
              obtain ⟨hsim1, hfr1⟩ := s.rewrite hblk hL h4 (cur.toList.take (L.base.off + off + mq * i.size) ++ new' ++ cur.toList.drop (L.base.off + off + mq * i.size + new'.length)).toArray
                (by simp [hlen]; omega) (vs0.take (off + mq * i.size) ++ new) (by simp [hr.1, hlen]; omega)
                (fun j v hv => by
                  obtain ⟨v', h1, h2⟩ := ((hrv.take (off + mq * i.size)).append hr).get hv
                  refine ⟨v', ?_, h2⟩
                  have hvl' : off + mq * i.size ≤ vs'.length := hrv.1 ▸ hvl
                  simp only [List.getElem?_toArray]
                  rw [List.append_assoc]
                  by_cases hj : j < off + mq * i.size
                  · rw [List.getElem?_append_left (by simp; omega)] at h1
                    rw [List.getElem?_take, if_pos hj] at h1
                    rw [List.getElem?_append_left (by simp; omega), List.getElem?_take, if_pos (by omega)]
                    have := hcur j v' h1
                    simpa using this
                  · rw [List.getElem?_append_right (by simp; omega)] at h1
                    simp only [List.length_take, Nat.min_eq_left hvl'] at h1
                    have hj2 : j - (off + mq * i.size) < new'.length := by
                      rcases Nat.lt_or_ge (j - (off + mq * i.size)) new'.length with h | h
                      · exact h
                      · simp [List.getElem?_eq_none h] at h1
                    rw [List.getElem?_append_right (by simp; omega)]
                    rw [List.getElem?_append_left (by simp; omega)]
                    rw [← h1]
                    congr 1
                    simp; omega)
              have hblt : b < H.length := s.dom b L hL
              obtain ⟨hsim2, hfr2⟩ := hsim1.move (b := b) (sz := i.size) (vs := vs0.take (off + mq * i.size) ++ new) (L := L) (by simp [hblt]) hL off (by omega)
              have hdrop : (vs0.take (off + mq * i.size) ++ new).drop off = old ++ new := by
                rw [List.drop_append_of_le_length (by simp; omega), List.drop_take, holdv]
                congr 2; omega
              rw [hdrop, List.set_set, List.length_set] at hsim2 hfr2
              refine ⟨_, _, _, hrun, ?_, hsim2, hfr1.trans hfr2⟩
              refine .sl _ 0 _ c2 _ _ (Emb.put_same ..) hroom (.inr ⟨?_, ?_⟩)
              · rw [hbase, add_none]; simp [Addr.add]
              · show 0 + c2 * i.size ≤ L.ext - off; omega
            · have hrun := run_append_new (P := P) w t ty e i z ht hi hz _ (some A2) mq c2 rfl old' (hfo w.drew rfl) _ A n c rfl new' hfcd (by omega) (by omega) (growslice_fits (by omega) hbytes)
              have hge := grownCap_ge w (mq + n) c2 e
              have hsize : (old'.toArray ++ new'.toArray ++ Builtin.zeroCells z.cells (grownCap w (mq + n) c2 e - (mq + n))).size = grownCap w (mq + n) c2 e * i.size := by
                simp only [Array.size_append, List.size_toArray, size_zeroCells, hzs, hlen, hleno, ← Nat.add_mul]
                congr 1; omega
              have hblt : b < H.length := s.dom b L hL
              obtain ⟨hk1, hk2⟩ := s.drew.kill hblt
              have hro2 := hro.append hr
              obtain ⟨hsim, hfr⟩ := hk1.newRow i.size (old ++ new) (old'.toArray ++ new'.toArray ++ Builtin.zeroCells z.cells (grownCap w (mq + n) c2 e - (mq + n))) e
                (fun j v hv => by
                  obtain ⟨v', h1, h2⟩ := hro2.get hv
                  have hj : j < (old' ++ new').length := by
                    rcases Nat.lt_or_ge j (old' ++ new').length with h | h
                    · exact h
                    · simp [List.getElem?_eq_none h] at h1
                  refine ⟨v', ?_, h2⟩
                  rw [Array.getElem?_append_left (by simpa using hj)]
                  simpa using h1)
                (by rw [hsize, hro2.1, List.length_append, hlen, hleno, ← Nat.add_mul]; exact Nat.mul_le_mul_right _ hge)
              rw [List.length_set] at hsim hfr
              refine ⟨_, _, _, hrun, ?_, hsim, ?_⟩
              · refine .sl _ 0 _ _ _ _ (Emb.put_same ..) hge (.inr ⟨by simp [Addr.add], ?_⟩)
                show 0 + grownCap w (mq + n) c2 e * i.size ≤ (old'.toArray ++ new'.toArray ++ Builtin.zeroCells z.cells (grownCap w (mq + n) c2 e - (mq + n))).size
                rw [hsize]; omega
              · exact Fr.of_drew (hk2.trans hfr)
          · cases h
        · cases h
    · cases h

end Go.Ab

/- The abstract machine, part 5: all its operations but calls. Own work. -/
namespace Go.Ab
open Go

inductive AOp where
  | mv (x : Operand)
  | pick (c a b : Operand)
  | bin (op : BinOp) (x y : Operand)
  | eq (neg : Bool) (k : EqK) (x y : Operand)
  | un (op : UnOp) (x : Operand)
  | conv (k : IntKind) (x : Operand)
  | build (zero : List Value) (parts : List (Nat × Nat × Operand))
  | extract (x : Operand) (i : Nat)
  | field (off size : Nat) (agg : Bool) (x : Operand)
  | mkfn (fn : Fn) (caps : List Operand)
  | iface (t : TypeId) (x : Operand)
  | nilchk (x : Operand)
  | faddr (off : Nat) (x : Operand)
  | idxs (sz : Nat) (x i : Operand)
  | idxa (len sz : Nat) (x i : Operand)
  | idx (len sz : Nat) (agg : Bool) (x i : Operand)
  | idxstr (x i : Operand)
  | slice (sz : Nat) (x : Operand) (lo hi : Option Operand)
  | len (x : Operand)
  | lens (x : Operand)
  | mm (isMax : Bool) (xs : List Operand)
  | alloc (cells : List Value)
  | box (x : Operand)
  | mkslice (sz bytes : Nat) (zero : List Value) (l c : Operand)
  | bslice (sz len : Nat) (tmpl : List Value) (parts : List (Nat × Nat × Operand))
  | load (sz : Nat) (agg : Bool) (x : Operand)
  | store (sz : Nat) (a x : Operand)
  | append (sz bytes : Nat) (s x : Operand)
  | capn (x : Operand)
  | appz (sz bytes : Nat) (zero : List Value) (s n : Operand)
  | clear (sz : Nat) (zero : List Value) (x : Operand)
  | call (f : FuncId) (args : List Operand)
  | callv (f : Operand) (args : List Operand)
  | bad

def okL (xs : List Operand) : Bool := xs.all okO
def okP (ps : List (Nat × Nat × Operand)) : Bool := ps.all fun p => okO p.2.2
def okz (cs : List Value) : Bool := cs.all okC

def aggT (P : Program) (t : TypeId) : Option Bool :=
  match P.underlying t with
  | some (.struct _) | some (.array _ _) => some true
  | some _ => some false
  | none => none
/-- A type's size, and whether it is an aggregate. -/
def szT (P : Program) (t : TypeId) : Option (Nat × Bool) :=
  match P.info? t, aggT P t with
  | some i, some b => if b || i.size == 1 then some (i.size, b) else none
  | _, _ => none
def zeroT (P : Program) (t : TypeId) : Option (List Value) :=
  match P.info? t with
  | some i => match i.zero with
    | some z => if okz z.cells.toList && z.cells.size == i.size then some z.cells.toList else none
    | none => none
  | none => none
def places (P : Program) (t : TypeId) : Option (List (Nat × Nat)) :=
  match P.underlying t with
  | some (.struct fs) => fs.toList.mapM fun f => (P.info? f.type).map fun i => (f.offset, i.size)
  | some (.array n e) => (P.info? e).map fun i => (List.range n).map fun j => (j * i.size, i.size)
  | _ => none

def cBuiltin (P : Program) (b : Builtin) (ty : List TypeId) (args : List Operand) : AOp :=
  match b, ty, args with
  | .len, [t], [x] => match P.underlying t with
    | some (.slice _) => .len x
    | some .string => .lens x
    | _ => .bad
  | .append, [t, u], [s, x] =>
    if t = u then match P.underlying t with
      | some (.slice e) => match P.info? e, zeroT P e with
        | some i, some _ => if 0 < i.size ∧ 0 < i.bytes then .append i.size i.bytes s x else .bad
        | _, _ => .bad
      | _ => .bad
    else match P.underlying t, P.underlying u with
      | some (.slice e), some (.int _) => match P.info? e, zeroT P e with
        | some i, some z => if 0 < i.size ∧ 0 < i.bytes then .appz i.size i.bytes z s x else .bad
        | _, _ => .bad
      | _, _ => .bad
  | .cap, [t], [x] => match P.underlying t with
    | some (.slice _) => .capn x
    | _ => .bad
  | .clear, [t], [x] => match P.underlying t with
    | some (.slice e) => match P.info? e, zeroT P e with
      | some i, some z => .clear i.size z x
      | _, _ => .bad
    | _ => .bad
  | .min, _, xs => .mm false xs
  | .max, _, xs => .mm true xs
  | _, _, _ => .bad

def cOp (P : Program) (o : Oper) : AOp :=
  match o.op with
  | .move x | .assign x => if okO x then .mv x else .bad
  | .pick c a b => if okL [c, a, b] then .pick c a b else .bad
  | .binOp op t x y _ =>
    if okL [x, y] then
      match op, eqKOf P t with
      | .eql, .other | .neq, .other => .bin op x y
      | .eql, k => .eq false k x y
      | .neq, k => .eq true k x y
      | op, _ => .bin op x y
    else .bad
  | .unOp op _ x => if okO x then .un op x else .bad
  | .convert src dst x =>
    if okO x then match P.underlying src, P.underlying dst with
      | some _, some (.int k) => .conv k x
      | _, _ => .bad
    else .bad
  | .build t ps =>
    match zeroT P t, places P t with
    | some z, some pl =>
      match ps.toList.mapM (fun p => (pl[p.1]?).map fun q => (q.1, q.2, p.2)) with
      | some l => if okP l then .build z l else .bad
      | none => .bad
    | _, _ => .bad
  | .extract x i => if okO x then .extract x i else .bad
  | .field t x f =>
    if okO x then match P.underlying t with
      | some (.struct fs) => match fs[f]? with
        | some fd => match szT P fd.type with
          | some (n, b) => .field fd.offset n b x
          | none => .bad
        | none => .bad
      | _ => .bad
    else .bad
  | .makeFunc fn first caps => if first.size = 0 ∧ okL caps.toList then .mkfn fn caps.toList else .bad
  | .makeInterface t x => if okO x ∧ P.concrete t then .iface t x else .bad
  | .nilCheck x => if okO x then .nilchk x else .bad
  | .fieldAddr t x f =>
    if okO x then match P.underlying t with
      | some (.struct fs) => match fs[f]? with
        | some fd => match P.info? fd.type with
          | some i => if i.size ≠ 0 then .faddr fd.offset x else .bad
          | none => .bad
        | none => .bad
      | _ => .bad
    else .bad
  | .indexAddr t x i =>
    if okL [x, i] then match P.underlying t with
      | some (.slice e) => match P.info? e with
        | some inf => .idxs inf.size x i
        | none => .bad
      | some (.array n e) => match P.info? e with
        | some inf => .idxa n inf.size x i
        | none => .bad
      | _ => .bad
    else .bad
  | .index t x i =>
    if okL [x, i] then match P.underlying t with
      | some .string => .idxstr x i
      | some (.array n e) => match szT P e with
        | some (m, b) => .idx n m b x i
        | none => .bad
      | _ => .bad
    else .bad
  | .slice t x lo hi none =>
    if okO x ∧ okL lo.toList ∧ okL hi.toList then match P.underlying t with
      | some (.slice e) => match P.info? e with
        | some inf => .slice inf.size x lo hi
        | none => .bad
      | _ => .bad
    else .bad
  | .alloc e => match zeroT P e with
    | some z => .alloc z
    | none => .bad
  | .box _ x => if okO x then .box x else .bad
  | .makeSlice t l c =>
    if okL [l, c] then match P.underlying t with
      | some (.slice e) => match P.info? e, zeroT P e with
        | some i, some z => .mkslice i.size i.bytes z l c
        | _, _ => .bad
      | _ => .bad
    else .bad
  | .buildSlice t len ps =>
    match P.underlying t with
    | some (.slice e) => match P.info? e, zeroT P e with
      | some i, some z =>
        if len * i.size ≤ 2 ^ 24 ∧ okL (ps.toList.map (·.2)) then
          .bslice i.size len (madeCells z.toArray (len * i.size)).toList (ps.toList.map fun p => (p.1 * i.size, i.size, p.2))
        else .bad
      | _, _ => .bad
    | _ => .bad
  | .load t x =>
    if okO x then match szT P t with
      | some (n, b) => .load n b x
      | none => .bad
    else .bad
  | .store t a x =>
    if okL [a, x] then match P.info? t with
      | some i => .store i.size a x
      | none => .bad
    else .bad
  | .call c =>
    if okL c.args.toList then match c.callee with
      | .builtin b => cBuiltin P b c.argTypes.toList c.args.toList
      | .value (.func f) => .call f c.args.toList
      | .value f => if okO f then .callv f c.args.toList else .bad
      | _ => .bad
    else .bad
  | _ => .bad

/-! ### What they do -/
def bfill : List Value → List (Nat × Nat × Value) → Option (List Value)
  | cs, [] => some cs
  | cs, (off, size, v) :: rest => if v.cells.size = size ∧ off + size ≤ cs.length then bfill (splice cs off v.cells.toList) rest else none

def mm2 (isMax : Bool) : Value → List Value → Option Value
  | v, [] => some v
  | .int k x, .int k' y :: rest => if k = k' then mm2 isMax (.int k (if isMax then (if y > x then y else x) else (if y < x then y else x))) rest else none
  | _, _ => none

def asNat (lo : Nat) (hi : Nat) : Option Value → (dflt : Nat) → Option Nat
  | none, d => if lo ≤ d ∧ d ≤ hi then some d else none
  | some (.int _ n), _ => if (lo : Int) ≤ n ∧ n ≤ hi then some n.toNat else none
  | _, _ => none

/-- A slice's part. -/
def aslice (H : Hp) (sz : Nat) (x : Value) (lo hi : Option Value) : Option Value :=
  match x with
  | .slice none 0 0 => do
    let h ← asNat 0 0 hi 0
    let _ ← asNat 0 h lo 0
    some (.slice none 0 0)
  | .slice (some a) n m => if n = m ∧ H.esz a.block = some sz then do
      let h ← asNat 0 n hi n
      let l ← asNat 0 h lo 0
      some (.slice (some ⟨a.block, a.off + l * sz, none⟩) (h - l) (h - l))
    else none
  | _ => none

/-- A new block, with number k. -/
def anew (o : AOp) (tm : Tm) (k : Nat) : Option (Value × Blk) :=
  match o with
  | .alloc z => some (.pointer (some ⟨k, 0, none⟩), .rw 0 z)
  | .box x => some (.pointer (some ⟨k, 0, none⟩), .rw 0 (ev tm x).cells.toList)
  | .mkslice sz bytes z l c => match ev tm l, ev tm c with
    | .int _ l, .int _ c =>
      if 0 ≤ l ∧ l ≤ c ∧ (bytes : Int) * c ≤ 281474976710656 ∧ c ≤ 9223372036854775807 then
        some (.slice (some ⟨k, 0, none⟩) l.toNat l.toNat, .rw sz (madeCells z.toArray (l.toNat * sz)).toList)
      else none
    | _, _ => none
  | .bslice sz len tm0 ps => (bfill tm0 (ps.map fun p => (p.1, p.2.1, ev tm p.2.2))).map fun cs => (.slice (some ⟨k, 0, none⟩) len len, .rw sz cs)
  | _ => none

def aop (o : AOp) (tm : Tm) (H : Hp) : Option (Value × Hp) :=
  match o with
  | .mv x => some (ev tm x, H)
  | .pick c a b => match ev tm c with
    | .bool t => some (if t then ev tm a else ev tm b, H)
    | _ => none
  | .bin op x y => match ev tm x, ev tm y with
    | .int k a, .int k' b => (ibin op k a k' b).map (·, H)
    | _, _ => none
  | .eq neg k x y => match ev tm x, ev tm y with
    | .int k a, .int k' b => (ibin (if neg then .neq else .eql) k a k' b).map (·, H)
    | u, v => (aEq k u v).map fun b => (.bool (if neg then !b else b), H)
  | .un op x => match op, ev tm x with
    | .neg, .int k n => some (.int k (k.wrap (0 - n)), H)
    | .not, .bool b => some (.bool !b, H)
    | _, _ => none
  | .conv k x => match ev tm x with
    | .int _ n => some (.int k (k.wrap n), H)
    | _ => none
  | .build z ps => (bfill z (ps.map fun p => (p.1, p.2.1, ev tm p.2.2))).map fun cs => (.agg cs.toArray, H)
  | .extract x i => match ev tm x with
    | .tuple vs => (vs[i]?).map (·, H)
    | _ => none
  | .field off n b x => match ev tm x with
    | .agg cs => if off + n ≤ cs.size then (mkv b ((cs.toList.drop off).take n)).map (·, H) else none
    | _ => none
  | .mkfn fn caps => some (.func fn #[] (caps.map (ev tm)).toArray, H)
  | .iface t x => some (.iface t (ev tm x), H)
  | .nilchk x => match ev tm x with
    | .pointer (some a) => some (.pointer (some a), H)
    | .func (.func f) a b => some (.func (.func f) a b, H)
    | _ => none
  | .faddr off x => match ev tm x with
    | .pointer (some a) => some (.pointer (some ⟨a.block, a.off + off, none⟩), H)
    | _ => none
  | .idxs sz x i => match ev tm x, ev tm i with
    | .slice (some a) n _, .int _ j => if 0 ≤ j ∧ j < n then some (.pointer (some ⟨a.block, a.off + j.toNat * sz, none⟩), H) else none
    | _, _ => none
  | .idxa len sz x i => match ev tm x, ev tm i with
    | .pointer (some a), .int _ j => if 0 ≤ j ∧ j < len then some (.pointer (some ⟨a.block, a.off + j.toNat * sz, none⟩), H) else none
    | _, _ => none
  | .idx len sz b x i => match ev tm x, ev tm i with
    | .agg cs, .int _ j => if 0 ≤ j ∧ j < len ∧ (j.toNat * sz) + sz ≤ cs.size then (mkv b ((cs.toList.drop (j.toNat * sz)).take sz)).map (·, H) else none
    | _, _ => none
  | .idxstr x i => match ev tm x, ev tm i with
    | .string s, .int _ j => if 0 ≤ j then (s[j.toNat]?).map fun b => (.int .u8 b.toNat, H) else none
    | _, _ => none
  | .slice sz x lo hi => (aslice H sz (ev tm x) (lo.map (ev tm)) (hi.map (ev tm))).map (·, H)
  | .len x => match ev tm x with
    | .slice _ n _ => some (.int .i64 n, H)
    | _ => none
  | .lens x => match ev tm x with
    | .string s => some (.int .i64 s.size, H)
    | _ => none
  | .mm isMax xs => match xs.map (ev tm) with
    | v :: rest => (mm2 isMax v rest).map (·, H)
    | [] => none
  | .alloc z => (anew (.alloc z) tm H.length).map fun p => (p.1, H ++ [p.2])
  | .box x => (anew (.box x) tm H.length).map fun p => (p.1, H ++ [p.2])
  | .mkslice sz bytes z l c => (anew (.mkslice sz bytes z l c) tm H.length).map fun p => (p.1, H ++ [p.2])
  | .bslice sz len tm0 ps => (anew (.bslice sz len tm0 ps) tm H.length).map fun p => (p.1, H ++ [p.2])
  | .load n b x => match ev tm x with
    | .pointer (some a) => if a.spot.isNone then ((H.load a n).bind (mkv b)).map (·, H) else none
    | _ => none
  | .store n a x => match ev tm a with
    | .pointer (some a) => match H[a.block]? with
      | some (.rw s vs) =>
        if (ev tm x).cells.size = n ∧ (ev tm x).cells.toList.all Value.oneCell' ∧ a.off + n ≤ vs.length then
          some (undef, H.set a.block (.rw s (splice vs a.off (ev tm x).cells.toList)))
        else none
      | _ => none
    | _ => none
  | .append sz bytes s x => aappend sz bytes (ev tm s) (ev tm x) H
  | .capn x => match ev tm x with
    | .slice none 0 0 => some (.int .i64 0, H)
    | _ => none
  | .appz sz bytes z s n => match ev tm s, ev tm n with
    | .slice none 0 0, .int _ n =>
      if 0 < n ∧ n.toNat * bytes ≤ 140737488355328 then some (.slice (some ⟨H.length, 0, none⟩) n.toNat n.toNat, H ++ [.rw sz (madeCells z.toArray (n.toNat * sz)).toList]) else none
    | _, _ => none
  | .clear sz z x => match ev tm x with
    | .slice none 0 0 => some (.tuple #[], H)
    | .slice (some a) n _ => if n = 0 then some (.tuple #[], H) else match H[a.block]? with
      | some (.rw s vs) => if a.off + n * sz ≤ vs.length then some (.tuple #[], H.set a.block (.rw s (splice vs a.off (madeCells z.toArray (n * sz)).toList))) else none
      | _ => none
    | _ => none
  | .call _ _ | .callv _ _ | .bad => none

end Go.Ab

/- The abstract machine, part 6: the model follows each operation. Own work. -/
namespace Go.Ab
open Go

theorem okz_vrs {ι : Emb} {cs : List Value} (h : okz cs = true) : VRs ι cs cs := by
  refine ⟨rfl, fun j v v' a b => ?_⟩
  rw [a] at b; cases b
  exact okC_vr (List.all_eq_true.1 h v (List.mem_of_getElem? a))
theorem VR.of_mkv {ι : Emb} {agg : Bool} {cs cs' : List Value} {v : Value} (h : VRs ι cs cs') (hv : mkv agg cs = some v) : ∃ v', mkv agg cs' = some v' ∧ VR ι v v' := by
  unfold mkv at hv ⊢
  cases agg with
  | true => simp at hv ⊢; subst hv; exact VR.of_agg h
  | false =>
    simp only [Bool.false_eq_true, if_false] at hv ⊢
    cases cs with
    | nil => simp at hv
    | cons u r =>
      cases r with
      | nil =>
        simp at hv; subst hv
        obtain ⟨v', r', rfl, h1, h2⟩ := h.cons_inv
        rw [h2.nil_inv]
        exact ⟨v', rfl, h1⟩
      | cons u2 r2 => simp at hv

theorem szT_some {P : Program} {t : TypeId} {n : Nat} {b : Bool} (h : szT P t = some (n, b)) : ∃ i, P.info? t = some i ∧ i.size = n ∧ (∀ w, (isAgg t).run P w = .ok b w) ∧ (b = false → n = 1) := by
  unfold szT at h
  split at h
  · rename_i i b' hi hb
    split at h
    · rename_i hc
      cases h
      refine ⟨i, hi, rfl, fun w => ?_, fun hb' => by subst hb'; simpa using hc⟩
      unfold aggT at hb
      split at hb <;> cases hb <;> (rename_i hu; simp [isAgg, run_underlying hu])
      all_goals (split <;> simp_all)
    · cases h
  · cases h

theorem zeroT_some {P : Program} {t : TypeId} {cs : List Value} (h : zeroT P t = some cs) : ∃ i z, P.info? t = some i ∧ i.zero = some z ∧ z.cells.toList = cs ∧ okz cs = true ∧ z.cells.size = i.size := by
  unfold zeroT at h
  split at h
  · rename_i i hi
    split at h
    · rename_i z hz
      split at h
      · rename_i hc
        cases h
        simp at hc
        exact ⟨i, z, hi, hz, rfl, hc.1, hc.2⟩
      · cases h
    · cases h
  · cases h

theorem run_part_mkv {P : Program} {t : TypeId} {n : Nat} {b : Bool} (h : szT P t = some (n, b)) {cs : Array Value} {off : Nat} {v : Value} (hle : off + n ≤ cs.size)
    (hv : mkv b ((cs.toList.drop off).take n) = some v) (w : World) : (part t cs off).run P w = .ok v w := by
  obtain ⟨i, hi, hsz, hagg, h1⟩ := szT_some h
  unfold part
  rw [Sem.run_bind, hagg, Result.andThen_ok]
  cases b with
  | true =>
    simp only [mkv, if_true, Option.some.injEq] at hv
    subst hv
    simp only [if_true, Sem.run_bind, sizeOf, typeInfo, run_program, Result.andThen_ok, hi, Sem.run_pure, hsz]
    congr 2
    apply Array.ext'
    simp [Array.toList_extract, List.extract_eq_take_drop]
  | false =>
    have hn := h1 rfl
    subst hn
    simp only [mkv, Bool.false_eq_true, if_false] at hv ⊢
    have hlt : off < cs.size := by omega
    have hd : (cs.toList.drop off).take 1 = [cs[off]] := by
      rw [List.take_one]
      simp [List.head?_drop, hlt]
    rw [hd] at hv
    simp at hv
    subst hv
    simp [hlt]

theorem bfill_vr {ι : Emb} : ∀ (ps ps' : List (Nat × Nat × Value)), ps.length = ps'.length → (∀ (j : Nat) (p p' : Nat × Nat × Value), ps[j]? = some p → ps'[j]? = some p' → p.1 = p'.1 ∧ p.2.1 = p'.2.1 ∧ VR ι p.2.2 p'.2.2) →
    ∀ (cs cs' r : List Value), VRs ι cs cs' → bfill cs ps = some r → ∃ r', bfill cs' ps' = some r' ∧ VRs ι r r'
  | [], ps', hl, _, cs, cs', r, hc, h => by
    obtain rfl : ps' = [] := List.eq_nil_of_length_eq_zero (by simpa using hl.symm)
    simp [bfill] at h ⊢; subst h; exact hc
  | (off, size, v) :: ps, ps', hl, hp, cs, cs', r, hc, h => by
    cases ps' with
    | nil => simp at hl
    | cons p' ps' =>
      obtain ⟨off', size', v'⟩ := p'
      obtain ⟨h1, h2, h3⟩ := hp 0 _ _ rfl rfl
      simp only at h1 h2 h3
      subst h1; subst h2
      simp only [bfill] at h ⊢
      have hcl := h3.cells
      split at h
      · rename_i hcond
        have hs : v'.cells.size = v.cells.size := by have := hcl.1; simpa using this.symm
        rw [if_pos ⟨by rw [hs]; exact hcond.1, by rw [← hc.1]; exact hcond.2⟩]
        exact bfill_vr ps ps' (by simpa using hl) (fun j p p' a b => hp (j + 1) p p' (by simpa using a) (by simpa using b)) _ _ r (splice_get hc hcl off) h
      · cases h

theorem foldl_splice (off : Nat) : ∀ (l : List Value) (k : Nat) (arr : Array Value), off + k + l.length ≤ arr.size →
    ((l.zipIdx k).foldl (fun (cs : Array Value) (x : Value × Nat) => cs.setIfInBounds (off + x.2) x.1) arr).toList = splice arr.toList (off + k) l
  | [], k, arr, _ => by simp [splice]
  | v :: l, k, arr, h => by
    simp only [List.zipIdx_cons, List.foldl_cons]
    have ih := foldl_splice off l (k + 1) (arr.setIfInBounds (off + k) v) (by simp at h ⊢; omega)
    rw [ih]
    simp only [splice, Array.toList_setIfInBounds, List.length_cons]
    have e := list_seg_step arr.toList (off + k) v l (by simp at h ⊢; omega)
    rw [← Nat.add_assoc] at e ⊢
    exact e.trans (by rw [show off + k + l.length + 1 = off + k + (l.length + 1) from rfl])

theorem fill_run (pl : Nat → Option (Nat × Nat)) : ∀ (ps : List (Nat × Value)) (l : List (Nat × Nat × Value)), ps.mapM (fun p => (pl p.1).map fun q => (q.1, q.2, p.2)) = some l →
    ∀ (cs : Array Value) (r : List Value), bfill cs.toList l = some r → Instr.fill pl cs ps = some r.toArray
  | [], l, hl, cs, r, h => by
    simp at hl; subst hl
    simp [bfill] at h; subst h
    simp [Instr.fill]
  | (i, v) :: ps, l, hl, cs, r, h => by
    simp only [List.mapM_cons, Option.bind_eq_bind, Option.pure_def, Option.bind_eq_some_iff] at hl
    obtain ⟨e, he, l2, hl2, h3⟩ := hl
    cases h3
    obtain ⟨q, hq, rfl⟩ := Option.map_eq_some_iff.1 he
    obtain ⟨off, size⟩ := q
    simp only [bfill] at h
    split at h
    · rename_i hc
      simp only [Instr.fill, hq]
      rw [if_neg (by simp; exact ⟨hc.1, by have := hc.2; simp at this; omega⟩)]
      refine fill_run pl ps l2 hl2 _ r ?_
      have := foldl_splice off v.cells.toList 0 cs (by have := hc.2; have := hc.1; simp at *; omega)
      rw [← Array.foldl_toList, Array.toList_zipIdx, this]
      exact h
    · cases h

end Go.Ab

/- The abstract machine, part 7: the model follows each operation but calls. Own work. -/
namespace Go.Ab
open Go

section
variable {P : Program} {ι : Emb} {H H' : Hp} {w : World} {N : Nat} {tm : Tm} {a : Act} {av : Value}

theorem vr_int {v' : Value} {k : IntKind} {n : Int} {ι : Emb} (h : VR ι (.int k n) v') : v' = .int k n := by cases h; rfl
theorem vr_bool {v' : Value} {b : Bool} {ι : Emb} (h : VR ι (.bool b) v') : v' = .bool b := by cases h; rfl
theorem vr_str {v' : Value} {b : ByteArray} {ι : Emb} (h : VR ι (.string b) v') : v' = .string b := by cases h; rfl

theorem good_pick (s : Sim ι H w) (ht : TR ι N tm a) {c x y : Operand} (ho : okL [c, x, y] = true) (h : aop (.pick c x y) tm H = some (av, H')) :
    Good P (do pure (.value (if ← asBool (a.eval c) then a.eval x else a.eval y))) ι H w av H' := by
  simp only [okL, List.all_cons, List.all_nil, Bool.and_true, Bool.and_eq_true] at ho
  simp only [aop] at h
  have hc := ev_vr ht ho.1
  split at h
  · rename_i t e
    cases h
    rw [e] at hc
    have := vr_bool hc
    refine Good.pure (v := if t then a.eval x else a.eval y) (by cases t <;> simp [this, asBool]) ?_ s
    cases t
    · exact ev_vr ht ho.2.2
    · exact ev_vr ht ho.2.1
  · cases h

theorem good_bin (s : Sim ι H w) (ht : TR ι N tm a) {op : BinOp} {t : TypeId} {x y : Operand} (ho : okL [x, y] = true) (h : aop (.bin op x y) tm H = some (av, H')) :
    Good P (do pure (.value (← (do eqGuard op t x y (a.eval x) (a.eval y); binOp op t (a.eval x) (a.eval y) : Sem Value)))) ι H w av H' := by
  simp only [okL, List.all_cons, List.all_nil, Bool.and_true, Bool.and_eq_true] at ho
  simp only [aop] at h
  have hx := ev_vr ht ho.1
  have hy := ev_vr ht ho.2
  split at h
  · rename_i k n k' n' e1 e2
    rw [e1] at hx; rw [e2] at hy
    rw [vr_int hx, vr_int hy]
    cases hb : ibin op k n k' n' with
    | none => simp [hb] at h
    | some v =>
      simp [hb] at h
      obtain ⟨rfl, rfl⟩ := h
      refine Good.pure (v := v) ?_ (ibin_vr hb) s
      rw [Sem.run_bind, ibin_run hb t x y w]; rfl
  · cases h

theorem good_eq (s : Sim ι H w) (ht : TR ι N tm a) {neg : Bool} {t : TypeId} {x y : Operand} (ho : okL [x, y] = true) (h : aop (.eq neg (eqKOf P t) x y) tm H = some (av, H')) :
    Good P (do pure (.value (← (do eqGuard (if neg then .neq else .eql) t x y (a.eval x) (a.eval y); binOp (if neg then .neq else .eql) t (a.eval x) (a.eval y) : Sem Value)))) ι H w av H' := by
  simp only [okL, List.all_cons, List.all_nil, Bool.and_true, Bool.and_eq_true] at ho
  simp only [aop] at h
  have hx := ev_vr ht ho.1
  have hy := ev_vr ht ho.2
  split at h
  · rename_i k n k' n' e1 e2
    rw [e1] at hx; rw [e2] at hy
    rw [vr_int hx, vr_int hy]
    cases hb : ibin (if neg then .neq else .eql) k n k' n' with
    | none => simp [hb] at h
    | some v =>
      simp [hb] at h
      obtain ⟨rfl, rfl⟩ := h
      refine Good.pure (v := v) ?_ (ibin_vr hb) s
      rw [Sem.run_bind, ibin_run hb t x y w]; rfl
  · cases hb : aEq (eqKOf P t) (ev tm x) (ev tm y) with
    | none => simp [hb] at h
    | some b =>
      simp [hb] at h
      obtain ⟨rfl, rfl⟩ := h
      refine Good.pure (v := .bool (if neg then !b else b)) ?_ (.bool _) s
      rw [Sem.run_bind, aEq_run (aEq_vr hb hx hy) neg x y w]; rfl

theorem good_un (s : Sim ι H w) (ht : TR ι N tm a) {op : UnOp} {x : Operand} (ho : okO x = true) (h : aop (.un op x) tm H = some (av, H')) :
    Good P (do pure (.value (← Op.unary op (a.eval x)))) ι H w av H' := by
  simp only [aop] at h
  have hx := ev_vr ht ho
  split at h
  · rename_i k n e
    rw [e] at hx; rw [vr_int hx]; cases h
    exact Good.pure (v := .int k (k.wrap (0 - n))) (by simp [Op.unary, Op.intArith]) (.int _ _) s
  · rename_i b e
    rw [e] at hx; rw [vr_bool hx]; cases h
    exact Good.pure (v := .bool !b) (by simp [Op.unary]) (.bool _) s
  · cases h

theorem good_conv (s : Sim ι H w) (ht : TR ι N tm a) {src dst : TypeId} {k : IntKind} {d : TypeDesc} (hs : P.underlying src = some d) (hd : P.underlying dst = some (.int k)) {x : Operand} (ho : okO x = true)
    (h : aop (.conv k x) tm H = some (av, H')) : Good P (do pure (.value (← convert src dst (a.eval x)))) ι H w av H' := by
  simp only [aop] at h
  have hx := ev_vr ht ho
  split at h
  · rename_i k' n e
    rw [e] at hx; rw [vr_int hx]; cases h
    exact Good.pure (v := .int k (k.wrap n)) (by simp [convert, run_underlying hs, run_underlying hd, Conv.intToInt]) (.int _ _) s
  · cases h

theorem good_extract (s : Sim ι H w) (ht : TR ι N tm a) {x : Operand} {i : Nat} (ho : okO x = true) (h : aop (.extract x i) tm H = some (av, H')) :
    Good P (do pure (.value (← Instr.extract (a.eval x) i))) ι H w av H' := by
  simp only [aop] at h
  have hx := ev_vr ht ho
  split at h
  · rename_i vs e
    rw [e] at hx
    generalize a.eval x = u at *
    cases hx with
    | tup _ cs' hs hv =>
      cases hi : vs[i]? with
      | none => simp [hi] at h
      | some v =>
        simp [hi] at h
        obtain ⟨rfl, rfl⟩ := h
        have hlt : i < vs.size := (Array.getElem?_eq_some_iff.1 hi).1
        have hi' : cs'[i]? = some cs'[i] := by simp [hs ▸ hlt]
        exact Good.pure (v := cs'[i]'(hs ▸ hlt)) (by simp [Instr.extract, hi']) (hv i _ _ hi hi') s
  · cases h

theorem good_field (s : Sim ι H w) (ht : TR ι N tm a) {x : Operand} {t : TypeId} {fs : Array Field} (hu : P.underlying t = some (.struct fs)) {f : Nat} {fd : Field} (hf : fs[f]? = some fd) {n : Nat} {b : Bool}
    (hsz : szT P fd.type = some (n, b)) (ho : okO x = true) (h : aop (.field fd.offset n b x) tm H = some (av, H')) :
    Good P (do pure (.value (← Instr.field t (a.eval x) f))) ι H w av H' := by
  simp only [aop] at h
  have hx := ev_vr ht ho
  split at h
  · rename_i cs e
    rw [e] at hx
    generalize a.eval x = u at *
    cases hx with
    | agg _ cs' hs hv =>
      split at h
      · rename_i hle
        cases hm : mkv b ((cs.toList.drop fd.offset).take n) with
        | none => simp [hm] at h
        | some v =>
          simp [hm] at h
          obtain ⟨rfl, rfl⟩ := h
          have hr : VRs ι cs.toList cs'.toList := VR.cells (.agg _ _ hs hv)
          obtain ⟨v', hm', hvv⟩ := VR.of_mkv ((hr.drop fd.offset).take n) hm
          exact Good.pure (v := v') (by simp [Instr.field, run_underlying hu, hf, asAgg, run_part_mkv hsz (by omega) hm']) hvv s
      · cases h
  · cases h

theorem good_nilchk (s : Sim ι H w) (ht : TR ι N tm a) {o : Oper} {x : Operand} (hop : o.op = .nilCheck x) (ho : okO x = true) (h : aop (.nilchk x) tm H = some (av, H')) :
    Good P (execOp a.eval o) ι H w av H' := by
  simp only [aop] at h
  have hx := ev_vr ht ho
  split at h
  · rename_i ad e
    rw [e] at hx; cases h
    obtain ⟨b, off, L, rfl, hv, hL⟩ := hx.ptr_inv
    exact Good.pure (v := .pointer (some (L.base.add off))) (by simp [execOp, hop, hv]) (.ptr b off L hL) s
  · rename_i f x1 x2 e
    rw [e] at hx; cases h
    generalize hu : a.eval x = u at *
    cases hx with
    | fn _ _ cs' hs hv => exact Good.pure (v := .func (.func f) #[] cs') (by simp [execOp, hop, hu]) (.fn _ _ _ hs hv) s
  · cases h

theorem good_faddr (s : Sim ι H w) (ht : TR ι N tm a) {x : Operand} {t : TypeId} {fs : Array Field} (hu : P.underlying t = some (.struct fs)) {f : Nat} {fd : Field} (hf : fs[f]? = some fd) {i : TypeInfo}
    (hi : P.info? fd.type = some i) (hsz : i.size ≠ 0) (ho : okO x = true) (h : aop (.faddr fd.offset x) tm H = some (av, H')) :
    Good P (do pure (.value (← Instr.fieldAt t (a.eval x) f))) ι H w av H' := by
  simp only [aop] at h
  have hx := ev_vr ht ho
  split at h
  · rename_i ad e
    rw [e] at hx; cases h
    obtain ⟨b, off, L, rfl, hv, hL⟩ := hx.ptr_inv
    refine Good.pure (v := .pointer (some (L.base.add (off + fd.offset)))) ?_ (.ptr b _ L hL) s
    simp [Instr.fieldAt, run_underlying hu, hf, hv, Instr.sureAddr, fieldPlace, sizeOf, typeInfo, hi, hsz, add_add]
  · cases h

theorem good_idxs (s : Sim ι H w) (ht : TR ι N tm a) {x ix : Operand} {t e : TypeId} (hu : P.underlying t = some (.slice e)) {i : TypeInfo} (hi : P.info? e = some i)
    (ho : okL [x, ix] = true) (h : aop (.idxs i.size x ix) tm H = some (av, H')) : Good P (do pure (.value (← Instr.indexAt t (a.eval x) (a.eval ix)))) ι H w av H' := by
  simp only [okL, List.all_cons, List.all_nil, Bool.and_true, Bool.and_eq_true] at ho
  simp only [aop] at h
  have hx := ev_vr ht ho.1
  have hy := ev_vr ht ho.2
  split at h
  · rename_i ad n m k j e1 e2
    rw [e1] at hx; rw [e2] at hy
    split at h
    · rename_i hj
      cases h
      obtain ⟨b, off, c, L, A, rfl, rfl, hv, hL, hn, hc⟩ := hx.slice_inv
      have hc0 : c ≠ 0 := by omega
      obtain ⟨hA, _⟩ := hc.resolve_left hc0
      subst hA
      refine Good.pure (v := .pointer (some (L.base.add (off + j.toNat * i.size)))) ?_ (.ptr b _ L hL) s
      simp [Instr.indexAt, run_underlying hu, hv, vr_int hy, asIntOf, hj.1, hj.2, sizeOf, typeInfo, hi, add_add]
    · cases h
  · cases h

theorem good_idxa (s : Sim ι H w) (ht : TR ι N tm a) {x ix : Operand} {t e : TypeId} {len : Nat} (hu : P.underlying t = some (.array len e)) {i : TypeInfo} (hi : P.info? e = some i)
    (ho : okL [x, ix] = true) (h : aop (.idxa len i.size x ix) tm H = some (av, H')) : Good P (do pure (.value (← Instr.indexAt t (a.eval x) (a.eval ix)))) ι H w av H' := by
  simp only [okL, List.all_cons, List.all_nil, Bool.and_true, Bool.and_eq_true] at ho
  simp only [aop] at h
  have hx := ev_vr ht ho.1
  have hy := ev_vr ht ho.2
  split at h
  · rename_i ad k j e1 e2
    rw [e1] at hx; rw [e2] at hy
    split at h
    · rename_i hj
      cases h
      obtain ⟨b, off, L, rfl, hv, hL⟩ := hx.ptr_inv
      refine Good.pure (v := .pointer (some (L.base.add (off + j.toNat * i.size)))) ?_ (.ptr b _ L hL) s
      simp [Instr.indexAt, run_underlying hu, hv, vr_int hy, asIntOf, Instr.sureAddr, hj.1, hj.2, sizeOf, typeInfo, hi, add_add]
    · cases h
  · cases h

theorem good_idx (s : Sim ι H w) (ht : TR ι N tm a) {x ix : Operand} {t e : TypeId} {len n : Nat} {b : Bool} (hu : P.underlying t = some (.array len e)) (hsz : szT P e = some (n, b))
    (ho : okL [x, ix] = true) (h : aop (.idx len n b x ix) tm H = some (av, H')) : Good P (do pure (.value (← Instr.index t (a.eval x) (a.eval ix)))) ι H w av H' := by
  simp only [okL, List.all_cons, List.all_nil, Bool.and_true, Bool.and_eq_true] at ho
  simp only [aop] at h
  have hx := ev_vr ht ho.1
  have hy := ev_vr ht ho.2
  split at h
  · rename_i cs k j e1 e2
    rw [e1] at hx; rw [e2] at hy
    split at h
    · rename_i hj
      obtain ⟨i, hi, hisz, _, _⟩ := szT_some hsz
      rw [vr_int hy]
      generalize a.eval x = u at *
      cases hx with
      | agg _ cs' hs hv =>
        cases hm : mkv b ((cs.toList.drop (j.toNat * n)).take n) with
        | none => simp [hm] at h
        | some v =>
          simp [hm] at h
          obtain ⟨rfl, rfl⟩ := h
          have hr : VRs ι cs.toList cs'.toList := VR.cells (.agg _ _ hs hv)
          obtain ⟨v', hm', hvv⟩ := VR.of_mkv ((hr.drop (j.toNat * n)).take n) hm
          refine Good.pure (v := v') ?_ hvv s
          simp [Instr.index, run_underlying hu, asIntOf, hj.1, hj.2.1, sizeOf, typeInfo, hi, hisz, run_part_mkv hsz (by have := hj.2.2; omega) hm']
    · cases h
  · cases h

theorem good_idxstr (s : Sim ι H w) (ht : TR ι N tm a) {x ix : Operand} {t : TypeId} (hu : P.underlying t = some .string)
    (ho : okL [x, ix] = true) (h : aop (.idxstr x ix) tm H = some (av, H')) : Good P (do pure (.value (← Instr.index t (a.eval x) (a.eval ix)))) ι H w av H' := by
  simp only [okL, List.all_cons, List.all_nil, Bool.and_true, Bool.and_eq_true] at ho
  simp only [aop] at h
  have hx := ev_vr ht ho.1
  have hy := ev_vr ht ho.2
  split at h
  · rename_i cs k j e1 e2
    rw [e1] at hx; rw [e2] at hy
    split at h
    · rename_i hj
      rw [vr_int hy, vr_str hx]
      cases hb : cs[j.toNat]? with
      | none => simp [hb] at h
      | some v =>
        simp [hb] at h
        obtain ⟨rfl, rfl⟩ := h
        exact Good.pure (v := .int .u8 v.toNat) (by simp [Instr.index, run_underlying hu, asIntOf, hj, hb]) (.int _ _) s
    · cases h
  · cases h

theorem good_len (s : Sim ι H w) (ht : TR ι N tm a) {x : Operand} {t ty e : TypeId} (hu : P.underlying t = some (.slice e))
    (ho : okO x = true) (h : aop (.len x) tm H = some (av, H')) : Good P (do pure (.value (← Builtin.len_ #[t] ty #[a.eval x]))) ι H w av H' := by
  simp only [aop] at h
  have hx := ev_vr ht ho
  split at h
  · rename_i ad n m e
    rw [e] at hx; cases h
    cases ad with
    | none => obtain ⟨h1, h2, _⟩ := hx.snil_inv; subst h2; rw [h1]; exact Good.pure (v := .int .i64 0) (by simp [Builtin.len_, run_underlying hu, goInt]) (.int _ _) s
    | some ad =>
      obtain ⟨b, off, c, L, A, rfl, rfl, hv, hL, hn, hc⟩ := hx.slice_inv
      rw [hv]
      exact Good.pure (v := .int .i64 m) (by simp [Builtin.len_, run_underlying hu, goInt]) (.int _ _) s
  · cases h
theorem good_lens (s : Sim ι H w) (ht : TR ι N tm a) {x : Operand} {t ty : TypeId} (hu : P.underlying t = some .string)
    (ho : okO x = true) (h : aop (.lens x) tm H = some (av, H')) : Good P (do pure (.value (← Builtin.len_ #[t] ty #[a.eval x]))) ι H w av H' := by
  simp only [aop] at h
  have hx := ev_vr ht ho
  split at h
  · rename_i str e
    rw [e] at hx; cases h
    rw [vr_str hx]
    exact Good.pure (v := .int .i64 str.size) (by simp [Builtin.len_, run_underlying hu, goInt]) (.int _ _) s
  · cases h

end
end Go.Ab

/- The abstract machine, part 8: the model follows each operation but calls, the rest. Own work. -/
namespace Go.Ab
open Go

section
variable {P : Program} {ι : Emb} {H H' : Hp} {w : World} {N : Nat} {tm : Tm} {a : Act} {av : Value}

theorem evs_vr (ht : TR ι N tm a) : ∀ (xs : List Operand), okL xs = true → VRs ι (xs.map (ev tm)) (xs.map a.eval)
  | [], _ => VRs.nil
  | x :: xs, h => by
    simp only [okL, List.all_cons, Bool.and_eq_true] at h
    exact VRs.cons (ev_vr ht h.1) (evs_vr ht xs h.2)

theorem good_mkfn (s : Sim ι H w) (ht : TR ι N tm a) {fn : Fn} {first caps : Array Operand} (ho : first.size = 0 ∧ okL caps.toList = true) (h : aop (.mkfn fn caps.toList) tm H = some (av, H')) :
    Good P (do pure (.value (← Instr.makeFunc fn (first.map a.eval) (caps.map a.eval)))) ι H w av H' := by
  simp only [aop] at h
  cases h
  have hf : first = #[] := Array.eq_empty_of_size_eq_zero ho.1
  have hc : caps.map a.eval = (caps.toList.map a.eval).toArray := by apply Array.ext'; simp
  refine Good.pure (v := .func fn #[] (caps.toList.map a.eval).toArray) (by rw [hf, hc]; simp [Instr.makeFunc]) ?_ s
  have hr := evs_vr ht caps.toList ho.2
  exact .fn _ _ _ (by simp) fun j v v' p q => hr.2 j v v' (by simpa using p) (by simpa using q)

theorem good_iface (s : Sim ι H w) (ht : TR ι N tm a) {t : TypeId} {x : Operand} (ho : okO x = true) (hc : P.concrete t = true) (h : aop (.iface t x) tm H = some (av, H')) :
    Good P (do pure (.value (← Instr.makeInterface t (a.eval x)))) ι H w av H' := by
  simp only [aop] at h
  cases h
  exact Good.pure (v := .iface t (a.eval x)) (by simp [run_makeInterface w t (a.eval x) hc]) (.ifc _ _ _ (ev_vr ht ho)) s

theorem parts_vr (ht : TR ι N tm a) {ps : List (Nat × Nat × Operand)} (ho : okP ps = true) : ∀ (j : Nat) (p p' : Nat × Nat × Value),
    (ps.map fun p => (p.1, p.2.1, ev tm p.2.2))[j]? = some p → (ps.map fun p => (p.1, p.2.1, a.eval p.2.2))[j]? = some p' → p.1 = p'.1 ∧ p.2.1 = p'.2.1 ∧ VR ι p.2.2 p'.2.2 := by
  intro j p p' h h'
  simp only [List.getElem?_map] at h h'
  cases hq : ps[j]? with
  | none => simp [hq] at h
  | some q =>
    simp [hq] at h h'
    subst h; subst h'
    exact ⟨rfl, rfl, ev_vr ht (List.all_eq_true.1 ho q (List.mem_of_getElem? hq))⟩

theorem run_zero {t : TypeId} {i : TypeInfo} {z : Value} (hi : P.info? t = some i) (hz : i.zero = some z) (w : World) : (zeroValue t).run P w = .ok z w := by
  simp [zeroValue, typeInfo, hi, hz]

theorem run_places (w : World) : ∀ (fs : List Field) (l : List (Nat × Nat)), fs.mapM (fun f => (P.info? f.type).map fun i => (f.offset, i.size)) = some l →
    (fs.mapM fun f => do pure (f.offset, ← sizeOf f.type) : Sem _).run P w = .ok l w
  | [], l, h => by simp at h; subst h; simp
  | f :: fs, l, h => by
    simp only [List.mapM_cons, Option.bind_eq_bind, Option.pure_def, Option.bind_eq_some_iff] at h
    obtain ⟨e, he, r, hr, h3⟩ := h
    cases h3
    obtain ⟨i, hi, rfl⟩ := Option.map_eq_some_iff.1 he
    have hsz : (sizeOf f.type).run P w = .ok i.size w := by simp [sizeOf, typeInfo, hi]
    simp only [List.mapM_cons, Sem.run_bind, hsz, Result.andThen_ok, Sem.run_pure, run_places w fs r hr]

theorem mapM_ev {pl : Nat → Option (Nat × Nat)} (f : Operand → Value) : ∀ (ps : List (Nat × Operand)) (l : List (Nat × Nat × Operand)),
    ps.mapM (fun p => (pl p.1).map fun q => (q.1, q.2, p.2)) = some l →
    (ps.map fun p => (p.1, f p.2)).mapM (fun p => (pl p.1).map fun q => (q.1, q.2, p.2)) = some (l.map fun p => (p.1, p.2.1, f p.2.2))
  | [], l, h => by simp at h; subst h; simp
  | p :: ps, l, h => by
    simp only [List.mapM_cons, Option.bind_eq_bind, Option.pure_def, Option.bind_eq_some_iff] at h
    obtain ⟨e, he, r, hr, h3⟩ := h
    cases h3
    obtain ⟨q, hq, rfl⟩ := Option.map_eq_some_iff.1 he
    simp [hq, mapM_ev f ps r hr]

theorem good_build (s : Sim ι H w) (ht : TR ι N tm a) {t : TypeId} {z : List Value} {pl : List (Nat × Nat)} {ps : Array (Nat × Operand)} {l : List (Nat × Nat × Operand)}
    (hz : zeroT P t = some z) (hpl : places P t = some pl) (hl : ps.toList.mapM (fun p => (pl[p.1]?).map fun q => (q.1, q.2, p.2)) = some l) (ho : okP l = true)
    (h : aop (.build z l) tm H = some (av, H')) : Good P (do pure (.value (← Instr.build t (ps.map fun (i, x) => (i, a.eval x))))) ι H w av H' := by
  simp only [aop] at h
  cases hb : bfill z (l.map fun p => (p.1, p.2.1, ev tm p.2.2)) with
  | none => simp [hb] at h
  | some cs =>
    simp [hb] at h
    obtain ⟨rfl, rfl⟩ := h
    obtain ⟨i, zv, hi, hzz, hzc, hok, hzs⟩ := zeroT_some hz
    obtain ⟨cs', hb', hr⟩ := bfill_vr _ (l.map fun p => (p.1, p.2.1, a.eval p.2.2)) (by simp) (parts_vr ht ho) z z cs (okz_vrs hok) hb
    have hm := mapM_ev (pl := fun j => pl[j]?) a.eval ps.toList l hl
    have hfill := fill_run (fun j => pl[j]?) _ _ hm zv.cells cs' (by rw [hzc]; exact hb')
    refine Good.pure (v := .agg cs'.toArray) ?_ (VR.of_agg hr) s
    have hps : (ps.map fun (x : Nat × Operand) => (x.1, a.eval x.2)).toList = ps.toList.map fun p => (p.1, a.eval p.2) := by simp
    unfold places at hpl
    split at hpl
    · rename_i fs hu
      have hrp := run_places (P := P) w fs.toList pl hpl
      have hrp' : (fs.mapM fun f => do pure (f.offset, ← sizeOf f.type) : Sem _).run P w = .ok pl.toArray w := by
        have : fs = fs.toList.toArray := by simp
        rw [this, List.mapM_toArray, Sem.run_map, hrp]; rfl
      have hfun : (fun (j : Nat) => pl.toArray[j]?) = (fun (j : Nat) => pl[j]?) := by funext j; simp
      simp only [Sem.run_bind, Instr.build, run_zero hi hzz, Result.andThen_ok, run_underlying hu, hrp', hfun, hps, hfill, Sem.run_pure]
    · rename_i n e hu
      cases he : P.info? e with
      | none => simp [he] at hpl
      | some ie =>
        simp [he] at hpl
        subst hpl
        have hfun : ∀ (q : List (Nat × Value)) (k : List (Nat × Nat × Value)), q.mapM (fun p => (((List.range n).map fun j => (j * ie.size, ie.size))[p.1]?).map fun q => (q.1, q.2, p.2)) = some k →
            q.mapM (fun p => ((some (p.1 * ie.size, ie.size)).map fun q => (q.1, q.2, p.2))) = some k := by
          intro q
          induction q with
          | nil => intro k h; simpa using h
          | cons p q ih =>
            intro k h
            simp only [List.mapM_cons, Option.bind_eq_bind, Option.pure_def, Option.bind_eq_some_iff] at h ⊢
            obtain ⟨e1, he1, r, hr1, h3⟩ := h
            refine ⟨e1, ?_, r, ih r hr1, h3⟩
            obtain ⟨q1, hq1, rfl⟩ := Option.map_eq_some_iff.1 he1
            by_cases hlt : p.1 < n
            · simp [hlt] at hq1; subst hq1; rfl
            · simp [hlt] at hq1
        have hfill2 := fill_run (fun j => some (j * ie.size, ie.size)) _ _ (hfun _ _ hm) zv.cells cs' (by rw [hzc]; exact hb')
        simp only [Sem.run_bind, Instr.build, run_zero hi hzz, Result.andThen_ok, run_underlying hu, sizeOf, typeInfo, run_program, he, Sem.run_pure, hps, hfill2]
    · cases hpl

theorem asNat_run {lo hi d : Nat} {v : Option Value} {n : Nat} (h : asNat lo hi v d = some n) {v' : Option Value} (hv : ∀ u, v = some u → ∃ u', v' = some u' ∧ VR ι u u') (hn : v = none → v' = none) :
    (v = none ∧ v' = none ∧ n = d ∧ lo ≤ d ∧ d ≤ hi) ∨ ∃ k j, v' = some (.int k j) ∧ (lo : Int) ≤ j ∧ j ≤ hi ∧ n = j.toNat := by
  cases v with
  | none =>
    simp only [asNat] at h
    split at h
    · rename_i hc; cases h; exact .inl ⟨rfl, hn rfl, rfl, hc.1, hc.2⟩
    · cases h
  | some u =>
    cases u <;> simp only [asNat] at h <;> first | (cases h; done) | skip
    rename_i k j
    split at h
    · rename_i hc
      cases h
      obtain ⟨u', hu', hvr⟩ := hv _ rfl
      rw [vr_int hvr] at hu'
      exact .inr ⟨k, j, hu', hc.1, hc.2, rfl⟩
    · cases h

theorem sliceBound_ok (k : IntKind) (j : Int) (y : Nat) (c : BoundsCode) (h0 : 0 ≤ j) (h1 : j ≤ y) (w : World) : (Instr.sliceBound (.int k j) y c).run P w = .ok j.toNat w := by
  simp [Instr.sliceBound, asIntOf, h0, h1]

theorem sliceBounds_run {n c : Nat} (hnc : n ≤ c) {lo hi : Option Value} {l h : Nat} (hh : asNat 0 n hi n = some h) (hl : asNat 0 h lo 0 = some l) {lo' hi' : Option Value}
    (vlo : ∀ u, lo = some u → ∃ u', lo' = some u' ∧ VR ι u u') (nlo : lo = none → lo' = none) (vhi : ∀ u, hi = some u → ∃ u', hi' = some u' ∧ VR ι u u') (nhi : hi = none → hi' = none) (w : World) :
    (Instr.sliceBounds true n c lo' hi' none).run P w = .ok (l, h, c) w ∧ l ≤ h ∧ h ≤ n := by
  have e1 := asNat_run hh vhi nhi
  have e2 := asNat_run hl vlo nlo
  rcases e1 with ⟨_, rfl, rfl, _, _⟩ | ⟨k1, j1, rfl, ha1, hb1, rfl⟩
  · rcases e2 with ⟨_, rfl, rfl, _, _⟩ | ⟨k2, j2, rfl, ha2, hb2, rfl⟩
    · exact ⟨by simp [Instr.sliceBounds], by omega, by omega⟩
    · exact ⟨by simp [Instr.sliceBounds, sliceBound_ok k2 j2 _ _ (by omega) hb2], by omega, by omega⟩
  · have hb1' : j1 ≤ (c : Int) := by omega
    rcases e2 with ⟨_, rfl, rfl, _, _⟩ | ⟨k2, j2, rfl, ha2, hb2, rfl⟩
    · exact ⟨by simp [Instr.sliceBounds, sliceBound_ok k1 j1 _ _ (by omega) hb1'], by omega, by omega⟩
    · exact ⟨by simp [Instr.sliceBounds, sliceBound_ok k1 j1 _ _ (by omega) hb1', sliceBound_ok k2 j2 _ _ (by omega) hb2], by omega, by omega⟩

theorem good_slice (s : Sim ι H w) (ht : TR ι N tm a) {t e : TypeId} (hu : P.underlying t = some (.slice e)) {i : TypeInfo} (hi : P.info? e = some i) {x : Operand} {lo hi' : Option Operand}
    (ho : okO x = true) (hol : okL lo.toList = true) (hoh : okL hi'.toList = true) (h : aop (.slice i.size x lo hi') tm H = some (av, H')) :
    Good P (do pure (.value (← Instr.sliceAt t (a.eval x) (lo.map a.eval) (hi'.map a.eval) none))) ι H w av H' := by
  simp only [aop] at h
  have hx := ev_vr ht ho
  have vopt : ∀ o : Option Operand, okL o.toList = true → (∀ u, o.map (ev tm) = some u → ∃ u', o.map a.eval = some u' ∧ VR ι u u') ∧ (o.map (ev tm) = none → o.map a.eval = none) := by
    intro o hok
    cases o with
    | none => exact ⟨fun u h => by simp at h, fun _ => rfl⟩
    | some y =>
      simp [okL] at hok
      exact ⟨fun u h => by simp at h; subst h; exact ⟨_, rfl, ev_vr ht hok⟩, fun h => by simp at h⟩
  obtain ⟨vl, nl⟩ := vopt lo hol
  obtain ⟨vh, nh⟩ := vopt hi' hoh
  cases hs : aslice H i.size (ev tm x) (lo.map (ev tm)) (hi'.map (ev tm)) with
  | none => simp [hs] at h
  | some v =>
    simp [hs] at h
    obtain ⟨rfl, rfl⟩ := h
    unfold aslice at hs
    split at hs
    · rename_i hv
      rw [hv] at hx
      simp only [Option.bind_eq_bind, Option.bind_eq_some_iff] at hs
      obtain ⟨h, hh, l, hl, hs⟩ := hs
      cases hs
      obtain ⟨hrun, hle, hle2⟩ := sliceBounds_run (P := P) (Nat.le_refl 0) hh hl vl nl vh nh w
      obtain ⟨hx', _, _⟩ := hx.snil_inv
      have : h = 0 := by omega
      subst this
      have : l = 0 := by omega
      subst this
      refine Good.pure (v := .slice none 0 0) ?_ .snil s
      simp [Instr.sliceAt, run_underlying hu, Instr.slice, hx', hrun, sizeOf, typeInfo, hi]
    · rename_i ad n m hv
      rw [hv] at hx
      split at hs
      · rename_i hnm
        obtain ⟨rfl, hesz⟩ := hnm
        simp only [Option.bind_eq_bind, Option.bind_eq_some_iff] at hs
        obtain ⟨h, hh, l, hl, hs⟩ := hs
        cases hs
        obtain ⟨b, off, c, L, A, rfl, _, hx', hL, hn, hc⟩ := hx.slice_inv
        obtain ⟨hrun, hle, hle2⟩ := sliceBounds_run (P := P) hn hh hl vl nl vh nh w
        refine Good.pure (v := .slice (some (if c = l then A else A.add (l * i.size))) (h - l) (c - l)) ?_ ?_ s
        · simp only [Sem.run_bind, Instr.sliceAt, run_underlying hu, Instr.slice, hx', hrun, sizeOf, typeInfo, hi, run_program, Result.andThen_ok, Sem.run_pure]
          congr 3
          split <;> rfl
        · refine .sl b _ _ (c - l) L _ hL (by omega) ?_
          by_cases hcl : c = l
          · left; omega
          · right
            have hc0 : c ≠ 0 := by omega
            obtain ⟨hA, hext⟩ := hc.resolve_left hc0
            rw [if_neg hcl, hA, add_add]
            have hz := s.esz hesz hL
            rw [hz] at hext ⊢
            refine ⟨rfl, ?_⟩
            have : l * i.size + (c - l) * i.size = c * i.size := by rw [← Nat.add_mul]; congr 1; omega
            show off + l * i.size + (c - l) * i.size ≤ L.ext
            omega
      · cases hs
    · cases hs

theorem mm2_run (isMax : Bool) : ∀ (vs vs' : List Value) (v v' u : Value), VR ι v v' → VRs ι vs vs' → mm2 isMax v vs = some u →
    ∃ u', (vs'.foldlM (if isMax then Builtin.max2 else Builtin.min2) v').run P w = .ok u' w ∧ VR ι u u'
  | [], vs', v, v', u, hv, hvs, h => by
    rw [hvs.nil_inv]
    simp [mm2] at h; subst h
    exact ⟨v', by simp, hv⟩
  | y :: vs, vs', v, v', u, hv, hvs, h => by
    obtain ⟨y', r, rfl, hy, hr⟩ := hvs.cons_inv
    cases v <;> first | (simp [mm2] at h; done) | skip
    rename_i k x
    cases y <;> first | (simp [mm2] at h; done) | skip
    rename_i k' y
    simp only [mm2] at h
    split at h
    · rename_i hk
      subst hk
      rw [vr_int hv, vr_int hy]
      obtain ⟨u', hu', hvr⟩ := mm2_run isMax vs r _ _ u (.int k _) hr h
      refine ⟨u', ?_, hvr⟩
      rw [List.foldlM_cons, Sem.run_bind]
      cases isMax
      · simp only [Bool.false_eq_true, if_false] at hu' ⊢
        simpa [Builtin.min2] using hu'
      · simp only [if_true] at hu' ⊢
        simpa [Builtin.max2] using hu'
    · cases h

theorem good_mm (s : Sim ι H w) (ht : TR ι N tm a) {isMax : Bool} {xs : Array Operand} (ho : okL xs.toList = true) {tys : Array TypeId} {ty : TypeId} (h : aop (.mm isMax xs.toList) tm H = some (av, H')) :
    Good P (do pure (.value (← (if isMax then Builtin.max_ else Builtin.min_) tys ty (xs.map a.eval)))) ι H w av H' := by
  simp only [aop] at h
  have hr := evs_vr ht xs.toList ho
  cases hm : xs.toList.map (ev tm) with
  | nil => simp [hm] at h
  | cons v rest =>
    rw [hm] at h hr
    simp only at h
    obtain ⟨v', rest', hx', hv, hrest⟩ := hr.cons_inv
    cases hmm : mm2 isMax v rest with
    | none => simp [hmm] at h
    | some u =>
      simp [hmm] at h
      obtain ⟨rfl, rfl⟩ := h
      obtain ⟨u', hu', hvr⟩ := mm2_run (P := P) (w := w) isMax rest rest' v v' u hv hrest hmm
      refine Good.pure (v := u') ?_ hvr s
      have hl : (xs.map a.eval).toList = v' :: rest' := by rw [← hx']; simp
      rw [Sem.run_bind]
      cases isMax
      · simp only [Bool.false_eq_true, if_false] at hu' ⊢
        rw [show (Builtin.min_ tys ty (xs.map a.eval)) = rest'.foldlM Builtin.min2 v' by unfold Builtin.min_; rw [hl]]
        rw [hu']; rfl
      · simp only [if_true] at hu' ⊢
        rw [show (Builtin.max_ tys ty (xs.map a.eval)) = rest'.foldlM Builtin.max2 v' by unfold Builtin.max_; rw [hl]]
        rw [hu']; rfl

/-- A new block of the model, whatever number the abstract one has. -/
def NewR (P : Program) (m : Sem Next) (ι : Emb) (w : World) (k : Nat) (v : Value) (b : Blk) : Prop :=
  ∃ sz vs c t v', b = .rw sz vs ∧ m.run P w = .ok (.value v') (w.alloc (.cells c t)) ∧ (∀ (j : Nat) (v : Value), vs[j]? = some v → ∃ v', c[j]? = some v' ∧ VR ι v v') ∧ vs.length ≤ c.size ∧
    ∀ ι' : Emb, ι' k = some ⟨⟨w.heap.size, 0, none⟩, c.size, sz⟩ → VR ι' v v'
theorem NewR.good {m : Sem Next} {v : Value} {b : Blk} (s : Sim ι H w) (h : NewR P m ι w H.length v b) : Good P m ι H w v (H ++ [b]) := by
  obtain ⟨sz, vs, c, t, v', rfl, hr, hc, hl, hv⟩ := h
  obtain ⟨hs, hf⟩ := s.newRow sz vs c t hc hl
  exact ⟨_, _, _, v', hr, .inl rfl, hv _ (Emb.put_same ..), hs, hf⟩
theorem vrs_cells {vs vs' : List Value} (hr : VRs ι vs vs') : (∀ (j : Nat) (v : Value), vs[j]? = some v → ∃ v', vs'.toArray[j]? = some v' ∧ VR ι v v') ∧ vs.length ≤ vs'.toArray.size :=
  ⟨fun j v hv => by obtain ⟨v', h1, h2⟩ := hr.get hv; exact ⟨v', by simpa using h1, h2⟩, by simp [hr.1]⟩
theorem ptr_at {ι' : Emb} {k : Nat} {L : Loc} (h : ι' k = some L) : VR ι' (.pointer (some ⟨k, 0, none⟩)) (.pointer (some L.base)) := by
  have := VR.ptr (ι := ι') k 0 L h
  simpa [Addr.add] using this

theorem new_alloc {e : TypeId} {z : List Value} (hz : zeroT P e = some z) {k : Nat} {v : Value} {b : Blk} (h : anew (.alloc z) tm k = some (v, b)) :
    NewR P (do pure (.value (← Instr.alloc e true (.tuple #[])))) ι w k v b := by
  simp only [anew] at h
  cases h
  obtain ⟨i, zv, hi, hzz, hzc, hok, hzs⟩ := zeroT_some hz
  obtain ⟨h1, h2⟩ := vrs_cells (okz_vrs (ι := ι) hok)
  refine ⟨_, _, _, e, .pointer (some ⟨w.heap.size, 0, none⟩), rfl, ?_, h1, h2, fun ι' h => ptr_at h⟩
  rw [← hzc]
  simp [Instr.alloc, run_zero hi hzz, newVar, newRow]

theorem new_box (ht : TR ι N tm a) {e : TypeId} {x : Operand} (ho : okO x = true) {k : Nat} {v : Value} {b : Blk} (h : anew (.box x) tm k = some (v, b)) :
    NewR P (do pure (.value (← Instr.box e (a.eval x)))) ι w k v b := by
  simp only [anew] at h
  cases h
  obtain ⟨h1, h2⟩ := vrs_cells (ev_vr ht ho).cells
  refine ⟨_, _, _, e, .pointer (some ⟨w.heap.size, 0, none⟩), rfl, ?_, h1, h2, fun ι' h => ptr_at h⟩
  simp [Instr.box, newVar, newRow]

theorem bfill_length : ∀ (ps : List (Nat × Nat × Value)) (cs r : List Value), bfill cs ps = some r → r.length = cs.length
  | [], cs, r, h => by simp [bfill] at h; rw [h]
  | (off, size, v) :: ps, cs, r, h => by
    simp only [bfill] at h
    split at h
    · rename_i hc
      rw [bfill_length ps _ r h, splice_length]
      simp; omega
    · cases h

theorem new_bslice (ht : TR ι N tm a) {t e : TypeId} (hu : P.underlying t = some (.slice e)) {i : TypeInfo} (hi : P.info? e = some i) {z : List Value} (hz : zeroT P e = some z)
    {len : Nat} {ps : Array (Nat × Operand)} (hle : len * i.size ≤ 2 ^ 24) (ho : okL (ps.toList.map (·.2)) = true)
    {k : Nat} {v : Value} {b : Blk} (h : anew (.bslice i.size len (madeCells z.toArray (len * i.size)).toList (ps.toList.map fun p => (p.1 * i.size, i.size, p.2))) tm k = some (v, b)) :
    NewR P (do pure (.value (← Instr.buildSlice t len (ps.map fun (i, x) => (i, a.eval x))))) ι w k v b := by
  simp only [anew] at h
  obtain ⟨i', zv, hi', hzz, hzc, hok, hzs⟩ := zeroT_some hz
  rw [hi] at hi'; cases hi'
  cases hb : bfill (madeCells z.toArray (len * i.size)).toList ((ps.toList.map fun p => (p.1 * i.size, i.size, p.2)).map fun p => (p.1, p.2.1, ev tm p.2.2)) with
  | none => rw [hb] at h; cases h
  | some cs =>
    rw [hb] at h
    cases h
    have hoz : okz (madeCells z.toArray (len * i.size)).toList = true := by
      unfold okz madeCells
      simp only [List.all_eq_true]
      intro v hv
      simp at hv
      obtain ⟨j, hj, rfl⟩ := hv
      by_cases hz0 : z.length = 0
      · rw [List.eq_nil_of_length_eq_zero hz0]; rfl
      · have hlt : j % z.length < z.length := Nat.mod_lt _ (by omega)
        have := List.all_eq_true.1 hok (z[j % z.length]) (List.getElem_mem hlt)
        simpa [hlt] using this
    have hop : okP (ps.toList.map fun p => (p.1 * i.size, i.size, p.2)) = true := by
      unfold okP
      simp only [List.all_map]
      unfold okL at ho
      simpa [List.all_map] using ho
    obtain ⟨cs', hb', hr⟩ := bfill_vr _ ((ps.toList.map fun p => (p.1 * i.size, i.size, p.2)).map fun p => (p.1, p.2.1, a.eval p.2.2)) (by simp) (parts_vr ht hop) _ _ cs (okz_vrs hoz) hb
    have hm : ∀ q : List (Nat × Operand), (q.map fun p => (p.1, a.eval p.2)).mapM (fun p => ((some (p.1 * i.size, i.size)).map fun q => (q.1, q.2, p.2))) = some ((q.map fun p => (p.1 * i.size, i.size, p.2)).map fun p => (p.1, p.2.1, a.eval p.2.2)) := by
      intro q
      induction q with
      | nil => rfl
      | cons p q ih => simp only [List.map_cons, List.mapM_cons, ih]; rfl
    have hfill := fill_run (fun j => some (j * i.size, i.size)) _ _ (hm ps.toList) (madeCells zv.cells (len * i.size)) cs' (by rw [← hb', ← hzc])
    obtain ⟨hn1, hn2⟩ := vrs_cells hr
    have hlen : cs.length = len * i.size := by rw [bfill_length _ _ _ hb]; simp [size_madeCells]
    refine ⟨_, _, _, e, .slice (some ⟨w.heap.size, 0, none⟩) len len, rfl, ?_, hn1, hn2, fun ι' hι => ?_⟩
    · have hps : (ps.map fun (x : Nat × Operand) => (x.1, a.eval x.2)).toList = ps.toList.map fun p => (p.1, a.eval p.2) := by simp
      have h24 : ¬ (16777216 < len * i.size) := by omega
      by_cases h0 : len * i.size = 0
      · simp only [h0] at hfill
        have hm0 : madeCells zv.cells 0 = #[] := by simp [madeCells]
        rw [hm0] at hfill
        have hr0 : Array.map (fun _ : Nat => (default : Value)) (Array.range 0) = #[] := by apply Array.eq_empty_of_size_eq_zero; simp
        simp [hr0, Instr.buildSlice, run_underlying hu, sizeOf, typeInfo, hi, h0, hfill, newRow]
      · have hfill' : Instr.fill (fun j => some (j * i.size, i.size)) ((Array.range (len * i.size)).map (zv.cells[· % zv.cells.size]!)) (ps.toList.map fun p => (p.1, a.eval p.2)) = some cs'.toArray := hfill
        simp [Instr.buildSlice, run_underlying hu, sizeOf, typeInfo, hi, h0, h24, run_zero hi hzz, hfill', newRow]
    · refine .sl _ 0 len len _ _ hι (Nat.le_refl _) (.inr ⟨by simp [Addr.add], ?_⟩)
      show 0 + len * i.size ≤ cs'.toArray.size
      rw [List.size_toArray, ← hr.1, hlen]; omega


theorem new_mkslice (ht : TR ι N tm a) {t e : TypeId} (hu : P.underlying t = some (.slice e)) {i : TypeInfo} (hi : P.info? e = some i) {z : List Value} (hz : zeroT P e = some z)
    {l c : Operand} (ho : okL [l, c] = true) {k : Nat} {v : Value} {b : Blk} (h : anew (.mkslice i.size i.bytes z l c) tm k = some (v, b)) :
    NewR P (do pure (.value (← Instr.makeSlice t (a.eval l) (a.eval c)))) ι w k v b := by
  simp only [okL, List.all_cons, List.all_nil, Bool.and_true, Bool.and_eq_true] at ho
  simp only [anew] at h
  have hx := ev_vr ht ho.1
  have hy := ev_vr ht ho.2
  obtain ⟨i', zv, hi', hzz, hzc, hok, hzs⟩ := zeroT_some hz
  rw [hi] at hi'; cases hi'
  split at h
  · rename_i k1 l1 k2 c1 e1 e2
    rw [e1] at hx; rw [e2] at hy
    split at h
    · rename_i hc
      obtain ⟨h0, hlc, hb, h63⟩ := hc
      cases h
      have hrun := run_make (P := P) w t e i zv hu hi hzz k1 k2 l1 c1 h0 hlc hb h63
      have hle : l1.toNat * i.size ≤ c1.toNat * i.size := Nat.mul_le_mul_right _ (by omega)
      have hcell : ∀ (n j : Nat), j < n → (madeCells zv.cells n)[j]? = some (zv.cells[j % zv.cells.size]!) := by
        intro n j hj; simp [madeCells, hj]
      have hokz : ∀ j, okC (zv.cells[j % zv.cells.size]!) = true := by
        intro j
        by_cases hz0 : zv.cells.size = 0
        · have : zv.cells = #[] := Array.eq_empty_of_size_eq_zero hz0
          rw [this]; rfl
        · have hlt : j % zv.cells.size < zv.cells.size := Nat.mod_lt _ (by omega)
          have := List.all_eq_true.1 hok (zv.cells[j % zv.cells.size]) (by rw [← hzc]; simp)
          simpa [hlt] using this
      have hn1 : ∀ (j : Nat) (v : Value), (madeCells z.toArray (l1.toNat * i.size)).toList[j]? = some v → ∃ v', (madeCells zv.cells (c1.toNat * i.size))[j]? = some v' ∧ VR ι v v' := (fun j v hv => by
        have hzz' : z.toArray = zv.cells := by rw [← hzc]
        rw [hzz'] at hv
        have hj : j < l1.toNat * i.size := by
          rcases Nat.lt_or_ge j (l1.toNat * i.size) with h | h
          · exact h
          · rw [List.getElem?_eq_none (by simpa [size_madeCells] using h)] at hv; cases hv
        have h1 := hcell _ j hj
        rw [← Array.getElem?_toList, hv] at h1
        cases h1
        exact ⟨_, hcell _ j (by omega), okC_vr (hokz j)⟩)
      refine ⟨_, _, _, e, .slice (some ⟨w.heap.size, 0, none⟩) l1.toNat c1.toNat, rfl, ?_, hn1, by simp [size_madeCells]; exact hle, fun ι' hι => ?_⟩
      · rw [vr_int hx, vr_int hy, Sem.run_bind, hrun]; rfl
      · refine .sl _ 0 _ c1.toNat _ _ hι (by omega) (.inr ⟨by simp [Addr.add], ?_⟩)
        show 0 + c1.toNat * i.size ≤ (madeCells zv.cells (c1.toNat * i.size)).size
        rw [size_madeCells]; omega
    · cases h
  · cases h

theorem good_load (s : Sim ι H w) (ht : TR ι N tm a) {t : TypeId} {n : Nat} {b : Bool} (hsz : szT P t = some (n, b)) {x : Operand} (ho : okO x = true) (h : aop (.load n b x) tm H = some (av, H')) :
    Good P (do pure (.value (← Instr.loadAt t (a.eval x)))) ι H w av H' := by
  simp only [aop] at h
  have hx := ev_vr ht ho
  obtain ⟨i, hi, hin, hagg, h1⟩ := szT_some hsz
  split at h
  · rename_i ad e
    rw [e] at hx
    obtain ⟨bl, off, L, rfl, hv, hL⟩ := hx.ptr_inv
    split at h
    · cases hl : H.load ⟨bl, off, none⟩ n with
      | none => rw [hl] at h; cases h
      | some cs =>
        rw [hl] at h
        cases hm : mkv b cs with
        | none => rw [Option.bind_some, hm] at h; cases h
        | some v =>
          rw [Option.bind_some, hm] at h
          cases h
          obtain ⟨cs', hr, hlen, hcell⟩ := s.load hl hL
          obtain ⟨v', hm', hvv⟩ := VR.of_mkv hr hm
          refine Good.pure (v := v') ?_ hvv s
          have hrun := run_loadCells_list (P := P) w (L.base.add off) cs' hcell
          rw [hlen] at hrun
          rw [hv]
          simp only [Instr.loadAt, Instr.sureAddr, loadVar, Sem.run_bind, Sem.run_pure, Result.andThen_ok, hagg]
          cases b with
          | true =>
            simp only [mkv, if_true, Option.some.injEq] at hm'
            subst hm'
            simp [sizeOf, typeInfo, hi, hin, hrun]
          | false =>
            have hn := h1 rfl
            simp only [mkv, Bool.false_eq_true, if_false] at hm' ⊢
            rw [hn] at hlen
            match cs', hlen, hm', hcell with
            | [u], _, hm', hcell =>
              simp at hm'
              subst hm'
              have := hcell 0 u rfl
              rw [add_add, Nat.add_zero] at this
              simp [this]
    · cases h
  · cases h

theorem good_store (s : Sim ι H w) (ht : TR ι N tm a) {t : TypeId} {i : TypeInfo} (hi : P.info? t = some i) {x y : Operand} (ho : okL [x, y] = true) (h : aop (.store i.size x y) tm H = some (av, H')) :
    Good P (do Instr.storeAt t (a.eval x) (a.eval y); pure .skip) ι H w av H' := by
  simp only [okL, List.all_cons, List.all_nil, Bool.and_true, Bool.and_eq_true] at ho
  simp only [aop] at h
  have hx := ev_vr ht ho.1
  have hy := ev_vr ht ho.2
  split at h
  · rename_i ad e
    rw [e] at hx
    obtain ⟨bl, off, L, rfl, hv, hL⟩ := hx.ptr_inv
    split at h
    · rename_i z vs hb
      split at h
      · rename_i hc
        obtain ⟨hsz, hone, hle0⟩ := hc
        have hle : off + i.size ≤ vs.length := hle0
        clear hle0
        cases h
        obtain ⟨L', cur, t', h1, h2, h3, h4, h5, h6⟩ := s.own bl z vs hb
        rw [hL] at h1; cases h1
        have hbase : L.base = ⟨L.base.block, L.base.off, none⟩ := by cases hq : L.base; simp [hq] at h2; simp [h2]
        have hcl := hy.cells
        have hone' : ∀ v ∈ (a.eval y).cells.toList, v.oneCell' = true := hcl.one hone
        have hlen : (a.eval y).cells.toList.length = i.size := by rw [← hcl.1, Array.length_toList, hsz]
        have hst := run_storeCells_at P L.base.block (L.base.off + off) t' (a.eval y).cells.toList 0 cur w h4 (by rw [hlen]; omega) hone'
        simp only [Nat.add_zero] at hst
        obtain ⟨K, vs', hK, hrv, hcv⟩ := s.read (b := bl) (vs := vs) (by simp [Hp.cells, hb, Blk.cells])
        rw [hL] at hK; cases hK
        have hcur : ∀ (j : Nat) (v : Value), vs'[j]? = some v → cur[L.base.off + j]? = some v := by
          intro j v hv
          have := hcv j v hv
          rw [hbase, add_none] at this
          simpa [World.cell?, h4] using this
        have hsp := splice_get hrv hcl off
        obtain ⟨hs, hf⟩ := s.rewrite hb hL h4 (cur.toList.take (L.base.off + off) ++ (a.eval y).cells.toList ++ cur.toList.drop (L.base.off + off + (a.eval y).cells.toList.length)).toArray
          (by simp only [List.size_toArray, List.length_append, List.length_take, List.length_drop, Array.length_toList]; simp at hlen; omega)
          (splice vs off (ev tm y).cells.toList) (by rw [splice_length _ _ _ (by simp; omega)]; exact h6)
          (fun j v hv => by
            obtain ⟨v', h1, h2⟩ := hsp.get hv
            refine ⟨v', ?_, h2⟩
            simp only [List.getElem?_toArray]
            unfold splice at h1
            rw [List.append_assoc] at h1 ⊢
            have hvl : off + i.size ≤ vs'.length := by rw [← hrv.1]; exact hle
            by_cases hj : j < off
            · rw [List.getElem?_append_left (by simp; omega), List.getElem?_take, if_pos hj] at h1
              rw [List.getElem?_append_left (by simp; omega), List.getElem?_take, if_pos (by omega)]
              simpa using hcur j v' h1
            · rw [List.getElem?_append_right (by simp; omega)] at h1
              rw [List.getElem?_append_right (by simp; omega)]
              simp only [List.length_take, Nat.min_eq_left (show off ≤ vs'.length by omega)] at h1
              have hmin : min (L.base.off + off) cur.toList.length = L.base.off + off := by simp; omega
              rw [List.length_take, hmin]
              rw [show L.base.off + j - (L.base.off + off) = j - off by omega]
              by_cases hj2 : j - off < (a.eval y).cells.toList.length
              · rw [List.getElem?_append_left hj2] at h1 ⊢
                exact h1
              · rw [List.getElem?_append_right (by omega)] at h1 ⊢
                rw [List.getElem?_drop] at h1 ⊢
                have := hcur _ v' h1
                rw [← Array.getElem?_toList] at this
                rw [← this]
                congr 1; omega)
        refine ⟨.skip, ι, _, undef, ?_, .inr ⟨rfl, rfl⟩, undef_vr ι, hs, hf⟩
        rw [hv]
        have hsz' : (a.eval y).cells.size = i.size := by simpa using hlen
        simp only [Instr.storeAt, Instr.sureAddr, storeVar, Sem.run_bind, Sem.run_pure, Result.andThen_ok, sizeOf, typeInfo, run_program, hi, hsz', ne_eq, not_true, if_false]
        rw [hbase, add_none, hst]
        simp
      · cases h
    · cases h
  · cases h

theorem good_append (s : Sim ι H w) (ht : TR ι N tm a) {t ty e : TypeId} (hu : P.underlying t = some (.slice e)) {i : TypeInfo} (hi : P.info? e = some i) {z : List Value} (hz : zeroT P e = some z)
    (hsz : 0 < i.size) (hby : 0 < i.bytes) {x y : Operand} (ho : okL [x, y] = true) (h : aop (.append i.size i.bytes x y) tm H = some (av, H')) :
    Good P (do pure (.value (← Builtin.append_ #[t, t] ty #[a.eval x, a.eval y]))) ι H w av H' := by
  simp only [okL, List.all_cons, List.all_nil, Bool.and_true, Bool.and_eq_true] at ho
  simp only [aop] at h
  obtain ⟨i', zv, hi', hzz, hzc, hok, hzs⟩ := zeroT_some hz
  rw [hi] at hi'; cases hi'
  obtain ⟨v, ι', w', hr, hv, hs, hf⟩ := aappend_run (P := P) (ty := ty) s hu hi hzz hzs hsz hby h (ev_vr ht ho.1) (ev_vr ht ho.2)
  exact ⟨.value v, ι', w', v, by rw [Sem.run_bind, hr]; rfl, .inl rfl, hv, hs, hf⟩

end
end Go.Ab

/- The abstract machine, part 8b: cap of nil, appending zeros to nil, clearing a slice. Own work. -/
namespace Go.Ab
open Go
section
variable {P : Program} {ι : Emb} {H H' : Hp} {w : World} {N : Nat} {tm : Tm} {a : Act} {av : Value}

theorem good_capn (s : Sim ι H w) (ht : TR ι N tm a) {x : Operand} {t ty e : TypeId} (hu : P.underlying t = some (.slice e))
    (ho : okO x = true) (h : aop (.capn x) tm H = some (av, H')) : Good P (do pure (.value (← Builtin.cap_ #[t] ty #[a.eval x]))) ι H w av H' := by
  simp only [aop] at h
  have hx := ev_vr ht ho
  split at h
  · rename_i e
    rw [e] at hx; cases h
    obtain ⟨h1, -, -⟩ := hx.snil_inv
    rw [h1]; exact Good.pure (v := .int .i64 0) (by simp [Builtin.cap_, run_underlying hu, goInt]) (.int _ _) s
  · cases h

theorem okC_one {v : Value} (h : okC v = true) : v.oneCell' = true := by
  unfold okC at h
  split at h <;> first | rfl | cases h
theorem zeros_eq (z : Array Value) (n : Nat) : Builtin.zeroCells z n = madeCells z (n * z.size) := rfl
theorem zeros_vr {ι : Emb} {zv : Value} (hok : zv.cells.toList.all okC = true) (m : Nat) : ∀ (j : Nat) (v : Value), (madeCells zv.cells m).toList[j]? = some v → okC v = true := by
  intro j v hv
  have hj : j < m := by
    rcases Nat.lt_or_ge j m with h | h
    · exact h
    · rw [List.getElem?_eq_none (by simpa [size_madeCells] using h)] at hv; cases hv
  have h1 : (madeCells zv.cells m)[j]? = some (zv.cells[j % zv.cells.size]!) := by simp [madeCells, hj]
  rw [← Array.getElem?_toList, hv] at h1
  cases h1
  by_cases hz0 : zv.cells.size = 0
  · have : zv.cells = #[] := Array.eq_empty_of_size_eq_zero hz0
    rw [this]; rfl
  · have hlt : j % zv.cells.size < zv.cells.size := Nat.mod_lt _ (by omega)
    have := List.all_eq_true.1 hok (zv.cells[j % zv.cells.size]) (by simp)
    simpa [hlt] using this
theorem zeros_vrs {ι : Emb} {zv : Value} (hok : zv.cells.toList.all okC = true) (m : Nat) : VRs ι (madeCells zv.cells m).toList (madeCells zv.cells m).toList :=
  ⟨rfl, fun j v v' h1 h2 => by rw [h1] at h2; cases h2; exact okC_vr (zeros_vr (ι := ι) hok m j v h1)⟩

theorem run_append_zero {P : Program} (w : World) (t u ty e : TypeId) (k : IntKind) (i : TypeInfo) (z : Value) (ht : P.underlying t = some (.slice e)) (hu : P.underlying u = some (.int k)) (hi : P.info? e = some i) (hz : i.zero = some z)
    (hzs : z.cells.size = i.size) (n : Nat) (hn : 0 < n) (hsz : 0 < i.size) (h63 : ((n : Nat) : Int) ≤ 9223372036854775807) (hfit : n * i.bytes ≤ 281474976710656) (k' : IntKind) :
    (Builtin.append_ #[t, u] ty #[.slice none 0 0, .int k' n]).run P w =
      .ok (.slice (some ⟨w.heap.size, 0, none⟩) n (grownCap w n 0 e))
        (w.drew.alloc (.cells ((List.toArray ([] : List Value)) ++ (madeCells z.cells (n * i.size)) ++ Builtin.zeroCells z.cells (grownCap w n 0 e - n)) e)) := by
  have hw : IntKind.i64.wrap (n : Int) = n := by
    rw [IntKind.wrap_i64]; omega
  have h1 : ¬ ((n : Int) < 0) := by omega
  have h2 : ¬ ((281474976710656 : Int) < (n : Int) * (i.bytes : Int)) := by
    have : ((n * i.bytes : Nat) : Int) ≤ 281474976710656 := by omega
    rw [Int.natCast_mul] at this; omega
  have h3 : ¬ (n ≤ 0) := by omega
  have h4 : ¬ (n * i.size = 0) := by
    intro h
    rcases Nat.mul_eq_zero.1 h with h | h <;> omega
  have h5 : ¬ (9223372036854775807 < (n : Int)) := by omega
  have hne : n ≠ 0 := by omega
  have hse : i.size ≠ 0 := by omega
  have h6 : ¬ (281474976710656 < Builtin.nextslicecap n 0 * i.bytes) := by rw [nextslicecap_zero (by omega)]; omega
  have ha : (asInt (.int k' (n : Int))).run P w = .ok (n : Int) w := by simp [asInt, asIntOf]
  simp [Builtin.append_, run_underlying ht, run_underlying hu, sizeOf, typeInfo, zeroValue, hi, hz, Builtin.lenOf, ha, hw, h1, h2, h3, h4, h5, h6, hne, hse, Question.forced, Builtin.firstCells, newRow, grownCap, zeros_eq, hzs]

set_option maxHeartbeats 1000000 in
theorem good_appz (s : Sim ι H w) (ht : TR ι N tm a) {t u ty e : TypeId} {k : IntKind} (hut : P.underlying t = some (.slice e)) (huu : P.underlying u = some (.int k)) {i : TypeInfo} (hi : P.info? e = some i) {z : List Value} (hz : zeroT P e = some z)
    (hsz : 0 < i.size) (hby : 0 < i.bytes) {x y : Operand} (ho : okL [x, y] = true) (h : aop (.appz i.size i.bytes z x y) tm H = some (av, H')) :
    Good P (do pure (.value (← Builtin.append_ #[t, u] ty #[a.eval x, a.eval y]))) ι H w av H' := by
  simp only [okL, List.all_cons, List.all_nil, Bool.and_true, Bool.and_eq_true] at ho
  simp only [aop] at h
  obtain ⟨i', zv, hi', hzz, hzc, hok, hzs⟩ := zeroT_some hz
  rw [hi] at hi'; cases hi'
  have hx := ev_vr ht ho.1
  have hy := ev_vr ht ho.2
  split at h
  · rename_i k' n e1 e2
    rw [e1] at hx; rw [e2] at hy
    split at h
    · rename_i hc
      cases h
      obtain ⟨hx1, -, -⟩ := hx.snil_inv
      have hn : n = (n.toNat : Int) := by omega
      have hnb : n.toNat ≤ n.toNat * i.bytes := Nat.le_mul_of_pos_right _ hby
      have hrun := run_append_zero (P := P) w t u ty e k i zv hut huu hi hzz hzs n.toNat (by omega) hsz (by omega) (by omega) k'
      have hge := grownCap_ge w n.toNat 0 e
      rw [vr_int hy, hx1]
      rw [← hn] at hrun
      have hzl : z.toArray = zv.cells := by rw [← hzc]
      rw [hzl]
      have hok' : zv.cells.toList.all okC = true := by rw [hzc]; exact hok
      have hsize : (List.toArray ([] : List Value) ++ (madeCells zv.cells (n.toNat * i.size)) ++ Builtin.zeroCells zv.cells (grownCap w n.toNat 0 e - n.toNat)).size = grownCap w n.toNat 0 e * i.size := by
        simp only [Array.size_append, List.size_toArray, List.length_nil, size_zeroCells, size_madeCells, hzs, Nat.zero_add, ← Nat.add_mul]
        congr 1; omega
      obtain ⟨hsim, hfr⟩ := s.drew.newRow i.size (madeCells zv.cells (n.toNat * i.size)).toList (List.toArray ([] : List Value) ++ (madeCells zv.cells (n.toNat * i.size)) ++ Builtin.zeroCells zv.cells (grownCap w n.toNat 0 e - n.toNat)) e
        (fun j v hv => by
          refine ⟨v, ?_, okC_vr (zeros_vr (ι := ι) hok' _ j v hv)⟩
          have hj : j < (madeCells zv.cells (n.toNat * i.size)).size := by
            rcases Nat.lt_or_ge j (madeCells zv.cells (n.toNat * i.size)).size with h | h
            · exact h
            · rw [List.getElem?_eq_none (by simpa using h)] at hv; cases hv
          have : (List.toArray ([] : List Value) ++ madeCells zv.cells (n.toNat * i.size))[j]? = some v := by simpa using hv
          rw [Array.getElem?_append_left (by simpa using hj)]
          exact this)
        (by rw [hsize, Array.length_toList, size_madeCells]; exact Nat.mul_le_mul_right _ hge)
      refine ⟨.value (.slice (some ⟨w.heap.size, 0, none⟩) n.toNat (grownCap w n.toNat 0 e)), _, _, .slice (some ⟨w.heap.size, 0, none⟩) n.toNat (grownCap w n.toNat 0 e), ?_, .inl rfl, ?_, hsim, Fr.of_drew hfr⟩
      · rw [Sem.run_bind, hrun]; rfl
      · refine .sl _ 0 n.toNat _ _ _ (Emb.put_same ..) hge (.inr ⟨by simp [Addr.add], ?_⟩)
        show 0 + grownCap w n.toNat 0 e * i.size ≤ (List.toArray ([] : List Value) ++ (madeCells zv.cells (n.toNat * i.size)) ++ Builtin.zeroCells zv.cells (grownCap w n.toNat 0 e - n.toNat)).size
        rw [hsize]; omega
    · cases h
  · cases h

set_option maxHeartbeats 1000000 in
theorem good_clear (s : Sim ι H w) (ht : TR ι N tm a) {t ty e : TypeId} (hut : P.underlying t = some (.slice e)) {i : TypeInfo} (hi : P.info? e = some i) {z : List Value} (hz : zeroT P e = some z)
    {x : Operand} (ho : okO x = true) (h : aop (.clear i.size z x) tm H = some (av, H')) :
    Good P (do pure (.value (← Builtin.clear_ #[t] ty #[a.eval x]))) ι H w av H' := by
  simp only [aop] at h
  obtain ⟨i', zv, hi', hzz, hzc, hok, hzs⟩ := zeroT_some hz
  rw [hi] at hi'; cases hi'
  have hzl : z.toArray = zv.cells := by rw [← hzc]
  rw [hzl] at h
  have hok' : zv.cells.toList.all okC = true := by rw [hzc]; exact hok
  have hx := ev_vr ht ho
  have htup : VR ι (.tuple #[]) (.tuple #[]) := .tup _ _ rfl (fun j v v' h _ => by simp at h)
  split at h
  · rename_i e1
    rw [e1] at hx; cases h
    obtain ⟨h1, -, -⟩ := hx.snil_inv
    rw [h1]
    exact Good.pure (v := .tuple #[]) (by simp [Builtin.clear_, run_underlying hut]) htup s
  · rename_i ad n m e1
    rw [e1] at hx
    obtain ⟨b, off, c2, L, A2, rfl, rfl, hv, hL, hle, hc2⟩ := hx.slice_inv
    rw [hv]
    split at h
    · rename_i hn
      cases h; subst hn
      exact Good.pure (v := .tuple #[]) (by simp [Builtin.clear_, run_underlying hut]) htup s
    · rename_i hn
      split at h
      · rename_i z0 vs hb0
        have hb : H[b]? = some (.rw z0 vs) := hb0
        split at h
        · rename_i hlen0
          have hlen : off + m * i.size ≤ vs.length := hlen0
          cases h
          obtain ⟨hA, hext⟩ := hc2.resolve_left (by omega)
          obtain ⟨L', cur, t', h1, h2, h3, h4, h5, h6⟩ := s.own b z0 vs hb
          rw [hL] at h1; cases h1
          have hbase : L.base = ⟨L.base.block, L.base.off, none⟩ := by cases hq : L.base; simp [hq] at h2; simp [h2]
          have hzl2 : (madeCells zv.cells (m * i.size)).toList.length = m * i.size := by simp [size_madeCells]
          have hcl : VRs ι (madeCells zv.cells (m * i.size)).toList (madeCells zv.cells (m * i.size)).toList := zeros_vrs hok' _
          have hone' : ∀ v ∈ (madeCells zv.cells (m * i.size)).toList, v.oneCell' = true := fun v hv => by
            obtain ⟨j, hj⟩ := List.getElem?_of_mem hv
            exact okC_one (zeros_vr (ι := ι) hok' _ j v hj)
          have hst := run_storeCells_at P L.base.block (L.base.off + off) t' (madeCells zv.cells (m * i.size)).toList 0 cur w h4 (by rw [hzl2]; omega) hone'
          simp only [Nat.add_zero] at hst
          obtain ⟨K, vs', hK, hrv, hcv⟩ := s.read (b := b) (vs := vs) (by simp [Hp.cells, hb, Blk.cells])
          rw [hL] at hK; cases hK
          have hcur : ∀ (j : Nat) (v : Value), vs'[j]? = some v → cur[L.base.off + j]? = some v := by
            intro j v hv
            have := hcv j v hv
            rw [hbase, add_none] at this
            simpa [World.cell?, h4] using this
          have hsp := splice_get hrv hcl off
          obtain ⟨hs, hf⟩ := s.rewrite hb hL h4 (cur.toList.take (L.base.off + off) ++ (madeCells zv.cells (m * i.size)).toList ++ cur.toList.drop (L.base.off + off + (madeCells zv.cells (m * i.size)).toList.length)).toArray
            (by simp only [List.size_toArray, List.length_append, List.length_take, List.length_drop, Array.length_toList]; rw [Array.length_toList] at hzl2; omega)
            (splice vs off (madeCells zv.cells (m * i.size)).toList) (by rw [splice_length _ _ _ (by rw [hzl2]; omega)]; exact h6)
            (fun j v hv => by
              obtain ⟨v', h1, h2⟩ := hsp.get hv
              refine ⟨v', ?_, h2⟩
              simp only [List.getElem?_toArray]
              unfold splice at h1
              rw [List.append_assoc] at h1 ⊢
              have hvl : off + m * i.size ≤ vs'.length := by rw [← hrv.1]; exact hlen
              by_cases hj : j < off
              · rw [List.getElem?_append_left (by simp; omega), List.getElem?_take, if_pos hj] at h1
                rw [List.getElem?_append_left (by simp; omega), List.getElem?_take, if_pos (by omega)]
                simpa using hcur j v' h1
              · rw [List.getElem?_append_right (by simp; omega)] at h1
                rw [List.getElem?_append_right (by simp; omega)]
                simp only [List.length_take, Nat.min_eq_left (show off ≤ vs'.length by omega)] at h1
                have hmin : min (L.base.off + off) cur.toList.length = L.base.off + off := by simp; omega
                rw [List.length_take, hmin]
                rw [show L.base.off + j - (L.base.off + off) = j - off by omega]
                by_cases hj2 : j - off < (madeCells zv.cells (m * i.size)).toList.length
                · rw [List.getElem?_append_left hj2] at h1 ⊢
                  exact h1
                · rw [List.getElem?_append_right (by omega)] at h1 ⊢
                  rw [List.getElem?_drop] at h1 ⊢
                  have := hcur _ v' h1
                  rw [← Array.getElem?_toList] at this
                  rw [← this]
                  congr 1; omega)
          refine ⟨.value (.tuple #[]), ι, _, .tuple #[], ?_, .inl rfl, htup, hs, hf⟩
          have hA2 : A2 = ⟨L.base.block, L.base.off + off, none⟩ := by rw [hA, hbase, add_none]
          subst hA2
          obtain ⟨m', rfl⟩ : ∃ m', m = m' + 1 := ⟨m - 1, by omega⟩
          simp only [Builtin.clear_, List.getElem?_toArray, List.getElem?_cons_zero, Sem.run_bind, run_underlying hut, Result.andThen_ok, Sem.run_pure, zeroValue, typeInfo, run_program, hi, hzz, zeros_eq, hzs]
          simp [hst]
        · cases h
      · cases h
  · cases h
end
end Go.Ab

/- The abstract machine, part 9: one operation, whichever. Own work. -/
namespace Go.Ab
open Go

theorem new_good {P : Program} {m : Sem Next} {ι : Emb} {H H' : Hp} {w : World} {tm : Tm} {o : AOp} {av : Value} (s : Sim ι H w) (h : ((anew o tm H.length).map fun p => (p.1, H ++ [p.2])) = some (av, H'))
    (hr : ∀ v b, anew o tm H.length = some (v, b) → NewR P m ι w H.length v b) : Good P m ι H w av H' := by
  cases hn : anew o tm H.length with
  | none => rw [hn] at h; cases h
  | some p => rw [hn] at h; cases h; exact (hr p.1 p.2 hn).good s

theorem no_bad {tm : Tm} {H : Hp} {r : Value × Hp} (h : aop .bad tm H = some r) : False := by simp [aop] at h

set_option maxHeartbeats 1000000 in
theorem builtin_good {P : Program} {ι : Emb} {H H' : Hp} {w : World} {N : Nat} {tm : Tm} {a : Act} {av : Value} {o : Oper} {b : Builtin} {args : Array Operand} {tys : Array TypeId}
    (s : Sim ι H w) (ht : TR ι N tm a) (hop : o.op = .call ⟨.builtin b, args, tys⟩) (ho : okL args.toList = true)
    (h : aop (cBuiltin P b tys.toList args.toList) tm H = some (av, H')) : Good P (execOp a.eval o) ι H w av H' := by
  have hexec : ∀ m : Sem Value, builtin b tys o.type (args.map fun | .const _ => true | _ => false) (args.map a.eval) = (do pure (.value (← m))) → Good P (do pure (.value (← m))) ι H w av H' → Good P (execOp a.eval o) ι H w av H' := by
    intro m hm hg
    have : execOp a.eval o = (do pure (.value (← m))) := by
      unfold execOp
      simp only [hop, resolve, pure_bind, invoke]
      exact hm
    rw [this]; exact hg
  unfold cBuiltin at h
  split at h
  · rename_i t x h2 h3
    have ha : args = #[x] := by apply Array.ext'; simpa using h3
    have hty : tys = #[t] := by apply Array.ext'; simpa using h2
    subst ha; subst hty
    simp only [okL, List.all_cons, List.all_nil, Bool.and_true] at ho
    split at h
    · rename_i hu
      exact hexec _ (by simp [builtin]) (good_len (ty := o.type) s ht hu ho h)
    · rename_i hu
      exact hexec _ (by simp [builtin]) (good_lens (ty := o.type) s ht hu ho h)
    · exact (no_bad h).elim
  · rename_i t u x y h2 h3
    have ha : args = #[x, y] := by apply Array.ext'; simpa using h3
    have hty : tys = #[t, u] := by apply Array.ext'; simpa using h2
    subst ha; subst hty
    split at h
    · rename_i htu
      subst htu
      split at h
      · rename_i e hu
        split at h
        · rename_i i z hi hz
          split at h
          · rename_i hc
            exact hexec _ (by simp [builtin]) (good_append (ty := o.type) s ht hu hi hz hc.1 hc.2 ho h)
          · exact (no_bad h).elim
        · exact (no_bad h).elim
      · exact (no_bad h).elim
    · split at h
      · rename_i e k hu huk
        split at h
        · rename_i i z hi hz
          split at h
          · rename_i hc
            exact hexec _ (by simp [builtin]) (good_appz (ty := o.type) s ht hu huk hi hz hc.1 hc.2 ho h)
          · exact (no_bad h).elim
        · exact (no_bad h).elim
      · exact (no_bad h).elim
  · rename_i t x h2 h3
    have ha : args = #[x] := by apply Array.ext'; simpa using h3
    have hty : tys = #[t] := by apply Array.ext'; simpa using h2
    subst ha; subst hty
    simp only [okL, List.all_cons, List.all_nil, Bool.and_true] at ho
    split at h
    · rename_i hu
      exact hexec _ (by simp [builtin]) (good_capn (ty := o.type) s ht hu ho h)
    · exact (no_bad h).elim
  · rename_i t x h2 h3
    have ha : args = #[x] := by apply Array.ext'; simpa using h3
    have hty : tys = #[t] := by apply Array.ext'; simpa using h2
    subst ha; subst hty
    simp only [okL, List.all_cons, List.all_nil, Bool.and_true] at ho
    split at h
    · rename_i e hu
      split at h
      · rename_i i z hi hz
        exact hexec _ (by simp [builtin]) (good_clear (ty := o.type) s ht hu hi hz ho h)
      · exact (no_bad h).elim
    · exact (no_bad h).elim
  · have hg := good_mm (P := P) (tys := tys) (ty := o.type) s ht ho h
    simp only [Bool.false_eq_true, if_false] at hg
    exact hexec _ rfl hg
  · have hg := good_mm (P := P) (tys := tys) (ty := o.type) s ht ho h
    simp only [if_true] at hg
    exact hexec _ rfl hg
  · exact (no_bad h).elim

set_option maxHeartbeats 2000000 in
theorem op_good {P : Program} {ι : Emb} {H H' : Hp} {w : World} {N : Nat} {tm : Tm} {a : Act} {av : Value} {o : Oper} (s : Sim ι H w) (ht : TR ι N tm a)
    (h : aop (cOp P o) tm H = some (av, H')) : Good P (execOp a.eval o) ι H w av H' := by
  have hx : ∀ m : Sem Next, execOp a.eval o = m → Good P m ι H w av H' → Good P (execOp a.eval o) ι H w av H' := fun m e g => e ▸ g
  unfold cOp at h
  split at h
  · -- move
    rename_i x hop
    split at h
    · rename_i ho
      simp only [aop] at h; cases h
      exact hx _ (by simp [execOp, hop]) (Good.pure (m := pure (.value (a.eval x))) rfl (ev_vr ht ho) s)
    · exact (no_bad h).elim
  · rename_i x hop
    split at h
    · rename_i ho
      simp only [aop] at h; cases h
      exact hx _ (by simp [execOp, hop]) (Good.pure (m := pure (.value (a.eval x))) rfl (ev_vr ht ho) s)
    · exact (no_bad h).elim
  · rename_i c x y hop
    split at h
    · rename_i ho
      exact hx _ (by unfold execOp; rw [hop]) (good_pick s ht ho h)
    · exact (no_bad h).elim
  · rename_i op t x y yt hop
    split at h
    · rename_i ho
      split at h
      · exact hx _ (by unfold execOp; rw [hop]) (good_bin s ht ho h)
      · exact hx _ (by unfold execOp; rw [hop]) (good_bin s ht ho h)
      · rename_i k hk
        exact hx _ (by unfold execOp; rw [hop]; rfl) (good_eq (neg := false) (t := t) s ht ho h)
      · rename_i k hk
        exact hx _ (by unfold execOp; rw [hop]; rfl) (good_eq (neg := true) (t := t) s ht ho h)
      · exact hx _ (by unfold execOp; rw [hop]) (good_bin s ht ho h)
    · exact (no_bad h).elim
  · rename_i op t x hop
    split at h
    · rename_i ho
      exact hx _ (by unfold execOp; rw [hop]) (good_un s ht ho h)
    · exact (no_bad h).elim
  · rename_i src dst x hop
    split at h
    · rename_i ho
      split at h
      · rename_i d k h1 h2
        exact hx _ (by unfold execOp; rw [hop]) (good_conv s ht h1 h2 ho h)
      · exact (no_bad h).elim
    · exact (no_bad h).elim
  · rename_i t ps hop
    split at h
    · rename_i z pl hz hpl
      split at h
      · rename_i l hl
        split at h
        · rename_i ho
          exact hx _ (by unfold execOp; rw [hop]) (good_build s ht hz hpl hl ho h)
        · exact (no_bad h).elim
      · exact (no_bad h).elim
    · exact (no_bad h).elim
  · rename_i x i hop
    split at h
    · rename_i ho
      exact hx _ (by unfold execOp; rw [hop]) (good_extract s ht ho h)
    · exact (no_bad h).elim
  · rename_i t x f hop
    split at h
    · rename_i ho
      split at h
      · rename_i fs hu
        split at h
        · rename_i fd hf
          split at h
          · rename_i n b hsz
            exact hx _ (by unfold execOp; rw [hop]) (good_field s ht hu hf hsz ho h)
          · exact (no_bad h).elim
        · exact (no_bad h).elim
      · exact (no_bad h).elim
    · exact (no_bad h).elim
  · rename_i fn first caps hop
    split at h
    · rename_i ho
      exact hx _ (by unfold execOp; rw [hop]) (good_mkfn s ht ho h)
    · exact (no_bad h).elim
  · rename_i t x hop
    split at h
    · rename_i ho
      exact hx _ (by unfold execOp; rw [hop]) (good_iface s ht ho.1 ho.2 h)
    · exact (no_bad h).elim
  · rename_i x hop
    split at h
    · rename_i ho
      exact good_nilchk s ht hop ho h
    · exact (no_bad h).elim
  · rename_i t x f hop
    split at h
    · rename_i ho
      split at h
      · rename_i fs hu
        split at h
        · rename_i fd hf
          split at h
          · rename_i i hi
            split at h
            · rename_i hsz
              exact hx _ (by unfold execOp; rw [hop]) (good_faddr s ht hu hf hi hsz ho h)
            · exact (no_bad h).elim
          · exact (no_bad h).elim
        · exact (no_bad h).elim
      · exact (no_bad h).elim
    · exact (no_bad h).elim
  · rename_i t x i hop
    split at h
    · rename_i ho
      split at h
      · rename_i e hu
        split at h
        · rename_i inf hi
          exact hx _ (by unfold execOp; rw [hop]) (good_idxs s ht hu hi ho h)
        · exact (no_bad h).elim
      · rename_i n e hu
        split at h
        · rename_i inf hi
          exact hx _ (by unfold execOp; rw [hop]) (good_idxa s ht hu hi ho h)
        · exact (no_bad h).elim
      · exact (no_bad h).elim
    · exact (no_bad h).elim
  · rename_i t x i hop
    split at h
    · rename_i ho
      split at h
      · rename_i hu
        exact hx _ (by unfold execOp; rw [hop]) (good_idxstr s ht hu ho h)
      · rename_i n e hu
        split at h
        · rename_i m b hsz
          exact hx _ (by unfold execOp; rw [hop]) (good_idx s ht hu hsz ho h)
        · exact (no_bad h).elim
      · exact (no_bad h).elim
    · exact (no_bad h).elim
  · rename_i t x lo hi hop
    split at h
    · rename_i ho
      split at h
      · rename_i e hu
        split at h
        · rename_i inf hinf
          exact hx _ (by unfold execOp; rw [hop]; rfl) (good_slice s ht hu hinf ho.1 ho.2.1 ho.2.2 h)
        · exact (no_bad h).elim
      · exact (no_bad h).elim
    · exact (no_bad h).elim
  · rename_i e hop
    split at h
    · rename_i z hz
      exact hx _ (by unfold execOp; rw [hop]) (new_good (o := .alloc z) (tm := tm) s (by simpa only [aop] using h) fun v b hn => new_alloc hz hn)
    · exact (no_bad h).elim
  · rename_i e x hop
    split at h
    · rename_i ho
      exact hx _ (by unfold execOp; rw [hop]) (new_good (o := .box x) (tm := tm) s (by simpa only [aop] using h) fun v b hn => new_box ht ho hn)
    · exact (no_bad h).elim
  · rename_i t l c hop
    split at h
    · rename_i ho
      split at h
      · rename_i e hu
        split at h
        · rename_i i z hi hz
          exact hx _ (by unfold execOp; rw [hop]) (new_good (o := .mkslice i.size i.bytes z l c) (tm := tm) s (by simpa only [aop] using h) fun v b hn => new_mkslice ht hu hi hz ho hn)
        · exact (no_bad h).elim
      · exact (no_bad h).elim
    · exact (no_bad h).elim
  · rename_i t len ps hop
    split at h
    · rename_i e hu
      split at h
      · rename_i i z hi hz
        split at h
        · rename_i hc
          exact hx _ (by unfold execOp; rw [hop]) (new_good (tm := tm) s (by simpa only [aop] using h) fun v b hn => new_bslice ht hu hi hz hc.1 hc.2 hn)
        · exact (no_bad h).elim
      · exact (no_bad h).elim
    · exact (no_bad h).elim
  · rename_i t x hop
    split at h
    · rename_i ho
      split at h
      · rename_i n b hsz
        exact hx _ (by unfold execOp; rw [hop]) (good_load s ht hsz ho h)
      · exact (no_bad h).elim
    · exact (no_bad h).elim
  · rename_i t x y hop
    split at h
    · rename_i ho
      split at h
      · rename_i i hi
        exact hx _ (by unfold execOp; rw [hop]) (good_store s ht hi ho h)
      · exact (no_bad h).elim
    · exact (no_bad h).elim
  · rename_i c hop
    split at h
    · rename_i ho
      obtain ⟨callee, args, tys⟩ := c
      simp only at h ho hop
      split at h
      · exact builtin_good s ht hop ho h
      · simp [aop] at h
      · split at h
        · simp [aop] at h
        · exact (no_bad h).elim
      · exact (no_bad h).elim
    · exact (no_bad h).elim
  · exact (no_bad h).elim

theorem no_new {tm : Tm} {k : Nat} {o : AOp} {r : Value × Blk} (h : anew o tm k = some r) : (∃ z, o = .alloc z) ∨ (∃ x, o = .box x) ∨ (∃ a b c d e, o = .mkslice a b c d e) ∨ ∃ a b c d, o = .bslice a b c d := by
  cases o <;> simp [anew] at h ⊢

set_option maxHeartbeats 2000000 in
theorem op_new {P : Program} {ι : Emb} {w : World} {N : Nat} {tm : Tm} {a : Act} {o : Oper} {k : Nat} {v : Value} {b : Blk} (ht : TR ι N tm a)
    (h : anew (cOp P o) tm k = some (v, b)) : NewR P (execOp a.eval o) ι w k v b := by
  have hx : ∀ m : Sem Next, execOp a.eval o = m → NewR P m ι w k v b → NewR P (execOp a.eval o) ι w k v b := fun m e g => e ▸ g
  unfold cOp at h
  split at h
  case h_17 e hop =>
    split at h
    · rename_i z hz
      exact hx _ (by unfold execOp; rw [hop]) (new_alloc hz h)
    · simp [anew] at h
  case h_18 e x hop =>
    split at h
    · rename_i ho
      exact hx _ (by unfold execOp; rw [hop]) (new_box ht ho h)
    · simp [anew] at h
  case h_19 t l c hop =>
    split at h
    · rename_i ho
      split at h
      · rename_i e hu
        split at h
        · rename_i i z hi hz
          exact hx _ (by unfold execOp; rw [hop]) (new_mkslice ht hu hi hz ho h)
        · simp [anew] at h
      · simp [anew] at h
    · simp [anew] at h
  case h_20 t len ps hop =>
    split at h
    · rename_i e hu
      split at h
      · rename_i i z hi hz
        split at h
        · rename_i hc
          exact hx _ (by unfold execOp; rw [hop]) (new_bslice ht hu hi hz hc.1 hc.2 h)
        · simp [anew] at h
      · simp [anew] at h
    · simp [anew] at h
  case h_23 c hop =>
    exfalso
    split at h
    · split at h
      · unfold cBuiltin at h
        (repeat' split at h) <;> simp [anew] at h
      · simp [anew] at h
      · split at h <;> simp [anew] at h
      · simp [anew] at h
    · simp [anew] at h
  all_goals (exfalso; (repeat' split at h) <;> simp [anew] at h)

end Go.Ab

/- The abstract machine, part 10: code, functions, and how they are read off a program. Own work. -/
namespace Go.Ab
open Go

inductive K where
  | pure | read | new | loud
  deriving DecidableEq
def kindOf : AOp → K
  | .load .. | .slice .. => .read
  | .alloc _ | .box _ | .mkslice .. | .bslice .. => .new
  | .store .. | .append .. | .appz .. | .clear .. | .call .. | .callv .. | .bad => .loud
  | _ => .pure

/-- An operation with its place, its guard (a temporary and what it must hold), and for a reading one in a drawn region the new blocks that it may look into. -/
structure DOp where
  dst : Option Nat
  op : AOp
  guard : Option (Nat × Bool)
  slots : List Nat

inductive ACode where
  | skip
  | region (ops : List DOp)
  | draw (ops : List DOp) (pairs : List (Nat × Nat))
  | seq (a b : ACode)
  | cond (c : Operand) (x y : ACode)
  | block (id : Nat) (c : ACode)
  | loop (c : ACode)
  | exit (id : Nat)
  | ret
  | bad

inductive ARes where
  | tmp (t : Nat)
  | cell (t n : Nat) (agg : Bool)
structure AFunc where
  body : ACode
  results : List ARes

abbrev CallF := FuncId → List Value → Hp → Option (Value × Hp)
abbrev St := Tm × Hp
inductive AX where
  | normal | exit (id : Nat) | ret
  deriving DecidableEq

/-- Is an operation carried out? -/
def want (tm : Tm) : Option (Nat × Bool) → Bool
  | none => true
  | some (t, b) => match tm t with
    | .bool c => c == b
    | _ => false

def arun (call : CallF) (o : AOp) (tm : Tm) (H : Hp) : Option (Value × Hp) :=
  match o with
  | .call f args => call f (args.map (ev tm)) H
  | .callv x args => match ev tm x with
    | .func (.func f) _ caps => call f (args.map (ev tm) ++ caps.toList) H
    | _ => none
  | o => aop o tm H

def aregion (call : CallF) : List DOp → St → Option St
  | [], s => some s
  | o :: os, s =>
    if want s.1 o.guard then
      match arun call o.op s.1 s.2 with
      | some (v, H') => aregion call os (put s.1 o.dst v, H')
      | none => none
    else aregion call os (put s.1 o.dst undef, s.2)

/-! ### Regions that draw their order -/
/-- The block that a reading operation looks into. -/
def rblk (o : AOp) (tm : Tm) : Option Nat :=
  match o with
  | .load _ _ x => match ev tm x with
    | .pointer (some a) => some a.block
    | _ => none
  | .slice _ x _ _ => match ev tm x with
    | .slice (some a) _ _ => some a.block
    | _ => none
  | _ => none
def rdOk (base m : Nat) (o : DOp) (tm : Tm) : Bool :=
  match rblk o.op tm with
  | some b => decide (b < base) || decide (base + m ≤ b) || o.slots.contains (b - base)
  | none => true
def dstep (call : CallF) (base m i : Nat) (o : DOp) (s : St) : Option (Value × Hp) :=
  if want s.1 o.guard then
    match kindOf o.op with
    | .pure => aop o.op s.1 s.2
    | .read => if rdOk base m o s.1 then aop o.op s.1 s.2 else none
    | .new => (anew o.op s.1 (base + i)).map fun p => (p.1, s.2.set (base + i) p.2)
    | .loud => arun call o.op s.1 s.2
  else some (undef, s.2)
def dtrace (call : CallF) (base m : Nat) : List DOp → Nat → St → Option (List St)
  | [], _, s => some [s]
  | o :: os, i, s =>
    match dstep call base m i o s with
    | some (v, H') => (dtrace call base m os (i + 1) (put s.1 o.dst v, H')).map (s :: ·)
    | none => none

def vsame1 : Value → Value → Bool
  | .bool a, .bool b => a == b
  | .int k a, .int k' b => decide (k = k') && a == b
  | .string a, .string b => decide (a = b)
  | .pointer a, .pointer b => decide (a = b)
  | .slice a n c, .slice a' n' c' => decide (a = a') && n == n' && c == c'
  | .map a, .map b => decide (a = b)
  | .nilFunc, .nilFunc => true
  | .nilIface, .nilIface => true
  | _, _ => false
def vsame : Value → Value → Bool
  | .agg a, .agg b => a.size == b.size && (a.toList.zip b.toList).all fun p => vsame1 p.1 p.2
  | a, b => vsame1 a b
theorem vsame1_eq {a b : Value} (h : vsame1 a b = true) : a = b := by
  unfold vsame1 at h
  split at h <;> simp_all
theorem all_zip_eq : ∀ (l l' : List Value), l.length = l'.length → ((l.zip l').all fun p => vsame1 p.1 p.2) = true → l = l'
  | [], l', hl, _ => (List.eq_nil_of_length_eq_zero (by simpa using hl.symm)).symm
  | a :: l, [], hl, _ => by simp at hl
  | a :: l, b :: l', hl, h => by
    simp only [List.zip_cons_cons, List.all_cons, Bool.and_eq_true] at h
    rw [vsame1_eq h.1, all_zip_eq l l' (by simpa using hl) h.2]
theorem vsame_eq {a b : Value} (h : vsame a b = true) : a = b := by
  unfold vsame at h
  split at h
  · simp only [Bool.and_eq_true, beq_iff_eq] at h
    have := all_zip_eq _ _ (by simpa using h.1) h.2
    rw [Array.toList_inj] at this
    rw [this]
  · exact vsame1_eq h

/-- A reading gives the same in another heap. -/
def again (o : DOp) (s : St) (H : Hp) : Bool :=
  if want s.1 o.guard then
    match aop o.op s.1 s.2, aop o.op s.1 H with
    | some (v, _), some (v', _) => vsame v v'
    | _, _ => false
  else true
def dcheck (ops : List DOp) (tr : List St) (p : Nat × Nat) : Bool :=
  match ops[p.1]?, tr[p.1]?, tr[p.2]?, tr[p.2 + 1]? with
  | some o, some s, some l, some l' => again o s l.2 && again o s l'.2
  | _, _, _, _ => false
def adraw (call : CallF) (ops : List DOp) (pairs : List (Nat × Nat)) (s : St) : Option St :=
  match dtrace call s.2.length ops.length ops 0 (s.1, s.2 ++ List.replicate ops.length .dead) with
  | some tr => if pairs.all (dcheck ops tr) then tr.getLast? else none
  | none => none

/-! ### Code and functions -/
def iter (body : St → Option (AX × St)) : Nat → St → Option (AX × St)
  | 0, _ => none
  | n + 1, s => match body s with
    | some (.normal, s') => iter body n s'
    | r => r
def acode (call : CallF) (fuel : Nat) : ACode → St → Option (AX × St)
  | .skip, s => some (.normal, s)
  | .region ops, s => (aregion call ops s).map fun s' => (.normal, s')
  | .draw ops pairs, s => (adraw call ops pairs s).map fun s' => (.normal, s')
  | .seq a b, s => match acode call fuel a s with
    | some (.normal, s') => acode call fuel b s'
    | r => r
  | .cond c x y, s => match ev s.1 c with
    | .bool t => if t then acode call fuel x s else acode call fuel y s
    | _ => none
  | .block id c, s => match acode call fuel c s with
    | some (.exit j, s') => if j = id then some (.normal, s') else some (.exit j, s')
    | r => r
  | .loop c, s => iter (acode call fuel c) fuel s
  | .exit id, s => some (.exit id, s)
  | .ret, s => some (.ret, s)
  | .bad, _ => none

def ares (tm : Tm) (H : Hp) : ARes → Option Value
  | .tmp t => some (tm t)
  | .cell t n agg => match tm t with
    | .pointer (some a) => if a.spot.isNone then (H.load a n).bind (mkv agg) else none
    | _ => none
def aresults (rs : List ARes) (tm : Tm) (H : Hp) : Option Value :=
  match rs.mapM (ares tm H) with
  | some [v] => some v
  | some vs => some (.tuple vs.toArray)
  | none => none
def initTm (args : List Value) : Tm := fun t => args.getD t undef
def callF (T : FuncId → Option AFunc) : Nat → CallF
  | 0, _, _, _ => none
  | n + 1, f, args, H => match T f with
    | some F => match acode (callF T n) n F.body (initTm args, H) with
      | some (.normal, s) | some (.ret, s) => (aresults F.results s.1 s.2).map fun v => (v, s.2)
      | _ => none
    | none => none

/-! ### Read off a program -/
def gTmp (ops : Array Oper) (o : Oper) : Option (Option (Nat × Bool)) :=
  match o.guard with
  | none => some none
  | some (j, b) => match (ops[j]?).bind (·.dst) with
    | some t => some (some (t, b))
    | none => none
def dstOk (N : Nat) : Option Nat → Bool
  | some t => decide (t < N)
  | none => true
def cOper (P : Program) (N : Nat) (ops : Array Oper) (slots : List Nat) (o : Oper) : DOp :=
  match gTmp ops o with
  | some g => if dstOk N o.dst then { dst := o.dst, op := cOp P o, guard := g, slots } else { dst := none, op := .bad, guard := none, slots }
  | none => { dst := none, op := .bad, guard := none, slots }
/-- Of each operation, which ones are carried out before it in every order. -/
def anc1 (acc : List (List Nat)) (o : Oper) : List Nat := ((o.after.toList.filter (Region.binds .any)).flatMap fun e => e.on :: acc.getD e.on []).eraseDups
def ancsAux : List Oper → List (List Nat) → List (List Nat)
  | [], acc => acc
  | o :: os, acc => ancsAux os (acc ++ [anc1 acc o])
def ancs (ops : List Oper) : List (List Nat) := ancsAux ops []
def opTmps : AOp → List Operand
  | .mv x | .un _ x | .conv _ x | .extract x _ | .field _ _ _ x | .iface _ x | .nilchk x | .faddr _ x | .len x | .lens x | .box x | .load _ _ x | .capn x | .clear _ _ x => [x]
  | .pick c a b => [c, a, b]
  | .bin _ x y | .eq _ _ x y | .idxs _ x y | .idxa _ _ x y | .idx _ _ _ x y | .idxstr x y | .mkslice _ _ _ x y | .store _ x y | .append _ _ x y | .appz _ _ _ x y => [x, y]
  | .build _ ps | .bslice _ _ _ ps => ps.map (·.2.2)
  | .mkfn _ xs | .mm _ xs | .call _ xs => xs
  | .callv x xs => x :: xs
  | .slice _ x lo hi => x :: (lo.toList ++ hi.toList)
  | .alloc _ | .bad => []
/-- The temporaries that an operation looks at. -/
def looks (o : DOp) : List Nat :=
  ((opTmps o.op).filterMap fun | .tmp t => some t | _ => none) ++ (match o.guard with | some (t, _) => [t] | none => [])
def clash (x y : DOp) : Bool :=
  (match x.dst with | some d => (looks y).contains d || y.dst == some d | none => false) || (match y.dst with | some d => (looks x).contains d | none => false)
def louds (ops : List DOp) : List Nat := (List.range ops.length).filter fun i => ((ops[i]?).map fun o => decide (kindOf o.op = .loud)).getD false
def drawOk (as : List (List Nat)) (ops : List DOp) : Bool :=
  (List.range ops.length).all fun j => (List.range j).all fun i =>
    match ops[i]?, ops[j]? with
    | some x, some y =>
      (as.getD j []).contains i ||
        (!clash x y && !(decide (kindOf x.op = .loud) && decide (kindOf y.op = .loud)) && !(decide (kindOf x.op = .new) && decide (kindOf y.op = .loud)))
    | _, _ => false
def edgesOk (ops : List Oper) : Bool :=
  (List.range ops.length).all fun i => ((ops[i]?).map fun o => (o.after.toList.filter (Region.binds .any)).all fun e => decide (e.on < i)).getD false
def unordered (as : List (List Nat)) (i j : Nat) : Bool := i != j && !(as.getD i []).contains j && !(as.getD j []).contains i
def isNew (d0 : List DOp) (k : Nat) : Bool := ((d0[k]?).map fun q => decide (kindOf q.op = .new)).getD false
def withSlots (d0 : List DOp) (as : List (List Nat)) (o : DOp) (i : Nat) : DOp :=
  if kindOf o.op = .read then { o with slots := if (louds d0).any (unordered as i) then [] else (as.getD i []).filter (isNew d0) } else o
def dOps (d0 : List DOp) (as : List (List Nat)) : List DOp := d0.zipIdx.map fun x => withSlots d0 as x.1 x.2
def dPairs (d0 : List DOp) (as : List (List Nat)) : List (Nat × Nat) :=
  (List.range d0.length).flatMap fun i => match d0[i]? with
    | some o => if kindOf o.op = .read then ((louds d0).filter (unordered as i)).map fun l => (i, l) else []
    | none => []
def cDraw (P : Program) (N : Nat) (ops : Array Oper) : ACode :=
  let as := ancs ops.toList
  let d0 := ops.toList.map (cOper P N ops [])
  if edgesOk ops.toList && drawOk as (dOps d0 as) then .draw (dOps d0 as) (dPairs d0 as) else .bad
def cCode (P : Program) (N : Nat) : Code → ACode
  | .skip => .skip
  | .region _ ops false => .region (ops.toList.map (cOper P N ops []))
  | .region _ ops true => cDraw P N ops
  | .seq a b => .seq (cCode P N a) (cCode P N b)
  | .cond c x y => if okO c then .cond c (cCode P N x) (cCode P N y) else .bad
  | .block id c => .block id (cCode P N c)
  | .loop c => .loop (cCode P N c)
  | .exit id => .exit id
  | .ret => .ret
  | _ => .bad
def cRes (P : Program) : ResultVar → Option ARes
  | .tmp t => some (.tmp t)
  | .cell t ty => (szT P ty).map fun q => .cell t q.1 q.2
def cFunc (P : Program) (fn : Func) : Option AFunc :=
  match fn.body, fn.results.toList.mapM (cRes P) with
  | some c, some rs => if fn.name == "runtime.NumGoroutine" then none else some { body := cCode P fn.ntmps c, results := rs }
  | _, _ => none

end Go.Ab

/- The abstract machine, part 11: the model follows calls, and regions in the order of the text. Own work. -/
namespace Go.Ab
open Go

def CallOk (P : Program) (call : CallF) : Prop :=
  ∀ f args H r H', call f args H = some (r, H') →
    (∃ fn, P.funcs[f]? = some fn ∧ (fn.name == "runtime.NumGoroutine") = false ∧ fn.body.isNone = false) ∧
    ∀ (ι : Emb) (w : World) (vargs : Array Value), Sim ι H w → VRs ι args vargs.toList →
      Calls P f vargs w (fun e w' => ∃ ι' v, e = .returned v ∧ VR ι' r v ∧ Sim ι' H' w' ∧ Fr ι H w ι' H' w')

theorem cBuiltin_kind {P : Program} {b : Builtin} {ty : List TypeId} {xs : List Operand} : (∀ f args, cBuiltin P b ty xs ≠ .call f args) ∧ (∀ x args, cBuiltin P b ty xs ≠ .callv x args) := by
  unfold cBuiltin
  constructor <;> intros <;> (repeat' split) <;> simp

theorem cOp_call {P : Program} {o : Oper} {f : FuncId} {args : List Operand} (h : cOp P o = .call f args) :
    ∃ c, o.op = .call c ∧ c.callee = .value (.func f) ∧ c.args.toList = args ∧ okL args = true := by
  unfold cOp at h
  split at h
  case h_23 c hop =>
    split at h
    · rename_i ho
      split at h
      · exact absurd h (cBuiltin_kind.1 _ _)
      · rename_i f' hc
        cases h
        exact ⟨c, hop, hc, rfl, ho⟩
      · split at h <;> cases h
      · cases h
    · cases h
  all_goals (exfalso; (repeat' split at h) <;> cases h)

theorem cOp_callv {P : Program} {o : Oper} {x : Operand} {args : List Operand} (h : cOp P o = .callv x args) :
    ∃ c, o.op = .call c ∧ c.callee = .value x ∧ c.args.toList = args ∧ okL args = true ∧ okO x = true := by
  unfold cOp at h
  split at h
  case h_23 c hop =>
    split at h
    · rename_i ho
      split at h
      · exact absurd h (cBuiltin_kind.2 _ _)
      · cases h
      · rename_i x' _ hc
        split at h
        · rename_i hx
          cases h
          exact ⟨c, hop, hc, rfl, ho, hx⟩
        · cases h
      · cases h
    · cases h
  all_goals (exfalso; (repeat' split at h) <;> cases h)

section
variable {P : Program} {call : CallF} {ι : Emb} {H H' : Hp} {w : World} {N : Nat} {tm : Tm} {a : Act} {av : Value} {o : Oper}

theorem arun_ok (hc : CallOk P call) (s : Sim ι H w) (ht : TR ι N tm a) (h : arun call (cOp P o) tm H = some (av, H')) {next : Act → World → Prop} {Q : Exit → Act → World → Prop}
    (hn : ∀ v ι' w', VR ι' av v → Sim ι' H' w' → Fr ι H w ι' H' w' → next (a.put o.dst v) w') : o.wp P a w next Q := by
  by_cases h1 : ∃ f args, cOp P o = .call f args
  · obtain ⟨f, args, hop⟩ := h1
    obtain ⟨c, ho, hcal, hargs, hok⟩ := cOp_call hop
    rw [hop] at h
    simp only [arun] at h
    obtain ⟨⟨fn, hf, hname, hbody⟩, hcalls⟩ := hc _ _ _ _ _ h
    have hr := evs_vr ht args hok
    have hl : (c.args.map a.eval).toList = args.map a.eval := by rw [← hargs]; simp
    have hcl := hcalls ι w (c.args.map a.eval) s (by rw [hl]; exact hr)
    have hex : (execOp a.eval o).run P w = .ok (.enter f (c.args.map a.eval)) w := by
      unfold execOp
      rw [ho]
      have hname' : ¬ fn.name = "runtime.NumGoroutine" := by simpa using hname
      have hbody' : ¬ fn.body = none := by intro e; rw [e] at hbody; cases hbody
      simp [resolve, hcal, Act.eval, Deferred.ofValue, invoke, callFunc, hf, hname', hbody']
    unfold Oper.wp
    rw [hex, Oper.upon_enter]
    refine hcl.mono fun e w' he => ?_
    obtain ⟨ι', v, rfl, hv, hs, hfr⟩ := he
    exact hn v ι' w' hv hs hfr
  · by_cases h2 : ∃ x args, cOp P o = .callv x args
    · obtain ⟨x, args, hop⟩ := h2
      obtain ⟨c, ho, hcal, hargs, hok, hx⟩ := cOp_callv hop
      rw [hop] at h
      simp only [arun] at h
      split at h
      · rename_i f first caps hfv
        obtain ⟨⟨fn, hf, hname, hbody⟩, hcalls⟩ := hc _ _ _ _ _ h
        have hxv := ev_vr ht hx
        rw [hfv] at hxv
        generalize hxe : a.eval x = u at hxv
        cases hxv with
        | fn _ _ caps' hs hv =>
          have hr := (evs_vr ht args hok).append (VR.cells (.agg _ _ hs hv))
          have hl : (c.args.map a.eval ++ caps').toList = args.map a.eval ++ caps'.toList := by rw [← hargs]; simp
          have hcl := hcalls ι w (c.args.map a.eval ++ caps') s (by rw [hl]; exact hr)
          have hex : (execOp a.eval o).run P w = .ok (.enter f (c.args.map a.eval ++ caps')) w := by
            unfold execOp
            rw [ho]
            have hname' : ¬ fn.name = "runtime.NumGoroutine" := by simpa using hname
            have hbody' : ¬ fn.body = none := by intro e; rw [e] at hbody; cases hbody
            simp [resolve, hcal, hxe, Deferred.ofValue, invoke, callFunc, hf, hname', hbody']
          unfold Oper.wp
          rw [hex, Oper.upon_enter]
          refine hcl.mono fun e w' he => ?_
          obtain ⟨ι', v, rfl, hv, hs, hfr⟩ := he
          exact hn v ι' w' hv hs hfr
      · cases h
    · have h3 : aop (cOp P o) tm H = some (av, H') := by
        revert h h1 h2
        generalize cOp P o = q
        intro h h1 h2
        cases q <;> first | exact h | exact absurd ⟨_, _, rfl⟩ h1 | exact absurd ⟨_, _, rfl⟩ h2
      obtain ⟨nx, ι', w', v, hr, hnx, hv, hs, hfr⟩ := op_good s ht h3
      unfold Oper.wp
      rw [hr]
      rcases hnx with rfl | ⟨rfl, rfl⟩
      · exact hn v ι' w' hv hs hfr
      · exact hn _ ι' w' hv hs hfr

theorem want_ok (ht : TR ι N tm a) {ops : Array Oper} {g : Option (Nat × Bool)} (hg : gTmp ops o = some g) : want tm g = Region.wanted o (yielded ops a.tmps) := by
  unfold gTmp at hg
  split at hg
  · rename_i hgd; cases hg; simp [want, Region.wanted, hgd]
  · rename_i j b hgd
    split at hg
    · rename_i t hd
      cases hg
      have hv := ht.val t
      simp only [want, Region.wanted, hgd, yielded, hd, Option.bind_some]
      rw [Array.getD_eq_getD_getElem?] at hv
      cases hq : a.tmps[t]? with
      | none =>
        rw [hq] at hv
        generalize tm t = u at hv
        simp only [Option.getD_none] at hv
        cases u <;> first | rfl | (cases hv; done) | skip
      | some u' =>
        rw [hq] at hv
        generalize tm t = u at hv
        simp only [Option.getD_some] at hv
        cases hv <;> first | rfl | simp
    · cases hg

theorem cOper_spec {ops : Array Oper} {sl : List Nat} : (∃ g, gTmp ops o = some g ∧ cOper P N ops sl o = { dst := o.dst, op := cOp P o, guard := g, slots := sl } ∧ ∀ t, o.dst = some t → t < N) ∨
    ((cOper P N ops sl o).op = .bad ∧ (cOper P N ops sl o).guard = none) := by
  unfold cOper
  split
  · rename_i g hg
    split
    · rename_i hd
      refine .inl ⟨g, hg, rfl, fun t ht => ?_⟩
      rw [ht] at hd
      simpa [dstOk] using hd
    · exact .inr ⟨rfl, rfl⟩
  · exact .inr ⟨rfl, rfl⟩

theorem region_ok (hc : CallOk P call) {ops : Array Oper} {Q : Exit → Act → World → Prop} : ∀ (l : List Oper) {tm tm' : Tm} {H H' : Hp} {ι : Emb} {w : World} {a : Act},
    aregion call (l.map (cOper P N ops [])) (tm, H) = some (tm', H') → Sim ι H w → TR ι N tm a →
    (∀ ι' a' w', TR ι' N tm' a' → Sim ι' H' w' → Fr ι H w ι' H' w' → Q .normal a' w') → wpList P ops Q l a w
  | [], tm, tm', H, H', ι, w, a, h, s, ht, hq => by
    simp [aregion] at h
    obtain ⟨rfl, rfl⟩ := h
    exact hq ι a w ht s (Fr.refl ..)
  | o :: l, tm, tm', H, H', ι, w, a, h, s, ht, hq => by
    simp only [List.map_cons, aregion] at h
    rcases cOper_spec (P := P) (N := N) (o := o) (ops := ops) (sl := []) with ⟨g, hg, hco, hd⟩ | ⟨h1, h2⟩
    · rw [hco] at h
      simp only at h
      unfold wpList
      rw [want_ok ht hg] at h
      split at h
      · rename_i hw
        rw [if_pos hw]
        split at h
        · rename_i v H1 hr
          refine .inl (arun_ok hc s ht hr fun v' ι1 w1 hv hs hf => ?_)
          exact region_ok hc l h hs ((ht.mono hf.emb).put hd hv) fun ι2 a2 w2 ht2 hs2 hf2 => hq ι2 a2 w2 ht2 hs2 (hf.trans hf2)
        · cases h
      · rename_i hw
        rw [if_neg hw]
        exact region_ok hc l h s (ht.put hd (undef_vr ι)) hq
    · rw [h1, h2] at h
      simp [want, arun, aop] at h

end
end Go.Ab

/- The abstract machine, part 12: regions that draw their order, first half. Own work. -/
namespace Go.Ab
open Go

/-! ### Some blocks of the heap are forgotten for a while -/
theorem Sim.forget {ι : Emb} {H H' : Hp} {w : World} (s : Sim ι H w) (hl : H'.length = H.length) (h : ∀ b : Nat, H'[b]? = H[b]? ∨ H'[b]? = some Blk.dead) : Sim ι H' w := by
  have hlive : ∀ b, (H'.owned b = true ∨ ∃ z v vs, H'[b]? = some (.ro z (v :: vs))) → H'[b]? = H[b]? := by
    intro b hb
    rcases h b with e | e
    · exact e
    · rw [owned_dead e, e] at hb; simp at hb
  refine ⟨fun b vs hb => ?_, fun b sz vs hb => ?_, fun b sz vs hb => ?_, fun b es hb => ?_, fun b L hL => by rw [hl]; exact s.dom b L hL, fun b b' L L' hne ho ho' hL hL' => ?_⟩
  · rcases h b with e | e
    · rw [cells_eq e] at hb; exact s.cells b vs hb
    · rw [cells_dead e] at hb; cases hb
  · rcases h b with e | e
    · rw [e] at hb; exact s.rosz b sz vs hb
    · rw [e] at hb; cases hb
  · rcases h b with e | e
    · rw [e] at hb; exact s.own b sz vs hb
    · rw [e] at hb; cases hb
  · rcases h b with e | e
    · rw [e] at hb; exact s.maps b es hb
    · rw [e] at hb; cases hb
  · have e1 := hlive b (.inl ho)
    have e2 := hlive b' ho'
    rw [owned_eq e1] at ho
    rw [owned_eq e2, e2] at ho'
    exact s.sep b b' L L' hne ho ho' hL hL'

theorem live_or {H : Hp} {b : Nat} {x : Blk} (h : H[b]? = some x) : (H.owned b = true ∨ ∃ z v vs, H[b]? = some (.ro z (v :: vs))) ∨ x = .dead ∨ ∃ z, x = .ro z [] := by
  cases x with
  | dead => exact .inr (.inl rfl)
  | ro z vs =>
    cases vs with
    | nil => exact .inr (.inr ⟨z, rfl⟩)
    | cons v vs => exact .inl (.inr ⟨z, v, vs, h⟩)
  | rw sz vs => exact .inl (.inl (owned_of_rw h))
  | mp es => exact .inl (.inl (owned_of_mp h))

/-- Blocks that were forgotten come back. -/
theorem Sim.restore {ι ι1 : Emb} {h hi h1 h1' : Hp} {w w1 : World} (s : Sim ι h w) (s1 : Sim ι1 h1 w1) (f : Fr ι hi w ι1 h1 w1) (hfg : ∀ b : Nat, hi[b]? = h[b]? ∨ hi[b]? = some Blk.dead) (hlen : h1'.length = h1.length)
    (hre : ∀ b : Nat, h1'[b]? = h1[b]? ∨ (h1[b]? = some Blk.dead ∧ hi[b]? = some Blk.dead ∧ h1'[b]? = h[b]?)) :
    Sim ι1 h1' w1 ∧ ∀ g, g < w.heap.size → OwnW ι1 h1' g → OwnW ι h g := by
  -- the world's block of a block that comes back is as it was
  have hkeep : ∀ b L, hi[b]? = some Blk.dead → ι b = some L → (h.owned b = true ∨ ∃ z v vs, h[b]? = some (.ro z (v :: vs))) → w1.heap[L.base.block]? = w.heap[L.base.block]? := by
    intro b L hd hL hlive
    refine f.keep _ (s.live_lt hL hlive) ?_
    rintro ⟨b2, L2, hL2, hblk, ho2⟩
    have hne : b2 ≠ b := fun e => by subst e; rw [owned_dead hd] at ho2; cases ho2
    have e2 : hi[b2]? = h[b2]? := (hfg b2).resolve_right fun e => by rw [owned_dead e] at ho2; cases ho2
    rw [owned_eq e2] at ho2
    exact s.sep b2 b L2 L hne ho2 hlive hL2 hL hblk
  have hown' : ∀ b L, ι1 b = some L → h1.owned b = true → L.base.block < w.heap.size → ∃ b2 L2, hi[b2]? ≠ some Blk.dead ∧ ι b2 = some L2 ∧ L2.base.block = L.base.block ∧ h.owned b2 = true := by
    intro b L hL ho hlt
    obtain ⟨b2, L2, hL2, hblk, ho2⟩ := f.own _ hlt ⟨b, L, hL, rfl, ho⟩
    have hnd : hi[b2]? ≠ some Blk.dead := fun e => by rw [owned_dead e] at ho2; cases ho2
    have e2 : hi[b2]? = h[b2]? := (hfg b2).resolve_right hnd
    rw [owned_eq e2] at ho2
    exact ⟨b2, L2, hnd, hL2, hblk, ho2⟩
  have hlive1 : ∀ b, (h1'.owned b = true ∨ ∃ z v vs, h1'[b]? = some (.ro z (v :: vs))) →
      (h1'[b]? = h1[b]? ∧ (h1.owned b = true ∨ ∃ z v vs, h1[b]? = some (.ro z (v :: vs)))) ∨
      (hi[b]? = some Blk.dead ∧ h1'[b]? = h[b]? ∧ (h.owned b = true ∨ ∃ z v vs, h[b]? = some (.ro z (v :: vs)))) := by
    intro b hb
    rcases hre b with e | ⟨e1, e2, e3⟩
    · rw [owned_eq e, e] at hb; exact .inl ⟨e, hb⟩
    · rw [owned_eq e3, e3] at hb; exact .inr ⟨e2, e3, hb⟩
  have hsep1 : ∀ b b' L L', hi[b]? = some Blk.dead → (h.owned b = true ∨ ∃ z v vs, h[b]? = some (.ro z (v :: vs))) → ι b = some L →
      h1.owned b' = true → ι1 b' = some L' → L.base.block ≠ L'.base.block := by
    intro b b' L L' hd hlive hL ho' hL' hblk
    have hlt := s.live_lt hL hlive
    obtain ⟨b2, L2, hnd, hL2, hb2, ho2⟩ := hown' b' L' hL' ho' (hblk ▸ hlt)
    have hne : b2 ≠ b := fun e => hnd (e ▸ hd)
    exact s.sep b2 b L2 L hne ho2 hlive hL2 hL (hb2.trans hblk.symm)
  have hι : ∀ b x, h[b]? = some x → x ≠ .dead → ∃ L, ι b = some L := by
    intro b x hb hx
    cases x with
    | dead => exact absurd rfl hx
    | ro z vs => obtain ⟨L, hL, _⟩ := s.rosz b z vs hb; exact ⟨L, hL⟩
    | rw sz vs => obtain ⟨L, _, _, hL, _⟩ := s.own b sz vs hb; exact ⟨L, hL⟩
    | mp es => obtain ⟨L, _, _, hL, _⟩ := s.maps b es hb; exact ⟨L, hL⟩
  refine ⟨⟨fun b vs hb => ?_, fun b sz vs hb => ?_, fun b sz vs hb => ?_, fun b es hb => ?_, fun b L hL => by rw [hlen]; exact s1.dom b L hL, fun b b' L L' hne ho ho' hL hL' => ?_⟩, fun g hg hw => ?_⟩
  · rcases hre b with e | ⟨e1, e2, e3⟩
    · rw [cells_eq e] at hb; exact s1.cells b vs hb
    · rw [cells_eq e3] at hb
      obtain ⟨L, hL, hc⟩ := s.cells b vs hb
      refine ⟨L, f.emb b L hL, fun j v hv => ?_⟩
      obtain ⟨v', hv', hr⟩ := hc j v hv
      refine ⟨v', ?_, hr.mono f.emb⟩
      rw [← hv']
      refine World.cell?_of_block (w := w) ?_
      rw [add_block]
      refine hkeep b L e2 hL ?_
      unfold Hp.cells at hb
      cases hx : h[b]? with
      | none => rw [hx] at hb; cases hb
      | some x =>
        rcases live_or hx with hl | rfl | ⟨z, rfl⟩
        · rwa [← hx]
        · rw [hx] at hb; cases hb
        · rw [hx] at hb; simp [Blk.cells] at hb; subst hb; simp at hv
  · rcases hre b with e | ⟨e1, e2, e3⟩
    · rw [e] at hb; exact s1.rosz b sz vs hb
    · rw [e3] at hb
      obtain ⟨L, hL, h2⟩ := s.rosz b sz vs hb
      exact ⟨L, f.emb b L hL, h2⟩
  · rcases hre b with e | ⟨e1, e2, e3⟩
    · rw [e] at hb; exact s1.own b sz vs hb
    · rw [e3] at hb
      obtain ⟨L, cur, t, hL, h2, h3, h4, h5⟩ := s.own b sz vs hb
      exact ⟨L, cur, t, f.emb b L hL, h2, h3, by rw [hkeep b L e2 hL (.inl (owned_of_rw hb))]; exact h4, h5⟩
  · rcases hre b with e | ⟨e1, e2, e3⟩
    · rw [e] at hb; exact s1.maps b es hb
    · rw [e3] at hb
      obtain ⟨L, en, cl, hL, h2, h3⟩ := s.maps b es hb
      exact ⟨L, en, cl, f.emb b L hL, by rw [hkeep b L e2 hL (.inl (owned_of_mp hb))]; exact h2, h3.mono f.emb⟩
  · rcases hlive1 b (.inl ho) with ⟨e, hl⟩ | ⟨e2, e3, hl⟩
    · rw [owned_eq e] at ho
      rcases hlive1 b' ho' with ⟨e', hl'⟩ | ⟨e2', e3', hl'⟩
      · exact s1.sep b b' L L' hne ho hl' hL hL'
      · -- b' comes back
        have hx : ∃ L2, ι b' = some L2 := by
          rcases hl' with hq | ⟨z, v, vs, hq⟩
          · unfold Hp.owned at hq
            cases hx : h[b']? with
            | none => rw [hx] at hq; cases hq
            | some x => exact hι b' x hx (fun e => by subst e; rw [hx] at hq; cases hq)
          · exact hι b' _ hq (by simp)
        obtain ⟨L2, hL2⟩ := hx
        have := f.emb b' L2 hL2
        rw [hL'] at this; cases this
        exact fun q => hsep1 b' b L' L e2' hl' hL2 ho hL q.symm
    · rw [owned_eq e3] at ho
      have hx : ∃ L2, ι b = some L2 := by
        unfold Hp.owned at ho
        cases hx : h[b]? with
        | none => rw [hx] at ho; cases ho
        | some x => exact hι b x hx (fun e => by subst e; rw [hx] at ho; cases ho)
      obtain ⟨L2, hL2⟩ := hx
      have := f.emb b L2 hL2
      rw [hL] at this; cases this
      rcases hlive1 b' ho' with ⟨e', hl'⟩ | ⟨e2', e3', hl'⟩
      · rcases hl' with ho2 | ⟨z, v, vs, hro⟩
        · exact hsep1 b b' L L' e2 hl hL2 ho2 hL'
        · have hroi := f.ro b' z _ hro
          have hroh : h[b']? = some (.ro z (v :: vs)) := by
            rcases hfg b' with q | q
            · rw [← q]; exact hroi
            · rw [q] at hroi; cases hroi
          obtain ⟨L3, hL3, _⟩ := s.rosz b' z _ hroh
          have := f.emb b' L3 hL3
          rw [hL'] at this; cases this
          exact s.sep b b' L L' hne ho (.inr ⟨z, v, vs, hroh⟩) hL2 hL3
      · have hx' : ∃ L3, ι b' = some L3 := by
          rcases hl' with hq | ⟨z, v, vs, hq⟩
          · unfold Hp.owned at hq
            cases hx : h[b']? with
            | none => rw [hx] at hq; cases hq
            | some x => exact hι b' x hx (fun e => by subst e; rw [hx] at hq; cases hq)
          · exact hι b' _ hq (by simp)
        obtain ⟨L3, hL3⟩ := hx'
        have := f.emb b' L3 hL3
        rw [hL'] at this; cases this
        exact s.sep b b' L L' hne ho hl' hL2 hL3
  · obtain ⟨b, L, hL, hblk, ho⟩ := hw
    rcases hlive1 b (.inl ho) with ⟨e, hl⟩ | ⟨e2, e3, hl⟩
    · rw [owned_eq e] at ho
      obtain ⟨b2, L2, _, hL2, hb2, ho2⟩ := hown' b L hL ho (hblk ▸ hg)
      exact ⟨b2, L2, hL2, hb2.trans hblk, ho2⟩
    · rw [owned_eq e3] at ho
      have hx : ∃ L2, ι b = some L2 := by
        unfold Hp.owned at ho
        cases hx : h[b]? with
        | none => rw [hx] at ho; cases ho
        | some x => exact hι b x hx (fun e => by subst e; rw [hx] at ho; cases ho)
      obtain ⟨L2, hL2⟩ := hx
      have := f.emb b L2 hL2
      rw [hL] at this; cases this
      exact ⟨b, L, hL2, hblk, ho⟩

/-- A new row at a place that was kept free. -/
theorem Sim.newSlot {ι : Emb} {H : Hp} {w : World} (s : Sim ι H w) {k : Nat} (hk : H[k]? = some Blk.dead) (hι : ι k = none) (sz : Nat) (vs : List Value) (c : Array Value) (t : TypeId)
    (hc : ∀ (j : Nat) (v : Value), vs[j]? = some v → ∃ v', c[j]? = some v' ∧ VR ι v v') (hl : vs.length ≤ c.size) :
    Sim (ι.put k ⟨⟨w.heap.size, 0, none⟩, c.size, sz⟩) (H.set k (.rw sz vs)) (w.alloc (.cells c t)) ∧ ∀ g, g < w.heap.size → OwnW (ι.put k ⟨⟨w.heap.size, 0, none⟩, c.size, sz⟩) (H.set k (.rw sz vs)) g → OwnW ι H g := by
  have hklt : k < H.length := (List.getElem?_eq_some_iff.1 hk).1
  have hle : ι.le (ι.put k ⟨⟨w.heap.size, 0, none⟩, c.size, sz⟩) := Emb.put_le hι
  have hnew : (H.set k (Blk.rw sz vs))[k]? = some (.rw sz vs) := by simp [hklt]
  have hold : ∀ b, b ≠ k → (H.set k (Blk.rw sz vs))[b]? = H[b]? := fun b hb => List.getElem?_set_ne (fun e => hb e.symm)
  have hheap : (w.alloc (.cells c t)).heap[w.heap.size]? = some (.cells c t (0, 0)) := by show (w.heap.push _)[w.heap.size]? = _; simp
  refine ⟨Sim.step s k hle (fun b L hb h => by rwa [Emb.put_other ι _ hb] at h) (fun b L h => ?_) (fun b hb => .inl (hold b hb)) (fun b L _ hL _ hlive => ?_) (fun us h => ?_)
    (fun sz' us h => ?_) (fun es h => ?_) (fun _ b L0 L hb _ hlive h0 hL => ?_) (fun v us h => ?_), fun g hg h => ?_⟩
  · by_cases e : b = k
    · subst e; simpa using hklt
    · rw [Emb.put_other ι _ e] at h; simpa using s.dom b L h
  · exact Go.RowKit.Below.heap_alloc w _ _ (s.live_lt hL hlive)
  · have : us = vs := by simpa [Hp.cells, hnew, Blk.cells] using h.symm
    subst this
    refine ⟨_, Emb.put_same .., fun j v hv => ?_⟩
    obtain ⟨v', h1, h2⟩ := hc j v hv
    refine ⟨v', ?_, h2.mono hle⟩
    rw [add_none, Nat.zero_add, World.cell?_alloc_new]; exact h1
  · rw [hnew] at h; cases h
    exact ⟨_, c, t, Emb.put_same .., rfl, rfl, hheap, by simp, hl⟩
  · rw [hnew] at h; cases h
  · rw [Emb.put_same] at h0; cases h0
    exact Nat.ne_of_gt (s.live_lt hL hlive)
  · rw [hnew] at h; cases h
  · obtain ⟨b, L, hL, hb, ho⟩ := h
    by_cases e : b = k
    · subst e; rw [Emb.put_same] at hL; cases hL; simp at hb; omega
    · rw [Emb.put_other ι _ e] at hL
      exact ⟨b, L, hL, hb, by rwa [owned_eq (hold b e)] at ho⟩

/-- Room is kept for new blocks. -/
theorem Sim.room {ι : Emb} {H : Hp} {w : World} (s : Sim ι H w) (m : Nat) : Sim ι (H ++ List.replicate m .dead) w := by
  have hg : ∀ b : Nat, (H ++ List.replicate m Blk.dead)[b]? = H[b]? ∨ ((H ++ List.replicate m Blk.dead)[b]? = some Blk.dead) ∨ (H ++ List.replicate m Blk.dead)[b]? = none := by
    intro b
    by_cases h : b < H.length
    · exact .inl (List.getElem?_append_left h)
    · by_cases h2 : b < H.length + m
      · right; left; rw [List.getElem?_append_right (by omega), List.getElem?_replicate, if_pos (by omega)]
      · right; right; rw [List.getElem?_eq_none (by simp; omega)]
  have hsome : ∀ (b : Nat) x, (H ++ List.replicate m Blk.dead)[b]? = some x → x ≠ .dead → H[b]? = some x := by
    intro b x hb hx
    rcases hg b with e | e | e
    · rw [← e]; exact hb
    · rw [e] at hb; cases hb; exact absurd rfl hx
    · rw [e] at hb; cases hb
  have hcells : ∀ b vs, Hp.cells (H ++ List.replicate m Blk.dead) b = some vs → H.cells b = some vs := by
    intro b vs hb
    unfold Hp.cells at hb ⊢
    cases hx : (H ++ List.replicate m Blk.dead)[b]? with
    | none => rw [hx] at hb; cases hb
    | some x =>
      rw [hx] at hb
      by_cases e : x = .dead
      · subst e; cases hb
      · rw [hsome b x hx e]; exact hb
  have hown : ∀ b, Hp.owned (H ++ List.replicate m Blk.dead) b = true → H.owned b = true := by
    intro b hb
    unfold Hp.owned at hb ⊢
    cases hx : (H ++ List.replicate m Blk.dead)[b]? with
    | none => rw [hx] at hb; cases hb
    | some x =>
      rw [hx] at hb
      by_cases e : x = .dead
      · subst e; cases hb
      · rw [hsome b x hx e]; exact hb
  refine ⟨fun b vs hb => s.cells b vs (hcells b vs hb), fun b sz vs hb => s.rosz b sz vs (hsome b _ hb (by simp)), fun b sz vs hb => s.own b sz vs (hsome b _ hb (by simp)),
    fun b es hb => s.maps b es (hsome b _ hb (by simp)), fun b L hL => by have := s.dom b L hL; simp; omega, fun b b' L L' hne ho ho' hL hL' => s.sep b b' L L' hne (hown b ho) ?_ hL hL'⟩
  rcases ho' with h | ⟨z, v, vs, h⟩
  · exact .inl (hown b' h)
  · exact .inr ⟨z, v, vs, hsome b' _ h (by simp)⟩

end Go.Ab

/- The abstract machine, part 12 b: what operations leave alone. Own work. -/
namespace Go.Ab
open Go

/-- The heap grows, what is dead stays dead, and what is read alone was so. -/
def Keeps (H H' : Hp) : Prop := H.length ≤ H'.length ∧ (∀ b : Nat, H[b]? = some Blk.dead → H'[b]? = some Blk.dead) ∧ ∀ (b z : Nat) (vs : List Value), H'[b]? = some (Blk.ro z vs) → H[b]? = some (Blk.ro z vs)
theorem Keeps.refl (H : Hp) : Keeps H H := ⟨Nat.le_refl _, fun _ h => h, fun _ _ _ h => h⟩
theorem Keeps.trans {a b c : Hp} (h : Keeps a b) (k : Keeps b c) : Keeps a c := ⟨Nat.le_trans h.1 k.1, fun x hx => k.2.1 x (h.2.1 x hx), fun x z vs hx => h.2.2 x z vs (k.2.2 x z vs hx)⟩
theorem Keeps.append (H : Hp) (x : Blk) (hx : ∀ z vs, x ≠ .ro z vs) : Keeps H (H ++ [x]) :=
  ⟨by simp, fun b h => by rw [List.getElem?_append_left (List.getElem?_eq_some_iff.1 h).1]; exact h, fun b z vs h => by
    by_cases hb : b < H.length
    · rwa [List.getElem?_append_left hb] at h
    · have hlt := (List.getElem?_eq_some_iff.1 h).1
      have : b = H.length := by simp at hlt; omega
      subst this
      simp at h
      exact absurd h (hx z vs)⟩
theorem Keeps.set {H : Hp} {b : Nat} {x : Blk} (h : H[b]? ≠ some Blk.dead) (hx : ∀ z vs, x ≠ .ro z vs) : Keeps H (H.set b x) :=
  ⟨by simp, fun y hy => by rw [List.getElem?_set_ne (fun e => h (by rw [e]; exact hy))]; exact hy, fun y z vs hy => by
    by_cases e : b = y
    · subst e
      rw [List.getElem?_set] at hy
      simp at hy
      exact absurd hy.2 (hx z vs)
    · rwa [List.getElem?_set_ne e] at hy⟩
theorem anew_rw {o : AOp} {tm : Tm} {k : Nat} {v : Value} {b : Blk} (h : anew o tm k = some (v, b)) : ∀ z vs, b ≠ .ro z vs := by
  intro z vs e
  subst e
  cases o <;> simp only [anew] at h <;> first | (cases h; done) | skip
  case mkslice =>
    split at h
    · split at h <;> cases h
    · cases h
  case bslice =>
    obtain ⟨q, _, h2⟩ := Option.map_eq_some_iff.1 h
    cases h2

theorem aappend_keeps {sz by_ : Nat} {s x v : Value} {H H' : Hp} (h : aappend sz by_ s x H = some (v, H')) : Keeps H H' := by
  unfold aappend at h
  split at h
  · cases h
  · split at h
    · split at h
      · cases h; exact Keeps.refl _
      · split at h
        · cases h; exact Keeps.append _ _ (by simp)
        · cases h
    · split at h
      · cases h; exact Keeps.refl _
      · split at h
        · rename_i hb _
          split at h
          · cases h
            exact (Keeps.set (by rw [hb]; simp) (by simp)).trans (Keeps.append _ _ (by simp))
          · cases h
        · cases h
    · cases h

theorem aop_keeps {o : AOp} {tm : Tm} {v : Value} {H H' : Hp} (h : aop o tm H = some (v, H')) : Keeps H H' := by
  cases o <;> simp only [aop] at h
  case append => exact aappend_keeps h
  case appz =>
    split at h
    · split at h
      · cases h; exact Keeps.append _ _ (by simp)
      · cases h
    · cases h
  case clear =>
    split at h
    · cases h; exact Keeps.refl _
    · split at h
      · cases h; exact Keeps.refl _
      · split at h
        · rename_i hb
          split at h
          · cases h; exact Keeps.set (by rw [hb]; simp) (by simp)
          · cases h
        · cases h
    · cases h
  case store =>
    split at h
    · split at h
      · rename_i hb
        split at h
        · cases h; exact Keeps.set (by rw [hb]; simp) (by simp)
        · cases h
      · cases h
    · cases h
  case alloc => cases hn : anew (AOp.alloc _) tm H.length <;> rw [hn] at h <;> cases h; exact Keeps.append _ _ (anew_rw hn)
  case box => cases hn : anew (AOp.box _) tm H.length <;> rw [hn] at h <;> cases h; exact Keeps.append _ _ (anew_rw hn)
  case mkslice => cases hn : anew (AOp.mkslice ..) tm H.length <;> rw [hn] at h <;> cases h; exact Keeps.append _ _ (anew_rw hn)
  case bslice => cases hn : anew (AOp.bslice ..) tm H.length <;> rw [hn] at h <;> cases h; exact Keeps.append _ _ (anew_rw hn)
  all_goals (
    (repeat' split at h) <;> first
      | (cases h; exact Keeps.refl _)
      | (cases h; done)
      | (obtain ⟨_, _, h2⟩ := Option.map_eq_some_iff.1 h; cases h2; exact Keeps.refl _))

def KeepC (call : CallF) : Prop := ∀ f args H r H', call f args H = some (r, H') → Keeps H H'
theorem arun_keeps {call : CallF} (hk : KeepC call) {o : AOp} {tm : Tm} {v : Value} {H H' : Hp} (h : arun call o tm H = some (v, H')) : Keeps H H' := by
  unfold arun at h
  split at h
  · exact hk _ _ _ _ _ h
  · split at h
    · exact hk _ _ _ _ _ h
    · cases h
  · exact aop_keeps h
theorem aregion_keeps {call : CallF} (hk : KeepC call) : ∀ (ops : List DOp) (s s' : St), aregion call ops s = some s' → Keeps s.2 s'.2
  | [], s, s', h => by simp [aregion] at h; subst h; exact Keeps.refl _
  | o :: ops, s, s', h => by
    simp only [aregion] at h
    split at h
    · split at h
      · rename_i hr
        exact (arun_keeps hk hr).trans (aregion_keeps hk ops _ _ h)
      · cases h
    · exact aregion_keeps hk ops (put s.1 o.dst undef, s.2) s' h

theorem pure_same {o : AOp} (hk : kindOf o = .pure) {tm : Tm} {v : Value} {H H' : Hp} (h : aop o tm H = some (v, H')) : H' = H ∧ ∀ H2, aop o tm H2 = some (v, H2) := by
  cases o <;> simp only [kindOf] at hk <;> first | (cases hk; done) | skip
  all_goals (
    simp only [aop] at h ⊢
    (repeat' split at h) <;> first
      | (cases h; refine ⟨rfl, fun H2 => ?_⟩; simp [*]; done)
      | (cases h; done)
      | (obtain ⟨q, hq, h2⟩ := Option.map_eq_some_iff.1 h; cases h2; refine ⟨rfl, fun H2 => ?_⟩; simp [*]; done)
      | (obtain ⟨q, hq, h2⟩ := Option.map_eq_some_iff.1 h; cases h2; refine ⟨rfl, fun H2 => ?_⟩; simp_all; done))

theorem read_same {o : AOp} (hk : kindOf o = .read) {tm : Tm} {v : Value} {H H' : Hp} (h : aop o tm H = some (v, H')) :
    H' = H ∧ ∀ H2 : Hp, (∀ b, rblk o tm = some b → H2[b]? = H[b]?) → aop o tm H2 = some (v, H2) := by
  cases o <;> simp only [kindOf] at hk <;> first | (cases hk; done) | skip
  case slice sz x lo hi =>
    simp only [aop] at h ⊢
    obtain ⟨q, hq, h2⟩ := Option.map_eq_some_iff.1 h
    cases h2
    refine ⟨rfl, fun H2 hb => ?_⟩
    have : aslice H2 sz (ev tm x) (lo.map (ev tm)) (hi.map (ev tm)) = some v := by
      rw [← hq]
      unfold aslice
      split
      · rfl
      · rename_i a n m e
        have := hb a.block (by simp [rblk, e])
        have he : H2.esz a.block = H.esz a.block := by unfold Hp.esz; rw [this]
        simp only [he]
      · rfl
    rw [this]; rfl
  case load n b x =>
    simp only [aop] at h ⊢
    split at h
    · rename_i a e
      split at h
      · rename_i hs
        obtain ⟨q, hq, h2⟩ := Option.map_eq_some_iff.1 h
        cases h2
        refine ⟨rfl, fun H2 hb => ?_⟩
        have hb' := hb a.block (by simp [rblk, e])
        have : H2.load a n = H.load a n := by unfold Hp.load Hp.cells; rw [hb']
        rw [if_pos hs, this, hq]; rfl
      · cases h
    · cases h

theorem ev_congr {tm tm' : Tm} {xs : List Operand} (h : ∀ x ∈ xs, ev tm x = ev tm' x) {x : Operand} (hx : x ∈ xs) : ev tm x = ev tm' x := h x hx
theorem map_congr' {tm tm' : Tm} {xs : List Operand} (h : ∀ x ∈ xs, ev tm x = ev tm' x) : xs.map (ev tm) = xs.map (ev tm') := List.map_congr_left h
theorem anew_congr {o : AOp} {tm tm' : Tm} (h : ∀ x ∈ opTmps o, ev tm x = ev tm' x) (k : Nat) : anew o tm k = anew o tm' k := by
  cases o <;> simp only [anew] <;> simp only [opTmps, List.mem_cons, List.not_mem_nil, or_false, forall_eq_or_imp, forall_eq, List.mem_map] at h
  case box x => rw [h]
  case mkslice => rw [h.1, h.2]
  case bslice sz len t ps =>
    have : (ps.map fun p => (p.1, p.2.1, ev tm p.2.2)) = ps.map fun p => (p.1, p.2.1, ev tm' p.2.2) := List.map_congr_left fun p hp => by rw [h _ ⟨p, hp, rfl⟩]
    rw [this]
theorem aop_congr {o : AOp} {tm tm' : Tm} (h : ∀ x ∈ opTmps o, ev tm x = ev tm' x) (H : Hp) : aop o tm H = aop o tm' H := by
  have hn := anew_congr h H.length
  cases o <;> simp only [aop] <;> simp only [opTmps, List.mem_cons, List.not_mem_nil, or_false, forall_eq_or_imp, forall_eq, List.mem_map, List.mem_append] at h
  case build z ps =>
    have : (ps.map fun p => (p.1, p.2.1, ev tm p.2.2)) = ps.map fun p => (p.1, p.2.1, ev tm' p.2.2) := List.map_congr_left fun p hp => by rw [h _ ⟨p, hp, rfl⟩]
    rw [this]
  case mkfn fn xs => rw [List.map_congr_left h]
  case mm b xs => rw [List.map_congr_left h]
  case slice sz x lo hi =>
    obtain ⟨h1, h2⟩ := h
    have e1 : lo.map (ev tm) = lo.map (ev tm') := by
      cases lo with
      | none => rfl
      | some y => simp only [Option.map_some]; rw [h2 y (.inl (by simp))]
    have e2 : hi.map (ev tm) = hi.map (ev tm') := by
      cases hi with
      | none => rfl
      | some y => simp only [Option.map_some]; rw [h2 y (.inr (by simp))]
    rw [h1, e1, e2]
  case alloc => exact congrArg _ hn
  case box => exact congrArg _ hn
  case mkslice => exact congrArg _ hn
  case bslice => exact congrArg _ hn
  all_goals (first | rfl | (rw [h]; done) | (rw [h.1, h.2]; done) | (rw [h.1, h.2.1, h.2.2]; done))
theorem arun_congr {call : CallF} {o : AOp} {tm tm' : Tm} (h : ∀ x ∈ opTmps o, ev tm x = ev tm' x) (H : Hp) : arun call o tm H = arun call o tm' H := by
  cases o
  case call f xs =>
    have h2 : xs.map (ev tm) = xs.map (ev tm') := map_congr' fun y hy => h y (by simpa [opTmps] using hy)
    simp only [arun]; rw [h2]
  case callv x xs =>
    simp only [arun]
    have h1 := h x (by simp [opTmps])
    have h2 : xs.map (ev tm) = xs.map (ev tm') := map_congr' fun y hy => h y (by simp [opTmps, hy])
    rw [h1, h2]
  all_goals exact aop_congr h H

end Go.Ab

/- The abstract machine, part 12 c: the runs of a drawn region. Own work. -/
namespace Go.Ab
open Go

theorem ancsAux_spec : ∀ (os : List Oper) (acc : List (List Nat)), (ancsAux os acc).length = acc.length + os.length ∧ (∀ i, i < acc.length → (ancsAux os acc)[i]? = acc[i]?) ∧
    ∀ (j : Nat) (o : Oper), os[j]? = some o → ∃ l : List (List Nat), (∀ i : Nat, i < acc.length + j → l[i]? = (ancsAux os acc)[i]?) ∧ (ancsAux os acc)[acc.length + j]? = some (anc1 l o)
  | [], acc => ⟨by simp [ancsAux], fun i _ => rfl, fun j o h => by simp at h⟩
  | o :: os, acc => by
    obtain ⟨h1, h2, h3⟩ := ancsAux_spec os (acc ++ [anc1 acc o])
    have hlen : (acc ++ [anc1 acc o]).length = acc.length + 1 := by simp
    refine ⟨by simp only [ancsAux, h1, hlen, List.length_cons]; omega, fun i hi => ?_, fun j q hj => ?_⟩
    · simp only [ancsAux]
      rw [h2 i (by rw [hlen]; omega), List.getElem?_append_left hi]
    · cases j with
      | zero =>
        simp at hj; subst hj
        refine ⟨acc, fun i hi => ?_, ?_⟩
        · simp only [ancsAux]
          rw [h2 i (by rw [hlen]; omega), List.getElem?_append_left hi]
        · simp only [ancsAux]
          rw [h2 _ (by rw [hlen]; omega), Nat.add_zero, List.getElem?_append_right (Nat.le_refl _)]
          simp
      | succ j =>
        obtain ⟨l, hl, hg⟩ := h3 j q (by simpa using hj)
        refine ⟨l, fun i hi => ?_, ?_⟩
        · simp only [ancsAux]; exact hl i (by rw [hlen]; omega)
        · simp only [ancsAux]; rw [← hg, hlen]; congr 1; omega

theorem ancs_mem {ops : List Oper} (he : edgesOk ops = true) {i : Nat} {o : Oper} (ho : ops[i]? = some o) {j : Nat} (hj : j ∈ (ancs ops).getD i []) :
    ∃ e ∈ o.after.toList, Region.binds .any e = true ∧ e.on < i ∧ (j = e.on ∨ j ∈ (ancs ops).getD e.on []) := by
  obtain ⟨h1, h2, h3⟩ := ancsAux_spec ops []
  obtain ⟨l, hl, hg⟩ := h3 i o ho
  simp only [List.length_nil, Nat.zero_add] at hl hg
  have hj' : j ∈ anc1 l o := by
    have : (ancs ops).getD i [] = anc1 l o := by rw [List.getD_eq_getElem?_getD]; show ((ancsAux ops [])[i]?).getD [] = _; rw [hg]; rfl
    rwa [this] at hj
  unfold anc1 at hj'
  rw [List.mem_eraseDups, List.mem_flatMap] at hj'
  obtain ⟨e, hme, hmem⟩ := hj'
  rw [List.mem_filter] at hme
  have hi : i < ops.length := by
    rcases Nat.lt_or_ge i ops.length with h | h
    · exact h
    · rw [List.getElem?_eq_none h] at ho; cases ho
  have hlt : e.on < i := by
    have := List.all_eq_true.1 he i (by simpa using hi)
    rw [ho] at this
    simp only [Option.map_some, Option.getD_some] at this
    have := List.all_eq_true.1 this e (List.mem_filter.2 hme)
    simpa using this
  refine ⟨e, hme.1, hme.2, hlt, ?_⟩
  rcases List.mem_cons.1 hmem with h | h
  · exact .inl h
  · right
    have : l.getD e.on [] = (ancs ops).getD e.on [] := by
      rw [List.getD_eq_getElem?_getD, List.getD_eq_getElem?_getD, hl e.on hlt]; rfl
    rwa [this] at h

theorem edges_lt {ops : List Oper} (he : edgesOk ops = true) {i : Nat} {o : Oper} (ho : ops[i]? = some o) {e : Edge} (hm : e ∈ o.after.toList) (hb : Region.binds .any e = true) : e.on < i := by
  have hi : i < ops.length := by
    rcases Nat.lt_or_ge i ops.length with h | h
    · exact h
    · rw [List.getElem?_eq_none h] at ho; cases ho
  have := List.all_eq_true.1 he i (by simpa using hi)
  rw [ho] at this
  simp only [Option.map_some, Option.getD_some] at this
  have := List.all_eq_true.1 this e (List.mem_filter.2 ⟨hm, hb⟩)
  simpa using this

theorem ancs_lt {ops : List Oper} (he : edgesOk ops = true) : ∀ (i : Nat) (o : Oper), ops[i]? = some o → ∀ j, j ∈ (ancs ops).getD i [] → j < i := by
  intro i
  induction i using Nat.strongRecOn with
  | _ i ih =>
    intro o ho j hj
    obtain ⟨e, _, _, hlt, h⟩ := ancs_mem he ho hj
    rcases h with rfl | h
    · exact hlt
    · have hi : i < ops.length := by
        rcases Nat.lt_or_ge i ops.length with h | h
        · exact h
        · rw [List.getElem?_eq_none h] at ho; cases ho
      have := ih e.on hlt ops[e.on] (List.getElem?_eq_getElem (by omega)) j h
      omega

/-- What is closed under the edges is closed under all that comes before. -/
theorem ancs_closed {ops : List Oper} (he : edgesOk ops = true) {L : Nat → Bool} (hL : ∀ k o, L k = true → ops[k]? = some o → ∀ e ∈ o.after.toList, Region.binds .any e = true → L e.on = true) :
    ∀ (i : Nat) (o : Oper), ops[i]? = some o → (∀ e ∈ o.after.toList, Region.binds .any e = true → L e.on = true) → ∀ j, j ∈ (ancs ops).getD i [] → L j = true := by
  intro i
  induction i using Nat.strongRecOn with
  | _ i ih =>
    intro o ho hr j hj
    obtain ⟨e, hm, hb, hlt, h⟩ := ancs_mem he ho hj
    have hLe := hr e hm hb
    rcases h with rfl | h
    · exact hLe
    · have hi : i < ops.length := by
        rcases Nat.lt_or_ge i ops.length with h | h
        · exact h
        · rw [List.getElem?_eq_none h] at ho; cases ho
      have hq : ops[e.on]? = some ops[e.on] := List.getElem?_eq_getElem (by omega)
      exact ih e.on hlt ops[e.on] hq (hL e.on _ hLe hq) j h

/-- The temporaries behind those operations that have been carried out. -/
def tmS (ops : List DOp) (vf : Nat → Value) (L : Nat → Bool) (tm : Tm) : Nat → Tm
  | 0 => tm
  | n + 1 => match ops[n]? with
    | some o => if L n then put (tmS ops vf L tm n) o.dst (vf n) else tmS ops vf L tm n
    | none => tmS ops vf L tm n
theorem put_ne {tm : Tm} {d : Option Nat} {v : Value} {x : Nat} (h : d ≠ some x) : put tm d v x = tm x := by
  cases d with
  | none => rfl
  | some t => exact upd_ne tm v (fun e => h (by rw [e]))
theorem put_eq {tm : Tm} {d : Option Nat} {v : Value} {x : Nat} (h : d = some x) : put tm d v x = v := by subst h; exact upd_same ..
theorem tmS_agree {ops : List DOp} {vf : Nat → Value} {L L' : Nat → Bool} {tm : Tm} {x : Nat} : ∀ n, (∀ k o, k < n → ops[k]? = some o → o.dst = some x → L k = L' k) → tmS ops vf L tm n x = tmS ops vf L' tm n x
  | 0, _ => rfl
  | n + 1, h => by
    have ih := tmS_agree (ops := ops) (vf := vf) (L := L) (L' := L') (tm := tm) (x := x) n (fun k o hk => h k o (by omega))
    simp only [tmS]
    cases ho : ops[n]? with
    | none => exact ih
    | some o =>
      simp only
      by_cases hd : o.dst = some x
      · rw [← h n o (by omega) ho hd]
        cases L n with
        | true => simp only [if_true]; rw [put_eq hd, put_eq hd]
        | false => exact ih
      · have e1 : (if L n then put (tmS ops vf L tm n) o.dst (vf n) else tmS ops vf L tm n) x = tmS ops vf L tm n x := by split; exact put_ne hd; rfl
        have e2 : (if L' n then put (tmS ops vf L' tm n) o.dst (vf n) else tmS ops vf L' tm n) x = tmS ops vf L' tm n x := by split; exact put_ne hd; rfl
        rw [e1, e2, ih]
theorem tmS_later {ops : List DOp} {vf : Nat → Value} {L : Nat → Bool} {tm : Tm} {x : Nat} (n : Nat) : ∀ d, (∀ k o, n ≤ k → k < n + d → ops[k]? = some o → o.dst = some x → L k = false) → tmS ops vf L tm (n + d) x = tmS ops vf L tm n x
  | 0, _ => rfl
  | d + 1, h => by
    have ih := tmS_later (ops := ops) (vf := vf) (L := L) (tm := tm) (x := x) n d (fun k o h1 h2 => h k o h1 (by omega))
    rw [← Nat.add_assoc]
    simp only [tmS]
    cases ho : ops[n + d]? with
    | none => exact ih
    | some o =>
      simp only
      by_cases hd : o.dst = some x
      · rw [h (n + d) o (by omega) (by omega) ho hd]; exact ih
      · split
        · rw [put_ne hd]; exact ih
        · exact ih

theorem dtrace_spec {call : CallF} {base m : Nat} : ∀ (ops : List DOp) (i : Nat) (s : St) (tr : List St), dtrace call base m ops i s = some tr → tr.length = ops.length + 1 ∧ tr[0]? = some s ∧
    ∀ (j : Nat) (o : DOp), ops[j]? = some o → ∃ sj sj1 v, tr[j]? = some sj ∧ tr[j + 1]? = some sj1 ∧ dstep call base m (i + j) o sj = some (v, sj1.2) ∧ sj1.1 = put sj.1 o.dst v
  | [], i, s, tr, h => by simp [dtrace] at h; subst h; exact ⟨rfl, rfl, fun j o h => by simp at h⟩
  | o :: ops, i, s, tr, h => by
    simp only [dtrace] at h
    split at h
    · rename_i v H' hd
      obtain ⟨r, hr, rfl⟩ := Option.map_eq_some_iff.1 h
      obtain ⟨h1, h2, h3⟩ := dtrace_spec ops (i + 1) _ r hr
      refine ⟨by simp [h1], rfl, fun j q hq => ?_⟩
      cases j with
      | zero =>
        simp at hq; subst hq
        exact ⟨s, _, v, rfl, by simpa using h2, hd, rfl⟩
      | succ j =>
        obtain ⟨sj, sj1, v', g1, g2, g3, g4⟩ := h3 j q (by simpa using hq)
        exact ⟨sj, sj1, v', by simpa using g1, by simpa using g2, by rw [← g3]; congr 1; omega, g4⟩
    · cases h

end Go.Ab

/- The abstract machine, part 12 d: the model follows a drawn region, whatever the order. Own work. -/
namespace Go.Ab
open Go

/-- All that is known of a drawn region that the abstract machine runs. -/
structure Ctx (P : Program) (call : CallF) (N : Nat) (ops : Array Oper) (base : Nat) (tmf : Nat → Tm) (Hf : Nat → Hp) (vf : Nat → Value) (dops : List DOp) : Prop where
  hm : dops.length = ops.size
  keep : KeepC call
  ok : CallOk P call
  edges : edgesOk ops.toList = true
  get : ∀ (i : Nat) o, ops[i]? = some o → ∃ sl, dops[i]? = some (cOper P N ops sl o)
  slots : ∀ (i : Nat) d, dops[i]? = some d → kindOf d.op = .read → ∀ k ∈ d.slots, k ∈ (ancs ops.toList).getD i [] ∧
    ∀ (l : Nat) dl, dops[l]? = some dl → kindOf dl.op = .loud → unordered (ancs ops.toList) i l = false
  pairs : ∀ (i l : Nat) d dl, dops[i]? = some d → kindOf d.op = .read → dops[l]? = some dl → kindOf dl.op = .loud → unordered (ancs ops.toList) i l = true →
    again d (tmf i, Hf i) (Hf l) = true ∧ again d (tmf i, Hf i) (Hf (l + 1)) = true
  static : ∀ (i j : Nat) x y, i < j → dops[i]? = some x → dops[j]? = some y → i ∈ (ancs ops.toList).getD j [] ∨
    (clash x y = false ∧ ¬ (kindOf x.op = .loud ∧ kindOf y.op = .loud) ∧ ¬ (kindOf x.op = .new ∧ kindOf y.op = .loud))
  step : ∀ (j : Nat) o, dops[j]? = some o → dstep call base dops.length j o (tmf j, Hf j) = some (vf j, Hf (j + 1)) ∧ tmf (j + 1) = put (tmf j) o.dst (vf j)
  dead0 : ∀ k, k < dops.length → (Hf 0)[base + k]? = some Blk.dead

section
variable {P : Program} {call : CallF} {N : Nat} {ops : Array Oper} {base : Nat} {tmf : Nat → Tm} {Hf : Nat → Hp} {vf : Nat → Value} {dops : List DOp}

theorem Ctx.some_ (C : Ctx P call N ops base tmf Hf vf dops) {i : Nat} (hi : i < dops.length) : ∃ d, dops[i]? = some d := ⟨dops[i], by simp [hi]⟩
theorem lt_of_some {α : Type} {l : List α} {i : Nat} {x : α} (h : l[i]? = some x) : i < l.length := by
  rcases Nat.lt_or_ge i l.length with q | q
  · exact q
  · rw [List.getElem?_eq_none q] at h; cases h

/-- What a step does to the heap. -/
theorem Ctx.heap_step (C : Ctx P call N ops base tmf Hf vf dops) {j : Nat} {d : DOp} (hd : dops[j]? = some d) :
    ((Hf j).length ≤ (Hf (j + 1)).length ∧ ∀ b : Nat, b ≠ base + j → (Hf j)[b]? = some Blk.dead → (Hf (j + 1))[b]? = some Blk.dead) ∧ (kindOf d.op ≠ .loud → ∀ b : Nat, b ≠ base + j → (Hf (j + 1))[b]? = (Hf j)[b]?) ∧
    (kindOf d.op ≠ .loud → kindOf d.op ≠ .new → Hf (j + 1) = Hf j) := by
  have hs := (C.step j d hd).1
  unfold dstep at hs
  split at hs
  · cases hk : kindOf d.op with
    | pure =>
      rw [hk] at hs
      obtain ⟨e, _⟩ := pure_same hk hs
      have e : Hf (j + 1) = Hf j := e
      rw [e]
      exact ⟨⟨Nat.le_refl _, fun _ _ h => h⟩, fun _ _ _ => rfl, fun _ _ => rfl⟩
    | read =>
      rw [hk] at hs
      simp only at hs
      split at hs
      · obtain ⟨e, _⟩ := read_same hk hs
        have e : Hf (j + 1) = Hf j := e
        rw [e]
        exact ⟨⟨Nat.le_refl _, fun _ _ h => h⟩, fun _ _ _ => rfl, fun _ _ => rfl⟩
      · cases hs
    | new =>
      rw [hk] at hs
      simp only at hs
      obtain ⟨p, hp, e⟩ := Option.map_eq_some_iff.1 hs
      have e2 := (Prod.mk.inj e).2
      rw [← e2]
      exact ⟨⟨by simp, fun b hb h => by rw [List.getElem?_set_ne (by omega)]; exact h⟩, fun _ b hb => List.getElem?_set_ne (fun e => hb e.symm), fun _ h => absurd rfl h⟩
    | loud =>
      rw [hk] at hs
      simp only at hs
      obtain ⟨h1, h2, _⟩ := arun_keeps C.keep hs
      exact ⟨⟨h1, fun b _ h => h2 b h⟩, fun h => absurd rfl h, fun h => absurd rfl h⟩
  · have e2 := (Prod.mk.inj (Option.some.inj hs)).2
    rw [← e2]
    exact ⟨⟨Nat.le_refl _, fun _ _ h => h⟩, fun _ _ _ => rfl, fun _ _ => rfl⟩

theorem Ctx.heap_mono (C : Ctx P call N ops base tmf Hf vf dops) : ∀ (d j : Nat), j + d ≤ dops.length → (Hf j).length ≤ (Hf (j + d)).length
  | 0, j, _ => Nat.le_refl _
  | d + 1, j, h => by
    obtain ⟨x, hx⟩ := C.some_ (i := j + d) (by omega)
    exact Nat.le_trans (C.heap_mono d j (by omega)) (C.heap_step hx).1.1

theorem Ctx.ro_step (C : Ctx P call N ops base tmf Hf vf dops) {j : Nat} {d : DOp} (hd : dops[j]? = some d) (b z : Nat) (vs : List Value) (h : (Hf (j + 1))[b]? = some (.ro z vs)) : (Hf j)[b]? = some (.ro z vs) := by
  have hs := (C.step j d hd).1
  by_cases hl : kindOf d.op = .loud
  · unfold dstep at hs
    split at hs
    · rw [hl] at hs
      exact (arun_keeps C.keep hs).2.2 b z vs h
    · have e2 := (Prod.mk.inj (Option.some.inj hs)).2
      rw [← e2] at h; exact h
  · by_cases hb : b = base + j
    · subst hb
      unfold dstep at hs
      split at hs
      · cases hk : kindOf d.op with
        | new =>
          rw [hk] at hs
          simp only at hs
          obtain ⟨p, hp, e⟩ := Option.map_eq_some_iff.1 hs
          have e2 := (Prod.mk.inj e).2
          rw [← e2] at h
          rw [List.getElem?_set] at h
          simp at h
          exact absurd h.2 (anew_rw (v := p.1) (b := p.2) hp z vs)
        | loud => exact absurd hk hl
        | pure => rw [(C.heap_step hd).2.2 (by rw [hk]; simp) (by rw [hk]; simp)] at h; exact h
        | read => rw [(C.heap_step hd).2.2 (by rw [hk]; simp) (by rw [hk]; simp)] at h; exact h
      · have e2 := (Prod.mk.inj (Option.some.inj hs)).2
        rw [← e2] at h; exact h
    · rw [(C.heap_step hd).2.1 hl b hb] at h; exact h
theorem Ctx.ro (C : Ctx P call N ops base tmf Hf vf dops) (b z : Nat) (vs : List Value) : ∀ j, j ≤ dops.length → (Hf j)[b]? = some (.ro z vs) → (Hf 0)[b]? = some (.ro z vs)
  | 0, _, h => h
  | j + 1, hj, h => by
    obtain ⟨d, hd⟩ := C.some_ (i := j) (by omega)
    exact C.ro b z vs j (by omega) (C.ro_step hd b z vs h)
theorem Ctx.dead (C : Ctx P call N ops base tmf Hf vf dops) (b : Nat) (hb : b < base) : ∀ j, j ≤ dops.length → (Hf 0)[b]? = some Blk.dead → (Hf j)[b]? = some Blk.dead
  | 0, _, h => h
  | j + 1, hj, h => by
    obtain ⟨d, hd⟩ := C.some_ (i := j) (by omega)
    exact (C.heap_step hd).1.2 b (by omega) (C.dead b hb j (by omega) h)

/-- A free place is free until its turn. -/
theorem Ctx.free (C : Ctx P call N ops base tmf Hf vf dops) {k : Nat} (hk : k < dops.length) : ∀ j, j ≤ k → (Hf j)[base + k]? = some Blk.dead
  | 0, _ => C.dead0 k hk
  | j + 1, h => by
    obtain ⟨x, hx⟩ := C.some_ (i := j) (by omega)
    exact (C.heap_step hx).1.2 _ (by omega) (C.free hk j (by omega))

/-- From p on to i no loud operation: the heaps differ in the new blocks alone. -/
theorem Ctx.calm (C : Ctx P call N ops base tmf Hf vf dops) {p : Nat} : ∀ (i : Nat), p ≤ i → i ≤ dops.length → (∀ k d, p ≤ k → k < i → dops[k]? = some d → kindOf d.op ≠ .loud) →
    ∀ b : Nat, (Hf i)[b]? = if base ≤ b ∧ p ≤ b - base ∧ b - base < i then (Hf (b - base + 1))[b]? else (Hf p)[b]? := by
  intro i hpi
  induction i with
  | zero => intro _ _ b; have : p = 0 := by omega
            subst this; rw [if_neg (by omega)]
  | succ i ih =>
    intro hi hq b
    by_cases he : p = i + 1
    · subst he; rw [if_neg (by omega)]
    · obtain ⟨d, hd⟩ := C.some_ (i := i) (by omega)
      have hst := (C.heap_step hd).2.1 (hq i d (by omega) (by omega) hd)
      have ih' := ih (by omega) (by omega) (fun k d h1 h2 => hq k d h1 (by omega)) b
      by_cases hb : b = base + i
      · subst hb
        rw [if_pos (by omega)]
        congr 2; omega
      · rw [hst b hb, ih']
        by_cases hc : base ≤ b ∧ p ≤ b - base ∧ b - base < i
        · rw [if_pos hc, if_pos (by omega)]
        · rw [if_neg hc, if_neg (by omega)]
theorem Ctx.calm_len (C : Ctx P call N ops base tmf Hf vf dops) {p : Nat} : ∀ (i : Nat), p ≤ i → i ≤ dops.length → (∀ k d, p ≤ k → k < i → dops[k]? = some d → kindOf d.op ≠ .loud) → (Hf i).length = (Hf p).length := by
  intro i hpi
  induction i with
  | zero => intro _ _; have : p = 0 := by omega
            subst this; rfl
  | succ i ih =>
    intro hi hq
    by_cases he : p = i + 1
    · subst he; rfl
    · obtain ⟨d, hd⟩ := C.some_ (i := i) (by omega)
      rw [← ih (by omega) (by omega) (fun k d h1 h2 => hq k d h1 (by omega))]
      have hnl := hq i d (by omega) (by omega) hd
      by_cases hn : kindOf d.op = .new
      · have hs := (C.step i d hd).1
        unfold dstep at hs
        split at hs
        · rw [hn] at hs
          simp only at hs
          obtain ⟨p, hp, e⟩ := Option.map_eq_some_iff.1 hs
          have e2 := (Prod.mk.inj e).2
          rw [← e2]
          simp
        · have e2 := (Prod.mk.inj (Option.some.inj hs)).2
          rw [← e2]
      · rw [(C.heap_step hd).2.2 hnl hn]

theorem Ctx.tmf_eq (C : Ctx P call N ops base tmf Hf vf dops) : ∀ n, n ≤ dops.length → tmf n = tmS dops vf (fun _ => true) (tmf 0) n
  | 0, _ => rfl
  | n + 1, h => by
    obtain ⟨d, hd⟩ := C.some_ (i := n) (by omega)
    rw [(C.step n d hd).2, C.tmf_eq n (by omega)]
    simp only [tmS, hd, if_true]

/-- What has been carried out so far, and how the model's state stands to it. -/
structure At (P : Program) (call : CallF) (N : Nat) (ops : Array Oper) (base : Nat) (tmf : Nat → Tm) (Hf : Nat → Hp) (vf : Nat → Value) (dops : List DOp)
    (ι0 : Emb) (w0 : World) (H0 : Hp) (L : Nat → Bool) (p : Nat) (h : Hp) (ι : Emb) (a : Act) (w : World) : Prop where
  ple : p ≤ dops.length
  louds : ∀ (k : Nat) d, dops[k]? = some d → kindOf d.op = .loud → (L k = true ↔ k < p)
  last : p = 0 ∨ ∃ d, dops[p - 1]? = some d ∧ kindOf d.op = .loud ∧ L (p - 1) = true ∧ 0 < p
  hlen : h.length = (Hf p).length
  heap : ∀ b : Nat, h[b]? = if base ≤ b ∧ p ≤ b - base ∧ b - base < dops.length ∧ L (b - base) = true then (Hf (b - base + 1))[b]? else (Hf p)[b]?
  sim : Sim ι h w
  tmps : TR ι N (tmS dops vf L (tmf 0) dops.length) a
  none_ : ∀ k, k < dops.length → L k = false → ι (base + k) = none
  emb : ι0.le ι
  old : ∀ b, b < base → ι b = ι0 b
  os : w.os = w0.os
  tape : w.tape = w0.tape
  output : w.output = w0.output
  size : w0.heap.size ≤ w.heap.size
  kept : ∀ g, g < w0.heap.size → ¬ OwnW ι0 H0 g → w.heap[g]? = w0.heap[g]?
  own : ∀ g, g < w0.heap.size → OwnW ι h g → OwnW ι0 H0 g

end
end Go.Ab

/- The abstract machine, part 12 e: one operation of a drawn region, in whatever order. Own work. -/
namespace Go.Ab
open Go

section
variable {P : Program} {call : CallF} {N : Nat} {ops : Array Oper} {base : Nat} {tmf : Nat → Tm} {Hf : Nat → Hp} {vf : Nat → Value} {dops : List DOp}
  {ι0 : Emb} {w0 : World} {H0 : Hp} {L : Nat → Bool} {p : Nat} {h : Hp} {ι : Emb} {a : Act} {w : World}

theorem At.room (C : Ctx P call N ops base tmf Hf vf dops) (A : At P call N ops base tmf Hf vf dops ι0 w0 H0 L p h ι a w) {k : Nat} (hk : k < dops.length) : base + k < h.length := by
  rw [A.hlen]
  have := C.heap_mono p 0 (by have := A.ple; omega)
  rw [Nat.zero_add] at this
  have h0 := lt_of_some (C.dead0 k hk)
  omega

/-- The parts of 'At' that speak of the world alone. -/
theorem At.next (A : At P call N ops base tmf Hf vf dops ι0 w0 H0 L p h ι a w) {L' : Nat → Bool} {p' : Nat} {h' : Hp} {ι' : Emb} {a' : Act} {w' : World}
    (hple : p' ≤ dops.length) (hlouds : ∀ (k : Nat) d, dops[k]? = some d → kindOf d.op = .loud → (L' k = true ↔ k < p'))
    (hlast : p' = 0 ∨ ∃ d, dops[p' - 1]? = some d ∧ kindOf d.op = .loud ∧ L' (p' - 1) = true ∧ 0 < p') (hlen : h'.length = (Hf p').length)
    (hheap : ∀ b : Nat, h'[b]? = if base ≤ b ∧ p' ≤ b - base ∧ b - base < dops.length ∧ L' (b - base) = true then (Hf (b - base + 1))[b]? else (Hf p')[b]?)
    (hsim : Sim ι' h' w') (htmps : TR ι' N (tmS dops vf L' (tmf 0) dops.length) a') (hnone : ∀ k, k < dops.length → L' k = false → ι' (base + k) = none)
    (hemb : ι.le ι') (hold : ∀ b, b < base → ι' b = ι b) (hos : w'.os = w.os) (htape : w'.tape = w.tape) (hout : w'.output = w.output) (hsize : w.heap.size ≤ w'.heap.size)
    (hkeep : ∀ g, g < w.heap.size → ¬ OwnW ι h g → w'.heap[g]? = w.heap[g]?) (hown : ∀ g, g < w.heap.size → OwnW ι' h' g → OwnW ι h g) :
    At P call N ops base tmf Hf vf dops ι0 w0 H0 L' p' h' ι' a' w' :=
  ⟨hple, hlouds, hlast, hlen, hheap, hsim, htmps, hnone, A.emb.trans hemb, fun b hb => (hold b hb).trans (A.old b hb), hos.trans A.os, htape.trans A.tape, hout.trans A.output,
    Nat.le_trans A.size hsize, fun g hg hn => (hkeep g (Nat.lt_of_lt_of_le hg A.size) fun q => hn (A.own g hg q)).trans (A.kept g hg hn),
    fun g hg q => A.own g hg (hown g (Nat.lt_of_lt_of_le hg A.size) q)⟩

/-- One more has been carried out. -/
def more (L : Nat → Bool) (i : Nat) : Nat → Bool := fun k => k == i || L k
theorem more_same (L : Nat → Bool) (i : Nat) : more L i i = true := by simp [more]
theorem more_ne (L : Nat → Bool) {i k : Nat} (h : k ≠ i) : more L i k = L k := by simp [more, h]

/-- What is used of an operation that may come up now. -/
structure Rdy (ops : Array Oper) (dops : List DOp) (L : Nat → Bool) (i : Nat) (d : DOp) : Prop where
  get : dops[i]? = some d
  no : L i = false
  anc : ∀ j, j ∈ (ancs ops.toList).getD i [] → L j = true
  desc : ∀ k, k < dops.length → L k = true → i ∉ (ancs ops.toList).getD k []

theorem clash_left {x y : DOp} {t : Nat} (h : x.dst = some t) (hy : t ∈ looks y ∨ y.dst = some t) : clash x y = true := by
  unfold clash
  rw [h]
  rcases hy with hy | hy
  · simp [hy]
  · simp [hy]
theorem clash_right {x y : DOp} {t : Nat} (h : y.dst = some t) (hx : t ∈ looks x) : clash x y = true := by
  unfold clash
  rw [h]
  simp [hx]

theorem Rdy.tmps (C : Ctx P call N ops base tmf Hf vf dops) {i : Nat} {d : DOp} (R : Rdy ops dops L i d) {t : Nat} (ht : t ∈ looks d) : tmS dops vf L (tmf 0) dops.length t = tmf i t := by
  have hi := lt_of_some R.get
  rw [C.tmf_eq i (by omega)]
  have e1 : tmS dops vf L (tmf 0) dops.length t = tmS dops vf L (tmf 0) i t := by
    have := tmS_later (ops := dops) (vf := vf) (L := L) (tm := tmf 0) (x := t) i (dops.length - i) (fun k o h1 h2 hk hd => by
      by_cases e : k = i
      · rw [e]; exact R.no
      · rcases C.static i k d o (by omega) R.get hk with hs | ⟨hs, _⟩
        · cases hL : L k with
          | false => rfl
          | true => exact absurd hs (R.desc k (by omega) hL)
        · rw [clash_right hd ht] at hs; cases hs)
    rwa [Nat.add_sub_cancel' (by omega)] at this
  rw [e1]
  refine tmS_agree i fun k o hk ho hd => ?_
  rcases C.static k i o d hk ho R.get with hs | ⟨hs, _⟩
  · exact R.anc k hs
  · rw [clash_left hd (.inl ht)] at hs; cases hs

theorem Rdy.put (C : Ctx P call N ops base tmf Hf vf dops) {i : Nat} {d : DOp} (R : Rdy ops dops L i d) : tmS dops vf (more L i) (tmf 0) dops.length = Ab.put (tmS dops vf L (tmf 0) dops.length) d.dst (vf i) := by
  have hi := lt_of_some R.get
  funext t
  by_cases hd : d.dst = some t
  · rw [put_eq hd]
    have e1 := tmS_later (ops := dops) (vf := vf) (L := more L i) (tm := tmf 0) (x := t) (i + 1) (dops.length - (i + 1)) (fun k o h1 h2 hk hdk => by
      rw [more_ne L (show k ≠ i by omega)]
      rcases C.static i k d o (by omega) R.get hk with hs | ⟨hs, _⟩
      · cases hL : L k with
        | false => rfl
        | true => exact absurd hs (R.desc k (by omega) hL)
      · rw [clash_left hd (.inr hdk)] at hs; cases hs)
    rw [Nat.add_sub_cancel' (by omega)] at e1
    rw [e1]
    simp only [tmS, R.get, more_same, if_true]
    exact put_eq hd
  · rw [put_ne hd]
    refine tmS_agree _ fun k o hk ho hdk => ?_
    refine more_ne L fun e => ?_
    subst e
    rw [R.get] at ho; cases ho
    exact hd hdk

theorem Rdy.ev (C : Ctx P call N ops base tmf Hf vf dops) {i : Nat} {d : DOp} (R : Rdy ops dops L i d) : ∀ x ∈ opTmps d.op, ev (tmf i) x = ev (tmS dops vf L (tmf 0) dops.length) x := by
  intro x hx
  cases x with
  | tmp t =>
    have : t ∈ looks d := by
      unfold looks
      rw [List.mem_append]
      left
      rw [List.mem_filterMap]
      exact ⟨.tmp t, hx, rfl⟩
    exact (R.tmps C this).symm
  | _ => rfl
theorem Rdy.want (C : Ctx P call N ops base tmf Hf vf dops) {i : Nat} {d : DOp} (R : Rdy ops dops L i d) : Ab.want (tmS dops vf L (tmf 0) dops.length) d.guard = Ab.want (tmf i) d.guard := by
  cases hg : d.guard with
  | none => rfl
  | some g =>
    obtain ⟨t, b⟩ := g
    have : t ∈ looks d := by unfold looks; rw [hg]; simp
    simp only [Ab.want, R.tmps C this]

/-- A loud operation comes up: how the heap stands then. -/
theorem At.loud (C : Ctx P call N ops base tmf Hf vf dops) (A : At P call N ops base tmf Hf vf dops ι0 w0 H0 L p h ι a w) {i : Nat} {d : DOp} (R : Rdy ops dops L i d) (hk : kindOf d.op = .loud) :
    p ≤ i ∧ (∀ (k : Nat) d', p ≤ k → k < i → dops[k]? = some d' → kindOf d'.op ≠ .loud) ∧ (Hf i).length = h.length ∧
    (∀ b : Nat, (Hf i)[b]? = if base ≤ b ∧ i ≤ b - base ∧ b - base < dops.length ∧ L (b - base) = true then some Blk.dead else h[b]?) := by
  have hi := lt_of_some R.get
  have hpi : p ≤ i := by
    rcases Nat.lt_or_ge i p with q | q
    · have := (A.louds i d R.get hk).2 q
      rw [R.no] at this; cases this
    · exact q
  have hno : ∀ (k : Nat) d', p ≤ k → k < i → dops[k]? = some d' → kindOf d'.op ≠ .loud := by
    intro k d' h1 h2 hd' hl
    rcases C.static k i d' d h2 hd' R.get with hs | ⟨_, hs, _⟩
    · have := (A.louds k d' hd' hl).1 (R.anc k hs)
      omega
    · exact hs ⟨hl, hk⟩
  refine ⟨hpi, hno, by rw [A.hlen]; exact C.calm_len i hpi (by omega) hno, fun b => ?_⟩
  rw [C.calm i hpi (by omega) hno b, A.heap b]
  by_cases hs : base ≤ b ∧ b - base < dops.length
  · obtain ⟨k, rfl⟩ : ∃ k, b = base + k := ⟨b - base, by omega⟩
    rw [Nat.add_sub_cancel_left] at *
    by_cases h1 : k < i
    · rw [if_neg (show ¬ (base ≤ base + k ∧ i ≤ k ∧ k < dops.length ∧ L k = true) by omega)]
      by_cases h2 : p ≤ k
      · rw [if_pos ⟨by omega, h2, h1⟩]
        by_cases hL : L k = true
        · rw [if_pos ⟨by omega, h2, hs.2, hL⟩]
        · rw [if_neg (fun q => hL q.2.2.2)]
          obtain ⟨d', hd'⟩ := C.some_ hs.2
          have hnew : kindOf d'.op ≠ .new := by
            intro hn
            rcases C.static k i d' d h1 hd' R.get with q | ⟨_, _, q⟩
            · exact hL (R.anc k q)
            · exact q ⟨hn, hk⟩
          rw [(C.heap_step hd').2.2 (hno k d' h2 h1 hd') hnew, C.free hs.2 k (Nat.le_refl _), C.free hs.2 p h2]
      · rw [if_neg (by omega), if_neg (by omega)]
    · rw [if_neg (by omega)]
      by_cases hL : L k = true
      · rw [if_pos ⟨by omega, by omega, hs.2, hL⟩, C.free hs.2 p (by omega)]
      · rw [if_neg (fun q => hL q.2.2.2), if_neg (fun q => hL q.2.2.2)]
  · rw [if_neg (by omega), if_neg (by omega), if_neg (by omega)]

end
end Go.Ab

/- The abstract machine, part 12 f: a drawn region as a whole. Own work. -/
namespace Go.Ab
open Go

section
variable {P : Program} {call : CallF} {N : Nat} {ops : Array Oper} {base : Nat} {tmf : Nat → Tm} {Hf : Nat → Hp} {vf : Nat → Value} {dops : List DOp}
  {ι0 : Emb} {w0 : World} {H0 : Hp} {L : Nat → Bool} {p : Nat} {h : Hp} {ι : Emb} {a : Act} {w : World}

theorem Ctx.oper (C : Ctx P call N ops base tmf Hf vf dops) {i : Nat} (hi : i < dops.length) : ∃ o, ops.toList[i]? = some o := by
  rw [C.hm] at hi
  exact ⟨ops[i], by simp [hi]⟩
theorem unordered_mk {as : List (List Nat)} {i j : Nat} (h : i ≠ j) (h1 : j ∉ as.getD i []) (h2 : i ∉ as.getD j []) : unordered as i j = true := by
  unfold unordered
  have e1 : (as.getD i []).contains j = false := by rw [← Bool.not_eq_true]; intro q; exact h1 (List.contains_iff_mem.1 q)
  have e2 : (as.getD j []).contains i = false := by rw [← Bool.not_eq_true]; intro q; exact h2 (List.contains_iff_mem.1 q)
  rw [e1, e2]
  simp [h]

theorem At.last' (A : At P call N ops base tmf Hf vf dops ι0 w0 H0 L p h ι a w) (i : Nat) : p = 0 ∨ ∃ d, dops[p - 1]? = some d ∧ kindOf d.op = .loud ∧ more L i (p - 1) = true ∧ 0 < p := by
  rcases A.last with q | ⟨d, h1, h2, h3, h4⟩
  · exact .inl q
  · exact .inr ⟨d, h1, h2, by simp [more, h3], h4⟩
theorem At.louds' (A : At P call N ops base tmf Hf vf dops ι0 w0 H0 L p h ι a w) {i : Nat} {d : DOp} (hd : dops[i]? = some d) (hk : kindOf d.op ≠ .loud) :
    ∀ (k : Nat) d', dops[k]? = some d' → kindOf d'.op = .loud → (more L i k = true ↔ k < p) := by
  intro k d' hd' hl
  have : k ≠ i := fun e => by subst e; rw [hd] at hd'; cases hd'; exact hk hl
  rw [more_ne L this]
  exact A.louds k d' hd' hl
theorem At.heap' (C : Ctx P call N ops base tmf Hf vf dops) (A : At P call N ops base tmf Hf vf dops ι0 w0 H0 L p h ι a w) {i : Nat} {d : DOp} (R : Rdy ops dops L i d)
    (hstay : p ≤ i → (Hf (i + 1))[base + i]? = some Blk.dead) :
    ∀ b : Nat, h[b]? = if base ≤ b ∧ p ≤ b - base ∧ b - base < dops.length ∧ more L i (b - base) = true then (Hf (b - base + 1))[b]? else (Hf p)[b]? := by
  intro b
  rw [A.heap b]
  by_cases hb : b = base + i
  · subst hb
    rw [Nat.add_sub_cancel_left, R.no, more_same]
    rw [if_neg (by simp)]
    by_cases hp : p ≤ i
    · rw [if_pos ⟨by omega, hp, lt_of_some R.get, rfl⟩, hstay hp, C.free (lt_of_some R.get) p hp]
    · rw [if_neg (by omega)]
  · by_cases hbb : base ≤ b
    · rw [more_ne L (show b - base ≠ i by omega)]
    · rw [if_neg (by omega), if_neg (by omega)]

/-- An operation that leaves the heap as it is. -/
theorem At.quiet (C : Ctx P call N ops base tmf Hf vf dops) (A : At P call N ops base tmf Hf vf dops ι0 w0 H0 L p h ι a w) {i : Nat} {d : DOp} (R : Rdy ops dops L i d) (hk : kindOf d.op ≠ .loud)
    (hstay : p ≤ i → (Hf (i + 1))[base + i]? = some Blk.dead) {v' : Value} {ι' : Emb} {w' : World} (hd : ∀ t, d.dst = some t → t < N) (hv : VR ι' (vf i) v') (hs : Sim ι' h w') (hf : Fr ι h w ι' h w') :
    ∃ p' h' ι', At P call N ops base tmf Hf vf dops ι0 w0 H0 (more L i) p' h' ι' (a.put d.dst v') w' :=
  ⟨p, h, ι', A.next A.ple (A.louds' R.get hk) (A.last' i) A.hlen (A.heap' C R hstay) hs (by rw [R.put C]; exact (A.tmps.mono hf.emb).put hd hv)
    (fun k hk' hL => by
      have : k ≠ i := fun e => by subst e; rw [more_same] at hL; cases hL
      rw [more_ne L this] at hL
      rw [hf.old _ (A.room C hk')]
      exact A.none_ k hk' hL)
    hf.emb (fun b hb => by have hi := lt_of_some R.get; have := A.room C (k := 0) (by omega); exact hf.old b (by omega)) hf.os hf.tape hf.output hf.size hf.keep hf.own⟩

theorem again_eq {d : DOp} {s : St} {H : Hp} (hw : Ab.want s.1 d.guard = true) (h : again d s H = true) {v : Value} {H' : Hp} (hv : aop d.op s.1 s.2 = some (v, H')) : ∃ H'', aop d.op s.1 H = some (v, H'') := by
  unfold again at h
  rw [if_pos hw, hv] at h
  cases hq : aop d.op s.1 H with
  | none => rw [hq] at h; cases h
  | some q =>
    rw [hq] at h
    have := vsame_eq h
    subst this
    exact ⟨q.2, rfl⟩

/-- A reading gives what it gives in the text's order. -/
theorem At.read (C : Ctx P call N ops base tmf Hf vf dops) (A : At P call N ops base tmf Hf vf dops ι0 w0 H0 L p h ι a w) {i : Nat} {d : DOp} (R : Rdy ops dops L i d) (hk : kindOf d.op = .read)
    (hw : Ab.want (tmf i) d.guard = true) (hs : aop d.op (tmf i) (Hf i) = some (vf i, Hf (i + 1))) (hr : rdOk base dops.length d (tmf i) = true) : aop d.op (tmf i) h = some (vf i, h) := by
  have hi := lt_of_some R.get
  obtain ⟨_, hsame⟩ := read_same hk hs
  by_cases hun : ∃ (l : Nat) (dl : DOp), dops[l]? = some dl ∧ kindOf dl.op = .loud ∧ unordered (ancs ops.toList) i l = true
  · -- some loud operation is not ordered: the block is an old one
    obtain ⟨l0, dl0, hl0, hk0, hu0⟩ := hun
    have hslots : d.slots = [] := by
      cases hsl : d.slots with
      | nil => rfl
      | cons k r =>
        have := (C.slots i d R.get hk k (by rw [hsl]; simp)).2 l0 dl0 hl0 hk0
        rw [hu0] at this; cases this
    have hold : ∀ b, rblk d.op (tmf i) = some b → b < base ∨ base + dops.length ≤ b := by
      intro b hb
      unfold rdOk at hr
      rw [hb, hslots] at hr
      simpa using hr
    have hheap : ∀ b, rblk d.op (tmf i) = some b → h[b]? = (Hf p)[b]? := fun b hb => by
      rw [A.heap b, if_neg]
      have := hold b hb
      omega
    rcases Nat.lt_or_ge i p with hip | hpi
    · -- a later loud operation has been carried out
      rcases A.last with q | ⟨dl, h1, h2, h3, h4⟩
      · omega
      · have hne : p - 1 ≠ i := fun e => by rw [e, R.get] at h1; cases h1; rw [hk] at h2; cases h2
        have hu : unordered (ancs ops.toList) i (p - 1) = true := by
          have n1 : p - 1 ∉ (ancs ops.toList).getD i [] := fun q => by
            obtain ⟨o, ho⟩ := C.oper (i := i) (by omega)
            have := ancs_lt C.edges i o ho _ q
            omega
          have n2 := R.desc (p - 1) (by have := A.ple; omega) h3
          exact unordered_mk (fun e => hne e.symm) n1 n2
        have hag := (C.pairs i (p - 1) d dl R.get hk h1 h2 hu).2
        rw [show p - 1 + 1 = p by omega] at hag
        obtain ⟨H'', hq⟩ := again_eq hw hag hs
        obtain ⟨_, hsame2⟩ := read_same hk hq
        exact hsame2 h hheap
    · by_cases hno : ∀ (k : Nat) d', p ≤ k → k < i → dops[k]? = some d' → kindOf d'.op ≠ .loud
      · refine hsame h fun b hb => ?_
        rw [hheap b hb, C.calm i hpi (by omega) hno b, if_neg]
        have := hold b hb
        omega
      · -- the first loud operation that has not been carried out
        have hex : ∃ (l : Nat) (dl : DOp), p ≤ l ∧ l < i ∧ dops[l]? = some dl ∧ kindOf dl.op = .loud ∧ ∀ (k : Nat) d', p ≤ k → k < l → dops[k]? = some d' → kindOf d'.op ≠ .loud := by
          have hfind : ∀ n, p + n ≤ i → (∃ (k : Nat) (d' : DOp), p ≤ k ∧ k < p + n ∧ dops[k]? = some d' ∧ kindOf d'.op = .loud) →
              ∃ (l : Nat) (dl : DOp), p ≤ l ∧ l < i ∧ dops[l]? = some dl ∧ kindOf dl.op = .loud ∧ ∀ (k : Nat) d', p ≤ k → k < l → dops[k]? = some d' → kindOf d'.op ≠ .loud := by
            intro n
            induction n with
            | zero => rintro _ ⟨k, d', h1, h2, _⟩; omega
            | succ n ih =>
              intro hn hex
              by_cases hprev : ∃ (k : Nat) (d' : DOp), p ≤ k ∧ k < p + n ∧ dops[k]? = some d' ∧ kindOf d'.op = .loud
              · exact ih (by omega) hprev
              · obtain ⟨k, d', h1, h2, h3, h4⟩ := hex
                have hkn : k = p + n := by
                  rcases Nat.lt_or_ge k (p + n) with q | q
                  · exact absurd ⟨k, d', h1, q, h3, h4⟩ hprev
                  · omega
                subst hkn
                exact ⟨p + n, d', h1, by omega, h3, h4, fun k' d'' g1 g2 g3 g4 => hprev ⟨k', d'', g1, g2, g3, g4⟩⟩
          refine hfind (i - p) (by omega) ?_
          refine Classical.byContradiction fun hnex => hno fun k d' h1 h2 h3 h4 => hnex ⟨k, d', h1, by omega, h3, h4⟩
        obtain ⟨l, dl, hpl, hli, hdl, hkl, hfirst⟩ := hex
        have hLl : L l ≠ true := fun q => by have := (A.louds l dl hdl hkl).1 q; omega
        have hu : unordered (ancs ops.toList) i l = true := by
          have n1 : l ∉ (ancs ops.toList).getD i [] := fun q => hLl (R.anc l q)
          have n2 : i ∉ (ancs ops.toList).getD l [] := fun q => by
            obtain ⟨o, ho⟩ := C.oper (i := l) (by omega)
            have := ancs_lt C.edges l o ho _ q
            omega
          exact unordered_mk (by omega) n1 n2
        have hag := (C.pairs i l d dl R.get hk hdl hkl hu).1
        obtain ⟨H'', hq⟩ := again_eq hw hag hs
        obtain ⟨_, hsame2⟩ := read_same hk hq
        refine hsame2 h fun b hb => ?_
        rw [hheap b hb]
        rw [C.calm l hpl (by omega) hfirst b, if_neg]
        have := hold b hb
        omega
  · -- all loud operations are ordered
    have hord : ∀ (l : Nat) dl, dops[l]? = some dl → kindOf dl.op = .loud → l ≠ i → l ∈ (ancs ops.toList).getD i [] ∨ i ∈ (ancs ops.toList).getD l [] := by
      intro l dl hdl hkl hne
      refine Classical.byContradiction fun hn => hun ⟨l, dl, hdl, hkl, ?_⟩
      simp only [not_or] at hn
      exact unordered_mk (fun e => hne e.symm) hn.1 hn.2
    have hpi : p ≤ i := by
      rcases A.last with q | ⟨dl, h1, h2, h3, h4⟩
      · omega
      · have hne : p - 1 ≠ i := fun e => by rw [e, R.get] at h1; cases h1; rw [hk] at h2; cases h2
        rcases hord (p - 1) dl h1 h2 hne with q | q
        · obtain ⟨o, ho⟩ := C.oper (i := i) (by omega)
          have := ancs_lt C.edges i o ho _ q
          omega
        · exact absurd q (R.desc (p - 1) (by have := A.ple; omega) h3)
    have hno : ∀ (k : Nat) d', p ≤ k → k < i → dops[k]? = some d' → kindOf d'.op ≠ .loud := by
      intro k d' h1 h2 h3 h4
      rcases hord k d' h3 h4 (by omega) with q | q
      · have := (A.louds k d' h3 h4).1 (R.anc k q); omega
      · obtain ⟨o, ho⟩ := C.oper (i := k) (by omega)
        have := ancs_lt C.edges k o ho _ q
        omega
    refine hsame h fun b hb => ?_
    rw [A.heap b, C.calm i hpi (by omega) hno b]
    by_cases hs' : base ≤ b ∧ b - base < dops.length
    · have hsl : b - base ∈ d.slots := by
        unfold rdOk at hr
        rw [hb] at hr
        simp at hr
        rcases hr with q | q
        · omega
        · exact q
      have hanc := (C.slots i d R.get hk _ hsl).1
      have hLb := R.anc _ hanc
      have hlt : b - base < i := by
        obtain ⟨o, ho⟩ := C.oper (i := i) (by omega)
        exact ancs_lt C.edges i o ho _ hanc
      by_cases hp : p ≤ b - base
      · rw [if_pos ⟨hs'.1, hp, hs'.2, hLb⟩, if_pos ⟨hs'.1, hp, hlt⟩]
      · rw [if_neg (by omega), if_neg (by omega)]
    · rw [if_neg (by omega), if_neg (by omega)]

theorem At.step (C : Ctx P call N ops base tmf Hf vf dops) (A : At P call N ops base tmf Hf vf dops ι0 w0 H0 L p h ι a w) {Q : Exit → Act → World → Prop} {i : Nat} {o : Oper} {sl : List Nat} (ho : ops[i]? = some o)
    (R : Rdy ops dops L i (cOper P N ops sl o)) :
    wpOp P ops Q i (fun a' w' => ∃ p' h' ι', At P call N ops base tmf Hf vf dops ι0 w0 H0 (more L i) p' h' ι' a' w') a w := by
  have hi := lt_of_some R.get
  have hstep := (C.step i _ R.get).1
  rcases cOper_spec (P := P) (N := N) (o := o) (ops := ops) (sl := sl) with ⟨g, hg, hco, hd⟩ | ⟨h1, h2⟩
  rotate_left
  · exfalso
    unfold dstep at hstep
    rw [h1, h2] at hstep
    simp [Ab.want, kindOf, arun, aop] at hstep
  have hdop : (cOper P N ops sl o).op = cOp P o := by rw [hco]
  have hddst : (cOper P N ops sl o).dst = o.dst := by rw [hco]
  have hdg : (cOper P N ops sl o).guard = g := by rw [hco]
  generalize cOper P N ops sl o = d at *
  have hd' : ∀ t, d.dst = some t → t < N := by rw [hddst]; exact hd
  have hwant : Region.wanted o (yielded ops a.tmps) = Ab.want (tmf i) d.guard := by
    rw [← R.want C, hdg]
    exact (want_ok A.tmps hg).symm
  unfold wpOp
  simp only [ho, hwant]
  unfold dstep at hstep
  simp only at hstep
  by_cases hw : Ab.want (tmf i) d.guard = true
  · rw [if_pos hw] at hstep ⊢
    left
    cases hk : kindOf d.op with
    | pure =>
      rw [hk] at hstep
      simp only at hstep
      obtain ⟨e, hind⟩ := pure_same hk hstep
      have h1 : arun call (cOp P o) (tmS dops vf L (tmf 0) dops.length) h = some (vf i, h) := by
        rw [← hdop, ← arun_congr (R.ev C) h]
        have := hind h
        cases hq : d.op <;> rw [hq] at hk this <;> first | exact this | (cases hk; done)
      refine arun_ok C.ok A.sim A.tmps h1 fun v' ι' w' hv hs hf => ?_
      rw [← hddst]
      exact A.quiet C R (by rw [hk]; simp) (fun hp => by rw [e]; exact C.free hi i (Nat.le_refl _)) hd' hv hs hf
    | read =>
      rw [hk] at hstep
      simp only at hstep
      split at hstep
      · rename_i hr
        have h0 := A.read C R hk hw hstep hr
        have h1 : arun call (cOp P o) (tmS dops vf L (tmf 0) dops.length) h = some (vf i, h) := by
          rw [← hdop, ← arun_congr (R.ev C) h]
          cases hq : d.op <;> rw [hq] at hk h0 <;> first | exact h0 | (cases hk; done)
        refine arun_ok C.ok A.sim A.tmps h1 fun v' ι' w' hv hs hf => ?_
        rw [← hddst]
        exact A.quiet C R (by rw [hk]; simp) (fun hp => by rw [(read_same hk hstep).1]; exact C.free hi i (Nat.le_refl _)) hd' hv hs hf
      · cases hstep
    | new =>
      rw [hk] at hstep
      simp only at hstep
      obtain ⟨q, hq, e⟩ := Option.map_eq_some_iff.1 hstep
      have e1 := (Prod.mk.inj e).1
      have e2 := (Prod.mk.inj e).2
      have hq' : anew (cOp P o) (tmS dops vf L (tmf 0) dops.length) (base + i) = some (vf i, q.2) := by
        rw [← hdop, ← anew_congr (R.ev C), hq, ← e1]
      obtain ⟨sz, vs, c, t, v', hblk, hrun, hc, hl, hv⟩ := op_new (w := w) A.tmps hq'
      have hpi : p ≤ i := by
        rcases A.last with z | ⟨dl, g1, g2, g3, g4⟩
        · omega
        · rcases Nat.lt_or_ge i p with hlt | hge
          · have hne : p - 1 ≠ i := fun e => by rw [e, R.get] at g1; cases g1; rw [hk] at g2; cases g2
            rcases C.static i (p - 1) d dl (by omega) R.get g1 with z | ⟨_, _, z⟩
            · exact absurd z (R.desc (p - 1) (by have := A.ple; omega) g3)
            · exact absurd ⟨hk, g2⟩ z
          · exact hge
      have hdead : h[base + i]? = some Blk.dead := by
        rw [A.heap, Nat.add_sub_cancel_left, R.no, if_neg (by simp)]
        exact C.free hi p hpi
      obtain ⟨hsim, hown⟩ := A.sim.newSlot hdead (A.none_ i hi R.no) sz vs c t hc hl
      unfold Oper.wp
      rw [hrun, Oper.upon_value, ← hddst]
      have hle : ι.le (ι.put (base + i) ⟨⟨w.heap.size, 0, none⟩, c.size, sz⟩) := Emb.put_le (A.none_ i hi R.no)
      refine ⟨p, _, _, A.next A.ple (A.louds' R.get (by rw [hk]; simp)) (A.last' i) (by simpa using A.hlen) (fun b => ?_) hsim
        (by rw [R.put C]; exact (A.tmps.mono hle).put hd' (hv _ (Emb.put_same ..))) (fun k hk' hL => ?_) hle
        (fun b hb => Emb.put_other ι _ (by omega)) rfl rfl rfl (by simp) (fun g hg _ => Go.RowKit.Below.heap_alloc w _ _ hg) hown⟩
      · by_cases hb : b = base + i
        · subst hb
          rw [Nat.add_sub_cancel_left, more_same, if_pos ⟨by omega, hpi, hi, rfl⟩, ← e2, ← hblk]
          have h1 : base + i < h.length := lt_of_some hdead
          have h2 : base + i < (Hf i).length := lt_of_some (C.free hi i (Nat.le_refl _))
          simp [h1, h2]
        · rw [List.getElem?_set_ne (fun e => hb e.symm)]
          rw [A.heap b]
          by_cases hbb : base ≤ b
          · rw [more_ne L (show b - base ≠ i by omega)]
          · rw [if_neg (by omega), if_neg (by omega)]
      · have hne : k ≠ i := fun e => by subst e; rw [more_same] at hL; cases hL
        rw [more_ne L hne] at hL
        rw [Emb.put_other ι _ (by omega)]
        exact A.none_ k hk' hL
    | loud =>
      rw [hk] at hstep
      simp only at hstep
      obtain ⟨hpi, hno, hlen, hheap⟩ := A.loud C R hk
      have hfg : ∀ b : Nat, (Hf i)[b]? = h[b]? ∨ (Hf i)[b]? = some Blk.dead := by
        intro b
        rw [hheap b]
        split
        · exact .inr rfl
        · exact .inl rfl
      have hsimi := A.sim.forget hlen hfg
      have h1 : arun call (cOp P o) (tmS dops vf L (tmf 0) dops.length) (Hf i) = some (vf i, Hf (i + 1)) := by
        rw [← hdop, ← arun_congr (R.ev C)]; exact hstep
      refine arun_ok C.ok hsimi A.tmps h1 fun v' ι' w' hv hs hf => ?_
      rw [← hddst]
      -- the blocks that were left out come back
      obtain ⟨h', hlen', hget'⟩ : ∃ h' : Hp, h'.length = (Hf (i + 1)).length ∧ ∀ b : Nat, h'[b]? = if base ≤ b ∧ i + 1 ≤ b - base ∧ b - base < dops.length ∧ more L i (b - base) = true then (Hf (b - base + 1))[b]? else (Hf (i + 1))[b]? := by
        have hsome : ∀ b, b < (Hf (i + 1)).length → ∃ x, (if base ≤ b ∧ i + 1 ≤ b - base ∧ b - base < dops.length ∧ more L i (b - base) = true then (Hf (b - base + 1))[b]? else (Hf (i + 1))[b]?) = some x := by
          intro b hb
          split
          · rename_i hc
            have := C.heap_mono (b - base + 1 - (i + 1)) (i + 1) (by omega)
            rw [show i + 1 + (b - base + 1 - (i + 1)) = b - base + 1 by omega] at this
            exact ⟨_, List.getElem?_eq_getElem (Nat.lt_of_lt_of_le hb this)⟩
          · exact ⟨_, List.getElem?_eq_getElem hb⟩
        refine ⟨(List.range (Hf (i + 1)).length).map fun b => ((if base ≤ b ∧ i + 1 ≤ b - base ∧ b - base < dops.length ∧ more L i (b - base) = true then (Hf (b - base + 1))[b]? else (Hf (i + 1))[b]?)).getD .dead, by simp, fun b => ?_⟩
        by_cases hb : b < (Hf (i + 1)).length
        · obtain ⟨x, hx⟩ := hsome b hb
          simp only [List.getElem?_map, List.getElem?_range hb, Option.map_some, hx, Option.getD_some]
        · rw [List.getElem?_eq_none (by simpa using hb)]
          rw [if_neg]
          · rw [List.getElem?_eq_none (by omega)]
          · intro hc
            have h0 := lt_of_some (C.dead0 (b - base) hc.2.2.1)
            have := C.heap_mono (i + 1) 0 (by omega)
            rw [Nat.zero_add] at this
            omega
      have hre : ∀ b : Nat, h'[b]? = (Hf (i + 1))[b]? ∨ ((Hf (i + 1))[b]? = some Blk.dead ∧ (Hf i)[b]? = some Blk.dead ∧ h'[b]? = h[b]?) := by
        intro b
        rw [hget' b]
        split
        · rename_i hc
          right
          have hk' : b - base ≠ i := by omega
          have hL : L (b - base) = true := by rw [← more_ne L hk']; exact hc.2.2.2
          have hdead : (Hf i)[b]? = some Blk.dead := by rw [hheap b, if_pos ⟨hc.1, by omega, hc.2.2.1, hL⟩]
          refine ⟨hf.dead b hdead, hdead, ?_⟩
          rw [A.heap b, if_pos ⟨hc.1, by omega, hc.2.2.1, hL⟩]
        · exact .inl rfl
      obtain ⟨hsim', hown'⟩ := A.sim.restore hs hf hfg hlen' hre
      refine ⟨i + 1, h', ι', A.next (by omega) (fun k d' hd' hl => ?_) (.inr ⟨d, by simpa using R.get, hk, by simp [more_same], by omega⟩) hlen' hget' hsim'
        (by rw [R.put C]; exact (A.tmps.mono hf.emb).put (by assumption) hv) (fun k hk' hL => ?_) hf.emb (fun b hb => ?_) hf.os hf.tape hf.output hf.size (fun g hg hn => ?_) hown'⟩
      · by_cases hki : k = i
        · subst hki; simp [more_same]
        · rw [more_ne L hki, A.louds k d' hd' hl]
          constructor
          · intro q; omega
          · intro q
            rcases Nat.lt_or_ge k p with z | z
            · exact z
            · exact absurd hl (hno k d' z (by omega) hd')
      · have hne : k ≠ i := fun e => by subst e; rw [more_same] at hL; cases hL
        rw [more_ne L hne] at hL
        rw [hf.old _ (by rw [hlen]; exact A.room C hk')]
        exact A.none_ k hk' hL
      · have := A.room C hi
        exact hf.old b (by rw [hlen]; omega)
      · refine hf.keep g hg ?_
        rintro ⟨b, K, hK, hblk, hob⟩
        refine hn ⟨b, K, hK, hblk, ?_⟩
        rcases hfg b with e | e
        · rwa [owned_eq e] at hob
        · rw [owned_dead e] at hob; cases hob
  · rw [if_neg hw] at hstep ⊢
    have e1 := (Prod.mk.inj (Option.some.inj hstep)).1
    have e2 := (Prod.mk.inj (Option.some.inj hstep)).2
    rw [← hddst]
    by_cases hk : kindOf d.op = .loud
    · obtain ⟨hpi, hno, hlen, hheap⟩ := A.loud C R hk
      refine ⟨i + 1, h, ι, A.next (by omega) (fun k d' hd' hl => ?_) (.inr ⟨d, by simpa using R.get, hk, by simp [more_same], by omega⟩) (by rw [← e2]; exact hlen.symm) (fun b => ?_) A.sim
        (by rw [R.put C]; exact A.tmps.put (by assumption) (by rw [← e1]; exact undef_vr ι)) (fun k hk' hL => ?_) (Emb.le.refl ι) (fun _ _ => rfl) rfl rfl rfl (Nat.le_refl _) (fun _ _ _ => rfl) (fun _ _ q => q)⟩
      · by_cases hki : k = i
        · subst hki; simp [more_same]
        · rw [more_ne L hki, A.louds k d' hd' hl]
          constructor
          · intro q; omega
          · intro q
            rcases Nat.lt_or_ge k p with z | z
            · exact z
            · exact absurd hl (hno k d' z (by omega) hd')
      · rw [← e2]
        by_cases hc : base ≤ b ∧ i + 1 ≤ b - base ∧ b - base < dops.length ∧ more L i (b - base) = true
        · rw [if_pos hc]
          have hk' : b - base ≠ i := by omega
          have hL : L (b - base) = true := by rw [← more_ne L hk']; exact hc.2.2.2
          rw [A.heap b, if_pos ⟨hc.1, by omega, hc.2.2.1, hL⟩]
        · rw [if_neg hc, hheap b]
          rw [if_neg]
          intro q
          have hk' : b - base ≠ i := fun e => by rw [e, R.no] at q; exact absurd q.2.2.2 (by simp)
          exact hc ⟨q.1, by omega, q.2.2.1, by rw [more_ne L hk']; exact q.2.2.2⟩
      · have hne : k ≠ i := fun e => by subst e; rw [more_same] at hL; cases hL
        rw [more_ne L hne] at hL
        exact A.none_ k hk' hL
    · exact A.quiet C R hk (fun hp => by rw [← e2]; exact C.free hi i (Nat.le_refl _)) (by assumption) (by rw [← e1]; exact undef_vr ι) A.sim (Fr.refl ..)

end
end Go.Ab

/- The abstract machine, part 12 g: a drawn region, from beginning to end. Own work. -/
namespace Go.Ab
open Go

section
variable {P : Program} {call : CallF} {N : Nat} {ops : Array Oper} {base : Nat} {tmf : Nat → Tm} {Hf : Nat → Hp} {vf : Nat → Value} {dops : List DOp}
  {ι0 : Emb} {w0 : World} {H0 : Hp}

def cnt : List Bool → Nat
  | [] => 0
  | b :: l => (if b then 0 else 1) + cnt l
theorem cnt_set : ∀ (l : List Bool) (i : Nat), l[i]? = some false → cnt (l.set i true) + 1 = cnt l
  | [], i, h => by simp at h
  | b :: l, 0, h => by simp at h; subst h; simp [cnt]; omega
  | b :: l, i + 1, h => by
    have := cnt_set l i (by simpa using h)
    simp only [List.set_cons_succ, cnt]
    omega
theorem cnt_zero : ∀ (l : List Bool), cnt l = 0 → ∀ (i : Nat) b, l[i]? = some b → b = true
  | [], _, i, b, h => by simp at h
  | c :: l, hc, i, b, h => by
    simp only [cnt] at hc
    cases i with
    | zero => simp at h; subst h; cases c <;> simp at hc ⊢
    | succ i => exact cnt_zero l (by omega) i b (by simpa using h)
theorem cnt_rep (m : Nat) : cnt (List.replicate m false) = m := by
  induction m with
  | zero => rfl
  | succ m ih => simp only [List.replicate_succ, cnt, ih]; simp; omega

theorem all_orders (C : Ctx P call N ops base tmf Hf vf dops) {Q : Exit → Act → World → Prop}
    (hq : ∀ (L : Nat → Bool) p h ι a w, (∀ k, k < dops.length → L k = true) → At P call N ops base tmf Hf vf dops ι0 w0 H0 L p h ι a w → Q .normal a w) :
    ∀ (fuel : Nat) (listed : Array Bool) (a : Act) (w : World), listed.size = dops.length → cnt listed.toList ≤ fuel →
      (∀ (k : Nat) o, listed.getD k false = true → ops.toList[k]? = some o → ∀ e ∈ o.after.toList, Region.binds .any e = true → listed.getD e.on false = true) →
      (∃ p h ι, At P call N ops base tmf Hf vf dops ι0 w0 H0 (fun k => listed.getD k false) p h ι a w) → wpAny P .any ops Q fuel listed a w := by
  have hready : ∀ (listed : Array Bool), listed.size = dops.length → Region.ready .any ops listed = [] → ∀ k, k < dops.length → listed.getD k false = true := by
    intro listed hsz hr k
    induction k using Nat.strongRecOn with
    | _ k ih =>
      intro hk
      cases hL : listed.getD k false with
      | true => rfl
      | false =>
        obtain ⟨o, ho⟩ := C.oper hk
        have : k ∈ Region.ready .any ops listed := by
          unfold Region.ready
          rw [List.mem_filter]
          refine ⟨by simp; have := C.hm; omega, ?_⟩
          have ho' : ops[k]? = some o := by simpa using ho
          have h1 : listed.getD k true = false := by
            rw [Array.getD_eq_getD_getElem?] at hL ⊢
            have : k < listed.size := by omega
            simpa [this] using hL
          rw [ho', h1]
          simp only [Bool.not_false, Bool.true_and, Option.map_some, Option.getD_some]
          rw [Array.all_eq_true']
          intro e he
          cases hb : Region.binds .any e with
          | false => rfl
          | true =>
            simp only [Bool.not_true, Bool.false_or]
            have hlt := edges_lt C.edges ho (by simpa using he) hb
            exact ih e.on hlt (by omega)
        rw [hr] at this; cases this
  intro fuel
  induction fuel with
  | zero =>
    intro listed a w hsz hc hcl hat
    obtain ⟨p, h, ι, A⟩ := hat
    have hall : ∀ k, k < dops.length → listed.getD k false = true := by
      intro k hk
      have hlt : k < listed.size := by omega
      have := cnt_zero listed.toList (by omega) k listed[k] (by simp [hlt])
      rw [Array.getD_eq_getD_getElem?]
      simp [hlt, this]
    refine ⟨?_, hq _ p h ι a w hall A⟩
    unfold Region.ready
    rw [List.filter_eq_nil_iff]
    intro k hk
    have hk' : k < dops.length := by have := C.hm; simp at hk; omega
    have := hall k hk'
    rw [Array.getD_eq_getD_getElem?] at this ⊢
    have hlt : k < listed.size := by omega
    simp [hlt] at this
    simp [hlt, this]
  | succ fuel ih =>
    intro listed a w hsz hc hcl hat
    obtain ⟨p, h, ι, A⟩ := hat
    refine ⟨fun hr => hq _ p h ι a w (hready listed hsz hr) A, fun i hi => ?_⟩
    obtain ⟨hjun, o, hoj, hall⟩ := mem_ready.1 hi
    have hil : i < dops.length := by
      have := (Array.getElem?_eq_some_iff.1 hoj).1
      have := C.hm; omega
    have hilt : i < listed.size := by omega
    have hno : listed.getD i false = false := by
      rw [Array.getD_eq_getD_getElem?] at hjun ⊢
      simpa [hilt] using hjun
    have hcl' : ∀ (k : Nat) o, (fun k => listed.getD k false) k = true → ops.toList[k]? = some o → ∀ e ∈ o.after.toList, Region.binds .any e = true → (fun k => listed.getD k false) e.on = true := hcl
    have hall' : ∀ e ∈ o.after.toList, Region.binds .any e = true → (fun k => listed.getD k false) e.on = true := fun e he hb => hall e (by simpa using he) hb
    obtain ⟨sl, hget⟩ := C.get i o hoj
    have R : Rdy ops dops (fun k => listed.getD k false) i (cOper P N ops sl o) := by
      refine ⟨hget, hno, fun j hj => ancs_closed C.edges hcl' i o (by simpa using hoj) hall' j hj, fun k hk hL hin => ?_⟩
      obtain ⟨ok, hok⟩ := C.oper hk
      have : listed.getD i false = true := ancs_closed C.edges hcl' k ok hok (hcl k ok hL hok) i hin
      rw [hno] at this; cases this
    refine wpOp_mono (fun a' w' h' => ?_) (A.step C (Q := Q) hoj R)
    obtain ⟨p', h', ι', A'⟩ := h'
    have hmore : (fun k => (listed.setIfInBounds i true).getD k false) = more (fun k => listed.getD k false) i := by
      funext k
      by_cases e : k = i
      · subst e
        rw [more_same, Array.getD_eq_getD_getElem?]
        simp [hilt]
      · rw [more_ne _ e, Array.getD_eq_getD_getElem?, Array.getD_eq_getD_getElem?, Array.getElem?_setIfInBounds_ne (fun q => e q.symm)]
    refine ih _ a' w' (by simpa using hsz) ?_ ?_ ⟨p', h', ι', by rw [hmore]; exact A'⟩
    · have := cnt_set listed.toList i (by
        rw [Array.getD_eq_getD_getElem?] at hno
        simpa [hilt] using hno)
      rw [Array.toList_setIfInBounds]
      omega
    · intro k ok hk hok e he hb
      have hk' : more (fun k => listed.getD k false) i k = true := by rw [← hmore]; exact hk
      show (fun k => (listed.setIfInBounds i true).getD k false) e.on = true
      rw [hmore]
      by_cases hki : k = i
      · subst hki
        have : ok = o := by
          have : ops.toList[k]? = some o := by simpa using hoj
          rw [this] at hok; cases hok; rfl
        subst this
        have := hall' e he hb
        unfold more
        rw [this]; simp
      · rw [more_ne _ hki] at hk'
        have := hcl k ok hk' hok e he hb
        show (e.on == i || listed.getD e.on false) = true
        rw [this]; simp

theorem tmS_none (tm : Tm) : ∀ n, tmS dops vf (fun _ => false) tm n = tm
  | 0 => rfl
  | n + 1 => by
    simp only [tmS]
    split
    · simp [tmS_none tm n]
    · exact tmS_none tm n

/-- The whole of a drawn region. -/
theorem Ctx.all (C : Ctx P call N ops base tmf Hf vf dops) (hm : P.follows .mixedOrders = true) {id : Nat} {Q : Exit → Act → World → Prop} {H : Hp} {ι : Emb} {w : World} {a : Act}
    (hbase : base = H.length) (hH0 : Hf 0 = H ++ List.replicate dops.length .dead) (s : Sim ι H w) (ht : TR ι N (tmf 0) a)
    (hq : ∀ ι' a' w', TR ι' N (tmf dops.length) a' → Sim ι' (Hf dops.length) w' → Fr ι H w ι' (Hf dops.length) w' → Q .normal a' w') : (Code.region id ops true).wp P Q a w := by
  refine wp_region_any hm ?_
  have hsz : ops.size = dops.length := C.hm.symm
  refine all_orders (ι0 := ι) (w0 := w) (H0 := H) C (fun L p h ι' a' w' hL A => ?_) ops.size _ a w.drew (by simp [hsz]) (by simp [cnt_rep]) (fun k o hk => ?_) ⟨0, H ++ List.replicate dops.length .dead, ι, ?_⟩
  · -- all have been carried out
    have hno : ∀ (k : Nat) d, p ≤ k → k < dops.length → dops[k]? = some d → kindOf d.op ≠ .loud := by
      intro k d h1 h2 hd hl
      have := (A.louds k d hd hl).1 (hL k h2)
      omega
    have hh : h = Hf dops.length := by
      apply List.ext_getElem?
      intro b
      rw [A.heap b, C.calm dops.length A.ple (Nat.le_refl _) hno b]
      by_cases hc : base ≤ b ∧ p ≤ b - base ∧ b - base < dops.length
      · rw [if_pos ⟨hc.1, hc.2.1, hc.2.2, hL _ hc.2.2⟩, if_pos hc]
      · rw [if_neg (fun q => hc ⟨q.1, q.2.1, q.2.2.1⟩), if_neg hc]
    have htm : tmS dops vf L (tmf 0) dops.length = tmf dops.length := by
      rw [C.tmf_eq dops.length (Nat.le_refl _)]
      funext t
      exact tmS_agree _ fun k o hk _ _ => hL k hk
    have htr := A.tmps
    rw [htm] at htr
    have hsim := A.sim
    rw [hh] at hsim
    have hlen := C.heap_mono dops.length 0 (by omega)
    rw [Nat.zero_add, hH0] at hlen
    refine hq ι' a' w' htr hsim ⟨A.os, A.tape, A.output, A.size, A.emb, by simp at hlen; omega, fun b hb => A.old b (by omega), fun b hb => ?_, fun b z vs hb => ?_, A.kept, fun g hg hw => A.own g hg (by rw [hh]; exact hw)⟩
    · have hlt := lt_of_some hb
      refine C.dead b (by omega) dops.length (Nat.le_refl _) ?_
      rw [hH0, List.getElem?_append_left hlt]; exact hb
    · have := C.ro b z vs dops.length (Nat.le_refl _) hb
      rw [hH0] at this
      by_cases hlt : b < H.length
      · rwa [List.getElem?_append_left hlt] at this
      · rw [List.getElem?_append_right (by omega), List.getElem?_replicate] at this
        split at this <;> cases this
  · rw [Array.getD_eq_getD_getElem?, Array.getElem?_replicate] at hk
    split at hk <;> simp at hk
  · have hfalse : (fun k => (Array.replicate ops.size false).getD k false) = fun _ => false := by
      funext k
      rw [Array.getD_eq_getD_getElem?, Array.getElem?_replicate]
      split <;> rfl
    rw [hfalse]
    refine ⟨Nat.zero_le _, fun k d _ _ => by simp, .inl rfl, by rw [hH0], fun b => ?_, (s.room dops.length).drew, ?_, fun k hk _ => ?_, Emb.le.refl ι, fun _ _ => rfl, rfl, rfl, rfl, Nat.le_refl _, fun _ _ _ => rfl, fun g hg hw => ?_⟩
    · rw [if_neg (by simp), hH0]
    · rw [tmS_none]; exact ht
    · cases hι : ι (base + k) with
      | none => rfl
      | some K => have := s.dom _ K hι; omega
    · obtain ⟨b, K, hK, hb, ho⟩ := hw
      refine ⟨b, K, hK, hb, ?_⟩
      have hlt := s.dom b K hK
      rwa [owned_eq (List.getElem?_append_left hlt)] at ho

end

theorem dtrace_keeps {call : CallF} (hk : KeepC call) {base m : Nat} : ∀ (ops : List DOp) (i : Nat) (s : St) (tr : List St), dtrace call base m ops i s = some tr → ∃ s', tr.getLast? = some s' ∧ s.2.length ≤ s'.2.length ∧
    (∀ b : Nat, b < base → s.2[b]? = some Blk.dead → s'.2[b]? = some Blk.dead) ∧ ∀ (b z : Nat) (vs : List Value), s'.2[b]? = some (Blk.ro z vs) → s.2[b]? = some (Blk.ro z vs)
  | [], i, s, tr, h => by simp [dtrace] at h; subst h; exact ⟨s, rfl, Nat.le_refl _, fun _ _ h => h, fun _ _ _ h => h⟩
  | o :: ops, i, s, tr, h => by
    simp only [dtrace] at h
    split at h
    · rename_i v H' hd
      obtain ⟨r, hr, rfl⟩ := Option.map_eq_some_iff.1 h
      obtain ⟨s', h1, h2, h3, h4⟩ := dtrace_keeps hk ops (i + 1) _ r hr
      have hstep : s.2.length ≤ H'.length ∧ (∀ b : Nat, b < base → s.2[b]? = some Blk.dead → H'[b]? = some Blk.dead) ∧ ∀ (b z : Nat) (vs : List Value), H'[b]? = some (Blk.ro z vs) → s.2[b]? = some (Blk.ro z vs) := by
        unfold dstep at hd
        split at hd
        · cases hq : kindOf o.op with
          | pure =>
            rw [hq] at hd
            rw [(pure_same hq hd).1]
            exact ⟨Nat.le_refl _, fun _ _ h => h, fun _ _ _ h => h⟩
          | read =>
            rw [hq] at hd
            simp only at hd
            split at hd
            · rw [(read_same hq hd).1]
              exact ⟨Nat.le_refl _, fun _ _ h => h, fun _ _ _ h => h⟩
            · cases hd
          | new =>
            rw [hq] at hd
            simp only at hd
            obtain ⟨p, hp, e⟩ := Option.map_eq_some_iff.1 hd
            cases e
            refine ⟨by simp, fun b hb h => by rw [List.getElem?_set_ne (by omega)]; exact h, fun b z vs h => ?_⟩
            by_cases e : base + i = b
            · subst e
              rw [List.getElem?_set] at h
              simp at h
              exact absurd h.2 (anew_rw (v := p.1) (b := p.2) hp z vs)
            · rwa [List.getElem?_set_ne e] at h
          | loud =>
            rw [hq] at hd
            obtain ⟨k1, k2, k3⟩ := arun_keeps hk hd
            exact ⟨k1, fun b _ h => k2 b h, k3⟩
        · cases hd
          exact ⟨Nat.le_refl _, fun _ _ h => h, fun _ _ _ h => h⟩
      have hne : r ≠ [] := by intro e; rw [e] at h1; simp at h1
      refine ⟨s', by rw [List.getLast?_cons, h1]; rfl, Nat.le_trans hstep.1 h2, fun b hb h => h3 b hb (hstep.2.1 b hb h), fun b z vs h => hstep.2.2 b z vs (h4 b z vs h)⟩
    · cases h
theorem adraw_keeps {call : CallF} (hk : KeepC call) {ops : List DOp} {pairs : List (Nat × Nat)} {s s' : St} (h : adraw call ops pairs s = some s') : Keeps s.2 s'.2 := by
  unfold adraw at h
  split at h
  · rename_i tr htr
    split at h
    · obtain ⟨s1, h1, h2, h3, h4⟩ := dtrace_keeps hk _ _ _ _ htr
      rw [h1] at h; cases h
      refine ⟨by simp at h2; omega, fun b hb => ?_, fun b z vs hb => ?_⟩
      · have hlt := lt_of_some hb
        exact h3 b hlt (by rw [List.getElem?_append_left hlt]; exact hb)
      · have := h4 b z vs hb
        simp only at this
        by_cases hlt : b < s.2.length
        · rwa [List.getElem?_append_left hlt] at this
        · rw [List.getElem?_append_right (by omega), List.getElem?_replicate] at this
          split at this <;> cases this
    · cases h
  · cases h

theorem acode_keeps {call : CallF} (hk : KeepC call) {fuel : Nat} : ∀ (c : ACode) (s s' : St) (x : AX), acode call fuel c s = some (x, s') → Keeps s.2 s'.2 := by
  intro c
  induction c with
  | skip => intro s s' x h; simp only [acode] at h; cases h; exact Keeps.refl _
  | exit id => intro s s' x h; simp only [acode] at h; cases h; exact Keeps.refl _
  | ret => intro s s' x h; simp only [acode] at h; cases h; exact Keeps.refl _
  | bad => intro s s' x h; simp only [acode] at h; cases h
  | region ops =>
    intro s s' x h
    simp only [acode] at h
    obtain ⟨q, hq, e⟩ := Option.map_eq_some_iff.1 h
    cases e
    exact aregion_keeps hk ops s _ hq
  | draw ops pairs =>
    intro s s' x h
    simp only [acode] at h
    obtain ⟨q, hq, e⟩ := Option.map_eq_some_iff.1 h
    cases e
    exact adraw_keeps hk hq
  | seq a b iha ihb =>
    intro s s' x h
    simp only [acode] at h
    split at h
    · rename_i s1 h1
      exact (iha _ _ _ h1).trans (ihb _ _ _ h)
    · exact iha _ _ _ h
  | cond c a b iha ihb =>
    intro s s' x h
    simp only [acode] at h
    split at h
    · split at h
      · exact iha _ _ _ h
      · exact ihb _ _ _ h
    · cases h
  | block id c ih =>
    intro s s' x h
    simp only [acode] at h
    split at h
    · rename_i j s1 h1
      split at h <;> (cases h; exact ih _ _ _ h1)
    · exact ih _ _ _ h
  | loop c ih =>
    intro s s' x h
    simp only [acode] at h
    have : ∀ n (s s' : St) (x : AX), iter (acode call fuel c) n s = some (x, s') → Keeps s.2 s'.2 := by
      intro n
      induction n with
      | zero => intro s s' x h; simp [iter] at h
      | succ n ihn =>
        intro s s' x h
        simp only [iter] at h
        split at h
        · rename_i s1 h1
          exact (ih _ _ _ h1).trans (ihn _ _ _ h)
        · exact ih _ _ _ h
    exact this fuel s s' x h

theorem callF_keeps (T : FuncId → Option AFunc) : ∀ n, KeepC (callF T n)
  | 0 => fun f args H r H' h => by simp [callF] at h
  | n + 1 => fun f args H r H' h => by
    simp only [callF] at h
    split at h
    · split at h
      · rename_i s hs
        obtain ⟨v, _, e⟩ := Option.map_eq_some_iff.1 h
        cases e
        exact acode_keeps (callF_keeps T n) _ _ _ _ hs
      · rename_i s hs
        obtain ⟨v, _, e⟩ := Option.map_eq_some_iff.1 h
        cases e
        exact acode_keeps (callF_keeps T n) _ _ _ _ hs
      · cases h
    · cases h

theorem draw_ok {P : Program} {call : CallF} {fuel N : Nat} (hm : P.follows .mixedOrders = true) (hc : CallOk P call) (hk : KeepC call) {ops : Array Oper} {id : Nat} {Q : Exit → Act → World → Prop} {tm tm' : Tm} {H H' : Hp} {x : AX}
    {ι : Emb} {w : World} {a : Act} (h : acode call fuel (cDraw P N ops) (tm, H) = some (x, (tm', H'))) (s : Sim ι H w) (ht : TR ι N tm a)
    (hq : x = .normal → ∀ ι' a' w', TR ι' N tm' a' → Sim ι' H' w' → Fr ι H w ι' H' w' → Q .normal a' w') : x = .normal ∧ (Code.region id ops true).wp P Q a w := by
  unfold cDraw at h
  generalize hd0 : ops.toList.map (cOper P N ops []) = d0 at h
  generalize has : ancs ops.toList = as at h
  simp only at h
  generalize hpr : dPairs d0 as = pairs at h
  generalize hdo : dOps d0 as = dops at h
  split at h
  case isFalse => simp [acode] at h
  rename_i hcond
  rw [Bool.and_eq_true] at hcond
  obtain ⟨hedges, hstat⟩ := hcond
  simp only [acode] at h
  obtain ⟨q, hdr, e⟩ := Option.map_eq_some_iff.1 h
  cases e
  refine ⟨rfl, ?_⟩
  unfold adraw at hdr
  simp only at hdr
  split at hdr
  case h_2 => cases hdr
  rename_i tr htr
  split at hdr
  case isFalse => cases hdr
  rename_i hpairs
  obtain ⟨hl1, hl2, hl3⟩ := dtrace_spec _ _ _ _ htr
  have hd0len : d0.length = ops.size := by rw [← hd0]; simp
  have hdlen : dops.length = d0.length := by rw [← hdo]; simp [dOps]
  have hdget : ∀ (i : Nat) o, d0[i]? = some o → dops[i]? = some (withSlots d0 as o i) := by
    intro i o ho
    rw [← hdo]
    simp only [dOps, List.getElem?_map, List.getElem?_zipIdx, ho, Option.map_some, Nat.zero_add]
  have hdback : ∀ (i : Nat) d, dops[i]? = some d → ∃ o, d0[i]? = some o ∧ d.op = o.op ∧ (kindOf o.op = .read → d.slots = if ((louds d0).any (unordered as i)) then [] else (as.getD i []).filter (isNew d0)) := by
    intro i d hd
    have hi := lt_of_some hd
    rw [hdlen] at hi
    have ho : d0[i]? = some d0[i] := by simp [hi]
    rw [hdget i _ ho] at hd
    cases hd
    refine ⟨_, ho, ?_, fun hr => ?_⟩
    · unfold withSlots; split <;> rfl
    · unfold withSlots; rw [if_pos hr]
  have hloud : ∀ (l : Nat) d, dops[l]? = some d → kindOf d.op = .loud → l ∈ louds d0 := by
    intro l d hd hl
    obtain ⟨o, ho, e, _⟩ := hdback l d hd
    unfold louds
    rw [List.mem_filter]
    refine ⟨by have := lt_of_some ho; simpa using this, ?_⟩
    rw [ho]
    rw [e] at hl
    simp [hl]
  let tmf : Nat → Tm := fun j => ((tr[j]?).getD (tm, H)).1
  let Hf : Nat → Hp := fun j => ((tr[j]?).getD (tm, H)).2
  let vf : Nat → Value := fun j => match dops[j]? with
    | some o => match dstep call H.length dops.length j o (tmf j, Hf j) with
      | some (v, _) => v
      | none => undef
    | none => undef
  have hstate : ∀ (j : Nat) sj, tr[j]? = some sj → (tmf j, Hf j) = sj := by
    intro j sj hj
    show (((tr[j]?).getD (tm, H)).1, ((tr[j]?).getD (tm, H)).2) = sj
    rw [hj]; rfl
  have C : Ctx P call N ops H.length tmf Hf vf dops := by
    refine ⟨by rw [hdlen, hd0len], hk, hc, hedges, fun i o ho => ?_, fun i d hd hr k hks => ?_, fun i l d dl hd hr hdl hl hu => ?_, fun i j x y hij hx hy => ?_, fun j o ho => ?_, fun k hk => ?_⟩
    · have h0 : d0[i]? = some (cOper P N ops [] o) := by rw [← hd0]; simp [ho]
      have := hdget i _ h0
      unfold withSlots at this
      split at this
      · refine ⟨if (louds d0).any (unordered as i) then [] else (as.getD i []).filter (isNew d0), this.trans ?_⟩
        congr 1
        unfold cOper
        split <;> (try split) <;> rfl
      · exact ⟨[], this⟩
    · obtain ⟨o, ho, e, hsl⟩ := hdback i d hd
      rw [e] at hr
      rw [hsl hr] at hks
      split at hks
      · cases hks
      · rename_i hany
        rw [List.mem_filter] at hks
        rw [has]
        refine ⟨hks.1, fun l dl hdl hl => ?_⟩
        have hm := hloud l dl hdl hl
        cases hu : unordered as i l with
        | false => rfl
        | true => exact absurd (List.any_eq_true.2 ⟨l, hm, hu⟩) hany
    · obtain ⟨o, ho, e, _⟩ := hdback i d hd
      have hmem : (i, l) ∈ pairs := by
        rw [← hpr, dPairs, List.mem_flatMap]
        refine ⟨i, by have := lt_of_some ho; simpa using this, ?_⟩
        rw [ho]
        simp only
        rw [e] at hr
        rw [if_pos hr, List.mem_map]
        refine ⟨l, List.mem_filter.2 ⟨hloud l dl hdl hl, by rw [← has]; exact hu⟩, rfl⟩
      have hch := List.all_eq_true.1 hpairs _ hmem
      unfold dcheck at hch
      simp only [hd] at hch
      split at hch
      · rename_i o' s1 s2 s3 g1 g2 g3 g4
        cases g1
        rw [Bool.and_eq_true] at hch
        rw [hstate i s1 g2]
        have e2 := hstate l s2 g3
        have e3 := hstate (l + 1) s3 g4
        have e2' : Hf l = s2.2 := by rw [← e2]
        have e3' : Hf (l + 1) = s3.2 := by rw [← e3]
        rw [e2', e3']
        exact hch
      · cases hch
    · have hj := lt_of_some hy
      have h1 := List.all_eq_true.1 hstat j (by simpa using hj)
      have h2 := List.all_eq_true.1 h1 i (by simpa using hij)
      rw [hx, hy] at h2
      simp only [Bool.or_eq_true] at h2
      rw [has]
      rcases h2 with h2 | h2
      · exact .inl (List.contains_iff_mem.1 h2)
      · right
        simp only [Bool.and_eq_true, Bool.not_eq_true', Bool.and_eq_false_iff, decide_eq_false_iff_not] at h2
        refine ⟨h2.1.1, fun q => ?_, fun q => ?_⟩
        · rcases h2.1.2 with z | z
          · exact z q.1
          · exact z q.2
        · rcases h2.2 with z | z
          · exact z q.1
          · exact z q.2
    · obtain ⟨sj, sj1, v, g1, g2, g3, g4⟩ := hl3 j o ho
      rw [Nat.zero_add] at g3
      have e1 := hstate j sj g1
      have e2 := hstate (j + 1) sj1 g2
      have hv : vf j = v := by
        show (match dops[j]? with
          | some o => match dstep call H.length dops.length j o (tmf j, Hf j) with
            | some (v, _) => v
            | none => undef
          | none => undef) = v
        rw [ho]
        simp only
        rw [e1, g3]
      rw [e1, hv]
      have e2a : tmf (j + 1) = sj1.1 := by rw [← e2]
      have e2b : Hf (j + 1) = sj1.2 := by rw [← e2]
      have e1a : tmf j = sj.1 := by rw [← e1]
      rw [e2a, e2b, e1a]
      exact ⟨g3, g4⟩
    · have e := hstate 0 _ hl2
      have : Hf 0 = H ++ List.replicate dops.length .dead := by rw [show Hf 0 = (tmf 0, Hf 0).2 from rfl, e]
      rw [this, List.getElem?_append_right (by omega), List.getElem?_replicate, if_pos (by omega)]
  have h0 := hstate 0 _ hl2
  have hm0 : tmf 0 = tm := by rw [show tmf 0 = (tmf 0, Hf 0).1 from rfl, h0]
  have hH0 : Hf 0 = H ++ List.replicate dops.length .dead := by rw [show Hf 0 = (tmf 0, Hf 0).2 from rfl, h0]
  have hlast : tr[dops.length]? = some (tm', H') := by
    rw [List.getLast?_eq_getElem?, hl1] at hdr
    simpa using hdr
  have hend := hstate _ _ hlast
  have hme : tmf dops.length = tm' := by rw [show tmf dops.length = (tmf dops.length, Hf dops.length).1 from rfl, hend]
  have hHe : Hf dops.length = H' := by rw [show Hf dops.length = (tmf dops.length, Hf dops.length).2 from rfl, hend]
  refine C.all hm rfl hH0 s (by rw [hm0]; exact ht) ?_
  rw [hme, hHe]
  exact hq rfl
end Go.Ab
