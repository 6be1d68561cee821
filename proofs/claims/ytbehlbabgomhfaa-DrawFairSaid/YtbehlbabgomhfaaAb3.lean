/- The abstract machine, part 3: its operations, and that the model follows them. Own work. -/
import Derived.Test.YtbehlbabgomhfaaAb2
import Derived.Laws.StructEq
import Derived.Laws.MakeOwn
import Derived.Laws.Build
import Derived.Laws.Append
namespace Go.Ab
open Go

abbrev Tm := Nat → Value
def upd (tm : Tm) (t : Nat) (v : Value) : Tm := fun u => if u = t then v else tm u
theorem upd_same (tm : Tm) (t : Nat) (v : Value) : upd tm t v t = v := by simp [upd]
theorem upd_ne (tm : Tm) {t u : Nat} (v : Value) (h : u ≠ t) : upd tm t v u = tm u := by simp [upd, h]
def put (tm : Tm) (d : Option Nat) (v : Value) : Tm := match d with | some t => upd tm t v | none => tm

/-- The temporaries of the abstract machine and those of the frame. -/
structure TR (ι : Emb) (N : Nat) (tm : Tm) (a : Act) : Prop where
  size : N ≤ a.tmps.size
  defers : a.defers = []
  val : ∀ t, VR ι (tm t) (a.tmps.getD t undef)
theorem TR.mono {ι ι' : Emb} (hi : ι.le ι') {N : Nat} {tm : Tm} {a : Act} (h : TR ι N tm a) : TR ι' N tm a := ⟨h.size, h.defers, fun t => (h.val t).mono hi⟩
theorem TR.put {ι : Emb} {N : Nat} {tm : Tm} {a : Act} (h : TR ι N tm a) {d : Option Nat} (hd : ∀ t, d = some t → t < N) {u v : Value} (hv : VR ι u v) :
    TR ι N (put tm d u) (a.put d v) := by
  cases d with
  | none => exact h
  | some t =>
    have ht := hd t rfl
    refine ⟨by simpa [Act.put] using h.size, h.defers, fun x => ?_⟩
    simp only [Ab.put, Act.put, upd]
    by_cases e : x = t
    · subst e
      have := Nat.lt_of_lt_of_le ht h.size
      simp [Array.getD_eq_getD_getElem?, this, hv]
    · rw [if_neg e]
      have := h.val x
      rw [Array.getD_eq_getD_getElem?, Array.getElem?_setIfInBounds_ne (fun q => e q.symm), ← Array.getD_eq_getD_getElem?]
      exact this

def okC : Value → Bool
  | .bool _ | .int _ _ | .string _ | .pointer none | .slice none 0 0 | .map none | .nilFunc | .nilIface => true
  | _ => false
theorem okC_vr {ι : Emb} {v : Value} (h : okC v = true) : VR ι v v := by
  unfold okC at h
  split at h <;> first | constructor | cases h
def okO : Operand → Bool
  | .tmp _ | .func _ => true
  | .const v => okC v
  | .global _ => false
def ev (tm : Tm) : Operand → Value
  | .tmp t => tm t
  | .const v => v
  | .func f => .func (.func f) #[] #[]
  | .global _ => undef
theorem ev_vr {ι : Emb} {N : Nat} {tm : Tm} {a : Act} (h : TR ι N tm a) {x : Operand} (hx : okO x = true) : VR ι (ev tm x) (a.eval x) := by
  cases x with
  | tmp t => exact h.val t
  | const v => exact okC_vr hx
  | func f => exact .fn _ _ _ rfl fun j v v' h => by simp at h
  | global g => cases hx

/-- What an operation of the model comes to, beside the abstract one. -/
def Good (P : Program) (m : Sem Next) (ι : Emb) (H : Hp) (w : World) (av : Value) (H' : Hp) : Prop :=
  ∃ nx ι' w' v, m.run P w = .ok nx w' ∧ (nx = .value v ∨ (nx = .skip ∧ v = undef)) ∧ VR ι' av v ∧ Sim ι' H' w' ∧ Fr ι H w ι' H' w'
theorem Good.pure {P : Program} {m : Sem Next} {ι : Emb} {H : Hp} {w : World} {av v : Value} (h : m.run P w = .ok (.value v) w) (hv : VR ι av v) (s : Sim ι H w) : Good P m ι H w av H :=
  ⟨_, ι, w, v, h, .inl rfl, hv, s, Fr.refl ι H w⟩
theorem undef_vr (ι : Emb) : VR ι undef undef := .tup _ _ rfl fun _ _ _ h => by simp at h

/-! ### Whole numbers -/
def ibin (op : BinOp) (k : IntKind) (a : Int) (k' : IntKind) (b : Int) : Option Value :=
  match op with
  | .shl => if b < 0 then none else some (.int k (k.wrap (a * 2 ^ (min b.toNat k.bits))))
  | .shr => if b < 0 then none else some (.int k (a.fdiv (2 ^ (min b.toNat k.bits))))
  | op => if k = k' then
      match op with
      | .add => some (.int k (k.wrap (a + b)))
      | .sub => some (.int k (k.wrap (a - b)))
      | .mul => some (.int k (k.wrap (a * b)))
      | .quo => if b = 0 then none else some (.int k (k.wrap (a.tdiv b)))
      | .rem => if b = 0 then none else some (.int k (a.tmod b))
      | .and => some (.int k (k.wrap (BitVec.ofInt k.bits a &&& BitVec.ofInt k.bits b).toNat))
      | .or => some (.int k (k.wrap (BitVec.ofInt k.bits a ||| BitVec.ofInt k.bits b).toNat))
      | .xor => some (.int k (k.wrap (BitVec.ofInt k.bits a ^^^ BitVec.ofInt k.bits b).toNat))
      | .andNot => some (.int k (k.wrap (BitVec.ofInt k.bits a &&& ~~~ BitVec.ofInt k.bits b).toNat))
      | .eql => some (.bool (a == b))
      | .neq => some (.bool (a != b))
      | .lss => some (.bool (decide (a < b)))
      | .leq => some (.bool (decide (a ≤ b)))
      | .gtr => some (.bool (decide (a > b)))
      | .geq => some (.bool (decide (a ≥ b)))
      | _ => none
    else none
theorem ibin_run {P : Program} {op : BinOp} {k k' : IntKind} {a b : Int} {v : Value} (h : ibin op k a k' b = some v) (t : TypeId) (x y : Operand) (w : World) :
    (do eqGuard op t x y (.int k a) (.int k' b); binOp op t (.int k a) (.int k' b) : Sem Value).run P w = .ok v w := by
  have hg : (eqGuard op t x y (.int k a) (.int k' b)).run P w = .ok () w := by cases op <;> simp [eqGuard]
  rw [Sem.run_bind, hg, Result.andThen_ok]
  unfold ibin at h
  split at h
  · split at h
    · cases h
    · rename_i hb; cases h; simp [binOp, Op.shift, hb]
  · split at h
    · cases h
    · rename_i hb; cases h; simp [binOp, Op.shift, hb]
  · split at h
    · rename_i hk
      subst hk
      split at h <;> first
        | (cases h; simp [binOp, Op.intArith, Op.intBits, Op.intCmp]; done)
        | (split at h <;> first | (cases h; done) | (rename_i hb; cases h; simp [binOp, Op.intDiv, hb]))
        | (cases h; done)
    · cases h
theorem ibin_vr {ι : Emb} {op : BinOp} {k k' : IntKind} {a b : Int} {v : Value} (h : ibin op k a k' b = some v) : VR ι v v := by
  refine okC_vr ?_
  unfold ibin at h
  (repeat' split at h) <;> cases h <;> rfl

/-! ### Equality of other values -/
inductive EqS where
  | int | bool | str
  deriving DecidableEq
inductive EqK where
  | bool | ptr | slice | map | func | iface
  | struct (fs : List (Nat × EqS))
  | other
def eqS : EqS → Value → Value → Option Bool
  | .int, .int k a, .int k' b => if k = k' then some (a == b) else none
  | .bool, .bool a, .bool b => some (a == b)
  | .str, .string a, .string b => some (a == b)
  | _, _, _ => none
def eqFs : List (Nat × EqS) → List Value → List Value → Option Bool
  | [], _, _ => some true
  | (o, e) :: fs, xs, ys => do
    let x ← xs[o]?
    let y ← ys[o]?
    let b ← eqS e x y
    if b then eqFs fs xs ys else some false
def aEq : EqK → Value → Value → Option Bool
  | .bool, .bool a, .bool b => some (a == b)
  | .ptr, .pointer none, .pointer none => some true
  | .ptr, .pointer none, .pointer (some _) => some false
  | .ptr, .pointer (some _), .pointer none => some false
  | .slice, .slice none _ _, .slice b _ _ => some b.isNone
  | .slice, .slice (some _) _ _, .slice none _ _ => some false
  | .map, .map none, .map b => some b.isNone
  | .map, .map (some _), .map none => some false
  | .func, .nilFunc, .nilFunc => some true
  | .func, .nilFunc, .func _ _ _ => some false
  | .func, .func _ _ _, .nilFunc => some false
  | .iface, .nilIface, .iface _ _ => some false
  | .iface, .iface _ _, .nilIface => some false
  | .struct fs, .agg xs, .agg ys => eqFs fs xs.toList ys.toList
  | _, _, _ => none
def eqSOf (P : Program) (t : TypeId) : Option EqS :=
  match P.underlying t with
  | some (.int _) => some .int
  | some .bool => some .bool
  | some .string => some .str
  | _ => none
def eqKOf (P : Program) (t : TypeId) : EqK :=
  match P.underlying t with
  | some .bool => .bool
  | some (.pointer _) => .ptr
  | some (.slice _) => .slice
  | some (.map _ _) => .map
  | some (.func _ _ _) => .func
  | some (.interface _) => .iface
  | some (.struct fs) =>
    if P.stoodInHeld t = false ∧ P.eqGuardType P.depth t = false ∧ fs.toList.all (fun f => f.name ≠ "_") then
      match fs.toList.mapM (fun f => (eqSOf P f.type).map fun e => (f.offset, e)) with
      | some l => .struct l
      | none => .other
    else .other
  | _ => .other

theorem eqS_run {P : Program} {t : TypeId} {e : EqS} (ht : eqSOf P t = some e) {x y : Value} {b : Bool} (h : eqS e x y = some b) (d : Nat) (w : World) :
    (Op.equalIn (d + 1) t x y).run P w = .ok b w := by
  unfold eqSOf at ht
  unfold eqS at h
  split at h
  · split at ht <;> cases ht
    split at h
    · rename_i hu hk; cases h; subst hk; simp [Op.equalIn, run_underlying hu]
    · cases h
  · split at ht <;> cases ht
    rename_i hu; cases h; simp [Op.equalIn, run_underlying hu]
  · split at ht <;> cases ht
    rename_i hu; cases h; simp [Op.equalIn, run_underlying hu]
  · cases h
theorem eqS_vr {ι : Emb} {e : EqS} {x y : Value} {b : Bool} (h : eqS e x y = some b) {x' y' : Value} (hx : VR ι x x') (hy : VR ι y y') : eqS e x' y' = some b := by
  unfold eqS at h
  split at h
  · cases hx; cases hy; exact h
  · cases hx; cases hy; exact h
  · cases hx; cases hy; exact h
  · cases h
theorem eqSOf_part {P : Program} {t : TypeId} {e : EqS} (ht : eqSOf P t = some e) {cs : Array Value} {o : Nat} {v : Value} (hv : cs[o]? = some v) (w : World) :
    (part t cs o).run P w = .ok v w := by
  unfold eqSOf at ht
  split at ht <;> cases ht <;> (rename_i hu; simp [part, isAgg, run_underlying hu, hv])

theorem eqFs_run {P : Program} (d : Nat) {xs ys : Array Value} (w : World) : ∀ (fs : List Field) (l : List (Nat × EqS)) (b : Bool), (∀ f ∈ fs, f.name ≠ "_") →
    fs.mapM (fun f => (eqSOf P f.type).map fun e => (f.offset, e)) = some l → eqFs l xs.toList ys.toList = some b →
    (Op.eqFields (d + 1) xs ys fs).run P w = .ok b w
  | [], l, b, _, hl, h => by
    simp at hl; subst hl
    simp [eqFs] at h; subst h
    simp [Op.eqFields]
  | f :: fs, l, b, hn, hl, h => by
    simp only [List.mapM_cons, Option.bind_eq_bind, Option.pure_def, Option.bind_eq_some_iff] at hl
    obtain ⟨e, he, r, hr, h3⟩ := hl
    cases h3
    obtain ⟨e0, he0, rfl⟩ := Option.map_eq_some_iff.1 he
    simp only [eqFs, Option.bind_eq_bind, Option.bind_eq_some_iff] at h
    obtain ⟨x, hx, y, hy, c, hc, h⟩ := h
    have hx' : xs[f.offset]? = some x := by simpa using hx
    have hy' : ys[f.offset]? = some y := by simpa using hy
    simp only [Op.eqFields, hn f (by simp), ne_eq, not_false_eq_true, if_true, Sem.run_bind, eqSOf_part he0 hx', eqSOf_part he0 hy', Result.andThen_ok, eqS_run he0 hc]
    cases c with
    | false => simp at h; subst h; simp
    | true =>
      simp at h
      simp only [Bool.not_true, Bool.false_eq_true, if_false]
      exact eqFs_run d w fs r b (fun g hg => hn g (by simp [hg])) hr h

theorem eqFs_vr {ι : Emb} {xs ys xs' ys' : List Value} (hx : VRs ι xs xs') (hy : VRs ι ys ys') : ∀ (l : List (Nat × EqS)) (b : Bool), eqFs l xs ys = some b → eqFs l xs' ys' = some b
  | [], b, h => h
  | (o, e) :: l, b, h => by
    simp only [eqFs, Option.bind_eq_bind, Option.bind_eq_some_iff] at h ⊢
    obtain ⟨x, h1, y, h2, c, h3, h4⟩ := h
    obtain ⟨x', h1', hxx⟩ := hx.get h1
    obtain ⟨y', h2', hyy⟩ := hy.get h2
    refine ⟨x', h1', y', h2', c, eqS_vr h3 hxx hyy, ?_⟩
    cases c with
    | false => exact h4
    | true => simp at h4 ⊢; exact eqFs_vr hx hy l b h4

theorem aEq_vr {ι : Emb} {k : EqK} {x y : Value} {b : Bool} (h : aEq k x y = some b) {x' y' : Value} (hx : VR ι x x') (hy : VR ι y y') : aEq k x' y' = some b := by
  unfold aEq at h
  split at h <;> first
    | (cases hx <;> cases hy <;> first | exact h | (cases h; rfl))
    | (cases h; done)
    | (cases hx; cases hy; rename_i hs1 h1 _ hs2 h2; exact eqFs_vr (VR.cells (.agg _ _ hs1 h1)) (VR.cells (.agg _ _ hs2 h2)) _ _ h)

theorem eqGuard_ok {P : Program} (o : BinOp) (t : TypeId) (ox oy : Operand) (x y : Value) (w : World) (h1 : ¬ (x = .nilIface ∧ y = .nilIface)) (h2 : ∀ a b, ¬ (x = .agg a ∧ y = .agg b)) :
    (eqGuard o t ox oy x y).run P w = .ok () w := by
  cases o <;> (cases x <;> cases y <;> first | rfl | (exact absurd ⟨rfl, rfl⟩ h1) | (exact absurd ⟨rfl, rfl⟩ (h2 _ _)))

theorem aEq_run {P : Program} {t : TypeId} {x y : Value} {b : Bool} (h : aEq (eqKOf P t) x y = some b) (neg : Bool) (ox oy : Operand) (w : World) :
    (do eqGuard (if neg then .neq else .eql) t ox oy x y; binOp (if neg then .neq else .eql) t x y : Sem Value).run P w = .ok (.bool (if neg then !b else b)) w := by
  have key : (∀ o : BinOp, (eqGuard o t ox oy x y).run P w = .ok () w) → (Op.equalIn 10000 t x y).run P w = .ok b w → (∀ k a, x ≠ .int k a) → (∀ a, x ≠ .string a) →
      (∀ k a, x ≠ .float k a) → (∀ k a c, x ≠ .complex k a c) →
      (do eqGuard (if neg then .neq else .eql) t ox oy x y; binOp (if neg then .neq else .eql) t x y : Sem Value).run P w = .ok (.bool (if neg then !b else b)) w := by
    intro hg he h1 h2 h3 h4
    rw [Sem.run_bind, hg, Result.andThen_ok]
    cases neg <;> cases x <;> first
      | (exact absurd rfl (h1 _ _)) | (exact absurd rfl (h2 _)) | (exact absurd rfl (h3 _ _)) | (exact absurd rfl (h4 _ _ _))
      | (cases y <;> simp [binOp, Op.equal, Op.maxDepth, he])
  unfold eqKOf at h
  split at h
  case h_7 fs hu =>
    split at h
    · rename_i hc
      split at h
      · rename_i l hl
        unfold aEq at h
        split at h <;> first | (rename_i hq; cases hq; done) | skip
        all_goals (first | (cases h; done) | skip)
        rename_i fs' xs ys hq
        cases hq
        refine key (fun o => ?_) ?_ (by simp) (by simp) (by simp) (by simp)
        · exact run_eqGuard_agg w o t ox oy xs ys hc.2.1
        · rw [run_equalIn_struct w 9999 t xs ys (by simp [Program.fieldsOf, hu]) hc.1]
          refine eqFs_run 9998 w _ l b ?_ (by simpa [Program.fieldsOf, hu] using hl) h
          intro f hf
          have := List.all_eq_true.1 hc.2.2 f (by simpa [Program.fieldsOf, hu] using hf)
          simpa using this
      · simp [aEq] at h
    · simp [aEq] at h
  all_goals (
    rename_i hu
    unfold aEq at h
    split at h <;> first | (rename_i hq; cases hq; done) | (cases h; done) | skip)
  all_goals (
    first
    | (refine key (fun o => ?_) ?_ (by simp) (by simp) (by simp) (by simp) <;> first
        | (exact eqGuard_ok o t ox oy _ _ w (by simp) (by simp))
        | (cases h; rw [show (10000 : Nat) = 9999 + 1 from rfl]; generalize 9999 = d; simp [Op.equalIn, run_underlying hu]; done)))

end Go.Ab
