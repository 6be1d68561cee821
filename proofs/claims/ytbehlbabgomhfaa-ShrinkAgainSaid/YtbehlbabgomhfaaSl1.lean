/- Assertions over the abstract heap: what is read and what is owned. Own work. -/
import Derived.Test.YtbehlbabgomhfaaAb18
namespace Go.Ab
open Go

/-- A part of a heap: live blocks by number. -/
abbrev PH := Nat → Option Blk
def PH.le (Z W : PH) : Prop := ∀ b x, Z b = some x → W b = some x
theorem PH.le.refl (Z : PH) : Z.le Z := fun _ _ h => h
theorem PH.le.trans {Z W V : PH} (h : Z.le W) (k : W.le V) : Z.le V := fun b x e => k b x (h b x e)
def PH.dis (h k : PH) : Prop := ∀ b x y, h b = some x → k b = some y → False
theorem PH.dis.symm {h k : PH} (d : h.dis k) : k.dis h := fun b x y e f => d b y x f e
theorem PH.dis.le {h k h' k' : PH} (d : h.dis k) (a : h'.le h) (b : k'.le k) : h'.dis k' := fun c x y e f => d c x y (a c x e) (b c y f)
def PH.emp : PH := fun _ => none
theorem PH.emp_le (Z : PH) : PH.emp.le Z := fun _ _ h => by cases h
theorem PH.emp_dis (Z : PH) : PH.emp.dis Z := fun _ _ _ h => by cases h
theorem PH.dis_emp (Z : PH) : Z.dis PH.emp := fun _ _ _ _ h => by cases h
def PH.upd (h : PH) (b : Nat) (x : Blk) : PH := fun c => if c = b then some x else h c
theorem PH.upd_same (h : PH) (b : Nat) (x : Blk) : h.upd b x b = some x := by simp [PH.upd]
theorem PH.upd_ne (h : PH) {b c : Nat} (x : Blk) (e : c ≠ b) : h.upd b x c = h c := by simp [PH.upd, e]
def PH.del (h : PH) (b : Nat) : PH := fun c => if c = b then none else h c
theorem PH.del_le (h : PH) (b : Nat) : (h.del b).le h := fun c x e => by
  unfold PH.del at e; split at e
  · cases e
  · exact e
def PH.one (b : Nat) (x : Blk) : PH := PH.emp.upd b x
theorem PH.one_le {h : PH} {b : Nat} {x : Blk} (k : h b = some x) : (PH.one b x).le h := fun c y e => by
  unfold PH.one PH.upd at e; split at e
  · subst_vars; cases e; exact k
  · cases e
theorem PH.one_same (b : Nat) (x : Blk) : PH.one b x b = some x := PH.upd_same ..
theorem PH.one_dis {h : PH} {b : Nat} {x : Blk} (k : h b = none) : (PH.one b x).dis h := fun c y z e f => by
  unfold PH.one PH.upd at e; split at e
  · subst_vars; rw [k] at f; cases f
  · cases e
def PH.un (h k : PH) : PH := fun b => match h b with | some x => some x | none => k b
theorem PH.un_left (h k : PH) : h.le (h.un k) := fun b x e => by simp [PH.un, e]
theorem PH.un_right {h k : PH} (d : h.dis k) : k.le (h.un k) := fun b x e => by
  cases q : h b with
  | none => simp [PH.un, q, e]
  | some y => exact absurd (d b y x q e) id
theorem PH.un_le {h k Z : PH} (a : h.le Z) (b : k.le Z) : (h.un k).le Z := fun c x e => by
  unfold PH.un at e; split at e
  · cases e; exact a _ _ (by assumption)
  · exact b _ _ e
theorem PH.un_dis {h k Z : PH} (a : h.dis Z) (b : k.dis Z) : (h.un k).dis Z := fun c x y e f => by
  unfold PH.un at e; split at e
  · cases e; exact a _ _ _ (by assumption) f
  · exact b _ _ _ e f

/-- The live blocks of a heap. -/
def Hp.ph (H : Hp) : PH := fun b => match H[b]? with
  | some .dead => none
  | x => x
theorem ph_some {H : Hp} {b : Nat} {x : Blk} : Hp.ph H b = some x ↔ H[b]? = some x ∧ x ≠ .dead := by
  unfold Hp.ph
  constructor
  · intro h
    split at h
    · cases h
    · rename_i h2; exact ⟨h, fun e => by subst e; exact h2 h⟩
  · rintro ⟨h, h2⟩
    split
    · rename_i e; rw [h] at e; cases e; exact absurd rfl h2
    · exact h
theorem ph_get {H : Hp} {Z : PH} (hz : Z.le (Hp.ph H)) {b : Nat} {x : Blk} (h : Z b = some x) : H[b]? = some x := (ph_some.1 (hz b x h)).1
theorem ph_congr {H H' : Hp} {b : Nat} (h : H'[b]? = H[b]?) : Hp.ph H' b = Hp.ph H b := by unfold Hp.ph; rw [h]
theorem ph_app (H : Hp) (L : List Blk) : (Hp.ph H).le (Hp.ph (H ++ L)) := fun b x h => by
  have h1 := ph_some.1 h
  exact ph_some.2 ⟨by rw [get_left (lt_of_get h1.1)]; exact h1.1, h1.2⟩

/-! ### Shapes: how a value of Lean stands in cells -/
/-- rd: it can be read in the blocks Z; ow: what it owns lies in h, the rest of it in Z. -/
structure Sh (α : Type) where
  sz : Nat
  rd : PH → List Value → α → Prop
  ow : PH → PH → List Value → α → Prop
  rd_mono : ∀ {Z W : PH} {cs : List Value} {x : α}, Z.le W → rd Z cs x → rd W cs x
  ow_mono : ∀ {Z W h k : PH} {cs : List Value} {x : α}, Z.le W → h.le k → ow Z h cs x → ow W k cs x
  ow_rd : ∀ {Z h W : PH} {cs : List Value} {x : α}, Z.le W → h.le W → ow Z h cs x → rd W cs x
  len : ∀ {Z : PH} {cs : List Value} {x : α}, rd Z cs x → cs.length = sz
  one : ∀ {Z : PH} {cs : List Value} {x : α}, rd Z cs x → cs.all Value.oneCell' = true
section
variable {α β : Type}
/-- Nothing of it is owned. -/
def Sh.Lt (s : Sh α) : Prop := ∀ {Z h : PH} {cs : List Value} {x : α}, s.rd Z cs x → s.ow Z h cs x
def Sh.ro (s : Sh α) : Sh α where
  sz := s.sz
  rd := s.rd
  ow := fun Z _ cs x => s.rd Z cs x
  rd_mono := s.rd_mono
  ow_mono := fun a _ h => s.rd_mono a h
  ow_rd := fun a _ h => s.rd_mono a h
  len := s.len
  one := s.one
theorem Sh.ro_lt (s : Sh α) : s.ro.Lt := fun h => h
def Sh.flat (enc : α → List Value) (n : Nat) (hn : ∀ x, (enc x).length = n) (h1 : ∀ x, (enc x).all Value.oneCell' = true) : Sh α where
  sz := n
  rd := fun _ cs x => cs = enc x
  ow := fun _ _ cs x => cs = enc x
  rd_mono := fun _ h => h
  ow_mono := fun _ _ h => h
  ow_rd := fun _ _ h => h
  len := fun h => h ▸ hn _
  one := fun h => h ▸ h1 _
abbrev Sh.ik (k : IntKind) : Sh Int := Sh.flat (fun x => [.int k x]) 1 (fun _ => rfl) (fun _ => rfl)
abbrev Sh.int : Sh Int := Sh.ik .i64
abbrev Sh.bool : Sh Bool := Sh.flat (fun x => [.bool x]) 1 (fun _ => rfl) (fun _ => rfl)
abbrev Sh.str : Sh ByteArray := Sh.flat (fun x => [.string x]) 1 (fun _ => rfl) (fun _ => rfl)
theorem Sh.flat_lt {enc : α → List Value} {n : Nat} {hn : ∀ x, (enc x).length = n} {h1 : ∀ x, (enc x).all Value.oneCell' = true} : (Sh.flat enc n hn h1).Lt := fun h => h

/-- The cells of element i. -/
abbrev chk (us : List Value) (o sz i : Nat) : List Value := (us.drop (o + i * sz)).take sz
theorem chk_at {us : List Value} {o sz i n : Nat} (hi : i < n) (h : o + n * sz ≤ us.length) : o + i * sz + sz ≤ us.length := by
  have : (i + 1) * sz ≤ n * sz := Nat.mul_le_mul_right _ hi
  rw [Nat.add_mul, Nat.one_mul] at this
  omega
theorem chk_length {us : List Value} {o sz i n : Nat} (hi : i < n) (h : o + n * sz ≤ us.length) : (chk us o sz i).length = sz := by
  have := chk_at hi h
  simp; omega
/-- n elements from cell o on; there are not too many. -/
def Fits (o n sz len : Nat) : Prop := o + n * sz ≤ len ∧ n ≤ 281474976710656
/-- A slice that can be read. -/
def RdS (s : Sh α) (Z : PH) (v : Value) (xs : List α) : Prop := (v = .slice none 0 0 ∧ xs = []) ∨
  ∃ b o us x, v = .slice (some ⟨b, o, none⟩) xs.length xs.length ∧ Z b = some x ∧ x.cells = some us ∧ x.esz = some s.sz ∧ Fits o xs.length s.sz us.length ∧ ∀ (i : Nat) (y : α), xs[i]? = some y → s.rd Z (chk us o s.sz i) y
/-- A slice that is owned. -/
def OwS (s : Sh α) (Z h : PH) (v : Value) (xs : List α) : Prop := (v = .slice none 0 0 ∧ xs = []) ∨
  ∃ (b o : Nat) (us : List Value) (hs : Nat → PH), v = .slice (some ⟨b, o, none⟩) xs.length xs.length ∧ h b = some (.rw s.sz us) ∧ Fits o xs.length s.sz us.length ∧ (∀ i, (hs i).le h) ∧ (∀ i, hs i b = none) ∧
    (∀ i j, i ≠ j → (hs i).dis (hs j)) ∧ ∀ (i : Nat) (y : α), xs[i]? = some y → s.ow Z (hs i) (chk us o s.sz i) y
theorem RdS.mono {s : Sh α} {Z W : PH} {v : Value} {xs : List α} (hz : Z.le W) (h : RdS s Z v xs) : RdS s W v xs := by
  rcases h with h | ⟨b, o, us, x, h1, h2, h3, h4, h5, h6⟩
  · exact .inl h
  · exact .inr ⟨b, o, us, x, h1, hz _ _ h2, h3, h4, h5, fun i y hy => s.rd_mono hz (h6 i y hy)⟩
theorem OwS.mono {s : Sh α} {Z W h k : PH} {v : Value} {xs : List α} (hz : Z.le W) (hh : h.le k) (q : OwS s Z h v xs) : OwS s W k v xs := by
  rcases q with q | ⟨b, o, us, hs, h1, h2, h3, h4, h5, h6, h7⟩
  · exact .inl q
  · exact .inr ⟨b, o, us, hs, h1, hh _ _ h2, h3, fun i => (h4 i).trans hh, h5, h6, fun i y hy => s.ow_mono hz (PH.le.refl _) (h7 i y hy)⟩
theorem OwS.rd {s : Sh α} {Z h W : PH} {v : Value} {xs : List α} (hz : Z.le W) (hh : h.le W) (q : OwS s Z h v xs) : RdS s W v xs := by
  rcases q with q | ⟨b, o, us, hs, h1, h2, h3, h4, h5, h6, h7⟩
  · exact .inl q
  · exact .inr ⟨b, o, us, _, h1, hh _ _ h2, rfl, rfl, h3, fun i y hy => s.ow_rd hz ((h4 i).trans hh) (h7 i y hy)⟩
theorem RdS.one {s : Sh α} {Z : PH} {v : Value} {xs : List α} (h : RdS s Z v xs) : v.cells = #[v] ∧ v.oneCell' = true := by
  rcases h with ⟨rfl, -⟩ | ⟨b, o, us, x, rfl, -⟩ <;> exact ⟨rfl, rfl⟩
theorem RdS.nil {s : Sh α} {Z : PH} : RdS s Z (.slice none 0 0) [] := .inl ⟨rfl, rfl⟩
theorem OwS.nil {s : Sh α} {Z h : PH} : OwS s Z h (.slice none 0 0) [] := .inl ⟨rfl, rfl⟩
def Sh.sl (s : Sh α) : Sh (List α) where
  sz := 1
  rd := fun Z cs xs => ∃ v, cs = [v] ∧ RdS s Z v xs
  ow := fun Z h cs xs => ∃ v, cs = [v] ∧ OwS s Z h v xs
  rd_mono := fun hz ⟨v, e, h⟩ => ⟨v, e, h.mono hz⟩
  ow_mono := fun hz hh ⟨v, e, h⟩ => ⟨v, e, h.mono hz hh⟩
  ow_rd := fun hz hh ⟨v, e, h⟩ => ⟨v, e, h.rd hz hh⟩
  len := fun ⟨v, e, h⟩ => by subst e; rfl
  one := fun ⟨v, e, h⟩ => by subst e; simp [h.one.2]
/-- Two things side by side. -/
def Sh.pr (s : Sh α) (t : Sh β) : Sh (α × β) where
  sz := s.sz + t.sz
  rd := fun Z cs x => ∃ a b, cs = a ++ b ∧ s.rd Z a x.1 ∧ t.rd Z b x.2
  ow := fun Z h cs x => ∃ a b h1 h2, cs = a ++ b ∧ h1.le h ∧ h2.le h ∧ h1.dis h2 ∧ s.ow Z h1 a x.1 ∧ t.ow Z h2 b x.2
  rd_mono := fun hz ⟨a, b, e, h, k⟩ => ⟨a, b, e, s.rd_mono hz h, t.rd_mono hz k⟩
  ow_mono := fun hz hh ⟨a, b, h1, h2, e, l1, l2, d, h, k⟩ => ⟨a, b, h1, h2, e, l1.trans hh, l2.trans hh, d, s.ow_mono hz (PH.le.refl _) h, t.ow_mono hz (PH.le.refl _) k⟩
  ow_rd := fun hz hh ⟨a, b, h1, h2, e, l1, l2, d, h, k⟩ => ⟨a, b, e, s.ow_rd hz (l1.trans hh) h, t.ow_rd hz (l2.trans hh) k⟩
  len := fun ⟨a, b, e, h, k⟩ => by subst e; simp [s.len h, t.len k]
  one := fun ⟨a, b, e, h, k⟩ => by subst e; rw [List.all_append, s.one h, t.one k]; rfl
/-- The same under another name. -/
def Sh.via (s : Sh α) (f : β → α) : Sh β where
  sz := s.sz
  rd := fun Z cs x => s.rd Z cs (f x)
  ow := fun Z h cs x => s.ow Z h cs (f x)
  rd_mono := s.rd_mono
  ow_mono := s.ow_mono
  ow_rd := s.ow_rd
  len := s.len
  one := s.one
theorem Sh.via_lt {s : Sh α} {f : β → α} (h : s.Lt) : (s.via f).Lt := fun k => h k
theorem Sh.pr_lt {s : Sh α} {t : Sh β} (h : s.Lt) (k : t.Lt) : (s.pr t).Lt := fun ⟨a, b, e, x, y⟩ => ⟨a, b, .emp, .emp, e, PH.emp_le _, PH.emp_le _, PH.emp_dis _, h x, k y⟩
end

/-! ### Assertions -/
structure It where
  P : PH → PH → Prop
  mono : ∀ {Z W h k : PH}, Z.le W → h.le k → P Z h → P W k
def Sh.it {α : Type} (s : Sh α) (cs : List Value) (x : α) : It := ⟨fun Z h => s.ow Z h cs x, s.ow_mono⟩
def pts (b : Nat) (x : Blk) : It := ⟨fun _ h => h b = some x, fun _ hh e => hh _ _ e⟩
def It.sl {α : Type} (s : Sh α) (v : Value) (xs : List α) : It := ⟨fun Z h => OwS s Z h v xs, OwS.mono⟩
def It.tt : It := ⟨fun _ _ => True, fun _ _ h => h⟩

/-- Z: what the things of the list may point to. V: what stays as it is. Besides there are the things of the list, each in blocks of its own. -/
def Sat (Z V : PH) (H : Hp) (l : List It) : Prop := Z.le V ∧ V.le (Hp.ph H) ∧ ∃ (N : PH) (hs : Nat → PH), N.le (Hp.ph H) ∧ V.dis N ∧ (∀ i, (hs i).le (Hp.ph H)) ∧ (∀ i, V.dis (hs i)) ∧ (∀ i, N.dis (hs i)) ∧ (∀ i j, i ≠ j → (hs i).dis (hs j)) ∧
  ∀ (i : Nat) (t : It), l[i]? = some t → t.P (Z.un N) (hs i)
section
variable {Z V : PH} {H H' : Hp} {l : List It}
theorem Sat.zv (h : Sat Z V H l) : Z.le V := h.1
theorem Sat.v (h : Sat Z V H l) : V.le (Hp.ph H) := h.2.1
theorem Sat.z (h : Sat Z V H l) : Z.le (Hp.ph H) := h.1.trans h.2.1
theorem Sat.nil (h : Z.le V) (k : V.le (Hp.ph H)) : Sat Z V H [] := ⟨h, k, .emp, fun _ => .emp, PH.emp_le _, PH.dis_emp _, fun _ => PH.emp_le _, fun _ => PH.dis_emp _, fun _ => PH.dis_emp _, fun _ _ _ => PH.emp_dis _, fun i t e => by simp at e⟩
theorem Sat.up (he : (Hp.ph H).le (Hp.ph H')) (h : Sat Z V H l) : Sat Z V H' l := by
  obtain ⟨a, b, N, hs, c, d, e, f, g, k, m⟩ := h
  exact ⟨a, b.trans he, N, hs, c.trans he, d, fun i => (e i).trans he, f, g, k, m⟩
/-- Some of the things, in another order. -/
theorem Sat.sel (g : Nat → Nat) (hg : ∀ i j, g i = g j → i = j) {l' : List It} (q : ∀ (i : Nat) (t : It), l'[i]? = some t → l[g i]? = some t) (h : Sat Z V H l) : Sat Z V H l' := by
  obtain ⟨a, b, N, hs, c, d, e, f, g', k, m⟩ := h
  exact ⟨a, b, N, fun i => hs (g i), c, d, fun i => e _, fun i => f _, fun i => g' _, fun i j x => k _ _ fun y => x (hg _ _ y), fun i t x => m _ t (q i t x)⟩
theorem Sat.drop (n : Nat) (h : Sat Z V H l) : Sat Z V H (l.eraseIdx n) := by
  refine h.sel (fun i => if i < n then i else i + 1) (fun i j e => ?_) (fun i t e => ?_)
  · split at e <;> split at e <;> omega
  · rw [List.getElem?_eraseIdx] at e
    split at e
    · rename_i q; rw [if_pos q]; exact e
    · rename_i q; rw [if_neg q]; exact e
/-- A thing comes to the front. -/
theorem Sat.pull (n : Nat) {t : It} (ht : l[n]? = some t) (h : Sat Z V H l) : Sat Z V H (t :: l.eraseIdx n) := by
  refine h.sel (fun i => if i = 0 then n else if i ≤ n then i - 1 else i) (fun i j e => ?_) (fun i u e => ?_)
  · (repeat' split at e) <;> omega
  · cases i with
    | zero => simp at e; subst e; simpa using ht
    | succ i =>
      rw [List.getElem?_cons_succ, List.getElem?_eraseIdx] at e
      simp only [Nat.add_one_ne_zero, if_false]
      split at e
      · rename_i q; rw [if_pos (by omega)]; exact e
      · rename_i q; rw [if_neg (by omega)]; exact e
theorem Sat.left {l1 l2 : List It} (h : Sat Z V H (l1 ++ l2)) : Sat Z V H l1 := h.sel id (fun _ _ e => e) fun i t e => by
  rw [id, List.getElem?_append_left (List.getElem?_eq_some_iff.1 e).1]; exact e
theorem Sat.conv (n : Nat) {t u : It} (ht : l[n]? = some t) (q : ∀ F h : PH, Z.le F → t.P F h → u.P F h) (h : Sat Z V H l) : Sat Z V H (l.set n u) := by
  obtain ⟨a, b, N, hs, c, d, e, f, g, k, m⟩ := h
  refine ⟨a, b, N, hs, c, d, e, f, g, k, fun i v x => ?_⟩
  by_cases hi : i = n
  · subst hi
    rw [List.getElem?_set_self (List.getElem?_eq_some_iff.1 ht).1] at x
    cases x
    exact q _ _ (PH.un_left _ _) (m i t ht)
  · rw [List.getElem?_set_ne (fun e => hi e.symm)] at x
    exact m i v x
/-- What holds anyway may stand there as well. -/
theorem Sat.push {u : It} (q : ∀ F : PH, Z.le F → u.P F .emp) (h : Sat Z V H l) : Sat Z V H (u :: l) := by
  obtain ⟨a, b, N, hs, c, d, e, f, g, k, m⟩ := h
  refine ⟨a, b, N, fun i => match i with | 0 => .emp | i + 1 => hs i, c, d, fun i => ?_, fun i => ?_, fun i => ?_, fun i j x => ?_, fun i v x => ?_⟩
  · cases i <;> first | exact PH.emp_le _ | exact e _
  · cases i <;> first | exact PH.dis_emp _ | exact f _
  · cases i <;> first | exact PH.dis_emp _ | exact g _
  · cases i <;> cases j <;> first | exact absurd rfl x | exact PH.emp_dis _ | exact PH.dis_emp _ | exact k _ _ (fun y => x (by rw [y]))
  · cases i with
    | zero => simp at x; subst x; exact q _ (PH.un_left _ _)
    | succ i => exact m i v (by simpa using x)
theorem Sat.un_le {N : PH} (h : Z.le (Hp.ph H)) (k : N.le (Hp.ph H)) : (Z.un N).le (Hp.ph H) := PH.un_le h k
/-- What one of the things is now. -/
theorem Sat.cur (n : Nat) {α : Type} {s : Sh α} {cs : List Value} {x : α} (ht : l[n]? = some (s.it cs x)) (h : Sat Z V H l) : s.rd (Hp.ph H) cs x := by
  have hz := h.z
  obtain ⟨a, b, N, hs, c, d, e, f, g, k, m⟩ := h
  exact s.ow_rd (PH.un_le hz c) (e n) (m n _ ht)
theorem Sat.curS (n : Nat) {α : Type} {s : Sh α} {v : Value} {xs : List α} (ht : l[n]? = some (It.sl s v xs)) (h : Sat Z V H l) : RdS s (Hp.ph H) v xs := by
  have hz := h.z
  obtain ⟨a, b, N, hs, c, d, e, f, g, k, m⟩ := h
  exact OwS.rd (PH.un_le hz c) (e n) (m n _ ht)
theorem Sat.curB (n : Nat) {b : Nat} {x : Blk} (ht : l[n]? = some (pts b x)) (h : Sat Z V H l) : H[b]? = some x := by
  obtain ⟨_, _, N, hs, c, d, e, f, g, k, m⟩ := h
  exact ph_get (e n) (m n _ ht)
theorem eraseIdx_set {α : Type} (l : List α) (n : Nat) (x : α) : (l.set n x).eraseIdx n = l.eraseIdx n := by
  apply List.ext_getElem?
  intro i
  rw [List.getElem?_eraseIdx, List.getElem?_eraseIdx]
  split
  · rename_i q; rw [List.getElem?_set_ne (by omega)]
  · rename_i q; rw [List.getElem?_set_ne (by omega)]
/-- All that is not changed any more, by name. -/
theorem Sat.norm (h : Sat Z V H l) : ∃ Y W : PH, Z.le Y ∧ V.le W ∧ Y.le W ∧ W.le (Hp.ph H) ∧ ∃ hs : Nat → PH, (∀ i, (hs i).le (Hp.ph H)) ∧ (∀ i, W.dis (hs i)) ∧ (∀ i j, i ≠ j → (hs i).dis (hs j)) ∧ ∀ (i : Nat) (t : It), l[i]? = some t → t.P Y (hs i) := by
  obtain ⟨a, b, N, hs, c, d, e, f, g, k, m⟩ := h
  exact ⟨Z.un N, V.un N, PH.un_left _ _, PH.un_left _ _, PH.un_le (a.trans (PH.un_left _ _)) (PH.un_right d), PH.un_le b c, hs, e, fun i => PH.un_dis (f i) (g i), k, m⟩
theorem PH.un_emp (Z : PH) : Z.un .emp = Z := by funext b; simp only [PH.un, PH.emp]; cases Z b <;> rfl
theorem Sat.mk' {hs : Nat → PH} (a : Z.le V) (b : V.le (Hp.ph H)) (e : ∀ i, (hs i).le (Hp.ph H)) (f : ∀ i, V.dis (hs i)) (k : ∀ i j, i ≠ j → (hs i).dis (hs j)) (m : ∀ (i : Nat) (t : It), l[i]? = some t → t.P Z (hs i)) : Sat Z V H l :=
  ⟨a, b, .emp, hs, PH.emp_le _, PH.dis_emp _, e, f, fun _ => PH.emp_dis _, k, fun i t x => by rw [PH.un_emp]; exact m i t x⟩
def PH.sub (Y Z : PH) : PH := fun b => match Z b with | some _ => none | none => Y b
theorem PH.sub_le (Y Z : PH) : (Y.sub Z).le Y := fun b x e => by
  unfold PH.sub at e; split at e
  · cases e
  · exact e
theorem PH.sub_dis (Y Z : PH) : Z.dis (Y.sub Z) := fun b x y e f => by
  unfold PH.sub at f; rw [e] at f; cases f
/-- The worlds have grown: Z to Y, V to W. What is new in Y is new to V. -/
structure Gw (Z V Y W : PH) : Prop where
  z : Z.le Y
  v : V.le W
  o : ∀ b x y, Y b = some x → V b = some y → Z b = some x
theorem Gw.refl (Z V : PH) : Gw Z V Z V := ⟨PH.le.refl _, PH.le.refl _, fun _ _ _ h _ => h⟩
theorem Gw.trans {Z V Y W X U : PH} (h : Gw Z V Y W) (k : Gw Y W X U) : Gw Z V X U := ⟨h.z.trans k.z, h.v.trans k.v, fun b x y e f => h.o b x y (k.o b x y e (h.v _ _ f)) f⟩
theorem Gw.le_un {Z V Y W N : PH} (h : Gw Z V Y W) (d : V.dis N) : (Y.un N).le (Z.un ((Y.un N).sub V)) := fun b x e => by
  cases hv : V b with
  | none =>
    cases hz : Z b with
    | none => simp only [PH.un, hz]; simp only [PH.sub, hv]; exact e
    | some z =>
      have := h.z _ _ hz
      simp only [PH.un, this] at e
      simp only [PH.un, hz]; exact e
  | some y =>
    have hN : N b = none := by
      cases q : N b with
      | none => rfl
      | some w => exact absurd (d _ _ _ hv q) id
    cases hy : Y b with
    | none => simp only [PH.un, hy, hN] at e; cases e
    | some w =>
      simp only [PH.un, hy] at e; cases e
      have := h.o _ _ _ hy hv
      simp only [PH.un, this]
/-- From larger worlds back to smaller ones. -/
theorem Sat.weak {Y W : PH} (q : Gw Z V Y W) (zv : Z.le V) (h : Sat Y W H l) : Sat Z V H l := by
  have hz := h.z
  obtain ⟨a, b, N, hs, c, d, e, f, g, k, m⟩ := h
  refine ⟨zv, q.v.trans b, (Y.un N).sub V, hs, (PH.sub_le _ _).trans (PH.un_le hz c), PH.sub_dis _ _, e, fun i => (f i).le q.v (PH.le.refl _), fun i => ?_, k, fun i t x => ?_⟩
  · exact (PH.un_dis ((f i).le a (PH.le.refl _)) (g i)).le (PH.sub_le _ _) (PH.le.refl _)
  · exact t.mono (q.le_un (d.le q.v (PH.le.refl _))) (PH.le.refl _) (m i t x)
theorem Sat.norm' (h : Sat Z V H l) : ∃ Y W : PH, Gw Z V Y W ∧ Y.le W ∧ W.le (Hp.ph H) ∧ ∃ hs : Nat → PH, (∀ i, (hs i).le (Hp.ph H)) ∧ (∀ i, W.dis (hs i)) ∧ (∀ i j, i ≠ j → (hs i).dis (hs j)) ∧ ∀ (i : Nat) (t : It), l[i]? = some t → t.P Y (hs i) := by
  obtain ⟨a, b, N, hs, c, d, e, f, g, k, m⟩ := h
  refine ⟨Z.un N, V.un N, ⟨PH.un_left _ _, PH.un_left _ _, fun b x y p q => ?_⟩, PH.un_le (a.trans (PH.un_left _ _)) (PH.un_right d), PH.un_le b c, hs, e, fun i => PH.un_dis (f i) (g i), k, m⟩
  cases hz : Z b with
  | some z => simp only [PH.un, hz] at p; exact p
  | none => simp only [PH.un, hz] at p; exact absurd (d _ _ _ q p) id
/-- A thing is not changed any more. -/
theorem Sat.frz (n : Nat) {α : Type} {s : Sh α} {cs : List Value} {x : α} (ht : l[n]? = some (s.it cs x)) (h : Sat Z V H l) : ∃ Y W : PH, Gw Z V Y W ∧ Sat Y W H (l.eraseIdx n) ∧ s.rd Y cs x := by
  obtain ⟨Y, W, q, yw, wh, hs, e, f, k, m⟩ := h.norm'
  have hY : (hs n).le (Y.un (hs n)) := PH.un_right ((f n).le yw (PH.le.refl _))
  refine ⟨Y.un (hs n), W.un (hs n), ⟨q.z.trans (PH.un_left _ _), q.v.trans (PH.un_left _ _), fun b x y p r => ?_⟩, ?_, s.ow_rd (PH.un_left _ _) hY (m n _ ht)⟩
  · cases hy : Y b with
    | some z => simp only [PH.un, hy] at p; cases p; exact q.o _ _ _ hy r
    | none => simp only [PH.un, hy] at p; exact absurd (f n _ _ _ (q.v _ _ r) p) id
  · rw [← eraseIdx_set l n It.tt]
    refine Sat.drop n (Sat.mk' (hs := fun i => if i = n then .emp else hs i) (PH.un_le (yw.trans (PH.un_left _ _)) (PH.un_right (f n))) (PH.un_le wh (e n)) (fun i => ?_) (fun i => ?_) (fun i j x => ?_) (fun i t x => ?_))
    · split
      · exact PH.emp_le _
      · exact e i
    · split
      · exact PH.dis_emp _
      · rename_i x; exact PH.un_dis (f i) (k n i (fun y => x y.symm))
    · split
      · exact PH.emp_dis _
      · split
        · exact PH.dis_emp _
        · exact k i j x
    · by_cases hi : i = n
      · subst hi
        rw [List.getElem?_set_self (List.getElem?_eq_some_iff.1 ht).1] at x
        cases x; exact trivial
      · rw [if_neg hi]
        rw [List.getElem?_set_ne (fun e => hi e.symm)] at x
        exact t.mono (PH.un_left _ _) (PH.le.refl _) (m i t x)
theorem Sat.frzS (n : Nat) {α : Type} {s : Sh α} {v : Value} {xs : List α} (ht : l[n]? = some (It.sl s v xs)) (h : Sat Z V H l) : ∃ Y W : PH, Gw Z V Y W ∧ Sat Y W H (l.eraseIdx n) ∧ RdS s Y v xs := by
  have h1 : Sat Z V H (l.set n (s.sl.it [v] xs)) := h.conv n ht fun F k _ q => ⟨v, rfl, q⟩
  obtain ⟨Y, W, a, b, v', e, c⟩ := h1.frz n (List.getElem?_set_self (List.getElem?_eq_some_iff.1 ht).1)
  cases e
  exact ⟨Y, W, a, by rwa [eraseIdx_set] at b, c⟩
/-- One of the things is changed, in its own blocks and in new ones. -/
theorem Sat.act (n : Nat) {t u : It} (ht : l[n]? = some t)
    (q : ∀ F h : PH, Z.le F → h.le (Hp.ph H) → t.P F h → ∃ h' : PH, u.P F h' ∧ h'.le (Hp.ph H') ∧ (∀ c x, h' c = some x → (∃ y, h c = some y) ∨ Hp.ph H c = none) ∧ (∀ c x, Hp.ph H c = some x → h c = none → Hp.ph H' c = some x))
    (h : Sat Z V H l) : Sat Z V H' (l.set n u) := by
  obtain ⟨Y, W, gw, yw, wh, hs, e, f, k, m⟩ := h.norm'
  obtain ⟨h', hu, hle, hdom, hrest⟩ := q Y (hs n) gw.z (e n) (m n t ht)
  have go : ∀ {g : PH}, g.le (Hp.ph H) → (hs n).dis g → g.le (Hp.ph H') := fun {g} hg hd c x q => by
    refine hrest c x (hg _ _ q) ?_
    cases r : hs n c with
    | none => rfl
    | some y => exact absurd (hd _ _ _ r q) id
  have key : ∀ {g : PH}, g.le (Hp.ph H) → (hs n).dis g → h'.dis g := fun {g} hg hd c x y q1 q2 => by
    rcases hdom c x q1 with ⟨z, hz⟩ | hz
    · exact hd _ _ _ hz q2
    · have := hg _ _ q2; rw [hz] at this; cases this
  refine Sat.weak gw h.zv (Sat.mk' (hs := fun i => if i = n then h' else hs i) yw (go wh (f n).symm) (fun i => ?_) (fun i => ?_) (fun i j x => ?_) (fun i v x => ?_))
  · split
    · exact hle
    · rename_i q; exact go (e i) (k n i (fun x => q x.symm))
  · split
    · exact (key wh (f n).symm).symm
    · exact f i
  · by_cases hi : i = n
    · rw [if_pos hi]
      by_cases hj : j = n
      · exact absurd (hi.trans hj.symm) x
      · rw [if_neg hj]; exact key (e j) (k n j fun y => hj y.symm)
    · rw [if_neg hi]
      by_cases hj : j = n
      · rw [if_pos hj]; exact (key (e i) (k n i fun y => hi y.symm)).symm
      · rw [if_neg hj]; exact k i j x
  · by_cases hi : i = n
    · subst hi
      rw [List.getElem?_set_self (List.getElem?_eq_some_iff.1 ht).1] at x
      cases x
      rw [if_pos rfl]; exact hu
    · rw [List.getElem?_set_ne (fun e => hi e.symm)] at x
      rw [if_neg hi]
      exact m i v x
/-- Two things as one. -/
def It.sep (t u : It) : It := ⟨fun F h => ∃ h1 h2 : PH, h1.le h ∧ h2.le h ∧ h1.dis h2 ∧ t.P F h1 ∧ u.P F h2, fun hz hh ⟨h1, h2, a, b, c, d, e⟩ => ⟨h1, h2, a.trans hh, b.trans hh, c, t.mono hz (PH.le.refl _) d, u.mono hz (PH.le.refl _) e⟩⟩
theorem Sat.join {t u : It} (h : Sat Z V H (t :: u :: l)) : Sat Z V H (t.sep u :: l) := by
  obtain ⟨a, b, N, hs, c, d, e, f, g, k, m⟩ := h
  have d01 := k 0 1 (by omega)
  refine ⟨a, b, N, fun i => match i with | 0 => (hs 0).un (hs 1) | i + 1 => hs (i + 2), c, d, fun i => ?_, fun i => ?_, fun i => ?_, fun i j x => ?_, fun i v x => ?_⟩
  · cases i with
    | zero => exact PH.un_le (e 0) (e 1)
    | succ i => exact e _
  · cases i with
    | zero => exact (PH.un_dis (f 0).symm (f 1).symm).symm
    | succ i => exact f _
  · cases i with
    | zero => exact (PH.un_dis (g 0).symm (g 1).symm).symm
    | succ i => exact g _
  · cases i with
    | zero => cases j with
      | zero => exact absurd rfl x
      | succ j => exact PH.un_dis (k _ _ (by omega)) (k _ _ (by omega))
    | succ i => cases j with
      | zero => exact (PH.un_dis (k _ _ (by omega)) (k _ _ (by omega))).symm
      | succ j => exact k _ _ (by omega)
  · cases i with
    | zero => simp at x; subst x; exact ⟨hs 0, hs 1, PH.un_left _ _, PH.un_right d01, d01, m 0 t rfl, m 1 u rfl⟩
    | succ i => exact m (i + 2) v (by simpa using x)
/-- A new block. -/
theorem Sat.new {k : Nat} {x : Blk} (hx : x ≠ .dead) (hk : Hp.ph H k = none) (hn : H'[k]? = some x) (ho : ∀ b : Nat, b ≠ k → H'[b]? = H[b]?) (h : Sat Z V H l) : Sat Z V H' (pts k x :: l) := by
  have h1 : Sat Z V H (It.tt :: l) := h.push fun _ _ => trivial
  refine h1.act 0 (t := It.tt) (u := pts k x) rfl fun F g _ _ _ => ⟨PH.one k x, PH.one_same .., PH.one_le (ph_some.2 ⟨hn, hx⟩), fun c y q => ?_, fun c y q _ => ?_⟩
  · unfold PH.one PH.upd at q
    split at q
    · subst_vars; exact .inr hk
    · cases q
  · have : c ≠ k := fun e => by subst e; rw [hk] at q; cases q
    rw [ph_congr (ho c this)]; exact q
theorem Sat.new' {x : Blk} (hx : x ≠ .dead) (h : Sat Z V H l) : Sat Z V (H ++ [x]) (pts H.length x :: l) := by
  refine h.new hx (by simp [Hp.ph]) (get_at rfl) fun c hc => ?_
  rcases Nat.lt_or_ge c H.length with e | e
  · exact get_left e
  · rw [List.getElem?_eq_none (by simp; omega), List.getElem?_eq_none e]
/-- A block that is owned gets other contents. -/
theorem Sat.wr (n : Nat) {t u : It} {b : Nat} {y : Blk} (ht : l[n]? = some t) (hy : y ≠ .dead) (hb : b < H.length)
    (q : ∀ F h : PH, Z.le F → h.le (Hp.ph H) → t.P F h → (∃ x, h b = some x) ∧ u.P F (h.upd b y)) (h : Sat Z V H l) : Sat Z V (H.set b y) (l.set n u) := by
  refine h.act n ht fun F g hF hg ht => ?_
  obtain ⟨⟨x, hx⟩, hu⟩ := q F g hF hg ht
  refine ⟨_, hu, fun c z r => ?_, fun c z r => ?_, fun c z r s => ?_⟩
  · by_cases hc : c = b
    · subst hc; rw [PH.upd_same] at r; cases r; exact ph_some.2 ⟨get_same hb, hy⟩
    · rw [PH.upd_ne _ _ hc] at r; rw [ph_congr (get_other hc)]; exact hg _ _ r
  · by_cases hc : c = b
    · subst hc; exact .inl ⟨x, hx⟩
    · rw [PH.upd_ne _ _ hc] at r; exact .inl ⟨z, r⟩
  · have : c ≠ b := fun e => by subst e; rw [hx] at s; cases s
    rw [ph_congr (get_other this)]; exact r
/-- All blocks of some of the things. -/
noncomputable def PH.all (hs : Nat → PH) (p : Nat → Prop) : PH := by
  classical
  exact fun b => if h : ∃ (i : Nat) (x : Blk), p i ∧ hs i b = some x then some h.choose_spec.choose else none
theorem PH.all_some {hs : Nat → PH} {p : Nat → Prop} {b : Nat} {x : Blk} (e : PH.all hs p b = some x) : ∃ i, p i ∧ hs i b = some x := by
  unfold PH.all at e
  split at e
  · rename_i h; cases e; exact ⟨h.choose, h.choose_spec.choose_spec⟩
  · cases e
theorem PH.le_all {hs : Nat → PH} (k : ∀ i j, i ≠ j → (hs i).dis (hs j)) {p : Nat → Prop} {i : Nat} (hi : p i) : (hs i).le (PH.all hs p) := fun b x e => by
  cases h : PH.all hs p b with
  | some y =>
    obtain ⟨j, hj, hy⟩ := PH.all_some h
    by_cases q : i = j
    · subst q; rw [e] at hy; rw [hy]
    · exact absurd (k i j q _ _ _ e hy) id
  | none =>
    unfold PH.all at h
    split at h
    · cases h
    · rename_i q; exact absurd ⟨i, x, hi, e⟩ q
/-- A call: what it is handed to own stands first; all else stays, and can be read. -/
theorem Sat.call {l1 l2 : List It} (h : Sat Z V H (l1 ++ l2)) : ∃ Y U W : PH, Gw Z V Y U ∧ U.le W ∧ Sat Y W H l1 ∧
    (∀ (n : Nat) (α : Type) (s : Sh α) (v : Value) (xs : List α), l2[n]? = some (It.sl s v xs) → RdS s W v xs) ∧
    (∀ (n : Nat) (α : Type) (s : Sh α) (cs : List Value) (x : α), l2[n]? = some (s.it cs x) → s.rd W cs x) ∧
    (∀ (n : Nat) (b : Nat) (x : Blk), l2[n]? = some (pts b x) → W b = some x) ∧
    ∀ (H' : Hp) (l' : List It), Sat Y W H' l' → Sat Y U H' (l' ++ l2) := by
  obtain ⟨Y, W, gw, yw, wh, hs, e, f, k, m⟩ := h.norm'
  let R : PH := PH.all hs fun i => l1.length ≤ i
  have hR : ∀ i, (hs (l1.length + i)).le R := fun i => PH.le_all k (by omega)
  have hRH : R.le (Hp.ph H) := fun b x q => by obtain ⟨i, _, q⟩ := PH.all_some q; exact e i _ _ q
  have hRd : ∀ i, i < l1.length → R.dis (hs i) := fun i hi b x y q r => by
    obtain ⟨j, hj, q⟩ := PH.all_some q; exact k j i (by omega) _ _ _ q r
  have hWR : W.dis R := fun b x y q r => by obtain ⟨j, hj, r⟩ := PH.all_some r; exact f j _ _ _ q r
  have hY2 : Y.le (W.un R) := yw.trans (PH.un_left _ _)
  have hi2 : ∀ (n : Nat) (t : It), l2[n]? = some t → t.P Y (hs (l1.length + n)) := fun n t q => m _ t (by rw [List.getElem?_append_right (by omega)]; simpa using q)
  have hi2' : ∀ n, (hs (l1.length + n)).le (W.un R) := fun n => (hR n).trans (PH.un_right hWR)
  refine ⟨Y, W, W.un R, gw, PH.un_left _ _, Sat.mk' (hs := fun i => if i < l1.length then hs i else .emp) hY2 (PH.un_le wh hRH) (fun i => ?_) (fun i => ?_) (fun i j x => ?_) (fun i t x => ?_), ?_, ?_, ?_, ?_⟩
  · split
    · exact e i
    · exact PH.emp_le _
  · split
    · rename_i q; exact PH.un_dis (f i) (hRd i q)
    · exact PH.dis_emp _
  · split
    · split
      · exact k i j x
      · exact PH.dis_emp _
    · exact PH.emp_dis _
  · have hi := (List.getElem?_eq_some_iff.1 x).1
    rw [if_pos hi]
    exact m i t (by rw [List.getElem?_append_left hi]; exact x)
  · intro n α s v xs q
    exact OwS.rd hY2 (hi2' n) (hi2 n _ q)
  · intro n α s cs x q
    exact s.ow_rd hY2 (hi2' n) (hi2 n _ q)
  · intro n b x q
    exact hi2' n _ _ (hi2 n _ q)
  · intro H' l' h'
    obtain ⟨a, b, N', hs', c', d', e', f', g', k', m'⟩ := h'
    have hRW : R.le (W.un R) := PH.un_right hWR
    refine ⟨yw, (PH.un_left _ _).trans b, N', fun i => if i < l'.length then hs' i else hs (l1.length + (i - l'.length)), c', d'.le (PH.un_left _ _) (PH.le.refl _), fun i => ?_, fun i => ?_, fun i => ?_, fun i j x => ?_, fun i t x => ?_⟩
    · dsimp only; split
      · exact e' i
      · exact (hi2' _).trans b
    · dsimp only; split
      · exact (f' i).le (PH.un_left _ _) (PH.le.refl _)
      · exact f _
    · dsimp only; split
      · exact g' i
      · exact (d'.symm).le (PH.le.refl _) (hi2' _)
    · dsimp only; split
      · split
        · exact k' i j x
        · exact ((f' i).le (hi2' _) (PH.le.refl _)).symm
      · split
        · exact (f' j).le (hi2' _) (PH.le.refl _)
        · exact k _ _ (by omega)
    · dsimp only; split
      · rename_i q; rw [List.getElem?_append_left q] at x; exact m' i t x
      · rename_i q
        rw [List.getElem?_append_right (by omega)] at x
        exact t.mono (PH.un_left _ _) (PH.le.refl _) (hi2 _ t x)
end
end Go.Ab
