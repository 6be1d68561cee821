/- Slices that a function builds itself. Own work. -/
import Derived.Test.YtbehlbabgomhfaaAb17
namespace Go.Ab
open Go

theorem lt_of_get {H : Hp} {b : Nat} {x : Blk} (h : H[b]? = some x) : b < H.length := (List.getElem?_eq_some_iff.1 h).1
/-- A slice of its own: nothing, or a whole block from number n on. -/
def Own (n : Nat) (H : Hp) (v : Value) (cs : List Value) : Prop :=
  (v = .slice none 0 0 ∧ cs = []) ∨ ∃ b, n ≤ b ∧ v = .slice (some ⟨b, 0, none⟩) cs.length cs.length ∧ H[b]? = some (.rw 1 cs)
/-- Its block. -/
def blkOf : Value → Option Nat
  | .slice (some a) _ _ => some a.block
  | _ => none
theorem Own.nil (n : Nat) (H : Hp) : Own n H (.slice none 0 0) [] := .inl ⟨rfl, rfl⟩
theorem Own.arr {n : Nat} {H : Hp} {v : Value} {cs : List Value} (h : Own n H v cs) : Arr H 1 (fun b => n ≤ b ∧ blkOf v = some b) v cs := by
  rcases h with ⟨rfl, rfl⟩ | ⟨b, hb, rfl, h⟩
  · exact .nil ..
  · exact ⟨.inr ⟨b, 0, _, cs, rfl, by simp [Hp.cells, h], by simp [Hp.esz, h, Blk.esz], by simp, by simp, hb, rfl⟩⟩
theorem Own.congr {n : Nat} {H H' : Hp} {v : Value} {cs : List Value} (h : Own n H v cs) (k : ∀ b, blkOf v = some b → b < H.length → H'[b]? = H[b]?) : Own n H' v cs := by
  rcases h with ⟨rfl, rfl⟩ | ⟨b, hb, rfl, h⟩
  · exact .nil ..
  · exact .inr ⟨b, hb, rfl, (k b rfl (lt_of_get h)).trans h⟩
theorem Own.less {n m : Nat} {H : Hp} {v : Value} {cs : List Value} (h : Own n H v cs) (k : m ≤ n) : Own m H v cs := by
  rcases h with ⟨rfl, rfl⟩ | ⟨b, hb, rfl, h⟩
  · exact .nil ..
  · exact .inr ⟨b, Nat.le_trans k hb, rfl, h⟩
theorem Own.lt {n : Nat} {H : Hp} {v : Value} {cs : List Value} (h : Own n H v cs) {b : Nat} (k : blkOf v = some b) : n ≤ b ∧ b < H.length := by
  rcases h with ⟨rfl, rfl⟩ | ⟨b, hb, rfl, h⟩
  · cases k
  · cases k; exact ⟨hb, lt_of_get h⟩
theorem Own.len {n : Nat} {H : Hp} {v : Value} {cs : List Value} (h : Own n H v cs) : vlen v = some (vi cs.length) := h.arr.len
theorem Own.one {n : Nat} {H : Hp} {v : Value} {cs : List Value} (h : Own n H v cs) : v.cells = #[v] ∧ v.oneCell' = true := h.arr.one

/-- A slice gets more elements. -/
theorem own_append {n : Nat} {H : Hp} {s q : Value} {cs new : List Value} {bytes : Nat} {p : Nat → Prop} (hs : Own n H s cs) (hq : Arr H 1 p q new) (hne : new ≠ []) (hx : new.all Value.oneCell' = true) (hb : (cs.length + new.length) * bytes ≤ 140737488355328) :
    ∃ v' H', aappend 1 bytes s q H = some (v', H') ∧ Own H.length H' v' (cs ++ new) ∧ blkOf v' = some H.length ∧ H'.length = H.length + 1 ∧ ∀ b : Nat, b < H.length → blkOf s ≠ some b → H'[b]? = H[b]? := by
  have hq : slcells H 1 q = some (new.length, new) := by
    rcases hq.at' with ⟨rfl, rfl⟩ | ⟨b, o, m, us, rfl, h2, h3, h4, rfl, h6⟩
    · exact absurd rfl hne
    · simp only [slcells, Option.isNone_none, if_true, Hp.load, h2, if_pos h4, Option.map_some]
      simp; omega
  have hl : new.length ≠ 0 := fun e => hne (List.eq_nil_of_length_eq_zero e)
  rcases hs with ⟨rfl, rfl⟩ | ⟨b, hnb, rfl, h⟩
  · refine ⟨.slice (some ⟨H.length, 0, none⟩) new.length new.length, H ++ [.rw 1 new], ?_, .inr ⟨H.length, Nat.le_refl _, rfl, ?_⟩, rfl, by simp, fun c hc _ => get_left hc⟩
    · simp only [aappend, hq]
      rw [if_neg hl, if_pos ⟨by simpa using hb, hx⟩]
    · rw [get_at rfl]; rfl
  · have hlt := lt_of_get h
    have hold : slcells H 1 (.slice (some ⟨b, 0, none⟩) cs.length cs.length) = some (cs.length, cs) := by simp [slcells, Hp.load, Hp.cells, h]
    refine ⟨.slice (some ⟨H.length, 0, none⟩) (cs.length + new.length) (cs.length + new.length), List.set H b .dead ++ [.rw 1 (cs ++ new)], ?_, .inr ⟨H.length, Nat.le_refl _, by simp, ?_⟩, rfl, by simp, fun c hc hne => ?_⟩
    · simp only [aappend, hq, h, hold]
      rw [if_neg hl, if_pos ⟨trivial, trivial, hb, hx⟩]
    · rw [get_at (by simp)]
    · rw [get_left (by simp; omega), get_other (fun e => hne (by simp [blkOf, e]))]
theorem hbs_one {x z : Value} (hx : x.cells = #[x]) (k : Nat) : hbs 1 1 [z] [(0, 1, x)] k = some (.slice (some ⟨k, 0, none⟩) 1 1, .rw 1 [x]) := by simp [hbs, bfill, hx, splice]
theorem hbs_arr {H : Hp} {x : Value} {b : Nat} (h : H[b]? = some (.rw 1 [x])) : Arr H 1 (· = b) (.slice (some ⟨b, 0, none⟩) 1 1) [x] :=
  ⟨.inr ⟨b, 0, 1, [x], rfl, by simp [Hp.cells, h], by simp [Hp.esz, h, Blk.esz], by simp, by simp, rfl⟩⟩
theorem N_app {T : FuncId → Option AFunc} {Q : AX → Tm → Hp → Prop} {K : List Fk} {tm : Tm} {H : Hp} {l : List DOp} {sl : List Nat} {t t' u : Nat} {n : Nat} {s x z : Value} {cs : List Value} {bytes : Nat}
    (hs : Own n H s cs) (hu : tm u = s) (hut : u ≠ t) (hx : x.cells = #[x] ∧ x.oneCell' = true) (hb : (cs.length + 1) * bytes ≤ 140737488355328)
    (k : ∀ q v' H', Own (H.length + 1) H' v' (cs ++ [x]) → blkOf v' = some (H.length + 1) → H'.length = H.length + 2 → (∀ b : Nat, b < H.length → blkOf s ≠ some b → H'[b]? = H[b]?) → R T Q (.ops l :: K) .normal (upd (upd tm t q) t' v') H') :
    Nn T Q (hbs 1 1 [z] [(0, 1, x)] H.length) (some t) (⟨some t', .append 1 bytes (.tmp u) (.tmp t), none, sl⟩ :: l) K tm H := by
  have h2 : Own n (H ++ [.rw 1 [x]]) s cs := hs.congr fun b _ hb => get_left hb
  obtain ⟨v', H', ha, ho, hbk, hl, hk⟩ := own_append h2 (hbs_arr (get_at rfl)) (by simp) (by simp [hx.2]) hb
  rw [hbs_one hx.1, Nn_some, S_append]
  simp only [put_some, ev_tmp, upd_app, if_true, if_neg hut, hu, ha, Nx_some]
  simp only [List.length_append, List.length_singleton] at ho hbk hl hk
  exact k _ _ _ ho hbk (by omega) fun b hb hne => (hk b (by omega) hne).trans (get_left hb)
/-- The same in a region that draws its order; the new row's own place is the one that was kept for it. -/
theorem D_app {T : FuncId → Option AFunc} {Q : AX → Tm → Hp → Prop} {K : List Fk} {tm : Tm} {H : Hp} {l : List DOp} {sl : List Nat} {t t' u : Nat} {n : Nat} {s x z : Value} {cs : List Value} {bytes : Nat}
    {base m i : Nat} {all : List DOp} {p : List (Nat × Nat)} {tr : List St}
    (hs : Own n H s cs) (hu : tm u = s) (hut : u ≠ t) (hx : x.cells = #[x] ∧ x.oneCell' = true) (hb : (cs.length + 1) * bytes ≤ 140737488355328) (hbi : base + i < H.length) (hsb : blkOf s ≠ some (base + i))
    (k : ∀ q H1 v' H', H1 = H.set (base + i) (.rw 1 [x]) → Own H.length H' v' (cs ++ [x]) → blkOf v' = some H.length → H'.length = H.length + 1 → (∀ b : Nat, b < H.length → b ≠ base + i → blkOf s ≠ some b → H'[b]? = H[b]?) →
      R T Q (.dops base m all p (i + 1 + 1) (tr ++ [(tm, H)] ++ [(upd tm t q, H1)]) l :: K) .normal (upd (upd tm t q) t' v') H') :
    Dn T Q (hbs 1 1 [z] [(0, 1, x)] (base + i)) base m all p i tr (some t) (⟨some t', .append 1 bytes (.tmp u) (.tmp t), none, sl⟩ :: l) K tm H := by
  have h2 : Own n (H.set (base + i) (.rw 1 [x])) s cs := hs.congr fun b hb' hb => get_other fun e => hsb (e ▸ hb')
  obtain ⟨v', H', ha, ho, hbk, hl, hk⟩ := own_append h2 (hbs_arr (get_same hbi)) (by simp) (by simp [hx.2]) hb
  rw [hbs_one hx.1, Dn_some, D_append]
  simp only [put_some, ev_tmp, upd_app, if_true, if_neg hut, hu, ha, Dx_some]
  simp only [List.length_set] at ho hbk hl hk
  exact k _ _ _ _ rfl ho hbk hl fun b hb hne hs => (hk b hb hs).trans (get_other hne)
theorem R_draw' {T : FuncId → Option AFunc} {Q : AX → Tm → Hp → Prop} {K : List Fk} {tm : Tm} {H : Hp} {l : List DOp} {p : List (Nat × Nat)}
    (k : ∀ Hd : Hp, Hd.length = H.length + l.length → (∀ b : Nat, b < H.length → Hd[b]? = H[b]?) → (∀ b : Nat, H.length ≤ b → b < H.length + l.length → Hd[b]? = some .dead) →
      R T Q (.dops H.length l.length l p 0 [] l :: K) .normal tm Hd) : R T Q (.code (.draw l p) :: K) .normal tm H := by
  rw [R_draw]
  refine k _ (by simp) (fun b hb => get_left hb) (fun b hb hb' => ?_)
  rw [List.getElem?_append_right hb, List.getElem?_replicate, if_pos (by omega)]
section
variable {T : FuncId → Option AFunc} {Q : AX → Tm → Hp → Prop} {K : List Fk} {tm : Tm} {H : Hp} {l : List DOp} {base m i : Nat} {all : List DOp} {p : List (Nat × Nat)} {tr : List St} {dst : Option Nat} {o : AOp} {g : Nat × Bool} {sl : List Nat}
theorem dstep_want (h : want tm (some g) = true) (call : CallF) : dstep call base m i ⟨dst, o, some g, sl⟩ (tm, H) = dstep call base m i ⟨dst, o, none, sl⟩ (tm, H) := by
  simp only [dstep, h, if_true]
  rfl
/-- A guarded operation that is carried out. -/
@[simp] theorem R_dwant (h : want tm (some g) = true) : R T Q (.dops base m all p i tr (⟨dst, o, some g, sl⟩ :: l) :: K) .normal tm H ↔ R T Q (.dops base m all p i tr (⟨dst, o, none, sl⟩ :: l) :: K) .normal tm H := by
  constructor
  · intro k
    cases k with
    | dop ho k => obtain ⟨n, hn⟩ := ho; exact .dop ⟨n, fun q hq => (dstep_want h _).symm.trans (hn q hq)⟩ k
    | past hx hk k => exact absurd rfl hx
  · intro k
    cases k with
    | dop ho k => obtain ⟨n, hn⟩ := ho; exact .dop ⟨n, fun q hq => (dstep_want h _).trans (hn q hq)⟩ k
    | past hx hk k => exact absurd rfl hx
/-- One that is not. -/
theorem R_dnot (h : want tm (some g) = false) (k : R T Q (.dops base m all p (i + 1) (tr ++ [(tm, H)]) l :: K) .normal (put tm dst undef) H) : R T Q (.dops base m all p i tr (⟨dst, o, some g, sl⟩ :: l) :: K) .normal tm H :=
  .dop ⟨0, fun n _ => by simp only [dstep, h]; rfl⟩ k
/-- A guarded call that is carried out. -/
theorem R_want (h : want tm (some g) = true) (k : R T Q (.ops (⟨dst, o, none, sl⟩ :: l) :: K) .normal tm H) : R T Q (.ops (⟨dst, o, some g, sl⟩ :: l) :: K) .normal tm H := by
  cases k with
  | op hg ho k => exact .op h ho k
  | nop hg k => cases hg
  | past hx hk k => exact absurd rfl hx
end
theorem vsame1_slice (a : Option Addr) (n m : Nat) : vsame1 (.slice a n m) (.slice a n m) = true := by simp [vsame1]
theorem Arr.same {H : Hp} {sz : Nat} {p : Nat → Prop} {v : Value} {cs : List Value} (h : Arr H sz p v cs) : vsame v v = true := by
  rcases h.at' with ⟨rfl, rfl⟩ | ⟨b, o, n, us, rfl, h2, h3, h4, rfl, h6⟩ <;> (unfold vsame; exact vsame1_slice ..)
theorem Arr.same1 {H : Hp} {sz : Nat} {p : Nat → Prop} {v : Value} {cs : List Value} (h : Arr H sz p v cs) : vsame1 v v = true := by
  rcases h.at' with ⟨rfl, rfl⟩ | ⟨b, o, n, us, rfl, h2, h3, h4, rfl, h6⟩ <;> exact vsame1_slice ..
@[simp] theorem vsame1_int (k : IntKind) (n : Int) : vsame1 (.int k n) (.int k n) = true := by simp [vsame1]
theorem rdOk_low {base m : Nat} {o : DOp} {tm : Tm} {b off : Nat} {n : Nat} {g : Bool} {t : Nat} (ho : o.op = .load n g (.tmp t)) (ht : tm t = .pointer (some ⟨b, off, none⟩)) (hb : b < base) : rdOk base m o tm = true := by
  simp [rdOk, rblk, ho, ht, hb]
end Go.Ab
