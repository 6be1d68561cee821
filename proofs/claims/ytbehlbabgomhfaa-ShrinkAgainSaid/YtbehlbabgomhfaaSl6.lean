/- Small rules that the printed proofs use. Own work. -/
import Derived.Test.YtbehlbabgomhfaaSl5
namespace Go.Ab
open Go Go.Pu

theorem iv {v : Value} {k : IntKind} {a b : Int} (h : v = .int k a) (e : a = b) : v = .int k b := h.trans (by rw [e])
theorem gf {v : Value} {a b : Bool} (h : v = .bool a) (e : a = b) : v = .bool b := h.trans (by rw [e])
section
variable {T : FuncId → Option AFunc} {Q : AX → Tm → Hp → Prop} {K : List Fk} {tm : Tm} {H : Hp} {l : List DOp} {c : Fk}
/-- Ways that part and meet again behind the next piece of code. -/
theorem c_jn {I : Tm → Hp → Prop} (h : (∀ tm' H', I tm' H' → R T Q K .normal tm' H') → R T Q (c :: K) .normal tm H) (k : ∀ tm' H', I tm' H' → R T Q K .normal tm' H') : R T Q (c :: K) .normal tm H := h k
/-- Ways that part and meet again n operations on. -/
theorem o_jn (n : Nat) {I : Tm → Hp → Prop} (h : (∀ tm' H', I tm' H' → R T Q (.ops (l.drop n) :: K) .normal tm' H') → R T Q (.ops l :: K) .normal tm H) (k : ∀ tm' H', I tm' H' → R T Q (.ops (l.drop n) :: K) .normal tm' H') : R T Q (.ops l :: K) .normal tm H := h k
end
theorem ran_x {n x : Int} {i : Nat} (h : (ran n)[i]? = some x) : x = (i : Int) := (ran_get h).1
theorem ran_lt {n x : Int} {i : Nat} (h : (ran n)[i]? = some x) : x < n := by have := ran_get h; omega
theorem w_sucR {n x : Int} {i : Nat} (h : (ran n)[i]? = some x) (hn : n ≤ 4611686018427387904) : IntKind.i64.wrap (x + 1) = ((i + 1 : Nat) : Int) := by
  obtain ⟨rfl, h2⟩ := ran_get h
  exact w_sucI h2 hn
theorem ran_done (n : Int) : ¬ (((ran n).length : Int) < n) := by rw [ran_len]; omega
section
variable {Z V : PH} {H : Hp} {L : List It} {tm : Tm}
theorem arB {t b m z : Nat} {g : Bool} {us : List Value} {w : Value} (n : Nat) (hS : Sat Z V H L) (ht : L[n]? = some (pts b (.rw z us))) (hx : tm t = .pointer (some ⟨b, 0, none⟩)) (hm : Nat.ble (0 + m) us.length = true) (hw : mkv g ((us.drop 0).take m) = some w) :
    aresults [.cell t m g] tm H = some w := by
  have hb := hS.curB n ht
  rw [ares_one, V_load_res, hx]
  simp only [vload, Option.isNone_none, if_true, Hp.load, show Hp.cells H b = some us by rw [cells_of hb]; rfl]
  rw [if_pos (Nat.le_of_ble_eq_true hm), Option.bind_some, hw]
end
end Go.Ab
namespace Go.Ab
open Go Go.Pu
section
variable {T : FuncId → Option AFunc} {Q : AX → Tm → Hp → Prop} {K : List Fk} {tm : Tm} {H : Hp} {l : List DOp} {sl : List Nat} {t : Nat}
theorem o_gu {o : AOp} {g : Nat} {b : Bool} (hg : tm g = undef) (k : R T Q (.ops l :: K) .normal (ub tm t undef) H) : R T Q (.ops (⟨some t, o, some (g, b), sl⟩ :: l) :: K) .normal tm H :=
  .nop (by rw [want, hg]; rfl) (by rw [put_some, upd_ub]; exact k)
theorem o_gu0 {o : AOp} {g : Nat} {b : Bool} (hg : tm g = undef) (k : R T Q (.ops l :: K) .normal tm H) : R T Q (.ops (⟨none, o, some (g, b), sl⟩ :: l) :: K) .normal tm H :=
  .nop (by rw [want, hg]; rfl) k
section
variable {α : Type} {s : Sh α} {Z : PH} {v : Value} {xs : List α}
/-- A field of an element. -/
theorem RdS.atF (h : RdS s Z v xs) (hZ : Z.le (Hp.ph H)) {j : Int} {u : α} (hj : ix xs j = some u) {sz : Nat} (hz : s.sz = sz) {p : Value} (hp : vidxs sz v (vi j) = some p) {off n : Nat} (ho : off + n ≤ sz) {p' : Value} (hf : vfaddr off p = some p') :
    ∃ cs, s.rd Z cs u ∧ ∀ agg, vload H n agg p' = mkv agg ((cs.drop off).take n) := by
  obtain ⟨h1, h2, h3⟩ := ix_lt hj
  subst hz
  rcases h with ⟨rfl, rfl⟩ | ⟨b, o, us, x, rfl, h4, h5, h6, h7, h8⟩
  · simp at h2; omega
  · rw [V_idxs, if_pos ⟨h1, h2⟩] at hp
    cases hp
    simp only [V_faddr, Option.some.injEq] at hf
    subst hf
    have hlt : j.toNat < xs.length := by omega
    refine ⟨_, h8 _ u h3, fun agg => ?_⟩
    have hb : Hp.cells H b = some us := by rw [cells_of (ph_get hZ h4)]; exact h5
    have hat := chk_at hlt h7.1
    simp only [vload, Option.isNone_none, if_true, Hp.load, hb]
    rw [if_pos (by omega), Option.bind_some]
    congr 1
    unfold chk
    rw [List.drop_take, List.take_take, List.drop_drop]
    congr 1
    omega
theorem idx_fad {sz off : Nat} {j : Int} {p : Value} (hp : vidxs sz v (vi j) = some p) : ∃ p', vfaddr off p = some p' := by
  unfold vidxs at hp
  split at hp
  · split at hp
    · cases hp; exact ⟨_, rfl⟩
    · cases hp
  · cases hp
theorem o_fadE {x : Operand} {sz off : Nat} {j : Int} {p : Value} (hx : ev tm x = p) (hp : vidxs sz v (vi j) = some p) (k : ∀ p', vfaddr off p = some p' → R T Q (.ops l :: K) .normal (ub tm t p') H) : R T Q (.ops (⟨some t, .faddr off x, none, sl⟩ :: l) :: K) .normal tm H := by
  obtain ⟨p', h⟩ := idx_fad (off := off) hp
  exact o_of rfl (by rw [A_faddr, hx, h]; rfl) (k p' h)
theorem o_ldF {x : Operand} {j : Int} {u : α} {sz off n : Nat} {p p' : Value} {g : Bool} (hx : ev tm x = p') (hr : RdS s Z v xs) (hZ : Z.le (Hp.ph H)) (hz : s.sz = sz) (hp : vidxs sz v (vi j) = some p) (hf : vfaddr off p = some p') (hj : ix xs j = some u) (ho : Nat.ble (off + n) sz = true)
    (k : ∀ cs, s.rd Z cs u → ∃ w, mkv g ((cs.drop off).take n) = some w ∧ R T Q (.ops l :: K) .normal (ub tm t w) H) : R T Q (.ops (⟨some t, .load n g x, none, sl⟩ :: l) :: K) .normal tm H := by
  obtain ⟨cs, h1, h2⟩ := hr.atF hZ hj hz hp (Nat.le_of_ble_eq_true ho) hf
  obtain ⟨w, h4, h5⟩ := k cs h1
  exact o_of rfl (by rw [A_load, hx, h2, h4]; rfl) h5
end
end
end Go.Ab
namespace Go.Ab
open Go Go.Pu
section
variable {T : FuncId → Option AFunc} {Q : AX → Tm → Hp → Prop} {K : List Fk} {tm : Tm} {H : Hp}
theorem c_bt {c : Operand} {a b : ACode} (hc : ev tm c = .bool true) (k : R T Q (.code a :: K) .normal tm H) : R T Q (.code (.cond c a b) :: K) .normal tm H := c_if hc (fun _ => k) fun h => by cases h
theorem c_bf {c : Operand} {a b : ACode} (hc : ev tm c = .bool false) (k : R T Q (.code b :: K) .normal tm H) : R T Q (.code (.cond c a b) :: K) .normal tm H := c_if hc (fun h => by cases h) fun _ => k
end
end Go.Ab
namespace Go.Ab
open Go Go.Pu
theorem RdS.of_ro {α : Type} {s : Sh α} {Z : PH} {v : Value} {xs : List α} (h : RdS s.ro Z v xs) : RdS s Z v xs := h
section
variable {Z V : PH} {H : Hp} {L : List It} {tm : Tm} {a b c d : ARes} {v w x y : Value}
theorem ra2 (h1 : ares tm H a = some v) (h2 : ares tm H b = some w) : aresults [a, b] tm H = some (.tuple #[v, w]) := by simp [aresults, h1, h2]
theorem ra3 (h1 : ares tm H a = some v) (h2 : ares tm H b = some w) (h3 : ares tm H c = some x) : aresults [a, b, c] tm H = some (.tuple #[v, w, x]) := by simp [aresults, h1, h2, h3]
theorem ra4 (h1 : ares tm H a = some v) (h2 : ares tm H b = some w) (h3 : ares tm H c = some x) (h4 : ares tm H d = some y) : aresults [a, b, c, d] tm H = some (.tuple #[v, w, x, y]) := by simp [aresults, h1, h2, h3, h4]
theorem rat {t : Nat} (h : tm t = v) : ares tm H (.tmp t) = some v := by subst h; rfl
theorem rac {t b m z : Nat} {g : Bool} {us : List Value} (n : Nat) (hS : Sat Z V H L) (ht : L[n]? = some (pts b (.rw z us))) (hx : tm t = .pointer (some ⟨b, 0, none⟩)) (hm : Nat.ble (0 + m) us.length = true) (hw : mkv g ((us.drop 0).take m) = some w) :
    ares tm H (.cell t m g) = some w := by rw [← ares_one]; exact arB n hS ht hx hm hw
end
end Go.Ab
