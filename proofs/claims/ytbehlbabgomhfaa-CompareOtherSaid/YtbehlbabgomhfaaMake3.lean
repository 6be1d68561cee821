/- What the functions of package parlmake do, continued: Dfa. Own work. -/
import Derived.Test.YtbehlbabgomhfaaMake2
import Derived.Test.YtbehlbabgomhfaaAuto
namespace Go.Proofs.Ytbehlbabgomhfaa
open Go Go.Ab

variable {T : FuncId → Option AFunc}

/-- The heap is as it was, but for one block. -/
def But (bs : Nat) (H0 H : Hp) : Prop := H0.length ≤ H.length ∧ ∀ b : Nat, b < H0.length → b ≠ bs → H[b]? = H0[b]?

/-- A row of the table. -/
theorem dfa_row [Has T I.parlmake_Below F.parlmake_Below] [Has T I.parlmake_stream_next F.parlmake_stream_next] {Q : AX → Tm → Hp → Prop} {K : List Fk} {H0 : Hp} {tm0 : Tm} {bs : Nat} {n c : Int}
    (hn : 0 < n) (hn2 : n ≤ 6) (hc : c ≤ 3) (hbs : bs < H0.length)
    (h3 : tm0 3 = .pointer (some ⟨bs, 0, none⟩)) (h4 : tm0 4 = vi n)
    (k : ∀ (tm : Tm) (H : Hp) (vo : Value) (row : List Int), (∀ t, t < 32 → t ≠ 7 → tm t = tm0 t) → tm 7 = vo → Str H bs → Own H0.length H vo (row.map vi) → row.length = c.toNat → (∀ x ∈ row, -1 ≤ x ∧ x < n) →
      But bs H0 H → R T Q K .normal tm H) :
    ∀ (m : Nat) (tm : Tm) (H : Hp) (vo : Value) (row : List Int), row.length + m = c.toNat → tm 33 = vi row.length → tm 32 = vi c → (∀ t, t < 32 → t ≠ 7 → tm t = tm0 t) → tm 7 = vo → Str H bs →
      Own H0.length H vo (row.map vi) → (∀ x ∈ row, -1 ≤ x ∧ x < n) → But bs H0 H →
      R T Q (.code (.loop F.parlmake_Dfa.L1) :: .endb 2 :: K) .normal tm H := by
  intro m
  induction m with
  | zero =>
    intro tm H vo row hm h33 h32 hT h7 hs ho hr he
    have hlt : ¬ (row.length : Int) < c := by omega
    rw [R_loop]
    simp [F.parlmake_Dfa.L1, F.parlmake_Dfa.r9, h33, h32, hlt]
    refine k _ H vo row (fun t h1 h2 => ?_) (by simp [h7]) hs ho (by omega) hr he
    simp only [upd_app]
    repeat rw [if_neg (by omega)]
    exact hT t h1 h2
  | succ m ih =>
    intro tm H vo row hm h33 h32 hT h7 hs ho hr he
    have h3' := (hT 3 (by decide) (by decide)).trans h3
    have h4' := (hT 4 (by decide) (by decide)).trans h4
    have hlt : (row.length : Int) < c := by omega
    rw [R_loop]
    simp [F.parlmake_Dfa.L1, F.parlmake_Dfa.r9, F.parlmake_Dfa.r10, F.parlmake_Dfa.r11, h33, h32, hlt, h3', h4', h7]
    rw [V_wrap (by omega) (by omega)]
    refine R_call (args := [.pointer (some ⟨bs, 0, none⟩), vi (n + 1)]) (by simp) (next_any (n + 1) H (by omega) (by omega) bs hs) ?_
    rintro _ H1 ⟨x, rfl, hx1, hx2, hs1, hl1, hk1⟩
    have ho1 : Own H0.length H1 vo (row.map vi) := ho.congr fun b hb' _ => hk1 b fun e => by have := (ho.lt hb').1; omega
    simp
    rw [V_wrap (by omega) (by omega)]
    refine N_app ho1 (by simp [h7]) (by decide) ⟨rfl, rfl⟩ (by simp; omega) fun q v' H' ho' hb' hl' hk' => ?_
    simp [h33]
    rw [V_wrap (by omega) (by omega)]
    have hle := he.1
    have hkb : ∀ b : Nat, b < H0.length → H'[b]? = H1[b]? := fun b h2 => hk' b (by omega) fun e => by have := (ho.lt e).1; omega
    refine ih _ H' v' (row ++ [x - 1]) (by simp; omega) (by simp) (by simp [h32]) (fun t h1 h2 => ?_) (by simp) ?_ ?_ ?_ ?_
    · simp only [upd_app]
      repeat rw [if_neg (by omega)]
      exact hT t h1 h2
    · exact hs1.keep fun c hc => hkb c (by omega)
    · refine Own.less (n := H1.length + 1) (by simpa using ho') (by omega)
    · intro x hx
      rcases List.mem_append.1 hx with h | h
      · exact hr x h
      · simp at h; subst h; omega
    · exact ⟨by omega, fun b hb hne => by rw [hkb b hb, hk1 b hne]; exact he.2 b hb hne⟩
/-- The automaton that is being built: its cell, and what it holds. -/
structure Part (n1 bd : Nat) (H : Hp) (start : Int) (va vn : Value) (us : List Value) (acc : List Int) (next : List (List Int)) : Prop where
  cell : H[bd]? = some (.rw 0 [vi start, va, vn])
  low : bd < n1
  oa : Own n1 H va (acc.map vi)
  on : Own n1 H vn us
  len : us.length = next.length
  rows : ∀ (i : Nat) (u : Value) (r : List Int), us[i]? = some u → next[i]? = some r → Own n1 H u (r.map vi)
  far : ∀ b, blkOf va = some b → blkOf vn ≠ some b ∧ ∀ u ∈ us, blkOf u ≠ some b
  farn : ∀ b, blkOf vn = some b → ∀ u ∈ us, blkOf u ≠ some b
theorem Part.one {n1 bd : Nat} {H : Hp} {start : Int} {va vn : Value} {us : List Value} {acc : List Int} {next : List (List Int)} (h : Part n1 bd H start va vn us acc next) {u : Value} (hu : u ∈ us) : ∃ r : List Int, Own n1 H u (r.map vi) := by
  obtain ⟨i, hi⟩ := List.getElem?_of_mem hu
  have hlt := (List.getElem?_eq_some_iff.1 hi).1
  rw [h.len] at hlt
  exact ⟨_, h.rows i u _ hi (List.getElem?_eq_getElem hlt)⟩
theorem Part.congr {n1 bd : Nat} {H H' : Hp} {start : Int} {va vn : Value} {us : List Value} {acc : List Int} {next : List (List Int)} (h : Part n1 bd H start va vn us acc next)
    (k : ∀ b : Nat, b < H.length → b = bd ∨ n1 ≤ b → H'[b]? = H[b]?) : Part n1 bd H' start va vn us acc next where
  cell := (k bd (lt_of_get h.cell) (.inl rfl)).trans h.cell
  low := h.low
  oa := h.oa.congr fun b hb hl => k b hl (.inr (h.oa.lt hb).1)
  on := h.on.congr fun b hb hl => k b hl (.inr (h.on.lt hb).1)
  len := h.len
  rows := fun i u r hu hr => (h.rows i u r hu hr).congr fun b hb hl => k b hl (.inr ((h.rows i u r hu hr).lt hb).1)
  far := h.far
  farn := h.farn
theorem Part.acc' {n1 bd : Nat} {H H' : Hp} {start : Int} {va vn va' : Value} {us : List Value} {acc : List Int} {next : List (List Int)} (h : Part n1 bd H start va vn us acc next) {x : Int} {m : Nat}
    (hm : H.length ≤ m) (ho : Own m H' va' ((acc ++ [x]).map vi)) (hl : H.length ≤ H'.length) (hn : n1 ≤ H.length) (hk : ∀ b : Nat, b < H.length → (b = bd ∨ n1 ≤ b) → blkOf va ≠ some b → H'[b]? = H[b]?) :
    Part n1 bd (H'.set bd (.rw 0 [vi start, va', vn])) start va' vn us (acc ++ [x]) next where
  cell := get_same (by have := lt_of_get h.cell; omega)
  low := h.low
  oa := (ho.less (by omega)).congr fun b hb hl => get_other fun e => by have := (ho.lt hb).1; have := h.low; omega
  on := h.on.congr fun b hb hl => by
    have h1 := h.low
    have h2 := (h.on.lt hb).1
    rw [get_other (by omega)]; exact hk b hl (.inr h2) fun e => (h.far b e).1 hb
  len := h.len
  rows := fun i u r hu hr => (h.rows i u r hu hr).congr fun b hb hl => by
    have h1 := h.low
    have h2 := ((h.rows i u r hu hr).lt hb).1
    rw [get_other (by omega)]; exact hk b hl (.inr h2) fun e => (h.far b e).2 u (List.mem_of_getElem? hu) hb
  far := fun b hb => by
    have hb := (ho.lt hb).1
    refine ⟨fun e => by have := (h.on.lt e).2; omega, fun u hu e => ?_⟩
    obtain ⟨r, hr⟩ := h.one hu
    have := (hr.lt e).2; omega
  farn := h.farn
theorem Part.next' {n1 bd : Nat} {H2 H H' : Hp} {start : Int} {va vn vn' u : Value} {us : List Value} {acc : List Int} {next : List (List Int)} (h2 : Part n1 bd H2 start va vn us acc next) (h : Part n1 bd H start va vn us acc next) {r : List Int}
    (hu : Own H2.length H u (r.map vi)) {m : Nat} (hm : H.length ≤ m) (ho : Own m H' vn' (us ++ [u])) (hl : H.length ≤ H'.length) (hn : n1 ≤ H2.length) (hn' : H2.length ≤ H.length) (hk : ∀ b : Nat, b < H.length → (b = bd ∨ n1 ≤ b) → blkOf vn ≠ some b → H'[b]? = H[b]?) :
    Part n1 bd (H'.set bd (.rw 0 [vi start, va, vn'])) start va vn' (us ++ [u]) acc (next ++ [r]) where
  cell := get_same (by have := lt_of_get h.cell; omega)
  low := h.low
  oa := h.oa.congr fun b hb hl => by
    have h1 := h.low
    have h2 := (h.oa.lt hb).1
    rw [get_other (by omega)]; exact hk b hl (.inr h2) fun e => (h.far b hb).1 e
  on := (ho.less (by omega)).congr fun b hb hl => get_other fun e => by have := (ho.lt hb).1; have := h.low; omega
  len := by simp [h.len]
  rows := fun i w q hw hq => by
    have h1 := h.low
    by_cases hi : i < us.length
    · rw [List.getElem?_append_left hi] at hw
      rw [List.getElem?_append_left (by rw [← h.len]; exact hi)] at hq
      refine (h.rows i w q hw hq).congr fun b hb hl => ?_
      have h3 := ((h.rows i w q hw hq).lt hb).1
      rw [get_other (by omega)]; exact hk b hl (.inr h3) fun e => h.farn b e w (List.mem_of_getElem? hw) hb
    · have hi : i = us.length := by
        have := (List.getElem?_eq_some_iff.1 hw).1
        simp at this; omega
      subst hi
      simp at hw
      rw [h.len] at hq
      simp at hq
      subst hw; subst hq
      refine (hu.less hn).congr fun b hb hl => ?_
      have h3 := (hu.lt hb).1
      rw [get_other (by omega)]; exact hk b hl (.inr (by omega)) fun e => by have := (h2.on.lt e).2; omega
  far := fun b hb => by
    have hb1 := (h.oa.lt hb).2
    refine ⟨fun e => by have := (ho.lt e).1; omega, fun w hw e => ?_⟩
    rcases List.mem_append.1 hw with hw | hw
    · exact (h.far b hb).2 w hw e
    · simp at hw; subst hw
      have := (hu.lt e).1; have := (h2.oa.lt hb).2; omega
  farn := fun b hb w hw e => by
    have hb1 := (ho.lt hb).1
    rcases List.mem_append.1 hw with hw | hw
    · obtain ⟨q, hq⟩ := h.one hw
      have := (hq.lt e).2; omega
    · simp at hw; subst hw
      have := (hu.lt e).2; omega

end Go.Proofs.Ytbehlbabgomhfaa
