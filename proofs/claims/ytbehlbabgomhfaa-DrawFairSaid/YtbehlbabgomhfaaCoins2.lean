/- What coins does. Own work. -/
import Derived.Test.YtbehlbabgomhfaaCoins
namespace Go.Proofs.Ytbehlbabgomhfaa
open Go Go.Ab Go.Ab.Coin

variable {T : FuncId → Option AFunc}

def bl (l : List Bool) : List Value := l.map .bool
theorem bl_one (l : List Bool) : (bl l).all Value.oneCell' = true := by simp [bl]
/-- The lists of one coin more. -/
def next (L : List (List Bool)) : List (List Bool) := L.flatMap fun l => [l ++ [false], l ++ [true]]
theorem next_snoc (L : List (List Bool)) (l : List Bool) : next (L ++ [l]) = next L ++ [l ++ [false], l ++ [true]] := by simp [next]
theorem next_len (L : List (List Bool)) : (next L).length = 2 * L.length := by
  induction L with
  | nil => rfl
  | cons a L ih => simp only [next, List.flatMap_cons, List.length_append] at ih ⊢; rw [ih]; simp; omega

set_option maxHeartbeats 1000000 in
theorem coins_row [Has T I.slices_Clone_bool_bool F.slices_Clone_bool_bool] {Q : AX → Tm → Hp → Prop} {K : List Fk} {H0 : Hp} (tm0 : Tm) {vo : Value} {L : List (List Bool)} (hv : RdRows H0 vo (L.map bl)) (hL : L.length ≤ 4096) (hl : ∀ l ∈ L, l.length ≤ 4096)
    (k : ∀ (tm : Tm) (H : Hp) (vn : Value) (us : List Value), (∀ t, t < 11 → t ≠ 4 → t ≠ 6 → tm t = tm0 t) → tm 4 = vn → OwnRows H0.length H vn us ((next L).map bl) → Ext H0.length H0 H → R T Q K .normal tm H) :
    ∀ (m i : Nat) (tm : Tm) (H : Hp) (vn : Value) (us : List Value), i + m = L.length → tm 13 = vi i → tm 12 = vi L.length → tm 11 = vo → tm 4 = vn → (∀ t, t < 11 → t ≠ 4 → t ≠ 6 → tm t = tm0 t) →
      OwnRows H0.length H vn us ((next (L.take i)).map bl) → Ext H0.length H0 H → R T Q (.code (.loop F.parlkeep5_coins.L1) :: .endb 2 :: K) .normal tm H := by
  intro m
  induction m with
  | zero =>
    intro i tm H vn us hm h13 h12 h11 h4 hT ho he
    rw [R_loop]
    simp [F.parlkeep5_coins.L1, F.parlkeep5_coins.r6, h13, h12, show ¬ i < L.length by omega]
    refine k _ H vn us (fun t h1 h2 h3 => ?_) (by simp [h4]) ?_ he
    · simp only [upd_app]
      repeat rw [if_neg (by omega)]
      exact hT t h1 h2 h3
    · rw [List.take_of_length_le (by omega)] at ho; exact ho
  | succ m ih =>
    intro i tm H vn us hm h13 h12 h11 h4 hT ho he
    have hi : i < L.length := by omega
    have hle := he.1
    obtain ⟨ws, u, hws, hu, hur⟩ := (hv.congr' he).row (i := i) (r := bl L[i]) (by simp [hi])
    have hll := hl _ (List.getElem_mem hi)
    have hbl : (bl L[i]).length = L[i].length := by simp [bl]
    rw [R_loop]
    generalize hKK : Fk.code (.loop F.parlkeep5_coins.L1) :: .endb 2 :: K = KK
    simp [F.parlkeep5_coins.L1, F.parlkeep5_coins.r6, F.parlkeep5_coins.r7, F.parlkeep5_coins.r8, h13, h12, h11, hi]
    refine N_at hws rfl hu fun _ => ?_
    simp [h4]
    refine R_call (args := [u]) (by simp) (clone_spec hur (bl_one _) (by omega)) ?_
    rintro c1 H1 ⟨hc1, he1⟩
    have hl1 := he1.1
    simp
    refine N_app hc1 (by simp) (by decide) ⟨rfl, rfl⟩ (by omega) fun q1 r1 H2 hr1 hb1 hl2 hk2 => ?_
    have hk2' : ∀ b : Nat, b < H.length → H2[b]? = H[b]? := fun b hb => by rw [hk2 b (by omega) (fun e => by have := (hc1.lt e).1; omega)]; exact he1.get hb
    have hE2 : Ext H.length H H2 := ⟨by omega, hk2'⟩
    simp
    refine R_call (args := [u]) (by simp) (clone_spec (hur.ext hE2) (bl_one _) (by omega)) ?_
    rintro c2 H3 ⟨hc2, he3⟩
    have hl3 := he3.1
    simp
    refine N_app hc2 (by simp) (by decide) ⟨rfl, rfl⟩ (by omega) fun q2 r2 H4 hr2 hb2 hl4 hk4 => ?_
    have hk4' : ∀ b : Nat, b < H2.length → H4[b]? = H2[b]? := fun b hb => by rw [hk4 b (by omega) (fun e => by have := (hc2.lt e).1; omega)]; exact he3.get hb
    have ho4 : OwnRows H0.length H4 vn us _ := ho.congr fun b _ hb => by rw [hk4' b (by omega), hk2' b hb]
    have hr1' : Own (H1.length + 1) H4 r1 (bl L[i] ++ [.bool false]) := hr1.congr fun b _ hb => hk4' b hb
    have hul : us.length = 2 * i := by rw [ho.len]; simp [next_len]; omega
    simp
    refine N_apps (new := [r1, r2]) (cs := us) (n := H0.length) (s := vn) ?_ rfl (by simp) ho4.out (by simp [h4]) (by decide) (by simp [hr1.one.2, hr2.one.2]) (by simp; omega) fun q3 vn' H5 ho5 hb5 hl5 hk5 => ?_
    · simp [hbs, bfill, splice, hr1.one.1, hr2.one.1]
    simp [F.parlkeep5_coins.r9, h13]
    rw [V_wrap (by omega) (by omega)]
    subst hKK
    have hnv : ∀ b, blkOf vn = some b → b < H.length := fun b e => (ho.out.lt e).2
    refine ih (i + 1) _ H5 vn' (us ++ [r1, r2]) (by omega) (by simp) (by simp [h12]) (by simp [h11]) (by simp) (fun t h1 h2 h3 => ?_) ⟨ho5.less (by omega), ?_, fun j w r hw hr => ?_, fun w hw b hb e => ?_⟩ ?_
    · simp only [upd_app]
      repeat rw [if_neg (by omega)]
      exact hT t h1 h2 h3
    · rw [List.take_add_one, List.getElem?_eq_getElem hi, Option.toList_some, next_snoc, List.map_append, List.length_append, List.length_append, ho.len]; rfl
    · rw [List.take_add_one, List.getElem?_eq_getElem hi, Option.toList_some, next_snoc, List.map_append] at hr
      by_cases hj : j < us.length
      · rw [List.getElem?_append_left hj] at hw
        rw [List.getElem?_append_left (by rw [← ho.len]; exact hj)] at hr
        have hw4 := ho4.row j w r hw hr
        exact hw4.congr fun b hb hlt => hk5 b hlt fun e => ho.far w (List.mem_of_getElem? hw) b hb e
      · rw [List.getElem?_append_right (by omega)] at hw
        rw [List.getElem?_append_right (by rw [← ho.len]; omega), ← ho.len] at hr
        generalize j - us.length = q at hw hr
        rcases q with _ | _ | q
        · simp at hw hr; subst hw; subst hr
          refine Own.less (n := H1.length + 1) ?_ (by omega)
          have : bl (L[i] ++ [false]) = bl L[i] ++ [.bool false] := by simp [bl]
          rw [this]
          exact hr1'.congr fun b hb hlt => hk5 b hlt fun e => by have := hnv b e; have := (hr1.lt hb).1; omega
        · simp at hw hr; subst hw; subst hr
          refine Own.less (n := H3.length + 1) ?_ (by omega)
          have : bl (L[i] ++ [true]) = bl L[i] ++ [.bool true] := by simp [bl]
          rw [this]
          exact hr2.congr fun b hb hlt => hk5 b hlt fun e => by have := hnv b e; have := (hr2.lt hb).1; omega
        · simp at hw
    · rw [hb5] at e
      cases e
      rcases List.mem_append.1 hw with hw | hw
      · obtain ⟨r, hr⟩ := ho4.one hw
        have := (hr.lt hb).2; omega
      · simp at hw
        rcases hw with rfl | rfl
        · have := (hr1'.lt hb).2; omega
        · have := (hr2.lt hb).2; omega
    · exact ⟨by omega, fun b hb => by rw [hk5 b (by omega) (fun e => by have := (ho.out.lt e).1; omega), hk4' b (by omega), hk2' b (by omega)]; exact he.get hb⟩
end Go.Proofs.Ytbehlbabgomhfaa
