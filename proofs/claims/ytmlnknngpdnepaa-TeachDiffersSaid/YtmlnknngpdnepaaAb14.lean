/- The layer's texts AbM to Ab14 in one. Own work. -/
import Derived.Test.YtmlnknngpdnepaaAbI
import Derived.LoopN
import Derived.Maps.RangeRun
/- The model follows a loop over a map whose elements are all the same. Own work. -/
namespace Go.Ab
open Go Go.MapKept
open Go.ChangeMaps (setBlock)
section
variable {P : Program} {N : Nat}

/-- A new block of the world of which nothing is known. -/
theorem Sim.newDead {ι : Emb} {H : Hp} {w : World} (s : Sim ι H w) (o : Obj) :
    Sim (ι.put H.length ⟨⟨w.heap.size, 0, none⟩, 0, 0⟩) (H ++ [.dead]) (w.alloc o) ∧ Fr ι H w (ι.put H.length ⟨⟨w.heap.size, 0, none⟩, 0, 0⟩) (H ++ [.dead]) (w.alloc o) := by
  have hle : ι.le (ι.put H.length ⟨⟨w.heap.size, 0, none⟩, 0, 0⟩) := Emb.put_le s.new_none
  have hnew : (H ++ [Blk.dead])[H.length]? = some .dead := by simp
  have hold : ∀ b, b < H.length → (H ++ [Blk.dead])[b]? = H[b]? := fun b hb => List.getElem?_append_left hb
  have hal : ∀ k, k < w.heap.size → (w.alloc o).heap[k]? = w.heap[k]? := fun k h => Go.RowKit.Below.heap_alloc w o k h
  refine ⟨Sim.step s H.length hle (fun b L hb h => by rwa [Emb.put_other ι _ hb] at h) (fun b L h => ?_) (fun b hb => .inl ?_) (fun b L _ hL _ hlive => ?_) (fun us h => ?_)
    (fun sz' us h => ?_) (fun es h => ?_) (fun ho b L0 L hb _ hlive h0 hL => ?_) (fun v us h => ?_), ?_⟩
  · by_cases e : b = H.length
    · subst e; simp
    · rw [Emb.put_other ι _ e] at h; have := s.dom b L h; simp; omega
  · rcases Nat.lt_or_ge b H.length with h | h
    · exact hold b h
    · rw [List.getElem?_eq_none (by simp; omega), List.getElem?_eq_none h]
  · exact hal _ (s.live_lt hL hlive)
  · rw [cells_dead hnew] at h; cases h
  · rw [hnew] at h; cases h
  · rw [hnew] at h; cases h
  · rw [owned_dead hnew] at ho; cases ho
  · rw [hnew] at h; cases h
  · refine ⟨rfl, rfl, rfl, by simp, hle, by simp, fun b hb => Emb.put_other ι _ (Nat.ne_of_lt hb), fun b hb => by rw [hold b (List.getElem?_eq_some_iff.1 hb).1]; exact hb, fun b z us hb => by
      by_cases e : b = H.length
      · subst e; rw [hnew] at hb; cases hb
      · have hlt := (List.getElem?_eq_some_iff.1 hb).1
        rw [hold b (by simp at hlt; omega)] at hb; exact hb, fun g hg _ => hal _ hg, fun g hg h => ?_⟩
    obtain ⟨b, L, hL, hb, ho⟩ := h
    by_cases e : b = H.length
    · subst e; rw [owned_dead hnew] at ho; cases ho
    · rw [Emb.put_other ι _ e] at hL
      refine ⟨b, L, hL, hb, ?_⟩
      rwa [owned_eq (hold b (s.dom b L hL))] at ho

/-- An iterator of the world goes on: nothing that is told of changes. -/
theorem Sim.setIter {ι : Emb} {H : Hp} {w : World} (s : Sim ι H w) {r : Nat} {m : Option Nat} {a c : Nat} {se : Array Nat} (hr : w.heap[r]? = some (.mapIter m a se c)) (o : Obj) : Sim ι H (setBlock w r o) := by
  have hne : ∀ (g : Nat) (x : Obj), w.heap[g]? = some x → (∀ m a se c, x ≠ .mapIter m a se c) → (setBlock w r o).heap[g]? = w.heap[g]? := fun g x hx hn => by
    have : g ≠ r := fun e => by subst e; rw [hr] at hx; cases hx; exact hn _ _ _ _ rfl
    exact (heap_set (o' := o) hr).2 g this
  have hcell : ∀ A v, w.cell? A = some v → (setBlock w r o).cell? A = some v := fun A v hv => by
    rw [← hv]
    refine World.cell?_of_block (w := w) ?_
    have : A.block ≠ r := fun e => by
      unfold World.cell? at hv
      rw [e, hr] at hv
      cases hv
    exact (heap_set (o' := o) hr).2 A.block this
  refine ⟨fun b vs hb => ?_, s.rosz, fun b sz vs hb => ?_, fun b es hb => ?_, s.dom, s.sep⟩
  · obtain ⟨L, hL, hc⟩ := s.cells b vs hb
    refine ⟨L, hL, fun j v hv => ?_⟩
    obtain ⟨v', h1, h2⟩ := hc j v hv
    exact ⟨v', hcell _ _ h1, h2⟩
  · obtain ⟨L, cur, t, h1, h2, h3, h4, h5⟩ := s.own b sz vs hb
    exact ⟨L, cur, t, h1, h2, h3, (hne _ _ h4 (by simp)).trans h4, h5⟩
  · obtain ⟨L, en, cl, h1, h2, h3⟩ := s.maps b es hb
    exact ⟨L, en, cl, h1, (hne _ _ h2 (by simp)).trans h2, h3⟩
theorem Sim.ofDrew {ι : Emb} {H : Hp} {w : World} (s : Sim ι H w) {w1 : World} (h : w1 = w ∨ w1 = w.drew) : Sim ι H w1 := by
  rcases h with rfl | rfl
  · exact s
  · exact s.drew

/-! ### What only moves -/
variable {ι : Emb} {H : Hp} {w : World} {tm : Tm} {a : Act} {call : CallF}
theorem run_mm (ht : TR ι N tm a) {isMax : Bool} {xs : Array Operand} (ho : okL xs.toList = true) {tys : Array TypeId} {ty : TypeId} {av : Value} {H' : Hp} (h : aop (.mm isMax xs.toList) tm H = some (av, H')) :
    ∃ u', ((if isMax then Builtin.max_ else Builtin.min_) tys ty (xs.map a.eval)).run P w = .ok u' w ∧ VR ι av u' := by
  simp only [aop] at h
  have hr := evs_vr ht xs.toList ho
  cases hm : xs.toList.map (ev tm) with
  | nil => simp [hm] at h
  | cons v rest =>
    rw [hm] at h hr
    simp only at h
    obtain ⟨v', rest', hx', hv, hrest⟩ := hr.cons_inv
    cases hmm : mm2 isMax v rest with
    | none => simp [hmm] at h
    | some u =>
      simp [hmm] at h
      obtain ⟨rfl, rfl⟩ := h
      obtain ⟨u', hu', hvr⟩ := mm2_run (P := P) (w := w) isMax rest rest' v v' u hv hrest hmm
      refine ⟨u', ?_, hvr⟩
      have hl : (xs.map a.eval).toList = v' :: rest' := by rw [← hx']; simp
      cases isMax
      · simp only [Bool.false_eq_true, if_false] at hu' ⊢
        rw [show (Builtin.min_ tys ty (xs.map a.eval)) = rest'.foldlM Builtin.min2 v' by unfold Builtin.min_; rw [hl]]
        exact hu'
      · simp only [if_true] at hu' ⊢
        rw [show (Builtin.max_ tys ty (xs.map a.eval)) = rest'.foldlM Builtin.max2 v' by unfold Builtin.max_; rw [hl]]
        exact hu'
theorem mv_run (ht : TR ι N tm a) {o : Oper} (ho : mvOper o = true) {v : Value} {H' : Hp} (h : aop (cOp P o) tm H = some (v, H')) : ∃ v', (execOp a.eval o).run P w = .ok (.value v') w ∧ VR ι v v' := by
  unfold mvOper at ho
  split at ho
  · rename_i x hop
    have hc : cOp P o = .mv x := by unfold cOp; rw [hop]; simp [ho]
    rw [hc] at h; simp only [aop] at h; cases h
    exact ⟨a.eval x, by simp [execOp, hop], ev_vr ht ho⟩
  · rename_i x hop
    have hc : cOp P o = .mv x := by unfold cOp; rw [hop]; simp [ho]
    rw [hc] at h; simp only [aop] at h; cases h
    exact ⟨a.eval x, by simp [execOp, hop], ev_vr ht ho⟩
  · rename_i c hop
    obtain ⟨cal, args, tys⟩ := c
    have ex : ∀ b, cal = .builtin b → ∀ m : Sem Value, builtin b tys o.type (args.map fun | .const _ => true | _ => false) (args.map a.eval) = (do pure (.value (← m))) → execOp a.eval o = (do pure (.value (← m))) := by
      intro b hb m hm
      subst hb
      unfold execOp
      simp only [hop, resolve, pure_bind, invoke]
      exact hm
    split at ho
    · rename_i hcal
      have hcal' : cal = .builtin .min := hcal
      subst hcal'
      have hc : cOp P o = .mm false args.toList := by unfold cOp; rw [hop]; simp only [ho, if_true]; rfl
      rw [hc] at h
      obtain ⟨u', h1, h2⟩ := run_mm (P := P) (w := w) (tys := tys) (ty := o.type) ht ho h
      refine ⟨u', ?_, h2⟩
      rw [ex _ rfl (Builtin.min_ tys o.type (args.map a.eval)) (by simp [builtin]), Sem.run_bind]
      simp only [Bool.false_eq_true, if_false] at h1
      rw [h1]; rfl
    · rename_i hcal
      have hcal' : cal = .builtin .max := hcal
      subst hcal'
      have hc : cOp P o = .mm true args.toList := by unfold cOp; rw [hop]; simp only [ho, if_true]; rfl
      rw [hc] at h
      obtain ⟨u', h1, h2⟩ := run_mm (P := P) (w := w) (tys := tys) (ty := o.type) ht ho h
      refine ⟨u', ?_, h2⟩
      rw [ex _ rfl (Builtin.max_ tys o.type (args.map a.eval)) (by simp [builtin]), Sem.run_bind]
      simp only [if_true] at h1
      rw [h1]; rfl
    · cases ho
  · cases ho
theorem cOper_plain {ops : Array Oper} {o : Oper} (hg : o.guard.isNone = true) (hd : dstOk N o.dst = true) : cOper P N ops [] o = ⟨o.dst, cOp P o, none, []⟩ := by
  unfold cOper gTmp
  have : o.guard = none := by simpa using hg
  rw [this]
  simp only [hd, if_true]
theorem wanted_plain {o : Oper} (hg : o.guard.isNone = true) (y : Nat → Option Bool) : Region.wanted o y = true := by
  have : o.guard = none := by simpa using hg
  simp [Region.wanted, this]
theorem dst_lt {o : Oper} (hd : dstOk N o.dst = true) : ∀ t, o.dst = some t → t < N := fun t ht => by rw [ht] at hd; simpa [dstOk] using hd

theorem region_ok2 (hc : CallOk P call) {ops : Array Oper} {Q : Exit → Act → World → Prop} {rest : List Oper} : ∀ (l : List Oper) {tm tm' : Tm} {H H' : Hp} {ι : Emb} {w : World} {a : Act},
    aregion call (l.map (cOper P N ops [])) (tm, H) = some (tm', H') → Sim ι H w → TR ι N tm a →
    (∀ ι' a' w', TR ι' N tm' a' → Sim ι' H' w' → Fr ι H w ι' H' w' → wpList P ops Q rest a' w') → wpList P ops Q (l ++ rest) a w
  | [], tm, tm', H, H', ι, w, a, h, s, ht, hq => by
    simp [aregion] at h
    obtain ⟨rfl, rfl⟩ := h
    exact hq ι a w ht s (Fr.refl ..)
  | o :: l, tm, tm', H, H', ι, w, a, h, s, ht, hq => by
    simp only [List.map_cons, aregion] at h
    rw [List.cons_append]
    rcases cOper_spec (P := P) (N := N) (o := o) (ops := ops) (sl := []) with ⟨g, hg, hco, hd⟩ | ⟨h1, h2⟩
    · rw [hco] at h
      simp only at h
      unfold wpList
      rw [want_ok ht hg] at h
      split at h
      · rename_i hw
        rw [if_pos hw]
        split at h
        · rename_i v H1 hr
          refine .inl (arun_ok hc s ht hr fun v' ι1 w1 hv hs hf => ?_)
          exact region_ok2 hc l h hs ((ht.mono hf.emb).put hd hv) fun ι2 a2 w2 ht2 hs2 hf2 => hq ι2 a2 w2 ht2 hs2 (hf.trans hf2)
        · cases h
      · rename_i hw
        rw [if_neg hw]
        exact region_ok2 hc l h s (ht.put hd (undef_vr ι)) hq
    · rw [h1, h2] at h
      simp [want, arun, aop] at h
theorem aops_ti {ti : Nat} : ∀ (l : List DOp) {tm tm' : Tm}, aops ti l tm H = some tm' → tm' ti = tm ti
  | [], tm, tm', h => by simp only [aops] at h; cases h; rfl
  | o :: l, tm, tm', h => by
    simp only [aops] at h
    split at h
    · rename_i hc
      simp only [Bool.and_eq_true, bne_iff_ne] at hc
      split at h
      · rw [aops_ti l h]
        cases hd : o.dst with
        | none => rfl
        | some t => simp only [put, upd]; rw [if_neg (fun e => hc.2 (by rw [hd, e]))]
      · cases h
    · cases h
theorem aops_append {ti : Nat} : ∀ (l l' : List DOp) (tm : Tm), aops ti (l ++ l') tm H = (aops ti l tm H).bind fun t => aops ti l' t H
  | [], l', tm => rfl
  | o :: l, l', tm => by
    simp only [List.cons_append, aops]
    split
    · split
      · exact aops_append l l' _
      · rfl
    · rfl
theorem mvs_ok {ti : Nat} {ops : Array Oper} {Q : Exit → Act → World → Prop} {rest : List Oper} : ∀ (l : List Oper) {tm tm' : Tm} {a : Act}, (l.all fun o => mvOper o && o.guard.isNone && dstOk N o.dst) = true →
    aops ti (l.map (cOper P N ops [])) tm H = some tm' → TR ι N tm a → (∀ a', TR ι N tm' a' → wpList P ops Q rest a' w) → wpList P ops Q (l ++ rest) a w
  | [], tm, tm', a, _, h, ht, hq => by simp only [List.map_nil, aops] at h; cases h; exact hq a ht
  | o :: l, tm, tm', a, hl, h, ht, hq => by
    simp only [List.all_cons, Bool.and_eq_true] at hl
    obtain ⟨⟨⟨h1, h2⟩, h3⟩, h4⟩ := hl
    simp only [List.map_cons, cOper_plain h2 h3, aops] at h
    split at h
    · split at h
      · rename_i v H1 hr
        obtain ⟨v', hrun, hv⟩ := mv_run (P := P) (w := w) ht h1 hr
        rw [List.cons_append]
        unfold wpList
        rw [if_pos (wanted_plain h2 _)]
        refine .inl ?_
        unfold Oper.wp
        rw [hrun]
        exact mvs_ok l (by simpa using h4) h (ht.put (dst_lt h3) hv) hq
      · cases h
    · cases h

/-! ### The loop -/
theorem filter_one {es : List MapEntry} (hn : (es.map (·.born)).Nodup) {p : MapEntry → Bool} {e : MapEntry} (he : e ∈ es) (hp : p e = true) : (es.filter fun x => p x && x.born != e.born).length + 1 = (es.filter p).length := by
  induction es with
  | nil => simp at he
  | cons x es ih =>
    simp only [List.map_cons, List.nodup_cons] at hn
    rcases List.mem_cons.1 he with rfl | he'
    · have h1 : (es.filter fun x => p x && x.born != e.born) = es.filter p := by
        refine List.filter_congr fun y hy => ?_
        have : y.born ≠ e.born := fun q => hn.1 (List.mem_map.2 ⟨y, hy, q⟩)
        simp [this]
      simp [List.filter_cons, hp, h1]
    · have hne : x.born ≠ e.born := fun q => hn.1 (List.mem_map.2 ⟨e, he', q.symm⟩)
      have := ih hn.2 he'
      by_cases hx : p x = true
      · simp [List.filter_cons, hx, hne]; omega
      · simp [List.filter_cons, hx]; exact this
theorem left_one {es : Array MapEntry} {seen : Array Nat} (hn : (es.toList.map (·.born)).Nodup) {e : MapEntry} (he : e ∈ (leftOf es seen).toList) : (leftOf es (seen.push e.born)).size + 1 = (leftOf es seen).size := by
  have e1 : ∀ s : Array Nat, (leftOf es s).size = (es.toList.filter fun e => !s.contains e.born).length := fun s => by
    unfold leftOf; rw [← Array.length_toList, Array.toList_filter]
  rw [e1, e1]
  unfold leftOf at he
  simp only [Array.toList_filter, List.mem_filter] at he
  have h := filter_one hn (p := fun e => !seen.contains e.born) he.1 he.2
  rw [← h]
  congr 2
  refine List.filter_congr fun x _ => ?_
  rw [contains_push]
  cases seen.contains x.born <;> cases hx : (x.born == e.born) <;> simp [bne, hx]
theorem rangePat_inv {ca cb : Code} {pre : List Oper} {ops0 : Array Oper} {m : MapR} (hp : rangePat P N ca cb = some (pre, ops0, m)) :
    ∃ (id0 i0 id1 : Nat) (ops1 : Array Oper) (c1 id2 : Nat) (ops2 : Array Oper) (id3 : Nat) (ops3 : Array Oper) (o0 o1 o2 o3 o4 : Oper) (l2 : List Oper) (t : TypeId),
      ca = .region id0 ops0 false ∧ cb = .block i0 (.loop (.seq (.region id1 ops1 false) (.seq (.cond (.tmp m.tb) .skip (.exit i0)) (.block c1 (.seq (.region id2 ops2 false) (.region id3 ops3 false)))))) ∧
      ops0.toList = pre ++ [o0] ∧ ops1.toList = [o1, o2] ∧ ops2.toList = o3 :: o4 :: l2 ∧
      (o0.dst = some m.ti ∧ o0.op = .range t m.x ∧ o0.guard = none) ∧ (o1.dst = some m.tn ∧ o1.op = .next (.tmp m.ti) false ∧ o1.guard = none) ∧ (o2.dst = some m.tb ∧ o2.op = .extract (.tmp m.tn) 0 ∧ o2.guard = none) ∧
      (o3.dst = some m.te ∧ o3.op = .entry (.tmp m.ti) ∧ o3.guard = none) ∧ (o4.dst = some m.tx ∧ o4.op = .extract (.tmp m.te) 1 ∧ o4.guard = none) ∧
      m.body = l2.map (cOper P N ops2 []) ++ ops3.toList.map (cOper P N ops3 []) ∧ rangeOk P N m t (l2 ++ ops3.toList) = true := by
  unfold rangePat at hp
  split at hp
  · split at hp
    · rename_i hl h1 h2
      dsimp only at hp
      split at hp
      · rename_i hb
        simp only [Bool.and_eq_true, beq_iff_eq] at hb
        obtain ⟨⟨⟨⟨⟨⟨rfl, rfl⟩, rfl⟩, rfl⟩, rfl⟩, rfl⟩, hb⟩ := hb
        cases hp
        obtain ⟨ys, hys⟩ := List.getLast?_eq_some_iff.1 hl
        have hd : ops0.toList.dropLast = ys := by rw [hys, List.dropLast_concat]
        exact ⟨_, _, _, _, _, _, _, _, _, _, _, _, _, _, _, _, rfl, rfl, hd.symm ▸ hys, h1, h2, ⟨rfl, rfl, rfl⟩, ⟨rfl, rfl, rfl⟩, ⟨rfl, rfl, rfl⟩, ⟨rfl, rfl, rfl⟩, ⟨rfl, rfl, rfl⟩, rfl, hb⟩
      · cases hp
    · cases hp
  · cases hp

set_option maxHeartbeats 2000000 in
theorem mapr_ok (hc : CallOk P call) {fuel : Nat} {ca cb : Code} {pre : List Oper} {ops0 : Array Oper} {m : MapR} (hp : rangePat P N ca cb = some (pre, ops0, m)) {Q : Exit → Act → World → Prop} {tm tm' : Tm} {H H' : Hp} {x : AX} {ι : Emb} {w : World} {a : Act}
    (h : acode call fuel (.seq (.region (pre.map (cOper P N ops0 []))) (.mapr m)) (tm, H) = some (x, (tm', H'))) (s : Sim ι H w) (ht : TR ι N tm a)
    (hq : x = .normal → ∀ ι' a' w', TR ι' N tm' a' → Sim ι' H' w' → Fr ι H w ι' H' w' → Q .normal a' w') : x = .normal ∧ (Code.seq ca cb).wp P Q a w := by
  obtain ⟨id0, i0, id1, ops1, c1, id2, ops2, id3, ops3, o0, o1, o2, o3, o4, l2, t, rfl, rfl, hl0, hl1, hl2, ⟨d0, p0, g0⟩, ⟨d1, p1, g1⟩, ⟨d2, p2, g2⟩, ⟨d3, p3, g3⟩, ⟨d4, p4, g4⟩, hbody, hok⟩ := rangePat_inv hp
  simp only [acode] at h
  cases hr : aregion call (pre.map (cOper P N ops0 [])) (tm, H) with
  | none => rw [hr] at h; cases h
  | some s1 =>
  obtain ⟨tm1, H1⟩ := s1
  rw [hr] at h
  simp only [Option.map_some] at h
  cases hm : amapr m tm1 H1 with
  | none => rw [hm] at h; cases h
  | some s2 =>
  rw [hm] at h
  simp only [Option.map_some, Option.some.injEq, Prod.mk.injEq] at h
  obtain ⟨rfl, rfl⟩ := h
  refine ⟨rfl, ?_⟩
  replace hq := hq rfl
  unfold rangeOk at hok
  simp only [Bool.and_eq_true, decide_eq_true_eq, bne_iff_ne] at hok
  obtain ⟨⟨⟨⟨⟨⟨⟨⟨⟨⟨⟨hmt, hx⟩, n1⟩, n2⟩, n3⟩, n4⟩, n5⟩, e1⟩, e2⟩, e3⟩, e4⟩, hall⟩ := hok
  rw [List.all_append, Bool.and_eq_true] at hall
  obtain ⟨hall1, hall2⟩ := hall
  have hu : ∃ k e, P.underlying t = some (.map k e) := by
    split at hmt
    · exact ⟨_, _, by assumption⟩
    · cases hmt
  obtain ⟨k, e, hu⟩ := hu
  refine wp_seq (wp_region_list ?_)
  rw [hl0]
  refine region_ok2 hc pre hr s ht fun ι1 a1 w1 ht1 hs1 hf1 => ?_
  unfold amapr at hm
  split at hm
  case h_2 => cases hm
  rename_i b hev
  split at hm
  case h_2 => cases hm
  rename_i es hb
  split at hm
  case isFalse => cases hm
  rename_i hsame
  obtain ⟨tm2, hrounds, hs2⟩ := Option.map_eq_some_iff.1 hm
  simp only [Prod.mk.injEq] at hs2
  obtain ⟨rfl, rfl⟩ := hs2
  obtain ⟨L, en, cl, hL, hw, hrel⟩ := hs1.maps b es hb
  obtain ⟨r1, r2, r3, r4⟩ := hrel
  have hxv := ev_vr ht1 hx
  rw [hev] at hxv
  have hxe : a1.eval m.x = .map (some L.base.block) := mp_inv hxv hL
  have hrg := run_range_map (P := P) w1 t k e L.base.block en cl hu hw
  obtain ⟨hsd, hfd⟩ := hs1.newDead (.mapIter (some L.base.block) cl #[] cl)
  generalize hι2 : ι1.put H1.length ⟨⟨w1.heap.size, 0, none⟩, 0, 0⟩ = ι2 at hsd hfd
  have hL0 : ι2 H1.length = some ⟨⟨w1.heap.size, 0, none⟩, 0, 0⟩ := by rw [← hι2]; exact Emb.put_same ..
  have hptr : ∀ r, r = w1.heap.size → VR ι2 (.pointer (some ⟨H1.length, 0, none⟩)) (.pointer (some ⟨r, 0, none⟩)) := fun r hr => by
    subst hr
    have := VR.ptr (ι := ι2) H1.length 0 _ hL0
    simpa [Addr.add] using this
  have hmem : ∀ e ∈ en.toList, VR ι2 (elemv es) e.val := fun e he => by
    obtain ⟨j, hj, rfl⟩ := List.mem_iff_getElem.1 he
    have hj2 : j < es.length := by rw [r1]; simpa using hj
    have hj3 : j < en.size := by simpa using hj
    have := (r2 j es[j].1 es[j].2 en[j] (List.getElem?_eq_getElem hj2) (Array.getElem?_eq_getElem hj3)).2
    have hv : es[j].2 = elemv es := vsame1_eq (List.all_eq_true.1 hsame es[j] (List.getElem_mem hj2))
    rw [hv] at this
    simpa using this.mono hfd.emb
  have hnd : (en.toList.map (·.born)).Nodup := by
    rw [List.nodup_iff_pairwise_ne, List.pairwise_iff_getElem]
    intro i j hi hj hij
    simp only [List.getElem_map]
    simp only [List.length_map, Array.length_toList] at hi hj
    have := r4 i j en[i] en[j] hij (by simp) (by simp)
    simp only [Array.getElem_toList]; omega
  have hold : ∀ x ∈ en.toList, x.born < cl := fun x hx => by
    obtain ⟨j, hj, rfl⟩ := List.mem_iff_getElem.1 hx
    exact r3 j _ (by simp at hj; simp [hj])
  unfold wpList
  rw [if_pos (wanted_plain (by rw [g0]; rfl) _)]
  refine .inl ?_
  unfold Oper.wp
  have hex0 : (execOp a1.eval o0).run P w1 = .ok (.value (.pointer (some ⟨w1.heap.size, 0, none⟩))) (w1.alloc (.mapIter (some L.base.block) cl #[] cl)) := by
    unfold execOp
    rw [p0]
    simp only [hxe, Sem.run_bind, hrg]; rfl
  rw [hex0]
  show (Code.block i0 _).wp P Q (a1.put o0.dst _) _
  rw [d0]
  have hw2 : (w1.alloc (.mapIter (some L.base.block) cl #[] cl)).heap[L.base.block]? = some (.map en cl) := by
    rw [Go.RowKit.Below.heap_alloc w1 _ _ (Array.getElem?_eq_some_iff.1 hw).1]; exact hw
  have hrit : (w1.alloc (.mapIter (some L.base.block) cl #[] cl)).heap[w1.heap.size]? = some (.mapIter (some L.base.block) cl #[] cl) := by show (w1.heap.push _)[w1.heap.size]? = _; simp
  have ht2 : TR ι2 N (upd tm1 m.ti (.pointer (some ⟨H1.length, 0, none⟩))) (a1.put (some m.ti) (.pointer (some ⟨w1.heap.size, 0, none⟩))) :=
    (ht1.mono hfd.emb).put (d := some m.ti) (fun t h => by cases h; exact n1) (hptr _ rfl)
  have hne : w1.heap.size ≠ L.base.block := fun q => by rw [← q] at hw; rw [Array.getElem?_eq_none (Nat.le_refl _)] at hw; cases hw
  refine wp_block ?_
  have key : ∀ (n : Nat) (tmc : Tm) (wc : World) (ac : Act) (seen : Array Nat) (c0 : Nat), TR ι2 N tmc ac → Sim ι2 (H1 ++ [.dead]) wc → Fr ι H w ι2 (H1 ++ [.dead]) wc → tmc m.ti = .pointer (some ⟨H1.length, 0, none⟩) →
      wc.heap[w1.heap.size]? = some (.mapIter (some L.base.block) cl seen c0) → wc.heap[L.base.block]? = some (.map en cl) → (leftOf en seen).size = n → cl ≤ c0 → mrounds m (elemv es) (H1 ++ [.dead]) n tmc = some tm2 →
      Code.rounds P (.seq (.region id1 ops1 false) (.seq (.cond (.tmp m.tb) .skip (.exit i0)) (.block c1 (.seq (.region id2 ops2 false) (.region id3 ops3 false))))) (Exit.inBlock i0 Q) (n + 1) ac wc := by
    intro n
    induction n with
    | zero =>
      intro tmc wc ac seen c0 htc hsc hfc hti hri hmp hln hcl hrd
      show Code.wp P _ (Exit.then (Code.rounds P _ _ _) _) ac wc
      refine wp_seq (wp_region_list ?_)
      rw [hl1]
      unfold wpList
      rw [if_pos (wanted_plain (by rw [g1]; rfl) _)]
      refine .inl ?_
      unfold Oper.wp
      have hit : ac.eval (.tmp m.ti) = .pointer (some ⟨w1.heap.size, 0, none⟩) := by
        have := htc.val m.ti
        rw [hti] at this
        obtain ⟨b', off, L', q1, q2, q3⟩ := this.ptr_inv
        cases q1
        rw [hL0] at q3; cases q3
        show ac.tmps.getD m.ti undef = _
        rw [q2]; rfl
      rcases run_next_at (P := P) wc o1.type w1.heap.size L.base.block cl c0 seen en cl hri hmp hold hcl with ⟨-, hrun⟩ | ⟨e, he, -⟩
      · have hex : (execOp ac.eval o1).run P wc = .ok (.value (.tuple #[.bool false])) wc := by
          unfold execOp
          rw [p1]
          simp only [hit, Sem.run_bind, hrun]; rfl
        rw [hex]
        show wpList P ops1 _ [o2] (ac.put o1.dst _) wc
        rw [d1]
        have ht3 : TR ι2 N (upd tmc m.tn (.tuple #[.bool false])) (ac.put (some m.tn) (.tuple #[.bool false])) :=
          htc.put (d := some m.tn) (fun t h => by cases h; exact n2) (VR.of_tup (l := [.bool false]) (l' := [.bool false]) (VRs.cons (.bool _) VRs.nil))
        have hget : (ac.put (some m.tn) (.tuple #[.bool false])).eval (.tmp m.tn) = .tuple #[.bool false] := by
          have := Nat.lt_of_lt_of_le n2 htc.size
          simp [Act.eval, Act.put, Array.getD_eq_getD_getElem?, this]
        unfold wpList
        rw [if_pos (wanted_plain (by rw [g2]; rfl) _)]
        refine .inl ?_
        unfold Oper.wp
        have hex2 : (execOp (ac.put (some m.tn) (.tuple #[.bool false])).eval o2).run P wc = .ok (.value (.bool false)) wc := by
          unfold execOp
          rw [p2]
          simp only [hget]
          rfl
        rw [hex2]
        have ht4 := ht3.put (d := some m.tb) (u := .bool false) (v := .bool false) (fun t h => by cases h; exact n3) (.bool false)
        show Code.wp P (.seq _ _) _ (Act.put (Act.put ac (some m.tn) _) o2.dst _) wc
        rw [d2]
        have hcond : (Act.put (Act.put ac (some m.tn) (.tuple #[.bool false])) (some m.tb) (.bool false)).eval (.tmp m.tb) = .bool false := by
          have h1 := ht3.size
          generalize Act.put ac (some m.tn) (.tuple #[.bool false]) = A1 at h1 ⊢
          have := Nat.lt_of_lt_of_le n3 h1
          simp [Act.eval, Act.put, Array.getD_eq_getD_getElem?, this]
        refine wp_seq (wp_cond_false hcond (wp_exit ?_))
        show Exit.inBlock i0 Q (.exit i0) _ wc
        simp only [Exit.inBlock, if_true]
        simp only [mrounds, Option.some.injEq] at hrd
        subst hrd
        exact hq ι2 _ wc ht4 hsc hfc
      · exfalso
        rw [← Array.length_toList] at hln
        rw [List.eq_nil_of_length_eq_zero hln] at he
        simp at he
    | succ n ih =>
      intro tmc wc ac seen c0 htc hsc hfc hti hri hmp hln hcl hrd
      show Code.wp P _ (Exit.then (Code.rounds P _ _ _) _) ac wc
      refine wp_seq (wp_region_list ?_)
      rw [hl1]
      unfold wpList
      rw [if_pos (wanted_plain (by rw [g1]; rfl) _)]
      refine .inl ?_
      unfold Oper.wp
      have hit : ∀ (tz : Tm) (az : Act), TR ι2 N tz az → tz m.ti = .pointer (some ⟨H1.length, 0, none⟩) → az.eval (.tmp m.ti) = .pointer (some ⟨w1.heap.size, 0, none⟩) := fun tz az hz hzi => by
        have := hz.val m.ti
        rw [hzi] at this
        obtain ⟨b', off, L', q1, q2, q3⟩ := this.ptr_inv
        cases q1
        rw [hL0] at q3; cases q3
        show az.tmps.getD m.ti undef = _
        rw [q2]; rfl
      rcases run_next_at (P := P) wc o1.type w1.heap.size L.base.block cl c0 seen en cl hri hmp hold hcl with ⟨h0, -⟩ | ⟨e, he, w', hal, hrun⟩
      · omega
      have hri' : w'.heap[w1.heap.size]? = some (.mapIter (some L.base.block) cl seen c0) := by rcases hal with rfl | rfl <;> exact hri
      have hmp' : w'.heap[L.base.block]? = some (.map en cl) := by rcases hal with rfl | rfl <;> exact hmp
      have hset := heap_set (o' := .mapIter (some L.base.block) cl (seen.push e.born) cl) hri'
      generalize hwd : setBlock w' w1.heap.size (.mapIter (some L.base.block) cl (seen.push e.born) cl) = wd at hrun
      have hwdh : wd.heap = w'.heap.setIfInBounds w1.heap.size (.mapIter (some L.base.block) cl (seen.push e.born) cl) := by rw [← hwd]; rfl
      have hri2 : wd.heap[w1.heap.size]? = some (.mapIter (some L.base.block) cl (seen.push e.born) cl) := by rw [hwdh]; exact hset.1
      have hmp2 : wd.heap[L.base.block]? = some (.map en cl) := by rw [hwdh]; exact (hset.2 _ (fun q => hne q.symm)).trans hmp'
      have hsd2 : Sim ι2 (H1 ++ [.dead]) wd := by rw [← hwd]; exact (hsc.ofDrew hal).setIter hri' _
      have hfd2 : Fr ι H w ι2 (H1 ++ [.dead]) wd := by
        have hkeep : ∀ g, g ≠ w1.heap.size → wd.heap[g]? = wc.heap[g]? := fun g hg => by rw [hwdh, hset.2 g hg]; rcases hal with rfl | rfl <;> rfl
        have hosz : wd.os = wc.os ∧ wd.tape = wc.tape ∧ wd.output = wc.output ∧ wd.heap.size = wc.heap.size := by
          rw [← hwd]; rcases hal with rfl | rfl <;> exact ⟨rfl, rfl, rfl, Array.size_setIfInBounds ..⟩
        refine ⟨hosz.1.trans hfc.os, hosz.2.1.trans hfc.tape, hosz.2.2.1.trans hfc.output, by rw [hosz.2.2.2]; exact hfc.size, hfc.emb, hfc.len, hfc.old, hfc.dead, hfc.ro, fun g hg hn => ?_, hfc.own⟩
        rw [hkeep g (by have := hf1.size; omega)]
        exact hfc.keep g hg hn
      obtain ⟨hem, hes⟩ := mem_left he
      have hex : (execOp ac.eval o1).run P wc = .ok (.value (.tuple #[.bool true, e.key, e.val])) wd := by
        unfold execOp
        rw [p1]
        simp only [hit tmc ac htc hti, Sem.run_bind, hrun]; rfl
      rw [hex]
      show wpList P ops1 _ [o2] (ac.put o1.dst _) wd
      rw [d1]
      have ht3 : TR ι2 N (upd tmc m.tn undef) (ac.put (some m.tn) (.tuple #[.bool true, e.key, e.val])) := htc.put (d := some m.tn) (fun t h => by cases h; exact n2) (.anyt _)
      have hget : (ac.put (some m.tn) (.tuple #[.bool true, e.key, e.val])).eval (.tmp m.tn) = .tuple #[.bool true, e.key, e.val] := by
        have := Nat.lt_of_lt_of_le n2 htc.size
        simp [Act.eval, Act.put, Array.getD_eq_getD_getElem?, this]
      generalize hA1 : ac.put (some m.tn) (.tuple #[.bool true, e.key, e.val]) = A1 at *
      unfold wpList
      rw [if_pos (wanted_plain (by rw [g2]; rfl) _)]
      refine .inl ?_
      unfold Oper.wp
      have hex2 : (execOp A1.eval o2).run P wd = .ok (.value (.bool true)) wd := by
        unfold execOp
        rw [p2]
        simp only [hget]
        rfl
      rw [hex2]
      have ht4 := ht3.put (d := some m.tb) (u := .bool true) (v := .bool true) (fun t h => by cases h; exact n3) (.bool true)
      have hcond : (A1.put (some m.tb) (.bool true)).eval (.tmp m.tb) = .bool true := by
        have := Nat.lt_of_lt_of_le n3 ht3.size
        simp [Act.eval, Act.put, Array.getD_eq_getD_getElem?, this]
      show Code.wp P (.seq _ _) _ (A1.put o2.dst _) wd
      rw [d2]
      generalize hA2 : A1.put (some m.tb) (.bool true) = A2 at *
      refine wp_seq (wp_cond_true hcond (wp_skip ?_))
      show Code.wp P (.block c1 _) _ A2 wd
      refine wp_block (wp_seq (wp_region_list ?_))
      rw [hl2]
      have hti4 : put (upd tmc m.tn undef) (some m.tb) (.bool true) m.ti = .pointer (some ⟨H1.length, 0, none⟩) := by
        simp only [put, upd]; rw [if_neg e2, if_neg e1]; exact hti
      unfold wpList
      rw [if_pos (wanted_plain (by rw [g3]; rfl) _)]
      refine .inl ?_
      unfold Oper.wp
      have hen := run_entry_at (P := P) wd w1.heap.size L.base.block cl seen en cl e hri2 hmp2 hem hnd
      have hex3 : (execOp A2.eval o3).run P wd = .ok (.value (.tuple #[e.key, e.val])) wd := by
        unfold execOp
        rw [p3]
        simp only [hit _ A2 ht4 hti4, Sem.run_bind, hen]; rfl
      rw [hex3]
      have ht5 : TR ι2 N (put (put (upd tmc m.tn undef) (some m.tb) (.bool true)) (some m.te) undef) (A2.put (some m.te) (.tuple #[e.key, e.val])) := ht4.put (d := some m.te) (fun t h => by cases h; exact n4) (.anyt _)
      have hget5 : (A2.put (some m.te) (.tuple #[e.key, e.val])).eval (.tmp m.te) = .tuple #[e.key, e.val] := by
        have := Nat.lt_of_lt_of_le n4 ht4.size
        simp [Act.eval, Act.put, Array.getD_eq_getD_getElem?, this]
      show wpList P ops2 _ (o4 :: l2) (A2.put o3.dst _) wd
      rw [d3]
      generalize hA3 : A2.put (some m.te) (.tuple #[e.key, e.val]) = A3 at *
      unfold wpList
      rw [if_pos (wanted_plain (by rw [g4]; rfl) _)]
      refine .inl ?_
      unfold Oper.wp
      have hex4 : (execOp A3.eval o4).run P wd = .ok (.value e.val) wd := by
        unfold execOp
        rw [p4]
        simp only [hget5]
        rfl
      rw [hex4]
      have ht6 := ht5.put (d := some m.tx) (fun t h => by cases h; exact n5) (hmem e hem)
      show wpList P ops2 _ l2 (A3.put o4.dst _) wd
      rw [d4]
      generalize hA4 : A3.put (some m.tx) e.val = A4 at *
      simp only [mrounds] at hrd
      obtain ⟨tmd, hro, hrd⟩ := Option.bind_eq_some_iff.1 hrd
      unfold mround at hro
      rw [hbody, aops_append] at hro
      obtain ⟨tme, ho1, ho2⟩ := Option.bind_eq_some_iff.1 hro
      rw [← List.append_nil l2]
      refine mvs_ok (ι := ι2) (w := wd) l2 hall1 ho1 ht6 fun A5 ht7 => ?_
      show Code.wp P (.region id3 ops3 false) _ A5 wd
      refine wp_region_list ?_
      rw [← List.append_nil ops3.toList]
      refine mvs_ok (ι := ι2) (w := wd) ops3.toList hall2 ho2 ht7 fun A6 ht8 => ?_
      show Code.rounds P _ _ (n + 1) A6 wd
      refine ih tmd wd A6 (seen.push e.born) cl ht8 hsd2 hfd2 ?_ hri2 hmp2 ?_ (Nat.le_refl _) hrd
      · rw [aops_ti _ ho2, aops_ti _ ho1]
        simp only [upd]
        rw [if_neg e4, if_neg e3, if_neg e2, if_neg e1]; exact hti
      · have := left_one hnd he
        omega
  refine wp_loop_rounds (es.length + 1) (key es.length _ _ _ #[] cl ht2 hsd (hf1.trans hfd) (upd_same ..) hrit hw2 ?_ (Nat.le_refl _) hrounds)
  simp [leftOf, r1]
end
end Go.Ab

/- The abstract machine, part 13: the model follows code and functions. Own work. -/
namespace Go.Ab
open Go

def AX.exit' : AX → Exit
  | .normal => .normal
  | .exit id => .exit id
  | .ret => .ret

section
variable {P : Program} {call : CallF} {N : Nat}

theorem code_ok (hm : P.follows .mixedOrders = true) (hc : CallOk P call) (hk : KeepC call) (fuel : Nat) (c : Code) : ∀ {Q : Exit → Act → World → Prop} {tm tm' : Tm} {H H' : Hp} {x : AX} {ι : Emb} {w : World} {a : Act},
    acode call fuel (cCode P N c) (tm, H) = some (x, (tm', H')) → Sim ι H w → TR ι N tm a →
    (∀ ι' a' w', TR ι' N tm' a' → Sim ι' H' w' → Fr ι H w ι' H' w' → Q x.exit' a' w') → c.wp P Q a w := by
  induction c with
  | skip =>
    intro Q tm tm' H H' x ι w a h s ht hq
    simp only [cCode, acode] at h; cases h
    exact wp_skip (hq ι a w ht s (Fr.refl ..))
  | region id ops draw =>
    intro Q tm tm' H H' x ι w a h s ht hq
    cases draw with
    | false =>
      simp only [cCode, acode] at h
      cases hr : aregion call (ops.toList.map (cOper P N ops [])) (tm, H) with
      | none => rw [hr] at h; cases h
      | some s' =>
        rw [hr] at h; cases h
        exact wp_region_list (region_ok hc ops.toList hr s ht hq)
    | true =>
      simp only [cCode] at h
      by_cases hx : x = .normal
      · subst hx
        exact (draw_ok hm hc hk h s ht fun _ => hq).2
      · exact absurd (draw_ok (id := id) (Q := Q) hm hc hk h s ht fun e => absurd e hx).1 hx
  | seq c1 c2 ih1 ih2 =>
    intro Q tm tm' H H' x ι w a h s ht hq
    simp only [cCode] at h
    split at h
    · rename_i pre ops0 m hp
      refine (mapr_ok hc hp h s ht fun e => ?_).2
      subst e
      exact hq
    simp only [acode] at h
    cases hr : acode call fuel (cCode P N c1) (tm, H) with
    | none => rw [hr] at h; cases h
    | some p =>
      obtain ⟨y, tm1, H1⟩ := p
      rw [hr] at h
      refine wp_seq (ih1 hr s ht fun ι1 a1 w1 ht1 hs1 hf1 => ?_)
      cases y with
      | normal =>
        simp only at h
        exact ih2 h hs1 ht1 fun ι2 a2 w2 ht2 hs2 hf2 => hq ι2 a2 w2 ht2 hs2 (hf1.trans hf2)
      | exit id =>
        simp only at h; cases h
        exact hq ι1 a1 w1 ht1 hs1 hf1
      | ret =>
        simp only at h; cases h
        exact hq ι1 a1 w1 ht1 hs1 hf1
  | cond c x y ihx ihy =>
    intro Q tm tm' H H' z ι w a h s ht hq
    simp only [cCode] at h
    split at h
    · rename_i ho
      simp only [acode] at h
      have hv := ev_vr ht ho
      split at h
      · rename_i t e
        rw [e] at hv
        have hb := vr_bool hv
        cases t with
        | true => exact wp_cond_true hb (ihx h s ht hq)
        | false => exact wp_cond_false hb (ihy h s ht hq)
      · cases h
    · simp [acode] at h
  | block id c ih =>
    intro Q tm tm' H H' x ι w a h s ht hq
    simp only [cCode, acode] at h
    cases hr : acode call fuel (cCode P N c) (tm, H) with
    | none => rw [hr] at h; cases h
    | some p =>
      obtain ⟨y, tm1, H1⟩ := p
      rw [hr] at h
      refine wp_block (ih hr s ht fun ι1 a1 w1 ht1 hs1 hf1 => ?_)
      cases y with
      | normal => simp only at h; cases h; exact hq ι1 a1 w1 ht1 hs1 hf1
      | exit j =>
        simp only at h
        by_cases hj : j = id
        · rw [if_pos hj] at h; cases h
          show Exit.inBlock id Q (.exit j) a1 w1
          simp only [Exit.inBlock, hj, if_true]
          exact hq ι1 a1 w1 ht1 hs1 hf1
        · rw [if_neg hj] at h; cases h
          show Exit.inBlock id Q (.exit j) a1 w1
          simp only [Exit.inBlock, hj, if_false]
          exact hq ι1 a1 w1 ht1 hs1 hf1
      | ret => simp only at h; cases h; exact hq ι1 a1 w1 ht1 hs1 hf1
  | loop c ih =>
    intro Q tm tm' H H' x ι w a h s ht hq
    simp only [cCode, acode] at h
    have key : ∀ n {tm : Tm} {H : Hp} {ι : Emb} {w : World} {a : Act}, iter (acode call fuel (cCode P N c)) n (tm, H) = some (x, (tm', H')) → Sim ι H w → TR ι N tm a →
        (∀ ι' a' w', TR ι' N tm' a' → Sim ι' H' w' → Fr ι H w ι' H' w' → Q x.exit' a' w') → Code.rounds P c Q n a w := by
      intro n
      induction n with
      | zero => intro tm H ι w a h; simp [iter] at h
      | succ n ihn =>
        intro tm H ι w a h s ht hq
        simp only [iter] at h
        cases hr : acode call fuel (cCode P N c) (tm, H) with
        | none => rw [hr] at h; cases h
        | some p =>
          obtain ⟨y, tm1, H1⟩ := p
          rw [hr] at h
          show c.wp P (Exit.then (Code.rounds P c Q n) Q) a w
          refine ih hr s ht fun ι1 a1 w1 ht1 hs1 hf1 => ?_
          cases y with
          | normal => exact ihn h hs1 ht1 fun ι2 a2 w2 ht2 hs2 hf2 => hq ι2 a2 w2 ht2 hs2 (hf1.trans hf2)
          | exit j => simp only at h; cases h; exact hq ι1 a1 w1 ht1 hs1 hf1
          | ret => simp only at h; cases h; exact hq ι1 a1 w1 ht1 hs1 hf1
    exact wp_loop_rounds fuel (key fuel h s ht hq)
  | exit id =>
    intro Q tm tm' H H' x ι w a h s ht hq
    simp only [cCode, acode] at h; cases h
    exact wp_exit (hq ι a w ht s (Fr.refl ..))
  | ret =>
    intro Q tm tm' H H' x ι w a h s ht hq
    simp only [cCode, acode] at h; cases h
    exact wp_ret (hq ι a w ht s (Fr.refl ..))
  | _ =>
    intro Q tm tm' H H' x ι w a h s ht hq
    simp [cCode, acode] at h

def resF (tmps : Array Value) (r : ResultVar) : Sem Value := match r with
  | .tmp t => pure (tmps.getD t undef)
  | .cell b t => do loadVar t (← asAddr (tmps.getD b undef))
theorem results_resF (fn : Func) (tmps : Array Value) : results fn tmps = (do let vs ← fn.results.mapM (resF tmps); pure (if h : vs.size = 1 then vs[0] else .tuple vs)) := by
  unfold results
  congr 1

theorem ares_ok {fn : Func} {tm : Tm} {H : Hp} {ι : Emb} {w : World} {a : Act} (s : Sim ι H w) (ht : TR ι N tm a) : ∀ (rv : List ResultVar) (rs : List ARes) (vs : List Value),
    rv.mapM (cRes P) = some rs → rs.mapM (ares tm H) = some vs →
    ∃ vs', (rv.mapM (resF a.tmps)).run P w = .ok vs' w ∧ VRs ι vs vs'
  | [], rs, vs, h1, h2 => by
    simp at h1; subst h1
    simp at h2; subst h2
    exact ⟨[], by simp, VRs.nil⟩
  | r :: rv, rs, vs, h1, h2 => by
    simp only [List.mapM_cons, Option.bind_eq_bind, Option.pure_def, Option.bind_eq_some_iff] at h1
    obtain ⟨x, hx, xs, hxs, h3⟩ := h1
    cases h3
    simp only [List.mapM_cons, Option.bind_eq_bind, Option.pure_def, Option.bind_eq_some_iff] at h2
    obtain ⟨v, hv, vs1, hvs, h3⟩ := h2
    cases h3
    obtain ⟨vs', hr, hvr⟩ := ares_ok (fn := fn) s ht rv xs vs1 hxs hvs
    cases r with
    | tmp t =>
      simp only [cRes] at hx; cases hx
      simp only [ares] at hv; cases hv
      exact ⟨a.tmps.getD t undef :: vs', by simp only [List.mapM_cons, Sem.run_bind, show (resF a.tmps (.tmp t)).run P w = .ok (a.tmps.getD t undef) w from rfl, Sem.run_pure, Result.andThen_ok, hr], VRs.cons (ht.val t) hvr⟩
    | cell b ty =>
      simp only [cRes] at hx
      cases hsz : szT P ty with
      | none => rw [hsz] at hx; cases hx
      | some q =>
        obtain ⟨n, agg⟩ := q
        rw [hsz] at hx; cases hx
        -- the load is that of an operation
        have hl : aop (.load n agg (.tmp b)) tm H = some (v, H) := by
          simp only [ares] at hv
          simp only [aop, ev]
          split at hv
          · rename_i ad e
            try rw [e]
            try simp only
            split at hv
            · rename_i hsp; rw [if_pos hsp, hv]; rfl
            · cases hv
          · cases hv
        obtain ⟨nx, ι', w', v', hrun, hnx, _, _, _⟩ := good_load (P := P) s ht hsz (x := .tmp b) rfl hl
        -- it changes nothing: run it again by its own text
        simp only [ares] at hv
        split at hv
        · rename_i ad e
          have hx := ht.val b
          rw [e] at hx
          obtain ⟨bl, off, L, rfl, hva, hL⟩ := hx.ptr_inv
          split at hv
          · obtain ⟨i, hi, hin, hagg, h1⟩ := szT_some hsz
            cases hll : H.load ⟨bl, off, none⟩ n with
            | none => rw [hll] at hv; cases hv
            | some cs =>
              rw [hll] at hv
              simp only [Option.bind_some] at hv
              obtain ⟨cs', hrr, hlen, hcell⟩ := s.load hll hL
              obtain ⟨v2, hm', hvv⟩ := VR.of_mkv hrr hv
              refine ⟨v2 :: vs', ?_, VRs.cons hvv hvr⟩
              have hrun2 := run_loadCells_list (P := P) w (L.base.add off) cs' hcell
              rw [hlen] at hrun2
              have hlv : (loadVar ty (L.base.add off)).run P w = .ok v2 w := by
                unfold loadVar
                rw [Sem.run_bind, hagg, Result.andThen_ok]
                cases agg with
                | true =>
                  simp only [mkv, if_true, Option.some.injEq] at hm'
                  subst hm'
                  simp [sizeOf, typeInfo, hi, hin, hrun2]
                | false =>
                  have hn := h1 rfl
                  simp only [mkv, Bool.false_eq_true, if_false] at hm' ⊢
                  rw [hn] at hlen
                  match cs', hlen, hm', hcell with
                  | [u], _, hm', hcell =>
                    simp at hm'
                    subst hm'
                    have := hcell 0 u rfl
                    rw [add_add, Nat.add_zero] at this
                    simp [this]
              have hrf : (resF a.tmps (.cell b ty)).run P w = .ok v2 w := by
                simp only [resF, hva, asAddr, Sem.run_bind, Sem.run_pure, Result.andThen_ok, hlv]
              simp only [List.mapM_cons, Sem.run_bind, hrf, Sem.run_pure, Result.andThen_ok, hr]
          · cases hv
        · cases hv

theorem aresults_ok {fn : Func} {tm : Tm} {H : Hp} {ι : Emb} {w : World} {a : Act} (s : Sim ι H w) (ht : TR ι N tm a) {rs : List ARes} {v : Value}
    (h1 : fn.results.toList.mapM (cRes P) = some rs) (h2 : aresults rs tm H = some v) : ∃ v', (results fn a.tmps).run P w = .ok v' w ∧ VR ι v v' := by
  unfold aresults at h2
  cases hm : rs.mapM (ares tm H) with
  | none => rw [hm] at h2; cases h2
  | some vs =>
    rw [hm] at h2
    obtain ⟨vs', hr, hvr⟩ := ares_ok (fn := fn) s ht _ _ _ h1 hm
    have hrun : (fn.results.mapM (resF a.tmps)).run P w = .ok vs'.toArray w := by
      have : fn.results = fn.results.toList.toArray := by simp
      rw [this, List.mapM_toArray, Sem.run_map, hr]; rfl
    rw [results_resF, Sem.run_bind]
    refine ⟨if h : vs'.toArray.size = 1 then vs'.toArray[0] else .tuple vs'.toArray, ?_, ?_⟩
    · rw [hrun]; rfl
    · match vs, h2 with
      | [], h2 =>
        cases h2
        obtain rfl := hvr.nil_inv
        exact VR.of_tup VRs.nil
      | [u], h2 =>
        cases h2
        obtain ⟨u', r, rfl, h3, h4⟩ := hvr.cons_inv
        obtain rfl := h4.nil_inv
        simpa using h3
      | u :: u2 :: r, h2 =>
        cases h2
        have hl := hvr.1
        rw [dif_neg (by rw [List.size_toArray, ← hl]; simp)]
        exact VR.of_tup hvr

theorem callF_ok (hm : P.follows .mixedOrders = true) {T : FuncId → Option AFunc} (hT : ∀ f F, T f = some F → ∃ fn, P.funcs[f]? = some fn ∧ cFunc P fn = some F) : ∀ n, CallOk P (callF T n)
  | 0 => fun f args H r H' h => by simp [callF] at h
  | n + 1 => fun f args H r H' h => by
    have ih := callF_ok hm hT n
    simp only [callF] at h
    cases hF : T f with
    | none => rw [hF] at h; cases h
    | some F =>
      rw [hF] at h
      obtain ⟨fn, hfn, hcf⟩ := hT f F hF
      unfold cFunc at hcf
      cases hb : fn.body with
      | none => rw [hb] at hcf; simp at hcf
      | some c =>
        cases hrs : fn.results.toList.mapM (cRes P) with
        | none => rw [hb, hrs] at hcf; simp at hcf
        | some rs =>
          rw [hb, hrs] at hcf
          simp only at hcf
          split at hcf
          · cases hcf
          · rename_i hname
            cases hcf
            refine ⟨⟨fn, hfn, by simpa using hname, by simp [hb]⟩, fun ι w vargs s hv => ?_⟩
            simp only at h
            refine calls_of_wp hfn hb ?_
            have ht : TR ι fn.ntmps (initTm args) { tmps := vargs ++ Array.replicate (fn.ntmps - vargs.size) undef, defers := [] } := by
              refine ⟨by simp; omega, rfl, fun t => ?_⟩
              unfold initTm
              rw [Array.getD_eq_getD_getElem?, List.getD_eq_getElem?_getD]
              by_cases hlt : t < args.length
              · have hlt' : t < vargs.size := by have := hv.1; simp at this; omega
                obtain ⟨v', h1, h2⟩ := hv.get (j := t) (v := args[t]) (by simp [hlt])
                rw [Array.getElem?_append_left hlt']
                have h1' : vargs[t]? = some v' := by simpa using h1
                rw [h1']
                simpa [hlt] using h2
              · have hge : vargs.size ≤ t := by have := hv.1; simp at this; omega
                rw [List.getElem?_eq_none (by omega), Array.getElem?_append_right hge]
                have : ((Array.replicate (fn.ntmps - vargs.size) undef)[t - vargs.size]?).getD undef = undef := by
                  rw [Array.getElem?_replicate]; split <;> rfl
                rw [this]
                exact undef_vr ι
            cases hr : acode (callF T n) n (cCode P fn.ntmps c) (initTm args, H) with
            | none => rw [hr] at h; cases h
            | some p =>
              obtain ⟨x, tm1, H1⟩ := p
              rw [hr] at h
              refine code_ok hm ih (callF_keeps T n) n c hr s ht fun ι' a' w' ht' hs' hf' => ?_
              cases x with
              | exit id => simp at h
              | normal =>
                simp only at h
                cases ha : aresults rs tm1 H1 with
                | none => rw [ha] at h; cases h
                | some v =>
                  rw [ha] at h; cases h
                  obtain ⟨v', hrv, hvv⟩ := aresults_ok (fn := fn) hs' ht' hrs ha
                  exact ⟨ht'.defers, v', hrv, ι', v', rfl, hvv, hs', hf'⟩
              | ret =>
                simp only at h
                cases ha : aresults rs tm1 H1 with
                | none => rw [ha] at h; cases h
                | some v =>
                  rw [ha] at h; cases h
                  obtain ⟨v', hrv, hvv⟩ := aresults_ok (fn := fn) hs' ht' hrs ha
                  exact ⟨ht'.defers, v', hrv, ι', v', rfl, hvv, hs', hf'⟩

end
end Go.Ab

/- Reasoning about the abstract machine: runs of functions and of code. Own work. -/
namespace Go.Ab
open Go

class Has (T : FuncId → Option AFunc) (i : FuncId) (F : outParam AFunc) : Prop where
  eq : T i = some F

/-- With enough fuel the call comes to r and the heap to H'. -/
def Runs (T : FuncId → Option AFunc) (f : FuncId) (args : List Value) (H : Hp) (r : Value) (H' : Hp) : Prop :=
  ∃ n0, ∀ n, n0 ≤ n → callF T n f args H = some (r, H')
/-- With enough fuel the code comes to x and to the state s'. -/
def CR (T : FuncId → Option AFunc) (c : ACode) (s : St) (x : AX) (s' : St) : Prop :=
  ∃ n0, ∀ n, n0 ≤ n → acode (callF T n) n c s = some (x, s')
/-- The rounds of a loop. -/
def LR (T : FuncId → Option AFunc) (c : ACode) (s : St) (x : AX) (s' : St) : Prop :=
  ∃ n0, ∀ n m, n0 ≤ n → n0 ≤ m → iter (acode (callF T n) n c) m s = some (x, s')
/-- Operations in the order of the text. -/
def RR (T : FuncId → Option AFunc) (ops : List DOp) (s s' : St) : Prop :=
  ∃ n0, ∀ n, n0 ≤ n → aregion (callF T n) ops s = some s'

section
variable {T : FuncId → Option AFunc} {s s1 s2 s' : St} {x : AX}

theorem Runs.mk {f : FuncId} {F : AFunc} [h : Has T f F] {args : List Value} {H H' : Hp} {r : Value} {x : AX} {tm : Tm} (hc : CR T F.body (initTm args, H) x (tm, H')) (hx : x = .normal ∨ x = .ret)
    (hr : aresults F.results tm H' = some r) : Runs T f args H r H' := by
  obtain ⟨n0, hn⟩ := hc
  refine ⟨n0 + 1, fun n hle => ?_⟩
  obtain ⟨m, rfl⟩ : ∃ m, n = m + 1 := ⟨n - 1, by omega⟩
  have := hn m (by omega)
  simp only [callF, h.eq, this]
  rcases hx with rfl | rfl <;> simp [hr]

theorem CR.seq {a b : ACode} (h1 : CR T a s .normal s1) (h2 : CR T b s1 x s') : CR T (.seq a b) s x s' := by
  obtain ⟨n1, h1⟩ := h1
  obtain ⟨n2, h2⟩ := h2
  exact ⟨max n1 n2, fun n hn => by simp only [acode, h1 n (by omega)]; exact h2 n (by omega)⟩
theorem CR.seq_out {a b : ACode} (h1 : CR T a s x s') (hx : x ≠ .normal) : CR T (.seq a b) s x s' := by
  obtain ⟨n1, h1⟩ := h1
  refine ⟨n1, fun n hn => ?_⟩
  simp only [acode, h1 n hn]
  cases x <;> first | rfl | exact absurd rfl hx
theorem CR.cond {c : Operand} {a b : ACode} {t : Bool} (hc : ev s.1 c = .bool t) (h : CR T (if t then a else b) s x s') : CR T (.cond c a b) s x s' := by
  obtain ⟨n1, h1⟩ := h
  refine ⟨n1, fun n hn => ?_⟩
  have := h1 n hn
  simp only [acode, hc]
  cases t <;> exact this
theorem CR.block {id : Nat} {c : ACode} (h : CR T c s .normal s') : CR T (.block id c) s .normal s' := by
  obtain ⟨n1, h1⟩ := h
  exact ⟨n1, fun n hn => by simp only [acode, h1 n hn]⟩
theorem CR.block_exit {id : Nat} {c : ACode} (h : CR T c s (.exit id) s') : CR T (.block id c) s .normal s' := by
  obtain ⟨n1, h1⟩ := h
  exact ⟨n1, fun n hn => by simp only [acode, h1 n hn, if_true]⟩
theorem CR.block_out {id j : Nat} {c : ACode} (h : CR T c s (.exit j) s') (hj : j ≠ id) : CR T (.block id c) s (.exit j) s' := by
  obtain ⟨n1, h1⟩ := h
  exact ⟨n1, fun n hn => by simp only [acode, h1 n hn, if_neg hj]⟩
theorem CR.block_ret {id : Nat} {c : ACode} (h : CR T c s .ret s') : CR T (.block id c) s .ret s' := by
  obtain ⟨n1, h1⟩ := h
  exact ⟨n1, fun n hn => by simp only [acode, h1 n hn]⟩
theorem CR.loop {c : ACode} (h : LR T c s x s') : CR T (.loop c) s x s' := by
  obtain ⟨n1, h1⟩ := h
  exact ⟨n1, fun n hn => by simp only [acode]; exact h1 n n hn hn⟩
theorem LR.step {c : ACode} (h1 : CR T c s .normal s1) (h2 : LR T c s1 x s') : LR T c s x s' := by
  obtain ⟨n1, h1⟩ := h1
  obtain ⟨n2, h2⟩ := h2
  refine ⟨max n1 n2 + 1, fun n m hn hm => ?_⟩
  obtain ⟨k, rfl⟩ : ∃ k, m = k + 1 := ⟨m - 1, by omega⟩
  simp only [iter, h1 n (by omega)]
  exact h2 n k (by omega) (by omega)
theorem LR.out {c : ACode} (h1 : CR T c s x s') (hx : x ≠ .normal) : LR T c s x s' := by
  obtain ⟨n1, h1⟩ := h1
  refine ⟨n1 + 1, fun n m hn hm => ?_⟩
  obtain ⟨k, rfl⟩ : ∃ k, m = k + 1 := ⟨m - 1, by omega⟩
  simp only [iter, h1 n (by omega)]
  cases x <;> first | rfl | exact absurd rfl hx
theorem CR.skip : CR T .skip s .normal s := ⟨0, fun n _ => rfl⟩
theorem CR.mapr {m : MapR} {tm tm' : Tm} {H H' : Hp} (h : amapr m tm H = some (tm', H')) : CR T (.mapr m) (tm, H) .normal (tm', H') := ⟨0, fun n _ => by simp only [acode, h]; rfl⟩
theorem CR.exit {id : Nat} : CR T (.exit id) s (.exit id) s := ⟨0, fun n _ => rfl⟩
theorem CR.ret : CR T .ret s .ret s := ⟨0, fun n _ => rfl⟩
theorem CR.region {ops : List DOp} (h : RR T ops s s') : CR T (.region ops) s .normal s' := by
  obtain ⟨n1, h1⟩ := h
  exact ⟨n1, fun n hn => by simp only [acode, h1 n hn]; rfl⟩
/-- A region without calls: it is computed. -/
theorem CR.calm {ops : List DOp} (h : ∀ call, aregion call ops s = some s') : CR T (.region ops) s .normal s' := CR.region ⟨0, fun n _ => h _⟩
theorem CR.drawn {ops : List DOp} {pairs : List (Nat × Nat)} (h : ∃ n0, ∀ n, n0 ≤ n → adraw (callF T n) ops pairs s = some s') : CR T (.draw ops pairs) s .normal s' := by
  obtain ⟨n1, h1⟩ := h
  exact ⟨n1, fun n hn => by simp only [acode, h1 n hn]; rfl⟩
theorem RR.nil : RR T [] s s := ⟨0, fun n _ => rfl⟩
theorem RR.op {o : AOp} {dst : Option Nat} {sl : List Nat} {ops : List DOp} {tm : Tm} {H H1 : Hp} {v : Value} (ho : aop o tm H = some (v, H1)) (h : RR T ops (put tm dst v, H1) s') : RR T (⟨dst, o, none, sl⟩ :: ops) (tm, H) s' := by
  obtain ⟨n1, h1⟩ := h
  refine ⟨n1, fun n hn => ?_⟩
  have ha : arun (callF T n) o tm H = some (v, H1) := by
    cases o <;> first | exact ho | (simp [aop] at ho; done)
  simp only [aregion, want, if_true, ha]
  exact h1 n hn
theorem RR.call {f : FuncId} {xs : List Operand} {dst : Option Nat} {sl : List Nat} {ops : List DOp} {tm : Tm} {H H1 : Hp} {v : Value} (hc : Runs T f (xs.map (ev tm)) H v H1) (h : RR T ops (put tm dst v, H1) s') :
    RR T (⟨dst, .call f xs, none, sl⟩ :: ops) (tm, H) s' := by
  obtain ⟨n1, h1⟩ := h
  obtain ⟨n2, h2⟩ := hc
  refine ⟨max n1 n2, fun n hn => ?_⟩
  simp only [aregion, want, if_true, arun, h2 n (by omega)]
  exact h1 n (by omega)
theorem RR.callv {x : Operand} {f : FuncId} {caps : Array Value} {first : Array Value} {xs : List Operand} {dst : Option Nat} {sl : List Nat} {ops : List DOp} {tm : Tm} {H H1 : Hp} {v : Value} (hx : ev tm x = .func (.func f) first caps)
    (hc : Runs T f (xs.map (ev tm) ++ caps.toList) H v H1) (h : RR T ops (put tm dst v, H1) s') : RR T (⟨dst, .callv x xs, none, sl⟩ :: ops) (tm, H) s' := by
  obtain ⟨n1, h1⟩ := h
  obtain ⟨n2, h2⟩ := hc
  refine ⟨max n1 n2, fun n hn => ?_⟩
  simp only [aregion, want, if_true, arun, hx, h2 n (by omega)]
  exact h1 n (by omega)
end

/-- The model follows a run. -/
theorem Runs.calls {P : Program} (hm : P.follows .mixedOrders = true) {T : FuncId → Option AFunc} (hT : ∀ f F, T f = some F → ∃ fn, P.funcs[f]? = some fn ∧ cFunc P fn = some F) {f : FuncId} {args : List Value} {H H' : Hp} {r : Value}
    (h : Runs T f args H r H') {ι : Emb} {w : World} {vargs : Array Value} (s : Sim ι H w) (hv : VRs ι args vargs.toList) :
    Calls P f vargs w (fun e w' => ∃ ι' v, e = .returned v ∧ VR ι' r v ∧ Sim ι' H' w' ∧ Fr ι H w ι' H' w') := by
  obtain ⟨n, hn⟩ := h
  exact (callF_ok hm hT n f args H r H' (hn n (Nat.le_refl _))).2 ι w vargs s hv

end Go.Ab
