/- A tree that is left is a tree of the same symbol that fails, and none of the smaller ones does: the plain law of ShrinkTree. Own work. -/
import Derived.Test.YthgdobdhdfjhfaaShr2
import Derived.Test.YthgdobdhdfjhfaaPln
import Derived.Test.YthgdobdhdfjhfaaBel
namespace Go.Proofs.Ythgdobdhdfjhfaa.Gr
open Go Go.Ab Go.Pu
theorem first_ok : (P.shrink_Smaller 1000 gPlain ⟨1, 0, [⟨-1, 1, []⟩, ⟨0, 0, [⟨-1, 0, []⟩]⟩]⟩).map List.length = some 1 := by decide +kernel
theorem shrinkTree_plain (l m : List Int) (a : Int) : P.parlkeep5_ShrinkTree 1000 l m a = some true := by
  refine Ok.eq ?_
  unfold P.parlkeep5_ShrinkTree
  refine (grammar_ok l).bind fun g hg => ?_
  rw [plain_eq, Option.bind_some]
  obtain ⟨x, hx, hxl⟩ := Option.map_eq_some_iff.1 first_ok
  rw [hx, Option.bind_some, if_neg (by omega)]
  have hv := hg.toValid
  unfold P.parlmake_Tree
  refine Ok.bind (Q := fun r : Ty.api_Tree × Bool => r.2 = true → ∃ w sz, Tr g.Rules 13 sz [r.1] [⟨false, g.Start⟩] w ∧ sz ≤ 60) ((mktree_ok hv 1000 ⟨false, g.Start⟩ ⟨m⟩ 60 12 (by omega) (by omega) (by omega) (by omega) (by omega)).bind fun r hr => .some fun h => ?_) fun x4 h4 => ?_
  · obtain ⟨h0, w, sz, tr, hsz⟩ := hr h
    exact ⟨w, sz, tr, by omega⟩
  refine Ok.bind (Q := fun b => b = false → ∃ w sz, Tr g.Rules 13 sz [x4.1] [⟨false, g.Start⟩] w ∧ sz ≤ 60) ?_ fun b hb => ?_
  · cases h2 : x4.2 with
    | false => exact .some fun h => by cases h
    | true =>
      obtain ⟨w, sz, tr, hsz⟩ := h4 h2
      rw [if_neg (by simp), tr.size (by omega) (by omega), Option.bind_some]
      exact .some fun _ => ⟨w, sz, tr, hsz⟩
  refine .ite (fun _ => .some rfl) fun hb' => ?_
  obtain ⟨w, sz, tr, hsz⟩ := hb (by simpa using hb')
  have hy : SyOk g ⟨false, g.Start⟩ := fun h => by cases h
  refine (pbelow_ok (by omega) (by omega)).bind fun a' ha => ?_
  refine (stree_ok hv ha tr hy (by omega) hsz (φ := 1000) (by omega)).bind fun x7 h7 => ?_
  rcases h7 with ⟨hf, h2⟩ | ⟨hf, h2, s', w', hs', tr', hf', lst, hl1, hl2⟩
  · rw [hf, Option.bind_some, if_pos (by simp)]
    exact .some (by simp [h2])
  · rw [hf, Option.bind_some, if_neg (by simp)]
    refine Ok.bind (Q := fun b => b = false) ?_ fun b hb => ?_
    · rw [if_neg (by simp [h2]), hf', Option.bind_some, if_neg (by simp), tcheck_ok hv tr' (by omega) (by omega) hy, Option.bind_some, if_neg (by simp)]
      rcases tr'.one with ⟨n, -, e, -⟩ | ⟨d', k, s1, r, kids, -, hr, e1, e2, -, -⟩
      · cases e
      · have hst : r.Left = g.Start := (congrArg Ty.api_Sym.N e2).symm
        rw [e1]
        dsimp only
        rw [ix_nat, hr, Option.bind_some, if_neg (by simp [hst]), ← e1, tr'.size (by omega) (by omega), Option.bind_some, tr.size (by omega) (by omega), Option.bind_some]
        exact .some (by simp; omega)
    · subst hb
      rw [if_neg (by simp), hl1, Option.bind_some]
      obtain ⟨lst2, hl3, -, hl4⟩ := smaller_ok hv 1000 13 s' _ _ w' tr' hy (by omega) (by omega) (by omega)
      rw [hl1] at hl3; cases hl3
      refine Ok.bind (forL_ok (fun _ _ => True) (Q := fun r => r = .out ()) trivial (fun i x c hx _ => ?_) fun _ _ => rfl) fun r hr => by subst hr; exact .some rfl
      have hm := List.mem_of_getElem? hx
      obtain ⟨s2, w2, k1, k2⟩ := hl4 x hm
      unfold P.parlkeep5_ShrinkTree.b0
      refine Ok.bind (Q := fun b => b = false) ?_ fun b hb => by subst hb; exact .some trivial
      rw [hl2 x hm, Option.bind_some, if_neg (by simp), k2.size (by omega) (by omega), Option.bind_some, tr'.size (by omega) (by omega), Option.bind_some, if_neg (by simp; omega), tcheck_ok hv k2 (by omega) (by omega) hy, Option.bind_some]
      exact .some rfl
end Go.Proofs.Ythgdobdhdfjhfaa.Gr
