import Derived.Test.YtmfkjilndpchbaaApR
import Derived.Test.YtmfkjilndpchbaaTree1
namespace Go.Proofs.Ytmfkjilndpchbaa.Ap
open Go Go.Ab Go.Pu Go.Proofs.Ytmfkjilndpchbaa.Df
open Go.Proofs.Ytmfkjilndpchbaa.Gr (Sy Ru Valid gPlain)
theorem Lg.of_tr {R:List Ru}{d s:Nat}{ts:List Ty.G3}{l:List Sy}{w:List Int}(h:Gr.Tr R d s ts l w):Lg R l w:=by
 induction h with
 | nil=>exact .nil
 | leaf _ ih=>exact .term ih
 | node a _ _ ih1 ih2=>exact .non (List.mem_of_getElem? a) rfl ih1 ih2
end Go.Proofs.Ytmfkjilndpchbaa.Ap
namespace Go.Proofs.Ytmfkjilndpchbaa.Gr
open Go Go.Ab Go.Pu
theorem approxHolds_plain (l n:List Int):∃φ,P.F5 φ l n=some true:=by
 refine⟨100000000000,Ok.eq ?_⟩
 unfold P.F5
 refine(grammar_ok l).bind fun g hg=>?_
 have hv:=hg.toValid
 obtain⟨p,e1,e2⟩:=Ap.plain_of'
 rw [plain_eq,Option.bind_some,e1,Option.bind_some,e2]
 rw [if_neg (by simp)]
 refine(Ap.of_ok hv (Nat.le_refl _)).bind fun r hr=>?_
 refine Ok.bind (Q:=fun t=>t.2=true→∃w sz,Tr g.Rules 13 sz [t.1] [⟨false,g.Start⟩] w∧sz≤60) ?_ fun t ht=>?_
 ·unfold P.K3
  refine(mktree_ok hv 100000000000 ⟨false,g.Start⟩ ⟨n⟩ 60 12 (by omega) (by omega) (by omega) (by omega) (by omega)).bind fun r hr=>.some fun h=>?_
  obtain⟨h1,w,sz,h2,h3⟩:=hr h
  exact⟨w,sz,h2,by omega⟩
 refine Ok.bind (Q:=fun y=>y=true) (.ite (fun _=>.some rfl) fun h2=>?_) fun y hy=>.some hy
 rcases hr with h|⟨h0,k,vd,hc,-,-⟩
 ·exact absurd (by simp [h]) h2
 rw [h0,if_pos (by decide)]
 refine .ite (fun _=>.some rfl) fun htt=>?_
 obtain⟨w,sz,h3,h4⟩:=ht (by simpa using htt)
 rw [h3.word (by omega) (by omega),Option.bind_some]
 have hL:=Ap.Lg.of_tr h3
 have hs:=h3.words
 have hw:Df.Wd w g.Terms:=Df.Wd.mem.2 (hL.wd hv fun y hy=>by
  rw [List.mem_singleton] at hy;subst hy;exact⟨hv.s1,fun e=>by cases e⟩)
 rw [Ap.accepts_eq vd (by omega) hw,Option.bind_some]
 exact .some (decide_eq_true (hc w hw hL))
end Go.Proofs.Ytmfkjilndpchbaa.Gr
