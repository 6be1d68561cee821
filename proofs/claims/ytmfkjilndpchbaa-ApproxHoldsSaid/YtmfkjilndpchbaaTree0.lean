import Derived.Test.YtmfkjilndpchbaaGr2
namespace Go.Proofs.Ytmfkjilndpchbaa.Gr
open Go Go.Ab Go.Pu
inductive Tr (R:List Ru):Nat→Nat→List Ty.G3→List Sy→List Int→Prop where
 | nil {d:Nat}:Tr R d 0 [] [] []
 | leaf {d s:Nat} {n:Int} {ts:List Ty.G3} {l:List Sy} {w:List Int}:Tr R d s ts l w→Tr R d (s+1) (⟨-1,n,[]⟩::ts) (⟨true,n⟩::l) (n::w)
 | node {d s1 s2 k:Nat} {r:Ru} {kids ts:List Ty.G3} {l:List Sy} {v w:List Int}:R[k]? =some r→Tr R d s1 kids r.Right v→Tr R (d+1) s2 ts l w→Tr R (d+1) (s1+1+s2) (⟨(k:Int),0,kids⟩::ts) (⟨false,r.Left⟩::l) (v++w)
variable {R : List Ru}
theorem Tr.app {d s s':Nat}{ts ts':List Ty.G3}{l l':List Sy}{w w':List Int}(h:Tr R d s ts l w)(k:Tr R d s' ts' l' w'):Tr R d (s+s') (ts++ts') (l++l') (w++w'):=by
 induction h with
 | nil=>simpa using k
 | leaf _ ih=>rw [show ∀a b:Nat,a+1+b=a+b+1 by omega];exact .leaf (ih k)
 | node a b _ _ ih=>rw [List.append_assoc,show ∀a b c:Nat,a+1+b+c=a+1+(b+c) by omega];exact .node a b (ih k)
theorem Tr.words {d s:Nat}{ts:List Ty.G3}{l:List Sy}{w:List Int}(h:Tr R d s ts l w):w.length≤s:=by
 induction h with
 | nil=>simp
 | leaf _ ih=>simp;omega
 | node _ _ _ ih1 ih2=>simp;omega
theorem Tr.trees {d s:Nat}{ts:List Ty.G3}{l:List Sy}{w:List Int}(h:Tr R d s ts l w):ts.length=l.length:=by
 induction h with
 | nil=>rfl
 | leaf _ ih=>simp [ih]
 | node _ _ _ _ ih=>simp [ih]
theorem Tr.word_l {d s:Nat}{ts:List Ty.G3}{l:List Sy}{w:List Int}(h:Tr R d s ts l w):
 ∀(φ:Nat) (i:Int) (out:List Int),d<φ→out.length+w.length≤1000000→Pu.forP (P.J2.b0 (P.J2 φ)) i ts out=some (out++w):=by
 induction h with
 | nil=>intro φ i out _ _;simp [Pu.forP]
 | @leaf d s n ts l w _ ih=>
   intro φ i out hφ hl
   obtain⟨φ,rfl⟩:∃φ',φ=φ'+1:=⟨φ-1,by omega⟩
   simp only [List.length_cons] at hl
   have e:P.J2 (φ+1) out ⟨-1,n,[]⟩=some (out++ [n]):=by
    simp only [P.J2,P.K7,Option.bind_some,decide_true,if_true]
    rw [bg (by simp;omega)];rfl
   unfold Pu.forP
   rw [P.J2.b0,e,Option.bind_some,Option.bind_some,ih (φ+1) _ _ hφ (by simp;omega)]
   simp [List.append_assoc]
 | @node d s1 s2 k r kids ts l v w _ _ _ ih1 ih2=>
   intro φ i out hφ hl
   obtain⟨φ,rfl⟩:∃φ',φ=φ'+1:=⟨φ-1,by omega⟩
   simp only [List.length_append] at hl
   have e:P.J2 (φ+1) out ⟨(k:Int),0,kids⟩=some (out++v):=by
    simp only [P.J2,P.K7,Option.bind_some]
    rw [if_neg (by simp),ih1 φ _ _ (by omega) (by omega)];rfl
   unfold Pu.forP
   rw [P.J2.b0,e,Option.bind_some,Option.bind_some,ih2 (φ+1) _ _ hφ (by simp;omega)]
   simp
theorem Tr.word {d s:Nat}{t:Ty.G3}{y:Sy}{w:List Int}(h:Tr R d s [t] [y] w){φ:Nat}(hφ:d<φ)(hs:s≤1000000):P.K6 φ t=some w:=by
 have h1:=h.words
 have h2:=h.word_l φ 0 [] hφ (by simp;omega)
 simp only [Pu.forP,P.J2.b0,Option.bind_assoc,Option.bind_some] at h2
 unfold P.K6
 simpa using h2
end Go.Proofs.Ytmfkjilndpchbaa.Gr
