import Derived.Test.YtmfkjilndpchbaaP
import Derived.Test.YtmfkjilndpchbaaGrV
namespace Go.Proofs.Ytmfkjilndpchbaa.Gr
open Go Go.Ab Go.Pu
theorem fX {x n:Int}(h1:1≤n)(h2:n≤1000000):Ok (P.J4 x n) fun y=>0≤y∧y<n:=by
 have e:Pu.rem x n=some (x.tmod n):=by unfold Pu.rem;rw [if_neg (by omega)]
 have:=Int.tmod_lt_of_pos x (by omega:0<n)
 have h3: -n<x.tmod n:=by
  have:=Int.tmod_lt_of_pos (-x) (by omega:0<n)
  rw [Int.neg_tmod] at this;omega
 unfold P.J4
 rw [e,Option.bind_some]
 split
 ·rw [aO];exact .some (by omega)
 ·exact .some (by omega)
theorem cO {s:Ty.J5}{n:Int}(h1:1≤n)(h2:n≤1000000):Ok (P.C3 s n) fun r=>0≤r.2∧r.2<n:=by
 unfold P.C3
 refine .ite (fun _=>.some (by simp;omega)) fun h=>?_
 have e1:Pu.ix s.l 0=some (el s.l 0):=aJ (by omega) (by omega)
 have e2:Pu.sub s.l 1 s.l.length=some _:=db (by omega) (by omega) (by omega)
 rw [e1,Option.bind_some,e2,Option.bind_some]
 exact(fX h1 h2).bind fun _ h=>.some h
theorem has_ok {l:List Ru}{r:Ru}(hl:∀x∈l,x.Right.length≤1000):Ok (P.F3 l r) fun b=>(b=false→∀x∈l,x≠r)∧(b=true→l≠ []):=by
 unfold P.F3
 refine Ok.bind (Q:=fun | .out _=>∀x∈l,x≠r | .rt b=>b=true∧l≠ []) (co (fun i _=>∀j x,j<i→l[j]? =some x→x≠r) (fun j x h=>by omega) ?_ ?_) ?_
 ·intro i x _ hx hI
  have hI':x≠r→∀j y,j<i+1→l[j]? =some y→y≠r:=fun hn j y hj hy=>by
   rcases Nat.lt_succ_iff_lt_or_eq.1 hj with h|rfl
   ·exact hI j y h hy
   ·rw [hx] at hy;cases hy;exact hn
  unfold P.F3.b0
  refine .ite (fun h=>.some (hI' fun e=>?_)) fun h=>?_
  ·subst e;simp at h
  ·have hlen:x.Right.length=r.Right.length:=by simp at h;omega
   have:=hl x (List.mem_of_getElem? hx)
   rw [bJ (by omega),Option.bind_some]
   refine Ok.bind (Q:=fun s=>s=false→x.Right≠r.Right) (aN (fun _ s=>s=false→x.Right≠r.Right) (by simp) ?_ fun _ h=>h) ?_
   ·intro k z s hz hs
    obtain⟨rfl,hk⟩:=cg hz
    unfold P.F3.b1
    cases s with
    | false=>exact .some fun _=>hs rfl
    | true=>
      rw [if_pos rfl]
      have e1:Pu.ix x.Right (k:Int)=some _:=ix_nat.trans (eV (by omega))
      have e2:Pu.ix r.Right (k:Int)=some _:=ix_nat.trans (eV (by omega))
      rw [e1,Option.bind_some,e2,Option.bind_some]
      refine .some fun h e=>?_
      rw [e] at h;simp at h
   ·intro s hs
    refine .ite (fun h=>.some ⟨rfl,fun e=>by subst e;simp at hx⟩) fun h=>.some (hI' fun e=>hs (by simpa using h) (by rw [e]))
 ·intro _ h x hx
  obtain⟨j,hj,rfl⟩:=List.mem_iff_getElem.1 hx
  exact h j _ hj (List.getElem?_eq_getElem hj)
 ·rintro(s|b) h
  ·exact .some ⟨fun _=>h,fun e=>by cases e⟩
  ·exact .some ⟨fun e=>(by rw [h.1] at e;cases e),fun _=>h.2⟩
theorem grammar_ok (l:List Int):Ok (P.D4 l) Small:=by
 unfold P.D4
 refine(cO (by omega) (by omega)).bind fun x1 ⟨a1,b1⟩=>?_
 refine(cO (by omega) (by omega)).bind fun x2 ⟨a2,b2⟩=>?_
 rw [aO]
 refine(cO (by omega) (by omega)).bind fun x3 ⟨a3,b3⟩=>?_
 refine(cO (by omega) (by omega)).bind fun x4 ⟨a4,b4⟩=>?_
 rw [aO,bJ (by omega),Option.bind_some]
 let I:Nat→List Int×List Ru→Prop:=fun i s=>s.2.length≤i∧(0<i→s.2≠ [])∧(∀r∈s.2,0≤r.Left∧r.Left<1+x2.2)∧(∀r∈s.2,r.Right.length≤3)∧
  (∀r∈s.2,∀y∈r.Right,0≤y.N∧(y.Term=true→y.N<1+x1.2)∧(y.Term=false→y.N<1+x2.2))∧s.2.Pairwise (·≠·)
 refine Ok.bind (Q:=fun s=>I 8 s∧s.2≠ []) (aN I ⟨by simp,by simp,by simp,by simp,by simp,by simp⟩ ?_ ?_) ?_
 ·intro i z s hz ⟨i1,i0,i2,i3,i4,i5⟩
  obtain⟨rfl,hi⟩:=cg hz
  unfold P.D4.b0
  rw [aO]
  refine(cO (by omega) (by omega)).bind fun x7 ⟨a7,b7⟩=>?_
  refine(cO (by omega) (by omega)).bind fun x8 ⟨a8,b8⟩=>?_
  rw [bJ (by omega),Option.bind_some]
  let J:Nat→List Int×List Sy→Prop:=fun i s=>s.2.length=i∧∀y∈s.2,0≤y.N∧(y.Term=true→y.N<1+x1.2)∧(y.Term=false→y.N<1+x2.2)
  refine Ok.bind (Q:=fun s=>s.2.length≤3∧∀y∈s.2,0≤y.N∧(y.Term=true→y.N<1+x1.2)∧(y.Term=false→y.N<1+x2.2)) (aN J ⟨rfl,by simp⟩ ?_ ?_) ?_
  ·intro k z t hz ⟨j1,j2⟩
   obtain⟨rfl,hk⟩:=cg hz
   unfold P.D4.b1
   refine(cO (by omega) (by omega)).bind fun x11 _=>?_
   refine Ok.bind (Q:=fun s=>J (k+1) s) (.ite (fun _=>?_) fun _=>?_) fun s h=>.some h
   ·rw [aO]
    refine(cO (by omega) (by omega)).bind fun x12 ⟨a,b⟩=>?_
    rw [bg (by simp;omega),Option.bind_some]
    refine .some ⟨by simp [j1],fun y hy=>?_⟩
    rcases List.mem_append.1 hy with hy|hy
    ·exact j2 y hy
    ·cases List.mem_singleton.1 hy;exact⟨a,fun _=>b,fun h=>by cases h⟩
   ·rw [aO]
    refine(cO (by omega) (by omega)).bind fun x12 ⟨a,b⟩=>?_
    rw [bg (by simp;omega),Option.bind_some]
    refine .some ⟨by simp [j1],fun y hy=>?_⟩
    rcases List.mem_append.1 hy with hy|hy
    ·exact j2 y hy
    ·cases List.mem_singleton.1 hy;exact⟨a,(fun h=>by cases h),fun _=>b⟩
  ·intro t ⟨j1,j2⟩
   rw [bf] at j1
   exact⟨by omega,j2⟩
  ·rintro t ⟨j1,j2⟩
   refine(has_ok fun x hx=>Nat.le_trans (i3 x hx) (by omega)).bind fun b hb=>?_
   refine Ok.bind (Q:=fun s=>I (i+1) ([],s)) (.ite (fun h=>?_) fun h=>.some ⟨by simp only;omega,fun _=>hb.2 (by simpa using h),i2,i3,i4,i5⟩) fun s h=>.some h
   rw [bg (by simp;omega),Option.bind_some]
   refine .some ⟨by simp only [List.length_append,List.length_singleton];omega,by simp,fun r hr=>?_,fun r hr=>?_,fun r hr=>?_,?_⟩
   ·rcases List.mem_append.1 hr with hr|hr
    ·exact i2 r hr
    ·cases List.mem_singleton.1 hr;exact⟨a7,b7⟩
   ·rcases List.mem_append.1 hr with hr|hr
    ·exact i3 r hr
    ·cases List.mem_singleton.1 hr;exact j1
   ·rcases List.mem_append.1 hr with hr|hr
    ·exact i4 r hr
    ·cases List.mem_singleton.1 hr;exact j2
   ·rw [List.pairwise_append]
    refine⟨i5,List.pairwise_singleton _ _,fun a ha b' hb'=>?_⟩
    cases List.mem_singleton.1 hb'
    exact hb.1 (by simpa using h) a ha
 ·intro s ⟨i1,i0,i2,i3,i4,i5⟩
  rw [bf] at i1 i0
  exact⟨⟨by omega,fun _=>i0 (by omega),i2,i3,i4,i5⟩,i0 (by omega)⟩
 ·intro s ⟨⟨i1,_,i2,i3,i4,i5⟩,hne⟩
  rw [aO (n:=1+x1.2)]
  exact .some ⟨⟨by simp only;omega,by simp only;omega,by simp only;omega,by simp only;omega,a3,b3,by simp only;omega,i2,fun r hr=>Nat.le_trans (i3 r hr) (by omega),i4,i5⟩,by simp only;omega,by simp only;omega,i1,i3,List.length_pos_iff.2 hne⟩
end Go.Proofs.Ytmfkjilndpchbaa.Gr
