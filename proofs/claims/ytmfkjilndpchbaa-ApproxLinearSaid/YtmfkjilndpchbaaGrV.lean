import Derived.Test.YtmfkjilndpchbaaP
import Derived.Test.YtmfkjilndpchbaaGr1
namespace Go.Proofs.Ytmfkjilndpchbaa.Gr
open Go Go.Ab Go.Pu
structure Valid (g:Ty.E8):Prop where
 t1:1≤g.Terms
 t2:g.Terms≤8
 n1:1≤g.Nons
 n2:g.Nons≤10
 s1:0≤g.Start
 s2:g.Start<g.Nons
 len:g.Rules.length≤32
 lft:∀r∈g.Rules,0≤r.Left∧r.Left<g.Nons
 rgt:∀r∈g.Rules,r.Right.length≤4
 sym:∀r∈g.Rules,∀s∈r.Right,0≤s.N∧(s.Term=true→s.N<g.Terms)∧(s.Term=false→s.N<g.Nons)
 dis:g.Rules.Pairwise (·≠·)
theorem jy (a b:Int):P.F1 a b=some (if a<b then -1 else if b<a then 1 else 0):=by
 simp only [P.F1,P.G8,Option.bind_some,ne_eq,not_true_eq_false,decide_false,Bool.false_eq_true,if_false]
 split
 ·rfl
 ·split<;>rfl
theorem order_ok (a b:Sy):Ok (P.J9 a b) fun c=>c=0↔a=b:=by
 obtain⟨t,n⟩:=a;obtain⟨u,m⟩:=b
 unfold P.J9
 cases t<;>cases u<;>simp [jy]
 ·refine .some ?_
  split
  ·simp;omega
  ·split<;>simp<;>omega
 ·exact .some (by simp)
 ·exact .some (by simp)
 ·refine .some ?_
  split
  ·simp;omega
  ·split<;>simp<;>omega
theorem comparef_ok (a b:List Sy):Ok (P.D6 a b) fun c=>c=0↔a=b:=by
 unfold P.D6
 refine Ok.bind (Q:=fun | .out _=>a.length≤b.length∧∀j,j<a.length→a[j]? =b[j]? | .rt c=>c≠0∧a≠b) (cG (fun i _=>i≤b.length∧∀j,j<i→a[j]? =b[j]?) ⟨by omega,fun j h=>by omega⟩ ?_ (fun _ h=>h)) ?_
 ·intro i x _ hx ⟨h1,h2⟩
  unfold P.D6.b0
  refine .ite (fun h=>.some ⟨by simp,fun e=>?_⟩) fun h=>?_
  ·subst e;have:=(List.getElem?_eq_some_iff.1 hx).1;omega
  ·have e:b[i]? =some (b[i]'(by omega)):=List.getElem?_eq_getElem _
   rw [ix_nat,e,Option.bind_some]
   refine(order_ok x _).bind fun c hc=>.ite (fun h=>.some ⟨h,fun e2=>?_⟩) fun hcz=>.some ⟨by omega,fun j hj=>?_⟩
   ·rw [e2,e] at hx;cases hx;exact h (hc.2 rfl)
   ·rcases Nat.lt_succ_iff_lt_or_eq.1 hj with q|rfl
    ·exact h2 j q
    ·rw [hx,e,hc.1 (Decidable.not_not.1 hcz)]
 ·rintro(s|c) h
  ·obtain⟨h1,h2⟩:=h
   refine .ite (fun h=>.some ?_) fun h=>.some ?_
   ·simp only [show ¬((-1:Int)=0) by omega,false_iff]
    intro e;subst e;omega
   ·simp only [true_iff]
    refine List.ext_getElem? fun i=>?_
    rcases Nat.lt_or_ge i a.length with e|e
    ·exact h2 i e
    ·rw [List.getElem?_eq_none e,List.getElem?_eq_none (by omega)]
  ·exact .some ⟨fun e=>absurd e h.1,fun e=>absurd e h.2⟩
theorem compare_ok (a b:Ru):Ok (P.J8 a b) fun c=>c=0↔a=b:=by
 obtain⟨x,l⟩:=a;obtain⟨y,m⟩:=b
 unfold P.J8
 rw [jy,Option.bind_some]
 refine .ite (fun h=>.some ?_) fun h=>(comparef_ok l m).bind fun c hc=>.some ?_
 ·simp only [Ty.E2.mk.injEq]
  constructor
  ·intro e;exact absurd e h
  ·rintro⟨rfl,-⟩;simp at h
 ·have:x=y:=by
   simp only [ne_eq,Decidable.not_not] at h
   split at h
   ·omega
   ·split at h<;>omega
  subst this
  simp [hc]
theorem check_ok {g:Ty.E8}(h:Valid g):P.E1 g=some 0:=by
 refine Ok.eq ?_
 unfold P.E1
 have t1:=h.t1;have t2:=h.t2;have n1:=h.n1;have n2:=h.n2;have s1:=h.s1;have s2:=h.s2;have len:=h.len
 rw [if_neg (by simp;omega),if_neg (by omega)]
 refine Ok.bind (Q:=fun | .out _=>True | .rt _=>False) (cG (fun _ _=>True) trivial ?_ fun _ _=>trivial) ?_
 ·intro i r _ hr _
  have hm:=List.mem_of_getElem? hr
  unfold P.E1.b0
  have:=h.lft r hm;have:=h.rgt r hm
  rw [if_neg (by simp;omega),if_neg (by omega)]
  refine Ok.bind (Q:=fun | .out _=>True | .rt _=>False) (cG (fun _ _=>True) trivial ?_ fun _ _=>trivial) ?_
  ·intro j y _ hy _
   obtain⟨a,b,c⟩:=h.sym r hm y (List.mem_of_getElem? hy)
   unfold P.E1.b1
   rw [if_neg (by simp;omega),Option.bind_some]
   cases ht:y.Term with
   | true=>have:=b ht;simp [show ¬g.Terms≤y.N by omega];exact .some trivial
   | false=>have:=c ht;simp [show ¬g.Nons≤y.N by omega];exact .some trivial
  ·rintro(s|c) q
   ·simp only [Fin.cs]
    have hi:=(List.getElem?_eq_some_iff.1 hr).1
    rw [cZ (by omega) (by omega) (by omega),Option.bind_some]
    refine Ok.bind (Q:=fun | .out _=>True | .rt _=>False) (cG (fun _ _=>True) trivial ?_ fun _ _=>trivial) ?_
    ·intro k y _ hy _
     unfold P.E1.b2
     refine(compare_ok y r).bind fun c hc=>.ite (fun e=>?_) fun e=>.some trivial
     exfalso
     simp only [Int.toNat_zero,List.drop_zero,Int.toNat_natCast] at hy
     rw [List.getElem?_take] at hy
     split at hy
     ·rename_i hk
      have h1:=List.pairwise_iff_getElem.1 h.dis k i (by omega) hi hk
      obtain⟨_,e1⟩:=List.getElem?_eq_some_iff.1 hy
      obtain⟨_,e2⟩:=List.getElem?_eq_some_iff.1 hr
      rw [e1,e2] at h1
      exact h1 (hc.1 e)
     ·cases hy
    ·rintro(s|c) q
     ·exact .some trivial
     ·exact q.elim
   ·exact q.elim
 ·rintro(s|c) q
  ·exact .some rfl
  ·exact q.elim
end Go.Proofs.Ytmfkjilndpchbaa.Gr
