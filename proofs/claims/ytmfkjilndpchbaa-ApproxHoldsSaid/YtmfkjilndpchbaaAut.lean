import Derived.Test.YtmfkjilndpchbaaAut0
namespace Go.Proofs.Ytmfkjilndpchbaa.Df
open Go Go.Ab Go.Pu
theorem run_eq {d:Ty.K5}{n m:Int}(h:VD d n m){w:List Int}(hl:w.length≤4000)(hw:Wd w m):P.J1 d w=some (tell d w,0):=by
 have hn:=h.dim.1
 have:=h.n1;have:=h.m1
 refine Ok.eq ?_
 unfold P.J1
 rw [check_ok h,Option.bind_some,if_neg (by omega),if_neg (by omega)]
 refine Ok.bind (co (fun _ _=>True) (Q:=fun r=>r= .out ()) trivial (fun i x s hx _=>?_) fun _ _=>rfl) fun r hr=>?_
 ·have hi:=(List.getElem?_eq_some_iff.1 hx).1
  have hx2:=hw i (by omega) (by omega)
  rw [bp hx] at hx2
  have h0:=h.dim.2 0 (by omega) (by omega)
  unfold P.J1.b0
  refine Ok.bind (Q:=fun b=>b=false) ?_ fun b hb=>?_
  ·rw [if_neg (by simp only [Bool.or_eq_true,decide_eq_true_eq];omega),aJ (by omega) (by omega),Option.bind_some]
   exact .some (by simp;omega)
  ·subst hb;exact .some trivial
 subst hr
 show Ok (Option.bind _ _) _
 refine Ok.bind (co (fun i (s:Int)=>0≤s∧s<n∧s=drun d d.Start (w.take i)) (Q:=fun r=>(∃s,r= .out s∧0≤s∧s<n∧s=drun d d.Start w)∨(r= .rt (-1,0)∧drun d d.Start w= -1)) ⟨h.s0,h.s1,rfl⟩ (fun i x s hx hs=>?_) fun s hs=>.inl ⟨s,rfl,by rwa [List.take_length] at hs⟩) fun r hr=>?_
 ·have hi:=(List.getElem?_eq_some_iff.1 hx).1
  have hx2:=hw i (by omega) (by omega)
  rw [bp hx] at hx2
  obtain⟨s0,s1,s2⟩:=hs
  have hd:=h.dim.2 s s0 s1
  have ht:=h.t1 s x s0 s1 hx2.1 hx2.2
  have hst:drun d d.Start (w.take (i+1))=el2 d.Next s x:=by
   rw [List.take_add_one,hx,Option.toList_some,fR,←s2]
   show dstep d s x=_
   unfold dstep;rw [if_neg (by omega)]
  unfold P.J1.b1
  rw [aJ s0 (by omega),Option.bind_some,aJ hx2.1 (by omega),Option.bind_some]
  refine .ite (fun hneg=>.some (.inr ⟨rfl,?_⟩)) fun hneg=>.some ⟨by show 0≤el2 d.Next s x;unfold el2;omega,ht.2,hst.symm⟩
  have hm1:el2 d.Next s x= -1:=by have:el2 d.Next s x<0:=hneg;omega
  conv=>lhs;rw [←List.take_append_drop (i+1) w]
  rw [fR,hst,hm1,eR]
 ·rcases hr with⟨s,rfl,s0,s1,s2⟩|⟨rfl,h2⟩
  ·show Ok (Option.bind _ _) _
   rw [aJ s0 (by rw [h.acc];exact s1),Option.bind_some]
   refine .some ?_
   unfold tell told
   rw [←s2,if_neg (by omega)]
  ·refine .some ?_
   unfold tell told
   rw [h2];rfl
end Go.Proofs.Ytmfkjilndpchbaa.Df
