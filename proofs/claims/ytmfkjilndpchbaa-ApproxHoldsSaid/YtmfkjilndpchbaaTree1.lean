import Derived.Test.YtmfkjilndpchbaaTree0
namespace Go.Proofs.Ytmfkjilndpchbaa.Gr
open Go Go.Ab Go.Pu
variable {R : List Ru}
theorem mktree_ok {g:Ty.E5}(hv:Valid g):∀(φ:Nat) (y:Sy) (s:Ty.J5) (left deep:Int),0≤left→left≤60→ -1≤deep→deep≤12→deep+2≤φ→
 Ok (P.D2 φ g y s left deep) fun r=>r.2.2.2=true→0≤r.2.1∧∃w sz,Tr g.Rules (deep+1).toNat sz [r.2.2.1] [y] w∧(sz:Int)+r.2.1≤left:=by
 intro φ
 induction φ with
 | zero=>intro y s left deep _ _ _ _ h;omega
 | succ φ ih=>
   intro y s left deep l0 l1 d0 d1 hφ
   rw [P.D2,aO]
   refine .ite (fun _=>.some fun h=>by cases h) fun hneg=>?_
   have hneg':0≤left-1∧0≤deep:=by simp at hneg;omega
   cases hyt:y.Term with
   | true=>
     rw [if_pos rfl]
     refine .some fun _=>⟨hneg'.1,[y.N],1,?_,by simp only;omega⟩
     have:=Tr.leaf (R:=g.Rules) (n:=y.N) (Tr.nil (d:=(deep+1).toNat))
     obtain⟨t,N⟩:=y
     simp only at hyt;subst hyt
     exact this
   | false=>
     rw [if_neg (by simp)]
     refine Ok.bind (aN (fun i (m:List Int)=>m.length≤i∧∀x∈m,∃(k:Nat) (r:Ru),x=k∧g.Rules[k]? =some r∧r.Left=y.N) ⟨by simp,by simp⟩ ?_ fun s h=>h) ?_
     ·intro i r m hr ⟨m1,m2⟩
      have hi:=(List.getElem?_eq_some_iff.1 hr).1
      have:=hv.len
      unfold P.D2.b0
      refine Ok.bind (Q:=fun(m':List Int)=>m'.length≤i+1∧∀x∈m',∃(k:Nat) (r:Ru),x=k∧g.Rules[k]? =some r∧r.Left=y.N) (.ite (fun e=>?_) fun _=>.some ⟨by omega,m2⟩) fun s h=>.some h
      rw [bg (by simp;omega),Option.bind_some]
      refine .some ⟨by simp;omega,fun x hx=>?_⟩
      rcases List.mem_append.1 hx with hx|hx
      ·exact m2 x hx
      ·cases List.mem_singleton.1 hx;exact⟨i,r,rfl,hr,e⟩
     ·intro m ⟨m1,m2⟩
      have:=hv.len
      refine .ite (fun _=>.some fun h=>by cases h) fun hne=>?_
      refine(cO (by omega) (by omega)).bind fun x3 ⟨a3,b3⟩=>?_
      rw [aJ a3 b3,Option.bind_some]
      obtain⟨k,r,e1,hr,e2⟩:=m2 _ (dL a3 b3)
      rw [e1,ix_nat,hr,Option.bind_some]
      have hm:=List.mem_of_getElem? hr
      refine Ok.bind (Q:=fun | .out t=>0≤t.2.1∧∃w sz,Tr g.Rules deep.toNat sz t.2.2 r.Right w∧(sz:Int)+t.2.1≤left-1 | .rt q=>q.2.2.2=false)
       (co (fun i t=>0≤t.2.1∧∃w sz,Tr g.Rules deep.toNat sz t.2.2 (r.Right.take i) w∧(sz:Int)+t.2.1≤left-1) ⟨hneg'.1,[],0,by rw [List.take_zero];exact Tr.nil,by simp⟩ ?_ ?_) ?_
      ·intro i x t hx ⟨t0,w,sz,tr,tl⟩
       unfold P.D2.b1
       rw [aO]
       refine(ih x _ t.2.1 (deep-1) t0 (by omega) (by omega) (by omega) (by omega)).bind fun q hq=>?_
       refine .ite (fun _=>.some rfl) fun h=>?_
       obtain⟨q0,w',sz',tr',tl'⟩:=hq (by simpa using h)
       have hlen:t.2.2.length≤1000:=by
        have h1:=tr.trees
        have h2:=hv.rgt r hm
        rw [List.length_take] at h1
        omega
       rw [bg (by simp;omega),Option.bind_some]
       refine .some ⟨q0,w++w',sz+sz',?_,by simp only;omega⟩
       rw [List.take_add_one,hx,Option.toList_some]
       rw [show deep-1+1=deep by omega] at tr'
       exact tr.app tr'
      ·intro t ht
       rw [List.take_length] at ht;exact ht
      ·rintro(t|q) hq
       ·obtain⟨t0,w,sz,tr,tl⟩:=hq
        refine .some fun _=>⟨t0,w,sz+1,?_,by simp only;omega⟩
        have h3:=Tr.node hr tr .nil
        rw [e2] at h3
        obtain⟨t',N⟩:=y
        simp only at hyt;subst hyt
        rw [show(deep+1).toNat=deep.toNat+1 by omega]
        simpa using h3
       ·exact .some fun h=>by simp only at hq;rw [hq] at h;cases h
end Go.Proofs.Ytmfkjilndpchbaa.Gr
