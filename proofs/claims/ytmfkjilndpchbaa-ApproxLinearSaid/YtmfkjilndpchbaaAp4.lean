import Derived.Test.YtmfkjilndpchbaaAp3
namespace Go.Proofs.Ytmfkjilndpchbaa.Ap
open Go Go.Ab Go.Pu Go.Proofs.Ytmfkjilndpchbaa.Df
open Go.Proofs.Ytmfkjilndpchbaa.Gr (Sy Ru Valid)
def Rt (R:List Ru)(N:List Int):Prop:=∀r∈R,r.Left∈N→∀(i:Nat) s,r.Right[i]? =some s→s.Term=false→s.N∈N→i+1=r.Right.length
def Lf (R:List Ru)(N:List Int):Prop:=∀r∈R,r.Left∈N→∀(i:Nat) s,r.Right[i]? =some s→s.Term=false→s.N∈N→i=0
structure OfV (g:Ty.E8)(o:List Ty.B6)(rk:Int→Nat)(gd:Int→Prop):Prop where
 len:(o.length:Int)=g.Nons
 mem:∀a,0≤a→a<g.Nons→a∈(el o a).Nons
 rg:∀a,0≤a→a<g.Nons→∀b∈(el o a).Nons,0≤b∧b<g.Nons
 nl:∀a,0≤a→a<g.Nons→(el o a).Nons.length≤10
 kd:∀a,0≤a→a<g.Nons→((el o a).Kind=0∧Rt g.Rules (el o a).Nons)∨((el o a).Kind=1∧Lf g.Rules (el o a).Nons)∨(el o a).Kind=2
 rk:∀a,0≤a→a<g.Nons→∀r∈g.Rules,r.Left∈(el o a).Nons→∀s∈r.Right,s.Term=false→s.N∉(el o a).Nons→rk s.N<rk a
 gk:∀a,0≤a→a<g.Nons→gd a→(el o a).Kind≠2
 gn:∀a,0≤a→a<g.Nons→gd a→∀r∈g.Rules,r.Left∈(el o a).Nons→∀s∈r.Right,s.Term=false→gd s.N
inductive LgP (R:List Ru)(N:List Int)(P:Int→List Int→Prop):List Sy→List Int→Prop where
 | nil:LgP R N P [] []
 | term {n:Int} {l:List Sy} {w:List Int}:LgP R N P l w→LgP R N P (⟨true,n⟩::l) (n::w)
 | cmp {c:Int} {l:List Sy} {u w:List Int}:c∈N→P c u→LgP R N P l w→LgP R N P (⟨false,c⟩::l) (u++w)
 | non {c:Int} {l:List Sy} {u w:List Int}:c∉N→Lg R [⟨false,c⟩] u→LgP R N P l w→LgP R N P (⟨false,c⟩::l) (u++w)
section
variable {R : List Ru} {N : List Int} {P : Int → List Int → Prop}
theorem LgP.split {l m:List Sy}:∀{w:List Int},LgP R N P (l++m) w→∃u v,w=u++v∧LgP R N P l u∧LgP R N P m v:=by
 induction l with
 | nil=>intro w h;exact⟨[],w,rfl,.nil,h⟩
 | cons x l ih=>
   intro w h
   rw [List.cons_append] at h
   cases h with
   | term h=>
     obtain⟨a,b,rfl,h1,h2⟩:=ih h
     exact⟨_,b,rfl,.term h1,h2⟩
   | cmp c d h=>
     obtain⟨a,b,rfl,h1,h2⟩:=ih h
     exact⟨_,b,by rw [←List.append_assoc],.cmp c d h1,h2⟩
   | non c d h=>
     obtain⟨a,b,rfl,h1,h2⟩:=ih h
     exact⟨_,b,by rw [←List.append_assoc],.non c d h1,h2⟩
theorem LgP.nil_eq {w:List Int}(h:LgP R N P [] w):w= []:=by cases h;rfl
theorem LgP.one_cmp {c:Int}{w:List Int}(hc:c∈N)(h:LgP R N P [⟨false,c⟩] w):P c w:=by
 cases h with
 | cmp a b d=>rw [d.nil_eq,List.append_nil];exact b
 | non a=>exact absurd hc a
theorem LgP.lg {l:List Sy}{w:List Int}(h:LgP R N P l w)(hl:∀x∈l,x.Term=false→x.N∉N):Lg R l w:=by
 induction h with
 | nil=>exact .nil
 | term _ ih=>exact .term (ih fun x hx=>hl x (.tail _ hx))
 | cmp a=>exact absurd a (hl _ (.head _) rfl)
 | non a b _ ih=>exact b.app (ih fun x hx=>hl x (.tail _ hx))
theorem Lg.lgp (hR:∀r∈R,r.Left∈N→∀u,LgP R N P r.Right u→P r.Left u){l:List Sy}{w:List Int}(h:Lg R l w):LgP R N P l w:=by
 induction h with
 | nil=>exact .nil
 | term _ ih=>exact .term ih
 | @non n r l u w a b c _ ih1 ih2=>
   by_cases hn:n∈N
   ·subst b;exact .cmp hn (hR r a hn u ih1) ih2
   ·subst b;exact .non hn (.one a c) ih2
end
def Pf (kd:Int)(I O:Int→Int)(s t:Int)(n:Nx)(c:Int)(u:List Int):Prop:=if kd=0 then Wy n (I c) u t else if kd=1 then Wy n s u (I c) else Wy n (I c) u (O c)
def Xb (R:List Ru)(kd:Int)(s t:Int)(S:Lab)(b:Int)(v:List Int):Prop:=if kd=0 then ∃u z,v=u++z∧Lg R [⟨false,b⟩] u∧S t z else ∀u,Lg R [⟨false,b⟩] u→S s (u++v)
def LC (R:List Ru)(kd:Int)(N:List Int)(I:Int→Int)(s t:Int)(S:Lab):Prop:=∀b∈N,∀v,S (I b) v↔Xb R kd s t S b v
def Gt (m:List (Int×Int))(b:Int):Int:=(mget b m).getD 0
section
variable {g : Ty.E8} {o : List Ty.B6} {rk : Int → Nat} {gd : Int → Prop}
theorem states_ok {c:Ty.B6}(hl:c.Nons.length≤10){nx:Nx}(hv:Vl nx)(hn:nx.length≤1000):
 Ok (forP (P.B4.b0 c) 0 c.Nons (g.Terms,g.Nons,g.Start,g.Rules,o,nx,[],[])) fun q=>∃(n1:Nx) (mi mo:List (Int×Int)),q=(g.Terms,g.Nons,g.Start,g.Rules,o,n1,mi,mo)∧
  (∀a b d,Ed n1 a b d↔Ed nx a b d)∧tot n1=tot nx∧nx.length+c.Nons.length≤n1.length∧n1.length≤nx.length+20∧
  (∀b,(mget b mi).isSome=true↔b∈c.Nons)∧(∀b∈c.Nons,0≤Gt mi b∧Gt mi b<n1.length)∧(c.Kind=2→∀b∈c.Nons,0≤Gt mo b∧Gt mo b<n1.length)∧
  ∀S (X:Int→List Int→Prop),Cpt nx S→∃S1,Agr nx.length S S1∧Cpt n1 S1∧∀b∈c.Nons,S1 (Gt mi b)=X b:=by
 refine aM (fun i q=>∃(n1:Nx) (mi mo:List (Int×Int)),q=(g.Terms,g.Nons,g.Start,g.Rules,o,n1,mi,mo)∧
  (∀a b d,Ed n1 a b d↔Ed nx a b d)∧tot n1=tot nx∧nx.length+i≤n1.length∧n1.length≤nx.length+2*i∧
  (∀b,(mget b mi).isSome=true↔b∈c.Nons.take i)∧(∀b∈c.Nons.take i,0≤Gt mi b∧Gt mi b<n1.length)∧(c.Kind=2→∀b∈c.Nons.take i,0≤Gt mo b∧Gt mo b<n1.length)∧
  ∀S (X:Int→List Int→Prop),Cpt nx S→∃S1,Agr nx.length S S1∧Cpt n1 S1∧∀b∈c.Nons.take i,S1 (Gt mi b)=X b)
  ⟨nx,[],[],rfl,fun _ _ _=>Iff.rfl,rfl,by omega,by omega,fun b=>by simp [Pu.mget],by simp,by simp,fun S X hS=>⟨S,.refl,hS,by simp⟩⟩ (fun i x q hx hI=>?_) fun q hI=>?_
 ·obtain⟨n1,mi,mo,rfl,h1,h2,h3,h4,h5,h6,h7,h8⟩:=hI
  have hi:=(List.getElem?_eq_some_iff.1 hx).1
  have htk:c.Nons.take (i+1)=c.Nons.take i++ [x]:=by rw [List.take_add_one,hx];rfl
  have hV:Vl n1:=fun a b d e=>by have:=hv _ _ _ ((h1 a b d).1 e);omega
  unfold P.B4.b0
  dsimp only
  rw [dR (by omega),Option.bind_some]
  dsimp only
  refine Ok.bind (Q:=fun y=>∃(n2:Nx) (mo2:List (Int×Int)),y=(g.Terms,g.Nons,g.Start,g.Rules,o,n2,mo2)∧(∀a b d,Ed n2 a b d↔Ed nx a b d)∧tot n2=tot nx∧n1.length+1≤n2.length∧n2.length≤n1.length+2∧
   (c.Kind=2→∀b∈c.Nons.take (i+1),0≤Gt mo2 b∧Gt mo2 b<n2.length)∧∀S (X:List Int→Prop),Cpt n1 S→∃S1,Agr n1.length S S1∧Cpt n2 S1∧S1 n1.length=X) (.ite (fun hk=>?_) fun hk=>.some ?_) fun y hy=>?_
  ·rw [dR (by simp;omega),Option.bind_some]
   refine .some ⟨n1++ [[]]++ [[]],_,rfl,fun a b d=>ed_new.trans (ed_new.trans (h1 a b d)),by rw [eN,eN,h2],by simp,by simp,fun _ b hb=>?_,fun S X hS=>?_⟩
   ·rw [htk] at hb
    have hb':(b=x∧Gt (mput x ((n1++ [[]]).length:Int) mo) b=((n1++ [[]]).length:Int))∨(b∈c.Nons.take i∧Gt (mput x ((n1++ [[]]).length:Int) mo) b=Gt mo b):=by
     by_cases e:b=x
     ·exact .inl ⟨e,by unfold Gt;rw [bu,if_pos e];rfl⟩
     ·refine .inr ⟨?_,by unfold Gt;rw [bu,if_neg e]⟩
      rcases List.mem_append.1 hb with hb|hb
      ·exact hb
      ·exact absurd (List.mem_singleton.1 hb) e
    rcases hb' with⟨-,e⟩|⟨hb,e⟩
    ·rw [e];simp;omega
    ·rw [e];have:=h7 hk b hb;simp;omega
   ·have hV2:Vl (n1++ [[]]):=(new_grw (lim:=0) hV).val
    refine⟨upd (upd S n1.length X) (n1++ [[]]).length fun _=>True,upd_agr.trans upd_agr (by simp),ft hV2 (ft hV hS),?_⟩
    exact(upd_agr (n1.length:Int) (by omega) (by simp;omega)).trans iE
  ·refine⟨n1++ [[]],mo,rfl,fun a b d=>ed_new.trans (h1 a b d),by rw [eN,h2],by simp,by simp,fun e=>absurd e hk,fun S X hS=>⟨upd S n1.length X,upd_agr,ft hV hS,iE⟩⟩
  ·obtain⟨n2,mo2,rfl,k1,k2,k3,k4,k5,k6⟩:=hy
   have hb':∀b∈c.Nons.take (i+1),(b=x∧Gt (mput x (n1.length:Int) mi) b=(n1.length:Int))∨(b≠x∧b∈c.Nons.take i∧Gt (mput x (n1.length:Int) mi) b=Gt mi b):=fun b hb=>by
    rw [htk] at hb
    by_cases e:b=x
    ·exact .inl ⟨e,by unfold Gt;rw [bu,if_pos e];rfl⟩
    ·refine .inr ⟨e,?_,by unfold Gt;rw [bu,if_neg e]⟩
     rcases List.mem_append.1 hb with hb|hb
     ·exact hb
     ·exact absurd (List.mem_singleton.1 hb) e
   refine .some ⟨n2,mput x (n1.length:Int) mi,mo2,rfl,k1,k2,by omega,by omega,fun b=>?_,fun b hb=>?_,k5,fun S X hS=>?_⟩
   ·rw [bu,htk,List.mem_append,List.mem_singleton]
    split
    ·simp [*]
    ·rw [h5];simp [*]
   ·rcases hb' b hb with⟨-,e⟩|⟨-,hb,e⟩
    ·rw [e];omega
    ·rw [e];have:=h6 b hb;omega
   ·obtain⟨S1,a1,a2,a3⟩:=h8 S X hS
    obtain⟨S2,b1,b2,b3⟩:=k6 S1 (X x) a2
    refine⟨S2,a1.trans b1 (by omega),b2,fun b hb=>?_⟩
    rcases hb' b hb with⟨rfl,e⟩|⟨-,hb,e⟩
    ·rw [e,b3]
    ·have:=h6 b hb
     rw [e,b1 _ this.1 this.2,a3 b hb]
 ·rw [List.take_length] at hI
  obtain⟨n1,mi,mo,h0,h1,h2,h3,h4,h⟩:=hI
  exact⟨n1,mi,mo,h0,h1,h2,h3,by omega,h⟩
end
end Go.Proofs.Ytmfkjilndpchbaa.Ap
