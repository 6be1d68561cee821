import Derived.Test.YtmfkjilndpchbaaAp2
import Derived.Test.YtmfkjilndpchbaaDers
import Derived.Test.YtmfkjilndpchbaaGrV
namespace Go.Proofs.Ytmfkjilndpchbaa.Ap
open Go Go.Ab Go.Pu Go.Proofs.Ytmfkjilndpchbaa.Df
open Go.Proofs.Ytmfkjilndpchbaa.Gr (Sy Ru Valid)
instance:Inhabited Ty.B6:=⟨⟨0,[]⟩⟩
inductive Lg (R:List Ru):List Sy→List Int→Prop where
 | nil:Lg R [] []
 | term {n:Int} {l:List Sy} {w:List Int}:Lg R l w→Lg R (⟨true,n⟩::l) (n::w)
 | non {n:Int} {r:Ru} {l:List Sy} {u w:List Int}:r∈R→r.Left=n→Lg R r.Right u→Lg R l w→Lg R (⟨false,n⟩::l) (u++w)
theorem Lg.app {R:List Ru}{l m:List Sy}{u v:List Int}(h:Lg R l u)(k:Lg R m v):Lg R (l++m) (u++v):=by
 induction h with
 | nil=>exact k
 | term _ ih=>exact .term ih
 | non a b c _ _ ih=>rw [List.append_assoc];exact .non a b c ih
theorem Lg.cons {R:List Ru}{x:Sy}{l:List Sy}{w:List Int}(h:Lg R (x::l) w):∃u v,w=u++v∧Lg R [x] u∧Lg R l v:=by
 cases h with
 | @term n l w h=>exact⟨[n],w,rfl,.term .nil,h⟩
 | @non n r l u w a b c h=>exact⟨u,w,rfl,by simpa using Lg.non a b c .nil,h⟩
theorem Lg.split {R:List Ru}{l m:List Sy}:∀{w:List Int},Lg R (l++m) w→∃u v,w=u++v∧Lg R l u∧Lg R m v:=by
 induction l with
 | nil=>intro w h;exact⟨[],w,rfl,.nil,h⟩
 | cons x l ih=>
   intro w h
   obtain⟨u,v,rfl,h1,h2⟩:=Lg.cons h
   obtain⟨a,b,rfl,h3,h4⟩:=ih h2
   exact⟨u++a,b,by simp,by simpa using h1.app h3,h4⟩
theorem Lg.nil_eq {R:List Ru}{w:List Int}(h:Lg R [] w):w= []:=by cases h;rfl
theorem Lg.one {R:List Ru}{r:Ru}{w:List Int}(h:r∈R)(k:Lg R r.Right w):Lg R [⟨false,r.Left⟩] w:=by simpa using Lg.non h rfl k .nil
theorem Lg.term_eq {R:List Ru}{n:Int}{w:List Int}(h:Lg R [⟨true,n⟩] w):w= [n]:=by
 cases h with
 | term h=>rw [h.nil_eq]
theorem Lg.one_of {R:List Ru}{a:Int}{w:List Int}(h:Lg R [⟨false,a⟩] w):∃r∈R,r.Left=a∧Lg R r.Right w:=by
 cases h with
 | non b c d e=>rw [e.nil_eq,List.append_nil];exact⟨_,b,c,d⟩
def Vl (nx:Nx):Prop:=∀s c t,Ed nx s c t→ -1≤c∧0≤t∧t<nx.length
def tot (nx:Nx):Nat:=(nx.map List.length).sum
theorem jk {nx:Nx}{s:Int}(h0:0≤s)(h1:s<nx.length):(el nx s).length≤tot nx:=by
 have:=ef h0 h1
 unfold tot
 generalize el nx s=r at this
 clear h0 h1
 induction nx with
 | nil=>cases this
 | cons x nx ih=>
   rw [List.map_cons,List.sum_cons]
   rcases List.mem_cons.1 this with rfl|h
   ·omega
   ·have:=ih h;omega
structure Grw (nx nx':Nx)(sl lim:Nat):Prop where
 sub:Sub nx nx'
 len:nx.length≤nx'.length
 val:Vl nx'
 tot:tot nx'+300*nx.length≤tot nx+300*nx'.length+sl
 lim:nx'.length≤max nx.length lim+sl
theorem Grw.refl {nx:Nx}{lim:Nat}(h:Vl nx):Grw nx nx 0 lim:=⟨Sub.rfl,Nat.le_refl _,h,by omega,by omega⟩
theorem Grw.trans {a b c:Nx}{s1 s2 lim:Nat}(h:Grw a b s1 lim)(k:Grw b c s2 lim):Grw a c (s1+s2) lim:=
 ⟨h.sub.trans k.sub,Nat.le_trans h.len k.len,k.val,by have:=h.tot;have:=k.tot;omega,by have:=h.lim;have:=k.lim;omega⟩
theorem Grw.mono {a b:Nx}{s lim s' lim':Nat}(h:Grw a b s lim)(hs:s≤s')(hl:lim≤lim'):Grw a b s' lim':=
 ⟨h.sub,h.len,h.val,by have:=h.tot;omega,by have:=h.lim;omega⟩
abbrev Lab:=Int→List Int→Prop
def Cpt (nx:Nx)(S:Lab):Prop:=∀s c t,Ed nx s c t→(c= -1→∀v,S t v→S s v)∧(0≤c→∀v,S t v→S s (c::v))
def Agr (n:Nat)(S S':Lab):Prop:=∀s:Int,0≤s→s<n→S' s=S s
theorem Agr.refl {n:Nat}{S:Lab}:Agr n S S:=fun _ _ _=>rfl
theorem Agr.trans {n m:Nat}{S T U:Lab}(h:Agr n S T)(k:Agr m T U)(hn:n≤m):Agr n S U:=fun s a b=>(k s a (by omega)).trans (h s a b)
theorem Cpt.wy {nx:Nx}{S:Lab}(h:Cpt nx S){s t:Int}{w v:List Int}(k:Wy nx s w t)(hv:S t v):S s (w++v):=by
 induction k with
 | nil=>exact hv
 | eps e _ ih=>exact(h _ _ _ e).1 rfl _ (ih hv)
 | ch e c _ ih=>exact(h _ _ _ e).2 c _ (ih hv)
def Exa (nx nx':Nx)(L:List Int→Prop)(s t:Int):Prop:=∀S,Cpt nx S→(∀u v,L u→S t v→S s (u++v))→∃S',Agr nx.length S S'∧Cpt nx' S'
def lnk (nx:Nx)(s c t:Int):Nx:=st nx s (el nx s++ [⟨c,t⟩])
theorem cH {nx:Nx}{s c t:Int}:(lnk nx s c t).length=nx.length:=by unfold lnk;simp
theorem cW {nx:Nx}{s c t:Int}(h0:0≤s)(h1:s<nx.length){s' c' t':Int}:Ed (lnk nx s c t) s' c' t'↔Ed nx s' c' t'∨(s'=s∧c'=c∧t'=t):=by
 unfold Ed
 rw [cH]
 constructor
 ·rintro⟨a,b,d⟩
  rw [lnk,cF h0 h1 a] at d
  split at d
  ·subst_vars
   rcases List.mem_append.1 d with d|d
   ·exact .inl ⟨a,b,d⟩
   ·rw [List.mem_singleton] at d;cases d;exact .inr ⟨rfl,rfl,rfl⟩
  ·exact .inl ⟨a,b,d⟩
 ·rintro(⟨a,b,d⟩|⟨rfl,rfl,rfl⟩)
  ·refine⟨a,b,?_⟩
   rw [lnk,cF h0 h1 a]
   split
   ·subst_vars;exact List.mem_append_left _ d
   ·exact d
  ·refine⟨h0,h1,?_⟩
   rw [lnk,dU h0 h1]
   exact List.mem_append_right _ (List.mem_singleton.2 rfl)
theorem gQ {nx:Nx}{s c t:Int}(h0:0≤s)(h1:s<nx.length):tot (lnk nx s c t)=tot nx+1:=by
 have hi:s.toNat<(nx.map List.length).length:=by simp;omega
 have h:=Gr.sum_set (nx.map List.length) s.toNat ((el nx s).length+1) hi
 have e:(lnk nx s c t).map List.length=(nx.map List.length).set s.toNat ((el nx s).length+1):=by
  unfold lnk st
  rw [List.map_set,List.length_append,List.length_singleton]
 have e2:(nx.map List.length)[s.toNat]=(el nx s).length:=by
  rw [List.getElem_map]
  have:nx[s.toNat]'(by simpa using hi)=el nx s:=by
   unfold el;rw [List.getElem?_eq_getElem (by simpa using hi)];rfl
  rw [this]
 unfold tot
 rw [e]
 rw [e2] at h
 omega
theorem dv {nx:Nx}{s c t:Int}{lim:Nat}(hv:Vl nx)(h0:0≤s)(h1:s<nx.length)(hc: -1≤c)(t0:0≤t)(t1:t<nx.length):Grw nx (lnk nx s c t) 1 lim:=by
 refine⟨fun a b d e=>(cW h0 h1).2 (.inl e),by rw [cH];omega,fun a b d e=>?_,?_,by rw [cH];omega⟩
 ·rw [cH]
  rcases(cW h0 h1).1 e with e|⟨rfl,rfl,rfl⟩
  ·exact hv _ _ _ e
  ·exact⟨hc,t0,t1⟩
 ·rw [cH,gQ h0 h1];omega
theorem dV {g:Ty.E8}{o:List Ty.B6}{nx:Nx}{s c t:Int}(h0:0≤s)(h1:s<nx.length)(ht:tot nx≤1000000000):P.F8 ⟨g,o,nx⟩ s c t=some ⟨g,o,lnk nx s c t⟩:=by
 have:=jk h0 h1
 unfold P.F8
 dsimp only
 rw [aG h0 h1,Option.bind_some,bk (by simp only [List.length_singleton];omega),Option.bind_some,Option.bind_some]
 rfl
theorem fr {nx:Nx}{S:Lab}{s c t:Int}(h0:0≤s)(h1:s<nx.length)(h:Cpt nx S)(h2:c= -1→∀v,S t v→S s v)(h3:0≤c→∀v,S t v→S s (c::v)):Cpt (lnk nx s c t) S:=by
 intro a b d e
 rcases(cW h0 h1).1 e with e|⟨rfl,rfl,rfl⟩
 ·exact h _ _ _ e
 ·exact⟨h2,h3⟩
theorem ed_new {nx:Nx}{s c t:Int}:Ed (nx++ [[]]) s c t↔Ed nx s c t:=by
 unfold Ed
 constructor
 ·rintro⟨a,b,d⟩
  simp only [List.length_append,List.length_singleton] at b
  rcases(by omega:s<nx.length∨s=(nx.length:Int)) with h|rfl
  ·rw [bh a h] at d;exact⟨a,h,d⟩
  ·rw [show el (nx++ [[]]) (nx.length:Int)= [] from aT (by simp)] at d;cases d
 ·rintro⟨a,b,d⟩
  refine⟨a,by simp;omega,?_⟩
  rw [bh a b];exact d
theorem eN {nx:Nx}:tot (nx++ [[]])=tot nx:=by simp [tot]
theorem new_grw {nx:Nx}{lim:Nat}(hv:Vl nx):Grw nx (nx++ [[]]) 1 lim:=by
 refine⟨fun a b d e=>ed_new.2 e,by simp,fun a b d e=>?_,by rw [eN];simp;omega,by simp;omega⟩
 have:=hv _ _ _ (ed_new.1 e)
 simp;omega
theorem dR {g:Ty.E8}{o:List Ty.B6}{nx:Nx}(h:nx.length≤1000000):P.F6 ⟨g,o,nx⟩=some (⟨g,o,nx++ [[]]⟩,(nx.length:Int)):=by
 unfold P.F6
 dsimp only
 rw [bk (by simp only [List.length_singleton];omega),Option.bind_some]
 simp only [List.length_append,List.length_singleton]
 rw [aN]
 congr 2;omega
def upd (S:Lab)(n:Int)(X:List Int→Prop):Lab:=fun s=>if s=n then X else S s
theorem upd_agr {S:Lab}{n:Nat}{X:List Int→Prop}:Agr n S (upd S n X):=fun s _ h=>by unfold upd;rw [if_neg (by omega)]
theorem iE {S:Lab}{n:Int}{X:List Int→Prop}:upd S n X n=X:=by unfold upd;rw [if_pos rfl]
theorem ft {nx:Nx}{S:Lab}{X:List Int→Prop}(hv:Vl nx)(h:Cpt nx S):Cpt (nx++ [[]]) (upd S nx.length X):=by
 intro s c t e
 have e:=ed_new.1 e
 have h1:=hv _ _ _ e
 have:=h _ _ _ e
 rw [upd_agr s e.1 e.2.1,upd_agr t h1.2.1 h1.2.2];exact this
section
variable {g : Ty.E8} {o : List Ty.B6} {rk : Int → Nat} {gd : Int → Prop}
def AddOk (g:Ty.E8)(o:List Ty.B6)(rk:Int→Nat)(gd:Int→Prop)(k φ:Nat):Prop:=
 ∀(nx:Nx) (a s t:Int),Vl nx→nx.length≤9000→tot nx≤300*nx.length+300*(20-k)→0≤a→a<g.Nons→rk a≤k→0≤s→s<nx.length→0≤t→t<nx.length→
  Ok (P.B4 φ ⟨g,o,nx⟩ a s t) fun r=>∃(nx':Nx),r=⟨g,o,nx'⟩∧Grw nx nx' 0 (1320+300*k)∧(nx'.length≤1000→∀w,Lg g.Rules [⟨false,a⟩] w→Wy nx' s w t)∧(gd a→Exa nx nx' (Lg g.Rules [⟨false,a⟩]) s t)
def PthOk (g:Ty.E8)(o:List Ty.B6)(rk:Int→Nat)(gd:Int→Prop)(k φ:Nat):Prop:=
 ∀(nx:Nx) (l:List Sy) (s t:Int),Vl nx→nx.length≤8990→tot nx≤300*nx.length+300*(20-k)→l.length≤4→(∀x∈l,0≤x.N∧(x.Term=false→x.N<g.Nons∧rk x.N<k))→0≤s→s<nx.length→0≤t→t<nx.length→
  Ok (P.F0 φ ⟨g,o,nx⟩ s l t) fun r=>∃(nx':Nx),r=⟨g,o,nx'⟩∧Grw nx nx' (l.length+1) (1020+300*k)∧(nx'.length≤1000→∀w,Lg g.Rules l w→Wy nx' s w t)∧((∀x∈l,x.Term=false→gd x.N)→Exa nx nx' (Lg g.Rules l) s t)
theorem jg {k φ:Nat}(hk:k≤11)(hA:∀k',k'+1=k→AddOk g o rk gd k' φ):PthOk g o rk gd k (φ+1):=by
 intro nx l s t hv hn ht hl hx s0 s1 t0 t1
 unfold P.F0
 dsimp only
 refine Ok.bind (aM (fun i q=>∃(nx':Nx) (f:Int),q=(g.Terms,g.Nons,g.Start,g.Rules,o,nx',f)∧Grw nx nx' i (1020+300*k)∧0≤f∧f<nx'.length∧(i=0→f=s∧nx'=nx)∧(0<i→i=l.length→f=t)∧
  (nx'.length≤1000→∀w,Lg g.Rules (l.take i) w→Wy nx' s w f)∧
  ((∀x∈l,x.Term=false→gd x.N)→∀S,Cpt nx S→(∀u v,Lg g.Rules l u→S t v→S s (u++v))→∃S',Agr nx.length S S'∧Cpt nx' S'∧∀u v,Lg g.Rules (l.drop i) u→S t v→S' f (u++v)))
  (Q:=fun q=>∃(nx':Nx) (f:Int),q=(g.Terms,g.Nons,g.Start,g.Rules,o,nx',f)∧Grw nx nx' l.length (1020+300*k)∧0≤f∧f<nx'.length∧(0=l.length→f=s∧nx'=nx)∧(0<l.length→f=t)∧
    (nx'.length≤1000→∀w,Lg g.Rules l w→Wy nx' s w f)∧
    ((∀x∈l,x.Term=false→gd x.N)→Exa nx nx' (Lg g.Rules l) s t))
  ⟨nx,s,rfl,.refl hv,s0,s1,fun _=>⟨rfl,rfl⟩,fun h=>by omega,fun _ w h=>by rw [List.take_zero] at h;rw [h.nil_eq];exact .nil,fun _ S hS h=>⟨S,.refl,hS,fun u v hu=>h u v (by simpa using hu)⟩⟩ (fun i x q hq hI=>?_) fun q hI=>?_) fun q hI=>?_
 ·obtain⟨n1,f,rfl,w1,f0,f1,w2,w3,w4,w5⟩:=hI
  obtain⟨hi,hxe⟩:=List.getElem?_eq_some_iff.1 hq
  have hxm:=hx x (List.mem_of_getElem? hq)
  have htk:l.take (i+1)=l.take i++ [x]:=by rw [List.take_add_one,hq];rfl
  have hdr:l.drop i=x::l.drop (i+1):=by rw [List.drop_eq_getElem_cons hi,hxe]
  have hlim:=w1.lim;have hlen:=w1.len;have htt:=w1.tot
  unfold P.F0.b0
  dsimp only
  rw [aN]
  refine Ok.bind (Q:=fun y=>∃(n2:Nx) (f2:Int),y=(g.Terms,g.Nons,g.Start,g.Rules,o,n2,f2)∧(∀a b d,Ed n2 a b d↔Ed n1 a b d)∧n1.length≤n2.length∧n2.length≤n1.length+1∧tot n2=tot n1∧0≤f2∧f2<n2.length∧(i+1=l.length→f2=t)∧
   ((∀x∈l,x.Term=false→gd x.N)→∀S,Cpt nx S→(∀u v,Lg g.Rules l u→S t v→S s (u++v))→∃S',Agr nx.length S S'∧Cpt n2 S'∧(∀u v,Lg g.Rules (l.drop i) u→S t v→S' f (u++v))∧∀v,S' f2 v↔∃a b,v=a++b∧Lg g.Rules (l.drop (i+1)) a∧S t b))
   (.ite (fun hlt=>?_) fun hge=>.some ?_) fun y hy=>?_
  ·rw [dR (by omega),Option.bind_some]
   refine .some ⟨n1++ [[]],(n1.length:Int),rfl,fun a b d=>ed_new,by simp,by simp,eN,by omega,by simp;omega,fun e=>by omega,fun hg S hS h=>?_⟩
   obtain⟨S',a1,a2,a3⟩:=w5 hg S hS h
   refine⟨upd S' n1.length fun v=>∃a b,v=a++b∧Lg g.Rules (l.drop (i+1)) a∧S t b,a1.trans upd_agr hlen,ft w1.val a2,fun u v hu hb=>?_,fun v=>?_⟩
   ·rw [upd_agr f f0 f1];exact a3 u v hu hb
   ·rw [iE]
  ·have he:i+1=l.length:=by omega
   refine⟨n1,t,rfl,fun a b d=>Iff.rfl,by omega,by omega,rfl,t0,by omega,fun _=>rfl,fun hg S hS h=>?_⟩
   obtain⟨S',a1,a2,a3⟩:=w5 hg S hS h
   refine⟨S',a1,a2,a3,fun v=>?_⟩
   rw [a1 t t0 t1]
   constructor
   ·intro hb;exact⟨[],v,rfl,by rw [he,List.drop_length];exact .nil,hb⟩
   ·rintro⟨a,b,rfl,ha,hb⟩
    rw [he,List.drop_length] at ha
    rw [ha.nil_eq];exact hb
  ·obtain⟨n2,f2,rfl,v1,v2,v3,v4,v5,v6,v7,v8⟩:=hy
   dsimp only
   have hV2:Vl n2:=fun a b d e=>by have:=w1.val _ _ _ ((v1 a b d).1 e);omega
   have hG2:∀n3,Grw n2 n3 0 (1020+300*k)∨(n3.length=n2.length∧tot n3=tot n2+1∧Sub n2 n3∧Vl n3)→Grw nx n3 (i+1) (1020+300*k):=fun n3 h=>by
    rcases h with h|⟨h1,h2,h3,h4⟩
    ·refine⟨fun a b d e=>h.sub _ _ _ ((v1 _ _ _).2 (w1.sub _ _ _ e)),by have:=h.len;omega,h.val,by have:=h.tot;omega,by have:=h.lim;omega⟩
    ·exact⟨fun a b d e=>h3 _ _ _ ((v1 _ _ _).2 (w1.sub _ _ _ e)),by omega,h4,by omega,by omega⟩
   refine Ok.bind (Q:=fun y=>∃(n3:Nx),y=(g.Terms,g.Nons,g.Start,g.Rules,o,n3)∧Grw nx n3 (i+1) (1020+300*k)∧n2.length≤n3.length∧Sub n1 n3∧(n3.length≤1000→∀w,Lg g.Rules [x] w→Wy n3 f w f2)∧((∀x∈l,x.Term=false→gd x.N)→Exa n2 n3 (Lg g.Rules [x]) f f2)) ?_ fun y hy=>?_
   ·obtain⟨xt,xn⟩:=x
    dsimp only at hxm ⊢
    cases xt with
    | true=>
      rw [if_pos rfl,dV f0 (by omega) (by omega),Option.bind_some]
      refine .some ⟨lnk n2 f xn f2,rfl,hG2 _ (.inr ⟨cH,gQ f0 (by omega),(dv (lim:=0) hV2 f0 (by omega) (by omega) v5 v6).sub,(dv (lim:=0) hV2 f0 (by omega) (by omega) v5 v6).val⟩),by rw [cH];omega,fun a b d e=>(cW f0 (by omega)).2 (.inl ((v1 _ _ _).2 e)),fun _ w hw=>?_,fun _ S hS h=>⟨S,.refl,fr f0 (by omega) hS (fun e=>by omega) fun _ v hv=>h [xn] v (.term .nil) hv⟩⟩
      rw [hw.term_eq]
      exact .sym ((cW f0 (by omega)).2 (.inr ⟨rfl,rfl,rfl⟩)) hxm.1
    | false=>
      rw [if_neg (by simp)]
      obtain⟨q1,q2⟩:=hxm.2 rfl
      obtain⟨k',rfl⟩:∃k',k=k'+1:=⟨k-1,by omega⟩
      refine Ok.bind (hA k' rfl n2 xn f f2 hV2 (by omega) (by omega) hxm.1 q1 (by omega) f0 (by omega) v5 v6) fun r hr=>?_
      obtain⟨n3,rfl,h1,h2,h3⟩:=hr
      refine .some ⟨n3,rfl,hG2 _ (.inl (h1.mono (Nat.le_refl _) (by omega))),h1.len,fun a b d e=>h1.sub _ _ _ ((v1 _ _ _).2 e),h2,fun hg=>h3 (hg _ (List.mem_of_getElem? hq) rfl)⟩
   ·obtain⟨n3,rfl,h1,h2,h3,h4,h5⟩:=hy
    refine .some ⟨n3,f2,rfl,h1,v5,by omega,fun e=>by omega,fun _ e=>v7 e,fun hle w hw=>?_,fun hg S hS h=>?_⟩
    ·rw [htk] at hw
     obtain⟨u,v,rfl,hu,hw2⟩:=hw.split
     exact((w4 (by omega) u hu).mono h3).app (h4 hle v hw2)
    ·obtain⟨S',a1,a2,a3,a4⟩:=v8 hg S hS h
     obtain⟨S2,b1,b2⟩:=h5 hg S' a2 fun u v hu hv2=>by
      obtain⟨a,b,rfl,ha,hb⟩:=(a4 v).1 hv2
      rw [←List.append_assoc]
      exact a3 _ b (by rw [hdr];simpa using hu.app ha) hb
     refine⟨S2,a1.trans b1 (by omega),b2,fun u v hu hb=>?_⟩
     rw [b1 f2 v5 v6]
     exact(a4 _).2 ⟨u,v,rfl,hu,hb⟩
 ·obtain⟨n1,f,rfl,w1,f0,f1,w2,w3,w4,w5⟩:=hI
  refine⟨n1,f,rfl,w1,f0,f1,fun h=>w2 h.symm,fun h=>w3 h rfl,fun h=>by rw [List.take_length] at w4;exact w4 h,fun hg S hS h=>?_⟩
  obtain⟨S',a1,a2,-⟩:=w5 hg S hS h
  exact⟨S',a1,a2⟩
 ·obtain⟨n1,f,rfl,w1,f0,f1,w2,w3,w4,w5⟩:=hI
  dsimp only
  have hlim:=w1.lim;have htt:=w1.tot;have hlen:=w1.len
  refine Ok.bind (Q:=fun y=>∃(n3:Nx),y=(g.Terms,g.Nons,g.Start,g.Rules,o,n3)∧Grw nx n3 (l.length+1) (1020+300*k)∧(n3.length≤1000→∀w,Lg g.Rules l w→Wy n3 s w t)∧((∀x∈l,x.Term=false→gd x.N)→Exa nx n3 (Lg g.Rules l) s t)) (.ite (fun hz=>?_) fun hz=>.some ?_) fun y hy=>?_
  ·have hz':l= []:=List.length_eq_zero_iff.1 (by omega)
   obtain⟨rfl,rfl⟩:=w2 (by omega)
   rw [dV f0 f1 (by omega),Option.bind_some]
   refine .some ⟨lnk n1 f (-1) t,rfl,(dv hv f0 f1 (by omega) t0 t1).mono (by omega) (Nat.le_refl _),fun _ w hw=>?_,fun hg S hS h=>⟨S,.refl,fr f0 f1 hS (fun _ v hv2=>?_) fun e=>by omega⟩⟩
   ·rw [hz'] at hw
    rw [hw.nil_eq]
    exact .one ((cW f0 f1).2 (.inr ⟨rfl,rfl,rfl⟩))
   ·exact h [] v (by rw [hz'];exact .nil) hv2
  ·have:=w3 (by omega)
   subst this
   exact⟨n1,rfl,w1.mono (by omega) (Nat.le_refl _),w4,w5⟩
  ·obtain⟨n3,rfl,h⟩:=hy
   exact .some ⟨n3,rfl,h⟩
end
end Go.Proofs.Ytmfkjilndpchbaa.Ap
