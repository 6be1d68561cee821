import Derived.Test.YtmfkjilndpchbaaPdq
import Derived.Test.YtmfkjilndpchbaaHop1
namespace Go.Proofs.Ytmfkjilndpchbaa.Ap
open Go Go.Ab Go.Pu Go.Proofs.Ytmfkjilndpchbaa.Df
instance:Inhabited Ty.C9:=⟨⟨0,0⟩⟩
abbrev Nx:=List (List Ty.C9)
def Ed (nx:Nx)(s c t:Int):Prop:=0≤s∧s<nx.length∧(⟨c,t⟩:Ty.C9)∈el nx s
inductive Wy (nx:Nx):Int→List Int→Int→Prop where
 | nil {s:Int}:Wy nx s [] s
 | eps {s t u:Int} {w:List Int}:Ed nx s (-1) t→Wy nx t w u→Wy nx s w u
 | ch {s t u c:Int} {w:List Int}:Ed nx s c t→0≤c→Wy nx t w u→Wy nx s (c::w) u
def Sub (a b:Nx):Prop:=∀s c t,Ed a s c t→Ed b s c t
theorem Sub.rfl {a:Nx}:Sub a a:=fun _ _ _ h=>h
theorem Sub.trans {a b c:Nx}(h:Sub a b)(k:Sub b c):Sub a c:=fun _ _ _ e=>k _ _ _ (h _ _ _ e)
theorem Wy.mono {a b:Nx}(h:Sub a b){s t:Int}{w:List Int}(k:Wy a s w t):Wy b s w t:=by
 induction k with
 | nil=>exact .nil
 | eps e _ ih=>exact .eps (h _ _ _ e) ih
 | ch e c _ ih=>exact .ch (h _ _ _ e) c ih
theorem Wy.app {nx:Nx}{s t u:Int}{v w:List Int}(h:Wy nx s v t)(k:Wy nx t w u):Wy nx s (v++w) u:=by
 induction h with
 | nil=>exact k
 | eps e _ ih=>exact .eps e (ih k)
 | ch e c _ ih=>exact .ch e c (ih k)
theorem Wy.one {nx:Nx}{s t:Int}(h:Ed nx s (-1) t):Wy nx s [] t:=.eps h .nil
theorem Wy.sym {nx:Nx}{s c t:Int}(h:Ed nx s c t)(h0:0≤c):Wy nx s [c] t:=.ch h h0 .nil
theorem Wy.split {nx:Nx}{v w:List Int}{s u:Int}(h:Wy nx s (v++w) u):∃t,Wy nx s v t∧Wy nx t w u:=by
 generalize e:v++w=x at h
 induction h generalizing v w with
 | nil=>
   obtain⟨rfl,rfl⟩:=List.append_eq_nil_iff.1 e
   exact⟨_,.nil,.nil⟩
 | eps a _ ih=>
   obtain⟨t,h1,h2⟩:=ih e
   exact⟨t,.eps a h1,h2⟩
 | @ch s t u c x a b k ih=>
   cases v with
   | nil=>
     rw [List.nil_append] at e;subst e
     exact⟨s,.nil,.ch a b k⟩
   | cons y v=>
     rw [List.cons_append,List.cons.injEq] at e
     obtain⟨rfl,e⟩:=e
     obtain⟨t,h1,h2⟩:=ih e
     exact⟨t,.ch a b h1,h2⟩
theorem Wy.snoc {nx:Nx}{w:List Int}{c s u:Int}(hc:0≤c):Wy nx s (w++ [c]) u↔∃t,Wy nx s w t∧∃t',Ed nx t c t'∧Wy nx t' [] u:=by
 constructor
 ·intro h
  obtain⟨t,h1,h2⟩:=h.split
  generalize e: [c]=x at h2
  induction h2 generalizing w with
  | nil=>cases e
  | eps a _ ih=>exact ih (by simpa using h1.app (.one a) |>.app (w:=[c]) (by subst e;assumption)) (by simpa using h1.app (.one a)) e
  | ch a b k ih=>
    rw [List.cons.injEq] at e
    obtain⟨rfl,rfl⟩:=e
    exact⟨_,h1,_,a,k⟩
 ·rintro⟨t,h1,t',h2,h3⟩
  exact h1.app (.ch h2 hc h3)
structure NV (nx:Nx)(B:Nat):Prop where
 n:nx.length≤10000
 to:∀s c t,Ed nx s c t→ -1≤c∧0≤t∧t<nx.length
 row:∀s:Int,0≤s→s<nx.length→(el nx s).length≤B
structure CI (nx:Nx)(B:Nat)(l:List Int)(st:List (Int×Bool)×List Int×List Int):Prop where
 seen:∀s,(mget s st.1).getD false=true↔s∈st.2.1
 nd:st.2.1.Nodup
 rg:∀s∈st.2.1,0≤s∧s<nx.length
 rg2:∀s∈st.2.2,0≤s∧s<nx.length
 snd:∀s,s∈st.2.1∨s∈st.2.2→∃x∈l,Wy nx x [] s
 sub:∀x∈l,x∈st.2.1∨x∈st.2.2
 cls:∀s∈st.2.1,∀t,Ed nx s (-1) t→t∈st.2.1∨t∈st.2.2
 len:st.2.2.length≤l.length+st.2.1.length*B
theorem CI.le {nx:Nx}{B:Nat}{l:List Int}{st:List (Int×Bool)×List Int×List Int}(h:CI nx B l st):st.2.1.length≤nx.length:=
 il (N:=nx.length) st.2.1 h.nd fun x hx=>h.rg x hx
theorem sort_ok {l:List Int}(hl:l.length≤100000){φ:Nat}(hφ:3000000≤φ):Ok (P.G9 φ l) fun r=>r.Perm l:=by
 unfold P.G9
 refine Ok.bind (Q:=fun _=>True) ?_ fun x _=>(pdq_ok l.length (by omega) (by omega) (by omega) (by omega) (by omega) (by omega)).bind fun y hy=>.some hy
 rw [gR (by omega) (by omega)]
 rcases Nat.eq_zero_or_pos l.length with h|h
 ·rw [h,show P.J2 ((0:Nat):Int)=some 0 from by decide+kernel];exact .some trivial
 ·exact(jL (by omega) (by omega)).mono fun _ _=>trivial
theorem gh {a:Ty.G3}{nx:Nx}{B:Nat}(ha:a.next_=nx)(hv:NV nx B)(hB:B≤1000000){l:List Int}(hl:∀x∈l,0≤x∧x<nx.length)(hll:l.length≤10000000000){φ:Nat}(hφ:100000000000≤φ):
 Ok (P.C7 φ a l) fun r=>r.Nodup∧r.length≤nx.length∧(∀s∈r,0≤s∧s<nx.length)∧∀t,t∈r↔∃x∈l,Wy nx x [] t:=by
 have hn:=hv.n
 have hnB:nx.length*B≤10000*1000000:=Nat.mul_le_mul hn hB
 unfold P.C7
 refine Ok.bind (bF (CI nx B l) (fun st=>(nx.length-st.2.1.length)*(B+1)+st.2.2.length) (Q:=fun r=>∃st,r= .out st∧CI nx B l st∧st.2.2= []) ⟨fun s=>by simp [Pu.mget],by simp,by simp,hl,fun s hs=>?_,fun x hx=>.inr hx,by simp,by simp⟩ (fun st hst=>?_) ?_) fun r hr=>?_
 ·rcases hs with h|h
  ·simp at h
  ·exact⟨s,h,.nil⟩
 ·obtain⟨seen,out,row⟩:=st
  have h1:=hst.seen;have h2:=hst.nd;have h3:=hst.rg;have h4:=hst.rg2;have h5:=hst.snd;have h6:=hst.sub;have h7:=hst.cls;have h8:=hst.len;have h9:=hst.le
  dsimp only at h1 h2 h3 h4 h5 h6 h7 h8 h9
  unfold P.C7.b0
  dsimp only
  refine .ite (fun hp=>?_) fun hp=>.some ⟨_,rfl,hst,by
   dsimp only;exact List.length_eq_zero_iff.1 (by omega)⟩
  obtain⟨x,row,rfl⟩:∃x row',row=x::row':=by
   cases row with
   | nil=>simp at hp
   | cons x r=>exact⟨x,r,rfl⟩
  have hx:=h4 x (.head _)
  have hm:out.length*B≤nx.length*B:=Nat.mul_le_mul_right _ h9
  simp only [List.length_cons] at h8 hp
  rw [show Pu.ix (x::row) 0=some x from rfl,Option.bind_some,cZ (by omega) (by simp only [List.length_cons];omega) (Int.le_refl _),Option.bind_some]
  have e1:((x::row).take ((x::row).length:Int).toNat).drop (1:Int).toNat=row:=by simp
  rw [e1]
  refine .ite (fun hs=>?_) fun hs=>?_
  ·rw [h1] at hs
   refine .some ⟨⟨h1,h2,h3,fun s k=>h4 s (.tail _ k),fun s k=>?_,fun s k=>?_,fun s k t e=>?_,by dsimp only;omega⟩,?_⟩
   ·exact h5 s (k.imp id fun k=>.tail _ k)
   ·rcases h6 s k with q|q
    ·exact .inl q
    ·rcases List.mem_cons.1 q with rfl|q
     ·exact .inl hs
     ·exact .inr q
   ·rcases h7 s k t e with q|q
    ·exact .inl q
    ·rcases List.mem_cons.1 q with rfl|q
     ·exact .inl hs
     ·exact .inr q
   ·dsimp only;simp only [List.length_cons];omega
  ·rw [h1] at hs
   have hnd:(out++ [x]).Nodup:=by
    rw [List.nodup_append]
    exact⟨h2,by simp,fun a ha b hb e=>by rw [List.mem_singleton] at hb;subst hb;subst e;exact hs ha⟩
   have hlt:out.length+1≤nx.length:=by
    have:=il (N:=nx.length) (out++ [x]) hnd fun y hy=>by
     rcases List.mem_append.1 hy with hy|hy
     ·exact h3 y hy
     ·rw [List.mem_singleton] at hy;subst hy;exact hx
    simpa using this
   have hrow:=hv.row x hx.1 hx.2
   rw [bk (by simp only [List.length_singleton];omega),Option.bind_some,ha,aG hx.1 hx.2,Option.bind_some]
   refine Ok.bind (aM (fun i (s:List Int)=>s.length≤row.length+i∧(∀t,t∈row→t∈s)∧(∀t∈s,t∈row∨Ed nx x (-1) t)∧∀t,(⟨-1,t⟩:Ty.C9)∈(el nx x).take i→t∈s)
    (Q:=fun s=>s.length≤row.length+B∧(∀t,t∈row→t∈s)∧(∀t∈s,t∈row∨Ed nx x (-1) t)∧∀t,Ed nx x (-1) t→t∈s) ⟨by omega,fun _ h=>h,fun _ h=>.inl h,by simp⟩ (fun i e s he hs=>?_) fun s hs=>?_) fun s hs=>.some ?_
   ·obtain⟨a1,a2,a3,a4⟩:=hs
    have hi:=(List.getElem?_eq_some_iff.1 he).1
    have hE:Ed nx x e.by_ e.to:=⟨hx.1,hx.2,List.mem_of_getElem? he⟩
    unfold P.C7.b1
    refine Ok.bind (Q:=fun s'=>s'.length≤row.length+(i+1)∧(∀t,t∈row→t∈s')∧(∀t∈s',t∈row∨Ed nx x (-1) t)∧∀t,(⟨-1,t⟩:Ty.C9)∈(el nx x).take (i+1)→t∈s') (.ite (fun hb=>?_) fun hb=>.some ?_) fun s' h=>.some h
    ·have hb1:e.by_= -1:=by have:=(hv.to _ _ _ hE).1;omega
     rw [hb1] at hE
     unfold P.F4
     rw [bk (by simp only [List.length_nil];omega),Option.bind_some,Option.bind_some,List.nil_append,bk (by simp only [List.length_singleton];omega),Option.bind_some]
     refine .some ⟨by simp;omega,fun t h=>List.mem_append_left _ (a2 t h),fun t h=>?_,fun t h=>?_⟩
     ·rcases List.mem_append.1 h with h|h
      ·exact a3 t h
      ·rw [List.mem_singleton] at h;subst h;exact .inr hE
     ·rw [List.take_add_one,he,Option.toList_some] at h
      rcases List.mem_append.1 h with h|h
      ·exact List.mem_append_left _ (a4 t h)
      ·rw [List.mem_singleton] at h;subst h;exact List.mem_append_right _ (List.mem_singleton.2 rfl)
    ·refine⟨by omega,a2,a3,fun t h=>?_⟩
     rw [List.take_add_one,he,Option.toList_some] at h
     rcases List.mem_append.1 h with h|h
     ·exact a4 t h
     ·rw [List.mem_singleton] at h;subst h;exact absurd (by decide:(-1:Int)<0) hb
   ·rw [List.take_length] at hs
    obtain⟨a1,a2,a3,a4⟩:=hs
    exact⟨by omega,a2,a3,fun t h=>a4 t h.2.2⟩
   ·obtain⟨a1,a2,a3,a4⟩:=hs
    obtain⟨y,hy,hw⟩:=h5 x (.inr (.head _))
    refine⟨⟨fun t=>?_,hnd,fun t h=>?_,fun t h=>?_,fun t h=>?_,fun t h=>?_,fun t h u e=>?_,?_⟩,?_⟩
    ·dsimp only
     rw [bu,List.mem_append,List.mem_singleton]
     split
     ·simp [*]
     ·rw [h1];simp [*]
    ·rcases List.mem_append.1 h with h|h
     ·exact h3 t h
     ·rw [List.mem_singleton] at h;subst h;exact hx
    ·rcases a3 t h with h|h
     ·exact h4 t (.tail _ h)
     ·exact(hv.to _ _ _ h).2
    ·rcases h with h|h
     ·rcases List.mem_append.1 h with h|h
      ·exact h5 t (.inl h)
      ·rw [List.mem_singleton] at h;subst h;exact⟨y,hy,hw⟩
     ·rcases a3 t h with h|h
      ·exact h5 t (.inr (.tail _ h))
      ·exact⟨y,hy,by simpa using hw.app (.one h)⟩
    ·rcases h6 t h with h|h
     ·exact .inl (List.mem_append_left _ h)
     ·rcases List.mem_cons.1 h with rfl|h
      ·exact .inl (List.mem_append_right _ (List.mem_singleton.2 rfl))
      ·exact .inr (a2 t h)
    ·rcases List.mem_append.1 h with h|h
     ·rcases h7 t h u e with h|h
      ·exact .inl (List.mem_append_left _ h)
      ·rcases List.mem_cons.1 h with rfl|h
       ·exact .inl (List.mem_append_right _ (List.mem_singleton.2 rfl))
       ·exact .inr (a2 u h)
     ·rw [List.mem_singleton] at h;subst h;exact .inr (a4 u e)
    ·dsimp only
     simp only [List.length_append,List.length_singleton,Nat.add_mul]
     omega
    ·dsimp only
     simp only [List.length_append,List.length_cons,List.length_nil,Nat.zero_add]
     obtain⟨k,hk⟩:∃k,nx.length-out.length=k+1:=⟨nx.length-out.length-1,by omega⟩
     rw [hk,show nx.length-(out.length+1)=k by omega,Nat.add_mul]
     omega
 ·dsimp only
  have:(nx.length-([]:List Int).length)*(B+1)≤10000*1000001:=Nat.mul_le_mul (by simp;omega) (by omega)
  omega
 ·obtain⟨st,rfl,hst,he⟩:=hr
  have hle:=hst.le
  show Ok (Option.bind _ _) _
  refine(sort_ok (by omega) (by omega)).bind fun r hr=>.some ⟨hr.nodup_iff.2 hst.nd,by rw [hr.length_eq];exact hle,fun s hs=>hst.rg s (hr.mem_iff.1 hs),fun t=>?_⟩
  rw [hr.mem_iff]
  constructor
  ·intro h;exact hst.snd t (.inl h)
  ·rintro⟨x,hx,hw⟩
   have h0:x∈st.2.1:=by
    rcases hst.sub x hx with h|h
    ·exact h
    ·rw [he] at h;cases h
   generalize e:([]:List Int)=w at hw
   clear hx
   induction hw with
   | nil=>exact h0
   | eps a _ ih=>
     refine ih ?_ e
     rcases hst.cls _ h0 _ a with h|h
     ·exact h
     ·rw [he] at h;cases h
   | ch=>cases e
end Go.Proofs.Ytmfkjilndpchbaa.Ap
