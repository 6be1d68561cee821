import Derived.Test.YtmfkjilndpchbaaAp8
namespace Go.Proofs.Ytmfkjilndpchbaa.Ap
open Go Go.Ab Go.Pu Go.Proofs.Ytmfkjilndpchbaa.Df
open Go.Proofs.Ytmfkjilndpchbaa.Gr (Sy Ru Valid)
def rkM (M:List (List Bool))(n:Int)(a:Int):Nat:=((ran n).filter fun b=>el2 M a b).length
theorem iZ {m c:Int}:c∈ran m↔0≤c∧c<m:=by
 unfold ran
 simp only [List.mem_map,List.mem_range]
 constructor
 ·rintro⟨a,h,rfl⟩
  show 0≤(a:Int)∧(a:Int)<m
  omega
 ·rintro⟨h1,h2⟩;exact⟨c.toNat,by omega,by show((c.toNat:Nat):Int)=c;omega⟩
theorem ran_nd (m:Int):(ran m).Nodup:=by
 unfold ran
 rw [List.nodup_iff_pairwise_ne,List.pairwise_map]
 refine List.Pairwise.imp ?_ List.pairwise_lt_range
 intro a b h e
 have:(a:Int)=(b:Int):=e
 omega
theorem of_v {g:Ty.E8}(hv:Valid g){M:List (List Bool)}(hM:RelV g M){o:List Ty.B6}(hl:(o.length:Int)=g.Nons)(ho:∀a,0≤a→a<g.Nons→Cmp g M (el o a)∧a∈(el o a).Nons){b:List Bool}(hb:Blw g b){gd:Int→Prop}
 (h1:∀a,0≤a→a<g.Nons→gd a→(el o a).Kind≠2) (h2:∀a,gd a→∀r∈g.Rules,el2 M a r.Left=true→∀y∈r.Right,y.Term=false→gd y.N):OfV g o (rkM M g.Nons) gd:=by
 have both:∀a,0≤a→a<g.Nons→∀z,z∈(el o a).Nons→(0≤z∧z<g.Nons)∧el2 M a z=true∧el2 M z a=true:=fun a a0 a1 z hz=>by
  obtain⟨⟨⟨a',p0,p1,hr⟩,_⟩,hm⟩:=ho a a0 a1
  obtain⟨_,_,q1,q2⟩:=(hr a).1 hm
  obtain⟨z0,z1,q3,q4⟩:=(hr z).1 hz
  exact⟨⟨z0,z1⟩,hM.tr a a' z a0 a1 p0 p1 z0 z1 q2 q3,hM.tr z a' a z0 z1 p0 p1 a0 a1 q4 q1⟩
 have conv:∀a,0≤a→a<g.Nons→∀z,0≤z→z<g.Nons→el2 M a z=true→el2 M z a=true→z∈(el o a).Nons:=fun a a0 a1 z z0 z1 k1 k2=>by
  obtain⟨⟨⟨a',p0,p1,hr⟩,_⟩,hm⟩:=ho a a0 a1
  obtain⟨_,_,q1,q2⟩:=(hr a).1 hm
  exact(hr z).2 ⟨z0,z1,hM.tr a' a z p0 p1 a0 a1 z0 z1 q1 k1,hM.tr z a a' z0 z1 a0 a1 p0 p1 k2 q2⟩
 refine⟨hl,fun a a0 a1=>(ho a a0 a1).2,fun a a0 a1 z hz=>(both a a0 a1 z hz).1,fun a a0 a1=>(ho a a0 a1).1.2.1,fun a a0 a1=>?_,fun a a0 a1 r hr hL y hy ht hn=>?_,h1,fun a a0 a1 hg r hr hL y hy ht=>h2 a hg r hr (both a a0 a1 _ hL).2.1 y hy ht⟩
 ·rcases(ho a a0 a1).1.2.2 with h|h|h
  ·exact .inl h
  ·exact .inr (.inl ⟨h.1,h.2.1⟩)
  ·exact .inr (.inr h.1)
 ·have hlf:=hv.lft r hr
  have hys:=hv.sym r hr y hy
  have hyn:=hys.2.2 ht
  obtain⟨-,e1,e2⟩:=both a a0 a1 _ hL
  have e3:el2 M a y.N=true:=hM.tr a r.Left y.N a0 a1 hlf.1 hlf.2 hys.1 hyn e1 (hM.ed r hr y hy ht)
  have hnot:¬el2 M y.N a=true:=fun e=>hn (conv a a0 a1 y.N hys.1 hyn e3 e)
  unfold rkM
  have hnd:(a::(ran g.Nons).filter fun z=>el2 M y.N z).Nodup:=by
   rw [List.nodup_cons]
   refine⟨fun h=>hnot (List.mem_filter.1 h).2,by rw [List.nodup_iff_pairwise_ne];exact(List.nodup_iff_pairwise_ne.1 (ran_nd _)).filter _⟩
  have hsub:(a::(ran g.Nons).filter fun z=>el2 M y.N z)⊆(ran g.Nons).filter fun z=>el2 M a z:=by
   intro z hz
   rw [List.mem_filter]
   rcases List.mem_cons.1 hz with rfl|hz
   ·exact⟨iZ.2 ⟨a0,a1⟩,hM.rf _ a0 a1⟩
   ·obtain⟨z1,z2⟩:=List.mem_filter.1 hz
    have zr:=iZ.1 z1
    exact⟨z1,hM.tr a y.N z a0 a1 hys.1 hyn zr.1 zr.2 e3 z2⟩
  have:=List.Nodup.length_le_of_subset hnd hsub
  rw [List.length_cons] at this
  omega
def OfR (g:Ty.E8)(r:Ty.J5×Bool×Int):Prop:=
 r.2.2=2∨(r.2.2=0∧∃k,VD r.1 k g.Terms∧(∀w,Wd w g.Terms→Lg g.Rules [⟨false,g.Start⟩] w→0≤tell r.1 w)∧
  (r.2.1=true→∀w,Wd w g.Terms→0≤tell r.1 w→Lg g.Rules [⟨false,g.Start⟩] w)∧((∀N,Rt g.Rules N)→r.2.1=true))
theorem of_ok {g:Ty.E8}(hv:Valid g){φ:Nat}(hφ:100000000000≤φ):Ok (P.E5 φ g) (OfR g):=by
 have n1:=hv.n1;have n2:=hv.n2;have s1:=hv.s1;have s2:=hv.s2;have t1:=hv.t1;have t2:=hv.t2
 unfold P.E5
 refine(comps_ok hv).bind fun x1 ⟨e0,M,hM,c1,c2⟩=>?_
 rw [if_neg (by omega),fl (by omega) (by omega) (by omega),Option.bind_some]
 refine(ofs_ok hv c1 c2).bind fun o ⟨o1,o2⟩=>?_
 refine(fy hv (by omega)).bind fun b hb=>?_
 refine Ok.bind (aM (fun i (s:Bool)=>s=true↔∀a:Int,0≤a→a<i→el b a=true→(el o a).Kind≠2) (Q:=fun s=>s=true↔∀a:Int,0≤a→a<g.Nons→el b a=true→(el o a).Kind≠2) (by simp;intro a h1 h2;omega) (fun i x s hx hs=>?_) fun s hs=>?_) fun ex hex=>?_
 ·have hi:=(List.getElem?_eq_some_iff.1 hx).1
  have hbl:=hb.1
  have hxe:el b (i:Int)=x:=aT hx
  unfold P.E5.b2
  refine Ok.bind (Q:=fun z=>z=true↔∀a:Int,0≤a→a<((i+1:Nat):Int)→el b a=true→(el o a).Kind≠2) (.ite (fun h=>?_) fun h=>.some ?_) fun z hz=>.some hz
  ·have key:(∀a:Int,0≤a→a<((i+1:Nat):Int)→el b a=true→(el o a).Kind≠2)↔(x=true→(el o (i:Int)).Kind≠2):=by
    constructor
    ·intro k hx2;exact k i (by omega) (by omega) (by rw [hxe];exact hx2)
    ·intro k a a0 a1 ha
     rcases(by omega:a<(i:Int)∨a=(i:Int)) with e|rfl
     ·exact hs.1 h a a0 e ha
     ·exact k (by rw [←hxe];exact ha)
   refine Ok.bind (Q:=fun z=>z=true↔(x=true→(el o (i:Int)).Kind≠2)) (.ite (fun hn=>.some ?_) fun hn=>?_) fun z hz=>.some (hz.trans key.symm)
   ·have:x=false:=by simpa using hn
    simp [this]
   ·have:x=true:=by simpa using hn
    rw [aG (by omega) (by omega),Option.bind_some]
    exact .some (by simp [this])
  ·constructor
   ·intro e;cases e
   ·intro k
    exact absurd (hs.2 fun a a0 a1=>k a a0 (by omega)) h
 ·rw [hs,hb.1]
 rw [dR (by simp),Option.bind_some]
 dsimp only
 rw [dR (by simp),Option.bind_some]
 dsimp only
 let gd:Int→Prop:=fun a=>ex=true∧0≤a∧a<g.Nons∧el b a=true
 have hov:OfV g o (rkM M g.Nons) gd:=by
  refine of_v hv hM o1 o2 hb (fun a a0 a1 hg=>hex.1 hg.1 a a0 a1 hg.2.2.2) fun a hg r hr hLe y hy ht=>?_
  have hlf:=hv.lft r hr
  have hys:=hv.sym r hr y hy
  exact⟨hg.1,hys.1,hys.2.2 ht,hb.2.2 r hr (hM.cl (fun z=>el b z=true) (fun r hr h=>hb.2.2 r hr h) a r.Left hg.2.1 hg.2.2.1 hlf.1 hlf.2 hLe hg.2.2.2) y hy ht⟩
 have hrk:rkM M g.Nons g.Start≤10:=by
  unfold rkM
  have:=List.length_filter_le (fun z=>el2 M g.Start z) (ran g.Nons)
  rw [ba] at this
  omega
 have hV0:Vl ([]++ [[]]++ [[]]:Nx):=fun s c t e=>by
  have e:=ed_new.1 (ed_new.1 e)
  obtain⟨a,b,-⟩:=e
  simp at b;omega
 refine Ok.bind (both_ok hv hov 10 φ (by omega) (by omega) ([]++ [[]]++ [[]]) g.Start 0 1 hV0 (by simp) (by simp [tot]) s1 s2 hrk (by omega) (by simp) (by omega) (by simp)) fun r hr=>?_
 obtain⟨nx,rfl,g1,g2,g3⟩:=hr
 have hlen:=g1.len;have htt:=g1.tot
 have h00:([]++ [[]]++ [[]]:Nx).length=2:=rfl
 have ht0:tot ([]++ [[]]++ [[]]:Nx)=0:=rfl
 dsimp only
 refine .ite (fun _=>.some (.inl rfl)) fun hle=>?_
 have hnv:NV nx 300000:=⟨by omega,g1.val,fun s s0 s1=>by have:=jk s0 s1;omega⟩
 show Ok (Option.bind (P.B8 φ ⟨g,o,nx⟩ 0 1) _) _
 refine(dfa_ok (a:=⟨g,o,nx⟩) (nx:=nx) (start:=0) (stop:=1) (m:=g.Terms) rfl hnv (by omega) (by omega) (by omega) rfl t1 (by omega) hφ).bind fun d hd=>?_
 refine .ite (fun _=>.some (.inl rfl)) fun hok=>?_
 obtain⟨k,vd,htl⟩:=hd (by simpa using hok)
 refine(min_ok vd (by omega)).bind fun m ⟨m0,k',hm⟩=>.some (.inr ⟨m0,k',hm.vd,fun w hw hL=>?_,fun he w hw h=>?_,fun hR=>?_⟩)
 ·rw [hm.tell w hw,htl w hw]
  exact g2 (by omega) w hL
 ·rw [hm.tell w hw,htl w hw] at h
  have he:ex=true:=he
  obtain⟨S',a1,a2⟩:=g3 ⟨he,s1,s2,hb.2.1⟩ (fun s v=>if s=1 then v= [] else if s=0 then Lg g.Rules [⟨false,g.Start⟩] v else False) (fun s c t e=>by
   have e:=ed_new.1 (ed_new.1 e)
   obtain⟨a,b,-⟩:=e
   simp at b;omega) fun u v hu hv=>by
    rw [if_pos rfl] at hv
    rw [if_neg (by omega),if_pos rfl,hv,List.append_nil];exact hu
  have q1:=a1 1 (by omega) (by rw [h00];omega)
  have q0:=a1 0 (by omega) (by rw [h00];omega)
  have:=a2.wy h (v:=[]) (by rw [q1];simp)
  rw [q0] at this
  simpa using this
 ·show ex=true
  rw [hex]
  intro a a0 a1 _ e
  rcases(o2 a a0 a1).1.2.2 with h|h|h
  ·omega
  ·exact h.2.2 (hR _)
  ·exact h.2 (hR _)
end Go.Proofs.Ytmfkjilndpchbaa.Ap
