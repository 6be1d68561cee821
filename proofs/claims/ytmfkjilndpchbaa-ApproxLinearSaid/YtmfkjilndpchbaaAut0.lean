import Derived.Test.YtmfkjilndpchbaaDfa0
namespace Go.Proofs.Ytmfkjilndpchbaa.Df
open Go Go.Ab Go.Pu
def dstep (d:Ty.J5)(s c:Int):Int:=if s<0 then -1 else el2 d.Next s c
def drun (d:Ty.J5)(s:Int)(w:List Int):Int:=w.foldl (dstep d) s
def told (d:Ty.J5)(s:Int):Int:=if s<0 then -1 else el d.Accept s
def tell (d:Ty.J5)(w:List Int):Int:=told d (drun d d.Start w)
theorem eQ (d:Ty.J5):∀w:List Int,drun d (-1) w= -1:=by
 intro w
 induction w with
 | nil=>rfl
 | cons c w ih=>exact ih
theorem dK (d:Ty.J5)(s:Int)(u v:List Int):drun d s (u++v)=drun d (drun d s u) v:=List.foldl_append ..
theorem hQ {d:Ty.J5}{n m s c:Int}(h:VD d n m)(h0: -1≤s)(h1:s<n)(c0:0≤c)(c1:c<m): -1≤dstep d s c∧dstep d s c<n:=by
 have:=h.n1
 unfold dstep
 split
 ·omega
 ·exact h.t1 s c (by omega) h1 c0 c1
theorem Wd.nil {m:Int}:Wd [] m:=fun j a b=>by simp at b;omega
theorem Wd.mem {w:List Int}{m:Int}:Wd w m↔∀c∈w,0≤c∧c<m:=by
 constructor
 ·intro h c hc
  obtain⟨i,hi⟩:=List.getElem?_of_mem hc
  have:=h i (by omega) (by have:=(List.getElem?_eq_some_iff.1 hi).1;omega)
  rwa [aT hi] at this
 ·intro h j j0 j1
  exact h _ (ef j0 j1)
theorem Wd.snoc {w:List Int}{m c:Int}:Wd (w++ [c]) m↔Wd w m∧0≤c∧c<m:=by
 simp only [Wd.mem,List.mem_append,List.mem_singleton]
 constructor
 ·intro h;exact⟨fun x hx=>h x (.inl hx),h c (.inr rfl)⟩
 ·rintro⟨h1,h2⟩ x (hx|rfl)
  ·exact h1 x hx
  ·exact h2
theorem eD {d:Ty.J5}{n m:Int}(h:VD d n m):∀(w:List Int) (s:Int),(∀c∈w,0≤c∧c<m)→ -1≤s→s<n→ -1≤drun d s w∧drun d s w<n:=by
 intro w
 induction w with
 | nil=>intro s _ h0 h1;exact⟨h0,h1⟩
 | cons c w ih=>
   intro s hw h0 h1
   have:=hQ h h0 h1 (hw c (.head _)).1 (hw c (.head _)).2
   exact ih _ (fun x hx=>hw x (.tail _ hx)) this.1 this.2
theorem bu {κ ν:Type} [DecidableEq κ](k k':κ)(v:ν)(m:List (κ×ν)):Pu.mget k (Pu.mput k' v m)=if k=k' then some v else Pu.mget k m:=by
 induction m with
 | nil=>simp only [Pu.mput,Pu.mget]
 | cons p m ih=>
   obtain⟨a,b⟩:=p
   simp only [Pu.mput]
   by_cases e:k'=a
   ·subst e
    rw [if_pos rfl]
    simp only [Pu.mget]
    by_cases e2:k=k'
    ·rw [if_pos e2,if_pos e2]
    ·rw [if_neg e2,if_neg e2,if_neg e2]
   ·rw [if_neg e]
    simp only [Pu.mget]
    by_cases e2:k=a
    ·subst e2;rw [if_pos rfl,if_pos rfl,if_neg (fun q=>e q.symm)]
    ·rw [if_neg e2,if_neg e2];exact ih
theorem mput_len {κ ν:Type} [DecidableEq κ](k:κ)(v:ν)(m:List (κ×ν)):(Pu.mput k v m).length=m.length+if(Pu.mget k m).isSome then 0 else 1:=by
 induction m with
 | nil=>simp [Pu.mput,Pu.mget]
 | cons p m ih=>
   obtain⟨a,b⟩:=p
   simp only [Pu.mput,Pu.mget]
   by_cases e:k=a
   ·simp [e]
   ·rw [if_neg e,if_neg e,List.length_cons,List.length_cons,ih];omega
def key (m:Int)(w:List Int):Int:=w.foldl (fun a c=>a*m+c+1) 0
theorem cp (m:Int)(w:List Int)(c:Int):key m (w++ [c])=key m w*m+c+1:=by simp [key,List.foldl_append]
theorem ga {p:List Int→Prop}(h0:p [])(h1:∀w c,p w→p (w++ [c]))(w:List Int):p w:=by
 have:∀(n:Nat) (w:List Int),w.length=n→p w:=by
  intro n
  induction n with
  | zero=>intro w hw;rw [List.eq_nil_of_length_eq_zero hw];exact h0
  | succ n ih=>
    intro w hw
    rcases List.eq_nil_or_concat w with rfl|⟨u,c,rfl⟩
    ·exact h0
    ·rw [List.concat_eq_append] at hw ⊢
     exact h1 u c (ih u (by simpa using hw))
 exact this _ w rfl
theorem gF {m:Int}(hm:1≤m)(w:List Int):Wd w m→0≤key m w:=by
 refine ga (p:=fun w=>Wd w m→0≤key m w) (fun _=>Int.le_refl _) (fun w c ih h=>?_) w
 rw [Wd.snoc] at h
 rw [cp]
 have:=Int.mul_nonneg (ih h.1) (by omega:0≤m)
 omega
theorem key_pos {m:Int}(hm:1≤m){w:List Int}{c:Int}(h:Wd (w++ [c]) m):0<key m (w++ [c]):=by
 rw [Wd.snoc] at h
 rw [cp]
 have:=Int.mul_nonneg (gF hm w h.1) (by omega:0≤m)
 omega
theorem key_up {m:Int}(hm:1≤m){w:List Int}{c:Int}(h:Wd (w++ [c]) m):key m w<key m (w++ [c]):=by
 rw [Wd.snoc] at h
 have h1:=gF hm w h.1
 rw [cp]
 have:key m w*1≤key m w*m:=Int.mul_le_mul_of_nonneg_left hm h1
 omega
theorem jK {m:Int}(hm:1≤m){u v:List Int}{c e:Int}(h:key m u<key m v)(c1:c<m)(e0:0≤e):key m (u++ [c])<key m (v++ [e]):=by
 rw [cp,cp]
 have:(key m u+1)*m≤key m v*m:=Int.mul_le_mul_of_nonneg_right (by omega) (by omega)
 rw [Int.add_mul] at this
 omega
theorem key_le {m:Int}(hm:1≤m){u v:List Int}{c:Int}(h:key m u≤key m v):key m (u++ [c])≤key m (v++ [c]):=by
 rw [cp,cp]
 have:key m u*m≤key m v*m:=Int.mul_le_mul_of_nonneg_right h (by omega)
 omega
theorem il {N:Nat}(l:List Int)(hn:l.Nodup)(h:∀x∈l,0≤x∧x<N):l.length≤N:=by
 have h1:(l.map Int.toNat).Nodup:=by
  rw [List.nodup_iff_pairwise_ne] at hn ⊢
  rw [List.pairwise_map]
  refine List.Pairwise.imp_of_mem (fun {a b} ha hb hab=>?_) hn
  have:=h a ha;have:=h b hb
  omega
 have h2:∀x∈l.map Int.toNat,x∈List.range N:=by
  intro x hx
  obtain⟨y,hy,rfl⟩:=List.mem_map.1 hx
  have:=h y hy
  rw [List.mem_range];omega
 have:=List.Nodup.length_le_of_subset h1 h2
 simpa using this
theorem bh {α:Type} [Inhabited α]{xs ys:List α}{j:Int}(j0:0≤j)(j1:j<xs.length):el (xs++ys) j=el xs j:=bg (by omega)
end Go.Proofs.Ytmfkjilndpchbaa.Df
