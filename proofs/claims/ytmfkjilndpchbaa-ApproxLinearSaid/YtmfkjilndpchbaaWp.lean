import Derived.Test.YtmfkjilndpchbaaSl9
set_option linter.unusedSectionVars false
namespace Go.Pu
open Go
section
variable {α β σ ρ : Type}
def Ok (o:Option α)(Q:α→Prop):Prop:=∃x,o=some x∧Q x
theorem Ok.some {x:α}{Q:α→Prop}(h:Q x):Ok (some x) Q:=⟨x,rfl,h⟩
theorem Ok.bind {o:Option α}{f:α→Option β}{Q:α→Prop}{R:β→Prop}(h:Ok o Q)(k:∀x,Q x→Ok (f x) R):Ok (o.bind f) R:=by
 obtain⟨x,rfl,hx⟩:=h;exact k x hx
theorem Ok.mono {o:Option α}{Q R:α→Prop}(h:Ok o Q)(k:∀x,Q x→R x):Ok o R:=by
 obtain⟨x,e,hx⟩:=h;exact⟨x,e,k x hx⟩
theorem Ok.ite {c:Prop} [Decidable c]{a b:Option α}{Q:α→Prop}(h1:c→Ok a Q)(h2:¬c→Ok b Q):Ok (if c then a else b) Q:=by
 split
 ·exact h1 ‹_›
 ·exact h2 ‹_›
theorem Ok.eq {o:Option α}{y:α}(h:Ok o (·=y)):o= .some y:=by
 obtain⟨x,e,rfl⟩:=h;exact e
def el [Inhabited α](xs:List α)(i:Int):α:=xs[i.toNat]?.getD default
theorem aG [Inhabited α]{xs:List α}{i:Int}(h0:0≤i)(h1:i<xs.length):ix xs i= .some (el xs i):=by
 unfold ix el
 rw [if_pos h0,List.getElem?_eq_getElem (by omega:i.toNat<xs.length)];rfl
theorem aT [Inhabited α]{xs:List α}{i:Nat}{x:α}(h:xs[i]? = .some x):el xs (i:Int)=x:=by
 simp [el,h]
theorem gE [Inhabited α]{xs:List α}{i:Nat}(h:i<xs.length):xs[i]? = .some (el xs (i:Int)):=by
 unfold el;rw [Int.toNat_natCast,List.getElem?_eq_getElem h];rfl
@[simp] theorem bj {xs : List α} {i : Int} {v : α} : (st xs i v).length = xs.length := by simp [st]
theorem cF [Inhabited α]{xs:List α}{i j:Int}{v:α}(h0:0≤i)(h1:i<xs.length)(h2:0≤j):el (st xs i v) j=if j=i then v else el xs j:=by
 unfold el st
 rw [List.getElem?_set]
 by_cases e:j=i
 ·subst e;rw [if_pos rfl,if_pos (by omega),if_pos rfl];rfl
 ·rw [if_neg (by omega),if_neg e]
theorem dU [Inhabited α]{xs:List α}{i:Int}{v:α}(h0:0≤i)(h1:i<xs.length):el (st xs i v) i=v:=by rw [cF h0 h1 h0,if_pos rfl]
theorem jI [Inhabited α]{xs:List α}{i j:Int}{v:α}(h0:0≤i)(h1:i<xs.length)(h2:0≤j)(h3:j≠i):el (st xs i v) j=el xs j:=by rw [cF h0 h1 h2,if_neg h3]
theorem eR [Inhabited α]{n:Nat}{i:Int}{v:α}(h0:0≤i)(h1:i<n):el (List.replicate n v) i=v:=by
 unfold el;rw [List.getElem?_replicate,if_pos (by omega)];rfl
theorem bg [Inhabited α]{xs ys:List α}{i:Int}(h1:i.toNat<xs.length):el (xs++ys) i=el xs i:=by
 unfold el;rw [List.getElem?_append_left h1]
theorem ef [Inhabited α]{xs:List α}{i:Int}(h0:0≤i)(h1:i<xs.length):el xs i∈xs:=by
 have:=aG h0 h1
 unfold ix at this;rw [if_pos h0] at this
 exact List.mem_of_getElem? this
theorem ext_el [Inhabited α]{xs ys:List α}(hl:xs.length=ys.length)(h:∀i:Int,0≤i→i<xs.length→el xs i=el ys i):xs=ys:=by
 refine List.ext_getElem? fun i=>?_
 rcases Nat.lt_or_ge i xs.length with e|e
 ·rw [gE e,gE (hl▸e),h i (by omega) (by omega)]
 ·rw [List.getElem?_eq_none e,List.getElem?_eq_none (hl▸e)]
theorem fl {b:Nat}{n:Int}{z:α}(h0:0≤n)(h1:(b:Int)*n≤281474976710656)(h2:n≤281474976710656):mk b n n z= .some (List.replicate n.toNat z):=by
 unfold mk;rw [if_pos ⟨h0,Int.le_refl _,h1,h2⟩]
theorem bk {b:Nat}{xs ys:List α}(h:(xs.length+ys.length)*b≤140737488355328):app b xs ys= .some (xs++ys):=by
 unfold app;rw [if_pos h]
theorem bN {n:Int}(h:n≤4611686018427387904):ranO n= .some (ran n):=by
 unfold ranO;rw [if_pos h]
theorem cZ {xs:List α}{lo hi:Int}(h0:0≤lo)(h1:lo≤hi)(h2:hi≤xs.length):sub xs lo hi= .some ((xs.take hi.toNat).drop lo.toNat):=by
 unfold sub;rw [if_pos ⟨h0,h1,h2⟩]
theorem ba {n:Int}:(ran n).length=n.toNat:=by simp [ran]
theorem ce {n:Int}{i:Nat}{x:Int}(h:(ran n)[i]? = .some x):x=i∧(i:Int)<n:=by
 simp only [ran,List.getElem?_map,Option.map_eq_some_iff] at h
 obtain⟨a,h1,rfl⟩:=h
 obtain⟨h2,h3⟩:=List.getElem?_eq_some_iff.1 h1
 rw [List.getElem_range] at h3
 rw [List.length_range] at h2
 subst h3
 exact⟨rfl,by omega⟩
theorem aM {body:Int→α→σ→Option σ}{xs:List α}{s0:σ}(I:Nat→σ→Prop){Q:σ→Prop}(h0:I 0 s0)
 (hb:∀(i:Nat) (x:α) (s:σ),xs[i]? = .some x→I i s→Ok (body i x s) (I (i+1))) (hq:∀s,I xs.length s→Q s):Ok (forP body 0 xs s0) Q:=by
 have key:∀(ys:List α) (k:Nat) (s:σ),xs.drop k=ys→k≤xs.length→I k s→Ok (forP body (k:Int) ys s) Q:=by
  intro ys
  induction ys with
  | nil=>
    intro k s e hk hi
    have:xs.length=k:=by have:=List.drop_eq_nil_iff.1 e;omega
    exact .some (hq s (this▸hi))
  | cons y ys ih=>
    intro k s e hk hi
    have hy:xs[k]? = .some y:=by rw [←Nat.add_zero k,←List.getElem?_drop,e];rfl
    have hk2:=(List.getElem?_eq_some_iff.1 hy).1
    unfold forP
    refine Ok.bind (hb k y s hy hi) fun s' hs'=>?_
    exact ih (k+1) s' (by rw [←List.drop_drop,e];rfl) (by omega) hs'
 exact key xs 0 s0 rfl (by omega) h0
theorem cG {body:Int→α→σ→Option (Step σ ρ)}{xs:List α}{s0:σ}(I:Nat→σ→Prop){Q:Fin σ ρ→Prop}(h0:I 0 s0)
 (hb:∀(i:Nat) (x:α) (s:σ),xs[i]? = .some x→I i s→Ok (body i x s) fun
   | .nx s'=>I (i+1) s'
   | .br s'=>Q (.out s')
   | .rt r=>Q (.rt r)) (hq:∀s,I xs.length s→Q (.out s)):Ok (forL body 0 xs s0) Q:=by
 have key:∀(ys:List α) (k:Nat) (s:σ),xs.drop k=ys→k≤xs.length→I k s→Ok (forL body (k:Int) ys s) Q:=by
  intro ys
  induction ys with
  | nil=>
    intro k s e hk hi
    have:xs.length=k:=by have:=List.drop_eq_nil_iff.1 e;omega
    exact .some (hq s (this▸hi))
  | cons y ys ih=>
    intro k s e hk hi
    have hy:xs[k]? = .some y:=by rw [←Nat.add_zero k,←List.getElem?_drop,e];rfl
    have hk2:=(List.getElem?_eq_some_iff.1 hy).1
    unfold forL
    obtain⟨r,e1,h1⟩:=hb k y s hy hi
    rw [e1]
    cases r with
    | nx s'=>exact ih (k+1) s' (by rw [←List.drop_drop,e];rfl) (by omega) h1
    | br s'=>exact .some h1
    | rt r=>exact .some h1
 exact key xs 0 s0 rfl (by omega) h0
theorem bF {body:σ→Option (Step σ ρ)}{s0:σ}(I:σ→Prop)(μ:σ→Nat){φ:Nat}{Q:Fin σ ρ→Prop}(h0:I s0)
 (hb:∀s,I s→Ok (body s) fun
   | .nx s'=>I s'∧μ s'<μ s
   | .br s'=>Q (.out s')
   | .rt r=>Q (.rt r)) (hφ:μ s0<φ):Ok (whl body φ s0) Q:=by
 induction φ generalizing s0 with
 | zero=>omega
 | succ φ ih=>
   unfold whl
   obtain⟨r,e1,h1⟩:=hb s0 h0
   rw [e1]
   cases r with
   | nx s'=>exact ih h1.1 (by have:=h1.2;omega)
   | br s'=>exact .some h1
   | rt r=>exact .some h1
theorem aN {n:Int}(h1: -9223372036854775808≤n:=by omega)(h2:n≤9223372036854775807:=by omega):W n=n:=W_of h1 h2
end
section
variable {α : Type} [Inhabited α]
def el2 (M:List (List α))(i k:Int):α:=el (el M i) k
def Dim (M:List (List α))(n m:Int):Prop:=(M.length:Int)=n∧∀i,0≤i→i<n→((el M i).length:Int)=m
def st2 (M:List (List α))(i k:Int)(v:α):List (List α):=st M i (st (el M i) k v)
theorem Dim.st2 {M:List (List α)}{n m i k:Int}{v:α}(h:Dim M n m)(h0:0≤i)(h1:i<n):Dim (st2 M i k v) n m:=by
 refine⟨by rw [←h.1,Pu.st2,bj],fun j j0 j1=>?_⟩
 rw [Pu.st2,cF h0 (by rw [h.1];exact h1) j0]
 split
 ·subst_vars;rw [bj];exact h.2 _ j0 j1
 ·exact h.2 _ j0 j1
theorem Dim.el_st2 {M:List (List α)}{n m i k i' k':Int}{v:α}(h:Dim M n m)(h0:0≤i)(h1:i<n)(h2:0≤k)(h3:k<m)(h4:0≤i')(h5:0≤k'):
 el2 (Pu.st2 M i k v) i' k'=if i'=i∧k'=k then v else el2 M i' k':=by
 unfold el2
 rw [Pu.st2,cF h0 (by rw [h.1];exact h1) h4]
 by_cases e:i'=i
 ·subst e
  rw [if_pos rfl,cF h2 (by rw [h.2 _ h0 h1];exact h3) h5]
  by_cases e:k'=k
  ·rw [if_pos e,if_pos ⟨rfl,e⟩]
  ·rw [if_neg e,if_neg fun q=>e q.2]
 ·rw [if_neg e,if_neg fun q=>e q.1]
theorem Dim.ix {M:List (List α)}{n m i:Int}(h:Dim M n m)(h0:0≤i)(h1:i<n):ix M i=some (el M i):=aG h0 (by rw [h.1];exact h1)
theorem Dim.ix2 {M:List (List α)}{n m i k:Int}(h:Dim M n m)(h0:0≤i)(h1:i<n)(h2:0≤k)(h3:k<m):Pu.ix (el M i) k=some (el2 M i k):=aG h2 (by rw [h.2 i h0 h1];exact h3)
end
end Go.Pu
