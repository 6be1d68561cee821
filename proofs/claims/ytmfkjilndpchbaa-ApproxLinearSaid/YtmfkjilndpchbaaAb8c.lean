import Derived.Calls
import Derived.Orders
import Derived.Tactics
import Derived.Laws.CopyRow
import Derived.Laws.Cells
import Derived.Laws.NewBlocks
import Derived.Below
import Derived.Laws.AppendOwn
import Derived.Laws.StructEq
import Derived.Laws.MakeOwn
import Derived.Laws.Build
import Derived.Laws.Append
import Derived.IntWalk
import Derived.MapKept
import Derived.ChangeKeysEq
import Derived.WideKeyRuns
namespace Go.Ab
open Go
structure Loc where
 base:Addr
 ext:Nat
 sz:Nat
abbrev Emb:=Nat→Option Loc
def Emb.le (i j:Emb):Prop:=∀b L,i b=some L→j b=some L
theorem Emb.le.refl (i:Emb):i.le i:=fun _ _ h=>h
theorem Emb.le.trans {i j k:Emb}(h:i.le j)(h':j.le k):i.le k:=fun b L hb=>h' b L (h b L hb)
theorem dd (a:Addr)(m n:Nat):(a.add m).add n=a.add (m+n):=by
 unfold Addr.add
 by_cases h1:m=0<;>by_cases h2:n=0<;>simp [h1,h2,Nat.add_assoc]
theorem cT (a:Addr)(m:Nat):(a.add m).block=a.block:=by unfold Addr.add;split<;>rfl
theorem bY (g o m:Nat):(⟨g,o,none⟩:Addr).add m=⟨g,o+m,none⟩:=by unfold Addr.add;split<;>simp_all
inductive VR (ι:Emb):Value→Value→Prop
 | bool (b:Bool):VR ι (.bool b) (.bool b)
 | int (k:IntKind) (n:Int):VR ι (.int k n) (.int k n)
 | str (s:ByteArray):VR ι (.string s) (.string s)
 | pnil:VR ι (.pointer none) (.pointer none)
 | ptr (b off:Nat) (L:Loc) (h:ι b=some L):VR ι (.pointer (some ⟨b,off,none⟩)) (.pointer (some (L.base.add off)))
 | snil:VR ι (.slice none 0 0) (.slice none 0 0)
 | sl (b off n m c:Nat) (L:Loc) (A:Addr) (h:ι b=some L) (hn:n≤m∧m≤c) (hc:c=0∨(A=L.base.add off∧off+c*L.sz≤L.ext)):
  VR ι (.slice (some ⟨b,off,none⟩) n m) (.slice (some A) n c)
 | mnil:VR ι (.map none) (.map none)
 | mp (b:Nat) (L:Loc) (h:ι b=some L):VR ι (.map (some b)) (.map (some L.base.block))
 | fnil:VR ι .nilFunc .nilFunc
 | fn (f:Fn) (cs cs':Array Value) (hs:cs.size=cs'.size) (h:∀(j:Nat) (v v':Value),cs[j]? =some v→cs'[j]? =some v'→VR ι v v'):
  VR ι (.func f #[] cs) (.func f #[] cs')
 | inil:VR ι .nilIface .nilIface
 | ifc (t:TypeId) (v v':Value) (h:VR ι v v'):VR ι (.iface t v) (.iface t v')
 | agg (cs cs':Array Value) (hs:cs.size=cs'.size) (h:∀(j:Nat) (v v':Value),cs[j]? =some v→cs'[j]? =some v'→VR ι v v'):VR ι (.agg cs) (.agg cs')
 | tup (cs cs':Array Value) (hs:cs.size=cs'.size) (h:∀(j:Nat) (v v':Value),cs[j]? =some v→cs'[j]? =some v'→VR ι v v'):VR ι (.tuple cs) (.tuple cs')
 | anyt (cs':Array Value):VR ι (.tuple #[]) (.tuple cs')
theorem VR.mono {ι ι':Emb}(hi:ι.le ι'){v v':Value}(h:VR ι v v'):VR ι' v v':=by
 induction h with
 | bool b=>exact .bool b
 | int k n=>exact .int k n
 | str s=>exact .str s
 | pnil=>exact .pnil
 | ptr b off L h=>exact .ptr b off L (hi _ _ h)
 | snil=>exact .snil
 | sl b off n m c L A h hn hc=>exact .sl b off n m c L A (hi _ _ h) hn hc
 | mnil=>exact .mnil
 | mp b L h=>exact .mp b L (hi _ _ h)
 | fnil=>exact .fnil
 | fn f cs cs' hs _ ih=>exact .fn f cs cs' hs ih
 | inil=>exact .inil
 | ifc t v v' _ ih=>exact .ifc t v v' ih
 | agg cs cs' hs _ ih=>exact .agg cs cs' hs ih
 | tup cs cs' hs _ ih=>exact .tup cs cs' hs ih
 | anyt cs'=>exact .anyt cs'
theorem VR.slice_inv {ι:Emb}{a:Addr}{n m:Nat}{v':Value}(h:VR ι (.slice (some a) n m) v'):∃b off c L A,a=⟨b,off,none⟩∧(n≤m∧m≤c)∧v'= .slice (some A) n c∧
 ι b=some L∧n≤c∧(c=0∨(A=L.base.add off∧off+c*L.sz≤L.ext)):=by
 generalize hv:Value.slice (some a) n m=v at h
 cases h<;>cases hv
 exact⟨_,_,_,_,_,rfl,by assumption,rfl,by assumption,by omega,by assumption⟩
theorem VR.snil_inv {ι:Emb}{n m:Nat}{v':Value}(h:VR ι (.slice none n m) v'):v'= .slice none 0 0∧n=0∧m=0:=by
 generalize hv:Value.slice none n m=v at h
 cases h<;>cases hv
 exact⟨rfl,rfl,rfl⟩
theorem VR.ptr_inv {ι:Emb}{a:Addr}{v':Value}(h:VR ι (.pointer (some a)) v'):∃b off L,a=⟨b,off,none⟩∧v'= .pointer (some (L.base.add off))∧ι b=some L:=by
 generalize hv:Value.pointer (some a)=v at h
 cases h<;>cases hv
 exact⟨_,_,_,rfl,rfl,by assumption⟩
theorem VR.one {ι:Emb}{v v':Value}(h:VR ι v v'):v'.oneCell'=v.oneCell':=by cases h<;>rfl
def VRs (ι:Emb)(l l':List Value):Prop:=l.length=l'.length∧∀(j:Nat) (v v':Value),l[j]? =some v→l'[j]? =some v'→VR ι v v'
theorem VRs.nil {ι:Emb}:VRs ι [] []:=⟨rfl,fun _ _ _ h=>by simp at h⟩
theorem VRs.cons {ι:Emb}{v v':Value}{l l':List Value}(h:VR ι v v')(hl:VRs ι l l'):VRs ι (v::l) (v'::l'):=
 ⟨by simp [hl.1],fun j=>by
   cases j with
   | zero=>intro u u' a b;simp at a b;subst a;subst b;exact h
   | succ j=>intro u u' a b;exact hl.2 j u u' (by simpa using a) (by simpa using b)⟩
theorem VRs.cons_inv {ι:Emb}{v:Value}{l l':List Value}(h:VRs ι (v::l) l'):∃v' r,l'=v'::r∧VR ι v v'∧VRs ι l r:=by
 cases l' with
 | nil=>simp [VRs] at h
 | cons v' r=>exact⟨v',r,rfl,h.2 0 _ _ rfl rfl,by have:=h.1;simpa using this,fun j u u' a b=>h.2 (j+1) u u' (by simpa using a) (by simpa using b)⟩
theorem VRs.nil_inv {ι:Emb}{l':List Value}(h:VRs ι [] l'):l'= []:=List.eq_nil_of_length_eq_zero h.1.symm
theorem VRs.get {ι:Emb}{l l':List Value}(h:VRs ι l l'){j:Nat}{v:Value}(hv:l[j]? =some v):∃v',l'[j]? =some v'∧VR ι v v':=by
 have hj:j<l.length:=by
  rcases Nat.lt_or_ge j l.length with h|h
  ·exact h
  ·simp [List.getElem?_eq_none h] at hv
 have hj':j<l'.length:=h.1▸hj
 exact⟨l'[j],by simp [hj'],h.2 j v _ hv (by simp [hj'])⟩
theorem VRs.get' {ι:Emb}{l l':List Value}(h:VRs ι l l'){j:Nat}{v':Value}(hv:l'[j]? =some v'):∃v,l[j]? =some v∧VR ι v v':=by
 have hj:j<l'.length:=by
  rcases Nat.lt_or_ge j l'.length with h|h
  ·exact h
  ·simp [List.getElem?_eq_none h] at hv
 have hj':j<l.length:=h.1▸hj
 exact⟨l[j],by simp [hj'],h.2 j _ v' (by simp [hj']) hv⟩
theorem VRs.append {ι:Emb}{a a' b b':List Value}(h:VRs ι a a')(k:VRs ι b b'):VRs ι (a++b) (a'++b'):=by
 refine⟨by simp [h.1,k.1],fun j v v' hv hv'=>?_⟩
 by_cases hj:j<a.length
 ·rw [List.getElem?_append_left hj] at hv
  rw [List.getElem?_append_left (h.1▸hj)] at hv'
  exact h.2 j v v' hv hv'
 ·rw [List.getElem?_append_right (by omega)] at hv
  rw [List.getElem?_append_right (by have:=h.1;omega)] at hv'
  rw [h.1] at hv
  exact k.2 _ v v' hv hv'
theorem VRs.take {ι:Emb}{a a':List Value}(h:VRs ι a a')(n:Nat):VRs ι (a.take n) (a'.take n):=by
 refine⟨by simp [h.1],fun j v v' hv hv'=>?_⟩
 rw [List.getElem?_take] at hv hv'
 split at hv
 ·rename_i hj;rw [if_pos hj] at hv';exact h.2 j v v' hv hv'
 ·cases hv
theorem VRs.drop {ι:Emb}{a a':List Value}(h:VRs ι a a')(n:Nat):VRs ι (a.drop n) (a'.drop n):=by
 refine⟨by simp [h.1],fun j v v' hv hv'=>?_⟩
 rw [List.getElem?_drop] at hv hv'
 exact h.2 _ v v' hv hv'
theorem VRs.one {ι:Emb}{l l':List Value}(h:VRs ι l l')(h1:l.all Value.oneCell'=true):∀v∈l',v.oneCell'=true:=by
 intro v hv
 obtain⟨j,hj⟩:=List.getElem?_of_mem hv
 obtain⟨u,hu,huv⟩:=h.get' hj
 rw [huv.one]
 exact List.all_eq_true.1 h1 u (List.mem_of_getElem? hu)
theorem VR.cells {ι:Emb}{v v':Value}(h:VR ι v v'):VRs ι v.cells.toList v'.cells.toList:=by
 cases h<;>first
  | exact VRs.cons (.anyt _) VRs.nil
  | (refine VRs.cons ?_ VRs.nil;constructor<;>assumption)
  | (rename_i cs cs' hs h;exact⟨by simpa [Value.cells] using hs,fun j v v' a b=>h j v v' (by simpa [Value.cells] using a) (by simpa [Value.cells] using b)⟩)
theorem VR.of_agg {ι:Emb}{l l':List Value}(h:VRs ι l l'):VR ι (.agg l.toArray) (.agg l'.toArray):=
 .agg _ _ (by simpa using h.1) fun j v v' a b=>h.2 j v v' (by simpa using a) (by simpa using b)
theorem VR.of_tup {ι:Emb}{l l':List Value}(h:VRs ι l l'):VR ι (.tuple l.toArray) (.tuple l'.toArray):=
 .tup _ _ (by simpa using h.1) fun j v v' a b=>h.2 j v v' (by simpa using a) (by simpa using b)
inductive Blk where
 | dead
 | ro (sz:Nat) (vs:List Value)
 | rw (sz:Nat) (vs:List Value)
 | mp (es:List (Value×Value))
abbrev Hp:=List Blk
def Blk.cells:Blk→Option (List Value)
 | .ro _ vs=>some vs
 | .rw _ vs=>some vs
 | _=>none
def Blk.owned:Blk→Bool
 | .rw .. =>true
 | .mp .. =>true
 | _=>false
def Hp.cells (H:Hp)(b:Nat):Option (List Value):=(H[b]?).bind Blk.cells
def Blk.esz:Blk→Option Nat
 | .ro z _=>some z
 | .rw z _=>some z
 | _=>none
def Hp.esz (H:Hp)(b:Nat):Option Nat:=(H[b]?).bind Blk.esz
def Hp.owned (H:Hp)(b:Nat):Bool:=((H[b]?).map Blk.owned).getD false
def MapRel (ι:Emb)(es:List (Value×Value))(entries:Array MapEntry)(clock:Nat):Prop:=
 es.length=entries.size∧(∀(j:Nat) (k v:Value) (e:MapEntry),es[j]? =some (k,v)→entries[j]? =some e→VR ι k e.key∧VR ι v e.val)∧
 (∀(j:Nat) (e:MapEntry),entries[j]? =some e→e.born<clock)∧(∀(j j':Nat) (e e':MapEntry),j<j'→entries[j]? =some e→entries[j']? =some e'→e.born<e'.born)
theorem MapRel.mono {ι ι':Emb}(hi:ι.le ι'){es:List (Value×Value)}{en:Array MapEntry}{c:Nat}(h:MapRel ι es en c):MapRel ι' es en c:=
 ⟨h.1,fun j k v e a b=>⟨(h.2.1 j k v e a b).1.mono hi,(h.2.1 j k v e a b).2.mono hi⟩,h.2.2⟩
structure Sim (ι:Emb)(H:Hp)(w:World):Prop where
 cells:∀b vs,H.cells b=some vs→∃L,ι b=some L∧∀(j:Nat) (v:Value),vs[j]? =some v→∃v',w.cell? (L.base.add j)=some v'∧VR ι v v'
 rosz:∀b sz vs,H[b]? =some (.ro sz vs)→∃L,ι b=some L∧L.sz=sz
 own:∀b sz vs,H[b]? =some (.rw sz vs)→∃L cur t,ι b=some L∧L.base.spot=none∧L.sz=sz∧w.heap[L.base.block]? =some (.cells cur t (0,0))∧
  L.base.off+L.ext≤cur.size∧vs.length≤L.ext
 maps:∀b es,H[b]? =some (.mp es)→∃L entries clock,ι b=some L∧w.heap[L.base.block]? =some (.map entries clock)∧MapRel ι es entries clock
 dom:∀b L,ι b=some L→b<H.length
 sep:∀b b' L L',b≠b'→H.owned b=true→(H.owned b'=true∨∃z v vs,H[b']? =some (.ro z (v::vs)))→ι b=some L→ι b'=some L'→L.base.block≠L'.base.block
def OwnW (ι:Emb)(H:Hp)(g:Nat):Prop:=∃b L,ι b=some L∧L.base.block=g∧H.owned b=true
structure Fr (ι:Emb)(H:Hp)(w:World)(ι':Emb)(H':Hp)(w':World):Prop where
 os:w'.os=w.os
 tape:w'.tape=w.tape
 output:w'.output=w.output
 size:w.heap.size≤w'.heap.size
 emb:ι.le ι'
 len:H.length≤H'.length
 old:∀b,b<H.length→ι' b=ι b
 dead:∀b:Nat,H[b]? =some Blk.dead→H'[b]? =some Blk.dead
 ro:∀(b z:Nat) (vs:List Value),H'[b]? =some (Blk.ro z vs)→H[b]? =some (Blk.ro z vs)
 keep:∀g,g<w.heap.size→¬OwnW ι H g→w'.heap[g]? =w.heap[g]?
 own:∀g,g<w.heap.size→OwnW ι' H' g→OwnW ι H g
theorem Fr.refl (ι:Emb)(H:Hp)(w:World):Fr ι H w ι H w:=⟨rfl,rfl,rfl,Nat.le_refl _,Emb.le.refl ι,Nat.le_refl _,fun _ _=>rfl,fun _ h=>h,fun _ _ _ h=>h,fun _ _ _=>rfl,fun _ _ h=>h⟩
theorem Fr.trans {ι ι1 ι2:Emb}{H H1 H2:Hp}{w w1 w2:World}(a:Fr ι H w ι1 H1 w1)(b:Fr ι1 H1 w1 ι2 H2 w2):Fr ι H w ι2 H2 w2:=
 ⟨b.os.trans a.os,b.tape.trans a.tape,b.output.trans a.output,Nat.le_trans a.size b.size,a.emb.trans b.emb,Nat.le_trans a.len b.len,fun x hx=>(b.old x (Nat.lt_of_lt_of_le hx a.len)).trans (a.old x hx),fun x hx=>b.dead x (a.dead x hx),fun x z vs h=>a.ro x z vs (b.ro x z vs h),
   fun g hg hn=>(b.keep g (Nat.lt_of_lt_of_le hg a.size) fun h=>hn (a.own g hg h)).trans (a.keep g hg hn),
   fun g hg h=>a.own g hg (b.own g (Nat.lt_of_lt_of_le hg a.size) h)⟩
theorem Fr.below {ι ι':Emb}{H H':Hp}{w w':World}(f:Fr ι H w ι' H' w')(h:∀b,H.owned b=false):Go.RowKit.Below w.heap.size w w':=
 ⟨f.os,f.tape,f.output,f.size,fun g hg=>f.keep g hg fun⟨b,_,_,_,ho⟩=>by simp [h b] at ho⟩
theorem bL {H:Hp}{b sz:Nat}{vs:List Value}(h:H[b]? =some (.rw sz vs)):H.owned b=true:=by simp [Hp.owned,h,Blk.owned]
theorem ct {H:Hp}{b:Nat}{es:List (Value×Value)}(h:H[b]? =some (.mp es)):H.owned b=true:=by simp [Hp.owned,h,Blk.owned]
theorem Sim.drew {ι:Emb}{H:Hp}{w:World}(h:Sim ι H w):Sim ι H w.drew:=
 ⟨h.cells,h.rosz,h.own,h.maps,h.dom,h.sep⟩
theorem Fr.of_drew {ι ι':Emb}{H H':Hp}{w w':World}(h:Fr ι H w.drew ι' H' w'):Fr ι H w ι' H' w':=
 ⟨h.os,h.tape,h.output,h.size,h.emb,h.len,h.old,h.dead,h.ro,h.keep,h.own⟩
theorem Sim.own_lt {ι:Emb}{H:Hp}{w:World}(s:Sim ι H w){b:Nat}{L:Loc}(ho:H.owned b=true)(hL:ι b=some L):L.base.block<w.heap.size:=by
 unfold Hp.owned at ho
 cases hb:H[b]? with
 | none=>simp [hb] at ho
 | some x=>
   cases x with
   | dead=>simp [hb,Blk.owned] at ho
   | ro z vs=>simp [hb,Blk.owned] at ho
   | rw sz vs=>
     obtain⟨L',cur,t,h1,_,_,h2,_⟩:=s.own b sz vs hb
     rw [hL] at h1;cases h1
     exact(Array.getElem?_eq_some_iff.1 h2).1
   | mp es=>
     obtain⟨L',en,c,h1,h2,_⟩:=s.maps b es hb
     rw [hL] at h1;cases h1
     exact(Array.getElem?_eq_some_iff.1 h2).1
theorem Sim.read {ι:Emb}{H:Hp}{w:World}(s:Sim ι H w){b:Nat}{vs:List Value}(hb:H.cells b=some vs):
 ∃L vs',ι b=some L∧VRs ι vs vs'∧∀(j:Nat) (v:Value),vs'[j]? =some v→w.cell? (L.base.add j)=some v:=by
 obtain⟨L,hL,hc⟩:=s.cells b vs hb
 refine⟨L,(List.range vs.length).map fun j=>(w.cell? (L.base.add j)).getD undef,hL,⟨by simp,fun j v v' hv hv'=>?_⟩,fun j v hv=>?_⟩
 ·obtain⟨u,hu,huv⟩:=hc j v hv
  have hj:j<vs.length:=by
   rcases Nat.lt_or_ge j vs.length with h|h
   ·exact h
   ·simp [List.getElem?_eq_none h] at hv
  simp [hj,hu] at hv'
  subst hv';exact huv
 ·have hj:j<vs.length:=by
   rcases Nat.lt_or_ge j vs.length with h|h
   ·exact h
   ·rw [List.getElem?_eq_none (by simpa using h)] at hv;cases hv
  obtain⟨u,hu,_⟩:=hc j vs[j] (by simp [hj])
  simp [hj,hu] at hv
  subst hv;exact hu
theorem Sim.esz {ι:Emb}{H:Hp}{w:World}(s:Sim ι H w){b z:Nat}(h:H.esz b=some z){L:Loc}(hL:ι b=some L):L.sz=z:=by
 unfold Hp.esz at h
 cases hb:H[b]? with
 | none=>simp [hb] at h
 | some x=>
   cases x with
   | ro z' vs=>
     simp [hb,Blk.esz] at h
     obtain⟨L',h1,h2⟩:=s.rosz b z' vs hb
     rw [hL] at h1;cases h1;exact h2.trans h
   | rw z' vs=>
     simp [hb,Blk.esz] at h
     obtain⟨L',cur,t,h1,_,h2,_⟩:=s.own b z' vs hb
     rw [hL] at h1;cases h1;exact h2.trans h
   | dead=>simp [hb,Blk.esz] at h
   | mp es=>simp [hb,Blk.esz] at h
end Go.Ab
namespace Go.Ab
open Go
def Emb.put (ι:Emb)(n:Nat)(L:Loc):Emb:=fun b=>if b=n then some L else ι b
theorem Emb.put_same (ι:Emb)(n:Nat)(L:Loc):(ι.put n L) n=some L:=by simp [Emb.put]
theorem Emb.put_other (ι:Emb){n b:Nat}(L:Loc)(h:b≠n):(ι.put n L) b=ι b:=by simp [Emb.put,h]
theorem Emb.put_le {ι:Emb}{n:Nat}{L:Loc}(h:ι n=none):ι.le (ι.put n L):=fun b K hb=>by
 rw [Emb.put_other ι L (fun e=>by subst e;rw [h] at hb;cases hb)];exact hb
theorem Sim.new_none {ι:Emb}{H:Hp}{w:World}(s:Sim ι H w):ι H.length=none:=by
 cases h:ι H.length with
 | none=>rfl
 | some L=>exact absurd (s.dom _ _ h) (Nat.lt_irrefl _)
theorem ey {H H':Hp}{b:Nat}(h:H'[b]? =H[b]?):H'.cells b=H.cells b:=by unfold Hp.cells;rw [h]
theorem bw {H H':Hp}{b:Nat}(h:H'[b]? =H[b]?):H'.owned b=H.owned b:=by unfold Hp.owned;rw [h]
theorem ea {H:Hp}{b:Nat}(h:H[b]? =some .dead):H.cells b=none:=by unfold Hp.cells;rw [h];rfl
theorem cq {H:Hp}{b:Nat}(h:H[b]? =some .dead):H.owned b=false:=by unfold Hp.owned;rw [h];rfl
theorem Sim.step {ι ι':Emb}{H H':Hp}{w w':World}(s:Sim ι H w)(b0:Nat)(hle:ι.le ι')
 (hι:∀b L,b≠b0→ι' b=some L→ι b=some L) (hdom:∀b L,ι' b=some L→b<H'.length)
 (hH:∀b,b≠b0→H'[b]? =H[b]? ∨H'[b]? =some .dead)
 (hw:∀b L,b≠b0→ι b=some L→H'[b]? =H[b]? →H.owned b=true∨(∃z v vs,H[b]? =some (.ro z (v::vs)))→w'.heap[L.base.block]? =w.heap[L.base.block]?)
 (hcells:∀vs,H'.cells b0=some vs→∃L,ι' b0=some L∧∀(j:Nat) (v:Value),vs[j]? =some v→∃v',w'.cell? (L.base.add j)=some v'∧VR ι' v v')
 (hown:∀sz vs,H'[b0]? =some (.rw sz vs)→∃L cur t,ι' b0=some L∧L.base.spot=none∧L.sz=sz∧w'.heap[L.base.block]? =some (.cells cur t (0,0))∧
   L.base.off+L.ext≤cur.size∧vs.length≤L.ext)
 (hmaps:∀es,H'[b0]? =some (.mp es)→∃L entries clock,ι' b0=some L∧w'.heap[L.base.block]? =some (.map entries clock)∧MapRel ι' es entries clock)
 (hsep:H'.owned b0=true→∀b L0 L,b≠b0→H'[b]? =H[b]? →(H.owned b=true∨∃z v vs,H[b]? =some (.ro z (v::vs)))→ι' b0=some L0→ι b=some L→L0.base.block≠L.base.block)
 (hnew:∀z vs,H'[b0]? ≠some (.ro z vs)):Sim ι' H' w':=by
 refine⟨fun b vs hb=>?_,fun b sz vs hb=>?_,fun b sz vs hb=>?_,fun b es hb=>?_,hdom,fun b b' L L' hne ho ho' hL hL'=>?_⟩
 ·by_cases e:b=b0
  ·subst e;exact hcells vs hb
  ·rcases hH b e with h|h
   ·rw [ey h] at hb
    obtain⟨L,hL,hc⟩:=s.cells b vs hb
    refine⟨L,hle b L hL,fun j v hv=>?_⟩
    obtain⟨v',hv',hr⟩:=hc j v hv
    refine⟨v',?_,hr.mono hle⟩
    rw [←hv']
    refine World.cell?_of_block (w:=w) ?_
    rw [cT]
    refine hw b L e hL h ?_
    unfold Hp.cells at hb
    cases hx:H[b]? with
    | none=>simp [hx] at hb
    | some x=>
      cases x with
      | dead=>simp [hx,Blk.cells] at hb
      | ro z us=>
        right
        simp [hx,Blk.cells] at hb
        subst hb
        cases us with
        | nil=>simp at hv
        | cons u us=>exact⟨z,u,us,rfl⟩
      | rw sz us=>exact .inl (bL hx)
      | mp es=>simp [hx,Blk.cells] at hb
   ·rw [ea h] at hb;cases hb
 ·by_cases e:b=b0
  ·subst e;exact absurd hb (hnew sz vs)
  ·rcases hH b e with h|h
   ·rw [h] at hb
    obtain⟨L,h1,h2⟩:=s.rosz b sz vs hb
    exact⟨L,hle b L h1,h2⟩
   ·rw [h] at hb;cases hb
 ·by_cases e:b=b0
  ·subst e;exact hown sz vs hb
  ·rcases hH b e with h|h
   ·rw [h] at hb
    obtain⟨L,cur,t,h1,h2,h3,h4,h5⟩:=s.own b sz vs hb
    refine⟨L,cur,t,hle b L h1,h2,h3,?_,h5⟩
    rw [←h4]
    exact hw b L e h1 h (.inl (bL hb))
   ·rw [h] at hb;cases hb
 ·by_cases e:b=b0
  ·subst e;exact hmaps es hb
  ·rcases hH b e with h|h
   ·rw [h] at hb
    obtain⟨L,en,cl,h1,h2,h3⟩:=s.maps b es hb
    refine⟨L,en,cl,hle b L h1,?_,h3.mono hle⟩
    rw [←h2]
    exact hw b L e h1 h (.inl (ct hb))
   ·rw [h] at hb;cases hb
 ·have old:∀c,c≠b0→(H'.owned c=true∨∃z v vs,H'[c]? =some (.ro z (v::vs)))→H'[c]? =H[c]? ∧(H.owned c=true∨∃z v vs,H[c]? =some (.ro z (v::vs))):=by
   intro c hc h
   rcases hH c hc with e|e
   ·refine⟨e,?_⟩
    rw [bw e] at h
    rw [e] at h
    exact h
   ·rw [cq e] at h
    rw [e] at h
    simp at h
  by_cases e:b=b0
  ·subst e
   obtain⟨h1,h2⟩:=old b' (fun e=>hne e.symm) ho'
   exact hsep ho b' L L' (fun e=>hne e.symm) h1 h2 hL (hι b' L' (fun e=>hne e.symm) hL')
  ·obtain⟨h1,h2⟩:=old b e (.inl ho)
   by_cases e':b'=b0
   ·subst e'
    exact fun x=>hsep (ho'.resolve_right fun⟨z,v,vs,h⟩=>hnew z _ h) b L' L e h1 h2 hL' (hι b L e hL) x.symm
   ·obtain⟨h1',h2'⟩:=old b' e' ho'
    rw [bw h1] at ho
    exact s.sep b b' L L' hne ho h2' (hι b L e hL) (hι b' L' e' hL')
theorem Sim.live_lt {ι:Emb}{H:Hp}{w:World}(s:Sim ι H w){b:Nat}{L:Loc}(hL:ι b=some L)
 (h:H.owned b=true∨∃z v vs,H[b]? =some (.ro z (v::vs))):L.base.block<w.heap.size:=by
 rcases h with h|⟨z,v,vs,h⟩
 ·exact s.own_lt h hL
 ·obtain⟨L',hL',hc⟩:=s.cells b (v::vs) (by simp [Hp.cells,h,Blk.cells])
  rw [hL] at hL';cases hL'
  obtain⟨v',hv',_⟩:=hc 0 v rfl
  have:=World.block_lt_of_cell? w _ hv'
  rwa [cT] at this
theorem Sim.newRow {ι:Emb}{H:Hp}{w:World}(s:Sim ι H w)(sz:Nat)(vs:List Value)(c:Array Value)(t:TypeId)
 (hc:∀(j:Nat) (v:Value),vs[j]? =some v→∃v',c[j]? =some v'∧VR ι v v') (hl:vs.length≤c.size):
 Sim (ι.put H.length ⟨⟨w.heap.size,0,none⟩,c.size,sz⟩) (H++ [.rw sz vs]) (w.alloc (.cells c t))∧
 Fr ι H w (ι.put H.length ⟨⟨w.heap.size,0,none⟩,c.size,sz⟩) (H++ [.rw sz vs]) (w.alloc (.cells c t)):=by
 have hle:ι.le (ι.put H.length ⟨⟨w.heap.size,0,none⟩,c.size,sz⟩):=Emb.put_le s.new_none
 have hnew:(H++ [Blk.rw sz vs])[H.length]? =some (.rw sz vs):=by simp
 have hold:∀b,b<H.length→(H++ [Blk.rw sz vs])[b]? =H[b]? :=fun b hb=>List.getElem?_append_left hb
 have hheap:(w.alloc (.cells c t)).heap[w.heap.size]? =some (.cells c t (0,0)):=by show(w.heap.push _)[w.heap.size]? =_;simp
 refine⟨Sim.step s H.length hle (fun b L hb h=>by rwa [Emb.put_other ι _ hb] at h) (fun b L h=>?_) (fun b hb=>.inl ?_) (fun b L _ hL _ hlive=>?_) (fun us h=>?_)
  (fun sz' us h=>?_) (fun es h=>?_) (fun _ b L0 L hb _ hlive h0 hL=>?_) (fun v us h=>?_),?_⟩
 ·by_cases e:b=H.length
  ·subst e;simp
  ·rw [Emb.put_other ι _ e] at h;have:=s.dom b L h;simp;omega
 ·rcases Nat.lt_or_ge b H.length with h|h
  ·exact hold b h
  ·rw [List.getElem?_eq_none (by simp;omega),List.getElem?_eq_none h]
 ·exact Below.heap_alloc' w _ _ (s.live_lt hL hlive)
 ·have:us=vs:=by simpa [Hp.cells,Blk.cells] using h.symm
  subst this
  refine⟨_,Emb.put_same ..,fun j v hv=>?_⟩
  obtain⟨v',h1,h2⟩:=hc j v hv
  refine⟨v',?_,h2.mono hle⟩
  rw [bY,Nat.zero_add,World.cell?_alloc_new];exact h1
 ·rw [hnew] at h;cases h
  exact⟨_,c,t,Emb.put_same ..,rfl,rfl,hheap,by simp,hl⟩
 ·rw [hnew] at h;cases h
 ·rw [Emb.put_same] at h0;cases h0
  exact Nat.ne_of_gt (s.live_lt hL hlive)
 ·rw [hnew] at h;cases h
 ·refine⟨rfl,rfl,rfl,by simp,hle,by simp,fun b hb=>Emb.put_other ι _ (Nat.ne_of_lt hb),fun b hb=>by rw [hold b (List.getElem?_eq_some_iff.1 hb).1];exact hb,fun b z us hb=>by
   by_cases e:b=H.length
   ·subst e;rw [hnew] at hb;cases hb
   ·have hlt:=(List.getElem?_eq_some_iff.1 hb).1
    rw [hold b (by simp at hlt;omega)] at hb;exact hb,fun g hg _=>Below.heap_alloc' w _ _ hg,fun g hg h=>?_⟩
  obtain⟨b,L,hL,hb,ho⟩:=h
  by_cases e:b=H.length
  ·subst e;rw [Emb.put_same] at hL;cases hL;simp at hb;omega
  ·rw [Emb.put_other ι _ e] at hL
   refine⟨b,L,hL,hb,?_⟩
   rwa [bw (hold b (s.dom b L hL))] at ho
where
 Below.heap_alloc' (w:World) (o:Obj) (k:Nat) (h:k<w.heap.size):(w.alloc o).heap[k]? =w.heap[k]? :=Go.RowKit.Below.heap_alloc w o k h
theorem Sim.rewrite {ι:Emb}{H:Hp}{w:World}(s:Sim ι H w){b sz:Nat}{vs:List Value}{L:Loc}(hb:H[b]? =some (.rw sz vs))(hL:ι b=some L)
 {cur:Array Value} {t:TypeId} (hg:w.heap[L.base.block]? =some (.cells cur t (0,0))) (c:Array Value) (hc:c.size=cur.size) (ws:List Value) (hfit:ws.length≤L.ext)
 (hcells:∀(j:Nat) (v:Value),ws[j]? =some v→∃v',c[L.base.off+j]? =some v'∧VR ι v v'):
 Sim ι (H.set b (.rw sz ws)) (w.setRow L.base.block c)∧Fr ι H w ι (H.set b (.rw sz ws)) (w.setRow L.base.block c):=by
 obtain⟨L',cur',t',h1,h2,h3,h4,h5,h6⟩:=s.own b sz vs hb
 rw [hL] at h1;cases h1
 rw [hg] at h4;cases h4
 have hlt:b<H.length:=s.dom b L hL
 have hnew:(H.set b (Blk.rw sz ws))[b]? =some (.rw sz ws):=by simp [hlt]
 have hold:∀x,x≠b→(H.set b (Blk.rw sz ws))[x]? =H[x]? :=fun x hx=>List.getElem?_set_ne (fun e=>hx e.symm)
 have hbase:L.base=⟨L.base.block,L.base.off,none⟩:=by cases hq:L.base;simp [hq] at h2;simp [h2]
 refine⟨Sim.step s b (Emb.le.refl ι) (fun _ _ _ h=>h) (fun x K h=>by have:=s.dom x K h;simpa using this) (fun x hx=>.inl (hold x hx))
  (fun x K hx hK _ hlive=>setRow_other w _ _ c ?_) (fun us h=>?_) (fun sz' us h=>?_) (fun es h=>?_) (fun ho x L0 K hx _ hlive h0 hK=>?_) (fun v us h=>?_),?_⟩
 ·exact fun e=>s.sep b x L K (fun e=>hx e.symm) (bL hb) hlive hL hK e.symm
 ·have:us=ws:=by simpa [Hp.cells,hnew,Blk.cells] using h.symm
  subst this
  refine⟨L,hL,fun j v hv=>?_⟩
  obtain⟨v',h1,h2⟩:=hcells j v hv
  refine⟨v',?_,h2⟩
  rw [hbase,bY,cell_setRow_same w _ _ cur c t (0,0) hg];exact h1
 ·rw [hnew] at h;cases h
  exact⟨L,c,t,hL,h2,h3,setRow_heap w _ cur c t _ hg,by rw [hc];exact h5,hfit⟩
 ·rw [hnew] at h;cases h
 ·rw [hL] at h0;cases h0
  exact s.sep b x L K (fun e=>hx e.symm) (bL hb) hlive hL hK
 ·rw [hnew] at h;cases h
 ·refine⟨rfl,rfl,rfl,by simp,Emb.le.refl ι,by simp,fun _ _=>rfl,fun x hx=>by rw [hold x (fun e=>by subst e;rw [hb] at hx;cases hx)];exact hx,fun x z us hx=>by
   by_cases e:x=b
   ·subst e;rw [hnew] at hx;cases hx
   ·rw [hold x e] at hx;exact hx,fun g hg' hn=>setRow_other w _ _ c fun e=>hn ⟨b,L,hL,e.symm,bL hb⟩,fun g hg' h=>?_⟩
  obtain⟨x,K,hK,hb',ho⟩:=h
  by_cases e:x=b
  ·subst e;exact⟨x,K,hK,hb',bL hb⟩
  ·exact⟨x,K,hK,hb',by rwa [bw (hold x e)] at ho⟩
theorem Sim.kill {ι:Emb}{H:Hp}{w:World}(s:Sim ι H w){b:Nat}(hlt:b<H.length):
 Sim ι (H.set b .dead) w∧Fr ι H w ι (H.set b .dead) w:=by
 have hnew:(H.set b Blk.dead)[b]? =some .dead:=by simp [hlt]
 have hold:∀x,x≠b→(H.set b Blk.dead)[x]? =H[x]? :=fun x hx=>List.getElem?_set_ne (fun e=>hx e.symm)
 refine⟨Sim.step s b (Emb.le.refl ι) (fun _ _ _ h=>h) (fun x K h=>by have:=s.dom x K h;simpa using this) (fun x hx=>.inl (hold x hx))
  (fun _ _ _ _ _ _=>rfl) (fun us h=>?_) (fun sz' us h=>?_) (fun es h=>?_) (fun ho x L0 K hx _ hlive h0 hK=>?_) (fun v us h=>?_),?_⟩
 ·rw [ea hnew] at h;cases h
 ·rw [hnew] at h;cases h
 ·rw [hnew] at h;cases h
 ·rw [cq hnew] at ho;cases ho
 ·rw [hnew] at h;cases h
 ·refine⟨rfl,rfl,rfl,Nat.le_refl _,Emb.le.refl ι,by simp,fun _ _=>rfl,fun x hx=>?_,fun x z us hx=>?_,fun _ _ _=>rfl,fun g hg h=>?_⟩
  ·by_cases e:x=b
   ·subst e;exact hnew
   ·rw [hold x e];exact hx
  ·by_cases e:x=b
   ·subst e;rw [hnew] at hx;cases hx
   ·rw [hold x e] at hx;exact hx
  obtain⟨x,K,hK,hb',ho⟩:=h
  by_cases e:x=b
  ·subst e;rw [cq hnew] at ho;cases ho
  ·exact⟨x,K,hK,hb',by rwa [bw (hold x e)] at ho⟩
end Go.Ab
namespace Go.Ab
open Go
abbrev Tm:=Nat→Value
def upd (tm:Tm)(t:Nat)(v:Value):Tm:=fun u=>if u=t then v else tm u
theorem upd_same (tm:Tm)(t:Nat)(v:Value):upd tm t v t=v:=by simp [upd]
theorem upd_ne (tm:Tm){t u:Nat}(v:Value)(h:u≠t):upd tm t v u=tm u:=by simp [upd,h]
def put (tm:Tm)(d:Option Nat)(v:Value):Tm:=match d with|some t=>upd tm t v|none=>tm
structure TR (ι:Emb)(N:Nat)(tm:Tm)(a:Act):Prop where
 size:N≤a.tmps.size
 defers:a.defers= []
 val:∀t,VR ι (tm t) (a.tmps.getD t undef)
theorem TR.mono {ι ι':Emb}(hi:ι.le ι'){N:Nat}{tm:Tm}{a:Act}(h:TR ι N tm a):TR ι' N tm a:=⟨h.size,h.defers,fun t=>(h.val t).mono hi⟩
theorem TR.put {ι:Emb}{N:Nat}{tm:Tm}{a:Act}(h:TR ι N tm a){d:Option Nat}(hd:∀t,d=some t→t<N){u v:Value}(hv:VR ι u v):
 TR ι N (put tm d u) (a.put d v):=by
 cases d with
 | none=>exact h
 | some t=>
   have ht:=hd t rfl
   refine⟨by simpa [Act.put] using h.size,h.defers,fun x=>?_⟩
   simp only [Ab.put,Act.put,upd]
   by_cases e:x=t
   ·subst e
    have:=Nat.lt_of_lt_of_le ht h.size
    simp [Array.getD_eq_getD_getElem?,this,hv]
   ·rw [if_neg e]
    have:=h.val x
    rw [Array.getD_eq_getD_getElem?,Array.getElem?_setIfInBounds_ne (fun q=>e q.symm),←Array.getD_eq_getD_getElem?]
    exact this
def okC:Value→Bool
 | .bool _ | .int _ _ | .string _ | .pointer none | .slice none 0 0 | .map none | .nilFunc | .nilIface=>true
 | _=>false
theorem eW {ι:Emb}{v:Value}(h:okC v=true):VR ι v v:=by
 unfold okC at h
 split at h<;>first|constructor|cases h
def okO:Operand→Bool
 | .tmp _ | .func _=>true
 | .const v=>okC v
 | .global _=>false
def ev (tm:Tm):Operand→Value
 | .tmp t=>tm t
 | .const v=>v
 | .func f=>.func (.func f) #[] #[]
 | .global _=>undef
theorem bn {ι:Emb}{N:Nat}{tm:Tm}{a:Act}(h:TR ι N tm a){x:Operand}(hx:okO x=true):VR ι (ev tm x) (a.eval x):=by
 cases x with
 | tmp t=>exact h.val t
 | const v=>exact eW hx
 | func f=>exact .fn _ _ _ rfl fun j v v' h=>by simp at h
 | global g=>cases hx
def Good (P:Program)(m:Sem Next)(ι:Emb)(H:Hp)(w:World)(av:Value)(H':Hp):Prop:=
 ∃nx ι' w' v,m.run P w= .ok nx w'∧(nx= .value v∨(nx= .skip∧v=undef))∧VR ι' av v∧Sim ι' H' w'∧Fr ι H w ι' H' w'
theorem Good.pure {P:Program}{m:Sem Next}{ι:Emb}{H:Hp}{w:World}{av v:Value}(h:m.run P w= .ok (.value v) w)(hv:VR ι av v)(s:Sim ι H w):Good P m ι H w av H:=
 ⟨_,ι,w,v,h,.inl rfl,hv,s,Fr.refl ι H w⟩
theorem da (ι:Emb):VR ι undef undef:=.tup _ _ rfl fun _ _ _ h=>by simp at h
def ibin (op:BinOp)(k:IntKind)(a:Int)(k':IntKind)(b:Int):Option Value:=
 match op with
 | .shl=>if b<0 then none else some (.int k (k.wrap (a*2^(min b.toNat k.bits))))
 | .shr=>if b<0 then none else some (.int k (a.fdiv (2^(min b.toNat k.bits))))
 | op=>if k=k' then
  match op with
  | .add=>some (.int k (k.wrap (a+b)))
  | .sub=>some (.int k (k.wrap (a-b)))
  | .mul=>some (.int k (k.wrap (a*b)))
  | .quo=>if b=0 then none else some (.int k (k.wrap (a.tdiv b)))
  | .rem=>if b=0 then none else some (.int k (a.tmod b))
  | .and=>some (.int k (k.wrap (BitVec.ofInt k.bits a&&&BitVec.ofInt k.bits b).toNat))
  | .or=>some (.int k (k.wrap (BitVec.ofInt k.bits a |||BitVec.ofInt k.bits b).toNat))
  | .xor=>some (.int k (k.wrap (BitVec.ofInt k.bits a ^^^ BitVec.ofInt k.bits b).toNat))
  | .andNot=>some (.int k (k.wrap (BitVec.ofInt k.bits a&&&~~~ BitVec.ofInt k.bits b).toNat))
  | .eql=>some (.bool (a==b))
  | .neq=>some (.bool (a !=b))
  | .lss=>some (.bool (decide (a<b)))
  | .leq=>some (.bool (decide (a≤b)))
  | .gtr=>some (.bool (decide (a>b)))
  | .geq=>some (.bool (decide (a≥b)))
  | _=>none
   else none
theorem ia {P:Program}{op:BinOp}{k k':IntKind}{a b:Int}{v:Value}(h:ibin op k a k' b=some v)(t:TypeId)(x y:Operand)(w:World):
 (do eqGuard op t x y (.int k a) (.int k' b);binOp op t (.int k a) (.int k' b):Sem Value).run P w= .ok v w:=by
 have hg:(eqGuard op t x y (.int k a) (.int k' b)).run P w= .ok () w:=by cases op<;>simp [eqGuard]
 rw [Sem.run_bind,hg,Result.andThen_ok]
 unfold ibin at h
 split at h
 ·split at h
  ·cases h
  ·rename_i hb;cases h;simp [binOp,Op.shift,hb]
 ·split at h
  ·cases h
  ·rename_i hb;cases h;simp [binOp,Op.shift,hb]
 ·split at h
  ·rename_i hk
   subst hk
   split at h<;>first
    | (cases h;simp [binOp,Op.intArith,Op.intBits,Op.intCmp];done)
    | (split at h<;>first|(cases h;done)|(rename_i hb;cases h;simp [binOp,Op.intDiv,hb]))
    | (cases h;done)
  ·cases h
theorem iW {ι:Emb}{op:BinOp}{k k':IntKind}{a b:Int}{v:Value}(h:ibin op k a k' b=some v):VR ι v v:=by
 refine eW ?_
 unfold ibin at h
 (repeat' split at h)<;>cases h<;>rfl
inductive EqS where
 | int|bool|str
 deriving DecidableEq
inductive EqK where
 | bool|ptr|slice|map|func|iface
 | struct (fs:List (Nat×EqS))
 | other
def eqS:EqS→Value→Value→Option Bool
 | .int,.int k a,.int k' b=>if k=k' then some (a==b) else none
 | .bool,.bool a,.bool b=>some (a==b)
 | .str,.string a,.string b=>some (a==b)
 | _,_,_=>none
def eqFs:List (Nat×EqS)→List Value→List Value→Option Bool
 | [],_,_=>some true
 | (o,e)::fs,xs,ys=>do
   let x ←xs[o]?
   let y ←ys[o]?
   let b ←eqS e x y
   if b then eqFs fs xs ys else some false
def aEq:EqK→Value→Value→Option Bool
 | .bool,.bool a,.bool b=>some (a==b)
 | .ptr,.pointer none,.pointer none=>some true
 | .ptr,.pointer none,.pointer (some _)=>some false
 | .ptr,.pointer (some _),.pointer none=>some false
 | .slice,.slice none _ _,.slice b _ _=>some b.isNone
 | .slice,.slice (some _) _ _,.slice none _ _=>some false
 | .map,.map none,.map b=>some b.isNone
 | .map,.map (some _),.map none=>some false
 | .func,.nilFunc,.nilFunc=>some true
 | .func,.nilFunc,.func _ _ _=>some false
 | .func,.func _ _ _,.nilFunc=>some false
 | .iface,.nilIface,.iface _ _=>some false
 | .iface,.iface _ _,.nilIface=>some false
 | .struct fs,.agg xs,.agg ys=>eqFs fs xs.toList ys.toList
 | _,_,_=>none
def eqSOf (P:Program)(t:TypeId):Option EqS:=
 match P.underlying t with
 | some (.int _)=>some .int
 | some .bool=>some .bool
 | some .string=>some .str
 | _=>none
def eqKOf (P:Program)(t:TypeId):EqK:=
 match P.underlying t with
 | some .bool=>.bool
 | some (.pointer _)=>.ptr
 | some (.slice _)=>.slice
 | some (.map _ _)=>.map
 | some (.func _ _ _)=>.func
 | some (.interface _)=>.iface
 | some (.struct fs)=>
   if P.stoodInHeld t=false∧P.eqGuardType P.depth t=false∧fs.toList.all (fun f=>f.name≠"_") then
    match fs.toList.mapM (fun f=>(eqSOf P f.type).map fun e=>(f.offset,e)) with
    | some l=>.struct l
    | none=>.other
   else .other
 | _=>.other
theorem eqS_run {P:Program}{t:TypeId}{e:EqS}(ht:eqSOf P t=some e){x y:Value}{b:Bool}(h:eqS e x y=some b)(d:Nat)(w:World):
 (Op.equalIn (d+1) t x y).run P w= .ok b w:=by
 unfold eqSOf at ht
 unfold eqS at h
 split at h
 ·split at ht<;>cases ht
  split at h
  ·rename_i hu hk;cases h;subst hk;simp [Op.equalIn,run_underlying hu]
  ·cases h
 ·split at ht<;>cases ht
  rename_i hu;cases h;simp [Op.equalIn,run_underlying hu]
 ·split at ht<;>cases ht
  rename_i hu;cases h;simp [Op.equalIn,run_underlying hu]
 ·cases h
theorem eqS_vr {ι:Emb}{e:EqS}{x y:Value}{b:Bool}(h:eqS e x y=some b){x' y':Value}(hx:VR ι x x')(hy:VR ι y y'):eqS e x' y'=some b:=by
 unfold eqS at h
 split at h
 ·cases hx;cases hy;exact h
 ·cases hx;cases hy;exact h
 ·cases hx;cases hy;exact h
 ·cases h
theorem fI {P:Program}{t:TypeId}{e:EqS}(ht:eqSOf P t=some e){cs:Array Value}{o:Nat}{v:Value}(hv:cs[o]? =some v)(w:World):
 (part t cs o).run P w= .ok v w:=by
 unfold eqSOf at ht
 split at ht<;>cases ht<;>(rename_i hu;simp [part,isAgg,run_underlying hu,hv])
theorem hU {P:Program}(d:Nat){xs ys:Array Value}(w:World):∀(fs:List Field) (l:List (Nat×EqS)) (b:Bool),(∀f∈fs,f.name≠"_")→
 fs.mapM (fun f=>(eqSOf P f.type).map fun e=>(f.offset,e))=some l→eqFs l xs.toList ys.toList=some b→
 (Op.eqFields (d+1) xs ys fs).run P w= .ok b w
 | [],l,b,_,hl,h=>by
   simp at hl;subst hl
   simp [eqFs] at h;subst h
   simp [Op.eqFields]
 | f::fs,l,b,hn,hl,h=>by
   simp only [List.mapM_cons,Option.bind_eq_bind,Option.pure_def,Option.bind_eq_some_iff] at hl
   obtain⟨e,he,r,hr,h3⟩:=hl
   cases h3
   obtain⟨e0,he0,rfl⟩:=Option.map_eq_some_iff.1 he
   simp only [eqFs,Option.bind_eq_bind,Option.bind_eq_some_iff] at h
   obtain⟨x,hx,y,hy,c,hc,h⟩:=h
   have hx':xs[f.offset]? =some x:=by simpa using hx
   have hy':ys[f.offset]? =some y:=by simpa using hy
   simp only [Op.eqFields,hn f (by simp),ne_eq,not_false_eq_true,if_true,Sem.run_bind,fI he0 hx',fI he0 hy',Result.andThen_ok,eqS_run he0 hc]
   cases c with
   | false=>simp at h;subst h;simp
   | true=>
     simp at h
     simp only [Bool.not_true,Bool.false_eq_true,if_false]
     exact hU d w fs r b (fun g hg=>hn g (by simp [hg])) hr h
theorem iS {ι:Emb}{xs ys xs' ys':List Value}(hx:VRs ι xs xs')(hy:VRs ι ys ys'):∀(l:List (Nat×EqS)) (b:Bool),eqFs l xs ys=some b→eqFs l xs' ys'=some b
 | [],b,h=>h
 | (o,e)::l,b,h=>by
   simp only [eqFs,Option.bind_eq_bind,Option.bind_eq_some_iff] at h ⊢
   obtain⟨x,h1,y,h2,c,h3,h4⟩:=h
   obtain⟨x',h1',hxx⟩:=hx.get h1
   obtain⟨y',h2',hyy⟩:=hy.get h2
   refine⟨x',h1',y',h2',c,eqS_vr h3 hxx hyy,?_⟩
   cases c with
   | false=>exact h4
   | true=>simp at h4 ⊢;exact iS hx hy l b h4
theorem aEq_vr {ι:Emb}{k:EqK}{x y:Value}{b:Bool}(h:aEq k x y=some b){x' y':Value}(hx:VR ι x x')(hy:VR ι y y'):aEq k x' y'=some b:=by
 unfold aEq at h
 split at h<;>first
  | (cases hx<;>cases hy<;>first|exact h|(cases h;rfl))
  | (cases h;done)
  | (cases hx;cases hy;rename_i hs1 h1 _ hs2 h2;exact iS (VR.cells (.agg _ _ hs1 h1)) (VR.cells (.agg _ _ hs2 h2)) _ _ h)
theorem eqGuard_ok {P:Program}(o:BinOp)(t:TypeId)(ox oy:Operand)(x y:Value)(w:World)(h1:¬(x= .nilIface∧y= .nilIface))(h2:∀a b,¬(x= .agg a∧y= .agg b)):
 (eqGuard o t ox oy x y).run P w= .ok () w:=by
 cases o<;>(cases x<;>cases y<;>first|rfl|(exact absurd ⟨rfl,rfl⟩ h1)|(exact absurd ⟨rfl,rfl⟩ (h2 _ _)))
theorem aEq_run {P:Program}{t:TypeId}{x y:Value}{b:Bool}(h:aEq (eqKOf P t) x y=some b)(neg:Bool)(ox oy:Operand)(w:World):
 (do eqGuard (if neg then .neq else .eql) t ox oy x y;binOp (if neg then .neq else .eql) t x y:Sem Value).run P w= .ok (.bool (if neg then !b else b)) w:=by
 have key:(∀o:BinOp,(eqGuard o t ox oy x y).run P w= .ok () w)→(Op.equalIn 10000 t x y).run P w= .ok b w→(∀k a,x≠ .int k a)→(∀a,x≠ .string a)→
  (∀k a,x≠ .float k a)→(∀k a c,x≠ .complex k a c)→
  (do eqGuard (if neg then .neq else .eql) t ox oy x y;binOp (if neg then .neq else .eql) t x y:Sem Value).run P w= .ok (.bool (if neg then !b else b)) w:=by
  intro hg he h1 h2 h3 h4
  rw [Sem.run_bind,hg,Result.andThen_ok]
  cases neg<;>cases x<;>first
   | (exact absurd rfl (h1 _ _))|(exact absurd rfl (h2 _))|(exact absurd rfl (h3 _ _))|(exact absurd rfl (h4 _ _ _))
   | (cases y<;>simp [binOp,Op.equal,Op.maxDepth,he])
 unfold eqKOf at h
 split at h
 case h_7 fs hu=>
  split at h
  ·rename_i hc
   split at h
   ·rename_i l hl
    unfold aEq at h
    split at h<;>first|(rename_i hq;cases hq;done)|skip
    all_goals (first|(cases h;done)|skip)
    rename_i fs' xs ys hq
    cases hq
    refine key (fun o=>?_) ?_ (by simp) (by simp) (by simp) (by simp)
    ·exact run_eqGuard_agg w o t ox oy xs ys hc.2.1
    ·rw [run_equalIn_struct w 9999 t xs ys (by simp [Program.fieldsOf,hu]) hc.1]
     refine hU 9998 w _ l b ?_ (by simpa [Program.fieldsOf,hu] using hl) h
     intro f hf
     have:=List.all_eq_true.1 hc.2.2 f (by simpa [Program.fieldsOf,hu] using hf)
     simpa using this
   ·simp [aEq] at h
  ·simp [aEq] at h
 all_goals (
  rename_i hu
  unfold aEq at h
  split at h<;>first|(rename_i hq;cases hq;done)|(cases h;done)|skip)
 all_goals (
  first
  | (refine key (fun o=>?_) ?_ (by simp) (by simp) (by simp) (by simp)<;>first
      | (exact eqGuard_ok o t ox oy _ _ w (by simp) (by simp))
      | (cases h;rw [show(10000:Nat)=9999+1 from rfl];generalize 9999=d;simp [Op.equalIn,run_underlying hu];done)))
end Go.Ab
namespace Go.Ab
open Go
theorem Sim.move {ι:Emb}{H:Hp}{w:World}(s:Sim ι H w){b sz:Nat}{vs:List Value}{L:Loc}(hb:H[b]? =some (.rw sz vs))(hL:ι b=some L)(off:Nat)(ho:off≤L.ext):
 Sim (ι.put H.length ⟨L.base.add off,L.ext-off,sz⟩) (H.set b .dead++ [.rw sz (vs.drop off)]) w∧
 Fr ι H w (ι.put H.length ⟨L.base.add off,L.ext-off,sz⟩) (H.set b .dead++ [.rw sz (vs.drop off)]) w:=by
 have hlt:b<H.length:=s.dom b L hL
 obtain⟨L',cur,t,h1,h2,h3,h4,h5,h6⟩:=s.own b sz vs hb
 rw [hL] at h1;cases h1
 have hbase:L.base=⟨L.base.block,L.base.off,none⟩:=by cases hq:L.base;simp [hq] at h2;simp [h2]
 have hle:ι.le (ι.put H.length ⟨L.base.add off,L.ext-off,sz⟩):=Emb.put_le s.new_none
 have hnew:(H.set b .dead++ [Blk.rw sz (vs.drop off)])[H.length]? =some (.rw sz (vs.drop off)):=by simp
 have hdead:(H.set b .dead++ [Blk.rw sz (vs.drop off)])[b]? =some .dead:=by rw [List.getElem?_append_left (by simpa using hlt)];simp [hlt]
 have hold:∀x,x≠H.length→x≠b→(H.set b .dead++ [Blk.rw sz (vs.drop off)])[x]? =H[x]? :=fun x hx hxb=>by
  rcases Nat.lt_or_ge x H.length with h|h
  ·rw [List.getElem?_append_left (by simpa using h),List.getElem?_set_ne (fun e=>hxb e.symm)]
  ·rw [List.getElem?_eq_none (by simp;omega),List.getElem?_eq_none h]
 refine⟨Sim.step s H.length hle (fun x K hx h=>by rwa [Emb.put_other ι _ hx] at h) (fun x K h=>?_) (fun x hx=>?_) (fun _ _ _ _ _ _=>rfl) (fun us h=>?_)
  (fun sz' us h=>?_) (fun es h=>?_) (fun _ x L0 K hx he hlive h0 hK=>?_) (fun v us h=>?_),?_⟩
 ·by_cases e:x=H.length
  ·subst e;simp
  ·rw [Emb.put_other ι _ e] at h;have:=s.dom x K h;simp;omega
 ·by_cases e:x=b
  ·subst e;exact .inr hdead
  ·exact .inl (hold x hx e)
 ·have:us=vs.drop off:=by simpa [Hp.cells,hnew,Blk.cells] using h.symm
  subst this
  refine⟨_,Emb.put_same ..,fun j v hv=>?_⟩
  obtain⟨K,hK,hc⟩:=s.cells b vs (by simp [Hp.cells,hb,Blk.cells])
  rw [hL] at hK;cases hK
  rw [List.getElem?_drop] at hv
  obtain⟨v',h1,h2⟩:=hc _ v hv
  exact⟨v',by rw [dd];exact h1,h2.mono hle⟩
 ·rw [hnew] at h;cases h
  refine⟨_,cur,t,Emb.put_same ..,?_,rfl,by rw [cT];exact h4,?_,?_⟩
  ·show(L.base.add off).spot=none
   rw [hbase,bY]
  ·show(L.base.add off).off+(L.ext-off)≤cur.size
   rw [hbase,bY];simp;omega
  ·simp;omega
 ·rw [hnew] at h;cases h
 ·rw [Emb.put_same] at h0;cases h0
  rw [cT]
  refine s.sep b x L K (fun e=>?_) (bL hb) hlive hL hK
  subst e
  rw [hdead,hb] at he;cases he
 ·rw [hnew] at h;cases h
 ·refine⟨rfl,rfl,rfl,Nat.le_refl _,hle,by simp,fun x hx=>Emb.put_other ι _ (Nat.ne_of_lt hx),fun x hx=>?_,fun x z us hx=>?_,fun _ _ _=>rfl,fun g hg h=>?_⟩
  ·have hxl:=(List.getElem?_eq_some_iff.1 hx).1
   rw [hold x (Nat.ne_of_lt hxl) (fun e=>by subst e;rw [hb] at hx;cases hx)];exact hx
  ·by_cases e:x=H.length
   ·subst e;rw [hnew] at hx;cases hx
   ·by_cases e':x=b
    ·subst e';rw [hdead] at hx;cases hx
    ·rw [hold x e e'] at hx;exact hx
  obtain⟨x,K,hK,hg',hox⟩:=h
  by_cases e:x=H.length
  ·subst e;rw [Emb.put_same] at hK;cases hK
   rw [cT] at hg'
   exact⟨b,L,hL,hg',bL hb⟩
  ·rw [Emb.put_other ι _ e] at hK
   by_cases e':x=b
   ·subst e';exact⟨x,K,hK,hg',bL hb⟩
   ·exact⟨x,K,hK,hg',by rwa [bw (hold x e e')] at hox⟩
def splice (vs:List Value)(off:Nat)(cs:List Value):List Value:=vs.take off++cs++vs.drop (off+cs.length)
theorem cm (vs:List Value)(off:Nat)(cs:List Value)(h:off+cs.length≤vs.length):(splice vs off cs).length=vs.length:=by
 unfold splice;simp;omega
theorem eh {ι:Emb}{vs vs' cs cs':List Value}(h:VRs ι vs vs')(hc:VRs ι cs cs')(off:Nat):VRs ι (splice vs off cs) (splice vs' off cs'):=by
 unfold splice
 rw [hc.1]
 exact((h.take off).append hc).append (h.drop _)
def Hp.load (H:Hp)(a:Addr)(n:Nat):Option (List Value):=
 match H.cells a.block with
 | some vs=>if a.off+n≤vs.length then some ((vs.drop a.off).take n) else none
 | none=>none
theorem Hp.load_length {H:Hp}{a:Addr}{n:Nat}{cs:List Value}(h:H.load a n=some cs):cs.length=n:=by
 unfold Hp.load at h
 split at h
 ·split at h
  ·cases h;simp;omega
  ·cases h
 ·cases h
theorem Sim.load {ι:Emb}{H:Hp}{w:World}(s:Sim ι H w){b off n:Nat}{cs:List Value}(h:H.load ⟨b,off,none⟩ n=some cs){L:Loc}(hL:ι b=some L):
 ∃cs',VRs ι cs cs'∧cs'.length=n∧∀(j:Nat) (v:Value),cs'[j]? =some v→w.cell? ((L.base.add off).add j)=some v:=by
 have hn:=Hp.load_length h
 unfold Hp.load at h
 split at h
 ·rename_i vs hvs
  split at h
  ·rename_i hle
   cases h
   obtain⟨K,vs',hK,hr,hc⟩:=s.read hvs
   rw [hL] at hK;cases hK
   have hr2:=(hr.drop off).take n
   refine⟨(vs'.drop off).take n,hr2,by rw [←hr2.1];exact hn,fun j v hv=>?_⟩
   rw [List.getElem?_take] at hv
   split at hv
   ·rw [List.getElem?_drop] at hv
    rw [dd]
    exact hc _ v hv
   ·cases hv
  ·cases h
 ·cases h
def mkv (agg:Bool)(cs:List Value):Option Value:=if agg then some (.agg cs.toArray) else match cs with | [v]=>some v|_=>none
def slcells (H:Hp)(sz:Nat):Value→Option (Nat×List Value)
 | .slice none 0 0=>some (0,[])
 | .slice (some a) n _=>if a.spot.isNone then(H.load a (n*sz)).map fun cs=>(n,cs) else none
 | _=>none
def aappend (sz bytes:Nat)(s x:Value)(H:Hp):Option (Value×Hp):=
 match slcells H sz x with
 | none=>none
 | some (n,new)=>
   match s with
   | .slice none 0 0=>
     if n=0 then some (s,H)
     else if n*bytes≤140737488355328∧new.all Value.oneCell' then some (.slice (some ⟨H.length,0,none⟩) n n,H++ [.rw sz new]) else none
   | .slice (some a) m m'=>
     if n=0 then some (s,H)
     else match H[a.block]?,slcells H sz s with
      | some (.rw sz' _),some (_,old)=>
        if sz'=sz∧m'=m∧(m+n)*bytes≤140737488355328∧new.all Value.oneCell' then
         some (.slice (some ⟨H.length,0,none⟩) (m+n) (m+n),H.set a.block .dead++ [.rw sz (old++new)])
        else if sz'=sz∧m+n≤m'∧new.all Value.oneCell' then
         some (.slice (some ⟨H.length,0,none⟩) (m+n) m',H.set a.block .dead++ [.rw sz (old++new)])
        else none
      | _,_=>none
   | _=>none
theorem di {P:Program}{ι:Emb}{H:Hp}{w:World}(s:Sim ι H w){sz n:Nat}{x x':Value}{cs:List Value}(h:slcells H sz x=some (n,cs))(hx:VR ι x x'):
 ∃A c cs',x'= .slice A n c∧VRs ι cs cs'∧cs'.length=n*sz∧(∀W:World,W.heap=w.heap→(Builtin.firstCells sz n x').run P W= .ok cs'.toArray W)∧
  (∀a,A=some a→∀(j:Nat) (v:Value),cs'[j]? =some v→w.cell? (a.add j)=some v):=by
 unfold slcells at h
 split at h
 ·cases h;cases hx
  exact⟨none,0,[],rfl,VRs.nil,by simp,fun W _=>by simp [Builtin.firstCells],fun a h=>by cases h⟩
 ·rename_i ad m c0
  split at h
  ·cases hl:H.load ad (m*sz) with
   | none=>simp [hl] at h
   | some cs0=>
     simp [hl] at h
     obtain⟨rfl,rfl⟩:=h
     obtain⟨b,off,c,L,A,rfl,_,rfl,hL,hn,hc⟩:=hx.slice_inv
     obtain⟨cs',hr,hlen,hcell⟩:=s.load hl hL
     have hcell':∀(j:Nat) (v:Value),cs'[j]? =some v→w.cell? (A.add j)=some v:=by
      intro j v hv
      have hj:j<cs'.length:=by
       rcases Nat.lt_or_ge j cs'.length with h|h
       ·exact h
       ·simp [List.getElem?_eq_none h] at hv
      rcases hc with h0|⟨hA,_⟩
      ·have:m=0:=by omega
       rw [hlen,this] at hj;simp at hj
      ·subst hA;exact hcell j v hv
     refine⟨some A,c,cs',rfl,hr,hlen,fun W hW=>?_,fun a ha=>by cases ha;exact hcell'⟩
     have:=run_loadCells_list (P:=P) W A cs' (fun j v hv=>by
      have:=hcell' j v hv
      unfold World.cell? at this ⊢
      rw [hW];exact this)
     rw [hlen] at this
     simpa [Builtin.firstCells] using this
  ·cases h
 ·cases h
theorem dQ {H:Hp}{sz n m mq:Nat}{a:Addr}{cs:List Value}(h:slcells H sz (.slice (some a) n m)=some (mq,cs)):mq=n:=by
 simp only [slcells] at h
 split at h
 ·cases hl:H.load a (n*sz) with
  | none=>rw [hl] at h;cases h
  | some q=>rw [hl] at h;cases h;rfl
 ·cases h
theorem run_append_at {P:Program}(w:World)(t ty e:TypeId)(i:TypeInfo)(ht:P.underlying t=some (.slice e))(hi:P.info? e=some i)
 (g o sLen sCap:Nat) (cur:Array Value) (t':TypeId) (hg:w.heap[g]? =some (.cells cur t' (0,0)))
 (x:Value) (A:Option Addr) (m c:Nat) (hx:x= .slice A m c) (news:List Value) (hf:(Builtin.firstCells i.size m x).run P w= .ok news.toArray w) (h1:∀u∈news,u.oneCell'=true)
 (hroom:sLen+m≤sCap) (hfit:o+sLen*i.size+news.length≤cur.size):
 (Builtin.append_ #[t,t] ty #[.slice (some ⟨g,o,none⟩) sLen sCap,x]).run P w=
   .ok (.slice (some ⟨g,o,none⟩) (sLen+m) sCap) (w.setRow g (cur.toList.take (o+sLen*i.size)++news++cur.toList.drop (o+sLen*i.size+news.length)).toArray):=by
 have hst:=run_storeCells_at P g (o+sLen*i.size) t' news 0 cur w hg (by simpa using hfit) h1
 simp only [Nat.add_zero] at hst
 subst hx
 simp [Builtin.append_,run_underlying ht,sizeOf,typeInfo,hi,Builtin.lenOf,hroom,hf,bY,hst]
theorem dP {P:Program}(w:World)(t ty e:TypeId)(i:TypeInfo)(z:Value)(ht:P.underlying t=some (.slice e))(hi:P.info? e=some i)(hz:i.zero=some z)
 (s:Value) (B:Option Addr) (sLen sCap:Nat) (hs:s= .slice B sLen sCap) (olds:List Value) (hfo:(Builtin.firstCells i.size sLen s).run P w.drew= .ok olds.toArray w.drew)
 (x:Value) (A:Option Addr) (n c:Nat) (hx:x= .slice A n c) (news:List Value) (hf:(Builtin.firstCells i.size n x).run P w.drew= .ok news.toArray w.drew)
 (hg:sCap<sLen+n) (h63:((sLen+n:Nat):Int)≤9223372036854775807) (hfit:Builtin.nextslicecap (sLen+n) sCap*i.bytes≤281474976710656):
 (Builtin.append_ #[t,t] ty #[s,x]).run P w=
   .ok (.slice (some ⟨w.heap.size,0,none⟩) (sLen+n) (grownCap w (sLen+n) sCap e))
    (w.drew.alloc (.cells (olds.toArray++news.toArray++Builtin.zeroCells z.cells (grownCap w (sLen+n) sCap e-(sLen+n))) e)):=by
 have hn:¬(sLen+n≤sCap):=by omega
 have h63':¬(9223372036854775807<((sLen:Int)+(n:Int))):=by omega
 have h48':¬(281474976710656<Builtin.nextslicecap (sLen+n) sCap*i.bytes):=by omega
 subst hs;subst hx
 simp [Builtin.append_,run_underlying ht,sizeOf,typeInfo,zeroValue,hi,hz,Builtin.lenOf,hn,h63',h48',Question.forced,hf,hfo,newRow,grownCap]
 congr 2
 apply Array.ext'
 simp [List.append_assoc]
set_option maxHeartbeats 1000000 in
theorem fh {P:Program}{ι:Emb}{H:Hp}{w:World}(s:Sim ι H w){t ty e:TypeId}{i:TypeInfo}(ht:P.underlying t=some (.slice e))(hi:P.info? e=some i)
 {b off mq m' mq' n c2 c q:Nat} {A:Option Addr} {A2:Addr} {L:Loc} {vs0 old new new':List Value} (hblk:H[b]? =some (.rw i.size vs0)) (hold:slcells H i.size (.slice (some ⟨b,off,none⟩) mq m')=some (mq',old)) (hL:ι b=some L)
 (hc2:c2=0∨(A2=L.base.add off∧off+c2*L.sz≤L.ext)) (hr:VRs ι new new') (hlen:new'.length=n*i.size) (hfc0:(Builtin.firstCells i.size n (.slice A n c)).run P w= .ok new'.toArray w) (hone':∀u∈new',u.oneCell'=true)
 (h0:n≠0) (hq1:mq+n≤q) (hq2:q≤c2):
 ∃v ι' w',(Builtin.append_ #[t,t] ty #[.slice (some A2) mq c2,.slice A n c]).run P w= .ok v w'∧VR ι' (.slice (some ⟨H.length,0,none⟩) (mq+n) q) v∧Sim ι' (H.set b .dead++ [.rw i.size (old++new)]) w'∧Fr ι H w ι' (H.set b .dead++ [.rw i.size (old++new)]) w':=by
 have hroom:mq+n≤c2:=by omega
 have hmq:mq'=mq:=dQ hold
 rw [hmq] at hold
 have hc0:c2≠0:=by omega
 obtain⟨hA,hext⟩:=hc2.resolve_left hc0
 obtain⟨L',cur,t',h1,h2,h3,h4,h5,h6⟩:=s.own b i.size vs0 hblk
 rw [hL] at h1;cases h1
 rw [h3] at hext
 have hbase:L.base=⟨L.base.block,L.base.off,none⟩:=by cases hq:L.base;simp [hq] at h2;simp [h2]
 have hA2:A2=⟨L.base.block,L.base.off+off,none⟩:=by rw [hA,hbase,bY]
 have hmul:(mq+n)*i.size≤c2*i.size:=Nat.mul_le_mul_right _ hroom
 rw [Nat.add_mul] at hmul
 subst hA2
 have hrun:=run_append_at (P:=P) w t ty e i ht hi L.base.block (L.base.off+off) mq c2 cur t' h4 _ A n c rfl new' hfc0 hone' hroom (by rw [hlen];omega)
 have hvl:off+mq*i.size≤vs0.length:=by
  unfold slcells Hp.load Hp.cells at hold
  simp only [hblk,Option.bind_some,Blk.cells,Option.isNone_none,if_true] at hold
  split at hold
  ·assumption
  ·simp at hold
 have holdv:old=(vs0.drop off).take (mq*i.size):=by
  unfold slcells Hp.load Hp.cells at hold
  simp only [hblk,Option.bind_some,Blk.cells,Option.isNone_none,if_true] at hold
  split at hold
  ·simp at hold;exact hold.symm
  ·first|(simp at hold;done)|(simp at hold;exact hold.symm)
 obtain⟨K,vs',hK,hrv,hcv⟩:=s.read (b:=b) (vs:=vs0) (by simp [Hp.cells,hblk,Blk.cells])
 rw [hL] at hK;cases hK
 have hcur:∀(j:Nat) (v:Value),vs'[j]? =some v→cur[L.base.off+j]? =some v:=by
  intro j v hv
  have:=hcv j v hv
  rw [hbase,bY] at this
  simpa [World.cell?,h4] using this
 obtain⟨hsim1,hfr1⟩:=s.rewrite hblk hL h4 (cur.toList.take (L.base.off+off+mq*i.size)++new'++cur.toList.drop (L.base.off+off+mq*i.size+new'.length)).toArray
  (by simp [hlen];omega) (vs0.take (off+mq*i.size)++new) (by simp [hr.1,hlen];omega)
  (fun j v hv=>by
    obtain⟨v',h1,h2⟩:=((hrv.take (off+mq*i.size)).append hr).get hv
    refine⟨v',?_,h2⟩
    have hvl':off+mq*i.size≤vs'.length:=hrv.1▸hvl
    simp only [List.getElem?_toArray]
    rw [List.append_assoc]
    by_cases hj:j<off+mq*i.size
    ·rw [List.getElem?_append_left (by simp;omega)] at h1
     rw [List.getElem?_take,if_pos hj] at h1
     rw [List.getElem?_append_left (by simp;omega),List.getElem?_take,if_pos (by omega)]
     have:=hcur j v' h1
     simpa using this
    ·rw [List.getElem?_append_right (by simp;omega)] at h1
     simp only [List.length_take,Nat.min_eq_left hvl'] at h1
     have hj2:j-(off+mq*i.size)<new'.length:=by
      rcases Nat.lt_or_ge (j-(off+mq*i.size)) new'.length with h|h
      ·exact h
      ·simp [List.getElem?_eq_none h] at h1
     rw [List.getElem?_append_right (by simp;omega)]
     rw [List.getElem?_append_left (by simp;omega)]
     rw [←h1]
     congr 1
     simp;omega)
 have hblt:b<H.length:=s.dom b L hL
 obtain⟨hsim2,hfr2⟩:=hsim1.move (b:=b) (sz:=i.size) (vs:=vs0.take (off+mq*i.size)++new) (L:=L) (by simp [hblt]) hL off (by omega)
 have hdrop:(vs0.take (off+mq*i.size)++new).drop off=old++new:=by
  rw [List.drop_append_of_le_length (by simp;omega),List.drop_take,holdv]
  congr 2;omega
 rw [hdrop,List.set_set,List.length_set] at hsim2 hfr2
 refine⟨_,_,_,hrun,?_,hsim2,hfr1.trans hfr2⟩
 refine .sl _ 0 _ q c2 _ _ (Emb.put_same ..) ⟨hq1,hq2⟩ (.inr ⟨?_,?_⟩)
 ·rw [hbase,bY];simp [Addr.add]
 ·show 0+c2*i.size≤L.ext-off;omega
set_option maxHeartbeats 1000000 in
theorem aappend_run {P:Program}{ι:Emb}{H:Hp}{w:World}(s:Sim ι H w){t ty e:TypeId}{i:TypeInfo}{z:Value}(ht:P.underlying t=some (.slice e))(hi:P.info? e=some i)(hz:i.zero=some z)
 (hzs:z.cells.size=i.size) (hsz:0<i.size) (hby:0<i.bytes) {sv x sv' x' av:Value} {H':Hp} (h:aappend i.size i.bytes sv x H=some (av,H')) (hs:VR ι sv sv') (hx:VR ι x x'):
 ∃v ι' w',(Builtin.append_ #[t,t] ty #[sv',x']).run P w= .ok v w'∧VR ι' av v∧Sim ι' H' w'∧Fr ι H w ι' H' w':=by
 unfold aappend at h
 split at h
 ·cases h
 ·rename_i n new hnew
  obtain⟨A,c,new',rfl,hr,hlen,hfc,hcell⟩:=di (P:=P) s hnew hx
  have hfc0:=hfc w rfl
  have hfcd:=hfc w.drew rfl
  split at h
  ·
   cases hs
   split at h
   ·rename_i h0
    cases h
    subst h0
    refine⟨.slice none 0 0,ι,w,?_,.snil,s,Fr.refl ..⟩
    have hn:new'= []:=List.eq_nil_of_length_eq_zero (by simpa using hlen)
    subst hn
    simp [Builtin.append_,run_underlying ht,sizeOf,typeInfo,hi,Builtin.lenOf,hfc0]
   ·rename_i h0
    split at h
    ·rename_i hc
     cases h
     have hnb:n≤n*i.bytes:=Nat.le_mul_of_pos_right n hby
     have hrun:=dP (P:=P) w t ty e i z ht hi hz (.slice none 0 0) none 0 0 rfl [] (by simp [Builtin.firstCells]) _ A n c rfl new' hfcd (by omega) (by omega)
      (by rw [Nat.zero_add];rw [nextslicecap_zero (by omega)];omega)
     rw [Nat.zero_add] at hrun
     have hge:=grownCap_ge w n 0 e
     have hsize:(List.toArray ([]:List Value)++new'.toArray++Builtin.zeroCells z.cells (grownCap w n 0 e-n)).size=grownCap w n 0 e*i.size:=by
      simp only [Array.size_append,List.size_toArray,List.length_nil,size_zeroCells,hzs,hlen,Nat.zero_add,←Nat.add_mul]
      congr 1;omega
     obtain⟨hsim,hfr⟩:=s.drew.newRow i.size new (List.toArray ([]:List Value)++new'.toArray++Builtin.zeroCells z.cells (grownCap w n 0 e-n)) e
      (fun j v hv=>by
        obtain⟨v',h1,h2⟩:=hr.get hv
        have hj:j<new'.length:=by
         rcases Nat.lt_or_ge j new'.length with h|h
         ·exact h
         ·simp [List.getElem?_eq_none h] at h1
        refine⟨v',?_,h2⟩
        have:(List.toArray ([]:List Value)++new'.toArray)[j]? =some v':=by simpa using h1
        rw [Array.getElem?_append_left (by simpa using hj)]
        exact this)
      (by rw [hsize,hr.1,hlen];exact Nat.mul_le_mul_right _ hge)
     refine⟨_,_,_,hrun,?_,hsim,?_⟩
     ·refine .sl _ 0 n n _ _ _ (Emb.put_same ..) ⟨Nat.le_refl _,hge⟩ (.inr ⟨by simp [Addr.add],?_⟩)
      show 0+grownCap w n 0 e*i.size≤(List.toArray ([]:List Value)++new'.toArray++Builtin.zeroCells z.cells (grownCap w n 0 e-n)).size
      rw [hsize];omega
     ·exact Fr.of_drew hfr
    ·cases h
  ·
   rename_i a m m'
   split at h
   ·rename_i h0
    cases h
    subst h0
    have hn:new'= []:=List.eq_nil_of_length_eq_zero (by simpa using hlen)
    subst hn
    obtain⟨b,off,c2,L,A2,rfl,hmm,rfl,hL,hle,hc2⟩:=hs.slice_inv
    refine⟨_,ι,w,?_,.sl b off _ _ c2 L A2 hL hmm hc2,s,Fr.refl ..⟩
    simp [Builtin.append_,run_underlying ht,sizeOf,typeInfo,hi,Builtin.lenOf,hfc0,hle,storeCells]
   ·rename_i h0
    split at h
    ·rename_i sz' vs0 mq old hblk hold
     split at h
     ·rename_i hc
      obtain⟨rfl,rfl,hbytes,hone⟩:=hc
      cases h
      have hone':∀u∈new',u.oneCell'=true:=hr.one hone
      obtain rfl:mq=m':=dQ hold
      obtain⟨b,off,c2,L,A2,rfl,_,rfl,hL,hle,hc2⟩:=hs.slice_inv
      obtain⟨A0,c0,old',hq,hro,hleno,hfo,_⟩:=di (P:=P) s hold hs
      simp only [Value.slice.injEq] at hq
      obtain⟨hq1,_,hq3⟩:=hq
      subst hq1
      subst hq3
      have hmb:mq+n≤(mq+n)*i.bytes:=Nat.le_mul_of_pos_right _ hby
      simp only at hblk
      by_cases hroom:mq+n≤c2
      ·exact fh s ht hi hblk hold hL hc2 hr hlen hfc0 hone' h0 (Nat.le_refl _) hroom
      ·have hrun:=dP (P:=P) w t ty e i z ht hi hz _ (some A2) mq c2 rfl old' (hfo w.drew rfl) _ A n c rfl new' hfcd (by omega) (by omega) (growslice_fits (by omega) hbytes)
       have hge:=grownCap_ge w (mq+n) c2 e
       have hsize:(old'.toArray++new'.toArray++Builtin.zeroCells z.cells (grownCap w (mq+n) c2 e-(mq+n))).size=grownCap w (mq+n) c2 e*i.size:=by
        simp only [Array.size_append,List.size_toArray,size_zeroCells,hzs,hlen,hleno,←Nat.add_mul]
        congr 1;omega
       have hblt:b<H.length:=s.dom b L hL
       obtain⟨hk1,hk2⟩:=s.drew.kill hblt
       have hro2:=hro.append hr
       obtain⟨hsim,hfr⟩:=hk1.newRow i.size (old++new) (old'.toArray++new'.toArray++Builtin.zeroCells z.cells (grownCap w (mq+n) c2 e-(mq+n))) e
        (fun j v hv=>by
          obtain⟨v',h1,h2⟩:=hro2.get hv
          have hj:j<(old'++new').length:=by
           rcases Nat.lt_or_ge j (old'++new').length with h|h
           ·exact h
           ·simp [List.getElem?_eq_none h] at h1
          refine⟨v',?_,h2⟩
          rw [Array.getElem?_append_left (by simpa using hj)]
          simpa using h1)
        (by rw [hsize,hro2.1,List.length_append,hlen,hleno,←Nat.add_mul];exact Nat.mul_le_mul_right _ hge)
       rw [List.length_set] at hsim hfr
       refine⟨_,_,_,hrun,?_,hsim,?_⟩
       ·refine .sl _ 0 _ _ _ _ _ (Emb.put_same ..) ⟨Nat.le_refl _,hge⟩ (.inr ⟨by simp [Addr.add],?_⟩)
        show 0+grownCap w (mq+n) c2 e*i.size≤(old'.toArray++new'.toArray++Builtin.zeroCells z.cells (grownCap w (mq+n) c2 e-(mq+n))).size
        rw [hsize];omega
       ·exact Fr.of_drew (hk2.trans hfr)
     ·split at h
      ·rename_i hc
       obtain⟨rfl,hmr,hone⟩:=hc
       cases h
       have hone':∀u∈new',u.oneCell'=true:=hr.one hone
       obtain rfl:mq=m:=dQ hold
       obtain⟨b,off,c2,L,A2,rfl,hmm,rfl,hL,hle,hc2⟩:=hs.slice_inv
       exact fh s ht hi hblk hold hL hc2 hr hlen hfc0 hone' h0 hmr hmm.2
      ·cases h
    ·cases h
  ·cases h
end Go.Ab
namespace Go.Ab
open Go
inductive KK where
 | int|bool|str|ints (n:Nat)
def ival:Value→Int
 | .int _ n=>n
 | _=>0
def isi64:Value→Bool
 | .int .i64 _=>true
 | _=>false
def kform:KK→Value→Bool
 | .int,v=>isi64 v
 | .bool,.bool _=>true
 | .str,.string _=>true
 | .ints n,.agg cs=>decide (cs.size=n)&&cs.toList.all isi64
 | _,_=>false
def kbeq:Value→Value→Bool
 | .int _ a,.int _ b=>a==b
 | .bool a,.bool b=>a==b
 | .string a,.string b=>a==b
 | .agg xs,.agg ys=>xs.toList.map ival==ys.toList.map ival
 | _,_=>false
def mget (k:Value):List (Value×Value)→Option Value
 | []=>none
 | e::es=>if kbeq k e.1 then some e.2 else mget k es
def mput (k v:Value):List (Value×Value)→List (Value×Value)
 | []=>[(k,v)]
 | e::es=>if kbeq k e.1 then(k,v)::es else e::mput k v es
inductive AOp where
 | mv (x:Operand)
 | pick (c a b:Operand)
 | bin (op:BinOp) (x y:Operand)
 | eq (neg:Bool) (k:EqK) (x y:Operand)
 | un (op:UnOp) (x:Operand)
 | conv (k:IntKind) (x:Operand)
 | build (zero:List Value) (parts:List (Nat×Nat×Operand))
 | extract (x:Operand) (i:Nat)
 | field (off size:Nat) (agg:Bool) (x:Operand)
 | mkfn (fn:Fn) (caps:List Operand)
 | iface (t:TypeId) (x:Operand)
 | nilchk (x:Operand)
 | faddr (off:Nat) (x:Operand)
 | idxs (sz:Nat) (x i:Operand)
 | idxa (len sz:Nat) (x i:Operand)
 | idx (len sz:Nat) (agg:Bool) (x i:Operand)
 | idxstr (x i:Operand)
 | slice (sz:Nat) (x:Operand) (lo hi:Option Operand)
 | len (x:Operand)
 | lens (x:Operand)
 | mm (isMax:Bool) (xs:List Operand)
 | alloc (cells:List Value)
 | box (x:Operand)
 | mkslice (sz bytes:Nat) (zero:List Value) (l c:Operand)
 | bslice (sz len:Nat) (tmpl:List Value) (parts:List (Nat×Nat×Operand))
 | load (sz:Nat) (agg:Bool) (x:Operand)
 | store (sz:Nat) (a x:Operand)
 | append (sz bytes:Nat) (s x:Operand)
 | capn (x:Operand)
 | appz (sz bytes:Nat) (zero:List Value) (s n:Operand)
 | appk (sz bytes:Nat) (s n:Operand)
 | clear (sz:Nat) (zero:List Value) (x:Operand)
 | copy (sz:Nat) (d x:Operand)
 | mkmap
 | lenm (x:Operand)
 | mlook (kk:KK) (zero:Value) (ok:Bool) (x i:Operand)
 | mset (kk:KK) (x i y:Operand)
 | call (f:FuncId) (args:List Operand)
 | callv (f:Operand) (args:List Operand)
 | bad
def okL (xs:List Operand):Bool:=xs.all okO
def okP (ps:List (Nat×Nat×Operand)):Bool:=ps.all fun p=>okO p.2.2
def okz (cs:List Value):Bool:=cs.all okC
def aggT (P:Program)(t:TypeId):Option Bool:=
 match P.underlying t with
 | some (.struct _)|some (.array _ _)=>some true
 | some _=>some false
 | none=>none
def szT (P:Program)(t:TypeId):Option (Nat×Bool):=
 match P.info? t,aggT P t with
 | some i,some b=>if b ||i.size==1 then some (i.size,b) else none
 | _,_=>none
def zeroT (P:Program)(t:TypeId):Option (List Value):=
 match P.info? t with
 | some i=>match i.zero with
   | some z=>if okz z.cells.toList&&z.cells.size==i.size then some z.cells.toList else none
   | none=>none
 | none=>none
def okV:Value→Bool
 | .agg cs=>okz cs.toList
 | v=>okC v
def zeroV (P:Program)(t:TypeId):Option Value:=
 match P.info? t with
 | some i=>match i.zero with
   | some z=>if okV z then some z else none
   | none=>none
 | none=>none
def kkOf (P:Program)(t:TypeId):Option KK:=
 match P.underlying t with
 | some (.int .i64)=>some .int
 | some .bool=>some .bool
 | some .string=>some .str
 | some (.array n e)=>match P.underlying e,szT P e with
   | some (.int .i64),some (1,false)=>some (.ints n)
   | _,_=>none
 | _=>none
def places (P:Program)(t:TypeId):Option (List (Nat×Nat)):=
 match P.underlying t with
 | some (.struct fs)=>fs.toList.mapM fun f=>(P.info? f.type).map fun i=>(f.offset,i.size)
 | some (.array n e)=>(P.info? e).map fun i=>(List.range n).map fun j=>(j*i.size,i.size)
 | _=>none
def cBuiltin (P:Program)(b:Builtin)(ty:List TypeId)(args:List Operand):AOp:=
 match b,ty,args with
 | .len,[t],[x]=>match P.underlying t with
   | some (.slice _)=>.len x
   | some .string=>.lens x
   | some (.map _ _)=>.lenm x
   | _=>.bad
 | .append,[t,u],[s,x]=>
   if t=u then match P.underlying t with
    | some (.slice e)=>match P.info? e,zeroT P e with
      | some i,some _=>if 0<i.size∧0<i.bytes then .append i.size i.bytes s x else .bad
      | _,_=>.bad
    | _=>.bad
   else match P.underlying t,P.underlying u with
    | some (.slice e),some (.int _)=>match P.info? e,zeroT P e with
      | some i,some z=>.bad
      | _,_=>.bad
    | _,_=>.bad
 | .cap,[t],[x]=>match P.underlying t with
   | some (.slice _)=>.capn x
   | _=>.bad
 | .clear,[t],[x]=>match P.underlying t with
   | some (.slice e)=>match P.info? e,zeroT P e with
     | some i,some z=>.bad
     | _,_=>.bad
   | _=>.bad
 | .copy,[t,_],[d,x]=>match P.underlying t with
   | some (.slice e)=>match P.info? e with
     | some i=>.copy i.size d x
     | _=>.bad
   | _=>.bad
 | .min,_,xs=>.mm false xs
 | .max,_,xs=>.mm true xs
 | _,_,_=>.bad
def cOp (P:Program)(o:Oper):AOp:=
 match o.op with
 | .move x | .assign x=>if okO x then .mv x else .bad
 | .pick c a b=>if okL [c,a,b] then .pick c a b else .bad
 | .binOp op t x y _=>
   if okL [x,y] then
    match op,eqKOf P t with
    | .eql,.other | .neq,.other=>.bin op x y
    | .eql,k=>.eq false k x y
    | .neq,k=>.eq true k x y
    | op,_=>.bin op x y
   else .bad
 | .unOp op _ x=>if okO x then .un op x else .bad
 | .convert src dst x=>
   if okO x then match P.underlying src,P.underlying dst with
    | some _,some (.int k)=>.conv k x
    | _,_=>.bad
   else .bad
 | .build t ps=>
   match zeroT P t,places P t with
   | some z,some pl=>
     match ps.toList.mapM (fun p=>(pl[p.1]?).map fun q=>(q.1,q.2,p.2)) with
     | some l=>if okP l then .build z l else .bad
     | none=>.bad
   | _,_=>.bad
 | .extract x i=>if okO x then .extract x i else .bad
 | .field t x f=>
   if okO x then match P.underlying t with
    | some (.struct fs)=>match fs[f]? with
      | some fd=>match szT P fd.type with
        | some (n,b)=>.field fd.offset n b x
        | none=>.bad
      | none=>.bad
    | _=>.bad
   else .bad
 | .makeFunc fn first caps=>if first.size=0∧okL caps.toList then .mkfn fn caps.toList else .bad
 | .makeInterface t x=>if okO x∧P.concrete t then .iface t x else .bad
 | .nilCheck x=>if okO x then .nilchk x else .bad
 | .fieldAddr t x f=>
   if okO x then match P.underlying t with
    | some (.struct fs)=>match fs[f]? with
      | some fd=>match P.info? fd.type with
        | some i=>if i.size≠0 then .faddr fd.offset x else .bad
        | none=>.bad
      | none=>.bad
    | _=>.bad
   else .bad
 | .indexAddr t x i=>
   if okL [x,i] then match P.underlying t with
    | some (.slice e)=>match P.info? e with
      | some inf=>.idxs inf.size x i
      | none=>.bad
    | some (.array n e)=>match P.info? e with
      | some inf=>.idxa n inf.size x i
      | none=>.bad
    | _=>.bad
   else .bad
 | .index t x i=>
   if okL [x,i] then match P.underlying t with
    | some .string=>.idxstr x i
    | some (.array n e)=>match szT P e with
      | some (m,b)=>.idx n m b x i
      | none=>.bad
    | _=>.bad
   else .bad
 | .slice t x lo hi none=>
   if okO x∧okL lo.toList∧okL hi.toList then match P.underlying t with
    | some (.slice e)=>match P.info? e with
      | some inf=>.slice inf.size x lo hi
      | none=>.bad
    | _=>.bad
   else .bad
 | .alloc e=>match zeroT P e with
   | some z=>.alloc z
   | none=>.bad
 | .box _ x=>if okO x then .box x else .bad
 | .makeSlice t l c=>
   if okL [l,c] then match P.underlying t with
    | some (.slice e)=>match P.info? e,zeroT P e with
      | some i,some z=>.mkslice i.size i.bytes z l c
      | _,_=>.bad
    | _=>.bad
   else .bad
 | .buildSlice t len ps=>
   match P.underlying t with
   | some (.slice e)=>match P.info? e,zeroT P e with
     | some i,some z=>
       if len*i.size≤2^24∧okL (ps.toList.map (·.2)) then
        .bslice i.size len (madeCells z.toArray (len*i.size)).toList (ps.toList.map fun p=>(p.1*i.size,i.size,p.2))
       else .bad
     | _,_=>.bad
   | _=>.bad
 | .load t x=>
   if okO x then match szT P t with
    | some (n,b)=>.load n b x
    | none=>.bad
   else .bad
 | .store t a x=>
   if okL [a,x] then match P.info? t with
    | some i=>.store i.size a x
    | none=>.bad
   else .bad
 | .makeMap _ none=>.mkmap
 | .lookup t x i ok=>
   if okL [x,i] then match P.underlying t with
    | some (.map k e)=>match kkOf P k,zeroV P e with
      | some kk,some z=>.mlook kk z ok x i
      | _,_=>.bad
    | _=>.bad
   else .bad
 | .mapUpdate t x i y | .insert t x i y=>
   if okL [x,i,y] then match P.underlying t with
    | some (.map k _)=>match kkOf P k with
      | some kk=>.mset kk x i y
      | none=>.bad
    | _=>.bad
   else .bad
 | .call c=>
   if okL c.args.toList then match c.callee with
    | .builtin b=>cBuiltin P b c.argTypes.toList c.args.toList
    | .value (.func f)=>.call f c.args.toList
    | .value f=>if okO f then .callv f c.args.toList else .bad
    | _=>.bad
   else .bad
 | _=>.bad
def bfill:List Value→List (Nat×Nat×Value)→Option (List Value)
 | cs,[]=>some cs
 | cs,(off,size,v)::rest=>if v.cells.size=size∧off+size≤cs.length then bfill (splice cs off v.cells.toList) rest else none
def mm2 (isMax:Bool):Value→List Value→Option Value
 | v,[]=>some v
 | .int k x,.int k' y::rest=>if k=k' then mm2 isMax (.int k (if isMax then(if y>x then y else x) else(if y<x then y else x))) rest else none
 | _,_=>none
def asNat (lo:Nat)(hi:Nat):Option Value→(dflt:Nat)→Option Nat
 | none,d=>if lo≤d∧d≤hi then some d else none
 | some (.int _ n),_=>if(lo:Int)≤n∧n≤hi then some n.toNat else none
 | _,_=>none
def Hp.blind (H:Hp)(a:Addr)(k:Nat):Bool:=match H.cells a.block with
 | some vs=>decide (vs.length<a.off+k)
 | none=>false
def aslice (H:Hp)(sz:Nat)(x:Value)(lo hi:Option Value):Option Value:=
 match x with
 | .slice none 0 0=>do
   let h ←asNat 0 0 hi 0
   let _ ←asNat 0 h lo 0
   some (.slice none 0 0)
 | .slice (some a) n m=>if n=m∧H.esz a.block=some sz then do
  let h ←asNat 0 n hi n
  let l ←asNat 0 h lo 0
  some (.slice (some ⟨a.block,a.off+l*sz,none⟩) (h-l) (if H.blind a (n*sz) then n-l else h-l))
   else none
 | _=>none
def anew (o:AOp)(tm:Tm)(k:Nat):Option (Value×Blk):=
 match o with
 | .alloc z=>some (.pointer (some ⟨k,0,none⟩),.rw 0 z)
 | .box x=>some (.pointer (some ⟨k,0,none⟩),.rw 0 (ev tm x).cells.toList)
 | .mkslice sz bytes z l c=>match ev tm l,ev tm c with
   | .int _ l,.int _ c=>
     if 0≤l∧l≤c∧(bytes:Int)*c≤281474976710656∧c≤9223372036854775807 then
      some (.slice (some ⟨k,0,none⟩) l.toNat l.toNat,.rw sz (madeCells z.toArray (l.toNat*sz)).toList)
     else none
   | _,_=>none
 | .bslice sz len tm0 ps=>(bfill tm0 (ps.map fun p=>(p.1,p.2.1,ev tm p.2.2))).map fun cs=>(.slice (some ⟨k,0,none⟩) len len,.rw sz cs)
 | _=>none
def aop (o:AOp)(tm:Tm)(H:Hp):Option (Value×Hp):=
 match o with
 | .mv x=>some (ev tm x,H)
 | .pick c a b=>match ev tm c with
   | .bool t=>some (if t then ev tm a else ev tm b,H)
   | _=>none
 | .bin op x y=>match ev tm x,ev tm y with
   | .int k a,.int k' b=>(ibin op k a k' b).map (·,H)
   | _,_=>none
 | .eq neg k x y=>match ev tm x,ev tm y with
   | .int k a,.int k' b=>(ibin (if neg then .neq else .eql) k a k' b).map (·,H)
   | u,v=>(aEq k u v).map fun b=>(.bool (if neg then !b else b),H)
 | .un op x=>match op,ev tm x with
   | .neg,.int k n=>some (.int k (k.wrap (0-n)),H)
   | .not,.bool b=>some (.bool !b,H)
   | _,_=>none
 | .conv k x=>match ev tm x with
   | .int _ n=>some (.int k (k.wrap n),H)
   | _=>none
 | .build z ps=>(bfill z (ps.map fun p=>(p.1,p.2.1,ev tm p.2.2))).map fun cs=>(.agg cs.toArray,H)
 | .extract x i=>match ev tm x with
   | .tuple vs=>(vs[i]?).map (·,H)
   | _=>none
 | .field off n b x=>match ev tm x with
   | .agg cs=>if off+n≤cs.size then(mkv b ((cs.toList.drop off).take n)).map (·,H) else none
   | _=>none
 | .mkfn fn caps=>some (.func fn #[] (caps.map (ev tm)).toArray,H)
 | .iface t x=>some (.iface t (ev tm x),H)
 | .nilchk x=>match ev tm x with
   | .pointer (some a)=>some (.pointer (some a),H)
   | .func (.func f) a b=>some (.func (.func f) a b,H)
   | _=>none
 | .faddr off x=>match ev tm x with
   | .pointer (some a)=>some (.pointer (some ⟨a.block,a.off+off,none⟩),H)
   | _=>none
 | .idxs sz x i=>match ev tm x,ev tm i with
   | .slice (some a) n _,.int _ j=>if 0≤j∧j<n then some (.pointer (some ⟨a.block,a.off+j.toNat*sz,none⟩),H) else none
   | _,_=>none
 | .idxa len sz x i=>match ev tm x,ev tm i with
   | .pointer (some a),.int _ j=>if 0≤j∧j<len then some (.pointer (some ⟨a.block,a.off+j.toNat*sz,none⟩),H) else none
   | _,_=>none
 | .idx len sz b x i=>match ev tm x,ev tm i with
   | .agg cs,.int _ j=>if 0≤j∧j<len∧(j.toNat*sz)+sz≤cs.size then(mkv b ((cs.toList.drop (j.toNat*sz)).take sz)).map (·,H) else none
   | _,_=>none
 | .idxstr x i=>match ev tm x,ev tm i with
   | .string s,.int _ j=>if 0≤j then(s[j.toNat]?).map fun b=>(.int .u8 b.toNat,H) else none
   | _,_=>none
 | .slice sz x lo hi=>(aslice H sz (ev tm x) (lo.map (ev tm)) (hi.map (ev tm))).map (·,H)
 | .len x=>match ev tm x with
   | .slice _ n _=>some (.int .i64 n,H)
   | _=>none
 | .lens x=>match ev tm x with
   | .string s=>some (.int .i64 s.size,H)
   | _=>none
 | .mm isMax xs=>match xs.map (ev tm) with
   | v::rest=>(mm2 isMax v rest).map (·,H)
   | []=>none
 | .alloc z=>(anew (.alloc z) tm H.length).map fun p=>(p.1,H++ [p.2])
 | .box x=>(anew (.box x) tm H.length).map fun p=>(p.1,H++ [p.2])
 | .mkslice sz bytes z l c=>(anew (.mkslice sz bytes z l c) tm H.length).map fun p=>(p.1,H++ [p.2])
 | .bslice sz len tm0 ps=>(anew (.bslice sz len tm0 ps) tm H.length).map fun p=>(p.1,H++ [p.2])
 | .load n b x=>match ev tm x with
   | .pointer (some a)=>if a.spot.isNone then((H.load a n).bind (mkv b)).map (·,H) else none
   | _=>none
 | .store n a x=>match ev tm a with
   | .pointer (some a)=>match H[a.block]? with
     | some (.rw s vs)=>
       if(ev tm x).cells.size=n∧(ev tm x).cells.toList.all Value.oneCell'∧a.off+n≤vs.length then
        some (undef,H.set a.block (.rw s (splice vs a.off (ev tm x).cells.toList)))
       else none
     | _=>none
   | _=>none
 | .append sz bytes s x=>aappend sz bytes (ev tm s) (ev tm x) H
 | .capn x=>match ev tm x with
   | .slice none 0 0=>some (.int .i64 0,H)
   | _=>none
 | .appz sz bytes z s n=>match ev tm s,ev tm n with
   | .slice none 0 0,.int _ n=>
     if 0<n∧n.toNat*bytes≤140737488355328 then some (.slice (some ⟨H.length,0,none⟩) n.toNat n.toNat,H++ [.rw sz (madeCells z.toArray (n.toNat*sz)).toList]) else none
   | _,_=>none
 | .appk sz bytes s n=>match ev tm s,ev tm n with
   | .slice none 0 0,.int _ n=>
     if 0<n∧n.toNat*bytes≤281474976710656 then some (.slice (some ⟨H.length,0,none⟩) n.toNat n.toNat,H++ [.rw sz []]) else none
   | _,_=>none
 | .clear sz z x=>match ev tm x with
   | .slice none 0 0=>some (.tuple #[],H)
   | .slice (some a) n _=>if n=0 then some (.tuple #[],H) else match H[a.block]? with
     | some (.rw s vs)=>if a.off+n*sz≤vs.length then some (.tuple #[],H.set a.block (.rw s (splice vs a.off (madeCells z.toArray (n*sz)).toList))) else none
     | _=>none
   | _=>none
 | .copy sz d x=>match slcells H sz (ev tm x),ev tm d with
   | some _,.slice none 0 0=>some (.int .i64 0,H)
   | some (n,cs),.slice (some a) m _=>if min n m=0 then some (.int .i64 0,H) else match H[a.block]? with
     | some (.rw s vs)=>if(cs.take (min n m*sz)).all Value.oneCell'∧a.off+min n m*sz≤vs.length then some (.int .i64 (min n m:Nat),H.set a.block (.rw s (splice vs a.off (cs.take (min n m*sz))))) else none
     | _=>none
   | _,_=>none
 | .mkmap=>some (.map (some H.length),H++ [.mp []])
 | .lenm x=>match ev tm x with
   | .map (some b)=>match H[b]? with
     | some (.mp es)=>some (.int .i64 es.length,H)
     | _=>none
   | _=>none
 | .mlook kk z ok x i=>match ev tm x with
   | .map none=>if kform kk (ev tm i) then some (if ok then .tuple #[z,.bool false] else z,H) else none
   | .map (some b)=>match H[b]? with
     | some (.mp es)=>if kform kk (ev tm i)&&es.all (fun e=>kform kk e.1) then
      some (match mget (ev tm i) es with
       | some v=>if ok then .tuple #[v,.bool true] else v
       | none=>if ok then .tuple #[z,.bool false] else z,H)
       else none
     | _=>none
   | _=>none
 | .mset kk x i y=>match ev tm x with
   | .map (some b)=>match H[b]? with
     | some (.mp es)=>if kform kk (ev tm i)&&es.all (fun e=>kform kk e.1) then some (undef,H.set b (.mp (mput (ev tm i) (ev tm y) es))) else none
     | _=>none
   | _=>none
 | .call _ _ | .callv _ _ | .bad=>none
end Go.Ab
namespace Go.Ab
open Go
theorem fu {ι:Emb}{cs:List Value}(h:okz cs=true):VRs ι cs cs:=by
 refine⟨rfl,fun j v v' a b=>?_⟩
 rw [a] at b;cases b
 exact eW (List.all_eq_true.1 h v (List.mem_of_getElem? a))
theorem VR.of_mkv {ι:Emb}{agg:Bool}{cs cs':List Value}{v:Value}(h:VRs ι cs cs')(hv:mkv agg cs=some v):∃v',mkv agg cs'=some v'∧VR ι v v':=by
 unfold mkv at hv ⊢
 cases agg with
 | true=>simp at hv ⊢;subst hv;exact VR.of_agg h
 | false=>
   simp only [Bool.false_eq_true,if_false] at hv ⊢
   cases cs with
   | nil=>simp at hv
   | cons u r=>
     cases r with
     | nil=>
       simp at hv;subst hv
       obtain⟨v',r',rfl,h1,h2⟩:=h.cons_inv
       rw [h2.nil_inv]
       exact⟨v',rfl,h1⟩
     | cons u2 r2=>simp at hv
theorem dq {P:Program}{t:TypeId}{n:Nat}{b:Bool}(h:szT P t=some (n,b)):∃i,P.info? t=some i∧i.size=n∧(∀w,(isAgg t).run P w= .ok b w)∧(b=false→n=1):=by
 unfold szT at h
 split at h
 ·rename_i i b' hi hb
  split at h
  ·rename_i hc
   cases h
   refine⟨i,hi,rfl,fun w=>?_,fun hb'=>by subst hb';simpa using hc⟩
   unfold aggT at hb
   split at hb<;>cases hb<;>(rename_i hu;simp [isAgg,run_underlying hu])
   all_goals (split<;>simp_all)
  ·cases h
 ·cases h
theorem dc {P:Program}{t:TypeId}{cs:List Value}(h:zeroT P t=some cs):∃i z,P.info? t=some i∧i.zero=some z∧z.cells.toList=cs∧okz cs=true∧z.cells.size=i.size:=by
 unfold zeroT at h
 split at h
 ·rename_i i hi
  split at h
  ·rename_i z hz
   split at h
   ·rename_i hc
    cases h
    simp at hc
    exact⟨i,z,hi,hz,rfl,hc.1,hc.2⟩
   ·cases h
  ·cases h
 ·cases h
theorem dA {P:Program}{t:TypeId}{n:Nat}{b:Bool}(h:szT P t=some (n,b)){cs:Array Value}{off:Nat}{v:Value}(hle:off+n≤cs.size)
 (hv:mkv b ((cs.toList.drop off).take n)=some v) (w:World):(part t cs off).run P w= .ok v w:=by
 obtain⟨i,hi,hsz,hagg,h1⟩:=dq h
 unfold part
 rw [Sem.run_bind,hagg,Result.andThen_ok]
 cases b with
 | true=>
   simp only [mkv,if_true,Option.some.injEq] at hv
   subst hv
   simp only [if_true,Sem.run_bind,sizeOf,typeInfo,run_program,Result.andThen_ok,hi,Sem.run_pure,hsz]
   congr 2
   apply Array.ext'
   simp [Array.toList_extract,List.extract_eq_take_drop]
 | false=>
   have hn:=h1 rfl
   subst hn
   simp only [mkv,Bool.false_eq_true,if_false] at hv ⊢
   have hlt:off<cs.size:=by omega
   have hd:(cs.toList.drop off).take 1= [cs[off]]:=by
    rw [List.take_one]
    simp [List.head?_drop,hlt]
   rw [hd] at hv
   simp at hv
   subst hv
   simp [hlt]
theorem fz {ι:Emb}:∀(ps ps':List (Nat×Nat×Value)),ps.length=ps'.length→(∀(j:Nat) (p p':Nat×Nat×Value),ps[j]? =some p→ps'[j]? =some p'→p.1=p'.1∧p.2.1=p'.2.1∧VR ι p.2.2 p'.2.2)→
 ∀(cs cs' r:List Value),VRs ι cs cs'→bfill cs ps=some r→∃r',bfill cs' ps'=some r'∧VRs ι r r'
 | [],ps',hl,_,cs,cs',r,hc,h=>by
   obtain rfl:ps'= []:=List.eq_nil_of_length_eq_zero (by simpa using hl.symm)
   simp [bfill] at h ⊢;subst h;exact hc
 | (off,size,v)::ps,ps',hl,hp,cs,cs',r,hc,h=>by
   cases ps' with
   | nil=>simp at hl
   | cons p' ps'=>
     obtain⟨off',size',v'⟩:=p'
     obtain⟨h1,h2,h3⟩:=hp 0 _ _ rfl rfl
     simp only at h1 h2 h3
     subst h1;subst h2
     simp only [bfill] at h ⊢
     have hcl:=h3.cells
     split at h
     ·rename_i hcond
      have hs:v'.cells.size=v.cells.size:=by have:=hcl.1;simpa using this.symm
      rw [if_pos ⟨by rw [hs];exact hcond.1,by rw [←hc.1];exact hcond.2⟩]
      exact fz ps ps' (by simpa using hl) (fun j p p' a b=>hp (j+1) p p' (by simpa using a) (by simpa using b)) _ _ r (eh hc hcl off) h
     ·cases h
theorem eH (off:Nat):∀(l:List Value) (k:Nat) (arr:Array Value),off+k+l.length≤arr.size→
 ((l.zipIdx k).foldl (fun(cs:Array Value) (x:Value×Nat)=>cs.setIfInBounds (off+x.2) x.1) arr).toList=splice arr.toList (off+k) l
 | [],k,arr,_=>by simp [splice]
 | v::l,k,arr,h=>by
   simp only [List.zipIdx_cons,List.foldl_cons]
   have ih:=eH off l (k+1) (arr.setIfInBounds (off+k) v) (by simp at h ⊢;omega)
   rw [ih]
   simp only [splice,Array.toList_setIfInBounds,List.length_cons]
   have e:=list_seg_step arr.toList (off+k) v l (by simp at h ⊢;omega)
   rw [←Nat.add_assoc] at e ⊢
   exact e.trans (by rw [show off+k+l.length+1=off+k+(l.length+1) from rfl])
theorem eG (pl:Nat→Option (Nat×Nat)):∀(ps:List (Nat×Value)) (l:List (Nat×Nat×Value)),ps.mapM (fun p=>(pl p.1).map fun q=>(q.1,q.2,p.2))=some l→
 ∀(cs:Array Value) (r:List Value),bfill cs.toList l=some r→Instr.fill pl cs ps=some r.toArray
 | [],l,hl,cs,r,h=>by
   simp at hl;subst hl
   simp [bfill] at h;subst h
   simp [Instr.fill]
 | (i,v)::ps,l,hl,cs,r,h=>by
   simp only [List.mapM_cons,Option.bind_eq_bind,Option.pure_def,Option.bind_eq_some_iff] at hl
   obtain⟨e,he,l2,hl2,h3⟩:=hl
   cases h3
   obtain⟨q,hq,rfl⟩:=Option.map_eq_some_iff.1 he
   obtain⟨off,size⟩:=q
   simp only [bfill] at h
   split at h
   ·rename_i hc
    simp only [Instr.fill,hq]
    rw [if_neg (by simp;exact⟨hc.1,by have:=hc.2;simp at this;omega⟩)]
    refine eG pl ps l2 hl2 _ r ?_
    have:=eH off v.cells.toList 0 cs (by have:=hc.2;have:=hc.1;simp at*;omega)
    rw [←Array.foldl_toList,Array.toList_zipIdx,this]
    exact h
   ·cases h
end Go.Ab
namespace Go.Ab
open Go
section
variable {P : Program} {ι : Emb} {H H' : Hp} {w : World} {N : Nat} {tm : Tm} {a : Act} {av : Value}
theorem cA {v':Value}{k:IntKind}{n:Int}{ι:Emb}(h:VR ι (.int k n) v'):v'= .int k n:=by cases h;rfl
theorem gT {v':Value}{b:Bool}{ι:Emb}(h:VR ι (.bool b) v'):v'= .bool b:=by cases h;rfl
theorem jX {v':Value}{b:ByteArray}{ι:Emb}(h:VR ι (.string b) v'):v'= .string b:=by cases h;rfl
theorem good_pick (s:Sim ι H w)(ht:TR ι N tm a){c x y:Operand}(ho:okL [c,x,y]=true)(h:aop (.pick c x y) tm H=some (av,H')):
 Good P (do pure (.value (if ←asBool (a.eval c) then a.eval x else a.eval y))) ι H w av H':=by
 simp only [okL,List.all_cons,List.all_nil,Bool.and_true,Bool.and_eq_true] at ho
 simp only [aop] at h
 have hc:=bn ht ho.1
 split at h
 ·rename_i t e
  cases h
  rw [e] at hc
  have:=gT hc
  refine Good.pure (v:=if t then a.eval x else a.eval y) (by cases t<;>simp [this,asBool]) ?_ s
  cases t
  ·exact bn ht ho.2.2
  ·exact bn ht ho.2.1
 ·cases h
theorem fN (s:Sim ι H w)(ht:TR ι N tm a){op:BinOp}{t:TypeId}{x y:Operand}(ho:okL [x,y]=true)(h:aop (.bin op x y) tm H=some (av,H')):
 Good P (do pure (.value (←(do eqGuard op t x y (a.eval x) (a.eval y);binOp op t (a.eval x) (a.eval y):Sem Value)))) ι H w av H':=by
 simp only [okL,List.all_cons,List.all_nil,Bool.and_true,Bool.and_eq_true] at ho
 simp only [aop] at h
 have hx:=bn ht ho.1
 have hy:=bn ht ho.2
 split at h
 ·rename_i k n k' n' e1 e2
  rw [e1] at hx;rw [e2] at hy
  rw [cA hx,cA hy]
  cases hb:ibin op k n k' n' with
  | none=>simp [hb] at h
  | some v=>
    simp [hb] at h
    obtain⟨rfl,rfl⟩:=h
    refine Good.pure (v:=v) ?_ (iW hb) s
    rw [Sem.run_bind,ia hb t x y w];rfl
 ·cases h
theorem iU (s:Sim ι H w)(ht:TR ι N tm a){neg:Bool}{t:TypeId}{x y:Operand}(ho:okL [x,y]=true)(h:aop (.eq neg (eqKOf P t) x y) tm H=some (av,H')):
 Good P (do pure (.value (←(do eqGuard (if neg then .neq else .eql) t x y (a.eval x) (a.eval y);binOp (if neg then .neq else .eql) t (a.eval x) (a.eval y):Sem Value)))) ι H w av H':=by
 simp only [okL,List.all_cons,List.all_nil,Bool.and_true,Bool.and_eq_true] at ho
 simp only [aop] at h
 have hx:=bn ht ho.1
 have hy:=bn ht ho.2
 split at h
 ·rename_i k n k' n' e1 e2
  rw [e1] at hx;rw [e2] at hy
  rw [cA hx,cA hy]
  cases hb:ibin (if neg then .neq else .eql) k n k' n' with
  | none=>simp [hb] at h
  | some v=>
    simp [hb] at h
    obtain⟨rfl,rfl⟩:=h
    refine Good.pure (v:=v) ?_ (iW hb) s
    rw [Sem.run_bind,ia hb t x y w];rfl
 ·cases hb:aEq (eqKOf P t) (ev tm x) (ev tm y) with
  | none=>simp [hb] at h
  | some b=>
    simp [hb] at h
    obtain⟨rfl,rfl⟩:=h
    refine Good.pure (v:=.bool (if neg then !b else b)) ?_ (.bool _) s
    rw [Sem.run_bind,aEq_run (aEq_vr hb hx hy) neg x y w];rfl
theorem good_un (s:Sim ι H w)(ht:TR ι N tm a){op:UnOp}{x:Operand}(ho:okO x=true)(h:aop (.un op x) tm H=some (av,H')):
 Good P (do pure (.value (←Op.unary op (a.eval x)))) ι H w av H':=by
 simp only [aop] at h
 have hx:=bn ht ho
 split at h
 ·rename_i k n e
  rw [e] at hx;rw [cA hx];cases h
  exact Good.pure (v:=.int k (k.wrap (0-n))) (by simp [Op.unary,Op.intArith]) (.int _ _) s
 ·rename_i b e
  rw [e] at hx;rw [gT hx];cases h
  exact Good.pure (v:=.bool !b) (by simp [Op.unary]) (.bool _) s
 ·cases h
theorem good_conv (s:Sim ι H w)(ht:TR ι N tm a){src dst:TypeId}{k:IntKind}{d:TypeDesc}(hs:P.underlying src=some d)(hd:P.underlying dst=some (.int k)){x:Operand}(ho:okO x=true)
 (h:aop (.conv k x) tm H=some (av,H')):Good P (do pure (.value (←convert src dst (a.eval x)))) ι H w av H':=by
 simp only [aop] at h
 have hx:=bn ht ho
 split at h
 ·rename_i k' n e
  rw [e] at hx;rw [cA hx];cases h
  exact Good.pure (v:=.int k (k.wrap n)) (by simp [convert,run_underlying hs,run_underlying hd,Conv.intToInt]) (.int _ _) s
 ·cases h
theorem good_extract (s:Sim ι H w)(ht:TR ι N tm a){x:Operand}{i:Nat}(ho:okO x=true)(h:aop (.extract x i) tm H=some (av,H')):
 Good P (do pure (.value (←Instr.extract (a.eval x) i))) ι H w av H':=by
 simp only [aop] at h
 have hx:=bn ht ho
 split at h
 ·rename_i vs e
  rw [e] at hx
  generalize a.eval x=u at*
  cases hx with
  | tup _ cs' hs hv=>
    cases hi:vs[i]? with
    | none=>simp [hi] at h
    | some v=>
      simp [hi] at h
      obtain⟨rfl,rfl⟩:=h
      have hlt:i<vs.size:=(Array.getElem?_eq_some_iff.1 hi).1
      have hi':cs'[i]? =some cs'[i]:=by simp [hs▸hlt]
      exact Good.pure (v:=cs'[i]'(hs▸hlt)) (by simp [Instr.extract,hi']) (hv i _ _ hi hi') s
  | anyt _=>simp at h
 ·cases h
theorem good_field (s:Sim ι H w)(ht:TR ι N tm a){x:Operand}{t:TypeId}{fs:Array Field}(hu:P.underlying t=some (.struct fs)){f:Nat}{fd:Field}(hf:fs[f]? =some fd){n:Nat}{b:Bool}
 (hsz:szT P fd.type=some (n,b)) (ho:okO x=true) (h:aop (.field fd.offset n b x) tm H=some (av,H')):
 Good P (do pure (.value (←Instr.field t (a.eval x) f))) ι H w av H':=by
 simp only [aop] at h
 have hx:=bn ht ho
 split at h
 ·rename_i cs e
  rw [e] at hx
  generalize a.eval x=u at*
  cases hx with
  | agg _ cs' hs hv=>
    split at h
    ·rename_i hle
     cases hm:mkv b ((cs.toList.drop fd.offset).take n) with
     | none=>simp [hm] at h
     | some v=>
       simp [hm] at h
       obtain⟨rfl,rfl⟩:=h
       have hr:VRs ι cs.toList cs'.toList:=VR.cells (.agg _ _ hs hv)
       obtain⟨v',hm',hvv⟩:=VR.of_mkv ((hr.drop fd.offset).take n) hm
       exact Good.pure (v:=v') (by simp [Instr.field,run_underlying hu,hf,asAgg,dA hsz (by omega) hm']) hvv s
    ·cases h
 ·cases h
theorem good_nilchk (s:Sim ι H w)(ht:TR ι N tm a){o:Oper}{x:Operand}(hop:o.op= .nilCheck x)(ho:okO x=true)(h:aop (.nilchk x) tm H=some (av,H')):
 Good P (execOp a.eval o) ι H w av H':=by
 simp only [aop] at h
 have hx:=bn ht ho
 split at h
 ·rename_i ad e
  rw [e] at hx;cases h
  obtain⟨b,off,L,rfl,hv,hL⟩:=hx.ptr_inv
  exact Good.pure (v:=.pointer (some (L.base.add off))) (by simp [execOp,hop,hv]) (.ptr b off L hL) s
 ·rename_i f x1 x2 e
  rw [e] at hx;cases h
  generalize hu:a.eval x=u at*
  cases hx with
  | fn _ _ cs' hs hv=>exact Good.pure (v:=.func (.func f) #[] cs') (by simp [execOp,hop,hu]) (.fn _ _ _ hs hv) s
 ·cases h
theorem good_faddr (s:Sim ι H w)(ht:TR ι N tm a){x:Operand}{t:TypeId}{fs:Array Field}(hu:P.underlying t=some (.struct fs)){f:Nat}{fd:Field}(hf:fs[f]? =some fd){i:TypeInfo}
 (hi:P.info? fd.type=some i) (hsz:i.size≠0) (ho:okO x=true) (h:aop (.faddr fd.offset x) tm H=some (av,H')):
 Good P (do pure (.value (←Instr.fieldAt t (a.eval x) f))) ι H w av H':=by
 simp only [aop] at h
 have hx:=bn ht ho
 split at h
 ·rename_i ad e
  rw [e] at hx;cases h
  obtain⟨b,off,L,rfl,hv,hL⟩:=hx.ptr_inv
  refine Good.pure (v:=.pointer (some (L.base.add (off+fd.offset)))) ?_ (.ptr b _ L hL) s
  simp [Instr.fieldAt,run_underlying hu,hf,hv,Instr.sureAddr,fieldPlace,sizeOf,typeInfo,hi,hsz,dd]
 ·cases h
theorem good_idxs (s:Sim ι H w)(ht:TR ι N tm a){x ix:Operand}{t e:TypeId}(hu:P.underlying t=some (.slice e)){i:TypeInfo}(hi:P.info? e=some i)
 (ho:okL [x,ix]=true) (h:aop (.idxs i.size x ix) tm H=some (av,H')):Good P (do pure (.value (←Instr.indexAt t (a.eval x) (a.eval ix)))) ι H w av H':=by
 simp only [okL,List.all_cons,List.all_nil,Bool.and_true,Bool.and_eq_true] at ho
 simp only [aop] at h
 have hx:=bn ht ho.1
 have hy:=bn ht ho.2
 split at h
 ·rename_i ad n m k j e1 e2
  rw [e1] at hx;rw [e2] at hy
  split at h
  ·rename_i hj
   cases h
   obtain⟨b,off,c,L,A,rfl,_,hv,hL,hn,hc⟩:=hx.slice_inv
   have hc0:c≠0:=by omega
   obtain⟨hA,_⟩:=hc.resolve_left hc0
   subst hA
   refine Good.pure (v:=.pointer (some (L.base.add (off+j.toNat*i.size)))) ?_ (.ptr b _ L hL) s
   simp [Instr.indexAt,run_underlying hu,hv,cA hy,asIntOf,hj.1,hj.2,sizeOf,typeInfo,hi,dd]
  ·cases h
 ·cases h
theorem good_idxa (s:Sim ι H w)(ht:TR ι N tm a){x ix:Operand}{t e:TypeId}{len:Nat}(hu:P.underlying t=some (.array len e)){i:TypeInfo}(hi:P.info? e=some i)
 (ho:okL [x,ix]=true) (h:aop (.idxa len i.size x ix) tm H=some (av,H')):Good P (do pure (.value (←Instr.indexAt t (a.eval x) (a.eval ix)))) ι H w av H':=by
 simp only [okL,List.all_cons,List.all_nil,Bool.and_true,Bool.and_eq_true] at ho
 simp only [aop] at h
 have hx:=bn ht ho.1
 have hy:=bn ht ho.2
 split at h
 ·rename_i ad k j e1 e2
  rw [e1] at hx;rw [e2] at hy
  split at h
  ·rename_i hj
   cases h
   obtain⟨b,off,L,rfl,hv,hL⟩:=hx.ptr_inv
   refine Good.pure (v:=.pointer (some (L.base.add (off+j.toNat*i.size)))) ?_ (.ptr b _ L hL) s
   simp [Instr.indexAt,run_underlying hu,hv,cA hy,asIntOf,Instr.sureAddr,hj.1,hj.2,sizeOf,typeInfo,hi,dd]
  ·cases h
 ·cases h
theorem good_idx (s:Sim ι H w)(ht:TR ι N tm a){x ix:Operand}{t e:TypeId}{len n:Nat}{b:Bool}(hu:P.underlying t=some (.array len e))(hsz:szT P e=some (n,b))
 (ho:okL [x,ix]=true) (h:aop (.idx len n b x ix) tm H=some (av,H')):Good P (do pure (.value (←Instr.index t (a.eval x) (a.eval ix)))) ι H w av H':=by
 simp only [okL,List.all_cons,List.all_nil,Bool.and_true,Bool.and_eq_true] at ho
 simp only [aop] at h
 have hx:=bn ht ho.1
 have hy:=bn ht ho.2
 split at h
 ·rename_i cs k j e1 e2
  rw [e1] at hx;rw [e2] at hy
  split at h
  ·rename_i hj
   obtain⟨i,hi,hisz,_,_⟩:=dq hsz
   rw [cA hy]
   generalize a.eval x=u at*
   cases hx with
   | agg _ cs' hs hv=>
     cases hm:mkv b ((cs.toList.drop (j.toNat*n)).take n) with
     | none=>simp [hm] at h
     | some v=>
       simp [hm] at h
       obtain⟨rfl,rfl⟩:=h
       have hr:VRs ι cs.toList cs'.toList:=VR.cells (.agg _ _ hs hv)
       obtain⟨v',hm',hvv⟩:=VR.of_mkv ((hr.drop (j.toNat*n)).take n) hm
       refine Good.pure (v:=v') ?_ hvv s
       simp [Instr.index,run_underlying hu,asIntOf,hj.1,hj.2.1,sizeOf,typeInfo,hi,hisz,dA hsz (by have:=hj.2.2;omega) hm']
  ·cases h
 ·cases h
theorem good_idxstr (s:Sim ι H w)(ht:TR ι N tm a){x ix:Operand}{t:TypeId}(hu:P.underlying t=some .string)
 (ho:okL [x,ix]=true) (h:aop (.idxstr x ix) tm H=some (av,H')):Good P (do pure (.value (←Instr.index t (a.eval x) (a.eval ix)))) ι H w av H':=by
 simp only [okL,List.all_cons,List.all_nil,Bool.and_true,Bool.and_eq_true] at ho
 simp only [aop] at h
 have hx:=bn ht ho.1
 have hy:=bn ht ho.2
 split at h
 ·rename_i cs k j e1 e2
  rw [e1] at hx;rw [e2] at hy
  split at h
  ·rename_i hj
   rw [cA hy,jX hx]
   cases hb:cs[j.toNat]? with
   | none=>simp [hb] at h
   | some v=>
     simp [hb] at h
     obtain⟨rfl,rfl⟩:=h
     exact Good.pure (v:=.int .u8 v.toNat) (by simp [Instr.index,run_underlying hu,asIntOf,hj,hb]) (.int _ _) s
  ·cases h
 ·cases h
theorem good_len (s:Sim ι H w)(ht:TR ι N tm a){x:Operand}{t ty e:TypeId}(hu:P.underlying t=some (.slice e))
 (ho:okO x=true) (h:aop (.len x) tm H=some (av,H')):Good P (do pure (.value (←Builtin.len_ #[t] ty #[a.eval x]))) ι H w av H':=by
 simp only [aop] at h
 have hx:=bn ht ho
 split at h
 ·rename_i ad n m e
  rw [e] at hx;cases h
  cases ad with
  | none=>obtain⟨h1,h2,_⟩:=hx.snil_inv;subst h2;rw [h1];exact Good.pure (v:=.int .i64 0) (by simp [Builtin.len_,run_underlying hu,goInt]) (.int _ _) s
  | some ad=>
    obtain⟨b,off,c,L,A,rfl,_,hv,hL,hn,hc⟩:=hx.slice_inv
    rw [hv]
    exact Good.pure (v:=.int .i64 n) (by simp [Builtin.len_,run_underlying hu,goInt]) (.int _ _) s
 ·cases h
theorem good_lens (s:Sim ι H w)(ht:TR ι N tm a){x:Operand}{t ty:TypeId}(hu:P.underlying t=some .string)
 (ho:okO x=true) (h:aop (.lens x) tm H=some (av,H')):Good P (do pure (.value (←Builtin.len_ #[t] ty #[a.eval x]))) ι H w av H':=by
 simp only [aop] at h
 have hx:=bn ht ho
 split at h
 ·rename_i str e
  rw [e] at hx;cases h
  rw [jX hx]
  exact Good.pure (v:=.int .i64 str.size) (by simp [Builtin.len_,run_underlying hu,goInt]) (.int _ _) s
 ·cases h
end
end Go.Ab
namespace Go.Ab
open Go
section
variable {P : Program} {ι : Emb} {H H' : Hp} {w : World} {N : Nat} {tm : Tm} {a : Act} {av : Value}
theorem fJ (ht:TR ι N tm a):∀(xs:List Operand),okL xs=true→VRs ι (xs.map (ev tm)) (xs.map a.eval)
 | [],_=>VRs.nil
 | x::xs,h=>by
   simp only [okL,List.all_cons,Bool.and_eq_true] at h
   exact VRs.cons (bn ht h.1) (fJ ht xs h.2)
theorem good_mkfn (s:Sim ι H w)(ht:TR ι N tm a){fn:Fn}{first caps:Array Operand}(ho:first.size=0∧okL caps.toList=true)(h:aop (.mkfn fn caps.toList) tm H=some (av,H')):
 Good P (do pure (.value (←Instr.makeFunc fn (first.map a.eval) (caps.map a.eval)))) ι H w av H':=by
 simp only [aop] at h
 cases h
 have hf:first= #[]:=Array.eq_empty_of_size_eq_zero ho.1
 have hc:caps.map a.eval=(caps.toList.map a.eval).toArray:=by apply Array.ext';simp
 refine Good.pure (v:=.func fn #[] (caps.toList.map a.eval).toArray) (by rw [hf,hc];simp [Instr.makeFunc]) ?_ s
 have hr:=fJ ht caps.toList ho.2
 exact .fn _ _ _ (by simp) fun j v v' p q=>hr.2 j v v' (by simpa using p) (by simpa using q)
theorem good_iface (s:Sim ι H w)(ht:TR ι N tm a){t:TypeId}{x:Operand}(ho:okO x=true)(hc:P.concrete t=true)(h:aop (.iface t x) tm H=some (av,H')):
 Good P (do pure (.value (←Instr.makeInterface t (a.eval x)))) ι H w av H':=by
 simp only [aop] at h
 cases h
 exact Good.pure (v:=.iface t (a.eval x)) (by simp [run_makeInterface w t (a.eval x) hc]) (.ifc _ _ _ (bn ht ho)) s
theorem iq (ht:TR ι N tm a){ps:List (Nat×Nat×Operand)}(ho:okP ps=true):∀(j:Nat) (p p':Nat×Nat×Value),
 (ps.map fun p=>(p.1,p.2.1,ev tm p.2.2))[j]? =some p→(ps.map fun p=>(p.1,p.2.1,a.eval p.2.2))[j]? =some p'→p.1=p'.1∧p.2.1=p'.2.1∧VR ι p.2.2 p'.2.2:=by
 intro j p p' h h'
 simp only [List.getElem?_map] at h h'
 cases hq:ps[j]? with
 | none=>simp [hq] at h
 | some q=>
   simp [hq] at h h'
   subst h;subst h'
   exact⟨rfl,rfl,bn ht (List.all_eq_true.1 ho q (List.mem_of_getElem? hq))⟩
theorem eM {t:TypeId}{i:TypeInfo}{z:Value}(hi:P.info? t=some i)(hz:i.zero=some z)(w:World):(zeroValue t).run P w= .ok z w:=by
 simp [zeroValue,typeInfo,hi,hz]
theorem fZ (w:World):∀(fs:List Field) (l:List (Nat×Nat)),fs.mapM (fun f=>(P.info? f.type).map fun i=>(f.offset,i.size))=some l→
 (fs.mapM fun f=>do pure (f.offset,←sizeOf f.type):Sem _).run P w= .ok l w
 | [],l,h=>by simp at h;subst h;simp
 | f::fs,l,h=>by
   simp only [List.mapM_cons,Option.bind_eq_bind,Option.pure_def,Option.bind_eq_some_iff] at h
   obtain⟨e,he,r,hr,h3⟩:=h
   cases h3
   obtain⟨i,hi,rfl⟩:=Option.map_eq_some_iff.1 he
   have hsz:(sizeOf f.type).run P w= .ok i.size w:=by simp [sizeOf,typeInfo,hi]
   simp only [List.mapM_cons,Sem.run_bind,hsz,Result.andThen_ok,Sem.run_pure,fZ w fs r hr]
theorem iY {pl:Nat→Option (Nat×Nat)}(f:Operand→Value):∀(ps:List (Nat×Operand)) (l:List (Nat×Nat×Operand)),
 ps.mapM (fun p=>(pl p.1).map fun q=>(q.1,q.2,p.2))=some l→
 (ps.map fun p=>(p.1,f p.2)).mapM (fun p=>(pl p.1).map fun q=>(q.1,q.2,p.2))=some (l.map fun p=>(p.1,p.2.1,f p.2.2))
 | [],l,h=>by simp at h;subst h;simp
 | p::ps,l,h=>by
   simp only [List.mapM_cons,Option.bind_eq_bind,Option.pure_def,Option.bind_eq_some_iff] at h
   obtain⟨e,he,r,hr,h3⟩:=h
   cases h3
   obtain⟨q,hq,rfl⟩:=Option.map_eq_some_iff.1 he
   simp [hq,iY f ps r hr]
theorem good_build (s:Sim ι H w)(ht:TR ι N tm a){t:TypeId}{z:List Value}{pl:List (Nat×Nat)}{ps:Array (Nat×Operand)}{l:List (Nat×Nat×Operand)}
 (hz:zeroT P t=some z) (hpl:places P t=some pl) (hl:ps.toList.mapM (fun p=>(pl[p.1]?).map fun q=>(q.1,q.2,p.2))=some l) (ho:okP l=true)
 (h:aop (.build z l) tm H=some (av,H')):Good P (do pure (.value (←Instr.build t (ps.map fun(i,x)=>(i,a.eval x))))) ι H w av H':=by
 simp only [aop] at h
 cases hb:bfill z (l.map fun p=>(p.1,p.2.1,ev tm p.2.2)) with
 | none=>simp [hb] at h
 | some cs=>
   simp [hb] at h
   obtain⟨rfl,rfl⟩:=h
   obtain⟨i,zv,hi,hzz,hzc,hok,hzs⟩:=dc hz
   obtain⟨cs',hb',hr⟩:=fz _ (l.map fun p=>(p.1,p.2.1,a.eval p.2.2)) (by simp) (iq ht ho) z z cs (fu hok) hb
   have hm:=iY (pl:=fun j=>pl[j]?) a.eval ps.toList l hl
   have hfill:=eG (fun j=>pl[j]?) _ _ hm zv.cells cs' (by rw [hzc];exact hb')
   refine Good.pure (v:=.agg cs'.toArray) ?_ (VR.of_agg hr) s
   have hps:(ps.map fun(x:Nat×Operand)=>(x.1,a.eval x.2)).toList=ps.toList.map fun p=>(p.1,a.eval p.2):=by simp
   unfold places at hpl
   split at hpl
   ·rename_i fs hu
    have hrp:=fZ (P:=P) w fs.toList pl hpl
    have hrp':(fs.mapM fun f=>do pure (f.offset,←sizeOf f.type):Sem _).run P w= .ok pl.toArray w:=by
     have:fs=fs.toList.toArray:=by simp
     rw [this,List.mapM_toArray,Sem.run_map,hrp];rfl
    have hfun:(fun(j:Nat)=>pl.toArray[j]?)=(fun(j:Nat)=>pl[j]?):=by funext j;simp
    simp only [Sem.run_bind,Instr.build,eM hi hzz,Result.andThen_ok,run_underlying hu,hrp',hfun,hps,hfill,Sem.run_pure]
   ·rename_i n e hu
    cases he:P.info? e with
    | none=>simp [he] at hpl
    | some ie=>
      simp [he] at hpl
      subst hpl
      have hfun:∀(q:List (Nat×Value)) (k:List (Nat×Nat×Value)),q.mapM (fun p=>(((List.range n).map fun j=>(j*ie.size,ie.size))[p.1]?).map fun q=>(q.1,q.2,p.2))=some k→
       q.mapM (fun p=>((some (p.1*ie.size,ie.size)).map fun q=>(q.1,q.2,p.2)))=some k:=by
       intro q
       induction q with
       | nil=>intro k h;simpa using h
       | cons p q ih=>
         intro k h
         simp only [List.mapM_cons,Option.bind_eq_bind,Option.pure_def,Option.bind_eq_some_iff] at h ⊢
         obtain⟨e1,he1,r,hr1,h3⟩:=h
         refine⟨e1,?_,r,ih r hr1,h3⟩
         obtain⟨q1,hq1,rfl⟩:=Option.map_eq_some_iff.1 he1
         by_cases hlt:p.1<n
         ·simp [hlt] at hq1;subst hq1;rfl
         ·simp [hlt] at hq1
      have hfill2:=eG (fun j=>some (j*ie.size,ie.size)) _ _ (hfun _ _ hm) zv.cells cs' (by rw [hzc];exact hb')
      simp only [Sem.run_bind,Instr.build,eM hi hzz,Result.andThen_ok,run_underlying hu,sizeOf,typeInfo,run_program,he,Sem.run_pure,hps,hfill2]
   ·cases hpl
theorem gg {lo hi d:Nat}{v:Option Value}{n:Nat}(h:asNat lo hi v d=some n){v':Option Value}(hv:∀u,v=some u→∃u',v'=some u'∧VR ι u u')(hn:v=none→v'=none):
 (v=none∧v'=none∧n=d∧lo≤d∧d≤hi)∨∃k j,v'=some (.int k j)∧(lo:Int)≤j∧j≤hi∧n=j.toNat:=by
 cases v with
 | none=>
   simp only [asNat] at h
   split at h
   ·rename_i hc;cases h;exact .inl ⟨rfl,hn rfl,rfl,hc.1,hc.2⟩
   ·cases h
 | some u=>
   cases u<;>simp only [asNat] at h<;>first|(cases h;done)|skip
   rename_i k j
   split at h
   ·rename_i hc
    cases h
    obtain⟨u',hu',hvr⟩:=hv _ rfl
    rw [cA hvr] at hu'
    exact .inr ⟨k,j,hu',hc.1,hc.2,rfl⟩
   ·cases h
theorem cM (k:IntKind)(j:Int)(y:Nat)(c:BoundsCode)(h0:0≤j)(h1:j≤y)(w:World):(Instr.sliceBound (.int k j) y c).run P w= .ok j.toNat w:=by
 simp [Instr.sliceBound,asIntOf,h0,h1]
theorem dE {n c:Nat}(hnc:n≤c){lo hi:Option Value}{l h:Nat}(hh:asNat 0 n hi n=some h)(hl:asNat 0 h lo 0=some l){lo' hi':Option Value}
 (vlo:∀u,lo=some u→∃u',lo'=some u'∧VR ι u u') (nlo:lo=none→lo'=none) (vhi:∀u,hi=some u→∃u',hi'=some u'∧VR ι u u') (nhi:hi=none→hi'=none) (w:World):
 (Instr.sliceBounds true n c lo' hi' none).run P w= .ok (l,h,c) w∧l≤h∧h≤n:=by
 have e1:=gg hh vhi nhi
 have e2:=gg hl vlo nlo
 rcases e1 with⟨_,rfl,rfl,_,_⟩|⟨k1,j1,rfl,ha1,hb1,rfl⟩
 ·rcases e2 with⟨_,rfl,rfl,_,_⟩|⟨k2,j2,rfl,ha2,hb2,rfl⟩
  ·exact⟨by simp [Instr.sliceBounds],by omega,by omega⟩
  ·exact⟨by simp [Instr.sliceBounds,cM k2 j2 _ _ (by omega) hb2],by omega,by omega⟩
 ·have hb1':j1≤(c:Int):=by omega
  rcases e2 with⟨_,rfl,rfl,_,_⟩|⟨k2,j2,rfl,ha2,hb2,rfl⟩
  ·exact⟨by simp [Instr.sliceBounds,cM k1 j1 _ _ (by omega) hb1'],by omega,by omega⟩
  ·exact⟨by simp [Instr.sliceBounds,cM k1 j1 _ _ (by omega) hb1',cM k2 j2 _ _ (by omega) hb2],by omega,by omega⟩
theorem good_slice (s:Sim ι H w)(ht:TR ι N tm a){t e:TypeId}(hu:P.underlying t=some (.slice e)){i:TypeInfo}(hi:P.info? e=some i){x:Operand}{lo hi':Option Operand}
 (ho:okO x=true) (hol:okL lo.toList=true) (hoh:okL hi'.toList=true) (h:aop (.slice i.size x lo hi') tm H=some (av,H')):
 Good P (do pure (.value (←Instr.sliceAt t (a.eval x) (lo.map a.eval) (hi'.map a.eval) none))) ι H w av H':=by
 simp only [aop] at h
 have hx:=bn ht ho
 have vopt:∀o:Option Operand,okL o.toList=true→(∀u,o.map (ev tm)=some u→∃u',o.map a.eval=some u'∧VR ι u u')∧(o.map (ev tm)=none→o.map a.eval=none):=by
  intro o hok
  cases o with
  | none=>exact⟨fun u h=>by simp at h,fun _=>rfl⟩
  | some y=>
    simp [okL] at hok
    exact⟨fun u h=>by simp at h;subst h;exact⟨_,rfl,bn ht hok⟩,fun h=>by simp at h⟩
 obtain⟨vl,nl⟩:=vopt lo hol
 obtain⟨vh,nh⟩:=vopt hi' hoh
 cases hs:aslice H i.size (ev tm x) (lo.map (ev tm)) (hi'.map (ev tm)) with
 | none=>simp [hs] at h
 | some v=>
   simp [hs] at h
   obtain⟨rfl,rfl⟩:=h
   unfold aslice at hs
   split at hs
   ·rename_i hv
    rw [hv] at hx
    simp only [Option.bind_eq_bind,Option.bind_eq_some_iff] at hs
    obtain⟨h,hh,l,hl,hs⟩:=hs
    cases hs
    obtain⟨hrun,hle,hle2⟩:=dE (P:=P) (Nat.le_refl 0) hh hl vl nl vh nh w
    obtain⟨hx',_,_⟩:=hx.snil_inv
    have:h=0:=by omega
    subst this
    have:l=0:=by omega
    subst this
    refine Good.pure (v:=.slice none 0 0) ?_ .snil s
    simp [Instr.sliceAt,run_underlying hu,Instr.slice,hx',hrun,sizeOf,typeInfo,hi]
   ·rename_i ad n m hv
    rw [hv] at hx
    split at hs
    ·rename_i hnm
     obtain⟨rfl,hesz⟩:=hnm
     simp only [Option.bind_eq_bind,Option.bind_eq_some_iff] at hs
     obtain⟨h,hh,l,hl,hs⟩:=hs
     cases hs
     obtain⟨b,off,c,L,A,rfl,_,hx',hL,hn,hc⟩:=hx.slice_inv
     obtain⟨hrun,hle,hle2⟩:=dE (P:=P) hn hh hl vl nl vh nh w
     refine Good.pure (v:=.slice (some (if c=l then A else A.add (l*i.size))) (h-l) (c-l)) ?_ ?_ s
     ·simp only [Sem.run_bind,Instr.sliceAt,run_underlying hu,Instr.slice,hx',hrun,sizeOf,typeInfo,hi,run_program,Result.andThen_ok,Sem.run_pure]
      congr 3
      split<;>rfl
     ·refine .sl b _ _ _ (c-l) L _ hL ⟨by split<;>omega,by split<;>omega⟩ ?_
      by_cases hcl:c=l
      ·left;omega
      ·right
       have hc0:c≠0:=by omega
       obtain⟨hA,hext⟩:=hc.resolve_left hc0
       rw [if_neg hcl,hA,dd]
       have hz:=s.esz hesz hL
       rw [hz] at hext ⊢
       refine⟨rfl,?_⟩
       have:l*i.size+(c-l)*i.size=c*i.size:=by rw [←Nat.add_mul];congr 1;omega
       show off+l*i.size+(c-l)*i.size≤L.ext
       omega
    ·cases hs
   ·cases hs
theorem ja (isMax:Bool):∀(vs vs':List Value) (v v' u:Value),VR ι v v'→VRs ι vs vs'→mm2 isMax v vs=some u→
 ∃u',(vs'.foldlM (if isMax then Builtin.max2 else Builtin.min2) v').run P w= .ok u' w∧VR ι u u'
 | [],vs',v,v',u,hv,hvs,h=>by
   rw [hvs.nil_inv]
   simp [mm2] at h;subst h
   exact⟨v',by simp,hv⟩
 | y::vs,vs',v,v',u,hv,hvs,h=>by
   obtain⟨y',r,rfl,hy,hr⟩:=hvs.cons_inv
   cases v<;>first|(simp [mm2] at h;done)|skip
   rename_i k x
   cases y<;>first|(simp [mm2] at h;done)|skip
   rename_i k' y
   simp only [mm2] at h
   split at h
   ·rename_i hk
    subst hk
    rw [cA hv,cA hy]
    obtain⟨u',hu',hvr⟩:=ja isMax vs r _ _ u (.int k _) hr h
    refine⟨u',?_,hvr⟩
    rw [List.foldlM_cons,Sem.run_bind]
    cases isMax
    ·simp only [Bool.false_eq_true,if_false] at hu' ⊢
     simpa [Builtin.min2] using hu'
    ·simp only [if_true] at hu' ⊢
     simpa [Builtin.max2] using hu'
   ·cases h
theorem iV (s:Sim ι H w)(ht:TR ι N tm a){isMax:Bool}{xs:Array Operand}(ho:okL xs.toList=true){tys:Array TypeId}{ty:TypeId}(h:aop (.mm isMax xs.toList) tm H=some (av,H')):
 Good P (do pure (.value (←(if isMax then Builtin.max_ else Builtin.min_) tys ty (xs.map a.eval)))) ι H w av H':=by
 simp only [aop] at h
 have hr:=fJ ht xs.toList ho
 cases hm:xs.toList.map (ev tm) with
 | nil=>simp [hm] at h
 | cons v rest=>
   rw [hm] at h hr
   simp only at h
   obtain⟨v',rest',hx',hv,hrest⟩:=hr.cons_inv
   cases hmm:mm2 isMax v rest with
   | none=>simp [hmm] at h
   | some u=>
     simp [hmm] at h
     obtain⟨rfl,rfl⟩:=h
     obtain⟨u',hu',hvr⟩:=ja (P:=P) (w:=w) isMax rest rest' v v' u hv hrest hmm
     refine Good.pure (v:=u') ?_ hvr s
     have hl:(xs.map a.eval).toList=v'::rest':=by rw [←hx'];simp
     rw [Sem.run_bind]
     cases isMax
     ·simp only [Bool.false_eq_true,if_false] at hu' ⊢
      rw [show(Builtin.min_ tys ty (xs.map a.eval))=rest'.foldlM Builtin.min2 v' by unfold Builtin.min_;rw [hl]]
      rw [hu'];rfl
     ·simp only [if_true] at hu' ⊢
      rw [show(Builtin.max_ tys ty (xs.map a.eval))=rest'.foldlM Builtin.max2 v' by unfold Builtin.max_;rw [hl]]
      rw [hu'];rfl
def NewR (P:Program)(m:Sem Next)(ι:Emb)(w:World)(k:Nat)(v:Value)(b:Blk):Prop:=
 ∃sz vs c t v',b= .rw sz vs∧m.run P w= .ok (.value v') (w.alloc (.cells c t))∧(∀(j:Nat) (v:Value),vs[j]? =some v→∃v',c[j]? =some v'∧VR ι v v')∧vs.length≤c.size∧
  ∀ι':Emb,ι' k=some ⟨⟨w.heap.size,0,none⟩,c.size,sz⟩→VR ι' v v'
theorem NewR.good {m:Sem Next}{v:Value}{b:Blk}(s:Sim ι H w)(h:NewR P m ι w H.length v b):Good P m ι H w v (H++ [b]):=by
 obtain⟨sz,vs,c,t,v',rfl,hr,hc,hl,hv⟩:=h
 obtain⟨hs,hf⟩:=s.newRow sz vs c t hc hl
 exact⟨_,_,_,v',hr,.inl rfl,hv _ (Emb.put_same ..),hs,hf⟩
theorem fe {vs vs':List Value}(hr:VRs ι vs vs'):(∀(j:Nat) (v:Value),vs[j]? =some v→∃v',vs'.toArray[j]? =some v'∧VR ι v v')∧vs.length≤vs'.toArray.size:=
 ⟨fun j v hv=>by obtain⟨v',h1,h2⟩:=hr.get hv;exact⟨v',by simpa using h1,h2⟩,by simp [hr.1]⟩
theorem jT {ι':Emb}{k:Nat}{L:Loc}(h:ι' k=some L):VR ι' (.pointer (some ⟨k,0,none⟩)) (.pointer (some L.base)):=by
 have:=VR.ptr (ι:=ι') k 0 L h
 simpa [Addr.add] using this
theorem gv {e:TypeId}{z:List Value}(hz:zeroT P e=some z){k:Nat}{v:Value}{b:Blk}(h:anew (.alloc z) tm k=some (v,b)):
 NewR P (do pure (.value (←Instr.alloc e true (.tuple #[])))) ι w k v b:=by
 simp only [anew] at h
 cases h
 obtain⟨i,zv,hi,hzz,hzc,hok,hzs⟩:=dc hz
 obtain⟨h1,h2⟩:=fe (fu (ι:=ι) hok)
 refine⟨_,_,_,e,.pointer (some ⟨w.heap.size,0,none⟩),rfl,?_,h1,h2,fun ι' h=>jT h⟩
 rw [←hzc]
 simp [Instr.alloc,eM hi hzz,newVar,newRow]
theorem jb (ht:TR ι N tm a){e:TypeId}{x:Operand}(ho:okO x=true){k:Nat}{v:Value}{b:Blk}(h:anew (.box x) tm k=some (v,b)):
 NewR P (do pure (.value (←Instr.box e (a.eval x)))) ι w k v b:=by
 simp only [anew] at h
 cases h
 obtain⟨h1,h2⟩:=fe (bn ht ho).cells
 refine⟨_,_,_,e,.pointer (some ⟨w.heap.size,0,none⟩),rfl,?_,h1,h2,fun ι' h=>jT h⟩
 simp [Instr.box,newVar,newRow]
theorem ew:∀(ps:List (Nat×Nat×Value)) (cs r:List Value),bfill cs ps=some r→r.length=cs.length
 | [],cs,r,h=>by simp [bfill] at h;rw [h]
 | (off,size,v)::ps,cs,r,h=>by
   simp only [bfill] at h
   split at h
   ·rename_i hc
    rw [ew ps _ r h,cm]
    simp;omega
   ·cases h
theorem fR (ht:TR ι N tm a){t e:TypeId}(hu:P.underlying t=some (.slice e)){i:TypeInfo}(hi:P.info? e=some i){z:List Value}(hz:zeroT P e=some z)
 {len:Nat} {ps:Array (Nat×Operand)} (hle:len*i.size≤2^24) (ho:okL (ps.toList.map (·.2))=true)
 {k:Nat} {v:Value} {b:Blk} (h:anew (.bslice i.size len (madeCells z.toArray (len*i.size)).toList (ps.toList.map fun p=>(p.1*i.size,i.size,p.2))) tm k=some (v,b)):
 NewR P (do pure (.value (←Instr.buildSlice t len (ps.map fun(i,x)=>(i,a.eval x))))) ι w k v b:=by
 simp only [anew] at h
 obtain⟨i',zv,hi',hzz,hzc,hok,hzs⟩:=dc hz
 rw [hi] at hi';cases hi'
 cases hb:bfill (madeCells z.toArray (len*i.size)).toList ((ps.toList.map fun p=>(p.1*i.size,i.size,p.2)).map fun p=>(p.1,p.2.1,ev tm p.2.2)) with
 | none=>rw [hb] at h;cases h
 | some cs=>
   rw [hb] at h
   cases h
   have hoz:okz (madeCells z.toArray (len*i.size)).toList=true:=by
    unfold okz madeCells
    simp only [List.all_eq_true]
    intro v hv
    simp at hv
    obtain⟨j,hj,rfl⟩:=hv
    by_cases hz0:z.length=0
    ·rw [List.eq_nil_of_length_eq_zero hz0];rfl
    ·have hlt:j%z.length<z.length:=Nat.mod_lt _ (by omega)
     have:=List.all_eq_true.1 hok (z[j%z.length]) (List.getElem_mem hlt)
     simpa [hlt] using this
   have hop:okP (ps.toList.map fun p=>(p.1*i.size,i.size,p.2))=true:=by
    unfold okP
    simp only [List.all_map]
    unfold okL at ho
    simpa [List.all_map] using ho
   obtain⟨cs',hb',hr⟩:=fz _ ((ps.toList.map fun p=>(p.1*i.size,i.size,p.2)).map fun p=>(p.1,p.2.1,a.eval p.2.2)) (by simp) (iq ht hop) _ _ cs (fu hoz) hb
   have hm:∀q:List (Nat×Operand),(q.map fun p=>(p.1,a.eval p.2)).mapM (fun p=>((some (p.1*i.size,i.size)).map fun q=>(q.1,q.2,p.2)))=some ((q.map fun p=>(p.1*i.size,i.size,p.2)).map fun p=>(p.1,p.2.1,a.eval p.2.2)):=by
    intro q
    induction q with
    | nil=>rfl
    | cons p q ih=>simp only [List.map_cons,List.mapM_cons,ih];rfl
   have hfill:=eG (fun j=>some (j*i.size,i.size)) _ _ (hm ps.toList) (madeCells zv.cells (len*i.size)) cs' (by rw [←hb',←hzc])
   obtain⟨hn1,hn2⟩:=fe hr
   have hlen:cs.length=len*i.size:=by rw [ew _ _ _ hb];simp [size_madeCells]
   refine⟨_,_,_,e,.slice (some ⟨w.heap.size,0,none⟩) len len,rfl,?_,hn1,hn2,fun ι' hι=>?_⟩
   ·have hps:(ps.map fun(x:Nat×Operand)=>(x.1,a.eval x.2)).toList=ps.toList.map fun p=>(p.1,a.eval p.2):=by simp
    have h24:¬(16777216<len*i.size):=by omega
    by_cases h0:len*i.size=0
    ·simp only [h0] at hfill
     have hm0:madeCells zv.cells 0= #[]:=by simp [madeCells]
     rw [hm0] at hfill
     have hr0:Array.map (fun _:Nat=>(default:Value)) (Array.range 0)= #[]:=by apply Array.eq_empty_of_size_eq_zero;simp
     simp [hr0,Instr.buildSlice,run_underlying hu,sizeOf,typeInfo,hi,h0,hfill,newRow]
    ·have hfill':Instr.fill (fun j=>some (j*i.size,i.size)) ((Array.range (len*i.size)).map (zv.cells[· % zv.cells.size]!)) (ps.toList.map fun p=>(p.1,a.eval p.2))=some cs'.toArray:=hfill
     simp [Instr.buildSlice,run_underlying hu,sizeOf,typeInfo,hi,h0,h24,eM hi hzz,hfill',newRow]
   ·refine .sl _ 0 len len len _ _ hι ⟨Nat.le_refl _,Nat.le_refl _⟩ (.inr ⟨by simp [Addr.add],?_⟩)
    show 0+len*i.size≤cs'.toArray.size
    rw [List.size_toArray,←hr.1,hlen];omega
theorem fm (ht:TR ι N tm a){t e:TypeId}(hu:P.underlying t=some (.slice e)){i:TypeInfo}(hi:P.info? e=some i){z:List Value}(hz:zeroT P e=some z)
 {l c:Operand} (ho:okL [l,c]=true) {k:Nat} {v:Value} {b:Blk} (h:anew (.mkslice i.size i.bytes z l c) tm k=some (v,b)):
 NewR P (do pure (.value (←Instr.makeSlice t (a.eval l) (a.eval c)))) ι w k v b:=by
 simp only [okL,List.all_cons,List.all_nil,Bool.and_true,Bool.and_eq_true] at ho
 simp only [anew] at h
 have hx:=bn ht ho.1
 have hy:=bn ht ho.2
 obtain⟨i',zv,hi',hzz,hzc,hok,hzs⟩:=dc hz
 rw [hi] at hi';cases hi'
 split at h
 ·rename_i k1 l1 k2 c1 e1 e2
  rw [e1] at hx;rw [e2] at hy
  split at h
  ·rename_i hc
   obtain⟨h0,hlc,hb,h63⟩:=hc
   cases h
   have hrun:=run_make (P:=P) w t e i zv hu hi hzz k1 k2 l1 c1 h0 hlc hb h63
   have hle:l1.toNat*i.size≤c1.toNat*i.size:=Nat.mul_le_mul_right _ (by omega)
   have hcell:∀(n j:Nat),j<n→(madeCells zv.cells n)[j]? =some (zv.cells[j%zv.cells.size]!):=by
    intro n j hj;simp [madeCells,hj]
   have hokz:∀j,okC (zv.cells[j%zv.cells.size]!)=true:=by
    intro j
    by_cases hz0:zv.cells.size=0
    ·have:zv.cells= #[]:=Array.eq_empty_of_size_eq_zero hz0
     rw [this];rfl
    ·have hlt:j%zv.cells.size<zv.cells.size:=Nat.mod_lt _ (by omega)
     have:=List.all_eq_true.1 hok (zv.cells[j%zv.cells.size]) (by rw [←hzc];simp)
     simpa [hlt] using this
   have hn1:∀(j:Nat) (v:Value),(madeCells z.toArray (l1.toNat*i.size)).toList[j]? =some v→∃v',(madeCells zv.cells (c1.toNat*i.size))[j]? =some v'∧VR ι v v':=(fun j v hv=>by
    have hzz':z.toArray=zv.cells:=by rw [←hzc]
    rw [hzz'] at hv
    have hj:j<l1.toNat*i.size:=by
     rcases Nat.lt_or_ge j (l1.toNat*i.size) with h|h
     ·exact h
     ·rw [List.getElem?_eq_none (by simpa [size_madeCells] using h)] at hv;cases hv
    have h1:=hcell _ j hj
    rw [←Array.getElem?_toList,hv] at h1
    cases h1
    exact⟨_,hcell _ j (by omega),eW (hokz j)⟩)
   refine⟨_,_,_,e,.slice (some ⟨w.heap.size,0,none⟩) l1.toNat c1.toNat,rfl,?_,hn1,by simp [size_madeCells];exact hle,fun ι' hι=>?_⟩
   ·rw [cA hx,cA hy,Sem.run_bind,hrun];rfl
   ·refine .sl _ 0 _ _ c1.toNat _ _ hι ⟨Nat.le_refl _,by omega⟩ (.inr ⟨by simp [Addr.add],?_⟩)
    show 0+c1.toNat*i.size≤(madeCells zv.cells (c1.toNat*i.size)).size
    rw [size_madeCells];omega
  ·cases h
 ·cases h
theorem gp (s:Sim ι H w)(ht:TR ι N tm a){t:TypeId}{n:Nat}{b:Bool}(hsz:szT P t=some (n,b)){x:Operand}(ho:okO x=true)(h:aop (.load n b x) tm H=some (av,H')):
 Good P (do pure (.value (←Instr.loadAt t (a.eval x)))) ι H w av H':=by
 simp only [aop] at h
 have hx:=bn ht ho
 obtain⟨i,hi,hin,hagg,h1⟩:=dq hsz
 split at h
 ·rename_i ad e
  rw [e] at hx
  obtain⟨bl,off,L,rfl,hv,hL⟩:=hx.ptr_inv
  split at h
  ·cases hl:H.load ⟨bl,off,none⟩ n with
   | none=>rw [hl] at h;cases h
   | some cs=>
     rw [hl] at h
     cases hm:mkv b cs with
     | none=>rw [Option.bind_some,hm] at h;cases h
     | some v=>
       rw [Option.bind_some,hm] at h
       cases h
       obtain⟨cs',hr,hlen,hcell⟩:=s.load hl hL
       obtain⟨v',hm',hvv⟩:=VR.of_mkv hr hm
       refine Good.pure (v:=v') ?_ hvv s
       have hrun:=run_loadCells_list (P:=P) w (L.base.add off) cs' hcell
       rw [hlen] at hrun
       rw [hv]
       simp only [Instr.loadAt,Instr.sureAddr,loadVar,Sem.run_bind,Sem.run_pure,Result.andThen_ok,hagg]
       cases b with
       | true=>
         simp only [mkv,if_true,Option.some.injEq] at hm'
         subst hm'
         simp [sizeOf,typeInfo,hi,hin,hrun]
       | false=>
         have hn:=h1 rfl
         simp only [mkv,Bool.false_eq_true,if_false] at hm' ⊢
         rw [hn] at hlen
         match cs',hlen,hm',hcell with
         | [u],_,hm',hcell=>
           simp at hm'
           subst hm'
           have:=hcell 0 u rfl
           rw [dd,Nat.add_zero] at this
           simp [this]
  ·cases h
 ·cases h
theorem good_store (s:Sim ι H w)(ht:TR ι N tm a){t:TypeId}{i:TypeInfo}(hi:P.info? t=some i){x y:Operand}(ho:okL [x,y]=true)(h:aop (.store i.size x y) tm H=some (av,H')):
 Good P (do Instr.storeAt t (a.eval x) (a.eval y);pure .skip) ι H w av H':=by
 simp only [okL,List.all_cons,List.all_nil,Bool.and_true,Bool.and_eq_true] at ho
 simp only [aop] at h
 have hx:=bn ht ho.1
 have hy:=bn ht ho.2
 split at h
 ·rename_i ad e
  rw [e] at hx
  obtain⟨bl,off,L,rfl,hv,hL⟩:=hx.ptr_inv
  split at h
  ·rename_i z vs hb
   split at h
   ·rename_i hc
    obtain⟨hsz,hone,hle0⟩:=hc
    have hle:off+i.size≤vs.length:=hle0
    clear hle0
    cases h
    obtain⟨L',cur,t',h1,h2,h3,h4,h5,h6⟩:=s.own bl z vs hb
    rw [hL] at h1;cases h1
    have hbase:L.base=⟨L.base.block,L.base.off,none⟩:=by cases hq:L.base;simp [hq] at h2;simp [h2]
    have hcl:=hy.cells
    have hone':∀v∈(a.eval y).cells.toList,v.oneCell'=true:=hcl.one hone
    have hlen:(a.eval y).cells.toList.length=i.size:=by rw [←hcl.1,Array.length_toList,hsz]
    have hst:=run_storeCells_at P L.base.block (L.base.off+off) t' (a.eval y).cells.toList 0 cur w h4 (by rw [hlen];omega) hone'
    simp only [Nat.add_zero] at hst
    obtain⟨K,vs',hK,hrv,hcv⟩:=s.read (b:=bl) (vs:=vs) (by simp [Hp.cells,hb,Blk.cells])
    rw [hL] at hK;cases hK
    have hcur:∀(j:Nat) (v:Value),vs'[j]? =some v→cur[L.base.off+j]? =some v:=by
     intro j v hv
     have:=hcv j v hv
     rw [hbase,bY] at this
     simpa [World.cell?,h4] using this
    have hsp:=eh hrv hcl off
    obtain⟨hs,hf⟩:=s.rewrite hb hL h4 (cur.toList.take (L.base.off+off)++(a.eval y).cells.toList++cur.toList.drop (L.base.off+off+(a.eval y).cells.toList.length)).toArray
     (by simp only [List.size_toArray,List.length_append,List.length_take,List.length_drop,Array.length_toList];simp at hlen;omega)
     (splice vs off (ev tm y).cells.toList) (by rw [cm _ _ _ (by simp;omega)];exact h6)
     (fun j v hv=>by
       obtain⟨v',h1,h2⟩:=hsp.get hv
       refine⟨v',?_,h2⟩
       simp only [List.getElem?_toArray]
       unfold splice at h1
       rw [List.append_assoc] at h1 ⊢
       have hvl:off+i.size≤vs'.length:=by rw [←hrv.1];exact hle
       by_cases hj:j<off
       ·rw [List.getElem?_append_left (by simp;omega),List.getElem?_take,if_pos hj] at h1
        rw [List.getElem?_append_left (by simp;omega),List.getElem?_take,if_pos (by omega)]
        simpa using hcur j v' h1
       ·rw [List.getElem?_append_right (by simp;omega)] at h1
        rw [List.getElem?_append_right (by simp;omega)]
        simp only [List.length_take,Nat.min_eq_left (show off≤vs'.length by omega)] at h1
        have hmin:min (L.base.off+off) cur.toList.length=L.base.off+off:=by simp;omega
        rw [List.length_take,hmin]
        rw [show L.base.off+j-(L.base.off+off)=j-off by omega]
        by_cases hj2:j-off<(a.eval y).cells.toList.length
        ·rw [List.getElem?_append_left hj2] at h1 ⊢
         exact h1
        ·rw [List.getElem?_append_right (by omega)] at h1 ⊢
         rw [List.getElem?_drop] at h1 ⊢
         have:=hcur _ v' h1
         rw [←Array.getElem?_toList] at this
         rw [←this]
         congr 1;omega)
    refine⟨.skip,ι,_,undef,?_,.inr ⟨rfl,rfl⟩,da ι,hs,hf⟩
    rw [hv]
    have hsz':(a.eval y).cells.size=i.size:=by simpa using hlen
    simp only [Instr.storeAt,Instr.sureAddr,storeVar,Sem.run_bind,Sem.run_pure,Result.andThen_ok,sizeOf,typeInfo,run_program,hi,hsz',ne_eq,not_true,if_false]
    rw [hbase,bY,hst]
    simp
   ·cases h
  ·cases h
 ·cases h
theorem good_append (s:Sim ι H w)(ht:TR ι N tm a){t ty e:TypeId}(hu:P.underlying t=some (.slice e)){i:TypeInfo}(hi:P.info? e=some i){z:List Value}(hz:zeroT P e=some z)
 (hsz:0<i.size) (hby:0<i.bytes) {x y:Operand} (ho:okL [x,y]=true) (h:aop (.append i.size i.bytes x y) tm H=some (av,H')):
 Good P (do pure (.value (←Builtin.append_ #[t,t] ty #[a.eval x,a.eval y]))) ι H w av H':=by
 simp only [okL,List.all_cons,List.all_nil,Bool.and_true,Bool.and_eq_true] at ho
 simp only [aop] at h
 obtain⟨i',zv,hi',hzz,hzc,hok,hzs⟩:=dc hz
 rw [hi] at hi';cases hi'
 obtain⟨v,ι',w',hr,hv,hs,hf⟩:=aappend_run (P:=P) (ty:=ty) s hu hi hzz hzs hsz hby h (bn ht ho.1) (bn ht ho.2)
 exact⟨.value v,ι',w',v,by rw [Sem.run_bind,hr];rfl,.inl rfl,hv,hs,hf⟩
end
end Go.Ab
namespace Go.Ab
open Go
section
variable {P : Program} {ι : Emb} {H H' : Hp} {w : World} {N : Nat} {tm : Tm} {a : Act} {av : Value}
theorem good_capn (s:Sim ι H w)(ht:TR ι N tm a){x:Operand}{t ty e:TypeId}(hu:P.underlying t=some (.slice e))
 (ho:okO x=true) (h:aop (.capn x) tm H=some (av,H')):Good P (do pure (.value (←Builtin.cap_ #[t] ty #[a.eval x]))) ι H w av H':=by
 simp only [aop] at h
 have hx:=bn ht ho
 split at h
 ·rename_i e
  rw [e] at hx;cases h
  obtain⟨h1,-,-⟩:=hx.snil_inv
  rw [h1];exact Good.pure (v:=.int .i64 0) (by simp [Builtin.cap_,run_underlying hu,goInt]) (.int _ _) s
 ·cases h
theorem fL {P:Program}{ι:Emb}{H:Hp}{w:World}(s:Sim ι H w){sz n:Nat}{x x':Value}{cs cs':List Value}{A:Option Addr}{c:Nat}(e1:slcells H sz x=some (n,cs))(hx:VR ι x x')(hxv:x'= .slice A n c)(hr:VRs ι cs cs')(hlen:cs'.length=n*sz)
 (hcell:∀a,A=some a→∀(j:Nat) (v:Value),cs'[j]? =some v→w.cell? (a.add j)=some v) (k:Nat) (hk:k≤n):(Builtin.firstCells sz k (.slice A n c)).run P w= .ok (cs'.take (k*sz)).toArray w:=by
 subst hxv
 cases A with
 | none=>
   cases x with
   | slice bs n0 c0=>
     cases bs with
     | none=>
       simp only [slcells] at e1
       split at e1
       ·cases e1
        simp at hlen;subst hlen
        simp [Builtin.firstCells]
       ·rename_i q;cases q
       ·cases e1
     | some a0=>
       obtain⟨b',off',c',L',A',_,_,hv',_⟩:=hx.slice_inv
       cases hv'
   | _=>simp [slcells] at e1
 | some A=>
   have hl2:(cs'.take (k*sz)).length=k*sz:=by
    rw [List.length_take,hlen]
    exact Nat.min_eq_left (Nat.mul_le_mul_right _ hk)
   have:=run_loadCells_list (P:=P) w A (cs'.take (k*sz)) (fun j v hv=>by
    rw [List.getElem?_take] at hv
    split at hv
    ·exact hcell A rfl j v hv
    ·cases hv)
   rw [hl2] at this
   simpa [Builtin.firstCells] using this
set_option maxHeartbeats 1000000 in
theorem good_copy (s:Sim ι H w)(ht:TR ι N tm a){t u ty e:TypeId}(hut:P.underlying t=some (.slice e)){i:TypeInfo}(hi:P.info? e=some i)
 {d x:Operand} (ho:okL [d,x]=true) (h:aop (.copy i.size d x) tm H=some (av,H')):
 Good P (do pure (.value (←Builtin.copy_ #[t,u] ty #[a.eval d,a.eval x]))) ι H w av H':=by
 simp only [okL,List.all_cons,List.all_nil,Bool.and_true,Bool.and_eq_true] at ho
 simp only [aop] at h
 have hd:=bn ht ho.1
 have hx:=bn ht ho.2
 split at h
 ·rename_i p e2 e1
  obtain⟨n,cs⟩:=p
  rw [e1] at hd
  obtain⟨A,c,cs',hxv,hr,hlen,hfc,hcell⟩:=di (P:=P) s e2 hx
  rw [hxv]
  have hfc:=fL (P:=P) s e2 hx hxv hr hlen hcell 0 (Nat.zero_le _)
  obtain⟨hv,-,-⟩:=hd.snil_inv
  rw [hv]
  cases h
  refine⟨.value (.int .i64 0),ι,w,.int .i64 0,?_,.inl rfl,.int ..,s,Fr.refl _ _ _⟩
  have hn2:Nat.min n 0=0:=Nat.min_zero n
  simp only [Nat.zero_mul,List.take_zero] at hfc
  simp only [Builtin.copy_,List.getElem?_toArray,List.getElem?_cons_zero,List.getElem?_cons_succ,Sem.run_bind,run_underlying hut,Result.andThen_ok,Sem.run_pure,Builtin.lenOf,sizeOf,typeInfo,run_program,hi,hn2,hfc]
  simp [goInt]
 ·rename_i n cs ad m c0 e1 e2
  rw [e2] at hd
  obtain⟨A,c,cs',hxv,hr,hlen,-,hcell⟩:=di (P:=P) s e1 hx
  rw [hxv]
  obtain⟨b,off,c2,L,A2,rfl,_,hv,hL,hle,hc2⟩:=hd.slice_inv
  rw [hv]
  have hfc:=fL (P:=P) s e1 hx hxv hr hlen hcell (min n m) (Nat.min_le_left n m)
  split at h
  ·rename_i hn
   cases h
   have hn':min n m=0:=hn
   have hn2:Nat.min n m=0:=hn
   rw [hn'] at hfc
   refine⟨.value (.int .i64 0),ι,w,.int .i64 0,?_,.inl rfl,.int ..,s,Fr.refl _ _ _⟩
   simp only [Nat.zero_mul,List.take_zero] at hfc
   simp only [Builtin.copy_,List.getElem?_toArray,List.getElem?_cons_zero,List.getElem?_cons_succ,Sem.run_bind,run_underlying hut,Result.andThen_ok,Sem.run_pure,Builtin.lenOf,sizeOf,typeInfo,run_program,hi,hn2,hfc]
   simp [storeCells,goInt]
  ·rename_i hn
   split at h
   ·rename_i z0 vs hb0
    have hb:H[b]? =some (.rw z0 vs):=hb0
    split at h
    ·rename_i hcc
     have hlen0:off+min n m*i.size≤vs.length:=hcc.2
     cases h
     have hc20:c2≠0:=by omega
     obtain⟨hA,hext⟩:=hc2.resolve_left hc20
     obtain⟨L',cur,t',h1,h2,h3,h4,h5,h6⟩:=s.own b z0 vs hb
     rw [hL] at h1;cases h1
     have hbase:L.base=⟨L.base.block,L.base.off,none⟩:=by cases hq:L.base;simp [hq] at h2;simp [h2]
     generalize hnw:cs'.take (min n m*i.size)=nw at hfc
     generalize hnu:cs.take (min n m*i.size)=nu at hcc
     have hcl:VRs ι nu nw:=by rw [←hnw,←hnu];exact hr.take _
     have hzl2:nw.length=min n m*i.size:=by
      rw [←hnw,List.length_take,hlen]
      exact Nat.min_eq_left (Nat.mul_le_mul_right _ (Nat.min_le_left n m))
     have hone':∀v∈nw,v.oneCell'=true:=fun v hv=>hcl.one hcc.1 v hv
     have hst:=run_storeCells_at P L.base.block (L.base.off+off) t' nw 0 cur w h4 (by rw [hzl2];omega) hone'
     simp only [Nat.add_zero] at hst
     obtain⟨K,vs',hK,hrv,hcv⟩:=s.read (b:=b) (vs:=vs) (by simp [Hp.cells,hb,Blk.cells])
     rw [hL] at hK;cases hK
     have hcur:∀(j:Nat) (v:Value),vs'[j]? =some v→cur[L.base.off+j]? =some v:=by
      intro j v hv
      have:=hcv j v hv
      rw [hbase,bY] at this
      simpa [World.cell?,h4] using this
     have hul:nu.length=nw.length:=hcl.1
     have hsp:=eh hrv hcl off
     obtain⟨hs,hf⟩:=s.rewrite hb hL h4 (cur.toList.take (L.base.off+off)++nw++cur.toList.drop (L.base.off+off+nw.length)).toArray
      (by simp only [List.size_toArray,List.length_append,List.length_take,List.length_drop,Array.length_toList];omega)
      (splice vs off nu) (by rw [cm _ _ _ (by rw [hul,hzl2];omega)];exact h6)
      (fun j v hv=>by
        obtain⟨v',h1,h2⟩:=hsp.get hv
        refine⟨v',?_,h2⟩
        simp only [List.getElem?_toArray]
        unfold splice at h1
        rw [List.append_assoc] at h1 ⊢
        have hvl:off+min n m*i.size≤vs'.length:=by rw [←hrv.1];exact hlen0
        by_cases hj:j<off
        ·rw [List.getElem?_append_left (by simp;omega),List.getElem?_take,if_pos hj] at h1
         rw [List.getElem?_append_left (by simp;omega),List.getElem?_take,if_pos (by omega)]
         simpa using hcur j v' h1
        ·rw [List.getElem?_append_right (by simp;omega)] at h1
         rw [List.getElem?_append_right (by simp;omega)]
         simp only [List.length_take,Nat.min_eq_left (show off≤vs'.length by omega)] at h1
         have hmin:min (L.base.off+off) cur.toList.length=L.base.off+off:=by simp;omega
         rw [List.length_take,hmin]
         rw [show L.base.off+j-(L.base.off+off)=j-off by omega]
         by_cases hj2:j-off<nw.length
         ·rw [List.getElem?_append_left hj2] at h1 ⊢
          exact h1
         ·rw [List.getElem?_append_right (by omega)] at h1 ⊢
          rw [List.getElem?_drop] at h1 ⊢
          have:=hcur _ v' h1
          rw [←Array.getElem?_toList] at this
          rw [←this]
          congr 1;omega)
     refine⟨.value (.int .i64 (min n m:Nat)),ι,_,.int .i64 (min n m:Nat),?_,.inl rfl,.int ..,hs,hf⟩
     have hA2:A2=⟨L.base.block,L.base.off+off,none⟩:=by rw [hA,hbase,bY]
     subst hA2
     have hmn:Nat.min n m=min n m:=rfl
     simp only [Builtin.copy_,List.getElem?_toArray,List.getElem?_cons_zero,List.getElem?_cons_succ,Sem.run_bind,run_underlying hut,Result.andThen_ok,Sem.run_pure,Builtin.lenOf,sizeOf,typeInfo,run_program,hi,hmn,hfc]
     simp [hst,goInt]
    ·cases h
   ·cases h
 ·cases h
end
end Go.Ab
namespace Go.Ab
open Go
section
variable {P : Program} {ι : Emb} {H H' : Hp} {w : World} {N : Nat} {tm : Tm} {a : Act} {av : Value}
theorem bO {v:Value}(h:isi64 v=true):∃n,v= .int .i64 n:=by
 unfold isi64 at h;split at h
 ·exact⟨_,rfl⟩
 ·cases h
theorem iu {v v':Value}(h:isi64 v=true)(hv:VR ι v v'):v'=v:=by
 obtain⟨n,rfl⟩:=bO h
 cases hv;rfl
theorem dN {kk:KK}{k k':Value}(h:kform kk k=true)(hv:VR ι k k'):k'=k:=by
 unfold kform at h
 split at h
 ·exact iu h hv
 ·cases hv;rfl
 ·cases hv;rfl
 ·rename_i n cs
  simp only [Bool.and_eq_true,decide_eq_true_eq,List.all_eq_true] at h
  cases hv with
  | agg _ cs' hs h2=>
    congr 1
    apply Array.ext (by exact hs.symm)
    intro i h3 h4
    exact iu (ι:=ι) (h.2 _ (by simp)) (h2 i cs[i] cs'[i] (by simp) (by simp))
 ·cases h
theorem cK {n:Nat}{v:Value}(h:kform (.ints n) v=true):∃xs,v= .agg xs∧xs.size=n∧∀x∈xs.toList,isi64 x=true:=by
 cases v<;>simp only [kform,Bool.false_eq_true] at h
 rename_i xs
 simp only [Bool.and_eq_true,decide_eq_true_eq,List.all_eq_true] at h
 exact⟨xs,rfl,h.1,h.2⟩
theorem jx (a b:ByteArray):(a==b)=true↔a=b:=by
 constructor
 ·intro h
  cases a;cases b
  congr 1
  exact eq_of_beq h
 ·rintro rfl
  cases a with|mk d=>exact beq_self_eq_true d
theorem ib:∀{xs ys:List Value},xs.all isi64=true→ys.all isi64=true→xs.map ival=ys.map ival→xs=ys
 | [],[],_,_,_=>rfl
 | [],_::_,_,_,h=>by simp at h
 | _::_,[],_,_,h=>by simp at h
 | x::xs,y::ys,hx,hy,h=>by
   simp only [List.all_cons,Bool.and_eq_true] at hx hy
   simp only [List.map_cons,List.cons.injEq] at h
   obtain⟨m,rfl⟩:=bO hx.1
   obtain⟨n,rfl⟩:=bO hy.1
   have:m=n:=h.1
   rw [this,ib hx.2 hy.2 h.2]
theorem kbeq_iff {kk:KK}{k l:Value}(hk:kform kk k=true)(hl:kform kk l=true):kbeq k l=true↔k=l:=by
 cases kk with
 | int=>
   obtain⟨m,rfl⟩:=bO (v:=k) (by simpa [kform] using hk)
   obtain⟨n,rfl⟩:=bO (v:=l) (by simpa [kform] using hl)
   simp [kbeq]
 | bool=>cases k<;>simp [kform] at hk;cases l<;>simp [kform] at hl;simp [kbeq]
 | str=>cases k<;>simp [kform] at hk;cases l<;>simp [kform] at hl;simp only [kbeq,jx,Value.string.injEq]
 | ints n=>
   obtain⟨xs,rfl,hk'⟩:=cK hk;replace hk:=hk'
   obtain⟨ys,rfl,hl'⟩:=cK hl;replace hl:=hl'
   simp only [kbeq,beq_iff_eq,Value.agg.injEq]
   refine⟨fun h=>Array.ext' (ib (List.all_eq_true.2 fun x hx=>?_) (List.all_eq_true.2 fun x hx=>?_) h),fun h=>by rw [h]⟩
   ·exact hk.2 x hx
   ·exact hl.2 x hx
theorem sameBits_refl {kk:KK}{k:Value}(hk:kform kk k=true):Instr.sameBits 10000 k k=true:=by
 have h1:∀m v,isi64 v=true→Instr.sameBits m v v=true:=by
  intro m v h
  obtain⟨n,rfl⟩:=bO h
  cases m<;>simp [Instr.sameBits]
 cases kk with
 | int=>exact h1 _ _ (by simpa [kform] using hk)
 | bool=>cases k<;>simp [kform] at hk;simp [Instr.sameBits]
 | str=>cases k<;>simp [kform] at hk;simp only [Instr.sameBits];exact(jx _ _).2 rfl
 | ints n=>
   obtain⟨xs,rfl,hk'⟩:=cK hk;replace hk:=hk'
   simp only [Instr.sameBits,beq_self_eq_true,Bool.true_and,List.all_eq_true]
   intro p hp
   obtain⟨x,y⟩:=p
   have he:x=y:=by
    obtain⟨i,hi⟩:=List.getElem?_of_mem hp
    rw [List.getElem?_zip_eq_some] at hi
    rw [hi.1] at hi;exact Option.some.inj hi.2
   subst he
   exact h1 _ _ (hk.2 x (by have:=(List.of_mem_zip hp).1;simpa using this))
theorem ic {t:TypeId}(h:kkOf P t=some .int):P.underlying t=some (.int .i64):=by
 unfold kkOf at h
 split at h<;>first|assumption|(cases h;done)|(split at h<;>cases h)
theorem gu {t:TypeId}(h:kkOf P t=some .bool):P.underlying t=some .bool:=by
 unfold kkOf at h
 split at h<;>first|assumption|(cases h;done)|(split at h<;>cases h)
theorem ig {t:TypeId}(h:kkOf P t=some .str):P.underlying t=some .string:=by
 unfold kkOf at h
 split at h<;>first|assumption|(cases h;done)|(split at h<;>cases h)
theorem eU {t:TypeId}{n:Nat}(h:kkOf P t=some (.ints n)):∃e,P.underlying t=some (.array n e)∧P.underlying e=some (.int .i64)∧szT P e=some (1,false):=by
 unfold kkOf at h
 split at h
 ·cases h
 ·cases h
 ·cases h
 ·rename_i m e hu
  split at h
  ·rename_i h1 h2;cases h;exact⟨e,hu,h1,h2⟩
  ·cases h
 ·cases h
theorem fV {e:TypeId}(hs:szT P e=some (1,false)){xs:Array Value}{i:Nat}{v:Value}(hi:xs[i]? =some v)(w:World):(part e xs i).run P w= .ok v w:=by
 have hlt:=(Array.getElem?_eq_some_iff.1 hi).1
 refine dA hs (by omega) ?_ w
 have:(xs.toList.drop i).take 1= [v]:=by
  rw [List.take_one,List.head?_drop,Array.getElem?_toList,hi];rfl
 rw [this];rfl
theorem gr {e:TypeId}(he:P.underlying e=some (.int .i64))(hs:szT P e=some (1,false)){xs ys:Array Value}(hx:xs.toList.all isi64=true)(hy:ys.toList.all isi64=true)(d:Nat)(w:World):
 ∀is:List Nat,(∀i∈is,i<xs.size∧i<ys.size)→(Op.eqItems (d+1) e 1 xs ys is).run P w= .ok (is.all fun i=>ival (xs.getD i undef)==ival (ys.getD i undef)) w
 | [],_=>by simp [Op.eqItems]
 | i::is,h=>by
   obtain⟨h1,h2⟩:=h i (by simp)
   obtain⟨m,hm⟩:=bO (List.all_eq_true.1 hx xs[i] (by simp))
   obtain⟨n,hn⟩:=bO (List.all_eq_true.1 hy ys[i] (by simp))
   have p1:=fV hs (xs:=xs) (i:=i) (v:=.int .i64 m) (by simp [h1,hm]) w
   have p2:=fV hs (xs:=ys) (i:=i) (v:=.int .i64 n) (by simp [h2,hn]) w
   have e1:xs.getD i undef= .int .i64 m:=by simp [Array.getD_eq_getD_getElem?,h1,hm]
   have e2:ys.getD i undef= .int .i64 n:=by simp [Array.getD_eq_getD_getElem?,h2,hn]
   have p3:(Op.equalIn (d+1) e (.int .i64 m) (.int .i64 n)).run P w= .ok (m==n) w:=by simp [Op.equalIn,run_underlying he]
   have ih:=gr he hs hx hy d w is fun j hj=>h j (by simp [hj])
   have e3:ival (xs.getD i undef)=m:=by rw [e1];rfl
   have e4:ival (ys.getD i undef)=n:=by rw [e2];rfl
   simp only [Op.eqItems,Nat.mul_one,Sem.run_bind,p1,p2,p3,Result.andThen_ok,List.all_cons,e3,e4]
   cases m==n
   ·simp
   ·simpa using ih
theorem all_getD {xs ys:List Value}(h:xs.length=ys.length):((List.range xs.length).all fun i=>ival (xs.toArray.getD i undef)==ival (ys.toArray.getD i undef))=(xs.map ival==ys.map ival):=by
 rw [Bool.eq_iff_iff]
 simp only [List.all_eq_true,List.mem_range,beq_iff_eq]
 constructor
 ·intro q
  apply List.ext_getElem (by simpa using h)
  intro i h1 h2
  simp at h1 h2
  have:=q i h1
  simpa [Array.getD_eq_getD_getElem?,h1,h2] using this
 ·intro q i hi
  have hj:i<ys.length:=by omega
  have h3:(xs.map ival)[i]? =(ys.map ival)[i]? :=by rw [q]
  simpa [Array.getD_eq_getD_getElem?,hi,hj] using h3
theorem equal_ints {t:TypeId}{n:Nat}(hk:kkOf P t=some (.ints n)){x y:Value}(hx:kform (.ints n) x=true)(hy:kform (.ints n) y=true)(w:World):(Op.equal t x y).run P w= .ok (kbeq x y) w:=by
 obtain⟨e,hu,he,hs⟩:=eU hk
 obtain⟨i,hi,hsz,-,-⟩:=dq hs
 obtain⟨xs,rfl,hx'⟩:=cK hx;replace hx:=hx'
 obtain⟨ys,rfl,hy'⟩:=cK hy;replace hy:=hy'
 have hc:P.cellsOf e=1:=by simp [Program.cellsOf,hi,hsz]
 have:=gr (P:=P) he hs (xs:=xs) (ys:=ys) (List.all_eq_true.2 hx.2) (List.all_eq_true.2 hy.2) 9998 w (List.range n) (fun i hi=>by simp at hi;omega)
 unfold Op.equal Op.maxDepth
 rw [run_equalIn_array w 9999 xs ys hu hi,hc,this]
 congr 1
 have h2:=all_getD (xs:=xs.toList) (ys:=ys.toList) (by simp [hx.1,hy.1])
 simp only [Array.length_toList,hx.1,Array.toArray_toList] at h2
 rw [h2];rfl
theorem check_ints {t:TypeId}{n:Nat}(hk:kkOf P t=some (.ints n)){x:Value}(hx:kform (.ints n) x=true)(em:Bool)(w:World):(Instr.checkKey em 10000 t x).run P w= .ok () w:=by
 obtain⟨e,hu,he,hs⟩:=eU hk
 obtain⟨i,hi,hsz,-,-⟩:=dq hs
 obtain⟨xs,rfl,hx'⟩:=cK hx;replace hx:=hx'
 have hc:(sizeOf e).run P w= .ok 1 w:=by simp [sizeOf,typeInfo,hi,hsz]
 rw [show(10000:Nat)=9999+1 from rfl,Instr.checkKey]
 simp only [Sem.run_bind,run_underlying hu,Result.andThen_ok]
 simp only [Std.Legacy.Range.forIn_eq_forIn_range',Std.Legacy.Range.size,Nat.sub_zero,Nat.add_one_sub_one,Nat.div_one]
 have key:∀is:List Nat,(∀i∈is,i<xs.size)→(forIn is PUnit.unit fun i (_:PUnit)=>(do
  Instr.checkKey em 9999 e (←part e xs (i*(←sizeOf e)));pure (ForInStep.yield PUnit.unit):Sem (ForInStep PUnit))).run P w= .ok PUnit.unit w:=by
  intro is
  induction is with
  | nil=>intro _;simp
  | cons j is ih=>
    intro h
    have h1:=h j (by simp)
    obtain⟨m,hm⟩:=bO (hx.2 xs[j] (by simp))
    have p1:=fV hs (xs:=xs) (i:=j) (v:=.int .i64 m) (by simp [h1,hm]) w
    have p2:(Instr.checkKey em 9999 e (.int .i64 m)).run P w= .ok () w:=by
     rw [show(9999:Nat)=9998+1 from rfl,Instr.checkKey];simp [run_underlying he]
    simp only [List.forIn_cons,Sem.run_bind,hc,Result.andThen_ok,Nat.mul_one,p1,p2,Sem.run_pure]
    exact ih fun j hj=>h j (by simp [hj])
 have h9:=key (List.range' 0 n 1) (fun i hi=>by have:=List.mem_range'_1.1 hi;omega)
 rw [h9];rfl
theorem eP {t:TypeId}{kk:KK}(hk:kkOf P t=some kk){x:Value}(hx:kform kk x=true)(em:Bool)(w:World):(Instr.checkKey em 10000 t x).run P w= .ok () w:=by
 cases kk with
 | ints n=>exact check_ints hk hx em w
 | int=>
   obtain⟨n,rfl⟩:=bO (v:=x) (by simpa [kform] using hx)
   rw [show(10000:Nat)=9999+1 from rfl,Instr.checkKey];simp [run_underlying (ic hk)]
 | bool=>rw [show(10000:Nat)=9999+1 from rfl,Instr.checkKey];cases x<;>simp [kform] at hx;simp [run_underlying (gu hk)]
 | str=>rw [show(10000:Nat)=9999+1 from rfl,Instr.checkKey];cases x<;>simp [kform] at hx;simp [run_underlying (ig hk)]
def mfindE (k:Value):List MapEntry→Nat→Option (Nat×Value)
 | [],_=>none
 | e::es,i=>if kbeq k e.key then some (i,e.val) else mfindE k es (i+1)
theorem fK {t:TypeId}{kk:KK}(hk:kkOf P t=some kk){x:Value}(hx:kform kk x=true)(w:World)(es:List MapEntry)(he:∀e∈es,kform kk e.key=true):(Instr.findKey t x es).run P w= .ok (mfindE x es 0) w:=by
 cases kk with
 | ints n=>
   obtain⟨e,hu,-,-⟩:=eU hk
   rw [run_findKey_eq w (by rw [hu])]
   have:∀(es:List MapEntry) (i:Nat),(∀e∈es,kform (.ints n) e.key=true)→(Instr.findAsking t x es i).run P w= .ok (mfindE x es i) w:=by
    intro es
    induction es with
    | nil=>intro i _;simp [Instr.findAsking,mfindE]
    | cons e es ih=>
      intro i h
      have h1:=equal_ints hk hx (h e (by simp)) w
      simp only [Instr.findAsking,Sem.run_bind,h1,Result.andThen_ok,mfindE]
      split
      ·rfl
      ·exact ih _ fun e he=>h e (by simp [he])
   exact this es 0 he
 | int=>
   obtain⟨n,rfl⟩:=bO (v:=x) (by simpa [kform] using hx)
   refine MapKept.run_findKey (ic hk) ?_
   generalize 0=i
   induction es generalizing i with
   | nil=>rfl
   | cons e es ih=>
     obtain⟨m,hm⟩:=bO (v:=e.key) (by simpa [kform] using he e (by simp))
     simp only [Instr.findNow,mfindE,hm,Instr.sameNow,kbeq,if_true]
     have:=ih (fun e h=>he e (by simp [h])) (i+1)
     cases n==m
     ·simpa using this
     ·rfl
 | bool=>
   refine MapKept.run_findKey (gu hk) ?_
   cases x<;>simp [kform] at hx
   generalize 0=i
   induction es generalizing i with
   | nil=>rfl
   | cons e es ih=>
     have h1:=he e (by simp)
     have:=ih (fun e h=>he e (by simp [h])) (i+1)
     cases hq:e.key<;>rw [hq] at h1<;>simp [kform] at h1
     simp only [Instr.findNow,mfindE,hq,Instr.sameNow,kbeq]
     split<;>rename_i h2
     ·rw [Option.some.inj h2];rfl
     ·rw [Option.some.inj h2];exact this
     ·cases h2
 | str=>
   refine MapKept.run_findKey (ig hk) ?_
   cases x<;>simp [kform] at hx
   generalize 0=i
   induction es generalizing i with
   | nil=>rfl
   | cons e es ih=>
     have h1:=he e (by simp)
     have:=ih (fun e h=>he e (by simp [h])) (i+1)
     cases hq:e.key<;>rw [hq] at h1<;>simp [kform] at h1
     simp only [Instr.findNow,mfindE,hq,Instr.sameNow,kbeq]
     split<;>rename_i h2
     ·rw [Option.some.inj h2];rfl
     ·rw [Option.some.inj h2];exact this
     ·cases h2
def Ents (ι:Emb):List (Value×Value)→List MapEntry→Prop
 | [],[]=>True
 | e::es,e'::es'=>(VR ι e.1 e'.key∧VR ι e.2 e'.val)∧Ents ι es es'
 | _,_=>False
theorem gD:∀{es:List (Value×Value)} {en:List MapEntry},es.length=en.length→(∀(j:Nat) (k v:Value) (e:MapEntry),es[j]? =some (k,v)→en[j]? =some e→VR ι k e.key∧VR ι v e.val)→Ents ι es en
 | [],[],_,_=>trivial
 | [],_::_,h,_=>by simp at h
 | _::_,[],h,_=>by simp at h
 | e::es,e'::en,h,q=>⟨q 0 e.1 e.2 e' rfl rfl,gD (by simpa using h) fun j k v e a b=>q (j+1) k v e (by simpa using a) (by simpa using b)⟩
theorem eT {kk:KK}:∀{es:List (Value×Value)} {en:List MapEntry},Ents ι es en→(es.all fun e=>kform kk e.1)=true→∀e∈en,kform kk e.key=true
 | [],[],_,_=>by simp
 | [],_::_,h,_=>h.elim
 | _::_,[],h,_=>h.elim
 | e::es,e'::en,h,q=>by
   simp only [List.all_cons,Bool.and_eq_true] at q
   intro x hx
   simp only [List.mem_cons] at hx
   rcases hx with rfl|hx
   ·have:=dN q.1 h.1.1;rw [this];exact q.1
   ·exact eT h.2 q.2 x hx
theorem eS {kk:KK}{k:Value}:∀{es:List (Value×Value)} {en:List MapEntry} (i:Nat),Ents ι es en→(es.all fun e=>kform kk e.1)=true→
 (mget k es=none∧mfindE k en i=none∧∀v,mput k v es=es++ [(k,v)])∨
 ∃(v v':Value) (j:Nat) (e:MapEntry),mget k es=some v∧mfindE k en i=some (i+j,v')∧VR ι v v'∧en[j]? =some e∧kbeq k e.key=true∧∀v,mput k v es=es.set j (k,v)
 | [],[],_,_,_=>.inl ⟨rfl,rfl,fun _=>rfl⟩
 | [],_::_,_,h,_=>h.elim
 | _::_,[],_,h,_=>h.elim
 | e::es,e'::en,i,h,q=>by
   simp only [List.all_cons,Bool.and_eq_true] at q
   have he:=dN q.1 h.1.1
   cases hb:kbeq k e.1 with
   | true=>exact .inr ⟨e.2,e'.val,0,e',by simp [mget,hb],by simp [mfindE,he,hb],h.1.2,rfl,by rw [he];exact hb,fun v=>by simp [mput,hb]⟩
   | false=>
     rcases eS (k:=k) (i+1) h.2 q.2 with⟨h1,h2,h3⟩|⟨v,v',j,x,h1,h2,h3,h4,h5,h6⟩
     ·exact .inl ⟨by simp [mget,hb,h1],by simp [mfindE,he,hb,h2],fun v=>by simp [mput,hb,h3]⟩
     ·exact .inr ⟨v,v',j+1,x,by simp [mget,hb,h1],by simp only [mfindE,he,hb];rw [show i+(j+1)=i+1+j by omega];simpa using h2,h3,by simpa using h4,h5,fun v=>by simp [mput,hb,h6]⟩
theorem mnil_inv {v':Value}(h:VR ι (.map none) v'):v'= .map none:=by
 generalize hv:Value.map none=v at h
 cases h<;>cases hv
 rfl
theorem iB {b:Nat}{L:Loc}{v':Value}(h:VR ι (.map (some b)) v')(hL:ι b=some L):v'= .map (some L.base.block):=by
 generalize hv:Value.map (some b)=v at h
 cases h<;>cases hv
 rename_i L' hL'
 rw [hL] at hL';cases hL';rfl
theorem zeroV_some {t:TypeId}{z:Value}(h:zeroV P t=some z):(zeroValue t).run P w= .ok z w∧∀ι:Emb,VR ι z z:=by
 unfold zeroV at h
 split at h
 ·rename_i i hi
  split at h
  ·rename_i z' hz
   split at h
   ·rename_i hc
    cases h
    refine⟨by simp [zeroValue,typeInfo,hi,hz],fun ι=>?_⟩
    unfold okV at hc
    split at hc
    ·exact VR.of_agg (fu hc)
    ·exact eW hc
   ·cases h
  ·cases h
 ·cases h
theorem gL {v v':Value}(h:VR ι v v')(b:Bool):VR ι (.tuple #[v,.bool b]) (.tuple #[v',.bool b]):=
 VR.of_tup (l:=[v,.bool b]) (l':=[v',.bool b]) (VRs.cons h (VRs.cons (.bool b) VRs.nil))
theorem good_lenm (s:Sim ι H w)(ht:TR ι N tm a){x:Operand}{t ty k e:TypeId}(hu:P.underlying t=some (.map k e))
 (ho:okO x=true) (h:aop (.lenm x) tm H=some (av,H')):Good P (do pure (.value (←Builtin.len_ #[t] ty #[a.eval x]))) ι H w av H':=by
 simp only [aop] at h
 have hx:=bn ht ho
 split at h
 ·rename_i b e1
  rw [e1] at hx
  split at h
  ·rename_i es hb0
   have hb:H[b]? =some (.mp es):=hb0
   obtain⟨L,en,cl,hL,hw,hr⟩:=s.maps b es hb
   have hxe:a.eval x= .map (some L.base.block):=iB hx hL
   have hg:(getObj L.base.block).run P w= .ok (.map en cl) w:=by simp [getObj,Sem.run,hw]
   cases h
   rw [hxe]
   refine Good.pure (v:=.int .i64 es.length) ?_ (.int _ _) s
   simp only [Builtin.len_,List.getElem?_toArray,List.getElem?_cons_zero,Sem.run_bind,run_underlying hu,Result.andThen_ok,hg,Sem.run_pure,goInt,hr.1]
  ·cases h
 ·cases h
theorem good_mlook (s:Sim ι H w)(ht:TR ι N tm a){t k e:TypeId}(hu:P.underlying t=some (.map k e)){kk:KK}(hk:kkOf P k=some kk){z:Value}(hz:zeroV P e=some z){ok:Bool}
 {x i:Operand} (ho:okL [x,i]=true) (h:aop (.mlook kk z ok x i) tm H=some (av,H')):Good P (do pure (.value (←Instr.lookup t (a.eval x) (a.eval i) ok))) ι H w av H':=by
 simp only [okL,List.all_cons,List.all_nil,Bool.and_true,Bool.and_eq_true] at ho
 have hx:=bn ht ho.1
 have hi:=bn ht ho.2
 obtain⟨hz1,hz2⟩:=zeroV_some (w:=w) hz
 simp only [aop] at h
 split at h
 ·rename_i e1
  rw [e1] at hx
  split at h
  ·rename_i hf
   have hki:=dN hf hi
   have hc:=eP (P:=P) hk hf true w
   have hfr:=fK (P:=P) hk hf w [] (by simp)
   have hxe:a.eval x= .map none:=mnil_inv hx
   cases h
   rw [hxe,hki]
   refine Good.pure (v:=if ok then .tuple #[z,.bool false] else z) ?_ ?_ s
   ·simp only [Instr.lookup,Sem.run_bind,run_underlying hu,Result.andThen_ok,Sem.run_pure]
    simp only [Array.isEmpty_empty,hc,Result.andThen_ok,hfr,mfindE,Sem.run_bind,hz1,Sem.run_pure]
   ·split
    ·exact gL (hz2 ι) false
    ·exact hz2 ι
  ·cases h
 ·rename_i b e1
  rw [e1] at hx
  split at h
  ·rename_i es hb0
   have hb:H[b]? =some (.mp es):=hb0
   split at h
   ·rename_i hf
    simp only [Bool.and_eq_true] at hf
    obtain⟨L,en,cl,hL,hw,hr⟩:=s.maps b es hb
    have hxe:a.eval x= .map (some L.base.block):=iB hx hL
    have hki:=dN hf.1 hi
    have hen:Ents ι es en.toList:=gD (by simpa using hr.1) fun j k v e p q=>hr.2.1 j k v e p (by simpa using q)
    have hkeys:=eT hen hf.2
    have hc:=eP (P:=P) hk hf.1 en.isEmpty w
    have hfr:=fK (P:=P) hk hf.1 w en.toList hkeys
    have hg:(getObj L.base.block).run P w= .ok (.map en cl) w:=by simp [getObj,Sem.run,hw]
    have hrun:∀q:Value×Bool,(match mfindE (ev tm i) en.toList 0 with|some (_,v)=>some (v,true)|none=>some (z,false))=some q→
     (Instr.lookup t (.map (some L.base.block)) (ev tm i) ok).run P w= .ok (if ok then .tuple #[q.1,.bool q.2] else q.1) w:=by
     intro q hq
     simp only [Instr.lookup,Sem.run_bind,run_underlying hu,Result.andThen_ok,hg,Sem.run_pure,hc,hfr]
     split at hq<;>rename_i hm<;>cases hq<;>simp only [hm,Sem.run_bind,hz1,Sem.run_pure,Result.andThen_ok]
    cases h
    rw [hxe,hki]
    rcases eS (k:=ev tm i) 0 hen hf.2 with⟨h1,h2,-⟩|⟨v,v',j,x,h1,h2,h3,-⟩
    ·rw [h1]
     refine Good.pure (v:=if ok then .tuple #[z,.bool false] else z) (by rw [Sem.run_bind,hrun (z,false) (by rw [h2])];rfl) ?_ s
     dsimp only
     split
     ·exact gL (hz2 ι) false
     ·exact hz2 ι
    ·rw [h1]
     refine Good.pure (v:=if ok then .tuple #[v',.bool true] else v') (by rw [Sem.run_bind,hrun (v',true) (by rw [h2])];rfl) ?_ s
     dsimp only
     split
     ·exact gL h3 true
     ·exact h3
   ·cases h
  ·cases h
 ·cases h
theorem Sim.newMap (s:Sim ι H w):Sim (ι.put H.length ⟨⟨w.heap.size,0,none⟩,0,0⟩) (H++ [.mp []]) (w.alloc (.map #[] 0))∧Fr ι H w (ι.put H.length ⟨⟨w.heap.size,0,none⟩,0,0⟩) (H++ [.mp []]) (w.alloc (.map #[] 0)):=by
 have hle:ι.le (ι.put H.length ⟨⟨w.heap.size,0,none⟩,0,0⟩):=Emb.put_le s.new_none
 have hnew:(H++ [Blk.mp []])[H.length]? =some (.mp []):=by simp
 have hold:∀b,b<H.length→(H++ [Blk.mp []])[b]? =H[b]? :=fun b hb=>List.getElem?_append_left hb
 have hheap:(w.alloc (.map #[] 0)).heap[w.heap.size]? =some (.map #[] 0):=by show(w.heap.push _)[w.heap.size]? =_;simp
 refine⟨Sim.step s H.length hle (fun b L hb h=>by rwa [Emb.put_other ι _ hb] at h) (fun b L h=>?_) (fun b hb=>.inl ?_) (fun b L _ hL _ hlive=>?_) (fun us h=>?_)
  (fun sz' us h=>?_) (fun es h=>?_) (fun _ b L0 L hb _ hlive h0 hL=>?_) (fun v us h=>?_),?_⟩
 ·by_cases e:b=H.length
  ·subst e;simp
  ·rw [Emb.put_other ι _ e] at h;have:=s.dom b L h;simp;omega
 ·rcases Nat.lt_or_ge b H.length with h|h
  ·exact hold b h
  ·rw [List.getElem?_eq_none (by simp;omega),List.getElem?_eq_none h]
 ·exact Go.RowKit.Below.heap_alloc w _ _ (s.live_lt hL hlive)
 ·simp [Hp.cells,Blk.cells] at h
 ·rw [hnew] at h;cases h
 ·rw [hnew] at h;cases h
  exact⟨_,#[],0,Emb.put_same ..,hheap,rfl,fun j k v e h=>by simp at h,fun j e h=>by simp at h,fun j j' e e' _ h=>by simp at h⟩
 ·rw [Emb.put_same] at h0;cases h0
  exact Nat.ne_of_gt (s.live_lt hL hlive)
 ·rw [hnew] at h;cases h
 ·refine⟨rfl,rfl,rfl,by simp,hle,by simp,fun b hb=>Emb.put_other ι _ (Nat.ne_of_lt hb),fun b hb=>by rw [hold b (List.getElem?_eq_some_iff.1 hb).1];exact hb,fun b z us hb=>by
   by_cases e:b=H.length
   ·subst e;rw [hnew] at hb;cases hb
   ·have hlt:=(List.getElem?_eq_some_iff.1 hb).1
    rw [hold b (by simp at hlt;omega)] at hb;exact hb,fun g hg _=>Go.RowKit.Below.heap_alloc w _ _ hg,fun g hg h=>?_⟩
  obtain⟨b,L,hL,hb,ho⟩:=h
  by_cases e:b=H.length
  ·subst e;rw [Emb.put_same] at hL;cases hL;simp at hb;omega
  ·rw [Emb.put_other ι _ e] at hL
   refine⟨b,L,hL,hb,?_⟩
   rwa [bw (hold b (s.dom b L hL))] at ho
theorem good_mkmap (s:Sim ι H w){t:TypeId}(h:aop .mkmap tm H=some (av,H')):Good P (do pure (.value (←Instr.makeMap t none))) ι H w av H':=by
 simp only [aop] at h;cases h
 obtain⟨h1,h2⟩:=s.newMap
 refine⟨_,_,_,.map (some w.heap.size),?_,.inl rfl,?_,h1,h2⟩
 ·simp only [Instr.makeMap,Sem.run_bind,Sem.run_pure,run_newObj,Result.andThen_ok];rfl
 ·exact VR.mp (ι:=ι.put H.length ⟨⟨w.heap.size,0,none⟩,0,0⟩) H.length ⟨⟨w.heap.size,0,none⟩,0,0⟩ (Emb.put_same ..)
theorem Sim.setMap (s:Sim ι H w){b:Nat}{es es':List (Value×Value)}{L:Loc}(hb:H[b]? =some (.mp es))(hL:ι b=some L)
 {en en':Array MapEntry} {c c':Nat} (hg:w.heap[L.base.block]? =some (.map en c)) (hr:MapRel ι es' en' c'):
 Sim ι (H.set b (.mp es')) {w with heap:=w.heap.setIfInBounds L.base.block (.map en' c')}∧Fr ι H w ι (H.set b (.mp es')) {w with heap:=w.heap.setIfInBounds L.base.block (.map en' c')}:=by
 have hlt:b<H.length:=s.dom b L hL
 have hnew:(H.set b (Blk.mp es'))[b]? =some (.mp es'):=by simp [hlt]
 have hold:∀x,x≠b→(H.set b (Blk.mp es'))[x]? =H[x]? :=fun x hx=>List.getElem?_set_ne (fun e=>hx e.symm)
 obtain⟨hw1,hw2⟩:=MapKept.heap_set (o':=.map en' c') hg
 refine⟨Sim.step s b (Emb.le.refl ι) (fun _ _ _ h=>h) (fun x K h=>by have:=s.dom x K h;simpa using this) (fun x hx=>.inl (hold x hx))
  (fun x K hx hK _ hlive=>hw2 _ ?_) (fun us h=>?_) (fun sz' us h=>?_) (fun es h=>?_) (fun ho x L0 K hx _ hlive h0 hK=>?_) (fun v us h=>?_),?_⟩
 ·exact fun e=>s.sep b x L K (fun e=>hx e.symm) (ct hb) hlive hL hK e.symm
 ·simp [Hp.cells,hnew,Blk.cells] at h
 ·rw [hnew] at h;cases h
 ·rw [hnew] at h;cases h
  exact⟨L,en',c',hL,hw1,hr⟩
 ·rw [hL] at h0;cases h0
  exact s.sep b x L K (fun e=>hx e.symm) (ct hb) hlive hL hK
 ·rw [hnew] at h;cases h
 ·refine⟨rfl,rfl,rfl,by simp,Emb.le.refl ι,by simp,fun _ _=>rfl,fun x hx=>by rw [hold x (fun e=>by subst e;rw [hb] at hx;cases hx)];exact hx,fun x z us hx=>by
   by_cases e:x=b
   ·subst e;rw [hnew] at hx;cases hx
   ·rw [hold x e] at hx;exact hx,fun g hg' hn=>hw2 g fun e=>hn ⟨b,L,hL,e.symm,ct hb⟩,fun g hg' h=>?_⟩
  obtain⟨x,K,hK,hb',ho⟩:=h
  by_cases e:x=b
  ·subst e;exact⟨x,K,hK,hb',ct hb⟩
  ·exact⟨x,K,hK,hb',by rwa [bw (hold x e)] at ho⟩
theorem gq (s:Sim ι H w)(ht:TR ι N tm a){t k e:TypeId}(hu:P.underlying t=some (.map k e)){kk:KK}(hk:kkOf P k=some kk)
 {x i y:Operand} (ho:okL [x,i,y]=true) (h:aop (.mset kk x i y) tm H=some (av,H')):Good P (do Instr.mapUpdate t (a.eval x) (a.eval i) (a.eval y);pure .skip) ι H w av H':=by
 simp only [okL,List.all_cons,List.all_nil,Bool.and_true,Bool.and_eq_true] at ho
 have hx:=bn ht ho.1
 have hi:=bn ht ho.2.1
 have hy:=bn ht ho.2.2
 simp only [aop] at h
 split at h
 ·rename_i b e1
  rw [e1] at hx
  split at h
  ·rename_i es hb0
   have hb:H[b]? =some (.mp es):=hb0
   split at h
   ·rename_i hf
    simp only [Bool.and_eq_true] at hf
    obtain⟨L,en,cl,hL,hw,hr⟩:=s.maps b es hb
    have hxe:a.eval x= .map (some L.base.block):=iB hx hL
    have hki:=dN hf.1 hi
    have hen:Ents ι es en.toList:=gD (by simpa using hr.1) fun j k v e p q=>hr.2.1 j k v e p (by simpa using q)
    have hkeys:=eT hen hf.2
    have hc:=eP (P:=P) hk hf.1 false w
    have hfr:=fK (P:=P) hk hf.1 w en.toList hkeys
    have hg:(getObj L.base.block).run P w= .ok (.map en cl) w:=by simp [getObj,Sem.run,hw]
    cases h
    rw [hxe,hki]
    rcases eS (k:=ev tm i) 0 hen hf.2 with⟨h1,h2,h3⟩|⟨v,v',j,x,h1,h2,h3,h4,h5,h6⟩
    ·have hr':MapRel ι (mput (ev tm i) (ev tm y) es) (en.push {key:=ev tm i,val:=a.eval y,born:=cl}) (cl+1):=by
      rw [h3]
      refine⟨by simp [hr.1],fun j k v e p q=>?_,fun j e q=>?_,fun j j' e e' hjj q q'=>?_⟩
      ·rcases Nat.lt_or_ge j es.length with hj|hj
       ·rw [List.getElem?_append_left hj] at p
        rw [Array.getElem?_push,if_neg (by rw [←hr.1];omega)] at q
        exact hr.2.1 j k v e p q
       ·have hje:j=es.length:=by
         have:=(List.getElem?_eq_some_iff.1 p).1;simp at this;omega
        subst hje
        simp at p
        rw [hr.1] at q;simp at q
        obtain⟨rfl,rfl⟩:=p;subst q
        exact⟨hki▸hi,hy⟩
      ·rw [Array.getElem?_push] at q
       split at q
       ·cases q;exact Nat.lt_succ_self _
       ·exact Nat.lt_succ_of_lt (hr.2.2.1 j e q)
      ·have hj':=(Array.getElem?_eq_some_iff.1 q').1
       simp at hj'
       rw [Array.getElem?_push,if_neg (by omega)] at q
       rw [Array.getElem?_push] at q'
       split at q'
       ·cases q';exact hr.2.2.1 j e q
       ·exact hr.2.2.2 j j' e e' hjj q q'
     obtain⟨hs,hfm⟩:=s.setMap hb hL hw hr'
     refine⟨.skip,ι,_,undef,?_,.inr ⟨rfl,rfl⟩,da ι,hs,hfm⟩
     simp only [Instr.mapUpdate,Sem.run_bind,run_underlying hu,Result.andThen_ok,hg,hc,hfr,h2,MapKept.run_setObj_map _ hw,Result.andThen_ok,Sem.run_pure]
    ·have hkx:x.key=ev tm i:=((kbeq_iff hf.1 (hkeys x (List.mem_of_getElem? h4))).1 h5).symm
     have hks:(Instr.keyThatStays (ev tm i) (ev tm i)).run P w= .ok (ev tm i) w:=by simp [Instr.keyThatStays,sameBits_refl hf.1]
     have h4':en[j]? =some x:=by simpa using h4
     have hold:((en[j]?).map (·.key)).getD (ev tm i)=ev tm i:=by rw [h4'];simp [hkx]
     have hr':MapRel ι (mput (ev tm i) (ev tm y) es) (en.modify j fun e=>{e with key:=ev tm i,val:=a.eval y}) cl:=by
      rw [h6]
      refine⟨by simp [hr.1],fun j' k v e p q=>?_,fun j' e q=>?_,fun j' j'' e e' hjj q q'=>?_⟩
      ·rw [Array.getElem?_modify] at q
       split at q
       ·rename_i hjj
        subst hjj
        rw [List.getElem?_set_self (by have:=(Array.getElem?_eq_some_iff.1 h4').1;rw [hr.1];exact this)] at p
        rw [h4'] at q
        cases p;cases q
        exact⟨hki▸hi,hy⟩
       ·rename_i hjj
        rw [List.getElem?_set_ne hjj] at p
        exact hr.2.1 j' k v e p q
      ·rw [Array.getElem?_modify] at q
       split at q
       ·rename_i hjj;subst hjj;rw [h4'] at q;cases q;exact hr.2.2.1 j x h4'
       ·exact hr.2.2.1 j' e q
      ·have born:∀(n:Nat) (e:MapEntry),(en.modify j fun e=>{e with key:=ev tm i,val:=a.eval y})[n]? =some e→∃e0,en[n]? =some e0∧e0.born=e.born:=by
        intro n e q
        rw [Array.getElem?_modify] at q
        split at q
        ·rename_i hjj;subst hjj;rw [h4'] at q;cases q;exact⟨x,h4',rfl⟩
        ·exact⟨e,q,rfl⟩
       obtain⟨e0,q0,r0⟩:=born _ _ q
       obtain⟨e1,q1,r1⟩:=born _ _ q'
       rw [←r0,←r1];exact hr.2.2.2 j' j'' e0 e1 hjj q0 q1
     obtain⟨hs,hfm⟩:=s.setMap hb hL hw hr'
     refine⟨.skip,ι,_,undef,?_,.inr ⟨rfl,rfl⟩,da ι,hs,hfm⟩
     rw [Nat.zero_add] at h2
     simp only [Instr.mapUpdate,Sem.run_bind,run_underlying hu,Result.andThen_ok,hg,hc,hfr,h2,hold,hks,MapKept.run_setObj_map _ hw,Result.andThen_ok,Sem.run_pure]
   ·cases h
  ·cases h
 ·cases h
end
end Go.Ab
