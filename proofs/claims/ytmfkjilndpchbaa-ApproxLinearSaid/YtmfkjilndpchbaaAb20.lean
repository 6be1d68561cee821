import Derived.Test.YtmfkjilndpchbaaAuto
import Derived.SizedLaws
import Derived.ChangeSlices
import Derived.Deep.Grids
import Derived.WalkKit
import Derived.ProofKit
import Derived.OpenShut
import Derived.ShutString
import Derived.ChangeOld
import Derived.Below
namespace Go.Ab
open Go Go.ChangeShapes Go.WideShapes Go.ChangeAt Go.RowKit Go.Deep
structure Row where
 a:Option Addr
 len:Nat
 cap:Nat
 cs:List Value
structure Row.In (w:World)(r:Row):Prop where
 nil:r.a=none→r.len=0∧r.cap=0
 len:r.len≤r.cap∧r.cs.length=r.len
 ok:∀v∈r.cs,okC v=true
 cell:∀x,r.a=some x→∀(j:Nat) (v:Value),r.cs[j]? =some v→w.cell? (x.add j)=some v
def Row.blk (r:Row):Blk:=match r.a with|some _=>.ro 1 r.cs|none=>.dead
def Row.loc (r:Row):Option Loc:=r.a.map fun x=>⟨x,r.cap,1⟩
def Row.val (r:Row):Value:=.slice r.a r.len r.cap
def Row.abs (r:Row)(k:Nat):Value:=match r.a with|some _=>.slice (some ⟨k,0,none⟩) r.len r.len|none=>.slice none 0 0
def rowsH (rs:List Row):Hp:=rs.map Row.blk
def rowsE (rs:List Row):Emb:=fun k=>(rs[k]?).bind Row.loc
theorem rows_sim {w:World}{rs:List Row}(h:∀r∈rs,r.In w):Sim (rowsE rs) (rowsH rs) w where
 cells:=fun b vs hb=>by
  simp only [Hp.cells,rowsH,List.getElem?_map] at hb
  cases hr:rs[b]? with
  | none=>simp [hr] at hb
  | some r=>
    have hin:=h r (List.mem_of_getElem? hr)
    simp only [hr,Option.map_some,Option.bind_some,Row.blk] at hb
    cases ha:r.a with
    | none=>simp [ha,Blk.cells] at hb
    | some x=>
      simp only [ha,Blk.cells,Option.some.injEq] at hb
      subst hb
      refine⟨⟨x,r.cap,1⟩,by simp [rowsE,hr,Row.loc,ha],fun j v hv=>⟨v,hin.cell x ha j v hv,eW (hin.ok v (List.mem_of_getElem? hv))⟩⟩
 rosz:=fun b sz vs hb=>by
  simp only [rowsH,List.getElem?_map] at hb
  cases hr:rs[b]? with
  | none=>simp [hr] at hb
  | some r=>
    simp only [hr,Option.map_some,Row.blk,Option.some.injEq] at hb
    cases ha:r.a with
    | none=>simp [ha] at hb
    | some x=>
      simp only [ha,Blk.ro.injEq] at hb
      exact⟨⟨x,r.cap,1⟩,by simp [rowsE,hr,Row.loc,ha],hb.1⟩
 own:=fun b sz vs hb=>by
  simp only [rowsH,List.getElem?_map] at hb
  cases hr:rs[b]? with
  | none=>simp [hr] at hb
  | some r=>simp only [hr,Option.map_some,Row.blk,Option.some.injEq] at hb;cases ha:r.a<;>simp [ha] at hb
 maps:=fun b es hb=>by
  simp only [rowsH,List.getElem?_map] at hb
  cases hr:rs[b]? with
  | none=>simp [hr] at hb
  | some r=>simp only [hr,Option.map_some,Row.blk,Option.some.injEq] at hb;cases ha:r.a<;>simp [ha] at hb
 dom:=fun b L hb=>by
  simp only [rowsE] at hb
  cases hr:rs[b]? with
  | none=>simp [hr] at hb
  | some r=>simpa [rowsH] using (List.getElem?_eq_some_iff.1 hr).1
 sep:=fun b b' L L' _ hb=>by
  simp only [Hp.owned,rowsH,List.getElem?_map] at hb
  cases hr:rs[b]? with
  | none=>simp [hr] at hb
  | some r=>simp only [hr,Option.map_some,Row.blk,Option.getD_some] at hb;cases ha:r.a<;>simp [ha,Blk.owned] at hb
theorem rows_none (rs:List Row)(b:Nat):(rowsH rs).owned b=false:=by
 simp only [Hp.owned,rowsH,List.getElem?_map]
 cases hr:rs[b]? with
 | none=>rfl
 | some r=>simp only [Option.map_some,Row.blk,Option.getD_some];cases r.a<;>rfl
theorem rows_vr {w:World}{rs:List Row}{k:Nat}{r:Row}(hr:rs[k]? =some r)(h:r.In w):VR (rowsE rs) (r.abs k) r.val:=by
 unfold Row.abs Row.val
 cases ha:r.a with
 | none=>obtain⟨h1,h2⟩:=h.nil ha;rw [h1,h2];exact .snil
 | some x=>exact .sl k 0 r.len r.len r.cap ⟨x,r.cap,1⟩ x (by simp [rowsE,hr,Row.loc,ha]) ⟨Nat.le_refl _,h.len.1⟩ (.inr ⟨by unfold Addr.add;simp,by simp⟩)
theorem rows_rd {w:World}{rs:List Row}{k:Nat}{r:Row}(hr:rs[k]? =some r)(h:r.In w):Rd (rowsH rs) (r.abs k) r.cs:=by
 unfold Row.abs
 have hl:=h.len.2
 cases ha:r.a with
 | none=>
   rw [(h.nil ha).1] at hl
   rw [List.eq_nil_of_length_eq_zero hl];exact Arr.nil ..
 | some x=>
   have hb:(rowsH rs)[k]? =some (.ro 1 r.cs):=by simp [rowsH,hr,Row.blk,ha]
   exact⟨.inr ⟨k,0,r.len,r.cs,rfl,by simp [Hp.cells,hb],by simp [Hp.esz,hb,Blk.esz],by omega,by simp;rw [List.take_of_length_le (by omega)],trivial⟩⟩
section
variable {H : Type} {enc : TypeId × Value → H} {P : Program} {w : World} {held : Bool}
theorem fit_ints {ts:List TypeId}{ds:List (DataW H)}{j:Nat}{t e:TypeId}{d:DataW H}{p:List MemPlace}{a:Option Addr}{len cap:Nat}(hsz:(DataW.weightsEach P ts ds).all (·≤reachBytes)=true)(ht:ts[j]? =some t)(hd:ds[j]? =some d)
 (hu:P.underlying t=some (.slice e)) (he:P.underlying e=some (.int .i64)) (hc:P.cellsOf e=1) (hb:P.bytesOf e=8) (h:∃fuel,DataW.trod enc P w 0 (fun _=>true) held fuel t (Value.slice a len cap).cells.toList=some (d,p)):
 ∃l:List Int,Row.In w ⟨a,len,cap,l.map vi⟩∧l.length=len∧len*8≤reachBytes:=by
 obtain⟨fuel,hf⟩:=h
 rcases open_ints hu he hc hf with⟨hcs,-⟩|⟨x,l,c,zs,hcs,-,hl,hm,hz,hx,hcell,hwz⟩
 ·simp [Value.cells] at hcs
  obtain⟨rfl,rfl,rfl⟩:=hcs
  exact⟨[],⟨fun _=>⟨rfl,rfl⟩,⟨Nat.le_refl _,rfl⟩,by simp,fun x hx=>by cases hx⟩,rfl,by simp⟩
 ·simp [Value.cells] at hcs
  obtain⟨rfl,rfl,rfl⟩:=hcs
  simp only [Prod.mk.injEq] at hx
  obtain⟨rfl,rfl⟩:=hx
  have:=sized_slice hsz ht hd hu
  rw [hb] at this
  simp only [if_true] at hz
  simp only [lits,List.length_map,List.length_take,List.length_drop] at this
  refine⟨zs.take len,⟨fun q=>(by cases q),⟨hl,by simp;omega⟩,?_,fun y hy i v hv=>?_⟩,by simp;omega,by omega⟩
  ·intro v hv
   simp only [List.mem_map] at hv
   obtain⟨n,-,rfl⟩:=hv
   rfl
  ·cases hy
   simp only [List.getElem?_map,List.getElem?_take] at hv
   split at hv
   ·have hi:i<zs.length:=by omega
    rw [hcell i hi]
    simp [hi] at hv
    simp [hi,←hv]
   ·cases hv
end
theorem rows_calls {P:Program}(hm:P.follows .mixedOrders=true){T:FuncId→Option AFunc}(hT:∀f F,T f=some F→∃fn,P.funcs[f]? =some fn∧cFunc P fn=some F){f:FuncId}{args:List Value}{w:World}{rs:List Row}
 (hin:∀r∈rs,r.In w) {vargs:Array Value} (hv:VRs (rowsE rs) args vargs.toList) (hG:G T f args (rowsH rs) (fun r _=>r= .bool true)):
 Calls P f vargs w (fun e w'=>e= .returned (.bool true)∧Below w.heap.size w w'):=by
 obtain⟨r,H',hr,rfl⟩:=hG
 refine(hr.calls hm hT (rows_sim hin) hv).mono ?_
 rintro e w' ⟨ι',v,rfl,hvr,-,hf⟩
 refine⟨?_,hf.below (rows_none rs)⟩
 cases hvr
 rfl
end Go.Ab
