import Derived.Test.YtmfkjilndpchbaaSl9
import Derived.Test.YtmfkjilndpchbaaAuto
namespace Go.Ab
open Go Go.Pu
theorem rd_rds {α:Type}(s:Sh α)(enc:α→Value)(hsz:s.sz=1)(he:∀(Z:PH) x,s.rd Z [enc x] x){H:Hp}{v:Value}{xs:List α}(h:Rd H v (xs.map enc))(hl:xs.length≤140737488355328):RdS s (Hp.ph H) v xs:=by
 rcases h.at' with⟨h1,h2⟩|⟨b,o,n,us,h1,h2,h3,h4,h5,h6⟩
 ·exact .inl ⟨h1,List.map_eq_nil_iff.1 h2⟩
 ·have hn:n=xs.length:=by
   have:=congrArg List.length h5
   simp only [List.length_map,List.length_take,List.length_drop] at this
   omega
  subst hn
  have hb:∃x,H[b]? =some x∧x≠ .dead∧x.cells=some us∧x.esz=some 1:=by
   unfold Hp.cells at h2;unfold Hp.esz at h3
   cases hx:H[b]? with
   | none=>rw [hx] at h2;cases h2
   | some x=>
     rw [hx] at h2 h3
     refine⟨x,rfl,fun e=>?_,h2,h3⟩
     subst e;cases h2
  obtain⟨x,hx,hd,hc,hz⟩:=hb
  refine .inr ⟨b,o,us,x,h1,an.2 ⟨hx,hd⟩,hc,by rw [hsz];exact hz,⟨by rw [hsz];exact h4,by omega⟩,fun i y hy=>?_⟩
  have e:chk us o s.sz i= [enc y]:=by
   have hi:=(List.getElem?_eq_some_iff.1 hy).1
   have hu:us[o+i]? =some (enc y):=by
    have h7:(xs.map enc)[i]? =some (enc y):=by rw [List.getElem?_map,hy];rfl
    rw [h5,List.getElem?_take,if_pos (by omega),List.getElem?_drop] at h7
    exact h7
   unfold chk
   rw [hsz,Nat.mul_one]
   obtain⟨q1,q2⟩:=List.getElem?_eq_some_iff.1 hu
   rw [List.drop_eq_getElem_cons q1,q2];rfl
  rw [e];exact he _ _
theorem rds_int {H:Hp}{v:Value}{xs:List Int}(h:Rd H v (xs.map vi))(hl:xs.length≤17592186044416):RdS Sh.int (Hp.ph H) v xs:=rd_rds Sh.int vi rfl (fun _ _=>rfl) h (by omega)
theorem law_of {T:FuncId→Option AFunc}{f:FuncId}{as:List Value}{H:Hp}{r:Bool}{Z V:PH}(h:G T f as H (fun rv H'=>rv= .bool r∧Sat Z V H' []))(hr:r=true):G T f as H (fun rv _=>rv= .bool true):=by
 subst hr
 obtain⟨v,H',h1,h2,-⟩:=h
 exact⟨v,H',h1,h2⟩
end Go.Ab
