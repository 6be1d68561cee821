import Derived.Test.YtmfkjilndpchbaaRows
import Derived.Test.YtmfkjilndpchbaaProg
import Derived.Test.YtmfkjilndpchbaaAb20
import Derived.Test.YtmfkjilndpchbaaTApproxLinear
import Derived.Test.YtmfkjilndpchbaaApproxLinear
import Derived.KernelRfl
namespace Go.Proofs.Ytmfkjilndpchbaa.approxLinear
open Go Go.Ab Go.ChangeShapes Go.WideShapes Go.ChangeAt Go.RowKit
theorem own:ownKnob Try.prog.godebug=none:=by kernel_rfl
theorem laidOut:laidOutB Try.prog=true:=by kernel_rfl
theorem mixed:Try.prog.follows .mixedOrders=true:=by kernel_rfl
set_option maxRecDepth 100000 in
theorem lifted (os:Os)(started:os.Started)(H:Type)(enc:TypeId×Value→H):
 ReturnsInHanded {} Try.checked os 4 .any (Rows.approxLinearSpec.pre6 enc Try.prog Try.f4 Rows.approxLinearRow.domain false) (Rows.approxLinearSpec.post enc Try.prog Try.f4 false true false false):=by
 refine returnsInHanded_of_change_sized (C:=Try.checked) own started (by kernel_rfl) Try.func4
  (ChangeSpec.witness6 (enc:=enc) (C:=Try.checked) false ⟨#[],#[.slice none 0 0],[]⟩ 8 (by kernel_rfl) (by kernel_rfl) (by kernel_rfl) (by kernel_rfl)) ?_
 intro W base args ds gs before hval0 hW hcnd hsz0 _
 have hsz:(DataW.weightsEach Try.prog (Try.f4.params.toList++Rows.approxLinearSpec.plain.varTypes Try.prog) (ds++gs)).all (·≤reachBytes)=true:=hsz0
 have hval:∀(j:Nat) t v,Try.f4.params[j]? =some t→args[j]? =some v→Value.okWide Try.prog W .any base t v:=hval0
 have hW':=hW
 obtain⟨p,q,hA0,hV,rfl,hfz,hnd⟩:=hW
 have hA:DataW.TrodAll enc Try.prog W 0 (fun _=>true) true Try.f4.params.toList args.toList ds p:=hA0
 rw [Try.params4] at hA hval hsz
 obtain⟨v0,vs0,d0,ds0,p0,q0,hargs,rfl,rfl,h0,r0⟩:=trodAll_cons hA
 obtain⟨rfl,rfl,rfl⟩:=trodAll_nil r0
 obtain rfl:args= #[v0]:=by cases args;simp_all
 obtain⟨rfl,rfl⟩:=trodVars_none hV
 obtain⟨a0,len0,cap0,rfl⟩:=okWide_slice Try.underlying22 (hval 0 22 v0 rfl rfl)
 have lt0:∀x∈p0,x.block<W.heap.size:=by obtain⟨m,hm⟩:=h0;exact DataW.trod_lt m _ _ _ hm
 obtain⟨l0,hin0,hln0,hby0⟩:=fit_ints hsz (j:=0) (t:=22) (d:=d0) rfl rfl Try.underlying22 Try.underlying3 (by kernel_rfl) (by kernel_rfl) h0
 clear hA0 hval0 hsz0
 have hG:G A8 I.D3 [(Row.abs ⟨a0,len0,cap0,l0.map vi⟩ 0)] (rowsH [⟨a0,len0,cap0,l0.map vi⟩]) (fun r _=>r= .bool true):=approxLinear_law (rows_rd (k:=0) rfl hin0) (by have:=reachBytes_lt;omega)
 have hin:∀r∈([⟨a0,len0,cap0,l0.map vi⟩]:List Row),r.In W:=by
  intro r hr
  simp only [List.mem_cons,List.not_mem_nil,or_false] at hr
  rcases hr with rfl
  ·exact hin0
 refine(rows_calls mixed A8.ok hin (vargs:= #[.slice a0 len0 cap0]) (VRs.cons (rows_vr (k:=0) rfl hin0) VRs.nil) hG).mono fun e W' ⟨he,bel⟩=>?_
 subst he
 exact⟨_,rfl,_,_,_,[],_,[],hW',trodAll_mk1 (shut_bool Try.underlying4 _),(trodAll_cons_mk (Below.trod laidOut (by kernel_rfl) (of_decide_eq_true (by kernel_rfl)) h0 bel lt0) trodAll_mk0),rfl,bel.frame _,fun h=>by cases h⟩
theorem over:Rows.approxLinearRow.holds Try.pinned (OpenSpec.ofChange Rows.approxLinearSpec):=
 OpenClaim.holds_of_wide 4 Try.f4 rfl rfl rfl rfl rfl rfl rfl ⟨rfl,rfl,rfl,rfl,rfl⟩ rfl rfl rfl rfl rfl (by kernel_rfl) Try.func4 (by kernel_rfl)
  (of_decide_eq_true (by kernel_rfl)) (by unfold Func.isWrapper;first|(rw [if_pos (by decide+kernel)];kernel_rfl)|(rw [if_neg (by decide+kernel)];exact⟨rfl,rfl⟩))
  (fun os started H enc _=>lifted os started H enc)
end Go.Proofs.Ytmfkjilndpchbaa.approxLinear
namespace Go.Proofs.Ytmfkjilndpchbaa
theorem approxLinear_holds:Rows.ApproxLinearSaid:=approxLinear.over
end Go.Proofs.Ytmfkjilndpchbaa
