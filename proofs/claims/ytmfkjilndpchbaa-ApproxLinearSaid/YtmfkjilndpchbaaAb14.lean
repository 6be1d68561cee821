import Derived.Test.YtmfkjilndpchbaaAbI
import Derived.LoopN
import Derived.Maps.RangeRun
namespace Go.Ab
open Go Go.MapKept
open Go.ChangeMaps (setBlock)
section
variable {P : Program} {N : Nat}
variable {ι : Emb} {H : Hp} {w : World} {tm : Tm} {a : Act} {call : CallF}
set_option maxHeartbeats 2000000 in
theorem mapr_ok (hc:CallOk P call){fuel:Nat}{ca cb:Code}{pre:List Oper}{ops0:Array Oper}{m:MapR}(hp:rangePat P N ca cb=some (pre,ops0,m)){Q:Exit→Act→World→Prop}{tm tm':Tm}{H H':Hp}{x:AX}{ι:Emb}{w:World}{a:Act}
 (h:acode call fuel (.seq (.region (pre.map (cOper P N ops0 []))) (.mapr m)) (tm,H)=some (x,(tm',H'))) (s:Sim ι H w) (ht:TR ι N tm a)
 (hq:x= .normal→∀ι' a' w',TR ι' N tm' a'→Sim ι' H' w'→Fr ι H w ι' H' w'→Q .normal a' w'):x= .normal∧(Code.seq ca cb).wp P Q a w:=by
 unfold rangePat at hp;cases hp
end
end Go.Ab
namespace Go.Ab
open Go
def AX.exit':AX→Exit
 | .normal=>.normal
 | .exit id=>.exit id
 | .ret=>.ret
section
variable {P : Program} {call : CallF} {N : Nat}
theorem code_ok (hm:P.follows .mixedOrders=true)(hc:CallOk P call)(hk:KeepC call)(fuel:Nat)(c:Code):∀{Q:Exit→Act→World→Prop} {tm tm':Tm} {H H':Hp} {x:AX} {ι:Emb} {w:World} {a:Act},
 acode call fuel (cCode P N c) (tm,H)=some (x,(tm',H'))→Sim ι H w→TR ι N tm a→
 (∀ι' a' w',TR ι' N tm' a'→Sim ι' H' w'→Fr ι H w ι' H' w'→Q x.exit' a' w')→c.wp P Q a w:=by
 induction c with
 | skip=>
   intro Q tm tm' H H' x ι w a h s ht hq
   simp only [cCode,acode] at h;cases h
   exact wp_skip (hq ι a w ht s (Fr.refl ..))
 | region id ops draw=>
   intro Q tm tm' H H' x ι w a h s ht hq
   cases draw with
   | false=>
     simp only [cCode,acode] at h
     cases hr:aregion call (ops.toList.map (cOper P N ops [])) (tm,H) with
     | none=>rw [hr] at h;cases h
     | some s'=>
       rw [hr] at h;cases h
       exact wp_region_list (eZ hc ops.toList hr s ht hq)
   | true=>
     simp only [cCode] at h
     by_cases hx:x= .normal
     ·subst hx
      exact(iR hm hc hk h s ht fun _=>hq).2
     ·exact absurd (iR (id:=id) (Q:=Q) hm hc hk h s ht fun e=>absurd e hx).1 hx
 | seq c1 c2 ih1 ih2=>
   intro Q tm tm' H H' x ι w a h s ht hq
   simp only [cCode] at h
   split at h
   ·rename_i pre ops0 m hp
    refine(mapr_ok hc hp h s ht fun e=>?_).2
    subst e
    exact hq
   simp only [acode] at h
   cases hr:acode call fuel (cCode P N c1) (tm,H) with
   | none=>rw [hr] at h;cases h
   | some p=>
     obtain⟨y,tm1,H1⟩:=p
     rw [hr] at h
     refine wp_seq (ih1 hr s ht fun ι1 a1 w1 ht1 hs1 hf1=>?_)
     cases y with
     | normal=>
       simp only at h
       exact ih2 h hs1 ht1 fun ι2 a2 w2 ht2 hs2 hf2=>hq ι2 a2 w2 ht2 hs2 (hf1.trans hf2)
     | exit id=>
       simp only at h;cases h
       exact hq ι1 a1 w1 ht1 hs1 hf1
     | ret=>
       simp only at h;cases h
       exact hq ι1 a1 w1 ht1 hs1 hf1
 | cond c x y ihx ihy=>
   intro Q tm tm' H H' z ι w a h s ht hq
   simp only [cCode] at h
   split at h
   ·rename_i ho
    simp only [acode] at h
    have hv:=bn ht ho
    split at h
    ·rename_i t e
     rw [e] at hv
     have hb:=gT hv
     cases t with
     | true=>exact wp_cond_true hb (ihx h s ht hq)
     | false=>exact wp_cond_false hb (ihy h s ht hq)
    ·cases h
   ·simp [acode] at h
 | block id c ih=>
   intro Q tm tm' H H' x ι w a h s ht hq
   simp only [cCode,acode] at h
   cases hr:acode call fuel (cCode P N c) (tm,H) with
   | none=>rw [hr] at h;cases h
   | some p=>
     obtain⟨y,tm1,H1⟩:=p
     rw [hr] at h
     refine wp_block (ih hr s ht fun ι1 a1 w1 ht1 hs1 hf1=>?_)
     cases y with
     | normal=>simp only at h;cases h;exact hq ι1 a1 w1 ht1 hs1 hf1
     | exit j=>
       simp only at h
       by_cases hj:j=id
       ·rw [if_pos hj] at h;cases h
        show Exit.inBlock id Q (.exit j) a1 w1
        simp only [Exit.inBlock,hj,if_true]
        exact hq ι1 a1 w1 ht1 hs1 hf1
       ·rw [if_neg hj] at h;cases h
        show Exit.inBlock id Q (.exit j) a1 w1
        simp only [Exit.inBlock,hj,if_false]
        exact hq ι1 a1 w1 ht1 hs1 hf1
     | ret=>simp only at h;cases h;exact hq ι1 a1 w1 ht1 hs1 hf1
 | loop c ih=>
   intro Q tm tm' H H' x ι w a h s ht hq
   simp only [cCode,acode] at h
   have key:∀n {tm:Tm} {H:Hp} {ι:Emb} {w:World} {a:Act},iter (acode call fuel (cCode P N c)) n (tm,H)=some (x,(tm',H'))→Sim ι H w→TR ι N tm a→
    (∀ι' a' w',TR ι' N tm' a'→Sim ι' H' w'→Fr ι H w ι' H' w'→Q x.exit' a' w')→Code.rounds P c Q n a w:=by
    intro n
    induction n with
    | zero=>intro tm H ι w a h;simp [iter] at h
    | succ n ihn=>
      intro tm H ι w a h s ht hq
      simp only [iter] at h
      cases hr:acode call fuel (cCode P N c) (tm,H) with
      | none=>rw [hr] at h;cases h
      | some p=>
        obtain⟨y,tm1,H1⟩:=p
        rw [hr] at h
        show c.wp P (Exit.then (Code.rounds P c Q n) Q) a w
        refine ih hr s ht fun ι1 a1 w1 ht1 hs1 hf1=>?_
        cases y with
        | normal=>exact ihn h hs1 ht1 fun ι2 a2 w2 ht2 hs2 hf2=>hq ι2 a2 w2 ht2 hs2 (hf1.trans hf2)
        | exit j=>simp only at h;cases h;exact hq ι1 a1 w1 ht1 hs1 hf1
        | ret=>simp only at h;cases h;exact hq ι1 a1 w1 ht1 hs1 hf1
   exact wp_loop_rounds fuel (key fuel h s ht hq)
 | exit id=>
   intro Q tm tm' H H' x ι w a h s ht hq
   simp only [cCode,acode] at h;cases h
   exact wp_exit (hq ι a w ht s (Fr.refl ..))
 | ret=>
   intro Q tm tm' H H' x ι w a h s ht hq
   simp only [cCode,acode] at h;cases h
   exact wp_ret (hq ι a w ht s (Fr.refl ..))
 | _=>
   intro Q tm tm' H H' x ι w a h s ht hq
   simp [cCode,acode] at h
def resF (tmps:Array Value)(r:ResultVar):Sem Value:=match r with
 | .tmp t=>pure (tmps.getD t undef)
 | .cell b t=>do loadVar t (←asAddr (tmps.getD b undef))
theorem results_resF (fn:Func)(tmps:Array Value):results fn tmps=(do let vs ←fn.results.mapM (resF tmps);pure (if h:vs.size=1 then vs[0] else .tuple vs)):=by
 unfold results
 congr 1
theorem iK {fn:Func}{tm:Tm}{H:Hp}{ι:Emb}{w:World}{a:Act}(s:Sim ι H w)(ht:TR ι N tm a):∀(rv:List ResultVar) (rs:List ARes) (vs:List Value),
 rv.mapM (cRes P)=some rs→rs.mapM (ares tm H)=some vs→
 ∃vs',(rv.mapM (resF a.tmps)).run P w= .ok vs' w∧VRs ι vs vs'
 | [],rs,vs,h1,h2=>by
   simp at h1;subst h1
   simp at h2;subst h2
   exact⟨[],by simp,VRs.nil⟩
 | r::rv,rs,vs,h1,h2=>by
   simp only [List.mapM_cons,Option.bind_eq_bind,Option.pure_def,Option.bind_eq_some_iff] at h1
   obtain⟨x,hx,xs,hxs,h3⟩:=h1
   cases h3
   simp only [List.mapM_cons,Option.bind_eq_bind,Option.pure_def,Option.bind_eq_some_iff] at h2
   obtain⟨v,hv,vs1,hvs,h3⟩:=h2
   cases h3
   obtain⟨vs',hr,hvr⟩:=iK (fn:=fn) s ht rv xs vs1 hxs hvs
   cases r with
   | tmp t=>
     simp only [cRes] at hx;cases hx
     simp only [ares] at hv;cases hv
     exact⟨a.tmps.getD t undef::vs',by simp only [List.mapM_cons,Sem.run_bind,show(resF a.tmps (.tmp t)).run P w= .ok (a.tmps.getD t undef) w from rfl,Sem.run_pure,Result.andThen_ok,hr],VRs.cons (ht.val t) hvr⟩
   | cell b ty=>
     simp only [cRes] at hx
     cases hsz:szT P ty with
     | none=>rw [hsz] at hx;cases hx
     | some q=>
       obtain⟨n,agg⟩:=q
       rw [hsz] at hx;cases hx
       have hl:aop (.load n agg (.tmp b)) tm H=some (v,H):=by
        simp only [ares] at hv
        simp only [aop,ev]
        split at hv
        ·rename_i ad e
         try rw [e]
         try simp only
         split at hv
         ·rename_i hsp;rw [if_pos hsp,hv];rfl
         ·cases hv
        ·cases hv
       obtain⟨nx,ι',w',v',hrun,hnx,_,_,_⟩:=gp (P:=P) s ht hsz (x:=.tmp b) rfl hl
       simp only [ares] at hv
       split at hv
       ·rename_i ad e
        have hx:=ht.val b
        rw [e] at hx
        obtain⟨bl,off,L,rfl,hva,hL⟩:=hx.ptr_inv
        split at hv
        ·obtain⟨i,hi,hin,hagg,h1⟩:=dq hsz
         cases hll:H.load ⟨bl,off,none⟩ n with
         | none=>rw [hll] at hv;cases hv
         | some cs=>
           rw [hll] at hv
           simp only [Option.bind_some] at hv
           obtain⟨cs',hrr,hlen,hcell⟩:=s.load hll hL
           obtain⟨v2,hm',hvv⟩:=VR.of_mkv hrr hv
           refine⟨v2::vs',?_,VRs.cons hvv hvr⟩
           have hrun2:=run_loadCells_list (P:=P) w (L.base.add off) cs' hcell
           rw [hlen] at hrun2
           have hlv:(loadVar ty (L.base.add off)).run P w= .ok v2 w:=by
            unfold loadVar
            rw [Sem.run_bind,hagg,Result.andThen_ok]
            cases agg with
            | true=>
              simp only [mkv,if_true,Option.some.injEq] at hm'
              subst hm'
              simp [sizeOf,typeInfo,hi,hin,hrun2]
            | false=>
              have hn:=h1 rfl
              simp only [mkv,Bool.false_eq_true,if_false] at hm' ⊢
              rw [hn] at hlen
              match cs',hlen,hm',hcell with
              | [u],_,hm',hcell=>
                simp at hm'
                subst hm'
                have:=hcell 0 u rfl
                rw [dd,Nat.add_zero] at this
                simp [this]
           have hrf:(resF a.tmps (.cell b ty)).run P w= .ok v2 w:=by
            simp only [resF,hva,asAddr,Sem.run_bind,Sem.run_pure,Result.andThen_ok,hlv]
           simp only [List.mapM_cons,Sem.run_bind,hrf,Sem.run_pure,Result.andThen_ok,hr]
        ·cases hv
       ·cases hv
theorem fi {fn:Func}{tm:Tm}{H:Hp}{ι:Emb}{w:World}{a:Act}(s:Sim ι H w)(ht:TR ι N tm a){rs:List ARes}{v:Value}
 (h1:fn.results.toList.mapM (cRes P)=some rs) (h2:aresults rs tm H=some v):∃v',(results fn a.tmps).run P w= .ok v' w∧VR ι v v':=by
 unfold aresults at h2
 cases hm:rs.mapM (ares tm H) with
 | none=>rw [hm] at h2;cases h2
 | some vs=>
   rw [hm] at h2
   obtain⟨vs',hr,hvr⟩:=iK (fn:=fn) s ht _ _ _ h1 hm
   have hrun:(fn.results.mapM (resF a.tmps)).run P w= .ok vs'.toArray w:=by
    have:fn.results=fn.results.toList.toArray:=by simp
    rw [this,List.mapM_toArray,Sem.run_map,hr];rfl
   rw [results_resF,Sem.run_bind]
   refine⟨if h:vs'.toArray.size=1 then vs'.toArray[0] else .tuple vs'.toArray,?_,?_⟩
   ·rw [hrun];rfl
   ·match vs,h2 with
    | [],h2=>
      cases h2
      obtain rfl:=hvr.nil_inv
      exact VR.of_tup VRs.nil
    | [u],h2=>
      cases h2
      obtain⟨u',r,rfl,h3,h4⟩:=hvr.cons_inv
      obtain rfl:=h4.nil_inv
      simpa using h3
    | u::u2::r,h2=>
      cases h2
      have hl:=hvr.1
      rw [dif_neg (by rw [List.size_toArray,←hl];simp)]
      exact VR.of_tup hvr
theorem gZ (hm:P.follows .mixedOrders=true){T:FuncId→Option AFunc}(hT:∀f F,T f=some F→∃fn,P.funcs[f]? =some fn∧cFunc P fn=some F):∀n,CallOk P (callF T n)
 | 0=>fun f args H r H' h=>by simp [callF] at h
 | n+1=>fun f args H r H' h=>by
   have ih:=gZ hm hT n
   simp only [callF] at h
   cases hF:T f with
   | none=>rw [hF] at h;cases h
   | some F=>
     rw [hF] at h
     obtain⟨fn,hfn,hcf⟩:=hT f F hF
     unfold cFunc at hcf
     cases hb:fn.body with
     | none=>rw [hb] at hcf;simp at hcf
     | some c=>
       cases hrs:fn.results.toList.mapM (cRes P) with
       | none=>rw [hb,hrs] at hcf;simp at hcf
       | some rs=>
         rw [hb,hrs] at hcf
         simp only at hcf
         split at hcf
         ·cases hcf
         ·rename_i hname
          cases hcf
          refine⟨⟨fn,hfn,by simpa using hname,by simp [hb]⟩,fun ι w vargs s hv=>?_⟩
          simp only at h
          refine calls_of_wp hfn hb ?_
          have ht:TR ι fn.ntmps (initTm args) {tmps:=vargs++Array.replicate (fn.ntmps-vargs.size) undef,defers:=[]}:=by
           refine⟨by simp;omega,rfl,fun t=>?_⟩
           unfold initTm
           rw [Array.getD_eq_getD_getElem?,List.getD_eq_getElem?_getD]
           by_cases hlt:t<args.length
           ·have hlt':t<vargs.size:=by have:=hv.1;simp at this;omega
            obtain⟨v',h1,h2⟩:=hv.get (j:=t) (v:=args[t]) (by simp [hlt])
            rw [Array.getElem?_append_left hlt']
            have h1':vargs[t]? =some v':=by simpa using h1
            rw [h1']
            simpa [hlt] using h2
           ·have hge:vargs.size≤t:=by have:=hv.1;simp at this;omega
            rw [List.getElem?_eq_none (by omega),Array.getElem?_append_right hge]
            have:((Array.replicate (fn.ntmps-vargs.size) undef)[t-vargs.size]?).getD undef=undef:=by
             rw [Array.getElem?_replicate];split<;>rfl
            rw [this]
            exact da ι
          cases hr:acode (callF T n) n (cCode P fn.ntmps c) (initTm args,H) with
          | none=>rw [hr] at h;cases h
          | some p=>
            obtain⟨x,tm1,H1⟩:=p
            rw [hr] at h
            refine code_ok hm ih (de T n) n c hr s ht fun ι' a' w' ht' hs' hf'=>?_
            cases x with
            | exit id=>simp at h
            | normal=>
              simp only at h
              cases ha:aresults rs tm1 H1 with
              | none=>rw [ha] at h;cases h
              | some v=>
                rw [ha] at h;cases h
                obtain⟨v',hrv,hvv⟩:=fi (fn:=fn) hs' ht' hrs ha
                exact⟨ht'.defers,v',hrv,ι',v',rfl,hvv,hs',hf'⟩
            | ret=>
              simp only at h
              cases ha:aresults rs tm1 H1 with
              | none=>rw [ha] at h;cases h
              | some v=>
                rw [ha] at h;cases h
                obtain⟨v',hrv,hvv⟩:=fi (fn:=fn) hs' ht' hrs ha
                exact⟨ht'.defers,v',hrv,ι',v',rfl,hvv,hs',hf'⟩
end
end Go.Ab
namespace Go.Ab
open Go
class Has (T:FuncId→Option AFunc) (i:FuncId) (F:outParam AFunc):Prop where
 eq:T i=some F
def Runs (T:FuncId→Option AFunc)(f:FuncId)(args:List Value)(H:Hp)(r:Value)(H':Hp):Prop:=
 ∃n0,∀n,n0≤n→callF T n f args H=some (r,H')
def CR (T:FuncId→Option AFunc)(c:ACode)(s:St)(x:AX)(s':St):Prop:=
 ∃n0,∀n,n0≤n→acode (callF T n) n c s=some (x,s')
def LR (T:FuncId→Option AFunc)(c:ACode)(s:St)(x:AX)(s':St):Prop:=
 ∃n0,∀n m,n0≤n→n0≤m→iter (acode (callF T n) n c) m s=some (x,s')
def RR (T:FuncId→Option AFunc)(ops:List DOp)(s s':St):Prop:=
 ∃n0,∀n,n0≤n→aregion (callF T n) ops s=some s'
section
variable {T : FuncId → Option AFunc} {s s1 s2 s' : St} {x : AX}
theorem Runs.mk {f:FuncId}{F:AFunc} [h:Has T f F]{args:List Value}{H H':Hp}{r:Value}{x:AX}{tm:Tm}(hc:CR T F.body (initTm args,H) x (tm,H'))(hx:x= .normal∨x= .ret)
 (hr:aresults F.results tm H'=some r):Runs T f args H r H':=by
 obtain⟨n0,hn⟩:=hc
 refine⟨n0+1,fun n hle=>?_⟩
 obtain⟨m,rfl⟩:∃m,n=m+1:=⟨n-1,by omega⟩
 have:=hn m (by omega)
 simp only [callF,h.eq,this]
 rcases hx with rfl|rfl<;>simp [hr]
theorem CR.seq {a b:ACode}(h1:CR T a s .normal s1)(h2:CR T b s1 x s'):CR T (.seq a b) s x s':=by
 obtain⟨n1,h1⟩:=h1
 obtain⟨n2,h2⟩:=h2
 exact⟨max n1 n2,fun n hn=>by simp only [acode,h1 n (by omega)];exact h2 n (by omega)⟩
theorem CR.seq_out {a b:ACode}(h1:CR T a s x s')(hx:x≠ .normal):CR T (.seq a b) s x s':=by
 obtain⟨n1,h1⟩:=h1
 refine⟨n1,fun n hn=>?_⟩
 simp only [acode,h1 n hn]
 cases x<;>first|rfl|exact absurd rfl hx
theorem CR.cond {c:Operand}{a b:ACode}{t:Bool}(hc:ev s.1 c= .bool t)(h:CR T (if t then a else b) s x s'):CR T (.cond c a b) s x s':=by
 obtain⟨n1,h1⟩:=h
 refine⟨n1,fun n hn=>?_⟩
 have:=h1 n hn
 simp only [acode,hc]
 cases t<;>exact this
theorem CR.block {id:Nat}{c:ACode}(h:CR T c s .normal s'):CR T (.block id c) s .normal s':=by
 obtain⟨n1,h1⟩:=h
 exact⟨n1,fun n hn=>by simp only [acode,h1 n hn]⟩
theorem CR.block_exit {id:Nat}{c:ACode}(h:CR T c s (.exit id) s'):CR T (.block id c) s .normal s':=by
 obtain⟨n1,h1⟩:=h
 exact⟨n1,fun n hn=>by simp only [acode,h1 n hn,if_true]⟩
theorem CR.block_out {id j:Nat}{c:ACode}(h:CR T c s (.exit j) s')(hj:j≠id):CR T (.block id c) s (.exit j) s':=by
 obtain⟨n1,h1⟩:=h
 exact⟨n1,fun n hn=>by simp only [acode,h1 n hn,if_neg hj]⟩
theorem CR.block_ret {id:Nat}{c:ACode}(h:CR T c s .ret s'):CR T (.block id c) s .ret s':=by
 obtain⟨n1,h1⟩:=h
 exact⟨n1,fun n hn=>by simp only [acode,h1 n hn]⟩
theorem CR.loop {c:ACode}(h:LR T c s x s'):CR T (.loop c) s x s':=by
 obtain⟨n1,h1⟩:=h
 exact⟨n1,fun n hn=>by simp only [acode];exact h1 n n hn hn⟩
theorem LR.step {c:ACode}(h1:CR T c s .normal s1)(h2:LR T c s1 x s'):LR T c s x s':=by
 obtain⟨n1,h1⟩:=h1
 obtain⟨n2,h2⟩:=h2
 refine⟨max n1 n2+1,fun n m hn hm=>?_⟩
 obtain⟨k,rfl⟩:∃k,m=k+1:=⟨m-1,by omega⟩
 simp only [iter,h1 n (by omega)]
 exact h2 n k (by omega) (by omega)
theorem LR.out {c:ACode}(h1:CR T c s x s')(hx:x≠ .normal):LR T c s x s':=by
 obtain⟨n1,h1⟩:=h1
 refine⟨n1+1,fun n m hn hm=>?_⟩
 obtain⟨k,rfl⟩:∃k,m=k+1:=⟨m-1,by omega⟩
 simp only [iter,h1 n (by omega)]
 cases x<;>first|rfl|exact absurd rfl hx
theorem CR.skip:CR T .skip s .normal s:=⟨0,fun n _=>rfl⟩
theorem CR.mapr {m:MapR}{tm tm':Tm}{H H':Hp}(h:amapr m tm H=some (tm',H')):CR T (.mapr m) (tm,H) .normal (tm',H'):=⟨0,fun n _=>by simp only [acode,h];rfl⟩
theorem CR.exit {id:Nat}:CR T (.exit id) s (.exit id) s:=⟨0,fun n _=>rfl⟩
theorem CR.ret:CR T .ret s .ret s:=⟨0,fun n _=>rfl⟩
theorem CR.region {ops:List DOp}(h:RR T ops s s'):CR T (.region ops) s .normal s':=by
 obtain⟨n1,h1⟩:=h
 exact⟨n1,fun n hn=>by simp only [acode,h1 n hn];rfl⟩
theorem CR.drawn {ops:List DOp}{pairs:List (Nat×Nat)}(h:∃n0,∀n,n0≤n→adraw (callF T n) ops pairs s=some s'):CR T (.draw ops pairs) s .normal s':=by
 obtain⟨n1,h1⟩:=h
 exact⟨n1,fun n hn=>by simp only [acode,h1 n hn];rfl⟩
theorem RR.nil:RR T [] s s:=⟨0,fun n _=>rfl⟩
end
theorem Runs.calls {P:Program}(hm:P.follows .mixedOrders=true){T:FuncId→Option AFunc}(hT:∀f F,T f=some F→∃fn,P.funcs[f]? =some fn∧cFunc P fn=some F){f:FuncId}{args:List Value}{H H':Hp}{r:Value}
 (h:Runs T f args H r H') {ι:Emb} {w:World} {vargs:Array Value} (s:Sim ι H w) (hv:VRs ι args vargs.toList):
 Calls P f vargs w (fun e w'=>∃ι' v,e= .returned v∧VR ι' r v∧Sim ι' H' w'∧Fr ι H w ι' H' w'):=by
 obtain⟨n,hn⟩:=h
 exact(gZ hm hT n f args H r H' (hn n (Nat.le_refl _))).2 ι w vargs s hv
end Go.Ab
