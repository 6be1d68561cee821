import Derived.Test.YtmfkjilndpchbaaAb14
import Derived.IntWalk
namespace Go.Ab
open Go
inductive Fk where
 | code (c:ACode)
 | ops (l:List DOp)
 | endb (id:Nat)
 | dops (base m:Nat) (all:List DOp) (pairs:List (Nat×Nat)) (i:Nat) (tr:List St) (l:List DOp)
def Arun (T:FuncId→Option AFunc)(o:AOp)(tm:Tm)(H:Hp)(v:Value)(H1:Hp):Prop:=∃n0,∀n,n0≤n→arun (callF T n) o tm H=some (v,H1)
def Dstep (T:FuncId→Option AFunc)(base m i:Nat)(o:DOp)(tm:Tm)(H:Hp)(v:Value)(H1:Hp):Prop:=∃n0,∀n,n0≤n→dstep (callF T n) base m i o (tm,H)=some (v,H1)
inductive R (T:FuncId→Option AFunc)(Q:AX→Tm→Hp→Prop):List Fk→AX→Tm→Hp→Prop
 | done {x tm H} (h:Q x tm H):R T Q [] x tm H
 | skip {K tm H} (h:R T Q K .normal tm H):R T Q (.code .skip::K) .normal tm H
 | mapr {m K tm H tm' H'} (hm:amapr m tm H=some (tm',H')) (h:R T Q K .normal tm' H'):R T Q (.code (.mapr m)::K) .normal tm H
 | seq {a b K tm H} (h:R T Q (.code a:: .code b::K) .normal tm H):R T Q (.code (.seq a b)::K) .normal tm H
 | region {l K tm H} (h:R T Q (.ops l::K) .normal tm H):R T Q (.code (.region l)::K) .normal tm H
 | draw {l p K tm H} (h:R T Q (.dops H.length l.length l p 0 [] l::K) .normal tm (H++List.replicate l.length .dead)):R T Q (.code (.draw l p)::K) .normal tm H
 | cond {c a b K tm H} (t:Bool) (hc:ev tm c= .bool t) (h:R T Q (.code (if t then a else b)::K) .normal tm H):R T Q (.code (.cond c a b)::K) .normal tm H
 | block {id c K tm H} (h:R T Q (.code c:: .endb id::K) .normal tm H):R T Q (.code (.block id c)::K) .normal tm H
 | loop {c K tm H} (h:R T Q (.code c:: .code (.loop c)::K) .normal tm H):R T Q (.code (.loop c)::K) .normal tm H
 | exit {id K tm H} (h:R T Q K (.exit id) tm H):R T Q (.code (.exit id)::K) .normal tm H
 | ret {K tm H} (h:R T Q K .ret tm H):R T Q (.code .ret::K) .normal tm H
 | past {x k K tm H} (hx:x≠ .normal) (hk:∀id,k≠ .endb id) (h:R T Q K x tm H):R T Q (k::K) x tm H
 | endn {id K tm H} (h:R T Q K .normal tm H):R T Q (.endb id::K) .normal tm H
 | here {id K tm H} (h:R T Q K .normal tm H):R T Q (.endb id::K) (.exit id) tm H
 | far {x id K tm H} (hx:x≠ .normal) (hi:x≠ .exit id) (h:R T Q K x tm H):R T Q (.endb id::K) x tm H
 | nil {K tm H} (h:R T Q K .normal tm H):R T Q (.ops []::K) .normal tm H
 | op {dst o g sl l K tm H v H1} (hg:want tm g=true) (ho:Arun T o tm H v H1) (h:R T Q (.ops l::K) .normal (put tm dst v) H1):R T Q (.ops (⟨dst,o,g,sl⟩::l)::K) .normal tm H
 | nop {dst o g sl l K tm H} (hg:want tm g=false) (h:R T Q (.ops l::K) .normal (put tm dst undef) H):R T Q (.ops (⟨dst,o,g,sl⟩::l)::K) .normal tm H
 | dop {base m all p i tr o l K tm H v H1} (ho:Dstep T base m i o tm H v H1) (h:R T Q (.dops base m all p (i+1) (tr++ [(tm,H)]) l::K) .normal (put tm o.dst v) H1):
  R T Q (.dops base m all p i tr (o::l)::K) .normal tm H
 | dnil {base m all p i tr K tm H} (hp:p.all (dcheck all (tr++ [(tm,H)]))=true) (h:R T Q K .normal tm H):R T Q (.dops base m all p i tr []::K) .normal tm H
def CS (T:FuncId→Option AFunc)(c:ACode)(s:St)(x:AX)(s':St):Prop:=match c with | .loop c=>LR T c s x s'|c=>CR T c s x s'
theorem CS.cr {T:FuncId→Option AFunc}{c:ACode}{s s':St}{x:AX}(h:CS T c s x s'):CR T c s x s':=by
 cases c<;>first|exact CR.loop h|exact h
def Ks (T:FuncId→Option AFunc):List Fk→AX→St→AX→St→Prop
 | [],x,s,x',s'=>x'=x∧s'=s
 | .code c::K,x,s,x',s'=>if x= .normal then ∃x1 s1,CS T c s x1 s1∧Ks T K x1 s1 x' s' else Ks T K x s x' s'
 | .ops l::K,x,s,x',s'=>if x= .normal then ∃s1,RR T l s s1∧Ks T K .normal s1 x' s' else Ks T K x s x' s'
 | .endb id::K,x,s,x',s'=>Ks T K (if x= .exit id then .normal else x) s x' s'
 | .dops base m all p i tr l::K,x,s,x',s'=>
   if x= .normal then ∃tr' s1,(∃n0,∀n,n0≤n→dtrace (callF T n) base m l i s=some tr')∧p.all (dcheck all (tr++tr'))=true∧tr'.getLast? =some s1∧Ks T K .normal s1 x' s' else Ks T K x s x' s'
theorem Ks.past {T:FuncId→Option AFunc}{k:Fk}{K:List Fk}{x x':AX}{s s':St}(hx:x≠ .normal)(hk:∀id,k≠ .endb id)(h:Ks T K x s x' s'):Ks T (k::K) x s x' s':=by
 cases k with
 | endb id=>exact absurd rfl (hk id)
 | code c=>simpa [Ks,hx] using h
 | ops l=>simpa [Ks,hx] using h
 | dops base m all p i tr l=>simpa [Ks,hx] using h
theorem dtrace_ne {call:CallF}{base m:Nat}:∀{l:List DOp} {i:Nat} {s:St} {tr:List St},dtrace call base m l i s=some tr→tr≠ []
 | [],i,s,tr,h=>by simp [dtrace] at h;simp [←h]
 | o::l,i,s,tr,h=>by
   simp only [dtrace] at h
   split at h
   ·cases hd:dtrace call base m l (i+1) (put s.1 o.dst _,_) with
    | none=>rw [hd] at h;cases h
    | some q=>rw [hd] at h;cases h;simp
   ·cases h
theorem R.sound {T:FuncId→Option AFunc}{Q:AX→Tm→Hp→Prop}{K:List Fk}{x:AX}{tm:Tm}{H:Hp}(h:R T Q K x tm H):∃x' tm' H',Ks T K x (tm,H) x' (tm',H')∧Q x' tm' H':=by
 induction h with
 | done h=>exact⟨_,_,_,⟨rfl,rfl⟩,h⟩
 | skip h ih=>obtain⟨x',t,H',hk,hq⟩:=ih;exact⟨x',t,H',by simp only [Ks,if_true];exact⟨_,_,CR.skip,hk⟩,hq⟩
 | mapr hm h ih=>obtain⟨x',t,H',hk,hq⟩:=ih;exact⟨x',t,H',by simp only [Ks,if_true];exact⟨_,_,CR.mapr hm,hk⟩,hq⟩
 | seq h ih=>
   obtain⟨x',t,H',hk,hq⟩:=ih
   refine⟨x',t,H',?_,hq⟩
   simp only [Ks,if_true] at hk ⊢
   obtain⟨x1,s1,h1,h2⟩:=hk
   by_cases hx:x1= .normal
   ·subst hx
    rw [if_pos rfl] at h2
    obtain⟨x2,s2,h2,h3⟩:=h2
    exact⟨x2,s2,h1.cr.seq h2.cr,h3⟩
   ·rw [if_neg hx] at h2
    exact⟨x1,s1,h1.cr.seq_out hx,h2⟩
 | region h ih=>
   obtain⟨x',t,H',hk,hq⟩:=ih
   simp only [Ks,if_true] at hk
   obtain⟨s1,h1,h2⟩:=hk
   exact⟨x',t,H',by simp only [Ks,if_true];exact⟨_,_,CR.region h1,h2⟩,hq⟩
 | @draw l p K tm H h ih=>
   obtain⟨x',t,H',hk,hq⟩:=ih
   simp only [Ks,if_true,List.nil_append] at hk
   obtain⟨tr',s1,⟨n0,hn⟩,hp,hl,h2⟩:=hk
   refine⟨x',t,H',?_,hq⟩
   simp only [Ks,if_true]
   refine⟨_,s1,CR.drawn ⟨n0,fun n hle=>?_⟩,h2⟩
   simp only [adraw,hn n hle,hp,if_true,hl]
 | cond t hc h ih=>
   obtain⟨x',t',H',hk,hq⟩:=ih
   simp only [Ks,if_true] at hk
   obtain⟨x1,s1,h1,h2⟩:=hk
   exact⟨x',t',H',by simp only [Ks,if_true];exact⟨_,_,CR.cond hc h1.cr,h2⟩,hq⟩
 | block h ih=>
   obtain⟨x',t',H',hk,hq⟩:=ih
   simp only [Ks,if_true] at hk
   obtain⟨x1,s1,h1,h2⟩:=hk
   refine⟨x',t',H',?_,hq⟩
   simp only [Ks,if_true]
   rename_i id _ _ _ _
   cases x1 with
   | normal=>exact⟨_,_,CR.block h1.cr,by simpa using h2⟩
   | ret=>exact⟨_,_,CR.block_ret h1.cr,by simpa using h2⟩
   | exit j=>
     by_cases hj:j=id
     ·subst hj;exact⟨_,_,CR.block_exit h1.cr,by simpa using h2⟩
     ·refine⟨_,_,CR.block_out h1.cr hj,?_⟩
      rwa [if_neg (by simpa using hj)] at h2
 | @loop c K tm H h ih=>
   obtain⟨x',t',H',hk,hq⟩:=ih
   simp only [Ks,if_true] at hk
   obtain⟨x1,s1,h1,h2⟩:=hk
   refine⟨x',t',H',?_,hq⟩
   simp only [Ks,if_true]
   by_cases hx:x1= .normal
   ·subst hx
    rw [if_pos rfl] at h2
    obtain⟨x2,s2,h2,h3⟩:=h2
    exact⟨x2,s2,LR.step h1.cr h2,h3⟩
   ·rw [if_neg hx] at h2
    exact⟨x1,s1,LR.out h1.cr hx,h2⟩
 | exit h ih=>obtain⟨x',t,H',hk,hq⟩:=ih;exact⟨x',t,H',by simp only [Ks,if_true];exact⟨_,_,CR.exit,hk⟩,hq⟩
 | ret h ih=>obtain⟨x',t,H',hk,hq⟩:=ih;exact⟨x',t,H',by simp only [Ks,if_true];exact⟨_,_,CR.ret,hk⟩,hq⟩
 | past hx hk h ih=>obtain⟨x',t,H',h',hq⟩:=ih;exact⟨x',t,H',Ks.past hx hk h',hq⟩
 | endn h ih=>obtain⟨x',t,H',h',hq⟩:=ih;exact⟨x',t,H',by simpa [Ks] using h',hq⟩
 | here h ih=>obtain⟨x',t,H',h',hq⟩:=ih;exact⟨x',t,H',by simpa [Ks] using h',hq⟩
 | far hx hi h ih=>obtain⟨x',t,H',h',hq⟩:=ih;exact⟨x',t,H',by simpa [Ks,hi] using h',hq⟩
 | nil h ih=>obtain⟨x',t,H',h',hq⟩:=ih;exact⟨x',t,H',by simp only [Ks,if_true];exact⟨_,RR.nil,h'⟩,hq⟩
 | op hg ho h ih=>
   obtain⟨x',t,H',h',hq⟩:=ih
   simp only [Ks,if_true] at h'
   obtain⟨s1,⟨n1,h1⟩,h2⟩:=h'
   obtain⟨n2,ho⟩:=ho
   refine⟨x',t,H',?_,hq⟩
   simp only [Ks,if_true]
   refine⟨s1,⟨max n1 n2,fun n hn=>?_⟩,h2⟩
   simp only [aregion,hg,if_true,ho n (by omega)]
   exact h1 n (by omega)
 | nop hg h ih=>
   obtain⟨x',t,H',h',hq⟩:=ih
   simp only [Ks,if_true] at h'
   obtain⟨s1,⟨n1,h1⟩,h2⟩:=h'
   refine⟨x',t,H',?_,hq⟩
   simp only [Ks,if_true]
   refine⟨s1,⟨n1,fun n hn=>?_⟩,h2⟩
   simp only [aregion,hg]
   exact h1 n (by omega)
 | dop ho h ih=>
   obtain⟨x',t,H',h',hq⟩:=ih
   simp only [Ks,if_true] at h'
   obtain⟨tr',s1,⟨n1,h1⟩,hp,hl,h2⟩:=h'
   obtain⟨n2,ho⟩:=ho
   refine⟨x',t,H',?_,hq⟩
   simp only [Ks,if_true]
   refine⟨_::tr',s1,⟨max n1 n2,fun n hn=>?_⟩,by simpa using hp,?_,h2⟩
   ·simp only [dtrace,ho n (by omega),h1 n (by omega)];rfl
   ·have:=dtrace_ne (h1 n1 (Nat.le_refl _))
    cases tr' with
    | nil=>exact absurd rfl this
    | cons a b=>simpa [List.getLast?_cons] using hl
 | dnil hp h ih=>
   obtain⟨x',t,H',h',hq⟩:=ih
   refine⟨x',t,H',?_,hq⟩
   simp only [Ks,if_true]
   exact⟨[_],_,⟨0,fun n _=>rfl⟩,hp,rfl,h'⟩
def G (T:FuncId→Option AFunc)(f:FuncId)(args:List Value)(H:Hp)(Q:Value→Hp→Prop):Prop:=∃r H',Runs T f args H r H'∧Q r H'
theorem G.mk {T:FuncId→Option AFunc}{f:FuncId}{F:AFunc} [hf:Has T f F]{args:List Value}{H:Hp}{Q:Value→Hp→Prop}
 (h:R T (fun x tm H'=>(x= .normal∨x= .ret)∧∃r,aresults F.results tm H'=some r∧Q r H') [.code F.body] .normal (initTm args) H):G T f args H Q:=by
 obtain⟨x',t,H',hk,hx,r,hr,hq⟩:=h.sound
 simp only [Ks,if_true] at hk
 obtain⟨x1,s1,h1,h2,h3⟩:=hk
 subst h2;subst h3
 exact⟨r,H',Runs.mk h1.cr hx hr,hq⟩
section
variable {T : FuncId → Option AFunc} {Q : AX → Tm → Hp → Prop} {K : List Fk} {tm : Tm} {H : Hp} {l : List DOp} {sl : List Nat}
theorem R_done {x:AX}:R T Q [] x tm H↔Q x tm H:=⟨fun h=>by cases h;assumption,.done⟩
theorem R_skip:R T Q (.code .skip::K) .normal tm H↔R T Q K .normal tm H:=⟨fun h=>by cases h<;>first|assumption|simp_all,.skip⟩
theorem R_seq {a b:ACode}:R T Q (.code (.seq a b)::K) .normal tm H↔R T Q (.code a:: .code b::K) .normal tm H:=⟨fun h=>by cases h<;>first|assumption|simp_all,.seq⟩
theorem R_region:R T Q (.code (.region l)::K) .normal tm H↔R T Q (.ops l::K) .normal tm H:=⟨fun h=>by cases h<;>first|assumption|simp_all,.region⟩
theorem R_draw {p:List (Nat×Nat)}:R T Q (.code (.draw l p)::K) .normal tm H↔R T Q (.dops H.length l.length l p 0 [] l::K) .normal tm (H++List.replicate l.length .dead):=
 ⟨fun h=>by cases h<;>first|assumption|simp_all,.draw⟩
theorem R_block {id:Nat}{c:ACode}:R T Q (.code (.block id c)::K) .normal tm H↔R T Q (.code c:: .endb id::K) .normal tm H:=⟨fun h=>by cases h<;>first|assumption|simp_all,.block⟩
theorem R_exit {id:Nat}:R T Q (.code (.exit id)::K) .normal tm H↔R T Q K (.exit id) tm H:=⟨fun h=>by cases h<;>first|assumption|simp_all,.exit⟩
theorem R_ret:R T Q (.code .ret::K) .normal tm H↔R T Q K .ret tm H:=⟨fun h=>by cases h<;>first|assumption|simp_all,.ret⟩
theorem R_nil:R T Q (.ops []::K) .normal tm H↔R T Q K .normal tm H:=⟨fun h=>by cases h<;>first|assumption|simp_all,.nil⟩
theorem R_endn {id:Nat}:R T Q (.endb id::K) .normal tm H↔R T Q K .normal tm H:=⟨fun h=>by cases h<;>first|assumption|simp_all,.endn⟩
theorem R_past_ret {c:ACode}:R T Q (.code c::K) .ret tm H↔R T Q K .ret tm H:=⟨fun h=>by cases h;assumption,.past (by simp) (by simp)⟩
theorem R_past_exit {c:ACode}{id:Nat}:R T Q (.code c::K) (.exit id) tm H↔R T Q K (.exit id) tm H:=⟨fun h=>by cases h;assumption,.past (by simp) (by simp)⟩
theorem R_end_ret {id:Nat}:R T Q (.endb id::K) .ret tm H↔R T Q K .ret tm H:=⟨fun h=>by cases h<;>first|assumption|simp_all,.far (by simp) (by simp)⟩
theorem R_end_exit {id j:Nat}:R T Q (.endb id::K) (.exit j) tm H↔if j=id then R T Q K .normal tm H else R T Q K (.exit j) tm H:=by
 by_cases h:j=id
 ·subst h;rw [if_pos rfl];exact⟨fun h=>by cases h<;>first|assumption|simp_all,.here⟩
 ·rw [if_neg h];exact⟨fun h=>by cases h<;>first|assumption|simp_all,.far (by simp) (by simpa using h)⟩
def Br (T:FuncId→Option AFunc)(Q:AX→Tm→Hp→Prop)(v:Value)(a b:ACode)(K:List Fk)(tm:Tm)(H:Hp):Prop:=∃t,v= .bool t∧R T Q (.code (if t then a else b)::K) .normal tm H
theorem R_cond {c:Operand}{a b:ACode}:R T Q (.code (.cond c a b)::K) .normal tm H↔Br T Q (ev tm c) a b K tm H:=
 ⟨fun h=>by cases h with|cond t hc h=>exact⟨t,hc,h⟩|past hx hk h=>exact absurd rfl hx,fun⟨t,hc,h⟩=>.cond t hc h⟩
theorem Br_true {a b:ACode}:Br T Q (.bool true) a b K tm H↔R T Q (.code a::K) .normal tm H:=⟨fun⟨t,h,k⟩=>by cases h;exact k,fun h=>⟨true,rfl,h⟩⟩
theorem Br_false {a b:ACode}:Br T Q (.bool false) a b K tm H↔R T Q (.code b::K) .normal tm H:=⟨fun⟨t,h,k⟩=>by cases h;exact k,fun h=>⟨false,rfl,h⟩⟩
def Nx (T:FuncId→Option AFunc)(Q:AX→Tm→Hp→Prop)(r:Option (Value×Hp))(dst:Option Nat)(l:List DOp)(K:List Fk)(tm:Tm):Prop:=
 ∃v H1,r=some (v,H1)∧R T Q (.ops l::K) .normal (put tm dst v) H1
theorem gB {v:Value}{H1:Hp}{dst:Option Nat}:Nx T Q (some (v,H1)) dst l K tm↔R T Q (.ops l::K) .normal (put tm dst v) H1:=⟨fun⟨_,_,h,k⟩=>by cases h;exact k,fun h=>⟨_,_,rfl,h⟩⟩
def calls:AOp→Bool
 | .call .. | .callv .. =>true
 | _=>false
theorem dp {o:AOp}(h:calls o=false)(call:CallF):arun call o tm H=aop o tm H:=by cases o<;>first|rfl|cases h
theorem kn {o:AOp}{dst:Option Nat}(hc:calls o=false):R T Q (.ops (⟨dst,o,none,sl⟩::l)::K) .normal tm H↔Nx T Q (aop o tm H) dst l K tm:=
 ⟨fun h=>by
   cases h with
   | op hg ho h=>obtain⟨n,hn⟩:=ho;exact⟨_,_,(dp hc _).symm.trans (hn n (Nat.le_refl _)),h⟩
   | nop hg h=>cases hg
   | past hx hk h=>exact absurd rfl hx,fun⟨v,H1,hv,h⟩=>.op rfl ⟨0,fun n _=>(dp hc _).trans hv⟩ h⟩
theorem R_call {f:FuncId}{xs:List Operand}{dst:Option Nat}{P:Value→Hp→Prop}{args:List Value}(ha:xs.map (ev tm)=args)(hc:G T f args H P)(h:∀v H1,P v H1→R T Q (.ops l::K) .normal (put tm dst v) H1):
 R T Q (.ops (⟨dst,.call f xs,none,sl⟩::l)::K) .normal tm H:=by
 subst ha
 obtain⟨r,H',⟨n,hn⟩,hp⟩:=hc
 exact .op rfl ⟨n,fun m hm=>hn m hm⟩ (h r H' hp)
theorem R_callv {x:Operand}{f:FuncId}{caps first:Array Value}{xs:List Operand}{dst:Option Nat}{g:Option (Nat×Bool)}{P:Value→Hp→Prop}{args:List Value}(hx:ev tm x= .func (.func f) first caps)
 (ha:xs.map (ev tm)++caps.toList=args) (hg:want tm g=true) (hc:G T f args H P) (h:∀v H1,P v H1→R T Q (.ops l::K) .normal (put tm dst v) H1):R T Q (.ops (⟨dst,.callv x xs,g,sl⟩::l)::K) .normal tm H:=by
 subst ha
 obtain⟨r,H',⟨n,hn⟩,hp⟩:=hc
 exact .op hg ⟨n,fun m hm=>by simp only [arun,hx];exact hn m hm⟩ (h r H' hp)
section
variable {base m i : Nat} {all : List DOp} {p : List (Nat × Nat)} {tr : List St}
def Dx (T:FuncId→Option AFunc)(Q:AX→Tm→Hp→Prop)(r:Option (Value×Hp))(base m:Nat)(all:List DOp)(p:List (Nat×Nat))(i:Nat)(tr:List St)(dst:Option Nat)(l:List DOp)(K:List Fk)(tm:Tm):Prop:=
 ∃v H1,r=some (v,H1)∧R T Q (.dops base m all p i tr l::K) .normal (put tm dst v) H1
theorem eo {v:Value}{H1:Hp}{dst:Option Nat}:Dx T Q (some (v,H1)) base m all p i tr dst l K tm↔R T Q (.dops base m all p i tr l::K) .normal (put tm dst v) H1:=
 ⟨fun⟨_,_,h,k⟩=>by cases h;exact k,fun h=>⟨_,_,rfl,h⟩⟩
theorem fG {o:DOp}(h:calls o.op=false)(call:CallF)(s:St):dstep call base m i o s=dstep (fun _ _ _=>none) base m i o s:=by
 unfold dstep
 split
 ·split<;>first|rfl|(rw [dp h,dp h])
 ·rfl
theorem iH {o:DOp}(hc:calls o.op=false):R T Q (.dops base m all p i tr (o::l)::K) .normal tm H↔Dx T Q (dstep (fun _ _ _=>none) base m i o (tm,H)) base m all p (i+1) (tr++ [(tm,H)]) o.dst l K tm:=
 ⟨fun h=>by
   cases h with
   | dop ho h=>obtain⟨n,hn⟩:=ho;exact⟨_,_,(fG hc _ _).symm.trans (hn n (Nat.le_refl _)),h⟩
   | past hx hk h=>exact absurd rfl hx,fun⟨v,H1,hv,h⟩=>.dop ⟨0,fun n _=>(fG hc _ _).trans hv⟩ h⟩
theorem jr:R T Q (.dops base m all p i tr []::K) .normal tm H↔(p.all (dcheck all (tr++ [(tm,H)]))=true∧R T Q K .normal tm H):=
 ⟨fun h=>by
   cases h with
   | dnil hp h=>exact⟨hp,h⟩
   | past hx hk h=>exact absurd rfl hx,fun h=>.dnil h.1 h.2⟩
theorem R_dcall {f:FuncId}{xs:List Operand}{dst:Option Nat}{g:Option (Nat×Bool)}{P:Value→Hp→Prop}{args:List Value}(ha:xs.map (ev tm)=args)(hg:want tm g=true)(hc:G T f args H P)
 (h:∀v H1,P v H1→R T Q (.dops base m all p (i+1) (tr++ [(tm,H)]) l::K) .normal (put tm dst v) H1):R T Q (.dops base m all p i tr (⟨dst,.call f xs,g,sl⟩::l)::K) .normal tm H:=by
 subst ha
 obtain⟨r,H',⟨n,hn⟩,hp⟩:=hc
 exact .dop ⟨n,fun k hk=>by simp only [dstep,hg,if_true,kindOf,arun];exact hn k hk⟩ (h r H' hp)
end
end
end Go.Ab
namespace Go.Ab
open Go
def vbin (o:BinOp):Value→Value→Option Value
 | .int k a,.int k' b=>ibin o k a k' b
 | _,_=>none
def veq (neg:Bool)(k:EqK)(x y:Value):Option Value:=match x,y with
 | .int k a,.int k' b=>ibin (if neg then .neq else .eql) k a k' b
 | u,v=>(aEq k u v).map fun b=>.bool (if neg then !b else b)
def vpick (c a b:Value):Option Value:=match c with
 | .bool t=>some (if t then a else b)
 | _=>none
def vun (o:UnOp)(x:Value):Option Value:=match o,x with
 | .neg,.int k n=>some (.int k (k.wrap (0-n)))
 | .not,.bool b=>some (.bool !b)
 | _,_=>none
def vbuild (z:List Value)(ps:List (Nat×Nat×Value)):Option Value:=(bfill z ps).map fun cs=>.agg cs.toArray
def vext (i:Nat):Value→Option Value
 | .tuple vs=>vs[i]?
 | _=>none
def vnilchk:Value→Option Value
 | .pointer (some a)=>some (.pointer (some a))
 | .func (.func f) a b=>some (.func (.func f) a b)
 | _=>none
def vfaddr (off:Nat):Value→Option Value
 | .pointer (some a)=>some (.pointer (some ⟨a.block,a.off+off,none⟩))
 | _=>none
def vidxs (sz:Nat):Value→Value→Option Value
 | .slice (some a) n _,.int _ j=>if 0≤j∧j<n then some (.pointer (some ⟨a.block,a.off+j.toNat*sz,none⟩)) else none
 | _,_=>none
def vlen:Value→Option Value
 | .slice _ n _=>some (.int .i64 n)
 | _=>none
def vload (H:Hp)(n:Nat)(b:Bool):Value→Option Value
 | .pointer (some a)=>if a.spot.isNone then(H.load a n).bind (mkv b) else none
 | _=>none
def hstore (n:Nat)(a x:Value)(H:Hp):Option Hp:=match a with
 | .pointer (some a)=>match H[a.block]? with
   | some (.rw s vs)=>if x.cells.size=n∧x.cells.toList.all Value.oneCell'∧a.off+n≤vs.length then some (H.set a.block (.rw s (splice vs a.off x.cells.toList))) else none
   | _=>none
 | _=>none
def hmks (sz bytes:Nat)(z:List Value)(l c:Value)(k:Nat):Option (Value×Blk):=match l,c with
 | .int _ l,.int _ c=>
   if 0≤l∧l≤c∧(bytes:Int)*c≤281474976710656∧c≤9223372036854775807 then
    some (.slice (some ⟨k,0,none⟩) l.toNat l.toNat,.rw sz (madeCells z.toArray (l.toNat*sz)).toList)
   else none
 | _,_=>none
def hbs (sz len:Nat)(z:List Value)(ps:List (Nat×Nat×Value))(k:Nat):Option (Value×Blk):=(bfill z ps).map fun cs=>(.slice (some ⟨k,0,none⟩) len len,.rw sz cs)
section
variable {T : FuncId → Option AFunc} {Q : AX → Tm → Hp → Prop} {K : List Fk} {tm : Tm} {H : Hp} {l : List DOp} {sl : List Nat} {dst : Option Nat} {g : Option (Nat × Bool)} {base m i : Nat} {all : List DOp} {p : List (Nat × Nat)} {tr : List St}
@[simp] theorem ev_tmp (t : Nat) : ev tm (.tmp t) = tm t := rfl
@[simp] theorem ev_const (v : Value) : ev tm (.const v) = v := rfl
@[simp] theorem ev_func (f : FuncId) : ev tm (.func f) = .func (.func f) #[] #[] := rfl
@[simp] theorem cu (t : Nat) (v : Value) : put tm (some t) v = upd tm t v := rfl
@[simp] theorem ir (v : Value) : put tm none v = tm := rfl
@[simp] theorem upd_app (t u : Nat) (v : Value) : upd tm t v u = if u = t then v else tm u := rfl
@[simp] theorem initTm_app (args : List Value) (t : Nat) : initTm args t = args.getD t undef := rfl
theorem jY {o:BinOp}{x y:Operand}:aop (.bin o x y) tm H=(vbin o (ev tm x) (ev tm y)).map (·,H):=by simp only [aop,vbin];split<;>simp_all
theorem km {n:Bool}{k:EqK}{x y:Operand}:aop (.eq n k x y) tm H=(veq n k (ev tm x) (ev tm y)).map (·,H):=by simp only [aop,veq];split<;>simp_all [Function.comp_def]
theorem iF {z:List Value}{ps:List (Nat×Nat×Operand)}:aop (.build z ps) tm H=(vbuild z (ps.map fun p=>(p.1,p.2.1,ev tm p.2.2))).map (·,H):=by simp only [aop,vbuild];cases bfill z (ps.map fun p=>(p.1,p.2.1,ev tm p.2.2))<;>rfl
theorem iG {o:Nat}{x:Operand}:aop (.faddr o x) tm H=(vfaddr o (ev tm x)).map (·,H):=by simp only [aop,vfaddr];split<;>simp_all
theorem iy {s:Nat}{x j:Operand}:aop (.idxs s x j) tm H=(vidxs s (ev tm x) (ev tm j)).map (·,H):=by simp only [aop,vidxs];split<;>simp_all<;>(split<;>rfl)
theorem jZ {x:Operand}:aop (.len x) tm H=(vlen (ev tm x)).map (·,H):=by simp only [aop,vlen];split<;>simp_all
theorem cE {n:Nat}{b:Bool}{x:Operand}:aop (.load n b x) tm H=(vload H n b (ev tm x)).map (·,H):=by simp only [aop,vload];split<;>simp_all<;>(split<;>simp [Option.map_bind])
theorem cS {n:Nat}{a x:Operand}:aop (.store n a x) tm H=(hstore n (ev tm a) (ev tm x) H).map (undef,·):=by simp only [aop,hstore];split<;>simp_all<;>(split<;>simp_all<;>(split<;>rfl))
theorem A_alloc {z:List Value}:aop (.alloc z) tm H=(some (.pointer (some ⟨H.length,0,none⟩),.rw 0 z)).map fun p=>(p.1,H++ [p.2]):=rfl
theorem A_box {x:Operand}:aop (.box x) tm H=(some (.pointer (some ⟨H.length,0,none⟩),.rw 0 (ev tm x).cells.toList)).map fun p=>(p.1,H++ [p.2]):=rfl
theorem gc {s b:Nat}{z:List Value}{n c:Operand}:aop (.mkslice s b z n c) tm H=(hmks s b z (ev tm n) (ev tm c) H.length).map fun p=>(p.1,H++ [p.2]):=by simp only [aop,anew,hmks];split<;>simp_all
theorem fv {s n:Nat}{z:List Value}{ps:List (Nat×Nat×Operand)}:aop (.bslice s n z ps) tm H=(hbs s n z (ps.map fun p=>(p.1,p.2.1,ev tm p.2.2)) H.length).map fun p=>(p.1,H++ [p.2]):=rfl
theorem dG {s b:Nat}{x y:Operand}:aop (.append s b x y) tm H=aappend s b (ev tm x) (ev tm y) H:=rfl
@[simp] theorem want_some (t : Nat) (b c : Bool) (h : tm t = .bool c) : want tm (some (t, b)) = (c == b) := by simp only [want, h]
end
end Go.Ab
namespace Go.Ab
open Go
attribute [simp] R_done R_skip R_seq R_region R_block R_exit R_ret R_nil R_endn R_past_ret R_past_exit R_end_ret R_end_exit R_cond Br_true Br_false gB eo jr
abbrev vi (n:Int):Value:=.int .i64 n
section
variable (a b : Int)
@[simp] theorem V_add : vbin .add (vi a) (vi b) = some (vi (IntKind.i64.wrap (a + b))) := rfl
@[simp] theorem V_sub : vbin .sub (vi a) (vi b) = some (vi (IntKind.i64.wrap (a - b))) := rfl
@[simp] theorem V_mul : vbin .mul (vi a) (vi b) = some (vi (IntKind.i64.wrap (a * b))) := rfl
@[simp] theorem V_rem : vbin .rem (vi a) (vi b) = if b = 0 then none else some (vi (a.tmod b)) := rfl
@[simp] theorem V_quo : vbin .quo (vi a) (vi b) = if b = 0 then none else some (vi (IntKind.i64.wrap (a.tdiv b))) := rfl
@[simp] theorem V_lss : vbin .lss (vi a) (vi b) = some (.bool (decide (a < b))) := rfl
@[simp] theorem V_leq : vbin .leq (vi a) (vi b) = some (.bool (decide (a ≤ b))) := rfl
@[simp] theorem V_gtr : vbin .gtr (vi a) (vi b) = some (.bool (decide (b < a))) := rfl
@[simp] theorem V_geq : vbin .geq (vi a) (vi b) = some (.bool (decide (b ≤ a))) := rfl
@[simp] theorem V_eql : vbin .eql (vi a) (vi b) = some (.bool (decide (a = b))) := rfl
@[simp] theorem V_neq : vbin .neq (vi a) (vi b) = some (.bool (decide (a ≠ b))) := by
  show some (Value.bool (a !=b))=_
  congr 2
  by_cases h:a=b<;>simp [h,bne]
theorem V_wrap {n:Int}(h1: -9223372036854775808≤n)(h2:n≤9223372036854775807):IntKind.i64.wrap n=n:=by rw [IntKind.wrap_i64];omega
end
@[simp] theorem V_eqb (neg a b : Bool) : veq neg .bool (.bool a) (.bool b) = some (.bool (if neg then !(a == b) else (a == b))) := rfl
@[simp] theorem V_pick (t : Bool) (a b : Value) : vpick (.bool t) a b = some (if t then a else b) := rfl
@[simp] theorem V_not (t : Bool) : vun .not (.bool t) = some (.bool !t) := rfl
@[simp] theorem V_ext (i : Nat) (vs : Array Value) : vext i (.tuple vs) = vs[i]? := rfl
@[simp] theorem V_nilchk (a : Addr) : vnilchk (.pointer (some a)) = some (.pointer (some a)) := rfl
@[simp] theorem iI (off : Nat) (b o : Nat) : vfaddr off (.pointer (some ⟨b, o, none⟩)) = some (.pointer (some ⟨b, o + off, none⟩)) := rfl
@[simp] theorem cz (sz b o n m : Nat) (j : Int) : vidxs sz (.slice (some ⟨b, o, none⟩) n m) (vi j) = if 0 ≤ j ∧ j < n then some (.pointer (some ⟨b, o + j.toNat * sz, none⟩)) else none := rfl
@[simp] theorem V_len (a : Option Addr) (n m : Nat) : vlen (.slice a n m) = some (vi n) := rfl
@[simp] theorem V_load1 (H : Hp) (b o : Nat) : vload H 1 false (.pointer (some ⟨b, o, none⟩)) = (H.cells b).bind fun vs => vs[o]? := by
  simp only [vload,Option.isNone_none,if_true,Hp.load]
  cases H.cells b with
  | none=>rfl
  | some vs=>
    simp only [Option.bind_some]
    by_cases h:o+1≤vs.length
    ·rw [if_pos h]
     have h':o<vs.length:=h
     simp only [Option.bind_some,mkv,List.getElem?_eq_getElem h']
     rw [List.drop_eq_getElem_cons h']
     rfl
    ·rw [if_neg h,List.getElem?_eq_none (by omega)];rfl
theorem V_loadn (H:Hp)(n b o:Nat):vload H n true (.pointer (some ⟨b,o,none⟩))=(H.cells b).bind fun vs=>if o+n≤vs.length then some (.agg ((vs.drop o).take n).toArray) else none:=by
 simp only [vload,Option.isNone_none,if_true,Hp.load]
 cases H.cells b with
 | none=>rfl
 | some vs=>
   simp only [Option.bind_some]
   by_cases h:o+n≤vs.length
   ·rw [if_pos h,if_pos h];rfl
   ·rw [if_neg h,if_neg h];rfl
attribute [simp] V_loadn
@[simp] theorem cells_last (H : Hp) (x : Blk) : Hp.cells (H ++ [x]) H.length = x.cells := by simp [Hp.cells]
theorem cX {H:Hp}{L:List Blk}{b:Nat}(h:b<H.length):(H++L)[b]? =H[b]? :=List.getElem?_append_left h
theorem fM {H:Hp}{x:Blk}{b:Nat}(h:b=H.length):(H++ [x])[b]? =some x:=by subst h;simp
theorem bM {H:Hp}{x:Blk}{b c:Nat}(h:b≠c):(H.set c x)[b]? =H[b]? :=List.getElem?_set_ne (fun e=>h e.symm)
theorem hX {H:Hp}{x:Blk}{b:Nat}(h:b<H.length):(H.set b x)[b]? =some x:=by simp [h]
theorem bC {H:Hp}{b:Nat}{x:Blk}(h:H[b]? =some x):Hp.cells H b=x.cells:=by simp [Hp.cells,h]
@[simp] theorem rw_cells (z : Nat) (vs : List Value) : (Blk.rw z vs).cells = some vs := rfl
@[simp] theorem ro_cells (z : Nat) (vs : List Value) : (Blk.ro z vs).cells = some vs := rfl
@[simp] theorem agg_cells (cs : Array Value) : (Value.agg cs).cells = cs := rfl
@[simp] theorem int_cells (k : IntKind) (n : Int) : (Value.int k n).cells = #[.int k n] := rfl
@[simp] theorem bool_cells (b : Bool) : (Value.bool b).cells = #[.bool b] := rfl
@[simp] theorem slice_cells (a : Option Addr) (n m : Nat) : (Value.slice a n m).cells = #[.slice a n m] := rfl
@[simp] theorem ptr_cells (a : Option Addr) : (Value.pointer a).cells = #[.pointer a] := rfl
@[simp] theorem V_load_res (H : Hp) (tm : Tm) (t n : Nat) (agg : Bool) : ares tm H (.cell t n agg) = vload H n agg (tm t) := by
  simp only [ares,vload];split<;>simp_all
@[simp] theorem ares_tmp (H : Hp) (tm : Tm) (t : Nat) : ares tm H (.tmp t) = some (tm t) := rfl
@[simp] theorem gX (H : Hp) (tm : Tm) (a : ARes) : aresults [a] tm H = ares tm H a := by
  simp only [aresults,List.mapM_cons,List.mapM_nil];cases ares tm H a<;>rfl
@[simp] theorem ares_two (H : Hp) (tm : Tm) (t u : Nat) : aresults [.tmp t, .tmp u] tm H = some (.tuple #[tm t, tm u]) := rfl
@[simp] theorem ares_three (H : Hp) (tm : Tm) (t u w : Nat) : aresults [.tmp t, .tmp u, .tmp w] tm H = some (.tuple #[tm t, tm u, tm w]) := rfl
@[simp] theorem one_int (k : IntKind) (n : Int) : (Value.int k n).oneCell' = true := rfl
@[simp] theorem one_bool (b : Bool) : (Value.bool b).oneCell' = true := rfl
@[simp] theorem one_slice (a : Option Addr) (n m : Nat) : (Value.slice a n m).oneCell' = true := rfl
@[simp] theorem one_ptr (a : Option Addr) : (Value.pointer a).oneCell' = true := rfl
structure Arr (H:Hp)(sz:Nat)(p:Nat→Prop)(v:Value)(cs:List Value):Prop where
 at':(v= .slice none 0 0∧cs= [])∨∃b o n us,v= .slice (some ⟨b,o,none⟩) n n∧H.cells b=some us∧H.esz b=some sz∧o+n*sz≤us.length∧cs=(us.drop o).take (n*sz)∧p b
theorem Arr.nil (H:Hp)(sz:Nat)(p:Nat→Prop):Arr H sz p (.slice none 0 0) []:=⟨.inl ⟨rfl,rfl⟩⟩
end Go.Ab
namespace Go.Ab
open Go
theorem bo {H:Hp}{b:Nat}{x:Blk}(h:H[b]? =some x):b<H.length:=(List.getElem?_eq_some_iff.1 h).1
theorem R_draw' {T:FuncId→Option AFunc}{Q:AX→Tm→Hp→Prop}{K:List Fk}{tm:Tm}{H:Hp}{l:List DOp}{p:List (Nat×Nat)}
 (k:∀Hd:Hp,Hd.length=H.length+l.length→(∀b:Nat,b<H.length→Hd[b]? =H[b]?)→(∀b:Nat,H.length≤b→b<H.length+l.length→Hd[b]? =some .dead)→
   R T Q (.dops H.length l.length l p 0 [] l::K) .normal tm Hd):R T Q (.code (.draw l p)::K) .normal tm H:=by
 rw [R_draw]
 refine k _ (by simp) (fun b hb=>cX hb) (fun b hb hb'=>?_)
 rw [List.getElem?_append_right hb,List.getElem?_replicate,if_pos (by omega)]
section
variable {T : FuncId → Option AFunc} {Q : AX → Tm → Hp → Prop} {K : List Fk} {tm : Tm} {H : Hp} {l : List DOp} {base m i : Nat} {all : List DOp} {p : List (Nat × Nat)} {tr : List St} {dst : Option Nat} {o : AOp} {g : Nat × Bool} {sl : List Nat}
theorem fH (h:want tm (some g)=true)(call:CallF):dstep call base m i ⟨dst,o,some g,sl⟩ (tm,H)=dstep call base m i ⟨dst,o,none,sl⟩ (tm,H):=by
 simp only [dstep,h,if_true]
 rfl
@[simp] theorem R_dwant (h : want tm (some g) = true) : R T Q (.dops base m all p i tr (⟨dst, o, some g, sl⟩ :: l) :: K) .normal tm H ↔ R T Q (.dops base m all p i tr (⟨dst, o, none, sl⟩ :: l) :: K) .normal tm H := by
  constructor
  ·intro k
   cases k with
   | dop ho k=>obtain⟨n,hn⟩:=ho;exact .dop ⟨n,fun q hq=>(fH h _).symm.trans (hn q hq)⟩ k
   | past hx hk k=>exact absurd rfl hx
  ·intro k
   cases k with
   | dop ho k=>obtain⟨n,hn⟩:=ho;exact .dop ⟨n,fun q hq=>(fH h _).trans (hn q hq)⟩ k
   | past hx hk k=>exact absurd rfl hx
theorem js (h:want tm (some g)=false)(k:R T Q (.dops base m all p (i+1) (tr++ [(tm,H)]) l::K) .normal (put tm dst undef) H):R T Q (.dops base m all p i tr (⟨dst,o,some g,sl⟩::l)::K) .normal tm H:=
 .dop ⟨0,fun n _=>by simp only [dstep,h];rfl⟩ k
theorem R_want (h:want tm (some g)=true)(k:R T Q (.ops (⟨dst,o,none,sl⟩::l)::K) .normal tm H):R T Q (.ops (⟨dst,o,some g,sl⟩::l)::K) .normal tm H:=by
 cases k with
 | op hg ho k=>exact .op h ho k
 | nop hg k=>cases hg
 | past hx hk k=>exact absurd rfl hx
end
@[simp] theorem vsame1_int (k : IntKind) (n : Int) : vsame1 (.int k n) (.int k n) = true := by simp [vsame1]
end Go.Ab
