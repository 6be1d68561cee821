import Derived.Test.YtmfkjilndpchbaaAb8c
namespace Go.Ab
open Go
theorem eK {P:Program}{m:Sem Next}{ι:Emb}{H H':Hp}{w:World}{tm:Tm}{o:AOp}{av:Value}(s:Sim ι H w)(h:((anew o tm H.length).map fun p=>(p.1,H++ [p.2]))=some (av,H'))
 (hr:∀v b,anew o tm H.length=some (v,b)→NewR P m ι w H.length v b):Good P m ι H w av H':=by
 cases hn:anew o tm H.length with
 | none=>rw [hn] at h;cases h
 | some p=>rw [hn] at h;cases h;exact(hr p.1 p.2 hn).good s
theorem aB {tm:Tm}{H:Hp}{r:Value×Hp}(h:aop .bad tm H=some r):False:=by simp [aop] at h
set_option maxHeartbeats 1000000 in
theorem builtin_good {P:Program}{ι:Emb}{H H':Hp}{w:World}{N:Nat}{tm:Tm}{a:Act}{av:Value}{o:Oper}{b:Builtin}{args:Array Operand}{tys:Array TypeId}
 (s:Sim ι H w) (ht:TR ι N tm a) (hop:o.op= .call ⟨.builtin b,args,tys⟩) (ho:okL args.toList=true)
 (h:aop (cBuiltin P b tys.toList args.toList) tm H=some (av,H')):Good P (execOp a.eval o) ι H w av H':=by
 have hexec:∀m:Sem Value,builtin b tys o.type (args.map fun | .const _=>true|_=>false) (args.map a.eval)=(do pure (.value (←m)))→Good P (do pure (.value (←m))) ι H w av H'→Good P (execOp a.eval o) ι H w av H':=by
  intro m hm hg
  have:execOp a.eval o=(do pure (.value (←m))):=by
   unfold execOp
   simp only [hop,resolve,pure_bind,invoke]
   exact hm
  rw [this];exact hg
 unfold cBuiltin at h
 split at h
 ·rename_i t x h2 h3
  have ha:args= #[x]:=by apply Array.ext';simpa using h3
  have hty:tys= #[t]:=by apply Array.ext';simpa using h2
  subst ha;subst hty
  simp only [okL,List.all_cons,List.all_nil,Bool.and_true] at ho
  split at h
  ·rename_i hu
   exact hexec _ (by simp [builtin]) (good_len (ty:=o.type) s ht hu ho h)
  ·rename_i hu
   exact hexec _ (by simp [builtin]) (good_lens (ty:=o.type) s ht hu ho h)
  ·rename_i k e hu
   exact hexec _ (by simp [builtin]) (good_lenm (ty:=o.type) s ht hu ho h)
  ·exact(aB h).elim
 ·rename_i t u x y h2 h3
  have ha:args= #[x,y]:=by apply Array.ext';simpa using h3
  have hty:tys= #[t,u]:=by apply Array.ext';simpa using h2
  subst ha;subst hty
  split at h
  ·rename_i htu
   subst htu
   split at h
   ·rename_i e hu
    split at h
    ·rename_i i z hi hz
     split at h
     ·rename_i hc
      exact hexec _ (by simp [builtin]) (good_append (ty:=o.type) s ht hu hi hz hc.1 hc.2 ho h)
     ·exact(aB h).elim
    ·exact(aB h).elim
   ·exact(aB h).elim
  ·split at h
   ·rename_i e k hu huk
    split at h
    ·rename_i i z hi hz
     exact(aB h).elim
    ·exact(aB h).elim
   ·exact(aB h).elim
 ·rename_i t x h2 h3
  have ha:args= #[x]:=by apply Array.ext';simpa using h3
  have hty:tys= #[t]:=by apply Array.ext';simpa using h2
  subst ha;subst hty
  simp only [okL,List.all_cons,List.all_nil,Bool.and_true] at ho
  split at h
  ·rename_i hu
   exact hexec _ (by simp [builtin]) (good_capn (ty:=o.type) s ht hu ho h)
  ·exact(aB h).elim
 ·rename_i t x h2 h3
  have ha:args= #[x]:=by apply Array.ext';simpa using h3
  have hty:tys= #[t]:=by apply Array.ext';simpa using h2
  subst ha;subst hty
  simp only [okL,List.all_cons,List.all_nil,Bool.and_true] at ho
  split at h
  ·rename_i e hu
   split at h
   ·rename_i i z hi hz
    exact(aB h).elim
   ·exact(aB h).elim
  ·exact(aB h).elim
 ·rename_i t u d x h2 h3
  have ha:args= #[d,x]:=by apply Array.ext';simpa using h3
  have hty:tys= #[t,u]:=by apply Array.ext';simpa using h2
  subst ha;subst hty
  split at h
  ·rename_i e hu
   split at h
   ·rename_i i hi
    exact hexec _ (by simp [builtin]) (good_copy (u:=u) (ty:=o.type) s ht hu hi ho h)
   ·exact(aB h).elim
  ·exact(aB h).elim
 ·have hg:=iV (P:=P) (tys:=tys) (ty:=o.type) s ht ho h
  simp only [Bool.false_eq_true,if_false] at hg
  exact hexec _ rfl hg
 ·have hg:=iV (P:=P) (tys:=tys) (ty:=o.type) s ht ho h
  simp only [if_true] at hg
  exact hexec _ rfl hg
 ·exact(aB h).elim
set_option maxHeartbeats 2000000 in
theorem op_good {P:Program}{ι:Emb}{H H':Hp}{w:World}{N:Nat}{tm:Tm}{a:Act}{av:Value}{o:Oper}(s:Sim ι H w)(ht:TR ι N tm a)
 (h:aop (cOp P o) tm H=some (av,H')):Good P (execOp a.eval o) ι H w av H':=by
 have hx:∀m:Sem Next,execOp a.eval o=m→Good P m ι H w av H'→Good P (execOp a.eval o) ι H w av H':=fun m e g=>e▸g
 unfold cOp at h
 split at h
 ·
  rename_i x hop
  split at h
  ·rename_i ho
   simp only [aop] at h;cases h
   exact hx _ (by simp [execOp,hop]) (Good.pure (m:=pure (.value (a.eval x))) rfl (bn ht ho) s)
  ·exact(aB h).elim
 ·rename_i x hop
  split at h
  ·rename_i ho
   simp only [aop] at h;cases h
   exact hx _ (by simp [execOp,hop]) (Good.pure (m:=pure (.value (a.eval x))) rfl (bn ht ho) s)
  ·exact(aB h).elim
 ·rename_i c x y hop
  split at h
  ·rename_i ho
   exact hx _ (by unfold execOp;rw [hop]) (good_pick s ht ho h)
  ·exact(aB h).elim
 ·rename_i op t x y yt hop
  split at h
  ·rename_i ho
   split at h
   ·exact hx _ (by unfold execOp;rw [hop]) (fN s ht ho h)
   ·exact hx _ (by unfold execOp;rw [hop]) (fN s ht ho h)
   ·rename_i k hk
    exact hx _ (by unfold execOp;rw [hop];rfl) (iU (neg:=false) (t:=t) s ht ho h)
   ·rename_i k hk
    exact hx _ (by unfold execOp;rw [hop];rfl) (iU (neg:=true) (t:=t) s ht ho h)
   ·exact hx _ (by unfold execOp;rw [hop]) (fN s ht ho h)
  ·exact(aB h).elim
 ·rename_i op t x hop
  split at h
  ·rename_i ho
   exact hx _ (by unfold execOp;rw [hop]) (good_un s ht ho h)
  ·exact(aB h).elim
 ·rename_i src dst x hop
  split at h
  ·rename_i ho
   split at h
   ·rename_i d k h1 h2
    exact hx _ (by unfold execOp;rw [hop]) (good_conv s ht h1 h2 ho h)
   ·exact(aB h).elim
  ·exact(aB h).elim
 ·rename_i t ps hop
  split at h
  ·rename_i z pl hz hpl
   split at h
   ·rename_i l hl
    split at h
    ·rename_i ho
     exact hx _ (by unfold execOp;rw [hop]) (good_build s ht hz hpl hl ho h)
    ·exact(aB h).elim
   ·exact(aB h).elim
  ·exact(aB h).elim
 ·rename_i x i hop
  split at h
  ·rename_i ho
   exact hx _ (by unfold execOp;rw [hop]) (good_extract s ht ho h)
  ·exact(aB h).elim
 ·rename_i t x f hop
  split at h
  ·rename_i ho
   split at h
   ·rename_i fs hu
    split at h
    ·rename_i fd hf
     split at h
     ·rename_i n b hsz
      exact hx _ (by unfold execOp;rw [hop]) (good_field s ht hu hf hsz ho h)
     ·exact(aB h).elim
    ·exact(aB h).elim
   ·exact(aB h).elim
  ·exact(aB h).elim
 ·rename_i fn first caps hop
  split at h
  ·rename_i ho
   exact hx _ (by unfold execOp;rw [hop]) (good_mkfn s ht ho h)
  ·exact(aB h).elim
 ·rename_i t x hop
  split at h
  ·rename_i ho
   exact hx _ (by unfold execOp;rw [hop]) (good_iface s ht ho.1 ho.2 h)
  ·exact(aB h).elim
 ·rename_i x hop
  split at h
  ·rename_i ho
   exact good_nilchk s ht hop ho h
  ·exact(aB h).elim
 ·rename_i t x f hop
  split at h
  ·rename_i ho
   split at h
   ·rename_i fs hu
    split at h
    ·rename_i fd hf
     split at h
     ·rename_i i hi
      split at h
      ·rename_i hsz
       exact hx _ (by unfold execOp;rw [hop]) (good_faddr s ht hu hf hi hsz ho h)
      ·exact(aB h).elim
     ·exact(aB h).elim
    ·exact(aB h).elim
   ·exact(aB h).elim
  ·exact(aB h).elim
 ·rename_i t x i hop
  split at h
  ·rename_i ho
   split at h
   ·rename_i e hu
    split at h
    ·rename_i inf hi
     exact hx _ (by unfold execOp;rw [hop]) (good_idxs s ht hu hi ho h)
    ·exact(aB h).elim
   ·rename_i n e hu
    split at h
    ·rename_i inf hi
     exact hx _ (by unfold execOp;rw [hop]) (good_idxa s ht hu hi ho h)
    ·exact(aB h).elim
   ·exact(aB h).elim
  ·exact(aB h).elim
 ·rename_i t x i hop
  split at h
  ·rename_i ho
   split at h
   ·rename_i hu
    exact hx _ (by unfold execOp;rw [hop]) (good_idxstr s ht hu ho h)
   ·rename_i n e hu
    split at h
    ·rename_i m b hsz
     exact hx _ (by unfold execOp;rw [hop]) (good_idx s ht hu hsz ho h)
    ·exact(aB h).elim
   ·exact(aB h).elim
  ·exact(aB h).elim
 ·rename_i t x lo hi hop
  split at h
  ·rename_i ho
   split at h
   ·rename_i e hu
    split at h
    ·rename_i inf hinf
     exact hx _ (by unfold execOp;rw [hop];rfl) (good_slice s ht hu hinf ho.1 ho.2.1 ho.2.2 h)
    ·exact(aB h).elim
   ·exact(aB h).elim
  ·exact(aB h).elim
 ·rename_i e hop
  split at h
  ·rename_i z hz
   exact hx _ (by unfold execOp;rw [hop]) (eK (o:=.alloc z) (tm:=tm) s (by simpa only [aop] using h) fun v b hn=>gv hz hn)
  ·exact(aB h).elim
 ·rename_i e x hop
  split at h
  ·rename_i ho
   exact hx _ (by unfold execOp;rw [hop]) (eK (o:=.box x) (tm:=tm) s (by simpa only [aop] using h) fun v b hn=>jb ht ho hn)
  ·exact(aB h).elim
 ·rename_i t l c hop
  split at h
  ·rename_i ho
   split at h
   ·rename_i e hu
    split at h
    ·rename_i i z hi hz
     exact hx _ (by unfold execOp;rw [hop]) (eK (o:=.mkslice i.size i.bytes z l c) (tm:=tm) s (by simpa only [aop] using h) fun v b hn=>fm ht hu hi hz ho hn)
    ·exact(aB h).elim
   ·exact(aB h).elim
  ·exact(aB h).elim
 ·rename_i t len ps hop
  split at h
  ·rename_i e hu
   split at h
   ·rename_i i z hi hz
    split at h
    ·rename_i hc
     exact hx _ (by unfold execOp;rw [hop]) (eK (tm:=tm) s (by simpa only [aop] using h) fun v b hn=>fR ht hu hi hz hc.1 hc.2 hn)
    ·exact(aB h).elim
   ·exact(aB h).elim
  ·exact(aB h).elim
 ·rename_i t x hop
  split at h
  ·rename_i ho
   split at h
   ·rename_i n b hsz
    exact hx _ (by unfold execOp;rw [hop]) (gp s ht hsz ho h)
   ·exact(aB h).elim
  ·exact(aB h).elim
 ·rename_i t x y hop
  split at h
  ·rename_i ho
   split at h
   ·rename_i i hi
    exact hx _ (by unfold execOp;rw [hop]) (good_store s ht hi ho h)
   ·exact(aB h).elim
  ·exact(aB h).elim
 ·rename_i t hop
  exact hx _ (by unfold execOp;rw [hop];rfl) (good_mkmap (t:=t) s h)
 ·rename_i t x i ok hop
  split at h
  ·rename_i ho
   split at h
   ·rename_i k e hu
    split at h
    ·rename_i kk z hk hz
     exact hx _ (by unfold execOp;rw [hop]) (good_mlook s ht hu hk hz ho h)
    ·exact(aB h).elim
   ·exact(aB h).elim
  ·exact(aB h).elim
 ·rename_i t x i y hop
  split at h
  ·rename_i ho
   split at h
   ·rename_i k e hu
    split at h
    ·rename_i kk hk
     exact hx _ (by unfold execOp;rw [hop]) (gq s ht hu hk ho h)
    ·exact(aB h).elim
   ·exact(aB h).elim
  ·exact(aB h).elim
 ·rename_i t x i y hop
  split at h
  ·rename_i ho
   split at h
   ·rename_i k e hu
    split at h
    ·rename_i kk hk
     exact hx _ (by unfold execOp;rw [hop]) (gq s ht hu hk ho h)
    ·exact(aB h).elim
   ·exact(aB h).elim
  ·exact(aB h).elim
 ·rename_i c hop
  split at h
  ·rename_i ho
   obtain⟨callee,args,tys⟩:=c
   simp only at h ho hop
   split at h
   ·exact builtin_good s ht hop ho h
   ·simp [aop] at h
   ·split at h
    ·simp [aop] at h
    ·exact(aB h).elim
   ·exact(aB h).elim
  ·exact(aB h).elim
 ·exact(aB h).elim
set_option maxHeartbeats 2000000 in
theorem op_new {P:Program}{ι:Emb}{w:World}{N:Nat}{tm:Tm}{a:Act}{o:Oper}{k:Nat}{v:Value}{b:Blk}(ht:TR ι N tm a)
 (h:anew (cOp P o) tm k=some (v,b)):NewR P (execOp a.eval o) ι w k v b:=by
 have hx:∀m:Sem Next,execOp a.eval o=m→NewR P m ι w k v b→NewR P (execOp a.eval o) ι w k v b:=fun m e g=>e▸g
 unfold cOp at h
 split at h
 case h_17 e hop=>
  split at h
  ·rename_i z hz
   exact hx _ (by unfold execOp;rw [hop]) (gv hz h)
  ·simp [anew] at h
 case h_18 e x hop=>
  split at h
  ·rename_i ho
   exact hx _ (by unfold execOp;rw [hop]) (jb ht ho h)
  ·simp [anew] at h
 case h_19 t l c hop=>
  split at h
  ·rename_i ho
   split at h
   ·rename_i e hu
    split at h
    ·rename_i i z hi hz
     exact hx _ (by unfold execOp;rw [hop]) (fm ht hu hi hz ho h)
    ·simp [anew] at h
   ·simp [anew] at h
  ·simp [anew] at h
 case h_20 t len ps hop=>
  split at h
  ·rename_i e hu
   split at h
   ·rename_i i z hi hz
    split at h
    ·rename_i hc
     exact hx _ (by unfold execOp;rw [hop]) (fR ht hu hi hz hc.1 hc.2 h)
    ·simp [anew] at h
   ·simp [anew] at h
  ·simp [anew] at h
 case h_27 c hop=>
  exfalso
  split at h
  ·split at h
   ·unfold cBuiltin at h
    (repeat' split at h)<;>simp [anew] at h
   ·simp [anew] at h
   ·split at h<;>simp [anew] at h
   ·simp [anew] at h
  ·simp [anew] at h
 all_goals (exfalso;(repeat' split at h)<;>simp [anew] at h)
end Go.Ab
namespace Go.Ab
open Go
inductive K where
 | pure|read|new|loud
 deriving DecidableEq
def kindOf:AOp→K
 | .load .. | .slice .. | .lenm _=>.read
 | .alloc _ | .box _ | .mkslice .. | .bslice .. =>.new
 | .store .. | .append .. | .appz .. | .appk .. | .clear .. | .copy .. | .mkmap | .mlook .. | .mset .. | .call .. | .callv .. | .bad=>.loud
 | _=>.pure
structure DOp where
 dst:Option Nat
 op:AOp
 guard:Option (Nat×Bool)
 slots:List Nat
abbrev Dd (t:Nat)(o:AOp):DOp:=⟨some t,o,none,[]⟩
abbrev De (o:AOp):DOp:=⟨none,o,none,[]⟩
structure MapR where
 x:Operand
 ti:Nat
 tn:Nat
 tb:Nat
 te:Nat
 tx:Nat
 body:List DOp
inductive ACode where
 | mapr (m:MapR)
 | skip
 | region (ops:List DOp)
 | draw (ops:List DOp) (pairs:List (Nat×Nat))
 | seq (a b:ACode)
 | cond (c:Operand) (x y:ACode)
 | block (id:Nat) (c:ACode)
 | loop (c:ACode)
 | exit (id:Nat)
 | ret
 | bad
abbrev Dm (t s:Nat):DOp:=Dd t (.mv (.tmp s))
abbrev Ci (n:Int):Operand:=.const (.int .i64 n)
instance (n:Nat):OfNat Operand n:=⟨.tmp n⟩
abbrev sr (r:List DOp)(c:ACode):ACode:=.seq (.region r) c
inductive ARes where
 | tmp (t:Nat)
 | cell (t n:Nat) (agg:Bool)
structure AFunc where
 body:ACode
 results:List ARes
abbrev CallF:=FuncId→List Value→Hp→Option (Value×Hp)
abbrev St:=Tm×Hp
inductive AX where
 | normal|exit (id:Nat)|ret
 deriving DecidableEq
def want (tm:Tm):Option (Nat×Bool)→Bool
 | none=>true
 | some (t,b)=>match tm t with
   | .bool c=>c==b
   | _=>false
def arun (call:CallF)(o:AOp)(tm:Tm)(H:Hp):Option (Value×Hp):=
 match o with
 | .call f args=>call f (args.map (ev tm)) H
 | .callv x args=>match ev tm x with
   | .func (.func f) _ caps=>call f (args.map (ev tm)++caps.toList) H
   | _=>none
 | o=>aop o tm H
def aregion (call:CallF):List DOp→St→Option St
 | [],s=>some s
 | o::os,s=>
   if want s.1 o.guard then
    match arun call o.op s.1 s.2 with
    | some (v,H')=>aregion call os (put s.1 o.dst v,H')
    | none=>none
   else aregion call os (put s.1 o.dst undef,s.2)
def rblk (o:AOp)(tm:Tm):Option Nat:=
 match o with
 | .load _ _ x=>match ev tm x with
   | .pointer (some a)=>some a.block
   | _=>none
 | .slice _ x _ _=>match ev tm x with
   | .slice (some a) _ _=>some a.block
   | _=>none
 | .lenm x=>match ev tm x with
   | .map (some b)=>some b
   | _=>none
 | _=>none
def rdOk (base m:Nat)(o:DOp)(tm:Tm):Bool:=
 match rblk o.op tm with
 | some b=>decide (b<base) ||decide (base+m≤b) ||o.slots.contains (b-base)
 | none=>true
def dstep (call:CallF)(base m i:Nat)(o:DOp)(s:St):Option (Value×Hp):=
 if want s.1 o.guard then
  match kindOf o.op with
  | .pure=>aop o.op s.1 s.2
  | .read=>if rdOk base m o s.1 then aop o.op s.1 s.2 else none
  | .new=>(anew o.op s.1 (base+i)).map fun p=>(p.1,s.2.set (base+i) p.2)
  | .loud=>arun call o.op s.1 s.2
 else some (undef,s.2)
def dtrace (call:CallF)(base m:Nat):List DOp→Nat→St→Option (List St)
 | [],_,s=>some [s]
 | o::os,i,s=>
   match dstep call base m i o s with
   | some (v,H')=>(dtrace call base m os (i+1) (put s.1 o.dst v,H')).map (s::·)
   | none=>none
def vsame1:Value→Value→Bool
 | .bool a,.bool b=>a==b
 | .int k a,.int k' b=>decide (k=k')&&a==b
 | .string a,.string b=>decide (a=b)
 | .pointer a,.pointer b=>decide (a=b)
 | .slice a n c,.slice a' n' c'=>decide (a=a')&&n==n'&&c==c'
 | .map a,.map b=>decide (a=b)
 | .nilFunc,.nilFunc=>true
 | .nilIface,.nilIface=>true
 | _,_=>false
def vsame:Value→Value→Bool
 | .agg a,.agg b=>a.size==b.size&&(a.toList.zip b.toList).all fun p=>vsame1 p.1 p.2
 | a,b=>vsame1 a b
theorem gA {a b:Value}(h:vsame1 a b=true):a=b:=by
 unfold vsame1 at h
 split at h<;>simp_all
theorem fw:∀(l l':List Value),l.length=l'.length→((l.zip l').all fun p=>vsame1 p.1 p.2)=true→l=l'
 | [],l',hl,_=>(List.eq_nil_of_length_eq_zero (by simpa using hl.symm)).symm
 | a::l,[],hl,_=>by simp at hl
 | a::l,b::l',hl,h=>by
   simp only [List.zip_cons_cons,List.all_cons,Bool.and_eq_true] at h
   rw [gA h.1,fw l l' (by simpa using hl) h.2]
theorem vsame_eq {a b:Value}(h:vsame a b=true):a=b:=by
 unfold vsame at h
 split at h
 ·simp only [Bool.and_eq_true,beq_iff_eq] at h
  have:=fw _ _ (by simpa using h.1) h.2
  rw [Array.toList_inj] at this
  rw [this]
 ·exact gA h
def again (o:DOp)(s:St)(H:Hp):Bool:=
 if want s.1 o.guard then
  match aop o.op s.1 s.2,aop o.op s.1 H with
  | some (v,_),some (v',_)=>vsame v v'
  | _,_=>false
 else true
def dcheck (ops:List DOp)(tr:List St)(p:Nat×Nat):Bool:=
 match ops[p.1]?,tr[p.1]?,tr[p.2]?,tr[p.2+1]? with
 | some o,some s,some l,some l'=>again o s l.2&&again o s l'.2
 | _,_,_,_=>false
def adraw (call:CallF)(ops:List DOp)(pairs:List (Nat×Nat))(s:St):Option St:=
 match dtrace call s.2.length ops.length ops 0 (s.1,s.2++List.replicate ops.length .dead) with
 | some tr=>if pairs.all (dcheck ops tr) then tr.getLast? else none
 | none=>none
def iter (body:St→Option (AX×St)):Nat→St→Option (AX×St)
 | 0,_=>none
 | n+1,s=>match body s with
   | some (.normal,s')=>iter body n s'
   | r=>r
def mvOk:AOp→Bool
 | .mv _ | .mm .. =>true
 | _=>false
def aops (ti:Nat):List DOp→Tm→Hp→Option Tm
 | [],tm,_=>some tm
 | o::os,tm,H=>
   if o.guard.isNone&&mvOk o.op&&(o.dst !=some ti) then match aop o.op tm H with
    | some (v,_)=>aops ti os (put tm o.dst v) H
    | none=>none
   else none
def mround (m:MapR)(v:Value)(tm:Tm)(H:Hp):Option Tm:=aops m.ti m.body (upd (upd (upd (upd tm m.tn undef) m.tb (.bool true)) m.te undef) m.tx v) H
def mrounds (m:MapR)(v:Value)(H:Hp):Nat→Tm→Option Tm
 | 0,tm=>some (upd (upd tm m.tn (.tuple #[.bool false])) m.tb (.bool false))
 | n+1,tm=>(mround m v tm H).bind (mrounds m v H n)
def elemv:List (Value×Value)→Value
 | []=>undef
 | e::_=>e.2
def amapr (m:MapR)(tm:Tm)(H:Hp):Option (Tm×Hp):=
 match ev tm m.x with
 | .map (some b)=>match H[b]? with
   | some (.mp es)=>
     if es.all (fun e=>vsame1 e.2 (elemv es)) then(mrounds m (elemv es) (H++ [.dead]) es.length (upd tm m.ti (.pointer (some ⟨H.length,0,none⟩)))).map fun t=>(t,H++ [.dead]) else none
   | _=>none
 | _=>none
def acode (call:CallF)(fuel:Nat):ACode→St→Option (AX×St)
 | .skip,s=>some (.normal,s)
 | .region ops,s=>(aregion call ops s).map fun s'=>(.normal,s')
 | .draw ops pairs,s=>(adraw call ops pairs s).map fun s'=>(.normal,s')
 | .seq a b,s=>match acode call fuel a s with
   | some (.normal,s')=>acode call fuel b s'
   | r=>r
 | .cond c x y,s=>match ev s.1 c with
   | .bool t=>if t then acode call fuel x s else acode call fuel y s
   | _=>none
 | .block id c,s=>match acode call fuel c s with
   | some (.exit j,s')=>if j=id then some (.normal,s') else some (.exit j,s')
   | r=>r
 | .loop c,s=>iter (acode call fuel c) fuel s
 | .exit id,s=>some (.exit id,s)
 | .ret,s=>some (.ret,s)
 | .bad,_=>none
 | .mapr m,s=>(amapr m s.1 s.2).map fun s'=>(.normal,s')
def ares (tm:Tm)(H:Hp):ARes→Option Value
 | .tmp t=>some (tm t)
 | .cell t n agg=>match tm t with
   | .pointer (some a)=>if a.spot.isNone then(H.load a n).bind (mkv agg) else none
   | _=>none
def aresults (rs:List ARes)(tm:Tm)(H:Hp):Option Value:=
 match rs.mapM (ares tm H) with
 | some [v]=>some v
 | some vs=>some (.tuple vs.toArray)
 | none=>none
def initTm (args:List Value):Tm:=fun t=>args.getD t undef
def callF (T:FuncId→Option AFunc):Nat→CallF
 | 0,_,_,_=>none
 | n+1,f,args,H=>match T f with
   | some F=>match acode (callF T n) n F.body (initTm args,H) with
     | some (.normal,s)|some (.ret,s)=>(aresults F.results s.1 s.2).map fun v=>(v,s.2)
     | _=>none
   | none=>none
def gTmp (ops:Array Oper)(o:Oper):Option (Option (Nat×Bool)):=
 match o.guard with
 | none=>some none
 | some (j,b)=>match (ops[j]?).bind (·.dst) with
   | some t=>some (some (t,b))
   | none=>none
def dstOk (N:Nat):Option Nat→Bool
 | some t=>decide (t<N)
 | none=>true
def cOper (P:Program)(N:Nat)(ops:Array Oper)(slots:List Nat)(o:Oper):DOp:=
 match gTmp ops o with
 | some g=>if dstOk N o.dst then {dst:=o.dst,op:=cOp P o,guard:=g,slots} else {dst:=none,op:=.bad,guard:=none,slots}
 | none=>{dst:=none,op:=.bad,guard:=none,slots}
def anc1 (acc:List (List Nat))(o:Oper):List Nat:=((o.after.toList.filter (Region.binds .any)).flatMap fun e=>e.on::acc.getD e.on []).eraseDups
def ancsAux:List Oper→List (List Nat)→List (List Nat)
 | [],acc=>acc
 | o::os,acc=>ancsAux os (acc++ [anc1 acc o])
def ancs (ops:List Oper):List (List Nat):=ancsAux ops []
def opTmps:AOp→List Operand
 | .mv x | .un _ x | .conv _ x | .extract x _ | .field _ _ _ x | .iface _ x | .nilchk x | .faddr _ x | .len x | .lens x | .lenm x | .box x | .load _ _ x | .capn x | .clear _ _ x=>[x]
 | .pick c a b=>[c,a,b]
 | .bin _ x y | .eq _ _ x y | .idxs _ x y | .idxa _ _ x y | .idx _ _ _ x y | .idxstr x y | .mkslice _ _ _ x y | .store _ x y | .append _ _ x y | .appz _ _ _ x y | .appk _ _ x y | .copy _ x y | .mlook _ _ _ x y=>[x,y]
 | .mset _ x y z=>[x,y,z]
 | .build _ ps | .bslice _ _ _ ps=>ps.map (·.2.2)
 | .mkfn _ xs | .mm _ xs | .call _ xs=>xs
 | .callv x xs=>x::xs
 | .slice _ x lo hi=>x::(lo.toList++hi.toList)
 | .alloc _ | .mkmap | .bad=>[]
def looks (o:DOp):List Nat:=
 ((opTmps o.op).filterMap fun | .tmp t=>some t|_=>none)++(match o.guard with|some (t,_)=>[t]|none=>[])
def clash (x y:DOp):Bool:=
 (match x.dst with|some d=>(looks y).contains d ||y.dst==some d|none=>false) ||(match y.dst with|some d=>(looks x).contains d|none=>false)
def louds (ops:List DOp):List Nat:=(List.range ops.length).filter fun i=>((ops[i]?).map fun o=>decide (kindOf o.op= .loud)).getD false
def drawOk (as:List (List Nat))(ops:List DOp):Bool:=
 (List.range ops.length).all fun j=>(List.range j).all fun i=>
   match ops[i]?,ops[j]? with
   | some x,some y=>
     (as.getD j []).contains i ||
       (!clash x y&& !(decide (kindOf x.op= .loud)&&decide (kindOf y.op= .loud))&& !(decide (kindOf x.op= .new)&&decide (kindOf y.op= .loud)))
   | _,_=>false
def edgesOk (ops:List Oper):Bool:=
 (List.range ops.length).all fun i=>((ops[i]?).map fun o=>(o.after.toList.filter (Region.binds .any)).all fun e=>decide (e.on<i)).getD false
def unordered (as:List (List Nat))(i j:Nat):Bool:=i !=j&& !(as.getD i []).contains j&& !(as.getD j []).contains i
def isNew (d0:List DOp)(k:Nat):Bool:=((d0[k]?).map fun q=>decide (kindOf q.op= .new)).getD false
def withSlots (d0:List DOp)(as:List (List Nat))(o:DOp)(i:Nat):DOp:=
 if kindOf o.op= .read then {o with slots:=if(louds d0).any (unordered as i) then [] else(as.getD i []).filter (isNew d0)} else o
def dOps (d0:List DOp)(as:List (List Nat)):List DOp:=d0.zipIdx.map fun x=>withSlots d0 as x.1 x.2
def dPairs (d0:List DOp)(as:List (List Nat)):List (Nat×Nat):=
 (List.range d0.length).flatMap fun i=>match d0[i]? with
   | some o=>if kindOf o.op= .read then((louds d0).filter (unordered as i)).map fun l=>(i,l) else []
   | none=>[]
def cDraw1 (P:Program)(N:Nat)(ops:Array Oper):Option ACode:=
 let as:=ancs ops.toList
 let d0:=ops.toList.map (cOper P N ops [])
 if edgesOk ops.toList&&drawOk as (dOps d0 as) then some (.draw (dOps d0 as) (dPairs d0 as)) else none
def pickNext (ks:List Bool)(as:List (List Nat))(done:List Nat):Option Nat:=
 let rdy:=(List.range ks.length).filter fun i=>!done.contains i&&(as.getD i []).all done.contains
 match rdy.find? fun i=>!ks.getD i false with
 | some i=>some i
 | none=>rdy.head?
def lateGo (ks:List Bool)(as:List (List Nat)):Nat→List Nat→List Nat
 | 0,d=>d
 | n+1,d=>match pickNext ks as d with
   | some i=>lateGo ks as n (d++ [i])
   | none=>d
def lateOrder (P:Program)(ops:Array Oper):List Nat:=lateGo (ops.toList.map fun o=>decide (kindOf (cOp P o)= .new)) (ancs ops.toList) ops.size []
def renum (π:Nat→Nat)(o:Oper):Oper:={o with after:=o.after.map fun e=>{e with on:=π e.on},guard:=o.guard.map fun g=>(π g.1,g.2)}
def permOps (σ:List Nat)(ops:Array Oper):Array Oper:=(σ.map fun i=>renum (fun j=>σ.idxOf j) (ops.getD i default)).toArray
def permOk (σ:List Nat)(ops:Array Oper):Bool:=
 decide (σ.length=ops.size)&&(List.range ops.size).all (fun i=>decide (σ.idxOf i<ops.size)&&decide (σ.getD (σ.idxOf i) ops.size=i)&&decide (σ.getD i ops.size<ops.size)&&decide (σ.idxOf (σ.getD i ops.size)=i))&&
 ops.toList.all fun o=>(match o.guard with|some g=>decide (g.1<ops.size)|none=>true)&&(o.after.toList.filter (Region.binds .any)).all fun e=>decide (e.on<ops.size)
def cDraw (P:Program)(N:Nat)(ops:Array Oper):ACode:=
 match cDraw1 P N ops with
 | some c=>c
 | none=>if permOk (lateOrder P ops) ops then(cDraw1 P N (permOps (lateOrder P ops) ops)).getD .bad else .bad
def rangePat (P:Program)(N:Nat)(a b:Code):Option (List Oper×Array Oper×MapR):=none
def cCode (P:Program)(N:Nat):Code→ACode
 | .skip=>.skip
 | .region _ ops false=>.region (ops.toList.map (cOper P N ops []))
 | .region _ ops true=>cDraw P N ops
 | .seq a b=>match rangePat P N a b with
   | some (pre,ops0,m)=>.seq (.region (pre.map (cOper P N ops0 []))) (.mapr m)
   | none=>.seq (cCode P N a) (cCode P N b)
 | .cond c x y=>if okO c then .cond c (cCode P N x) (cCode P N y) else .bad
 | .block id c=>.block id (cCode P N c)
 | .loop c=>.loop (cCode P N c)
 | .exit id=>.exit id
 | .ret=>.ret
 | _=>.bad
def cRes (P:Program):ResultVar→Option ARes
 | .tmp t=>some (.tmp t)
 | .cell t ty=>(szT P ty).map fun q=>.cell t q.1 q.2
def cFunc (P:Program)(fn:Func):Option AFunc:=
 match fn.body,fn.results.toList.mapM (cRes P) with
 | some c,some rs=>if fn.name=="runtime.NumGoroutine" then none else some {body:=cCode P fn.ntmps c,results:=rs}
 | _,_=>none
end Go.Ab
namespace Go.Ab
open Go
def CallOk (P:Program)(call:CallF):Prop:=
 ∀f args H r H',call f args H=some (r,H')→
  (∃fn,P.funcs[f]? =some fn∧(fn.name=="runtime.NumGoroutine")=false∧fn.body.isNone=false)∧
  ∀(ι:Emb) (w:World) (vargs:Array Value),Sim ι H w→VRs ι args vargs.toList→
   Calls P f vargs w (fun e w'=>∃ι' v,e= .returned v∧VR ι' r v∧Sim ι' H' w'∧Fr ι H w ι' H' w')
theorem dX {P:Program}{b:Builtin}{ty:List TypeId}{xs:List Operand}:(∀f args,cBuiltin P b ty xs≠ .call f args)∧(∀x args,cBuiltin P b ty xs≠ .callv x args):=by
 unfold cBuiltin
 constructor<;>intros<;>(repeat' split)<;>simp
theorem cOp_call {P:Program}{o:Oper}{f:FuncId}{args:List Operand}(h:cOp P o= .call f args):
 ∃c,o.op= .call c∧c.callee= .value (.func f)∧c.args.toList=args∧okL args=true:=by
 unfold cOp at h
 split at h
 case h_27 c hop=>
  split at h
  ·rename_i ho
   split at h
   ·exact absurd h (dX.1 _ _)
   ·rename_i f' hc
    cases h
    exact⟨c,hop,hc,rfl,ho⟩
   ·split at h<;>cases h
   ·cases h
  ·cases h
 all_goals (exfalso;(repeat' split at h)<;>cases h)
theorem cOp_callv {P:Program}{o:Oper}{x:Operand}{args:List Operand}(h:cOp P o= .callv x args):
 ∃c,o.op= .call c∧c.callee= .value x∧c.args.toList=args∧okL args=true∧okO x=true:=by
 unfold cOp at h
 split at h
 case h_27 c hop=>
  split at h
  ·rename_i ho
   split at h
   ·exact absurd h (dX.2 _ _)
   ·cases h
   ·rename_i x' _ hc
    split at h
    ·rename_i hx
     cases h
     exact⟨c,hop,hc,rfl,ho,hx⟩
    ·cases h
   ·cases h
  ·cases h
 all_goals (exfalso;(repeat' split at h)<;>cases h)
section
variable {P : Program} {call : CallF} {ι : Emb} {H H' : Hp} {w : World} {N : Nat} {tm : Tm} {a : Act} {av : Value} {o : Oper}
theorem fq (hc:CallOk P call)(s:Sim ι H w)(ht:TR ι N tm a)(h:arun call (cOp P o) tm H=some (av,H')){next:Act→World→Prop}{Q:Exit→Act→World→Prop}
 (hn:∀v ι' w',VR ι' av v→Sim ι' H' w'→Fr ι H w ι' H' w'→next (a.put o.dst v) w'):o.wp P a w next Q:=by
 by_cases h1:∃f args,cOp P o= .call f args
 ·obtain⟨f,args,hop⟩:=h1
  obtain⟨c,ho,hcal,hargs,hok⟩:=cOp_call hop
  rw [hop] at h
  simp only [arun] at h
  obtain⟨⟨fn,hf,hname,hbody⟩,hcalls⟩:=hc _ _ _ _ _ h
  have hr:=fJ ht args hok
  have hl:(c.args.map a.eval).toList=args.map a.eval:=by rw [←hargs];simp
  have hcl:=hcalls ι w (c.args.map a.eval) s (by rw [hl];exact hr)
  have hex:(execOp a.eval o).run P w= .ok (.enter f (c.args.map a.eval)) w:=by
   unfold execOp
   rw [ho]
   have hname':¬fn.name="runtime.NumGoroutine":=by simpa using hname
   have hbody':¬fn.body=none:=by intro e;rw [e] at hbody;cases hbody
   simp [resolve,hcal,Act.eval,Deferred.ofValue,invoke,callFunc,hf,hname',hbody']
  unfold Oper.wp
  rw [hex,Oper.upon_enter]
  refine hcl.mono fun e w' he=>?_
  obtain⟨ι',v,rfl,hv,hs,hfr⟩:=he
  exact hn v ι' w' hv hs hfr
 ·by_cases h2:∃x args,cOp P o= .callv x args
  ·obtain⟨x,args,hop⟩:=h2
   obtain⟨c,ho,hcal,hargs,hok,hx⟩:=cOp_callv hop
   rw [hop] at h
   simp only [arun] at h
   split at h
   ·rename_i f first caps hfv
    obtain⟨⟨fn,hf,hname,hbody⟩,hcalls⟩:=hc _ _ _ _ _ h
    have hxv:=bn ht hx
    rw [hfv] at hxv
    generalize hxe:a.eval x=u at hxv
    cases hxv with
    | fn _ _ caps' hs hv=>
      have hr:=(fJ ht args hok).append (VR.cells (.agg _ _ hs hv))
      have hl:(c.args.map a.eval++caps').toList=args.map a.eval++caps'.toList:=by rw [←hargs];simp
      have hcl:=hcalls ι w (c.args.map a.eval++caps') s (by rw [hl];exact hr)
      have hex:(execOp a.eval o).run P w= .ok (.enter f (c.args.map a.eval++caps')) w:=by
       unfold execOp
       rw [ho]
       have hname':¬fn.name="runtime.NumGoroutine":=by simpa using hname
       have hbody':¬fn.body=none:=by intro e;rw [e] at hbody;cases hbody
       simp [resolve,hcal,hxe,Deferred.ofValue,invoke,callFunc,hf,hname',hbody']
      unfold Oper.wp
      rw [hex,Oper.upon_enter]
      refine hcl.mono fun e w' he=>?_
      obtain⟨ι',v,rfl,hv,hs,hfr⟩:=he
      exact hn v ι' w' hv hs hfr
   ·cases h
  ·have h3:aop (cOp P o) tm H=some (av,H'):=by
    revert h h1 h2
    generalize cOp P o=q
    intro h h1 h2
    cases q<;>first|exact h|exact absurd ⟨_,_,rfl⟩ h1|exact absurd ⟨_,_,rfl⟩ h2
   obtain⟨nx,ι',w',v,hr,hnx,hv,hs,hfr⟩:=op_good s ht h3
   unfold Oper.wp
   rw [hr]
   rcases hnx with rfl|⟨rfl,rfl⟩
   ·exact hn v ι' w' hv hs hfr
   ·exact hn _ ι' w' hv hs hfr
theorem jo (ht:TR ι N tm a){ops:Array Oper}{g:Option (Nat×Bool)}(hg:gTmp ops o=some g):want tm g=Region.wanted o (yielded ops a.tmps):=by
 unfold gTmp at hg
 split at hg
 ·rename_i hgd;cases hg;simp [want,Region.wanted,hgd]
 ·rename_i j b hgd
  split at hg
  ·rename_i t hd
   cases hg
   have hv:=ht.val t
   simp only [want,Region.wanted,hgd,yielded,hd,Option.bind_some]
   rw [Array.getD_eq_getD_getElem?] at hv
   cases hq:a.tmps[t]? with
   | none=>
     rw [hq] at hv
     generalize tm t=u at hv
     simp only [Option.getD_none] at hv
     cases u<;>first|rfl|(cases hv;done)|skip
   | some u'=>
     rw [hq] at hv
     generalize tm t=u at hv
     simp only [Option.getD_some] at hv
     cases hv<;>first|rfl|simp
  ·cases hg
theorem fA {ops:Array Oper}{sl:List Nat}:(∃g,gTmp ops o=some g∧cOper P N ops sl o={dst:=o.dst,op:=cOp P o,guard:=g,slots:=sl}∧∀t,o.dst=some t→t<N)∨
 ((cOper P N ops sl o).op= .bad∧(cOper P N ops sl o).guard=none):=by
 unfold cOper
 split
 ·rename_i g hg
  split
  ·rename_i hd
   refine .inl ⟨g,hg,rfl,fun t ht=>?_⟩
   rw [ht] at hd
   simpa [dstOk] using hd
  ·exact .inr ⟨rfl,rfl⟩
 ·exact .inr ⟨rfl,rfl⟩
theorem eZ (hc:CallOk P call){ops:Array Oper}{Q:Exit→Act→World→Prop}:∀(l:List Oper) {tm tm':Tm} {H H':Hp} {ι:Emb} {w:World} {a:Act},
 aregion call (l.map (cOper P N ops [])) (tm,H)=some (tm',H')→Sim ι H w→TR ι N tm a→
 (∀ι' a' w',TR ι' N tm' a'→Sim ι' H' w'→Fr ι H w ι' H' w'→Q .normal a' w')→wpList P ops Q l a w
 | [],tm,tm',H,H',ι,w,a,h,s,ht,hq=>by
   simp [aregion] at h
   obtain⟨rfl,rfl⟩:=h
   exact hq ι a w ht s (Fr.refl ..)
 | o::l,tm,tm',H,H',ι,w,a,h,s,ht,hq=>by
   simp only [List.map_cons,aregion] at h
   rcases fA (P:=P) (N:=N) (o:=o) (ops:=ops) (sl:=[]) with⟨g,hg,hco,hd⟩|⟨h1,h2⟩
   ·rw [hco] at h
    simp only at h
    unfold wpList
    rw [jo ht hg] at h
    split at h
    ·rename_i hw
     rw [if_pos hw]
     split at h
     ·rename_i v H1 hr
      refine .inl (fq hc s ht hr fun v' ι1 w1 hv hs hf=>?_)
      exact eZ hc l h hs ((ht.mono hf.emb).put hd hv) fun ι2 a2 w2 ht2 hs2 hf2=>hq ι2 a2 w2 ht2 hs2 (hf.trans hf2)
     ·cases h
    ·rename_i hw
     rw [if_neg hw]
     exact eZ hc l h s (ht.put hd (da ι)) hq
   ·rw [h1,h2] at h
    simp [want,arun,aop] at h
end
end Go.Ab
namespace Go.Ab
open Go
theorem Sim.forget {ι:Emb}{H H':Hp}{w:World}(s:Sim ι H w)(hl:H'.length=H.length)(h:∀b:Nat,H'[b]? =H[b]? ∨H'[b]? =some Blk.dead):Sim ι H' w:=by
 have hlive:∀b,(H'.owned b=true∨∃z v vs,H'[b]? =some (.ro z (v::vs)))→H'[b]? =H[b]? :=by
  intro b hb
  rcases h b with e|e
  ·exact e
  ·rw [cq e,e] at hb;simp at hb
 refine⟨fun b vs hb=>?_,fun b sz vs hb=>?_,fun b sz vs hb=>?_,fun b es hb=>?_,fun b L hL=>by rw [hl];exact s.dom b L hL,fun b b' L L' hne ho ho' hL hL'=>?_⟩
 ·rcases h b with e|e
  ·rw [ey e] at hb;exact s.cells b vs hb
  ·rw [ea e] at hb;cases hb
 ·rcases h b with e|e
  ·rw [e] at hb;exact s.rosz b sz vs hb
  ·rw [e] at hb;cases hb
 ·rcases h b with e|e
  ·rw [e] at hb;exact s.own b sz vs hb
  ·rw [e] at hb;cases hb
 ·rcases h b with e|e
  ·rw [e] at hb;exact s.maps b es hb
  ·rw [e] at hb;cases hb
 ·have e1:=hlive b (.inl ho)
  have e2:=hlive b' ho'
  rw [bw e1] at ho
  rw [bw e2,e2] at ho'
  exact s.sep b b' L L' hne ho ho' hL hL'
theorem live_or {H:Hp}{b:Nat}{x:Blk}(h:H[b]? =some x):(H.owned b=true∨∃z v vs,H[b]? =some (.ro z (v::vs)))∨x= .dead∨∃z,x= .ro z []:=by
 cases x with
 | dead=>exact .inr (.inl rfl)
 | ro z vs=>
   cases vs with
   | nil=>exact .inr (.inr ⟨z,rfl⟩)
   | cons v vs=>exact .inl (.inr ⟨z,v,vs,h⟩)
 | rw sz vs=>exact .inl (.inl (bL h))
 | mp es=>exact .inl (.inl (ct h))
theorem Sim.restore {ι ι1:Emb}{h hi h1 h1':Hp}{w w1:World}(s:Sim ι h w)(s1:Sim ι1 h1 w1)(f:Fr ι hi w ι1 h1 w1)(hfg:∀b:Nat,hi[b]? =h[b]? ∨hi[b]? =some Blk.dead)(hlen:h1'.length=h1.length)
 (hre:∀b:Nat,h1'[b]? =h1[b]? ∨(h1[b]? =some Blk.dead∧hi[b]? =some Blk.dead∧h1'[b]? =h[b]?)):
 Sim ι1 h1' w1∧∀g,g<w.heap.size→OwnW ι1 h1' g→OwnW ι h g:=by
 have hkeep:∀b L,hi[b]? =some Blk.dead→ι b=some L→(h.owned b=true∨∃z v vs,h[b]? =some (.ro z (v::vs)))→w1.heap[L.base.block]? =w.heap[L.base.block]? :=by
  intro b L hd hL hlive
  refine f.keep _ (s.live_lt hL hlive) ?_
  rintro⟨b2,L2,hL2,hblk,ho2⟩
  have hne:b2≠b:=fun e=>by subst e;rw [cq hd] at ho2;cases ho2
  have e2:hi[b2]? =h[b2]? :=(hfg b2).resolve_right fun e=>by rw [cq e] at ho2;cases ho2
  rw [bw e2] at ho2
  exact s.sep b2 b L2 L hne ho2 hlive hL2 hL hblk
 have hown':∀b L,ι1 b=some L→h1.owned b=true→L.base.block<w.heap.size→∃b2 L2,hi[b2]? ≠some Blk.dead∧ι b2=some L2∧L2.base.block=L.base.block∧h.owned b2=true:=by
  intro b L hL ho hlt
  obtain⟨b2,L2,hL2,hblk,ho2⟩:=f.own _ hlt ⟨b,L,hL,rfl,ho⟩
  have hnd:hi[b2]? ≠some Blk.dead:=fun e=>by rw [cq e] at ho2;cases ho2
  have e2:hi[b2]? =h[b2]? :=(hfg b2).resolve_right hnd
  rw [bw e2] at ho2
  exact⟨b2,L2,hnd,hL2,hblk,ho2⟩
 have hlive1:∀b,(h1'.owned b=true∨∃z v vs,h1'[b]? =some (.ro z (v::vs)))→
  (h1'[b]? =h1[b]? ∧(h1.owned b=true∨∃z v vs,h1[b]? =some (.ro z (v::vs))))∨
  (hi[b]? =some Blk.dead∧h1'[b]? =h[b]? ∧(h.owned b=true∨∃z v vs,h[b]? =some (.ro z (v::vs)))):=by
  intro b hb
  rcases hre b with e|⟨e1,e2,e3⟩
  ·rw [bw e,e] at hb;exact .inl ⟨e,hb⟩
  ·rw [bw e3,e3] at hb;exact .inr ⟨e2,e3,hb⟩
 have hsep1:∀b b' L L',hi[b]? =some Blk.dead→(h.owned b=true∨∃z v vs,h[b]? =some (.ro z (v::vs)))→ι b=some L→
  h1.owned b'=true→ι1 b'=some L'→L.base.block≠L'.base.block:=by
  intro b b' L L' hd hlive hL ho' hL' hblk
  have hlt:=s.live_lt hL hlive
  obtain⟨b2,L2,hnd,hL2,hb2,ho2⟩:=hown' b' L' hL' ho' (hblk▸hlt)
  have hne:b2≠b:=fun e=>hnd (e▸hd)
  exact s.sep b2 b L2 L hne ho2 hlive hL2 hL (hb2.trans hblk.symm)
 have hι:∀b x,h[b]? =some x→x≠ .dead→∃L,ι b=some L:=by
  intro b x hb hx
  cases x with
  | dead=>exact absurd rfl hx
  | ro z vs=>obtain⟨L,hL,_⟩:=s.rosz b z vs hb;exact⟨L,hL⟩
  | rw sz vs=>obtain⟨L,_,_,hL,_⟩:=s.own b sz vs hb;exact⟨L,hL⟩
  | mp es=>obtain⟨L,_,_,hL,_⟩:=s.maps b es hb;exact⟨L,hL⟩
 refine⟨⟨fun b vs hb=>?_,fun b sz vs hb=>?_,fun b sz vs hb=>?_,fun b es hb=>?_,fun b L hL=>by rw [hlen];exact s1.dom b L hL,fun b b' L L' hne ho ho' hL hL'=>?_⟩,fun g hg hw=>?_⟩
 ·rcases hre b with e|⟨e1,e2,e3⟩
  ·rw [ey e] at hb;exact s1.cells b vs hb
  ·rw [ey e3] at hb
   obtain⟨L,hL,hc⟩:=s.cells b vs hb
   refine⟨L,f.emb b L hL,fun j v hv=>?_⟩
   obtain⟨v',hv',hr⟩:=hc j v hv
   refine⟨v',?_,hr.mono f.emb⟩
   rw [←hv']
   refine World.cell?_of_block (w:=w) ?_
   rw [cT]
   refine hkeep b L e2 hL ?_
   unfold Hp.cells at hb
   cases hx:h[b]? with
   | none=>rw [hx] at hb;cases hb
   | some x=>
     rcases live_or hx with hl|rfl|⟨z,rfl⟩
     ·rwa [←hx]
     ·rw [hx] at hb;cases hb
     ·rw [hx] at hb;simp [Blk.cells] at hb;subst hb;simp at hv
 ·rcases hre b with e|⟨e1,e2,e3⟩
  ·rw [e] at hb;exact s1.rosz b sz vs hb
  ·rw [e3] at hb
   obtain⟨L,hL,h2⟩:=s.rosz b sz vs hb
   exact⟨L,f.emb b L hL,h2⟩
 ·rcases hre b with e|⟨e1,e2,e3⟩
  ·rw [e] at hb;exact s1.own b sz vs hb
  ·rw [e3] at hb
   obtain⟨L,cur,t,hL,h2,h3,h4,h5⟩:=s.own b sz vs hb
   exact⟨L,cur,t,f.emb b L hL,h2,h3,by rw [hkeep b L e2 hL (.inl (bL hb))];exact h4,h5⟩
 ·rcases hre b with e|⟨e1,e2,e3⟩
  ·rw [e] at hb;exact s1.maps b es hb
  ·rw [e3] at hb
   obtain⟨L,en,cl,hL,h2,h3⟩:=s.maps b es hb
   exact⟨L,en,cl,f.emb b L hL,by rw [hkeep b L e2 hL (.inl (ct hb))];exact h2,h3.mono f.emb⟩
 ·rcases hlive1 b (.inl ho) with⟨e,hl⟩|⟨e2,e3,hl⟩
  ·rw [bw e] at ho
   rcases hlive1 b' ho' with⟨e',hl'⟩|⟨e2',e3',hl'⟩
   ·exact s1.sep b b' L L' hne ho hl' hL hL'
   ·
    have hx:∃L2,ι b'=some L2:=by
     rcases hl' with hq|⟨z,v,vs,hq⟩
     ·unfold Hp.owned at hq
      cases hx:h[b']? with
      | none=>rw [hx] at hq;cases hq
      | some x=>exact hι b' x hx (fun e=>by subst e;rw [hx] at hq;cases hq)
     ·exact hι b' _ hq (by simp)
    obtain⟨L2,hL2⟩:=hx
    have:=f.emb b' L2 hL2
    rw [hL'] at this;cases this
    exact fun q=>hsep1 b' b L' L e2' hl' hL2 ho hL q.symm
  ·rw [bw e3] at ho
   have hx:∃L2,ι b=some L2:=by
    unfold Hp.owned at ho
    cases hx:h[b]? with
    | none=>rw [hx] at ho;cases ho
    | some x=>exact hι b x hx (fun e=>by subst e;rw [hx] at ho;cases ho)
   obtain⟨L2,hL2⟩:=hx
   have:=f.emb b L2 hL2
   rw [hL] at this;cases this
   rcases hlive1 b' ho' with⟨e',hl'⟩|⟨e2',e3',hl'⟩
   ·rcases hl' with ho2|⟨z,v,vs,hro⟩
    ·exact hsep1 b b' L L' e2 hl hL2 ho2 hL'
    ·have hroi:=f.ro b' z _ hro
     have hroh:h[b']? =some (.ro z (v::vs)):=by
      rcases hfg b' with q|q
      ·rw [←q];exact hroi
      ·rw [q] at hroi;cases hroi
     obtain⟨L3,hL3,_⟩:=s.rosz b' z _ hroh
     have:=f.emb b' L3 hL3
     rw [hL'] at this;cases this
     exact s.sep b b' L L' hne ho (.inr ⟨z,v,vs,hroh⟩) hL2 hL3
   ·have hx':∃L3,ι b'=some L3:=by
     rcases hl' with hq|⟨z,v,vs,hq⟩
     ·unfold Hp.owned at hq
      cases hx:h[b']? with
      | none=>rw [hx] at hq;cases hq
      | some x=>exact hι b' x hx (fun e=>by subst e;rw [hx] at hq;cases hq)
     ·exact hι b' _ hq (by simp)
    obtain⟨L3,hL3⟩:=hx'
    have:=f.emb b' L3 hL3
    rw [hL'] at this;cases this
    exact s.sep b b' L L' hne ho hl' hL2 hL3
 ·obtain⟨b,L,hL,hblk,ho⟩:=hw
  rcases hlive1 b (.inl ho) with⟨e,hl⟩|⟨e2,e3,hl⟩
  ·rw [bw e] at ho
   obtain⟨b2,L2,_,hL2,hb2,ho2⟩:=hown' b L hL ho (hblk▸hg)
   exact⟨b2,L2,hL2,hb2.trans hblk,ho2⟩
  ·rw [bw e3] at ho
   have hx:∃L2,ι b=some L2:=by
    unfold Hp.owned at ho
    cases hx:h[b]? with
    | none=>rw [hx] at ho;cases ho
    | some x=>exact hι b x hx (fun e=>by subst e;rw [hx] at ho;cases ho)
   obtain⟨L2,hL2⟩:=hx
   have:=f.emb b L2 hL2
   rw [hL] at this;cases this
   exact⟨b,L,hL2,hblk,ho⟩
theorem Sim.newSlot {ι:Emb}{H:Hp}{w:World}(s:Sim ι H w){k:Nat}(hk:H[k]? =some Blk.dead)(hι:ι k=none)(sz:Nat)(vs:List Value)(c:Array Value)(t:TypeId)
 (hc:∀(j:Nat) (v:Value),vs[j]? =some v→∃v',c[j]? =some v'∧VR ι v v') (hl:vs.length≤c.size):
 Sim (ι.put k ⟨⟨w.heap.size,0,none⟩,c.size,sz⟩) (H.set k (.rw sz vs)) (w.alloc (.cells c t))∧∀g,g<w.heap.size→OwnW (ι.put k ⟨⟨w.heap.size,0,none⟩,c.size,sz⟩) (H.set k (.rw sz vs)) g→OwnW ι H g:=by
 have hklt:k<H.length:=(List.getElem?_eq_some_iff.1 hk).1
 have hle:ι.le (ι.put k ⟨⟨w.heap.size,0,none⟩,c.size,sz⟩):=Emb.put_le hι
 have hnew:(H.set k (Blk.rw sz vs))[k]? =some (.rw sz vs):=by simp [hklt]
 have hold:∀b,b≠k→(H.set k (Blk.rw sz vs))[b]? =H[b]? :=fun b hb=>List.getElem?_set_ne (fun e=>hb e.symm)
 have hheap:(w.alloc (.cells c t)).heap[w.heap.size]? =some (.cells c t (0,0)):=by show(w.heap.push _)[w.heap.size]? =_;simp
 refine⟨Sim.step s k hle (fun b L hb h=>by rwa [Emb.put_other ι _ hb] at h) (fun b L h=>?_) (fun b hb=>.inl (hold b hb)) (fun b L _ hL _ hlive=>?_) (fun us h=>?_)
  (fun sz' us h=>?_) (fun es h=>?_) (fun _ b L0 L hb _ hlive h0 hL=>?_) (fun v us h=>?_),fun g hg h=>?_⟩
 ·by_cases e:b=k
  ·subst e;simpa using hklt
  ·rw [Emb.put_other ι _ e] at h;simpa using s.dom b L h
 ·exact Go.RowKit.Below.heap_alloc w _ _ (s.live_lt hL hlive)
 ·have:us=vs:=by simpa [Hp.cells,hnew,Blk.cells] using h.symm
  subst this
  refine⟨_,Emb.put_same ..,fun j v hv=>?_⟩
  obtain⟨v',h1,h2⟩:=hc j v hv
  refine⟨v',?_,h2.mono hle⟩
  rw [bY,Nat.zero_add,World.cell?_alloc_new];exact h1
 ·rw [hnew] at h;cases h
  exact⟨_,c,t,Emb.put_same ..,rfl,rfl,hheap,by simp,hl⟩
 ·rw [hnew] at h;cases h
 ·rw [Emb.put_same] at h0;cases h0
  exact Nat.ne_of_gt (s.live_lt hL hlive)
 ·rw [hnew] at h;cases h
 ·obtain⟨b,L,hL,hb,ho⟩:=h
  by_cases e:b=k
  ·subst e;rw [Emb.put_same] at hL;cases hL;simp at hb;omega
  ·rw [Emb.put_other ι _ e] at hL
   exact⟨b,L,hL,hb,by rwa [bw (hold b e)] at ho⟩
theorem Sim.room {ι:Emb}{H:Hp}{w:World}(s:Sim ι H w)(m:Nat):Sim ι (H++List.replicate m .dead) w:=by
 have hg:∀b:Nat,(H++List.replicate m Blk.dead)[b]? =H[b]? ∨((H++List.replicate m Blk.dead)[b]? =some Blk.dead)∨(H++List.replicate m Blk.dead)[b]? =none:=by
  intro b
  by_cases h:b<H.length
  ·exact .inl (List.getElem?_append_left h)
  ·by_cases h2:b<H.length+m
   ·right;left;rw [List.getElem?_append_right (by omega),List.getElem?_replicate,if_pos (by omega)]
   ·right;right;rw [List.getElem?_eq_none (by simp;omega)]
 have hsome:∀(b:Nat) x,(H++List.replicate m Blk.dead)[b]? =some x→x≠ .dead→H[b]? =some x:=by
  intro b x hb hx
  rcases hg b with e|e|e
  ·rw [←e];exact hb
  ·rw [e] at hb;cases hb;exact absurd rfl hx
  ·rw [e] at hb;cases hb
 have hcells:∀b vs,Hp.cells (H++List.replicate m Blk.dead) b=some vs→H.cells b=some vs:=by
  intro b vs hb
  unfold Hp.cells at hb ⊢
  cases hx:(H++List.replicate m Blk.dead)[b]? with
  | none=>rw [hx] at hb;cases hb
  | some x=>
    rw [hx] at hb
    by_cases e:x= .dead
    ·subst e;cases hb
    ·rw [hsome b x hx e];exact hb
 have hown:∀b,Hp.owned (H++List.replicate m Blk.dead) b=true→H.owned b=true:=by
  intro b hb
  unfold Hp.owned at hb ⊢
  cases hx:(H++List.replicate m Blk.dead)[b]? with
  | none=>rw [hx] at hb;cases hb
  | some x=>
    rw [hx] at hb
    by_cases e:x= .dead
    ·subst e;cases hb
    ·rw [hsome b x hx e];exact hb
 refine⟨fun b vs hb=>s.cells b vs (hcells b vs hb),fun b sz vs hb=>s.rosz b sz vs (hsome b _ hb (by simp)),fun b sz vs hb=>s.own b sz vs (hsome b _ hb (by simp)),
  fun b es hb=>s.maps b es (hsome b _ hb (by simp)),fun b L hL=>by have:=s.dom b L hL;simp;omega,fun b b' L L' hne ho ho' hL hL'=>s.sep b b' L L' hne (hown b ho) ?_ hL hL'⟩
 rcases ho' with h|⟨z,v,vs,h⟩
 ·exact .inl (hown b' h)
 ·exact .inr ⟨z,v,vs,hsome b' _ h (by simp)⟩
end Go.Ab
namespace Go.Ab
open Go
def Keeps (H H':Hp):Prop:=H.length≤H'.length∧(∀b:Nat,H[b]? =some Blk.dead→H'[b]? =some Blk.dead)∧∀(b z:Nat) (vs:List Value),H'[b]? =some (Blk.ro z vs)→H[b]? =some (Blk.ro z vs)
theorem Keeps.refl (H:Hp):Keeps H H:=⟨Nat.le_refl _,fun _ h=>h,fun _ _ _ h=>h⟩
theorem Keeps.trans {a b c:Hp}(h:Keeps a b)(k:Keeps b c):Keeps a c:=⟨Nat.le_trans h.1 k.1,fun x hx=>k.2.1 x (h.2.1 x hx),fun x z vs hx=>h.2.2 x z vs (k.2.2 x z vs hx)⟩
theorem Keeps.append (H:Hp)(x:Blk)(hx:∀z vs,x≠ .ro z vs):Keeps H (H++ [x]):=
 ⟨by simp,fun b h=>by rw [List.getElem?_append_left (List.getElem?_eq_some_iff.1 h).1];exact h,fun b z vs h=>by
   by_cases hb:b<H.length
   ·rwa [List.getElem?_append_left hb] at h
   ·have hlt:=(List.getElem?_eq_some_iff.1 h).1
    have:b=H.length:=by simp at hlt;omega
    subst this
    simp at h
    exact absurd h (hx z vs)⟩
theorem Keeps.set {H:Hp}{b:Nat}{x:Blk}(h:H[b]? ≠some Blk.dead)(hx:∀z vs,x≠ .ro z vs):Keeps H (H.set b x):=
 ⟨by simp,fun y hy=>by rw [List.getElem?_set_ne (fun e=>h (by rw [e];exact hy))];exact hy,fun y z vs hy=>by
   by_cases e:b=y
   ·subst e
    rw [List.getElem?_set] at hy
    simp at hy
    exact absurd hy.2 (hx z vs)
   ·rwa [List.getElem?_set_ne e] at hy⟩
theorem dT {o:AOp}{tm:Tm}{k:Nat}{v:Value}{b:Blk}(h:anew o tm k=some (v,b)):∀z vs,b≠ .ro z vs:=by
 intro z vs e
 subst e
 cases o<;>simp only [anew] at h<;>first|(cases h;done)|skip
 case mkslice=>
  split at h
  ·split at h<;>cases h
  ·cases h
 case bslice=>
  obtain⟨q,_,h2⟩:=Option.map_eq_some_iff.1 h
  cases h2
theorem aappend_keeps {sz by_:Nat}{s x v:Value}{H H':Hp}(h:aappend sz by_ s x H=some (v,H')):Keeps H H':=by
 unfold aappend at h
 split at h
 ·cases h
 ·split at h
  ·split at h
   ·cases h;exact Keeps.refl _
   ·split at h
    ·cases h;exact Keeps.append _ _ (by simp)
    ·cases h
  ·split at h
   ·cases h;exact Keeps.refl _
   ·split at h
    ·rename_i hb _
     split at h
     ·cases h
      exact(Keeps.set (by rw [hb];simp) (by simp)).trans (Keeps.append _ _ (by simp))
     ·split at h
      ·cases h
       exact(Keeps.set (by rw [hb];simp) (by simp)).trans (Keeps.append _ _ (by simp))
      ·cases h
    ·cases h
  ·cases h
theorem cB {o:AOp}{tm:Tm}{v:Value}{H H':Hp}(h:aop o tm H=some (v,H')):Keeps H H':=by
 cases o<;>simp only [aop] at h
 case append=>exact aappend_keeps h
 case appz=>
  split at h
  ·split at h
   ·cases h;exact Keeps.append _ _ (by simp)
   ·cases h
  ·cases h
 case appk=>
  split at h
  ·split at h
   ·cases h;exact Keeps.append _ _ (by simp)
   ·cases h
  ·cases h
 case clear=>
  split at h
  ·cases h;exact Keeps.refl _
  ·split at h
   ·cases h;exact Keeps.refl _
   ·split at h
    ·rename_i hb
     split at h
     ·cases h;exact Keeps.set (by rw [hb];simp) (by simp)
     ·cases h
    ·cases h
  ·cases h
 case copy=>
  split at h
  ·cases h;exact Keeps.refl _
  ·split at h
   ·cases h;exact Keeps.refl _
   ·split at h
    ·rename_i hb
     split at h
     ·cases h;exact Keeps.set (by rw [hb];simp) (by simp)
     ·cases h
    ·cases h
  ·cases h
 case mkmap=>cases h;exact Keeps.append _ _ (by simp)
 case mset=>
  split at h
  ·split at h
   ·rename_i hb
    split at h
    ·cases h;exact Keeps.set (by rw [hb];simp) (by simp)
    ·cases h
   ·cases h
  ·cases h
 case store=>
  split at h
  ·split at h
   ·rename_i hb
    split at h
    ·cases h;exact Keeps.set (by rw [hb];simp) (by simp)
    ·cases h
   ·cases h
  ·cases h
 case alloc=>cases hn:anew (AOp.alloc _) tm H.length<;>rw [hn] at h<;>cases h;exact Keeps.append _ _ (dT hn)
 case box=>cases hn:anew (AOp.box _) tm H.length<;>rw [hn] at h<;>cases h;exact Keeps.append _ _ (dT hn)
 case mkslice=>cases hn:anew (AOp.mkslice ..) tm H.length<;>rw [hn] at h<;>cases h;exact Keeps.append _ _ (dT hn)
 case bslice=>cases hn:anew (AOp.bslice ..) tm H.length<;>rw [hn] at h<;>cases h;exact Keeps.append _ _ (dT hn)
 all_goals (
  (repeat' split at h)<;>first
    | (cases h;exact Keeps.refl _)
    | (cases h;done)
    | (obtain⟨_,_,h2⟩:=Option.map_eq_some_iff.1 h;cases h2;exact Keeps.refl _))
def KeepC (call:CallF):Prop:=∀f args H r H',call f args H=some (r,H')→Keeps H H'
theorem dr {call:CallF}(hk:KeepC call){o:AOp}{tm:Tm}{v:Value}{H H':Hp}(h:arun call o tm H=some (v,H')):Keeps H H':=by
 unfold arun at h
 split at h
 ·exact hk _ _ _ _ _ h
 ·split at h
  ·exact hk _ _ _ _ _ h
  ·cases h
 ·exact cB h
theorem dj {call:CallF}(hk:KeepC call):∀(ops:List DOp) (s s':St),aregion call ops s=some s'→Keeps s.2 s'.2
 | [],s,s',h=>by simp [aregion] at h;subst h;exact Keeps.refl _
 | o::ops,s,s',h=>by
   simp only [aregion] at h
   split at h
   ·split at h
    ·rename_i hr
     exact(dr hk hr).trans (dj hk ops _ _ h)
    ·cases h
   ·exact dj hk ops (put s.1 o.dst undef,s.2) s' h
theorem eY {o:AOp}(hk:kindOf o= .pure){tm:Tm}{v:Value}{H H':Hp}(h:aop o tm H=some (v,H')):H'=H∧∀H2,aop o tm H2=some (v,H2):=by
 cases o<;>simp only [kindOf] at hk<;>first|(cases hk;done)|skip
 all_goals (
  simp only [aop] at h ⊢
  (repeat' split at h)<;>first
    | (cases h;refine⟨rfl,fun H2=>?_⟩;simp [*];done)
    | (cases h;done)
    | (obtain⟨q,hq,h2⟩:=Option.map_eq_some_iff.1 h;cases h2;refine⟨rfl,fun H2=>?_⟩;simp [*];done)
    | (obtain⟨q,hq,h2⟩:=Option.map_eq_some_iff.1 h;cases h2;refine⟨rfl,fun H2=>?_⟩;simp_all;done))
theorem cU {o:AOp}(hk:kindOf o= .read){tm:Tm}{v:Value}{H H':Hp}(h:aop o tm H=some (v,H')):
 H'=H∧∀H2:Hp,(∀b,rblk o tm=some b→H2[b]? =H[b]?)→aop o tm H2=some (v,H2):=by
 cases o<;>simp only [kindOf] at hk<;>first|(cases hk;done)|skip
 case slice sz x lo hi=>
  simp only [aop] at h ⊢
  obtain⟨q,hq,h2⟩:=Option.map_eq_some_iff.1 h
  cases h2
  refine⟨rfl,fun H2 hb=>?_⟩
  have:aslice H2 sz (ev tm x) (lo.map (ev tm)) (hi.map (ev tm))=some v:=by
   rw [←hq]
   unfold aslice
   split
   ·rfl
   ·rename_i a n m e
    have:=hb a.block (by simp [rblk,e])
    have he:H2.esz a.block=H.esz a.block:=by unfold Hp.esz;rw [this]
    have hbl:∀k,H2.blind a k=H.blind a k:=fun k=>by unfold Hp.blind Hp.cells;rw [this]
    simp only [he,hbl]
   ·rfl
  rw [this];rfl
 case lenm x=>
  simp only [aop] at h ⊢
  split at h
  ·rename_i b e
   split at h
   ·rename_i es he
    cases h
    refine⟨rfl,fun H2 hb=>?_⟩
    rw [hb b (by simp [rblk,e]),he]
   ·cases h
  ·cases h
 case load n b x=>
  simp only [aop] at h ⊢
  split at h
  ·rename_i a e
   split at h
   ·rename_i hs
    obtain⟨q,hq,h2⟩:=Option.map_eq_some_iff.1 h
    cases h2
    refine⟨rfl,fun H2 hb=>?_⟩
    have hb':=hb a.block (by simp [rblk,e])
    have:H2.load a n=H.load a n:=by unfold Hp.load Hp.cells;rw [hb']
    rw [if_pos hs,this,hq];rfl
   ·cases h
  ·cases h
theorem fO {tm tm':Tm}{xs:List Operand}(h:∀x∈xs,ev tm x=ev tm' x):xs.map (ev tm)=xs.map (ev tm'):=List.map_congr_left h
theorem fx {o:AOp}{tm tm':Tm}(h:∀x∈opTmps o,ev tm x=ev tm' x)(k:Nat):anew o tm k=anew o tm' k:=by
 cases o<;>simp only [anew]<;>simp only [opTmps,List.mem_cons,List.not_mem_nil,or_false,forall_eq_or_imp,forall_eq,List.mem_map] at h
 case box x=>rw [h]
 case mkslice=>rw [h.1,h.2]
 case bslice sz len t ps=>
  have:(ps.map fun p=>(p.1,p.2.1,ev tm p.2.2))=ps.map fun p=>(p.1,p.2.1,ev tm' p.2.2):=List.map_congr_left fun p hp=>by rw [h _ ⟨p,hp,rfl⟩]
  rw [this]
theorem aop_congr {o:AOp}{tm tm':Tm}(h:∀x∈opTmps o,ev tm x=ev tm' x)(H:Hp):aop o tm H=aop o tm' H:=by
 have hn:=fx h H.length
 cases o<;>simp only [aop]<;>simp only [opTmps,List.mem_cons,List.not_mem_nil,or_false,forall_eq_or_imp,forall_eq,List.mem_map,List.mem_append] at h
 case build z ps=>
  have:(ps.map fun p=>(p.1,p.2.1,ev tm p.2.2))=ps.map fun p=>(p.1,p.2.1,ev tm' p.2.2):=List.map_congr_left fun p hp=>by rw [h _ ⟨p,hp,rfl⟩]
  rw [this]
 case mkfn fn xs=>rw [List.map_congr_left h]
 case mm b xs=>rw [List.map_congr_left h]
 case slice sz x lo hi=>
  obtain⟨h1,h2⟩:=h
  have e1:lo.map (ev tm)=lo.map (ev tm'):=by
   cases lo with
   | none=>rfl
   | some y=>simp only [Option.map_some];rw [h2 y (.inl (by simp))]
  have e2:hi.map (ev tm)=hi.map (ev tm'):=by
   cases hi with
   | none=>rfl
   | some y=>simp only [Option.map_some];rw [h2 y (.inr (by simp))]
  rw [h1,e1,e2]
 case alloc=>exact congrArg _ hn
 case box=>exact congrArg _ hn
 case mkslice=>exact congrArg _ hn
 case bslice=>exact congrArg _ hn
 all_goals (first|rfl|(rw [h];done)|(rw [h.1,h.2];done)|(rw [h.1,h.2.1,h.2.2];done))
theorem dZ {call:CallF}{o:AOp}{tm tm':Tm}(h:∀x∈opTmps o,ev tm x=ev tm' x)(H:Hp):arun call o tm H=arun call o tm' H:=by
 cases o
 case call f xs=>
  have h2:xs.map (ev tm)=xs.map (ev tm'):=fO fun y hy=>h y (by simpa [opTmps] using hy)
  simp only [arun];rw [h2]
 case callv x xs=>
  simp only [arun]
  have h1:=h x (by simp [opTmps])
  have h2:xs.map (ev tm)=xs.map (ev tm'):=fO fun y hy=>h y (by simp [opTmps,hy])
  rw [h1,h2]
 all_goals exact aop_congr h H
end Go.Ab
namespace Go.Ab
open Go
theorem ep:∀(os:List Oper) (acc:List (List Nat)),(ancsAux os acc).length=acc.length+os.length∧(∀i,i<acc.length→(ancsAux os acc)[i]? =acc[i]?)∧
 ∀(j:Nat) (o:Oper),os[j]? =some o→∃l:List (List Nat),(∀i:Nat,i<acc.length+j→l[i]? =(ancsAux os acc)[i]?)∧(ancsAux os acc)[acc.length+j]? =some (anc1 l o)
 | [],acc=>⟨by simp [ancsAux],fun i _=>rfl,fun j o h=>by simp at h⟩
 | o::os,acc=>by
   obtain⟨h1,h2,h3⟩:=ep os (acc++ [anc1 acc o])
   have hlen:(acc++ [anc1 acc o]).length=acc.length+1:=by simp
   refine⟨by simp only [ancsAux,h1,hlen,List.length_cons];omega,fun i hi=>?_,fun j q hj=>?_⟩
   ·simp only [ancsAux]
    rw [h2 i (by rw [hlen];omega),List.getElem?_append_left hi]
   ·cases j with
    | zero=>
      simp at hj;subst hj
      refine⟨acc,fun i hi=>?_,?_⟩
      ·simp only [ancsAux]
       rw [h2 i (by rw [hlen];omega),List.getElem?_append_left hi]
      ·simp only [ancsAux]
       rw [h2 _ (by rw [hlen];omega),Nat.add_zero,List.getElem?_append_right (Nat.le_refl _)]
       simp
    | succ j=>
      obtain⟨l,hl,hg⟩:=h3 j q (by simpa using hj)
      refine⟨l,fun i hi=>?_,?_⟩
      ·simp only [ancsAux];exact hl i (by rw [hlen];omega)
      ·simp only [ancsAux];rw [←hg,hlen];congr 1;omega
theorem gW {ops:List Oper}(he:edgesOk ops=true){i:Nat}{o:Oper}(ho:ops[i]? =some o){j:Nat}(hj:j∈(ancs ops).getD i []):
 ∃e∈o.after.toList,Region.binds .any e=true∧e.on<i∧(j=e.on∨j∈(ancs ops).getD e.on []):=by
 obtain⟨h1,h2,h3⟩:=ep ops []
 obtain⟨l,hl,hg⟩:=h3 i o ho
 simp only [List.length_nil,Nat.zero_add] at hl hg
 have hj':j∈anc1 l o:=by
  have:(ancs ops).getD i []=anc1 l o:=by rw [List.getD_eq_getElem?_getD];show((ancsAux ops [])[i]?).getD []=_;rw [hg];rfl
  rwa [this] at hj
 unfold anc1 at hj'
 rw [List.mem_eraseDups,List.mem_flatMap] at hj'
 obtain⟨e,hme,hmem⟩:=hj'
 rw [List.mem_filter] at hme
 have hi:i<ops.length:=by
  rcases Nat.lt_or_ge i ops.length with h|h
  ·exact h
  ·rw [List.getElem?_eq_none h] at ho;cases ho
 have hlt:e.on<i:=by
  have:=List.all_eq_true.1 he i (by simpa using hi)
  rw [ho] at this
  simp only [Option.map_some,Option.getD_some] at this
  have:=List.all_eq_true.1 this e (List.mem_filter.2 hme)
  simpa using this
 refine⟨e,hme.1,hme.2,hlt,?_⟩
 rcases List.mem_cons.1 hmem with h|h
 ·exact .inl h
 ·right
  have:l.getD e.on []=(ancs ops).getD e.on []:=by
   rw [List.getD_eq_getElem?_getD,List.getD_eq_getElem?_getD,hl e.on hlt];rfl
  rwa [this] at h
theorem edges_lt {ops:List Oper}(he:edgesOk ops=true){i:Nat}{o:Oper}(ho:ops[i]? =some o){e:Edge}(hm:e∈o.after.toList)(hb:Region.binds .any e=true):e.on<i:=by
 have hi:i<ops.length:=by
  rcases Nat.lt_or_ge i ops.length with h|h
  ·exact h
  ·rw [List.getElem?_eq_none h] at ho;cases ho
 have:=List.all_eq_true.1 he i (by simpa using hi)
 rw [ho] at this
 simp only [Option.map_some,Option.getD_some] at this
 have:=List.all_eq_true.1 this e (List.mem_filter.2 ⟨hm,hb⟩)
 simpa using this
theorem eu {ops:List Oper}(he:edgesOk ops=true):∀(i:Nat) (o:Oper),ops[i]? =some o→∀j,j∈(ancs ops).getD i []→j<i:=by
 intro i
 induction i using Nat.strongRecOn with
 | _ i ih=>
   intro o ho j hj
   obtain⟨e,_,_,hlt,h⟩:=gW he ho hj
   rcases h with rfl|h
   ·exact hlt
   ·have hi:i<ops.length:=by
     rcases Nat.lt_or_ge i ops.length with h|h
     ·exact h
     ·rw [List.getElem?_eq_none h] at ho;cases ho
    have:=ih e.on hlt ops[e.on] (List.getElem?_eq_getElem (by omega)) j h
    omega
theorem fg {ops:List Oper}(he:edgesOk ops=true){L:Nat→Bool}(hL:∀k o,L k=true→ops[k]? =some o→∀e∈o.after.toList,Region.binds .any e=true→L e.on=true):
 ∀(i:Nat) (o:Oper),ops[i]? =some o→(∀e∈o.after.toList,Region.binds .any e=true→L e.on=true)→∀j,j∈(ancs ops).getD i []→L j=true:=by
 intro i
 induction i using Nat.strongRecOn with
 | _ i ih=>
   intro o ho hr j hj
   obtain⟨e,hm,hb,hlt,h⟩:=gW he ho hj
   have hLe:=hr e hm hb
   rcases h with rfl|h
   ·exact hLe
   ·have hi:i<ops.length:=by
     rcases Nat.lt_or_ge i ops.length with h|h
     ·exact h
     ·rw [List.getElem?_eq_none h] at ho;cases ho
    have hq:ops[e.on]? =some ops[e.on]:=List.getElem?_eq_getElem (by omega)
    exact ih e.on hlt ops[e.on] hq (hL e.on _ hLe hq) j h
def tmS (ops:List DOp)(vf:Nat→Value)(L:Nat→Bool)(tm:Tm):Nat→Tm
 | 0=>tm
 | n+1=>match ops[n]? with
   | some o=>if L n then put (tmS ops vf L tm n) o.dst (vf n) else tmS ops vf L tm n
   | none=>tmS ops vf L tm n
theorem gN {tm:Tm}{d:Option Nat}{v:Value}{x:Nat}(h:d≠some x):put tm d v x=tm x:=by
 cases d with
 | none=>rfl
 | some t=>exact upd_ne tm v (fun e=>h (by rw [e]))
theorem gM {tm:Tm}{d:Option Nat}{v:Value}{x:Nat}(h:d=some x):put tm d v x=v:=by subst h;exact upd_same ..
theorem dW {ops:List DOp}{vf:Nat→Value}{L L':Nat→Bool}{tm:Tm}{x:Nat}:∀n,(∀k o,k<n→ops[k]? =some o→o.dst=some x→L k=L' k)→tmS ops vf L tm n x=tmS ops vf L' tm n x
 | 0,_=>rfl
 | n+1,h=>by
   have ih:=dW (ops:=ops) (vf:=vf) (L:=L) (L':=L') (tm:=tm) (x:=x) n (fun k o hk=>h k o (by omega))
   simp only [tmS]
   cases ho:ops[n]? with
   | none=>exact ih
   | some o=>
     simp only
     by_cases hd:o.dst=some x
     ·rw [←h n o (by omega) ho hd]
      cases L n with
      | true=>simp only [if_true];rw [gM hd,gM hd]
      | false=>exact ih
     ·have e1:(if L n then put (tmS ops vf L tm n) o.dst (vf n) else tmS ops vf L tm n) x=tmS ops vf L tm n x:=by split;exact gN hd;rfl
      have e2:(if L' n then put (tmS ops vf L' tm n) o.dst (vf n) else tmS ops vf L' tm n) x=tmS ops vf L' tm n x:=by split;exact gN hd;rfl
      rw [e1,e2,ih]
theorem fb {ops:List DOp}{vf:Nat→Value}{L:Nat→Bool}{tm:Tm}{x:Nat}(n:Nat):∀d,(∀k o,n≤k→k<n+d→ops[k]? =some o→o.dst=some x→L k=false)→tmS ops vf L tm (n+d) x=tmS ops vf L tm n x
 | 0,_=>rfl
 | d+1,h=>by
   have ih:=fb (ops:=ops) (vf:=vf) (L:=L) (tm:=tm) (x:=x) n d (fun k o h1 h2=>h k o h1 (by omega))
   rw [←Nat.add_assoc]
   simp only [tmS]
   cases ho:ops[n+d]? with
   | none=>exact ih
   | some o=>
     simp only
     by_cases hd:o.dst=some x
     ·rw [h (n+d) o (by omega) (by omega) ho hd];exact ih
     ·split
      ·rw [gN hd];exact ih
      ·exact ih
theorem fk {call:CallF}{base m:Nat}:∀(ops:List DOp) (i:Nat) (s:St) (tr:List St),dtrace call base m ops i s=some tr→tr.length=ops.length+1∧tr[0]? =some s∧
 ∀(j:Nat) (o:DOp),ops[j]? =some o→∃sj sj1 v,tr[j]? =some sj∧tr[j+1]? =some sj1∧dstep call base m (i+j) o sj=some (v,sj1.2)∧sj1.1=put sj.1 o.dst v
 | [],i,s,tr,h=>by simp [dtrace] at h;subst h;exact⟨rfl,rfl,fun j o h=>by simp at h⟩
 | o::ops,i,s,tr,h=>by
   simp only [dtrace] at h
   split at h
   ·rename_i v H' hd
    obtain⟨r,hr,rfl⟩:=Option.map_eq_some_iff.1 h
    obtain⟨h1,h2,h3⟩:=fk ops (i+1) _ r hr
    refine⟨by simp [h1],rfl,fun j q hq=>?_⟩
    cases j with
    | zero=>
      simp at hq;subst hq
      exact⟨s,_,v,rfl,by simpa using h2,hd,rfl⟩
    | succ j=>
      obtain⟨sj,sj1,v',g1,g2,g3,g4⟩:=h3 j q (by simpa using hq)
      exact⟨sj,sj1,v',by simpa using g1,by simpa using g2,by rw [←g3];congr 1;omega,g4⟩
   ·cases h
end Go.Ab
namespace Go.Ab
open Go
structure Ctx (P:Program)(call:CallF)(N:Nat)(ops:Array Oper)(base:Nat)(tmf:Nat→Tm)(Hf:Nat→Hp)(vf:Nat→Value)(dops:List DOp):Prop where
 hm:dops.length=ops.size
 keep:KeepC call
 ok:CallOk P call
 edges:edgesOk ops.toList=true
 get:∀(i:Nat) o,ops[i]? =some o→∃sl,dops[i]? =some (cOper P N ops sl o)
 slots:∀(i:Nat) d,dops[i]? =some d→kindOf d.op= .read→∀k∈d.slots,k∈(ancs ops.toList).getD i []∧
  ∀(l:Nat) dl,dops[l]? =some dl→kindOf dl.op= .loud→unordered (ancs ops.toList) i l=false
 pairs:∀(i l:Nat) d dl,dops[i]? =some d→kindOf d.op= .read→dops[l]? =some dl→kindOf dl.op= .loud→unordered (ancs ops.toList) i l=true→
  again d (tmf i,Hf i) (Hf l)=true∧again d (tmf i,Hf i) (Hf (l+1))=true
 static:∀(i j:Nat) x y,i<j→dops[i]? =some x→dops[j]? =some y→i∈(ancs ops.toList).getD j []∨
  (clash x y=false∧¬(kindOf x.op= .loud∧kindOf y.op= .loud)∧¬(kindOf x.op= .new∧kindOf y.op= .loud))
 step:∀(j:Nat) o,dops[j]? =some o→dstep call base dops.length j o (tmf j,Hf j)=some (vf j,Hf (j+1))∧tmf (j+1)=put (tmf j) o.dst (vf j)
 dead0:∀k,k<dops.length→(Hf 0)[base+k]? =some Blk.dead
section
variable {P : Program} {call : CallF} {N : Nat} {ops : Array Oper} {base : Nat} {tmf : Nat → Tm} {Hf : Nat → Hp} {vf : Nat → Value} {dops : List DOp}
theorem Ctx.some_ (C:Ctx P call N ops base tmf Hf vf dops){i:Nat}(hi:i<dops.length):∃d,dops[i]? =some d:=⟨dops[i],by simp [hi]⟩
theorem bm {α:Type}{l:List α}{i:Nat}{x:α}(h:l[i]? =some x):i<l.length:=by
 rcases Nat.lt_or_ge i l.length with q|q
 ·exact q
 ·rw [List.getElem?_eq_none q] at h;cases h
theorem Ctx.heap_step (C:Ctx P call N ops base tmf Hf vf dops){j:Nat}{d:DOp}(hd:dops[j]? =some d):
 ((Hf j).length≤(Hf (j+1)).length∧∀b:Nat,b≠base+j→(Hf j)[b]? =some Blk.dead→(Hf (j+1))[b]? =some Blk.dead)∧(kindOf d.op≠ .loud→∀b:Nat,b≠base+j→(Hf (j+1))[b]? =(Hf j)[b]?)∧
 (kindOf d.op≠ .loud→kindOf d.op≠ .new→Hf (j+1)=Hf j):=by
 have hs:=(C.step j d hd).1
 unfold dstep at hs
 split at hs
 ·cases hk:kindOf d.op with
  | pure=>
    rw [hk] at hs
    obtain⟨e,_⟩:=eY hk hs
    have e:Hf (j+1)=Hf j:=e
    rw [e]
    exact⟨⟨Nat.le_refl _,fun _ _ h=>h⟩,fun _ _ _=>rfl,fun _ _=>rfl⟩
  | read=>
    rw [hk] at hs
    simp only at hs
    split at hs
    ·obtain⟨e,_⟩:=cU hk hs
     have e:Hf (j+1)=Hf j:=e
     rw [e]
     exact⟨⟨Nat.le_refl _,fun _ _ h=>h⟩,fun _ _ _=>rfl,fun _ _=>rfl⟩
    ·cases hs
  | new=>
    rw [hk] at hs
    simp only at hs
    obtain⟨p,hp,e⟩:=Option.map_eq_some_iff.1 hs
    have e2:=(Prod.mk.inj e).2
    rw [←e2]
    exact⟨⟨by simp,fun b hb h=>by rw [List.getElem?_set_ne (by omega)];exact h⟩,fun _ b hb=>List.getElem?_set_ne (fun e=>hb e.symm),fun _ h=>absurd rfl h⟩
  | loud=>
    rw [hk] at hs
    simp only at hs
    obtain⟨h1,h2,_⟩:=dr C.keep hs
    exact⟨⟨h1,fun b _ h=>h2 b h⟩,fun h=>absurd rfl h,fun h=>absurd rfl h⟩
 ·have e2:=(Prod.mk.inj (Option.some.inj hs)).2
  rw [←e2]
  exact⟨⟨Nat.le_refl _,fun _ _ h=>h⟩,fun _ _ _=>rfl,fun _ _=>rfl⟩
theorem Ctx.heap_mono (C:Ctx P call N ops base tmf Hf vf dops):∀(d j:Nat),j+d≤dops.length→(Hf j).length≤(Hf (j+d)).length
 | 0,j,_=>Nat.le_refl _
 | d+1,j,h=>by
   obtain⟨x,hx⟩:=C.some_ (i:=j+d) (by omega)
   exact Nat.le_trans (C.heap_mono d j (by omega)) (C.heap_step hx).1.1
theorem Ctx.ro_step (C:Ctx P call N ops base tmf Hf vf dops){j:Nat}{d:DOp}(hd:dops[j]? =some d)(b z:Nat)(vs:List Value)(h:(Hf (j+1))[b]? =some (.ro z vs)):(Hf j)[b]? =some (.ro z vs):=by
 have hs:=(C.step j d hd).1
 by_cases hl:kindOf d.op= .loud
 ·unfold dstep at hs
  split at hs
  ·rw [hl] at hs
   exact(dr C.keep hs).2.2 b z vs h
  ·have e2:=(Prod.mk.inj (Option.some.inj hs)).2
   rw [←e2] at h;exact h
 ·by_cases hb:b=base+j
  ·subst hb
   unfold dstep at hs
   split at hs
   ·cases hk:kindOf d.op with
    | new=>
      rw [hk] at hs
      simp only at hs
      obtain⟨p,hp,e⟩:=Option.map_eq_some_iff.1 hs
      have e2:=(Prod.mk.inj e).2
      rw [←e2] at h
      rw [List.getElem?_set] at h
      simp at h
      exact absurd h.2 (dT (v:=p.1) (b:=p.2) hp z vs)
    | loud=>exact absurd hk hl
    | pure=>rw [(C.heap_step hd).2.2 (by rw [hk];simp) (by rw [hk];simp)] at h;exact h
    | read=>rw [(C.heap_step hd).2.2 (by rw [hk];simp) (by rw [hk];simp)] at h;exact h
   ·have e2:=(Prod.mk.inj (Option.some.inj hs)).2
    rw [←e2] at h;exact h
  ·rw [(C.heap_step hd).2.1 hl b hb] at h;exact h
theorem Ctx.ro (C:Ctx P call N ops base tmf Hf vf dops)(b z:Nat)(vs:List Value):∀j,j≤dops.length→(Hf j)[b]? =some (.ro z vs)→(Hf 0)[b]? =some (.ro z vs)
 | 0,_,h=>h
 | j+1,hj,h=>by
   obtain⟨d,hd⟩:=C.some_ (i:=j) (by omega)
   exact C.ro b z vs j (by omega) (C.ro_step hd b z vs h)
theorem Ctx.dead (C:Ctx P call N ops base tmf Hf vf dops)(b:Nat)(hb:b<base):∀j,j≤dops.length→(Hf 0)[b]? =some Blk.dead→(Hf j)[b]? =some Blk.dead
 | 0,_,h=>h
 | j+1,hj,h=>by
   obtain⟨d,hd⟩:=C.some_ (i:=j) (by omega)
   exact(C.heap_step hd).1.2 b (by omega) (C.dead b hb j (by omega) h)
theorem Ctx.free (C:Ctx P call N ops base tmf Hf vf dops){k:Nat}(hk:k<dops.length):∀j,j≤k→(Hf j)[base+k]? =some Blk.dead
 | 0,_=>C.dead0 k hk
 | j+1,h=>by
   obtain⟨x,hx⟩:=C.some_ (i:=j) (by omega)
   exact(C.heap_step hx).1.2 _ (by omega) (C.free hk j (by omega))
theorem Ctx.calm (C:Ctx P call N ops base tmf Hf vf dops){p:Nat}:∀(i:Nat),p≤i→i≤dops.length→(∀k d,p≤k→k<i→dops[k]? =some d→kindOf d.op≠ .loud)→
 ∀b:Nat,(Hf i)[b]? =if base≤b∧p≤b-base∧b-base<i then(Hf (b-base+1))[b]? else(Hf p)[b]? :=by
 intro i hpi
 induction i with
 | zero=>intro _ _ b;have:p=0:=by omega
         subst this;rw [if_neg (by omega)]
 | succ i ih=>
   intro hi hq b
   by_cases he:p=i+1
   ·subst he;rw [if_neg (by omega)]
   ·obtain⟨d,hd⟩:=C.some_ (i:=i) (by omega)
    have hst:=(C.heap_step hd).2.1 (hq i d (by omega) (by omega) hd)
    have ih':=ih (by omega) (by omega) (fun k d h1 h2=>hq k d h1 (by omega)) b
    by_cases hb:b=base+i
    ·subst hb
     rw [if_pos (by omega)]
     congr 2;omega
    ·rw [hst b hb,ih']
     by_cases hc:base≤b∧p≤b-base∧b-base<i
     ·rw [if_pos hc,if_pos (by omega)]
     ·rw [if_neg hc,if_neg (by omega)]
theorem Ctx.calm_len (C:Ctx P call N ops base tmf Hf vf dops){p:Nat}:∀(i:Nat),p≤i→i≤dops.length→(∀k d,p≤k→k<i→dops[k]? =some d→kindOf d.op≠ .loud)→(Hf i).length=(Hf p).length:=by
 intro i hpi
 induction i with
 | zero=>intro _ _;have:p=0:=by omega
         subst this;rfl
 | succ i ih=>
   intro hi hq
   by_cases he:p=i+1
   ·subst he;rfl
   ·obtain⟨d,hd⟩:=C.some_ (i:=i) (by omega)
    rw [←ih (by omega) (by omega) (fun k d h1 h2=>hq k d h1 (by omega))]
    have hnl:=hq i d (by omega) (by omega) hd
    by_cases hn:kindOf d.op= .new
    ·have hs:=(C.step i d hd).1
     unfold dstep at hs
     split at hs
     ·rw [hn] at hs
      simp only at hs
      obtain⟨p,hp,e⟩:=Option.map_eq_some_iff.1 hs
      have e2:=(Prod.mk.inj e).2
      rw [←e2]
      simp
     ·have e2:=(Prod.mk.inj (Option.some.inj hs)).2
      rw [←e2]
    ·rw [(C.heap_step hd).2.2 hnl hn]
theorem Ctx.tmf_eq (C:Ctx P call N ops base tmf Hf vf dops):∀n,n≤dops.length→tmf n=tmS dops vf (fun _=>true) (tmf 0) n
 | 0,_=>rfl
 | n+1,h=>by
   obtain⟨d,hd⟩:=C.some_ (i:=n) (by omega)
   rw [(C.step n d hd).2,C.tmf_eq n (by omega)]
   simp only [tmS,hd,if_true]
structure At (P:Program)(call:CallF)(N:Nat)(ops:Array Oper)(base:Nat)(tmf:Nat→Tm)(Hf:Nat→Hp)(vf:Nat→Value)(dops:List DOp)
 (ι0:Emb) (w0:World) (H0:Hp) (L:Nat→Bool) (p:Nat) (h:Hp) (ι:Emb) (a:Act) (w:World):Prop where
 ple:p≤dops.length
 louds:∀(k:Nat) d,dops[k]? =some d→kindOf d.op= .loud→(L k=true↔k<p)
 last:p=0∨∃d,dops[p-1]? =some d∧kindOf d.op= .loud∧L (p-1)=true∧0<p
 hlen:h.length=(Hf p).length
 heap:∀b:Nat,h[b]? =if base≤b∧p≤b-base∧b-base<dops.length∧L (b-base)=true then(Hf (b-base+1))[b]? else(Hf p)[b]?
 sim:Sim ι h w
 tmps:TR ι N (tmS dops vf L (tmf 0) dops.length) a
 none_:∀k,k<dops.length→L k=false→ι (base+k)=none
 emb:ι0.le ι
 old:∀b,b<base→ι b=ι0 b
 os:w.os=w0.os
 tape:w.tape=w0.tape
 output:w.output=w0.output
 size:w0.heap.size≤w.heap.size
 kept:∀g,g<w0.heap.size→¬OwnW ι0 H0 g→w.heap[g]? =w0.heap[g]?
 own:∀g,g<w0.heap.size→OwnW ι h g→OwnW ι0 H0 g
end
end Go.Ab
namespace Go.Ab
open Go
section
variable {P : Program} {call : CallF} {N : Nat} {ops : Array Oper} {base : Nat} {tmf : Nat → Tm} {Hf : Nat → Hp} {vf : Nat → Value} {dops : List DOp}
 {ι0:Emb} {w0:World} {H0:Hp} {L:Nat→Bool} {p:Nat} {h:Hp} {ι:Emb} {a:Act} {w:World}
theorem At.room (C:Ctx P call N ops base tmf Hf vf dops)(A:At P call N ops base tmf Hf vf dops ι0 w0 H0 L p h ι a w){k:Nat}(hk:k<dops.length):base+k<h.length:=by
 rw [A.hlen]
 have:=C.heap_mono p 0 (by have:=A.ple;omega)
 rw [Nat.zero_add] at this
 have h0:=bm (C.dead0 k hk)
 omega
theorem At.next (A:At P call N ops base tmf Hf vf dops ι0 w0 H0 L p h ι a w){L':Nat→Bool}{p':Nat}{h':Hp}{ι':Emb}{a':Act}{w':World}
 (hple:p'≤dops.length) (hlouds:∀(k:Nat) d,dops[k]? =some d→kindOf d.op= .loud→(L' k=true↔k<p'))
 (hlast:p'=0∨∃d,dops[p'-1]? =some d∧kindOf d.op= .loud∧L' (p'-1)=true∧0<p') (hlen:h'.length=(Hf p').length)
 (hheap:∀b:Nat,h'[b]? =if base≤b∧p'≤b-base∧b-base<dops.length∧L' (b-base)=true then(Hf (b-base+1))[b]? else(Hf p')[b]?)
 (hsim:Sim ι' h' w') (htmps:TR ι' N (tmS dops vf L' (tmf 0) dops.length) a') (hnone:∀k,k<dops.length→L' k=false→ι' (base+k)=none)
 (hemb:ι.le ι') (hold:∀b,b<base→ι' b=ι b) (hos:w'.os=w.os) (htape:w'.tape=w.tape) (hout:w'.output=w.output) (hsize:w.heap.size≤w'.heap.size)
 (hkeep:∀g,g<w.heap.size→¬OwnW ι h g→w'.heap[g]? =w.heap[g]?) (hown:∀g,g<w.heap.size→OwnW ι' h' g→OwnW ι h g):
 At P call N ops base tmf Hf vf dops ι0 w0 H0 L' p' h' ι' a' w':=
 ⟨hple,hlouds,hlast,hlen,hheap,hsim,htmps,hnone,A.emb.trans hemb,fun b hb=>(hold b hb).trans (A.old b hb),hos.trans A.os,htape.trans A.tape,hout.trans A.output,
   Nat.le_trans A.size hsize,fun g hg hn=>(hkeep g (Nat.lt_of_lt_of_le hg A.size) fun q=>hn (A.own g hg q)).trans (A.kept g hg hn),
   fun g hg q=>A.own g hg (hown g (Nat.lt_of_lt_of_le hg A.size) q)⟩
def more (L:Nat→Bool)(i:Nat):Nat→Bool:=fun k=>k==i ||L k
theorem bV (L:Nat→Bool)(i:Nat):more L i i=true:=by simp [more]
theorem bX (L:Nat→Bool){i k:Nat}(h:k≠i):more L i k=L k:=by simp [more,h]
structure Rdy (ops:Array Oper)(dops:List DOp)(L:Nat→Bool)(i:Nat)(d:DOp):Prop where
 get:dops[i]? =some d
 no:L i=false
 anc:∀j,j∈(ancs ops.toList).getD i []→L j=true
 desc:∀k,k<dops.length→L k=true→i∉(ancs ops.toList).getD k []
theorem fC {x y:DOp}{t:Nat}(h:x.dst=some t)(hy:t∈looks y∨y.dst=some t):clash x y=true:=by
 unfold clash
 rw [h]
 rcases hy with hy|hy
 ·simp [hy]
 ·simp [hy]
theorem clash_right {x y:DOp}{t:Nat}(h:y.dst=some t)(hx:t∈looks x):clash x y=true:=by
 unfold clash
 rw [h]
 simp [hx]
theorem Rdy.tmps (C:Ctx P call N ops base tmf Hf vf dops){i:Nat}{d:DOp}(R:Rdy ops dops L i d){t:Nat}(ht:t∈looks d):tmS dops vf L (tmf 0) dops.length t=tmf i t:=by
 have hi:=bm R.get
 rw [C.tmf_eq i (by omega)]
 have e1:tmS dops vf L (tmf 0) dops.length t=tmS dops vf L (tmf 0) i t:=by
  have:=fb (ops:=dops) (vf:=vf) (L:=L) (tm:=tmf 0) (x:=t) i (dops.length-i) (fun k o h1 h2 hk hd=>by
   by_cases e:k=i
   ·rw [e];exact R.no
   ·rcases C.static i k d o (by omega) R.get hk with hs|⟨hs,_⟩
    ·cases hL:L k with
     | false=>rfl
     | true=>exact absurd hs (R.desc k (by omega) hL)
    ·rw [clash_right hd ht] at hs;cases hs)
  rwa [Nat.add_sub_cancel' (by omega)] at this
 rw [e1]
 refine dW i fun k o hk ho hd=>?_
 rcases C.static k i o d hk ho R.get with hs|⟨hs,_⟩
 ·exact R.anc k hs
 ·rw [fC hd (.inl ht)] at hs;cases hs
theorem Rdy.put (C:Ctx P call N ops base tmf Hf vf dops){i:Nat}{d:DOp}(R:Rdy ops dops L i d):tmS dops vf (more L i) (tmf 0) dops.length=Ab.put (tmS dops vf L (tmf 0) dops.length) d.dst (vf i):=by
 have hi:=bm R.get
 funext t
 by_cases hd:d.dst=some t
 ·rw [gM hd]
  have e1:=fb (ops:=dops) (vf:=vf) (L:=more L i) (tm:=tmf 0) (x:=t) (i+1) (dops.length-(i+1)) (fun k o h1 h2 hk hdk=>by
   rw [bX L (show k≠i by omega)]
   rcases C.static i k d o (by omega) R.get hk with hs|⟨hs,_⟩
   ·cases hL:L k with
    | false=>rfl
    | true=>exact absurd hs (R.desc k (by omega) hL)
   ·rw [fC hd (.inr hdk)] at hs;cases hs)
  rw [Nat.add_sub_cancel' (by omega)] at e1
  rw [e1]
  simp only [tmS,R.get,bV,if_true]
  exact gM hd
 ·rw [gN hd]
  refine dW _ fun k o hk ho hdk=>?_
  refine bX L fun e=>?_
  subst e
  rw [R.get] at ho;cases ho
  exact hd hdk
theorem Rdy.ev (C:Ctx P call N ops base tmf Hf vf dops){i:Nat}{d:DOp}(R:Rdy ops dops L i d):∀x∈opTmps d.op,ev (tmf i) x=ev (tmS dops vf L (tmf 0) dops.length) x:=by
 intro x hx
 cases x with
 | tmp t=>
   have:t∈looks d:=by
    unfold looks
    rw [List.mem_append]
    left
    rw [List.mem_filterMap]
    exact⟨.tmp t,hx,rfl⟩
   exact(R.tmps C this).symm
 | _=>rfl
theorem Rdy.want (C:Ctx P call N ops base tmf Hf vf dops){i:Nat}{d:DOp}(R:Rdy ops dops L i d):Ab.want (tmS dops vf L (tmf 0) dops.length) d.guard=Ab.want (tmf i) d.guard:=by
 cases hg:d.guard with
 | none=>rfl
 | some g=>
   obtain⟨t,b⟩:=g
   have:t∈looks d:=by unfold looks;rw [hg];simp
   simp only [Ab.want,R.tmps C this]
theorem At.loud (C:Ctx P call N ops base tmf Hf vf dops)(A:At P call N ops base tmf Hf vf dops ι0 w0 H0 L p h ι a w){i:Nat}{d:DOp}(R:Rdy ops dops L i d)(hk:kindOf d.op= .loud):
 p≤i∧(∀(k:Nat) d',p≤k→k<i→dops[k]? =some d'→kindOf d'.op≠ .loud)∧(Hf i).length=h.length∧
 (∀b:Nat,(Hf i)[b]? =if base≤b∧i≤b-base∧b-base<dops.length∧L (b-base)=true then some Blk.dead else h[b]?):=by
 have hi:=bm R.get
 have hpi:p≤i:=by
  rcases Nat.lt_or_ge i p with q|q
  ·have:=(A.louds i d R.get hk).2 q
   rw [R.no] at this;cases this
  ·exact q
 have hno:∀(k:Nat) d',p≤k→k<i→dops[k]? =some d'→kindOf d'.op≠ .loud:=by
  intro k d' h1 h2 hd' hl
  rcases C.static k i d' d h2 hd' R.get with hs|⟨_,hs,_⟩
  ·have:=(A.louds k d' hd' hl).1 (R.anc k hs)
   omega
  ·exact hs ⟨hl,hk⟩
 refine⟨hpi,hno,by rw [A.hlen];exact C.calm_len i hpi (by omega) hno,fun b=>?_⟩
 rw [C.calm i hpi (by omega) hno b,A.heap b]
 by_cases hs:base≤b∧b-base<dops.length
 ·obtain⟨k,rfl⟩:∃k,b=base+k:=⟨b-base,by omega⟩
  rw [Nat.add_sub_cancel_left] at*
  by_cases h1:k<i
  ·rw [if_neg (show ¬(base≤base+k∧i≤k∧k<dops.length∧L k=true) by omega)]
   by_cases h2:p≤k
   ·rw [if_pos ⟨by omega,h2,h1⟩]
    by_cases hL:L k=true
    ·rw [if_pos ⟨by omega,h2,hs.2,hL⟩]
    ·rw [if_neg (fun q=>hL q.2.2.2)]
     obtain⟨d',hd'⟩:=C.some_ hs.2
     have hnew:kindOf d'.op≠ .new:=by
      intro hn
      rcases C.static k i d' d h1 hd' R.get with q|⟨_,_,q⟩
      ·exact hL (R.anc k q)
      ·exact q ⟨hn,hk⟩
     rw [(C.heap_step hd').2.2 (hno k d' h2 h1 hd') hnew,C.free hs.2 k (Nat.le_refl _),C.free hs.2 p h2]
   ·rw [if_neg (by omega),if_neg (by omega)]
  ·rw [if_neg (by omega)]
   by_cases hL:L k=true
   ·rw [if_pos ⟨by omega,by omega,hs.2,hL⟩,C.free hs.2 p (by omega)]
   ·rw [if_neg (fun q=>hL q.2.2.2),if_neg (fun q=>hL q.2.2.2)]
 ·rw [if_neg (by omega),if_neg (by omega),if_neg (by omega)]
end
end Go.Ab
namespace Go.Ab
open Go
section
variable {P : Program} {call : CallF} {N : Nat} {ops : Array Oper} {base : Nat} {tmf : Nat → Tm} {Hf : Nat → Hp} {vf : Nat → Value} {dops : List DOp}
 {ι0:Emb} {w0:World} {H0:Hp} {L:Nat→Bool} {p:Nat} {h:Hp} {ι:Emb} {a:Act} {w:World}
theorem Ctx.oper (C:Ctx P call N ops base tmf Hf vf dops){i:Nat}(hi:i<dops.length):∃o,ops.toList[i]? =some o:=by
 rw [C.hm] at hi
 exact⟨ops[i],by simp [hi]⟩
theorem dC {as:List (List Nat)}{i j:Nat}(h:i≠j)(h1:j∉as.getD i [])(h2:i∉as.getD j []):unordered as i j=true:=by
 unfold unordered
 have e1:(as.getD i []).contains j=false:=by rw [←Bool.not_eq_true];intro q;exact h1 (List.contains_iff_mem.1 q)
 have e2:(as.getD j []).contains i=false:=by rw [←Bool.not_eq_true];intro q;exact h2 (List.contains_iff_mem.1 q)
 rw [e1,e2]
 simp [h]
theorem At.last' (A:At P call N ops base tmf Hf vf dops ι0 w0 H0 L p h ι a w)(i:Nat):p=0∨∃d,dops[p-1]? =some d∧kindOf d.op= .loud∧more L i (p-1)=true∧0<p:=by
 rcases A.last with q|⟨d,h1,h2,h3,h4⟩
 ·exact .inl q
 ·exact .inr ⟨d,h1,h2,by simp [more,h3],h4⟩
theorem At.louds' (A:At P call N ops base tmf Hf vf dops ι0 w0 H0 L p h ι a w){i:Nat}{d:DOp}(hd:dops[i]? =some d)(hk:kindOf d.op≠ .loud):
 ∀(k:Nat) d',dops[k]? =some d'→kindOf d'.op= .loud→(more L i k=true↔k<p):=by
 intro k d' hd' hl
 have:k≠i:=fun e=>by subst e;rw [hd] at hd';cases hd';exact hk hl
 rw [bX L this]
 exact A.louds k d' hd' hl
theorem At.heap' (C:Ctx P call N ops base tmf Hf vf dops)(A:At P call N ops base tmf Hf vf dops ι0 w0 H0 L p h ι a w){i:Nat}{d:DOp}(R:Rdy ops dops L i d)
 (hstay:p≤i→(Hf (i+1))[base+i]? =some Blk.dead):
 ∀b:Nat,h[b]? =if base≤b∧p≤b-base∧b-base<dops.length∧more L i (b-base)=true then(Hf (b-base+1))[b]? else(Hf p)[b]? :=by
 intro b
 rw [A.heap b]
 by_cases hb:b=base+i
 ·subst hb
  rw [Nat.add_sub_cancel_left,R.no,bV]
  rw [if_neg (by simp)]
  by_cases hp:p≤i
  ·rw [if_pos ⟨by omega,hp,bm R.get,rfl⟩,hstay hp,C.free (bm R.get) p hp]
  ·rw [if_neg (by omega)]
 ·by_cases hbb:base≤b
  ·rw [bX L (show b-base≠i by omega)]
  ·rw [if_neg (by omega),if_neg (by omega)]
theorem At.quiet (C:Ctx P call N ops base tmf Hf vf dops)(A:At P call N ops base tmf Hf vf dops ι0 w0 H0 L p h ι a w){i:Nat}{d:DOp}(R:Rdy ops dops L i d)(hk:kindOf d.op≠ .loud)
 (hstay:p≤i→(Hf (i+1))[base+i]? =some Blk.dead) {v':Value} {ι':Emb} {w':World} (hd:∀t,d.dst=some t→t<N) (hv:VR ι' (vf i) v') (hs:Sim ι' h w') (hf:Fr ι h w ι' h w'):
 ∃p' h' ι',At P call N ops base tmf Hf vf dops ι0 w0 H0 (more L i) p' h' ι' (a.put d.dst v') w':=
 ⟨p,h,ι',A.next A.ple (A.louds' R.get hk) (A.last' i) A.hlen (A.heap' C R hstay) hs (by rw [R.put C];exact(A.tmps.mono hf.emb).put hd hv)
   (fun k hk' hL=>by
     have:k≠i:=fun e=>by subst e;rw [bV] at hL;cases hL
     rw [bX L this] at hL
     rw [hf.old _ (A.room C hk')]
     exact A.none_ k hk' hL)
   hf.emb (fun b hb=>by have hi:=bm R.get;have:=A.room C (k:=0) (by omega);exact hf.old b (by omega)) hf.os hf.tape hf.output hf.size hf.keep hf.own⟩
theorem gV {d:DOp}{s:St}{H:Hp}(hw:Ab.want s.1 d.guard=true)(h:again d s H=true){v:Value}{H':Hp}(hv:aop d.op s.1 s.2=some (v,H')):∃H'',aop d.op s.1 H=some (v,H''):=by
 unfold again at h
 rw [if_pos hw,hv] at h
 cases hq:aop d.op s.1 H with
 | none=>rw [hq] at h;cases h
 | some q=>
   rw [hq] at h
   have:=vsame_eq h
   subst this
   exact⟨q.2,rfl⟩
theorem At.read (C:Ctx P call N ops base tmf Hf vf dops)(A:At P call N ops base tmf Hf vf dops ι0 w0 H0 L p h ι a w){i:Nat}{d:DOp}(R:Rdy ops dops L i d)(hk:kindOf d.op= .read)
 (hw:Ab.want (tmf i) d.guard=true) (hs:aop d.op (tmf i) (Hf i)=some (vf i,Hf (i+1))) (hr:rdOk base dops.length d (tmf i)=true):aop d.op (tmf i) h=some (vf i,h):=by
 have hi:=bm R.get
 obtain⟨_,hsame⟩:=cU hk hs
 by_cases hun:∃(l:Nat) (dl:DOp),dops[l]? =some dl∧kindOf dl.op= .loud∧unordered (ancs ops.toList) i l=true
 ·
  obtain⟨l0,dl0,hl0,hk0,hu0⟩:=hun
  have hslots:d.slots= []:=by
   cases hsl:d.slots with
   | nil=>rfl
   | cons k r=>
     have:=(C.slots i d R.get hk k (by rw [hsl];simp)).2 l0 dl0 hl0 hk0
     rw [hu0] at this;cases this
  have hold:∀b,rblk d.op (tmf i)=some b→b<base∨base+dops.length≤b:=by
   intro b hb
   unfold rdOk at hr
   rw [hb,hslots] at hr
   simpa using hr
  have hheap:∀b,rblk d.op (tmf i)=some b→h[b]? =(Hf p)[b]? :=fun b hb=>by
   rw [A.heap b,if_neg]
   have:=hold b hb
   omega
  rcases Nat.lt_or_ge i p with hip|hpi
  ·
   rcases A.last with q|⟨dl,h1,h2,h3,h4⟩
   ·omega
   ·have hne:p-1≠i:=fun e=>by rw [e,R.get] at h1;cases h1;rw [hk] at h2;cases h2
    have hu:unordered (ancs ops.toList) i (p-1)=true:=by
     have n1:p-1∉(ancs ops.toList).getD i []:=fun q=>by
      obtain⟨o,ho⟩:=C.oper (i:=i) (by omega)
      have:=eu C.edges i o ho _ q
      omega
     have n2:=R.desc (p-1) (by have:=A.ple;omega) h3
     exact dC (fun e=>hne e.symm) n1 n2
    have hag:=(C.pairs i (p-1) d dl R.get hk h1 h2 hu).2
    rw [show p-1+1=p by omega] at hag
    obtain⟨H'',hq⟩:=gV hw hag hs
    obtain⟨_,hsame2⟩:=cU hk hq
    exact hsame2 h hheap
  ·by_cases hno:∀(k:Nat) d',p≤k→k<i→dops[k]? =some d'→kindOf d'.op≠ .loud
   ·refine hsame h fun b hb=>?_
    rw [hheap b hb,C.calm i hpi (by omega) hno b,if_neg]
    have:=hold b hb
    omega
   ·
    have hex:∃(l:Nat) (dl:DOp),p≤l∧l<i∧dops[l]? =some dl∧kindOf dl.op= .loud∧∀(k:Nat) d',p≤k→k<l→dops[k]? =some d'→kindOf d'.op≠ .loud:=by
     have hfind:∀n,p+n≤i→(∃(k:Nat) (d':DOp),p≤k∧k<p+n∧dops[k]? =some d'∧kindOf d'.op= .loud)→
      ∃(l:Nat) (dl:DOp),p≤l∧l<i∧dops[l]? =some dl∧kindOf dl.op= .loud∧∀(k:Nat) d',p≤k→k<l→dops[k]? =some d'→kindOf d'.op≠ .loud:=by
      intro n
      induction n with
      | zero=>rintro _ ⟨k,d',h1,h2,_⟩;omega
      | succ n ih=>
        intro hn hex
        by_cases hprev:∃(k:Nat) (d':DOp),p≤k∧k<p+n∧dops[k]? =some d'∧kindOf d'.op= .loud
        ·exact ih (by omega) hprev
        ·obtain⟨k,d',h1,h2,h3,h4⟩:=hex
         have hkn:k=p+n:=by
          rcases Nat.lt_or_ge k (p+n) with q|q
          ·exact absurd ⟨k,d',h1,q,h3,h4⟩ hprev
          ·omega
         subst hkn
         exact⟨p+n,d',h1,by omega,h3,h4,fun k' d'' g1 g2 g3 g4=>hprev ⟨k',d'',g1,g2,g3,g4⟩⟩
     refine hfind (i-p) (by omega) ?_
     refine Classical.byContradiction fun hnex=>hno fun k d' h1 h2 h3 h4=>hnex ⟨k,d',h1,by omega,h3,h4⟩
    obtain⟨l,dl,hpl,hli,hdl,hkl,hfirst⟩:=hex
    have hLl:L l≠true:=fun q=>by have:=(A.louds l dl hdl hkl).1 q;omega
    have hu:unordered (ancs ops.toList) i l=true:=by
     have n1:l∉(ancs ops.toList).getD i []:=fun q=>hLl (R.anc l q)
     have n2:i∉(ancs ops.toList).getD l []:=fun q=>by
      obtain⟨o,ho⟩:=C.oper (i:=l) (by omega)
      have:=eu C.edges l o ho _ q
      omega
     exact dC (by omega) n1 n2
    have hag:=(C.pairs i l d dl R.get hk hdl hkl hu).1
    obtain⟨H'',hq⟩:=gV hw hag hs
    obtain⟨_,hsame2⟩:=cU hk hq
    refine hsame2 h fun b hb=>?_
    rw [hheap b hb]
    rw [C.calm l hpl (by omega) hfirst b,if_neg]
    have:=hold b hb
    omega
 ·
  have hord:∀(l:Nat) dl,dops[l]? =some dl→kindOf dl.op= .loud→l≠i→l∈(ancs ops.toList).getD i []∨i∈(ancs ops.toList).getD l []:=by
   intro l dl hdl hkl hne
   refine Classical.byContradiction fun hn=>hun ⟨l,dl,hdl,hkl,?_⟩
   simp only [not_or] at hn
   exact dC (fun e=>hne e.symm) hn.1 hn.2
  have hpi:p≤i:=by
   rcases A.last with q|⟨dl,h1,h2,h3,h4⟩
   ·omega
   ·have hne:p-1≠i:=fun e=>by rw [e,R.get] at h1;cases h1;rw [hk] at h2;cases h2
    rcases hord (p-1) dl h1 h2 hne with q|q
    ·obtain⟨o,ho⟩:=C.oper (i:=i) (by omega)
     have:=eu C.edges i o ho _ q
     omega
    ·exact absurd q (R.desc (p-1) (by have:=A.ple;omega) h3)
  have hno:∀(k:Nat) d',p≤k→k<i→dops[k]? =some d'→kindOf d'.op≠ .loud:=by
   intro k d' h1 h2 h3 h4
   rcases hord k d' h3 h4 (by omega) with q|q
   ·have:=(A.louds k d' h3 h4).1 (R.anc k q);omega
   ·obtain⟨o,ho⟩:=C.oper (i:=k) (by omega)
    have:=eu C.edges k o ho _ q
    omega
  refine hsame h fun b hb=>?_
  rw [A.heap b,C.calm i hpi (by omega) hno b]
  by_cases hs':base≤b∧b-base<dops.length
  ·have hsl:b-base∈d.slots:=by
    unfold rdOk at hr
    rw [hb] at hr
    simp at hr
    rcases hr with q|q
    ·omega
    ·exact q
   have hanc:=(C.slots i d R.get hk _ hsl).1
   have hLb:=R.anc _ hanc
   have hlt:b-base<i:=by
    obtain⟨o,ho⟩:=C.oper (i:=i) (by omega)
    exact eu C.edges i o ho _ hanc
   by_cases hp:p≤b-base
   ·rw [if_pos ⟨hs'.1,hp,hs'.2,hLb⟩,if_pos ⟨hs'.1,hp,hlt⟩]
   ·rw [if_neg (by omega),if_neg (by omega)]
  ·rw [if_neg (by omega),if_neg (by omega)]
theorem At.step (C:Ctx P call N ops base tmf Hf vf dops)(A:At P call N ops base tmf Hf vf dops ι0 w0 H0 L p h ι a w){Q:Exit→Act→World→Prop}{i:Nat}{o:Oper}{sl:List Nat}(ho:ops[i]? =some o)
 (R:Rdy ops dops L i (cOper P N ops sl o)):
 wpOp P ops Q i (fun a' w'=>∃p' h' ι',At P call N ops base tmf Hf vf dops ι0 w0 H0 (more L i) p' h' ι' a' w') a w:=by
 have hi:=bm R.get
 have hstep:=(C.step i _ R.get).1
 rcases fA (P:=P) (N:=N) (o:=o) (ops:=ops) (sl:=sl) with⟨g,hg,hco,hd⟩|⟨h1,h2⟩
 rotate_left
 ·exfalso
  unfold dstep at hstep
  rw [h1,h2] at hstep
  simp [Ab.want,kindOf,arun,aop] at hstep
 have hdop:(cOper P N ops sl o).op=cOp P o:=by rw [hco]
 have hddst:(cOper P N ops sl o).dst=o.dst:=by rw [hco]
 have hdg:(cOper P N ops sl o).guard=g:=by rw [hco]
 generalize cOper P N ops sl o=d at*
 have hd':∀t,d.dst=some t→t<N:=by rw [hddst];exact hd
 have hwant:Region.wanted o (yielded ops a.tmps)=Ab.want (tmf i) d.guard:=by
  rw [←R.want C,hdg]
  exact(jo A.tmps hg).symm
 unfold wpOp
 simp only [ho,hwant]
 unfold dstep at hstep
 simp only at hstep
 by_cases hw:Ab.want (tmf i) d.guard=true
 ·rw [if_pos hw] at hstep ⊢
  left
  cases hk:kindOf d.op with
  | pure=>
    rw [hk] at hstep
    simp only at hstep
    obtain⟨e,hind⟩:=eY hk hstep
    have h1:arun call (cOp P o) (tmS dops vf L (tmf 0) dops.length) h=some (vf i,h):=by
     rw [←hdop,←dZ (R.ev C) h]
     have:=hind h
     cases hq:d.op<;>rw [hq] at hk this<;>first|exact this|(cases hk;done)
    refine fq C.ok A.sim A.tmps h1 fun v' ι' w' hv hs hf=>?_
    rw [←hddst]
    exact A.quiet C R (by rw [hk];simp) (fun hp=>by rw [e];exact C.free hi i (Nat.le_refl _)) hd' hv hs hf
  | read=>
    rw [hk] at hstep
    simp only at hstep
    split at hstep
    ·rename_i hr
     have h0:=A.read C R hk hw hstep hr
     have h1:arun call (cOp P o) (tmS dops vf L (tmf 0) dops.length) h=some (vf i,h):=by
      rw [←hdop,←dZ (R.ev C) h]
      cases hq:d.op<;>rw [hq] at hk h0<;>first|exact h0|(cases hk;done)
     refine fq C.ok A.sim A.tmps h1 fun v' ι' w' hv hs hf=>?_
     rw [←hddst]
     exact A.quiet C R (by rw [hk];simp) (fun hp=>by rw [(cU hk hstep).1];exact C.free hi i (Nat.le_refl _)) hd' hv hs hf
    ·cases hstep
  | new=>
    rw [hk] at hstep
    simp only at hstep
    obtain⟨q,hq,e⟩:=Option.map_eq_some_iff.1 hstep
    have e1:=(Prod.mk.inj e).1
    have e2:=(Prod.mk.inj e).2
    have hq':anew (cOp P o) (tmS dops vf L (tmf 0) dops.length) (base+i)=some (vf i,q.2):=by
     rw [←hdop,←fx (R.ev C),hq,←e1]
    obtain⟨sz,vs,c,t,v',hblk,hrun,hc,hl,hv⟩:=op_new (w:=w) A.tmps hq'
    have hpi:p≤i:=by
     rcases A.last with z|⟨dl,g1,g2,g3,g4⟩
     ·omega
     ·rcases Nat.lt_or_ge i p with hlt|hge
      ·have hne:p-1≠i:=fun e=>by rw [e,R.get] at g1;cases g1;rw [hk] at g2;cases g2
       rcases C.static i (p-1) d dl (by omega) R.get g1 with z|⟨_,_,z⟩
       ·exact absurd z (R.desc (p-1) (by have:=A.ple;omega) g3)
       ·exact absurd ⟨hk,g2⟩ z
      ·exact hge
    have hdead:h[base+i]? =some Blk.dead:=by
     rw [A.heap,Nat.add_sub_cancel_left,R.no,if_neg (by simp)]
     exact C.free hi p hpi
    obtain⟨hsim,hown⟩:=A.sim.newSlot hdead (A.none_ i hi R.no) sz vs c t hc hl
    unfold Oper.wp
    rw [hrun,Oper.upon_value,←hddst]
    have hle:ι.le (ι.put (base+i) ⟨⟨w.heap.size,0,none⟩,c.size,sz⟩):=Emb.put_le (A.none_ i hi R.no)
    refine⟨p,_,_,A.next A.ple (A.louds' R.get (by rw [hk];simp)) (A.last' i) (by simpa using A.hlen) (fun b=>?_) hsim
     (by rw [R.put C];exact(A.tmps.mono hle).put hd' (hv _ (Emb.put_same ..))) (fun k hk' hL=>?_) hle
     (fun b hb=>Emb.put_other ι _ (by omega)) rfl rfl rfl (by simp) (fun g hg _=>Go.RowKit.Below.heap_alloc w _ _ hg) hown⟩
    ·by_cases hb:b=base+i
     ·subst hb
      rw [Nat.add_sub_cancel_left,bV,if_pos ⟨by omega,hpi,hi,rfl⟩,←e2,←hblk]
      have h1:base+i<h.length:=bm hdead
      have h2:base+i<(Hf i).length:=bm (C.free hi i (Nat.le_refl _))
      simp [h1,h2]
     ·rw [List.getElem?_set_ne (fun e=>hb e.symm)]
      rw [A.heap b]
      by_cases hbb:base≤b
      ·rw [bX L (show b-base≠i by omega)]
      ·rw [if_neg (by omega),if_neg (by omega)]
    ·have hne:k≠i:=fun e=>by subst e;rw [bV] at hL;cases hL
     rw [bX L hne] at hL
     rw [Emb.put_other ι _ (by omega)]
     exact A.none_ k hk' hL
  | loud=>
    rw [hk] at hstep
    simp only at hstep
    obtain⟨hpi,hno,hlen,hheap⟩:=A.loud C R hk
    have hfg:∀b:Nat,(Hf i)[b]? =h[b]? ∨(Hf i)[b]? =some Blk.dead:=by
     intro b
     rw [hheap b]
     split
     ·exact .inr rfl
     ·exact .inl rfl
    have hsimi:=A.sim.forget hlen hfg
    have h1:arun call (cOp P o) (tmS dops vf L (tmf 0) dops.length) (Hf i)=some (vf i,Hf (i+1)):=by
     rw [←hdop,←dZ (R.ev C)];exact hstep
    refine fq C.ok hsimi A.tmps h1 fun v' ι' w' hv hs hf=>?_
    rw [←hddst]
    obtain⟨h',hlen',hget'⟩:∃h':Hp,h'.length=(Hf (i+1)).length∧∀b:Nat,h'[b]? =if base≤b∧i+1≤b-base∧b-base<dops.length∧more L i (b-base)=true then(Hf (b-base+1))[b]? else(Hf (i+1))[b]? :=by
     have hsome:∀b,b<(Hf (i+1)).length→∃x,(if base≤b∧i+1≤b-base∧b-base<dops.length∧more L i (b-base)=true then(Hf (b-base+1))[b]? else(Hf (i+1))[b]?)=some x:=by
      intro b hb
      split
      ·rename_i hc
       have:=C.heap_mono (b-base+1-(i+1)) (i+1) (by omega)
       rw [show i+1+(b-base+1-(i+1))=b-base+1 by omega] at this
       exact⟨_,List.getElem?_eq_getElem (Nat.lt_of_lt_of_le hb this)⟩
      ·exact⟨_,List.getElem?_eq_getElem hb⟩
     refine⟨(List.range (Hf (i+1)).length).map fun b=>((if base≤b∧i+1≤b-base∧b-base<dops.length∧more L i (b-base)=true then(Hf (b-base+1))[b]? else(Hf (i+1))[b]?)).getD .dead,by simp,fun b=>?_⟩
     by_cases hb:b<(Hf (i+1)).length
     ·obtain⟨x,hx⟩:=hsome b hb
      simp only [List.getElem?_map,List.getElem?_range hb,Option.map_some,hx,Option.getD_some]
     ·rw [List.getElem?_eq_none (by simpa using hb)]
      rw [if_neg]
      ·rw [List.getElem?_eq_none (by omega)]
      ·intro hc
       have h0:=bm (C.dead0 (b-base) hc.2.2.1)
       have:=C.heap_mono (i+1) 0 (by omega)
       rw [Nat.zero_add] at this
       omega
    have hre:∀b:Nat,h'[b]? =(Hf (i+1))[b]? ∨((Hf (i+1))[b]? =some Blk.dead∧(Hf i)[b]? =some Blk.dead∧h'[b]? =h[b]?):=by
     intro b
     rw [hget' b]
     split
     ·rename_i hc
      right
      have hk':b-base≠i:=by omega
      have hL:L (b-base)=true:=by rw [←bX L hk'];exact hc.2.2.2
      have hdead:(Hf i)[b]? =some Blk.dead:=by rw [hheap b,if_pos ⟨hc.1,by omega,hc.2.2.1,hL⟩]
      refine⟨hf.dead b hdead,hdead,?_⟩
      rw [A.heap b,if_pos ⟨hc.1,by omega,hc.2.2.1,hL⟩]
     ·exact .inl rfl
    obtain⟨hsim',hown'⟩:=A.sim.restore hs hf hfg hlen' hre
    refine⟨i+1,h',ι',A.next (by omega) (fun k d' hd' hl=>?_) (.inr ⟨d,by simpa using R.get,hk,by simp [bV],by omega⟩) hlen' hget' hsim'
     (by rw [R.put C];exact(A.tmps.mono hf.emb).put (by assumption) hv) (fun k hk' hL=>?_) hf.emb (fun b hb=>?_) hf.os hf.tape hf.output hf.size (fun g hg hn=>?_) hown'⟩
    ·by_cases hki:k=i
     ·subst hki;simp [bV]
     ·rw [bX L hki,A.louds k d' hd' hl]
      constructor
      ·intro q;omega
      ·intro q
       rcases Nat.lt_or_ge k p with z|z
       ·exact z
       ·exact absurd hl (hno k d' z (by omega) hd')
    ·have hne:k≠i:=fun e=>by subst e;rw [bV] at hL;cases hL
     rw [bX L hne] at hL
     rw [hf.old _ (by rw [hlen];exact A.room C hk')]
     exact A.none_ k hk' hL
    ·have:=A.room C hi
     exact hf.old b (by rw [hlen];omega)
    ·refine hf.keep g hg ?_
     rintro⟨b,K,hK,hblk,hob⟩
     refine hn ⟨b,K,hK,hblk,?_⟩
     rcases hfg b with e|e
     ·rwa [bw e] at hob
     ·rw [cq e] at hob;cases hob
 ·rw [if_neg hw] at hstep ⊢
  have e1:=(Prod.mk.inj (Option.some.inj hstep)).1
  have e2:=(Prod.mk.inj (Option.some.inj hstep)).2
  rw [←hddst]
  by_cases hk:kindOf d.op= .loud
  ·obtain⟨hpi,hno,hlen,hheap⟩:=A.loud C R hk
   refine⟨i+1,h,ι,A.next (by omega) (fun k d' hd' hl=>?_) (.inr ⟨d,by simpa using R.get,hk,by simp [bV],by omega⟩) (by rw [←e2];exact hlen.symm) (fun b=>?_) A.sim
    (by rw [R.put C];exact A.tmps.put (by assumption) (by rw [←e1];exact da ι)) (fun k hk' hL=>?_) (Emb.le.refl ι) (fun _ _=>rfl) rfl rfl rfl (Nat.le_refl _) (fun _ _ _=>rfl) (fun _ _ q=>q)⟩
   ·by_cases hki:k=i
    ·subst hki;simp [bV]
    ·rw [bX L hki,A.louds k d' hd' hl]
     constructor
     ·intro q;omega
     ·intro q
      rcases Nat.lt_or_ge k p with z|z
      ·exact z
      ·exact absurd hl (hno k d' z (by omega) hd')
   ·rw [←e2]
    by_cases hc:base≤b∧i+1≤b-base∧b-base<dops.length∧more L i (b-base)=true
    ·rw [if_pos hc]
     have hk':b-base≠i:=by omega
     have hL:L (b-base)=true:=by rw [←bX L hk'];exact hc.2.2.2
     rw [A.heap b,if_pos ⟨hc.1,by omega,hc.2.2.1,hL⟩]
    ·rw [if_neg hc,hheap b]
     rw [if_neg]
     intro q
     have hk':b-base≠i:=fun e=>by rw [e,R.no] at q;exact absurd q.2.2.2 (by simp)
     exact hc ⟨q.1,by omega,q.2.2.1,by rw [bX L hk'];exact q.2.2.2⟩
   ·have hne:k≠i:=fun e=>by subst e;rw [bV] at hL;cases hL
    rw [bX L hne] at hL
    exact A.none_ k hk' hL
  ·exact A.quiet C R hk (fun hp=>by rw [←e2];exact C.free hi i (Nat.le_refl _)) (by assumption) (by rw [←e1];exact da ι) A.sim (Fr.refl ..)
end
end Go.Ab
namespace Go.Ab
open Go
section
variable {P : Program} {call : CallF} {N : Nat} {ops : Array Oper} {base : Nat} {tmf : Nat → Tm} {Hf : Nat → Hp} {vf : Nat → Value} {dops : List DOp}
 {ι0:Emb} {w0:World} {H0:Hp}
def cnt:List Bool→Nat
 | []=>0
 | b::l=>(if b then 0 else 1)+cnt l
theorem iL:∀(l:List Bool) (i:Nat),l[i]? =some false→cnt (l.set i true)+1=cnt l
 | [],i,h=>by simp at h
 | b::l,0,h=>by simp at h;subst h;simp [cnt];omega
 | b::l,i+1,h=>by
   have:=iL l i (by simpa using h)
   simp only [List.set_cons_succ,cnt]
   omega
theorem hD:∀(l:List Bool),cnt l=0→∀(i:Nat) b,l[i]? =some b→b=true
 | [],_,i,b,h=>by simp at h
 | c::l,hc,i,b,h=>by
   simp only [cnt] at hc
   cases i with
   | zero=>simp at h;subst h;cases c<;>simp at hc ⊢
   | succ i=>exact hD l (by omega) i b (by simpa using h)
theorem cnt_rep (m:Nat):cnt (List.replicate m false)=m:=by
 induction m with
 | zero=>rfl
 | succ m ih=>simp only [List.replicate_succ,cnt,ih];simp;omega
theorem all_orders (C:Ctx P call N ops base tmf Hf vf dops){Q:Exit→Act→World→Prop}
 (hq:∀(L:Nat→Bool) p h ι a w,(∀k,k<dops.length→L k=true)→At P call N ops base tmf Hf vf dops ι0 w0 H0 L p h ι a w→Q .normal a w):
 ∀(fuel:Nat) (listed:Array Bool) (a:Act) (w:World),listed.size=dops.length→cnt listed.toList≤fuel→
  (∀(k:Nat) o,listed.getD k false=true→ops.toList[k]? =some o→∀e∈o.after.toList,Region.binds .any e=true→listed.getD e.on false=true)→
  (∃p h ι,At P call N ops base tmf Hf vf dops ι0 w0 H0 (fun k=>listed.getD k false) p h ι a w)→wpAny P .any ops Q fuel listed a w:=by
 have hready:∀(listed:Array Bool),listed.size=dops.length→Region.ready .any ops listed= []→∀k,k<dops.length→listed.getD k false=true:=by
  intro listed hsz hr k
  induction k using Nat.strongRecOn with
  | _ k ih=>
    intro hk
    cases hL:listed.getD k false with
    | true=>rfl
    | false=>
      obtain⟨o,ho⟩:=C.oper hk
      have:k∈Region.ready .any ops listed:=by
       unfold Region.ready
       rw [List.mem_filter]
       refine⟨by simp;have:=C.hm;omega,?_⟩
       have ho':ops[k]? =some o:=by simpa using ho
       have h1:listed.getD k true=false:=by
        rw [Array.getD_eq_getD_getElem?] at hL ⊢
        have:k<listed.size:=by omega
        simpa [this] using hL
       rw [ho',h1]
       simp only [Bool.not_false,Bool.true_and,Option.map_some,Option.getD_some]
       rw [Array.all_eq_true']
       intro e he
       cases hb:Region.binds .any e with
       | false=>rfl
       | true=>
         simp only [Bool.not_true,Bool.false_or]
         have hlt:=edges_lt C.edges ho (by simpa using he) hb
         exact ih e.on hlt (by omega)
      rw [hr] at this;cases this
 intro fuel
 induction fuel with
 | zero=>
   intro listed a w hsz hc hcl hat
   obtain⟨p,h,ι,A⟩:=hat
   have hall:∀k,k<dops.length→listed.getD k false=true:=by
    intro k hk
    have hlt:k<listed.size:=by omega
    have:=hD listed.toList (by omega) k listed[k] (by simp [hlt])
    rw [Array.getD_eq_getD_getElem?]
    simp [hlt,this]
   refine⟨?_,hq _ p h ι a w hall A⟩
   unfold Region.ready
   rw [List.filter_eq_nil_iff]
   intro k hk
   have hk':k<dops.length:=by have:=C.hm;simp at hk;omega
   have:=hall k hk'
   rw [Array.getD_eq_getD_getElem?] at this ⊢
   have hlt:k<listed.size:=by omega
   simp [hlt] at this
   simp [hlt,this]
 | succ fuel ih=>
   intro listed a w hsz hc hcl hat
   obtain⟨p,h,ι,A⟩:=hat
   refine⟨fun hr=>hq _ p h ι a w (hready listed hsz hr) A,fun i hi=>?_⟩
   obtain⟨hjun,o,hoj,hall⟩:=mem_ready.1 hi
   have hil:i<dops.length:=by
    have:=(Array.getElem?_eq_some_iff.1 hoj).1
    have:=C.hm;omega
   have hilt:i<listed.size:=by omega
   have hno:listed.getD i false=false:=by
    rw [Array.getD_eq_getD_getElem?] at hjun ⊢
    simpa [hilt] using hjun
   have hcl':∀(k:Nat) o,(fun k=>listed.getD k false) k=true→ops.toList[k]? =some o→∀e∈o.after.toList,Region.binds .any e=true→(fun k=>listed.getD k false) e.on=true:=hcl
   have hall':∀e∈o.after.toList,Region.binds .any e=true→(fun k=>listed.getD k false) e.on=true:=fun e he hb=>hall e (by simpa using he) hb
   obtain⟨sl,hget⟩:=C.get i o hoj
   have R:Rdy ops dops (fun k=>listed.getD k false) i (cOper P N ops sl o):=by
    refine⟨hget,hno,fun j hj=>fg C.edges hcl' i o (by simpa using hoj) hall' j hj,fun k hk hL hin=>?_⟩
    obtain⟨ok,hok⟩:=C.oper hk
    have:listed.getD i false=true:=fg C.edges hcl' k ok hok (hcl k ok hL hok) i hin
    rw [hno] at this;cases this
   refine wpOp_mono (fun a' w' h'=>?_) (A.step C (Q:=Q) hoj R)
   obtain⟨p',h',ι',A'⟩:=h'
   have hmore:(fun k=>(listed.setIfInBounds i true).getD k false)=more (fun k=>listed.getD k false) i:=by
    funext k
    by_cases e:k=i
    ·subst e
     rw [bV,Array.getD_eq_getD_getElem?]
     simp [hilt]
    ·rw [bX _ e,Array.getD_eq_getD_getElem?,Array.getD_eq_getD_getElem?,Array.getElem?_setIfInBounds_ne (fun q=>e q.symm)]
   refine ih _ a' w' (by simpa using hsz) ?_ ?_ ⟨p',h',ι',by rw [hmore];exact A'⟩
   ·have:=iL listed.toList i (by
     rw [Array.getD_eq_getD_getElem?] at hno
     simpa [hilt] using hno)
    rw [Array.toList_setIfInBounds]
    omega
   ·intro k ok hk hok e he hb
    have hk':more (fun k=>listed.getD k false) i k=true:=by rw [←hmore];exact hk
    show(fun k=>(listed.setIfInBounds i true).getD k false) e.on=true
    rw [hmore]
    by_cases hki:k=i
    ·subst hki
     have:ok=o:=by
      have:ops.toList[k]? =some o:=by simpa using hoj
      rw [this] at hok;cases hok;rfl
     subst this
     have:=hall' e he hb
     unfold more
     rw [this];simp
    ·rw [bX _ hki] at hk'
     have:=hcl k ok hk' hok e he hb
     show(e.on==i ||listed.getD e.on false)=true
     rw [this];simp
theorem gb (tm:Tm):∀n,tmS dops vf (fun _=>false) tm n=tm
 | 0=>rfl
 | n+1=>by
   simp only [tmS]
   split
   ·simp [gb tm n]
   ·exact gb tm n
theorem Ctx.all (C:Ctx P call N ops base tmf Hf vf dops){Q:Exit→Act→World→Prop}{H:Hp}{ι:Emb}{w:World}{a:Act}
 (hbase:base=H.length) (hH0:Hf 0=H++List.replicate dops.length .dead) (s:Sim ι H w) (ht:TR ι N (tmf 0) a)
 (hq:∀ι' a' w',TR ι' N (tmf dops.length) a'→Sim ι' (Hf dops.length) w'→Fr ι H w ι' (Hf dops.length) w'→Q .normal a' w'):wpAny P .any ops Q ops.size (Array.replicate ops.size false) a w.drew:=by
 have hsz:ops.size=dops.length:=C.hm.symm
 refine all_orders (ι0:=ι) (w0:=w) (H0:=H) C (fun L p h ι' a' w' hL A=>?_) ops.size _ a w.drew (by simp [hsz]) (by simp [cnt_rep]) (fun k o hk=>?_) ⟨0,H++List.replicate dops.length .dead,ι,?_⟩
 ·
  have hno:∀(k:Nat) d,p≤k→k<dops.length→dops[k]? =some d→kindOf d.op≠ .loud:=by
   intro k d h1 h2 hd hl
   have:=(A.louds k d hd hl).1 (hL k h2)
   omega
  have hh:h=Hf dops.length:=by
   apply List.ext_getElem?
   intro b
   rw [A.heap b,C.calm dops.length A.ple (Nat.le_refl _) hno b]
   by_cases hc:base≤b∧p≤b-base∧b-base<dops.length
   ·rw [if_pos ⟨hc.1,hc.2.1,hc.2.2,hL _ hc.2.2⟩,if_pos hc]
   ·rw [if_neg (fun q=>hc ⟨q.1,q.2.1,q.2.2.1⟩),if_neg hc]
  have htm:tmS dops vf L (tmf 0) dops.length=tmf dops.length:=by
   rw [C.tmf_eq dops.length (Nat.le_refl _)]
   funext t
   exact dW _ fun k o hk _ _=>hL k hk
  have htr:=A.tmps
  rw [htm] at htr
  have hsim:=A.sim
  rw [hh] at hsim
  have hlen:=C.heap_mono dops.length 0 (by omega)
  rw [Nat.zero_add,hH0] at hlen
  refine hq ι' a' w' htr hsim ⟨A.os,A.tape,A.output,A.size,A.emb,by simp at hlen;omega,fun b hb=>A.old b (by omega),fun b hb=>?_,fun b z vs hb=>?_,A.kept,fun g hg hw=>A.own g hg (by rw [hh];exact hw)⟩
  ·have hlt:=bm hb
   refine C.dead b (by omega) dops.length (Nat.le_refl _) ?_
   rw [hH0,List.getElem?_append_left hlt];exact hb
  ·have:=C.ro b z vs dops.length (Nat.le_refl _) hb
   rw [hH0] at this
   by_cases hlt:b<H.length
   ·rwa [List.getElem?_append_left hlt] at this
   ·rw [List.getElem?_append_right (by omega),List.getElem?_replicate] at this
    split at this<;>cases this
 ·rw [Array.getD_eq_getD_getElem?,Array.getElem?_replicate] at hk
  split at hk<;>simp at hk
 ·have hfalse:(fun k=>(Array.replicate ops.size false).getD k false)=fun _=>false:=by
   funext k
   rw [Array.getD_eq_getD_getElem?,Array.getElem?_replicate]
   split<;>rfl
  rw [hfalse]
  refine⟨Nat.zero_le _,fun k d _ _=>by simp,.inl rfl,by rw [hH0],fun b=>?_,(s.room dops.length).drew,?_,fun k hk _=>?_,Emb.le.refl ι,fun _ _=>rfl,rfl,rfl,rfl,Nat.le_refl _,fun _ _ _=>rfl,fun g hg hw=>?_⟩
  ·rw [if_neg (by simp),hH0]
  ·rw [gb];exact ht
  ·cases hι:ι (base+k) with
   | none=>rfl
   | some K=>have:=s.dom _ K hι;omega
  ·obtain⟨b,K,hK,hb,ho⟩:=hw
   refine⟨b,K,hK,hb,?_⟩
   have hlt:=s.dom b K hK
   rwa [bw (List.getElem?_append_left hlt)] at ho
end
theorem eE {call:CallF}(hk:KeepC call){base m:Nat}:∀(ops:List DOp) (i:Nat) (s:St) (tr:List St),dtrace call base m ops i s=some tr→∃s',tr.getLast? =some s'∧s.2.length≤s'.2.length∧
 (∀b:Nat,b<base→s.2[b]? =some Blk.dead→s'.2[b]? =some Blk.dead)∧∀(b z:Nat) (vs:List Value),s'.2[b]? =some (Blk.ro z vs)→s.2[b]? =some (Blk.ro z vs)
 | [],i,s,tr,h=>by simp [dtrace] at h;subst h;exact⟨s,rfl,Nat.le_refl _,fun _ _ h=>h,fun _ _ _ h=>h⟩
 | o::ops,i,s,tr,h=>by
   simp only [dtrace] at h
   split at h
   ·rename_i v H' hd
    obtain⟨r,hr,rfl⟩:=Option.map_eq_some_iff.1 h
    obtain⟨s',h1,h2,h3,h4⟩:=eE hk ops (i+1) _ r hr
    have hstep:s.2.length≤H'.length∧(∀b:Nat,b<base→s.2[b]? =some Blk.dead→H'[b]? =some Blk.dead)∧∀(b z:Nat) (vs:List Value),H'[b]? =some (Blk.ro z vs)→s.2[b]? =some (Blk.ro z vs):=by
     unfold dstep at hd
     split at hd
     ·cases hq:kindOf o.op with
      | pure=>
        rw [hq] at hd
        rw [(eY hq hd).1]
        exact⟨Nat.le_refl _,fun _ _ h=>h,fun _ _ _ h=>h⟩
      | read=>
        rw [hq] at hd
        simp only at hd
        split at hd
        ·rw [(cU hq hd).1]
         exact⟨Nat.le_refl _,fun _ _ h=>h,fun _ _ _ h=>h⟩
        ·cases hd
      | new=>
        rw [hq] at hd
        simp only at hd
        obtain⟨p,hp,e⟩:=Option.map_eq_some_iff.1 hd
        cases e
        refine⟨by simp,fun b hb h=>by rw [List.getElem?_set_ne (by omega)];exact h,fun b z vs h=>?_⟩
        by_cases e:base+i=b
        ·subst e
         rw [List.getElem?_set] at h
         simp at h
         exact absurd h.2 (dT (v:=p.1) (b:=p.2) hp z vs)
        ·rwa [List.getElem?_set_ne e] at h
      | loud=>
        rw [hq] at hd
        obtain⟨k1,k2,k3⟩:=dr hk hd
        exact⟨k1,fun b _ h=>k2 b h,k3⟩
     ·cases hd
      exact⟨Nat.le_refl _,fun _ _ h=>h,fun _ _ _ h=>h⟩
    have hne:r≠ []:=by intro e;rw [e] at h1;simp at h1
    refine⟨s',by rw [List.getLast?_cons,h1];rfl,Nat.le_trans hstep.1 h2,fun b hb h=>h3 b hb (hstep.2.1 b hb h),fun b z vs h=>hstep.2.2 b z vs (h4 b z vs h)⟩
   ·cases h
theorem adraw_keeps {call:CallF}(hk:KeepC call){ops:List DOp}{pairs:List (Nat×Nat)}{s s':St}(h:adraw call ops pairs s=some s'):Keeps s.2 s'.2:=by
 unfold adraw at h
 split at h
 ·rename_i tr htr
  split at h
  ·obtain⟨s1,h1,h2,h3,h4⟩:=eE hk _ _ _ _ htr
   rw [h1] at h;cases h
   refine⟨by simp at h2;omega,fun b hb=>?_,fun b z vs hb=>?_⟩
   ·have hlt:=bm hb
    exact h3 b hlt (by rw [List.getElem?_append_left hlt];exact hb)
   ·have:=h4 b z vs hb
    simp only at this
    by_cases hlt:b<s.2.length
    ·rwa [List.getElem?_append_left hlt] at this
    ·rw [List.getElem?_append_right (by omega),List.getElem?_replicate] at this
     split at this<;>cases this
  ·cases h
 ·cases h
theorem ff {call:CallF}(hk:KeepC call){fuel:Nat}:∀(c:ACode) (s s':St) (x:AX),acode call fuel c s=some (x,s')→Keeps s.2 s'.2:=by
 intro c
 induction c with
 | skip=>intro s s' x h;simp only [acode] at h;cases h;exact Keeps.refl _
 | exit id=>intro s s' x h;simp only [acode] at h;cases h;exact Keeps.refl _
 | ret=>intro s s' x h;simp only [acode] at h;cases h;exact Keeps.refl _
 | bad=>intro s s' x h;simp only [acode] at h;cases h
 | mapr m=>
   intro s s' x h
   simp only [acode] at h
   obtain⟨q,hq,e⟩:=Option.map_eq_some_iff.1 h
   cases e
   unfold amapr at hq
   split at hq
   ·split at hq
    ·split at hq
     ·obtain⟨t,_,rfl⟩:=Option.map_eq_some_iff.1 hq
      exact Keeps.append _ _ (by simp)
     ·cases hq
    ·cases hq
   ·cases hq
 | region ops=>
   intro s s' x h
   simp only [acode] at h
   obtain⟨q,hq,e⟩:=Option.map_eq_some_iff.1 h
   cases e
   exact dj hk ops s _ hq
 | draw ops pairs=>
   intro s s' x h
   simp only [acode] at h
   obtain⟨q,hq,e⟩:=Option.map_eq_some_iff.1 h
   cases e
   exact adraw_keeps hk hq
 | seq a b iha ihb=>
   intro s s' x h
   simp only [acode] at h
   split at h
   ·rename_i s1 h1
    exact(iha _ _ _ h1).trans (ihb _ _ _ h)
   ·exact iha _ _ _ h
 | cond c a b iha ihb=>
   intro s s' x h
   simp only [acode] at h
   split at h
   ·split at h
    ·exact iha _ _ _ h
    ·exact ihb _ _ _ h
   ·cases h
 | block id c ih=>
   intro s s' x h
   simp only [acode] at h
   split at h
   ·rename_i j s1 h1
    split at h<;>(cases h;exact ih _ _ _ h1)
   ·exact ih _ _ _ h
 | loop c ih=>
   intro s s' x h
   simp only [acode] at h
   have:∀n (s s':St) (x:AX),iter (acode call fuel c) n s=some (x,s')→Keeps s.2 s'.2:=by
    intro n
    induction n with
    | zero=>intro s s' x h;simp [iter] at h
    | succ n ihn=>
      intro s s' x h
      simp only [iter] at h
      split at h
      ·rename_i s1 h1
       exact(ih _ _ _ h1).trans (ihn _ _ _ h)
      ·exact ih _ _ _ h
   exact this fuel s s' x h
theorem de (T:FuncId→Option AFunc):∀n,KeepC (callF T n)
 | 0=>fun f args H r H' h=>by simp [callF] at h
 | n+1=>fun f args H r H' h=>by
   simp only [callF] at h
   split at h
   ·split at h
    ·rename_i s hs
     obtain⟨v,_,e⟩:=Option.map_eq_some_iff.1 h
     cases e
     exact ff (de T n) _ _ _ _ hs
    ·rename_i s hs
     obtain⟨v,_,e⟩:=Option.map_eq_some_iff.1 h
     cases e
     exact ff (de T n) _ _ _ _ hs
    ·cases h
   ·cases h
section
variable {P : Program} {ops : Array Oper} {Q : Exit → Act → World → Prop} {σ : List Nat}
structure Perm (σ:List Nat)(ops:Array Oper):Prop where
 len:σ.length=ops.size
 p1:∀i,i<ops.size→σ.idxOf i<ops.size
 p2:∀i,i<ops.size→σ.getD (σ.idxOf i) ops.size=i
 s1:∀i,i<ops.size→σ.getD i ops.size<ops.size
 s2:∀i,i<ops.size→σ.idxOf (σ.getD i ops.size)=i
 g:∀(i:Nat) o g,ops[i]? =some o→o.guard=some g→g.1<ops.size
 e:∀(i:Nat) o,ops[i]? =some o→∀e∈o.after,Region.binds .any e=true→e.on<ops.size
theorem perm_of (h:permOk σ ops=true):Perm σ ops:=by
 unfold permOk at h
 simp only [Bool.and_eq_true,decide_eq_true_eq,List.all_eq_true,List.mem_range] at h
 obtain⟨⟨h1,h2⟩,h3⟩:=h
 have mem:∀(i:Nat) o,ops[i]? =some o→o∈ops.toList:=fun i o ho=>Array.mem_toList_iff.2 (Array.mem_of_getElem? ho)
 refine⟨h1,fun i hi=>(h2 i hi).1.1.1,fun i hi=>(h2 i hi).1.1.2,fun i hi=>(h2 i hi).1.2,fun i hi=>(h2 i hi).2,fun i o g ho hg=>?_,fun i o ho e he hb=>?_⟩
 ·have:=(h3 o (mem i o ho)).1
  rw [hg] at this
  simpa using this
 ·exact(h3 o (mem i o ho)).2 e (List.mem_filter.2 ⟨Array.mem_toList_iff.2 he,hb⟩)
theorem gz (h:Perm σ ops):(permOps σ ops).size=ops.size:=by simp [permOps,h.len]
theorem perm_get (h:Perm σ ops){i:Nat}{o:Oper}(ho:ops[i]? =some o):(permOps σ ops)[σ.idxOf i]? =some (renum (fun j=>σ.idxOf j) o):=by
 have hi:=(Array.getElem?_eq_some_iff.1 ho).1
 have h1:=h.p1 i hi
 have h3:σ[σ.idxOf i]? =some i:=by
  have hl:σ.idxOf i<σ.length:=by rw [h.len];exact h1
  rw [List.getElem?_eq_getElem hl]
  simp
 simp only [permOps,List.getElem?_toArray,List.getElem?_map,h3,Option.map_some]
 rw [Array.getD_eq_getD_getElem?,ho];rfl
theorem eX (h:Perm σ ops){i:Nat}(hi:i<ops.size):∃o,ops[i]? =some o∧(permOps σ ops)[σ.idxOf i]? =some (renum (fun j=>σ.idxOf j) o):=
 ⟨ops[i],by simp [hi],perm_get h (by simp [hi])⟩
theorem perm_yielded (h:Perm σ ops)(tmps:Array Value){j:Nat}(hj:j<ops.size):yielded (permOps σ ops) tmps (σ.idxOf j)=yielded ops tmps j:=by
 obtain⟨o,h1,h2⟩:=eX h hj
 unfold yielded
 rw [h1,h2];rfl
theorem perm_wpOp (h:Perm σ ops){i:Nat}{K:Act→World→Prop}{a:Act}{w:World}(hi:i<ops.size)(hw:wpOp P (permOps σ ops) Q (σ.idxOf i) K a w):wpOp P ops Q i K a w:=by
 obtain⟨o,h1,h2⟩:=eX h hi
 unfold wpOp at hw ⊢
 rw [h2] at hw
 rw [h1]
 dsimp only at hw ⊢
 have hwant:Region.wanted (renum (fun j=>σ.idxOf j) o) (yielded (permOps σ ops) a.tmps)=Region.wanted o (yielded ops a.tmps):=by
  unfold Region.wanted
  cases hg:o.guard with
  | none=>simp [renum,hg]
  | some g=>
    have:=h.g i o g h1 hg
    simp only [renum,hg,Option.map_some]
    rw [perm_yielded h a.tmps this]
 rw [hwant] at hw
 exact hw
theorem eg (h:Perm σ ops){listed listed':Array Bool}(hl:listed.size=ops.size)(hl':listed'.size=ops.size)(hq:∀i,i<ops.size→listed'.getD (σ.idxOf i) false=listed.getD i false){i:Nat}(hi:i<ops.size):
 σ.idxOf i∈Region.ready .any (permOps σ ops) listed'↔i∈Region.ready .any ops listed:=by
 have tf:∀(l:Array Bool) (k:Nat),k<l.size→(l.getD k true=l.getD k false):=fun l k hk=>by
  simp [Array.getD_eq_getD_getElem?,hk]
 obtain⟨o,h1,h2⟩:=eX h hi
 rw [mem_ready,mem_ready,tf listed i (by omega),tf listed' _ (by rw [hl'];exact h.p1 i hi),hq i hi]
 refine and_congr_right fun _=>⟨fun⟨o',ho',q⟩=>⟨o,h1,fun e he hb=>?_⟩,fun⟨o',ho',q⟩=>⟨_,h2,fun e he hb=>?_⟩⟩
 ·rw [h2] at ho';cases ho'
  have hlt:=h.e i o h1 e he hb
  have:=q {e with on:=σ.idxOf e.on} (by simp only [renum,Array.mem_map];exact⟨e,he,rfl⟩) hb
  rw [hq _ hlt] at this
  exact this
 ·rw [h1] at ho';cases ho'
  simp only [renum,Array.mem_map] at he
  obtain⟨e0,he0,rfl⟩:=he
  have hb0:Region.binds .any e0=true:=by simpa [Region.binds] using hb
  have hlt:=h.e i o h1 e0 he0 hb0
  have:=q e0 he0 hb0
  rw [←hq _ hlt] at this
  exact this
theorem fY {listed:Array Bool}{i:Nat}{ops:Array Oper}(hi:i∈Region.ready .any ops listed):i<ops.size:=by
 obtain⟨_,o,ho,_⟩:=mem_ready.1 hi
 exact(Array.getElem?_eq_some_iff.1 ho).1
theorem wpAny_perm (h:Perm σ ops):∀(fuel:Nat) (listed listed':Array Bool) (a:Act) (w:World),listed.size=ops.size→listed'.size=ops.size→
 (∀i,i<ops.size→listed'.getD (σ.idxOf i) false=listed.getD i false)→wpAny P .any (permOps σ ops) Q fuel listed' a w→wpAny P .any ops Q fuel listed a w:=by
 intro fuel
 induction fuel with
 | zero=>
   intro listed listed' a w hl hl' hq hw
   refine⟨List.eq_nil_iff_forall_not_mem.2 fun i hi=>?_,hw.2⟩
   have:=(eg h hl hl' hq (fY hi)).2 hi
   rw [hw.1] at this;cases this
 | succ fuel ih=>
   intro listed listed' a w hl hl' hq hw
   refine⟨fun hr=>hw.1 (List.eq_nil_iff_forall_not_mem.2 fun i' hi'=>?_),fun i hi=>?_⟩
   ·have hlt:i'<ops.size:=by have:=fY hi';rwa [gz h] at this
    have e:σ.idxOf (σ.getD i' ops.size)=i':=h.s2 i' hlt
    have:=(eg h hl hl' hq (h.s1 i' hlt)).1 (by rw [e];exact hi')
    rw [hr] at this;cases this
   ·have hlt:=fY hi
    have hi':=(eg h hl hl' hq hlt).2 hi
    refine perm_wpOp h hlt (wpOp_mono (fun a' w' k=>?_) (hw.2 _ hi'))
    refine ih _ _ a' w' (by simpa using hl) (by simpa using hl') (fun j hj=>?_) k
    have inj:σ.idxOf i=σ.idxOf j→i=j:=fun e=>by
     have h1:=h.p2 i hlt
     rw [e,h.p2 j hj] at h1;exact h1.symm
    rw [Array.getD_eq_getD_getElem?,Array.getD_eq_getD_getElem?]
    by_cases e:i=j
    ·subst e
     have:=h.p1 i hlt
     simp [Array.getElem?_setIfInBounds,hl,hl',hlt,this]
    ·rw [Array.getElem?_setIfInBounds_ne e,Array.getElem?_setIfInBounds_ne (fun q=>e (inj q)),←Array.getD_eq_getD_getElem?,←Array.getD_eq_getD_getElem?]
     exact hq j hj
end
theorem gm {P:Program}{call:CallF}{fuel N:Nat}(hc:CallOk P call)(hk:KeepC call){ops:Array Oper}{Q:Exit→Act→World→Prop}{tm tm':Tm}{H H':Hp}{x:AX}
 {ι:Emb} {w:World} {a:Act} {c:ACode} (hc1:cDraw1 P N ops=some c) (h:acode call fuel c (tm,H)=some (x,(tm',H'))) (s:Sim ι H w) (ht:TR ι N tm a)
 (hq:x= .normal→∀ι' a' w',TR ι' N tm' a'→Sim ι' H' w'→Fr ι H w ι' H' w'→Q .normal a' w'):x= .normal∧wpAny P .any ops Q ops.size (Array.replicate ops.size false) a w.drew:=by
 unfold cDraw1 at hc1
 generalize hd0:ops.toList.map (cOper P N ops [])=d0 at hc1
 generalize has:ancs ops.toList=as at hc1
 simp only at hc1
 generalize hpr:dPairs d0 as=pairs at hc1
 generalize hdo:dOps d0 as=dops at hc1
 split at hc1
 case isFalse=>cases hc1
 rename_i hcond
 cases hc1
 rw [Bool.and_eq_true] at hcond
 obtain⟨hedges,hstat⟩:=hcond
 simp only [acode] at h
 obtain⟨q,hdr,e⟩:=Option.map_eq_some_iff.1 h
 cases e
 refine⟨rfl,?_⟩
 unfold adraw at hdr
 simp only at hdr
 split at hdr
 case h_2=>cases hdr
 rename_i tr htr
 split at hdr
 case isFalse=>cases hdr
 rename_i hpairs
 obtain⟨hl1,hl2,hl3⟩:=fk _ _ _ _ htr
 have hd0len:d0.length=ops.size:=by rw [←hd0];simp
 have hdlen:dops.length=d0.length:=by rw [←hdo];simp [dOps]
 have hdget:∀(i:Nat) o,d0[i]? =some o→dops[i]? =some (withSlots d0 as o i):=by
  intro i o ho
  rw [←hdo]
  simp only [dOps,List.getElem?_map,List.getElem?_zipIdx,ho,Option.map_some,Nat.zero_add]
 have hdback:∀(i:Nat) d,dops[i]? =some d→∃o,d0[i]? =some o∧d.op=o.op∧(kindOf o.op= .read→d.slots=if((louds d0).any (unordered as i)) then [] else(as.getD i []).filter (isNew d0)):=by
  intro i d hd
  have hi:=bm hd
  rw [hdlen] at hi
  have ho:d0[i]? =some d0[i]:=by simp [hi]
  rw [hdget i _ ho] at hd
  cases hd
  refine⟨_,ho,?_,fun hr=>?_⟩
  ·unfold withSlots;split<;>rfl
  ·unfold withSlots;rw [if_pos hr]
 have hloud:∀(l:Nat) d,dops[l]? =some d→kindOf d.op= .loud→l∈louds d0:=by
  intro l d hd hl
  obtain⟨o,ho,e,_⟩:=hdback l d hd
  unfold louds
  rw [List.mem_filter]
  refine⟨by have:=bm ho;simpa using this,?_⟩
  rw [ho]
  rw [e] at hl
  simp [hl]
 let tmf:Nat→Tm:=fun j=>((tr[j]?).getD (tm,H)).1
 let Hf:Nat→Hp:=fun j=>((tr[j]?).getD (tm,H)).2
 let vf:Nat→Value:=fun j=>match dops[j]? with
  | some o=>match dstep call H.length dops.length j o (tmf j,Hf j) with
    | some (v,_)=>v
    | none=>undef
  | none=>undef
 have hstate:∀(j:Nat) sj,tr[j]? =some sj→(tmf j,Hf j)=sj:=by
  intro j sj hj
  show(((tr[j]?).getD (tm,H)).1,((tr[j]?).getD (tm,H)).2)=sj
  rw [hj];rfl
 have C:Ctx P call N ops H.length tmf Hf vf dops:=by
  refine⟨by rw [hdlen,hd0len],hk,hc,hedges,fun i o ho=>?_,fun i d hd hr k hks=>?_,fun i l d dl hd hr hdl hl hu=>?_,fun i j x y hij hx hy=>?_,fun j o ho=>?_,fun k hk=>?_⟩
  ·have h0:d0[i]? =some (cOper P N ops [] o):=by rw [←hd0];simp [ho]
   have:=hdget i _ h0
   unfold withSlots at this
   split at this
   ·refine⟨if(louds d0).any (unordered as i) then [] else(as.getD i []).filter (isNew d0),this.trans ?_⟩
    congr 1
    unfold cOper
    split<;>(try split)<;>rfl
   ·exact⟨[],this⟩
  ·obtain⟨o,ho,e,hsl⟩:=hdback i d hd
   rw [e] at hr
   rw [hsl hr] at hks
   split at hks
   ·cases hks
   ·rename_i hany
    rw [List.mem_filter] at hks
    rw [has]
    refine⟨hks.1,fun l dl hdl hl=>?_⟩
    have hm:=hloud l dl hdl hl
    cases hu:unordered as i l with
    | false=>rfl
    | true=>exact absurd (List.any_eq_true.2 ⟨l,hm,hu⟩) hany
  ·obtain⟨o,ho,e,_⟩:=hdback i d hd
   have hmem:(i,l)∈pairs:=by
    rw [←hpr,dPairs,List.mem_flatMap]
    refine⟨i,by have:=bm ho;simpa using this,?_⟩
    rw [ho]
    simp only
    rw [e] at hr
    rw [if_pos hr,List.mem_map]
    refine⟨l,List.mem_filter.2 ⟨hloud l dl hdl hl,by rw [←has];exact hu⟩,rfl⟩
   have hch:=List.all_eq_true.1 hpairs _ hmem
   unfold dcheck at hch
   simp only [hd] at hch
   split at hch
   ·rename_i o' s1 s2 s3 g1 g2 g3 g4
    cases g1
    rw [Bool.and_eq_true] at hch
    rw [hstate i s1 g2]
    have e2:=hstate l s2 g3
    have e3:=hstate (l+1) s3 g4
    have e2':Hf l=s2.2:=by rw [←e2]
    have e3':Hf (l+1)=s3.2:=by rw [←e3]
    rw [e2',e3']
    exact hch
   ·cases hch
  ·have hj:=bm hy
   have h1:=List.all_eq_true.1 hstat j (by simpa using hj)
   have h2:=List.all_eq_true.1 h1 i (by simpa using hij)
   rw [hx,hy] at h2
   simp only [Bool.or_eq_true] at h2
   rw [has]
   rcases h2 with h2|h2
   ·exact .inl (List.contains_iff_mem.1 h2)
   ·right
    simp only [Bool.and_eq_true,Bool.not_eq_true',Bool.and_eq_false_iff,decide_eq_false_iff_not] at h2
    refine⟨h2.1.1,fun q=>?_,fun q=>?_⟩
    ·rcases h2.1.2 with z|z
     ·exact z q.1
     ·exact z q.2
    ·rcases h2.2 with z|z
     ·exact z q.1
     ·exact z q.2
  ·obtain⟨sj,sj1,v,g1,g2,g3,g4⟩:=hl3 j o ho
   rw [Nat.zero_add] at g3
   have e1:=hstate j sj g1
   have e2:=hstate (j+1) sj1 g2
   have hv:vf j=v:=by
    show(match dops[j]? with
     | some o=>match dstep call H.length dops.length j o (tmf j,Hf j) with
       | some (v,_)=>v
       | none=>undef
     | none=>undef)=v
    rw [ho]
    simp only
    rw [e1,g3]
   rw [e1,hv]
   have e2a:tmf (j+1)=sj1.1:=by rw [←e2]
   have e2b:Hf (j+1)=sj1.2:=by rw [←e2]
   have e1a:tmf j=sj.1:=by rw [←e1]
   rw [e2a,e2b,e1a]
   exact⟨g3,g4⟩
  ·have e:=hstate 0 _ hl2
   have:Hf 0=H++List.replicate dops.length .dead:=by rw [show Hf 0=(tmf 0,Hf 0).2 from rfl,e]
   rw [this,List.getElem?_append_right (by omega),List.getElem?_replicate,if_pos (by omega)]
 have h0:=hstate 0 _ hl2
 have hm0:tmf 0=tm:=by rw [show tmf 0=(tmf 0,Hf 0).1 from rfl,h0]
 have hH0:Hf 0=H++List.replicate dops.length .dead:=by rw [show Hf 0=(tmf 0,Hf 0).2 from rfl,h0]
 have hlast:tr[dops.length]? =some (tm',H'):=by
  rw [List.getLast?_eq_getElem?,hl1] at hdr
  simpa using hdr
 have hend:=hstate _ _ hlast
 have hme:tmf dops.length=tm':=by rw [show tmf dops.length=(tmf dops.length,Hf dops.length).1 from rfl,hend]
 have hHe:Hf dops.length=H':=by rw [show Hf dops.length=(tmf dops.length,Hf dops.length).2 from rfl,hend]
 refine C.all rfl hH0 s (by rw [hm0];exact ht) ?_
 rw [hme,hHe]
 exact hq rfl
theorem iR {P:Program}{call:CallF}{fuel N:Nat}(hm:P.follows .mixedOrders=true)(hc:CallOk P call)(hk:KeepC call){ops:Array Oper}{id:Nat}{Q:Exit→Act→World→Prop}{tm tm':Tm}{H H':Hp}{x:AX}
 {ι:Emb} {w:World} {a:Act} (h:acode call fuel (cDraw P N ops) (tm,H)=some (x,(tm',H'))) (s:Sim ι H w) (ht:TR ι N tm a)
 (hq:x= .normal→∀ι' a' w',TR ι' N tm' a'→Sim ι' H' w'→Fr ι H w ι' H' w'→Q .normal a' w'):x= .normal∧(Code.region id ops true).wp P Q a w:=by
 unfold cDraw at h
 split at h
 ·rename_i c hc1
  obtain⟨h1,h2⟩:=gm hc hk hc1 h s ht hq
  exact⟨h1,wp_region_any hm h2⟩
 ·split at h
  ·rename_i hp
   have hP:=perm_of hp
   cases hc1:cDraw1 P N (permOps (lateOrder P ops) ops) with
   | none=>rw [hc1] at h;simp [acode] at h
   | some c=>
     rw [hc1,Option.getD_some] at h
     obtain⟨h1,h2⟩:=gm hc hk hc1 h s ht hq
     rw [gz hP] at h2
     refine⟨h1,wp_region_any hm (wpAny_perm hP ops.size _ _ a _ (by simp) (by simp) (fun i hi=>?_) h2)⟩
     have:=hP.p1 i hi
     simp [Array.getD_eq_getD_getElem?,hi,this]
  ·simp [acode] at h
end Go.Ab
